/- Part 6 of the proof: contracts of functions of the program. Conditions: none. -/
import Derived.Test.YtddaepdfmhkaeaaGreatDoorProg
import Derived.Test.YtddaepdfmhkaeaaGreatDoorG02
import Derived.Test.YtddaepdfmhkaeaaGreatDoorG03
import Derived.Test.YtddaepdfmhkaeaaGreatDoorG04
set_option linter.all false
set_option maxRecDepth 100000
set_option maxHeartbeats 1000000
namespace Go.Proofs.Tst
open Go Fw Tryz
theorem l6In_c (w0 : World) (n : Int) (lo : Int) (hi : Int)  :
  Calls Tryz.prog 101 #[.int .i64 n, .int .i64 lo, .int .i64 hi] w0 (Rets w0 (.bool (Sp.l6In n lo hi))) := by
 have H := Hp.init0 w0
 refine calls_of_W (l := [.int .i64 n, .int .i64 lo, .int .i64 hi]) func101 Z ntmps101 Z (q2 (aG Z (q1 (mV Z (mV Z (o_geq Z Z Z (mV Z ?_)))))))
 refine R_case (t := 10) Z ?_ ?_
 ·intro hc1
  try simp only [nrm] at hc1
  refine gR Z (mV Z (gR Z (mV Z (gR Z (o_leq Z Z Z (o_pick_t Z Z Z (aG Z (q3 (W_ret (rt1 results101 Z ?_))))))))))
  exact H.rets (congrArg Value.bool (by unfold Sp.l6In; rw [Bool.eq_iff_iff]; simp; omega))
 intro hc1'
 try simp only [nrm] at hc1'
 refine rP Z (rP Z (rP Z (o_pick_f Z Z Z (aG Z (q3 (W_ret (rt1 results101 Z ?_)))))))
 exact H.rets (congrArg Value.bool (by unfold Sp.l6In; rw [Bool.eq_iff_iff]; simp; omega))
theorem l1Word_c (w0 : World) (s : Bs) (hs : s.length ≤ 16777216)  :
  Calls Tryz.prog 45 #[str s] w0 (Rets w0 (.bool (Sp.l1Word s))) := by
 have H := Hp.init0 w0
 refine calls_of_W (l := [str s]) func45 Z ntmps45 Z (q2 (aG Z (q3 (W_seq (q2 (aG Z (q3 (W_block ?_))))))))
 refine W_lp (hf := (Sub.cons (t := 0) Z Sub.nil)) (J := fun M w m => ∃ (k : Nat) (G : PH), M = [(3, .int .i64 (k : Int))] ∧ PLe (fun _ => none) G ∧ Hp w0 (fun _ => none) [] w G [] ∧ (k ≤ s.length ∧ (s.take k).all Sp.low = true) ∧ m = (s.length - k)) (h0 := ⟨0, _, Z, PLe.refl _, H, ?inv, Z⟩) (round := ?round)
 case inv => exact ⟨by omega, by simp⟩
 case round =>
  rintro _ w1 _ ⟨k, G1, rfl, hle1, H, hinv1, rfl⟩
  obtain ⟨hk, hall⟩ := hinv1
  refine W_seq (q2 (mV Z (mV Z (o_len_str underlying9 Z Z (o_lss Z Z Z (q3 ?_))))))
  refine W_cond Z ?_ ?_
  ·intro hc2
   try simp only [nrm] at hc2
   refine W_skip (N_K (W_seq (W_block (q2 (mV Z (mV Z (o_index_str underlying9 Z Z Z Z oM ?_))))))); intro ch3 hch3; have hlt3 := ch3.toNat_lt
   refine o_lss Z Z Z (mV Z ?_)
   refine R_case (t := 14) Z ?_ ?_
   ·intro hc4
    try simp only [nrm] at hc4
    refine rP Z (rP Z (rP Z (rP Z (o_pick_t Z Z Z (q3 (W_true Z (q2 (aG Z (q3 (W_ret (N_B_ret (N_K_ret (N_LP_ret (N_B_ret (N_K_ret ?_)))))))))))))))
    refine rt1 results45 Z ?_
    exact H.rets (congrArg Value.bool (by rw [Sp.l1Word, Sp.all_false hch3 (by simp [Sp.low]; omega)]; rfl))
   intro hc4'
   try simp only [nrm] at hc4'
   refine gR Z (mV Z (gR Z (mV Z (gR Z (o_index_str underlying9 Z Z Z Z oM ?_))))); intro ch5 hch5; have hlt5 := ch5.toNat_lt
   obtain rfl : ch5 = ch3 := Option.some.inj (hch5.symm.trans hch3)
   refine gR Z (o_gtr Z Z Z (o_pick_f Z Z Z (q3 ?_)))
   refine W_cond Z ?_ ?_
   ·intro hc6
    try simp only [nrm] at hc6
    refine q2 (aG Z (q3 (W_ret (N_B_ret (N_K_ret (N_LP_ret (N_B_ret (N_K_ret (rt1 results45 Z ?_)))))))))
    exact H.rets (congrArg Value.bool (by rw [Sp.l1Word, Sp.all_false hch5 (by simp [Sp.low]; omega)]; rfl))
   intro hc6'
   try simp only [nrm] at hc6'
   refine W_skip (N_B (N_K (W_region (mV Z (o_add Z Z Z oO (aG Z (R_nil ?_)))))))
   refine N_lp (hJ := ⟨k + 1, _, Z, hle1, H, ?inv, Z⟩) (hm := ?hm)
   case hm => omega
   case inv => exact ⟨by omega, Sp.all_take hall hch5 (by simp [Sp.low]; omega)⟩
  intro hc2'
  try simp only [nrm] at hc2'
  refine W_exit (N_K_exit (N_LP_exit (N_B_same (N_K (q2 (mV Z (o_len_str underlying9 Z Z (o_call call101 Z Z (l6In_c _ _ _ _ ) ?_))))))))
  rintro _ w8 ⟨rfl, ew8⟩; have H := H.step ew8; refine ⟨_, rfl, ?_⟩
  refine aG Z (q3 (W_ret (rt1 results45 Z ?_)))
  obtain rfl : k = s.length := by omega
  rw [List.take_length] at hall
  exact H.rets (congrArg Value.bool (by simp only [Sp.l1Word, Sp.l6In, hall]; rw [Bool.eq_iff_iff]; simp; omega))
theorem l1Cut_c (w0 : World) (G0 : PH) (hG : PSub G0 w0) (s : Bs) (hs : s.length ≤ 16777216)  :
  Calls Tryz.prog 207 #[str s] w0 (RetP w0 G0 (fun G v => RdT G v (Sp.cut s))) := by
 have H := Hp.init hG
 refine calls_of_W (l := [str s]) func207 Z ntmps207 Z (q2 (aG Z (q1 (o_buildSlice H underlying69 sizeOf9 (fun w => ⟨_, zeroValue9 w, Z⟩) Z Z Z Z Z Z Z ?_)))); intro b1 w1 hb1 H
 have H := H.blkAcc 1 (k := 0) (n := 0) rfl rfl (by decide)
 refine aG Z (q1 (aG Z (q3 (W_seq (q2 (aG Z (q3 (W_block ?_))))))))
 refine W_lp (hf := (Sub.cons (t := 0) Z (Sub.cons (t := 2) Z Sub.nil))) (J := fun M w m => ∃ (v : Value) (n : Nat) (cs : List Value) (xs : List (Bs)) (f k : Nat) (G : PH), M = [(4, .int .i64 (f : Int)), (5, .int .i64 (k : Int)), (3, v)] ∧ PLe G0 G ∧ Hp w0 G0 [] w G [acc 9 1 v n cs] ∧ (Chk strE 1 G cs xs ∧ n = xs.length ∧ f ≤ k ∧ k ≤ s.length ∧ xs.length ≤ k ∧ xs ++ Sp.cut (s.drop f) = Sp.cut s ∧ ∀ j, f ≤ j → j < k → s[j]? ≠ some 47) ∧ m = (s.length - k)) (h0 := ⟨_, _, _, [], 0, 0, _, Z, PLe.refl _, H, ?inv, Z⟩) (round := ?round)
 case inv => exact ⟨(Chk.nil (E := strE) (sz := 1) (G := G0)),  by first | rfl | simp | (simp; omega) | omega, (by simp)⟩
 case round =>
  rintro _ w2 _ ⟨v, n, cs, xs, f, k, G2, rfl, hle2, H, hinv2, rfl⟩
  obtain ⟨hchk2_0, hn2_0, hinv2⟩ := hinv2
  obtain ⟨av2_0, cv2_0, rfl⟩ := H.accShape (k := 0) rfl
  obtain ⟨h1, h2, h3, h4, h5⟩ := hinv2
  refine W_seq (q2 (mV Z (mV Z (o_len_str underlying9 Z Z (o_lss Z Z Z (q3 ?_))))))
  refine W_cond Z ?_ ?_
  ·intro hc3
   try simp only [nrm] at hc3
   refine W_skip (N_K (W_seq (W_block (q2 (mV Z (mV Z (o_index_str underlying9 Z Z Z Z oM ?_))))))); intro ch4 hch4; have hlt4 := ch4.toNat_lt
   refine o_eql Z Z Z (q3 ?_)
   refine W_cond Z ?_ ?_
   ·intro hc5
    try simp only [nrm] at hc5
    refine q2 (mV Z (mV Z (mV Z (mV Z (o_slice_str underlying9 Z Z Z Z oM oM oM (o_buildSlice H underlying69 sizeOf9 (fun w => ⟨_, zeroValue9 w, Z⟩) Z Z Z Z Z Z Z ?_)))))); intro b7 w7 hb7 H
    refine o_append1 0 H (sz := 1) (bytes := 16) underlying69 typeInfo9 ⟨_, Z, Z⟩ Z Z Z Z Z Z Z Z Z Z oM Z ?_; intro v8 w8 H
    have hchk8 := hchk2_0.snoc (show strE _ ((s.drop f).take (k - f)) _ from ⟨rfl, (by (first | assumption | (refine Sp.l5Parent_lim ?_; assumption) | (simp; done) | (simp; omega) | omega))⟩) rfl
    obtain ⟨av8, cv8, rfl⟩ := H.accShape (k := 0) rfl
    refine aG Z (q3 (W_region (mV Z (o_add Z Z Z oO (aG Z (R_nil (N_B (N_K (W_region (mV Z (o_add Z Z Z oO (aG Z (R_nil ?_)))))))))))))
    refine N_lp (hJ := ⟨_, _, _, (xs ++ [((s.drop f).take (k - f))]), k + 1, k + 1, _, Z, hle2, H, ?inv, Z⟩) (hm := ?hm)
    case hm => omega
    case inv => exact ⟨hchk8, aN, (by exact ⟨by omega, by omega, by simp; omega, Sp.cut_step h4 h1 (hch4 ▸ congrArg some (Sp.is47 oM)) h5, fun j g1 g2 => by omega⟩)⟩
   intro hc5'
   try simp only [nrm] at hc5'
   refine W_skip (N_B (N_K (W_region (mV Z (o_add Z Z Z oO (aG Z (R_nil ?_)))))))
   refine N_lp (hJ := ⟨_, _, _, xs, f, k + 1, _, Z, hle2, H, ?inv, Z⟩) (hm := ?hm)
   case hm => omega
   case inv => exact ⟨hchk2_0, aN, (by exact ⟨by omega, by omega, by omega, h4, Sp.noslash_succ h5 (hch4 ▸ Sp.not47 oM)⟩)⟩
  intro hc3'
  try simp only [nrm] at hc3'
  refine W_exit (N_K_exit (N_LP_exit (N_B_same (N_K (q2 (mV Z (mV Z (mV Z (o_slice_str_from underlying9 Z Z Z oM oM (o_buildSlice H underlying69 sizeOf9 (fun w => ⟨_, zeroValue9 w, Z⟩) Z Z Z Z Z Z Z ?_)))))))))); intro b13 w13 hb13 H
  refine o_append1 0 H (sz := 1) (bytes := 16) underlying69 typeInfo9 ⟨_, Z, Z⟩ Z Z Z Z Z Z Z Z Z Z oM Z ?_; intro v14 w14 H
  have hchk14 := hchk2_0.snoc (show strE _ (s.drop f) _ from ⟨rfl, (by (first | assumption | (refine Sp.l5Parent_lim ?_; assumption) | (simp; done) | (simp; omega) | omega))⟩) rfl
  obtain ⟨av14, cv14, rfl⟩ := H.accShape (k := 0) rfl
  refine aG Z (q3 (W_ret (rt1 results207 Z ?_)))
  obtain ⟨G515, H, hsg515, hsr515⟩ := H.shut' (k := 0) rfl hchk14 aN aN
  exact H.retP (by rw [← Sp.cut_end h4 h5 oM]; exact hsr515)
theorem PathValid_c (w0 : World) (G0 : PH) (hG : PSub G0 w0) (path : Bs) (hpath : path.length ≤ 16777216)  :
  Calls Tryz.prog 183 #[str path] w0 (Rets w0 (.bool (Sp.PathValid path))) := by
 have H := Hp.init hG
 refine calls_of_W (l := [str path]) func183 Z ntmps183 Z (q2 (aG Z (q1 (mV Z (o_call call207 Z Z (l1Cut_c _ _ H.sub _ hpath ) ?_)))))
 rintro _ w1 ⟨G1, u1_0, g1, rfl, hr1_0⟩
 have H := H.grow g1
 obtain ⟨a1_0, k1_0, rfl⟩ := hr1_0.shape; have hx_hr1_0 : _ ≤ 1099511627776 := hr1_0.lim
 refine ⟨_, Z, ?_⟩
 refine aG Z (q3 (W_seq (q2 (aG Z (q3 (W_block ?_))))))
 refine W_lp (hf := (Sub.cons (t := 3) Z Sub.nil)) (J := fun M w m => ∃ (k : Nat) (G : PH), M = [(4, .int .i64 (k : Int))] ∧ PLe G1 G ∧ Hp w0 G0 [] w G [] ∧ (k ≤ (Sp.cut path).length ∧ ((Sp.cut path).take k).all Sp.l1Word = true) ∧ m = ((Sp.cut path).length - k)) (h0 := ⟨0, _, Z, PLe.refl _, H, ?inv, Z⟩) (round := ?round)
 case inv => simp
 case round =>
  rintro _ w2 _ ⟨k, G2, rfl, hle2, H, hinv2, rfl⟩
  have hr1_0 := hr1_0.up hle2
  obtain ⟨hk, hall⟩ := hinv2
  refine W_seq (q2 (mV Z (mV Z (o_len_slice underlying69 Z Z (o_lss Z Z Z (q3 ?_))))))
  refine W_cond Z ?_ ?_
  ·intro hc3
   try simp only [nrm] at hc3
   refine W_skip (N_K (W_seq (W_block (q2 (mV Z (mV Z (o_index_P k hr1_0 underlying69 sizeOf9 Z Z Z Z aN ?_))))))); intro b4 o4 z4 q4 hz4 hE4 hrow4
   obtain ⟨rfl, hi4⟩ := hE4; have hy_hi4 : _ ≤ 16777216 := hi4
   refine o_load_P H isAgg9 Z Z (hrow4 0 _ Z) (o_call call45 Z Z (l1Word_c _ _ hi4 ) ?_)
   rintro _ w5 ⟨rfl, ew5⟩; have H := H.step ew5; refine ⟨_, rfl, ?_⟩
   refine o_not Z Z (q3 ?_)
   refine W_cond Z ?_ ?_
   ·intro hc6
    try simp only [nrm] at hc6
    refine q2 (aG Z (q3 (W_ret (N_B_ret (N_K_ret (N_LP_ret (N_B_ret (N_K_ret (rt1 results183 Z ?_)))))))))
    exact H.rets (congrArg Value.bool (by rw [Sp.PathValid, Sp.all_false hz4 hc6]; rfl))
   intro hc6'
   try simp only [nrm] at hc6'
   refine W_skip (N_B (N_K (W_region (mV Z (o_add Z Z Z oO (aG Z (R_nil ?_)))))))
   refine N_lp (hJ := ⟨k + 1, _, Z, hle2, H, ?inv, Z⟩) (hm := ?hm)
   case hm => omega
   case inv => exact ⟨by omega, Sp.all_take hall hz4 hc6'⟩
  intro hc3'
  try simp only [nrm] at hc3'
  refine W_exit (N_K_exit (N_LP_exit (N_B_same (N_K (q2 (mV Z (o_len_slice underlying69 Z Z (o_leq Z Z Z (aG Z (q3 (W_ret (rt1 results183 Z ?_))))))))))))
  obtain rfl : k = (Sp.cut path).length := by omega
  rw [List.take_length] at hall
  exact H.rets (congrArg Value.bool (by simp only [Sp.PathValid, hall, Bool.true_and]; rw [Bool.eq_iff_iff]; simp; omega))
theorem l1Last_c (w0 : World) (path : Bs) (hpath : path.length ≤ 16777216)  :
  Calls Tryz.prog 208 #[str path] w0 (Rets w0 (.int .i64 (Sp.l1Last path))) := by
 have H := Hp.init0 w0
 refine calls_of_W (l := [str path]) func208 Z ntmps208 Z (q2 (aG Z (q1 (aG Z (q3 (W_seq (q2 (aG Z (q3 (W_block ?_))))))))))
 refine W_lp (hf := (Sub.cons (t := 0) Z (Sub.cons (t := 2) Z Sub.nil))) (J := fun M w m => ∃ (k : Nat) (o : Option Nat) (G : PH), M = [(3, .int .i64 (Sp.optI o)), (4, .int .i64 (k : Int))] ∧ PLe (fun _ => none) G ∧ Hp w0 (fun _ => none) [] w G [] ∧ (k ≤ path.length ∧ o = (List.range k).foldl (Sp.lastF path) none) ∧ m = (path.length - k)) (h0 := ⟨0, none, _, Z, PLe.refl _, H, ?inv, Z⟩) (round := ?round)
 case inv => exact ⟨by omega, rfl⟩
 case round =>
  rintro _ w1 _ ⟨k, o, G1, rfl, hle1, H, hinv1, rfl⟩
  obtain ⟨hk, hall⟩ := hinv1
  refine W_seq (q2 (mV Z (mV Z (o_len_str underlying9 Z Z (o_lss Z Z Z (q3 ?_))))))
  refine W_cond Z ?_ ?_
  ·intro hc2
   try simp only [nrm] at hc2
   refine W_skip (N_K (W_seq (W_block (q2 (mV Z (mV Z (o_index_str underlying9 Z Z Z Z oM ?_))))))); intro ch3 hch3; have hlt3 := ch3.toNat_lt
   refine o_eql Z Z Z (q3 ?_)
   refine W_cond Z ?_ ?_
   ·intro hc4
    try simp only [nrm] at hc4
    refine W_region (mV Z (aG Z (R_nil (N_B (N_K (W_region (mV Z (o_add Z Z Z oO (aG Z (R_nil ?_))))))))))
    refine N_lp (hJ := ⟨k + 1, some k, _, Z, hle1, H, ?inv, Z⟩) (hm := ?hm)
    case hm => omega
    case inv => exact ⟨by omega, by rw [Sp.last_succ, ← hall, Sp.lastF, hch3, if_pos (congrArg some (Sp.is47 oM))]⟩
   intro hc4'
   try simp only [nrm] at hc4'
   refine W_skip (N_B (N_K (W_region (mV Z (o_add Z Z Z oO (aG Z (R_nil ?_)))))))
   refine N_lp (hJ := ⟨k + 1, o, _, Z, hle1, H, ?inv, Z⟩) (hm := ?hm)
   case hm => omega
   case inv => exact ⟨by omega, by rw [Sp.last_succ, ← hall, Sp.lastF, hch3, if_neg (Sp.not47 oM)]⟩
  intro hc2'
  try simp only [nrm] at hc2'
  refine W_exit (N_K_exit (N_LP_exit (N_B_same (N_K (q2 (mV Z (aG Z (q3 (W_ret (rt1 results208 Z ?_))))))))))
  obtain rfl : k = path.length := by omega
  exact H.rets (congrArg (Value.int .i64) (by rw [hall]; rfl))
theorem l5Parent_c (w0 : World) (path : Bs) (hpath : path.length ≤ 16777216)  :
  Calls Tryz.prog 184 #[str path] w0 (Rets w0 (str (Sp.l5Parent path))) := by
 have hl := Sp.l1Last_le path
 have H := Hp.init0 w0
 refine calls_of_W (l := [str path]) func184 Z ntmps184 Z (q2 (aG Z (q1 (mV Z (mV Z (o_call call208 Z Z (l1Last_c _ _ hpath ) ?_))))))
 rintro _ w1 ⟨rfl, ew1⟩; have H := H.step ew1; refine ⟨_, rfl, ?_⟩
 refine o_max Z Z Z (o_slice_str_to underlying9 Z Z Z oM oM (aG Z (q3 (W_ret (rt1 results184 Z ?_)))))
 exact H.rets Z
theorem l5At_c (w0 : World) (G0 : PH) (hG : PSub G0 w0) (vlist : Value) (list : List (BItem)) (hlist : RdItems G0 vlist list) (path : Bs) (hpath : path.length ≤ 16777216)  :
  Calls Tryz.prog 112 #[vlist, str path] w0 (Rets w0 (.int .i64 (Sp.l5At list path))) := by
 obtain ⟨alist, klist, rfl⟩ := hlist.shape
 have hlimlist : list.length ≤ 1099511627776 := hlist.lim
 have H := Hp.init hG
 refine calls_of_W (l := [.slice alist list.length klist, str path]) func112 Z ntmps112 Z (q2 (aG Z (q3 (W_seq (q2 (aG Z (q3 (W_block ?_))))))))
 refine W_lp (hf := (Sub.cons (t := 0) Z (Sub.cons (t := 1) Z Sub.nil))) (J := fun M w m => ∃ (k : Nat) (G : PH), M = [(5, .int .i64 (k : Int))] ∧ PLe G0 G ∧ Hp w0 G0 [] w G [] ∧ (k ≤ list.length ∧ (∀ j, j < k → ∀ y, list[j]? = some y → decide (y.path = path) = false)) ∧ m = (list.length - k)) (h0 := ⟨0, _, Z, PLe.refl _, H, ?inv, Z⟩) (round := ?round)
 case inv => exact ⟨by omega, fun j hj => by omega⟩
 case round =>
  rintro _ w1 _ ⟨k, G1, rfl, hle1, H, hinv1, rfl⟩
  have hlist := hlist.up hle1
  obtain ⟨hk, hall⟩ := hinv1
  refine W_seq (q2 (mV Z (mV Z (o_len_slice underlying24 Z Z (o_lss Z Z Z (q3 ?_))))))
  refine W_cond Z ?_ ?_
  ·intro hc2
   try simp only [nrm] at hc2
   refine W_skip (N_K (W_seq (W_block (q2 (mV Z (mV Z (o_index_P k hlist underlying24 sizeOf37 Z Z Z Z aN ?_))))))); intro b3 o3 z3 q3 hz3 hE3 hrow3
   obtain ⟨a3, m3, c3, rfl, hi3, hr3⟩ := hE3; have hy_hi3 : _ ≤ 16777216 := hi3; have hn_hr3 := hr3.len; have hx_hr3 : _ ≤ 1099511627776 := hr3.lim
   refine o_fieldAddr 0 runUnderlying37 Z sizeOf9 Z Z Z (o_load_P H isAgg9 Z Z (hrow3 0 _ Z) (mV Z (o_seql Z Z Z (q3 ?_))))
   refine W_cond Z ?_ ?_
   ·intro hc4
    try simp only [nrm] at hc4
    refine q2 (mV Z (aG Z (q3 (W_ret (N_B_ret (N_K_ret (N_LP_ret (N_B_ret (N_K_ret (rt1 results112 Z ?_))))))))))
    exact H.rets (congrArg (Value.int .i64) (by rw [Sp.l5At, Sp.atI, Sp.find_at hall hz3 (by simp; exact hc4)]; rfl))
   intro hc4'
   try simp only [nrm] at hc4'
   refine W_skip (N_B (N_K (W_region (mV Z (o_add Z Z Z oO (aG Z (R_nil ?_)))))))
   refine N_lp (hJ := ⟨k + 1, _, Z, hle1, H, ?inv, Z⟩) (hm := ?hm)
   case hm => omega
   case inv => exact ⟨by omega, Sp.none_succ hall hz3 (by simp; exact hc4')⟩
  intro hc2'
  try simp only [nrm] at hc2'
  refine W_exit (N_K_exit (N_LP_exit (N_B_same (N_K (q2 (aG Z (q3 (W_ret (rt1 results112 Z ?_)))))))))
  exact H.rets (congrArg (Value.int .i64) (by rw [Sp.l5At, Sp.atI, Sp.find_none hall oM]; rfl))
theorem l5Home_c (w0 : World) (G0 : PH) (hG : PSub G0 w0) (vlist : Value) (list : List (BItem)) (hlist : RdItems G0 vlist list) (path : Bs) (hpath : path.length ≤ 16777216)  :
  Calls Tryz.prog 146 #[vlist, str path] w0 (Rets w0 (.bool (Sp.l5Home list path))) := by
 obtain ⟨alist, klist, rfl⟩ := hlist.shape
 have hlimlist : list.length ≤ 1099511627776 := hlist.lim
 have H := Hp.init hG
 refine calls_of_W (l := [.slice alist list.length klist, str path]) func146 Z ntmps146 Z (q2 (aG Z (q1 (mV Z (o_call call184 Z Z (l5Parent_c _ _ hpath ) ?_)))))
 rintro _ w1 ⟨rfl, ew1⟩; have H := H.step ew1; refine ⟨_, rfl, ?_⟩
 refine aG Z (q1 (mV Z (mV Z ?_)))
 refine o_call call112 Z Z (l5At_c _ _ H.sub _ _ hlist _ (by (first | assumption | (refine Sp.l5Parent_lim ?_; assumption) | (simp; done) | (simp; omega) | omega)) ) ?_
 rintro _ w2 ⟨rfl, ew2⟩; have H := H.step ew2; refine ⟨_, rfl, ?_⟩
 refine aG Z (q1 (mV Z (o_seql Z Z Z (mV Z ?_))))
 refine R_case (t := 14) Z ?_ ?_
 ·intro hc3
  try simp only [nrm] at hc3
  refine rP Z (rP Z (rP Z (R_pass Z (yl_un Z Z) (R_pass Z (yl_un Z Z) (R_pass Z (yl_un Z Z) (R_pass Z (yl_un Z Z) (R_pass Z (yl_un Z Z) (rP Z (o_pick_t Z Z Z (aG Z (q3 (W_ret (rt1 results146 Z ?_)))))))))))))
  exact H.rets (congrArg Value.bool (by simp [Sp.l5Home, hc3]))
 intro hc3'
 try simp only [nrm] at hc3'
 refine gR Z (mV Z (gR Z (o_geq Z Z Z (gR Z (mV Z ?_)))))
 refine R_case (t := 17) Z ?_ ?_
 ·intro hc4
  try simp only [nrm] at hc4
  obtain ⟨i, x, hi1, hi2, hi3, hi4, hi5⟩ := Sp.at_nat hc4
  refine gR Z (mV Z (gR Z (mV Z (gR Z (o_index_P i hlist underlying24 sizeOf37 Z Z Z hi2 aN ?_))))); intro b5 o5 z5 q5 hz5 hE5 hrow5
  obtain ⟨a5, m5, c5, rfl, hi5, hr5⟩ := hE5; have hy_hi5 : _ ≤ 16777216 := hi5; have hn_hr5 := hr5.len; have hx_hr5 : _ ≤ 1099511627776 := hr5.lim
  refine gR Z (o_fieldAddr 1 runUnderlying37 Z sizeOf4 Z Z Z (gR Z (o_load_P H isAgg4 Z Z (hrow5 1 _ Z) (gR Z (o_pick_t Z Z Z (o_pick_f Z Z Z (aG Z (q3 (W_ret (rt1 results146 Z ?_))))))))))
  exact H.rets (congrArg Value.bool (by simp [Sp.l5Home, hc3', Sp.atI, hi1, hz5]))
 intro hc4'
 try simp only [nrm] at hc4'
 refine rP Z (rP Z (rP Z (rP Z (rP Z (gR Z (o_pick_f Z Z Z (o_pick_f Z Z Z (aG Z (q3 (W_ret (rt1 results146 Z ?_)))))))))))
 exact H.rets (congrArg Value.bool (by simp [Sp.l5Home, hc3', Sp.atI, Sp.at_none hc4']))
theorem l5Item_c (w0 : World) (G0 : PH) (hG : PSub G0 w0) (cx : List Value) (x : BItem) (hx : itemE G0 x cx)  :
  Calls Tryz.prog 145 #[.agg cx.toArray] w0 (Rets w0 (.bool (Sp.l5Item x))) := by
 obtain ⟨a1, m1, c1, rfl, hi1, hr1⟩ := hx; have hy_hi1 : _ ≤ 16777216 := hi1; have hn_hr1 := hr1.len; have hx_hr1 : _ ≤ 1099511627776 := hr1.lim
 have H := Hp.init hG
 refine calls_of_W (l := [_]) func145 Z ntmps145 Z (q2 (o_box H Z Z Z ?_)); intro b2 w2 hb2 H
 refine aG Z (q3 (W_seq (q2 (aG Z (q3 (W_block ?_))))))
 obtain ⟨ln3, hln3, H⟩ := H.name (k := 0) rfl
 refine W_lp (hf := (Sub.cons (t := 1) Z Sub.nil)) (J := fun M w m => ∃ (k : Nat) (G : PH), M = [(3, .int .i64 (k : Int))] ∧ PLe G0 G ∧ Hp w0 G0 [] w G [blk b2 (cl ln3 37)] ∧ (k ≤ x.ids.length ∧ (x.ids.take k).all (Sp.idOk x.dir) = true) ∧ m = (x.ids.length - k)) (h0 := ⟨0, _, Z, PLe.refl _, H, ?inv, Z⟩) (round := ?round)
 case inv => exact ⟨by omega, by simp⟩
 case round =>
  rintro _ w4 _ ⟨k, G4, rfl, hle4, H, hinv4, rfl⟩
  subst hln3
  have hr1 := hr1.up hle4
  obtain ⟨hk, hall⟩ := hinv4
  refine W_seq (q2 (mV Z (o_fieldAddr 2 runUnderlying37 Z sizeOf33 Z Z Z (o_load_B 0 H isAgg33 Z Z Z Z (o_len_slice underlying33 Z Z (o_lss Z Z Z (q3 ?_)))))))
  refine W_cond Z ?_ ?_
  ·intro hc5
   try simp only [nrm] at hc5
   refine W_skip (N_K (W_seq (W_block (q2 (o_fieldAddr 1 runUnderlying37 Z sizeOf4 Z Z Z (o_load_B 0 H isAgg4 Z Z Z Z (mV Z ?_)))))))
   refine R_case (t := 13) Z ?_ ?_
   ·intro hc6
    try simp only [nrm] at hc6
    refine rP Z (rP Z (rP Z (rP Z (rP Z (rP Z (rP Z (o_pick_t Z Z Z (q3 (W_true Z (q2 (aG Z (q3 (W_ret (N_B_ret (N_K_ret ?_)))))))))))))))
    refine N_LP_ret (N_B_ret (N_K_ret (rt1 results145 Z ?_)))
    exact H.rets (congrArg Value.bool (by rw [Sp.l5Item, Sp.all_false (c := x.ids[k]) (List.getElem?_eq_getElem oM) (by simp [Sp.idOk, hc6])]; rfl))
   intro hc6'
   try simp only [nrm] at hc6'
   refine gR Z (o_fieldAddr 2 runUnderlying37 Z sizeOf33 Z Z Z (gR Z (o_load_B 0 H isAgg33 Z Z Z Z (gR Z (mV Z (gR Z (o_index_P k hr1 underlying33 sizeOf3 Z Z Z Z aN ?_))))))); intro b7 o7 z7 q7 hz7 hE7 hrow7
   obtain ⟨rfl, hi7⟩ := hE7
   refine gR Z (o_load_P H isAgg3 Z Z (hrow7 0 _ Z) (gR Z (o_call call101 Z Z (l6In_c _ _ _ _ ) ?_)))
   rintro _ w8 ⟨rfl, ew8⟩; have H := H.step ew8; refine ⟨_, rfl, ?_⟩
   refine gR Z (o_not Z Z (o_pick_f Z Z Z (q3 ?_)))
   refine W_cond Z ?_ ?_
   ·intro hc9
    try simp only [nrm] at hc9
    refine q2 (aG Z (q3 (W_ret (N_B_ret (N_K_ret (N_LP_ret (N_B_ret (N_K_ret (rt1 results145 Z ?_)))))))))
    exact H.rets (congrArg Value.bool (by rw [Sp.l5Item, Sp.all_false hz7 (by simp [Sp.idOk, *])]; rfl))
   intro hc9'
   try simp only [nrm] at hc9'
   refine W_skip (N_B (N_K (W_region (mV Z (o_add Z Z Z oO (aG Z (R_nil ?_)))))))
   refine N_lp (hJ := ⟨k + 1, _, Z, hle4, H, ?inv, Z⟩) (hm := ?hm)
   case hm => omega
   case inv => exact ⟨by omega, Sp.all_take hall hz7 (by simp [Sp.idOk, *])⟩
  intro hc5'
  try simp only [nrm] at hc5'
  refine W_exit (N_K_exit (N_LP_exit (N_B_same (N_K (q2 (o_fieldAddr 0 runUnderlying37 Z sizeOf9 Z Z Z (o_load_B 0 H isAgg9 Z Z Z Z (o_call call183 Z Z (PathValid_c _ _ H.sub _ hi1 ) ?_))))))))
  rintro _ w11 ⟨rfl, ew11⟩; have H := H.step ew11; refine ⟨_, rfl, ?_⟩
  refine mV Z ?_
  refine R_case (t := 25) Z ?_ ?_
  ·intro hc12
   try simp only [nrm] at hc12
   refine gR Z (o_fieldAddr 2 runUnderlying37 Z sizeOf33 Z Z Z (gR Z (o_load_B 0 H isAgg33 Z Z Z Z (gR Z (o_len_slice underlying33 Z Z (gR Z (o_leq Z Z Z (o_pick_t Z Z Z (aG Z (q3 (W_ret (rt1 results145 Z ?_))))))))))))
   obtain rfl : k = x.ids.length := by omega
   rw [List.take_length] at hall
   exact H.rets (congrArg Value.bool (by simp only [Sp.l5Item, hall, hc12, Bool.true_and]; rw [Bool.eq_iff_iff]; simp; omega))
  intro hc12'
  try simp only [nrm] at hc12'
  refine rP Z (rP Z (rP Z (rP Z (o_pick_f Z Z Z (aG Z (q3 (W_ret (rt1 results145 Z ?_))))))))
  exact H.rets (congrArg Value.bool (by simp [Sp.l5Item, hc12']))
theorem TreeValid_c (w0 : World) (G0 : PH) (hG : PSub G0 w0) (vlist : Value) (list : List (BItem)) (hlist : RdItems G0 vlist list)  :
  Calls Tryz.prog 97 #[vlist] w0 (Rets w0 (.bool (Sp.TreeValid list))) := by
 obtain ⟨alist, klist, rfl⟩ := hlist.shape
 have hlimlist : list.length ≤ 1099511627776 := hlist.lim
 have H := Hp.init hG
 refine calls_of_W (l := [.slice alist list.length klist]) func97 Z ntmps97 Z (q2 (aG Z (q3 (W_seq (q2 (aG Z (q3 (W_block ?_))))))))
 refine W_lp (hf := (Sub.cons (t := 0) Z Sub.nil)) (J := fun M w m => ∃ (k : Nat) (G : PH), M = [(3, .int .i64 (k : Int))] ∧ PLe G0 G ∧ Hp w0 G0 [] w G [] ∧ (k ≤ list.length ∧ ∀ j, j < k → Sp.okT list j = true) ∧ m = (list.length - k)) (h0 := ⟨0, _, Z, PLe.refl _, H, ?inv, Z⟩) (round := ?round)
 case inv => exact ⟨by omega, fun j hj => by omega⟩
 case round =>
  rintro _ w1 _ ⟨k, G1, rfl, hle1, H, hinv1, rfl⟩
  have hlist := hlist.up hle1
  obtain ⟨hk, hall⟩ := hinv1
  refine W_seq (q2 (mV Z (mV Z (o_len_slice underlying24 Z Z (o_lss Z Z Z (q3 ?_))))))
  refine W_cond Z ?_ ?_
  ·intro hc2
   try simp only [nrm] at hc2
   refine W_skip (N_K (W_seq (W_block (W_seq (W_drawK [] 34 H kR Z ?_))))); intro w3 H; have hd3 := PLe.refl G1
   refine vM 0 Z Z (vM 1 Z Z ?_)
   have hl4 := hlist.len
   obtain ⟨b4, o4, z4, q4, ha4, hz4, hq4, hE4, hrow4, _⟩ := hlist.at (i := k) oM
   clear hq4
   obtain ⟨a4, m4, c4, rfl, hi4, hr4⟩ := hE4; have hy_hi4 : _ ≤ 16777216 := hi4; have hn_hr4 := hr4.len; have hx_hr4 : _ ≤ 1099511627776 := hr4.lim
   refine RD_t 2 Z kR Z (fun _ hK => v_index_P (i := k) ha4 underlying24 sizeOf37 Z Z Z oM) (RD_t 3 Z kR Z (fun _ hK => v_loadagg_P hK isAgg37 sizeOf37 Z hrow4 Z) ?_)
   refine RD_run [4] kR Z (RDs.cons Z ?_ RDs.nil)
   refine o_call call145 Z Z (l5Item_c _ _ H.sub _ _ ⟨_, _, _, Z, hi4, hr4⟩ ) ?_
   rintro _ w5 ⟨rfl, ew5⟩; have H := H.step ew5; refine ⟨_, rfl, ?_⟩
   refine R_nil (N_DK (Kn.of' H hd3 SubL.nil) (RD_t 5 Z kR Z (fun _ hK => v_not Z) (vM 6 Z Z ?_)))
   refine RD_case (t := 16) Z ?_ ?_
   ·intro hc6
    try simp only [nrm] at hc6
    refine RD_pass 7 Z kR kR kR Z (yl_ne Z Z Z) (RD_pass 8 Z kR kR kR Z (yl_ne Z Z Z) (RD_pass 9 Z kR kR kR Z (yl_ne Z Z Z) (RD_pass 10 Z kR kR kR Z (yl_un Z Z) (RD_pass 11 Z kR kR kR Z (yl_un Z Z) (RD_pass 12 Z kR kR kR Z (yl_un Z Z) (RD_pass 13 Z kR kR kR Z (yl_un Z Z) (RD_pass 14 Z kR kR kR Z (yl_un Z Z) (RD_pass 15 Z kR kR kR Z (yl_un Z Z) (RD_pass 16 Z kR kR kR Z (yl_un Z Z) (RD_pass 17 Z kR kR kR Z (yl_un Z Z) (RD_pass 18 Z kR kR kR Z (yl_un Z Z) (RD_pass 19 Z kR kR kR Z (yl_un Z Z) (RD_pass 20 Z kR kR kR Z (yl_un Z Z) (RD_pass 21 Z kR kR kR Z (yl_un Z Z) (RD_pass 22 Z kR kR kR Z (yl_ne Z Z Z) ?_)))))))))))))))
    refine RD_t 23 Z kR Z (fun _ hK => v_pick_t Z Z) (vM 24 Z Z (RD_pass 25 Z kR kR kR Z (yl_ne Z Z Z) (RD_pass 26 Z kR kR kR Z (yl_ne Z Z Z) (RD_pass 27 Z kR kR kR Z (yl_ne Z Z Z) (RD_pass 28 Z kR kR kR Z (yl_ne Z Z Z) (RD_pass 29 Z kR kR kR Z (yl_ne Z Z Z) (RD_pass 30 Z kR kR kR Z (yl_ne Z Z Z) (RD_pass 31 Z kR kR kR Z (yl_ne Z Z Z) (RD_pass 32 Z kR kR kR Z (yl_ne Z Z Z) (RD_t 33 Z kR Z (fun _ hK => v_pick_t Z Z) (RD_done kR (N_K (W_true Z (q2 (aG Z ?_)))))))))))))))
    refine q3 (W_ret (N_B_ret (N_K_ret (N_LP_ret (N_B_ret (N_K_ret (rt1 results97 Z ?_)))))))
    exact H.rets (congrArg Value.bool (by rw [Sp.TreeValid, Sp.not_all_range (k := k) oM (by rw [Sp.okT_at hz4]; simp [Sp.prevLt, *])]; rfl))
   intro hc6'
   try simp only [nrm] at hc6'
   refine RD_tg 7 Z kR Z (yl Z Z) (fun _ hK => v_move Z) (RD_tg 8 Z kR Z (yl Z Z) (fun _ hK => v_gtr Z Z) (RD_tg 9 Z kR Z (yl Z Z) (fun _ hK => v_move Z) ?_))
   refine RD_case (t := 19) Z ?_ ?_
   ·intro hc7
    try simp only [nrm] at hc7
    have hk0 : k ≠ 0 := by omega
    refine RD_tg 10 Z kR Z (yl Z Z) (fun _ hK => v_move Z) (RD_tg 11 Z kR Z (yl Z Z) (fun _ hK => v_move Z) (RD_tg 12 Z kR Z (yl Z Z) (fun _ hK => v_sub Z Z oO) ?_))
    have hl9 := hlist.len
    obtain ⟨b9, o9, z9, q9, ha9, hz9, hq9, hE9, hrow9, _⟩ := hlist.at (i := (k - 1)) oM
    clear hq9
    obtain ⟨a9, m9, c9, rfl, hi9, hr9⟩ := hE9; have hy_hi9 : _ ≤ 16777216 := hi9; have hn_hr9 := hr9.len; have hx_hr9 : _ ≤ 1099511627776 := hr9.lim
    refine RD_tg 13 Z kR Z (yl Z Z) (fun _ hK => v_index_P (i := (k - 1)) ha9 underlying24 sizeOf37 Z Z oM oM) (RD_tg 14 Z kR Z (yl Z Z) (fun _ hK => v_fieldAddr 0 runUnderlying37 Z sizeOf9 Z Z) (RD_tg 15 Z kR Z (yl Z Z) (fun _ hK => v_load_P hK isAgg9 Z (hrow9 0 _ Z)) (RD_tg 16 Z kR Z (yl Z Z) (fun _ hK => v_move Z) (RD_tg 17 Z kR Z (yl Z Z) (fun _ hK => v_move Z) ?_))))
    have hl10 := hlist.len
    obtain ⟨b10, o10, z10, q10, ha10, hz10, hq10, hE10, hrow10, _⟩ := hlist.at (i := k) oM
    clear hq10
    obtain ⟨a10, m10, c10, rfl, hi10, hr10⟩ := hE10; have hy_hi10 : _ ≤ 16777216 := hi10; have hn_hr10 := hr10.len; have hx_hr10 : _ ≤ 1099511627776 := hr10.lim
    have hzz10 : z4 = z10 := Option.some.inj (hz4.symm.trans hz10)
    subst hzz10
    refine RD_tg 18 Z kR Z (yl Z Z) (fun _ hK => v_index_P (i := k) ha10 underlying24 sizeOf37 Z Z Z oM) (RD_tg 19 Z kR Z (yl Z Z) (fun _ hK => v_fieldAddr 0 runUnderlying37 Z sizeOf9 Z Z) (RD_tg 20 Z kR Z (yl Z Z) (fun _ hK => v_load_P hK isAgg9 Z (hrow10 0 _ Z)) (RD_tg 21 Z kR Z (yl Z Z) (fun _ hK => v_sgeq Z Z) (RD_tg 22 Z kR Z (yl Z Z) (fun _ hK => v_pick_t Z Z) (RD_t 23 Z kR Z (fun _ hK => v_pick_f Z Z) (vM 24 Z Z ?_))))))
    refine RD_case (t := 34) Z ?_ ?_
    ·intro hc11
     try simp only [nrm] at hc11
     refine RD_pass 25 Z kR kR kR Z (yl_ne Z Z Z) (RD_pass 26 Z kR kR kR Z (yl_ne Z Z Z) (RD_pass 27 Z kR kR kR Z (yl_ne Z Z Z) (RD_pass 28 Z kR kR kR Z (yl_ne Z Z Z) (RD_pass 29 Z kR kR kR Z (yl_ne Z Z Z) (RD_pass 30 Z kR kR kR Z (yl_ne Z Z Z) (RD_pass 31 Z kR kR kR Z (yl_ne Z Z Z) (RD_pass 32 Z kR kR kR Z (yl_ne Z Z Z) (RD_t 33 Z kR Z (fun _ hK => v_pick_t Z Z) (RD_done kR (N_K (W_true Z (q2 (aG Z (q3 (W_ret ?_)))))))))))))))
     refine N_B_ret (N_K_ret (N_LP_ret (N_B_ret (N_K_ret (rt1 results97 Z ?_)))))
     exact H.rets (congrArg Value.bool (by rw [Sp.TreeValid, Sp.not_all_range (k := k) oM (by rw [Sp.okT_at hz4]; simp [Sp.prevLt, *])]; rfl))
    intro hc11'
    try simp only [nrm] at hc11'
    refine RD_tg 25 Z kR Z (yl Z Z) (fun _ hK => v_move Z) (RD_tg 26 Z kR Z (yl Z Z) (fun _ hK => v_move Z) (RD_tg 27 Z kR Z (yl Z Z) (fun _ hK => v_move Z) ?_))
    have hl12 := hlist.len
    obtain ⟨b12, o12, z12, q12, ha12, hz12, hq12, hE12, hrow12, _⟩ := hlist.at (i := k) oM
    clear hq12
    obtain ⟨a12, m12, c12, rfl, hi12, hr12⟩ := hE12; have hy_hi12 : _ ≤ 16777216 := hi12; have hn_hr12 := hr12.len; have hx_hr12 : _ ≤ 1099511627776 := hr12.lim
    have hzz12 : z4 = z12 := Option.some.inj (hz4.symm.trans hz12)
    subst hzz12
    refine RD_tg 28 Z kR Z (yl Z Z) (fun _ hK => v_index_P (i := k) ha12 underlying24 sizeOf37 Z Z Z oM) (RD_tg 29 Z kR Z (yl Z Z) (fun _ hK => v_fieldAddr 0 runUnderlying37 Z sizeOf9 Z Z) (RD_tg 30 Z kR Z (yl Z Z) (fun _ hK => v_load_P hK isAgg9 Z (hrow12 0 _ Z)) ?_))
    refine RD_run [31] kR Z (RDs.cons Z ?_ RDs.nil)
    refine gR Z (o_call call146 Z Z (l5Home_c _ _ H.sub _ _ hlist _ hi12 ) ?_)
    rintro _ w13 ⟨rfl, ew13⟩; have H := H.step ew13; refine ⟨_, rfl, ?_⟩
    refine R_nil (N_DK (Kn.of' H hd3 SubL.nil) (RD_tg 32 Z kR Z (yl Z Z) (fun _ hK => v_not Z) (RD_t 33 Z kR Z (fun _ hK => v_pick_f Z Z) (RD_done kR (N_K ?_)))))
    refine W_cond Z ?_ ?_
    ·intro hc14
     try simp only [nrm] at hc14
     refine q2 (aG Z (q3 (W_ret (N_B_ret (N_K_ret (N_LP_ret (N_B_ret (N_K_ret (rt1 results97 Z ?_)))))))))
     exact H.rets (congrArg Value.bool (by rw [Sp.TreeValid, Sp.not_all_range (k := k) oM (by rw [Sp.okT_at hz4]; simp [Sp.prevLt, *])]; rfl))
    intro hc14'
    try simp only [nrm] at hc14'
    refine W_skip (N_B (N_K (W_region (mV Z (o_add Z Z Z oO (aG Z (R_nil ?_)))))))
    refine N_lp (hJ := ⟨k + 1, _, Z, hle1, H, ?inv, Z⟩) (hm := ?hm)
    case hm => omega
    case inv => exact ⟨by omega, Sp.upto_succ hall (by rw [Sp.okT_at hz4]; simp [Sp.prevLt, *])⟩
   intro hc7'
   try simp only [nrm] at hc7'
   have hk0 : k = 0 := by omega
   refine RD_pass 10 Z kR kR kR Z (yl_ne Z Z Z) (RD_pass 11 Z kR kR kR Z (yl_ne Z Z Z) (RD_pass 12 Z kR kR kR Z (yl_ne Z Z Z) (RD_pass 13 Z kR kR kR Z (yl_ne Z Z Z) (RD_pass 14 Z kR kR kR Z (yl_ne Z Z Z) (RD_pass 15 Z kR kR kR Z (yl_ne Z Z Z) (RD_pass 16 Z kR kR kR Z (yl_ne Z Z Z) (RD_pass 17 Z kR kR kR Z (yl_ne Z Z Z) (RD_pass 18 Z kR kR kR Z (yl_ne Z Z Z) (RD_pass 19 Z kR kR kR Z (yl_ne Z Z Z) (RD_pass 20 Z kR kR kR Z (yl_ne Z Z Z) (RD_pass 21 Z kR kR kR Z (yl_ne Z Z Z) (RD_tg 22 Z kR Z (yl Z Z) (fun _ hK => v_pick_f Z Z) (RD_t 23 Z kR Z (fun _ hK => v_pick_f Z Z) (vM 24 Z Z (RD_tg 25 Z kR Z (yl Z Z) (fun _ hK => v_move Z) ?_)))))))))))))))
   refine RD_tg 26 Z kR Z (yl Z Z) (fun _ hK => v_move Z) (RD_tg 27 Z kR Z (yl Z Z) (fun _ hK => v_move Z) ?_)
   have hl16 := hlist.len
   obtain ⟨b16, o16, z16, q16, ha16, hz16, hq16, hE16, hrow16, _⟩ := hlist.at (i := k) oM
   clear hq16
   obtain ⟨a16, m16, c16, rfl, hi16, hr16⟩ := hE16; have hy_hi16 : _ ≤ 16777216 := hi16; have hn_hr16 := hr16.len; have hx_hr16 : _ ≤ 1099511627776 := hr16.lim
   have hzz16 : z4 = z16 := Option.some.inj (hz4.symm.trans hz16)
   subst hzz16
   refine RD_tg 28 Z kR Z (yl Z Z) (fun _ hK => v_index_P (i := k) ha16 underlying24 sizeOf37 Z Z Z oM) (RD_tg 29 Z kR Z (yl Z Z) (fun _ hK => v_fieldAddr 0 runUnderlying37 Z sizeOf9 Z Z) (RD_tg 30 Z kR Z (yl Z Z) (fun _ hK => v_load_P hK isAgg9 Z (hrow16 0 _ Z)) ?_))
   refine RD_run [31] kR Z (RDs.cons Z ?_ RDs.nil)
   refine gR Z (o_call call146 Z Z (l5Home_c _ _ H.sub _ _ hlist _ hi16 ) ?_)
   rintro _ w17 ⟨rfl, ew17⟩; have H := H.step ew17; refine ⟨_, rfl, ?_⟩
   refine R_nil (N_DK (Kn.of' H hd3 SubL.nil) (RD_tg 32 Z kR Z (yl Z Z) (fun _ hK => v_not Z) (RD_t 33 Z kR Z (fun _ hK => v_pick_f Z Z) (RD_done kR (N_K ?_)))))
   refine W_cond Z ?_ ?_
   ·intro hc18
    try simp only [nrm] at hc18
    refine q2 (aG Z (q3 (W_ret (N_B_ret (N_K_ret (N_LP_ret (N_B_ret (N_K_ret (rt1 results97 Z ?_)))))))))
    exact H.rets (congrArg Value.bool (by rw [Sp.TreeValid, Sp.not_all_range (k := k) oM (by rw [Sp.okT_at hz4]; simp [Sp.prevLt, *])]; rfl))
   intro hc18'
   try simp only [nrm] at hc18'
   refine W_skip (N_B (N_K (W_region (mV Z (o_add Z Z Z oO (aG Z (R_nil ?_)))))))
   refine N_lp (hJ := ⟨k + 1, _, Z, hle1, H, ?inv, Z⟩) (hm := ?hm)
   case hm => omega
   case inv => exact ⟨by omega, Sp.upto_succ hall (by rw [Sp.okT_at hz4]; simp [Sp.prevLt, *])⟩
  intro hc2'
  try simp only [nrm] at hc2'
  refine W_exit (N_K_exit (N_LP_exit (N_B_same (N_K (q2 (mV Z (o_len_slice underlying24 Z Z (o_leq Z Z Z (aG Z (q3 (W_ret (rt1 results97 Z ?_))))))))))))
  exact H.rets (congrArg Value.bool (by rw [Sp.TreeValid, Sp.all_range (fun j hj => hall j oM), Bool.true_and]; rw [Bool.eq_iff_iff]; simp; omega))
theorem l2Same_c (w0 : World) (G0 : PH) (hG : PSub G0 w0) (va : Value) (a : List (Int)) (ha : RdI G0 va a) (vb : Value) (b : List (Int)) (hb : RdI G0 vb b)  :
  Calls Tryz.prog 144 #[va, vb] w0 (Rets w0 (.bool (Sp.l2Same a b))) := by
 obtain ⟨aa, ka, rfl⟩ := ha.shape
 have hlima : a.length ≤ 1099511627776 := ha.lim
 obtain ⟨ab, kb, rfl⟩ := hb.shape
 have hlimb : b.length ≤ 1099511627776 := hb.lim
 have H := Hp.init hG
 refine calls_of_W (l := [.slice aa a.length ka, .slice ab b.length kb]) func144 Z ntmps144 Z (q2 (aG Z (q3 (W_seq (q2 (mV Z (o_len_slice underlying33 Z Z (mV Z (o_len_slice underlying33 Z Z (o_neq Z Z Z (q3 ?_)))))))))))
 refine W_cond Z ?_ ?_
 ·intro hc1
  try simp only [nrm] at hc1
  refine q2 (aG Z (q3 (W_ret (N_K_ret (rt1 results144 Z ?_)))))
  exact H.rets (congrArg Value.bool (by unfold Sp.l2Same; exact Sp.ne_len oM))
 intro hc1'
 try simp only [nrm] at hc1'
 refine W_skip (N_K (W_seq (q2 (aG Z (q3 (W_block ?_))))))
 refine W_lp (hf := (Sub.cons (t := 0) Z (Sub.cons (t := 1) Z Sub.nil))) (J := fun M w m => ∃ (k : Nat) (G : PH), M = [(5, .int .i64 (k : Int))] ∧ PLe G0 G ∧ Hp w0 G0 [] w G [] ∧ (k ≤ a.length ∧ a.take k = b.take k) ∧ m = (a.length - k)) (h0 := ⟨0, _, Z, PLe.refl _, H, ?inv, Z⟩) (round := ?round)
 case inv => exact ⟨by omega, by simp⟩
 case round =>
  rintro _ w2 _ ⟨k, G2, rfl, hle2, H, hinv2, rfl⟩
  have ha := ha.up hle2
  have hb := hb.up hle2
  obtain ⟨hk, hall⟩ := hinv2
  refine W_seq (q2 (mV Z (mV Z (o_len_slice underlying33 Z Z (o_lss Z Z Z (q3 ?_))))))
  refine W_cond Z ?_ ?_
  ·intro hc3
   try simp only [nrm] at hc3
   refine W_skip (N_K (W_seq (W_block (W_seq (W_drawK [] 9 H kR Z ?_))))); intro w4 H; have hd4 := PLe.refl G2
   refine vM 0 Z Z (vM 1 Z Z ?_)
   have hl5 := ha.len
   obtain ⟨b5, o5, z5, q5, ha5, hz5, hq5, hE5, hrow5, _⟩ := ha.at (i := k) oM
   clear hq5
   obtain ⟨rfl, hi5⟩ := hE5
   refine RD_t 2 Z kR Z (fun _ hK => v_index_P (i := k) ha5 underlying33 sizeOf3 Z Z Z oM) (RD_t 3 Z kR Z (fun _ hK => v_load_P hK isAgg3 Z (hrow5 0 _ Z)) (vM 4 Z Z (vM 5 Z Z ?_)))
   have hl6 := hb.len
   obtain ⟨b6, o6, z6, q6, ha6, hz6, hq6, hE6, hrow6, _⟩ := hb.at (i := k) oM
   clear hq6
   obtain ⟨rfl, hi6⟩ := hE6
   refine RD_t 6 Z kR Z (fun _ hK => v_index_P (i := k) ha6 underlying33 sizeOf3 Z Z Z oM) (RD_t 7 Z kR Z (fun _ hK => v_load_P hK isAgg3 Z (hrow6 0 _ Z)) (RD_t 8 Z kR Z (fun _ hK => v_neq Z Z) (RD_done kR (N_K ?_))))
   refine W_cond Z ?_ ?_
   ·intro hc7
    try simp only [nrm] at hc7
    refine q2 (aG Z (q3 (W_ret (N_B_ret (N_K_ret (N_LP_ret (N_B_ret (N_K_ret (rt1 results144 Z ?_)))))))))
    exact H.rets (congrArg Value.bool (by unfold Sp.l2Same; exact Sp.ne_at hz5 hz6 oM))
   intro hc7'
   try simp only [nrm] at hc7'
   refine W_skip (N_B (N_K (W_region (mV Z (o_add Z Z Z oO (aG Z (R_nil ?_)))))))
   refine N_lp (hJ := ⟨k + 1, _, Z, hle2, H, ?inv, Z⟩) (hm := ?hm)
   case hm => omega
   case inv => exact ⟨by omega, Sp.take_eq hall hz5 (by rw [hz6]; congr 1; omega)⟩
  intro hc3'
  try simp only [nrm] at hc3'
  refine W_exit (N_K_exit (N_LP_exit (N_B_same (N_K (q2 (aG Z (q3 (W_ret (rt1 results144 Z ?_)))))))))
  exact H.rets (congrArg Value.bool (by unfold Sp.l2Same; exact Sp.eq_all hall oM oM))
theorem BlockValid_c (w0 : World) (G0 : PH) (hG : PSub G0 w0) (vbytes : Value) (bytes : List (Int)) (hbytes : RdI G0 vbytes bytes)  :
  Calls Tryz.prog 143 #[vbytes] w0 (Rets w0 (.bool (Sp.BlockValid bytes))) := by
 obtain ⟨abytes, kbytes, rfl⟩ := hbytes.shape
 have hlimbytes : bytes.length ≤ 1099511627776 := hbytes.lim
 have H := Hp.init hG
 refine calls_of_W (l := [.slice abytes bytes.length kbytes]) func143 Z ntmps143 Z (q2 (aG Z (q3 (W_seq (q2 (aG Z (q3 (W_block ?_))))))))
 refine W_lp (hf := (Sub.cons (t := 0) Z Sub.nil)) (J := fun M w m => ∃ (k : Nat) (G : PH), M = [(3, .int .i64 (k : Int))] ∧ PLe G0 G ∧ Hp w0 G0 [] w G [] ∧ (k ≤ bytes.length ∧ (bytes.take k).all Sp.byteOk = true) ∧ m = (bytes.length - k)) (h0 := ⟨0, _, Z, PLe.refl _, H, ?inv, Z⟩) (round := ?round)
 case inv => exact ⟨by omega, by simp⟩
 case round =>
  rintro _ w1 _ ⟨k, G1, rfl, hle1, H, hinv1, rfl⟩
  have hbytes := hbytes.up hle1
  obtain ⟨hk, hall⟩ := hinv1
  refine W_seq (q2 (mV Z (mV Z (o_len_slice underlying33 Z Z (o_lss Z Z Z (q3 ?_))))))
  refine W_cond Z ?_ ?_
  ·intro hc2
   try simp only [nrm] at hc2
   refine W_skip (N_K (W_seq (W_block (q2 (mV Z (mV Z (o_index_P k hbytes underlying33 sizeOf3 Z Z Z Z aN ?_))))))); intro b3 o3 z3 q3 hz3 hE3 hrow3
   obtain ⟨rfl, hi3⟩ := hE3
   refine o_load_P H isAgg3 Z Z (hrow3 0 _ Z) (o_call call101 Z Z (l6In_c _ _ _ _ ) ?_)
   rintro _ w4 ⟨rfl, ew4⟩; have H := H.step ew4; refine ⟨_, rfl, ?_⟩
   refine o_not Z Z (q3 ?_)
   refine W_cond Z ?_ ?_
   ·intro hc5
    try simp only [nrm] at hc5
    refine q2 (aG Z (q3 (W_ret (N_B_ret (N_K_ret (N_LP_ret (N_B_ret (N_K_ret (rt1 results143 Z ?_)))))))))
    exact H.rets (congrArg Value.bool (by rw [Sp.BlockValid, Sp.all_false hz3 (by simp [Sp.byteOk, *])]; rfl))
   intro hc5'
   try simp only [nrm] at hc5'
   refine W_skip (N_B (N_K (W_region (mV Z (o_add Z Z Z oO (aG Z (R_nil ?_)))))))
   refine N_lp (hJ := ⟨k + 1, _, Z, hle1, H, ?inv, Z⟩) (hm := ?hm)
   case hm => omega
   case inv => exact ⟨by omega, Sp.all_take hall hz3 (by simp [Sp.byteOk, *])⟩
  intro hc2'
  try simp only [nrm] at hc2'
  refine W_exit (N_K_exit (N_LP_exit (N_B_same (N_K (q2 (mV Z (o_len_slice underlying33 Z Z (o_call call101 Z Z (l6In_c _ _ _ _ ) ?_))))))))
  rintro _ w7 ⟨rfl, ew7⟩; have H := H.step ew7; refine ⟨_, rfl, ?_⟩
  refine aG Z (q3 (W_ret (rt1 results143 Z ?_)))
  obtain rfl : k = bytes.length := by omega
  rw [List.take_length] at hall
  exact H.rets (congrArg Value.bool (by simp only [Sp.BlockValid, hall, Bool.true_and]))
theorem FileValid_c (w0 : World) (G0 : PH) (hG : PSub G0 w0) (vbytes : Value) (bytes : List (Int)) (hbytes : RdI G0 vbytes bytes)  :
  Calls Tryz.prog 63 #[vbytes] w0 (Rets w0 (.bool (Sp.FileValid bytes))) := by
 obtain ⟨abytes, kbytes, rfl⟩ := hbytes.shape
 have hlimbytes : bytes.length ≤ 1099511627776 := hbytes.lim
 have H := Hp.init hG
 refine calls_of_W (l := [.slice abytes bytes.length kbytes]) func63 Z ntmps63 Z (q2 (aG Z (q3 (W_seq (q2 (aG Z (q3 (W_block ?_))))))))
 refine W_lp (hf := (Sub.cons (t := 0) Z Sub.nil)) (J := fun M w m => ∃ (k : Nat) (G : PH), M = [(3, .int .i64 (k : Int))] ∧ PLe G0 G ∧ Hp w0 G0 [] w G [] ∧ (k ≤ bytes.length ∧ (bytes.take k).all Sp.byteOk = true) ∧ m = (bytes.length - k)) (h0 := ⟨0, _, Z, PLe.refl _, H, ?inv, Z⟩) (round := ?round)
 case inv => exact ⟨by omega, by simp⟩
 case round =>
  rintro _ w1 _ ⟨k, G1, rfl, hle1, H, hinv1, rfl⟩
  have hbytes := hbytes.up hle1
  obtain ⟨hk, hall⟩ := hinv1
  refine W_seq (q2 (mV Z (mV Z (o_len_slice underlying33 Z Z (o_lss Z Z Z (q3 ?_))))))
  refine W_cond Z ?_ ?_
  ·intro hc2
   try simp only [nrm] at hc2
   refine W_skip (N_K (W_seq (W_block (q2 (mV Z (mV Z (o_index_P k hbytes underlying33 sizeOf3 Z Z Z Z aN ?_))))))); intro b3 o3 z3 q3 hz3 hE3 hrow3
   obtain ⟨rfl, hi3⟩ := hE3
   refine o_load_P H isAgg3 Z Z (hrow3 0 _ Z) (o_call call101 Z Z (l6In_c _ _ _ _ ) ?_)
   rintro _ w4 ⟨rfl, ew4⟩; have H := H.step ew4; refine ⟨_, rfl, ?_⟩
   refine o_not Z Z (q3 ?_)
   refine W_cond Z ?_ ?_
   ·intro hc5
    try simp only [nrm] at hc5
    refine q2 (aG Z (q3 (W_ret (N_B_ret (N_K_ret (N_LP_ret (N_B_ret (N_K_ret (rt1 results63 Z ?_)))))))))
    exact H.rets (congrArg Value.bool (by rw [Sp.FileValid, Sp.all_false hz3 (by simp [Sp.byteOk, *])]; rfl))
   intro hc5'
   try simp only [nrm] at hc5'
   refine W_skip (N_B (N_K (W_region (mV Z (o_add Z Z Z oO (aG Z (R_nil ?_)))))))
   refine N_lp (hJ := ⟨k + 1, _, Z, hle1, H, ?inv, Z⟩) (hm := ?hm)
   case hm => omega
   case inv => exact ⟨by omega, Sp.all_take hall hz3 (by simp [Sp.byteOk, *])⟩
  intro hc2'
  try simp only [nrm] at hc2'
  refine W_exit (N_K_exit (N_LP_exit (N_B_same (N_K (q2 (mV Z (o_len_slice underlying33 Z Z (o_leq Z Z Z (aG Z (q3 (W_ret (rt1 results63 Z ?_))))))))))))
  obtain rfl : k = bytes.length := by omega
  rw [List.take_length] at hall
  exact H.rets (congrArg Value.bool (by simp only [Sp.FileValid, hall, Bool.true_and]; rw [Bool.eq_iff_iff]; simp; omega))
theorem StoreValid_c (w0 : World) (G0 : PH) (hG : PSub G0 w0) (vlist : Value) (list : List (BHeld)) (hlist : RdH G0 vlist list)  :
  Calls Tryz.prog 96 #[vlist] w0 (Rets w0 (.bool (Sp.StoreValid list))) := by
 obtain ⟨alist, klist, rfl⟩ := hlist.shape
 have hlimlist : list.length ≤ 1099511627776 := hlist.lim
 have H := Hp.init hG
 refine calls_of_W (l := [.slice alist list.length klist]) func96 Z ntmps96 Z (q2 (aG Z (q3 (W_seq (q2 (aG Z (q3 (W_block ?_))))))))
 refine W_lp (hf := (Sub.cons (t := 0) Z Sub.nil)) (J := fun M w m => ∃ (k : Nat) (G : PH), M = [(3, .int .i64 (k : Int))] ∧ PLe G0 G ∧ Hp w0 G0 [] w G [] ∧ (k ≤ list.length ∧ ∀ j, j < k → Sp.okH list j = true) ∧ m = (list.length - k)) (h0 := ⟨0, _, Z, PLe.refl _, H, ?inv, Z⟩) (round := ?round)
 case inv => exact ⟨by omega, fun j hj => by omega⟩
 case round =>
  rintro _ w1 _ ⟨k, G1, rfl, hle1, H, hinv1, rfl⟩
  have hlist := hlist.up hle1
  obtain ⟨hk, hall⟩ := hinv1
  refine W_seq (q2 (mV Z (mV Z (o_len_slice underlying23 Z Z (o_lss Z Z Z (q3 ?_))))))
  refine W_cond Z ?_ ?_
  ·intro hc2
   try simp only [nrm] at hc2
   refine W_skip (N_K (W_seq (W_block (q2 (mV Z (mV Z (o_index_P k hlist underlying23 sizeOf105 Z Z Z Z aN ?_))))))); intro b3 o3 z3 q3 hz3 hE3 hrow3
   obtain ⟨a3, m3, c3, rfl, hi3, hr3, hj3⟩ := hE3; have hn_hr3 := hr3.len; have hx_hr3 : _ ≤ 1099511627776 := hr3.lim
   refine o_loadagg_P H isAgg105 sizeOf105 Z Z hrow3 Z (o_alloc H zeroValue105 Z Z ?_); intro b4 w4 hb4 H
   refine o_store_B 0 H sizeOf105 Z Z Z Z Z Z Z Z ?_; intro w5 H
   refine q3 (W_seq (W_seq (W_drawK [0] 31 H kR Z ?_))); intro w6 H; have hd6 := PLe.refl G1
   refine RD_t 0 Z kR Z (fun _ hK => v_fieldAddr 0 runUnderlying105 Z sizeOf3 Z Z) (RD_t 1 Z kR Z (fun _ hK => v_load_B 0 hK isAgg3 Z Z Z) ?_)
   refine RD_run [2] kR Z (RDs.cons Z ?_ RDs.nil)
   refine o_call call101 Z Z (l6In_c _ _ _ _ ) ?_
   rintro _ w7 ⟨rfl, ew7⟩; have H := H.step ew7; refine ⟨_, rfl, ?_⟩
   refine R_nil (N_DK (Kn.of' H hd6 (SubL.cons 0 Z SubL.nil)) (RD_t 3 Z kR Z (fun _ hK => v_not Z) (vM 4 Z Z ?_)))
   refine RD_case (t := 20) Z ?_ ?_
   ·intro hc8
    try simp only [nrm] at hc8
    refine RD_pass 5 Z kR kR kR Z (yl_ne Z Z Z) (RD_pass 6 Z kR kR kR Z (yl_ne Z Z Z) (RD_pass 7 Z kR kR kR Z (yl_ne Z Z Z) (RD_pass 8 Z kR kR kR Z (yl_ne Z Z Z) (RD_t 9 Z kR Z (fun _ hK => v_pick_t Z Z) (vM 10 Z Z (RD_pass 11 Z kR kR kR Z (yl_ne Z Z Z) (RD_pass 12 Z kR kR kR Z (yl_ne Z Z Z) (RD_pass 13 Z kR kR kR Z (yl_ne Z Z Z) (RD_pass 14 Z kR kR kR Z (yl_ne Z Z Z) (RD_t 15 Z kR Z (fun _ hK => v_pick_t Z Z) (vM 16 Z Z (RD_pass 17 Z kR kR kR Z (yl_ne Z Z Z) (RD_pass 18 Z kR kR kR Z (yl_ne Z Z Z) (RD_pass 19 Z kR kR kR Z (yl_ne Z Z Z) (RD_pass 20 Z kR kR kR Z (yl_un Z Z) ?_)))))))))))))))
    refine RD_pass 21 Z kR kR kR Z (yl_un Z Z) (RD_pass 22 Z kR kR kR Z (yl_un Z Z) (RD_pass 23 Z kR kR kR Z (yl_un Z Z) (RD_pass 24 Z kR kR kR Z (yl_un Z Z) (RD_pass 25 Z kR kR kR Z (yl_un Z Z) (RD_pass 26 Z kR kR kR Z (yl_un Z Z) (RD_pass 27 Z kR kR kR Z (yl_un Z Z) (RD_pass 28 Z kR kR kR Z (yl_un Z Z) (RD_pass 29 Z kR kR kR Z (yl_ne Z Z Z) (RD_t 30 Z kR Z (fun _ hK => v_pick_t Z Z) (RD_done kR (N_K (W_true Z (q2 (aG Z (q3 ?_)))))))))))))))
    refine W_ret (N_K_ret (N_B_ret (N_K_ret (N_LP_ret (N_B_ret (N_K_ret (rt1 results96 Z ?_)))))))
    exact H.rets (congrArg Value.bool (by rw [Sp.StoreValid, Sp.not_all_range (k := k) oM (by rw [Sp.okH_at hz3]; simp [Sp.prevId, *])]; rfl))
   intro hc8'
   try simp only [nrm] at hc8'
   refine RD_tg 5 Z kR Z (yl Z Z) (fun _ hK => v_fieldAddr 1 runUnderlying105 Z sizeOf33 Z Z) (RD_tg 6 Z kR Z (yl Z Z) (fun _ hK => v_load_B 0 hK isAgg33 Z Z Z) ?_)
   refine RD_run [7] kR Z (RDs.cons Z ?_ RDs.nil)
   refine gR Z (o_call call143 Z Z (BlockValid_c _ _ H.sub _ _ hr3 ) ?_)
   rintro _ w9 ⟨rfl, ew9⟩; have H := H.step ew9; refine ⟨_, rfl, ?_⟩
   refine R_nil (N_DK (Kn.of' H hd6 (SubL.cons 0 Z SubL.nil)) (RD_tg 8 Z kR Z (yl Z Z) (fun _ hK => v_not Z) (RD_t 9 Z kR Z (fun _ hK => v_pick_f Z Z) (vM 10 Z Z ?_))))
   refine RD_case (t := 26) Z ?_ ?_
   ·intro hc10
    try simp only [nrm] at hc10
    refine RD_pass 11 Z kR kR kR Z (yl_ne Z Z Z) (RD_pass 12 Z kR kR kR Z (yl_ne Z Z Z) (RD_pass 13 Z kR kR kR Z (yl_ne Z Z Z) (RD_pass 14 Z kR kR kR Z (yl_ne Z Z Z) (RD_t 15 Z kR Z (fun _ hK => v_pick_t Z Z) (vM 16 Z Z (RD_pass 17 Z kR kR kR Z (yl_ne Z Z Z) (RD_pass 18 Z kR kR kR Z (yl_ne Z Z Z) (RD_pass 19 Z kR kR kR Z (yl_ne Z Z Z) (RD_pass 20 Z kR kR kR Z (yl_un Z Z) (RD_pass 21 Z kR kR kR Z (yl_un Z Z) (RD_pass 22 Z kR kR kR Z (yl_un Z Z) (RD_pass 23 Z kR kR kR Z (yl_un Z Z) (RD_pass 24 Z kR kR kR Z (yl_un Z Z) (RD_pass 25 Z kR kR kR Z (yl_un Z Z) (RD_pass 26 Z kR kR kR Z (yl_un Z Z) ?_)))))))))))))))
    refine RD_pass 27 Z kR kR kR Z (yl_un Z Z) (RD_pass 28 Z kR kR kR Z (yl_un Z Z) (RD_pass 29 Z kR kR kR Z (yl_ne Z Z Z) (RD_t 30 Z kR Z (fun _ hK => v_pick_t Z Z) (RD_done kR (N_K (W_true Z (q2 (aG Z (q3 (W_ret (N_K_ret (N_B_ret (N_K_ret (N_LP_ret (N_B_ret ?_)))))))))))))))
    refine N_K_ret (rt1 results96 Z ?_)
    exact H.rets (congrArg Value.bool (by rw [Sp.StoreValid, Sp.not_all_range (k := k) oM (by rw [Sp.okH_at hz3]; simp [Sp.prevId, *])]; rfl))
   intro hc10'
   try simp only [nrm] at hc10'
   refine RD_tg 11 Z kR Z (yl Z Z) (fun _ hK => v_fieldAddr 2 runUnderlying105 Z sizeOf3 Z Z) (RD_tg 12 Z kR Z (yl Z Z) (fun _ hK => v_load_B 0 hK isAgg3 Z Z Z) ?_)
   refine RD_run [13] kR Z (RDs.cons Z ?_ RDs.nil)
   refine gR Z (o_call call101 Z Z (l6In_c _ _ _ _ ) ?_)
   rintro _ w11 ⟨rfl, ew11⟩; have H := H.step ew11; refine ⟨_, rfl, ?_⟩
   refine R_nil (N_DK (Kn.of' H hd6 (SubL.cons 0 Z SubL.nil)) (RD_tg 14 Z kR Z (yl Z Z) (fun _ hK => v_not Z) (RD_t 15 Z kR Z (fun _ hK => v_pick_f Z Z) (vM 16 Z Z ?_))))
   refine RD_case (t := 32) Z ?_ ?_
   ·intro hc12
    try simp only [nrm] at hc12
    refine RD_pass 17 Z kR kR kR Z (yl_ne Z Z Z) (RD_pass 18 Z kR kR kR Z (yl_ne Z Z Z) (RD_pass 19 Z kR kR kR Z (yl_ne Z Z Z) (RD_pass 20 Z kR kR kR Z (yl_un Z Z) (RD_pass 21 Z kR kR kR Z (yl_un Z Z) (RD_pass 22 Z kR kR kR Z (yl_un Z Z) (RD_pass 23 Z kR kR kR Z (yl_un Z Z) (RD_pass 24 Z kR kR kR Z (yl_un Z Z) (RD_pass 25 Z kR kR kR Z (yl_un Z Z) (RD_pass 26 Z kR kR kR Z (yl_un Z Z) (RD_pass 27 Z kR kR kR Z (yl_un Z Z) (RD_pass 28 Z kR kR kR Z (yl_un Z Z) (RD_pass 29 Z kR kR kR Z (yl_ne Z Z Z) (RD_t 30 Z kR Z (fun _ hK => v_pick_t Z Z) (RD_done kR (N_K ?_)))))))))))))))
    refine W_true Z (q2 (aG Z (q3 (W_ret (N_K_ret (N_B_ret (N_K_ret (N_LP_ret (N_B_ret (N_K_ret (rt1 results96 Z ?_)))))))))))
    exact H.rets (congrArg Value.bool (by rw [Sp.StoreValid, Sp.not_all_range (k := k) oM (by rw [Sp.okH_at hz3]; simp [Sp.prevId, *])]; rfl))
   intro hc12'
   try simp only [nrm] at hc12'
   refine RD_tg 17 Z kR Z (yl Z Z) (fun _ hK => v_move Z) (RD_tg 18 Z kR Z (yl Z Z) (fun _ hK => v_gtr Z Z) (RD_tg 19 Z kR Z (yl Z Z) (fun _ hK => v_move Z) ?_))
   refine RD_case (t := 35) Z ?_ ?_
   ·intro hc13
    try simp only [nrm] at hc13
    have hk0 : k ≠ 0 := by omega
    refine RD_tg 20 Z kR Z (yl Z Z) (fun _ hK => v_move Z) (RD_tg 21 Z kR Z (yl Z Z) (fun _ hK => v_move Z) (RD_tg 22 Z kR Z (yl Z Z) (fun _ hK => v_sub Z Z oO) ?_))
    have hl15 := hlist.len
    obtain ⟨b15, o15, z15, q15, ha15, hz15, hq15, hE15, hrow15, _⟩ := hlist.at (i := (k - 1)) oM
    clear hq15
    obtain ⟨a15, m15, c15, rfl, hi15, hr15, hj15⟩ := hE15; have hn_hr15 := hr15.len; have hx_hr15 : _ ≤ 1099511627776 := hr15.lim
    refine RD_tg 23 Z kR Z (yl Z Z) (fun _ hK => v_index_P (i := (k - 1)) ha15 underlying23 sizeOf105 Z Z oM oM) (RD_tg 24 Z kR Z (yl Z Z) (fun _ hK => v_fieldAddr 0 runUnderlying105 Z sizeOf3 Z Z) (RD_tg 25 Z kR Z (yl Z Z) (fun _ hK => v_load_P hK isAgg3 Z (hrow15 0 _ Z)) (RD_tg 26 Z kR Z (yl Z Z) (fun _ hK => v_fieldAddr 0 runUnderlying105 Z sizeOf3 Z Z) (RD_tg 27 Z kR Z (yl Z Z) (fun _ hK => v_load_B 0 hK isAgg3 Z Z Z) (RD_tg 28 Z kR Z (yl Z Z) (fun _ hK => v_geq Z Z) (RD_tg 29 Z kR Z (yl Z Z) (fun _ hK => v_pick_t Z Z) (RD_t 30 Z kR Z (fun _ hK => v_pick_f Z Z) (RD_done kR (N_K ?_)))))))))
    refine W_cond Z ?_ ?_
    ·intro hc16
     try simp only [nrm] at hc16
     refine q2 (aG Z (q3 (W_ret (N_K_ret (N_B_ret (N_K_ret (N_LP_ret (N_B_ret (N_K_ret (rt1 results96 Z ?_))))))))))
     exact H.rets (congrArg Value.bool (by rw [Sp.StoreValid, Sp.not_all_range (k := k) oM (by rw [Sp.okH_at hz3]; simp [Sp.prevId, *]; intro h; omega)]; rfl))
    intro hc16'
    try simp only [nrm] at hc16'
    refine W_skip (N_K (q2 (aG Z (q3 (W_block ?_)))))
    obtain ⟨ln17, hln17, H⟩ := H.name (k := 0) rfl
    refine W_lp (hf := (Sub.cons (t := 0) Z (Sub.cons (t := 3) Z (Sub.cons (t := 4) Z Sub.nil)))) (J := fun M w m => ∃ (i : Nat) (G : PH), M = [(5, .int .i64 (i : Int))] ∧ PLe G1 G ∧ Hp w0 G0 [] w G [blk b4 (cl ln17 105)] ∧ (i ≤ k ∧ (list.take i).all (fun g => !Sp.l2Same g.bytes z3.bytes) = true) ∧ m = (k - i)) (h0 := ⟨0, _, Z, PLe.refl _, H, ?inv, Z⟩) (round := ?round)
    case inv => exact ⟨by omega, by simp⟩
    case round =>
     rintro _ w18 _ ⟨i, G18, rfl, hle18, H, hinv18, rfl⟩
     subst hln17
     have hlist := hlist.up hle18
     have hr3 := hr3.up hle18
     have hle1 := hle1.trans hle18
     obtain ⟨hi, hall2⟩ := hinv18
     refine W_seq (q2 (mV Z (mV Z (o_lss Z Z Z (q3 ?_)))))
     refine W_cond Z ?_ ?_
     ·intro hc19
      try simp only [nrm] at hc19
      refine W_skip (N_K (W_seq (W_block (W_seq (W_drawK [0] 8 H kR Z ?_))))); intro w20 H; have hd20 := PLe.refl G18
      refine vM 0 Z Z (vM 1 Z Z ?_)
      have hl21 := hlist.len
      obtain ⟨b21, o21, z21, q21, ha21, hz21, hq21, hE21, hrow21, _⟩ := hlist.at (i := i) oM
      clear hq21
      obtain ⟨a21, m21, c21, rfl, hi21, hr21, hj21⟩ := hE21; have hn_hr21 := hr21.len; have hx_hr21 : _ ≤ 1099511627776 := hr21.lim
      refine RD_t 2 Z kR Z (fun _ hK => v_index_P (i := i) ha21 underlying23 sizeOf105 Z Z Z oM) (RD_t 3 Z kR Z (fun _ hK => v_fieldAddr 1 runUnderlying105 Z sizeOf33 Z Z) (RD_t 4 Z kR Z (fun _ hK => v_load_P hK isAgg33 Z (hrow21 1 _ Z)) (RD_t 5 Z kR Z (fun _ hK => v_fieldAddr 1 runUnderlying105 Z sizeOf33 Z Z) (RD_t 6 Z kR Z (fun _ hK => v_load_B 0 hK isAgg33 Z Z Z) ?_))))
      refine RD_run [7] kR Z (RDs.cons Z ?_ RDs.nil)
      refine o_call call144 Z Z (l2Same_c _ _ H.sub _ _ hr21 _ _ hr3 ) ?_
      rintro _ w22 ⟨rfl, ew22⟩; have H := H.step ew22; refine ⟨_, rfl, ?_⟩
      refine R_nil (N_DK (Kn.of' H hd20 (SubL.cons 0 Z SubL.nil)) (RD_done kR (N_K ?_)))
      refine W_cond Z ?_ ?_
      ·intro hc23
       try simp only [nrm] at hc23
       refine q2 (aG Z (q3 (W_ret (N_B_ret (N_K_ret (N_LP_ret (N_B_ret (N_B_ret (N_K_ret (N_LP_ret (N_B_ret (N_K_ret (rt1 results96 Z ?_)))))))))))))
       exact H.rets (congrArg Value.bool (by rw [Sp.StoreValid, Sp.not_all_range (k := k) oM (by rw [Sp.okH_at hz3, Sp.all_false (l := list.take k) (k := i) (by rw [List.getElem?_take, if_pos oM]; exact hz21) (by simp [*])]; simp)]; rfl))
      intro hc23'
      try simp only [nrm] at hc23'
      refine W_skip (N_B (N_K (W_region (mV Z (o_add Z Z Z oO (aG Z (R_nil ?_)))))))
      refine N_lp (hJ := ⟨i + 1, _, Z, hle18, H, ?inv, Z⟩) (hm := ?hm)
      case hm => omega
      case inv => exact ⟨by omega, Sp.all_take hall2 hz21 (by simp [*])⟩
     intro hc19'
     try simp only [nrm] at hc19'
     refine W_exit (N_K_exit (N_LP_exit (N_B_same (N_B (N_K (W_region (mV Z (o_add Z Z Z oO (aG Z (R_nil ?_))))))))))
     have H := H.del (k := 0) rfl
     refine N_lp (hJ := ⟨k + 1, _, Z, hle1, H, ?inv, Z⟩) (hm := ?hm)
     case hm => omega
     case inv => exact ⟨by omega, Sp.upto_succ hall (by (obtain rfl : i = k := by omega); rw [Sp.okH_at hz3, hall2]; simp [Sp.prevId, *])⟩
   intro hc13'
   try simp only [nrm] at hc13'
   have hk0 : k = 0 := by omega
   refine RD_pass 20 Z kR kR kR Z (yl_ne Z Z Z) (RD_pass 21 Z kR kR kR Z (yl_ne Z Z Z) (RD_pass 22 Z kR kR kR Z (yl_ne Z Z Z) (RD_pass 23 Z kR kR kR Z (yl_ne Z Z Z) (RD_pass 24 Z kR kR kR Z (yl_ne Z Z Z) (RD_pass 25 Z kR kR kR Z (yl_ne Z Z Z) (RD_pass 26 Z kR kR kR Z (yl_ne Z Z Z) (RD_pass 27 Z kR kR kR Z (yl_ne Z Z Z) (RD_pass 28 Z kR kR kR Z (yl_ne Z Z Z) (RD_tg 29 Z kR Z (yl Z Z) (fun _ hK => v_pick_f Z Z) (RD_t 30 Z kR Z (fun _ hK => v_pick_f Z Z) (RD_done kR (N_K (W_false Z (W_skip (N_K ?_)))))))))))))))
   refine q2 (aG Z (q3 (W_block ?_)))
   obtain ⟨ln26, hln26, H⟩ := H.name (k := 0) rfl
   refine W_lp (hf := (Sub.cons (t := 0) Z (Sub.cons (t := 3) Z (Sub.cons (t := 4) Z Sub.nil)))) (J := fun M w m => ∃ (i : Nat) (G : PH), M = [(5, .int .i64 (i : Int))] ∧ PLe G1 G ∧ Hp w0 G0 [] w G [blk b4 (cl ln26 105)] ∧ (i ≤ k ∧ (list.take i).all (fun g => !Sp.l2Same g.bytes z3.bytes) = true) ∧ m = (k - i)) (h0 := ⟨0, _, Z, PLe.refl _, H, ?inv, Z⟩) (round := ?round)
   case inv => exact ⟨by omega, by simp⟩
   case round =>
    rintro _ w27 _ ⟨i, G27, rfl, hle27, H, hinv27, rfl⟩
    subst hln26
    have hlist := hlist.up hle27
    have hr3 := hr3.up hle27
    have hle1 := hle1.trans hle27
    obtain ⟨hi, hall2⟩ := hinv27
    refine W_seq (q2 (mV Z (mV Z (o_lss Z Z Z (q3 ?_)))))
    refine W_cond Z ?_ ?_
    ·intro hc28
     try simp only [nrm] at hc28
     refine W_skip (N_K (W_seq (W_block (W_seq (W_drawK [0] 8 H kR Z ?_))))); intro w29 H; have hd29 := PLe.refl G27
     refine vM 0 Z Z (vM 1 Z Z ?_)
     have hl30 := hlist.len
     obtain ⟨b30, o30, z30, q30, ha30, hz30, hq30, hE30, hrow30, _⟩ := hlist.at (i := i) oM
     clear hq30
     obtain ⟨a30, m30, c30, rfl, hi30, hr30, hj30⟩ := hE30; have hn_hr30 := hr30.len; have hx_hr30 : _ ≤ 1099511627776 := hr30.lim
     refine RD_t 2 Z kR Z (fun _ hK => v_index_P (i := i) ha30 underlying23 sizeOf105 Z Z Z oM) (RD_t 3 Z kR Z (fun _ hK => v_fieldAddr 1 runUnderlying105 Z sizeOf33 Z Z) (RD_t 4 Z kR Z (fun _ hK => v_load_P hK isAgg33 Z (hrow30 1 _ Z)) (RD_t 5 Z kR Z (fun _ hK => v_fieldAddr 1 runUnderlying105 Z sizeOf33 Z Z) (RD_t 6 Z kR Z (fun _ hK => v_load_B 0 hK isAgg33 Z Z Z) ?_))))
     refine RD_run [7] kR Z (RDs.cons Z ?_ RDs.nil)
     refine o_call call144 Z Z (l2Same_c _ _ H.sub _ _ hr30 _ _ hr3 ) ?_
     rintro _ w31 ⟨rfl, ew31⟩; have H := H.step ew31; refine ⟨_, rfl, ?_⟩
     refine R_nil (N_DK (Kn.of' H hd29 (SubL.cons 0 Z SubL.nil)) (RD_done kR (N_K ?_)))
     refine W_cond Z ?_ ?_
     ·intro hc32
      try simp only [nrm] at hc32
      refine q2 (aG Z (q3 (W_ret (N_B_ret (N_K_ret (N_LP_ret (N_B_ret (N_B_ret (N_K_ret (N_LP_ret (N_B_ret (N_K_ret (rt1 results96 Z ?_)))))))))))))
      exact H.rets (congrArg Value.bool (by rw [Sp.StoreValid, Sp.not_all_range (k := k) oM (by rw [Sp.okH_at hz3, Sp.all_false (l := list.take k) (k := i) (by rw [List.getElem?_take, if_pos oM]; exact hz30) (by simp [*])]; simp)]; rfl))
     intro hc32'
     try simp only [nrm] at hc32'
     refine W_skip (N_B (N_K (W_region (mV Z (o_add Z Z Z oO (aG Z (R_nil ?_)))))))
     refine N_lp (hJ := ⟨i + 1, _, Z, hle27, H, ?inv, Z⟩) (hm := ?hm)
     case hm => omega
     case inv => exact ⟨by omega, Sp.all_take hall2 hz30 (by simp [*])⟩
    intro hc28'
    try simp only [nrm] at hc28'
    refine W_exit (N_K_exit (N_LP_exit (N_B_same (N_B (N_K (W_region (mV Z (o_add Z Z Z oO (aG Z (R_nil ?_))))))))))
    have H := H.del (k := 0) rfl
    refine N_lp (hJ := ⟨k + 1, _, Z, hle1, H, ?inv, Z⟩) (hm := ?hm)
    case hm => omega
    case inv => exact ⟨by omega, Sp.upto_succ hall (by (obtain rfl : i = k := by omega); rw [Sp.okH_at hz3, hall2]; simp [Sp.prevId, *])⟩
  intro hc2'
  try simp only [nrm] at hc2'
  refine W_exit (N_K_exit (N_LP_exit (N_B_same (N_K (q2 (mV Z (o_len_slice underlying23 Z Z (o_leq Z Z Z (aG Z (q3 (W_ret (rt1 results96 Z ?_))))))))))))
  exact H.rets (congrArg Value.bool (by rw [Sp.StoreValid, Sp.all_range (fun j hj => hall j oM), Bool.true_and]; rw [Bool.eq_iff_iff]; simp; omega))
theorem l3At_c (w0 : World) (G0 : PH) (hG : PSub G0 w0) (vlist : Value) (list : List (BHeld)) (hlist : RdH G0 vlist list) (id : Int)  :
  Calls Tryz.prog 113 #[vlist, .int .i64 id] w0 (Rets w0 (.int .i64 (Sp.l3At list id))) := by
 obtain ⟨alist, klist, rfl⟩ := hlist.shape
 have hlimlist : list.length ≤ 1099511627776 := hlist.lim
 have H := Hp.init hG
 refine calls_of_W (l := [.slice alist list.length klist, .int .i64 id]) func113 Z ntmps113 Z (q2 (aG Z (q3 (W_seq (q2 (aG Z (q3 (W_block ?_))))))))
 refine W_lp (hf := (Sub.cons (t := 0) Z (Sub.cons (t := 1) Z Sub.nil))) (J := fun M w m => ∃ (k : Nat) (G : PH), M = [(5, .int .i64 (k : Int))] ∧ PLe G0 G ∧ Hp w0 G0 [] w G [] ∧ (k ≤ list.length ∧ (∀ j, j < k → ∀ y, list[j]? = some y → decide (y.id = id) = false)) ∧ m = (list.length - k)) (h0 := ⟨0, _, Z, PLe.refl _, H, ?inv, Z⟩) (round := ?round)
 case inv => exact ⟨by omega, fun j hj => by omega⟩
 case round =>
  rintro _ w1 _ ⟨k, G1, rfl, hle1, H, hinv1, rfl⟩
  have hlist := hlist.up hle1
  obtain ⟨hk, hall⟩ := hinv1
  refine W_seq (q2 (mV Z (mV Z (o_len_slice underlying23 Z Z (o_lss Z Z Z (q3 ?_))))))
  refine W_cond Z ?_ ?_
  ·intro hc2
   try simp only [nrm] at hc2
   refine W_skip (N_K (W_seq (W_block (q2 (mV Z (mV Z (o_index_P k hlist underlying23 sizeOf105 Z Z Z Z aN ?_))))))); intro b3 o3 z3 q3 hz3 hE3 hrow3
   obtain ⟨a3, m3, c3, rfl, hi3, hr3, hj3⟩ := hE3; have hn_hr3 := hr3.len; have hx_hr3 : _ ≤ 1099511627776 := hr3.lim
   refine o_fieldAddr 0 runUnderlying105 Z sizeOf3 Z Z Z (o_load_P H isAgg3 Z Z (hrow3 0 _ Z) (mV Z (o_eql Z Z Z (q3 ?_))))
   refine W_cond Z ?_ ?_
   ·intro hc4
    try simp only [nrm] at hc4
    refine q2 (mV Z (aG Z (q3 (W_ret (N_B_ret (N_K_ret (N_LP_ret (N_B_ret (N_K_ret (rt1 results113 Z ?_))))))))))
    exact H.rets (congrArg (Value.int .i64) (by rw [Sp.l3At, Sp.atH, Sp.find_at hall hz3 (by simp; omega)]; rfl))
   intro hc4'
   try simp only [nrm] at hc4'
   refine W_skip (N_B (N_K (W_region (mV Z (o_add Z Z Z oO (aG Z (R_nil ?_)))))))
   refine N_lp (hJ := ⟨k + 1, _, Z, hle1, H, ?inv, Z⟩) (hm := ?hm)
   case hm => omega
   case inv => exact ⟨by omega, Sp.none_succ hall hz3 (by simp; omega)⟩
  intro hc2'
  try simp only [nrm] at hc2'
  refine W_exit (N_K_exit (N_LP_exit (N_B_same (N_K (q2 (aG Z (q3 (W_ret (rt1 results113 Z ?_)))))))))
  exact H.rets (congrArg (Value.int .i64) (by rw [Sp.l3At, Sp.atH, Sp.find_none hall oM]; rfl))
theorem l3Like_c (w0 : World) (G0 : PH) (hG : PSub G0 w0) (vlist : Value) (list : List (BHeld)) (hlist : RdH G0 vlist list) (vbytes : Value) (bytes : List (Int)) (hbytes : RdI G0 vbytes bytes)  :
  Calls Tryz.prog 190 #[vlist, vbytes] w0 (Rets w0 (.int .i64 (Sp.l3Like list bytes))) := by
 obtain ⟨alist, klist, rfl⟩ := hlist.shape
 have hlimlist : list.length ≤ 1099511627776 := hlist.lim
 obtain ⟨abytes, kbytes, rfl⟩ := hbytes.shape
 have hlimbytes : bytes.length ≤ 1099511627776 := hbytes.lim
 have H := Hp.init hG
 refine calls_of_W (l := [.slice alist list.length klist, .slice abytes bytes.length kbytes]) func190 Z ntmps190 Z (q2 (aG Z (q3 (W_seq (q2 (aG Z (q3 (W_block ?_))))))))
 refine W_lp (hf := (Sub.cons (t := 0) Z (Sub.cons (t := 1) Z Sub.nil))) (J := fun M w m => ∃ (k : Nat) (G : PH), M = [(5, .int .i64 (k : Int))] ∧ PLe G0 G ∧ Hp w0 G0 [] w G [] ∧ (k ≤ list.length ∧ (∀ j, j < k → ∀ y, list[j]? = some y → Sp.l2Same y.bytes bytes = false)) ∧ m = (list.length - k)) (h0 := ⟨0, _, Z, PLe.refl _, H, ?inv, Z⟩) (round := ?round)
 case inv => exact ⟨by omega, fun j hj => by omega⟩
 case round =>
  rintro _ w1 _ ⟨k, G1, rfl, hle1, H, hinv1, rfl⟩
  have hlist := hlist.up hle1
  have hbytes := hbytes.up hle1
  obtain ⟨hk, hall⟩ := hinv1
  refine W_seq (q2 (mV Z (mV Z (o_len_slice underlying23 Z Z (o_lss Z Z Z (q3 ?_))))))
  refine W_cond Z ?_ ?_
  ·intro hc2
   try simp only [nrm] at hc2
   refine W_skip (N_K (W_seq (W_block (q2 (mV Z (mV Z (o_index_P k hlist underlying23 sizeOf105 Z Z Z Z aN ?_))))))); intro b3 o3 z3 q3 hz3 hE3 hrow3
   obtain ⟨a3, m3, c3, rfl, hi3, hr3, hj3⟩ := hE3; have hn_hr3 := hr3.len; have hx_hr3 : _ ≤ 1099511627776 := hr3.lim
   refine o_fieldAddr 1 runUnderlying105 Z sizeOf33 Z Z Z (o_load_P H isAgg33 Z Z (hrow3 1 _ Z) (mV Z (o_call call144 Z Z (l2Same_c _ _ H.sub _ _ hr3 _ _ hbytes ) ?_)))
   rintro _ w4 ⟨rfl, ew4⟩; have H := H.step ew4; refine ⟨_, rfl, ?_⟩
   refine q3 ?_
   refine W_cond Z ?_ ?_
   ·intro hc5
    try simp only [nrm] at hc5
    refine q2 (mV Z (aG Z (q3 (W_ret (N_B_ret (N_K_ret (N_LP_ret (N_B_ret (N_K_ret (rt1 results190 Z ?_))))))))))
    exact H.rets (congrArg (Value.int .i64) (by rw [Sp.l3Like, Sp.like, Sp.find_at hall hz3 hc5]; rfl))
   intro hc5'
   try simp only [nrm] at hc5'
   refine W_skip (N_B (N_K (W_region (mV Z (o_add Z Z Z oO (aG Z (R_nil ?_)))))))
   refine N_lp (hJ := ⟨k + 1, _, Z, hle1, H, ?inv, Z⟩) (hm := ?hm)
   case hm => omega
   case inv => exact ⟨by omega, Sp.none_succ hall hz3 hc5'⟩
  intro hc2'
  try simp only [nrm] at hc2'
  refine W_exit (N_K_exit (N_LP_exit (N_B_same (N_K (q2 (aG Z (q3 (W_ret (rt1 results190 Z ?_)))))))))
  exact H.rets (congrArg (Value.int .i64) (by rw [Sp.l3Like, Sp.like, Sp.find_none hall oM]; rfl))
theorem l3Copy_c (w0 : World) (G0 : PH) (hG : PSub G0 w0) (vlist : Value) (list : List (BHeld)) (hlist : RdH G0 vlist list)  :
  Calls Tryz.prog 102 #[vlist] w0 (RetO w0 G0 (AccOf heldE 3 105 list)) := by
 obtain ⟨alist, klist, rfl⟩ := hlist.shape
 have hlimlist : list.length ≤ 1099511627776 := hlist.lim
 have H := Hp.init hG
 refine calls_of_W (l := [.slice alist list.length klist]) func102 Z ntmps102 Z (q2 (aG Z (q1 (o_buildSlice H underlying23 sizeOf105 (fun w => ⟨_, zeroValue105 w, Z⟩) Z Z Z Z Z Z Z ?_)))); intro b1 w1 hb1 H
 have H := H.blkAcc 3 (k := 0) (n := 0) rfl rfl (by decide)
 refine aG Z (q3 (W_seq (q2 (aG Z (q3 (W_block ?_))))))
 refine W_lp (hf := (Sub.cons (t := 0) Z (Sub.cons (t := 2) Z Sub.nil))) (J := fun M w m => ∃ (v : Value) (n : Nat) (cs : List Value) (xs : List (BHeld)) (k : Nat) (G : PH), M = [(4, .int .i64 (k : Int)), (3, v)] ∧ PLe G0 G ∧ Hp w0 G0 [] w G [acc 105 3 v n cs] ∧ (Chk heldE 3 G cs xs ∧ n = xs.length ∧ k ≤ list.length ∧ xs.length = k ∧ xs = list.take k) ∧ m = (list.length - k)) (h0 := ⟨_, _, _, [], 0, _, Z, PLe.refl _, H, ?inv, Z⟩) (round := ?round)
 case inv => exact ⟨(Chk.nil (E := heldE) (sz := 3) (G := G0)),  by first | rfl | simp | (simp; omega) | omega, (by simp)⟩
 case round =>
  rintro _ w2 _ ⟨v, n, cs, xs, k, G2, rfl, hle2, H, hinv2, rfl⟩
  have hlist := hlist.up hle2
  obtain ⟨hchk2_0, hn2_0, hinv2⟩ := hinv2
  obtain ⟨av2_0, cv2_0, rfl⟩ := H.accShape (k := 0) rfl
  obtain ⟨hk, hxl, hxs⟩ := hinv2
  refine W_seq (q2 (mV Z (mV Z (o_len_slice underlying23 Z Z (o_lss Z Z Z (q3 ?_))))))
  refine W_cond Z ?_ ?_
  ·intro hc3
   try simp only [nrm] at hc3
   refine W_skip (N_K (W_seq (W_block (q2 (mV Z (mV Z (o_index_P k hlist underlying23 sizeOf105 Z Z Z Z aN ?_))))))); intro b4 o4 z4 q4 hz4 hE4 hrow4
   obtain ⟨a4, m4, c4, rfl, hi4, hr4, hj4⟩ := hE4; have hn_hr4 := hr4.len; have hx_hr4 : _ ≤ 1099511627776 := hr4.lim
   refine o_loadagg_P H isAgg105 sizeOf105 Z Z hrow4 Z (o_alloc H zeroValue105 Z Z ?_); intro b5 w5 hb5 H
   refine o_store_B 0 H sizeOf105 Z Z Z Z Z Z Z Z ?_; intro w6 H
   refine q1 (o_buildSlice H underlying33 sizeOf3 (fun w => ⟨_, zeroValue3 w, Z⟩) Z Z Z Z Z Z Z ?_); intro b7 w7 hb7 H
   have H := H.blkAcc 1 (k := 0) (n := 0) rfl rfl (by decide)
   refine o_fieldAddr 1 runUnderlying105 Z sizeOf33 Z Z Z (o_load_B 1 H isAgg33 Z Z Z Z ?_)
   refine o_append_P 0 H hr4 (by intro z cs hz u hu; obtain ⟨rfl, _⟩ := hz; simp at hu; subst hu; rfl) (sz := 1) (bytes := 8) underlying33 typeInfo3 ⟨_, rfl, rfl⟩ rfl rfl rfl rfl rfl rfl rfl oM rfl ?_; intro v8 w8 css8 hcl8 hcs8 H
   have hchk8 : Chk intE 1 G2 ([] ++ css8.flatten) _ := ⟨css8, rfl, hcl8, hcs8⟩
   obtain ⟨av8, cv8, rfl⟩ := H.accShape (k := 0) rfl
   refine o_fieldAddr 1 runUnderlying105 Z sizeOf33 Z Z Z (o_store_B 1 H sizeOf33 Z Z Z Z Z Z Z Z ?_); intro w9 H
   refine q3 (W_region (mV Z (o_loadagg_B 1 H isAgg105 sizeOf105 Z Z Z Z Z (o_buildSlice H underlying23 sizeOf105 (fun w => ⟨_, zeroValue105 w, Z⟩) Z Z Z Z Z Z Z ?_)))); intro b10 w10 hb10 H
   refine o_append1 2 H (sz := 3) (bytes := 40) underlying23 typeInfo105 ⟨_, Z, Z⟩ Z Z Z Z Z Z Z Z Z Z oM Z ?_; intro v11 w11 H
   obtain ⟨G12, H, hsg12, hsr12⟩ := H.shut' (k := 0) rfl hchk8 aN aN
   have hchk2_0 := hchk2_0.up hsg12
   have hle2 := hle2.trans hsg12
   have hchk11 := hchk2_0.snoc (show heldE _ z4 _ from ⟨_, _, _, rfl, ⟨by first | omega | (dsimp only; omega), by first | omega | (dsimp only; omega)⟩, hsr12, ⟨by first | omega | (dsimp only; omega), by first | omega | (dsimp only; omega)⟩⟩) rfl
   obtain ⟨av11, cv11, rfl⟩ := H.accShape (k := 1) rfl
   refine aG Z (R_nil (N_B (N_K (W_region (mV Z (o_add Z Z Z oO (aG Z (R_nil ?_))))))))
   have H := H.del (k := 0) rfl
   refine N_lp (hJ := ⟨_, _, _, (xs ++ [z4]), k + 1, _, Z, hle2, H, ?inv, Z⟩) (hm := ?hm)
   case hm => omega
   case inv => exact ⟨hchk11, aN, (by exact ⟨by omega, by simp [hxl], by rw [Sp.take_succ' hz4, hxs]⟩)⟩
  intro hc3'
  try simp only [nrm] at hc3'
  refine W_exit (N_K_exit (N_LP_exit (N_B_same (N_K (q2 (mV Z (aG Z (q3 (W_ret (rt1 results102 Z ?_))))))))))
  obtain rfl : k = list.length := by omega
  rw [List.take_length] at hxs
  subst hxs
  exact H.retO (k := 0) rfl (AccOf.mk (by assumption) hchk2_0) (acc_nd _ _ _ _ _)
theorem l12At_c (w0 : World) (G0 : PH) (hG : PSub G0 w0) (vlist : Value) (list : List (BSnap)) (hlist : RdSn G0 vlist list) (name : Bs) (hname : name.length ≤ 16777216)  :
  Calls Tryz.prog 46 #[vlist, str name] w0 (Rets w0 (.int .i64 (Sp.l12At list name))) := by
 obtain ⟨alist, klist, rfl⟩ := hlist.shape
 have hlimlist : list.length ≤ 1099511627776 := hlist.lim
 have H := Hp.init hG
 refine calls_of_W (l := [.slice alist list.length klist, str name]) func46 Z ntmps46 Z (q2 (aG Z (q3 (W_seq (q2 (aG Z (q3 (W_block ?_))))))))
 refine W_lp (hf := (Sub.cons (t := 0) Z (Sub.cons (t := 1) Z Sub.nil))) (J := fun M w m => ∃ (k : Nat) (G : PH), M = [(5, .int .i64 (k : Int))] ∧ PLe G0 G ∧ Hp w0 G0 [] w G [] ∧ (k ≤ list.length ∧ (∀ j, j < k → ∀ y, list[j]? = some y → decide (y.name = name) = false)) ∧ m = (list.length - k)) (h0 := ⟨0, _, Z, PLe.refl _, H, ?inv, Z⟩) (round := ?round)
 case inv => exact ⟨by omega, fun j hj => by omega⟩
 case round =>
  rintro _ w1 _ ⟨k, G1, rfl, hle1, H, hinv1, rfl⟩
  have hlist := hlist.up hle1
  obtain ⟨hk, hall⟩ := hinv1
  refine W_seq (q2 (mV Z (mV Z (o_len_slice underlying25 Z Z (o_lss Z Z Z (q3 ?_))))))
  refine W_cond Z ?_ ?_
  ·intro hc2
   try simp only [nrm] at hc2
   refine W_skip (N_K (W_seq (W_block (q2 (mV Z (mV Z (o_index_P k hlist underlying25 sizeOf81 Z Z Z Z aN ?_))))))); intro b3 o3 z3 q3 hz3 hE3 hrow3
   obtain ⟨a3, m3, c3, rfl, hi3, hr3⟩ := hE3; have hy_hi3 : _ ≤ 16777216 := hi3; have hn_hr3 := hr3.len; have hx_hr3 : _ ≤ 1099511627776 := hr3.lim
   refine o_fieldAddr 0 runUnderlying81 Z sizeOf9 Z Z Z (o_load_P H isAgg9 Z Z (hrow3 0 _ Z) (mV Z (o_seql Z Z Z (q3 ?_))))
   refine W_cond Z ?_ ?_
   ·intro hc4
    try simp only [nrm] at hc4
    refine q2 (mV Z (aG Z (q3 (W_ret (N_B_ret (N_K_ret (N_LP_ret (N_B_ret (N_K_ret (rt1 results46 Z ?_))))))))))
    exact H.rets (congrArg (Value.int .i64) (by rw [Sp.l12At, Sp.atS, Sp.find_at hall hz3 (by simp; exact hc4)]; rfl))
   intro hc4'
   try simp only [nrm] at hc4'
   refine W_skip (N_B (N_K (W_region (mV Z (o_add Z Z Z oO (aG Z (R_nil ?_)))))))
   refine N_lp (hJ := ⟨k + 1, _, Z, hle1, H, ?inv, Z⟩) (hm := ?hm)
   case hm => omega
   case inv => exact ⟨by omega, Sp.none_succ hall hz3 (by simp; exact hc4')⟩
  intro hc2'
  try simp only [nrm] at hc2'
  refine W_exit (N_K_exit (N_LP_exit (N_B_same (N_K (q2 (aG Z (q3 (W_ret (rt1 results46 Z ?_)))))))))
  exact H.rets (congrArg (Value.int .i64) (by rw [Sp.l12At, Sp.atS, Sp.find_none hall oM]; rfl))
end Go.Proofs.Tst

namespace Go.Proofs.Tst
open Go Fw Tryz
theorem l5Copy_c (w0 : World) (G0 : PH) (hG : PSub G0 w0) (cx : List Value) (x : BItem) (hx : itemE G0 x cx)  :
  Calls Tryz.prog 104 #[.agg cx.toArray] w0 (RetP w0 G0 (fun G v => ∃ cs, v = .agg cs.toArray ∧ itemE G x cs)) := by
 obtain ⟨a1, m1, c1, rfl, hi1, hr1⟩ := hx; have hy_hi1 : _ ≤ 16777216 := hi1; have hn_hr1 := hr1.len; have hx_hr1 : _ ≤ 1099511627776 := hr1.lim
 have H := Hp.init hG
 refine calls_of_W (l := [_]) func104 Z ntmps104 Z (q2 (o_box H Z Z Z ?_)); intro b2 w2 hb2 H
 refine o_alloc H zeroValue37 Z Z ?_; intro b3 w3 hb3 H
 refine q1 (o_buildSlice H underlying33 sizeOf3 (fun w => ⟨_, zeroValue3 w, Z⟩) Z Z Z Z Z Z Z ?_); intro b4 w4 hb4 H
 have H := H.blkAcc 1 (k := 0) (n := 0) rfl rfl (by decide)
 refine o_fieldAddr 2 runUnderlying37 Z sizeOf33 Z Z Z (o_load_B 2 H isAgg33 Z Z Z Z ?_)
 refine o_append_P 0 H hr1 (by intro z cs hz u hu; obtain ⟨rfl, _⟩ := hz; simp at hu; subst hu; rfl) (sz := 1) (bytes := 8) underlying33 typeInfo3 ⟨_, rfl, rfl⟩ rfl rfl rfl rfl rfl rfl rfl oM rfl ?_; intro v5 w5 css5 hcl5 hcs5 H
 have hchk5 : Chk intE 1 G0 ([] ++ css5.flatten) _ := ⟨css5, rfl, hcl5, hcs5⟩
 obtain ⟨av5, cv5, rfl⟩ := H.accShape (k := 0) rfl
 refine o_fieldAddr 2 runUnderlying37 Z sizeOf33 Z Z Z (o_store_B 2 H sizeOf33 Z Z Z Z Z Z Z Z ?_); intro w6 H
 refine q1 (o_loadagg_B 2 H isAgg37 sizeOf37 Z Z Z Z Z (o_store_B 1 H sizeOf37 Z Z Z Z Z Z Z Z ?_)); intro w7 H
 refine q3 (W_ret (ret_gen (rs := [.cell 2 37]) (vs := [_]) results104 ⟨⟨_, Z, load_blk 1 H isAgg37 sizeOf37 Z Z Z⟩, trivial⟩ ?_))
 obtain ⟨G509, H, hsg509, hsr509⟩ := H.shut' (k := 0) rfl hchk5 aN aN
 exact H.retP ⟨_, Z, ⟨_, _, _, Z, hi1, hsr509⟩⟩
end Go.Proofs.Tst

namespace Go.Proofs.Tst
open Go Fw Tryz
theorem l5All_c (w0 : World) (G0 : PH) (hG : PSub G0 w0) (vlist : Value) (list : List (BItem)) (hlist : RdItems G0 vlist list)  :
  Calls Tryz.prog 49 #[vlist] w0 (RetO w0 G0 (AccOf itemE 3 37 list)) := by
 obtain ⟨alist, klist, rfl⟩ := hlist.shape
 have hlimlist : list.length ≤ 1099511627776 := hlist.lim
 have H := Hp.init hG
 refine calls_of_W (l := [.slice alist list.length klist]) func49 Z ntmps49 Z (q2 (aG Z (q1 (o_buildSlice H underlying24 sizeOf37 (fun w => ⟨_, zeroValue37 w, Z⟩) Z Z Z Z Z Z Z ?_)))); intro b1 w1 hb1 H
 have H := H.blkAcc 3 (k := 0) (n := 0) rfl rfl (by decide)
 refine aG Z (q3 (W_seq (q2 (aG Z (q3 (W_block ?_))))))
 refine W_lp (hf := (Sub.cons (t := 0) Z (Sub.cons (t := 2) Z Sub.nil))) (J := fun M w m => ∃ (v : Value) (n : Nat) (cs : List Value) (xs : List (BItem)) (k : Nat) (G : PH), M = [(4, .int .i64 (k : Int)), (3, v)] ∧ PLe G0 G ∧ Hp w0 G0 [] w G [acc 37 3 v n cs] ∧ (Chk itemE 3 G cs xs ∧ n = xs.length ∧ k ≤ list.length ∧ xs.length = k ∧ xs = list.take k) ∧ m = (list.length - k)) (h0 := ⟨_, _, _, [], 0, _, Z, PLe.refl _, H, ?inv, Z⟩) (round := ?round)
 case inv => exact ⟨(Chk.nil (E := itemE) (sz := 3) (G := G0)),  by first | rfl | simp | (simp; omega) | omega, (by simp)⟩
 case round =>
  rintro _ w2 _ ⟨v, n, cs, xs, k, G2, rfl, hle2, H, hinv2, rfl⟩
  have hlist := hlist.up hle2
  obtain ⟨hchk2_0, hn2_0, hinv2⟩ := hinv2
  obtain ⟨av2_0, cv2_0, rfl⟩ := H.accShape (k := 0) rfl
  obtain ⟨hk, hxl, hxs⟩ := hinv2
  refine W_seq (q2 (mV Z (mV Z (o_len_slice underlying24 Z Z (o_lss Z Z Z (q3 ?_))))))
  refine W_cond Z ?_ ?_
  ·intro hc3
   try simp only [nrm] at hc3
   refine W_skip (N_K (W_seq (W_block (W_region (mV Z (mV Z (mV Z (o_index_P k hlist underlying24 sizeOf37 Z Z Z Z aN ?_)))))))); intro b4 o4 z4 q4 hz4 hE4 hrow4
   obtain ⟨a4, m4, c4, rfl, hi4, hr4⟩ := hE4; have hy_hi4 : _ ≤ 16777216 := hi4; have hn_hr4 := hr4.len; have hx_hr4 : _ ≤ 1099511627776 := hr4.lim
   refine o_loadagg_P H isAgg37 sizeOf37 Z Z hrow4 Z (o_call call104 Z Z (l5Copy_c _ _ H.sub _ _ ⟨_, _, _, Z, hi4, hr4⟩ ) ?_)
   rintro _ w5 ⟨G5, _, g5, rfl, u5_0, rfl, hr5_0⟩
   have H := H.grow g5
   have hchk2_0 := hchk2_0.up g5.le
   have hle2 := hle2.trans g5.le
   obtain ⟨a6, m6, c6, rfl, hi6, hr6⟩ := hr5_0; have hy_hi6 : _ ≤ 16777216 := hi6; have hn_hr6 := hr6.len; have hx_hr6 : _ ≤ 1099511627776 := hr6.lim
   refine ⟨_, Z, ?_⟩
   refine o_buildSlice H underlying24 sizeOf37 (fun w => ⟨_, zeroValue37 w, Z⟩) Z Z Z Z Z Z Z ?_; intro b7 w7 hb7 H
   refine o_append1 0 H (sz := 3) (bytes := 48) underlying24 typeInfo37 ⟨_, Z, Z⟩ Z Z Z Z Z Z Z Z Z Z oM Z ?_; intro v8 w8 H
   have hchk8 := hchk2_0.snoc (show itemE _ z4 _ from ⟨_, _, _, rfl, hi6, hr6⟩) rfl
   obtain ⟨av8, cv8, rfl⟩ := H.accShape (k := 0) rfl
   refine aG Z (R_nil (N_B (N_K (W_region (mV Z (o_add Z Z Z oO (aG Z (R_nil ?_))))))))
   refine N_lp (hJ := ⟨_, _, _, (xs ++ [z4]), k + 1, _, Z, hle2, H, ?inv, Z⟩) (hm := ?hm)
   case hm => omega
   case inv => exact ⟨hchk8, aN, (by exact ⟨by omega, by simp [hxl], by rw [Sp.take_succ' hz4, hxs]⟩)⟩
  intro hc3'
  try simp only [nrm] at hc3'
  refine W_exit (N_K_exit (N_LP_exit (N_B_same (N_K (q2 (mV Z (aG Z (q3 (W_ret (rt1 results49 Z ?_))))))))))
  obtain rfl : k = list.length := by omega
  rw [List.take_length] at hxs
  subst hxs
  exact H.retO (k := 0) rfl (AccOf.mk (by assumption) hchk2_0) (acc_nd _ _ _ _ _)
end Go.Proofs.Tst

namespace Go.Proofs.Tst
open Go Fw Tryz
theorem StoreKeep_c (w0 : World) (G0 : PH) (hG : PSub G0 w0) (vlist : Value) (list : List (BHeld)) (hlist : RdH G0 vlist list) (id : Int)  :
  Calls Tryz.prog 103 #[vlist, .int .i64 id] w0 (RetO w0 G0 (fun G v r => ∃ u, v = .tuple #[u, .bool (Sp.StoreKeep list id).isSome] ∧ AccOf heldE 3 105 ((Sp.StoreKeep list id).getD []) G u r)) := by
 obtain ⟨alist, klist, rfl⟩ := hlist.shape
 have hlimlist : list.length ≤ 1099511627776 := hlist.lim
 have H := Hp.init hG
 refine calls_of_W (l := [.slice alist list.length klist, .int .i64 id]) func103 Z ntmps103 Z (q2 (aG Z (aG Z (q1 (mV Z (mV Z (o_call call113 Z Z (l3At_c _ _ H.sub _ _ hlist _ ) ?_)))))))
 rintro _ w1 ⟨rfl, ew1⟩; have H := H.step ew1; refine ⟨_, rfl, ?_⟩
 refine aG Z (q3 (W_seq (q2 (mV Z (o_call call96 Z Z (StoreValid_c _ _ H.sub _ _ hlist ) ?_)))))
 rintro _ w2 ⟨rfl, ew2⟩; have H := H.step ew2; refine ⟨_, rfl, ?_⟩
 refine o_not Z Z (mV Z ?_)
 refine R_case (t := 14) Z ?_ ?_
 ·intro hc3
  try simp only [nrm] at hc3
  refine rP Z (rP Z (o_pick_t Z Z Z (mV Z (rP Z (rP Z (rP Z (rP Z (rP Z (rP Z (o_pick_t Z Z Z (q3 (W_true Z (q2 (o_buildSlice H underlying23 sizeOf105 (fun w => ⟨_, zeroValue105 w, Z⟩) Z Z Z Z Z Z Z ?_)))))))))))))); intro b4 w4 hb4 H
  have H := H.blkAcc 3 (k := 0) (n := 0) rfl rfl (by decide)
  refine aG Z (aG Z (q3 (W_ret (N_K_ret (rt2 results103 Z Z ?_)))))
  have hN : Sp.StoreKeep list id = none := by simp [Sp.StoreKeep, hc3]
  exact H.retO (k := 0) rfl (by rw [hN]; exact ⟨_, rfl, AccOf.mk aN (Chk.nil (E := heldE) (sz := 3) (G := G0))⟩) (acc_nd _ _ _ _ _)
 intro hc3'
 try simp only [nrm] at hc3'
 refine gR Z (mV Z (gR Z (o_lss Z Z Z (o_pick_f Z Z Z (mV Z ?_)))))
 refine R_case (t := 18) Z ?_ ?_
 ·intro hc5
  try simp only [nrm] at hc5
  refine rP Z (rP Z (rP Z (rP Z (rP Z (rP Z (o_pick_t Z Z Z (q3 (W_true Z (q2 (o_buildSlice H underlying23 sizeOf105 (fun w => ⟨_, zeroValue105 w, Z⟩) Z Z Z Z Z Z Z ?_)))))))))); intro b6 w6 hb6 H
  have H := H.blkAcc 3 (k := 0) (n := 0) rfl rfl (by decide)
  refine aG Z (aG Z (q3 (W_ret (N_K_ret (rt2 results103 Z Z ?_)))))
  have hN : Sp.StoreKeep list id = none := by simp [Sp.StoreKeep, Sp.atH, Sp.at_none hc5]
  exact H.retO (k := 0) rfl (by rw [hN]; exact ⟨_, rfl, AccOf.mk aN (Chk.nil (E := heldE) (sz := 3) (G := G0))⟩) (acc_nd _ _ _ _ _)
 intro hc5'
 try simp only [nrm] at hc5'
 obtain ⟨i, x, hi1, hi2, hi3, hi4, hi5⟩ := Sp.at_nat hc5'
 have hl : Sp.atH list id = some i := hi1
 refine gR Z (mV Z (gR Z (mV Z (gR Z (o_index_P i hlist underlying23 sizeOf105 Z Z Z hi2 aN ?_))))); intro b7 o7 z7 q7 hz7 hE7 hrow7
 obtain ⟨a7, m7, c7, rfl, hi7, hr7, hj7⟩ := hE7; have hn_hr7 := hr7.len; have hx_hr7 : _ ≤ 1099511627776 := hr7.lim
 refine gR Z (o_fieldAddr 2 runUnderlying105 Z sizeOf3 Z Z Z (gR Z (o_load_P H isAgg3 Z Z (hrow7 2 _ Z) (gR Z (o_eql Z Z Z (o_pick_f Z Z Z (q3 ?_)))))))
 refine W_cond Z ?_ ?_
 ·intro hc8
  try simp only [nrm] at hc8
  refine q2 (o_buildSlice H underlying23 sizeOf105 (fun w => ⟨_, zeroValue105 w, Z⟩) Z Z Z Z Z Z Z ?_); intro b9 w9 hb9 H
  have H := H.blkAcc 3 (k := 0) (n := 0) rfl rfl (by decide)
  refine aG Z (aG Z (q3 (W_ret (N_K_ret (rt2 results103 Z Z ?_)))))
  have hN : Sp.StoreKeep list id = none := by simp [Sp.StoreKeep, hl, hz7, hc8]
  exact H.retO (k := 0) rfl (by rw [hN]; exact ⟨_, rfl, AccOf.mk aN (Chk.nil (E := heldE) (sz := 3) (G := G0))⟩) (acc_nd _ _ _ _ _)
 intro hc8'
 try simp only [nrm] at hc8'
 refine W_skip (N_K (q2 (mV Z (o_call call102 Z Z (l3Copy_c _ _ H.sub _ _ hlist ) ?_))))
 rintro _ w10 ⟨G10, v10, _, g10, rfl, ⟨cs10, rfl, hchk10⟩, hp10, hq10, hs10⟩
 have H := H.growO g10 hp10 hq10 hs10; obtain ⟨av10, cv10, rfl⟩ := H.accShape (k := 0) rfl
 refine ⟨_, Z, ?_⟩
 refine aG Z (q1 (mV Z (mV Z (mV Z (mV Z (o_index_A 0 H i Z hchk10 underlying23 sizeOf105 Z Z Z hi2 aN aN ?_)))))); intro ba11 z11 q11 hba11 hz11 hE11 hg11; cases hba11
 obtain ⟨a11, m11, c11, rfl, hi11, hr11, hj11⟩ := hE11; have hn_hr11 := hr11.len; have hx_hr11 : _ ≤ 1099511627776 := hr11.lim
 have hsv := Sp.valid_at hc3' hz11
 refine o_fieldAddr 2 runUnderlying105 Z sizeOf3 Z Z Z (o_load_A 0 H isAgg3 Z Z Z (hg11 2 _ Z) (o_add Z Z Z oO (o_index_A 0 H i Z hchk10 underlying23 sizeOf105 Z Z Z hi2 aN aN ?_))); intro ba13 z13 q13 hba13 hz13 hE13 hg13; cases hba13
 obtain ⟨a13, m13, c13, rfl, hi13, hr13, hj13⟩ := hE13; have hn_hr13 := hr13.len; have hx_hr13 : _ ≤ 1099511627776 := hr13.lim
 have hzz13 : z11 = z13 := Option.some.inj (hz11.symm.trans hz13)
 subst hzz13
 refine o_fieldAddr 2 runUnderlying105 Z sizeOf3 Z Z Z ?_
 have hcl14 := hchk10.length
 refine o_store_A 0 H sizeOf3 Z Z Z Z Z (by simp only [vc, List.length_cons, List.length_nil]; omega) ?_; intro w14 H
 have hchk14 := hchk10.put (x' := ⟨z11.id, z11.bytes, z11.uses + 1⟩) (off := 2) (vs := [_]) hz13 (fun cs hl hE => by obtain ⟨_, _, _, rfl, h1, h2, h3⟩ := hE; exact ⟨_, _, _, rfl, h1, h2, ⟨by first | omega | (dsimp only; omega), by first | omega | (dsimp only; omega)⟩⟩) (by simp only [vc, List.length_cons, List.length_nil]; omega)
 refine q1 (mV Z (aG Z (aG Z (q3 (W_ret (rt2 results103 Z Z ?_))))))
 have hY : Sp.StoreKeep list id = some (list.set i ⟨z11.id, z11.bytes, z11.uses + 1⟩) := by (have hzz : z7 = z11 := Option.some.inj (hz7.symm.trans hz11)); rw [hzz] at hc8'; simp [Sp.StoreKeep, hc3', hl, hz11, hc8', Sp.bump_at hz11]
 exact H.retO (k := 0) rfl (by rw [hY]; exact ⟨_, rfl, AccOf.mk aN hchk14⟩) (acc_nd _ _ _ _ _)
theorem StoreDrop_c (w0 : World) (G0 : PH) (hG : PSub G0 w0) (vlist : Value) (list : List (BHeld)) (hlist : RdH G0 vlist list) (id : Int)  :
  Calls Tryz.prog 158 #[vlist, .int .i64 id] w0 (RetO w0 G0 (fun G v r => ∃ u, v = .tuple #[u, .bool (Sp.StoreDrop list id).isSome] ∧ AccOf heldE 3 105 ((Sp.StoreDrop list id).getD []) G u r)) := by
 obtain ⟨alist, klist, rfl⟩ := hlist.shape
 have hlimlist : list.length ≤ 1099511627776 := hlist.lim
 have H := Hp.init hG
 refine calls_of_W (l := [.slice alist list.length klist, .int .i64 id]) func158 Z ntmps158 Z (q2 (aG Z (aG Z (q1 (mV Z (mV Z (o_call call113 Z Z (l3At_c _ _ H.sub _ _ hlist _ ) ?_)))))))
 rintro _ w1 ⟨rfl, ew1⟩; have H := H.step ew1; refine ⟨_, rfl, ?_⟩
 refine aG Z (q3 (W_seq (q2 (mV Z (o_call call96 Z Z (StoreValid_c _ _ H.sub _ _ hlist ) ?_)))))
 rintro _ w2 ⟨rfl, ew2⟩; have H := H.step ew2; refine ⟨_, rfl, ?_⟩
 refine o_not Z Z (mV Z ?_)
 refine R_case (t := 14) Z ?_ ?_
 ·intro hc3
  try simp only [nrm] at hc3
  refine rP Z (rP Z (o_pick_t Z Z Z (q3 (W_true Z (q2 (o_buildSlice H underlying23 sizeOf105 (fun w => ⟨_, zeroValue105 w, Z⟩) Z Z Z Z Z Z Z ?_)))))); intro b4 w4 hb4 H
  have H := H.blkAcc 3 (k := 0) (n := 0) rfl rfl (by decide)
  refine aG Z (aG Z (q3 (W_ret (N_K_ret (rt2 results158 Z Z ?_)))))
  have hN : Sp.StoreDrop list id = none := by simp [Sp.StoreDrop, hc3]
  exact H.retO (k := 0) rfl (by rw [hN]; exact ⟨_, rfl, AccOf.mk aN (Chk.nil (E := heldE) (sz := 3) (G := G0))⟩) (acc_nd _ _ _ _ _)
 intro hc3'
 try simp only [nrm] at hc3'
 refine gR Z (mV Z (gR Z (o_lss Z Z Z (o_pick_f Z Z Z (q3 ?_)))))
 refine W_cond Z ?_ ?_
 ·intro hc5
  try simp only [nrm] at hc5
  refine q2 (o_buildSlice H underlying23 sizeOf105 (fun w => ⟨_, zeroValue105 w, Z⟩) Z Z Z Z Z Z Z ?_); intro b6 w6 hb6 H
  have H := H.blkAcc 3 (k := 0) (n := 0) rfl rfl (by decide)
  refine aG Z (aG Z (q3 (W_ret (N_K_ret (rt2 results158 Z Z ?_)))))
  have hN : Sp.StoreDrop list id = none := by simp [Sp.StoreDrop, Sp.atH, Sp.at_none hc5]
  exact H.retO (k := 0) rfl (by rw [hN]; exact ⟨_, rfl, AccOf.mk aN (Chk.nil (E := heldE) (sz := 3) (G := G0))⟩) (acc_nd _ _ _ _ _)
 intro hc5'
 try simp only [nrm] at hc5'
 obtain ⟨i, x, hi1, hi2, hi3, hi4, hi5⟩ := Sp.at_nat hc5'
 have hi2 : Sp.l3At list id = (i : Int) := hi2
 have hl : Sp.atH list id = some i := hi1
 refine W_skip (N_K (q2 (mV Z (o_call call102 Z Z (l3Copy_c _ _ H.sub _ _ hlist ) ?_))))
 rintro _ w7 ⟨G7, v7, _, g7, rfl, ⟨cs7, rfl, hchk7⟩, hp7, hq7, hs7⟩
 have H := H.growO g7 hp7 hq7 hs7; obtain ⟨av7, cv7, rfl⟩ := H.accShape (k := 0) rfl
 refine ⟨_, Z, ?_⟩
 refine aG Z (q3 (W_seq (q2 (mV Z (mV Z (o_index_A 0 H i Z hchk7 underlying23 sizeOf105 Z Z Z hi2 aN aN ?_)))))); intro ba8 z8 q8 hba8 hz8 hE8 hg8; cases hba8
 obtain ⟨a8, m8, c8, rfl, hi8, hr8, hj8⟩ := hE8; have hn_hr8 := hr8.len; have hx_hr8 : _ ≤ 1099511627776 := hr8.lim
 have hsv := Sp.valid_at hc3' hz8
 refine o_fieldAddr 2 runUnderlying105 Z sizeOf3 Z Z Z (o_load_A 0 H isAgg3 Z Z Z (hg8 2 _ Z) (o_eql Z Z Z (q3 ?_)))
 refine W_cond Z ?_ ?_
 ·intro hc9
  try simp only [nrm] at hc9
  refine W_seq (W_drawK [] 10 H kR Z ?_); intro w10 H; have hd10 := PLe.refl G7
  refine vM 0 Z Z (vM 1 Z Z ?_)
  have hac11 := H.accCap (k := 0) rfl
  refine RD_t 2 Z kR Z (fun _ hK => v_slice_to (j := i) underlying23 sizeOf105 Z Z hi2 oM) (vM 3 Z Z (vM 4 Z Z (RD_t 5 Z kR Z (fun _ hK => v_add Z Z oO) ?_)))
  have hac13 := H.accCap (k := 0) rfl
  refine RD_t 6 Z kR Z (fun _ hK => v_slice_from (i := (i + 1)) underlying23 sizeOf105 Z Z oM oM) ?_
  refine RD_run [7] kR Z (RDs.cons Z ?_ RDs.nil)
  refine o_append_del 0 H i Z hchk7 (by intro z cs hz u hu; obtain ⟨_, _, _, rfl, _⟩ := hz; simp at hu; rcases hu with rfl | rfl | rfl <;> rfl) underlying23 typeInfo105 rfl rfl rfl rfl oM aN ?_; intro b14 w14 hb14 H hchk14; cases hb14
  refine R_nil (N_DK (Kn.of' H hd10 SubL.nil) (RD_t 8 Z kR Z (fun _ hK => v_assign Z) (RD_t 9 Z kR Z (fun _ hK => v_assign Z) (RD_done kR (N_K (W_ret (N_K_ret (rt2 results158 Z Z ?_))))))))
  have hY : Sp.StoreDrop list id = some (list.take i ++ list.drop (i + 1)) := by simp [Sp.StoreDrop, hc3', hl, hz8, hc9]
  exact H.retO (k := 0) rfl (by rw [hY]; exact ⟨_, rfl, AccOf.mk aN hchk14⟩) (acc_nd _ _ _ _ _)
 intro hc9'
 try simp only [nrm] at hc9'
 refine W_skip (N_K (q2 (mV Z (mV Z (mV Z (mV Z (o_index_A 0 H i Z hchk7 underlying23 sizeOf105 Z Z Z hi2 aN aN ?_))))))); intro ba15 z15 q15 hba15 hz15 hE15 hg15; cases hba15
 obtain ⟨a15, m15, c15, rfl, hi15, hr15, hj15⟩ := hE15; have hn_hr15 := hr15.len; have hx_hr15 : _ ≤ 1099511627776 := hr15.lim
 have hzz15 : z8 = z15 := Option.some.inj (hz8.symm.trans hz15)
 subst hzz15
 refine o_fieldAddr 2 runUnderlying105 Z sizeOf3 Z Z Z (o_load_A 0 H isAgg3 Z Z Z (hg15 2 _ Z) (o_sub Z Z Z oO (o_index_A 0 H i Z hchk7 underlying23 sizeOf105 Z Z Z hi2 aN aN ?_))); intro ba17 z17 q17 hba17 hz17 hE17 hg17; cases hba17
 obtain ⟨a17, m17, c17, rfl, hi17, hr17, hj17⟩ := hE17; have hn_hr17 := hr17.len; have hx_hr17 : _ ≤ 1099511627776 := hr17.lim
 have hzz17 : z8 = z17 := Option.some.inj (hz8.symm.trans hz17)
 subst hzz17
 refine o_fieldAddr 2 runUnderlying105 Z sizeOf3 Z Z Z ?_
 have hcl18 := hchk7.length
 refine o_store_A 0 H sizeOf3 Z Z Z Z Z (by simp only [vc, List.length_cons, List.length_nil]; omega) ?_; intro w18 H
 have hchk18 := hchk7.put (x' := ⟨z8.id, z8.bytes, z8.uses + (-1)⟩) (off := 2) (vs := [_]) hz17 (fun cs hl hE => by obtain ⟨_, _, _, rfl, h1, h2, h3⟩ := hE; exact ⟨_, _, _, rfl, h1, h2, ⟨by first | omega | (dsimp only; omega), by first | omega | (dsimp only; omega)⟩⟩) (by simp only [vc, List.length_cons, List.length_nil]; omega)
 refine q1 (mV Z (aG Z (aG Z (q3 (W_ret (rt2 results158 Z Z ?_))))))
 have hY : Sp.StoreDrop list id = some (list.set i ⟨z8.id, z8.bytes, z8.uses + (-1)⟩) := by simp [Sp.StoreDrop, hc3', hl, hz8, hc9', Sp.bump_at hz8]
 exact H.retO (k := 0) rfl (by rw [hY]; exact ⟨_, rfl, AccOf.mk aN hchk18⟩) (acc_nd _ _ _ _ _)
end Go.Proofs.Tst

namespace Go.Proofs.Tst
open Go Fw Tryz
theorem l12Keep_c (w0 : World) (G0 : PH) (hG : PSub G0 w0) (vstore : Value) (store : List (BHeld)) (hstore : RdH G0 vstore store) (vlist : Value) (list : List (BItem)) (hlist : RdItems G0 vlist list)  :
  Calls Tryz.prog 47 #[vstore, vlist] w0 (RetO w0 G0 (fun G v r => ∃ u, v = .tuple #[u, .bool (Sp.l12Keep store list).isSome] ∧ AccOf heldE 3 105 ((Sp.l12Keep store list).getD []) G u r)) := by
 obtain ⟨astore, kstore, rfl⟩ := hstore.shape
 have hlimstore : store.length ≤ 1099511627776 := hstore.lim
 obtain ⟨alist, klist, rfl⟩ := hlist.shape
 have hlimlist : list.length ≤ 1099511627776 := hlist.lim
 have H := Hp.init hG
 refine calls_of_W (l := [.slice astore store.length kstore, .slice alist list.length klist]) func47 Z ntmps47 Z (q2 (aG Z (aG Z (q1 (mV Z (o_call call102 Z Z (l3Copy_c _ _ H.sub _ _ hstore ) ?_))))))
 rintro _ w1 ⟨G1, v1, _, g1, rfl, ⟨cs1, rfl, hchk1⟩, hp1, hq1, hs1⟩
 have H := H.growO g1 hp1 hq1 hs1; obtain ⟨av1, cv1, rfl⟩ := H.accShape (k := 0) rfl
 have hlist := hlist.up g1.le
 refine ⟨_, Z, ?_⟩
 refine aG Z (q3 (W_seq (q2 (aG Z (q3 (W_block ?_))))))
 refine W_lp (hf := (Sub.cons (t := 1) Z Sub.nil)) (J := fun M w m => ∃ (vo : Value) (no : Nat) (cso : List Value) (xso : List (BHeld)) (k : Nat) (G : PH), M = [(7, .int .i64 (k : Int)), (6, vo)] ∧ PLe G1 G ∧ Hp w0 G0 [] w G [acc 105 3 vo no cso] ∧ (Chk heldE 3 G cso xso ∧ no = xso.length ∧ k ≤ list.length ∧ xso.length = store.length ∧ Sp.foldB Sp.keepT (list.take k) (some store) = some xso) ∧ m = (list.length - k)) (h0 := ⟨_, _, _, store, 0, _, Z, PLe.refl _, H, ?inv, Z⟩) (round := ?round)
 case inv => exact ⟨hchk1,  by first | rfl | simp | (simp; omega) | omega, (by exact ⟨by omega, rfl, by simp [Sp.foldB]⟩)⟩
 case round =>
  rintro _ w2 _ ⟨vo, no, cso, xso, k, G2, rfl, hle2, H, hinv2, rfl⟩
  have hlist := hlist.up hle2
  obtain ⟨hchk2_0, hn2_0, hinv2⟩ := hinv2
  obtain ⟨av2_0, cv2_0, rfl⟩ := H.accShape (k := 0) rfl
  obtain ⟨hk, hxl, hf⟩ := hinv2
  refine W_seq (q2 (mV Z (mV Z (o_len_slice underlying24 Z Z (o_lss Z Z Z (q3 ?_))))))
  refine W_cond Z ?_ ?_
  ·intro hc3
   try simp only [nrm] at hc3
   refine W_skip (N_K (W_seq (W_block (q2 (aG Z (q3 (W_block ?_)))))))
   refine W_lp (hf := (Sub.cons (t := 1) Z (Sub.cons (t := 7) Z Sub.nil))) (J := fun M w m => ∃ (v : Value) (n : Nat) (cs : List Value) (xs : List (BHeld)) (j : Nat) (y : BItem) (G : PH), M = [(8, .int .i64 (j : Int)), (6, v)] ∧ PLe G2 G ∧ Hp w0 G0 [] w G [acc 105 3 v n cs] ∧ (Chk heldE 3 G cs xs ∧ n = xs.length ∧ list[k]? = some y ∧ j ≤ y.ids.length ∧ xs.length = store.length ∧ Sp.foldB Sp.StoreKeep (y.ids.take j) (some xso) = some xs) ∧ m = (y.ids.length - j)) (h0 := ⟨_, _, _, xso, 0, (list[k]'oM), _, Z, PLe.refl _, H, ?inv, Z⟩) (round := ?round)
   case inv => exact ⟨hchk2_0,  by first | rfl | simp | (simp; omega) | omega, (by exact ⟨by simp, by omega, hxl, by simp [Sp.foldB]⟩)⟩
   case round =>
    rintro _ w4 _ ⟨v, n, cs, xs, j, y, G4, rfl, hle4, H, hinv4, rfl⟩
    have hlist := hlist.up hle4
    have hle2 := hle2.trans hle4
    obtain ⟨hchk4_0, hn4_0, hinv4⟩ := hinv4
    obtain ⟨av4_0, cv4_0, rfl⟩ := H.accShape (k := 0) rfl
    obtain ⟨hy, hj, hxl2, hf2⟩ := hinv4
    refine W_seq (q2 (mV Z (mV Z (mV Z (o_index_P k hlist underlying24 sizeOf37 Z Z Z Z aN ?_))))); intro b5 o5 z5 q5 hz5 hE5 hrow5
    obtain ⟨a5, m5, c5, rfl, hi5, hr5⟩ := hE5; have hy_hi5 : _ ≤ 16777216 := hi5; have hn_hr5 := hr5.len; have hx_hr5 : _ ≤ 1099511627776 := hr5.lim
    have hzz5 : y = z5 := Option.some.inj (hy.symm.trans hz5)
    subst hzz5
    refine o_fieldAddr 2 runUnderlying37 Z sizeOf33 Z Z Z (o_load_P H isAgg33 Z Z (hrow5 2 _ Z) (o_len_slice underlying33 Z Z (o_lss Z Z Z (q3 ?_))))
    refine W_cond Z ?_ ?_
    ·intro hc6
     try simp only [nrm] at hc6
     refine W_skip (N_K (W_seq (W_block (q2 (mV Z (mV Z (mV Z (o_index_P k hlist underlying24 sizeOf37 Z Z Z Z aN ?_)))))))); intro b7 o7 z7 q7 hz7 hE7 hrow7
     obtain ⟨a7, m7, c7, rfl, hi7, hr7⟩ := hE7; have hy_hi7 : _ ≤ 16777216 := hi7; have hn_hr7 := hr7.len; have hx_hr7 : _ ≤ 1099511627776 := hr7.lim
     have hzz7 : y = z7 := Option.some.inj (hy.symm.trans hz7)
     subst hzz7
     refine o_fieldAddr 2 runUnderlying37 Z sizeOf33 Z Z Z (o_load_P H isAgg33 Z Z (hrow7 2 _ Z) (mV Z (o_index_P j hr7 underlying33 sizeOf3 Z Z Z Z aN ?_))); intro b8 o8 z8 q8 hz8 hE8 hrow8
     obtain ⟨rfl, hi8⟩ := hE8
     refine o_load_P H isAgg3 Z Z (hrow8 0 _ Z) ?_
     obtain ⟨G10, H, hsg10, hsr10⟩ := H.shut' (k := 0) rfl hchk4_0 aN aN
     have hle4 := hle4.trans hsg10
     refine o_call call103 Z Z (StoreKeep_c _ _ H.sub _ _ hsr10 _ ) ?_
     rintro _ w9 ⟨G9, _, _, g9, rfl, ⟨u9_0, rfl, ⟨cs9, rfl, hchk9⟩⟩, hp9, hq9, hs9⟩
     have H := H.growO g9 hp9 hq9 hs9; obtain ⟨av9, cv9, rfl⟩ := H.accShape (k := 0) rfl
     have hle4 := hle4.trans g9.le
     refine ⟨_, Z, ?_⟩
     refine mV Z (o_extract Z Z Z (o_extract Z Z Z (aG Z (aG Z (q3 (W_seq (q2 (mV Z (o_not Z Z (q3 ?_))))))))))
     refine W_cond Z ?_ ?_
     ·intro hc11
      try simp only [nrm] at hc11
      refine q2 (o_buildSlice H underlying23 sizeOf105 (fun w => ⟨_, zeroValue105 w, Z⟩) Z Z Z Z Z Z Z ?_); intro b12 w12 hb12 H
      have H := H.blkAcc 3 (k := 0) (n := 0) rfl rfl (by decide)
      refine aG Z (aG Z (q3 (W_ret (N_K_ret (N_B_ret (N_K_ret (N_LP_ret (N_B_ret (N_B_ret (N_K_ret (N_LP_ret (N_B_ret (N_K_ret (rt2 results47 Z Z ?_))))))))))))))
      have hN : Sp.l12Keep store list = none := by (have hno : Sp.StoreKeep xs z8 = none := by simpa using hc11); unfold Sp.l12Keep; exact Sp.foldB_stop hf hy (by unfold Sp.keepT; exact Sp.foldB_stop hf2 hz8 hno)
      exact H.retO (k := 0) rfl (by rw [hN]; exact ⟨_, rfl, AccOf.mk aN (Chk.nil (E := heldE) (sz := 3) (G := G9))⟩) (acc_nd _ _ _ _ _)
     intro hc11'
     try simp only [nrm] at hc11'
     obtain ⟨p, hsp⟩ := Option.isSome_iff_exists.1 hc11'
     rw [hsp] at H hchk9 ⊢
     dsimp only [Option.map, Option.getD] at H hchk9
     refine W_skip (N_K (W_region (mV Z (aG Z (R_nil (N_B (N_K (W_region (mV Z (o_add Z Z Z oO (aG Z (R_nil ?_))))))))))))
     refine N_lp (hJ := ⟨_, _, _, p, j + 1, y, _, Z, hle4, H, ?inv, Z⟩) (hm := ?hm)
     case hm => omega
     case inv => exact ⟨hchk9, aN, (by exact ⟨hy, by omega, by rw [Sp.keep_len hsp]; exact hxl2, Sp.foldB_succ hf2 hz8 hsp⟩)⟩
    intro hc6'
    try simp only [nrm] at hc6'
    refine W_exit (N_K_exit (N_LP_exit (N_B_same (N_B (N_K (W_region (mV Z (o_add Z Z Z oO (aG Z (R_nil ?_))))))))))
    refine N_lp (hJ := ⟨_, _, _, xs, k + 1, _, Z, hle2, H, ?inv, Z⟩) (hm := ?hm)
    case hm => omega
    case inv => exact ⟨hchk4_0, aN, (by exact ⟨by omega, hxl2, Sp.foldB_succ hf hy (by unfold Sp.keepT; exact Sp.foldB_all hf2 oM)⟩)⟩
  intro hc3'
  try simp only [nrm] at hc3'
  refine W_exit (N_K_exit (N_LP_exit (N_B_same (N_K (q2 (mV Z (aG Z (aG Z (q3 (W_ret (rt2 results47 Z Z ?_)))))))))))
  have hY : Sp.l12Keep store list = some xso := by unfold Sp.l12Keep; exact Sp.foldB_all hf oM
  exact H.retO (k := 0) rfl (by rw [hY]; exact ⟨_, rfl, AccOf.mk aN hchk2_0⟩) (acc_nd _ _ _ _ _)
end Go.Proofs.Tst

namespace Go.Proofs.Tst
open Go Fw Tryz
theorem l4Ids_c (w0 : World) (G0 : PH) (hG : PSub G0 w0) (vlist : Value) (list : List (BHeld)) (hlist : RdH G0 vlist list) (vids : Value) (ids : List (Int)) (hids : RdI G0 vids ids)  :
  Calls Tryz.prog 147 #[vlist, vids] w0 (Rets w0 (.bool (Sp.l4Ids list ids))) := by
 obtain ⟨alist, klist, rfl⟩ := hlist.shape
 have hlimlist : list.length ≤ 1099511627776 := hlist.lim
 obtain ⟨aids, kids, rfl⟩ := hids.shape
 have hlimids : ids.length ≤ 1099511627776 := hids.lim
 have H := Hp.init hG
 refine calls_of_W (l := [.slice alist list.length klist, .slice aids ids.length kids]) func147 Z ntmps147 Z (q2 (aG Z (q3 (W_seq (q2 (aG Z (q3 (W_block ?_))))))))
 refine W_lp (hf := (Sub.cons (t := 0) Z (Sub.cons (t := 1) Z Sub.nil))) (J := fun M w m => ∃ (k : Nat) (G : PH), M = [(5, .int .i64 (k : Int))] ∧ PLe G0 G ∧ Hp w0 G0 [] w G [] ∧ (k ≤ ids.length ∧ ∀ j, j < k → Sp.idsOk list ids j = true) ∧ m = (ids.length - k)) (h0 := ⟨0, _, Z, PLe.refl _, H, ?inv, Z⟩) (round := ?round)
 case inv => exact ⟨by omega, fun j hj => by omega⟩
 case round =>
  rintro _ w1 _ ⟨k, G1, rfl, hle1, H, hinv1, rfl⟩
  have hlist := hlist.up hle1
  have hids := hids.up hle1
  obtain ⟨hk, hall⟩ := hinv1
  refine W_seq (q2 (mV Z (mV Z (o_len_slice underlying33 Z Z (o_lss Z Z Z (q3 ?_))))))
  refine W_cond Z ?_ ?_
  ·intro hc2
   try simp only [nrm] at hc2
   refine W_skip (N_K (W_seq (W_block (q2 (mV Z (mV Z (mV Z (o_index_P k hids underlying33 sizeOf3 Z Z Z Z aN ?_)))))))); intro b3 o3 z3 q3 hz3 hE3 hrow3
   obtain ⟨rfl, hi3⟩ := hE3
   refine o_load_P H isAgg3 Z Z (hrow3 0 _ Z) (o_call call113 Z Z (l3At_c _ _ H.sub _ _ hlist _ ) ?_)
   rintro _ w4 ⟨rfl, ew4⟩; have H := H.step ew4; refine ⟨_, rfl, ?_⟩
   refine aG Z (q1 (mV Z (o_lss Z Z Z (mV Z ?_))))
   refine R_case (t := 21) Z ?_ ?_
   ·intro hc5
    try simp only [nrm] at hc5
    refine rP Z (rP Z (rP Z (rP Z (rP Z (rP Z (R_pass Z (yl_un Z Z) (R_pass Z (yl_un Z Z) (R_pass Z (yl_un Z Z) (R_pass Z (yl_un Z Z) (R_pass Z (yl_un Z Z) (R_pass Z (yl_un Z Z) (R_pass Z (yl_un Z Z) (rP Z (o_pick_t Z Z Z (q3 ?_)))))))))))))))
    refine W_true Z (q2 (aG Z (q3 (W_ret (N_B_ret (N_K_ret (N_LP_ret (N_B_ret (N_K_ret (rt1 results147 Z ?_))))))))))
    exact H.rets (congrArg Value.bool (by rw [Sp.l4Ids, Sp.not_all_range (k := k) oM (by simp [Sp.idsOk, hz3, Sp.atH, Sp.at_none hc5])]; rfl))
   intro hc5'
   try simp only [nrm] at hc5'
   obtain ⟨i, x, hi1, hi2, hi3, hi4, hi5⟩ := Sp.at_nat hc5'
   have hl : Sp.atH list z3 = some i := hi1
   refine gR Z (mV Z (gR Z (o_add Z Z Z oO (gR Z (mV Z (gR Z (o_len_slice underlying33 Z Z (gR Z (o_lss Z Z Z (gR Z (mV Z ?_)))))))))))
   refine R_case (t := 27) Z ?_ ?_
   ·intro hc7
    try simp only [nrm] at hc7
    refine gR Z (mV Z (gR Z (mV Z (gR Z (o_index_P i hlist underlying23 sizeOf105 Z Z Z hi2 aN ?_))))); intro b8 o8 z8 q8 hz8 hE8 hrow8
    obtain ⟨a8, m8, c8, rfl, hi8, hr8, hj8⟩ := hE8; have hn_hr8 := hr8.len; have hx_hr8 : _ ≤ 1099511627776 := hr8.lim
    have hzz : x = z8 := Option.some.inj (hi4.symm.trans hz8)
    subst hzz
    refine gR Z (o_fieldAddr 1 runUnderlying105 Z sizeOf33 Z Z Z (gR Z (o_load_P H isAgg33 Z Z (hrow8 1 _ Z) (gR Z (o_len_slice underlying33 Z Z (gR Z (o_lss Z Z Z (gR Z (o_pick_t Z Z Z (o_pick_f Z Z Z (q3 ?_)))))))))))
    refine W_cond Z ?_ ?_
    ·intro hc9
     try simp only [nrm] at hc9
     refine q2 (aG Z (q3 (W_ret (N_B_ret (N_K_ret (N_LP_ret (N_B_ret (N_K_ret (rt1 results147 Z ?_)))))))))
     exact H.rets (congrArg Value.bool (by rw [Sp.l4Ids, Sp.not_all_range (k := k) oM (by simp [Sp.idsOk, hz3, hl, hi4]; omega)]; rfl))
    intro hc9'
    try simp only [nrm] at hc9'
    refine W_skip (N_B (N_K (W_region (mV Z (o_add Z Z Z oO (aG Z (R_nil ?_)))))))
    refine N_lp (hJ := ⟨k + 1, _, Z, hle1, H, ?inv, Z⟩) (hm := ?hm)
    case hm => omega
    case inv => exact ⟨by omega, Sp.upto_succ hall (by simp [Sp.idsOk, hz3, hl, hi4]; omega)⟩
   intro hc7'
   try simp only [nrm] at hc7'
   refine rP Z (rP Z (rP Z (rP Z (rP Z (rP Z (rP Z (gR Z (o_pick_f Z Z Z (o_pick_f Z Z Z (q3 (W_false Z (W_skip (N_B (N_K (W_region ?_)))))))))))))))
   refine mV Z (o_add Z Z Z oO (aG Z (R_nil ?_)))
   refine N_lp (hJ := ⟨k + 1, _, Z, hle1, H, ?inv, Z⟩) (hm := ?hm)
   case hm => omega
   case inv => exact ⟨by omega, Sp.upto_succ hall (by simp [Sp.idsOk, hz3, hl, hi4]; omega)⟩
  intro hc2'
  try simp only [nrm] at hc2'
  refine W_exit (N_K_exit (N_LP_exit (N_B_same (N_K (q2 (mV Z (o_len_slice underlying33 Z Z (o_leq Z Z Z (aG Z (q3 (W_ret (rt1 results147 Z ?_))))))))))))
  exact H.rets (congrArg Value.bool (by rw [Sp.l4Ids, Sp.all_range (fun j hj => hall j oM), Bool.true_and]; rw [Bool.eq_iff_iff]; simp; omega))
end Go.Proofs.Tst

namespace Go.Proofs.Tst
open Go Fw Tryz
theorem l11Count_c (w0 : World) (G0 : PH) (hG : PSub G0 w0) (vlist : Value) (list : List (BItem)) (hlist : RdItems G0 vlist list) (id : Int) (hT : Sp.TreeValid list = true) :
  Calls Tryz.prog 148 #[vlist, .int .i64 id] w0 (Rets w0 (.int .i64 (Sp.l11Count list id : Int))) := by
 obtain ⟨alist, klist, rfl⟩ := hlist.shape
 have hlimlist : list.length ≤ 1099511627776 := hlist.lim
 have htl := Sp.tree_len hT
 have H := Hp.init hG
 refine calls_of_W (l := [.slice alist list.length klist, .int .i64 id]) func148 Z ntmps148 Z (q2 (aG Z (q1 (aG Z (q3 (W_seq (q2 (aG Z (q3 (W_block ?_))))))))))
 refine W_lp (hf := (Sub.cons (t := 0) Z (Sub.cons (t := 1) Z (Sub.cons (t := 4) Z Sub.nil)))) (J := fun M w m => ∃ (c k : Nat) (G : PH), M = [(5, .int .i64 (c : Int)), (6, .int .i64 (k : Int))] ∧ PLe G0 G ∧ Hp w0 G0 [] w G [] ∧ (k ≤ list.length ∧ c = Sp.cntU list id k) ∧ m = (list.length - k)) (h0 := ⟨0, 0, _, Z, PLe.refl _, H, ?inv, Z⟩) (round := ?round)
 case inv => exact ⟨by omega, by simp [Sp.cntU]⟩
 case round =>
  rintro _ w1 _ ⟨c, k, G1, rfl, hle1, H, hinv1, rfl⟩
  have hlist := hlist.up hle1
  obtain ⟨hk, hc⟩ := hinv1; have hcu := Sp.cntU_le hT k hk (id := id)
  refine W_seq (q2 (mV Z (mV Z (o_len_slice underlying24 Z Z (o_lss Z Z Z (q3 ?_))))))
  refine W_cond Z ?_ ?_
  ·intro hc2
   try simp only [nrm] at hc2
   refine W_skip (N_K (W_seq (W_block (q2 (aG Z (q3 (W_block ?_)))))))
   refine W_lp (hf := (Sub.cons (t := 0) Z (Sub.cons (t := 1) Z (Sub.cons (t := 4) Z (Sub.cons (t := 6) Z Sub.nil))))) (J := fun M w m => ∃ (c2 j : Nat) (y : BItem) (G : PH), M = [(5, .int .i64 (c2 : Int)), (7, .int .i64 (j : Int))] ∧ PLe G1 G ∧ Hp w0 G0 [] w G [] ∧ (list[k]? = some y ∧ j ≤ y.ids.length ∧ c2 = Sp.cntU list id k + Sp.cnt1 id (y.ids.take j)) ∧ m = (y.ids.length - j)) (h0 := ⟨c, 0, (list[k]'oM), _, Z, PLe.refl _, H, ?inv, Z⟩) (round := ?round)
   case inv => exact ⟨by simp, by omega, by simp [hc, Sp.cnt1]⟩
   case round =>
    rintro _ w3 _ ⟨c2, j, y, G3, rfl, hle3, H, hinv3, rfl⟩
    have hlist := hlist.up hle3
    have hle1 := hle1.trans hle3
    obtain ⟨hy, hj, hc2⟩ := hinv3; have hc4 := (Sp.tree_at hT hy).2; have hc1 := Sp.cnt1_le id (y.ids.take j); have htk : (y.ids.take j).length ≤ j := by simp; omega
    refine W_seq (q2 (mV Z (mV Z (mV Z (o_index_P k hlist underlying24 sizeOf37 Z Z Z Z aN ?_))))); intro b4 o4 z4 q4 hz4 hE4 hrow4
    obtain ⟨a4, m4, c4, rfl, hi4, hr4⟩ := hE4; have hy_hi4 : _ ≤ 16777216 := hi4; have hn_hr4 := hr4.len; have hx_hr4 : _ ≤ 1099511627776 := hr4.lim
    have hzz4 : y = z4 := Option.some.inj (hy.symm.trans hz4)
    subst hzz4
    refine o_fieldAddr 2 runUnderlying37 Z sizeOf33 Z Z Z (o_load_P H isAgg33 Z Z (hrow4 2 _ Z) (o_len_slice underlying33 Z Z (o_lss Z Z Z (q3 ?_))))
    refine W_cond Z ?_ ?_
    ·intro hc5
     try simp only [nrm] at hc5
     refine W_skip (N_K (W_seq (W_block (q2 (mV Z (mV Z (o_index_P k hlist underlying24 sizeOf37 Z Z Z Z aN ?_))))))); intro b6 o6 z6 q6 hz6 hE6 hrow6
     obtain ⟨a6, m6, c6, rfl, hi6, hr6⟩ := hE6; have hy_hi6 : _ ≤ 16777216 := hi6; have hn_hr6 := hr6.len; have hx_hr6 : _ ≤ 1099511627776 := hr6.lim
     have hzz6 : y = z6 := Option.some.inj (hy.symm.trans hz6)
     subst hzz6
     refine o_fieldAddr 2 runUnderlying37 Z sizeOf33 Z Z Z (o_load_P H isAgg33 Z Z (hrow6 2 _ Z) (mV Z (o_index_P j hr6 underlying33 sizeOf3 Z Z Z Z aN ?_))); intro b7 o7 z7 q7 hz7 hE7 hrow7
     obtain ⟨rfl, hi7⟩ := hE7
     refine o_load_P H isAgg3 Z Z (hrow7 0 _ Z) (mV Z (o_eql Z Z Z (q3 ?_)))
     refine W_cond Z ?_ ?_
     ·intro hc8
      try simp only [nrm] at hc8
      refine W_region (mV Z (o_add Z Z Z oO (aG Z (R_nil (N_B (N_K (W_region (mV Z (o_add Z Z Z oO (aG Z (R_nil ?_)))))))))))
      refine N_lp (hJ := ⟨c2 + 1, j + 1, y, _, Z, hle3, H, ?inv, Z⟩) (hm := ?hm)
      case hm => omega
      case inv => exact ⟨hy, by omega, by rw [Sp.cnt1_succ hz7, if_pos oM, hc2]; omega⟩
     intro hc8'
     try simp only [nrm] at hc8'
     refine W_skip (N_B (N_K (W_region (mV Z (o_add Z Z Z oO (aG Z (R_nil ?_)))))))
     refine N_lp (hJ := ⟨c2, j + 1, y, _, Z, hle3, H, ?inv, Z⟩) (hm := ?hm)
     case hm => omega
     case inv => exact ⟨hy, by omega, by rw [Sp.cnt1_succ hz7, if_neg oM, hc2]; omega⟩
    intro hc5'
    try simp only [nrm] at hc5'
    refine W_exit (N_K_exit (N_LP_exit (N_B_same (N_B (N_K (W_region (mV Z (o_add Z Z Z oO (aG Z (R_nil ?_))))))))))
    refine N_lp (hJ := ⟨c2, k + 1, _, Z, hle1, H, ?inv, Z⟩) (hm := ?hm)
    case hm => omega
    case inv => exact ⟨by omega, by rw [hc2, Sp.cntU_succ hy, List.take_of_length_le oM]⟩
  intro hc2'
  try simp only [nrm] at hc2'
  refine W_exit (N_K_exit (N_LP_exit (N_B_same (N_K (q2 (mV Z (aG Z (q3 (W_ret (rt1 results148 Z ?_))))))))))
  obtain rfl : k = list.length := by omega
  exact H.rets (congrArg (Value.int .i64) (by rw [hc]; rfl))
theorem l11Files_c (w0 : World) (G0 : PH) (hG : PSub G0 w0) (vstore : Value) (store : List (BHeld)) (hstore : RdH G0 vstore store) (vlist : Value) (list : List (BItem)) (hlist : RdItems G0 vlist list)  :
  Calls Tryz.prog 98 #[vstore, vlist] w0 (Rets w0 (.bool (Sp.l11Files store list))) := by
 obtain ⟨astore, kstore, rfl⟩ := hstore.shape
 have hlimstore : store.length ≤ 1099511627776 := hstore.lim
 obtain ⟨alist, klist, rfl⟩ := hlist.shape
 have hlimlist : list.length ≤ 1099511627776 := hlist.lim
 have H := Hp.init hG
 refine calls_of_W (l := [.slice astore store.length kstore, .slice alist list.length klist]) func98 Z ntmps98 Z (q2 (aG Z (q3 (W_seq (q2 (aG Z (q3 (W_block ?_))))))))
 refine W_lp (hf := (Sub.cons (t := 0) Z (Sub.cons (t := 1) Z Sub.nil))) (J := fun M w m => ∃ (k : Nat) (G : PH), M = [(5, .int .i64 (k : Int))] ∧ PLe G0 G ∧ Hp w0 G0 [] w G [] ∧ (k ≤ list.length ∧ (list.take k).all (Sp.fileOk store) = true) ∧ m = (list.length - k)) (h0 := ⟨0, _, Z, PLe.refl _, H, ?inv, Z⟩) (round := ?round)
 case inv => exact ⟨by omega, by simp⟩
 case round =>
  rintro _ w1 _ ⟨k, G1, rfl, hle1, H, hinv1, rfl⟩
  have hstore := hstore.up hle1
  have hlist := hlist.up hle1
  obtain ⟨hk, hall⟩ := hinv1
  refine W_seq (q2 (mV Z (mV Z (o_len_slice underlying24 Z Z (o_lss Z Z Z (q3 ?_))))))
  refine W_cond Z ?_ ?_
  ·intro hc2
   try simp only [nrm] at hc2
   refine W_skip (N_K (W_seq (W_block (q2 (mV Z (mV Z (mV Z (o_index_P k hlist underlying24 sizeOf37 Z Z Z Z aN ?_)))))))); intro b3 o3 z3 q3 hz3 hE3 hrow3
   obtain ⟨a3, m3, c3, rfl, hi3, hr3⟩ := hE3; have hy_hi3 : _ ≤ 16777216 := hi3; have hn_hr3 := hr3.len; have hx_hr3 : _ ≤ 1099511627776 := hr3.lim
   refine o_fieldAddr 2 runUnderlying37 Z sizeOf33 Z Z Z (o_load_P H isAgg33 Z Z (hrow3 2 _ Z) (o_call call147 Z Z (l4Ids_c _ _ H.sub _ _ hstore _ _ hr3 ) ?_))
   rintro _ w4 ⟨rfl, ew4⟩; have H := H.step ew4; refine ⟨_, rfl, ?_⟩
   refine o_not Z Z (q3 ?_)
   refine W_cond Z ?_ ?_
   ·intro hc5
    try simp only [nrm] at hc5
    refine q2 (aG Z (q3 (W_ret (N_B_ret (N_K_ret (N_LP_ret (N_B_ret (N_K_ret (rt1 results98 Z ?_)))))))))
    exact H.rets (congrArg Value.bool (by rw [Sp.l11Files, Sp.all_false hz3 (by simp [Sp.fileOk, *])]))
   intro hc5'
   try simp only [nrm] at hc5'
   refine W_skip (N_B (N_K (W_region (mV Z (o_add Z Z Z oO (aG Z (R_nil ?_)))))))
   refine N_lp (hJ := ⟨k + 1, _, Z, hle1, H, ?inv, Z⟩) (hm := ?hm)
   case hm => omega
   case inv => exact ⟨by omega, Sp.all_take hall hz3 (by simp [Sp.fileOk, *])⟩
  intro hc2'
  try simp only [nrm] at hc2'
  refine W_exit (N_K_exit (N_LP_exit (N_B_same (N_K (q2 (aG Z (q3 (W_ret (rt1 results98 Z ?_)))))))))
  obtain rfl : k = list.length := by omega
  rw [List.take_length] at hall
  exact H.rets (congrArg Value.bool (by rw [Sp.l11Files, hall]))
theorem l11Ids_c (w0 : World) (G0 : PH) (hG : PSub G0 w0) (vlist : Value) (list : List (BItem)) (hlist : RdItems G0 vlist list) (path : Bs) (hpath : path.length ≤ 16777216)  :
  Calls Tryz.prog 56 #[vlist, str path] w0 (RetP w0 G0 (fun G v => RdItems G v (Sp.l11Ids list path))) := by
 obtain ⟨alist, klist, rfl⟩ := hlist.shape
 have hlimlist : list.length ≤ 1099511627776 := hlist.lim
 have H := Hp.init hG
 refine calls_of_W (l := [.slice alist list.length klist, str path]) func56 Z ntmps56 Z (q2 (aG Z (q1 (mV Z (mV Z (o_call call112 Z Z (l5At_c _ _ H.sub _ _ hlist _ hpath ) ?_))))))
 rintro _ w1 ⟨rfl, ew1⟩; have H := H.step ew1; refine ⟨_, rfl, ?_⟩
 refine aG Z (q3 (W_seq (q2 (mV Z (o_lss Z Z Z (mV Z ?_))))))
 refine R_case (t := 11) Z ?_ ?_
 ·intro hc2
  try simp only [nrm] at hc2
  refine rP Z (rP Z (rP Z (rP Z (rP Z (o_pick_t Z Z Z (q3 (W_true Z (q2 (o_buildSlice H underlying24 sizeOf37 (fun w => ⟨_, zeroValue37 w, Z⟩) Z Z Z Z Z Z Z ?_))))))))); intro b3 w3 hb3 H
  have H := H.blkAcc 3 (k := 0) (n := 0) rfl rfl (by decide)
  refine aG Z (q3 (W_ret (N_K_ret (rt1 results56 Z ?_))))
  obtain ⟨G504, H, hsg504, hsr504⟩ := H.shut' (k := 0) rfl (Chk.nil (E := itemE) (sz := 3) (G := G0)) aN aN
  exact H.retP (by rw [show Sp.l11Ids list path = [] by simp [Sp.l11Ids, Sp.atI, Sp.at_none hc2]]; exact hsr504)
 intro hc2'
 try simp only [nrm] at hc2'
 obtain ⟨i, y, ia, ib, ic, ie, ig⟩ := Sp.at_nat hc2'
 have ib : Sp.l5At list path = (i : Int) := ib
 have hl : Sp.atI list path = some i := ia
 refine gR Z (mV Z (gR Z (mV Z (gR Z (o_index_P i hlist underlying24 sizeOf37 Z Z Z ib aN ?_))))); intro b4 o4 z4 q4 hz4 hE4 hrow4
 obtain ⟨a4, m4, c4, rfl, hi4, hr4⟩ := hE4; have hy_hi4 : _ ≤ 16777216 := hi4; have hn_hr4 := hr4.len; have hx_hr4 : _ ≤ 1099511627776 := hr4.lim
 refine gR Z (o_fieldAddr 1 runUnderlying37 Z sizeOf4 Z Z Z (gR Z (o_load_P H isAgg4 Z Z (hrow4 1 _ Z) (o_pick_f Z Z Z (q3 ?_)))))
 refine W_cond Z ?_ ?_
 ·intro hc5
  try simp only [nrm] at hc5
  refine q2 (o_buildSlice H underlying24 sizeOf37 (fun w => ⟨_, zeroValue37 w, Z⟩) Z Z Z Z Z Z Z ?_); intro b6 w6 hb6 H
  have H := H.blkAcc 3 (k := 0) (n := 0) rfl rfl (by decide)
  refine aG Z (q3 (W_ret (N_K_ret (rt1 results56 Z ?_))))
  obtain ⟨G507, H, hsg507, hsr507⟩ := H.shut' (k := 0) rfl (Chk.nil (E := itemE) (sz := 3) (G := G0)) aN aN
  exact H.retP (by rw [show Sp.l11Ids list path = [] by simp [Sp.l11Ids, hl, hz4, hc5]]; exact hsr507)
 intro hc5'
 try simp only [nrm] at hc5'
 refine W_skip (N_K (q2 (mV Z (mV Z (mV Z (o_add Z Z Z oO ?_))))))
 have hcap8 := hlist.cap; try simp only [List.length_set, List.length_append, List.length_take, List.length_drop, List.length_replicate] at hcap8
 refine o_slice (i := i) (j := (i + 1)) underlying24 sizeOf37 Z Z Z Z ib oM aN aN ?_
 have hsl8 := hlist.part (i := i) (j := (i + 1)) oM oM
 have hsn1 := hsl8.len
 refine aG Z (q3 (W_ret (rt1 results56 Z ?_)))
 exact H.retP (by rw [show Sp.l11Ids list path = (list.drop i).take (i + 1 - i) by simp [Sp.l11Ids, hl, hz4, hc5', Sp.drop_at hz4]]; exact hsl8)
end Go.Proofs.Tst

namespace Go.Proofs.Tst
open Go Fw Tryz
theorem l12Count_c (w0 : World) (G0 : PH) (hG : PSub G0 w0) (cd : List Value) (d : BDisk) (hd : diskE G0 d cd) (id : Int) (hT : Sp.TreeValid d.tree = true) (hN : Sp.l12Snaps d = true) :
  Calls Tryz.prog 100 #[.agg cd.toArray, .int .i64 id] w0 (Rets w0 (.int .i64 (Sp.l12Count d id : Int))) := by
 obtain ⟨a1, m1, c1, a1', m1', c1', a1'', m1'', c1'', rfl, hr1, hr1', hr1''⟩ := hd; have hn_hr1 := hr1.len; have hx_hr1 : _ ≤ 1099511627776 := hr1.lim; have hn_hr1q := hr1'.len; have hx_hr1q : _ ≤ 1099511627776 := hr1'.lim; have hn_hr1qq := hr1''.len; have hx_hr1qq : _ ≤ 1099511627776 := hr1''.lim
 obtain ⟨hsl, hst⟩ := Sp.snaps_at hN
 have htc := Sp.l11Count_le hT (id := id)
 have H := Hp.init hG
 refine calls_of_W (l := [_, .int .i64 id]) func100 Z ntmps100 Z (q2 (o_box H Z Z Z ?_)); intro b2 w2 hb2 H
 refine aG Z (q1 (o_fieldAddr 1 runUnderlying27 Z sizeOf24 Z Z Z (o_load_B 0 H isAgg24 Z Z Z Z (mV Z (o_call call148 Z Z (l11Count_c _ _ H.sub _ _ hr1' _ hT) ?_)))))
 rintro _ w3 ⟨rfl, ew3⟩; have H := H.step ew3; refine ⟨_, rfl, ?_⟩
 refine aG Z (q3 (W_seq (q2 (aG Z (q3 (W_block ?_))))))
 obtain ⟨ln4, hln4, H⟩ := H.name (k := 0) rfl
 refine W_lp (hf := (Sub.cons (t := 1) Z (Sub.cons (t := 2) Z (Sub.cons (t := 4) Z Sub.nil)))) (J := fun M w m => ∃ (c k : Nat) (G : PH), M = [(5, .int .i64 (c : Int)), (6, .int .i64 (k : Int))] ∧ PLe G0 G ∧ Hp w0 G0 [] w G [blk b2 (cl ln4 27)] ∧ (k ≤ d.snaps.length ∧ c = Sp.l11Count d.tree id + Sp.cntS d.snaps id k) ∧ m = (d.snaps.length - k)) (h0 := ⟨(Sp.l11Count d.tree id), 0, _, Z, PLe.refl _, H, ?inv, Z⟩) (round := ?round)
 case inv => exact ⟨by omega, by simp [Sp.cntS]⟩
 case round =>
  rintro _ w5 _ ⟨c, k, G5, rfl, hle5, H, hinv5, rfl⟩
  subst hln4
  have hr1'' := hr1''.up hle5
  obtain ⟨hk, hc⟩ := hinv5; have hcu := Sp.cntS_le hst k hk (id := id)
  refine W_seq (q2 (mV Z (o_fieldAddr 2 runUnderlying27 Z sizeOf25 Z Z Z (o_load_B 0 H isAgg25 Z Z Z Z (o_len_slice underlying25 Z Z (o_lss Z Z Z (q3 ?_)))))))
  refine W_cond Z ?_ ?_
  ·intro hc6
   try simp only [nrm] at hc6
   refine W_skip (N_K (W_seq (W_block (W_region (mV Z (o_fieldAddr 2 runUnderlying27 Z sizeOf25 Z Z Z (o_load_B 0 H isAgg25 Z Z Z Z (mV Z (o_index_P k hr1'' underlying25 sizeOf81 Z Z Z Z aN ?_))))))))); intro b7 o7 z7 q7 hz7 hE7 hrow7
   obtain ⟨a7, m7, c7, rfl, hi7, hr7⟩ := hE7; have hy_hi7 : _ ≤ 16777216 := hi7; have hn_hr7 := hr7.len; have hx_hr7 : _ ≤ 1099511627776 := hr7.lim
   have hlz := Sp.l11Count_le (hst _ (List.mem_of_getElem? hz7)) (id := id)
   refine o_fieldAddr 1 runUnderlying81 Z sizeOf24 Z Z Z (o_load_P H isAgg24 Z Z (hrow7 1 _ Z) (mV Z ?_))
   refine o_call call148 Z Z (l11Count_c _ _ H.sub _ _ hr7 _ (hst _ (List.mem_of_getElem? hz7))) ?_
   rintro _ w8 ⟨rfl, ew8⟩; have H := H.step ew8; refine ⟨_, rfl, ?_⟩
   refine o_add Z Z Z oO (aG Z (R_nil (N_B (N_K (W_region (mV Z (o_add Z Z Z oO (aG Z (R_nil ?_)))))))))
   refine N_lp (hJ := ⟨c + Sp.l11Count z7.tree id, k + 1, _, Z, hle5, H, ?inv, Z⟩) (hm := ?hm)
   case hm => omega
   case inv => exact ⟨by omega, by rw [hc, Sp.cntS_succ hz7]; omega⟩
  intro hc6'
  try simp only [nrm] at hc6'
  refine W_exit (N_K_exit (N_LP_exit (N_B_same (N_K (q2 (mV Z (aG Z (q3 (W_ret (rt1 results100 Z ?_))))))))))
  obtain rfl : k = d.snaps.length := by omega
  exact H.rets (congrArg (Value.int .i64) (by rw [hc]; rfl))
end Go.Proofs.Tst

namespace Go.Proofs.Tst
open Go Fw Tryz
theorem l12Snaps_c (w0 : World) (G0 : PH) (hG : PSub G0 w0) (cd : List Value) (d : BDisk) (hd : diskE G0 d cd)  :
  Calls Tryz.prog 99 #[.agg cd.toArray] w0 (Rets w0 (.bool (Sp.l12Snaps d))) := by
 obtain ⟨a1, m1, c1, a1', m1', c1', a1'', m1'', c1'', rfl, hr1, hr1', hr1''⟩ := hd; have hn_hr1 := hr1.len; have hx_hr1 : _ ≤ 1099511627776 := hr1.lim; have hn_hr1q := hr1'.len; have hx_hr1q : _ ≤ 1099511627776 := hr1'.lim; have hn_hr1qq := hr1''.len; have hx_hr1qq : _ ≤ 1099511627776 := hr1''.lim
 have H := Hp.init hG
 refine calls_of_W (l := [_]) func99 Z ntmps99 Z (q2 (o_box H Z Z Z ?_)); intro b2 w2 hb2 H
 refine aG Z (q3 (W_seq (q2 (aG Z (q3 (W_block ?_))))))
 obtain ⟨ln3, hln3, H⟩ := H.name (k := 0) rfl
 refine W_lp (hf := (Sub.cons (t := 1) Z Sub.nil)) (J := fun M w m => ∃ (k : Nat) (G : PH), M = [(3, .int .i64 (k : Int))] ∧ PLe G0 G ∧ Hp w0 G0 [] w G [blk b2 (cl ln3 27)] ∧ (k ≤ d.snaps.length ∧ ∀ j, j < k → Sp.okS d j = true) ∧ m = (d.snaps.length - k)) (h0 := ⟨0, _, Z, PLe.refl _, H, ?inv, Z⟩) (round := ?round)
 case inv => exact ⟨by omega, fun j hj => by omega⟩
 case round =>
  rintro _ w4 _ ⟨k, G4, rfl, hle4, H, hinv4, rfl⟩
  subst hln3
  have hr1 := hr1.up hle4
  have hr1'' := hr1''.up hle4
  obtain ⟨hk, hall⟩ := hinv4
  refine W_seq (q2 (mV Z (o_fieldAddr 2 runUnderlying27 Z sizeOf25 Z Z Z (o_load_B 0 H isAgg25 Z Z Z Z (o_len_slice underlying25 Z Z (o_lss Z Z Z (q3 ?_)))))))
  refine W_cond Z ?_ ?_
  ·intro hc5
   try simp only [nrm] at hc5
   refine W_skip (N_K (W_seq (W_block (q2 (o_fieldAddr 2 runUnderlying27 Z sizeOf25 Z Z Z (o_load_B 0 H isAgg25 Z Z Z Z (mV Z (o_index_P k hr1'' underlying25 sizeOf81 Z Z Z Z aN ?_)))))))); intro b6 o6 z6 q6 hz6 hE6 hrow6
   obtain ⟨a6, m6, c6, rfl, hi6, hr6⟩ := hE6; have hy_hi6 : _ ≤ 16777216 := hi6; have hn_hr6 := hr6.len; have hx_hr6 : _ ≤ 1099511627776 := hr6.lim
   refine o_loadagg_P H isAgg81 sizeOf81 Z Z hrow6 Z (o_alloc H zeroValue81 Z Z ?_); intro b7 w7 hb7 H
   refine o_store_B 0 H sizeOf81 Z Z Z Z Z Z Z Z ?_; intro w8 H
   refine q1 (o_fieldAddr 0 runUnderlying81 Z sizeOf9 Z Z Z (o_load_B 0 H isAgg9 Z Z Z Z (o_call call45 Z Z (l1Word_c _ _ hi6 ) ?_)))
   rintro _ w9 ⟨rfl, ew9⟩; have H := H.step ew9; refine ⟨_, rfl, ?_⟩
   refine o_not Z Z (mV Z ?_)
   refine R_case (t := 21) Z ?_ ?_
   ·intro hc10
    try simp only [nrm] at hc10
    refine rP Z (rP Z (rP Z (rP Z (rP Z (rP Z (rP Z (o_pick_t Z Z Z (mV Z (rP Z (rP Z (rP Z (rP Z (o_pick_t Z Z Z (mV Z (rP Z ?_)))))))))))))))
    refine rP Z (rP Z (rP Z (rP Z (rP Z (o_pick_t Z Z Z (q3 (W_true Z (q2 (aG Z (q3 (W_ret (N_B_ret (N_K_ret (N_LP_ret (N_B_ret ?_)))))))))))))))
    refine N_K_ret (rt1 results99 Z ?_)
    exact H.rets (congrArg Value.bool (by rw [Sp.l12Snaps, Sp.not_all_range (k := k) oM (by rw [Sp.okS_at hz6]; simp [*] <;> (intros; omega))]; rfl))
   intro hc10'
   try simp only [nrm] at hc10'
   refine gR Z (o_fieldAddr 2 runUnderlying27 Z sizeOf25 Z Z Z (gR Z (o_load_B 1 H isAgg25 Z Z Z Z (gR Z (o_fieldAddr 0 runUnderlying81 Z sizeOf9 Z Z Z (gR Z (o_load_B 0 H isAgg9 Z Z Z Z (gR Z (o_call call46 Z Z (l12At_c _ _ H.sub _ _ hr1'' _ hi6 ) ?_)))))))))
   rintro _ w11 ⟨rfl, ew11⟩; have H := H.step ew11; refine ⟨_, rfl, ?_⟩
   refine gR Z (mV Z (gR Z (o_lss Z Z Z (o_pick_f Z Z Z (mV Z ?_)))))
   refine R_case (t := 30) Z ?_ ?_
   ·intro hc12
    try simp only [nrm] at hc12
    refine rP Z (rP Z (rP Z (rP Z (o_pick_t Z Z Z (mV Z (rP Z (rP Z (rP Z (rP Z (rP Z (rP Z (o_pick_t Z Z Z (q3 (W_true Z (q2 ?_)))))))))))))))
    refine aG Z (q3 (W_ret (N_B_ret (N_K_ret (N_LP_ret (N_B_ret (N_K_ret (rt1 results99 Z ?_))))))))
    exact H.rets (congrArg Value.bool (by rw [Sp.l12Snaps, Sp.not_all_range (k := k) oM (by rw [Sp.okS_at hz6]; simp [*] <;> (intros; omega))]; rfl))
   intro hc12'
   try simp only [nrm] at hc12'
   refine gR Z (o_fieldAddr 1 runUnderlying81 Z sizeOf24 Z Z Z (gR Z (o_load_B 0 H isAgg24 Z Z Z Z (gR Z (o_call call97 Z Z (TreeValid_c _ _ H.sub _ _ hr6 ) ?_)))))
   rintro _ w13 ⟨rfl, ew13⟩; have H := H.step ew13; refine ⟨_, rfl, ?_⟩
   refine gR Z (o_not Z Z (o_pick_f Z Z Z (mV Z ?_)))
   refine R_case (t := 36) Z ?_ ?_
   ·intro hc14
    try simp only [nrm] at hc14
    refine rP Z (rP Z (rP Z (rP Z (rP Z (rP Z (o_pick_t Z Z Z (q3 (W_true Z (q2 (aG Z (q3 (W_ret (N_B_ret (N_K_ret (N_LP_ret ?_)))))))))))))))
    refine N_B_ret (N_K_ret (rt1 results99 Z ?_))
    exact H.rets (congrArg Value.bool (by rw [Sp.l12Snaps, Sp.not_all_range (k := k) oM (by rw [Sp.okS_at hz6]; simp [*] <;> (intros; omega))]; rfl))
   intro hc14'
   try simp only [nrm] at hc14'
   refine gR Z (o_fieldAddr 0 runUnderlying27 Z sizeOf23 Z Z Z (gR Z (o_load_B 1 H isAgg23 Z Z Z Z (gR Z (o_fieldAddr 1 runUnderlying81 Z sizeOf24 Z Z Z (gR Z (o_load_B 0 H isAgg24 Z Z Z Z (gR Z (o_call call98 Z Z (l11Files_c _ _ H.sub _ _ hr1 _ _ hr6 ) ?_)))))))))
   rintro _ w15 ⟨rfl, ew15⟩; have H := H.step ew15; refine ⟨_, rfl, ?_⟩
   refine gR Z (o_not Z Z (o_pick_f Z Z Z (q3 ?_)))
   refine W_cond Z ?_ ?_
   ·intro hc16
    try simp only [nrm] at hc16
    refine q2 (aG Z (q3 (W_ret (N_B_ret (N_K_ret (N_LP_ret (N_B_ret (N_K_ret (rt1 results99 Z ?_)))))))))
    exact H.rets (congrArg Value.bool (by rw [Sp.l12Snaps, Sp.not_all_range (k := k) oM (by rw [Sp.okS_at hz6]; simp [*] <;> (intros; omega))]; rfl))
   intro hc16'
   try simp only [nrm] at hc16'
   refine W_skip (N_B (N_K (W_region (mV Z (o_add Z Z Z oO (aG Z (R_nil ?_)))))))
   have H := H.del (k := 0) rfl
   refine N_lp (hJ := ⟨k + 1, _, Z, hle4, H, ?inv, Z⟩) (hm := ?hm)
   case hm => omega
   case inv => exact ⟨by omega, Sp.upto_succ hall (by rw [Sp.okS_at hz6]; simp [*])⟩
  intro hc5'
  try simp only [nrm] at hc5'
  refine W_exit (N_K_exit (N_LP_exit (N_B_same (N_K (q2 (o_fieldAddr 2 runUnderlying27 Z sizeOf25 Z Z Z (o_load_B 0 H isAgg25 Z Z Z Z (o_len_slice underlying25 Z Z (o_leq Z Z Z (aG Z (q3 (W_ret (rt1 results99 Z ?_)))))))))))))
  exact H.rets (congrArg Value.bool (by rw [Sp.l12Snaps, Sp.all_range (fun j hj => hall j oM), Bool.true_and]; rw [Bool.eq_iff_iff]; simp; omega))
end Go.Proofs.Tst

namespace Go.Proofs.Tst
open Go Fw Tryz
theorem DiskValid_c (w0 : World) (G0 : PH) (hG : PSub G0 w0) (cd : List Value) (d : BDisk) (hd : diskE G0 d cd)  :
  Calls Tryz.prog 44 #[.agg cd.toArray] w0 (Rets w0 (.bool (Sp.DiskValid d))) := by
 obtain ⟨a1, m1, c1, a1', m1', c1', a1'', m1'', c1'', rfl, hr1, hr1', hr1''⟩ := hd; have hn_hr1 := hr1.len; have hx_hr1 : _ ≤ 1099511627776 := hr1.lim; have hn_hr1q := hr1'.len; have hx_hr1q : _ ≤ 1099511627776 := hr1'.lim; have hn_hr1qq := hr1''.len; have hx_hr1qq : _ ≤ 1099511627776 := hr1''.lim
 have H := Hp.init hG
 refine calls_of_W (l := [_]) func44 Z ntmps44 Z (q2 (o_box H Z Z Z ?_)); intro b2 w2 hb2 H
 refine aG Z (q3 (W_seq (q2 (o_fieldAddr 0 runUnderlying27 Z sizeOf23 Z Z Z (o_load_B 0 H isAgg23 Z Z Z Z (o_call call96 Z Z (StoreValid_c _ _ H.sub _ _ hr1 ) ?_))))))
 rintro _ w3 ⟨rfl, ew3⟩; have H := H.step ew3; refine ⟨_, rfl, ?_⟩
 refine o_not Z Z (mV Z ?_)
 refine R_case (t := 8) Z ?_ ?_
 ·intro hc4
  try simp only [nrm] at hc4
  refine rP Z (rP Z (rP Z (rP Z (o_pick_t Z Z Z (mV Z (rP Z (rP Z (rP Z (rP Z (rP Z (rP Z (o_pick_t Z Z Z (mV Z (rP Z (rP Z ?_)))))))))))))))
  refine rP Z (o_pick_t Z Z Z (q3 (W_true Z (q2 (aG Z (q3 (W_ret (N_K_ret (rt1 results44 Z ?_)))))))))
  exact H.rets (congrArg Value.bool (by simp [Sp.DiskValid, hc4]))
 intro hc4'
 try simp only [nrm] at hc4'
 refine gR Z (o_fieldAddr 1 runUnderlying27 Z sizeOf24 Z Z Z (gR Z (o_load_B 0 H isAgg24 Z Z Z Z (gR Z (o_call call97 Z Z (TreeValid_c _ _ H.sub _ _ hr1' ) ?_)))))
 rintro _ w5 ⟨rfl, ew5⟩; have H := H.step ew5; refine ⟨_, rfl, ?_⟩
 refine gR Z (o_not Z Z (o_pick_f Z Z Z (mV Z ?_)))
 refine R_case (t := 14) Z ?_ ?_
 ·intro hc6
  try simp only [nrm] at hc6
  refine rP Z (rP Z (rP Z (rP Z (rP Z (rP Z (o_pick_t Z Z Z (mV Z (rP Z (rP Z (rP Z (o_pick_t Z Z Z (q3 (W_true Z (q2 (aG Z ?_)))))))))))))))
  refine q3 (W_ret (N_K_ret (rt1 results44 Z ?_)))
  exact H.rets (congrArg Value.bool (by simp [Sp.DiskValid, hc6]))
 intro hc6'
 try simp only [nrm] at hc6'
 refine gR Z (o_fieldAddr 0 runUnderlying27 Z sizeOf23 Z Z Z (gR Z (o_load_B 0 H isAgg23 Z Z Z Z (gR Z (o_fieldAddr 1 runUnderlying27 Z sizeOf24 Z Z Z (gR Z (o_load_B 0 H isAgg24 Z Z Z Z (gR Z (o_call call98 Z Z (l11Files_c _ _ H.sub _ _ hr1 _ _ hr1' ) ?_)))))))))
 rintro _ w7 ⟨rfl, ew7⟩; have H := H.step ew7; refine ⟨_, rfl, ?_⟩
 refine gR Z (o_not Z Z (o_pick_f Z Z Z (mV Z ?_)))
 refine R_case (t := 22) Z ?_ ?_
 ·intro hc8
  try simp only [nrm] at hc8
  refine rP Z (rP Z (rP Z (o_pick_t Z Z Z (q3 (W_true Z (q2 (aG Z (q3 (W_ret (N_K_ret (rt1 results44 Z ?_)))))))))))
  exact H.rets (congrArg Value.bool (by simp [Sp.DiskValid, hc8]))
 intro hc8'
 try simp only [nrm] at hc8'
 refine gR Z (o_loadagg_B 0 H isAgg27 sizeOf27 Z Z Z Z Z (gR Z (o_call call99 Z Z (l12Snaps_c _ _ H.sub _ d ⟨_, _, _, _, _, _, _, _, _, Z, hr1, hr1', hr1''⟩ ) ?_)))
 rintro _ w9 ⟨rfl, ew9⟩; have H := H.step ew9; refine ⟨_, rfl, ?_⟩
 refine gR Z (o_not Z Z (o_pick_f Z Z Z (q3 ?_)))
 refine W_cond Z ?_ ?_
 ·intro hc10
  try simp only [nrm] at hc10
  refine q2 (aG Z (q3 (W_ret (N_K_ret (rt1 results44 Z ?_)))))
  exact H.rets (congrArg Value.bool (by simp [Sp.DiskValid, hc10]))
 intro hc10'
 try simp only [nrm] at hc10'
 refine W_skip (N_K (W_seq (q2 (aG Z (q3 (W_block ?_))))))
 obtain ⟨ln11, hln11, H⟩ := H.name (k := 0) rfl
 refine W_lp (hf := (Sub.cons (t := 1) Z Sub.nil)) (J := fun M w m => ∃ (k : Nat) (G : PH), M = [(3, .int .i64 (k : Int))] ∧ PLe G0 G ∧ Hp w0 G0 [] w G [blk b2 (cl ln11 27)] ∧ (k ≤ d.store.length ∧ (d.store.take k).all (Sp.usesD d) = true) ∧ m = (d.store.length - k)) (h0 := ⟨0, _, Z, PLe.refl _, H, ?inv, Z⟩) (round := ?round)
 case inv => exact ⟨by omega, by simp⟩
 case round =>
  rintro _ w12 _ ⟨k, G12, rfl, hle12, H, hinv12, rfl⟩
  subst hln11
  have hr1 := hr1.up hle12
  have hr1' := hr1'.up hle12
  have hr1'' := hr1''.up hle12
  obtain ⟨hk, hall⟩ := hinv12
  refine W_seq (q2 (mV Z (o_fieldAddr 0 runUnderlying27 Z sizeOf23 Z Z Z (o_load_B 0 H isAgg23 Z Z Z Z (o_len_slice underlying23 Z Z (o_lss Z Z Z (q3 ?_)))))))
  refine W_cond Z ?_ ?_
  ·intro hc13
   try simp only [nrm] at hc13
   refine W_skip (N_K (W_seq (W_block (W_seq (W_drawK [0] 15 H kR Z ?_))))); intro w14 H; have hd14 := PLe.refl G12
   refine RD_t 0 Z kR Z (fun _ hK => v_loadagg_B 0 hK isAgg27 sizeOf27 Z Z Z Z) (RD_t 1 Z kR Z (fun _ hK => v_fieldAddr 0 runUnderlying27 Z sizeOf23 Z Z) (RD_t 2 Z kR Z (fun _ hK => v_load_B 0 hK isAgg23 Z Z Z) (vM 3 Z Z ?_)))
   have hl15 := hr1.len
   obtain ⟨b15, o15, z15, q15, ha15, hz15, hq15, hE15, hrow15, _⟩ := hr1.at (i := k) oM
   clear hq15
   obtain ⟨a15, m15, c15, rfl, hi15, hr15, hj15⟩ := hE15; have hn_hr15 := hr15.len; have hx_hr15 : _ ≤ 1099511627776 := hr15.lim
   refine RD_t 4 Z kR Z (fun _ hK => v_index_P (i := k) ha15 underlying23 sizeOf105 Z Z Z oM) (RD_t 5 Z kR Z (fun _ hK => v_fieldAddr 0 runUnderlying105 Z sizeOf3 Z Z) (RD_t 6 Z kR Z (fun _ hK => v_load_P hK isAgg3 Z (hrow15 0 _ Z)) (RD_t 8 Z kR Z (fun _ hK => v_fieldAddr 0 runUnderlying27 Z sizeOf23 Z Z) (RD_t 9 Z kR Z (fun _ hK => v_load_B 0 hK isAgg23 Z Z Z) (vM 10 Z Z ?_)))))
   have hl16 := hr1.len
   obtain ⟨b16, o16, z16, q16, ha16, hz16, hq16, hE16, hrow16, _⟩ := hr1.at (i := k) oM
   clear hq16
   obtain ⟨a16, m16, c16, rfl, hi16, hr16, hj16⟩ := hE16; have hn_hr16 := hr16.len; have hx_hr16 : _ ≤ 1099511627776 := hr16.lim
   have hzz16 : z15 = z16 := Option.some.inj (hz15.symm.trans hz16)
   subst hzz16
   refine RD_t 11 Z kR Z (fun _ hK => v_index_P (i := k) ha16 underlying23 sizeOf105 Z Z Z oM) (RD_t 12 Z kR Z (fun _ hK => v_fieldAddr 2 runUnderlying105 Z sizeOf3 Z Z) (RD_t 13 Z kR Z (fun _ hK => v_load_P hK isAgg3 Z (hrow16 2 _ Z)) ?_))
   refine RD_run [7] kR Z (RDs.cons Z ?_ RDs.nil)
   refine o_call call100 Z Z (l12Count_c _ _ H.sub _ d ⟨_, _, _, _, _, _, _, _, _, Z, hr1, hr1', hr1''⟩ _ hc6' hc10') ?_
   rintro _ w17 ⟨rfl, ew17⟩; have H := H.step ew17; refine ⟨_, rfl, ?_⟩
   refine R_nil (N_DK (Kn.of' H hd14 (SubL.cons 0 Z SubL.nil)) (RD_t 14 Z kR Z (fun _ hK => v_neq Z Z) (RD_done kR (N_K ?_))))
   refine W_cond Z ?_ ?_
   ·intro hc18
    try simp only [nrm] at hc18
    refine q2 (aG Z (q3 (W_ret (N_B_ret (N_K_ret (N_LP_ret (N_B_ret (N_K_ret (rt1 results44 Z ?_)))))))))
    exact H.rets (congrArg Value.bool (by rw [Sp.DiskValid, Sp.all_false hz15 (by simp [Sp.usesD, *])]; rfl))
   intro hc18'
   try simp only [nrm] at hc18'
   refine W_skip (N_B (N_K (W_region (mV Z (o_add Z Z Z oO (aG Z (R_nil ?_)))))))
   refine N_lp (hJ := ⟨k + 1, _, Z, hle12, H, ?inv, Z⟩) (hm := ?hm)
   case hm => omega
   case inv => exact ⟨by omega, Sp.all_take hall hz15 (by simp [Sp.usesD, *])⟩
  intro hc13'
  try simp only [nrm] at hc13'
  refine W_exit (N_K_exit (N_LP_exit (N_B_same (N_K (q2 (aG Z (q3 (W_ret (rt1 results44 Z ?_)))))))))
  obtain rfl : k = d.store.length := by omega
  rw [List.take_length] at hall
  exact H.rets (congrArg Value.bool (by simp [Sp.DiskValid, hall, hc4', hc6', hc8', hc10']))
end Go.Proofs.Tst

namespace Go.Proofs.Tst
open Go Fw Tryz
theorem l12Copy_c (w0 : World) (G0 : PH) (hG : PSub G0 w0) (cd : List Value) (d : BDisk) (hd : diskE G0 d cd)  :
  Calls Tryz.prog 48 #[.agg cd.toArray] w0 (RetO w0 G0 (fun G val r => ∃ u u1 u2, val = .agg #[u, u1, u2] ∧ AccOf snapE 2 81 d.snaps G u2 r ∧ RdH G u d.store ∧ RdItems G u1 d.tree)) := by
 obtain ⟨a1, m1, c1, a1', m1', c1', a1'', m1'', c1'', rfl, hr1, hr1', hr1''⟩ := hd; have hn_hr1 := hr1.len; have hx_hr1 : _ ≤ 1099511627776 := hr1.lim; have hn_hr1q := hr1'.len; have hx_hr1q : _ ≤ 1099511627776 := hr1'.lim; have hn_hr1qq := hr1''.len; have hx_hr1qq : _ ≤ 1099511627776 := hr1''.lim
 have H := Hp.init hG
 refine calls_of_W (l := [_]) func48 Z ntmps48 Z (q2 (o_box H Z Z Z ?_)); intro b2 w2 hb2 H
 refine o_alloc H zeroValue27 Z Z ?_; intro b3 w3 hb3 H
 refine q3 ?_
 obtain ⟨ljb3, hljb3, H⟩ := H.name (k := 0) rfl
 obtain ⟨ljb2, hljb2, H⟩ := H.name (k := 1) rfl
 have hj4 := PLe.refl G0
 refine W_join (hf := (Sub.cons (t := 1) Z (Sub.cons (t := 2) Z Sub.nil))) (J := fun M w => ∃ (jb : Nat) (ja jc : Option Addr) (jm jk jn jl : Nat) (ve : Value) (ce : List Value) (ne : Nat) (G : PH), M = [(3, .pointer (some ⟨jb, 0, none⟩))] ∧ PLe G0 G ∧ Hp w0 G0 [] w G [acc 81 2 ve ne ce, blk jb (cl [.slice ja jm jk, .slice jc jn jl, ve] 27), blk b3 (cl ljb3 27), blk b2 (cl ljb2 27)] ∧ (RdH G (.slice ja jm jk) d.store ∧ RdItems G (.slice jc jn jl) d.tree ∧ Chk snapE 2 G ce ([] : List BSnap) ∧ ne = 0)) (first := ?_) (second := ?_)
 ·skip
  subst hljb3
  subst hljb2
  refine W_drawK [0, 1] 10 H kR Z ?_; intro w5 H; have hd5 := PLe.refl G0
  refine RD_t 0 Z kR Z (fun _ hK => v_fieldAddr 0 runUnderlying27 Z sizeOf23 Z Z) (RD_t 1 Z kR Z (fun _ hK => v_load_B 1 hK isAgg23 Z Z Z) (RD_t 3 Z kR Z (fun _ hK => v_fieldAddr 1 runUnderlying27 Z sizeOf24 Z Z) (RD_t 4 Z kR Z (fun _ hK => v_load_B 1 hK isAgg24 Z Z Z) ?_)))
  refine RD_run [2, 6, 8] kR Z (RDs.cons Z ?_ (RDs.cons Z ?_ (RDs.cons Z ?_ RDs.nil)))
  ·skip
   refine o_call call102 Z Z (l3Copy_c _ _ H.sub _ _ hr1 ) ?_
   rintro _ w6 ⟨G6, v6, _, g6, rfl, ⟨cs6, rfl, hchk6⟩, hp6, hq6, hs6⟩
   have H := H.growO g6 hp6 hq6 hs6; obtain ⟨av6, cv6, rfl⟩ := H.accShape (k := 0) rfl
   have hr1' := hr1'.up g6.le
   have hj4 := hj4.trans g6.le
   have hd5 := hd5.trans g6.le
   refine ⟨_, Z, ?_⟩
   refine R_nil (N_DK (Kn.of' H hd5 (SubL.cons 1 Z (SubL.cons 2 Z SubL.nil))) ?_)
   refine RD_run [5, 6, 8] kR Z (RDs.cons Z ?_ (RDs.cons Z ?_ (RDs.cons Z ?_ RDs.nil)))
   ·skip
    refine o_call call49 Z Z (l5All_c _ _ H.sub _ _ hr1' ) ?_
    rintro _ w7 ⟨G7, v7, _, g7, rfl, ⟨cs7, rfl, hchk7⟩, hp7, hq7, hs7⟩
    have H := H.growO g7 hp7 hq7 hs7; obtain ⟨av7, cv7, rfl⟩ := H.accShape (k := 0) rfl
    have hchk6 := hchk6.up g7.le
    have hj4 := hj4.trans g7.le
    have hd5 := hd5.trans g7.le
    refine ⟨_, Z, ?_⟩
    refine R_nil (N_DK (Kn.of' H hd5 (SubL.cons 2 Z (SubL.cons 3 Z SubL.nil))) ?_)
    refine RD_run [6, 8] kR Z (RDs.cons Z ?_ (RDs.cons Z ?_ RDs.nil))
    ·skip
     refine o_buildSlice H underlying25 sizeOf81 (fun w => ⟨_, zeroValue81 w, Z⟩) Z Z Z Z Z Z Z ?_; intro b8 w8 hb8 H
     have H := H.blkAcc 2 (k := 0) (n := 0) rfl rfl (by decide)
     refine R_nil (N_DK (Kn.of' H hd5 (SubL.cons 3 Z (SubL.cons 4 Z SubL.nil))) (RD_t 7 Z kR Z (fun _ hK => v_build bf27 Z Z) ?_))
     refine RD_run [8] kR Z (RDs.cons Z ?_ RDs.nil)
     refine o_alloc H zeroValue27 Z Z ?_; intro b9 w9 hb9 H
     refine R_nil (N_DK (Kn.of' H hd5 (SubL.cons 4 Z (SubL.cons 5 Z SubL.nil))) ?_)
     refine RD_run [9] kR Z (RDs.cons Z ?_ RDs.nil)
     refine o_store_B 0 H sizeOf27 Z Z Z Z Z Z Z Z ?_; intro w10 H
     refine R_nil (N_DKlast kR kR ?_)
     obtain ⟨G512, H, hsg512, hsr512⟩ := H.shut' (k := 3) rfl hchk6 aN aN
     have hchk7 := hchk7.up hsg512
     have hj4 := hj4.trans hsg512
     obtain ⟨G513, H, hsg513, hsr513⟩ := H.shut' (k := 2) rfl hchk7 aN aN
     have hsr512 := hsr512.up hsg513
     have hj4 := hj4.trans hsg513
     have H := H.toFront (k := 3) rfl
     have H := H.toFront (k := 3) rfl
     have H := H.toFront (k := 2) rfl
     have H := H.toFront (k := 3) rfl
     exact N_J ⟨_, _, _, _, _, _, _, _, _, _, _, Z, hj4, H, ⟨hsr512, hsr513, (Chk.nil (E := snapE) (sz := 2) (G := G513)), Z⟩⟩
    skip
    refine o_alloc H zeroValue27 Z Z ?_; intro b11 w11 hb11 H
    refine R_nil (N_DK (Kn.of' H hd5 (SubL.cons 3 Z (SubL.cons 4 Z SubL.nil))) ?_)
    refine RD_run [6] kR Z (RDs.cons Z ?_ RDs.nil)
    refine o_buildSlice H underlying25 sizeOf81 (fun w => ⟨_, zeroValue81 w, Z⟩) Z Z Z Z Z Z Z ?_; intro b12 w12 hb12 H
    have H := H.blkAcc 2 (k := 0) (n := 0) rfl rfl (by decide)
    refine R_nil (N_DK (Kn.of' H hd5 (SubL.cons 4 Z (SubL.cons 5 Z SubL.nil))) (RD_t 7 Z kR Z (fun _ hK => v_build bf27 Z Z) ?_))
    refine RD_run [9] kR Z (RDs.cons Z ?_ RDs.nil)
    refine o_store_B 1 H sizeOf27 Z Z Z Z Z Z Z Z ?_; intro w13 H
    refine R_nil (N_DKlast kR kR ?_)
    obtain ⟨G517, H, hsg517, hsr517⟩ := H.shut' (k := 3) rfl hchk6 aN aN
    have hchk7 := hchk7.up hsg517
    have hj4 := hj4.trans hsg517
    obtain ⟨G518, H, hsg518, hsr518⟩ := H.shut' (k := 2) rfl hchk7 aN aN
    have hsr517 := hsr517.up hsg518
    have hj4 := hj4.trans hsg518
    have H := H.toFront (k := 3) rfl
    have H := H.toFront (k := 3) rfl
    have H := H.toFront (k := 3) rfl
    have H := H.toFront (k := 3) rfl
    exact N_J ⟨_, _, _, _, _, _, _, _, _, _, _, Z, hj4, H, ⟨hsr517, hsr518, (Chk.nil (E := snapE) (sz := 2) (G := G518)), Z⟩⟩
   ·skip
    refine o_buildSlice H underlying25 sizeOf81 (fun w => ⟨_, zeroValue81 w, Z⟩) Z Z Z Z Z Z Z ?_; intro b14 w14 hb14 H
    have H := H.blkAcc 2 (k := 0) (n := 0) rfl rfl (by decide)
    refine R_nil (N_DK (Kn.of' H hd5 (SubL.cons 2 Z (SubL.cons 3 Z SubL.nil))) ?_)
    refine RD_run [5, 8] kR Z (RDs.cons Z ?_ (RDs.cons Z ?_ RDs.nil))
    ·skip
     refine o_call call49 Z Z (l5All_c _ _ H.sub _ _ hr1' ) ?_
     rintro _ w15 ⟨G15, v15, _, g15, rfl, ⟨cs15, rfl, hchk15⟩, hp15, hq15, hs15⟩
     have H := H.growO g15 hp15 hq15 hs15; obtain ⟨av15, cv15, rfl⟩ := H.accShape (k := 0) rfl
     have hchk6 := hchk6.up g15.le
     have hj4 := hj4.trans g15.le
     have hd5 := hd5.trans g15.le
     refine ⟨_, Z, ?_⟩
     refine R_nil (N_DK (Kn.of' H hd5 (SubL.cons 3 Z (SubL.cons 4 Z SubL.nil))) (RD_t 7 Z kR Z (fun _ hK => v_build bf27 Z Z) ?_))
     refine RD_run [8] kR Z (RDs.cons Z ?_ RDs.nil)
     refine o_alloc H zeroValue27 Z Z ?_; intro b16 w16 hb16 H
     refine R_nil (N_DK (Kn.of' H hd5 (SubL.cons 4 Z (SubL.cons 5 Z SubL.nil))) ?_)
     refine RD_run [9] kR Z (RDs.cons Z ?_ RDs.nil)
     refine o_store_B 0 H sizeOf27 Z Z Z Z Z Z Z Z ?_; intro w17 H
     refine R_nil (N_DKlast kR kR ?_)
     obtain ⟨G523, H, hsg523, hsr523⟩ := H.shut' (k := 3) rfl hchk6 aN aN
     have hchk15 := hchk15.up hsg523
     have hj4 := hj4.trans hsg523
     obtain ⟨G524, H, hsg524, hsr524⟩ := H.shut' (k := 1) rfl hchk15 aN aN
     have hsr523 := hsr523.up hsg524
     have hj4 := hj4.trans hsg524
     have H := H.toFront (k := 3) rfl
     have H := H.toFront (k := 3) rfl
     have H := H.toFront (k := 2) rfl
     have H := H.toFront (k := 3) rfl
     exact N_J ⟨_, _, _, _, _, _, _, _, _, _, _, Z, hj4, H, ⟨hsr523, hsr524, (Chk.nil (E := snapE) (sz := 2) (G := G524)), Z⟩⟩
    skip
    refine o_alloc H zeroValue27 Z Z ?_; intro b18 w18 hb18 H
    refine R_nil (N_DK (Kn.of' H hd5 (SubL.cons 3 Z (SubL.cons 4 Z SubL.nil))) ?_)
    refine RD_run [5] kR Z (RDs.cons Z ?_ RDs.nil)
    refine o_call call49 Z Z (l5All_c _ _ H.sub _ _ hr1' ) ?_
    rintro _ w19 ⟨G19, v19, _, g19, rfl, ⟨cs19, rfl, hchk19⟩, hp19, hq19, hs19⟩
    have H := H.growO g19 hp19 hq19 hs19; obtain ⟨av19, cv19, rfl⟩ := H.accShape (k := 0) rfl
    have hchk6 := hchk6.up g19.le
    have hj4 := hj4.trans g19.le
    have hd5 := hd5.trans g19.le
    refine ⟨_, Z, ?_⟩
    refine R_nil (N_DK (Kn.of' H hd5 (SubL.cons 4 Z (SubL.cons 5 Z SubL.nil))) (RD_t 7 Z kR Z (fun _ hK => v_build bf27 Z Z) ?_))
    refine RD_run [9] kR Z (RDs.cons Z ?_ RDs.nil)
    refine o_store_B 1 H sizeOf27 Z Z Z Z Z Z Z Z ?_; intro w20 H
    refine R_nil (N_DKlast kR kR ?_)
    obtain ⟨G528, H, hsg528, hsr528⟩ := H.shut' (k := 3) rfl hchk6 aN aN
    have hchk19 := hchk19.up hsg528
    have hj4 := hj4.trans hsg528
    obtain ⟨G529, H, hsg529, hsr529⟩ := H.shut' (k := 0) rfl hchk19 aN aN
    have hsr528 := hsr528.up hsg529
    have hj4 := hj4.trans hsg529
    have H := H.toFront (k := 3) rfl
    have H := H.toFront (k := 3) rfl
    have H := H.toFront (k := 2) rfl
    have H := H.toFront (k := 3) rfl
    exact N_J ⟨_, _, _, _, _, _, _, _, _, _, _, Z, hj4, H, ⟨hsr528, hsr529, (Chk.nil (E := snapE) (sz := 2) (G := G529)), Z⟩⟩
   skip
   refine o_alloc H zeroValue27 Z Z ?_; intro b21 w21 hb21 H
   refine R_nil (N_DK (Kn.of' H hd5 (SubL.cons 2 Z (SubL.cons 3 Z SubL.nil))) ?_)
   refine RD_run [5, 6] kR Z (RDs.cons Z ?_ (RDs.cons Z ?_ RDs.nil))
   ·skip
    refine o_call call49 Z Z (l5All_c _ _ H.sub _ _ hr1' ) ?_
    rintro _ w22 ⟨G22, v22, _, g22, rfl, ⟨cs22, rfl, hchk22⟩, hp22, hq22, hs22⟩
    have H := H.growO g22 hp22 hq22 hs22; obtain ⟨av22, cv22, rfl⟩ := H.accShape (k := 0) rfl
    have hchk6 := hchk6.up g22.le
    have hj4 := hj4.trans g22.le
    have hd5 := hd5.trans g22.le
    refine ⟨_, Z, ?_⟩
    refine R_nil (N_DK (Kn.of' H hd5 (SubL.cons 3 Z (SubL.cons 4 Z SubL.nil))) ?_)
    refine RD_run [6] kR Z (RDs.cons Z ?_ RDs.nil)
    refine o_buildSlice H underlying25 sizeOf81 (fun w => ⟨_, zeroValue81 w, Z⟩) Z Z Z Z Z Z Z ?_; intro b23 w23 hb23 H
    have H := H.blkAcc 2 (k := 0) (n := 0) rfl rfl (by decide)
    refine R_nil (N_DK (Kn.of' H hd5 (SubL.cons 4 Z (SubL.cons 5 Z SubL.nil))) (RD_t 7 Z kR Z (fun _ hK => v_build bf27 Z Z) ?_))
    refine RD_run [9] kR Z (RDs.cons Z ?_ RDs.nil)
    refine o_store_B 2 H sizeOf27 Z Z Z Z Z Z Z Z ?_; intro w24 H
    refine R_nil (N_DKlast kR kR ?_)
    obtain ⟨G534, H, hsg534, hsr534⟩ := H.shut' (k := 3) rfl hchk6 aN aN
    have hchk22 := hchk22.up hsg534
    have hj4 := hj4.trans hsg534
    obtain ⟨G535, H, hsg535, hsr535⟩ := H.shut' (k := 1) rfl hchk22 aN aN
    have hsr534 := hsr534.up hsg535
    have hj4 := hj4.trans hsg535
    have H := H.toFront (k := 3) rfl
    have H := H.toFront (k := 3) rfl
    have H := H.toFront (k := 3) rfl
    have H := H.toFront (k := 3) rfl
    exact N_J ⟨_, _, _, _, _, _, _, _, _, _, _, Z, hj4, H, ⟨hsr534, hsr535, (Chk.nil (E := snapE) (sz := 2) (G := G535)), Z⟩⟩
   skip
   refine o_buildSlice H underlying25 sizeOf81 (fun w => ⟨_, zeroValue81 w, Z⟩) Z Z Z Z Z Z Z ?_; intro b25 w25 hb25 H
   have H := H.blkAcc 2 (k := 0) (n := 0) rfl rfl (by decide)
   refine R_nil (N_DK (Kn.of' H hd5 (SubL.cons 3 Z (SubL.cons 4 Z SubL.nil))) ?_)
   refine RD_run [5] kR Z (RDs.cons Z ?_ RDs.nil)
   refine o_call call49 Z Z (l5All_c _ _ H.sub _ _ hr1' ) ?_
   rintro _ w26 ⟨G26, v26, _, g26, rfl, ⟨cs26, rfl, hchk26⟩, hp26, hq26, hs26⟩
   have H := H.growO g26 hp26 hq26 hs26; obtain ⟨av26, cv26, rfl⟩ := H.accShape (k := 0) rfl
   have hchk6 := hchk6.up g26.le
   have hj4 := hj4.trans g26.le
   have hd5 := hd5.trans g26.le
   refine ⟨_, Z, ?_⟩
   refine R_nil (N_DK (Kn.of' H hd5 (SubL.cons 4 Z (SubL.cons 5 Z SubL.nil))) (RD_t 7 Z kR Z (fun _ hK => v_build bf27 Z Z) ?_))
   refine RD_run [9] kR Z (RDs.cons Z ?_ RDs.nil)
   refine o_store_B 2 H sizeOf27 Z Z Z Z Z Z Z Z ?_; intro w27 H
   refine R_nil (N_DKlast kR kR ?_)
   obtain ⟨G539, H, hsg539, hsr539⟩ := H.shut' (k := 3) rfl hchk6 aN aN
   have hchk26 := hchk26.up hsg539
   have hj4 := hj4.trans hsg539
   obtain ⟨G540, H, hsg540, hsr540⟩ := H.shut' (k := 0) rfl hchk26 aN aN
   have hsr539 := hsr539.up hsg540
   have hj4 := hj4.trans hsg540
   have H := H.toFront (k := 3) rfl
   have H := H.toFront (k := 3) rfl
   have H := H.toFront (k := 3) rfl
   have H := H.toFront (k := 3) rfl
   exact N_J ⟨_, _, _, _, _, _, _, _, _, _, _, Z, hj4, H, ⟨hsr539, hsr540, (Chk.nil (E := snapE) (sz := 2) (G := G540)), Z⟩⟩
  ·skip
   refine o_buildSlice H underlying25 sizeOf81 (fun w => ⟨_, zeroValue81 w, Z⟩) Z Z Z Z Z Z Z ?_; intro b28 w28 hb28 H
   have H := H.blkAcc 2 (k := 0) (n := 0) rfl rfl (by decide)
   refine R_nil (N_DK (Kn.of' H hd5 (SubL.cons 1 Z (SubL.cons 2 Z SubL.nil))) ?_)
   refine RD_run [2, 8] kR Z (RDs.cons Z ?_ (RDs.cons Z ?_ RDs.nil))
   ·skip
    refine o_call call102 Z Z (l3Copy_c _ _ H.sub _ _ hr1 ) ?_
    rintro _ w29 ⟨G29, v29, _, g29, rfl, ⟨cs29, rfl, hchk29⟩, hp29, hq29, hs29⟩
    have H := H.growO g29 hp29 hq29 hs29; obtain ⟨av29, cv29, rfl⟩ := H.accShape (k := 0) rfl
    have hr1' := hr1'.up g29.le
    have hj4 := hj4.trans g29.le
    have hd5 := hd5.trans g29.le
    refine ⟨_, Z, ?_⟩
    refine R_nil (N_DK (Kn.of' H hd5 (SubL.cons 2 Z (SubL.cons 3 Z SubL.nil))) ?_)
    refine RD_run [5, 8] kR Z (RDs.cons Z ?_ (RDs.cons Z ?_ RDs.nil))
    ·skip
     refine o_call call49 Z Z (l5All_c _ _ H.sub _ _ hr1' ) ?_
     rintro _ w30 ⟨G30, v30, _, g30, rfl, ⟨cs30, rfl, hchk30⟩, hp30, hq30, hs30⟩
     have H := H.growO g30 hp30 hq30 hs30; obtain ⟨av30, cv30, rfl⟩ := H.accShape (k := 0) rfl
     have hchk29 := hchk29.up g30.le
     have hj4 := hj4.trans g30.le
     have hd5 := hd5.trans g30.le
     refine ⟨_, Z, ?_⟩
     refine R_nil (N_DK (Kn.of' H hd5 (SubL.cons 3 Z (SubL.cons 4 Z SubL.nil))) (RD_t 7 Z kR Z (fun _ hK => v_build bf27 Z Z) ?_))
     refine RD_run [8] kR Z (RDs.cons Z ?_ RDs.nil)
     refine o_alloc H zeroValue27 Z Z ?_; intro b31 w31 hb31 H
     refine R_nil (N_DK (Kn.of' H hd5 (SubL.cons 4 Z (SubL.cons 5 Z SubL.nil))) ?_)
     refine RD_run [9] kR Z (RDs.cons Z ?_ RDs.nil)
     refine o_store_B 0 H sizeOf27 Z Z Z Z Z Z Z Z ?_; intro w32 H
     refine R_nil (N_DKlast kR kR ?_)
     obtain ⟨G546, H, hsg546, hsr546⟩ := H.shut' (k := 2) rfl hchk29 aN aN
     have hchk30 := hchk30.up hsg546
     have hj4 := hj4.trans hsg546
     obtain ⟨G547, H, hsg547, hsr547⟩ := H.shut' (k := 1) rfl hchk30 aN aN
     have hsr546 := hsr546.up hsg547
     have hj4 := hj4.trans hsg547
     have H := H.toFront (k := 3) rfl
     have H := H.toFront (k := 3) rfl
     have H := H.toFront (k := 2) rfl
     have H := H.toFront (k := 3) rfl
     exact N_J ⟨_, _, _, _, _, _, _, _, _, _, _, Z, hj4, H, ⟨hsr546, hsr547, (Chk.nil (E := snapE) (sz := 2) (G := G547)), Z⟩⟩
    skip
    refine o_alloc H zeroValue27 Z Z ?_; intro b33 w33 hb33 H
    refine R_nil (N_DK (Kn.of' H hd5 (SubL.cons 3 Z (SubL.cons 4 Z SubL.nil))) ?_)
    refine RD_run [5] kR Z (RDs.cons Z ?_ RDs.nil)
    refine o_call call49 Z Z (l5All_c _ _ H.sub _ _ hr1' ) ?_
    rintro _ w34 ⟨G34, v34, _, g34, rfl, ⟨cs34, rfl, hchk34⟩, hp34, hq34, hs34⟩
    have H := H.growO g34 hp34 hq34 hs34; obtain ⟨av34, cv34, rfl⟩ := H.accShape (k := 0) rfl
    have hchk29 := hchk29.up g34.le
    have hj4 := hj4.trans g34.le
    have hd5 := hd5.trans g34.le
    refine ⟨_, Z, ?_⟩
    refine R_nil (N_DK (Kn.of' H hd5 (SubL.cons 4 Z (SubL.cons 5 Z SubL.nil))) (RD_t 7 Z kR Z (fun _ hK => v_build bf27 Z Z) ?_))
    refine RD_run [9] kR Z (RDs.cons Z ?_ RDs.nil)
    refine o_store_B 1 H sizeOf27 Z Z Z Z Z Z Z Z ?_; intro w35 H
    refine R_nil (N_DKlast kR kR ?_)
    obtain ⟨G551, H, hsg551, hsr551⟩ := H.shut' (k := 2) rfl hchk29 aN aN
    have hchk34 := hchk34.up hsg551
    have hj4 := hj4.trans hsg551
    obtain ⟨G552, H, hsg552, hsr552⟩ := H.shut' (k := 0) rfl hchk34 aN aN
    have hsr551 := hsr551.up hsg552
    have hj4 := hj4.trans hsg552
    have H := H.toFront (k := 3) rfl
    have H := H.toFront (k := 3) rfl
    have H := H.toFront (k := 2) rfl
    have H := H.toFront (k := 3) rfl
    exact N_J ⟨_, _, _, _, _, _, _, _, _, _, _, Z, hj4, H, ⟨hsr551, hsr552, (Chk.nil (E := snapE) (sz := 2) (G := G552)), Z⟩⟩
   skip
   refine o_alloc H zeroValue27 Z Z ?_; intro b36 w36 hb36 H
   refine R_nil (N_DK (Kn.of' H hd5 (SubL.cons 2 Z (SubL.cons 3 Z SubL.nil))) ?_)
   refine RD_run [2] kR Z (RDs.cons Z ?_ RDs.nil)
   refine o_call call102 Z Z (l3Copy_c _ _ H.sub _ _ hr1 ) ?_
   rintro _ w37 ⟨G37, v37, _, g37, rfl, ⟨cs37, rfl, hchk37⟩, hp37, hq37, hs37⟩
   have H := H.growO g37 hp37 hq37 hs37; obtain ⟨av37, cv37, rfl⟩ := H.accShape (k := 0) rfl
   have hr1' := hr1'.up g37.le
   have hj4 := hj4.trans g37.le
   have hd5 := hd5.trans g37.le
   refine ⟨_, Z, ?_⟩
   refine R_nil (N_DK (Kn.of' H hd5 (SubL.cons 3 Z (SubL.cons 4 Z SubL.nil))) ?_)
   refine RD_run [5] kR Z (RDs.cons Z ?_ RDs.nil)
   refine o_call call49 Z Z (l5All_c _ _ H.sub _ _ hr1' ) ?_
   rintro _ w38 ⟨G38, v38, _, g38, rfl, ⟨cs38, rfl, hchk38⟩, hp38, hq38, hs38⟩
   have H := H.growO g38 hp38 hq38 hs38; obtain ⟨av38, cv38, rfl⟩ := H.accShape (k := 0) rfl
   have hchk37 := hchk37.up g38.le
   have hj4 := hj4.trans g38.le
   have hd5 := hd5.trans g38.le
   refine ⟨_, Z, ?_⟩
   refine R_nil (N_DK (Kn.of' H hd5 (SubL.cons 4 Z (SubL.cons 5 Z SubL.nil))) (RD_t 7 Z kR Z (fun _ hK => v_build bf27 Z Z) ?_))
   refine RD_run [9] kR Z (RDs.cons Z ?_ RDs.nil)
   refine o_store_B 2 H sizeOf27 Z Z Z Z Z Z Z Z ?_; intro w39 H
   refine R_nil (N_DKlast kR kR ?_)
   obtain ⟨G557, H, hsg557, hsr557⟩ := H.shut' (k := 1) rfl hchk37 aN aN
   have hchk38 := hchk38.up hsg557
   have hj4 := hj4.trans hsg557
   obtain ⟨G558, H, hsg558, hsr558⟩ := H.shut' (k := 0) rfl hchk38 aN aN
   have hsr557 := hsr557.up hsg558
   have hj4 := hj4.trans hsg558
   have H := H.toFront (k := 3) rfl
   have H := H.toFront (k := 3) rfl
   have H := H.toFront (k := 2) rfl
   have H := H.toFront (k := 3) rfl
   exact N_J ⟨_, _, _, _, _, _, _, _, _, _, _, Z, hj4, H, ⟨hsr557, hsr558, (Chk.nil (E := snapE) (sz := 2) (G := G558)), Z⟩⟩
  skip
  refine o_alloc H zeroValue27 Z Z ?_; intro b40 w40 hb40 H
  refine R_nil (N_DK (Kn.of' H hd5 (SubL.cons 1 Z (SubL.cons 2 Z SubL.nil))) ?_)
  refine RD_run [2, 6] kR Z (RDs.cons Z ?_ (RDs.cons Z ?_ RDs.nil))
  ·skip
   refine o_call call102 Z Z (l3Copy_c _ _ H.sub _ _ hr1 ) ?_
   rintro _ w41 ⟨G41, v41, _, g41, rfl, ⟨cs41, rfl, hchk41⟩, hp41, hq41, hs41⟩
   have H := H.growO g41 hp41 hq41 hs41; obtain ⟨av41, cv41, rfl⟩ := H.accShape (k := 0) rfl
   have hr1' := hr1'.up g41.le
   have hj4 := hj4.trans g41.le
   have hd5 := hd5.trans g41.le
   refine ⟨_, Z, ?_⟩
   refine R_nil (N_DK (Kn.of' H hd5 (SubL.cons 2 Z (SubL.cons 3 Z SubL.nil))) ?_)
   refine RD_run [5, 6] kR Z (RDs.cons Z ?_ (RDs.cons Z ?_ RDs.nil))
   ·skip
    refine o_call call49 Z Z (l5All_c _ _ H.sub _ _ hr1' ) ?_
    rintro _ w42 ⟨G42, v42, _, g42, rfl, ⟨cs42, rfl, hchk42⟩, hp42, hq42, hs42⟩
    have H := H.growO g42 hp42 hq42 hs42; obtain ⟨av42, cv42, rfl⟩ := H.accShape (k := 0) rfl
    have hchk41 := hchk41.up g42.le
    have hj4 := hj4.trans g42.le
    have hd5 := hd5.trans g42.le
    refine ⟨_, Z, ?_⟩
    refine R_nil (N_DK (Kn.of' H hd5 (SubL.cons 3 Z (SubL.cons 4 Z SubL.nil))) ?_)
    refine RD_run [6] kR Z (RDs.cons Z ?_ RDs.nil)
    refine o_buildSlice H underlying25 sizeOf81 (fun w => ⟨_, zeroValue81 w, Z⟩) Z Z Z Z Z Z Z ?_; intro b43 w43 hb43 H
    have H := H.blkAcc 2 (k := 0) (n := 0) rfl rfl (by decide)
    refine R_nil (N_DK (Kn.of' H hd5 (SubL.cons 4 Z (SubL.cons 5 Z SubL.nil))) (RD_t 7 Z kR Z (fun _ hK => v_build bf27 Z Z) ?_))
    refine RD_run [9] kR Z (RDs.cons Z ?_ RDs.nil)
    refine o_store_B 3 H sizeOf27 Z Z Z Z Z Z Z Z ?_; intro w44 H
    refine R_nil (N_DKlast kR kR ?_)
    obtain ⟨G564, H, hsg564, hsr564⟩ := H.shut' (k := 2) rfl hchk41 aN aN
    have hchk42 := hchk42.up hsg564
    have hj4 := hj4.trans hsg564
    obtain ⟨G565, H, hsg565, hsr565⟩ := H.shut' (k := 1) rfl hchk42 aN aN
    have hsr564 := hsr564.up hsg565
    have hj4 := hj4.trans hsg565
    have H := H.toFront (k := 3) rfl
    have H := H.toFront (k := 3) rfl
    have H := H.toFront (k := 3) rfl
    have H := H.toFront (k := 3) rfl
    exact N_J ⟨_, _, _, _, _, _, _, _, _, _, _, Z, hj4, H, ⟨hsr564, hsr565, (Chk.nil (E := snapE) (sz := 2) (G := G565)), Z⟩⟩
   skip
   refine o_buildSlice H underlying25 sizeOf81 (fun w => ⟨_, zeroValue81 w, Z⟩) Z Z Z Z Z Z Z ?_; intro b45 w45 hb45 H
   have H := H.blkAcc 2 (k := 0) (n := 0) rfl rfl (by decide)
   refine R_nil (N_DK (Kn.of' H hd5 (SubL.cons 3 Z (SubL.cons 4 Z SubL.nil))) ?_)
   refine RD_run [5] kR Z (RDs.cons Z ?_ RDs.nil)
   refine o_call call49 Z Z (l5All_c _ _ H.sub _ _ hr1' ) ?_
   rintro _ w46 ⟨G46, v46, _, g46, rfl, ⟨cs46, rfl, hchk46⟩, hp46, hq46, hs46⟩
   have H := H.growO g46 hp46 hq46 hs46; obtain ⟨av46, cv46, rfl⟩ := H.accShape (k := 0) rfl
   have hchk41 := hchk41.up g46.le
   have hj4 := hj4.trans g46.le
   have hd5 := hd5.trans g46.le
   refine ⟨_, Z, ?_⟩
   refine R_nil (N_DK (Kn.of' H hd5 (SubL.cons 4 Z (SubL.cons 5 Z SubL.nil))) (RD_t 7 Z kR Z (fun _ hK => v_build bf27 Z Z) ?_))
   refine RD_run [9] kR Z (RDs.cons Z ?_ RDs.nil)
   refine o_store_B 3 H sizeOf27 Z Z Z Z Z Z Z Z ?_; intro w47 H
   refine R_nil (N_DKlast kR kR ?_)
   obtain ⟨G569, H, hsg569, hsr569⟩ := H.shut' (k := 2) rfl hchk41 aN aN
   have hchk46 := hchk46.up hsg569
   have hj4 := hj4.trans hsg569
   obtain ⟨G570, H, hsg570, hsr570⟩ := H.shut' (k := 0) rfl hchk46 aN aN
   have hsr569 := hsr569.up hsg570
   have hj4 := hj4.trans hsg570
   have H := H.toFront (k := 3) rfl
   have H := H.toFront (k := 3) rfl
   have H := H.toFront (k := 3) rfl
   have H := H.toFront (k := 3) rfl
   exact N_J ⟨_, _, _, _, _, _, _, _, _, _, _, Z, hj4, H, ⟨hsr569, hsr570, (Chk.nil (E := snapE) (sz := 2) (G := G570)), Z⟩⟩
  skip
  refine o_buildSlice H underlying25 sizeOf81 (fun w => ⟨_, zeroValue81 w, Z⟩) Z Z Z Z Z Z Z ?_; intro b48 w48 hb48 H
  have H := H.blkAcc 2 (k := 0) (n := 0) rfl rfl (by decide)
  refine R_nil (N_DK (Kn.of' H hd5 (SubL.cons 2 Z (SubL.cons 3 Z SubL.nil))) ?_)
  refine RD_run [2] kR Z (RDs.cons Z ?_ RDs.nil)
  refine o_call call102 Z Z (l3Copy_c _ _ H.sub _ _ hr1 ) ?_
  rintro _ w49 ⟨G49, v49, _, g49, rfl, ⟨cs49, rfl, hchk49⟩, hp49, hq49, hs49⟩
  have H := H.growO g49 hp49 hq49 hs49; obtain ⟨av49, cv49, rfl⟩ := H.accShape (k := 0) rfl
  have hr1' := hr1'.up g49.le
  have hj4 := hj4.trans g49.le
  have hd5 := hd5.trans g49.le
  refine ⟨_, Z, ?_⟩
  refine R_nil (N_DK (Kn.of' H hd5 (SubL.cons 3 Z (SubL.cons 4 Z SubL.nil))) ?_)
  refine RD_run [5] kR Z (RDs.cons Z ?_ RDs.nil)
  refine o_call call49 Z Z (l5All_c _ _ H.sub _ _ hr1' ) ?_
  rintro _ w50 ⟨G50, v50, _, g50, rfl, ⟨cs50, rfl, hchk50⟩, hp50, hq50, hs50⟩
  have H := H.growO g50 hp50 hq50 hs50; obtain ⟨av50, cv50, rfl⟩ := H.accShape (k := 0) rfl
  have hchk49 := hchk49.up g50.le
  have hj4 := hj4.trans g50.le
  have hd5 := hd5.trans g50.le
  refine ⟨_, Z, ?_⟩
  refine R_nil (N_DK (Kn.of' H hd5 (SubL.cons 4 Z (SubL.cons 5 Z SubL.nil))) (RD_t 7 Z kR Z (fun _ hK => v_build bf27 Z Z) ?_))
  refine RD_run [9] kR Z (RDs.cons Z ?_ RDs.nil)
  refine o_store_B 3 H sizeOf27 Z Z Z Z Z Z Z Z ?_; intro w51 H
  refine R_nil (N_DKlast kR kR ?_)
  obtain ⟨G575, H, hsg575, hsr575⟩ := H.shut' (k := 1) rfl hchk49 aN aN
  have hchk50 := hchk50.up hsg575
  have hj4 := hj4.trans hsg575
  obtain ⟨G576, H, hsg576, hsr576⟩ := H.shut' (k := 0) rfl hchk50 aN aN
  have hsr575 := hsr575.up hsg576
  have hj4 := hj4.trans hsg576
  have H := H.toFront (k := 3) rfl
  have H := H.toFront (k := 3) rfl
  have H := H.toFront (k := 3) rfl
  have H := H.toFront (k := 3) rfl
  exact N_J ⟨_, _, _, _, _, _, _, _, _, _, _, Z, hj4, H, ⟨hsr575, hsr576, (Chk.nil (E := snapE) (sz := 2) (G := G576)), Z⟩⟩
 rintro _ w4 ⟨jb, ja, jc, jm, jk, jn, jl, ve, ce, ne, G4, rfl, hle4, H, hinv4⟩
 subst hljb3
 subst hljb2
 have hr1'' := hr1''.up hle4
 obtain ⟨hja, hjb, hjc, rfl⟩ := hinv4; obtain ⟨ajx, cjx, rfl⟩ := H.accShape (k := 0) rfl
 refine W_seq (q2 (aG Z (q3 (W_block ?_))))
 obtain ⟨ln52, hln52, H⟩ := H.nameAt (k := 1) (off := 2) rfl rfl
 obtain ⟨ln53, hln53, H⟩ := H.name (k := 2) rfl
 obtain ⟨ln54, hln54, H⟩ := H.name (k := 3) rfl
 refine W_lp (hf := (Sub.cons (t := 1) Z (Sub.cons (t := 2) Z (Sub.cons (t := 3) Z Sub.nil)))) (J := fun M w m => ∃ (v : Value) (n : Nat) (cs : List Value) (xs : List (BSnap)) (k : Nat) (G : PH), M = [(4, .int .i64 (k : Int))] ∧ PLe G4 G ∧ Hp w0 G0 [] w G [acc 81 2 v n cs, blk jb (cl (setN ln52 2 v) 27), blk b3 (cl ln53 27), blk b2 (cl ln54 27)] ∧ (Chk snapE 2 G cs xs ∧ n = xs.length ∧ k ≤ d.snaps.length ∧ xs.length = k ∧ xs = d.snaps.take k) ∧ m = (d.snaps.length - k)) (h0 := ⟨_, _, _, [], 0, _, Z, PLe.refl _, H, ?inv, Z⟩) (round := ?round)
 case inv => exact ⟨hjc,  by first | rfl | simp | (simp; omega) | omega, (by simp)⟩
 case round =>
  rintro _ w55 _ ⟨v, n, cs, xs, k, G55, rfl, hle55, H, hinv55, rfl⟩
  subst hln52
  subst hln53
  subst hln54
  have hr1'' := hr1''.up hle55
  have hja := hja.up hle55
  have hjb := hjb.up hle55
  obtain ⟨hchk55_0, hn55_0, hinv55⟩ := hinv55
  obtain ⟨av55_0, cv55_0, rfl⟩ := H.accShape (k := 0) rfl
  obtain ⟨hk, hxl, hxs⟩ := hinv55
  refine W_seq (q2 (mV Z (o_fieldAddr 2 runUnderlying27 Z sizeOf25 Z Z Z (o_load_B 3 H isAgg25 Z Z Z Z (o_len_slice underlying25 Z Z (o_lss Z Z Z (q3 ?_)))))))
  refine W_cond Z ?_ ?_
  ·intro hc56
   try simp only [nrm] at hc56
   refine W_skip (N_K (W_seq (W_block (W_drawK [1, 2, 3] 20 H kR Z ?_)))); intro w57 H; have hd57 := PLe.refl G55
   refine RD_t 0 Z kR Z (fun _ hK => v_fieldAddr 2 runUnderlying27 Z sizeOf25 Z Z) (RD_t 1 Z kR Z (fun _ hK => v_load_B 0 hK isAgg25 Z Z Z) (RD_t 2 Z kR Z (fun _ hK => v_fieldAddr 2 runUnderlying27 Z sizeOf25 Z Z) (RD_t 3 Z kR Z (fun _ hK => v_load_B 2 hK isAgg25 Z Z Z) (vM 4 Z Z ?_))))
   have hl58 := hr1''.len
   obtain ⟨b58, o58, z58, q58, ha58, hz58, hq58, hE58, hrow58, _⟩ := hr1''.at (i := k) oM
   clear hq58
   obtain ⟨a58, m58, c58, rfl, hi58, hr58⟩ := hE58; have hy_hi58 : _ ≤ 16777216 := hi58; have hn_hr58 := hr58.len; have hx_hr58 : _ ≤ 1099511627776 := hr58.lim
   refine RD_t 5 Z kR Z (fun _ hK => v_index_P (i := k) ha58 underlying25 sizeOf81 Z Z Z oM) (RD_t 6 Z kR Z (fun _ hK => v_fieldAddr 0 runUnderlying81 Z sizeOf9 Z Z) (RD_t 7 Z kR Z (fun _ hK => v_load_P hK isAgg9 Z (hrow58 0 _ Z)) (RD_t 8 Z kR Z (fun _ hK => v_fieldAddr 2 runUnderlying27 Z sizeOf25 Z Z) (RD_t 9 Z kR Z (fun _ hK => v_load_B 2 hK isAgg25 Z Z Z) (vM 10 Z Z ?_)))))
   have hl59 := hr1''.len
   obtain ⟨b59, o59, z59, q59, ha59, hz59, hq59, hE59, hrow59, _⟩ := hr1''.at (i := k) oM
   clear hq59
   obtain ⟨a59, m59, c59, rfl, hi59, hr59⟩ := hE59; have hy_hi59 : _ ≤ 16777216 := hi59; have hn_hr59 := hr59.len; have hx_hr59 : _ ≤ 1099511627776 := hr59.lim
   have hzz59 : z58 = z59 := Option.some.inj (hz58.symm.trans hz59)
   subst hzz59
   refine RD_t 11 Z kR Z (fun _ hK => v_index_P (i := k) ha59 underlying25 sizeOf81 Z Z Z oM) (RD_t 12 Z kR Z (fun _ hK => v_fieldAddr 1 runUnderlying81 Z sizeOf24 Z Z) (RD_t 13 Z kR Z (fun _ hK => v_load_P hK isAgg24 Z (hrow59 1 _ Z)) ?_))
   refine RD_run [14] kR Z (RDs.cons Z ?_ RDs.nil)
   refine o_call call49 Z Z (l5All_c _ _ H.sub _ _ hr59 ) ?_
   rintro _ w60 ⟨G60, v60, _, g60, rfl, ⟨cs60, rfl, hchk60⟩, hp60, hq60, hs60⟩
   have H := H.growO g60 hp60 hq60 hs60; obtain ⟨av60, cv60, rfl⟩ := H.accShape (k := 0) rfl
   have hchk55_0 := hchk55_0.up g60.le
   have hle55 := hle55.trans g60.le
   have hd57 := hd57.trans g60.le
   refine ⟨_, Z, ?_⟩
   refine R_nil (N_DK (Kn.of' H hd57 (SubL.cons 2 Z (SubL.cons 3 Z (SubL.cons 4 Z SubL.nil)))) (RD_t 15 Z kR Z (fun _ hK => v_build bf81 Z Z) ?_))
   refine RD_run [16] kR Z (RDs.cons Z ?_ RDs.nil)
   refine o_buildSlice H underlying25 sizeOf81 (fun w => ⟨_, zeroValue81 w, Z⟩) Z Z Z Z Z Z Z ?_; intro b61 w61 hb61 H
   refine R_nil (N_DK (Kn.of' H hd57 (SubL.cons 3 Z (SubL.cons 4 Z (SubL.cons 5 Z SubL.nil)))) ?_)
   refine RD_run [17] kR Z (RDs.cons Z ?_ RDs.nil)
   refine o_append1 1 H (sz := 2) (bytes := 40) underlying25 typeInfo81 ⟨_, Z, Z⟩ Z Z Z Z Z Z Z Z Z Z oM Z ?_; intro v62 w62 H
   obtain ⟨G63, H, hsg63, hsr63⟩ := H.shut' (k := 0) rfl hchk60 aN aN
   have hchk55_0 := hchk55_0.up hsg63
   have hle55 := hle55.trans hsg63
   have hd57 := hd57.trans hsg63
   have hchk62 := hchk55_0.snoc (show snapE _ ⟨z58.name, z58.tree⟩ _ from ⟨_, _, _, rfl, hi58, hsr63⟩) rfl
   obtain ⟨av62, cv62, rfl⟩ := H.accShape (k := 0) rfl
   refine R_nil (N_DK (Kn.of' H hd57 (SubL.cons 1 Z (SubL.cons 2 Z (SubL.cons 3 Z SubL.nil)))) (RD_t 18 Z kR Z (fun _ hK => v_fieldAddr 2 runUnderlying27 Z sizeOf25 Z Z) ?_))
   refine RD_run [19] kR Z (RDs.cons Z ?_ RDs.nil)
   refine o_store_B 1 H sizeOf25 Z Z Z Z Z Z Z Z ?_; intro w64 H
   refine R_nil (N_DKlast kR kR (N_B (N_K (W_region (mV Z (o_add Z Z Z oO (aG Z (R_nil ?_))))))))
   refine N_lp (hJ := ⟨_, _, _, (xs ++ [⟨z58.name, z58.tree⟩]), k + 1, _, Z, hle55, H, ?inv, Z⟩) (hm := ?hm)
   case hm => omega
   case inv => exact ⟨hchk62, aN, (by exact ⟨by omega, by simp [hxl], by rw [Sp.take_succ' hz58, hxs]⟩)⟩
  intro hc56'
  try simp only [nrm] at hc56'
  refine W_exit (N_K_exit (N_LP_exit (N_B_same (N_K (q2 (o_loadagg_B 1 H isAgg27 sizeOf27 Z Z Z Z Z (o_store_B 2 H sizeOf27 Z Z Z Z Z Z Z Z ?_))))))); intro w66 H
  refine q3 (W_ret (ret_gen (rs := [.cell 2 27]) (vs := [_]) results48 ⟨⟨_, Z, load_blk 2 H isAgg27 sizeOf27 Z Z Z⟩, trivial⟩ ?_))
  obtain rfl : k = d.snaps.length := by omega
  rw [List.take_length] at hxs
  subst hxs
  exact H.retO (k := 0) Z ⟨_, _, _, Z, AccOf.mk aN hchk55_0, hja, hjb⟩ (acc_nd _ _ _ _ _)
end Go.Proofs.Tst

namespace Go.Proofs.Tst
open Go Fw Tryz
theorem SnapTake_c (w0 : World) (G0 : PH) (hG : PSub G0 w0) (cd : List Value) (d : BDisk) (hd : diskE G0 d cd) (name : Bs) (hname : name.length ≤ 16777216)  :
  Calls Tryz.prog 12 #[.agg cd.toArray, str name] w0 (RetO w0 G0 (fun G val r => ∃ u u1 u2, val = .tuple #[.agg #[u, u1, u2], .bool (Sp.SnapTake d name).isSome] ∧ AccOf snapE 2 81 (((Sp.SnapTake d name).map (·.snaps)).getD []) G u2 r ∧ RdH G u (((Sp.SnapTake d name).map (·.store)).getD []) ∧ RdItems G u1 (((Sp.SnapTake d name).map (·.tree)).getD []))) := by
 obtain ⟨a1, m1, c1, a1', m1', c1', a1'', m1'', c1'', rfl, hr1, hr1', hr1''⟩ := hd; have hn_hr1 := hr1.len; have hx_hr1 : _ ≤ 1099511627776 := hr1.lim; have hn_hr1q := hr1'.len; have hx_hr1q : _ ≤ 1099511627776 := hr1'.lim; have hn_hr1qq := hr1''.len; have hx_hr1qq : _ ≤ 1099511627776 := hr1''.lim
 have H := Hp.init hG
 refine calls_of_W (l := [_, str name]) func12 Z ntmps12 Z (q2 (o_box H Z Z Z ?_)); intro b2 w2 hb2 H
 refine o_alloc H zeroValue27 Z Z ?_; intro b3 w3 hb3 H
 refine aG Z (q3 (W_seq (q2 (o_loadagg_B 1 H isAgg27 sizeOf27 Z Z Z Z Z (o_call call44 Z Z (DiskValid_c _ _ H.sub _ d ⟨_, _, _, _, _, _, _, _, _, Z, hr1, hr1', hr1''⟩ ) ?_)))))
 rintro _ w4 ⟨rfl, ew4⟩; have H := H.step ew4; refine ⟨_, rfl, ?_⟩
 refine o_not Z Z (mV Z ?_)
 refine R_case (t := 12) Z ?_ ?_
 ·intro hc5
  try simp only [nrm] at hc5
  refine rP Z (rP Z (rP Z (o_pick_t Z Z Z (mV Z (rP Z (rP Z (rP Z (rP Z (rP Z (o_pick_t Z Z Z (mV Z (rP Z (rP Z (rP Z (rP Z ?_)))))))))))))))
  refine o_pick_t Z Z Z (q3 (W_true Z (q2 (o_build bf27 Z Z Z (o_store_B 0 H sizeOf27 Z Z Z Z Z Z Z Z ?_))))); intro w6 H
  refine aG Z (q3 (W_ret (N_K_ret (ret_gen (rs := [.cell 4 27, .tmp 5]) (vs := [_, _]) results12 ⟨⟨_, Z, load_blk 0 H isAgg27 sizeOf27 Z Z Z⟩, Z, trivial⟩ ?_))))
  have hN : Sp.SnapTake d name = none := by simp [Sp.SnapTake, hc5]
  have H := H.addNil 81 2
  exact H.retO (k := 0) rfl (by rw [hN]; exact ⟨_, _, _, rfl, AccOf.mk rfl Chk.nil, RdS.nil _ _ _, RdS.nil _ _ _⟩) (acc_nd _ _ _ _ _)
 intro hc5'
 try simp only [nrm] at hc5'
 refine gR Z (mV Z (gR Z (o_call call45 Z Z (l1Word_c _ _ hname ) ?_)))
 rintro _ w7 ⟨rfl, ew7⟩; have H := H.step ew7; refine ⟨_, rfl, ?_⟩
 refine gR Z (o_not Z Z (o_pick_f Z Z Z (mV Z ?_)))
 refine R_case (t := 17) Z ?_ ?_
 ·intro hc8
  try simp only [nrm] at hc8
  refine rP Z (rP Z (rP Z (rP Z (rP Z (o_pick_t Z Z Z (mV Z (rP Z (rP Z (rP Z (rP Z (o_pick_t Z Z Z (q3 (W_true Z (q2 (o_build bf27 Z Z Z ?_)))))))))))))))
  refine o_store_B 0 H sizeOf27 Z Z Z Z Z Z Z Z ?_; intro w9 H
  refine aG Z (q3 (W_ret (N_K_ret (ret_gen (rs := [.cell 4 27, .tmp 5]) (vs := [_, _]) results12 ⟨⟨_, Z, load_blk 0 H isAgg27 sizeOf27 Z Z Z⟩, Z, trivial⟩ ?_))))
  have hN : Sp.SnapTake d name = none := by simp [Sp.SnapTake, hc8]
  have H := H.addNil 81 2
  exact H.retO (k := 0) rfl (by rw [hN]; exact ⟨_, _, _, rfl, AccOf.mk rfl Chk.nil, RdS.nil _ _ _, RdS.nil _ _ _⟩) (acc_nd _ _ _ _ _)
 intro hc8'
 try simp only [nrm] at hc8'
 refine gR Z (o_fieldAddr 2 runUnderlying27 Z sizeOf25 Z Z Z (gR Z (o_load_B 1 H isAgg25 Z Z Z Z (gR Z (mV Z (gR Z (o_call call46 Z Z (l12At_c _ _ H.sub _ _ hr1'' _ hname ) ?_)))))))
 rintro _ w10 ⟨rfl, ew10⟩; have H := H.step ew10; refine ⟨_, rfl, ?_⟩
 refine gR Z (o_geq Z Z Z (o_pick_f Z Z Z (mV Z ?_)))
 refine R_case (t := 24) Z ?_ ?_
 ·intro hc11
  try simp only [nrm] at hc11
  refine rP Z (rP Z (rP Z (rP Z (o_pick_t Z Z Z (q3 (W_true Z (q2 (o_build bf27 Z Z Z (o_store_B 0 H sizeOf27 Z Z Z Z Z Z Z Z ?_))))))))); intro w12 H
  refine aG Z (q3 (W_ret (N_K_ret (ret_gen (rs := [.cell 4 27, .tmp 5]) (vs := [_, _]) results12 ⟨⟨_, Z, load_blk 0 H isAgg27 sizeOf27 Z Z Z⟩, Z, trivial⟩ ?_))))
  have hN : Sp.SnapTake d name = none := by (obtain ⟨i, x, ia, ib, ic, ie, ig⟩ := Sp.at_nat hc11); simp [Sp.SnapTake, Sp.atS, ia]
  have H := H.addNil 81 2
  exact H.retO (k := 0) rfl (by rw [hN]; exact ⟨_, _, _, rfl, AccOf.mk rfl Chk.nil, RdS.nil _ _ _, RdS.nil _ _ _⟩) (acc_nd _ _ _ _ _)
 intro hc11'
 try simp only [nrm] at hc11'
 refine gR Z (o_fieldAddr 2 runUnderlying27 Z sizeOf25 Z Z Z (gR Z (o_load_B 1 H isAgg25 Z Z Z Z (gR Z (o_len_slice underlying25 Z Z (gR Z (o_eql Z Z Z (o_pick_f Z Z Z (q3 ?_)))))))))
 refine W_cond Z ?_ ?_
 ·intro hc13
  try simp only [nrm] at hc13
  refine q2 (o_build bf27 Z Z Z (o_store_B 0 H sizeOf27 Z Z Z Z Z Z Z Z ?_)); intro w14 H
  refine aG Z (q3 (W_ret (N_K_ret (ret_gen (rs := [.cell 4 27, .tmp 5]) (vs := [_, _]) results12 ⟨⟨_, Z, load_blk 0 H isAgg27 sizeOf27 Z Z Z⟩, Z, trivial⟩ ?_))))
  have hN : Sp.SnapTake d name = none := by simp [Sp.SnapTake, show d.snaps.length = 6 by omega]
  have H := H.addNil 81 2
  exact H.retO (k := 0) rfl (by rw [hN]; exact ⟨_, _, _, rfl, AccOf.mk rfl Chk.nil, RdS.nil _ _ _, RdS.nil _ _ _⟩) (acc_nd _ _ _ _ _)
 intro hc13'
 try simp only [nrm] at hc13'
 refine W_skip (N_K (q2 (o_fieldAddr 0 runUnderlying27 Z sizeOf23 Z Z Z (o_load_B 1 H isAgg23 Z Z Z Z (o_fieldAddr 1 runUnderlying27 Z sizeOf24 Z Z Z (o_load_B 1 H isAgg24 Z Z Z Z (o_call call47 Z Z (l12Keep_c _ _ H.sub _ _ hr1 _ _ hr1' ) ?_)))))))
 rintro _ w15 ⟨G15, _, _, g15, rfl, ⟨u15_0, rfl, ⟨cs15, rfl, hchk15⟩⟩, hp15, hq15, hs15⟩
 have H := H.growO g15 hp15 hq15 hs15; obtain ⟨av15, cv15, rfl⟩ := H.accShape (k := 0) rfl
 have hr1 := hr1.up g15.le
 have hr1' := hr1'.up g15.le
 have hr1'' := hr1''.up g15.le
 refine ⟨_, Z, ?_⟩
 have hkl := Sp.l12Keep_len d.store d.tree
 refine mV Z (o_extract Z Z Z (o_extract Z Z Z (aG Z (aG Z (q3 (W_seq (q2 (mV Z (o_not Z Z (q3 ?_))))))))))
 refine W_cond Z ?_ ?_
 ·intro hc16
  try simp only [nrm] at hc16
  refine q2 (o_build bf27 Z Z Z (o_store_B 1 H sizeOf27 Z Z Z Z Z Z Z Z ?_)); intro w17 H
  refine aG Z (q3 (W_ret (N_K_ret (ret_gen (rs := [.cell 4 27, .tmp 5]) (vs := [_, _]) results12 ⟨⟨_, Z, load_blk 1 H isAgg27 sizeOf27 Z Z Z⟩, Z, trivial⟩ ?_))))
  have hN : Sp.SnapTake d name = none := by (have hno : Sp.l12Keep d.store d.tree = none := by simpa using hc16); simp [Sp.SnapTake, hno]
  have H := H.addNil 81 2
  exact H.retO (k := 0) rfl (by rw [hN]; exact ⟨_, _, _, rfl, AccOf.mk rfl Chk.nil, RdS.nil _ _ _, RdS.nil _ _ _⟩) (acc_nd _ _ _ _ _)
 intro hc16'
 try simp only [nrm] at hc16'
 refine W_skip (N_K (q2 (o_loadagg_B 2 H isAgg27 sizeOf27 Z Z Z Z Z (o_call call48 Z Z (l12Copy_c _ _ H.sub _ d ⟨_, _, _, _, _, _, _, _, _, Z, hr1, hr1', hr1''⟩ ) ?_))))
 rintro _ w18 ⟨G18, _, _, g18, rfl, ⟨u18_0, u18_1, u18_2, rfl, ⟨cs18, rfl, hchk18⟩, hr18_0, hr18_1⟩, hp18, hq18, hs18⟩
 have H := H.growO g18 hp18 hq18 hs18; obtain ⟨av18, cv18, rfl⟩ := H.accShape (k := 0) rfl
 have hr1' := hr1'.up g18.le
 have hchk15 := hchk15.up g18.le
 obtain ⟨a18_0, k18_0, rfl⟩ := hr18_0.shape; have hx_hr18_0 : _ ≤ 1099511627776 := hr18_0.lim
 obtain ⟨a18_1, k18_1, rfl⟩ := hr18_1.shape; have hx_hr18_1 : _ ≤ 1099511627776 := hr18_1.lim
 refine ⟨_, Z, ?_⟩
 refine o_alloc H zeroValue27 Z Z ?_; intro b19 w19 hb19 H
 refine o_store_B 0 H sizeOf27 Z Z Z Z Z Z Z Z ?_; intro w20 H
 refine q1 (mV Z (o_fieldAddr 0 runUnderlying27 Z sizeOf23 Z Z Z (o_store_B 0 H sizeOf23 Z Z Z Z Z Z Z Z ?_))); intro w21 H
 refine q3 (W_seq (W_drawK [0, 3, 4] 11 H kR Z ?_)); intro w22 H; have hd22 := PLe.refl G18
 refine RD_t 0 Z kR Z (fun _ hK => v_fieldAddr 2 runUnderlying27 Z sizeOf25 Z Z) (RD_t 1 Z kR Z (fun _ hK => v_load_B 0 hK isAgg25 Z Z Z) (vM 2 Z Z (RD_t 3 Z kR Z (fun _ hK => v_fieldAddr 1 runUnderlying27 Z sizeOf24 Z Z) (RD_t 4 Z kR Z (fun _ hK => v_load_B 2 hK isAgg24 Z Z Z) ?_))))
 refine RD_run [5] kR Z (RDs.cons Z ?_ RDs.nil)
 refine o_call call49 Z Z (l5All_c _ _ H.sub _ _ hr1' ) ?_
 rintro _ w23 ⟨G23, v23, _, g23, rfl, ⟨cs23, rfl, hchk23⟩, hp23, hq23, hs23⟩
 have H := H.growO g23 hp23 hq23 hs23; obtain ⟨av23, cv23, rfl⟩ := H.accShape (k := 0) rfl
 have hchk15 := hchk15.up g23.le
 have hr18_1 := hr18_1.up g23.le
 have hchk18 := hchk18.up g23.le
 have hd22 := hd22.trans g23.le
 refine ⟨_, Z, ?_⟩
 refine R_nil (N_DK (Kn.of' H hd22 (SubL.cons 1 Z (SubL.cons 4 Z (SubL.cons 5 Z SubL.nil)))) (RD_t 6 Z kR Z (fun _ hK => v_build bf81 Z Z) ?_))
 refine RD_run [7] kR Z (RDs.cons Z ?_ RDs.nil)
 refine o_buildSlice H underlying25 sizeOf81 (fun w => ⟨_, zeroValue81 w, Z⟩) Z Z Z Z Z Z Z ?_; intro b24 w24 hb24 H
 refine R_nil (N_DK (Kn.of' H hd22 (SubL.cons 2 Z (SubL.cons 5 Z (SubL.cons 6 Z SubL.nil)))) ?_)
 refine RD_run [8] kR Z (RDs.cons Z ?_ RDs.nil)
 refine o_append1 2 H (sz := 2) (bytes := 40) underlying25 typeInfo81 ⟨_, Z, Z⟩ Z Z Z Z Z Z Z Z Z Z oM Z ?_; intro v25 w25 H
 obtain ⟨G26, H, hsg26, hsr26⟩ := H.shut' (k := 0) rfl hchk23 aN aN
 have hchk15 := hchk15.up hsg26
 have hr18_1 := hr18_1.up hsg26
 have hchk18 := hchk18.up hsg26
 have hd22 := hd22.trans hsg26
 have hchk25 := hchk18.snoc (show snapE _ ⟨name, d.tree⟩ _ from ⟨_, _, _, rfl, hname, hsr26⟩) rfl
 obtain ⟨av25, cv25, rfl⟩ := H.accShape (k := 1) rfl
 refine R_nil (N_DK (Kn.of' H hd22 (SubL.cons 0 Z (SubL.cons 3 Z (SubL.cons 4 Z SubL.nil)))) (RD_t 9 Z kR Z (fun _ hK => v_fieldAddr 2 runUnderlying27 Z sizeOf25 Z Z) ?_))
 refine RD_run [10] kR Z (RDs.cons Z ?_ RDs.nil)
 refine o_store_B 0 H sizeOf25 Z Z Z Z Z Z Z Z ?_; intro w27 H
 refine R_nil (N_DKlast kR kR (N_K (q2 (o_loadagg_B 0 H isAgg27 sizeOf27 Z Z Z Z Z (o_store_B 3 H sizeOf27 Z Z Z Z Z Z Z Z ?_))))); intro w28 H
 refine aG Z (q3 (W_ret (ret_gen (rs := [.cell 4 27, .tmp 5]) (vs := [_, _]) results12 ⟨⟨_, Z, load_blk 3 H isAgg27 sizeOf27 Z Z Z⟩, Z, trivial⟩ ?_)))
 obtain ⟨G530, H, hsg530, hsr530⟩ := H.shut' (k := 2) rfl hchk15 aN aN
 have hr18_1 := hr18_1.up hsg530
 have hchk25 := hchk25.up hsg530
 have hY : Sp.SnapTake d name = some ⟨(Sp.l12Keep d.store d.tree).getD [], d.tree, d.snaps ++ [⟨name, d.tree⟩]⟩ := by (obtain ⟨p, hp⟩ := Option.isSome_iff_exists.1 hc16'); (have hat : Sp.atS d.snaps name = none := Sp.at_none hc11'); simp [Sp.SnapTake, hc5', hc8', hat, hp, show ¬ d.snaps.length = 6 by omega]
 exact H.retO (k := 1) rfl (by rw [hY]; exact ⟨_, _, _, rfl, AccOf.mk aN hchk25, hsr530, hr18_1⟩) (acc_nd _ _ _ _ _)
end Go.Proofs.Tst

namespace Go.Proofs.Tst
open Go Fw Tryz
theorem SnapTakeP_c (w0 : World) (G0 : PH) (hG : PSub G0 w0) (cd : List Value) (d : BDisk) (hd : diskE G0 d cd) (name : Bs) (hname : name.length ≤ 16777216) :
  Calls Tryz.prog 12 #[.agg cd.toArray, str name] w0 (RetP w0 G0 (fun G val => ∃ cs, val = .tuple #[.agg cs.toArray, .bool (Sp.SnapTake d name).isSome] ∧ diskE G ((Sp.SnapTake d name).getD ⟨[], [], []⟩) cs)) := by
 refine (SnapTake_c w0 G0 hG cd d hd name hname).mono ?_
 rintro _ w' ⟨G, v, r, g, rfl, ⟨u, u1, u2, rfl, ⟨cells, rfl, hchk⟩, h1, h2⟩, hp, hq, hs⟩
 have H := (Hp.init hG).growO g hp hq hs
 have hb : (((Sp.SnapTake d name).map (·.snaps)).getD []).length ≤ 6 := Sp.dk_lim (fun d1 h => Sp.take_valid h)
 obtain ⟨G2, H2, hle, hr⟩ := H.shut' (k := 0) rfl hchk rfl oM
 have e1 : ((Sp.SnapTake d name).map (·.store)).getD [] = ((Sp.SnapTake d name).getD ⟨[], [], []⟩).store := by cases Sp.SnapTake d name <;> rfl
 have e2 : ((Sp.SnapTake d name).map (·.tree)).getD [] = ((Sp.SnapTake d name).getD ⟨[], [], []⟩).tree := by cases Sp.SnapTake d name <;> rfl
 have e3 : ((Sp.SnapTake d name).map (·.snaps)).getD [] = ((Sp.SnapTake d name).getD ⟨[], [], []⟩).snaps := by cases Sp.SnapTake d name <;> rfl
 rw [e1] at h1; rw [e2] at h2; rw [e3] at hr
 obtain ⟨a1, c1, rfl⟩ := h1.shape
 obtain ⟨a2, c2, rfl⟩ := h2.shape
 obtain ⟨a3, c3, rfl⟩ := hr.shape
 exact H2.retP ⟨[_, _, _], Z, _, _, _, _, _, _, _, _, _, Z, h1.up hle, h2.up hle, hr⟩
end Go.Proofs.Tst

namespace Go.Proofs.Tst
open Go Fw Tryz
theorem w_sameInts_c (w0 : World) (G0 : PH) (hG : PSub G0 w0) (va : Value) (a : List (Int)) (ha : RdI G0 va a) (vb : Value) (b : List (Int)) (hb : RdI G0 vb b) (hab : a = b) :
  Calls Tryz.prog 16 #[va, vb] w0 (Rets w0 (.bool true)) := by
 obtain ⟨aa, ka, rfl⟩ := ha.shape
 have hlima : a.length ≤ 1099511627776 := ha.lim
 obtain ⟨ab, kb, rfl⟩ := hb.shape
 have hlimb : b.length ≤ 1099511627776 := hb.lim
 have hle := congrArg List.length hab
 have H := Hp.init hG
 refine calls_of_W (l := [.slice aa a.length ka, .slice ab b.length kb]) func16 Z ntmps16 Z (q2 (aG Z (q3 (W_seq (q2 (mV Z (o_len_slice underlying33 Z Z (mV Z (o_len_slice underlying33 Z Z (o_neq Z Z Z (q3 ?_)))))))))))
 refine W_cond Z ?_ ?_
 ·intro hc1
  try simp only [nrm] at hc1
  refine q2 (aG Z (q3 (W_ret (N_K_ret (rt1 results16 Z ?_)))))
  exact absurd (show False from by omega) id
 intro hc1'
 try simp only [nrm] at hc1'
 refine W_skip (N_K (W_seq (q2 (aG Z (q3 (W_block ?_))))))
 refine W_lp (hf := (Sub.cons (t := 0) Z (Sub.cons (t := 1) Z Sub.nil))) (J := fun M w m => ∃ (k : Nat) (G : PH), M = [(5, .int .i64 (k : Int))] ∧ PLe G0 G ∧ Hp w0 G0 [] w G [] ∧ (k ≤ a.length) ∧ m = (a.length - k)) (h0 := ⟨0, _, Z, PLe.refl _, H, ?inv, Z⟩) (round := ?round)
 case inv => omega
 case round =>
  rintro _ w2 _ ⟨k, G2, rfl, hle2, H, hinv2, rfl⟩
  have ha := ha.up hle2
  have hb := hb.up hle2
  have hk := hinv2
  refine W_seq (q2 (mV Z (mV Z (o_len_slice underlying33 Z Z (o_lss Z Z Z (q3 ?_))))))
  refine W_cond Z ?_ ?_
  ·intro hc3
   try simp only [nrm] at hc3
   refine W_skip (N_K (W_seq (W_block (W_seq (W_drawK [] 9 H kR Z ?_))))); intro w4 H; have hd4 := PLe.refl G2
   refine vM 0 Z Z (vM 1 Z Z ?_)
   have hl5 := ha.len
   obtain ⟨b5, o5, z5, q5, ha5, hz5, hq5, hE5, hrow5, _⟩ := ha.at (i := k) oM
   clear hq5
   obtain ⟨rfl, hi5⟩ := hE5
   refine RD_t 2 Z kR Z (fun _ hK => v_index_P (i := k) ha5 underlying33 sizeOf3 Z Z Z oM) (RD_t 3 Z kR Z (fun _ hK => v_load_P hK isAgg3 Z (hrow5 0 _ Z)) (vM 4 Z Z (vM 5 Z Z ?_)))
   have hl6 := hb.len
   obtain ⟨b6, o6, z6, q6, ha6, hz6, hq6, hE6, hrow6, _⟩ := hb.at (i := k) oM
   clear hq6
   obtain ⟨rfl, hi6⟩ := hE6
   refine RD_t 6 Z kR Z (fun _ hK => v_index_P (i := k) ha6 underlying33 sizeOf3 Z Z Z oM) (RD_t 7 Z kR Z (fun _ hK => v_load_P hK isAgg3 Z (hrow6 0 _ Z)) (RD_t 8 Z kR Z (fun _ hK => v_neq Z Z) (RD_done kR (N_K ?_))))
   refine W_cond Z ?_ ?_
   ·intro hc7
    try simp only [nrm] at hc7
    refine q2 (aG Z (q3 (W_ret (N_B_ret (N_K_ret (N_LP_ret (N_B_ret (N_K_ret (rt1 results16 Z ?_)))))))))
    exact absurd (show False from by first | omega | (exact hc7 (Sp.same_at hab hz5 hz6))) id
   intro hc7'
   try simp only [nrm] at hc7'
   refine W_skip (N_B (N_K (W_region (mV Z (o_add Z Z Z oO (aG Z (R_nil ?_)))))))
   refine N_lp (hJ := ⟨k + 1, _, Z, hle2, H, ?inv, Z⟩) (hm := ?hm)
   case hm => omega
   case inv => omega
  intro hc3'
  try simp only [nrm] at hc3'
  refine W_exit (N_K_exit (N_LP_exit (N_B_same (N_K (q2 (aG Z (q3 (W_ret (rt1 results16 Z ?_)))))))))
  exact H.rets Z
theorem w_sameHeld_c (w0 : World) (G0 : PH) (hG : PSub G0 w0) (ca : List Value) (a : BHeld) (ha : heldE G0 a ca) (cb : List Value) (b : BHeld) (hb : heldE G0 b cb) (hab : a = b) :
  Calls Tryz.prog 69 #[.agg ca.toArray, .agg cb.toArray] w0 (Rets w0 (.bool true)) := by
 obtain ⟨a1, m1, c1, rfl, hi1, hr1, hj1⟩ := ha; have hn_hr1 := hr1.len; have hx_hr1 : _ ≤ 1099511627776 := hr1.lim
 obtain ⟨a2, m2, c2, rfl, hi2, hr2, hj2⟩ := hb; have hn_hr2 := hr2.len; have hx_hr2 : _ ≤ 1099511627776 := hr2.lim
 have H := Hp.init hG
 refine calls_of_W (l := [_, _]) func69 Z ntmps69 Z (q2 (o_box H Z Z Z ?_)); intro b3 w3 hb3 H
 refine o_box H Z Z Z ?_; intro b4 w4 hb4 H
 refine aG Z (q1 (o_fieldAddr 0 runUnderlying105 Z sizeOf3 Z Z Z (o_load_B 1 H isAgg3 Z Z Z Z (o_fieldAddr 0 runUnderlying105 Z sizeOf3 Z Z Z (o_load_B 0 H isAgg3 Z Z Z Z (o_eql Z Z Z (mV Z ?_)))))))
 refine R_case (t := 10) Z ?_ ?_
 ·intro hc5
  try simp only [nrm] at hc5
  refine gR Z (o_fieldAddr 2 runUnderlying105 Z sizeOf3 Z Z Z (gR Z (o_load_B 1 H isAgg3 Z Z Z Z (gR Z (o_fieldAddr 2 runUnderlying105 Z sizeOf3 Z Z Z (gR Z (o_load_B 0 H isAgg3 Z Z Z Z (gR Z (o_eql Z Z Z (o_pick_t Z Z Z (mV Z ?_)))))))))))
  refine R_case (t := 17) Z ?_ ?_
  ·intro hc6
   try simp only [nrm] at hc6
   refine gR Z (o_fieldAddr 1 runUnderlying105 Z sizeOf33 Z Z Z (gR Z (o_load_B 1 H isAgg33 Z Z Z Z (gR Z (o_fieldAddr 1 runUnderlying105 Z sizeOf33 Z Z Z (gR Z (o_load_B 0 H isAgg33 Z Z Z Z (gR Z (o_call call16 Z Z (w_sameInts_c _ _ H.sub _ _ hr1 _ _ hr2 (congrArg BHeld.bytes hab)) ?_)))))))))
   rintro _ w7 ⟨rfl, ew7⟩; have H := H.step ew7; refine ⟨_, rfl, ?_⟩
   refine o_pick_t Z Z Z (aG Z (q3 (W_ret (rt1 results69 Z ?_))))
   exact H.rets Z
  intro hc6'
  try simp only [nrm] at hc6'
  refine rP Z (rP Z (rP Z (rP Z (rP Z (o_pick_f Z Z Z (aG Z (q3 (W_ret (rt1 results69 Z ?_)))))))))
  exact absurd (show False from by simp [hab] at hc6') id
 intro hc5'
 try simp only [nrm] at hc5'
 refine rP Z (rP Z (rP Z (rP Z (rP Z (o_pick_f Z Z Z (mV Z (rP Z (rP Z (rP Z (rP Z (rP Z (o_pick_f Z Z Z (aG Z (q3 (W_ret ?_)))))))))))))))
 refine rt1 results69 Z ?_
 exact absurd (show False from by simp [hab] at hc5') id
theorem w_sameStore_c (w0 : World) (G0 : PH) (hG : PSub G0 w0) (va : Value) (a : List (BHeld)) (ha : RdH G0 va a) (vb : Value) (b : List (BHeld)) (hb : RdH G0 vb b) (hab : a = b) :
  Calls Tryz.prog 24 #[va, vb] w0 (Rets w0 (.bool true)) := by
 obtain ⟨aa, ka, rfl⟩ := ha.shape
 have hlima : a.length ≤ 1099511627776 := ha.lim
 obtain ⟨ab, kb, rfl⟩ := hb.shape
 have hlimb : b.length ≤ 1099511627776 := hb.lim
 have hle := congrArg List.length hab
 have H := Hp.init hG
 refine calls_of_W (l := [.slice aa a.length ka, .slice ab b.length kb]) func24 Z ntmps24 Z (q2 (aG Z (q3 (W_seq (q2 (mV Z (o_len_slice underlying23 Z Z (mV Z (o_len_slice underlying23 Z Z (o_neq Z Z Z (q3 ?_)))))))))))
 refine W_cond Z ?_ ?_
 ·intro hc1
  try simp only [nrm] at hc1
  refine q2 (aG Z (q3 (W_ret (N_K_ret (rt1 results24 Z ?_)))))
  exact absurd (show False from by omega) id
 intro hc1'
 try simp only [nrm] at hc1'
 refine W_skip (N_K (W_seq (q2 (aG Z (q3 (W_block ?_))))))
 refine W_lp (hf := (Sub.cons (t := 0) Z (Sub.cons (t := 1) Z Sub.nil))) (J := fun M w m => ∃ (k : Nat) (G : PH), M = [(5, .int .i64 (k : Int))] ∧ PLe G0 G ∧ Hp w0 G0 [] w G [] ∧ (k ≤ a.length) ∧ m = (a.length - k)) (h0 := ⟨0, _, Z, PLe.refl _, H, ?inv, Z⟩) (round := ?round)
 case inv => omega
 case round =>
  rintro _ w2 _ ⟨k, G2, rfl, hle2, H, hinv2, rfl⟩
  have ha := ha.up hle2
  have hb := hb.up hle2
  have hk := hinv2
  refine W_seq (q2 (mV Z (mV Z (o_len_slice underlying23 Z Z (o_lss Z Z Z (q3 ?_))))))
  refine W_cond Z ?_ ?_
  ·intro hc3
   try simp only [nrm] at hc3
   refine W_skip (N_K (W_seq (W_block (W_seq (W_drawK [] 10 H kR Z ?_))))); intro w4 H; have hd4 := PLe.refl G2
   refine vM 0 Z Z (vM 1 Z Z ?_)
   have hl5 := ha.len
   obtain ⟨b5, o5, z5, q5, ha5, hz5, hq5, hE5, hrow5, _⟩ := ha.at (i := k) oM
   clear hq5
   obtain ⟨a5, m5, c5, rfl, hi5, hr5, hj5⟩ := hE5; have hn_hr5 := hr5.len; have hx_hr5 : _ ≤ 1099511627776 := hr5.lim
   refine RD_t 2 Z kR Z (fun _ hK => v_index_P (i := k) ha5 underlying23 sizeOf105 Z Z Z oM) (RD_t 3 Z kR Z (fun _ hK => v_loadagg_P hK isAgg105 sizeOf105 Z hrow5 Z) (vM 4 Z Z (vM 5 Z Z ?_)))
   have hl6 := hb.len
   obtain ⟨b6, o6, z6, q6, ha6, hz6, hq6, hE6, hrow6, _⟩ := hb.at (i := k) oM
   clear hq6
   obtain ⟨a6, m6, c6, rfl, hi6, hr6, hj6⟩ := hE6; have hn_hr6 := hr6.len; have hx_hr6 : _ ≤ 1099511627776 := hr6.lim
   refine RD_t 6 Z kR Z (fun _ hK => v_index_P (i := k) ha6 underlying23 sizeOf105 Z Z Z oM) (RD_t 7 Z kR Z (fun _ hK => v_loadagg_P hK isAgg105 sizeOf105 Z hrow6 Z) ?_)
   refine RD_run [8] kR Z (RDs.cons Z ?_ RDs.nil)
   refine o_call call69 Z Z (w_sameHeld_c _ _ H.sub _ _ ⟨_, _, _, Z, ⟨by first | omega | (dsimp only; omega), by first | omega | (dsimp only; omega)⟩, hr5, ⟨by first | omega | (dsimp only; omega), by first | omega | (dsimp only; omega)⟩⟩ _ _ ⟨_, _, _, rfl, ⟨by first | omega | (dsimp only; omega), by first | omega | (dsimp only; omega)⟩, hr6, ⟨by first | omega | (dsimp only; omega), by first | omega | (dsimp only; omega)⟩⟩ (Sp.same_at hab hz5 hz6)) ?_
   rintro _ w7 ⟨rfl, ew7⟩; have H := H.step ew7; refine ⟨_, rfl, ?_⟩
   refine R_nil (N_DK (Kn.of' H hd4 SubL.nil) (RD_t 9 Z kR Z (fun _ hK => v_not Z) (RD_done kR (N_K (W_false Z (W_skip (N_B (N_K (W_region (mV Z (o_add Z Z Z oO (aG Z (R_nil ?_)))))))))))))
   refine N_lp (hJ := ⟨k + 1, _, Z, hle2, H, ?inv, Z⟩) (hm := ?hm)
   case hm => omega
   case inv => omega
  intro hc3'
  try simp only [nrm] at hc3'
  refine W_exit (N_K_exit (N_LP_exit (N_B_same (N_K (q2 (aG Z (q3 (W_ret (rt1 results24 Z ?_)))))))))
  exact H.rets Z
theorem w_sameItem_c (w0 : World) (G0 : PH) (hG : PSub G0 w0) (ca : List Value) (a : BItem) (ha : itemE G0 a ca) (cb : List Value) (b : BItem) (hb : itemE G0 b cb) (hab : a = b) :
  Calls Tryz.prog 70 #[.agg ca.toArray, .agg cb.toArray] w0 (Rets w0 (.bool true)) := by
 obtain ⟨a1, m1, c1, rfl, hi1, hr1⟩ := ha; have hy_hi1 : _ ≤ 16777216 := hi1; have hn_hr1 := hr1.len; have hx_hr1 : _ ≤ 1099511627776 := hr1.lim
 obtain ⟨a2, m2, c2, rfl, hi2, hr2⟩ := hb; have hy_hi2 : _ ≤ 16777216 := hi2; have hn_hr2 := hr2.len; have hx_hr2 : _ ≤ 1099511627776 := hr2.lim
 have H := Hp.init hG
 refine calls_of_W (l := [_, _]) func70 Z ntmps70 Z (q2 (o_box H Z Z Z ?_)); intro b3 w3 hb3 H
 refine o_box H Z Z Z ?_; intro b4 w4 hb4 H
 refine aG Z (q1 (o_fieldAddr 0 runUnderlying37 Z sizeOf9 Z Z Z (o_load_B 1 H isAgg9 Z Z Z Z (o_fieldAddr 0 runUnderlying37 Z sizeOf9 Z Z Z (o_load_B 0 H isAgg9 Z Z Z Z (o_seql Z Z Z (mV Z ?_)))))))
 refine R_case (t := 10) Z ?_ ?_
 ·intro hc5
  try simp only [nrm] at hc5
  refine gR Z (o_fieldAddr 1 runUnderlying37 Z sizeOf4 Z Z Z (gR Z (o_load_B 1 H isAgg4 Z Z Z Z (gR Z (o_fieldAddr 1 runUnderlying37 Z sizeOf4 Z Z Z (gR Z (o_load_B 0 H isAgg4 Z Z Z Z (gR Z (o_beql underlying4 Z Z Z (o_pick_t Z Z Z (mV Z ?_)))))))))))
  refine R_case (t := 17) Z ?_ ?_
  ·intro hc6
   try simp only [nrm] at hc6
   refine gR Z (o_fieldAddr 2 runUnderlying37 Z sizeOf33 Z Z Z (gR Z (o_load_B 1 H isAgg33 Z Z Z Z (gR Z (o_fieldAddr 2 runUnderlying37 Z sizeOf33 Z Z Z (gR Z (o_load_B 0 H isAgg33 Z Z Z Z (gR Z (o_call call16 Z Z (w_sameInts_c _ _ H.sub _ _ hr1 _ _ hr2 (congrArg BItem.ids hab)) ?_)))))))))
   rintro _ w7 ⟨rfl, ew7⟩; have H := H.step ew7; refine ⟨_, rfl, ?_⟩
   refine o_pick_t Z Z Z (aG Z (q3 (W_ret (rt1 results70 Z ?_))))
   exact H.rets Z
  intro hc6'
  try simp only [nrm] at hc6'
  refine rP Z (rP Z (rP Z (rP Z (rP Z (o_pick_f Z Z Z (aG Z (q3 (W_ret (rt1 results70 Z ?_)))))))))
  exact absurd (show False from by simp [hab] at hc6') id
 intro hc5'
 try simp only [nrm] at hc5'
 refine rP Z (rP Z (rP Z (rP Z (rP Z (o_pick_f Z Z Z (mV Z (rP Z (rP Z (rP Z (rP Z (rP Z (o_pick_f Z Z Z (aG Z (q3 (W_ret ?_)))))))))))))))
 refine rt1 results70 Z ?_
 exact absurd (show False from by simp [hab] at hc5') id
theorem w_sameTree_c (w0 : World) (G0 : PH) (hG : PSub G0 w0) (va : Value) (a : List (BItem)) (ha : RdItems G0 va a) (vb : Value) (b : List (BItem)) (hb : RdItems G0 vb b) (hab : a = b) :
  Calls Tryz.prog 25 #[va, vb] w0 (Rets w0 (.bool true)) := by
 obtain ⟨aa, ka, rfl⟩ := ha.shape
 have hlima : a.length ≤ 1099511627776 := ha.lim
 obtain ⟨ab, kb, rfl⟩ := hb.shape
 have hlimb : b.length ≤ 1099511627776 := hb.lim
 have hle := congrArg List.length hab
 have H := Hp.init hG
 refine calls_of_W (l := [.slice aa a.length ka, .slice ab b.length kb]) func25 Z ntmps25 Z (q2 (aG Z (q3 (W_seq (q2 (mV Z (o_len_slice underlying24 Z Z (mV Z (o_len_slice underlying24 Z Z (o_neq Z Z Z (q3 ?_)))))))))))
 refine W_cond Z ?_ ?_
 ·intro hc1
  try simp only [nrm] at hc1
  refine q2 (aG Z (q3 (W_ret (N_K_ret (rt1 results25 Z ?_)))))
  exact absurd (show False from by omega) id
 intro hc1'
 try simp only [nrm] at hc1'
 refine W_skip (N_K (W_seq (q2 (aG Z (q3 (W_block ?_))))))
 refine W_lp (hf := (Sub.cons (t := 0) Z (Sub.cons (t := 1) Z Sub.nil))) (J := fun M w m => ∃ (k : Nat) (G : PH), M = [(5, .int .i64 (k : Int))] ∧ PLe G0 G ∧ Hp w0 G0 [] w G [] ∧ (k ≤ a.length) ∧ m = (a.length - k)) (h0 := ⟨0, _, Z, PLe.refl _, H, ?inv, Z⟩) (round := ?round)
 case inv => omega
 case round =>
  rintro _ w2 _ ⟨k, G2, rfl, hle2, H, hinv2, rfl⟩
  have ha := ha.up hle2
  have hb := hb.up hle2
  have hk := hinv2
  refine W_seq (q2 (mV Z (mV Z (o_len_slice underlying24 Z Z (o_lss Z Z Z (q3 ?_))))))
  refine W_cond Z ?_ ?_
  ·intro hc3
   try simp only [nrm] at hc3
   refine W_skip (N_K (W_seq (W_block (W_seq (W_drawK [] 10 H kR Z ?_))))); intro w4 H; have hd4 := PLe.refl G2
   refine vM 0 Z Z (vM 1 Z Z ?_)
   have hl5 := ha.len
   obtain ⟨b5, o5, z5, q5, ha5, hz5, hq5, hE5, hrow5, _⟩ := ha.at (i := k) oM
   clear hq5
   obtain ⟨a5, m5, c5, rfl, hi5, hr5⟩ := hE5; have hy_hi5 : _ ≤ 16777216 := hi5; have hn_hr5 := hr5.len; have hx_hr5 : _ ≤ 1099511627776 := hr5.lim
   refine RD_t 2 Z kR Z (fun _ hK => v_index_P (i := k) ha5 underlying24 sizeOf37 Z Z Z oM) (RD_t 3 Z kR Z (fun _ hK => v_loadagg_P hK isAgg37 sizeOf37 Z hrow5 Z) (vM 4 Z Z (vM 5 Z Z ?_)))
   have hl6 := hb.len
   obtain ⟨b6, o6, z6, q6, ha6, hz6, hq6, hE6, hrow6, _⟩ := hb.at (i := k) oM
   clear hq6
   obtain ⟨a6, m6, c6, rfl, hi6, hr6⟩ := hE6; have hy_hi6 : _ ≤ 16777216 := hi6; have hn_hr6 := hr6.len; have hx_hr6 : _ ≤ 1099511627776 := hr6.lim
   refine RD_t 6 Z kR Z (fun _ hK => v_index_P (i := k) ha6 underlying24 sizeOf37 Z Z Z oM) (RD_t 7 Z kR Z (fun _ hK => v_loadagg_P hK isAgg37 sizeOf37 Z hrow6 Z) ?_)
   refine RD_run [8] kR Z (RDs.cons Z ?_ RDs.nil)
   refine o_call call70 Z Z (w_sameItem_c _ _ H.sub _ _ ⟨_, _, _, Z, hi5, hr5⟩ _ _ ⟨_, _, _, Z, hi6, hr6⟩ (Sp.same_at hab hz5 hz6)) ?_
   rintro _ w7 ⟨rfl, ew7⟩; have H := H.step ew7; refine ⟨_, rfl, ?_⟩
   refine R_nil (N_DK (Kn.of' H hd4 SubL.nil) (RD_t 9 Z kR Z (fun _ hK => v_not Z) (RD_done kR (N_K (W_false Z (W_skip (N_B (N_K (W_region (mV Z (o_add Z Z Z oO (aG Z (R_nil ?_)))))))))))))
   refine N_lp (hJ := ⟨k + 1, _, Z, hle2, H, ?inv, Z⟩) (hm := ?hm)
   case hm => omega
   case inv => omega
  intro hc3'
  try simp only [nrm] at hc3'
  refine W_exit (N_K_exit (N_LP_exit (N_B_same (N_K (q2 (aG Z (q3 (W_ret (rt1 results25 Z ?_)))))))))
  exact H.rets Z
end Go.Proofs.Tst

namespace Go.Proofs.Tst
open Go Fw Tryz
theorem pick_c (w0 : World) (G0 : PH) (hG : PSub G0 w0) (rb : Nat) (ab : Option Addr) (mb kb : Nat) (bs : List UInt8) (p : Nat) (hbs : RdU G0 (.slice ab mb kb) bs) (hrb : w0.heap[rb]? = some (cl [.slice ab mb kb, .int .i64 (p : Int)] 118)) (hrn : G0 rb = none) (hp : p ≤ 1000000000000) (n : Int) (hn : inI n)  :
  Calls Tryz.prog 38 #[.pointer (some ⟨rb, 0, none⟩), .int .i64 n] w0 (RetM w0 G0 [rb] (fun G val Bs => ∃ (p' : Nat) (x : Nat), p' ≤ p + 1 ∧ val = .int .i64 (x : Int) ∧ ((x : Int) < n ∨ x = 0) ∧ Bs = [blk rb (cl [.slice ab mb kb, .int .i64 (p' : Int)] 118)])) := by
 have hlimbs : bs.length ≤ 1099511627776 := hbs.lim; obtain rfl : mb = bs.length := hbs.len
 have H := Hp.initM hG hrb hrn
 refine calls_of_W (l := [.pointer (some ⟨rb, 0, none⟩), .int .i64 n]) func38 Z ntmps38 Z (q2 (aG Z (q1 (mV Z (mV Z (o_nilCheck Z Z (o_fieldAddr 1 runUnderlying118 Z sizeOf3 Z Z Z (o_load_B 0 H isAgg3 Z Z Z Z (o_add Z Z Z oO (o_nilCheck Z Z (o_fieldAddr 1 runUnderlying118 Z sizeOf3 Z Z Z (o_store_B 0 H sizeOf3 Z Z Z Z Z Z Z Z ?_)))))))))))); intro w2 H
 refine q3 (W_seq (q2 (mV Z (o_lss Z Z Z (mV Z ?_)))))
 refine R_case (t := 17) Z ?_ ?_
 ·intro hc3
  try simp only [nrm] at hc3
  refine rP Z (rP Z (rP Z (rP Z (rP Z (rP Z (o_pick_t Z Z Z (q3 (W_true Z (q2 (aG Z (q3 (W_ret (N_K_ret (rt1 results38 Z ?_))))))))))))))
  exact H.retM ⟨p + 1, 0, by omega, rfl, .inr rfl, rfl⟩
 intro hc3'
 try simp only [nrm] at hc3'
 refine gR Z (mV Z (gR Z (o_nilCheck Z Z (gR Z (o_fieldAddr 0 runUnderlying118 Z sizeOf22 Z Z Z (gR Z (o_load_B 0 H isAgg22 Z Z Z Z (gR Z (o_len_slice underlying22 Z Z (gR Z (o_eql Z Z Z (o_pick_f Z Z Z (q3 ?_)))))))))))))
 refine W_cond Z ?_ ?_
 ·intro hc4
  try simp only [nrm] at hc4
  refine q2 (aG Z (q3 (W_ret (N_K_ret (rt1 results38 Z ?_)))))
  exact H.retM ⟨p + 1, 0, by omega, rfl, .inr rfl, rfl⟩
 intro hc4'
 try simp only [nrm] at hc4'
 have hm0 : 0 < bs.length := by omega
 have hm1 := Nat.mod_lt p hm0
 have hm2 := Nat.mod_lt (p * 7 + 3) hm0
 have hq1 : 0 ≤ ((p : Int) + 1 - 1) / (bs.length : Int) := Int.ediv_nonneg oM oM
 have hq2 : ((p : Int) + 1 - 1) / (bs.length : Int) ≤ (p : Int) + 1 - 1 := Int.ediv_le_self _ oM
 refine W_skip (N_K (q2 (mV Z (o_nilCheck Z Z (o_fieldAddr 1 runUnderlying118 Z sizeOf3 Z Z Z (o_load_B 0 H isAgg3 Z Z Z Z (o_sub Z Z Z oO (aG Z (q3 (W_seq (q2 (mV Z (mV Z (o_nilCheck Z Z (o_fieldAddr 0 runUnderlying118 Z sizeOf22 Z Z Z ?_)))))))))))))))
 refine o_load_B 0 H isAgg22 Z Z Z Z (o_len_slice underlying22 Z Z (o_lss Z Z Z (q3 ?_)))
 refine W_cond Z ?_ ?_
 ·intro hc6
  try simp only [nrm] at hc6
  refine q2 (mV Z (o_nilCheck Z Z (o_fieldAddr 0 runUnderlying118 Z sizeOf22 Z Z Z (o_load_B 0 H isAgg22 Z Z Z Z (mV Z (o_index_P p hbs underlying22 sizeOf5 Z Z Z oM aN ?_)))))); intro b7 o7 z7 q7 hz7 hE7 hrow7
  obtain rfl := hE7
  have hzl7 := z7.toNat_lt
  refine o_load_P H isAgg5 Z Z (hrow7 0 _ Z) (o_conv (by simp [underlying5]) underlying3 Z Z (wrap_i64 oO) (mV Z (o_rem Z Z Z oM oM (aG Z (q3 (W_ret (N_K_ret (rt1 results38 Z ?_))))))))
  exact H.retM ⟨p + 1, _, by omega, congrArg (Value.int .i64) (Int.toNat_of_nonneg (Int.emod_nonneg _ oM)).symm, .inl (by rw [Int.toNat_of_nonneg (Int.emod_nonneg _ oM)]; exact Int.emod_lt_of_pos _ oM), rfl⟩
 intro hc6'
 try simp only [nrm] at hc6'
 refine W_skip (N_K (W_seq (W_drawK [0] 46 H kR Z ?_))); intro w8 H; have hd8 := PLe.refl G0
 refine vM 0 Z Z (RD_t 1 Z kR Z (fun _ hK => v_nilCheck Z) (RD_t 2 Z kR Z (fun _ hK => v_fieldAddr 0 runUnderlying118 Z sizeOf22 Z Z) (RD_t 3 Z kR Z (fun _ hK => v_load_B 0 hK isAgg22 Z Z Z) (vM 4 Z Z (vM 5 Z Z (RD_t 6 Z kR Z (fun _ hK => v_nilCheck Z) (RD_t 7 Z kR Z (fun _ hK => v_fieldAddr 0 runUnderlying118 Z sizeOf22 Z Z) (RD_t 8 Z kR Z (fun _ hK => v_load_B 0 hK isAgg22 Z Z Z) (RD_t 9 Z kR Z (fun _ hK => v_len_slice underlying22 Z) (RD_t 10 Z kR Z (fun _ hK => v_rem Z Z oM oM) ?_))))))))))
 have hl9 := hbs.len
 obtain ⟨b9, o9, z9, q9, ha9, hz9, hq9, hE9, hrow9, _⟩ := hbs.at (i := (p % bs.length)) oM
 clear hq9
 obtain rfl := hE9
 have hzl9 := z9.toNat_lt
 refine RD_t 11 Z kR Z (fun _ hK => v_index_P (i := (p % bs.length)) ha9 underlying22 sizeOf5 Z Z (by rw [Int.add_sub_cancel]; exact (Int.natCast_emod _ _).symm) oM) ?_
 refine RD_t 12 Z kR Z (fun _ hK => v_load_P hK isAgg5 Z (hrow9 0 _ Z)) (RD_t 13 Z kR Z (fun _ hK => v_conv (by simp [underlying5]) underlying3 Z (wrap_i64 oO)) (RD_t 14 Z kR Z (fun _ hK => v_mul Z Z oO) (vM 15 Z Z (RD_t 16 Z kR Z (fun _ hK => v_nilCheck Z) (RD_t 17 Z kR Z (fun _ hK => v_fieldAddr 0 runUnderlying118 Z sizeOf22 Z Z) (RD_t 18 Z kR Z (fun _ hK => v_load_B 0 hK isAgg22 Z Z Z) (vM 19 Z Z (RD_t 20 Z kR Z (fun _ hK => v_mul Z Z oO) (RD_t 21 Z kR Z (fun _ hK => v_add Z Z oO) (vM 22 Z Z (RD_t 23 Z kR Z (fun _ hK => v_nilCheck Z) (RD_t 24 Z kR Z (fun _ hK => v_fieldAddr 0 runUnderlying118 Z sizeOf22 Z Z) (RD_t 25 Z kR Z (fun _ hK => v_load_B 0 hK isAgg22 Z Z Z) (RD_t 26 Z kR Z (fun _ hK => v_len_slice underlying22 Z) (RD_t 27 Z kR Z (fun _ hK => v_rem Z Z oM oM) ?_)))))))))))))))
 have hl13 := hbs.len
 obtain ⟨b13, o13, z13, q13, ha13, hz13, hq13, hE13, hrow13, _⟩ := hbs.at (i := ((p * 7 + 3) % bs.length)) oM
 clear hq13
 obtain rfl := hE13
 have hzl13 := z13.toNat_lt
 refine RD_t 28 Z kR Z (fun _ hK => v_index_P (i := ((p * 7 + 3) % bs.length)) ha13 underlying22 sizeOf5 Z Z (by rw [Int.add_sub_cancel]; exact (Int.natCast_emod _ _).symm) oM) ?_
 refine RD_t 29 Z kR Z (fun _ hK => v_load_P hK isAgg5 Z (hrow13 0 _ Z)) (RD_t 30 Z kR Z (fun _ hK => v_conv (by simp [underlying5]) underlying3 Z (wrap_i64 oO)) (RD_t 31 Z kR Z (fun _ hK => v_mul Z Z oO) (RD_t 32 Z kR Z (fun _ hK => v_add Z Z oO) (vM 33 Z Z (RD_t 34 Z kR Z (fun _ hK => v_mul Z Z oO) (RD_t 35 Z kR Z (fun _ hK => v_add Z Z oO) (vM 36 Z Z (vM 37 Z Z (RD_t 38 Z kR Z (fun _ hK => v_nilCheck Z) (RD_t 39 Z kR Z (fun _ hK => v_fieldAddr 0 runUnderlying118 Z sizeOf22 Z Z) (RD_t 40 Z kR Z (fun _ hK => v_load_B 0 hK isAgg22 Z Z Z) (RD_t 41 Z kR Z (fun _ hK => v_len_slice underlying22 Z) (RD_t 42 Z kR Z (fun _ hK => v_quo Z Z oM oM oM) (RD_t 43 Z kR Z (fun _ hK => v_mul Z Z oO) (RD_t 44 Z kR Z (fun _ hK => v_add Z Z oO) ?_)))))))))))))))
 refine RD_t 45 Z kR Z (fun _ hK => v_assign Z) (RD_done kR (N_K (q2 (mV Z (mV Z (o_quo Z Z Z oM oM oM (o_xor Z Z Z oO oO ?_))))))); intro xr20 hxr20
 refine aG Z (q1 (mV Z (mV Z (o_rem Z Z Z oM oM (aG Z (q3 (W_ret (rt1 results38 Z ?_))))))))
 exact H.retM ⟨p + 1, _, by omega, congrArg (Value.int .i64) (Int.toNat_of_nonneg (Int.emod_nonneg _ oM)).symm, .inl (by rw [Int.toNat_of_nonneg (Int.emod_nonneg _ oM)]; exact Int.emod_lt_of_pos _ oM), rfl⟩
end Go.Proofs.Tst

namespace Go.Proofs.Tst
open Go Fw Tryz
theorem of_c (w0 : World) (G0 : PH) (hG : PSub G0 w0) (rb : Nat) (ab : Option Addr) (mb kb : Nat) (bs : List UInt8) (p : Nat) (hbs : RdU G0 (.slice ab mb kb) bs) (hrb : w0.heap[rb]? = some (cl [.slice ab mb kb, .int .i64 (p : Int)] 118)) (hrn : G0 rb = none) (hp : p ≤ 100000000000) (vlist : Value) (list : List (Bs)) (hlist : RdT G0 vlist list) (hL : 0 < list.length) :
  Calls Tryz.prog 39 #[.pointer (some ⟨rb, 0, none⟩), vlist] w0 (RetM w0 G0 [rb] (fun G val Bs => ∃ (p' : Nat) (x : Fw.Bs), p' ≤ p + 1 ∧ val = str x ∧ x.length ≤ 16777216 ∧ Bs = [blk rb (cl [.slice ab mb kb, .int .i64 (p' : Int)] 118)])) := by
 have hlimbs : bs.length ≤ 1099511627776 := hbs.lim; obtain rfl : mb = bs.length := hbs.len
 obtain ⟨alist, klist, rfl⟩ := hlist.shape
 have hlimlist : list.length ≤ 1099511627776 := hlist.lim
 have H := Hp.initM hG hrb hrn
 refine calls_of_W (l := [.pointer (some ⟨rb, 0, none⟩), .slice alist list.length klist]) func39 Z ntmps39 Z (q2 (aG Z (q1 (mV Z (mV Z (mV Z (o_len_slice underlying69 Z Z (o_call call38 Z Z (pick_c _ _ H.sub _ _ _ _ _ _ hbs (H.blkIs (k := 0) Z).1 (H.blkIs (k := 0) Z).2 oM _ oO ) ?_))))))))
 rintro _ w1 ⟨G1, _, _, rfl, H1', ⟨p1, x1, hp1, rfl, hxb1, rfl⟩⟩
 have hlist := hlist.up H1'.le
 have H := H.borrow (k := 0) rfl H1'
 refine ⟨_, Z, ?_⟩
 refine o_index_P x1 hlist underlying69 sizeOf9 Z Z Z Z aN ?_; intro b2 o2 z2 q2 hz2 hE2 hrow2
 obtain ⟨rfl, hi2⟩ := hE2; have hy_hi2 : _ ≤ 16777216 := hi2
 refine o_load_P H isAgg9 Z Z (hrow2 0 _ Z) (aG Z (q3 (W_ret (rt1 results39 Z ?_))))
 exact H.retM ⟨_, _, by omega, rfl, (by assumption), rfl⟩
end Go.Proofs.Tst

namespace Go.Proofs.Tst
open Go Fw Tryz
theorem l6Open_c (w0 : World) (G0 : PH) (hG : PSub G0 w0) (vcode : Value) (code : List (UInt8)) (hcode : RdU G0 vcode code)  :
  Calls Tryz.prog 36 #[vcode] w0 (RetO w0 G0 (fun G val r => ∃ (b : Nat) (ab : Option Addr) (mb kb : Nat) (bs : List UInt8), val = .pointer (some ⟨b, 0, none⟩) ∧ r = blk b (cl [.slice ab mb kb, .int .i64 ((0 : Nat) : Int)] 118) ∧ RdU G (.slice ab mb kb) bs)) := by
 obtain ⟨acode, kcode, rfl⟩ := hcode.shape
 have hlimcode : code.length ≤ 1099511627776 := hcode.lim
 have H := Hp.init hG
 refine calls_of_W (l := [.slice acode code.length kcode]) func36 Z ntmps36 Z (q2 (aG Z (q3 (W_seq (q2 (mV Z (o_len_slice underlying22 Z Z (o_gtr Z Z Z (q3 ?_)))))))))
 refine W_cond Z ?_ ?_
 ·intro hc1
  try simp only [nrm] at hc1
  refine W_region (mV Z ?_)
  have hcap2 := hcode.cap; try simp only [List.length_set, List.length_append, List.length_take, List.length_drop, List.length_replicate] at hcap2
  refine o_slice_to (j := 2000) underlying22 sizeOf5 Z Z Z oM oM ?_
  have hsl2 := hcode.take (j := 2000) aN
  have hsn1 := hsl2.len
  refine aG Z (q1 (mV Z (o_build bf118 Z Z Z (o_box H Z Z Z ?_)))); intro b3 w3 hb3 H
  refine aG Z (q3 (W_ret (rt1 results36 Z ?_)))
  exact H.retO (k := 0) rfl ⟨_, _, _, _, _, rfl, rfl, hsl2⟩ (by simp [blk])
 intro hc1'
 try simp only [nrm] at hc1'
 refine W_skip (N_K (q2 (mV Z (o_build bf118 Z Z Z (o_box H Z Z Z ?_))))); intro b4 w4 hb4 H
 refine aG Z (q3 (W_ret (rt1 results36 Z ?_)))
 exact H.retO (k := 0) rfl ⟨_, _, _, _, _, rfl, rfl, hcode⟩ (by simp [blk])
end Go.Proofs.Tst

namespace Go.Proofs.Tst
open Go Fw Tryz
theorem l91Path_c (w0 : World) (G0 : PH) (hG : PSub G0 w0) (rb : Nat) (ab : Option Addr) (mb kb : Nat) (bs : List UInt8) (p : Nat) (hbs : RdU G0 (.slice ab mb kb) bs) (hrb : w0.heap[rb]? = some (cl [.slice ab mb kb, .int .i64 (p : Int)] 118)) (hrn : G0 rb = none) (hp : p ≤ 10000000000)  :
  Calls Tryz.prog 55 #[.pointer (some ⟨rb, 0, none⟩)] w0 (RetM w0 G0 [rb] (fun G val Bs => ∃ (p' : Nat) (x : Fw.Bs), p' ≤ p + 2 ∧ val = str x ∧ x.length ≤ 16777216 ∧ Bs = [blk rb (cl [.slice ab mb kb, .int .i64 (p' : Int)] 118)])) := by
 have hlimbs : bs.length ≤ 1099511627776 := hbs.lim; obtain rfl : mb = bs.length := hbs.len
 have H := Hp.initM hG hrb hrn
 refine calls_of_W (l := [.pointer (some ⟨rb, 0, none⟩)]) func55 Z ntmps55 Z (q2 (aG Z (q3 (W_seq (q2 (mV Z (o_call call38 Z Z (pick_c _ _ H.sub _ _ _ _ _ _ hbs (H.blkIs (k := 0) Z).1 (H.blkIs (k := 0) Z).2 oM _ oO ) ?_)))))))
 rintro _ w1 ⟨G1, _, _, rfl, H1', ⟨p1, x1, hp1, rfl, hxb1, rfl⟩⟩
 have hbs := hbs.up H1'.le
 have H := H.borrow (k := 0) rfl H1'
 refine ⟨_, Z, ?_⟩
 refine o_eql Z Z Z (q3 ?_)
 refine W_cond Z ?_ ?_
 ·intro hc2
  try simp only [nrm] at hc2
  refine q2 (mV Z (o_buildSlice H underlying69 sizeOf9 (fun w => ⟨_, zeroValue9 w, Z⟩) Z Z Z Z Z Z Z ?_)); intro b3 w3 hb3 H
  have H := H.blkAcc 1 (k := 0) (n := 8) rfl rfl (by decide)
  have hchk5 := (((((((((Chk.nil (E := strE) (sz := 1) (G := G1)).snoc (show strE _ ([] : Fw.Bs) [str []] from ⟨rfl, by decide⟩) rfl).snoc (show strE _ ([97, 47, 47, 98] : Fw.Bs) [str [97, 47, 47, 98]] from ⟨rfl, by decide⟩) rfl).snoc (show strE _ ([47, 97] : Fw.Bs) [str [47, 97]] from ⟨rfl, by decide⟩) rfl).snoc (show strE _ ([97, 47] : Fw.Bs) [str [97, 47]] from ⟨rfl, by decide⟩) rfl).snoc (show strE _ ([65] : Fw.Bs) [str [65]] from ⟨rfl, by decide⟩) rfl).snoc (show strE _ ([97, 98, 99, 100, 101, 102] : Fw.Bs) [str [97, 98, 99, 100, 101, 102]] from ⟨rfl, by decide⟩) rfl).snoc (show strE _ ([97, 47, 98, 47, 99, 47, 100, 47, 101] : Fw.Bs) [str [97, 47, 98, 47, 99, 47, 100, 47, 101]] from ⟨rfl, by decide⟩) rfl).snoc (show strE _ ([97, 47, 98, 47, 99, 47, 100] : Fw.Bs) [str [97, 47, 98, 47, 99, 47, 100]] from ⟨rfl, by decide⟩) rfl)
  obtain ⟨G6, H, hsg6, hsr6⟩ := H.shutM (k := 0) (j := 0) rfl rfl hchk5 aN aN
  have hbs := hbs.up hsg6
  refine o_call call39 Z Z (of_c _ _ H.sub _ _ _ _ _ _ hbs (H.blkIs (k := 0) Z).1 (H.blkIs (k := 0) Z).2 oM _ _ hsr6 (by first | decide | (simp; done) | (simp; omega))) ?_
  rintro _ w4 ⟨G4, _, _, rfl, H4', ⟨p4, x4, hp4, rfl, hxs4, rfl⟩⟩
  have H := H.borrow (k := 0) rfl H4'
  refine ⟨_, Z, ?_⟩
  refine aG Z (q3 (W_ret (N_K_ret (rt1 results55 Z ?_))))
  exact H.retM ⟨_, _, by omega, rfl, (by assumption), rfl⟩
 intro hc2'
 try simp only [nrm] at hc2'
 refine W_skip (N_K (q2 (mV Z (o_buildSlice H underlying69 sizeOf9 (fun w => ⟨_, zeroValue9 w, Z⟩) Z Z Z Z Z Z Z ?_)))); intro b7 w7 hb7 H
 have H := H.blkAcc 1 (k := 0) (n := 8) rfl rfl (by decide)
 have hchk9 := (((((((((Chk.nil (E := strE) (sz := 1) (G := G1)).snoc (show strE _ ([97] : Fw.Bs) [str [97]] from ⟨rfl, by decide⟩) rfl).snoc (show strE _ ([98] : Fw.Bs) [str [98]] from ⟨rfl, by decide⟩) rfl).snoc (show strE _ ([97, 47, 120] : Fw.Bs) [str [97, 47, 120]] from ⟨rfl, by decide⟩) rfl).snoc (show strE _ ([97, 47, 121] : Fw.Bs) [str [97, 47, 121]] from ⟨rfl, by decide⟩) rfl).snoc (show strE _ ([98, 47, 120] : Fw.Bs) [str [98, 47, 120]] from ⟨rfl, by decide⟩) rfl).snoc (show strE _ ([97, 47, 120, 47, 112] : Fw.Bs) [str [97, 47, 120, 47, 112]] from ⟨rfl, by decide⟩) rfl).snoc (show strE _ ([99] : Fw.Bs) [str [99]] from ⟨rfl, by decide⟩) rfl).snoc (show strE _ ([97, 47, 120, 47, 113] : Fw.Bs) [str [97, 47, 120, 47, 113]] from ⟨rfl, by decide⟩) rfl)
 obtain ⟨G10, H, hsg10, hsr10⟩ := H.shutM (k := 0) (j := 0) rfl rfl hchk9 aN aN
 have hbs := hbs.up hsg10
 refine o_call call39 Z Z (of_c _ _ H.sub _ _ _ _ _ _ hbs (H.blkIs (k := 0) Z).1 (H.blkIs (k := 0) Z).2 oM _ _ hsr10 (by first | decide | (simp; done) | (simp; omega))) ?_
 rintro _ w8 ⟨G8, _, _, rfl, H8', ⟨p8, x8, hp8, rfl, hxs8, rfl⟩⟩
 have H := H.borrow (k := 0) rfl H8'
 refine ⟨_, Z, ?_⟩
 refine aG Z (q3 (W_ret (rt1 results55 Z ?_)))
 exact H.retM ⟨_, _, by omega, rfl, (by assumption), rfl⟩
end Go.Proofs.Tst

namespace Go.Proofs.Tst
open Go Fw Tryz
theorem l91At_c (w0 : World) (G0 : PH) (hG : PSub G0 w0) (rb : Nat) (ab : Option Addr) (mb kb : Nat) (bs : List UInt8) (p : Nat) (hbs : RdU G0 (.slice ab mb kb) bs) (hrb : w0.heap[rb]? = some (cl [.slice ab mb kb, .int .i64 (p : Int)] 118)) (hrn : G0 rb = none) (hp : p ≤ 1000000000) (vlist : Value) (list : List (BItem)) (hlist : RdItems G0 vlist list)  :
  Calls Tryz.prog 54 #[.pointer (some ⟨rb, 0, none⟩), vlist] w0 (RetM w0 G0 [rb] (fun G val Bs => ∃ (p' : Nat) (x : Fw.Bs), p' ≤ p + 4 ∧ val = str x ∧ x.length ≤ 16777216 ∧ Bs = [blk rb (cl [.slice ab mb kb, .int .i64 (p' : Int)] 118)])) := by
 have hlimbs : bs.length ≤ 1099511627776 := hbs.lim; obtain rfl : mb = bs.length := hbs.len
 obtain ⟨alist, klist, rfl⟩ := hlist.shape
 have hlimlist : list.length ≤ 1099511627776 := hlist.lim
 have H := Hp.initM hG hrb hrn
 refine calls_of_W (l := [.pointer (some ⟨rb, 0, none⟩), .slice alist list.length klist]) func54 Z ntmps54 Z (q2 (aG Z (q3 (W_seq (q2 (mV Z (o_len_slice underlying24 Z Z (o_gtr Z Z Z (mV Z ?_)))))))))
 refine R_case (t := 8) Z ?_ ?_
 ·intro hc1
  try simp only [nrm] at hc1
  refine gR Z (mV Z (gR Z (o_call call38 Z Z (pick_c _ _ H.sub _ _ _ _ _ _ hbs (H.blkIs (k := 0) Z).1 (H.blkIs (k := 0) Z).2 oM _ oO ) ?_)))
  rintro _ w2 ⟨G2, _, _, rfl, H2', ⟨p2, x2, hp2, rfl, hxb2, rfl⟩⟩
  have hbs := hbs.up H2'.le
  have hlist := hlist.up H2'.le
  have H := H.borrow (k := 0) rfl H2'
  refine ⟨_, Z, ?_⟩
  refine gR Z (o_gtr Z Z Z (o_pick_t Z Z Z (q3 ?_)))
  refine W_cond Z ?_ ?_
  ·intro hc3
   try simp only [nrm] at hc3
   refine q2 (mV Z (mV Z (mV Z (o_len_slice underlying24 Z Z (o_call call38 Z Z (pick_c _ _ H.sub _ _ _ _ _ _ hbs (H.blkIs (k := 0) Z).1 (H.blkIs (k := 0) Z).2 oM _ oO ) ?_)))))
   rintro _ w4 ⟨G4, _, _, rfl, H4', ⟨p4, x4, hp4, rfl, hxb4, rfl⟩⟩
   have hlist := hlist.up H4'.le
   have H := H.borrow (k := 0) rfl H4'
   refine ⟨_, Z, ?_⟩
   refine o_index_P x4 hlist underlying24 sizeOf37 Z Z Z Z aN ?_; intro b5 o5 z5 q5 hz5 hE5 hrow5
   obtain ⟨a5, m5, c5, rfl, hi5, hr5⟩ := hE5; have hy_hi5 : _ ≤ 16777216 := hi5; have hn_hr5 := hr5.len; have hx_hr5 : _ ≤ 1099511627776 := hr5.lim
   refine o_fieldAddr 0 runUnderlying37 Z sizeOf9 Z Z Z (o_load_P H isAgg9 Z Z (hrow5 0 _ Z) (aG Z (q3 (W_ret (N_K_ret (rt1 results54 Z ?_))))))
   exact H.retM ⟨_, _, by omega, rfl, (by assumption), rfl⟩
  intro hc3'
  try simp only [nrm] at hc3'
  refine W_skip (N_K (q2 (mV Z (o_call call55 Z Z (l91Path_c _ _ H.sub _ _ _ _ _ _ hbs (H.blkIs (k := 0) Z).1 (H.blkIs (k := 0) Z).2 oM ) ?_))))
  rintro _ w6 ⟨G6, _, _, rfl, H6', ⟨p6, x6, hp6, rfl, hxs6, rfl⟩⟩
  have H := H.borrow (k := 0) rfl H6'
  refine ⟨_, Z, ?_⟩
  refine aG Z (q3 (W_ret (rt1 results54 Z ?_)))
  exact H.retM ⟨_, _, by omega, rfl, (by assumption), rfl⟩
 intro hc1'
 try simp only [nrm] at hc1'
 refine rP Z (rP Z (rP Z (o_pick_f Z Z Z (q3 (W_false Z (W_skip (N_K (q2 (mV Z (o_call call55 Z Z (l91Path_c _ _ H.sub _ _ _ _ _ _ hbs (H.blkIs (k := 0) Z).1 (H.blkIs (k := 0) Z).2 oM ) ?_))))))))))
 rintro _ w7 ⟨G7, _, _, rfl, H7', ⟨p7, x7, hp7, rfl, hxs7, rfl⟩⟩
 have H := H.borrow (k := 0) rfl H7'
 refine ⟨_, Z, ?_⟩
 refine aG Z (q3 (W_ret (rt1 results54 Z ?_)))
 exact H.retM ⟨_, _, by omega, rfl, (by assumption), rfl⟩
end Go.Proofs.Tst

namespace Go.Proofs.Tst
open Go Fw Tryz
theorem l91File_c (w0 : World) (G0 : PH) (hG : PSub G0 w0) (rb : Nat) (ab : Option Addr) (mb kb : Nat) (bs : List UInt8) (p : Nat) (hbs : RdU G0 (.slice ab mb kb) bs) (hrb : w0.heap[rb]? = some (cl [.slice ab mb kb, .int .i64 (p : Int)] 118)) (hrn : G0 rb = none) (hp : p ≤ 1000000000)  :
  Calls Tryz.prog 60 #[.pointer (some ⟨rb, 0, none⟩)] w0 (RetM w0 G0 [rb] (fun G val Bs => ∃ (p' : Nat) (x : List Int) (v : Value) (c : List Value), p' ≤ p + 100 ∧ val = v ∧ Chk intE 1 G c x ∧ x.length ≤ 33 ∧ Bs = [acc 3 1 v x.length c, blk rb (cl [.slice ab mb kb, .int .i64 (p' : Int)] 118)])) := by
 have hlimbs : bs.length ≤ 1099511627776 := hbs.lim; obtain rfl : mb = bs.length := hbs.len
 have H := Hp.initM hG hrb hrn
 refine calls_of_W (l := [.pointer (some ⟨rb, 0, none⟩)]) func60 Z ntmps60 Z (q2 (aG Z (q1 (o_buildSlice H underlying33 sizeOf3 (fun w => ⟨_, zeroValue3 w, Z⟩) Z Z Z Z Z Z Z ?_)))); intro b1 w1 hb1 H
 have H := H.blkAcc 1 (k := 0) (n := 0) rfl rfl (by decide)
 refine aG Z (q1 (o_buildSlice H underlying33 sizeOf3 (fun w => ⟨_, zeroValue3 w, Z⟩) Z Z Z Z Z Z Z ?_)); intro b2 w2 hb2 H
 refine mV Z (o_call call38 Z Z (pick_c _ _ H.sub _ _ _ _ _ _ hbs (H.blkIs (k := 2) Z).1 (H.blkIs (k := 2) Z).2 oM _ oO ) ?_)
 rintro _ w3 ⟨G3, _, _, rfl, H3', ⟨p3, x3, hp3, rfl, hxb3, rfl⟩⟩
 have hbs := hbs.up H3'.le
 have H := H.borrow (k := 2) rfl H3'
 refine ⟨_, Z, ?_⟩
 have H := H.blkAcc 1 (k := 1) (n := 8) rfl rfl (by decide)
 have hchk5 := (((((((((Chk.nil (E := intE) (sz := 1) (G := G3)).snoc (show intE _ (0 : Int) [.int .i64 0] from ⟨rfl, by decide⟩) rfl).snoc (show intE _ (1 : Int) [.int .i64 1] from ⟨rfl, by decide⟩) rfl).snoc (show intE _ (7 : Int) [.int .i64 7] from ⟨rfl, by decide⟩) rfl).snoc (show intE _ (8 : Int) [.int .i64 8] from ⟨rfl, by decide⟩) rfl).snoc (show intE _ (9 : Int) [.int .i64 9] from ⟨rfl, by decide⟩) rfl).snoc (show intE _ (16 : Int) [.int .i64 16] from ⟨rfl, by decide⟩) rfl).snoc (show intE _ (17 : Int) [.int .i64 17] from ⟨rfl, by decide⟩) rfl).snoc (show intE _ (32 : Int) [.int .i64 32] from ⟨rfl, by decide⟩) rfl)
 obtain ⟨G6, H, hsg6, hsr6⟩ := H.shutM (k := 1) (j := 0) rfl rfl hchk5 aN aN
 have hbs := hbs.up hsg6
 have hl_hsr6 := hsr6.len
 refine o_index_P x3 hsr6 underlying33 sizeOf3 Z Z Z Z aN ?_; intro b4 o4 z4 q4 hz4 hE4 hrow4
 obtain ⟨rfl, hi4⟩ := hE4
 have hzb : 0 ≤ z4 ∧ z4 ≤ 32 := by have := List.mem_of_getElem? hz4; simp at this; omega
 refine o_load_P H isAgg3 Z Z (hrow4 0 _ Z) (aG Z (q3 (W_seq (q2 (mV Z (o_call call38 Z Z (pick_c _ _ H.sub _ _ _ _ _ _ hbs (H.blkIs (k := 0) Z).1 (H.blkIs (k := 0) Z).2 oM _ oO ) ?_))))))
 rintro _ w7 ⟨G7, _, _, rfl, H7', ⟨p7, x7, hp7, rfl, hxb7, rfl⟩⟩
 have hbs := hbs.up H7'.le
 have H := H.borrow (k := 0) rfl H7'
 refine ⟨_, Z, ?_⟩
 refine o_eql Z Z Z (q3 ?_)
 refine W_cond Z ?_ ?_
 ·intro hc8
  try simp only [nrm] at hc8
  refine W_region (mV Z (o_call call38 Z Z (pick_c _ _ H.sub _ _ _ _ _ _ hbs (H.blkIs (k := 0) Z).1 (H.blkIs (k := 0) Z).2 oM _ oO ) ?_))
  rintro _ w9 ⟨G9, _, _, rfl, H9', ⟨p9, x9, hp9, rfl, hxb9, rfl⟩⟩
  have hbs := hbs.up H9'.le
  have H := H.borrow (k := 0) rfl H9'
  refine ⟨_, Z, ?_⟩
  refine aG Z (q1 (mV Z (o_call call38 Z Z (pick_c _ _ H.sub _ _ _ _ _ _ hbs (H.blkIs (k := 0) Z).1 (H.blkIs (k := 0) Z).2 oM _ oO ) ?_)))
  rintro _ w10 ⟨G10, _, _, rfl, H10', ⟨p10, x10, hp10, rfl, hxb10, rfl⟩⟩
  have hbs := hbs.up H10'.le
  have H := H.borrow (k := 0) rfl H10'
  refine ⟨_, Z, ?_⟩
  refine aG Z (q3 (W_seq (q2 (aG Z (q3 (W_block ?_))))))
  refine W_lp (hf := (Sub.cons (t := 0) Z (Sub.cons (t := 2) Z (Sub.cons (t := 4) Z (Sub.cons (t := 5) Z Sub.nil))))) (J := fun M w m => ∃ (v : Value) (n : Nat) (cs : List Value) (xs : List (Int)) (k : Nat) (pp : Nat) (G : PH), M = [(6, .int .i64 (k : Int)), (3, v)] ∧ PLe G10 G ∧ Hp w0 G0 [rb] w G [blk rb (cl [.slice ab bs.length kb, .int .i64 (pp : Int)] 118), acc 3 1 v n cs] ∧ (Chk intE 1 G cs xs ∧ n = xs.length ∧ k ≤ 32 ∧ xs.length = k ∧ pp ≤ p + 10 + 2 * k) ∧ m = (33 - k)) (h0 := ⟨_, _, _, [], 0, p10, _, Z, PLe.refl _, H, ?inv, Z⟩) (round := ?round)
  case inv => exact ⟨(Chk.nil (E := intE) (sz := 1) (G := G10)),  by first | rfl | simp | (simp; omega) | omega, (by exact ⟨by omega, rfl, by omega⟩)⟩
  case round =>
   rintro _ w11 _ ⟨v, n, cs, xs, k, pp, G11, rfl, hle11, H, hinv11, rfl⟩
   have hbs := hbs.up hle11
   obtain ⟨hchk11_0, hn11_0, hinv11⟩ := hinv11
   obtain ⟨av11_0, cv11_0, rfl⟩ := H.accShape (k := 1) rfl
   obtain ⟨hk, hxl, hpp⟩ := hinv11
   refine W_seq (q2 (mV Z (mV Z (o_lss Z Z Z (q3 ?_)))))
   refine W_cond Z ?_ ?_
   ·intro hc12
    try simp only [nrm] at hc12
    refine W_skip (N_K (W_seq (W_block (W_region (mV Z (mV Z (mV Z (o_quo Z Z Z oM oM oM (mV Z (o_call call38 Z Z (pick_c _ _ H.sub _ _ _ _ _ _ hbs (H.blkIs (k := 0) Z).1 (H.blkIs (k := 0) Z).2 oM _ oO ) ?_))))))))))
    rintro _ w13 ⟨G13, _, _, rfl, H13', ⟨p13, x13, hp13, rfl, hxb13, rfl⟩⟩
    have hbs := hbs.up H13'.le
    have hchk11_0 := hchk11_0.up H13'.le
    have hle11 := hle11.trans H13'.le
    have H := H.borrow (k := 0) rfl H13'
    refine ⟨_, Z, ?_⟩
    have hma13 : 0 ≤ ((k : Int) / 8) * (x13 : Int) := Int.mul_nonneg oM oM
    have hmb13 : ((k : Int) / 8) * (x13 : Int) ≤ 4 * (x13 : Int) := Int.mul_le_mul_of_nonneg_right oM oM
    refine o_mul Z Z Z oO (o_add Z Z Z oO (mV Z (o_call call38 Z Z (pick_c _ _ H.sub _ _ _ _ _ _ hbs (H.blkIs (k := 0) Z).1 (H.blkIs (k := 0) Z).2 oM _ oO ) ?_)))
    rintro _ w16 ⟨G16, _, _, rfl, H16', ⟨p16, x16, hp16, rfl, hxb16, rfl⟩⟩
    have hchk11_0 := hchk11_0.up H16'.le
    have hle11 := hle11.trans H16'.le
    have H := H.borrow (k := 0) rfl H16'
    refine ⟨_, Z, ?_⟩
    have hma16 : 0 ≤ ((k : Int) / 8) * (x16 : Int) := Int.mul_nonneg oM oM
    have hmb16 : ((k : Int) / 8) * (x16 : Int) ≤ 4 * (x16 : Int) := Int.mul_le_mul_of_nonneg_right oM oM
    refine o_quo Z Z Z oM oM oM (o_add Z Z Z oO (o_buildSlice H underlying33 sizeOf3 (fun w => ⟨_, zeroValue3 w, Z⟩) Z Z Z Z Z Z Z ?_)); intro b18 w18 hb18 H
    refine o_append1 1 H (sz := 1) (bytes := 8) underlying33 typeInfo3 ⟨_, Z, Z⟩ Z Z Z Z Z Z Z Z Z Z oM Z ?_; intro v19 w19 H
    have hchk19 := hchk11_0.snoc (show intE _ ((x10 : Int) + ((k : Int) / 8) * (x13 : Int) + (x16 : Int) / 5) _ from ⟨rfl, oO⟩) rfl
    obtain ⟨av19, cv19, rfl⟩ := H.accShape (k := 1) rfl
    refine aG Z (R_nil (N_B (N_K (W_region (mV Z (o_add Z Z Z oO (aG Z (R_nil ?_))))))))
    refine N_lp (hJ := ⟨_, _, _, (xs ++ [((x10 : Int) + ((k : Int) / 8) * (x13 : Int) + (x16 : Int) / 5)]), k + 1, p16, _, Z, hle11, H, ?inv, Z⟩) (hm := ?hm)
    case hm => omega
    case inv => exact ⟨hchk19, aN, (by exact ⟨by omega, by simp [hxl], by omega⟩)⟩
   intro hc12'
   try simp only [nrm] at hc12'
   refine W_exit (N_K_exit (N_LP_exit (N_B_same (N_K (W_seq (q2 (mV Z (o_call call38 Z Z (pick_c _ _ H.sub _ _ _ _ _ _ hbs (H.blkIs (k := 0) Z).1 (H.blkIs (k := 0) Z).2 oM _ oO ) ?_))))))))
   rintro _ w21 ⟨G21, _, _, rfl, H21', ⟨p21, x21, hp21, rfl, hxb21, rfl⟩⟩
   have hbs := hbs.up H21'.le
   have hchk11_0 := hchk11_0.up H21'.le
   have H := H.borrow (k := 0) rfl H21'
   refine ⟨_, Z, ?_⟩
   have hma21 : 0 ≤ ((k : Int) / 8) * (x21 : Int) := Int.mul_nonneg oM oM
   have hmb21 : ((k : Int) / 8) * (x21 : Int) ≤ 4 * (x21 : Int) := Int.mul_le_mul_of_nonneg_right oM oM
   refine q3 (W_block (q2 (o_eql Z Z Z (aG Z (q3 ?_)))))
   refine W_cond Z ?_ ?_
   ·intro hc22
    try simp only [nrm] at hc22
    refine q2 (mV Z (o_gtr Z Z Z (q3 ?_)))
    refine W_cond Z ?_ ?_
    ·intro hc23
     try simp only [nrm] at hc23
     refine W_region (mV Z (mV Z (mV Z (o_call call38 Z Z (pick_c _ _ H.sub _ _ _ _ _ _ hbs (H.blkIs (k := 0) Z).1 (H.blkIs (k := 0) Z).2 oM _ oO ) ?_))))
     rintro _ w24 ⟨G24, _, _, rfl, H24', ⟨p24, x24, hp24, rfl, hxb24, rfl⟩⟩
     have hchk11_0 := hchk11_0.up H24'.le
     have H := H.borrow (k := 0) rfl H24'
     refine ⟨_, Z, ?_⟩
     have hma24 : 0 ≤ ((k : Int) / 8) * (x24 : Int) := Int.mul_nonneg oM oM
     have hmb24 : ((k : Int) / 8) * (x24 : Int) ≤ 4 * (x24 : Int) := Int.mul_le_mul_of_nonneg_right oM oM
     refine o_index_A 1 H x24 Z hchk11_0 underlying33 sizeOf3 Z Z Z Z aN aN ?_; intro ba25 z25 q25 hba25 hz25 hE25 hg25; cases hba25
     obtain ⟨rfl, hi25⟩ := hE25
     have hcl26 := hchk11_0.length
     refine o_store_A 1 H sizeOf3 Z Z Z Z Z (by simp only [vc, List.length_cons, List.length_nil]; omega) ?_; intro w26 H
     have hchk26 := hchk11_0.put (x' := 256) (off := 0) (vs := [_]) hz25 (fun cs hl hE => by obtain ⟨rfl, _⟩ := hE; exact ⟨rfl, oO⟩) (by simp only [vc, List.length_cons, List.length_nil]; omega)
     refine R_nil (N_B (N_K (q2 (mV Z (aG Z (q3 (W_ret (rt1 results60 Z ?_))))))))
     have H := H.toFront (k := 1) rfl
     have hcx := hchk26
     exact H.retM ⟨_, (xs.set x24 256), _, _, oM, rfl, hcx, (by first | (simp; done) | (simp; omega) | (simp at *; omega) | omega), acc_1 aN⟩
    intro hc23'
    try simp only [nrm] at hc23'
    refine W_skip (N_B (N_K (q2 (mV Z (aG Z (q3 (W_ret (rt1 results60 Z ?_))))))))
    have H := H.toFront (k := 1) rfl
    have hcx := hchk11_0
    exact H.retM ⟨_, xs, _, _, oM, rfl, hcx, (by first | (simp; done) | (simp; omega) | (simp at *; omega) | omega), acc_1 aN⟩
   intro hc22'
   try simp only [nrm] at hc22'
   refine q2 (o_eql Z Z Z (aG Z (q3 ?_)))
   refine W_cond Z ?_ ?_
   ·intro hc27
    try simp only [nrm] at hc27
    refine q2 (o_makeN (c := 33) (sz := 1) (bytes := 8) H underlying33 typeInfo3 ⟨_, Z, Z⟩ Z Z Z Z Z Z Z Z Z oM Z ?_); intro b28 w28 H
    have hchk28 := Chk.rep (E := intE) (sz := 1) (G := G21) (x0 := 0) (⟨rfl, by decide⟩) rfl (33)
    refine aG Z (q3 (W_ret (N_B_ret (N_K_ret (rt1 results60 Z ?_)))))
    have H := H.del (k := 2) rfl
    have H := H.toFront (k := 1) rfl
    have H := H.toFront (k := 1) rfl
    have hcx := hchk28
    exact H.retM ⟨_, (List.replicate (33) 0), _, _, oM, rfl, hcx, (by first | (simp; done) | (simp; omega) | (simp at *; omega) | omega), acc_1 aN⟩
   intro hc27'
   try simp only [nrm] at hc27'
   refine W_skip (N_B (N_K (q2 (mV Z (aG Z (q3 (W_ret (rt1 results60 Z ?_))))))))
   have H := H.toFront (k := 1) rfl
   have hcx := hchk11_0
   exact H.retM ⟨_, xs, _, _, oM, rfl, hcx, (by first | (simp; done) | (simp; omega) | (simp at *; omega) | omega), acc_1 aN⟩
 intro hc8'
 try simp only [nrm] at hc8'
 refine W_skip (N_K (q2 (mV Z (o_call call38 Z Z (pick_c _ _ H.sub _ _ _ _ _ _ hbs (H.blkIs (k := 0) Z).1 (H.blkIs (k := 0) Z).2 oM _ oO ) ?_))))
 rintro _ w29 ⟨G29, _, _, rfl, H29', ⟨p29, x29, hp29, rfl, hxb29, rfl⟩⟩
 have hbs := hbs.up H29'.le
 have H := H.borrow (k := 0) rfl H29'
 refine ⟨_, Z, ?_⟩
 refine aG Z (q3 (W_seq (q2 (aG Z (q3 (W_block ?_))))))
 refine W_lp (hf := (Sub.cons (t := 0) Z (Sub.cons (t := 2) Z (Sub.cons (t := 4) Z (Sub.cons (t := 5) Z Sub.nil))))) (J := fun M w m => ∃ (v : Value) (n : Nat) (cs : List Value) (xs : List (Int)) (k : Nat) (pp : Nat) (G : PH), M = [(6, .int .i64 (k : Int)), (3, v)] ∧ PLe G29 G ∧ Hp w0 G0 [rb] w G [blk rb (cl [.slice ab bs.length kb, .int .i64 (pp : Int)] 118), acc 3 1 v n cs] ∧ (Chk intE 1 G cs xs ∧ n = xs.length ∧ k ≤ 32 ∧ xs.length = k ∧ pp ≤ p + 10 + 2 * k) ∧ m = (33 - k)) (h0 := ⟨_, _, _, [], 0, p29, _, Z, PLe.refl _, H, ?inv, Z⟩) (round := ?round)
 case inv => exact ⟨(Chk.nil (E := intE) (sz := 1) (G := G29)),  by first | rfl | simp | (simp; omega) | omega, (by exact ⟨by omega, rfl, by omega⟩)⟩
 case round =>
  rintro _ w30 _ ⟨v, n, cs, xs, k, pp, G30, rfl, hle30, H, hinv30, rfl⟩
  have hbs := hbs.up hle30
  obtain ⟨hchk30_0, hn30_0, hinv30⟩ := hinv30
  obtain ⟨av30_0, cv30_0, rfl⟩ := H.accShape (k := 1) rfl
  obtain ⟨hk, hxl, hpp⟩ := hinv30
  refine W_seq (q2 (mV Z (mV Z (o_lss Z Z Z (q3 ?_)))))
  refine W_cond Z ?_ ?_
  ·intro hc31
   try simp only [nrm] at hc31
   refine W_skip (N_K (W_seq (W_block (W_region (mV Z (mV Z (mV Z (o_quo Z Z Z oM oM oM (mV Z (o_call call38 Z Z (pick_c _ _ H.sub _ _ _ _ _ _ hbs (H.blkIs (k := 0) Z).1 (H.blkIs (k := 0) Z).2 oM _ oO ) ?_))))))))))
   rintro _ w32 ⟨G32, _, _, rfl, H32', ⟨p32, x32, hp32, rfl, hxb32, rfl⟩⟩
   have hbs := hbs.up H32'.le
   have hchk30_0 := hchk30_0.up H32'.le
   have hle30 := hle30.trans H32'.le
   have H := H.borrow (k := 0) rfl H32'
   refine ⟨_, Z, ?_⟩
   have hma32 : 0 ≤ ((k : Int) / 8) * (x32 : Int) := Int.mul_nonneg oM oM
   have hmb32 : ((k : Int) / 8) * (x32 : Int) ≤ 4 * (x32 : Int) := Int.mul_le_mul_of_nonneg_right oM oM
   refine o_mul Z Z Z oO (o_add Z Z Z oO (mV Z (o_call call38 Z Z (pick_c _ _ H.sub _ _ _ _ _ _ hbs (H.blkIs (k := 0) Z).1 (H.blkIs (k := 0) Z).2 oM _ oO ) ?_)))
   rintro _ w35 ⟨G35, _, _, rfl, H35', ⟨p35, x35, hp35, rfl, hxb35, rfl⟩⟩
   have hchk30_0 := hchk30_0.up H35'.le
   have hle30 := hle30.trans H35'.le
   have H := H.borrow (k := 0) rfl H35'
   refine ⟨_, Z, ?_⟩
   have hma35 : 0 ≤ ((k : Int) / 8) * (x35 : Int) := Int.mul_nonneg oM oM
   have hmb35 : ((k : Int) / 8) * (x35 : Int) ≤ 4 * (x35 : Int) := Int.mul_le_mul_of_nonneg_right oM oM
   refine o_quo Z Z Z oM oM oM (o_add Z Z Z oO (o_buildSlice H underlying33 sizeOf3 (fun w => ⟨_, zeroValue3 w, Z⟩) Z Z Z Z Z Z Z ?_)); intro b37 w37 hb37 H
   refine o_append1 1 H (sz := 1) (bytes := 8) underlying33 typeInfo3 ⟨_, Z, Z⟩ Z Z Z Z Z Z Z Z Z Z oM Z ?_; intro v38 w38 H
   have hchk38 := hchk30_0.snoc (show intE _ ((x29 : Int) + ((k : Int) / 8) * (x32 : Int) + (x35 : Int) / 5) _ from ⟨rfl, oO⟩) rfl
   obtain ⟨av38, cv38, rfl⟩ := H.accShape (k := 1) rfl
   refine aG Z (R_nil (N_B (N_K (W_region (mV Z (o_add Z Z Z oO (aG Z (R_nil ?_))))))))
   refine N_lp (hJ := ⟨_, _, _, (xs ++ [((x29 : Int) + ((k : Int) / 8) * (x32 : Int) + (x35 : Int) / 5)]), k + 1, p35, _, Z, hle30, H, ?inv, Z⟩) (hm := ?hm)
   case hm => omega
   case inv => exact ⟨hchk38, aN, (by exact ⟨by omega, by simp [hxl], by omega⟩)⟩
  intro hc31'
  try simp only [nrm] at hc31'
  refine W_exit (N_K_exit (N_LP_exit (N_B_same (N_K (W_seq (q2 (mV Z (o_call call38 Z Z (pick_c _ _ H.sub _ _ _ _ _ _ hbs (H.blkIs (k := 0) Z).1 (H.blkIs (k := 0) Z).2 oM _ oO ) ?_))))))))
  rintro _ w40 ⟨G40, _, _, rfl, H40', ⟨p40, x40, hp40, rfl, hxb40, rfl⟩⟩
  have hbs := hbs.up H40'.le
  have hchk30_0 := hchk30_0.up H40'.le
  have H := H.borrow (k := 0) rfl H40'
  refine ⟨_, Z, ?_⟩
  have hma40 : 0 ≤ ((k : Int) / 8) * (x40 : Int) := Int.mul_nonneg oM oM
  have hmb40 : ((k : Int) / 8) * (x40 : Int) ≤ 4 * (x40 : Int) := Int.mul_le_mul_of_nonneg_right oM oM
  refine q3 (W_block (q2 (o_eql Z Z Z (aG Z (q3 ?_)))))
  refine W_cond Z ?_ ?_
  ·intro hc41
   try simp only [nrm] at hc41
   refine q2 (mV Z (o_gtr Z Z Z (q3 ?_)))
   refine W_cond Z ?_ ?_
   ·intro hc42
    try simp only [nrm] at hc42
    refine W_region (mV Z (mV Z (mV Z (o_call call38 Z Z (pick_c _ _ H.sub _ _ _ _ _ _ hbs (H.blkIs (k := 0) Z).1 (H.blkIs (k := 0) Z).2 oM _ oO ) ?_))))
    rintro _ w43 ⟨G43, _, _, rfl, H43', ⟨p43, x43, hp43, rfl, hxb43, rfl⟩⟩
    have hchk30_0 := hchk30_0.up H43'.le
    have H := H.borrow (k := 0) rfl H43'
    refine ⟨_, Z, ?_⟩
    have hma43 : 0 ≤ ((k : Int) / 8) * (x43 : Int) := Int.mul_nonneg oM oM
    have hmb43 : ((k : Int) / 8) * (x43 : Int) ≤ 4 * (x43 : Int) := Int.mul_le_mul_of_nonneg_right oM oM
    refine o_index_A 1 H x43 Z hchk30_0 underlying33 sizeOf3 Z Z Z Z aN aN ?_; intro ba44 z44 q44 hba44 hz44 hE44 hg44; cases hba44
    obtain ⟨rfl, hi44⟩ := hE44
    have hcl45 := hchk30_0.length
    refine o_store_A 1 H sizeOf3 Z Z Z Z Z (by simp only [vc, List.length_cons, List.length_nil]; omega) ?_; intro w45 H
    have hchk45 := hchk30_0.put (x' := 256) (off := 0) (vs := [_]) hz44 (fun cs hl hE => by obtain ⟨rfl, _⟩ := hE; exact ⟨rfl, oO⟩) (by simp only [vc, List.length_cons, List.length_nil]; omega)
    refine R_nil (N_B (N_K (q2 (mV Z (aG Z (q3 (W_ret (rt1 results60 Z ?_))))))))
    have H := H.toFront (k := 1) rfl
    have hcx := hchk45
    exact H.retM ⟨_, (xs.set x43 256), _, _, oM, rfl, hcx, (by first | (simp; done) | (simp; omega) | (simp at *; omega) | omega), acc_1 aN⟩
   intro hc42'
   try simp only [nrm] at hc42'
   refine W_skip (N_B (N_K (q2 (mV Z (aG Z (q3 (W_ret (rt1 results60 Z ?_))))))))
   have H := H.toFront (k := 1) rfl
   have hcx := hchk30_0
   exact H.retM ⟨_, xs, _, _, oM, rfl, hcx, (by first | (simp; done) | (simp; omega) | (simp at *; omega) | omega), acc_1 aN⟩
  intro hc41'
  try simp only [nrm] at hc41'
  refine q2 (o_eql Z Z Z (aG Z (q3 ?_)))
  refine W_cond Z ?_ ?_
  ·intro hc46
   try simp only [nrm] at hc46
   refine q2 (o_makeN (c := 33) (sz := 1) (bytes := 8) H underlying33 typeInfo3 ⟨_, Z, Z⟩ Z Z Z Z Z Z Z Z Z oM Z ?_); intro b47 w47 H
   have hchk47 := Chk.rep (E := intE) (sz := 1) (G := G40) (x0 := 0) (⟨rfl, by decide⟩) rfl (33)
   refine aG Z (q3 (W_ret (N_B_ret (N_K_ret (rt1 results60 Z ?_)))))
   have H := H.del (k := 2) rfl
   have H := H.toFront (k := 1) rfl
   have H := H.toFront (k := 1) rfl
   have hcx := hchk47
   exact H.retM ⟨_, (List.replicate (33) 0), _, _, oM, rfl, hcx, (by first | (simp; done) | (simp; omega) | (simp at *; omega) | omega), acc_1 aN⟩
  intro hc46'
  try simp only [nrm] at hc46'
  refine W_skip (N_B (N_K (q2 (mV Z (aG Z (q3 (W_ret (rt1 results60 Z ?_))))))))
  have H := H.toFront (k := 1) rfl
  have hcx := hchk30_0
  exact H.retM ⟨_, xs, _, _, oM, rfl, hcx, (by first | (simp; done) | (simp; omega) | (simp at *; omega) | omega), acc_1 aN⟩
end Go.Proofs.Tst

namespace Go.Proofs.Tst
open Go Fw Tryz
theorem l3Free_c (w0 : World) (G0 : PH) (hG : PSub G0 w0) (vlist : Value) (list : List (BHeld)) (hlist : RdH G0 vlist list)  :
  Calls Tryz.prog 191 #[vlist] w0 (Rets w0 (.int .i64 (Sp.freeId list : Int))) := by
 obtain ⟨alist, klist, rfl⟩ := hlist.shape
 have hlimlist : list.length ≤ 1099511627776 := hlist.lim
 have H := Hp.init hG
 refine calls_of_W (l := [.slice alist list.length klist]) func191 Z ntmps191 Z (q2 (aG Z (q1 (aG Z (q3 (W_seq (W_block ?_)))))))
 refine W_lp (hf := (Sub.cons (t := 0) Z (Sub.cons (t := 2) Z Sub.nil))) (J := fun M w m => ∃ (k : Nat) (G : PH), M = [(3, .int .i64 ((k : Int) + 1))] ∧ PLe G0 G ∧ Hp w0 G0 [] w G [] ∧ (∀ j : Nat, j < k → (Sp.atH list ((j : Int) + 1)).isSome = true) ∧ m = (list.length + 1 - k)) (h0 := ⟨0, _, Z, PLe.refl _, H, ?inv, Z⟩) (round := ?round)
 case inv => exact fun j hj => by omega
 case round =>
  rintro _ w1 _ ⟨k, G1, rfl, hle1, H, hinv1, rfl⟩
  have hlist := hlist.up hle1
  have hall := hinv1; have hkl := Sp.free_le hall
  refine W_seq (q2 (mV Z (mV Z (o_call call113 Z Z (l3At_c _ _ H.sub _ _ hlist _ ) ?_))))
  rintro _ w2 ⟨rfl, ew2⟩; have H := H.step ew2; refine ⟨_, rfl, ?_⟩
  refine o_geq Z Z Z (q3 ?_)
  refine W_cond Z ?_ ?_
  ·intro hc3
   try simp only [nrm] at hc3
   refine W_skip (N_K (W_block (W_region (mV Z (o_add Z Z Z oO (aG Z (R_nil (N_B ?_))))))))
   refine N_lp (hJ := ⟨k + 1, _, Z, hle1, H, ?inv, Z⟩) (hm := ?hm)
   case hm => omega
   case inv => exact Sp.upto_succ (p := fun j : Nat => (Sp.atH list ((j : Int) + 1)).isSome) hall (Sp.isSome_of hc3)
  intro hc3'
  try simp only [nrm] at hc3'
  refine W_exit (N_K_exit (N_LP_exit (N_B_same (N_K (q2 (mV Z (aG Z (q3 (W_ret (rt1 results191 Z ?_))))))))))
  exact H.rets (congrArg (Value.int .i64) (by rw [Sp.free_eq hall (Sp.isNone_of hc3')]; rfl))
end Go.Proofs.Tst

