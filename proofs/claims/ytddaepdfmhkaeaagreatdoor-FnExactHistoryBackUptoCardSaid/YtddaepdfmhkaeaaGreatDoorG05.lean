/- Part 5 of the proof: contracts of functions of the program. Conditions: none. -/
import Derived.Test.YtddaepdfmhkaeaaGreatDoorProg
import Derived.Test.YtddaepdfmhkaeaaGreatDoorG02
import Derived.Test.YtddaepdfmhkaeaaGreatDoorG03
import Derived.Test.YtddaepdfmhkaeaaGreatDoorG04
set_option linter.all false
set_option maxRecDepth 100000
set_option maxHeartbeats 1000000
namespace Go.Proofs.Tst
open Go Fw Tryz
theorem l6In_c (w0 : World) (n : Int) (lo : Int) (hi : Int)  :
  Calls Tryz.prog 101 #[.int .i64 n, .int .i64 lo, .int .i64 hi] w0 (Rets w0 (.bool (Sp.l6In n lo hi))) := by
 have H := Hp.init0 w0
 refine calls_of_W (l := [.int .i64 n, .int .i64 lo, .int .i64 hi]) func101 Z ntmps101 Z (q2 (aG Z (q1 (mV Z (mV Z (o_geq Z Z Z (mV Z ?_)))))))
 refine R_case (t := 10) Z ?_ ?_
 ·intro hc1
  try simp only [nrm] at hc1
  refine gR Z (mV Z (gR Z (mV Z (gR Z (o_leq Z Z Z (o_pick_t Z Z Z (aG Z (q3 (W_ret (rt1 results101 Z ?_))))))))))
  exact H.rets (congrArg Value.bool (by unfold Sp.l6In; rw [Bool.eq_iff_iff]; simp; omega))
 intro hc1'
 try simp only [nrm] at hc1'
 refine rP Z (rP Z (rP Z (o_pick_f Z Z Z (aG Z (q3 (W_ret (rt1 results101 Z ?_)))))))
 exact H.rets (congrArg Value.bool (by unfold Sp.l6In; rw [Bool.eq_iff_iff]; simp; omega))
theorem l1Word_c (w0 : World) (s : Bs) (hs : s.length ≤ 16777216)  :
  Calls Tryz.prog 45 #[str s] w0 (Rets w0 (.bool (Sp.l1Word s))) := by
 have H := Hp.init0 w0
 refine calls_of_W (l := [str s]) func45 Z ntmps45 Z (q2 (aG Z (q3 (W_seq (q2 (aG Z (q3 (W_block ?_))))))))
 refine W_lp (hf := (Sub.cons (t := 0) Z Sub.nil)) (J := fun M w m => ∃ (k : Nat) (G : PH), M = [(3, .int .i64 (k : Int))] ∧ PLe (fun _ => none) G ∧ Hp w0 (fun _ => none) [] w G [] ∧ (k ≤ s.length ∧ (s.take k).all Sp.low = true) ∧ m = (s.length - k)) (h0 := ⟨0, _, Z, PLe.refl _, H, ?inv, Z⟩) (round := ?round)
 case inv => exact ⟨by omega, by simp⟩
 case round =>
  rintro _ w1 _ ⟨k, G1, rfl, hle1, H, hinv1, rfl⟩
  obtain ⟨hk, hall⟩ := hinv1
  refine W_seq (q2 (mV Z (mV Z (o_len_str underlying9 Z Z (o_lss Z Z Z (q3 ?_))))))
  refine W_cond Z ?_ ?_
  ·intro hc2
   try simp only [nrm] at hc2
   refine W_skip (N_K (W_seq (W_block (q2 (mV Z (mV Z (o_index_str underlying9 Z Z Z Z oM ?_))))))); intro ch3 hch3; have hlt3 := ch3.toNat_lt
   refine o_lss Z Z Z (mV Z ?_)
   refine R_case (t := 14) Z ?_ ?_
   ·intro hc4
    try simp only [nrm] at hc4
    refine rP Z (rP Z (rP Z (rP Z (o_pick_t Z Z Z (q3 (W_true Z (q2 (aG Z (q3 (W_ret (N_B_ret (N_K_ret (N_LP_ret (N_B_ret (N_K_ret ?_)))))))))))))))
    refine rt1 results45 Z ?_
    exact H.rets (congrArg Value.bool (by rw [Sp.l1Word, Sp.all_false hch3 (by simp [Sp.low]; omega)]; rfl))
   intro hc4'
   try simp only [nrm] at hc4'
   refine gR Z (mV Z (gR Z (mV Z (gR Z (o_index_str underlying9 Z Z Z Z oM ?_))))); intro ch5 hch5; have hlt5 := ch5.toNat_lt
   obtain rfl : ch5 = ch3 := Option.some.inj (hch5.symm.trans hch3)
   refine gR Z (o_gtr Z Z Z (o_pick_f Z Z Z (q3 ?_)))
   refine W_cond Z ?_ ?_
   ·intro hc6
    try simp only [nrm] at hc6
    refine q2 (aG Z (q3 (W_ret (N_B_ret (N_K_ret (N_LP_ret (N_B_ret (N_K_ret (rt1 results45 Z ?_)))))))))
    exact H.rets (congrArg Value.bool (by rw [Sp.l1Word, Sp.all_false hch5 (by simp [Sp.low]; omega)]; rfl))
   intro hc6'
   try simp only [nrm] at hc6'
   refine W_skip (N_B (N_K (W_region (mV Z (o_add Z Z Z oO (aG Z (R_nil ?_)))))))
   refine N_lp (hJ := ⟨k + 1, _, Z, hle1, H, ?inv, Z⟩) (hm := ?hm)
   case hm => omega
   case inv => exact ⟨by omega, Sp.all_take hall hch5 (by simp [Sp.low]; omega)⟩
  intro hc2'
  try simp only [nrm] at hc2'
  refine W_exit (N_K_exit (N_LP_exit (N_B_same (N_K (q2 (mV Z (o_len_str underlying9 Z Z (o_call call101 Z Z (l6In_c _ _ _ _ ) ?_))))))))
  rintro _ w8 ⟨rfl, ew8⟩; have H := H.step ew8; refine ⟨_, rfl, ?_⟩
  refine aG Z (q3 (W_ret (rt1 results45 Z ?_)))
  obtain rfl : k = s.length := by omega
  rw [List.take_length] at hall
  exact H.rets (congrArg Value.bool (by simp only [Sp.l1Word, Sp.l6In, hall]; rw [Bool.eq_iff_iff]; simp; omega))
theorem l1Cut_c (w0 : World) (G0 : PH) (hG : PSub G0 w0) (s : Bs) (hs : s.length ≤ 16777216)  :
  Calls Tryz.prog 207 #[str s] w0 (RetP w0 G0 (fun G v => RdT G v (Sp.cut s))) := by
 have H := Hp.init hG
 refine calls_of_W (l := [str s]) func207 Z ntmps207 Z (q2 (aG Z (q1 (o_buildSlice H underlying69 sizeOf9 (fun w => ⟨_, zeroValue9 w, Z⟩) Z Z Z Z Z Z Z ?_)))); intro b1 w1 hb1 H
 have H := H.blkAcc 1 (k := 0) (n := 0) rfl rfl (by decide)
 refine aG Z (q1 (aG Z (q3 (W_seq (q2 (aG Z (q3 (W_block ?_))))))))
 refine W_lp (hf := (Sub.cons (t := 0) Z (Sub.cons (t := 2) Z Sub.nil))) (J := fun M w m => ∃ (v : Value) (n : Nat) (cs : List Value) (xs : List (Bs)) (f k : Nat) (G : PH), M = [(4, .int .i64 (f : Int)), (5, .int .i64 (k : Int)), (3, v)] ∧ PLe G0 G ∧ Hp w0 G0 [] w G [acc 9 1 v n cs] ∧ (Chk strE 1 G cs xs ∧ n = xs.length ∧ f ≤ k ∧ k ≤ s.length ∧ xs.length ≤ k ∧ xs ++ Sp.cut (s.drop f) = Sp.cut s ∧ ∀ j, f ≤ j → j < k → s[j]? ≠ some 47) ∧ m = (s.length - k)) (h0 := ⟨_, _, _, [], 0, 0, _, Z, PLe.refl _, H, ?inv, Z⟩) (round := ?round)
 case inv => exact ⟨(Chk.nil (E := strE) (sz := 1) (G := G0)),  by first | rfl | simp | (simp; omega) | omega, (by simp)⟩
 case round =>
  rintro _ w2 _ ⟨v, n, cs, xs, f, k, G2, rfl, hle2, H, hinv2, rfl⟩
  obtain ⟨hchk2_0, hn2_0, hinv2⟩ := hinv2
  obtain ⟨av2_0, cv2_0, rfl⟩ := H.accShape (k := 0) rfl
  obtain ⟨h1, h2, h3, h4, h5⟩ := hinv2
  refine W_seq (q2 (mV Z (mV Z (o_len_str underlying9 Z Z (o_lss Z Z Z (q3 ?_))))))
  refine W_cond Z ?_ ?_
  ·intro hc3
   try simp only [nrm] at hc3
   refine W_skip (N_K (W_seq (W_block (q2 (mV Z (mV Z (o_index_str underlying9 Z Z Z Z oM ?_))))))); intro ch4 hch4; have hlt4 := ch4.toNat_lt
   refine o_eql Z Z Z (q3 ?_)
   refine W_cond Z ?_ ?_
   ·intro hc5
    try simp only [nrm] at hc5
    refine q2 (mV Z (mV Z (mV Z (mV Z (o_slice_str underlying9 Z Z Z Z oM oM oM (o_buildSlice H underlying69 sizeOf9 (fun w => ⟨_, zeroValue9 w, Z⟩) Z Z Z Z Z Z Z ?_)))))); intro b7 w7 hb7 H
    refine o_append1 0 H (sz := 1) (bytes := 16) underlying69 typeInfo9 ⟨_, Z, Z⟩ Z Z Z Z Z Z Z Z Z Z oM Z ?_; intro v8 w8 H
    have hchk8 := hchk2_0.snoc (show strE _ ((s.drop f).take (k - f)) _ from ⟨rfl, (by (first | assumption | (refine Sp.l5Parent_lim ?_; assumption) | (simp; done) | (simp; omega) | omega))⟩) rfl
    obtain ⟨av8, cv8, rfl⟩ := H.accShape (k := 0) rfl
    refine aG Z (q3 (W_region (mV Z (o_add Z Z Z oO (aG Z (R_nil (N_B (N_K (W_region (mV Z (o_add Z Z Z oO (aG Z (R_nil ?_)))))))))))))
    refine N_lp (hJ := ⟨_, _, _, (xs ++ [((s.drop f).take (k - f))]), k + 1, k + 1, _, Z, hle2, H, ?inv, Z⟩) (hm := ?hm)
    case hm => omega
    case inv => exact ⟨hchk8, aN, (by exact ⟨by omega, by omega, by simp; omega, Sp.cut_step h4 h1 (hch4 ▸ congrArg some (Sp.is47 oM)) h5, fun j g1 g2 => by omega⟩)⟩
   intro hc5'
   try simp only [nrm] at hc5'
   refine W_skip (N_B (N_K (W_region (mV Z (o_add Z Z Z oO (aG Z (R_nil ?_)))))))
   refine N_lp (hJ := ⟨_, _, _, xs, f, k + 1, _, Z, hle2, H, ?inv, Z⟩) (hm := ?hm)
   case hm => omega
   case inv => exact ⟨hchk2_0, aN, (by exact ⟨by omega, by omega, by omega, h4, Sp.noslash_succ h5 (hch4 ▸ Sp.not47 oM)⟩)⟩
  intro hc3'
  try simp only [nrm] at hc3'
  refine W_exit (N_K_exit (N_LP_exit (N_B_same (N_K (q2 (mV Z (mV Z (mV Z (o_slice_str_from underlying9 Z Z Z oM oM (o_buildSlice H underlying69 sizeOf9 (fun w => ⟨_, zeroValue9 w, Z⟩) Z Z Z Z Z Z Z ?_)))))))))); intro b13 w13 hb13 H
  refine o_append1 0 H (sz := 1) (bytes := 16) underlying69 typeInfo9 ⟨_, Z, Z⟩ Z Z Z Z Z Z Z Z Z Z oM Z ?_; intro v14 w14 H
  have hchk14 := hchk2_0.snoc (show strE _ (s.drop f) _ from ⟨rfl, (by (first | assumption | (refine Sp.l5Parent_lim ?_; assumption) | (simp; done) | (simp; omega) | omega))⟩) rfl
  obtain ⟨av14, cv14, rfl⟩ := H.accShape (k := 0) rfl
  refine aG Z (q3 (W_ret (rt1 results207 Z ?_)))
  obtain ⟨G515, H, hsg515, hsr515⟩ := H.shut' (k := 0) rfl hchk14 aN aN
  exact H.retP (by rw [← Sp.cut_end h4 h5 oM]; exact hsr515)
theorem PathValid_c (w0 : World) (G0 : PH) (hG : PSub G0 w0) (path : Bs) (hpath : path.length ≤ 16777216)  :
  Calls Tryz.prog 183 #[str path] w0 (Rets w0 (.bool (Sp.PathValid path))) := by
 have H := Hp.init hG
 refine calls_of_W (l := [str path]) func183 Z ntmps183 Z (q2 (aG Z (q1 (mV Z (o_call call207 Z Z (l1Cut_c _ _ H.sub _ hpath ) ?_)))))
 rintro _ w1 ⟨G1, u1_0, g1, rfl, hr1_0⟩
 have H := H.grow g1
 obtain ⟨a1_0, k1_0, rfl⟩ := hr1_0.shape; have hx_hr1_0 : _ ≤ 1099511627776 := hr1_0.lim
 refine ⟨_, Z, ?_⟩
 refine aG Z (q3 (W_seq (q2 (aG Z (q3 (W_block ?_))))))
 refine W_lp (hf := (Sub.cons (t := 3) Z Sub.nil)) (J := fun M w m => ∃ (k : Nat) (G : PH), M = [(4, .int .i64 (k : Int))] ∧ PLe G1 G ∧ Hp w0 G0 [] w G [] ∧ (k ≤ (Sp.cut path).length ∧ ((Sp.cut path).take k).all Sp.l1Word = true) ∧ m = ((Sp.cut path).length - k)) (h0 := ⟨0, _, Z, PLe.refl _, H, ?inv, Z⟩) (round := ?round)
 case inv => simp
 case round =>
  rintro _ w2 _ ⟨k, G2, rfl, hle2, H, hinv2, rfl⟩
  have hr1_0 := hr1_0.up hle2
  obtain ⟨hk, hall⟩ := hinv2
  refine W_seq (q2 (mV Z (mV Z (o_len_slice underlying69 Z Z (o_lss Z Z Z (q3 ?_))))))
  refine W_cond Z ?_ ?_
  ·intro hc3
   try simp only [nrm] at hc3
   refine W_skip (N_K (W_seq (W_block (q2 (mV Z (mV Z (o_index_P k hr1_0 underlying69 sizeOf9 Z Z Z Z aN ?_))))))); intro b4 o4 z4 q4 hz4 hE4 hrow4
   obtain ⟨rfl, hi4⟩ := hE4; have hy_hi4 : _ ≤ 16777216 := hi4
   refine o_load_P H isAgg9 Z Z (hrow4 0 _ Z) (o_call call45 Z Z (l1Word_c _ _ hi4 ) ?_)
   rintro _ w5 ⟨rfl, ew5⟩; have H := H.step ew5; refine ⟨_, rfl, ?_⟩
   refine o_not Z Z (q3 ?_)
   refine W_cond Z ?_ ?_
   ·intro hc6
    try simp only [nrm] at hc6
    refine q2 (aG Z (q3 (W_ret (N_B_ret (N_K_ret (N_LP_ret (N_B_ret (N_K_ret (rt1 results183 Z ?_)))))))))
    exact H.rets (congrArg Value.bool (by rw [Sp.PathValid, Sp.all_false hz4 hc6]; rfl))
   intro hc6'
   try simp only [nrm] at hc6'
   refine W_skip (N_B (N_K (W_region (mV Z (o_add Z Z Z oO (aG Z (R_nil ?_)))))))
   refine N_lp (hJ := ⟨k + 1, _, Z, hle2, H, ?inv, Z⟩) (hm := ?hm)
   case hm => omega
   case inv => exact ⟨by omega, Sp.all_take hall hz4 hc6'⟩
  intro hc3'
  try simp only [nrm] at hc3'
  refine W_exit (N_K_exit (N_LP_exit (N_B_same (N_K (q2 (mV Z (o_len_slice underlying69 Z Z (o_leq Z Z Z (aG Z (q3 (W_ret (rt1 results183 Z ?_))))))))))))
  obtain rfl : k = (Sp.cut path).length := by omega
  rw [List.take_length] at hall
  exact H.rets (congrArg Value.bool (by simp only [Sp.PathValid, hall, Bool.true_and]; rw [Bool.eq_iff_iff]; simp; omega))
theorem l1Last_c (w0 : World) (path : Bs) (hpath : path.length ≤ 16777216)  :
  Calls Tryz.prog 208 #[str path] w0 (Rets w0 (.int .i64 (Sp.l1Last path))) := by
 have H := Hp.init0 w0
 refine calls_of_W (l := [str path]) func208 Z ntmps208 Z (q2 (aG Z (q1 (aG Z (q3 (W_seq (q2 (aG Z (q3 (W_block ?_))))))))))
 refine W_lp (hf := (Sub.cons (t := 0) Z (Sub.cons (t := 2) Z Sub.nil))) (J := fun M w m => ∃ (k : Nat) (o : Option Nat) (G : PH), M = [(3, .int .i64 (Sp.optI o)), (4, .int .i64 (k : Int))] ∧ PLe (fun _ => none) G ∧ Hp w0 (fun _ => none) [] w G [] ∧ (k ≤ path.length ∧ o = (List.range k).foldl (Sp.lastF path) none) ∧ m = (path.length - k)) (h0 := ⟨0, none, _, Z, PLe.refl _, H, ?inv, Z⟩) (round := ?round)
 case inv => exact ⟨by omega, rfl⟩
 case round =>
  rintro _ w1 _ ⟨k, o, G1, rfl, hle1, H, hinv1, rfl⟩
  obtain ⟨hk, hall⟩ := hinv1
  refine W_seq (q2 (mV Z (mV Z (o_len_str underlying9 Z Z (o_lss Z Z Z (q3 ?_))))))
  refine W_cond Z ?_ ?_
  ·intro hc2
   try simp only [nrm] at hc2
   refine W_skip (N_K (W_seq (W_block (q2 (mV Z (mV Z (o_index_str underlying9 Z Z Z Z oM ?_))))))); intro ch3 hch3; have hlt3 := ch3.toNat_lt
   refine o_eql Z Z Z (q3 ?_)
   refine W_cond Z ?_ ?_
   ·intro hc4
    try simp only [nrm] at hc4
    refine W_region (mV Z (aG Z (R_nil (N_B (N_K (W_region (mV Z (o_add Z Z Z oO (aG Z (R_nil ?_))))))))))
    refine N_lp (hJ := ⟨k + 1, some k, _, Z, hle1, H, ?inv, Z⟩) (hm := ?hm)
    case hm => omega
    case inv => exact ⟨by omega, by rw [Sp.last_succ, ← hall, Sp.lastF, hch3, if_pos (congrArg some (Sp.is47 oM))]⟩
   intro hc4'
   try simp only [nrm] at hc4'
   refine W_skip (N_B (N_K (W_region (mV Z (o_add Z Z Z oO (aG Z (R_nil ?_)))))))
   refine N_lp (hJ := ⟨k + 1, o, _, Z, hle1, H, ?inv, Z⟩) (hm := ?hm)
   case hm => omega
   case inv => exact ⟨by omega, by rw [Sp.last_succ, ← hall, Sp.lastF, hch3, if_neg (Sp.not47 oM)]⟩
  intro hc2'
  try simp only [nrm] at hc2'
  refine W_exit (N_K_exit (N_LP_exit (N_B_same (N_K (q2 (mV Z (aG Z (q3 (W_ret (rt1 results208 Z ?_))))))))))
  obtain rfl : k = path.length := by omega
  exact H.rets (congrArg (Value.int .i64) (by rw [hall]; rfl))
theorem l5Parent_c (w0 : World) (path : Bs) (hpath : path.length ≤ 16777216)  :
  Calls Tryz.prog 184 #[str path] w0 (Rets w0 (str (Sp.l5Parent path))) := by
 have hl := Sp.l1Last_le path
 have H := Hp.init0 w0
 refine calls_of_W (l := [str path]) func184 Z ntmps184 Z (q2 (aG Z (q1 (mV Z (mV Z (o_call call208 Z Z (l1Last_c _ _ hpath ) ?_))))))
 rintro _ w1 ⟨rfl, ew1⟩; have H := H.step ew1; refine ⟨_, rfl, ?_⟩
 refine o_max Z Z Z (o_slice_str_to underlying9 Z Z Z oM oM (aG Z (q3 (W_ret (rt1 results184 Z ?_)))))
 exact H.rets Z
theorem l5At_c (w0 : World) (G0 : PH) (hG : PSub G0 w0) (vlist : Value) (list : List (BItem)) (hlist : RdItems G0 vlist list) (path : Bs) (hpath : path.length ≤ 16777216)  :
  Calls Tryz.prog 112 #[vlist, str path] w0 (Rets w0 (.int .i64 (Sp.l5At list path))) := by
 obtain ⟨alist, klist, rfl⟩ := hlist.shape
 have hlimlist : list.length ≤ 1099511627776 := hlist.lim
 have H := Hp.init hG
 refine calls_of_W (l := [.slice alist list.length klist, str path]) func112 Z ntmps112 Z (q2 (aG Z (q3 (W_seq (q2 (aG Z (q3 (W_block ?_))))))))
 refine W_lp (hf := (Sub.cons (t := 0) Z (Sub.cons (t := 1) Z Sub.nil))) (J := fun M w m => ∃ (k : Nat) (G : PH), M = [(5, .int .i64 (k : Int))] ∧ PLe G0 G ∧ Hp w0 G0 [] w G [] ∧ (k ≤ list.length ∧ (∀ j, j < k → ∀ y, list[j]? = some y → decide (y.path = path) = false)) ∧ m = (list.length - k)) (h0 := ⟨0, _, Z, PLe.refl _, H, ?inv, Z⟩) (round := ?round)
 case inv => exact ⟨by omega, fun j hj => by omega⟩
 case round =>
  rintro _ w1 _ ⟨k, G1, rfl, hle1, H, hinv1, rfl⟩
  have hlist := hlist.up hle1
  obtain ⟨hk, hall⟩ := hinv1
  refine W_seq (q2 (mV Z (mV Z (o_len_slice underlying24 Z Z (o_lss Z Z Z (q3 ?_))))))
  refine W_cond Z ?_ ?_
  ·intro hc2
   try simp only [nrm] at hc2
   refine W_skip (N_K (W_seq (W_block (q2 (mV Z (mV Z (o_index_P k hlist underlying24 sizeOf37 Z Z Z Z aN ?_))))))); intro b3 o3 z3 q3 hz3 hE3 hrow3
   obtain ⟨a3, m3, c3, rfl, hi3, hr3⟩ := hE3; have hy_hi3 : _ ≤ 16777216 := hi3; have hn_hr3 := hr3.len; have hx_hr3 : _ ≤ 1099511627776 := hr3.lim
   refine o_fieldAddr 0 runUnderlying37 Z sizeOf9 Z Z Z (o_load_P H isAgg9 Z Z (hrow3 0 _ Z) (mV Z (o_seql Z Z Z (q3 ?_))))
   refine W_cond Z ?_ ?_
   ·intro hc4
    try simp only [nrm] at hc4
    refine q2 (mV Z (aG Z (q3 (W_ret (N_B_ret (N_K_ret (N_LP_ret (N_B_ret (N_K_ret (rt1 results112 Z ?_))))))))))
    exact H.rets (congrArg (Value.int .i64) (by rw [Sp.l5At, Sp.atI, Sp.find_at hall hz3 (by simp; exact hc4)]; rfl))
   intro hc4'
   try simp only [nrm] at hc4'
   refine W_skip (N_B (N_K (W_region (mV Z (o_add Z Z Z oO (aG Z (R_nil ?_)))))))
   refine N_lp (hJ := ⟨k + 1, _, Z, hle1, H, ?inv, Z⟩) (hm := ?hm)
   case hm => omega
   case inv => exact ⟨by omega, Sp.none_succ hall hz3 (by simp; exact hc4')⟩
  intro hc2'
  try simp only [nrm] at hc2'
  refine W_exit (N_K_exit (N_LP_exit (N_B_same (N_K (q2 (aG Z (q3 (W_ret (rt1 results112 Z ?_)))))))))
  exact H.rets (congrArg (Value.int .i64) (by rw [Sp.l5At, Sp.atI, Sp.find_none hall oM]; rfl))
theorem l5Home_c (w0 : World) (G0 : PH) (hG : PSub G0 w0) (vlist : Value) (list : List (BItem)) (hlist : RdItems G0 vlist list) (path : Bs) (hpath : path.length ≤ 16777216)  :
  Calls Tryz.prog 146 #[vlist, str path] w0 (Rets w0 (.bool (Sp.l5Home list path))) := by
 obtain ⟨alist, klist, rfl⟩ := hlist.shape
 have hlimlist : list.length ≤ 1099511627776 := hlist.lim
 have H := Hp.init hG
 refine calls_of_W (l := [.slice alist list.length klist, str path]) func146 Z ntmps146 Z (q2 (aG Z (q1 (mV Z (o_call call184 Z Z (l5Parent_c _ _ hpath ) ?_)))))
 rintro _ w1 ⟨rfl, ew1⟩; have H := H.step ew1; refine ⟨_, rfl, ?_⟩
 refine aG Z (q1 (mV Z (mV Z ?_)))
 refine o_call call112 Z Z (l5At_c _ _ H.sub _ _ hlist _ (by (first | assumption | (refine Sp.l5Parent_lim ?_; assumption) | (simp; done) | (simp; omega) | omega)) ) ?_
 rintro _ w2 ⟨rfl, ew2⟩; have H := H.step ew2; refine ⟨_, rfl, ?_⟩
 refine aG Z (q1 (mV Z (o_seql Z Z Z (mV Z ?_))))
 refine R_case (t := 14) Z ?_ ?_
 ·intro hc3
  try simp only [nrm] at hc3
  refine rP Z (rP Z (rP Z (R_pass Z (yl_un Z Z) (R_pass Z (yl_un Z Z) (R_pass Z (yl_un Z Z) (R_pass Z (yl_un Z Z) (R_pass Z (yl_un Z Z) (rP Z (o_pick_t Z Z Z (aG Z (q3 (W_ret (rt1 results146 Z ?_)))))))))))))
  exact H.rets (congrArg Value.bool (by simp [Sp.l5Home, hc3]))
 intro hc3'
 try simp only [nrm] at hc3'
 refine gR Z (mV Z (gR Z (o_geq Z Z Z (gR Z (mV Z ?_)))))
 refine R_case (t := 17) Z ?_ ?_
 ·intro hc4
  try simp only [nrm] at hc4
  obtain ⟨i, x, hi1, hi2, hi3, hi4, hi5⟩ := Sp.at_nat hc4
  refine gR Z (mV Z (gR Z (mV Z (gR Z (o_index_P i hlist underlying24 sizeOf37 Z Z Z hi2 aN ?_))))); intro b5 o5 z5 q5 hz5 hE5 hrow5
  obtain ⟨a5, m5, c5, rfl, hi5, hr5⟩ := hE5; have hy_hi5 : _ ≤ 16777216 := hi5; have hn_hr5 := hr5.len; have hx_hr5 : _ ≤ 1099511627776 := hr5.lim
  refine gR Z (o_fieldAddr 1 runUnderlying37 Z sizeOf4 Z Z Z (gR Z (o_load_P H isAgg4 Z Z (hrow5 1 _ Z) (gR Z (o_pick_t Z Z Z (o_pick_f Z Z Z (aG Z (q3 (W_ret (rt1 results146 Z ?_))))))))))
  exact H.rets (congrArg Value.bool (by simp [Sp.l5Home, hc3', Sp.atI, hi1, hz5]))
 intro hc4'
 try simp only [nrm] at hc4'
 refine rP Z (rP Z (rP Z (rP Z (rP Z (gR Z (o_pick_f Z Z Z (o_pick_f Z Z Z (aG Z (q3 (W_ret (rt1 results146 Z ?_)))))))))))
 exact H.rets (congrArg Value.bool (by simp [Sp.l5Home, hc3', Sp.atI, Sp.at_none hc4']))
theorem l5Item_c (w0 : World) (G0 : PH) (hG : PSub G0 w0) (cx : List Value) (x : BItem) (hx : itemE G0 x cx)  :
  Calls Tryz.prog 145 #[.agg cx.toArray] w0 (Rets w0 (.bool (Sp.l5Item x))) := by
 obtain ⟨a1, m1, c1, rfl, hi1, hr1⟩ := hx; have hy_hi1 : _ ≤ 16777216 := hi1; have hn_hr1 := hr1.len; have hx_hr1 : _ ≤ 1099511627776 := hr1.lim
 have H := Hp.init hG
 refine calls_of_W (l := [_]) func145 Z ntmps145 Z (q2 (o_box H Z Z Z ?_)); intro b2 w2 hb2 H
 refine aG Z (q3 (W_seq (q2 (aG Z (q3 (W_block ?_))))))
 obtain ⟨ln3, hln3, H⟩ := H.name (k := 0) rfl
 refine W_lp (hf := (Sub.cons (t := 1) Z Sub.nil)) (J := fun M w m => ∃ (k : Nat) (G : PH), M = [(3, .int .i64 (k : Int))] ∧ PLe G0 G ∧ Hp w0 G0 [] w G [blk b2 (cl ln3 37)] ∧ (k ≤ x.ids.length ∧ (x.ids.take k).all (Sp.idOk x.dir) = true) ∧ m = (x.ids.length - k)) (h0 := ⟨0, _, Z, PLe.refl _, H, ?inv, Z⟩) (round := ?round)
 case inv => exact ⟨by omega, by simp⟩
 case round =>
  rintro _ w4 _ ⟨k, G4, rfl, hle4, H, hinv4, rfl⟩
  subst hln3
  have hr1 := hr1.up hle4
  obtain ⟨hk, hall⟩ := hinv4
  refine W_seq (q2 (mV Z (o_fieldAddr 2 runUnderlying37 Z sizeOf33 Z Z Z (o_load_B 0 H isAgg33 Z Z Z Z (o_len_slice underlying33 Z Z (o_lss Z Z Z (q3 ?_)))))))
  refine W_cond Z ?_ ?_
  ·intro hc5
   try simp only [nrm] at hc5
   refine W_skip (N_K (W_seq (W_block (q2 (o_fieldAddr 1 runUnderlying37 Z sizeOf4 Z Z Z (o_load_B 0 H isAgg4 Z Z Z Z (mV Z ?_)))))))
   refine R_case (t := 13) Z ?_ ?_
   ·intro hc6
    try simp only [nrm] at hc6
    refine rP Z (rP Z (rP Z (rP Z (rP Z (rP Z (rP Z (o_pick_t Z Z Z (q3 (W_true Z (q2 (aG Z (q3 (W_ret (N_B_ret (N_K_ret ?_)))))))))))))))
    refine N_LP_ret (N_B_ret (N_K_ret (rt1 results145 Z ?_)))
    exact H.rets (congrArg Value.bool (by rw [Sp.l5Item, Sp.all_false (c := x.ids[k]) (List.getElem?_eq_getElem oM) (by simp [Sp.idOk, hc6])]; rfl))
   intro hc6'
   try simp only [nrm] at hc6'
   refine gR Z (o_fieldAddr 2 runUnderlying37 Z sizeOf33 Z Z Z (gR Z (o_load_B 0 H isAgg33 Z Z Z Z (gR Z (mV Z (gR Z (o_index_P k hr1 underlying33 sizeOf3 Z Z Z Z aN ?_))))))); intro b7 o7 z7 q7 hz7 hE7 hrow7
   obtain ⟨rfl, hi7⟩ := hE7
   refine gR Z (o_load_P H isAgg3 Z Z (hrow7 0 _ Z) (gR Z (o_call call101 Z Z (l6In_c _ _ _ _ ) ?_)))
   rintro _ w8 ⟨rfl, ew8⟩; have H := H.step ew8; refine ⟨_, rfl, ?_⟩
   refine gR Z (o_not Z Z (o_pick_f Z Z Z (q3 ?_)))
   refine W_cond Z ?_ ?_
   ·intro hc9
    try simp only [nrm] at hc9
    refine q2 (aG Z (q3 (W_ret (N_B_ret (N_K_ret (N_LP_ret (N_B_ret (N_K_ret (rt1 results145 Z ?_)))))))))
    exact H.rets (congrArg Value.bool (by rw [Sp.l5Item, Sp.all_false hz7 (by simp [Sp.idOk, *])]; rfl))
   intro hc9'
   try simp only [nrm] at hc9'
   refine W_skip (N_B (N_K (W_region (mV Z (o_add Z Z Z oO (aG Z (R_nil ?_)))))))
   refine N_lp (hJ := ⟨k + 1, _, Z, hle4, H, ?inv, Z⟩) (hm := ?hm)
   case hm => omega
   case inv => exact ⟨by omega, Sp.all_take hall hz7 (by simp [Sp.idOk, *])⟩
  intro hc5'
  try simp only [nrm] at hc5'
  refine W_exit (N_K_exit (N_LP_exit (N_B_same (N_K (q2 (o_fieldAddr 0 runUnderlying37 Z sizeOf9 Z Z Z (o_load_B 0 H isAgg9 Z Z Z Z (o_call call183 Z Z (PathValid_c _ _ H.sub _ hi1 ) ?_))))))))
  rintro _ w11 ⟨rfl, ew11⟩; have H := H.step ew11; refine ⟨_, rfl, ?_⟩
  refine mV Z ?_
  refine R_case (t := 25) Z ?_ ?_
  ·intro hc12
   try simp only [nrm] at hc12
   refine gR Z (o_fieldAddr 2 runUnderlying37 Z sizeOf33 Z Z Z (gR Z (o_load_B 0 H isAgg33 Z Z Z Z (gR Z (o_len_slice underlying33 Z Z (gR Z (o_leq Z Z Z (o_pick_t Z Z Z (aG Z (q3 (W_ret (rt1 results145 Z ?_))))))))))))
   obtain rfl : k = x.ids.length := by omega
   rw [List.take_length] at hall
   exact H.rets (congrArg Value.bool (by simp only [Sp.l5Item, hall, hc12, Bool.true_and]; rw [Bool.eq_iff_iff]; simp; omega))
  intro hc12'
  try simp only [nrm] at hc12'
  refine rP Z (rP Z (rP Z (rP Z (o_pick_f Z Z Z (aG Z (q3 (W_ret (rt1 results145 Z ?_))))))))
  exact H.rets (congrArg Value.bool (by simp [Sp.l5Item, hc12']))
theorem TreeValid_c (w0 : World) (G0 : PH) (hG : PSub G0 w0) (vlist : Value) (list : List (BItem)) (hlist : RdItems G0 vlist list)  :
  Calls Tryz.prog 97 #[vlist] w0 (Rets w0 (.bool (Sp.TreeValid list))) := by
 obtain ⟨alist, klist, rfl⟩ := hlist.shape
 have hlimlist : list.length ≤ 1099511627776 := hlist.lim
 have H := Hp.init hG
 refine calls_of_W (l := [.slice alist list.length klist]) func97 Z ntmps97 Z (q2 (aG Z (q3 (W_seq (q2 (aG Z (q3 (W_block ?_))))))))
 refine W_lp (hf := (Sub.cons (t := 0) Z Sub.nil)) (J := fun M w m => ∃ (k : Nat) (G : PH), M = [(3, .int .i64 (k : Int))] ∧ PLe G0 G ∧ Hp w0 G0 [] w G [] ∧ (k ≤ list.length ∧ ∀ j, j < k → Sp.okT list j = true) ∧ m = (list.length - k)) (h0 := ⟨0, _, Z, PLe.refl _, H, ?inv, Z⟩) (round := ?round)
 case inv => exact ⟨by omega, fun j hj => by omega⟩
 case round =>
  rintro _ w1 _ ⟨k, G1, rfl, hle1, H, hinv1, rfl⟩
  have hlist := hlist.up hle1
  obtain ⟨hk, hall⟩ := hinv1
  refine W_seq (q2 (mV Z (mV Z (o_len_slice underlying24 Z Z (o_lss Z Z Z (q3 ?_))))))
  refine W_cond Z ?_ ?_
  ·intro hc2
   try simp only [nrm] at hc2
   refine W_skip (N_K (W_seq (W_block (W_seq (W_drawK [] 34 H kR Z ?_))))); intro w3 H; have hd3 := PLe.refl G1
   refine vM 0 Z Z (vM 1 Z Z ?_)
   have hl4 := hlist.len
   obtain ⟨b4, o4, z4, q4, ha4, hz4, hq4, hE4, hrow4, _⟩ := hlist.at (i := k) oM
   clear hq4
   obtain ⟨a4, m4, c4, rfl, hi4, hr4⟩ := hE4; have hy_hi4 : _ ≤ 16777216 := hi4; have hn_hr4 := hr4.len; have hx_hr4 : _ ≤ 1099511627776 := hr4.lim
   refine RD_t 2 Z kR Z (fun _ hK => v_index_P (i := k) ha4 underlying24 sizeOf37 Z Z Z oM) (RD_t 3 Z kR Z (fun _ hK => v_loadagg_P hK isAgg37 sizeOf37 Z hrow4 Z) ?_)
   refine RD_run [4] kR Z (RDs.cons Z ?_ RDs.nil)
   refine o_call call145 Z Z (l5Item_c _ _ H.sub _ _ ⟨_, _, _, Z, hi4, hr4⟩ ) ?_
   rintro _ w5 ⟨rfl, ew5⟩; have H := H.step ew5; refine ⟨_, rfl, ?_⟩
   refine R_nil (N_DK (Kn.of' H hd3 SubL.nil) (RD_t 5 Z kR Z (fun _ hK => v_not Z) (vM 6 Z Z ?_)))
   refine RD_case (t := 16) Z ?_ ?_
   ·intro hc6
    try simp only [nrm] at hc6
    refine RD_pass 7 Z kR kR kR Z (yl_ne Z Z Z) (RD_pass 8 Z kR kR kR Z (yl_ne Z Z Z) (RD_pass 9 Z kR kR kR Z (yl_ne Z Z Z) (RD_pass 10 Z kR kR kR Z (yl_un Z Z) (RD_pass 11 Z kR kR kR Z (yl_un Z Z) (RD_pass 12 Z kR kR kR Z (yl_un Z Z) (RD_pass 13 Z kR kR kR Z (yl_un Z Z) (RD_pass 14 Z kR kR kR Z (yl_un Z Z) (RD_pass 15 Z kR kR kR Z (yl_un Z Z) (RD_pass 16 Z kR kR kR Z (yl_un Z Z) (RD_pass 17 Z kR kR kR Z (yl_un Z Z) (RD_pass 18 Z kR kR kR Z (yl_un Z Z) (RD_pass 19 Z kR kR kR Z (yl_un Z Z) (RD_pass 20 Z kR kR kR Z (yl_un Z Z) (RD_pass 21 Z kR kR kR Z (yl_un Z Z) (RD_pass 22 Z kR kR kR Z (yl_ne Z Z Z) ?_)))))))))))))))
    refine RD_t 23 Z kR Z (fun _ hK => v_pick_t Z Z) (vM 24 Z Z (RD_pass 25 Z kR kR kR Z (yl_ne Z Z Z) (RD_pass 26 Z kR kR kR Z (yl_ne Z Z Z) (RD_pass 27 Z kR kR kR Z (yl_ne Z Z Z) (RD_pass 28 Z kR kR kR Z (yl_ne Z Z Z) (RD_pass 29 Z kR kR kR Z (yl_ne Z Z Z) (RD_pass 30 Z kR kR kR Z (yl_ne Z Z Z) (RD_pass 31 Z kR kR kR Z (yl_ne Z Z Z) (RD_pass 32 Z kR kR kR Z (yl_ne Z Z Z) (RD_t 33 Z kR Z (fun _ hK => v_pick_t Z Z) (RD_done kR (N_K (W_true Z (q2 (aG Z ?_)))))))))))))))
    refine q3 (W_ret (N_B_ret (N_K_ret (N_LP_ret (N_B_ret (N_K_ret (rt1 results97 Z ?_)))))))
    exact H.rets (congrArg Value.bool (by rw [Sp.TreeValid, Sp.not_all_range (k := k) oM (by rw [Sp.okT_at hz4]; simp [Sp.prevLt, *])]; rfl))
   intro hc6'
   try simp only [nrm] at hc6'
   refine RD_tg 7 Z kR Z (yl Z Z) (fun _ hK => v_move Z) (RD_tg 8 Z kR Z (yl Z Z) (fun _ hK => v_gtr Z Z) (RD_tg 9 Z kR Z (yl Z Z) (fun _ hK => v_move Z) ?_))
   refine RD_case (t := 19) Z ?_ ?_
   ·intro hc7
    try simp only [nrm] at hc7
    have hk0 : k ≠ 0 := by omega
    refine RD_tg 10 Z kR Z (yl Z Z) (fun _ hK => v_move Z) (RD_tg 11 Z kR Z (yl Z Z) (fun _ hK => v_move Z) (RD_tg 12 Z kR Z (yl Z Z) (fun _ hK => v_sub Z Z oO) ?_))
    have hl9 := hlist.len
    obtain ⟨b9, o9, z9, q9, ha9, hz9, hq9, hE9, hrow9, _⟩ := hlist.at (i := (k - 1)) oM
    clear hq9
    obtain ⟨a9, m9, c9, rfl, hi9, hr9⟩ := hE9; have hy_hi9 : _ ≤ 16777216 := hi9; have hn_hr9 := hr9.len; have hx_hr9 : _ ≤ 1099511627776 := hr9.lim
    refine RD_tg 13 Z kR Z (yl Z Z) (fun _ hK => v_index_P (i := (k - 1)) ha9 underlying24 sizeOf37 Z Z oM oM) (RD_tg 14 Z kR Z (yl Z Z) (fun _ hK => v_fieldAddr 0 runUnderlying37 Z sizeOf9 Z Z) (RD_tg 15 Z kR Z (yl Z Z) (fun _ hK => v_load_P hK isAgg9 Z (hrow9 0 _ Z)) (RD_tg 16 Z kR Z (yl Z Z) (fun _ hK => v_move Z) (RD_tg 17 Z kR Z (yl Z Z) (fun _ hK => v_move Z) ?_))))
    have hl10 := hlist.len
    obtain ⟨b10, o10, z10, q10, ha10, hz10, hq10, hE10, hrow10, _⟩ := hlist.at (i := k) oM
    clear hq10
    obtain ⟨a10, m10, c10, rfl, hi10, hr10⟩ := hE10; have hy_hi10 : _ ≤ 16777216 := hi10; have hn_hr10 := hr10.len; have hx_hr10 : _ ≤ 1099511627776 := hr10.lim
    have hzz10 : z4 = z10 := Option.some.inj (hz4.symm.trans hz10)
    subst hzz10
    refine RD_tg 18 Z kR Z (yl Z Z) (fun _ hK => v_index_P (i := k) ha10 underlying24 sizeOf37 Z Z Z oM) (RD_tg 19 Z kR Z (yl Z Z) (fun _ hK => v_fieldAddr 0 runUnderlying37 Z sizeOf9 Z Z) (RD_tg 20 Z kR Z (yl Z Z) (fun _ hK => v_load_P hK isAgg9 Z (hrow10 0 _ Z)) (RD_tg 21 Z kR Z (yl Z Z) (fun _ hK => v_sgeq Z Z) (RD_tg 22 Z kR Z (yl Z Z) (fun _ hK => v_pick_t Z Z) (RD_t 23 Z kR Z (fun _ hK => v_pick_f Z Z) (vM 24 Z Z ?_))))))
    refine RD_case (t := 34) Z ?_ ?_
    ·intro hc11
     try simp only [nrm] at hc11
     refine RD_pass 25 Z kR kR kR Z (yl_ne Z Z Z) (RD_pass 26 Z kR kR kR Z (yl_ne Z Z Z) (RD_pass 27 Z kR kR kR Z (yl_ne Z Z Z) (RD_pass 28 Z kR kR kR Z (yl_ne Z Z Z) (RD_pass 29 Z kR kR kR Z (yl_ne Z Z Z) (RD_pass 30 Z kR kR kR Z (yl_ne Z Z Z) (RD_pass 31 Z kR kR kR Z (yl_ne Z Z Z) (RD_pass 32 Z kR kR kR Z (yl_ne Z Z Z) (RD_t 33 Z kR Z (fun _ hK => v_pick_t Z Z) (RD_done kR (N_K (W_true Z (q2 (aG Z (q3 (W_ret ?_)))))))))))))))
     refine N_B_ret (N_K_ret (N_LP_ret (N_B_ret (N_K_ret (rt1 results97 Z ?_)))))
     exact H.rets (congrArg Value.bool (by rw [Sp.TreeValid, Sp.not_all_range (k := k) oM (by rw [Sp.okT_at hz4]; simp [Sp.prevLt, *])]; rfl))
    intro hc11'
    try simp only [nrm] at hc11'
    refine RD_tg 25 Z kR Z (yl Z Z) (fun _ hK => v_move Z) (RD_tg 26 Z kR Z (yl Z Z) (fun _ hK => v_move Z) (RD_tg 27 Z kR Z (yl Z Z) (fun _ hK => v_move Z) ?_))
    have hl12 := hlist.len
    obtain ⟨b12, o12, z12, q12, ha12, hz12, hq12, hE12, hrow12, _⟩ := hlist.at (i := k) oM
    clear hq12
    obtain ⟨a12, m12, c12, rfl, hi12, hr12⟩ := hE12; have hy_hi12 : _ ≤ 16777216 := hi12; have hn_hr12 := hr12.len; have hx_hr12 : _ ≤ 1099511627776 := hr12.lim
    have hzz12 : z4 = z12 := Option.some.inj (hz4.symm.trans hz12)
    subst hzz12
    refine RD_tg 28 Z kR Z (yl Z Z) (fun _ hK => v_index_P (i := k) ha12 underlying24 sizeOf37 Z Z Z oM) (RD_tg 29 Z kR Z (yl Z Z) (fun _ hK => v_fieldAddr 0 runUnderlying37 Z sizeOf9 Z Z) (RD_tg 30 Z kR Z (yl Z Z) (fun _ hK => v_load_P hK isAgg9 Z (hrow12 0 _ Z)) ?_))
    refine RD_run [31] kR Z (RDs.cons Z ?_ RDs.nil)
    refine gR Z (o_call call146 Z Z (l5Home_c _ _ H.sub _ _ hlist _ hi12 ) ?_)
    rintro _ w13 ⟨rfl, ew13⟩; have H := H.step ew13; refine ⟨_, rfl, ?_⟩
    refine R_nil (N_DK (Kn.of' H hd3 SubL.nil) (RD_tg 32 Z kR Z (yl Z Z) (fun _ hK => v_not Z) (RD_t 33 Z kR Z (fun _ hK => v_pick_f Z Z) (RD_done kR (N_K ?_)))))
    refine W_cond Z ?_ ?_
    ·intro hc14
     try simp only [nrm] at hc14
     refine q2 (aG Z (q3 (W_ret (N_B_ret (N_K_ret (N_LP_ret (N_B_ret (N_K_ret (rt1 results97 Z ?_)))))))))
     exact H.rets (congrArg Value.bool (by rw [Sp.TreeValid, Sp.not_all_range (k := k) oM (by rw [Sp.okT_at hz4]; simp [Sp.prevLt, *])]; rfl))
    intro hc14'
    try simp only [nrm] at hc14'
    refine W_skip (N_B (N_K (W_region (mV Z (o_add Z Z Z oO (aG Z (R_nil ?_)))))))
    refine N_lp (hJ := ⟨k + 1, _, Z, hle1, H, ?inv, Z⟩) (hm := ?hm)
    case hm => omega
    case inv => exact ⟨by omega, Sp.upto_succ hall (by rw [Sp.okT_at hz4]; simp [Sp.prevLt, *])⟩
   intro hc7'
   try simp only [nrm] at hc7'
   have hk0 : k = 0 := by omega
   refine RD_pass 10 Z kR kR kR Z (yl_ne Z Z Z) (RD_pass 11 Z kR kR kR Z (yl_ne Z Z Z) (RD_pass 12 Z kR kR kR Z (yl_ne Z Z Z) (RD_pass 13 Z kR kR kR Z (yl_ne Z Z Z) (RD_pass 14 Z kR kR kR Z (yl_ne Z Z Z) (RD_pass 15 Z kR kR kR Z (yl_ne Z Z Z) (RD_pass 16 Z kR kR kR Z (yl_ne Z Z Z) (RD_pass 17 Z kR kR kR Z (yl_ne Z Z Z) (RD_pass 18 Z kR kR kR Z (yl_ne Z Z Z) (RD_pass 19 Z kR kR kR Z (yl_ne Z Z Z) (RD_pass 20 Z kR kR kR Z (yl_ne Z Z Z) (RD_pass 21 Z kR kR kR Z (yl_ne Z Z Z) (RD_tg 22 Z kR Z (yl Z Z) (fun _ hK => v_pick_f Z Z) (RD_t 23 Z kR Z (fun _ hK => v_pick_f Z Z) (vM 24 Z Z (RD_tg 25 Z kR Z (yl Z Z) (fun _ hK => v_move Z) ?_)))))))))))))))
   refine RD_tg 26 Z kR Z (yl Z Z) (fun _ hK => v_move Z) (RD_tg 27 Z kR Z (yl Z Z) (fun _ hK => v_move Z) ?_)
   have hl16 := hlist.len
   obtain ⟨b16, o16, z16, q16, ha16, hz16, hq16, hE16, hrow16, _⟩ := hlist.at (i := k) oM
   clear hq16
   obtain ⟨a16, m16, c16, rfl, hi16, hr16⟩ := hE16; have hy_hi16 : _ ≤ 16777216 := hi16; have hn_hr16 := hr16.len; have hx_hr16 : _ ≤ 1099511627776 := hr16.lim
   have hzz16 : z4 = z16 := Option.some.inj (hz4.symm.trans hz16)
   subst hzz16
   refine RD_tg 28 Z kR Z (yl Z Z) (fun _ hK => v_index_P (i := k) ha16 underlying24 sizeOf37 Z Z Z oM) (RD_tg 29 Z kR Z (yl Z Z) (fun _ hK => v_fieldAddr 0 runUnderlying37 Z sizeOf9 Z Z) (RD_tg 30 Z kR Z (yl Z Z) (fun _ hK => v_load_P hK isAgg9 Z (hrow16 0 _ Z)) ?_))
   refine RD_run [31] kR Z (RDs.cons Z ?_ RDs.nil)
   refine gR Z (o_call call146 Z Z (l5Home_c _ _ H.sub _ _ hlist _ hi16 ) ?_)
   rintro _ w17 ⟨rfl, ew17⟩; have H := H.step ew17; refine ⟨_, rfl, ?_⟩
   refine R_nil (N_DK (Kn.of' H hd3 SubL.nil) (RD_tg 32 Z kR Z (yl Z Z) (fun _ hK => v_not Z) (RD_t 33 Z kR Z (fun _ hK => v_pick_f Z Z) (RD_done kR (N_K ?_)))))
   refine W_cond Z ?_ ?_
   ·intro hc18
    try simp only [nrm] at hc18
    refine q2 (aG Z (q3 (W_ret (N_B_ret (N_K_ret (N_LP_ret (N_B_ret (N_K_ret (rt1 results97 Z ?_)))))))))
    exact H.rets (congrArg Value.bool (by rw [Sp.TreeValid, Sp.not_all_range (k := k) oM (by rw [Sp.okT_at hz4]; simp [Sp.prevLt, *])]; rfl))
   intro hc18'
   try simp only [nrm] at hc18'
   refine W_skip (N_B (N_K (W_region (mV Z (o_add Z Z Z oO (aG Z (R_nil ?_)))))))
   refine N_lp (hJ := ⟨k + 1, _, Z, hle1, H, ?inv, Z⟩) (hm := ?hm)
   case hm => omega
   case inv => exact ⟨by omega, Sp.upto_succ hall (by rw [Sp.okT_at hz4]; simp [Sp.prevLt, *])⟩
  intro hc2'
  try simp only [nrm] at hc2'
  refine W_exit (N_K_exit (N_LP_exit (N_B_same (N_K (q2 (mV Z (o_len_slice underlying24 Z Z (o_leq Z Z Z (aG Z (q3 (W_ret (rt1 results97 Z ?_))))))))))))
  exact H.rets (congrArg Value.bool (by rw [Sp.TreeValid, Sp.all_range (fun j hj => hall j oM), Bool.true_and]; rw [Bool.eq_iff_iff]; simp; omega))
theorem l2Same_c (w0 : World) (G0 : PH) (hG : PSub G0 w0) (va : Value) (a : List (Int)) (ha : RdI G0 va a) (vb : Value) (b : List (Int)) (hb : RdI G0 vb b)  :
  Calls Tryz.prog 144 #[va, vb] w0 (Rets w0 (.bool (Sp.l2Same a b))) := by
 obtain ⟨aa, ka, rfl⟩ := ha.shape
 have hlima : a.length ≤ 1099511627776 := ha.lim
 obtain ⟨ab, kb, rfl⟩ := hb.shape
 have hlimb : b.length ≤ 1099511627776 := hb.lim
 have H := Hp.init hG
 refine calls_of_W (l := [.slice aa a.length ka, .slice ab b.length kb]) func144 Z ntmps144 Z (q2 (aG Z (q3 (W_seq (q2 (mV Z (o_len_slice underlying33 Z Z (mV Z (o_len_slice underlying33 Z Z (o_neq Z Z Z (q3 ?_)))))))))))
 refine W_cond Z ?_ ?_
 ·intro hc1
  try simp only [nrm] at hc1
  refine q2 (aG Z (q3 (W_ret (N_K_ret (rt1 results144 Z ?_)))))
  exact H.rets (congrArg Value.bool (by unfold Sp.l2Same; exact Sp.ne_len oM))
 intro hc1'
 try simp only [nrm] at hc1'
 refine W_skip (N_K (W_seq (q2 (aG Z (q3 (W_block ?_))))))
 refine W_lp (hf := (Sub.cons (t := 0) Z (Sub.cons (t := 1) Z Sub.nil))) (J := fun M w m => ∃ (k : Nat) (G : PH), M = [(5, .int .i64 (k : Int))] ∧ PLe G0 G ∧ Hp w0 G0 [] w G [] ∧ (k ≤ a.length ∧ a.take k = b.take k) ∧ m = (a.length - k)) (h0 := ⟨0, _, Z, PLe.refl _, H, ?inv, Z⟩) (round := ?round)
 case inv => exact ⟨by omega, by simp⟩
 case round =>
  rintro _ w2 _ ⟨k, G2, rfl, hle2, H, hinv2, rfl⟩
  have ha := ha.up hle2
  have hb := hb.up hle2
  obtain ⟨hk, hall⟩ := hinv2
  refine W_seq (q2 (mV Z (mV Z (o_len_slice underlying33 Z Z (o_lss Z Z Z (q3 ?_))))))
  refine W_cond Z ?_ ?_
  ·intro hc3
   try simp only [nrm] at hc3
   refine W_skip (N_K (W_seq (W_block (W_seq (W_drawK [] 9 H kR Z ?_))))); intro w4 H; have hd4 := PLe.refl G2
   refine vM 0 Z Z (vM 1 Z Z ?_)
   have hl5 := ha.len
   obtain ⟨b5, o5, z5, q5, ha5, hz5, hq5, hE5, hrow5, _⟩ := ha.at (i := k) oM
   clear hq5
   obtain ⟨rfl, hi5⟩ := hE5
   refine RD_t 2 Z kR Z (fun _ hK => v_index_P (i := k) ha5 underlying33 sizeOf3 Z Z Z oM) (RD_t 3 Z kR Z (fun _ hK => v_load_P hK isAgg3 Z (hrow5 0 _ Z)) (vM 4 Z Z (vM 5 Z Z ?_)))
   have hl6 := hb.len
   obtain ⟨b6, o6, z6, q6, ha6, hz6, hq6, hE6, hrow6, _⟩ := hb.at (i := k) oM
   clear hq6
   obtain ⟨rfl, hi6⟩ := hE6
   refine RD_t 6 Z kR Z (fun _ hK => v_index_P (i := k) ha6 underlying33 sizeOf3 Z Z Z oM) (RD_t 7 Z kR Z (fun _ hK => v_load_P hK isAgg3 Z (hrow6 0 _ Z)) (RD_t 8 Z kR Z (fun _ hK => v_neq Z Z) (RD_done kR (N_K ?_))))
   refine W_cond Z ?_ ?_
   ·intro hc7
    try simp only [nrm] at hc7
    refine q2 (aG Z (q3 (W_ret (N_B_ret (N_K_ret (N_LP_ret (N_B_ret (N_K_ret (rt1 results144 Z ?_)))))))))
    exact H.rets (congrArg Value.bool (by unfold Sp.l2Same; exact Sp.ne_at hz5 hz6 oM))
   intro hc7'
   try simp only [nrm] at hc7'
   refine W_skip (N_B (N_K (W_region (mV Z (o_add Z Z Z oO (aG Z (R_nil ?_)))))))
   refine N_lp (hJ := ⟨k + 1, _, Z, hle2, H, ?inv, Z⟩) (hm := ?hm)
   case hm => omega
   case inv => exact ⟨by omega, Sp.take_eq hall hz5 (by rw [hz6]; congr 1; omega)⟩
  intro hc3'
  try simp only [nrm] at hc3'
  refine W_exit (N_K_exit (N_LP_exit (N_B_same (N_K (q2 (aG Z (q3 (W_ret (rt1 results144 Z ?_)))))))))
  exact H.rets (congrArg Value.bool (by unfold Sp.l2Same; exact Sp.eq_all hall oM oM))
theorem BlockValid_c (w0 : World) (G0 : PH) (hG : PSub G0 w0) (vbytes : Value) (bytes : List (Int)) (hbytes : RdI G0 vbytes bytes)  :
  Calls Tryz.prog 143 #[vbytes] w0 (Rets w0 (.bool (Sp.BlockValid bytes))) := by
 obtain ⟨abytes, kbytes, rfl⟩ := hbytes.shape
 have hlimbytes : bytes.length ≤ 1099511627776 := hbytes.lim
 have H := Hp.init hG
 refine calls_of_W (l := [.slice abytes bytes.length kbytes]) func143 Z ntmps143 Z (q2 (aG Z (q3 (W_seq (q2 (aG Z (q3 (W_block ?_))))))))
 refine W_lp (hf := (Sub.cons (t := 0) Z Sub.nil)) (J := fun M w m => ∃ (k : Nat) (G : PH), M = [(3, .int .i64 (k : Int))] ∧ PLe G0 G ∧ Hp w0 G0 [] w G [] ∧ (k ≤ bytes.length ∧ (bytes.take k).all Sp.byteOk = true) ∧ m = (bytes.length - k)) (h0 := ⟨0, _, Z, PLe.refl _, H, ?inv, Z⟩) (round := ?round)
 case inv => exact ⟨by omega, by simp⟩
 case round =>
  rintro _ w1 _ ⟨k, G1, rfl, hle1, H, hinv1, rfl⟩
  have hbytes := hbytes.up hle1
  obtain ⟨hk, hall⟩ := hinv1
  refine W_seq (q2 (mV Z (mV Z (o_len_slice underlying33 Z Z (o_lss Z Z Z (q3 ?_))))))
  refine W_cond Z ?_ ?_
  ·intro hc2
   try simp only [nrm] at hc2
   refine W_skip (N_K (W_seq (W_block (q2 (mV Z (mV Z (o_index_P k hbytes underlying33 sizeOf3 Z Z Z Z aN ?_))))))); intro b3 o3 z3 q3 hz3 hE3 hrow3
   obtain ⟨rfl, hi3⟩ := hE3
   refine o_load_P H isAgg3 Z Z (hrow3 0 _ Z) (o_call call101 Z Z (l6In_c _ _ _ _ ) ?_)
   rintro _ w4 ⟨rfl, ew4⟩; have H := H.step ew4; refine ⟨_, rfl, ?_⟩
   refine o_not Z Z (q3 ?_)
   refine W_cond Z ?_ ?_
   ·intro hc5
    try simp only [nrm] at hc5
    refine q2 (aG Z (q3 (W_ret (N_B_ret (N_K_ret (N_LP_ret (N_B_ret (N_K_ret (rt1 results143 Z ?_)))))))))
    exact H.rets (congrArg Value.bool (by rw [Sp.BlockValid, Sp.all_false hz3 (by simp [Sp.byteOk, *])]; rfl))
   intro hc5'
   try simp only [nrm] at hc5'
   refine W_skip (N_B (N_K (W_region (mV Z (o_add Z Z Z oO (aG Z (R_nil ?_)))))))
   refine N_lp (hJ := ⟨k + 1, _, Z, hle1, H, ?inv, Z⟩) (hm := ?hm)
   case hm => omega
   case inv => exact ⟨by omega, Sp.all_take hall hz3 (by simp [Sp.byteOk, *])⟩
  intro hc2'
  try simp only [nrm] at hc2'
  refine W_exit (N_K_exit (N_LP_exit (N_B_same (N_K (q2 (mV Z (o_len_slice underlying33 Z Z (o_call call101 Z Z (l6In_c _ _ _ _ ) ?_))))))))
  rintro _ w7 ⟨rfl, ew7⟩; have H := H.step ew7; refine ⟨_, rfl, ?_⟩
  refine aG Z (q3 (W_ret (rt1 results143 Z ?_)))
  obtain rfl : k = bytes.length := by omega
  rw [List.take_length] at hall
  exact H.rets (congrArg Value.bool (by simp only [Sp.BlockValid, hall, Bool.true_and]))
theorem FileValid_c (w0 : World) (G0 : PH) (hG : PSub G0 w0) (vbytes : Value) (bytes : List (Int)) (hbytes : RdI G0 vbytes bytes)  :
  Calls Tryz.prog 63 #[vbytes] w0 (Rets w0 (.bool (Sp.FileValid bytes))) := by
 obtain ⟨abytes, kbytes, rfl⟩ := hbytes.shape
 have hlimbytes : bytes.length ≤ 1099511627776 := hbytes.lim
 have H := Hp.init hG
 refine calls_of_W (l := [.slice abytes bytes.length kbytes]) func63 Z ntmps63 Z (q2 (aG Z (q3 (W_seq (q2 (aG Z (q3 (W_block ?_))))))))
 refine W_lp (hf := (Sub.cons (t := 0) Z Sub.nil)) (J := fun M w m => ∃ (k : Nat) (G : PH), M = [(3, .int .i64 (k : Int))] ∧ PLe G0 G ∧ Hp w0 G0 [] w G [] ∧ (k ≤ bytes.length ∧ (bytes.take k).all Sp.byteOk = true) ∧ m = (bytes.length - k)) (h0 := ⟨0, _, Z, PLe.refl _, H, ?inv, Z⟩) (round := ?round)
 case inv => exact ⟨by omega, by simp⟩
 case round =>
  rintro _ w1 _ ⟨k, G1, rfl, hle1, H, hinv1, rfl⟩
  have hbytes := hbytes.up hle1
  obtain ⟨hk, hall⟩ := hinv1
  refine W_seq (q2 (mV Z (mV Z (o_len_slice underlying33 Z Z (o_lss Z Z Z (q3 ?_))))))
  refine W_cond Z ?_ ?_
  ·intro hc2
   try simp only [nrm] at hc2
   refine W_skip (N_K (W_seq (W_block (q2 (mV Z (mV Z (o_index_P k hbytes underlying33 sizeOf3 Z Z Z Z aN ?_))))))); intro b3 o3 z3 q3 hz3 hE3 hrow3
   obtain ⟨rfl, hi3⟩ := hE3
   refine o_load_P H isAgg3 Z Z (hrow3 0 _ Z) (o_call call101 Z Z (l6In_c _ _ _ _ ) ?_)
   rintro _ w4 ⟨rfl, ew4⟩; have H := H.step ew4; refine ⟨_, rfl, ?_⟩
   refine o_not Z Z (q3 ?_)
   refine W_cond Z ?_ ?_
   ·intro hc5
    try simp only [nrm] at hc5
    refine q2 (aG Z (q3 (W_ret (N_B_ret (N_K_ret (N_LP_ret (N_B_ret (N_K_ret (rt1 results63 Z ?_)))))))))
    exact H.rets (congrArg Value.bool (by rw [Sp.FileValid, Sp.all_false hz3 (by simp [Sp.byteOk, *])]; rfl))
   intro hc5'
   try simp only [nrm] at hc5'
   refine W_skip (N_B (N_K (W_region (mV Z (o_add Z Z Z oO (aG Z (R_nil ?_)))))))
   refine N_lp (hJ := ⟨k + 1, _, Z, hle1, H, ?inv, Z⟩) (hm := ?hm)
   case hm => omega
   case inv => exact ⟨by omega, Sp.all_take hall hz3 (by simp [Sp.byteOk, *])⟩
  intro hc2'
  try simp only [nrm] at hc2'
  refine W_exit (N_K_exit (N_LP_exit (N_B_same (N_K (q2 (mV Z (o_len_slice underlying33 Z Z (o_leq Z Z Z (aG Z (q3 (W_ret (rt1 results63 Z ?_))))))))))))
  obtain rfl : k = bytes.length := by omega
  rw [List.take_length] at hall
  exact H.rets (congrArg Value.bool (by simp only [Sp.FileValid, hall, Bool.true_and]; rw [Bool.eq_iff_iff]; simp; omega))
theorem StoreValid_c (w0 : World) (G0 : PH) (hG : PSub G0 w0) (vlist : Value) (list : List (BHeld)) (hlist : RdH G0 vlist list)  :
  Calls Tryz.prog 96 #[vlist] w0 (Rets w0 (.bool (Sp.StoreValid list))) := by
 obtain ⟨alist, klist, rfl⟩ := hlist.shape
 have hlimlist : list.length ≤ 1099511627776 := hlist.lim
 have H := Hp.init hG
 refine calls_of_W (l := [.slice alist list.length klist]) func96 Z ntmps96 Z (q2 (aG Z (q3 (W_seq (q2 (aG Z (q3 (W_block ?_))))))))
 refine W_lp (hf := (Sub.cons (t := 0) Z Sub.nil)) (J := fun M w m => ∃ (k : Nat) (G : PH), M = [(3, .int .i64 (k : Int))] ∧ PLe G0 G ∧ Hp w0 G0 [] w G [] ∧ (k ≤ list.length ∧ ∀ j, j < k → Sp.okH list j = true) ∧ m = (list.length - k)) (h0 := ⟨0, _, Z, PLe.refl _, H, ?inv, Z⟩) (round := ?round)
 case inv => exact ⟨by omega, fun j hj => by omega⟩
 case round =>
  rintro _ w1 _ ⟨k, G1, rfl, hle1, H, hinv1, rfl⟩
  have hlist := hlist.up hle1
  obtain ⟨hk, hall⟩ := hinv1
  refine W_seq (q2 (mV Z (mV Z (o_len_slice underlying23 Z Z (o_lss Z Z Z (q3 ?_))))))
  refine W_cond Z ?_ ?_
  ·intro hc2
   try simp only [nrm] at hc2
   refine W_skip (N_K (W_seq (W_block (q2 (mV Z (mV Z (o_index_P k hlist underlying23 sizeOf105 Z Z Z Z aN ?_))))))); intro b3 o3 z3 q3 hz3 hE3 hrow3
   obtain ⟨a3, m3, c3, rfl, hi3, hr3, hj3⟩ := hE3; have hn_hr3 := hr3.len; have hx_hr3 : _ ≤ 1099511627776 := hr3.lim
   refine o_loadagg_P H isAgg105 sizeOf105 Z Z hrow3 Z (o_alloc H zeroValue105 Z Z ?_); intro b4 w4 hb4 H
   refine o_store_B 0 H sizeOf105 Z Z Z Z Z Z Z Z ?_; intro w5 H
   refine q3 (W_seq (W_seq (W_drawK [0] 31 H kR Z ?_))); intro w6 H; have hd6 := PLe.refl G1
   refine RD_t 0 Z kR Z (fun _ hK => v_fieldAddr 0 runUnderlying105 Z sizeOf3 Z Z) (RD_t 1 Z kR Z (fun _ hK => v_load_B 0 hK isAgg3 Z Z Z) ?_)
   refine RD_run [2] kR Z (RDs.cons Z ?_ RDs.nil)
   refine o_call call101 Z Z (l6In_c _ _ _ _ ) ?_
   rintro _ w7 ⟨rfl, ew7⟩; have H := H.step ew7; refine ⟨_, rfl, ?_⟩
   refine R_nil (N_DK (Kn.of' H hd6 (SubL.cons 0 Z SubL.nil)) (RD_t 3 Z kR Z (fun _ hK => v_not Z) (vM 4 Z Z ?_)))
   refine RD_case (t := 20) Z ?_ ?_
   ·intro hc8
    try simp only [nrm] at hc8
    refine RD_pass 5 Z kR kR kR Z (yl_ne Z Z Z) (RD_pass 6 Z kR kR kR Z (yl_ne Z Z Z) (RD_pass 7 Z kR kR kR Z (yl_ne Z Z Z) (RD_pass 8 Z kR kR kR Z (yl_ne Z Z Z) (RD_t 9 Z kR Z (fun _ hK => v_pick_t Z Z) (vM 10 Z Z (RD_pass 11 Z kR kR kR Z (yl_ne Z Z Z) (RD_pass 12 Z kR kR kR Z (yl_ne Z Z Z) (RD_pass 13 Z kR kR kR Z (yl_ne Z Z Z) (RD_pass 14 Z kR kR kR Z (yl_ne Z Z Z) (RD_t 15 Z kR Z (fun _ hK => v_pick_t Z Z) (vM 16 Z Z (RD_pass 17 Z kR kR kR Z (yl_ne Z Z Z) (RD_pass 18 Z kR kR kR Z (yl_ne Z Z Z) (RD_pass 19 Z kR kR kR Z (yl_ne Z Z Z) (RD_pass 20 Z kR kR kR Z (yl_un Z Z) ?_)))))))))))))))
    refine RD_pass 21 Z kR kR kR Z (yl_un Z Z) (RD_pass 22 Z kR kR kR Z (yl_un Z Z) (RD_pass 23 Z kR kR kR Z (yl_un Z Z) (RD_pass 24 Z kR kR kR Z (yl_un Z Z) (RD_pass 25 Z kR kR kR Z (yl_un Z Z) (RD_pass 26 Z kR kR kR Z (yl_un Z Z) (RD_pass 27 Z kR kR kR Z (yl_un Z Z) (RD_pass 28 Z kR kR kR Z (yl_un Z Z) (RD_pass 29 Z kR kR kR Z (yl_ne Z Z Z) (RD_t 30 Z kR Z (fun _ hK => v_pick_t Z Z) (RD_done kR (N_K (W_true Z (q2 (aG Z (q3 ?_)))))))))))))))
    refine W_ret (N_K_ret (N_B_ret (N_K_ret (N_LP_ret (N_B_ret (N_K_ret (rt1 results96 Z ?_)))))))
    exact H.rets (congrArg Value.bool (by rw [Sp.StoreValid, Sp.not_all_range (k := k) oM (by rw [Sp.okH_at hz3]; simp [Sp.prevId, *])]; rfl))
   intro hc8'
   try simp only [nrm] at hc8'
   refine RD_tg 5 Z kR Z (yl Z Z) (fun _ hK => v_fieldAddr 1 runUnderlying105 Z sizeOf33 Z Z) (RD_tg 6 Z kR Z (yl Z Z) (fun _ hK => v_load_B 0 hK isAgg33 Z Z Z) ?_)
   refine RD_run [7] kR Z (RDs.cons Z ?_ RDs.nil)
   refine gR Z (o_call call143 Z Z (BlockValid_c _ _ H.sub _ _ hr3 ) ?_)
   rintro _ w9 ⟨rfl, ew9⟩; have H := H.step ew9; refine ⟨_, rfl, ?_⟩
   refine R_nil (N_DK (Kn.of' H hd6 (SubL.cons 0 Z SubL.nil)) (RD_tg 8 Z kR Z (yl Z Z) (fun _ hK => v_not Z) (RD_t 9 Z kR Z (fun _ hK => v_pick_f Z Z) (vM 10 Z Z ?_))))
   refine RD_case (t := 26) Z ?_ ?_
   ·intro hc10
    try simp only [nrm] at hc10
    refine RD_pass 11 Z kR kR kR Z (yl_ne Z Z Z) (RD_pass 12 Z kR kR kR Z (yl_ne Z Z Z) (RD_pass 13 Z kR kR kR Z (yl_ne Z Z Z) (RD_pass 14 Z kR kR kR Z (yl_ne Z Z Z) (RD_t 15 Z kR Z (fun _ hK => v_pick_t Z Z) (vM 16 Z Z (RD_pass 17 Z kR kR kR Z (yl_ne Z Z Z) (RD_pass 18 Z kR kR kR Z (yl_ne Z Z Z) (RD_pass 19 Z kR kR kR Z (yl_ne Z Z Z) (RD_pass 20 Z kR kR kR Z (yl_un Z Z) (RD_pass 21 Z kR kR kR Z (yl_un Z Z) (RD_pass 22 Z kR kR kR Z (yl_un Z Z) (RD_pass 23 Z kR kR kR Z (yl_un Z Z) (RD_pass 24 Z kR kR kR Z (yl_un Z Z) (RD_pass 25 Z kR kR kR Z (yl_un Z Z) (RD_pass 26 Z kR kR kR Z (yl_un Z Z) ?_)))))))))))))))
    refine RD_pass 27 Z kR kR kR Z (yl_un Z Z) (RD_pass 28 Z kR kR kR Z (yl_un Z Z) (RD_pass 29 Z kR kR kR Z (yl_ne Z Z Z) (RD_t 30 Z kR Z (fun _ hK => v_pick_t Z Z) (RD_done kR (N_K (W_true Z (q2 (aG Z (q3 (W_ret (N_K_ret (N_B_ret (N_K_ret (N_LP_ret (N_B_ret ?_)))))))))))))))
    refine N_K_ret (rt1 results96 Z ?_)
    exact H.rets (congrArg Value.bool (by rw [Sp.StoreValid, Sp.not_all_range (k := k) oM (by rw [Sp.okH_at hz3]; simp [Sp.prevId, *])]; rfl))
   intro hc10'
   try simp only [nrm] at hc10'
   refine RD_tg 11 Z kR Z (yl Z Z) (fun _ hK => v_fieldAddr 2 runUnderlying105 Z sizeOf3 Z Z) (RD_tg 12 Z kR Z (yl Z Z) (fun _ hK => v_load_B 0 hK isAgg3 Z Z Z) ?_)
   refine RD_run [13] kR Z (RDs.cons Z ?_ RDs.nil)
   refine gR Z (o_call call101 Z Z (l6In_c _ _ _ _ ) ?_)
   rintro _ w11 ⟨rfl, ew11⟩; have H := H.step ew11; refine ⟨_, rfl, ?_⟩
   refine R_nil (N_DK (Kn.of' H hd6 (SubL.cons 0 Z SubL.nil)) (RD_tg 14 Z kR Z (yl Z Z) (fun _ hK => v_not Z) (RD_t 15 Z kR Z (fun _ hK => v_pick_f Z Z) (vM 16 Z Z ?_))))
   refine RD_case (t := 32) Z ?_ ?_
   ·intro hc12
    try simp only [nrm] at hc12
    refine RD_pass 17 Z kR kR kR Z (yl_ne Z Z Z) (RD_pass 18 Z kR kR kR Z (yl_ne Z Z Z) (RD_pass 19 Z kR kR kR Z (yl_ne Z Z Z) (RD_pass 20 Z kR kR kR Z (yl_un Z Z) (RD_pass 21 Z kR kR kR Z (yl_un Z Z) (RD_pass 22 Z kR kR kR Z (yl_un Z Z) (RD_pass 23 Z kR kR kR Z (yl_un Z Z) (RD_pass 24 Z kR kR kR Z (yl_un Z Z) (RD_pass 25 Z kR kR kR Z (yl_un Z Z) (RD_pass 26 Z kR kR kR Z (yl_un Z Z) (RD_pass 27 Z kR kR kR Z (yl_un Z Z) (RD_pass 28 Z kR kR kR Z (yl_un Z Z) (RD_pass 29 Z kR kR kR Z (yl_ne Z Z Z) (RD_t 30 Z kR Z (fun _ hK => v_pick_t Z Z) (RD_done kR (N_K ?_)))))))))))))))
    refine W_true Z (q2 (aG Z (q3 (W_ret (N_K_ret (N_B_ret (N_K_ret (N_LP_ret (N_B_ret (N_K_ret (rt1 results96 Z ?_)))))))))))
    exact H.rets (congrArg Value.bool (by rw [Sp.StoreValid, Sp.not_all_range (k := k) oM (by rw [Sp.okH_at hz3]; simp [Sp.prevId, *])]; rfl))
   intro hc12'
   try simp only [nrm] at hc12'
   refine RD_tg 17 Z kR Z (yl Z Z) (fun _ hK => v_move Z) (RD_tg 18 Z kR Z (yl Z Z) (fun _ hK => v_gtr Z Z) (RD_tg 19 Z kR Z (yl Z Z) (fun _ hK => v_move Z) ?_))
   refine RD_case (t := 35) Z ?_ ?_
   ·intro hc13
    try simp only [nrm] at hc13
    have hk0 : k ≠ 0 := by omega
    refine RD_tg 20 Z kR Z (yl Z Z) (fun _ hK => v_move Z) (RD_tg 21 Z kR Z (yl Z Z) (fun _ hK => v_move Z) (RD_tg 22 Z kR Z (yl Z Z) (fun _ hK => v_sub Z Z oO) ?_))
    have hl15 := hlist.len
    obtain ⟨b15, o15, z15, q15, ha15, hz15, hq15, hE15, hrow15, _⟩ := hlist.at (i := (k - 1)) oM
    clear hq15
    obtain ⟨a15, m15, c15, rfl, hi15, hr15, hj15⟩ := hE15; have hn_hr15 := hr15.len; have hx_hr15 : _ ≤ 1099511627776 := hr15.lim
    refine RD_tg 23 Z kR Z (yl Z Z) (fun _ hK => v_index_P (i := (k - 1)) ha15 underlying23 sizeOf105 Z Z oM oM) (RD_tg 24 Z kR Z (yl Z Z) (fun _ hK => v_fieldAddr 0 runUnderlying105 Z sizeOf3 Z Z) (RD_tg 25 Z kR Z (yl Z Z) (fun _ hK => v_load_P hK isAgg3 Z (hrow15 0 _ Z)) (RD_tg 26 Z kR Z (yl Z Z) (fun _ hK => v_fieldAddr 0 runUnderlying105 Z sizeOf3 Z Z) (RD_tg 27 Z kR Z (yl Z Z) (fun _ hK => v_load_B 0 hK isAgg3 Z Z Z) (RD_tg 28 Z kR Z (yl Z Z) (fun _ hK => v_geq Z Z) (RD_tg 29 Z kR Z (yl Z Z) (fun _ hK => v_pick_t Z Z) (RD_t 30 Z kR Z (fun _ hK => v_pick_f Z Z) (RD_done kR (N_K ?_)))))))))
    refine W_cond Z ?_ ?_
    ·intro hc16
     try simp only [nrm] at hc16
     refine q2 (aG Z (q3 (W_ret (N_K_ret (N_B_ret (N_K_ret (N_LP_ret (N_B_ret (N_K_ret (rt1 results96 Z ?_))))))))))
     exact H.rets (congrArg Value.bool (by rw [Sp.StoreValid, Sp.not_all_range (k := k) oM (by rw [Sp.okH_at hz3]; simp [Sp.prevId, *]; intro h; omega)]; rfl))
    intro hc16'
    try simp only [nrm] at hc16'
    refine W_skip (N_K (q2 (aG Z (q3 (W_block ?_)))))
    obtain ⟨ln17, hln17, H⟩ := H.name (k := 0) rfl
    refine W_lp (hf := (Sub.cons (t := 0) Z (Sub.cons (t := 3) Z (Sub.cons (t := 4) Z Sub.nil)))) (J := fun M w m => ∃ (i : Nat) (G : PH), M = [(5, .int .i64 (i : Int))] ∧ PLe G1 G ∧ Hp w0 G0 [] w G [blk b4 (cl ln17 105)] ∧ (i ≤ k ∧ (list.take i).all (fun g => !Sp.l2Same g.bytes z3.bytes) = true) ∧ m = (k - i)) (h0 := ⟨0, _, Z, PLe.refl _, H, ?inv, Z⟩) (round := ?round)
    case inv => exact ⟨by omega, by simp⟩
    case round =>
     rintro _ w18 _ ⟨i, G18, rfl, hle18, H, hinv18, rfl⟩
     subst hln17
     have hlist := hlist.up hle18
     have hr3 := hr3.up hle18
     have hle1 := hle1.trans hle18
     obtain ⟨hi, hall2⟩ := hinv18
     refine W_seq (q2 (mV Z (mV Z (o_lss Z Z Z (q3 ?_)))))
     refine W_cond Z ?_ ?_
     ·intro hc19
      try simp only [nrm] at hc19
      refine W_skip (N_K (W_seq (W_block (W_seq (W_drawK [0] 8 H kR Z ?_))))); intro w20 H; have hd20 := PLe.refl G18
      refine vM 0 Z Z (vM 1 Z Z ?_)
      have hl21 := hlist.len
      obtain ⟨b21, o21, z21, q21, ha21, hz21, hq21, hE21, hrow21, _⟩ := hlist.at (i := i) oM
      clear hq21
      obtain ⟨a21, m21, c21, rfl, hi21, hr21, hj21⟩ := hE21; have hn_hr21 := hr21.len; have hx_hr21 : _ ≤ 1099511627776 := hr21.lim
      refine RD_t 2 Z kR Z (fun _ hK => v_index_P (i := i) ha21 underlying23 sizeOf105 Z Z Z oM) (RD_t 3 Z kR Z (fun _ hK => v_fieldAddr 1 runUnderlying105 Z sizeOf33 Z Z) (RD_t 4 Z kR Z (fun _ hK => v_load_P hK isAgg33 Z (hrow21 1 _ Z)) (RD_t 5 Z kR Z (fun _ hK => v_fieldAddr 1 runUnderlying105 Z sizeOf33 Z Z) (RD_t 6 Z kR Z (fun _ hK => v_load_B 0 hK isAgg33 Z Z Z) ?_))))
      refine RD_run [7] kR Z (RDs.cons Z ?_ RDs.nil)
      refine o_call call144 Z Z (l2Same_c _ _ H.sub _ _ hr21 _ _ hr3 ) ?_
      rintro _ w22 ⟨rfl, ew22⟩; have H := H.step ew22; refine ⟨_, rfl, ?_⟩
      refine R_nil (N_DK (Kn.of' H hd20 (SubL.cons 0 Z SubL.nil)) (RD_done kR (N_K ?_)))
      refine W_cond Z ?_ ?_
      ·intro hc23
       try simp only [nrm] at hc23
       refine q2 (aG Z (q3 (W_ret (N_B_ret (N_K_ret (N_LP_ret (N_B_ret (N_B_ret (N_K_ret (N_LP_ret (N_B_ret (N_K_ret (rt1 results96 Z ?_)))))))))))))
       exact H.rets (congrArg Value.bool (by rw [Sp.StoreValid, Sp.not_all_range (k := k) oM (by rw [Sp.okH_at hz3, Sp.all_false (l := list.take k) (k := i) (by rw [List.getElem?_take, if_pos oM]; exact hz21) (by simp [*])]; simp)]; rfl))
      intro hc23'
      try simp only [nrm] at hc23'
      refine W_skip (N_B (N_K (W_region (mV Z (o_add Z Z Z oO (aG Z (R_nil ?_)))))))
      refine N_lp (hJ := ⟨i + 1, _, Z, hle18, H, ?inv, Z⟩) (hm := ?hm)
      case hm => omega
      case inv => exact ⟨by omega, Sp.all_take hall2 hz21 (by simp [*])⟩
     intro hc19'
     try simp only [nrm] at hc19'
     refine W_exit (N_K_exit (N_LP_exit (N_B_same (N_B (N_K (W_region (mV Z (o_add Z Z Z oO (aG Z (R_nil ?_))))))))))
     have H := H.del (k := 0) rfl
     refine N_lp (hJ := ⟨k + 1, _, Z, hle1, H, ?inv, Z⟩) (hm := ?hm)
     case hm => omega
     case inv => exact ⟨by omega, Sp.upto_succ hall (by (obtain rfl : i = k := by omega); rw [Sp.okH_at hz3, hall2]; simp [Sp.prevId, *])⟩
   intro hc13'
   try simp only [nrm] at hc13'
   have hk0 : k = 0 := by omega
   refine RD_pass 20 Z kR kR kR Z (yl_ne Z Z Z) (RD_pass 21 Z kR kR kR Z (yl_ne Z Z Z) (RD_pass 22 Z kR kR kR Z (yl_ne Z Z Z) (RD_pass 23 Z kR kR kR Z (yl_ne Z Z Z) (RD_pass 24 Z kR kR kR Z (yl_ne Z Z Z) (RD_pass 25 Z kR kR kR Z (yl_ne Z Z Z) (RD_pass 26 Z kR kR kR Z (yl_ne Z Z Z) (RD_pass 27 Z kR kR kR Z (yl_ne Z Z Z) (RD_pass 28 Z kR kR kR Z (yl_ne Z Z Z) (RD_tg 29 Z kR Z (yl Z Z) (fun _ hK => v_pick_f Z Z) (RD_t 30 Z kR Z (fun _ hK => v_pick_f Z Z) (RD_done kR (N_K (W_false Z (W_skip (N_K ?_)))))))))))))))
   refine q2 (aG Z (q3 (W_block ?_)))
   obtain ⟨ln26, hln26, H⟩ := H.name (k := 0) rfl
   refine W_lp (hf := (Sub.cons (t := 0) Z (Sub.cons (t := 3) Z (Sub.cons (t := 4) Z Sub.nil)))) (J := fun M w m => ∃ (i : Nat) (G : PH), M = [(5, .int .i64 (i : Int))] ∧ PLe G1 G ∧ Hp w0 G0 [] w G [blk b4 (cl ln26 105)] ∧ (i ≤ k ∧ (list.take i).all (fun g => !Sp.l2Same g.bytes z3.bytes) = true) ∧ m = (k - i)) (h0 := ⟨0, _, Z, PLe.refl _, H, ?inv, Z⟩) (round := ?round)
   case inv => exact ⟨by omega, by simp⟩
   case round =>
    rintro _ w27 _ ⟨i, G27, rfl, hle27, H, hinv27, rfl⟩
    subst hln26
    have hlist := hlist.up hle27
    have hr3 := hr3.up hle27
    have hle1 := hle1.trans hle27
    obtain ⟨hi, hall2⟩ := hinv27
    refine W_seq (q2 (mV Z (mV Z (o_lss Z Z Z (q3 ?_)))))
    refine W_cond Z ?_ ?_
    ·intro hc28
     try simp only [nrm] at hc28
     refine W_skip (N_K (W_seq (W_block (W_seq (W_drawK [0] 8 H kR Z ?_))))); intro w29 H; have hd29 := PLe.refl G27
     refine vM 0 Z Z (vM 1 Z Z ?_)
     have hl30 := hlist.len
     obtain ⟨b30, o30, z30, q30, ha30, hz30, hq30, hE30, hrow30, _⟩ := hlist.at (i := i) oM
     clear hq30
     obtain ⟨a30, m30, c30, rfl, hi30, hr30, hj30⟩ := hE30; have hn_hr30 := hr30.len; have hx_hr30 : _ ≤ 1099511627776 := hr30.lim
     refine RD_t 2 Z kR Z (fun _ hK => v_index_P (i := i) ha30 underlying23 sizeOf105 Z Z Z oM) (RD_t 3 Z kR Z (fun _ hK => v_fieldAddr 1 runUnderlying105 Z sizeOf33 Z Z) (RD_t 4 Z kR Z (fun _ hK => v_load_P hK isAgg33 Z (hrow30 1 _ Z)) (RD_t 5 Z kR Z (fun _ hK => v_fieldAddr 1 runUnderlying105 Z sizeOf33 Z Z) (RD_t 6 Z kR Z (fun _ hK => v_load_B 0 hK isAgg33 Z Z Z) ?_))))
     refine RD_run [7] kR Z (RDs.cons Z ?_ RDs.nil)
     refine o_call call144 Z Z (l2Same_c _ _ H.sub _ _ hr30 _ _ hr3 ) ?_
     rintro _ w31 ⟨rfl, ew31⟩; have H := H.step ew31; refine ⟨_, rfl, ?_⟩
     refine R_nil (N_DK (Kn.of' H hd29 (SubL.cons 0 Z SubL.nil)) (RD_done kR (N_K ?_)))
     refine W_cond Z ?_ ?_
     ·intro hc32
      try simp only [nrm] at hc32
      refine q2 (aG Z (q3 (W_ret (N_B_ret (N_K_ret (N_LP_ret (N_B_ret (N_B_ret (N_K_ret (N_LP_ret (N_B_ret (N_K_ret (rt1 results96 Z ?_)))))))))))))
      exact H.rets (congrArg Value.bool (by rw [Sp.StoreValid, Sp.not_all_range (k := k) oM (by rw [Sp.okH_at hz3, Sp.all_false (l := list.take k) (k := i) (by rw [List.getElem?_take, if_pos oM]; exact hz30) (by simp [*])]; simp)]; rfl))
     intro hc32'
     try simp only [nrm] at hc32'
     refine W_skip (N_B (N_K (W_region (mV Z (o_add Z Z Z oO (aG Z (R_nil ?_)))))))
     refine N_lp (hJ := ⟨i + 1, _, Z, hle27, H, ?inv, Z⟩) (hm := ?hm)
     case hm => omega
     case inv => exact ⟨by omega, Sp.all_take hall2 hz30 (by simp [*])⟩
    intro hc28'
    try simp only [nrm] at hc28'
    refine W_exit (N_K_exit (N_LP_exit (N_B_same (N_B (N_K (W_region (mV Z (o_add Z Z Z oO (aG Z (R_nil ?_))))))))))
    have H := H.del (k := 0) rfl
    refine N_lp (hJ := ⟨k + 1, _, Z, hle1, H, ?inv, Z⟩) (hm := ?hm)
    case hm => omega
    case inv => exact ⟨by omega, Sp.upto_succ hall (by (obtain rfl : i = k := by omega); rw [Sp.okH_at hz3, hall2]; simp [Sp.prevId, *])⟩
  intro hc2'
  try simp only [nrm] at hc2'
  refine W_exit (N_K_exit (N_LP_exit (N_B_same (N_K (q2 (mV Z (o_len_slice underlying23 Z Z (o_leq Z Z Z (aG Z (q3 (W_ret (rt1 results96 Z ?_))))))))))))
  exact H.rets (congrArg Value.bool (by rw [Sp.StoreValid, Sp.all_range (fun j hj => hall j oM), Bool.true_and]; rw [Bool.eq_iff_iff]; simp; omega))
theorem l3At_c (w0 : World) (G0 : PH) (hG : PSub G0 w0) (vlist : Value) (list : List (BHeld)) (hlist : RdH G0 vlist list) (id : Int)  :
  Calls Tryz.prog 113 #[vlist, .int .i64 id] w0 (Rets w0 (.int .i64 (Sp.l3At list id))) := by
 obtain ⟨alist, klist, rfl⟩ := hlist.shape
 have hlimlist : list.length ≤ 1099511627776 := hlist.lim
 have H := Hp.init hG
 refine calls_of_W (l := [.slice alist list.length klist, .int .i64 id]) func113 Z ntmps113 Z (q2 (aG Z (q3 (W_seq (q2 (aG Z (q3 (W_block ?_))))))))
 refine W_lp (hf := (Sub.cons (t := 0) Z (Sub.cons (t := 1) Z Sub.nil))) (J := fun M w m => ∃ (k : Nat) (G : PH), M = [(5, .int .i64 (k : Int))] ∧ PLe G0 G ∧ Hp w0 G0 [] w G [] ∧ (k ≤ list.length ∧ (∀ j, j < k → ∀ y, list[j]? = some y → decide (y.id = id) = false)) ∧ m = (list.length - k)) (h0 := ⟨0, _, Z, PLe.refl _, H, ?inv, Z⟩) (round := ?round)
 case inv => exact ⟨by omega, fun j hj => by omega⟩
 case round =>
  rintro _ w1 _ ⟨k, G1, rfl, hle1, H, hinv1, rfl⟩
  have hlist := hlist.up hle1
  obtain ⟨hk, hall⟩ := hinv1
  refine W_seq (q2 (mV Z (mV Z (o_len_slice underlying23 Z Z (o_lss Z Z Z (q3 ?_))))))
  refine W_cond Z ?_ ?_
  ·intro hc2
   try simp only [nrm] at hc2
   refine W_skip (N_K (W_seq (W_block (q2 (mV Z (mV Z (o_index_P k hlist underlying23 sizeOf105 Z Z Z Z aN ?_))))))); intro b3 o3 z3 q3 hz3 hE3 hrow3
   obtain ⟨a3, m3, c3, rfl, hi3, hr3, hj3⟩ := hE3; have hn_hr3 := hr3.len; have hx_hr3 : _ ≤ 1099511627776 := hr3.lim
   refine o_fieldAddr 0 runUnderlying105 Z sizeOf3 Z Z Z (o_load_P H isAgg3 Z Z (hrow3 0 _ Z) (mV Z (o_eql Z Z Z (q3 ?_))))
   refine W_cond Z ?_ ?_
   ·intro hc4
    try simp only [nrm] at hc4
    refine q2 (mV Z (aG Z (q3 (W_ret (N_B_ret (N_K_ret (N_LP_ret (N_B_ret (N_K_ret (rt1 results113 Z ?_))))))))))
    exact H.rets (congrArg (Value.int .i64) (by rw [Sp.l3At, Sp.atH, Sp.find_at hall hz3 (by simp; omega)]; rfl))
   intro hc4'
   try simp only [nrm] at hc4'
   refine W_skip (N_B (N_K (W_region (mV Z (o_add Z Z Z oO (aG Z (R_nil ?_)))))))
   refine N_lp (hJ := ⟨k + 1, _, Z, hle1, H, ?inv, Z⟩) (hm := ?hm)
   case hm => omega
   case inv => exact ⟨by omega, Sp.none_succ hall hz3 (by simp; omega)⟩
  intro hc2'
  try simp only [nrm] at hc2'
  refine W_exit (N_K_exit (N_LP_exit (N_B_same (N_K (q2 (aG Z (q3 (W_ret (rt1 results113 Z ?_)))))))))
  exact H.rets (congrArg (Value.int .i64) (by rw [Sp.l3At, Sp.atH, Sp.find_none hall oM]; rfl))
theorem l3Like_c (w0 : World) (G0 : PH) (hG : PSub G0 w0) (vlist : Value) (list : List (BHeld)) (hlist : RdH G0 vlist list) (vbytes : Value) (bytes : List (Int)) (hbytes : RdI G0 vbytes bytes)  :
  Calls Tryz.prog 190 #[vlist, vbytes] w0 (Rets w0 (.int .i64 (Sp.l3Like list bytes))) := by
 obtain ⟨alist, klist, rfl⟩ := hlist.shape
 have hlimlist : list.length ≤ 1099511627776 := hlist.lim
 obtain ⟨abytes, kbytes, rfl⟩ := hbytes.shape
 have hlimbytes : bytes.length ≤ 1099511627776 := hbytes.lim
 have H := Hp.init hG
 refine calls_of_W (l := [.slice alist list.length klist, .slice abytes bytes.length kbytes]) func190 Z ntmps190 Z (q2 (aG Z (q3 (W_seq (q2 (aG Z (q3 (W_block ?_))))))))
 refine W_lp (hf := (Sub.cons (t := 0) Z (Sub.cons (t := 1) Z Sub.nil))) (J := fun M w m => ∃ (k : Nat) (G : PH), M = [(5, .int .i64 (k : Int))] ∧ PLe G0 G ∧ Hp w0 G0 [] w G [] ∧ (k ≤ list.length ∧ (∀ j, j < k → ∀ y, list[j]? = some y → Sp.l2Same y.bytes bytes = false)) ∧ m = (list.length - k)) (h0 := ⟨0, _, Z, PLe.refl _, H, ?inv, Z⟩) (round := ?round)
 case inv => exact ⟨by omega, fun j hj => by omega⟩
 case round =>
  rintro _ w1 _ ⟨k, G1, rfl, hle1, H, hinv1, rfl⟩
  have hlist := hlist.up hle1
  have hbytes := hbytes.up hle1
  obtain ⟨hk, hall⟩ := hinv1
  refine W_seq (q2 (mV Z (mV Z (o_len_slice underlying23 Z Z (o_lss Z Z Z (q3 ?_))))))
  refine W_cond Z ?_ ?_
  ·intro hc2
   try simp only [nrm] at hc2
   refine W_skip (N_K (W_seq (W_block (q2 (mV Z (mV Z (o_index_P k hlist underlying23 sizeOf105 Z Z Z Z aN ?_))))))); intro b3 o3 z3 q3 hz3 hE3 hrow3
   obtain ⟨a3, m3, c3, rfl, hi3, hr3, hj3⟩ := hE3; have hn_hr3 := hr3.len; have hx_hr3 : _ ≤ 1099511627776 := hr3.lim
   refine o_fieldAddr 1 runUnderlying105 Z sizeOf33 Z Z Z (o_load_P H isAgg33 Z Z (hrow3 1 _ Z) (mV Z (o_call call144 Z Z (l2Same_c _ _ H.sub _ _ hr3 _ _ hbytes ) ?_)))
   rintro _ w4 ⟨rfl, ew4⟩; have H := H.step ew4; refine ⟨_, rfl, ?_⟩
   refine q3 ?_
   refine W_cond Z ?_ ?_
   ·intro hc5
    try simp only [nrm] at hc5
    refine q2 (mV Z (aG Z (q3 (W_ret (N_B_ret (N_K_ret (N_LP_ret (N_B_ret (N_K_ret (rt1 results190 Z ?_))))))))))
    exact H.rets (congrArg (Value.int .i64) (by rw [Sp.l3Like, Sp.like, Sp.find_at hall hz3 hc5]; rfl))
   intro hc5'
   try simp only [nrm] at hc5'
   refine W_skip (N_B (N_K (W_region (mV Z (o_add Z Z Z oO (aG Z (R_nil ?_)))))))
   refine N_lp (hJ := ⟨k + 1, _, Z, hle1, H, ?inv, Z⟩) (hm := ?hm)
   case hm => omega
   case inv => exact ⟨by omega, Sp.none_succ hall hz3 hc5'⟩
  intro hc2'
  try simp only [nrm] at hc2'
  refine W_exit (N_K_exit (N_LP_exit (N_B_same (N_K (q2 (aG Z (q3 (W_ret (rt1 results190 Z ?_)))))))))
  exact H.rets (congrArg (Value.int .i64) (by rw [Sp.l3Like, Sp.like, Sp.find_none hall oM]; rfl))
theorem l3Copy_c (w0 : World) (G0 : PH) (hG : PSub G0 w0) (vlist : Value) (list : List (BHeld)) (hlist : RdH G0 vlist list)  :
  Calls Tryz.prog 102 #[vlist] w0 (RetO w0 G0 (AccOf heldE 3 105 list)) := by
 obtain ⟨alist, klist, rfl⟩ := hlist.shape
 have hlimlist : list.length ≤ 1099511627776 := hlist.lim
 have H := Hp.init hG
 refine calls_of_W (l := [.slice alist list.length klist]) func102 Z ntmps102 Z (q2 (aG Z (q1 (o_buildSlice H underlying23 sizeOf105 (fun w => ⟨_, zeroValue105 w, Z⟩) Z Z Z Z Z Z Z ?_)))); intro b1 w1 hb1 H
 have H := H.blkAcc 3 (k := 0) (n := 0) rfl rfl (by decide)
 refine aG Z (q3 (W_seq (q2 (aG Z (q3 (W_block ?_))))))
 refine W_lp (hf := (Sub.cons (t := 0) Z (Sub.cons (t := 2) Z Sub.nil))) (J := fun M w m => ∃ (v : Value) (n : Nat) (cs : List Value) (xs : List (BHeld)) (k : Nat) (G : PH), M = [(4, .int .i64 (k : Int)), (3, v)] ∧ PLe G0 G ∧ Hp w0 G0 [] w G [acc 105 3 v n cs] ∧ (Chk heldE 3 G cs xs ∧ n = xs.length ∧ k ≤ list.length ∧ xs.length = k ∧ xs = list.take k) ∧ m = (list.length - k)) (h0 := ⟨_, _, _, [], 0, _, Z, PLe.refl _, H, ?inv, Z⟩) (round := ?round)
 case inv => exact ⟨(Chk.nil (E := heldE) (sz := 3) (G := G0)),  by first | rfl | simp | (simp; omega) | omega, (by simp)⟩
 case round =>
  rintro _ w2 _ ⟨v, n, cs, xs, k, G2, rfl, hle2, H, hinv2, rfl⟩
  have hlist := hlist.up hle2
  obtain ⟨hchk2_0, hn2_0, hinv2⟩ := hinv2
  obtain ⟨av2_0, cv2_0, rfl⟩ := H.accShape (k := 0) rfl
  obtain ⟨hk, hxl, hxs⟩ := hinv2
  refine W_seq (q2 (mV Z (mV Z (o_len_slice underlying23 Z Z (o_lss Z Z Z (q3 ?_))))))
  refine W_cond Z ?_ ?_
  ·intro hc3
   try simp only [nrm] at hc3
   refine W_skip (N_K (W_seq (W_block (q2 (mV Z (mV Z (o_index_P k hlist underlying23 sizeOf105 Z Z Z Z aN ?_))))))); intro b4 o4 z4 q4 hz4 hE4 hrow4
   obtain ⟨a4, m4, c4, rfl, hi4, hr4, hj4⟩ := hE4; have hn_hr4 := hr4.len; have hx_hr4 : _ ≤ 1099511627776 := hr4.lim
   refine o_loadagg_P H isAgg105 sizeOf105 Z Z hrow4 Z (o_alloc H zeroValue105 Z Z ?_); intro b5 w5 hb5 H
   refine o_store_B 0 H sizeOf105 Z Z Z Z Z Z Z Z ?_; intro w6 H
   refine q1 (o_buildSlice H underlying33 sizeOf3 (fun w => ⟨_, zeroValue3 w, Z⟩) Z Z Z Z Z Z Z ?_); intro b7 w7 hb7 H
   have H := H.blkAcc 1 (k := 0) (n := 0) rfl rfl (by decide)
   refine o_fieldAddr 1 runUnderlying105 Z sizeOf33 Z Z Z (o_load_B 1 H isAgg33 Z Z Z Z ?_)
   refine o_append_P 0 H hr4 (by intro z cs hz u hu; obtain ⟨rfl, _⟩ := hz; simp at hu; subst hu; rfl) (sz := 1) (bytes := 8) underlying33 typeInfo3 ⟨_, rfl, rfl⟩ rfl rfl rfl rfl rfl rfl rfl oM rfl ?_; intro v8 w8 css8 hcl8 hcs8 H
   have hchk8 : Chk intE 1 G2 ([] ++ css8.flatten) _ := ⟨css8, rfl, hcl8, hcs8⟩
   obtain ⟨av8, cv8, rfl⟩ := H.accShape (k := 0) rfl
   refine o_fieldAddr 1 runUnderlying105 Z sizeOf33 Z Z Z (o_store_B 1 H sizeOf33 Z Z Z Z Z Z Z Z ?_); intro w9 H
   refine q3 (W_region (mV Z (o_loadagg_B 1 H isAgg105 sizeOf105 Z Z Z Z Z (o_buildSlice H underlying23 sizeOf105 (fun w => ⟨_, zeroValue105 w, Z⟩) Z Z Z Z Z Z Z ?_)))); intro b10 w10 hb10 H
   refine o_append1 2 H (sz := 3) (bytes := 40) underlying23 typeInfo105 ⟨_, Z, Z⟩ Z Z Z Z Z Z Z Z Z Z oM Z ?_; intro v11 w11 H
   obtain ⟨G12, H, hsg12, hsr12⟩ := H.shut' (k := 0) rfl hchk8 aN aN
   have hchk2_0 := hchk2_0.up hsg12
   have hle2 := hle2.trans hsg12
   have hchk11 := hchk2_0.snoc (show heldE _ z4 _ from ⟨_, _, _, rfl, ⟨by first | omega | (dsimp only; omega), by first | omega | (dsimp only; omega)⟩, hsr12, ⟨by first | omega | (dsimp only; omega), by first | omega | (dsimp only; omega)⟩⟩) rfl
   obtain ⟨av11, cv11, rfl⟩ := H.accShape (k := 1) rfl
   refine aG Z (R_nil (N_B (N_K (W_region (mV Z (o_add Z Z Z oO (aG Z (R_nil ?_))))))))
   have H := H.del (k := 0) rfl
   refine N_lp (hJ := ⟨_, _, _, (xs ++ [z4]), k + 1, _, Z, hle2, H, ?inv, Z⟩) (hm := ?hm)
   case hm => omega
   case inv => exact ⟨hchk11, aN, (by exact ⟨by omega, by simp [hxl], by rw [Sp.take_succ' hz4, hxs]⟩)⟩
  intro hc3'
  try simp only [nrm] at hc3'
  refine W_exit (N_K_exit (N_LP_exit (N_B_same (N_K (q2 (mV Z (aG Z (q3 (W_ret (rt1 results102 Z ?_))))))))))
  obtain rfl : k = list.length := by omega
  rw [List.take_length] at hxs
  subst hxs
  exact H.retO (k := 0) rfl (AccOf.mk (by assumption) hchk2_0) (acc_nd _ _ _ _ _)
theorem l12At_c (w0 : World) (G0 : PH) (hG : PSub G0 w0) (vlist : Value) (list : List (BSnap)) (hlist : RdSn G0 vlist list) (name : Bs) (hname : name.length ≤ 16777216)  :
  Calls Tryz.prog 46 #[vlist, str name] w0 (Rets w0 (.int .i64 (Sp.l12At list name))) := by
 obtain ⟨alist, klist, rfl⟩ := hlist.shape
 have hlimlist : list.length ≤ 1099511627776 := hlist.lim
 have H := Hp.init hG
 refine calls_of_W (l := [.slice alist list.length klist, str name]) func46 Z ntmps46 Z (q2 (aG Z (q3 (W_seq (q2 (aG Z (q3 (W_block ?_))))))))
 refine W_lp (hf := (Sub.cons (t := 0) Z (Sub.cons (t := 1) Z Sub.nil))) (J := fun M w m => ∃ (k : Nat) (G : PH), M = [(5, .int .i64 (k : Int))] ∧ PLe G0 G ∧ Hp w0 G0 [] w G [] ∧ (k ≤ list.length ∧ (∀ j, j < k → ∀ y, list[j]? = some y → decide (y.name = name) = false)) ∧ m = (list.length - k)) (h0 := ⟨0, _, Z, PLe.refl _, H, ?inv, Z⟩) (round := ?round)
 case inv => exact ⟨by omega, fun j hj => by omega⟩
 case round =>
  rintro _ w1 _ ⟨k, G1, rfl, hle1, H, hinv1, rfl⟩
  have hlist := hlist.up hle1
  obtain ⟨hk, hall⟩ := hinv1
  refine W_seq (q2 (mV Z (mV Z (o_len_slice underlying25 Z Z (o_lss Z Z Z (q3 ?_))))))
  refine W_cond Z ?_ ?_
  ·intro hc2
   try simp only [nrm] at hc2
   refine W_skip (N_K (W_seq (W_block (q2 (mV Z (mV Z (o_index_P k hlist underlying25 sizeOf81 Z Z Z Z aN ?_))))))); intro b3 o3 z3 q3 hz3 hE3 hrow3
   obtain ⟨a3, m3, c3, rfl, hi3, hr3⟩ := hE3; have hy_hi3 : _ ≤ 16777216 := hi3; have hn_hr3 := hr3.len; have hx_hr3 : _ ≤ 1099511627776 := hr3.lim
   refine o_fieldAddr 0 runUnderlying81 Z sizeOf9 Z Z Z (o_load_P H isAgg9 Z Z (hrow3 0 _ Z) (mV Z (o_seql Z Z Z (q3 ?_))))
   refine W_cond Z ?_ ?_
   ·intro hc4
    try simp only [nrm] at hc4
    refine q2 (mV Z (aG Z (q3 (W_ret (N_B_ret (N_K_ret (N_LP_ret (N_B_ret (N_K_ret (rt1 results46 Z ?_))))))))))
    exact H.rets (congrArg (Value.int .i64) (by rw [Sp.l12At, Sp.atS, Sp.find_at hall hz3 (by simp; exact hc4)]; rfl))
   intro hc4'
   try simp only [nrm] at hc4'
   refine W_skip (N_B (N_K (W_region (mV Z (o_add Z Z Z oO (aG Z (R_nil ?_)))))))
   refine N_lp (hJ := ⟨k + 1, _, Z, hle1, H, ?inv, Z⟩) (hm := ?hm)
   case hm => omega
   case inv => exact ⟨by omega, Sp.none_succ hall hz3 (by simp; exact hc4')⟩
  intro hc2'
  try simp only [nrm] at hc2'
  refine W_exit (N_K_exit (N_LP_exit (N_B_same (N_K (q2 (aG Z (q3 (W_ret (rt1 results46 Z ?_)))))))))
  exact H.rets (congrArg (Value.int .i64) (by rw [Sp.l12At, Sp.atS, Sp.find_none hall oM]; rfl))
end Go.Proofs.Tst

namespace Go.Proofs.Tst
open Go Fw Tryz
theorem StoreDrop_c (w0 : World) (G0 : PH) (hG : PSub G0 w0) (vlist : Value) (list : List (BHeld)) (hlist : RdH G0 vlist list) (id : Int)  :
  Calls Tryz.prog 158 #[vlist, .int .i64 id] w0 (RetO w0 G0 (fun G v r => ∃ u, v = .tuple #[u, .bool (Sp.StoreDrop list id).isSome] ∧ AccOf heldE 3 105 ((Sp.StoreDrop list id).getD []) G u r)) := by
 obtain ⟨alist, klist, rfl⟩ := hlist.shape
 have hlimlist : list.length ≤ 1099511627776 := hlist.lim
 have H := Hp.init hG
 refine calls_of_W (l := [.slice alist list.length klist, .int .i64 id]) func158 Z ntmps158 Z (q2 (aG Z (aG Z (q1 (mV Z (mV Z (o_call call113 Z Z (l3At_c _ _ H.sub _ _ hlist _ ) ?_)))))))
 rintro _ w1 ⟨rfl, ew1⟩; have H := H.step ew1; refine ⟨_, rfl, ?_⟩
 refine aG Z (q3 (W_seq (q2 (mV Z (o_call call96 Z Z (StoreValid_c _ _ H.sub _ _ hlist ) ?_)))))
 rintro _ w2 ⟨rfl, ew2⟩; have H := H.step ew2; refine ⟨_, rfl, ?_⟩
 refine o_not Z Z (mV Z ?_)
 refine R_case (t := 14) Z ?_ ?_
 ·intro hc3
  try simp only [nrm] at hc3
  refine rP Z (rP Z (o_pick_t Z Z Z (q3 (W_true Z (q2 (o_buildSlice H underlying23 sizeOf105 (fun w => ⟨_, zeroValue105 w, Z⟩) Z Z Z Z Z Z Z ?_)))))); intro b4 w4 hb4 H
  have H := H.blkAcc 3 (k := 0) (n := 0) rfl rfl (by decide)
  refine aG Z (aG Z (q3 (W_ret (N_K_ret (rt2 results158 Z Z ?_)))))
  have hN : Sp.StoreDrop list id = none := by simp [Sp.StoreDrop, hc3]
  exact H.retO (k := 0) rfl (by rw [hN]; exact ⟨_, rfl, AccOf.mk aN (Chk.nil (E := heldE) (sz := 3) (G := G0))⟩) (acc_nd _ _ _ _ _)
 intro hc3'
 try simp only [nrm] at hc3'
 refine gR Z (mV Z (gR Z (o_lss Z Z Z (o_pick_f Z Z Z (q3 ?_)))))
 refine W_cond Z ?_ ?_
 ·intro hc5
  try simp only [nrm] at hc5
  refine q2 (o_buildSlice H underlying23 sizeOf105 (fun w => ⟨_, zeroValue105 w, Z⟩) Z Z Z Z Z Z Z ?_); intro b6 w6 hb6 H
  have H := H.blkAcc 3 (k := 0) (n := 0) rfl rfl (by decide)
  refine aG Z (aG Z (q3 (W_ret (N_K_ret (rt2 results158 Z Z ?_)))))
  have hN : Sp.StoreDrop list id = none := by simp [Sp.StoreDrop, Sp.atH, Sp.at_none hc5]
  exact H.retO (k := 0) rfl (by rw [hN]; exact ⟨_, rfl, AccOf.mk aN (Chk.nil (E := heldE) (sz := 3) (G := G0))⟩) (acc_nd _ _ _ _ _)
 intro hc5'
 try simp only [nrm] at hc5'
 obtain ⟨i, x, hi1, hi2, hi3, hi4, hi5⟩ := Sp.at_nat hc5'
 have hi2 : Sp.l3At list id = (i : Int) := hi2
 have hl : Sp.atH list id = some i := hi1
 refine W_skip (N_K (q2 (mV Z (o_call call102 Z Z (l3Copy_c _ _ H.sub _ _ hlist ) ?_))))
 rintro _ w7 ⟨G7, v7, _, g7, rfl, ⟨cs7, rfl, hchk7⟩, hp7, hq7, hs7⟩
 have H := H.growO g7 hp7 hq7 hs7; obtain ⟨av7, cv7, rfl⟩ := H.accShape (k := 0) rfl
 refine ⟨_, Z, ?_⟩
 refine aG Z (q3 (W_seq (q2 (mV Z (mV Z (o_index_A 0 H i Z hchk7 underlying23 sizeOf105 Z Z Z hi2 aN aN ?_)))))); intro ba8 z8 q8 hba8 hz8 hE8 hg8; cases hba8
 obtain ⟨a8, m8, c8, rfl, hi8, hr8, hj8⟩ := hE8; have hn_hr8 := hr8.len; have hx_hr8 : _ ≤ 1099511627776 := hr8.lim
 have hsv := Sp.valid_at hc3' hz8
 refine o_fieldAddr 2 runUnderlying105 Z sizeOf3 Z Z Z (o_load_A 0 H isAgg3 Z Z Z (hg8 2 _ Z) (o_eql Z Z Z (q3 ?_)))
 refine W_cond Z ?_ ?_
 ·intro hc9
  try simp only [nrm] at hc9
  refine W_seq (W_drawK [] 10 H kR Z ?_); intro w10 H; have hd10 := PLe.refl G7
  refine vM 0 Z Z (vM 1 Z Z ?_)
  have hac11 := H.accCap (k := 0) rfl
  refine RD_t 2 Z kR Z (fun _ hK => v_slice_to (j := i) underlying23 sizeOf105 Z Z hi2 oM) (vM 3 Z Z (vM 4 Z Z (RD_t 5 Z kR Z (fun _ hK => v_add Z Z oO) ?_)))
  have hac13 := H.accCap (k := 0) rfl
  refine RD_t 6 Z kR Z (fun _ hK => v_slice_from (i := (i + 1)) underlying23 sizeOf105 Z Z oM oM) ?_
  refine RD_run [7] kR Z (RDs.cons Z ?_ RDs.nil)
  refine o_append_del 0 H i Z hchk7 (by intro z cs hz u hu; obtain ⟨_, _, _, rfl, _⟩ := hz; simp at hu; rcases hu with rfl | rfl | rfl <;> rfl) underlying23 typeInfo105 rfl rfl rfl rfl oM aN ?_; intro b14 w14 hb14 H hchk14; cases hb14
  refine R_nil (N_DK (Kn.of' H hd10 SubL.nil) (RD_t 8 Z kR Z (fun _ hK => v_assign Z) (RD_t 9 Z kR Z (fun _ hK => v_assign Z) (RD_done kR (N_K (W_ret (N_K_ret (rt2 results158 Z Z ?_))))))))
  have hY : Sp.StoreDrop list id = some (list.take i ++ list.drop (i + 1)) := by simp [Sp.StoreDrop, hc3', hl, hz8, hc9]
  exact H.retO (k := 0) rfl (by rw [hY]; exact ⟨_, rfl, AccOf.mk aN hchk14⟩) (acc_nd _ _ _ _ _)
 intro hc9'
 try simp only [nrm] at hc9'
 refine W_skip (N_K (q2 (mV Z (mV Z (mV Z (mV Z (o_index_A 0 H i Z hchk7 underlying23 sizeOf105 Z Z Z hi2 aN aN ?_))))))); intro ba15 z15 q15 hba15 hz15 hE15 hg15; cases hba15
 obtain ⟨a15, m15, c15, rfl, hi15, hr15, hj15⟩ := hE15; have hn_hr15 := hr15.len; have hx_hr15 : _ ≤ 1099511627776 := hr15.lim
 have hzz15 : z8 = z15 := Option.some.inj (hz8.symm.trans hz15)
 subst hzz15
 refine o_fieldAddr 2 runUnderlying105 Z sizeOf3 Z Z Z (o_load_A 0 H isAgg3 Z Z Z (hg15 2 _ Z) (o_sub Z Z Z oO (o_index_A 0 H i Z hchk7 underlying23 sizeOf105 Z Z Z hi2 aN aN ?_))); intro ba17 z17 q17 hba17 hz17 hE17 hg17; cases hba17
 obtain ⟨a17, m17, c17, rfl, hi17, hr17, hj17⟩ := hE17; have hn_hr17 := hr17.len; have hx_hr17 : _ ≤ 1099511627776 := hr17.lim
 have hzz17 : z8 = z17 := Option.some.inj (hz8.symm.trans hz17)
 subst hzz17
 refine o_fieldAddr 2 runUnderlying105 Z sizeOf3 Z Z Z ?_
 have hcl18 := hchk7.length
 refine o_store_A 0 H sizeOf3 Z Z Z Z Z (by simp only [vc, List.length_cons, List.length_nil]; omega) ?_; intro w18 H
 have hchk18 := hchk7.put (x' := ⟨z8.id, z8.bytes, z8.uses + (-1)⟩) (off := 2) (vs := [_]) hz17 (fun cs hl hE => by obtain ⟨_, _, _, rfl, h1, h2, h3⟩ := hE; exact ⟨_, _, _, rfl, h1, h2, ⟨by first | omega | (dsimp only; omega), by first | omega | (dsimp only; omega)⟩⟩) (by simp only [vc, List.length_cons, List.length_nil]; omega)
 refine q1 (mV Z (aG Z (aG Z (q3 (W_ret (rt2 results158 Z Z ?_))))))
 have hY : Sp.StoreDrop list id = some (list.set i ⟨z8.id, z8.bytes, z8.uses + (-1)⟩) := by simp [Sp.StoreDrop, hc3', hl, hz8, hc9', Sp.bump_at hz8]
 exact H.retO (k := 0) rfl (by rw [hY]; exact ⟨_, rfl, AccOf.mk aN hchk18⟩) (acc_nd _ _ _ _ _)
end Go.Proofs.Tst

namespace Go.Proofs.Tst
open Go Fw Tryz
theorem l4Ids_c (w0 : World) (G0 : PH) (hG : PSub G0 w0) (vlist : Value) (list : List (BHeld)) (hlist : RdH G0 vlist list) (vids : Value) (ids : List (Int)) (hids : RdI G0 vids ids)  :
  Calls Tryz.prog 147 #[vlist, vids] w0 (Rets w0 (.bool (Sp.l4Ids list ids))) := by
 obtain ⟨alist, klist, rfl⟩ := hlist.shape
 have hlimlist : list.length ≤ 1099511627776 := hlist.lim
 obtain ⟨aids, kids, rfl⟩ := hids.shape
 have hlimids : ids.length ≤ 1099511627776 := hids.lim
 have H := Hp.init hG
 refine calls_of_W (l := [.slice alist list.length klist, .slice aids ids.length kids]) func147 Z ntmps147 Z (q2 (aG Z (q3 (W_seq (q2 (aG Z (q3 (W_block ?_))))))))
 refine W_lp (hf := (Sub.cons (t := 0) Z (Sub.cons (t := 1) Z Sub.nil))) (J := fun M w m => ∃ (k : Nat) (G : PH), M = [(5, .int .i64 (k : Int))] ∧ PLe G0 G ∧ Hp w0 G0 [] w G [] ∧ (k ≤ ids.length ∧ ∀ j, j < k → Sp.idsOk list ids j = true) ∧ m = (ids.length - k)) (h0 := ⟨0, _, Z, PLe.refl _, H, ?inv, Z⟩) (round := ?round)
 case inv => exact ⟨by omega, fun j hj => by omega⟩
 case round =>
  rintro _ w1 _ ⟨k, G1, rfl, hle1, H, hinv1, rfl⟩
  have hlist := hlist.up hle1
  have hids := hids.up hle1
  obtain ⟨hk, hall⟩ := hinv1
  refine W_seq (q2 (mV Z (mV Z (o_len_slice underlying33 Z Z (o_lss Z Z Z (q3 ?_))))))
  refine W_cond Z ?_ ?_
  ·intro hc2
   try simp only [nrm] at hc2
   refine W_skip (N_K (W_seq (W_block (q2 (mV Z (mV Z (mV Z (o_index_P k hids underlying33 sizeOf3 Z Z Z Z aN ?_)))))))); intro b3 o3 z3 q3 hz3 hE3 hrow3
   obtain ⟨rfl, hi3⟩ := hE3
   refine o_load_P H isAgg3 Z Z (hrow3 0 _ Z) (o_call call113 Z Z (l3At_c _ _ H.sub _ _ hlist _ ) ?_)
   rintro _ w4 ⟨rfl, ew4⟩; have H := H.step ew4; refine ⟨_, rfl, ?_⟩
   refine aG Z (q1 (mV Z (o_lss Z Z Z (mV Z ?_))))
   refine R_case (t := 21) Z ?_ ?_
   ·intro hc5
    try simp only [nrm] at hc5
    refine rP Z (rP Z (rP Z (rP Z (rP Z (rP Z (R_pass Z (yl_un Z Z) (R_pass Z (yl_un Z Z) (R_pass Z (yl_un Z Z) (R_pass Z (yl_un Z Z) (R_pass Z (yl_un Z Z) (R_pass Z (yl_un Z Z) (R_pass Z (yl_un Z Z) (rP Z (o_pick_t Z Z Z (q3 ?_)))))))))))))))
    refine W_true Z (q2 (aG Z (q3 (W_ret (N_B_ret (N_K_ret (N_LP_ret (N_B_ret (N_K_ret (rt1 results147 Z ?_))))))))))
    exact H.rets (congrArg Value.bool (by rw [Sp.l4Ids, Sp.not_all_range (k := k) oM (by simp [Sp.idsOk, hz3, Sp.atH, Sp.at_none hc5])]; rfl))
   intro hc5'
   try simp only [nrm] at hc5'
   obtain ⟨i, x, hi1, hi2, hi3, hi4, hi5⟩ := Sp.at_nat hc5'
   have hl : Sp.atH list z3 = some i := hi1
   refine gR Z (mV Z (gR Z (o_add Z Z Z oO (gR Z (mV Z (gR Z (o_len_slice underlying33 Z Z (gR Z (o_lss Z Z Z (gR Z (mV Z ?_)))))))))))
   refine R_case (t := 27) Z ?_ ?_
   ·intro hc7
    try simp only [nrm] at hc7
    refine gR Z (mV Z (gR Z (mV Z (gR Z (o_index_P i hlist underlying23 sizeOf105 Z Z Z hi2 aN ?_))))); intro b8 o8 z8 q8 hz8 hE8 hrow8
    obtain ⟨a8, m8, c8, rfl, hi8, hr8, hj8⟩ := hE8; have hn_hr8 := hr8.len; have hx_hr8 : _ ≤ 1099511627776 := hr8.lim
    have hzz : x = z8 := Option.some.inj (hi4.symm.trans hz8)
    subst hzz
    refine gR Z (o_fieldAddr 1 runUnderlying105 Z sizeOf33 Z Z Z (gR Z (o_load_P H isAgg33 Z Z (hrow8 1 _ Z) (gR Z (o_len_slice underlying33 Z Z (gR Z (o_lss Z Z Z (gR Z (o_pick_t Z Z Z (o_pick_f Z Z Z (q3 ?_)))))))))))
    refine W_cond Z ?_ ?_
    ·intro hc9
     try simp only [nrm] at hc9
     refine q2 (aG Z (q3 (W_ret (N_B_ret (N_K_ret (N_LP_ret (N_B_ret (N_K_ret (rt1 results147 Z ?_)))))))))
     exact H.rets (congrArg Value.bool (by rw [Sp.l4Ids, Sp.not_all_range (k := k) oM (by simp [Sp.idsOk, hz3, hl, hi4]; omega)]; rfl))
    intro hc9'
    try simp only [nrm] at hc9'
    refine W_skip (N_B (N_K (W_region (mV Z (o_add Z Z Z oO (aG Z (R_nil ?_)))))))
    refine N_lp (hJ := ⟨k + 1, _, Z, hle1, H, ?inv, Z⟩) (hm := ?hm)
    case hm => omega
    case inv => exact ⟨by omega, Sp.upto_succ hall (by simp [Sp.idsOk, hz3, hl, hi4]; omega)⟩
   intro hc7'
   try simp only [nrm] at hc7'
   refine rP Z (rP Z (rP Z (rP Z (rP Z (rP Z (rP Z (gR Z (o_pick_f Z Z Z (o_pick_f Z Z Z (q3 (W_false Z (W_skip (N_B (N_K (W_region ?_)))))))))))))))
   refine mV Z (o_add Z Z Z oO (aG Z (R_nil ?_)))
   refine N_lp (hJ := ⟨k + 1, _, Z, hle1, H, ?inv, Z⟩) (hm := ?hm)
   case hm => omega
   case inv => exact ⟨by omega, Sp.upto_succ hall (by simp [Sp.idsOk, hz3, hl, hi4]; omega)⟩
  intro hc2'
  try simp only [nrm] at hc2'
  refine W_exit (N_K_exit (N_LP_exit (N_B_same (N_K (q2 (mV Z (o_len_slice underlying33 Z Z (o_leq Z Z Z (aG Z (q3 (W_ret (rt1 results147 Z ?_))))))))))))
  exact H.rets (congrArg Value.bool (by rw [Sp.l4Ids, Sp.all_range (fun j hj => hall j oM), Bool.true_and]; rw [Bool.eq_iff_iff]; simp; omega))
end Go.Proofs.Tst

namespace Go.Proofs.Tst
open Go Fw Tryz
theorem FileFree_c (w0 : World) (G0 : PH) (hG : PSub G0 w0) (vlist : Value) (list : List (BHeld)) (hlist : RdH G0 vlist list) (vids : Value) (ids : List (Int)) (hids : RdI G0 vids ids)  :
  Calls Tryz.prog 117 #[vlist, vids] w0 (RetO w0 G0 (fun G v r => ∃ u, v = .tuple #[u, .bool (Sp.FileFree list ids).isSome] ∧ AccOf heldE 3 105 ((Sp.FileFree list ids).getD []) G u r)) := by
 obtain ⟨alist, klist, rfl⟩ := hlist.shape
 have hlimlist : list.length ≤ 1099511627776 := hlist.lim
 obtain ⟨aids, kids, rfl⟩ := hids.shape
 have hlimids : ids.length ≤ 1099511627776 := hids.lim
 have H := Hp.init hG
 refine calls_of_W (l := [.slice alist list.length klist, .slice aids ids.length kids]) func117 Z ntmps117 Z (q2 (aG Z (aG Z (q3 (W_seq (q2 (mV Z (o_call call96 Z Z (StoreValid_c _ _ H.sub _ _ hlist ) ?_))))))))
 rintro _ w1 ⟨rfl, ew1⟩; have H := H.step ew1; refine ⟨_, rfl, ?_⟩
 refine o_not Z Z (mV Z ?_)
 refine R_case (t := 13) Z ?_ ?_
 ·intro hc2
  try simp only [nrm] at hc2
  refine rP Z (rP Z (rP Z (rP Z (o_pick_t Z Z Z (q3 (W_true Z (q2 (o_buildSlice H underlying23 sizeOf105 (fun w => ⟨_, zeroValue105 w, Z⟩) Z Z Z Z Z Z Z ?_)))))))); intro b3 w3 hb3 H
  have H := H.blkAcc 3 (k := 0) (n := 0) rfl rfl (by decide)
  refine aG Z (aG Z (q3 (W_ret (N_K_ret (rt2 results117 Z Z ?_)))))
  have hN : Sp.FileFree list ids = none := by simp [Sp.FileFree, hc2]
  exact H.retO (k := 0) rfl (by rw [hN]; exact ⟨_, rfl, AccOf.mk aN (Chk.nil (E := heldE) (sz := 3) (G := G0))⟩) (acc_nd _ _ _ _ _)
 intro hc2'
 try simp only [nrm] at hc2'
 refine gR Z (mV Z (gR Z (mV Z (gR Z (o_call call147 Z Z (l4Ids_c _ _ H.sub _ _ hlist _ _ hids ) ?_)))))
 rintro _ w4 ⟨rfl, ew4⟩; have H := H.step ew4; refine ⟨_, rfl, ?_⟩
 refine gR Z (o_not Z Z (o_pick_f Z Z Z (q3 ?_)))
 refine W_cond Z ?_ ?_
 ·intro hc5
  try simp only [nrm] at hc5
  refine q2 (o_buildSlice H underlying23 sizeOf105 (fun w => ⟨_, zeroValue105 w, Z⟩) Z Z Z Z Z Z Z ?_); intro b6 w6 hb6 H
  have H := H.blkAcc 3 (k := 0) (n := 0) rfl rfl (by decide)
  refine aG Z (aG Z (q3 (W_ret (N_K_ret (rt2 results117 Z Z ?_)))))
  have hN : Sp.FileFree list ids = none := by simp [Sp.FileFree, hc5]
  exact H.retO (k := 0) rfl (by rw [hN]; exact ⟨_, rfl, AccOf.mk aN (Chk.nil (E := heldE) (sz := 3) (G := G0))⟩) (acc_nd _ _ _ _ _)
 intro hc5'
 try simp only [nrm] at hc5'
 refine W_skip (N_K (q2 (mV Z (o_call call102 Z Z (l3Copy_c _ _ H.sub _ _ hlist ) ?_))))
 rintro _ w7 ⟨G7, v7, _, g7, rfl, ⟨cs7, rfl, hchk7⟩, hp7, hq7, hs7⟩
 have H := H.growO g7 hp7 hq7 hs7; obtain ⟨av7, cv7, rfl⟩ := H.accShape (k := 0) rfl
 have hids := hids.up g7.le
 refine ⟨_, Z, ?_⟩
 refine aG Z (q3 (W_seq (q2 (aG Z (q3 (W_block ?_))))))
 refine W_lp (hf := (Sub.cons (t := 1) Z Sub.nil)) (J := fun M w m => ∃ (v : Value) (n : Nat) (cs : List Value) (xs : List (BHeld)) (k : Nat) (G : PH), M = [(7, .int .i64 (k : Int)), (6, v)] ∧ PLe G7 G ∧ Hp w0 G0 [] w G [acc 105 3 v n cs] ∧ (Chk heldE 3 G cs xs ∧ n = xs.length ∧ k ≤ ids.length ∧ xs.length ≤ 1000 ∧ Sp.foldB Sp.StoreDrop (ids.take k) (some list) = some xs) ∧ m = (ids.length - k)) (h0 := ⟨_, _, _, list, 0, _, Z, PLe.refl _, H, ?inv, Z⟩) (round := ?round)
 case inv => exact ⟨hchk7,  by first | rfl | simp | (simp; omega) | omega, (by exact ⟨by omega, by have := Sp.valid_len hc2'; omega, by simp [Sp.foldB]⟩)⟩
 case round =>
  rintro _ w8 _ ⟨v, n, cs, xs, k, G8, rfl, hle8, H, hinv8, rfl⟩
  have hids := hids.up hle8
  obtain ⟨hchk8_0, hn8_0, hinv8⟩ := hinv8
  obtain ⟨av8_0, cv8_0, rfl⟩ := H.accShape (k := 0) rfl
  obtain ⟨hk, hxl, hf⟩ := hinv8
  refine W_seq (q2 (mV Z (mV Z (o_len_slice underlying33 Z Z (o_lss Z Z Z (q3 ?_))))))
  refine W_cond Z ?_ ?_
  ·intro hc9
   try simp only [nrm] at hc9
   refine W_skip (N_K (W_seq (W_block (q2 (mV Z (mV Z (mV Z (o_index_P k hids underlying33 sizeOf3 Z Z Z Z aN ?_)))))))); intro b10 o10 z10 q10 hz10 hE10 hrow10
   obtain ⟨rfl, hi10⟩ := hE10
   refine o_load_P H isAgg3 Z Z (hrow10 0 _ Z) ?_
   obtain ⟨G12, H, hsg12, hsr12⟩ := H.shut' (k := 0) rfl hchk8_0 aN aN
   have hle8 := hle8.trans hsg12
   refine o_call call158 Z Z (StoreDrop_c _ _ H.sub _ _ hsr12 _ ) ?_
   rintro _ w11 ⟨G11, _, _, g11, rfl, ⟨u11_0, rfl, ⟨cs11, rfl, hchk11⟩⟩, hp11, hq11, hs11⟩
   have H := H.growO g11 hp11 hq11 hs11; obtain ⟨av11, cv11, rfl⟩ := H.accShape (k := 0) rfl
   have hle8 := hle8.trans g11.le
   refine ⟨_, Z, ?_⟩
   refine mV Z (o_extract Z Z Z (o_extract Z Z Z (aG Z (aG Z (q3 (W_seq (q2 (mV Z (o_not Z Z (q3 ?_))))))))))
   refine W_cond Z ?_ ?_
   ·intro hc13
    try simp only [nrm] at hc13
    refine q2 (o_buildSlice H underlying23 sizeOf105 (fun w => ⟨_, zeroValue105 w, Z⟩) Z Z Z Z Z Z Z ?_); intro b14 w14 hb14 H
    have H := H.blkAcc 3 (k := 0) (n := 0) rfl rfl (by decide)
    refine aG Z (aG Z (q3 (W_ret (N_K_ret (N_B_ret (N_K_ret (N_LP_ret (N_B_ret (N_K_ret (rt2 results117 Z Z ?_))))))))))
    have hN : Sp.FileFree list ids = none := by (have hno : Sp.StoreDrop xs z10 = none := by simpa using hc13); simp only [Sp.FileFree, hc2', hc5', Bool.and_self, if_true]; exact Sp.foldB_stop hf hz10 hno
    exact H.retO (k := 0) rfl (by rw [hN]; exact ⟨_, rfl, AccOf.mk aN (Chk.nil (E := heldE) (sz := 3) (G := G11))⟩) (acc_nd _ _ _ _ _)
   intro hc13'
   try simp only [nrm] at hc13'
   obtain ⟨p, hsp⟩ := Option.isSome_iff_exists.1 hc13'
   rw [hsp] at H hchk11 ⊢
   dsimp only [Option.map, Option.getD] at H hchk11
   refine W_skip (N_K (W_region (mV Z (aG Z (R_nil (N_B (N_K (W_region (mV Z (o_add Z Z Z oO (aG Z (R_nil ?_))))))))))))
   refine N_lp (hJ := ⟨_, _, _, p, k + 1, _, Z, hle8, H, ?inv, Z⟩) (hm := ?hm)
   case hm => omega
   case inv => exact ⟨hchk11, aN, (by exact ⟨by omega, by have := Sp.drop_len hsp; omega, Sp.foldB_succ hf hz10 hsp⟩)⟩
  intro hc9'
  try simp only [nrm] at hc9'
  refine W_exit (N_K_exit (N_LP_exit (N_B_same (N_K (q2 (mV Z (aG Z (aG Z (q3 (W_ret (rt2 results117 Z Z ?_)))))))))))
  have hY : Sp.FileFree list ids = some xs := by simp only [Sp.FileFree, hc2', hc5', Bool.and_self, if_true]; exact Sp.foldB_all hf oM
  exact H.retO (k := 0) rfl (by rw [hY]; exact ⟨_, rfl, AccOf.mk aN hchk8_0⟩) (acc_nd _ _ _ _ _)
end Go.Proofs.Tst

namespace Go.Proofs.Tst
open Go Fw Tryz
theorem l5Copy_c (w0 : World) (G0 : PH) (hG : PSub G0 w0) (cx : List Value) (x : BItem) (hx : itemE G0 x cx)  :
  Calls Tryz.prog 104 #[.agg cx.toArray] w0 (RetP w0 G0 (fun G v => ∃ cs, v = .agg cs.toArray ∧ itemE G x cs)) := by
 obtain ⟨a1, m1, c1, rfl, hi1, hr1⟩ := hx; have hy_hi1 : _ ≤ 16777216 := hi1; have hn_hr1 := hr1.len; have hx_hr1 : _ ≤ 1099511627776 := hr1.lim
 have H := Hp.init hG
 refine calls_of_W (l := [_]) func104 Z ntmps104 Z (q2 (o_box H Z Z Z ?_)); intro b2 w2 hb2 H
 refine o_alloc H zeroValue37 Z Z ?_; intro b3 w3 hb3 H
 refine q1 (o_buildSlice H underlying33 sizeOf3 (fun w => ⟨_, zeroValue3 w, Z⟩) Z Z Z Z Z Z Z ?_); intro b4 w4 hb4 H
 have H := H.blkAcc 1 (k := 0) (n := 0) rfl rfl (by decide)
 refine o_fieldAddr 2 runUnderlying37 Z sizeOf33 Z Z Z (o_load_B 2 H isAgg33 Z Z Z Z ?_)
 refine o_append_P 0 H hr1 (by intro z cs hz u hu; obtain ⟨rfl, _⟩ := hz; simp at hu; subst hu; rfl) (sz := 1) (bytes := 8) underlying33 typeInfo3 ⟨_, rfl, rfl⟩ rfl rfl rfl rfl rfl rfl rfl oM rfl ?_; intro v5 w5 css5 hcl5 hcs5 H
 have hchk5 : Chk intE 1 G0 ([] ++ css5.flatten) _ := ⟨css5, rfl, hcl5, hcs5⟩
 obtain ⟨av5, cv5, rfl⟩ := H.accShape (k := 0) rfl
 refine o_fieldAddr 2 runUnderlying37 Z sizeOf33 Z Z Z (o_store_B 2 H sizeOf33 Z Z Z Z Z Z Z Z ?_); intro w6 H
 refine q1 (o_loadagg_B 2 H isAgg37 sizeOf37 Z Z Z Z Z (o_store_B 1 H sizeOf37 Z Z Z Z Z Z Z Z ?_)); intro w7 H
 refine q3 (W_ret (ret_gen (rs := [.cell 2 37]) (vs := [_]) results104 ⟨⟨_, Z, load_blk 1 H isAgg37 sizeOf37 Z Z Z⟩, trivial⟩ ?_))
 obtain ⟨G509, H, hsg509, hsr509⟩ := H.shut' (k := 0) rfl hchk5 aN aN
 exact H.retP ⟨_, Z, ⟨_, _, _, Z, hi1, hsr509⟩⟩
end Go.Proofs.Tst

namespace Go.Proofs.Tst
open Go Fw Tryz
theorem l5All_c (w0 : World) (G0 : PH) (hG : PSub G0 w0) (vlist : Value) (list : List (BItem)) (hlist : RdItems G0 vlist list)  :
  Calls Tryz.prog 49 #[vlist] w0 (RetO w0 G0 (AccOf itemE 3 37 list)) := by
 obtain ⟨alist, klist, rfl⟩ := hlist.shape
 have hlimlist : list.length ≤ 1099511627776 := hlist.lim
 have H := Hp.init hG
 refine calls_of_W (l := [.slice alist list.length klist]) func49 Z ntmps49 Z (q2 (aG Z (q1 (o_buildSlice H underlying24 sizeOf37 (fun w => ⟨_, zeroValue37 w, Z⟩) Z Z Z Z Z Z Z ?_)))); intro b1 w1 hb1 H
 have H := H.blkAcc 3 (k := 0) (n := 0) rfl rfl (by decide)
 refine aG Z (q3 (W_seq (q2 (aG Z (q3 (W_block ?_))))))
 refine W_lp (hf := (Sub.cons (t := 0) Z (Sub.cons (t := 2) Z Sub.nil))) (J := fun M w m => ∃ (v : Value) (n : Nat) (cs : List Value) (xs : List (BItem)) (k : Nat) (G : PH), M = [(4, .int .i64 (k : Int)), (3, v)] ∧ PLe G0 G ∧ Hp w0 G0 [] w G [acc 37 3 v n cs] ∧ (Chk itemE 3 G cs xs ∧ n = xs.length ∧ k ≤ list.length ∧ xs.length = k ∧ xs = list.take k) ∧ m = (list.length - k)) (h0 := ⟨_, _, _, [], 0, _, Z, PLe.refl _, H, ?inv, Z⟩) (round := ?round)
 case inv => exact ⟨(Chk.nil (E := itemE) (sz := 3) (G := G0)),  by first | rfl | simp | (simp; omega) | omega, (by simp)⟩
 case round =>
  rintro _ w2 _ ⟨v, n, cs, xs, k, G2, rfl, hle2, H, hinv2, rfl⟩
  have hlist := hlist.up hle2
  obtain ⟨hchk2_0, hn2_0, hinv2⟩ := hinv2
  obtain ⟨av2_0, cv2_0, rfl⟩ := H.accShape (k := 0) rfl
  obtain ⟨hk, hxl, hxs⟩ := hinv2
  refine W_seq (q2 (mV Z (mV Z (o_len_slice underlying24 Z Z (o_lss Z Z Z (q3 ?_))))))
  refine W_cond Z ?_ ?_
  ·intro hc3
   try simp only [nrm] at hc3
   refine W_skip (N_K (W_seq (W_block (W_region (mV Z (mV Z (mV Z (o_index_P k hlist underlying24 sizeOf37 Z Z Z Z aN ?_)))))))); intro b4 o4 z4 q4 hz4 hE4 hrow4
   obtain ⟨a4, m4, c4, rfl, hi4, hr4⟩ := hE4; have hy_hi4 : _ ≤ 16777216 := hi4; have hn_hr4 := hr4.len; have hx_hr4 : _ ≤ 1099511627776 := hr4.lim
   refine o_loadagg_P H isAgg37 sizeOf37 Z Z hrow4 Z (o_call call104 Z Z (l5Copy_c _ _ H.sub _ _ ⟨_, _, _, Z, hi4, hr4⟩ ) ?_)
   rintro _ w5 ⟨G5, _, g5, rfl, u5_0, rfl, hr5_0⟩
   have H := H.grow g5
   have hchk2_0 := hchk2_0.up g5.le
   have hle2 := hle2.trans g5.le
   obtain ⟨a6, m6, c6, rfl, hi6, hr6⟩ := hr5_0; have hy_hi6 : _ ≤ 16777216 := hi6; have hn_hr6 := hr6.len; have hx_hr6 : _ ≤ 1099511627776 := hr6.lim
   refine ⟨_, Z, ?_⟩
   refine o_buildSlice H underlying24 sizeOf37 (fun w => ⟨_, zeroValue37 w, Z⟩) Z Z Z Z Z Z Z ?_; intro b7 w7 hb7 H
   refine o_append1 0 H (sz := 3) (bytes := 48) underlying24 typeInfo37 ⟨_, Z, Z⟩ Z Z Z Z Z Z Z Z Z Z oM Z ?_; intro v8 w8 H
   have hchk8 := hchk2_0.snoc (show itemE _ z4 _ from ⟨_, _, _, rfl, hi6, hr6⟩) rfl
   obtain ⟨av8, cv8, rfl⟩ := H.accShape (k := 0) rfl
   refine aG Z (R_nil (N_B (N_K (W_region (mV Z (o_add Z Z Z oO (aG Z (R_nil ?_))))))))
   refine N_lp (hJ := ⟨_, _, _, (xs ++ [z4]), k + 1, _, Z, hle2, H, ?inv, Z⟩) (hm := ?hm)
   case hm => omega
   case inv => exact ⟨hchk8, aN, (by exact ⟨by omega, by simp [hxl], by rw [Sp.take_succ' hz4, hxs]⟩)⟩
  intro hc3'
  try simp only [nrm] at hc3'
  refine W_exit (N_K_exit (N_LP_exit (N_B_same (N_K (q2 (mV Z (aG Z (q3 (W_ret (rt1 results49 Z ?_))))))))))
  obtain rfl : k = list.length := by omega
  rw [List.take_length] at hxs
  subst hxs
  exact H.retO (k := 0) rfl (AccOf.mk (by assumption) hchk2_0) (acc_nd _ _ _ _ _)
end Go.Proofs.Tst

namespace Go.Proofs.Tst
open Go Fw Tryz
theorem l3Free_c (w0 : World) (G0 : PH) (hG : PSub G0 w0) (vlist : Value) (list : List (BHeld)) (hlist : RdH G0 vlist list)  :
  Calls Tryz.prog 191 #[vlist] w0 (Rets w0 (.int .i64 (Sp.freeId list : Int))) := by
 obtain ⟨alist, klist, rfl⟩ := hlist.shape
 have hlimlist : list.length ≤ 1099511627776 := hlist.lim
 have H := Hp.init hG
 refine calls_of_W (l := [.slice alist list.length klist]) func191 Z ntmps191 Z (q2 (aG Z (q1 (aG Z (q3 (W_seq (W_block ?_)))))))
 refine W_lp (hf := (Sub.cons (t := 0) Z (Sub.cons (t := 2) Z Sub.nil))) (J := fun M w m => ∃ (k : Nat) (G : PH), M = [(3, .int .i64 ((k : Int) + 1))] ∧ PLe G0 G ∧ Hp w0 G0 [] w G [] ∧ (∀ j : Nat, j < k → (Sp.atH list ((j : Int) + 1)).isSome = true) ∧ m = (list.length + 1 - k)) (h0 := ⟨0, _, Z, PLe.refl _, H, ?inv, Z⟩) (round := ?round)
 case inv => exact fun j hj => by omega
 case round =>
  rintro _ w1 _ ⟨k, G1, rfl, hle1, H, hinv1, rfl⟩
  have hlist := hlist.up hle1
  have hall := hinv1; have hkl := Sp.free_le hall
  refine W_seq (q2 (mV Z (mV Z (o_call call113 Z Z (l3At_c _ _ H.sub _ _ hlist _ ) ?_))))
  rintro _ w2 ⟨rfl, ew2⟩; have H := H.step ew2; refine ⟨_, rfl, ?_⟩
  refine o_geq Z Z Z (q3 ?_)
  refine W_cond Z ?_ ?_
  ·intro hc3
   try simp only [nrm] at hc3
   refine W_skip (N_K (W_block (W_region (mV Z (o_add Z Z Z oO (aG Z (R_nil (N_B ?_))))))))
   refine N_lp (hJ := ⟨k + 1, _, Z, hle1, H, ?inv, Z⟩) (hm := ?hm)
   case hm => omega
   case inv => exact Sp.upto_succ (p := fun j : Nat => (Sp.atH list ((j : Int) + 1)).isSome) hall (Sp.isSome_of hc3)
  intro hc3'
  try simp only [nrm] at hc3'
  refine W_exit (N_K_exit (N_LP_exit (N_B_same (N_K (q2 (mV Z (aG Z (q3 (W_ret (rt1 results191 Z ?_))))))))))
  exact H.rets (congrArg (Value.int .i64) (by rw [Sp.free_eq hall (Sp.isNone_of hc3')]; rfl))
end Go.Proofs.Tst

namespace Go.Proofs.Tst
open Go Fw Tryz
theorem l3With_c (w0 : World) (G0 : PH) (hG : PSub G0 w0) (vlist : Value) (list : List (BHeld)) (hlist : RdH G0 vlist list) (vbytes : Value) (bytes : List (Int)) (hbytes : RdI G0 vbytes bytes) (hS : list.length ≤ 1000000) :
  Calls Tryz.prog 192 #[vlist, vbytes] w0 (RetO w0 G0 (AccOf heldE 3 105 (Sp.l3With list bytes))) := by
 obtain ⟨alist, klist, rfl⟩ := hlist.shape
 have hlimlist : list.length ≤ 1099511627776 := hlist.lim
 obtain ⟨abytes, kbytes, rfl⟩ := hbytes.shape
 have hlimbytes : bytes.length ≤ 1099511627776 := hbytes.lim
 have hfr := Sp.free_lt list
 have H := Hp.init hG
 refine calls_of_W (l := [.slice alist list.length klist, .slice abytes bytes.length kbytes]) func192 Z ntmps192 Z (q2 (aG Z (q1 (mV Z (o_call call191 Z Z (l3Free_c _ _ H.sub _ _ hlist ) ?_)))))
 rintro _ w1 ⟨rfl, ew1⟩; have H := H.step ew1; refine ⟨_, rfl, ?_⟩
 refine aG Z (q1 (o_buildSlice H underlying23 sizeOf105 (fun w => ⟨_, zeroValue105 w, Z⟩) Z Z Z Z Z Z Z ?_)); intro b2 w2 hb2 H
 have H := H.blkAcc 3 (k := 0) (n := 0) rfl rfl (by decide)
 refine aG Z (q1 (aG Z (q1 (mV Z (o_buildSlice H underlying33 sizeOf3 (fun w => ⟨_, zeroValue3 w, Z⟩) Z Z Z Z Z Z Z ?_))))); intro b3 w3 hb3 H
 have H := H.blkAcc 1 (k := 0) (n := 0) rfl rfl (by decide)
 refine mV Z ?_
 refine o_append_P 0 H hbytes (by intro z cs hz u hu; obtain ⟨rfl, _⟩ := hz; simp at hu; subst hu; rfl) (sz := 1) (bytes := 8) underlying33 typeInfo3 ⟨_, rfl, rfl⟩ rfl rfl rfl rfl rfl rfl rfl oM rfl ?_; intro v4 w4 css4 hcl4 hcs4 H
 have hchk4 : Chk intE 1 G0 ([] ++ css4.flatten) _ := ⟨css4, rfl, hcl4, hcs4⟩
 obtain ⟨av4, cv4, rfl⟩ := H.accShape (k := 0) rfl
 refine o_build bf105 Z Z Z (o_alloc H zeroValue105 Z Z ?_); intro b5 w5 hb5 H
 refine o_store_B 0 H sizeOf105 Z Z Z Z Z Z Z Z ?_; intro w6 H
 refine q1 (mV Z (o_call call102 Z Z (l3Copy_c _ _ H.sub _ _ hlist ) ?_))
 rintro _ w7 ⟨G7, v7, _, g7, rfl, ⟨cs7, rfl, hchk7⟩, hp7, hq7, hs7⟩
 have H := H.growO g7 hp7 hq7 hs7; obtain ⟨av7, cv7, rfl⟩ := H.accShape (k := 0) rfl
 have hchk4 := hchk4.up g7.le
 refine ⟨_, Z, ?_⟩
 refine aG Z (q3 (W_seq (q2 (aG Z (q3 (W_block ?_))))))
 obtain ⟨G8, H, hsg8, hsr8⟩ := H.shut' (k := 2) rfl hchk4 aN aN
 have hchk7 := hchk7.up hsg8
 obtain ⟨G9, H, hsg9, hsr9⟩ := H.shut' (k := 0) rfl hchk7 aN aN
 have hsr8 := hsr8.up hsg9
 obtain ⟨ln10, hln10, H⟩ := H.name (k := 0) rfl
 refine W_lp (hf := (Sub.cons (t := 4) Z (Sub.cons (t := 5) Z (Sub.cons (t := 8) Z (Sub.cons (t := 9) Z Sub.nil))))) (J := fun M w m => ∃ (v : Value) (n : Nat) (cs : List Value) (xs : List (BHeld)) (d : Bool) (k : Nat) (G : PH), M = [(7, .bool d), (10, .int .i64 (k : Int)), (6, v)] ∧ PLe G9 G ∧ Hp w0 G0 [] w G [blk b5 (cl ln10 105), acc 105 3 v n cs] ∧ (Chk heldE 3 G cs xs ∧ n = xs.length ∧ k ≤ list.length ∧ xs.length ≤ k + 1 ∧ (d = false → xs = list.take k ∧ (list.take k).all (Sp.idF list) = true) ∧ (d = true → xs ++ list.drop k = Sp.l3With list bytes)) ∧ m = (list.length - k)) (h0 := ⟨_, _, _, [], false, 0, _, Z, PLe.refl _, H, ?inv, Z⟩) (round := ?round)
 case inv => exact ⟨(Chk.nil (E := heldE) (sz := 3) (G := G9)),  by first | rfl | simp | (simp; omega) | omega, (by simp)⟩
 case round =>
  rintro _ w11 _ ⟨v, n, cs, xs, d, k, G11, rfl, hle11, H, hinv11, rfl⟩
  subst hln10
  have hsr8 := hsr8.up hle11
  have hsr9 := hsr9.up hle11
  obtain ⟨hchk11_0, hn11_0, hinv11⟩ := hinv11
  obtain ⟨av11_0, cv11_0, rfl⟩ := H.accShape (k := 1) rfl
  obtain ⟨hk, hxl, hd0, hd1⟩ := hinv11
  refine W_seq (q2 (mV Z (mV Z (o_len_slice underlying23 Z Z (o_lss Z Z Z (q3 ?_))))))
  refine W_cond Z ?_ ?_
  ·intro hc12
   try simp only [nrm] at hc12
   refine W_skip (N_K (W_seq (W_block (W_seq (q2 (mV Z (o_not Z Z (mV Z ?_))))))))
   refine R_case (t := 29) Z ?_ ?_
   ·intro hc13
    try simp only [nrm] at hc13
    refine gR Z (mV Z (gR Z (mV Z (gR Z (o_index_P k hsr9 underlying23 sizeOf105 Z Z Z Z aN ?_))))); intro b14 o14 z14 q14 hz14 hE14 hrow14
    obtain ⟨a14, m14, c14, rfl, hi14, hr14, hj14⟩ := hE14; have hn_hr14 := hr14.len; have hx_hr14 : _ ≤ 1099511627776 := hr14.lim
    refine gR Z (o_fieldAddr 0 runUnderlying105 Z sizeOf3 Z Z Z (gR Z (o_load_P H isAgg3 Z Z (hrow14 0 _ Z) (gR Z (mV Z (gR Z (o_gtr Z Z Z (o_pick_t Z Z Z (q3 ?_)))))))))
    refine W_cond Z ?_ ?_
    ·intro hc15
     try simp only [nrm] at hc15
     refine q2 (mV Z (o_loadagg_B 0 H isAgg105 sizeOf105 Z Z Z Z Z (o_buildSlice H underlying23 sizeOf105 (fun w => ⟨_, zeroValue105 w, Z⟩) Z Z Z Z Z Z Z ?_))); intro b16 w16 hb16 H
     refine o_append1 1 H (sz := 3) (bytes := 40) underlying23 typeInfo105 ⟨_, Z, Z⟩ Z Z Z Z Z Z Z Z Z Z oM Z ?_; intro v17 w17 H
     have hchk17 := hchk11_0.snoc (show heldE _ ⟨(Sp.freeId list : Int), bytes, 1⟩ _ from ⟨_, _, _, rfl, ⟨by first | omega | (dsimp only; omega), by first | omega | (dsimp only; omega)⟩, hsr8, ⟨by first | omega | (dsimp only; omega), by first | omega | (dsimp only; omega)⟩⟩) rfl
     obtain ⟨av17, cv17, rfl⟩ := H.accShape (k := 1) rfl
     refine aG Z (q3 (W_region (aG Z (q3 (W_region (mV Z (mV Z (mV Z (o_index_P k hsr9 underlying23 sizeOf105 Z Z Z Z aN ?_))))))))); intro b18 o18 z18 q18 hz18 hE18 hrow18
     obtain ⟨a18, m18, c18, rfl, hi18, hr18, hj18⟩ := hE18; have hn_hr18 := hr18.len; have hx_hr18 : _ ≤ 1099511627776 := hr18.lim
     have hzz18 : z14 = z18 := Option.some.inj (hz14.symm.trans hz18)
     subst hzz18
     refine o_loadagg_P H isAgg105 sizeOf105 Z Z hrow18 Z (o_buildSlice H underlying23 sizeOf105 (fun w => ⟨_, zeroValue105 w, Z⟩) Z Z Z Z Z Z Z ?_); intro b19 w19 hb19 H
     refine o_append1 1 H (sz := 3) (bytes := 40) underlying23 typeInfo105 ⟨_, Z, Z⟩ Z Z Z Z Z Z Z Z Z Z oM Z ?_; intro v20 w20 H
     have hchk20 := hchk17.snoc (show heldE _ z14 _ from ⟨_, _, _, rfl, ⟨by first | omega | (dsimp only; omega), by first | omega | (dsimp only; omega)⟩, hr18, ⟨by first | omega | (dsimp only; omega), by first | omega | (dsimp only; omega)⟩⟩) rfl
     obtain ⟨av20, cv20, rfl⟩ := H.accShape (k := 1) rfl
     refine aG Z (R_nil (N_B (N_K (W_region (mV Z (o_add Z Z Z oO (aG Z (R_nil ?_))))))))
     refine N_lp (hJ := ⟨_, _, _, ((xs ++ [⟨(Sp.freeId list : Int), bytes, 1⟩]) ++ [z14]), true, k + 1, _, Z, hle11, H, ?inv, Z⟩) (hm := ?hm)
     case hm => omega
     case inv => exact ⟨hchk20, aN, (by exact ⟨by omega, by have := congrArg List.length (hd0 (by assumption)).1; simp at this ⊢; omega, by simp, fun _ => Sp.ins_new (F := Sp.idF list) (hd0 (by assumption)) hz14 (by simp [Sp.idF]; omega)⟩)⟩
    intro hc15'
    try simp only [nrm] at hc15'
    refine W_skip (N_K (W_region (mV Z (mV Z (mV Z (o_index_P k hsr9 underlying23 sizeOf105 Z Z Z Z aN ?_)))))); intro b22 o22 z22 q22 hz22 hE22 hrow22
    obtain ⟨a22, m22, c22, rfl, hi22, hr22, hj22⟩ := hE22; have hn_hr22 := hr22.len; have hx_hr22 : _ ≤ 1099511627776 := hr22.lim
    have hzz22 : z14 = z22 := Option.some.inj (hz14.symm.trans hz22)
    subst hzz22
    refine o_loadagg_P H isAgg105 sizeOf105 Z Z hrow22 Z (o_buildSlice H underlying23 sizeOf105 (fun w => ⟨_, zeroValue105 w, Z⟩) Z Z Z Z Z Z Z ?_); intro b23 w23 hb23 H
    refine o_append1 1 H (sz := 3) (bytes := 40) underlying23 typeInfo105 ⟨_, Z, Z⟩ Z Z Z Z Z Z Z Z Z Z oM Z ?_; intro v24 w24 H
    have hchk24 := hchk11_0.snoc (show heldE _ z14 _ from ⟨_, _, _, rfl, ⟨by first | omega | (dsimp only; omega), by first | omega | (dsimp only; omega)⟩, hr22, ⟨by first | omega | (dsimp only; omega), by first | omega | (dsimp only; omega)⟩⟩) rfl
    obtain ⟨av24, cv24, rfl⟩ := H.accShape (k := 1) rfl
    refine aG Z (R_nil (N_B (N_K (W_region (mV Z (o_add Z Z Z oO (aG Z (R_nil ?_))))))))
    refine N_lp (hJ := ⟨_, _, _, (xs ++ [z14]), d, k + 1, _, Z, hle11, H, ?inv, Z⟩) (hm := ?hm)
    case hm => omega
    case inv => exact ⟨hchk24, aN, (by first | exact ⟨by omega, by simp; omega, fun h => ⟨by rw [(hd0 h).1, Sp.take_succ' hz14], Sp.all_take (hd0 h).2 hz14 (by simp [Sp.idF]; omega)⟩, fun h => Sp.ins_old (hd1 h) hz14⟩ | exact ⟨by omega, by simp; omega, fun h => absurd h (by simp [*]), fun h => Sp.ins_old (hd1 h) hz14⟩)⟩
   intro hc13'
   try simp only [nrm] at hc13'
   refine rP Z (rP Z (rP Z (rP Z (rP Z (rP Z (rP Z (o_pick_f Z Z Z (q3 (W_false Z (W_skip (N_K (W_region (mV Z (mV Z (mV Z ?_)))))))))))))))
   refine o_index_P k hsr9 underlying23 sizeOf105 Z Z Z Z aN ?_; intro b26 o26 z26 q26 hz26 hE26 hrow26
   obtain ⟨a26, m26, c26, rfl, hi26, hr26, hj26⟩ := hE26; have hn_hr26 := hr26.len; have hx_hr26 : _ ≤ 1099511627776 := hr26.lim
   refine o_loadagg_P H isAgg105 sizeOf105 Z Z hrow26 Z (o_buildSlice H underlying23 sizeOf105 (fun w => ⟨_, zeroValue105 w, Z⟩) Z Z Z Z Z Z Z ?_); intro b27 w27 hb27 H
   refine o_append1 1 H (sz := 3) (bytes := 40) underlying23 typeInfo105 ⟨_, Z, Z⟩ Z Z Z Z Z Z Z Z Z Z oM Z ?_; intro v28 w28 H
   have hchk28 := hchk11_0.snoc (show heldE _ z26 _ from ⟨_, _, _, rfl, ⟨by first | omega | (dsimp only; omega), by first | omega | (dsimp only; omega)⟩, hr26, ⟨by first | omega | (dsimp only; omega), by first | omega | (dsimp only; omega)⟩⟩) rfl
   obtain ⟨av28, cv28, rfl⟩ := H.accShape (k := 1) rfl
   refine aG Z (R_nil (N_B (N_K (W_region (mV Z (o_add Z Z Z oO (aG Z (R_nil ?_))))))))
   refine N_lp (hJ := ⟨_, _, _, (xs ++ [z26]), d, k + 1, _, Z, hle11, H, ?inv, Z⟩) (hm := ?hm)
   case hm => omega
   case inv => exact ⟨hchk28, aN, (by first | exact ⟨by omega, by simp; omega, fun h => ⟨by rw [(hd0 h).1, Sp.take_succ' hz26], Sp.all_take (hd0 h).2 hz26 (by simp [Sp.idF]; omega)⟩, fun h => Sp.ins_old (hd1 h) hz26⟩ | exact ⟨by omega, by simp; omega, fun h => absurd h (by simp [*]), fun h => Sp.ins_old (hd1 h) hz26⟩)⟩
  intro hc12'
  try simp only [nrm] at hc12'
  refine W_exit (N_K_exit (N_LP_exit (N_B_same (N_K (W_seq (q2 (mV Z (o_not Z Z (q3 ?_)))))))))
  refine W_cond Z ?_ ?_
  ·intro hc30
   try simp only [nrm] at hc30
   refine W_region (mV Z (o_loadagg_B 0 H isAgg105 sizeOf105 Z Z Z Z Z (o_buildSlice H underlying23 sizeOf105 (fun w => ⟨_, zeroValue105 w, Z⟩) Z Z Z Z Z Z Z ?_))); intro b31 w31 hb31 H
   refine o_append1 1 H (sz := 3) (bytes := 40) underlying23 typeInfo105 ⟨_, Z, Z⟩ Z Z Z Z Z Z Z Z Z Z oM Z ?_; intro v32 w32 H
   have hchk32 := hchk11_0.snoc (show heldE _ ⟨(Sp.freeId list : Int), bytes, 1⟩ _ from ⟨_, _, _, rfl, ⟨by first | omega | (dsimp only; omega), by first | omega | (dsimp only; omega)⟩, hsr8, ⟨by first | omega | (dsimp only; omega), by first | omega | (dsimp only; omega)⟩⟩) rfl
   obtain ⟨av32, cv32, rfl⟩ := H.accShape (k := 1) rfl
   refine aG Z (q1 (mV Z (aG Z (q3 (W_ret (rt1 results192 Z ?_))))))
   have hx := hd0 (by assumption)
   rw [List.take_of_length_le oM] at hx
   obtain ⟨rfl, hx2⟩ := hx
   exact H.retO (k := 1) rfl (by rw [Sp.l3With_eq, ← Sp.ins_end _ hx2]; exact AccOf.mk aN hchk32) (acc_nd _ _ _ _ _)
  intro hc30'
  try simp only [nrm] at hc30'
  refine W_skip (N_K (q2 (mV Z (aG Z (q3 (W_ret (rt1 results192 Z ?_)))))))
  have hx := hd1 (by assumption)
  rw [List.drop_of_length_le oM, List.append_nil] at hx
  subst hx
  exact H.retO (k := 1) rfl (by skip; exact AccOf.mk aN hchk11_0) (acc_nd _ _ _ _ _)
end Go.Proofs.Tst

namespace Go.Proofs.Tst
open Go Fw Tryz
theorem StorePut_c (w0 : World) (G0 : PH) (hG : PSub G0 w0) (vlist : Value) (list : List (BHeld)) (hlist : RdH G0 vlist list) (vbytes : Value) (bytes : List (Int)) (hbytes : RdI G0 vbytes bytes) (hS : list.length ≤ 1000000) :
  Calls Tryz.prog 156 #[vlist, vbytes] w0 (RetO w0 G0 (fun G v r => ∃ u, v = .tuple #[u, .int .i64 (((Sp.StorePut list bytes).map (·.2)).getD 0), .bool (Sp.StorePut list bytes).isSome] ∧ AccOf heldE 3 105 (((Sp.StorePut list bytes).map (·.1)).getD []) G u r ∧ inI (((Sp.StorePut list bytes).map (·.2)).getD 0))) := by
 obtain ⟨alist, klist, rfl⟩ := hlist.shape
 have hlimlist : list.length ≤ 1099511627776 := hlist.lim
 obtain ⟨abytes, kbytes, rfl⟩ := hbytes.shape
 have hlimbytes : bytes.length ≤ 1099511627776 := hbytes.lim
 have H := Hp.init hG
 refine calls_of_W (l := [.slice alist list.length klist, .slice abytes bytes.length kbytes]) func156 Z ntmps156 Z (q2 (aG Z (aG Z (aG Z (q3 (W_seq (q2 (mV Z (o_call call96 Z Z (StoreValid_c _ _ H.sub _ _ hlist ) ?_)))))))))
 rintro _ w1 ⟨rfl, ew1⟩; have H := H.step ew1; refine ⟨_, rfl, ?_⟩
 refine o_not Z Z (mV Z ?_)
 refine R_case (t := 13) Z ?_ ?_
 ·intro hc2
  try simp only [nrm] at hc2
  refine rP Z (rP Z (rP Z (o_pick_t Z Z Z (q3 (W_true Z (q2 (o_buildSlice H underlying23 sizeOf105 (fun w => ⟨_, zeroValue105 w, Z⟩) Z Z Z Z Z Z Z ?_))))))); intro b3 w3 hb3 H
  have H := H.blkAcc 3 (k := 0) (n := 0) rfl rfl (by decide)
  refine aG Z (aG Z (aG Z (q3 (W_ret (N_K_ret (ret_gen (rs := [.tmp 4, .tmp 5, .tmp 6]) (vs := [_, _, _]) results156 ⟨Z, Z, Z, trivial⟩ ?_))))))
  have hN : Sp.StorePut list bytes = none := by simp [Sp.StorePut, hc2]
  exact H.retO (k := 0) rfl (by rw [hN]; exact ⟨_, rfl, AccOf.mk aN (Chk.nil (E := heldE) (sz := 3) (G := G0)), (by simp [inI])⟩) (acc_nd _ _ _ _ _)
 intro hc2'
 try simp only [nrm] at hc2'
 refine gR Z (mV Z (gR Z (o_call call143 Z Z (BlockValid_c _ _ H.sub _ _ hbytes ) ?_)))
 rintro _ w4 ⟨rfl, ew4⟩; have H := H.step ew4; refine ⟨_, rfl, ?_⟩
 refine gR Z (o_not Z Z (o_pick_f Z Z Z (q3 ?_)))
 refine W_cond Z ?_ ?_
 ·intro hc5
  try simp only [nrm] at hc5
  refine q2 (o_buildSlice H underlying23 sizeOf105 (fun w => ⟨_, zeroValue105 w, Z⟩) Z Z Z Z Z Z Z ?_); intro b6 w6 hb6 H
  have H := H.blkAcc 3 (k := 0) (n := 0) rfl rfl (by decide)
  refine aG Z (aG Z (aG Z (q3 (W_ret (N_K_ret (ret_gen (rs := [.tmp 4, .tmp 5, .tmp 6]) (vs := [_, _, _]) results156 ⟨Z, Z, Z, trivial⟩ ?_))))))
  have hN : Sp.StorePut list bytes = none := by simp [Sp.StorePut, hc5]
  exact H.retO (k := 0) rfl (by rw [hN]; exact ⟨_, rfl, AccOf.mk aN (Chk.nil (E := heldE) (sz := 3) (G := G0)), (by simp [inI])⟩) (acc_nd _ _ _ _ _)
 intro hc5'
 try simp only [nrm] at hc5'
 refine W_skip (N_K (q2 (mV Z (o_call call102 Z Z (l3Copy_c _ _ H.sub _ _ hlist ) ?_))))
 rintro _ w7 ⟨G7, v7, _, g7, rfl, ⟨cs7, rfl, hchk7⟩, hp7, hq7, hs7⟩
 have H := H.growO g7 hp7 hq7 hs7; obtain ⟨av7, cv7, rfl⟩ := H.accShape (k := 0) rfl
 have hlist := hlist.up g7.le
 have hbytes := hbytes.up g7.le
 refine ⟨_, Z, ?_⟩
 refine aG Z (q1 (mV Z (mV Z (o_call call190 Z Z (l3Like_c _ _ H.sub _ _ hlist _ _ hbytes ) ?_))))
 rintro _ w8 ⟨rfl, ew8⟩; have H := H.step ew8; refine ⟨_, rfl, ?_⟩
 refine aG Z (q1 (mV Z (o_call call191 Z Z (l3Free_c _ _ H.sub _ _ hlist ) ?_)))
 rintro _ w9 ⟨rfl, ew9⟩; have H := H.step ew9; refine ⟨_, rfl, ?_⟩
 refine aG Z (q3 (W_seq (q2 (mV Z (o_geq Z Z Z (q3 ?_))))))
 refine W_cond Z ?_ ?_
 ·intro hc10
  try simp only [nrm] at hc10
  obtain ⟨i, x, hi1, hi2, hi3, hi4, hi5⟩ := Sp.at_nat hc10
  refine q2 (mV Z (mV Z (mV Z (mV Z (o_index_A 0 H i Z hchk7 underlying23 sizeOf105 Z Z Z hi2 aN aN ?_))))); intro ba11 z11 q11 hba11 hz11 hE11 hg11; cases hba11
  obtain ⟨a11, m11, c11, rfl, hi11, hr11, hj11⟩ := hE11; have hn_hr11 := hr11.len; have hx_hr11 : _ ≤ 1099511627776 := hr11.lim
  have hsv := Sp.valid_at hc2' hz11
  refine o_fieldAddr 2 runUnderlying105 Z sizeOf3 Z Z Z (o_load_A 0 H isAgg3 Z Z Z (hg11 2 _ Z) (o_add Z Z Z oO (o_index_A 0 H i Z hchk7 underlying23 sizeOf105 Z Z Z hi2 aN aN ?_))); intro ba13 z13 q13 hba13 hz13 hE13 hg13; cases hba13
  obtain ⟨a13, m13, c13, rfl, hi13, hr13, hj13⟩ := hE13; have hn_hr13 := hr13.len; have hx_hr13 : _ ≤ 1099511627776 := hr13.lim
  have hzz13 : z11 = z13 := Option.some.inj (hz11.symm.trans hz13)
  subst hzz13
  refine o_fieldAddr 2 runUnderlying105 Z sizeOf3 Z Z Z ?_
  have hcl14 := hchk7.length
  refine o_store_A 0 H sizeOf3 Z Z Z Z Z (by simp only [vc, List.length_cons, List.length_nil]; omega) ?_; intro w14 H
  have hchk14 := hchk7.put (x' := ⟨z11.id, z11.bytes, z11.uses + 1⟩) (off := 2) (vs := [_]) hz13 (fun cs hl hE => by obtain ⟨_, _, _, rfl, h1, h2, h3⟩ := hE; exact ⟨_, _, _, rfl, h1, h2, ⟨by first | omega | (dsimp only; omega), by first | omega | (dsimp only; omega)⟩⟩) (by simp only [vc, List.length_cons, List.length_nil]; omega)
  refine q3 (W_region (mV Z (mV Z (o_index_A 0 H i Z hchk14 underlying23 sizeOf105 Z Z Z hi2 aN aN ?_)))); intro ba15 z15 q15 hba15 hz15 hE15 hg15; cases hba15
  obtain ⟨a15, m15, c15, rfl, hi15, hr15, hj15⟩ := hE15; have hn_hr15 := hr15.len; have hx_hr15 : _ ≤ 1099511627776 := hr15.lim
  rw [List.getElem?_set_self oM] at hz15
  simp only [Option.some.injEq] at hz15
  subst hz15
  refine o_fieldAddr 0 runUnderlying105 Z sizeOf3 Z Z Z (o_load_A 0 H isAgg3 Z Z Z (hg15 0 _ Z) (aG Z (q3 (W_seq (q2 (mV Z (o_call call96 Z Z (StoreValid_c _ _ (H.lendSubL [0]) _ _ (H.lendRdL (k := 0) (ks := [0]) Z Z hchk14 aN aN) ) ?_)))))))
  rintro _ w16 ⟨rfl, ew16⟩; have H := H.step ew16; refine ⟨_, rfl, ?_⟩
  refine o_not Z Z (q3 ?_)
  refine W_cond Z ?_ ?_
  ·intro hc17
   try simp only [nrm] at hc17
   refine q2 (o_buildSlice H underlying23 sizeOf105 (fun w => ⟨_, zeroValue105 w, Z⟩) Z Z Z Z Z Z Z ?_); intro b18 w18 hb18 H
   have H := H.blkAcc 3 (k := 0) (n := 0) rfl rfl (by decide)
   refine aG Z (aG Z (aG Z (q3 (W_ret (N_K_ret (ret_gen (rs := [.tmp 4, .tmp 5, .tmp 6]) (vs := [_, _, _]) results156 ⟨Z, Z, Z, trivial⟩ ?_))))))
   have hN : Sp.StorePut list bytes = none := by (have hl : Sp.like list bytes = some i := hi1); simp [Sp.StorePut, hl, Sp.bump_at hz11, hc17]
   exact H.retO (k := 0) rfl (by rw [hN]; exact ⟨_, rfl, AccOf.mk aN (Chk.nil (E := heldE) (sz := 3) (G := G7)), (by simp [inI])⟩) (acc_nd _ _ _ _ _)
  intro hc17'
  try simp only [nrm] at hc17'
  refine W_skip (N_K (q2 (mV Z (mV Z (aG Z (aG Z (aG Z (q3 (W_ret (ret_gen (rs := [.tmp 4, .tmp 5, .tmp 6]) (vs := [_, _, _]) results156 ⟨Z, Z, Z, trivial⟩ ?_))))))))))
  have hY : Sp.StorePut list bytes = some (list.set i ⟨z11.id, z11.bytes, z11.uses + 1⟩, z11.id) := by (have hl : Sp.like list bytes = some i := hi1); simp [Sp.StorePut, hc2', hc5', hl, Sp.bump_at hz11, hc17', hz11]
  exact H.retO (k := 0) rfl (by rw [hY]; exact ⟨_, rfl, AccOf.mk aN hchk14, ⟨by dsimp only [Option.map, Option.getD]; omega, by dsimp only [Option.map, Option.getD]; omega⟩⟩) (acc_nd _ _ _ _ _)
 intro hc10'
 try simp only [nrm] at hc10'
 refine W_region (mV Z (mV Z (o_call call192 Z Z (l3With_c _ _ H.sub _ _ hlist _ _ hbytes oM) ?_)))
 rintro _ w19 ⟨G19, v19, _, g19, rfl, ⟨cs19, rfl, hchk19⟩, hp19, hq19, hs19⟩
 have H := H.growO g19 hp19 hq19 hs19; obtain ⟨av19, cv19, rfl⟩ := H.accShape (k := 0) rfl
 refine ⟨_, Z, ?_⟩
 have hwl := Sp.l3With_len list bytes
 have hfr := Sp.free_lt list
 refine aG Z (q3 (W_seq (q2 (mV Z (o_call call96 Z Z (StoreValid_c _ _ (H.lendSubL [0]) _ _ (H.lendRdL (k := 0) (ks := [0]) Z Z hchk19 aN aN) ) ?_)))))
 rintro _ w20 ⟨rfl, ew20⟩; have H := H.step ew20; refine ⟨_, rfl, ?_⟩
 refine o_not Z Z (q3 ?_)
 refine W_cond Z ?_ ?_
 ·intro hc21
  try simp only [nrm] at hc21
  refine q2 (o_buildSlice H underlying23 sizeOf105 (fun w => ⟨_, zeroValue105 w, Z⟩) Z Z Z Z Z Z Z ?_); intro b22 w22 hb22 H
  have H := H.blkAcc 3 (k := 0) (n := 0) rfl rfl (by decide)
  refine aG Z (aG Z (aG Z (q3 (W_ret (N_K_ret (ret_gen (rs := [.tmp 4, .tmp 5, .tmp 6]) (vs := [_, _, _]) results156 ⟨Z, Z, Z, trivial⟩ ?_))))))
  have hN : Sp.StorePut list bytes = none := by (have hl : Sp.like list bytes = none := Sp.at_none hc10'); simp [Sp.StorePut, hl, hc21]
  exact H.retO (k := 0) rfl (by rw [hN]; exact ⟨_, rfl, AccOf.mk aN (Chk.nil (E := heldE) (sz := 3) (G := G19)), (by simp [inI])⟩) (acc_nd _ _ _ _ _)
 intro hc21'
 try simp only [nrm] at hc21'
 refine W_skip (N_K (q2 (mV Z (mV Z (aG Z (aG Z (aG Z (q3 (W_ret (ret_gen (rs := [.tmp 4, .tmp 5, .tmp 6]) (vs := [_, _, _]) results156 ⟨Z, Z, Z, trivial⟩ ?_))))))))))
 have hY : Sp.StorePut list bytes = some (Sp.l3With list bytes, (Sp.freeId list : Int)) := by (have hl : Sp.like list bytes = none := Sp.at_none hc10'); simp [Sp.StorePut, hc2', hc5', hl, hc21']
 exact H.retO (k := 0) rfl (by rw [hY]; exact ⟨_, rfl, AccOf.mk aN hchk19, ⟨by dsimp only [Option.map, Option.getD]; omega, by dsimp only [Option.map, Option.getD]; omega⟩⟩) (acc_nd _ _ _ _ _)
end Go.Proofs.Tst

namespace Go.Proofs.Tst
open Go Fw Tryz
theorem l4Cut_c (w0 : World) (G0 : PH) (hG : PSub G0 w0) (vbytes : Value) (bytes : List (Int)) (hbytes : RdI G0 vbytes bytes) (hS : bytes.length ≤ 1000000) :
  Calls Tryz.prog 155 #[vbytes] w0 (RetP w0 G0 (fun G v => RdS LIM intsE 1 G v (Sp.l4Cut bytes))) := by
 obtain ⟨abytes, kbytes, rfl⟩ := hbytes.shape
 have hlimbytes : bytes.length ≤ 1099511627776 := hbytes.lim
 have H := Hp.init hG
 refine calls_of_W (l := [.slice abytes bytes.length kbytes]) func155 Z ntmps155 Z (q2 (aG Z (q1 (o_buildSlice H underlying186 sizeOf33 (fun w => ⟨_, zeroValue33 w, Z⟩) Z Z Z Z Z Z Z ?_)))); intro b1 w1 hb1 H
 have H := H.blkAcc 1 (k := 0) (n := 0) rfl rfl (by decide)
 refine aG Z (q3 (W_seq (q2 (aG Z (q3 (W_block ?_))))))
 refine W_lp (hf := (Sub.cons (t := 0) Z (Sub.cons (t := 2) Z Sub.nil))) (J := fun M w m => ∃ (v : Value) (n : Nat) (cs : List Value) (xs : List (List Int)) (k : Nat) (G : PH), M = [(4, .int .i64 (8 * (k : Int))), (3, v)] ∧ PLe G0 G ∧ Hp w0 G0 [] w G [acc 33 1 v n cs] ∧ (Chk intsE 1 G cs xs ∧ n = xs.length ∧ k ≤ (bytes.length + 7) / 8 ∧ xs.length = k ∧ xs = (List.range k).map (Sp.chunk bytes)) ∧ m = (bytes.length + 8 - 8 * k)) (h0 := ⟨_, _, _, [], 0, _, Z, PLe.refl _, H, ?inv, Z⟩) (round := ?round)
 case inv => exact ⟨(Chk.nil (E := intsE) (sz := 1) (G := G0)),  by first | rfl | simp | (simp; omega) | omega, (by simp)⟩
 case round =>
  rintro _ w2 _ ⟨v, n, cs, xs, k, G2, rfl, hle2, H, hinv2, rfl⟩
  have hbytes := hbytes.up hle2
  obtain ⟨hchk2_0, hn2_0, hinv2⟩ := hinv2
  obtain ⟨av2_0, cv2_0, rfl⟩ := H.accShape (k := 0) rfl
  obtain ⟨hk, hxl, hxs⟩ := hinv2
  refine W_seq (q2 (mV Z (mV Z (o_len_slice underlying33 Z Z (o_lss Z Z Z (q3 ?_))))))
  refine W_cond Z ?_ ?_
  ·intro hc3
   try simp only [nrm] at hc3
   refine W_skip (N_K (W_seq (W_block (W_region (mV Z (o_buildSlice H underlying33 sizeOf3 (fun w => ⟨_, zeroValue3 w, Z⟩) Z Z Z Z Z Z Z ?_)))))); intro b4 w4 hb4 H
   have H := H.blkAcc 1 (k := 0) (n := 0) rfl rfl (by decide)
   refine mV Z (mV Z (mV Z (o_add Z Z Z oO (mV Z (o_len_slice underlying33 Z Z (o_min Z Z Z ?_))))))
   have hcap6 := hbytes.cap; try simp only [List.length_set, List.length_append, List.length_take, List.length_drop, List.length_replicate] at hcap6
   refine o_slice (i := (8 * k)) (j := (min (8 * k + 8) bytes.length)) underlying33 sizeOf3 Z Z Z Z oM oM aN aN ?_
   have hsl6 := hbytes.part (i := (8 * k)) (j := (min (8 * k + 8) bytes.length)) oM oM
   have hsn1 := hsl6.len
   refine o_append_P 0 H hsl6 (by intro z cs hz u hu; obtain ⟨rfl, _⟩ := hz; simp at hu; subst hu; rfl) (sz := 1) (bytes := 8) underlying33 typeInfo3 ⟨_, rfl, rfl⟩ rfl rfl rfl rfl rfl rfl rfl oM rfl ?_; intro v7 w7 css7 hcl7 hcs7 H
   have hchk7 : Chk intE 1 G2 ([] ++ css7.flatten) _ := ⟨css7, rfl, hcl7, hcs7⟩
   obtain ⟨av7, cv7, rfl⟩ := H.accShape (k := 0) rfl
   refine o_buildSlice H underlying186 sizeOf33 (fun w => ⟨_, zeroValue33 w, Z⟩) Z Z Z Z Z Z Z ?_; intro b8 w8 hb8 H
   refine o_append1 1 H (sz := 1) (bytes := 24) underlying186 typeInfo33 ⟨_, Z, Z⟩ Z Z Z Z Z Z Z Z Z Z oM Z ?_; intro v9 w9 H
   obtain ⟨G10, H, hsg10, hsr10⟩ := H.shut' (k := 0) rfl hchk7 aN aN
   have hchk2_0 := hchk2_0.up hsg10
   have hle2 := hle2.trans hsg10
   have hchk9 := hchk2_0.snoc (show intsE _ (Sp.chunk bytes k) _ from ⟨_, _, _, rfl, hsr10⟩) rfl
   obtain ⟨av9, cv9, rfl⟩ := H.accShape (k := 0) rfl
   refine aG Z (R_nil (N_B (N_K (W_region (mV Z (o_add Z Z Z oO (aG Z (R_nil ?_))))))))
   refine N_lp (hJ := ⟨_, _, _, (xs ++ [(Sp.chunk bytes k)]), k + 1, _, Z, hle2, H, ?inv, Z⟩) (hm := ?hm)
   case hm => omega
   case inv => exact ⟨hchk9, aN, (by exact ⟨by omega, by simp [hxl], by rw [hxs, List.range_succ, List.map_append]; rfl⟩)⟩
  intro hc3'
  try simp only [nrm] at hc3'
  refine W_exit (N_K_exit (N_LP_exit (N_B_same (N_K (q2 (mV Z (aG Z (q3 (W_ret (rt1 results155 Z ?_))))))))))
  obtain ⟨G512, H, hsg512, hsr512⟩ := H.shut' (k := 0) rfl hchk2_0 aN aN
  obtain rfl : k = (bytes.length + 7) / 8 := by omega
  exact H.retP (by rw [Sp.l4Cut, ← hxs]; exact hsr512)
end Go.Proofs.Tst

namespace Go.Proofs.Tst
open Go Fw Tryz
theorem FileStore_c (w0 : World) (G0 : PH) (hG : PSub G0 w0) (vlist : Value) (list : List (BHeld)) (hlist : RdH G0 vlist list) (vbytes : Value) (bytes : List (Int)) (hbytes : RdI G0 vbytes bytes) (hS : bytes.length ≤ 1000000) :
  Calls Tryz.prog 115 #[vlist, vbytes] w0 (RetO w0 G0 (fun G v r => ∃ u u1, v = .tuple #[u, u1, .bool (Sp.FileStore list bytes).isSome] ∧ AccOf heldE 3 105 (((Sp.FileStore list bytes).map (·.1)).getD []) G u r ∧ RdI G u1 (((Sp.FileStore list bytes).map (·.2)).getD []))) := by
 obtain ⟨alist, klist, rfl⟩ := hlist.shape
 have hlimlist : list.length ≤ 1099511627776 := hlist.lim
 obtain ⟨abytes, kbytes, rfl⟩ := hbytes.shape
 have hlimbytes : bytes.length ≤ 1099511627776 := hbytes.lim
 have H := Hp.init hG
 refine calls_of_W (l := [.slice alist list.length klist, .slice abytes bytes.length kbytes]) func115 Z ntmps115 Z (q2 (aG Z (aG Z (aG Z (q3 (W_seq (q2 (mV Z (o_call call96 Z Z (StoreValid_c _ _ H.sub _ _ hlist ) ?_)))))))))
 rintro _ w1 ⟨rfl, ew1⟩; have H := H.step ew1; refine ⟨_, rfl, ?_⟩
 refine o_not Z Z (mV Z ?_)
 refine R_case (t := 17) Z ?_ ?_
 ·intro hc2
  try simp only [nrm] at hc2
  refine rP Z (rP Z (rP Z (o_pick_t Z Z Z (q3 (W_true Z (q2 (o_buildSlice H underlying23 sizeOf105 (fun w => ⟨_, zeroValue105 w, Z⟩) Z Z Z Z Z Z Z ?_))))))); intro b3 w3 hb3 H
  have H := H.blkAcc 3 (k := 0) (n := 0) rfl rfl (by decide)
  refine o_buildSlice H underlying33 sizeOf3 (fun w => ⟨_, zeroValue3 w, Z⟩) Z Z Z Z Z Z Z ?_; intro b4 w4 hb4 H
  have H := H.blkAcc 1 (k := 0) (n := 0) rfl rfl (by decide)
  refine aG Z (aG Z (aG Z (q3 (W_ret (N_K_ret (ret_gen (rs := [.tmp 4, .tmp 5, .tmp 6]) (vs := [_, _, _]) results115 ⟨Z, Z, Z, trivial⟩ ?_))))))
  obtain ⟨G505, H, hsg505, hsr505⟩ := H.shut' (k := 0) rfl (Chk.nil (E := intE) (sz := 1) (G := G0)) aN aN
  have hY : Sp.FileStore list bytes = none := by simp [Sp.FileStore, hc2]
  exact H.retO (k := 0) rfl (by rw [hY]; exact ⟨_, _, rfl, AccOf.mk aN (Chk.nil (E := heldE) (sz := 3) (G := G505)), hsr505⟩) (acc_nd _ _ _ _ _)
 intro hc2'
 try simp only [nrm] at hc2'
 refine gR Z (mV Z (gR Z (o_call call63 Z Z (FileValid_c _ _ H.sub _ _ hbytes ) ?_)))
 rintro _ w5 ⟨rfl, ew5⟩; have H := H.step ew5; refine ⟨_, rfl, ?_⟩
 refine gR Z (o_not Z Z (o_pick_f Z Z Z (q3 ?_)))
 refine W_cond Z ?_ ?_
 ·intro hc6
  try simp only [nrm] at hc6
  refine q2 (o_buildSlice H underlying23 sizeOf105 (fun w => ⟨_, zeroValue105 w, Z⟩) Z Z Z Z Z Z Z ?_); intro b7 w7 hb7 H
  have H := H.blkAcc 3 (k := 0) (n := 0) rfl rfl (by decide)
  refine o_buildSlice H underlying33 sizeOf3 (fun w => ⟨_, zeroValue3 w, Z⟩) Z Z Z Z Z Z Z ?_; intro b8 w8 hb8 H
  have H := H.blkAcc 1 (k := 0) (n := 0) rfl rfl (by decide)
  refine aG Z (aG Z (aG Z (q3 (W_ret (N_K_ret (ret_gen (rs := [.tmp 4, .tmp 5, .tmp 6]) (vs := [_, _, _]) results115 ⟨Z, Z, Z, trivial⟩ ?_))))))
  obtain ⟨G509, H, hsg509, hsr509⟩ := H.shut' (k := 0) rfl (Chk.nil (E := intE) (sz := 1) (G := G0)) aN aN
  have hY : Sp.FileStore list bytes = none := by simp [Sp.FileStore, hc6]
  exact H.retO (k := 0) rfl (by rw [hY]; exact ⟨_, _, rfl, AccOf.mk aN (Chk.nil (E := heldE) (sz := 3) (G := G509)), hsr509⟩) (acc_nd _ _ _ _ _)
 intro hc6'
 try simp only [nrm] at hc6'
 refine W_skip (N_K (q2 (mV Z (o_call call102 Z Z (l3Copy_c _ _ H.sub _ _ hlist ) ?_))))
 rintro _ w9 ⟨G9, v9, _, g9, rfl, ⟨cs9, rfl, hchk9⟩, hp9, hq9, hs9⟩
 have H := H.growO g9 hp9 hq9 hs9; obtain ⟨av9, cv9, rfl⟩ := H.accShape (k := 0) rfl
 have hbytes := hbytes.up g9.le
 refine ⟨_, Z, ?_⟩
 refine aG Z (q1 (o_buildSlice H underlying33 sizeOf3 (fun w => ⟨_, zeroValue3 w, Z⟩) Z Z Z Z Z Z Z ?_)); intro b10 w10 hb10 H
 have H := H.blkAcc 1 (k := 0) (n := 0) rfl rfl (by decide)
 refine aG Z (q1 (mV Z (o_call call155 Z Z (l4Cut_c _ _ H.sub _ _ hbytes oM) ?_)))
 rintro _ w11 ⟨G11, u11_0, g11, rfl, hr11_0⟩
 have H := H.grow g11
 have hchk9 := hchk9.up g11.le
 obtain ⟨a11_0, k11_0, rfl⟩ := hr11_0.shape; have hx_hr11_0 : _ ≤ 1099511627776 := hr11_0.lim
 refine ⟨_, Z, ?_⟩
 refine aG Z (q3 (W_seq (q2 (aG Z (q3 (W_block ?_))))))
 refine W_lp (hf := (Sub.cons (t := 9) Z Sub.nil)) (J := fun M w m => ∃ (v : Value) (n : Nat) (cs : List Value) (xs : List (BHeld)) (v1 : Value) (n1 : Nat) (cs1 : List Value) (xs1 : List (Int)) (k : Nat) (G : PH), M = [(10, .int .i64 (k : Int)), (7, v), (8, v1)] ∧ PLe G11 G ∧ Hp w0 G0 [] w G [acc 3 1 v1 n1 cs1, acc 105 3 v n cs] ∧ (Chk heldE 3 G cs xs ∧ n = xs.length ∧ Chk intE 1 G cs1 xs1 ∧ n1 = xs1.length ∧ k ≤ (Sp.l4Cut bytes).length ∧ xs.length ≤ 1000 ∧ xs1.length ≤ k ∧ Sp.foldB Sp.put1 ((Sp.l4Cut bytes).take k) (some (list, [])) = some (xs, xs1)) ∧ m = ((Sp.l4Cut bytes).length - k)) (h0 := ⟨_, _, _, list, _, _, _, [], 0, _, Z, PLe.refl _, H, ?inv, Z⟩) (round := ?round)
 case inv => exact ⟨hchk9, (by first | rfl | simp | (simp; omega) | omega), (Chk.nil (E := intE) (sz := 1) (G := G11)),  by first | rfl | simp | (simp; omega) | omega, (by exact ⟨by omega, by have := Sp.valid_len hc2'; omega, by simp, by simp [Sp.foldB]⟩)⟩
 case round =>
  rintro _ w12 _ ⟨v, n, cs, xs, v1, n1, cs1, xs1, k, G12, rfl, hle12, H, hinv12, rfl⟩
  have hr11_0 := hr11_0.up hle12
  obtain ⟨hchk12_0, hn12_0, hinv12⟩ := hinv12
  obtain ⟨av12_0, cv12_0, rfl⟩ := H.accShape (k := 1) rfl
  obtain ⟨hchk12_1, hn12_1, hinv12⟩ := hinv12
  obtain ⟨av12_1, cv12_1, rfl⟩ := H.accShape (k := 0) rfl
  obtain ⟨hk, hxl, hil, hf⟩ := hinv12
  refine W_seq (q2 (mV Z (mV Z (o_len_slice underlying186 Z Z (o_lss Z Z Z (q3 ?_))))))
  refine W_cond Z ?_ ?_
  ·intro hc13
   try simp only [nrm] at hc13
   refine W_skip (N_K (W_seq (W_block (q2 (mV Z (mV Z (mV Z (o_index_P k hr11_0 underlying186 sizeOf33 Z Z Z Z aN ?_)))))))); intro b14 o14 z14 q14 hz14 hE14 hrow14
   obtain ⟨a14, m14, c14, rfl, hr14⟩ := hE14; have hn_hr14 := hr14.len; have hx_hr14 : _ ≤ 1099511627776 := hr14.lim
   refine o_load_P H isAgg33 Z Z (hrow14 0 _ Z) ?_
   obtain ⟨G16, H, hsg16, hsr16⟩ := H.shut' (k := 1) rfl hchk12_0 aN aN
   have hchk12_1 := hchk12_1.up hsg16
   have hr14 := hr14.up hsg16
   have hle12 := hle12.trans hsg16
   refine o_call call156 Z Z (StorePut_c _ _ H.sub _ _ hsr16 _ _ hr14 oM) ?_
   rintro _ w15 ⟨G15, _, _, g15, rfl, ⟨u15_0, rfl, ⟨cs15, rfl, hchk15⟩, ⟨hfa15, hfb15⟩⟩, hp15, hq15, hs15⟩
   have H := H.growO g15 hp15 hq15 hs15; obtain ⟨av15, cv15, rfl⟩ := H.accShape (k := 0) rfl
   have hchk12_1 := hchk12_1.up g15.le
   have hle12 := hle12.trans g15.le
   refine ⟨_, Z, ?_⟩
   refine mV Z (o_extract Z Z Z (o_extract Z Z Z (o_extract Z Z Z (aG Z (aG Z (aG Z (q3 (W_seq (q2 (mV Z (o_not Z Z (q3 ?_))))))))))))
   refine W_cond Z ?_ ?_
   ·intro hc17
    try simp only [nrm] at hc17
    refine q2 (o_buildSlice H underlying23 sizeOf105 (fun w => ⟨_, zeroValue105 w, Z⟩) Z Z Z Z Z Z Z ?_); intro b18 w18 hb18 H
    have H := H.blkAcc 3 (k := 0) (n := 0) rfl rfl (by decide)
    refine o_buildSlice H underlying33 sizeOf3 (fun w => ⟨_, zeroValue3 w, Z⟩) Z Z Z Z Z Z Z ?_; intro b19 w19 hb19 H
    have H := H.blkAcc 1 (k := 0) (n := 0) rfl rfl (by decide)
    refine aG Z (aG Z (aG Z (q3 (W_ret (N_K_ret (N_B_ret (N_K_ret (N_LP_ret (N_B_ret (N_K_ret (ret_gen (rs := [.tmp 4, .tmp 5, .tmp 6]) (vs := [_, _, _]) results115 ⟨Z, Z, Z, trivial⟩ ?_)))))))))))
    obtain ⟨G520, H, hsg520, hsr520⟩ := H.shut' (k := 0) rfl (Chk.nil (E := intE) (sz := 1) (G := G15)) aN aN
    have hY : Sp.FileStore list bytes = none := by (have hno : Sp.StorePut xs z14 = none := by simpa using hc17); simp only [Sp.FileStore, hc2', hc6', Bool.and_self, if_true]; exact Sp.foldB_stop hf hz14 (by simp [Sp.put1, hno])
    exact H.retO (k := 0) rfl (by rw [hY]; exact ⟨_, _, rfl, AccOf.mk aN (Chk.nil (E := heldE) (sz := 3) (G := G520)), hsr520⟩) (acc_nd _ _ _ _ _)
   intro hc17'
   try simp only [nrm] at hc17'
   obtain ⟨p, hsp⟩ := Option.isSome_iff_exists.1 hc17'
   rw [hsp] at H hchk15 hfa15 hfb15 ⊢
   dsimp only [Option.map, Option.getD] at H hchk15 hfa15 hfb15
   refine W_skip (N_K (q2 (mV Z (aG Z (q3 (W_region (mV Z (mV Z (o_buildSlice H underlying33 sizeOf3 (fun w => ⟨_, zeroValue3 w, Z⟩) Z Z Z Z Z Z Z ?_))))))))); intro b20 w20 hb20 H
   refine o_append1 1 H (sz := 1) (bytes := 8) underlying33 typeInfo3 ⟨_, Z, Z⟩ Z Z Z Z Z Z Z Z Z Z oM Z ?_; intro v21 w21 H
   have hchk21 := hchk12_1.snoc (show intE _ p.2 _ from ⟨rfl, oO⟩) rfl
   obtain ⟨av21, cv21, rfl⟩ := H.accShape (k := 1) rfl
   refine aG Z (R_nil (N_B (N_K (W_region (mV Z (o_add Z Z Z oO (aG Z (R_nil ?_))))))))
   have H := H.toFront (k := 1) rfl
   refine N_lp (hJ := ⟨_, _, _, p.1, _, _, _, (xs1 ++ [p.2]), k + 1, _, Z, hle12, H, ?inv, Z⟩) (hm := ?hm)
   case hm => omega
   case inv => exact ⟨hchk15, aN, hchk21, aN, (by exact ⟨by omega, by have := Sp.put_len hsp; omega, by simp; omega, Sp.foldB_succ hf hz14 (by simp [Sp.put1, hsp])⟩)⟩
  intro hc13'
  try simp only [nrm] at hc13'
  refine W_exit (N_K_exit (N_LP_exit (N_B_same (N_K (q2 (mV Z (mV Z (aG Z (aG Z (aG Z (q3 (W_ret (ret_gen (rs := [.tmp 4, .tmp 5, .tmp 6]) (vs := [_, _, _]) results115 ⟨Z, Z, Z, trivial⟩ ?_)))))))))))))
  obtain ⟨G523, H, hsg523, hsr523⟩ := H.shut' (k := 0) rfl hchk12_1 aN aN
  have hchk12_0 := hchk12_0.up hsg523
  have hY : Sp.FileStore list bytes = some (xs, xs1) := by simp only [Sp.FileStore, hc2', hc6', Bool.and_self, if_true]; exact Sp.foldB_all hf oM
  exact H.retO (k := 0) rfl (by rw [hY]; exact ⟨_, _, rfl, AccOf.mk aN hchk12_0, hsr523⟩) (acc_nd _ _ _ _ _)
end Go.Proofs.Tst

namespace Go.Proofs.Tst
open Go Fw Tryz
theorem l5Put_c (w0 : World) (G0 : PH) (hG : PSub G0 w0) (vlist : Value) (list : List (BItem)) (hlist : RdItems G0 vlist list) (cx : List Value) (x : BItem) (hx : itemE G0 x cx) (hS : list.length ≤ 1000000) :
  Calls Tryz.prog 157 #[vlist, .agg cx.toArray] w0 (RetO w0 G0 (AccOf itemE 3 37 (Sp.l5Put list x))) := by
 obtain ⟨alist, klist, rfl⟩ := hlist.shape
 have hlimlist : list.length ≤ 1099511627776 := hlist.lim
 obtain ⟨a1, m1, c1, rfl, hi1, hr1⟩ := hx; have hy_hi1 : _ ≤ 16777216 := hi1; have hn_hr1 := hr1.len; have hx_hr1 : _ ≤ 1099511627776 := hr1.lim
 have H := Hp.init hG
 refine calls_of_W (l := [.slice alist list.length klist, _]) func157 Z ntmps157 Z (q2 (o_box H Z Z Z ?_)); intro b2 w2 hb2 H
 refine aG Z (q1 (o_buildSlice H underlying24 sizeOf37 (fun w => ⟨_, zeroValue37 w, Z⟩) Z Z Z Z Z Z Z ?_)); intro b3 w3 hb3 H
 have H := H.blkAcc 3 (k := 0) (n := 0) rfl rfl (by decide)
 refine aG Z (q1 (aG Z (q3 (W_seq (q2 (aG Z (q3 (W_block ?_))))))))
 obtain ⟨ln4, hln4, H⟩ := H.name (k := 1) rfl
 refine W_lp (hf := (Sub.cons (t := 0) Z (Sub.cons (t := 3) Z (Sub.cons (t := 4) Z Sub.nil)))) (J := fun M w m => ∃ (v : Value) (n : Nat) (cs : List Value) (xs : List (BItem)) (d : Bool) (k : Nat) (G : PH), M = [(6, .bool d), (7, .int .i64 (k : Int)), (5, v)] ∧ PLe G0 G ∧ Hp w0 G0 [] w G [acc 37 3 v n cs, blk b2 (cl ln4 37)] ∧ (Chk itemE 3 G cs xs ∧ n = xs.length ∧ k ≤ list.length ∧ xs.length ≤ k + 1 ∧ (d = false → xs.length ≤ k) ∧ xs ++ Sp.putGo x d (list.drop k) = Sp.l5Put list x) ∧ m = (list.length - k)) (h0 := ⟨_, _, _, [], false, 0, _, Z, PLe.refl _, H, ?inv, Z⟩) (round := ?round)
 case inv => exact ⟨(Chk.nil (E := itemE) (sz := 3) (G := G0)),  by first | rfl | simp | (simp; omega) | omega, (by simp [Sp.l5Put])⟩
 case round =>
  rintro _ w5 _ ⟨v, n, cs, xs, d, k, G5, rfl, hle5, H, hinv5, rfl⟩
  subst hln4
  have hlist := hlist.up hle5
  have hr1 := hr1.up hle5
  obtain ⟨hchk5_0, hn5_0, hinv5⟩ := hinv5
  obtain ⟨av5_0, cv5_0, rfl⟩ := H.accShape (k := 0) rfl
  obtain ⟨hk, hxl, hxd, hp⟩ := hinv5
  refine W_seq (q2 (mV Z (mV Z (o_len_slice underlying24 Z Z (o_lss Z Z Z (q3 ?_))))))
  refine W_cond Z ?_ ?_
  ·intro hc6
   try simp only [nrm] at hc6
   refine W_skip (N_K (W_seq (W_block (W_seq (W_seq (W_drawK [1] 12 H kR Z ?_)))))); intro w7 H; have hd7 := PLe.refl G5
   refine vM 0 Z Z (RD_t 1 Z kR Z (fun _ hK => v_not Z) (vM 2 Z Z ?_))
   refine RD_case (t := 17) Z ?_ ?_
   ·intro hc8
    try simp only [nrm] at hc8
    refine RD_tg 3 Z kR Z (yl Z Z) (fun _ hK => v_move Z) (RD_tg 4 Z kR Z (yl Z Z) (fun _ hK => v_move Z) ?_)
    have hl9 := hlist.len
    obtain ⟨b9, o9, z9, q9, ha9, hz9, hq9, hE9, hrow9, _⟩ := hlist.at (i := k) oM
    clear hq9
    obtain ⟨a9, m9, c9, rfl, hi9, hr9⟩ := hE9; have hy_hi9 : _ ≤ 16777216 := hi9; have hn_hr9 := hr9.len; have hx_hr9 : _ ≤ 1099511627776 := hr9.lim
    refine RD_tg 5 Z kR Z (yl Z Z) (fun _ hK => v_index_P (i := k) ha9 underlying24 sizeOf37 Z Z Z oM) (RD_tg 6 Z kR Z (yl Z Z) (fun _ hK => v_fieldAddr 0 runUnderlying37 Z sizeOf9 Z Z) (RD_tg 7 Z kR Z (yl Z Z) (fun _ hK => v_load_P hK isAgg9 Z (hrow9 0 _ Z)) (RD_tg 8 Z kR Z (yl Z Z) (fun _ hK => v_fieldAddr 0 runUnderlying37 Z sizeOf9 Z Z) (RD_tg 9 Z kR Z (yl Z Z) (fun _ hK => v_load_B 0 hK isAgg9 Z Z Z) (RD_tg 10 Z kR Z (yl Z Z) (fun _ hK => v_sgeq Z Z) (RD_t 11 Z kR Z (fun _ hK => v_pick_t Z Z) (RD_done kR (N_K ?_))))))))
    refine W_cond Z ?_ ?_
    ·intro hc10
     try simp only [nrm] at hc10
     refine q2 (mV Z (o_loadagg_B 1 H isAgg37 sizeOf37 Z Z Z Z Z (o_call call104 Z Z (l5Copy_c _ _ H.sub _ x ⟨_, _, _, Z, hi1, hr1⟩ ) ?_)))
     rintro _ w11 ⟨G11, _, g11, rfl, u11_0, rfl, hr11_0⟩
     have H := H.grow g11
     have hlist := hlist.up g11.le
     have hchk5_0 := hchk5_0.up g11.le
     have hle5 := hle5.trans g11.le
     obtain ⟨a12, m12, c12, rfl, hi12, hr12⟩ := hr11_0; have hy_hi12 : _ ≤ 16777216 := hi12; have hn_hr12 := hr12.len; have hx_hr12 : _ ≤ 1099511627776 := hr12.lim
     refine ⟨_, Z, ?_⟩
     refine o_buildSlice H underlying24 sizeOf37 (fun w => ⟨_, zeroValue37 w, Z⟩) Z Z Z Z Z Z Z ?_; intro b13 w13 hb13 H
     refine o_append1 0 H (sz := 3) (bytes := 48) underlying24 typeInfo37 ⟨_, Z, Z⟩ Z Z Z Z Z Z Z Z Z Z oM Z ?_; intro v14 w14 H
     have hchk14 := hchk5_0.snoc (show itemE _ x _ from ⟨_, _, _, rfl, hi12, hr12⟩) rfl
     obtain ⟨av14, cv14, rfl⟩ := H.accShape (k := 0) rfl
     refine aG Z (q3 (W_region (aG Z (q3 (W_seq (W_drawK [1] 8 H kR Z ?_)))))); intro w15 H; have hd15 := PLe.refl G11
     refine vM 0 Z Z (vM 1 Z Z ?_)
     have hl16 := hlist.len
     obtain ⟨b16, o16, z16, q16, ha16, hz16, hq16, hE16, hrow16, _⟩ := hlist.at (i := k) oM
     clear hq16
     obtain ⟨a16, m16, c16, rfl, hi16, hr16⟩ := hE16; have hy_hi16 : _ ≤ 16777216 := hi16; have hn_hr16 := hr16.len; have hx_hr16 : _ ≤ 1099511627776 := hr16.lim
     have hzz16 : z9 = z16 := Option.some.inj (hz9.symm.trans hz16)
     subst hzz16
     refine RD_t 2 Z kR Z (fun _ hK => v_index_P (i := k) ha16 underlying24 sizeOf37 Z Z Z oM) (RD_t 3 Z kR Z (fun _ hK => v_fieldAddr 0 runUnderlying37 Z sizeOf9 Z Z) (RD_t 4 Z kR Z (fun _ hK => v_load_P hK isAgg9 Z (hrow16 0 _ Z)) (RD_t 5 Z kR Z (fun _ hK => v_fieldAddr 0 runUnderlying37 Z sizeOf9 Z Z) (RD_t 6 Z kR Z (fun _ hK => v_load_B 0 hK isAgg9 Z Z Z) (RD_t 7 Z kR Z (fun _ hK => v_sneq Z Z) (RD_done kR (N_K ?_)))))))
     refine W_cond Z ?_ ?_
     ·intro hc17
      try simp only [nrm] at hc17
      refine W_region (mV Z (mV Z (mV Z (o_index_P k hlist underlying24 sizeOf37 Z Z Z Z aN ?_)))); intro b18 o18 z18 q18 hz18 hE18 hrow18
      obtain ⟨a18, m18, c18, rfl, hi18, hr18⟩ := hE18; have hy_hi18 : _ ≤ 16777216 := hi18; have hn_hr18 := hr18.len; have hx_hr18 : _ ≤ 1099511627776 := hr18.lim
      have hzz18 : z9 = z18 := Option.some.inj (hz9.symm.trans hz18)
      subst hzz18
      refine o_loadagg_P H isAgg37 sizeOf37 Z Z hrow18 Z (o_call call104 Z Z (l5Copy_c _ _ H.sub _ _ ⟨_, _, _, Z, hi18, hr18⟩ ) ?_)
      rintro _ w19 ⟨G19, _, g19, rfl, u19_0, rfl, hr19_0⟩
      have H := H.grow g19
      have hchk14 := hchk14.up g19.le
      have hle5 := hle5.trans g19.le
      obtain ⟨a20, m20, c20, rfl, hi20, hr20⟩ := hr19_0; have hy_hi20 : _ ≤ 16777216 := hi20; have hn_hr20 := hr20.len; have hx_hr20 : _ ≤ 1099511627776 := hr20.lim
      refine ⟨_, Z, ?_⟩
      refine o_buildSlice H underlying24 sizeOf37 (fun w => ⟨_, zeroValue37 w, Z⟩) Z Z Z Z Z Z Z ?_; intro b21 w21 hb21 H
      refine o_append1 0 H (sz := 3) (bytes := 48) underlying24 typeInfo37 ⟨_, Z, Z⟩ Z Z Z Z Z Z Z Z Z Z oM Z ?_; intro v22 w22 H
      have hchk22 := hchk14.snoc (show itemE _ z9 _ from ⟨_, _, _, rfl, hi20, hr20⟩) rfl
      obtain ⟨av22, cv22, rfl⟩ := H.accShape (k := 0) rfl
      refine aG Z (R_nil (N_B (N_K (W_region (mV Z (o_add Z Z Z oO (aG Z (R_nil ?_))))))))
      refine N_lp (hJ := ⟨_, _, _, ((xs ++ [x]) ++ [z9]), true, k + 1, _, Z, hle5, H, ?inv, Z⟩) (hm := ?hm)
      case hm => omega
      case inv => exact ⟨hchk22, aN, (by exact ⟨by omega, by have := hxd (by assumption); simp; omega, by simp, by rw [Sp.drop_at hz9] at hp; rw [← hp]; (first | rw [Sp.putA (by assumption) (by assumption) (by assumption)] | rw [Sp.putB (by assumption) (by assumption) (by assumption)] | rw [Sp.putC (by assumption) (by assumption)] | rw [Sp.putC' (by assumption) (by assumption)] | rw [Sp.putD (by assumption) (by assumption)] | rw [Sp.putD' (by assumption) (by assumption)]) <;> simp⟩)⟩
     intro hc17'
     try simp only [nrm] at hc17'
     refine W_skip (N_B (N_K (W_region (mV Z (o_add Z Z Z oO (aG Z (R_nil ?_)))))))
     refine N_lp (hJ := ⟨_, _, _, (xs ++ [x]), true, k + 1, _, Z, hle5, H, ?inv, Z⟩) (hm := ?hm)
     case hm => omega
     case inv => exact ⟨hchk14, aN, (by exact ⟨by omega, by have := hxd (by assumption); simp; omega, by simp, by rw [Sp.drop_at hz9] at hp; rw [← hp]; (first | rw [Sp.putA (by assumption) (by assumption) (by assumption)] | rw [Sp.putB (by assumption) (by assumption) (by assumption)] | rw [Sp.putC (by assumption) (by assumption)] | rw [Sp.putC' (by assumption) (by assumption)] | rw [Sp.putD (by assumption) (by assumption)] | rw [Sp.putD' (by assumption) (by assumption)]) <;> simp⟩)⟩
    intro hc10'
    try simp only [nrm] at hc10'
    refine W_skip (N_K (W_seq (W_drawK [1] 8 H kR Z ?_))); intro w25 H; have hd25 := PLe.refl G5
    refine vM 0 Z Z (vM 1 Z Z ?_)
    have hl26 := hlist.len
    obtain ⟨b26, o26, z26, q26, ha26, hz26, hq26, hE26, hrow26, _⟩ := hlist.at (i := k) oM
    clear hq26
    obtain ⟨a26, m26, c26, rfl, hi26, hr26⟩ := hE26; have hy_hi26 : _ ≤ 16777216 := hi26; have hn_hr26 := hr26.len; have hx_hr26 : _ ≤ 1099511627776 := hr26.lim
    have hzz26 : z9 = z26 := Option.some.inj (hz9.symm.trans hz26)
    subst hzz26
    refine RD_t 2 Z kR Z (fun _ hK => v_index_P (i := k) ha26 underlying24 sizeOf37 Z Z Z oM) (RD_t 3 Z kR Z (fun _ hK => v_fieldAddr 0 runUnderlying37 Z sizeOf9 Z Z) (RD_t 4 Z kR Z (fun _ hK => v_load_P hK isAgg9 Z (hrow26 0 _ Z)) (RD_t 5 Z kR Z (fun _ hK => v_fieldAddr 0 runUnderlying37 Z sizeOf9 Z Z) (RD_t 6 Z kR Z (fun _ hK => v_load_B 0 hK isAgg9 Z Z Z) (RD_t 7 Z kR Z (fun _ hK => v_sneq Z Z) (RD_done kR (N_K ?_)))))))
    refine W_cond Z ?_ ?_
    ·intro hc27
     try simp only [nrm] at hc27
     refine W_region (mV Z (mV Z (mV Z (o_index_P k hlist underlying24 sizeOf37 Z Z Z Z aN ?_)))); intro b28 o28 z28 q28 hz28 hE28 hrow28
     obtain ⟨a28, m28, c28, rfl, hi28, hr28⟩ := hE28; have hy_hi28 : _ ≤ 16777216 := hi28; have hn_hr28 := hr28.len; have hx_hr28 : _ ≤ 1099511627776 := hr28.lim
     have hzz28 : z9 = z28 := Option.some.inj (hz9.symm.trans hz28)
     subst hzz28
     refine o_loadagg_P H isAgg37 sizeOf37 Z Z hrow28 Z (o_call call104 Z Z (l5Copy_c _ _ H.sub _ _ ⟨_, _, _, Z, hi28, hr28⟩ ) ?_)
     rintro _ w29 ⟨G29, _, g29, rfl, u29_0, rfl, hr29_0⟩
     have H := H.grow g29
     have hchk5_0 := hchk5_0.up g29.le
     have hle5 := hle5.trans g29.le
     obtain ⟨a30, m30, c30, rfl, hi30, hr30⟩ := hr29_0; have hy_hi30 : _ ≤ 16777216 := hi30; have hn_hr30 := hr30.len; have hx_hr30 : _ ≤ 1099511627776 := hr30.lim
     refine ⟨_, Z, ?_⟩
     refine o_buildSlice H underlying24 sizeOf37 (fun w => ⟨_, zeroValue37 w, Z⟩) Z Z Z Z Z Z Z ?_; intro b31 w31 hb31 H
     refine o_append1 0 H (sz := 3) (bytes := 48) underlying24 typeInfo37 ⟨_, Z, Z⟩ Z Z Z Z Z Z Z Z Z Z oM Z ?_; intro v32 w32 H
     have hchk32 := hchk5_0.snoc (show itemE _ z9 _ from ⟨_, _, _, rfl, hi30, hr30⟩) rfl
     obtain ⟨av32, cv32, rfl⟩ := H.accShape (k := 0) rfl
     refine aG Z (R_nil (N_B (N_K (W_region (mV Z (o_add Z Z Z oO (aG Z (R_nil ?_))))))))
     refine N_lp (hJ := ⟨_, _, _, (xs ++ [z9]), d, k + 1, _, Z, hle5, H, ?inv, Z⟩) (hm := ?hm)
     case hm => omega
     case inv => exact ⟨hchk32, aN, (by exact ⟨by omega, by first | omega | (simp; omega), fun h => by have := hxd h; first | omega | (simp; omega), by rw [Sp.drop_at hz9] at hp; rw [← hp]; (first | rw [Sp.putA (by assumption) (by assumption) (by assumption)] | rw [Sp.putB (by assumption) (by assumption) (by assumption)] | rw [Sp.putC (by assumption) (by assumption)] | rw [Sp.putC' (by assumption) (by assumption)] | rw [Sp.putD (by assumption) (by assumption)] | rw [Sp.putD' (by assumption) (by assumption)]) <;> simp⟩)⟩
    intro hc27'
    try simp only [nrm] at hc27'
    refine W_skip (N_B (N_K (W_region (mV Z (o_add Z Z Z oO (aG Z (R_nil ?_)))))))
    refine N_lp (hJ := ⟨_, _, _, xs, d, k + 1, _, Z, hle5, H, ?inv, Z⟩) (hm := ?hm)
    case hm => omega
    case inv => exact ⟨hchk5_0, aN, (by exact ⟨by omega, by first | omega | (simp; omega), fun h => by have := hxd h; first | omega | (simp; omega), by rw [Sp.drop_at hz9] at hp; rw [← hp]; (first | rw [Sp.putA (by assumption) (by assumption) (by assumption)] | rw [Sp.putB (by assumption) (by assumption) (by assumption)] | rw [Sp.putC (by assumption) (by assumption)] | rw [Sp.putC' (by assumption) (by assumption)] | rw [Sp.putD (by assumption) (by assumption)] | rw [Sp.putD' (by assumption) (by assumption)]) <;> simp⟩)⟩
   intro hc8'
   try simp only [nrm] at hc8'
   refine RD_pass 3 Z kR kR kR Z (yl_ne Z Z Z) (RD_pass 4 Z kR kR kR Z (yl_ne Z Z Z) (RD_pass 5 Z kR kR kR Z (yl_ne Z Z Z) (RD_pass 6 Z kR kR kR Z (yl_ne Z Z Z) (RD_pass 7 Z kR kR kR Z (yl_ne Z Z Z) (RD_pass 8 Z kR kR kR Z (yl_ne Z Z Z) (RD_pass 9 Z kR kR kR Z (yl_ne Z Z Z) (RD_pass 10 Z kR kR kR Z (yl_ne Z Z Z) (RD_t 11 Z kR Z (fun _ hK => v_pick_f Z Z) (RD_done kR (N_K (W_false Z (W_skip (N_K (W_seq (W_drawK [1] 8 H kR Z ?_))))))))))))))); intro w35 H; have hd35 := PLe.refl G5
   refine vM 0 Z Z (vM 1 Z Z ?_)
   have hl36 := hlist.len
   obtain ⟨b36, o36, z36, q36, ha36, hz36, hq36, hE36, hrow36, _⟩ := hlist.at (i := k) oM
   clear hq36
   obtain ⟨a36, m36, c36, rfl, hi36, hr36⟩ := hE36; have hy_hi36 : _ ≤ 16777216 := hi36; have hn_hr36 := hr36.len; have hx_hr36 : _ ≤ 1099511627776 := hr36.lim
   refine RD_t 2 Z kR Z (fun _ hK => v_index_P (i := k) ha36 underlying24 sizeOf37 Z Z Z oM) (RD_t 3 Z kR Z (fun _ hK => v_fieldAddr 0 runUnderlying37 Z sizeOf9 Z Z) (RD_t 4 Z kR Z (fun _ hK => v_load_P hK isAgg9 Z (hrow36 0 _ Z)) (RD_t 5 Z kR Z (fun _ hK => v_fieldAddr 0 runUnderlying37 Z sizeOf9 Z Z) (RD_t 6 Z kR Z (fun _ hK => v_load_B 0 hK isAgg9 Z Z Z) (RD_t 7 Z kR Z (fun _ hK => v_sneq Z Z) (RD_done kR (N_K ?_)))))))
   refine W_cond Z ?_ ?_
   ·intro hc37
    try simp only [nrm] at hc37
    refine W_region (mV Z (mV Z (mV Z (o_index_P k hlist underlying24 sizeOf37 Z Z Z Z aN ?_)))); intro b38 o38 z38 q38 hz38 hE38 hrow38
    obtain ⟨a38, m38, c38, rfl, hi38, hr38⟩ := hE38; have hy_hi38 : _ ≤ 16777216 := hi38; have hn_hr38 := hr38.len; have hx_hr38 : _ ≤ 1099511627776 := hr38.lim
    have hzz38 : z36 = z38 := Option.some.inj (hz36.symm.trans hz38)
    subst hzz38
    refine o_loadagg_P H isAgg37 sizeOf37 Z Z hrow38 Z (o_call call104 Z Z (l5Copy_c _ _ H.sub _ _ ⟨_, _, _, Z, hi38, hr38⟩ ) ?_)
    rintro _ w39 ⟨G39, _, g39, rfl, u39_0, rfl, hr39_0⟩
    have H := H.grow g39
    have hchk5_0 := hchk5_0.up g39.le
    have hle5 := hle5.trans g39.le
    obtain ⟨a40, m40, c40, rfl, hi40, hr40⟩ := hr39_0; have hy_hi40 : _ ≤ 16777216 := hi40; have hn_hr40 := hr40.len; have hx_hr40 : _ ≤ 1099511627776 := hr40.lim
    refine ⟨_, Z, ?_⟩
    refine o_buildSlice H underlying24 sizeOf37 (fun w => ⟨_, zeroValue37 w, Z⟩) Z Z Z Z Z Z Z ?_; intro b41 w41 hb41 H
    refine o_append1 0 H (sz := 3) (bytes := 48) underlying24 typeInfo37 ⟨_, Z, Z⟩ Z Z Z Z Z Z Z Z Z Z oM Z ?_; intro v42 w42 H
    have hchk42 := hchk5_0.snoc (show itemE _ z36 _ from ⟨_, _, _, rfl, hi40, hr40⟩) rfl
    obtain ⟨av42, cv42, rfl⟩ := H.accShape (k := 0) rfl
    refine aG Z (R_nil (N_B (N_K (W_region (mV Z (o_add Z Z Z oO (aG Z (R_nil ?_))))))))
    refine N_lp (hJ := ⟨_, _, _, (xs ++ [z36]), d, k + 1, _, Z, hle5, H, ?inv, Z⟩) (hm := ?hm)
    case hm => omega
    case inv => exact ⟨hchk42, aN, (by exact ⟨by omega, by first | omega | (simp; omega), fun h => by have := hxd h; first | omega | (simp; omega), by rw [Sp.drop_at hz36] at hp; rw [← hp]; (first | rw [Sp.putA (by assumption) (by assumption) (by assumption)] | rw [Sp.putB (by assumption) (by assumption) (by assumption)] | rw [Sp.putC (by assumption) (by assumption)] | rw [Sp.putC' (by assumption) (by assumption)] | rw [Sp.putD (by assumption) (by assumption)] | rw [Sp.putD' (by assumption) (by assumption)]) <;> simp⟩)⟩
   intro hc37'
   try simp only [nrm] at hc37'
   refine W_skip (N_B (N_K (W_region (mV Z (o_add Z Z Z oO (aG Z (R_nil ?_)))))))
   refine N_lp (hJ := ⟨_, _, _, xs, d, k + 1, _, Z, hle5, H, ?inv, Z⟩) (hm := ?hm)
   case hm => omega
   case inv => exact ⟨hchk5_0, aN, (by exact ⟨by omega, by first | omega | (simp; omega), fun h => by have := hxd h; first | omega | (simp; omega), by rw [Sp.drop_at hz36] at hp; rw [← hp]; (first | rw [Sp.putA (by assumption) (by assumption) (by assumption)] | rw [Sp.putB (by assumption) (by assumption) (by assumption)] | rw [Sp.putC (by assumption) (by assumption)] | rw [Sp.putC' (by assumption) (by assumption)] | rw [Sp.putD (by assumption) (by assumption)] | rw [Sp.putD' (by assumption) (by assumption)]) <;> simp⟩)⟩
  intro hc6'
  try simp only [nrm] at hc6'
  refine W_exit (N_K_exit (N_LP_exit (N_B_same (N_K (W_seq (q2 (mV Z (o_not Z Z (q3 ?_)))))))))
  refine W_cond Z ?_ ?_
  ·intro hc45
   try simp only [nrm] at hc45
   refine W_region (mV Z (o_loadagg_B 1 H isAgg37 sizeOf37 Z Z Z Z Z (o_call call104 Z Z (l5Copy_c _ _ H.sub _ x ⟨_, _, _, Z, hi1, hr1⟩ ) ?_)))
   rintro _ w46 ⟨G46, _, g46, rfl, u46_0, rfl, hr46_0⟩
   have H := H.grow g46
   have hchk5_0 := hchk5_0.up g46.le
   obtain ⟨a47, m47, c47, rfl, hi47, hr47⟩ := hr46_0; have hy_hi47 : _ ≤ 16777216 := hi47; have hn_hr47 := hr47.len; have hx_hr47 : _ ≤ 1099511627776 := hr47.lim
   refine ⟨_, Z, ?_⟩
   refine o_buildSlice H underlying24 sizeOf37 (fun w => ⟨_, zeroValue37 w, Z⟩) Z Z Z Z Z Z Z ?_; intro b48 w48 hb48 H
   refine o_append1 0 H (sz := 3) (bytes := 48) underlying24 typeInfo37 ⟨_, Z, Z⟩ Z Z Z Z Z Z Z Z Z Z oM Z ?_; intro v49 w49 H
   have hchk49 := hchk5_0.snoc (show itemE _ x _ from ⟨_, _, _, rfl, hi47, hr47⟩) rfl
   obtain ⟨av49, cv49, rfl⟩ := H.accShape (k := 0) rfl
   refine aG Z (q1 (mV Z (aG Z (q3 (W_ret (rt1 results157 Z ?_))))))
   rw [List.drop_of_length_le oM] at hp
   exact H.retO (k := 0) rfl (by rw [← hp, Sp.putGo, if_neg (by simp [*])]; exact AccOf.mk aN hchk49) (acc_nd _ _ _ _ _)
  intro hc45'
  try simp only [nrm] at hc45'
  refine W_skip (N_K (q2 (mV Z (aG Z (q3 (W_ret (rt1 results157 Z ?_)))))))
  rw [List.drop_of_length_le oM] at hp
  exact H.retO (k := 0) rfl (by rw [← hp, Sp.putGo, if_pos (by assumption), List.append_nil]; exact AccOf.mk aN hchk5_0) (acc_nd _ _ _ _ _)
end Go.Proofs.Tst

namespace Go.Proofs.Tst
open Go Fw Tryz
theorem TreePut_c (w0 : World) (G0 : PH) (hG : PSub G0 w0) (vlist : Value) (list : List (BItem)) (hlist : RdItems G0 vlist list) (cx : List Value) (x : BItem) (hx : itemE G0 x cx)  :
  Calls Tryz.prog 116 #[vlist, .agg cx.toArray] w0 (RetP w0 G0 (fun G v => ∃ u, v = .tuple #[u, .bool (Sp.TreePut list x).isSome] ∧ RdItems G u ((Sp.TreePut list x).getD []))) := by
 obtain ⟨alist, klist, rfl⟩ := hlist.shape
 have hlimlist : list.length ≤ 1099511627776 := hlist.lim
 obtain ⟨a1, m1, c1, rfl, hi1, hr1⟩ := hx; have hy_hi1 : _ ≤ 16777216 := hi1; have hn_hr1 := hr1.len; have hx_hr1 : _ ≤ 1099511627776 := hr1.lim
 have H := Hp.init hG
 refine calls_of_W (l := [.slice alist list.length klist, _]) func116 Z ntmps116 Z (q2 (o_box H Z Z Z ?_)); intro b2 w2 hb2 H
 refine aG Z (aG Z (q3 (W_seq (q2 (mV Z (o_call call97 Z Z (TreeValid_c _ _ H.sub _ _ hlist ) ?_))))))
 rintro _ w3 ⟨rfl, ew3⟩; have H := H.step ew3; refine ⟨_, rfl, ?_⟩
 refine o_not Z Z (mV Z ?_)
 refine R_case (t := 11) Z ?_ ?_
 ·intro hc4
  try simp only [nrm] at hc4
  refine rP Z (rP Z (rP Z (o_pick_t Z Z Z (q3 (W_true Z (q2 (o_buildSlice H underlying24 sizeOf37 (fun w => ⟨_, zeroValue37 w, Z⟩) Z Z Z Z Z Z Z ?_))))))); intro b5 w5 hb5 H
  have H := H.blkAcc 3 (k := 0) (n := 0) rfl rfl (by decide)
  refine aG Z (aG Z (q3 (W_ret (N_K_ret (rt2 results116 Z Z ?_)))))
  obtain ⟨G507, H, hsg507, hsr507⟩ := H.shut' (k := 0) rfl (Chk.nil (E := itemE) (sz := 3) (G := G0)) aN aN
  have hY : Sp.TreePut list x = none := by simp [Sp.TreePut, hc4]
  exact H.retP (by rw [hY]; exact ⟨_, rfl, hsr507⟩)
 intro hc4'
 try simp only [nrm] at hc4'
 have htl := Sp.tree_len hc4'
 refine gR Z (o_loadagg_B 0 H isAgg37 sizeOf37 Z Z Z Z Z (gR Z (o_call call145 Z Z (l5Item_c _ _ H.sub _ x ⟨_, _, _, Z, hi1, hr1⟩ ) ?_)))
 rintro _ w6 ⟨rfl, ew6⟩; have H := H.step ew6; refine ⟨_, rfl, ?_⟩
 refine gR Z (o_not Z Z (o_pick_f Z Z Z (q3 ?_)))
 refine W_cond Z ?_ ?_
 ·intro hc7
  try simp only [nrm] at hc7
  refine q2 (o_buildSlice H underlying24 sizeOf37 (fun w => ⟨_, zeroValue37 w, Z⟩) Z Z Z Z Z Z Z ?_); intro b8 w8 hb8 H
  have H := H.blkAcc 3 (k := 0) (n := 0) rfl rfl (by decide)
  refine aG Z (aG Z (q3 (W_ret (N_K_ret (rt2 results116 Z Z ?_)))))
  obtain ⟨G511, H, hsg511, hsr511⟩ := H.shut' (k := 0) rfl (Chk.nil (E := itemE) (sz := 3) (G := G0)) aN aN
  have hY : Sp.TreePut list x = none := by simp [Sp.TreePut, hc7]
  exact H.retP (by rw [hY]; exact ⟨_, rfl, hsr511⟩)
 intro hc7'
 try simp only [nrm] at hc7'
 refine W_skip (N_K (q2 (mV Z (o_fieldAddr 0 runUnderlying37 Z sizeOf9 Z Z Z (o_load_B 0 H isAgg9 Z Z Z Z (o_call call112 Z Z (l5At_c _ _ H.sub _ _ hlist _ hi1 ) ?_))))))
 rintro _ w9 ⟨rfl, ew9⟩; have H := H.step ew9; refine ⟨_, rfl, ?_⟩
 refine aG Z (q3 (W_seq (q2 (mV Z (o_geq Z Z Z (mV Z ?_))))))
 refine R_case (t := 23) Z ?_ ?_
 ·intro hc10
  try simp only [nrm] at hc10
  obtain ⟨i, y, ia, ib, ic, ie, ig⟩ := Sp.at_nat hc10
  refine gR Z (mV Z (gR Z (mV Z (gR Z (o_index_P i hlist underlying24 sizeOf37 Z Z Z ib aN ?_))))); intro b11 o11 z11 q11 hz11 hE11 hrow11
  obtain ⟨a11, m11, c11, rfl, hi11, hr11⟩ := hE11; have hy_hi11 : _ ≤ 16777216 := hi11; have hn_hr11 := hr11.len; have hx_hr11 : _ ≤ 1099511627776 := hr11.lim
  refine gR Z (o_fieldAddr 1 runUnderlying37 Z sizeOf4 Z Z Z (gR Z (o_load_P H isAgg4 Z Z (hrow11 1 _ Z) (gR Z (mV Z ?_)))))
  refine R_case (t := 29) Z ?_ ?_
  ·intro hc12
   try simp only [nrm] at hc12
   refine rP Z (rP Z (gR Z (o_pick_t Z Z Z (o_pick_t Z Z Z (q3 (W_true Z (q2 (o_buildSlice H underlying24 sizeOf37 (fun w => ⟨_, zeroValue37 w, Z⟩) Z Z Z Z Z Z Z ?_)))))))); intro b13 w13 hb13 H
   have H := H.blkAcc 3 (k := 0) (n := 0) rfl rfl (by decide)
   refine aG Z (aG Z (q3 (W_ret (N_K_ret (rt2 results116 Z Z ?_)))))
   obtain ⟨G517, H, hsg517, hsr517⟩ := H.shut' (k := 0) rfl (Chk.nil (E := itemE) (sz := 3) (G := G0)) aN aN
   have hY : Sp.TreePut list x = none := by (have hl : Sp.atI list x.path = some i := ia); simp [Sp.TreePut, hl, hz11, hc12]
   exact H.retP (by rw [hY]; exact ⟨_, rfl, hsr517⟩)
  intro hc12'
  try simp only [nrm] at hc12'
  refine gR Z (o_fieldAddr 1 runUnderlying37 Z sizeOf4 Z Z Z (gR Z (o_load_B 0 H isAgg4 Z Z Z Z (gR Z (o_pick_f Z Z Z (o_pick_t Z Z Z (q3 ?_)))))))
  refine W_cond Z ?_ ?_
  ·intro hc14
   try simp only [nrm] at hc14
   refine q2 (o_buildSlice H underlying24 sizeOf37 (fun w => ⟨_, zeroValue37 w, Z⟩) Z Z Z Z Z Z Z ?_); intro b15 w15 hb15 H
   have H := H.blkAcc 3 (k := 0) (n := 0) rfl rfl (by decide)
   refine aG Z (aG Z (q3 (W_ret (N_K_ret (rt2 results116 Z Z ?_)))))
   obtain ⟨G520, H, hsg520, hsr520⟩ := H.shut' (k := 0) rfl (Chk.nil (E := itemE) (sz := 3) (G := G0)) aN aN
   have hY : Sp.TreePut list x = none := by (have hl : Sp.atI list x.path = some i := ia); simp [Sp.TreePut, hl, hz11, hc14]
   exact H.retP (by rw [hY]; exact ⟨_, rfl, hsr520⟩)
  intro hc14'
  try simp only [nrm] at hc14'
  refine W_skip (N_K (q2 (mV Z (o_loadagg_B 0 H isAgg37 sizeOf37 Z Z Z Z Z (o_call call157 Z Z (l5Put_c _ _ H.sub _ _ hlist _ x ⟨_, _, _, Z, hi1, hr1⟩ oM) ?_)))))
  rintro _ w16 ⟨G16, v16, _, g16, rfl, ⟨cs16, rfl, hchk16⟩, hp16, hq16, hs16⟩
  have H := H.growO g16 hp16 hq16 hs16; obtain ⟨av16, cv16, rfl⟩ := H.accShape (k := 0) rfl
  refine ⟨_, Z, ?_⟩
  have hpl := Sp.l5Put_len list x
  refine aG Z (q3 (W_seq (q2 (mV Z (o_call call97 Z Z (TreeValid_c _ _ (H.lendSubL [0]) _ _ (H.lendRdL (k := 0) (ks := [0]) Z Z hchk16 aN aN) ) ?_)))))
  rintro _ w17 ⟨rfl, ew17⟩; have H := H.step ew17; refine ⟨_, rfl, ?_⟩
  refine o_not Z Z (q3 ?_)
  refine W_cond Z ?_ ?_
  ·intro hc18
   try simp only [nrm] at hc18
   refine q2 (o_buildSlice H underlying24 sizeOf37 (fun w => ⟨_, zeroValue37 w, Z⟩) Z Z Z Z Z Z Z ?_); intro b19 w19 hb19 H
   have H := H.blkAcc 3 (k := 0) (n := 0) rfl rfl (by decide)
   refine aG Z (aG Z (q3 (W_ret (N_K_ret (rt2 results116 Z Z ?_)))))
   obtain ⟨G525, H, hsg525, hsr525⟩ := H.shut' (k := 0) rfl (Chk.nil (E := itemE) (sz := 3) (G := G16)) aN aN
   have hY : Sp.TreePut list x = none := by (have hl : Sp.atI list x.path = some i := ia); simp [Sp.TreePut, hc18]
   exact H.retP (by rw [hY]; exact ⟨_, rfl, hsr525⟩)
  intro hc18'
  try simp only [nrm] at hc18'
  refine W_skip (N_K (q2 (mV Z (aG Z (aG Z (q3 (W_ret (rt2 results116 Z Z ?_))))))))
  obtain ⟨G526, H, hsg526, hsr526⟩ := H.shut' (k := 0) rfl hchk16 aN aN
  have hY : Sp.TreePut list x = some (Sp.l5Put list x) := by (have hl : Sp.atI list x.path = some i := ia); simp [Sp.TreePut, hl, hz11, hc4', hc7', hc12', hc14', hc18']
  exact H.retP (by rw [hY]; exact ⟨_, rfl, hsr526⟩)
 intro hc10'
 try simp only [nrm] at hc10'
 refine rP Z (rP Z (rP Z (rP Z (rP Z (rP Z (R_pass Z (yl_un Z Z) (R_pass Z (yl_un Z Z) (rP Z (o_pick_f Z Z Z (q3 (W_false Z (W_skip (N_K (q2 (mV Z ?_)))))))))))))))
 refine o_loadagg_B 0 H isAgg37 sizeOf37 Z Z Z Z Z (o_call call157 Z Z (l5Put_c _ _ H.sub _ _ hlist _ x ⟨_, _, _, Z, hi1, hr1⟩ oM) ?_)
 rintro _ w20 ⟨G20, v20, _, g20, rfl, ⟨cs20, rfl, hchk20⟩, hp20, hq20, hs20⟩
 have H := H.growO g20 hp20 hq20 hs20; obtain ⟨av20, cv20, rfl⟩ := H.accShape (k := 0) rfl
 refine ⟨_, Z, ?_⟩
 have hpl := Sp.l5Put_len list x
 refine aG Z (q3 (W_seq (q2 (mV Z (o_call call97 Z Z (TreeValid_c _ _ (H.lendSubL [0]) _ _ (H.lendRdL (k := 0) (ks := [0]) Z Z hchk20 aN aN) ) ?_)))))
 rintro _ w21 ⟨rfl, ew21⟩; have H := H.step ew21; refine ⟨_, rfl, ?_⟩
 refine o_not Z Z (q3 ?_)
 refine W_cond Z ?_ ?_
 ·intro hc22
  try simp only [nrm] at hc22
  refine q2 (o_buildSlice H underlying24 sizeOf37 (fun w => ⟨_, zeroValue37 w, Z⟩) Z Z Z Z Z Z Z ?_); intro b23 w23 hb23 H
  have H := H.blkAcc 3 (k := 0) (n := 0) rfl rfl (by decide)
  refine aG Z (aG Z (q3 (W_ret (N_K_ret (rt2 results116 Z Z ?_)))))
  obtain ⟨G531, H, hsg531, hsr531⟩ := H.shut' (k := 0) rfl (Chk.nil (E := itemE) (sz := 3) (G := G20)) aN aN
  have hY : Sp.TreePut list x = none := by simp [Sp.TreePut, hc22]
  exact H.retP (by rw [hY]; exact ⟨_, rfl, hsr531⟩)
 intro hc22'
 try simp only [nrm] at hc22'
 refine W_skip (N_K (q2 (mV Z (aG Z (aG Z (q3 (W_ret (rt2 results116 Z Z ?_))))))))
 obtain ⟨G532, H, hsg532, hsr532⟩ := H.shut' (k := 0) rfl hchk20 aN aN
 have hY : Sp.TreePut list x = some (Sp.l5Put list x) := by (have hl : Sp.atI list x.path = none := Sp.at_none hc10'); simp [Sp.TreePut, hl, hc4', hc7', hc22']
 exact H.retP (by rw [hY]; exact ⟨_, rfl, hsr532⟩)
end Go.Proofs.Tst

namespace Go.Proofs.Tst
open Go Fw Tryz
end Go.Proofs.Tst

namespace Go.Proofs.Tst
open Go Fw Tryz
theorem l11Count_c (w0 : World) (G0 : PH) (hG : PSub G0 w0) (vlist : Value) (list : List (BItem)) (hlist : RdItems G0 vlist list) (id : Int) (hT : Sp.TreeValid list = true) :
  Calls Tryz.prog 148 #[vlist, .int .i64 id] w0 (Rets w0 (.int .i64 (Sp.l11Count list id : Int))) := by
 obtain ⟨alist, klist, rfl⟩ := hlist.shape
 have hlimlist : list.length ≤ 1099511627776 := hlist.lim
 have htl := Sp.tree_len hT
 have H := Hp.init hG
 refine calls_of_W (l := [.slice alist list.length klist, .int .i64 id]) func148 Z ntmps148 Z (q2 (aG Z (q1 (aG Z (q3 (W_seq (q2 (aG Z (q3 (W_block ?_))))))))))
 refine W_lp (hf := (Sub.cons (t := 0) Z (Sub.cons (t := 1) Z (Sub.cons (t := 4) Z Sub.nil)))) (J := fun M w m => ∃ (c k : Nat) (G : PH), M = [(5, .int .i64 (c : Int)), (6, .int .i64 (k : Int))] ∧ PLe G0 G ∧ Hp w0 G0 [] w G [] ∧ (k ≤ list.length ∧ c = Sp.cntU list id k) ∧ m = (list.length - k)) (h0 := ⟨0, 0, _, Z, PLe.refl _, H, ?inv, Z⟩) (round := ?round)
 case inv => exact ⟨by omega, by simp [Sp.cntU]⟩
 case round =>
  rintro _ w1 _ ⟨c, k, G1, rfl, hle1, H, hinv1, rfl⟩
  have hlist := hlist.up hle1
  obtain ⟨hk, hc⟩ := hinv1; have hcu := Sp.cntU_le hT k hk (id := id)
  refine W_seq (q2 (mV Z (mV Z (o_len_slice underlying24 Z Z (o_lss Z Z Z (q3 ?_))))))
  refine W_cond Z ?_ ?_
  ·intro hc2
   try simp only [nrm] at hc2
   refine W_skip (N_K (W_seq (W_block (q2 (aG Z (q3 (W_block ?_)))))))
   refine W_lp (hf := (Sub.cons (t := 0) Z (Sub.cons (t := 1) Z (Sub.cons (t := 4) Z (Sub.cons (t := 6) Z Sub.nil))))) (J := fun M w m => ∃ (c2 j : Nat) (y : BItem) (G : PH), M = [(5, .int .i64 (c2 : Int)), (7, .int .i64 (j : Int))] ∧ PLe G1 G ∧ Hp w0 G0 [] w G [] ∧ (list[k]? = some y ∧ j ≤ y.ids.length ∧ c2 = Sp.cntU list id k + Sp.cnt1 id (y.ids.take j)) ∧ m = (y.ids.length - j)) (h0 := ⟨c, 0, (list[k]'oM), _, Z, PLe.refl _, H, ?inv, Z⟩) (round := ?round)
   case inv => exact ⟨by simp, by omega, by simp [hc, Sp.cnt1]⟩
   case round =>
    rintro _ w3 _ ⟨c2, j, y, G3, rfl, hle3, H, hinv3, rfl⟩
    have hlist := hlist.up hle3
    have hle1 := hle1.trans hle3
    obtain ⟨hy, hj, hc2⟩ := hinv3; have hc4 := (Sp.tree_at hT hy).2; have hc1 := Sp.cnt1_le id (y.ids.take j); have htk : (y.ids.take j).length ≤ j := by simp; omega
    refine W_seq (q2 (mV Z (mV Z (mV Z (o_index_P k hlist underlying24 sizeOf37 Z Z Z Z aN ?_))))); intro b4 o4 z4 q4 hz4 hE4 hrow4
    obtain ⟨a4, m4, c4, rfl, hi4, hr4⟩ := hE4; have hy_hi4 : _ ≤ 16777216 := hi4; have hn_hr4 := hr4.len; have hx_hr4 : _ ≤ 1099511627776 := hr4.lim
    have hzz4 : y = z4 := Option.some.inj (hy.symm.trans hz4)
    subst hzz4
    refine o_fieldAddr 2 runUnderlying37 Z sizeOf33 Z Z Z (o_load_P H isAgg33 Z Z (hrow4 2 _ Z) (o_len_slice underlying33 Z Z (o_lss Z Z Z (q3 ?_))))
    refine W_cond Z ?_ ?_
    ·intro hc5
     try simp only [nrm] at hc5
     refine W_skip (N_K (W_seq (W_block (q2 (mV Z (mV Z (o_index_P k hlist underlying24 sizeOf37 Z Z Z Z aN ?_))))))); intro b6 o6 z6 q6 hz6 hE6 hrow6
     obtain ⟨a6, m6, c6, rfl, hi6, hr6⟩ := hE6; have hy_hi6 : _ ≤ 16777216 := hi6; have hn_hr6 := hr6.len; have hx_hr6 : _ ≤ 1099511627776 := hr6.lim
     have hzz6 : y = z6 := Option.some.inj (hy.symm.trans hz6)
     subst hzz6
     refine o_fieldAddr 2 runUnderlying37 Z sizeOf33 Z Z Z (o_load_P H isAgg33 Z Z (hrow6 2 _ Z) (mV Z (o_index_P j hr6 underlying33 sizeOf3 Z Z Z Z aN ?_))); intro b7 o7 z7 q7 hz7 hE7 hrow7
     obtain ⟨rfl, hi7⟩ := hE7
     refine o_load_P H isAgg3 Z Z (hrow7 0 _ Z) (mV Z (o_eql Z Z Z (q3 ?_)))
     refine W_cond Z ?_ ?_
     ·intro hc8
      try simp only [nrm] at hc8
      refine W_region (mV Z (o_add Z Z Z oO (aG Z (R_nil (N_B (N_K (W_region (mV Z (o_add Z Z Z oO (aG Z (R_nil ?_)))))))))))
      refine N_lp (hJ := ⟨c2 + 1, j + 1, y, _, Z, hle3, H, ?inv, Z⟩) (hm := ?hm)
      case hm => omega
      case inv => exact ⟨hy, by omega, by rw [Sp.cnt1_succ hz7, if_pos oM, hc2]; omega⟩
     intro hc8'
     try simp only [nrm] at hc8'
     refine W_skip (N_B (N_K (W_region (mV Z (o_add Z Z Z oO (aG Z (R_nil ?_)))))))
     refine N_lp (hJ := ⟨c2, j + 1, y, _, Z, hle3, H, ?inv, Z⟩) (hm := ?hm)
     case hm => omega
     case inv => exact ⟨hy, by omega, by rw [Sp.cnt1_succ hz7, if_neg oM, hc2]; omega⟩
    intro hc5'
    try simp only [nrm] at hc5'
    refine W_exit (N_K_exit (N_LP_exit (N_B_same (N_B (N_K (W_region (mV Z (o_add Z Z Z oO (aG Z (R_nil ?_))))))))))
    refine N_lp (hJ := ⟨c2, k + 1, _, Z, hle1, H, ?inv, Z⟩) (hm := ?hm)
    case hm => omega
    case inv => exact ⟨by omega, by rw [hc2, Sp.cntU_succ hy, List.take_of_length_le oM]⟩
  intro hc2'
  try simp only [nrm] at hc2'
  refine W_exit (N_K_exit (N_LP_exit (N_B_same (N_K (q2 (mV Z (aG Z (q3 (W_ret (rt1 results148 Z ?_))))))))))
  obtain rfl : k = list.length := by omega
  exact H.rets (congrArg (Value.int .i64) (by rw [hc]; rfl))
theorem l11Files_c (w0 : World) (G0 : PH) (hG : PSub G0 w0) (vstore : Value) (store : List (BHeld)) (hstore : RdH G0 vstore store) (vlist : Value) (list : List (BItem)) (hlist : RdItems G0 vlist list)  :
  Calls Tryz.prog 98 #[vstore, vlist] w0 (Rets w0 (.bool (Sp.l11Files store list))) := by
 obtain ⟨astore, kstore, rfl⟩ := hstore.shape
 have hlimstore : store.length ≤ 1099511627776 := hstore.lim
 obtain ⟨alist, klist, rfl⟩ := hlist.shape
 have hlimlist : list.length ≤ 1099511627776 := hlist.lim
 have H := Hp.init hG
 refine calls_of_W (l := [.slice astore store.length kstore, .slice alist list.length klist]) func98 Z ntmps98 Z (q2 (aG Z (q3 (W_seq (q2 (aG Z (q3 (W_block ?_))))))))
 refine W_lp (hf := (Sub.cons (t := 0) Z (Sub.cons (t := 1) Z Sub.nil))) (J := fun M w m => ∃ (k : Nat) (G : PH), M = [(5, .int .i64 (k : Int))] ∧ PLe G0 G ∧ Hp w0 G0 [] w G [] ∧ (k ≤ list.length ∧ (list.take k).all (Sp.fileOk store) = true) ∧ m = (list.length - k)) (h0 := ⟨0, _, Z, PLe.refl _, H, ?inv, Z⟩) (round := ?round)
 case inv => exact ⟨by omega, by simp⟩
 case round =>
  rintro _ w1 _ ⟨k, G1, rfl, hle1, H, hinv1, rfl⟩
  have hstore := hstore.up hle1
  have hlist := hlist.up hle1
  obtain ⟨hk, hall⟩ := hinv1
  refine W_seq (q2 (mV Z (mV Z (o_len_slice underlying24 Z Z (o_lss Z Z Z (q3 ?_))))))
  refine W_cond Z ?_ ?_
  ·intro hc2
   try simp only [nrm] at hc2
   refine W_skip (N_K (W_seq (W_block (q2 (mV Z (mV Z (mV Z (o_index_P k hlist underlying24 sizeOf37 Z Z Z Z aN ?_)))))))); intro b3 o3 z3 q3 hz3 hE3 hrow3
   obtain ⟨a3, m3, c3, rfl, hi3, hr3⟩ := hE3; have hy_hi3 : _ ≤ 16777216 := hi3; have hn_hr3 := hr3.len; have hx_hr3 : _ ≤ 1099511627776 := hr3.lim
   refine o_fieldAddr 2 runUnderlying37 Z sizeOf33 Z Z Z (o_load_P H isAgg33 Z Z (hrow3 2 _ Z) (o_call call147 Z Z (l4Ids_c _ _ H.sub _ _ hstore _ _ hr3 ) ?_))
   rintro _ w4 ⟨rfl, ew4⟩; have H := H.step ew4; refine ⟨_, rfl, ?_⟩
   refine o_not Z Z (q3 ?_)
   refine W_cond Z ?_ ?_
   ·intro hc5
    try simp only [nrm] at hc5
    refine q2 (aG Z (q3 (W_ret (N_B_ret (N_K_ret (N_LP_ret (N_B_ret (N_K_ret (rt1 results98 Z ?_)))))))))
    exact H.rets (congrArg Value.bool (by rw [Sp.l11Files, Sp.all_false hz3 (by simp [Sp.fileOk, *])]))
   intro hc5'
   try simp only [nrm] at hc5'
   refine W_skip (N_B (N_K (W_region (mV Z (o_add Z Z Z oO (aG Z (R_nil ?_)))))))
   refine N_lp (hJ := ⟨k + 1, _, Z, hle1, H, ?inv, Z⟩) (hm := ?hm)
   case hm => omega
   case inv => exact ⟨by omega, Sp.all_take hall hz3 (by simp [Sp.fileOk, *])⟩
  intro hc2'
  try simp only [nrm] at hc2'
  refine W_exit (N_K_exit (N_LP_exit (N_B_same (N_K (q2 (aG Z (q3 (W_ret (rt1 results98 Z ?_)))))))))
  obtain rfl : k = list.length := by omega
  rw [List.take_length] at hall
  exact H.rets (congrArg Value.bool (by rw [Sp.l11Files, hall]))
theorem l11Ids_c (w0 : World) (G0 : PH) (hG : PSub G0 w0) (vlist : Value) (list : List (BItem)) (hlist : RdItems G0 vlist list) (path : Bs) (hpath : path.length ≤ 16777216)  :
  Calls Tryz.prog 56 #[vlist, str path] w0 (RetP w0 G0 (fun G v => RdItems G v (Sp.l11Ids list path))) := by
 obtain ⟨alist, klist, rfl⟩ := hlist.shape
 have hlimlist : list.length ≤ 1099511627776 := hlist.lim
 have H := Hp.init hG
 refine calls_of_W (l := [.slice alist list.length klist, str path]) func56 Z ntmps56 Z (q2 (aG Z (q1 (mV Z (mV Z (o_call call112 Z Z (l5At_c _ _ H.sub _ _ hlist _ hpath ) ?_))))))
 rintro _ w1 ⟨rfl, ew1⟩; have H := H.step ew1; refine ⟨_, rfl, ?_⟩
 refine aG Z (q3 (W_seq (q2 (mV Z (o_lss Z Z Z (mV Z ?_))))))
 refine R_case (t := 11) Z ?_ ?_
 ·intro hc2
  try simp only [nrm] at hc2
  refine rP Z (rP Z (rP Z (rP Z (rP Z (o_pick_t Z Z Z (q3 (W_true Z (q2 (o_buildSlice H underlying24 sizeOf37 (fun w => ⟨_, zeroValue37 w, Z⟩) Z Z Z Z Z Z Z ?_))))))))); intro b3 w3 hb3 H
  have H := H.blkAcc 3 (k := 0) (n := 0) rfl rfl (by decide)
  refine aG Z (q3 (W_ret (N_K_ret (rt1 results56 Z ?_))))
  obtain ⟨G504, H, hsg504, hsr504⟩ := H.shut' (k := 0) rfl (Chk.nil (E := itemE) (sz := 3) (G := G0)) aN aN
  exact H.retP (by rw [show Sp.l11Ids list path = [] by simp [Sp.l11Ids, Sp.atI, Sp.at_none hc2]]; exact hsr504)
 intro hc2'
 try simp only [nrm] at hc2'
 obtain ⟨i, y, ia, ib, ic, ie, ig⟩ := Sp.at_nat hc2'
 have ib : Sp.l5At list path = (i : Int) := ib
 have hl : Sp.atI list path = some i := ia
 refine gR Z (mV Z (gR Z (mV Z (gR Z (o_index_P i hlist underlying24 sizeOf37 Z Z Z ib aN ?_))))); intro b4 o4 z4 q4 hz4 hE4 hrow4
 obtain ⟨a4, m4, c4, rfl, hi4, hr4⟩ := hE4; have hy_hi4 : _ ≤ 16777216 := hi4; have hn_hr4 := hr4.len; have hx_hr4 : _ ≤ 1099511627776 := hr4.lim
 refine gR Z (o_fieldAddr 1 runUnderlying37 Z sizeOf4 Z Z Z (gR Z (o_load_P H isAgg4 Z Z (hrow4 1 _ Z) (o_pick_f Z Z Z (q3 ?_)))))
 refine W_cond Z ?_ ?_
 ·intro hc5
  try simp only [nrm] at hc5
  refine q2 (o_buildSlice H underlying24 sizeOf37 (fun w => ⟨_, zeroValue37 w, Z⟩) Z Z Z Z Z Z Z ?_); intro b6 w6 hb6 H
  have H := H.blkAcc 3 (k := 0) (n := 0) rfl rfl (by decide)
  refine aG Z (q3 (W_ret (N_K_ret (rt1 results56 Z ?_))))
  obtain ⟨G507, H, hsg507, hsr507⟩ := H.shut' (k := 0) rfl (Chk.nil (E := itemE) (sz := 3) (G := G0)) aN aN
  exact H.retP (by rw [show Sp.l11Ids list path = [] by simp [Sp.l11Ids, hl, hz4, hc5]]; exact hsr507)
 intro hc5'
 try simp only [nrm] at hc5'
 refine W_skip (N_K (q2 (mV Z (mV Z (mV Z (o_add Z Z Z oO ?_))))))
 have hcap8 := hlist.cap; try simp only [List.length_set, List.length_append, List.length_take, List.length_drop, List.length_replicate] at hcap8
 refine o_slice (i := i) (j := (i + 1)) underlying24 sizeOf37 Z Z Z Z ib oM aN aN ?_
 have hsl8 := hlist.part (i := i) (j := (i + 1)) oM oM
 have hsn1 := hsl8.len
 refine aG Z (q3 (W_ret (rt1 results56 Z ?_)))
 exact H.retP (by rw [show Sp.l11Ids list path = (list.drop i).take (i + 1 - i) by simp [Sp.l11Ids, hl, hz4, hc5', Sp.drop_at hz4]]; exact hsl8)
end Go.Proofs.Tst

namespace Go.Proofs.Tst
open Go Fw Tryz
theorem l11Write_c (w0 : World) (G0 : PH) (hG : PSub G0 w0) (cv : List Value) (v : BVol) (hv : volE G0 v cv) (path : Bs) (hpath : path.length ≤ 16777216) (vbytes : Value) (bytes : List (Int)) (hbytes : RdI G0 vbytes bytes) (hS : bytes.length ≤ 1000000) :
  Calls Tryz.prog 64 #[.agg cv.toArray, str path, vbytes] w0 (RetO w0 G0 (fun G val r => ∃ u u1, val = .tuple #[.agg #[u, u1], .bool (Sp.l11Write v path bytes).isSome] ∧ AccOf heldE 3 105 (((Sp.l11Write v path bytes).map (·.store)).getD []) G u r ∧ RdItems G u1 (((Sp.l11Write v path bytes).map (·.tree)).getD []))) := by
 obtain ⟨a1, m1, c1, a1', m1', c1', rfl, hr1, hr1'⟩ := hv; have hn_hr1 := hr1.len; have hx_hr1 : _ ≤ 1099511627776 := hr1.lim; have hn_hr1q := hr1'.len; have hx_hr1q : _ ≤ 1099511627776 := hr1'.lim
 obtain ⟨abytes, kbytes, rfl⟩ := hbytes.shape
 have hlimbytes : bytes.length ≤ 1099511627776 := hbytes.lim
 have H := Hp.init hG
 refine calls_of_W (l := [_, str path, .slice abytes bytes.length kbytes]) func64 Z ntmps64 Z (q2 (o_box H Z Z Z ?_)); intro b2 w2 hb2 H
 refine o_alloc H zeroValue47 Z Z ?_; intro b3 w3 hb3 H
 refine aG Z (q1 (o_fieldAddr 0 runUnderlying47 Z sizeOf23 Z Z Z (o_load_B 1 H isAgg23 Z Z Z Z (mV Z (o_call call115 Z Z (FileStore_c _ _ H.sub _ _ hr1 _ _ hbytes oM) ?_)))))
 rintro _ w4 ⟨G4, _, _, g4, rfl, ⟨u4_0, u4_1, rfl, ⟨cs4, rfl, hchk4⟩, hr4_1⟩, hp4, hq4, hs4⟩
 have H := H.growO g4 hp4 hq4 hs4; obtain ⟨av4, cv4, rfl⟩ := H.accShape (k := 0) rfl
 have hr1' := hr1'.up g4.le
 obtain ⟨a4_1, k4_1, rfl⟩ := hr4_1.shape; have hx_hr4_1 : _ ≤ 1099511627776 := hr4_1.lim
 refine ⟨_, Z, ?_⟩
 have hfl := Sp.fileStore_len v.store bytes
 refine mV Z (o_extract Z Z Z (o_extract Z Z Z (o_extract Z Z Z (aG Z (aG Z (aG Z (q1 (o_fieldAddr 1 runUnderlying47 Z sizeOf24 Z Z Z (o_load_B 2 H isAgg24 Z Z Z Z (mV Z (mV Z (o_build bf37 Z Z Z (o_call call116 Z Z (TreePut_c _ _ H.sub _ _ hr1' _ ⟨path, false, ((Sp.FileStore v.store bytes).map (·.2)).getD []⟩ ⟨_, _, _, Z, hpath, hr4_1⟩ ) ?_)))))))))))))
 rintro _ w5 ⟨G5, _, g5, rfl, u5_0, rfl, hr5_0⟩
 have H := H.grow g5
 have hr1' := hr1'.up g5.le
 have hchk4 := hchk4.up g5.le
 obtain ⟨a5_0, k5_0, rfl⟩ := hr5_0.shape; have hx_hr5_0 : _ ≤ 1099511627776 := hr5_0.lim
 refine ⟨_, Z, ?_⟩
 refine mV Z (o_extract Z Z Z (o_extract Z Z Z (aG Z (aG Z (q3 (W_seq (q2 (mV Z (o_not Z Z (mV Z ?_))))))))))
 refine R_case (t := 35) Z ?_ ?_
 ·intro hc6
  try simp only [nrm] at hc6
  refine rP Z (rP Z (o_pick_t Z Z Z (q3 (W_true Z (q2 (o_build bf47 Z Z Z (o_store_B 1 H sizeOf47 Z Z Z Z Z Z Z Z ?_))))))); intro w7 H
  refine aG Z (q3 (W_ret (N_K_ret (ret_gen (rs := [.cell 6 47, .tmp 7]) (vs := [_, _]) results64 ⟨⟨_, Z, load_blk 1 H isAgg47 sizeOf47 Z Z Z⟩, Z, trivial⟩ ?_))))
  have hN : Sp.l11Write v path bytes = none := by exact Sp.l11Write_1 hc6
  have H := H.addNil 105 3
  exact H.retO (k := 0) rfl (by rw [hN]; exact ⟨_, _, rfl, AccOf.mk rfl Chk.nil, RdS.nil _ _ _⟩) (acc_nd _ _ _ _ _)
 intro hc6'
 try simp only [nrm] at hc6'
 refine gR Z (mV Z (gR Z (o_not Z Z (o_pick_f Z Z Z (q3 ?_)))))
 refine W_cond Z ?_ ?_
 ·intro hc8
  try simp only [nrm] at hc8
  refine q2 (o_build bf47 Z Z Z (o_store_B 1 H sizeOf47 Z Z Z Z Z Z Z Z ?_)); intro w9 H
  refine aG Z (q3 (W_ret (N_K_ret (ret_gen (rs := [.cell 6 47, .tmp 7]) (vs := [_, _]) results64 ⟨⟨_, Z, load_blk 1 H isAgg47 sizeOf47 Z Z Z⟩, Z, trivial⟩ ?_))))
  have hN : Sp.l11Write v path bytes = none := by exact Sp.l11Write_2 hc8
  have H := H.addNil 105 3
  exact H.retO (k := 0) rfl (by rw [hN]; exact ⟨_, _, rfl, AccOf.mk rfl Chk.nil, RdS.nil _ _ _⟩) (acc_nd _ _ _ _ _)
 intro hc8'
 try simp only [nrm] at hc8'
 refine W_skip (N_K (q2 (o_fieldAddr 1 runUnderlying47 Z sizeOf24 Z Z Z (o_load_B 2 H isAgg24 Z Z Z Z (mV Z (o_call call56 Z Z (l11Ids_c _ _ H.sub _ _ hr1' _ hpath ) ?_))))))
 rintro _ w10 ⟨G10, u10_0, g10, rfl, hr10_0⟩
 have H := H.grow g10
 have hchk4 := hchk4.up g10.le
 have hr5_0 := hr5_0.up g10.le
 obtain ⟨a10_0, k10_0, rfl⟩ := hr10_0.shape; have hx_hr10_0 : _ ≤ 1099511627776 := hr10_0.lim
 refine ⟨_, Z, ?_⟩
 refine aG Z (q3 (W_seq (q2 (mV Z (o_len_slice underlying24 Z Z (o_gtr Z Z Z (q3 ?_)))))))
 refine W_cond Z ?_ ?_
 ·intro hc11
  try simp only [nrm] at hc11
  refine q2 (mV Z (mV Z (o_index_P 0 hr10_0 underlying24 sizeOf37 Z Z Z Z aN ?_))); intro b12 o12 z12 q12 hz12 hE12 hrow12
  obtain ⟨a12, m12, c12, rfl, hi12, hr12⟩ := hE12; have hy_hi12 : _ ≤ 16777216 := hi12; have hn_hr12 := hr12.len; have hx_hr12 : _ ≤ 1099511627776 := hr12.lim
  refine o_fieldAddr 2 runUnderlying37 Z sizeOf33 Z Z Z (o_load_P H isAgg33 Z Z (hrow12 2 _ Z) ?_)
  obtain ⟨G14, H, hsg14, hsr14⟩ := H.shut' (k := 0) rfl hchk4 aN aN
  have hr5_0 := hr5_0.up hsg14
  have hr12 := hr12.up hsg14
  refine o_call call117 Z Z (FileFree_c _ _ H.sub _ _ hsr14 _ _ hr12 ) ?_
  rintro _ w13 ⟨G13, _, _, g13, rfl, ⟨u13_0, rfl, ⟨cs13, rfl, hchk13⟩⟩, hp13, hq13, hs13⟩
  have H := H.growO g13 hp13 hq13 hs13; obtain ⟨av13, cv13, rfl⟩ := H.accShape (k := 0) rfl
  have hr5_0 := hr5_0.up g13.le
  refine ⟨_, Z, ?_⟩
  refine mV Z (o_extract Z Z Z (o_extract Z Z Z (aG Z (aG Z (q3 (W_region (mV Z (aG Z (q1 (mV Z (mV Z (o_build bf47 Z Z Z (o_store_B 1 H sizeOf47 Z Z Z Z Z Z Z Z ?_))))))))))))); intro w15 H
  refine aG Z (q3 (W_ret (ret_gen (rs := [.cell 6 47, .tmp 7]) (vs := [_, _]) results64 ⟨⟨_, Z, load_blk 1 H isAgg47 sizeOf47 Z Z Z⟩, Z, trivial⟩ ?_)))
  have hY : Sp.l11Write v path bytes = some ⟨(Sp.FileFree (((Sp.FileStore v.store bytes).map (·.1)).getD []) z12.ids).getD [], (Sp.TreePut v.tree ⟨path, false, ((Sp.FileStore v.store bytes).map (·.2)).getD []⟩).getD []⟩ := by rw [Sp.l11Write_3 hc6' hc8', Sp.freeOld_at hz12]
  exact H.retO (k := 0) rfl (by rw [hY]; exact ⟨_, _, rfl, AccOf.mk aN hchk13, hr5_0⟩) (acc_nd _ _ _ _ _)
 intro hc11'
 try simp only [nrm] at hc11'
 refine W_skip (N_K (q2 (mV Z (mV Z (o_build bf47 Z Z Z (o_store_B 1 H sizeOf47 Z Z Z Z Z Z Z Z ?_)))))); intro w16 H
 refine aG Z (q3 (W_ret (ret_gen (rs := [.cell 6 47, .tmp 7]) (vs := [_, _]) results64 ⟨⟨_, Z, load_blk 1 H isAgg47 sizeOf47 Z Z Z⟩, Z, trivial⟩ ?_)))
 have hY : Sp.l11Write v path bytes = some ⟨((Sp.FileStore v.store bytes).map (·.1)).getD [], (Sp.TreePut v.tree ⟨path, false, ((Sp.FileStore v.store bytes).map (·.2)).getD []⟩).getD []⟩ := by rw [Sp.l11Write_3 hc6' hc8', Sp.freeOld_nil oM]
 exact H.retO (k := 0) rfl (by rw [hY]; exact ⟨_, _, rfl, AccOf.mk aN hchk4, hr5_0⟩) (acc_nd _ _ _ _ _)
end Go.Proofs.Tst

namespace Go.Proofs.Tst
open Go Fw Tryz
end Go.Proofs.Tst

namespace Go.Proofs.Tst
open Go Fw Tryz
theorem l12Count_c (w0 : World) (G0 : PH) (hG : PSub G0 w0) (cd : List Value) (d : BDisk) (hd : diskE G0 d cd) (id : Int) (hT : Sp.TreeValid d.tree = true) (hN : Sp.l12Snaps d = true) :
  Calls Tryz.prog 100 #[.agg cd.toArray, .int .i64 id] w0 (Rets w0 (.int .i64 (Sp.l12Count d id : Int))) := by
 obtain ⟨a1, m1, c1, a1', m1', c1', a1'', m1'', c1'', rfl, hr1, hr1', hr1''⟩ := hd; have hn_hr1 := hr1.len; have hx_hr1 : _ ≤ 1099511627776 := hr1.lim; have hn_hr1q := hr1'.len; have hx_hr1q : _ ≤ 1099511627776 := hr1'.lim; have hn_hr1qq := hr1''.len; have hx_hr1qq : _ ≤ 1099511627776 := hr1''.lim
 obtain ⟨hsl, hst⟩ := Sp.snaps_at hN
 have htc := Sp.l11Count_le hT (id := id)
 have H := Hp.init hG
 refine calls_of_W (l := [_, .int .i64 id]) func100 Z ntmps100 Z (q2 (o_box H Z Z Z ?_)); intro b2 w2 hb2 H
 refine aG Z (q1 (o_fieldAddr 1 runUnderlying27 Z sizeOf24 Z Z Z (o_load_B 0 H isAgg24 Z Z Z Z (mV Z (o_call call148 Z Z (l11Count_c _ _ H.sub _ _ hr1' _ hT) ?_)))))
 rintro _ w3 ⟨rfl, ew3⟩; have H := H.step ew3; refine ⟨_, rfl, ?_⟩
 refine aG Z (q3 (W_seq (q2 (aG Z (q3 (W_block ?_))))))
 obtain ⟨ln4, hln4, H⟩ := H.name (k := 0) rfl
 refine W_lp (hf := (Sub.cons (t := 1) Z (Sub.cons (t := 2) Z (Sub.cons (t := 4) Z Sub.nil)))) (J := fun M w m => ∃ (c k : Nat) (G : PH), M = [(5, .int .i64 (c : Int)), (6, .int .i64 (k : Int))] ∧ PLe G0 G ∧ Hp w0 G0 [] w G [blk b2 (cl ln4 27)] ∧ (k ≤ d.snaps.length ∧ c = Sp.l11Count d.tree id + Sp.cntS d.snaps id k) ∧ m = (d.snaps.length - k)) (h0 := ⟨(Sp.l11Count d.tree id), 0, _, Z, PLe.refl _, H, ?inv, Z⟩) (round := ?round)
 case inv => exact ⟨by omega, by simp [Sp.cntS]⟩
 case round =>
  rintro _ w5 _ ⟨c, k, G5, rfl, hle5, H, hinv5, rfl⟩
  subst hln4
  have hr1'' := hr1''.up hle5
  obtain ⟨hk, hc⟩ := hinv5; have hcu := Sp.cntS_le hst k hk (id := id)
  refine W_seq (q2 (mV Z (o_fieldAddr 2 runUnderlying27 Z sizeOf25 Z Z Z (o_load_B 0 H isAgg25 Z Z Z Z (o_len_slice underlying25 Z Z (o_lss Z Z Z (q3 ?_)))))))
  refine W_cond Z ?_ ?_
  ·intro hc6
   try simp only [nrm] at hc6
   refine W_skip (N_K (W_seq (W_block (W_region (mV Z (o_fieldAddr 2 runUnderlying27 Z sizeOf25 Z Z Z (o_load_B 0 H isAgg25 Z Z Z Z (mV Z (o_index_P k hr1'' underlying25 sizeOf81 Z Z Z Z aN ?_))))))))); intro b7 o7 z7 q7 hz7 hE7 hrow7
   obtain ⟨a7, m7, c7, rfl, hi7, hr7⟩ := hE7; have hy_hi7 : _ ≤ 16777216 := hi7; have hn_hr7 := hr7.len; have hx_hr7 : _ ≤ 1099511627776 := hr7.lim
   have hlz := Sp.l11Count_le (hst _ (List.mem_of_getElem? hz7)) (id := id)
   refine o_fieldAddr 1 runUnderlying81 Z sizeOf24 Z Z Z (o_load_P H isAgg24 Z Z (hrow7 1 _ Z) (mV Z ?_))
   refine o_call call148 Z Z (l11Count_c _ _ H.sub _ _ hr7 _ (hst _ (List.mem_of_getElem? hz7))) ?_
   rintro _ w8 ⟨rfl, ew8⟩; have H := H.step ew8; refine ⟨_, rfl, ?_⟩
   refine o_add Z Z Z oO (aG Z (R_nil (N_B (N_K (W_region (mV Z (o_add Z Z Z oO (aG Z (R_nil ?_)))))))))
   refine N_lp (hJ := ⟨c + Sp.l11Count z7.tree id, k + 1, _, Z, hle5, H, ?inv, Z⟩) (hm := ?hm)
   case hm => omega
   case inv => exact ⟨by omega, by rw [hc, Sp.cntS_succ hz7]; omega⟩
  intro hc6'
  try simp only [nrm] at hc6'
  refine W_exit (N_K_exit (N_LP_exit (N_B_same (N_K (q2 (mV Z (aG Z (q3 (W_ret (rt1 results100 Z ?_))))))))))
  obtain rfl : k = d.snaps.length := by omega
  exact H.rets (congrArg (Value.int .i64) (by rw [hc]; rfl))
end Go.Proofs.Tst

namespace Go.Proofs.Tst
open Go Fw Tryz
theorem l12Snaps_c (w0 : World) (G0 : PH) (hG : PSub G0 w0) (cd : List Value) (d : BDisk) (hd : diskE G0 d cd)  :
  Calls Tryz.prog 99 #[.agg cd.toArray] w0 (Rets w0 (.bool (Sp.l12Snaps d))) := by
 obtain ⟨a1, m1, c1, a1', m1', c1', a1'', m1'', c1'', rfl, hr1, hr1', hr1''⟩ := hd; have hn_hr1 := hr1.len; have hx_hr1 : _ ≤ 1099511627776 := hr1.lim; have hn_hr1q := hr1'.len; have hx_hr1q : _ ≤ 1099511627776 := hr1'.lim; have hn_hr1qq := hr1''.len; have hx_hr1qq : _ ≤ 1099511627776 := hr1''.lim
 have H := Hp.init hG
 refine calls_of_W (l := [_]) func99 Z ntmps99 Z (q2 (o_box H Z Z Z ?_)); intro b2 w2 hb2 H
 refine aG Z (q3 (W_seq (q2 (aG Z (q3 (W_block ?_))))))
 obtain ⟨ln3, hln3, H⟩ := H.name (k := 0) rfl
 refine W_lp (hf := (Sub.cons (t := 1) Z Sub.nil)) (J := fun M w m => ∃ (k : Nat) (G : PH), M = [(3, .int .i64 (k : Int))] ∧ PLe G0 G ∧ Hp w0 G0 [] w G [blk b2 (cl ln3 27)] ∧ (k ≤ d.snaps.length ∧ ∀ j, j < k → Sp.okS d j = true) ∧ m = (d.snaps.length - k)) (h0 := ⟨0, _, Z, PLe.refl _, H, ?inv, Z⟩) (round := ?round)
 case inv => exact ⟨by omega, fun j hj => by omega⟩
 case round =>
  rintro _ w4 _ ⟨k, G4, rfl, hle4, H, hinv4, rfl⟩
  subst hln3
  have hr1 := hr1.up hle4
  have hr1'' := hr1''.up hle4
  obtain ⟨hk, hall⟩ := hinv4
  refine W_seq (q2 (mV Z (o_fieldAddr 2 runUnderlying27 Z sizeOf25 Z Z Z (o_load_B 0 H isAgg25 Z Z Z Z (o_len_slice underlying25 Z Z (o_lss Z Z Z (q3 ?_)))))))
  refine W_cond Z ?_ ?_
  ·intro hc5
   try simp only [nrm] at hc5
   refine W_skip (N_K (W_seq (W_block (q2 (o_fieldAddr 2 runUnderlying27 Z sizeOf25 Z Z Z (o_load_B 0 H isAgg25 Z Z Z Z (mV Z (o_index_P k hr1'' underlying25 sizeOf81 Z Z Z Z aN ?_)))))))); intro b6 o6 z6 q6 hz6 hE6 hrow6
   obtain ⟨a6, m6, c6, rfl, hi6, hr6⟩ := hE6; have hy_hi6 : _ ≤ 16777216 := hi6; have hn_hr6 := hr6.len; have hx_hr6 : _ ≤ 1099511627776 := hr6.lim
   refine o_loadagg_P H isAgg81 sizeOf81 Z Z hrow6 Z (o_alloc H zeroValue81 Z Z ?_); intro b7 w7 hb7 H
   refine o_store_B 0 H sizeOf81 Z Z Z Z Z Z Z Z ?_; intro w8 H
   refine q1 (o_fieldAddr 0 runUnderlying81 Z sizeOf9 Z Z Z (o_load_B 0 H isAgg9 Z Z Z Z (o_call call45 Z Z (l1Word_c _ _ hi6 ) ?_)))
   rintro _ w9 ⟨rfl, ew9⟩; have H := H.step ew9; refine ⟨_, rfl, ?_⟩
   refine o_not Z Z (mV Z ?_)
   refine R_case (t := 21) Z ?_ ?_
   ·intro hc10
    try simp only [nrm] at hc10
    refine rP Z (rP Z (rP Z (rP Z (rP Z (rP Z (rP Z (o_pick_t Z Z Z (mV Z (rP Z (rP Z (rP Z (rP Z (o_pick_t Z Z Z (mV Z (rP Z ?_)))))))))))))))
    refine rP Z (rP Z (rP Z (rP Z (rP Z (o_pick_t Z Z Z (q3 (W_true Z (q2 (aG Z (q3 (W_ret (N_B_ret (N_K_ret (N_LP_ret (N_B_ret ?_)))))))))))))))
    refine N_K_ret (rt1 results99 Z ?_)
    exact H.rets (congrArg Value.bool (by rw [Sp.l12Snaps, Sp.not_all_range (k := k) oM (by rw [Sp.okS_at hz6]; simp [*] <;> (intros; omega))]; rfl))
   intro hc10'
   try simp only [nrm] at hc10'
   refine gR Z (o_fieldAddr 2 runUnderlying27 Z sizeOf25 Z Z Z (gR Z (o_load_B 1 H isAgg25 Z Z Z Z (gR Z (o_fieldAddr 0 runUnderlying81 Z sizeOf9 Z Z Z (gR Z (o_load_B 0 H isAgg9 Z Z Z Z (gR Z (o_call call46 Z Z (l12At_c _ _ H.sub _ _ hr1'' _ hi6 ) ?_)))))))))
   rintro _ w11 ⟨rfl, ew11⟩; have H := H.step ew11; refine ⟨_, rfl, ?_⟩
   refine gR Z (mV Z (gR Z (o_lss Z Z Z (o_pick_f Z Z Z (mV Z ?_)))))
   refine R_case (t := 30) Z ?_ ?_
   ·intro hc12
    try simp only [nrm] at hc12
    refine rP Z (rP Z (rP Z (rP Z (o_pick_t Z Z Z (mV Z (rP Z (rP Z (rP Z (rP Z (rP Z (rP Z (o_pick_t Z Z Z (q3 (W_true Z (q2 ?_)))))))))))))))
    refine aG Z (q3 (W_ret (N_B_ret (N_K_ret (N_LP_ret (N_B_ret (N_K_ret (rt1 results99 Z ?_))))))))
    exact H.rets (congrArg Value.bool (by rw [Sp.l12Snaps, Sp.not_all_range (k := k) oM (by rw [Sp.okS_at hz6]; simp [*] <;> (intros; omega))]; rfl))
   intro hc12'
   try simp only [nrm] at hc12'
   refine gR Z (o_fieldAddr 1 runUnderlying81 Z sizeOf24 Z Z Z (gR Z (o_load_B 0 H isAgg24 Z Z Z Z (gR Z (o_call call97 Z Z (TreeValid_c _ _ H.sub _ _ hr6 ) ?_)))))
   rintro _ w13 ⟨rfl, ew13⟩; have H := H.step ew13; refine ⟨_, rfl, ?_⟩
   refine gR Z (o_not Z Z (o_pick_f Z Z Z (mV Z ?_)))
   refine R_case (t := 36) Z ?_ ?_
   ·intro hc14
    try simp only [nrm] at hc14
    refine rP Z (rP Z (rP Z (rP Z (rP Z (rP Z (o_pick_t Z Z Z (q3 (W_true Z (q2 (aG Z (q3 (W_ret (N_B_ret (N_K_ret (N_LP_ret ?_)))))))))))))))
    refine N_B_ret (N_K_ret (rt1 results99 Z ?_))
    exact H.rets (congrArg Value.bool (by rw [Sp.l12Snaps, Sp.not_all_range (k := k) oM (by rw [Sp.okS_at hz6]; simp [*] <;> (intros; omega))]; rfl))
   intro hc14'
   try simp only [nrm] at hc14'
   refine gR Z (o_fieldAddr 0 runUnderlying27 Z sizeOf23 Z Z Z (gR Z (o_load_B 1 H isAgg23 Z Z Z Z (gR Z (o_fieldAddr 1 runUnderlying81 Z sizeOf24 Z Z Z (gR Z (o_load_B 0 H isAgg24 Z Z Z Z (gR Z (o_call call98 Z Z (l11Files_c _ _ H.sub _ _ hr1 _ _ hr6 ) ?_)))))))))
   rintro _ w15 ⟨rfl, ew15⟩; have H := H.step ew15; refine ⟨_, rfl, ?_⟩
   refine gR Z (o_not Z Z (o_pick_f Z Z Z (q3 ?_)))
   refine W_cond Z ?_ ?_
   ·intro hc16
    try simp only [nrm] at hc16
    refine q2 (aG Z (q3 (W_ret (N_B_ret (N_K_ret (N_LP_ret (N_B_ret (N_K_ret (rt1 results99 Z ?_)))))))))
    exact H.rets (congrArg Value.bool (by rw [Sp.l12Snaps, Sp.not_all_range (k := k) oM (by rw [Sp.okS_at hz6]; simp [*] <;> (intros; omega))]; rfl))
   intro hc16'
   try simp only [nrm] at hc16'
   refine W_skip (N_B (N_K (W_region (mV Z (o_add Z Z Z oO (aG Z (R_nil ?_)))))))
   have H := H.del (k := 0) rfl
   refine N_lp (hJ := ⟨k + 1, _, Z, hle4, H, ?inv, Z⟩) (hm := ?hm)
   case hm => omega
   case inv => exact ⟨by omega, Sp.upto_succ hall (by rw [Sp.okS_at hz6]; simp [*])⟩
  intro hc5'
  try simp only [nrm] at hc5'
  refine W_exit (N_K_exit (N_LP_exit (N_B_same (N_K (q2 (o_fieldAddr 2 runUnderlying27 Z sizeOf25 Z Z Z (o_load_B 0 H isAgg25 Z Z Z Z (o_len_slice underlying25 Z Z (o_leq Z Z Z (aG Z (q3 (W_ret (rt1 results99 Z ?_)))))))))))))
  exact H.rets (congrArg Value.bool (by rw [Sp.l12Snaps, Sp.all_range (fun j hj => hall j oM), Bool.true_and]; rw [Bool.eq_iff_iff]; simp; omega))
end Go.Proofs.Tst

namespace Go.Proofs.Tst
open Go Fw Tryz
theorem DiskValid_c (w0 : World) (G0 : PH) (hG : PSub G0 w0) (cd : List Value) (d : BDisk) (hd : diskE G0 d cd)  :
  Calls Tryz.prog 44 #[.agg cd.toArray] w0 (Rets w0 (.bool (Sp.DiskValid d))) := by
 obtain ⟨a1, m1, c1, a1', m1', c1', a1'', m1'', c1'', rfl, hr1, hr1', hr1''⟩ := hd; have hn_hr1 := hr1.len; have hx_hr1 : _ ≤ 1099511627776 := hr1.lim; have hn_hr1q := hr1'.len; have hx_hr1q : _ ≤ 1099511627776 := hr1'.lim; have hn_hr1qq := hr1''.len; have hx_hr1qq : _ ≤ 1099511627776 := hr1''.lim
 have H := Hp.init hG
 refine calls_of_W (l := [_]) func44 Z ntmps44 Z (q2 (o_box H Z Z Z ?_)); intro b2 w2 hb2 H
 refine aG Z (q3 (W_seq (q2 (o_fieldAddr 0 runUnderlying27 Z sizeOf23 Z Z Z (o_load_B 0 H isAgg23 Z Z Z Z (o_call call96 Z Z (StoreValid_c _ _ H.sub _ _ hr1 ) ?_))))))
 rintro _ w3 ⟨rfl, ew3⟩; have H := H.step ew3; refine ⟨_, rfl, ?_⟩
 refine o_not Z Z (mV Z ?_)
 refine R_case (t := 8) Z ?_ ?_
 ·intro hc4
  try simp only [nrm] at hc4
  refine rP Z (rP Z (rP Z (rP Z (o_pick_t Z Z Z (mV Z (rP Z (rP Z (rP Z (rP Z (rP Z (rP Z (o_pick_t Z Z Z (mV Z (rP Z (rP Z ?_)))))))))))))))
  refine rP Z (o_pick_t Z Z Z (q3 (W_true Z (q2 (aG Z (q3 (W_ret (N_K_ret (rt1 results44 Z ?_)))))))))
  exact H.rets (congrArg Value.bool (by simp [Sp.DiskValid, hc4]))
 intro hc4'
 try simp only [nrm] at hc4'
 refine gR Z (o_fieldAddr 1 runUnderlying27 Z sizeOf24 Z Z Z (gR Z (o_load_B 0 H isAgg24 Z Z Z Z (gR Z (o_call call97 Z Z (TreeValid_c _ _ H.sub _ _ hr1' ) ?_)))))
 rintro _ w5 ⟨rfl, ew5⟩; have H := H.step ew5; refine ⟨_, rfl, ?_⟩
 refine gR Z (o_not Z Z (o_pick_f Z Z Z (mV Z ?_)))
 refine R_case (t := 14) Z ?_ ?_
 ·intro hc6
  try simp only [nrm] at hc6
  refine rP Z (rP Z (rP Z (rP Z (rP Z (rP Z (o_pick_t Z Z Z (mV Z (rP Z (rP Z (rP Z (o_pick_t Z Z Z (q3 (W_true Z (q2 (aG Z ?_)))))))))))))))
  refine q3 (W_ret (N_K_ret (rt1 results44 Z ?_)))
  exact H.rets (congrArg Value.bool (by simp [Sp.DiskValid, hc6]))
 intro hc6'
 try simp only [nrm] at hc6'
 refine gR Z (o_fieldAddr 0 runUnderlying27 Z sizeOf23 Z Z Z (gR Z (o_load_B 0 H isAgg23 Z Z Z Z (gR Z (o_fieldAddr 1 runUnderlying27 Z sizeOf24 Z Z Z (gR Z (o_load_B 0 H isAgg24 Z Z Z Z (gR Z (o_call call98 Z Z (l11Files_c _ _ H.sub _ _ hr1 _ _ hr1' ) ?_)))))))))
 rintro _ w7 ⟨rfl, ew7⟩; have H := H.step ew7; refine ⟨_, rfl, ?_⟩
 refine gR Z (o_not Z Z (o_pick_f Z Z Z (mV Z ?_)))
 refine R_case (t := 22) Z ?_ ?_
 ·intro hc8
  try simp only [nrm] at hc8
  refine rP Z (rP Z (rP Z (o_pick_t Z Z Z (q3 (W_true Z (q2 (aG Z (q3 (W_ret (N_K_ret (rt1 results44 Z ?_)))))))))))
  exact H.rets (congrArg Value.bool (by simp [Sp.DiskValid, hc8]))
 intro hc8'
 try simp only [nrm] at hc8'
 refine gR Z (o_loadagg_B 0 H isAgg27 sizeOf27 Z Z Z Z Z (gR Z (o_call call99 Z Z (l12Snaps_c _ _ H.sub _ d ⟨_, _, _, _, _, _, _, _, _, Z, hr1, hr1', hr1''⟩ ) ?_)))
 rintro _ w9 ⟨rfl, ew9⟩; have H := H.step ew9; refine ⟨_, rfl, ?_⟩
 refine gR Z (o_not Z Z (o_pick_f Z Z Z (q3 ?_)))
 refine W_cond Z ?_ ?_
 ·intro hc10
  try simp only [nrm] at hc10
  refine q2 (aG Z (q3 (W_ret (N_K_ret (rt1 results44 Z ?_)))))
  exact H.rets (congrArg Value.bool (by simp [Sp.DiskValid, hc10]))
 intro hc10'
 try simp only [nrm] at hc10'
 refine W_skip (N_K (W_seq (q2 (aG Z (q3 (W_block ?_))))))
 obtain ⟨ln11, hln11, H⟩ := H.name (k := 0) rfl
 refine W_lp (hf := (Sub.cons (t := 1) Z Sub.nil)) (J := fun M w m => ∃ (k : Nat) (G : PH), M = [(3, .int .i64 (k : Int))] ∧ PLe G0 G ∧ Hp w0 G0 [] w G [blk b2 (cl ln11 27)] ∧ (k ≤ d.store.length ∧ (d.store.take k).all (Sp.usesD d) = true) ∧ m = (d.store.length - k)) (h0 := ⟨0, _, Z, PLe.refl _, H, ?inv, Z⟩) (round := ?round)
 case inv => exact ⟨by omega, by simp⟩
 case round =>
  rintro _ w12 _ ⟨k, G12, rfl, hle12, H, hinv12, rfl⟩
  subst hln11
  have hr1 := hr1.up hle12
  have hr1' := hr1'.up hle12
  have hr1'' := hr1''.up hle12
  obtain ⟨hk, hall⟩ := hinv12
  refine W_seq (q2 (mV Z (o_fieldAddr 0 runUnderlying27 Z sizeOf23 Z Z Z (o_load_B 0 H isAgg23 Z Z Z Z (o_len_slice underlying23 Z Z (o_lss Z Z Z (q3 ?_)))))))
  refine W_cond Z ?_ ?_
  ·intro hc13
   try simp only [nrm] at hc13
   refine W_skip (N_K (W_seq (W_block (W_seq (W_drawK [0] 15 H kR Z ?_))))); intro w14 H; have hd14 := PLe.refl G12
   refine RD_t 0 Z kR Z (fun _ hK => v_loadagg_B 0 hK isAgg27 sizeOf27 Z Z Z Z) (RD_t 1 Z kR Z (fun _ hK => v_fieldAddr 0 runUnderlying27 Z sizeOf23 Z Z) (RD_t 2 Z kR Z (fun _ hK => v_load_B 0 hK isAgg23 Z Z Z) (vM 3 Z Z ?_)))
   have hl15 := hr1.len
   obtain ⟨b15, o15, z15, q15, ha15, hz15, hq15, hE15, hrow15, _⟩ := hr1.at (i := k) oM
   clear hq15
   obtain ⟨a15, m15, c15, rfl, hi15, hr15, hj15⟩ := hE15; have hn_hr15 := hr15.len; have hx_hr15 : _ ≤ 1099511627776 := hr15.lim
   refine RD_t 4 Z kR Z (fun _ hK => v_index_P (i := k) ha15 underlying23 sizeOf105 Z Z Z oM) (RD_t 5 Z kR Z (fun _ hK => v_fieldAddr 0 runUnderlying105 Z sizeOf3 Z Z) (RD_t 6 Z kR Z (fun _ hK => v_load_P hK isAgg3 Z (hrow15 0 _ Z)) (RD_t 8 Z kR Z (fun _ hK => v_fieldAddr 0 runUnderlying27 Z sizeOf23 Z Z) (RD_t 9 Z kR Z (fun _ hK => v_load_B 0 hK isAgg23 Z Z Z) (vM 10 Z Z ?_)))))
   have hl16 := hr1.len
   obtain ⟨b16, o16, z16, q16, ha16, hz16, hq16, hE16, hrow16, _⟩ := hr1.at (i := k) oM
   clear hq16
   obtain ⟨a16, m16, c16, rfl, hi16, hr16, hj16⟩ := hE16; have hn_hr16 := hr16.len; have hx_hr16 : _ ≤ 1099511627776 := hr16.lim
   have hzz16 : z15 = z16 := Option.some.inj (hz15.symm.trans hz16)
   subst hzz16
   refine RD_t 11 Z kR Z (fun _ hK => v_index_P (i := k) ha16 underlying23 sizeOf105 Z Z Z oM) (RD_t 12 Z kR Z (fun _ hK => v_fieldAddr 2 runUnderlying105 Z sizeOf3 Z Z) (RD_t 13 Z kR Z (fun _ hK => v_load_P hK isAgg3 Z (hrow16 2 _ Z)) ?_))
   refine RD_run [7] kR Z (RDs.cons Z ?_ RDs.nil)
   refine o_call call100 Z Z (l12Count_c _ _ H.sub _ d ⟨_, _, _, _, _, _, _, _, _, Z, hr1, hr1', hr1''⟩ _ hc6' hc10') ?_
   rintro _ w17 ⟨rfl, ew17⟩; have H := H.step ew17; refine ⟨_, rfl, ?_⟩
   refine R_nil (N_DK (Kn.of' H hd14 (SubL.cons 0 Z SubL.nil)) (RD_t 14 Z kR Z (fun _ hK => v_neq Z Z) (RD_done kR (N_K ?_))))
   refine W_cond Z ?_ ?_
   ·intro hc18
    try simp only [nrm] at hc18
    refine q2 (aG Z (q3 (W_ret (N_B_ret (N_K_ret (N_LP_ret (N_B_ret (N_K_ret (rt1 results44 Z ?_)))))))))
    exact H.rets (congrArg Value.bool (by rw [Sp.DiskValid, Sp.all_false hz15 (by simp [Sp.usesD, *])]; rfl))
   intro hc18'
   try simp only [nrm] at hc18'
   refine W_skip (N_B (N_K (W_region (mV Z (o_add Z Z Z oO (aG Z (R_nil ?_)))))))
   refine N_lp (hJ := ⟨k + 1, _, Z, hle12, H, ?inv, Z⟩) (hm := ?hm)
   case hm => omega
   case inv => exact ⟨by omega, Sp.all_take hall hz15 (by simp [Sp.usesD, *])⟩
  intro hc13'
  try simp only [nrm] at hc13'
  refine W_exit (N_K_exit (N_LP_exit (N_B_same (N_K (q2 (aG Z (q3 (W_ret (rt1 results44 Z ?_)))))))))
  obtain rfl : k = d.store.length := by omega
  rw [List.take_length] at hall
  exact H.rets (congrArg Value.bool (by simp [Sp.DiskValid, hall, hc4', hc6', hc8', hc10']))
end Go.Proofs.Tst

namespace Go.Proofs.Tst
open Go Fw Tryz
theorem l12Copy_c (w0 : World) (G0 : PH) (hG : PSub G0 w0) (cd : List Value) (d : BDisk) (hd : diskE G0 d cd)  :
  Calls Tryz.prog 48 #[.agg cd.toArray] w0 (RetO w0 G0 (fun G val r => ∃ u u1 u2, val = .agg #[u, u1, u2] ∧ AccOf snapE 2 81 d.snaps G u2 r ∧ RdH G u d.store ∧ RdItems G u1 d.tree)) := by
 obtain ⟨a1, m1, c1, a1', m1', c1', a1'', m1'', c1'', rfl, hr1, hr1', hr1''⟩ := hd; have hn_hr1 := hr1.len; have hx_hr1 : _ ≤ 1099511627776 := hr1.lim; have hn_hr1q := hr1'.len; have hx_hr1q : _ ≤ 1099511627776 := hr1'.lim; have hn_hr1qq := hr1''.len; have hx_hr1qq : _ ≤ 1099511627776 := hr1''.lim
 have H := Hp.init hG
 refine calls_of_W (l := [_]) func48 Z ntmps48 Z (q2 (o_box H Z Z Z ?_)); intro b2 w2 hb2 H
 refine o_alloc H zeroValue27 Z Z ?_; intro b3 w3 hb3 H
 refine q3 ?_
 obtain ⟨ljb3, hljb3, H⟩ := H.name (k := 0) rfl
 obtain ⟨ljb2, hljb2, H⟩ := H.name (k := 1) rfl
 have hj4 := PLe.refl G0
 refine W_join (hf := (Sub.cons (t := 1) Z (Sub.cons (t := 2) Z Sub.nil))) (J := fun M w => ∃ (jb : Nat) (ja jc : Option Addr) (jm jk jn jl : Nat) (ve : Value) (ce : List Value) (ne : Nat) (G : PH), M = [(3, .pointer (some ⟨jb, 0, none⟩))] ∧ PLe G0 G ∧ Hp w0 G0 [] w G [acc 81 2 ve ne ce, blk jb (cl [.slice ja jm jk, .slice jc jn jl, ve] 27), blk b3 (cl ljb3 27), blk b2 (cl ljb2 27)] ∧ (RdH G (.slice ja jm jk) d.store ∧ RdItems G (.slice jc jn jl) d.tree ∧ Chk snapE 2 G ce ([] : List BSnap) ∧ ne = 0)) (first := ?_) (second := ?_)
 ·skip
  subst hljb3
  subst hljb2
  refine W_drawK [0, 1] 10 H kR Z ?_; intro w5 H; have hd5 := PLe.refl G0
  refine RD_t 0 Z kR Z (fun _ hK => v_fieldAddr 0 runUnderlying27 Z sizeOf23 Z Z) (RD_t 1 Z kR Z (fun _ hK => v_load_B 1 hK isAgg23 Z Z Z) (RD_t 3 Z kR Z (fun _ hK => v_fieldAddr 1 runUnderlying27 Z sizeOf24 Z Z) (RD_t 4 Z kR Z (fun _ hK => v_load_B 1 hK isAgg24 Z Z Z) ?_)))
  refine RD_run [2, 6, 8] kR Z (RDs.cons Z ?_ (RDs.cons Z ?_ (RDs.cons Z ?_ RDs.nil)))
  ·skip
   refine o_call call102 Z Z (l3Copy_c _ _ H.sub _ _ hr1 ) ?_
   rintro _ w6 ⟨G6, v6, _, g6, rfl, ⟨cs6, rfl, hchk6⟩, hp6, hq6, hs6⟩
   have H := H.growO g6 hp6 hq6 hs6; obtain ⟨av6, cv6, rfl⟩ := H.accShape (k := 0) rfl
   have hr1' := hr1'.up g6.le
   have hj4 := hj4.trans g6.le
   have hd5 := hd5.trans g6.le
   refine ⟨_, Z, ?_⟩
   refine R_nil (N_DK (Kn.of' H hd5 (SubL.cons 1 Z (SubL.cons 2 Z SubL.nil))) ?_)
   refine RD_run [5, 6, 8] kR Z (RDs.cons Z ?_ (RDs.cons Z ?_ (RDs.cons Z ?_ RDs.nil)))
   ·skip
    refine o_call call49 Z Z (l5All_c _ _ H.sub _ _ hr1' ) ?_
    rintro _ w7 ⟨G7, v7, _, g7, rfl, ⟨cs7, rfl, hchk7⟩, hp7, hq7, hs7⟩
    have H := H.growO g7 hp7 hq7 hs7; obtain ⟨av7, cv7, rfl⟩ := H.accShape (k := 0) rfl
    have hchk6 := hchk6.up g7.le
    have hj4 := hj4.trans g7.le
    have hd5 := hd5.trans g7.le
    refine ⟨_, Z, ?_⟩
    refine R_nil (N_DK (Kn.of' H hd5 (SubL.cons 2 Z (SubL.cons 3 Z SubL.nil))) ?_)
    refine RD_run [6, 8] kR Z (RDs.cons Z ?_ (RDs.cons Z ?_ RDs.nil))
    ·skip
     refine o_buildSlice H underlying25 sizeOf81 (fun w => ⟨_, zeroValue81 w, Z⟩) Z Z Z Z Z Z Z ?_; intro b8 w8 hb8 H
     have H := H.blkAcc 2 (k := 0) (n := 0) rfl rfl (by decide)
     refine R_nil (N_DK (Kn.of' H hd5 (SubL.cons 3 Z (SubL.cons 4 Z SubL.nil))) (RD_t 7 Z kR Z (fun _ hK => v_build bf27 Z Z) ?_))
     refine RD_run [8] kR Z (RDs.cons Z ?_ RDs.nil)
     refine o_alloc H zeroValue27 Z Z ?_; intro b9 w9 hb9 H
     refine R_nil (N_DK (Kn.of' H hd5 (SubL.cons 4 Z (SubL.cons 5 Z SubL.nil))) ?_)
     refine RD_run [9] kR Z (RDs.cons Z ?_ RDs.nil)
     refine o_store_B 0 H sizeOf27 Z Z Z Z Z Z Z Z ?_; intro w10 H
     refine R_nil (N_DKlast kR kR ?_)
     obtain ⟨G512, H, hsg512, hsr512⟩ := H.shut' (k := 3) rfl hchk6 aN aN
     have hchk7 := hchk7.up hsg512
     have hj4 := hj4.trans hsg512
     obtain ⟨G513, H, hsg513, hsr513⟩ := H.shut' (k := 2) rfl hchk7 aN aN
     have hsr512 := hsr512.up hsg513
     have hj4 := hj4.trans hsg513
     have H := H.toFront (k := 3) rfl
     have H := H.toFront (k := 3) rfl
     have H := H.toFront (k := 2) rfl
     have H := H.toFront (k := 3) rfl
     exact N_J ⟨_, _, _, _, _, _, _, _, _, _, _, Z, hj4, H, ⟨hsr512, hsr513, (Chk.nil (E := snapE) (sz := 2) (G := G513)), Z⟩⟩
    skip
    refine o_alloc H zeroValue27 Z Z ?_; intro b11 w11 hb11 H
    refine R_nil (N_DK (Kn.of' H hd5 (SubL.cons 3 Z (SubL.cons 4 Z SubL.nil))) ?_)
    refine RD_run [6] kR Z (RDs.cons Z ?_ RDs.nil)
    refine o_buildSlice H underlying25 sizeOf81 (fun w => ⟨_, zeroValue81 w, Z⟩) Z Z Z Z Z Z Z ?_; intro b12 w12 hb12 H
    have H := H.blkAcc 2 (k := 0) (n := 0) rfl rfl (by decide)
    refine R_nil (N_DK (Kn.of' H hd5 (SubL.cons 4 Z (SubL.cons 5 Z SubL.nil))) (RD_t 7 Z kR Z (fun _ hK => v_build bf27 Z Z) ?_))
    refine RD_run [9] kR Z (RDs.cons Z ?_ RDs.nil)
    refine o_store_B 1 H sizeOf27 Z Z Z Z Z Z Z Z ?_; intro w13 H
    refine R_nil (N_DKlast kR kR ?_)
    obtain ⟨G517, H, hsg517, hsr517⟩ := H.shut' (k := 3) rfl hchk6 aN aN
    have hchk7 := hchk7.up hsg517
    have hj4 := hj4.trans hsg517
    obtain ⟨G518, H, hsg518, hsr518⟩ := H.shut' (k := 2) rfl hchk7 aN aN
    have hsr517 := hsr517.up hsg518
    have hj4 := hj4.trans hsg518
    have H := H.toFront (k := 3) rfl
    have H := H.toFront (k := 3) rfl
    have H := H.toFront (k := 3) rfl
    have H := H.toFront (k := 3) rfl
    exact N_J ⟨_, _, _, _, _, _, _, _, _, _, _, Z, hj4, H, ⟨hsr517, hsr518, (Chk.nil (E := snapE) (sz := 2) (G := G518)), Z⟩⟩
   ·skip
    refine o_buildSlice H underlying25 sizeOf81 (fun w => ⟨_, zeroValue81 w, Z⟩) Z Z Z Z Z Z Z ?_; intro b14 w14 hb14 H
    have H := H.blkAcc 2 (k := 0) (n := 0) rfl rfl (by decide)
    refine R_nil (N_DK (Kn.of' H hd5 (SubL.cons 2 Z (SubL.cons 3 Z SubL.nil))) ?_)
    refine RD_run [5, 8] kR Z (RDs.cons Z ?_ (RDs.cons Z ?_ RDs.nil))
    ·skip
     refine o_call call49 Z Z (l5All_c _ _ H.sub _ _ hr1' ) ?_
     rintro _ w15 ⟨G15, v15, _, g15, rfl, ⟨cs15, rfl, hchk15⟩, hp15, hq15, hs15⟩
     have H := H.growO g15 hp15 hq15 hs15; obtain ⟨av15, cv15, rfl⟩ := H.accShape (k := 0) rfl
     have hchk6 := hchk6.up g15.le
     have hj4 := hj4.trans g15.le
     have hd5 := hd5.trans g15.le
     refine ⟨_, Z, ?_⟩
     refine R_nil (N_DK (Kn.of' H hd5 (SubL.cons 3 Z (SubL.cons 4 Z SubL.nil))) (RD_t 7 Z kR Z (fun _ hK => v_build bf27 Z Z) ?_))
     refine RD_run [8] kR Z (RDs.cons Z ?_ RDs.nil)
     refine o_alloc H zeroValue27 Z Z ?_; intro b16 w16 hb16 H
     refine R_nil (N_DK (Kn.of' H hd5 (SubL.cons 4 Z (SubL.cons 5 Z SubL.nil))) ?_)
     refine RD_run [9] kR Z (RDs.cons Z ?_ RDs.nil)
     refine o_store_B 0 H sizeOf27 Z Z Z Z Z Z Z Z ?_; intro w17 H
     refine R_nil (N_DKlast kR kR ?_)
     obtain ⟨G523, H, hsg523, hsr523⟩ := H.shut' (k := 3) rfl hchk6 aN aN
     have hchk15 := hchk15.up hsg523
     have hj4 := hj4.trans hsg523
     obtain ⟨G524, H, hsg524, hsr524⟩ := H.shut' (k := 1) rfl hchk15 aN aN
     have hsr523 := hsr523.up hsg524
     have hj4 := hj4.trans hsg524
     have H := H.toFront (k := 3) rfl
     have H := H.toFront (k := 3) rfl
     have H := H.toFront (k := 2) rfl
     have H := H.toFront (k := 3) rfl
     exact N_J ⟨_, _, _, _, _, _, _, _, _, _, _, Z, hj4, H, ⟨hsr523, hsr524, (Chk.nil (E := snapE) (sz := 2) (G := G524)), Z⟩⟩
    skip
    refine o_alloc H zeroValue27 Z Z ?_; intro b18 w18 hb18 H
    refine R_nil (N_DK (Kn.of' H hd5 (SubL.cons 3 Z (SubL.cons 4 Z SubL.nil))) ?_)
    refine RD_run [5] kR Z (RDs.cons Z ?_ RDs.nil)
    refine o_call call49 Z Z (l5All_c _ _ H.sub _ _ hr1' ) ?_
    rintro _ w19 ⟨G19, v19, _, g19, rfl, ⟨cs19, rfl, hchk19⟩, hp19, hq19, hs19⟩
    have H := H.growO g19 hp19 hq19 hs19; obtain ⟨av19, cv19, rfl⟩ := H.accShape (k := 0) rfl
    have hchk6 := hchk6.up g19.le
    have hj4 := hj4.trans g19.le
    have hd5 := hd5.trans g19.le
    refine ⟨_, Z, ?_⟩
    refine R_nil (N_DK (Kn.of' H hd5 (SubL.cons 4 Z (SubL.cons 5 Z SubL.nil))) (RD_t 7 Z kR Z (fun _ hK => v_build bf27 Z Z) ?_))
    refine RD_run [9] kR Z (RDs.cons Z ?_ RDs.nil)
    refine o_store_B 1 H sizeOf27 Z Z Z Z Z Z Z Z ?_; intro w20 H
    refine R_nil (N_DKlast kR kR ?_)
    obtain ⟨G528, H, hsg528, hsr528⟩ := H.shut' (k := 3) rfl hchk6 aN aN
    have hchk19 := hchk19.up hsg528
    have hj4 := hj4.trans hsg528
    obtain ⟨G529, H, hsg529, hsr529⟩ := H.shut' (k := 0) rfl hchk19 aN aN
    have hsr528 := hsr528.up hsg529
    have hj4 := hj4.trans hsg529
    have H := H.toFront (k := 3) rfl
    have H := H.toFront (k := 3) rfl
    have H := H.toFront (k := 2) rfl
    have H := H.toFront (k := 3) rfl
    exact N_J ⟨_, _, _, _, _, _, _, _, _, _, _, Z, hj4, H, ⟨hsr528, hsr529, (Chk.nil (E := snapE) (sz := 2) (G := G529)), Z⟩⟩
   skip
   refine o_alloc H zeroValue27 Z Z ?_; intro b21 w21 hb21 H
   refine R_nil (N_DK (Kn.of' H hd5 (SubL.cons 2 Z (SubL.cons 3 Z SubL.nil))) ?_)
   refine RD_run [5, 6] kR Z (RDs.cons Z ?_ (RDs.cons Z ?_ RDs.nil))
   ·skip
    refine o_call call49 Z Z (l5All_c _ _ H.sub _ _ hr1' ) ?_
    rintro _ w22 ⟨G22, v22, _, g22, rfl, ⟨cs22, rfl, hchk22⟩, hp22, hq22, hs22⟩
    have H := H.growO g22 hp22 hq22 hs22; obtain ⟨av22, cv22, rfl⟩ := H.accShape (k := 0) rfl
    have hchk6 := hchk6.up g22.le
    have hj4 := hj4.trans g22.le
    have hd5 := hd5.trans g22.le
    refine ⟨_, Z, ?_⟩
    refine R_nil (N_DK (Kn.of' H hd5 (SubL.cons 3 Z (SubL.cons 4 Z SubL.nil))) ?_)
    refine RD_run [6] kR Z (RDs.cons Z ?_ RDs.nil)
    refine o_buildSlice H underlying25 sizeOf81 (fun w => ⟨_, zeroValue81 w, Z⟩) Z Z Z Z Z Z Z ?_; intro b23 w23 hb23 H
    have H := H.blkAcc 2 (k := 0) (n := 0) rfl rfl (by decide)
    refine R_nil (N_DK (Kn.of' H hd5 (SubL.cons 4 Z (SubL.cons 5 Z SubL.nil))) (RD_t 7 Z kR Z (fun _ hK => v_build bf27 Z Z) ?_))
    refine RD_run [9] kR Z (RDs.cons Z ?_ RDs.nil)
    refine o_store_B 2 H sizeOf27 Z Z Z Z Z Z Z Z ?_; intro w24 H
    refine R_nil (N_DKlast kR kR ?_)
    obtain ⟨G534, H, hsg534, hsr534⟩ := H.shut' (k := 3) rfl hchk6 aN aN
    have hchk22 := hchk22.up hsg534
    have hj4 := hj4.trans hsg534
    obtain ⟨G535, H, hsg535, hsr535⟩ := H.shut' (k := 1) rfl hchk22 aN aN
    have hsr534 := hsr534.up hsg535
    have hj4 := hj4.trans hsg535
    have H := H.toFront (k := 3) rfl
    have H := H.toFront (k := 3) rfl
    have H := H.toFront (k := 3) rfl
    have H := H.toFront (k := 3) rfl
    exact N_J ⟨_, _, _, _, _, _, _, _, _, _, _, Z, hj4, H, ⟨hsr534, hsr535, (Chk.nil (E := snapE) (sz := 2) (G := G535)), Z⟩⟩
   skip
   refine o_buildSlice H underlying25 sizeOf81 (fun w => ⟨_, zeroValue81 w, Z⟩) Z Z Z Z Z Z Z ?_; intro b25 w25 hb25 H
   have H := H.blkAcc 2 (k := 0) (n := 0) rfl rfl (by decide)
   refine R_nil (N_DK (Kn.of' H hd5 (SubL.cons 3 Z (SubL.cons 4 Z SubL.nil))) ?_)
   refine RD_run [5] kR Z (RDs.cons Z ?_ RDs.nil)
   refine o_call call49 Z Z (l5All_c _ _ H.sub _ _ hr1' ) ?_
   rintro _ w26 ⟨G26, v26, _, g26, rfl, ⟨cs26, rfl, hchk26⟩, hp26, hq26, hs26⟩
   have H := H.growO g26 hp26 hq26 hs26; obtain ⟨av26, cv26, rfl⟩ := H.accShape (k := 0) rfl
   have hchk6 := hchk6.up g26.le
   have hj4 := hj4.trans g26.le
   have hd5 := hd5.trans g26.le
   refine ⟨_, Z, ?_⟩
   refine R_nil (N_DK (Kn.of' H hd5 (SubL.cons 4 Z (SubL.cons 5 Z SubL.nil))) (RD_t 7 Z kR Z (fun _ hK => v_build bf27 Z Z) ?_))
   refine RD_run [9] kR Z (RDs.cons Z ?_ RDs.nil)
   refine o_store_B 2 H sizeOf27 Z Z Z Z Z Z Z Z ?_; intro w27 H
   refine R_nil (N_DKlast kR kR ?_)
   obtain ⟨G539, H, hsg539, hsr539⟩ := H.shut' (k := 3) rfl hchk6 aN aN
   have hchk26 := hchk26.up hsg539
   have hj4 := hj4.trans hsg539
   obtain ⟨G540, H, hsg540, hsr540⟩ := H.shut' (k := 0) rfl hchk26 aN aN
   have hsr539 := hsr539.up hsg540
   have hj4 := hj4.trans hsg540
   have H := H.toFront (k := 3) rfl
   have H := H.toFront (k := 3) rfl
   have H := H.toFront (k := 3) rfl
   have H := H.toFront (k := 3) rfl
   exact N_J ⟨_, _, _, _, _, _, _, _, _, _, _, Z, hj4, H, ⟨hsr539, hsr540, (Chk.nil (E := snapE) (sz := 2) (G := G540)), Z⟩⟩
  ·skip
   refine o_buildSlice H underlying25 sizeOf81 (fun w => ⟨_, zeroValue81 w, Z⟩) Z Z Z Z Z Z Z ?_; intro b28 w28 hb28 H
   have H := H.blkAcc 2 (k := 0) (n := 0) rfl rfl (by decide)
   refine R_nil (N_DK (Kn.of' H hd5 (SubL.cons 1 Z (SubL.cons 2 Z SubL.nil))) ?_)
   refine RD_run [2, 8] kR Z (RDs.cons Z ?_ (RDs.cons Z ?_ RDs.nil))
   ·skip
    refine o_call call102 Z Z (l3Copy_c _ _ H.sub _ _ hr1 ) ?_
    rintro _ w29 ⟨G29, v29, _, g29, rfl, ⟨cs29, rfl, hchk29⟩, hp29, hq29, hs29⟩
    have H := H.growO g29 hp29 hq29 hs29; obtain ⟨av29, cv29, rfl⟩ := H.accShape (k := 0) rfl
    have hr1' := hr1'.up g29.le
    have hj4 := hj4.trans g29.le
    have hd5 := hd5.trans g29.le
    refine ⟨_, Z, ?_⟩
    refine R_nil (N_DK (Kn.of' H hd5 (SubL.cons 2 Z (SubL.cons 3 Z SubL.nil))) ?_)
    refine RD_run [5, 8] kR Z (RDs.cons Z ?_ (RDs.cons Z ?_ RDs.nil))
    ·skip
     refine o_call call49 Z Z (l5All_c _ _ H.sub _ _ hr1' ) ?_
     rintro _ w30 ⟨G30, v30, _, g30, rfl, ⟨cs30, rfl, hchk30⟩, hp30, hq30, hs30⟩
     have H := H.growO g30 hp30 hq30 hs30; obtain ⟨av30, cv30, rfl⟩ := H.accShape (k := 0) rfl
     have hchk29 := hchk29.up g30.le
     have hj4 := hj4.trans g30.le
     have hd5 := hd5.trans g30.le
     refine ⟨_, Z, ?_⟩
     refine R_nil (N_DK (Kn.of' H hd5 (SubL.cons 3 Z (SubL.cons 4 Z SubL.nil))) (RD_t 7 Z kR Z (fun _ hK => v_build bf27 Z Z) ?_))
     refine RD_run [8] kR Z (RDs.cons Z ?_ RDs.nil)
     refine o_alloc H zeroValue27 Z Z ?_; intro b31 w31 hb31 H
     refine R_nil (N_DK (Kn.of' H hd5 (SubL.cons 4 Z (SubL.cons 5 Z SubL.nil))) ?_)
     refine RD_run [9] kR Z (RDs.cons Z ?_ RDs.nil)
     refine o_store_B 0 H sizeOf27 Z Z Z Z Z Z Z Z ?_; intro w32 H
     refine R_nil (N_DKlast kR kR ?_)
     obtain ⟨G546, H, hsg546, hsr546⟩ := H.shut' (k := 2) rfl hchk29 aN aN
     have hchk30 := hchk30.up hsg546
     have hj4 := hj4.trans hsg546
     obtain ⟨G547, H, hsg547, hsr547⟩ := H.shut' (k := 1) rfl hchk30 aN aN
     have hsr546 := hsr546.up hsg547
     have hj4 := hj4.trans hsg547
     have H := H.toFront (k := 3) rfl
     have H := H.toFront (k := 3) rfl
     have H := H.toFront (k := 2) rfl
     have H := H.toFront (k := 3) rfl
     exact N_J ⟨_, _, _, _, _, _, _, _, _, _, _, Z, hj4, H, ⟨hsr546, hsr547, (Chk.nil (E := snapE) (sz := 2) (G := G547)), Z⟩⟩
    skip
    refine o_alloc H zeroValue27 Z Z ?_; intro b33 w33 hb33 H
    refine R_nil (N_DK (Kn.of' H hd5 (SubL.cons 3 Z (SubL.cons 4 Z SubL.nil))) ?_)
    refine RD_run [5] kR Z (RDs.cons Z ?_ RDs.nil)
    refine o_call call49 Z Z (l5All_c _ _ H.sub _ _ hr1' ) ?_
    rintro _ w34 ⟨G34, v34, _, g34, rfl, ⟨cs34, rfl, hchk34⟩, hp34, hq34, hs34⟩
    have H := H.growO g34 hp34 hq34 hs34; obtain ⟨av34, cv34, rfl⟩ := H.accShape (k := 0) rfl
    have hchk29 := hchk29.up g34.le
    have hj4 := hj4.trans g34.le
    have hd5 := hd5.trans g34.le
    refine ⟨_, Z, ?_⟩
    refine R_nil (N_DK (Kn.of' H hd5 (SubL.cons 4 Z (SubL.cons 5 Z SubL.nil))) (RD_t 7 Z kR Z (fun _ hK => v_build bf27 Z Z) ?_))
    refine RD_run [9] kR Z (RDs.cons Z ?_ RDs.nil)
    refine o_store_B 1 H sizeOf27 Z Z Z Z Z Z Z Z ?_; intro w35 H
    refine R_nil (N_DKlast kR kR ?_)
    obtain ⟨G551, H, hsg551, hsr551⟩ := H.shut' (k := 2) rfl hchk29 aN aN
    have hchk34 := hchk34.up hsg551
    have hj4 := hj4.trans hsg551
    obtain ⟨G552, H, hsg552, hsr552⟩ := H.shut' (k := 0) rfl hchk34 aN aN
    have hsr551 := hsr551.up hsg552
    have hj4 := hj4.trans hsg552
    have H := H.toFront (k := 3) rfl
    have H := H.toFront (k := 3) rfl
    have H := H.toFront (k := 2) rfl
    have H := H.toFront (k := 3) rfl
    exact N_J ⟨_, _, _, _, _, _, _, _, _, _, _, Z, hj4, H, ⟨hsr551, hsr552, (Chk.nil (E := snapE) (sz := 2) (G := G552)), Z⟩⟩
   skip
   refine o_alloc H zeroValue27 Z Z ?_; intro b36 w36 hb36 H
   refine R_nil (N_DK (Kn.of' H hd5 (SubL.cons 2 Z (SubL.cons 3 Z SubL.nil))) ?_)
   refine RD_run [2] kR Z (RDs.cons Z ?_ RDs.nil)
   refine o_call call102 Z Z (l3Copy_c _ _ H.sub _ _ hr1 ) ?_
   rintro _ w37 ⟨G37, v37, _, g37, rfl, ⟨cs37, rfl, hchk37⟩, hp37, hq37, hs37⟩
   have H := H.growO g37 hp37 hq37 hs37; obtain ⟨av37, cv37, rfl⟩ := H.accShape (k := 0) rfl
   have hr1' := hr1'.up g37.le
   have hj4 := hj4.trans g37.le
   have hd5 := hd5.trans g37.le
   refine ⟨_, Z, ?_⟩
   refine R_nil (N_DK (Kn.of' H hd5 (SubL.cons 3 Z (SubL.cons 4 Z SubL.nil))) ?_)
   refine RD_run [5] kR Z (RDs.cons Z ?_ RDs.nil)
   refine o_call call49 Z Z (l5All_c _ _ H.sub _ _ hr1' ) ?_
   rintro _ w38 ⟨G38, v38, _, g38, rfl, ⟨cs38, rfl, hchk38⟩, hp38, hq38, hs38⟩
   have H := H.growO g38 hp38 hq38 hs38; obtain ⟨av38, cv38, rfl⟩ := H.accShape (k := 0) rfl
   have hchk37 := hchk37.up g38.le
   have hj4 := hj4.trans g38.le
   have hd5 := hd5.trans g38.le
   refine ⟨_, Z, ?_⟩
   refine R_nil (N_DK (Kn.of' H hd5 (SubL.cons 4 Z (SubL.cons 5 Z SubL.nil))) (RD_t 7 Z kR Z (fun _ hK => v_build bf27 Z Z) ?_))
   refine RD_run [9] kR Z (RDs.cons Z ?_ RDs.nil)
   refine o_store_B 2 H sizeOf27 Z Z Z Z Z Z Z Z ?_; intro w39 H
   refine R_nil (N_DKlast kR kR ?_)
   obtain ⟨G557, H, hsg557, hsr557⟩ := H.shut' (k := 1) rfl hchk37 aN aN
   have hchk38 := hchk38.up hsg557
   have hj4 := hj4.trans hsg557
   obtain ⟨G558, H, hsg558, hsr558⟩ := H.shut' (k := 0) rfl hchk38 aN aN
   have hsr557 := hsr557.up hsg558
   have hj4 := hj4.trans hsg558
   have H := H.toFront (k := 3) rfl
   have H := H.toFront (k := 3) rfl
   have H := H.toFront (k := 2) rfl
   have H := H.toFront (k := 3) rfl
   exact N_J ⟨_, _, _, _, _, _, _, _, _, _, _, Z, hj4, H, ⟨hsr557, hsr558, (Chk.nil (E := snapE) (sz := 2) (G := G558)), Z⟩⟩
  skip
  refine o_alloc H zeroValue27 Z Z ?_; intro b40 w40 hb40 H
  refine R_nil (N_DK (Kn.of' H hd5 (SubL.cons 1 Z (SubL.cons 2 Z SubL.nil))) ?_)
  refine RD_run [2, 6] kR Z (RDs.cons Z ?_ (RDs.cons Z ?_ RDs.nil))
  ·skip
   refine o_call call102 Z Z (l3Copy_c _ _ H.sub _ _ hr1 ) ?_
   rintro _ w41 ⟨G41, v41, _, g41, rfl, ⟨cs41, rfl, hchk41⟩, hp41, hq41, hs41⟩
   have H := H.growO g41 hp41 hq41 hs41; obtain ⟨av41, cv41, rfl⟩ := H.accShape (k := 0) rfl
   have hr1' := hr1'.up g41.le
   have hj4 := hj4.trans g41.le
   have hd5 := hd5.trans g41.le
   refine ⟨_, Z, ?_⟩
   refine R_nil (N_DK (Kn.of' H hd5 (SubL.cons 2 Z (SubL.cons 3 Z SubL.nil))) ?_)
   refine RD_run [5, 6] kR Z (RDs.cons Z ?_ (RDs.cons Z ?_ RDs.nil))
   ·skip
    refine o_call call49 Z Z (l5All_c _ _ H.sub _ _ hr1' ) ?_
    rintro _ w42 ⟨G42, v42, _, g42, rfl, ⟨cs42, rfl, hchk42⟩, hp42, hq42, hs42⟩
    have H := H.growO g42 hp42 hq42 hs42; obtain ⟨av42, cv42, rfl⟩ := H.accShape (k := 0) rfl
    have hchk41 := hchk41.up g42.le
    have hj4 := hj4.trans g42.le
    have hd5 := hd5.trans g42.le
    refine ⟨_, Z, ?_⟩
    refine R_nil (N_DK (Kn.of' H hd5 (SubL.cons 3 Z (SubL.cons 4 Z SubL.nil))) ?_)
    refine RD_run [6] kR Z (RDs.cons Z ?_ RDs.nil)
    refine o_buildSlice H underlying25 sizeOf81 (fun w => ⟨_, zeroValue81 w, Z⟩) Z Z Z Z Z Z Z ?_; intro b43 w43 hb43 H
    have H := H.blkAcc 2 (k := 0) (n := 0) rfl rfl (by decide)
    refine R_nil (N_DK (Kn.of' H hd5 (SubL.cons 4 Z (SubL.cons 5 Z SubL.nil))) (RD_t 7 Z kR Z (fun _ hK => v_build bf27 Z Z) ?_))
    refine RD_run [9] kR Z (RDs.cons Z ?_ RDs.nil)
    refine o_store_B 3 H sizeOf27 Z Z Z Z Z Z Z Z ?_; intro w44 H
    refine R_nil (N_DKlast kR kR ?_)
    obtain ⟨G564, H, hsg564, hsr564⟩ := H.shut' (k := 2) rfl hchk41 aN aN
    have hchk42 := hchk42.up hsg564
    have hj4 := hj4.trans hsg564
    obtain ⟨G565, H, hsg565, hsr565⟩ := H.shut' (k := 1) rfl hchk42 aN aN
    have hsr564 := hsr564.up hsg565
    have hj4 := hj4.trans hsg565
    have H := H.toFront (k := 3) rfl
    have H := H.toFront (k := 3) rfl
    have H := H.toFront (k := 3) rfl
    have H := H.toFront (k := 3) rfl
    exact N_J ⟨_, _, _, _, _, _, _, _, _, _, _, Z, hj4, H, ⟨hsr564, hsr565, (Chk.nil (E := snapE) (sz := 2) (G := G565)), Z⟩⟩
   skip
   refine o_buildSlice H underlying25 sizeOf81 (fun w => ⟨_, zeroValue81 w, Z⟩) Z Z Z Z Z Z Z ?_; intro b45 w45 hb45 H
   have H := H.blkAcc 2 (k := 0) (n := 0) rfl rfl (by decide)
   refine R_nil (N_DK (Kn.of' H hd5 (SubL.cons 3 Z (SubL.cons 4 Z SubL.nil))) ?_)
   refine RD_run [5] kR Z (RDs.cons Z ?_ RDs.nil)
   refine o_call call49 Z Z (l5All_c _ _ H.sub _ _ hr1' ) ?_
   rintro _ w46 ⟨G46, v46, _, g46, rfl, ⟨cs46, rfl, hchk46⟩, hp46, hq46, hs46⟩
   have H := H.growO g46 hp46 hq46 hs46; obtain ⟨av46, cv46, rfl⟩ := H.accShape (k := 0) rfl
   have hchk41 := hchk41.up g46.le
   have hj4 := hj4.trans g46.le
   have hd5 := hd5.trans g46.le
   refine ⟨_, Z, ?_⟩
   refine R_nil (N_DK (Kn.of' H hd5 (SubL.cons 4 Z (SubL.cons 5 Z SubL.nil))) (RD_t 7 Z kR Z (fun _ hK => v_build bf27 Z Z) ?_))
   refine RD_run [9] kR Z (RDs.cons Z ?_ RDs.nil)
   refine o_store_B 3 H sizeOf27 Z Z Z Z Z Z Z Z ?_; intro w47 H
   refine R_nil (N_DKlast kR kR ?_)
   obtain ⟨G569, H, hsg569, hsr569⟩ := H.shut' (k := 2) rfl hchk41 aN aN
   have hchk46 := hchk46.up hsg569
   have hj4 := hj4.trans hsg569
   obtain ⟨G570, H, hsg570, hsr570⟩ := H.shut' (k := 0) rfl hchk46 aN aN
   have hsr569 := hsr569.up hsg570
   have hj4 := hj4.trans hsg570
   have H := H.toFront (k := 3) rfl
   have H := H.toFront (k := 3) rfl
   have H := H.toFront (k := 3) rfl
   have H := H.toFront (k := 3) rfl
   exact N_J ⟨_, _, _, _, _, _, _, _, _, _, _, Z, hj4, H, ⟨hsr569, hsr570, (Chk.nil (E := snapE) (sz := 2) (G := G570)), Z⟩⟩
  skip
  refine o_buildSlice H underlying25 sizeOf81 (fun w => ⟨_, zeroValue81 w, Z⟩) Z Z Z Z Z Z Z ?_; intro b48 w48 hb48 H
  have H := H.blkAcc 2 (k := 0) (n := 0) rfl rfl (by decide)
  refine R_nil (N_DK (Kn.of' H hd5 (SubL.cons 2 Z (SubL.cons 3 Z SubL.nil))) ?_)
  refine RD_run [2] kR Z (RDs.cons Z ?_ RDs.nil)
  refine o_call call102 Z Z (l3Copy_c _ _ H.sub _ _ hr1 ) ?_
  rintro _ w49 ⟨G49, v49, _, g49, rfl, ⟨cs49, rfl, hchk49⟩, hp49, hq49, hs49⟩
  have H := H.growO g49 hp49 hq49 hs49; obtain ⟨av49, cv49, rfl⟩ := H.accShape (k := 0) rfl
  have hr1' := hr1'.up g49.le
  have hj4 := hj4.trans g49.le
  have hd5 := hd5.trans g49.le
  refine ⟨_, Z, ?_⟩
  refine R_nil (N_DK (Kn.of' H hd5 (SubL.cons 3 Z (SubL.cons 4 Z SubL.nil))) ?_)
  refine RD_run [5] kR Z (RDs.cons Z ?_ RDs.nil)
  refine o_call call49 Z Z (l5All_c _ _ H.sub _ _ hr1' ) ?_
  rintro _ w50 ⟨G50, v50, _, g50, rfl, ⟨cs50, rfl, hchk50⟩, hp50, hq50, hs50⟩
  have H := H.growO g50 hp50 hq50 hs50; obtain ⟨av50, cv50, rfl⟩ := H.accShape (k := 0) rfl
  have hchk49 := hchk49.up g50.le
  have hj4 := hj4.trans g50.le
  have hd5 := hd5.trans g50.le
  refine ⟨_, Z, ?_⟩
  refine R_nil (N_DK (Kn.of' H hd5 (SubL.cons 4 Z (SubL.cons 5 Z SubL.nil))) (RD_t 7 Z kR Z (fun _ hK => v_build bf27 Z Z) ?_))
  refine RD_run [9] kR Z (RDs.cons Z ?_ RDs.nil)
  refine o_store_B 3 H sizeOf27 Z Z Z Z Z Z Z Z ?_; intro w51 H
  refine R_nil (N_DKlast kR kR ?_)
  obtain ⟨G575, H, hsg575, hsr575⟩ := H.shut' (k := 1) rfl hchk49 aN aN
  have hchk50 := hchk50.up hsg575
  have hj4 := hj4.trans hsg575
  obtain ⟨G576, H, hsg576, hsr576⟩ := H.shut' (k := 0) rfl hchk50 aN aN
  have hsr575 := hsr575.up hsg576
  have hj4 := hj4.trans hsg576
  have H := H.toFront (k := 3) rfl
  have H := H.toFront (k := 3) rfl
  have H := H.toFront (k := 3) rfl
  have H := H.toFront (k := 3) rfl
  exact N_J ⟨_, _, _, _, _, _, _, _, _, _, _, Z, hj4, H, ⟨hsr575, hsr576, (Chk.nil (E := snapE) (sz := 2) (G := G576)), Z⟩⟩
 rintro _ w4 ⟨jb, ja, jc, jm, jk, jn, jl, ve, ce, ne, G4, rfl, hle4, H, hinv4⟩
 subst hljb3
 subst hljb2
 have hr1'' := hr1''.up hle4
 obtain ⟨hja, hjb, hjc, rfl⟩ := hinv4; obtain ⟨ajx, cjx, rfl⟩ := H.accShape (k := 0) rfl
 refine W_seq (q2 (aG Z (q3 (W_block ?_))))
 obtain ⟨ln52, hln52, H⟩ := H.nameAt (k := 1) (off := 2) rfl rfl
 obtain ⟨ln53, hln53, H⟩ := H.name (k := 2) rfl
 obtain ⟨ln54, hln54, H⟩ := H.name (k := 3) rfl
 refine W_lp (hf := (Sub.cons (t := 1) Z (Sub.cons (t := 2) Z (Sub.cons (t := 3) Z Sub.nil)))) (J := fun M w m => ∃ (v : Value) (n : Nat) (cs : List Value) (xs : List (BSnap)) (k : Nat) (G : PH), M = [(4, .int .i64 (k : Int))] ∧ PLe G4 G ∧ Hp w0 G0 [] w G [acc 81 2 v n cs, blk jb (cl (setN ln52 2 v) 27), blk b3 (cl ln53 27), blk b2 (cl ln54 27)] ∧ (Chk snapE 2 G cs xs ∧ n = xs.length ∧ k ≤ d.snaps.length ∧ xs.length = k ∧ xs = d.snaps.take k) ∧ m = (d.snaps.length - k)) (h0 := ⟨_, _, _, [], 0, _, Z, PLe.refl _, H, ?inv, Z⟩) (round := ?round)
 case inv => exact ⟨hjc,  by first | rfl | simp | (simp; omega) | omega, (by simp)⟩
 case round =>
  rintro _ w55 _ ⟨v, n, cs, xs, k, G55, rfl, hle55, H, hinv55, rfl⟩
  subst hln52
  subst hln53
  subst hln54
  have hr1'' := hr1''.up hle55
  have hja := hja.up hle55
  have hjb := hjb.up hle55
  obtain ⟨hchk55_0, hn55_0, hinv55⟩ := hinv55
  obtain ⟨av55_0, cv55_0, rfl⟩ := H.accShape (k := 0) rfl
  obtain ⟨hk, hxl, hxs⟩ := hinv55
  refine W_seq (q2 (mV Z (o_fieldAddr 2 runUnderlying27 Z sizeOf25 Z Z Z (o_load_B 3 H isAgg25 Z Z Z Z (o_len_slice underlying25 Z Z (o_lss Z Z Z (q3 ?_)))))))
  refine W_cond Z ?_ ?_
  ·intro hc56
   try simp only [nrm] at hc56
   refine W_skip (N_K (W_seq (W_block (W_drawK [1, 2, 3] 20 H kR Z ?_)))); intro w57 H; have hd57 := PLe.refl G55
   refine RD_t 0 Z kR Z (fun _ hK => v_fieldAddr 2 runUnderlying27 Z sizeOf25 Z Z) (RD_t 1 Z kR Z (fun _ hK => v_load_B 0 hK isAgg25 Z Z Z) (RD_t 2 Z kR Z (fun _ hK => v_fieldAddr 2 runUnderlying27 Z sizeOf25 Z Z) (RD_t 3 Z kR Z (fun _ hK => v_load_B 2 hK isAgg25 Z Z Z) (vM 4 Z Z ?_))))
   have hl58 := hr1''.len
   obtain ⟨b58, o58, z58, q58, ha58, hz58, hq58, hE58, hrow58, _⟩ := hr1''.at (i := k) oM
   clear hq58
   obtain ⟨a58, m58, c58, rfl, hi58, hr58⟩ := hE58; have hy_hi58 : _ ≤ 16777216 := hi58; have hn_hr58 := hr58.len; have hx_hr58 : _ ≤ 1099511627776 := hr58.lim
   refine RD_t 5 Z kR Z (fun _ hK => v_index_P (i := k) ha58 underlying25 sizeOf81 Z Z Z oM) (RD_t 6 Z kR Z (fun _ hK => v_fieldAddr 0 runUnderlying81 Z sizeOf9 Z Z) (RD_t 7 Z kR Z (fun _ hK => v_load_P hK isAgg9 Z (hrow58 0 _ Z)) (RD_t 8 Z kR Z (fun _ hK => v_fieldAddr 2 runUnderlying27 Z sizeOf25 Z Z) (RD_t 9 Z kR Z (fun _ hK => v_load_B 2 hK isAgg25 Z Z Z) (vM 10 Z Z ?_)))))
   have hl59 := hr1''.len
   obtain ⟨b59, o59, z59, q59, ha59, hz59, hq59, hE59, hrow59, _⟩ := hr1''.at (i := k) oM
   clear hq59
   obtain ⟨a59, m59, c59, rfl, hi59, hr59⟩ := hE59; have hy_hi59 : _ ≤ 16777216 := hi59; have hn_hr59 := hr59.len; have hx_hr59 : _ ≤ 1099511627776 := hr59.lim
   have hzz59 : z58 = z59 := Option.some.inj (hz58.symm.trans hz59)
   subst hzz59
   refine RD_t 11 Z kR Z (fun _ hK => v_index_P (i := k) ha59 underlying25 sizeOf81 Z Z Z oM) (RD_t 12 Z kR Z (fun _ hK => v_fieldAddr 1 runUnderlying81 Z sizeOf24 Z Z) (RD_t 13 Z kR Z (fun _ hK => v_load_P hK isAgg24 Z (hrow59 1 _ Z)) ?_))
   refine RD_run [14] kR Z (RDs.cons Z ?_ RDs.nil)
   refine o_call call49 Z Z (l5All_c _ _ H.sub _ _ hr59 ) ?_
   rintro _ w60 ⟨G60, v60, _, g60, rfl, ⟨cs60, rfl, hchk60⟩, hp60, hq60, hs60⟩
   have H := H.growO g60 hp60 hq60 hs60; obtain ⟨av60, cv60, rfl⟩ := H.accShape (k := 0) rfl
   have hchk55_0 := hchk55_0.up g60.le
   have hle55 := hle55.trans g60.le
   have hd57 := hd57.trans g60.le
   refine ⟨_, Z, ?_⟩
   refine R_nil (N_DK (Kn.of' H hd57 (SubL.cons 2 Z (SubL.cons 3 Z (SubL.cons 4 Z SubL.nil)))) (RD_t 15 Z kR Z (fun _ hK => v_build bf81 Z Z) ?_))
   refine RD_run [16] kR Z (RDs.cons Z ?_ RDs.nil)
   refine o_buildSlice H underlying25 sizeOf81 (fun w => ⟨_, zeroValue81 w, Z⟩) Z Z Z Z Z Z Z ?_; intro b61 w61 hb61 H
   refine R_nil (N_DK (Kn.of' H hd57 (SubL.cons 3 Z (SubL.cons 4 Z (SubL.cons 5 Z SubL.nil)))) ?_)
   refine RD_run [17] kR Z (RDs.cons Z ?_ RDs.nil)
   refine o_append1 1 H (sz := 2) (bytes := 40) underlying25 typeInfo81 ⟨_, Z, Z⟩ Z Z Z Z Z Z Z Z Z Z oM Z ?_; intro v62 w62 H
   obtain ⟨G63, H, hsg63, hsr63⟩ := H.shut' (k := 0) rfl hchk60 aN aN
   have hchk55_0 := hchk55_0.up hsg63
   have hle55 := hle55.trans hsg63
   have hd57 := hd57.trans hsg63
   have hchk62 := hchk55_0.snoc (show snapE _ ⟨z58.name, z58.tree⟩ _ from ⟨_, _, _, rfl, hi58, hsr63⟩) rfl
   obtain ⟨av62, cv62, rfl⟩ := H.accShape (k := 0) rfl
   refine R_nil (N_DK (Kn.of' H hd57 (SubL.cons 1 Z (SubL.cons 2 Z (SubL.cons 3 Z SubL.nil)))) (RD_t 18 Z kR Z (fun _ hK => v_fieldAddr 2 runUnderlying27 Z sizeOf25 Z Z) ?_))
   refine RD_run [19] kR Z (RDs.cons Z ?_ RDs.nil)
   refine o_store_B 1 H sizeOf25 Z Z Z Z Z Z Z Z ?_; intro w64 H
   refine R_nil (N_DKlast kR kR (N_B (N_K (W_region (mV Z (o_add Z Z Z oO (aG Z (R_nil ?_))))))))
   refine N_lp (hJ := ⟨_, _, _, (xs ++ [⟨z58.name, z58.tree⟩]), k + 1, _, Z, hle55, H, ?inv, Z⟩) (hm := ?hm)
   case hm => omega
   case inv => exact ⟨hchk62, aN, (by exact ⟨by omega, by simp [hxl], by rw [Sp.take_succ' hz58, hxs]⟩)⟩
  intro hc56'
  try simp only [nrm] at hc56'
  refine W_exit (N_K_exit (N_LP_exit (N_B_same (N_K (q2 (o_loadagg_B 1 H isAgg27 sizeOf27 Z Z Z Z Z (o_store_B 2 H sizeOf27 Z Z Z Z Z Z Z Z ?_))))))); intro w66 H
  refine q3 (W_ret (ret_gen (rs := [.cell 2 27]) (vs := [_]) results48 ⟨⟨_, Z, load_blk 2 H isAgg27 sizeOf27 Z Z Z⟩, trivial⟩ ?_))
  obtain rfl : k = d.snaps.length := by omega
  rw [List.take_length] at hxs
  subst hxs
  exact H.retO (k := 0) Z ⟨_, _, _, Z, AccOf.mk aN hchk55_0, hja, hjb⟩ (acc_nd _ _ _ _ _)
end Go.Proofs.Tst

namespace Go.Proofs.Tst
open Go Fw Tryz
theorem DiskWrite_c (w0 : World) (G0 : PH) (hG : PSub G0 w0) (cd : List Value) (d : BDisk) (hd : diskE G0 d cd) (path : Bs) (hpath : path.length ≤ 16777216) (vbytes : Value) (bytes : List (Int)) (hbytes : RdI G0 vbytes bytes)  :
  Calls Tryz.prog 22 #[.agg cd.toArray, str path, vbytes] w0 (RetO w0 G0 (fun G val r => ∃ u u1 u2, val = .tuple #[.agg #[u, u1, u2], .bool (Sp.DiskWrite d path bytes).isSome] ∧ AccOf snapE 2 81 (((Sp.DiskWrite d path bytes).map (·.snaps)).getD []) G u2 r ∧ RdH G u (((Sp.DiskWrite d path bytes).map (·.store)).getD []) ∧ RdItems G u1 (((Sp.DiskWrite d path bytes).map (·.tree)).getD []))) := by
 obtain ⟨a1, m1, c1, a1', m1', c1', a1'', m1'', c1'', rfl, hr1, hr1', hr1''⟩ := hd; have hn_hr1 := hr1.len; have hx_hr1 : _ ≤ 1099511627776 := hr1.lim; have hn_hr1q := hr1'.len; have hx_hr1q : _ ≤ 1099511627776 := hr1'.lim; have hn_hr1qq := hr1''.len; have hx_hr1qq : _ ≤ 1099511627776 := hr1''.lim
 obtain ⟨abytes, kbytes, rfl⟩ := hbytes.shape
 have hlimbytes : bytes.length ≤ 1099511627776 := hbytes.lim
 have H := Hp.init hG
 refine calls_of_W (l := [_, str path, .slice abytes bytes.length kbytes]) func22 Z ntmps22 Z (q2 (o_box H Z Z Z ?_)); intro b2 w2 hb2 H
 refine o_alloc H zeroValue27 Z Z ?_; intro b3 w3 hb3 H
 refine aG Z (q3 (W_seq (q2 (o_loadagg_B 1 H isAgg27 sizeOf27 Z Z Z Z Z (o_call call44 Z Z (DiskValid_c _ _ H.sub _ d ⟨_, _, _, _, _, _, _, _, _, Z, hr1, hr1', hr1''⟩ ) ?_)))))
 rintro _ w4 ⟨rfl, ew4⟩; have H := H.step ew4; refine ⟨_, rfl, ?_⟩
 refine o_not Z Z (mV Z ?_)
 refine R_case (t := 14) Z ?_ ?_
 ·intro hc5
  try simp only [nrm] at hc5
  refine rP Z (rP Z (rP Z (o_pick_t Z Z Z (q3 (W_true Z (q2 (o_build bf27 Z Z Z (o_store_B 0 H sizeOf27 Z Z Z Z Z Z Z Z ?_)))))))); intro w6 H
  refine aG Z (q3 (W_ret (N_K_ret (ret_gen (rs := [.cell 6 27, .tmp 7]) (vs := [_, _]) results22 ⟨⟨_, Z, load_blk 0 H isAgg27 sizeOf27 Z Z Z⟩, Z, trivial⟩ ?_))))
  have hN : Sp.DiskWrite d path bytes = none := by simp [Sp.DiskWrite, hc5]
  have H := H.addNil 81 2
  exact H.retO (k := 0) rfl (by rw [hN]; exact ⟨_, _, _, rfl, AccOf.mk rfl Chk.nil, RdS.nil _ _ _, RdS.nil _ _ _⟩) (acc_nd _ _ _ _ _)
 intro hc5'
 try simp only [nrm] at hc5'
 refine gR Z (mV Z (gR Z (o_call call63 Z Z (FileValid_c _ _ H.sub _ _ hbytes ) ?_)))
 rintro _ w7 ⟨rfl, ew7⟩; have H := H.step ew7; refine ⟨_, rfl, ?_⟩
 refine gR Z (o_not Z Z (o_pick_f Z Z Z (q3 ?_)))
 refine W_cond Z ?_ ?_
 ·intro hc8
  try simp only [nrm] at hc8
  refine q2 (o_build bf27 Z Z Z (o_store_B 0 H sizeOf27 Z Z Z Z Z Z Z Z ?_)); intro w9 H
  refine aG Z (q3 (W_ret (N_K_ret (ret_gen (rs := [.cell 6 27, .tmp 7]) (vs := [_, _]) results22 ⟨⟨_, Z, load_blk 0 H isAgg27 sizeOf27 Z Z Z⟩, Z, trivial⟩ ?_))))
  have hN : Sp.DiskWrite d path bytes = none := by simp [Sp.DiskWrite, hc8]
  have H := H.addNil 81 2
  exact H.retO (k := 0) rfl (by rw [hN]; exact ⟨_, _, _, rfl, AccOf.mk rfl Chk.nil, RdS.nil _ _ _, RdS.nil _ _ _⟩) (acc_nd _ _ _ _ _)
 intro hc8'
 try simp only [nrm] at hc8'
 have hfl := Sp.file_len hc8'
 refine W_skip (N_K (q2 (o_fieldAddr 0 runUnderlying27 Z sizeOf23 Z Z Z (o_load_B 1 H isAgg23 Z Z Z Z (o_fieldAddr 1 runUnderlying27 Z sizeOf24 Z Z Z (o_load_B 1 H isAgg24 Z Z Z Z (o_build bf47 Z Z Z (mV Z (mV Z (o_call call64 Z Z (l11Write_c _ _ H.sub _ ⟨d.store, d.tree⟩ ⟨_, _, _, _, _, _, Z, hr1, hr1'⟩ _ hpath _ _ hbytes oM) ?_))))))))))
 rintro _ w10 ⟨G10, _, _, g10, rfl, ⟨u10_0, u10_1, rfl, ⟨cs10, rfl, hchk10⟩, hr10_1⟩, hp10, hq10, hs10⟩
 have H := H.growO g10 hp10 hq10 hs10; obtain ⟨av10, cv10, rfl⟩ := H.accShape (k := 0) rfl
 have hr1 := hr1.up g10.le
 have hr1' := hr1'.up g10.le
 have hr1'' := hr1''.up g10.le
 obtain ⟨a10_1, k10_1, rfl⟩ := hr10_1.shape; have hx_hr10_1 : _ ≤ 1099511627776 := hr10_1.lim
 refine ⟨_, Z, ?_⟩
 have hwl := Sp.l11Write_slen ⟨d.store, d.tree⟩ path bytes
 refine mV Z (o_extract Z Z Z (o_extract Z Z Z (o_alloc H zeroValue47 Z Z ?_))); intro b11 w11 hb11 H
 refine o_store_B 0 H sizeOf47 Z Z Z Z Z Z Z Z ?_; intro w12 H
 refine aG Z (q3 (W_seq (q2 (mV Z (o_not Z Z (q3 ?_))))))
 refine W_cond Z ?_ ?_
 ·intro hc13
  try simp only [nrm] at hc13
  refine q2 (o_build bf27 Z Z Z (o_store_B 2 H sizeOf27 Z Z Z Z Z Z Z Z ?_)); intro w14 H
  refine aG Z (q3 (W_ret (N_K_ret (ret_gen (rs := [.cell 6 27, .tmp 7]) (vs := [_, _]) results22 ⟨⟨_, Z, load_blk 2 H isAgg27 sizeOf27 Z Z Z⟩, Z, trivial⟩ ?_))))
  have hN : Sp.DiskWrite d path bytes = none := by (have hno : Sp.l11Write ⟨d.store, d.tree⟩ path bytes = none := by simpa using hc13); simp [Sp.DiskWrite, hno]
  have H := H.addNil 81 2
  exact H.retO (k := 0) rfl (by rw [hN]; exact ⟨_, _, _, rfl, AccOf.mk rfl Chk.nil, RdS.nil _ _ _, RdS.nil _ _ _⟩) (acc_nd _ _ _ _ _)
 intro hc13'
 try simp only [nrm] at hc13'
 refine W_skip (N_K (q2 (o_loadagg_B 3 H isAgg27 sizeOf27 Z Z Z Z Z (o_call call48 Z Z (l12Copy_c _ _ H.sub _ d ⟨_, _, _, _, _, _, _, _, _, Z, hr1, hr1', hr1''⟩ ) ?_))))
 rintro _ w15 ⟨G15, _, _, g15, rfl, ⟨u15_0, u15_1, u15_2, rfl, ⟨cs15, rfl, hchk15⟩, hr15_0, hr15_1⟩, hp15, hq15, hs15⟩
 have H := H.growO g15 hp15 hq15 hs15; obtain ⟨av15, cv15, rfl⟩ := H.accShape (k := 0) rfl
 have hchk10 := hchk10.up g15.le
 have hr10_1 := hr10_1.up g15.le
 obtain ⟨a15_0, k15_0, rfl⟩ := hr15_0.shape; have hx_hr15_0 : _ ≤ 1099511627776 := hr15_0.lim
 obtain ⟨a15_1, k15_1, rfl⟩ := hr15_1.shape; have hx_hr15_1 : _ ≤ 1099511627776 := hr15_1.lim
 refine ⟨_, Z, ?_⟩
 refine o_alloc H zeroValue27 Z Z ?_; intro b16 w16 hb16 H
 refine o_store_B 0 H sizeOf27 Z Z Z Z Z Z Z Z ?_; intro w17 H
 refine q1 (o_fieldAddr 0 runUnderlying47 Z sizeOf23 Z Z Z (o_load_B 2 H isAgg23 Z Z Z Z (o_fieldAddr 0 runUnderlying27 Z sizeOf23 Z Z Z (o_store_B 0 H sizeOf23 Z Z Z Z Z Z Z Z ?_)))); intro w18 H
 refine q1 (o_fieldAddr 1 runUnderlying47 Z sizeOf24 Z Z Z (o_load_B 2 H isAgg24 Z Z Z Z (o_fieldAddr 1 runUnderlying27 Z sizeOf24 Z Z Z (o_store_B 0 H sizeOf24 Z Z Z Z Z Z Z Z ?_)))); intro w19 H
 refine q1 (o_loadagg_B 0 H isAgg27 sizeOf27 Z Z Z Z Z (o_store_B 4 H sizeOf27 Z Z Z Z Z Z Z Z ?_)); intro w20 H
 refine aG Z (q3 (W_ret (ret_gen (rs := [.cell 6 27, .tmp 7]) (vs := [_, _]) results22 ⟨⟨_, Z, load_blk 4 H isAgg27 sizeOf27 Z Z Z⟩, Z, trivial⟩ ?_)))
 obtain ⟨G524, H, hsg524, hsr524⟩ := H.shut' (k := 3) rfl hchk10 aN aN
 have hr10_1 := hr10_1.up hsg524
 have hchk15 := hchk15.up hsg524
 have hY : Sp.DiskWrite d path bytes = some ⟨((Sp.l11Write ⟨d.store, d.tree⟩ path bytes).map (·.store)).getD [], ((Sp.l11Write ⟨d.store, d.tree⟩ path bytes).map (·.tree)).getD [], d.snaps⟩ := by (obtain ⟨p, hp⟩ := Option.isSome_iff_exists.1 hc13'); simp [Sp.DiskWrite, hc5', hc8', hp]
 exact H.retO (k := 1) rfl (by rw [hY]; exact ⟨_, _, _, rfl, AccOf.mk aN hchk15, hsr524, hr10_1⟩) (acc_nd _ _ _ _ _)
end Go.Proofs.Tst

namespace Go.Proofs.Tst
open Go Fw Tryz
theorem l4Load_c (w0 : World) (G0 : PH) (hG : PSub G0 w0) (vlist : Value) (list : List (BHeld)) (hlist : RdH G0 vlist list) (vids : Value) (ids : List (Int)) (hids : RdI G0 vids ids) (hl4 : Sp.l4Ids list ids = true) (hSv : Sp.StoreValid list = true) :
  Calls Tryz.prog 57 #[vlist, vids] w0 (RetO w0 G0 (AccOf intE 1 3 (Sp.load list ids))) := by
 obtain ⟨alist, klist, rfl⟩ := hlist.shape
 have hlimlist : list.length ≤ 1099511627776 := hlist.lim
 obtain ⟨aids, kids, rfl⟩ := hids.shape
 have hlimids : ids.length ≤ 1099511627776 := hids.lim
 have H := Hp.init hG
 have hil := Sp.ids_le hl4
 refine calls_of_W (l := [.slice alist list.length klist, .slice aids ids.length kids]) func57 Z ntmps57 Z (q2 (aG Z (q1 (o_buildSlice H underlying33 sizeOf3 (fun w => ⟨_, zeroValue3 w, Z⟩) Z Z Z Z Z Z Z ?_)))); intro b1 w1 hb1 H
 have H := H.blkAcc 1 (k := 0) (n := 0) rfl rfl (by decide)
 refine aG Z (q3 (W_seq (q2 (aG Z (q3 (W_block ?_))))))
 refine W_lp (hf := (Sub.cons (t := 0) Z (Sub.cons (t := 1) Z (Sub.cons (t := 4) Z Sub.nil)))) (J := fun M w m => ∃ (v : Value) (n : Nat) (cs : List Value) (xs : List (Int)) (k : Nat) (G : PH), M = [(6, .int .i64 (k : Int)), (5, v)] ∧ PLe G0 G ∧ Hp w0 G0 [] w G [acc 3 1 v n cs] ∧ (Chk intE 1 G cs xs ∧ n = xs.length ∧ k ≤ ids.length ∧ xs.length ≤ 8 * k ∧ xs = Sp.load list (ids.take k)) ∧ m = (ids.length - k)) (h0 := ⟨_, _, _, [], 0, _, Z, PLe.refl _, H, ?inv, Z⟩) (round := ?round)
 case inv => exact ⟨(Chk.nil (E := intE) (sz := 1) (G := G0)),  by first | rfl | simp | (simp; omega) | omega, (by exact ⟨by omega, by simp, by simp [Sp.load]⟩)⟩
 case round =>
  rintro _ w2 _ ⟨v, n, cs, xs, k, G2, rfl, hle2, H, hinv2, rfl⟩
  have hlist := hlist.up hle2
  have hids := hids.up hle2
  obtain ⟨hchk2_0, hn2_0, hinv2⟩ := hinv2
  obtain ⟨av2_0, cv2_0, rfl⟩ := H.accShape (k := 0) rfl
  obtain ⟨hk, hxl, hxs⟩ := hinv2
  refine W_seq (q2 (mV Z (mV Z (o_len_slice underlying33 Z Z (o_lss Z Z Z (q3 ?_))))))
  refine W_cond Z ?_ ?_
  ·intro hc3
   try simp only [nrm] at hc3
   refine W_skip (N_K (W_seq (W_block (W_region (mV Z (mV Z (mV Z (mV Z (mV Z (o_index_P k hids underlying33 sizeOf3 Z Z Z Z aN ?_)))))))))); intro b4 o4 z4 q4 hz4 hE4 hrow4
   obtain ⟨rfl, hi4⟩ := hE4
   obtain ⟨j, hj1, hj2, hj3⟩ := Sp.ids_at hSv hl4 hz4
   refine o_load_P H isAgg3 Z Z (hrow4 0 _ Z) (o_call call113 Z Z (l3At_c _ _ H.sub _ _ hlist _ ) ?_)
   rintro _ w5 ⟨rfl, ew5⟩; have H := H.step ew5; refine ⟨_, rfl, ?_⟩
   refine o_index_P j hlist underlying23 sizeOf105 Z Z Z hj1 aN ?_; intro b6 o6 z6 q6 hz6 hE6 hrow6
   obtain ⟨a6, m6, c6, rfl, hi6, hr6, hj6⟩ := hE6; have hn_hr6 := hr6.len; have hx_hr6 : _ ≤ 1099511627776 := hr6.lim
   have hze : z6 = Fw.getH list z4 := Option.some.inj (hz6.symm.trans hj3)
   have hzl := Sp.get_len (Sp.valid_iff.1 hSv) z4
   (rw [← hze] at hzl)
   refine o_fieldAddr 1 runUnderlying105 Z sizeOf33 Z Z Z (o_load_P H isAgg33 Z Z (hrow6 1 _ Z) ?_)
   refine o_append_P 0 H hr6 (by intro z cs hz u hu; obtain ⟨rfl, _⟩ := hz; simp at hu; subst hu; rfl) (sz := 1) (bytes := 8) underlying33 typeInfo3 ⟨_, rfl, rfl⟩ rfl rfl rfl rfl rfl rfl rfl oM rfl ?_; intro v7 w7 css7 hcl7 hcs7 H
   have hchk7 := hchk2_0.app (show Chk _ _ _ _ _ from ⟨css7, rfl, hcl7, hcs7⟩)
   obtain ⟨av7, cv7, rfl⟩ := H.accShape (k := 0) rfl
   refine aG Z (R_nil (N_B (N_K (W_region (mV Z (o_add Z Z Z oO (aG Z (R_nil ?_))))))))
   refine N_lp (hJ := ⟨_, _, _, (xs ++ z6.bytes), k + 1, _, Z, hle2, H, ?inv, Z⟩) (hm := ?hm)
   case hm => omega
   case inv => exact ⟨hchk7, aN, (by exact ⟨by omega, by (rw [List.length_append]; omega), by (rw [Sp.load_succ hz4, hxs, hze])⟩)⟩
  intro hc3'
  try simp only [nrm] at hc3'
  refine W_exit (N_K_exit (N_LP_exit (N_B_same (N_K (q2 (mV Z (aG Z (q3 (W_ret (rt1 results57 Z ?_))))))))))
  obtain rfl : k = ids.length := by omega
  rw [List.take_length] at hxs
  subst hxs
  exact H.retO (k := 0) rfl (AccOf.mk (by assumption) hchk2_0) (acc_nd _ _ _ _ _)
end Go.Proofs.Tst

