/- Part 4 of the proof: contracts of functions of the program. Conditions: none. -/
import Derived.Test.YtbhkgogeoafjjaaGreatDoorProg
import Derived.Test.YtbhkgogeoafjjaaGreatDoorG00
import Derived.Test.YtbhkgogeoafjjaaGreatDoorG01
import Derived.Test.YtbhkgogeoafjjaaGreatDoorG02
set_option linter.all false
set_option maxRecDepth 100000
set_option maxHeartbeats 1000000
namespace Go.Proofs.Tst
open Go Fw Tryz
theorem l6In_c (w0 : World) (n : Int) (lo : Int) (hi : Int)  :
  Calls Tryz.prog 125 #[.int .i64 n, .int .i64 lo, .int .i64 hi] w0 (Rets w0 (.bool (Sp.l6In n lo hi))) := by
 have H := Hp.init0 w0
 refine calls_of_W (l := [.int .i64 n, .int .i64 lo, .int .i64 hi]) func125 rfl ntmps125 rfl (q2 (aG rfl (q1 (mV rfl (mV rfl (o_geq rfl rfl rfl (mV rfl ?_)))))))
 refine R_case (t := 10) rfl ?_ ?_
 ·intro hc1
  try simp only [nrm] at hc1
  refine gR rfl (mV rfl (gR rfl (mV rfl (gR rfl (o_leq rfl rfl rfl (o_pick_t rfl rfl rfl (aG rfl (q3 (W_ret (rt1 results125 rfl ?_))))))))))
  exact H.rets (congrArg Value.bool (by unfold Sp.l6In; rw [Bool.eq_iff_iff]; simp; omega))
 intro hc1'
 try simp only [nrm] at hc1'
 refine rP rfl (rP rfl (rP rfl (o_pick_f rfl rfl rfl (aG rfl (q3 (W_ret (rt1 results125 rfl ?_)))))))
 exact H.rets (congrArg Value.bool (by unfold Sp.l6In; rw [Bool.eq_iff_iff]; simp; omega))
theorem l1Word_c (w0 : World) (s : Bs) (hs : s.length ≤ 16777216)  :
  Calls Tryz.prog 85 #[str s] w0 (Rets w0 (.bool (Sp.l1Word s))) := by
 have H := Hp.init0 w0
 refine calls_of_W (l := [str s]) func85 rfl ntmps85 rfl (q2 (aG rfl (q3 (W_seq (q2 (aG rfl (q3 (W_block ?_))))))))
 refine W_lp (hf := (Sub.cons (t := 0) rfl Sub.nil)) (J := fun M w m => ∃ (k : Nat) (G : PH), M = [(3, .int .i64 (k : Int))] ∧ PLe (fun _ => none) G ∧ Hp w0 (fun _ => none) [] w G [] ∧ (k ≤ s.length ∧ (s.take k).all Sp.low = true) ∧ m = (s.length - k)) (h0 := ⟨0, _, rfl, PLe.refl _, H, ?inv, rfl⟩) (round := ?round)
 case inv => exact ⟨by omega, by simp⟩
 case round =>
  rintro _ w1 _ ⟨k, G1, rfl, hle1, H, hinv1, rfl⟩
  obtain ⟨hk, hall⟩ := hinv1
  refine W_seq (q2 (mV rfl (mV rfl (o_len_str underlying9 rfl rfl (o_lss rfl rfl rfl (q3 ?_))))))
  refine W_cond rfl ?_ ?_
  ·intro hc2
   try simp only [nrm] at hc2
   refine W_skip (N_K (W_seq (W_block (q2 (mV rfl (mV rfl (o_index_str underlying9 rfl rfl rfl rfl oM ?_))))))); intro ch3 hch3; have hlt3 := ch3.toNat_lt
   refine o_lss rfl rfl rfl (mV rfl ?_)
   refine R_case (t := 14) rfl ?_ ?_
   ·intro hc4
    try simp only [nrm] at hc4
    refine rP rfl (rP rfl (rP rfl (rP rfl (o_pick_t rfl rfl rfl (q3 (W_true rfl (q2 (aG rfl (q3 (W_ret (N_B_ret (N_K_ret (N_LP_ret (N_B_ret (N_K_ret ?_)))))))))))))))
    refine rt1 results85 rfl ?_
    exact H.rets (congrArg Value.bool (by rw [Sp.l1Word, Sp.all_false hch3 (by simp [Sp.low]; omega)]; rfl))
   intro hc4'
   try simp only [nrm] at hc4'
   refine gR rfl (mV rfl (gR rfl (mV rfl (gR rfl (o_index_str underlying9 rfl rfl rfl rfl oM ?_))))); intro ch5 hch5; have hlt5 := ch5.toNat_lt
   obtain rfl : ch5 = ch3 := Option.some.inj (hch5.symm.trans hch3)
   refine gR rfl (o_gtr rfl rfl rfl (o_pick_f rfl rfl rfl (q3 ?_)))
   refine W_cond rfl ?_ ?_
   ·intro hc6
    try simp only [nrm] at hc6
    refine q2 (aG rfl (q3 (W_ret (N_B_ret (N_K_ret (N_LP_ret (N_B_ret (N_K_ret (rt1 results85 rfl ?_)))))))))
    exact H.rets (congrArg Value.bool (by rw [Sp.l1Word, Sp.all_false hch5 (by simp [Sp.low]; omega)]; rfl))
   intro hc6'
   try simp only [nrm] at hc6'
   refine W_skip (N_B (N_K (W_region (mV rfl (o_add rfl rfl rfl oO (aG rfl (R_nil ?_)))))))
   refine N_lp (hJ := ⟨k + 1, _, rfl, hle1, H, ?inv, rfl⟩) (hm := ?hm)
   case hm => omega
   case inv => exact ⟨by omega, Sp.all_take hall hch5 (by simp [Sp.low]; omega)⟩
  intro hc2'
  try simp only [nrm] at hc2'
  refine W_exit (N_K_exit (N_LP_exit (N_B_same (N_K (q2 (mV rfl (o_len_str underlying9 rfl rfl (o_call call125 rfl rfl (l6In_c _ _ _ _ ) ?_))))))))
  rintro _ w8 ⟨rfl, ew8⟩; have H := H.step ew8; refine ⟨_, rfl, ?_⟩
  refine aG rfl (q3 (W_ret (rt1 results85 rfl ?_)))
  obtain rfl : k = s.length := by omega
  rw [List.take_length] at hall
  exact H.rets (congrArg Value.bool (by simp only [Sp.l1Word, Sp.l6In, hall]; rw [Bool.eq_iff_iff]; simp; omega))
theorem l1Cut_c (w0 : World) (G0 : PH) (hG : PSub G0 w0) (s : Bs) (hs : s.length ≤ 16777216)  :
  Calls Tryz.prog 209 #[str s] w0 (RetP w0 G0 (fun G v => RdT G v (Sp.cut s))) := by
 have H := Hp.init hG
 refine calls_of_W (l := [str s]) func209 rfl ntmps209 rfl (q2 (aG rfl (q1 (o_buildSlice H underlying105 sizeOf9 (fun w => ⟨_, zeroValue9 w, rfl⟩) rfl rfl rfl rfl rfl rfl rfl ?_)))); intro b1 w1 hb1 H
 have H := H.blkAcc 1 (k := 0) (n := 0) rfl rfl (by decide)
 refine aG rfl (q1 (aG rfl (q3 (W_seq (q2 (aG rfl (q3 (W_block ?_))))))))
 refine W_lp (hf := (Sub.cons (t := 0) rfl (Sub.cons (t := 2) rfl Sub.nil))) (J := fun M w m => ∃ (v : Value) (n : Nat) (cs : List Value) (xs : List (Bs)) (f k : Nat) (G : PH), M = [(4, .int .i64 (f : Int)), (5, .int .i64 (k : Int)), (3, v)] ∧ PLe G0 G ∧ Hp w0 G0 [] w G [acc 9 1 v n cs] ∧ (Chk strE 1 G cs xs ∧ n = xs.length ∧ f ≤ k ∧ k ≤ s.length ∧ xs.length ≤ k ∧ xs ++ Sp.cut (s.drop f) = Sp.cut s ∧ ∀ j, f ≤ j → j < k → s[j]? ≠ some 47) ∧ m = (s.length - k)) (h0 := ⟨_, _, _, [], 0, 0, _, rfl, PLe.refl _, H, ?inv, rfl⟩) (round := ?round)
 case inv => exact ⟨(Chk.nil (E := strE) (sz := 1) (G := G0)),  by first | rfl | simp | (simp; omega) | omega, (by simp)⟩
 case round =>
  rintro _ w2 _ ⟨v, n, cs, xs, f, k, G2, rfl, hle2, H, hinv2, rfl⟩
  obtain ⟨hchk2_0, hn2_0, hinv2⟩ := hinv2
  obtain ⟨av2_0, cv2_0, rfl⟩ := H.accShape (k := 0) rfl
  obtain ⟨h1, h2, h3, h4, h5⟩ := hinv2
  refine W_seq (q2 (mV rfl (mV rfl (o_len_str underlying9 rfl rfl (o_lss rfl rfl rfl (q3 ?_))))))
  refine W_cond rfl ?_ ?_
  ·intro hc3
   try simp only [nrm] at hc3
   refine W_skip (N_K (W_seq (W_block (q2 (mV rfl (mV rfl (o_index_str underlying9 rfl rfl rfl rfl oM ?_))))))); intro ch4 hch4; have hlt4 := ch4.toNat_lt
   refine o_eql rfl rfl rfl (q3 ?_)
   refine W_cond rfl ?_ ?_
   ·intro hc5
    try simp only [nrm] at hc5
    refine q2 (mV rfl (mV rfl (mV rfl (mV rfl (o_slice_str underlying9 rfl rfl rfl rfl oM oM oM (o_buildSlice H underlying105 sizeOf9 (fun w => ⟨_, zeroValue9 w, rfl⟩) rfl rfl rfl rfl rfl rfl rfl ?_)))))); intro b7 w7 hb7 H
    refine o_append1 0 H (sz := 1) (bytes := 16) underlying105 typeInfo9 ⟨_, rfl, rfl⟩ rfl rfl rfl rfl rfl rfl rfl rfl rfl rfl oM rfl ?_; intro v8 w8 H
    have hchk8 := hchk2_0.snoc (show strE _ ((s.drop f).take (k - f)) _ from ⟨rfl, (by (first | assumption | (refine Sp.l5Parent_lim ?_; assumption) | (simp; done) | (simp; omega) | omega))⟩) rfl
    obtain ⟨av8, cv8, rfl⟩ := H.accShape (k := 0) rfl
    refine aG rfl (q3 (W_region (mV rfl (o_add rfl rfl rfl oO (aG rfl (R_nil (N_B (N_K (W_region (mV rfl (o_add rfl rfl rfl oO (aG rfl (R_nil ?_)))))))))))))
    refine N_lp (hJ := ⟨_, _, _, (xs ++ [((s.drop f).take (k - f))]), k + 1, k + 1, _, rfl, hle2, H, ?inv, rfl⟩) (hm := ?hm)
    case hm => omega
    case inv => exact ⟨hchk8, aN, (by exact ⟨by omega, by omega, by simp; omega, Sp.cut_step h4 h1 (hch4 ▸ congrArg some (Sp.is47 oM)) h5, fun j g1 g2 => by omega⟩)⟩
   intro hc5'
   try simp only [nrm] at hc5'
   refine W_skip (N_B (N_K (W_region (mV rfl (o_add rfl rfl rfl oO (aG rfl (R_nil ?_)))))))
   refine N_lp (hJ := ⟨_, _, _, xs, f, k + 1, _, rfl, hle2, H, ?inv, rfl⟩) (hm := ?hm)
   case hm => omega
   case inv => exact ⟨hchk2_0, aN, (by exact ⟨by omega, by omega, by omega, h4, Sp.noslash_succ h5 (hch4 ▸ Sp.not47 oM)⟩)⟩
  intro hc3'
  try simp only [nrm] at hc3'
  refine W_exit (N_K_exit (N_LP_exit (N_B_same (N_K (q2 (mV rfl (mV rfl (mV rfl (o_slice_str_from underlying9 rfl rfl rfl oM oM (o_buildSlice H underlying105 sizeOf9 (fun w => ⟨_, zeroValue9 w, rfl⟩) rfl rfl rfl rfl rfl rfl rfl ?_)))))))))); intro b13 w13 hb13 H
  refine o_append1 0 H (sz := 1) (bytes := 16) underlying105 typeInfo9 ⟨_, rfl, rfl⟩ rfl rfl rfl rfl rfl rfl rfl rfl rfl rfl oM rfl ?_; intro v14 w14 H
  have hchk14 := hchk2_0.snoc (show strE _ (s.drop f) _ from ⟨rfl, (by (first | assumption | (refine Sp.l5Parent_lim ?_; assumption) | (simp; done) | (simp; omega) | omega))⟩) rfl
  obtain ⟨av14, cv14, rfl⟩ := H.accShape (k := 0) rfl
  refine aG rfl (q3 (W_ret (rt1 results209 rfl ?_)))
  obtain ⟨G515, H, hsg515, hsr515⟩ := H.shut' (k := 0) rfl hchk14 aN aN
  exact H.retP (by rw [← Sp.cut_end h4 h5 oM]; exact hsr515)
theorem PathValid_c (w0 : World) (G0 : PH) (hG : PSub G0 w0) (path : Bs) (hpath : path.length ≤ 16777216)  :
  Calls Tryz.prog 183 #[str path] w0 (Rets w0 (.bool (Sp.PathValid path))) := by
 have H := Hp.init hG
 refine calls_of_W (l := [str path]) func183 rfl ntmps183 rfl (q2 (aG rfl (q1 (mV rfl (o_call call209 rfl rfl (l1Cut_c _ _ H.sub _ hpath ) ?_)))))
 rintro _ w1 ⟨G1, u1_0, g1, rfl, hr1_0⟩
 have H := H.grow g1
 obtain ⟨a1_0, k1_0, rfl⟩ := hr1_0.shape; have hx_hr1_0 : _ ≤ 1099511627776 := hr1_0.lim
 refine ⟨_, rfl, ?_⟩
 refine aG rfl (q3 (W_seq (q2 (aG rfl (q3 (W_block ?_))))))
 refine W_lp (hf := (Sub.cons (t := 3) rfl Sub.nil)) (J := fun M w m => ∃ (k : Nat) (G : PH), M = [(4, .int .i64 (k : Int))] ∧ PLe G1 G ∧ Hp w0 G0 [] w G [] ∧ (k ≤ (Sp.cut path).length ∧ ((Sp.cut path).take k).all Sp.l1Word = true) ∧ m = ((Sp.cut path).length - k)) (h0 := ⟨0, _, rfl, PLe.refl _, H, ?inv, rfl⟩) (round := ?round)
 case inv => simp
 case round =>
  rintro _ w2 _ ⟨k, G2, rfl, hle2, H, hinv2, rfl⟩
  have hr1_0 := hr1_0.up hle2
  obtain ⟨hk, hall⟩ := hinv2
  refine W_seq (q2 (mV rfl (mV rfl (o_len_slice underlying105 rfl rfl (o_lss rfl rfl rfl (q3 ?_))))))
  refine W_cond rfl ?_ ?_
  ·intro hc3
   try simp only [nrm] at hc3
   refine W_skip (N_K (W_seq (W_block (q2 (mV rfl (mV rfl (o_index_P k hr1_0 underlying105 sizeOf9 rfl rfl rfl rfl aN ?_))))))); intro b4 o4 z4 q4 hz4 hE4 hrow4
   obtain ⟨rfl, hi4⟩ := hE4; have hy_hi4 : _ ≤ 16777216 := hi4
   refine o_load_P H isAgg9 rfl rfl (hrow4 0 _ rfl) (o_call call85 rfl rfl (l1Word_c _ _ hi4 ) ?_)
   rintro _ w5 ⟨rfl, ew5⟩; have H := H.step ew5; refine ⟨_, rfl, ?_⟩
   refine o_not rfl rfl (q3 ?_)
   refine W_cond rfl ?_ ?_
   ·intro hc6
    try simp only [nrm] at hc6
    refine q2 (aG rfl (q3 (W_ret (N_B_ret (N_K_ret (N_LP_ret (N_B_ret (N_K_ret (rt1 results183 rfl ?_)))))))))
    exact H.rets (congrArg Value.bool (by rw [Sp.PathValid, Sp.all_false hz4 hc6]; rfl))
   intro hc6'
   try simp only [nrm] at hc6'
   refine W_skip (N_B (N_K (W_region (mV rfl (o_add rfl rfl rfl oO (aG rfl (R_nil ?_)))))))
   refine N_lp (hJ := ⟨k + 1, _, rfl, hle2, H, ?inv, rfl⟩) (hm := ?hm)
   case hm => omega
   case inv => exact ⟨by omega, Sp.all_take hall hz4 hc6'⟩
  intro hc3'
  try simp only [nrm] at hc3'
  refine W_exit (N_K_exit (N_LP_exit (N_B_same (N_K (q2 (mV rfl (o_len_slice underlying105 rfl rfl (o_leq rfl rfl rfl (aG rfl (q3 (W_ret (rt1 results183 rfl ?_))))))))))))
  obtain rfl : k = (Sp.cut path).length := by omega
  rw [List.take_length] at hall
  exact H.rets (congrArg Value.bool (by simp only [Sp.PathValid, hall, Bool.true_and]; rw [Bool.eq_iff_iff]; simp; omega))
theorem l1Last_c (w0 : World) (path : Bs) (hpath : path.length ≤ 16777216)  :
  Calls Tryz.prog 210 #[str path] w0 (Rets w0 (.int .i64 (Sp.l1Last path))) := by
 have H := Hp.init0 w0
 refine calls_of_W (l := [str path]) func210 rfl ntmps210 rfl (q2 (aG rfl (q1 (aG rfl (q3 (W_seq (q2 (aG rfl (q3 (W_block ?_))))))))))
 refine W_lp (hf := (Sub.cons (t := 0) rfl (Sub.cons (t := 2) rfl Sub.nil))) (J := fun M w m => ∃ (k : Nat) (o : Option Nat) (G : PH), M = [(3, .int .i64 (Sp.optI o)), (4, .int .i64 (k : Int))] ∧ PLe (fun _ => none) G ∧ Hp w0 (fun _ => none) [] w G [] ∧ (k ≤ path.length ∧ o = (List.range k).foldl (Sp.lastF path) none) ∧ m = (path.length - k)) (h0 := ⟨0, none, _, rfl, PLe.refl _, H, ?inv, rfl⟩) (round := ?round)
 case inv => exact ⟨by omega, rfl⟩
 case round =>
  rintro _ w1 _ ⟨k, o, G1, rfl, hle1, H, hinv1, rfl⟩
  obtain ⟨hk, hall⟩ := hinv1
  refine W_seq (q2 (mV rfl (mV rfl (o_len_str underlying9 rfl rfl (o_lss rfl rfl rfl (q3 ?_))))))
  refine W_cond rfl ?_ ?_
  ·intro hc2
   try simp only [nrm] at hc2
   refine W_skip (N_K (W_seq (W_block (q2 (mV rfl (mV rfl (o_index_str underlying9 rfl rfl rfl rfl oM ?_))))))); intro ch3 hch3; have hlt3 := ch3.toNat_lt
   refine o_eql rfl rfl rfl (q3 ?_)
   refine W_cond rfl ?_ ?_
   ·intro hc4
    try simp only [nrm] at hc4
    refine W_region (mV rfl (aG rfl (R_nil (N_B (N_K (W_region (mV rfl (o_add rfl rfl rfl oO (aG rfl (R_nil ?_))))))))))
    refine N_lp (hJ := ⟨k + 1, some k, _, rfl, hle1, H, ?inv, rfl⟩) (hm := ?hm)
    case hm => omega
    case inv => exact ⟨by omega, by rw [Sp.last_succ, ← hall, Sp.lastF, hch3, if_pos (congrArg some (Sp.is47 oM))]⟩
   intro hc4'
   try simp only [nrm] at hc4'
   refine W_skip (N_B (N_K (W_region (mV rfl (o_add rfl rfl rfl oO (aG rfl (R_nil ?_)))))))
   refine N_lp (hJ := ⟨k + 1, o, _, rfl, hle1, H, ?inv, rfl⟩) (hm := ?hm)
   case hm => omega
   case inv => exact ⟨by omega, by rw [Sp.last_succ, ← hall, Sp.lastF, hch3, if_neg (Sp.not47 oM)]⟩
  intro hc2'
  try simp only [nrm] at hc2'
  refine W_exit (N_K_exit (N_LP_exit (N_B_same (N_K (q2 (mV rfl (aG rfl (q3 (W_ret (rt1 results210 rfl ?_))))))))))
  obtain rfl : k = path.length := by omega
  exact H.rets (congrArg (Value.int .i64) (by rw [hall]; rfl))
theorem l5Parent_c (w0 : World) (path : Bs) (hpath : path.length ≤ 16777216)  :
  Calls Tryz.prog 184 #[str path] w0 (Rets w0 (str (Sp.l5Parent path))) := by
 have hl := Sp.l1Last_le path
 have H := Hp.init0 w0
 refine calls_of_W (l := [str path]) func184 rfl ntmps184 rfl (q2 (aG rfl (q1 (mV rfl (mV rfl (o_call call210 rfl rfl (l1Last_c _ _ hpath ) ?_))))))
 rintro _ w1 ⟨rfl, ew1⟩; have H := H.step ew1; refine ⟨_, rfl, ?_⟩
 refine o_max rfl rfl rfl (o_slice_str_to underlying9 rfl rfl rfl oM oM (aG rfl (q3 (W_ret (rt1 results184 rfl ?_)))))
 exact H.rets rfl
theorem l5At_c (w0 : World) (G0 : PH) (hG : PSub G0 w0) (vlist : Value) (list : List (BItem)) (hlist : RdItems G0 vlist list) (path : Bs) (hpath : path.length ≤ 16777216)  :
  Calls Tryz.prog 163 #[vlist, str path] w0 (Rets w0 (.int .i64 (Sp.l5At list path))) := by
 obtain ⟨alist, klist, rfl⟩ := hlist.shape
 have hlimlist : list.length ≤ 1099511627776 := hlist.lim
 have H := Hp.init hG
 refine calls_of_W (l := [.slice alist list.length klist, str path]) func163 rfl ntmps163 rfl (q2 (aG rfl (q3 (W_seq (q2 (aG rfl (q3 (W_block ?_))))))))
 refine W_lp (hf := (Sub.cons (t := 0) rfl (Sub.cons (t := 1) rfl Sub.nil))) (J := fun M w m => ∃ (k : Nat) (G : PH), M = [(5, .int .i64 (k : Int))] ∧ PLe G0 G ∧ Hp w0 G0 [] w G [] ∧ (k ≤ list.length ∧ (∀ j, j < k → ∀ y, list[j]? = some y → decide (y.path = path) = false)) ∧ m = (list.length - k)) (h0 := ⟨0, _, rfl, PLe.refl _, H, ?inv, rfl⟩) (round := ?round)
 case inv => exact ⟨by omega, fun j hj => by omega⟩
 case round =>
  rintro _ w1 _ ⟨k, G1, rfl, hle1, H, hinv1, rfl⟩
  have hlist := hlist.up hle1
  obtain ⟨hk, hall⟩ := hinv1
  refine W_seq (q2 (mV rfl (mV rfl (o_len_slice underlying29 rfl rfl (o_lss rfl rfl rfl (q3 ?_))))))
  refine W_cond rfl ?_ ?_
  ·intro hc2
   try simp only [nrm] at hc2
   refine W_skip (N_K (W_seq (W_block (q2 (mV rfl (mV rfl (o_index_P k hlist underlying29 sizeOf66 rfl rfl rfl rfl aN ?_))))))); intro b3 o3 z3 q3 hz3 hE3 hrow3
   obtain ⟨a3, m3, c3, rfl, hi3, hr3⟩ := hE3; have hy_hi3 : _ ≤ 16777216 := hi3; have hn_hr3 := hr3.len; have hx_hr3 : _ ≤ 1099511627776 := hr3.lim
   refine o_fieldAddr 0 runUnderlying66 rfl sizeOf9 rfl rfl rfl (o_load_P H isAgg9 rfl rfl (hrow3 0 _ rfl) (mV rfl (o_seql rfl rfl rfl (q3 ?_))))
   refine W_cond rfl ?_ ?_
   ·intro hc4
    try simp only [nrm] at hc4
    refine q2 (mV rfl (aG rfl (q3 (W_ret (N_B_ret (N_K_ret (N_LP_ret (N_B_ret (N_K_ret (rt1 results163 rfl ?_))))))))))
    exact H.rets (congrArg (Value.int .i64) (by rw [Sp.l5At, Sp.atI, Sp.find_at hall hz3 (by simp; exact hc4)]; rfl))
   intro hc4'
   try simp only [nrm] at hc4'
   refine W_skip (N_B (N_K (W_region (mV rfl (o_add rfl rfl rfl oO (aG rfl (R_nil ?_)))))))
   refine N_lp (hJ := ⟨k + 1, _, rfl, hle1, H, ?inv, rfl⟩) (hm := ?hm)
   case hm => omega
   case inv => exact ⟨by omega, Sp.none_succ hall hz3 (by simp; exact hc4')⟩
  intro hc2'
  try simp only [nrm] at hc2'
  refine W_exit (N_K_exit (N_LP_exit (N_B_same (N_K (q2 (aG rfl (q3 (W_ret (rt1 results163 rfl ?_)))))))))
  exact H.rets (congrArg (Value.int .i64) (by rw [Sp.l5At, Sp.atI, Sp.find_none hall oM]; rfl))
theorem l5Home_c (w0 : World) (G0 : PH) (hG : PSub G0 w0) (vlist : Value) (list : List (BItem)) (hlist : RdItems G0 vlist list) (path : Bs) (hpath : path.length ≤ 16777216)  :
  Calls Tryz.prog 156 #[vlist, str path] w0 (Rets w0 (.bool (Sp.l5Home list path))) := by
 obtain ⟨alist, klist, rfl⟩ := hlist.shape
 have hlimlist : list.length ≤ 1099511627776 := hlist.lim
 have H := Hp.init hG
 refine calls_of_W (l := [.slice alist list.length klist, str path]) func156 rfl ntmps156 rfl (q2 (aG rfl (q1 (mV rfl (o_call call184 rfl rfl (l5Parent_c _ _ hpath ) ?_)))))
 rintro _ w1 ⟨rfl, ew1⟩; have H := H.step ew1; refine ⟨_, rfl, ?_⟩
 refine aG rfl (q1 (mV rfl (mV rfl ?_)))
 refine o_call call163 rfl rfl (l5At_c _ _ H.sub _ _ hlist _ (by (first | assumption | (refine Sp.l5Parent_lim ?_; assumption) | (simp; done) | (simp; omega) | omega)) ) ?_
 rintro _ w2 ⟨rfl, ew2⟩; have H := H.step ew2; refine ⟨_, rfl, ?_⟩
 refine aG rfl (q1 (mV rfl (o_seql rfl rfl rfl (mV rfl ?_))))
 refine R_case (t := 14) rfl ?_ ?_
 ·intro hc3
  try simp only [nrm] at hc3
  refine rP rfl (rP rfl (rP rfl (R_pass rfl (yl_un rfl rfl) (R_pass rfl (yl_un rfl rfl) (R_pass rfl (yl_un rfl rfl) (R_pass rfl (yl_un rfl rfl) (R_pass rfl (yl_un rfl rfl) (rP rfl (o_pick_t rfl rfl rfl (aG rfl (q3 (W_ret (rt1 results156 rfl ?_)))))))))))))
  exact H.rets (congrArg Value.bool (by simp [Sp.l5Home, hc3]))
 intro hc3'
 try simp only [nrm] at hc3'
 refine gR rfl (mV rfl (gR rfl (o_geq rfl rfl rfl (gR rfl (mV rfl ?_)))))
 refine R_case (t := 17) rfl ?_ ?_
 ·intro hc4
  try simp only [nrm] at hc4
  obtain ⟨i, x, hi1, hi2, hi3, hi4, hi5⟩ := Sp.at_nat hc4
  refine gR rfl (mV rfl (gR rfl (mV rfl (gR rfl (o_index_P i hlist underlying29 sizeOf66 rfl rfl rfl hi2 aN ?_))))); intro b5 o5 z5 q5 hz5 hE5 hrow5
  obtain ⟨a5, m5, c5, rfl, hi5, hr5⟩ := hE5; have hy_hi5 : _ ≤ 16777216 := hi5; have hn_hr5 := hr5.len; have hx_hr5 : _ ≤ 1099511627776 := hr5.lim
  refine gR rfl (o_fieldAddr 1 runUnderlying66 rfl sizeOf4 rfl rfl rfl (gR rfl (o_load_P H isAgg4 rfl rfl (hrow5 1 _ rfl) (gR rfl (o_pick_t rfl rfl rfl (o_pick_f rfl rfl rfl (aG rfl (q3 (W_ret (rt1 results156 rfl ?_))))))))))
  exact H.rets (congrArg Value.bool (by simp [Sp.l5Home, hc3', Sp.atI, hi1, hz5]))
 intro hc4'
 try simp only [nrm] at hc4'
 refine rP rfl (rP rfl (rP rfl (rP rfl (rP rfl (gR rfl (o_pick_f rfl rfl rfl (o_pick_f rfl rfl rfl (aG rfl (q3 (W_ret (rt1 results156 rfl ?_)))))))))))
 exact H.rets (congrArg Value.bool (by simp [Sp.l5Home, hc3', Sp.atI, Sp.at_none hc4']))
theorem l5Item_c (w0 : World) (G0 : PH) (hG : PSub G0 w0) (cx : List Value) (x : BItem) (hx : itemE G0 x cx)  :
  Calls Tryz.prog 155 #[.agg cx.toArray] w0 (Rets w0 (.bool (Sp.l5Item x))) := by
 obtain ⟨a1, m1, c1, rfl, hi1, hr1⟩ := hx; have hy_hi1 : _ ≤ 16777216 := hi1; have hn_hr1 := hr1.len; have hx_hr1 : _ ≤ 1099511627776 := hr1.lim
 have H := Hp.init hG
 refine calls_of_W (l := [_]) func155 rfl ntmps155 rfl (q2 (o_box H rfl rfl rfl ?_)); intro b2 w2 hb2 H
 refine aG rfl (q3 (W_seq (q2 (aG rfl (q3 (W_block ?_))))))
 obtain ⟨ln3, hln3, H⟩ := H.name (k := 0) rfl
 refine W_lp (hf := (Sub.cons (t := 1) rfl Sub.nil)) (J := fun M w m => ∃ (k : Nat) (G : PH), M = [(3, .int .i64 (k : Int))] ∧ PLe G0 G ∧ Hp w0 G0 [] w G [blk b2 (cl ln3 66)] ∧ (k ≤ x.ids.length ∧ (x.ids.take k).all (Sp.idOk x.dir) = true) ∧ m = (x.ids.length - k)) (h0 := ⟨0, _, rfl, PLe.refl _, H, ?inv, rfl⟩) (round := ?round)
 case inv => exact ⟨by omega, by simp⟩
 case round =>
  rintro _ w4 _ ⟨k, G4, rfl, hle4, H, hinv4, rfl⟩
  subst hln3
  have hr1 := hr1.up hle4
  obtain ⟨hk, hall⟩ := hinv4
  refine W_seq (q2 (mV rfl (o_fieldAddr 2 runUnderlying66 rfl sizeOf41 rfl rfl rfl (o_load_B 0 H isAgg41 rfl rfl rfl rfl (o_len_slice underlying41 rfl rfl (o_lss rfl rfl rfl (q3 ?_)))))))
  refine W_cond rfl ?_ ?_
  ·intro hc5
   try simp only [nrm] at hc5
   refine W_skip (N_K (W_seq (W_block (q2 (o_fieldAddr 1 runUnderlying66 rfl sizeOf4 rfl rfl rfl (o_load_B 0 H isAgg4 rfl rfl rfl rfl (mV rfl ?_)))))))
   refine R_case (t := 13) rfl ?_ ?_
   ·intro hc6
    try simp only [nrm] at hc6
    refine rP rfl (rP rfl (rP rfl (rP rfl (rP rfl (rP rfl (rP rfl (o_pick_t rfl rfl rfl (q3 (W_true rfl (q2 (aG rfl (q3 (W_ret (N_B_ret (N_K_ret ?_)))))))))))))))
    refine N_LP_ret (N_B_ret (N_K_ret (rt1 results155 rfl ?_)))
    exact H.rets (congrArg Value.bool (by rw [Sp.l5Item, Sp.all_false (c := x.ids[k]) (List.getElem?_eq_getElem oM) (by simp [Sp.idOk, hc6])]; rfl))
   intro hc6'
   try simp only [nrm] at hc6'
   refine gR rfl (o_fieldAddr 2 runUnderlying66 rfl sizeOf41 rfl rfl rfl (gR rfl (o_load_B 0 H isAgg41 rfl rfl rfl rfl (gR rfl (mV rfl (gR rfl (o_index_P k hr1 underlying41 sizeOf3 rfl rfl rfl rfl aN ?_))))))); intro b7 o7 z7 q7 hz7 hE7 hrow7
   obtain ⟨rfl, hi7⟩ := hE7
   refine gR rfl (o_load_P H isAgg3 rfl rfl (hrow7 0 _ rfl) (gR rfl (o_call call125 rfl rfl (l6In_c _ _ _ _ ) ?_)))
   rintro _ w8 ⟨rfl, ew8⟩; have H := H.step ew8; refine ⟨_, rfl, ?_⟩
   refine gR rfl (o_not rfl rfl (o_pick_f rfl rfl rfl (q3 ?_)))
   refine W_cond rfl ?_ ?_
   ·intro hc9
    try simp only [nrm] at hc9
    refine q2 (aG rfl (q3 (W_ret (N_B_ret (N_K_ret (N_LP_ret (N_B_ret (N_K_ret (rt1 results155 rfl ?_)))))))))
    exact H.rets (congrArg Value.bool (by rw [Sp.l5Item, Sp.all_false hz7 (by simp [Sp.idOk, *])]; rfl))
   intro hc9'
   try simp only [nrm] at hc9'
   refine W_skip (N_B (N_K (W_region (mV rfl (o_add rfl rfl rfl oO (aG rfl (R_nil ?_)))))))
   refine N_lp (hJ := ⟨k + 1, _, rfl, hle4, H, ?inv, rfl⟩) (hm := ?hm)
   case hm => omega
   case inv => exact ⟨by omega, Sp.all_take hall hz7 (by simp [Sp.idOk, *])⟩
  intro hc5'
  try simp only [nrm] at hc5'
  refine W_exit (N_K_exit (N_LP_exit (N_B_same (N_K (q2 (o_fieldAddr 0 runUnderlying66 rfl sizeOf9 rfl rfl rfl (o_load_B 0 H isAgg9 rfl rfl rfl rfl (o_call call183 rfl rfl (PathValid_c _ _ H.sub _ hi1 ) ?_))))))))
  rintro _ w11 ⟨rfl, ew11⟩; have H := H.step ew11; refine ⟨_, rfl, ?_⟩
  refine mV rfl ?_
  refine R_case (t := 25) rfl ?_ ?_
  ·intro hc12
   try simp only [nrm] at hc12
   refine gR rfl (o_fieldAddr 2 runUnderlying66 rfl sizeOf41 rfl rfl rfl (gR rfl (o_load_B 0 H isAgg41 rfl rfl rfl rfl (gR rfl (o_len_slice underlying41 rfl rfl (gR rfl (o_leq rfl rfl rfl (o_pick_t rfl rfl rfl (aG rfl (q3 (W_ret (rt1 results155 rfl ?_))))))))))))
   obtain rfl : k = x.ids.length := by omega
   rw [List.take_length] at hall
   exact H.rets (congrArg Value.bool (by simp only [Sp.l5Item, hall, hc12, Bool.true_and]; rw [Bool.eq_iff_iff]; simp; omega))
  intro hc12'
  try simp only [nrm] at hc12'
  refine rP rfl (rP rfl (rP rfl (rP rfl (o_pick_f rfl rfl rfl (aG rfl (q3 (W_ret (rt1 results155 rfl ?_))))))))
  exact H.rets (congrArg Value.bool (by simp [Sp.l5Item, hc12']))
theorem TreeValid_c (w0 : World) (G0 : PH) (hG : PSub G0 w0) (vlist : Value) (list : List (BItem)) (hlist : RdItems G0 vlist list)  :
  Calls Tryz.prog 105 #[vlist] w0 (Rets w0 (.bool (Sp.TreeValid list))) := by
 obtain ⟨alist, klist, rfl⟩ := hlist.shape
 have hlimlist : list.length ≤ 1099511627776 := hlist.lim
 have H := Hp.init hG
 refine calls_of_W (l := [.slice alist list.length klist]) func105 rfl ntmps105 rfl (q2 (aG rfl (q3 (W_seq (q2 (aG rfl (q3 (W_block ?_))))))))
 refine W_lp (hf := (Sub.cons (t := 0) rfl Sub.nil)) (J := fun M w m => ∃ (k : Nat) (G : PH), M = [(3, .int .i64 (k : Int))] ∧ PLe G0 G ∧ Hp w0 G0 [] w G [] ∧ (k ≤ list.length ∧ ∀ j, j < k → Sp.okT list j = true) ∧ m = (list.length - k)) (h0 := ⟨0, _, rfl, PLe.refl _, H, ?inv, rfl⟩) (round := ?round)
 case inv => exact ⟨by omega, fun j hj => by omega⟩
 case round =>
  rintro _ w1 _ ⟨k, G1, rfl, hle1, H, hinv1, rfl⟩
  have hlist := hlist.up hle1
  obtain ⟨hk, hall⟩ := hinv1
  refine W_seq (q2 (mV rfl (mV rfl (o_len_slice underlying29 rfl rfl (o_lss rfl rfl rfl (q3 ?_))))))
  refine W_cond rfl ?_ ?_
  ·intro hc2
   try simp only [nrm] at hc2
   refine W_skip (N_K (W_seq (W_block (W_seq (W_drawK [] 34 H kR rfl ?_))))); intro w3 H; have hd3 := PLe.refl G1
   refine vM 0 rfl rfl (vM 1 rfl rfl ?_)
   have hl4 := hlist.len
   obtain ⟨b4, o4, z4, q4, ha4, hz4, hq4, hE4, hrow4, _⟩ := hlist.at (i := k) oM
   clear hq4
   obtain ⟨a4, m4, c4, rfl, hi4, hr4⟩ := hE4; have hy_hi4 : _ ≤ 16777216 := hi4; have hn_hr4 := hr4.len; have hx_hr4 : _ ≤ 1099511627776 := hr4.lim
   refine RD_t 2 rfl kR rfl (fun _ hK => v_index_P (i := k) ha4 underlying29 sizeOf66 rfl rfl rfl oM) (RD_t 3 rfl kR rfl (fun _ hK => v_loadagg_P hK isAgg66 sizeOf66 rfl hrow4 rfl) ?_)
   refine RD_run [4] kR rfl (RDs.cons rfl ?_ RDs.nil)
   refine o_call call155 rfl rfl (l5Item_c _ _ H.sub _ _ ⟨_, _, _, rfl, hi4, hr4⟩ ) ?_
   rintro _ w5 ⟨rfl, ew5⟩; have H := H.step ew5; refine ⟨_, rfl, ?_⟩
   refine R_nil (N_DK (Kn.of' H hd3 SubL.nil) (RD_t 5 rfl kR rfl (fun _ hK => v_not rfl) (vM 6 rfl rfl ?_)))
   refine RD_case (t := 16) rfl ?_ ?_
   ·intro hc6
    try simp only [nrm] at hc6
    refine RD_pass 7 rfl kR kR kR rfl (yl_ne rfl rfl rfl) (RD_pass 8 rfl kR kR kR rfl (yl_ne rfl rfl rfl) (RD_pass 9 rfl kR kR kR rfl (yl_ne rfl rfl rfl) (RD_pass 10 rfl kR kR kR rfl (yl_un rfl rfl) (RD_pass 11 rfl kR kR kR rfl (yl_un rfl rfl) (RD_pass 12 rfl kR kR kR rfl (yl_un rfl rfl) (RD_pass 13 rfl kR kR kR rfl (yl_un rfl rfl) (RD_pass 14 rfl kR kR kR rfl (yl_un rfl rfl) (RD_pass 15 rfl kR kR kR rfl (yl_un rfl rfl) (RD_pass 16 rfl kR kR kR rfl (yl_un rfl rfl) (RD_pass 17 rfl kR kR kR rfl (yl_un rfl rfl) (RD_pass 18 rfl kR kR kR rfl (yl_un rfl rfl) (RD_pass 19 rfl kR kR kR rfl (yl_un rfl rfl) (RD_pass 20 rfl kR kR kR rfl (yl_un rfl rfl) (RD_pass 21 rfl kR kR kR rfl (yl_un rfl rfl) (RD_pass 22 rfl kR kR kR rfl (yl_ne rfl rfl rfl) ?_)))))))))))))))
    refine RD_t 23 rfl kR rfl (fun _ hK => v_pick_t rfl rfl) (vM 24 rfl rfl (RD_pass 25 rfl kR kR kR rfl (yl_ne rfl rfl rfl) (RD_pass 26 rfl kR kR kR rfl (yl_ne rfl rfl rfl) (RD_pass 27 rfl kR kR kR rfl (yl_ne rfl rfl rfl) (RD_pass 28 rfl kR kR kR rfl (yl_ne rfl rfl rfl) (RD_pass 29 rfl kR kR kR rfl (yl_ne rfl rfl rfl) (RD_pass 30 rfl kR kR kR rfl (yl_ne rfl rfl rfl) (RD_pass 31 rfl kR kR kR rfl (yl_ne rfl rfl rfl) (RD_pass 32 rfl kR kR kR rfl (yl_ne rfl rfl rfl) (RD_t 33 rfl kR rfl (fun _ hK => v_pick_t rfl rfl) (RD_done kR (N_K (W_true rfl (q2 (aG rfl ?_)))))))))))))))
    refine q3 (W_ret (N_B_ret (N_K_ret (N_LP_ret (N_B_ret (N_K_ret (rt1 results105 rfl ?_)))))))
    exact H.rets (congrArg Value.bool (by rw [Sp.TreeValid, Sp.not_all_range (k := k) oM (by rw [Sp.okT_at hz4]; simp [Sp.prevLt, *])]; rfl))
   intro hc6'
   try simp only [nrm] at hc6'
   refine RD_tg 7 rfl kR rfl (yl rfl rfl) (fun _ hK => v_move rfl) (RD_tg 8 rfl kR rfl (yl rfl rfl) (fun _ hK => v_gtr rfl rfl) (RD_tg 9 rfl kR rfl (yl rfl rfl) (fun _ hK => v_move rfl) ?_))
   refine RD_case (t := 19) rfl ?_ ?_
   ·intro hc7
    try simp only [nrm] at hc7
    have hk0 : k ≠ 0 := by omega
    refine RD_tg 10 rfl kR rfl (yl rfl rfl) (fun _ hK => v_move rfl) (RD_tg 11 rfl kR rfl (yl rfl rfl) (fun _ hK => v_move rfl) (RD_tg 12 rfl kR rfl (yl rfl rfl) (fun _ hK => v_sub rfl rfl oO) ?_))
    have hl9 := hlist.len
    obtain ⟨b9, o9, z9, q9, ha9, hz9, hq9, hE9, hrow9, _⟩ := hlist.at (i := (k - 1)) oM
    clear hq9
    obtain ⟨a9, m9, c9, rfl, hi9, hr9⟩ := hE9; have hy_hi9 : _ ≤ 16777216 := hi9; have hn_hr9 := hr9.len; have hx_hr9 : _ ≤ 1099511627776 := hr9.lim
    refine RD_tg 13 rfl kR rfl (yl rfl rfl) (fun _ hK => v_index_P (i := (k - 1)) ha9 underlying29 sizeOf66 rfl rfl oM oM) (RD_tg 14 rfl kR rfl (yl rfl rfl) (fun _ hK => v_fieldAddr 0 runUnderlying66 rfl sizeOf9 rfl rfl) (RD_tg 15 rfl kR rfl (yl rfl rfl) (fun _ hK => v_load_P hK isAgg9 rfl (hrow9 0 _ rfl)) (RD_tg 16 rfl kR rfl (yl rfl rfl) (fun _ hK => v_move rfl) (RD_tg 17 rfl kR rfl (yl rfl rfl) (fun _ hK => v_move rfl) ?_))))
    have hl10 := hlist.len
    obtain ⟨b10, o10, z10, q10, ha10, hz10, hq10, hE10, hrow10, _⟩ := hlist.at (i := k) oM
    clear hq10
    obtain ⟨a10, m10, c10, rfl, hi10, hr10⟩ := hE10; have hy_hi10 : _ ≤ 16777216 := hi10; have hn_hr10 := hr10.len; have hx_hr10 : _ ≤ 1099511627776 := hr10.lim
    have hzz10 : z4 = z10 := Option.some.inj (hz4.symm.trans hz10)
    subst hzz10
    refine RD_tg 18 rfl kR rfl (yl rfl rfl) (fun _ hK => v_index_P (i := k) ha10 underlying29 sizeOf66 rfl rfl rfl oM) (RD_tg 19 rfl kR rfl (yl rfl rfl) (fun _ hK => v_fieldAddr 0 runUnderlying66 rfl sizeOf9 rfl rfl) (RD_tg 20 rfl kR rfl (yl rfl rfl) (fun _ hK => v_load_P hK isAgg9 rfl (hrow10 0 _ rfl)) (RD_tg 21 rfl kR rfl (yl rfl rfl) (fun _ hK => v_sgeq rfl rfl) (RD_tg 22 rfl kR rfl (yl rfl rfl) (fun _ hK => v_pick_t rfl rfl) (RD_t 23 rfl kR rfl (fun _ hK => v_pick_f rfl rfl) (vM 24 rfl rfl ?_))))))
    refine RD_case (t := 34) rfl ?_ ?_
    ·intro hc11
     try simp only [nrm] at hc11
     refine RD_pass 25 rfl kR kR kR rfl (yl_ne rfl rfl rfl) (RD_pass 26 rfl kR kR kR rfl (yl_ne rfl rfl rfl) (RD_pass 27 rfl kR kR kR rfl (yl_ne rfl rfl rfl) (RD_pass 28 rfl kR kR kR rfl (yl_ne rfl rfl rfl) (RD_pass 29 rfl kR kR kR rfl (yl_ne rfl rfl rfl) (RD_pass 30 rfl kR kR kR rfl (yl_ne rfl rfl rfl) (RD_pass 31 rfl kR kR kR rfl (yl_ne rfl rfl rfl) (RD_pass 32 rfl kR kR kR rfl (yl_ne rfl rfl rfl) (RD_t 33 rfl kR rfl (fun _ hK => v_pick_t rfl rfl) (RD_done kR (N_K (W_true rfl (q2 (aG rfl (q3 (W_ret ?_)))))))))))))))
     refine N_B_ret (N_K_ret (N_LP_ret (N_B_ret (N_K_ret (rt1 results105 rfl ?_)))))
     exact H.rets (congrArg Value.bool (by rw [Sp.TreeValid, Sp.not_all_range (k := k) oM (by rw [Sp.okT_at hz4]; simp [Sp.prevLt, *])]; rfl))
    intro hc11'
    try simp only [nrm] at hc11'
    refine RD_tg 25 rfl kR rfl (yl rfl rfl) (fun _ hK => v_move rfl) (RD_tg 26 rfl kR rfl (yl rfl rfl) (fun _ hK => v_move rfl) (RD_tg 27 rfl kR rfl (yl rfl rfl) (fun _ hK => v_move rfl) ?_))
    have hl12 := hlist.len
    obtain ⟨b12, o12, z12, q12, ha12, hz12, hq12, hE12, hrow12, _⟩ := hlist.at (i := k) oM
    clear hq12
    obtain ⟨a12, m12, c12, rfl, hi12, hr12⟩ := hE12; have hy_hi12 : _ ≤ 16777216 := hi12; have hn_hr12 := hr12.len; have hx_hr12 : _ ≤ 1099511627776 := hr12.lim
    have hzz12 : z4 = z12 := Option.some.inj (hz4.symm.trans hz12)
    subst hzz12
    refine RD_tg 28 rfl kR rfl (yl rfl rfl) (fun _ hK => v_index_P (i := k) ha12 underlying29 sizeOf66 rfl rfl rfl oM) (RD_tg 29 rfl kR rfl (yl rfl rfl) (fun _ hK => v_fieldAddr 0 runUnderlying66 rfl sizeOf9 rfl rfl) (RD_tg 30 rfl kR rfl (yl rfl rfl) (fun _ hK => v_load_P hK isAgg9 rfl (hrow12 0 _ rfl)) ?_))
    refine RD_run [31] kR rfl (RDs.cons rfl ?_ RDs.nil)
    refine gR rfl (o_call call156 rfl rfl (l5Home_c _ _ H.sub _ _ hlist _ hi12 ) ?_)
    rintro _ w13 ⟨rfl, ew13⟩; have H := H.step ew13; refine ⟨_, rfl, ?_⟩
    refine R_nil (N_DK (Kn.of' H hd3 SubL.nil) (RD_tg 32 rfl kR rfl (yl rfl rfl) (fun _ hK => v_not rfl) (RD_t 33 rfl kR rfl (fun _ hK => v_pick_f rfl rfl) (RD_done kR (N_K ?_)))))
    refine W_cond rfl ?_ ?_
    ·intro hc14
     try simp only [nrm] at hc14
     refine q2 (aG rfl (q3 (W_ret (N_B_ret (N_K_ret (N_LP_ret (N_B_ret (N_K_ret (rt1 results105 rfl ?_)))))))))
     exact H.rets (congrArg Value.bool (by rw [Sp.TreeValid, Sp.not_all_range (k := k) oM (by rw [Sp.okT_at hz4]; simp [Sp.prevLt, *])]; rfl))
    intro hc14'
    try simp only [nrm] at hc14'
    refine W_skip (N_B (N_K (W_region (mV rfl (o_add rfl rfl rfl oO (aG rfl (R_nil ?_)))))))
    refine N_lp (hJ := ⟨k + 1, _, rfl, hle1, H, ?inv, rfl⟩) (hm := ?hm)
    case hm => omega
    case inv => exact ⟨by omega, Sp.upto_succ hall (by rw [Sp.okT_at hz4]; simp [Sp.prevLt, *])⟩
   intro hc7'
   try simp only [nrm] at hc7'
   have hk0 : k = 0 := by omega
   refine RD_pass 10 rfl kR kR kR rfl (yl_ne rfl rfl rfl) (RD_pass 11 rfl kR kR kR rfl (yl_ne rfl rfl rfl) (RD_pass 12 rfl kR kR kR rfl (yl_ne rfl rfl rfl) (RD_pass 13 rfl kR kR kR rfl (yl_ne rfl rfl rfl) (RD_pass 14 rfl kR kR kR rfl (yl_ne rfl rfl rfl) (RD_pass 15 rfl kR kR kR rfl (yl_ne rfl rfl rfl) (RD_pass 16 rfl kR kR kR rfl (yl_ne rfl rfl rfl) (RD_pass 17 rfl kR kR kR rfl (yl_ne rfl rfl rfl) (RD_pass 18 rfl kR kR kR rfl (yl_ne rfl rfl rfl) (RD_pass 19 rfl kR kR kR rfl (yl_ne rfl rfl rfl) (RD_pass 20 rfl kR kR kR rfl (yl_ne rfl rfl rfl) (RD_pass 21 rfl kR kR kR rfl (yl_ne rfl rfl rfl) (RD_tg 22 rfl kR rfl (yl rfl rfl) (fun _ hK => v_pick_f rfl rfl) (RD_t 23 rfl kR rfl (fun _ hK => v_pick_f rfl rfl) (vM 24 rfl rfl (RD_tg 25 rfl kR rfl (yl rfl rfl) (fun _ hK => v_move rfl) ?_)))))))))))))))
   refine RD_tg 26 rfl kR rfl (yl rfl rfl) (fun _ hK => v_move rfl) (RD_tg 27 rfl kR rfl (yl rfl rfl) (fun _ hK => v_move rfl) ?_)
   have hl16 := hlist.len
   obtain ⟨b16, o16, z16, q16, ha16, hz16, hq16, hE16, hrow16, _⟩ := hlist.at (i := k) oM
   clear hq16
   obtain ⟨a16, m16, c16, rfl, hi16, hr16⟩ := hE16; have hy_hi16 : _ ≤ 16777216 := hi16; have hn_hr16 := hr16.len; have hx_hr16 : _ ≤ 1099511627776 := hr16.lim
   have hzz16 : z4 = z16 := Option.some.inj (hz4.symm.trans hz16)
   subst hzz16
   refine RD_tg 28 rfl kR rfl (yl rfl rfl) (fun _ hK => v_index_P (i := k) ha16 underlying29 sizeOf66 rfl rfl rfl oM) (RD_tg 29 rfl kR rfl (yl rfl rfl) (fun _ hK => v_fieldAddr 0 runUnderlying66 rfl sizeOf9 rfl rfl) (RD_tg 30 rfl kR rfl (yl rfl rfl) (fun _ hK => v_load_P hK isAgg9 rfl (hrow16 0 _ rfl)) ?_))
   refine RD_run [31] kR rfl (RDs.cons rfl ?_ RDs.nil)
   refine gR rfl (o_call call156 rfl rfl (l5Home_c _ _ H.sub _ _ hlist _ hi16 ) ?_)
   rintro _ w17 ⟨rfl, ew17⟩; have H := H.step ew17; refine ⟨_, rfl, ?_⟩
   refine R_nil (N_DK (Kn.of' H hd3 SubL.nil) (RD_tg 32 rfl kR rfl (yl rfl rfl) (fun _ hK => v_not rfl) (RD_t 33 rfl kR rfl (fun _ hK => v_pick_f rfl rfl) (RD_done kR (N_K ?_)))))
   refine W_cond rfl ?_ ?_
   ·intro hc18
    try simp only [nrm] at hc18
    refine q2 (aG rfl (q3 (W_ret (N_B_ret (N_K_ret (N_LP_ret (N_B_ret (N_K_ret (rt1 results105 rfl ?_)))))))))
    exact H.rets (congrArg Value.bool (by rw [Sp.TreeValid, Sp.not_all_range (k := k) oM (by rw [Sp.okT_at hz4]; simp [Sp.prevLt, *])]; rfl))
   intro hc18'
   try simp only [nrm] at hc18'
   refine W_skip (N_B (N_K (W_region (mV rfl (o_add rfl rfl rfl oO (aG rfl (R_nil ?_)))))))
   refine N_lp (hJ := ⟨k + 1, _, rfl, hle1, H, ?inv, rfl⟩) (hm := ?hm)
   case hm => omega
   case inv => exact ⟨by omega, Sp.upto_succ hall (by rw [Sp.okT_at hz4]; simp [Sp.prevLt, *])⟩
  intro hc2'
  try simp only [nrm] at hc2'
  refine W_exit (N_K_exit (N_LP_exit (N_B_same (N_K (q2 (mV rfl (o_len_slice underlying29 rfl rfl (o_leq rfl rfl rfl (aG rfl (q3 (W_ret (rt1 results105 rfl ?_))))))))))))
  exact H.rets (congrArg Value.bool (by rw [Sp.TreeValid, Sp.all_range (fun j hj => hall j oM), Bool.true_and]; rw [Bool.eq_iff_iff]; simp; omega))
theorem l2Same_c (w0 : World) (G0 : PH) (hG : PSub G0 w0) (va : Value) (a : List (Int)) (ha : RdI G0 va a) (vb : Value) (b : List (Int)) (hb : RdI G0 vb b)  :
  Calls Tryz.prog 154 #[va, vb] w0 (Rets w0 (.bool (Sp.l2Same a b))) := by
 obtain ⟨aa, ka, rfl⟩ := ha.shape
 have hlima : a.length ≤ 1099511627776 := ha.lim
 obtain ⟨ab, kb, rfl⟩ := hb.shape
 have hlimb : b.length ≤ 1099511627776 := hb.lim
 have H := Hp.init hG
 refine calls_of_W (l := [.slice aa a.length ka, .slice ab b.length kb]) func154 rfl ntmps154 rfl (q2 (aG rfl (q3 (W_seq (q2 (mV rfl (o_len_slice underlying41 rfl rfl (mV rfl (o_len_slice underlying41 rfl rfl (o_neq rfl rfl rfl (q3 ?_)))))))))))
 refine W_cond rfl ?_ ?_
 ·intro hc1
  try simp only [nrm] at hc1
  refine q2 (aG rfl (q3 (W_ret (N_K_ret (rt1 results154 rfl ?_)))))
  exact H.rets (congrArg Value.bool (by unfold Sp.l2Same; exact Sp.ne_len oM))
 intro hc1'
 try simp only [nrm] at hc1'
 refine W_skip (N_K (W_seq (q2 (aG rfl (q3 (W_block ?_))))))
 refine W_lp (hf := (Sub.cons (t := 0) rfl (Sub.cons (t := 1) rfl Sub.nil))) (J := fun M w m => ∃ (k : Nat) (G : PH), M = [(5, .int .i64 (k : Int))] ∧ PLe G0 G ∧ Hp w0 G0 [] w G [] ∧ (k ≤ a.length ∧ a.take k = b.take k) ∧ m = (a.length - k)) (h0 := ⟨0, _, rfl, PLe.refl _, H, ?inv, rfl⟩) (round := ?round)
 case inv => exact ⟨by omega, by simp⟩
 case round =>
  rintro _ w2 _ ⟨k, G2, rfl, hle2, H, hinv2, rfl⟩
  have ha := ha.up hle2
  have hb := hb.up hle2
  obtain ⟨hk, hall⟩ := hinv2
  refine W_seq (q2 (mV rfl (mV rfl (o_len_slice underlying41 rfl rfl (o_lss rfl rfl rfl (q3 ?_))))))
  refine W_cond rfl ?_ ?_
  ·intro hc3
   try simp only [nrm] at hc3
   refine W_skip (N_K (W_seq (W_block (W_seq (W_drawK [] 9 H kR rfl ?_))))); intro w4 H; have hd4 := PLe.refl G2
   refine vM 0 rfl rfl (vM 1 rfl rfl ?_)
   have hl5 := ha.len
   obtain ⟨b5, o5, z5, q5, ha5, hz5, hq5, hE5, hrow5, _⟩ := ha.at (i := k) oM
   clear hq5
   obtain ⟨rfl, hi5⟩ := hE5
   refine RD_t 2 rfl kR rfl (fun _ hK => v_index_P (i := k) ha5 underlying41 sizeOf3 rfl rfl rfl oM) (RD_t 3 rfl kR rfl (fun _ hK => v_load_P hK isAgg3 rfl (hrow5 0 _ rfl)) (vM 4 rfl rfl (vM 5 rfl rfl ?_)))
   have hl6 := hb.len
   obtain ⟨b6, o6, z6, q6, ha6, hz6, hq6, hE6, hrow6, _⟩ := hb.at (i := k) oM
   clear hq6
   obtain ⟨rfl, hi6⟩ := hE6
   refine RD_t 6 rfl kR rfl (fun _ hK => v_index_P (i := k) ha6 underlying41 sizeOf3 rfl rfl rfl oM) (RD_t 7 rfl kR rfl (fun _ hK => v_load_P hK isAgg3 rfl (hrow6 0 _ rfl)) (RD_t 8 rfl kR rfl (fun _ hK => v_neq rfl rfl) (RD_done kR (N_K ?_))))
   refine W_cond rfl ?_ ?_
   ·intro hc7
    try simp only [nrm] at hc7
    refine q2 (aG rfl (q3 (W_ret (N_B_ret (N_K_ret (N_LP_ret (N_B_ret (N_K_ret (rt1 results154 rfl ?_)))))))))
    exact H.rets (congrArg Value.bool (by unfold Sp.l2Same; exact Sp.ne_at hz5 hz6 oM))
   intro hc7'
   try simp only [nrm] at hc7'
   refine W_skip (N_B (N_K (W_region (mV rfl (o_add rfl rfl rfl oO (aG rfl (R_nil ?_)))))))
   refine N_lp (hJ := ⟨k + 1, _, rfl, hle2, H, ?inv, rfl⟩) (hm := ?hm)
   case hm => omega
   case inv => exact ⟨by omega, Sp.take_eq hall hz5 (by rw [hz6]; congr 1; omega)⟩
  intro hc3'
  try simp only [nrm] at hc3'
  refine W_exit (N_K_exit (N_LP_exit (N_B_same (N_K (q2 (aG rfl (q3 (W_ret (rt1 results154 rfl ?_)))))))))
  exact H.rets (congrArg Value.bool (by unfold Sp.l2Same; exact Sp.eq_all hall oM oM))
theorem BlockValid_c (w0 : World) (G0 : PH) (hG : PSub G0 w0) (vbytes : Value) (bytes : List (Int)) (hbytes : RdI G0 vbytes bytes)  :
  Calls Tryz.prog 153 #[vbytes] w0 (Rets w0 (.bool (Sp.BlockValid bytes))) := by
 obtain ⟨abytes, kbytes, rfl⟩ := hbytes.shape
 have hlimbytes : bytes.length ≤ 1099511627776 := hbytes.lim
 have H := Hp.init hG
 refine calls_of_W (l := [.slice abytes bytes.length kbytes]) func153 rfl ntmps153 rfl (q2 (aG rfl (q3 (W_seq (q2 (aG rfl (q3 (W_block ?_))))))))
 refine W_lp (hf := (Sub.cons (t := 0) rfl Sub.nil)) (J := fun M w m => ∃ (k : Nat) (G : PH), M = [(3, .int .i64 (k : Int))] ∧ PLe G0 G ∧ Hp w0 G0 [] w G [] ∧ (k ≤ bytes.length ∧ (bytes.take k).all Sp.byteOk = true) ∧ m = (bytes.length - k)) (h0 := ⟨0, _, rfl, PLe.refl _, H, ?inv, rfl⟩) (round := ?round)
 case inv => exact ⟨by omega, by simp⟩
 case round =>
  rintro _ w1 _ ⟨k, G1, rfl, hle1, H, hinv1, rfl⟩
  have hbytes := hbytes.up hle1
  obtain ⟨hk, hall⟩ := hinv1
  refine W_seq (q2 (mV rfl (mV rfl (o_len_slice underlying41 rfl rfl (o_lss rfl rfl rfl (q3 ?_))))))
  refine W_cond rfl ?_ ?_
  ·intro hc2
   try simp only [nrm] at hc2
   refine W_skip (N_K (W_seq (W_block (q2 (mV rfl (mV rfl (o_index_P k hbytes underlying41 sizeOf3 rfl rfl rfl rfl aN ?_))))))); intro b3 o3 z3 q3 hz3 hE3 hrow3
   obtain ⟨rfl, hi3⟩ := hE3
   refine o_load_P H isAgg3 rfl rfl (hrow3 0 _ rfl) (o_call call125 rfl rfl (l6In_c _ _ _ _ ) ?_)
   rintro _ w4 ⟨rfl, ew4⟩; have H := H.step ew4; refine ⟨_, rfl, ?_⟩
   refine o_not rfl rfl (q3 ?_)
   refine W_cond rfl ?_ ?_
   ·intro hc5
    try simp only [nrm] at hc5
    refine q2 (aG rfl (q3 (W_ret (N_B_ret (N_K_ret (N_LP_ret (N_B_ret (N_K_ret (rt1 results153 rfl ?_)))))))))
    exact H.rets (congrArg Value.bool (by rw [Sp.BlockValid, Sp.all_false hz3 (by simp [Sp.byteOk, *])]; rfl))
   intro hc5'
   try simp only [nrm] at hc5'
   refine W_skip (N_B (N_K (W_region (mV rfl (o_add rfl rfl rfl oO (aG rfl (R_nil ?_)))))))
   refine N_lp (hJ := ⟨k + 1, _, rfl, hle1, H, ?inv, rfl⟩) (hm := ?hm)
   case hm => omega
   case inv => exact ⟨by omega, Sp.all_take hall hz3 (by simp [Sp.byteOk, *])⟩
  intro hc2'
  try simp only [nrm] at hc2'
  refine W_exit (N_K_exit (N_LP_exit (N_B_same (N_K (q2 (mV rfl (o_len_slice underlying41 rfl rfl (o_call call125 rfl rfl (l6In_c _ _ _ _ ) ?_))))))))
  rintro _ w7 ⟨rfl, ew7⟩; have H := H.step ew7; refine ⟨_, rfl, ?_⟩
  refine aG rfl (q3 (W_ret (rt1 results153 rfl ?_)))
  obtain rfl : k = bytes.length := by omega
  rw [List.take_length] at hall
  exact H.rets (congrArg Value.bool (by simp only [Sp.BlockValid, hall, Bool.true_and]))
theorem StoreValid_c (w0 : World) (G0 : PH) (hG : PSub G0 w0) (vlist : Value) (list : List (BHeld)) (hlist : RdH G0 vlist list)  :
  Calls Tryz.prog 104 #[vlist] w0 (Rets w0 (.bool (Sp.StoreValid list))) := by
 obtain ⟨alist, klist, rfl⟩ := hlist.shape
 have hlimlist : list.length ≤ 1099511627776 := hlist.lim
 have H := Hp.init hG
 refine calls_of_W (l := [.slice alist list.length klist]) func104 rfl ntmps104 rfl (q2 (aG rfl (q3 (W_seq (q2 (aG rfl (q3 (W_block ?_))))))))
 refine W_lp (hf := (Sub.cons (t := 0) rfl Sub.nil)) (J := fun M w m => ∃ (k : Nat) (G : PH), M = [(3, .int .i64 (k : Int))] ∧ PLe G0 G ∧ Hp w0 G0 [] w G [] ∧ (k ≤ list.length ∧ ∀ j, j < k → Sp.okH list j = true) ∧ m = (list.length - k)) (h0 := ⟨0, _, rfl, PLe.refl _, H, ?inv, rfl⟩) (round := ?round)
 case inv => exact ⟨by omega, fun j hj => by omega⟩
 case round =>
  rintro _ w1 _ ⟨k, G1, rfl, hle1, H, hinv1, rfl⟩
  have hlist := hlist.up hle1
  obtain ⟨hk, hall⟩ := hinv1
  refine W_seq (q2 (mV rfl (mV rfl (o_len_slice underlying28 rfl rfl (o_lss rfl rfl rfl (q3 ?_))))))
  refine W_cond rfl ?_ ?_
  ·intro hc2
   try simp only [nrm] at hc2
   refine W_skip (N_K (W_seq (W_block (q2 (mV rfl (mV rfl (o_index_P k hlist underlying28 sizeOf131 rfl rfl rfl rfl aN ?_))))))); intro b3 o3 z3 q3 hz3 hE3 hrow3
   obtain ⟨a3, m3, c3, rfl, hi3, hr3, hj3⟩ := hE3; have hn_hr3 := hr3.len; have hx_hr3 : _ ≤ 1099511627776 := hr3.lim
   refine o_loadagg_P H isAgg131 sizeOf131 rfl rfl hrow3 rfl (o_alloc H zeroValue131 rfl rfl ?_); intro b4 w4 hb4 H
   refine o_store_B 0 H sizeOf131 rfl rfl rfl rfl rfl rfl rfl rfl ?_; intro w5 H
   refine q3 (W_seq (W_seq (W_drawK [0] 31 H kR rfl ?_))); intro w6 H; have hd6 := PLe.refl G1
   refine RD_t 0 rfl kR rfl (fun _ hK => v_fieldAddr 0 runUnderlying131 rfl sizeOf3 rfl rfl) (RD_t 1 rfl kR rfl (fun _ hK => v_load_B 0 hK isAgg3 rfl rfl rfl) ?_)
   refine RD_run [2] kR rfl (RDs.cons rfl ?_ RDs.nil)
   refine o_call call125 rfl rfl (l6In_c _ _ _ _ ) ?_
   rintro _ w7 ⟨rfl, ew7⟩; have H := H.step ew7; refine ⟨_, rfl, ?_⟩
   refine R_nil (N_DK (Kn.of' H hd6 (SubL.cons 0 rfl SubL.nil)) (RD_t 3 rfl kR rfl (fun _ hK => v_not rfl) (vM 4 rfl rfl ?_)))
   refine RD_case (t := 20) rfl ?_ ?_
   ·intro hc8
    try simp only [nrm] at hc8
    refine RD_pass 5 rfl kR kR kR rfl (yl_ne rfl rfl rfl) (RD_pass 6 rfl kR kR kR rfl (yl_ne rfl rfl rfl) (RD_pass 7 rfl kR kR kR rfl (yl_ne rfl rfl rfl) (RD_pass 8 rfl kR kR kR rfl (yl_ne rfl rfl rfl) (RD_t 9 rfl kR rfl (fun _ hK => v_pick_t rfl rfl) (vM 10 rfl rfl (RD_pass 11 rfl kR kR kR rfl (yl_ne rfl rfl rfl) (RD_pass 12 rfl kR kR kR rfl (yl_ne rfl rfl rfl) (RD_pass 13 rfl kR kR kR rfl (yl_ne rfl rfl rfl) (RD_pass 14 rfl kR kR kR rfl (yl_ne rfl rfl rfl) (RD_t 15 rfl kR rfl (fun _ hK => v_pick_t rfl rfl) (vM 16 rfl rfl (RD_pass 17 rfl kR kR kR rfl (yl_ne rfl rfl rfl) (RD_pass 18 rfl kR kR kR rfl (yl_ne rfl rfl rfl) (RD_pass 19 rfl kR kR kR rfl (yl_ne rfl rfl rfl) (RD_pass 20 rfl kR kR kR rfl (yl_un rfl rfl) ?_)))))))))))))))
    refine RD_pass 21 rfl kR kR kR rfl (yl_un rfl rfl) (RD_pass 22 rfl kR kR kR rfl (yl_un rfl rfl) (RD_pass 23 rfl kR kR kR rfl (yl_un rfl rfl) (RD_pass 24 rfl kR kR kR rfl (yl_un rfl rfl) (RD_pass 25 rfl kR kR kR rfl (yl_un rfl rfl) (RD_pass 26 rfl kR kR kR rfl (yl_un rfl rfl) (RD_pass 27 rfl kR kR kR rfl (yl_un rfl rfl) (RD_pass 28 rfl kR kR kR rfl (yl_un rfl rfl) (RD_pass 29 rfl kR kR kR rfl (yl_ne rfl rfl rfl) (RD_t 30 rfl kR rfl (fun _ hK => v_pick_t rfl rfl) (RD_done kR (N_K (W_true rfl (q2 (aG rfl (q3 ?_)))))))))))))))
    refine W_ret (N_K_ret (N_B_ret (N_K_ret (N_LP_ret (N_B_ret (N_K_ret (rt1 results104 rfl ?_)))))))
    exact H.rets (congrArg Value.bool (by rw [Sp.StoreValid, Sp.not_all_range (k := k) oM (by rw [Sp.okH_at hz3]; simp [Sp.prevId, *])]; rfl))
   intro hc8'
   try simp only [nrm] at hc8'
   refine RD_tg 5 rfl kR rfl (yl rfl rfl) (fun _ hK => v_fieldAddr 1 runUnderlying131 rfl sizeOf41 rfl rfl) (RD_tg 6 rfl kR rfl (yl rfl rfl) (fun _ hK => v_load_B 0 hK isAgg41 rfl rfl rfl) ?_)
   refine RD_run [7] kR rfl (RDs.cons rfl ?_ RDs.nil)
   refine gR rfl (o_call call153 rfl rfl (BlockValid_c _ _ H.sub _ _ hr3 ) ?_)
   rintro _ w9 ⟨rfl, ew9⟩; have H := H.step ew9; refine ⟨_, rfl, ?_⟩
   refine R_nil (N_DK (Kn.of' H hd6 (SubL.cons 0 rfl SubL.nil)) (RD_tg 8 rfl kR rfl (yl rfl rfl) (fun _ hK => v_not rfl) (RD_t 9 rfl kR rfl (fun _ hK => v_pick_f rfl rfl) (vM 10 rfl rfl ?_))))
   refine RD_case (t := 26) rfl ?_ ?_
   ·intro hc10
    try simp only [nrm] at hc10
    refine RD_pass 11 rfl kR kR kR rfl (yl_ne rfl rfl rfl) (RD_pass 12 rfl kR kR kR rfl (yl_ne rfl rfl rfl) (RD_pass 13 rfl kR kR kR rfl (yl_ne rfl rfl rfl) (RD_pass 14 rfl kR kR kR rfl (yl_ne rfl rfl rfl) (RD_t 15 rfl kR rfl (fun _ hK => v_pick_t rfl rfl) (vM 16 rfl rfl (RD_pass 17 rfl kR kR kR rfl (yl_ne rfl rfl rfl) (RD_pass 18 rfl kR kR kR rfl (yl_ne rfl rfl rfl) (RD_pass 19 rfl kR kR kR rfl (yl_ne rfl rfl rfl) (RD_pass 20 rfl kR kR kR rfl (yl_un rfl rfl) (RD_pass 21 rfl kR kR kR rfl (yl_un rfl rfl) (RD_pass 22 rfl kR kR kR rfl (yl_un rfl rfl) (RD_pass 23 rfl kR kR kR rfl (yl_un rfl rfl) (RD_pass 24 rfl kR kR kR rfl (yl_un rfl rfl) (RD_pass 25 rfl kR kR kR rfl (yl_un rfl rfl) (RD_pass 26 rfl kR kR kR rfl (yl_un rfl rfl) ?_)))))))))))))))
    refine RD_pass 27 rfl kR kR kR rfl (yl_un rfl rfl) (RD_pass 28 rfl kR kR kR rfl (yl_un rfl rfl) (RD_pass 29 rfl kR kR kR rfl (yl_ne rfl rfl rfl) (RD_t 30 rfl kR rfl (fun _ hK => v_pick_t rfl rfl) (RD_done kR (N_K (W_true rfl (q2 (aG rfl (q3 (W_ret (N_K_ret (N_B_ret (N_K_ret (N_LP_ret (N_B_ret ?_)))))))))))))))
    refine N_K_ret (rt1 results104 rfl ?_)
    exact H.rets (congrArg Value.bool (by rw [Sp.StoreValid, Sp.not_all_range (k := k) oM (by rw [Sp.okH_at hz3]; simp [Sp.prevId, *])]; rfl))
   intro hc10'
   try simp only [nrm] at hc10'
   refine RD_tg 11 rfl kR rfl (yl rfl rfl) (fun _ hK => v_fieldAddr 2 runUnderlying131 rfl sizeOf3 rfl rfl) (RD_tg 12 rfl kR rfl (yl rfl rfl) (fun _ hK => v_load_B 0 hK isAgg3 rfl rfl rfl) ?_)
   refine RD_run [13] kR rfl (RDs.cons rfl ?_ RDs.nil)
   refine gR rfl (o_call call125 rfl rfl (l6In_c _ _ _ _ ) ?_)
   rintro _ w11 ⟨rfl, ew11⟩; have H := H.step ew11; refine ⟨_, rfl, ?_⟩
   refine R_nil (N_DK (Kn.of' H hd6 (SubL.cons 0 rfl SubL.nil)) (RD_tg 14 rfl kR rfl (yl rfl rfl) (fun _ hK => v_not rfl) (RD_t 15 rfl kR rfl (fun _ hK => v_pick_f rfl rfl) (vM 16 rfl rfl ?_))))
   refine RD_case (t := 32) rfl ?_ ?_
   ·intro hc12
    try simp only [nrm] at hc12
    refine RD_pass 17 rfl kR kR kR rfl (yl_ne rfl rfl rfl) (RD_pass 18 rfl kR kR kR rfl (yl_ne rfl rfl rfl) (RD_pass 19 rfl kR kR kR rfl (yl_ne rfl rfl rfl) (RD_pass 20 rfl kR kR kR rfl (yl_un rfl rfl) (RD_pass 21 rfl kR kR kR rfl (yl_un rfl rfl) (RD_pass 22 rfl kR kR kR rfl (yl_un rfl rfl) (RD_pass 23 rfl kR kR kR rfl (yl_un rfl rfl) (RD_pass 24 rfl kR kR kR rfl (yl_un rfl rfl) (RD_pass 25 rfl kR kR kR rfl (yl_un rfl rfl) (RD_pass 26 rfl kR kR kR rfl (yl_un rfl rfl) (RD_pass 27 rfl kR kR kR rfl (yl_un rfl rfl) (RD_pass 28 rfl kR kR kR rfl (yl_un rfl rfl) (RD_pass 29 rfl kR kR kR rfl (yl_ne rfl rfl rfl) (RD_t 30 rfl kR rfl (fun _ hK => v_pick_t rfl rfl) (RD_done kR (N_K ?_)))))))))))))))
    refine W_true rfl (q2 (aG rfl (q3 (W_ret (N_K_ret (N_B_ret (N_K_ret (N_LP_ret (N_B_ret (N_K_ret (rt1 results104 rfl ?_)))))))))))
    exact H.rets (congrArg Value.bool (by rw [Sp.StoreValid, Sp.not_all_range (k := k) oM (by rw [Sp.okH_at hz3]; simp [Sp.prevId, *])]; rfl))
   intro hc12'
   try simp only [nrm] at hc12'
   refine RD_tg 17 rfl kR rfl (yl rfl rfl) (fun _ hK => v_move rfl) (RD_tg 18 rfl kR rfl (yl rfl rfl) (fun _ hK => v_gtr rfl rfl) (RD_tg 19 rfl kR rfl (yl rfl rfl) (fun _ hK => v_move rfl) ?_))
   refine RD_case (t := 35) rfl ?_ ?_
   ·intro hc13
    try simp only [nrm] at hc13
    have hk0 : k ≠ 0 := by omega
    refine RD_tg 20 rfl kR rfl (yl rfl rfl) (fun _ hK => v_move rfl) (RD_tg 21 rfl kR rfl (yl rfl rfl) (fun _ hK => v_move rfl) (RD_tg 22 rfl kR rfl (yl rfl rfl) (fun _ hK => v_sub rfl rfl oO) ?_))
    have hl15 := hlist.len
    obtain ⟨b15, o15, z15, q15, ha15, hz15, hq15, hE15, hrow15, _⟩ := hlist.at (i := (k - 1)) oM
    clear hq15
    obtain ⟨a15, m15, c15, rfl, hi15, hr15, hj15⟩ := hE15; have hn_hr15 := hr15.len; have hx_hr15 : _ ≤ 1099511627776 := hr15.lim
    refine RD_tg 23 rfl kR rfl (yl rfl rfl) (fun _ hK => v_index_P (i := (k - 1)) ha15 underlying28 sizeOf131 rfl rfl oM oM) (RD_tg 24 rfl kR rfl (yl rfl rfl) (fun _ hK => v_fieldAddr 0 runUnderlying131 rfl sizeOf3 rfl rfl) (RD_tg 25 rfl kR rfl (yl rfl rfl) (fun _ hK => v_load_P hK isAgg3 rfl (hrow15 0 _ rfl)) (RD_tg 26 rfl kR rfl (yl rfl rfl) (fun _ hK => v_fieldAddr 0 runUnderlying131 rfl sizeOf3 rfl rfl) (RD_tg 27 rfl kR rfl (yl rfl rfl) (fun _ hK => v_load_B 0 hK isAgg3 rfl rfl rfl) (RD_tg 28 rfl kR rfl (yl rfl rfl) (fun _ hK => v_geq rfl rfl) (RD_tg 29 rfl kR rfl (yl rfl rfl) (fun _ hK => v_pick_t rfl rfl) (RD_t 30 rfl kR rfl (fun _ hK => v_pick_f rfl rfl) (RD_done kR (N_K ?_)))))))))
    refine W_cond rfl ?_ ?_
    ·intro hc16
     try simp only [nrm] at hc16
     refine q2 (aG rfl (q3 (W_ret (N_K_ret (N_B_ret (N_K_ret (N_LP_ret (N_B_ret (N_K_ret (rt1 results104 rfl ?_))))))))))
     exact H.rets (congrArg Value.bool (by rw [Sp.StoreValid, Sp.not_all_range (k := k) oM (by rw [Sp.okH_at hz3]; simp [Sp.prevId, *]; intro h; omega)]; rfl))
    intro hc16'
    try simp only [nrm] at hc16'
    refine W_skip (N_K (q2 (aG rfl (q3 (W_block ?_)))))
    obtain ⟨ln17, hln17, H⟩ := H.name (k := 0) rfl
    refine W_lp (hf := (Sub.cons (t := 0) rfl (Sub.cons (t := 3) rfl (Sub.cons (t := 4) rfl Sub.nil)))) (J := fun M w m => ∃ (i : Nat) (G : PH), M = [(5, .int .i64 (i : Int))] ∧ PLe G1 G ∧ Hp w0 G0 [] w G [blk b4 (cl ln17 131)] ∧ (i ≤ k ∧ (list.take i).all (fun g => !Sp.l2Same g.bytes z3.bytes) = true) ∧ m = (k - i)) (h0 := ⟨0, _, rfl, PLe.refl _, H, ?inv, rfl⟩) (round := ?round)
    case inv => exact ⟨by omega, by simp⟩
    case round =>
     rintro _ w18 _ ⟨i, G18, rfl, hle18, H, hinv18, rfl⟩
     subst hln17
     have hlist := hlist.up hle18
     have hr3 := hr3.up hle18
     have hle1 := hle1.trans hle18
     obtain ⟨hi, hall2⟩ := hinv18
     refine W_seq (q2 (mV rfl (mV rfl (o_lss rfl rfl rfl (q3 ?_)))))
     refine W_cond rfl ?_ ?_
     ·intro hc19
      try simp only [nrm] at hc19
      refine W_skip (N_K (W_seq (W_block (W_seq (W_drawK [0] 8 H kR rfl ?_))))); intro w20 H; have hd20 := PLe.refl G18
      refine vM 0 rfl rfl (vM 1 rfl rfl ?_)
      have hl21 := hlist.len
      obtain ⟨b21, o21, z21, q21, ha21, hz21, hq21, hE21, hrow21, _⟩ := hlist.at (i := i) oM
      clear hq21
      obtain ⟨a21, m21, c21, rfl, hi21, hr21, hj21⟩ := hE21; have hn_hr21 := hr21.len; have hx_hr21 : _ ≤ 1099511627776 := hr21.lim
      refine RD_t 2 rfl kR rfl (fun _ hK => v_index_P (i := i) ha21 underlying28 sizeOf131 rfl rfl rfl oM) (RD_t 3 rfl kR rfl (fun _ hK => v_fieldAddr 1 runUnderlying131 rfl sizeOf41 rfl rfl) (RD_t 4 rfl kR rfl (fun _ hK => v_load_P hK isAgg41 rfl (hrow21 1 _ rfl)) (RD_t 5 rfl kR rfl (fun _ hK => v_fieldAddr 1 runUnderlying131 rfl sizeOf41 rfl rfl) (RD_t 6 rfl kR rfl (fun _ hK => v_load_B 0 hK isAgg41 rfl rfl rfl) ?_))))
      refine RD_run [7] kR rfl (RDs.cons rfl ?_ RDs.nil)
      refine o_call call154 rfl rfl (l2Same_c _ _ H.sub _ _ hr21 _ _ hr3 ) ?_
      rintro _ w22 ⟨rfl, ew22⟩; have H := H.step ew22; refine ⟨_, rfl, ?_⟩
      refine R_nil (N_DK (Kn.of' H hd20 (SubL.cons 0 rfl SubL.nil)) (RD_done kR (N_K ?_)))
      refine W_cond rfl ?_ ?_
      ·intro hc23
       try simp only [nrm] at hc23
       refine q2 (aG rfl (q3 (W_ret (N_B_ret (N_K_ret (N_LP_ret (N_B_ret (N_B_ret (N_K_ret (N_LP_ret (N_B_ret (N_K_ret (rt1 results104 rfl ?_)))))))))))))
       exact H.rets (congrArg Value.bool (by rw [Sp.StoreValid, Sp.not_all_range (k := k) oM (by rw [Sp.okH_at hz3, Sp.all_false (l := list.take k) (k := i) (by rw [List.getElem?_take, if_pos oM]; exact hz21) (by simp [*])]; simp)]; rfl))
      intro hc23'
      try simp only [nrm] at hc23'
      refine W_skip (N_B (N_K (W_region (mV rfl (o_add rfl rfl rfl oO (aG rfl (R_nil ?_)))))))
      refine N_lp (hJ := ⟨i + 1, _, rfl, hle18, H, ?inv, rfl⟩) (hm := ?hm)
      case hm => omega
      case inv => exact ⟨by omega, Sp.all_take hall2 hz21 (by simp [*])⟩
     intro hc19'
     try simp only [nrm] at hc19'
     refine W_exit (N_K_exit (N_LP_exit (N_B_same (N_B (N_K (W_region (mV rfl (o_add rfl rfl rfl oO (aG rfl (R_nil ?_))))))))))
     have H := H.del (k := 0) rfl
     refine N_lp (hJ := ⟨k + 1, _, rfl, hle1, H, ?inv, rfl⟩) (hm := ?hm)
     case hm => omega
     case inv => exact ⟨by omega, Sp.upto_succ hall (by (obtain rfl : i = k := by omega); rw [Sp.okH_at hz3, hall2]; simp [Sp.prevId, *])⟩
   intro hc13'
   try simp only [nrm] at hc13'
   have hk0 : k = 0 := by omega
   refine RD_pass 20 rfl kR kR kR rfl (yl_ne rfl rfl rfl) (RD_pass 21 rfl kR kR kR rfl (yl_ne rfl rfl rfl) (RD_pass 22 rfl kR kR kR rfl (yl_ne rfl rfl rfl) (RD_pass 23 rfl kR kR kR rfl (yl_ne rfl rfl rfl) (RD_pass 24 rfl kR kR kR rfl (yl_ne rfl rfl rfl) (RD_pass 25 rfl kR kR kR rfl (yl_ne rfl rfl rfl) (RD_pass 26 rfl kR kR kR rfl (yl_ne rfl rfl rfl) (RD_pass 27 rfl kR kR kR rfl (yl_ne rfl rfl rfl) (RD_pass 28 rfl kR kR kR rfl (yl_ne rfl rfl rfl) (RD_tg 29 rfl kR rfl (yl rfl rfl) (fun _ hK => v_pick_f rfl rfl) (RD_t 30 rfl kR rfl (fun _ hK => v_pick_f rfl rfl) (RD_done kR (N_K (W_false rfl (W_skip (N_K ?_)))))))))))))))
   refine q2 (aG rfl (q3 (W_block ?_)))
   obtain ⟨ln26, hln26, H⟩ := H.name (k := 0) rfl
   refine W_lp (hf := (Sub.cons (t := 0) rfl (Sub.cons (t := 3) rfl (Sub.cons (t := 4) rfl Sub.nil)))) (J := fun M w m => ∃ (i : Nat) (G : PH), M = [(5, .int .i64 (i : Int))] ∧ PLe G1 G ∧ Hp w0 G0 [] w G [blk b4 (cl ln26 131)] ∧ (i ≤ k ∧ (list.take i).all (fun g => !Sp.l2Same g.bytes z3.bytes) = true) ∧ m = (k - i)) (h0 := ⟨0, _, rfl, PLe.refl _, H, ?inv, rfl⟩) (round := ?round)
   case inv => exact ⟨by omega, by simp⟩
   case round =>
    rintro _ w27 _ ⟨i, G27, rfl, hle27, H, hinv27, rfl⟩
    subst hln26
    have hlist := hlist.up hle27
    have hr3 := hr3.up hle27
    have hle1 := hle1.trans hle27
    obtain ⟨hi, hall2⟩ := hinv27
    refine W_seq (q2 (mV rfl (mV rfl (o_lss rfl rfl rfl (q3 ?_)))))
    refine W_cond rfl ?_ ?_
    ·intro hc28
     try simp only [nrm] at hc28
     refine W_skip (N_K (W_seq (W_block (W_seq (W_drawK [0] 8 H kR rfl ?_))))); intro w29 H; have hd29 := PLe.refl G27
     refine vM 0 rfl rfl (vM 1 rfl rfl ?_)
     have hl30 := hlist.len
     obtain ⟨b30, o30, z30, q30, ha30, hz30, hq30, hE30, hrow30, _⟩ := hlist.at (i := i) oM
     clear hq30
     obtain ⟨a30, m30, c30, rfl, hi30, hr30, hj30⟩ := hE30; have hn_hr30 := hr30.len; have hx_hr30 : _ ≤ 1099511627776 := hr30.lim
     refine RD_t 2 rfl kR rfl (fun _ hK => v_index_P (i := i) ha30 underlying28 sizeOf131 rfl rfl rfl oM) (RD_t 3 rfl kR rfl (fun _ hK => v_fieldAddr 1 runUnderlying131 rfl sizeOf41 rfl rfl) (RD_t 4 rfl kR rfl (fun _ hK => v_load_P hK isAgg41 rfl (hrow30 1 _ rfl)) (RD_t 5 rfl kR rfl (fun _ hK => v_fieldAddr 1 runUnderlying131 rfl sizeOf41 rfl rfl) (RD_t 6 rfl kR rfl (fun _ hK => v_load_B 0 hK isAgg41 rfl rfl rfl) ?_))))
     refine RD_run [7] kR rfl (RDs.cons rfl ?_ RDs.nil)
     refine o_call call154 rfl rfl (l2Same_c _ _ H.sub _ _ hr30 _ _ hr3 ) ?_
     rintro _ w31 ⟨rfl, ew31⟩; have H := H.step ew31; refine ⟨_, rfl, ?_⟩
     refine R_nil (N_DK (Kn.of' H hd29 (SubL.cons 0 rfl SubL.nil)) (RD_done kR (N_K ?_)))
     refine W_cond rfl ?_ ?_
     ·intro hc32
      try simp only [nrm] at hc32
      refine q2 (aG rfl (q3 (W_ret (N_B_ret (N_K_ret (N_LP_ret (N_B_ret (N_B_ret (N_K_ret (N_LP_ret (N_B_ret (N_K_ret (rt1 results104 rfl ?_)))))))))))))
      exact H.rets (congrArg Value.bool (by rw [Sp.StoreValid, Sp.not_all_range (k := k) oM (by rw [Sp.okH_at hz3, Sp.all_false (l := list.take k) (k := i) (by rw [List.getElem?_take, if_pos oM]; exact hz30) (by simp [*])]; simp)]; rfl))
     intro hc32'
     try simp only [nrm] at hc32'
     refine W_skip (N_B (N_K (W_region (mV rfl (o_add rfl rfl rfl oO (aG rfl (R_nil ?_)))))))
     refine N_lp (hJ := ⟨i + 1, _, rfl, hle27, H, ?inv, rfl⟩) (hm := ?hm)
     case hm => omega
     case inv => exact ⟨by omega, Sp.all_take hall2 hz30 (by simp [*])⟩
    intro hc28'
    try simp only [nrm] at hc28'
    refine W_exit (N_K_exit (N_LP_exit (N_B_same (N_B (N_K (W_region (mV rfl (o_add rfl rfl rfl oO (aG rfl (R_nil ?_))))))))))
    have H := H.del (k := 0) rfl
    refine N_lp (hJ := ⟨k + 1, _, rfl, hle1, H, ?inv, rfl⟩) (hm := ?hm)
    case hm => omega
    case inv => exact ⟨by omega, Sp.upto_succ hall (by (obtain rfl : i = k := by omega); rw [Sp.okH_at hz3, hall2]; simp [Sp.prevId, *])⟩
  intro hc2'
  try simp only [nrm] at hc2'
  refine W_exit (N_K_exit (N_LP_exit (N_B_same (N_K (q2 (mV rfl (o_len_slice underlying28 rfl rfl (o_leq rfl rfl rfl (aG rfl (q3 (W_ret (rt1 results104 rfl ?_))))))))))))
  exact H.rets (congrArg Value.bool (by rw [Sp.StoreValid, Sp.all_range (fun j hj => hall j oM), Bool.true_and]; rw [Bool.eq_iff_iff]; simp; omega))
theorem l3At_c (w0 : World) (G0 : PH) (hG : PSub G0 w0) (vlist : Value) (list : List (BHeld)) (hlist : RdH G0 vlist list) (id : Int)  :
  Calls Tryz.prog 180 #[vlist, .int .i64 id] w0 (Rets w0 (.int .i64 (Sp.l3At list id))) := by
 obtain ⟨alist, klist, rfl⟩ := hlist.shape
 have hlimlist : list.length ≤ 1099511627776 := hlist.lim
 have H := Hp.init hG
 refine calls_of_W (l := [.slice alist list.length klist, .int .i64 id]) func180 rfl ntmps180 rfl (q2 (aG rfl (q3 (W_seq (q2 (aG rfl (q3 (W_block ?_))))))))
 refine W_lp (hf := (Sub.cons (t := 0) rfl (Sub.cons (t := 1) rfl Sub.nil))) (J := fun M w m => ∃ (k : Nat) (G : PH), M = [(5, .int .i64 (k : Int))] ∧ PLe G0 G ∧ Hp w0 G0 [] w G [] ∧ (k ≤ list.length ∧ (∀ j, j < k → ∀ y, list[j]? = some y → decide (y.id = id) = false)) ∧ m = (list.length - k)) (h0 := ⟨0, _, rfl, PLe.refl _, H, ?inv, rfl⟩) (round := ?round)
 case inv => exact ⟨by omega, fun j hj => by omega⟩
 case round =>
  rintro _ w1 _ ⟨k, G1, rfl, hle1, H, hinv1, rfl⟩
  have hlist := hlist.up hle1
  obtain ⟨hk, hall⟩ := hinv1
  refine W_seq (q2 (mV rfl (mV rfl (o_len_slice underlying28 rfl rfl (o_lss rfl rfl rfl (q3 ?_))))))
  refine W_cond rfl ?_ ?_
  ·intro hc2
   try simp only [nrm] at hc2
   refine W_skip (N_K (W_seq (W_block (q2 (mV rfl (mV rfl (o_index_P k hlist underlying28 sizeOf131 rfl rfl rfl rfl aN ?_))))))); intro b3 o3 z3 q3 hz3 hE3 hrow3
   obtain ⟨a3, m3, c3, rfl, hi3, hr3, hj3⟩ := hE3; have hn_hr3 := hr3.len; have hx_hr3 : _ ≤ 1099511627776 := hr3.lim
   refine o_fieldAddr 0 runUnderlying131 rfl sizeOf3 rfl rfl rfl (o_load_P H isAgg3 rfl rfl (hrow3 0 _ rfl) (mV rfl (o_eql rfl rfl rfl (q3 ?_))))
   refine W_cond rfl ?_ ?_
   ·intro hc4
    try simp only [nrm] at hc4
    refine q2 (mV rfl (aG rfl (q3 (W_ret (N_B_ret (N_K_ret (N_LP_ret (N_B_ret (N_K_ret (rt1 results180 rfl ?_))))))))))
    exact H.rets (congrArg (Value.int .i64) (by rw [Sp.l3At, Sp.atH, Sp.find_at hall hz3 (by simp; omega)]; rfl))
   intro hc4'
   try simp only [nrm] at hc4'
   refine W_skip (N_B (N_K (W_region (mV rfl (o_add rfl rfl rfl oO (aG rfl (R_nil ?_)))))))
   refine N_lp (hJ := ⟨k + 1, _, rfl, hle1, H, ?inv, rfl⟩) (hm := ?hm)
   case hm => omega
   case inv => exact ⟨by omega, Sp.none_succ hall hz3 (by simp; omega)⟩
  intro hc2'
  try simp only [nrm] at hc2'
  refine W_exit (N_K_exit (N_LP_exit (N_B_same (N_K (q2 (aG rfl (q3 (W_ret (rt1 results180 rfl ?_)))))))))
  exact H.rets (congrArg (Value.int .i64) (by rw [Sp.l3At, Sp.atH, Sp.find_none hall oM]; rfl))
theorem l3Copy_c (w0 : World) (G0 : PH) (hG : PSub G0 w0) (vlist : Value) (list : List (BHeld)) (hlist : RdH G0 vlist list)  :
  Calls Tryz.prog 109 #[vlist] w0 (RetO w0 G0 (AccOf heldE 3 131 list)) := by
 obtain ⟨alist, klist, rfl⟩ := hlist.shape
 have hlimlist : list.length ≤ 1099511627776 := hlist.lim
 have H := Hp.init hG
 refine calls_of_W (l := [.slice alist list.length klist]) func109 rfl ntmps109 rfl (q2 (aG rfl (q1 (o_buildSlice H underlying28 sizeOf131 (fun w => ⟨_, zeroValue131 w, rfl⟩) rfl rfl rfl rfl rfl rfl rfl ?_)))); intro b1 w1 hb1 H
 have H := H.blkAcc 3 (k := 0) (n := 0) rfl rfl (by decide)
 refine aG rfl (q3 (W_seq (q2 (aG rfl (q3 (W_block ?_))))))
 refine W_lp (hf := (Sub.cons (t := 0) rfl (Sub.cons (t := 2) rfl Sub.nil))) (J := fun M w m => ∃ (v : Value) (n : Nat) (cs : List Value) (xs : List (BHeld)) (k : Nat) (G : PH), M = [(4, .int .i64 (k : Int)), (3, v)] ∧ PLe G0 G ∧ Hp w0 G0 [] w G [acc 131 3 v n cs] ∧ (Chk heldE 3 G cs xs ∧ n = xs.length ∧ k ≤ list.length ∧ xs.length = k ∧ xs = list.take k) ∧ m = (list.length - k)) (h0 := ⟨_, _, _, [], 0, _, rfl, PLe.refl _, H, ?inv, rfl⟩) (round := ?round)
 case inv => exact ⟨(Chk.nil (E := heldE) (sz := 3) (G := G0)),  by first | rfl | simp | (simp; omega) | omega, (by simp)⟩
 case round =>
  rintro _ w2 _ ⟨v, n, cs, xs, k, G2, rfl, hle2, H, hinv2, rfl⟩
  have hlist := hlist.up hle2
  obtain ⟨hchk2_0, hn2_0, hinv2⟩ := hinv2
  obtain ⟨av2_0, cv2_0, rfl⟩ := H.accShape (k := 0) rfl
  obtain ⟨hk, hxl, hxs⟩ := hinv2
  refine W_seq (q2 (mV rfl (mV rfl (o_len_slice underlying28 rfl rfl (o_lss rfl rfl rfl (q3 ?_))))))
  refine W_cond rfl ?_ ?_
  ·intro hc3
   try simp only [nrm] at hc3
   refine W_skip (N_K (W_seq (W_block (q2 (mV rfl (mV rfl (o_index_P k hlist underlying28 sizeOf131 rfl rfl rfl rfl aN ?_))))))); intro b4 o4 z4 q4 hz4 hE4 hrow4
   obtain ⟨a4, m4, c4, rfl, hi4, hr4, hj4⟩ := hE4; have hn_hr4 := hr4.len; have hx_hr4 : _ ≤ 1099511627776 := hr4.lim
   refine o_loadagg_P H isAgg131 sizeOf131 rfl rfl hrow4 rfl (o_alloc H zeroValue131 rfl rfl ?_); intro b5 w5 hb5 H
   refine o_store_B 0 H sizeOf131 rfl rfl rfl rfl rfl rfl rfl rfl ?_; intro w6 H
   refine q1 (o_buildSlice H underlying41 sizeOf3 (fun w => ⟨_, zeroValue3 w, rfl⟩) rfl rfl rfl rfl rfl rfl rfl ?_); intro b7 w7 hb7 H
   have H := H.blkAcc 1 (k := 0) (n := 0) rfl rfl (by decide)
   refine o_fieldAddr 1 runUnderlying131 rfl sizeOf41 rfl rfl rfl (o_load_B 1 H isAgg41 rfl rfl rfl rfl ?_)
   refine o_append_P 0 H hr4 (by intro z cs hz u hu; obtain ⟨rfl, _⟩ := hz; simp at hu; subst hu; rfl) (sz := 1) (bytes := 8) underlying41 typeInfo3 ⟨_, rfl, rfl⟩ rfl rfl rfl rfl rfl rfl rfl oM rfl ?_; intro v8 w8 css8 hcl8 hcs8 H
   have hchk8 : Chk intE 1 G2 ([] ++ css8.flatten) _ := ⟨css8, rfl, hcl8, hcs8⟩
   obtain ⟨av8, cv8, rfl⟩ := H.accShape (k := 0) rfl
   refine o_fieldAddr 1 runUnderlying131 rfl sizeOf41 rfl rfl rfl (o_store_B 1 H sizeOf41 rfl rfl rfl rfl rfl rfl rfl rfl ?_); intro w9 H
   refine q3 (W_region (mV rfl (o_loadagg_B 1 H isAgg131 sizeOf131 rfl rfl rfl rfl rfl (o_buildSlice H underlying28 sizeOf131 (fun w => ⟨_, zeroValue131 w, rfl⟩) rfl rfl rfl rfl rfl rfl rfl ?_)))); intro b10 w10 hb10 H
   refine o_append1 2 H (sz := 3) (bytes := 40) underlying28 typeInfo131 ⟨_, rfl, rfl⟩ rfl rfl rfl rfl rfl rfl rfl rfl rfl rfl oM rfl ?_; intro v11 w11 H
   obtain ⟨G12, H, hsg12, hsr12⟩ := H.shut' (k := 0) rfl hchk8 aN aN
   have hchk2_0 := hchk2_0.up hsg12
   have hle2 := hle2.trans hsg12
   have hchk11 := hchk2_0.snoc (show heldE _ z4 _ from ⟨_, _, _, rfl, ⟨by first | omega | (dsimp only; omega), by first | omega | (dsimp only; omega)⟩, hsr12, ⟨by first | omega | (dsimp only; omega), by first | omega | (dsimp only; omega)⟩⟩) rfl
   obtain ⟨av11, cv11, rfl⟩ := H.accShape (k := 1) rfl
   refine aG rfl (R_nil (N_B (N_K (W_region (mV rfl (o_add rfl rfl rfl oO (aG rfl (R_nil ?_))))))))
   have H := H.del (k := 0) rfl
   refine N_lp (hJ := ⟨_, _, _, (xs ++ [z4]), k + 1, _, rfl, hle2, H, ?inv, rfl⟩) (hm := ?hm)
   case hm => omega
   case inv => exact ⟨hchk11, aN, (by exact ⟨by omega, by simp [hxl], by rw [Sp.take_succ' hz4, hxs]⟩)⟩
  intro hc3'
  try simp only [nrm] at hc3'
  refine W_exit (N_K_exit (N_LP_exit (N_B_same (N_K (q2 (mV rfl (aG rfl (q3 (W_ret (rt1 results109 rfl ?_))))))))))
  obtain rfl : k = list.length := by omega
  rw [List.take_length] at hxs
  subst hxs
  exact H.retO (k := 0) rfl (AccOf.mk (by assumption) hchk2_0) (acc_nd _ _ _ _ _)
theorem l12At_c (w0 : World) (G0 : PH) (hG : PSub G0 w0) (vlist : Value) (list : List (BSnap)) (hlist : RdSn G0 vlist list) (name : Bs) (hname : name.length ≤ 16777216)  :
  Calls Tryz.prog 52 #[vlist, str name] w0 (Rets w0 (.int .i64 (Sp.l12At list name))) := by
 obtain ⟨alist, klist, rfl⟩ := hlist.shape
 have hlimlist : list.length ≤ 1099511627776 := hlist.lim
 have H := Hp.init hG
 refine calls_of_W (l := [.slice alist list.length klist, str name]) func52 rfl ntmps52 rfl (q2 (aG rfl (q3 (W_seq (q2 (aG rfl (q3 (W_block ?_))))))))
 refine W_lp (hf := (Sub.cons (t := 0) rfl (Sub.cons (t := 1) rfl Sub.nil))) (J := fun M w m => ∃ (k : Nat) (G : PH), M = [(5, .int .i64 (k : Int))] ∧ PLe G0 G ∧ Hp w0 G0 [] w G [] ∧ (k ≤ list.length ∧ (∀ j, j < k → ∀ y, list[j]? = some y → decide (y.name = name) = false)) ∧ m = (list.length - k)) (h0 := ⟨0, _, rfl, PLe.refl _, H, ?inv, rfl⟩) (round := ?round)
 case inv => exact ⟨by omega, fun j hj => by omega⟩
 case round =>
  rintro _ w1 _ ⟨k, G1, rfl, hle1, H, hinv1, rfl⟩
  have hlist := hlist.up hle1
  obtain ⟨hk, hall⟩ := hinv1
  refine W_seq (q2 (mV rfl (mV rfl (o_len_slice underlying30 rfl rfl (o_lss rfl rfl rfl (q3 ?_))))))
  refine W_cond rfl ?_ ?_
  ·intro hc2
   try simp only [nrm] at hc2
   refine W_skip (N_K (W_seq (W_block (q2 (mV rfl (mV rfl (o_index_P k hlist underlying30 sizeOf58 rfl rfl rfl rfl aN ?_))))))); intro b3 o3 z3 q3 hz3 hE3 hrow3
   obtain ⟨a3, m3, c3, rfl, hi3, hr3⟩ := hE3; have hy_hi3 : _ ≤ 16777216 := hi3; have hn_hr3 := hr3.len; have hx_hr3 : _ ≤ 1099511627776 := hr3.lim
   refine o_fieldAddr 0 runUnderlying58 rfl sizeOf9 rfl rfl rfl (o_load_P H isAgg9 rfl rfl (hrow3 0 _ rfl) (mV rfl (o_seql rfl rfl rfl (q3 ?_))))
   refine W_cond rfl ?_ ?_
   ·intro hc4
    try simp only [nrm] at hc4
    refine q2 (mV rfl (aG rfl (q3 (W_ret (N_B_ret (N_K_ret (N_LP_ret (N_B_ret (N_K_ret (rt1 results52 rfl ?_))))))))))
    exact H.rets (congrArg (Value.int .i64) (by rw [Sp.l12At, Sp.atS, Sp.find_at hall hz3 (by simp; exact hc4)]; rfl))
   intro hc4'
   try simp only [nrm] at hc4'
   refine W_skip (N_B (N_K (W_region (mV rfl (o_add rfl rfl rfl oO (aG rfl (R_nil ?_)))))))
   refine N_lp (hJ := ⟨k + 1, _, rfl, hle1, H, ?inv, rfl⟩) (hm := ?hm)
   case hm => omega
   case inv => exact ⟨by omega, Sp.none_succ hall hz3 (by simp; exact hc4')⟩
  intro hc2'
  try simp only [nrm] at hc2'
  refine W_exit (N_K_exit (N_LP_exit (N_B_same (N_K (q2 (aG rfl (q3 (W_ret (rt1 results52 rfl ?_)))))))))
  exact H.rets (congrArg (Value.int .i64) (by rw [Sp.l12At, Sp.atS, Sp.find_none hall oM]; rfl))
end Go.Proofs.Tst

namespace Go.Proofs.Tst
open Go Fw Tryz
theorem StoreKeep_c (w0 : World) (G0 : PH) (hG : PSub G0 w0) (vlist : Value) (list : List (BHeld)) (hlist : RdH G0 vlist list) (id : Int)  :
  Calls Tryz.prog 144 #[vlist, .int .i64 id] w0 (RetO w0 G0 (fun G v r => ∃ u, v = .tuple #[u, .bool (Sp.StoreKeep list id).isSome] ∧ AccOf heldE 3 131 ((Sp.StoreKeep list id).getD []) G u r)) := by
 obtain ⟨alist, klist, rfl⟩ := hlist.shape
 have hlimlist : list.length ≤ 1099511627776 := hlist.lim
 have H := Hp.init hG
 refine calls_of_W (l := [.slice alist list.length klist, .int .i64 id]) func144 rfl ntmps144 rfl (q2 (aG rfl (aG rfl (q1 (mV rfl (mV rfl (o_call call180 rfl rfl (l3At_c _ _ H.sub _ _ hlist _ ) ?_)))))))
 rintro _ w1 ⟨rfl, ew1⟩; have H := H.step ew1; refine ⟨_, rfl, ?_⟩
 refine aG rfl (q3 (W_seq (q2 (mV rfl (o_call call104 rfl rfl (StoreValid_c _ _ H.sub _ _ hlist ) ?_)))))
 rintro _ w2 ⟨rfl, ew2⟩; have H := H.step ew2; refine ⟨_, rfl, ?_⟩
 refine o_not rfl rfl (mV rfl ?_)
 refine R_case (t := 14) rfl ?_ ?_
 ·intro hc3
  try simp only [nrm] at hc3
  refine rP rfl (rP rfl (o_pick_t rfl rfl rfl (mV rfl (rP rfl (rP rfl (rP rfl (rP rfl (rP rfl (rP rfl (o_pick_t rfl rfl rfl (q3 (W_true rfl (q2 (o_buildSlice H underlying28 sizeOf131 (fun w => ⟨_, zeroValue131 w, rfl⟩) rfl rfl rfl rfl rfl rfl rfl ?_)))))))))))))); intro b4 w4 hb4 H
  have H := H.blkAcc 3 (k := 0) (n := 0) rfl rfl (by decide)
  refine aG rfl (aG rfl (q3 (W_ret (N_K_ret (rt2 results144 rfl rfl ?_)))))
  have hN : Sp.StoreKeep list id = none := by simp [Sp.StoreKeep, hc3]
  exact H.retO (k := 0) rfl (by rw [hN]; exact ⟨_, rfl, AccOf.mk aN (Chk.nil (E := heldE) (sz := 3) (G := G0))⟩) (acc_nd _ _ _ _ _)
 intro hc3'
 try simp only [nrm] at hc3'
 refine gR rfl (mV rfl (gR rfl (o_lss rfl rfl rfl (o_pick_f rfl rfl rfl (mV rfl ?_)))))
 refine R_case (t := 18) rfl ?_ ?_
 ·intro hc5
  try simp only [nrm] at hc5
  refine rP rfl (rP rfl (rP rfl (rP rfl (rP rfl (rP rfl (o_pick_t rfl rfl rfl (q3 (W_true rfl (q2 (o_buildSlice H underlying28 sizeOf131 (fun w => ⟨_, zeroValue131 w, rfl⟩) rfl rfl rfl rfl rfl rfl rfl ?_)))))))))); intro b6 w6 hb6 H
  have H := H.blkAcc 3 (k := 0) (n := 0) rfl rfl (by decide)
  refine aG rfl (aG rfl (q3 (W_ret (N_K_ret (rt2 results144 rfl rfl ?_)))))
  have hN : Sp.StoreKeep list id = none := by simp [Sp.StoreKeep, Sp.atH, Sp.at_none hc5]
  exact H.retO (k := 0) rfl (by rw [hN]; exact ⟨_, rfl, AccOf.mk aN (Chk.nil (E := heldE) (sz := 3) (G := G0))⟩) (acc_nd _ _ _ _ _)
 intro hc5'
 try simp only [nrm] at hc5'
 obtain ⟨i, x, hi1, hi2, hi3, hi4, hi5⟩ := Sp.at_nat hc5'
 have hl : Sp.atH list id = some i := hi1
 refine gR rfl (mV rfl (gR rfl (mV rfl (gR rfl (o_index_P i hlist underlying28 sizeOf131 rfl rfl rfl hi2 aN ?_))))); intro b7 o7 z7 q7 hz7 hE7 hrow7
 obtain ⟨a7, m7, c7, rfl, hi7, hr7, hj7⟩ := hE7; have hn_hr7 := hr7.len; have hx_hr7 : _ ≤ 1099511627776 := hr7.lim
 refine gR rfl (o_fieldAddr 2 runUnderlying131 rfl sizeOf3 rfl rfl rfl (gR rfl (o_load_P H isAgg3 rfl rfl (hrow7 2 _ rfl) (gR rfl (o_eql rfl rfl rfl (o_pick_f rfl rfl rfl (q3 ?_)))))))
 refine W_cond rfl ?_ ?_
 ·intro hc8
  try simp only [nrm] at hc8
  refine q2 (o_buildSlice H underlying28 sizeOf131 (fun w => ⟨_, zeroValue131 w, rfl⟩) rfl rfl rfl rfl rfl rfl rfl ?_); intro b9 w9 hb9 H
  have H := H.blkAcc 3 (k := 0) (n := 0) rfl rfl (by decide)
  refine aG rfl (aG rfl (q3 (W_ret (N_K_ret (rt2 results144 rfl rfl ?_)))))
  have hN : Sp.StoreKeep list id = none := by simp [Sp.StoreKeep, hl, hz7, hc8]
  exact H.retO (k := 0) rfl (by rw [hN]; exact ⟨_, rfl, AccOf.mk aN (Chk.nil (E := heldE) (sz := 3) (G := G0))⟩) (acc_nd _ _ _ _ _)
 intro hc8'
 try simp only [nrm] at hc8'
 refine W_skip (N_K (q2 (mV rfl (o_call call109 rfl rfl (l3Copy_c _ _ H.sub _ _ hlist ) ?_))))
 rintro _ w10 ⟨G10, v10, _, g10, rfl, ⟨cs10, rfl, hchk10⟩, hp10, hq10, hs10⟩
 have H := H.growO g10 hp10 hq10 hs10; obtain ⟨av10, cv10, rfl⟩ := H.accShape (k := 0) rfl
 refine ⟨_, rfl, ?_⟩
 refine aG rfl (q1 (mV rfl (mV rfl (mV rfl (mV rfl (o_index_A 0 H i rfl hchk10 underlying28 sizeOf131 rfl rfl rfl hi2 aN aN ?_)))))); intro ba11 z11 q11 hba11 hz11 hE11 hg11; cases hba11
 obtain ⟨a11, m11, c11, rfl, hi11, hr11, hj11⟩ := hE11; have hn_hr11 := hr11.len; have hx_hr11 : _ ≤ 1099511627776 := hr11.lim
 have hsv := Sp.valid_at hc3' hz11
 refine o_fieldAddr 2 runUnderlying131 rfl sizeOf3 rfl rfl rfl (o_load_A 0 H isAgg3 rfl rfl rfl (hg11 2 _ rfl) (o_add rfl rfl rfl oO (o_index_A 0 H i rfl hchk10 underlying28 sizeOf131 rfl rfl rfl hi2 aN aN ?_))); intro ba13 z13 q13 hba13 hz13 hE13 hg13; cases hba13
 obtain ⟨a13, m13, c13, rfl, hi13, hr13, hj13⟩ := hE13; have hn_hr13 := hr13.len; have hx_hr13 : _ ≤ 1099511627776 := hr13.lim
 have hzz13 : z11 = z13 := Option.some.inj (hz11.symm.trans hz13)
 subst hzz13
 refine o_fieldAddr 2 runUnderlying131 rfl sizeOf3 rfl rfl rfl ?_
 have hcl14 := hchk10.length
 refine o_store_A 0 H sizeOf3 rfl rfl rfl rfl rfl (by simp only [vc, List.length_cons, List.length_nil]; omega) ?_; intro w14 H
 have hchk14 := hchk10.put (x' := ⟨z11.id, z11.bytes, z11.uses + 1⟩) (off := 2) (vs := [_]) hz13 (fun cs hl hE => by obtain ⟨_, _, _, rfl, h1, h2, h3⟩ := hE; exact ⟨_, _, _, rfl, h1, h2, ⟨by first | omega | (dsimp only; omega), by first | omega | (dsimp only; omega)⟩⟩) (by simp only [vc, List.length_cons, List.length_nil]; omega)
 refine q1 (mV rfl (aG rfl (aG rfl (q3 (W_ret (rt2 results144 rfl rfl ?_))))))
 have hY : Sp.StoreKeep list id = some (list.set i ⟨z11.id, z11.bytes, z11.uses + 1⟩) := by (have hzz : z7 = z11 := Option.some.inj (hz7.symm.trans hz11)); rw [hzz] at hc8'; simp [Sp.StoreKeep, hc3', hl, hz11, hc8', Sp.bump_at hz11]
 exact H.retO (k := 0) rfl (by rw [hY]; exact ⟨_, rfl, AccOf.mk aN hchk14⟩) (acc_nd _ _ _ _ _)
theorem StoreDrop_c (w0 : World) (G0 : PH) (hG : PSub G0 w0) (vlist : Value) (list : List (BHeld)) (hlist : RdH G0 vlist list) (id : Int)  :
  Calls Tryz.prog 158 #[vlist, .int .i64 id] w0 (RetO w0 G0 (fun G v r => ∃ u, v = .tuple #[u, .bool (Sp.StoreDrop list id).isSome] ∧ AccOf heldE 3 131 ((Sp.StoreDrop list id).getD []) G u r)) := by
 obtain ⟨alist, klist, rfl⟩ := hlist.shape
 have hlimlist : list.length ≤ 1099511627776 := hlist.lim
 have H := Hp.init hG
 refine calls_of_W (l := [.slice alist list.length klist, .int .i64 id]) func158 rfl ntmps158 rfl (q2 (aG rfl (aG rfl (q1 (mV rfl (mV rfl (o_call call180 rfl rfl (l3At_c _ _ H.sub _ _ hlist _ ) ?_)))))))
 rintro _ w1 ⟨rfl, ew1⟩; have H := H.step ew1; refine ⟨_, rfl, ?_⟩
 refine aG rfl (q3 (W_seq (q2 (mV rfl (o_call call104 rfl rfl (StoreValid_c _ _ H.sub _ _ hlist ) ?_)))))
 rintro _ w2 ⟨rfl, ew2⟩; have H := H.step ew2; refine ⟨_, rfl, ?_⟩
 refine o_not rfl rfl (mV rfl ?_)
 refine R_case (t := 14) rfl ?_ ?_
 ·intro hc3
  try simp only [nrm] at hc3
  refine rP rfl (rP rfl (o_pick_t rfl rfl rfl (q3 (W_true rfl (q2 (o_buildSlice H underlying28 sizeOf131 (fun w => ⟨_, zeroValue131 w, rfl⟩) rfl rfl rfl rfl rfl rfl rfl ?_)))))); intro b4 w4 hb4 H
  have H := H.blkAcc 3 (k := 0) (n := 0) rfl rfl (by decide)
  refine aG rfl (aG rfl (q3 (W_ret (N_K_ret (rt2 results158 rfl rfl ?_)))))
  have hN : Sp.StoreDrop list id = none := by simp [Sp.StoreDrop, hc3]
  exact H.retO (k := 0) rfl (by rw [hN]; exact ⟨_, rfl, AccOf.mk aN (Chk.nil (E := heldE) (sz := 3) (G := G0))⟩) (acc_nd _ _ _ _ _)
 intro hc3'
 try simp only [nrm] at hc3'
 refine gR rfl (mV rfl (gR rfl (o_lss rfl rfl rfl (o_pick_f rfl rfl rfl (q3 ?_)))))
 refine W_cond rfl ?_ ?_
 ·intro hc5
  try simp only [nrm] at hc5
  refine q2 (o_buildSlice H underlying28 sizeOf131 (fun w => ⟨_, zeroValue131 w, rfl⟩) rfl rfl rfl rfl rfl rfl rfl ?_); intro b6 w6 hb6 H
  have H := H.blkAcc 3 (k := 0) (n := 0) rfl rfl (by decide)
  refine aG rfl (aG rfl (q3 (W_ret (N_K_ret (rt2 results158 rfl rfl ?_)))))
  have hN : Sp.StoreDrop list id = none := by simp [Sp.StoreDrop, Sp.atH, Sp.at_none hc5]
  exact H.retO (k := 0) rfl (by rw [hN]; exact ⟨_, rfl, AccOf.mk aN (Chk.nil (E := heldE) (sz := 3) (G := G0))⟩) (acc_nd _ _ _ _ _)
 intro hc5'
 try simp only [nrm] at hc5'
 obtain ⟨i, x, hi1, hi2, hi3, hi4, hi5⟩ := Sp.at_nat hc5'
 have hi2 : Sp.l3At list id = (i : Int) := hi2
 have hl : Sp.atH list id = some i := hi1
 refine W_skip (N_K (q2 (mV rfl (o_call call109 rfl rfl (l3Copy_c _ _ H.sub _ _ hlist ) ?_))))
 rintro _ w7 ⟨G7, v7, _, g7, rfl, ⟨cs7, rfl, hchk7⟩, hp7, hq7, hs7⟩
 have H := H.growO g7 hp7 hq7 hs7; obtain ⟨av7, cv7, rfl⟩ := H.accShape (k := 0) rfl
 refine ⟨_, rfl, ?_⟩
 refine aG rfl (q3 (W_seq (q2 (mV rfl (mV rfl (o_index_A 0 H i rfl hchk7 underlying28 sizeOf131 rfl rfl rfl hi2 aN aN ?_)))))); intro ba8 z8 q8 hba8 hz8 hE8 hg8; cases hba8
 obtain ⟨a8, m8, c8, rfl, hi8, hr8, hj8⟩ := hE8; have hn_hr8 := hr8.len; have hx_hr8 : _ ≤ 1099511627776 := hr8.lim
 have hsv := Sp.valid_at hc3' hz8
 refine o_fieldAddr 2 runUnderlying131 rfl sizeOf3 rfl rfl rfl (o_load_A 0 H isAgg3 rfl rfl rfl (hg8 2 _ rfl) (o_eql rfl rfl rfl (q3 ?_)))
 refine W_cond rfl ?_ ?_
 ·intro hc9
  try simp only [nrm] at hc9
  refine W_seq (W_drawK [] 10 H kR rfl ?_); intro w10 H; have hd10 := PLe.refl G7
  refine vM 0 rfl rfl (vM 1 rfl rfl ?_)
  have hac11 := H.accCap (k := 0) rfl
  refine RD_t 2 rfl kR rfl (fun _ hK => v_slice_to (j := i) underlying28 sizeOf131 rfl rfl hi2 oM) (vM 3 rfl rfl (vM 4 rfl rfl (RD_t 5 rfl kR rfl (fun _ hK => v_add rfl rfl oO) ?_)))
  have hac13 := H.accCap (k := 0) rfl
  refine RD_t 6 rfl kR rfl (fun _ hK => v_slice_from (i := (i + 1)) underlying28 sizeOf131 rfl rfl oM oM) ?_
  refine RD_run [7] kR rfl (RDs.cons rfl ?_ RDs.nil)
  refine o_append_del 0 H i rfl hchk7 (by intro z cs hz u hu; obtain ⟨_, _, _, rfl, _⟩ := hz; simp at hu; rcases hu with rfl | rfl | rfl <;> rfl) underlying28 typeInfo131 rfl rfl rfl rfl oM aN ?_; intro b14 w14 hb14 H hchk14; cases hb14
  refine R_nil (N_DK (Kn.of' H hd10 SubL.nil) (RD_t 8 rfl kR rfl (fun _ hK => v_assign rfl) (RD_t 9 rfl kR rfl (fun _ hK => v_assign rfl) (RD_done kR (N_K (W_ret (N_K_ret (rt2 results158 rfl rfl ?_))))))))
  have hY : Sp.StoreDrop list id = some (list.take i ++ list.drop (i + 1)) := by simp [Sp.StoreDrop, hc3', hl, hz8, hc9]
  exact H.retO (k := 0) rfl (by rw [hY]; exact ⟨_, rfl, AccOf.mk aN hchk14⟩) (acc_nd _ _ _ _ _)
 intro hc9'
 try simp only [nrm] at hc9'
 refine W_skip (N_K (q2 (mV rfl (mV rfl (mV rfl (mV rfl (o_index_A 0 H i rfl hchk7 underlying28 sizeOf131 rfl rfl rfl hi2 aN aN ?_))))))); intro ba15 z15 q15 hba15 hz15 hE15 hg15; cases hba15
 obtain ⟨a15, m15, c15, rfl, hi15, hr15, hj15⟩ := hE15; have hn_hr15 := hr15.len; have hx_hr15 : _ ≤ 1099511627776 := hr15.lim
 have hzz15 : z8 = z15 := Option.some.inj (hz8.symm.trans hz15)
 subst hzz15
 refine o_fieldAddr 2 runUnderlying131 rfl sizeOf3 rfl rfl rfl (o_load_A 0 H isAgg3 rfl rfl rfl (hg15 2 _ rfl) (o_sub rfl rfl rfl oO (o_index_A 0 H i rfl hchk7 underlying28 sizeOf131 rfl rfl rfl hi2 aN aN ?_))); intro ba17 z17 q17 hba17 hz17 hE17 hg17; cases hba17
 obtain ⟨a17, m17, c17, rfl, hi17, hr17, hj17⟩ := hE17; have hn_hr17 := hr17.len; have hx_hr17 : _ ≤ 1099511627776 := hr17.lim
 have hzz17 : z8 = z17 := Option.some.inj (hz8.symm.trans hz17)
 subst hzz17
 refine o_fieldAddr 2 runUnderlying131 rfl sizeOf3 rfl rfl rfl ?_
 have hcl18 := hchk7.length
 refine o_store_A 0 H sizeOf3 rfl rfl rfl rfl rfl (by simp only [vc, List.length_cons, List.length_nil]; omega) ?_; intro w18 H
 have hchk18 := hchk7.put (x' := ⟨z8.id, z8.bytes, z8.uses + (-1)⟩) (off := 2) (vs := [_]) hz17 (fun cs hl hE => by obtain ⟨_, _, _, rfl, h1, h2, h3⟩ := hE; exact ⟨_, _, _, rfl, h1, h2, ⟨by first | omega | (dsimp only; omega), by first | omega | (dsimp only; omega)⟩⟩) (by simp only [vc, List.length_cons, List.length_nil]; omega)
 refine q1 (mV rfl (aG rfl (aG rfl (q3 (W_ret (rt2 results158 rfl rfl ?_))))))
 have hY : Sp.StoreDrop list id = some (list.set i ⟨z8.id, z8.bytes, z8.uses + (-1)⟩) := by simp [Sp.StoreDrop, hc3', hl, hz8, hc9', Sp.bump_at hz8]
 exact H.retO (k := 0) rfl (by rw [hY]; exact ⟨_, rfl, AccOf.mk aN hchk18⟩) (acc_nd _ _ _ _ _)
end Go.Proofs.Tst

namespace Go.Proofs.Tst
open Go Fw Tryz
theorem l4Ids_c (w0 : World) (G0 : PH) (hG : PSub G0 w0) (vlist : Value) (list : List (BHeld)) (hlist : RdH G0 vlist list) (vids : Value) (ids : List (Int)) (hids : RdI G0 vids ids)  :
  Calls Tryz.prog 157 #[vlist, vids] w0 (Rets w0 (.bool (Sp.l4Ids list ids))) := by
 obtain ⟨alist, klist, rfl⟩ := hlist.shape
 have hlimlist : list.length ≤ 1099511627776 := hlist.lim
 obtain ⟨aids, kids, rfl⟩ := hids.shape
 have hlimids : ids.length ≤ 1099511627776 := hids.lim
 have H := Hp.init hG
 refine calls_of_W (l := [.slice alist list.length klist, .slice aids ids.length kids]) func157 rfl ntmps157 rfl (q2 (aG rfl (q3 (W_seq (q2 (aG rfl (q3 (W_block ?_))))))))
 refine W_lp (hf := (Sub.cons (t := 0) rfl (Sub.cons (t := 1) rfl Sub.nil))) (J := fun M w m => ∃ (k : Nat) (G : PH), M = [(5, .int .i64 (k : Int))] ∧ PLe G0 G ∧ Hp w0 G0 [] w G [] ∧ (k ≤ ids.length ∧ ∀ j, j < k → Sp.idsOk list ids j = true) ∧ m = (ids.length - k)) (h0 := ⟨0, _, rfl, PLe.refl _, H, ?inv, rfl⟩) (round := ?round)
 case inv => exact ⟨by omega, fun j hj => by omega⟩
 case round =>
  rintro _ w1 _ ⟨k, G1, rfl, hle1, H, hinv1, rfl⟩
  have hlist := hlist.up hle1
  have hids := hids.up hle1
  obtain ⟨hk, hall⟩ := hinv1
  refine W_seq (q2 (mV rfl (mV rfl (o_len_slice underlying41 rfl rfl (o_lss rfl rfl rfl (q3 ?_))))))
  refine W_cond rfl ?_ ?_
  ·intro hc2
   try simp only [nrm] at hc2
   refine W_skip (N_K (W_seq (W_block (q2 (mV rfl (mV rfl (mV rfl (o_index_P k hids underlying41 sizeOf3 rfl rfl rfl rfl aN ?_)))))))); intro b3 o3 z3 q3 hz3 hE3 hrow3
   obtain ⟨rfl, hi3⟩ := hE3
   refine o_load_P H isAgg3 rfl rfl (hrow3 0 _ rfl) (o_call call180 rfl rfl (l3At_c _ _ H.sub _ _ hlist _ ) ?_)
   rintro _ w4 ⟨rfl, ew4⟩; have H := H.step ew4; refine ⟨_, rfl, ?_⟩
   refine aG rfl (q1 (mV rfl (o_lss rfl rfl rfl (mV rfl ?_))))
   refine R_case (t := 21) rfl ?_ ?_
   ·intro hc5
    try simp only [nrm] at hc5
    refine rP rfl (rP rfl (rP rfl (rP rfl (rP rfl (rP rfl (R_pass rfl (yl_un rfl rfl) (R_pass rfl (yl_un rfl rfl) (R_pass rfl (yl_un rfl rfl) (R_pass rfl (yl_un rfl rfl) (R_pass rfl (yl_un rfl rfl) (R_pass rfl (yl_un rfl rfl) (R_pass rfl (yl_un rfl rfl) (rP rfl (o_pick_t rfl rfl rfl (q3 ?_)))))))))))))))
    refine W_true rfl (q2 (aG rfl (q3 (W_ret (N_B_ret (N_K_ret (N_LP_ret (N_B_ret (N_K_ret (rt1 results157 rfl ?_))))))))))
    exact H.rets (congrArg Value.bool (by rw [Sp.l4Ids, Sp.not_all_range (k := k) oM (by simp [Sp.idsOk, hz3, Sp.atH, Sp.at_none hc5])]; rfl))
   intro hc5'
   try simp only [nrm] at hc5'
   obtain ⟨i, x, hi1, hi2, hi3, hi4, hi5⟩ := Sp.at_nat hc5'
   have hl : Sp.atH list z3 = some i := hi1
   refine gR rfl (mV rfl (gR rfl (o_add rfl rfl rfl oO (gR rfl (mV rfl (gR rfl (o_len_slice underlying41 rfl rfl (gR rfl (o_lss rfl rfl rfl (gR rfl (mV rfl ?_)))))))))))
   refine R_case (t := 27) rfl ?_ ?_
   ·intro hc7
    try simp only [nrm] at hc7
    refine gR rfl (mV rfl (gR rfl (mV rfl (gR rfl (o_index_P i hlist underlying28 sizeOf131 rfl rfl rfl hi2 aN ?_))))); intro b8 o8 z8 q8 hz8 hE8 hrow8
    obtain ⟨a8, m8, c8, rfl, hi8, hr8, hj8⟩ := hE8; have hn_hr8 := hr8.len; have hx_hr8 : _ ≤ 1099511627776 := hr8.lim
    have hzz : x = z8 := Option.some.inj (hi4.symm.trans hz8)
    subst hzz
    refine gR rfl (o_fieldAddr 1 runUnderlying131 rfl sizeOf41 rfl rfl rfl (gR rfl (o_load_P H isAgg41 rfl rfl (hrow8 1 _ rfl) (gR rfl (o_len_slice underlying41 rfl rfl (gR rfl (o_lss rfl rfl rfl (gR rfl (o_pick_t rfl rfl rfl (o_pick_f rfl rfl rfl (q3 ?_)))))))))))
    refine W_cond rfl ?_ ?_
    ·intro hc9
     try simp only [nrm] at hc9
     refine q2 (aG rfl (q3 (W_ret (N_B_ret (N_K_ret (N_LP_ret (N_B_ret (N_K_ret (rt1 results157 rfl ?_)))))))))
     exact H.rets (congrArg Value.bool (by rw [Sp.l4Ids, Sp.not_all_range (k := k) oM (by simp [Sp.idsOk, hz3, hl, hi4]; omega)]; rfl))
    intro hc9'
    try simp only [nrm] at hc9'
    refine W_skip (N_B (N_K (W_region (mV rfl (o_add rfl rfl rfl oO (aG rfl (R_nil ?_)))))))
    refine N_lp (hJ := ⟨k + 1, _, rfl, hle1, H, ?inv, rfl⟩) (hm := ?hm)
    case hm => omega
    case inv => exact ⟨by omega, Sp.upto_succ hall (by simp [Sp.idsOk, hz3, hl, hi4]; omega)⟩
   intro hc7'
   try simp only [nrm] at hc7'
   refine rP rfl (rP rfl (rP rfl (rP rfl (rP rfl (rP rfl (rP rfl (gR rfl (o_pick_f rfl rfl rfl (o_pick_f rfl rfl rfl (q3 (W_false rfl (W_skip (N_B (N_K (W_region ?_)))))))))))))))
   refine mV rfl (o_add rfl rfl rfl oO (aG rfl (R_nil ?_)))
   refine N_lp (hJ := ⟨k + 1, _, rfl, hle1, H, ?inv, rfl⟩) (hm := ?hm)
   case hm => omega
   case inv => exact ⟨by omega, Sp.upto_succ hall (by simp [Sp.idsOk, hz3, hl, hi4]; omega)⟩
  intro hc2'
  try simp only [nrm] at hc2'
  refine W_exit (N_K_exit (N_LP_exit (N_B_same (N_K (q2 (mV rfl (o_len_slice underlying41 rfl rfl (o_leq rfl rfl rfl (aG rfl (q3 (W_ret (rt1 results157 rfl ?_))))))))))))
  exact H.rets (congrArg Value.bool (by rw [Sp.l4Ids, Sp.all_range (fun j hj => hall j oM), Bool.true_and]; rw [Bool.eq_iff_iff]; simp; omega))
end Go.Proofs.Tst

namespace Go.Proofs.Tst
open Go Fw Tryz
theorem FileFree_c (w0 : World) (G0 : PH) (hG : PSub G0 w0) (vlist : Value) (list : List (BHeld)) (hlist : RdH G0 vlist list) (vids : Value) (ids : List (Int)) (hids : RdI G0 vids ids)  :
  Calls Tryz.prog 110 #[vlist, vids] w0 (RetO w0 G0 (fun G v r => ∃ u, v = .tuple #[u, .bool (Sp.FileFree list ids).isSome] ∧ AccOf heldE 3 131 ((Sp.FileFree list ids).getD []) G u r)) := by
 obtain ⟨alist, klist, rfl⟩ := hlist.shape
 have hlimlist : list.length ≤ 1099511627776 := hlist.lim
 obtain ⟨aids, kids, rfl⟩ := hids.shape
 have hlimids : ids.length ≤ 1099511627776 := hids.lim
 have H := Hp.init hG
 refine calls_of_W (l := [.slice alist list.length klist, .slice aids ids.length kids]) func110 rfl ntmps110 rfl (q2 (aG rfl (aG rfl (q3 (W_seq (q2 (mV rfl (o_call call104 rfl rfl (StoreValid_c _ _ H.sub _ _ hlist ) ?_))))))))
 rintro _ w1 ⟨rfl, ew1⟩; have H := H.step ew1; refine ⟨_, rfl, ?_⟩
 refine o_not rfl rfl (mV rfl ?_)
 refine R_case (t := 13) rfl ?_ ?_
 ·intro hc2
  try simp only [nrm] at hc2
  refine rP rfl (rP rfl (rP rfl (rP rfl (o_pick_t rfl rfl rfl (q3 (W_true rfl (q2 (o_buildSlice H underlying28 sizeOf131 (fun w => ⟨_, zeroValue131 w, rfl⟩) rfl rfl rfl rfl rfl rfl rfl ?_)))))))); intro b3 w3 hb3 H
  have H := H.blkAcc 3 (k := 0) (n := 0) rfl rfl (by decide)
  refine aG rfl (aG rfl (q3 (W_ret (N_K_ret (rt2 results110 rfl rfl ?_)))))
  have hN : Sp.FileFree list ids = none := by simp [Sp.FileFree, hc2]
  exact H.retO (k := 0) rfl (by rw [hN]; exact ⟨_, rfl, AccOf.mk aN (Chk.nil (E := heldE) (sz := 3) (G := G0))⟩) (acc_nd _ _ _ _ _)
 intro hc2'
 try simp only [nrm] at hc2'
 refine gR rfl (mV rfl (gR rfl (mV rfl (gR rfl (o_call call157 rfl rfl (l4Ids_c _ _ H.sub _ _ hlist _ _ hids ) ?_)))))
 rintro _ w4 ⟨rfl, ew4⟩; have H := H.step ew4; refine ⟨_, rfl, ?_⟩
 refine gR rfl (o_not rfl rfl (o_pick_f rfl rfl rfl (q3 ?_)))
 refine W_cond rfl ?_ ?_
 ·intro hc5
  try simp only [nrm] at hc5
  refine q2 (o_buildSlice H underlying28 sizeOf131 (fun w => ⟨_, zeroValue131 w, rfl⟩) rfl rfl rfl rfl rfl rfl rfl ?_); intro b6 w6 hb6 H
  have H := H.blkAcc 3 (k := 0) (n := 0) rfl rfl (by decide)
  refine aG rfl (aG rfl (q3 (W_ret (N_K_ret (rt2 results110 rfl rfl ?_)))))
  have hN : Sp.FileFree list ids = none := by simp [Sp.FileFree, hc5]
  exact H.retO (k := 0) rfl (by rw [hN]; exact ⟨_, rfl, AccOf.mk aN (Chk.nil (E := heldE) (sz := 3) (G := G0))⟩) (acc_nd _ _ _ _ _)
 intro hc5'
 try simp only [nrm] at hc5'
 refine W_skip (N_K (q2 (mV rfl (o_call call109 rfl rfl (l3Copy_c _ _ H.sub _ _ hlist ) ?_))))
 rintro _ w7 ⟨G7, v7, _, g7, rfl, ⟨cs7, rfl, hchk7⟩, hp7, hq7, hs7⟩
 have H := H.growO g7 hp7 hq7 hs7; obtain ⟨av7, cv7, rfl⟩ := H.accShape (k := 0) rfl
 have hids := hids.up g7.le
 refine ⟨_, rfl, ?_⟩
 refine aG rfl (q3 (W_seq (q2 (aG rfl (q3 (W_block ?_))))))
 refine W_lp (hf := (Sub.cons (t := 1) rfl Sub.nil)) (J := fun M w m => ∃ (v : Value) (n : Nat) (cs : List Value) (xs : List (BHeld)) (k : Nat) (G : PH), M = [(7, .int .i64 (k : Int)), (6, v)] ∧ PLe G7 G ∧ Hp w0 G0 [] w G [acc 131 3 v n cs] ∧ (Chk heldE 3 G cs xs ∧ n = xs.length ∧ k ≤ ids.length ∧ xs.length ≤ 1000 ∧ Sp.foldB Sp.StoreDrop (ids.take k) (some list) = some xs) ∧ m = (ids.length - k)) (h0 := ⟨_, _, _, list, 0, _, rfl, PLe.refl _, H, ?inv, rfl⟩) (round := ?round)
 case inv => exact ⟨hchk7,  by first | rfl | simp | (simp; omega) | omega, (by exact ⟨by omega, by have := Sp.valid_len hc2'; omega, by simp [Sp.foldB]⟩)⟩
 case round =>
  rintro _ w8 _ ⟨v, n, cs, xs, k, G8, rfl, hle8, H, hinv8, rfl⟩
  have hids := hids.up hle8
  obtain ⟨hchk8_0, hn8_0, hinv8⟩ := hinv8
  obtain ⟨av8_0, cv8_0, rfl⟩ := H.accShape (k := 0) rfl
  obtain ⟨hk, hxl, hf⟩ := hinv8
  refine W_seq (q2 (mV rfl (mV rfl (o_len_slice underlying41 rfl rfl (o_lss rfl rfl rfl (q3 ?_))))))
  refine W_cond rfl ?_ ?_
  ·intro hc9
   try simp only [nrm] at hc9
   refine W_skip (N_K (W_seq (W_block (q2 (mV rfl (mV rfl (mV rfl (o_index_P k hids underlying41 sizeOf3 rfl rfl rfl rfl aN ?_)))))))); intro b10 o10 z10 q10 hz10 hE10 hrow10
   obtain ⟨rfl, hi10⟩ := hE10
   refine o_load_P H isAgg3 rfl rfl (hrow10 0 _ rfl) ?_
   obtain ⟨G12, H, hsg12, hsr12⟩ := H.shut' (k := 0) rfl hchk8_0 aN aN
   have hle8 := hle8.trans hsg12
   refine o_call call158 rfl rfl (StoreDrop_c _ _ H.sub _ _ hsr12 _ ) ?_
   rintro _ w11 ⟨G11, _, _, g11, rfl, ⟨u11_0, rfl, ⟨cs11, rfl, hchk11⟩⟩, hp11, hq11, hs11⟩
   have H := H.growO g11 hp11 hq11 hs11; obtain ⟨av11, cv11, rfl⟩ := H.accShape (k := 0) rfl
   have hle8 := hle8.trans g11.le
   refine ⟨_, rfl, ?_⟩
   refine mV rfl (o_extract rfl rfl rfl (o_extract rfl rfl rfl (aG rfl (aG rfl (q3 (W_seq (q2 (mV rfl (o_not rfl rfl (q3 ?_))))))))))
   refine W_cond rfl ?_ ?_
   ·intro hc13
    try simp only [nrm] at hc13
    refine q2 (o_buildSlice H underlying28 sizeOf131 (fun w => ⟨_, zeroValue131 w, rfl⟩) rfl rfl rfl rfl rfl rfl rfl ?_); intro b14 w14 hb14 H
    have H := H.blkAcc 3 (k := 0) (n := 0) rfl rfl (by decide)
    refine aG rfl (aG rfl (q3 (W_ret (N_K_ret (N_B_ret (N_K_ret (N_LP_ret (N_B_ret (N_K_ret (rt2 results110 rfl rfl ?_))))))))))
    have hN : Sp.FileFree list ids = none := by (have hno : Sp.StoreDrop xs z10 = none := by simpa using hc13); simp only [Sp.FileFree, hc2', hc5', Bool.and_self, if_true]; exact Sp.foldB_stop hf hz10 hno
    exact H.retO (k := 0) rfl (by rw [hN]; exact ⟨_, rfl, AccOf.mk aN (Chk.nil (E := heldE) (sz := 3) (G := G11))⟩) (acc_nd _ _ _ _ _)
   intro hc13'
   try simp only [nrm] at hc13'
   obtain ⟨p, hsp⟩ := Option.isSome_iff_exists.1 hc13'
   rw [hsp] at H hchk11 ⊢
   dsimp only [Option.map, Option.getD] at H hchk11
   refine W_skip (N_K (W_region (mV rfl (aG rfl (R_nil (N_B (N_K (W_region (mV rfl (o_add rfl rfl rfl oO (aG rfl (R_nil ?_))))))))))))
   refine N_lp (hJ := ⟨_, _, _, p, k + 1, _, rfl, hle8, H, ?inv, rfl⟩) (hm := ?hm)
   case hm => omega
   case inv => exact ⟨hchk11, aN, (by exact ⟨by omega, by have := Sp.drop_len hsp; omega, Sp.foldB_succ hf hz10 hsp⟩)⟩
  intro hc9'
  try simp only [nrm] at hc9'
  refine W_exit (N_K_exit (N_LP_exit (N_B_same (N_K (q2 (mV rfl (aG rfl (aG rfl (q3 (W_ret (rt2 results110 rfl rfl ?_)))))))))))
  have hY : Sp.FileFree list ids = some xs := by simp only [Sp.FileFree, hc2', hc5', Bool.and_self, if_true]; exact Sp.foldB_all hf oM
  exact H.retO (k := 0) rfl (by rw [hY]; exact ⟨_, rfl, AccOf.mk aN hchk8_0⟩) (acc_nd _ _ _ _ _)
end Go.Proofs.Tst

namespace Go.Proofs.Tst
open Go Fw Tryz
theorem l5Copy_c (w0 : World) (G0 : PH) (hG : PSub G0 w0) (cx : List Value) (x : BItem) (hx : itemE G0 x cx)  :
  Calls Tryz.prog 145 #[.agg cx.toArray] w0 (RetP w0 G0 (fun G v => ∃ cs, v = .agg cs.toArray ∧ itemE G x cs)) := by
 obtain ⟨a1, m1, c1, rfl, hi1, hr1⟩ := hx; have hy_hi1 : _ ≤ 16777216 := hi1; have hn_hr1 := hr1.len; have hx_hr1 : _ ≤ 1099511627776 := hr1.lim
 have H := Hp.init hG
 refine calls_of_W (l := [_]) func145 rfl ntmps145 rfl (q2 (o_box H rfl rfl rfl ?_)); intro b2 w2 hb2 H
 refine o_alloc H zeroValue66 rfl rfl ?_; intro b3 w3 hb3 H
 refine q1 (o_buildSlice H underlying41 sizeOf3 (fun w => ⟨_, zeroValue3 w, rfl⟩) rfl rfl rfl rfl rfl rfl rfl ?_); intro b4 w4 hb4 H
 have H := H.blkAcc 1 (k := 0) (n := 0) rfl rfl (by decide)
 refine o_fieldAddr 2 runUnderlying66 rfl sizeOf41 rfl rfl rfl (o_load_B 2 H isAgg41 rfl rfl rfl rfl ?_)
 refine o_append_P 0 H hr1 (by intro z cs hz u hu; obtain ⟨rfl, _⟩ := hz; simp at hu; subst hu; rfl) (sz := 1) (bytes := 8) underlying41 typeInfo3 ⟨_, rfl, rfl⟩ rfl rfl rfl rfl rfl rfl rfl oM rfl ?_; intro v5 w5 css5 hcl5 hcs5 H
 have hchk5 : Chk intE 1 G0 ([] ++ css5.flatten) _ := ⟨css5, rfl, hcl5, hcs5⟩
 obtain ⟨av5, cv5, rfl⟩ := H.accShape (k := 0) rfl
 refine o_fieldAddr 2 runUnderlying66 rfl sizeOf41 rfl rfl rfl (o_store_B 2 H sizeOf41 rfl rfl rfl rfl rfl rfl rfl rfl ?_); intro w6 H
 refine q1 (o_loadagg_B 2 H isAgg66 sizeOf66 rfl rfl rfl rfl rfl (o_store_B 1 H sizeOf66 rfl rfl rfl rfl rfl rfl rfl rfl ?_)); intro w7 H
 refine q3 (W_ret (ret_gen (rs := [.cell 2 66]) (vs := [_]) results145 ⟨⟨_, rfl, load_blk 1 H isAgg66 sizeOf66 rfl rfl rfl⟩, trivial⟩ ?_))
 obtain ⟨G508, H, hsg508, hsr508⟩ := H.shut' (k := 0) rfl hchk5 aN aN
 exact H.retP ⟨_, rfl, ⟨_, _, _, rfl, hi1, hsr508⟩⟩
end Go.Proofs.Tst

namespace Go.Proofs.Tst
open Go Fw Tryz
theorem l5All_c (w0 : World) (G0 : PH) (hG : PSub G0 w0) (vlist : Value) (list : List (BItem)) (hlist : RdItems G0 vlist list)  :
  Calls Tryz.prog 87 #[vlist] w0 (RetO w0 G0 (AccOf itemE 3 66 list)) := by
 obtain ⟨alist, klist, rfl⟩ := hlist.shape
 have hlimlist : list.length ≤ 1099511627776 := hlist.lim
 have H := Hp.init hG
 refine calls_of_W (l := [.slice alist list.length klist]) func87 rfl ntmps87 rfl (q2 (aG rfl (q1 (o_buildSlice H underlying29 sizeOf66 (fun w => ⟨_, zeroValue66 w, rfl⟩) rfl rfl rfl rfl rfl rfl rfl ?_)))); intro b1 w1 hb1 H
 have H := H.blkAcc 3 (k := 0) (n := 0) rfl rfl (by decide)
 refine aG rfl (q3 (W_seq (q2 (aG rfl (q3 (W_block ?_))))))
 refine W_lp (hf := (Sub.cons (t := 0) rfl (Sub.cons (t := 2) rfl Sub.nil))) (J := fun M w m => ∃ (v : Value) (n : Nat) (cs : List Value) (xs : List (BItem)) (k : Nat) (G : PH), M = [(4, .int .i64 (k : Int)), (3, v)] ∧ PLe G0 G ∧ Hp w0 G0 [] w G [acc 66 3 v n cs] ∧ (Chk itemE 3 G cs xs ∧ n = xs.length ∧ k ≤ list.length ∧ xs.length = k ∧ xs = list.take k) ∧ m = (list.length - k)) (h0 := ⟨_, _, _, [], 0, _, rfl, PLe.refl _, H, ?inv, rfl⟩) (round := ?round)
 case inv => exact ⟨(Chk.nil (E := itemE) (sz := 3) (G := G0)),  by first | rfl | simp | (simp; omega) | omega, (by simp)⟩
 case round =>
  rintro _ w2 _ ⟨v, n, cs, xs, k, G2, rfl, hle2, H, hinv2, rfl⟩
  have hlist := hlist.up hle2
  obtain ⟨hchk2_0, hn2_0, hinv2⟩ := hinv2
  obtain ⟨av2_0, cv2_0, rfl⟩ := H.accShape (k := 0) rfl
  obtain ⟨hk, hxl, hxs⟩ := hinv2
  refine W_seq (q2 (mV rfl (mV rfl (o_len_slice underlying29 rfl rfl (o_lss rfl rfl rfl (q3 ?_))))))
  refine W_cond rfl ?_ ?_
  ·intro hc3
   try simp only [nrm] at hc3
   refine W_skip (N_K (W_seq (W_block (W_region (mV rfl (mV rfl (mV rfl (o_index_P k hlist underlying29 sizeOf66 rfl rfl rfl rfl aN ?_)))))))); intro b4 o4 z4 q4 hz4 hE4 hrow4
   obtain ⟨a4, m4, c4, rfl, hi4, hr4⟩ := hE4; have hy_hi4 : _ ≤ 16777216 := hi4; have hn_hr4 := hr4.len; have hx_hr4 : _ ≤ 1099511627776 := hr4.lim
   refine o_loadagg_P H isAgg66 sizeOf66 rfl rfl hrow4 rfl (o_call call145 rfl rfl (l5Copy_c _ _ H.sub _ _ ⟨_, _, _, rfl, hi4, hr4⟩ ) ?_)
   rintro _ w5 ⟨G5, _, g5, rfl, u5_0, rfl, hr5_0⟩
   have H := H.grow g5
   have hchk2_0 := hchk2_0.up g5.le
   have hle2 := hle2.trans g5.le
   obtain ⟨a6, m6, c6, rfl, hi6, hr6⟩ := hr5_0; have hy_hi6 : _ ≤ 16777216 := hi6; have hn_hr6 := hr6.len; have hx_hr6 : _ ≤ 1099511627776 := hr6.lim
   refine ⟨_, rfl, ?_⟩
   refine o_buildSlice H underlying29 sizeOf66 (fun w => ⟨_, zeroValue66 w, rfl⟩) rfl rfl rfl rfl rfl rfl rfl ?_; intro b7 w7 hb7 H
   refine o_append1 0 H (sz := 3) (bytes := 48) underlying29 typeInfo66 ⟨_, rfl, rfl⟩ rfl rfl rfl rfl rfl rfl rfl rfl rfl rfl oM rfl ?_; intro v8 w8 H
   have hchk8 := hchk2_0.snoc (show itemE _ z4 _ from ⟨_, _, _, rfl, hi6, hr6⟩) rfl
   obtain ⟨av8, cv8, rfl⟩ := H.accShape (k := 0) rfl
   refine aG rfl (R_nil (N_B (N_K (W_region (mV rfl (o_add rfl rfl rfl oO (aG rfl (R_nil ?_))))))))
   refine N_lp (hJ := ⟨_, _, _, (xs ++ [z4]), k + 1, _, rfl, hle2, H, ?inv, rfl⟩) (hm := ?hm)
   case hm => omega
   case inv => exact ⟨hchk8, aN, (by exact ⟨by omega, by simp [hxl], by rw [Sp.take_succ' hz4, hxs]⟩)⟩
  intro hc3'
  try simp only [nrm] at hc3'
  refine W_exit (N_K_exit (N_LP_exit (N_B_same (N_K (q2 (mV rfl (aG rfl (q3 (W_ret (rt1 results87 rfl ?_))))))))))
  obtain rfl : k = list.length := by omega
  rw [List.take_length] at hxs
  subst hxs
  exact H.retO (k := 0) rfl (AccOf.mk (by assumption) hchk2_0) (acc_nd _ _ _ _ _)
end Go.Proofs.Tst

namespace Go.Proofs.Tst
open Go Fw Tryz
end Go.Proofs.Tst

namespace Go.Proofs.Tst
open Go Fw Tryz
end Go.Proofs.Tst

namespace Go.Proofs.Tst
open Go Fw Tryz
end Go.Proofs.Tst

namespace Go.Proofs.Tst
open Go Fw Tryz
end Go.Proofs.Tst

namespace Go.Proofs.Tst
open Go Fw Tryz
end Go.Proofs.Tst

namespace Go.Proofs.Tst
open Go Fw Tryz
end Go.Proofs.Tst

namespace Go.Proofs.Tst
open Go Fw Tryz
end Go.Proofs.Tst

namespace Go.Proofs.Tst
open Go Fw Tryz
end Go.Proofs.Tst

namespace Go.Proofs.Tst
open Go Fw Tryz
theorem l11Count_c (w0 : World) (G0 : PH) (hG : PSub G0 w0) (vlist : Value) (list : List (BItem)) (hlist : RdItems G0 vlist list) (id : Int) (hT : Sp.TreeValid list = true) :
  Calls Tryz.prog 124 #[vlist, .int .i64 id] w0 (Rets w0 (.int .i64 (Sp.l11Count list id : Int))) := by
 obtain ⟨alist, klist, rfl⟩ := hlist.shape
 have hlimlist : list.length ≤ 1099511627776 := hlist.lim
 have htl := Sp.tree_len hT
 have H := Hp.init hG
 refine calls_of_W (l := [.slice alist list.length klist, .int .i64 id]) func124 rfl ntmps124 rfl (q2 (aG rfl (q1 (aG rfl (q3 (W_seq (q2 (aG rfl (q3 (W_block ?_))))))))))
 refine W_lp (hf := (Sub.cons (t := 0) rfl (Sub.cons (t := 1) rfl (Sub.cons (t := 4) rfl Sub.nil)))) (J := fun M w m => ∃ (c k : Nat) (G : PH), M = [(5, .int .i64 (c : Int)), (6, .int .i64 (k : Int))] ∧ PLe G0 G ∧ Hp w0 G0 [] w G [] ∧ (k ≤ list.length ∧ c = Sp.cntU list id k) ∧ m = (list.length - k)) (h0 := ⟨0, 0, _, rfl, PLe.refl _, H, ?inv, rfl⟩) (round := ?round)
 case inv => exact ⟨by omega, by simp [Sp.cntU]⟩
 case round =>
  rintro _ w1 _ ⟨c, k, G1, rfl, hle1, H, hinv1, rfl⟩
  have hlist := hlist.up hle1
  obtain ⟨hk, hc⟩ := hinv1; have hcu := Sp.cntU_le hT k hk (id := id)
  refine W_seq (q2 (mV rfl (mV rfl (o_len_slice underlying29 rfl rfl (o_lss rfl rfl rfl (q3 ?_))))))
  refine W_cond rfl ?_ ?_
  ·intro hc2
   try simp only [nrm] at hc2
   refine W_skip (N_K (W_seq (W_block (q2 (aG rfl (q3 (W_block ?_)))))))
   refine W_lp (hf := (Sub.cons (t := 0) rfl (Sub.cons (t := 1) rfl (Sub.cons (t := 4) rfl (Sub.cons (t := 6) rfl Sub.nil))))) (J := fun M w m => ∃ (c2 j : Nat) (y : BItem) (G : PH), M = [(5, .int .i64 (c2 : Int)), (7, .int .i64 (j : Int))] ∧ PLe G1 G ∧ Hp w0 G0 [] w G [] ∧ (list[k]? = some y ∧ j ≤ y.ids.length ∧ c2 = Sp.cntU list id k + Sp.cnt1 id (y.ids.take j)) ∧ m = (y.ids.length - j)) (h0 := ⟨c, 0, (list[k]'oM), _, rfl, PLe.refl _, H, ?inv, rfl⟩) (round := ?round)
   case inv => exact ⟨by simp, by omega, by simp [hc, Sp.cnt1]⟩
   case round =>
    rintro _ w3 _ ⟨c2, j, y, G3, rfl, hle3, H, hinv3, rfl⟩
    have hlist := hlist.up hle3
    have hle1 := hle1.trans hle3
    obtain ⟨hy, hj, hc2⟩ := hinv3; have hc4 := (Sp.tree_at hT hy).2; have hc1 := Sp.cnt1_le id (y.ids.take j); have htk : (y.ids.take j).length ≤ j := by simp; omega
    refine W_seq (q2 (mV rfl (mV rfl (mV rfl (o_index_P k hlist underlying29 sizeOf66 rfl rfl rfl rfl aN ?_))))); intro b4 o4 z4 q4 hz4 hE4 hrow4
    obtain ⟨a4, m4, c4, rfl, hi4, hr4⟩ := hE4; have hy_hi4 : _ ≤ 16777216 := hi4; have hn_hr4 := hr4.len; have hx_hr4 : _ ≤ 1099511627776 := hr4.lim
    have hzz4 : y = z4 := Option.some.inj (hy.symm.trans hz4)
    subst hzz4
    refine o_fieldAddr 2 runUnderlying66 rfl sizeOf41 rfl rfl rfl (o_load_P H isAgg41 rfl rfl (hrow4 2 _ rfl) (o_len_slice underlying41 rfl rfl (o_lss rfl rfl rfl (q3 ?_))))
    refine W_cond rfl ?_ ?_
    ·intro hc5
     try simp only [nrm] at hc5
     refine W_skip (N_K (W_seq (W_block (q2 (mV rfl (mV rfl (o_index_P k hlist underlying29 sizeOf66 rfl rfl rfl rfl aN ?_))))))); intro b6 o6 z6 q6 hz6 hE6 hrow6
     obtain ⟨a6, m6, c6, rfl, hi6, hr6⟩ := hE6; have hy_hi6 : _ ≤ 16777216 := hi6; have hn_hr6 := hr6.len; have hx_hr6 : _ ≤ 1099511627776 := hr6.lim
     have hzz6 : y = z6 := Option.some.inj (hy.symm.trans hz6)
     subst hzz6
     refine o_fieldAddr 2 runUnderlying66 rfl sizeOf41 rfl rfl rfl (o_load_P H isAgg41 rfl rfl (hrow6 2 _ rfl) (mV rfl (o_index_P j hr6 underlying41 sizeOf3 rfl rfl rfl rfl aN ?_))); intro b7 o7 z7 q7 hz7 hE7 hrow7
     obtain ⟨rfl, hi7⟩ := hE7
     refine o_load_P H isAgg3 rfl rfl (hrow7 0 _ rfl) (mV rfl (o_eql rfl rfl rfl (q3 ?_)))
     refine W_cond rfl ?_ ?_
     ·intro hc8
      try simp only [nrm] at hc8
      refine W_region (mV rfl (o_add rfl rfl rfl oO (aG rfl (R_nil (N_B (N_K (W_region (mV rfl (o_add rfl rfl rfl oO (aG rfl (R_nil ?_)))))))))))
      refine N_lp (hJ := ⟨c2 + 1, j + 1, y, _, rfl, hle3, H, ?inv, rfl⟩) (hm := ?hm)
      case hm => omega
      case inv => exact ⟨hy, by omega, by rw [Sp.cnt1_succ hz7, if_pos oM, hc2]; omega⟩
     intro hc8'
     try simp only [nrm] at hc8'
     refine W_skip (N_B (N_K (W_region (mV rfl (o_add rfl rfl rfl oO (aG rfl (R_nil ?_)))))))
     refine N_lp (hJ := ⟨c2, j + 1, y, _, rfl, hle3, H, ?inv, rfl⟩) (hm := ?hm)
     case hm => omega
     case inv => exact ⟨hy, by omega, by rw [Sp.cnt1_succ hz7, if_neg oM, hc2]; omega⟩
    intro hc5'
    try simp only [nrm] at hc5'
    refine W_exit (N_K_exit (N_LP_exit (N_B_same (N_B (N_K (W_region (mV rfl (o_add rfl rfl rfl oO (aG rfl (R_nil ?_))))))))))
    refine N_lp (hJ := ⟨c2, k + 1, _, rfl, hle1, H, ?inv, rfl⟩) (hm := ?hm)
    case hm => omega
    case inv => exact ⟨by omega, by rw [hc2, Sp.cntU_succ hy, List.take_of_length_le oM]⟩
  intro hc2'
  try simp only [nrm] at hc2'
  refine W_exit (N_K_exit (N_LP_exit (N_B_same (N_K (q2 (mV rfl (aG rfl (q3 (W_ret (rt1 results124 rfl ?_))))))))))
  obtain rfl : k = list.length := by omega
  exact H.rets (congrArg (Value.int .i64) (by rw [hc]; rfl))
theorem l11Files_c (w0 : World) (G0 : PH) (hG : PSub G0 w0) (vstore : Value) (store : List (BHeld)) (hstore : RdH G0 vstore store) (vlist : Value) (list : List (BItem)) (hlist : RdItems G0 vlist list)  :
  Calls Tryz.prog 106 #[vstore, vlist] w0 (Rets w0 (.bool (Sp.l11Files store list))) := by
 obtain ⟨astore, kstore, rfl⟩ := hstore.shape
 have hlimstore : store.length ≤ 1099511627776 := hstore.lim
 obtain ⟨alist, klist, rfl⟩ := hlist.shape
 have hlimlist : list.length ≤ 1099511627776 := hlist.lim
 have H := Hp.init hG
 refine calls_of_W (l := [.slice astore store.length kstore, .slice alist list.length klist]) func106 rfl ntmps106 rfl (q2 (aG rfl (q3 (W_seq (q2 (aG rfl (q3 (W_block ?_))))))))
 refine W_lp (hf := (Sub.cons (t := 0) rfl (Sub.cons (t := 1) rfl Sub.nil))) (J := fun M w m => ∃ (k : Nat) (G : PH), M = [(5, .int .i64 (k : Int))] ∧ PLe G0 G ∧ Hp w0 G0 [] w G [] ∧ (k ≤ list.length ∧ (list.take k).all (Sp.fileOk store) = true) ∧ m = (list.length - k)) (h0 := ⟨0, _, rfl, PLe.refl _, H, ?inv, rfl⟩) (round := ?round)
 case inv => exact ⟨by omega, by simp⟩
 case round =>
  rintro _ w1 _ ⟨k, G1, rfl, hle1, H, hinv1, rfl⟩
  have hstore := hstore.up hle1
  have hlist := hlist.up hle1
  obtain ⟨hk, hall⟩ := hinv1
  refine W_seq (q2 (mV rfl (mV rfl (o_len_slice underlying29 rfl rfl (o_lss rfl rfl rfl (q3 ?_))))))
  refine W_cond rfl ?_ ?_
  ·intro hc2
   try simp only [nrm] at hc2
   refine W_skip (N_K (W_seq (W_block (q2 (mV rfl (mV rfl (mV rfl (o_index_P k hlist underlying29 sizeOf66 rfl rfl rfl rfl aN ?_)))))))); intro b3 o3 z3 q3 hz3 hE3 hrow3
   obtain ⟨a3, m3, c3, rfl, hi3, hr3⟩ := hE3; have hy_hi3 : _ ≤ 16777216 := hi3; have hn_hr3 := hr3.len; have hx_hr3 : _ ≤ 1099511627776 := hr3.lim
   refine o_fieldAddr 2 runUnderlying66 rfl sizeOf41 rfl rfl rfl (o_load_P H isAgg41 rfl rfl (hrow3 2 _ rfl) (o_call call157 rfl rfl (l4Ids_c _ _ H.sub _ _ hstore _ _ hr3 ) ?_))
   rintro _ w4 ⟨rfl, ew4⟩; have H := H.step ew4; refine ⟨_, rfl, ?_⟩
   refine o_not rfl rfl (q3 ?_)
   refine W_cond rfl ?_ ?_
   ·intro hc5
    try simp only [nrm] at hc5
    refine q2 (aG rfl (q3 (W_ret (N_B_ret (N_K_ret (N_LP_ret (N_B_ret (N_K_ret (rt1 results106 rfl ?_)))))))))
    exact H.rets (congrArg Value.bool (by rw [Sp.l11Files, Sp.all_false hz3 (by simp [Sp.fileOk, *])]))
   intro hc5'
   try simp only [nrm] at hc5'
   refine W_skip (N_B (N_K (W_region (mV rfl (o_add rfl rfl rfl oO (aG rfl (R_nil ?_)))))))
   refine N_lp (hJ := ⟨k + 1, _, rfl, hle1, H, ?inv, rfl⟩) (hm := ?hm)
   case hm => omega
   case inv => exact ⟨by omega, Sp.all_take hall hz3 (by simp [Sp.fileOk, *])⟩
  intro hc2'
  try simp only [nrm] at hc2'
  refine W_exit (N_K_exit (N_LP_exit (N_B_same (N_K (q2 (aG rfl (q3 (W_ret (rt1 results106 rfl ?_)))))))))
  obtain rfl : k = list.length := by omega
  rw [List.take_length] at hall
  exact H.rets (congrArg Value.bool (by rw [Sp.l11Files, hall]))
end Go.Proofs.Tst

namespace Go.Proofs.Tst
open Go Fw Tryz
end Go.Proofs.Tst

namespace Go.Proofs.Tst
open Go Fw Tryz
theorem l12Keep_c (w0 : World) (G0 : PH) (hG : PSub G0 w0) (vstore : Value) (store : List (BHeld)) (hstore : RdH G0 vstore store) (vlist : Value) (list : List (BItem)) (hlist : RdItems G0 vlist list)  :
  Calls Tryz.prog 86 #[vstore, vlist] w0 (RetO w0 G0 (fun G v r => ∃ u, v = .tuple #[u, .bool (Sp.l12Keep store list).isSome] ∧ AccOf heldE 3 131 ((Sp.l12Keep store list).getD []) G u r)) := by
 obtain ⟨astore, kstore, rfl⟩ := hstore.shape
 have hlimstore : store.length ≤ 1099511627776 := hstore.lim
 obtain ⟨alist, klist, rfl⟩ := hlist.shape
 have hlimlist : list.length ≤ 1099511627776 := hlist.lim
 have H := Hp.init hG
 refine calls_of_W (l := [.slice astore store.length kstore, .slice alist list.length klist]) func86 rfl ntmps86 rfl (q2 (aG rfl (aG rfl (q1 (mV rfl (o_call call109 rfl rfl (l3Copy_c _ _ H.sub _ _ hstore ) ?_))))))
 rintro _ w1 ⟨G1, v1, _, g1, rfl, ⟨cs1, rfl, hchk1⟩, hp1, hq1, hs1⟩
 have H := H.growO g1 hp1 hq1 hs1; obtain ⟨av1, cv1, rfl⟩ := H.accShape (k := 0) rfl
 have hlist := hlist.up g1.le
 refine ⟨_, rfl, ?_⟩
 refine aG rfl (q3 (W_seq (q2 (aG rfl (q3 (W_block ?_))))))
 refine W_lp (hf := (Sub.cons (t := 1) rfl Sub.nil)) (J := fun M w m => ∃ (vo : Value) (no : Nat) (cso : List Value) (xso : List (BHeld)) (k : Nat) (G : PH), M = [(7, .int .i64 (k : Int)), (6, vo)] ∧ PLe G1 G ∧ Hp w0 G0 [] w G [acc 131 3 vo no cso] ∧ (Chk heldE 3 G cso xso ∧ no = xso.length ∧ k ≤ list.length ∧ xso.length = store.length ∧ Sp.foldB Sp.keepT (list.take k) (some store) = some xso) ∧ m = (list.length - k)) (h0 := ⟨_, _, _, store, 0, _, rfl, PLe.refl _, H, ?inv, rfl⟩) (round := ?round)
 case inv => exact ⟨hchk1,  by first | rfl | simp | (simp; omega) | omega, (by exact ⟨by omega, rfl, by simp [Sp.foldB]⟩)⟩
 case round =>
  rintro _ w2 _ ⟨vo, no, cso, xso, k, G2, rfl, hle2, H, hinv2, rfl⟩
  have hlist := hlist.up hle2
  obtain ⟨hchk2_0, hn2_0, hinv2⟩ := hinv2
  obtain ⟨av2_0, cv2_0, rfl⟩ := H.accShape (k := 0) rfl
  obtain ⟨hk, hxl, hf⟩ := hinv2
  refine W_seq (q2 (mV rfl (mV rfl (o_len_slice underlying29 rfl rfl (o_lss rfl rfl rfl (q3 ?_))))))
  refine W_cond rfl ?_ ?_
  ·intro hc3
   try simp only [nrm] at hc3
   refine W_skip (N_K (W_seq (W_block (q2 (aG rfl (q3 (W_block ?_)))))))
   refine W_lp (hf := (Sub.cons (t := 1) rfl (Sub.cons (t := 7) rfl Sub.nil))) (J := fun M w m => ∃ (v : Value) (n : Nat) (cs : List Value) (xs : List (BHeld)) (j : Nat) (y : BItem) (G : PH), M = [(8, .int .i64 (j : Int)), (6, v)] ∧ PLe G2 G ∧ Hp w0 G0 [] w G [acc 131 3 v n cs] ∧ (Chk heldE 3 G cs xs ∧ n = xs.length ∧ list[k]? = some y ∧ j ≤ y.ids.length ∧ xs.length = store.length ∧ Sp.foldB Sp.StoreKeep (y.ids.take j) (some xso) = some xs) ∧ m = (y.ids.length - j)) (h0 := ⟨_, _, _, xso, 0, (list[k]'oM), _, rfl, PLe.refl _, H, ?inv, rfl⟩) (round := ?round)
   case inv => exact ⟨hchk2_0,  by first | rfl | simp | (simp; omega) | omega, (by exact ⟨by simp, by omega, hxl, by simp [Sp.foldB]⟩)⟩
   case round =>
    rintro _ w4 _ ⟨v, n, cs, xs, j, y, G4, rfl, hle4, H, hinv4, rfl⟩
    have hlist := hlist.up hle4
    have hle2 := hle2.trans hle4
    obtain ⟨hchk4_0, hn4_0, hinv4⟩ := hinv4
    obtain ⟨av4_0, cv4_0, rfl⟩ := H.accShape (k := 0) rfl
    obtain ⟨hy, hj, hxl2, hf2⟩ := hinv4
    refine W_seq (q2 (mV rfl (mV rfl (mV rfl (o_index_P k hlist underlying29 sizeOf66 rfl rfl rfl rfl aN ?_))))); intro b5 o5 z5 q5 hz5 hE5 hrow5
    obtain ⟨a5, m5, c5, rfl, hi5, hr5⟩ := hE5; have hy_hi5 : _ ≤ 16777216 := hi5; have hn_hr5 := hr5.len; have hx_hr5 : _ ≤ 1099511627776 := hr5.lim
    have hzz5 : y = z5 := Option.some.inj (hy.symm.trans hz5)
    subst hzz5
    refine o_fieldAddr 2 runUnderlying66 rfl sizeOf41 rfl rfl rfl (o_load_P H isAgg41 rfl rfl (hrow5 2 _ rfl) (o_len_slice underlying41 rfl rfl (o_lss rfl rfl rfl (q3 ?_))))
    refine W_cond rfl ?_ ?_
    ·intro hc6
     try simp only [nrm] at hc6
     refine W_skip (N_K (W_seq (W_block (q2 (mV rfl (mV rfl (mV rfl (o_index_P k hlist underlying29 sizeOf66 rfl rfl rfl rfl aN ?_)))))))); intro b7 o7 z7 q7 hz7 hE7 hrow7
     obtain ⟨a7, m7, c7, rfl, hi7, hr7⟩ := hE7; have hy_hi7 : _ ≤ 16777216 := hi7; have hn_hr7 := hr7.len; have hx_hr7 : _ ≤ 1099511627776 := hr7.lim
     have hzz7 : y = z7 := Option.some.inj (hy.symm.trans hz7)
     subst hzz7
     refine o_fieldAddr 2 runUnderlying66 rfl sizeOf41 rfl rfl rfl (o_load_P H isAgg41 rfl rfl (hrow7 2 _ rfl) (mV rfl (o_index_P j hr7 underlying41 sizeOf3 rfl rfl rfl rfl aN ?_))); intro b8 o8 z8 q8 hz8 hE8 hrow8
     obtain ⟨rfl, hi8⟩ := hE8
     refine o_load_P H isAgg3 rfl rfl (hrow8 0 _ rfl) ?_
     obtain ⟨G10, H, hsg10, hsr10⟩ := H.shut' (k := 0) rfl hchk4_0 aN aN
     have hle4 := hle4.trans hsg10
     refine o_call call144 rfl rfl (StoreKeep_c _ _ H.sub _ _ hsr10 _ ) ?_
     rintro _ w9 ⟨G9, _, _, g9, rfl, ⟨u9_0, rfl, ⟨cs9, rfl, hchk9⟩⟩, hp9, hq9, hs9⟩
     have H := H.growO g9 hp9 hq9 hs9; obtain ⟨av9, cv9, rfl⟩ := H.accShape (k := 0) rfl
     have hle4 := hle4.trans g9.le
     refine ⟨_, rfl, ?_⟩
     refine mV rfl (o_extract rfl rfl rfl (o_extract rfl rfl rfl (aG rfl (aG rfl (q3 (W_seq (q2 (mV rfl (o_not rfl rfl (q3 ?_))))))))))
     refine W_cond rfl ?_ ?_
     ·intro hc11
      try simp only [nrm] at hc11
      refine q2 (o_buildSlice H underlying28 sizeOf131 (fun w => ⟨_, zeroValue131 w, rfl⟩) rfl rfl rfl rfl rfl rfl rfl ?_); intro b12 w12 hb12 H
      have H := H.blkAcc 3 (k := 0) (n := 0) rfl rfl (by decide)
      refine aG rfl (aG rfl (q3 (W_ret (N_K_ret (N_B_ret (N_K_ret (N_LP_ret (N_B_ret (N_B_ret (N_K_ret (N_LP_ret (N_B_ret (N_K_ret (rt2 results86 rfl rfl ?_))))))))))))))
      have hN : Sp.l12Keep store list = none := by (have hno : Sp.StoreKeep xs z8 = none := by simpa using hc11); unfold Sp.l12Keep; exact Sp.foldB_stop hf hy (by unfold Sp.keepT; exact Sp.foldB_stop hf2 hz8 hno)
      exact H.retO (k := 0) rfl (by rw [hN]; exact ⟨_, rfl, AccOf.mk aN (Chk.nil (E := heldE) (sz := 3) (G := G9))⟩) (acc_nd _ _ _ _ _)
     intro hc11'
     try simp only [nrm] at hc11'
     obtain ⟨p, hsp⟩ := Option.isSome_iff_exists.1 hc11'
     rw [hsp] at H hchk9 ⊢
     dsimp only [Option.map, Option.getD] at H hchk9
     refine W_skip (N_K (W_region (mV rfl (aG rfl (R_nil (N_B (N_K (W_region (mV rfl (o_add rfl rfl rfl oO (aG rfl (R_nil ?_))))))))))))
     refine N_lp (hJ := ⟨_, _, _, p, j + 1, y, _, rfl, hle4, H, ?inv, rfl⟩) (hm := ?hm)
     case hm => omega
     case inv => exact ⟨hchk9, aN, (by exact ⟨hy, by omega, by rw [Sp.keep_len hsp]; exact hxl2, Sp.foldB_succ hf2 hz8 hsp⟩)⟩
    intro hc6'
    try simp only [nrm] at hc6'
    refine W_exit (N_K_exit (N_LP_exit (N_B_same (N_B (N_K (W_region (mV rfl (o_add rfl rfl rfl oO (aG rfl (R_nil ?_))))))))))
    refine N_lp (hJ := ⟨_, _, _, xs, k + 1, _, rfl, hle2, H, ?inv, rfl⟩) (hm := ?hm)
    case hm => omega
    case inv => exact ⟨hchk4_0, aN, (by exact ⟨by omega, hxl2, Sp.foldB_succ hf hy (by unfold Sp.keepT; exact Sp.foldB_all hf2 oM)⟩)⟩
  intro hc3'
  try simp only [nrm] at hc3'
  refine W_exit (N_K_exit (N_LP_exit (N_B_same (N_K (q2 (mV rfl (aG rfl (aG rfl (q3 (W_ret (rt2 results86 rfl rfl ?_)))))))))))
  have hY : Sp.l12Keep store list = some xso := by unfold Sp.l12Keep; exact Sp.foldB_all hf oM
  exact H.retO (k := 0) rfl (by rw [hY]; exact ⟨_, rfl, AccOf.mk aN hchk2_0⟩) (acc_nd _ _ _ _ _)
end Go.Proofs.Tst

namespace Go.Proofs.Tst
open Go Fw Tryz
theorem l12Count_c (w0 : World) (G0 : PH) (hG : PSub G0 w0) (cd : List Value) (d : BDisk) (hd : diskE G0 d cd) (id : Int) (hT : Sp.TreeValid d.tree = true) (hN : Sp.l12Snaps d = true) :
  Calls Tryz.prog 108 #[.agg cd.toArray, .int .i64 id] w0 (Rets w0 (.int .i64 (Sp.l12Count d id : Int))) := by
 obtain ⟨a1, m1, c1, a1', m1', c1', a1'', m1'', c1'', rfl, hr1, hr1', hr1''⟩ := hd; have hn_hr1 := hr1.len; have hx_hr1 : _ ≤ 1099511627776 := hr1.lim; have hn_hr1q := hr1'.len; have hx_hr1q : _ ≤ 1099511627776 := hr1'.lim; have hn_hr1qq := hr1''.len; have hx_hr1qq : _ ≤ 1099511627776 := hr1''.lim
 obtain ⟨hsl, hst⟩ := Sp.snaps_at hN
 have htc := Sp.l11Count_le hT (id := id)
 have H := Hp.init hG
 refine calls_of_W (l := [_, .int .i64 id]) func108 rfl ntmps108 rfl (q2 (o_box H rfl rfl rfl ?_)); intro b2 w2 hb2 H
 refine aG rfl (q1 (o_fieldAddr 1 runUnderlying32 rfl sizeOf29 rfl rfl rfl (o_load_B 0 H isAgg29 rfl rfl rfl rfl (mV rfl (o_call call124 rfl rfl (l11Count_c _ _ H.sub _ _ hr1' _ hT) ?_)))))
 rintro _ w3 ⟨rfl, ew3⟩; have H := H.step ew3; refine ⟨_, rfl, ?_⟩
 refine aG rfl (q3 (W_seq (q2 (aG rfl (q3 (W_block ?_))))))
 obtain ⟨ln4, hln4, H⟩ := H.name (k := 0) rfl
 refine W_lp (hf := (Sub.cons (t := 1) rfl (Sub.cons (t := 2) rfl (Sub.cons (t := 4) rfl Sub.nil)))) (J := fun M w m => ∃ (c k : Nat) (G : PH), M = [(5, .int .i64 (c : Int)), (6, .int .i64 (k : Int))] ∧ PLe G0 G ∧ Hp w0 G0 [] w G [blk b2 (cl ln4 32)] ∧ (k ≤ d.snaps.length ∧ c = Sp.l11Count d.tree id + Sp.cntS d.snaps id k) ∧ m = (d.snaps.length - k)) (h0 := ⟨(Sp.l11Count d.tree id), 0, _, rfl, PLe.refl _, H, ?inv, rfl⟩) (round := ?round)
 case inv => exact ⟨by omega, by simp [Sp.cntS]⟩
 case round =>
  rintro _ w5 _ ⟨c, k, G5, rfl, hle5, H, hinv5, rfl⟩
  subst hln4
  have hr1'' := hr1''.up hle5
  obtain ⟨hk, hc⟩ := hinv5; have hcu := Sp.cntS_le hst k hk (id := id)
  refine W_seq (q2 (mV rfl (o_fieldAddr 2 runUnderlying32 rfl sizeOf30 rfl rfl rfl (o_load_B 0 H isAgg30 rfl rfl rfl rfl (o_len_slice underlying30 rfl rfl (o_lss rfl rfl rfl (q3 ?_)))))))
  refine W_cond rfl ?_ ?_
  ·intro hc6
   try simp only [nrm] at hc6
   refine W_skip (N_K (W_seq (W_block (W_region (mV rfl (o_fieldAddr 2 runUnderlying32 rfl sizeOf30 rfl rfl rfl (o_load_B 0 H isAgg30 rfl rfl rfl rfl (mV rfl (o_index_P k hr1'' underlying30 sizeOf58 rfl rfl rfl rfl aN ?_))))))))); intro b7 o7 z7 q7 hz7 hE7 hrow7
   obtain ⟨a7, m7, c7, rfl, hi7, hr7⟩ := hE7; have hy_hi7 : _ ≤ 16777216 := hi7; have hn_hr7 := hr7.len; have hx_hr7 : _ ≤ 1099511627776 := hr7.lim
   have hlz := Sp.l11Count_le (hst _ (List.mem_of_getElem? hz7)) (id := id)
   refine o_fieldAddr 1 runUnderlying58 rfl sizeOf29 rfl rfl rfl (o_load_P H isAgg29 rfl rfl (hrow7 1 _ rfl) (mV rfl ?_))
   refine o_call call124 rfl rfl (l11Count_c _ _ H.sub _ _ hr7 _ (hst _ (List.mem_of_getElem? hz7))) ?_
   rintro _ w8 ⟨rfl, ew8⟩; have H := H.step ew8; refine ⟨_, rfl, ?_⟩
   refine o_add rfl rfl rfl oO (aG rfl (R_nil (N_B (N_K (W_region (mV rfl (o_add rfl rfl rfl oO (aG rfl (R_nil ?_)))))))))
   refine N_lp (hJ := ⟨c + Sp.l11Count z7.tree id, k + 1, _, rfl, hle5, H, ?inv, rfl⟩) (hm := ?hm)
   case hm => omega
   case inv => exact ⟨by omega, by rw [hc, Sp.cntS_succ hz7]; omega⟩
  intro hc6'
  try simp only [nrm] at hc6'
  refine W_exit (N_K_exit (N_LP_exit (N_B_same (N_K (q2 (mV rfl (aG rfl (q3 (W_ret (rt1 results108 rfl ?_))))))))))
  obtain rfl : k = d.snaps.length := by omega
  exact H.rets (congrArg (Value.int .i64) (by rw [hc]; rfl))
end Go.Proofs.Tst

namespace Go.Proofs.Tst
open Go Fw Tryz
theorem l12Snaps_c (w0 : World) (G0 : PH) (hG : PSub G0 w0) (cd : List Value) (d : BDisk) (hd : diskE G0 d cd)  :
  Calls Tryz.prog 107 #[.agg cd.toArray] w0 (Rets w0 (.bool (Sp.l12Snaps d))) := by
 obtain ⟨a1, m1, c1, a1', m1', c1', a1'', m1'', c1'', rfl, hr1, hr1', hr1''⟩ := hd; have hn_hr1 := hr1.len; have hx_hr1 : _ ≤ 1099511627776 := hr1.lim; have hn_hr1q := hr1'.len; have hx_hr1q : _ ≤ 1099511627776 := hr1'.lim; have hn_hr1qq := hr1''.len; have hx_hr1qq : _ ≤ 1099511627776 := hr1''.lim
 have H := Hp.init hG
 refine calls_of_W (l := [_]) func107 rfl ntmps107 rfl (q2 (o_box H rfl rfl rfl ?_)); intro b2 w2 hb2 H
 refine aG rfl (q3 (W_seq (q2 (aG rfl (q3 (W_block ?_))))))
 obtain ⟨ln3, hln3, H⟩ := H.name (k := 0) rfl
 refine W_lp (hf := (Sub.cons (t := 1) rfl Sub.nil)) (J := fun M w m => ∃ (k : Nat) (G : PH), M = [(3, .int .i64 (k : Int))] ∧ PLe G0 G ∧ Hp w0 G0 [] w G [blk b2 (cl ln3 32)] ∧ (k ≤ d.snaps.length ∧ ∀ j, j < k → Sp.okS d j = true) ∧ m = (d.snaps.length - k)) (h0 := ⟨0, _, rfl, PLe.refl _, H, ?inv, rfl⟩) (round := ?round)
 case inv => exact ⟨by omega, fun j hj => by omega⟩
 case round =>
  rintro _ w4 _ ⟨k, G4, rfl, hle4, H, hinv4, rfl⟩
  subst hln3
  have hr1 := hr1.up hle4
  have hr1'' := hr1''.up hle4
  obtain ⟨hk, hall⟩ := hinv4
  refine W_seq (q2 (mV rfl (o_fieldAddr 2 runUnderlying32 rfl sizeOf30 rfl rfl rfl (o_load_B 0 H isAgg30 rfl rfl rfl rfl (o_len_slice underlying30 rfl rfl (o_lss rfl rfl rfl (q3 ?_)))))))
  refine W_cond rfl ?_ ?_
  ·intro hc5
   try simp only [nrm] at hc5
   refine W_skip (N_K (W_seq (W_block (q2 (o_fieldAddr 2 runUnderlying32 rfl sizeOf30 rfl rfl rfl (o_load_B 0 H isAgg30 rfl rfl rfl rfl (mV rfl (o_index_P k hr1'' underlying30 sizeOf58 rfl rfl rfl rfl aN ?_)))))))); intro b6 o6 z6 q6 hz6 hE6 hrow6
   obtain ⟨a6, m6, c6, rfl, hi6, hr6⟩ := hE6; have hy_hi6 : _ ≤ 16777216 := hi6; have hn_hr6 := hr6.len; have hx_hr6 : _ ≤ 1099511627776 := hr6.lim
   refine o_loadagg_P H isAgg58 sizeOf58 rfl rfl hrow6 rfl (o_alloc H zeroValue58 rfl rfl ?_); intro b7 w7 hb7 H
   refine o_store_B 0 H sizeOf58 rfl rfl rfl rfl rfl rfl rfl rfl ?_; intro w8 H
   refine q1 (o_fieldAddr 0 runUnderlying58 rfl sizeOf9 rfl rfl rfl (o_load_B 0 H isAgg9 rfl rfl rfl rfl (o_call call85 rfl rfl (l1Word_c _ _ hi6 ) ?_)))
   rintro _ w9 ⟨rfl, ew9⟩; have H := H.step ew9; refine ⟨_, rfl, ?_⟩
   refine o_not rfl rfl (mV rfl ?_)
   refine R_case (t := 21) rfl ?_ ?_
   ·intro hc10
    try simp only [nrm] at hc10
    refine rP rfl (rP rfl (rP rfl (rP rfl (rP rfl (rP rfl (rP rfl (o_pick_t rfl rfl rfl (mV rfl (rP rfl (rP rfl (rP rfl (rP rfl (o_pick_t rfl rfl rfl (mV rfl (rP rfl ?_)))))))))))))))
    refine rP rfl (rP rfl (rP rfl (rP rfl (rP rfl (o_pick_t rfl rfl rfl (q3 (W_true rfl (q2 (aG rfl (q3 (W_ret (N_B_ret (N_K_ret (N_LP_ret (N_B_ret ?_)))))))))))))))
    refine N_K_ret (rt1 results107 rfl ?_)
    exact H.rets (congrArg Value.bool (by rw [Sp.l12Snaps, Sp.not_all_range (k := k) oM (by rw [Sp.okS_at hz6]; simp [*] <;> (intros; omega))]; rfl))
   intro hc10'
   try simp only [nrm] at hc10'
   refine gR rfl (o_fieldAddr 2 runUnderlying32 rfl sizeOf30 rfl rfl rfl (gR rfl (o_load_B 1 H isAgg30 rfl rfl rfl rfl (gR rfl (o_fieldAddr 0 runUnderlying58 rfl sizeOf9 rfl rfl rfl (gR rfl (o_load_B 0 H isAgg9 rfl rfl rfl rfl (gR rfl (o_call call52 rfl rfl (l12At_c _ _ H.sub _ _ hr1'' _ hi6 ) ?_)))))))))
   rintro _ w11 ⟨rfl, ew11⟩; have H := H.step ew11; refine ⟨_, rfl, ?_⟩
   refine gR rfl (mV rfl (gR rfl (o_lss rfl rfl rfl (o_pick_f rfl rfl rfl (mV rfl ?_)))))
   refine R_case (t := 30) rfl ?_ ?_
   ·intro hc12
    try simp only [nrm] at hc12
    refine rP rfl (rP rfl (rP rfl (rP rfl (o_pick_t rfl rfl rfl (mV rfl (rP rfl (rP rfl (rP rfl (rP rfl (rP rfl (rP rfl (o_pick_t rfl rfl rfl (q3 (W_true rfl (q2 ?_)))))))))))))))
    refine aG rfl (q3 (W_ret (N_B_ret (N_K_ret (N_LP_ret (N_B_ret (N_K_ret (rt1 results107 rfl ?_))))))))
    exact H.rets (congrArg Value.bool (by rw [Sp.l12Snaps, Sp.not_all_range (k := k) oM (by rw [Sp.okS_at hz6]; simp [*] <;> (intros; omega))]; rfl))
   intro hc12'
   try simp only [nrm] at hc12'
   refine gR rfl (o_fieldAddr 1 runUnderlying58 rfl sizeOf29 rfl rfl rfl (gR rfl (o_load_B 0 H isAgg29 rfl rfl rfl rfl (gR rfl (o_call call105 rfl rfl (TreeValid_c _ _ H.sub _ _ hr6 ) ?_)))))
   rintro _ w13 ⟨rfl, ew13⟩; have H := H.step ew13; refine ⟨_, rfl, ?_⟩
   refine gR rfl (o_not rfl rfl (o_pick_f rfl rfl rfl (mV rfl ?_)))
   refine R_case (t := 36) rfl ?_ ?_
   ·intro hc14
    try simp only [nrm] at hc14
    refine rP rfl (rP rfl (rP rfl (rP rfl (rP rfl (rP rfl (o_pick_t rfl rfl rfl (q3 (W_true rfl (q2 (aG rfl (q3 (W_ret (N_B_ret (N_K_ret (N_LP_ret ?_)))))))))))))))
    refine N_B_ret (N_K_ret (rt1 results107 rfl ?_))
    exact H.rets (congrArg Value.bool (by rw [Sp.l12Snaps, Sp.not_all_range (k := k) oM (by rw [Sp.okS_at hz6]; simp [*] <;> (intros; omega))]; rfl))
   intro hc14'
   try simp only [nrm] at hc14'
   refine gR rfl (o_fieldAddr 0 runUnderlying32 rfl sizeOf28 rfl rfl rfl (gR rfl (o_load_B 1 H isAgg28 rfl rfl rfl rfl (gR rfl (o_fieldAddr 1 runUnderlying58 rfl sizeOf29 rfl rfl rfl (gR rfl (o_load_B 0 H isAgg29 rfl rfl rfl rfl (gR rfl (o_call call106 rfl rfl (l11Files_c _ _ H.sub _ _ hr1 _ _ hr6 ) ?_)))))))))
   rintro _ w15 ⟨rfl, ew15⟩; have H := H.step ew15; refine ⟨_, rfl, ?_⟩
   refine gR rfl (o_not rfl rfl (o_pick_f rfl rfl rfl (q3 ?_)))
   refine W_cond rfl ?_ ?_
   ·intro hc16
    try simp only [nrm] at hc16
    refine q2 (aG rfl (q3 (W_ret (N_B_ret (N_K_ret (N_LP_ret (N_B_ret (N_K_ret (rt1 results107 rfl ?_)))))))))
    exact H.rets (congrArg Value.bool (by rw [Sp.l12Snaps, Sp.not_all_range (k := k) oM (by rw [Sp.okS_at hz6]; simp [*] <;> (intros; omega))]; rfl))
   intro hc16'
   try simp only [nrm] at hc16'
   refine W_skip (N_B (N_K (W_region (mV rfl (o_add rfl rfl rfl oO (aG rfl (R_nil ?_)))))))
   have H := H.del (k := 0) rfl
   refine N_lp (hJ := ⟨k + 1, _, rfl, hle4, H, ?inv, rfl⟩) (hm := ?hm)
   case hm => omega
   case inv => exact ⟨by omega, Sp.upto_succ hall (by rw [Sp.okS_at hz6]; simp [*])⟩
  intro hc5'
  try simp only [nrm] at hc5'
  refine W_exit (N_K_exit (N_LP_exit (N_B_same (N_K (q2 (o_fieldAddr 2 runUnderlying32 rfl sizeOf30 rfl rfl rfl (o_load_B 0 H isAgg30 rfl rfl rfl rfl (o_len_slice underlying30 rfl rfl (o_leq rfl rfl rfl (aG rfl (q3 (W_ret (rt1 results107 rfl ?_)))))))))))))
  exact H.rets (congrArg Value.bool (by rw [Sp.l12Snaps, Sp.all_range (fun j hj => hall j oM), Bool.true_and]; rw [Bool.eq_iff_iff]; simp; omega))
end Go.Proofs.Tst

namespace Go.Proofs.Tst
open Go Fw Tryz
theorem DiskValid_c (w0 : World) (G0 : PH) (hG : PSub G0 w0) (cd : List Value) (d : BDisk) (hd : diskE G0 d cd)  :
  Calls Tryz.prog 53 #[.agg cd.toArray] w0 (Rets w0 (.bool (Sp.DiskValid d))) := by
 obtain ⟨a1, m1, c1, a1', m1', c1', a1'', m1'', c1'', rfl, hr1, hr1', hr1''⟩ := hd; have hn_hr1 := hr1.len; have hx_hr1 : _ ≤ 1099511627776 := hr1.lim; have hn_hr1q := hr1'.len; have hx_hr1q : _ ≤ 1099511627776 := hr1'.lim; have hn_hr1qq := hr1''.len; have hx_hr1qq : _ ≤ 1099511627776 := hr1''.lim
 have H := Hp.init hG
 refine calls_of_W (l := [_]) func53 rfl ntmps53 rfl (q2 (o_box H rfl rfl rfl ?_)); intro b2 w2 hb2 H
 refine aG rfl (q3 (W_seq (q2 (o_fieldAddr 0 runUnderlying32 rfl sizeOf28 rfl rfl rfl (o_load_B 0 H isAgg28 rfl rfl rfl rfl (o_call call104 rfl rfl (StoreValid_c _ _ H.sub _ _ hr1 ) ?_))))))
 rintro _ w3 ⟨rfl, ew3⟩; have H := H.step ew3; refine ⟨_, rfl, ?_⟩
 refine o_not rfl rfl (mV rfl ?_)
 refine R_case (t := 8) rfl ?_ ?_
 ·intro hc4
  try simp only [nrm] at hc4
  refine rP rfl (rP rfl (rP rfl (rP rfl (o_pick_t rfl rfl rfl (mV rfl (rP rfl (rP rfl (rP rfl (rP rfl (rP rfl (rP rfl (o_pick_t rfl rfl rfl (mV rfl (rP rfl (rP rfl ?_)))))))))))))))
  refine rP rfl (o_pick_t rfl rfl rfl (q3 (W_true rfl (q2 (aG rfl (q3 (W_ret (N_K_ret (rt1 results53 rfl ?_)))))))))
  exact H.rets (congrArg Value.bool (by simp [Sp.DiskValid, hc4]))
 intro hc4'
 try simp only [nrm] at hc4'
 refine gR rfl (o_fieldAddr 1 runUnderlying32 rfl sizeOf29 rfl rfl rfl (gR rfl (o_load_B 0 H isAgg29 rfl rfl rfl rfl (gR rfl (o_call call105 rfl rfl (TreeValid_c _ _ H.sub _ _ hr1' ) ?_)))))
 rintro _ w5 ⟨rfl, ew5⟩; have H := H.step ew5; refine ⟨_, rfl, ?_⟩
 refine gR rfl (o_not rfl rfl (o_pick_f rfl rfl rfl (mV rfl ?_)))
 refine R_case (t := 14) rfl ?_ ?_
 ·intro hc6
  try simp only [nrm] at hc6
  refine rP rfl (rP rfl (rP rfl (rP rfl (rP rfl (rP rfl (o_pick_t rfl rfl rfl (mV rfl (rP rfl (rP rfl (rP rfl (o_pick_t rfl rfl rfl (q3 (W_true rfl (q2 (aG rfl ?_)))))))))))))))
  refine q3 (W_ret (N_K_ret (rt1 results53 rfl ?_)))
  exact H.rets (congrArg Value.bool (by simp [Sp.DiskValid, hc6]))
 intro hc6'
 try simp only [nrm] at hc6'
 refine gR rfl (o_fieldAddr 0 runUnderlying32 rfl sizeOf28 rfl rfl rfl (gR rfl (o_load_B 0 H isAgg28 rfl rfl rfl rfl (gR rfl (o_fieldAddr 1 runUnderlying32 rfl sizeOf29 rfl rfl rfl (gR rfl (o_load_B 0 H isAgg29 rfl rfl rfl rfl (gR rfl (o_call call106 rfl rfl (l11Files_c _ _ H.sub _ _ hr1 _ _ hr1' ) ?_)))))))))
 rintro _ w7 ⟨rfl, ew7⟩; have H := H.step ew7; refine ⟨_, rfl, ?_⟩
 refine gR rfl (o_not rfl rfl (o_pick_f rfl rfl rfl (mV rfl ?_)))
 refine R_case (t := 22) rfl ?_ ?_
 ·intro hc8
  try simp only [nrm] at hc8
  refine rP rfl (rP rfl (rP rfl (o_pick_t rfl rfl rfl (q3 (W_true rfl (q2 (aG rfl (q3 (W_ret (N_K_ret (rt1 results53 rfl ?_)))))))))))
  exact H.rets (congrArg Value.bool (by simp [Sp.DiskValid, hc8]))
 intro hc8'
 try simp only [nrm] at hc8'
 refine gR rfl (o_loadagg_B 0 H isAgg32 sizeOf32 rfl rfl rfl rfl rfl (gR rfl (o_call call107 rfl rfl (l12Snaps_c _ _ H.sub _ d ⟨_, _, _, _, _, _, _, _, _, rfl, hr1, hr1', hr1''⟩ ) ?_)))
 rintro _ w9 ⟨rfl, ew9⟩; have H := H.step ew9; refine ⟨_, rfl, ?_⟩
 refine gR rfl (o_not rfl rfl (o_pick_f rfl rfl rfl (q3 ?_)))
 refine W_cond rfl ?_ ?_
 ·intro hc10
  try simp only [nrm] at hc10
  refine q2 (aG rfl (q3 (W_ret (N_K_ret (rt1 results53 rfl ?_)))))
  exact H.rets (congrArg Value.bool (by simp [Sp.DiskValid, hc10]))
 intro hc10'
 try simp only [nrm] at hc10'
 refine W_skip (N_K (W_seq (q2 (aG rfl (q3 (W_block ?_))))))
 obtain ⟨ln11, hln11, H⟩ := H.name (k := 0) rfl
 refine W_lp (hf := (Sub.cons (t := 1) rfl Sub.nil)) (J := fun M w m => ∃ (k : Nat) (G : PH), M = [(3, .int .i64 (k : Int))] ∧ PLe G0 G ∧ Hp w0 G0 [] w G [blk b2 (cl ln11 32)] ∧ (k ≤ d.store.length ∧ (d.store.take k).all (Sp.usesD d) = true) ∧ m = (d.store.length - k)) (h0 := ⟨0, _, rfl, PLe.refl _, H, ?inv, rfl⟩) (round := ?round)
 case inv => exact ⟨by omega, by simp⟩
 case round =>
  rintro _ w12 _ ⟨k, G12, rfl, hle12, H, hinv12, rfl⟩
  subst hln11
  have hr1 := hr1.up hle12
  have hr1' := hr1'.up hle12
  have hr1'' := hr1''.up hle12
  obtain ⟨hk, hall⟩ := hinv12
  refine W_seq (q2 (mV rfl (o_fieldAddr 0 runUnderlying32 rfl sizeOf28 rfl rfl rfl (o_load_B 0 H isAgg28 rfl rfl rfl rfl (o_len_slice underlying28 rfl rfl (o_lss rfl rfl rfl (q3 ?_)))))))
  refine W_cond rfl ?_ ?_
  ·intro hc13
   try simp only [nrm] at hc13
   refine W_skip (N_K (W_seq (W_block (W_seq (W_drawK [0] 15 H kR rfl ?_))))); intro w14 H; have hd14 := PLe.refl G12
   refine RD_t 0 rfl kR rfl (fun _ hK => v_loadagg_B 0 hK isAgg32 sizeOf32 rfl rfl rfl rfl) (RD_t 1 rfl kR rfl (fun _ hK => v_fieldAddr 0 runUnderlying32 rfl sizeOf28 rfl rfl) (RD_t 2 rfl kR rfl (fun _ hK => v_load_B 0 hK isAgg28 rfl rfl rfl) (vM 3 rfl rfl ?_)))
   have hl15 := hr1.len
   obtain ⟨b15, o15, z15, q15, ha15, hz15, hq15, hE15, hrow15, _⟩ := hr1.at (i := k) oM
   clear hq15
   obtain ⟨a15, m15, c15, rfl, hi15, hr15, hj15⟩ := hE15; have hn_hr15 := hr15.len; have hx_hr15 : _ ≤ 1099511627776 := hr15.lim
   refine RD_t 4 rfl kR rfl (fun _ hK => v_index_P (i := k) ha15 underlying28 sizeOf131 rfl rfl rfl oM) (RD_t 5 rfl kR rfl (fun _ hK => v_fieldAddr 0 runUnderlying131 rfl sizeOf3 rfl rfl) (RD_t 6 rfl kR rfl (fun _ hK => v_load_P hK isAgg3 rfl (hrow15 0 _ rfl)) (RD_t 8 rfl kR rfl (fun _ hK => v_fieldAddr 0 runUnderlying32 rfl sizeOf28 rfl rfl) (RD_t 9 rfl kR rfl (fun _ hK => v_load_B 0 hK isAgg28 rfl rfl rfl) (vM 10 rfl rfl ?_)))))
   have hl16 := hr1.len
   obtain ⟨b16, o16, z16, q16, ha16, hz16, hq16, hE16, hrow16, _⟩ := hr1.at (i := k) oM
   clear hq16
   obtain ⟨a16, m16, c16, rfl, hi16, hr16, hj16⟩ := hE16; have hn_hr16 := hr16.len; have hx_hr16 : _ ≤ 1099511627776 := hr16.lim
   have hzz16 : z15 = z16 := Option.some.inj (hz15.symm.trans hz16)
   subst hzz16
   refine RD_t 11 rfl kR rfl (fun _ hK => v_index_P (i := k) ha16 underlying28 sizeOf131 rfl rfl rfl oM) (RD_t 12 rfl kR rfl (fun _ hK => v_fieldAddr 2 runUnderlying131 rfl sizeOf3 rfl rfl) (RD_t 13 rfl kR rfl (fun _ hK => v_load_P hK isAgg3 rfl (hrow16 2 _ rfl)) ?_))
   refine RD_run [7] kR rfl (RDs.cons rfl ?_ RDs.nil)
   refine o_call call108 rfl rfl (l12Count_c _ _ H.sub _ d ⟨_, _, _, _, _, _, _, _, _, rfl, hr1, hr1', hr1''⟩ _ hc6' hc10') ?_
   rintro _ w17 ⟨rfl, ew17⟩; have H := H.step ew17; refine ⟨_, rfl, ?_⟩
   refine R_nil (N_DK (Kn.of' H hd14 (SubL.cons 0 rfl SubL.nil)) (RD_t 14 rfl kR rfl (fun _ hK => v_neq rfl rfl) (RD_done kR (N_K ?_))))
   refine W_cond rfl ?_ ?_
   ·intro hc18
    try simp only [nrm] at hc18
    refine q2 (aG rfl (q3 (W_ret (N_B_ret (N_K_ret (N_LP_ret (N_B_ret (N_K_ret (rt1 results53 rfl ?_)))))))))
    exact H.rets (congrArg Value.bool (by rw [Sp.DiskValid, Sp.all_false hz15 (by simp [Sp.usesD, *])]; rfl))
   intro hc18'
   try simp only [nrm] at hc18'
   refine W_skip (N_B (N_K (W_region (mV rfl (o_add rfl rfl rfl oO (aG rfl (R_nil ?_)))))))
   refine N_lp (hJ := ⟨k + 1, _, rfl, hle12, H, ?inv, rfl⟩) (hm := ?hm)
   case hm => omega
   case inv => exact ⟨by omega, Sp.all_take hall hz15 (by simp [Sp.usesD, *])⟩
  intro hc13'
  try simp only [nrm] at hc13'
  refine W_exit (N_K_exit (N_LP_exit (N_B_same (N_K (q2 (aG rfl (q3 (W_ret (rt1 results53 rfl ?_)))))))))
  obtain rfl : k = d.store.length := by omega
  rw [List.take_length] at hall
  exact H.rets (congrArg Value.bool (by simp [Sp.DiskValid, hall, hc4', hc6', hc8', hc10']))
end Go.Proofs.Tst

namespace Go.Proofs.Tst
open Go Fw Tryz
theorem l12Copy_c (w0 : World) (G0 : PH) (hG : PSub G0 w0) (cd : List Value) (d : BDisk) (hd : diskE G0 d cd)  :
  Calls Tryz.prog 54 #[.agg cd.toArray] w0 (RetO w0 G0 (fun G val r => ∃ u u1 u2, val = .agg #[u, u1, u2] ∧ AccOf snapE 2 58 d.snaps G u2 r ∧ RdH G u d.store ∧ RdItems G u1 d.tree)) := by
 obtain ⟨a1, m1, c1, a1', m1', c1', a1'', m1'', c1'', rfl, hr1, hr1', hr1''⟩ := hd; have hn_hr1 := hr1.len; have hx_hr1 : _ ≤ 1099511627776 := hr1.lim; have hn_hr1q := hr1'.len; have hx_hr1q : _ ≤ 1099511627776 := hr1'.lim; have hn_hr1qq := hr1''.len; have hx_hr1qq : _ ≤ 1099511627776 := hr1''.lim
 have H := Hp.init hG
 refine calls_of_W (l := [_]) func54 rfl ntmps54 rfl (q2 (o_box H rfl rfl rfl ?_)); intro b2 w2 hb2 H
 refine o_alloc H zeroValue32 rfl rfl ?_; intro b3 w3 hb3 H
 refine q3 (W_seq (W_drawK [0, 1] 10 H kR rfl ?_)); intro w4 H; have hd4 := PLe.refl G0
 refine RD_t 0 rfl kR rfl (fun _ hK => v_fieldAddr 0 runUnderlying32 rfl sizeOf28 rfl rfl) (RD_t 1 rfl kR rfl (fun _ hK => v_load_B 1 hK isAgg28 rfl rfl rfl) (RD_t 3 rfl kR rfl (fun _ hK => v_fieldAddr 1 runUnderlying32 rfl sizeOf29 rfl rfl) (RD_t 4 rfl kR rfl (fun _ hK => v_load_B 1 hK isAgg29 rfl rfl rfl) ?_)))
 refine RD_run [2, 6, 8] kR rfl (RDs.cons rfl ?_ (RDs.cons rfl ?_ (RDs.cons rfl ?_ RDs.nil)))
 ·skip
  refine o_call call109 rfl rfl (l3Copy_c _ _ H.sub _ _ hr1 ) ?_
  rintro _ w5 ⟨G5, v5, _, g5, rfl, ⟨cs5, rfl, hchk5⟩, hp5, hq5, hs5⟩
  have H := H.growO g5 hp5 hq5 hs5; obtain ⟨av5, cv5, rfl⟩ := H.accShape (k := 0) rfl
  have hr1' := hr1'.up g5.le
  have hr1'' := hr1''.up g5.le
  have hd4 := hd4.trans g5.le
  refine ⟨_, rfl, ?_⟩
  refine R_nil (N_DK (Kn.of' H hd4 (SubL.cons 1 rfl (SubL.cons 2 rfl SubL.nil))) ?_)
  refine RD_run [5, 6, 8] kR rfl (RDs.cons rfl ?_ (RDs.cons rfl ?_ (RDs.cons rfl ?_ RDs.nil)))
  ·skip
   refine o_call call87 rfl rfl (l5All_c _ _ H.sub _ _ hr1' ) ?_
   rintro _ w6 ⟨G6, v6, _, g6, rfl, ⟨cs6, rfl, hchk6⟩, hp6, hq6, hs6⟩
   have H := H.growO g6 hp6 hq6 hs6; obtain ⟨av6, cv6, rfl⟩ := H.accShape (k := 0) rfl
   have hr1'' := hr1''.up g6.le
   have hchk5 := hchk5.up g6.le
   have hd4 := hd4.trans g6.le
   refine ⟨_, rfl, ?_⟩
   refine R_nil (N_DK (Kn.of' H hd4 (SubL.cons 2 rfl (SubL.cons 3 rfl SubL.nil))) ?_)
   refine RD_run [6, 8] kR rfl (RDs.cons rfl ?_ (RDs.cons rfl ?_ RDs.nil))
   ·skip
    refine o_buildSlice H underlying30 sizeOf58 (fun w => ⟨_, zeroValue58 w, rfl⟩) rfl rfl rfl rfl rfl rfl rfl ?_; intro b7 w7 hb7 H
    have H := H.blkAcc 2 (k := 0) (n := 0) rfl rfl (by decide)
    refine R_nil (N_DK (Kn.of' H hd4 (SubL.cons 3 rfl (SubL.cons 4 rfl SubL.nil))) (RD_t 7 rfl kR rfl (fun _ hK => v_build bf32 rfl rfl) ?_))
    refine RD_run [8] kR rfl (RDs.cons rfl ?_ RDs.nil)
    refine o_alloc H zeroValue32 rfl rfl ?_; intro b8 w8 hb8 H
    refine R_nil (N_DK (Kn.of' H hd4 (SubL.cons 4 rfl (SubL.cons 5 rfl SubL.nil))) ?_)
    refine RD_run [9] kR rfl (RDs.cons rfl ?_ RDs.nil)
    refine o_store_B 0 H sizeOf32 rfl rfl rfl rfl rfl rfl rfl rfl ?_; intro w9 H
    refine R_nil (N_DKlast kR kR (N_K (W_seq (q2 (aG rfl (q3 (W_block ?_)))))))
    obtain ⟨G10, H, hsg10, hsr10⟩ := H.shut' (k := 3) rfl hchk5 aN aN
    have hr1'' := hr1''.up hsg10
    have hchk6 := hchk6.up hsg10
    obtain ⟨G11, H, hsg11, hsr11⟩ := H.shut' (k := 2) rfl hchk6 aN aN
    have hr1'' := hr1''.up hsg11
    have hsr10 := hsr10.up hsg11
    obtain ⟨ln12, hln12, H⟩ := H.nameAt (k := 0) (off := 2) rfl rfl
    obtain ⟨ln13, hln13, H⟩ := H.name (k := 2) rfl
    obtain ⟨ln14, hln14, H⟩ := H.name (k := 3) rfl
    refine W_lp (hf := (Sub.cons (t := 1) rfl (Sub.cons (t := 2) rfl (Sub.cons (t := 3) rfl Sub.nil)))) (J := fun M w m => ∃ (v : Value) (n : Nat) (cs : List Value) (xs : List (BSnap)) (k : Nat) (G : PH), M = [(4, .int .i64 (k : Int))] ∧ PLe G11 G ∧ Hp w0 G0 [] w G [blk b8 (cl (setN ln12 2 v) 32), acc 58 2 v n cs, blk b3 (cl ln13 32), blk b2 (cl ln14 32)] ∧ (Chk snapE 2 G cs xs ∧ n = xs.length ∧ k ≤ d.snaps.length ∧ xs.length = k ∧ xs = d.snaps.take k) ∧ m = (d.snaps.length - k)) (h0 := ⟨_, _, _, [], 0, _, rfl, PLe.refl _, H, ?inv, rfl⟩) (round := ?round)
    case inv => exact ⟨(Chk.nil (E := snapE) (sz := 2) (G := G11)),  by first | rfl | simp | (simp; omega) | omega, (by simp)⟩
    case round =>
     rintro _ w15 _ ⟨v, n, cs, xs, k, G15, rfl, hle15, H, hinv15, rfl⟩
     subst hln12
     subst hln13
     subst hln14
     have hr1'' := hr1''.up hle15
     have hsr10 := hsr10.up hle15
     have hsr11 := hsr11.up hle15
     obtain ⟨hchk15_0, hn15_0, hinv15⟩ := hinv15
     obtain ⟨av15_0, cv15_0, rfl⟩ := H.accShape (k := 1) rfl
     obtain ⟨hk, hxl, hxs⟩ := hinv15
     refine W_seq (q2 (mV rfl (o_fieldAddr 2 runUnderlying32 rfl sizeOf30 rfl rfl rfl (o_load_B 3 H isAgg30 rfl rfl rfl rfl (o_len_slice underlying30 rfl rfl (o_lss rfl rfl rfl (q3 ?_)))))))
     refine W_cond rfl ?_ ?_
     ·intro hc16
      try simp only [nrm] at hc16
      refine W_skip (N_K (W_seq (W_block (W_drawK [0, 2, 3] 20 H kR rfl ?_)))); intro w17 H; have hd17 := PLe.refl G15
      refine RD_t 0 rfl kR rfl (fun _ hK => v_fieldAddr 2 runUnderlying32 rfl sizeOf30 rfl rfl) (RD_t 1 rfl kR rfl (fun _ hK => v_load_B 0 hK isAgg30 rfl rfl rfl) (RD_t 2 rfl kR rfl (fun _ hK => v_fieldAddr 2 runUnderlying32 rfl sizeOf30 rfl rfl) (RD_t 3 rfl kR rfl (fun _ hK => v_load_B 2 hK isAgg30 rfl rfl rfl) (vM 4 rfl rfl ?_))))
      have hl18 := hr1''.len
      obtain ⟨b18, o18, z18, q18, ha18, hz18, hq18, hE18, hrow18, _⟩ := hr1''.at (i := k) oM
      clear hq18
      obtain ⟨a18, m18, c18, rfl, hi18, hr18⟩ := hE18; have hy_hi18 : _ ≤ 16777216 := hi18; have hn_hr18 := hr18.len; have hx_hr18 : _ ≤ 1099511627776 := hr18.lim
      refine RD_t 5 rfl kR rfl (fun _ hK => v_index_P (i := k) ha18 underlying30 sizeOf58 rfl rfl rfl oM) (RD_t 6 rfl kR rfl (fun _ hK => v_fieldAddr 0 runUnderlying58 rfl sizeOf9 rfl rfl) (RD_t 7 rfl kR rfl (fun _ hK => v_load_P hK isAgg9 rfl (hrow18 0 _ rfl)) (RD_t 8 rfl kR rfl (fun _ hK => v_fieldAddr 2 runUnderlying32 rfl sizeOf30 rfl rfl) (RD_t 9 rfl kR rfl (fun _ hK => v_load_B 2 hK isAgg30 rfl rfl rfl) (vM 10 rfl rfl ?_)))))
      have hl19 := hr1''.len
      obtain ⟨b19, o19, z19, q19, ha19, hz19, hq19, hE19, hrow19, _⟩ := hr1''.at (i := k) oM
      clear hq19
      obtain ⟨a19, m19, c19, rfl, hi19, hr19⟩ := hE19; have hy_hi19 : _ ≤ 16777216 := hi19; have hn_hr19 := hr19.len; have hx_hr19 : _ ≤ 1099511627776 := hr19.lim
      have hzz19 : z18 = z19 := Option.some.inj (hz18.symm.trans hz19)
      subst hzz19
      refine RD_t 11 rfl kR rfl (fun _ hK => v_index_P (i := k) ha19 underlying30 sizeOf58 rfl rfl rfl oM) (RD_t 12 rfl kR rfl (fun _ hK => v_fieldAddr 1 runUnderlying58 rfl sizeOf29 rfl rfl) (RD_t 13 rfl kR rfl (fun _ hK => v_load_P hK isAgg29 rfl (hrow19 1 _ rfl)) ?_))
      refine RD_run [14] kR rfl (RDs.cons rfl ?_ RDs.nil)
      refine o_call call87 rfl rfl (l5All_c _ _ H.sub _ _ hr19 ) ?_
      rintro _ w20 ⟨G20, v20, _, g20, rfl, ⟨cs20, rfl, hchk20⟩, hp20, hq20, hs20⟩
      have H := H.growO g20 hp20 hq20 hs20; obtain ⟨av20, cv20, rfl⟩ := H.accShape (k := 0) rfl
      have hchk15_0 := hchk15_0.up g20.le
      have hle15 := hle15.trans g20.le
      have hd17 := hd17.trans g20.le
      refine ⟨_, rfl, ?_⟩
      refine R_nil (N_DK (Kn.of' H hd17 (SubL.cons 1 rfl (SubL.cons 3 rfl (SubL.cons 4 rfl SubL.nil)))) (RD_t 15 rfl kR rfl (fun _ hK => v_build bf58 rfl rfl) ?_))
      refine RD_run [16] kR rfl (RDs.cons rfl ?_ RDs.nil)
      refine o_buildSlice H underlying30 sizeOf58 (fun w => ⟨_, zeroValue58 w, rfl⟩) rfl rfl rfl rfl rfl rfl rfl ?_; intro b21 w21 hb21 H
      refine R_nil (N_DK (Kn.of' H hd17 (SubL.cons 2 rfl (SubL.cons 4 rfl (SubL.cons 5 rfl SubL.nil)))) ?_)
      refine RD_run [17] kR rfl (RDs.cons rfl ?_ RDs.nil)
      refine o_append1 2 H (sz := 2) (bytes := 40) underlying30 typeInfo58 ⟨_, rfl, rfl⟩ rfl rfl rfl rfl rfl rfl rfl rfl rfl rfl oM rfl ?_; intro v22 w22 H
      obtain ⟨G23, H, hsg23, hsr23⟩ := H.shut' (k := 0) rfl hchk20 aN aN
      have hchk15_0 := hchk15_0.up hsg23
      have hle15 := hle15.trans hsg23
      have hd17 := hd17.trans hsg23
      have hchk22 := hchk15_0.snoc (show snapE _ ⟨z18.name, z18.tree⟩ _ from ⟨_, _, _, rfl, hi18, hsr23⟩) rfl
      obtain ⟨av22, cv22, rfl⟩ := H.accShape (k := 1) rfl
      refine R_nil (N_DK (Kn.of' H hd17 (SubL.cons 0 rfl (SubL.cons 2 rfl (SubL.cons 3 rfl SubL.nil)))) (RD_t 18 rfl kR rfl (fun _ hK => v_fieldAddr 2 runUnderlying32 rfl sizeOf30 rfl rfl) ?_))
      refine RD_run [19] kR rfl (RDs.cons rfl ?_ RDs.nil)
      refine o_store_B 0 H sizeOf30 rfl rfl rfl rfl rfl rfl rfl rfl ?_; intro w24 H
      refine R_nil (N_DKlast kR kR (N_B (N_K (W_region (mV rfl (o_add rfl rfl rfl oO (aG rfl (R_nil ?_))))))))
      refine N_lp (hJ := ⟨_, _, _, (xs ++ [⟨z18.name, z18.tree⟩]), k + 1, _, rfl, hle15, H, ?inv, rfl⟩) (hm := ?hm)
      case hm => omega
      case inv => exact ⟨hchk22, aN, (by exact ⟨by omega, by simp [hxl], by rw [Sp.take_succ' hz18, hxs]⟩)⟩
     intro hc16'
     try simp only [nrm] at hc16'
     refine W_exit (N_K_exit (N_LP_exit (N_B_same (N_K (q2 (o_loadagg_B 0 H isAgg32 sizeOf32 rfl rfl rfl rfl rfl (o_store_B 2 H sizeOf32 rfl rfl rfl rfl rfl rfl rfl rfl ?_))))))); intro w26 H
     refine q3 (W_ret (ret_gen (rs := [.cell 2 32]) (vs := [_]) results54 ⟨⟨_, rfl, load_blk 2 H isAgg32 sizeOf32 rfl rfl rfl⟩, trivial⟩ ?_))
     obtain rfl : k = d.snaps.length := by omega
     rw [List.take_length] at hxs
     subst hxs
     exact H.retO (k := 1) rfl ⟨_, _, _, rfl, AccOf.mk aN hchk15_0, hsr10, hsr11⟩ (acc_nd _ _ _ _ _)
   skip
   refine o_alloc H zeroValue32 rfl rfl ?_; intro b27 w27 hb27 H
   refine R_nil (N_DK (Kn.of' H hd4 (SubL.cons 3 rfl (SubL.cons 4 rfl SubL.nil))) ?_)
   refine RD_run [6] kR rfl (RDs.cons rfl ?_ RDs.nil)
   refine o_buildSlice H underlying30 sizeOf58 (fun w => ⟨_, zeroValue58 w, rfl⟩) rfl rfl rfl rfl rfl rfl rfl ?_; intro b28 w28 hb28 H
   have H := H.blkAcc 2 (k := 0) (n := 0) rfl rfl (by decide)
   refine R_nil (N_DK (Kn.of' H hd4 (SubL.cons 4 rfl (SubL.cons 5 rfl SubL.nil))) (RD_t 7 rfl kR rfl (fun _ hK => v_build bf32 rfl rfl) ?_))
   refine RD_run [9] kR rfl (RDs.cons rfl ?_ RDs.nil)
   refine o_store_B 1 H sizeOf32 rfl rfl rfl rfl rfl rfl rfl rfl ?_; intro w29 H
   refine R_nil (N_DKlast kR kR (N_K (W_seq (q2 (aG rfl (q3 (W_block ?_)))))))
   obtain ⟨G30, H, hsg30, hsr30⟩ := H.shut' (k := 3) rfl hchk5 aN aN
   have hr1'' := hr1''.up hsg30
   have hchk6 := hchk6.up hsg30
   obtain ⟨G31, H, hsg31, hsr31⟩ := H.shut' (k := 2) rfl hchk6 aN aN
   have hr1'' := hr1''.up hsg31
   have hsr30 := hsr30.up hsg31
   obtain ⟨ln32, hln32, H⟩ := H.nameAt (k := 1) (off := 2) rfl rfl
   obtain ⟨ln33, hln33, H⟩ := H.name (k := 2) rfl
   obtain ⟨ln34, hln34, H⟩ := H.name (k := 3) rfl
   refine W_lp (hf := (Sub.cons (t := 1) rfl (Sub.cons (t := 2) rfl (Sub.cons (t := 3) rfl Sub.nil)))) (J := fun M w m => ∃ (v : Value) (n : Nat) (cs : List Value) (xs : List (BSnap)) (k : Nat) (G : PH), M = [(4, .int .i64 (k : Int))] ∧ PLe G31 G ∧ Hp w0 G0 [] w G [acc 58 2 v n cs, blk b27 (cl (setN ln32 2 v) 32), blk b3 (cl ln33 32), blk b2 (cl ln34 32)] ∧ (Chk snapE 2 G cs xs ∧ n = xs.length ∧ k ≤ d.snaps.length ∧ xs.length = k ∧ xs = d.snaps.take k) ∧ m = (d.snaps.length - k)) (h0 := ⟨_, _, _, [], 0, _, rfl, PLe.refl _, H, ?inv, rfl⟩) (round := ?round)
   case inv => exact ⟨(Chk.nil (E := snapE) (sz := 2) (G := G31)),  by first | rfl | simp | (simp; omega) | omega, (by simp)⟩
   case round =>
    rintro _ w35 _ ⟨v, n, cs, xs, k, G35, rfl, hle35, H, hinv35, rfl⟩
    subst hln32
    subst hln33
    subst hln34
    have hr1'' := hr1''.up hle35
    have hsr30 := hsr30.up hle35
    have hsr31 := hsr31.up hle35
    obtain ⟨hchk35_0, hn35_0, hinv35⟩ := hinv35
    obtain ⟨av35_0, cv35_0, rfl⟩ := H.accShape (k := 0) rfl
    obtain ⟨hk, hxl, hxs⟩ := hinv35
    refine W_seq (q2 (mV rfl (o_fieldAddr 2 runUnderlying32 rfl sizeOf30 rfl rfl rfl (o_load_B 3 H isAgg30 rfl rfl rfl rfl (o_len_slice underlying30 rfl rfl (o_lss rfl rfl rfl (q3 ?_)))))))
    refine W_cond rfl ?_ ?_
    ·intro hc36
     try simp only [nrm] at hc36
     refine W_skip (N_K (W_seq (W_block (W_drawK [1, 2, 3] 20 H kR rfl ?_)))); intro w37 H; have hd37 := PLe.refl G35
     refine RD_t 0 rfl kR rfl (fun _ hK => v_fieldAddr 2 runUnderlying32 rfl sizeOf30 rfl rfl) (RD_t 1 rfl kR rfl (fun _ hK => v_load_B 0 hK isAgg30 rfl rfl rfl) (RD_t 2 rfl kR rfl (fun _ hK => v_fieldAddr 2 runUnderlying32 rfl sizeOf30 rfl rfl) (RD_t 3 rfl kR rfl (fun _ hK => v_load_B 2 hK isAgg30 rfl rfl rfl) (vM 4 rfl rfl ?_))))
     have hl38 := hr1''.len
     obtain ⟨b38, o38, z38, q38, ha38, hz38, hq38, hE38, hrow38, _⟩ := hr1''.at (i := k) oM
     clear hq38
     obtain ⟨a38, m38, c38, rfl, hi38, hr38⟩ := hE38; have hy_hi38 : _ ≤ 16777216 := hi38; have hn_hr38 := hr38.len; have hx_hr38 : _ ≤ 1099511627776 := hr38.lim
     refine RD_t 5 rfl kR rfl (fun _ hK => v_index_P (i := k) ha38 underlying30 sizeOf58 rfl rfl rfl oM) (RD_t 6 rfl kR rfl (fun _ hK => v_fieldAddr 0 runUnderlying58 rfl sizeOf9 rfl rfl) (RD_t 7 rfl kR rfl (fun _ hK => v_load_P hK isAgg9 rfl (hrow38 0 _ rfl)) (RD_t 8 rfl kR rfl (fun _ hK => v_fieldAddr 2 runUnderlying32 rfl sizeOf30 rfl rfl) (RD_t 9 rfl kR rfl (fun _ hK => v_load_B 2 hK isAgg30 rfl rfl rfl) (vM 10 rfl rfl ?_)))))
     have hl39 := hr1''.len
     obtain ⟨b39, o39, z39, q39, ha39, hz39, hq39, hE39, hrow39, _⟩ := hr1''.at (i := k) oM
     clear hq39
     obtain ⟨a39, m39, c39, rfl, hi39, hr39⟩ := hE39; have hy_hi39 : _ ≤ 16777216 := hi39; have hn_hr39 := hr39.len; have hx_hr39 : _ ≤ 1099511627776 := hr39.lim
     have hzz39 : z38 = z39 := Option.some.inj (hz38.symm.trans hz39)
     subst hzz39
     refine RD_t 11 rfl kR rfl (fun _ hK => v_index_P (i := k) ha39 underlying30 sizeOf58 rfl rfl rfl oM) (RD_t 12 rfl kR rfl (fun _ hK => v_fieldAddr 1 runUnderlying58 rfl sizeOf29 rfl rfl) (RD_t 13 rfl kR rfl (fun _ hK => v_load_P hK isAgg29 rfl (hrow39 1 _ rfl)) ?_))
     refine RD_run [14] kR rfl (RDs.cons rfl ?_ RDs.nil)
     refine o_call call87 rfl rfl (l5All_c _ _ H.sub _ _ hr39 ) ?_
     rintro _ w40 ⟨G40, v40, _, g40, rfl, ⟨cs40, rfl, hchk40⟩, hp40, hq40, hs40⟩
     have H := H.growO g40 hp40 hq40 hs40; obtain ⟨av40, cv40, rfl⟩ := H.accShape (k := 0) rfl
     have hchk35_0 := hchk35_0.up g40.le
     have hle35 := hle35.trans g40.le
     have hd37 := hd37.trans g40.le
     refine ⟨_, rfl, ?_⟩
     refine R_nil (N_DK (Kn.of' H hd37 (SubL.cons 2 rfl (SubL.cons 3 rfl (SubL.cons 4 rfl SubL.nil)))) (RD_t 15 rfl kR rfl (fun _ hK => v_build bf58 rfl rfl) ?_))
     refine RD_run [16] kR rfl (RDs.cons rfl ?_ RDs.nil)
     refine o_buildSlice H underlying30 sizeOf58 (fun w => ⟨_, zeroValue58 w, rfl⟩) rfl rfl rfl rfl rfl rfl rfl ?_; intro b41 w41 hb41 H
     refine R_nil (N_DK (Kn.of' H hd37 (SubL.cons 3 rfl (SubL.cons 4 rfl (SubL.cons 5 rfl SubL.nil)))) ?_)
     refine RD_run [17] kR rfl (RDs.cons rfl ?_ RDs.nil)
     refine o_append1 1 H (sz := 2) (bytes := 40) underlying30 typeInfo58 ⟨_, rfl, rfl⟩ rfl rfl rfl rfl rfl rfl rfl rfl rfl rfl oM rfl ?_; intro v42 w42 H
     obtain ⟨G43, H, hsg43, hsr43⟩ := H.shut' (k := 0) rfl hchk40 aN aN
     have hchk35_0 := hchk35_0.up hsg43
     have hle35 := hle35.trans hsg43
     have hd37 := hd37.trans hsg43
     have hchk42 := hchk35_0.snoc (show snapE _ ⟨z38.name, z38.tree⟩ _ from ⟨_, _, _, rfl, hi38, hsr43⟩) rfl
     obtain ⟨av42, cv42, rfl⟩ := H.accShape (k := 0) rfl
     refine R_nil (N_DK (Kn.of' H hd37 (SubL.cons 1 rfl (SubL.cons 2 rfl (SubL.cons 3 rfl SubL.nil)))) (RD_t 18 rfl kR rfl (fun _ hK => v_fieldAddr 2 runUnderlying32 rfl sizeOf30 rfl rfl) ?_))
     refine RD_run [19] kR rfl (RDs.cons rfl ?_ RDs.nil)
     refine o_store_B 1 H sizeOf30 rfl rfl rfl rfl rfl rfl rfl rfl ?_; intro w44 H
     refine R_nil (N_DKlast kR kR (N_B (N_K (W_region (mV rfl (o_add rfl rfl rfl oO (aG rfl (R_nil ?_))))))))
     refine N_lp (hJ := ⟨_, _, _, (xs ++ [⟨z38.name, z38.tree⟩]), k + 1, _, rfl, hle35, H, ?inv, rfl⟩) (hm := ?hm)
     case hm => omega
     case inv => exact ⟨hchk42, aN, (by exact ⟨by omega, by simp [hxl], by rw [Sp.take_succ' hz38, hxs]⟩)⟩
    intro hc36'
    try simp only [nrm] at hc36'
    refine W_exit (N_K_exit (N_LP_exit (N_B_same (N_K (q2 (o_loadagg_B 1 H isAgg32 sizeOf32 rfl rfl rfl rfl rfl (o_store_B 2 H sizeOf32 rfl rfl rfl rfl rfl rfl rfl rfl ?_))))))); intro w46 H
    refine q3 (W_ret (ret_gen (rs := [.cell 2 32]) (vs := [_]) results54 ⟨⟨_, rfl, load_blk 2 H isAgg32 sizeOf32 rfl rfl rfl⟩, trivial⟩ ?_))
    obtain rfl : k = d.snaps.length := by omega
    rw [List.take_length] at hxs
    subst hxs
    exact H.retO (k := 0) rfl ⟨_, _, _, rfl, AccOf.mk aN hchk35_0, hsr30, hsr31⟩ (acc_nd _ _ _ _ _)
  ·skip
   refine o_buildSlice H underlying30 sizeOf58 (fun w => ⟨_, zeroValue58 w, rfl⟩) rfl rfl rfl rfl rfl rfl rfl ?_; intro b47 w47 hb47 H
   have H := H.blkAcc 2 (k := 0) (n := 0) rfl rfl (by decide)
   refine R_nil (N_DK (Kn.of' H hd4 (SubL.cons 2 rfl (SubL.cons 3 rfl SubL.nil))) ?_)
   refine RD_run [5, 8] kR rfl (RDs.cons rfl ?_ (RDs.cons rfl ?_ RDs.nil))
   ·skip
    refine o_call call87 rfl rfl (l5All_c _ _ H.sub _ _ hr1' ) ?_
    rintro _ w48 ⟨G48, v48, _, g48, rfl, ⟨cs48, rfl, hchk48⟩, hp48, hq48, hs48⟩
    have H := H.growO g48 hp48 hq48 hs48; obtain ⟨av48, cv48, rfl⟩ := H.accShape (k := 0) rfl
    have hr1'' := hr1''.up g48.le
    have hchk5 := hchk5.up g48.le
    have hd4 := hd4.trans g48.le
    refine ⟨_, rfl, ?_⟩
    refine R_nil (N_DK (Kn.of' H hd4 (SubL.cons 3 rfl (SubL.cons 4 rfl SubL.nil))) (RD_t 7 rfl kR rfl (fun _ hK => v_build bf32 rfl rfl) ?_))
    refine RD_run [8] kR rfl (RDs.cons rfl ?_ RDs.nil)
    refine o_alloc H zeroValue32 rfl rfl ?_; intro b49 w49 hb49 H
    refine R_nil (N_DK (Kn.of' H hd4 (SubL.cons 4 rfl (SubL.cons 5 rfl SubL.nil))) ?_)
    refine RD_run [9] kR rfl (RDs.cons rfl ?_ RDs.nil)
    refine o_store_B 0 H sizeOf32 rfl rfl rfl rfl rfl rfl rfl rfl ?_; intro w50 H
    refine R_nil (N_DKlast kR kR (N_K (W_seq (q2 (aG rfl (q3 (W_block ?_)))))))
    obtain ⟨G51, H, hsg51, hsr51⟩ := H.shut' (k := 3) rfl hchk5 aN aN
    have hr1'' := hr1''.up hsg51
    have hchk48 := hchk48.up hsg51
    obtain ⟨G52, H, hsg52, hsr52⟩ := H.shut' (k := 1) rfl hchk48 aN aN
    have hr1'' := hr1''.up hsg52
    have hsr51 := hsr51.up hsg52
    obtain ⟨ln53, hln53, H⟩ := H.nameAt (k := 0) (off := 2) rfl rfl
    obtain ⟨ln54, hln54, H⟩ := H.name (k := 2) rfl
    obtain ⟨ln55, hln55, H⟩ := H.name (k := 3) rfl
    refine W_lp (hf := (Sub.cons (t := 1) rfl (Sub.cons (t := 2) rfl (Sub.cons (t := 3) rfl Sub.nil)))) (J := fun M w m => ∃ (v : Value) (n : Nat) (cs : List Value) (xs : List (BSnap)) (k : Nat) (G : PH), M = [(4, .int .i64 (k : Int))] ∧ PLe G52 G ∧ Hp w0 G0 [] w G [blk b49 (cl (setN ln53 2 v) 32), acc 58 2 v n cs, blk b3 (cl ln54 32), blk b2 (cl ln55 32)] ∧ (Chk snapE 2 G cs xs ∧ n = xs.length ∧ k ≤ d.snaps.length ∧ xs.length = k ∧ xs = d.snaps.take k) ∧ m = (d.snaps.length - k)) (h0 := ⟨_, _, _, [], 0, _, rfl, PLe.refl _, H, ?inv, rfl⟩) (round := ?round)
    case inv => exact ⟨(Chk.nil (E := snapE) (sz := 2) (G := G52)),  by first | rfl | simp | (simp; omega) | omega, (by simp)⟩
    case round =>
     rintro _ w56 _ ⟨v, n, cs, xs, k, G56, rfl, hle56, H, hinv56, rfl⟩
     subst hln53
     subst hln54
     subst hln55
     have hr1'' := hr1''.up hle56
     have hsr51 := hsr51.up hle56
     have hsr52 := hsr52.up hle56
     obtain ⟨hchk56_0, hn56_0, hinv56⟩ := hinv56
     obtain ⟨av56_0, cv56_0, rfl⟩ := H.accShape (k := 1) rfl
     obtain ⟨hk, hxl, hxs⟩ := hinv56
     refine W_seq (q2 (mV rfl (o_fieldAddr 2 runUnderlying32 rfl sizeOf30 rfl rfl rfl (o_load_B 3 H isAgg30 rfl rfl rfl rfl (o_len_slice underlying30 rfl rfl (o_lss rfl rfl rfl (q3 ?_)))))))
     refine W_cond rfl ?_ ?_
     ·intro hc57
      try simp only [nrm] at hc57
      refine W_skip (N_K (W_seq (W_block (W_drawK [0, 2, 3] 20 H kR rfl ?_)))); intro w58 H; have hd58 := PLe.refl G56
      refine RD_t 0 rfl kR rfl (fun _ hK => v_fieldAddr 2 runUnderlying32 rfl sizeOf30 rfl rfl) (RD_t 1 rfl kR rfl (fun _ hK => v_load_B 0 hK isAgg30 rfl rfl rfl) (RD_t 2 rfl kR rfl (fun _ hK => v_fieldAddr 2 runUnderlying32 rfl sizeOf30 rfl rfl) (RD_t 3 rfl kR rfl (fun _ hK => v_load_B 2 hK isAgg30 rfl rfl rfl) (vM 4 rfl rfl ?_))))
      have hl59 := hr1''.len
      obtain ⟨b59, o59, z59, q59, ha59, hz59, hq59, hE59, hrow59, _⟩ := hr1''.at (i := k) oM
      clear hq59
      obtain ⟨a59, m59, c59, rfl, hi59, hr59⟩ := hE59; have hy_hi59 : _ ≤ 16777216 := hi59; have hn_hr59 := hr59.len; have hx_hr59 : _ ≤ 1099511627776 := hr59.lim
      refine RD_t 5 rfl kR rfl (fun _ hK => v_index_P (i := k) ha59 underlying30 sizeOf58 rfl rfl rfl oM) (RD_t 6 rfl kR rfl (fun _ hK => v_fieldAddr 0 runUnderlying58 rfl sizeOf9 rfl rfl) (RD_t 7 rfl kR rfl (fun _ hK => v_load_P hK isAgg9 rfl (hrow59 0 _ rfl)) (RD_t 8 rfl kR rfl (fun _ hK => v_fieldAddr 2 runUnderlying32 rfl sizeOf30 rfl rfl) (RD_t 9 rfl kR rfl (fun _ hK => v_load_B 2 hK isAgg30 rfl rfl rfl) (vM 10 rfl rfl ?_)))))
      have hl60 := hr1''.len
      obtain ⟨b60, o60, z60, q60, ha60, hz60, hq60, hE60, hrow60, _⟩ := hr1''.at (i := k) oM
      clear hq60
      obtain ⟨a60, m60, c60, rfl, hi60, hr60⟩ := hE60; have hy_hi60 : _ ≤ 16777216 := hi60; have hn_hr60 := hr60.len; have hx_hr60 : _ ≤ 1099511627776 := hr60.lim
      have hzz60 : z59 = z60 := Option.some.inj (hz59.symm.trans hz60)
      subst hzz60
      refine RD_t 11 rfl kR rfl (fun _ hK => v_index_P (i := k) ha60 underlying30 sizeOf58 rfl rfl rfl oM) (RD_t 12 rfl kR rfl (fun _ hK => v_fieldAddr 1 runUnderlying58 rfl sizeOf29 rfl rfl) (RD_t 13 rfl kR rfl (fun _ hK => v_load_P hK isAgg29 rfl (hrow60 1 _ rfl)) ?_))
      refine RD_run [14] kR rfl (RDs.cons rfl ?_ RDs.nil)
      refine o_call call87 rfl rfl (l5All_c _ _ H.sub _ _ hr60 ) ?_
      rintro _ w61 ⟨G61, v61, _, g61, rfl, ⟨cs61, rfl, hchk61⟩, hp61, hq61, hs61⟩
      have H := H.growO g61 hp61 hq61 hs61; obtain ⟨av61, cv61, rfl⟩ := H.accShape (k := 0) rfl
      have hchk56_0 := hchk56_0.up g61.le
      have hle56 := hle56.trans g61.le
      have hd58 := hd58.trans g61.le
      refine ⟨_, rfl, ?_⟩
      refine R_nil (N_DK (Kn.of' H hd58 (SubL.cons 1 rfl (SubL.cons 3 rfl (SubL.cons 4 rfl SubL.nil)))) (RD_t 15 rfl kR rfl (fun _ hK => v_build bf58 rfl rfl) ?_))
      refine RD_run [16] kR rfl (RDs.cons rfl ?_ RDs.nil)
      refine o_buildSlice H underlying30 sizeOf58 (fun w => ⟨_, zeroValue58 w, rfl⟩) rfl rfl rfl rfl rfl rfl rfl ?_; intro b62 w62 hb62 H
      refine R_nil (N_DK (Kn.of' H hd58 (SubL.cons 2 rfl (SubL.cons 4 rfl (SubL.cons 5 rfl SubL.nil)))) ?_)
      refine RD_run [17] kR rfl (RDs.cons rfl ?_ RDs.nil)
      refine o_append1 2 H (sz := 2) (bytes := 40) underlying30 typeInfo58 ⟨_, rfl, rfl⟩ rfl rfl rfl rfl rfl rfl rfl rfl rfl rfl oM rfl ?_; intro v63 w63 H
      obtain ⟨G64, H, hsg64, hsr64⟩ := H.shut' (k := 0) rfl hchk61 aN aN
      have hchk56_0 := hchk56_0.up hsg64
      have hle56 := hle56.trans hsg64
      have hd58 := hd58.trans hsg64
      have hchk63 := hchk56_0.snoc (show snapE _ ⟨z59.name, z59.tree⟩ _ from ⟨_, _, _, rfl, hi59, hsr64⟩) rfl
      obtain ⟨av63, cv63, rfl⟩ := H.accShape (k := 1) rfl
      refine R_nil (N_DK (Kn.of' H hd58 (SubL.cons 0 rfl (SubL.cons 2 rfl (SubL.cons 3 rfl SubL.nil)))) (RD_t 18 rfl kR rfl (fun _ hK => v_fieldAddr 2 runUnderlying32 rfl sizeOf30 rfl rfl) ?_))
      refine RD_run [19] kR rfl (RDs.cons rfl ?_ RDs.nil)
      refine o_store_B 0 H sizeOf30 rfl rfl rfl rfl rfl rfl rfl rfl ?_; intro w65 H
      refine R_nil (N_DKlast kR kR (N_B (N_K (W_region (mV rfl (o_add rfl rfl rfl oO (aG rfl (R_nil ?_))))))))
      refine N_lp (hJ := ⟨_, _, _, (xs ++ [⟨z59.name, z59.tree⟩]), k + 1, _, rfl, hle56, H, ?inv, rfl⟩) (hm := ?hm)
      case hm => omega
      case inv => exact ⟨hchk63, aN, (by exact ⟨by omega, by simp [hxl], by rw [Sp.take_succ' hz59, hxs]⟩)⟩
     intro hc57'
     try simp only [nrm] at hc57'
     refine W_exit (N_K_exit (N_LP_exit (N_B_same (N_K (q2 (o_loadagg_B 0 H isAgg32 sizeOf32 rfl rfl rfl rfl rfl (o_store_B 2 H sizeOf32 rfl rfl rfl rfl rfl rfl rfl rfl ?_))))))); intro w67 H
     refine q3 (W_ret (ret_gen (rs := [.cell 2 32]) (vs := [_]) results54 ⟨⟨_, rfl, load_blk 2 H isAgg32 sizeOf32 rfl rfl rfl⟩, trivial⟩ ?_))
     obtain rfl : k = d.snaps.length := by omega
     rw [List.take_length] at hxs
     subst hxs
     exact H.retO (k := 1) rfl ⟨_, _, _, rfl, AccOf.mk aN hchk56_0, hsr51, hsr52⟩ (acc_nd _ _ _ _ _)
   skip
   refine o_alloc H zeroValue32 rfl rfl ?_; intro b68 w68 hb68 H
   refine R_nil (N_DK (Kn.of' H hd4 (SubL.cons 3 rfl (SubL.cons 4 rfl SubL.nil))) ?_)
   refine RD_run [5] kR rfl (RDs.cons rfl ?_ RDs.nil)
   refine o_call call87 rfl rfl (l5All_c _ _ H.sub _ _ hr1' ) ?_
   rintro _ w69 ⟨G69, v69, _, g69, rfl, ⟨cs69, rfl, hchk69⟩, hp69, hq69, hs69⟩
   have H := H.growO g69 hp69 hq69 hs69; obtain ⟨av69, cv69, rfl⟩ := H.accShape (k := 0) rfl
   have hr1'' := hr1''.up g69.le
   have hchk5 := hchk5.up g69.le
   have hd4 := hd4.trans g69.le
   refine ⟨_, rfl, ?_⟩
   refine R_nil (N_DK (Kn.of' H hd4 (SubL.cons 4 rfl (SubL.cons 5 rfl SubL.nil))) (RD_t 7 rfl kR rfl (fun _ hK => v_build bf32 rfl rfl) ?_))
   refine RD_run [9] kR rfl (RDs.cons rfl ?_ RDs.nil)
   refine o_store_B 1 H sizeOf32 rfl rfl rfl rfl rfl rfl rfl rfl ?_; intro w70 H
   refine R_nil (N_DKlast kR kR (N_K (W_seq (q2 (aG rfl (q3 (W_block ?_)))))))
   obtain ⟨G71, H, hsg71, hsr71⟩ := H.shut' (k := 3) rfl hchk5 aN aN
   have hr1'' := hr1''.up hsg71
   have hchk69 := hchk69.up hsg71
   obtain ⟨G72, H, hsg72, hsr72⟩ := H.shut' (k := 0) rfl hchk69 aN aN
   have hr1'' := hr1''.up hsg72
   have hsr71 := hsr71.up hsg72
   obtain ⟨ln73, hln73, H⟩ := H.nameAt (k := 0) (off := 2) rfl rfl
   obtain ⟨ln74, hln74, H⟩ := H.name (k := 2) rfl
   obtain ⟨ln75, hln75, H⟩ := H.name (k := 3) rfl
   refine W_lp (hf := (Sub.cons (t := 1) rfl (Sub.cons (t := 2) rfl (Sub.cons (t := 3) rfl Sub.nil)))) (J := fun M w m => ∃ (v : Value) (n : Nat) (cs : List Value) (xs : List (BSnap)) (k : Nat) (G : PH), M = [(4, .int .i64 (k : Int))] ∧ PLe G72 G ∧ Hp w0 G0 [] w G [blk b68 (cl (setN ln73 2 v) 32), acc 58 2 v n cs, blk b3 (cl ln74 32), blk b2 (cl ln75 32)] ∧ (Chk snapE 2 G cs xs ∧ n = xs.length ∧ k ≤ d.snaps.length ∧ xs.length = k ∧ xs = d.snaps.take k) ∧ m = (d.snaps.length - k)) (h0 := ⟨_, _, _, [], 0, _, rfl, PLe.refl _, H, ?inv, rfl⟩) (round := ?round)
   case inv => exact ⟨(Chk.nil (E := snapE) (sz := 2) (G := G72)),  by first | rfl | simp | (simp; omega) | omega, (by simp)⟩
   case round =>
    rintro _ w76 _ ⟨v, n, cs, xs, k, G76, rfl, hle76, H, hinv76, rfl⟩
    subst hln73
    subst hln74
    subst hln75
    have hr1'' := hr1''.up hle76
    have hsr71 := hsr71.up hle76
    have hsr72 := hsr72.up hle76
    obtain ⟨hchk76_0, hn76_0, hinv76⟩ := hinv76
    obtain ⟨av76_0, cv76_0, rfl⟩ := H.accShape (k := 1) rfl
    obtain ⟨hk, hxl, hxs⟩ := hinv76
    refine W_seq (q2 (mV rfl (o_fieldAddr 2 runUnderlying32 rfl sizeOf30 rfl rfl rfl (o_load_B 3 H isAgg30 rfl rfl rfl rfl (o_len_slice underlying30 rfl rfl (o_lss rfl rfl rfl (q3 ?_)))))))
    refine W_cond rfl ?_ ?_
    ·intro hc77
     try simp only [nrm] at hc77
     refine W_skip (N_K (W_seq (W_block (W_drawK [0, 2, 3] 20 H kR rfl ?_)))); intro w78 H; have hd78 := PLe.refl G76
     refine RD_t 0 rfl kR rfl (fun _ hK => v_fieldAddr 2 runUnderlying32 rfl sizeOf30 rfl rfl) (RD_t 1 rfl kR rfl (fun _ hK => v_load_B 0 hK isAgg30 rfl rfl rfl) (RD_t 2 rfl kR rfl (fun _ hK => v_fieldAddr 2 runUnderlying32 rfl sizeOf30 rfl rfl) (RD_t 3 rfl kR rfl (fun _ hK => v_load_B 2 hK isAgg30 rfl rfl rfl) (vM 4 rfl rfl ?_))))
     have hl79 := hr1''.len
     obtain ⟨b79, o79, z79, q79, ha79, hz79, hq79, hE79, hrow79, _⟩ := hr1''.at (i := k) oM
     clear hq79
     obtain ⟨a79, m79, c79, rfl, hi79, hr79⟩ := hE79; have hy_hi79 : _ ≤ 16777216 := hi79; have hn_hr79 := hr79.len; have hx_hr79 : _ ≤ 1099511627776 := hr79.lim
     refine RD_t 5 rfl kR rfl (fun _ hK => v_index_P (i := k) ha79 underlying30 sizeOf58 rfl rfl rfl oM) (RD_t 6 rfl kR rfl (fun _ hK => v_fieldAddr 0 runUnderlying58 rfl sizeOf9 rfl rfl) (RD_t 7 rfl kR rfl (fun _ hK => v_load_P hK isAgg9 rfl (hrow79 0 _ rfl)) (RD_t 8 rfl kR rfl (fun _ hK => v_fieldAddr 2 runUnderlying32 rfl sizeOf30 rfl rfl) (RD_t 9 rfl kR rfl (fun _ hK => v_load_B 2 hK isAgg30 rfl rfl rfl) (vM 10 rfl rfl ?_)))))
     have hl80 := hr1''.len
     obtain ⟨b80, o80, z80, q80, ha80, hz80, hq80, hE80, hrow80, _⟩ := hr1''.at (i := k) oM
     clear hq80
     obtain ⟨a80, m80, c80, rfl, hi80, hr80⟩ := hE80; have hy_hi80 : _ ≤ 16777216 := hi80; have hn_hr80 := hr80.len; have hx_hr80 : _ ≤ 1099511627776 := hr80.lim
     have hzz80 : z79 = z80 := Option.some.inj (hz79.symm.trans hz80)
     subst hzz80
     refine RD_t 11 rfl kR rfl (fun _ hK => v_index_P (i := k) ha80 underlying30 sizeOf58 rfl rfl rfl oM) (RD_t 12 rfl kR rfl (fun _ hK => v_fieldAddr 1 runUnderlying58 rfl sizeOf29 rfl rfl) (RD_t 13 rfl kR rfl (fun _ hK => v_load_P hK isAgg29 rfl (hrow80 1 _ rfl)) ?_))
     refine RD_run [14] kR rfl (RDs.cons rfl ?_ RDs.nil)
     refine o_call call87 rfl rfl (l5All_c _ _ H.sub _ _ hr80 ) ?_
     rintro _ w81 ⟨G81, v81, _, g81, rfl, ⟨cs81, rfl, hchk81⟩, hp81, hq81, hs81⟩
     have H := H.growO g81 hp81 hq81 hs81; obtain ⟨av81, cv81, rfl⟩ := H.accShape (k := 0) rfl
     have hchk76_0 := hchk76_0.up g81.le
     have hle76 := hle76.trans g81.le
     have hd78 := hd78.trans g81.le
     refine ⟨_, rfl, ?_⟩
     refine R_nil (N_DK (Kn.of' H hd78 (SubL.cons 1 rfl (SubL.cons 3 rfl (SubL.cons 4 rfl SubL.nil)))) (RD_t 15 rfl kR rfl (fun _ hK => v_build bf58 rfl rfl) ?_))
     refine RD_run [16] kR rfl (RDs.cons rfl ?_ RDs.nil)
     refine o_buildSlice H underlying30 sizeOf58 (fun w => ⟨_, zeroValue58 w, rfl⟩) rfl rfl rfl rfl rfl rfl rfl ?_; intro b82 w82 hb82 H
     refine R_nil (N_DK (Kn.of' H hd78 (SubL.cons 2 rfl (SubL.cons 4 rfl (SubL.cons 5 rfl SubL.nil)))) ?_)
     refine RD_run [17] kR rfl (RDs.cons rfl ?_ RDs.nil)
     refine o_append1 2 H (sz := 2) (bytes := 40) underlying30 typeInfo58 ⟨_, rfl, rfl⟩ rfl rfl rfl rfl rfl rfl rfl rfl rfl rfl oM rfl ?_; intro v83 w83 H
     obtain ⟨G84, H, hsg84, hsr84⟩ := H.shut' (k := 0) rfl hchk81 aN aN
     have hchk76_0 := hchk76_0.up hsg84
     have hle76 := hle76.trans hsg84
     have hd78 := hd78.trans hsg84
     have hchk83 := hchk76_0.snoc (show snapE _ ⟨z79.name, z79.tree⟩ _ from ⟨_, _, _, rfl, hi79, hsr84⟩) rfl
     obtain ⟨av83, cv83, rfl⟩ := H.accShape (k := 1) rfl
     refine R_nil (N_DK (Kn.of' H hd78 (SubL.cons 0 rfl (SubL.cons 2 rfl (SubL.cons 3 rfl SubL.nil)))) (RD_t 18 rfl kR rfl (fun _ hK => v_fieldAddr 2 runUnderlying32 rfl sizeOf30 rfl rfl) ?_))
     refine RD_run [19] kR rfl (RDs.cons rfl ?_ RDs.nil)
     refine o_store_B 0 H sizeOf30 rfl rfl rfl rfl rfl rfl rfl rfl ?_; intro w85 H
     refine R_nil (N_DKlast kR kR (N_B (N_K (W_region (mV rfl (o_add rfl rfl rfl oO (aG rfl (R_nil ?_))))))))
     refine N_lp (hJ := ⟨_, _, _, (xs ++ [⟨z79.name, z79.tree⟩]), k + 1, _, rfl, hle76, H, ?inv, rfl⟩) (hm := ?hm)
     case hm => omega
     case inv => exact ⟨hchk83, aN, (by exact ⟨by omega, by simp [hxl], by rw [Sp.take_succ' hz79, hxs]⟩)⟩
    intro hc77'
    try simp only [nrm] at hc77'
    refine W_exit (N_K_exit (N_LP_exit (N_B_same (N_K (q2 (o_loadagg_B 0 H isAgg32 sizeOf32 rfl rfl rfl rfl rfl (o_store_B 2 H sizeOf32 rfl rfl rfl rfl rfl rfl rfl rfl ?_))))))); intro w87 H
    refine q3 (W_ret (ret_gen (rs := [.cell 2 32]) (vs := [_]) results54 ⟨⟨_, rfl, load_blk 2 H isAgg32 sizeOf32 rfl rfl rfl⟩, trivial⟩ ?_))
    obtain rfl : k = d.snaps.length := by omega
    rw [List.take_length] at hxs
    subst hxs
    exact H.retO (k := 1) rfl ⟨_, _, _, rfl, AccOf.mk aN hchk76_0, hsr71, hsr72⟩ (acc_nd _ _ _ _ _)
  skip
  refine o_alloc H zeroValue32 rfl rfl ?_; intro b88 w88 hb88 H
  refine R_nil (N_DK (Kn.of' H hd4 (SubL.cons 2 rfl (SubL.cons 3 rfl SubL.nil))) ?_)
  refine RD_run [5, 6] kR rfl (RDs.cons rfl ?_ (RDs.cons rfl ?_ RDs.nil))
  ·skip
   refine o_call call87 rfl rfl (l5All_c _ _ H.sub _ _ hr1' ) ?_
   rintro _ w89 ⟨G89, v89, _, g89, rfl, ⟨cs89, rfl, hchk89⟩, hp89, hq89, hs89⟩
   have H := H.growO g89 hp89 hq89 hs89; obtain ⟨av89, cv89, rfl⟩ := H.accShape (k := 0) rfl
   have hr1'' := hr1''.up g89.le
   have hchk5 := hchk5.up g89.le
   have hd4 := hd4.trans g89.le
   refine ⟨_, rfl, ?_⟩
   refine R_nil (N_DK (Kn.of' H hd4 (SubL.cons 3 rfl (SubL.cons 4 rfl SubL.nil))) ?_)
   refine RD_run [6] kR rfl (RDs.cons rfl ?_ RDs.nil)
   refine o_buildSlice H underlying30 sizeOf58 (fun w => ⟨_, zeroValue58 w, rfl⟩) rfl rfl rfl rfl rfl rfl rfl ?_; intro b90 w90 hb90 H
   have H := H.blkAcc 2 (k := 0) (n := 0) rfl rfl (by decide)
   refine R_nil (N_DK (Kn.of' H hd4 (SubL.cons 4 rfl (SubL.cons 5 rfl SubL.nil))) (RD_t 7 rfl kR rfl (fun _ hK => v_build bf32 rfl rfl) ?_))
   refine RD_run [9] kR rfl (RDs.cons rfl ?_ RDs.nil)
   refine o_store_B 2 H sizeOf32 rfl rfl rfl rfl rfl rfl rfl rfl ?_; intro w91 H
   refine R_nil (N_DKlast kR kR (N_K (W_seq (q2 (aG rfl (q3 (W_block ?_)))))))
   obtain ⟨G92, H, hsg92, hsr92⟩ := H.shut' (k := 3) rfl hchk5 aN aN
   have hr1'' := hr1''.up hsg92
   have hchk89 := hchk89.up hsg92
   obtain ⟨G93, H, hsg93, hsr93⟩ := H.shut' (k := 1) rfl hchk89 aN aN
   have hr1'' := hr1''.up hsg93
   have hsr92 := hsr92.up hsg93
   obtain ⟨ln94, hln94, H⟩ := H.nameAt (k := 1) (off := 2) rfl rfl
   obtain ⟨ln95, hln95, H⟩ := H.name (k := 2) rfl
   obtain ⟨ln96, hln96, H⟩ := H.name (k := 3) rfl
   refine W_lp (hf := (Sub.cons (t := 1) rfl (Sub.cons (t := 2) rfl (Sub.cons (t := 3) rfl Sub.nil)))) (J := fun M w m => ∃ (v : Value) (n : Nat) (cs : List Value) (xs : List (BSnap)) (k : Nat) (G : PH), M = [(4, .int .i64 (k : Int))] ∧ PLe G93 G ∧ Hp w0 G0 [] w G [acc 58 2 v n cs, blk b88 (cl (setN ln94 2 v) 32), blk b3 (cl ln95 32), blk b2 (cl ln96 32)] ∧ (Chk snapE 2 G cs xs ∧ n = xs.length ∧ k ≤ d.snaps.length ∧ xs.length = k ∧ xs = d.snaps.take k) ∧ m = (d.snaps.length - k)) (h0 := ⟨_, _, _, [], 0, _, rfl, PLe.refl _, H, ?inv, rfl⟩) (round := ?round)
   case inv => exact ⟨(Chk.nil (E := snapE) (sz := 2) (G := G93)),  by first | rfl | simp | (simp; omega) | omega, (by simp)⟩
   case round =>
    rintro _ w97 _ ⟨v, n, cs, xs, k, G97, rfl, hle97, H, hinv97, rfl⟩
    subst hln94
    subst hln95
    subst hln96
    have hr1'' := hr1''.up hle97
    have hsr92 := hsr92.up hle97
    have hsr93 := hsr93.up hle97
    obtain ⟨hchk97_0, hn97_0, hinv97⟩ := hinv97
    obtain ⟨av97_0, cv97_0, rfl⟩ := H.accShape (k := 0) rfl
    obtain ⟨hk, hxl, hxs⟩ := hinv97
    refine W_seq (q2 (mV rfl (o_fieldAddr 2 runUnderlying32 rfl sizeOf30 rfl rfl rfl (o_load_B 3 H isAgg30 rfl rfl rfl rfl (o_len_slice underlying30 rfl rfl (o_lss rfl rfl rfl (q3 ?_)))))))
    refine W_cond rfl ?_ ?_
    ·intro hc98
     try simp only [nrm] at hc98
     refine W_skip (N_K (W_seq (W_block (W_drawK [1, 2, 3] 20 H kR rfl ?_)))); intro w99 H; have hd99 := PLe.refl G97
     refine RD_t 0 rfl kR rfl (fun _ hK => v_fieldAddr 2 runUnderlying32 rfl sizeOf30 rfl rfl) (RD_t 1 rfl kR rfl (fun _ hK => v_load_B 0 hK isAgg30 rfl rfl rfl) (RD_t 2 rfl kR rfl (fun _ hK => v_fieldAddr 2 runUnderlying32 rfl sizeOf30 rfl rfl) (RD_t 3 rfl kR rfl (fun _ hK => v_load_B 2 hK isAgg30 rfl rfl rfl) (vM 4 rfl rfl ?_))))
     have hl100 := hr1''.len
     obtain ⟨b100, o100, z100, q100, ha100, hz100, hq100, hE100, hrow100, _⟩ := hr1''.at (i := k) oM
     clear hq100
     obtain ⟨a100, m100, c100, rfl, hi100, hr100⟩ := hE100; have hy_hi100 : _ ≤ 16777216 := hi100; have hn_hr100 := hr100.len; have hx_hr100 : _ ≤ 1099511627776 := hr100.lim
     refine RD_t 5 rfl kR rfl (fun _ hK => v_index_P (i := k) ha100 underlying30 sizeOf58 rfl rfl rfl oM) (RD_t 6 rfl kR rfl (fun _ hK => v_fieldAddr 0 runUnderlying58 rfl sizeOf9 rfl rfl) (RD_t 7 rfl kR rfl (fun _ hK => v_load_P hK isAgg9 rfl (hrow100 0 _ rfl)) (RD_t 8 rfl kR rfl (fun _ hK => v_fieldAddr 2 runUnderlying32 rfl sizeOf30 rfl rfl) (RD_t 9 rfl kR rfl (fun _ hK => v_load_B 2 hK isAgg30 rfl rfl rfl) (vM 10 rfl rfl ?_)))))
     have hl101 := hr1''.len
     obtain ⟨b101, o101, z101, q101, ha101, hz101, hq101, hE101, hrow101, _⟩ := hr1''.at (i := k) oM
     clear hq101
     obtain ⟨a101, m101, c101, rfl, hi101, hr101⟩ := hE101; have hy_hi101 : _ ≤ 16777216 := hi101; have hn_hr101 := hr101.len; have hx_hr101 : _ ≤ 1099511627776 := hr101.lim
     have hzz101 : z100 = z101 := Option.some.inj (hz100.symm.trans hz101)
     subst hzz101
     refine RD_t 11 rfl kR rfl (fun _ hK => v_index_P (i := k) ha101 underlying30 sizeOf58 rfl rfl rfl oM) (RD_t 12 rfl kR rfl (fun _ hK => v_fieldAddr 1 runUnderlying58 rfl sizeOf29 rfl rfl) (RD_t 13 rfl kR rfl (fun _ hK => v_load_P hK isAgg29 rfl (hrow101 1 _ rfl)) ?_))
     refine RD_run [14] kR rfl (RDs.cons rfl ?_ RDs.nil)
     refine o_call call87 rfl rfl (l5All_c _ _ H.sub _ _ hr101 ) ?_
     rintro _ w102 ⟨G102, v102, _, g102, rfl, ⟨cs102, rfl, hchk102⟩, hp102, hq102, hs102⟩
     have H := H.growO g102 hp102 hq102 hs102; obtain ⟨av102, cv102, rfl⟩ := H.accShape (k := 0) rfl
     have hchk97_0 := hchk97_0.up g102.le
     have hle97 := hle97.trans g102.le
     have hd99 := hd99.trans g102.le
     refine ⟨_, rfl, ?_⟩
     refine R_nil (N_DK (Kn.of' H hd99 (SubL.cons 2 rfl (SubL.cons 3 rfl (SubL.cons 4 rfl SubL.nil)))) (RD_t 15 rfl kR rfl (fun _ hK => v_build bf58 rfl rfl) ?_))
     refine RD_run [16] kR rfl (RDs.cons rfl ?_ RDs.nil)
     refine o_buildSlice H underlying30 sizeOf58 (fun w => ⟨_, zeroValue58 w, rfl⟩) rfl rfl rfl rfl rfl rfl rfl ?_; intro b103 w103 hb103 H
     refine R_nil (N_DK (Kn.of' H hd99 (SubL.cons 3 rfl (SubL.cons 4 rfl (SubL.cons 5 rfl SubL.nil)))) ?_)
     refine RD_run [17] kR rfl (RDs.cons rfl ?_ RDs.nil)
     refine o_append1 1 H (sz := 2) (bytes := 40) underlying30 typeInfo58 ⟨_, rfl, rfl⟩ rfl rfl rfl rfl rfl rfl rfl rfl rfl rfl oM rfl ?_; intro v104 w104 H
     obtain ⟨G105, H, hsg105, hsr105⟩ := H.shut' (k := 0) rfl hchk102 aN aN
     have hchk97_0 := hchk97_0.up hsg105
     have hle97 := hle97.trans hsg105
     have hd99 := hd99.trans hsg105
     have hchk104 := hchk97_0.snoc (show snapE _ ⟨z100.name, z100.tree⟩ _ from ⟨_, _, _, rfl, hi100, hsr105⟩) rfl
     obtain ⟨av104, cv104, rfl⟩ := H.accShape (k := 0) rfl
     refine R_nil (N_DK (Kn.of' H hd99 (SubL.cons 1 rfl (SubL.cons 2 rfl (SubL.cons 3 rfl SubL.nil)))) (RD_t 18 rfl kR rfl (fun _ hK => v_fieldAddr 2 runUnderlying32 rfl sizeOf30 rfl rfl) ?_))
     refine RD_run [19] kR rfl (RDs.cons rfl ?_ RDs.nil)
     refine o_store_B 1 H sizeOf30 rfl rfl rfl rfl rfl rfl rfl rfl ?_; intro w106 H
     refine R_nil (N_DKlast kR kR (N_B (N_K (W_region (mV rfl (o_add rfl rfl rfl oO (aG rfl (R_nil ?_))))))))
     refine N_lp (hJ := ⟨_, _, _, (xs ++ [⟨z100.name, z100.tree⟩]), k + 1, _, rfl, hle97, H, ?inv, rfl⟩) (hm := ?hm)
     case hm => omega
     case inv => exact ⟨hchk104, aN, (by exact ⟨by omega, by simp [hxl], by rw [Sp.take_succ' hz100, hxs]⟩)⟩
    intro hc98'
    try simp only [nrm] at hc98'
    refine W_exit (N_K_exit (N_LP_exit (N_B_same (N_K (q2 (o_loadagg_B 1 H isAgg32 sizeOf32 rfl rfl rfl rfl rfl (o_store_B 2 H sizeOf32 rfl rfl rfl rfl rfl rfl rfl rfl ?_))))))); intro w108 H
    refine q3 (W_ret (ret_gen (rs := [.cell 2 32]) (vs := [_]) results54 ⟨⟨_, rfl, load_blk 2 H isAgg32 sizeOf32 rfl rfl rfl⟩, trivial⟩ ?_))
    obtain rfl : k = d.snaps.length := by omega
    rw [List.take_length] at hxs
    subst hxs
    exact H.retO (k := 0) rfl ⟨_, _, _, rfl, AccOf.mk aN hchk97_0, hsr92, hsr93⟩ (acc_nd _ _ _ _ _)
  skip
  refine o_buildSlice H underlying30 sizeOf58 (fun w => ⟨_, zeroValue58 w, rfl⟩) rfl rfl rfl rfl rfl rfl rfl ?_; intro b109 w109 hb109 H
  have H := H.blkAcc 2 (k := 0) (n := 0) rfl rfl (by decide)
  refine R_nil (N_DK (Kn.of' H hd4 (SubL.cons 3 rfl (SubL.cons 4 rfl SubL.nil))) ?_)
  refine RD_run [5] kR rfl (RDs.cons rfl ?_ RDs.nil)
  refine o_call call87 rfl rfl (l5All_c _ _ H.sub _ _ hr1' ) ?_
  rintro _ w110 ⟨G110, v110, _, g110, rfl, ⟨cs110, rfl, hchk110⟩, hp110, hq110, hs110⟩
  have H := H.growO g110 hp110 hq110 hs110; obtain ⟨av110, cv110, rfl⟩ := H.accShape (k := 0) rfl
  have hr1'' := hr1''.up g110.le
  have hchk5 := hchk5.up g110.le
  have hd4 := hd4.trans g110.le
  refine ⟨_, rfl, ?_⟩
  refine R_nil (N_DK (Kn.of' H hd4 (SubL.cons 4 rfl (SubL.cons 5 rfl SubL.nil))) (RD_t 7 rfl kR rfl (fun _ hK => v_build bf32 rfl rfl) ?_))
  refine RD_run [9] kR rfl (RDs.cons rfl ?_ RDs.nil)
  refine o_store_B 2 H sizeOf32 rfl rfl rfl rfl rfl rfl rfl rfl ?_; intro w111 H
  refine R_nil (N_DKlast kR kR (N_K (W_seq (q2 (aG rfl (q3 (W_block ?_)))))))
  obtain ⟨G112, H, hsg112, hsr112⟩ := H.shut' (k := 3) rfl hchk5 aN aN
  have hr1'' := hr1''.up hsg112
  have hchk110 := hchk110.up hsg112
  obtain ⟨G113, H, hsg113, hsr113⟩ := H.shut' (k := 0) rfl hchk110 aN aN
  have hr1'' := hr1''.up hsg113
  have hsr112 := hsr112.up hsg113
  obtain ⟨ln114, hln114, H⟩ := H.nameAt (k := 1) (off := 2) rfl rfl
  obtain ⟨ln115, hln115, H⟩ := H.name (k := 2) rfl
  obtain ⟨ln116, hln116, H⟩ := H.name (k := 3) rfl
  refine W_lp (hf := (Sub.cons (t := 1) rfl (Sub.cons (t := 2) rfl (Sub.cons (t := 3) rfl Sub.nil)))) (J := fun M w m => ∃ (v : Value) (n : Nat) (cs : List Value) (xs : List (BSnap)) (k : Nat) (G : PH), M = [(4, .int .i64 (k : Int))] ∧ PLe G113 G ∧ Hp w0 G0 [] w G [acc 58 2 v n cs, blk b88 (cl (setN ln114 2 v) 32), blk b3 (cl ln115 32), blk b2 (cl ln116 32)] ∧ (Chk snapE 2 G cs xs ∧ n = xs.length ∧ k ≤ d.snaps.length ∧ xs.length = k ∧ xs = d.snaps.take k) ∧ m = (d.snaps.length - k)) (h0 := ⟨_, _, _, [], 0, _, rfl, PLe.refl _, H, ?inv, rfl⟩) (round := ?round)
  case inv => exact ⟨(Chk.nil (E := snapE) (sz := 2) (G := G113)),  by first | rfl | simp | (simp; omega) | omega, (by simp)⟩
  case round =>
   rintro _ w117 _ ⟨v, n, cs, xs, k, G117, rfl, hle117, H, hinv117, rfl⟩
   subst hln114
   subst hln115
   subst hln116
   have hr1'' := hr1''.up hle117
   have hsr112 := hsr112.up hle117
   have hsr113 := hsr113.up hle117
   obtain ⟨hchk117_0, hn117_0, hinv117⟩ := hinv117
   obtain ⟨av117_0, cv117_0, rfl⟩ := H.accShape (k := 0) rfl
   obtain ⟨hk, hxl, hxs⟩ := hinv117
   refine W_seq (q2 (mV rfl (o_fieldAddr 2 runUnderlying32 rfl sizeOf30 rfl rfl rfl (o_load_B 3 H isAgg30 rfl rfl rfl rfl (o_len_slice underlying30 rfl rfl (o_lss rfl rfl rfl (q3 ?_)))))))
   refine W_cond rfl ?_ ?_
   ·intro hc118
    try simp only [nrm] at hc118
    refine W_skip (N_K (W_seq (W_block (W_drawK [1, 2, 3] 20 H kR rfl ?_)))); intro w119 H; have hd119 := PLe.refl G117
    refine RD_t 0 rfl kR rfl (fun _ hK => v_fieldAddr 2 runUnderlying32 rfl sizeOf30 rfl rfl) (RD_t 1 rfl kR rfl (fun _ hK => v_load_B 0 hK isAgg30 rfl rfl rfl) (RD_t 2 rfl kR rfl (fun _ hK => v_fieldAddr 2 runUnderlying32 rfl sizeOf30 rfl rfl) (RD_t 3 rfl kR rfl (fun _ hK => v_load_B 2 hK isAgg30 rfl rfl rfl) (vM 4 rfl rfl ?_))))
    have hl120 := hr1''.len
    obtain ⟨b120, o120, z120, q120, ha120, hz120, hq120, hE120, hrow120, _⟩ := hr1''.at (i := k) oM
    clear hq120
    obtain ⟨a120, m120, c120, rfl, hi120, hr120⟩ := hE120; have hy_hi120 : _ ≤ 16777216 := hi120; have hn_hr120 := hr120.len; have hx_hr120 : _ ≤ 1099511627776 := hr120.lim
    refine RD_t 5 rfl kR rfl (fun _ hK => v_index_P (i := k) ha120 underlying30 sizeOf58 rfl rfl rfl oM) (RD_t 6 rfl kR rfl (fun _ hK => v_fieldAddr 0 runUnderlying58 rfl sizeOf9 rfl rfl) (RD_t 7 rfl kR rfl (fun _ hK => v_load_P hK isAgg9 rfl (hrow120 0 _ rfl)) (RD_t 8 rfl kR rfl (fun _ hK => v_fieldAddr 2 runUnderlying32 rfl sizeOf30 rfl rfl) (RD_t 9 rfl kR rfl (fun _ hK => v_load_B 2 hK isAgg30 rfl rfl rfl) (vM 10 rfl rfl ?_)))))
    have hl121 := hr1''.len
    obtain ⟨b121, o121, z121, q121, ha121, hz121, hq121, hE121, hrow121, _⟩ := hr1''.at (i := k) oM
    clear hq121
    obtain ⟨a121, m121, c121, rfl, hi121, hr121⟩ := hE121; have hy_hi121 : _ ≤ 16777216 := hi121; have hn_hr121 := hr121.len; have hx_hr121 : _ ≤ 1099511627776 := hr121.lim
    have hzz121 : z120 = z121 := Option.some.inj (hz120.symm.trans hz121)
    subst hzz121
    refine RD_t 11 rfl kR rfl (fun _ hK => v_index_P (i := k) ha121 underlying30 sizeOf58 rfl rfl rfl oM) (RD_t 12 rfl kR rfl (fun _ hK => v_fieldAddr 1 runUnderlying58 rfl sizeOf29 rfl rfl) (RD_t 13 rfl kR rfl (fun _ hK => v_load_P hK isAgg29 rfl (hrow121 1 _ rfl)) ?_))
    refine RD_run [14] kR rfl (RDs.cons rfl ?_ RDs.nil)
    refine o_call call87 rfl rfl (l5All_c _ _ H.sub _ _ hr121 ) ?_
    rintro _ w122 ⟨G122, v122, _, g122, rfl, ⟨cs122, rfl, hchk122⟩, hp122, hq122, hs122⟩
    have H := H.growO g122 hp122 hq122 hs122; obtain ⟨av122, cv122, rfl⟩ := H.accShape (k := 0) rfl
    have hchk117_0 := hchk117_0.up g122.le
    have hle117 := hle117.trans g122.le
    have hd119 := hd119.trans g122.le
    refine ⟨_, rfl, ?_⟩
    refine R_nil (N_DK (Kn.of' H hd119 (SubL.cons 2 rfl (SubL.cons 3 rfl (SubL.cons 4 rfl SubL.nil)))) (RD_t 15 rfl kR rfl (fun _ hK => v_build bf58 rfl rfl) ?_))
    refine RD_run [16] kR rfl (RDs.cons rfl ?_ RDs.nil)
    refine o_buildSlice H underlying30 sizeOf58 (fun w => ⟨_, zeroValue58 w, rfl⟩) rfl rfl rfl rfl rfl rfl rfl ?_; intro b123 w123 hb123 H
    refine R_nil (N_DK (Kn.of' H hd119 (SubL.cons 3 rfl (SubL.cons 4 rfl (SubL.cons 5 rfl SubL.nil)))) ?_)
    refine RD_run [17] kR rfl (RDs.cons rfl ?_ RDs.nil)
    refine o_append1 1 H (sz := 2) (bytes := 40) underlying30 typeInfo58 ⟨_, rfl, rfl⟩ rfl rfl rfl rfl rfl rfl rfl rfl rfl rfl oM rfl ?_; intro v124 w124 H
    obtain ⟨G125, H, hsg125, hsr125⟩ := H.shut' (k := 0) rfl hchk122 aN aN
    have hchk117_0 := hchk117_0.up hsg125
    have hle117 := hle117.trans hsg125
    have hd119 := hd119.trans hsg125
    have hchk124 := hchk117_0.snoc (show snapE _ ⟨z120.name, z120.tree⟩ _ from ⟨_, _, _, rfl, hi120, hsr125⟩) rfl
    obtain ⟨av124, cv124, rfl⟩ := H.accShape (k := 0) rfl
    refine R_nil (N_DK (Kn.of' H hd119 (SubL.cons 1 rfl (SubL.cons 2 rfl (SubL.cons 3 rfl SubL.nil)))) (RD_t 18 rfl kR rfl (fun _ hK => v_fieldAddr 2 runUnderlying32 rfl sizeOf30 rfl rfl) ?_))
    refine RD_run [19] kR rfl (RDs.cons rfl ?_ RDs.nil)
    refine o_store_B 1 H sizeOf30 rfl rfl rfl rfl rfl rfl rfl rfl ?_; intro w126 H
    refine R_nil (N_DKlast kR kR (N_B (N_K (W_region (mV rfl (o_add rfl rfl rfl oO (aG rfl (R_nil ?_))))))))
    refine N_lp (hJ := ⟨_, _, _, (xs ++ [⟨z120.name, z120.tree⟩]), k + 1, _, rfl, hle117, H, ?inv, rfl⟩) (hm := ?hm)
    case hm => omega
    case inv => exact ⟨hchk124, aN, (by exact ⟨by omega, by simp [hxl], by rw [Sp.take_succ' hz120, hxs]⟩)⟩
   intro hc118'
   try simp only [nrm] at hc118'
   refine W_exit (N_K_exit (N_LP_exit (N_B_same (N_K (q2 (o_loadagg_B 1 H isAgg32 sizeOf32 rfl rfl rfl rfl rfl (o_store_B 2 H sizeOf32 rfl rfl rfl rfl rfl rfl rfl rfl ?_))))))); intro w128 H
   refine q3 (W_ret (ret_gen (rs := [.cell 2 32]) (vs := [_]) results54 ⟨⟨_, rfl, load_blk 2 H isAgg32 sizeOf32 rfl rfl rfl⟩, trivial⟩ ?_))
   obtain rfl : k = d.snaps.length := by omega
   rw [List.take_length] at hxs
   subst hxs
   exact H.retO (k := 0) rfl ⟨_, _, _, rfl, AccOf.mk aN hchk117_0, hsr112, hsr113⟩ (acc_nd _ _ _ _ _)
 ·skip
  refine o_buildSlice H underlying30 sizeOf58 (fun w => ⟨_, zeroValue58 w, rfl⟩) rfl rfl rfl rfl rfl rfl rfl ?_; intro b129 w129 hb129 H
  have H := H.blkAcc 2 (k := 0) (n := 0) rfl rfl (by decide)
  refine R_nil (N_DK (Kn.of' H hd4 (SubL.cons 1 rfl (SubL.cons 2 rfl SubL.nil))) ?_)
  refine RD_run [2, 8] kR rfl (RDs.cons rfl ?_ (RDs.cons rfl ?_ RDs.nil))
  ·skip
   refine o_call call109 rfl rfl (l3Copy_c _ _ H.sub _ _ hr1 ) ?_
   rintro _ w130 ⟨G130, v130, _, g130, rfl, ⟨cs130, rfl, hchk130⟩, hp130, hq130, hs130⟩
   have H := H.growO g130 hp130 hq130 hs130; obtain ⟨av130, cv130, rfl⟩ := H.accShape (k := 0) rfl
   have hr1' := hr1'.up g130.le
   have hr1'' := hr1''.up g130.le
   have hd4 := hd4.trans g130.le
   refine ⟨_, rfl, ?_⟩
   refine R_nil (N_DK (Kn.of' H hd4 (SubL.cons 2 rfl (SubL.cons 3 rfl SubL.nil))) ?_)
   refine RD_run [5, 8] kR rfl (RDs.cons rfl ?_ (RDs.cons rfl ?_ RDs.nil))
   ·skip
    refine o_call call87 rfl rfl (l5All_c _ _ H.sub _ _ hr1' ) ?_
    rintro _ w131 ⟨G131, v131, _, g131, rfl, ⟨cs131, rfl, hchk131⟩, hp131, hq131, hs131⟩
    have H := H.growO g131 hp131 hq131 hs131; obtain ⟨av131, cv131, rfl⟩ := H.accShape (k := 0) rfl
    have hr1'' := hr1''.up g131.le
    have hchk130 := hchk130.up g131.le
    have hd4 := hd4.trans g131.le
    refine ⟨_, rfl, ?_⟩
    refine R_nil (N_DK (Kn.of' H hd4 (SubL.cons 3 rfl (SubL.cons 4 rfl SubL.nil))) (RD_t 7 rfl kR rfl (fun _ hK => v_build bf32 rfl rfl) ?_))
    refine RD_run [8] kR rfl (RDs.cons rfl ?_ RDs.nil)
    refine o_alloc H zeroValue32 rfl rfl ?_; intro b132 w132 hb132 H
    refine R_nil (N_DK (Kn.of' H hd4 (SubL.cons 4 rfl (SubL.cons 5 rfl SubL.nil))) ?_)
    refine RD_run [9] kR rfl (RDs.cons rfl ?_ RDs.nil)
    refine o_store_B 0 H sizeOf32 rfl rfl rfl rfl rfl rfl rfl rfl ?_; intro w133 H
    refine R_nil (N_DKlast kR kR (N_K (W_seq (q2 (aG rfl (q3 (W_block ?_)))))))
    obtain ⟨G134, H, hsg134, hsr134⟩ := H.shut' (k := 2) rfl hchk130 aN aN
    have hr1'' := hr1''.up hsg134
    have hchk131 := hchk131.up hsg134
    obtain ⟨G135, H, hsg135, hsr135⟩ := H.shut' (k := 1) rfl hchk131 aN aN
    have hr1'' := hr1''.up hsg135
    have hsr134 := hsr134.up hsg135
    obtain ⟨ln136, hln136, H⟩ := H.nameAt (k := 0) (off := 2) rfl rfl
    obtain ⟨ln137, hln137, H⟩ := H.name (k := 2) rfl
    obtain ⟨ln138, hln138, H⟩ := H.name (k := 3) rfl
    refine W_lp (hf := (Sub.cons (t := 1) rfl (Sub.cons (t := 2) rfl (Sub.cons (t := 3) rfl Sub.nil)))) (J := fun M w m => ∃ (v : Value) (n : Nat) (cs : List Value) (xs : List (BSnap)) (k : Nat) (G : PH), M = [(4, .int .i64 (k : Int))] ∧ PLe G135 G ∧ Hp w0 G0 [] w G [blk b132 (cl (setN ln136 2 v) 32), acc 58 2 v n cs, blk b3 (cl ln137 32), blk b2 (cl ln138 32)] ∧ (Chk snapE 2 G cs xs ∧ n = xs.length ∧ k ≤ d.snaps.length ∧ xs.length = k ∧ xs = d.snaps.take k) ∧ m = (d.snaps.length - k)) (h0 := ⟨_, _, _, [], 0, _, rfl, PLe.refl _, H, ?inv, rfl⟩) (round := ?round)
    case inv => exact ⟨(Chk.nil (E := snapE) (sz := 2) (G := G135)),  by first | rfl | simp | (simp; omega) | omega, (by simp)⟩
    case round =>
     rintro _ w139 _ ⟨v, n, cs, xs, k, G139, rfl, hle139, H, hinv139, rfl⟩
     subst hln136
     subst hln137
     subst hln138
     have hr1'' := hr1''.up hle139
     have hsr134 := hsr134.up hle139
     have hsr135 := hsr135.up hle139
     obtain ⟨hchk139_0, hn139_0, hinv139⟩ := hinv139
     obtain ⟨av139_0, cv139_0, rfl⟩ := H.accShape (k := 1) rfl
     obtain ⟨hk, hxl, hxs⟩ := hinv139
     refine W_seq (q2 (mV rfl (o_fieldAddr 2 runUnderlying32 rfl sizeOf30 rfl rfl rfl (o_load_B 3 H isAgg30 rfl rfl rfl rfl (o_len_slice underlying30 rfl rfl (o_lss rfl rfl rfl (q3 ?_)))))))
     refine W_cond rfl ?_ ?_
     ·intro hc140
      try simp only [nrm] at hc140
      refine W_skip (N_K (W_seq (W_block (W_drawK [0, 2, 3] 20 H kR rfl ?_)))); intro w141 H; have hd141 := PLe.refl G139
      refine RD_t 0 rfl kR rfl (fun _ hK => v_fieldAddr 2 runUnderlying32 rfl sizeOf30 rfl rfl) (RD_t 1 rfl kR rfl (fun _ hK => v_load_B 0 hK isAgg30 rfl rfl rfl) (RD_t 2 rfl kR rfl (fun _ hK => v_fieldAddr 2 runUnderlying32 rfl sizeOf30 rfl rfl) (RD_t 3 rfl kR rfl (fun _ hK => v_load_B 2 hK isAgg30 rfl rfl rfl) (vM 4 rfl rfl ?_))))
      have hl142 := hr1''.len
      obtain ⟨b142, o142, z142, q142, ha142, hz142, hq142, hE142, hrow142, _⟩ := hr1''.at (i := k) oM
      clear hq142
      obtain ⟨a142, m142, c142, rfl, hi142, hr142⟩ := hE142; have hy_hi142 : _ ≤ 16777216 := hi142; have hn_hr142 := hr142.len; have hx_hr142 : _ ≤ 1099511627776 := hr142.lim
      refine RD_t 5 rfl kR rfl (fun _ hK => v_index_P (i := k) ha142 underlying30 sizeOf58 rfl rfl rfl oM) (RD_t 6 rfl kR rfl (fun _ hK => v_fieldAddr 0 runUnderlying58 rfl sizeOf9 rfl rfl) (RD_t 7 rfl kR rfl (fun _ hK => v_load_P hK isAgg9 rfl (hrow142 0 _ rfl)) (RD_t 8 rfl kR rfl (fun _ hK => v_fieldAddr 2 runUnderlying32 rfl sizeOf30 rfl rfl) (RD_t 9 rfl kR rfl (fun _ hK => v_load_B 2 hK isAgg30 rfl rfl rfl) (vM 10 rfl rfl ?_)))))
      have hl143 := hr1''.len
      obtain ⟨b143, o143, z143, q143, ha143, hz143, hq143, hE143, hrow143, _⟩ := hr1''.at (i := k) oM
      clear hq143
      obtain ⟨a143, m143, c143, rfl, hi143, hr143⟩ := hE143; have hy_hi143 : _ ≤ 16777216 := hi143; have hn_hr143 := hr143.len; have hx_hr143 : _ ≤ 1099511627776 := hr143.lim
      have hzz143 : z142 = z143 := Option.some.inj (hz142.symm.trans hz143)
      subst hzz143
      refine RD_t 11 rfl kR rfl (fun _ hK => v_index_P (i := k) ha143 underlying30 sizeOf58 rfl rfl rfl oM) (RD_t 12 rfl kR rfl (fun _ hK => v_fieldAddr 1 runUnderlying58 rfl sizeOf29 rfl rfl) (RD_t 13 rfl kR rfl (fun _ hK => v_load_P hK isAgg29 rfl (hrow143 1 _ rfl)) ?_))
      refine RD_run [14] kR rfl (RDs.cons rfl ?_ RDs.nil)
      refine o_call call87 rfl rfl (l5All_c _ _ H.sub _ _ hr143 ) ?_
      rintro _ w144 ⟨G144, v144, _, g144, rfl, ⟨cs144, rfl, hchk144⟩, hp144, hq144, hs144⟩
      have H := H.growO g144 hp144 hq144 hs144; obtain ⟨av144, cv144, rfl⟩ := H.accShape (k := 0) rfl
      have hchk139_0 := hchk139_0.up g144.le
      have hle139 := hle139.trans g144.le
      have hd141 := hd141.trans g144.le
      refine ⟨_, rfl, ?_⟩
      refine R_nil (N_DK (Kn.of' H hd141 (SubL.cons 1 rfl (SubL.cons 3 rfl (SubL.cons 4 rfl SubL.nil)))) (RD_t 15 rfl kR rfl (fun _ hK => v_build bf58 rfl rfl) ?_))
      refine RD_run [16] kR rfl (RDs.cons rfl ?_ RDs.nil)
      refine o_buildSlice H underlying30 sizeOf58 (fun w => ⟨_, zeroValue58 w, rfl⟩) rfl rfl rfl rfl rfl rfl rfl ?_; intro b145 w145 hb145 H
      refine R_nil (N_DK (Kn.of' H hd141 (SubL.cons 2 rfl (SubL.cons 4 rfl (SubL.cons 5 rfl SubL.nil)))) ?_)
      refine RD_run [17] kR rfl (RDs.cons rfl ?_ RDs.nil)
      refine o_append1 2 H (sz := 2) (bytes := 40) underlying30 typeInfo58 ⟨_, rfl, rfl⟩ rfl rfl rfl rfl rfl rfl rfl rfl rfl rfl oM rfl ?_; intro v146 w146 H
      obtain ⟨G147, H, hsg147, hsr147⟩ := H.shut' (k := 0) rfl hchk144 aN aN
      have hchk139_0 := hchk139_0.up hsg147
      have hle139 := hle139.trans hsg147
      have hd141 := hd141.trans hsg147
      have hchk146 := hchk139_0.snoc (show snapE _ ⟨z142.name, z142.tree⟩ _ from ⟨_, _, _, rfl, hi142, hsr147⟩) rfl
      obtain ⟨av146, cv146, rfl⟩ := H.accShape (k := 1) rfl
      refine R_nil (N_DK (Kn.of' H hd141 (SubL.cons 0 rfl (SubL.cons 2 rfl (SubL.cons 3 rfl SubL.nil)))) (RD_t 18 rfl kR rfl (fun _ hK => v_fieldAddr 2 runUnderlying32 rfl sizeOf30 rfl rfl) ?_))
      refine RD_run [19] kR rfl (RDs.cons rfl ?_ RDs.nil)
      refine o_store_B 0 H sizeOf30 rfl rfl rfl rfl rfl rfl rfl rfl ?_; intro w148 H
      refine R_nil (N_DKlast kR kR (N_B (N_K (W_region (mV rfl (o_add rfl rfl rfl oO (aG rfl (R_nil ?_))))))))
      refine N_lp (hJ := ⟨_, _, _, (xs ++ [⟨z142.name, z142.tree⟩]), k + 1, _, rfl, hle139, H, ?inv, rfl⟩) (hm := ?hm)
      case hm => omega
      case inv => exact ⟨hchk146, aN, (by exact ⟨by omega, by simp [hxl], by rw [Sp.take_succ' hz142, hxs]⟩)⟩
     intro hc140'
     try simp only [nrm] at hc140'
     refine W_exit (N_K_exit (N_LP_exit (N_B_same (N_K (q2 (o_loadagg_B 0 H isAgg32 sizeOf32 rfl rfl rfl rfl rfl (o_store_B 2 H sizeOf32 rfl rfl rfl rfl rfl rfl rfl rfl ?_))))))); intro w150 H
     refine q3 (W_ret (ret_gen (rs := [.cell 2 32]) (vs := [_]) results54 ⟨⟨_, rfl, load_blk 2 H isAgg32 sizeOf32 rfl rfl rfl⟩, trivial⟩ ?_))
     obtain rfl : k = d.snaps.length := by omega
     rw [List.take_length] at hxs
     subst hxs
     exact H.retO (k := 1) rfl ⟨_, _, _, rfl, AccOf.mk aN hchk139_0, hsr134, hsr135⟩ (acc_nd _ _ _ _ _)
   skip
   refine o_alloc H zeroValue32 rfl rfl ?_; intro b151 w151 hb151 H
   refine R_nil (N_DK (Kn.of' H hd4 (SubL.cons 3 rfl (SubL.cons 4 rfl SubL.nil))) ?_)
   refine RD_run [5] kR rfl (RDs.cons rfl ?_ RDs.nil)
   refine o_call call87 rfl rfl (l5All_c _ _ H.sub _ _ hr1' ) ?_
   rintro _ w152 ⟨G152, v152, _, g152, rfl, ⟨cs152, rfl, hchk152⟩, hp152, hq152, hs152⟩
   have H := H.growO g152 hp152 hq152 hs152; obtain ⟨av152, cv152, rfl⟩ := H.accShape (k := 0) rfl
   have hr1'' := hr1''.up g152.le
   have hchk130 := hchk130.up g152.le
   have hd4 := hd4.trans g152.le
   refine ⟨_, rfl, ?_⟩
   refine R_nil (N_DK (Kn.of' H hd4 (SubL.cons 4 rfl (SubL.cons 5 rfl SubL.nil))) (RD_t 7 rfl kR rfl (fun _ hK => v_build bf32 rfl rfl) ?_))
   refine RD_run [9] kR rfl (RDs.cons rfl ?_ RDs.nil)
   refine o_store_B 1 H sizeOf32 rfl rfl rfl rfl rfl rfl rfl rfl ?_; intro w153 H
   refine R_nil (N_DKlast kR kR (N_K (W_seq (q2 (aG rfl (q3 (W_block ?_)))))))
   obtain ⟨G154, H, hsg154, hsr154⟩ := H.shut' (k := 2) rfl hchk130 aN aN
   have hr1'' := hr1''.up hsg154
   have hchk152 := hchk152.up hsg154
   obtain ⟨G155, H, hsg155, hsr155⟩ := H.shut' (k := 0) rfl hchk152 aN aN
   have hr1'' := hr1''.up hsg155
   have hsr154 := hsr154.up hsg155
   obtain ⟨ln156, hln156, H⟩ := H.nameAt (k := 0) (off := 2) rfl rfl
   obtain ⟨ln157, hln157, H⟩ := H.name (k := 2) rfl
   obtain ⟨ln158, hln158, H⟩ := H.name (k := 3) rfl
   refine W_lp (hf := (Sub.cons (t := 1) rfl (Sub.cons (t := 2) rfl (Sub.cons (t := 3) rfl Sub.nil)))) (J := fun M w m => ∃ (v : Value) (n : Nat) (cs : List Value) (xs : List (BSnap)) (k : Nat) (G : PH), M = [(4, .int .i64 (k : Int))] ∧ PLe G155 G ∧ Hp w0 G0 [] w G [blk b151 (cl (setN ln156 2 v) 32), acc 58 2 v n cs, blk b3 (cl ln157 32), blk b2 (cl ln158 32)] ∧ (Chk snapE 2 G cs xs ∧ n = xs.length ∧ k ≤ d.snaps.length ∧ xs.length = k ∧ xs = d.snaps.take k) ∧ m = (d.snaps.length - k)) (h0 := ⟨_, _, _, [], 0, _, rfl, PLe.refl _, H, ?inv, rfl⟩) (round := ?round)
   case inv => exact ⟨(Chk.nil (E := snapE) (sz := 2) (G := G155)),  by first | rfl | simp | (simp; omega) | omega, (by simp)⟩
   case round =>
    rintro _ w159 _ ⟨v, n, cs, xs, k, G159, rfl, hle159, H, hinv159, rfl⟩
    subst hln156
    subst hln157
    subst hln158
    have hr1'' := hr1''.up hle159
    have hsr154 := hsr154.up hle159
    have hsr155 := hsr155.up hle159
    obtain ⟨hchk159_0, hn159_0, hinv159⟩ := hinv159
    obtain ⟨av159_0, cv159_0, rfl⟩ := H.accShape (k := 1) rfl
    obtain ⟨hk, hxl, hxs⟩ := hinv159
    refine W_seq (q2 (mV rfl (o_fieldAddr 2 runUnderlying32 rfl sizeOf30 rfl rfl rfl (o_load_B 3 H isAgg30 rfl rfl rfl rfl (o_len_slice underlying30 rfl rfl (o_lss rfl rfl rfl (q3 ?_)))))))
    refine W_cond rfl ?_ ?_
    ·intro hc160
     try simp only [nrm] at hc160
     refine W_skip (N_K (W_seq (W_block (W_drawK [0, 2, 3] 20 H kR rfl ?_)))); intro w161 H; have hd161 := PLe.refl G159
     refine RD_t 0 rfl kR rfl (fun _ hK => v_fieldAddr 2 runUnderlying32 rfl sizeOf30 rfl rfl) (RD_t 1 rfl kR rfl (fun _ hK => v_load_B 0 hK isAgg30 rfl rfl rfl) (RD_t 2 rfl kR rfl (fun _ hK => v_fieldAddr 2 runUnderlying32 rfl sizeOf30 rfl rfl) (RD_t 3 rfl kR rfl (fun _ hK => v_load_B 2 hK isAgg30 rfl rfl rfl) (vM 4 rfl rfl ?_))))
     have hl162 := hr1''.len
     obtain ⟨b162, o162, z162, q162, ha162, hz162, hq162, hE162, hrow162, _⟩ := hr1''.at (i := k) oM
     clear hq162
     obtain ⟨a162, m162, c162, rfl, hi162, hr162⟩ := hE162; have hy_hi162 : _ ≤ 16777216 := hi162; have hn_hr162 := hr162.len; have hx_hr162 : _ ≤ 1099511627776 := hr162.lim
     refine RD_t 5 rfl kR rfl (fun _ hK => v_index_P (i := k) ha162 underlying30 sizeOf58 rfl rfl rfl oM) (RD_t 6 rfl kR rfl (fun _ hK => v_fieldAddr 0 runUnderlying58 rfl sizeOf9 rfl rfl) (RD_t 7 rfl kR rfl (fun _ hK => v_load_P hK isAgg9 rfl (hrow162 0 _ rfl)) (RD_t 8 rfl kR rfl (fun _ hK => v_fieldAddr 2 runUnderlying32 rfl sizeOf30 rfl rfl) (RD_t 9 rfl kR rfl (fun _ hK => v_load_B 2 hK isAgg30 rfl rfl rfl) (vM 10 rfl rfl ?_)))))
     have hl163 := hr1''.len
     obtain ⟨b163, o163, z163, q163, ha163, hz163, hq163, hE163, hrow163, _⟩ := hr1''.at (i := k) oM
     clear hq163
     obtain ⟨a163, m163, c163, rfl, hi163, hr163⟩ := hE163; have hy_hi163 : _ ≤ 16777216 := hi163; have hn_hr163 := hr163.len; have hx_hr163 : _ ≤ 1099511627776 := hr163.lim
     have hzz163 : z162 = z163 := Option.some.inj (hz162.symm.trans hz163)
     subst hzz163
     refine RD_t 11 rfl kR rfl (fun _ hK => v_index_P (i := k) ha163 underlying30 sizeOf58 rfl rfl rfl oM) (RD_t 12 rfl kR rfl (fun _ hK => v_fieldAddr 1 runUnderlying58 rfl sizeOf29 rfl rfl) (RD_t 13 rfl kR rfl (fun _ hK => v_load_P hK isAgg29 rfl (hrow163 1 _ rfl)) ?_))
     refine RD_run [14] kR rfl (RDs.cons rfl ?_ RDs.nil)
     refine o_call call87 rfl rfl (l5All_c _ _ H.sub _ _ hr163 ) ?_
     rintro _ w164 ⟨G164, v164, _, g164, rfl, ⟨cs164, rfl, hchk164⟩, hp164, hq164, hs164⟩
     have H := H.growO g164 hp164 hq164 hs164; obtain ⟨av164, cv164, rfl⟩ := H.accShape (k := 0) rfl
     have hchk159_0 := hchk159_0.up g164.le
     have hle159 := hle159.trans g164.le
     have hd161 := hd161.trans g164.le
     refine ⟨_, rfl, ?_⟩
     refine R_nil (N_DK (Kn.of' H hd161 (SubL.cons 1 rfl (SubL.cons 3 rfl (SubL.cons 4 rfl SubL.nil)))) (RD_t 15 rfl kR rfl (fun _ hK => v_build bf58 rfl rfl) ?_))
     refine RD_run [16] kR rfl (RDs.cons rfl ?_ RDs.nil)
     refine o_buildSlice H underlying30 sizeOf58 (fun w => ⟨_, zeroValue58 w, rfl⟩) rfl rfl rfl rfl rfl rfl rfl ?_; intro b165 w165 hb165 H
     refine R_nil (N_DK (Kn.of' H hd161 (SubL.cons 2 rfl (SubL.cons 4 rfl (SubL.cons 5 rfl SubL.nil)))) ?_)
     refine RD_run [17] kR rfl (RDs.cons rfl ?_ RDs.nil)
     refine o_append1 2 H (sz := 2) (bytes := 40) underlying30 typeInfo58 ⟨_, rfl, rfl⟩ rfl rfl rfl rfl rfl rfl rfl rfl rfl rfl oM rfl ?_; intro v166 w166 H
     obtain ⟨G167, H, hsg167, hsr167⟩ := H.shut' (k := 0) rfl hchk164 aN aN
     have hchk159_0 := hchk159_0.up hsg167
     have hle159 := hle159.trans hsg167
     have hd161 := hd161.trans hsg167
     have hchk166 := hchk159_0.snoc (show snapE _ ⟨z162.name, z162.tree⟩ _ from ⟨_, _, _, rfl, hi162, hsr167⟩) rfl
     obtain ⟨av166, cv166, rfl⟩ := H.accShape (k := 1) rfl
     refine R_nil (N_DK (Kn.of' H hd161 (SubL.cons 0 rfl (SubL.cons 2 rfl (SubL.cons 3 rfl SubL.nil)))) (RD_t 18 rfl kR rfl (fun _ hK => v_fieldAddr 2 runUnderlying32 rfl sizeOf30 rfl rfl) ?_))
     refine RD_run [19] kR rfl (RDs.cons rfl ?_ RDs.nil)
     refine o_store_B 0 H sizeOf30 rfl rfl rfl rfl rfl rfl rfl rfl ?_; intro w168 H
     refine R_nil (N_DKlast kR kR (N_B (N_K (W_region (mV rfl (o_add rfl rfl rfl oO (aG rfl (R_nil ?_))))))))
     refine N_lp (hJ := ⟨_, _, _, (xs ++ [⟨z162.name, z162.tree⟩]), k + 1, _, rfl, hle159, H, ?inv, rfl⟩) (hm := ?hm)
     case hm => omega
     case inv => exact ⟨hchk166, aN, (by exact ⟨by omega, by simp [hxl], by rw [Sp.take_succ' hz162, hxs]⟩)⟩
    intro hc160'
    try simp only [nrm] at hc160'
    refine W_exit (N_K_exit (N_LP_exit (N_B_same (N_K (q2 (o_loadagg_B 0 H isAgg32 sizeOf32 rfl rfl rfl rfl rfl (o_store_B 2 H sizeOf32 rfl rfl rfl rfl rfl rfl rfl rfl ?_))))))); intro w170 H
    refine q3 (W_ret (ret_gen (rs := [.cell 2 32]) (vs := [_]) results54 ⟨⟨_, rfl, load_blk 2 H isAgg32 sizeOf32 rfl rfl rfl⟩, trivial⟩ ?_))
    obtain rfl : k = d.snaps.length := by omega
    rw [List.take_length] at hxs
    subst hxs
    exact H.retO (k := 1) rfl ⟨_, _, _, rfl, AccOf.mk aN hchk159_0, hsr154, hsr155⟩ (acc_nd _ _ _ _ _)
  skip
  refine o_alloc H zeroValue32 rfl rfl ?_; intro b171 w171 hb171 H
  refine R_nil (N_DK (Kn.of' H hd4 (SubL.cons 2 rfl (SubL.cons 3 rfl SubL.nil))) ?_)
  refine RD_run [2] kR rfl (RDs.cons rfl ?_ RDs.nil)
  refine o_call call109 rfl rfl (l3Copy_c _ _ H.sub _ _ hr1 ) ?_
  rintro _ w172 ⟨G172, v172, _, g172, rfl, ⟨cs172, rfl, hchk172⟩, hp172, hq172, hs172⟩
  have H := H.growO g172 hp172 hq172 hs172; obtain ⟨av172, cv172, rfl⟩ := H.accShape (k := 0) rfl
  have hr1' := hr1'.up g172.le
  have hr1'' := hr1''.up g172.le
  have hd4 := hd4.trans g172.le
  refine ⟨_, rfl, ?_⟩
  refine R_nil (N_DK (Kn.of' H hd4 (SubL.cons 3 rfl (SubL.cons 4 rfl SubL.nil))) ?_)
  refine RD_run [5] kR rfl (RDs.cons rfl ?_ RDs.nil)
  refine o_call call87 rfl rfl (l5All_c _ _ H.sub _ _ hr1' ) ?_
  rintro _ w173 ⟨G173, v173, _, g173, rfl, ⟨cs173, rfl, hchk173⟩, hp173, hq173, hs173⟩
  have H := H.growO g173 hp173 hq173 hs173; obtain ⟨av173, cv173, rfl⟩ := H.accShape (k := 0) rfl
  have hr1'' := hr1''.up g173.le
  have hchk172 := hchk172.up g173.le
  have hd4 := hd4.trans g173.le
  refine ⟨_, rfl, ?_⟩
  refine R_nil (N_DK (Kn.of' H hd4 (SubL.cons 4 rfl (SubL.cons 5 rfl SubL.nil))) (RD_t 7 rfl kR rfl (fun _ hK => v_build bf32 rfl rfl) ?_))
  refine RD_run [9] kR rfl (RDs.cons rfl ?_ RDs.nil)
  refine o_store_B 2 H sizeOf32 rfl rfl rfl rfl rfl rfl rfl rfl ?_; intro w174 H
  refine R_nil (N_DKlast kR kR (N_K (W_seq (q2 (aG rfl (q3 (W_block ?_)))))))
  obtain ⟨G175, H, hsg175, hsr175⟩ := H.shut' (k := 1) rfl hchk172 aN aN
  have hr1'' := hr1''.up hsg175
  have hchk173 := hchk173.up hsg175
  obtain ⟨G176, H, hsg176, hsr176⟩ := H.shut' (k := 0) rfl hchk173 aN aN
  have hr1'' := hr1''.up hsg176
  have hsr175 := hsr175.up hsg176
  obtain ⟨ln177, hln177, H⟩ := H.nameAt (k := 0) (off := 2) rfl rfl
  obtain ⟨ln178, hln178, H⟩ := H.name (k := 2) rfl
  obtain ⟨ln179, hln179, H⟩ := H.name (k := 3) rfl
  refine W_lp (hf := (Sub.cons (t := 1) rfl (Sub.cons (t := 2) rfl (Sub.cons (t := 3) rfl Sub.nil)))) (J := fun M w m => ∃ (v : Value) (n : Nat) (cs : List Value) (xs : List (BSnap)) (k : Nat) (G : PH), M = [(4, .int .i64 (k : Int))] ∧ PLe G176 G ∧ Hp w0 G0 [] w G [blk b171 (cl (setN ln177 2 v) 32), acc 58 2 v n cs, blk b3 (cl ln178 32), blk b2 (cl ln179 32)] ∧ (Chk snapE 2 G cs xs ∧ n = xs.length ∧ k ≤ d.snaps.length ∧ xs.length = k ∧ xs = d.snaps.take k) ∧ m = (d.snaps.length - k)) (h0 := ⟨_, _, _, [], 0, _, rfl, PLe.refl _, H, ?inv, rfl⟩) (round := ?round)
  case inv => exact ⟨(Chk.nil (E := snapE) (sz := 2) (G := G176)),  by first | rfl | simp | (simp; omega) | omega, (by simp)⟩
  case round =>
   rintro _ w180 _ ⟨v, n, cs, xs, k, G180, rfl, hle180, H, hinv180, rfl⟩
   subst hln177
   subst hln178
   subst hln179
   have hr1'' := hr1''.up hle180
   have hsr175 := hsr175.up hle180
   have hsr176 := hsr176.up hle180
   obtain ⟨hchk180_0, hn180_0, hinv180⟩ := hinv180
   obtain ⟨av180_0, cv180_0, rfl⟩ := H.accShape (k := 1) rfl
   obtain ⟨hk, hxl, hxs⟩ := hinv180
   refine W_seq (q2 (mV rfl (o_fieldAddr 2 runUnderlying32 rfl sizeOf30 rfl rfl rfl (o_load_B 3 H isAgg30 rfl rfl rfl rfl (o_len_slice underlying30 rfl rfl (o_lss rfl rfl rfl (q3 ?_)))))))
   refine W_cond rfl ?_ ?_
   ·intro hc181
    try simp only [nrm] at hc181
    refine W_skip (N_K (W_seq (W_block (W_drawK [0, 2, 3] 20 H kR rfl ?_)))); intro w182 H; have hd182 := PLe.refl G180
    refine RD_t 0 rfl kR rfl (fun _ hK => v_fieldAddr 2 runUnderlying32 rfl sizeOf30 rfl rfl) (RD_t 1 rfl kR rfl (fun _ hK => v_load_B 0 hK isAgg30 rfl rfl rfl) (RD_t 2 rfl kR rfl (fun _ hK => v_fieldAddr 2 runUnderlying32 rfl sizeOf30 rfl rfl) (RD_t 3 rfl kR rfl (fun _ hK => v_load_B 2 hK isAgg30 rfl rfl rfl) (vM 4 rfl rfl ?_))))
    have hl183 := hr1''.len
    obtain ⟨b183, o183, z183, q183, ha183, hz183, hq183, hE183, hrow183, _⟩ := hr1''.at (i := k) oM
    clear hq183
    obtain ⟨a183, m183, c183, rfl, hi183, hr183⟩ := hE183; have hy_hi183 : _ ≤ 16777216 := hi183; have hn_hr183 := hr183.len; have hx_hr183 : _ ≤ 1099511627776 := hr183.lim
    refine RD_t 5 rfl kR rfl (fun _ hK => v_index_P (i := k) ha183 underlying30 sizeOf58 rfl rfl rfl oM) (RD_t 6 rfl kR rfl (fun _ hK => v_fieldAddr 0 runUnderlying58 rfl sizeOf9 rfl rfl) (RD_t 7 rfl kR rfl (fun _ hK => v_load_P hK isAgg9 rfl (hrow183 0 _ rfl)) (RD_t 8 rfl kR rfl (fun _ hK => v_fieldAddr 2 runUnderlying32 rfl sizeOf30 rfl rfl) (RD_t 9 rfl kR rfl (fun _ hK => v_load_B 2 hK isAgg30 rfl rfl rfl) (vM 10 rfl rfl ?_)))))
    have hl184 := hr1''.len
    obtain ⟨b184, o184, z184, q184, ha184, hz184, hq184, hE184, hrow184, _⟩ := hr1''.at (i := k) oM
    clear hq184
    obtain ⟨a184, m184, c184, rfl, hi184, hr184⟩ := hE184; have hy_hi184 : _ ≤ 16777216 := hi184; have hn_hr184 := hr184.len; have hx_hr184 : _ ≤ 1099511627776 := hr184.lim
    have hzz184 : z183 = z184 := Option.some.inj (hz183.symm.trans hz184)
    subst hzz184
    refine RD_t 11 rfl kR rfl (fun _ hK => v_index_P (i := k) ha184 underlying30 sizeOf58 rfl rfl rfl oM) (RD_t 12 rfl kR rfl (fun _ hK => v_fieldAddr 1 runUnderlying58 rfl sizeOf29 rfl rfl) (RD_t 13 rfl kR rfl (fun _ hK => v_load_P hK isAgg29 rfl (hrow184 1 _ rfl)) ?_))
    refine RD_run [14] kR rfl (RDs.cons rfl ?_ RDs.nil)
    refine o_call call87 rfl rfl (l5All_c _ _ H.sub _ _ hr184 ) ?_
    rintro _ w185 ⟨G185, v185, _, g185, rfl, ⟨cs185, rfl, hchk185⟩, hp185, hq185, hs185⟩
    have H := H.growO g185 hp185 hq185 hs185; obtain ⟨av185, cv185, rfl⟩ := H.accShape (k := 0) rfl
    have hchk180_0 := hchk180_0.up g185.le
    have hle180 := hle180.trans g185.le
    have hd182 := hd182.trans g185.le
    refine ⟨_, rfl, ?_⟩
    refine R_nil (N_DK (Kn.of' H hd182 (SubL.cons 1 rfl (SubL.cons 3 rfl (SubL.cons 4 rfl SubL.nil)))) (RD_t 15 rfl kR rfl (fun _ hK => v_build bf58 rfl rfl) ?_))
    refine RD_run [16] kR rfl (RDs.cons rfl ?_ RDs.nil)
    refine o_buildSlice H underlying30 sizeOf58 (fun w => ⟨_, zeroValue58 w, rfl⟩) rfl rfl rfl rfl rfl rfl rfl ?_; intro b186 w186 hb186 H
    refine R_nil (N_DK (Kn.of' H hd182 (SubL.cons 2 rfl (SubL.cons 4 rfl (SubL.cons 5 rfl SubL.nil)))) ?_)
    refine RD_run [17] kR rfl (RDs.cons rfl ?_ RDs.nil)
    refine o_append1 2 H (sz := 2) (bytes := 40) underlying30 typeInfo58 ⟨_, rfl, rfl⟩ rfl rfl rfl rfl rfl rfl rfl rfl rfl rfl oM rfl ?_; intro v187 w187 H
    obtain ⟨G188, H, hsg188, hsr188⟩ := H.shut' (k := 0) rfl hchk185 aN aN
    have hchk180_0 := hchk180_0.up hsg188
    have hle180 := hle180.trans hsg188
    have hd182 := hd182.trans hsg188
    have hchk187 := hchk180_0.snoc (show snapE _ ⟨z183.name, z183.tree⟩ _ from ⟨_, _, _, rfl, hi183, hsr188⟩) rfl
    obtain ⟨av187, cv187, rfl⟩ := H.accShape (k := 1) rfl
    refine R_nil (N_DK (Kn.of' H hd182 (SubL.cons 0 rfl (SubL.cons 2 rfl (SubL.cons 3 rfl SubL.nil)))) (RD_t 18 rfl kR rfl (fun _ hK => v_fieldAddr 2 runUnderlying32 rfl sizeOf30 rfl rfl) ?_))
    refine RD_run [19] kR rfl (RDs.cons rfl ?_ RDs.nil)
    refine o_store_B 0 H sizeOf30 rfl rfl rfl rfl rfl rfl rfl rfl ?_; intro w189 H
    refine R_nil (N_DKlast kR kR (N_B (N_K (W_region (mV rfl (o_add rfl rfl rfl oO (aG rfl (R_nil ?_))))))))
    refine N_lp (hJ := ⟨_, _, _, (xs ++ [⟨z183.name, z183.tree⟩]), k + 1, _, rfl, hle180, H, ?inv, rfl⟩) (hm := ?hm)
    case hm => omega
    case inv => exact ⟨hchk187, aN, (by exact ⟨by omega, by simp [hxl], by rw [Sp.take_succ' hz183, hxs]⟩)⟩
   intro hc181'
   try simp only [nrm] at hc181'
   refine W_exit (N_K_exit (N_LP_exit (N_B_same (N_K (q2 (o_loadagg_B 0 H isAgg32 sizeOf32 rfl rfl rfl rfl rfl (o_store_B 2 H sizeOf32 rfl rfl rfl rfl rfl rfl rfl rfl ?_))))))); intro w191 H
   refine q3 (W_ret (ret_gen (rs := [.cell 2 32]) (vs := [_]) results54 ⟨⟨_, rfl, load_blk 2 H isAgg32 sizeOf32 rfl rfl rfl⟩, trivial⟩ ?_))
   obtain rfl : k = d.snaps.length := by omega
   rw [List.take_length] at hxs
   subst hxs
   exact H.retO (k := 1) rfl ⟨_, _, _, rfl, AccOf.mk aN hchk180_0, hsr175, hsr176⟩ (acc_nd _ _ _ _ _)
 skip
 refine o_alloc H zeroValue32 rfl rfl ?_; intro b192 w192 hb192 H
 refine R_nil (N_DK (Kn.of' H hd4 (SubL.cons 1 rfl (SubL.cons 2 rfl SubL.nil))) ?_)
 refine RD_run [2, 6] kR rfl (RDs.cons rfl ?_ (RDs.cons rfl ?_ RDs.nil))
 ·skip
  refine o_call call109 rfl rfl (l3Copy_c _ _ H.sub _ _ hr1 ) ?_
  rintro _ w193 ⟨G193, v193, _, g193, rfl, ⟨cs193, rfl, hchk193⟩, hp193, hq193, hs193⟩
  have H := H.growO g193 hp193 hq193 hs193; obtain ⟨av193, cv193, rfl⟩ := H.accShape (k := 0) rfl
  have hr1' := hr1'.up g193.le
  have hr1'' := hr1''.up g193.le
  have hd4 := hd4.trans g193.le
  refine ⟨_, rfl, ?_⟩
  refine R_nil (N_DK (Kn.of' H hd4 (SubL.cons 2 rfl (SubL.cons 3 rfl SubL.nil))) ?_)
  refine RD_run [5, 6] kR rfl (RDs.cons rfl ?_ (RDs.cons rfl ?_ RDs.nil))
  ·skip
   refine o_call call87 rfl rfl (l5All_c _ _ H.sub _ _ hr1' ) ?_
   rintro _ w194 ⟨G194, v194, _, g194, rfl, ⟨cs194, rfl, hchk194⟩, hp194, hq194, hs194⟩
   have H := H.growO g194 hp194 hq194 hs194; obtain ⟨av194, cv194, rfl⟩ := H.accShape (k := 0) rfl
   have hr1'' := hr1''.up g194.le
   have hchk193 := hchk193.up g194.le
   have hd4 := hd4.trans g194.le
   refine ⟨_, rfl, ?_⟩
   refine R_nil (N_DK (Kn.of' H hd4 (SubL.cons 3 rfl (SubL.cons 4 rfl SubL.nil))) ?_)
   refine RD_run [6] kR rfl (RDs.cons rfl ?_ RDs.nil)
   refine o_buildSlice H underlying30 sizeOf58 (fun w => ⟨_, zeroValue58 w, rfl⟩) rfl rfl rfl rfl rfl rfl rfl ?_; intro b195 w195 hb195 H
   have H := H.blkAcc 2 (k := 0) (n := 0) rfl rfl (by decide)
   refine R_nil (N_DK (Kn.of' H hd4 (SubL.cons 4 rfl (SubL.cons 5 rfl SubL.nil))) (RD_t 7 rfl kR rfl (fun _ hK => v_build bf32 rfl rfl) ?_))
   refine RD_run [9] kR rfl (RDs.cons rfl ?_ RDs.nil)
   refine o_store_B 3 H sizeOf32 rfl rfl rfl rfl rfl rfl rfl rfl ?_; intro w196 H
   refine R_nil (N_DKlast kR kR (N_K (W_seq (q2 (aG rfl (q3 (W_block ?_)))))))
   obtain ⟨G197, H, hsg197, hsr197⟩ := H.shut' (k := 2) rfl hchk193 aN aN
   have hr1'' := hr1''.up hsg197
   have hchk194 := hchk194.up hsg197
   obtain ⟨G198, H, hsg198, hsr198⟩ := H.shut' (k := 1) rfl hchk194 aN aN
   have hr1'' := hr1''.up hsg198
   have hsr197 := hsr197.up hsg198
   obtain ⟨ln199, hln199, H⟩ := H.nameAt (k := 1) (off := 2) rfl rfl
   obtain ⟨ln200, hln200, H⟩ := H.name (k := 2) rfl
   obtain ⟨ln201, hln201, H⟩ := H.name (k := 3) rfl
   refine W_lp (hf := (Sub.cons (t := 1) rfl (Sub.cons (t := 2) rfl (Sub.cons (t := 3) rfl Sub.nil)))) (J := fun M w m => ∃ (v : Value) (n : Nat) (cs : List Value) (xs : List (BSnap)) (k : Nat) (G : PH), M = [(4, .int .i64 (k : Int))] ∧ PLe G198 G ∧ Hp w0 G0 [] w G [acc 58 2 v n cs, blk b192 (cl (setN ln199 2 v) 32), blk b3 (cl ln200 32), blk b2 (cl ln201 32)] ∧ (Chk snapE 2 G cs xs ∧ n = xs.length ∧ k ≤ d.snaps.length ∧ xs.length = k ∧ xs = d.snaps.take k) ∧ m = (d.snaps.length - k)) (h0 := ⟨_, _, _, [], 0, _, rfl, PLe.refl _, H, ?inv, rfl⟩) (round := ?round)
   case inv => exact ⟨(Chk.nil (E := snapE) (sz := 2) (G := G198)),  by first | rfl | simp | (simp; omega) | omega, (by simp)⟩
   case round =>
    rintro _ w202 _ ⟨v, n, cs, xs, k, G202, rfl, hle202, H, hinv202, rfl⟩
    subst hln199
    subst hln200
    subst hln201
    have hr1'' := hr1''.up hle202
    have hsr197 := hsr197.up hle202
    have hsr198 := hsr198.up hle202
    obtain ⟨hchk202_0, hn202_0, hinv202⟩ := hinv202
    obtain ⟨av202_0, cv202_0, rfl⟩ := H.accShape (k := 0) rfl
    obtain ⟨hk, hxl, hxs⟩ := hinv202
    refine W_seq (q2 (mV rfl (o_fieldAddr 2 runUnderlying32 rfl sizeOf30 rfl rfl rfl (o_load_B 3 H isAgg30 rfl rfl rfl rfl (o_len_slice underlying30 rfl rfl (o_lss rfl rfl rfl (q3 ?_)))))))
    refine W_cond rfl ?_ ?_
    ·intro hc203
     try simp only [nrm] at hc203
     refine W_skip (N_K (W_seq (W_block (W_drawK [1, 2, 3] 20 H kR rfl ?_)))); intro w204 H; have hd204 := PLe.refl G202
     refine RD_t 0 rfl kR rfl (fun _ hK => v_fieldAddr 2 runUnderlying32 rfl sizeOf30 rfl rfl) (RD_t 1 rfl kR rfl (fun _ hK => v_load_B 0 hK isAgg30 rfl rfl rfl) (RD_t 2 rfl kR rfl (fun _ hK => v_fieldAddr 2 runUnderlying32 rfl sizeOf30 rfl rfl) (RD_t 3 rfl kR rfl (fun _ hK => v_load_B 2 hK isAgg30 rfl rfl rfl) (vM 4 rfl rfl ?_))))
     have hl205 := hr1''.len
     obtain ⟨b205, o205, z205, q205, ha205, hz205, hq205, hE205, hrow205, _⟩ := hr1''.at (i := k) oM
     clear hq205
     obtain ⟨a205, m205, c205, rfl, hi205, hr205⟩ := hE205; have hy_hi205 : _ ≤ 16777216 := hi205; have hn_hr205 := hr205.len; have hx_hr205 : _ ≤ 1099511627776 := hr205.lim
     refine RD_t 5 rfl kR rfl (fun _ hK => v_index_P (i := k) ha205 underlying30 sizeOf58 rfl rfl rfl oM) (RD_t 6 rfl kR rfl (fun _ hK => v_fieldAddr 0 runUnderlying58 rfl sizeOf9 rfl rfl) (RD_t 7 rfl kR rfl (fun _ hK => v_load_P hK isAgg9 rfl (hrow205 0 _ rfl)) (RD_t 8 rfl kR rfl (fun _ hK => v_fieldAddr 2 runUnderlying32 rfl sizeOf30 rfl rfl) (RD_t 9 rfl kR rfl (fun _ hK => v_load_B 2 hK isAgg30 rfl rfl rfl) (vM 10 rfl rfl ?_)))))
     have hl206 := hr1''.len
     obtain ⟨b206, o206, z206, q206, ha206, hz206, hq206, hE206, hrow206, _⟩ := hr1''.at (i := k) oM
     clear hq206
     obtain ⟨a206, m206, c206, rfl, hi206, hr206⟩ := hE206; have hy_hi206 : _ ≤ 16777216 := hi206; have hn_hr206 := hr206.len; have hx_hr206 : _ ≤ 1099511627776 := hr206.lim
     have hzz206 : z205 = z206 := Option.some.inj (hz205.symm.trans hz206)
     subst hzz206
     refine RD_t 11 rfl kR rfl (fun _ hK => v_index_P (i := k) ha206 underlying30 sizeOf58 rfl rfl rfl oM) (RD_t 12 rfl kR rfl (fun _ hK => v_fieldAddr 1 runUnderlying58 rfl sizeOf29 rfl rfl) (RD_t 13 rfl kR rfl (fun _ hK => v_load_P hK isAgg29 rfl (hrow206 1 _ rfl)) ?_))
     refine RD_run [14] kR rfl (RDs.cons rfl ?_ RDs.nil)
     refine o_call call87 rfl rfl (l5All_c _ _ H.sub _ _ hr206 ) ?_
     rintro _ w207 ⟨G207, v207, _, g207, rfl, ⟨cs207, rfl, hchk207⟩, hp207, hq207, hs207⟩
     have H := H.growO g207 hp207 hq207 hs207; obtain ⟨av207, cv207, rfl⟩ := H.accShape (k := 0) rfl
     have hchk202_0 := hchk202_0.up g207.le
     have hle202 := hle202.trans g207.le
     have hd204 := hd204.trans g207.le
     refine ⟨_, rfl, ?_⟩
     refine R_nil (N_DK (Kn.of' H hd204 (SubL.cons 2 rfl (SubL.cons 3 rfl (SubL.cons 4 rfl SubL.nil)))) (RD_t 15 rfl kR rfl (fun _ hK => v_build bf58 rfl rfl) ?_))
     refine RD_run [16] kR rfl (RDs.cons rfl ?_ RDs.nil)
     refine o_buildSlice H underlying30 sizeOf58 (fun w => ⟨_, zeroValue58 w, rfl⟩) rfl rfl rfl rfl rfl rfl rfl ?_; intro b208 w208 hb208 H
     refine R_nil (N_DK (Kn.of' H hd204 (SubL.cons 3 rfl (SubL.cons 4 rfl (SubL.cons 5 rfl SubL.nil)))) ?_)
     refine RD_run [17] kR rfl (RDs.cons rfl ?_ RDs.nil)
     refine o_append1 1 H (sz := 2) (bytes := 40) underlying30 typeInfo58 ⟨_, rfl, rfl⟩ rfl rfl rfl rfl rfl rfl rfl rfl rfl rfl oM rfl ?_; intro v209 w209 H
     obtain ⟨G210, H, hsg210, hsr210⟩ := H.shut' (k := 0) rfl hchk207 aN aN
     have hchk202_0 := hchk202_0.up hsg210
     have hle202 := hle202.trans hsg210
     have hd204 := hd204.trans hsg210
     have hchk209 := hchk202_0.snoc (show snapE _ ⟨z205.name, z205.tree⟩ _ from ⟨_, _, _, rfl, hi205, hsr210⟩) rfl
     obtain ⟨av209, cv209, rfl⟩ := H.accShape (k := 0) rfl
     refine R_nil (N_DK (Kn.of' H hd204 (SubL.cons 1 rfl (SubL.cons 2 rfl (SubL.cons 3 rfl SubL.nil)))) (RD_t 18 rfl kR rfl (fun _ hK => v_fieldAddr 2 runUnderlying32 rfl sizeOf30 rfl rfl) ?_))
     refine RD_run [19] kR rfl (RDs.cons rfl ?_ RDs.nil)
     refine o_store_B 1 H sizeOf30 rfl rfl rfl rfl rfl rfl rfl rfl ?_; intro w211 H
     refine R_nil (N_DKlast kR kR (N_B (N_K (W_region (mV rfl (o_add rfl rfl rfl oO (aG rfl (R_nil ?_))))))))
     refine N_lp (hJ := ⟨_, _, _, (xs ++ [⟨z205.name, z205.tree⟩]), k + 1, _, rfl, hle202, H, ?inv, rfl⟩) (hm := ?hm)
     case hm => omega
     case inv => exact ⟨hchk209, aN, (by exact ⟨by omega, by simp [hxl], by rw [Sp.take_succ' hz205, hxs]⟩)⟩
    intro hc203'
    try simp only [nrm] at hc203'
    refine W_exit (N_K_exit (N_LP_exit (N_B_same (N_K (q2 (o_loadagg_B 1 H isAgg32 sizeOf32 rfl rfl rfl rfl rfl (o_store_B 2 H sizeOf32 rfl rfl rfl rfl rfl rfl rfl rfl ?_))))))); intro w213 H
    refine q3 (W_ret (ret_gen (rs := [.cell 2 32]) (vs := [_]) results54 ⟨⟨_, rfl, load_blk 2 H isAgg32 sizeOf32 rfl rfl rfl⟩, trivial⟩ ?_))
    obtain rfl : k = d.snaps.length := by omega
    rw [List.take_length] at hxs
    subst hxs
    exact H.retO (k := 0) rfl ⟨_, _, _, rfl, AccOf.mk aN hchk202_0, hsr197, hsr198⟩ (acc_nd _ _ _ _ _)
  skip
  refine o_buildSlice H underlying30 sizeOf58 (fun w => ⟨_, zeroValue58 w, rfl⟩) rfl rfl rfl rfl rfl rfl rfl ?_; intro b214 w214 hb214 H
  have H := H.blkAcc 2 (k := 0) (n := 0) rfl rfl (by decide)
  refine R_nil (N_DK (Kn.of' H hd4 (SubL.cons 3 rfl (SubL.cons 4 rfl SubL.nil))) ?_)
  refine RD_run [5] kR rfl (RDs.cons rfl ?_ RDs.nil)
  refine o_call call87 rfl rfl (l5All_c _ _ H.sub _ _ hr1' ) ?_
  rintro _ w215 ⟨G215, v215, _, g215, rfl, ⟨cs215, rfl, hchk215⟩, hp215, hq215, hs215⟩
  have H := H.growO g215 hp215 hq215 hs215; obtain ⟨av215, cv215, rfl⟩ := H.accShape (k := 0) rfl
  have hr1'' := hr1''.up g215.le
  have hchk193 := hchk193.up g215.le
  have hd4 := hd4.trans g215.le
  refine ⟨_, rfl, ?_⟩
  refine R_nil (N_DK (Kn.of' H hd4 (SubL.cons 4 rfl (SubL.cons 5 rfl SubL.nil))) (RD_t 7 rfl kR rfl (fun _ hK => v_build bf32 rfl rfl) ?_))
  refine RD_run [9] kR rfl (RDs.cons rfl ?_ RDs.nil)
  refine o_store_B 3 H sizeOf32 rfl rfl rfl rfl rfl rfl rfl rfl ?_; intro w216 H
  refine R_nil (N_DKlast kR kR (N_K (W_seq (q2 (aG rfl (q3 (W_block ?_)))))))
  obtain ⟨G217, H, hsg217, hsr217⟩ := H.shut' (k := 2) rfl hchk193 aN aN
  have hr1'' := hr1''.up hsg217
  have hchk215 := hchk215.up hsg217
  obtain ⟨G218, H, hsg218, hsr218⟩ := H.shut' (k := 0) rfl hchk215 aN aN
  have hr1'' := hr1''.up hsg218
  have hsr217 := hsr217.up hsg218
  obtain ⟨ln219, hln219, H⟩ := H.nameAt (k := 1) (off := 2) rfl rfl
  obtain ⟨ln220, hln220, H⟩ := H.name (k := 2) rfl
  obtain ⟨ln221, hln221, H⟩ := H.name (k := 3) rfl
  refine W_lp (hf := (Sub.cons (t := 1) rfl (Sub.cons (t := 2) rfl (Sub.cons (t := 3) rfl Sub.nil)))) (J := fun M w m => ∃ (v : Value) (n : Nat) (cs : List Value) (xs : List (BSnap)) (k : Nat) (G : PH), M = [(4, .int .i64 (k : Int))] ∧ PLe G218 G ∧ Hp w0 G0 [] w G [acc 58 2 v n cs, blk b192 (cl (setN ln219 2 v) 32), blk b3 (cl ln220 32), blk b2 (cl ln221 32)] ∧ (Chk snapE 2 G cs xs ∧ n = xs.length ∧ k ≤ d.snaps.length ∧ xs.length = k ∧ xs = d.snaps.take k) ∧ m = (d.snaps.length - k)) (h0 := ⟨_, _, _, [], 0, _, rfl, PLe.refl _, H, ?inv, rfl⟩) (round := ?round)
  case inv => exact ⟨(Chk.nil (E := snapE) (sz := 2) (G := G218)),  by first | rfl | simp | (simp; omega) | omega, (by simp)⟩
  case round =>
   rintro _ w222 _ ⟨v, n, cs, xs, k, G222, rfl, hle222, H, hinv222, rfl⟩
   subst hln219
   subst hln220
   subst hln221
   have hr1'' := hr1''.up hle222
   have hsr217 := hsr217.up hle222
   have hsr218 := hsr218.up hle222
   obtain ⟨hchk222_0, hn222_0, hinv222⟩ := hinv222
   obtain ⟨av222_0, cv222_0, rfl⟩ := H.accShape (k := 0) rfl
   obtain ⟨hk, hxl, hxs⟩ := hinv222
   refine W_seq (q2 (mV rfl (o_fieldAddr 2 runUnderlying32 rfl sizeOf30 rfl rfl rfl (o_load_B 3 H isAgg30 rfl rfl rfl rfl (o_len_slice underlying30 rfl rfl (o_lss rfl rfl rfl (q3 ?_)))))))
   refine W_cond rfl ?_ ?_
   ·intro hc223
    try simp only [nrm] at hc223
    refine W_skip (N_K (W_seq (W_block (W_drawK [1, 2, 3] 20 H kR rfl ?_)))); intro w224 H; have hd224 := PLe.refl G222
    refine RD_t 0 rfl kR rfl (fun _ hK => v_fieldAddr 2 runUnderlying32 rfl sizeOf30 rfl rfl) (RD_t 1 rfl kR rfl (fun _ hK => v_load_B 0 hK isAgg30 rfl rfl rfl) (RD_t 2 rfl kR rfl (fun _ hK => v_fieldAddr 2 runUnderlying32 rfl sizeOf30 rfl rfl) (RD_t 3 rfl kR rfl (fun _ hK => v_load_B 2 hK isAgg30 rfl rfl rfl) (vM 4 rfl rfl ?_))))
    have hl225 := hr1''.len
    obtain ⟨b225, o225, z225, q225, ha225, hz225, hq225, hE225, hrow225, _⟩ := hr1''.at (i := k) oM
    clear hq225
    obtain ⟨a225, m225, c225, rfl, hi225, hr225⟩ := hE225; have hy_hi225 : _ ≤ 16777216 := hi225; have hn_hr225 := hr225.len; have hx_hr225 : _ ≤ 1099511627776 := hr225.lim
    refine RD_t 5 rfl kR rfl (fun _ hK => v_index_P (i := k) ha225 underlying30 sizeOf58 rfl rfl rfl oM) (RD_t 6 rfl kR rfl (fun _ hK => v_fieldAddr 0 runUnderlying58 rfl sizeOf9 rfl rfl) (RD_t 7 rfl kR rfl (fun _ hK => v_load_P hK isAgg9 rfl (hrow225 0 _ rfl)) (RD_t 8 rfl kR rfl (fun _ hK => v_fieldAddr 2 runUnderlying32 rfl sizeOf30 rfl rfl) (RD_t 9 rfl kR rfl (fun _ hK => v_load_B 2 hK isAgg30 rfl rfl rfl) (vM 10 rfl rfl ?_)))))
    have hl226 := hr1''.len
    obtain ⟨b226, o226, z226, q226, ha226, hz226, hq226, hE226, hrow226, _⟩ := hr1''.at (i := k) oM
    clear hq226
    obtain ⟨a226, m226, c226, rfl, hi226, hr226⟩ := hE226; have hy_hi226 : _ ≤ 16777216 := hi226; have hn_hr226 := hr226.len; have hx_hr226 : _ ≤ 1099511627776 := hr226.lim
    have hzz226 : z225 = z226 := Option.some.inj (hz225.symm.trans hz226)
    subst hzz226
    refine RD_t 11 rfl kR rfl (fun _ hK => v_index_P (i := k) ha226 underlying30 sizeOf58 rfl rfl rfl oM) (RD_t 12 rfl kR rfl (fun _ hK => v_fieldAddr 1 runUnderlying58 rfl sizeOf29 rfl rfl) (RD_t 13 rfl kR rfl (fun _ hK => v_load_P hK isAgg29 rfl (hrow226 1 _ rfl)) ?_))
    refine RD_run [14] kR rfl (RDs.cons rfl ?_ RDs.nil)
    refine o_call call87 rfl rfl (l5All_c _ _ H.sub _ _ hr226 ) ?_
    rintro _ w227 ⟨G227, v227, _, g227, rfl, ⟨cs227, rfl, hchk227⟩, hp227, hq227, hs227⟩
    have H := H.growO g227 hp227 hq227 hs227; obtain ⟨av227, cv227, rfl⟩ := H.accShape (k := 0) rfl
    have hchk222_0 := hchk222_0.up g227.le
    have hle222 := hle222.trans g227.le
    have hd224 := hd224.trans g227.le
    refine ⟨_, rfl, ?_⟩
    refine R_nil (N_DK (Kn.of' H hd224 (SubL.cons 2 rfl (SubL.cons 3 rfl (SubL.cons 4 rfl SubL.nil)))) (RD_t 15 rfl kR rfl (fun _ hK => v_build bf58 rfl rfl) ?_))
    refine RD_run [16] kR rfl (RDs.cons rfl ?_ RDs.nil)
    refine o_buildSlice H underlying30 sizeOf58 (fun w => ⟨_, zeroValue58 w, rfl⟩) rfl rfl rfl rfl rfl rfl rfl ?_; intro b228 w228 hb228 H
    refine R_nil (N_DK (Kn.of' H hd224 (SubL.cons 3 rfl (SubL.cons 4 rfl (SubL.cons 5 rfl SubL.nil)))) ?_)
    refine RD_run [17] kR rfl (RDs.cons rfl ?_ RDs.nil)
    refine o_append1 1 H (sz := 2) (bytes := 40) underlying30 typeInfo58 ⟨_, rfl, rfl⟩ rfl rfl rfl rfl rfl rfl rfl rfl rfl rfl oM rfl ?_; intro v229 w229 H
    obtain ⟨G230, H, hsg230, hsr230⟩ := H.shut' (k := 0) rfl hchk227 aN aN
    have hchk222_0 := hchk222_0.up hsg230
    have hle222 := hle222.trans hsg230
    have hd224 := hd224.trans hsg230
    have hchk229 := hchk222_0.snoc (show snapE _ ⟨z225.name, z225.tree⟩ _ from ⟨_, _, _, rfl, hi225, hsr230⟩) rfl
    obtain ⟨av229, cv229, rfl⟩ := H.accShape (k := 0) rfl
    refine R_nil (N_DK (Kn.of' H hd224 (SubL.cons 1 rfl (SubL.cons 2 rfl (SubL.cons 3 rfl SubL.nil)))) (RD_t 18 rfl kR rfl (fun _ hK => v_fieldAddr 2 runUnderlying32 rfl sizeOf30 rfl rfl) ?_))
    refine RD_run [19] kR rfl (RDs.cons rfl ?_ RDs.nil)
    refine o_store_B 1 H sizeOf30 rfl rfl rfl rfl rfl rfl rfl rfl ?_; intro w231 H
    refine R_nil (N_DKlast kR kR (N_B (N_K (W_region (mV rfl (o_add rfl rfl rfl oO (aG rfl (R_nil ?_))))))))
    refine N_lp (hJ := ⟨_, _, _, (xs ++ [⟨z225.name, z225.tree⟩]), k + 1, _, rfl, hle222, H, ?inv, rfl⟩) (hm := ?hm)
    case hm => omega
    case inv => exact ⟨hchk229, aN, (by exact ⟨by omega, by simp [hxl], by rw [Sp.take_succ' hz225, hxs]⟩)⟩
   intro hc223'
   try simp only [nrm] at hc223'
   refine W_exit (N_K_exit (N_LP_exit (N_B_same (N_K (q2 (o_loadagg_B 1 H isAgg32 sizeOf32 rfl rfl rfl rfl rfl (o_store_B 2 H sizeOf32 rfl rfl rfl rfl rfl rfl rfl rfl ?_))))))); intro w233 H
   refine q3 (W_ret (ret_gen (rs := [.cell 2 32]) (vs := [_]) results54 ⟨⟨_, rfl, load_blk 2 H isAgg32 sizeOf32 rfl rfl rfl⟩, trivial⟩ ?_))
   obtain rfl : k = d.snaps.length := by omega
   rw [List.take_length] at hxs
   subst hxs
   exact H.retO (k := 0) rfl ⟨_, _, _, rfl, AccOf.mk aN hchk222_0, hsr217, hsr218⟩ (acc_nd _ _ _ _ _)
 skip
 refine o_buildSlice H underlying30 sizeOf58 (fun w => ⟨_, zeroValue58 w, rfl⟩) rfl rfl rfl rfl rfl rfl rfl ?_; intro b234 w234 hb234 H
 have H := H.blkAcc 2 (k := 0) (n := 0) rfl rfl (by decide)
 refine R_nil (N_DK (Kn.of' H hd4 (SubL.cons 2 rfl (SubL.cons 3 rfl SubL.nil))) ?_)
 refine RD_run [2] kR rfl (RDs.cons rfl ?_ RDs.nil)
 refine o_call call109 rfl rfl (l3Copy_c _ _ H.sub _ _ hr1 ) ?_
 rintro _ w235 ⟨G235, v235, _, g235, rfl, ⟨cs235, rfl, hchk235⟩, hp235, hq235, hs235⟩
 have H := H.growO g235 hp235 hq235 hs235; obtain ⟨av235, cv235, rfl⟩ := H.accShape (k := 0) rfl
 have hr1' := hr1'.up g235.le
 have hr1'' := hr1''.up g235.le
 have hd4 := hd4.trans g235.le
 refine ⟨_, rfl, ?_⟩
 refine R_nil (N_DK (Kn.of' H hd4 (SubL.cons 3 rfl (SubL.cons 4 rfl SubL.nil))) ?_)
 refine RD_run [5] kR rfl (RDs.cons rfl ?_ RDs.nil)
 refine o_call call87 rfl rfl (l5All_c _ _ H.sub _ _ hr1' ) ?_
 rintro _ w236 ⟨G236, v236, _, g236, rfl, ⟨cs236, rfl, hchk236⟩, hp236, hq236, hs236⟩
 have H := H.growO g236 hp236 hq236 hs236; obtain ⟨av236, cv236, rfl⟩ := H.accShape (k := 0) rfl
 have hr1'' := hr1''.up g236.le
 have hchk235 := hchk235.up g236.le
 have hd4 := hd4.trans g236.le
 refine ⟨_, rfl, ?_⟩
 refine R_nil (N_DK (Kn.of' H hd4 (SubL.cons 4 rfl (SubL.cons 5 rfl SubL.nil))) (RD_t 7 rfl kR rfl (fun _ hK => v_build bf32 rfl rfl) ?_))
 refine RD_run [9] kR rfl (RDs.cons rfl ?_ RDs.nil)
 refine o_store_B 3 H sizeOf32 rfl rfl rfl rfl rfl rfl rfl rfl ?_; intro w237 H
 refine R_nil (N_DKlast kR kR (N_K (W_seq (q2 (aG rfl (q3 (W_block ?_)))))))
 obtain ⟨G238, H, hsg238, hsr238⟩ := H.shut' (k := 1) rfl hchk235 aN aN
 have hr1'' := hr1''.up hsg238
 have hchk236 := hchk236.up hsg238
 obtain ⟨G239, H, hsg239, hsr239⟩ := H.shut' (k := 0) rfl hchk236 aN aN
 have hr1'' := hr1''.up hsg239
 have hsr238 := hsr238.up hsg239
 obtain ⟨ln240, hln240, H⟩ := H.nameAt (k := 1) (off := 2) rfl rfl
 obtain ⟨ln241, hln241, H⟩ := H.name (k := 2) rfl
 obtain ⟨ln242, hln242, H⟩ := H.name (k := 3) rfl
 refine W_lp (hf := (Sub.cons (t := 1) rfl (Sub.cons (t := 2) rfl (Sub.cons (t := 3) rfl Sub.nil)))) (J := fun M w m => ∃ (v : Value) (n : Nat) (cs : List Value) (xs : List (BSnap)) (k : Nat) (G : PH), M = [(4, .int .i64 (k : Int))] ∧ PLe G239 G ∧ Hp w0 G0 [] w G [acc 58 2 v n cs, blk b192 (cl (setN ln240 2 v) 32), blk b3 (cl ln241 32), blk b2 (cl ln242 32)] ∧ (Chk snapE 2 G cs xs ∧ n = xs.length ∧ k ≤ d.snaps.length ∧ xs.length = k ∧ xs = d.snaps.take k) ∧ m = (d.snaps.length - k)) (h0 := ⟨_, _, _, [], 0, _, rfl, PLe.refl _, H, ?inv, rfl⟩) (round := ?round)
 case inv => exact ⟨(Chk.nil (E := snapE) (sz := 2) (G := G239)),  by first | rfl | simp | (simp; omega) | omega, (by simp)⟩
 case round =>
  rintro _ w243 _ ⟨v, n, cs, xs, k, G243, rfl, hle243, H, hinv243, rfl⟩
  subst hln240
  subst hln241
  subst hln242
  have hr1'' := hr1''.up hle243
  have hsr238 := hsr238.up hle243
  have hsr239 := hsr239.up hle243
  obtain ⟨hchk243_0, hn243_0, hinv243⟩ := hinv243
  obtain ⟨av243_0, cv243_0, rfl⟩ := H.accShape (k := 0) rfl
  obtain ⟨hk, hxl, hxs⟩ := hinv243
  refine W_seq (q2 (mV rfl (o_fieldAddr 2 runUnderlying32 rfl sizeOf30 rfl rfl rfl (o_load_B 3 H isAgg30 rfl rfl rfl rfl (o_len_slice underlying30 rfl rfl (o_lss rfl rfl rfl (q3 ?_)))))))
  refine W_cond rfl ?_ ?_
  ·intro hc244
   try simp only [nrm] at hc244
   refine W_skip (N_K (W_seq (W_block (W_drawK [1, 2, 3] 20 H kR rfl ?_)))); intro w245 H; have hd245 := PLe.refl G243
   refine RD_t 0 rfl kR rfl (fun _ hK => v_fieldAddr 2 runUnderlying32 rfl sizeOf30 rfl rfl) (RD_t 1 rfl kR rfl (fun _ hK => v_load_B 0 hK isAgg30 rfl rfl rfl) (RD_t 2 rfl kR rfl (fun _ hK => v_fieldAddr 2 runUnderlying32 rfl sizeOf30 rfl rfl) (RD_t 3 rfl kR rfl (fun _ hK => v_load_B 2 hK isAgg30 rfl rfl rfl) (vM 4 rfl rfl ?_))))
   have hl246 := hr1''.len
   obtain ⟨b246, o246, z246, q246, ha246, hz246, hq246, hE246, hrow246, _⟩ := hr1''.at (i := k) oM
   clear hq246
   obtain ⟨a246, m246, c246, rfl, hi246, hr246⟩ := hE246; have hy_hi246 : _ ≤ 16777216 := hi246; have hn_hr246 := hr246.len; have hx_hr246 : _ ≤ 1099511627776 := hr246.lim
   refine RD_t 5 rfl kR rfl (fun _ hK => v_index_P (i := k) ha246 underlying30 sizeOf58 rfl rfl rfl oM) (RD_t 6 rfl kR rfl (fun _ hK => v_fieldAddr 0 runUnderlying58 rfl sizeOf9 rfl rfl) (RD_t 7 rfl kR rfl (fun _ hK => v_load_P hK isAgg9 rfl (hrow246 0 _ rfl)) (RD_t 8 rfl kR rfl (fun _ hK => v_fieldAddr 2 runUnderlying32 rfl sizeOf30 rfl rfl) (RD_t 9 rfl kR rfl (fun _ hK => v_load_B 2 hK isAgg30 rfl rfl rfl) (vM 10 rfl rfl ?_)))))
   have hl247 := hr1''.len
   obtain ⟨b247, o247, z247, q247, ha247, hz247, hq247, hE247, hrow247, _⟩ := hr1''.at (i := k) oM
   clear hq247
   obtain ⟨a247, m247, c247, rfl, hi247, hr247⟩ := hE247; have hy_hi247 : _ ≤ 16777216 := hi247; have hn_hr247 := hr247.len; have hx_hr247 : _ ≤ 1099511627776 := hr247.lim
   have hzz247 : z246 = z247 := Option.some.inj (hz246.symm.trans hz247)
   subst hzz247
   refine RD_t 11 rfl kR rfl (fun _ hK => v_index_P (i := k) ha247 underlying30 sizeOf58 rfl rfl rfl oM) (RD_t 12 rfl kR rfl (fun _ hK => v_fieldAddr 1 runUnderlying58 rfl sizeOf29 rfl rfl) (RD_t 13 rfl kR rfl (fun _ hK => v_load_P hK isAgg29 rfl (hrow247 1 _ rfl)) ?_))
   refine RD_run [14] kR rfl (RDs.cons rfl ?_ RDs.nil)
   refine o_call call87 rfl rfl (l5All_c _ _ H.sub _ _ hr247 ) ?_
   rintro _ w248 ⟨G248, v248, _, g248, rfl, ⟨cs248, rfl, hchk248⟩, hp248, hq248, hs248⟩
   have H := H.growO g248 hp248 hq248 hs248; obtain ⟨av248, cv248, rfl⟩ := H.accShape (k := 0) rfl
   have hchk243_0 := hchk243_0.up g248.le
   have hle243 := hle243.trans g248.le
   have hd245 := hd245.trans g248.le
   refine ⟨_, rfl, ?_⟩
   refine R_nil (N_DK (Kn.of' H hd245 (SubL.cons 2 rfl (SubL.cons 3 rfl (SubL.cons 4 rfl SubL.nil)))) (RD_t 15 rfl kR rfl (fun _ hK => v_build bf58 rfl rfl) ?_))
   refine RD_run [16] kR rfl (RDs.cons rfl ?_ RDs.nil)
   refine o_buildSlice H underlying30 sizeOf58 (fun w => ⟨_, zeroValue58 w, rfl⟩) rfl rfl rfl rfl rfl rfl rfl ?_; intro b249 w249 hb249 H
   refine R_nil (N_DK (Kn.of' H hd245 (SubL.cons 3 rfl (SubL.cons 4 rfl (SubL.cons 5 rfl SubL.nil)))) ?_)
   refine RD_run [17] kR rfl (RDs.cons rfl ?_ RDs.nil)
   refine o_append1 1 H (sz := 2) (bytes := 40) underlying30 typeInfo58 ⟨_, rfl, rfl⟩ rfl rfl rfl rfl rfl rfl rfl rfl rfl rfl oM rfl ?_; intro v250 w250 H
   obtain ⟨G251, H, hsg251, hsr251⟩ := H.shut' (k := 0) rfl hchk248 aN aN
   have hchk243_0 := hchk243_0.up hsg251
   have hle243 := hle243.trans hsg251
   have hd245 := hd245.trans hsg251
   have hchk250 := hchk243_0.snoc (show snapE _ ⟨z246.name, z246.tree⟩ _ from ⟨_, _, _, rfl, hi246, hsr251⟩) rfl
   obtain ⟨av250, cv250, rfl⟩ := H.accShape (k := 0) rfl
   refine R_nil (N_DK (Kn.of' H hd245 (SubL.cons 1 rfl (SubL.cons 2 rfl (SubL.cons 3 rfl SubL.nil)))) (RD_t 18 rfl kR rfl (fun _ hK => v_fieldAddr 2 runUnderlying32 rfl sizeOf30 rfl rfl) ?_))
   refine RD_run [19] kR rfl (RDs.cons rfl ?_ RDs.nil)
   refine o_store_B 1 H sizeOf30 rfl rfl rfl rfl rfl rfl rfl rfl ?_; intro w252 H
   refine R_nil (N_DKlast kR kR (N_B (N_K (W_region (mV rfl (o_add rfl rfl rfl oO (aG rfl (R_nil ?_))))))))
   refine N_lp (hJ := ⟨_, _, _, (xs ++ [⟨z246.name, z246.tree⟩]), k + 1, _, rfl, hle243, H, ?inv, rfl⟩) (hm := ?hm)
   case hm => omega
   case inv => exact ⟨hchk250, aN, (by exact ⟨by omega, by simp [hxl], by rw [Sp.take_succ' hz246, hxs]⟩)⟩
  intro hc244'
  try simp only [nrm] at hc244'
  refine W_exit (N_K_exit (N_LP_exit (N_B_same (N_K (q2 (o_loadagg_B 1 H isAgg32 sizeOf32 rfl rfl rfl rfl rfl (o_store_B 2 H sizeOf32 rfl rfl rfl rfl rfl rfl rfl rfl ?_))))))); intro w254 H
  refine q3 (W_ret (ret_gen (rs := [.cell 2 32]) (vs := [_]) results54 ⟨⟨_, rfl, load_blk 2 H isAgg32 sizeOf32 rfl rfl rfl⟩, trivial⟩ ?_))
  obtain rfl : k = d.snaps.length := by omega
  rw [List.take_length] at hxs
  subst hxs
  exact H.retO (k := 0) rfl ⟨_, _, _, rfl, AccOf.mk aN hchk243_0, hsr238, hsr239⟩ (acc_nd _ _ _ _ _)
end Go.Proofs.Tst

