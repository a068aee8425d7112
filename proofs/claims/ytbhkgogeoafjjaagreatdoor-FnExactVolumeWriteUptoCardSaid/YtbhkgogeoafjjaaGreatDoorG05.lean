/- Part 5 of the proof: contracts of functions of the program. Conditions: none. -/
import Derived.Test.YtbhkgogeoafjjaaGreatDoorProg
import Derived.Test.YtbhkgogeoafjjaaGreatDoorG02
import Derived.Test.YtbhkgogeoafjjaaGreatDoorG03
import Derived.Test.YtbhkgogeoafjjaaGreatDoorG04
import Derived.Conc.MuLone
import Derived.KernelRfl
set_option linter.all false
set_option maxRecDepth 100000
set_option maxHeartbeats 1000000
namespace Go.Proofs.Tst
open Go Fw Tryz
theorem l_genSplit_c (w0 : World) (G0 : PH) (hG : PSub G0 w0) (s : Bs) (hs : s.length ≤ 16777216) (c : UInt8)    :
  Calls Tryz.prog 228 #[str s, str [c], .int .i64 0, .int .i64 (-1)] w0 (RetP w0 G0 (fun G v => RdT G v (Sp.cutAt c s))) := by
 have hcnt := Sp.cnt_le c s
 have H := Hp.init hG
 refine calls_of_W (l := [str s, str [c], .int .i64 0, .int .i64 (-1)]) func228 Z ntmps228 Z (q2 (aG Z (q3 (W_seq (q2 (mV Z (o_eql Z Z Z (q3 ?_))))))))
 refine W_cond Z ?_ ?_
 ·intro hc1
  try simp only [nrm] at hc1
  exact absurd hc1 (by decide)
 intro hc1'
 try simp only [nrm] at hc1'
 refine W_skip (N_K (W_seq (q2 (mV Z (o_seql Z Z Z (q3 ?_))))))
 refine W_cond Z ?_ ?_
 ·intro hc2
  try simp only [nrm] at hc2
  exact absurd hc2 (by simp)
 intro hc2'
 try simp only [nrm] at hc2'
 refine W_skip (N_K (W_seq (q2 (mV Z (o_lss Z Z Z (q3 ?_))))))
 refine W_cond Z ?_ ?_
 ·intro hc3
  try simp only [nrm] at hc3
  refine W_region (mV Z (mV Z (o_call call243 Z Z (l_Count_c _ _ hs _ ) ?_)))
  rintro _ w4 ⟨rfl, ew4⟩; have H := H.step ew4; refine ⟨_, rfl, ?_⟩
  refine o_add Z Z Z oO (aG Z (q1 (mV Z (mV Z (o_len_str underlying9 Z Z (o_add Z Z Z oO (o_min Z Z Z (aG Z (q1 (mV Z (o_makeN (c := (s.count c + 1)) (sz := 1) (bytes := 16) H underlying105 typeInfo9 ⟨_, Z, Z⟩ Z Z Z Z Z Z Z oM oM oM Z ?_))))))))))); intro b7 w7 H
  have hchk7 := Chk.rep (E := strE) (sz := 1) (G := G0) (x0 := []) (⟨rfl, by decide⟩) rfl ((s.count c + 1))
  refine aG Z (q1 (mV Z (o_sub Z Z Z oO (aG Z (q1 (aG Z (q3 (W_seq (W_block ?_)))))))))
  refine W_lp (hf := (Sub.cons (t := 1) Z (Sub.cons (t := 2) Z (Sub.cons (t := 3) Z (Sub.cons (t := 8) Z Sub.nil))))) (J := fun M w m => ∃ (v : Value) (n : Nat) (cs : List Value) (xs : List (Bs)) (r : Bs) (i : Nat) (G : PH), M = [(0, str r), (10, .int .i64 (i : Int)), (9, v)] ∧ PLe G0 G ∧ Hp w0 G0 [] w G [acc 9 1 v n cs] ∧ (Chk strE 1 G cs xs ∧ n = xs.length ∧ i ≤ s.count c ∧ xs.length = s.count c + 1 ∧ r.length ≤ 16777216 ∧ xs.take i ++ Sp.cutAt c r = Sp.cutAt c s ∧ r.count c = s.count c - i) ∧ m = (s.count c + 1 - i)) (h0 := ⟨_, _, _, (List.replicate (s.count c + 1) []), s, 0, _, Z, PLe.refl _, H, ?inv, Z⟩) (round := ?round)
  case inv => exact ⟨hchk7,  by first | rfl | simp | (simp; omega) | omega, (by simp [hs])⟩
  case round =>
   rintro _ w9 _ ⟨v, n, cs, xs, r, i, G9, rfl, hle9, H, hinv9, rfl⟩
   obtain ⟨hchk9_0, hn9_0, hinv9⟩ := hinv9
   obtain ⟨av9_0, cv9_0, rfl⟩ := H.accShape (k := 0) rfl
   obtain ⟨hi, hxl, hrl, hcut, hrc⟩ := hinv9
   refine W_seq (q2 (mV Z (mV Z (o_lss Z Z Z (q3 ?_)))))
   refine W_cond Z ?_ ?_
   ·intro hc10
    try simp only [nrm] at hc10
    refine W_skip (N_K (W_block (q2 (mV Z (mV Z (o_call call244 Z Z (l_Index_c _ _ hrl _ ) ?_))))))
    rintro _ w11 ⟨rfl, ew11⟩; have H := H.step ew11; refine ⟨_, rfl, ?_⟩
    refine aG Z (q3 (W_seq (q2 (mV Z (o_lss Z Z Z (q3 ?_))))))
    refine W_cond Z ?_ ?_
    ·intro hc12
     try simp only [nrm] at hc12
     have hx := Sp.count_none c (Sp.at_none hc12)
     omega
    intro hc12'
    try simp only [nrm] at hc12'
    obtain ⟨m, x, hm1, hm2, hm3, hm4, hm5⟩ := Sp.at_nat hc12'
    have hm6 := Sp.count_some c hm1
    refine W_skip (N_K (q2 (mV Z (mV Z (mV Z (mV Z (mV Z (o_add Z Z Z oO (o_slice_str_to underlying9 Z Z Z oM oM (o_index_A 0 H i Z hchk9_0 underlying105 sizeOf9 Z Z Z Z aN aN ?_)))))))))); intro ba15 z15 q15 hba15 hz15 hE15 hg15; cases hba15
    obtain ⟨rfl, hi15⟩ := hE15; have hy_hi15 : _ ≤ 16777216 := hi15
    have hcl16 := hchk9_0.length
    refine o_store_A 0 H sizeOf9 Z Z Z Z Z (by simp only [vc, List.length_cons, List.length_nil]; omega) ?_; intro w16 H
    have hchk16 := hchk9_0.put (x' := (r.take m)) (off := 0) (vs := [_]) hz15 (fun cs hl hE => by obtain ⟨rfl, _⟩ := hE; exact ⟨congrArg (fun j => [str (List.take j r)]) (show (Sp.optI (List.findIdx? (Sp.isC c) r) + 0).toNat = m by omega), by simp; omega⟩) (by simp only [vc, List.length_cons, List.length_nil]; omega)
    refine q1 (mV Z (mV Z (mV Z (o_len_str underlying9 Z Z ?_))))
    have hll1 : ([c] : Fw.Bs).length = 1 := rfl
    refine o_add Z Z Z oO (o_slice_str_from underlying9 Z Z Z oM oM (aG Z (q3 (W_region (mV Z (o_add Z Z Z oO (aG Z (R_nil (N_B ?_)))))))))
    refine N_lp (hJ := ⟨_, _, _, (xs.set i (r.take m)), (r.drop (Sp.optI (List.findIdx? (Sp.isC c) r) + (([c] : Fw.Bs).length : Int)).toNat), i + 1, _, Z, hle9, H, ?inv, Z⟩) (hm := ?hm)
    case hm => omega
    case inv => exact ⟨hchk16, aN, (by refine ⟨by omega, by simp [hxl], by simp; omega, ?_, ?_⟩; (· rw [show (Sp.optI (List.findIdx? (Sp.isC c) r) + (([c] : Fw.Bs).length : Int)).toNat = m + 1 by omega]; exact Sp.cut_round hcut hm1 oM rfl); (· rw [show (Sp.optI (List.findIdx? (Sp.isC c) r) + (([c] : Fw.Bs).length : Int)).toNat = m + 1 by omega]; omega))⟩
   intro hc10'
   try simp only [nrm] at hc10'
   refine W_exit (N_K_exit (N_LP_exit (N_B_same (N_K (q2 (mV Z (mV Z (mV Z (o_index_A 0 H i Z hchk9_0 underlying105 sizeOf9 Z Z Z Z aN aN ?_))))))))); intro ba20 z20 q20 hba20 hz20 hE20 hg20; cases hba20
   obtain ⟨rfl, hi20⟩ := hE20; have hy_hi20 : _ ≤ 16777216 := hi20
   have hcl21 := hchk9_0.length
   refine o_store_A 0 H sizeOf9 Z Z Z Z Z (by simp only [vc, List.length_cons, List.length_nil]; omega) ?_; intro w21 H
   have hchk21 := hchk9_0.put (x' := r) (off := 0) (vs := [_]) hz20 (fun cs hl hE => by obtain ⟨rfl, _⟩ := hE; exact ⟨rfl, hrl⟩) (by simp only [vc, List.length_cons, List.length_nil]; omega)
   refine q1 ?_
   obtain ⟨G22, H, hsg22, hsr22⟩ := H.shut' (k := 0) rfl hchk21 aN aN
   refine mV Z (mV Z (o_add Z Z Z oO ?_))
   have hcap24 := hsr22.cap; try simp only [List.length_set, List.length_append, List.length_take, List.length_drop, List.length_replicate] at hcap24
   refine o_slice_to (j := (i + 1)) underlying105 sizeOf9 Z Z Z oM oM ?_
   have hsl24 := hsr22.take (j := (i + 1)) aN
   have hsn2 := hsl24.len
   refine aG Z (q3 (W_ret (rt1 results228 Z ?_)))
   obtain rfl : i = s.count c := by omega
   have hcl := Sp.cut_last hcut oM oM
   exact H.retP (by rw [← hcl]; exact hsl24)
 intro hc3'
 try simp only [nrm] at hc3'
 exact absurd hc3' (by decide)
theorem l_Split_c (w0 : World) (G0 : PH) (hG : PSub G0 w0) (s : Bs) (hs : s.length ≤ 16777216) (c : UInt8)  :
  Calls Tryz.prog 218 #[str s, str [c]] w0 (RetP w0 G0 (fun G v => RdT G v (Sp.cutAt c s))) := by
 have H := Hp.init hG
 refine calls_of_W (l := [str s, str [c]]) func218 Z ntmps218 Z (q2 (aG Z (q1 (mV Z (mV Z (o_call call228 Z Z (l_genSplit_c _ _ H.sub _ hs _   ) ?_))))))
 rintro _ w1 ⟨G1, u1_0, g1, rfl, hr1_0⟩
 have H := H.grow g1
 obtain ⟨a1_0, k1_0, rfl⟩ := hr1_0.shape; have hx_hr1_0 : _ ≤ 1099511627776 := hr1_0.lim
 refine ⟨_, Z, ?_⟩
 refine aG Z (q3 (W_ret (rt1 results218 Z ?_)))
 exact H.retP hr1_0
theorem i_parts_c (w0 : World) (G0 : PH) (hG : PSub G0 w0) (p : Bs) (hp : p.length ≤ 16777216)  :
  Calls Tryz.prog 196 #[str p] w0 (RetP w0 G0 (fun G v => RdT G v (Sp.parts p))) := by
 have H := Hp.init hG
 refine calls_of_W (l := [str p]) func196 Z ntmps196 Z (q2 (aG Z (q3 (W_seq (q2 (mV Z (o_len_str underlying193 Z Z (o_gtr Z Z Z (q3 ?_)))))))))
 refine W_cond Z ?_ ?_
 ·intro hc1
  try simp only [nrm] at hc1
  refine q2 (aG Z (q3 (W_ret (N_K_ret (rt1 results196 Z ?_)))))
  exact H.retP (by rw [show Sp.parts p = _ from by exact Sp.parts_long oM]; exact (RdS.nil _ _ _))
 intro hc1'
 try simp only [nrm] at hc1'
 refine W_skip (N_K (q2 (mV Z (o_call call218 Z Z (l_Split_c _ _ H.sub _ hp _ ) ?_))))
 rintro _ w2 ⟨G2, u2_0, g2, rfl, hr2_0⟩
 have H := H.grow g2
 obtain ⟨a2_0, k2_0, rfl⟩ := hr2_0.shape; have hx_hr2_0 : _ ≤ 1099511627776 := hr2_0.lim
 refine ⟨_, Z, ?_⟩
 refine aG Z (q3 (W_seq (q2 (mV Z (o_len_slice underlying105 Z Z (o_gtr Z Z Z (q3 ?_)))))))
 refine W_cond Z ?_ ?_
 ·intro hc3
  try simp only [nrm] at hc3
  refine q2 (aG Z (q3 (W_ret (N_K_ret (rt1 results196 Z ?_)))))
  exact H.retP (by rw [show Sp.parts p = _ from by exact Sp.parts_many (by rw [← Sp.cutAt_47]; omega)]; exact (RdS.nil _ _ _))
 intro hc3'
 try simp only [nrm] at hc3'
 refine W_skip (N_K (W_seq (q2 (mV Z (o_len_slice underlying105 Z Z (mV Z (q3 (W_block ?_))))))))
 refine W_lp (hf := (Sub.cons (t := 3) Z (Sub.cons (t := 14) Z (Sub.cons (t := 15) Z Sub.nil)))) (J := fun M w m => ∃ (k : Nat) (G : PH), M = [(16, .int .i64 (k : Int))] ∧ PLe G2 G ∧ Hp w0 G0 [] w G [] ∧ (k ≤ (Sp.cutAt 47 p).length ∧ ((Sp.cutAt 47 p).take k).all Sp.l1Word = true) ∧ m = ((Sp.cutAt 47 p).length - k)) (h0 := ⟨0, _, Z, PLe.refl _, H, ?inv, Z⟩) (round := ?round)
 case inv => exact ⟨by omega, by simp⟩
 case round =>
  rintro _ w4 _ ⟨k, G4, rfl, hle4, H, hinv4, rfl⟩
  have hr2_0 := hr2_0.up hle4
  obtain ⟨hk, hall⟩ := hinv4
  refine q2 (o_lss Z Z Z (q3 (W_seq ?_)))
  refine W_cond Z ?_ ?_
  ·intro hc5
   try simp only [nrm] at hc5
   refine W_skip (N_K (W_seq (W_block (q2 (o_index_P k hr2_0 underlying105 sizeOf9 Z Z Z Z aN ?_))))); intro b6 o6 z6 q6 hz6 hE6 hrow6
   obtain ⟨rfl, hi6⟩ := hE6; have hy_hi6 : _ ≤ 16777216 := hi6
   refine o_load_P H isAgg9 Z Z (hrow6 0 _ Z) (aG Z (q1 (mV Z (o_call call141 Z Z (i_partValid_c _ _ hi6 ) ?_))))
   rintro _ w7 ⟨rfl, ew7⟩; have H := H.step ew7; refine ⟨_, rfl, ?_⟩
   refine o_not Z Z (q3 ?_)
   refine W_cond Z ?_ ?_
   ·intro hc8
    try simp only [nrm] at hc8
    refine q2 (aG Z (q3 (W_ret (N_B_ret (N_K_ret (N_LP_ret (N_B_ret (N_K_ret (rt1 results196 Z ?_)))))))))
    exact H.retP (by rw [show Sp.parts p = _ from by exact Sp.parts_bad (by rw [← Sp.cutAt_47]; exact hz6) hc8]; exact (RdS.nil _ _ _))
   intro hc8'
   try simp only [nrm] at hc8'
   refine W_skip (N_B (N_K (W_region (o_add Z Z Z oO (mV Z (R_nil ?_))))))
   refine N_lp (hJ := ⟨k + 1, _, Z, hle4, H, ?inv, Z⟩) (hm := ?hm)
   case hm => omega
   case inv => exact ⟨by omega, Sp.all_take hall hz6 (by assumption)⟩
  intro hc5'
  try simp only [nrm] at hc5'
  refine W_exit (N_K_exit (N_LP_exit (N_B_same (N_K (q2 (mV Z (aG Z (q3 (W_ret (rt1 results196 Z ?_))))))))))
  obtain rfl : k = (Sp.cutAt 47 p).length := by omega
  rw [List.take_length] at hall
  have hpo : Sp.parts p = Sp.cutAt 47 p := (Sp.parts_ok (by rw [← Sp.cutAt_47]; exact hall) (by rw [← Sp.cutAt_47]; omega)).trans (Sp.cutAt_47 p).symm
  exact H.retP (by rw [hpo]; exact hr2_0)
theorem i_PathParts_c (w0 : World) (G0 : PH) (hG : PSub G0 w0) (p : Bs) (hp : p.length ≤ 16777216)  :
  Calls Tryz.prog 199 #[str p] w0 (RetP w0 G0 (fun G v => RdT G v (Sp.parts p))) := by
 have H := Hp.init hG
 refine calls_of_W (l := [str p]) func199 Z ntmps199 Z (q2 (aG Z (q1 (mV Z (o_call call196 Z Z (i_parts_c _ _ H.sub _ hp ) ?_)))))
 rintro _ w1 ⟨G1, u1_0, g1, rfl, hr1_0⟩
 have H := H.grow g1
 obtain ⟨a1_0, k1_0, rfl⟩ := hr1_0.shape; have hx_hr1_0 : _ ≤ 1099511627776 := hr1_0.lim
 refine ⟨_, Z, ?_⟩
 refine aG Z (q3 (W_ret (rt1 results199 Z ?_)))
 exact H.retP hr1_0
theorem i_valid_c (w0 : World) (G0 : PH) (hG : PSub G0 w0) (p : Bs) (hp : p.length ≤ 16777216)  :
  Calls Tryz.prog 166 #[str p] w0 (Rets w0 (.bool (Sp.PathValid p))) := by
 have H := Hp.init hG
 refine calls_of_W (l := [str p]) func166 Z ntmps166 Z (q2 (aG Z (q1 (mV Z (o_call call196 Z Z (i_parts_c _ _ H.sub _ hp ) ?_)))))
 rintro _ w1 ⟨G1, u1_0, g1, rfl, hr1_0⟩
 have H := H.grow g1
 obtain ⟨a1_0, k1_0, rfl⟩ := hr1_0.shape; have hx_hr1_0 : _ ≤ 1099511627776 := hr1_0.lim
 refine ⟨_, Z, ?_⟩
 refine o_len_slice underlying105 Z Z (o_gtr Z Z Z (aG Z (q3 (W_ret (rt1 results166 Z ?_)))))
 exact H.rets (congrArg Value.bool (by rw [← Sp.parts_pos, Bool.eq_iff_iff]; simp))
theorem i_PathValid_c (w0 : World) (G0 : PH) (hG : PSub G0 w0) (p : Bs) (hp : p.length ≤ 16777216)  :
  Calls Tryz.prog 132 #[str p] w0 (Rets w0 (.bool (Sp.PathValid p))) := by
 have H := Hp.init hG
 refine calls_of_W (l := [str p]) func132 Z ntmps132 Z (q2 (aG Z (q1 (mV Z (o_call call166 Z Z (i_valid_c _ _ H.sub _ hp ) ?_)))))
 rintro _ w1 ⟨rfl, ew1⟩; have H := H.step ew1; refine ⟨_, rfl, ?_⟩
 refine aG Z (q3 (W_ret (rt1 results132 Z ?_)))
 exact H.rets (congrArg Value.bool (by rfl))
theorem i_itemValid_c (w0 : World) (G0 : PH) (hG : PSub G0 w0) (cx : List Value) (x : BItem) (hx : itemE G0 x cx)  :
  Calls Tryz.prog 181 #[.agg cx.toArray] w0 (Rets w0 (.bool (Sp.l5Item x))) := by
 obtain ⟨a1, m1, c1, rfl, hi1, hr1⟩ := hx; have hy_hi1 : _ ≤ 16777216 := hi1; have hn_hr1 := hr1.len; have hx_hr1 : _ ≤ 1099511627776 := hr1.lim
 have H := Hp.init hG
 refine calls_of_W (l := [_]) func181 Z ntmps181 Z (q2 (o_box H Z Z Z ?_)); intro b2 w2 hb2 H
 refine aG Z (q3 (W_seq (q2 (o_fieldAddr 0 runUnderlying66 Z sizeOf9 Z Z Z (o_load_B 0 H isAgg9 Z Z Z Z (o_call call132 Z Z (i_PathValid_c _ _ H.sub _ hi1 ) ?_))))))
 rintro _ w3 ⟨rfl, ew3⟩; have H := H.step ew3; refine ⟨_, rfl, ?_⟩
 refine o_not Z Z (mV Z ?_)
 refine R_case (t := 9) Z ?_ ?_
 ·intro hc4
  try simp only [nrm] at hc4
  refine rP Z (rP Z (rP Z (rP Z (o_pick_t Z Z Z (mV Z (rP Z (rP Z (rP Z (R_pass Z (yl_un Z Z) (R_pass Z (yl_un Z Z) (R_pass Z (yl_un Z Z) (R_pass Z (yl_un Z Z) (rP Z (o_pick_t Z Z Z (q3 ?_)))))))))))))))
  refine W_true Z (q2 (aG Z (q3 (W_ret (N_K_ret (rt1 results181 Z ?_))))))
  exact H.rets (congrArg Value.bool (by simp [Sp.l5Item, hc4]))
 intro hc4'
 try simp only [nrm] at hc4'
 refine gR Z (o_fieldAddr 2 runUnderlying66 Z sizeOf41 Z Z Z (gR Z (o_load_B 0 H isAgg41 Z Z Z Z (gR Z (o_len_slice underlying41 Z Z (gR Z (o_gtr Z Z Z (o_pick_f Z Z Z (mV Z ?_)))))))))
 refine R_case (t := 15) Z ?_ ?_
 ·intro hc5
  try simp only [nrm] at hc5
  refine rP Z (rP Z (rP Z (R_pass Z (yl_un Z Z) (R_pass Z (yl_un Z Z) (R_pass Z (yl_un Z Z) (R_pass Z (yl_un Z Z) (rP Z (o_pick_t Z Z Z (q3 (W_true Z (q2 (aG Z (q3 (W_ret (N_K_ret ?_)))))))))))))))
  refine rt1 results181 Z ?_
  exact H.rets (congrArg Value.bool (by rw [Sp.l5Item, Bool.eq_iff_iff]; simp; intros; omega))
 intro hc5'
 try simp only [nrm] at hc5'
 refine gR Z (o_fieldAddr 1 runUnderlying66 Z sizeOf4 Z Z Z (gR Z (o_load_B 0 H isAgg4 Z Z Z Z (gR Z (mV Z ?_)))))
 refine R_case (t := 18) Z ?_ ?_
 ·intro hc6
  try simp only [nrm] at hc6
  refine gR Z (o_fieldAddr 2 runUnderlying66 Z sizeOf41 Z Z Z (gR Z (o_load_B 0 H isAgg41 Z Z Z Z (gR Z (o_len_slice underlying41 Z Z (gR Z (o_gtr Z Z Z (gR Z (o_pick_t Z Z Z (o_pick_f Z Z Z (q3 ?_)))))))))))
  refine W_cond Z ?_ ?_
  ·intro hc7
   try simp only [nrm] at hc7
   refine q2 (aG Z (q3 (W_ret (N_K_ret (rt1 results181 Z ?_)))))
   exact H.rets (congrArg Value.bool (by rw [Sp.l5Item, Sp.all_false (c := x.ids[0]) (k := 0) (List.getElem?_eq_getElem oM) (by simp [Sp.idOk, hc6])]; rfl))
  intro hc7'
  try simp only [nrm] at hc7'
  refine W_skip (N_K (W_seq (q2 (o_fieldAddr 2 runUnderlying66 Z sizeOf41 Z Z Z (o_load_B 0 H isAgg41 Z Z Z Z (o_len_slice underlying41 Z Z (mV Z (q3 (W_block ?_)))))))))
  obtain ⟨ln8, hln8, H⟩ := H.name (k := 0) rfl
  refine W_lp (hf := (Sub.cons (t := 26) Z (Sub.cons (t := 27) Z Sub.nil))) (J := fun M w m => ∃ (k : Nat) (G : PH), M = [(28, .int .i64 (k : Int))] ∧ PLe G0 G ∧ Hp w0 G0 [] w G [blk b2 (cl ln8 66)] ∧ (k ≤ x.ids.length ∧ (x.ids.take k).all (Sp.idOk x.dir) = true) ∧ m = (x.ids.length - k)) (h0 := ⟨0, _, Z, PLe.refl _, H, ?inv, Z⟩) (round := ?round)
  case inv => exact ⟨by omega, by simp⟩
  case round =>
   rintro _ w9 _ ⟨k, G9, rfl, hle9, H, hinv9, rfl⟩
   subst hln8
   have hr1 := hr1.up hle9
   obtain ⟨hk, hall⟩ := hinv9
   refine q2 (o_lss Z Z Z (q3 (W_seq ?_)))
   refine W_cond Z ?_ ?_
   ·intro hc10
    try simp only [nrm] at hc10
    refine W_skip (N_K (W_seq (W_block (q2 (o_index_P k hr1 underlying41 sizeOf3 Z Z Z Z aN ?_))))); intro b11 o11 z11 q11 hz11 hE11 hrow11
    obtain ⟨rfl, hi11⟩ := hE11
    refine o_load_P H isAgg3 Z Z (hrow11 0 _ Z) (aG Z (q1 (mV Z (o_lss Z Z Z (mV Z ?_)))))
    refine R_case (t := 34) Z ?_ ?_
    ·intro hc12
     try simp only [nrm] at hc12
     refine rP Z (rP Z (o_pick_t Z Z Z (q3 (W_true Z (q2 (aG Z (q3 (W_ret (N_B_ret (N_K_ret (N_LP_ret (N_B_ret (N_K_ret (rt1 results181 Z ?_))))))))))))))
     exact H.rets (congrArg Value.bool (by rw [Sp.l5Item, Sp.all_false hz11 (by first | (exfalso; omega) | (simp [Sp.idOk, Sp.l6In, *]; done) | (simp [Sp.idOk, Sp.l6In, *]; omega))]; rfl))
    intro hc12'
    try simp only [nrm] at hc12'
    refine gR Z (mV Z (gR Z (o_gtr Z Z Z (o_pick_f Z Z Z (q3 ?_)))))
    refine W_cond Z ?_ ?_
    ·intro hc13
     try simp only [nrm] at hc13
     refine q2 (aG Z (q3 (W_ret (N_B_ret (N_K_ret (N_LP_ret (N_B_ret (N_K_ret (rt1 results181 Z ?_)))))))))
     exact H.rets (congrArg Value.bool (by rw [Sp.l5Item, Sp.all_false hz11 (by first | (exfalso; omega) | (simp [Sp.idOk, Sp.l6In, *]; done) | (simp [Sp.idOk, Sp.l6In, *]; omega))]; rfl))
    intro hc13'
    try simp only [nrm] at hc13'
    refine W_skip (N_B (N_K (W_region (o_add Z Z Z oO (mV Z (R_nil ?_))))))
    refine N_lp (hJ := ⟨k + 1, _, Z, hle9, H, ?inv, Z⟩) (hm := ?hm)
    case hm => omega
    case inv => exact ⟨by omega, Sp.all_take hall hz11 (by first | (exfalso; omega) | (simp [Sp.idOk, Sp.l6In, *]; done) | (simp [Sp.idOk, Sp.l6In, *]; omega))⟩
   intro hc10'
   try simp only [nrm] at hc10'
   refine W_exit (N_K_exit (N_LP_exit (N_B_same (N_K (q2 (aG Z (q3 (W_ret (rt1 results181 Z ?_)))))))))
   obtain rfl : k = x.ids.length := by omega
   rw [List.take_length] at hall
   exact H.rets (congrArg Value.bool (by rw [Sp.l5Item, hall, Bool.eq_iff_iff]; simp [hc4']; omega))
 intro hc6'
 try simp only [nrm] at hc6'
 refine rP Z (rP Z (rP Z (rP Z (gR Z (o_pick_f Z Z Z (o_pick_f Z Z Z (q3 (W_false Z (W_skip (N_K (W_seq (q2 (o_fieldAddr 2 runUnderlying66 Z sizeOf41 Z Z Z (o_load_B 0 H isAgg41 Z Z Z Z (o_len_slice underlying41 Z Z ?_)))))))))))))))
 refine mV Z (q3 (W_block ?_))
 obtain ⟨ln15, hln15, H⟩ := H.name (k := 0) rfl
 refine W_lp (hf := (Sub.cons (t := 26) Z (Sub.cons (t := 27) Z Sub.nil))) (J := fun M w m => ∃ (k : Nat) (G : PH), M = [(28, .int .i64 (k : Int))] ∧ PLe G0 G ∧ Hp w0 G0 [] w G [blk b2 (cl ln15 66)] ∧ (k ≤ x.ids.length ∧ (x.ids.take k).all (Sp.idOk x.dir) = true) ∧ m = (x.ids.length - k)) (h0 := ⟨0, _, Z, PLe.refl _, H, ?inv, Z⟩) (round := ?round)
 case inv => exact ⟨by omega, by simp⟩
 case round =>
  rintro _ w16 _ ⟨k, G16, rfl, hle16, H, hinv16, rfl⟩
  subst hln15
  have hr1 := hr1.up hle16
  obtain ⟨hk, hall⟩ := hinv16
  refine q2 (o_lss Z Z Z (q3 (W_seq ?_)))
  refine W_cond Z ?_ ?_
  ·intro hc17
   try simp only [nrm] at hc17
   refine W_skip (N_K (W_seq (W_block (q2 (o_index_P k hr1 underlying41 sizeOf3 Z Z Z Z aN ?_))))); intro b18 o18 z18 q18 hz18 hE18 hrow18
   obtain ⟨rfl, hi18⟩ := hE18
   refine o_load_P H isAgg3 Z Z (hrow18 0 _ Z) (aG Z (q1 (mV Z (o_lss Z Z Z (mV Z ?_)))))
   refine R_case (t := 34) Z ?_ ?_
   ·intro hc19
    try simp only [nrm] at hc19
    refine rP Z (rP Z (o_pick_t Z Z Z (q3 (W_true Z (q2 (aG Z (q3 (W_ret (N_B_ret (N_K_ret (N_LP_ret (N_B_ret (N_K_ret (rt1 results181 Z ?_))))))))))))))
    exact H.rets (congrArg Value.bool (by rw [Sp.l5Item, Sp.all_false hz18 (by first | (exfalso; omega) | (simp [Sp.idOk, Sp.l6In, *]; done) | (simp [Sp.idOk, Sp.l6In, *]; omega))]; rfl))
   intro hc19'
   try simp only [nrm] at hc19'
   refine gR Z (mV Z (gR Z (o_gtr Z Z Z (o_pick_f Z Z Z (q3 ?_)))))
   refine W_cond Z ?_ ?_
   ·intro hc20
    try simp only [nrm] at hc20
    refine q2 (aG Z (q3 (W_ret (N_B_ret (N_K_ret (N_LP_ret (N_B_ret (N_K_ret (rt1 results181 Z ?_)))))))))
    exact H.rets (congrArg Value.bool (by rw [Sp.l5Item, Sp.all_false hz18 (by first | (exfalso; omega) | (simp [Sp.idOk, Sp.l6In, *]; done) | (simp [Sp.idOk, Sp.l6In, *]; omega))]; rfl))
   intro hc20'
   try simp only [nrm] at hc20'
   refine W_skip (N_B (N_K (W_region (o_add Z Z Z oO (mV Z (R_nil ?_))))))
   refine N_lp (hJ := ⟨k + 1, _, Z, hle16, H, ?inv, Z⟩) (hm := ?hm)
   case hm => omega
   case inv => exact ⟨by omega, Sp.all_take hall hz18 (by first | (exfalso; omega) | (simp [Sp.idOk, Sp.l6In, *]; done) | (simp [Sp.idOk, Sp.l6In, *]; omega))⟩
  intro hc17'
  try simp only [nrm] at hc17'
  refine W_exit (N_K_exit (N_LP_exit (N_B_same (N_K (q2 (aG Z (q3 (W_ret (rt1 results181 Z ?_)))))))))
  obtain rfl : k = x.ids.length := by omega
  rw [List.take_length] at hall
  exact H.rets (congrArg Value.bool (by rw [Sp.l5Item, hall, Bool.eq_iff_iff]; simp [hc4']; omega))
end Go.Proofs.Tst

namespace Go.Proofs.Tst
open Go Fw Tryz
theorem l_isNaN_c (w0 : World) (x : Bs) (hx : x.length ≤ 16777216)  :
  Calls Tryz.prog 229 #[str x] w0 (Rets w0 (.bool false)) := by
 have H := Hp.init0 w0
 refine calls_of_W (l := [str x]) func229 Z ntmps229 Z (q2 (aG Z (q1 (mV Z (mV Z (o_sneq Z Z Z (aG Z (q3 (W_ret (rt1 results229 Z ?_))))))))))
 exact H.rets (congrArg Value.bool (by simp))
theorem l_Compare_c (w0 : World) (x : Bs) (hx : x.length ≤ 16777216) (y : Bs) (hy : y.length ≤ 16777216)  :
  Calls Tryz.prog 221 #[str x, str y] w0 (Rets w0 (.int .i64 (Sp.cmpB x y))) := by
 have H := Hp.init0 w0
 refine calls_of_W (l := [str x, str y]) func221 Z ntmps221 Z (q2 (aG Z (q1 (mV Z (o_call call229 Z Z (l_isNaN_c _ _ hx ) ?_)))))
 rintro _ w1 ⟨rfl, ew1⟩; have H := H.step ew1; refine ⟨_, rfl, ?_⟩
 refine aG Z (q1 (mV Z (o_call call229 Z Z (l_isNaN_c _ _ hy ) ?_)))
 rintro _ w2 ⟨rfl, ew2⟩; have H := H.step ew2; refine ⟨_, rfl, ?_⟩
 refine aG Z (q3 (W_seq (q2 (mV Z (q3 (W_false Z (W_skip (N_K (W_seq (q2 (mV Z (q3 (W_false Z (W_skip (N_K ?_)))))))))))))))
 refine W_seq (q2 (mV Z (mV Z (o_slss Z Z Z (q3 ?_)))))
 refine W_cond Z ?_ ?_
 ·intro hc3
  try simp only [nrm] at hc3
  refine q2 (aG Z (q3 (W_ret (N_K_ret (rt1 results221 Z ?_)))))
  exact H.rets (congrArg (Value.int .i64) (by unfold Sp.cmpB; simp_all))
 intro hc3'
 try simp only [nrm] at hc3'
 refine W_skip (N_K (W_seq (q2 (mV Z (mV Z (o_sgtr Z Z Z (q3 ?_)))))))
 refine W_cond Z ?_ ?_
 ·intro hc4
  try simp only [nrm] at hc4
  refine q2 (aG Z (q3 (W_ret (N_K_ret (rt1 results221 Z ?_)))))
  exact H.rets (congrArg (Value.int .i64) (by unfold Sp.cmpB; simp_all))
 intro hc4'
 try simp only [nrm] at hc4'
 refine W_skip (N_K (q2 (aG Z (q3 (W_ret (rt1 results221 Z ?_))))))
 exact H.rets (congrArg (Value.int .i64) (by unfold Sp.cmpB; simp_all))
theorem i_place1_c (w0 : World) (G0 : PH) (hG : PSub G0 w0) (t : Nd) (hndt : RdN G0 t) (nm : Bs) (hnm : nm.length ≤ 16777216)  :
  Calls Tryz.prog 220 #[.pointer (some ⟨t.b, 0, none⟩), str nm] w0 (Rets w0 (.int .i64 (Sp.cmpB t.name nm))) := by
 obtain ⟨hnlt, nat, nmt, nct, nAt, nMt, nCt, hprt, hrit, hrkt⟩ := hndt.open
 have hn_hrit := hrit.len; have hx_hrit : _ ≤ 1099511627776 := hrit.lim
 have hn_hrkt := hrkt.len; have hx_hrkt : _ ≤ 1099511627776 := hrkt.lim
 have H := Hp.init hG
 refine calls_of_W (l := [.pointer (some ⟨t.b, 0, none⟩), str nm]) func220 Z ntmps220 Z (q2 (aG Z (q1 (mV Z (o_nilCheck Z Z (o_fieldAddr 0 runUnderlying166 Z sizeOf9 Z Z Z (o_load_P H isAgg9 Z Z (hprt 0 _ Z) (mV Z (o_call call221 Z Z (l_Compare_c _ _ hnlt _ hnm ) ?_)))))))))
 rintro _ w1 ⟨rfl, ew1⟩; have H := H.step ew1; refine ⟨_, rfl, ?_⟩
 refine aG Z (q3 (W_ret (rt1 results220 Z ?_)))
 exact H.rets (congrArg (Value.int .i64) (by rfl))
theorem l_Search_c (w0 : World) (G0 : PH) (hG : PSub G0 w0) (vkids : Value) (kids : List (Nd)) (hkids : RdNd G0 vkids kids) (nm : Bs) (hnm : nm.length ≤ 16777216) (hsk : Sp.srt kids)  :
  Calls Tryz.prog 219 #[vkids, str nm, .func (.func 220) #[] #[]] w0 (Rets w0 (.tuple #[.int .i64 (Sp.pl kids nm : Nat), .bool (Sp.fd kids nm).isSome])) := by
 obtain ⟨akids, kkids, rfl⟩ := hkids.shape
 have hlimkids : kids.length ≤ 1099511627776 := hkids.lim
 have H := Hp.init hG
 refine calls_of_W (l := [.slice akids kids.length kkids, str nm, .func (.func 220) #[] #[]]) func219 Z ntmps219 Z (q2 (aG Z (aG Z (q1 (mV Z (o_len_slice underlying162 Z Z (aG Z (q1 (mV Z (aG Z (aG Z (q3 (W_seq (W_block ?_))))))))))))))
 refine W_lp (hf := (Sub.cons (t := 0) Z (Sub.cons (t := 1) Z (Sub.cons (t := 2) Z (Sub.cons (t := 6) Z (Sub.cons (t := 7) Z (Sub.cons (t := 8) Z Sub.nil))))))) (J := fun M w m => ∃ (i j : Nat) (G : PH), M = [(9, .int .i64 (i : Int)), (10, .int .i64 (j : Int))] ∧ PLe G0 G ∧ Hp w0 G0 [] w G [] ∧ (i ≤ j ∧ j ≤ kids.length ∧ (∀ (k : Nat) (x : Nd), k < i → kids[k]? = some x → Sp.lt x.name nm = true) ∧ (∀ (k : Nat) (x : Nd), j ≤ k → kids[k]? = some x → Sp.lt x.name nm = false)) ∧ m = (j - i)) (h0 := ⟨0, kids.length, _, Z, PLe.refl _, H, ?inv, Z⟩) (round := ?round)
 case inv => exact ⟨by omega, by omega, fun k x hk => by omega, fun k x hk hx => by have := (List.getElem?_eq_some_iff.1 hx).1; omega⟩
 case round =>
  rintro _ w1 _ ⟨i, j, G1, rfl, hle1, H, hinv1, rfl⟩
  have hkids := hkids.up hle1
  obtain ⟨hij, hjl, hlo, hhi⟩ := hinv1
  refine W_seq (q2 (mV Z (mV Z (o_lss Z Z Z (q3 ?_)))))
  refine W_cond Z ?_ ?_
  ·intro hc2
   try simp only [nrm] at hc2
   refine W_skip (N_K (W_block (q2 (mV Z (mV Z (o_add Z Z Z oO (o_conv (by simp [underlying3]) underlying231 Z Z (wrap_u64 oO) (o_shr1 Z Z Z (by decide) (o_conv (by simp [underlying231]) underlying3 Z Z (wrap_i64 oO) (aG Z (q1 (mV Z (mV Z (mV Z (o_index_P ((i + j) / 2) hkids underlying162 sizeOf93 Z Z Z oM aN ?_))))))))))))))); intro b4 o4 z4 q4 hz4 hE4 hrow4
   obtain ⟨rfl, hnd4⟩ := hE4; obtain ⟨hnl4, na4, nm4, nc4, nA4, nM4, nC4, hpr4, hri4, hrk4⟩ := hnd4.open; have hn_hri4 := hri4.len; have hx_hri4 : _ ≤ 1099511627776 := hri4.lim; have hn_hrk4 := hrk4.len; have hx_hrk4 : _ ≤ 1099511627776 := hrk4.lim
   refine o_load_P H isAgg93 Z Z (hrow4 0 _ Z) (mV Z (o_callv call220 Z Z Z (i_place1_c _ _ H.sub _ hnd4 _ hnm ) ?_))
   rintro _ w5 ⟨rfl, ew5⟩; have H := H.step ew5; refine ⟨_, rfl, ?_⟩
   refine o_lss Z Z Z (q3 ?_)
   refine W_cond Z ?_ ?_
   ·intro hc6
    try simp only [nrm] at hc6
    refine W_region (mV Z (o_add Z Z Z oO (aG Z (R_nil (N_B ?_)))))
    refine N_lp (hJ := ⟨((i + j) / 2 + 1), j, _, Z, hle1, H, ?inv, Z⟩) (hm := ?hm)
    case hm => omega
    case inv => exact ⟨by omega, by omega, Sp.pw_lt hsk hz4 ((Sp.cmpB_lt _ _).1 hc6), hhi⟩
   intro hc6'
   try simp only [nrm] at hc6'
   refine W_region (mV Z (aG Z (R_nil (N_B ?_))))
   refine N_lp (hJ := ⟨i, ((i + j) / 2), _, Z, hle1, H, ?inv, Z⟩) (hm := ?hm)
   case hm => omega
   case inv => exact ⟨by omega, by omega, hlo, Sp.pw_ge hsk hz4 (by cases hlt : Sp.lt z4.name nm with | false => rfl | true => exact absurd ((Sp.cmpB_lt _ _).2 hlt) oM)⟩
  intro hc2'
  try simp only [nrm] at hc2'
  refine W_exit (N_K_exit (N_LP_exit (N_B_same (N_K (q2 (mV Z (mV Z (mV Z (o_lss Z Z Z (mV Z ?_))))))))))
  refine R_case (t := 39) Z ?_ ?_
  ·intro hc8
   try simp only [nrm] at hc8
   refine gR Z (mV Z (gR Z (mV Z (gR Z (mV Z (gR Z (o_index_P i hkids underlying162 sizeOf93 Z Z Z Z aN ?_))))))); intro b9 o9 z9 q9 hz9 hE9 hrow9
   obtain ⟨rfl, hnd9⟩ := hE9; obtain ⟨hnl9, na9, nm9, nc9, nA9, nM9, nC9, hpr9, hri9, hrk9⟩ := hnd9.open; have hn_hri9 := hri9.len; have hx_hri9 : _ ≤ 1099511627776 := hri9.lim; have hn_hrk9 := hrk9.len; have hx_hrk9 : _ ≤ 1099511627776 := hrk9.lim
   refine gR Z (o_load_P H isAgg93 Z Z (hrow9 0 _ Z) (gR Z (mV Z (gR Z (o_callv call220 Z Z Z (i_place1_c _ _ H.sub _ hnd9 _ hnm ) ?_)))))
   rintro _ w10 ⟨rfl, ew10⟩; have H := H.step ew10; refine ⟨_, rfl, ?_⟩
   refine gR Z (o_eql Z Z Z (o_pick_t Z Z Z (aG Z (aG Z (q3 (W_ret (rt2 results219 Z Z ?_)))))))
   obtain rfl : i = j := by omega
   have hpl := Sp.pl_of oM hlo hhi
   obtain ⟨hfd, _⟩ := Sp.fd_at hsk hz9 hlo hhi
   exact H.rets (by rw [hpl, hfd]; simp only [Sp.cmpB_eq]; rfl)
  intro hc8'
  try simp only [nrm] at hc8'
  refine rP Z (rP Z (rP Z (rP Z (rP Z (rP Z (rP Z (rP Z (o_pick_f Z Z Z (aG Z (aG Z (q3 (W_ret (rt2 results219 Z Z ?_)))))))))))))
  obtain rfl : i = j := by omega
  have hpl := Sp.pl_of oM hlo hhi
  have hfd := Sp.fd_end (nm := nm) (ks := kids) (fun k x hk hx => hlo k x oM hx)
  exact H.rets (by rw [hpl, hfd]; rfl)
theorem i_place_c (w0 : World) (G0 : PH) (hG : PSub G0 w0) (t : Nd) (hndt : RdN G0 t) (nm : Bs) (hnm : nm.length ≤ 16777216) (hwt : t.wf) :
  Calls Tryz.prog 200 #[.pointer (some ⟨t.b, 0, none⟩), str nm] w0 (Rets w0 (.tuple #[.int .i64 (Sp.pl t.kids nm : Nat), .bool (Sp.fd t.kids nm).isSome])) := by
 obtain ⟨hnlt, nat, nmt, nct, nAt, nMt, nCt, hprt, hrit, hrkt⟩ := hndt.open
 have hn_hrit := hrit.len; have hx_hrit : _ ≤ 1099511627776 := hrit.lim
 have hn_hrkt := hrkt.len; have hx_hrkt : _ ≤ 1099511627776 := hrkt.lim
 have H := Hp.init hG
 refine calls_of_W (l := [.pointer (some ⟨t.b, 0, none⟩), str nm]) func200 Z ntmps200 Z (q2 (aG Z (aG Z (q1 (mV Z (o_nilCheck Z Z (o_fieldAddr 3 runUnderlying166 Z sizeOf162 Z Z Z (o_load_P H isAgg162 Z Z (hprt 3 _ Z) (mV Z (o_call call219 Z Z (l_Search_c _ _ H.sub _ _ hrkt _ hnm ((Nd.wf_iff _).1 hwt).1 ) ?_))))))))))
 rintro _ w1 ⟨rfl, ew1⟩; have H := H.step ew1; refine ⟨_, rfl, ?_⟩
 refine o_extract Z Z Z (o_extract Z Z Z (aG Z (aG Z (q3 (W_ret (rt2 results200 Z Z ?_))))))
 exact H.rets Z
theorem i_at_c (w0 : World) (G0 : PH) (hG : PSub G0 w0) (t : Nd) (hndt : RdN G0 t) (vps : Value) (ps : List (Bs)) (hps : RdT G0 vps ps) (hwt : t.wf) :
  Calls Tryz.prog 170 #[.pointer (some ⟨t.b, 0, none⟩), vps] w0 (RetV w0 (fun v => (t.at_ ps = none ∧ v = .pointer none) ∨ (∃ d, t.at_ ps = some d ∧ v = .pointer (some ⟨d.b, 0, none⟩)))) := by
 obtain ⟨hnlt, nat, nmt, nct, nAt, nMt, nCt, hprt, hrit, hrkt⟩ := hndt.open
 have hn_hrit := hrit.len; have hx_hrit : _ ≤ 1099511627776 := hrit.lim
 have hn_hrkt := hrkt.len; have hx_hrkt : _ ≤ 1099511627776 := hrkt.lim
 obtain ⟨aps, kps, rfl⟩ := hps.shape
 have hlimps : ps.length ≤ 1099511627776 := hps.lim
 have H := Hp.init hG
 refine calls_of_W (l := [.pointer (some ⟨t.b, 0, none⟩), .slice aps ps.length kps]) func170 Z ntmps170 Z (q2 (aG Z (q3 (W_seq (q2 (mV Z (o_len_slice underlying105 Z Z (mV Z (q3 (W_block ?_))))))))))
 refine W_lp (hf := (Sub.cons (t := 9) Z (Sub.cons (t := 10) Z Sub.nil))) (J := fun M w m => ∃ (k : Nat) (d : Nd) (G : PH), M = [(11, .int .i64 (k : Int)), (0, .pointer (some ⟨d.b, 0, none⟩))] ∧ PLe G0 G ∧ Hp w0 G0 [] w G [] ∧ (k ≤ ps.length ∧ RdN G d ∧ d.wf ∧ t.at_ (ps.take k) = some d) ∧ m = (ps.length - k)) (h0 := ⟨0, t, _, Z, PLe.refl _, H, ?inv, Z⟩) (round := ?round)
 case inv => exact ⟨by omega, hndt, hwt, rfl⟩
 case round =>
  rintro _ w1 _ ⟨k, d, G1, rfl, hle1, H, hinv1, rfl⟩
  have hps := hps.up hle1
  obtain ⟨hk, hnd0, hwd, hat⟩ := hinv1; obtain ⟨hnl0, na0, nm0, nc0, nA0, nM0, nC0, hpr0, hri0, hrk0⟩ := hnd0.open; have hn_hrk0 := hrk0.len
  refine q2 (o_lss Z Z Z (q3 (W_seq ?_)))
  refine W_cond Z ?_ ?_
  ·intro hc2
   try simp only [nrm] at hc2
   refine W_skip (N_K (W_seq (W_block (q2 (o_index_P k hps underlying105 sizeOf9 Z Z Z Z aN ?_))))); intro b3 o3 z3 q3 hz3 hE3 hrow3
   obtain ⟨rfl, hi3⟩ := hE3; have hy_hi3 : _ ≤ 16777216 := hi3
   refine o_load_P H isAgg9 Z Z (hrow3 0 _ Z) (aG Z (q1 (mV Z (mV Z (o_call call200 Z Z (i_place_c _ _ H.sub _ hnd0 _ hi3 hwd) ?_)))))
   rintro _ w4 ⟨rfl, ew4⟩; have H := H.step ew4; refine ⟨_, rfl, ?_⟩
   refine mV Z (o_extract Z Z Z (o_extract Z Z Z (aG Z (aG Z (q3 (W_seq (q2 (mV Z (o_not Z Z (q3 ?_))))))))))
   refine W_cond Z ?_ ?_
   ·intro hc5
    try simp only [nrm] at hc5
    refine q2 (aG Z (q3 (W_ret (N_K_ret (N_B_ret (N_K_ret (N_LP_ret (N_B_ret (N_K_ret (rt1 results170 Z ?_))))))))))
    exact H.retV (.inl ⟨Nd.at_stop hz3 hat (by simpa [Sp.fd, Nd.kid] using hc5), rfl⟩)
   intro hc5'
   try simp only [nrm] at hc5'
   obtain ⟨q, hq⟩ := Option.isSome_iff_exists.1 hc5'
   have hpl : d.kids[Sp.pl d.kids z3]? = some q := Nd.place_some hwd hq
   have hlt : Sp.pl d.kids z3 < d.kids.length := (List.getElem?_eq_some_iff.1 hpl).1
   refine W_skip (N_K (W_region (mV Z (o_nilCheck Z Z (o_fieldAddr 3 runUnderlying166 Z sizeOf162 Z Z Z (o_load_P H isAgg162 Z Z (hpr0 3 _ Z) (mV Z (o_index_P (Sp.pl d.kids z3) hrk0 underlying162 sizeOf93 Z Z Z Z aN ?_)))))))); intro b6 o6 z6 q6 hz6 hE6 hrow6
   obtain ⟨rfl, hnd6⟩ := hE6; obtain ⟨hnl6, na6, nm6, nc6, nA6, nM6, nC6, hpr6, hri6, hrk6⟩ := hnd6.open; have hn_hri6 := hri6.len; have hx_hri6 : _ ≤ 1099511627776 := hri6.lim; have hn_hrk6 := hrk6.len; have hx_hrk6 : _ ≤ 1099511627776 := hrk6.lim
   have hkid : Nd.kid d z3 = some z6 := by (show Sp.fd _ _ = _); rw [hq]; exact hpl.symm.trans hz6
   refine o_load_P H isAgg93 Z Z (hrow6 0 _ Z) (aG Z (R_nil (N_B (N_K (W_region (o_add Z Z Z oO (mV Z (R_nil ?_))))))))
   refine N_lp (hJ := ⟨k + 1, z6, _, Z, hle1, H, ?inv, Z⟩) (hm := ?hm)
   case hm => omega
   case inv => exact ⟨by omega, hnd6, (((Nd.wf_iff _).1 hwd).2 _ (List.mem_of_getElem? hz6)).2, by rw [Nd.at_step hz3 hat]; exact hkid⟩
  intro hc2'
  try simp only [nrm] at hc2'
  refine W_exit (N_K_exit (N_LP_exit (N_B_same (N_K (q2 (mV Z (aG Z (q3 (W_ret (rt1 results170 Z ?_))))))))))
  exact H.retV (.inr ⟨d, by rw [← hat, List.take_of_length_le oM], rfl⟩)
theorem i_dirOf_c (w0 : World) (G0 : PH) (hG : PSub G0 w0) (t : Nd) (hndt : RdN G0 t) (path : Bs) (hpath : path.length ≤ 16777216) (hwt : t.wf) :
  Calls Tryz.prog 169 #[.pointer (some ⟨t.b, 0, none⟩), str path] w0 (RetV w0 (fun v => (t.dirOf path = none ∧ v = .tuple #[.pointer none, str []]) ∨ (∃ d nm, t.dirOf path = some (d, nm) ∧ v = .tuple #[.pointer (some ⟨d.b, 0, none⟩), str nm]))) := by
 obtain ⟨hnlt, nat, nmt, nct, nAt, nMt, nCt, hprt, hrit, hrkt⟩ := hndt.open
 have hn_hrit := hrit.len; have hx_hrit : _ ≤ 1099511627776 := hrit.lim
 have hn_hrkt := hrkt.len; have hx_hrkt : _ ≤ 1099511627776 := hrkt.lim
 have H := Hp.init hG
 refine calls_of_W (l := [.pointer (some ⟨t.b, 0, none⟩), str path]) func169 Z ntmps169 Z (q2 (aG Z (aG Z (q1 (mV Z (o_call call199 Z Z (i_PathParts_c _ _ H.sub _ hpath ) ?_))))))
 rintro _ w1 ⟨G1, u1_0, g1, rfl, hr1_0⟩
 have H := H.grow g1
 have hndt := hndt.up g1.le
 obtain ⟨a1_0, k1_0, rfl⟩ := hr1_0.shape; have hx_hr1_0 : _ ≤ 1099511627776 := hr1_0.lim
 refine ⟨_, Z, ?_⟩
 refine aG Z (q3 (W_seq (q2 (mV Z (o_len_slice underlying105 Z Z (o_eql Z Z Z (q3 ?_)))))))
 refine W_cond Z ?_ ?_
 ·intro hc2
  try simp only [nrm] at hc2
  refine q2 (aG Z (aG Z (q3 (W_ret (N_K_ret (rt2 results169 Z Z ?_))))))
  exact H.retV (.inl ⟨Nd.dirOf_nil oM, Z⟩)
 intro hc2'
 try simp only [nrm] at hc2'
 refine W_skip (N_K (q2 (mV Z (o_len_slice underlying105 Z Z (o_sub Z Z Z oO (aG Z (q1 (mV Z (mV Z (mV Z ?_))))))))))
 have hcap4 := hr1_0.cap; try simp only [List.length_set, List.length_append, List.length_take, List.length_drop, List.length_replicate] at hcap4
 refine o_slice_to (j := ((Sp.parts path).length - 1)) underlying105 sizeOf9 Z Z Z oM oM ?_
 have hsl4 := hr1_0.take (j := ((Sp.parts path).length - 1)) aN
 have hsn1 := hsl4.len
 refine o_call call170 Z Z (i_at_c _ _ H.sub _ hndt _ _ hsl4 hwt) ?_
 rintro _ w5 ⟨_, rfl, ew5, ⟨hat5, rfl⟩ | ⟨d5, hat5, rfl⟩⟩
 ·skip
  have H := H.step ew5; refine ⟨_, rfl, ?_⟩
  refine aG Z (q3 (W_seq (q2 (mV Z (o_eqnil_ptr underlying93 Z Z Z (mV Z (rP Z (rP Z (rP Z (rP Z (rP Z (o_pick_t Z Z Z (q3 (W_true Z (q2 ?_)))))))))))))))
  refine aG Z (aG Z (q3 (W_ret (N_K_ret (rt2 results169 Z Z ?_)))))
  exact H.retV (.inl ⟨Nd.dirOf_no oM hat5, Z⟩)
 skip
 have H := H.step ew5; refine ⟨_, rfl, ?_⟩
 have hnd5 := hndt.at hat5; obtain ⟨hnl5, na5, nm5, nc5, nA5, nM5, nC5, hpr5, hri5, hrk5⟩ := hnd5.open
 have hn_hri5 := hri5.len; have hx_hri5 : _ ≤ 1099511627776 := hri5.lim
 have hn_hrk5 := hrk5.len; have hx_hrk5 : _ ≤ 1099511627776 := hrk5.lim
 refine aG Z (q3 (W_seq (q2 (mV Z (o_eqnil_ptr underlying93 Z Z Z (mV Z (gR Z (mV Z (gR Z (o_nilCheck Z Z (gR Z (o_fieldAddr 1 runUnderlying166 Z sizeOf4 Z Z Z (gR Z (o_load_P H isAgg4 Z Z (hpr5 1 _ Z) (gR Z ?_)))))))))))))))
 refine o_not Z Z (o_pick_f Z Z Z (q3 ?_))
 refine W_cond Z ?_ ?_
 ·intro hc6
  try simp only [nrm] at hc6
  refine q2 (aG Z (aG Z (q3 (W_ret (N_K_ret (rt2 results169 Z Z ?_))))))
  exact H.retV (.inl ⟨Nd.dirOf_nodir oM hat5 (by simpa using hc6), rfl⟩)
 intro hc6'
 try simp only [nrm] at hc6'
 refine W_skip (N_K (W_seq (W_drawK [] 7 H kR Z ?_))); intro w7 H; have hd7 := PLe.refl G1
 refine vM 0 Z Z (vM 1 Z Z (vM 2 Z Z ?_))
 have hl8 := hr1_0.len
 obtain ⟨b8, o8, z8, q8, ha8, hz8, hq8, hE8, hrow8, _⟩ := hr1_0.at (i := ((Sp.parts path).length - 1)) oM
 clear hq8
 obtain ⟨rfl, hi8⟩ := hE8; have hy_hi8 : _ ≤ 16777216 := hi8
 refine RD_t 3 Z kR Z (fun _ hK => v_index_P (i := ((Sp.parts path).length - 1)) ha8 underlying105 sizeOf9 Z Z oM oM) (RD_t 4 Z kR Z (fun _ hK => v_load_P hK isAgg9 Z (hrow8 0 _ Z)) (RD_t 5 Z kR Z (fun _ hK => v_assign Z) (RD_t 6 Z kR Z (fun _ hK => v_assign Z) (RD_done kR (N_K (W_ret (rt2 results169 Z Z ?_)))))))
 exact H.retV (.inr ⟨_, _, Nd.dirOf_yes oM hz8 hat5 (by simpa using hc6'), rfl⟩)
theorem i_find_n_c (w0 : World) (G0 : PH) (hG : PSub G0 w0) (t : Nd) (hndt : RdN G0 t) (path : Bs) (hpath : path.length ≤ 16777216) (hwt : t.wf) :
  Calls Tryz.prog 134 #[.pointer (some ⟨t.b, 0, none⟩), str path] w0 (RetV w0 (fun v => (t.find path = none ∧ v = .pointer none) ∨ (∃ d, t.find path = some d ∧ v = .pointer (some ⟨d.b, 0, none⟩)))) := by
 obtain ⟨hnlt, nat, nmt, nct, nAt, nMt, nCt, hprt, hrit, hrkt⟩ := hndt.open
 have hn_hrit := hrit.len; have hx_hrit : _ ≤ 1099511627776 := hrit.lim
 have hn_hrkt := hrkt.len; have hx_hrkt : _ ≤ 1099511627776 := hrkt.lim
 have H := Hp.init hG
 refine calls_of_W (l := [.pointer (some ⟨t.b, 0, none⟩), str path]) func134 Z ntmps134 Z (q2 (aG Z (q1 (mV Z (mV Z (o_call call169 Z Z (i_dirOf_c _ _ H.sub _ hndt _ hpath hwt) ?_))))))
 rintro _ w1 ⟨_, rfl, ew1, ⟨hdf1, rfl⟩ | ⟨d1, nm1, hdf1, rfl⟩⟩
 ·skip
  have H := H.step ew1; refine ⟨_, rfl, ?_⟩
  refine mV Z (o_extract Z Z Z (o_extract Z Z Z (aG Z (aG Z (q3 (W_seq (q2 (mV Z (o_eqnil_ptr underlying93 Z Z Z (q3 (W_true Z (q2 (aG Z (q3 (W_ret ?_)))))))))))))))
  refine N_K_ret (rt1 results134 Z ?_)
  exact H.retV (.inl ⟨Nd.find_no hdf1, Z⟩)
 skip
 have H := H.step ew1; refine ⟨_, rfl, ?_⟩
 have hnml1 := Nd.dir_len hdf1
 have hnd1 := hndt.at (Nd.dirOf_some hdf1).2.2.1; obtain ⟨hnl1, na1, nm1, nc1, nA1, nM1, nC1, hpr1, hri1, hrk1⟩ := hnd1.open
 have hn_hri1 := hri1.len; have hx_hri1 : _ ≤ 1099511627776 := hri1.lim
 have hn_hrk1 := hrk1.len; have hx_hrk1 : _ ≤ 1099511627776 := hrk1.lim
 refine mV Z (o_extract Z Z Z (o_extract Z Z Z (aG Z (aG Z (q3 (W_seq (q2 (mV Z (o_eqnil_ptr underlying93 Z Z Z (q3 (W_false Z (W_skip (N_K (q2 (mV Z ?_)))))))))))))))
 refine mV Z (o_buildSlice H underlying105 sizeOf9 (fun w => ⟨_, zeroValue9 w, Z⟩) Z Z Z Z Z Z Z ?_); intro b2 w2 hb2 H
 have H := H.blkAcc 1 (k := 0) (n := 1) rfl rfl (by decide)
 have hchk4 := ((Chk.nil (E := strE) (sz := 1) (G := G0)).snoc (show strE _ _ _ from ⟨rfl, hnml1⟩) rfl)
 refine o_call call170 Z Z (i_at_c _ _ (H.lendSubL [0]) _ (hnd1.up (PPlus.le _ _ _)) _ _ (H.lendRdL (k := 0) (ks := [0]) Z Z hchk4 aN aN) (Nd.dir_wf hwt hdf1)) ?_
 rintro _ w3 ⟨_, rfl, ew3, ⟨hat3, rfl⟩ | ⟨d3, hat3, rfl⟩⟩
 ·skip
  have H := H.step ew3; refine ⟨_, rfl, ?_⟩
  refine aG Z (q3 (W_ret (rt1 results134 Z ?_)))
  exact H.retV (.inl ⟨(Nd.find_yes hdf1).trans hat3, Z⟩)
 skip
 have H := H.step ew3; refine ⟨_, rfl, ?_⟩
 have hnd3 := hnd1.at hat3; obtain ⟨hnl3, na3, nm3, nc3, nA3, nM3, nC3, hpr3, hri3, hrk3⟩ := hnd3.open
 have hn_hri3 := hri3.len; have hx_hri3 : _ ≤ 1099511627776 := hri3.lim
 have hn_hrk3 := hrk3.len; have hx_hrk3 : _ ≤ 1099511627776 := hrk3.lim
 refine aG Z (q3 (W_ret (rt1 results134 Z ?_)))
 exact H.retV (.inr ⟨_, (Nd.find_yes hdf1).trans hat3, Z⟩)
end Go.Proofs.Tst

namespace Go.Proofs.Tst
open Go Fw Tryz
theorem l_Insert_c (w0 : World) (G0 : PH) (hG : PSub G0 w0) (vkids : Value) (kids : List Nd) (i : Nat) (hi : i ≤ kids.length) (hkl : kids.length ≤ 1099511627776) (vbk : Nat) (k : Nd) (hLent : Lent w0 G0 [acc 93 1 vkids kids.length (ptrs kids), blk vbk (cl [ptr k.b] 93)])  :
  Calls Tryz.prog 201 #[vkids, .int .i64 (i : Int), .slice (some ⟨vbk, 0, none⟩) 1 1] w0 (RetM w0 G0 (fps [acc 93 1 vkids kids.length (ptrs kids), blk vbk (cl [ptr k.b] 93)]) (fun G' v Bs => ∃ (c : List Value), Bs = [acc 93 1 v (kids.length + 1) c] ∧ c = ptrs (kids.take i ++ k :: kids.drop i))) := by
 have H : Hp w0 G0 (fps [acc 93 1 vkids kids.length (ptrs kids), blk vbk (cl [ptr k.b] 93)]) w0 G0 [acc 93 1 vkids kids.length (ptrs kids), blk vbk (cl [ptr k.b] 93)] := hLent.hp
 obtain ⟨akids, ckids, rfl⟩ := H.accShape (k := 0) rfl
 refine calls_of_W (l := [.slice akids kids.length ckids, .int .i64 (i : Int), .slice (some ⟨vbk, 0, none⟩) 1 1]) func201 Z ntmps201 Z (q2 (aG Z (q1 (mV Z (mV Z ?_)))))
 have hac1 := H.accCap (k := 0) rfl
 refine o_slice_from (i := i) underlying162 sizeOf93 Z Z Z Z oM (q1 (mV Z (o_len_slice underlying162 Z Z (aG Z (q3 (W_seq (q2 (mV Z (o_eql Z Z Z (q3 ?_))))))))))
 refine W_cond Z ?_ ?_
 ·intro hc2
  try simp only [nrm] at hc2
  exact absurd hc2 (by decide)
 intro hc2'
 try simp only [nrm] at hc2'
 refine W_skip (N_K (q2 (mV Z (o_len_slice underlying162 Z Z (aG Z (q3 (W_seq (q2 (mV Z (mV Z (o_eql Z Z Z (q3 ?_))))))))))))
 refine W_cond Z ?_ ?_
 ·intro hc3
  try simp only [nrm] at hc3
  refine q2 (mV Z (mV Z ?_))
  refine o_append 0 H underlying162 typeInfo93 ⟨_, Z, Z⟩ Z Z Z Z Z Z Z (news := [ptr k.b]) Z (fun j u hu => by (rw [Nat.zero_add]); exact blk_cell (k := 1) H rfl (by simpa using hu)) (by simp [ptr, Value.oneCell']) oM (by decide) ?_; intro nv w4 H
  refine aG Z (q3 (W_ret (N_K_ret (rt1 results201 Z ?_))))
  have H := H.del (k := 1) rfl
  exact H.retM ⟨_, rfl, by (obtain rfl : i = kids.length := by omega); (rw [List.take_length, List.drop_length]); simp [ptrs]⟩
 intro hc3'
 try simp only [nrm] at hc3'
 obtain ⟨b0, c0, C0, hv0, _⟩ := H.accBlk (k := 0) (i := i) rfl oM; cases hv0
 have hvk : vbk ≠ b0 := fun e => by subst e; have := H.nd; simp [fps, acc_fp, blk] at this
 have hcc := H.accCap (k := 0) rfl
 have hcm := H.accMax (k := 0) rfl
 refine W_skip (N_K (W_seq (q2 (mV Z (mV Z (o_add Z Z Z oO (mV Z (o_cap underlying162 Z Z (o_gtr Z Z Z (q3 ?_))))))))))
 refine W_cond Z ?_ ?_
 ·intro hc6
  try simp only [nrm] at hc6
  refine q2 (mV Z (mV Z ?_))
  have hac7 := H.accCap (k := 0) rfl
  refine o_slice_to (j := i) underlying162 sizeOf93 Z Z Z Z oM (mV Z (mV Z (o_add Z Z Z oO (mV Z (o_sub Z Z Z oO (o_appmk 0 H (kids.length + 1 - i) underlying162 underlying3 typeInfo93 Z Z Z Z Z Z Z Z oM Z oM oM oM oM ?_)))))); intro nb nc w10 H hnb hnc
  refine aG Z (q1 (mV Z (mV Z (o_slice_from1 (i := i) underlying162 sizeOf93 Z Z Z oM oM oM (mV Z ?_)))))
  refine o_copy 0 H ([ptr k.b]) underlying162 typeInfo93 Z Z Z Z Z (by simp [Nat.min_def] <;> (try split) <;> omega) (fun j v hj => by (rw [Addr.add_lit, Nat.zero_add]); exact blk_cell (k := 2) H rfl (by simpa using hj)) (by intro v hv; first | exact ptrs_one v (List.mem_of_mem_drop hv) | (simp at hv; subst hv; rfl)) (by simp; try omega) ?_; intro w11 H
  refine q3 (W_seq (W_drawK [2] 9 H kR Z ?_)); intro w12 H; have hd12 := PLe.refl G0
  refine vM 0 Z Z (vM 1 Z Z (vM 2 Z Z (RD_t 3 Z kR Z (fun _ hK => v_add Z Z oO) (RD_t 4 Z kR Z (fun _ hK => v_slice_from1 (i := (i + 1)) underlying162 sizeOf93 Z Z oM oM oM) (vM 5 Z Z (vM 6 Z Z (RD_t 7 Z kR Z (fun _ hK => v_slice_from1 (i := i) underlying162 sizeOf93 Z Z oM oM oM) ?_)))))))
  refine RD_run [8] kR Z (RDs.cons Z ?_ RDs.nil)
  refine o_copy 0 H ((ptrs kids).drop i) underlying162 typeInfo93 Z Z Z Z Z (by simp [Nat.min_def] <;> (try split) <;> omega) (fun j v hj => by (rw [Addr.add_lit]); (rw [List.getElem?_drop] at hj); exact acc_cell (k := 1) H rfl (by first | exact hj | (rw [List.getElem?_append_left (List.getElem?_eq_some_iff.1 hj).1]; exact hj))) (by intro v hv; first | exact ptrs_one v (List.mem_of_mem_drop hv) | (simp at hv; subst hv; rfl)) (by simp; try omega) ?_; intro w14 H
  refine R_nil (N_DK (Kn.of' H hd12 (SubL.cons 2 Z SubL.nil)) (RD_done kR (N_K (q2 (mV Z (aG Z (q3 (W_ret (N_K_ret (rt1 results201 Z ?_))))))))))
  have H := H.del (k := 1) rfl
  have H := H.del (k := 1) rfl
  have hcx := (insC2 (x := ptr k.b) (z := .pointer none) (i := i) (r := kids.length + 1 - i) (c := ptrs kids) (by simp; omega) (by simp; omega)).trans (ptrs_ins kids k i)
  exact H.retM ⟨_, acc_1 oM, hcx⟩
 intro hc6'
 try simp only [nrm] at hc6'
 refine W_skip (N_K (q2 (mV Z (mV Z (mV Z (o_add Z Z Z oO (o_slice_to (j := kids.length + 1) underlying162 sizeOf93 Z Z Z oM oM ?_)))))))
 obtain ⟨zz, H⟩ := H.accMore (k := 0) rfl oM
 refine aG Z (q3 (W_seq (q2 (mV Z (mV Z (mV Z (mV Z (o_add Z Z Z oO (o_slice_from1 (i := (i + 1)) underlying162 sizeOf93 Z Z Z oM oM oM (o_overlaps 0 1 H (fun args w => run_callFunc_extern func222 kR kR kR (e := Extern.SlicesOverlaps.overlaps #[162, 162] #[4]) kR args w) underlying162 sizeOf93 Z Z Z Z hvk oM (o_not Z Z (q3 (W_true Z (W_seq (W_drawK [1] 9 H kR Z ?_))))))))))))))); intro w17 H; have hd17 := PLe.refl G0
 refine vM 0 Z Z (vM 1 Z Z (vM 2 Z Z (RD_t 3 Z kR Z (fun _ hK => v_add Z Z oO) (RD_t 4 Z kR Z (fun _ hK => v_slice_from1 (i := (i + 1)) underlying162 sizeOf93 Z Z oM oM oM) (vM 5 Z Z (vM 6 Z Z (RD_t 7 Z kR Z (fun _ hK => v_slice_from1 (i := i) underlying162 sizeOf93 Z Z oM oM oM) ?_)))))))
 refine RD_run [8] kR Z (RDs.cons Z ?_ RDs.nil)
 refine o_copy 0 H ((ptrs kids).drop i) underlying162 typeInfo93 Z Z Z Z Z (by simp [Nat.min_def] <;> (try split) <;> omega) (fun j v hj => by (rw [Addr.add_lit]); (rw [List.getElem?_drop] at hj); exact acc_cell (k := 0) H rfl (by first | exact hj | (rw [List.getElem?_append_left (List.getElem?_eq_some_iff.1 hj).1]; exact hj))) (by intro v hv; first | exact ptrs_one v (List.mem_of_mem_drop hv) | (simp at hv; subst hv; rfl)) (by simp; try omega) ?_; intro w19 H
 refine R_nil (N_DK (Kn.of' H hd17 (SubL.cons 1 Z SubL.nil)) (RD_done kR (N_K (q2 (mV Z (mV Z (o_slice_from1 (i := i) underlying162 sizeOf93 Z Z Z oM oM oM (mV Z ?_))))))))
 refine o_copy 0 H ([ptr k.b]) underlying162 typeInfo93 Z Z Z Z Z (by simp [Nat.min_def] <;> (try split) <;> omega) (fun j v hj => by (rw [Addr.add_lit, Nat.zero_add]); exact blk_cell (k := 1) H rfl (by simpa using hj)) (by intro v hv; first | exact ptrs_one v (List.mem_of_mem_drop hv) | (simp at hv; subst hv; rfl)) (by simp; try omega) ?_; intro w20 H
 refine q1 (mV Z (aG Z (q3 (W_ret (N_K_ret (rt1 results201 Z ?_))))))
 have H := H.del (k := 1) rfl
 exact H.retM ⟨_, rfl, (insC (by simp; omega)).trans (ptrs_ins kids k i)⟩
end Go.Proofs.Tst

namespace Go.Proofs.Tst
open Go Fw Tryz
theorem i_insert_c (w0 : World) (G0 : PH) (hG : PSub G0 w0) (Ft : Fr) (t : Nd) (hNt : NdO 166 93 G0 t Ft) (cx : List Value) (x : BItem) (hx : itemE G0 x cx) (hLent : Lent w0 G0 [frag Ft]) (hwt : t.wf) (hct : t.cnt ≤ 1000) :
  Calls Tryz.prog 172 #[.pointer (some ⟨t.b, 0, none⟩), .agg cx.toArray] w0 (RetM w0 G0 (fps [frag Ft]) (fun G' v Bs => ∃ (nb : Nat) (F' : Fr) (t' : Nd), v = .bool (t.ins x nb).isSome ∧ Bs = [frag F'] ∧ NdO 166 93 G' t' F' ∧ t'.b = t.b ∧ (t.ins x nb).getD t = t')) := by
 obtain ⟨a1, m1, c1, rfl, hi1, hr1⟩ := hx; have hy_hi1 : _ ≤ 16777216 := hi1; have hn_hr1 := hr1.len; have hx_hr1 : _ ≤ 1099511627776 := hr1.lim
 have H : Hp w0 G0 (fps [frag Ft]) w0 G0 [frag Ft] := hLent.hp
 refine calls_of_W (l := [.pointer (some ⟨t.b, 0, none⟩), _]) func172 Z ntmps172 Z (q2 (o_box H Z Z Z ?_)); intro b2 w2 hb2 H
 refine aG Z (q1 (mV Z (o_fieldAddr 0 runUnderlying66 Z sizeOf9 Z Z Z (o_load_B 0 H isAgg9 Z Z Z Z (o_call call169 Z Z (i_dirOf_c _ _ (H.lendSubL [1]) _ ((H.lendN (k := 1) (ks := [1]) Z Z hNt).at (show Nd.at_ t [] = some t from Z)) _ hi1 hwt) ?_)))))
 rintro _ w3 ⟨_, rfl, ew3, ⟨hdf3, rfl⟩ | ⟨d3, nm3, hdf3, rfl⟩⟩
 ·skip
  have H := H.step ew3; refine ⟨_, rfl, ?_⟩
  refine mV Z (o_extract Z Z Z (o_extract Z Z Z (aG Z (aG Z (q3 (W_seq (q2 (mV Z (o_eqnil_ptr underlying93 Z Z Z (q3 (W_true Z (q2 (aG Z (q3 (W_ret ?_)))))))))))))))
  refine N_K_ret (rt1 results172 Z ?_)
  have H := H.del (k := 0) rfl
  exact H.retM ⟨0, _, _, by (rw [(Nd.ins_no1 hdf3)]; rfl), rfl, hNt, rfl, by (rw [(Nd.ins_no1 hdf3)]; rfl)⟩
 skip
 have H := H.step ew3; refine ⟨_, rfl, ?_⟩
 have hnml3 := Nd.dir_len hdf3
 refine mV Z (o_extract Z Z Z (o_extract Z Z Z (aG Z (aG Z (q3 (W_seq (q2 (mV Z (o_eqnil_ptr underlying93 Z Z Z (q3 (W_false Z (W_skip (N_K (q2 (mV Z ?_)))))))))))))))
 refine mV Z (o_call call200 Z Z (i_place_c _ _ (H.lendSubL [1]) _ ((H.lendN (k := 1) (ks := [1]) Z Z hNt).at (Nd.dirOf_some hdf3).2.2.1) _ hnml3 (Nd.dir_wf hwt hdf3)) ?_)
 rintro _ w4 ⟨rfl, ew4⟩; have H := H.step ew4; refine ⟨_, rfl, ?_⟩
 refine mV Z (o_extract Z Z Z (o_extract Z Z Z (aG Z (aG Z (q3 (W_seq (q2 (mV Z (q3 ?_)))))))))
 refine W_cond Z ?_ ?_
 ·intro hc5
  try simp only [nrm] at hc5
  refine q2 (aG Z (q3 (W_ret (N_K_ret (rt1 results172 Z ?_)))))
  have H := H.del (k := 0) rfl
  exact H.retM ⟨0, _, _, by (rw [(Nd.ins_no2 hdf3 (by simpa using hc5))]; rfl), rfl, hNt, rfl, by (rw [(Nd.ins_no2 hdf3 (by simpa using hc5))]; rfl)⟩
 intro hc5'
 try simp only [nrm] at hc5'
 have H := H.toFront (k := 1) rfl
 obtain ⟨oa, om, oc, okv, oFs, oR, H, ohri, ohNs, ohnl, ohkl, hcov, hclose⟩ := Hp.openNode H hNt (Nd.dirOf_some hdf3).2.2.1
 obtain ⟨oak, ock, rfl⟩ := H.accShape (k := 1) rfl; have hdo := PLe.refl G0; have hn_ohri := ohri.len
 refine W_skip (N_K (W_seq (W_drawK [3] 19 H kR Z ?_))); intro w6 H; have hd6 := PLe.refl G0
 refine vM 0 Z Z (vM 1 Z Z (RD_t 2 Z kR Z (fun _ hK => v_nilCheck Z) (RD_t 3 Z kR Z (fun _ hK => v_fieldAddr 3 runUnderlying166 Z sizeOf162 Z Z) (vM 5 Z Z (vM 6 Z Z (RD_t 7 Z kR Z (fun _ hK => v_fieldAddr 1 runUnderlying66 Z sizeOf4 Z Z) (RD_t 8 Z kR Z (fun _ hK => v_load_B 0 hK isAgg4 Z Z Z) (RD_t 9 Z kR Z (fun _ hK => v_fieldAddr 2 runUnderlying66 Z sizeOf41 Z Z) (RD_t 10 Z kR Z (fun _ hK => v_load_B 0 hK isAgg41 Z Z Z) ?_)))))))))
 refine RD_run [4, 11] kR Z (RDs.cons Z ?_ (RDs.cons Z ?_ RDs.nil))
 ·skip
  refine o_load_B 0 H isAgg162 Z Z Z Z (R_nil (N_DK (Kn.of' H hd6 (SubL.cons 3 Z SubL.nil)) ?_))
  refine RD_run [11] kR Z (RDs.cons Z ?_ RDs.nil)
  refine o_call call173 Z Z (l_Clone_c _ _ H.sub _ _ hr1 ) ?_
  rintro _ w7 ⟨G7, v7, _, g7, rfl, ⟨cs7, rfl, hchk7⟩, hp7, hq7, hs7⟩
  have H := H.growO g7 hp7 hq7 hs7; obtain ⟨av7, cv7, rfl⟩ := H.accShape (k := 0) rfl
  have ohri := ohri.up g7.le
  have ohNs := ohNs.up g7.le
  have hdo := hdo.trans g7.le
  have hd6 := hd6.trans g7.le
  refine ⟨_, Z, ?_⟩
  obtain ⟨G8, H, hsg8, hsr8⟩ := H.shutL (k := 0) rfl (H.apart (k := 0) (ks := [1, 2, 3]) rfl rfl (by intro b hb; rcases hcov b hb with h | h | h; (· exact fpsAt_mem (k := 1) rfl rfl b (by simp [blk, h])); (· exact fpsAt_mem (k := 2) rfl rfl b h); (· exact fpsAt_mem (k := 3) rfl rfl b h))) hchk7 aN aN
  have ohri := ohri.up hsg8
  have ohNs := ohNs.up hsg8
  have hdo := hdo.trans hsg8
  have hd6 := hd6.trans hsg8
  refine R_nil (N_DK (Kn.of' H hd6 (SubL.cons 3 Z SubL.nil)) (RD_t 12 Z kR Z (fun _ hK => v_build bf166 Z Z) ?_))
  refine RD_run [13] kR Z (RDs.cons Z ?_ RDs.nil)
  refine o_box H Z Z Z ?_; intro b9 w9 hb9 H
  refine R_nil (N_DK (Kn.of' H hd6 (SubL.cons 4 Z SubL.nil)) ?_)
  refine RD_run [14] kR Z (RDs.cons Z ?_ RDs.nil)
  refine o_buildSlice H underlying162 sizeOf93 (fun w => ⟨_, zeroValue93 w, Z⟩) Z Z Z Z Z Z Z ?_; intro b10 w10 hb10 H
  refine R_nil (N_DK (Kn.of' H hd6 (SubL.cons 5 Z SubL.nil)) ?_)
  refine RD_run [15] kR Z (RDs.cons Z ?_ RDs.nil)
  have H := H.toFront (k := 3) rfl
  refine o_call call201 Z Z (l_Insert_c _ _ H.sub _ _ _ (Sp.pl_le d3.kids nm3) oM _ (Nd.mk b9 nm3 x.dir x.ids []) H.lent2 ) ?_
  rintro _ w11 ⟨G11, _, _, rfl, H11', ⟨c11, rfl, rfl⟩⟩
  have ohri := ohri.up H11'.le
  have ohNs := ohNs.up H11'.le
  have hsr8 := hsr8.up H11'.le
  have hdo := hdo.trans H11'.le
  have hd6 := hd6.trans H11'.le
  have H := H.borrow2 H11'
  obtain ⟨avAk, cvAk, rfl⟩ := H.accShape (k := 0) rfl
  refine ⟨_, Z, ?_⟩
  refine R_nil (N_DK (Kn.of' H hd6 (SubL.cons 4 Z SubL.nil)) (RD_t 16 Z kR Z (fun _ hK => v_nilCheck Z) (RD_t 17 Z kR Z (fun _ hK => v_fieldAddr 3 runUnderlying166 Z sizeOf162 Z Z) ?_)))
  refine RD_run [18] kR Z (RDs.cons Z ?_ RDs.nil)
  refine o_store_B 2 H sizeOf162 Z Z Z Z Z Z Z Z ?_; intro w12 H
  refine R_nil (N_DK (Kn.of' H hd6 (SubL.cons 4 Z SubL.nil)) (RD_done kR (N_K (q2 (aG Z (q3 (W_ret (rt1 results172 Z ?_))))))))
  have H := H.del (k := 4) rfl
  have H := H.toFront (k := 2) rfl
  have H := H.toFront (k := 3) rfl
  have H := H.toFront (k := 3) rfl
  have H := H.inF
  have H := H.toFront (k := 2) rfl
  have H := H.toFront (k := 2) rfl
  obtain ⟨Fs2, hp2, hN2⟩ := NdsO.ins (k := Nd.mk b9 nm3 x.dir x.ids []) (Sp.pl d3.kids nm3) ohNs (NdO.new hnml3 hsr8)
  have hcd := Nd.at_cnt (Nd.dirOf_some hdf3).2.2.1; have hcl := Nd.kids_le d3; have hpl := Sp.pl_le d3.kids nm3
  have hkl : (d3.kids.take (Sp.pl d3.kids nm3) ++ Nd.mk b9 nm3 x.dir x.ids [] :: d3.kids.drop (Sp.pl d3.kids nm3)).length = d3.kids.length + 1 := by (simp; omega)
  obtain ⟨F2, H, hN3, hb3⟩ := hclose (kids' := (d3.kids.take (Sp.pl d3.kids nm3) ++ Nd.mk b9 nm3 x.dir x.ids [] :: d3.kids.drop (Sp.pl d3.kids nm3))) (Fs' := Fs2) (by (rw [hkl]); exact H) (by (refine List.Perm.trans ?_ (List.Perm.append_right oR hp2.symm)); simp) hdo ohri hN2 oM
  have hins := Nd.ins_yes (nb := b9) hdf3 (by simpa using hc5')
  exact H.retM ⟨b9, _, _, by (rw [hins]; rfl), rfl, hN3, hb3, by (rw [hins]; rfl)⟩
 skip
 refine o_call call173 Z Z (l_Clone_c _ _ H.sub _ _ hr1 ) ?_
 rintro _ w13 ⟨G13, v13, _, g13, rfl, ⟨cs13, rfl, hchk13⟩, hp13, hq13, hs13⟩
 have H := H.growO g13 hp13 hq13 hs13; obtain ⟨av13, cv13, rfl⟩ := H.accShape (k := 0) rfl
 have ohri := ohri.up g13.le
 have ohNs := ohNs.up g13.le
 have hdo := hdo.trans g13.le
 have hd6 := hd6.trans g13.le
 refine ⟨_, Z, ?_⟩
 obtain ⟨G14, H, hsg14, hsr14⟩ := H.shutL (k := 0) rfl (H.apart (k := 0) (ks := [1, 2, 3]) rfl rfl (by intro b hb; rcases hcov b hb with h | h | h; (· exact fpsAt_mem (k := 1) rfl rfl b (by simp [blk, h])); (· exact fpsAt_mem (k := 2) rfl rfl b h); (· exact fpsAt_mem (k := 3) rfl rfl b h))) hchk13 aN aN
 have ohri := ohri.up hsg14
 have ohNs := ohNs.up hsg14
 have hdo := hdo.trans hsg14
 have hd6 := hd6.trans hsg14
 refine R_nil (N_DK (Kn.of' H hd6 (SubL.cons 3 Z SubL.nil)) (RD_t 12 Z kR Z (fun _ hK => v_build bf166 Z Z) ?_))
 refine RD_run [4, 13] kR Z (RDs.cons Z ?_ (RDs.cons Z ?_ RDs.nil))
 ·skip
  refine o_load_B 0 H isAgg162 Z Z Z Z (R_nil (N_DK (Kn.of' H hd6 (SubL.cons 3 Z SubL.nil)) ?_))
  refine RD_run [13] kR Z (RDs.cons Z ?_ RDs.nil)
  refine o_box H Z Z Z ?_; intro b15 w15 hb15 H
  refine R_nil (N_DK (Kn.of' H hd6 (SubL.cons 4 Z SubL.nil)) ?_)
  refine RD_run [14] kR Z (RDs.cons Z ?_ RDs.nil)
  refine o_buildSlice H underlying162 sizeOf93 (fun w => ⟨_, zeroValue93 w, Z⟩) Z Z Z Z Z Z Z ?_; intro b16 w16 hb16 H
  refine R_nil (N_DK (Kn.of' H hd6 (SubL.cons 5 Z SubL.nil)) ?_)
  refine RD_run [15] kR Z (RDs.cons Z ?_ RDs.nil)
  have H := H.toFront (k := 3) rfl
  refine o_call call201 Z Z (l_Insert_c _ _ H.sub _ _ _ (Sp.pl_le d3.kids nm3) oM _ (Nd.mk b15 nm3 x.dir x.ids []) H.lent2 ) ?_
  rintro _ w17 ⟨G17, _, _, rfl, H17', ⟨c17, rfl, rfl⟩⟩
  have ohri := ohri.up H17'.le
  have ohNs := ohNs.up H17'.le
  have hsr14 := hsr14.up H17'.le
  have hdo := hdo.trans H17'.le
  have hd6 := hd6.trans H17'.le
  have H := H.borrow2 H17'
  obtain ⟨avAk, cvAk, rfl⟩ := H.accShape (k := 0) rfl
  refine ⟨_, Z, ?_⟩
  refine R_nil (N_DK (Kn.of' H hd6 (SubL.cons 4 Z SubL.nil)) (RD_t 16 Z kR Z (fun _ hK => v_nilCheck Z) (RD_t 17 Z kR Z (fun _ hK => v_fieldAddr 3 runUnderlying166 Z sizeOf162 Z Z) ?_)))
  refine RD_run [18] kR Z (RDs.cons Z ?_ RDs.nil)
  refine o_store_B 2 H sizeOf162 Z Z Z Z Z Z Z Z ?_; intro w18 H
  refine R_nil (N_DK (Kn.of' H hd6 (SubL.cons 4 Z SubL.nil)) (RD_done kR (N_K (q2 (aG Z (q3 (W_ret (rt1 results172 Z ?_))))))))
  have H := H.del (k := 4) rfl
  have H := H.toFront (k := 2) rfl
  have H := H.toFront (k := 3) rfl
  have H := H.toFront (k := 3) rfl
  have H := H.inF
  have H := H.toFront (k := 2) rfl
  have H := H.toFront (k := 2) rfl
  obtain ⟨Fs2, hp2, hN2⟩ := NdsO.ins (k := Nd.mk b15 nm3 x.dir x.ids []) (Sp.pl d3.kids nm3) ohNs (NdO.new hnml3 hsr14)
  have hcd := Nd.at_cnt (Nd.dirOf_some hdf3).2.2.1; have hcl := Nd.kids_le d3; have hpl := Sp.pl_le d3.kids nm3
  have hkl : (d3.kids.take (Sp.pl d3.kids nm3) ++ Nd.mk b15 nm3 x.dir x.ids [] :: d3.kids.drop (Sp.pl d3.kids nm3)).length = d3.kids.length + 1 := by (simp; omega)
  obtain ⟨F2, H, hN3, hb3⟩ := hclose (kids' := (d3.kids.take (Sp.pl d3.kids nm3) ++ Nd.mk b15 nm3 x.dir x.ids [] :: d3.kids.drop (Sp.pl d3.kids nm3))) (Fs' := Fs2) (by (rw [hkl]); exact H) (by (refine List.Perm.trans ?_ (List.Perm.append_right oR hp2.symm)); simp) hdo ohri hN2 oM
  have hins := Nd.ins_yes (nb := b15) hdf3 (by simpa using hc5')
  exact H.retM ⟨b15, _, _, by (rw [hins]; rfl), rfl, hN3, hb3, by (rw [hins]; rfl)⟩
 skip
 refine o_box H Z Z Z ?_; intro b19 w19 hb19 H
 refine R_nil (N_DK (Kn.of' H hd6 (SubL.cons 4 Z SubL.nil)) ?_)
 refine RD_run [4, 14] kR Z (RDs.cons Z ?_ (RDs.cons Z ?_ RDs.nil))
 ·skip
  refine o_load_B 1 H isAgg162 Z Z Z Z (R_nil (N_DK (Kn.of' H hd6 (SubL.cons 4 Z SubL.nil)) ?_))
  refine RD_run [14] kR Z (RDs.cons Z ?_ RDs.nil)
  refine o_buildSlice H underlying162 sizeOf93 (fun w => ⟨_, zeroValue93 w, Z⟩) Z Z Z Z Z Z Z ?_; intro b20 w20 hb20 H
  refine R_nil (N_DK (Kn.of' H hd6 (SubL.cons 5 Z SubL.nil)) ?_)
  refine RD_run [15] kR Z (RDs.cons Z ?_ RDs.nil)
  have H := H.toFront (k := 3) rfl
  refine o_call call201 Z Z (l_Insert_c _ _ H.sub _ _ _ (Sp.pl_le d3.kids nm3) oM _ (Nd.mk b19 nm3 x.dir x.ids []) H.lent2 ) ?_
  rintro _ w21 ⟨G21, _, _, rfl, H21', ⟨c21, rfl, rfl⟩⟩
  have ohri := ohri.up H21'.le
  have ohNs := ohNs.up H21'.le
  have hsr14 := hsr14.up H21'.le
  have hdo := hdo.trans H21'.le
  have hd6 := hd6.trans H21'.le
  have H := H.borrow2 H21'
  obtain ⟨avAk, cvAk, rfl⟩ := H.accShape (k := 0) rfl
  refine ⟨_, Z, ?_⟩
  refine R_nil (N_DK (Kn.of' H hd6 (SubL.cons 4 Z SubL.nil)) (RD_t 16 Z kR Z (fun _ hK => v_nilCheck Z) (RD_t 17 Z kR Z (fun _ hK => v_fieldAddr 3 runUnderlying166 Z sizeOf162 Z Z) ?_)))
  refine RD_run [18] kR Z (RDs.cons Z ?_ RDs.nil)
  refine o_store_B 2 H sizeOf162 Z Z Z Z Z Z Z Z ?_; intro w22 H
  refine R_nil (N_DK (Kn.of' H hd6 (SubL.cons 4 Z SubL.nil)) (RD_done kR (N_K (q2 (aG Z (q3 (W_ret (rt1 results172 Z ?_))))))))
  have H := H.del (k := 4) rfl
  have H := H.toFront (k := 2) rfl
  have H := H.toFront (k := 3) rfl
  have H := H.toFront (k := 3) rfl
  have H := H.inF
  have H := H.toFront (k := 2) rfl
  have H := H.toFront (k := 2) rfl
  obtain ⟨Fs2, hp2, hN2⟩ := NdsO.ins (k := Nd.mk b19 nm3 x.dir x.ids []) (Sp.pl d3.kids nm3) ohNs (NdO.new hnml3 hsr14)
  have hcd := Nd.at_cnt (Nd.dirOf_some hdf3).2.2.1; have hcl := Nd.kids_le d3; have hpl := Sp.pl_le d3.kids nm3
  have hkl : (d3.kids.take (Sp.pl d3.kids nm3) ++ Nd.mk b19 nm3 x.dir x.ids [] :: d3.kids.drop (Sp.pl d3.kids nm3)).length = d3.kids.length + 1 := by (simp; omega)
  obtain ⟨F2, H, hN3, hb3⟩ := hclose (kids' := (d3.kids.take (Sp.pl d3.kids nm3) ++ Nd.mk b19 nm3 x.dir x.ids [] :: d3.kids.drop (Sp.pl d3.kids nm3))) (Fs' := Fs2) (by (rw [hkl]); exact H) (by (refine List.Perm.trans ?_ (List.Perm.append_right oR hp2.symm)); simp) hdo ohri hN2 oM
  have hins := Nd.ins_yes (nb := b19) hdf3 (by simpa using hc5')
  exact H.retM ⟨b19, _, _, by (rw [hins]; rfl), rfl, hN3, hb3, by (rw [hins]; rfl)⟩
 skip
 refine o_buildSlice H underlying162 sizeOf93 (fun w => ⟨_, zeroValue93 w, Z⟩) Z Z Z Z Z Z Z ?_; intro b23 w23 hb23 H
 refine R_nil (N_DK (Kn.of' H hd6 (SubL.cons 5 Z SubL.nil)) ?_)
 refine RD_run [4] kR Z (RDs.cons Z ?_ RDs.nil)
 refine o_load_B 2 H isAgg162 Z Z Z Z (R_nil (N_DK (Kn.of' H hd6 (SubL.cons 5 Z SubL.nil)) ?_))
 refine RD_run [15] kR Z (RDs.cons Z ?_ RDs.nil)
 have H := H.toFront (k := 3) rfl
 refine o_call call201 Z Z (l_Insert_c _ _ H.sub _ _ _ (Sp.pl_le d3.kids nm3) oM _ (Nd.mk b19 nm3 x.dir x.ids []) H.lent2 ) ?_
 rintro _ w24 ⟨G24, _, _, rfl, H24', ⟨c24, rfl, rfl⟩⟩
 have ohri := ohri.up H24'.le
 have ohNs := ohNs.up H24'.le
 have hsr14 := hsr14.up H24'.le
 have hdo := hdo.trans H24'.le
 have hd6 := hd6.trans H24'.le
 have H := H.borrow2 H24'
 obtain ⟨avAk, cvAk, rfl⟩ := H.accShape (k := 0) rfl
 refine ⟨_, Z, ?_⟩
 refine R_nil (N_DK (Kn.of' H hd6 (SubL.cons 4 Z SubL.nil)) (RD_t 16 Z kR Z (fun _ hK => v_nilCheck Z) (RD_t 17 Z kR Z (fun _ hK => v_fieldAddr 3 runUnderlying166 Z sizeOf162 Z Z) ?_)))
 refine RD_run [18] kR Z (RDs.cons Z ?_ RDs.nil)
 refine o_store_B 2 H sizeOf162 Z Z Z Z Z Z Z Z ?_; intro w25 H
 refine R_nil (N_DK (Kn.of' H hd6 (SubL.cons 4 Z SubL.nil)) (RD_done kR (N_K (q2 (aG Z (q3 (W_ret (rt1 results172 Z ?_))))))))
 have H := H.del (k := 4) rfl
 have H := H.toFront (k := 2) rfl
 have H := H.toFront (k := 3) rfl
 have H := H.toFront (k := 3) rfl
 have H := H.inF
 have H := H.toFront (k := 2) rfl
 have H := H.toFront (k := 2) rfl
 obtain ⟨Fs2, hp2, hN2⟩ := NdsO.ins (k := Nd.mk b19 nm3 x.dir x.ids []) (Sp.pl d3.kids nm3) ohNs (NdO.new hnml3 hsr14)
 have hcd := Nd.at_cnt (Nd.dirOf_some hdf3).2.2.1; have hcl := Nd.kids_le d3; have hpl := Sp.pl_le d3.kids nm3
 have hkl : (d3.kids.take (Sp.pl d3.kids nm3) ++ Nd.mk b19 nm3 x.dir x.ids [] :: d3.kids.drop (Sp.pl d3.kids nm3)).length = d3.kids.length + 1 := by (simp; omega)
 obtain ⟨F2, H, hN3, hb3⟩ := hclose (kids' := (d3.kids.take (Sp.pl d3.kids nm3) ++ Nd.mk b19 nm3 x.dir x.ids [] :: d3.kids.drop (Sp.pl d3.kids nm3))) (Fs' := Fs2) (by (rw [hkl]); exact H) (by (refine List.Perm.trans ?_ (List.Perm.append_right oR hp2.symm)); simp) hdo ohri hN2 oM
 have hins := Nd.ins_yes (nb := b19) hdf3 (by simpa using hc5')
 exact H.retM ⟨b19, _, _, by (rw [hins]; rfl), rfl, hN3, hb3, by (rw [hins]; rfl)⟩
end Go.Proofs.Tst

namespace Go.Proofs.Tst
open Go Fw Tryz
theorem i_openTree_c (w0 : World) (G0 : PH) (hG : PSub G0 w0) (vlist : Value) (list : List (BItem)) (hlist : RdItems G0 vlist list) (hLent : Lent w0 G0 [])  :
  Calls Tryz.prog 147 #[vlist] w0 (RetM w0 G0 [] (fun G' v Bs => (v = .tuple #[.pointer none, .bool false] ∧ Bs = [] ∧ Sp.TreeValid list = false) ∨ (∃ (T : Nd) (F : Fr), v = .tuple #[.pointer (some ⟨T.b, 0, none⟩), .bool true] ∧ Bs = [frag F] ∧ NdO 166 93 G' T F ∧ Nd.TOK T list ∧ Sp.TreeValid list = true))) := by
 obtain ⟨alist, klist, rfl⟩ := hlist.shape
 have hlimlist : list.length ≤ 1099511627776 := hlist.lim
 have H : Hp w0 G0 [] w0 G0 [] := hLent.hp
 refine calls_of_W (l := [.slice alist list.length klist]) func147 Z ntmps147 Z (q2 (aG Z (aG Z (q3 (W_seq (q2 (mV Z (o_len_slice underlying29 Z Z (o_gtr Z Z Z (q3 ?_))))))))))
 refine W_cond Z ?_ ?_
 ·intro hc1
  try simp only [nrm] at hc1
  refine q2 (aG Z (aG Z (q3 (W_ret (N_K_ret (rt2 results147 Z Z ?_))))))
  exact H.retM (.inl ⟨Z, Z, Nd.tv_long oM⟩)
 intro hc1'
 try simp only [nrm] at hc1'
 refine W_skip (N_K (q2 (o_build bf166 Z Z Z (o_box H Z Z Z ?_)))); intro b2 w2 hb2 H
 refine aG Z (q1 (aG Z (q3 (W_seq (q2 (mV Z (o_len_slice underlying29 Z Z (mV Z (q3 (W_block ?_))))))))))
 have H := H.addF
 have H := H.toFront (k := 1) rfl
 have H := H.inF
 have hN0 : NdO 166 93 G0 (Nd.mk b2 [] true [] []) _ := NdO.new (by simp) (RdS.nil _ _ _)
 refine W_lp (hf := (Sub.cons (t := 13) Z (Sub.cons (t := 14) Z Sub.nil))) (J := fun M w m => ∃ (k : Nat) (la : Bs) (T : Nd) (FT : Fr) (G : PH), M = [(15, .int .i64 (k : Int)), (5, str la), (4, .pointer (some ⟨T.b, 0, none⟩))] ∧ PLe G0 G ∧ Hp w0 G0 [] w G [frag FT] ∧ (k ≤ list.length ∧ la = Nd.lastPath list k ∧ la.length ≤ 16777216 ∧ NdO 166 93 G T FT ∧ Nd.TOK T (list.take k)) ∧ m = (list.length - k)) (h0 := ⟨0, [], (Nd.mk b2 [] true [] []), _, _, Z, PLe.refl _, H, ?inv, Z⟩) (round := ?round)
 case inv => exact ⟨by omega, rfl, by simp, hN0, Nd.tok_root _⟩
 case round =>
  rintro _ w3 _ ⟨k, la, T, FT, G3, rfl, hle3, H, hinv3, rfl⟩
  have hlist := hlist.up hle3
  obtain ⟨hk, hla, hlp, hNT, hTok⟩ := hinv3
  refine q2 (o_lss Z Z Z (q3 (W_seq ?_)))
  refine W_cond Z ?_ ?_
  ·intro hc4
   try simp only [nrm] at hc4
   refine W_skip (N_K (W_seq (W_block (q2 (o_index_P k hlist underlying29 sizeOf66 Z Z Z Z aN ?_))))); intro b5 o5 z5 q5 hz5 hE5 hrow5
   obtain ⟨a5, m5, c5, rfl, hi5, hr5⟩ := hE5; have hy_hi5 : _ ≤ 16777216 := hi5; have hn_hr5 := hr5.len; have hx_hr5 : _ ≤ 1099511627776 := hr5.lim
   refine o_loadagg_P H isAgg66 sizeOf66 Z Z hrow5 Z (o_alloc H zeroValue66 Z Z ?_); intro b6 w6 hb6 H
   refine o_store_B 0 H sizeOf66 Z Z Z Z Z Z Z Z ?_; intro w7 H
   refine q3 (W_seq (q2 (o_fieldAddr 0 runUnderlying66 Z sizeOf9 Z Z Z (o_load_B 0 H isAgg9 Z Z Z Z (mV Z (o_sleq Z Z Z (mV Z ?_)))))))
   refine R_case (t := 23) Z ?_ ?_
   ·intro hc8
    try simp only [nrm] at hc8
    refine rP Z (rP Z (rP Z (o_pick_t Z Z Z (mV Z (rP Z (rP Z (rP Z (rP Z (o_pick_t Z Z Z (q3 (W_true Z (q2 (aG Z (aG Z (q3 ?_)))))))))))))))
    refine W_ret (N_K_ret (N_B_ret (N_K_ret (N_LP_ret (N_B_ret (N_K_ret (rt2 results147 Z Z ?_)))))))
    have H := H.del (k := 0) rfl
    have H := H.del (k := 0) rfl
    exact H.retM (.inl ⟨rfl, rfl, Nd.tv_false 0 hTok hz5 (.inl (by (rw [← hla]); exact Nd.leq_no (by first | simpa using hc8 | (simp at hc8; exact hc8.symm))))⟩)
   intro hc8'
   try simp only [nrm] at hc8'
   refine gR Z (o_loadagg_B 0 H isAgg66 sizeOf66 Z Z Z Z Z (gR Z (o_call call181 Z Z (i_itemValid_c _ _ H.sub _ _ ⟨_, _, _, Z, hi5, hr5⟩ ) ?_)))
   rintro _ w9 ⟨rfl, ew9⟩; have H := H.step ew9; refine ⟨_, rfl, ?_⟩
   refine gR Z (o_not Z Z (o_pick_f Z Z Z (mV Z ?_)))
   refine R_case (t := 28) Z ?_ ?_
   ·intro hc10
    try simp only [nrm] at hc10
    refine rP Z (rP Z (rP Z (rP Z (o_pick_t Z Z Z (q3 (W_true Z (q2 (aG Z (aG Z (q3 (W_ret (N_K_ret (N_B_ret (N_K_ret (N_LP_ret ?_)))))))))))))))
    refine N_B_ret (N_K_ret (rt2 results147 Z Z ?_))
    have H := H.del (k := 0) rfl
    have H := H.del (k := 0) rfl
    exact H.retM (.inl ⟨rfl, rfl, Nd.tv_false 0 hTok hz5 (.inr (.inl (by simpa using hc10)))⟩)
   intro hc10'
   try simp only [nrm] at hc10'
   refine gR Z (mV Z (gR Z (o_loadagg_B 0 H isAgg66 sizeOf66 Z Z Z Z Z (gR Z ?_))))
   have H := H.toFront (k := 1) rfl
   refine o_call call172 Z Z (i_insert_c _ _ H.sub _ _ hNT _ _ ⟨_, _, _, Z, hi5, hr5⟩ H.lent1 hTok.wf (by have := hTok.cnt; simp at this; omega)) ?_
   rintro _ w11 ⟨G11, _, _, rfl, H11', ⟨nb11, F11, t11, rfl, rfl, hN11, hb11, ht11⟩⟩
   have hle3 := hle3.trans H11'.le
   have H := H.borrow1 H11'
   try rw [← hb11]
   refine ⟨_, Z, ?_⟩
   refine gR Z (o_not Z Z (o_pick_f Z Z Z (q3 ?_)))
   refine W_cond Z ?_ ?_
   ·intro hc12
    try simp only [nrm] at hc12
    refine q2 (aG Z (aG Z (q3 (W_ret (N_K_ret (N_B_ret (N_K_ret (N_LP_ret (N_B_ret (N_K_ret (rt2 results147 Z Z ?_)))))))))))
    have H := H.del (k := 0) rfl
    have H := H.del (k := 0) rfl
    exact H.retM (.inl ⟨rfl, rfl, Nd.tv_false nb11 hTok hz5 (.inr (.inr (by simpa using hc12)))⟩)
   intro hc12'
   try simp only [nrm] at hc12'
   refine W_skip (N_K (W_region (o_fieldAddr 0 runUnderlying66 Z sizeOf9 Z Z Z (o_load_B 1 H isAgg9 Z Z Z Z (aG Z (R_nil (N_B (N_K (W_region (o_add Z Z Z oO (mV Z (R_nil ?_))))))))))))
   have H := H.del (k := 1) rfl
   refine N_lp (hJ := ⟨k + 1, z5.path, t11, F11, _, Z, hle3, H, ?inv, Z⟩) (hm := ?hm)
   case hm => omega
   case inv => exact ⟨by omega, (Nd.lastPath_succ hz5).symm, by assumption, hN11, Nd.open_step hTok hz5 oM (by (rw [← hla]); exact Nd.leq_yes hc8'.1 hc8'.2) (by simpa using hc10') (Nd.getD_some ht11 (by simpa using hc12'))⟩
  intro hc4'
  try simp only [nrm] at hc4'
  refine W_exit (N_K_exit (N_LP_exit (N_B_same (N_K (q2 (mV Z (aG Z (aG Z (q3 (W_ret (rt2 results147 Z Z ?_)))))))))))
  have hTl : Nd.TOK T list := by (have h9 := hTok; rw [List.take_of_length_le oM] at h9; exact h9)
  exact H.retM (.inr ⟨T, _, Z, Z, hNT, hTl, hTl.valid⟩)
end Go.Proofs.Tst

namespace Go.Proofs.Tst
open Go Fw Tryz
theorem i_keep_c (w0 : World) (G0 : PH) (hG : PSub G0 w0) (mbs : Nat) (ess : Array MapEntry) (cks : Nat) (xss : List (Int × Value)) (Ls : List BHeld) (hms : MapIs (Value.int .i64) ess cks xss) (hSs : StR G0 xss Ls) (hVs : Sp.VH Ls) (id : Int) (hLent : Lent w0 G0 [blk mbs (.map ess cks)])  :
  Calls Tryz.prog 198 #[.map (some mbs), .int .i64 id] w0 (RetM w0 G0 [mbs] (fun G' v Bs => ∃ (es' : Array MapEntry) (ck' : Nat) (xs' : List (Int × Value)) (L' : List BHeld), v = .bool (Sp.StoreKeep Ls id).isSome ∧ Bs = [blk mbs (.map es' ck')] ∧ MapIs (Value.int .i64) es' ck' xs' ∧ StR G' xs' L' ∧ Sp.VH L' ∧ L' = (Sp.StoreKeep Ls id).getD Ls)) := by
 have H : Hp w0 G0 [mbs] w0 G0 [blk mbs (.map ess cks)] := hLent.hp
 refine calls_of_W (l := [.map (some mbs), .int .i64 id]) func198 Z ntmps198 Z (q2 (aG Z (q1 (mV Z (mV Z (o_lookS2 (H.at (k := 0) Z) hms hSs underlying92 underlying3 zeroValue131 Z Z Z ?_)))))); intro q1 hE1
 obtain ⟨a1, m1, c1, rfl, hi1, hr1, hj1⟩ := hE1; have hn_hr1 := hr1.len; have hx_hr1 : _ ≤ 1099511627776 := hr1.lim
 have hfnd : True := trivial
 refine mV Z (o_extract Z Z Z (o_extract Z Z Z (o_alloc H zeroValue131 Z Z ?_))); intro b2 w2 hb2 H
 refine o_store_B 0 H sizeOf131 Z Z Z Z Z Z Z Z ?_; intro w3 H
 refine aG Z (q3 (W_seq (q2 (mV Z (o_not Z Z (mV Z ?_))))))
 refine R_case (t := 15) Z ?_ ?_
 ·intro hc4
  try simp only [nrm] at hc4
  refine rP Z (rP Z (rP Z (o_pick_t Z Z Z (q3 (W_true Z (q2 (aG Z (q3 (W_ret (N_K_ret (rt1 results198 Z ?_)))))))))))
  have H := H.del (k := 0) rfl
  exact H.retM ⟨_, _, _, _, congrArg Value.bool (by rw [Sp.keep_no hVs (.inl (by simpa using hc4))]; rfl), rfl, hms, hSs, hVs, by rw [Sp.keep_no hVs (.inl (by simpa using hc4))]; rfl⟩
 intro hc4'
 try simp only [nrm] at hc4'
 have hfd : (Sp.atH Ls id).isSome = true := by simpa using hc4'
 have hgo := Sp.get_ok hVs hfd
 refine gR Z (o_fieldAddr 2 runUnderlying131 Z sizeOf3 Z Z Z (gR Z (o_load_B 0 H isAgg3 Z Z Z Z (gR Z (o_geq Z Z Z (o_pick_f Z Z Z (q3 ?_)))))))
 refine W_cond Z ?_ ?_
 ·intro hc5
  try simp only [nrm] at hc5
  refine q2 (aG Z (q3 (W_ret (N_K_ret (rt1 results198 Z ?_)))))
  have H := H.del (k := 0) rfl
  exact H.retM ⟨_, _, _, _, congrArg Value.bool (by rw [Sp.keep_no hVs (.inr oM)]; rfl), rfl, hms, hSs, hVs, by rw [Sp.keep_no hVs (.inr oM)]; rfl⟩
 intro hc5'
 try simp only [nrm] at hc5'
 have hkg := Sp.keep_get hVs hfd oM
 refine W_skip (N_K (q2 (o_fieldAddr 2 runUnderlying131 Z sizeOf3 Z Z Z (o_load_B 0 H isAgg3 Z Z Z Z (o_add Z Z Z oO (o_fieldAddr 2 runUnderlying131 Z sizeOf3 Z Z Z (o_store_B 0 H sizeOf3 Z Z Z Z Z Z Z Z ?_))))))); intro w7 H
 refine q1 (mV Z (mV Z (o_loadagg_B 0 H isAgg131 sizeOf131 Z Z Z Z Z ?_)))
 refine o_updS 1 H ⟨(getH Ls id).id, (getH Ls id).bytes, (getH Ls id).uses + 1⟩ Z hms hSs underlying92 underlying3 Z Z Z (show heldE G0 ⟨(getH Ls id).id, (getH Ls id).bytes, (getH Ls id).uses + 1⟩ _ from ⟨_, _, _, Z, ⟨by first | omega | (dsimp only; omega), by first | omega | (dsimp only; omega)⟩, hr1, ⟨by first | omega | (dsimp only; omega), by first | omega | (dsimp only; omega)⟩⟩) (by exact Sp.get_id hfd) ?_; intro es8 ck8 xs8 w8 H hm8 hS8
 refine q1 (aG Z (q3 (W_ret (rt1 results198 Z ?_))))
 have H := H.del (k := 0) rfl
 exact H.retM ⟨_, _, _, _, congrArg Value.bool (by rw [hkg.1]; rfl), rfl, hm8, hS8, hkg.2, by rw [hkg.1]; rfl⟩
theorem i_drop_c (w0 : World) (G0 : PH) (hG : PSub G0 w0) (mbs : Nat) (ess : Array MapEntry) (cks : Nat) (xss : List (Int × Value)) (Ls : List BHeld) (hms : MapIs (Value.int .i64) ess cks xss) (hSs : StR G0 xss Ls) (hVs : Sp.VH Ls) (id : Int) (hLent : Lent w0 G0 [blk mbs (.map ess cks)])  :
  Calls Tryz.prog 174 #[.map (some mbs), .int .i64 id] w0 (RetM w0 G0 [mbs] (fun G' v Bs => ∃ (es' : Array MapEntry) (ck' : Nat) (xs' : List (Int × Value)) (L' : List BHeld), v = .bool (Sp.StoreDrop Ls id).isSome ∧ Bs = [blk mbs (.map es' ck')] ∧ MapIs (Value.int .i64) es' ck' xs' ∧ StR G' xs' L' ∧ Sp.VH L' ∧ L' = (Sp.StoreDrop Ls id).getD Ls)) := by
 have H : Hp w0 G0 [mbs] w0 G0 [blk mbs (.map ess cks)] := hLent.hp
 refine calls_of_W (l := [.map (some mbs), .int .i64 id]) func174 Z ntmps174 Z (q2 (aG Z (q1 (mV Z (mV Z (o_lookS2 (H.at (k := 0) Z) hms hSs underlying92 underlying3 zeroValue131 Z Z Z ?_)))))); intro q1 hE1
 obtain ⟨a1, m1, c1, rfl, hi1, hr1, hj1⟩ := hE1; have hn_hr1 := hr1.len; have hx_hr1 : _ ≤ 1099511627776 := hr1.lim
 refine mV Z (o_extract Z Z Z (o_extract Z Z Z (o_alloc H zeroValue131 Z Z ?_))); intro b2 w2 hb2 H
 refine o_store_B 0 H sizeOf131 Z Z Z Z Z Z Z Z ?_; intro w3 H
 refine aG Z (q3 (W_seq (q2 (mV Z (o_not Z Z (q3 ?_))))))
 refine W_cond Z ?_ ?_
 ·intro hc4
  try simp only [nrm] at hc4
  refine q2 (aG Z (q3 (W_ret (N_K_ret (rt1 results174 Z ?_)))))
  have H := H.del (k := 0) rfl
  exact H.retM ⟨_, _, _, _, congrArg Value.bool (by rw [Sp.drop_no (by simpa using hc4)]; rfl), rfl, hms, hSs, hVs, by rw [Sp.drop_no (by simpa using hc4)]; rfl⟩
 intro hc4'
 try simp only [nrm] at hc4'
 have hfd : (Sp.atH Ls id).isSome = true := by simpa using hc4'
 have hgo := Sp.get_ok hVs hfd
 refine W_skip (N_K (W_seq (q2 (o_fieldAddr 2 runUnderlying131 Z sizeOf3 Z Z Z (o_load_B 0 H isAgg3 Z Z Z Z (o_eql Z Z Z (q3 ?_)))))))
 refine W_cond Z ?_ ?_
 ·intro hc5
  try simp only [nrm] at hc5
  have hkg := Sp.drop_get1 hVs hfd hc5
  refine q2 (mV Z (mV Z (o_delS 1 H Z hms hSs underlying92 underlying3 Z Z ?_))); intro es6 ck6 xs6 w6 H hm6 hS6
  refine q1 (aG Z (q3 (W_ret (N_K_ret (rt1 results174 Z ?_)))))
  have H := H.del (k := 0) rfl
  exact H.retM ⟨_, _, _, _, congrArg Value.bool (by rw [hkg.1]; rfl), rfl, hm6, hS6, hkg.2, by rw [hkg.1]; rfl⟩
 intro hc5'
 try simp only [nrm] at hc5'
 have hkg := Sp.drop_get2 hVs hfd hc5'
 refine W_skip (N_K (q2 (o_fieldAddr 2 runUnderlying131 Z sizeOf3 Z Z Z (o_load_B 0 H isAgg3 Z Z Z Z (o_sub Z Z Z oO (o_fieldAddr 2 runUnderlying131 Z sizeOf3 Z Z Z (o_store_B 0 H sizeOf3 Z Z Z Z Z Z Z Z ?_))))))); intro w8 H
 refine q1 (mV Z (mV Z (o_loadagg_B 0 H isAgg131 sizeOf131 Z Z Z Z Z ?_)))
 refine o_updS 1 H ⟨(getH Ls id).id, (getH Ls id).bytes, (getH Ls id).uses - 1⟩ Z hms hSs underlying92 underlying3 Z Z Z (show heldE G0 ⟨(getH Ls id).id, (getH Ls id).bytes, (getH Ls id).uses - 1⟩ _ from ⟨_, _, _, Z, ⟨by first | omega | (dsimp only; omega), by first | omega | (dsimp only; omega)⟩, hr1, ⟨by first | omega | (dsimp only; omega), by first | omega | (dsimp only; omega)⟩⟩) (by exact Sp.get_id hfd) ?_; intro es9 ck9 xs9 w9 H hm9 hS9
 refine q1 (aG Z (q3 (W_ret (rt1 results174 Z ?_))))
 have H := H.del (k := 0) rfl
 exact H.retM ⟨_, _, _, _, congrArg Value.bool (by rw [hkg.1]; rfl), rfl, hm9, hS9, hkg.2, by rw [hkg.1]; rfl⟩
theorem i_find_c (w0 : World) (G0 : PH) (hG : PSub G0 w0) (mbs : Nat) (ess : Array MapEntry) (cks : Nat) (xss : List (Int × Value)) (Ls : List BHeld) (hbs : MapAt G0 mbs ess cks) (hms : MapIs (Value.int .i64) ess cks xss) (hSs : StR G0 xss Ls) (hVs : Sp.VH Ls) (vbytes : Value) (bytes : List (Int)) (hbytes : RdI G0 vbytes bytes)  :
  Calls Tryz.prog 197 #[.map (some mbs), vbytes] w0 (Rets w0 (.int .i64 (Sp.findId Ls bytes))) := by
 obtain ⟨abytes, kbytes, rfl⟩ := hbytes.shape
 have hlimbytes : bytes.length ≤ 1099511627776 := hbytes.lim
 have H := Hp.init hG
 refine calls_of_W (l := [.map (some mbs), .slice abytes bytes.length kbytes]) func197 Z ntmps197 Z (q2 (aG Z (q3 (W_seq (q2 (mV Z ?_))))))
 have hmb1 := (hbs.at H.sub); refine o_range H hmb1 underlying92 rfl rfl ?_; intro r1 w1 hr1 H _; have hne1 : r1 ≠ mbs := fun e => by have := (Array.getElem?_eq_some_iff.1 hmb1).1; omega
 refine q3 (W_block ?_)
 refine W_lp (hf := (Sub.cons (t := 1) Z (Sub.cons (t := 8) Z Sub.nil))) (J := fun M w m => ∃  (sn : Array Nat) (G : PH), M = [] ∧ PLe G0 G ∧ Hp w0 G0 [] w G [blk r1 (.mapIter (some mbs) cks sn cks)] ∧ (∀ y, y ∈ Ls → seenH ess sn y → Sp.l2Same y.bytes bytes = false) ∧ m = ((leftOf ess sn).size)) (h0 := ⟨#[], _, Z, PLe.refl _, H, ?inv, Z⟩) (round := ?round)
 case inv => rintro y hy ⟨e, _, _, he⟩; simp at he
 case round =>
  rintro _ w2 _ ⟨sn, G2, rfl, hle2, H, hinv2, rfl⟩
  have hSs := hSs.up hle2
  have hbs := hbs.up hle2
  have hbytes := hbytes.up hle2
  have hsn := hinv2
  refine q2 ?_
  refine o_next 0 H (hbs.at H.sub) hms hSs Z hne1 Z Z ?_ ?_
  ·intro hall3
   refine o_extract Z Z Z (q3 (W_seq (W_false Z (W_exit (N_K_exit (N_LP_exit (N_B_same (N_K (q2 (aG Z (q3 (W_ret (rt1 results197 Z ?_)))))))))))))
   exact H.rets (congrArg (Value.int .i64) (by rw [Sp.findId_none (fun y hy => hsn y hy (hall3 y hy))]))
  intro e3 y3 q3 w3 he3 hk3 hv3 hy3 hE3 _ hless3 H
  obtain ⟨a3, m3, c3, rfl, hi3, hr3, hj3⟩ := hE3; have hn_hr3 := hr3.len; have hx_hr3 : _ ≤ 1099511627776 := hr3.lim
  refine o_extract Z Z Z (q3 (W_seq (W_true Z (W_skip (N_K (W_block (q2 (o_entry 0 H (hbs.at H.sub) hms Z he3 hk3 hv3 Z Z (o_extract Z Z Z (o_extract Z Z Z (o_alloc H zeroValue131 Z Z ?_))))))))))); intro b4 w4 hb4 H
  refine aG Z (o_store_B 0 H sizeOf131 Z Z Z Z Z Z Z Z ?_); intro w5 H
  refine q1 (o_fieldAddr 1 runUnderlying131 Z sizeOf41 Z Z Z (o_load_B 0 H isAgg41 Z Z Z Z (mV Z (o_call call208 Z Z (l_Equal_c _ _ H.sub _ _ hr3 _ _ hbytes ) ?_))))
  rintro _ w6 ⟨rfl, ew6⟩; have H := H.step ew6; refine ⟨_, rfl, ?_⟩
  refine q3 ?_
  refine W_cond Z ?_ ?_
  ·intro hc7
   try simp only [nrm] at hc7
   refine q2 (mV Z (aG Z (q3 (W_ret (N_B_ret (N_LP_ret (N_B_ret (N_K_ret (rt1 results197 Z ?_)))))))))
   exact H.rets (congrArg (Value.int .i64) (by rw [Sp.findId_some hVs hy3 hc7]))
  intro hc7'
  try simp only [nrm] at hc7'
  refine W_skip (N_B ?_)
  have H := H.del (k := 0) rfl
  refine N_lp (hJ := ⟨_, _, Z, hle2, H, ?inv, Z⟩) (hm := ?hm)
  case hm => exact hless3
  case inv => intro y hy hs; rcases seenH_push hms (hSs.nd hms) he3 hk3 hy3 hy hs with rfl | h; (· exact hc7'); exact hsn y hy h
theorem i_put_c (w0 : World) (G0 : PH) (hG : PSub G0 w0) (mbs : Nat) (ess : Array MapEntry) (cks : Nat) (xss : List (Int × Value)) (Ls : List BHeld) (hms : MapIs (Value.int .i64) ess cks xss) (hSs : StR G0 xss Ls) (hVs : Sp.VH Ls) (vbytes : Value) (bytes : List (Int)) (hbytes : RdI G0 vbytes bytes) (hLent : Lent w0 G0 [blk mbs (.map ess cks)]) (hB : Sp.BlockValid bytes = true) :
  Calls Tryz.prog 168 #[.map (some mbs), vbytes] w0 (RetM w0 G0 [mbs] (fun G' v Bs => ∃ (es' : Array MapEntry) (ck' : Nat) (xs' : List (Int × Value)) (L' : List BHeld) (i : Int), v = .tuple #[.int .i64 i, .bool (Sp.StorePut Ls bytes).isSome] ∧ Bs = [blk mbs (.map es' ck')] ∧ MapIs (Value.int .i64) es' ck' xs' ∧ StR G' xs' L' ∧ Sp.VH L' ∧ L' = ((Sp.StorePut Ls bytes).map (·.1)).getD Ls ∧ inI i ∧ ∀ r, Sp.StorePut Ls bytes = some r → r.2 = i)) := by
 obtain ⟨abytes, kbytes, rfl⟩ := hbytes.shape
 have hlimbytes : bytes.length ≤ 1099511627776 := hbytes.lim
 have hfin := Sp.findId_in hVs bytes
 have H : Hp w0 G0 [mbs] w0 G0 [blk mbs (.map ess cks)] := hLent.hp
 refine calls_of_W (l := [.map (some mbs), .slice abytes bytes.length kbytes]) func168 Z ntmps168 Z (q2 (aG Z (aG Z (q3 (W_seq (q2 (mV Z (mV Z (o_call call197 Z Z (i_find_c _ _ (H.lendSubL [0]) _ _ _ _ _ (H.lendPredL (k := 0) (ks := [0]) Z Z) hms (hSs.up (PPlus.le _ _ _)) hVs _ _ (hbytes.up (PPlus.le _ _ _)) ) ?_)))))))))
 rintro _ w1 ⟨rfl, ew1⟩; have H := H.step ew1; refine ⟨_, rfl, ?_⟩
 refine aG Z (q1 (mV Z (o_neq Z Z Z (q3 ?_))))
 refine W_cond Z ?_ ?_
 ·intro hc2
  try simp only [nrm] at hc2
  obtain ⟨pi, px, hp1, hp2, hp3⟩ := Sp.findId_ne hVs hc2
  have hpo := Sp.put_old hVs hB hp1 hp2
  rw [← hp3] at hpo
  refine q2 (mV Z (mV Z (mV Z (o_call call198 Z Z (i_keep_c _ _ H.sub _ _ _ _ _ hms hSs hVs _ H.lent1 ) ?_))))
  rintro _ w3 ⟨G3, _, _, rfl, H3', ⟨es3, ck3, xs3, L3, rfl, rfl, hm3, hS3, hV3, hL3⟩⟩
  have H := H.borrow1 H3'
  refine ⟨_, Z, ?_⟩
  refine aG Z (aG Z (q3 (W_ret (N_K_ret (rt2 results168 Z Z ?_)))))
  exact H.retM ⟨_, _, _, _, Sp.findId Ls bytes, congrArg (fun b => Value.tuple #[Value.int .i64 (Sp.findId Ls bytes), Value.bool b]) (by rw [hpo, Option.isSome_map]), rfl, hm3, hS3, hV3, (by rw [hL3, hpo]; cases Sp.StoreKeep Ls (Sp.findId Ls bytes) <;> rfl), oO, fun r hr => by rw [hpo] at hr; cases hk : Sp.StoreKeep Ls (Sp.findId Ls bytes) with | none => rw [hk] at hr; cases hr | some l => (rw [hk] at hr; cases hr; rfl)⟩
 intro hc2'
 try simp only [nrm] at hc2'
 have hnl := Sp.findId_eq hVs hc2'
 refine W_skip (N_K (W_seq (q2 (mV Z ?_))))
 have hml4 := hSs.len
 refine o_lenM (H.at (k := 0) Z) hms underlying92 Z Z (o_geq Z Z Z (q3 ?_))
 refine W_cond Z ?_ ?_
 ·intro hc5
  try simp only [nrm] at hc5
  refine q2 (aG Z (aG Z (q3 (W_ret (N_K_ret (rt2 results168 Z Z ?_))))))
  exact H.retM ⟨_, _, _, _, 0, congrArg (fun b => Value.tuple #[Value.int .i64 (0), Value.bool b]) (by rw [Sp.put_full hnl oM]; rfl), rfl, hms, hSs, hVs, (by rw [Sp.put_full hnl oM]; rfl), by decide, fun r hr => by rw [Sp.put_full hnl oM] at hr; cases hr⟩
 intro hc5'
 try simp only [nrm] at hc5'
 refine W_skip (N_K (q2 (aG Z (q3 (W_seq (W_block ?_))))))
 refine W_lp (hf := (Sub.cons (t := 0) Z (Sub.cons (t := 1) Z (Sub.cons (t := 4) Z (Sub.cons (t := 5) Z Sub.nil))))) (J := fun M w m => ∃ (k : Nat) (G : PH), M = [(7, .int .i64 ((k : Int) + 1))] ∧ PLe G0 G ∧ Hp w0 G0 [mbs] w G [blk mbs (.map ess cks)] ∧ (∀ j : Nat, j < k → (Sp.atH Ls ((j : Int) + 1)).isSome = true) ∧ m = (Ls.length + 1 - k)) (h0 := ⟨0, _, Z, PLe.refl _, H, ?inv, Z⟩) (round := ?round)
 case inv => exact fun j hj => by omega
 case round =>
  rintro _ w6 _ ⟨k, G6, rfl, hle6, H, hinv6, rfl⟩
  have hSs := hSs.up hle6
  have hbytes := hbytes.up hle6
  have hall := hinv6; have hkl := Sp.free_le hall; have hv16 := hVs.len
  refine W_seq (q2 (mV Z (mV Z (o_lookS (H.at (k := 0) Z) hms hSs underlying92 underlying3 zeroValue131 Z Z Z ?_)))); intro q7 hE7
  obtain ⟨a7, m7, c7, rfl, hi7, hr7, hj7⟩ := hE7; have hn_hr7 := hr7.len; have hx_hr7 : _ ≤ 1099511627776 := hr7.lim
  refine o_field 2 runUnderlying131 Z Z Z isAgg3 Z Z Z (o_neq Z Z Z (q3 ?_))
  refine W_cond Z ?_ ?_
  ·intro hc8
   try simp only [nrm] at hc8
   refine W_skip (N_K (W_block (W_region (mV Z (o_add Z Z Z oO (aG Z (R_nil (N_B ?_))))))))
   refine N_lp (hJ := ⟨k + 1, _, Z, hle6, H, ?inv, Z⟩) (hm := ?hm)
   case hm => omega
   case inv => exact Sp.upto_succ (p := fun j : Nat => (Sp.atH Ls ((j : Int) + 1)).isSome) hall (Sp.uses_some hc8)
  intro hc8'
  try simp only [nrm] at hc8'
  refine W_exit (N_K_exit (N_LP_exit (N_B_same (N_K (q2 (mV Z (mV Z (mV Z (mV Z (o_call call173 Z Z (l_Clone_c _ _ H.sub _ _ hbytes ) ?_))))))))))
  rintro _ w10 ⟨G10, v10, _, g10, rfl, ⟨cs10, rfl, hchk10⟩, hp10, hq10, hs10⟩
  have H := H.growO g10 hp10 hq10 hs10; obtain ⟨av10, cv10, rfl⟩ := H.accShape (k := 0) rfl
  have hSs := hSs.up g10.le
  refine ⟨_, Z, ?_⟩
  refine o_build bf131 Z Z Z ?_
  obtain ⟨G12, H, hsg12, hsr12⟩ := H.shutL (k := 0) rfl (H.apart (k := 0) (ks := [1]) rfl rfl (by intro b hb; simpa [fpsAt, nth, blk] using hb)) hchk10 aN aN
  have hSs := hSs.up hsg12
  refine o_updS 0 H ⟨(k : Int) + 1, bytes, 1⟩ Z hms hSs underlying92 underlying3 Z Z Z (show heldE G12 ⟨(k : Int) + 1, bytes, 1⟩ _ from ⟨_, _, _, Z, ⟨by first | omega | (dsimp only; omega), by first | omega | (dsimp only; omega)⟩, hsr12, ⟨by first | omega | (dsimp only; omega), by first | omega | (dsimp only; omega)⟩⟩) rfl ?_; intro es11 ck11 xs11 w11 H hm11 hS11
  refine q1 (mV Z (aG Z (aG Z (q3 (W_ret (rt2 results168 Z Z ?_))))))
  have hfe := Sp.free_eq hall (Sp.uses_none hVs (by simpa using hc8'))
  have hpn := Sp.put_new hVs hB hnl oM
  exact H.retM ⟨_, _, _, _, (k : Int) + 1, congrArg (fun b => Value.tuple #[Value.int .i64 ((k : Int) + 1), Value.bool b]) (by rw [hpn]; rfl), rfl, hm11, (hS11.perm (Sp.put_perm bytes hfe)), Sp.with_valid hVs hB hnl oM, (by rw [hpn]; rfl), oO, fun r hr => by rw [hpn] at hr; cases hr; simp only []; omega⟩
end Go.Proofs.Tst

namespace Go.Proofs.Tst
open Go Fw Tryz
theorem i_fileIds_c (w0 : World) (G0 : PH) (hG : PSub G0 w0) (mbs : Nat) (ess : Array MapEntry) (cks : Nat) (xss : List (Int × Value)) (Ls : List BHeld) (hbs : MapAt G0 mbs ess cks) (hms : MapIs (Value.int .i64) ess cks xss) (hSs : StR G0 xss Ls) (hVs : Sp.VH Ls) (vids : Value) (ids : List (Int)) (hids : RdI G0 vids ids)  :
  Calls Tryz.prog 165 #[.map (some mbs), vids] w0 (Rets w0 (.bool (Sp.l4Ids Ls ids))) := by
 obtain ⟨aids, kids, rfl⟩ := hids.shape
 have hlimids : ids.length ≤ 1099511627776 := hids.lim
 have H := Hp.init hG
 refine calls_of_W (l := [.map (some mbs), .slice aids ids.length kids]) func165 Z ntmps165 Z (q2 (aG Z (q3 (W_seq (q2 (mV Z (o_len_slice underlying41 Z Z (o_gtr Z Z Z (q3 ?_)))))))))
 refine W_cond Z ?_ ?_
 ·intro hc1
  try simp only [nrm] at hc1
  refine q2 (aG Z (q3 (W_ret (N_K_ret (rt1 results165 Z ?_)))))
  exact H.rets (congrArg Value.bool (by rw [Sp.ids_long oM]))
 intro hc1'
 try simp only [nrm] at hc1'
 refine W_skip (N_K (W_seq (q2 (mV Z (o_len_slice underlying41 Z Z (mV Z (q3 (W_block ?_))))))))
 refine W_lp (hf := (Sub.cons (t := 0) Z (Sub.cons (t := 1) Z (Sub.cons (t := 12) Z (Sub.cons (t := 13) Z Sub.nil))))) (J := fun M w m => ∃ (k : Nat) (G : PH), M = [(14, .int .i64 (k : Int))] ∧ PLe G0 G ∧ Hp w0 G0 [] w G [] ∧ (k ≤ ids.length ∧ ∀ j, j < k → Sp.idsOk Ls ids j = true) ∧ m = (ids.length - k)) (h0 := ⟨0, _, Z, PLe.refl _, H, ?inv, Z⟩) (round := ?round)
 case inv => exact ⟨by omega, fun j hj => by omega⟩
 case round =>
  rintro _ w2 _ ⟨k, G2, rfl, hle2, H, hinv2, rfl⟩
  have hSs := hSs.up hle2
  have hbs := hbs.up hle2
  have hids := hids.up hle2
  obtain ⟨hk, hall⟩ := hinv2
  refine q2 (o_lss Z Z Z (q3 (W_seq ?_)))
  refine W_cond Z ?_ ?_
  ·intro hc3
   try simp only [nrm] at hc3
   refine W_skip (N_K (W_seq (W_block (q2 (mV Z (o_index_P k hids underlying41 sizeOf3 Z Z Z Z aN ?_)))))); intro b4 o4 z4 q4 hz4 hE4 hrow4
   obtain ⟨rfl, hi4⟩ := hE4
   refine o_load_P H isAgg3 Z Z (hrow4 0 _ Z) (aG Z (aG Z (q1 (mV Z (mV Z (o_lookS2 (hbs.at H.sub) hms hSs underlying92 underlying3 zeroValue131 Z Z Z ?_)))))); intro q5 hE5
   obtain ⟨a5, m5, c5, rfl, hi5, hr5, hj5⟩ := hE5; have hn_hr5 := hr5.len; have hx_hr5 : _ ≤ 1099511627776 := hr5.lim
   refine mV Z (o_extract Z Z Z (o_extract Z Z Z (o_alloc H zeroValue131 Z Z ?_))); intro b6 w6 hb6 H
   refine o_store_B 0 H sizeOf131 Z Z Z Z Z Z Z Z ?_; intro w7 H
   refine aG Z (q1 (mV Z (o_not Z Z (mV Z ?_))))
   refine R_case (t := 27) Z ?_ ?_
   ·intro hc8
    try simp only [nrm] at hc8
    refine rP Z (rP Z (rP Z (rP Z (rP Z (rP Z (R_pass Z (yl_un Z Z) (R_pass Z (yl_un Z Z) (R_pass Z (yl_un Z Z) (R_pass Z (yl_un Z Z) (rP Z (o_pick_t Z Z Z (q3 (W_true Z (q2 (aG Z ?_)))))))))))))))
    refine q3 (W_ret (N_B_ret (N_K_ret (N_LP_ret (N_B_ret (N_K_ret (rt1 results165 Z ?_)))))))
    exact H.rets (congrArg Value.bool (by rw [Sp.ids_false (k := k) oM (by exact Sp.idsOk_no hz4 (by simpa using hc8))]))
   intro hc8'
   try simp only [nrm] at hc8'
   have hfd : (Sp.atH Ls z4).isSome = true := by simpa using hc8'
   have hbl := Sp.bv_len (Sp.get_ok hVs hfd).2.1
   have hio := Sp.idsOk_get hz4 hfd
   refine gR Z (mV Z (gR Z (mV Z (gR Z (o_len_slice underlying41 Z Z (gR Z (o_sub Z Z Z oO (gR Z (o_lss Z Z Z (gR Z (mV Z ?_)))))))))))
   refine R_case (t := 33) Z ?_ ?_
   ·intro hc10
    try simp only [nrm] at hc10
    refine gR Z (o_fieldAddr 1 runUnderlying131 Z sizeOf41 Z Z Z (gR Z (o_load_B 0 H isAgg41 Z Z Z Z (gR Z (o_len_slice underlying41 Z Z (gR Z (o_neq Z Z Z (gR Z (o_pick_t Z Z Z (o_pick_f Z Z Z (q3 ?_)))))))))))
    refine W_cond Z ?_ ?_
    ·intro hc11
     try simp only [nrm] at hc11
     refine q2 (aG Z (q3 (W_ret (N_B_ret (N_K_ret (N_LP_ret (N_B_ret (N_K_ret (rt1 results165 Z ?_)))))))))
     exact H.rets (congrArg Value.bool (by rw [Sp.ids_false (k := k) oM (by rw [hio]; simp; omega)]))
    intro hc11'
    try simp only [nrm] at hc11'
    refine W_skip (N_B (N_K (W_region (o_add Z Z Z oO (mV Z (R_nil ?_))))))
    have H := H.del (k := 0) rfl
    refine N_lp (hJ := ⟨k + 1, _, Z, hle2, H, ?inv, Z⟩) (hm := ?hm)
    case hm => omega
    case inv => exact ⟨by omega, Sp.upto_succ hall (by rw [hio]; simp; omega)⟩
   intro hc10'
   try simp only [nrm] at hc10'
   refine rP Z (rP Z (rP Z (rP Z (gR Z (o_pick_f Z Z Z (o_pick_f Z Z Z (q3 (W_false Z (W_skip (N_B (N_K (W_region (o_add Z Z Z oO (mV Z (R_nil ?_)))))))))))))))
   have H := H.del (k := 0) rfl
   refine N_lp (hJ := ⟨k + 1, _, Z, hle2, H, ?inv, Z⟩) (hm := ?hm)
   case hm => omega
   case inv => exact ⟨by omega, Sp.upto_succ hall (by rw [hio]; simp; omega)⟩
  intro hc3'
  try simp only [nrm] at hc3'
  refine W_exit (N_K_exit (N_LP_exit (N_B_same (N_K (q2 (aG Z (q3 (W_ret (rt1 results165 Z ?_)))))))))
  exact H.rets (congrArg Value.bool (by rw [Sp.ids_true (fun j hj => hall j oM) oM]))
theorem i_freeFile_c (w0 : World) (G0 : PH) (hG : PSub G0 w0) (mbs : Nat) (ess : Array MapEntry) (cks : Nat) (xss : List (Int × Value)) (Ls : List BHeld) (hms : MapIs (Value.int .i64) ess cks xss) (hSs : StR G0 xss Ls) (hVs : Sp.VH Ls) (vids : Value) (ids : List (Int)) (hids : RdI G0 vids ids) (hLent : Lent w0 G0 [blk mbs (.map ess cks)])  :
  Calls Tryz.prog 136 #[.map (some mbs), vids] w0 (RetM w0 G0 [mbs] (fun G' v Bs => ∃ (es' : Array MapEntry) (ck' : Nat) (xs' : List (Int × Value)) (L' : List BHeld), v = .bool (Sp.FileFree Ls ids).isSome ∧ Bs = [blk mbs (.map es' ck')] ∧ MapIs (Value.int .i64) es' ck' xs' ∧ StR G' xs' L' ∧ Sp.VH L' ∧ ∀ l, Sp.FileFree Ls ids = some l → L' = l)) := by
 obtain ⟨aids, kids, rfl⟩ := hids.shape
 have hlimids : ids.length ≤ 1099511627776 := hids.lim
 have H : Hp w0 G0 [mbs] w0 G0 [blk mbs (.map ess cks)] := hLent.hp
 refine calls_of_W (l := [.map (some mbs), .slice aids ids.length kids]) func136 Z ntmps136 Z (q2 (aG Z (q3 (W_seq (q2 (mV Z (mV Z (o_call call165 Z Z (i_fileIds_c _ _ (H.lendSubL [0]) _ _ _ _ _ (H.lendPredL (k := 0) (ks := [0]) Z Z) hms (hSs.up (PPlus.le _ _ _)) hVs _ _ (hids.up (PPlus.le _ _ _)) ) ?_))))))))
 rintro _ w1 ⟨rfl, ew1⟩; have H := H.step ew1; refine ⟨_, rfl, ?_⟩
 refine o_not Z Z (q3 ?_)
 refine W_cond Z ?_ ?_
 ·intro hc2
  try simp only [nrm] at hc2
  refine q2 (aG Z (q3 (W_ret (N_K_ret (rt1 results136 Z ?_)))))
  have hno : Sp.FileFree Ls ids = none := by simp [Sp.FileFree, hc2]
  exact H.retM ⟨_, _, _, _, congrArg Value.bool (by rw [hno]; rfl), rfl, hms, hSs, hVs, fun l hl => by rw [hno] at hl; cases hl⟩
 intro hc2'
 try simp only [nrm] at hc2'
 refine W_skip (N_K (W_seq (q2 (mV Z (o_len_slice underlying41 Z Z (mV Z (q3 (W_block ?_))))))))
 refine W_lp (hf := (Sub.cons (t := 0) Z (Sub.cons (t := 11) Z (Sub.cons (t := 12) Z Sub.nil)))) (J := fun M w m => ∃ (esm0 : Array MapEntry) (ckm0 : Nat) (xsm0 : List (Int × Value)) (Lm0 : List BHeld) (k : Nat) (G : PH), M = [(13, .int .i64 (k : Int))] ∧ PLe G0 G ∧ Hp w0 G0 [mbs] w G [blk mbs (.map esm0 ckm0)] ∧ (MapIs (Value.int .i64) esm0 ckm0 xsm0 ∧ StR G xsm0 Lm0 ∧ Sp.VH Lm0 ∧ k ≤ ids.length ∧ Sp.foldB Sp.StoreDrop (ids.take k) (some Ls) = some Lm0) ∧ m = (ids.length - k)) (h0 := ⟨_, _, xss, Ls, 0, _, Z, PLe.refl _, H, ?inv, Z⟩) (round := ?round)
 case inv => exact ⟨hms, hSs, hVs, (by simp [Sp.foldB])⟩
 case round =>
  rintro _ w3 _ ⟨esm0, ckm0, xsm0, Lm0, k, G3, rfl, hle3, H, hinv3, rfl⟩
  have hids := hids.up hle3
  obtain ⟨hm3_m0, hS3_m0, hV3_m0, hinv3⟩ := hinv3
  obtain ⟨hk, hf⟩ := hinv3
  refine q2 (o_lss Z Z Z (q3 (W_seq ?_)))
  refine W_cond Z ?_ ?_
  ·intro hc4
   try simp only [nrm] at hc4
   refine W_skip (N_K (W_seq (W_block (q2 (o_index_P k hids underlying41 sizeOf3 Z Z Z Z aN ?_))))); intro b5 o5 z5 q5 hz5 hE5 hrow5
   obtain ⟨rfl, hi5⟩ := hE5
   refine o_load_P H isAgg3 Z Z (hrow5 0 _ Z) (aG Z (q1 (mV Z (mV Z (o_call call174 Z Z (i_drop_c _ _ H.sub _ _ _ _ _ hm3_m0 hS3_m0 hV3_m0 _ H.lent1 ) ?_)))))
   rintro _ w6 ⟨G6, _, _, rfl, H6', ⟨es6, ck6, xs6, L6, rfl, rfl, hm6, hS6, hV6, hL6⟩⟩
   have hle3 := hle3.trans H6'.le
   have H := H.borrow1 H6'
   refine ⟨_, Z, ?_⟩
   refine o_not Z Z (q3 ?_)
   refine W_cond Z ?_ ?_
   ·intro hc7
    try simp only [nrm] at hc7
    refine q2 (aG Z (q3 (W_ret (N_B_ret (N_K_ret (N_LP_ret (N_B_ret (N_K_ret (rt1 results136 Z ?_)))))))))
    have hno : Sp.FileFree Ls ids = none := by (have hno : Sp.StoreDrop Lm0 z5 = none := by simpa using hc7); simp only [Sp.FileFree, Sp.valid_iff.2 hVs, hc2', Bool.and_self, if_true]; exact Sp.foldB_stop hf hz5 hno
    exact H.retM ⟨_, _, _, _, congrArg Value.bool (by rw [hno]; rfl), rfl, hm6, hS6, hV6, fun l hl => by rw [hno] at hl; cases hl⟩
   intro hc7'
   try simp only [nrm] at hc7'
   obtain ⟨p, hsp⟩ := Option.isSome_iff_exists.1 hc7'
   have hLp : L6 = p := by rw [hL6, hsp]; rfl
   subst hLp
   refine W_skip (N_B (N_K (W_region (o_add Z Z Z oO (mV Z (R_nil ?_))))))
   refine N_lp (hJ := ⟨_, _, xs6, L6, k + 1, _, Z, hle3, H, ?inv, Z⟩) (hm := ?hm)
   case hm => omega
   case inv => exact ⟨hm6, hS6, hV6, (by exact ⟨by omega, Sp.foldB_succ hf hz5 hsp⟩)⟩
  intro hc4'
  try simp only [nrm] at hc4'
  refine W_exit (N_K_exit (N_LP_exit (N_B_same (N_K (q2 (aG Z (q3 (W_ret (rt1 results136 Z ?_)))))))))
  have hyes : Sp.FileFree Ls ids = some Lm0 := by simp only [Sp.FileFree, Sp.valid_iff.2 hVs, hc2', Bool.and_self, if_true]; exact Sp.foldB_all hf oM
  exact H.retM ⟨_, _, _, _, congrArg Value.bool (by rw [hyes]; rfl), rfl, hm3_m0, hS3_m0, hV3_m0, fun l hl => by rw [hyes] at hl; cases hl; rfl⟩
end Go.Proofs.Tst

namespace Go.Proofs.Tst
open Go Fw Tryz
theorem i_listIn_r : ∀ (N : Nat) (w0 : World) (G0 : PH) (hG : PSub G0 w0) (t : Nd) (hndt : RdN G0 t) (s : Bs) (hs : s.length ≤ 16777216) (hwt : t.wf) (hsl : s.length + 6 * t.cnt ≤ 100000) (hsz : t.size ≤ N),
  Calls Tryz.prog 177 #[.pointer (some ⟨t.b, 0, none⟩), str s] w0 (RetN w0 G0 (fun v Bs => ∃ (F : Fr), Bs = [frag F] ∧ OIs F v (t.flat s))) := by
 intro N
 induction N with
 | zero => intro w0 G0 hG t hndt s hs hwt hsl hsz; exact absurd (Nd.size_pos t) oM
 | succ N ih =>
 intro w0 G0 hG t hndt s hs hwt hsl hsz
 obtain ⟨hnlt, nat, nmt, nct, nAt, nMt, nCt, hprt, hrit, hrkt⟩ := hndt.open
 have hn_hrit := hrit.len; have hx_hrit : _ ≤ 1099511627776 := hrit.lim
 have hn_hrkt := hrkt.len; have hx_hrkt : _ ≤ 1099511627776 := hrkt.lim
 have H := Hp.init hG
 refine calls_of_W (l := [.pointer (some ⟨t.b, 0, none⟩), str s]) func177 Z ntmps177 Z (q2 (aG Z (q1 (aG Z (q3 (W_seq (q2 (mV Z (o_nilCheck Z Z (o_fieldAddr 3 runUnderlying166 Z sizeOf162 Z Z Z (o_load_P H isAgg162 Z Z (hprt 3 _ Z) (o_len_slice underlying162 Z Z (mV Z (q3 (W_block ?_)))))))))))))))
 have H := H.addNil 66 3
 have H := H.addF
 refine W_lp (hf := (Sub.cons (t := 1) Z (Sub.cons (t := 4) Z (Sub.cons (t := 12) Z (Sub.cons (t := 13) Z Sub.nil))))) (J := fun M w m => ∃ (v : Value) (n : Nat) (cs : List Value) (xs : List (BItem)) (F : Fr) (k : Nat) (G : PH), M = [(14, .int .i64 (k : Int)), (5, v)] ∧ PLe G0 G ∧ Hp w0 G0 [] w G [frag F, acc 66 3 v n cs] ∧ (ChkF itemO 3 cs xs F ∧ n = xs.length ∧ k ≤ t.kids.length ∧ xs = Nd.flats s (t.kids.take k)) ∧ m = (t.kids.length - k)) (h0 := ⟨_, _, _, [], [], 0, _, Z, PLe.refl _, H, ?inv, Z⟩) (round := ?round)
 case inv => exact ⟨ChkF.nil,  by first | rfl | simp | (simp; omega) | omega, (by simp [Nd.flats])⟩
 case round =>
  rintro _ w2 _ ⟨v, n, cs, xs, F, k, G2, rfl, hle2, H, hinv2, rfl⟩
  have hrkt := hrkt.up hle2
  obtain ⟨hchk2_0, hn2_0, hinv2⟩ := hinv2
  obtain ⟨av2_0, cv2_0, rfl⟩ := H.accShape (k := 1) rfl
  obtain ⟨hk, hxs⟩ := hinv2; have hxl : xs.length ≤ 100000 := by (have := Nd.flats_len s (t.kids.take k); have := Nd.cnts_take t.kids k; have := Nd.cnt_eq t; rw [hxs]; omega)
  refine q2 (o_lss Z Z Z (q3 (W_seq ?_)))
  refine W_cond Z ?_ ?_
  ·intro hc3
   try simp only [nrm] at hc3
   refine W_skip (N_K (W_seq (W_block (q2 (o_index_P k hrkt underlying162 sizeOf93 Z Z Z Z aN ?_))))); intro b4 o4 z4 q4 hz4 hE4 hrow4
   obtain ⟨rfl, hnd4⟩ := hE4; obtain ⟨hnl4, na4, nm4, nc4, nA4, nM4, nC4, hpr4, hri4, hrk4⟩ := hnd4.open; have hn_hri4 := hri4.len; have hx_hri4 : _ ≤ 1099511627776 := hri4.lim; have hn_hrk4 := hrk4.len; have hx_hrk4 : _ ≤ 1099511627776 := hrk4.lim
   have hzm := List.mem_of_getElem? hz4; have hzc := Nd.kid_cnt hzm; have hzs := Nd.size_kid hzm; have hzw := ((Nd.wf_iff _).1 hwt).2 _ hzm; have hzn := Nd.word_le hzw.1; have hzf := Nd.flat_len (s ++ z4.name ++ [47]) z4
   refine o_load_P H isAgg93 Z Z (hrow4 0 _ Z) (aG Z (q1 (mV Z (mV Z (o_nilCheck Z Z (o_fieldAddr 0 runUnderlying166 Z sizeOf9 Z Z Z (o_load_P H isAgg9 Z Z (hpr4 0 _ Z) ?_)))))))
   refine o_sadd Z Z Z (by simp only [LIM, List.length_append, List.length_cons, List.length_nil] at *; omega) ?_
   refine aG Z (q3 (W_seq (W_drawK [] 15 H kR Z ?_))); intro w5 H; have hd5 := PLe.refl G2
   refine vM 0 Z Z (vM 1 Z Z (vM 2 Z Z (RD_t 3 Z kR Z (fun _ hK => v_nilCheck Z) (RD_t 4 Z kR Z (fun _ hK => v_fieldAddr 1 runUnderlying166 Z sizeOf4 Z Z) (RD_t 5 Z kR Z (fun _ hK => v_load_P hK isAgg4 Z (hpr4 1 _ Z)) (vM 6 Z Z (RD_t 7 Z kR Z (fun _ hK => v_nilCheck Z) (RD_t 8 Z kR Z (fun _ hK => v_fieldAddr 2 runUnderlying166 Z sizeOf41 Z Z) (RD_t 9 Z kR Z (fun _ hK => v_load_P hK isAgg41 Z (hpr4 2 _ Z)) ?_)))))))))
   refine RD_run [10] kR Z (RDs.cons Z ?_ RDs.nil)
   refine o_call call173 Z Z (l_Clone_c _ _ H.sub _ _ hri4 ) ?_
   rintro _ w6 ⟨G6, v6, _, g6, rfl, ⟨cs6, rfl, hchk6⟩, hp6, hq6, hs6⟩
   have H := H.growO g6 hp6 hq6 hs6; obtain ⟨av6, cv6, rfl⟩ := H.accShape (k := 0) rfl
   have hnd4 := hnd4.up g6.le
   have hle2 := hle2.trans g6.le
   have hd5 := hd5.trans g6.le
   refine ⟨_, Z, ?_⟩
   refine R_nil (N_DK (Kn.of' H hd5 SubL.nil) (RD_t 11 Z kR Z (fun _ hK => v_build bf66 Z Z) ?_))
   refine RD_run [12] kR Z (RDs.cons Z ?_ RDs.nil)
   refine o_buildSlice H underlying29 sizeOf66 (fun w => ⟨_, zeroValue66 w, Z⟩) Z Z Z Z Z Z Z ?_; intro b7 w7 hb7 H
   refine R_nil (N_DK (Kn.of' H hd5 SubL.nil) ?_)
   refine RD_run [13] kR Z (RDs.cons Z ?_ RDs.nil)
   refine o_append1 2 H (sz := 3) (bytes := 48) underlying29 typeInfo66 ⟨_, Z, Z⟩ Z Z Z Z Z Z Z Z Z Z oM Z ?_; intro v8 w8 H
   obtain ⟨Fi2, H, hOI2⟩ := H.ownI (k := 0) rfl hchk6 aN aN
   have hchk8 := hchk2_0.snoc (show itemO Fi2 ⟨s ++ z4.name, z4.dir, z4.ids⟩ _ from ⟨_, _, _, rfl, (by (first | assumption | (refine Sp.l5Parent_lim ?_; assumption) | (simp; done) | (simp; omega) | omega)), hOI2⟩) rfl
   have H := H.toFront (k := 1) rfl
   have H := H.mergeF
   obtain ⟨av8, cv8, rfl⟩ := H.accShape (k := 1) rfl
   refine R_nil (N_DK (Kn.of' H hd5 SubL.nil) (RD_t 14 Z kR Z (fun _ hK => v_assign Z) (RD_done kR (N_K (W_region (mV Z (mV Z (mV Z ?_))))))))
   refine o_sadd Z Z Z (by simp only [LIM, List.length_append, List.length_cons, List.length_nil] at *; omega) ?_
   refine o_call call177 Z Z (ih _ _ H.sub _ hnd4 _ (by (first | assumption | (refine Sp.l5Parent_lim ?_; assumption) | (simp; done) | (simp; omega) | omega)) hzw.2 (by simp; omega) oM) ?_
   rintro _ w9 ⟨_, _, rfl, H9', ⟨F9, rfl, hO9⟩⟩
   have H := H.readers (fp := []) (by simp) (PLe.refl _) H9'
   obtain ⟨e29, hP9⟩ := hO9
   obtain ⟨sa9, sc9, rfl⟩ := OwnS.shape hP9
   have hO9 := OIs.mk hP9
   refine ⟨_, Z, ?_⟩
   refine o_append_F 1 H hP9 (by intro F x cs hx u hu; obtain ⟨_, _, _, rfl, _⟩ := hx; simp at hu; rcases hu with rfl | rfl | rfl <;> rfl) (sz := 3) (bytes := 48) underlying29 typeInfo66 ⟨_, rfl, rfl⟩ rfl rfl rfl rfl rfl rfl rfl oM rfl ?_; intro v10 w10 cs10 F10_ H hck10 hmm10
   have hchk10 := hchk8.app hck10
   have H := H.toFront (k := 1) rfl
   have H := H.mergeF
   obtain ⟨av10, cv10, rfl⟩ := H.accShape (k := 1) rfl
   refine aG Z (R_nil (N_B (N_K (W_region (o_add Z Z Z oO (mV Z (R_nil ?_)))))))
   refine N_lp (hJ := ⟨_, _, _, ((xs ++ [⟨s ++ z4.name, z4.dir, z4.ids⟩]) ++ (z4.flat (s ++ z4.name ++ [47]))), ((F ++ Fi2) ++ F10_), k + 1, _, Z, hle2, H, ?inv, Z⟩) (hm := ?hm)
   case hm => omega
   case inv => exact ⟨hchk10, aN, (by exact ⟨by omega, by (rw [Nd.flats_succ hz4, hxs]; simp)⟩)⟩
  intro hc3'
  try simp only [nrm] at hc3'
  refine W_exit (N_K_exit (N_LP_exit (N_B_same (N_K (q2 (mV Z (aG Z (q3 (W_ret (rt1 results177 Z ?_))))))))))
  have H := H.toFront (k := 1) rfl
  obtain ⟨Fo3, H, hOw3⟩ := H.ownF hchk2_0 aN aN
  have hX : xs = t.flat s := by rw [hxs, List.take_of_length_le oM, Nd.flat_eq]
  have H := H.forget hG (by simp)
  exact ⟨_, _, Z, H, _, Z, hX ▸ ⟨_, hOw3⟩⟩
theorem i_listIn_c (w0 : World) (G0 : PH) (hG : PSub G0 w0) (t : Nd) (hndt : RdN G0 t) (s : Bs) (hs : s.length ≤ 16777216) (hwt : t.wf) (hsl : s.length + 6 * t.cnt ≤ 100000) :
  Calls Tryz.prog 177 #[.pointer (some ⟨t.b, 0, none⟩), str s] w0 (RetN w0 G0 (fun v Bs => ∃ (F : Fr), Bs = [frag F] ∧ OIs F v (t.flat s))) := i_listIn_r _ w0 G0 hG t hndt s hs hwt hsl (Nat.le_refl _)
theorem i_tlist_c (w0 : World) (G0 : PH) (hG : PSub G0 w0) (t : Nd) (hndt : RdN G0 t) (hwt : t.wf) (hct : t.cnt ≤ 1000) :
  Calls Tryz.prog 138 #[.pointer (some ⟨t.b, 0, none⟩)] w0 (RetN w0 G0 (fun v Bs => ∃ (F : Fr), Bs = [frag F] ∧ OIs F v (t.flat []))) := by
 obtain ⟨hnlt, nat, nmt, nct, nAt, nMt, nCt, hprt, hrit, hrkt⟩ := hndt.open
 have hn_hrit := hrit.len; have hx_hrit : _ ≤ 1099511627776 := hrit.lim
 have hn_hrkt := hrkt.len; have hx_hrkt : _ ≤ 1099511627776 := hrkt.lim
 have H := Hp.init hG
 refine calls_of_W (l := [.pointer (some ⟨t.b, 0, none⟩)]) func138 Z ntmps138 Z (q2 (aG Z (q1 (mV Z ?_))))
 refine o_call call177 Z Z (i_listIn_c _ _ H.sub _ hndt _ (by (first | assumption | (refine Sp.l5Parent_lim ?_; assumption) | (simp; done) | (simp; omega) | omega)) hwt (by simp; omega)) ?_
 rintro _ w1 ⟨_, _, rfl, H1', ⟨F1, rfl, hO1⟩⟩
 have H := H.readers (fp := []) (by simp) (PLe.refl _) H1'
 obtain ⟨e21, hP1⟩ := hO1
 obtain ⟨sa1, sc1, rfl⟩ := OwnS.shape hP1
 have hO1 := OIs.mk hP1
 refine ⟨_, Z, ?_⟩
 refine aG Z (q3 (W_ret (rt1 results138 Z ?_)))
 have H := H.forget hG (by simp)
 exact ⟨_, _, Z, H, _, Z, hO1⟩
end Go.Proofs.Tst

namespace Go.Proofs.Tst
open Go Fw Tryz
theorem i_usedBy_c (w0 : World) (G0 : PH) (hG : PSub G0 w0) (mbs : Nat) (ess : Array MapEntry) (cks : Nat) (xss : List (Int × Value)) (Ls : List BHeld) (hbs : MapAt G0 mbs ess cks) (hms : MapIs (Value.int .i64) ess cks xss) (hSs : StR G0 xss Ls) (hVs : Sp.VH Ls) (vtrees : Value) (trees : List (Nd)) (htrees : RdNd G0 vtrees trees) (htl : trees.length ≤ 7) (htw : ∀ t, t ∈ trees → t.wf ∧ t.cnt ≤ 12) :
  Calls Tryz.prog 130 #[.map (some mbs), vtrees] w0 (Rets w0 (.bool (trees.all (fun t => (t.flat []).all (fun x => Sp.l4Ids Ls x.ids)) && Ls.all (fun h => decide ((Sp.cntT trees h.id : Int) = h.uses))))) := by
 obtain ⟨atrees, ktrees, rfl⟩ := htrees.shape
 have hlimtrees : trees.length ≤ 1099511627776 := htrees.lim
 have H := Hp.init hG
 refine calls_of_W (l := [.map (some mbs), .slice atrees trees.length ktrees]) func130 Z ntmps130 Z (q2 (aG Z (q1 (o_makeMap H Z ?_)))); intro b1 w1 hb1 H
 have hm1 := MapIs.empty (key := Value.int .i64) 0
 have hS1 := UsR.nil
 refine aG Z (q3 (W_seq (q2 (mV Z (o_len_slice underlying162 Z Z (mV Z (q3 (W_block ?_))))))))
 refine W_lp (hf := (Sub.cons (t := 0) Z (Sub.cons (t := 5) Z (Sub.cons (t := 15) Z (Sub.cons (t := 16) Z Sub.nil))))) (J := fun M w m => ∃ (esm0 : Array MapEntry) (ckm0 : Nat) (xsm0 : List (Int × Value)) (fm0 : Int → Nat) (i : Nat) (G : PH), M = [(17, .int .i64 (i : Int))] ∧ PLe G0 G ∧ Hp w0 G0 [] w G [blk b1 (.map esm0 ckm0)] ∧ (MapIs (Value.int .i64) esm0 ckm0 xsm0 ∧ UsR xsm0 fm0 ∧ i ≤ trees.length ∧ (∀ a, fm0 a = Sp.cntT (trees.take i) a ∧ fm0 a ≤ 48 * i) ∧ (trees.take i).all (fun t => (t.flat []).all (fun x => Sp.l4Ids Ls x.ids)) = true) ∧ m = (trees.length - i)) (h0 := ⟨_, _, [], (fun _ => 0), 0, _, Z, PLe.refl _, H, ?inv, Z⟩) (round := ?round)
 case inv => exact ⟨hm1, hS1, (by simp [Sp.cntT])⟩
 case round =>
  rintro _ w2 _ ⟨esm0, ckm0, xsm0, fm0, i, G2, rfl, hle2, H, hinv2, rfl⟩
  have hSs := hSs.up hle2
  have hbs := hbs.up hle2
  have htrees := htrees.up hle2
  obtain ⟨hm2_m0, hS2_m0, hinv2⟩ := hinv2
  obtain ⟨hi, hf, hok⟩ := hinv2
  refine q2 (o_lss Z Z Z (q3 (W_seq ?_)))
  refine W_cond Z ?_ ?_
  ·intro hc3
   try simp only [nrm] at hc3
   refine W_skip (N_K (W_seq (W_block (q2 (o_index_P i htrees underlying162 sizeOf93 Z Z Z Z aN ?_))))); intro b4 o4 z4 q4 hz4 hE4 hrow4
   obtain ⟨rfl, hnd4⟩ := hE4; obtain ⟨hnl4, na4, nm4, nc4, nA4, nM4, nC4, hpr4, hri4, hrk4⟩ := hnd4.open; have hn_hri4 := hri4.len; have hx_hri4 : _ ≤ 1099511627776 := hri4.lim; have hn_hrk4 := hrk4.len; have hx_hrk4 : _ ≤ 1099511627776 := hrk4.lim
   try (have hzw := htw z4 (List.mem_of_getElem? hz4); have hzf := Nd.flat_len [] z4)
   refine o_load_P H isAgg93 Z Z (hrow4 0 _ Z) (aG Z (q1 (mV Z (o_call call138 Z Z (i_tlist_c _ _ H.sub _ hnd4 hzw.1 oM) ?_))))
   rintro _ w5 ⟨_, _, rfl, H5', ⟨F5, rfl, hO5⟩⟩
   have H := H.readers (fp := []) (by simp) (PLe.refl _) H5'
   obtain ⟨e25, hP5⟩ := hO5
   obtain ⟨sa5, sc5, rfl⟩ := OwnS.shape hP5
   have hO5 := OIs.mk hP5
   refine ⟨_, Z, ?_⟩
   have hdm1 := dm_nodup H (k := 0) rfl; obtain ⟨Gk1, H, hkl1, hks1⟩ := H.keepF (k := 0) rfl (fun b _ hb => by simp at hb)
   have hrk1 := hO5.rd hks1 hdm1
   have hSs := hSs.up hkl1
   have hbs := hbs.up hkl1
   have hle2 := hle2.trans hkl1
   have hn_hrk1 := hrk1.len
   refine o_len_slice underlying29 Z Z (mV Z (q3 (W_block ?_)))
   refine W_lp (hf := (Sub.cons (t := 0) Z (Sub.cons (t := 5) Z (Sub.cons (t := 15) Z (Sub.cons (t := 16) Z (Sub.cons (t := 17) Z (Sub.cons (t := 22) Z (Sub.cons (t := 23) Z Sub.nil)))))))) (J := fun M w m => ∃ (esm0 : Array MapEntry) (ckm0 : Nat) (xsm0 : List (Int × Value)) (fm0 : Int → Nat) (jj : Nat) (G : PH), M = [(24, .int .i64 (jj : Int))] ∧ PLe Gk1 G ∧ Hp w0 G0 [] w G [blk b1 (.map esm0 ckm0)] ∧ (MapIs (Value.int .i64) esm0 ckm0 xsm0 ∧ UsR xsm0 fm0 ∧ jj ≤ (z4.flat []).length ∧ (∀ a, fm0 a = Sp.cntT (trees.take i) a + Sp.cntU (z4.flat []) a jj ∧ fm0 a ≤ 48 * i + 4 * jj) ∧ ((z4.flat []).take jj).all (fun x => Sp.l4Ids Ls x.ids) = true) ∧ m = ((z4.flat []).length - jj)) (h0 := ⟨_, _, xsm0, fm0, 0, _, Z, PLe.refl _, H, ?inv, Z⟩) (round := ?round)
   case inv => exact ⟨hm2_m0, hS2_m0, (by exact ⟨by omega, fun a => (by have := hf a; simp [Sp.cntU]; omega), by simp⟩)⟩
   case round =>
    rintro _ w6 _ ⟨esm0, ckm0, xsm0, fm0, jj, G6, rfl, hle6, H, hinv6, rfl⟩
    have hSs := hSs.up hle6
    have hbs := hbs.up hle6
    have hrk1 := hrk1.up hle6
    have hle2 := hle2.trans hle6
    obtain ⟨hm6_m0, hS6_m0, hinv6⟩ := hinv6
    obtain ⟨hjl, hf2, hok2⟩ := hinv6
    refine q2 (o_lss Z Z Z (q3 (W_seq ?_)))
    refine W_cond Z ?_ ?_
    ·intro hc7
     try simp only [nrm] at hc7
     refine W_skip (N_K (W_seq (W_block (q2 (o_index_P jj hrk1 underlying29 sizeOf66 Z Z Z Z aN ?_))))); intro b8 o8 z8 q8 hz8 hE8 hrow8
     obtain ⟨a8, m8, c8, rfl, hi8, hr8⟩ := hE8; have hy_hi8 : _ ≤ 16777216 := hi8; have hn_hr8 := hr8.len; have hx_hr8 : _ ≤ 1099511627776 := hr8.lim
     try (have hzw := htw z8 (List.mem_of_getElem? hz8); have hzf := Nd.flat_len [] z8)
     refine o_loadagg_P H isAgg66 sizeOf66 Z Z hrow8 Z (o_alloc H zeroValue66 Z Z ?_); intro b9 w9 hb9 H
     refine o_store_B 0 H sizeOf66 Z Z Z Z Z Z Z Z ?_; intro w10 H
     refine q3 (W_seq (q2 (mV Z (o_fieldAddr 2 runUnderlying66 Z sizeOf41 Z Z Z (o_load_B 0 H isAgg41 Z Z Z Z (o_call call165 Z Z (i_fileIds_c _ _ H.sub _ _ _ _ _ hbs hms hSs hVs _ _ hr8 ) ?_))))))
     rintro _ w11 ⟨rfl, ew11⟩; have H := H.step ew11; refine ⟨_, rfl, ?_⟩
     refine o_not Z Z (q3 ?_)
     refine W_cond Z ?_ ?_
     ·intro hc12
      try simp only [nrm] at hc12
      refine q2 (aG Z (q3 (W_ret (N_K_ret (N_B_ret (N_K_ret (N_LP_ret (N_B_ret (N_B_ret (N_K_ret (N_LP_ret (N_B_ret (N_K_ret (rt1 results130 Z ?_))))))))))))))
      exact H.rets (congrArg Value.bool (by rw [Sp.all_false hz4 (Sp.all_false hz8 (by simpa using hc12)), Bool.false_and]))
     intro hc12'
     try simp only [nrm] at hc12'
     have hio : Sp.l4Ids Ls z8.ids = true := by simpa using hc12'
     have hil := Sp.ids_le hio
     refine W_skip (N_K (q2 (o_fieldAddr 2 runUnderlying66 Z sizeOf41 Z Z Z (o_load_B 0 H isAgg41 Z Z Z Z (o_len_slice underlying41 Z Z (mV Z (q3 (W_block ?_))))))))
     obtain ⟨ln13, hln13, H⟩ := H.name (k := 0) rfl
     refine W_lp (hf := (Sub.cons (t := 0) Z (Sub.cons (t := 5) Z (Sub.cons (t := 15) Z (Sub.cons (t := 16) Z (Sub.cons (t := 17) Z (Sub.cons (t := 22) Z (Sub.cons (t := 23) Z (Sub.cons (t := 24) Z (Sub.cons (t := 34) Z (Sub.cons (t := 35) Z Sub.nil))))))))))) (J := fun M w m => ∃ (esm0 : Array MapEntry) (ckm0 : Nat) (xsm0 : List (Int × Value)) (fm0 : Int → Nat) (kk : Nat) (G : PH), M = [(36, .int .i64 (kk : Int))] ∧ PLe G6 G ∧ Hp w0 G0 [] w G [blk b9 (cl ln13 66), blk b1 (.map esm0 ckm0)] ∧ (MapIs (Value.int .i64) esm0 ckm0 xsm0 ∧ UsR xsm0 fm0 ∧ kk ≤ z8.ids.length ∧ (∀ a, fm0 a = Sp.cntT (trees.take i) a + Sp.cntU (z4.flat []) a jj + Sp.cnt1 a (z8.ids.take kk) ∧ fm0 a ≤ 48 * i + 4 * jj + kk)) ∧ m = (z8.ids.length - kk)) (h0 := ⟨_, _, xsm0, fm0, 0, _, Z, PLe.refl _, H, ?inv, Z⟩) (round := ?round)
     case inv => exact ⟨hm6_m0, hS6_m0, (by exact ⟨by omega, fun a => (by have := hf2 a; simp [Sp.cnt1]; omega)⟩)⟩
     case round =>
      rintro _ w14 _ ⟨esm0, ckm0, xsm0, fm0, kk, G14, rfl, hle14, H, hinv14, rfl⟩
      subst hln13
      have hr8 := hr8.up hle14
      have hle6 := hle6.trans hle14
      obtain ⟨hm14_m0, hS14_m0, hinv14⟩ := hinv14
      obtain ⟨hkl, hf3⟩ := hinv14; have hb3 := fun a => (hf3 a).2
      refine q2 (o_lss Z Z Z (q3 (W_seq ?_)))
      refine W_cond Z ?_ ?_
      ·intro hc15
       try simp only [nrm] at hc15
       refine W_skip (N_K (W_seq (W_block (q2 (o_index_P kk hr8 underlying41 sizeOf3 Z Z Z Z aN ?_))))); intro b16 o16 z16 q16 hz16 hE16 hrow16
       obtain ⟨rfl, hi16⟩ := hE16
       refine o_load_P H isAgg3 Z Z (hrow16 0 _ Z) (aG Z (q3 (W_region (mV Z (mV Z (o_lookU (H.at (k := 1) Z) hm14_m0 hS14_m0 underlying192 underlying3 zeroValue3 Z Z Z ?_))))))
       try (have h7 := hb3 z16)
       refine o_add Z Z Z oO (o_updU 1 H (fm0 z16 + 1) Z hm14_m0 hS14_m0 underlying192 underlying3 Z Z Z oM ?_); intro es19 ck19 xs19 w19 H hm19 hS19
       refine R_nil (N_B (N_K (W_region (o_add Z Z Z oO (mV Z (R_nil ?_))))))
       refine N_lp (hJ := ⟨_, _, xs19, (fun a => if a = z16 then (fm0 z16 + 1) else fm0 a), kk + 1, _, Z, hle14, H, ?inv, Z⟩) (hm := ?hm)
       case hm => omega
       case inv => exact ⟨hm19, hS19, (by exact ⟨by omega, fun a => (by have h9 := hf3 a; have h7 := hf3 z16; (rw [Sp.cnt1_succ hz16]); by_cases e : a = z16; (· subst e; simp; omega); (· have e2 : ¬ z16 = a := fun h => e h.symm; simp only [e, e2, if_false]; omega))⟩)⟩
      intro hc15'
      try simp only [nrm] at hc15'
      refine W_exit (N_K_exit (N_LP_exit (N_B_same (N_B (N_K (W_region (o_add Z Z Z oO (mV Z (R_nil ?_)))))))))
      have H := H.del (k := 0) rfl
      refine N_lp (hJ := ⟨_, _, xsm0, fm0, jj + 1, _, Z, hle6, H, ?inv, Z⟩) (hm := ?hm)
      case hm => omega
      case inv => exact ⟨hm14_m0, hS14_m0, (by exact ⟨by omega, fun a => (by have h9 := hf3 a; (rw [Sp.cntU_succ hz8]); (rw [List.take_of_length_le (l := z8.ids) oM] at h9); omega), Sp.all_take hok2 hz8 hio⟩)⟩
    intro hc7'
    try simp only [nrm] at hc7'
    refine W_exit (N_K_exit (N_LP_exit (N_B_same (N_B (N_K (W_region (o_add Z Z Z oO (mV Z (R_nil ?_)))))))))
    refine N_lp (hJ := ⟨_, _, xsm0, fm0, i + 1, _, Z, hle2, H, ?inv, Z⟩) (hm := ?hm)
    case hm => omega
    case inv => exact ⟨hm6_m0, hS6_m0, (by exact ⟨by omega, fun a => (by have h9 := hf2 a; have h10 := Sp.cntT_succ (id := a) hz4; have h8 : (z4.flat []).length = jj := oM; (rw [h8] at h10); omega), Sp.all_take hok hz4 (by (rw [List.take_of_length_le (l := z4.flat []) oM] at hok2); exact hok2)⟩)⟩
  intro hc3'
  try simp only [nrm] at hc3'
  refine W_exit (N_K_exit (N_LP_exit (N_B_same (N_K (W_seq (q2 (mV Z ?_)))))))
  have hmb23 := (hbs.at H.sub); refine o_range H hmb23 underlying92 rfl rfl ?_; intro r23 w23 hr23 H _; have hne23 : r23 ≠ mbs := fun e => by have := (Array.getElem?_eq_some_iff.1 hmb23).1; omega
  refine q3 (W_block ?_)
  refine W_lp (hf := (Sub.cons (t := 5) Z (Sub.cons (t := 48) Z Sub.nil))) (J := fun M w m => ∃  (sn : Array Nat) (G : PH), M = [] ∧ PLe G2 G ∧ Hp w0 G0 [] w G [blk r23 (.mapIter (some mbs) cks sn cks), blk b1 (.map esm0 ckm0)] ∧ (∀ y, y ∈ Ls → seenH ess sn y → (Sp.cntT trees y.id : Int) = y.uses) ∧ m = ((leftOf ess sn).size)) (h0 := ⟨#[], _, Z, PLe.refl _, H, ?inv, Z⟩) (round := ?round)
  case inv => rintro y hy ⟨e, _, _, he⟩; simp at he
  case round =>
   rintro _ w24 _ ⟨sn, G24, rfl, hle24, H, hinv24, rfl⟩
   have hSs := hSs.up hle24
   have hbs := hbs.up hle24
   have hsn := hinv24
   refine q2 ?_
   refine o_next 0 H (hbs.at H.sub) hms hSs Z hne23 Z Z ?_ ?_
   ·intro hall25
    refine o_extract Z Z Z (q3 (W_seq (W_false Z (W_exit (N_K_exit (N_LP_exit (N_B_same (N_K (q2 (aG Z (q3 (W_ret (rt1 results130 Z ?_)))))))))))))
    have hot := hok; rw [List.take_of_length_le oM] at hot
    exact H.rets (congrArg Value.bool (by (rw [hot, Bool.true_and]); symm; (rw [List.all_eq_true]); intro y hy; simp only [decide_eq_true_eq]; exact hsn y hy (hall25 y hy)))
   intro e25 y25 q25 w25 he25 hk25 hv25 hy25 hE25 _ hless25 H
   obtain ⟨a25, m25, c25, rfl, hi25, hr25, hj25⟩ := hE25; have hn_hr25 := hr25.len; have hx_hr25 : _ ≤ 1099511627776 := hr25.lim
   refine o_extract Z Z Z (q3 (W_seq (W_true Z (W_skip (N_K (W_block (q2 (o_entry 0 H (hbs.at H.sub) hms Z he25 hk25 hv25 Z Z (o_extract Z Z Z (o_extract Z Z Z (o_alloc H zeroValue131 Z Z ?_))))))))))); intro b26 w26 hb26 H
   refine aG Z (o_store_B 0 H sizeOf131 Z Z Z Z Z Z Z Z ?_); intro w27 H
   refine q1 (mV Z (mV Z (o_lookU (H.at (k := 2) Z) hm2_m0 hS2_m0 underlying192 underlying3 zeroValue3 Z Z Z (o_fieldAddr 2 runUnderlying131 Z sizeOf3 Z Z Z (o_load_B 0 H isAgg3 Z Z Z Z (o_neq Z Z Z (q3 ?_)))))))
   refine W_cond Z ?_ ?_
   ·intro hc29
    try simp only [nrm] at hc29
    refine q2 (aG Z (q3 (W_ret (N_B_ret (N_LP_ret (N_B_ret (N_K_ret (rt1 results130 Z ?_))))))))
    have hft : ∀ a, fm0 a = Sp.cntT trees a := fun a => (by have h9 := (hf a).1; (rw [List.take_of_length_le oM] at h9); exact h9)
    have hot := hok; rw [List.take_of_length_le oM] at hot
    exact H.rets (congrArg Value.bool (by (rw [hot, Bool.true_and]); symm; (rw [List.all_eq_false]); exact ⟨_, hy25, by simp only [decide_eq_true_eq]; (rw [← hft]); first | exact hc29 | (simpa using hc29) | omega⟩))
   intro hc29'
   try simp only [nrm] at hc29'
   refine W_skip (N_B ?_)
   have H := H.del (k := 0) rfl
   refine N_lp (hJ := ⟨_, _, Z, hle24, H, ?inv, Z⟩) (hm := ?hm)
   case hm => exact hless25
   case inv => intro y hy hs; rcases seenH_push hms (hSs.nd hms) he25 hk25 hy25 hy hs with rfl | h; (· (have h9 := (hf y.id).1; (rw [List.take_of_length_le oM] at h9); (rw [← h9]); first | exact hc29' | (simpa using hc29') | omega)); exact hsn y hy h
end Go.Proofs.Tst

namespace Go.Proofs.Tst
open Go Fw Tryz
theorem i_StoreValid_c (w0 : World) (G0 : PH) (hG : PSub G0 w0) (vlist : Value) (list : List (BHeld)) (hlist : RdH G0 vlist list)  :
  Calls Tryz.prog 182 #[vlist] w0 (Rets w0 (.bool (Sp.StoreValid list))) := by
 obtain ⟨alist, klist, rfl⟩ := hlist.shape
 have hlimlist : list.length ≤ 1099511627776 := hlist.lim
 have H := Hp.init hG
 refine calls_of_W (l := [.slice alist list.length klist]) func182 Z ntmps182 Z (q2 (aG Z (q3 (W_seq (q2 (mV Z (o_len_slice underlying28 Z Z (o_gtr Z Z Z (q3 ?_)))))))))
 refine W_cond Z ?_ ?_
 ·intro hc1
  try simp only [nrm] at hc1
  refine q2 (aG Z (q3 (W_ret (N_K_ret (rt1 results182 Z ?_)))))
  exact H.rets (congrArg Value.bool (by rw [Sp.sv_long oM]))
 intro hc1'
 try simp only [nrm] at hc1'
 refine W_skip (N_K (q2 (aG Z (q3 (W_seq (q2 (mV Z (o_len_slice underlying28 Z Z (mV Z (q3 (W_block ?_)))))))))))
 refine W_lp (hf := (Sub.cons (t := 0) Z (Sub.cons (t := 11) Z (Sub.cons (t := 12) Z Sub.nil)))) (J := fun M w m => ∃ (k : Nat) (la : Int) (G : PH), M = [(13, .int .i64 (k : Int)), (3, .int .i64 la)] ∧ PLe G0 G ∧ Hp w0 G0 [] w G [] ∧ (k ≤ list.length ∧ la = Sp.lastId list k ∧ (∀ j, j < k → Sp.okH list j = true) ∧ inI la) ∧ m = (list.length - k)) (h0 := ⟨0, 0, _, Z, PLe.refl _, H, ?inv, Z⟩) (round := ?round)
 case inv => exact ⟨by omega, rfl, fun j hj => by omega, by decide⟩
 case round =>
  rintro _ w2 _ ⟨k, la, G2, rfl, hle2, H, hinv2, rfl⟩
  have hlist := hlist.up hle2
  obtain ⟨hk, hla, hall, hlai⟩ := hinv2
  refine q2 (o_lss Z Z Z (q3 (W_seq ?_)))
  refine W_cond Z ?_ ?_
  ·intro hc3
   try simp only [nrm] at hc3
   refine W_skip (N_K (W_seq (W_block (q2 (mV Z (o_index_P k hlist underlying28 sizeOf131 Z Z Z Z aN ?_)))))); intro b4 o4 z4 q4 hz4 hE4 hrow4
   obtain ⟨a4, m4, c4, rfl, hi4, hr4, hj4⟩ := hE4; have hn_hr4 := hr4.len; have hx_hr4 : _ ≤ 1099511627776 := hr4.lim
   refine o_loadagg_P H isAgg131 sizeOf131 Z Z hrow4 Z (o_alloc H zeroValue131 Z Z ?_); intro b5 w5 hb5 H
   refine aG Z (o_store_B 0 H sizeOf131 Z Z Z Z Z Z Z Z ?_); intro w6 H
   refine q3 (W_seq (q2 (o_fieldAddr 0 runUnderlying131 Z sizeOf3 Z Z Z (o_load_B 0 H isAgg3 Z Z Z Z (mV Z (o_leq Z Z Z (mV Z ?_)))))))
   refine R_case (t := 22) Z ?_ ?_
   ·intro hc7
    try simp only [nrm] at hc7
    refine rP Z (rP Z (rP Z (o_pick_t Z Z Z (mV Z (rP Z (rP Z (rP Z (o_pick_t Z Z Z (mV Z (rP Z (rP Z (rP Z (o_pick_t Z Z Z (mV Z (rP Z ?_)))))))))))))))
    refine rP Z (rP Z (rP Z (o_pick_t Z Z Z (q3 (W_true Z (q2 (aG Z (q3 (W_ret (N_K_ret (N_B_ret (N_K_ret (N_LP_ret (N_B_ret (N_K_ret ?_)))))))))))))))
    refine rt1 results182 Z ?_
    exact H.rets (congrArg Value.bool (by rw [Sp.sv_false (k := k) oM (Sp.okH_last hz4 oM)]))
   intro hc7'
   try simp only [nrm] at hc7'
   refine gR Z (o_fieldAddr 0 runUnderlying131 Z sizeOf3 Z Z Z (gR Z (o_load_B 0 H isAgg3 Z Z Z Z (gR Z (o_gtr Z Z Z (o_pick_f Z Z Z (mV Z ?_)))))))
   refine R_case (t := 27) Z ?_ ?_
   ·intro hc8
    try simp only [nrm] at hc8
    refine rP Z (rP Z (rP Z (o_pick_t Z Z Z (mV Z (rP Z (rP Z (rP Z (o_pick_t Z Z Z (mV Z (rP Z (rP Z (rP Z (rP Z (o_pick_t Z Z Z (q3 ?_)))))))))))))))
    refine W_true Z (q2 (aG Z (q3 (W_ret (N_K_ret (N_B_ret (N_K_ret (N_LP_ret (N_B_ret (N_K_ret (rt1 results182 Z ?_)))))))))))
    exact H.rets (congrArg Value.bool (by rw [Sp.sv_false (k := k) oM (Sp.okH_id hz4 oM)]))
   intro hc8'
   try simp only [nrm] at hc8'
   refine gR Z (o_fieldAddr 2 runUnderlying131 Z sizeOf3 Z Z Z (gR Z (o_load_B 0 H isAgg3 Z Z Z Z (gR Z (o_lss Z Z Z (o_pick_f Z Z Z (mV Z ?_)))))))
   refine R_case (t := 32) Z ?_ ?_
   ·intro hc9
    try simp only [nrm] at hc9
    refine rP Z (rP Z (rP Z (o_pick_t Z Z Z (mV Z (rP Z (rP Z (rP Z (rP Z (o_pick_t Z Z Z (q3 (W_true Z (q2 (aG Z (q3 (W_ret ?_)))))))))))))))
    refine N_K_ret (N_B_ret (N_K_ret (N_LP_ret (N_B_ret (N_K_ret (rt1 results182 Z ?_))))))
    exact H.rets (congrArg Value.bool (by rw [Sp.sv_false (k := k) oM (Sp.okH_id hz4 oM)]))
   intro hc9'
   try simp only [nrm] at hc9'
   refine gR Z (o_fieldAddr 2 runUnderlying131 Z sizeOf3 Z Z Z (gR Z (o_load_B 0 H isAgg3 Z Z Z Z (gR Z (o_gtr Z Z Z (o_pick_f Z Z Z (mV Z ?_)))))))
   refine R_case (t := 37) Z ?_ ?_
   ·intro hc10
    try simp only [nrm] at hc10
    refine rP Z (rP Z (rP Z (rP Z (o_pick_t Z Z Z (q3 (W_true Z (q2 (aG Z (q3 (W_ret (N_K_ret (N_B_ret (N_K_ret (N_LP_ret (N_B_ret ?_)))))))))))))))
    refine N_K_ret (rt1 results182 Z ?_)
    exact H.rets (congrArg Value.bool (by rw [Sp.sv_false (k := k) oM (Sp.okH_id hz4 oM)]))
   intro hc10'
   try simp only [nrm] at hc10'
   refine gR Z (o_fieldAddr 1 runUnderlying131 Z sizeOf41 Z Z Z (gR Z (o_load_B 0 H isAgg41 Z Z Z Z (gR Z (o_call call207 Z Z (i_BlockValid_c _ _ H.sub _ _ hr4 ) ?_)))))
   rintro _ w11 ⟨rfl, ew11⟩; have H := H.step ew11; refine ⟨_, rfl, ?_⟩
   refine gR Z (o_not Z Z (o_pick_f Z Z Z (q3 ?_)))
   refine W_cond Z ?_ ?_
   ·intro hc12
    try simp only [nrm] at hc12
    refine q2 (aG Z (q3 (W_ret (N_K_ret (N_B_ret (N_K_ret (N_LP_ret (N_B_ret (N_K_ret (rt1 results182 Z ?_))))))))))
    exact H.rets (congrArg Value.bool (by rw [Sp.sv_false (k := k) oM (Sp.okH_id hz4 (by exact .inr (.inr (.inr (by simpa using hc12)))))]))
   intro hc12'
   try simp only [nrm] at hc12'
   refine W_skip (N_K (W_seq (q2 (mV Z (mV Z ?_)))))
   have hcap13 := hlist.cap; try simp only [List.length_set, List.length_append, List.length_take, List.length_drop, List.length_replicate] at hcap13
   refine o_slice_to (j := k) underlying28 sizeOf131 Z Z Z oM oM ?_
   have hsl13 := hlist.take (j := k) aN
   have hsn1 := hsl13.len
   refine o_len_slice underlying28 Z Z (mV Z (q3 (W_block ?_)))
   obtain ⟨ln14, hln14, H⟩ := H.name (k := 0) rfl
   refine W_lp (hf := (Sub.cons (t := 0) Z (Sub.cons (t := 3) Z (Sub.cons (t := 5) Z (Sub.cons (t := 11) Z (Sub.cons (t := 12) Z (Sub.cons (t := 13) Z (Sub.cons (t := 45) Z (Sub.cons (t := 46) Z Sub.nil))))))))) (J := fun M w m => ∃ (j : Nat) (G : PH), M = [(47, .int .i64 (j : Int))] ∧ PLe G2 G ∧ Hp w0 G0 [] w G [blk b5 (cl ln14 131)] ∧ (j ≤ k ∧ (list.take j).all (fun g => !Sp.l2Same g.bytes z4.bytes) = true) ∧ m = (k - j)) (h0 := ⟨0, _, Z, PLe.refl _, H, ?inv, Z⟩) (round := ?round)
   case inv => exact ⟨by omega, by simp⟩
   case round =>
    rintro _ w15 _ ⟨j, G15, rfl, hle15, H, hinv15, rfl⟩
    subst hln14
    have hr4 := hr4.up hle15
    have hsl13 := hsl13.up hle15
    have hle2 := hle2.trans hle15
    obtain ⟨hj, hall2⟩ := hinv15
    refine q2 (o_lss Z Z Z (q3 (W_seq ?_)))
    refine W_cond Z ?_ ?_
    ·intro hc16
     try simp only [nrm] at hc16
     refine W_skip (N_K (W_seq (W_block (q2 (o_index_P j hsl13 underlying28 sizeOf131 Z Z Z Z aN ?_))))); intro b17 o17 z17 q17 hz17 hE17 hrow17
     obtain ⟨a17, m17, c17, rfl, hi17, hr17, hj17⟩ := hE17; have hn_hr17 := hr17.len; have hx_hr17 : _ ≤ 1099511627776 := hr17.lim
     rw [List.getElem?_take, if_pos oM] at hz17
     refine o_loadagg_P H isAgg131 sizeOf131 Z Z hrow17 Z (o_alloc H zeroValue131 Z Z ?_); intro b18 w18 hb18 H
     refine o_store_B 0 H sizeOf131 Z Z Z Z Z Z Z Z ?_; intro w19 H
     refine q1 (o_fieldAddr 1 runUnderlying131 Z sizeOf41 Z Z Z (o_load_B 0 H isAgg41 Z Z Z Z (o_fieldAddr 1 runUnderlying131 Z sizeOf41 Z Z Z (o_load_B 1 H isAgg41 Z Z Z Z (o_call call208 Z Z (l_Equal_c _ _ H.sub _ _ hr17 _ _ hr4 ) ?_)))))
     rintro _ w20 ⟨rfl, ew20⟩; have H := H.step ew20; refine ⟨_, rfl, ?_⟩
     refine q3 ?_
     refine W_cond Z ?_ ?_
     ·intro hc21
      try simp only [nrm] at hc21
      refine q2 (aG Z (q3 (W_ret (N_B_ret (N_K_ret (N_LP_ret (N_B_ret (N_K_ret (N_B_ret (N_K_ret (N_LP_ret (N_B_ret (N_K_ret (rt1 results182 Z ?_))))))))))))))
      exact H.rets (congrArg Value.bool (by rw [Sp.sv_false (k := k) oM (Sp.okH_dup hz4 oM hz17 hc21)]))
     intro hc21'
     try simp only [nrm] at hc21'
     refine W_skip (N_B (N_K (W_region (o_add Z Z Z oO (mV Z (R_nil ?_))))))
     have H := H.del (k := 0) rfl
     refine N_lp (hJ := ⟨j + 1, _, Z, hle15, H, ?inv, Z⟩) (hm := ?hm)
     case hm => omega
     case inv => exact ⟨by omega, Sp.all_take hall2 hz17 (by simp [hc21'])⟩
    intro hc16'
    try simp only [nrm] at hc16'
    refine W_exit (N_K_exit (N_LP_exit (N_B_same (N_K (W_region (o_fieldAddr 0 runUnderlying131 Z sizeOf3 Z Z Z (o_load_B 0 H isAgg3 Z Z Z Z (aG Z (R_nil (N_B (N_K (W_region (o_add Z Z Z oO (mV Z (R_nil ?_)))))))))))))))
    have H := H.del (k := 0) rfl
    refine N_lp (hJ := ⟨k + 1, z4.id, _, Z, hle2, H, ?inv, Z⟩) (hm := ?hm)
    case hm => omega
    case inv => (obtain rfl : j = k := by omega); exact ⟨by omega, (Sp.lastId_succ hz4).symm, Sp.upto_succ hall (Sp.okH_mk hz4 hall oM oM (by simpa using hc12') oM hall2), hi4⟩
  intro hc3'
  try simp only [nrm] at hc3'
  refine W_exit (N_K_exit (N_LP_exit (N_B_same (N_K (q2 (aG Z (q3 (W_ret (rt1 results182 Z ?_)))))))))
  exact H.rets (congrArg Value.bool (by rw [Sp.sv_true (fun j hj => hall j oM) oM]))
end Go.Proofs.Tst

namespace Go.Proofs.Tst
open Go Fw Tryz
theorem i_openStore_c (w0 : World) (G0 : PH) (hG : PSub G0 w0) (vlist : Value) (list : List (BHeld)) (hlist : RdH G0 vlist list) (hLent : Lent w0 G0 [])  :
  Calls Tryz.prog 148 #[vlist] w0 (RetM w0 G0 [] (fun G' v Bs => (Sp.StoreValid list = false ∧ v = .tuple #[.map none, .bool false] ∧ Bs = []) ∨ (Sp.VH list ∧ ∃ (mb : Nat) (es' : Array MapEntry) (ck' : Nat) (xs' : List (Int × Value)), v = .tuple #[.map (some mb), .bool true] ∧ Bs = [blk mb (.map es' ck')] ∧ MapIs (Value.int .i64) es' ck' xs' ∧ StR G' xs' list))) := by
 obtain ⟨alist, klist, rfl⟩ := hlist.shape
 have hlimlist : list.length ≤ 1099511627776 := hlist.lim
 have H : Hp w0 G0 [] w0 G0 [] := hLent.hp
 refine calls_of_W (l := [.slice alist list.length klist]) func148 Z ntmps148 Z (q2 (aG Z (aG Z (q3 (W_seq (q2 (mV Z (o_call call182 Z Z (i_StoreValid_c _ _ H.sub _ _ hlist ) ?_))))))))
 rintro _ w1 ⟨rfl, ew1⟩; have H := H.step ew1; refine ⟨_, rfl, ?_⟩
 refine o_not Z Z (q3 ?_)
 refine W_cond Z ?_ ?_
 ·intro hc2
  try simp only [nrm] at hc2
  refine q2 (aG Z (aG Z (q3 (W_ret (N_K_ret (rt2 results148 Z Z ?_))))))
  exact H.retM (.inl ⟨by simpa using hc2, rfl, rfl⟩)
 intro hc2'
 try simp only [nrm] at hc2'
 have hVl := Sp.valid_iff.1 (by simpa using hc2' : Sp.StoreValid list = true)
 refine W_skip (N_K (q2 (o_makeMap H Z ?_))); intro b3 w3 hb3 H
 have hm3 := MapIs.empty (key := Value.int .i64) 0
 have hS3 := StR.nil G0
 refine aG Z (q3 (W_seq (q2 (mV Z (o_len_slice underlying28 Z Z (mV Z (q3 (W_block ?_))))))))
 refine W_lp (hf := (Sub.cons (t := 2) Z (Sub.cons (t := 3) Z (Sub.cons (t := 4) Z (Sub.cons (t := 11) Z (Sub.cons (t := 12) Z Sub.nil)))))) (J := fun M w m => ∃ (esm0 : Array MapEntry) (ckm0 : Nat) (xsm0 : List (Int × Value)) (Lm0 : List BHeld) (k : Nat) (G : PH), M = [(13, .int .i64 (k : Int))] ∧ PLe G0 G ∧ Hp w0 G0 [] w G [blk b3 (.map esm0 ckm0)] ∧ (MapIs (Value.int .i64) esm0 ckm0 xsm0 ∧ StR G xsm0 Lm0 ∧ Sp.VH Lm0 ∧ k ≤ list.length ∧ Lm0 = list.take k) ∧ m = (list.length - k)) (h0 := ⟨_, _, [], [], 0, _, Z, PLe.refl _, H, ?inv, Z⟩) (round := ?round)
 case inv => exact ⟨hm3, hS3, Sp.VH_nil, (by simp)⟩
 case round =>
  rintro _ w4 _ ⟨esm0, ckm0, xsm0, Lm0, k, G4, rfl, hle4, H, hinv4, rfl⟩
  have hlist := hlist.up hle4
  obtain ⟨hm4_m0, hS4_m0, hV4_m0, hinv4⟩ := hinv4
  obtain ⟨hk, rfl⟩ := hinv4
  refine q2 (o_lss Z Z Z (q3 (W_seq ?_)))
  refine W_cond Z ?_ ?_
  ·intro hc5
   try simp only [nrm] at hc5
   refine W_skip (N_K (W_seq (W_block (q2 (o_index_P k hlist underlying28 sizeOf131 Z Z Z Z aN ?_))))); intro b6 o6 z6 q6 hz6 hE6 hrow6
   obtain ⟨a6, m6, c6, rfl, hi6, hr6, hj6⟩ := hE6; have hn_hr6 := hr6.len; have hx_hr6 : _ ≤ 1099511627776 := hr6.lim
   refine o_loadagg_P H isAgg131 sizeOf131 Z Z hrow6 Z (o_alloc H zeroValue131 Z Z ?_); intro b7 w7 hb7 H
   refine o_store_B 0 H sizeOf131 Z Z Z Z Z Z Z Z ?_; intro w8 H
   refine q3 (W_drawK [0] 12 H kR Z ?_); intro w9 H; have hd9 := PLe.refl G4
   refine vM 0 Z Z (RD_t 1 Z kR Z (fun _ hK => v_fieldAddr 0 runUnderlying131 Z sizeOf3 Z Z) (RD_t 2 Z kR Z (fun _ hK => v_load_B 0 hK isAgg3 Z Z Z) (RD_t 3 Z kR Z (fun _ hK => v_fieldAddr 0 runUnderlying131 Z sizeOf3 Z Z) (RD_t 4 Z kR Z (fun _ hK => v_load_B 0 hK isAgg3 Z Z Z) (RD_t 5 Z kR Z (fun _ hK => v_fieldAddr 1 runUnderlying131 Z sizeOf41 Z Z) (RD_t 6 Z kR Z (fun _ hK => v_load_B 0 hK isAgg41 Z Z Z) (RD_t 8 Z kR Z (fun _ hK => v_fieldAddr 2 runUnderlying131 Z sizeOf3 Z Z) (RD_t 9 Z kR Z (fun _ hK => v_load_B 0 hK isAgg3 Z Z Z) ?_))))))))
   refine RD_run [7] kR Z (RDs.cons Z ?_ RDs.nil)
   refine o_call call173 Z Z (l_Clone_c _ _ H.sub _ _ hr6 ) ?_
   rintro _ w10 ⟨G10, v10, _, g10, rfl, ⟨cs10, rfl, hchk10⟩, hp10, hq10, hs10⟩
   have H := H.growO g10 hp10 hq10 hs10; obtain ⟨av10, cv10, rfl⟩ := H.accShape (k := 0) rfl
   have hS4_m0 := hS4_m0.up g10.le
   have hle4 := hle4.trans g10.le
   have hd9 := hd9.trans g10.le
   refine ⟨_, Z, ?_⟩
   refine R_nil (N_DK (Kn.of' H hd9 (SubL.cons 1 Z SubL.nil)) (RD_t 10 Z kR Z (fun _ hK => v_build bf131 Z Z) ?_))
   refine RD_run [11] kR Z (RDs.cons Z ?_ RDs.nil)
   obtain ⟨G12, H, hsg12, hsr12⟩ := H.shutL (k := 0) rfl (H.apart (k := 0) (ks := []) rfl rfl (by intro b hb; simpa [fpsAt, nth, blk] using hb)) hchk10 aN aN
   have hS4_m0 := hS4_m0.up hsg12
   have hle4 := hle4.trans hsg12
   refine o_updS 1 H z6 Z hm4_m0 hS4_m0 underlying92 underlying3 Z Z Z (show heldE G12 z6 _ from ⟨_, _, _, Z, ⟨by first | omega | (dsimp only; omega), by first | omega | (dsimp only; omega)⟩, hsr12, ⟨by first | omega | (dsimp only; omega), by first | omega | (dsimp only; omega)⟩⟩) rfl ?_; intro es11 ck11 xs11 w11 H hm11 hS11
   refine R_nil (N_DKlast kR kR (N_B (N_K (W_region ?_))))
   rw [Sp.upd_take hVl hz6] at hS11
   refine o_add Z Z Z oO (mV Z (R_nil ?_))
   have H := H.del (k := 0) rfl
   refine N_lp (hJ := ⟨_, _, xs11, (list.take (k + 1)), k + 1, _, Z, hle4, H, ?inv, Z⟩) (hm := ?hm)
   case hm => omega
   case inv => exact ⟨hm11, hS11, (hVl.take (k + 1)), (by exact ⟨by omega, rfl⟩)⟩
  intro hc5'
  try simp only [nrm] at hc5'
  refine W_exit (N_K_exit (N_LP_exit (N_B_same (N_K (q2 (mV Z (aG Z (aG Z (q3 (W_ret (rt2 results148 Z Z ?_)))))))))))
  rw [List.take_of_length_le oM] at hS4_m0
  exact H.retM (.inr ⟨hVl, _, _, _, _, Z, Z, hm4_m0, hS4_m0⟩)
theorem i_slist_c (w0 : World) (G0 : PH) (hG : PSub G0 w0) (mbs : Nat) (ess : Array MapEntry) (cks : Nat) (xss : List (Int × Value)) (Ls : List BHeld) (hbs : MapAt G0 mbs ess cks) (hms : MapIs (Value.int .i64) ess cks xss) (hSs : StR G0 xss Ls) (hVs : Sp.VH Ls)  :
  Calls Tryz.prog 137 #[.map (some mbs)] w0 (RetN w0 G0 (fun v Bs => ∃ (F : Fr), Bs = [frag F] ∧ OHs F v Ls)) := by
 have hl16 := hVs.len
 have H := Hp.init hG
 refine calls_of_W (l := [.map (some mbs)]) func137 Z ntmps137 Z (q2 (aG Z (q1 (mV Z ?_))))
 have hml1 := hSs.len
 refine o_lenM (hbs.at H.sub) hms underlying92 Z Z (o_make0 (c := Ls.length) (sz := 3) (bytes := 40) H underlying28 typeInfo131 ⟨_, Z, Z⟩ Z Z Z Z Z Z oM oM Z ?_); intro b2 w2 H
 refine aG Z (q3 (W_seq (q2 (mV Z (o_call call176 Z Z (keys_c _ _ H.sub _) ?_))))); rintro _ w3 ⟨kb3, rfl, hkb3, ek3, hkc3⟩; have H := H.step ek3; refine ⟨_, rfl, ?_⟩
 refine o_call call175 Z Z (sorted_c _ _ _ hkc3 (hbs.at H.sub) hms hSs hVs) ?_; rintro _ w4 ⟨v4, rfl, ek4, hp4, hf4⟩; have H := H.add ek4 _ hp4 hf4 (acc_nd _ _ _ _ _)
 have hchk4 := chkIds G0 hVs; obtain ⟨av4, cv4, rfl⟩ := H.accShape (k := 0) rfl; refine ⟨_, rfl, ?_⟩
 refine o_len_slice underlying41 Z Z (mV Z (q3 (W_block ?_)))
 obtain ⟨G5, H, hsg5, hsr5⟩ := H.shut' (k := 0) rfl hchk4 aN aN
 have hSs := hSs.up hsg5
 have hbs := hbs.up hsg5
 have H := H.addF
 refine W_lp (hf := (Sub.cons (t := 0) Z (Sub.cons (t := 2) Z (Sub.cons (t := 12) Z (Sub.cons (t := 13) Z Sub.nil))))) (J := fun M w m => ∃ (v : Value) (n : Nat) (cs : List Value) (xs : List (BHeld)) (F : Fr) (k : Nat) (G : PH), M = [(14, .int .i64 (k : Int)), (3, v)] ∧ PLe G5 G ∧ Hp w0 G0 [] w G [frag F, acc 131 3 v n cs] ∧ (ChkF heldO 3 cs xs F ∧ n = xs.length ∧ k ≤ Ls.length ∧ xs = Ls.take k) ∧ m = (Ls.length - k)) (h0 := ⟨_, _, _, [], [], 0, _, Z, PLe.refl _, H, ?inv, Z⟩) (round := ?round)
 case inv => exact ⟨ChkF.nil,  by first | rfl | simp | (simp; omega) | omega, (by simp)⟩
 case round =>
  rintro _ w6 _ ⟨v, n, cs, xs, F, k, G6, rfl, hle6, H, hinv6, rfl⟩
  have hSs := hSs.up hle6
  have hbs := hbs.up hle6
  have hsr5 := hsr5.up hle6
  obtain ⟨hchk6_0, hn6_0, hinv6⟩ := hinv6
  obtain ⟨av6_0, cv6_0, rfl⟩ := H.accShape (k := 1) rfl
  obtain ⟨hk, hxs⟩ := hinv6; have hxl : xs.length ≤ 16 := by rw [hxs]; simp; omega
  refine q2 (o_lss Z Z Z (q3 (W_seq ?_)))
  refine W_cond Z ?_ ?_
  ·intro hc7
   try simp only [nrm] at hc7
   refine W_skip (N_K (W_seq (W_block (q2 (o_index_P k hsr5 underlying41 sizeOf3 Z Z Z Z aN ?_))))); intro b8 o8 z8 q8 hz8 hE8 hrow8
   obtain ⟨rfl, hi8⟩ := hE8
   refine o_load_P H isAgg3 Z Z (hrow8 0 _ Z) (aG Z (q1 (mV Z (mV Z (o_lookS (hbs.at H.sub) hms hSs underlying92 underlying3 zeroValue131 Z Z Z ?_))))); intro q9 hE9
   obtain ⟨a9, m9, c9, rfl, hi9, hr9, hj9⟩ := hE9; have hn_hr9 := hr9.len; have hx_hr9 : _ ≤ 1099511627776 := hr9.lim
   have hgb := Sp.get_len hVs z8
   have hat := Sp.get_at hVs hz8
   refine o_alloc H zeroValue131 Z Z ?_; intro b10 w10 hb10 H
   refine o_store_B 0 H sizeOf131 Z Z Z Z Z Z Z Z ?_; intro w11 H
   refine q3 (W_drawK [0] 11 H kR Z ?_); intro w12 H; have hd12 := PLe.refl G6
   refine vM 0 Z Z (vM 1 Z Z (RD_t 2 Z kR Z (fun _ hK => v_fieldAddr 1 runUnderlying131 Z sizeOf41 Z Z) (RD_t 3 Z kR Z (fun _ hK => v_load_B 0 hK isAgg41 Z Z Z) (RD_t 5 Z kR Z (fun _ hK => v_fieldAddr 2 runUnderlying131 Z sizeOf3 Z Z) (RD_t 6 Z kR Z (fun _ hK => v_load_B 0 hK isAgg3 Z Z Z) ?_)))))
   refine RD_run [4] kR Z (RDs.cons Z ?_ RDs.nil)
   refine o_call call173 Z Z (l_Clone_c _ _ H.sub _ _ hr9 ) ?_
   rintro _ w13 ⟨G13, v13, _, g13, rfl, ⟨cs13, rfl, hchk13⟩, hp13, hq13, hs13⟩
   have H := H.growO g13 hp13 hq13 hs13; obtain ⟨av13, cv13, rfl⟩ := H.accShape (k := 0) rfl
   have hle6 := hle6.trans g13.le
   have hd12 := hd12.trans g13.le
   refine ⟨_, Z, ?_⟩
   refine R_nil (N_DK (Kn.of' H hd12 (SubL.cons 1 Z SubL.nil)) (RD_t 7 Z kR Z (fun _ hK => v_build bf131 Z Z) ?_))
   refine RD_run [8] kR Z (RDs.cons Z ?_ RDs.nil)
   refine o_buildSlice H underlying28 sizeOf131 (fun w => ⟨_, zeroValue131 w, Z⟩) Z Z Z Z Z Z Z ?_; intro b14 w14 hb14 H
   refine R_nil (N_DK (Kn.of' H hd12 (SubL.cons 2 Z SubL.nil)) ?_)
   refine RD_run [9] kR Z (RDs.cons Z ?_ RDs.nil)
   refine o_append1 3 H (sz := 3) (bytes := 40) underlying28 typeInfo131 ⟨_, Z, Z⟩ Z Z Z Z Z Z Z Z Z Z oM Z ?_; intro v15 w15 H
   obtain ⟨Fi2, H, hOI2⟩ := H.ownI (k := 0) rfl hchk13 aN aN
   have hchk15 := hchk6_0.snoc (show heldO Fi2 ⟨z8, (getH Ls z8).bytes, (getH Ls z8).uses⟩ _ from ⟨_, _, _, rfl, ⟨by first | omega | (dsimp only; omega), by first | omega | (dsimp only; omega)⟩, hOI2, ⟨by first | omega | (dsimp only; omega), by first | omega | (dsimp only; omega)⟩⟩) rfl
   have H := H.toFront (k := 2) rfl
   have H := H.mergeF
   obtain ⟨av15, cv15, rfl⟩ := H.accShape (k := 2) rfl
   refine R_nil (N_DK (Kn.of' H hd12 (SubL.cons 1 Z SubL.nil)) (RD_t 10 Z kR Z (fun _ hK => v_assign Z) (RD_done kR (N_B (N_K (W_region (o_add Z Z Z oO (mV Z (R_nil ?_)))))))))
   have H := H.del (k := 1) rfl
   refine N_lp (hJ := ⟨_, _, _, (xs ++ [⟨z8, (getH Ls z8).bytes, (getH Ls z8).uses⟩]), (F ++ Fi2), k + 1, _, Z, hle6, H, ?inv, Z⟩) (hm := ?hm)
   case hm => omega
   case inv => exact ⟨hchk15, aN, (by exact ⟨by omega, by rw [Sp.take_succ' hat, hxs]⟩)⟩
  intro hc7'
  try simp only [nrm] at hc7'
  refine W_exit (N_K_exit (N_LP_exit (N_B_same (N_K (q2 (mV Z (aG Z (q3 (W_ret (rt1 results137 Z ?_))))))))))
  have H := H.toFront (k := 1) rfl
  obtain ⟨Fo3, H, hOw3⟩ := H.ownF hchk6_0 aN aN
  have hX : xs = Ls := by rw [hxs, List.take_of_length_le oM]
  have H := H.forget hG (by simp)
  exact ⟨_, _, Z, H, _, Z, hX ▸ ⟨_, hOw3⟩⟩
end Go.Proofs.Tst

namespace Go.Proofs.Tst
open Go Fw Tryz
theorem i_newVolume_c (w0 : World) (G0 : PH) (hG : PSub G0 w0) (vstore : Value) (store : List (BHeld)) (hstore : RdH G0 vstore store) (vtree : Value) (tree : List (BItem)) (htree : RdItems G0 vtree tree) (hLent : Lent w0 G0 [])  :
  Calls Tryz.prog 129 #[vstore, vtree] w0 (RetM w0 G0 [] (fun G' v Bs => (v = .tuple #[.agg #[.map none, .pointer none], .bool false] ∧ Bs = [] ∧ (Sp.StoreValid store && Sp.TreeValid tree) = false) ∨ (∃ (mb : Nat) (es : Array MapEntry) (ck : Nat) (xs : List (Int × Value)) (T : Nd) (F : Fr), v = .tuple #[.agg #[.map (some mb), .pointer (some ⟨T.b, 0, none⟩)], .bool true] ∧ Bs = [blk mb (.map es ck), frag F] ∧ MapIs (Value.int .i64) es ck xs ∧ StR G' xs store ∧ Sp.VH store ∧ NdO 166 93 G' T F ∧ Nd.TOK T tree ∧ Sp.TreeValid tree = true))) := by
 obtain ⟨astore, kstore, rfl⟩ := hstore.shape
 have hlimstore : store.length ≤ 1099511627776 := hstore.lim
 obtain ⟨atree, ktree, rfl⟩ := htree.shape
 have hlimtree : tree.length ≤ 1099511627776 := htree.lim
 have H : Hp w0 G0 [] w0 G0 [] := hLent.hp
 refine calls_of_W (l := [.slice astore store.length kstore, .slice atree tree.length ktree]) func129 Z ntmps129 Z (q2 (o_alloc H zeroValue95 Z Z ?_)); intro b1 w1 hb1 H
 refine aG Z (q1 (mV Z (o_call call148 Z Z (i_openStore_c _ _ H.sub _ _ hstore H.lent0 ) ?_)))
 rintro _ w2 ⟨G2, _, _, rfl, H2', ⟨hnv2, rfl, rfl⟩ | ⟨hV2, mb2, es2, ck2, xs2, rfl, rfl, hm2, hS2⟩⟩
 ·skip
  have H := H.borrow0 H2'
  refine ⟨_, Z, ?_⟩
  refine mV Z (o_extract Z Z Z (o_extract Z Z Z (aG Z (aG Z (q3 (W_seq (q2 (mV Z (o_not Z Z (q3 (W_true Z (q2 (o_build bf95 Z Z Z (o_store_B 0 H sizeOf95 Z Z Z Z Z Z Z Z ?_)))))))))))))); intro w3 H
  refine aG Z (q3 (W_ret (N_K_ret (ret_gen (rs := [.cell 4 95, .tmp 5]) (vs := [_, _]) results129 ⟨⟨_, Z, load_blk 0 H isAgg95 sizeOf95 Z Z Z⟩, Z, trivial⟩ ?_))))
  have H := H.del (k := 0) rfl
  exact H.retM (.inl ⟨rfl, rfl, by simp_all⟩)
 skip
 have htree := htree.up H2'.le
 have H := H.borrow0 H2'
 refine ⟨_, Z, ?_⟩
 refine mV Z (o_extract Z Z Z (o_extract Z Z Z (aG Z (aG Z (q3 (W_seq (q2 (mV Z (o_not Z Z (q3 (W_false Z (W_skip (N_K (q2 (mV Z ?_)))))))))))))))
 refine o_call call147 Z Z (i_openTree_c _ _ H.sub _ _ htree H.lent0 ) ?_
 rintro _ w4 ⟨G4, _, _, rfl, H4', ⟨rfl, rfl, hv4⟩ | ⟨T4, F4, rfl, rfl, hN4, hT4, hv4⟩⟩
 ·skip
  have H := H.borrow0 H4'
  refine ⟨_, Z, ?_⟩
  refine mV Z (o_extract Z Z Z (o_extract Z Z Z (aG Z (aG Z (q3 (W_seq (q2 (mV Z (o_not Z Z (q3 (W_true Z (q2 (o_build bf95 Z Z Z (o_store_B 1 H sizeOf95 Z Z Z Z Z Z Z Z ?_)))))))))))))); intro w5 H
  refine aG Z (q3 (W_ret (N_K_ret (ret_gen (rs := [.cell 4 95, .tmp 5]) (vs := [_, _]) results129 ⟨⟨_, Z, load_blk 1 H isAgg95 sizeOf95 Z Z Z⟩, Z, trivial⟩ ?_))))
  have H := H.del (k := 0) rfl
  have H := H.del (k := 0) rfl
  exact H.retM (.inl ⟨rfl, rfl, by simp_all⟩)
 skip
 have hS2 := hS2.up H4'.le
 have H := H.borrow0 H4'
 refine ⟨_, Z, ?_⟩
 refine mV Z (o_extract Z Z Z (o_extract Z Z Z (aG Z (aG Z (q3 (W_seq (q2 (mV Z (o_not Z Z (q3 (W_false Z (W_skip (N_K (q2 (mV Z ?_)))))))))))))))
 refine mV Z (o_build bf95 Z Z Z (o_store_B 2 H sizeOf95 Z Z Z Z Z Z Z Z ?_)); intro w6 H
 refine aG Z (q3 (W_ret (ret_gen (rs := [.cell 4 95, .tmp 5]) (vs := [_, _]) results129 ⟨⟨_, Z, load_blk 2 H isAgg95 sizeOf95 Z Z Z⟩, Z, trivial⟩ ?_)))
 have H := H.del (k := 2) rfl
 have H := H.toFront (k := 1) rfl
 exact H.retM (.inr ⟨_, _, _, _, _, _, Z, Z, hm2, hS2, hV2, hN4, hT4, hv4⟩)
end Go.Proofs.Tst

namespace Go.Proofs.Tst
open Go Fw Tryz
theorem i_snapAt_c (w0 : World) (G0 : PH) (hG : PSub G0 w0) (db : Nat) (m1 m2 v1 v2 vs : Value) (sn : List (Bs × Nd)) (hdk : PRow G0 db 0 [m1, m2, v1, v2, vs]) (hsn : RdS LIM osE 2 G0 vs sn) (nm : Bs) (hnm : nm.length ≤ 16777216)  :
  Calls Tryz.prog 117 #[.pointer (some ⟨db, 0, none⟩), str nm] w0 (Rets w0 (.int .i64 (Sp.optI (sn.findIdx? (fun x => decide (x.1 = nm)))))) := by
 obtain ⟨asn, ksn, rfl⟩ := hsn.shape; have hlimsn : sn.length ≤ 1099511627776 := hsn.lim
 have H := Hp.init hG
 refine calls_of_W (l := [.pointer (some ⟨db, 0, none⟩), str nm]) func117 Z ntmps117 Z (q2 (aG Z (q3 (W_seq (q2 (mV Z (o_nilCheck Z Z (o_fieldAddr 4 runUnderlying147 Z sizeOf145 Z Z Z (o_load_P H isAgg145 Z Z (hdk 4 _ Z) (o_len_slice underlying145 Z Z (mV Z (q3 (W_block ?_)))))))))))))
 refine W_lp (hf := (Sub.cons (t := 1) Z (Sub.cons (t := 10) Z (Sub.cons (t := 11) Z Sub.nil)))) (J := fun M w m => ∃ (k : Nat) (G : PH), M = [(12, .int .i64 (k : Int))] ∧ PLe G0 G ∧ Hp w0 G0 [] w G [] ∧ (k ≤ sn.length ∧ ∀ (j : Nat) (x : Bs × Nd), j < k → sn[j]? = some x → decide (x.1 = nm) = false) ∧ m = (sn.length - k)) (h0 := ⟨0, _, Z, PLe.refl _, H, ?inv, Z⟩) (round := ?round)
 case inv => exact ⟨by omega, fun j x hj => by omega⟩
 case round =>
  rintro _ w1 _ ⟨k, G1, rfl, hle1, H, hinv1, rfl⟩
  have hsn := hsn.up hle1
  obtain ⟨hk, hno⟩ := hinv1
  refine q2 (o_lss Z Z Z (q3 (W_seq ?_)))
  refine W_cond Z ?_ ?_
  ·intro hc2
   try simp only [nrm] at hc2
   refine W_skip (N_K (W_seq (W_block (q2 (mV Z (o_index_P k hsn underlying145 sizeOf151 Z Z Z Z aN ?_)))))); intro b3 o3 z3 q3 hz3 hE3 hrow3
   obtain ⟨rfl, hi3⟩ := hE3; have hy_hi3 : _ ≤ 16777216 := hi3
   refine o_loadagg_P H isAgg151 sizeOf151 Z Z hrow3 Z (o_alloc H zeroValue151 Z Z ?_); intro b4 w4 hb4 H
   refine aG Z (o_store_B 0 H sizeOf151 Z Z Z Z Z Z Z Z ?_); intro w5 H
   refine q1 (o_fieldAddr 0 runUnderlying151 Z sizeOf9 Z Z Z (o_load_B 0 H isAgg9 Z Z Z Z (mV Z (o_seql Z Z Z (q3 ?_)))))
   refine W_cond Z ?_ ?_
   ·intro hc6
    try simp only [nrm] at hc6
    refine q2 (mV Z (aG Z (q3 (W_ret (N_B_ret (N_K_ret (N_LP_ret (N_B_ret (N_K_ret (rt1 results117 Z ?_))))))))))
    exact H.rets (congrArg (Value.int .i64) (by rw [Sp.fidx_some (p := fun x : Bs × Nd => decide (x.1 = nm)) hno hz3 (by simpa using hc6)]; rfl))
   intro hc6'
   try simp only [nrm] at hc6'
   refine W_skip (N_B (N_K (W_region (o_add Z Z Z oO (mV Z (R_nil ?_))))))
   have H := H.del (k := 0) rfl
   refine N_lp (hJ := ⟨k + 1, _, Z, hle1, H, ?inv, Z⟩) (hm := ?hm)
   case hm => omega
   case inv => exact ⟨by omega, Sp.fidx_step hno hz3 (by simpa using hc6')⟩
  intro hc2'
  try simp only [nrm] at hc2'
  refine W_exit (N_K_exit (N_LP_exit (N_B_same (N_K (q2 (aG Z (q3 (W_ret (rt1 results117 Z ?_)))))))))
  exact H.rets (congrArg (Value.int .i64) (by rw [Sp.fidx_none (p := fun x : Bs × Nd => decide (x.1 = nm)) (fun j x hj => hno j x oM)]; rfl))
end Go.Proofs.Tst

namespace Go.Proofs.Tst
open Go Fw Tryz
theorem i_newDisk_c (w0 : World) (G0 : PH) (hG : PSub G0 w0) (cd : List Value) (d : BDisk) (hd : diskE G0 d cd) (hLent : Lent w0 G0 [])  :
  Calls Tryz.prog 89 #[.agg cd.toArray] w0 (RetM w0 G0 [] (fun G' v Bs => (v = .tuple #[.pointer none, .bool false] ∧ Bs = [] ∧ Sp.DiskValid d = false) ∨ (∃ (db mb : Nat) (es : Array MapEntry) (ck : Nat) (xs : List (Int × Value)) (T : Nd) (F : Fr) (sv : Value) (sn : List (Fw.Bs × Nd)) (c : List Value) (FSq : Fr), v = .tuple #[.pointer (some ⟨db, 0, none⟩), .bool true] ∧ Bs = [blk db (cl [.int .i32 0, .int .u32 0, .map (some mb), .pointer (some ⟨T.b, 0, none⟩), sv] 147), blk mb (.map es ck), frag F, acc 151 2 sv sn.length c, frag FSq] ∧ MapIs (Value.int .i64) es ck xs ∧ StR G' xs d.store ∧ NdO 166 93 G' T F ∧ Nd.TOK T d.tree ∧ Chk osE 2 G' c sn ∧ NdsO 166 93 G' (sn.map (·.2)) FSq ∧ SnOK sn d.snaps ∧ Sp.DiskValid d = true))) := by
 obtain ⟨a1, m1, c1, a1', m1', c1', a1'', m1'', c1'', rfl, hr1, hr1', hr1''⟩ := hd; have hn_hr1 := hr1.len; have hx_hr1 : _ ≤ 1099511627776 := hr1.lim; have hn_hr1q := hr1'.len; have hx_hr1q : _ ≤ 1099511627776 := hr1'.lim; have hn_hr1qq := hr1''.len; have hx_hr1qq : _ ≤ 1099511627776 := hr1''.lim
 have H : Hp w0 G0 [] w0 G0 [] := hLent.hp
 refine calls_of_W (l := [_]) func89 Z ntmps89 Z (q2 (o_box H Z Z Z ?_)); intro b2 w2 hb2 H
 refine aG Z (aG Z (q1 (o_fieldAddr 0 runUnderlying32 Z sizeOf28 Z Z Z (o_load_B 0 H isAgg28 Z Z Z Z (o_fieldAddr 1 runUnderlying32 Z sizeOf29 Z Z Z (o_load_B 0 H isAgg29 Z Z Z Z (o_call call129 Z Z (i_newVolume_c _ _ H.sub _ _ hr1 _ _ hr1' H.lent0 ) ?_)))))))
 rintro _ w3 ⟨G3, _, _, rfl, H3', ⟨rfl, rfl, hnv3⟩ | ⟨mb3, es3, ck3, xs3, T3, F3, rfl, rfl, hm3, hS3, hV3, hN3, hT3, hv3⟩⟩
 ·skip
  have H := H.borrow0 H3'
  refine ⟨_, Z, ?_⟩
  refine mV Z (o_extract Z Z Z (o_extract Z Z Z (o_alloc H zeroValue95 Z Z ?_))); intro b4 w4 hb4 H
  refine o_store_B 0 H sizeOf95 Z Z Z Z Z Z Z Z ?_; intro w5 H
  refine aG Z (q3 (W_seq (q2 (mV Z (o_not Z Z (mV Z (rP Z (rP Z (rP Z (rP Z (o_pick_t Z Z Z (q3 (W_true Z (q2 (aG Z ?_)))))))))))))))
  refine aG Z (q3 (W_ret (N_K_ret (rt2 results89 Z Z ?_))))
  have H := H.del (k := 0) rfl
  have H := H.del (k := 0) rfl
  exact H.retM (.inl ⟨rfl, rfl, Sp.dv_no (fun hh => by simp [hh.1, hh.2.1] at hnv3)⟩)
 skip
 have hr1'' := hr1''.up H3'.le
 have H := H.borrow0 H3'
 refine ⟨_, Z, ?_⟩
 refine mV Z (o_extract Z Z Z (o_extract Z Z Z (o_alloc H zeroValue95 Z Z ?_))); intro b6 w6 hb6 H
 refine o_store_B 0 H sizeOf95 Z Z Z Z Z Z Z Z ?_; intro w7 H
 refine aG Z (q3 (W_seq (q2 (mV Z (o_not Z Z (mV Z (gR Z (o_fieldAddr 2 runUnderlying32 Z sizeOf30 Z Z Z (gR Z (o_load_B 3 H isAgg30 Z Z Z Z (gR Z (o_len_slice underlying30 Z Z (gR Z (o_gtr Z Z Z (o_pick_f Z Z Z ?_)))))))))))))))
 refine q3 ?_
 refine W_cond Z ?_ ?_
 ·intro hc8
  try simp only [nrm] at hc8
  refine q2 (aG Z (aG Z (q3 (W_ret (N_K_ret (rt2 results89 Z Z ?_))))))
  have H := H.del (k := 0) rfl
  have H := H.del (k := 0) rfl
  have H := H.del (k := 0) rfl
  have H := H.del (k := 0) rfl
  exact H.retM (.inl ⟨rfl, rfl, Sp.dv_no (fun hh => by have := hh.2.2.1; omega)⟩)
 intro hc8'
 try simp only [nrm] at hc8'
 refine W_skip (N_K (q2 (o_loadagg_B 0 H isAgg95 sizeOf95 Z Z Z Z Z (o_build bf147 Z Z Z (o_box H Z Z Z ?_))))); intro b9 w9 hb9 H
 refine aG Z (q1 (o_fieldAddr 1 runUnderlying95 Z sizeOf93 Z Z Z (o_load_B 1 H isAgg93 Z Z Z Z (o_buildSlice H underlying162 sizeOf93 (fun w => ⟨_, zeroValue93 w, Z⟩) Z Z Z Z Z Z Z ?_)))); intro b10 w10 hb10 H
 refine aG Z (q3 (W_seq (q2 (o_fieldAddr 2 runUnderlying32 Z sizeOf30 Z Z Z (o_load_B 5 H isAgg30 Z Z Z Z (o_len_slice underlying30 Z Z (mV Z (q3 (W_block ?_)))))))))
 have H := H.blkAcc 1 (k := 0) (n := 1) rfl rfl (by decide)
 have H := H.addF
 have H := H.addNil 151 2
 obtain ⟨ln12, hln12, H⟩ := H.nameAt (k := 3) (off := 4) rfl rfl
 obtain ⟨ln13, hln13, H⟩ := H.name (k := 4) rfl
 obtain ⟨ln14, hln14, H⟩ := H.name (k := 7) rfl
 refine W_lp (hf := (Sub.cons (t := 4) Z (Sub.cons (t := 6) Z (Sub.cons (t := 35) Z (Sub.cons (t := 36) Z Sub.nil))))) (J := fun M w m => ∃ (v : Value) (n : Nat) (cs : List Value) (xs : List (Bs × Nd)) (v1 : Value) (n1 : Nat) (cs1 : List Value) (xs1 : List (Nd)) (k : Nat) (FSq : Fr) (G : PH), M = [(37, .int .i64 (k : Int)), (7, v1)] ∧ PLe G3 G ∧ Hp w0 G0 [] w G [acc 151 2 v n cs, frag FSq, acc 93 1 v1 n1 cs1, blk b9 (cl (setN ln12 4 v) 147), blk b6 (cl ln13 95), blk mb3 (.map es3 ck3), frag F3, blk b2 (cl ln14 32)] ∧ (Chk osE 2 G cs xs ∧ n = xs.length ∧ Chk kdE 1 G cs1 xs1 ∧ n1 = xs1.length ∧ k ≤ d.snaps.length ∧ xs1 = T3 :: xs.map (·.2) ∧ NdsO 166 93 G (xs.map (·.2)) FSq ∧ SnOK xs (d.snaps.take k) ∧ ∀ (j : Nat) (s : BSnap), j < k → d.snaps[j]? = some s → Sp.l1Word s.name = true ∧ (j : Int) ≤ Sp.l12At d.snaps s.name) ∧ m = (d.snaps.length - k)) (h0 := ⟨_, _, _, [], _, _, _, [T3], 0, [], _, Z, PLe.refl _, H, ?inv, Z⟩) (round := ?round)
 case inv => exact ⟨(Chk.nil (E := osE) (sz := 2) (G := G3)), (by first | rfl | simp | (simp; omega) | omega), (chkK [T3]),  by first | rfl | simp | (simp; omega) | omega, (by exact ⟨by omega, rfl, by simp [NdsO], .nil, fun j s hj => by omega⟩)⟩
 case round =>
  rintro _ w15 _ ⟨v, n, cs, xs, v1, n1, cs1, xs1, k, FSq, G15, rfl, hle15, H, hinv15, rfl⟩
  subst hln12
  subst hln13
  subst hln14
  have hr1'' := hr1''.up hle15
  have hS3 := hS3.up hle15
  have hN3 := hN3.up hle15
  obtain ⟨hchk15_0, hn15_0, hinv15⟩ := hinv15
  obtain ⟨av15_0, cv15_0, rfl⟩ := H.accShape (k := 0) rfl
  obtain ⟨hchk15_1, hn15_1, hinv15⟩ := hinv15
  obtain ⟨av15_1, cv15_1, rfl⟩ := H.accShape (k := 2) rfl
  obtain ⟨hk, hx1, hNs, hSn, hw⟩ := hinv15; have hsl := hSn.len; have hxl6 : xs.length ≤ 6 := (by simp at hsl; omega); have hx1l : xs1.length = xs.length + 1 := by simp [hx1]
  refine q2 (o_lss Z Z Z (q3 (W_seq ?_)))
  refine W_cond Z ?_ ?_
  ·intro hc16
   try simp only [nrm] at hc16
   refine W_skip (N_K (W_seq (W_block (q2 (o_index_P k hr1'' underlying30 sizeOf58 Z Z Z Z aN ?_))))); intro b17 o17 z17 q17 hz17 hE17 hrow17
   obtain ⟨a17, m17, c17, rfl, hi17, hr17⟩ := hE17; have hy_hi17 : _ ≤ 16777216 := hi17; have hn_hr17 := hr17.len; have hx_hr17 : _ ≤ 1099511627776 := hr17.lim
   refine o_loadagg_P H isAgg58 sizeOf58 Z Z hrow17 Z (o_alloc H zeroValue58 Z Z ?_); intro b18 w18 hb18 H
   refine o_store_B 0 H sizeOf58 Z Z Z Z Z Z Z Z ?_; intro w19 H
   refine q1 (o_fieldAddr 1 runUnderlying58 Z sizeOf29 Z Z Z (o_load_B 0 H isAgg29 Z Z Z Z (o_call call147 Z Z (i_openTree_c _ _ H.sub _ _ hr17 H.lent0 ) ?_)))
   rintro _ w20 ⟨G20, _, _, rfl, H20', ⟨rfl, rfl, hv20⟩ | ⟨T20, F20, rfl, rfl, hN20, hT20, hv20⟩⟩
   ·skip
    have H := H.borrow0 H20'
    refine ⟨_, Z, ?_⟩
    refine mV Z (o_extract Z Z Z (o_extract Z Z Z (aG Z (aG Z (q3 (W_seq (q2 (mV Z (o_not Z Z (mV Z (rP Z (rP Z (rP Z (rP Z (o_pick_t Z Z Z ?_)))))))))))))))
    refine mV Z (rP Z (rP Z (rP Z (rP Z (rP Z (o_pick_t Z Z Z (q3 (W_true Z (q2 (aG Z (aG Z (q3 (W_ret (N_K_ret (N_B_ret ?_)))))))))))))))
    refine N_K_ret (N_LP_ret (N_B_ret (N_K_ret (rt2 results89 Z Z ?_))))
    have H := H.del (k := 0) rfl
    have H := H.del (k := 0) rfl
    have H := H.del (k := 0) rfl
    have H := H.del (k := 0) rfl
    have H := H.del (k := 0) rfl
    have H := H.del (k := 0) rfl
    have H := H.del (k := 0) rfl
    have H := H.del (k := 0) rfl
    have H := H.del (k := 0) rfl
    exact H.retM (.inl ⟨rfl, rfl, Sp.dv_no (fun hh => by (rw [(hh.2.2.2 k _ hz17).2.2] at hv20); cases hv20)⟩)
   skip
   have hchk15_0 := hchk15_0.up H20'.le
   have hchk15_1 := hchk15_1.up H20'.le
   have hNs := hNs.up H20'.le
   have hle15 := hle15.trans H20'.le
   have H := H.borrow0 H20'
   refine ⟨_, Z, ?_⟩
   refine mV Z (o_extract Z Z Z (o_extract Z Z Z (aG Z (aG Z (q3 (W_seq (q2 (mV Z (o_not Z Z (mV Z (gR Z (o_fieldAddr 0 runUnderlying58 Z sizeOf9 Z Z Z (gR Z (o_load_B 1 H isAgg9 Z Z Z Z (gR Z ?_)))))))))))))))
   refine o_call call141 Z Z (i_partValid_c _ _ hi17 ) ?_
   rintro _ w21 ⟨rfl, ew21⟩; have H := H.step ew21; refine ⟨_, rfl, ?_⟩
   refine gR Z (o_not Z Z (o_pick_f Z Z Z (mV Z ?_)))
   refine R_case (t := 55) Z ?_ ?_
   ·intro hc22
    try simp only [nrm] at hc22
    refine rP Z (rP Z (rP Z (rP Z (rP Z (o_pick_t Z Z Z (q3 (W_true Z (q2 (aG Z (aG Z (q3 (W_ret (N_K_ret (N_B_ret (N_K_ret ?_)))))))))))))))
    refine N_LP_ret (N_B_ret (N_K_ret (rt2 results89 Z Z ?_)))
    have H := H.del (k := 0) rfl
    have H := H.del (k := 0) rfl
    have H := H.del (k := 0) rfl
    have H := H.del (k := 0) rfl
    have H := H.del (k := 0) rfl
    have H := H.del (k := 0) rfl
    have H := H.del (k := 0) rfl
    have H := H.del (k := 0) rfl
    have H := H.del (k := 0) rfl
    have H := H.del (k := 0) rfl
    exact H.retM (.inl ⟨rfl, rfl, Sp.dv_no (fun hh => by have h9 := (hh.2.2.2 k _ hz17).1; simp_all)⟩)
   intro hc22'
   try simp only [nrm] at hc22'
   refine gR Z (mV Z (gR Z (o_fieldAddr 0 runUnderlying58 Z sizeOf9 Z Z Z (gR Z (o_load_B 1 H isAgg9 Z Z Z Z (gR Z (o_call call117 Z Z (i_snapAt_c _ _ (H.lendSubL [2, 5]) _ _ _ _ _ _ _ (prow_blk (H.lendPredL (k := 5) (ks := [2, 5]) Z Z)) (H.lendRdL (k := 2) (ks := [2, 5]) Z Z hchk15_0 aN aN) _ hi17 ) ?_)))))))
   rintro _ w23 ⟨rfl, ew23⟩; have H := H.step ew23; refine ⟨_, rfl, ?_⟩
   refine gR Z (o_geq Z Z Z (o_pick_f Z Z Z (q3 ?_)))
   refine W_cond Z ?_ ?_
   ·intro hc24
    try simp only [nrm] at hc24
    refine q2 (aG Z (aG Z (q3 (W_ret (N_K_ret (N_B_ret (N_K_ret (N_LP_ret (N_B_ret (N_K_ret (rt2 results89 Z Z ?_)))))))))))
    have H := H.del (k := 0) rfl
    have H := H.del (k := 0) rfl
    have H := H.del (k := 0) rfl
    have H := H.del (k := 0) rfl
    have H := H.del (k := 0) rfl
    have H := H.del (k := 0) rfl
    have H := H.del (k := 0) rfl
    have H := H.del (k := 0) rfl
    have H := H.del (k := 0) rfl
    have H := H.del (k := 0) rfl
    exact H.retM (.inl ⟨rfl, rfl, Sp.dv_no (fun hh => by have h9 := (Sp.at_take hz17).1 (hh.2.2.2 k _ hz17).2.1; (rw [← Sp.sn_find hSn] at h9); omega)⟩)
   intro hc24'
   try simp only [nrm] at hc24'
   refine W_skip (N_K (W_seq (W_drawK [1, 6, 9] 14 H kR Z ?_))); intro w25 H; have hd25 := PLe.refl G20
   refine vM 0 Z Z (vM 1 Z Z (RD_t 2 Z kR Z (fun _ hK => v_nilCheck Z) (RD_t 3 Z kR Z (fun _ hK => v_fieldAddr 4 runUnderlying147 Z sizeOf145 Z Z) (RD_t 5 Z kR Z (fun _ hK => v_fieldAddr 0 runUnderlying58 Z sizeOf9 Z Z) (RD_t 6 Z kR Z (fun _ hK => v_load_B 0 hK isAgg9 Z Z Z) (vM 7 Z Z (RD_t 8 Z kR Z (fun _ hK => v_build bf151 Z Z) ?_)))))))
   refine RD_run [4, 9] kR Z (RDs.cons Z ?_ (RDs.cons Z ?_ RDs.nil))
   ·skip
    refine o_load_B 5 H isAgg145 Z Z Z Z (R_nil (N_DK (Kn.of' H hd25 (SubL.cons 1 Z (SubL.cons 6 Z (SubL.cons 9 Z SubL.nil)))) ?_))
    refine RD_run [9] kR Z (RDs.cons Z ?_ RDs.nil)
    refine o_buildSlice H underlying145 sizeOf151 (fun w => ⟨_, zeroValue151 w, Z⟩) Z Z Z Z Z Z Z ?_; intro b26 w26 hb26 H
    refine R_nil (N_DK (Kn.of' H hd25 (SubL.cons 2 Z (SubL.cons 7 Z (SubL.cons 10 Z SubL.nil)))) ?_)
    refine RD_run [10] kR Z (RDs.cons Z ?_ RDs.nil)
    refine o_append1 2 H (sz := 2) (bytes := 24) underlying145 typeInfo151 ⟨_, Z, Z⟩ Z Z Z Z Z Z Z Z Z Z oM Z ?_; intro v27 w27 H
    have hchk27 := hchk15_0.snoc (show osE _ (z17.name, T20) _ from ⟨rfl, hi17⟩) rfl
    obtain ⟨av27, cv27, rfl⟩ := H.accShape (k := 2) rfl
    refine R_nil (N_DK (Kn.of' H hd25 (SubL.cons 1 Z (SubL.cons 6 Z (SubL.cons 9 Z SubL.nil)))) (RD_t 11 Z kR Z (fun _ hK => v_nilCheck Z) (RD_t 12 Z kR Z (fun _ hK => v_fieldAddr 4 runUnderlying147 Z sizeOf145 Z Z) ?_)))
    refine RD_run [13] kR Z (RDs.cons Z ?_ RDs.nil)
    have H := H.toFront (k := 3) rfl
    have H := H.mergeF
    refine o_store_B 4 H sizeOf145 Z Z Z Z Z Z Z Z ?_; intro w28 H
    refine R_nil (N_DK (Kn.of' H hd25 (SubL.cons 1 Z (SubL.cons 5 Z (SubL.cons 8 Z SubL.nil)))) (RD_done kR (N_K (W_region (mV Z (mV Z (o_buildSlice H underlying162 sizeOf93 (fun w => ⟨_, zeroValue93 w, Z⟩) Z Z Z Z Z Z Z ?_))))))); intro b29 w29 hb29 H
    refine o_append1 3 H (sz := 1) (bytes := 8) underlying162 typeInfo93 ⟨_, Z, Z⟩ Z Z Z Z Z Z Z Z Z Z oM Z ?_; intro v30 w30 H
    have hchk30 := hchk15_1.snoc (show kdE _ T20 _ from rfl) rfl
    obtain ⟨av30, cv30, rfl⟩ := H.accShape (k := 3) rfl
    refine aG Z (R_nil (N_B (N_K (W_region (o_add Z Z Z oO (mV Z (R_nil ?_)))))))
    have H := H.del (k := 1) rfl
    have H := H.toFront (k := 7) rfl
    have H := H.toFront (k := 7) rfl
    have H := H.toFront (k := 7) rfl
    have H := H.toFront (k := 7) rfl
    have H := H.toFront (k := 7) rfl
    have H := H.toFront (k := 7) rfl
    have H := H.toFront (k := 6) rfl
    have H := H.toFront (k := 7) rfl
    refine N_lp (hJ := ⟨_, _, _, (xs ++ [(z17.name, T20)]), _, _, _, (xs1 ++ [T20]), k + 1, (FSq ++ F20), _, Z, hle15, H, ?inv, Z⟩) (hm := ?hm)
    case hm => omega
    case inv => exact ⟨hchk27, aN, hchk30, aN, (by exact ⟨by omega, by simp [hx1], by simpa using hNs.snoc hN20, hSn.snoc2 hz17 rfl hT20 hv20, names_step hw hz17 (by simpa using hc22') hSn oM⟩)⟩
   skip
   refine o_buildSlice H underlying145 sizeOf151 (fun w => ⟨_, zeroValue151 w, Z⟩) Z Z Z Z Z Z Z ?_; intro b32 w32 hb32 H
   refine R_nil (N_DK (Kn.of' H hd25 (SubL.cons 2 Z (SubL.cons 7 Z (SubL.cons 10 Z SubL.nil)))) ?_)
   refine RD_run [4] kR Z (RDs.cons Z ?_ RDs.nil)
   refine o_load_B 6 H isAgg145 Z Z Z Z (R_nil (N_DK (Kn.of' H hd25 (SubL.cons 2 Z (SubL.cons 7 Z (SubL.cons 10 Z SubL.nil)))) ?_))
   refine RD_run [10] kR Z (RDs.cons Z ?_ RDs.nil)
   refine o_append1 2 H (sz := 2) (bytes := 24) underlying145 typeInfo151 ⟨_, Z, Z⟩ Z Z Z Z Z Z Z Z Z Z oM Z ?_; intro v33 w33 H
   have hchk33 := hchk15_0.snoc (show osE _ (z17.name, T20) _ from ⟨rfl, hi17⟩) rfl
   obtain ⟨av33, cv33, rfl⟩ := H.accShape (k := 2) rfl
   refine R_nil (N_DK (Kn.of' H hd25 (SubL.cons 1 Z (SubL.cons 6 Z (SubL.cons 9 Z SubL.nil)))) (RD_t 11 Z kR Z (fun _ hK => v_nilCheck Z) (RD_t 12 Z kR Z (fun _ hK => v_fieldAddr 4 runUnderlying147 Z sizeOf145 Z Z) ?_)))
   refine RD_run [13] kR Z (RDs.cons Z ?_ RDs.nil)
   have H := H.toFront (k := 3) rfl
   have H := H.mergeF
   refine o_store_B 4 H sizeOf145 Z Z Z Z Z Z Z Z ?_; intro w34 H
   refine R_nil (N_DK (Kn.of' H hd25 (SubL.cons 1 Z (SubL.cons 5 Z (SubL.cons 8 Z SubL.nil)))) (RD_done kR (N_K (W_region (mV Z (mV Z (o_buildSlice H underlying162 sizeOf93 (fun w => ⟨_, zeroValue93 w, Z⟩) Z Z Z Z Z Z Z ?_))))))); intro b35 w35 hb35 H
   refine o_append1 3 H (sz := 1) (bytes := 8) underlying162 typeInfo93 ⟨_, Z, Z⟩ Z Z Z Z Z Z Z Z Z Z oM Z ?_; intro v36 w36 H
   have hchk36 := hchk15_1.snoc (show kdE _ T20 _ from rfl) rfl
   obtain ⟨av36, cv36, rfl⟩ := H.accShape (k := 3) rfl
   refine aG Z (R_nil (N_B (N_K (W_region (o_add Z Z Z oO (mV Z (R_nil ?_)))))))
   have H := H.del (k := 1) rfl
   have H := H.toFront (k := 7) rfl
   have H := H.toFront (k := 7) rfl
   have H := H.toFront (k := 7) rfl
   have H := H.toFront (k := 7) rfl
   have H := H.toFront (k := 7) rfl
   have H := H.toFront (k := 7) rfl
   have H := H.toFront (k := 6) rfl
   have H := H.toFront (k := 7) rfl
   refine N_lp (hJ := ⟨_, _, _, (xs ++ [(z17.name, T20)]), _, _, _, (xs1 ++ [T20]), k + 1, (FSq ++ F20), _, Z, hle15, H, ?inv, Z⟩) (hm := ?hm)
   case hm => omega
   case inv => exact ⟨hchk33, aN, hchk36, aN, (by exact ⟨by omega, by simp [hx1], by simpa using hNs.snoc hN20, hSn.snoc2 hz17 rfl hT20 hv20, names_step hw hz17 (by simpa using hc22') hSn oM⟩)⟩
  intro hc16'
  try simp only [nrm] at hc16'
  refine W_exit (N_K_exit (N_LP_exit (N_B_same (N_K (W_seq (q2 (o_fieldAddr 0 runUnderlying95 Z sizeOf92 Z Z Z (o_load_B 4 H isAgg92 Z Z Z Z (mV Z ?_)))))))))
  refine o_call call130 Z Z (i_usedBy_c _ _ (H.lendSubL [1, 2, 5, 6]) _ _ _ _ _ (H.lendPredL (k := 5) (ks := [1, 2, 5, 6]) Z Z) hm3 (hS3.up (PPlus.le _ _ _)) hV3 _ _ (RdS.withN (H.lendRdL (k := 2) (ks := [1, 2, 5, 6]) Z Z hchk15_1 aN aN) (fun t ht => by (rw [hx1] at ht); rcases List.mem_cons.1 ht with rfl | ht; (· exact H.lendN (k := 6) rfl rfl hN3); (· exact H.lendNs (k := 1) rfl rfl hNs t ht))) oM (fun t ht => by (rw [hx1] at ht); rcases List.mem_cons.1 ht with rfl | ht; (· exact ⟨hT3.wf, by have := hT3.cnt; have := Sp.tree_len hv3; omega⟩); (· exact sn_ok hSn t ht))) ?_
  rintro _ w38 ⟨rfl, ew38⟩; have H := H.step ew38; refine ⟨_, rfl, ?_⟩
  refine o_not Z Z (q3 ?_)
  refine W_cond Z ?_ ?_
  ·intro hc39
   try simp only [nrm] at hc39
   refine q2 (aG Z (aG Z (q3 (W_ret (N_K_ret (rt2 results89 Z Z ?_))))))
   have H := H.del (k := 0) rfl
   have H := H.del (k := 0) rfl
   have H := H.del (k := 0) rfl
   have H := H.del (k := 0) rfl
   have H := H.del (k := 0) rfl
   have H := H.del (k := 0) rfl
   have H := H.del (k := 0) rfl
   have H := H.del (k := 0) rfl
   have hkk : k = d.snaps.length := by omega
   have hSnf : SnOK xs d.snaps := by (rw [hkk, List.take_length] at hSn; exact hSn)
   have hwf : ∀ (j : Nat) (s : BSnap), d.snaps[j]? = some s → Sp.l1Word s.name = true ∧ (j : Int) ≤ Sp.l12At d.snaps s.name := fun j s hs => hw j s (by have := (List.getElem?_eq_some_iff.1 hs).1; omega) hs
   exact H.retM (.inl ⟨rfl, rfl, (by (rw [Sp.dv_use (Sp.valid_iff.2 hV3) hT3 oM hSnf hwf, ← hx1]; unfold Sp.useOK; rw [Bool.and_eq_false_iff]; exact hc39))⟩)
  intro hc39'
  try simp only [nrm] at hc39'
  refine W_skip (N_K (q2 (mV Z (aG Z (aG Z (q3 (W_ret (rt2 results89 Z Z ?_))))))))
  have H := H.del (k := 2) rfl
  have H := H.del (k := 3) rfl
  have H := H.del (k := 5) rfl
  have H := H.toFront (k := 1) rfl
  have H := H.toFront (k := 1) rfl
  have H := H.toFront (k := 4) rfl
  have H := H.toFront (k := 4) rfl
  have H := H.toFront (k := 4) rfl
  have hkk : k = d.snaps.length := by omega
  have hSnf : SnOK xs d.snaps := by (rw [hkk, List.take_length] at hSn; exact hSn)
  have hwf : ∀ (j : Nat) (s : BSnap), d.snaps[j]? = some s → Sp.l1Word s.name = true ∧ (j : Int) ≤ Sp.l12At d.snaps s.name := fun j s hs => hw j s (by have := (List.getElem?_eq_some_iff.1 hs).1; omega) hs
  have hdv : Sp.DiskValid d = true := by (rw [Sp.dv_use (Sp.valid_iff.2 hV3) hT3 oM hSnf hwf, ← hx1]; unfold Sp.useOK; simpa using hc39')
  obtain rfl : n = xs.length := by assumption
  exact H.retM (.inr ⟨_, _, _, _, _, _, _, _, xs, _, _, Z, Z, hm3, hS3, hN3, hT3, hchk15_0, hNs, hSnf, hdv⟩)
end Go.Proofs.Tst

namespace Go.Proofs.Tst
open Go
abbrev muLink : Go.Conc.Locks.MuLink := { lock := 115, unlock := 116, ilock := 159, iunlock := 160, lockSlow := 189, unlockSlow := 192, disable := 185, enable := 187, acquire := 188, relMerge := 190, cas32 := 186, add32 := 191, tMutex := 144, tIMutex := 142, tPMutex := 185, tPIMutex := 213, tPI32 := 215, tUP := 217, tNoCopy := 139, tU32 := 140 }
theorem muLib : Go.Conc.Locks.MuLib Tryz.prog muLink where
 f_lock := by kernel_rfl
 f_unlock := by kernel_rfl
 f_ilock := by kernel_rfl
 f_iunlock := by kernel_rfl
 f_disable := by kernel_rfl
 f_enable := by kernel_rfl
 f_acquire := by kernel_rfl
 f_relMerge := by kernel_rfl
 f_cas32 := by kernel_rfl
 f_add32 := by kernel_rfl
 underlying_tIMutex := Tryz.underlying142
 runUnderlying_tIMutex := Tryz.runUnderlying142
 sizeOf_tIMutex := Tryz.sizeOf142
 isAgg_tIMutex := Tryz.isAgg142
 zeroValue_tIMutex := Tryz.zeroValue142
 underlying_tMutex := Tryz.underlying144
 runUnderlying_tMutex := Tryz.runUnderlying144
 sizeOf_tMutex := Tryz.sizeOf144
 isAgg_tMutex := Tryz.isAgg144
 zeroValue_tMutex := Tryz.zeroValue144
 underlying_tPMutex := Tryz.underlying185
 runUnderlying_tPMutex := Tryz.runUnderlying185
 sizeOf_tPMutex := Tryz.sizeOf185
 isAgg_tPMutex := Tryz.isAgg185
 zeroValue_tPMutex := Tryz.zeroValue185
 underlying_tPIMutex := Tryz.underlying213
 runUnderlying_tPIMutex := Tryz.runUnderlying213
 sizeOf_tPIMutex := Tryz.sizeOf213
 isAgg_tPIMutex := Tryz.isAgg213
 zeroValue_tPIMutex := Tryz.zeroValue213
 underlying_tPI32 := Tryz.underlying215
 runUnderlying_tPI32 := Tryz.runUnderlying215
 sizeOf_tPI32 := Tryz.sizeOf215
 isAgg_tPI32 := Tryz.isAgg215
 zeroValue_tPI32 := Tryz.zeroValue215
 underlying_tUP := Tryz.underlying217
 runUnderlying_tUP := Tryz.runUnderlying217
 sizeOf_tUP := Tryz.sizeOf217
 isAgg_tUP := Tryz.isAgg217
 zeroValue_tUP := Tryz.zeroValue217
 underlying_tNoCopy := Tryz.underlying139
 runUnderlying_tNoCopy := Tryz.runUnderlying139
 sizeOf_tNoCopy := Tryz.sizeOf139
 isAgg_tNoCopy := Tryz.isAgg139
 zeroValue_tNoCopy := Tryz.zeroValue139
 underlying_t21 := Tryz.underlying21
 runUnderlying_t21 := Tryz.runUnderlying21
 sizeOf_t21 := Tryz.sizeOf21
 isAgg_t21 := Tryz.isAgg21
 zeroValue_t21 := Tryz.zeroValue21
 room_tIMutex := by kernel_rfl
end Go.Proofs.Tst

namespace Go.Proofs.Tst
open Go Fw Tryz
theorem i_disk_c (w0 : World) (G0 : PH) (hG : PSub G0 w0) (db mb : Nat) (es : Array MapEntry) (ck : Nat) (xs : List (Int × Value)) (T : Nd) (FT : Fr) (sv : Value) (sn : List (Bs × Nd)) (c : List Value) (FSq : Fr) (d : BDisk) (hm : MapIs (Value.int .i64) es ck xs) (hS : StR G0 xs d.store) (hN : NdO 166 93 G0 T FT) (hT : Nd.TOK T d.tree) (hchk : Chk osE 2 G0 c sn) (hNs : NdsO 166 93 G0 (sn.map (·.2)) FSq) (hSn : SnOK sn d.snaps) (hVd : Sp.VH d.store) (hs6 : d.snaps.length ≤ 6) (hLent : Lent w0 G0 [blk db (cl [.int .i32 0, .int .u32 0, .map (some mb), .pointer (some ⟨T.b, 0, none⟩), sv] 147), blk mb (.map es ck), frag FT, acc 151 2 sv sn.length c, frag FSq])  :
  Calls Tryz.prog 114 #[.pointer (some ⟨db, 0, none⟩)] w0 (RetM w0 G0 (fps [blk db (cl [.int .i32 0, .int .u32 0, .map (some mb), .pointer (some ⟨T.b, 0, none⟩), sv] 147), blk mb (.map es ck), frag FT, acc 151 2 sv sn.length c, frag FSq]) (fun G' v Bs => ∃ (v1 v2 v3 : Value) (F1 F2 F3 : Fr), v = .agg #[v1, v2, v3] ∧ Bs = [frag F1, frag F2, frag F3] ∧ OHs F1 v1 d.store ∧ OIs F2 v2 d.tree ∧ OSn F3 v3 d.snaps)) := by
 have H : Hp w0 G0 (fps [blk db (cl [.int .i32 0, .int .u32 0, .map (some mb), .pointer (some ⟨T.b, 0, none⟩), sv] 147), blk mb (.map es ck), frag FT, acc 151 2 sv sn.length c, frag FSq]) w0 G0 [blk db (cl [.int .i32 0, .int .u32 0, .map (some mb), .pointer (some ⟨T.b, 0, none⟩), sv] 147), blk mb (.map es ck), frag FT, acc 151 2 sv sn.length c, frag FSq] := hLent.hp
 obtain ⟨adv, cdv, rfl⟩ := H.accShape (k := 3) rfl; have hTv := hT.valid; have hTc := hT.cnt; have hTl := Sp.tree_len hTv; have hsnl := hSn.len; have hxa := H.accShape (k := 3) rfl
 refine calls_of_WD (l := [.pointer (some ⟨db, 0, none⟩)]) func114 Z ntmps114 Z (q2 (o_alloc H zeroValue32 Z Z ?_)); intro b1 w1 hb1 H
 refine q1 (mV Z (o_nilCheck Z Z (o_fieldAddr 0 runUnderlying147 Z sizeOf144 Z Z Z (o_lock 1 H muLib Z call115 Z Z Z Z ?_)))); intro w2 H
 refine q1 (mV Z (o_nilCheck Z Z (o_fieldAddr 0 runUnderlying147 Z sizeOf144 Z Z Z (o_defer Z (q3 (W_seq (W_drawK [0, 1] 15 H kR Z ?_))))))); intro w3 H; have hd3 := PLe.refl G0
 refine vM 0 Z Z (RD_t 1 Z kR Z (fun _ hK => v_nilCheck Z) (RD_t 2 Z kR Z (fun _ hK => v_fieldAddr 2 runUnderlying147 Z sizeOf95 Z Z) (RD_t 3 Z kR Z (fun _ hK => v_fieldAddr 0 runUnderlying95 Z sizeOf92 Z Z) (RD_t 4 Z kR Z (fun _ hK => v_load_B 1 hK isAgg92 Z Z Z) (vM 6 Z Z (RD_t 7 Z kR Z (fun _ hK => v_nilCheck Z) (RD_t 8 Z kR Z (fun _ hK => v_fieldAddr 2 runUnderlying147 Z sizeOf95 Z Z) (RD_t 9 Z kR Z (fun _ hK => v_fieldAddr 1 runUnderlying95 Z sizeOf93 Z Z) (RD_t 10 Z kR Z (fun _ hK => v_load_B 1 hK isAgg93 Z Z Z) ?_)))))))))
 refine RD_run [5, 13] kR Z (RDs.cons Z ?_ (RDs.cons Z ?_ RDs.nil))
 ·skip
  refine o_call call137 Z Z (i_slist_c _ _ (H.lendSubL [2]) _ _ _ _ _ (H.lendPredL (k := 2) (ks := [2]) Z Z) hm (hS.up (PPlus.le _ _ _)) hVd ) ?_
  rintro _ w4 ⟨_, _, rfl, H4', ⟨F4, rfl, hO4⟩⟩
  have H := H.readersL H4'
  obtain ⟨e24, hP4⟩ := hO4
  obtain ⟨sa4, sc4, rfl⟩ := OwnS.shape hP4
  have hO4 := OHs.mk hP4
  refine ⟨_, Z, ?_⟩
  refine R_nil (N_DK (Kn.of' H hd3 (SubL.cons 1 Z (SubL.cons 2 Z SubL.nil))) ?_)
  refine RD_run [11, 13] kR Z (RDs.cons Z ?_ (RDs.cons Z ?_ RDs.nil))
  ·skip
   refine o_call call138 Z Z (i_tlist_c _ _ (H.lendSubL [4]) _ ((H.lendN (k := 4) (ks := [4]) Z Z hN).at (show Nd.at_ T [] = some T from Z)) hT.wf oM) ?_
   rintro _ w5 ⟨_, _, rfl, H5', ⟨F5, rfl, hO5⟩⟩
   have H := H.readersL H5'
   obtain ⟨e25, hP5⟩ := hO5
   obtain ⟨sa5, sc5, rfl⟩ := OwnS.shape hP5
   have hO5 := OIs.mk hP5
   refine ⟨_, Z, ?_⟩
   refine R_nil (N_DK (Kn.of' H hd3 (SubL.cons 2 Z (SubL.cons 3 Z SubL.nil))) (RD_t 12 Z kR Z (fun _ hK => v_build bf32 Z Z) ?_))
   refine RD_run [13] kR Z (RDs.cons Z ?_ RDs.nil)
   refine o_alloc H zeroValue32 Z Z ?_; intro b6 w6 hb6 H
   refine R_nil (N_DK (Kn.of' H hd3 (SubL.cons 3 Z (SubL.cons 4 Z SubL.nil))) ?_)
   refine RD_run [14] kR Z (RDs.cons Z ?_ RDs.nil)
   refine o_store_B 0 H sizeOf32 Z Z Z Z Z Z Z Z ?_; intro w7 H
   refine R_nil (N_DKlast kR kR (N_K (W_seq (q2 (mV Z (o_nilCheck Z Z (o_fieldAddr 4 runUnderlying147 Z sizeOf145 Z Z Z (o_load_B 4 H isAgg145 Z Z Z Z (o_len_slice underlying145 Z Z (mV Z (q3 (W_block ?_))))))))))))
   have H := H.addNil 58 2
   have H := H.addF
   obtain ⟨ln9, hln9, H⟩ := H.nameAt (k := 2) (off := 2) rfl rfl
   obtain ⟨ln10, hln10, H⟩ := H.name (k := 5) rfl
   obtain ⟨ln11, hln11, H⟩ := H.name (k := 6) rfl
   refine W_lp (hf := (Sub.cons (t := 2) Z (Sub.cons (t := 3) Z (Sub.cons (t := 29) Z (Sub.cons (t := 30) Z Sub.nil))))) (J := fun M w m => ∃ (v : Value) (n : Nat) (cs : List Value) (xs : List (BSnap)) (F : Fr) (k : Nat) (G : PH), M = [(31, .int .i64 (k : Int))] ∧ PLe G0 G ∧ Hp w0 G0 (fps [blk db (cl [.int .i32 0, .int .u32 0, .map (some mb), .pointer (some ⟨T.b, 0, none⟩), .slice adv sn.length cdv] 147), blk mb (.map es ck), frag FT, acc 151 2 (.slice adv sn.length cdv) sn.length c, frag FSq]) w G [frag F, acc 58 2 v n cs, blk b6 (cl (setN ln9 2 v) 32), frag F5, frag F4, blk b1 (cl ln10 32), blk db (cl ln11 147), blk mb (.map es ck), frag FT, acc 151 2 (.slice adv sn.length cdv) sn.length c, frag FSq] ∧ (ChkF snapO 2 cs xs F ∧ n = xs.length ∧ k ≤ sn.length ∧ xs = (sn.take k).map (fun x => (⟨x.1, x.2.flat []⟩ : BSnap))) ∧ m = (sn.length - k)) (h0 := ⟨_, _, _, [], [], 0, _, Z, PLe.refl _, H, ?inv, Z⟩) (round := ?round)
   case inv => exact ⟨ChkF.nil,  by first | rfl | simp | (simp; omega) | omega, (by simp)⟩
   case round =>
    rintro _ w12 _ ⟨v, n, cs, xs, F, k, G12, rfl, hle12, H, hinv12, rfl⟩
    subst hln9
    subst hln10
    subst hln11
    have hchk := hchk.up hle12
    have hNs := hNs.up hle12
    obtain ⟨hchk12_0, hn12_0, hinv12⟩ := hinv12
    obtain ⟨av12_0, cv12_0, rfl⟩ := H.accShape (k := 1) rfl
    obtain ⟨hk, hxs⟩ := hinv12; have hxl6 : xs.length ≤ 6 := by (rw [hxs]; simp; omega)
    refine q2 (o_lss Z Z Z (q3 (W_seq ?_)))
    refine W_cond Z ?_ ?_
    ·intro hc13
     try simp only [nrm] at hc13
     refine W_skip (N_K (W_seq (W_block (q2 (o_index_A 9 H k Z hchk underlying145 sizeOf151 Z Z Z Z aN aN ?_))))); intro ba14 z14 q14 hba14 hz14 hE14 hg14; cases hba14
     obtain ⟨rfl, hi14⟩ := hE14; have hy_hi14 : _ ≤ 16777216 := hi14
     refine o_loadagg_A 9 H isAgg151 sizeOf151 Z Z Z hg14 Z (o_alloc H zeroValue151 Z Z ?_); intro b15 w15 hb15 H
     refine o_store_B 0 H sizeOf151 Z Z Z Z Z Z Z Z ?_; intro w16 H
     refine q3 (W_drawK [0, 3, 6, 7] 12 H kR Z ?_); intro w17 H; have hd17 := PLe.refl G12
     refine RD_t 0 Z kR Z (fun _ hK => v_fieldAddr 2 runUnderlying32 Z sizeOf30 Z Z) (RD_t 1 Z kR Z (fun _ hK => v_load_B 1 hK isAgg30 Z Z Z) (RD_t 2 Z kR Z (fun _ hK => v_fieldAddr 0 runUnderlying151 Z sizeOf9 Z Z) (RD_t 3 Z kR Z (fun _ hK => v_load_B 0 hK isAgg9 Z Z Z) (RD_t 4 Z kR Z (fun _ hK => v_fieldAddr 1 runUnderlying151 Z sizeOf93 Z Z) (RD_t 5 Z kR Z (fun _ hK => v_load_B 0 hK isAgg93 Z Z Z) ?_)))))
     refine RD_run [6] kR Z (RDs.cons Z ?_ RDs.nil)
     refine o_call call138 Z Z (i_tlist_c _ _ (H.lendSubL [11]) _ (H.lendNs (k := 11) (ks := [11]) Z Z hNs z14.2 (List.mem_map_of_mem (List.mem_of_getElem? hz14))) (sn_ok hSn _ (List.mem_map_of_mem (List.mem_of_getElem? hz14))).1 (by have := (sn_ok hSn _ (List.mem_map_of_mem (List.mem_of_getElem? hz14))).2; omega)) ?_
     rintro _ w18 ⟨_, _, rfl, H18', ⟨F18, rfl, hO18⟩⟩
     have H := H.readersL H18'
     obtain ⟨e218, hP18⟩ := hO18
     obtain ⟨sa18, sc18, rfl⟩ := OwnS.shape hP18
     have hO18 := OIs.mk hP18
     refine ⟨_, Z, ?_⟩
     refine R_nil (N_DK (Kn.of' H hd17 (SubL.cons 1 Z (SubL.cons 4 Z (SubL.cons 7 Z (SubL.cons 8 Z SubL.nil))))) (RD_t 7 Z kR Z (fun _ hK => v_build bf58 Z Z) ?_))
     refine RD_run [8] kR Z (RDs.cons Z ?_ RDs.nil)
     refine o_buildSlice H underlying30 sizeOf58 (fun w => ⟨_, zeroValue58 w, Z⟩) Z Z Z Z Z Z Z ?_; intro b19 w19 hb19 H
     refine R_nil (N_DK (Kn.of' H hd17 (SubL.cons 2 Z (SubL.cons 5 Z (SubL.cons 8 Z (SubL.cons 9 Z SubL.nil))))) ?_)
     refine RD_run [9] kR Z (RDs.cons Z ?_ RDs.nil)
     refine o_append1 3 H (sz := 2) (bytes := 40) underlying30 typeInfo58 ⟨_, Z, Z⟩ Z Z Z Z Z Z Z Z Z Z oM Z ?_; intro v20 w20 H
     have hchk20 := hchk12_0.snoc (show snapO F18 ⟨z14.1, z14.2.flat []⟩ _ from ⟨_, _, _, rfl, hi14, hO18⟩) rfl
     have H := H.toFront (k := 2) rfl
     have H := H.mergeF
     obtain ⟨av20, cv20, rfl⟩ := H.accShape (k := 2) rfl
     refine R_nil (N_DK (Kn.of' H hd17 (SubL.cons 1 Z (SubL.cons 3 Z (SubL.cons 6 Z (SubL.cons 7 Z SubL.nil))))) (RD_t 10 Z kR Z (fun _ hK => v_fieldAddr 2 runUnderlying32 Z sizeOf30 Z Z) ?_))
     refine RD_run [11] kR Z (RDs.cons Z ?_ RDs.nil)
     refine o_store_B 3 H sizeOf30 Z Z Z Z Z Z Z Z ?_; intro w21 H
     refine R_nil (N_DKlast kR kR (N_B (N_K (W_region (o_add Z Z Z oO (mV Z (R_nil ?_)))))))
     have H := H.del (k := 1) rfl
     refine N_lp (hJ := ⟨_, _, _, (xs ++ [⟨z14.1, z14.2.flat []⟩]), (F ++ F18), k + 1, _, Z, hle12, H, ?inv, Z⟩) (hm := ?hm)
     case hm => omega
     case inv => exact ⟨hchk20, aN, (by exact ⟨by omega, by (rw [Sp.take_succ' hz14, List.map_append, ← hxs]; rfl)⟩)⟩
    intro hc13'
    try simp only [nrm] at hc13'
    refine W_exit (N_K_exit (N_LP_exit (N_B_same (N_K (q2 (o_loadagg_B 2 H isAgg32 sizeOf32 Z Z Z Z Z (o_store_B 5 H sizeOf32 Z Z Z Z Z Z Z Z ?_))))))); intro w23 H
    refine q3 (W_ret (ret_unlock 6 H muLib Z call116 Z Z (rs := [.cell 2 32]) results114 ?_)); intro wu2 H
    refine ⟨[_], ⟨⟨_, Z, load_blk 5 H isAgg32 sizeOf32 Z Z Z⟩, trivial⟩, ?_⟩
    have H := H.toFront (k := 1) rfl
    obtain ⟨Fo3, H, hOw3⟩ := H.ownF hchk12_0 aN aN
    have H := H.del (k := 1) rfl
    have H := H.del (k := 3) rfl
    have H := H.del (k := 3) rfl
    have H := H.del (k := 3) rfl
    have H := H.del (k := 3) rfl
    have H := H.del (k := 3) rfl
    have H := H.del (k := 3) rfl
    have H := H.toFront (k := 1) rfl
    have H := H.toFront (k := 2) rfl
    have hxs2 : xs = d.snaps := by (rw [hxs, List.take_of_length_le oM]; exact sn_list hSn)
    exact H.retM ⟨_, _, _, _, _, _, rfl, rfl, hO4, (by (rw [← hT.flat]); exact hO5), (by have h9 := (show OSn _ _ _ from ⟨_, hOw3⟩); (rw [hxs2] at h9); exact h9)⟩
  skip
  refine o_alloc H zeroValue32 Z Z ?_; intro b24 w24 hb24 H
  refine R_nil (N_DK (Kn.of' H hd3 (SubL.cons 2 Z (SubL.cons 3 Z SubL.nil))) ?_)
  refine RD_run [11] kR Z (RDs.cons Z ?_ RDs.nil)
  refine o_call call138 Z Z (i_tlist_c _ _ (H.lendSubL [5]) _ ((H.lendN (k := 5) (ks := [5]) Z Z hN).at (show Nd.at_ T [] = some T from Z)) hT.wf oM) ?_
  rintro _ w25 ⟨_, _, rfl, H25', ⟨F25, rfl, hO25⟩⟩
  have H := H.readersL H25'
  obtain ⟨e225, hP25⟩ := hO25
  obtain ⟨sa25, sc25, rfl⟩ := OwnS.shape hP25
  have hO25 := OIs.mk hP25
  refine ⟨_, Z, ?_⟩
  refine R_nil (N_DK (Kn.of' H hd3 (SubL.cons 3 Z (SubL.cons 4 Z SubL.nil))) (RD_t 12 Z kR Z (fun _ hK => v_build bf32 Z Z) ?_))
  refine RD_run [14] kR Z (RDs.cons Z ?_ RDs.nil)
  refine o_store_B 1 H sizeOf32 Z Z Z Z Z Z Z Z ?_; intro w26 H
  refine R_nil (N_DKlast kR kR (N_K (W_seq (q2 (mV Z (o_nilCheck Z Z (o_fieldAddr 4 runUnderlying147 Z sizeOf145 Z Z Z (o_load_B 4 H isAgg145 Z Z Z Z (o_len_slice underlying145 Z Z (mV Z (q3 (W_block ?_))))))))))))
  have H := H.addNil 58 2
  have H := H.addF
  obtain ⟨ln28, hln28, H⟩ := H.nameAt (k := 3) (off := 2) rfl rfl
  obtain ⟨ln29, hln29, H⟩ := H.name (k := 5) rfl
  obtain ⟨ln30, hln30, H⟩ := H.name (k := 6) rfl
  refine W_lp (hf := (Sub.cons (t := 2) Z (Sub.cons (t := 3) Z (Sub.cons (t := 29) Z (Sub.cons (t := 30) Z Sub.nil))))) (J := fun M w m => ∃ (v : Value) (n : Nat) (cs : List Value) (xs : List (BSnap)) (F : Fr) (k : Nat) (G : PH), M = [(31, .int .i64 (k : Int))] ∧ PLe G0 G ∧ Hp w0 G0 (fps [blk db (cl [.int .i32 0, .int .u32 0, .map (some mb), .pointer (some ⟨T.b, 0, none⟩), .slice adv sn.length cdv] 147), blk mb (.map es ck), frag FT, acc 151 2 (.slice adv sn.length cdv) sn.length c, frag FSq]) w G [frag F, acc 58 2 v n cs, frag F25, blk b24 (cl (setN ln28 2 v) 32), frag F4, blk b1 (cl ln29 32), blk db (cl ln30 147), blk mb (.map es ck), frag FT, acc 151 2 (.slice adv sn.length cdv) sn.length c, frag FSq] ∧ (ChkF snapO 2 cs xs F ∧ n = xs.length ∧ k ≤ sn.length ∧ xs = (sn.take k).map (fun x => (⟨x.1, x.2.flat []⟩ : BSnap))) ∧ m = (sn.length - k)) (h0 := ⟨_, _, _, [], [], 0, _, Z, PLe.refl _, H, ?inv, Z⟩) (round := ?round)
  case inv => exact ⟨ChkF.nil,  by first | rfl | simp | (simp; omega) | omega, (by simp)⟩
  case round =>
   rintro _ w31 _ ⟨v, n, cs, xs, F, k, G31, rfl, hle31, H, hinv31, rfl⟩
   subst hln28
   subst hln29
   subst hln30
   have hchk := hchk.up hle31
   have hNs := hNs.up hle31
   obtain ⟨hchk31_0, hn31_0, hinv31⟩ := hinv31
   obtain ⟨av31_0, cv31_0, rfl⟩ := H.accShape (k := 1) rfl
   obtain ⟨hk, hxs⟩ := hinv31; have hxl6 : xs.length ≤ 6 := by (rw [hxs]; simp; omega)
   refine q2 (o_lss Z Z Z (q3 (W_seq ?_)))
   refine W_cond Z ?_ ?_
   ·intro hc32
    try simp only [nrm] at hc32
    refine W_skip (N_K (W_seq (W_block (q2 (o_index_A 9 H k Z hchk underlying145 sizeOf151 Z Z Z Z aN aN ?_))))); intro ba33 z33 q33 hba33 hz33 hE33 hg33; cases hba33
    obtain ⟨rfl, hi33⟩ := hE33; have hy_hi33 : _ ≤ 16777216 := hi33
    refine o_loadagg_A 9 H isAgg151 sizeOf151 Z Z Z hg33 Z (o_alloc H zeroValue151 Z Z ?_); intro b34 w34 hb34 H
    refine o_store_B 0 H sizeOf151 Z Z Z Z Z Z Z Z ?_; intro w35 H
    refine q3 (W_drawK [0, 4, 6, 7] 12 H kR Z ?_); intro w36 H; have hd36 := PLe.refl G31
    refine RD_t 0 Z kR Z (fun _ hK => v_fieldAddr 2 runUnderlying32 Z sizeOf30 Z Z) (RD_t 1 Z kR Z (fun _ hK => v_load_B 1 hK isAgg30 Z Z Z) (RD_t 2 Z kR Z (fun _ hK => v_fieldAddr 0 runUnderlying151 Z sizeOf9 Z Z) (RD_t 3 Z kR Z (fun _ hK => v_load_B 0 hK isAgg9 Z Z Z) (RD_t 4 Z kR Z (fun _ hK => v_fieldAddr 1 runUnderlying151 Z sizeOf93 Z Z) (RD_t 5 Z kR Z (fun _ hK => v_load_B 0 hK isAgg93 Z Z Z) ?_)))))
    refine RD_run [6] kR Z (RDs.cons Z ?_ RDs.nil)
    refine o_call call138 Z Z (i_tlist_c _ _ (H.lendSubL [11]) _ (H.lendNs (k := 11) (ks := [11]) Z Z hNs z33.2 (List.mem_map_of_mem (List.mem_of_getElem? hz33))) (sn_ok hSn _ (List.mem_map_of_mem (List.mem_of_getElem? hz33))).1 (by have := (sn_ok hSn _ (List.mem_map_of_mem (List.mem_of_getElem? hz33))).2; omega)) ?_
    rintro _ w37 ⟨_, _, rfl, H37', ⟨F37, rfl, hO37⟩⟩
    have H := H.readersL H37'
    obtain ⟨e237, hP37⟩ := hO37
    obtain ⟨sa37, sc37, rfl⟩ := OwnS.shape hP37
    have hO37 := OIs.mk hP37
    refine ⟨_, Z, ?_⟩
    refine R_nil (N_DK (Kn.of' H hd36 (SubL.cons 1 Z (SubL.cons 5 Z (SubL.cons 7 Z (SubL.cons 8 Z SubL.nil))))) (RD_t 7 Z kR Z (fun _ hK => v_build bf58 Z Z) ?_))
    refine RD_run [8] kR Z (RDs.cons Z ?_ RDs.nil)
    refine o_buildSlice H underlying30 sizeOf58 (fun w => ⟨_, zeroValue58 w, Z⟩) Z Z Z Z Z Z Z ?_; intro b38 w38 hb38 H
    refine R_nil (N_DK (Kn.of' H hd36 (SubL.cons 2 Z (SubL.cons 6 Z (SubL.cons 8 Z (SubL.cons 9 Z SubL.nil))))) ?_)
    refine RD_run [9] kR Z (RDs.cons Z ?_ RDs.nil)
    refine o_append1 3 H (sz := 2) (bytes := 40) underlying30 typeInfo58 ⟨_, Z, Z⟩ Z Z Z Z Z Z Z Z Z Z oM Z ?_; intro v39 w39 H
    have hchk39 := hchk31_0.snoc (show snapO F37 ⟨z33.1, z33.2.flat []⟩ _ from ⟨_, _, _, rfl, hi33, hO37⟩) rfl
    have H := H.toFront (k := 2) rfl
    have H := H.mergeF
    obtain ⟨av39, cv39, rfl⟩ := H.accShape (k := 2) rfl
    refine R_nil (N_DK (Kn.of' H hd36 (SubL.cons 1 Z (SubL.cons 4 Z (SubL.cons 6 Z (SubL.cons 7 Z SubL.nil))))) (RD_t 10 Z kR Z (fun _ hK => v_fieldAddr 2 runUnderlying32 Z sizeOf30 Z Z) ?_))
    refine RD_run [11] kR Z (RDs.cons Z ?_ RDs.nil)
    refine o_store_B 4 H sizeOf30 Z Z Z Z Z Z Z Z ?_; intro w40 H
    refine R_nil (N_DKlast kR kR (N_B (N_K (W_region (o_add Z Z Z oO (mV Z (R_nil ?_)))))))
    have H := H.del (k := 1) rfl
    refine N_lp (hJ := ⟨_, _, _, (xs ++ [⟨z33.1, z33.2.flat []⟩]), (F ++ F37), k + 1, _, Z, hle31, H, ?inv, Z⟩) (hm := ?hm)
    case hm => omega
    case inv => exact ⟨hchk39, aN, (by exact ⟨by omega, by (rw [Sp.take_succ' hz33, List.map_append, ← hxs]; rfl)⟩)⟩
   intro hc32'
   try simp only [nrm] at hc32'
   refine W_exit (N_K_exit (N_LP_exit (N_B_same (N_K (q2 (o_loadagg_B 3 H isAgg32 sizeOf32 Z Z Z Z Z (o_store_B 5 H sizeOf32 Z Z Z Z Z Z Z Z ?_))))))); intro w42 H
   refine q3 (W_ret (ret_unlock 6 H muLib Z call116 Z Z (rs := [.cell 2 32]) results114 ?_)); intro wu5 H
   refine ⟨[_], ⟨⟨_, Z, load_blk 5 H isAgg32 sizeOf32 Z Z Z⟩, trivial⟩, ?_⟩
   have H := H.toFront (k := 1) rfl
   obtain ⟨Fo6, H, hOw6⟩ := H.ownF hchk31_0 aN aN
   have H := H.del (k := 2) rfl
   have H := H.del (k := 3) rfl
   have H := H.del (k := 3) rfl
   have H := H.del (k := 3) rfl
   have H := H.del (k := 3) rfl
   have H := H.del (k := 3) rfl
   have H := H.del (k := 3) rfl
   have H := H.toFront (k := 1) rfl
   have H := H.toFront (k := 2) rfl
   have hxs2 : xs = d.snaps := by (rw [hxs, List.take_of_length_le oM]; exact sn_list hSn)
   exact H.retM ⟨_, _, _, _, _, _, rfl, rfl, hO4, (by (rw [← hT.flat]); exact hO25), (by have h9 := (show OSn _ _ _ from ⟨_, hOw6⟩); (rw [hxs2] at h9); exact h9)⟩
 skip
 refine o_alloc H zeroValue32 Z Z ?_; intro b43 w43 hb43 H
 refine R_nil (N_DK (Kn.of' H hd3 (SubL.cons 1 Z (SubL.cons 2 Z SubL.nil))) ?_)
 refine RD_run [5] kR Z (RDs.cons Z ?_ RDs.nil)
 refine o_call call137 Z Z (i_slist_c _ _ (H.lendSubL [3]) _ _ _ _ _ (H.lendPredL (k := 3) (ks := [3]) Z Z) hm (hS.up (PPlus.le _ _ _)) hVd ) ?_
 rintro _ w44 ⟨_, _, rfl, H44', ⟨F44, rfl, hO44⟩⟩
 have H := H.readersL H44'
 obtain ⟨e244, hP44⟩ := hO44
 obtain ⟨sa44, sc44, rfl⟩ := OwnS.shape hP44
 have hO44 := OHs.mk hP44
 refine ⟨_, Z, ?_⟩
 refine R_nil (N_DK (Kn.of' H hd3 (SubL.cons 2 Z (SubL.cons 3 Z SubL.nil))) ?_)
 refine RD_run [11] kR Z (RDs.cons Z ?_ RDs.nil)
 refine o_call call138 Z Z (i_tlist_c _ _ (H.lendSubL [5]) _ ((H.lendN (k := 5) (ks := [5]) Z Z hN).at (show Nd.at_ T [] = some T from Z)) hT.wf oM) ?_
 rintro _ w45 ⟨_, _, rfl, H45', ⟨F45, rfl, hO45⟩⟩
 have H := H.readersL H45'
 obtain ⟨e245, hP45⟩ := hO45
 obtain ⟨sa45, sc45, rfl⟩ := OwnS.shape hP45
 have hO45 := OIs.mk hP45
 refine ⟨_, Z, ?_⟩
 refine R_nil (N_DK (Kn.of' H hd3 (SubL.cons 3 Z (SubL.cons 4 Z SubL.nil))) (RD_t 12 Z kR Z (fun _ hK => v_build bf32 Z Z) ?_))
 refine RD_run [14] kR Z (RDs.cons Z ?_ RDs.nil)
 refine o_store_B 2 H sizeOf32 Z Z Z Z Z Z Z Z ?_; intro w46 H
 refine R_nil (N_DKlast kR kR (N_K (W_seq (q2 (mV Z (o_nilCheck Z Z (o_fieldAddr 4 runUnderlying147 Z sizeOf145 Z Z Z (o_load_B 4 H isAgg145 Z Z Z Z (o_len_slice underlying145 Z Z (mV Z (q3 (W_block ?_))))))))))))
 have H := H.addNil 58 2
 have H := H.addF
 obtain ⟨ln48, hln48, H⟩ := H.nameAt (k := 4) (off := 2) rfl rfl
 obtain ⟨ln49, hln49, H⟩ := H.name (k := 5) rfl
 obtain ⟨ln50, hln50, H⟩ := H.name (k := 6) rfl
 refine W_lp (hf := (Sub.cons (t := 2) Z (Sub.cons (t := 3) Z (Sub.cons (t := 29) Z (Sub.cons (t := 30) Z Sub.nil))))) (J := fun M w m => ∃ (v : Value) (n : Nat) (cs : List Value) (xs : List (BSnap)) (F : Fr) (k : Nat) (G : PH), M = [(31, .int .i64 (k : Int))] ∧ PLe G0 G ∧ Hp w0 G0 (fps [blk db (cl [.int .i32 0, .int .u32 0, .map (some mb), .pointer (some ⟨T.b, 0, none⟩), .slice adv sn.length cdv] 147), blk mb (.map es ck), frag FT, acc 151 2 (.slice adv sn.length cdv) sn.length c, frag FSq]) w G [frag F, acc 58 2 v n cs, frag F45, frag F44, blk b43 (cl (setN ln48 2 v) 32), blk b1 (cl ln49 32), blk db (cl ln50 147), blk mb (.map es ck), frag FT, acc 151 2 (.slice adv sn.length cdv) sn.length c, frag FSq] ∧ (ChkF snapO 2 cs xs F ∧ n = xs.length ∧ k ≤ sn.length ∧ xs = (sn.take k).map (fun x => (⟨x.1, x.2.flat []⟩ : BSnap))) ∧ m = (sn.length - k)) (h0 := ⟨_, _, _, [], [], 0, _, Z, PLe.refl _, H, ?inv, Z⟩) (round := ?round)
 case inv => exact ⟨ChkF.nil,  by first | rfl | simp | (simp; omega) | omega, (by simp)⟩
 case round =>
  rintro _ w51 _ ⟨v, n, cs, xs, F, k, G51, rfl, hle51, H, hinv51, rfl⟩
  subst hln48
  subst hln49
  subst hln50
  have hchk := hchk.up hle51
  have hNs := hNs.up hle51
  obtain ⟨hchk51_0, hn51_0, hinv51⟩ := hinv51
  obtain ⟨av51_0, cv51_0, rfl⟩ := H.accShape (k := 1) rfl
  obtain ⟨hk, hxs⟩ := hinv51; have hxl6 : xs.length ≤ 6 := by (rw [hxs]; simp; omega)
  refine q2 (o_lss Z Z Z (q3 (W_seq ?_)))
  refine W_cond Z ?_ ?_
  ·intro hc52
   try simp only [nrm] at hc52
   refine W_skip (N_K (W_seq (W_block (q2 (o_index_A 9 H k Z hchk underlying145 sizeOf151 Z Z Z Z aN aN ?_))))); intro ba53 z53 q53 hba53 hz53 hE53 hg53; cases hba53
   obtain ⟨rfl, hi53⟩ := hE53; have hy_hi53 : _ ≤ 16777216 := hi53
   refine o_loadagg_A 9 H isAgg151 sizeOf151 Z Z Z hg53 Z (o_alloc H zeroValue151 Z Z ?_); intro b54 w54 hb54 H
   refine o_store_B 0 H sizeOf151 Z Z Z Z Z Z Z Z ?_; intro w55 H
   refine q3 (W_drawK [0, 5, 6, 7] 12 H kR Z ?_); intro w56 H; have hd56 := PLe.refl G51
   refine RD_t 0 Z kR Z (fun _ hK => v_fieldAddr 2 runUnderlying32 Z sizeOf30 Z Z) (RD_t 1 Z kR Z (fun _ hK => v_load_B 1 hK isAgg30 Z Z Z) (RD_t 2 Z kR Z (fun _ hK => v_fieldAddr 0 runUnderlying151 Z sizeOf9 Z Z) (RD_t 3 Z kR Z (fun _ hK => v_load_B 0 hK isAgg9 Z Z Z) (RD_t 4 Z kR Z (fun _ hK => v_fieldAddr 1 runUnderlying151 Z sizeOf93 Z Z) (RD_t 5 Z kR Z (fun _ hK => v_load_B 0 hK isAgg93 Z Z Z) ?_)))))
   refine RD_run [6] kR Z (RDs.cons Z ?_ RDs.nil)
   refine o_call call138 Z Z (i_tlist_c _ _ (H.lendSubL [11]) _ (H.lendNs (k := 11) (ks := [11]) Z Z hNs z53.2 (List.mem_map_of_mem (List.mem_of_getElem? hz53))) (sn_ok hSn _ (List.mem_map_of_mem (List.mem_of_getElem? hz53))).1 (by have := (sn_ok hSn _ (List.mem_map_of_mem (List.mem_of_getElem? hz53))).2; omega)) ?_
   rintro _ w57 ⟨_, _, rfl, H57', ⟨F57, rfl, hO57⟩⟩
   have H := H.readersL H57'
   obtain ⟨e257, hP57⟩ := hO57
   obtain ⟨sa57, sc57, rfl⟩ := OwnS.shape hP57
   have hO57 := OIs.mk hP57
   refine ⟨_, Z, ?_⟩
   refine R_nil (N_DK (Kn.of' H hd56 (SubL.cons 1 Z (SubL.cons 6 Z (SubL.cons 7 Z (SubL.cons 8 Z SubL.nil))))) (RD_t 7 Z kR Z (fun _ hK => v_build bf58 Z Z) ?_))
   refine RD_run [8] kR Z (RDs.cons Z ?_ RDs.nil)
   refine o_buildSlice H underlying30 sizeOf58 (fun w => ⟨_, zeroValue58 w, Z⟩) Z Z Z Z Z Z Z ?_; intro b58 w58 hb58 H
   refine R_nil (N_DK (Kn.of' H hd56 (SubL.cons 2 Z (SubL.cons 7 Z (SubL.cons 8 Z (SubL.cons 9 Z SubL.nil))))) ?_)
   refine RD_run [9] kR Z (RDs.cons Z ?_ RDs.nil)
   refine o_append1 3 H (sz := 2) (bytes := 40) underlying30 typeInfo58 ⟨_, Z, Z⟩ Z Z Z Z Z Z Z Z Z Z oM Z ?_; intro v59 w59 H
   have hchk59 := hchk51_0.snoc (show snapO F57 ⟨z53.1, z53.2.flat []⟩ _ from ⟨_, _, _, rfl, hi53, hO57⟩) rfl
   have H := H.toFront (k := 2) rfl
   have H := H.mergeF
   obtain ⟨av59, cv59, rfl⟩ := H.accShape (k := 2) rfl
   refine R_nil (N_DK (Kn.of' H hd56 (SubL.cons 1 Z (SubL.cons 5 Z (SubL.cons 6 Z (SubL.cons 7 Z SubL.nil))))) (RD_t 10 Z kR Z (fun _ hK => v_fieldAddr 2 runUnderlying32 Z sizeOf30 Z Z) ?_))
   refine RD_run [11] kR Z (RDs.cons Z ?_ RDs.nil)
   refine o_store_B 5 H sizeOf30 Z Z Z Z Z Z Z Z ?_; intro w60 H
   refine R_nil (N_DKlast kR kR (N_B (N_K (W_region (o_add Z Z Z oO (mV Z (R_nil ?_)))))))
   have H := H.del (k := 1) rfl
   refine N_lp (hJ := ⟨_, _, _, (xs ++ [⟨z53.1, z53.2.flat []⟩]), (F ++ F57), k + 1, _, Z, hle51, H, ?inv, Z⟩) (hm := ?hm)
   case hm => omega
   case inv => exact ⟨hchk59, aN, (by exact ⟨by omega, by (rw [Sp.take_succ' hz53, List.map_append, ← hxs]; rfl)⟩)⟩
  intro hc52'
  try simp only [nrm] at hc52'
  refine W_exit (N_K_exit (N_LP_exit (N_B_same (N_K (q2 (o_loadagg_B 4 H isAgg32 sizeOf32 Z Z Z Z Z (o_store_B 5 H sizeOf32 Z Z Z Z Z Z Z Z ?_))))))); intro w62 H
  refine q3 (W_ret (ret_unlock 6 H muLib Z call116 Z Z (rs := [.cell 2 32]) results114 ?_)); intro wu8 H
  refine ⟨[_], ⟨⟨_, Z, load_blk 5 H isAgg32 sizeOf32 Z Z Z⟩, trivial⟩, ?_⟩
  have H := H.toFront (k := 1) rfl
  obtain ⟨Fo9, H, hOw9⟩ := H.ownF hchk51_0 aN aN
  have H := H.del (k := 3) rfl
  have H := H.del (k := 3) rfl
  have H := H.del (k := 3) rfl
  have H := H.del (k := 3) rfl
  have H := H.del (k := 3) rfl
  have H := H.del (k := 3) rfl
  have H := H.del (k := 3) rfl
  have H := H.toFront (k := 1) rfl
  have H := H.toFront (k := 2) rfl
  have hxs2 : xs = d.snaps := by (rw [hxs, List.take_of_length_le oM]; exact sn_list hSn)
  exact H.retM ⟨_, _, _, _, _, _, rfl, rfl, hO44, (by (rw [← hT.flat]); exact hO45), (by have h9 := (show OSn _ _ _ from ⟨_, hOw9⟩); (rw [hxs2] at h9); exact h9)⟩
end Go.Proofs.Tst

namespace Go.Proofs.Tst
open Go Fw Tryz
end Go.Proofs.Tst

namespace Go.Proofs.Tst
open Go Fw Tryz
end Go.Proofs.Tst

namespace Go.Proofs.Tst
open Go Fw Tryz
end Go.Proofs.Tst

namespace Go.Proofs.Tst
open Go Fw Tryz
end Go.Proofs.Tst

namespace Go.Proofs.Tst
open Go Fw Tryz
theorem i_next_c (w0 : World) (G0 : PH) (hG : PSub G0 w0) (rb : Nat) (ab : Option Addr) (kb : Nat) (bs : List Int) (p : Nat) (hbs : RdI G0 (.slice ab bs.length kb) bs) (hp : p ≤ bs.length) (hbl : bs.length ≤ 1000000) (hLent : Lent w0 G0 [blk rb (cl [.slice ab bs.length kb, .int .i64 (p : Int)] 197)])  :
  Calls Tryz.prog 167 #[.pointer (some ⟨rb, 0, none⟩)] w0 (RetM w0 G0 [rb] (fun G' v Bs => ∃ (u : Value) (c : List Value) (p' : Nat), v = u ∧ Bs = [acc 3 1 u (Sp.nextC bs p).length c, blk rb (cl [.slice ab bs.length kb, .int .i64 (p' : Int)] 197)] ∧ p' = min (p + 8) bs.length ∧ Chk intE 1 G' c (Sp.nextC bs p))) := by
 have H : Hp w0 G0 [rb] w0 G0 [blk rb (cl [.slice ab bs.length kb, .int .i64 (p : Int)] 197)] := hLent.hp
 refine calls_of_W (l := [.pointer (some ⟨rb, 0, none⟩)]) func167 Z ntmps167 Z (q2 (aG Z (q3 (W_seq (W_drawK [0] 12 H kR Z ?_))))); intro w1 H; have hd1 := PLe.refl G0
 refine vM 0 Z Z (RD_t 1 Z kR Z (fun _ hK => v_nilCheck Z) (RD_t 2 Z kR Z (fun _ hK => v_fieldAddr 1 runUnderlying197 Z sizeOf3 Z Z) (RD_t 3 Z kR Z (fun _ hK => v_load_B 0 hK isAgg3 Z Z Z) (RD_t 4 Z kR Z (fun _ hK => v_add Z Z oO) (vM 5 Z Z (RD_t 6 Z kR Z (fun _ hK => v_nilCheck Z) (RD_t 7 Z kR Z (fun _ hK => v_fieldAddr 0 runUnderlying197 Z sizeOf41 Z Z) (RD_t 8 Z kR Z (fun _ hK => v_load_B 0 hK isAgg41 Z Z Z) (RD_t 9 Z kR Z (fun _ hK => v_len_slice underlying41 Z) (RD_t 10 Z kR Z (fun _ hK => v_min Z Z) (RD_t 11 Z kR Z (fun _ hK => v_assign Z) (RD_done kR (N_K (W_seq (W_drawK [0] 12 H kR Z ?_))))))))))))))); intro w3 H; have hd3 := PLe.refl G0
 refine vM 0 Z Z (RD_t 1 Z kR Z (fun _ hK => v_nilCheck Z) (RD_t 2 Z kR Z (fun _ hK => v_fieldAddr 0 runUnderlying197 Z sizeOf41 Z Z) (RD_t 3 Z kR Z (fun _ hK => v_load_B 0 hK isAgg41 Z Z Z) (vM 4 Z Z (RD_t 5 Z kR Z (fun _ hK => v_nilCheck Z) (RD_t 6 Z kR Z (fun _ hK => v_fieldAddr 1 runUnderlying197 Z sizeOf3 Z Z) (RD_t 7 Z kR Z (fun _ hK => v_load_B 0 hK isAgg3 Z Z Z) (vM 8 Z Z ?_))))))))
 have hcap4 := hbs.cap; try simp only [List.length_set, List.length_append, List.length_take, List.length_drop, List.length_replicate] at hcap4
 have hsl4 := hbs.part (i := p) (j := (min (p + 8) bs.length)) oM oM
 have hsn1 := hsl4.len
 refine RD_t 9 Z kR Z (fun _ hK => v_slice (i := p) (j := (min (p + 8) bs.length)) underlying41 sizeOf3 Z Z Z oM oM aN aN) ?_
 refine RD_run [10] kR Z (RDs.cons Z ?_ RDs.nil)
 have H := H.addNil 3 1
 refine o_append_P 0 H hsl4 (by intro z cs hz u hu; obtain ⟨rfl, _⟩ := hz; simp at hu; subst hu; rfl) (sz := 1) (bytes := 8) underlying41 typeInfo3 ⟨_, rfl, rfl⟩ rfl rfl rfl rfl rfl rfl rfl oM rfl ?_; intro v5 w5 css5 hcl5 hcs5 H
 have hchk5 : Chk intE 1 G0 ([] ++ css5.flatten) _ := ⟨css5, rfl, hcl5, hcs5⟩
 obtain ⟨av5, cv5, rfl⟩ := H.accShape (k := 0) rfl
 refine R_nil (N_DK (Kn.of' H hd3 (SubL.cons 1 Z SubL.nil)) (RD_t 11 Z kR Z (fun _ hK => v_assign Z) (RD_done kR (N_K (q2 (mV Z (mV Z (o_nilCheck Z Z (o_fieldAddr 1 runUnderlying197 Z sizeOf3 Z Z Z (o_store_B 1 H sizeOf3 Z Z Z Z Z Z Z Z ?_)))))))))); intro w6 H
 refine q1 (mV Z (aG Z (q3 (W_ret (rt1 results167 Z ?_)))))
 have hcx : (Sp.nextC bs p).length = min (p + 8) bs.length - p := by unfold Sp.nextC; simp; omega
 have hpm : min ((p : Int) + 8) (bs.length : Int) = ((min (p + 8) bs.length : Nat) : Int) := by omega
 exact H.retM ⟨_, _, min (p + 8) bs.length, rfl, by rw [hcx, hpm]; simp only [Nat.zero_add]; rfl, rfl, hchk5⟩
theorem i_storeFile_c (w0 : World) (G0 : PH) (hG : PSub G0 w0) (mbs : Nat) (ess : Array MapEntry) (cks : Nat) (xss : List (Int × Value)) (Ls : List BHeld) (hms : MapIs (Value.int .i64) ess cks xss) (hSs : StR G0 xss Ls) (hVs : Sp.VH Ls) (vbytes : Value) (bytes : List (Int)) (hbytes : RdI G0 vbytes bytes) (hLent : Lent w0 G0 [blk mbs (.map ess cks)]) (hB : Sp.FileValid bytes = true) :
  Calls Tryz.prog 133 #[.map (some mbs), vbytes] w0 (RetM w0 G0 [mbs] (fun G' v Bs => ∃ (es' : Array MapEntry) (ck' : Nat) (xs' : List (Int × Value)) (L' : List BHeld) (u : Value) (c : List Value) (ids : List Int), v = .tuple #[u, .bool (Sp.FileStore Ls bytes).isSome] ∧ Bs = [acc 3 1 u ids.length c, blk mbs (.map es' ck')] ∧ MapIs (Value.int .i64) es' ck' xs' ∧ StR G' xs' L' ∧ Sp.VH L' ∧ (∀ r, Sp.FileStore Ls bytes = some r → r = (L', ids)) ∧ Chk intE 1 G' c ids ∧ ids.length ≤ 1000)) := by
 obtain ⟨abytes, kbytes, rfl⟩ := hbytes.shape
 have hlimbytes : bytes.length ≤ 1099511627776 := hbytes.lim
 have hBl : bytes.length ≤ 32 := by simp [Sp.FileValid] at hB; omega
 have H : Hp w0 G0 [mbs] w0 G0 [blk mbs (.map ess cks)] := hLent.hp
 refine calls_of_W (l := [.map (some mbs), .slice abytes bytes.length kbytes]) func133 Z ntmps133 Z (q2 (aG Z (aG Z (q1 (aG Z (q1 (mV Z (o_build bf197 Z Z Z (o_box H Z Z Z ?_))))))))); intro b1 w1 hb1 H
 refine aG Z (q3 (W_seq (q2 (mV Z (o_call call167 Z Z (i_next_c _ _ H.sub _ _ _ _ 0 hbytes oM oM H.lent1 ) ?_)))))
 rintro _ w2 ⟨G2, _, _, rfl, H2', ⟨u2, c2, p2, rfl, rfl, hp2, hchk2⟩⟩
 have hSs := hSs.up H2'.le
 have hbytes := hbytes.up H2'.le
 have H := H.borrow1 H2'
 obtain ⟨avr2, cvr2, rfl⟩ := H.accShape (k := 0) rfl
 refine ⟨_, Z, ?_⟩
 refine aG Z (q3 (W_block ?_))
 have H := H.addNil 3 1
 refine W_lp (hf := (Sub.cons (t := 0) Z (Sub.cons (t := 7) Z Sub.nil))) (J := fun M w m => ∃ (esm0 : Array MapEntry) (ckm0 : Nat) (xsm0 : List (Int × Value)) (Lm0 : List BHeld) (v : Value) (n : Nat) (cs : List Value) (xs : List (Int)) (v1 : Value) (n1 : Nat) (cs1 : List Value) (xs1 : List (Int)) (k p : Nat) (G : PH), M = [(6, v), (8, v1)] ∧ PLe G2 G ∧ Hp w0 G0 [mbs] w G [acc 3 1 v n cs, acc 3 1 v1 n1 cs1, blk b1 (cl [.slice abytes bytes.length kbytes, .int .i64 (p : Int)] 197), blk mbs (.map esm0 ckm0)] ∧ (MapIs (Value.int .i64) esm0 ckm0 xsm0 ∧ StR G xsm0 Lm0 ∧ Sp.VH Lm0 ∧ Chk intE 1 G cs xs ∧ n = xs.length ∧ Chk intE 1 G cs1 xs1 ∧ n1 = xs1.length ∧ xs1 = Sp.chunk bytes k ∧ p = min (8 * k + 8) bytes.length ∧ xs.length ≤ k ∧ k ≤ 100 ∧ Sp.foldB Sp.put1 ((Sp.l4Cut bytes).take k) (some (Ls, [])) = some (Lm0, xs)) ∧ m = (100 - k)) (h0 := ⟨_, _, xss, Ls, _, _, _, [], _, _, _, (Sp.nextC bytes 0), 0, _, _, Z, PLe.refl _, H, ?inv, Z⟩) (round := ?round)
 case inv => exact ⟨hms, hSs, hVs, (by exact ⟨(Chk.nil (E := intE) (sz := 1) (G := G2)), (by first | rfl | simp | (simp; omega) | omega), hchk2,  by first | rfl | simp | (simp; omega) | omega, (by exact ⟨Sp.next_zero _, by omega, by simp, by omega, by simp [Sp.foldB]⟩)⟩)⟩
 case round =>
  rintro _ w4 _ ⟨esm0, ckm0, xsm0, Lm0, v, n, cs, xs, v1, n1, cs1, xs1, k, p, G4, rfl, hle4, H, hinv4, rfl⟩
  have hbytes := hbytes.up hle4
  obtain ⟨hm4_m0, hS4_m0, hV4_m0, hinv4⟩ := hinv4
  obtain ⟨hchk4_0, hn4_0, hinv4⟩ := hinv4
  obtain ⟨av4_0, cv4_0, rfl⟩ := H.accShape (k := 0) rfl
  obtain ⟨hchk4_1, hn4_1, hinv4⟩ := hinv4
  obtain ⟨av4_1, cv4_1, rfl⟩ := H.accShape (k := 1) rfl
  obtain ⟨rfl, hpk, hxl, hk9, hf⟩ := hinv4; have hcl := Sp.chunk_len bytes k
  refine W_seq (q2 (mV Z (o_len_slice underlying41 Z Z (o_gtr Z Z Z (q3 ?_)))))
  refine W_cond Z ?_ ?_
  ·intro hc5
   try simp only [nrm] at hc5
   refine W_skip (N_K (W_seq (W_block (q2 (mV Z (mV Z ?_))))))
   obtain ⟨G7, H, hsg7, hsr7⟩ := H.shutL (k := 1) rfl (H.apart (k := 1) (ks := [3]) rfl rfl (by intro b hb; simpa [fpsAt, nth, blk] using hb)) hchk4_1 aN aN
   have hbytes := hbytes.up hsg7
   have hS4_m0 := hS4_m0.up hsg7
   have hchk4_0 := hchk4_0.up hsg7
   have hle4 := hle4.trans hsg7
   have H := H.toFront (k := 2) rfl
   refine o_call call168 Z Z (i_put_c _ _ H.sub _ _ _ _ _ hm4_m0 hS4_m0 hV4_m0 _ _ hsr7 H.lent1 (Sp.chunk_valid hB oM)) ?_
   rintro _ w6 ⟨G6, _, _, rfl, H6', ⟨es6, ck6, xs6, L6, i6, rfl, rfl, hm6, hS6, hV6, hL6, hii6, hir6⟩⟩
   have hbytes := hbytes.up H6'.le
   have hchk4_0 := hchk4_0.up H6'.le
   have hle4 := hle4.trans H6'.le
   have H := H.borrow1 H6'
   refine ⟨_, Z, ?_⟩
   refine mV Z (o_extract Z Z Z (o_extract Z Z Z (aG Z (aG Z (q3 (W_seq (q2 (mV Z (o_not Z Z (q3 ?_))))))))))
   refine W_cond Z ?_ ?_
   ·intro hc8
    try simp only [nrm] at hc8
    refine q2 (aG Z (aG Z (q3 (W_ret (N_K_ret (N_B_ret (N_K_ret (N_LP_ret (N_B_ret (N_K_ret (rt2 results133 Z Z ?_)))))))))))
    have hno : Sp.FileStore Ls bytes = none := by (have hno : Sp.StorePut Lm0 (Sp.chunk bytes k) = none := by simpa using hc8); simp only [Sp.FileStore, Sp.valid_iff.2 hVs, hB, Bool.and_self, if_true]; exact Sp.foldB_stop hf (Sp.chunks_at oM) (by simp [Sp.put1, hno])
    have H := H.addNil 3 1
    have H := H.del (k := 2) rfl
    have H := H.del (k := 2) rfl
    have H := H.toFront (k := 1) rfl
    have H := H.toFront (k := 1) rfl
    exact H.retM ⟨_, _, _, _, _, _, _, congrArg (fun b => Value.tuple #[_, Value.bool b]) (show _ = (Sp.FileStore Ls bytes).isSome by rw [hno]; rfl), acc_1 aN, hm6, hS6, hV6, (fun r hr => by rw [hno] at hr; cases hr), (Chk.nil (E := intE) (sz := 1) (G := G6)), by first | omega | (simp; done) | (simp; omega)⟩
   intro hc8'
   try simp only [nrm] at hc8'
   obtain ⟨⟨r1, r2⟩, hsp⟩ := Option.isSome_iff_exists.1 hc8'
   have hLp : L6 = r1 := by rw [hL6, hsp]; rfl
   subst hLp
   obtain rfl : i6 = r2 := (hir6 _ hsp).symm
   refine W_skip (N_K (W_region (mV Z (mV Z (o_buildSlice H underlying41 sizeOf3 (fun w => ⟨_, zeroValue3 w, Z⟩) Z Z Z Z Z Z Z ?_))))); intro b9 w9 hb9 H
   refine o_append1 1 H (sz := 1) (bytes := 8) underlying41 typeInfo3 ⟨_, Z, Z⟩ Z Z Z Z Z Z Z Z Z Z oM Z ?_; intro v10 w10 H
   have hchk10 := hchk4_0.snoc (show intE _ i6 _ from ⟨rfl, oO⟩) rfl
   obtain ⟨av10, cv10, rfl⟩ := H.accShape (k := 1) rfl
   refine aG Z (R_nil (N_B (N_K (W_region (mV Z ?_)))))
   have H := H.toFront (k := 2) rfl
   refine o_call call167 Z Z (i_next_c _ _ H.sub _ _ _ _ p hbytes oM oM H.lent1 ) ?_
   rintro _ w11 ⟨G11, _, _, rfl, H11', ⟨u11, c11, p11, rfl, rfl, hp11, hchk11⟩⟩
   have hS6 := hS6.up H11'.le
   have hchk10 := hchk10.up H11'.le
   have hle4 := hle4.trans H11'.le
   have H := H.borrow1 H11'
   obtain ⟨avr11, cvr11, rfl⟩ := H.accShape (k := 0) rfl
   refine ⟨_, Z, ?_⟩
   refine aG Z (R_nil ?_)
   have H := H.toFront (k := 2) rfl
   have H := H.toFront (k := 2) rfl
   have H := H.toFront (k := 2) rfl
   have H := H.toFront (k := 3) rfl
   refine N_lp (hJ := ⟨_, _, xs6, L6, _, _, _, (xs ++ [i6]), _, _, _, (Sp.nextC bytes p), k + 1, p11, _, Z, hle4, H, ?inv, Z⟩) (hm := ?hm)
   case hm => omega
   case inv => exact ⟨hm6, hS6, hV6, (by exact ⟨hchk10, aN, hchk11, aN, (by exact ⟨by rw [hpk]; exact Sp.next_chunk _ _, by omega, by simp; omega, by omega, Sp.foldB_succ hf (Sp.chunks_at oM) (by simp [Sp.put1, hsp])⟩)⟩)⟩
  intro hc5'
  try simp only [nrm] at hc5'
  refine W_exit (N_K_exit (N_LP_exit (N_B_same (N_K (q2 (mV Z (aG Z (aG Z (q3 (W_ret (rt2 results133 Z Z ?_)))))))))))
  have hyes : Sp.FileStore Ls bytes = some (Lm0, xs) := by simp only [Sp.FileStore, Sp.valid_iff.2 hVs, hB, Bool.and_self, if_true]; exact Sp.foldB_all hf (Sp.chunks_end oM)
  have H := H.del (k := 1) rfl
  have H := H.del (k := 1) rfl
  have H := H.toFront (k := 1) rfl
  have H := H.toFront (k := 1) rfl
  exact H.retM ⟨_, _, _, _, _, _, _, congrArg (fun b => Value.tuple #[_, Value.bool b]) (show _ = (Sp.FileStore Ls bytes).isSome by rw [hyes]; rfl), acc_1 aN, hm4_m0, hS4_m0, hV4_m0, (fun r hr => by rw [hyes] at hr; cases hr; rfl), hchk4_0, by first | omega | (simp; done) | (simp; omega)⟩
end Go.Proofs.Tst

namespace Go.Proofs.Tst
open Go Fw Tryz
theorem i_count_r : ∀ (N : Nat) (w0 : World) (G0 : PH) (hG : PSub G0 w0) (t : Nd) (hndt : RdN G0 t) (hct : t.cnt ≤ 100000) (hsz : t.size ≤ N),
  Calls Tryz.prog 171 #[.pointer (some ⟨t.b, 0, none⟩)] w0 (Rets w0 (.int .i64 (t.cnt : Nat))) := by
 intro N
 induction N with
 | zero => intro w0 G0 hG t hndt hct hsz; exact absurd (Nd.size_pos t) oM
 | succ N ih =>
 intro w0 G0 hG t hndt hct hsz
 obtain ⟨hnlt, nat, nmt, nct, nAt, nMt, nCt, hprt, hrit, hrkt⟩ := hndt.open
 have hn_hrit := hrit.len; have hx_hrit : _ ≤ 1099511627776 := hrit.lim
 have hn_hrkt := hrkt.len; have hx_hrkt : _ ≤ 1099511627776 := hrkt.lim
 subst hn_hrkt
 have H := Hp.init hG
 refine calls_of_W (l := [.pointer (some ⟨t.b, 0, none⟩)]) func171 Z ntmps171 Z (q2 (aG Z (q1 (mV Z (o_nilCheck Z Z (o_fieldAddr 3 runUnderlying166 Z sizeOf162 Z Z Z (o_load_P H isAgg162 Z Z (hprt 3 _ Z) (o_len_slice underlying162 Z Z (aG Z (q3 (W_seq (q2 (mV Z (o_nilCheck Z Z (o_fieldAddr 3 runUnderlying166 Z sizeOf162 Z Z Z ?_)))))))))))))))
 refine o_load_P H isAgg162 Z Z (hprt 3 _ Z) (o_len_slice underlying162 Z Z (mV Z (q3 (W_block ?_))))
 refine W_lp (hf := (Sub.cons (t := 2) Z (Sub.cons (t := 14) Z (Sub.cons (t := 15) Z Sub.nil)))) (J := fun M w m => ∃ (k mm : Nat) (G : PH), M = [(16, .int .i64 (k : Int)), (3, .int .i64 (mm : Int))] ∧ PLe G0 G ∧ Hp w0 G0 [] w G [] ∧ (k ≤ t.kids.length ∧ mm = Nd.cnts (t.kids.take k) + (t.kids.length - k)) ∧ m = (t.kids.length - k)) (h0 := ⟨0, t.kids.length, _, Z, PLe.refl _, H, ?inv, Z⟩) (round := ?round)
 case inv => simp [Nd.cnts]
 case round =>
  rintro _ w1 _ ⟨k, mm, G1, rfl, hle1, H, hinv1, rfl⟩
  have hrkt := hrkt.up hle1
  obtain ⟨hk, hm⟩ := hinv1; have hct2 := Nd.cnts_take t.kids k; have hct3 := Nd.cnt_eq t; have hkl := Nd.kids_le t
  refine q2 (o_lss Z Z Z (q3 (W_seq ?_)))
  refine W_cond Z ?_ ?_
  ·intro hc2
   try simp only [nrm] at hc2
   refine W_skip (N_K (W_seq (W_block (q2 (o_index_P k hrkt underlying162 sizeOf93 Z Z Z Z aN ?_))))); intro b3 o3 z3 q3 hz3 hE3 hrow3
   obtain ⟨rfl, hnd3⟩ := hE3; obtain ⟨hnl3, na3, nm3, nc3, nA3, nM3, nC3, hpr3, hri3, hrk3⟩ := hnd3.open; have hn_hri3 := hri3.len; have hx_hri3 : _ ≤ 1099511627776 := hri3.lim; have hn_hrk3 := hrk3.len; have hx_hrk3 : _ ≤ 1099511627776 := hrk3.lim
   have hzm := List.mem_of_getElem? hz3; have hzc := Nd.kid_cnt hzm; have hzs := Nd.size_kid hzm
   refine o_load_P H isAgg93 Z Z (hrow3 0 _ Z) (aG Z (q3 (W_region (mV Z (mV Z (o_call call171 Z Z (ih _ _ H.sub _ hnd3 oM oM) ?_))))))
   rintro _ w4 ⟨rfl, ew4⟩; have H := H.step ew4; refine ⟨_, rfl, ?_⟩
   refine o_add Z Z Z oO (aG Z (R_nil (N_B (N_K (W_region (o_add Z Z Z oO (mV Z (R_nil ?_))))))))
   refine N_lp (hJ := ⟨k + 1, (mm + z3.cnt), _, Z, hle1, H, ?inv, Z⟩) (hm := ?hm)
   case hm => omega
   case inv => exact ⟨by omega, by (rw [Nd.cnts_succ hz3]; omega)⟩
  intro hc2'
  try simp only [nrm] at hc2'
  refine W_exit (N_K_exit (N_LP_exit (N_B_same (N_K (q2 (mV Z (aG Z (q3 (W_ret (rt1 results171 Z ?_))))))))))
  exact H.rets (congrArg (fun j : Nat => Value.int .i64 (j : Int)) (by (rw [hm, List.take_of_length_le oM]); omega))
theorem i_count_c (w0 : World) (G0 : PH) (hG : PSub G0 w0) (t : Nd) (hndt : RdN G0 t) (hct : t.cnt ≤ 100000) :
  Calls Tryz.prog 171 #[.pointer (some ⟨t.b, 0, none⟩)] w0 (Rets w0 (.int .i64 (t.cnt : Nat))) := i_count_r _ w0 G0 hG t hndt hct (Nat.le_refl _)
theorem i_put_n_c (w0 : World) (G0 : PH) (hG : PSub G0 w0) (Ft : Fr) (t : Nd) (hNt : NdO 166 93 G0 t Ft) (cx : List Value) (x : BItem) (hx : itemE G0 x cx) (hLent : Lent w0 G0 [frag Ft]) (hwt : t.wf) (hct : t.cnt ≤ 1000) :
  Calls Tryz.prog 135 #[.pointer (some ⟨t.b, 0, none⟩), .agg cx.toArray] w0 (RetM w0 G0 (fps [frag Ft]) (fun G' v Bs => ∃ (nb : Nat) (F' : Fr) (t' : Nd), v = .bool (t.putN x nb).isSome ∧ Bs = [frag F'] ∧ NdO 166 93 G' t' F' ∧ t'.b = t.b ∧ (t.putN x nb).getD t = t')) := by
 obtain ⟨a1, m1, c1, rfl, hi1, hr1⟩ := hx; have hy_hi1 : _ ≤ 16777216 := hi1; have hn_hr1 := hr1.len; have hx_hr1 : _ ≤ 1099511627776 := hr1.lim
 have H : Hp w0 G0 (fps [frag Ft]) w0 G0 [frag Ft] := hLent.hp
 refine calls_of_W (l := [.pointer (some ⟨t.b, 0, none⟩), _]) func135 Z ntmps135 Z (q2 (o_box H Z Z Z ?_)); intro b2 w2 hb2 H
 refine aG Z (q1 (mV Z (o_fieldAddr 0 runUnderlying66 Z sizeOf9 Z Z Z (o_load_B 0 H isAgg9 Z Z Z Z (o_call call134 Z Z (i_find_n_c _ _ (H.lendSubL [1]) _ ((H.lendN (k := 1) (ks := [1]) Z Z hNt).at (show Nd.at_ t [] = some t from Z)) _ hi1 hwt) ?_)))))
 rintro _ w3 ⟨_, rfl, ew3, ⟨hfi3, rfl⟩ | ⟨d3, hfi3, rfl⟩⟩
 ·skip
  have H := H.step ew3; refine ⟨_, rfl, ?_⟩
  refine aG Z (q3 (W_seq (q2 (mV Z (o_eqnil_ptr underlying93 Z Z Z (q3 (W_true Z (q2 (mV Z (o_call call171 Z Z (i_count_c _ _ (H.lendSubL [1]) _ ((H.lendN (k := 1) (ks := [1]) Z Z hNt).at (show Nd.at_ t [] = some t from Z)) oM) ?_))))))))))
  rintro _ w4 ⟨rfl, ew4⟩; have H := H.step ew4; refine ⟨_, rfl, ?_⟩
  refine o_lss Z Z Z (mV Z ?_)
  refine R_case (t := 15) Z ?_ ?_
  ·intro hc5
   try simp only [nrm] at hc5
   refine gR Z (mV Z (gR Z (o_loadagg_B 0 H isAgg66 sizeOf66 Z Z Z Z Z (gR Z ?_))))
   have H := H.toFront (k := 1) rfl
   refine o_call call172 Z Z (i_insert_c _ _ H.sub _ _ hNt _ x ⟨_, _, _, Z, hi1, hr1⟩ H.lent1 hwt hct) ?_
   rintro _ w6 ⟨G6, _, _, rfl, H6', ⟨nb6, F6, t6, rfl, rfl, hN6, hb6, ht6⟩⟩
   have H := H.borrow1 H6'
   try rw [← hb6]
   refine ⟨_, Z, ?_⟩
   refine o_pick_t Z Z Z (aG Z (q3 (W_ret (N_K_ret (rt1 results135 Z ?_)))))
   have H := H.del (k := 1) rfl
   have hput := Nd.put_ins (nb := nb6) hfi3 oM
   exact H.retM ⟨nb6, _, _, by (rw [hput]; rfl), rfl, hN6, by (first | exact hb6 | rfl), by (rw [hput]; exact ht6)⟩
  intro hc5'
  try simp only [nrm] at hc5'
  refine rP Z (rP Z (rP Z (o_pick_f Z Z Z (aG Z (q3 (W_ret (N_K_ret (rt1 results135 Z ?_))))))))
  have H := H.del (k := 0) rfl
  have hput := Nd.put_no1 (nb := 0) hfi3 oM
  exact H.retM ⟨0, _, _, by (rw [hput]; rfl), rfl, hNt, rfl, by (rw [hput]; rfl)⟩
 skip
 have H := H.step ew3; refine ⟨_, rfl, ?_⟩
 refine aG Z (q3 (W_seq (q2 (mV Z (o_eqnil_ptr underlying93 Z Z Z (q3 (W_false Z (W_skip (N_K (W_seq (q2 ?_)))))))))))
 have H := H.toFront (k := 1) rfl
 obtain ⟨oa, om, oc, okv, oFs, oR, H, ohri, ohNs, ohnl, ohkl, hcov, hclose⟩ := Hp.openNode H hNt (Nd.find_at_ hfi3)
 obtain ⟨oak, ock, rfl⟩ := H.accShape (k := 1) rfl; have hdo := PLe.refl G0; have hn_ohri := ohri.len
 refine mV Z (o_nilCheck Z Z (o_fieldAddr 1 runUnderlying166 Z sizeOf4 Z Z Z (o_load_B 0 H isAgg4 Z Z Z Z (mV Z ?_))))
 refine R_case (t := 24) Z ?_ ?_
 ·intro hc7
  try simp only [nrm] at hc7
  refine rP Z (rP Z (o_pick_t Z Z Z (q3 (W_true Z (q2 (aG Z (q3 (W_ret (N_K_ret (rt1 results135 Z ?_))))))))))
  have H := H.del (k := 3) rfl
  have H := H.toFront (k := 2) rfl
  have H := H.toFront (k := 2) rfl
  have H := H.toFront (k := 2) rfl
  obtain ⟨F2, H, hN2, hb2⟩ := hclose (Fs' := oFs) H (List.Perm.refl _) hdo ohri ohNs oM
  have hN2 := (Nd.upd_same (Nd.find_at_ hfi3)) ▸ hN2
  have hput := Nd.put_no2 (x := x) (nb := 0) hfi3 (by simp_all)
  exact H.retM ⟨0, _, _, by (rw [hput]; rfl), rfl, hN2, rfl, by (rw [hput]; rfl)⟩
 intro hc7'
 try simp only [nrm] at hc7'
 refine gR Z (o_fieldAddr 1 runUnderlying66 Z sizeOf4 Z Z Z (gR Z (o_load_B 3 H isAgg4 Z Z Z Z (o_pick_f Z Z Z (q3 ?_)))))
 refine W_cond Z ?_ ?_
 ·intro hc8
  try simp only [nrm] at hc8
  refine q2 (aG Z (q3 (W_ret (N_K_ret (rt1 results135 Z ?_)))))
  have H := H.del (k := 3) rfl
  have H := H.toFront (k := 2) rfl
  have H := H.toFront (k := 2) rfl
  have H := H.toFront (k := 2) rfl
  obtain ⟨F2, H, hN2, hb2⟩ := hclose (Fs' := oFs) H (List.Perm.refl _) hdo ohri ohNs oM
  have hN2 := (Nd.upd_same (Nd.find_at_ hfi3)) ▸ hN2
  have hput := Nd.put_no2 (x := x) (nb := 0) hfi3 (by simp_all)
  exact H.retM ⟨0, _, _, by (rw [hput]; rfl), rfl, hN2, rfl, by (rw [hput]; rfl)⟩
 intro hc8'
 try simp only [nrm] at hc8'
 refine W_skip (N_K (q2 (mV Z (o_fieldAddr 2 runUnderlying66 Z sizeOf41 Z Z Z (o_load_B 3 H isAgg41 Z Z Z Z (o_call call173 Z Z (l_Clone_c _ _ H.sub _ _ hr1 ) ?_))))))
 rintro _ w9 ⟨G9, v9, _, g9, rfl, ⟨cs9, rfl, hchk9⟩, hp9, hq9, hs9⟩
 have H := H.growO g9 hp9 hq9 hs9; obtain ⟨av9, cv9, rfl⟩ := H.accShape (k := 0) rfl
 have ohNs := ohNs.up g9.le
 have hdo := hdo.trans g9.le
 refine ⟨_, Z, ?_⟩
 obtain ⟨G10, H, hsg10, hsr10⟩ := H.shutL (k := 0) rfl (H.apart (k := 0) (ks := [1, 2, 3]) rfl rfl (by intro b hb; rcases hcov b hb with h | h | h; (· exact fpsAt_mem (k := 1) rfl rfl b (by simp [blk, h])); (· exact fpsAt_mem (k := 2) rfl rfl b h); (· exact fpsAt_mem (k := 3) rfl rfl b h))) hchk9 aN aN
 have ohNs := ohNs.up hsg10
 have hdo := hdo.trans hsg10
 refine o_nilCheck Z Z (o_fieldAddr 2 runUnderlying166 Z sizeOf41 Z Z Z (o_store_B 0 H sizeOf41 Z Z Z Z Z Z Z Z ?_)); intro w11 H
 refine q1 (aG Z (q3 (W_ret (rt1 results135 Z ?_))))
 have H := H.del (k := 3) rfl
 have H := H.toFront (k := 2) rfl
 have H := H.toFront (k := 2) rfl
 have H := H.toFront (k := 2) rfl
 obtain ⟨F2, H, hN2, hb2⟩ := hclose (ids' := x.ids) (Fs' := oFs) H (List.Perm.refl _) hdo hsr10 ohNs oM
 have hput := Nd.put_set (nb := 0) hfi3 (by simp_all)
 exact H.retM ⟨0, _, _, by (rw [hput]; rfl), rfl, hN2, hb2, by (rw [hput]; rfl)⟩
end Go.Proofs.Tst

namespace Go.Proofs.Tst
open Go Fw Tryz
theorem i_vwrite_c (w0 : World) (G0 : PH) (hG : PSub G0 w0) (mb : Nat) (es : Array MapEntry) (ck : Nat) (xs : List (Int × Value)) (T : Nd) (FT : Fr) (L : List BHeld) (l : List BItem) (hm : MapIs (Value.int .i64) es ck xs) (hS : StR G0 xs L) (hN : NdO 166 93 G0 T FT) (hT : Nd.TOK T l) (hH : Sp.Hol L l) (path : Bs) (hpath : path.length ≤ 16777216) (vbytes : Value) (bytes : List (Int)) (hbytes : RdI G0 vbytes bytes) (hLent : Lent w0 G0 [blk mb (.map es ck), frag FT]) (hB : Sp.FileValid bytes = true) :
  Calls Tryz.prog 76 #[.agg #[.map (some mb), .pointer (some ⟨T.b, 0, none⟩)], str path, vbytes] w0 (RetM w0 G0 (fps [blk mb (.map es ck), frag FT]) (fun G' v Bs => ∃ (es' : Array MapEntry) (ck' : Nat) (xs' : List (Int × Value)) (F' : Fr) (T' : Nd) (L' : List BHeld), v = .bool ((Sp.l11Write ⟨L, l⟩ path bytes)).isSome ∧ Bs = [blk mb (.map es' ck'), frag F'] ∧ MapIs (Value.int .i64) es' ck' xs' ∧ StR G' xs' L' ∧ Sp.VH L' ∧ NdO 166 93 G' T' F' ∧ T'.b = T.b ∧ ∀ u', (Sp.l11Write ⟨L, l⟩ path bytes) = some u' → L' = u'.store ∧ Nd.TOK T' u'.tree ∧ Sp.Hol u'.store u'.tree)) := by
 obtain ⟨abytes, kbytes, rfl⟩ := hbytes.shape
 have hlimbytes : bytes.length ≤ 1099511627776 := hbytes.lim
 have H : Hp w0 G0 (fps [blk mb (.map es ck), frag FT]) w0 G0 [blk mb (.map es ck), frag FT] := hLent.hp
 have hVd := hH.vh; have hTc := hT.cnt; have hTl := hH.vt.len
 refine calls_of_W (l := [_, str path, .slice abytes bytes.length kbytes]) func76 Z ntmps76 Z (q2 (o_box H Z Z Z ?_)); intro b1 w1 hb1 H
 refine aG Z (q3 (W_seq (q2 (mV Z (o_call call132 Z Z (i_PathValid_c _ _ H.sub _ hpath ) ?_)))))
 rintro _ w2 ⟨rfl, ew2⟩; have H := H.step ew2; refine ⟨_, rfl, ?_⟩
 refine o_not Z Z (q3 ?_)
 refine W_cond Z ?_ ?_
 ·intro hc3
  try simp only [nrm] at hc3
  refine q2 (aG Z (q3 (W_ret (N_K_ret (rt1 results76 Z ?_)))))
  have H := H.del (k := 0) rfl
  have H := H.toFront (k := 1) rfl
  have H := H.toFront (k := 1) rfl
  have hno : Sp.l11Write ⟨L, l⟩ path bytes = none := Sp.write_nop (by simpa using hc3)
  exact H.retM ⟨_, _, _, _, _, _, congrArg Value.bool (by (rw [hno]; rfl)), rfl, hm, hS, hVd, hN, rfl, fun u' h => (by rw [hno] at h; cases h)⟩
 intro hc3'
 try simp only [nrm] at hc3'
 refine W_skip (N_K (q2 (o_fieldAddr 0 runUnderlying95 Z sizeOf92 Z Z Z (o_load_B 0 H isAgg92 Z Z Z Z (mV Z ?_)))))
 have H := H.toFront (k := 1) rfl
 refine o_call call133 Z Z (i_storeFile_c _ _ H.sub _ _ _ _ _ hm hS hVd _ _ hbytes H.lent1 hB) ?_
 rintro _ w4 ⟨G4, _, _, rfl, H4', ⟨es4, ck4, xs4, L4, u4, c4, ids4, rfl, rfl, hm4, hS4, hV4, hL4, hchk4, hidl4⟩⟩
 have hN := hN.up H4'.le
 have H := H.borrow1 H4'
 obtain ⟨avr4, cvr4, rfl⟩ := H.accShape (k := 0) rfl
 refine ⟨_, Z, ?_⟩
 refine mV Z (o_extract Z Z Z (o_extract Z Z Z (aG Z (aG Z (q3 (W_seq (q2 (mV Z (o_not Z Z (q3 ?_))))))))))
 refine W_cond Z ?_ ?_
 ·intro hc5
  try simp only [nrm] at hc5
  refine q2 (aG Z (q3 (W_ret (N_K_ret (rt1 results76 Z ?_)))))
  have H := H.del (k := 0) rfl
  have H := H.del (k := 1) rfl
  have H := H.toFront (k := 1) rfl
  have H := H.toFront (k := 1) rfl
  have hno : Sp.l11Write ⟨L, l⟩ path bytes = none := Sp.l11Write_1 (v := ⟨L, l⟩) (by simpa using hc5)
  exact H.retM ⟨_, _, _, _, _, _, congrArg Value.bool (by (rw [hno]; rfl)), rfl, hm4, hS4, hV4, hN, rfl, fun u' h => (by rw [hno] at h; cases h)⟩
 intro hc5'
 try simp only [nrm] at hc5'
 refine W_skip (N_K (q2 ?_))
 obtain ⟨G6, H, hsg6, hsr6⟩ := H.shutL (k := 0) rfl (H.apart (k := 0) (ks := [1, 3]) rfl rfl (by intro b hb; simp only [fps, List.flatMap_cons, List.flatMap_nil, List.append_nil, List.mem_append] at hb; rcases hb with h | h; (· exact fpsAt_mem (k := 1) rfl rfl b (by exact h)); (· exact fpsAt_mem (k := 3) rfl rfl b (by exact h)))) hchk4 aN aN
 have hN := hN.up hsg6
 have hS4 := hS4.up hsg6
 refine aG Z (q3 (W_seq (q2 (o_fieldAddr 1 runUnderlying95 Z sizeOf93 Z Z Z (o_load_B 1 H isAgg93 Z Z Z Z (mV Z (o_call call134 Z Z (i_find_n_c _ _ (H.lendSubL [2]) _ ((H.lendN (k := 2) (ks := [2]) Z Z hN).at (show Nd.at_ T [] = some T from Z)) _ hpath hT.wf) ?_)))))))
 rintro _ w7 ⟨_, rfl, ew7, ⟨hfi7, rfl⟩ | ⟨d7, hfi7, rfl⟩⟩
 ·skip
  have H := H.step ew7; refine ⟨_, rfl, ?_⟩
  refine aG Z (q1 (mV Z (o_nenil_ptr underlying93 Z Z Z (q3 (W_false Z (W_skip (N_K (q2 (o_fieldAddr 1 runUnderlying95 Z sizeOf93 Z Z Z (o_load_B 1 H isAgg93 Z Z Z Z (mV Z (mV Z (o_build bf66 Z Z Z ?_)))))))))))))
  have H := H.toFront (k := 2) rfl
  refine o_call call135 Z Z (i_put_n_c _ _ H.sub _ _ hN _ ⟨path, false, ids4⟩ ⟨_, _, _, Z, hpath, hsr6⟩ H.lent1 hT.wf oM) ?_
  rintro _ w8 ⟨G8, _, _, rfl, H8', ⟨nb8, F8, t8, rfl, rfl, hN8, hb8, ht8⟩⟩
  have hS4 := hS4.up H8'.le
  have H := H.borrow1 H8'
  try rw [← hb8]
  refine ⟨_, Z, ?_⟩
  refine mV Z ?_
  refine R_case (t := 39) Z ?_ ?_
  ·intro hc9
   try simp only [nrm] at hc9
   refine gR Z (o_fieldAddr 0 runUnderlying95 Z sizeOf92 Z Z Z (gR Z (o_load_B 2 H isAgg92 Z Z Z Z (gR Z (mV Z (gR Z ?_))))))
   have H := H.toFront (k := 1) rfl
   refine o_call call136 Z Z (i_freeFile_c _ _ H.sub _ _ _ _ _ hm4 hS4 hV4 _ _ (RdS.nil _ _ _) H.lent1 ) ?_
   rintro _ w10 ⟨G10, _, _, rfl, H10', ⟨es10, ck10, xs10, L10, rfl, rfl, hm10, hS10, hV10, hL10⟩⟩
   have hN8 := hN8.up H10'.le
   have H := H.borrow1 H10'
   refine ⟨_, Z, ?_⟩
   refine o_pick_t Z Z Z (aG Z (q3 (W_ret (rt1 results76 Z ?_))))
   have H := H.del (k := 2) rfl
   have H := H.toFront (k := 1) rfl
   have H := H.toFront (k := 1) rfl
   obtain ⟨r, hr⟩ := Option.isSome_iff_exists.1 (show (Sp.FileStore L bytes).isSome = true by simpa using hc5')
   have hst : Sp.FileStore L bytes = some (L4, ids4) := hr.trans (congrArg some (hL4 r hr))
   have hpt : T.putN ⟨path, false, ids4⟩ nb8 = some t8 := by (obtain ⟨q, hq⟩ := Option.isSome_iff_exists.1 (show (T.putN ⟨path, false, ids4⟩ nb8).isSome = true by simpa using hc9); (rw [← ht8, hq]; rfl))
   obtain ⟨s', tt, g1, g2, g3, g4⟩ := Sp.write_fin hH hT (show Sp.PathValid path = true by simpa using hc3') hst hpt (.inl ⟨hfi7, rfl⟩)
   exact H.retM ⟨_, _, _, _, _, _, congrArg Value.bool (by (rw [g1, g2]; rfl)), rfl, hm10, hS10, hV10, hN8, (by first | rfl | exact hb8), fun u' h => (by rw [g2] at h; cases h; exact ⟨hL10 _ g1, g3, g4⟩)⟩
  intro hc9'
  try simp only [nrm] at hc9'
  refine rP Z (rP Z (rP Z (rP Z (o_pick_f Z Z Z (aG Z (q3 (W_ret (rt1 results76 Z ?_))))))))
  have H := H.del (k := 2) rfl
  have H := H.toFront (k := 1) rfl
  obtain ⟨r, hr⟩ := Option.isSome_iff_exists.1 (show (Sp.FileStore L bytes).isSome = true by simpa using hc5')
  have hst : Sp.FileStore L bytes = some (L4, ids4) := hr.trans (congrArg some (hL4 r hr))
  have hno : Sp.l11Write ⟨L, l⟩ path bytes = none := Sp.write_no2 (nb := nb8) hH hT (show Sp.PathValid path = true by simpa using hc3') hst (by simpa using hc9')
  exact H.retM ⟨_, _, _, _, _, _, congrArg Value.bool (by (rw [hno]; rfl)), rfl, hm4, hS4, hV4, hN8, (by first | rfl | exact hb8), fun u' h => (by rw [hno] at h; cases h)⟩
 skip
 have H := H.step ew7; refine ⟨_, rfl, ?_⟩
 refine aG Z (q1 (mV Z (o_nenil_ptr underlying93 Z Z Z (q3 (W_true Z (W_region ?_))))))
 have H := H.toFront (k := 2) rfl
 obtain ⟨oa, om, oc, okv, oFs, oR, H, ohri, ohNs, ohnl, ohkl, hcov, hclose⟩ := Hp.openNode H hN (Nd.find_at_ hfi7)
 obtain ⟨oak, ock, rfl⟩ := H.accShape (k := 1) rfl; have hdo := PLe.refl G6; have hn_ohri := ohri.len
 refine mV Z (o_nilCheck Z Z (o_fieldAddr 2 runUnderlying166 Z sizeOf41 Z Z Z (o_load_B 0 H isAgg41 Z Z Z Z (aG Z (q1 ?_)))))
 have H := H.toFront (k := 4) rfl
 have H := H.toFront (k := 4) rfl
 have H := H.toFront (k := 4) rfl
 have H := H.toFront (k := 4) rfl
 have H := H.toFront (k := 4) rfl
 obtain ⟨F2, H, hN2, hb2⟩ := hclose (Fs' := oFs) H (List.Perm.refl _) hdo ohri ohNs oM
 have hN2 := (Nd.upd_same (Nd.find_at_ hfi7)) ▸ hN2
 refine o_fieldAddr 1 runUnderlying95 Z sizeOf93 Z Z Z (o_load_B 2 H isAgg93 Z Z Z Z (mV Z (mV Z (o_build bf66 Z Z Z (o_call call135 Z Z (i_put_n_c _ _ H.sub _ _ hN2 _ ⟨path, false, ids4⟩ ⟨_, _, _, Z, hpath, hsr6⟩ H.lent1 hT.wf oM) ?_)))))
 rintro _ w11 ⟨G11, _, _, rfl, H11', ⟨nb11, F11, t11, rfl, rfl, hN11, hb11, ht11⟩⟩
 have hS4 := hS4.up H11'.le
 have ohri := ohri.up H11'.le
 have H := H.borrow1 H11'
 try rw [← hb11]
 refine ⟨_, Z, ?_⟩
 refine mV Z ?_
 refine R_case (t := 39) Z ?_ ?_
 ·intro hc12
  try simp only [nrm] at hc12
  refine gR Z (o_fieldAddr 0 runUnderlying95 Z sizeOf92 Z Z Z (gR Z (o_load_B 2 H isAgg92 Z Z Z Z (gR Z (mV Z (gR Z ?_))))))
  have H := H.toFront (k := 1) rfl
  refine o_call call136 Z Z (i_freeFile_c _ _ H.sub _ _ _ _ _ hm4 hS4 hV4 _ _ ohri H.lent1 ) ?_
  rintro _ w13 ⟨G13, _, _, rfl, H13', ⟨es13, ck13, xs13, L13, rfl, rfl, hm13, hS13, hV13, hL13⟩⟩
  have hN11 := hN11.up H13'.le
  have H := H.borrow1 H13'
  refine ⟨_, Z, ?_⟩
  refine o_pick_t Z Z Z (aG Z (q3 (W_ret (rt1 results76 Z ?_))))
  have H := H.del (k := 2) rfl
  have H := H.toFront (k := 1) rfl
  have H := H.toFront (k := 1) rfl
  obtain ⟨r, hr⟩ := Option.isSome_iff_exists.1 (show (Sp.FileStore L bytes).isSome = true by simpa using hc5')
  have hst : Sp.FileStore L bytes = some (L4, ids4) := hr.trans (congrArg some (hL4 r hr))
  have hpt : T.putN ⟨path, false, ids4⟩ nb11 = some t11 := by (obtain ⟨q, hq⟩ := Option.isSome_iff_exists.1 (show (T.putN ⟨path, false, ids4⟩ nb11).isSome = true by simpa using hc12); (rw [← ht11, hq]; rfl))
  obtain ⟨s', tt, g1, g2, g3, g4⟩ := Sp.write_fin hH hT (show Sp.PathValid path = true by simpa using hc3') hst hpt (.inr ⟨d7, hfi7, rfl⟩)
  exact H.retM ⟨_, _, _, _, _, _, congrArg Value.bool (by (rw [g1, g2]; rfl)), rfl, hm13, hS13, hV13, hN11, (by first | rfl | exact hb11), fun u' h => (by rw [g2] at h; cases h; exact ⟨hL13 _ g1, g3, g4⟩)⟩
 intro hc12'
 try simp only [nrm] at hc12'
 refine rP Z (rP Z (rP Z (rP Z (o_pick_f Z Z Z (aG Z (q3 (W_ret (rt1 results76 Z ?_))))))))
 have H := H.del (k := 2) rfl
 have H := H.toFront (k := 1) rfl
 obtain ⟨r, hr⟩ := Option.isSome_iff_exists.1 (show (Sp.FileStore L bytes).isSome = true by simpa using hc5')
 have hst : Sp.FileStore L bytes = some (L4, ids4) := hr.trans (congrArg some (hL4 r hr))
 have hno : Sp.l11Write ⟨L, l⟩ path bytes = none := Sp.write_no2 (nb := nb11) hH hT (show Sp.PathValid path = true by simpa using hc3') hst (by simpa using hc12')
 exact H.retM ⟨_, _, _, _, _, _, congrArg Value.bool (by (rw [hno]; rfl)), rfl, hm4, hS4, hV4, hN11, (by first | rfl | exact hb11), fun u' h => (by rw [hno] at h; cases h)⟩
end Go.Proofs.Tst

namespace Go.Proofs.Tst
open Go Fw Tryz
theorem i_dwrite_c (w0 : World) (G0 : PH) (hG : PSub G0 w0) (db mb : Nat) (es : Array MapEntry) (ck : Nat) (xs : List (Int × Value)) (T : Nd) (FT : Fr) (sv : Value) (sn : List (Bs × Nd)) (c : List Value) (FSq : Fr) (d : BDisk) (hm : MapIs (Value.int .i64) es ck xs) (hS : StR G0 xs d.store) (hN : NdO 166 93 G0 T FT) (hT : Nd.TOK T d.tree) (hchk : Chk osE 2 G0 c sn) (hNs : NdsO 166 93 G0 (sn.map (·.2)) FSq) (hSn : SnOK sn d.snaps) (hdv : Sp.DiskValid d = true) (path : Bs) (hpath : path.length ≤ 16777216) (vbytes : Value) (bytes : List (Int)) (hbytes : RdI G0 vbytes bytes) (hLent : Lent w0 G0 [blk db (cl [.int .i32 0, .int .u32 0, .map (some mb), .pointer (some ⟨T.b, 0, none⟩), sv] 147), blk mb (.map es ck), frag FT, acc 151 2 sv sn.length c, frag FSq])  :
  Calls Tryz.prog 99 #[.pointer (some ⟨db, 0, none⟩), str path, vbytes] w0 (RetM w0 G0 (fps [blk db (cl [.int .i32 0, .int .u32 0, .map (some mb), .pointer (some ⟨T.b, 0, none⟩), sv] 147), blk mb (.map es ck), frag FT, acc 151 2 sv sn.length c, frag FSq]) (fun G' v Bs => ∃ (es' : Array MapEntry) (ck' : Nat) (xs' : List (Int × Value)) (F' : Fr) (T' : Nd) (sv' : Value) (sn' : List (Fw.Bs × Nd)) (c' : List Value) (FSq' : Fr) (L' : List BHeld), v = .bool (Sp.DiskWrite d path bytes).isSome ∧ Bs = [blk db (cl [.int .i32 0, .int .u32 0, .map (some mb), .pointer (some ⟨T'.b, 0, none⟩), sv'] 147), blk mb (.map es' ck'), frag F', acc 151 2 sv' sn'.length c', frag FSq'] ∧ MapIs (Value.int .i64) es' ck' xs' ∧ StR G' xs' L' ∧ Sp.VH L' ∧ NdO 166 93 G' T' F' ∧ Chk osE 2 G' c' sn' ∧ NdsO 166 93 G' (sn'.map (·.2)) FSq' ∧ ∀ d', Sp.DiskWrite d path bytes = some d' → L' = d'.store ∧ Nd.TOK T' d'.tree ∧ SnOK sn' d'.snaps)) := by
 obtain ⟨abytes, kbytes, rfl⟩ := hbytes.shape
 have hlimbytes : bytes.length ≤ 1099511627776 := hbytes.lim
 have H : Hp w0 G0 (fps [blk db (cl [.int .i32 0, .int .u32 0, .map (some mb), .pointer (some ⟨T.b, 0, none⟩), sv] 147), blk mb (.map es ck), frag FT, acc 151 2 sv sn.length c, frag FSq]) w0 G0 [blk db (cl [.int .i32 0, .int .u32 0, .map (some mb), .pointer (some ⟨T.b, 0, none⟩), sv] 147), blk mb (.map es ck), frag FT, acc 151 2 sv sn.length c, frag FSq] := hLent.hp
 obtain ⟨adv, cdv, rfl⟩ := H.accShape (k := 3) rfl; have hVd := Sp.valid_iff.1 (Sp.dv_parts.1 hdv).1; have hTv := (Sp.dv_parts.1 hdv).2.1; have hTc := hT.cnt; have hTl := Sp.tree_len hTv; have hsnl := hSn.len; have hsn6 := (Sp.dv_parts.1 hdv).2.2.1
 have hHd := Sp.DHol.hol (ts := d.snaps.map (·.tree)) (Sp.dd_iff.1 hdv).2
 refine calls_of_WD (l := [.pointer (some ⟨db, 0, none⟩), str path, .slice abytes bytes.length kbytes]) func99 Z ntmps99 Z (q2 (aG Z (q1 (mV Z (o_nilCheck Z Z (o_fieldAddr 0 runUnderlying147 Z sizeOf144 Z Z Z (o_lock 0 H muLib Z call115 Z Z Z Z ?_))))))); intro w1 H
 refine q1 (mV Z (o_nilCheck Z Z (o_fieldAddr 0 runUnderlying147 Z sizeOf144 Z Z Z (o_defer Z (q1 (mV Z (o_call call75 Z Z (i_FileValid_c _ _ H.sub _ _ hbytes ) ?_)))))))
 rintro _ w2 ⟨rfl, ew2⟩; have H := H.step ew2; refine ⟨_, rfl, ?_⟩
 refine mV Z ?_
 refine R_case (t := 16) Z ?_ ?_
 ·intro hc3
  try simp only [nrm] at hc3
  refine gR Z (mV Z (gR Z (o_nilCheck Z Z (gR Z (o_fieldAddr 2 runUnderlying147 Z sizeOf95 Z Z Z (gR Z (o_loadagg_B 0 H isAgg95 sizeOf95 Z Z Z Z Z (gR Z (mV Z (gR Z (mV Z (gR Z ?_))))))))))))
  have H := H.toFront (k := 2) rfl
  have H := H.toFront (k := 2) rfl
  refine o_call call76 Z Z (i_vwrite_c _ _ H.sub _ _ _ _ _ _ _ _ hm hS hN hT hHd _ hpath _ _ hbytes H.lent2 (by assumption)) ?_
  rintro _ w4 ⟨G4, _, _, rfl, H4', ⟨es4, ck4, xs4, F4, T4, L4, rfl, rfl, hm4, hS4, hV4, hN4, hb4, hu4⟩⟩
  have hchk := hchk.up H4'.le
  have hNs := hNs.up H4'.le
  have H := H.borrow2 H4'
  try rw [← hb4]
  try rw [← hb4] at H
  refine ⟨_, Z, ?_⟩
  refine o_pick_t Z Z Z (aG Z (q3 (W_ret (ret_unlock 2 H muLib Z call116 Z Z (rs := [.tmp 6]) results99 ?_)))); intro wu1 H
  refine ⟨[_], ⟨Z, trivial⟩, ?_⟩
  have H := H.toFront (k := 4) rfl
  have H := H.toFront (k := 4) rfl
  have H := H.toFront (k := 3) rfl
  have H := H.toFront (k := 3) rfl
  have H := H.toFront (k := 4) rfl
  exact H.retM ⟨_, _, _, _, T4, _, sn, _, _, L4, congrArg Value.bool (by simp [Sp.DiskWrite, hdv, hc3]), rfl, hm4, hS4, hV4, hN4, hchk, hNs, fun d2 h => (by obtain ⟨_, _, v2, h1, rfl⟩ := Sp.dwrite_get h; obtain ⟨g1, g2, _⟩ := hu4 v2 h1; exact ⟨g1, g2, hSn⟩)⟩
 intro hc3'
 try simp only [nrm] at hc3'
 refine rP Z (rP Z (rP Z (rP Z (rP Z (rP Z (rP Z (o_pick_f Z Z Z (aG Z (q3 (W_ret (ret_unlock 0 H muLib Z call116 Z Z (rs := [.tmp 6]) results99 ?_))))))))))); intro wu2 H
 refine ⟨[_], ⟨Z, trivial⟩, ?_⟩
 have H := H.toFront (k := 4) rfl
 have H := H.toFront (k := 4) rfl
 have H := H.toFront (k := 4) rfl
 have H := H.toFront (k := 4) rfl
 have H := H.toFront (k := 4) rfl
 have hno : Sp.DiskWrite d path bytes = none := by simp [Sp.DiskWrite, hc3']
 exact H.retM ⟨_, _, _, _, T, _, sn, _, _, d.store, congrArg Value.bool (by (rw [hno]; rfl)), rfl, hm, hS, hVd, hN, hchk, hNs, fun d2 h => (by rw [hno] at h; cases h)⟩
end Go.Proofs.Tst

namespace Go.Proofs.Tst
open Go Fw Tryz
theorem i_DiskWrite1_c (w0 : World) (G0 : PH) (hG : PSub G0 w0) (db mb : Nat) (es : Array MapEntry) (ck : Nat) (xs : List (Int × Value)) (T : Nd) (FT : Fr) (sv : Value) (sn : List (Bs × Nd)) (c : List Value) (FSq : Fr) (d : BDisk) (hm : MapIs (Value.int .i64) es ck xs) (hS : StR G0 xs d.store) (hN : NdO 166 93 G0 T FT) (hT : Nd.TOK T d.tree) (hchk : Chk osE 2 G0 c sn) (hNs : NdsO 166 93 G0 (sn.map (·.2)) FSq) (hSn : SnOK sn d.snaps) (hdv : Sp.DiskValid d = true) (cp : Nat) (path : Bs) (hpath : path.length ≤ 16777216) (hcp : PRow G0 cp 0 [str path]) (cq : Nat) (abytes : Option Addr) (bytes : List Int) (kbytes : Nat) (hcq : PRow G0 cq 0 [.slice abytes bytes.length kbytes]) (hbytes : RdI G0 (.slice abytes bytes.length kbytes) bytes) (hLent : Lent w0 G0 [blk db (cl [.int .i32 0, .int .u32 0, .map (some mb), .pointer (some ⟨T.b, 0, none⟩), sv] 147), blk mb (.map es ck), frag FT, acc 151 2 sv sn.length c, frag FSq])  :
  Calls Tryz.prog 98 #[.pointer (some ⟨db, 0, none⟩), .pointer (some ⟨cp, 0, none⟩), .pointer (some ⟨cq, 0, none⟩)] w0 (RetM w0 G0 (fps [blk db (cl [.int .i32 0, .int .u32 0, .map (some mb), .pointer (some ⟨T.b, 0, none⟩), sv] 147), blk mb (.map es ck), frag FT, acc 151 2 sv sn.length c, frag FSq]) (fun G' v Bs => ∃ (es' : Array MapEntry) (ck' : Nat) (xs' : List (Int × Value)) (F' : Fr) (T' : Nd) (sv' : Value) (sn' : List (Fw.Bs × Nd)) (c' : List Value) (FSq' : Fr) (L' : List BHeld), v = .bool (Sp.DiskWrite d path bytes).isSome ∧ Bs = [blk db (cl [.int .i32 0, .int .u32 0, .map (some mb), .pointer (some ⟨T'.b, 0, none⟩), sv'] 147), blk mb (.map es' ck'), frag F', acc 151 2 sv' sn'.length c', frag FSq'] ∧ MapIs (Value.int .i64) es' ck' xs' ∧ StR G' xs' L' ∧ Sp.VH L' ∧ NdO 166 93 G' T' F' ∧ Chk osE 2 G' c' sn' ∧ NdsO 166 93 G' (sn'.map (·.2)) FSq' ∧ ∀ d', Sp.DiskWrite d path bytes = some d' → L' = d'.store ∧ Nd.TOK T' d'.tree ∧ SnOK sn' d'.snaps)) := by
 have hlimbytes : bytes.length ≤ 1099511627776 := hbytes.lim
 have H : Hp w0 G0 (fps [blk db (cl [.int .i32 0, .int .u32 0, .map (some mb), .pointer (some ⟨T.b, 0, none⟩), sv] 147), blk mb (.map es ck), frag FT, acc 151 2 sv sn.length c, frag FSq]) w0 G0 [blk db (cl [.int .i32 0, .int .u32 0, .map (some mb), .pointer (some ⟨T.b, 0, none⟩), sv] 147), blk mb (.map es ck), frag FT, acc 151 2 sv sn.length c, frag FSq] := hLent.hp
 obtain ⟨adv, cdv, rfl⟩ := H.accShape (k := 3) rfl; have hVd := Sp.valid_iff.1 (Sp.dv_parts.1 hdv).1; have hTv := (Sp.dv_parts.1 hdv).2.1; have hTc := hT.cnt; have hTl := Sp.tree_len hTv; have hsnl := hSn.len; have hsn6 := (Sp.dv_parts.1 hdv).2.2.1
 refine calls_of_W (l := [.pointer (some ⟨db, 0, none⟩), .pointer (some ⟨cp, 0, none⟩), .pointer (some ⟨cq, 0, none⟩)]) func98 Z ntmps98 Z (q2 (aG Z (q1 (mV Z (o_load_P H isAgg9 Z Z (hcp 0 _ Z) (o_load_P H isAgg41 Z Z (hcq 0 _ Z) ?_))))))
 have H := H.toFront (k := 4) rfl
 have H := H.toFront (k := 4) rfl
 have H := H.toFront (k := 4) rfl
 have H := H.toFront (k := 4) rfl
 have H := H.toFront (k := 4) rfl
 refine o_call call99 Z Z (i_dwrite_c _ _ H.sub _ _ _ _ _ _ _ _ _ _ _ _ hm hS hN hT hchk hNs hSn hdv _ hpath _ _ hbytes H.lent5 ) ?_
 rintro _ w1 ⟨G1, _, _, rfl, H1', ⟨es1, ck1, xs1, F1, T1, sv1, sn1, c1, FS1, L1, rfl, rfl, hm1, hS1, hV1, hN1, hchk1, hNs1, hd1⟩⟩
 have H := H.borrow5 H1'
 obtain ⟨avAd, cvAd, rfl⟩ := H.accShape (k := 3) rfl
 refine ⟨_, Z, ?_⟩
 refine aG Z (q3 (W_ret (rt1 results98 Z ?_)))
 have H := H.toFront (k := 4) rfl
 have H := H.toFront (k := 4) rfl
 have H := H.toFront (k := 4) rfl
 have H := H.toFront (k := 4) rfl
 have H := H.toFront (k := 4) rfl
 exact H.retM ⟨_, _, _, _, _, _, _, _, _, _, Z, Z, hm1, hS1, hV1, hN1, hchk1, hNs1, hd1⟩
end Go.Proofs.Tst

