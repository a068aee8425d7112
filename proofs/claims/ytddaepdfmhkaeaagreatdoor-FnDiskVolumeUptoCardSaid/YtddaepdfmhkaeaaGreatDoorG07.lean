/- Part 7 of the proof: contracts of functions of the program. Conditions: none. -/
import Derived.Test.YtddaepdfmhkaeaaGreatDoorProg
import Derived.Test.YtddaepdfmhkaeaaGreatDoorG02
import Derived.Test.YtddaepdfmhkaeaaGreatDoorG03
import Derived.Test.YtddaepdfmhkaeaaGreatDoorG04
import Derived.Test.YtddaepdfmhkaeaaGreatDoorG06
import Derived.Test.YtddaepdfmhkaeaaGreatDoorG05
set_option linter.all false
set_option maxRecDepth 100000
set_option maxHeartbeats 1000000
namespace Go.Proofs.Tst
open Go Fw Tryz
theorem l3With_c (w0 : World) (G0 : PH) (hG : PSub G0 w0) (vlist : Value) (list : List (BHeld)) (hlist : RdH G0 vlist list) (vbytes : Value) (bytes : List (Int)) (hbytes : RdI G0 vbytes bytes) (hS : list.length ≤ 1000000) :
  Calls Tryz.prog 192 #[vlist, vbytes] w0 (RetO w0 G0 (AccOf heldE 3 105 (Sp.l3With list bytes))) := by
 obtain ⟨alist, klist, rfl⟩ := hlist.shape
 have hlimlist : list.length ≤ 1099511627776 := hlist.lim
 obtain ⟨abytes, kbytes, rfl⟩ := hbytes.shape
 have hlimbytes : bytes.length ≤ 1099511627776 := hbytes.lim
 have hfr := Sp.free_lt list
 have H := Hp.init hG
 refine calls_of_W (l := [.slice alist list.length klist, .slice abytes bytes.length kbytes]) func192 Z ntmps192 Z (q2 (aG Z (q1 (mV Z (o_call call191 Z Z (l3Free_c _ _ H.sub _ _ hlist ) ?_)))))
 rintro _ w1 ⟨rfl, ew1⟩; have H := H.step ew1; refine ⟨_, rfl, ?_⟩
 refine aG Z (q1 (o_buildSlice H underlying23 sizeOf105 (fun w => ⟨_, zeroValue105 w, Z⟩) Z Z Z Z Z Z Z ?_)); intro b2 w2 hb2 H
 have H := H.blkAcc 3 (k := 0) (n := 0) rfl rfl (by decide)
 refine aG Z (q1 (aG Z (q1 (mV Z (o_buildSlice H underlying33 sizeOf3 (fun w => ⟨_, zeroValue3 w, Z⟩) Z Z Z Z Z Z Z ?_))))); intro b3 w3 hb3 H
 have H := H.blkAcc 1 (k := 0) (n := 0) rfl rfl (by decide)
 refine mV Z ?_
 refine o_append_P 0 H hbytes (by intro z cs hz u hu; obtain ⟨rfl, _⟩ := hz; simp at hu; subst hu; rfl) (sz := 1) (bytes := 8) underlying33 typeInfo3 ⟨_, rfl, rfl⟩ rfl rfl rfl rfl rfl rfl rfl oM rfl ?_; intro v4 w4 css4 hcl4 hcs4 H
 have hchk4 : Chk intE 1 G0 ([] ++ css4.flatten) _ := ⟨css4, rfl, hcl4, hcs4⟩
 obtain ⟨av4, cv4, rfl⟩ := H.accShape (k := 0) rfl
 refine o_build bf105 Z Z Z (o_alloc H zeroValue105 Z Z ?_); intro b5 w5 hb5 H
 refine o_store_B 0 H sizeOf105 Z Z Z Z Z Z Z Z ?_; intro w6 H
 refine q1 (mV Z (o_call call102 Z Z (l3Copy_c _ _ H.sub _ _ hlist ) ?_))
 rintro _ w7 ⟨G7, v7, _, g7, rfl, ⟨cs7, rfl, hchk7⟩, hp7, hq7, hs7⟩
 have H := H.growO g7 hp7 hq7 hs7; obtain ⟨av7, cv7, rfl⟩ := H.accShape (k := 0) rfl
 have hchk4 := hchk4.up g7.le
 refine ⟨_, Z, ?_⟩
 refine aG Z (q3 (W_seq (q2 (aG Z (q3 (W_block ?_))))))
 obtain ⟨G8, H, hsg8, hsr8⟩ := H.shut' (k := 2) rfl hchk4 aN aN
 have hchk7 := hchk7.up hsg8
 obtain ⟨G9, H, hsg9, hsr9⟩ := H.shut' (k := 0) rfl hchk7 aN aN
 have hsr8 := hsr8.up hsg9
 obtain ⟨ln10, hln10, H⟩ := H.name (k := 0) rfl
 refine W_lp (hf := (Sub.cons (t := 4) Z (Sub.cons (t := 5) Z (Sub.cons (t := 8) Z (Sub.cons (t := 9) Z Sub.nil))))) (J := fun M w m => ∃ (v : Value) (n : Nat) (cs : List Value) (xs : List (BHeld)) (d : Bool) (k : Nat) (G : PH), M = [(7, .bool d), (10, .int .i64 (k : Int)), (6, v)] ∧ PLe G9 G ∧ Hp w0 G0 [] w G [blk b5 (cl ln10 105), acc 105 3 v n cs] ∧ (Chk heldE 3 G cs xs ∧ n = xs.length ∧ k ≤ list.length ∧ xs.length ≤ k + 1 ∧ (d = false → xs = list.take k ∧ (list.take k).all (Sp.idF list) = true) ∧ (d = true → xs ++ list.drop k = Sp.l3With list bytes)) ∧ m = (list.length - k)) (h0 := ⟨_, _, _, [], false, 0, _, Z, PLe.refl _, H, ?inv, Z⟩) (round := ?round)
 case inv => exact ⟨(Chk.nil (E := heldE) (sz := 3) (G := G9)),  by first | rfl | simp | (simp; omega) | omega, (by simp)⟩
 case round =>
  rintro _ w11 _ ⟨v, n, cs, xs, d, k, G11, rfl, hle11, H, hinv11, rfl⟩
  subst hln10
  have hsr8 := hsr8.up hle11
  have hsr9 := hsr9.up hle11
  obtain ⟨hchk11_0, hn11_0, hinv11⟩ := hinv11
  obtain ⟨av11_0, cv11_0, rfl⟩ := H.accShape (k := 1) rfl
  obtain ⟨hk, hxl, hd0, hd1⟩ := hinv11
  refine W_seq (q2 (mV Z (mV Z (o_len_slice underlying23 Z Z (o_lss Z Z Z (q3 ?_))))))
  refine W_cond Z ?_ ?_
  ·intro hc12
   try simp only [nrm] at hc12
   refine W_skip (N_K (W_seq (W_block (W_seq (q2 (mV Z (o_not Z Z (mV Z ?_))))))))
   refine R_case (t := 29) Z ?_ ?_
   ·intro hc13
    try simp only [nrm] at hc13
    refine gR Z (mV Z (gR Z (mV Z (gR Z (o_index_P k hsr9 underlying23 sizeOf105 Z Z Z Z aN ?_))))); intro b14 o14 z14 q14 hz14 hE14 hrow14
    obtain ⟨a14, m14, c14, rfl, hi14, hr14, hj14⟩ := hE14; have hn_hr14 := hr14.len; have hx_hr14 : _ ≤ 1099511627776 := hr14.lim
    refine gR Z (o_fieldAddr 0 runUnderlying105 Z sizeOf3 Z Z Z (gR Z (o_load_P H isAgg3 Z Z (hrow14 0 _ Z) (gR Z (mV Z (gR Z (o_gtr Z Z Z (o_pick_t Z Z Z (q3 ?_)))))))))
    refine W_cond Z ?_ ?_
    ·intro hc15
     try simp only [nrm] at hc15
     refine q2 (mV Z (o_loadagg_B 0 H isAgg105 sizeOf105 Z Z Z Z Z (o_buildSlice H underlying23 sizeOf105 (fun w => ⟨_, zeroValue105 w, Z⟩) Z Z Z Z Z Z Z ?_))); intro b16 w16 hb16 H
     refine o_append1 1 H (sz := 3) (bytes := 40) underlying23 typeInfo105 ⟨_, Z, Z⟩ Z Z Z Z Z Z Z Z Z Z oM Z ?_; intro v17 w17 H
     have hchk17 := hchk11_0.snoc (show heldE _ ⟨(Sp.freeId list : Int), bytes, 1⟩ _ from ⟨_, _, _, rfl, ⟨by first | omega | (dsimp only; omega), by first | omega | (dsimp only; omega)⟩, hsr8, ⟨by first | omega | (dsimp only; omega), by first | omega | (dsimp only; omega)⟩⟩) rfl
     obtain ⟨av17, cv17, rfl⟩ := H.accShape (k := 1) rfl
     refine aG Z (q3 (W_region (aG Z (q3 (W_region (mV Z (mV Z (mV Z (o_index_P k hsr9 underlying23 sizeOf105 Z Z Z Z aN ?_))))))))); intro b18 o18 z18 q18 hz18 hE18 hrow18
     obtain ⟨a18, m18, c18, rfl, hi18, hr18, hj18⟩ := hE18; have hn_hr18 := hr18.len; have hx_hr18 : _ ≤ 1099511627776 := hr18.lim
     have hzz18 : z14 = z18 := Option.some.inj (hz14.symm.trans hz18)
     subst hzz18
     refine o_loadagg_P H isAgg105 sizeOf105 Z Z hrow18 Z (o_buildSlice H underlying23 sizeOf105 (fun w => ⟨_, zeroValue105 w, Z⟩) Z Z Z Z Z Z Z ?_); intro b19 w19 hb19 H
     refine o_append1 1 H (sz := 3) (bytes := 40) underlying23 typeInfo105 ⟨_, Z, Z⟩ Z Z Z Z Z Z Z Z Z Z oM Z ?_; intro v20 w20 H
     have hchk20 := hchk17.snoc (show heldE _ z14 _ from ⟨_, _, _, rfl, ⟨by first | omega | (dsimp only; omega), by first | omega | (dsimp only; omega)⟩, hr18, ⟨by first | omega | (dsimp only; omega), by first | omega | (dsimp only; omega)⟩⟩) rfl
     obtain ⟨av20, cv20, rfl⟩ := H.accShape (k := 1) rfl
     refine aG Z (R_nil (N_B (N_K (W_region (mV Z (o_add Z Z Z oO (aG Z (R_nil ?_))))))))
     refine N_lp (hJ := ⟨_, _, _, ((xs ++ [⟨(Sp.freeId list : Int), bytes, 1⟩]) ++ [z14]), true, k + 1, _, Z, hle11, H, ?inv, Z⟩) (hm := ?hm)
     case hm => omega
     case inv => exact ⟨hchk20, aN, (by exact ⟨by omega, by have := congrArg List.length (hd0 (by assumption)).1; simp at this ⊢; omega, by simp, fun _ => Sp.ins_new (F := Sp.idF list) (hd0 (by assumption)) hz14 (by simp [Sp.idF]; omega)⟩)⟩
    intro hc15'
    try simp only [nrm] at hc15'
    refine W_skip (N_K (W_region (mV Z (mV Z (mV Z (o_index_P k hsr9 underlying23 sizeOf105 Z Z Z Z aN ?_)))))); intro b22 o22 z22 q22 hz22 hE22 hrow22
    obtain ⟨a22, m22, c22, rfl, hi22, hr22, hj22⟩ := hE22; have hn_hr22 := hr22.len; have hx_hr22 : _ ≤ 1099511627776 := hr22.lim
    have hzz22 : z14 = z22 := Option.some.inj (hz14.symm.trans hz22)
    subst hzz22
    refine o_loadagg_P H isAgg105 sizeOf105 Z Z hrow22 Z (o_buildSlice H underlying23 sizeOf105 (fun w => ⟨_, zeroValue105 w, Z⟩) Z Z Z Z Z Z Z ?_); intro b23 w23 hb23 H
    refine o_append1 1 H (sz := 3) (bytes := 40) underlying23 typeInfo105 ⟨_, Z, Z⟩ Z Z Z Z Z Z Z Z Z Z oM Z ?_; intro v24 w24 H
    have hchk24 := hchk11_0.snoc (show heldE _ z14 _ from ⟨_, _, _, rfl, ⟨by first | omega | (dsimp only; omega), by first | omega | (dsimp only; omega)⟩, hr22, ⟨by first | omega | (dsimp only; omega), by first | omega | (dsimp only; omega)⟩⟩) rfl
    obtain ⟨av24, cv24, rfl⟩ := H.accShape (k := 1) rfl
    refine aG Z (R_nil (N_B (N_K (W_region (mV Z (o_add Z Z Z oO (aG Z (R_nil ?_))))))))
    refine N_lp (hJ := ⟨_, _, _, (xs ++ [z14]), d, k + 1, _, Z, hle11, H, ?inv, Z⟩) (hm := ?hm)
    case hm => omega
    case inv => exact ⟨hchk24, aN, (by first | exact ⟨by omega, by simp; omega, fun h => ⟨by rw [(hd0 h).1, Sp.take_succ' hz14], Sp.all_take (hd0 h).2 hz14 (by simp [Sp.idF]; omega)⟩, fun h => Sp.ins_old (hd1 h) hz14⟩ | exact ⟨by omega, by simp; omega, fun h => absurd h (by simp [*]), fun h => Sp.ins_old (hd1 h) hz14⟩)⟩
   intro hc13'
   try simp only [nrm] at hc13'
   refine rP Z (rP Z (rP Z (rP Z (rP Z (rP Z (rP Z (o_pick_f Z Z Z (q3 (W_false Z (W_skip (N_K (W_region (mV Z (mV Z (mV Z ?_)))))))))))))))
   refine o_index_P k hsr9 underlying23 sizeOf105 Z Z Z Z aN ?_; intro b26 o26 z26 q26 hz26 hE26 hrow26
   obtain ⟨a26, m26, c26, rfl, hi26, hr26, hj26⟩ := hE26; have hn_hr26 := hr26.len; have hx_hr26 : _ ≤ 1099511627776 := hr26.lim
   refine o_loadagg_P H isAgg105 sizeOf105 Z Z hrow26 Z (o_buildSlice H underlying23 sizeOf105 (fun w => ⟨_, zeroValue105 w, Z⟩) Z Z Z Z Z Z Z ?_); intro b27 w27 hb27 H
   refine o_append1 1 H (sz := 3) (bytes := 40) underlying23 typeInfo105 ⟨_, Z, Z⟩ Z Z Z Z Z Z Z Z Z Z oM Z ?_; intro v28 w28 H
   have hchk28 := hchk11_0.snoc (show heldE _ z26 _ from ⟨_, _, _, rfl, ⟨by first | omega | (dsimp only; omega), by first | omega | (dsimp only; omega)⟩, hr26, ⟨by first | omega | (dsimp only; omega), by first | omega | (dsimp only; omega)⟩⟩) rfl
   obtain ⟨av28, cv28, rfl⟩ := H.accShape (k := 1) rfl
   refine aG Z (R_nil (N_B (N_K (W_region (mV Z (o_add Z Z Z oO (aG Z (R_nil ?_))))))))
   refine N_lp (hJ := ⟨_, _, _, (xs ++ [z26]), d, k + 1, _, Z, hle11, H, ?inv, Z⟩) (hm := ?hm)
   case hm => omega
   case inv => exact ⟨hchk28, aN, (by first | exact ⟨by omega, by simp; omega, fun h => ⟨by rw [(hd0 h).1, Sp.take_succ' hz26], Sp.all_take (hd0 h).2 hz26 (by simp [Sp.idF]; omega)⟩, fun h => Sp.ins_old (hd1 h) hz26⟩ | exact ⟨by omega, by simp; omega, fun h => absurd h (by simp [*]), fun h => Sp.ins_old (hd1 h) hz26⟩)⟩
  intro hc12'
  try simp only [nrm] at hc12'
  refine W_exit (N_K_exit (N_LP_exit (N_B_same (N_K (W_seq (q2 (mV Z (o_not Z Z (q3 ?_)))))))))
  refine W_cond Z ?_ ?_
  ·intro hc30
   try simp only [nrm] at hc30
   refine W_region (mV Z (o_loadagg_B 0 H isAgg105 sizeOf105 Z Z Z Z Z (o_buildSlice H underlying23 sizeOf105 (fun w => ⟨_, zeroValue105 w, Z⟩) Z Z Z Z Z Z Z ?_))); intro b31 w31 hb31 H
   refine o_append1 1 H (sz := 3) (bytes := 40) underlying23 typeInfo105 ⟨_, Z, Z⟩ Z Z Z Z Z Z Z Z Z Z oM Z ?_; intro v32 w32 H
   have hchk32 := hchk11_0.snoc (show heldE _ ⟨(Sp.freeId list : Int), bytes, 1⟩ _ from ⟨_, _, _, rfl, ⟨by first | omega | (dsimp only; omega), by first | omega | (dsimp only; omega)⟩, hsr8, ⟨by first | omega | (dsimp only; omega), by first | omega | (dsimp only; omega)⟩⟩) rfl
   obtain ⟨av32, cv32, rfl⟩ := H.accShape (k := 1) rfl
   refine aG Z (q1 (mV Z (aG Z (q3 (W_ret (rt1 results192 Z ?_))))))
   have hx := hd0 (by assumption)
   rw [List.take_of_length_le oM] at hx
   obtain ⟨rfl, hx2⟩ := hx
   exact H.retO (k := 1) rfl (by rw [Sp.l3With_eq, ← Sp.ins_end _ hx2]; exact AccOf.mk aN hchk32) (acc_nd _ _ _ _ _)
  intro hc30'
  try simp only [nrm] at hc30'
  refine W_skip (N_K (q2 (mV Z (aG Z (q3 (W_ret (rt1 results192 Z ?_)))))))
  have hx := hd1 (by assumption)
  rw [List.drop_of_length_le oM, List.append_nil] at hx
  subst hx
  exact H.retO (k := 1) rfl (by skip; exact AccOf.mk aN hchk11_0) (acc_nd _ _ _ _ _)
end Go.Proofs.Tst

namespace Go.Proofs.Tst
open Go Fw Tryz
theorem StorePut_c (w0 : World) (G0 : PH) (hG : PSub G0 w0) (vlist : Value) (list : List (BHeld)) (hlist : RdH G0 vlist list) (vbytes : Value) (bytes : List (Int)) (hbytes : RdI G0 vbytes bytes) (hS : list.length ≤ 1000000) :
  Calls Tryz.prog 156 #[vlist, vbytes] w0 (RetO w0 G0 (fun G v r => ∃ u, v = .tuple #[u, .int .i64 (((Sp.StorePut list bytes).map (·.2)).getD 0), .bool (Sp.StorePut list bytes).isSome] ∧ AccOf heldE 3 105 (((Sp.StorePut list bytes).map (·.1)).getD []) G u r ∧ inI (((Sp.StorePut list bytes).map (·.2)).getD 0))) := by
 obtain ⟨alist, klist, rfl⟩ := hlist.shape
 have hlimlist : list.length ≤ 1099511627776 := hlist.lim
 obtain ⟨abytes, kbytes, rfl⟩ := hbytes.shape
 have hlimbytes : bytes.length ≤ 1099511627776 := hbytes.lim
 have H := Hp.init hG
 refine calls_of_W (l := [.slice alist list.length klist, .slice abytes bytes.length kbytes]) func156 Z ntmps156 Z (q2 (aG Z (aG Z (aG Z (q3 (W_seq (q2 (mV Z (o_call call96 Z Z (StoreValid_c _ _ H.sub _ _ hlist ) ?_)))))))))
 rintro _ w1 ⟨rfl, ew1⟩; have H := H.step ew1; refine ⟨_, rfl, ?_⟩
 refine o_not Z Z (mV Z ?_)
 refine R_case (t := 13) Z ?_ ?_
 ·intro hc2
  try simp only [nrm] at hc2
  refine rP Z (rP Z (rP Z (o_pick_t Z Z Z (q3 (W_true Z (q2 (o_buildSlice H underlying23 sizeOf105 (fun w => ⟨_, zeroValue105 w, Z⟩) Z Z Z Z Z Z Z ?_))))))); intro b3 w3 hb3 H
  have H := H.blkAcc 3 (k := 0) (n := 0) rfl rfl (by decide)
  refine aG Z (aG Z (aG Z (q3 (W_ret (N_K_ret (ret_gen (rs := [.tmp 4, .tmp 5, .tmp 6]) (vs := [_, _, _]) results156 ⟨Z, Z, Z, trivial⟩ ?_))))))
  have hN : Sp.StorePut list bytes = none := by simp [Sp.StorePut, hc2]
  exact H.retO (k := 0) rfl (by rw [hN]; exact ⟨_, rfl, AccOf.mk aN (Chk.nil (E := heldE) (sz := 3) (G := G0)), (by simp [inI])⟩) (acc_nd _ _ _ _ _)
 intro hc2'
 try simp only [nrm] at hc2'
 refine gR Z (mV Z (gR Z (o_call call143 Z Z (BlockValid_c _ _ H.sub _ _ hbytes ) ?_)))
 rintro _ w4 ⟨rfl, ew4⟩; have H := H.step ew4; refine ⟨_, rfl, ?_⟩
 refine gR Z (o_not Z Z (o_pick_f Z Z Z (q3 ?_)))
 refine W_cond Z ?_ ?_
 ·intro hc5
  try simp only [nrm] at hc5
  refine q2 (o_buildSlice H underlying23 sizeOf105 (fun w => ⟨_, zeroValue105 w, Z⟩) Z Z Z Z Z Z Z ?_); intro b6 w6 hb6 H
  have H := H.blkAcc 3 (k := 0) (n := 0) rfl rfl (by decide)
  refine aG Z (aG Z (aG Z (q3 (W_ret (N_K_ret (ret_gen (rs := [.tmp 4, .tmp 5, .tmp 6]) (vs := [_, _, _]) results156 ⟨Z, Z, Z, trivial⟩ ?_))))))
  have hN : Sp.StorePut list bytes = none := by simp [Sp.StorePut, hc5]
  exact H.retO (k := 0) rfl (by rw [hN]; exact ⟨_, rfl, AccOf.mk aN (Chk.nil (E := heldE) (sz := 3) (G := G0)), (by simp [inI])⟩) (acc_nd _ _ _ _ _)
 intro hc5'
 try simp only [nrm] at hc5'
 refine W_skip (N_K (q2 (mV Z (o_call call102 Z Z (l3Copy_c _ _ H.sub _ _ hlist ) ?_))))
 rintro _ w7 ⟨G7, v7, _, g7, rfl, ⟨cs7, rfl, hchk7⟩, hp7, hq7, hs7⟩
 have H := H.growO g7 hp7 hq7 hs7; obtain ⟨av7, cv7, rfl⟩ := H.accShape (k := 0) rfl
 have hlist := hlist.up g7.le
 have hbytes := hbytes.up g7.le
 refine ⟨_, Z, ?_⟩
 refine aG Z (q1 (mV Z (mV Z (o_call call190 Z Z (l3Like_c _ _ H.sub _ _ hlist _ _ hbytes ) ?_))))
 rintro _ w8 ⟨rfl, ew8⟩; have H := H.step ew8; refine ⟨_, rfl, ?_⟩
 refine aG Z (q1 (mV Z (o_call call191 Z Z (l3Free_c _ _ H.sub _ _ hlist ) ?_)))
 rintro _ w9 ⟨rfl, ew9⟩; have H := H.step ew9; refine ⟨_, rfl, ?_⟩
 refine aG Z (q3 (W_seq (q2 (mV Z (o_geq Z Z Z (q3 ?_))))))
 refine W_cond Z ?_ ?_
 ·intro hc10
  try simp only [nrm] at hc10
  obtain ⟨i, x, hi1, hi2, hi3, hi4, hi5⟩ := Sp.at_nat hc10
  refine q2 (mV Z (mV Z (mV Z (mV Z (o_index_A 0 H i Z hchk7 underlying23 sizeOf105 Z Z Z hi2 aN aN ?_))))); intro ba11 z11 q11 hba11 hz11 hE11 hg11; cases hba11
  obtain ⟨a11, m11, c11, rfl, hi11, hr11, hj11⟩ := hE11; have hn_hr11 := hr11.len; have hx_hr11 : _ ≤ 1099511627776 := hr11.lim
  have hsv := Sp.valid_at hc2' hz11
  refine o_fieldAddr 2 runUnderlying105 Z sizeOf3 Z Z Z (o_load_A 0 H isAgg3 Z Z Z (hg11 2 _ Z) (o_add Z Z Z oO (o_index_A 0 H i Z hchk7 underlying23 sizeOf105 Z Z Z hi2 aN aN ?_))); intro ba13 z13 q13 hba13 hz13 hE13 hg13; cases hba13
  obtain ⟨a13, m13, c13, rfl, hi13, hr13, hj13⟩ := hE13; have hn_hr13 := hr13.len; have hx_hr13 : _ ≤ 1099511627776 := hr13.lim
  have hzz13 : z11 = z13 := Option.some.inj (hz11.symm.trans hz13)
  subst hzz13
  refine o_fieldAddr 2 runUnderlying105 Z sizeOf3 Z Z Z ?_
  have hcl14 := hchk7.length
  refine o_store_A 0 H sizeOf3 Z Z Z Z Z (by simp only [vc, List.length_cons, List.length_nil]; omega) ?_; intro w14 H
  have hchk14 := hchk7.put (x' := ⟨z11.id, z11.bytes, z11.uses + 1⟩) (off := 2) (vs := [_]) hz13 (fun cs hl hE => by obtain ⟨_, _, _, rfl, h1, h2, h3⟩ := hE; exact ⟨_, _, _, rfl, h1, h2, ⟨by first | omega | (dsimp only; omega), by first | omega | (dsimp only; omega)⟩⟩) (by simp only [vc, List.length_cons, List.length_nil]; omega)
  refine q3 (W_region (mV Z (mV Z (o_index_A 0 H i Z hchk14 underlying23 sizeOf105 Z Z Z hi2 aN aN ?_)))); intro ba15 z15 q15 hba15 hz15 hE15 hg15; cases hba15
  obtain ⟨a15, m15, c15, rfl, hi15, hr15, hj15⟩ := hE15; have hn_hr15 := hr15.len; have hx_hr15 : _ ≤ 1099511627776 := hr15.lim
  rw [List.getElem?_set_self oM] at hz15
  simp only [Option.some.injEq] at hz15
  subst hz15
  refine o_fieldAddr 0 runUnderlying105 Z sizeOf3 Z Z Z (o_load_A 0 H isAgg3 Z Z Z (hg15 0 _ Z) (aG Z (q3 (W_seq (q2 (mV Z (o_call call96 Z Z (StoreValid_c _ _ (H.lendSubL [0]) _ _ (H.lendRdL (k := 0) (ks := [0]) Z Z hchk14 aN aN) ) ?_)))))))
  rintro _ w16 ⟨rfl, ew16⟩; have H := H.step ew16; refine ⟨_, rfl, ?_⟩
  refine o_not Z Z (q3 ?_)
  refine W_cond Z ?_ ?_
  ·intro hc17
   try simp only [nrm] at hc17
   refine q2 (o_buildSlice H underlying23 sizeOf105 (fun w => ⟨_, zeroValue105 w, Z⟩) Z Z Z Z Z Z Z ?_); intro b18 w18 hb18 H
   have H := H.blkAcc 3 (k := 0) (n := 0) rfl rfl (by decide)
   refine aG Z (aG Z (aG Z (q3 (W_ret (N_K_ret (ret_gen (rs := [.tmp 4, .tmp 5, .tmp 6]) (vs := [_, _, _]) results156 ⟨Z, Z, Z, trivial⟩ ?_))))))
   have hN : Sp.StorePut list bytes = none := by (have hl : Sp.like list bytes = some i := hi1); simp [Sp.StorePut, hl, Sp.bump_at hz11, hc17]
   exact H.retO (k := 0) rfl (by rw [hN]; exact ⟨_, rfl, AccOf.mk aN (Chk.nil (E := heldE) (sz := 3) (G := G7)), (by simp [inI])⟩) (acc_nd _ _ _ _ _)
  intro hc17'
  try simp only [nrm] at hc17'
  refine W_skip (N_K (q2 (mV Z (mV Z (aG Z (aG Z (aG Z (q3 (W_ret (ret_gen (rs := [.tmp 4, .tmp 5, .tmp 6]) (vs := [_, _, _]) results156 ⟨Z, Z, Z, trivial⟩ ?_))))))))))
  have hY : Sp.StorePut list bytes = some (list.set i ⟨z11.id, z11.bytes, z11.uses + 1⟩, z11.id) := by (have hl : Sp.like list bytes = some i := hi1); simp [Sp.StorePut, hc2', hc5', hl, Sp.bump_at hz11, hc17', hz11]
  exact H.retO (k := 0) rfl (by rw [hY]; exact ⟨_, rfl, AccOf.mk aN hchk14, ⟨by dsimp only [Option.map, Option.getD]; omega, by dsimp only [Option.map, Option.getD]; omega⟩⟩) (acc_nd _ _ _ _ _)
 intro hc10'
 try simp only [nrm] at hc10'
 refine W_region (mV Z (mV Z (o_call call192 Z Z (l3With_c _ _ H.sub _ _ hlist _ _ hbytes oM) ?_)))
 rintro _ w19 ⟨G19, v19, _, g19, rfl, ⟨cs19, rfl, hchk19⟩, hp19, hq19, hs19⟩
 have H := H.growO g19 hp19 hq19 hs19; obtain ⟨av19, cv19, rfl⟩ := H.accShape (k := 0) rfl
 refine ⟨_, Z, ?_⟩
 have hwl := Sp.l3With_len list bytes
 have hfr := Sp.free_lt list
 refine aG Z (q3 (W_seq (q2 (mV Z (o_call call96 Z Z (StoreValid_c _ _ (H.lendSubL [0]) _ _ (H.lendRdL (k := 0) (ks := [0]) Z Z hchk19 aN aN) ) ?_)))))
 rintro _ w20 ⟨rfl, ew20⟩; have H := H.step ew20; refine ⟨_, rfl, ?_⟩
 refine o_not Z Z (q3 ?_)
 refine W_cond Z ?_ ?_
 ·intro hc21
  try simp only [nrm] at hc21
  refine q2 (o_buildSlice H underlying23 sizeOf105 (fun w => ⟨_, zeroValue105 w, Z⟩) Z Z Z Z Z Z Z ?_); intro b22 w22 hb22 H
  have H := H.blkAcc 3 (k := 0) (n := 0) rfl rfl (by decide)
  refine aG Z (aG Z (aG Z (q3 (W_ret (N_K_ret (ret_gen (rs := [.tmp 4, .tmp 5, .tmp 6]) (vs := [_, _, _]) results156 ⟨Z, Z, Z, trivial⟩ ?_))))))
  have hN : Sp.StorePut list bytes = none := by (have hl : Sp.like list bytes = none := Sp.at_none hc10'); simp [Sp.StorePut, hl, hc21]
  exact H.retO (k := 0) rfl (by rw [hN]; exact ⟨_, rfl, AccOf.mk aN (Chk.nil (E := heldE) (sz := 3) (G := G19)), (by simp [inI])⟩) (acc_nd _ _ _ _ _)
 intro hc21'
 try simp only [nrm] at hc21'
 refine W_skip (N_K (q2 (mV Z (mV Z (aG Z (aG Z (aG Z (q3 (W_ret (ret_gen (rs := [.tmp 4, .tmp 5, .tmp 6]) (vs := [_, _, _]) results156 ⟨Z, Z, Z, trivial⟩ ?_))))))))))
 have hY : Sp.StorePut list bytes = some (Sp.l3With list bytes, (Sp.freeId list : Int)) := by (have hl : Sp.like list bytes = none := Sp.at_none hc10'); simp [Sp.StorePut, hc2', hc5', hl, hc21']
 exact H.retO (k := 0) rfl (by rw [hY]; exact ⟨_, rfl, AccOf.mk aN hchk19, ⟨by dsimp only [Option.map, Option.getD]; omega, by dsimp only [Option.map, Option.getD]; omega⟩⟩) (acc_nd _ _ _ _ _)
end Go.Proofs.Tst

namespace Go.Proofs.Tst
open Go Fw Tryz
theorem l4Cut_c (w0 : World) (G0 : PH) (hG : PSub G0 w0) (vbytes : Value) (bytes : List (Int)) (hbytes : RdI G0 vbytes bytes) (hS : bytes.length ≤ 1000000) :
  Calls Tryz.prog 155 #[vbytes] w0 (RetP w0 G0 (fun G v => RdS LIM intsE 1 G v (Sp.l4Cut bytes))) := by
 obtain ⟨abytes, kbytes, rfl⟩ := hbytes.shape
 have hlimbytes : bytes.length ≤ 1099511627776 := hbytes.lim
 have H := Hp.init hG
 refine calls_of_W (l := [.slice abytes bytes.length kbytes]) func155 Z ntmps155 Z (q2 (aG Z (q1 (o_buildSlice H underlying186 sizeOf33 (fun w => ⟨_, zeroValue33 w, Z⟩) Z Z Z Z Z Z Z ?_)))); intro b1 w1 hb1 H
 have H := H.blkAcc 1 (k := 0) (n := 0) rfl rfl (by decide)
 refine aG Z (q3 (W_seq (q2 (aG Z (q3 (W_block ?_))))))
 refine W_lp (hf := (Sub.cons (t := 0) Z (Sub.cons (t := 2) Z Sub.nil))) (J := fun M w m => ∃ (v : Value) (n : Nat) (cs : List Value) (xs : List (List Int)) (k : Nat) (G : PH), M = [(4, .int .i64 (8 * (k : Int))), (3, v)] ∧ PLe G0 G ∧ Hp w0 G0 [] w G [acc 33 1 v n cs] ∧ (Chk intsE 1 G cs xs ∧ n = xs.length ∧ k ≤ (bytes.length + 7) / 8 ∧ xs.length = k ∧ xs = (List.range k).map (Sp.chunk bytes)) ∧ m = (bytes.length + 8 - 8 * k)) (h0 := ⟨_, _, _, [], 0, _, Z, PLe.refl _, H, ?inv, Z⟩) (round := ?round)
 case inv => exact ⟨(Chk.nil (E := intsE) (sz := 1) (G := G0)),  by first | rfl | simp | (simp; omega) | omega, (by simp)⟩
 case round =>
  rintro _ w2 _ ⟨v, n, cs, xs, k, G2, rfl, hle2, H, hinv2, rfl⟩
  have hbytes := hbytes.up hle2
  obtain ⟨hchk2_0, hn2_0, hinv2⟩ := hinv2
  obtain ⟨av2_0, cv2_0, rfl⟩ := H.accShape (k := 0) rfl
  obtain ⟨hk, hxl, hxs⟩ := hinv2
  refine W_seq (q2 (mV Z (mV Z (o_len_slice underlying33 Z Z (o_lss Z Z Z (q3 ?_))))))
  refine W_cond Z ?_ ?_
  ·intro hc3
   try simp only [nrm] at hc3
   refine W_skip (N_K (W_seq (W_block (W_region (mV Z (o_buildSlice H underlying33 sizeOf3 (fun w => ⟨_, zeroValue3 w, Z⟩) Z Z Z Z Z Z Z ?_)))))); intro b4 w4 hb4 H
   have H := H.blkAcc 1 (k := 0) (n := 0) rfl rfl (by decide)
   refine mV Z (mV Z (mV Z (o_add Z Z Z oO (mV Z (o_len_slice underlying33 Z Z (o_min Z Z Z ?_))))))
   have hcap6 := hbytes.cap; try simp only [List.length_set, List.length_append, List.length_take, List.length_drop, List.length_replicate] at hcap6
   refine o_slice (i := (8 * k)) (j := (min (8 * k + 8) bytes.length)) underlying33 sizeOf3 Z Z Z Z oM oM aN aN ?_
   have hsl6 := hbytes.part (i := (8 * k)) (j := (min (8 * k + 8) bytes.length)) oM oM
   have hsn1 := hsl6.len
   refine o_append_P 0 H hsl6 (by intro z cs hz u hu; obtain ⟨rfl, _⟩ := hz; simp at hu; subst hu; rfl) (sz := 1) (bytes := 8) underlying33 typeInfo3 ⟨_, rfl, rfl⟩ rfl rfl rfl rfl rfl rfl rfl oM rfl ?_; intro v7 w7 css7 hcl7 hcs7 H
   have hchk7 : Chk intE 1 G2 ([] ++ css7.flatten) _ := ⟨css7, rfl, hcl7, hcs7⟩
   obtain ⟨av7, cv7, rfl⟩ := H.accShape (k := 0) rfl
   refine o_buildSlice H underlying186 sizeOf33 (fun w => ⟨_, zeroValue33 w, Z⟩) Z Z Z Z Z Z Z ?_; intro b8 w8 hb8 H
   refine o_append1 1 H (sz := 1) (bytes := 24) underlying186 typeInfo33 ⟨_, Z, Z⟩ Z Z Z Z Z Z Z Z Z Z oM Z ?_; intro v9 w9 H
   obtain ⟨G10, H, hsg10, hsr10⟩ := H.shut' (k := 0) rfl hchk7 aN aN
   have hchk2_0 := hchk2_0.up hsg10
   have hle2 := hle2.trans hsg10
   have hchk9 := hchk2_0.snoc (show intsE _ (Sp.chunk bytes k) _ from ⟨_, _, _, rfl, hsr10⟩) rfl
   obtain ⟨av9, cv9, rfl⟩ := H.accShape (k := 0) rfl
   refine aG Z (R_nil (N_B (N_K (W_region (mV Z (o_add Z Z Z oO (aG Z (R_nil ?_))))))))
   refine N_lp (hJ := ⟨_, _, _, (xs ++ [(Sp.chunk bytes k)]), k + 1, _, Z, hle2, H, ?inv, Z⟩) (hm := ?hm)
   case hm => omega
   case inv => exact ⟨hchk9, aN, (by exact ⟨by omega, by simp [hxl], by rw [hxs, List.range_succ, List.map_append]; rfl⟩)⟩
  intro hc3'
  try simp only [nrm] at hc3'
  refine W_exit (N_K_exit (N_LP_exit (N_B_same (N_K (q2 (mV Z (aG Z (q3 (W_ret (rt1 results155 Z ?_))))))))))
  obtain ⟨G512, H, hsg512, hsr512⟩ := H.shut' (k := 0) rfl hchk2_0 aN aN
  obtain rfl : k = (bytes.length + 7) / 8 := by omega
  exact H.retP (by rw [Sp.l4Cut, ← hxs]; exact hsr512)
end Go.Proofs.Tst

namespace Go.Proofs.Tst
open Go Fw Tryz
theorem FileStore_c (w0 : World) (G0 : PH) (hG : PSub G0 w0) (vlist : Value) (list : List (BHeld)) (hlist : RdH G0 vlist list) (vbytes : Value) (bytes : List (Int)) (hbytes : RdI G0 vbytes bytes) (hS : bytes.length ≤ 1000000) :
  Calls Tryz.prog 115 #[vlist, vbytes] w0 (RetO w0 G0 (fun G v r => ∃ u u1, v = .tuple #[u, u1, .bool (Sp.FileStore list bytes).isSome] ∧ AccOf heldE 3 105 (((Sp.FileStore list bytes).map (·.1)).getD []) G u r ∧ RdI G u1 (((Sp.FileStore list bytes).map (·.2)).getD []))) := by
 obtain ⟨alist, klist, rfl⟩ := hlist.shape
 have hlimlist : list.length ≤ 1099511627776 := hlist.lim
 obtain ⟨abytes, kbytes, rfl⟩ := hbytes.shape
 have hlimbytes : bytes.length ≤ 1099511627776 := hbytes.lim
 have H := Hp.init hG
 refine calls_of_W (l := [.slice alist list.length klist, .slice abytes bytes.length kbytes]) func115 Z ntmps115 Z (q2 (aG Z (aG Z (aG Z (q3 (W_seq (q2 (mV Z (o_call call96 Z Z (StoreValid_c _ _ H.sub _ _ hlist ) ?_)))))))))
 rintro _ w1 ⟨rfl, ew1⟩; have H := H.step ew1; refine ⟨_, rfl, ?_⟩
 refine o_not Z Z (mV Z ?_)
 refine R_case (t := 17) Z ?_ ?_
 ·intro hc2
  try simp only [nrm] at hc2
  refine rP Z (rP Z (rP Z (o_pick_t Z Z Z (q3 (W_true Z (q2 (o_buildSlice H underlying23 sizeOf105 (fun w => ⟨_, zeroValue105 w, Z⟩) Z Z Z Z Z Z Z ?_))))))); intro b3 w3 hb3 H
  have H := H.blkAcc 3 (k := 0) (n := 0) rfl rfl (by decide)
  refine o_buildSlice H underlying33 sizeOf3 (fun w => ⟨_, zeroValue3 w, Z⟩) Z Z Z Z Z Z Z ?_; intro b4 w4 hb4 H
  have H := H.blkAcc 1 (k := 0) (n := 0) rfl rfl (by decide)
  refine aG Z (aG Z (aG Z (q3 (W_ret (N_K_ret (ret_gen (rs := [.tmp 4, .tmp 5, .tmp 6]) (vs := [_, _, _]) results115 ⟨Z, Z, Z, trivial⟩ ?_))))))
  obtain ⟨G505, H, hsg505, hsr505⟩ := H.shut' (k := 0) rfl (Chk.nil (E := intE) (sz := 1) (G := G0)) aN aN
  have hY : Sp.FileStore list bytes = none := by simp [Sp.FileStore, hc2]
  exact H.retO (k := 0) rfl (by rw [hY]; exact ⟨_, _, rfl, AccOf.mk aN (Chk.nil (E := heldE) (sz := 3) (G := G505)), hsr505⟩) (acc_nd _ _ _ _ _)
 intro hc2'
 try simp only [nrm] at hc2'
 refine gR Z (mV Z (gR Z (o_call call63 Z Z (FileValid_c _ _ H.sub _ _ hbytes ) ?_)))
 rintro _ w5 ⟨rfl, ew5⟩; have H := H.step ew5; refine ⟨_, rfl, ?_⟩
 refine gR Z (o_not Z Z (o_pick_f Z Z Z (q3 ?_)))
 refine W_cond Z ?_ ?_
 ·intro hc6
  try simp only [nrm] at hc6
  refine q2 (o_buildSlice H underlying23 sizeOf105 (fun w => ⟨_, zeroValue105 w, Z⟩) Z Z Z Z Z Z Z ?_); intro b7 w7 hb7 H
  have H := H.blkAcc 3 (k := 0) (n := 0) rfl rfl (by decide)
  refine o_buildSlice H underlying33 sizeOf3 (fun w => ⟨_, zeroValue3 w, Z⟩) Z Z Z Z Z Z Z ?_; intro b8 w8 hb8 H
  have H := H.blkAcc 1 (k := 0) (n := 0) rfl rfl (by decide)
  refine aG Z (aG Z (aG Z (q3 (W_ret (N_K_ret (ret_gen (rs := [.tmp 4, .tmp 5, .tmp 6]) (vs := [_, _, _]) results115 ⟨Z, Z, Z, trivial⟩ ?_))))))
  obtain ⟨G509, H, hsg509, hsr509⟩ := H.shut' (k := 0) rfl (Chk.nil (E := intE) (sz := 1) (G := G0)) aN aN
  have hY : Sp.FileStore list bytes = none := by simp [Sp.FileStore, hc6]
  exact H.retO (k := 0) rfl (by rw [hY]; exact ⟨_, _, rfl, AccOf.mk aN (Chk.nil (E := heldE) (sz := 3) (G := G509)), hsr509⟩) (acc_nd _ _ _ _ _)
 intro hc6'
 try simp only [nrm] at hc6'
 refine W_skip (N_K (q2 (mV Z (o_call call102 Z Z (l3Copy_c _ _ H.sub _ _ hlist ) ?_))))
 rintro _ w9 ⟨G9, v9, _, g9, rfl, ⟨cs9, rfl, hchk9⟩, hp9, hq9, hs9⟩
 have H := H.growO g9 hp9 hq9 hs9; obtain ⟨av9, cv9, rfl⟩ := H.accShape (k := 0) rfl
 have hbytes := hbytes.up g9.le
 refine ⟨_, Z, ?_⟩
 refine aG Z (q1 (o_buildSlice H underlying33 sizeOf3 (fun w => ⟨_, zeroValue3 w, Z⟩) Z Z Z Z Z Z Z ?_)); intro b10 w10 hb10 H
 have H := H.blkAcc 1 (k := 0) (n := 0) rfl rfl (by decide)
 refine aG Z (q1 (mV Z (o_call call155 Z Z (l4Cut_c _ _ H.sub _ _ hbytes oM) ?_)))
 rintro _ w11 ⟨G11, u11_0, g11, rfl, hr11_0⟩
 have H := H.grow g11
 have hchk9 := hchk9.up g11.le
 obtain ⟨a11_0, k11_0, rfl⟩ := hr11_0.shape; have hx_hr11_0 : _ ≤ 1099511627776 := hr11_0.lim
 refine ⟨_, Z, ?_⟩
 refine aG Z (q3 (W_seq (q2 (aG Z (q3 (W_block ?_))))))
 refine W_lp (hf := (Sub.cons (t := 9) Z Sub.nil)) (J := fun M w m => ∃ (v : Value) (n : Nat) (cs : List Value) (xs : List (BHeld)) (v1 : Value) (n1 : Nat) (cs1 : List Value) (xs1 : List (Int)) (k : Nat) (G : PH), M = [(10, .int .i64 (k : Int)), (7, v), (8, v1)] ∧ PLe G11 G ∧ Hp w0 G0 [] w G [acc 3 1 v1 n1 cs1, acc 105 3 v n cs] ∧ (Chk heldE 3 G cs xs ∧ n = xs.length ∧ Chk intE 1 G cs1 xs1 ∧ n1 = xs1.length ∧ k ≤ (Sp.l4Cut bytes).length ∧ xs.length ≤ 1000 ∧ xs1.length ≤ k ∧ Sp.foldB Sp.put1 ((Sp.l4Cut bytes).take k) (some (list, [])) = some (xs, xs1)) ∧ m = ((Sp.l4Cut bytes).length - k)) (h0 := ⟨_, _, _, list, _, _, _, [], 0, _, Z, PLe.refl _, H, ?inv, Z⟩) (round := ?round)
 case inv => exact ⟨hchk9, (by first | rfl | simp | (simp; omega) | omega), (Chk.nil (E := intE) (sz := 1) (G := G11)),  by first | rfl | simp | (simp; omega) | omega, (by exact ⟨by omega, by have := Sp.valid_len hc2'; omega, by simp, by simp [Sp.foldB]⟩)⟩
 case round =>
  rintro _ w12 _ ⟨v, n, cs, xs, v1, n1, cs1, xs1, k, G12, rfl, hle12, H, hinv12, rfl⟩
  have hr11_0 := hr11_0.up hle12
  obtain ⟨hchk12_0, hn12_0, hinv12⟩ := hinv12
  obtain ⟨av12_0, cv12_0, rfl⟩ := H.accShape (k := 1) rfl
  obtain ⟨hchk12_1, hn12_1, hinv12⟩ := hinv12
  obtain ⟨av12_1, cv12_1, rfl⟩ := H.accShape (k := 0) rfl
  obtain ⟨hk, hxl, hil, hf⟩ := hinv12
  refine W_seq (q2 (mV Z (mV Z (o_len_slice underlying186 Z Z (o_lss Z Z Z (q3 ?_))))))
  refine W_cond Z ?_ ?_
  ·intro hc13
   try simp only [nrm] at hc13
   refine W_skip (N_K (W_seq (W_block (q2 (mV Z (mV Z (mV Z (o_index_P k hr11_0 underlying186 sizeOf33 Z Z Z Z aN ?_)))))))); intro b14 o14 z14 q14 hz14 hE14 hrow14
   obtain ⟨a14, m14, c14, rfl, hr14⟩ := hE14; have hn_hr14 := hr14.len; have hx_hr14 : _ ≤ 1099511627776 := hr14.lim
   refine o_load_P H isAgg33 Z Z (hrow14 0 _ Z) ?_
   obtain ⟨G16, H, hsg16, hsr16⟩ := H.shut' (k := 1) rfl hchk12_0 aN aN
   have hchk12_1 := hchk12_1.up hsg16
   have hr14 := hr14.up hsg16
   have hle12 := hle12.trans hsg16
   refine o_call call156 Z Z (StorePut_c _ _ H.sub _ _ hsr16 _ _ hr14 oM) ?_
   rintro _ w15 ⟨G15, _, _, g15, rfl, ⟨u15_0, rfl, ⟨cs15, rfl, hchk15⟩, ⟨hfa15, hfb15⟩⟩, hp15, hq15, hs15⟩
   have H := H.growO g15 hp15 hq15 hs15; obtain ⟨av15, cv15, rfl⟩ := H.accShape (k := 0) rfl
   have hchk12_1 := hchk12_1.up g15.le
   have hle12 := hle12.trans g15.le
   refine ⟨_, Z, ?_⟩
   refine mV Z (o_extract Z Z Z (o_extract Z Z Z (o_extract Z Z Z (aG Z (aG Z (aG Z (q3 (W_seq (q2 (mV Z (o_not Z Z (q3 ?_))))))))))))
   refine W_cond Z ?_ ?_
   ·intro hc17
    try simp only [nrm] at hc17
    refine q2 (o_buildSlice H underlying23 sizeOf105 (fun w => ⟨_, zeroValue105 w, Z⟩) Z Z Z Z Z Z Z ?_); intro b18 w18 hb18 H
    have H := H.blkAcc 3 (k := 0) (n := 0) rfl rfl (by decide)
    refine o_buildSlice H underlying33 sizeOf3 (fun w => ⟨_, zeroValue3 w, Z⟩) Z Z Z Z Z Z Z ?_; intro b19 w19 hb19 H
    have H := H.blkAcc 1 (k := 0) (n := 0) rfl rfl (by decide)
    refine aG Z (aG Z (aG Z (q3 (W_ret (N_K_ret (N_B_ret (N_K_ret (N_LP_ret (N_B_ret (N_K_ret (ret_gen (rs := [.tmp 4, .tmp 5, .tmp 6]) (vs := [_, _, _]) results115 ⟨Z, Z, Z, trivial⟩ ?_)))))))))))
    obtain ⟨G520, H, hsg520, hsr520⟩ := H.shut' (k := 0) rfl (Chk.nil (E := intE) (sz := 1) (G := G15)) aN aN
    have hY : Sp.FileStore list bytes = none := by (have hno : Sp.StorePut xs z14 = none := by simpa using hc17); simp only [Sp.FileStore, hc2', hc6', Bool.and_self, if_true]; exact Sp.foldB_stop hf hz14 (by simp [Sp.put1, hno])
    exact H.retO (k := 0) rfl (by rw [hY]; exact ⟨_, _, rfl, AccOf.mk aN (Chk.nil (E := heldE) (sz := 3) (G := G520)), hsr520⟩) (acc_nd _ _ _ _ _)
   intro hc17'
   try simp only [nrm] at hc17'
   obtain ⟨p, hsp⟩ := Option.isSome_iff_exists.1 hc17'
   rw [hsp] at H hchk15 hfa15 hfb15 ⊢
   dsimp only [Option.map, Option.getD] at H hchk15 hfa15 hfb15
   refine W_skip (N_K (q2 (mV Z (aG Z (q3 (W_region (mV Z (mV Z (o_buildSlice H underlying33 sizeOf3 (fun w => ⟨_, zeroValue3 w, Z⟩) Z Z Z Z Z Z Z ?_))))))))); intro b20 w20 hb20 H
   refine o_append1 1 H (sz := 1) (bytes := 8) underlying33 typeInfo3 ⟨_, Z, Z⟩ Z Z Z Z Z Z Z Z Z Z oM Z ?_; intro v21 w21 H
   have hchk21 := hchk12_1.snoc (show intE _ p.2 _ from ⟨rfl, oO⟩) rfl
   obtain ⟨av21, cv21, rfl⟩ := H.accShape (k := 1) rfl
   refine aG Z (R_nil (N_B (N_K (W_region (mV Z (o_add Z Z Z oO (aG Z (R_nil ?_))))))))
   have H := H.toFront (k := 1) rfl
   refine N_lp (hJ := ⟨_, _, _, p.1, _, _, _, (xs1 ++ [p.2]), k + 1, _, Z, hle12, H, ?inv, Z⟩) (hm := ?hm)
   case hm => omega
   case inv => exact ⟨hchk15, aN, hchk21, aN, (by exact ⟨by omega, by have := Sp.put_len hsp; omega, by simp; omega, Sp.foldB_succ hf hz14 (by simp [Sp.put1, hsp])⟩)⟩
  intro hc13'
  try simp only [nrm] at hc13'
  refine W_exit (N_K_exit (N_LP_exit (N_B_same (N_K (q2 (mV Z (mV Z (aG Z (aG Z (aG Z (q3 (W_ret (ret_gen (rs := [.tmp 4, .tmp 5, .tmp 6]) (vs := [_, _, _]) results115 ⟨Z, Z, Z, trivial⟩ ?_)))))))))))))
  obtain ⟨G523, H, hsg523, hsr523⟩ := H.shut' (k := 0) rfl hchk12_1 aN aN
  have hchk12_0 := hchk12_0.up hsg523
  have hY : Sp.FileStore list bytes = some (xs, xs1) := by simp only [Sp.FileStore, hc2', hc6', Bool.and_self, if_true]; exact Sp.foldB_all hf oM
  exact H.retO (k := 0) rfl (by rw [hY]; exact ⟨_, _, rfl, AccOf.mk aN hchk12_0, hsr523⟩) (acc_nd _ _ _ _ _)
end Go.Proofs.Tst

namespace Go.Proofs.Tst
open Go Fw Tryz
theorem FileFree_c (w0 : World) (G0 : PH) (hG : PSub G0 w0) (vlist : Value) (list : List (BHeld)) (hlist : RdH G0 vlist list) (vids : Value) (ids : List (Int)) (hids : RdI G0 vids ids)  :
  Calls Tryz.prog 117 #[vlist, vids] w0 (RetO w0 G0 (fun G v r => ∃ u, v = .tuple #[u, .bool (Sp.FileFree list ids).isSome] ∧ AccOf heldE 3 105 ((Sp.FileFree list ids).getD []) G u r)) := by
 obtain ⟨alist, klist, rfl⟩ := hlist.shape
 have hlimlist : list.length ≤ 1099511627776 := hlist.lim
 obtain ⟨aids, kids, rfl⟩ := hids.shape
 have hlimids : ids.length ≤ 1099511627776 := hids.lim
 have H := Hp.init hG
 refine calls_of_W (l := [.slice alist list.length klist, .slice aids ids.length kids]) func117 Z ntmps117 Z (q2 (aG Z (aG Z (q3 (W_seq (q2 (mV Z (o_call call96 Z Z (StoreValid_c _ _ H.sub _ _ hlist ) ?_))))))))
 rintro _ w1 ⟨rfl, ew1⟩; have H := H.step ew1; refine ⟨_, rfl, ?_⟩
 refine o_not Z Z (mV Z ?_)
 refine R_case (t := 13) Z ?_ ?_
 ·intro hc2
  try simp only [nrm] at hc2
  refine rP Z (rP Z (rP Z (rP Z (o_pick_t Z Z Z (q3 (W_true Z (q2 (o_buildSlice H underlying23 sizeOf105 (fun w => ⟨_, zeroValue105 w, Z⟩) Z Z Z Z Z Z Z ?_)))))))); intro b3 w3 hb3 H
  have H := H.blkAcc 3 (k := 0) (n := 0) rfl rfl (by decide)
  refine aG Z (aG Z (q3 (W_ret (N_K_ret (rt2 results117 Z Z ?_)))))
  have hN : Sp.FileFree list ids = none := by simp [Sp.FileFree, hc2]
  exact H.retO (k := 0) rfl (by rw [hN]; exact ⟨_, rfl, AccOf.mk aN (Chk.nil (E := heldE) (sz := 3) (G := G0))⟩) (acc_nd _ _ _ _ _)
 intro hc2'
 try simp only [nrm] at hc2'
 refine gR Z (mV Z (gR Z (mV Z (gR Z (o_call call147 Z Z (l4Ids_c _ _ H.sub _ _ hlist _ _ hids ) ?_)))))
 rintro _ w4 ⟨rfl, ew4⟩; have H := H.step ew4; refine ⟨_, rfl, ?_⟩
 refine gR Z (o_not Z Z (o_pick_f Z Z Z (q3 ?_)))
 refine W_cond Z ?_ ?_
 ·intro hc5
  try simp only [nrm] at hc5
  refine q2 (o_buildSlice H underlying23 sizeOf105 (fun w => ⟨_, zeroValue105 w, Z⟩) Z Z Z Z Z Z Z ?_); intro b6 w6 hb6 H
  have H := H.blkAcc 3 (k := 0) (n := 0) rfl rfl (by decide)
  refine aG Z (aG Z (q3 (W_ret (N_K_ret (rt2 results117 Z Z ?_)))))
  have hN : Sp.FileFree list ids = none := by simp [Sp.FileFree, hc5]
  exact H.retO (k := 0) rfl (by rw [hN]; exact ⟨_, rfl, AccOf.mk aN (Chk.nil (E := heldE) (sz := 3) (G := G0))⟩) (acc_nd _ _ _ _ _)
 intro hc5'
 try simp only [nrm] at hc5'
 refine W_skip (N_K (q2 (mV Z (o_call call102 Z Z (l3Copy_c _ _ H.sub _ _ hlist ) ?_))))
 rintro _ w7 ⟨G7, v7, _, g7, rfl, ⟨cs7, rfl, hchk7⟩, hp7, hq7, hs7⟩
 have H := H.growO g7 hp7 hq7 hs7; obtain ⟨av7, cv7, rfl⟩ := H.accShape (k := 0) rfl
 have hids := hids.up g7.le
 refine ⟨_, Z, ?_⟩
 refine aG Z (q3 (W_seq (q2 (aG Z (q3 (W_block ?_))))))
 refine W_lp (hf := (Sub.cons (t := 1) Z Sub.nil)) (J := fun M w m => ∃ (v : Value) (n : Nat) (cs : List Value) (xs : List (BHeld)) (k : Nat) (G : PH), M = [(7, .int .i64 (k : Int)), (6, v)] ∧ PLe G7 G ∧ Hp w0 G0 [] w G [acc 105 3 v n cs] ∧ (Chk heldE 3 G cs xs ∧ n = xs.length ∧ k ≤ ids.length ∧ xs.length ≤ 1000 ∧ Sp.foldB Sp.StoreDrop (ids.take k) (some list) = some xs) ∧ m = (ids.length - k)) (h0 := ⟨_, _, _, list, 0, _, Z, PLe.refl _, H, ?inv, Z⟩) (round := ?round)
 case inv => exact ⟨hchk7,  by first | rfl | simp | (simp; omega) | omega, (by exact ⟨by omega, by have := Sp.valid_len hc2'; omega, by simp [Sp.foldB]⟩)⟩
 case round =>
  rintro _ w8 _ ⟨v, n, cs, xs, k, G8, rfl, hle8, H, hinv8, rfl⟩
  have hids := hids.up hle8
  obtain ⟨hchk8_0, hn8_0, hinv8⟩ := hinv8
  obtain ⟨av8_0, cv8_0, rfl⟩ := H.accShape (k := 0) rfl
  obtain ⟨hk, hxl, hf⟩ := hinv8
  refine W_seq (q2 (mV Z (mV Z (o_len_slice underlying33 Z Z (o_lss Z Z Z (q3 ?_))))))
  refine W_cond Z ?_ ?_
  ·intro hc9
   try simp only [nrm] at hc9
   refine W_skip (N_K (W_seq (W_block (q2 (mV Z (mV Z (mV Z (o_index_P k hids underlying33 sizeOf3 Z Z Z Z aN ?_)))))))); intro b10 o10 z10 q10 hz10 hE10 hrow10
   obtain ⟨rfl, hi10⟩ := hE10
   refine o_load_P H isAgg3 Z Z (hrow10 0 _ Z) ?_
   obtain ⟨G12, H, hsg12, hsr12⟩ := H.shut' (k := 0) rfl hchk8_0 aN aN
   have hle8 := hle8.trans hsg12
   refine o_call call158 Z Z (StoreDrop_c _ _ H.sub _ _ hsr12 _ ) ?_
   rintro _ w11 ⟨G11, _, _, g11, rfl, ⟨u11_0, rfl, ⟨cs11, rfl, hchk11⟩⟩, hp11, hq11, hs11⟩
   have H := H.growO g11 hp11 hq11 hs11; obtain ⟨av11, cv11, rfl⟩ := H.accShape (k := 0) rfl
   have hle8 := hle8.trans g11.le
   refine ⟨_, Z, ?_⟩
   refine mV Z (o_extract Z Z Z (o_extract Z Z Z (aG Z (aG Z (q3 (W_seq (q2 (mV Z (o_not Z Z (q3 ?_))))))))))
   refine W_cond Z ?_ ?_
   ·intro hc13
    try simp only [nrm] at hc13
    refine q2 (o_buildSlice H underlying23 sizeOf105 (fun w => ⟨_, zeroValue105 w, Z⟩) Z Z Z Z Z Z Z ?_); intro b14 w14 hb14 H
    have H := H.blkAcc 3 (k := 0) (n := 0) rfl rfl (by decide)
    refine aG Z (aG Z (q3 (W_ret (N_K_ret (N_B_ret (N_K_ret (N_LP_ret (N_B_ret (N_K_ret (rt2 results117 Z Z ?_))))))))))
    have hN : Sp.FileFree list ids = none := by (have hno : Sp.StoreDrop xs z10 = none := by simpa using hc13); simp only [Sp.FileFree, hc2', hc5', Bool.and_self, if_true]; exact Sp.foldB_stop hf hz10 hno
    exact H.retO (k := 0) rfl (by rw [hN]; exact ⟨_, rfl, AccOf.mk aN (Chk.nil (E := heldE) (sz := 3) (G := G11))⟩) (acc_nd _ _ _ _ _)
   intro hc13'
   try simp only [nrm] at hc13'
   obtain ⟨p, hsp⟩ := Option.isSome_iff_exists.1 hc13'
   rw [hsp] at H hchk11 ⊢
   dsimp only [Option.map, Option.getD] at H hchk11
   refine W_skip (N_K (W_region (mV Z (aG Z (R_nil (N_B (N_K (W_region (mV Z (o_add Z Z Z oO (aG Z (R_nil ?_))))))))))))
   refine N_lp (hJ := ⟨_, _, _, p, k + 1, _, Z, hle8, H, ?inv, Z⟩) (hm := ?hm)
   case hm => omega
   case inv => exact ⟨hchk11, aN, (by exact ⟨by omega, by have := Sp.drop_len hsp; omega, Sp.foldB_succ hf hz10 hsp⟩)⟩
  intro hc9'
  try simp only [nrm] at hc9'
  refine W_exit (N_K_exit (N_LP_exit (N_B_same (N_K (q2 (mV Z (aG Z (aG Z (q3 (W_ret (rt2 results117 Z Z ?_)))))))))))
  have hY : Sp.FileFree list ids = some xs := by simp only [Sp.FileFree, hc2', hc5', Bool.and_self, if_true]; exact Sp.foldB_all hf oM
  exact H.retO (k := 0) rfl (by rw [hY]; exact ⟨_, rfl, AccOf.mk aN hchk8_0⟩) (acc_nd _ _ _ _ _)
end Go.Proofs.Tst

namespace Go.Proofs.Tst
open Go Fw Tryz
theorem l5Put_c (w0 : World) (G0 : PH) (hG : PSub G0 w0) (vlist : Value) (list : List (BItem)) (hlist : RdItems G0 vlist list) (cx : List Value) (x : BItem) (hx : itemE G0 x cx) (hS : list.length ≤ 1000000) :
  Calls Tryz.prog 157 #[vlist, .agg cx.toArray] w0 (RetO w0 G0 (AccOf itemE 3 37 (Sp.l5Put list x))) := by
 obtain ⟨alist, klist, rfl⟩ := hlist.shape
 have hlimlist : list.length ≤ 1099511627776 := hlist.lim
 obtain ⟨a1, m1, c1, rfl, hi1, hr1⟩ := hx; have hy_hi1 : _ ≤ 16777216 := hi1; have hn_hr1 := hr1.len; have hx_hr1 : _ ≤ 1099511627776 := hr1.lim
 have H := Hp.init hG
 refine calls_of_W (l := [.slice alist list.length klist, _]) func157 Z ntmps157 Z (q2 (o_box H Z Z Z ?_)); intro b2 w2 hb2 H
 refine aG Z (q1 (o_buildSlice H underlying24 sizeOf37 (fun w => ⟨_, zeroValue37 w, Z⟩) Z Z Z Z Z Z Z ?_)); intro b3 w3 hb3 H
 have H := H.blkAcc 3 (k := 0) (n := 0) rfl rfl (by decide)
 refine aG Z (q1 (aG Z (q3 (W_seq (q2 (aG Z (q3 (W_block ?_))))))))
 obtain ⟨ln4, hln4, H⟩ := H.name (k := 1) rfl
 refine W_lp (hf := (Sub.cons (t := 0) Z (Sub.cons (t := 3) Z (Sub.cons (t := 4) Z Sub.nil)))) (J := fun M w m => ∃ (v : Value) (n : Nat) (cs : List Value) (xs : List (BItem)) (d : Bool) (k : Nat) (G : PH), M = [(6, .bool d), (7, .int .i64 (k : Int)), (5, v)] ∧ PLe G0 G ∧ Hp w0 G0 [] w G [acc 37 3 v n cs, blk b2 (cl ln4 37)] ∧ (Chk itemE 3 G cs xs ∧ n = xs.length ∧ k ≤ list.length ∧ xs.length ≤ k + 1 ∧ (d = false → xs.length ≤ k) ∧ xs ++ Sp.putGo x d (list.drop k) = Sp.l5Put list x) ∧ m = (list.length - k)) (h0 := ⟨_, _, _, [], false, 0, _, Z, PLe.refl _, H, ?inv, Z⟩) (round := ?round)
 case inv => exact ⟨(Chk.nil (E := itemE) (sz := 3) (G := G0)),  by first | rfl | simp | (simp; omega) | omega, (by simp [Sp.l5Put])⟩
 case round =>
  rintro _ w5 _ ⟨v, n, cs, xs, d, k, G5, rfl, hle5, H, hinv5, rfl⟩
  subst hln4
  have hlist := hlist.up hle5
  have hr1 := hr1.up hle5
  obtain ⟨hchk5_0, hn5_0, hinv5⟩ := hinv5
  obtain ⟨av5_0, cv5_0, rfl⟩ := H.accShape (k := 0) rfl
  obtain ⟨hk, hxl, hxd, hp⟩ := hinv5
  refine W_seq (q2 (mV Z (mV Z (o_len_slice underlying24 Z Z (o_lss Z Z Z (q3 ?_))))))
  refine W_cond Z ?_ ?_
  ·intro hc6
   try simp only [nrm] at hc6
   refine W_skip (N_K (W_seq (W_block (W_seq (W_seq (W_drawK [1] 12 H kR Z ?_)))))); intro w7 H; have hd7 := PLe.refl G5
   refine vM 0 Z Z (RD_t 1 Z kR Z (fun _ hK => v_not Z) (vM 2 Z Z ?_))
   refine RD_case (t := 17) Z ?_ ?_
   ·intro hc8
    try simp only [nrm] at hc8
    refine RD_tg 3 Z kR Z (yl Z Z) (fun _ hK => v_move Z) (RD_tg 4 Z kR Z (yl Z Z) (fun _ hK => v_move Z) ?_)
    have hl9 := hlist.len
    obtain ⟨b9, o9, z9, q9, ha9, hz9, hq9, hE9, hrow9, _⟩ := hlist.at (i := k) oM
    clear hq9
    obtain ⟨a9, m9, c9, rfl, hi9, hr9⟩ := hE9; have hy_hi9 : _ ≤ 16777216 := hi9; have hn_hr9 := hr9.len; have hx_hr9 : _ ≤ 1099511627776 := hr9.lim
    refine RD_tg 5 Z kR Z (yl Z Z) (fun _ hK => v_index_P (i := k) ha9 underlying24 sizeOf37 Z Z Z oM) (RD_tg 6 Z kR Z (yl Z Z) (fun _ hK => v_fieldAddr 0 runUnderlying37 Z sizeOf9 Z Z) (RD_tg 7 Z kR Z (yl Z Z) (fun _ hK => v_load_P hK isAgg9 Z (hrow9 0 _ Z)) (RD_tg 8 Z kR Z (yl Z Z) (fun _ hK => v_fieldAddr 0 runUnderlying37 Z sizeOf9 Z Z) (RD_tg 9 Z kR Z (yl Z Z) (fun _ hK => v_load_B 0 hK isAgg9 Z Z Z) (RD_tg 10 Z kR Z (yl Z Z) (fun _ hK => v_sgeq Z Z) (RD_t 11 Z kR Z (fun _ hK => v_pick_t Z Z) (RD_done kR (N_K ?_))))))))
    refine W_cond Z ?_ ?_
    ·intro hc10
     try simp only [nrm] at hc10
     refine q2 (mV Z (o_loadagg_B 1 H isAgg37 sizeOf37 Z Z Z Z Z (o_call call104 Z Z (l5Copy_c _ _ H.sub _ x ⟨_, _, _, Z, hi1, hr1⟩ ) ?_)))
     rintro _ w11 ⟨G11, _, g11, rfl, u11_0, rfl, hr11_0⟩
     have H := H.grow g11
     have hlist := hlist.up g11.le
     have hchk5_0 := hchk5_0.up g11.le
     have hle5 := hle5.trans g11.le
     obtain ⟨a12, m12, c12, rfl, hi12, hr12⟩ := hr11_0; have hy_hi12 : _ ≤ 16777216 := hi12; have hn_hr12 := hr12.len; have hx_hr12 : _ ≤ 1099511627776 := hr12.lim
     refine ⟨_, Z, ?_⟩
     refine o_buildSlice H underlying24 sizeOf37 (fun w => ⟨_, zeroValue37 w, Z⟩) Z Z Z Z Z Z Z ?_; intro b13 w13 hb13 H
     refine o_append1 0 H (sz := 3) (bytes := 48) underlying24 typeInfo37 ⟨_, Z, Z⟩ Z Z Z Z Z Z Z Z Z Z oM Z ?_; intro v14 w14 H
     have hchk14 := hchk5_0.snoc (show itemE _ x _ from ⟨_, _, _, rfl, hi12, hr12⟩) rfl
     obtain ⟨av14, cv14, rfl⟩ := H.accShape (k := 0) rfl
     refine aG Z (q3 (W_region (aG Z (q3 (W_seq (W_drawK [1] 8 H kR Z ?_)))))); intro w15 H; have hd15 := PLe.refl G11
     refine vM 0 Z Z (vM 1 Z Z ?_)
     have hl16 := hlist.len
     obtain ⟨b16, o16, z16, q16, ha16, hz16, hq16, hE16, hrow16, _⟩ := hlist.at (i := k) oM
     clear hq16
     obtain ⟨a16, m16, c16, rfl, hi16, hr16⟩ := hE16; have hy_hi16 : _ ≤ 16777216 := hi16; have hn_hr16 := hr16.len; have hx_hr16 : _ ≤ 1099511627776 := hr16.lim
     have hzz16 : z9 = z16 := Option.some.inj (hz9.symm.trans hz16)
     subst hzz16
     refine RD_t 2 Z kR Z (fun _ hK => v_index_P (i := k) ha16 underlying24 sizeOf37 Z Z Z oM) (RD_t 3 Z kR Z (fun _ hK => v_fieldAddr 0 runUnderlying37 Z sizeOf9 Z Z) (RD_t 4 Z kR Z (fun _ hK => v_load_P hK isAgg9 Z (hrow16 0 _ Z)) (RD_t 5 Z kR Z (fun _ hK => v_fieldAddr 0 runUnderlying37 Z sizeOf9 Z Z) (RD_t 6 Z kR Z (fun _ hK => v_load_B 0 hK isAgg9 Z Z Z) (RD_t 7 Z kR Z (fun _ hK => v_sneq Z Z) (RD_done kR (N_K ?_)))))))
     refine W_cond Z ?_ ?_
     ·intro hc17
      try simp only [nrm] at hc17
      refine W_region (mV Z (mV Z (mV Z (o_index_P k hlist underlying24 sizeOf37 Z Z Z Z aN ?_)))); intro b18 o18 z18 q18 hz18 hE18 hrow18
      obtain ⟨a18, m18, c18, rfl, hi18, hr18⟩ := hE18; have hy_hi18 : _ ≤ 16777216 := hi18; have hn_hr18 := hr18.len; have hx_hr18 : _ ≤ 1099511627776 := hr18.lim
      have hzz18 : z9 = z18 := Option.some.inj (hz9.symm.trans hz18)
      subst hzz18
      refine o_loadagg_P H isAgg37 sizeOf37 Z Z hrow18 Z (o_call call104 Z Z (l5Copy_c _ _ H.sub _ _ ⟨_, _, _, Z, hi18, hr18⟩ ) ?_)
      rintro _ w19 ⟨G19, _, g19, rfl, u19_0, rfl, hr19_0⟩
      have H := H.grow g19
      have hchk14 := hchk14.up g19.le
      have hle5 := hle5.trans g19.le
      obtain ⟨a20, m20, c20, rfl, hi20, hr20⟩ := hr19_0; have hy_hi20 : _ ≤ 16777216 := hi20; have hn_hr20 := hr20.len; have hx_hr20 : _ ≤ 1099511627776 := hr20.lim
      refine ⟨_, Z, ?_⟩
      refine o_buildSlice H underlying24 sizeOf37 (fun w => ⟨_, zeroValue37 w, Z⟩) Z Z Z Z Z Z Z ?_; intro b21 w21 hb21 H
      refine o_append1 0 H (sz := 3) (bytes := 48) underlying24 typeInfo37 ⟨_, Z, Z⟩ Z Z Z Z Z Z Z Z Z Z oM Z ?_; intro v22 w22 H
      have hchk22 := hchk14.snoc (show itemE _ z9 _ from ⟨_, _, _, rfl, hi20, hr20⟩) rfl
      obtain ⟨av22, cv22, rfl⟩ := H.accShape (k := 0) rfl
      refine aG Z (R_nil (N_B (N_K (W_region (mV Z (o_add Z Z Z oO (aG Z (R_nil ?_))))))))
      refine N_lp (hJ := ⟨_, _, _, ((xs ++ [x]) ++ [z9]), true, k + 1, _, Z, hle5, H, ?inv, Z⟩) (hm := ?hm)
      case hm => omega
      case inv => exact ⟨hchk22, aN, (by exact ⟨by omega, by have := hxd (by assumption); simp; omega, by simp, by rw [Sp.drop_at hz9] at hp; rw [← hp]; (first | rw [Sp.putA (by assumption) (by assumption) (by assumption)] | rw [Sp.putB (by assumption) (by assumption) (by assumption)] | rw [Sp.putC (by assumption) (by assumption)] | rw [Sp.putC' (by assumption) (by assumption)] | rw [Sp.putD (by assumption) (by assumption)] | rw [Sp.putD' (by assumption) (by assumption)]) <;> simp⟩)⟩
     intro hc17'
     try simp only [nrm] at hc17'
     refine W_skip (N_B (N_K (W_region (mV Z (o_add Z Z Z oO (aG Z (R_nil ?_)))))))
     refine N_lp (hJ := ⟨_, _, _, (xs ++ [x]), true, k + 1, _, Z, hle5, H, ?inv, Z⟩) (hm := ?hm)
     case hm => omega
     case inv => exact ⟨hchk14, aN, (by exact ⟨by omega, by have := hxd (by assumption); simp; omega, by simp, by rw [Sp.drop_at hz9] at hp; rw [← hp]; (first | rw [Sp.putA (by assumption) (by assumption) (by assumption)] | rw [Sp.putB (by assumption) (by assumption) (by assumption)] | rw [Sp.putC (by assumption) (by assumption)] | rw [Sp.putC' (by assumption) (by assumption)] | rw [Sp.putD (by assumption) (by assumption)] | rw [Sp.putD' (by assumption) (by assumption)]) <;> simp⟩)⟩
    intro hc10'
    try simp only [nrm] at hc10'
    refine W_skip (N_K (W_seq (W_drawK [1] 8 H kR Z ?_))); intro w25 H; have hd25 := PLe.refl G5
    refine vM 0 Z Z (vM 1 Z Z ?_)
    have hl26 := hlist.len
    obtain ⟨b26, o26, z26, q26, ha26, hz26, hq26, hE26, hrow26, _⟩ := hlist.at (i := k) oM
    clear hq26
    obtain ⟨a26, m26, c26, rfl, hi26, hr26⟩ := hE26; have hy_hi26 : _ ≤ 16777216 := hi26; have hn_hr26 := hr26.len; have hx_hr26 : _ ≤ 1099511627776 := hr26.lim
    have hzz26 : z9 = z26 := Option.some.inj (hz9.symm.trans hz26)
    subst hzz26
    refine RD_t 2 Z kR Z (fun _ hK => v_index_P (i := k) ha26 underlying24 sizeOf37 Z Z Z oM) (RD_t 3 Z kR Z (fun _ hK => v_fieldAddr 0 runUnderlying37 Z sizeOf9 Z Z) (RD_t 4 Z kR Z (fun _ hK => v_load_P hK isAgg9 Z (hrow26 0 _ Z)) (RD_t 5 Z kR Z (fun _ hK => v_fieldAddr 0 runUnderlying37 Z sizeOf9 Z Z) (RD_t 6 Z kR Z (fun _ hK => v_load_B 0 hK isAgg9 Z Z Z) (RD_t 7 Z kR Z (fun _ hK => v_sneq Z Z) (RD_done kR (N_K ?_)))))))
    refine W_cond Z ?_ ?_
    ·intro hc27
     try simp only [nrm] at hc27
     refine W_region (mV Z (mV Z (mV Z (o_index_P k hlist underlying24 sizeOf37 Z Z Z Z aN ?_)))); intro b28 o28 z28 q28 hz28 hE28 hrow28
     obtain ⟨a28, m28, c28, rfl, hi28, hr28⟩ := hE28; have hy_hi28 : _ ≤ 16777216 := hi28; have hn_hr28 := hr28.len; have hx_hr28 : _ ≤ 1099511627776 := hr28.lim
     have hzz28 : z9 = z28 := Option.some.inj (hz9.symm.trans hz28)
     subst hzz28
     refine o_loadagg_P H isAgg37 sizeOf37 Z Z hrow28 Z (o_call call104 Z Z (l5Copy_c _ _ H.sub _ _ ⟨_, _, _, Z, hi28, hr28⟩ ) ?_)
     rintro _ w29 ⟨G29, _, g29, rfl, u29_0, rfl, hr29_0⟩
     have H := H.grow g29
     have hchk5_0 := hchk5_0.up g29.le
     have hle5 := hle5.trans g29.le
     obtain ⟨a30, m30, c30, rfl, hi30, hr30⟩ := hr29_0; have hy_hi30 : _ ≤ 16777216 := hi30; have hn_hr30 := hr30.len; have hx_hr30 : _ ≤ 1099511627776 := hr30.lim
     refine ⟨_, Z, ?_⟩
     refine o_buildSlice H underlying24 sizeOf37 (fun w => ⟨_, zeroValue37 w, Z⟩) Z Z Z Z Z Z Z ?_; intro b31 w31 hb31 H
     refine o_append1 0 H (sz := 3) (bytes := 48) underlying24 typeInfo37 ⟨_, Z, Z⟩ Z Z Z Z Z Z Z Z Z Z oM Z ?_; intro v32 w32 H
     have hchk32 := hchk5_0.snoc (show itemE _ z9 _ from ⟨_, _, _, rfl, hi30, hr30⟩) rfl
     obtain ⟨av32, cv32, rfl⟩ := H.accShape (k := 0) rfl
     refine aG Z (R_nil (N_B (N_K (W_region (mV Z (o_add Z Z Z oO (aG Z (R_nil ?_))))))))
     refine N_lp (hJ := ⟨_, _, _, (xs ++ [z9]), d, k + 1, _, Z, hle5, H, ?inv, Z⟩) (hm := ?hm)
     case hm => omega
     case inv => exact ⟨hchk32, aN, (by exact ⟨by omega, by first | omega | (simp; omega), fun h => by have := hxd h; first | omega | (simp; omega), by rw [Sp.drop_at hz9] at hp; rw [← hp]; (first | rw [Sp.putA (by assumption) (by assumption) (by assumption)] | rw [Sp.putB (by assumption) (by assumption) (by assumption)] | rw [Sp.putC (by assumption) (by assumption)] | rw [Sp.putC' (by assumption) (by assumption)] | rw [Sp.putD (by assumption) (by assumption)] | rw [Sp.putD' (by assumption) (by assumption)]) <;> simp⟩)⟩
    intro hc27'
    try simp only [nrm] at hc27'
    refine W_skip (N_B (N_K (W_region (mV Z (o_add Z Z Z oO (aG Z (R_nil ?_)))))))
    refine N_lp (hJ := ⟨_, _, _, xs, d, k + 1, _, Z, hle5, H, ?inv, Z⟩) (hm := ?hm)
    case hm => omega
    case inv => exact ⟨hchk5_0, aN, (by exact ⟨by omega, by first | omega | (simp; omega), fun h => by have := hxd h; first | omega | (simp; omega), by rw [Sp.drop_at hz9] at hp; rw [← hp]; (first | rw [Sp.putA (by assumption) (by assumption) (by assumption)] | rw [Sp.putB (by assumption) (by assumption) (by assumption)] | rw [Sp.putC (by assumption) (by assumption)] | rw [Sp.putC' (by assumption) (by assumption)] | rw [Sp.putD (by assumption) (by assumption)] | rw [Sp.putD' (by assumption) (by assumption)]) <;> simp⟩)⟩
   intro hc8'
   try simp only [nrm] at hc8'
   refine RD_pass 3 Z kR kR kR Z (yl_ne Z Z Z) (RD_pass 4 Z kR kR kR Z (yl_ne Z Z Z) (RD_pass 5 Z kR kR kR Z (yl_ne Z Z Z) (RD_pass 6 Z kR kR kR Z (yl_ne Z Z Z) (RD_pass 7 Z kR kR kR Z (yl_ne Z Z Z) (RD_pass 8 Z kR kR kR Z (yl_ne Z Z Z) (RD_pass 9 Z kR kR kR Z (yl_ne Z Z Z) (RD_pass 10 Z kR kR kR Z (yl_ne Z Z Z) (RD_t 11 Z kR Z (fun _ hK => v_pick_f Z Z) (RD_done kR (N_K (W_false Z (W_skip (N_K (W_seq (W_drawK [1] 8 H kR Z ?_))))))))))))))); intro w35 H; have hd35 := PLe.refl G5
   refine vM 0 Z Z (vM 1 Z Z ?_)
   have hl36 := hlist.len
   obtain ⟨b36, o36, z36, q36, ha36, hz36, hq36, hE36, hrow36, _⟩ := hlist.at (i := k) oM
   clear hq36
   obtain ⟨a36, m36, c36, rfl, hi36, hr36⟩ := hE36; have hy_hi36 : _ ≤ 16777216 := hi36; have hn_hr36 := hr36.len; have hx_hr36 : _ ≤ 1099511627776 := hr36.lim
   refine RD_t 2 Z kR Z (fun _ hK => v_index_P (i := k) ha36 underlying24 sizeOf37 Z Z Z oM) (RD_t 3 Z kR Z (fun _ hK => v_fieldAddr 0 runUnderlying37 Z sizeOf9 Z Z) (RD_t 4 Z kR Z (fun _ hK => v_load_P hK isAgg9 Z (hrow36 0 _ Z)) (RD_t 5 Z kR Z (fun _ hK => v_fieldAddr 0 runUnderlying37 Z sizeOf9 Z Z) (RD_t 6 Z kR Z (fun _ hK => v_load_B 0 hK isAgg9 Z Z Z) (RD_t 7 Z kR Z (fun _ hK => v_sneq Z Z) (RD_done kR (N_K ?_)))))))
   refine W_cond Z ?_ ?_
   ·intro hc37
    try simp only [nrm] at hc37
    refine W_region (mV Z (mV Z (mV Z (o_index_P k hlist underlying24 sizeOf37 Z Z Z Z aN ?_)))); intro b38 o38 z38 q38 hz38 hE38 hrow38
    obtain ⟨a38, m38, c38, rfl, hi38, hr38⟩ := hE38; have hy_hi38 : _ ≤ 16777216 := hi38; have hn_hr38 := hr38.len; have hx_hr38 : _ ≤ 1099511627776 := hr38.lim
    have hzz38 : z36 = z38 := Option.some.inj (hz36.symm.trans hz38)
    subst hzz38
    refine o_loadagg_P H isAgg37 sizeOf37 Z Z hrow38 Z (o_call call104 Z Z (l5Copy_c _ _ H.sub _ _ ⟨_, _, _, Z, hi38, hr38⟩ ) ?_)
    rintro _ w39 ⟨G39, _, g39, rfl, u39_0, rfl, hr39_0⟩
    have H := H.grow g39
    have hchk5_0 := hchk5_0.up g39.le
    have hle5 := hle5.trans g39.le
    obtain ⟨a40, m40, c40, rfl, hi40, hr40⟩ := hr39_0; have hy_hi40 : _ ≤ 16777216 := hi40; have hn_hr40 := hr40.len; have hx_hr40 : _ ≤ 1099511627776 := hr40.lim
    refine ⟨_, Z, ?_⟩
    refine o_buildSlice H underlying24 sizeOf37 (fun w => ⟨_, zeroValue37 w, Z⟩) Z Z Z Z Z Z Z ?_; intro b41 w41 hb41 H
    refine o_append1 0 H (sz := 3) (bytes := 48) underlying24 typeInfo37 ⟨_, Z, Z⟩ Z Z Z Z Z Z Z Z Z Z oM Z ?_; intro v42 w42 H
    have hchk42 := hchk5_0.snoc (show itemE _ z36 _ from ⟨_, _, _, rfl, hi40, hr40⟩) rfl
    obtain ⟨av42, cv42, rfl⟩ := H.accShape (k := 0) rfl
    refine aG Z (R_nil (N_B (N_K (W_region (mV Z (o_add Z Z Z oO (aG Z (R_nil ?_))))))))
    refine N_lp (hJ := ⟨_, _, _, (xs ++ [z36]), d, k + 1, _, Z, hle5, H, ?inv, Z⟩) (hm := ?hm)
    case hm => omega
    case inv => exact ⟨hchk42, aN, (by exact ⟨by omega, by first | omega | (simp; omega), fun h => by have := hxd h; first | omega | (simp; omega), by rw [Sp.drop_at hz36] at hp; rw [← hp]; (first | rw [Sp.putA (by assumption) (by assumption) (by assumption)] | rw [Sp.putB (by assumption) (by assumption) (by assumption)] | rw [Sp.putC (by assumption) (by assumption)] | rw [Sp.putC' (by assumption) (by assumption)] | rw [Sp.putD (by assumption) (by assumption)] | rw [Sp.putD' (by assumption) (by assumption)]) <;> simp⟩)⟩
   intro hc37'
   try simp only [nrm] at hc37'
   refine W_skip (N_B (N_K (W_region (mV Z (o_add Z Z Z oO (aG Z (R_nil ?_)))))))
   refine N_lp (hJ := ⟨_, _, _, xs, d, k + 1, _, Z, hle5, H, ?inv, Z⟩) (hm := ?hm)
   case hm => omega
   case inv => exact ⟨hchk5_0, aN, (by exact ⟨by omega, by first | omega | (simp; omega), fun h => by have := hxd h; first | omega | (simp; omega), by rw [Sp.drop_at hz36] at hp; rw [← hp]; (first | rw [Sp.putA (by assumption) (by assumption) (by assumption)] | rw [Sp.putB (by assumption) (by assumption) (by assumption)] | rw [Sp.putC (by assumption) (by assumption)] | rw [Sp.putC' (by assumption) (by assumption)] | rw [Sp.putD (by assumption) (by assumption)] | rw [Sp.putD' (by assumption) (by assumption)]) <;> simp⟩)⟩
  intro hc6'
  try simp only [nrm] at hc6'
  refine W_exit (N_K_exit (N_LP_exit (N_B_same (N_K (W_seq (q2 (mV Z (o_not Z Z (q3 ?_)))))))))
  refine W_cond Z ?_ ?_
  ·intro hc45
   try simp only [nrm] at hc45
   refine W_region (mV Z (o_loadagg_B 1 H isAgg37 sizeOf37 Z Z Z Z Z (o_call call104 Z Z (l5Copy_c _ _ H.sub _ x ⟨_, _, _, Z, hi1, hr1⟩ ) ?_)))
   rintro _ w46 ⟨G46, _, g46, rfl, u46_0, rfl, hr46_0⟩
   have H := H.grow g46
   have hchk5_0 := hchk5_0.up g46.le
   obtain ⟨a47, m47, c47, rfl, hi47, hr47⟩ := hr46_0; have hy_hi47 : _ ≤ 16777216 := hi47; have hn_hr47 := hr47.len; have hx_hr47 : _ ≤ 1099511627776 := hr47.lim
   refine ⟨_, Z, ?_⟩
   refine o_buildSlice H underlying24 sizeOf37 (fun w => ⟨_, zeroValue37 w, Z⟩) Z Z Z Z Z Z Z ?_; intro b48 w48 hb48 H
   refine o_append1 0 H (sz := 3) (bytes := 48) underlying24 typeInfo37 ⟨_, Z, Z⟩ Z Z Z Z Z Z Z Z Z Z oM Z ?_; intro v49 w49 H
   have hchk49 := hchk5_0.snoc (show itemE _ x _ from ⟨_, _, _, rfl, hi47, hr47⟩) rfl
   obtain ⟨av49, cv49, rfl⟩ := H.accShape (k := 0) rfl
   refine aG Z (q1 (mV Z (aG Z (q3 (W_ret (rt1 results157 Z ?_))))))
   rw [List.drop_of_length_le oM] at hp
   exact H.retO (k := 0) rfl (by rw [← hp, Sp.putGo, if_neg (by simp [*])]; exact AccOf.mk aN hchk49) (acc_nd _ _ _ _ _)
  intro hc45'
  try simp only [nrm] at hc45'
  refine W_skip (N_K (q2 (mV Z (aG Z (q3 (W_ret (rt1 results157 Z ?_)))))))
  rw [List.drop_of_length_le oM] at hp
  exact H.retO (k := 0) rfl (by rw [← hp, Sp.putGo, if_pos (by assumption), List.append_nil]; exact AccOf.mk aN hchk5_0) (acc_nd _ _ _ _ _)
end Go.Proofs.Tst

namespace Go.Proofs.Tst
open Go Fw Tryz
theorem TreePut_c (w0 : World) (G0 : PH) (hG : PSub G0 w0) (vlist : Value) (list : List (BItem)) (hlist : RdItems G0 vlist list) (cx : List Value) (x : BItem) (hx : itemE G0 x cx)  :
  Calls Tryz.prog 116 #[vlist, .agg cx.toArray] w0 (RetP w0 G0 (fun G v => ∃ u, v = .tuple #[u, .bool (Sp.TreePut list x).isSome] ∧ RdItems G u ((Sp.TreePut list x).getD []))) := by
 obtain ⟨alist, klist, rfl⟩ := hlist.shape
 have hlimlist : list.length ≤ 1099511627776 := hlist.lim
 obtain ⟨a1, m1, c1, rfl, hi1, hr1⟩ := hx; have hy_hi1 : _ ≤ 16777216 := hi1; have hn_hr1 := hr1.len; have hx_hr1 : _ ≤ 1099511627776 := hr1.lim
 have H := Hp.init hG
 refine calls_of_W (l := [.slice alist list.length klist, _]) func116 Z ntmps116 Z (q2 (o_box H Z Z Z ?_)); intro b2 w2 hb2 H
 refine aG Z (aG Z (q3 (W_seq (q2 (mV Z (o_call call97 Z Z (TreeValid_c _ _ H.sub _ _ hlist ) ?_))))))
 rintro _ w3 ⟨rfl, ew3⟩; have H := H.step ew3; refine ⟨_, rfl, ?_⟩
 refine o_not Z Z (mV Z ?_)
 refine R_case (t := 11) Z ?_ ?_
 ·intro hc4
  try simp only [nrm] at hc4
  refine rP Z (rP Z (rP Z (o_pick_t Z Z Z (q3 (W_true Z (q2 (o_buildSlice H underlying24 sizeOf37 (fun w => ⟨_, zeroValue37 w, Z⟩) Z Z Z Z Z Z Z ?_))))))); intro b5 w5 hb5 H
  have H := H.blkAcc 3 (k := 0) (n := 0) rfl rfl (by decide)
  refine aG Z (aG Z (q3 (W_ret (N_K_ret (rt2 results116 Z Z ?_)))))
  obtain ⟨G507, H, hsg507, hsr507⟩ := H.shut' (k := 0) rfl (Chk.nil (E := itemE) (sz := 3) (G := G0)) aN aN
  have hY : Sp.TreePut list x = none := by simp [Sp.TreePut, hc4]
  exact H.retP (by rw [hY]; exact ⟨_, rfl, hsr507⟩)
 intro hc4'
 try simp only [nrm] at hc4'
 have htl := Sp.tree_len hc4'
 refine gR Z (o_loadagg_B 0 H isAgg37 sizeOf37 Z Z Z Z Z (gR Z (o_call call145 Z Z (l5Item_c _ _ H.sub _ x ⟨_, _, _, Z, hi1, hr1⟩ ) ?_)))
 rintro _ w6 ⟨rfl, ew6⟩; have H := H.step ew6; refine ⟨_, rfl, ?_⟩
 refine gR Z (o_not Z Z (o_pick_f Z Z Z (q3 ?_)))
 refine W_cond Z ?_ ?_
 ·intro hc7
  try simp only [nrm] at hc7
  refine q2 (o_buildSlice H underlying24 sizeOf37 (fun w => ⟨_, zeroValue37 w, Z⟩) Z Z Z Z Z Z Z ?_); intro b8 w8 hb8 H
  have H := H.blkAcc 3 (k := 0) (n := 0) rfl rfl (by decide)
  refine aG Z (aG Z (q3 (W_ret (N_K_ret (rt2 results116 Z Z ?_)))))
  obtain ⟨G511, H, hsg511, hsr511⟩ := H.shut' (k := 0) rfl (Chk.nil (E := itemE) (sz := 3) (G := G0)) aN aN
  have hY : Sp.TreePut list x = none := by simp [Sp.TreePut, hc7]
  exact H.retP (by rw [hY]; exact ⟨_, rfl, hsr511⟩)
 intro hc7'
 try simp only [nrm] at hc7'
 refine W_skip (N_K (q2 (mV Z (o_fieldAddr 0 runUnderlying37 Z sizeOf9 Z Z Z (o_load_B 0 H isAgg9 Z Z Z Z (o_call call112 Z Z (l5At_c _ _ H.sub _ _ hlist _ hi1 ) ?_))))))
 rintro _ w9 ⟨rfl, ew9⟩; have H := H.step ew9; refine ⟨_, rfl, ?_⟩
 refine aG Z (q3 (W_seq (q2 (mV Z (o_geq Z Z Z (mV Z ?_))))))
 refine R_case (t := 23) Z ?_ ?_
 ·intro hc10
  try simp only [nrm] at hc10
  obtain ⟨i, y, ia, ib, ic, ie, ig⟩ := Sp.at_nat hc10
  refine gR Z (mV Z (gR Z (mV Z (gR Z (o_index_P i hlist underlying24 sizeOf37 Z Z Z ib aN ?_))))); intro b11 o11 z11 q11 hz11 hE11 hrow11
  obtain ⟨a11, m11, c11, rfl, hi11, hr11⟩ := hE11; have hy_hi11 : _ ≤ 16777216 := hi11; have hn_hr11 := hr11.len; have hx_hr11 : _ ≤ 1099511627776 := hr11.lim
  refine gR Z (o_fieldAddr 1 runUnderlying37 Z sizeOf4 Z Z Z (gR Z (o_load_P H isAgg4 Z Z (hrow11 1 _ Z) (gR Z (mV Z ?_)))))
  refine R_case (t := 29) Z ?_ ?_
  ·intro hc12
   try simp only [nrm] at hc12
   refine rP Z (rP Z (gR Z (o_pick_t Z Z Z (o_pick_t Z Z Z (q3 (W_true Z (q2 (o_buildSlice H underlying24 sizeOf37 (fun w => ⟨_, zeroValue37 w, Z⟩) Z Z Z Z Z Z Z ?_)))))))); intro b13 w13 hb13 H
   have H := H.blkAcc 3 (k := 0) (n := 0) rfl rfl (by decide)
   refine aG Z (aG Z (q3 (W_ret (N_K_ret (rt2 results116 Z Z ?_)))))
   obtain ⟨G517, H, hsg517, hsr517⟩ := H.shut' (k := 0) rfl (Chk.nil (E := itemE) (sz := 3) (G := G0)) aN aN
   have hY : Sp.TreePut list x = none := by (have hl : Sp.atI list x.path = some i := ia); simp [Sp.TreePut, hl, hz11, hc12]
   exact H.retP (by rw [hY]; exact ⟨_, rfl, hsr517⟩)
  intro hc12'
  try simp only [nrm] at hc12'
  refine gR Z (o_fieldAddr 1 runUnderlying37 Z sizeOf4 Z Z Z (gR Z (o_load_B 0 H isAgg4 Z Z Z Z (gR Z (o_pick_f Z Z Z (o_pick_t Z Z Z (q3 ?_)))))))
  refine W_cond Z ?_ ?_
  ·intro hc14
   try simp only [nrm] at hc14
   refine q2 (o_buildSlice H underlying24 sizeOf37 (fun w => ⟨_, zeroValue37 w, Z⟩) Z Z Z Z Z Z Z ?_); intro b15 w15 hb15 H
   have H := H.blkAcc 3 (k := 0) (n := 0) rfl rfl (by decide)
   refine aG Z (aG Z (q3 (W_ret (N_K_ret (rt2 results116 Z Z ?_)))))
   obtain ⟨G520, H, hsg520, hsr520⟩ := H.shut' (k := 0) rfl (Chk.nil (E := itemE) (sz := 3) (G := G0)) aN aN
   have hY : Sp.TreePut list x = none := by (have hl : Sp.atI list x.path = some i := ia); simp [Sp.TreePut, hl, hz11, hc14]
   exact H.retP (by rw [hY]; exact ⟨_, rfl, hsr520⟩)
  intro hc14'
  try simp only [nrm] at hc14'
  refine W_skip (N_K (q2 (mV Z (o_loadagg_B 0 H isAgg37 sizeOf37 Z Z Z Z Z (o_call call157 Z Z (l5Put_c _ _ H.sub _ _ hlist _ x ⟨_, _, _, Z, hi1, hr1⟩ oM) ?_)))))
  rintro _ w16 ⟨G16, v16, _, g16, rfl, ⟨cs16, rfl, hchk16⟩, hp16, hq16, hs16⟩
  have H := H.growO g16 hp16 hq16 hs16; obtain ⟨av16, cv16, rfl⟩ := H.accShape (k := 0) rfl
  refine ⟨_, Z, ?_⟩
  have hpl := Sp.l5Put_len list x
  refine aG Z (q3 (W_seq (q2 (mV Z (o_call call97 Z Z (TreeValid_c _ _ (H.lendSubL [0]) _ _ (H.lendRdL (k := 0) (ks := [0]) Z Z hchk16 aN aN) ) ?_)))))
  rintro _ w17 ⟨rfl, ew17⟩; have H := H.step ew17; refine ⟨_, rfl, ?_⟩
  refine o_not Z Z (q3 ?_)
  refine W_cond Z ?_ ?_
  ·intro hc18
   try simp only [nrm] at hc18
   refine q2 (o_buildSlice H underlying24 sizeOf37 (fun w => ⟨_, zeroValue37 w, Z⟩) Z Z Z Z Z Z Z ?_); intro b19 w19 hb19 H
   have H := H.blkAcc 3 (k := 0) (n := 0) rfl rfl (by decide)
   refine aG Z (aG Z (q3 (W_ret (N_K_ret (rt2 results116 Z Z ?_)))))
   obtain ⟨G525, H, hsg525, hsr525⟩ := H.shut' (k := 0) rfl (Chk.nil (E := itemE) (sz := 3) (G := G16)) aN aN
   have hY : Sp.TreePut list x = none := by (have hl : Sp.atI list x.path = some i := ia); simp [Sp.TreePut, hc18]
   exact H.retP (by rw [hY]; exact ⟨_, rfl, hsr525⟩)
  intro hc18'
  try simp only [nrm] at hc18'
  refine W_skip (N_K (q2 (mV Z (aG Z (aG Z (q3 (W_ret (rt2 results116 Z Z ?_))))))))
  obtain ⟨G526, H, hsg526, hsr526⟩ := H.shut' (k := 0) rfl hchk16 aN aN
  have hY : Sp.TreePut list x = some (Sp.l5Put list x) := by (have hl : Sp.atI list x.path = some i := ia); simp [Sp.TreePut, hl, hz11, hc4', hc7', hc12', hc14', hc18']
  exact H.retP (by rw [hY]; exact ⟨_, rfl, hsr526⟩)
 intro hc10'
 try simp only [nrm] at hc10'
 refine rP Z (rP Z (rP Z (rP Z (rP Z (rP Z (R_pass Z (yl_un Z Z) (R_pass Z (yl_un Z Z) (rP Z (o_pick_f Z Z Z (q3 (W_false Z (W_skip (N_K (q2 (mV Z ?_)))))))))))))))
 refine o_loadagg_B 0 H isAgg37 sizeOf37 Z Z Z Z Z (o_call call157 Z Z (l5Put_c _ _ H.sub _ _ hlist _ x ⟨_, _, _, Z, hi1, hr1⟩ oM) ?_)
 rintro _ w20 ⟨G20, v20, _, g20, rfl, ⟨cs20, rfl, hchk20⟩, hp20, hq20, hs20⟩
 have H := H.growO g20 hp20 hq20 hs20; obtain ⟨av20, cv20, rfl⟩ := H.accShape (k := 0) rfl
 refine ⟨_, Z, ?_⟩
 have hpl := Sp.l5Put_len list x
 refine aG Z (q3 (W_seq (q2 (mV Z (o_call call97 Z Z (TreeValid_c _ _ (H.lendSubL [0]) _ _ (H.lendRdL (k := 0) (ks := [0]) Z Z hchk20 aN aN) ) ?_)))))
 rintro _ w21 ⟨rfl, ew21⟩; have H := H.step ew21; refine ⟨_, rfl, ?_⟩
 refine o_not Z Z (q3 ?_)
 refine W_cond Z ?_ ?_
 ·intro hc22
  try simp only [nrm] at hc22
  refine q2 (o_buildSlice H underlying24 sizeOf37 (fun w => ⟨_, zeroValue37 w, Z⟩) Z Z Z Z Z Z Z ?_); intro b23 w23 hb23 H
  have H := H.blkAcc 3 (k := 0) (n := 0) rfl rfl (by decide)
  refine aG Z (aG Z (q3 (W_ret (N_K_ret (rt2 results116 Z Z ?_)))))
  obtain ⟨G531, H, hsg531, hsr531⟩ := H.shut' (k := 0) rfl (Chk.nil (E := itemE) (sz := 3) (G := G20)) aN aN
  have hY : Sp.TreePut list x = none := by simp [Sp.TreePut, hc22]
  exact H.retP (by rw [hY]; exact ⟨_, rfl, hsr531⟩)
 intro hc22'
 try simp only [nrm] at hc22'
 refine W_skip (N_K (q2 (mV Z (aG Z (aG Z (q3 (W_ret (rt2 results116 Z Z ?_))))))))
 obtain ⟨G532, H, hsg532, hsr532⟩ := H.shut' (k := 0) rfl hchk20 aN aN
 have hY : Sp.TreePut list x = some (Sp.l5Put list x) := by (have hl : Sp.atI list x.path = none := Sp.at_none hc10'); simp [Sp.TreePut, hl, hc4', hc7', hc22']
 exact H.retP (by rw [hY]; exact ⟨_, rfl, hsr532⟩)
end Go.Proofs.Tst

namespace Go.Proofs.Tst
open Go Fw Tryz
theorem TreeDrop_c (w0 : World) (G0 : PH) (hG : PSub G0 w0) (vlist : Value) (list : List (BItem)) (hlist : RdItems G0 vlist list) (path : Bs) (hpath : path.length ≤ 16777216)  :
  Calls Tryz.prog 199 #[vlist, str path] w0 (RetP w0 G0 (fun G v => ∃ u, v = .tuple #[u, .bool (Sp.TreeDrop list path).isSome] ∧ RdItems G u ((Sp.TreeDrop list path).getD []))) := by
 obtain ⟨alist, klist, rfl⟩ := hlist.shape
 have hlimlist : list.length ≤ 1099511627776 := hlist.lim
 have H := Hp.init hG
 refine calls_of_W (l := [.slice alist list.length klist, str path]) func199 Z ntmps199 Z (q2 (aG Z (aG Z (q1 (mV Z (mV Z (o_call call112 Z Z (l5At_c _ _ H.sub _ _ hlist _ hpath ) ?_)))))))
 rintro _ w1 ⟨rfl, ew1⟩; have H := H.step ew1; refine ⟨_, rfl, ?_⟩
 refine aG Z (q3 (W_seq (q2 (mV Z (o_call call97 Z Z (TreeValid_c _ _ H.sub _ _ hlist ) ?_)))))
 rintro _ w2 ⟨rfl, ew2⟩; have H := H.step ew2; refine ⟨_, rfl, ?_⟩
 refine o_not Z Z (mV Z ?_)
 refine R_case (t := 14) Z ?_ ?_
 ·intro hc3
  try simp only [nrm] at hc3
  refine rP Z (rP Z (o_pick_t Z Z Z (q3 (W_true Z (q2 (o_buildSlice H underlying24 sizeOf37 (fun w => ⟨_, zeroValue37 w, Z⟩) Z Z Z Z Z Z Z ?_)))))); intro b4 w4 hb4 H
  have H := H.blkAcc 3 (k := 0) (n := 0) rfl rfl (by decide)
  refine aG Z (aG Z (q3 (W_ret (N_K_ret (rt2 results199 Z Z ?_)))))
  obtain ⟨G506, H, hsg506, hsr506⟩ := H.shut' (k := 0) rfl (Chk.nil (E := itemE) (sz := 3) (G := G0)) aN aN
  have hY : Sp.TreeDrop list path = none := by simp [Sp.TreeDrop, hc3]
  exact H.retP (by rw [hY]; exact ⟨_, rfl, hsr506⟩)
 intro hc3'
 try simp only [nrm] at hc3'
 refine gR Z (mV Z (gR Z (o_lss Z Z Z (o_pick_f Z Z Z (q3 ?_)))))
 refine W_cond Z ?_ ?_
 ·intro hc5
  try simp only [nrm] at hc5
  refine q2 (o_buildSlice H underlying24 sizeOf37 (fun w => ⟨_, zeroValue37 w, Z⟩) Z Z Z Z Z Z Z ?_); intro b6 w6 hb6 H
  have H := H.blkAcc 3 (k := 0) (n := 0) rfl rfl (by decide)
  refine aG Z (aG Z (q3 (W_ret (N_K_ret (rt2 results199 Z Z ?_)))))
  obtain ⟨G509, H, hsg509, hsr509⟩ := H.shut' (k := 0) rfl (Chk.nil (E := itemE) (sz := 3) (G := G0)) aN aN
  have hY : Sp.TreeDrop list path = none := by simp [Sp.TreeDrop, Sp.atI, Sp.at_none hc5]
  exact H.retP (by rw [hY]; exact ⟨_, rfl, hsr509⟩)
 intro hc5'
 try simp only [nrm] at hc5'
 obtain ⟨i, x, hi1, hi2, hi3, hi4, hi5⟩ := Sp.at_nat hc5'
 have hi2 : Sp.l5At list path = (i : Int) := hi2
 have hl : Sp.atI list path = some i := hi1
 have htl := Sp.tree_len hc3'
 refine W_skip (N_K (q2 (mV Z (o_call call49 Z Z (l5All_c _ _ H.sub _ _ hlist ) ?_))))
 rintro _ w7 ⟨G7, v7, _, g7, rfl, ⟨cs7, rfl, hchk7⟩, hp7, hq7, hs7⟩
 have H := H.growO g7 hp7 hq7 hs7; obtain ⟨av7, cv7, rfl⟩ := H.accShape (k := 0) rfl
 refine ⟨_, Z, ?_⟩
 refine aG Z (q3 (W_seq (W_drawK [] 9 H kR Z ?_))); intro w8 H; have hd8 := PLe.refl G7
 refine vM 0 Z Z (vM 1 Z Z ?_)
 have hac9 := H.accCap (k := 0) rfl
 refine RD_t 2 Z kR Z (fun _ hK => v_slice_to (j := i) underlying24 sizeOf37 Z Z hi2 oM) (vM 3 Z Z (vM 4 Z Z (RD_t 5 Z kR Z (fun _ hK => v_add Z Z oO) ?_)))
 have hac11 := H.accCap (k := 0) rfl
 refine RD_t 6 Z kR Z (fun _ hK => v_slice_from (i := (i + 1)) underlying24 sizeOf37 Z Z oM oM) ?_
 refine RD_run [7] kR Z (RDs.cons Z ?_ RDs.nil)
 refine o_append_del 0 H i Z hchk7 (by intro z cs hz u hu; obtain ⟨_, _, _, rfl, _⟩ := hz; simp at hu; rcases hu with rfl | rfl | rfl <;> rfl) underlying24 typeInfo37 rfl rfl rfl rfl oM aN ?_; intro b12 w12 hb12 H hchk12; cases hb12
 refine R_nil (N_DK (Kn.of' H hd8 SubL.nil) (RD_t 8 Z kR Z (fun _ hK => v_assign Z) (RD_done kR (N_K (W_seq (q2 (mV Z (o_call call97 Z Z (TreeValid_c _ _ (H.lendSubL [0]) _ _ (H.lendRdL (k := 0) (ks := [0]) Z Z hchk12 aN aN) ) ?_))))))))
 rintro _ w13 ⟨rfl, ew13⟩; have H := H.step ew13; refine ⟨_, rfl, ?_⟩
 refine o_not Z Z (q3 ?_)
 refine W_cond Z ?_ ?_
 ·intro hc14
  try simp only [nrm] at hc14
  refine q2 (o_buildSlice H underlying24 sizeOf37 (fun w => ⟨_, zeroValue37 w, Z⟩) Z Z Z Z Z Z Z ?_); intro b15 w15 hb15 H
  have H := H.blkAcc 3 (k := 0) (n := 0) rfl rfl (by decide)
  refine aG Z (aG Z (q3 (W_ret (N_K_ret (rt2 results199 Z Z ?_)))))
  obtain ⟨G519, H, hsg519, hsr519⟩ := H.shut' (k := 0) rfl (Chk.nil (E := itemE) (sz := 3) (G := G7)) aN aN
  have hY : Sp.TreeDrop list path = none := by simp [Sp.TreeDrop, hl, hc14]
  exact H.retP (by rw [hY]; exact ⟨_, rfl, hsr519⟩)
 intro hc14'
 try simp only [nrm] at hc14'
 refine W_skip (N_K (q2 (mV Z (aG Z (aG Z (q3 (W_ret (rt2 results199 Z Z ?_))))))))
 obtain ⟨G520, H, hsg520, hsr520⟩ := H.shut' (k := 0) rfl hchk12 aN aN
 have hY : Sp.TreeDrop list path = some (list.take i ++ list.drop (i + 1)) := by simp [Sp.TreeDrop, hl, hc3', hc14']
 exact H.retP (by rw [hY]; exact ⟨_, rfl, hsr520⟩)
end Go.Proofs.Tst

namespace Go.Proofs.Tst
open Go Fw Tryz
theorem VolumeValid_c (w0 : World) (G0 : PH) (hG : PSub G0 w0) (cv : List Value) (v : BVol) (hv : volE G0 v cv)  :
  Calls Tryz.prog 198 #[.agg cv.toArray] w0 (Rets w0 (.bool (Sp.VolumeValid v))) := by
 obtain ⟨a1, m1, c1, a1', m1', c1', rfl, hr1, hr1'⟩ := hv; have hn_hr1 := hr1.len; have hx_hr1 : _ ≤ 1099511627776 := hr1.lim; have hn_hr1q := hr1'.len; have hx_hr1q : _ ≤ 1099511627776 := hr1'.lim
 have H := Hp.init hG
 refine calls_of_W (l := [_]) func198 Z ntmps198 Z (q2 (o_box H Z Z Z ?_)); intro b2 w2 hb2 H
 refine aG Z (q3 (W_seq (q2 (o_fieldAddr 0 runUnderlying47 Z sizeOf23 Z Z Z (o_load_B 0 H isAgg23 Z Z Z Z (o_call call96 Z Z (StoreValid_c _ _ H.sub _ _ hr1 ) ?_))))))
 rintro _ w3 ⟨rfl, ew3⟩; have H := H.step ew3; refine ⟨_, rfl, ?_⟩
 refine o_not Z Z (mV Z ?_)
 refine R_case (t := 8) Z ?_ ?_
 ·intro hc4
  try simp only [nrm] at hc4
  refine rP Z (rP Z (rP Z (rP Z (o_pick_t Z Z Z (mV Z (rP Z (rP Z (rP Z (rP Z (rP Z (rP Z (o_pick_t Z Z Z (q3 (W_true Z (q2 ?_)))))))))))))))
  refine aG Z (q3 (W_ret (N_K_ret (rt1 results198 Z ?_))))
  exact H.rets (congrArg Value.bool (by simp [Sp.VolumeValid, hc4]))
 intro hc4'
 try simp only [nrm] at hc4'
 refine gR Z (o_fieldAddr 1 runUnderlying47 Z sizeOf24 Z Z Z (gR Z (o_load_B 0 H isAgg24 Z Z Z Z (gR Z (o_call call97 Z Z (TreeValid_c _ _ H.sub _ _ hr1' ) ?_)))))
 rintro _ w5 ⟨rfl, ew5⟩; have H := H.step ew5; refine ⟨_, rfl, ?_⟩
 refine gR Z (o_not Z Z (o_pick_f Z Z Z (mV Z ?_)))
 refine R_case (t := 14) Z ?_ ?_
 ·intro hc6
  try simp only [nrm] at hc6
  refine rP Z (rP Z (rP Z (rP Z (rP Z (rP Z (o_pick_t Z Z Z (q3 (W_true Z (q2 (aG Z (q3 (W_ret (N_K_ret (rt1 results198 Z ?_))))))))))))))
  exact H.rets (congrArg Value.bool (by simp [Sp.VolumeValid, hc6]))
 intro hc6'
 try simp only [nrm] at hc6'
 refine gR Z (o_fieldAddr 0 runUnderlying47 Z sizeOf23 Z Z Z (gR Z (o_load_B 0 H isAgg23 Z Z Z Z (gR Z (o_fieldAddr 1 runUnderlying47 Z sizeOf24 Z Z Z (gR Z (o_load_B 0 H isAgg24 Z Z Z Z (gR Z (o_call call98 Z Z (l11Files_c _ _ H.sub _ _ hr1 _ _ hr1' ) ?_)))))))))
 rintro _ w7 ⟨rfl, ew7⟩; have H := H.step ew7; refine ⟨_, rfl, ?_⟩
 refine gR Z (o_not Z Z (o_pick_f Z Z Z (q3 ?_)))
 refine W_cond Z ?_ ?_
 ·intro hc8
  try simp only [nrm] at hc8
  refine q2 (aG Z (q3 (W_ret (N_K_ret (rt1 results198 Z ?_)))))
  exact H.rets (congrArg Value.bool (by simp [Sp.VolumeValid, hc8]))
 intro hc8'
 try simp only [nrm] at hc8'
 refine W_skip (N_K (W_seq (q2 (aG Z (q3 (W_block ?_))))))
 obtain ⟨ln9, hln9, H⟩ := H.name (k := 0) rfl
 refine W_lp (hf := (Sub.cons (t := 1) Z Sub.nil)) (J := fun M w m => ∃ (k : Nat) (G : PH), M = [(3, .int .i64 (k : Int))] ∧ PLe G0 G ∧ Hp w0 G0 [] w G [blk b2 (cl ln9 47)] ∧ (k ≤ v.store.length ∧ (v.store.take k).all (Sp.usesOk v.tree) = true) ∧ m = (v.store.length - k)) (h0 := ⟨0, _, Z, PLe.refl _, H, ?inv, Z⟩) (round := ?round)
 case inv => exact ⟨by omega, by simp⟩
 case round =>
  rintro _ w10 _ ⟨k, G10, rfl, hle10, H, hinv10, rfl⟩
  subst hln9
  have hr1 := hr1.up hle10
  have hr1' := hr1'.up hle10
  obtain ⟨hk, hall⟩ := hinv10
  refine W_seq (q2 (mV Z (o_fieldAddr 0 runUnderlying47 Z sizeOf23 Z Z Z (o_load_B 0 H isAgg23 Z Z Z Z (o_len_slice underlying23 Z Z (o_lss Z Z Z (q3 ?_)))))))
  refine W_cond Z ?_ ?_
  ·intro hc11
   try simp only [nrm] at hc11
   refine W_skip (N_K (W_seq (W_block (W_seq (W_drawK [0] 16 H kR Z ?_))))); intro w12 H; have hd12 := PLe.refl G10
   refine RD_t 0 Z kR Z (fun _ hK => v_fieldAddr 1 runUnderlying47 Z sizeOf24 Z Z) (RD_t 1 Z kR Z (fun _ hK => v_load_B 0 hK isAgg24 Z Z Z) (RD_t 2 Z kR Z (fun _ hK => v_fieldAddr 0 runUnderlying47 Z sizeOf23 Z Z) (RD_t 3 Z kR Z (fun _ hK => v_load_B 0 hK isAgg23 Z Z Z) (vM 4 Z Z ?_))))
   have hl13 := hr1.len
   obtain ⟨b13, o13, z13, q13, ha13, hz13, hq13, hE13, hrow13, _⟩ := hr1.at (i := k) oM
   clear hq13
   obtain ⟨a13, m13, c13, rfl, hi13, hr13, hj13⟩ := hE13; have hn_hr13 := hr13.len; have hx_hr13 : _ ≤ 1099511627776 := hr13.lim
   refine RD_t 5 Z kR Z (fun _ hK => v_index_P (i := k) ha13 underlying23 sizeOf105 Z Z Z oM) (RD_t 6 Z kR Z (fun _ hK => v_fieldAddr 0 runUnderlying105 Z sizeOf3 Z Z) (RD_t 7 Z kR Z (fun _ hK => v_load_P hK isAgg3 Z (hrow13 0 _ Z)) (RD_t 9 Z kR Z (fun _ hK => v_fieldAddr 0 runUnderlying47 Z sizeOf23 Z Z) (RD_t 10 Z kR Z (fun _ hK => v_load_B 0 hK isAgg23 Z Z Z) (vM 11 Z Z ?_)))))
   have hl14 := hr1.len
   obtain ⟨b14, o14, z14, q14, ha14, hz14, hq14, hE14, hrow14, _⟩ := hr1.at (i := k) oM
   clear hq14
   obtain ⟨a14, m14, c14, rfl, hi14, hr14, hj14⟩ := hE14; have hn_hr14 := hr14.len; have hx_hr14 : _ ≤ 1099511627776 := hr14.lim
   have hzz14 : z13 = z14 := Option.some.inj (hz13.symm.trans hz14)
   subst hzz14
   refine RD_t 12 Z kR Z (fun _ hK => v_index_P (i := k) ha14 underlying23 sizeOf105 Z Z Z oM) (RD_t 13 Z kR Z (fun _ hK => v_fieldAddr 2 runUnderlying105 Z sizeOf3 Z Z) (RD_t 14 Z kR Z (fun _ hK => v_load_P hK isAgg3 Z (hrow14 2 _ Z)) ?_))
   refine RD_run [8] kR Z (RDs.cons Z ?_ RDs.nil)
   refine o_call call148 Z Z (l11Count_c _ _ H.sub _ _ hr1' _ hc6') ?_
   rintro _ w15 ⟨rfl, ew15⟩; have H := H.step ew15; refine ⟨_, rfl, ?_⟩
   refine R_nil (N_DK (Kn.of' H hd12 (SubL.cons 0 Z SubL.nil)) (RD_t 15 Z kR Z (fun _ hK => v_neq Z Z) (RD_done kR (N_K ?_))))
   refine W_cond Z ?_ ?_
   ·intro hc16
    try simp only [nrm] at hc16
    refine q2 (aG Z (q3 (W_ret (N_B_ret (N_K_ret (N_LP_ret (N_B_ret (N_K_ret (rt1 results198 Z ?_)))))))))
    exact H.rets (congrArg Value.bool (by rw [Sp.VolumeValid, Sp.all_false hz13 (by simp [Sp.usesOk, *])]; rfl))
   intro hc16'
   try simp only [nrm] at hc16'
   refine W_skip (N_B (N_K (W_region (mV Z (o_add Z Z Z oO (aG Z (R_nil ?_)))))))
   refine N_lp (hJ := ⟨k + 1, _, Z, hle10, H, ?inv, Z⟩) (hm := ?hm)
   case hm => omega
   case inv => exact ⟨by omega, Sp.all_take hall hz13 (by simp [Sp.usesOk, *])⟩
  intro hc11'
  try simp only [nrm] at hc11'
  refine W_exit (N_K_exit (N_LP_exit (N_B_same (N_K (q2 (aG Z (q3 (W_ret (rt1 results198 Z ?_)))))))))
  obtain rfl : k = v.store.length := by omega
  rw [List.take_length] at hall
  exact H.rets (congrArg Value.bool (by simp [Sp.VolumeValid, hall, hc4', hc6', hc8']))
theorem VolumeDir_c (w0 : World) (G0 : PH) (hG : PSub G0 w0) (cv : List Value) (v : BVol) (hv : volE G0 v cv) (path : Bs) (hpath : path.length ≤ 16777216)  :
  Calls Tryz.prog 170 #[.agg cv.toArray, str path] w0 (RetO w0 G0 (fun G val r => ∃ u u1, val = .tuple #[.agg #[u, u1], .bool (Sp.VolumeDir v path).isSome] ∧ AccOf heldE 3 105 (((Sp.VolumeDir v path).map (·.store)).getD []) G u r ∧ RdItems G u1 (((Sp.VolumeDir v path).map (·.tree)).getD []))) := by
 obtain ⟨a1, m1, c1, a1', m1', c1', rfl, hr1, hr1'⟩ := hv; have hn_hr1 := hr1.len; have hx_hr1 : _ ≤ 1099511627776 := hr1.lim; have hn_hr1q := hr1'.len; have hx_hr1q : _ ≤ 1099511627776 := hr1'.lim
 have H := Hp.init hG
 refine calls_of_W (l := [_, str path]) func170 Z ntmps170 Z (q2 (o_box H Z Z Z ?_)); intro b2 w2 hb2 H
 refine o_alloc H zeroValue47 Z Z ?_; intro b3 w3 hb3 H
 refine aG Z (q1 (o_fieldAddr 1 runUnderlying47 Z sizeOf24 Z Z Z (o_load_B 1 H isAgg24 Z Z Z Z (mV Z (o_build bf37 Z Z Z (o_call call116 Z Z (TreePut_c _ _ H.sub _ _ hr1' _ ⟨path, true, []⟩ ⟨_, _, _, Z, hpath, (RdS.nil _ _ _)⟩ ) ?_))))))
 rintro _ w4 ⟨G4, _, g4, rfl, u4_0, rfl, hr4_0⟩
 have H := H.grow g4
 have hr1 := hr1.up g4.le
 have hr1' := hr1'.up g4.le
 obtain ⟨a4_0, k4_0, rfl⟩ := hr4_0.shape; have hx_hr4_0 : _ ≤ 1099511627776 := hr4_0.lim
 refine ⟨_, Z, ?_⟩
 refine mV Z (o_extract Z Z Z (o_extract Z Z Z (aG Z (aG Z (q3 (W_seq (q2 (o_loadagg_B 1 H isAgg47 sizeOf47 Z Z Z Z Z (o_call call198 Z Z (VolumeValid_c _ _ H.sub _ v ⟨_, _, _, _, _, _, Z, hr1, hr1'⟩ ) ?_)))))))))
 rintro _ w5 ⟨rfl, ew5⟩; have H := H.step ew5; refine ⟨_, rfl, ?_⟩
 refine o_not Z Z (mV Z ?_)
 refine R_case (t := 19) Z ?_ ?_
 ·intro hc6
  try simp only [nrm] at hc6
  refine rP Z (rP Z (o_pick_t Z Z Z (q3 (W_true Z (q2 (o_build bf47 Z Z Z (o_store_B 0 H sizeOf47 Z Z Z Z Z Z Z Z ?_))))))); intro w7 H
  refine aG Z (q3 (W_ret (N_K_ret (ret_gen (rs := [.cell 4 47, .tmp 5]) (vs := [_, _]) results170 ⟨⟨_, Z, load_blk 0 H isAgg47 sizeOf47 Z Z Z⟩, Z, trivial⟩ ?_))))
  have hN : Sp.VolumeDir v path = none := by simp [Sp.VolumeDir, hc6]
  have H := H.addNil 105 3
  exact H.retO (k := 0) rfl (by rw [hN]; exact ⟨_, _, rfl, AccOf.mk rfl Chk.nil, RdS.nil _ _ _⟩) (acc_nd _ _ _ _ _)
 intro hc6'
 try simp only [nrm] at hc6'
 refine gR Z (mV Z (gR Z (o_not Z Z (o_pick_f Z Z Z (q3 ?_)))))
 refine W_cond Z ?_ ?_
 ·intro hc8
  try simp only [nrm] at hc8
  refine q2 (o_build bf47 Z Z Z (o_store_B 0 H sizeOf47 Z Z Z Z Z Z Z Z ?_)); intro w9 H
  refine aG Z (q3 (W_ret (N_K_ret (ret_gen (rs := [.cell 4 47, .tmp 5]) (vs := [_, _]) results170 ⟨⟨_, Z, load_blk 0 H isAgg47 sizeOf47 Z Z Z⟩, Z, trivial⟩ ?_))))
  have hN : Sp.VolumeDir v path = none := by (have hno : Sp.TreePut v.tree ⟨path, true, []⟩ = none := by simpa using hc8); simp [Sp.VolumeDir, hno]
  have H := H.addNil 105 3
  exact H.retO (k := 0) rfl (by rw [hN]; exact ⟨_, _, rfl, AccOf.mk rfl Chk.nil, RdS.nil _ _ _⟩) (acc_nd _ _ _ _ _)
 intro hc8'
 try simp only [nrm] at hc8'
 refine W_skip (N_K (q2 (o_fieldAddr 0 runUnderlying47 Z sizeOf23 Z Z Z (o_load_B 1 H isAgg23 Z Z Z Z (o_call call102 Z Z (l3Copy_c _ _ H.sub _ _ hr1 ) ?_)))))
 rintro _ w10 ⟨G10, v10, _, g10, rfl, ⟨cs10, rfl, hchk10⟩, hp10, hq10, hs10⟩
 have H := H.growO g10 hp10 hq10 hs10; obtain ⟨av10, cv10, rfl⟩ := H.accShape (k := 0) rfl
 have hr4_0 := hr4_0.up g10.le
 refine ⟨_, Z, ?_⟩
 refine mV Z (o_build bf47 Z Z Z (o_store_B 1 H sizeOf47 Z Z Z Z Z Z Z Z ?_)); intro w11 H
 refine aG Z (q3 (W_ret (ret_gen (rs := [.cell 4 47, .tmp 5]) (vs := [_, _]) results170 ⟨⟨_, Z, load_blk 1 H isAgg47 sizeOf47 Z Z Z⟩, Z, trivial⟩ ?_)))
 have hY : Sp.VolumeDir v path = some ⟨v.store, (Sp.TreePut v.tree ⟨path, true, []⟩).getD []⟩ := by (obtain ⟨p, hp⟩ := Option.isSome_iff_exists.1 hc8'); simp [Sp.VolumeDir, hp, hc6']
 exact H.retO (k := 0) rfl (by rw [hY]; exact ⟨_, _, rfl, AccOf.mk aN hchk10, hr4_0⟩) (acc_nd _ _ _ _ _)
theorem l11Write_c (w0 : World) (G0 : PH) (hG : PSub G0 w0) (cv : List Value) (v : BVol) (hv : volE G0 v cv) (path : Bs) (hpath : path.length ≤ 16777216) (vbytes : Value) (bytes : List (Int)) (hbytes : RdI G0 vbytes bytes) (hS : bytes.length ≤ 1000000) :
  Calls Tryz.prog 64 #[.agg cv.toArray, str path, vbytes] w0 (RetO w0 G0 (fun G val r => ∃ u u1, val = .tuple #[.agg #[u, u1], .bool (Sp.l11Write v path bytes).isSome] ∧ AccOf heldE 3 105 (((Sp.l11Write v path bytes).map (·.store)).getD []) G u r ∧ RdItems G u1 (((Sp.l11Write v path bytes).map (·.tree)).getD []))) := by
 obtain ⟨a1, m1, c1, a1', m1', c1', rfl, hr1, hr1'⟩ := hv; have hn_hr1 := hr1.len; have hx_hr1 : _ ≤ 1099511627776 := hr1.lim; have hn_hr1q := hr1'.len; have hx_hr1q : _ ≤ 1099511627776 := hr1'.lim
 obtain ⟨abytes, kbytes, rfl⟩ := hbytes.shape
 have hlimbytes : bytes.length ≤ 1099511627776 := hbytes.lim
 have H := Hp.init hG
 refine calls_of_W (l := [_, str path, .slice abytes bytes.length kbytes]) func64 Z ntmps64 Z (q2 (o_box H Z Z Z ?_)); intro b2 w2 hb2 H
 refine o_alloc H zeroValue47 Z Z ?_; intro b3 w3 hb3 H
 refine aG Z (q1 (o_fieldAddr 0 runUnderlying47 Z sizeOf23 Z Z Z (o_load_B 1 H isAgg23 Z Z Z Z (mV Z (o_call call115 Z Z (FileStore_c _ _ H.sub _ _ hr1 _ _ hbytes oM) ?_)))))
 rintro _ w4 ⟨G4, _, _, g4, rfl, ⟨u4_0, u4_1, rfl, ⟨cs4, rfl, hchk4⟩, hr4_1⟩, hp4, hq4, hs4⟩
 have H := H.growO g4 hp4 hq4 hs4; obtain ⟨av4, cv4, rfl⟩ := H.accShape (k := 0) rfl
 have hr1' := hr1'.up g4.le
 obtain ⟨a4_1, k4_1, rfl⟩ := hr4_1.shape; have hx_hr4_1 : _ ≤ 1099511627776 := hr4_1.lim
 refine ⟨_, Z, ?_⟩
 have hfl := Sp.fileStore_len v.store bytes
 refine mV Z (o_extract Z Z Z (o_extract Z Z Z (o_extract Z Z Z (aG Z (aG Z (aG Z (q1 (o_fieldAddr 1 runUnderlying47 Z sizeOf24 Z Z Z (o_load_B 2 H isAgg24 Z Z Z Z (mV Z (mV Z (o_build bf37 Z Z Z (o_call call116 Z Z (TreePut_c _ _ H.sub _ _ hr1' _ ⟨path, false, ((Sp.FileStore v.store bytes).map (·.2)).getD []⟩ ⟨_, _, _, Z, hpath, hr4_1⟩ ) ?_)))))))))))))
 rintro _ w5 ⟨G5, _, g5, rfl, u5_0, rfl, hr5_0⟩
 have H := H.grow g5
 have hr1' := hr1'.up g5.le
 have hchk4 := hchk4.up g5.le
 obtain ⟨a5_0, k5_0, rfl⟩ := hr5_0.shape; have hx_hr5_0 : _ ≤ 1099511627776 := hr5_0.lim
 refine ⟨_, Z, ?_⟩
 refine mV Z (o_extract Z Z Z (o_extract Z Z Z (aG Z (aG Z (q3 (W_seq (q2 (mV Z (o_not Z Z (mV Z ?_))))))))))
 refine R_case (t := 35) Z ?_ ?_
 ·intro hc6
  try simp only [nrm] at hc6
  refine rP Z (rP Z (o_pick_t Z Z Z (q3 (W_true Z (q2 (o_build bf47 Z Z Z (o_store_B 1 H sizeOf47 Z Z Z Z Z Z Z Z ?_))))))); intro w7 H
  refine aG Z (q3 (W_ret (N_K_ret (ret_gen (rs := [.cell 6 47, .tmp 7]) (vs := [_, _]) results64 ⟨⟨_, Z, load_blk 1 H isAgg47 sizeOf47 Z Z Z⟩, Z, trivial⟩ ?_))))
  have hN : Sp.l11Write v path bytes = none := by exact Sp.l11Write_1 hc6
  have H := H.addNil 105 3
  exact H.retO (k := 0) rfl (by rw [hN]; exact ⟨_, _, rfl, AccOf.mk rfl Chk.nil, RdS.nil _ _ _⟩) (acc_nd _ _ _ _ _)
 intro hc6'
 try simp only [nrm] at hc6'
 refine gR Z (mV Z (gR Z (o_not Z Z (o_pick_f Z Z Z (q3 ?_)))))
 refine W_cond Z ?_ ?_
 ·intro hc8
  try simp only [nrm] at hc8
  refine q2 (o_build bf47 Z Z Z (o_store_B 1 H sizeOf47 Z Z Z Z Z Z Z Z ?_)); intro w9 H
  refine aG Z (q3 (W_ret (N_K_ret (ret_gen (rs := [.cell 6 47, .tmp 7]) (vs := [_, _]) results64 ⟨⟨_, Z, load_blk 1 H isAgg47 sizeOf47 Z Z Z⟩, Z, trivial⟩ ?_))))
  have hN : Sp.l11Write v path bytes = none := by exact Sp.l11Write_2 hc8
  have H := H.addNil 105 3
  exact H.retO (k := 0) rfl (by rw [hN]; exact ⟨_, _, rfl, AccOf.mk rfl Chk.nil, RdS.nil _ _ _⟩) (acc_nd _ _ _ _ _)
 intro hc8'
 try simp only [nrm] at hc8'
 refine W_skip (N_K (q2 (o_fieldAddr 1 runUnderlying47 Z sizeOf24 Z Z Z (o_load_B 2 H isAgg24 Z Z Z Z (mV Z (o_call call56 Z Z (l11Ids_c _ _ H.sub _ _ hr1' _ hpath ) ?_))))))
 rintro _ w10 ⟨G10, u10_0, g10, rfl, hr10_0⟩
 have H := H.grow g10
 have hchk4 := hchk4.up g10.le
 have hr5_0 := hr5_0.up g10.le
 obtain ⟨a10_0, k10_0, rfl⟩ := hr10_0.shape; have hx_hr10_0 : _ ≤ 1099511627776 := hr10_0.lim
 refine ⟨_, Z, ?_⟩
 refine aG Z (q3 (W_seq (q2 (mV Z (o_len_slice underlying24 Z Z (o_gtr Z Z Z (q3 ?_)))))))
 refine W_cond Z ?_ ?_
 ·intro hc11
  try simp only [nrm] at hc11
  refine q2 (mV Z (mV Z (o_index_P 0 hr10_0 underlying24 sizeOf37 Z Z Z Z aN ?_))); intro b12 o12 z12 q12 hz12 hE12 hrow12
  obtain ⟨a12, m12, c12, rfl, hi12, hr12⟩ := hE12; have hy_hi12 : _ ≤ 16777216 := hi12; have hn_hr12 := hr12.len; have hx_hr12 : _ ≤ 1099511627776 := hr12.lim
  refine o_fieldAddr 2 runUnderlying37 Z sizeOf33 Z Z Z (o_load_P H isAgg33 Z Z (hrow12 2 _ Z) ?_)
  obtain ⟨G14, H, hsg14, hsr14⟩ := H.shut' (k := 0) rfl hchk4 aN aN
  have hr5_0 := hr5_0.up hsg14
  have hr12 := hr12.up hsg14
  refine o_call call117 Z Z (FileFree_c _ _ H.sub _ _ hsr14 _ _ hr12 ) ?_
  rintro _ w13 ⟨G13, _, _, g13, rfl, ⟨u13_0, rfl, ⟨cs13, rfl, hchk13⟩⟩, hp13, hq13, hs13⟩
  have H := H.growO g13 hp13 hq13 hs13; obtain ⟨av13, cv13, rfl⟩ := H.accShape (k := 0) rfl
  have hr5_0 := hr5_0.up g13.le
  refine ⟨_, Z, ?_⟩
  refine mV Z (o_extract Z Z Z (o_extract Z Z Z (aG Z (aG Z (q3 (W_region (mV Z (aG Z (q1 (mV Z (mV Z (o_build bf47 Z Z Z (o_store_B 1 H sizeOf47 Z Z Z Z Z Z Z Z ?_))))))))))))); intro w15 H
  refine aG Z (q3 (W_ret (ret_gen (rs := [.cell 6 47, .tmp 7]) (vs := [_, _]) results64 ⟨⟨_, Z, load_blk 1 H isAgg47 sizeOf47 Z Z Z⟩, Z, trivial⟩ ?_)))
  have hY : Sp.l11Write v path bytes = some ⟨(Sp.FileFree (((Sp.FileStore v.store bytes).map (·.1)).getD []) z12.ids).getD [], (Sp.TreePut v.tree ⟨path, false, ((Sp.FileStore v.store bytes).map (·.2)).getD []⟩).getD []⟩ := by rw [Sp.l11Write_3 hc6' hc8', Sp.freeOld_at hz12]
  exact H.retO (k := 0) rfl (by rw [hY]; exact ⟨_, _, rfl, AccOf.mk aN hchk13, hr5_0⟩) (acc_nd _ _ _ _ _)
 intro hc11'
 try simp only [nrm] at hc11'
 refine W_skip (N_K (q2 (mV Z (mV Z (o_build bf47 Z Z Z (o_store_B 1 H sizeOf47 Z Z Z Z Z Z Z Z ?_)))))); intro w16 H
 refine aG Z (q3 (W_ret (ret_gen (rs := [.cell 6 47, .tmp 7]) (vs := [_, _]) results64 ⟨⟨_, Z, load_blk 1 H isAgg47 sizeOf47 Z Z Z⟩, Z, trivial⟩ ?_)))
 have hY : Sp.l11Write v path bytes = some ⟨((Sp.FileStore v.store bytes).map (·.1)).getD [], (Sp.TreePut v.tree ⟨path, false, ((Sp.FileStore v.store bytes).map (·.2)).getD []⟩).getD []⟩ := by rw [Sp.l11Write_3 hc6' hc8', Sp.freeOld_nil oM]
 exact H.retO (k := 0) rfl (by rw [hY]; exact ⟨_, _, rfl, AccOf.mk aN hchk4, hr5_0⟩) (acc_nd _ _ _ _ _)
theorem VolumeWrite_c (w0 : World) (G0 : PH) (hG : PSub G0 w0) (cv : List Value) (v : BVol) (hv : volE G0 v cv) (path : Bs) (hpath : path.length ≤ 16777216) (vbytes : Value) (bytes : List (Int)) (hbytes : RdI G0 vbytes bytes)  :
  Calls Tryz.prog 172 #[.agg cv.toArray, str path, vbytes] w0 (RetO w0 G0 (fun G val r => ∃ u u1, val = .tuple #[.agg #[u, u1], .bool (Sp.VolumeWrite v path bytes).isSome] ∧ AccOf heldE 3 105 (((Sp.VolumeWrite v path bytes).map (·.store)).getD []) G u r ∧ RdItems G u1 (((Sp.VolumeWrite v path bytes).map (·.tree)).getD []))) := by
 obtain ⟨a1, m1, c1, a1', m1', c1', rfl, hr1, hr1'⟩ := hv; have hn_hr1 := hr1.len; have hx_hr1 : _ ≤ 1099511627776 := hr1.lim; have hn_hr1q := hr1'.len; have hx_hr1q : _ ≤ 1099511627776 := hr1'.lim
 obtain ⟨abytes, kbytes, rfl⟩ := hbytes.shape
 have hlimbytes : bytes.length ≤ 1099511627776 := hbytes.lim
 have H := Hp.init hG
 refine calls_of_W (l := [_, str path, .slice abytes bytes.length kbytes]) func172 Z ntmps172 Z (q2 (o_box H Z Z Z ?_)); intro b2 w2 hb2 H
 refine o_alloc H zeroValue47 Z Z ?_; intro b3 w3 hb3 H
 refine aG Z (q3 (W_seq (q2 (o_loadagg_B 1 H isAgg47 sizeOf47 Z Z Z Z Z (o_call call198 Z Z (VolumeValid_c _ _ H.sub _ v ⟨_, _, _, _, _, _, Z, hr1, hr1'⟩ ) ?_)))))
 rintro _ w4 ⟨rfl, ew4⟩; have H := H.step ew4; refine ⟨_, rfl, ?_⟩
 refine o_not Z Z (mV Z ?_)
 refine R_case (t := 11) Z ?_ ?_
 ·intro hc5
  try simp only [nrm] at hc5
  refine rP Z (rP Z (rP Z (o_pick_t Z Z Z (q3 (W_true Z (q2 (o_build bf47 Z Z Z (o_store_B 0 H sizeOf47 Z Z Z Z Z Z Z Z ?_)))))))); intro w6 H
  refine aG Z (q3 (W_ret (N_K_ret (ret_gen (rs := [.cell 6 47, .tmp 7]) (vs := [_, _]) results172 ⟨⟨_, Z, load_blk 0 H isAgg47 sizeOf47 Z Z Z⟩, Z, trivial⟩ ?_))))
  have hN : Sp.VolumeWrite v path bytes = none := by simp [Sp.VolumeWrite, hc5]
  have H := H.addNil 105 3
  exact H.retO (k := 0) rfl (by rw [hN]; exact ⟨_, _, rfl, AccOf.mk rfl Chk.nil, RdS.nil _ _ _⟩) (acc_nd _ _ _ _ _)
 intro hc5'
 try simp only [nrm] at hc5'
 refine gR Z (mV Z (gR Z (o_call call63 Z Z (FileValid_c _ _ H.sub _ _ hbytes ) ?_)))
 rintro _ w7 ⟨rfl, ew7⟩; have H := H.step ew7; refine ⟨_, rfl, ?_⟩
 refine gR Z (o_not Z Z (o_pick_f Z Z Z (q3 ?_)))
 refine W_cond Z ?_ ?_
 ·intro hc8
  try simp only [nrm] at hc8
  refine q2 (o_build bf47 Z Z Z (o_store_B 0 H sizeOf47 Z Z Z Z Z Z Z Z ?_)); intro w9 H
  refine aG Z (q3 (W_ret (N_K_ret (ret_gen (rs := [.cell 6 47, .tmp 7]) (vs := [_, _]) results172 ⟨⟨_, Z, load_blk 0 H isAgg47 sizeOf47 Z Z Z⟩, Z, trivial⟩ ?_))))
  have hN : Sp.VolumeWrite v path bytes = none := by simp [Sp.VolumeWrite, hc8]
  have H := H.addNil 105 3
  exact H.retO (k := 0) rfl (by rw [hN]; exact ⟨_, _, rfl, AccOf.mk rfl Chk.nil, RdS.nil _ _ _⟩) (acc_nd _ _ _ _ _)
 intro hc8'
 try simp only [nrm] at hc8'
 have hfl := Sp.file_len hc8'
 refine W_skip (N_K (q2 (o_loadagg_B 1 H isAgg47 sizeOf47 Z Z Z Z Z (mV Z (mV Z (o_call call64 Z Z (l11Write_c _ _ H.sub _ v ⟨_, _, _, _, _, _, Z, hr1, hr1'⟩ _ hpath _ _ hbytes oM) ?_))))))
 rintro _ w10 ⟨G10, _, _, g10, rfl, ⟨u10_0, u10_1, rfl, ⟨cs10, rfl, hchk10⟩, hr10_1⟩, hp10, hq10, hs10⟩
 have H := H.growO g10 hp10 hq10 hs10; obtain ⟨av10, cv10, rfl⟩ := H.accShape (k := 0) rfl
 obtain ⟨a10_1, k10_1, rfl⟩ := hr10_1.shape; have hx_hr10_1 : _ ≤ 1099511627776 := hr10_1.lim
 refine ⟨_, Z, ?_⟩
 refine o_extract Z Z Z (o_extract Z Z Z (o_store_B 1 H sizeOf47 Z Z Z Z Z Z Z Z ?_)); intro w11 H
 refine aG Z (q3 (W_ret (ret_gen (rs := [.cell 6 47, .tmp 7]) (vs := [_, _]) results172 ⟨⟨_, Z, load_blk 1 H isAgg47 sizeOf47 Z Z Z⟩, Z, trivial⟩ ?_)))
 have hY : Sp.VolumeWrite v path bytes = Sp.l11Write v path bytes := by simp [Sp.VolumeWrite, hc5', hc8']
 exact H.retO (k := 0) rfl (by rw [hY]; exact ⟨_, _, rfl, AccOf.mk aN hchk10, hr10_1⟩) (acc_nd _ _ _ _ _)
theorem VolumeDrop_c (w0 : World) (G0 : PH) (hG : PSub G0 w0) (cv : List Value) (v : BVol) (hv : volE G0 v cv) (path : Bs) (hpath : path.length ≤ 16777216)  :
  Calls Tryz.prog 171 #[.agg cv.toArray, str path] w0 (RetO w0 G0 (fun G val r => ∃ u u1, val = .tuple #[.agg #[u, u1], .bool (Sp.VolumeDrop v path).isSome] ∧ AccOf heldE 3 105 (((Sp.VolumeDrop v path).map (·.store)).getD []) G u r ∧ RdItems G u1 (((Sp.VolumeDrop v path).map (·.tree)).getD []))) := by
 obtain ⟨a1, m1, c1, a1', m1', c1', rfl, hr1, hr1'⟩ := hv; have hn_hr1 := hr1.len; have hx_hr1 : _ ≤ 1099511627776 := hr1.lim; have hn_hr1q := hr1'.len; have hx_hr1q : _ ≤ 1099511627776 := hr1'.lim
 have H := Hp.init hG
 refine calls_of_W (l := [_, str path]) func171 Z ntmps171 Z (q2 (o_box H Z Z Z ?_)); intro b2 w2 hb2 H
 refine o_alloc H zeroValue47 Z Z ?_; intro b3 w3 hb3 H
 refine aG Z (q1 (o_fieldAddr 1 runUnderlying47 Z sizeOf24 Z Z Z (o_load_B 1 H isAgg24 Z Z Z Z (mV Z (o_call call199 Z Z (TreeDrop_c _ _ H.sub _ _ hr1' _ hpath ) ?_)))))
 rintro _ w4 ⟨G4, _, g4, rfl, u4_0, rfl, hr4_0⟩
 have H := H.grow g4
 have hr1 := hr1.up g4.le
 have hr1' := hr1'.up g4.le
 obtain ⟨a4_0, k4_0, rfl⟩ := hr4_0.shape; have hx_hr4_0 : _ ≤ 1099511627776 := hr4_0.lim
 refine ⟨_, Z, ?_⟩
 refine mV Z (o_extract Z Z Z (o_extract Z Z Z (aG Z (aG Z (q3 (W_seq (q2 (o_loadagg_B 1 H isAgg47 sizeOf47 Z Z Z Z Z (o_call call198 Z Z (VolumeValid_c _ _ H.sub _ v ⟨_, _, _, _, _, _, Z, hr1, hr1'⟩ ) ?_)))))))))
 rintro _ w5 ⟨rfl, ew5⟩; have H := H.step ew5; refine ⟨_, rfl, ?_⟩
 refine o_not Z Z (mV Z ?_)
 refine R_case (t := 20) Z ?_ ?_
 ·intro hc6
  try simp only [nrm] at hc6
  refine rP Z (rP Z (o_pick_t Z Z Z (q3 (W_true Z (q2 (o_build bf47 Z Z Z (o_store_B 0 H sizeOf47 Z Z Z Z Z Z Z Z ?_))))))); intro w7 H
  refine aG Z (q3 (W_ret (N_K_ret (ret_gen (rs := [.cell 4 47, .tmp 5]) (vs := [_, _]) results171 ⟨⟨_, Z, load_blk 0 H isAgg47 sizeOf47 Z Z Z⟩, Z, trivial⟩ ?_))))
  have hN : Sp.VolumeDrop v path = none := by simp [Sp.VolumeDrop, hc6]
  have H := H.addNil 105 3
  exact H.retO (k := 0) rfl (by rw [hN]; exact ⟨_, _, rfl, AccOf.mk rfl Chk.nil, RdS.nil _ _ _⟩) (acc_nd _ _ _ _ _)
 intro hc6'
 try simp only [nrm] at hc6'
 refine gR Z (mV Z (gR Z (o_not Z Z (o_pick_f Z Z Z (q3 ?_)))))
 refine W_cond Z ?_ ?_
 ·intro hc8
  try simp only [nrm] at hc8
  refine q2 (o_build bf47 Z Z Z (o_store_B 0 H sizeOf47 Z Z Z Z Z Z Z Z ?_)); intro w9 H
  refine aG Z (q3 (W_ret (N_K_ret (ret_gen (rs := [.cell 4 47, .tmp 5]) (vs := [_, _]) results171 ⟨⟨_, Z, load_blk 0 H isAgg47 sizeOf47 Z Z Z⟩, Z, trivial⟩ ?_))))
  have hN : Sp.VolumeDrop v path = none := by (have hno : Sp.TreeDrop v.tree path = none := by simpa using hc8); simp [Sp.VolumeDrop, hno]
  have H := H.addNil 105 3
  exact H.retO (k := 0) rfl (by rw [hN]; exact ⟨_, _, rfl, AccOf.mk rfl Chk.nil, RdS.nil _ _ _⟩) (acc_nd _ _ _ _ _)
 intro hc8'
 try simp only [nrm] at hc8'
 obtain ⟨i, x, ia, ib, ic, ie⟩ := Sp.treeDrop_at hc8'
 refine W_skip (N_K (W_seq (W_drawK [0, 1] 17 H kR Z ?_))); intro w10 H; have hd10 := PLe.refl G4
 refine RD_t 0 Z kR Z (fun _ hK => v_fieldAddr 0 runUnderlying47 Z sizeOf23 Z Z) (RD_t 1 Z kR Z (fun _ hK => v_load_B 1 hK isAgg23 Z Z Z) (RD_t 2 Z kR Z (fun _ hK => v_fieldAddr 1 runUnderlying47 Z sizeOf24 Z Z) (RD_t 3 Z kR Z (fun _ hK => v_load_B 1 hK isAgg24 Z Z Z) (RD_t 4 Z kR Z (fun _ hK => v_fieldAddr 1 runUnderlying47 Z sizeOf24 Z Z) (RD_t 5 Z kR Z (fun _ hK => v_load_B 1 hK isAgg24 Z Z Z) (vM 6 Z Z ?_))))))
 refine RD_run [7] kR Z (RDs.cons Z ?_ RDs.nil)
 refine o_call call112 Z Z (l5At_c _ _ H.sub _ _ hr1' _ hpath ) ?_
 rintro _ w11 ⟨rfl, ew11⟩; have H := H.step ew11; refine ⟨_, rfl, ?_⟩
 refine R_nil (N_DK (Kn.of' H hd10 (SubL.cons 0 Z (SubL.cons 1 Z SubL.nil))) ?_)
 have hl12 := hr1'.len
 obtain ⟨b12, o12, z12, q12, ha12, hz12, hq12, hE12, hrow12, _⟩ := hr1'.at (i := i) oM
 clear hq12
 obtain ⟨a12, m12, c12, rfl, hi12, hr12⟩ := hE12; have hy_hi12 : _ ≤ 16777216 := hi12; have hn_hr12 := hr12.len; have hx_hr12 : _ ≤ 1099511627776 := hr12.lim
 refine RD_t 8 Z kR Z (fun _ hK => v_index_P (i := i) ha12 underlying24 sizeOf37 Z Z ib oM) (RD_t 9 Z kR Z (fun _ hK => v_fieldAddr 2 runUnderlying37 Z sizeOf33 Z Z) (RD_t 10 Z kR Z (fun _ hK => v_load_P hK isAgg33 Z (hrow12 2 _ Z)) ?_))
 refine RD_run [11] kR Z (RDs.cons Z ?_ RDs.nil)
 refine o_call call117 Z Z (FileFree_c _ _ H.sub _ _ hr1 _ _ hr12 ) ?_
 rintro _ w13 ⟨G13, _, _, g13, rfl, ⟨u13_0, rfl, ⟨cs13, rfl, hchk13⟩⟩, hp13, hq13, hs13⟩
 have H := H.growO g13 hp13 hq13 hs13; obtain ⟨av13, cv13, rfl⟩ := H.accShape (k := 0) rfl
 have hr4_0 := hr4_0.up g13.le
 have hd10 := hd10.trans g13.le
 refine ⟨_, Z, ?_⟩
 refine R_nil (N_DK (Kn.of' H hd10 (SubL.cons 1 Z (SubL.cons 2 Z SubL.nil))) (vM 12 Z Z (RD_t 13 Z kR Z (fun _ hK => v_extract Z Z) (RD_t 14 Z kR Z (fun _ hK => v_extract Z Z) (RD_t 15 Z kR Z (fun _ hK => v_assign Z) (RD_t 16 Z kR Z (fun _ hK => v_assign Z) (RD_done kR (N_K (q2 (mV Z (mV Z (o_build bf47 Z Z Z (o_store_B 1 H sizeOf47 Z Z Z Z Z Z Z Z ?_))))))))))))); intro w14 H
 refine aG Z (q3 (W_ret (ret_gen (rs := [.cell 4 47, .tmp 5]) (vs := [_, _]) results171 ⟨⟨_, Z, load_blk 1 H isAgg47 sizeOf47 Z Z Z⟩, Z, trivial⟩ ?_)))
 have hY : Sp.VolumeDrop v path = some ⟨(Sp.FileFree v.store z12.ids).getD [], (Sp.TreeDrop v.tree path).getD []⟩ := by (obtain ⟨p, hp⟩ := Option.isSome_iff_exists.1 hc8'); simp [Sp.VolumeDrop, hc6', hp, ia, hz12]
 exact H.retO (k := 0) rfl (by rw [hY]; exact ⟨_, _, rfl, AccOf.mk aN hchk13, hr4_0⟩) (acc_nd _ _ _ _ _)
end Go.Proofs.Tst

namespace Go.Proofs.Tst
open Go Fw Tryz
theorem l91Step_c (w0 : World) (G0 : PH) (hG : PSub G0 w0) (rb : Nat) (ab : Option Addr) (mb kb : Nat) (bs : List UInt8) (p : Nat) (hbs : RdU G0 (.slice ab mb kb) bs) (hrb : w0.heap[rb]? = some (cl [.slice ab mb kb, .int .i64 (p : Int)] 118)) (hrn : G0 rb = none) (hp : p ≤ 100000000) (cu : List Value) (u : BVol) (hu : volE G0 u cu)  :
  Calls Tryz.prog 137 #[.pointer (some ⟨rb, 0, none⟩), .agg cu.toArray] w0 (RetM w0 G0 [rb] (fun G val Bs => ∃ (p' : Nat) (v1 v2 : Value) (st : List BHeld) (tr : List BItem) (b : Bool) (c : List Value), p' ≤ p + 200 ∧ val = .tuple #[.agg #[v1, v2], .bool b] ∧ Chk heldE 3 G c st ∧ st.length ≤ 16 ∧ RdItems G v2 tr ∧ Bs = [acc 105 3 v1 st.length c, blk rb (cl [.slice ab mb kb, .int .i64 (p' : Int)] 118)])) := by
 have hlimbs : bs.length ≤ 1099511627776 := hbs.lim; obtain rfl : mb = bs.length := hbs.len
 obtain ⟨a1, m1, c1, a1', m1', c1', rfl, hr1, hr1'⟩ := hu; have hn_hr1 := hr1.len; have hx_hr1 : _ ≤ 1099511627776 := hr1.lim; have hn_hr1q := hr1'.len; have hx_hr1q : _ ≤ 1099511627776 := hr1'.lim
 have H := Hp.initM hG hrb hrn
 refine calls_of_W (l := [.pointer (some ⟨rb, 0, none⟩), _]) func137 Z ntmps137 Z (q2 (o_box H Z Z Z ?_)); intro b2 w2 hb2 H
 refine o_alloc H zeroValue47 Z Z ?_; intro b3 w3 hb3 H
 refine aG Z (q3 (W_seq (q2 (mV Z (o_call call38 Z Z (pick_c _ _ H.sub _ _ _ _ _ _ hbs (H.blkIs (k := 2) Z).1 (H.blkIs (k := 2) Z).2 oM _ oO ) ?_)))))
 rintro _ w4 ⟨G4, _, _, rfl, H4', ⟨p4, x4, hp4, rfl, hxb4, rfl⟩⟩
 have hbs := hbs.up H4'.le
 have hr1 := hr1.up H4'.le
 have hr1' := hr1'.up H4'.le
 have H := H.borrow (k := 2) rfl H4'
 refine ⟨_, Z, ?_⟩
 refine q3 (W_block (W_seq (q2 (o_eql Z Z Z (aG Z (q3 ?_))))))
 refine W_cond Z ?_ ?_
 ·intro hc5
  try simp only [nrm] at hc5
  refine W_skip (N_K ?_)
  refine W_cond Z ?_ ?_
  ·intro hc6
   try simp only [nrm] at hc6
   refine W_seq (W_drawK [2] 9 H kR Z ?_); intro w7 H; have hd7 := PLe.refl G4
   refine RD_t 0 Z kR Z (fun _ hK => v_loadagg_B 0 hK isAgg47 sizeOf47 Z Z Z Z) (vM 1 Z Z ?_)
   refine RD_run [2] kR Z (RDs.cons Z ?_ RDs.nil)
   refine o_buildSlice H underlying69 sizeOf9 (fun w => ⟨_, zeroValue9 w, Z⟩) Z Z Z Z Z Z Z ?_; intro b8 w8 hb8 H
   refine R_nil (N_DK (Kn.of' H hd7 (SubL.cons 3 Z SubL.nil)) ?_)
   refine RD_run [3] kR Z (RDs.cons Z ?_ RDs.nil)
   have H := H.blkAcc 1 (k := 0) (n := 3) rfl rfl (by decide)
   have hchk10 := ((((Chk.nil (E := strE) (sz := 1) (G := G4)).snoc (show strE _ ([97] : Fw.Bs) [str [97]] from ⟨rfl, by decide⟩) rfl).snoc (show strE _ ([98] : Fw.Bs) [str [98]] from ⟨rfl, by decide⟩) rfl).snoc (show strE _ ([97, 47, 120] : Fw.Bs) [str [97, 47, 120]] from ⟨rfl, by decide⟩) rfl)
   obtain ⟨G11, H, hsg11, hsr11⟩ := H.shutM (k := 0) (j := 0) rfl rfl hchk10 aN aN
   have hbs := hbs.up hsg11
   have hr1 := hr1.up hsg11
   have hr1' := hr1'.up hsg11
   have hd7 := hd7.trans hsg11
   refine o_call call39 Z Z (of_c _ _ H.sub _ _ _ _ _ _ hbs (H.blkIs (k := 0) Z).1 (H.blkIs (k := 0) Z).2 oM _ _ hsr11 (by first | decide | (simp; done) | (simp; omega))) ?_
   rintro _ w9 ⟨G9, _, _, rfl, H9', ⟨p9, x9, hp9, rfl, hxs9, rfl⟩⟩
   have hr1 := hr1.up H9'.le
   have hr1' := hr1'.up H9'.le
   have hd7 := hd7.trans H9'.le
   have H := H.borrow (k := 0) rfl H9'
   refine ⟨_, Z, ?_⟩
   refine R_nil (N_DK (Kn.of' H hd7 (SubL.cons 2 Z SubL.nil)) ?_)
   refine RD_run [4] kR Z (RDs.cons Z ?_ RDs.nil)
   refine o_call call170 Z Z (VolumeDir_c _ _ H.sub _ u ⟨_, _, _, _, _, _, Z, hr1, hr1'⟩ _ hxs9 ) ?_
   rintro _ w12 ⟨G12, _, _, g12, rfl, ⟨u12_0, u12_1, rfl, ⟨cs12, rfl, hchk12⟩, hr12_1⟩, hp12, hq12, hs12⟩
   have H := H.growO g12 hp12 hq12 hs12; obtain ⟨av12, cv12, rfl⟩ := H.accShape (k := 0) rfl
   have hd7 := hd7.trans g12.le
   obtain ⟨a12_1, k12_1, rfl⟩ := hr12_1.shape; have hx_hr12_1 : _ ≤ 1099511627776 := hr12_1.lim
   refine ⟨_, Z, ?_⟩
   refine R_nil (N_DK (Kn.of' H hd7 (SubL.cons 3 Z SubL.nil)) (RD_t 5 Z kR Z (fun _ hK => v_extract Z Z) (RD_t 6 Z kR Z (fun _ hK => v_extract Z Z) ?_)))
   refine RD_run [7] kR Z (RDs.cons Z ?_ RDs.nil)
   refine o_store_B 2 H sizeOf47 Z Z Z Z Z Z Z Z ?_; intro w13 H
   refine R_nil (N_DK (Kn.of' H hd7 (SubL.cons 3 Z SubL.nil)) (RD_t 8 Z kR Z (fun _ hK => v_assign Z) (RD_done kR (N_K (W_ret (N_B_ret (N_K_ret (ret_gen (rs := [.cell 4 47, .tmp 5]) (vs := [_, _]) results137 ⟨⟨_, Z, load_blk 2 H isAgg47 sizeOf47 Z Z Z⟩, Z, trivial⟩ ?_))))))))
   have H := H.del (k := 2) rfl
   have H := H.del (k := 2) rfl
   have H := H.toFront (k := 1) rfl
   have H := H.toFront (k := 1) rfl
   exact H.retM ⟨_, _, _, _, _, _, _, oM, Z, hchk12, Sp.vol_len (fun u2 h2 => Sp.dir_valid h2), hr12_1, acc_1 Z⟩
  intro hc6'
  try simp only [nrm] at hc6'
  refine q2 (o_eql Z Z Z (aG Z (q3 ?_)))
  refine W_cond Z ?_ ?_
  ·intro hc14
   try simp only [nrm] at hc14
   refine W_seq (W_drawK [2] 8 H kR Z ?_); intro w15 H; have hd15 := PLe.refl G4
   refine RD_t 0 Z kR Z (fun _ hK => v_loadagg_B 0 hK isAgg47 sizeOf47 Z Z Z Z) (vM 1 Z Z ?_)
   refine RD_run [2] kR Z (RDs.cons Z ?_ RDs.nil)
   refine o_call call55 Z Z (l91Path_c _ _ H.sub _ _ _ _ _ _ hbs (H.blkIs (k := 0) Z).1 (H.blkIs (k := 0) Z).2 oM ) ?_
   rintro _ w16 ⟨G16, _, _, rfl, H16', ⟨p16, x16, hp16, rfl, hxs16, rfl⟩⟩
   have hr1 := hr1.up H16'.le
   have hr1' := hr1'.up H16'.le
   have hd15 := hd15.trans H16'.le
   have H := H.borrow (k := 0) rfl H16'
   refine ⟨_, Z, ?_⟩
   refine R_nil (N_DK (Kn.of' H hd15 (SubL.cons 2 Z SubL.nil)) ?_)
   refine RD_run [3] kR Z (RDs.cons Z ?_ RDs.nil)
   refine o_call call171 Z Z (VolumeDrop_c _ _ H.sub _ u ⟨_, _, _, _, _, _, Z, hr1, hr1'⟩ _ hxs16 ) ?_
   rintro _ w17 ⟨G17, _, _, g17, rfl, ⟨u17_0, u17_1, rfl, ⟨cs17, rfl, hchk17⟩, hr17_1⟩, hp17, hq17, hs17⟩
   have H := H.growO g17 hp17 hq17 hs17; obtain ⟨av17, cv17, rfl⟩ := H.accShape (k := 0) rfl
   have hd15 := hd15.trans g17.le
   obtain ⟨a17_1, k17_1, rfl⟩ := hr17_1.shape; have hx_hr17_1 : _ ≤ 1099511627776 := hr17_1.lim
   refine ⟨_, Z, ?_⟩
   refine R_nil (N_DK (Kn.of' H hd15 (SubL.cons 3 Z SubL.nil)) (RD_t 4 Z kR Z (fun _ hK => v_extract Z Z) (RD_t 5 Z kR Z (fun _ hK => v_extract Z Z) ?_)))
   refine RD_run [6] kR Z (RDs.cons Z ?_ RDs.nil)
   refine o_store_B 2 H sizeOf47 Z Z Z Z Z Z Z Z ?_; intro w18 H
   refine R_nil (N_DK (Kn.of' H hd15 (SubL.cons 3 Z SubL.nil)) (RD_t 7 Z kR Z (fun _ hK => v_assign Z) (RD_done kR (N_K (W_ret (N_B_ret (N_K_ret (ret_gen (rs := [.cell 4 47, .tmp 5]) (vs := [_, _]) results137 ⟨⟨_, Z, load_blk 2 H isAgg47 sizeOf47 Z Z Z⟩, Z, trivial⟩ ?_))))))))
   have H := H.del (k := 2) rfl
   have H := H.del (k := 2) rfl
   have H := H.toFront (k := 1) rfl
   have H := H.toFront (k := 1) rfl
   exact H.retM ⟨_, _, _, _, _, _, _, oM, Z, hchk17, Sp.vol_len (fun u2 h2 => Sp.drop_valid h2), hr17_1, acc_1 Z⟩
  intro hc14'
  try simp only [nrm] at hc14'
  refine W_skip (N_B (N_K (q2 (mV Z (o_buildSlice H underlying69 sizeOf9 (fun w => ⟨_, zeroValue9 w, Z⟩) Z Z Z Z Z Z Z ?_))))); intro b19 w19 hb19 H
  have H := H.blkAcc 1 (k := 0) (n := 5) rfl rfl (by decide)
  have hchk21 := ((((((Chk.nil (E := strE) (sz := 1) (G := G4)).snoc (show strE _ ([99] : Fw.Bs) [str [99]] from ⟨rfl, by decide⟩) rfl).snoc (show strE _ ([97, 47, 121] : Fw.Bs) [str [97, 47, 121]] from ⟨rfl, by decide⟩) rfl).snoc (show strE _ ([98, 47, 120] : Fw.Bs) [str [98, 47, 120]] from ⟨rfl, by decide⟩) rfl).snoc (show strE _ ([97, 47, 120, 47, 112] : Fw.Bs) [str [97, 47, 120, 47, 112]] from ⟨rfl, by decide⟩) rfl).snoc (show strE _ ([100] : Fw.Bs) [str [100]] from ⟨rfl, by decide⟩) rfl)
  obtain ⟨G22, H, hsg22, hsr22⟩ := H.shutM (k := 0) (j := 0) rfl rfl hchk21 aN aN
  have hbs := hbs.up hsg22
  have hr1 := hr1.up hsg22
  have hr1' := hr1'.up hsg22
  refine o_call call39 Z Z (of_c _ _ H.sub _ _ _ _ _ _ hbs (H.blkIs (k := 0) Z).1 (H.blkIs (k := 0) Z).2 oM _ _ hsr22 (by first | decide | (simp; done) | (simp; omega))) ?_
  rintro _ w20 ⟨G20, _, _, rfl, H20', ⟨p20, x20, hp20, rfl, hxs20, rfl⟩⟩
  have hbs := hbs.up H20'.le
  have hr1 := hr1.up H20'.le
  have hr1' := hr1'.up H20'.le
  have H := H.borrow (k := 0) rfl H20'
  refine ⟨_, Z, ?_⟩
  refine aG Z (q3 (W_seq (W_drawK [2] 9 H kR Z ?_))); intro w23 H; have hd23 := PLe.refl G20
  refine RD_t 0 Z kR Z (fun _ hK => v_loadagg_B 0 hK isAgg47 sizeOf47 Z Z Z Z) (vM 1 Z Z (vM 2 Z Z ?_))
  refine RD_run [3] kR Z (RDs.cons Z ?_ RDs.nil)
  refine o_call call60 Z Z (l91File_c _ _ H.sub _ _ _ _ _ _ hbs (H.blkIs (k := 0) Z).1 (H.blkIs (k := 0) Z).2 oM ) ?_
  rintro _ w24 ⟨G24, _, _, rfl, H24', ⟨p24, x24, v24, c24, hp24, rfl, hchk24, hxl24, rfl⟩⟩
  have hr1 := hr1.up H24'.le
  have hr1' := hr1'.up H24'.le
  have hd23 := hd23.trans H24'.le
  have H := H.borrow (k := 0) rfl H24'
  obtain ⟨av24, cv24, rfl⟩ := H.accShape (k := 0) rfl
  refine ⟨_, Z, ?_⟩
  refine R_nil (N_DK (Kn.of' H hd23 (SubL.cons 3 Z SubL.nil)) ?_)
  refine RD_run [4] kR Z (RDs.cons Z ?_ RDs.nil)
  obtain ⟨G26, H, hsg26, hsr26⟩ := H.shutM (k := 0) (j := 0) rfl rfl hchk24 aN aN
  have hr1 := hr1.up hsg26
  have hr1' := hr1'.up hsg26
  have hd23 := hd23.trans hsg26
  refine o_call call172 Z Z (VolumeWrite_c _ _ H.sub _ u ⟨_, _, _, _, _, _, Z, hr1, hr1'⟩ _ hxs20 _ _ hsr26 ) ?_
  rintro _ w25 ⟨G25, _, _, g25, rfl, ⟨u25_0, u25_1, rfl, ⟨cs25, rfl, hchk25⟩, hr25_1⟩, hp25, hq25, hs25⟩
  have H := H.growO g25 hp25 hq25 hs25; obtain ⟨av25, cv25, rfl⟩ := H.accShape (k := 0) rfl
  have hd23 := hd23.trans g25.le
  obtain ⟨a25_1, k25_1, rfl⟩ := hr25_1.shape; have hx_hr25_1 : _ ≤ 1099511627776 := hr25_1.lim
  refine ⟨_, Z, ?_⟩
  refine R_nil (N_DK (Kn.of' H hd23 (SubL.cons 3 Z SubL.nil)) (RD_t 5 Z kR Z (fun _ hK => v_extract Z Z) (RD_t 6 Z kR Z (fun _ hK => v_extract Z Z) ?_)))
  refine RD_run [7] kR Z (RDs.cons Z ?_ RDs.nil)
  refine o_store_B 2 H sizeOf47 Z Z Z Z Z Z Z Z ?_; intro w27 H
  refine R_nil (N_DK (Kn.of' H hd23 (SubL.cons 3 Z SubL.nil)) (RD_t 8 Z kR Z (fun _ hK => v_assign Z) (RD_done kR (N_K (W_ret (ret_gen (rs := [.cell 4 47, .tmp 5]) (vs := [_, _]) results137 ⟨⟨_, Z, load_blk 2 H isAgg47 sizeOf47 Z Z Z⟩, Z, trivial⟩ ?_))))))
  have H := H.del (k := 2) rfl
  have H := H.del (k := 2) rfl
  have H := H.toFront (k := 1) rfl
  have H := H.toFront (k := 1) rfl
  exact H.retM ⟨_, _, _, _, _, _, _, oM, Z, hchk25, Sp.vol_len (fun u2 h2 => Sp.vwrite_valid h2), hr25_1, acc_1 Z⟩
 intro hc5'
 try simp only [nrm] at hc5'
 refine q2 (o_eql Z Z Z (aG Z (q3 ?_)))
 refine W_cond Z ?_ ?_
 ·intro hc28
  try simp only [nrm] at hc28
  refine W_skip (N_K ?_)
  refine W_cond Z ?_ ?_
  ·intro hc29
   try simp only [nrm] at hc29
   refine W_seq (W_drawK [2] 9 H kR Z ?_); intro w30 H; have hd30 := PLe.refl G4
   refine RD_t 0 Z kR Z (fun _ hK => v_loadagg_B 0 hK isAgg47 sizeOf47 Z Z Z Z) (vM 1 Z Z ?_)
   refine RD_run [2] kR Z (RDs.cons Z ?_ RDs.nil)
   refine o_buildSlice H underlying69 sizeOf9 (fun w => ⟨_, zeroValue9 w, Z⟩) Z Z Z Z Z Z Z ?_; intro b31 w31 hb31 H
   refine R_nil (N_DK (Kn.of' H hd30 (SubL.cons 3 Z SubL.nil)) ?_)
   refine RD_run [3] kR Z (RDs.cons Z ?_ RDs.nil)
   have H := H.blkAcc 1 (k := 0) (n := 3) rfl rfl (by decide)
   have hchk33 := ((((Chk.nil (E := strE) (sz := 1) (G := G4)).snoc (show strE _ ([97] : Fw.Bs) [str [97]] from ⟨rfl, by decide⟩) rfl).snoc (show strE _ ([98] : Fw.Bs) [str [98]] from ⟨rfl, by decide⟩) rfl).snoc (show strE _ ([97, 47, 120] : Fw.Bs) [str [97, 47, 120]] from ⟨rfl, by decide⟩) rfl)
   obtain ⟨G34, H, hsg34, hsr34⟩ := H.shutM (k := 0) (j := 0) rfl rfl hchk33 aN aN
   have hbs := hbs.up hsg34
   have hr1 := hr1.up hsg34
   have hr1' := hr1'.up hsg34
   have hd30 := hd30.trans hsg34
   refine o_call call39 Z Z (of_c _ _ H.sub _ _ _ _ _ _ hbs (H.blkIs (k := 0) Z).1 (H.blkIs (k := 0) Z).2 oM _ _ hsr34 (by first | decide | (simp; done) | (simp; omega))) ?_
   rintro _ w32 ⟨G32, _, _, rfl, H32', ⟨p32, x32, hp32, rfl, hxs32, rfl⟩⟩
   have hr1 := hr1.up H32'.le
   have hr1' := hr1'.up H32'.le
   have hd30 := hd30.trans H32'.le
   have H := H.borrow (k := 0) rfl H32'
   refine ⟨_, Z, ?_⟩
   refine R_nil (N_DK (Kn.of' H hd30 (SubL.cons 2 Z SubL.nil)) ?_)
   refine RD_run [4] kR Z (RDs.cons Z ?_ RDs.nil)
   refine o_call call170 Z Z (VolumeDir_c _ _ H.sub _ u ⟨_, _, _, _, _, _, Z, hr1, hr1'⟩ _ hxs32 ) ?_
   rintro _ w35 ⟨G35, _, _, g35, rfl, ⟨u35_0, u35_1, rfl, ⟨cs35, rfl, hchk35⟩, hr35_1⟩, hp35, hq35, hs35⟩
   have H := H.growO g35 hp35 hq35 hs35; obtain ⟨av35, cv35, rfl⟩ := H.accShape (k := 0) rfl
   have hd30 := hd30.trans g35.le
   obtain ⟨a35_1, k35_1, rfl⟩ := hr35_1.shape; have hx_hr35_1 : _ ≤ 1099511627776 := hr35_1.lim
   refine ⟨_, Z, ?_⟩
   refine R_nil (N_DK (Kn.of' H hd30 (SubL.cons 3 Z SubL.nil)) (RD_t 5 Z kR Z (fun _ hK => v_extract Z Z) (RD_t 6 Z kR Z (fun _ hK => v_extract Z Z) ?_)))
   refine RD_run [7] kR Z (RDs.cons Z ?_ RDs.nil)
   refine o_store_B 2 H sizeOf47 Z Z Z Z Z Z Z Z ?_; intro w36 H
   refine R_nil (N_DK (Kn.of' H hd30 (SubL.cons 3 Z SubL.nil)) (RD_t 8 Z kR Z (fun _ hK => v_assign Z) (RD_done kR (N_K (W_ret (N_B_ret (N_K_ret (ret_gen (rs := [.cell 4 47, .tmp 5]) (vs := [_, _]) results137 ⟨⟨_, Z, load_blk 2 H isAgg47 sizeOf47 Z Z Z⟩, Z, trivial⟩ ?_))))))))
   have H := H.del (k := 2) rfl
   have H := H.del (k := 2) rfl
   have H := H.toFront (k := 1) rfl
   have H := H.toFront (k := 1) rfl
   exact H.retM ⟨_, _, _, _, _, _, _, oM, Z, hchk35, Sp.vol_len (fun u2 h2 => Sp.dir_valid h2), hr35_1, acc_1 Z⟩
  intro hc29'
  try simp only [nrm] at hc29'
  refine q2 (o_eql Z Z Z (aG Z (q3 ?_)))
  refine W_cond Z ?_ ?_
  ·intro hc37
   try simp only [nrm] at hc37
   refine W_seq (W_drawK [2] 8 H kR Z ?_); intro w38 H; have hd38 := PLe.refl G4
   refine RD_t 0 Z kR Z (fun _ hK => v_loadagg_B 0 hK isAgg47 sizeOf47 Z Z Z Z) (vM 1 Z Z ?_)
   refine RD_run [2] kR Z (RDs.cons Z ?_ RDs.nil)
   refine o_call call55 Z Z (l91Path_c _ _ H.sub _ _ _ _ _ _ hbs (H.blkIs (k := 0) Z).1 (H.blkIs (k := 0) Z).2 oM ) ?_
   rintro _ w39 ⟨G39, _, _, rfl, H39', ⟨p39, x39, hp39, rfl, hxs39, rfl⟩⟩
   have hr1 := hr1.up H39'.le
   have hr1' := hr1'.up H39'.le
   have hd38 := hd38.trans H39'.le
   have H := H.borrow (k := 0) rfl H39'
   refine ⟨_, Z, ?_⟩
   refine R_nil (N_DK (Kn.of' H hd38 (SubL.cons 2 Z SubL.nil)) ?_)
   refine RD_run [3] kR Z (RDs.cons Z ?_ RDs.nil)
   refine o_call call171 Z Z (VolumeDrop_c _ _ H.sub _ u ⟨_, _, _, _, _, _, Z, hr1, hr1'⟩ _ hxs39 ) ?_
   rintro _ w40 ⟨G40, _, _, g40, rfl, ⟨u40_0, u40_1, rfl, ⟨cs40, rfl, hchk40⟩, hr40_1⟩, hp40, hq40, hs40⟩
   have H := H.growO g40 hp40 hq40 hs40; obtain ⟨av40, cv40, rfl⟩ := H.accShape (k := 0) rfl
   have hd38 := hd38.trans g40.le
   obtain ⟨a40_1, k40_1, rfl⟩ := hr40_1.shape; have hx_hr40_1 : _ ≤ 1099511627776 := hr40_1.lim
   refine ⟨_, Z, ?_⟩
   refine R_nil (N_DK (Kn.of' H hd38 (SubL.cons 3 Z SubL.nil)) (RD_t 4 Z kR Z (fun _ hK => v_extract Z Z) (RD_t 5 Z kR Z (fun _ hK => v_extract Z Z) ?_)))
   refine RD_run [6] kR Z (RDs.cons Z ?_ RDs.nil)
   refine o_store_B 2 H sizeOf47 Z Z Z Z Z Z Z Z ?_; intro w41 H
   refine R_nil (N_DK (Kn.of' H hd38 (SubL.cons 3 Z SubL.nil)) (RD_t 7 Z kR Z (fun _ hK => v_assign Z) (RD_done kR (N_K (W_ret (N_B_ret (N_K_ret (ret_gen (rs := [.cell 4 47, .tmp 5]) (vs := [_, _]) results137 ⟨⟨_, Z, load_blk 2 H isAgg47 sizeOf47 Z Z Z⟩, Z, trivial⟩ ?_))))))))
   have H := H.del (k := 2) rfl
   have H := H.del (k := 2) rfl
   have H := H.toFront (k := 1) rfl
   have H := H.toFront (k := 1) rfl
   exact H.retM ⟨_, _, _, _, _, _, _, oM, Z, hchk40, Sp.vol_len (fun u2 h2 => Sp.drop_valid h2), hr40_1, acc_1 Z⟩
  intro hc37'
  try simp only [nrm] at hc37'
  refine W_skip (N_B (N_K (q2 (mV Z (o_buildSlice H underlying69 sizeOf9 (fun w => ⟨_, zeroValue9 w, Z⟩) Z Z Z Z Z Z Z ?_))))); intro b42 w42 hb42 H
  have H := H.blkAcc 1 (k := 0) (n := 5) rfl rfl (by decide)
  have hchk44 := ((((((Chk.nil (E := strE) (sz := 1) (G := G4)).snoc (show strE _ ([99] : Fw.Bs) [str [99]] from ⟨rfl, by decide⟩) rfl).snoc (show strE _ ([97, 47, 121] : Fw.Bs) [str [97, 47, 121]] from ⟨rfl, by decide⟩) rfl).snoc (show strE _ ([98, 47, 120] : Fw.Bs) [str [98, 47, 120]] from ⟨rfl, by decide⟩) rfl).snoc (show strE _ ([97, 47, 120, 47, 112] : Fw.Bs) [str [97, 47, 120, 47, 112]] from ⟨rfl, by decide⟩) rfl).snoc (show strE _ ([100] : Fw.Bs) [str [100]] from ⟨rfl, by decide⟩) rfl)
  obtain ⟨G45, H, hsg45, hsr45⟩ := H.shutM (k := 0) (j := 0) rfl rfl hchk44 aN aN
  have hbs := hbs.up hsg45
  have hr1 := hr1.up hsg45
  have hr1' := hr1'.up hsg45
  refine o_call call39 Z Z (of_c _ _ H.sub _ _ _ _ _ _ hbs (H.blkIs (k := 0) Z).1 (H.blkIs (k := 0) Z).2 oM _ _ hsr45 (by first | decide | (simp; done) | (simp; omega))) ?_
  rintro _ w43 ⟨G43, _, _, rfl, H43', ⟨p43, x43, hp43, rfl, hxs43, rfl⟩⟩
  have hbs := hbs.up H43'.le
  have hr1 := hr1.up H43'.le
  have hr1' := hr1'.up H43'.le
  have H := H.borrow (k := 0) rfl H43'
  refine ⟨_, Z, ?_⟩
  refine aG Z (q3 (W_seq (W_drawK [2] 9 H kR Z ?_))); intro w46 H; have hd46 := PLe.refl G43
  refine RD_t 0 Z kR Z (fun _ hK => v_loadagg_B 0 hK isAgg47 sizeOf47 Z Z Z Z) (vM 1 Z Z (vM 2 Z Z ?_))
  refine RD_run [3] kR Z (RDs.cons Z ?_ RDs.nil)
  refine o_call call60 Z Z (l91File_c _ _ H.sub _ _ _ _ _ _ hbs (H.blkIs (k := 0) Z).1 (H.blkIs (k := 0) Z).2 oM ) ?_
  rintro _ w47 ⟨G47, _, _, rfl, H47', ⟨p47, x47, v47, c47, hp47, rfl, hchk47, hxl47, rfl⟩⟩
  have hr1 := hr1.up H47'.le
  have hr1' := hr1'.up H47'.le
  have hd46 := hd46.trans H47'.le
  have H := H.borrow (k := 0) rfl H47'
  obtain ⟨av47, cv47, rfl⟩ := H.accShape (k := 0) rfl
  refine ⟨_, Z, ?_⟩
  refine R_nil (N_DK (Kn.of' H hd46 (SubL.cons 3 Z SubL.nil)) ?_)
  refine RD_run [4] kR Z (RDs.cons Z ?_ RDs.nil)
  obtain ⟨G49, H, hsg49, hsr49⟩ := H.shutM (k := 0) (j := 0) rfl rfl hchk47 aN aN
  have hr1 := hr1.up hsg49
  have hr1' := hr1'.up hsg49
  have hd46 := hd46.trans hsg49
  refine o_call call172 Z Z (VolumeWrite_c _ _ H.sub _ u ⟨_, _, _, _, _, _, Z, hr1, hr1'⟩ _ hxs43 _ _ hsr49 ) ?_
  rintro _ w48 ⟨G48, _, _, g48, rfl, ⟨u48_0, u48_1, rfl, ⟨cs48, rfl, hchk48⟩, hr48_1⟩, hp48, hq48, hs48⟩
  have H := H.growO g48 hp48 hq48 hs48; obtain ⟨av48, cv48, rfl⟩ := H.accShape (k := 0) rfl
  have hd46 := hd46.trans g48.le
  obtain ⟨a48_1, k48_1, rfl⟩ := hr48_1.shape; have hx_hr48_1 : _ ≤ 1099511627776 := hr48_1.lim
  refine ⟨_, Z, ?_⟩
  refine R_nil (N_DK (Kn.of' H hd46 (SubL.cons 3 Z SubL.nil)) (RD_t 5 Z kR Z (fun _ hK => v_extract Z Z) (RD_t 6 Z kR Z (fun _ hK => v_extract Z Z) ?_)))
  refine RD_run [7] kR Z (RDs.cons Z ?_ RDs.nil)
  refine o_store_B 2 H sizeOf47 Z Z Z Z Z Z Z Z ?_; intro w50 H
  refine R_nil (N_DK (Kn.of' H hd46 (SubL.cons 3 Z SubL.nil)) (RD_t 8 Z kR Z (fun _ hK => v_assign Z) (RD_done kR (N_K (W_ret (ret_gen (rs := [.cell 4 47, .tmp 5]) (vs := [_, _]) results137 ⟨⟨_, Z, load_blk 2 H isAgg47 sizeOf47 Z Z Z⟩, Z, trivial⟩ ?_))))))
  have H := H.del (k := 2) rfl
  have H := H.del (k := 2) rfl
  have H := H.toFront (k := 1) rfl
  have H := H.toFront (k := 1) rfl
  exact H.retM ⟨_, _, _, _, _, _, _, oM, Z, hchk48, Sp.vol_len (fun u2 h2 => Sp.vwrite_valid h2), hr48_1, acc_1 Z⟩
 intro hc28'
 try simp only [nrm] at hc28'
 refine W_region (o_eql Z Z Z (aG Z (q3 ?_)))
 refine W_cond Z ?_ ?_
 ·intro hc51
  try simp only [nrm] at hc51
  refine W_seq (W_drawK [2] 9 H kR Z ?_); intro w52 H; have hd52 := PLe.refl G4
  refine RD_t 0 Z kR Z (fun _ hK => v_loadagg_B 0 hK isAgg47 sizeOf47 Z Z Z Z) (vM 1 Z Z ?_)
  refine RD_run [2] kR Z (RDs.cons Z ?_ RDs.nil)
  refine o_buildSlice H underlying69 sizeOf9 (fun w => ⟨_, zeroValue9 w, Z⟩) Z Z Z Z Z Z Z ?_; intro b53 w53 hb53 H
  refine R_nil (N_DK (Kn.of' H hd52 (SubL.cons 3 Z SubL.nil)) ?_)
  refine RD_run [3] kR Z (RDs.cons Z ?_ RDs.nil)
  have H := H.blkAcc 1 (k := 0) (n := 3) rfl rfl (by decide)
  have hchk55 := ((((Chk.nil (E := strE) (sz := 1) (G := G4)).snoc (show strE _ ([97] : Fw.Bs) [str [97]] from ⟨rfl, by decide⟩) rfl).snoc (show strE _ ([98] : Fw.Bs) [str [98]] from ⟨rfl, by decide⟩) rfl).snoc (show strE _ ([97, 47, 120] : Fw.Bs) [str [97, 47, 120]] from ⟨rfl, by decide⟩) rfl)
  obtain ⟨G56, H, hsg56, hsr56⟩ := H.shutM (k := 0) (j := 0) rfl rfl hchk55 aN aN
  have hbs := hbs.up hsg56
  have hr1 := hr1.up hsg56
  have hr1' := hr1'.up hsg56
  have hd52 := hd52.trans hsg56
  refine o_call call39 Z Z (of_c _ _ H.sub _ _ _ _ _ _ hbs (H.blkIs (k := 0) Z).1 (H.blkIs (k := 0) Z).2 oM _ _ hsr56 (by first | decide | (simp; done) | (simp; omega))) ?_
  rintro _ w54 ⟨G54, _, _, rfl, H54', ⟨p54, x54, hp54, rfl, hxs54, rfl⟩⟩
  have hr1 := hr1.up H54'.le
  have hr1' := hr1'.up H54'.le
  have hd52 := hd52.trans H54'.le
  have H := H.borrow (k := 0) rfl H54'
  refine ⟨_, Z, ?_⟩
  refine R_nil (N_DK (Kn.of' H hd52 (SubL.cons 2 Z SubL.nil)) ?_)
  refine RD_run [4] kR Z (RDs.cons Z ?_ RDs.nil)
  refine o_call call170 Z Z (VolumeDir_c _ _ H.sub _ u ⟨_, _, _, _, _, _, Z, hr1, hr1'⟩ _ hxs54 ) ?_
  rintro _ w57 ⟨G57, _, _, g57, rfl, ⟨u57_0, u57_1, rfl, ⟨cs57, rfl, hchk57⟩, hr57_1⟩, hp57, hq57, hs57⟩
  have H := H.growO g57 hp57 hq57 hs57; obtain ⟨av57, cv57, rfl⟩ := H.accShape (k := 0) rfl
  have hd52 := hd52.trans g57.le
  obtain ⟨a57_1, k57_1, rfl⟩ := hr57_1.shape; have hx_hr57_1 : _ ≤ 1099511627776 := hr57_1.lim
  refine ⟨_, Z, ?_⟩
  refine R_nil (N_DK (Kn.of' H hd52 (SubL.cons 3 Z SubL.nil)) (RD_t 5 Z kR Z (fun _ hK => v_extract Z Z) (RD_t 6 Z kR Z (fun _ hK => v_extract Z Z) ?_)))
  refine RD_run [7] kR Z (RDs.cons Z ?_ RDs.nil)
  refine o_store_B 2 H sizeOf47 Z Z Z Z Z Z Z Z ?_; intro w58 H
  refine R_nil (N_DK (Kn.of' H hd52 (SubL.cons 3 Z SubL.nil)) (RD_t 8 Z kR Z (fun _ hK => v_assign Z) (RD_done kR (N_K (W_ret (N_B_ret (N_K_ret (ret_gen (rs := [.cell 4 47, .tmp 5]) (vs := [_, _]) results137 ⟨⟨_, Z, load_blk 2 H isAgg47 sizeOf47 Z Z Z⟩, Z, trivial⟩ ?_))))))))
  have H := H.del (k := 2) rfl
  have H := H.del (k := 2) rfl
  have H := H.toFront (k := 1) rfl
  have H := H.toFront (k := 1) rfl
  exact H.retM ⟨_, _, _, _, _, _, _, oM, Z, hchk57, Sp.vol_len (fun u2 h2 => Sp.dir_valid h2), hr57_1, acc_1 Z⟩
 intro hc51'
 try simp only [nrm] at hc51'
 refine q2 (o_eql Z Z Z (aG Z (q3 ?_)))
 refine W_cond Z ?_ ?_
 ·intro hc59
  try simp only [nrm] at hc59
  refine W_seq (W_drawK [2] 8 H kR Z ?_); intro w60 H; have hd60 := PLe.refl G4
  refine RD_t 0 Z kR Z (fun _ hK => v_loadagg_B 0 hK isAgg47 sizeOf47 Z Z Z Z) (vM 1 Z Z ?_)
  refine RD_run [2] kR Z (RDs.cons Z ?_ RDs.nil)
  refine o_call call55 Z Z (l91Path_c _ _ H.sub _ _ _ _ _ _ hbs (H.blkIs (k := 0) Z).1 (H.blkIs (k := 0) Z).2 oM ) ?_
  rintro _ w61 ⟨G61, _, _, rfl, H61', ⟨p61, x61, hp61, rfl, hxs61, rfl⟩⟩
  have hr1 := hr1.up H61'.le
  have hr1' := hr1'.up H61'.le
  have hd60 := hd60.trans H61'.le
  have H := H.borrow (k := 0) rfl H61'
  refine ⟨_, Z, ?_⟩
  refine R_nil (N_DK (Kn.of' H hd60 (SubL.cons 2 Z SubL.nil)) ?_)
  refine RD_run [3] kR Z (RDs.cons Z ?_ RDs.nil)
  refine o_call call171 Z Z (VolumeDrop_c _ _ H.sub _ u ⟨_, _, _, _, _, _, Z, hr1, hr1'⟩ _ hxs61 ) ?_
  rintro _ w62 ⟨G62, _, _, g62, rfl, ⟨u62_0, u62_1, rfl, ⟨cs62, rfl, hchk62⟩, hr62_1⟩, hp62, hq62, hs62⟩
  have H := H.growO g62 hp62 hq62 hs62; obtain ⟨av62, cv62, rfl⟩ := H.accShape (k := 0) rfl
  have hd60 := hd60.trans g62.le
  obtain ⟨a62_1, k62_1, rfl⟩ := hr62_1.shape; have hx_hr62_1 : _ ≤ 1099511627776 := hr62_1.lim
  refine ⟨_, Z, ?_⟩
  refine R_nil (N_DK (Kn.of' H hd60 (SubL.cons 3 Z SubL.nil)) (RD_t 4 Z kR Z (fun _ hK => v_extract Z Z) (RD_t 5 Z kR Z (fun _ hK => v_extract Z Z) ?_)))
  refine RD_run [6] kR Z (RDs.cons Z ?_ RDs.nil)
  refine o_store_B 2 H sizeOf47 Z Z Z Z Z Z Z Z ?_; intro w63 H
  refine R_nil (N_DK (Kn.of' H hd60 (SubL.cons 3 Z SubL.nil)) (RD_t 7 Z kR Z (fun _ hK => v_assign Z) (RD_done kR (N_K (W_ret (N_B_ret (N_K_ret (ret_gen (rs := [.cell 4 47, .tmp 5]) (vs := [_, _]) results137 ⟨⟨_, Z, load_blk 2 H isAgg47 sizeOf47 Z Z Z⟩, Z, trivial⟩ ?_))))))))
  have H := H.del (k := 2) rfl
  have H := H.del (k := 2) rfl
  have H := H.toFront (k := 1) rfl
  have H := H.toFront (k := 1) rfl
  exact H.retM ⟨_, _, _, _, _, _, _, oM, Z, hchk62, Sp.vol_len (fun u2 h2 => Sp.drop_valid h2), hr62_1, acc_1 Z⟩
 intro hc59'
 try simp only [nrm] at hc59'
 refine W_skip (N_B (N_K (q2 (mV Z (o_buildSlice H underlying69 sizeOf9 (fun w => ⟨_, zeroValue9 w, Z⟩) Z Z Z Z Z Z Z ?_))))); intro b64 w64 hb64 H
 have H := H.blkAcc 1 (k := 0) (n := 5) rfl rfl (by decide)
 have hchk66 := ((((((Chk.nil (E := strE) (sz := 1) (G := G4)).snoc (show strE _ ([99] : Fw.Bs) [str [99]] from ⟨rfl, by decide⟩) rfl).snoc (show strE _ ([97, 47, 121] : Fw.Bs) [str [97, 47, 121]] from ⟨rfl, by decide⟩) rfl).snoc (show strE _ ([98, 47, 120] : Fw.Bs) [str [98, 47, 120]] from ⟨rfl, by decide⟩) rfl).snoc (show strE _ ([97, 47, 120, 47, 112] : Fw.Bs) [str [97, 47, 120, 47, 112]] from ⟨rfl, by decide⟩) rfl).snoc (show strE _ ([100] : Fw.Bs) [str [100]] from ⟨rfl, by decide⟩) rfl)
 obtain ⟨G67, H, hsg67, hsr67⟩ := H.shutM (k := 0) (j := 0) rfl rfl hchk66 aN aN
 have hbs := hbs.up hsg67
 have hr1 := hr1.up hsg67
 have hr1' := hr1'.up hsg67
 refine o_call call39 Z Z (of_c _ _ H.sub _ _ _ _ _ _ hbs (H.blkIs (k := 0) Z).1 (H.blkIs (k := 0) Z).2 oM _ _ hsr67 (by first | decide | (simp; done) | (simp; omega))) ?_
 rintro _ w65 ⟨G65, _, _, rfl, H65', ⟨p65, x65, hp65, rfl, hxs65, rfl⟩⟩
 have hbs := hbs.up H65'.le
 have hr1 := hr1.up H65'.le
 have hr1' := hr1'.up H65'.le
 have H := H.borrow (k := 0) rfl H65'
 refine ⟨_, Z, ?_⟩
 refine aG Z (q3 (W_seq (W_drawK [2] 9 H kR Z ?_))); intro w68 H; have hd68 := PLe.refl G65
 refine RD_t 0 Z kR Z (fun _ hK => v_loadagg_B 0 hK isAgg47 sizeOf47 Z Z Z Z) (vM 1 Z Z (vM 2 Z Z ?_))
 refine RD_run [3] kR Z (RDs.cons Z ?_ RDs.nil)
 refine o_call call60 Z Z (l91File_c _ _ H.sub _ _ _ _ _ _ hbs (H.blkIs (k := 0) Z).1 (H.blkIs (k := 0) Z).2 oM ) ?_
 rintro _ w69 ⟨G69, _, _, rfl, H69', ⟨p69, x69, v69, c69, hp69, rfl, hchk69, hxl69, rfl⟩⟩
 have hr1 := hr1.up H69'.le
 have hr1' := hr1'.up H69'.le
 have hd68 := hd68.trans H69'.le
 have H := H.borrow (k := 0) rfl H69'
 obtain ⟨av69, cv69, rfl⟩ := H.accShape (k := 0) rfl
 refine ⟨_, Z, ?_⟩
 refine R_nil (N_DK (Kn.of' H hd68 (SubL.cons 3 Z SubL.nil)) ?_)
 refine RD_run [4] kR Z (RDs.cons Z ?_ RDs.nil)
 obtain ⟨G71, H, hsg71, hsr71⟩ := H.shutM (k := 0) (j := 0) rfl rfl hchk69 aN aN
 have hr1 := hr1.up hsg71
 have hr1' := hr1'.up hsg71
 have hd68 := hd68.trans hsg71
 refine o_call call172 Z Z (VolumeWrite_c _ _ H.sub _ u ⟨_, _, _, _, _, _, Z, hr1, hr1'⟩ _ hxs65 _ _ hsr71 ) ?_
 rintro _ w70 ⟨G70, _, _, g70, rfl, ⟨u70_0, u70_1, rfl, ⟨cs70, rfl, hchk70⟩, hr70_1⟩, hp70, hq70, hs70⟩
 have H := H.growO g70 hp70 hq70 hs70; obtain ⟨av70, cv70, rfl⟩ := H.accShape (k := 0) rfl
 have hd68 := hd68.trans g70.le
 obtain ⟨a70_1, k70_1, rfl⟩ := hr70_1.shape; have hx_hr70_1 : _ ≤ 1099511627776 := hr70_1.lim
 refine ⟨_, Z, ?_⟩
 refine R_nil (N_DK (Kn.of' H hd68 (SubL.cons 3 Z SubL.nil)) (RD_t 5 Z kR Z (fun _ hK => v_extract Z Z) (RD_t 6 Z kR Z (fun _ hK => v_extract Z Z) ?_)))
 refine RD_run [7] kR Z (RDs.cons Z ?_ RDs.nil)
 refine o_store_B 2 H sizeOf47 Z Z Z Z Z Z Z Z ?_; intro w72 H
 refine R_nil (N_DK (Kn.of' H hd68 (SubL.cons 3 Z SubL.nil)) (RD_t 8 Z kR Z (fun _ hK => v_assign Z) (RD_done kR (N_K (W_ret (ret_gen (rs := [.cell 4 47, .tmp 5]) (vs := [_, _]) results137 ⟨⟨_, Z, load_blk 2 H isAgg47 sizeOf47 Z Z Z⟩, Z, trivial⟩ ?_))))))
 have H := H.del (k := 2) rfl
 have H := H.del (k := 2) rfl
 have H := H.toFront (k := 1) rfl
 have H := H.toFront (k := 1) rfl
 exact H.retM ⟨_, _, _, _, _, _, _, oM, Z, hchk70, Sp.vol_len (fun u2 h2 => Sp.vwrite_valid h2), hr70_1, acc_1 Z⟩
end Go.Proofs.Tst

namespace Go.Proofs.Tst
open Go Fw Tryz
theorem l91Volume_c (w0 : World) (G0 : PH) (hG : PSub G0 w0) (rb : Nat) (ab : Option Addr) (mb kb : Nat) (bs : List UInt8) (p : Nat) (hbs : RdU G0 (.slice ab mb kb) bs) (hrb : w0.heap[rb]? = some (cl [.slice ab mb kb, .int .i64 (p : Int)] 118)) (hrn : G0 rb = none) (hp : p ≤ 10000000)  :
  Calls Tryz.prog 87 #[.pointer (some ⟨rb, 0, none⟩)] w0 (RetM w0 G0 [rb] (fun G val Bs => ∃ (p' : Nat) (v1 v2 : Value) (st : List BHeld) (tr : List BItem), p' ≤ p + 3000 ∧ val = .agg #[v1, v2] ∧ RdH G v1 st ∧ RdItems G v2 tr ∧ Bs = [blk rb (cl [.slice ab mb kb, .int .i64 (p' : Int)] 118)])) := by
 have hlimbs : bs.length ≤ 1099511627776 := hbs.lim; obtain rfl : mb = bs.length := hbs.len
 have H := Hp.initM hG hrb hrn
 refine calls_of_W (l := [.pointer (some ⟨rb, 0, none⟩)]) func87 Z ntmps87 Z (q2 (o_alloc H zeroValue47 Z Z ?_)); intro b1 w1 hb1 H
 refine q1 (o_build bf47 Z Z Z (o_alloc H zeroValue47 Z Z ?_)); intro b2 w2 hb2 H
 refine o_store_B 0 H sizeOf47 Z Z Z Z Z Z Z Z ?_; intro w3 H
 refine q1 (mV Z (o_call call38 Z Z (pick_c _ _ H.sub _ _ _ _ _ _ hbs (H.blkIs (k := 2) Z).1 (H.blkIs (k := 2) Z).2 oM _ oO ) ?_))
 rintro _ w4 ⟨G4, _, _, rfl, H4', ⟨p4, x4, hp4, rfl, hxb4, rfl⟩⟩
 have hbs := hbs.up H4'.le
 have H := H.borrow (k := 2) rfl H4'
 refine ⟨_, Z, ?_⟩
 refine o_add Z Z Z oO (aG Z (q3 (W_seq (q2 (aG Z (q3 (W_block ?_)))))))
 obtain ⟨ln6, hln6, H⟩ := H.name (k := 2) rfl
 refine W_lp (hf := (Sub.cons (t := 0) Z (Sub.cons (t := 2) Z (Sub.cons (t := 3) Z (Sub.cons (t := 4) Z Sub.nil))))) (J := fun M w m => ∃ (k : Nat) (va vb : Value) (st : List BHeld) (tr : List BItem) (pp : Nat) (G : PH), M = [(5, .int .i64 (k : Int))] ∧ PLe G4 G ∧ Hp w0 G0 [rb] w G [blk rb (cl [.slice ab bs.length kb, .int .i64 (pp : Int)] 118), blk b2 (cl [va, vb] 47), blk b1 (cl ln6 47)] ∧ (k ≤ 8 ∧ pp ≤ p + 100 + 201 * k ∧ RdH G va st ∧ RdItems G vb tr ∧ Mine w0 G va) ∧ m = (8 - k)) (h0 := ⟨0, .slice none 0 0, .slice none 0 0, [], [], p4, _, Z, PLe.refl _, H, ?inv, Z⟩) (round := ?round)
 case inv => exact ⟨by omega, by omega, RdS.nil _ _ _, RdS.nil _ _ _, Mine.nil⟩
 case round =>
  rintro _ w7 _ ⟨k, va, vb, st, tr, pp, G7, rfl, hle7, H, hinv7, rfl⟩
  subst hln6
  have hbs := hbs.up hle7
  obtain ⟨hk, hpp, hst, htr, hmine⟩ := hinv7; obtain ⟨sa, sk, rfl⟩ := hst.shape; obtain ⟨ta, tk, rfl⟩ := htr.shape; have hlst : _ ≤ 1099511627776 := hst.lim; have hltr : _ ≤ 1099511627776 := htr.lim
  refine W_seq (q2 (mV Z (mV Z (o_lss Z Z Z (q3 ?_)))))
  refine W_cond Z ?_ ?_
  ·intro hc8
   try simp only [nrm] at hc8
   refine W_skip (N_K (W_seq (W_block (q2 (mV Z (o_loadagg_B 1 H isAgg47 sizeOf47 Z Z Z Z Z (o_call call137 Z Z (l91Step_c _ _ H.sub _ _ _ _ _ _ hbs (H.blkIs (k := 0) Z).1 (H.blkIs (k := 0) Z).2 oM _ ⟨st, tr⟩ ⟨_, _, _, _, _, _, Z, hst, htr⟩ ) ?_)))))))
   rintro _ w9 ⟨G9, _, _, rfl, H9', ⟨p9, v19, v29, st9, tr9, b9, c9, hp9, rfl, hchk9, hsl9, htr9, rfl⟩⟩
   have hst := hst.up H9'.le
   have htr := htr.up H9'.le
   have hmine := hmine.up H9'.le
   have hle7 := hle7.trans H9'.le
   have H := H.borrow (k := 0) rfl H9'
   obtain ⟨av9, cv9, rfl⟩ := H.accShape (k := 0) rfl
   obtain ⟨ta9, tc9, rfl⟩ := htr9.shape; have hx_htr9 : _ ≤ 1099511627776 := htr9.lim
   refine ⟨_, Z, ?_⟩
   refine mV Z (o_extract Z Z Z (o_extract Z Z Z (o_alloc H zeroValue47 Z Z ?_))); intro b10 w10 hb10 H
   refine o_store_B 0 H sizeOf47 Z Z Z Z Z Z Z Z ?_; intro w11 H
   refine aG Z (q1 (mV Z (q3 ?_)))
   refine W_cond Z ?_ ?_
   ·intro hc12
    try simp only [nrm] at hc12
    refine W_region (o_loadagg_B 0 H isAgg47 sizeOf47 Z Z Z Z Z (o_store_B 3 H sizeOf47 Z Z Z Z Z Z Z Z ?_)); intro w13 H
    refine R_nil (N_B (N_K (W_region (mV Z (o_add Z Z Z oO (aG Z (R_nil ?_)))))))
    obtain ⟨G15, H, hsg15, hst15, hmine15⟩ := H.shutP (k := 1) (j := 1) rfl rfl hchk9 aN oM
    have htr9 := htr9.up hsg15
    have hle7 := hle7.trans hsg15
    have H := H.del (k := 0) rfl
    refine N_lp (hJ := ⟨k + 1, _, _, st9, tr9, p9, _, Z, hle7, H, ?inv, Z⟩) (hm := ?hm)
    case hm => omega
    case inv => exact ⟨by omega, by omega, hst15, htr9, hmine15⟩
   intro hc12'
   try simp only [nrm] at hc12'
   refine W_skip (N_B (N_K (W_region (mV Z (o_add Z Z Z oO (aG Z (R_nil ?_)))))))
   have H := H.del (k := 0) rfl
   have H := H.del (k := 0) rfl
   refine N_lp (hJ := ⟨k + 1, _, _, st, tr, p9, _, Z, hle7, H, ?inv, Z⟩) (hm := ?hm)
   case hm => omega
   case inv => exact ⟨by omega, by omega, hst, htr, hmine⟩
  intro hc8'
  try simp only [nrm] at hc8'
  refine W_exit (N_K_exit (N_LP_exit (N_B_same (N_K (W_seq (q2 (o_fieldAddr 0 runUnderlying47 Z sizeOf23 Z Z Z (o_load_B 1 H isAgg23 Z Z Z Z (o_len_slice underlying23 Z Z (o_gtr Z Z Z (mV Z ?_)))))))))))
  refine R_case (t := 29) Z ?_ ?_
  ·intro hc17
   try simp only [nrm] at hc17
   refine gR Z (mV Z (gR Z (o_call call38 Z Z (pick_c _ _ H.sub _ _ _ _ _ _ hbs (H.blkIs (k := 0) Z).1 (H.blkIs (k := 0) Z).2 oM _ oO ) ?_)))
   rintro _ w18 ⟨G18, _, _, rfl, H18', ⟨p18, x18, hp18, rfl, hxb18, rfl⟩⟩
   have hbs := hbs.up H18'.le
   have hst := hst.up H18'.le
   have htr := htr.up H18'.le
   have hmine := hmine.up H18'.le
   have H := H.borrow (k := 0) rfl H18'
   refine ⟨_, Z, ?_⟩
   refine gR Z (o_eql Z Z Z (o_pick_t Z Z Z (q3 ?_)))
   refine W_cond Z ?_ ?_
   ·intro hc19
    try simp only [nrm] at hc19
    refine W_drawN [1, 2] 10 H kR Z ?_; intro w20 H; have hd20 := (PLe.none : PLe _ G18)
    refine RD_t 0 Z kR Z (fun _ hK => v_fieldAddr 0 runUnderlying47 Z sizeOf23 Z Z) (RD_t 1 Z kR Z (fun _ hK => v_load_B 0 hK isAgg23 Z Z Z) (vM 2 Z Z (RD_t 3 Z kR Z (fun _ hK => v_fieldAddr 0 runUnderlying47 Z sizeOf23 Z Z) (RD_t 4 Z kR Z (fun _ hK => v_load_B 0 hK isAgg23 Z Z Z) (RD_t 5 Z kR Z (fun _ hK => v_len_slice underlying23 Z) ?_)))))
    refine RD_run [6] kR Z (RDs.cons Z ?_ RDs.nil)
    refine o_call call38 Z Z (pick_c _ _ H.sub _ _ _ _ _ _ hbs (H.blkIs (k := 0) Z).1 (H.blkIs (k := 0) Z).2 oM _ oO ) ?_
    rintro _ w21 ⟨G21, _, _, rfl, H21', ⟨p21, x21, hp21, rfl, hxb21, rfl⟩⟩
    have hst := hst.up H21'.le
    have htr := htr.up H21'.le
    have hmine := hmine.up H21'.le
    have hd20 := hd20.trans H21'.le
    have H := H.borrow (k := 0) rfl H21'
    refine ⟨_, Z, ?_⟩
    refine R_nil (N_DK (Kn.of' H hd20 (SubL.cons 1 Z (SubL.cons 2 Z SubL.nil))) ?_)
    have hl22 := hst.len
    obtain ⟨b22, o22, z22, q22, ha22, hz22, hq22, hE22, hrow22, _⟩ := hst.at (i := x21) oM
    clear hq22
    obtain ⟨a22, m22, c22, rfl, hi22, hr22, hj22⟩ := hE22; have hn_hr22 := hr22.len; have hx_hr22 : _ ≤ 1099511627776 := hr22.lim
    refine RD_t 7 Z kR Z (fun _ hK => v_index_P (i := x21) ha22 underlying23 sizeOf105 Z Z Z oM) (RD_t 8 Z kR Z (fun _ hK => v_fieldAddr 2 runUnderlying105 Z sizeOf3 Z Z) ?_)
    refine RD_run [9] kR Z (RDs.cons Z ?_ RDs.nil)
    refine o_store_mine H hG hmine ha22 sizeOf3 Z Z oO (hrow22 2 _ Z) hrb Z ?_; intro w23 G23 hgr23 H
    obtain ⟨st2, _, hst2⟩ := RdS.st hgr23 hst; obtain ⟨tr2, _, htr2⟩ := RdS.st hgr23 htr
    have hd20 := (PLe.none : PLe (fun _ => none) G23)
    refine R_nil (N_DK (Kn.of' H hd20 (SubL.cons 1 Z (SubL.cons 2 Z SubL.nil))) (RD_done kR (N_K (q2 (o_loadagg_B 1 H isAgg47 sizeOf47 Z Z Z Z Z (o_store_B 2 H sizeOf47 Z Z Z Z Z Z Z Z ?_)))))); intro w24 H
    refine q3 (W_ret (ret_gen (rs := [.cell 2 47]) (vs := [_]) results87 ⟨⟨_, Z, load_blk 2 H isAgg47 sizeOf47 Z Z Z⟩, trivial⟩ ?_))
    have H := H.del (k := 1) rfl
    have H := H.del (k := 1) rfl
    exact H.retM ⟨_, _, _, _, _, oM, Z, hst2, htr2, Z⟩
   intro hc19'
   try simp only [nrm] at hc19'
   refine W_skip (N_K (q2 (o_loadagg_B 1 H isAgg47 sizeOf47 Z Z Z Z Z (o_store_B 2 H sizeOf47 Z Z Z Z Z Z Z Z ?_)))); intro w25 H
   refine q3 (W_ret (ret_gen (rs := [.cell 2 47]) (vs := [_]) results87 ⟨⟨_, Z, load_blk 2 H isAgg47 sizeOf47 Z Z Z⟩, trivial⟩ ?_))
   have H := H.del (k := 1) rfl
   have H := H.del (k := 1) rfl
   exact H.retM ⟨_, _, _, _, _, oM, Z, hst, htr, Z⟩
  intro hc17'
  try simp only [nrm] at hc17'
  refine rP Z (rP Z (rP Z (o_pick_f Z Z Z (q3 (W_false Z (W_skip (N_K (q2 (o_loadagg_B 1 H isAgg47 sizeOf47 Z Z Z Z Z (o_store_B 2 H sizeOf47 Z Z Z Z Z Z Z Z ?_)))))))))); intro w26 H
  refine q3 (W_ret (ret_gen (rs := [.cell 2 47]) (vs := [_]) results87 ⟨⟨_, Z, load_blk 2 H isAgg47 sizeOf47 Z Z Z⟩, trivial⟩ ?_))
  have H := H.del (k := 1) rfl
  have H := H.del (k := 1) rfl
  exact H.retM ⟨_, _, _, _, _, oM, Z, hst, htr, Z⟩
end Go.Proofs.Tst

namespace Go.Proofs.Tst
open Go Fw Tryz
theorem l12Free_c (w0 : World) (G0 : PH) (hG : PSub G0 w0) (vstore : Value) (store : List (BHeld)) (hstore : RdH G0 vstore store) (vlist : Value) (list : List (BItem)) (hlist : RdItems G0 vlist list)  :
  Calls Tryz.prog 173 #[vstore, vlist] w0 (RetO w0 G0 (AccOf heldE 3 105 (Sp.l12Free store list))) := by
 obtain ⟨astore, kstore, rfl⟩ := hstore.shape
 have hlimstore : store.length ≤ 1099511627776 := hstore.lim
 obtain ⟨alist, klist, rfl⟩ := hlist.shape
 have hlimlist : list.length ≤ 1099511627776 := hlist.lim
 have H := Hp.init hG
 refine calls_of_W (l := [.slice astore store.length kstore, .slice alist list.length klist]) func173 Z ntmps173 Z (q2 (aG Z (q1 (mV Z (o_call call102 Z Z (l3Copy_c _ _ H.sub _ _ hstore ) ?_)))))
 rintro _ w1 ⟨G1, v1, _, g1, rfl, ⟨cs1, rfl, hchk1⟩, hp1, hq1, hs1⟩
 have H := H.growO g1 hp1 hq1 hs1; obtain ⟨av1, cv1, rfl⟩ := H.accShape (k := 0) rfl
 have hlist := hlist.up g1.le
 refine ⟨_, Z, ?_⟩
 refine aG Z (q3 (W_seq (q2 (aG Z (q3 (W_block ?_))))))
 refine W_lp (hf := (Sub.cons (t := 1) Z (Sub.cons (t := 4) Z Sub.nil))) (J := fun M w m => ∃ (v : Value) (n : Nat) (cs : List Value) (xs : List (BHeld)) (k : Nat) (G : PH), M = [(6, .int .i64 (k : Int)), (5, v)] ∧ PLe G1 G ∧ Hp w0 G0 [] w G [acc 105 3 v n cs] ∧ (Chk heldE 3 G cs xs ∧ n = xs.length ∧ k ≤ list.length ∧ xs.length ≤ store.length ∧ xs = Sp.l12Free store (list.take k)) ∧ m = (list.length - k)) (h0 := ⟨_, _, _, store, 0, _, Z, PLe.refl _, H, ?inv, Z⟩) (round := ?round)
 case inv => exact ⟨hchk1,  by first | rfl | simp | (simp; omega) | omega, (by exact ⟨by omega, by omega, rfl⟩)⟩
 case round =>
  rintro _ w2 _ ⟨v, n, cs, xs, k, G2, rfl, hle2, H, hinv2, rfl⟩
  have hlist := hlist.up hle2
  obtain ⟨hchk2_0, hn2_0, hinv2⟩ := hinv2
  obtain ⟨av2_0, cv2_0, rfl⟩ := H.accShape (k := 0) rfl
  obtain ⟨hk, hxl, hxs⟩ := hinv2
  refine W_seq (q2 (mV Z (mV Z (o_len_slice underlying24 Z Z (o_lss Z Z Z (q3 ?_))))))
  refine W_cond Z ?_ ?_
  ·intro hc3
   try simp only [nrm] at hc3
   refine W_skip (N_K (W_seq (W_block (q2 (mV Z (mV Z (mV Z (o_index_P k hlist underlying24 sizeOf37 Z Z Z Z aN ?_)))))))); intro b4 o4 z4 q4 hz4 hE4 hrow4
   obtain ⟨a4, m4, c4, rfl, hi4, hr4⟩ := hE4; have hy_hi4 : _ ≤ 16777216 := hi4; have hn_hr4 := hr4.len; have hx_hr4 : _ ≤ 1099511627776 := hr4.lim
   refine o_fieldAddr 2 runUnderlying37 Z sizeOf33 Z Z Z (o_load_P H isAgg33 Z Z (hrow4 2 _ Z) ?_)
   obtain ⟨G6, H, hsg6, hsr6⟩ := H.shut' (k := 0) rfl hchk2_0 aN aN
   have hr4 := hr4.up hsg6
   have hle2 := hle2.trans hsg6
   refine o_call call117 Z Z (FileFree_c _ _ H.sub _ _ hsr6 _ _ hr4 ) ?_
   rintro _ w5 ⟨G5, _, _, g5, rfl, ⟨u5_0, rfl, ⟨cs5, rfl, hchk5⟩⟩, hp5, hq5, hs5⟩
   have H := H.growO g5 hp5 hq5 hs5; obtain ⟨av5, cv5, rfl⟩ := H.accShape (k := 0) rfl
   have hle2 := hle2.trans g5.le
   refine ⟨_, Z, ?_⟩
   refine mV Z (o_extract Z Z Z (o_extract Z Z Z (aG Z (aG Z (q3 (W_region (mV Z (aG Z (R_nil (N_B (N_K (W_region (mV Z (o_add Z Z Z oO (aG Z ?_)))))))))))))))
   refine R_nil ?_
   refine N_lp (hJ := ⟨_, _, _, ((Sp.FileFree xs z4.ids).getD []), k + 1, _, Z, hle2, H, ?inv, Z⟩) (hm := ?hm)
   case hm => omega
   case inv => exact ⟨hchk5, aN, (by exact ⟨by omega, by (have := Sp.free_len xs z4.ids; omega), by (rw [Sp.l12Free_succ hz4, ← hxs])⟩)⟩
  intro hc3'
  try simp only [nrm] at hc3'
  refine W_exit (N_K_exit (N_LP_exit (N_B_same (N_K (q2 (mV Z (aG Z (q3 (W_ret (rt1 results173 Z ?_))))))))))
  obtain rfl : k = list.length := by omega
  rw [List.take_length] at hxs
  subst hxs
  exact H.retO (k := 0) rfl (AccOf.mk (by assumption) hchk2_0) (acc_nd _ _ _ _ _)
theorem SnapBack_c (w0 : World) (G0 : PH) (hG : PSub G0 w0) (cd : List Value) (d : BDisk) (hd : diskE G0 d cd) (name : Bs) (hname : name.length ≤ 16777216)  :
  Calls Tryz.prog 138 #[.agg cd.toArray, str name] w0 (RetO w0 G0 (fun G val r => ∃ u u1 u2, val = .tuple #[.agg #[u, u1, u2], .bool (Sp.SnapBack d name).isSome] ∧ AccOf snapE 2 81 (((Sp.SnapBack d name).map (·.snaps)).getD []) G u2 r ∧ RdH G u (((Sp.SnapBack d name).map (·.store)).getD []) ∧ RdItems G u1 (((Sp.SnapBack d name).map (·.tree)).getD []))) := by
 obtain ⟨a1, m1, c1, a1', m1', c1', a1'', m1'', c1'', rfl, hr1, hr1', hr1''⟩ := hd; have hn_hr1 := hr1.len; have hx_hr1 : _ ≤ 1099511627776 := hr1.lim; have hn_hr1q := hr1'.len; have hx_hr1q : _ ≤ 1099511627776 := hr1'.lim; have hn_hr1qq := hr1''.len; have hx_hr1qq : _ ≤ 1099511627776 := hr1''.lim
 have H := Hp.init hG
 refine calls_of_W (l := [_, str name]) func138 Z ntmps138 Z (q2 (o_box H Z Z Z ?_)); intro b2 w2 hb2 H
 refine o_alloc H zeroValue27 Z Z ?_; intro b3 w3 hb3 H
 refine aG Z (q1 (o_fieldAddr 2 runUnderlying27 Z sizeOf25 Z Z Z (o_load_B 1 H isAgg25 Z Z Z Z (mV Z (o_call call46 Z Z (l12At_c _ _ H.sub _ _ hr1'' _ hname ) ?_)))))
 rintro _ w4 ⟨rfl, ew4⟩; have H := H.step ew4; refine ⟨_, rfl, ?_⟩
 refine aG Z (q3 (W_seq (q2 (o_loadagg_B 1 H isAgg27 sizeOf27 Z Z Z Z Z (o_call call44 Z Z (DiskValid_c _ _ H.sub _ d ⟨_, _, _, _, _, _, _, _, _, Z, hr1, hr1', hr1''⟩ ) ?_)))))
 rintro _ w5 ⟨rfl, ew5⟩; have H := H.step ew5; refine ⟨_, rfl, ?_⟩
 refine o_not Z Z (mV Z ?_)
 refine R_case (t := 17) Z ?_ ?_
 ·intro hc6
  try simp only [nrm] at hc6
  refine rP Z (rP Z (o_pick_t Z Z Z (q3 (W_true Z (q2 (o_build bf27 Z Z Z (o_store_B 0 H sizeOf27 Z Z Z Z Z Z Z Z ?_))))))); intro w7 H
  refine aG Z (q3 (W_ret (N_K_ret (ret_gen (rs := [.cell 4 27, .tmp 5]) (vs := [_, _]) results138 ⟨⟨_, Z, load_blk 0 H isAgg27 sizeOf27 Z Z Z⟩, Z, trivial⟩ ?_))))
  have hN : Sp.SnapBack d name = none := by exact Sp.back_nov (by simpa using hc6)
  have H := H.addNil 81 2
  exact H.retO (k := 0) rfl (by rw [hN]; exact ⟨_, _, _, rfl, AccOf.mk rfl Chk.nil, RdS.nil _ _ _, RdS.nil _ _ _⟩) (acc_nd _ _ _ _ _)
 intro hc6'
 try simp only [nrm] at hc6'
 refine gR Z (mV Z (gR Z (o_lss Z Z Z (o_pick_f Z Z Z (q3 ?_)))))
 refine W_cond Z ?_ ?_
 ·intro hc8
  try simp only [nrm] at hc8
  refine q2 (o_build bf27 Z Z Z (o_store_B 0 H sizeOf27 Z Z Z Z Z Z Z Z ?_)); intro w9 H
  refine aG Z (q3 (W_ret (N_K_ret (ret_gen (rs := [.cell 4 27, .tmp 5]) (vs := [_, _]) results138 ⟨⟨_, Z, load_blk 0 H isAgg27 sizeOf27 Z Z Z⟩, Z, trivial⟩ ?_))))
  have hN : Sp.SnapBack d name = none := by exact Sp.back_noat (by simpa [Sp.l12At] using hc8)
  have H := H.addNil 81 2
  exact H.retO (k := 0) rfl (by rw [hN]; exact ⟨_, _, _, rfl, AccOf.mk rfl Chk.nil, RdS.nil _ _ _, RdS.nil _ _ _⟩) (acc_nd _ _ _ _ _)
 intro hc8'
 try simp only [nrm] at hc8'
 obtain ⟨i, x, ia, ib, ic, ie, ig⟩ := Sp.at_nat hc8'
 have ib : Sp.l12At d.snaps name = (i : Int) := ib
 have hat : Sp.atS d.snaps name = some i := ia
 refine W_skip (N_K (W_seq (W_drawK [0, 1] 14 H kR Z ?_))); intro w10 H; have hd10 := PLe.refl G0
 refine RD_t 0 Z kR Z (fun _ hK => v_fieldAddr 0 runUnderlying27 Z sizeOf23 Z Z) (RD_t 1 Z kR Z (fun _ hK => v_load_B 1 hK isAgg23 Z Z Z) (RD_t 2 Z kR Z (fun _ hK => v_fieldAddr 2 runUnderlying27 Z sizeOf25 Z Z) (RD_t 3 Z kR Z (fun _ hK => v_load_B 1 hK isAgg25 Z Z Z) (vM 4 Z Z ?_))))
 have hl11 := hr1''.len
 obtain ⟨b11, o11, z11, q11, ha11, hz11, hq11, hE11, hrow11, _⟩ := hr1''.at (i := i) oM
 clear hq11
 obtain ⟨a11, m11, c11, rfl, hi11, hr11⟩ := hE11; have hy_hi11 : _ ≤ 16777216 := hi11; have hn_hr11 := hr11.len; have hx_hr11 : _ ≤ 1099511627776 := hr11.lim
 refine RD_t 5 Z kR Z (fun _ hK => v_index_P (i := i) ha11 underlying25 sizeOf81 Z Z ib oM) (RD_t 6 Z kR Z (fun _ hK => v_fieldAddr 1 runUnderlying81 Z sizeOf24 Z Z) (RD_t 7 Z kR Z (fun _ hK => v_load_P hK isAgg24 Z (hrow11 1 _ Z)) ?_))
 refine RD_run [8] kR Z (RDs.cons Z ?_ RDs.nil)
 refine o_call call47 Z Z (l12Keep_c _ _ H.sub _ _ hr1 _ _ hr11 ) ?_
 rintro _ w12 ⟨G12, _, _, g12, rfl, ⟨u12_0, rfl, ⟨cs12, rfl, hchk12⟩⟩, hp12, hq12, hs12⟩
 have H := H.growO g12 hp12 hq12 hs12; obtain ⟨av12, cv12, rfl⟩ := H.accShape (k := 0) rfl
 have hr1 := hr1.up g12.le
 have hr1' := hr1'.up g12.le
 have hr1'' := hr1''.up g12.le
 have hd10 := hd10.trans g12.le
 refine ⟨_, Z, ?_⟩
 have hkl := Sp.l12Keep_len d.store z11.tree
 refine R_nil (N_DK (Kn.of' H hd10 (SubL.cons 1 Z (SubL.cons 2 Z SubL.nil))) (vM 9 Z Z (RD_t 10 Z kR Z (fun _ hK => v_extract Z Z) (RD_t 11 Z kR Z (fun _ hK => v_extract Z Z) (RD_t 12 Z kR Z (fun _ hK => v_assign Z) (RD_t 13 Z kR Z (fun _ hK => v_assign Z) (RD_done kR (N_K (W_seq (q2 (mV Z (o_not Z Z (q3 ?_)))))))))))))
 refine W_cond Z ?_ ?_
 ·intro hc13
  try simp only [nrm] at hc13
  refine q2 (o_build bf27 Z Z Z (o_store_B 1 H sizeOf27 Z Z Z Z Z Z Z Z ?_)); intro w14 H
  refine aG Z (q3 (W_ret (N_K_ret (ret_gen (rs := [.cell 4 27, .tmp 5]) (vs := [_, _]) results138 ⟨⟨_, Z, load_blk 1 H isAgg27 sizeOf27 Z Z Z⟩, Z, trivial⟩ ?_))))
  have hN : Sp.SnapBack d name = none := by (have hno : Sp.l12Keep d.store z11.tree = none := by simpa using hc13); (rw [Sp.back_eq (by simpa using hc6') hat hz11, hno]; rfl)
  have H := H.addNil 81 2
  exact H.retO (k := 0) rfl (by rw [hN]; exact ⟨_, _, _, rfl, AccOf.mk rfl Chk.nil, RdS.nil _ _ _, RdS.nil _ _ _⟩) (acc_nd _ _ _ _ _)
 intro hc13'
 try simp only [nrm] at hc13'
 refine W_skip (N_K (q2 (o_loadagg_B 2 H isAgg27 sizeOf27 Z Z Z Z Z (o_call call48 Z Z (l12Copy_c _ _ H.sub _ d ⟨_, _, _, _, _, _, _, _, _, Z, hr1, hr1', hr1''⟩ ) ?_))))
 rintro _ w15 ⟨G15, _, _, g15, rfl, ⟨u15_0, u15_1, u15_2, rfl, ⟨cs15, rfl, hchk15⟩, hr15_0, hr15_1⟩, hp15, hq15, hs15⟩
 have H := H.growO g15 hp15 hq15 hs15; obtain ⟨av15, cv15, rfl⟩ := H.accShape (k := 0) rfl
 have hr1' := hr1'.up g15.le
 have hr1'' := hr1''.up g15.le
 have hchk12 := hchk12.up g15.le
 obtain ⟨a15_0, k15_0, rfl⟩ := hr15_0.shape; have hx_hr15_0 : _ ≤ 1099511627776 := hr15_0.lim
 obtain ⟨a15_1, k15_1, rfl⟩ := hr15_1.shape; have hx_hr15_1 : _ ≤ 1099511627776 := hr15_1.lim
 refine ⟨_, Z, ?_⟩
 refine o_alloc H zeroValue27 Z Z ?_; intro b16 w16 hb16 H
 refine o_store_B 0 H sizeOf27 Z Z Z Z Z Z Z Z ?_; intro w17 H
 refine q1 (mV Z (o_fieldAddr 1 runUnderlying27 Z sizeOf24 Z Z Z (o_load_B 4 H isAgg24 Z Z Z Z ?_)))
 obtain ⟨G19, H, hsg19, hsr19⟩ := H.shut' (k := 2) rfl hchk12 aN aN
 have hr1' := hr1'.up hsg19
 have hr1'' := hr1''.up hsg19
 have hchk15 := hchk15.up hsg19
 refine o_call call173 Z Z (l12Free_c _ _ H.sub _ _ hsr19 _ _ hr1' ) ?_
 rintro _ w18 ⟨G18, v18, _, g18, rfl, ⟨cs18, rfl, hchk18⟩, hp18, hq18, hs18⟩
 have H := H.growO g18 hp18 hq18 hs18; obtain ⟨av18, cv18, rfl⟩ := H.accShape (k := 0) rfl
 have hr1'' := hr1''.up g18.le
 have hchk15 := hchk15.up g18.le
 refine ⟨_, Z, ?_⟩
 have hfl2 := Sp.l12Free_len d.tree ((Sp.l12Keep d.store z11.tree).getD [])
 refine o_fieldAddr 0 runUnderlying27 Z sizeOf23 Z Z Z (o_store_B 1 H sizeOf23 Z Z Z Z Z Z Z Z ?_); intro w20 H
 refine q1 (o_fieldAddr 2 runUnderlying27 Z sizeOf25 Z Z Z (o_load_B 4 H isAgg25 Z Z Z Z (mV Z (o_index_P i hr1'' underlying25 sizeOf81 Z Z Z ib aN ?_)))); intro b21 o21 z21 q21 hz21 hE21 hrow21
 obtain ⟨a21, m21, c21, rfl, hi21, hr21⟩ := hE21; have hy_hi21 : _ ≤ 16777216 := hi21; have hn_hr21 := hr21.len; have hx_hr21 : _ ≤ 1099511627776 := hr21.lim
 refine o_fieldAddr 1 runUnderlying81 Z sizeOf24 Z Z Z (o_load_P H isAgg24 Z Z (hrow21 1 _ Z) (o_call call49 Z Z (l5All_c _ _ H.sub _ _ hr21 ) ?_))
 rintro _ w22 ⟨G22, v22, _, g22, rfl, ⟨cs22, rfl, hchk22⟩, hp22, hq22, hs22⟩
 have H := H.growO g22 hp22 hq22 hs22; obtain ⟨av22, cv22, rfl⟩ := H.accShape (k := 0) rfl
 have hchk15 := hchk15.up g22.le
 have hchk18 := hchk18.up g22.le
 refine ⟨_, Z, ?_⟩
 refine o_fieldAddr 1 runUnderlying27 Z sizeOf24 Z Z Z (o_store_B 2 H sizeOf24 Z Z Z Z Z Z Z Z ?_); intro w23 H
 refine q1 (o_loadagg_B 2 H isAgg27 sizeOf27 Z Z Z Z Z (o_store_B 4 H sizeOf27 Z Z Z Z Z Z Z Z ?_)); intro w24 H
 refine aG Z (q3 (W_ret (ret_gen (rs := [.cell 4 27, .tmp 5]) (vs := [_, _]) results138 ⟨⟨_, Z, load_blk 4 H isAgg27 sizeOf27 Z Z Z⟩, Z, trivial⟩ ?_)))
 have hzz := Option.some.inj (hz21.symm.trans hz11); subst hzz
 obtain ⟨G526, H, hsg526, hsr526⟩ := H.shut' (k := 1) rfl hchk18 aN aN
 have hchk15 := hchk15.up hsg526
 have hchk22 := hchk22.up hsg526
 obtain ⟨G527, H, hsg527, hsr527⟩ := H.shut' (k := 0) rfl hchk22 aN aN
 have hchk15 := hchk15.up hsg527
 have hsr526 := hsr526.up hsg527
 have hY : Sp.SnapBack d name = some ⟨Sp.l12Free ((Sp.l12Keep d.store z21.tree).getD []) d.tree, z21.tree, d.snaps⟩ := by (obtain ⟨p, hp⟩ := Option.isSome_iff_exists.1 hc13'); (rw [Sp.back_eq (by simpa using hc6') hat hz21, hp]; rfl)
 exact H.retO (k := 1) rfl (by rw [hY]; exact ⟨_, _, _, rfl, AccOf.mk aN hchk15, hsr526, hsr527⟩) (acc_nd _ _ _ _ _)
theorem DiskWrite_c (w0 : World) (G0 : PH) (hG : PSub G0 w0) (cd : List Value) (d : BDisk) (hd : diskE G0 d cd) (path : Bs) (hpath : path.length ≤ 16777216) (vbytes : Value) (bytes : List (Int)) (hbytes : RdI G0 vbytes bytes)  :
  Calls Tryz.prog 22 #[.agg cd.toArray, str path, vbytes] w0 (RetO w0 G0 (fun G val r => ∃ u u1 u2, val = .tuple #[.agg #[u, u1, u2], .bool (Sp.DiskWrite d path bytes).isSome] ∧ AccOf snapE 2 81 (((Sp.DiskWrite d path bytes).map (·.snaps)).getD []) G u2 r ∧ RdH G u (((Sp.DiskWrite d path bytes).map (·.store)).getD []) ∧ RdItems G u1 (((Sp.DiskWrite d path bytes).map (·.tree)).getD []))) := by
 obtain ⟨a1, m1, c1, a1', m1', c1', a1'', m1'', c1'', rfl, hr1, hr1', hr1''⟩ := hd; have hn_hr1 := hr1.len; have hx_hr1 : _ ≤ 1099511627776 := hr1.lim; have hn_hr1q := hr1'.len; have hx_hr1q : _ ≤ 1099511627776 := hr1'.lim; have hn_hr1qq := hr1''.len; have hx_hr1qq : _ ≤ 1099511627776 := hr1''.lim
 obtain ⟨abytes, kbytes, rfl⟩ := hbytes.shape
 have hlimbytes : bytes.length ≤ 1099511627776 := hbytes.lim
 have H := Hp.init hG
 refine calls_of_W (l := [_, str path, .slice abytes bytes.length kbytes]) func22 Z ntmps22 Z (q2 (o_box H Z Z Z ?_)); intro b2 w2 hb2 H
 refine o_alloc H zeroValue27 Z Z ?_; intro b3 w3 hb3 H
 refine aG Z (q3 (W_seq (q2 (o_loadagg_B 1 H isAgg27 sizeOf27 Z Z Z Z Z (o_call call44 Z Z (DiskValid_c _ _ H.sub _ d ⟨_, _, _, _, _, _, _, _, _, Z, hr1, hr1', hr1''⟩ ) ?_)))))
 rintro _ w4 ⟨rfl, ew4⟩; have H := H.step ew4; refine ⟨_, rfl, ?_⟩
 refine o_not Z Z (mV Z ?_)
 refine R_case (t := 14) Z ?_ ?_
 ·intro hc5
  try simp only [nrm] at hc5
  refine rP Z (rP Z (rP Z (o_pick_t Z Z Z (q3 (W_true Z (q2 (o_build bf27 Z Z Z (o_store_B 0 H sizeOf27 Z Z Z Z Z Z Z Z ?_)))))))); intro w6 H
  refine aG Z (q3 (W_ret (N_K_ret (ret_gen (rs := [.cell 6 27, .tmp 7]) (vs := [_, _]) results22 ⟨⟨_, Z, load_blk 0 H isAgg27 sizeOf27 Z Z Z⟩, Z, trivial⟩ ?_))))
  have hN : Sp.DiskWrite d path bytes = none := by simp [Sp.DiskWrite, hc5]
  have H := H.addNil 81 2
  exact H.retO (k := 0) rfl (by rw [hN]; exact ⟨_, _, _, rfl, AccOf.mk rfl Chk.nil, RdS.nil _ _ _, RdS.nil _ _ _⟩) (acc_nd _ _ _ _ _)
 intro hc5'
 try simp only [nrm] at hc5'
 refine gR Z (mV Z (gR Z (o_call call63 Z Z (FileValid_c _ _ H.sub _ _ hbytes ) ?_)))
 rintro _ w7 ⟨rfl, ew7⟩; have H := H.step ew7; refine ⟨_, rfl, ?_⟩
 refine gR Z (o_not Z Z (o_pick_f Z Z Z (q3 ?_)))
 refine W_cond Z ?_ ?_
 ·intro hc8
  try simp only [nrm] at hc8
  refine q2 (o_build bf27 Z Z Z (o_store_B 0 H sizeOf27 Z Z Z Z Z Z Z Z ?_)); intro w9 H
  refine aG Z (q3 (W_ret (N_K_ret (ret_gen (rs := [.cell 6 27, .tmp 7]) (vs := [_, _]) results22 ⟨⟨_, Z, load_blk 0 H isAgg27 sizeOf27 Z Z Z⟩, Z, trivial⟩ ?_))))
  have hN : Sp.DiskWrite d path bytes = none := by simp [Sp.DiskWrite, hc8]
  have H := H.addNil 81 2
  exact H.retO (k := 0) rfl (by rw [hN]; exact ⟨_, _, _, rfl, AccOf.mk rfl Chk.nil, RdS.nil _ _ _, RdS.nil _ _ _⟩) (acc_nd _ _ _ _ _)
 intro hc8'
 try simp only [nrm] at hc8'
 have hfl := Sp.file_len hc8'
 refine W_skip (N_K (q2 (o_fieldAddr 0 runUnderlying27 Z sizeOf23 Z Z Z (o_load_B 1 H isAgg23 Z Z Z Z (o_fieldAddr 1 runUnderlying27 Z sizeOf24 Z Z Z (o_load_B 1 H isAgg24 Z Z Z Z (o_build bf47 Z Z Z (mV Z (mV Z (o_call call64 Z Z (l11Write_c _ _ H.sub _ ⟨d.store, d.tree⟩ ⟨_, _, _, _, _, _, Z, hr1, hr1'⟩ _ hpath _ _ hbytes oM) ?_))))))))))
 rintro _ w10 ⟨G10, _, _, g10, rfl, ⟨u10_0, u10_1, rfl, ⟨cs10, rfl, hchk10⟩, hr10_1⟩, hp10, hq10, hs10⟩
 have H := H.growO g10 hp10 hq10 hs10; obtain ⟨av10, cv10, rfl⟩ := H.accShape (k := 0) rfl
 have hr1 := hr1.up g10.le
 have hr1' := hr1'.up g10.le
 have hr1'' := hr1''.up g10.le
 obtain ⟨a10_1, k10_1, rfl⟩ := hr10_1.shape; have hx_hr10_1 : _ ≤ 1099511627776 := hr10_1.lim
 refine ⟨_, Z, ?_⟩
 have hwl := Sp.l11Write_slen ⟨d.store, d.tree⟩ path bytes
 refine mV Z (o_extract Z Z Z (o_extract Z Z Z (o_alloc H zeroValue47 Z Z ?_))); intro b11 w11 hb11 H
 refine o_store_B 0 H sizeOf47 Z Z Z Z Z Z Z Z ?_; intro w12 H
 refine aG Z (q3 (W_seq (q2 (mV Z (o_not Z Z (q3 ?_))))))
 refine W_cond Z ?_ ?_
 ·intro hc13
  try simp only [nrm] at hc13
  refine q2 (o_build bf27 Z Z Z (o_store_B 2 H sizeOf27 Z Z Z Z Z Z Z Z ?_)); intro w14 H
  refine aG Z (q3 (W_ret (N_K_ret (ret_gen (rs := [.cell 6 27, .tmp 7]) (vs := [_, _]) results22 ⟨⟨_, Z, load_blk 2 H isAgg27 sizeOf27 Z Z Z⟩, Z, trivial⟩ ?_))))
  have hN : Sp.DiskWrite d path bytes = none := by (have hno : Sp.l11Write ⟨d.store, d.tree⟩ path bytes = none := by simpa using hc13); simp [Sp.DiskWrite, hno]
  have H := H.addNil 81 2
  exact H.retO (k := 0) rfl (by rw [hN]; exact ⟨_, _, _, rfl, AccOf.mk rfl Chk.nil, RdS.nil _ _ _, RdS.nil _ _ _⟩) (acc_nd _ _ _ _ _)
 intro hc13'
 try simp only [nrm] at hc13'
 refine W_skip (N_K (q2 (o_loadagg_B 3 H isAgg27 sizeOf27 Z Z Z Z Z (o_call call48 Z Z (l12Copy_c _ _ H.sub _ d ⟨_, _, _, _, _, _, _, _, _, Z, hr1, hr1', hr1''⟩ ) ?_))))
 rintro _ w15 ⟨G15, _, _, g15, rfl, ⟨u15_0, u15_1, u15_2, rfl, ⟨cs15, rfl, hchk15⟩, hr15_0, hr15_1⟩, hp15, hq15, hs15⟩
 have H := H.growO g15 hp15 hq15 hs15; obtain ⟨av15, cv15, rfl⟩ := H.accShape (k := 0) rfl
 have hchk10 := hchk10.up g15.le
 have hr10_1 := hr10_1.up g15.le
 obtain ⟨a15_0, k15_0, rfl⟩ := hr15_0.shape; have hx_hr15_0 : _ ≤ 1099511627776 := hr15_0.lim
 obtain ⟨a15_1, k15_1, rfl⟩ := hr15_1.shape; have hx_hr15_1 : _ ≤ 1099511627776 := hr15_1.lim
 refine ⟨_, Z, ?_⟩
 refine o_alloc H zeroValue27 Z Z ?_; intro b16 w16 hb16 H
 refine o_store_B 0 H sizeOf27 Z Z Z Z Z Z Z Z ?_; intro w17 H
 refine q1 (o_fieldAddr 0 runUnderlying47 Z sizeOf23 Z Z Z (o_load_B 2 H isAgg23 Z Z Z Z (o_fieldAddr 0 runUnderlying27 Z sizeOf23 Z Z Z (o_store_B 0 H sizeOf23 Z Z Z Z Z Z Z Z ?_)))); intro w18 H
 refine q1 (o_fieldAddr 1 runUnderlying47 Z sizeOf24 Z Z Z (o_load_B 2 H isAgg24 Z Z Z Z (o_fieldAddr 1 runUnderlying27 Z sizeOf24 Z Z Z (o_store_B 0 H sizeOf24 Z Z Z Z Z Z Z Z ?_)))); intro w19 H
 refine q1 (o_loadagg_B 0 H isAgg27 sizeOf27 Z Z Z Z Z (o_store_B 4 H sizeOf27 Z Z Z Z Z Z Z Z ?_)); intro w20 H
 refine aG Z (q3 (W_ret (ret_gen (rs := [.cell 6 27, .tmp 7]) (vs := [_, _]) results22 ⟨⟨_, Z, load_blk 4 H isAgg27 sizeOf27 Z Z Z⟩, Z, trivial⟩ ?_)))
 obtain ⟨G524, H, hsg524, hsr524⟩ := H.shut' (k := 3) rfl hchk10 aN aN
 have hr10_1 := hr10_1.up hsg524
 have hchk15 := hchk15.up hsg524
 have hY : Sp.DiskWrite d path bytes = some ⟨((Sp.l11Write ⟨d.store, d.tree⟩ path bytes).map (·.store)).getD [], ((Sp.l11Write ⟨d.store, d.tree⟩ path bytes).map (·.tree)).getD [], d.snaps⟩ := by (obtain ⟨p, hp⟩ := Option.isSome_iff_exists.1 hc13'); simp [Sp.DiskWrite, hc5', hc8', hp]
 exact H.retO (k := 1) rfl (by rw [hY]; exact ⟨_, _, _, rfl, AccOf.mk aN hchk15, hsr524, hr10_1⟩) (acc_nd _ _ _ _ _)
end Go.Proofs.Tst

namespace Go.Proofs.Tst
open Go Fw Tryz
theorem SnapBackP_c (w0 : World) (G0 : PH) (hG : PSub G0 w0) (cd : List Value) (d : BDisk) (hd : diskE G0 d cd) (name : Bs) (hname : name.length ≤ 16777216) :
  Calls Tryz.prog 138 #[.agg cd.toArray, str name] w0 (RetP w0 G0 (fun G val => ∃ cs, val = .tuple #[.agg cs.toArray, .bool (Sp.SnapBack d name).isSome] ∧ diskE G ((Sp.SnapBack d name).getD ⟨[], [], []⟩) cs)) := by
 refine (SnapBack_c w0 G0 hG cd d hd name hname).mono ?_
 rintro _ w' ⟨G, v, r, g, rfl, ⟨u, u1, u2, rfl, ⟨cells, rfl, hchk⟩, h1, h2⟩, hp, hq, hs⟩
 have H := (Hp.init hG).growO g hp hq hs
 have hb : (((Sp.SnapBack d name).map (·.snaps)).getD []).length ≤ 6 := Sp.dk_lim (fun d1 h => Sp.back_valid h)
 obtain ⟨G2, H2, hle, hr⟩ := H.shut' (k := 0) rfl hchk rfl oM
 have e1 : ((Sp.SnapBack d name).map (·.store)).getD [] = ((Sp.SnapBack d name).getD ⟨[], [], []⟩).store := by cases Sp.SnapBack d name <;> rfl
 have e2 : ((Sp.SnapBack d name).map (·.tree)).getD [] = ((Sp.SnapBack d name).getD ⟨[], [], []⟩).tree := by cases Sp.SnapBack d name <;> rfl
 have e3 : ((Sp.SnapBack d name).map (·.snaps)).getD [] = ((Sp.SnapBack d name).getD ⟨[], [], []⟩).snaps := by cases Sp.SnapBack d name <;> rfl
 rw [e1] at h1; rw [e2] at h2; rw [e3] at hr
 obtain ⟨a1, c1, rfl⟩ := h1.shape
 obtain ⟨a2, c2, rfl⟩ := h2.shape
 obtain ⟨a3, c3, rfl⟩ := hr.shape
 exact H2.retP ⟨[_, _, _], Z, _, _, _, _, _, _, _, _, _, Z, h1.up hle, h2.up hle, hr⟩
theorem DiskWriteP_c (w0 : World) (G0 : PH) (hG : PSub G0 w0) (cd : List Value) (d : BDisk) (hd : diskE G0 d cd) (path : Bs) (hpath : path.length ≤ 16777216) (vbytes : Value) (bytes : List Int) (hbytes : RdI G0 vbytes bytes) :
  Calls Tryz.prog 22 #[.agg cd.toArray, str path, vbytes] w0 (RetP w0 G0 (fun G val => ∃ cs, val = .tuple #[.agg cs.toArray, .bool (Sp.DiskWrite d path bytes).isSome] ∧ diskE G ((Sp.DiskWrite d path bytes).getD ⟨[], [], []⟩) cs)) := by
 refine (DiskWrite_c w0 G0 hG cd d hd path hpath vbytes bytes hbytes).mono ?_
 rintro _ w' ⟨G, v, r, g, rfl, ⟨u, u1, u2, rfl, ⟨cells, rfl, hchk⟩, h1, h2⟩, hp, hq, hs⟩
 have H := (Hp.init hG).growO g hp hq hs
 have hb : (((Sp.DiskWrite d path bytes).map (·.snaps)).getD []).length ≤ 6 := Sp.dk_lim (fun d1 h => Sp.dwrite_valid h)
 obtain ⟨G2, H2, hle, hr⟩ := H.shut' (k := 0) rfl hchk rfl oM
 have e1 : ((Sp.DiskWrite d path bytes).map (·.store)).getD [] = ((Sp.DiskWrite d path bytes).getD ⟨[], [], []⟩).store := by cases Sp.DiskWrite d path bytes <;> rfl
 have e2 : ((Sp.DiskWrite d path bytes).map (·.tree)).getD [] = ((Sp.DiskWrite d path bytes).getD ⟨[], [], []⟩).tree := by cases Sp.DiskWrite d path bytes <;> rfl
 have e3 : ((Sp.DiskWrite d path bytes).map (·.snaps)).getD [] = ((Sp.DiskWrite d path bytes).getD ⟨[], [], []⟩).snaps := by cases Sp.DiskWrite d path bytes <;> rfl
 rw [e1] at h1; rw [e2] at h2; rw [e3] at hr
 obtain ⟨a1, c1, rfl⟩ := h1.shape
 obtain ⟨a2, c2, rfl⟩ := h2.shape
 obtain ⟨a3, c3, rfl⟩ := hr.shape
 exact H2.retP ⟨[_, _, _], Z, _, _, _, _, _, _, _, _, _, Z, h1.up hle, h2.up hle, hr⟩
end Go.Proofs.Tst

namespace Go.Proofs.Tst
open Go Fw Tryz
theorem l91Turn_c (w0 : World) (G0 : PH) (hG : PSub G0 w0) (rb : Nat) (ab : Option Addr) (mb kb : Nat) (bs : List UInt8) (p : Nat) (hbs : RdU G0 (.slice ab mb kb) bs) (hrb : w0.heap[rb]? = some (cl [.slice ab mb kb, .int .i64 (p : Int)] 118)) (hrn : G0 rb = none) (hp : p ≤ 100000000) (cd : List Value) (d : BDisk) (hd : diskE G0 d cd)  :
  Calls Tryz.prog 88 #[.pointer (some ⟨rb, 0, none⟩), .agg cd.toArray] w0 (RetM w0 G0 [rb] (fun G val Bs => ∃ (p' : Nat) (v1 v2 v3 : Value) (st : List BHeld) (tr : List BItem) (sn : List BSnap) (b : Bool), p' ≤ p + 200 ∧ val = .tuple #[.agg #[v1, v2, v3], .bool b] ∧ RdH G v1 st ∧ RdItems G v2 tr ∧ RdSn G v3 sn ∧ Bs = [blk rb (cl [.slice ab mb kb, .int .i64 (p' : Int)] 118)])) := by
 have hlimbs : bs.length ≤ 1099511627776 := hbs.lim; obtain rfl : mb = bs.length := hbs.len
 obtain ⟨a1, m1, c1, a1', m1', c1', a1'', m1'', c1'', rfl, hr1, hr1', hr1''⟩ := hd; have hn_hr1 := hr1.len; have hx_hr1 : _ ≤ 1099511627776 := hr1.lim; have hn_hr1q := hr1'.len; have hx_hr1q : _ ≤ 1099511627776 := hr1'.lim; have hn_hr1qq := hr1''.len; have hx_hr1qq : _ ≤ 1099511627776 := hr1''.lim
 have H := Hp.initM hG hrb hrn
 refine calls_of_W (l := [.pointer (some ⟨rb, 0, none⟩), _]) func88 Z ntmps88 Z (q2 (o_box H Z Z Z ?_)); intro b2 w2 hb2 H
 refine o_alloc H zeroValue27 Z Z ?_; intro b3 w3 hb3 H
 refine aG Z (q3 (W_seq (q2 (mV Z (o_call call38 Z Z (pick_c _ _ H.sub _ _ _ _ _ _ hbs (H.blkIs (k := 2) Z).1 (H.blkIs (k := 2) Z).2 oM _ oO ) ?_)))))
 rintro _ w4 ⟨G4, _, _, rfl, H4', ⟨p4, x4, hp4, rfl, hxb4, rfl⟩⟩
 have hbs := hbs.up H4'.le
 have hr1 := hr1.up H4'.le
 have hr1' := hr1'.up H4'.le
 have hr1'' := hr1''.up H4'.le
 have H := H.borrow (k := 2) rfl H4'
 refine ⟨_, Z, ?_⟩
 refine q3 (W_block (W_seq (q2 (o_eql Z Z Z (aG Z (q3 ?_))))))
 refine W_cond Z ?_ ?_
 ·intro hc5
  try simp only [nrm] at hc5
  refine W_skip (N_K ?_)
  refine W_cond Z ?_ ?_
  ·intro hc6
   try simp only [nrm] at hc6
   refine W_seq (W_drawK [2] 9 H kR Z ?_); intro w7 H; have hd7 := PLe.refl G4
   refine RD_t 0 Z kR Z (fun _ hK => v_loadagg_B 0 hK isAgg27 sizeOf27 Z Z Z Z) (vM 1 Z Z ?_)
   refine RD_run [2] kR Z (RDs.cons Z ?_ RDs.nil)
   refine o_buildSlice H underlying69 sizeOf9 (fun w => ⟨_, zeroValue9 w, Z⟩) Z Z Z Z Z Z Z ?_; intro b8 w8 hb8 H
   refine R_nil (N_DK (Kn.of' H hd7 (SubL.cons 3 Z SubL.nil)) ?_)
   refine RD_run [3] kR Z (RDs.cons Z ?_ RDs.nil)
   have H := H.blkAcc 1 (k := 0) (n := 3) rfl rfl (by decide)
   have hchk10 := ((((Chk.nil (E := strE) (sz := 1) (G := G4)).snoc (show strE _ ([115] : Fw.Bs) [str [115]] from ⟨rfl, by decide⟩) rfl).snoc (show strE _ ([116] : Fw.Bs) [str [116]] from ⟨rfl, by decide⟩) rfl).snoc (show strE _ ([117] : Fw.Bs) [str [117]] from ⟨rfl, by decide⟩) rfl)
   obtain ⟨G11, H, hsg11, hsr11⟩ := H.shutM (k := 0) (j := 0) rfl rfl hchk10 aN aN
   have hbs := hbs.up hsg11
   have hr1 := hr1.up hsg11
   have hr1' := hr1'.up hsg11
   have hr1'' := hr1''.up hsg11
   have hd7 := hd7.trans hsg11
   refine o_call call39 Z Z (of_c _ _ H.sub _ _ _ _ _ _ hbs (H.blkIs (k := 0) Z).1 (H.blkIs (k := 0) Z).2 oM _ _ hsr11 (by first | decide | (simp; done) | (simp; omega))) ?_
   rintro _ w9 ⟨G9, _, _, rfl, H9', ⟨p9, x9, hp9, rfl, hxs9, rfl⟩⟩
   have hr1 := hr1.up H9'.le
   have hr1' := hr1'.up H9'.le
   have hr1'' := hr1''.up H9'.le
   have hd7 := hd7.trans H9'.le
   have H := H.borrow (k := 0) rfl H9'
   refine ⟨_, Z, ?_⟩
   refine R_nil (N_DK (Kn.of' H hd7 (SubL.cons 2 Z SubL.nil)) ?_)
   refine RD_run [4] kR Z (RDs.cons Z ?_ RDs.nil)
   refine o_call call12 Z Z (SnapTakeP_c _ _ H.sub _ d ⟨_, _, _, _, _, _, _, _, _, Z, hr1, hr1', hr1''⟩ _ hxs9 ) ?_
   rintro _ w12 ⟨G12, _, g12, rfl, u12_0, rfl, hr12_0⟩
   have H := H.grow g12
   have hd7 := hd7.trans g12.le
   obtain ⟨a13, m13, c13, a13', m13', c13', a13'', m13'', c13'', rfl, hr13, hr13', hr13''⟩ := hr12_0; have hn_hr13 := hr13.len; have hx_hr13 : _ ≤ 1099511627776 := hr13.lim; have hn_hr13q := hr13'.len; have hx_hr13q : _ ≤ 1099511627776 := hr13'.lim; have hn_hr13qq := hr13''.len; have hx_hr13qq : _ ≤ 1099511627776 := hr13''.lim
   refine ⟨_, Z, ?_⟩
   refine R_nil (N_DK (Kn.of' H hd7 (SubL.cons 2 Z SubL.nil)) (RD_t 5 Z kR Z (fun _ hK => v_extract Z Z) (RD_t 6 Z kR Z (fun _ hK => v_extract Z Z) ?_)))
   refine RD_run [7] kR Z (RDs.cons Z ?_ RDs.nil)
   refine o_store_B 1 H sizeOf27 Z Z Z Z Z Z Z Z ?_; intro w14 H
   refine R_nil (N_DK (Kn.of' H hd7 (SubL.cons 2 Z SubL.nil)) (RD_t 8 Z kR Z (fun _ hK => v_assign Z) (RD_done kR (N_K (W_ret (N_B_ret (N_K_ret (ret_gen (rs := [.cell 4 27, .tmp 5]) (vs := [_, _]) results88 ⟨⟨_, Z, load_blk 1 H isAgg27 sizeOf27 Z Z Z⟩, Z, trivial⟩ ?_))))))))
   have H := H.del (k := 1) rfl
   have H := H.del (k := 1) rfl
   exact H.retM ⟨_, _, _, _, _, _, _, _, oM, Z, hr13, hr13', hr13'', Z⟩
  intro hc6'
  try simp only [nrm] at hc6'
  refine q2 (o_eql Z Z Z (aG Z (q3 ?_)))
  refine W_cond Z ?_ ?_
  ·intro hc15
   try simp only [nrm] at hc15
   refine W_seq (W_drawK [2] 9 H kR Z ?_); intro w16 H; have hd16 := PLe.refl G4
   refine RD_t 0 Z kR Z (fun _ hK => v_loadagg_B 0 hK isAgg27 sizeOf27 Z Z Z Z) (vM 1 Z Z ?_)
   refine RD_run [2] kR Z (RDs.cons Z ?_ RDs.nil)
   refine o_buildSlice H underlying69 sizeOf9 (fun w => ⟨_, zeroValue9 w, Z⟩) Z Z Z Z Z Z Z ?_; intro b17 w17 hb17 H
   refine R_nil (N_DK (Kn.of' H hd16 (SubL.cons 3 Z SubL.nil)) ?_)
   refine RD_run [3] kR Z (RDs.cons Z ?_ RDs.nil)
   have H := H.blkAcc 1 (k := 0) (n := 2) rfl rfl (by decide)
   have hchk19 := (((Chk.nil (E := strE) (sz := 1) (G := G4)).snoc (show strE _ ([115] : Fw.Bs) [str [115]] from ⟨rfl, by decide⟩) rfl).snoc (show strE _ ([116] : Fw.Bs) [str [116]] from ⟨rfl, by decide⟩) rfl)
   obtain ⟨G20, H, hsg20, hsr20⟩ := H.shutM (k := 0) (j := 0) rfl rfl hchk19 aN aN
   have hbs := hbs.up hsg20
   have hr1 := hr1.up hsg20
   have hr1' := hr1'.up hsg20
   have hr1'' := hr1''.up hsg20
   have hd16 := hd16.trans hsg20
   refine o_call call39 Z Z (of_c _ _ H.sub _ _ _ _ _ _ hbs (H.blkIs (k := 0) Z).1 (H.blkIs (k := 0) Z).2 oM _ _ hsr20 (by first | decide | (simp; done) | (simp; omega))) ?_
   rintro _ w18 ⟨G18, _, _, rfl, H18', ⟨p18, x18, hp18, rfl, hxs18, rfl⟩⟩
   have hr1 := hr1.up H18'.le
   have hr1' := hr1'.up H18'.le
   have hr1'' := hr1''.up H18'.le
   have hd16 := hd16.trans H18'.le
   have H := H.borrow (k := 0) rfl H18'
   refine ⟨_, Z, ?_⟩
   refine R_nil (N_DK (Kn.of' H hd16 (SubL.cons 2 Z SubL.nil)) ?_)
   refine RD_run [4] kR Z (RDs.cons Z ?_ RDs.nil)
   refine o_call call138 Z Z (SnapBackP_c _ _ H.sub _ d ⟨_, _, _, _, _, _, _, _, _, Z, hr1, hr1', hr1''⟩ _ hxs18 ) ?_
   rintro _ w21 ⟨G21, _, g21, rfl, u21_0, rfl, hr21_0⟩
   have H := H.grow g21
   have hd16 := hd16.trans g21.le
   obtain ⟨a22, m22, c22, a22', m22', c22', a22'', m22'', c22'', rfl, hr22, hr22', hr22''⟩ := hr21_0; have hn_hr22 := hr22.len; have hx_hr22 : _ ≤ 1099511627776 := hr22.lim; have hn_hr22q := hr22'.len; have hx_hr22q : _ ≤ 1099511627776 := hr22'.lim; have hn_hr22qq := hr22''.len; have hx_hr22qq : _ ≤ 1099511627776 := hr22''.lim
   refine ⟨_, Z, ?_⟩
   refine R_nil (N_DK (Kn.of' H hd16 (SubL.cons 2 Z SubL.nil)) (RD_t 5 Z kR Z (fun _ hK => v_extract Z Z) (RD_t 6 Z kR Z (fun _ hK => v_extract Z Z) ?_)))
   refine RD_run [7] kR Z (RDs.cons Z ?_ RDs.nil)
   refine o_store_B 1 H sizeOf27 Z Z Z Z Z Z Z Z ?_; intro w23 H
   refine R_nil (N_DK (Kn.of' H hd16 (SubL.cons 2 Z SubL.nil)) (RD_t 8 Z kR Z (fun _ hK => v_assign Z) (RD_done kR (N_K (W_ret (N_B_ret (N_K_ret (ret_gen (rs := [.cell 4 27, .tmp 5]) (vs := [_, _]) results88 ⟨⟨_, Z, load_blk 1 H isAgg27 sizeOf27 Z Z Z⟩, Z, trivial⟩ ?_))))))))
   have H := H.del (k := 1) rfl
   have H := H.del (k := 1) rfl
   exact H.retM ⟨_, _, _, _, _, _, _, _, oM, Z, hr22, hr22', hr22'', Z⟩
  intro hc15'
  try simp only [nrm] at hc15'
  refine W_skip (N_B (N_K (q2 (mV Z (o_buildSlice H underlying69 sizeOf9 (fun w => ⟨_, zeroValue9 w, Z⟩) Z Z Z Z Z Z Z ?_))))); intro b24 w24 hb24 H
  have H := H.blkAcc 1 (k := 0) (n := 5) rfl rfl (by decide)
  have hchk26 := ((((((Chk.nil (E := strE) (sz := 1) (G := G4)).snoc (show strE _ ([99] : Fw.Bs) [str [99]] from ⟨rfl, by decide⟩) rfl).snoc (show strE _ ([97, 47, 121] : Fw.Bs) [str [97, 47, 121]] from ⟨rfl, by decide⟩) rfl).snoc (show strE _ ([98, 47, 120] : Fw.Bs) [str [98, 47, 120]] from ⟨rfl, by decide⟩) rfl).snoc (show strE _ ([97, 47, 120, 47, 112] : Fw.Bs) [str [97, 47, 120, 47, 112]] from ⟨rfl, by decide⟩) rfl).snoc (show strE _ ([100] : Fw.Bs) [str [100]] from ⟨rfl, by decide⟩) rfl)
  obtain ⟨G27, H, hsg27, hsr27⟩ := H.shutM (k := 0) (j := 0) rfl rfl hchk26 aN aN
  have hbs := hbs.up hsg27
  have hr1 := hr1.up hsg27
  have hr1' := hr1'.up hsg27
  have hr1'' := hr1''.up hsg27
  refine o_call call39 Z Z (of_c _ _ H.sub _ _ _ _ _ _ hbs (H.blkIs (k := 0) Z).1 (H.blkIs (k := 0) Z).2 oM _ _ hsr27 (by first | decide | (simp; done) | (simp; omega))) ?_
  rintro _ w25 ⟨G25, _, _, rfl, H25', ⟨p25, x25, hp25, rfl, hxs25, rfl⟩⟩
  have hbs := hbs.up H25'.le
  have hr1 := hr1.up H25'.le
  have hr1' := hr1'.up H25'.le
  have hr1'' := hr1''.up H25'.le
  have H := H.borrow (k := 0) rfl H25'
  refine ⟨_, Z, ?_⟩
  refine aG Z (q3 (W_seq (W_drawK [2] 9 H kR Z ?_))); intro w28 H; have hd28 := PLe.refl G25
  refine RD_t 0 Z kR Z (fun _ hK => v_loadagg_B 0 hK isAgg27 sizeOf27 Z Z Z Z) (vM 1 Z Z (vM 2 Z Z ?_))
  refine RD_run [3] kR Z (RDs.cons Z ?_ RDs.nil)
  refine o_call call60 Z Z (l91File_c _ _ H.sub _ _ _ _ _ _ hbs (H.blkIs (k := 0) Z).1 (H.blkIs (k := 0) Z).2 oM ) ?_
  rintro _ w29 ⟨G29, _, _, rfl, H29', ⟨p29, x29, v29, c29, hp29, rfl, hchk29, hxl29, rfl⟩⟩
  have hr1 := hr1.up H29'.le
  have hr1' := hr1'.up H29'.le
  have hr1'' := hr1''.up H29'.le
  have hd28 := hd28.trans H29'.le
  have H := H.borrow (k := 0) rfl H29'
  obtain ⟨av29, cv29, rfl⟩ := H.accShape (k := 0) rfl
  refine ⟨_, Z, ?_⟩
  refine R_nil (N_DK (Kn.of' H hd28 (SubL.cons 3 Z SubL.nil)) ?_)
  refine RD_run [4] kR Z (RDs.cons Z ?_ RDs.nil)
  obtain ⟨G31, H, hsg31, hsr31⟩ := H.shutM (k := 0) (j := 0) rfl rfl hchk29 aN aN
  have hr1 := hr1.up hsg31
  have hr1' := hr1'.up hsg31
  have hr1'' := hr1''.up hsg31
  have hd28 := hd28.trans hsg31
  refine o_call call22 Z Z (DiskWriteP_c _ _ H.sub _ d ⟨_, _, _, _, _, _, _, _, _, Z, hr1, hr1', hr1''⟩ _ hxs25 _ _ hsr31 ) ?_
  rintro _ w30 ⟨G30, _, g30, rfl, u30_0, rfl, hr30_0⟩
  have H := H.grow g30
  have hd28 := hd28.trans g30.le
  obtain ⟨a32, m32, c32, a32', m32', c32', a32'', m32'', c32'', rfl, hr32, hr32', hr32''⟩ := hr30_0; have hn_hr32 := hr32.len; have hx_hr32 : _ ≤ 1099511627776 := hr32.lim; have hn_hr32q := hr32'.len; have hx_hr32q : _ ≤ 1099511627776 := hr32'.lim; have hn_hr32qq := hr32''.len; have hx_hr32qq : _ ≤ 1099511627776 := hr32''.lim
  refine ⟨_, Z, ?_⟩
  refine R_nil (N_DK (Kn.of' H hd28 (SubL.cons 2 Z SubL.nil)) (RD_t 5 Z kR Z (fun _ hK => v_extract Z Z) (RD_t 6 Z kR Z (fun _ hK => v_extract Z Z) ?_)))
  refine RD_run [7] kR Z (RDs.cons Z ?_ RDs.nil)
  refine o_store_B 1 H sizeOf27 Z Z Z Z Z Z Z Z ?_; intro w33 H
  refine R_nil (N_DK (Kn.of' H hd28 (SubL.cons 2 Z SubL.nil)) (RD_t 8 Z kR Z (fun _ hK => v_assign Z) (RD_done kR (N_K (W_ret (ret_gen (rs := [.cell 4 27, .tmp 5]) (vs := [_, _]) results88 ⟨⟨_, Z, load_blk 1 H isAgg27 sizeOf27 Z Z Z⟩, Z, trivial⟩ ?_))))))
  have H := H.del (k := 1) rfl
  have H := H.del (k := 1) rfl
  exact H.retM ⟨_, _, _, _, _, _, _, _, oM, Z, hr32, hr32', hr32'', Z⟩
 intro hc5'
 try simp only [nrm] at hc5'
 refine q2 (o_eql Z Z Z (aG Z (q3 ?_)))
 refine W_cond Z ?_ ?_
 ·intro hc34
  try simp only [nrm] at hc34
  refine W_skip (N_K ?_)
  refine W_cond Z ?_ ?_
  ·intro hc35
   try simp only [nrm] at hc35
   refine W_seq (W_drawK [2] 9 H kR Z ?_); intro w36 H; have hd36 := PLe.refl G4
   refine RD_t 0 Z kR Z (fun _ hK => v_loadagg_B 0 hK isAgg27 sizeOf27 Z Z Z Z) (vM 1 Z Z ?_)
   refine RD_run [2] kR Z (RDs.cons Z ?_ RDs.nil)
   refine o_buildSlice H underlying69 sizeOf9 (fun w => ⟨_, zeroValue9 w, Z⟩) Z Z Z Z Z Z Z ?_; intro b37 w37 hb37 H
   refine R_nil (N_DK (Kn.of' H hd36 (SubL.cons 3 Z SubL.nil)) ?_)
   refine RD_run [3] kR Z (RDs.cons Z ?_ RDs.nil)
   have H := H.blkAcc 1 (k := 0) (n := 3) rfl rfl (by decide)
   have hchk39 := ((((Chk.nil (E := strE) (sz := 1) (G := G4)).snoc (show strE _ ([115] : Fw.Bs) [str [115]] from ⟨rfl, by decide⟩) rfl).snoc (show strE _ ([116] : Fw.Bs) [str [116]] from ⟨rfl, by decide⟩) rfl).snoc (show strE _ ([117] : Fw.Bs) [str [117]] from ⟨rfl, by decide⟩) rfl)
   obtain ⟨G40, H, hsg40, hsr40⟩ := H.shutM (k := 0) (j := 0) rfl rfl hchk39 aN aN
   have hbs := hbs.up hsg40
   have hr1 := hr1.up hsg40
   have hr1' := hr1'.up hsg40
   have hr1'' := hr1''.up hsg40
   have hd36 := hd36.trans hsg40
   refine o_call call39 Z Z (of_c _ _ H.sub _ _ _ _ _ _ hbs (H.blkIs (k := 0) Z).1 (H.blkIs (k := 0) Z).2 oM _ _ hsr40 (by first | decide | (simp; done) | (simp; omega))) ?_
   rintro _ w38 ⟨G38, _, _, rfl, H38', ⟨p38, x38, hp38, rfl, hxs38, rfl⟩⟩
   have hr1 := hr1.up H38'.le
   have hr1' := hr1'.up H38'.le
   have hr1'' := hr1''.up H38'.le
   have hd36 := hd36.trans H38'.le
   have H := H.borrow (k := 0) rfl H38'
   refine ⟨_, Z, ?_⟩
   refine R_nil (N_DK (Kn.of' H hd36 (SubL.cons 2 Z SubL.nil)) ?_)
   refine RD_run [4] kR Z (RDs.cons Z ?_ RDs.nil)
   refine o_call call12 Z Z (SnapTakeP_c _ _ H.sub _ d ⟨_, _, _, _, _, _, _, _, _, Z, hr1, hr1', hr1''⟩ _ hxs38 ) ?_
   rintro _ w41 ⟨G41, _, g41, rfl, u41_0, rfl, hr41_0⟩
   have H := H.grow g41
   have hd36 := hd36.trans g41.le
   obtain ⟨a42, m42, c42, a42', m42', c42', a42'', m42'', c42'', rfl, hr42, hr42', hr42''⟩ := hr41_0; have hn_hr42 := hr42.len; have hx_hr42 : _ ≤ 1099511627776 := hr42.lim; have hn_hr42q := hr42'.len; have hx_hr42q : _ ≤ 1099511627776 := hr42'.lim; have hn_hr42qq := hr42''.len; have hx_hr42qq : _ ≤ 1099511627776 := hr42''.lim
   refine ⟨_, Z, ?_⟩
   refine R_nil (N_DK (Kn.of' H hd36 (SubL.cons 2 Z SubL.nil)) (RD_t 5 Z kR Z (fun _ hK => v_extract Z Z) (RD_t 6 Z kR Z (fun _ hK => v_extract Z Z) ?_)))
   refine RD_run [7] kR Z (RDs.cons Z ?_ RDs.nil)
   refine o_store_B 1 H sizeOf27 Z Z Z Z Z Z Z Z ?_; intro w43 H
   refine R_nil (N_DK (Kn.of' H hd36 (SubL.cons 2 Z SubL.nil)) (RD_t 8 Z kR Z (fun _ hK => v_assign Z) (RD_done kR (N_K (W_ret (N_B_ret (N_K_ret (ret_gen (rs := [.cell 4 27, .tmp 5]) (vs := [_, _]) results88 ⟨⟨_, Z, load_blk 1 H isAgg27 sizeOf27 Z Z Z⟩, Z, trivial⟩ ?_))))))))
   have H := H.del (k := 1) rfl
   have H := H.del (k := 1) rfl
   exact H.retM ⟨_, _, _, _, _, _, _, _, oM, Z, hr42, hr42', hr42'', Z⟩
  intro hc35'
  try simp only [nrm] at hc35'
  refine q2 (o_eql Z Z Z (aG Z (q3 ?_)))
  refine W_cond Z ?_ ?_
  ·intro hc44
   try simp only [nrm] at hc44
   refine W_seq (W_drawK [2] 9 H kR Z ?_); intro w45 H; have hd45 := PLe.refl G4
   refine RD_t 0 Z kR Z (fun _ hK => v_loadagg_B 0 hK isAgg27 sizeOf27 Z Z Z Z) (vM 1 Z Z ?_)
   refine RD_run [2] kR Z (RDs.cons Z ?_ RDs.nil)
   refine o_buildSlice H underlying69 sizeOf9 (fun w => ⟨_, zeroValue9 w, Z⟩) Z Z Z Z Z Z Z ?_; intro b46 w46 hb46 H
   refine R_nil (N_DK (Kn.of' H hd45 (SubL.cons 3 Z SubL.nil)) ?_)
   refine RD_run [3] kR Z (RDs.cons Z ?_ RDs.nil)
   have H := H.blkAcc 1 (k := 0) (n := 2) rfl rfl (by decide)
   have hchk48 := (((Chk.nil (E := strE) (sz := 1) (G := G4)).snoc (show strE _ ([115] : Fw.Bs) [str [115]] from ⟨rfl, by decide⟩) rfl).snoc (show strE _ ([116] : Fw.Bs) [str [116]] from ⟨rfl, by decide⟩) rfl)
   obtain ⟨G49, H, hsg49, hsr49⟩ := H.shutM (k := 0) (j := 0) rfl rfl hchk48 aN aN
   have hbs := hbs.up hsg49
   have hr1 := hr1.up hsg49
   have hr1' := hr1'.up hsg49
   have hr1'' := hr1''.up hsg49
   have hd45 := hd45.trans hsg49
   refine o_call call39 Z Z (of_c _ _ H.sub _ _ _ _ _ _ hbs (H.blkIs (k := 0) Z).1 (H.blkIs (k := 0) Z).2 oM _ _ hsr49 (by first | decide | (simp; done) | (simp; omega))) ?_
   rintro _ w47 ⟨G47, _, _, rfl, H47', ⟨p47, x47, hp47, rfl, hxs47, rfl⟩⟩
   have hr1 := hr1.up H47'.le
   have hr1' := hr1'.up H47'.le
   have hr1'' := hr1''.up H47'.le
   have hd45 := hd45.trans H47'.le
   have H := H.borrow (k := 0) rfl H47'
   refine ⟨_, Z, ?_⟩
   refine R_nil (N_DK (Kn.of' H hd45 (SubL.cons 2 Z SubL.nil)) ?_)
   refine RD_run [4] kR Z (RDs.cons Z ?_ RDs.nil)
   refine o_call call138 Z Z (SnapBackP_c _ _ H.sub _ d ⟨_, _, _, _, _, _, _, _, _, Z, hr1, hr1', hr1''⟩ _ hxs47 ) ?_
   rintro _ w50 ⟨G50, _, g50, rfl, u50_0, rfl, hr50_0⟩
   have H := H.grow g50
   have hd45 := hd45.trans g50.le
   obtain ⟨a51, m51, c51, a51', m51', c51', a51'', m51'', c51'', rfl, hr51, hr51', hr51''⟩ := hr50_0; have hn_hr51 := hr51.len; have hx_hr51 : _ ≤ 1099511627776 := hr51.lim; have hn_hr51q := hr51'.len; have hx_hr51q : _ ≤ 1099511627776 := hr51'.lim; have hn_hr51qq := hr51''.len; have hx_hr51qq : _ ≤ 1099511627776 := hr51''.lim
   refine ⟨_, Z, ?_⟩
   refine R_nil (N_DK (Kn.of' H hd45 (SubL.cons 2 Z SubL.nil)) (RD_t 5 Z kR Z (fun _ hK => v_extract Z Z) (RD_t 6 Z kR Z (fun _ hK => v_extract Z Z) ?_)))
   refine RD_run [7] kR Z (RDs.cons Z ?_ RDs.nil)
   refine o_store_B 1 H sizeOf27 Z Z Z Z Z Z Z Z ?_; intro w52 H
   refine R_nil (N_DK (Kn.of' H hd45 (SubL.cons 2 Z SubL.nil)) (RD_t 8 Z kR Z (fun _ hK => v_assign Z) (RD_done kR (N_K (W_ret (N_B_ret (N_K_ret (ret_gen (rs := [.cell 4 27, .tmp 5]) (vs := [_, _]) results88 ⟨⟨_, Z, load_blk 1 H isAgg27 sizeOf27 Z Z Z⟩, Z, trivial⟩ ?_))))))))
   have H := H.del (k := 1) rfl
   have H := H.del (k := 1) rfl
   exact H.retM ⟨_, _, _, _, _, _, _, _, oM, Z, hr51, hr51', hr51'', Z⟩
  intro hc44'
  try simp only [nrm] at hc44'
  refine W_skip (N_B (N_K (q2 (mV Z (o_buildSlice H underlying69 sizeOf9 (fun w => ⟨_, zeroValue9 w, Z⟩) Z Z Z Z Z Z Z ?_))))); intro b53 w53 hb53 H
  have H := H.blkAcc 1 (k := 0) (n := 5) rfl rfl (by decide)
  have hchk55 := ((((((Chk.nil (E := strE) (sz := 1) (G := G4)).snoc (show strE _ ([99] : Fw.Bs) [str [99]] from ⟨rfl, by decide⟩) rfl).snoc (show strE _ ([97, 47, 121] : Fw.Bs) [str [97, 47, 121]] from ⟨rfl, by decide⟩) rfl).snoc (show strE _ ([98, 47, 120] : Fw.Bs) [str [98, 47, 120]] from ⟨rfl, by decide⟩) rfl).snoc (show strE _ ([97, 47, 120, 47, 112] : Fw.Bs) [str [97, 47, 120, 47, 112]] from ⟨rfl, by decide⟩) rfl).snoc (show strE _ ([100] : Fw.Bs) [str [100]] from ⟨rfl, by decide⟩) rfl)
  obtain ⟨G56, H, hsg56, hsr56⟩ := H.shutM (k := 0) (j := 0) rfl rfl hchk55 aN aN
  have hbs := hbs.up hsg56
  have hr1 := hr1.up hsg56
  have hr1' := hr1'.up hsg56
  have hr1'' := hr1''.up hsg56
  refine o_call call39 Z Z (of_c _ _ H.sub _ _ _ _ _ _ hbs (H.blkIs (k := 0) Z).1 (H.blkIs (k := 0) Z).2 oM _ _ hsr56 (by first | decide | (simp; done) | (simp; omega))) ?_
  rintro _ w54 ⟨G54, _, _, rfl, H54', ⟨p54, x54, hp54, rfl, hxs54, rfl⟩⟩
  have hbs := hbs.up H54'.le
  have hr1 := hr1.up H54'.le
  have hr1' := hr1'.up H54'.le
  have hr1'' := hr1''.up H54'.le
  have H := H.borrow (k := 0) rfl H54'
  refine ⟨_, Z, ?_⟩
  refine aG Z (q3 (W_seq (W_drawK [2] 9 H kR Z ?_))); intro w57 H; have hd57 := PLe.refl G54
  refine RD_t 0 Z kR Z (fun _ hK => v_loadagg_B 0 hK isAgg27 sizeOf27 Z Z Z Z) (vM 1 Z Z (vM 2 Z Z ?_))
  refine RD_run [3] kR Z (RDs.cons Z ?_ RDs.nil)
  refine o_call call60 Z Z (l91File_c _ _ H.sub _ _ _ _ _ _ hbs (H.blkIs (k := 0) Z).1 (H.blkIs (k := 0) Z).2 oM ) ?_
  rintro _ w58 ⟨G58, _, _, rfl, H58', ⟨p58, x58, v58, c58, hp58, rfl, hchk58, hxl58, rfl⟩⟩
  have hr1 := hr1.up H58'.le
  have hr1' := hr1'.up H58'.le
  have hr1'' := hr1''.up H58'.le
  have hd57 := hd57.trans H58'.le
  have H := H.borrow (k := 0) rfl H58'
  obtain ⟨av58, cv58, rfl⟩ := H.accShape (k := 0) rfl
  refine ⟨_, Z, ?_⟩
  refine R_nil (N_DK (Kn.of' H hd57 (SubL.cons 3 Z SubL.nil)) ?_)
  refine RD_run [4] kR Z (RDs.cons Z ?_ RDs.nil)
  obtain ⟨G60, H, hsg60, hsr60⟩ := H.shutM (k := 0) (j := 0) rfl rfl hchk58 aN aN
  have hr1 := hr1.up hsg60
  have hr1' := hr1'.up hsg60
  have hr1'' := hr1''.up hsg60
  have hd57 := hd57.trans hsg60
  refine o_call call22 Z Z (DiskWriteP_c _ _ H.sub _ d ⟨_, _, _, _, _, _, _, _, _, Z, hr1, hr1', hr1''⟩ _ hxs54 _ _ hsr60 ) ?_
  rintro _ w59 ⟨G59, _, g59, rfl, u59_0, rfl, hr59_0⟩
  have H := H.grow g59
  have hd57 := hd57.trans g59.le
  obtain ⟨a61, m61, c61, a61', m61', c61', a61'', m61'', c61'', rfl, hr61, hr61', hr61''⟩ := hr59_0; have hn_hr61 := hr61.len; have hx_hr61 : _ ≤ 1099511627776 := hr61.lim; have hn_hr61q := hr61'.len; have hx_hr61q : _ ≤ 1099511627776 := hr61'.lim; have hn_hr61qq := hr61''.len; have hx_hr61qq : _ ≤ 1099511627776 := hr61''.lim
  refine ⟨_, Z, ?_⟩
  refine R_nil (N_DK (Kn.of' H hd57 (SubL.cons 2 Z SubL.nil)) (RD_t 5 Z kR Z (fun _ hK => v_extract Z Z) (RD_t 6 Z kR Z (fun _ hK => v_extract Z Z) ?_)))
  refine RD_run [7] kR Z (RDs.cons Z ?_ RDs.nil)
  refine o_store_B 1 H sizeOf27 Z Z Z Z Z Z Z Z ?_; intro w62 H
  refine R_nil (N_DK (Kn.of' H hd57 (SubL.cons 2 Z SubL.nil)) (RD_t 8 Z kR Z (fun _ hK => v_assign Z) (RD_done kR (N_K (W_ret (ret_gen (rs := [.cell 4 27, .tmp 5]) (vs := [_, _]) results88 ⟨⟨_, Z, load_blk 1 H isAgg27 sizeOf27 Z Z Z⟩, Z, trivial⟩ ?_))))))
  have H := H.del (k := 1) rfl
  have H := H.del (k := 1) rfl
  exact H.retM ⟨_, _, _, _, _, _, _, _, oM, Z, hr61, hr61', hr61'', Z⟩
 intro hc34'
 try simp only [nrm] at hc34'
 refine W_region (o_eql Z Z Z (aG Z (q3 ?_)))
 refine W_cond Z ?_ ?_
 ·intro hc63
  try simp only [nrm] at hc63
  refine W_seq (W_drawK [2] 9 H kR Z ?_); intro w64 H; have hd64 := PLe.refl G4
  refine RD_t 0 Z kR Z (fun _ hK => v_loadagg_B 0 hK isAgg27 sizeOf27 Z Z Z Z) (vM 1 Z Z ?_)
  refine RD_run [2] kR Z (RDs.cons Z ?_ RDs.nil)
  refine o_buildSlice H underlying69 sizeOf9 (fun w => ⟨_, zeroValue9 w, Z⟩) Z Z Z Z Z Z Z ?_; intro b65 w65 hb65 H
  refine R_nil (N_DK (Kn.of' H hd64 (SubL.cons 3 Z SubL.nil)) ?_)
  refine RD_run [3] kR Z (RDs.cons Z ?_ RDs.nil)
  have H := H.blkAcc 1 (k := 0) (n := 3) rfl rfl (by decide)
  have hchk67 := ((((Chk.nil (E := strE) (sz := 1) (G := G4)).snoc (show strE _ ([115] : Fw.Bs) [str [115]] from ⟨rfl, by decide⟩) rfl).snoc (show strE _ ([116] : Fw.Bs) [str [116]] from ⟨rfl, by decide⟩) rfl).snoc (show strE _ ([117] : Fw.Bs) [str [117]] from ⟨rfl, by decide⟩) rfl)
  obtain ⟨G68, H, hsg68, hsr68⟩ := H.shutM (k := 0) (j := 0) rfl rfl hchk67 aN aN
  have hbs := hbs.up hsg68
  have hr1 := hr1.up hsg68
  have hr1' := hr1'.up hsg68
  have hr1'' := hr1''.up hsg68
  have hd64 := hd64.trans hsg68
  refine o_call call39 Z Z (of_c _ _ H.sub _ _ _ _ _ _ hbs (H.blkIs (k := 0) Z).1 (H.blkIs (k := 0) Z).2 oM _ _ hsr68 (by first | decide | (simp; done) | (simp; omega))) ?_
  rintro _ w66 ⟨G66, _, _, rfl, H66', ⟨p66, x66, hp66, rfl, hxs66, rfl⟩⟩
  have hr1 := hr1.up H66'.le
  have hr1' := hr1'.up H66'.le
  have hr1'' := hr1''.up H66'.le
  have hd64 := hd64.trans H66'.le
  have H := H.borrow (k := 0) rfl H66'
  refine ⟨_, Z, ?_⟩
  refine R_nil (N_DK (Kn.of' H hd64 (SubL.cons 2 Z SubL.nil)) ?_)
  refine RD_run [4] kR Z (RDs.cons Z ?_ RDs.nil)
  refine o_call call12 Z Z (SnapTakeP_c _ _ H.sub _ d ⟨_, _, _, _, _, _, _, _, _, Z, hr1, hr1', hr1''⟩ _ hxs66 ) ?_
  rintro _ w69 ⟨G69, _, g69, rfl, u69_0, rfl, hr69_0⟩
  have H := H.grow g69
  have hd64 := hd64.trans g69.le
  obtain ⟨a70, m70, c70, a70', m70', c70', a70'', m70'', c70'', rfl, hr70, hr70', hr70''⟩ := hr69_0; have hn_hr70 := hr70.len; have hx_hr70 : _ ≤ 1099511627776 := hr70.lim; have hn_hr70q := hr70'.len; have hx_hr70q : _ ≤ 1099511627776 := hr70'.lim; have hn_hr70qq := hr70''.len; have hx_hr70qq : _ ≤ 1099511627776 := hr70''.lim
  refine ⟨_, Z, ?_⟩
  refine R_nil (N_DK (Kn.of' H hd64 (SubL.cons 2 Z SubL.nil)) (RD_t 5 Z kR Z (fun _ hK => v_extract Z Z) (RD_t 6 Z kR Z (fun _ hK => v_extract Z Z) ?_)))
  refine RD_run [7] kR Z (RDs.cons Z ?_ RDs.nil)
  refine o_store_B 1 H sizeOf27 Z Z Z Z Z Z Z Z ?_; intro w71 H
  refine R_nil (N_DK (Kn.of' H hd64 (SubL.cons 2 Z SubL.nil)) (RD_t 8 Z kR Z (fun _ hK => v_assign Z) (RD_done kR (N_K (W_ret (N_B_ret (N_K_ret (ret_gen (rs := [.cell 4 27, .tmp 5]) (vs := [_, _]) results88 ⟨⟨_, Z, load_blk 1 H isAgg27 sizeOf27 Z Z Z⟩, Z, trivial⟩ ?_))))))))
  have H := H.del (k := 1) rfl
  have H := H.del (k := 1) rfl
  exact H.retM ⟨_, _, _, _, _, _, _, _, oM, Z, hr70, hr70', hr70'', Z⟩
 intro hc63'
 try simp only [nrm] at hc63'
 refine q2 (o_eql Z Z Z (aG Z (q3 ?_)))
 refine W_cond Z ?_ ?_
 ·intro hc72
  try simp only [nrm] at hc72
  refine W_seq (W_drawK [2] 9 H kR Z ?_); intro w73 H; have hd73 := PLe.refl G4
  refine RD_t 0 Z kR Z (fun _ hK => v_loadagg_B 0 hK isAgg27 sizeOf27 Z Z Z Z) (vM 1 Z Z ?_)
  refine RD_run [2] kR Z (RDs.cons Z ?_ RDs.nil)
  refine o_buildSlice H underlying69 sizeOf9 (fun w => ⟨_, zeroValue9 w, Z⟩) Z Z Z Z Z Z Z ?_; intro b74 w74 hb74 H
  refine R_nil (N_DK (Kn.of' H hd73 (SubL.cons 3 Z SubL.nil)) ?_)
  refine RD_run [3] kR Z (RDs.cons Z ?_ RDs.nil)
  have H := H.blkAcc 1 (k := 0) (n := 2) rfl rfl (by decide)
  have hchk76 := (((Chk.nil (E := strE) (sz := 1) (G := G4)).snoc (show strE _ ([115] : Fw.Bs) [str [115]] from ⟨rfl, by decide⟩) rfl).snoc (show strE _ ([116] : Fw.Bs) [str [116]] from ⟨rfl, by decide⟩) rfl)
  obtain ⟨G77, H, hsg77, hsr77⟩ := H.shutM (k := 0) (j := 0) rfl rfl hchk76 aN aN
  have hbs := hbs.up hsg77
  have hr1 := hr1.up hsg77
  have hr1' := hr1'.up hsg77
  have hr1'' := hr1''.up hsg77
  have hd73 := hd73.trans hsg77
  refine o_call call39 Z Z (of_c _ _ H.sub _ _ _ _ _ _ hbs (H.blkIs (k := 0) Z).1 (H.blkIs (k := 0) Z).2 oM _ _ hsr77 (by first | decide | (simp; done) | (simp; omega))) ?_
  rintro _ w75 ⟨G75, _, _, rfl, H75', ⟨p75, x75, hp75, rfl, hxs75, rfl⟩⟩
  have hr1 := hr1.up H75'.le
  have hr1' := hr1'.up H75'.le
  have hr1'' := hr1''.up H75'.le
  have hd73 := hd73.trans H75'.le
  have H := H.borrow (k := 0) rfl H75'
  refine ⟨_, Z, ?_⟩
  refine R_nil (N_DK (Kn.of' H hd73 (SubL.cons 2 Z SubL.nil)) ?_)
  refine RD_run [4] kR Z (RDs.cons Z ?_ RDs.nil)
  refine o_call call138 Z Z (SnapBackP_c _ _ H.sub _ d ⟨_, _, _, _, _, _, _, _, _, Z, hr1, hr1', hr1''⟩ _ hxs75 ) ?_
  rintro _ w78 ⟨G78, _, g78, rfl, u78_0, rfl, hr78_0⟩
  have H := H.grow g78
  have hd73 := hd73.trans g78.le
  obtain ⟨a79, m79, c79, a79', m79', c79', a79'', m79'', c79'', rfl, hr79, hr79', hr79''⟩ := hr78_0; have hn_hr79 := hr79.len; have hx_hr79 : _ ≤ 1099511627776 := hr79.lim; have hn_hr79q := hr79'.len; have hx_hr79q : _ ≤ 1099511627776 := hr79'.lim; have hn_hr79qq := hr79''.len; have hx_hr79qq : _ ≤ 1099511627776 := hr79''.lim
  refine ⟨_, Z, ?_⟩
  refine R_nil (N_DK (Kn.of' H hd73 (SubL.cons 2 Z SubL.nil)) (RD_t 5 Z kR Z (fun _ hK => v_extract Z Z) (RD_t 6 Z kR Z (fun _ hK => v_extract Z Z) ?_)))
  refine RD_run [7] kR Z (RDs.cons Z ?_ RDs.nil)
  refine o_store_B 1 H sizeOf27 Z Z Z Z Z Z Z Z ?_; intro w80 H
  refine R_nil (N_DK (Kn.of' H hd73 (SubL.cons 2 Z SubL.nil)) (RD_t 8 Z kR Z (fun _ hK => v_assign Z) (RD_done kR (N_K (W_ret (N_B_ret (N_K_ret (ret_gen (rs := [.cell 4 27, .tmp 5]) (vs := [_, _]) results88 ⟨⟨_, Z, load_blk 1 H isAgg27 sizeOf27 Z Z Z⟩, Z, trivial⟩ ?_))))))))
  have H := H.del (k := 1) rfl
  have H := H.del (k := 1) rfl
  exact H.retM ⟨_, _, _, _, _, _, _, _, oM, Z, hr79, hr79', hr79'', Z⟩
 intro hc72'
 try simp only [nrm] at hc72'
 refine W_skip (N_B (N_K (q2 (mV Z (o_buildSlice H underlying69 sizeOf9 (fun w => ⟨_, zeroValue9 w, Z⟩) Z Z Z Z Z Z Z ?_))))); intro b81 w81 hb81 H
 have H := H.blkAcc 1 (k := 0) (n := 5) rfl rfl (by decide)
 have hchk83 := ((((((Chk.nil (E := strE) (sz := 1) (G := G4)).snoc (show strE _ ([99] : Fw.Bs) [str [99]] from ⟨rfl, by decide⟩) rfl).snoc (show strE _ ([97, 47, 121] : Fw.Bs) [str [97, 47, 121]] from ⟨rfl, by decide⟩) rfl).snoc (show strE _ ([98, 47, 120] : Fw.Bs) [str [98, 47, 120]] from ⟨rfl, by decide⟩) rfl).snoc (show strE _ ([97, 47, 120, 47, 112] : Fw.Bs) [str [97, 47, 120, 47, 112]] from ⟨rfl, by decide⟩) rfl).snoc (show strE _ ([100] : Fw.Bs) [str [100]] from ⟨rfl, by decide⟩) rfl)
 obtain ⟨G84, H, hsg84, hsr84⟩ := H.shutM (k := 0) (j := 0) rfl rfl hchk83 aN aN
 have hbs := hbs.up hsg84
 have hr1 := hr1.up hsg84
 have hr1' := hr1'.up hsg84
 have hr1'' := hr1''.up hsg84
 refine o_call call39 Z Z (of_c _ _ H.sub _ _ _ _ _ _ hbs (H.blkIs (k := 0) Z).1 (H.blkIs (k := 0) Z).2 oM _ _ hsr84 (by first | decide | (simp; done) | (simp; omega))) ?_
 rintro _ w82 ⟨G82, _, _, rfl, H82', ⟨p82, x82, hp82, rfl, hxs82, rfl⟩⟩
 have hbs := hbs.up H82'.le
 have hr1 := hr1.up H82'.le
 have hr1' := hr1'.up H82'.le
 have hr1'' := hr1''.up H82'.le
 have H := H.borrow (k := 0) rfl H82'
 refine ⟨_, Z, ?_⟩
 refine aG Z (q3 (W_seq (W_drawK [2] 9 H kR Z ?_))); intro w85 H; have hd85 := PLe.refl G82
 refine RD_t 0 Z kR Z (fun _ hK => v_loadagg_B 0 hK isAgg27 sizeOf27 Z Z Z Z) (vM 1 Z Z (vM 2 Z Z ?_))
 refine RD_run [3] kR Z (RDs.cons Z ?_ RDs.nil)
 refine o_call call60 Z Z (l91File_c _ _ H.sub _ _ _ _ _ _ hbs (H.blkIs (k := 0) Z).1 (H.blkIs (k := 0) Z).2 oM ) ?_
 rintro _ w86 ⟨G86, _, _, rfl, H86', ⟨p86, x86, v86, c86, hp86, rfl, hchk86, hxl86, rfl⟩⟩
 have hr1 := hr1.up H86'.le
 have hr1' := hr1'.up H86'.le
 have hr1'' := hr1''.up H86'.le
 have hd85 := hd85.trans H86'.le
 have H := H.borrow (k := 0) rfl H86'
 obtain ⟨av86, cv86, rfl⟩ := H.accShape (k := 0) rfl
 refine ⟨_, Z, ?_⟩
 refine R_nil (N_DK (Kn.of' H hd85 (SubL.cons 3 Z SubL.nil)) ?_)
 refine RD_run [4] kR Z (RDs.cons Z ?_ RDs.nil)
 obtain ⟨G88, H, hsg88, hsr88⟩ := H.shutM (k := 0) (j := 0) rfl rfl hchk86 aN aN
 have hr1 := hr1.up hsg88
 have hr1' := hr1'.up hsg88
 have hr1'' := hr1''.up hsg88
 have hd85 := hd85.trans hsg88
 refine o_call call22 Z Z (DiskWriteP_c _ _ H.sub _ d ⟨_, _, _, _, _, _, _, _, _, Z, hr1, hr1', hr1''⟩ _ hxs82 _ _ hsr88 ) ?_
 rintro _ w87 ⟨G87, _, g87, rfl, u87_0, rfl, hr87_0⟩
 have H := H.grow g87
 have hd85 := hd85.trans g87.le
 obtain ⟨a89, m89, c89, a89', m89', c89', a89'', m89'', c89'', rfl, hr89, hr89', hr89''⟩ := hr87_0; have hn_hr89 := hr89.len; have hx_hr89 : _ ≤ 1099511627776 := hr89.lim; have hn_hr89q := hr89'.len; have hx_hr89q : _ ≤ 1099511627776 := hr89'.lim; have hn_hr89qq := hr89''.len; have hx_hr89qq : _ ≤ 1099511627776 := hr89''.lim
 refine ⟨_, Z, ?_⟩
 refine R_nil (N_DK (Kn.of' H hd85 (SubL.cons 2 Z SubL.nil)) (RD_t 5 Z kR Z (fun _ hK => v_extract Z Z) (RD_t 6 Z kR Z (fun _ hK => v_extract Z Z) ?_)))
 refine RD_run [7] kR Z (RDs.cons Z ?_ RDs.nil)
 refine o_store_B 1 H sizeOf27 Z Z Z Z Z Z Z Z ?_; intro w90 H
 refine R_nil (N_DK (Kn.of' H hd85 (SubL.cons 2 Z SubL.nil)) (RD_t 8 Z kR Z (fun _ hK => v_assign Z) (RD_done kR (N_K (W_ret (ret_gen (rs := [.cell 4 27, .tmp 5]) (vs := [_, _]) results88 ⟨⟨_, Z, load_blk 1 H isAgg27 sizeOf27 Z Z Z⟩, Z, trivial⟩ ?_))))))
 have H := H.del (k := 1) rfl
 have H := H.del (k := 1) rfl
 exact H.retM ⟨_, _, _, _, _, _, _, _, oM, Z, hr89, hr89', hr89'', Z⟩
end Go.Proofs.Tst

namespace Go.Proofs.Tst
open Go Fw Tryz
theorem l91Disk_c (w0 : World) (G0 : PH) (hG : PSub G0 w0) (rb : Nat) (ab : Option Addr) (mb kb : Nat) (bs : List UInt8) (p : Nat) (hbs : RdU G0 (.slice ab mb kb) bs) (hrb : w0.heap[rb]? = some (cl [.slice ab mb kb, .int .i64 (p : Int)] 118)) (hrn : G0 rb = none) (hp : p ≤ 5000000)  :
  Calls Tryz.prog 37 #[.pointer (some ⟨rb, 0, none⟩)] w0 (RetM w0 G0 [rb] (fun G val Bs => ∃ (p' : Nat) (v1 v2 v3 : Value) (st : List BHeld) (tr : List BItem) (sn : List BSnap), p' ≤ p + 5000 ∧ val = .agg #[v1, v2, v3] ∧ RdH G v1 st ∧ RdItems G v2 tr ∧ RdSn G v3 sn ∧ Bs = [blk rb (cl [.slice ab mb kb, .int .i64 (p' : Int)] 118)])) := by
 have hlimbs : bs.length ≤ 1099511627776 := hbs.lim; obtain rfl : mb = bs.length := hbs.len
 have H := Hp.initM hG hrb hrn
 refine calls_of_W (l := [.pointer (some ⟨rb, 0, none⟩)]) func37 Z ntmps37 Z (q2 (o_alloc H zeroValue27 Z Z ?_)); intro b1 w1 hb1 H
 refine q1 (mV Z (o_call call87 Z Z (l91Volume_c _ _ H.sub _ _ _ _ _ _ hbs (H.blkIs (k := 1) Z).1 (H.blkIs (k := 1) Z).2 oM ) ?_))
 rintro _ w2 ⟨G2, _, _, rfl, H2', ⟨p2, v12, v22, st2, tr2, hp2, rfl, hst2, htr2, rfl⟩⟩
 have hbs := hbs.up H2'.le
 have H := H.borrow (k := 1) rfl H2'
 obtain ⟨sa2, sc2, rfl⟩ := hst2.shape; obtain ⟨ta2, tc2, rfl⟩ := htr2.shape; have hx_hst2 : _ ≤ 1099511627776 := hst2.lim; have hx_htr2 : _ ≤ 1099511627776 := htr2.lim
 refine ⟨_, Z, ?_⟩
 refine o_alloc H zeroValue47 Z Z ?_; intro b3 w3 hb3 H
 refine o_store_B 0 H sizeOf47 Z Z Z Z Z Z Z Z ?_; intro w4 H
 refine q1 (o_fieldAddr 0 runUnderlying47 Z sizeOf23 Z Z Z (o_load_B 0 H isAgg23 Z Z Z Z (o_fieldAddr 1 runUnderlying47 Z sizeOf24 Z Z Z (o_load_B 0 H isAgg24 Z Z Z Z (o_build bf27 Z Z Z (o_alloc H zeroValue27 Z Z ?_)))))); intro b5 w5 hb5 H
 refine o_store_B 0 H sizeOf27 Z Z Z Z Z Z Z Z ?_; intro w6 H
 refine q1 (mV Z (o_call call38 Z Z (pick_c _ _ H.sub _ _ _ _ _ _ hbs (H.blkIs (k := 2) Z).1 (H.blkIs (k := 2) Z).2 oM _ oO ) ?_))
 rintro _ w7 ⟨G7, _, _, rfl, H7', ⟨p7, x7, hp7, rfl, hxb7, rfl⟩⟩
 have hbs := hbs.up H7'.le
 have hst2 := hst2.up H7'.le
 have htr2 := htr2.up H7'.le
 have H := H.borrow (k := 2) rfl H7'
 refine ⟨_, Z, ?_⟩
 refine aG Z (q3 (W_seq (q2 (aG Z (q3 (W_block ?_))))))
 obtain ⟨ln8, hln8, H⟩ := H.name (k := 2) rfl
 obtain ⟨ln9, hln9, H⟩ := H.name (k := 3) rfl
 refine W_lp (hf := (Sub.cons (t := 0) Z (Sub.cons (t := 2) Z (Sub.cons (t := 4) Z (Sub.cons (t := 5) Z Sub.nil))))) (J := fun M w m => ∃ (k : Nat) (va vb vc : Value) (st : List BHeld) (tr : List BItem) (sn : List BSnap) (pp : Nat) (G : PH), M = [(6, .int .i64 (k : Int))] ∧ PLe G7 G ∧ Hp w0 G0 [rb] w G [blk rb (cl [.slice ab bs.length kb, .int .i64 (pp : Int)] 118), blk b5 (cl [va, vb, vc] 27), blk b3 (cl ln8 47), blk b1 (cl ln9 27)] ∧ (k ≤ 7 ∧ pp ≤ p + 3100 + 201 * k ∧ RdH G va st ∧ RdItems G vb tr ∧ RdSn G vc sn) ∧ m = (8 - k)) (h0 := ⟨0, _, _, _, st2, tr2, [], p7, _, Z, PLe.refl _, H, ?inv, Z⟩) (round := ?round)
 case inv => exact ⟨by omega, by omega, hst2, htr2, (RdS.nil _ _ _)⟩
 case round =>
  rintro _ w10 _ ⟨k, va, vb, vc, st, tr, sn, pp, G10, rfl, hle10, H, hinv10, rfl⟩
  subst hln8
  subst hln9
  have hbs := hbs.up hle10
  obtain ⟨hk, hpp, hst, htr, hsn⟩ := hinv10; obtain ⟨lhsta, lhstc, rfl⟩ := hst.shape; have hlhst : _ ≤ 1099511627776 := hst.lim; obtain ⟨lhtra, lhtrc, rfl⟩ := htr.shape; have hlhtr : _ ≤ 1099511627776 := htr.lim; obtain ⟨lhsna, lhsnc, rfl⟩ := hsn.shape; have hlhsn : _ ≤ 1099511627776 := hsn.lim
  refine W_seq (q2 (mV Z (mV Z (o_lss Z Z Z (q3 ?_)))))
  refine W_cond Z ?_ ?_
  ·intro hc11
   try simp only [nrm] at hc11
   refine W_skip (N_K (W_seq (W_block (q2 (mV Z (o_loadagg_B 1 H isAgg27 sizeOf27 Z Z Z Z Z (o_call call88 Z Z (l91Turn_c _ _ H.sub _ _ _ _ _ _ hbs (H.blkIs (k := 0) Z).1 (H.blkIs (k := 0) Z).2 oM _ ⟨st, tr, sn⟩ ⟨_, _, _, _, _, _, _, _, _, Z, hst, htr, hsn⟩ ) ?_)))))))
   rintro _ w12 ⟨G12, _, _, rfl, H12', ⟨p12, v112, v212, v312, st12, tr12, sn12, b12, hp12, rfl, hst12, htr12, hsn12, rfl⟩⟩
   have hst := hst.up H12'.le
   have htr := htr.up H12'.le
   have hsn := hsn.up H12'.le
   have hle10 := hle10.trans H12'.le
   have H := H.borrow (k := 0) rfl H12'
   obtain ⟨sta12, stc12, rfl⟩ := hst12.shape; have hx_hst12 : _ ≤ 1099511627776 := hst12.lim; obtain ⟨tra12, trc12, rfl⟩ := htr12.shape; have hx_htr12 : _ ≤ 1099511627776 := htr12.lim; obtain ⟨sna12, snc12, rfl⟩ := hsn12.shape; have hx_hsn12 : _ ≤ 1099511627776 := hsn12.lim
   refine ⟨_, Z, ?_⟩
   refine mV Z (o_extract Z Z Z (o_extract Z Z Z (o_alloc H zeroValue27 Z Z ?_))); intro b13 w13 hb13 H
   refine o_store_B 0 H sizeOf27 Z Z Z Z Z Z Z Z ?_; intro w14 H
   refine aG Z (q1 (mV Z (q3 ?_)))
   refine W_cond Z ?_ ?_
   ·intro hc15
    try simp only [nrm] at hc15
    refine W_region (o_loadagg_B 0 H isAgg27 sizeOf27 Z Z Z Z Z (o_store_B 2 H sizeOf27 Z Z Z Z Z Z Z Z ?_)); intro w16 H
    refine R_nil (N_B (N_K (W_region (mV Z (o_add Z Z Z oO (aG Z (R_nil ?_)))))))
    have H := H.del (k := 0) rfl
    refine N_lp (hJ := ⟨k + 1, _, _, _, st12, tr12, sn12, p12, _, Z, hle10, H, ?inv, Z⟩) (hm := ?hm)
    case hm => omega
    case inv => exact ⟨by omega, by omega, hst12, htr12, hsn12⟩
   intro hc15'
   try simp only [nrm] at hc15'
   refine W_skip (N_B (N_K (W_region (mV Z (o_add Z Z Z oO (aG Z (R_nil ?_)))))))
   have H := H.del (k := 0) rfl
   refine N_lp (hJ := ⟨k + 1, _, _, _, st, tr, sn, p12, _, Z, hle10, H, ?inv, Z⟩) (hm := ?hm)
   case hm => omega
   case inv => exact ⟨by omega, by omega, hst, htr, hsn⟩
  intro hc11'
  try simp only [nrm] at hc11'
  refine W_exit (N_K_exit (N_LP_exit (N_B_same (N_K (q2 (o_loadagg_B 1 H isAgg27 sizeOf27 Z Z Z Z Z (o_store_B 3 H sizeOf27 Z Z Z Z Z Z Z Z ?_))))))); intro w19 H
  refine q3 (W_ret (ret_gen (rs := [.cell 2 27]) (vs := [_]) results37 ⟨⟨_, Z, load_blk 3 H isAgg27 sizeOf27 Z Z Z⟩, trivial⟩ ?_))
  have H := H.del (k := 1) rfl
  have H := H.del (k := 1) rfl
  have H := H.del (k := 1) rfl
  exact H.retM ⟨_, _, _, _, _, _, _, oM, Z, hst, htr, hsn, Z⟩
end Go.Proofs.Tst

namespace Go.Proofs.Tst
open Go Fw Tryz
theorem l91Snap_c (w0 : World) (G0 : PH) (hG : PSub G0 w0) (rb : Nat) (ab : Option Addr) (mb kb : Nat) (bs : List UInt8) (p : Nat) (hbs : RdU G0 (.slice ab mb kb) bs) (hrb : w0.heap[rb]? = some (cl [.slice ab mb kb, .int .i64 (p : Int)] 118)) (hrn : G0 rb = none) (hp : p ≤ 1000000000) (cd : List Value) (d : BDisk) (hd : diskE G0 d cd)  :
  Calls Tryz.prog 40 #[.pointer (some ⟨rb, 0, none⟩), .agg cd.toArray] w0 (RetM w0 G0 [rb] (fun G val Bs => ∃ (p' : Nat) (x : Fw.Bs), p' ≤ p + 4 ∧ val = str x ∧ x.length ≤ 16777216 ∧ Bs = [blk rb (cl [.slice ab mb kb, .int .i64 (p' : Int)] 118)])) := by
 have hlimbs : bs.length ≤ 1099511627776 := hbs.lim; obtain rfl : mb = bs.length := hbs.len
 obtain ⟨a1, m1, c1, a1', m1', c1', a1'', m1'', c1'', rfl, hr1, hr1', hr1''⟩ := hd; have hn_hr1 := hr1.len; have hx_hr1 : _ ≤ 1099511627776 := hr1.lim; have hn_hr1q := hr1'.len; have hx_hr1q : _ ≤ 1099511627776 := hr1'.lim; have hn_hr1qq := hr1''.len; have hx_hr1qq : _ ≤ 1099511627776 := hr1''.lim
 have H := Hp.initM hG hrb hrn
 refine calls_of_W (l := [.pointer (some ⟨rb, 0, none⟩), _]) func40 Z ntmps40 Z (q2 (o_box H Z Z Z ?_)); intro b2 w2 hb2 H
 refine aG Z (q3 (W_seq (q2 (o_fieldAddr 2 runUnderlying27 Z sizeOf25 Z Z Z (o_load_B 0 H isAgg25 Z Z Z Z (o_len_slice underlying25 Z Z (o_gtr Z Z Z (mV Z ?_))))))))
 refine R_case (t := 9) Z ?_ ?_
 ·intro hc3
  try simp only [nrm] at hc3
  refine gR Z (mV Z (gR Z (o_call call38 Z Z (pick_c _ _ H.sub _ _ _ _ _ _ hbs (H.blkIs (k := 1) Z).1 (H.blkIs (k := 1) Z).2 oM _ oO ) ?_)))
  rintro _ w4 ⟨G4, _, _, rfl, H4', ⟨p4, x4, hp4, rfl, hxb4, rfl⟩⟩
  have hbs := hbs.up H4'.le
  have hr1'' := hr1''.up H4'.le
  have H := H.borrow (k := 1) rfl H4'
  refine ⟨_, Z, ?_⟩
  refine gR Z (o_gtr Z Z Z (o_pick_t Z Z Z (q3 ?_)))
  refine W_cond Z ?_ ?_
  ·intro hc5
   try simp only [nrm] at hc5
   refine W_seq (W_drawK [1] 11 H kR Z ?_); intro w6 H; have hd6 := PLe.refl G4
   refine RD_t 0 Z kR Z (fun _ hK => v_fieldAddr 2 runUnderlying27 Z sizeOf25 Z Z) (RD_t 1 Z kR Z (fun _ hK => v_load_B 0 hK isAgg25 Z Z Z) (vM 2 Z Z (RD_t 3 Z kR Z (fun _ hK => v_fieldAddr 2 runUnderlying27 Z sizeOf25 Z Z) (RD_t 4 Z kR Z (fun _ hK => v_load_B 0 hK isAgg25 Z Z Z) (RD_t 5 Z kR Z (fun _ hK => v_len_slice underlying25 Z) ?_)))))
   refine RD_run [6] kR Z (RDs.cons Z ?_ RDs.nil)
   refine o_call call38 Z Z (pick_c _ _ H.sub _ _ _ _ _ _ hbs (H.blkIs (k := 0) Z).1 (H.blkIs (k := 0) Z).2 oM _ oO ) ?_
   rintro _ w7 ⟨G7, _, _, rfl, H7', ⟨p7, x7, hp7, rfl, hxb7, rfl⟩⟩
   have hr1'' := hr1''.up H7'.le
   have hd6 := hd6.trans H7'.le
   have H := H.borrow (k := 0) rfl H7'
   refine ⟨_, Z, ?_⟩
   refine R_nil (N_DK (Kn.of' H hd6 (SubL.cons 1 Z SubL.nil)) ?_)
   have hl8 := hr1''.len
   obtain ⟨b8, o8, z8, q8, ha8, hz8, hq8, hE8, hrow8, _⟩ := hr1''.at (i := x7) oM
   clear hq8
   obtain ⟨a8, m8, c8, rfl, hi8, hr8⟩ := hE8; have hy_hi8 : _ ≤ 16777216 := hi8; have hn_hr8 := hr8.len; have hx_hr8 : _ ≤ 1099511627776 := hr8.lim
   refine RD_t 7 Z kR Z (fun _ hK => v_index_P (i := x7) ha8 underlying25 sizeOf81 Z Z Z oM) (RD_t 8 Z kR Z (fun _ hK => v_fieldAddr 0 runUnderlying81 Z sizeOf9 Z Z) ?_)
   refine RD_run [9] kR Z (RDs.cons Z ?_ RDs.nil)
   refine o_load_P H isAgg9 Z Z (hrow8 0 _ Z) (R_nil (N_DK (Kn.of' H hd6 (SubL.cons 1 Z SubL.nil)) (RD_t 10 Z kR Z (fun _ hK => v_assign Z) (RD_done kR (N_K (W_ret (N_K_ret (rt1 results40 Z ?_))))))))
   have H := H.del (k := 1) rfl
   exact H.retM ⟨_, _, by omega, rfl, hi8, rfl⟩
  intro hc5'
  try simp only [nrm] at hc5'
  refine W_skip (N_K (q2 (mV Z (o_buildSlice H underlying69 sizeOf9 (fun w => ⟨_, zeroValue9 w, Z⟩) Z Z Z Z Z Z Z ?_)))); intro b9 w9 hb9 H
  have H := H.blkAcc 1 (k := 0) (n := 5) rfl rfl (by decide)
  have hchk11 := ((((((Chk.nil (E := strE) (sz := 1) (G := G4)).snoc (show strE _ ([115] : Fw.Bs) [str [115]] from ⟨rfl, by decide⟩) rfl).snoc (show strE _ ([118] : Fw.Bs) [str [118]] from ⟨rfl, by decide⟩) rfl).snoc (show strE _ ([119] : Fw.Bs) [str [119]] from ⟨rfl, by decide⟩) rfl).snoc (show strE _ ([66, 97, 100] : Fw.Bs) [str [66, 97, 100]] from ⟨rfl, by decide⟩) rfl).snoc (show strE _ ([] : Fw.Bs) [str []] from ⟨rfl, by decide⟩) rfl)
  obtain ⟨G12, H, hsg12, hsr12⟩ := H.shutM (k := 0) (j := 0) rfl rfl hchk11 aN aN
  have hbs := hbs.up hsg12
  refine o_call call39 Z Z (of_c _ _ H.sub _ _ _ _ _ _ hbs (H.blkIs (k := 0) Z).1 (H.blkIs (k := 0) Z).2 oM _ _ hsr12 (by first | decide | (simp; done) | (simp; omega))) ?_
  rintro _ w10 ⟨G10, _, _, rfl, H10', ⟨p10, x10, hp10, rfl, hxs10, rfl⟩⟩
  have H := H.borrow (k := 0) rfl H10'
  refine ⟨_, Z, ?_⟩
  refine aG Z (q3 (W_ret (rt1 results40 Z ?_)))
  have H := H.del (k := 1) rfl
  exact H.retM ⟨_, _, by omega, rfl, hxs10, rfl⟩
 intro hc3'
 try simp only [nrm] at hc3'
 refine rP Z (rP Z (rP Z (o_pick_f Z Z Z (q3 (W_false Z (W_skip (N_K (q2 (mV Z (o_buildSlice H underlying69 sizeOf9 (fun w => ⟨_, zeroValue9 w, Z⟩) Z Z Z Z Z Z Z ?_)))))))))); intro b13 w13 hb13 H
 have H := H.blkAcc 1 (k := 0) (n := 5) rfl rfl (by decide)
 have hchk15 := ((((((Chk.nil (E := strE) (sz := 1) (G := G0)).snoc (show strE _ ([115] : Fw.Bs) [str [115]] from ⟨rfl, by decide⟩) rfl).snoc (show strE _ ([118] : Fw.Bs) [str [118]] from ⟨rfl, by decide⟩) rfl).snoc (show strE _ ([119] : Fw.Bs) [str [119]] from ⟨rfl, by decide⟩) rfl).snoc (show strE _ ([66, 97, 100] : Fw.Bs) [str [66, 97, 100]] from ⟨rfl, by decide⟩) rfl).snoc (show strE _ ([] : Fw.Bs) [str []] from ⟨rfl, by decide⟩) rfl)
 obtain ⟨G16, H, hsg16, hsr16⟩ := H.shutM (k := 0) (j := 1) rfl rfl hchk15 aN aN
 have hbs := hbs.up hsg16
 refine o_call call39 Z Z (of_c _ _ H.sub _ _ _ _ _ _ hbs (H.blkIs (k := 1) Z).1 (H.blkIs (k := 1) Z).2 oM _ _ hsr16 (by first | decide | (simp; done) | (simp; omega))) ?_
 rintro _ w14 ⟨G14, _, _, rfl, H14', ⟨p14, x14, hp14, rfl, hxs14, rfl⟩⟩
 have H := H.borrow (k := 1) rfl H14'
 refine ⟨_, Z, ?_⟩
 refine aG Z (q3 (W_ret (rt1 results40 Z ?_)))
 have H := H.del (k := 1) rfl
 exact H.retM ⟨_, _, by omega, rfl, hxs14, rfl⟩
end Go.Proofs.Tst

namespace Go.Proofs.Tst
open Go Fw Tryz
theorem DrawSnapTake_c (w0 : World) (G0 : PH) (hG : PSub G0 w0) (vcode : Value) (code : List (UInt8)) (hcode : RdU G0 vcode code)  :
  Calls Tryz.prog 10 #[vcode] w0 (RetP w0 G0 (fun G v => ∃ (cs : List Value) (x : BDisk) (p0 : Bs), v = .tuple #[.agg cs.toArray, str p0] ∧ diskE G x cs ∧ p0.length ≤ 16777216)) := by
 obtain ⟨acode, kcode, rfl⟩ := hcode.shape
 have hlimcode : code.length ≤ 1099511627776 := hcode.lim
 have H := Hp.init hG
 refine calls_of_W (l := [.slice acode code.length kcode]) func10 Z ntmps10 Z (q2 (o_alloc H zeroValue27 Z Z ?_)); intro b1 w1 hb1 H
 refine aG Z (q1 (mV Z (o_call call36 Z Z (l6Open_c _ _ H.sub _ _ hcode ) ?_)))
 rintro _ w2 ⟨G2, _, _, g2, rfl, ⟨rb2, ab2, mb2, kb2, bs2, rfl, rfl, hbs2⟩, hp2, hq2, hs2⟩
 have H := H.growO g2 hp2 hq2 hs2
 refine ⟨_, Z, ?_⟩
 refine aG Z (q1 (mV Z (o_call call37 Z Z (l91Disk_c _ _ H.sub _ _ _ _ _ _ hbs2 (H.blkIs (k := 0) Z).1 (H.blkIs (k := 0) Z).2 oM ) ?_)))
 rintro _ w3 ⟨G3, _, _, rfl, H3', ⟨p3, v13, v23, v33, st3, tr3, sn3, hp3, rfl, hst3, htr3, hsn3, rfl⟩⟩
 have hbs2 := hbs2.up H3'.le
 have H := H.borrow (k := 0) rfl H3'
 obtain ⟨sta3, stc3, rfl⟩ := hst3.shape; have hx_hst3 : _ ≤ 1099511627776 := hst3.lim; obtain ⟨tra3, trc3, rfl⟩ := htr3.shape; have hx_htr3 : _ ≤ 1099511627776 := htr3.lim; obtain ⟨sna3, snc3, rfl⟩ := hsn3.shape; have hx_hsn3 : _ ≤ 1099511627776 := hsn3.lim
 refine ⟨_, Z, ?_⟩
 refine o_alloc H zeroValue27 Z Z ?_; intro b4 w4 hb4 H
 refine o_store_B 0 H sizeOf27 Z Z Z Z Z Z Z Z ?_; intro w5 H
 refine q3 (W_seq (q2 (mV Z (o_call call38 Z Z (pick_c _ _ H.sub _ _ _ _ _ _ hbs2 (H.blkIs (k := 1) Z).1 (H.blkIs (k := 1) Z).2 oM _ oO ) ?_))))
 rintro _ w6 ⟨G6, _, _, rfl, H6', ⟨p6, x6, hp6, rfl, hxb6, rfl⟩⟩
 have hbs2 := hbs2.up H6'.le
 have hst3 := hst3.up H6'.le
 have htr3 := htr3.up H6'.le
 have hsn3 := hsn3.up H6'.le
 have H := H.borrow (k := 1) rfl H6'
 refine ⟨_, Z, ?_⟩
 refine o_gtr Z Z Z (q3 ?_)
 refine W_cond Z ?_ ?_
 ·intro hc7
  try simp only [nrm] at hc7
  refine W_seq (W_drawK [1] 6 H kR Z ?_); intro w8 H; have hd8 := PLe.refl G6
  refine RD_t 0 Z kR Z (fun _ hK => v_loadagg_B 0 hK isAgg27 sizeOf27 Z Z Z Z) (vM 1 Z Z ?_)
  refine RD_run [2] kR Z (RDs.cons Z ?_ RDs.nil)
  refine o_buildSlice H underlying69 sizeOf9 (fun w => ⟨_, zeroValue9 w, Z⟩) Z Z Z Z Z Z Z ?_; intro b9 w9 hb9 H
  refine R_nil (N_DK (Kn.of' H hd8 (SubL.cons 2 Z SubL.nil)) ?_)
  refine RD_run [3] kR Z (RDs.cons Z ?_ RDs.nil)
  have H := H.blkAcc 1 (k := 0) (n := 3) rfl rfl (by decide)
  have hchk11 := ((((Chk.nil (E := strE) (sz := 1) (G := G6)).snoc (show strE _ ([118] : Fw.Bs) [str [118]] from ⟨rfl, by decide⟩) rfl).snoc (show strE _ ([119] : Fw.Bs) [str [119]] from ⟨rfl, by decide⟩) rfl).snoc (show strE _ ([110, 101, 119] : Fw.Bs) [str [110, 101, 119]] from ⟨rfl, by decide⟩) rfl)
  obtain ⟨G12, H, hsg12, hsr12⟩ := H.shut' (k := 0) rfl hchk11 aN aN
  have hbs2 := hbs2.up hsg12
  have hst3 := hst3.up hsg12
  have htr3 := htr3.up hsg12
  have hsn3 := hsn3.up hsg12
  have hd8 := hd8.trans hsg12
  refine o_call call39 Z Z (of_c _ _ H.sub _ _ _ _ _ _ hbs2 (H.blkIs (k := 0) Z).1 (H.blkIs (k := 0) Z).2 oM _ _ hsr12 (by first | decide | (simp; done) | (simp; omega))) ?_
  rintro _ w10 ⟨G10, _, _, rfl, H10', ⟨p10, x10, hp10, rfl, hxs10, rfl⟩⟩
  have hst3 := hst3.up H10'.le
  have htr3 := htr3.up H10'.le
  have hsn3 := hsn3.up H10'.le
  have hd8 := hd8.trans H10'.le
  have H := H.borrow (k := 0) rfl H10'
  refine ⟨_, Z, ?_⟩
  refine R_nil (N_DK (Kn.of' H hd8 (SubL.cons 1 Z SubL.nil)) ?_)
  refine RD_run [4] kR Z (RDs.cons Z ?_ RDs.nil)
  refine o_store_B 2 H sizeOf27 Z Z Z Z Z Z Z Z ?_; intro w13 H
  refine R_nil (N_DK (Kn.of' H hd8 (SubL.cons 1 Z SubL.nil)) (RD_t 5 Z kR Z (fun _ hK => v_assign Z) (RD_done kR (N_K (W_ret (N_K_ret (ret_gen (rs := [.cell 2 27, .tmp 3]) (vs := [_, _]) results10 ⟨⟨_, Z, load_blk 2 H isAgg27 sizeOf27 Z Z Z⟩, Z, trivial⟩ ?_)))))))
  have H := H.del (k := 0) rfl
  have H := H.del (k := 0) rfl
  have H := H.del (k := 0) rfl
  exact H.retP ⟨_, ⟨st3, tr3, sn3⟩, _, Z, ⟨_, _, _, _, _, _, _, _, _, Z, hst3, htr3, hsn3⟩, hxs10⟩
 intro hc7'
 try simp only [nrm] at hc7'
 refine W_skip (N_K (W_seq (W_drawK [1] 6 H kR Z ?_))); intro w14 H; have hd14 := PLe.refl G6
 refine RD_t 0 Z kR Z (fun _ hK => v_loadagg_B 0 hK isAgg27 sizeOf27 Z Z Z Z) (vM 1 Z Z (RD_t 2 Z kR Z (fun _ hK => v_loadagg_B 0 hK isAgg27 sizeOf27 Z Z Z Z) ?_))
 refine RD_run [3] kR Z (RDs.cons Z ?_ RDs.nil)
 refine o_call call40 Z Z (l91Snap_c _ _ H.sub _ _ _ _ _ _ hbs2 (H.blkIs (k := 0) Z).1 (H.blkIs (k := 0) Z).2 oM _ ⟨st3, tr3, sn3⟩ ⟨_, _, _, _, _, _, _, _, _, Z, hst3, htr3, hsn3⟩ ) ?_
 rintro _ w15 ⟨G15, _, _, rfl, H15', ⟨p15, x15, hp15, rfl, hxs15, rfl⟩⟩
 have hst3 := hst3.up H15'.le
 have htr3 := htr3.up H15'.le
 have hsn3 := hsn3.up H15'.le
 have hd14 := hd14.trans H15'.le
 have H := H.borrow (k := 0) rfl H15'
 refine ⟨_, Z, ?_⟩
 refine R_nil (N_DK (Kn.of' H hd14 (SubL.cons 1 Z SubL.nil)) ?_)
 refine RD_run [4] kR Z (RDs.cons Z ?_ RDs.nil)
 refine o_store_B 2 H sizeOf27 Z Z Z Z Z Z Z Z ?_; intro w16 H
 refine R_nil (N_DK (Kn.of' H hd14 (SubL.cons 1 Z SubL.nil)) (RD_t 5 Z kR Z (fun _ hK => v_assign Z) (RD_done kR (N_K (W_ret (ret_gen (rs := [.cell 2 27, .tmp 3]) (vs := [_, _]) results10 ⟨⟨_, Z, load_blk 2 H isAgg27 sizeOf27 Z Z Z⟩, Z, trivial⟩ ?_))))))
 have H := H.del (k := 0) rfl
 have H := H.del (k := 0) rfl
 have H := H.del (k := 0) rfl
 exact H.retP ⟨_, ⟨st3, tr3, sn3⟩, _, Z, ⟨_, _, _, _, _, _, _, _, _, Z, hst3, htr3, hsn3⟩, hxs15⟩
theorem DrawDiskWrite_c (w0 : World) (G0 : PH) (hG : PSub G0 w0) (vcode : Value) (code : List (UInt8)) (hcode : RdU G0 vcode code)  :
  Calls Tryz.prog 20 #[vcode] w0 (RetP w0 G0 (fun G v => ∃ (cs : List Value) (x : BDisk) (p0 : Bs) (va : Value) (bytes : List Int), v = .tuple #[.agg cs.toArray, str p0, va] ∧ diskE G x cs ∧ p0.length ≤ 16777216 ∧ RdI G va bytes)) := by
 obtain ⟨acode, kcode, rfl⟩ := hcode.shape
 have hlimcode : code.length ≤ 1099511627776 := hcode.lim
 have H := Hp.init hG
 refine calls_of_W (l := [.slice acode code.length kcode]) func20 Z ntmps20 Z (q2 (o_alloc H zeroValue27 Z Z ?_)); intro b1 w1 hb1 H
 refine aG Z (aG Z (q1 (mV Z (o_call call36 Z Z (l6Open_c _ _ H.sub _ _ hcode ) ?_))))
 rintro _ w2 ⟨G2, _, _, g2, rfl, ⟨rb2, ab2, mb2, kb2, bs2, rfl, rfl, hbs2⟩, hp2, hq2, hs2⟩
 have H := H.growO g2 hp2 hq2 hs2
 refine ⟨_, Z, ?_⟩
 refine aG Z (q1 (mV Z (o_call call37 Z Z (l91Disk_c _ _ H.sub _ _ _ _ _ _ hbs2 (H.blkIs (k := 0) Z).1 (H.blkIs (k := 0) Z).2 oM ) ?_)))
 rintro _ w3 ⟨G3, _, _, rfl, H3', ⟨p3, v13, v23, v33, st3, tr3, sn3, hp3, rfl, hst3, htr3, hsn3, rfl⟩⟩
 have hbs2 := hbs2.up H3'.le
 have H := H.borrow (k := 0) rfl H3'
 obtain ⟨sta3, stc3, rfl⟩ := hst3.shape; have hx_hst3 : _ ≤ 1099511627776 := hst3.lim; obtain ⟨tra3, trc3, rfl⟩ := htr3.shape; have hx_htr3 : _ ≤ 1099511627776 := htr3.lim; obtain ⟨sna3, snc3, rfl⟩ := hsn3.shape; have hx_hsn3 : _ ≤ 1099511627776 := hsn3.lim
 refine ⟨_, Z, ?_⟩
 refine o_alloc H zeroValue27 Z Z ?_; intro b4 w4 hb4 H
 refine o_store_B 0 H sizeOf27 Z Z Z Z Z Z Z Z ?_; intro w5 H
 refine q3 (W_seq (W_drawK [0] 10 H kR Z ?_)); intro w6 H; have hd6 := PLe.refl G3
 refine RD_t 0 Z kR Z (fun _ hK => v_loadagg_B 0 hK isAgg27 sizeOf27 Z Z Z Z) (vM 1 Z Z (RD_t 2 Z kR Z (fun _ hK => v_fieldAddr 1 runUnderlying27 Z sizeOf24 Z Z) (RD_t 3 Z kR Z (fun _ hK => v_load_B 0 hK isAgg24 Z Z Z) (vM 5 Z Z ?_))))
 refine RD_run [4] kR Z (RDs.cons Z ?_ RDs.nil)
 refine o_call call54 Z Z (l91At_c _ _ H.sub _ _ _ _ _ _ hbs2 (H.blkIs (k := 1) Z).1 (H.blkIs (k := 1) Z).2 oM _ _ htr3 ) ?_
 rintro _ w7 ⟨G7, _, _, rfl, H7', ⟨p7, x7, hp7, rfl, hxs7, rfl⟩⟩
 have hbs2 := hbs2.up H7'.le
 have hst3 := hst3.up H7'.le
 have htr3 := htr3.up H7'.le
 have hsn3 := hsn3.up H7'.le
 have hd6 := hd6.trans H7'.le
 have H := H.borrow (k := 1) rfl H7'
 refine ⟨_, Z, ?_⟩
 refine R_nil (N_DK (Kn.of' H hd6 (SubL.cons 1 Z SubL.nil)) ?_)
 refine RD_run [6] kR Z (RDs.cons Z ?_ RDs.nil)
 refine o_call call60 Z Z (l91File_c _ _ H.sub _ _ _ _ _ _ hbs2 (H.blkIs (k := 0) Z).1 (H.blkIs (k := 0) Z).2 oM ) ?_
 rintro _ w8 ⟨G8, _, _, rfl, H8', ⟨p8, x8, v8, c8, hp8, rfl, hchk8, hxl8, rfl⟩⟩
 have hst3 := hst3.up H8'.le
 have htr3 := htr3.up H8'.le
 have hsn3 := hsn3.up H8'.le
 have hd6 := hd6.trans H8'.le
 have H := H.borrow (k := 0) rfl H8'
 obtain ⟨av8, cv8, rfl⟩ := H.accShape (k := 0) rfl
 refine ⟨_, Z, ?_⟩
 refine R_nil (N_DK (Kn.of' H hd6 (SubL.cons 2 Z SubL.nil)) ?_)
 refine RD_run [7] kR Z (RDs.cons Z ?_ RDs.nil)
 refine o_store_B 3 H sizeOf27 Z Z Z Z Z Z Z Z ?_; intro w9 H
 refine R_nil (N_DK (Kn.of' H hd6 (SubL.cons 2 Z SubL.nil)) (RD_t 8 Z kR Z (fun _ hK => v_assign Z) (RD_t 9 Z kR Z (fun _ hK => v_assign Z) (RD_done kR (N_K (W_ret (ret_gen (rs := [.cell 2 27, .tmp 3, .tmp 4]) (vs := [_, _, _]) results20 ⟨⟨_, Z, load_blk 3 H isAgg27 sizeOf27 Z Z Z⟩, Z, Z, trivial⟩ ?_)))))))
 obtain ⟨G10, H, hsg10, hsr10⟩ := H.shut' (k := 0) rfl hchk8 aN aN
 have hst3 := hst3.up hsg10
 have htr3 := htr3.up hsg10
 have hsn3 := hsn3.up hsg10
 have H := H.del (k := 0) rfl
 have H := H.del (k := 0) rfl
 have H := H.del (k := 0) rfl
 exact H.retP ⟨_, ⟨st3, tr3, sn3⟩, _, _, _, Z, ⟨_, _, _, _, _, _, _, _, _, Z, hst3, htr3, hsn3⟩, hxs7, hsr10⟩
end Go.Proofs.Tst

namespace Go.Proofs.Tst
open Go Fw Tryz
theorem w_sameSnap_c (w0 : World) (G0 : PH) (hG : PSub G0 w0) (ca : List Value) (a : BSnap) (ha : snapE G0 a ca) (cb : List Value) (b : BSnap) (hb : snapE G0 b cb) (hab : a = b) :
  Calls Tryz.prog 71 #[.agg ca.toArray, .agg cb.toArray] w0 (Rets w0 (.bool true)) := by
 obtain ⟨a1, m1, c1, rfl, hi1, hr1⟩ := ha; have hy_hi1 : _ ≤ 16777216 := hi1; have hn_hr1 := hr1.len; have hx_hr1 : _ ≤ 1099511627776 := hr1.lim
 obtain ⟨a2, m2, c2, rfl, hi2, hr2⟩ := hb; have hy_hi2 : _ ≤ 16777216 := hi2; have hn_hr2 := hr2.len; have hx_hr2 : _ ≤ 1099511627776 := hr2.lim
 have H := Hp.init hG
 refine calls_of_W (l := [_, _]) func71 Z ntmps71 Z (q2 (o_box H Z Z Z ?_)); intro b3 w3 hb3 H
 refine o_box H Z Z Z ?_; intro b4 w4 hb4 H
 refine aG Z (q1 (o_fieldAddr 0 runUnderlying81 Z sizeOf9 Z Z Z (o_load_B 1 H isAgg9 Z Z Z Z (o_fieldAddr 0 runUnderlying81 Z sizeOf9 Z Z Z (o_load_B 0 H isAgg9 Z Z Z Z (o_seql Z Z Z (mV Z ?_)))))))
 refine R_case (t := 10) Z ?_ ?_
 ·intro hc5
  try simp only [nrm] at hc5
  refine gR Z (o_fieldAddr 1 runUnderlying81 Z sizeOf24 Z Z Z (gR Z (o_load_B 1 H isAgg24 Z Z Z Z (gR Z (o_fieldAddr 1 runUnderlying81 Z sizeOf24 Z Z Z (gR Z (o_load_B 0 H isAgg24 Z Z Z Z (gR Z (o_call call25 Z Z (w_sameTree_c _ _ H.sub _ _ hr1 _ _ hr2 (congrArg BSnap.tree hab)) ?_)))))))))
  rintro _ w6 ⟨rfl, ew6⟩; have H := H.step ew6; refine ⟨_, rfl, ?_⟩
  refine o_pick_t Z Z Z (aG Z (q3 (W_ret (rt1 results71 Z ?_))))
  exact H.rets Z
 intro hc5'
 try simp only [nrm] at hc5'
 refine rP Z (rP Z (rP Z (rP Z (rP Z (o_pick_f Z Z Z (aG Z (q3 (W_ret (rt1 results71 Z ?_)))))))))
 exact absurd (show False from by simp [hab] at hc5') id
theorem w_sameSnaps_c (w0 : World) (G0 : PH) (hG : PSub G0 w0) (va : Value) (a : List (BSnap)) (ha : RdSn G0 va a) (vb : Value) (b : List (BSnap)) (hb : RdSn G0 vb b) (hab : a = b) :
  Calls Tryz.prog 29 #[va, vb] w0 (Rets w0 (.bool true)) := by
 obtain ⟨aa, ka, rfl⟩ := ha.shape
 have hlima : a.length ≤ 1099511627776 := ha.lim
 obtain ⟨ab, kb, rfl⟩ := hb.shape
 have hlimb : b.length ≤ 1099511627776 := hb.lim
 have hle := congrArg List.length hab
 have H := Hp.init hG
 refine calls_of_W (l := [.slice aa a.length ka, .slice ab b.length kb]) func29 Z ntmps29 Z (q2 (aG Z (q3 (W_seq (q2 (mV Z (o_len_slice underlying25 Z Z (mV Z (o_len_slice underlying25 Z Z (o_neq Z Z Z (q3 ?_)))))))))))
 refine W_cond Z ?_ ?_
 ·intro hc1
  try simp only [nrm] at hc1
  refine q2 (aG Z (q3 (W_ret (N_K_ret (rt1 results29 Z ?_)))))
  exact absurd (show False from by omega) id
 intro hc1'
 try simp only [nrm] at hc1'
 refine W_skip (N_K (W_seq (q2 (aG Z (q3 (W_block ?_))))))
 refine W_lp (hf := (Sub.cons (t := 0) Z (Sub.cons (t := 1) Z Sub.nil))) (J := fun M w m => ∃ (k : Nat) (G : PH), M = [(5, .int .i64 (k : Int))] ∧ PLe G0 G ∧ Hp w0 G0 [] w G [] ∧ (k ≤ a.length) ∧ m = (a.length - k)) (h0 := ⟨0, _, Z, PLe.refl _, H, ?inv, Z⟩) (round := ?round)
 case inv => omega
 case round =>
  rintro _ w2 _ ⟨k, G2, rfl, hle2, H, hinv2, rfl⟩
  have ha := ha.up hle2
  have hb := hb.up hle2
  have hk := hinv2
  refine W_seq (q2 (mV Z (mV Z (o_len_slice underlying25 Z Z (o_lss Z Z Z (q3 ?_))))))
  refine W_cond Z ?_ ?_
  ·intro hc3
   try simp only [nrm] at hc3
   refine W_skip (N_K (W_seq (W_block (W_seq (W_drawK [] 10 H kR Z ?_))))); intro w4 H; have hd4 := PLe.refl G2
   refine vM 0 Z Z (vM 1 Z Z ?_)
   have hl5 := ha.len
   obtain ⟨b5, o5, z5, q5, ha5, hz5, hq5, hE5, hrow5, _⟩ := ha.at (i := k) oM
   clear hq5
   obtain ⟨a5, m5, c5, rfl, hi5, hr5⟩ := hE5; have hy_hi5 : _ ≤ 16777216 := hi5; have hn_hr5 := hr5.len; have hx_hr5 : _ ≤ 1099511627776 := hr5.lim
   refine RD_t 2 Z kR Z (fun _ hK => v_index_P (i := k) ha5 underlying25 sizeOf81 Z Z Z oM) (RD_t 3 Z kR Z (fun _ hK => v_loadagg_P hK isAgg81 sizeOf81 Z hrow5 Z) (vM 4 Z Z (vM 5 Z Z ?_)))
   have hl6 := hb.len
   obtain ⟨b6, o6, z6, q6, ha6, hz6, hq6, hE6, hrow6, _⟩ := hb.at (i := k) oM
   clear hq6
   obtain ⟨a6, m6, c6, rfl, hi6, hr6⟩ := hE6; have hy_hi6 : _ ≤ 16777216 := hi6; have hn_hr6 := hr6.len; have hx_hr6 : _ ≤ 1099511627776 := hr6.lim
   refine RD_t 6 Z kR Z (fun _ hK => v_index_P (i := k) ha6 underlying25 sizeOf81 Z Z Z oM) (RD_t 7 Z kR Z (fun _ hK => v_loadagg_P hK isAgg81 sizeOf81 Z hrow6 Z) ?_)
   refine RD_run [8] kR Z (RDs.cons Z ?_ RDs.nil)
   refine o_call call71 Z Z (w_sameSnap_c _ _ H.sub _ _ ⟨_, _, _, Z, hi5, hr5⟩ _ _ ⟨_, _, _, Z, hi6, hr6⟩ (Sp.same_at hab hz5 hz6)) ?_
   rintro _ w7 ⟨rfl, ew7⟩; have H := H.step ew7; refine ⟨_, rfl, ?_⟩
   refine R_nil (N_DK (Kn.of' H hd4 SubL.nil) (RD_t 9 Z kR Z (fun _ hK => v_not Z) (RD_done kR (N_K (W_false Z (W_skip (N_B (N_K (W_region (mV Z (o_add Z Z Z oO (aG Z (R_nil ?_)))))))))))))
   refine N_lp (hJ := ⟨k + 1, _, Z, hle2, H, ?inv, Z⟩) (hm := ?hm)
   case hm => omega
   case inv => omega
  intro hc3'
  try simp only [nrm] at hc3'
  refine W_exit (N_K_exit (N_LP_exit (N_B_same (N_K (q2 (aG Z (q3 (W_ret (rt1 results29 Z ?_)))))))))
  exact H.rets Z
theorem w_sameDisk_c (w0 : World) (G0 : PH) (hG : PSub G0 w0) (ca : List Value) (a : BDisk) (ha : diskE G0 a ca) (cb : List Value) (b : BDisk) (hb : diskE G0 b cb) (hab : a = b) :
  Calls Tryz.prog 13 #[.agg ca.toArray, .agg cb.toArray] w0 (Rets w0 (.bool true)) := by
 obtain ⟨a1, m1, c1, a1', m1', c1', a1'', m1'', c1'', rfl, hr1, hr1', hr1''⟩ := ha; have hn_hr1 := hr1.len; have hx_hr1 : _ ≤ 1099511627776 := hr1.lim; have hn_hr1q := hr1'.len; have hx_hr1q : _ ≤ 1099511627776 := hr1'.lim; have hn_hr1qq := hr1''.len; have hx_hr1qq : _ ≤ 1099511627776 := hr1''.lim
 obtain ⟨a2, m2, c2, a2', m2', c2', a2'', m2'', c2'', rfl, hr2, hr2', hr2''⟩ := hb; have hn_hr2 := hr2.len; have hx_hr2 : _ ≤ 1099511627776 := hr2.lim; have hn_hr2q := hr2'.len; have hx_hr2q : _ ≤ 1099511627776 := hr2'.lim; have hn_hr2qq := hr2''.len; have hx_hr2qq : _ ≤ 1099511627776 := hr2''.lim
 have H := Hp.init hG
 refine calls_of_W (l := [_, _]) func13 Z ntmps13 Z (q2 (o_box H Z Z Z ?_)); intro b3 w3 hb3 H
 refine o_box H Z Z Z ?_; intro b4 w4 hb4 H
 refine aG Z (q1 (o_fieldAddr 0 runUnderlying27 Z sizeOf23 Z Z Z (o_load_B 1 H isAgg23 Z Z Z Z (o_fieldAddr 0 runUnderlying27 Z sizeOf23 Z Z Z (o_load_B 0 H isAgg23 Z Z Z Z (o_call call24 Z Z (w_sameStore_c _ _ H.sub _ _ hr1 _ _ hr2 (congrArg BDisk.store hab)) ?_))))))
 rintro _ w5 ⟨rfl, ew5⟩; have H := H.step ew5; refine ⟨_, rfl, ?_⟩
 refine mV Z (gR Z (o_fieldAddr 1 runUnderlying27 Z sizeOf24 Z Z Z (gR Z (o_load_B 1 H isAgg24 Z Z Z Z (gR Z (o_fieldAddr 1 runUnderlying27 Z sizeOf24 Z Z Z (gR Z (o_load_B 0 H isAgg24 Z Z Z Z (gR Z (o_call call25 Z Z (w_sameTree_c _ _ H.sub _ _ hr1' _ _ hr2' (congrArg BDisk.tree hab)) ?_))))))))))
 rintro _ w6 ⟨rfl, ew6⟩; have H := H.step ew6; refine ⟨_, rfl, ?_⟩
 refine o_pick_t Z Z Z (mV Z (gR Z (o_fieldAddr 2 runUnderlying27 Z sizeOf25 Z Z Z (gR Z (o_load_B 1 H isAgg25 Z Z Z Z (gR Z (o_fieldAddr 2 runUnderlying27 Z sizeOf25 Z Z Z (gR Z (o_load_B 0 H isAgg25 Z Z Z Z (gR Z (o_call call29 Z Z (w_sameSnaps_c _ _ H.sub _ _ hr1'' _ _ hr2'' (congrArg BDisk.snaps hab)) ?_)))))))))))
 rintro _ w7 ⟨rfl, ew7⟩; have H := H.step ew7; refine ⟨_, rfl, ?_⟩
 refine o_pick_t Z Z Z (aG Z (q3 (W_ret (rt1 results13 Z ?_))))
 exact H.rets Z
end Go.Proofs.Tst

namespace Go.Proofs.Tst
open Go Fw Tryz
theorem i_TreeFindI_c (w0 : World) (G0 : PH) (hG : PSub G0 w0) (vlist : Value) (list : List (BItem)) (hlist : RdItems G0 vlist list) (path : Bs) (hpath : path.length ≤ 16777216)  :
  Calls Tryz.prog 50 #[vlist, str path] w0 (RetP w0 G0 (fun G v => ∃ cs, v = .tuple #[.agg cs.toArray, .bool (Sp.TreeFind list path).isSome] ∧ itemE G ((Sp.TreeFind list path).getD ⟨[], false, []⟩) cs)) := by
 obtain ⟨alist, klist, rfl⟩ := hlist.shape
 have hlimlist : list.length ≤ 1099511627776 := hlist.lim
 have H := Hp.init hG
 refine calls_of_W (l := [.slice alist list.length klist, str path]) func50 Z ntmps50 Z (q2 (o_alloc H zeroValue37 Z Z ?_)); intro b1 w1 hb1 H
 refine aG Z (q1 (mV Z (o_call call105 Z Z (i_openTree_c _ _ H.sub _ _ hlist H.lent0 ) ?_)))
 rintro _ w2 ⟨G2, _, _, rfl, H2', ⟨rfl, rfl, hv2⟩ | ⟨T2, F2, rfl, rfl, hN2, hT2, hv2⟩⟩
 ·skip
  have H := H.borrow0 H2'
  refine ⟨_, Z, ?_⟩
  refine mV Z (o_extract Z Z Z (o_extract Z Z Z (aG Z (aG Z (q3 (W_seq (q2 (mV Z (o_not Z Z (q3 (W_true Z (q2 (o_build bf37 Z Z Z (o_store_B 0 H sizeOf37 Z Z Z Z Z Z Z Z ?_)))))))))))))); intro w3 H
  refine aG Z (q3 (W_ret (N_K_ret (ret_gen (rs := [.cell 4 37, .tmp 5]) (vs := [_, _]) results50 ⟨⟨_, Z, load_blk 0 H isAgg37 sizeOf37 Z Z Z⟩, Z, trivial⟩ ?_))))
  have H := H.del (k := 0) rfl
  have hp : Sp.TreeFind list path = none := (by first | exact Sp.tf_bad (by assumption) | exact Sp.tf_no (by assumption) (by assumption))
  exact H.retP ⟨_, (by (rw [hp]; rfl)), (by (rw [hp]; exact ⟨_, _, _, rfl, by decide, RdS.nil _ _ _⟩))⟩
 skip
 have H := H.borrow0 H2'
 refine ⟨_, Z, ?_⟩
 refine mV Z (o_extract Z Z Z (o_extract Z Z Z (aG Z (aG Z (q3 (W_seq (q2 (mV Z (o_not Z Z (q3 (W_false Z (W_skip (N_K (q2 (mV Z ?_)))))))))))))))
 refine mV Z (o_call call106 Z Z (i_find_n_c _ _ (H.lendSubL [0]) _ ((H.lendN (k := 0) (ks := [0]) Z Z hN2).at (show Nd.at_ T2 [] = some T2 from Z)) _ hpath hT2.wf) ?_)
 rintro _ w4 ⟨_, rfl, ew4, ⟨hfi4, rfl⟩ | ⟨d4, hfi4, rfl⟩⟩
 ·skip
  have H := H.step ew4; refine ⟨_, rfl, ?_⟩
  refine aG Z (q3 (W_seq (q2 (mV Z (o_eqnil_ptr underlying97 Z Z Z (q3 (W_true Z (q2 (o_build bf37 Z Z Z (o_store_B 1 H sizeOf37 Z Z Z Z Z Z Z Z ?_)))))))))); intro w5 H
  refine aG Z (q3 (W_ret (N_K_ret (ret_gen (rs := [.cell 4 37, .tmp 5]) (vs := [_, _]) results50 ⟨⟨_, Z, load_blk 1 H isAgg37 sizeOf37 Z Z Z⟩, Z, trivial⟩ ?_))))
  have H := H.del (k := 0) rfl
  have H := H.del (k := 0) rfl
  have hp : Sp.TreeFind list path = none := (by first | exact Sp.tf_bad (by assumption) | exact Sp.tf_no (by assumption) (by assumption))
  exact H.retP ⟨_, (by (rw [hp]; rfl)), (by (rw [hp]; exact ⟨_, _, _, rfl, by decide, RdS.nil _ _ _⟩))⟩
 skip
 have H := H.step ew4; refine ⟨_, rfl, ?_⟩
 refine aG Z (q3 (W_seq (q2 ?_)))
 obtain ⟨oa, om, oc, okv, oFs, oR, H, ohri, ohNs, ohnl, ohkl, hcov, hclose⟩ := Hp.openNode H hN2 (Nd.find_at_ hfi4)
 obtain ⟨oak, ock, rfl⟩ := H.accShape (k := 1) rfl; have hdo := PLe.refl G2; have hn_ohri := ohri.len
 refine mV Z (o_eqnil_ptr underlying97 Z Z Z (q3 (W_false Z (W_skip (N_K (W_seq (W_drawK [0] 12 H kR Z ?_))))))); intro w6 H; have hd6 := PLe.refl G2
 refine vM 0 Z Z (vM 1 Z Z (RD_t 2 Z kR Z (fun _ hK => v_nilCheck Z) (RD_t 3 Z kR Z (fun _ hK => v_fieldAddr 1 runUnderlying149 Z sizeOf4 Z Z) (RD_t 4 Z kR Z (fun _ hK => v_load_B 0 hK isAgg4 Z Z Z) (vM 5 Z Z (RD_t 6 Z kR Z (fun _ hK => v_nilCheck Z) (RD_t 7 Z kR Z (fun _ hK => v_fieldAddr 2 runUnderlying149 Z sizeOf33 Z Z) (RD_t 8 Z kR Z (fun _ hK => v_load_B 0 hK isAgg33 Z Z Z) (RD_t 9 Z kR Z (fun _ hK => v_build bf37 Z Z) ?_)))))))))
 refine RD_run [10] kR Z (RDs.cons Z ?_ RDs.nil)
 refine o_store_B 3 H sizeOf37 Z Z Z Z Z Z Z Z ?_; intro w7 H
 refine R_nil (N_DK (Kn.of' H hd6 (SubL.cons 0 Z SubL.nil)) (RD_t 11 Z kR Z (fun _ hK => v_assign Z) (RD_done kR (N_K (W_ret (ret_gen (rs := [.cell 4 37, .tmp 5]) (vs := [_, _]) results50 ⟨⟨_, Z, load_blk 3 H isAgg37 sizeOf37 Z Z Z⟩, Z, trivial⟩ ?_))))))
 have H := H.del (k := 0) rfl
 have H := H.del (k := 0) rfl
 have H := H.del (k := 0) rfl
 have H := H.del (k := 0) rfl
 have hp : Sp.TreeFind list path = some ⟨path, d4.dir, d4.ids⟩ := Sp.tf_yes hT2 hfi4
 exact H.retP ⟨_, (by (rw [hp]; rfl)), (by (rw [hp]; exact ⟨_, _, _, rfl, hpath, ohri⟩))⟩
theorem i_FileLoad_c (w0 : World) (G0 : PH) (hG : PSub G0 w0) (vlist : Value) (list : List (BHeld)) (hlist : RdH G0 vlist list) (vids : Value) (ids : List (Int)) (hids : RdI G0 vids ids)  :
  Calls Tryz.prog 51 #[vlist, vids] w0 (RetN w0 G0 (fun v Bs => ∃ (uv : Value) (c : List Value) (xs : List Int), v = .tuple #[uv, .bool (Sp.FileLoad list ids).isSome] ∧ Bs = [acc 3 1 uv xs.length c] ∧ Chk intE 1 (fun _ => none) c xs ∧ xs.length ≤ 1000 ∧ (∀ ys, Sp.FileLoad list ids = some ys → xs = ys) ∧ (Sp.FileLoad list ids = none → xs = []))) := by
 obtain ⟨alist, klist, rfl⟩ := hlist.shape
 have hlimlist : list.length ≤ 1099511627776 := hlist.lim
 obtain ⟨aids, kids, rfl⟩ := hids.shape
 have hlimids : ids.length ≤ 1099511627776 := hids.lim
 have H := Hp.init hG
 refine calls_of_W (l := [.slice alist list.length klist, .slice aids ids.length kids]) func51 Z ntmps51 Z (q2 (aG Z (aG Z (q1 (mV Z (o_call call107 Z Z (i_openStore_c _ _ H.sub _ _ hlist H.lent0 ) ?_))))))
 rintro _ w1 ⟨G1, _, _, rfl, H1', ⟨hnv1, rfl, rfl⟩ | ⟨hV1, mb1, es1, ck1, xs1, rfl, rfl, hm1, hS1⟩⟩
 ·skip
  have H := H.borrow0 H1'
  refine ⟨_, Z, ?_⟩
  refine mV Z (o_extract Z Z Z (o_extract Z Z Z (aG Z (aG Z (q3 (W_seq (q2 (mV Z (o_not Z Z (q3 (W_true Z (q2 (aG Z (aG Z (q3 ?_)))))))))))))))
  refine W_ret (N_K_ret (rt2 results51 Z Z ?_))
  have H := H.addNil 3 1
  have hno : Sp.FileLoad list ids = none := by (simp [Sp.FileLoad, show Sp.StoreValid list = false by assumption])
  have H := H.forget hG (by simp)
  exact ⟨_, _, rfl, H, _, _, [], (by (rw [hno]; rfl)), rfl, (Chk.nil (E := intE) (sz := 1) (G := G1)), by simp, fun ys h => (by rw [hno] at h; cases h), fun _ => rfl⟩
 skip
 have hids := hids.up H1'.le
 have H := H.borrow0 H1'
 refine ⟨_, Z, ?_⟩
 refine mV Z (o_extract Z Z Z (o_extract Z Z Z (aG Z (aG Z (q3 (W_seq (q2 (mV Z (o_not Z Z (q3 (W_false Z (W_skip (N_K (q2 (mV Z ?_)))))))))))))))
 refine mV Z (o_call call108 Z Z (i_loadFile_c _ _ (H.lendSubL [0]) _ _ _ _ _ (H.lendPredL (k := 0) (ks := [0]) Z Z) hm1 (hS1.up (PPlus.le _ _ _)) hV1 _ _ (hids.up (PPlus.le _ _ _)) ) ?_)
 rintro _ w2 ⟨_, _, rfl, H2', ⟨u2, c2, xs2, rfl, rfl, hchk2, hxl2, hxs2, hxn2⟩⟩
 have H := H.readersL H2'
 obtain ⟨avr2, cvr2, rfl⟩ := H.accShape (k := 0) rfl
 refine ⟨_, Z, ?_⟩
 refine o_extract Z Z Z (o_extract Z Z Z (aG Z (aG Z (q3 (W_ret (rt2 results51 Z Z ?_))))))
 have H := H.del (k := 1) rfl
 have hd : Sp.FileLoad list ids = if Sp.l4Ids list ids then some (Sp.load list ids) else none := by (have hq := Sp.valid_iff.2 hV1; simp [Sp.FileLoad, hq])
 have H := H.forget hG (by simp)
 exact ⟨_, _, rfl, H, _, _, xs2, (by (rw [hd]; cases Sp.l4Ids list ids <;> rfl)), acc_1 rfl, chkI (G := fun _ => none) ((chkI hchk2)), hxl2, fun ys h => (by (rw [hd] at h; by_cases hq : Sp.l4Ids list ids = true; (· (rw [if_pos hq] at h); cases h; exact hxs2 hq); (· (rw [if_neg hq] at h); cases h))), fun h => hxn2 (by (rw [hd] at h; by_cases hq : Sp.l4Ids list ids = true; (· (rw [if_pos hq] at h); cases h); (· simpa using hq)))⟩
end Go.Proofs.Tst

namespace Go.Proofs.Tst
open Go Fw Tryz
theorem w_readTree_c (w0 : World) (G0 : PH) (hG : PSub G0 w0) (cd : List Value) (d : BDisk) (hd : diskE G0 d cd) (path : Bs) (hpath : path.length ≤ 16777216)  :
  Calls Tryz.prog 14 #[.agg cd.toArray, str path] w0 (RetN w0 G0 (fun v Bs => ∃ (uv : Value) (c : List Value) (xs : List Int), v = .tuple #[uv, .bool (Sp.readT d path).isSome] ∧ Bs = [acc 3 1 uv xs.length c] ∧ Chk intE 1 (fun _ => none) c xs ∧ xs.length ≤ 1000 ∧ (∀ ys, Sp.readT d path = some ys → xs = ys) ∧ (Sp.readT d path = none → xs = []))) := by
 obtain ⟨a1, m1, c1, a1', m1', c1', a1'', m1'', c1'', rfl, hr1, hr1', hr1''⟩ := hd; have hn_hr1 := hr1.len; have hx_hr1 : _ ≤ 1099511627776 := hr1.lim; have hn_hr1q := hr1'.len; have hx_hr1q : _ ≤ 1099511627776 := hr1'.lim; have hn_hr1qq := hr1''.len; have hx_hr1qq : _ ≤ 1099511627776 := hr1''.lim
 have H := Hp.init hG
 refine calls_of_W (l := [_, str path]) func14 Z ntmps14 Z (q2 (o_box H Z Z Z ?_)); intro b2 w2 hb2 H
 refine aG Z (aG Z (q1 (o_fieldAddr 1 runUnderlying27 Z sizeOf24 Z Z Z (o_load_B 0 H isAgg24 Z Z Z Z (mV Z (o_call call50 Z Z (i_TreeFindI_c _ _ H.sub _ _ hr1' _ hpath ) ?_))))))
 rintro _ w3 ⟨G3, _, g3, rfl, u3_0, rfl, hr3_0⟩
 have H := H.grow g3
 have hr1 := hr1.up g3.le
 obtain ⟨a4, m4, c4, rfl, hi4, hr4⟩ := hr3_0; have hy_hi4 : _ ≤ 16777216 := hi4; have hn_hr4 := hr4.len; have hx_hr4 : _ ≤ 1099511627776 := hr4.lim
 refine ⟨_, Z, ?_⟩
 refine mV Z (o_extract Z Z Z (o_extract Z Z Z (o_alloc H zeroValue37 Z Z ?_))); intro b5 w5 hb5 H
 refine o_store_B 0 H sizeOf37 Z Z Z Z Z Z Z Z ?_; intro w6 H
 refine aG Z (q3 (W_seq (q2 (mV Z (o_not Z Z (mV Z ?_))))))
 refine R_case (t := 17) Z ?_ ?_
 ·intro hc7
  try simp only [nrm] at hc7
  refine rP Z (rP Z (o_pick_t Z Z Z (q3 (W_true Z (q2 (o_buildSlice H underlying33 sizeOf3 (fun w => ⟨_, zeroValue3 w, Z⟩) Z Z Z Z Z Z Z ?_)))))); intro b8 w8 hb8 H
  have H := H.blkAcc 1 (k := 0) (n := 0) rfl rfl (by decide)
  refine aG Z (aG Z (q3 (W_ret (N_K_ret (rt2 results14 Z Z ?_)))))
  have H := H.del (k := 1) rfl
  have H := H.del (k := 1) rfl
  have hno : Sp.readT d path = none := (by first | exact Sp.readT_no1 (by simpa using hc7) | exact Sp.readT_no2 (by simpa using hc7))
  have H := H.forget hG (by simp)
  exact ⟨_, _, rfl, H, _, _, [], (by (rw [hno]; rfl)), rfl, chkI (G := fun _ => none) ((Chk.nil (E := intE) (sz := 1) (G := G3))), by simp, fun ys h => (by rw [hno] at h; cases h), fun _ => rfl⟩
 intro hc7'
 try simp only [nrm] at hc7'
 refine gR Z (o_fieldAddr 1 runUnderlying37 Z sizeOf4 Z Z Z (gR Z (o_load_B 0 H isAgg4 Z Z Z Z (o_pick_f Z Z Z (q3 ?_)))))
 refine W_cond Z ?_ ?_
 ·intro hc9
  try simp only [nrm] at hc9
  refine q2 (o_buildSlice H underlying33 sizeOf3 (fun w => ⟨_, zeroValue3 w, Z⟩) Z Z Z Z Z Z Z ?_); intro b10 w10 hb10 H
  have H := H.blkAcc 1 (k := 0) (n := 0) rfl rfl (by decide)
  refine aG Z (aG Z (q3 (W_ret (N_K_ret (rt2 results14 Z Z ?_)))))
  have H := H.del (k := 1) rfl
  have H := H.del (k := 1) rfl
  have hno : Sp.readT d path = none := (by first | exact Sp.readT_no1 (by simpa using hc9) | exact Sp.readT_no2 (by simpa using hc9))
  have H := H.forget hG (by simp)
  exact ⟨_, _, rfl, H, _, _, [], (by (rw [hno]; rfl)), rfl, chkI (G := fun _ => none) ((Chk.nil (E := intE) (sz := 1) (G := G3))), by simp, fun ys h => (by rw [hno] at h; cases h), fun _ => rfl⟩
 intro hc9'
 try simp only [nrm] at hc9'
 refine W_skip (N_K (q2 (o_fieldAddr 0 runUnderlying27 Z sizeOf23 Z Z Z (o_load_B 1 H isAgg23 Z Z Z Z (o_fieldAddr 2 runUnderlying37 Z sizeOf33 Z Z Z (o_load_B 0 H isAgg33 Z Z Z Z (o_call call51 Z Z (i_FileLoad_c _ _ H.sub _ _ hr1 _ _ hr4 ) ?_)))))))
 rintro _ w11 ⟨_, _, rfl, H11', ⟨u11, c11, xs11, rfl, rfl, hchk11, hxl11, hxs11, hxn11⟩⟩
 have H := H.readers (fp := []) (by simp) (PLe.refl _) H11'
 obtain ⟨avr11, cvr11, rfl⟩ := H.accShape (k := 0) rfl
 refine ⟨_, Z, ?_⟩
 refine o_extract Z Z Z (o_extract Z Z Z (aG Z (aG Z (q3 (W_ret (rt2 results14 Z Z ?_))))))
 have H := H.del (k := 1) rfl
 have H := H.del (k := 1) rfl
 have hd : Sp.readT d path = _ := Sp.readT_yes (by simpa using hc7') (by simpa using hc9')
 have H := H.forget hG (by simp)
 exact ⟨_, _, rfl, H, _, _, xs11, (by (rw [hd]; rfl)), acc_1 rfl, chkI (G := fun _ => none) ((chkI hchk11)), hxl11, fun ys h => hxs11 ys (by (rw [hd] at h; exact h)), fun h => hxn11 (by (rw [hd] at h; exact h))⟩
end Go.Proofs.Tst

