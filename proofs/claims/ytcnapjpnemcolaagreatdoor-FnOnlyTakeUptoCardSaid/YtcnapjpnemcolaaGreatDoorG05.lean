/- Part 5 of the proof: contracts of functions of the program. Conditions: none. -/
import Derived.Test.YtcnapjpnemcolaaGreatDoorProg
import Derived.Test.YtcnapjpnemcolaaGreatDoorG02
import Derived.Test.YtcnapjpnemcolaaGreatDoorG03
import Derived.Test.YtcnapjpnemcolaaGreatDoorG04
set_option linter.all false
set_option maxRecDepth 100000
set_option maxHeartbeats 1000000
namespace Go.Proofs.Tst
open Go Fw Tryz
theorem l_isNaN_c (w0 : World) (x : Bs) (hx : x.length ≤ 16777216)  :
  Calls Tryz.prog 200 #[str x] w0 (Rets w0 (.bool false)) := by
 have H := Hp.init0 w0
 refine calls_of_W (l := [str x]) func200 Z ntmps200 Z (q2 (aG Z (q1 (mV Z (mV Z (o_sneq Z Z Z (aG Z (q3 (W_ret (rt1 results200 Z ?_))))))))))
 exact H.rets (congrArg Value.bool (by simp))
theorem l_Compare_c (w0 : World) (x : Bs) (hx : x.length ≤ 16777216) (y : Bs) (hy : y.length ≤ 16777216)  :
  Calls Tryz.prog 185 #[str x, str y] w0 (Rets w0 (.int .i64 (Sp.cmpB x y))) := by
 have H := Hp.init0 w0
 refine calls_of_W (l := [str x, str y]) func185 Z ntmps185 Z (q2 (aG Z (q1 (mV Z (o_call call200 Z Z (l_isNaN_c _ _ hx ) ?_)))))
 rintro _ w1 ⟨rfl, ew1⟩; have H := H.step ew1; refine ⟨_, rfl, ?_⟩
 refine aG Z (q1 (mV Z (o_call call200 Z Z (l_isNaN_c _ _ hy ) ?_)))
 rintro _ w2 ⟨rfl, ew2⟩; have H := H.step ew2; refine ⟨_, rfl, ?_⟩
 refine aG Z (q3 (W_seq (q2 (mV Z (q3 (W_false Z (W_skip (N_K (W_seq (q2 (mV Z (q3 (W_false Z (W_skip (N_K ?_)))))))))))))))
 refine W_seq (q2 (mV Z (mV Z (o_slss Z Z Z (q3 ?_)))))
 refine W_cond Z ?_ ?_
 ·intro hc3
  try simp only [nrm] at hc3
  refine q2 (aG Z (q3 (W_ret (N_K_ret (rt1 results185 Z ?_)))))
  exact H.rets (congrArg (Value.int .i64) (by unfold Sp.cmpB; simp_all))
 intro hc3'
 try simp only [nrm] at hc3'
 refine W_skip (N_K (W_seq (q2 (mV Z (mV Z (o_sgtr Z Z Z (q3 ?_)))))))
 refine W_cond Z ?_ ?_
 ·intro hc4
  try simp only [nrm] at hc4
  refine q2 (aG Z (q3 (W_ret (N_K_ret (rt1 results185 Z ?_)))))
  exact H.rets (congrArg (Value.int .i64) (by unfold Sp.cmpB; simp_all))
 intro hc4'
 try simp only [nrm] at hc4'
 refine W_skip (N_K (q2 (aG Z (q3 (W_ret (rt1 results185 Z ?_))))))
 exact H.rets (congrArg (Value.int .i64) (by unfold Sp.cmpB; simp_all))
theorem i_place1_c (w0 : World) (G0 : PH) (hG : PSub G0 w0) (t : Nd) (hndt : RdN G0 t) (nm : Bs) (hnm : nm.length ≤ 16777216)  :
  Calls Tryz.prog 184 #[.pointer (some ⟨t.b, 0, none⟩), str nm] w0 (Rets w0 (.int .i64 (Sp.cmpB t.name nm))) := by
 obtain ⟨hnlt, nat, nmt, nct, nAt, nMt, nCt, hprt, hrit, hrkt⟩ := hndt.open
 have hn_hrit := hrit.len; have hx_hrit : _ ≤ 1099511627776 := hrit.lim
 have hn_hrkt := hrkt.len; have hx_hrkt : _ ≤ 1099511627776 := hrkt.lim
 have H := Hp.init hG
 refine calls_of_W (l := [.pointer (some ⟨t.b, 0, none⟩), str nm]) func184 Z ntmps184 Z (q2 (aG Z (q1 (mV Z (o_nilCheck Z Z (o_fieldAddr 0 runUnderlying167 Z sizeOf9 Z Z Z (o_load_P H isAgg9 Z Z (hprt 0 _ Z) (mV Z (o_call call185 Z Z (l_Compare_c _ _ hnlt _ hnm ) ?_)))))))))
 rintro _ w1 ⟨rfl, ew1⟩; have H := H.step ew1; refine ⟨_, rfl, ?_⟩
 refine aG Z (q3 (W_ret (rt1 results184 Z ?_)))
 exact H.rets (congrArg (Value.int .i64) (by rfl))
theorem l_Search_c (w0 : World) (G0 : PH) (hG : PSub G0 w0) (vkids : Value) (kids : List (Nd)) (hkids : RdNd G0 vkids kids) (nm : Bs) (hnm : nm.length ≤ 16777216) (hsk : Sp.srt kids)  :
  Calls Tryz.prog 183 #[vkids, str nm, .func (.func 184) #[] #[]] w0 (Rets w0 (.tuple #[.int .i64 (Sp.pl kids nm : Nat), .bool (Sp.fd kids nm).isSome])) := by
 obtain ⟨akids, kkids, rfl⟩ := hkids.shape
 have hlimkids : kids.length ≤ 1099511627776 := hkids.lim
 have H := Hp.init hG
 refine calls_of_W (l := [.slice akids kids.length kkids, str nm, .func (.func 184) #[] #[]]) func183 Z ntmps183 Z (q2 (aG Z (aG Z (q1 (mV Z (o_len_slice underlying140 Z Z (aG Z (q1 (mV Z (aG Z (aG Z (q3 (W_seq (W_block ?_))))))))))))))
 refine W_lp (hf := (Sub.cons (t := 0) Z (Sub.cons (t := 1) Z (Sub.cons (t := 2) Z (Sub.cons (t := 6) Z (Sub.cons (t := 7) Z (Sub.cons (t := 8) Z Sub.nil))))))) (J := fun M w m => ∃ (i j : Nat) (G : PH), M = [(9, .int .i64 (i : Int)), (10, .int .i64 (j : Int))] ∧ PLe G0 G ∧ Hp w0 G0 [] w G [] ∧ (i ≤ j ∧ j ≤ kids.length ∧ (∀ (k : Nat) (x : Nd), k < i → kids[k]? = some x → Sp.lt x.name nm = true) ∧ (∀ (k : Nat) (x : Nd), j ≤ k → kids[k]? = some x → Sp.lt x.name nm = false)) ∧ m = (j - i)) (h0 := ⟨0, kids.length, _, Z, PLe.refl _, H, ?inv, Z⟩) (round := ?round)
 case inv => exact ⟨by omega, by omega, fun k x hk => by omega, fun k x hk hx => by have := (List.getElem?_eq_some_iff.1 hx).1; omega⟩
 case round =>
  rintro _ w1 _ ⟨i, j, G1, rfl, hle1, H, hinv1, rfl⟩
  have hkids := hkids.up hle1
  obtain ⟨hij, hjl, hlo, hhi⟩ := hinv1
  refine W_seq (q2 (mV Z (mV Z (o_lss Z Z Z (q3 ?_)))))
  refine W_cond Z ?_ ?_
  ·intro hc2
   try simp only [nrm] at hc2
   refine W_skip (N_K (W_block (q2 (mV Z (mV Z (o_add Z Z Z oO (o_conv (by simp [underlying3]) underlying196 Z Z (wrap_u64 oO) (o_shr1 Z Z Z (by decide) (o_conv (by simp [underlying196]) underlying3 Z Z (wrap_i64 oO) (aG Z (q1 (mV Z (mV Z (mV Z (o_index_P ((i + j) / 2) hkids underlying140 sizeOf65 Z Z Z oM aN ?_))))))))))))))); intro b4 o4 z4 q4 hz4 hE4 hrow4
   obtain ⟨rfl, hnd4⟩ := hE4; obtain ⟨hnl4, na4, nm4, nc4, nA4, nM4, nC4, hpr4, hri4, hrk4⟩ := hnd4.open; have hn_hri4 := hri4.len; have hx_hri4 : _ ≤ 1099511627776 := hri4.lim; have hn_hrk4 := hrk4.len; have hx_hrk4 : _ ≤ 1099511627776 := hrk4.lim
   refine o_load_P H isAgg65 Z Z (hrow4 0 _ Z) (mV Z (o_callv call184 Z Z Z (i_place1_c _ _ H.sub _ hnd4 _ hnm ) ?_))
   rintro _ w5 ⟨rfl, ew5⟩; have H := H.step ew5; refine ⟨_, rfl, ?_⟩
   refine o_lss Z Z Z (q3 ?_)
   refine W_cond Z ?_ ?_
   ·intro hc6
    try simp only [nrm] at hc6
    refine W_region (mV Z (o_add Z Z Z oO (aG Z (R_nil (N_B ?_)))))
    refine N_lp (hJ := ⟨((i + j) / 2 + 1), j, _, Z, hle1, H, ?inv, Z⟩) (hm := ?hm)
    case hm => omega
    case inv => exact ⟨by omega, by omega, Sp.pw_lt hsk hz4 ((Sp.cmpB_lt _ _).1 hc6), hhi⟩
   intro hc6'
   try simp only [nrm] at hc6'
   refine W_region (mV Z (aG Z (R_nil (N_B ?_))))
   refine N_lp (hJ := ⟨i, ((i + j) / 2), _, Z, hle1, H, ?inv, Z⟩) (hm := ?hm)
   case hm => omega
   case inv => exact ⟨by omega, by omega, hlo, Sp.pw_ge hsk hz4 (by cases hlt : Sp.lt z4.name nm with | false => rfl | true => exact absurd ((Sp.cmpB_lt _ _).2 hlt) oM)⟩
  intro hc2'
  try simp only [nrm] at hc2'
  refine W_exit (N_K_exit (N_LP_exit (N_B_same (N_K (q2 (mV Z (mV Z (mV Z (o_lss Z Z Z (mV Z ?_))))))))))
  refine R_case (t := 39) Z ?_ ?_
  ·intro hc8
   try simp only [nrm] at hc8
   refine gR Z (mV Z (gR Z (mV Z (gR Z (mV Z (gR Z (o_index_P i hkids underlying140 sizeOf65 Z Z Z Z aN ?_))))))); intro b9 o9 z9 q9 hz9 hE9 hrow9
   obtain ⟨rfl, hnd9⟩ := hE9; obtain ⟨hnl9, na9, nm9, nc9, nA9, nM9, nC9, hpr9, hri9, hrk9⟩ := hnd9.open; have hn_hri9 := hri9.len; have hx_hri9 : _ ≤ 1099511627776 := hri9.lim; have hn_hrk9 := hrk9.len; have hx_hrk9 : _ ≤ 1099511627776 := hrk9.lim
   refine gR Z (o_load_P H isAgg65 Z Z (hrow9 0 _ Z) (gR Z (mV Z (gR Z (o_callv call184 Z Z Z (i_place1_c _ _ H.sub _ hnd9 _ hnm ) ?_)))))
   rintro _ w10 ⟨rfl, ew10⟩; have H := H.step ew10; refine ⟨_, rfl, ?_⟩
   refine gR Z (o_eql Z Z Z (o_pick_t Z Z Z (aG Z (aG Z (q3 (W_ret (rt2 results183 Z Z ?_)))))))
   obtain rfl : i = j := by omega
   have hpl := Sp.pl_of oM hlo hhi
   obtain ⟨hfd, _⟩ := Sp.fd_at hsk hz9 hlo hhi
   exact H.rets (by rw [hpl, hfd]; simp only [Sp.cmpB_eq]; rfl)
  intro hc8'
  try simp only [nrm] at hc8'
  refine rP Z (rP Z (rP Z (rP Z (rP Z (rP Z (rP Z (rP Z (o_pick_f Z Z Z (aG Z (aG Z (q3 (W_ret (rt2 results183 Z Z ?_)))))))))))))
  obtain rfl : i = j := by omega
  have hpl := Sp.pl_of oM hlo hhi
  have hfd := Sp.fd_end (nm := nm) (ks := kids) (fun k x hk hx => hlo k x oM hx)
  exact H.rets (by rw [hpl, hfd]; rfl)
theorem i_place_c (w0 : World) (G0 : PH) (hG : PSub G0 w0) (t : Nd) (hndt : RdN G0 t) (nm : Bs) (hnm : nm.length ≤ 16777216) (hwt : t.wf) :
  Calls Tryz.prog 152 #[.pointer (some ⟨t.b, 0, none⟩), str nm] w0 (Rets w0 (.tuple #[.int .i64 (Sp.pl t.kids nm : Nat), .bool (Sp.fd t.kids nm).isSome])) := by
 obtain ⟨hnlt, nat, nmt, nct, nAt, nMt, nCt, hprt, hrit, hrkt⟩ := hndt.open
 have hn_hrit := hrit.len; have hx_hrit : _ ≤ 1099511627776 := hrit.lim
 have hn_hrkt := hrkt.len; have hx_hrkt : _ ≤ 1099511627776 := hrkt.lim
 have H := Hp.init hG
 refine calls_of_W (l := [.pointer (some ⟨t.b, 0, none⟩), str nm]) func152 Z ntmps152 Z (q2 (aG Z (aG Z (q1 (mV Z (o_nilCheck Z Z (o_fieldAddr 3 runUnderlying167 Z sizeOf140 Z Z Z (o_load_P H isAgg140 Z Z (hprt 3 _ Z) (mV Z (o_call call183 Z Z (l_Search_c _ _ H.sub _ _ hrkt _ hnm ((Nd.wf_iff _).1 hwt).1 ) ?_))))))))))
 rintro _ w1 ⟨rfl, ew1⟩; have H := H.step ew1; refine ⟨_, rfl, ?_⟩
 refine o_extract Z Z Z (o_extract Z Z Z (aG Z (aG Z (q3 (W_ret (rt2 results152 Z Z ?_))))))
 exact H.rets Z
theorem i_at_c (w0 : World) (G0 : PH) (hG : PSub G0 w0) (t : Nd) (hndt : RdN G0 t) (vps : Value) (ps : List (Bs)) (hps : RdT G0 vps ps) (hwt : t.wf) :
  Calls Tryz.prog 182 #[.pointer (some ⟨t.b, 0, none⟩), vps] w0 (RetV w0 (fun v => (t.at_ ps = none ∧ v = .pointer none) ∨ (∃ d, t.at_ ps = some d ∧ v = .pointer (some ⟨d.b, 0, none⟩)))) := by
 obtain ⟨hnlt, nat, nmt, nct, nAt, nMt, nCt, hprt, hrit, hrkt⟩ := hndt.open
 have hn_hrit := hrit.len; have hx_hrit : _ ≤ 1099511627776 := hrit.lim
 have hn_hrkt := hrkt.len; have hx_hrkt : _ ≤ 1099511627776 := hrkt.lim
 obtain ⟨aps, kps, rfl⟩ := hps.shape
 have hlimps : ps.length ≤ 1099511627776 := hps.lim
 have H := Hp.init hG
 refine calls_of_W (l := [.pointer (some ⟨t.b, 0, none⟩), .slice aps ps.length kps]) func182 Z ntmps182 Z (q2 (aG Z (q3 (W_seq (q2 (mV Z (o_len_slice underlying77 Z Z (mV Z (q3 (W_block ?_))))))))))
 refine W_lp (hf := (Sub.cons (t := 9) Z (Sub.cons (t := 10) Z Sub.nil))) (J := fun M w m => ∃ (k : Nat) (d : Nd) (G : PH), M = [(11, .int .i64 (k : Int)), (0, .pointer (some ⟨d.b, 0, none⟩))] ∧ PLe G0 G ∧ Hp w0 G0 [] w G [] ∧ (k ≤ ps.length ∧ RdN G d ∧ d.wf ∧ t.at_ (ps.take k) = some d) ∧ m = (ps.length - k)) (h0 := ⟨0, t, _, Z, PLe.refl _, H, ?inv, Z⟩) (round := ?round)
 case inv => exact ⟨by omega, hndt, hwt, rfl⟩
 case round =>
  rintro _ w1 _ ⟨k, d, G1, rfl, hle1, H, hinv1, rfl⟩
  have hps := hps.up hle1
  obtain ⟨hk, hnd0, hwd, hat⟩ := hinv1; obtain ⟨hnl0, na0, nm0, nc0, nA0, nM0, nC0, hpr0, hri0, hrk0⟩ := hnd0.open; have hn_hrk0 := hrk0.len
  refine q2 (o_lss Z Z Z (q3 (W_seq ?_)))
  refine W_cond Z ?_ ?_
  ·intro hc2
   try simp only [nrm] at hc2
   refine W_skip (N_K (W_seq (W_block (q2 (o_index_P k hps underlying77 sizeOf9 Z Z Z Z aN ?_))))); intro b3 o3 z3 q3 hz3 hE3 hrow3
   obtain ⟨rfl, hi3⟩ := hE3; have hy_hi3 : _ ≤ 16777216 := hi3
   refine o_load_P H isAgg9 Z Z (hrow3 0 _ Z) (aG Z (q1 (mV Z (mV Z (o_call call152 Z Z (i_place_c _ _ H.sub _ hnd0 _ hi3 hwd) ?_)))))
   rintro _ w4 ⟨rfl, ew4⟩; have H := H.step ew4; refine ⟨_, rfl, ?_⟩
   refine mV Z (o_extract Z Z Z (o_extract Z Z Z (aG Z (aG Z (q3 (W_seq (q2 (mV Z (o_not Z Z (q3 ?_))))))))))
   refine W_cond Z ?_ ?_
   ·intro hc5
    try simp only [nrm] at hc5
    refine q2 (aG Z (q3 (W_ret (N_K_ret (N_B_ret (N_K_ret (N_LP_ret (N_B_ret (N_K_ret (rt1 results182 Z ?_))))))))))
    exact H.retV (.inl ⟨Nd.at_stop hz3 hat (by simpa [Sp.fd, Nd.kid] using hc5), rfl⟩)
   intro hc5'
   try simp only [nrm] at hc5'
   obtain ⟨q, hq⟩ := Option.isSome_iff_exists.1 hc5'
   have hpl : d.kids[Sp.pl d.kids z3]? = some q := Nd.place_some hwd hq
   have hlt : Sp.pl d.kids z3 < d.kids.length := (List.getElem?_eq_some_iff.1 hpl).1
   refine W_skip (N_K (W_region (mV Z (o_nilCheck Z Z (o_fieldAddr 3 runUnderlying167 Z sizeOf140 Z Z Z (o_load_P H isAgg140 Z Z (hpr0 3 _ Z) (mV Z (o_index_P (Sp.pl d.kids z3) hrk0 underlying140 sizeOf65 Z Z Z Z aN ?_)))))))); intro b6 o6 z6 q6 hz6 hE6 hrow6
   obtain ⟨rfl, hnd6⟩ := hE6; obtain ⟨hnl6, na6, nm6, nc6, nA6, nM6, nC6, hpr6, hri6, hrk6⟩ := hnd6.open; have hn_hri6 := hri6.len; have hx_hri6 : _ ≤ 1099511627776 := hri6.lim; have hn_hrk6 := hrk6.len; have hx_hrk6 : _ ≤ 1099511627776 := hrk6.lim
   have hkid : Nd.kid d z3 = some z6 := by (show Sp.fd _ _ = _); rw [hq]; exact hpl.symm.trans hz6
   refine o_load_P H isAgg65 Z Z (hrow6 0 _ Z) (aG Z (R_nil (N_B (N_K (W_region (o_add Z Z Z oO (mV Z (R_nil ?_))))))))
   refine N_lp (hJ := ⟨k + 1, z6, _, Z, hle1, H, ?inv, Z⟩) (hm := ?hm)
   case hm => omega
   case inv => exact ⟨by omega, hnd6, (((Nd.wf_iff _).1 hwd).2 _ (List.mem_of_getElem? hz6)).2, by rw [Nd.at_step hz3 hat]; exact hkid⟩
  intro hc2'
  try simp only [nrm] at hc2'
  refine W_exit (N_K_exit (N_LP_exit (N_B_same (N_K (q2 (mV Z (aG Z (q3 (W_ret (rt1 results182 Z ?_))))))))))
  exact H.retV (.inr ⟨d, by rw [← hat, List.take_of_length_le oM], rfl⟩)
theorem i_dirOf_c (w0 : World) (G0 : PH) (hG : PSub G0 w0) (t : Nd) (hndt : RdN G0 t) (path : Bs) (hpath : path.length ≤ 16777216) (hwt : t.wf) :
  Calls Tryz.prog 151 #[.pointer (some ⟨t.b, 0, none⟩), str path] w0 (RetV w0 (fun v => (t.dirOf path = none ∧ v = .tuple #[.pointer none, str []]) ∨ (∃ d nm, t.dirOf path = some (d, nm) ∧ v = .tuple #[.pointer (some ⟨d.b, 0, none⟩), str nm]))) := by
 obtain ⟨hnlt, nat, nmt, nct, nAt, nMt, nCt, hprt, hrit, hrkt⟩ := hndt.open
 have hn_hrit := hrit.len; have hx_hrit : _ ≤ 1099511627776 := hrit.lim
 have hn_hrkt := hrkt.len; have hx_hrkt : _ ≤ 1099511627776 := hrkt.lim
 have H := Hp.init hG
 refine calls_of_W (l := [.pointer (some ⟨t.b, 0, none⟩), str path]) func151 Z ntmps151 Z (q2 (aG Z (aG Z (q1 (mV Z (o_call call181 Z Z (i_PathParts_c _ _ H.sub _ hpath ) ?_))))))
 rintro _ w1 ⟨G1, u1_0, g1, rfl, hr1_0⟩
 have H := H.grow g1
 have hndt := hndt.up g1.le
 obtain ⟨a1_0, k1_0, rfl⟩ := hr1_0.shape; have hx_hr1_0 : _ ≤ 1099511627776 := hr1_0.lim
 refine ⟨_, Z, ?_⟩
 refine aG Z (q3 (W_seq (q2 (mV Z (o_len_slice underlying77 Z Z (o_eql Z Z Z (q3 ?_)))))))
 refine W_cond Z ?_ ?_
 ·intro hc2
  try simp only [nrm] at hc2
  refine q2 (aG Z (aG Z (q3 (W_ret (N_K_ret (rt2 results151 Z Z ?_))))))
  exact H.retV (.inl ⟨Nd.dirOf_nil oM, Z⟩)
 intro hc2'
 try simp only [nrm] at hc2'
 refine W_skip (N_K (q2 (mV Z (o_len_slice underlying77 Z Z (o_sub Z Z Z oO (aG Z (q1 (mV Z (mV Z (mV Z ?_))))))))))
 have hcap4 := hr1_0.cap; try simp only [List.length_set, List.length_append, List.length_take, List.length_drop, List.length_replicate] at hcap4
 refine o_slice_to (j := ((Sp.parts path).length - 1)) underlying77 sizeOf9 Z Z Z oM oM ?_
 have hsl4 := hr1_0.take (j := ((Sp.parts path).length - 1)) aN
 have hsn1 := hsl4.len
 refine o_call call182 Z Z (i_at_c _ _ H.sub _ hndt _ _ hsl4 hwt) ?_
 rintro _ w5 ⟨_, rfl, ew5, ⟨hat5, rfl⟩ | ⟨d5, hat5, rfl⟩⟩
 ·skip
  have H := H.step ew5; refine ⟨_, rfl, ?_⟩
  refine aG Z (q3 (W_seq (q2 (mV Z (o_eqnil_ptr underlying65 Z Z Z (mV Z (rP Z (rP Z (rP Z (rP Z (rP Z (o_pick_t Z Z Z (q3 (W_true Z (q2 ?_)))))))))))))))
  refine aG Z (aG Z (q3 (W_ret (N_K_ret (rt2 results151 Z Z ?_)))))
  exact H.retV (.inl ⟨Nd.dirOf_no oM hat5, Z⟩)
 skip
 have H := H.step ew5; refine ⟨_, rfl, ?_⟩
 have hnd5 := hndt.at hat5; obtain ⟨hnl5, na5, nm5, nc5, nA5, nM5, nC5, hpr5, hri5, hrk5⟩ := hnd5.open
 have hn_hri5 := hri5.len; have hx_hri5 : _ ≤ 1099511627776 := hri5.lim
 have hn_hrk5 := hrk5.len; have hx_hrk5 : _ ≤ 1099511627776 := hrk5.lim
 refine aG Z (q3 (W_seq (q2 (mV Z (o_eqnil_ptr underlying65 Z Z Z (mV Z (gR Z (mV Z (gR Z (o_nilCheck Z Z (gR Z (o_fieldAddr 1 runUnderlying167 Z sizeOf4 Z Z Z (gR Z (o_load_P H isAgg4 Z Z (hpr5 1 _ Z) (gR Z ?_)))))))))))))))
 refine o_not Z Z (o_pick_f Z Z Z (q3 ?_))
 refine W_cond Z ?_ ?_
 ·intro hc6
  try simp only [nrm] at hc6
  refine q2 (aG Z (aG Z (q3 (W_ret (N_K_ret (rt2 results151 Z Z ?_))))))
  exact H.retV (.inl ⟨Nd.dirOf_nodir oM hat5 (by simpa using hc6), rfl⟩)
 intro hc6'
 try simp only [nrm] at hc6'
 refine W_skip (N_K (W_seq (W_drawK [] 7 H kR Z ?_))); intro w7 H; have hd7 := PLe.refl G1
 refine vM 0 Z Z (vM 1 Z Z (vM 2 Z Z ?_))
 have hl8 := hr1_0.len
 obtain ⟨b8, o8, z8, q8, ha8, hz8, hq8, hE8, hrow8, _⟩ := hr1_0.at (i := ((Sp.parts path).length - 1)) oM
 clear hq8
 obtain ⟨rfl, hi8⟩ := hE8; have hy_hi8 : _ ≤ 16777216 := hi8
 refine RD_t 3 Z kR Z (fun _ hK => v_index_P (i := ((Sp.parts path).length - 1)) ha8 underlying77 sizeOf9 Z Z oM oM) (RD_t 4 Z kR Z (fun _ hK => v_load_P hK isAgg9 Z (hrow8 0 _ Z)) (RD_t 5 Z kR Z (fun _ hK => v_assign Z) (RD_t 6 Z kR Z (fun _ hK => v_assign Z) (RD_done kR (N_K (W_ret (rt2 results151 Z Z ?_)))))))
 exact H.retV (.inr ⟨_, _, Nd.dirOf_yes oM hz8 hat5 (by simpa using hc6'), rfl⟩)
end Go.Proofs.Tst

namespace Go.Proofs.Tst
open Go Fw Tryz
theorem l_Insert_c (w0 : World) (G0 : PH) (hG : PSub G0 w0) (vkids : Value) (kids : List Nd) (i : Nat) (hi : i ≤ kids.length) (hkl : kids.length ≤ 1099511627776) (vbk : Nat) (k : Nd) (hLent : Lent w0 G0 [acc 65 1 vkids kids.length (ptrs kids), blk vbk (cl [ptr k.b] 65)])  :
  Calls Tryz.prog 153 #[vkids, .int .i64 (i : Int), .slice (some ⟨vbk, 0, none⟩) 1 1] w0 (RetM w0 G0 (fps [acc 65 1 vkids kids.length (ptrs kids), blk vbk (cl [ptr k.b] 65)]) (fun G' v Bs => ∃ (c : List Value), Bs = [acc 65 1 v (kids.length + 1) c] ∧ c = ptrs (kids.take i ++ k :: kids.drop i))) := by
 have H : Hp w0 G0 (fps [acc 65 1 vkids kids.length (ptrs kids), blk vbk (cl [ptr k.b] 65)]) w0 G0 [acc 65 1 vkids kids.length (ptrs kids), blk vbk (cl [ptr k.b] 65)] := hLent.hp
 obtain ⟨akids, ckids, rfl⟩ := H.accShape (k := 0) rfl
 refine calls_of_W (l := [.slice akids kids.length ckids, .int .i64 (i : Int), .slice (some ⟨vbk, 0, none⟩) 1 1]) func153 Z ntmps153 Z (q2 (aG Z (q1 (mV Z (mV Z ?_)))))
 have hac1 := H.accCap (k := 0) rfl
 refine o_slice_from (i := i) underlying140 sizeOf65 Z Z Z Z oM (q1 (mV Z (o_len_slice underlying140 Z Z (aG Z (q3 (W_seq (q2 (mV Z (o_eql Z Z Z (q3 ?_))))))))))
 refine W_cond Z ?_ ?_
 ·intro hc2
  try simp only [nrm] at hc2
  exact absurd hc2 (by decide)
 intro hc2'
 try simp only [nrm] at hc2'
 refine W_skip (N_K (q2 (mV Z (o_len_slice underlying140 Z Z (aG Z (q3 (W_seq (q2 (mV Z (mV Z (o_eql Z Z Z (q3 ?_))))))))))))
 refine W_cond Z ?_ ?_
 ·intro hc3
  try simp only [nrm] at hc3
  refine q2 (mV Z (mV Z ?_))
  refine o_append 0 H underlying140 typeInfo65 ⟨_, Z, Z⟩ Z Z Z Z Z Z Z (news := [ptr k.b]) Z (fun j u hu => by (rw [Nat.zero_add]); exact blk_cell (k := 1) H rfl (by simpa using hu)) (by simp [ptr, Value.oneCell']) oM (by decide) ?_; intro nv w4 H
  refine aG Z (q3 (W_ret (N_K_ret (rt1 results153 Z ?_))))
  have H := H.del (k := 1) rfl
  exact H.retM ⟨_, rfl, by (obtain rfl : i = kids.length := by omega); (rw [List.take_length, List.drop_length]); simp [ptrs]⟩
 intro hc3'
 try simp only [nrm] at hc3'
 obtain ⟨b0, c0, C0, hv0, _⟩ := H.accBlk (k := 0) (i := i) rfl oM; cases hv0
 have hvk : vbk ≠ b0 := fun e => by subst e; have := H.nd; simp [fps, acc_fp, blk] at this
 have hcc := H.accCap (k := 0) rfl
 have hcm := H.accMax (k := 0) rfl
 refine W_skip (N_K (W_seq (q2 (mV Z (mV Z (o_add Z Z Z oO (mV Z (o_cap underlying140 Z Z (o_gtr Z Z Z (q3 ?_))))))))))
 refine W_cond Z ?_ ?_
 ·intro hc6
  try simp only [nrm] at hc6
  refine q2 (mV Z (mV Z ?_))
  have hac7 := H.accCap (k := 0) rfl
  refine o_slice_to (j := i) underlying140 sizeOf65 Z Z Z Z oM (mV Z (mV Z (o_add Z Z Z oO (mV Z (o_sub Z Z Z oO (o_appmk 0 H (kids.length + 1 - i) underlying140 underlying3 typeInfo65 Z Z Z Z Z Z Z Z oM Z oM oM oM oM ?_)))))); intro nb nc w10 H hnb hnc
  refine aG Z (q1 (mV Z (mV Z (o_slice_from1 (i := i) underlying140 sizeOf65 Z Z Z oM oM oM (mV Z ?_)))))
  refine o_copy 0 H ([ptr k.b]) underlying140 typeInfo65 Z Z Z Z Z (by simp [Nat.min_def] <;> (try split) <;> omega) (fun j v hj => by (rw [Addr.add_lit, Nat.zero_add]); exact blk_cell (k := 2) H rfl (by simpa using hj)) (by intro v hv; first | exact ptrs_one v (List.mem_of_mem_drop hv) | (simp at hv; subst hv; rfl)) (by simp; try omega) ?_; intro w11 H
  refine q3 (W_seq (W_drawK [2] 9 H kR Z ?_)); intro w12 H; have hd12 := PLe.refl G0
  refine vM 0 Z Z (vM 1 Z Z (vM 2 Z Z (RD_t 3 Z kR Z (fun _ hK => v_add Z Z oO) (RD_t 4 Z kR Z (fun _ hK => v_slice_from1 (i := (i + 1)) underlying140 sizeOf65 Z Z oM oM oM) (vM 5 Z Z (vM 6 Z Z (RD_t 7 Z kR Z (fun _ hK => v_slice_from1 (i := i) underlying140 sizeOf65 Z Z oM oM oM) ?_)))))))
  refine RD_run [8] kR Z (RDs.cons Z ?_ RDs.nil)
  refine o_copy 0 H ((ptrs kids).drop i) underlying140 typeInfo65 Z Z Z Z Z (by simp [Nat.min_def] <;> (try split) <;> omega) (fun j v hj => by (rw [Addr.add_lit]); (rw [List.getElem?_drop] at hj); exact acc_cell (k := 1) H rfl (by first | exact hj | (rw [List.getElem?_append_left (List.getElem?_eq_some_iff.1 hj).1]; exact hj))) (by intro v hv; first | exact ptrs_one v (List.mem_of_mem_drop hv) | (simp at hv; subst hv; rfl)) (by simp; try omega) ?_; intro w14 H
  refine R_nil (N_DK (Kn.of' H hd12 (SubL.cons 2 Z SubL.nil)) (RD_done kR (N_K (q2 (mV Z (aG Z (q3 (W_ret (N_K_ret (rt1 results153 Z ?_))))))))))
  have H := H.del (k := 1) rfl
  have H := H.del (k := 1) rfl
  have hcx := (insC2 (x := ptr k.b) (z := .pointer none) (i := i) (r := kids.length + 1 - i) (c := ptrs kids) (by simp; omega) (by simp; omega)).trans (ptrs_ins kids k i)
  exact H.retM ⟨_, acc_1 oM, hcx⟩
 intro hc6'
 try simp only [nrm] at hc6'
 refine W_skip (N_K (q2 (mV Z (mV Z (mV Z (o_add Z Z Z oO (o_slice_to (j := kids.length + 1) underlying140 sizeOf65 Z Z Z oM oM ?_)))))))
 obtain ⟨zz, H⟩ := H.accMore (k := 0) rfl oM
 refine aG Z (q3 (W_seq (q2 (mV Z (mV Z (mV Z (mV Z (o_add Z Z Z oO (o_slice_from1 (i := (i + 1)) underlying140 sizeOf65 Z Z Z oM oM oM (o_overlaps 0 1 H (fun args w => run_callFunc_extern func186 kR kR kR (e := Extern.SlicesOverlaps.overlaps #[140, 140] #[4]) kR args w) underlying140 sizeOf65 Z Z Z Z hvk oM (o_not Z Z (q3 (W_true Z (W_seq (W_drawK [1] 9 H kR Z ?_))))))))))))))); intro w17 H; have hd17 := PLe.refl G0
 refine vM 0 Z Z (vM 1 Z Z (vM 2 Z Z (RD_t 3 Z kR Z (fun _ hK => v_add Z Z oO) (RD_t 4 Z kR Z (fun _ hK => v_slice_from1 (i := (i + 1)) underlying140 sizeOf65 Z Z oM oM oM) (vM 5 Z Z (vM 6 Z Z (RD_t 7 Z kR Z (fun _ hK => v_slice_from1 (i := i) underlying140 sizeOf65 Z Z oM oM oM) ?_)))))))
 refine RD_run [8] kR Z (RDs.cons Z ?_ RDs.nil)
 refine o_copy 0 H ((ptrs kids).drop i) underlying140 typeInfo65 Z Z Z Z Z (by simp [Nat.min_def] <;> (try split) <;> omega) (fun j v hj => by (rw [Addr.add_lit]); (rw [List.getElem?_drop] at hj); exact acc_cell (k := 0) H rfl (by first | exact hj | (rw [List.getElem?_append_left (List.getElem?_eq_some_iff.1 hj).1]; exact hj))) (by intro v hv; first | exact ptrs_one v (List.mem_of_mem_drop hv) | (simp at hv; subst hv; rfl)) (by simp; try omega) ?_; intro w19 H
 refine R_nil (N_DK (Kn.of' H hd17 (SubL.cons 1 Z SubL.nil)) (RD_done kR (N_K (q2 (mV Z (mV Z (o_slice_from1 (i := i) underlying140 sizeOf65 Z Z Z oM oM oM (mV Z ?_))))))))
 refine o_copy 0 H ([ptr k.b]) underlying140 typeInfo65 Z Z Z Z Z (by simp [Nat.min_def] <;> (try split) <;> omega) (fun j v hj => by (rw [Addr.add_lit, Nat.zero_add]); exact blk_cell (k := 1) H rfl (by simpa using hj)) (by intro v hv; first | exact ptrs_one v (List.mem_of_mem_drop hv) | (simp at hv; subst hv; rfl)) (by simp; try omega) ?_; intro w20 H
 refine q1 (mV Z (aG Z (q3 (W_ret (N_K_ret (rt1 results153 Z ?_))))))
 have H := H.del (k := 1) rfl
 exact H.retM ⟨_, rfl, (insC (by simp; omega)).trans (ptrs_ins kids k i)⟩
end Go.Proofs.Tst

namespace Go.Proofs.Tst
open Go Fw Tryz
theorem i_insert_c (w0 : World) (G0 : PH) (hG : PSub G0 w0) (Ft : Fr) (t : Nd) (hNt : NdO 167 65 G0 t Ft) (cx : List Value) (x : BItem) (hx : itemE G0 x cx) (hLent : Lent w0 G0 [frag Ft]) (hwt : t.wf) (hct : t.cnt ≤ 1000) :
  Calls Tryz.prog 121 #[.pointer (some ⟨t.b, 0, none⟩), .agg cx.toArray] w0 (RetM w0 G0 (fps [frag Ft]) (fun G' v Bs => ∃ (nb : Nat) (F' : Fr) (t' : Nd), v = .bool (t.ins x nb).isSome ∧ Bs = [frag F'] ∧ NdO 167 65 G' t' F' ∧ t'.b = t.b ∧ (t.ins x nb).getD t = t')) := by
 obtain ⟨a1, m1, c1, rfl, hi1, hr1⟩ := hx; have hy_hi1 : _ ≤ 16777216 := hi1; have hn_hr1 := hr1.len; have hx_hr1 : _ ≤ 1099511627776 := hr1.lim
 have H : Hp w0 G0 (fps [frag Ft]) w0 G0 [frag Ft] := hLent.hp
 refine calls_of_W (l := [.pointer (some ⟨t.b, 0, none⟩), _]) func121 Z ntmps121 Z (q2 (o_box H Z Z Z ?_)); intro b2 w2 hb2 H
 refine aG Z (q1 (mV Z (o_fieldAddr 0 runUnderlying40 Z sizeOf9 Z Z Z (o_load_B 0 H isAgg9 Z Z Z Z (o_call call151 Z Z (i_dirOf_c _ _ (H.lendSubL [1]) _ ((H.lendN (k := 1) (ks := [1]) Z Z hNt).at (show Nd.at_ t [] = some t from Z)) _ hi1 hwt) ?_)))))
 rintro _ w3 ⟨_, rfl, ew3, ⟨hdf3, rfl⟩ | ⟨d3, nm3, hdf3, rfl⟩⟩
 ·skip
  have H := H.step ew3; refine ⟨_, rfl, ?_⟩
  refine mV Z (o_extract Z Z Z (o_extract Z Z Z (aG Z (aG Z (q3 (W_seq (q2 (mV Z (o_eqnil_ptr underlying65 Z Z Z (q3 (W_true Z (q2 (aG Z (q3 (W_ret ?_)))))))))))))))
  refine N_K_ret (rt1 results121 Z ?_)
  have H := H.del (k := 0) rfl
  exact H.retM ⟨0, _, _, by (rw [(Nd.ins_no1 hdf3)]; rfl), rfl, hNt, rfl, by (rw [(Nd.ins_no1 hdf3)]; rfl)⟩
 skip
 have H := H.step ew3; refine ⟨_, rfl, ?_⟩
 have hnml3 := Nd.dir_len hdf3
 refine mV Z (o_extract Z Z Z (o_extract Z Z Z (aG Z (aG Z (q3 (W_seq (q2 (mV Z (o_eqnil_ptr underlying65 Z Z Z (q3 (W_false Z (W_skip (N_K (q2 (mV Z ?_)))))))))))))))
 refine mV Z (o_call call152 Z Z (i_place_c _ _ (H.lendSubL [1]) _ ((H.lendN (k := 1) (ks := [1]) Z Z hNt).at (Nd.dirOf_some hdf3).2.2.1) _ hnml3 (Nd.dir_wf hwt hdf3)) ?_)
 rintro _ w4 ⟨rfl, ew4⟩; have H := H.step ew4; refine ⟨_, rfl, ?_⟩
 refine mV Z (o_extract Z Z Z (o_extract Z Z Z (aG Z (aG Z (q3 (W_seq (q2 (mV Z (q3 ?_)))))))))
 refine W_cond Z ?_ ?_
 ·intro hc5
  try simp only [nrm] at hc5
  refine q2 (aG Z (q3 (W_ret (N_K_ret (rt1 results121 Z ?_)))))
  have H := H.del (k := 0) rfl
  exact H.retM ⟨0, _, _, by (rw [(Nd.ins_no2 hdf3 (by simpa using hc5))]; rfl), rfl, hNt, rfl, by (rw [(Nd.ins_no2 hdf3 (by simpa using hc5))]; rfl)⟩
 intro hc5'
 try simp only [nrm] at hc5'
 have H := H.toFront (k := 1) rfl
 obtain ⟨oa, om, oc, okv, oFs, oR, H, ohri, ohNs, ohnl, ohkl, hcov, hclose⟩ := Hp.openNode H hNt (Nd.dirOf_some hdf3).2.2.1
 obtain ⟨oak, ock, rfl⟩ := H.accShape (k := 1) rfl; have hdo := PLe.refl G0; have hn_ohri := ohri.len
 refine W_skip (N_K (W_seq (W_drawK [3] 19 H kR Z ?_))); intro w6 H; have hd6 := PLe.refl G0
 refine vM 0 Z Z (vM 1 Z Z (RD_t 2 Z kR Z (fun _ hK => v_nilCheck Z) (RD_t 3 Z kR Z (fun _ hK => v_fieldAddr 3 runUnderlying167 Z sizeOf140 Z Z) (vM 5 Z Z (vM 6 Z Z (RD_t 7 Z kR Z (fun _ hK => v_fieldAddr 1 runUnderlying40 Z sizeOf4 Z Z) (RD_t 8 Z kR Z (fun _ hK => v_load_B 0 hK isAgg4 Z Z Z) (RD_t 9 Z kR Z (fun _ hK => v_fieldAddr 2 runUnderlying40 Z sizeOf38 Z Z) (RD_t 10 Z kR Z (fun _ hK => v_load_B 0 hK isAgg38 Z Z Z) ?_)))))))))
 refine RD_run [4, 11] kR Z (RDs.cons Z ?_ (RDs.cons Z ?_ RDs.nil))
 ·skip
  refine o_load_B 0 H isAgg140 Z Z Z Z (R_nil (N_DK (Kn.of' H hd6 (SubL.cons 3 Z SubL.nil)) ?_))
  refine RD_run [11] kR Z (RDs.cons Z ?_ RDs.nil)
  refine o_call call68 Z Z (l_Clone_c _ _ H.sub _ _ hr1 ) ?_
  rintro _ w7 ⟨G7, v7, _, g7, rfl, ⟨cs7, rfl, hchk7⟩, hp7, hq7, hs7⟩
  have H := H.growO g7 hp7 hq7 hs7; obtain ⟨av7, cv7, rfl⟩ := H.accShape (k := 0) rfl
  have ohri := ohri.up g7.le
  have ohNs := ohNs.up g7.le
  have hdo := hdo.trans g7.le
  have hd6 := hd6.trans g7.le
  refine ⟨_, Z, ?_⟩
  obtain ⟨G8, H, hsg8, hsr8⟩ := H.shutL (k := 0) rfl (H.apart (k := 0) (ks := [1, 2, 3]) rfl rfl (by intro b hb; rcases hcov b hb with h | h | h; (· exact fpsAt_mem (k := 1) rfl rfl b (by simp [blk, h])); (· exact fpsAt_mem (k := 2) rfl rfl b h); (· exact fpsAt_mem (k := 3) rfl rfl b h))) hchk7 aN aN
  have ohri := ohri.up hsg8
  have ohNs := ohNs.up hsg8
  have hdo := hdo.trans hsg8
  have hd6 := hd6.trans hsg8
  refine R_nil (N_DK (Kn.of' H hd6 (SubL.cons 3 Z SubL.nil)) (RD_t 12 Z kR Z (fun _ hK => v_build bf167 Z Z) ?_))
  refine RD_run [13] kR Z (RDs.cons Z ?_ RDs.nil)
  refine o_box H Z Z Z ?_; intro b9 w9 hb9 H
  refine R_nil (N_DK (Kn.of' H hd6 (SubL.cons 4 Z SubL.nil)) ?_)
  refine RD_run [14] kR Z (RDs.cons Z ?_ RDs.nil)
  refine o_buildSlice H underlying140 sizeOf65 (fun w => ⟨_, zeroValue65 w, Z⟩) Z Z Z Z Z Z Z ?_; intro b10 w10 hb10 H
  refine R_nil (N_DK (Kn.of' H hd6 (SubL.cons 5 Z SubL.nil)) ?_)
  refine RD_run [15] kR Z (RDs.cons Z ?_ RDs.nil)
  have H := H.toFront (k := 3) rfl
  refine o_call call153 Z Z (l_Insert_c _ _ H.sub _ _ _ (Sp.pl_le d3.kids nm3) oM _ (Nd.mk b9 nm3 x.dir x.ids []) H.lent2 ) ?_
  rintro _ w11 ⟨G11, _, _, rfl, H11', ⟨c11, rfl, rfl⟩⟩
  have ohri := ohri.up H11'.le
  have ohNs := ohNs.up H11'.le
  have hsr8 := hsr8.up H11'.le
  have hdo := hdo.trans H11'.le
  have hd6 := hd6.trans H11'.le
  have H := H.borrow2 H11'
  obtain ⟨avAk, cvAk, rfl⟩ := H.accShape (k := 0) rfl
  refine ⟨_, Z, ?_⟩
  refine R_nil (N_DK (Kn.of' H hd6 (SubL.cons 4 Z SubL.nil)) (RD_t 16 Z kR Z (fun _ hK => v_nilCheck Z) (RD_t 17 Z kR Z (fun _ hK => v_fieldAddr 3 runUnderlying167 Z sizeOf140 Z Z) ?_)))
  refine RD_run [18] kR Z (RDs.cons Z ?_ RDs.nil)
  refine o_store_B 2 H sizeOf140 Z Z Z Z Z Z Z Z ?_; intro w12 H
  refine R_nil (N_DK (Kn.of' H hd6 (SubL.cons 4 Z SubL.nil)) (RD_done kR (N_K (q2 (aG Z (q3 (W_ret (rt1 results121 Z ?_))))))))
  have H := H.del (k := 4) rfl
  have H := H.toFront (k := 2) rfl
  have H := H.toFront (k := 3) rfl
  have H := H.toFront (k := 3) rfl
  have H := H.inF
  have H := H.toFront (k := 2) rfl
  have H := H.toFront (k := 2) rfl
  obtain ⟨Fs2, hp2, hN2⟩ := NdsO.ins (k := Nd.mk b9 nm3 x.dir x.ids []) (Sp.pl d3.kids nm3) ohNs (NdO.new hnml3 hsr8)
  have hcd := Nd.at_cnt (Nd.dirOf_some hdf3).2.2.1; have hcl := Nd.kids_le d3; have hpl := Sp.pl_le d3.kids nm3
  have hkl : (d3.kids.take (Sp.pl d3.kids nm3) ++ Nd.mk b9 nm3 x.dir x.ids [] :: d3.kids.drop (Sp.pl d3.kids nm3)).length = d3.kids.length + 1 := by (simp; omega)
  obtain ⟨F2, H, hN3, hb3⟩ := hclose (kids' := (d3.kids.take (Sp.pl d3.kids nm3) ++ Nd.mk b9 nm3 x.dir x.ids [] :: d3.kids.drop (Sp.pl d3.kids nm3))) (Fs' := Fs2) (by (rw [hkl]); exact H) (by (refine List.Perm.trans ?_ (List.Perm.append_right oR hp2.symm)); simp) hdo ohri hN2 oM
  have hins := Nd.ins_yes (nb := b9) hdf3 (by simpa using hc5')
  exact H.retM ⟨b9, _, _, by (rw [hins]; rfl), rfl, hN3, hb3, by (rw [hins]; rfl)⟩
 skip
 refine o_call call68 Z Z (l_Clone_c _ _ H.sub _ _ hr1 ) ?_
 rintro _ w13 ⟨G13, v13, _, g13, rfl, ⟨cs13, rfl, hchk13⟩, hp13, hq13, hs13⟩
 have H := H.growO g13 hp13 hq13 hs13; obtain ⟨av13, cv13, rfl⟩ := H.accShape (k := 0) rfl
 have ohri := ohri.up g13.le
 have ohNs := ohNs.up g13.le
 have hdo := hdo.trans g13.le
 have hd6 := hd6.trans g13.le
 refine ⟨_, Z, ?_⟩
 obtain ⟨G14, H, hsg14, hsr14⟩ := H.shutL (k := 0) rfl (H.apart (k := 0) (ks := [1, 2, 3]) rfl rfl (by intro b hb; rcases hcov b hb with h | h | h; (· exact fpsAt_mem (k := 1) rfl rfl b (by simp [blk, h])); (· exact fpsAt_mem (k := 2) rfl rfl b h); (· exact fpsAt_mem (k := 3) rfl rfl b h))) hchk13 aN aN
 have ohri := ohri.up hsg14
 have ohNs := ohNs.up hsg14
 have hdo := hdo.trans hsg14
 have hd6 := hd6.trans hsg14
 refine R_nil (N_DK (Kn.of' H hd6 (SubL.cons 3 Z SubL.nil)) (RD_t 12 Z kR Z (fun _ hK => v_build bf167 Z Z) ?_))
 refine RD_run [4, 13] kR Z (RDs.cons Z ?_ (RDs.cons Z ?_ RDs.nil))
 ·skip
  refine o_load_B 0 H isAgg140 Z Z Z Z (R_nil (N_DK (Kn.of' H hd6 (SubL.cons 3 Z SubL.nil)) ?_))
  refine RD_run [13] kR Z (RDs.cons Z ?_ RDs.nil)
  refine o_box H Z Z Z ?_; intro b15 w15 hb15 H
  refine R_nil (N_DK (Kn.of' H hd6 (SubL.cons 4 Z SubL.nil)) ?_)
  refine RD_run [14] kR Z (RDs.cons Z ?_ RDs.nil)
  refine o_buildSlice H underlying140 sizeOf65 (fun w => ⟨_, zeroValue65 w, Z⟩) Z Z Z Z Z Z Z ?_; intro b16 w16 hb16 H
  refine R_nil (N_DK (Kn.of' H hd6 (SubL.cons 5 Z SubL.nil)) ?_)
  refine RD_run [15] kR Z (RDs.cons Z ?_ RDs.nil)
  have H := H.toFront (k := 3) rfl
  refine o_call call153 Z Z (l_Insert_c _ _ H.sub _ _ _ (Sp.pl_le d3.kids nm3) oM _ (Nd.mk b15 nm3 x.dir x.ids []) H.lent2 ) ?_
  rintro _ w17 ⟨G17, _, _, rfl, H17', ⟨c17, rfl, rfl⟩⟩
  have ohri := ohri.up H17'.le
  have ohNs := ohNs.up H17'.le
  have hsr14 := hsr14.up H17'.le
  have hdo := hdo.trans H17'.le
  have hd6 := hd6.trans H17'.le
  have H := H.borrow2 H17'
  obtain ⟨avAk, cvAk, rfl⟩ := H.accShape (k := 0) rfl
  refine ⟨_, Z, ?_⟩
  refine R_nil (N_DK (Kn.of' H hd6 (SubL.cons 4 Z SubL.nil)) (RD_t 16 Z kR Z (fun _ hK => v_nilCheck Z) (RD_t 17 Z kR Z (fun _ hK => v_fieldAddr 3 runUnderlying167 Z sizeOf140 Z Z) ?_)))
  refine RD_run [18] kR Z (RDs.cons Z ?_ RDs.nil)
  refine o_store_B 2 H sizeOf140 Z Z Z Z Z Z Z Z ?_; intro w18 H
  refine R_nil (N_DK (Kn.of' H hd6 (SubL.cons 4 Z SubL.nil)) (RD_done kR (N_K (q2 (aG Z (q3 (W_ret (rt1 results121 Z ?_))))))))
  have H := H.del (k := 4) rfl
  have H := H.toFront (k := 2) rfl
  have H := H.toFront (k := 3) rfl
  have H := H.toFront (k := 3) rfl
  have H := H.inF
  have H := H.toFront (k := 2) rfl
  have H := H.toFront (k := 2) rfl
  obtain ⟨Fs2, hp2, hN2⟩ := NdsO.ins (k := Nd.mk b15 nm3 x.dir x.ids []) (Sp.pl d3.kids nm3) ohNs (NdO.new hnml3 hsr14)
  have hcd := Nd.at_cnt (Nd.dirOf_some hdf3).2.2.1; have hcl := Nd.kids_le d3; have hpl := Sp.pl_le d3.kids nm3
  have hkl : (d3.kids.take (Sp.pl d3.kids nm3) ++ Nd.mk b15 nm3 x.dir x.ids [] :: d3.kids.drop (Sp.pl d3.kids nm3)).length = d3.kids.length + 1 := by (simp; omega)
  obtain ⟨F2, H, hN3, hb3⟩ := hclose (kids' := (d3.kids.take (Sp.pl d3.kids nm3) ++ Nd.mk b15 nm3 x.dir x.ids [] :: d3.kids.drop (Sp.pl d3.kids nm3))) (Fs' := Fs2) (by (rw [hkl]); exact H) (by (refine List.Perm.trans ?_ (List.Perm.append_right oR hp2.symm)); simp) hdo ohri hN2 oM
  have hins := Nd.ins_yes (nb := b15) hdf3 (by simpa using hc5')
  exact H.retM ⟨b15, _, _, by (rw [hins]; rfl), rfl, hN3, hb3, by (rw [hins]; rfl)⟩
 skip
 refine o_box H Z Z Z ?_; intro b19 w19 hb19 H
 refine R_nil (N_DK (Kn.of' H hd6 (SubL.cons 4 Z SubL.nil)) ?_)
 refine RD_run [4, 14] kR Z (RDs.cons Z ?_ (RDs.cons Z ?_ RDs.nil))
 ·skip
  refine o_load_B 1 H isAgg140 Z Z Z Z (R_nil (N_DK (Kn.of' H hd6 (SubL.cons 4 Z SubL.nil)) ?_))
  refine RD_run [14] kR Z (RDs.cons Z ?_ RDs.nil)
  refine o_buildSlice H underlying140 sizeOf65 (fun w => ⟨_, zeroValue65 w, Z⟩) Z Z Z Z Z Z Z ?_; intro b20 w20 hb20 H
  refine R_nil (N_DK (Kn.of' H hd6 (SubL.cons 5 Z SubL.nil)) ?_)
  refine RD_run [15] kR Z (RDs.cons Z ?_ RDs.nil)
  have H := H.toFront (k := 3) rfl
  refine o_call call153 Z Z (l_Insert_c _ _ H.sub _ _ _ (Sp.pl_le d3.kids nm3) oM _ (Nd.mk b19 nm3 x.dir x.ids []) H.lent2 ) ?_
  rintro _ w21 ⟨G21, _, _, rfl, H21', ⟨c21, rfl, rfl⟩⟩
  have ohri := ohri.up H21'.le
  have ohNs := ohNs.up H21'.le
  have hsr14 := hsr14.up H21'.le
  have hdo := hdo.trans H21'.le
  have hd6 := hd6.trans H21'.le
  have H := H.borrow2 H21'
  obtain ⟨avAk, cvAk, rfl⟩ := H.accShape (k := 0) rfl
  refine ⟨_, Z, ?_⟩
  refine R_nil (N_DK (Kn.of' H hd6 (SubL.cons 4 Z SubL.nil)) (RD_t 16 Z kR Z (fun _ hK => v_nilCheck Z) (RD_t 17 Z kR Z (fun _ hK => v_fieldAddr 3 runUnderlying167 Z sizeOf140 Z Z) ?_)))
  refine RD_run [18] kR Z (RDs.cons Z ?_ RDs.nil)
  refine o_store_B 2 H sizeOf140 Z Z Z Z Z Z Z Z ?_; intro w22 H
  refine R_nil (N_DK (Kn.of' H hd6 (SubL.cons 4 Z SubL.nil)) (RD_done kR (N_K (q2 (aG Z (q3 (W_ret (rt1 results121 Z ?_))))))))
  have H := H.del (k := 4) rfl
  have H := H.toFront (k := 2) rfl
  have H := H.toFront (k := 3) rfl
  have H := H.toFront (k := 3) rfl
  have H := H.inF
  have H := H.toFront (k := 2) rfl
  have H := H.toFront (k := 2) rfl
  obtain ⟨Fs2, hp2, hN2⟩ := NdsO.ins (k := Nd.mk b19 nm3 x.dir x.ids []) (Sp.pl d3.kids nm3) ohNs (NdO.new hnml3 hsr14)
  have hcd := Nd.at_cnt (Nd.dirOf_some hdf3).2.2.1; have hcl := Nd.kids_le d3; have hpl := Sp.pl_le d3.kids nm3
  have hkl : (d3.kids.take (Sp.pl d3.kids nm3) ++ Nd.mk b19 nm3 x.dir x.ids [] :: d3.kids.drop (Sp.pl d3.kids nm3)).length = d3.kids.length + 1 := by (simp; omega)
  obtain ⟨F2, H, hN3, hb3⟩ := hclose (kids' := (d3.kids.take (Sp.pl d3.kids nm3) ++ Nd.mk b19 nm3 x.dir x.ids [] :: d3.kids.drop (Sp.pl d3.kids nm3))) (Fs' := Fs2) (by (rw [hkl]); exact H) (by (refine List.Perm.trans ?_ (List.Perm.append_right oR hp2.symm)); simp) hdo ohri hN2 oM
  have hins := Nd.ins_yes (nb := b19) hdf3 (by simpa using hc5')
  exact H.retM ⟨b19, _, _, by (rw [hins]; rfl), rfl, hN3, hb3, by (rw [hins]; rfl)⟩
 skip
 refine o_buildSlice H underlying140 sizeOf65 (fun w => ⟨_, zeroValue65 w, Z⟩) Z Z Z Z Z Z Z ?_; intro b23 w23 hb23 H
 refine R_nil (N_DK (Kn.of' H hd6 (SubL.cons 5 Z SubL.nil)) ?_)
 refine RD_run [4] kR Z (RDs.cons Z ?_ RDs.nil)
 refine o_load_B 2 H isAgg140 Z Z Z Z (R_nil (N_DK (Kn.of' H hd6 (SubL.cons 5 Z SubL.nil)) ?_))
 refine RD_run [15] kR Z (RDs.cons Z ?_ RDs.nil)
 have H := H.toFront (k := 3) rfl
 refine o_call call153 Z Z (l_Insert_c _ _ H.sub _ _ _ (Sp.pl_le d3.kids nm3) oM _ (Nd.mk b19 nm3 x.dir x.ids []) H.lent2 ) ?_
 rintro _ w24 ⟨G24, _, _, rfl, H24', ⟨c24, rfl, rfl⟩⟩
 have ohri := ohri.up H24'.le
 have ohNs := ohNs.up H24'.le
 have hsr14 := hsr14.up H24'.le
 have hdo := hdo.trans H24'.le
 have hd6 := hd6.trans H24'.le
 have H := H.borrow2 H24'
 obtain ⟨avAk, cvAk, rfl⟩ := H.accShape (k := 0) rfl
 refine ⟨_, Z, ?_⟩
 refine R_nil (N_DK (Kn.of' H hd6 (SubL.cons 4 Z SubL.nil)) (RD_t 16 Z kR Z (fun _ hK => v_nilCheck Z) (RD_t 17 Z kR Z (fun _ hK => v_fieldAddr 3 runUnderlying167 Z sizeOf140 Z Z) ?_)))
 refine RD_run [18] kR Z (RDs.cons Z ?_ RDs.nil)
 refine o_store_B 2 H sizeOf140 Z Z Z Z Z Z Z Z ?_; intro w25 H
 refine R_nil (N_DK (Kn.of' H hd6 (SubL.cons 4 Z SubL.nil)) (RD_done kR (N_K (q2 (aG Z (q3 (W_ret (rt1 results121 Z ?_))))))))
 have H := H.del (k := 4) rfl
 have H := H.toFront (k := 2) rfl
 have H := H.toFront (k := 3) rfl
 have H := H.toFront (k := 3) rfl
 have H := H.inF
 have H := H.toFront (k := 2) rfl
 have H := H.toFront (k := 2) rfl
 obtain ⟨Fs2, hp2, hN2⟩ := NdsO.ins (k := Nd.mk b19 nm3 x.dir x.ids []) (Sp.pl d3.kids nm3) ohNs (NdO.new hnml3 hsr14)
 have hcd := Nd.at_cnt (Nd.dirOf_some hdf3).2.2.1; have hcl := Nd.kids_le d3; have hpl := Sp.pl_le d3.kids nm3
 have hkl : (d3.kids.take (Sp.pl d3.kids nm3) ++ Nd.mk b19 nm3 x.dir x.ids [] :: d3.kids.drop (Sp.pl d3.kids nm3)).length = d3.kids.length + 1 := by (simp; omega)
 obtain ⟨F2, H, hN3, hb3⟩ := hclose (kids' := (d3.kids.take (Sp.pl d3.kids nm3) ++ Nd.mk b19 nm3 x.dir x.ids [] :: d3.kids.drop (Sp.pl d3.kids nm3))) (Fs' := Fs2) (by (rw [hkl]); exact H) (by (refine List.Perm.trans ?_ (List.Perm.append_right oR hp2.symm)); simp) hdo ohri hN2 oM
 have hins := Nd.ins_yes (nb := b19) hdf3 (by simpa using hc5')
 exact H.retM ⟨b19, _, _, by (rw [hins]; rfl), rfl, hN3, hb3, by (rw [hins]; rfl)⟩
end Go.Proofs.Tst

namespace Go.Proofs.Tst
open Go Fw Tryz
theorem i_openTree_c (w0 : World) (G0 : PH) (hG : PSub G0 w0) (vlist : Value) (list : List (BItem)) (hlist : RdItems G0 vlist list) (hLent : Lent w0 G0 [])  :
  Calls Tryz.prog 93 #[vlist] w0 (RetM w0 G0 [] (fun G' v Bs => (v = .tuple #[.pointer none, .bool false] ∧ Bs = [] ∧ Sp.TreeValid list = false) ∨ (∃ (T : Nd) (F : Fr), v = .tuple #[.pointer (some ⟨T.b, 0, none⟩), .bool true] ∧ Bs = [frag F] ∧ NdO 167 65 G' T F ∧ Nd.TOK T list ∧ Sp.TreeValid list = true))) := by
 obtain ⟨alist, klist, rfl⟩ := hlist.shape
 have hlimlist : list.length ≤ 1099511627776 := hlist.lim
 have H : Hp w0 G0 [] w0 G0 [] := hLent.hp
 refine calls_of_W (l := [.slice alist list.length klist]) func93 Z ntmps93 Z (q2 (aG Z (aG Z (q3 (W_seq (q2 (mV Z (o_len_slice underlying24 Z Z (o_gtr Z Z Z (q3 ?_))))))))))
 refine W_cond Z ?_ ?_
 ·intro hc1
  try simp only [nrm] at hc1
  refine q2 (aG Z (aG Z (q3 (W_ret (N_K_ret (rt2 results93 Z Z ?_))))))
  exact H.retM (.inl ⟨Z, Z, Nd.tv_long oM⟩)
 intro hc1'
 try simp only [nrm] at hc1'
 refine W_skip (N_K (q2 (o_build bf167 Z Z Z (o_box H Z Z Z ?_)))); intro b2 w2 hb2 H
 refine aG Z (q1 (aG Z (q3 (W_seq (q2 (mV Z (o_len_slice underlying24 Z Z (mV Z (q3 (W_block ?_))))))))))
 have H := H.addF
 have H := H.toFront (k := 1) rfl
 have H := H.inF
 have hN0 : NdO 167 65 G0 (Nd.mk b2 [] true [] []) _ := NdO.new (by simp) (RdS.nil _ _ _)
 refine W_lp (hf := (Sub.cons (t := 13) Z (Sub.cons (t := 14) Z Sub.nil))) (J := fun M w m => ∃ (k : Nat) (la : Bs) (T : Nd) (FT : Fr) (G : PH), M = [(15, .int .i64 (k : Int)), (5, str la), (4, .pointer (some ⟨T.b, 0, none⟩))] ∧ PLe G0 G ∧ Hp w0 G0 [] w G [frag FT] ∧ (k ≤ list.length ∧ la = Nd.lastPath list k ∧ la.length ≤ 16777216 ∧ NdO 167 65 G T FT ∧ Nd.TOK T (list.take k)) ∧ m = (list.length - k)) (h0 := ⟨0, [], (Nd.mk b2 [] true [] []), _, _, Z, PLe.refl _, H, ?inv, Z⟩) (round := ?round)
 case inv => exact ⟨by omega, rfl, by simp, hN0, Nd.tok_root _⟩
 case round =>
  rintro _ w3 _ ⟨k, la, T, FT, G3, rfl, hle3, H, hinv3, rfl⟩
  have hlist := hlist.up hle3
  obtain ⟨hk, hla, hlp, hNT, hTok⟩ := hinv3
  refine q2 (o_lss Z Z Z (q3 (W_seq ?_)))
  refine W_cond Z ?_ ?_
  ·intro hc4
   try simp only [nrm] at hc4
   refine W_skip (N_K (W_seq (W_block (q2 (o_index_P k hlist underlying24 sizeOf40 Z Z Z Z aN ?_))))); intro b5 o5 z5 q5 hz5 hE5 hrow5
   obtain ⟨a5, m5, c5, rfl, hi5, hr5⟩ := hE5; have hy_hi5 : _ ≤ 16777216 := hi5; have hn_hr5 := hr5.len; have hx_hr5 : _ ≤ 1099511627776 := hr5.lim
   refine o_loadagg_P H isAgg40 sizeOf40 Z Z hrow5 Z (o_alloc H zeroValue40 Z Z ?_); intro b6 w6 hb6 H
   refine o_store_B 0 H sizeOf40 Z Z Z Z Z Z Z Z ?_; intro w7 H
   refine q3 (W_seq (q2 (o_fieldAddr 0 runUnderlying40 Z sizeOf9 Z Z Z (o_load_B 0 H isAgg9 Z Z Z Z (mV Z (o_sleq Z Z Z (mV Z ?_)))))))
   refine R_case (t := 23) Z ?_ ?_
   ·intro hc8
    try simp only [nrm] at hc8
    refine rP Z (rP Z (rP Z (o_pick_t Z Z Z (mV Z (rP Z (rP Z (rP Z (rP Z (o_pick_t Z Z Z (q3 (W_true Z (q2 (aG Z (aG Z (q3 ?_)))))))))))))))
    refine W_ret (N_K_ret (N_B_ret (N_K_ret (N_LP_ret (N_B_ret (N_K_ret (rt2 results93 Z Z ?_)))))))
    have H := H.del (k := 0) rfl
    have H := H.del (k := 0) rfl
    exact H.retM (.inl ⟨rfl, rfl, Nd.tv_false 0 hTok hz5 (.inl (by (rw [← hla]); exact Nd.leq_no (by first | simpa using hc8 | (simp at hc8; exact hc8.symm))))⟩)
   intro hc8'
   try simp only [nrm] at hc8'
   refine gR Z (o_loadagg_B 0 H isAgg40 sizeOf40 Z Z Z Z Z (gR Z (o_call call120 Z Z (i_itemValid_c _ _ H.sub _ _ ⟨_, _, _, Z, hi5, hr5⟩ ) ?_)))
   rintro _ w9 ⟨rfl, ew9⟩; have H := H.step ew9; refine ⟨_, rfl, ?_⟩
   refine gR Z (o_not Z Z (o_pick_f Z Z Z (mV Z ?_)))
   refine R_case (t := 28) Z ?_ ?_
   ·intro hc10
    try simp only [nrm] at hc10
    refine rP Z (rP Z (rP Z (rP Z (o_pick_t Z Z Z (q3 (W_true Z (q2 (aG Z (aG Z (q3 (W_ret (N_K_ret (N_B_ret (N_K_ret (N_LP_ret ?_)))))))))))))))
    refine N_B_ret (N_K_ret (rt2 results93 Z Z ?_))
    have H := H.del (k := 0) rfl
    have H := H.del (k := 0) rfl
    exact H.retM (.inl ⟨rfl, rfl, Nd.tv_false 0 hTok hz5 (.inr (.inl (by simpa using hc10)))⟩)
   intro hc10'
   try simp only [nrm] at hc10'
   refine gR Z (mV Z (gR Z (o_loadagg_B 0 H isAgg40 sizeOf40 Z Z Z Z Z (gR Z ?_))))
   have H := H.toFront (k := 1) rfl
   refine o_call call121 Z Z (i_insert_c _ _ H.sub _ _ hNT _ _ ⟨_, _, _, Z, hi5, hr5⟩ H.lent1 hTok.wf (by have := hTok.cnt; simp at this; omega)) ?_
   rintro _ w11 ⟨G11, _, _, rfl, H11', ⟨nb11, F11, t11, rfl, rfl, hN11, hb11, ht11⟩⟩
   have hle3 := hle3.trans H11'.le
   have H := H.borrow1 H11'
   try rw [← hb11]
   refine ⟨_, Z, ?_⟩
   refine gR Z (o_not Z Z (o_pick_f Z Z Z (q3 ?_)))
   refine W_cond Z ?_ ?_
   ·intro hc12
    try simp only [nrm] at hc12
    refine q2 (aG Z (aG Z (q3 (W_ret (N_K_ret (N_B_ret (N_K_ret (N_LP_ret (N_B_ret (N_K_ret (rt2 results93 Z Z ?_)))))))))))
    have H := H.del (k := 0) rfl
    have H := H.del (k := 0) rfl
    exact H.retM (.inl ⟨rfl, rfl, Nd.tv_false nb11 hTok hz5 (.inr (.inr (by simpa using hc12)))⟩)
   intro hc12'
   try simp only [nrm] at hc12'
   refine W_skip (N_K (W_region (o_fieldAddr 0 runUnderlying40 Z sizeOf9 Z Z Z (o_load_B 1 H isAgg9 Z Z Z Z (aG Z (R_nil (N_B (N_K (W_region (o_add Z Z Z oO (mV Z (R_nil ?_))))))))))))
   have H := H.del (k := 1) rfl
   refine N_lp (hJ := ⟨k + 1, z5.path, t11, F11, _, Z, hle3, H, ?inv, Z⟩) (hm := ?hm)
   case hm => omega
   case inv => exact ⟨by omega, (Nd.lastPath_succ hz5).symm, by assumption, hN11, Nd.open_step hTok hz5 oM (by (rw [← hla]); exact Nd.leq_yes hc8'.1 hc8'.2) (by simpa using hc10') (Nd.getD_some ht11 (by simpa using hc12'))⟩
  intro hc4'
  try simp only [nrm] at hc4'
  refine W_exit (N_K_exit (N_LP_exit (N_B_same (N_K (q2 (mV Z (aG Z (aG Z (q3 (W_ret (rt2 results93 Z Z ?_)))))))))))
  have hTl : Nd.TOK T list := by (have h9 := hTok; rw [List.take_of_length_le oM] at h9; exact h9)
  exact H.retM (.inr ⟨T, _, Z, Z, hNT, hTl, hTl.valid⟩)
end Go.Proofs.Tst

namespace Go.Proofs.Tst
open Go Fw Tryz
theorem i_keep_c (w0 : World) (G0 : PH) (hG : PSub G0 w0) (mbs : Nat) (ess : Array MapEntry) (cks : Nat) (xss : List (Int × Value)) (Ls : List BHeld) (hms : MapIs (Value.int .i64) ess cks xss) (hSs : StR G0 xss Ls) (hVs : Sp.VH Ls) (id : Int) (hLent : Lent w0 G0 [blk mbs (.map ess cks)])  :
  Calls Tryz.prog 146 #[.map (some mbs), .int .i64 id] w0 (RetM w0 G0 [mbs] (fun G' v Bs => ∃ (es' : Array MapEntry) (ck' : Nat) (xs' : List (Int × Value)) (L' : List BHeld), v = .bool (Sp.StoreKeep Ls id).isSome ∧ Bs = [blk mbs (.map es' ck')] ∧ MapIs (Value.int .i64) es' ck' xs' ∧ StR G' xs' L' ∧ Sp.VH L' ∧ L' = (Sp.StoreKeep Ls id).getD Ls)) := by
 have H : Hp w0 G0 [mbs] w0 G0 [blk mbs (.map ess cks)] := hLent.hp
 refine calls_of_W (l := [.map (some mbs), .int .i64 id]) func146 Z ntmps146 Z (q2 (aG Z (q1 (mV Z (mV Z (o_lookS2 (H.at (k := 0) Z) hms hSs underlying64 underlying3 zeroValue42 Z Z Z ?_)))))); intro q1 hE1
 obtain ⟨a1, m1, c1, rfl, hi1, hr1, hj1⟩ := hE1; have hn_hr1 := hr1.len; have hx_hr1 : _ ≤ 1099511627776 := hr1.lim
 have hfnd : True := trivial
 refine mV Z (o_extract Z Z Z (o_extract Z Z Z (o_alloc H zeroValue42 Z Z ?_))); intro b2 w2 hb2 H
 refine o_store_B 0 H sizeOf42 Z Z Z Z Z Z Z Z ?_; intro w3 H
 refine aG Z (q3 (W_seq (q2 (mV Z (o_not Z Z (mV Z ?_))))))
 refine R_case (t := 15) Z ?_ ?_
 ·intro hc4
  try simp only [nrm] at hc4
  refine rP Z (rP Z (rP Z (o_pick_t Z Z Z (q3 (W_true Z (q2 (aG Z (q3 (W_ret (N_K_ret (rt1 results146 Z ?_)))))))))))
  have H := H.del (k := 0) rfl
  exact H.retM ⟨_, _, _, _, congrArg Value.bool (by rw [Sp.keep_no hVs (.inl (by simpa using hc4))]; rfl), rfl, hms, hSs, hVs, by rw [Sp.keep_no hVs (.inl (by simpa using hc4))]; rfl⟩
 intro hc4'
 try simp only [nrm] at hc4'
 have hfd : (Sp.atH Ls id).isSome = true := by simpa using hc4'
 have hgo := Sp.get_ok hVs hfd
 refine gR Z (o_fieldAddr 2 runUnderlying42 Z sizeOf3 Z Z Z (gR Z (o_load_B 0 H isAgg3 Z Z Z Z (gR Z (o_geq Z Z Z (o_pick_f Z Z Z (q3 ?_)))))))
 refine W_cond Z ?_ ?_
 ·intro hc5
  try simp only [nrm] at hc5
  refine q2 (aG Z (q3 (W_ret (N_K_ret (rt1 results146 Z ?_)))))
  have H := H.del (k := 0) rfl
  exact H.retM ⟨_, _, _, _, congrArg Value.bool (by rw [Sp.keep_no hVs (.inr oM)]; rfl), rfl, hms, hSs, hVs, by rw [Sp.keep_no hVs (.inr oM)]; rfl⟩
 intro hc5'
 try simp only [nrm] at hc5'
 have hkg := Sp.keep_get hVs hfd oM
 refine W_skip (N_K (q2 (o_fieldAddr 2 runUnderlying42 Z sizeOf3 Z Z Z (o_load_B 0 H isAgg3 Z Z Z Z (o_add Z Z Z oO (o_fieldAddr 2 runUnderlying42 Z sizeOf3 Z Z Z (o_store_B 0 H sizeOf3 Z Z Z Z Z Z Z Z ?_))))))); intro w7 H
 refine q1 (mV Z (mV Z (o_loadagg_B 0 H isAgg42 sizeOf42 Z Z Z Z Z ?_)))
 refine o_updS 1 H ⟨(getH Ls id).id, (getH Ls id).bytes, (getH Ls id).uses + 1⟩ Z hms hSs underlying64 underlying3 Z Z Z (show heldE G0 ⟨(getH Ls id).id, (getH Ls id).bytes, (getH Ls id).uses + 1⟩ _ from ⟨_, _, _, Z, ⟨by first | omega | (dsimp only; omega), by first | omega | (dsimp only; omega)⟩, hr1, ⟨by first | omega | (dsimp only; omega), by first | omega | (dsimp only; omega)⟩⟩) (by exact Sp.get_id hfd) ?_; intro es8 ck8 xs8 w8 H hm8 hS8
 refine q1 (aG Z (q3 (W_ret (rt1 results146 Z ?_))))
 have H := H.del (k := 0) rfl
 exact H.retM ⟨_, _, _, _, congrArg Value.bool (by rw [hkg.1]; rfl), rfl, hm8, hS8, hkg.2, by rw [hkg.1]; rfl⟩
theorem i_drop_c (w0 : World) (G0 : PH) (hG : PSub G0 w0) (mbs : Nat) (ess : Array MapEntry) (cks : Nat) (xss : List (Int × Value)) (Ls : List BHeld) (hms : MapIs (Value.int .i64) ess cks xss) (hSs : StR G0 xss Ls) (hVs : Sp.VH Ls) (id : Int) (hLent : Lent w0 G0 [blk mbs (.map ess cks)])  :
  Calls Tryz.prog 147 #[.map (some mbs), .int .i64 id] w0 (RetM w0 G0 [mbs] (fun G' v Bs => ∃ (es' : Array MapEntry) (ck' : Nat) (xs' : List (Int × Value)) (L' : List BHeld), v = .bool (Sp.StoreDrop Ls id).isSome ∧ Bs = [blk mbs (.map es' ck')] ∧ MapIs (Value.int .i64) es' ck' xs' ∧ StR G' xs' L' ∧ Sp.VH L' ∧ L' = (Sp.StoreDrop Ls id).getD Ls)) := by
 have H : Hp w0 G0 [mbs] w0 G0 [blk mbs (.map ess cks)] := hLent.hp
 refine calls_of_W (l := [.map (some mbs), .int .i64 id]) func147 Z ntmps147 Z (q2 (aG Z (q1 (mV Z (mV Z (o_lookS2 (H.at (k := 0) Z) hms hSs underlying64 underlying3 zeroValue42 Z Z Z ?_)))))); intro q1 hE1
 obtain ⟨a1, m1, c1, rfl, hi1, hr1, hj1⟩ := hE1; have hn_hr1 := hr1.len; have hx_hr1 : _ ≤ 1099511627776 := hr1.lim
 refine mV Z (o_extract Z Z Z (o_extract Z Z Z (o_alloc H zeroValue42 Z Z ?_))); intro b2 w2 hb2 H
 refine o_store_B 0 H sizeOf42 Z Z Z Z Z Z Z Z ?_; intro w3 H
 refine aG Z (q3 (W_seq (q2 (mV Z (o_not Z Z (q3 ?_))))))
 refine W_cond Z ?_ ?_
 ·intro hc4
  try simp only [nrm] at hc4
  refine q2 (aG Z (q3 (W_ret (N_K_ret (rt1 results147 Z ?_)))))
  have H := H.del (k := 0) rfl
  exact H.retM ⟨_, _, _, _, congrArg Value.bool (by rw [Sp.drop_no (by simpa using hc4)]; rfl), rfl, hms, hSs, hVs, by rw [Sp.drop_no (by simpa using hc4)]; rfl⟩
 intro hc4'
 try simp only [nrm] at hc4'
 have hfd : (Sp.atH Ls id).isSome = true := by simpa using hc4'
 have hgo := Sp.get_ok hVs hfd
 refine W_skip (N_K (W_seq (q2 (o_fieldAddr 2 runUnderlying42 Z sizeOf3 Z Z Z (o_load_B 0 H isAgg3 Z Z Z Z (o_eql Z Z Z (q3 ?_)))))))
 refine W_cond Z ?_ ?_
 ·intro hc5
  try simp only [nrm] at hc5
  have hkg := Sp.drop_get1 hVs hfd hc5
  refine q2 (mV Z (mV Z (o_delS 1 H Z hms hSs underlying64 underlying3 Z Z ?_))); intro es6 ck6 xs6 w6 H hm6 hS6
  refine q1 (aG Z (q3 (W_ret (N_K_ret (rt1 results147 Z ?_)))))
  have H := H.del (k := 0) rfl
  exact H.retM ⟨_, _, _, _, congrArg Value.bool (by rw [hkg.1]; rfl), rfl, hm6, hS6, hkg.2, by rw [hkg.1]; rfl⟩
 intro hc5'
 try simp only [nrm] at hc5'
 have hkg := Sp.drop_get2 hVs hfd hc5'
 refine W_skip (N_K (q2 (o_fieldAddr 2 runUnderlying42 Z sizeOf3 Z Z Z (o_load_B 0 H isAgg3 Z Z Z Z (o_sub Z Z Z oO (o_fieldAddr 2 runUnderlying42 Z sizeOf3 Z Z Z (o_store_B 0 H sizeOf3 Z Z Z Z Z Z Z Z ?_))))))); intro w8 H
 refine q1 (mV Z (mV Z (o_loadagg_B 0 H isAgg42 sizeOf42 Z Z Z Z Z ?_)))
 refine o_updS 1 H ⟨(getH Ls id).id, (getH Ls id).bytes, (getH Ls id).uses - 1⟩ Z hms hSs underlying64 underlying3 Z Z Z (show heldE G0 ⟨(getH Ls id).id, (getH Ls id).bytes, (getH Ls id).uses - 1⟩ _ from ⟨_, _, _, Z, ⟨by first | omega | (dsimp only; omega), by first | omega | (dsimp only; omega)⟩, hr1, ⟨by first | omega | (dsimp only; omega), by first | omega | (dsimp only; omega)⟩⟩) (by exact Sp.get_id hfd) ?_; intro es9 ck9 xs9 w9 H hm9 hS9
 refine q1 (aG Z (q3 (W_ret (rt1 results147 Z ?_))))
 have H := H.del (k := 0) rfl
 exact H.retM ⟨_, _, _, _, congrArg Value.bool (by rw [hkg.1]; rfl), rfl, hm9, hS9, hkg.2, by rw [hkg.1]; rfl⟩
end Go.Proofs.Tst

namespace Go.Proofs.Tst
open Go Fw Tryz
theorem i_fileIds_c (w0 : World) (G0 : PH) (hG : PSub G0 w0) (mbs : Nat) (ess : Array MapEntry) (cks : Nat) (xss : List (Int × Value)) (Ls : List BHeld) (hbs : MapAt G0 mbs ess cks) (hms : MapIs (Value.int .i64) ess cks xss) (hSs : StR G0 xss Ls) (hVs : Sp.VH Ls) (vids : Value) (ids : List (Int)) (hids : RdI G0 vids ids)  :
  Calls Tryz.prog 122 #[.map (some mbs), vids] w0 (Rets w0 (.bool (Sp.l4Ids Ls ids))) := by
 obtain ⟨aids, kids, rfl⟩ := hids.shape
 have hlimids : ids.length ≤ 1099511627776 := hids.lim
 have H := Hp.init hG
 refine calls_of_W (l := [.map (some mbs), .slice aids ids.length kids]) func122 Z ntmps122 Z (q2 (aG Z (q3 (W_seq (q2 (mV Z (o_len_slice underlying38 Z Z (o_gtr Z Z Z (q3 ?_)))))))))
 refine W_cond Z ?_ ?_
 ·intro hc1
  try simp only [nrm] at hc1
  refine q2 (aG Z (q3 (W_ret (N_K_ret (rt1 results122 Z ?_)))))
  exact H.rets (congrArg Value.bool (by rw [Sp.ids_long oM]))
 intro hc1'
 try simp only [nrm] at hc1'
 refine W_skip (N_K (W_seq (q2 (mV Z (o_len_slice underlying38 Z Z (mV Z (q3 (W_block ?_))))))))
 refine W_lp (hf := (Sub.cons (t := 0) Z (Sub.cons (t := 1) Z (Sub.cons (t := 12) Z (Sub.cons (t := 13) Z Sub.nil))))) (J := fun M w m => ∃ (k : Nat) (G : PH), M = [(14, .int .i64 (k : Int))] ∧ PLe G0 G ∧ Hp w0 G0 [] w G [] ∧ (k ≤ ids.length ∧ ∀ j, j < k → Sp.idsOk Ls ids j = true) ∧ m = (ids.length - k)) (h0 := ⟨0, _, Z, PLe.refl _, H, ?inv, Z⟩) (round := ?round)
 case inv => exact ⟨by omega, fun j hj => by omega⟩
 case round =>
  rintro _ w2 _ ⟨k, G2, rfl, hle2, H, hinv2, rfl⟩
  have hSs := hSs.up hle2
  have hbs := hbs.up hle2
  have hids := hids.up hle2
  obtain ⟨hk, hall⟩ := hinv2
  refine q2 (o_lss Z Z Z (q3 (W_seq ?_)))
  refine W_cond Z ?_ ?_
  ·intro hc3
   try simp only [nrm] at hc3
   refine W_skip (N_K (W_seq (W_block (q2 (mV Z (o_index_P k hids underlying38 sizeOf3 Z Z Z Z aN ?_)))))); intro b4 o4 z4 q4 hz4 hE4 hrow4
   obtain ⟨rfl, hi4⟩ := hE4
   refine o_load_P H isAgg3 Z Z (hrow4 0 _ Z) (aG Z (aG Z (q1 (mV Z (mV Z (o_lookS2 (hbs.at H.sub) hms hSs underlying64 underlying3 zeroValue42 Z Z Z ?_)))))); intro q5 hE5
   obtain ⟨a5, m5, c5, rfl, hi5, hr5, hj5⟩ := hE5; have hn_hr5 := hr5.len; have hx_hr5 : _ ≤ 1099511627776 := hr5.lim
   refine mV Z (o_extract Z Z Z (o_extract Z Z Z (o_alloc H zeroValue42 Z Z ?_))); intro b6 w6 hb6 H
   refine o_store_B 0 H sizeOf42 Z Z Z Z Z Z Z Z ?_; intro w7 H
   refine aG Z (q1 (mV Z (o_not Z Z (mV Z ?_))))
   refine R_case (t := 27) Z ?_ ?_
   ·intro hc8
    try simp only [nrm] at hc8
    refine rP Z (rP Z (rP Z (rP Z (rP Z (rP Z (R_pass Z (yl_un Z Z) (R_pass Z (yl_un Z Z) (R_pass Z (yl_un Z Z) (R_pass Z (yl_un Z Z) (rP Z (o_pick_t Z Z Z (q3 (W_true Z (q2 (aG Z ?_)))))))))))))))
    refine q3 (W_ret (N_B_ret (N_K_ret (N_LP_ret (N_B_ret (N_K_ret (rt1 results122 Z ?_)))))))
    exact H.rets (congrArg Value.bool (by rw [Sp.ids_false (k := k) oM (by exact Sp.idsOk_no hz4 (by simpa using hc8))]))
   intro hc8'
   try simp only [nrm] at hc8'
   have hfd : (Sp.atH Ls z4).isSome = true := by simpa using hc8'
   have hbl := Sp.bv_len (Sp.get_ok hVs hfd).2.1
   have hio := Sp.idsOk_get hz4 hfd
   refine gR Z (mV Z (gR Z (mV Z (gR Z (o_len_slice underlying38 Z Z (gR Z (o_sub Z Z Z oO (gR Z (o_lss Z Z Z (gR Z (mV Z ?_)))))))))))
   refine R_case (t := 33) Z ?_ ?_
   ·intro hc10
    try simp only [nrm] at hc10
    refine gR Z (o_fieldAddr 1 runUnderlying42 Z sizeOf38 Z Z Z (gR Z (o_load_B 0 H isAgg38 Z Z Z Z (gR Z (o_len_slice underlying38 Z Z (gR Z (o_neq Z Z Z (gR Z (o_pick_t Z Z Z (o_pick_f Z Z Z (q3 ?_)))))))))))
    refine W_cond Z ?_ ?_
    ·intro hc11
     try simp only [nrm] at hc11
     refine q2 (aG Z (q3 (W_ret (N_B_ret (N_K_ret (N_LP_ret (N_B_ret (N_K_ret (rt1 results122 Z ?_)))))))))
     exact H.rets (congrArg Value.bool (by rw [Sp.ids_false (k := k) oM (by rw [hio]; simp; omega)]))
    intro hc11'
    try simp only [nrm] at hc11'
    refine W_skip (N_B (N_K (W_region (o_add Z Z Z oO (mV Z (R_nil ?_))))))
    have H := H.del (k := 0) rfl
    refine N_lp (hJ := ⟨k + 1, _, Z, hle2, H, ?inv, Z⟩) (hm := ?hm)
    case hm => omega
    case inv => exact ⟨by omega, Sp.upto_succ hall (by rw [hio]; simp; omega)⟩
   intro hc10'
   try simp only [nrm] at hc10'
   refine rP Z (rP Z (rP Z (rP Z (gR Z (o_pick_f Z Z Z (o_pick_f Z Z Z (q3 (W_false Z (W_skip (N_B (N_K (W_region (o_add Z Z Z oO (mV Z (R_nil ?_)))))))))))))))
   have H := H.del (k := 0) rfl
   refine N_lp (hJ := ⟨k + 1, _, Z, hle2, H, ?inv, Z⟩) (hm := ?hm)
   case hm => omega
   case inv => exact ⟨by omega, Sp.upto_succ hall (by rw [hio]; simp; omega)⟩
  intro hc3'
  try simp only [nrm] at hc3'
  refine W_exit (N_K_exit (N_LP_exit (N_B_same (N_K (q2 (aG Z (q3 (W_ret (rt1 results122 Z ?_)))))))))
  exact H.rets (congrArg Value.bool (by rw [Sp.ids_true (fun j hj => hall j oM) oM]))
theorem i_freeFile_c (w0 : World) (G0 : PH) (hG : PSub G0 w0) (mbs : Nat) (ess : Array MapEntry) (cks : Nat) (xss : List (Int × Value)) (Ls : List BHeld) (hms : MapIs (Value.int .i64) ess cks xss) (hSs : StR G0 xss Ls) (hVs : Sp.VH Ls) (vids : Value) (ids : List (Int)) (hids : RdI G0 vids ids) (hLent : Lent w0 G0 [blk mbs (.map ess cks)])  :
  Calls Tryz.prog 115 #[.map (some mbs), vids] w0 (RetM w0 G0 [mbs] (fun G' v Bs => ∃ (es' : Array MapEntry) (ck' : Nat) (xs' : List (Int × Value)) (L' : List BHeld), v = .bool (Sp.FileFree Ls ids).isSome ∧ Bs = [blk mbs (.map es' ck')] ∧ MapIs (Value.int .i64) es' ck' xs' ∧ StR G' xs' L' ∧ Sp.VH L' ∧ ∀ l, Sp.FileFree Ls ids = some l → L' = l)) := by
 obtain ⟨aids, kids, rfl⟩ := hids.shape
 have hlimids : ids.length ≤ 1099511627776 := hids.lim
 have H : Hp w0 G0 [mbs] w0 G0 [blk mbs (.map ess cks)] := hLent.hp
 refine calls_of_W (l := [.map (some mbs), .slice aids ids.length kids]) func115 Z ntmps115 Z (q2 (aG Z (q3 (W_seq (q2 (mV Z (mV Z (o_call call122 Z Z (i_fileIds_c _ _ (H.lendSubL [0]) _ _ _ _ _ (H.lendPredL (k := 0) (ks := [0]) Z Z) hms (hSs.up (PPlus.le _ _ _)) hVs _ _ (hids.up (PPlus.le _ _ _)) ) ?_))))))))
 rintro _ w1 ⟨rfl, ew1⟩; have H := H.step ew1; refine ⟨_, rfl, ?_⟩
 refine o_not Z Z (q3 ?_)
 refine W_cond Z ?_ ?_
 ·intro hc2
  try simp only [nrm] at hc2
  refine q2 (aG Z (q3 (W_ret (N_K_ret (rt1 results115 Z ?_)))))
  have hno : Sp.FileFree Ls ids = none := by simp [Sp.FileFree, hc2]
  exact H.retM ⟨_, _, _, _, congrArg Value.bool (by rw [hno]; rfl), rfl, hms, hSs, hVs, fun l hl => by rw [hno] at hl; cases hl⟩
 intro hc2'
 try simp only [nrm] at hc2'
 refine W_skip (N_K (W_seq (q2 (mV Z (o_len_slice underlying38 Z Z (mV Z (q3 (W_block ?_))))))))
 refine W_lp (hf := (Sub.cons (t := 0) Z (Sub.cons (t := 11) Z (Sub.cons (t := 12) Z Sub.nil)))) (J := fun M w m => ∃ (esm0 : Array MapEntry) (ckm0 : Nat) (xsm0 : List (Int × Value)) (Lm0 : List BHeld) (k : Nat) (G : PH), M = [(13, .int .i64 (k : Int))] ∧ PLe G0 G ∧ Hp w0 G0 [mbs] w G [blk mbs (.map esm0 ckm0)] ∧ (MapIs (Value.int .i64) esm0 ckm0 xsm0 ∧ StR G xsm0 Lm0 ∧ Sp.VH Lm0 ∧ k ≤ ids.length ∧ Sp.foldB Sp.StoreDrop (ids.take k) (some Ls) = some Lm0) ∧ m = (ids.length - k)) (h0 := ⟨_, _, xss, Ls, 0, _, Z, PLe.refl _, H, ?inv, Z⟩) (round := ?round)
 case inv => exact ⟨hms, hSs, hVs, (by simp [Sp.foldB])⟩
 case round =>
  rintro _ w3 _ ⟨esm0, ckm0, xsm0, Lm0, k, G3, rfl, hle3, H, hinv3, rfl⟩
  have hids := hids.up hle3
  obtain ⟨hm3_m0, hS3_m0, hV3_m0, hinv3⟩ := hinv3
  obtain ⟨hk, hf⟩ := hinv3
  refine q2 (o_lss Z Z Z (q3 (W_seq ?_)))
  refine W_cond Z ?_ ?_
  ·intro hc4
   try simp only [nrm] at hc4
   refine W_skip (N_K (W_seq (W_block (q2 (o_index_P k hids underlying38 sizeOf3 Z Z Z Z aN ?_))))); intro b5 o5 z5 q5 hz5 hE5 hrow5
   obtain ⟨rfl, hi5⟩ := hE5
   refine o_load_P H isAgg3 Z Z (hrow5 0 _ Z) (aG Z (q1 (mV Z (mV Z (o_call call147 Z Z (i_drop_c _ _ H.sub _ _ _ _ _ hm3_m0 hS3_m0 hV3_m0 _ H.lent1 ) ?_)))))
   rintro _ w6 ⟨G6, _, _, rfl, H6', ⟨es6, ck6, xs6, L6, rfl, rfl, hm6, hS6, hV6, hL6⟩⟩
   have hle3 := hle3.trans H6'.le
   have H := H.borrow1 H6'
   refine ⟨_, Z, ?_⟩
   refine o_not Z Z (q3 ?_)
   refine W_cond Z ?_ ?_
   ·intro hc7
    try simp only [nrm] at hc7
    refine q2 (aG Z (q3 (W_ret (N_B_ret (N_K_ret (N_LP_ret (N_B_ret (N_K_ret (rt1 results115 Z ?_)))))))))
    have hno : Sp.FileFree Ls ids = none := by (have hno : Sp.StoreDrop Lm0 z5 = none := by simpa using hc7); simp only [Sp.FileFree, Sp.valid_iff.2 hVs, hc2', Bool.and_self, if_true]; exact Sp.foldB_stop hf hz5 hno
    exact H.retM ⟨_, _, _, _, congrArg Value.bool (by rw [hno]; rfl), rfl, hm6, hS6, hV6, fun l hl => by rw [hno] at hl; cases hl⟩
   intro hc7'
   try simp only [nrm] at hc7'
   obtain ⟨p, hsp⟩ := Option.isSome_iff_exists.1 hc7'
   have hLp : L6 = p := by rw [hL6, hsp]; rfl
   subst hLp
   refine W_skip (N_B (N_K (W_region (o_add Z Z Z oO (mV Z (R_nil ?_))))))
   refine N_lp (hJ := ⟨_, _, xs6, L6, k + 1, _, Z, hle3, H, ?inv, Z⟩) (hm := ?hm)
   case hm => omega
   case inv => exact ⟨hm6, hS6, hV6, (by exact ⟨by omega, Sp.foldB_succ hf hz5 hsp⟩)⟩
  intro hc4'
  try simp only [nrm] at hc4'
  refine W_exit (N_K_exit (N_LP_exit (N_B_same (N_K (q2 (aG Z (q3 (W_ret (rt1 results115 Z ?_)))))))))
  have hyes : Sp.FileFree Ls ids = some Lm0 := by simp only [Sp.FileFree, Sp.valid_iff.2 hVs, hc2', Bool.and_self, if_true]; exact Sp.foldB_all hf oM
  exact H.retM ⟨_, _, _, _, congrArg Value.bool (by rw [hyes]; rfl), rfl, hm3_m0, hS3_m0, hV3_m0, fun l hl => by rw [hyes] at hl; cases hl; rfl⟩
theorem i_keepFile_c (w0 : World) (G0 : PH) (hG : PSub G0 w0) (mbs : Nat) (ess : Array MapEntry) (cks : Nat) (xss : List (Int × Value)) (Ls : List BHeld) (hms : MapIs (Value.int .i64) ess cks xss) (hSs : StR G0 xss Ls) (hVs : Sp.VH Ls) (vids : Value) (ids : List (Int)) (hids : RdI G0 vids ids) (hLent : Lent w0 G0 [blk mbs (.map ess cks)])  :
  Calls Tryz.prog 112 #[.map (some mbs), vids] w0 (RetM w0 G0 [mbs] (fun G' v Bs => ∃ (es' : Array MapEntry) (ck' : Nat) (xs' : List (Int × Value)) (L' : List BHeld), v = .bool (Sp.foldB Sp.StoreKeep ids (some Ls)).isSome ∧ Bs = [blk mbs (.map es' ck')] ∧ MapIs (Value.int .i64) es' ck' xs' ∧ StR G' xs' L' ∧ Sp.VH L' ∧ ∀ l, Sp.foldB Sp.StoreKeep ids (some Ls) = some l → L' = l)) := by
 obtain ⟨aids, kids, rfl⟩ := hids.shape
 have hlimids : ids.length ≤ 1099511627776 := hids.lim
 have H : Hp w0 G0 [mbs] w0 G0 [blk mbs (.map ess cks)] := hLent.hp
 refine calls_of_W (l := [.map (some mbs), .slice aids ids.length kids]) func112 Z ntmps112 Z (q2 (aG Z (q3 (W_seq (q2 (mV Z (o_len_slice underlying38 Z Z (mV Z (q3 (W_block ?_))))))))))
 refine W_lp (hf := (Sub.cons (t := 0) Z (Sub.cons (t := 7) Z (Sub.cons (t := 8) Z Sub.nil)))) (J := fun M w m => ∃ (esm0 : Array MapEntry) (ckm0 : Nat) (xsm0 : List (Int × Value)) (Lm0 : List BHeld) (k : Nat) (G : PH), M = [(9, .int .i64 (k : Int))] ∧ PLe G0 G ∧ Hp w0 G0 [mbs] w G [blk mbs (.map esm0 ckm0)] ∧ (MapIs (Value.int .i64) esm0 ckm0 xsm0 ∧ StR G xsm0 Lm0 ∧ Sp.VH Lm0 ∧ k ≤ ids.length ∧ Sp.foldB Sp.StoreKeep (ids.take k) (some Ls) = some Lm0) ∧ m = (ids.length - k)) (h0 := ⟨_, _, xss, Ls, 0, _, Z, PLe.refl _, H, ?inv, Z⟩) (round := ?round)
 case inv => exact ⟨hms, hSs, hVs, (by simp [Sp.foldB])⟩
 case round =>
  rintro _ w1 _ ⟨esm0, ckm0, xsm0, Lm0, k, G1, rfl, hle1, H, hinv1, rfl⟩
  have hids := hids.up hle1
  obtain ⟨hm1_m0, hS1_m0, hV1_m0, hinv1⟩ := hinv1
  obtain ⟨hk, hf⟩ := hinv1
  refine q2 (o_lss Z Z Z (q3 (W_seq ?_)))
  refine W_cond Z ?_ ?_
  ·intro hc2
   try simp only [nrm] at hc2
   refine W_skip (N_K (W_seq (W_block (q2 (o_index_P k hids underlying38 sizeOf3 Z Z Z Z aN ?_))))); intro b3 o3 z3 q3 hz3 hE3 hrow3
   obtain ⟨rfl, hi3⟩ := hE3
   refine o_load_P H isAgg3 Z Z (hrow3 0 _ Z) (aG Z (q1 (mV Z (mV Z (o_call call146 Z Z (i_keep_c _ _ H.sub _ _ _ _ _ hm1_m0 hS1_m0 hV1_m0 _ H.lent1 ) ?_)))))
   rintro _ w4 ⟨G4, _, _, rfl, H4', ⟨es4, ck4, xs4, L4, rfl, rfl, hm4, hS4, hV4, hL4⟩⟩
   have hle1 := hle1.trans H4'.le
   have H := H.borrow1 H4'
   refine ⟨_, Z, ?_⟩
   refine o_not Z Z (q3 ?_)
   refine W_cond Z ?_ ?_
   ·intro hc5
    try simp only [nrm] at hc5
    refine q2 (aG Z (q3 (W_ret (N_B_ret (N_K_ret (N_LP_ret (N_B_ret (N_K_ret (rt1 results112 Z ?_)))))))))
    have hno : Sp.foldB Sp.StoreKeep ids (some Ls) = none := by (have hno : Sp.StoreKeep Lm0 z3 = none := by simpa using hc5); exact Sp.foldB_stop hf hz3 hno
    exact H.retM ⟨_, _, _, _, congrArg Value.bool (by rw [hno]; rfl), rfl, hm4, hS4, hV4, fun l hl => by rw [hno] at hl; cases hl⟩
   intro hc5'
   try simp only [nrm] at hc5'
   obtain ⟨p, hsp⟩ := Option.isSome_iff_exists.1 hc5'
   have hLp : L4 = p := by rw [hL4, hsp]; rfl
   subst hLp
   refine W_skip (N_B (N_K (W_region (o_add Z Z Z oO (mV Z (R_nil ?_))))))
   refine N_lp (hJ := ⟨_, _, xs4, L4, k + 1, _, Z, hle1, H, ?inv, Z⟩) (hm := ?hm)
   case hm => omega
   case inv => exact ⟨hm4, hS4, hV4, (by exact ⟨by omega, Sp.foldB_succ hf hz3 hsp⟩)⟩
  intro hc2'
  try simp only [nrm] at hc2'
  refine W_exit (N_K_exit (N_LP_exit (N_B_same (N_K (q2 (aG Z (q3 (W_ret (rt1 results112 Z ?_)))))))))
  have hyes : Sp.foldB Sp.StoreKeep ids (some Ls) = some Lm0 := Sp.foldB_all hf oM
  exact H.retM ⟨_, _, _, _, congrArg Value.bool (by rw [hyes]; rfl), rfl, hm1_m0, hS1_m0, hV1_m0, fun l hl => by rw [hyes] at hl; cases hl; rfl⟩
end Go.Proofs.Tst

namespace Go.Proofs.Tst
open Go Fw Tryz
theorem i_listIn_r : ∀ (N : Nat) (w0 : World) (G0 : PH) (hG : PSub G0 w0) (t : Nd) (hndt : RdN G0 t) (s : Bs) (hs : s.length ≤ 16777216) (hwt : t.wf) (hsl : s.length + 6 * t.cnt ≤ 100000) (hsz : t.size ≤ N),
  Calls Tryz.prog 85 #[.pointer (some ⟨t.b, 0, none⟩), str s] w0 (RetN w0 G0 (fun v Bs => ∃ (F : Fr), Bs = [frag F] ∧ OIs F v (t.flat s))) := by
 intro N
 induction N with
 | zero => intro w0 G0 hG t hndt s hs hwt hsl hsz; exact absurd (Nd.size_pos t) oM
 | succ N ih =>
 intro w0 G0 hG t hndt s hs hwt hsl hsz
 obtain ⟨hnlt, nat, nmt, nct, nAt, nMt, nCt, hprt, hrit, hrkt⟩ := hndt.open
 have hn_hrit := hrit.len; have hx_hrit : _ ≤ 1099511627776 := hrit.lim
 have hn_hrkt := hrkt.len; have hx_hrkt : _ ≤ 1099511627776 := hrkt.lim
 have H := Hp.init hG
 refine calls_of_W (l := [.pointer (some ⟨t.b, 0, none⟩), str s]) func85 Z ntmps85 Z (q2 (aG Z (q1 (aG Z (q3 (W_seq (q2 (mV Z (o_nilCheck Z Z (o_fieldAddr 3 runUnderlying167 Z sizeOf140 Z Z Z (o_load_P H isAgg140 Z Z (hprt 3 _ Z) (o_len_slice underlying140 Z Z (mV Z (q3 (W_block ?_)))))))))))))))
 have H := H.addNil 40 3
 have H := H.addF
 refine W_lp (hf := (Sub.cons (t := 1) Z (Sub.cons (t := 4) Z (Sub.cons (t := 12) Z (Sub.cons (t := 13) Z Sub.nil))))) (J := fun M w m => ∃ (v : Value) (n : Nat) (cs : List Value) (xs : List (BItem)) (F : Fr) (k : Nat) (G : PH), M = [(14, .int .i64 (k : Int)), (5, v)] ∧ PLe G0 G ∧ Hp w0 G0 [] w G [frag F, acc 40 3 v n cs] ∧ (ChkF itemO 3 cs xs F ∧ n = xs.length ∧ k ≤ t.kids.length ∧ xs = Nd.flats s (t.kids.take k)) ∧ m = (t.kids.length - k)) (h0 := ⟨_, _, _, [], [], 0, _, Z, PLe.refl _, H, ?inv, Z⟩) (round := ?round)
 case inv => exact ⟨ChkF.nil,  by first | rfl | simp | (simp; omega) | omega, (by simp [Nd.flats])⟩
 case round =>
  rintro _ w2 _ ⟨v, n, cs, xs, F, k, G2, rfl, hle2, H, hinv2, rfl⟩
  have hrkt := hrkt.up hle2
  obtain ⟨hchk2_0, hn2_0, hinv2⟩ := hinv2
  obtain ⟨av2_0, cv2_0, rfl⟩ := H.accShape (k := 1) rfl
  obtain ⟨hk, hxs⟩ := hinv2; have hxl : xs.length ≤ 100000 := by (have := Nd.flats_len s (t.kids.take k); have := Nd.cnts_take t.kids k; have := Nd.cnt_eq t; rw [hxs]; omega)
  refine q2 (o_lss Z Z Z (q3 (W_seq ?_)))
  refine W_cond Z ?_ ?_
  ·intro hc3
   try simp only [nrm] at hc3
   refine W_skip (N_K (W_seq (W_block (q2 (o_index_P k hrkt underlying140 sizeOf65 Z Z Z Z aN ?_))))); intro b4 o4 z4 q4 hz4 hE4 hrow4
   obtain ⟨rfl, hnd4⟩ := hE4; obtain ⟨hnl4, na4, nm4, nc4, nA4, nM4, nC4, hpr4, hri4, hrk4⟩ := hnd4.open; have hn_hri4 := hri4.len; have hx_hri4 : _ ≤ 1099511627776 := hri4.lim; have hn_hrk4 := hrk4.len; have hx_hrk4 : _ ≤ 1099511627776 := hrk4.lim
   have hzm := List.mem_of_getElem? hz4; have hzc := Nd.kid_cnt hzm; have hzs := Nd.size_kid hzm; have hzw := ((Nd.wf_iff _).1 hwt).2 _ hzm; have hzn := Nd.word_le hzw.1; have hzf := Nd.flat_len (s ++ z4.name ++ [47]) z4
   refine o_load_P H isAgg65 Z Z (hrow4 0 _ Z) (aG Z (q1 (mV Z (mV Z (o_nilCheck Z Z (o_fieldAddr 0 runUnderlying167 Z sizeOf9 Z Z Z (o_load_P H isAgg9 Z Z (hpr4 0 _ Z) ?_)))))))
   refine o_sadd Z Z Z (by simp only [LIM, List.length_append, List.length_cons, List.length_nil] at *; omega) ?_
   refine aG Z (q3 (W_seq (W_drawK [] 15 H kR Z ?_))); intro w5 H; have hd5 := PLe.refl G2
   refine vM 0 Z Z (vM 1 Z Z (vM 2 Z Z (RD_t 3 Z kR Z (fun _ hK => v_nilCheck Z) (RD_t 4 Z kR Z (fun _ hK => v_fieldAddr 1 runUnderlying167 Z sizeOf4 Z Z) (RD_t 5 Z kR Z (fun _ hK => v_load_P hK isAgg4 Z (hpr4 1 _ Z)) (vM 6 Z Z (RD_t 7 Z kR Z (fun _ hK => v_nilCheck Z) (RD_t 8 Z kR Z (fun _ hK => v_fieldAddr 2 runUnderlying167 Z sizeOf38 Z Z) (RD_t 9 Z kR Z (fun _ hK => v_load_P hK isAgg38 Z (hpr4 2 _ Z)) ?_)))))))))
   refine RD_run [10] kR Z (RDs.cons Z ?_ RDs.nil)
   refine o_call call68 Z Z (l_Clone_c _ _ H.sub _ _ hri4 ) ?_
   rintro _ w6 ⟨G6, v6, _, g6, rfl, ⟨cs6, rfl, hchk6⟩, hp6, hq6, hs6⟩
   have H := H.growO g6 hp6 hq6 hs6; obtain ⟨av6, cv6, rfl⟩ := H.accShape (k := 0) rfl
   have hnd4 := hnd4.up g6.le
   have hle2 := hle2.trans g6.le
   have hd5 := hd5.trans g6.le
   refine ⟨_, Z, ?_⟩
   refine R_nil (N_DK (Kn.of' H hd5 SubL.nil) (RD_t 11 Z kR Z (fun _ hK => v_build bf40 Z Z) ?_))
   refine RD_run [12] kR Z (RDs.cons Z ?_ RDs.nil)
   refine o_buildSlice H underlying24 sizeOf40 (fun w => ⟨_, zeroValue40 w, Z⟩) Z Z Z Z Z Z Z ?_; intro b7 w7 hb7 H
   refine R_nil (N_DK (Kn.of' H hd5 SubL.nil) ?_)
   refine RD_run [13] kR Z (RDs.cons Z ?_ RDs.nil)
   refine o_append1 2 H (sz := 3) (bytes := 48) underlying24 typeInfo40 ⟨_, Z, Z⟩ Z Z Z Z Z Z Z Z Z Z oM Z ?_; intro v8 w8 H
   obtain ⟨Fi2, H, hOI2⟩ := H.ownI (k := 0) rfl hchk6 aN aN
   have hchk8 := hchk2_0.snoc (show itemO Fi2 ⟨s ++ z4.name, z4.dir, z4.ids⟩ _ from ⟨_, _, _, rfl, (by (first | assumption | (refine Sp.l5Parent_lim ?_; assumption) | (simp; done) | (simp; omega) | omega)), hOI2⟩) rfl
   have H := H.toFront (k := 1) rfl
   have H := H.mergeF
   obtain ⟨av8, cv8, rfl⟩ := H.accShape (k := 1) rfl
   refine R_nil (N_DK (Kn.of' H hd5 SubL.nil) (RD_t 14 Z kR Z (fun _ hK => v_assign Z) (RD_done kR (N_K (W_region (mV Z (mV Z (mV Z ?_))))))))
   refine o_sadd Z Z Z (by simp only [LIM, List.length_append, List.length_cons, List.length_nil] at *; omega) ?_
   refine o_call call85 Z Z (ih _ _ H.sub _ hnd4 _ (by (first | assumption | (refine Sp.l5Parent_lim ?_; assumption) | (simp; done) | (simp; omega) | omega)) hzw.2 (by simp; omega) oM) ?_
   rintro _ w9 ⟨_, _, rfl, H9', ⟨F9, rfl, hO9⟩⟩
   have H := H.readers (fp := []) (by simp) (PLe.refl _) H9'
   obtain ⟨e29, hP9⟩ := hO9
   obtain ⟨sa9, sc9, rfl⟩ := OwnS.shape hP9
   have hO9 := OIs.mk hP9
   refine ⟨_, Z, ?_⟩
   refine o_append_F 1 H hP9 (by intro F x cs hx u hu; obtain ⟨_, _, _, rfl, _⟩ := hx; simp at hu; rcases hu with rfl | rfl | rfl <;> rfl) (sz := 3) (bytes := 48) underlying24 typeInfo40 ⟨_, rfl, rfl⟩ rfl rfl rfl rfl rfl rfl rfl oM rfl ?_; intro v10 w10 cs10 F10_ H hck10 hmm10
   have hchk10 := hchk8.app hck10
   have H := H.toFront (k := 1) rfl
   have H := H.mergeF
   obtain ⟨av10, cv10, rfl⟩ := H.accShape (k := 1) rfl
   refine aG Z (R_nil (N_B (N_K (W_region (o_add Z Z Z oO (mV Z (R_nil ?_)))))))
   refine N_lp (hJ := ⟨_, _, _, ((xs ++ [⟨s ++ z4.name, z4.dir, z4.ids⟩]) ++ (z4.flat (s ++ z4.name ++ [47]))), ((F ++ Fi2) ++ F10_), k + 1, _, Z, hle2, H, ?inv, Z⟩) (hm := ?hm)
   case hm => omega
   case inv => exact ⟨hchk10, aN, (by exact ⟨by omega, by (rw [Nd.flats_succ hz4, hxs]; simp)⟩)⟩
  intro hc3'
  try simp only [nrm] at hc3'
  refine W_exit (N_K_exit (N_LP_exit (N_B_same (N_K (q2 (mV Z (aG Z (q3 (W_ret (rt1 results85 Z ?_))))))))))
  have H := H.toFront (k := 1) rfl
  obtain ⟨Fo3, H, hOw3⟩ := H.ownF hchk2_0 aN aN
  have hX : xs = t.flat s := by rw [hxs, List.take_of_length_le oM, Nd.flat_eq]
  have H := H.forget hG (by simp)
  exact ⟨_, _, Z, H, _, Z, hX ▸ ⟨_, hOw3⟩⟩
theorem i_listIn_c (w0 : World) (G0 : PH) (hG : PSub G0 w0) (t : Nd) (hndt : RdN G0 t) (s : Bs) (hs : s.length ≤ 16777216) (hwt : t.wf) (hsl : s.length + 6 * t.cnt ≤ 100000) :
  Calls Tryz.prog 85 #[.pointer (some ⟨t.b, 0, none⟩), str s] w0 (RetN w0 G0 (fun v Bs => ∃ (F : Fr), Bs = [frag F] ∧ OIs F v (t.flat s))) := i_listIn_r _ w0 G0 hG t hndt s hs hwt hsl (Nat.le_refl _)
theorem i_tlist_c (w0 : World) (G0 : PH) (hG : PSub G0 w0) (t : Nd) (hndt : RdN G0 t) (hwt : t.wf) (hct : t.cnt ≤ 1000) :
  Calls Tryz.prog 49 #[.pointer (some ⟨t.b, 0, none⟩)] w0 (RetN w0 G0 (fun v Bs => ∃ (F : Fr), Bs = [frag F] ∧ OIs F v (t.flat []))) := by
 obtain ⟨hnlt, nat, nmt, nct, nAt, nMt, nCt, hprt, hrit, hrkt⟩ := hndt.open
 have hn_hrit := hrit.len; have hx_hrit : _ ≤ 1099511627776 := hrit.lim
 have hn_hrkt := hrkt.len; have hx_hrkt : _ ≤ 1099511627776 := hrkt.lim
 have H := Hp.init hG
 refine calls_of_W (l := [.pointer (some ⟨t.b, 0, none⟩)]) func49 Z ntmps49 Z (q2 (aG Z (q1 (mV Z ?_))))
 refine o_call call85 Z Z (i_listIn_c _ _ H.sub _ hndt _ (by (first | assumption | (refine Sp.l5Parent_lim ?_; assumption) | (simp; done) | (simp; omega) | omega)) hwt (by simp; omega)) ?_
 rintro _ w1 ⟨_, _, rfl, H1', ⟨F1, rfl, hO1⟩⟩
 have H := H.readers (fp := []) (by simp) (PLe.refl _) H1'
 obtain ⟨e21, hP1⟩ := hO1
 obtain ⟨sa1, sc1, rfl⟩ := OwnS.shape hP1
 have hO1 := OIs.mk hP1
 refine ⟨_, Z, ?_⟩
 refine aG Z (q3 (W_ret (rt1 results49 Z ?_)))
 have H := H.forget hG (by simp)
 exact ⟨_, _, Z, H, _, Z, hO1⟩
end Go.Proofs.Tst

namespace Go.Proofs.Tst
open Go Fw Tryz
theorem i_usedBy_c (w0 : World) (G0 : PH) (hG : PSub G0 w0) (mbs : Nat) (ess : Array MapEntry) (cks : Nat) (xss : List (Int × Value)) (Ls : List BHeld) (hbs : MapAt G0 mbs ess cks) (hms : MapIs (Value.int .i64) ess cks xss) (hSs : StR G0 xss Ls) (hVs : Sp.VH Ls) (vtrees : Value) (trees : List (Nd)) (htrees : RdNd G0 vtrees trees) (htl : trees.length ≤ 7) (htw : ∀ t, t ∈ trees → t.wf ∧ t.cnt ≤ 12) :
  Calls Tryz.prog 94 #[.map (some mbs), vtrees] w0 (Rets w0 (.bool (trees.all (fun t => (t.flat []).all (fun x => Sp.l4Ids Ls x.ids)) && Ls.all (fun h => decide ((Sp.cntT trees h.id : Int) = h.uses))))) := by
 obtain ⟨atrees, ktrees, rfl⟩ := htrees.shape
 have hlimtrees : trees.length ≤ 1099511627776 := htrees.lim
 have H := Hp.init hG
 refine calls_of_W (l := [.map (some mbs), .slice atrees trees.length ktrees]) func94 Z ntmps94 Z (q2 (aG Z (q1 (o_makeMap H Z ?_)))); intro b1 w1 hb1 H
 have hm1 := MapIs.empty (key := Value.int .i64) 0
 have hS1 := UsR.nil
 refine aG Z (q3 (W_seq (q2 (mV Z (o_len_slice underlying140 Z Z (mV Z (q3 (W_block ?_))))))))
 refine W_lp (hf := (Sub.cons (t := 0) Z (Sub.cons (t := 5) Z (Sub.cons (t := 15) Z (Sub.cons (t := 16) Z Sub.nil))))) (J := fun M w m => ∃ (esm0 : Array MapEntry) (ckm0 : Nat) (xsm0 : List (Int × Value)) (fm0 : Int → Nat) (i : Nat) (G : PH), M = [(17, .int .i64 (i : Int))] ∧ PLe G0 G ∧ Hp w0 G0 [] w G [blk b1 (.map esm0 ckm0)] ∧ (MapIs (Value.int .i64) esm0 ckm0 xsm0 ∧ UsR xsm0 fm0 ∧ i ≤ trees.length ∧ (∀ a, fm0 a = Sp.cntT (trees.take i) a ∧ fm0 a ≤ 48 * i) ∧ (trees.take i).all (fun t => (t.flat []).all (fun x => Sp.l4Ids Ls x.ids)) = true) ∧ m = (trees.length - i)) (h0 := ⟨_, _, [], (fun _ => 0), 0, _, Z, PLe.refl _, H, ?inv, Z⟩) (round := ?round)
 case inv => exact ⟨hm1, hS1, (by simp [Sp.cntT])⟩
 case round =>
  rintro _ w2 _ ⟨esm0, ckm0, xsm0, fm0, i, G2, rfl, hle2, H, hinv2, rfl⟩
  have hSs := hSs.up hle2
  have hbs := hbs.up hle2
  have htrees := htrees.up hle2
  obtain ⟨hm2_m0, hS2_m0, hinv2⟩ := hinv2
  obtain ⟨hi, hf, hok⟩ := hinv2
  refine q2 (o_lss Z Z Z (q3 (W_seq ?_)))
  refine W_cond Z ?_ ?_
  ·intro hc3
   try simp only [nrm] at hc3
   refine W_skip (N_K (W_seq (W_block (q2 (o_index_P i htrees underlying140 sizeOf65 Z Z Z Z aN ?_))))); intro b4 o4 z4 q4 hz4 hE4 hrow4
   obtain ⟨rfl, hnd4⟩ := hE4; obtain ⟨hnl4, na4, nm4, nc4, nA4, nM4, nC4, hpr4, hri4, hrk4⟩ := hnd4.open; have hn_hri4 := hri4.len; have hx_hri4 : _ ≤ 1099511627776 := hri4.lim; have hn_hrk4 := hrk4.len; have hx_hrk4 : _ ≤ 1099511627776 := hrk4.lim
   try (have hzw := htw z4 (List.mem_of_getElem? hz4); have hzf := Nd.flat_len [] z4)
   refine o_load_P H isAgg65 Z Z (hrow4 0 _ Z) (aG Z (q1 (mV Z (o_call call49 Z Z (i_tlist_c _ _ H.sub _ hnd4 hzw.1 oM) ?_))))
   rintro _ w5 ⟨_, _, rfl, H5', ⟨F5, rfl, hO5⟩⟩
   have H := H.readers (fp := []) (by simp) (PLe.refl _) H5'
   obtain ⟨e25, hP5⟩ := hO5
   obtain ⟨sa5, sc5, rfl⟩ := OwnS.shape hP5
   have hO5 := OIs.mk hP5
   refine ⟨_, Z, ?_⟩
   have hdm1 := dm_nodup H (k := 0) rfl; obtain ⟨Gk1, H, hkl1, hks1⟩ := H.keepF (k := 0) rfl (fun b _ hb => by simp at hb)
   have hrk1 := hO5.rd hks1 hdm1
   have hSs := hSs.up hkl1
   have hbs := hbs.up hkl1
   have hle2 := hle2.trans hkl1
   have hn_hrk1 := hrk1.len
   refine o_len_slice underlying24 Z Z (mV Z (q3 (W_block ?_)))
   refine W_lp (hf := (Sub.cons (t := 0) Z (Sub.cons (t := 5) Z (Sub.cons (t := 15) Z (Sub.cons (t := 16) Z (Sub.cons (t := 17) Z (Sub.cons (t := 22) Z (Sub.cons (t := 23) Z Sub.nil)))))))) (J := fun M w m => ∃ (esm0 : Array MapEntry) (ckm0 : Nat) (xsm0 : List (Int × Value)) (fm0 : Int → Nat) (jj : Nat) (G : PH), M = [(24, .int .i64 (jj : Int))] ∧ PLe Gk1 G ∧ Hp w0 G0 [] w G [blk b1 (.map esm0 ckm0)] ∧ (MapIs (Value.int .i64) esm0 ckm0 xsm0 ∧ UsR xsm0 fm0 ∧ jj ≤ (z4.flat []).length ∧ (∀ a, fm0 a = Sp.cntT (trees.take i) a + Sp.cntU (z4.flat []) a jj ∧ fm0 a ≤ 48 * i + 4 * jj) ∧ ((z4.flat []).take jj).all (fun x => Sp.l4Ids Ls x.ids) = true) ∧ m = ((z4.flat []).length - jj)) (h0 := ⟨_, _, xsm0, fm0, 0, _, Z, PLe.refl _, H, ?inv, Z⟩) (round := ?round)
   case inv => exact ⟨hm2_m0, hS2_m0, (by exact ⟨by omega, fun a => (by have := hf a; simp [Sp.cntU]; omega), by simp⟩)⟩
   case round =>
    rintro _ w6 _ ⟨esm0, ckm0, xsm0, fm0, jj, G6, rfl, hle6, H, hinv6, rfl⟩
    have hSs := hSs.up hle6
    have hbs := hbs.up hle6
    have hrk1 := hrk1.up hle6
    have hle2 := hle2.trans hle6
    obtain ⟨hm6_m0, hS6_m0, hinv6⟩ := hinv6
    obtain ⟨hjl, hf2, hok2⟩ := hinv6
    refine q2 (o_lss Z Z Z (q3 (W_seq ?_)))
    refine W_cond Z ?_ ?_
    ·intro hc7
     try simp only [nrm] at hc7
     refine W_skip (N_K (W_seq (W_block (q2 (o_index_P jj hrk1 underlying24 sizeOf40 Z Z Z Z aN ?_))))); intro b8 o8 z8 q8 hz8 hE8 hrow8
     obtain ⟨a8, m8, c8, rfl, hi8, hr8⟩ := hE8; have hy_hi8 : _ ≤ 16777216 := hi8; have hn_hr8 := hr8.len; have hx_hr8 : _ ≤ 1099511627776 := hr8.lim
     try (have hzw := htw z8 (List.mem_of_getElem? hz8); have hzf := Nd.flat_len [] z8)
     refine o_loadagg_P H isAgg40 sizeOf40 Z Z hrow8 Z (o_alloc H zeroValue40 Z Z ?_); intro b9 w9 hb9 H
     refine o_store_B 0 H sizeOf40 Z Z Z Z Z Z Z Z ?_; intro w10 H
     refine q3 (W_seq (q2 (mV Z (o_fieldAddr 2 runUnderlying40 Z sizeOf38 Z Z Z (o_load_B 0 H isAgg38 Z Z Z Z (o_call call122 Z Z (i_fileIds_c _ _ H.sub _ _ _ _ _ hbs hms hSs hVs _ _ hr8 ) ?_))))))
     rintro _ w11 ⟨rfl, ew11⟩; have H := H.step ew11; refine ⟨_, rfl, ?_⟩
     refine o_not Z Z (q3 ?_)
     refine W_cond Z ?_ ?_
     ·intro hc12
      try simp only [nrm] at hc12
      refine q2 (aG Z (q3 (W_ret (N_K_ret (N_B_ret (N_K_ret (N_LP_ret (N_B_ret (N_B_ret (N_K_ret (N_LP_ret (N_B_ret (N_K_ret (rt1 results94 Z ?_))))))))))))))
      exact H.rets (congrArg Value.bool (by rw [Sp.all_false hz4 (Sp.all_false hz8 (by simpa using hc12)), Bool.false_and]))
     intro hc12'
     try simp only [nrm] at hc12'
     have hio : Sp.l4Ids Ls z8.ids = true := by simpa using hc12'
     have hil := Sp.ids_le hio
     refine W_skip (N_K (q2 (o_fieldAddr 2 runUnderlying40 Z sizeOf38 Z Z Z (o_load_B 0 H isAgg38 Z Z Z Z (o_len_slice underlying38 Z Z (mV Z (q3 (W_block ?_))))))))
     obtain ⟨ln13, hln13, H⟩ := H.name (k := 0) rfl
     refine W_lp (hf := (Sub.cons (t := 0) Z (Sub.cons (t := 5) Z (Sub.cons (t := 15) Z (Sub.cons (t := 16) Z (Sub.cons (t := 17) Z (Sub.cons (t := 22) Z (Sub.cons (t := 23) Z (Sub.cons (t := 24) Z (Sub.cons (t := 34) Z (Sub.cons (t := 35) Z Sub.nil))))))))))) (J := fun M w m => ∃ (esm0 : Array MapEntry) (ckm0 : Nat) (xsm0 : List (Int × Value)) (fm0 : Int → Nat) (kk : Nat) (G : PH), M = [(36, .int .i64 (kk : Int))] ∧ PLe G6 G ∧ Hp w0 G0 [] w G [blk b9 (cl ln13 40), blk b1 (.map esm0 ckm0)] ∧ (MapIs (Value.int .i64) esm0 ckm0 xsm0 ∧ UsR xsm0 fm0 ∧ kk ≤ z8.ids.length ∧ (∀ a, fm0 a = Sp.cntT (trees.take i) a + Sp.cntU (z4.flat []) a jj + Sp.cnt1 a (z8.ids.take kk) ∧ fm0 a ≤ 48 * i + 4 * jj + kk)) ∧ m = (z8.ids.length - kk)) (h0 := ⟨_, _, xsm0, fm0, 0, _, Z, PLe.refl _, H, ?inv, Z⟩) (round := ?round)
     case inv => exact ⟨hm6_m0, hS6_m0, (by exact ⟨by omega, fun a => (by have := hf2 a; simp [Sp.cnt1]; omega)⟩)⟩
     case round =>
      rintro _ w14 _ ⟨esm0, ckm0, xsm0, fm0, kk, G14, rfl, hle14, H, hinv14, rfl⟩
      subst hln13
      have hr8 := hr8.up hle14
      have hle6 := hle6.trans hle14
      obtain ⟨hm14_m0, hS14_m0, hinv14⟩ := hinv14
      obtain ⟨hkl, hf3⟩ := hinv14; have hb3 := fun a => (hf3 a).2
      refine q2 (o_lss Z Z Z (q3 (W_seq ?_)))
      refine W_cond Z ?_ ?_
      ·intro hc15
       try simp only [nrm] at hc15
       refine W_skip (N_K (W_seq (W_block (q2 (o_index_P kk hr8 underlying38 sizeOf3 Z Z Z Z aN ?_))))); intro b16 o16 z16 q16 hz16 hE16 hrow16
       obtain ⟨rfl, hi16⟩ := hE16
       refine o_load_P H isAgg3 Z Z (hrow16 0 _ Z) (aG Z (q3 (W_region (mV Z (mV Z (o_lookU (H.at (k := 1) Z) hm14_m0 hS14_m0 underlying92 underlying3 zeroValue3 Z Z Z ?_))))))
       try (have h7 := hb3 z16)
       refine o_add Z Z Z oO (o_updU 1 H (fm0 z16 + 1) Z hm14_m0 hS14_m0 underlying92 underlying3 Z Z Z oM ?_); intro es19 ck19 xs19 w19 H hm19 hS19
       refine R_nil (N_B (N_K (W_region (o_add Z Z Z oO (mV Z (R_nil ?_))))))
       refine N_lp (hJ := ⟨_, _, xs19, (fun a => if a = z16 then (fm0 z16 + 1) else fm0 a), kk + 1, _, Z, hle14, H, ?inv, Z⟩) (hm := ?hm)
       case hm => omega
       case inv => exact ⟨hm19, hS19, (by exact ⟨by omega, fun a => (by have h9 := hf3 a; have h7 := hf3 z16; (rw [Sp.cnt1_succ hz16]); by_cases e : a = z16; (· subst e; simp; omega); (· have e2 : ¬ z16 = a := fun h => e h.symm; simp only [e, e2, if_false]; omega))⟩)⟩
      intro hc15'
      try simp only [nrm] at hc15'
      refine W_exit (N_K_exit (N_LP_exit (N_B_same (N_B (N_K (W_region (o_add Z Z Z oO (mV Z (R_nil ?_)))))))))
      have H := H.del (k := 0) rfl
      refine N_lp (hJ := ⟨_, _, xsm0, fm0, jj + 1, _, Z, hle6, H, ?inv, Z⟩) (hm := ?hm)
      case hm => omega
      case inv => exact ⟨hm14_m0, hS14_m0, (by exact ⟨by omega, fun a => (by have h9 := hf3 a; (rw [Sp.cntU_succ hz8]); (rw [List.take_of_length_le (l := z8.ids) oM] at h9); omega), Sp.all_take hok2 hz8 hio⟩)⟩
    intro hc7'
    try simp only [nrm] at hc7'
    refine W_exit (N_K_exit (N_LP_exit (N_B_same (N_B (N_K (W_region (o_add Z Z Z oO (mV Z (R_nil ?_)))))))))
    refine N_lp (hJ := ⟨_, _, xsm0, fm0, i + 1, _, Z, hle2, H, ?inv, Z⟩) (hm := ?hm)
    case hm => omega
    case inv => exact ⟨hm6_m0, hS6_m0, (by exact ⟨by omega, fun a => (by have h9 := hf2 a; have h10 := Sp.cntT_succ (id := a) hz4; have h8 : (z4.flat []).length = jj := oM; (rw [h8] at h10); omega), Sp.all_take hok hz4 (by (rw [List.take_of_length_le (l := z4.flat []) oM] at hok2); exact hok2)⟩)⟩
  intro hc3'
  try simp only [nrm] at hc3'
  refine W_exit (N_K_exit (N_LP_exit (N_B_same (N_K (W_seq (q2 (mV Z ?_)))))))
  have hmb23 := (hbs.at H.sub); refine o_range H hmb23 underlying64 rfl rfl ?_; intro r23 w23 hr23 H _; have hne23 : r23 ≠ mbs := fun e => by have := (Array.getElem?_eq_some_iff.1 hmb23).1; omega
  refine q3 (W_block ?_)
  refine W_lp (hf := (Sub.cons (t := 5) Z (Sub.cons (t := 48) Z Sub.nil))) (J := fun M w m => ∃  (sn : Array Nat) (G : PH), M = [] ∧ PLe G2 G ∧ Hp w0 G0 [] w G [blk r23 (.mapIter (some mbs) cks sn cks), blk b1 (.map esm0 ckm0)] ∧ (∀ y, y ∈ Ls → seenH ess sn y → (Sp.cntT trees y.id : Int) = y.uses) ∧ m = ((leftOf ess sn).size)) (h0 := ⟨#[], _, Z, PLe.refl _, H, ?inv, Z⟩) (round := ?round)
  case inv => rintro y hy ⟨e, _, _, he⟩; simp at he
  case round =>
   rintro _ w24 _ ⟨sn, G24, rfl, hle24, H, hinv24, rfl⟩
   have hSs := hSs.up hle24
   have hbs := hbs.up hle24
   have hsn := hinv24
   refine q2 ?_
   refine o_next 0 H (hbs.at H.sub) hms hSs Z hne23 Z Z ?_ ?_
   ·intro hall25
    refine o_extract Z Z Z (q3 (W_seq (W_false Z (W_exit (N_K_exit (N_LP_exit (N_B_same (N_K (q2 (aG Z (q3 (W_ret (rt1 results94 Z ?_)))))))))))))
    have hot := hok; rw [List.take_of_length_le oM] at hot
    exact H.rets (congrArg Value.bool (by (rw [hot, Bool.true_and]); symm; (rw [List.all_eq_true]); intro y hy; simp only [decide_eq_true_eq]; exact hsn y hy (hall25 y hy)))
   intro e25 y25 q25 w25 he25 hk25 hv25 hy25 hE25 _ hless25 H
   obtain ⟨a25, m25, c25, rfl, hi25, hr25, hj25⟩ := hE25; have hn_hr25 := hr25.len; have hx_hr25 : _ ≤ 1099511627776 := hr25.lim
   refine o_extract Z Z Z (q3 (W_seq (W_true Z (W_skip (N_K (W_block (q2 (o_entry 0 H (hbs.at H.sub) hms Z he25 hk25 hv25 Z Z (o_extract Z Z Z (o_extract Z Z Z (o_alloc H zeroValue42 Z Z ?_))))))))))); intro b26 w26 hb26 H
   refine aG Z (o_store_B 0 H sizeOf42 Z Z Z Z Z Z Z Z ?_); intro w27 H
   refine q1 (mV Z (mV Z (o_lookU (H.at (k := 2) Z) hm2_m0 hS2_m0 underlying92 underlying3 zeroValue3 Z Z Z (o_fieldAddr 2 runUnderlying42 Z sizeOf3 Z Z Z (o_load_B 0 H isAgg3 Z Z Z Z (o_neq Z Z Z (q3 ?_)))))))
   refine W_cond Z ?_ ?_
   ·intro hc29
    try simp only [nrm] at hc29
    refine q2 (aG Z (q3 (W_ret (N_B_ret (N_LP_ret (N_B_ret (N_K_ret (rt1 results94 Z ?_))))))))
    have hft : ∀ a, fm0 a = Sp.cntT trees a := fun a => (by have h9 := (hf a).1; (rw [List.take_of_length_le oM] at h9); exact h9)
    have hot := hok; rw [List.take_of_length_le oM] at hot
    exact H.rets (congrArg Value.bool (by (rw [hot, Bool.true_and]); symm; (rw [List.all_eq_false]); exact ⟨_, hy25, by simp only [decide_eq_true_eq]; (rw [← hft]); first | exact hc29 | (simpa using hc29) | omega⟩))
   intro hc29'
   try simp only [nrm] at hc29'
   refine W_skip (N_B ?_)
   have H := H.del (k := 0) rfl
   refine N_lp (hJ := ⟨_, _, Z, hle24, H, ?inv, Z⟩) (hm := ?hm)
   case hm => exact hless25
   case inv => intro y hy hs; rcases seenH_push hms (hSs.nd hms) he25 hk25 hy25 hy hs with rfl | h; (· (have h9 := (hf y.id).1; (rw [List.take_of_length_le oM] at h9); (rw [← h9]); first | exact hc29' | (simpa using hc29') | omega)); exact hsn y hy h
end Go.Proofs.Tst

namespace Go.Proofs.Tst
open Go Fw Tryz
theorem i_newVolume_c (w0 : World) (G0 : PH) (hG : PSub G0 w0) (vstore : Value) (store : List (BHeld)) (hstore : RdH G0 vstore store) (vtree : Value) (tree : List (BItem)) (htree : RdItems G0 vtree tree) (hLent : Lent w0 G0 [])  :
  Calls Tryz.prog 92 #[vstore, vtree] w0 (RetM w0 G0 [] (fun G' v Bs => (v = .tuple #[.agg #[.map none, .pointer none], .bool false] ∧ Bs = [] ∧ (Sp.StoreValid store && Sp.TreeValid tree) = false) ∨ (∃ (mb : Nat) (es : Array MapEntry) (ck : Nat) (xs : List (Int × Value)) (T : Nd) (F : Fr), v = .tuple #[.agg #[.map (some mb), .pointer (some ⟨T.b, 0, none⟩)], .bool true] ∧ Bs = [blk mb (.map es ck), frag F] ∧ MapIs (Value.int .i64) es ck xs ∧ StR G' xs store ∧ Sp.VH store ∧ NdO 167 65 G' T F ∧ Nd.TOK T tree ∧ Sp.TreeValid tree = true))) := by
 obtain ⟨astore, kstore, rfl⟩ := hstore.shape
 have hlimstore : store.length ≤ 1099511627776 := hstore.lim
 obtain ⟨atree, ktree, rfl⟩ := htree.shape
 have hlimtree : tree.length ≤ 1099511627776 := htree.lim
 have H : Hp w0 G0 [] w0 G0 [] := hLent.hp
 refine calls_of_W (l := [.slice astore store.length kstore, .slice atree tree.length ktree]) func92 Z ntmps92 Z (q2 (o_alloc H zeroValue67 Z Z ?_)); intro b1 w1 hb1 H
 refine aG Z (q1 (mV Z (o_call call119 Z Z (i_openStore_c _ _ H.sub _ _ hstore H.lent0 ) ?_)))
 rintro _ w2 ⟨G2, _, _, rfl, H2', ⟨hnv2, rfl, rfl⟩ | ⟨hV2, mb2, es2, ck2, xs2, rfl, rfl, hm2, hS2⟩⟩
 ·skip
  have H := H.borrow0 H2'
  refine ⟨_, Z, ?_⟩
  refine mV Z (o_extract Z Z Z (o_extract Z Z Z (aG Z (aG Z (q3 (W_seq (q2 (mV Z (o_not Z Z (q3 (W_true Z (q2 (o_build bf67 Z Z Z (o_store_B 0 H sizeOf67 Z Z Z Z Z Z Z Z ?_)))))))))))))); intro w3 H
  refine aG Z (q3 (W_ret (N_K_ret (ret_gen (rs := [.cell 4 67, .tmp 5]) (vs := [_, _]) results92 ⟨⟨_, Z, load_blk 0 H isAgg67 sizeOf67 Z Z Z⟩, Z, trivial⟩ ?_))))
  have H := H.del (k := 0) rfl
  exact H.retM (.inl ⟨rfl, rfl, by simp_all⟩)
 skip
 have htree := htree.up H2'.le
 have H := H.borrow0 H2'
 refine ⟨_, Z, ?_⟩
 refine mV Z (o_extract Z Z Z (o_extract Z Z Z (aG Z (aG Z (q3 (W_seq (q2 (mV Z (o_not Z Z (q3 (W_false Z (W_skip (N_K (q2 (mV Z ?_)))))))))))))))
 refine o_call call93 Z Z (i_openTree_c _ _ H.sub _ _ htree H.lent0 ) ?_
 rintro _ w4 ⟨G4, _, _, rfl, H4', ⟨rfl, rfl, hv4⟩ | ⟨T4, F4, rfl, rfl, hN4, hT4, hv4⟩⟩
 ·skip
  have H := H.borrow0 H4'
  refine ⟨_, Z, ?_⟩
  refine mV Z (o_extract Z Z Z (o_extract Z Z Z (aG Z (aG Z (q3 (W_seq (q2 (mV Z (o_not Z Z (q3 (W_true Z (q2 (o_build bf67 Z Z Z (o_store_B 1 H sizeOf67 Z Z Z Z Z Z Z Z ?_)))))))))))))); intro w5 H
  refine aG Z (q3 (W_ret (N_K_ret (ret_gen (rs := [.cell 4 67, .tmp 5]) (vs := [_, _]) results92 ⟨⟨_, Z, load_blk 1 H isAgg67 sizeOf67 Z Z Z⟩, Z, trivial⟩ ?_))))
  have H := H.del (k := 0) rfl
  have H := H.del (k := 0) rfl
  exact H.retM (.inl ⟨rfl, rfl, by simp_all⟩)
 skip
 have hS2 := hS2.up H4'.le
 have H := H.borrow0 H4'
 refine ⟨_, Z, ?_⟩
 refine mV Z (o_extract Z Z Z (o_extract Z Z Z (aG Z (aG Z (q3 (W_seq (q2 (mV Z (o_not Z Z (q3 (W_false Z (W_skip (N_K (q2 (mV Z ?_)))))))))))))))
 refine mV Z (o_build bf67 Z Z Z (o_store_B 2 H sizeOf67 Z Z Z Z Z Z Z Z ?_)); intro w6 H
 refine aG Z (q3 (W_ret (ret_gen (rs := [.cell 4 67, .tmp 5]) (vs := [_, _]) results92 ⟨⟨_, Z, load_blk 2 H isAgg67 sizeOf67 Z Z Z⟩, Z, trivial⟩ ?_)))
 have H := H.del (k := 2) rfl
 have H := H.toFront (k := 1) rfl
 exact H.retM (.inr ⟨_, _, _, _, _, _, Z, Z, hm2, hS2, hV2, hN4, hT4, hv4⟩)
theorem i_keepTree_c (w0 : World) (G0 : PH) (hG : PSub G0 w0) (mbs : Nat) (ess : Array MapEntry) (cks : Nat) (xss : List (Int × Value)) (Ls : List BHeld) (hms : MapIs (Value.int .i64) ess cks xss) (hSs : StR G0 xss Ls) (hVs : Sp.VH Ls) (Ft : Fr) (t : Nd) (hNt : NdO 167 65 G0 t Ft) (hLent : Lent w0 G0 [blk mbs (.map ess cks), frag Ft]) (hwt : t.wf) (hct : t.cnt ≤ 1000) :
  Calls Tryz.prog 77 #[.map (some mbs), .pointer (some ⟨t.b, 0, none⟩)] w0 (RetM w0 G0 (fps [blk mbs (.map ess cks), frag Ft]) (fun G' v Bs => ∃ (es' : Array MapEntry) (ck' : Nat) (xs' : List (Int × Value)) (L' : List BHeld), v = .bool (Sp.l12Keep Ls (t.flat [])).isSome ∧ Bs = [blk mbs (.map es' ck'), frag Ft] ∧ MapIs (Value.int .i64) es' ck' xs' ∧ StR G' xs' L' ∧ Sp.VH L' ∧ ∀ l, Sp.l12Keep Ls (t.flat []) = some l → L' = l)) := by
 have hfl := Nd.flat_len [] t
 have H : Hp w0 G0 (fps [blk mbs (.map ess cks), frag Ft]) w0 G0 [blk mbs (.map ess cks), frag Ft] := hLent.hp
 refine calls_of_W (l := [.map (some mbs), .pointer (some ⟨t.b, 0, none⟩)]) func77 Z ntmps77 Z (q2 (aG Z (q3 (W_seq (q2 (mV Z (o_call call49 Z Z (i_tlist_c _ _ (H.lendSubL [1]) _ ((H.lendN (k := 1) (ks := [1]) Z Z hNt).at (show Nd.at_ t [] = some t from Z)) hwt hct) ?_)))))))
 rintro _ w1 ⟨_, _, rfl, H1', ⟨F1, rfl, hO1⟩⟩
 have H := H.readersL H1'
 obtain ⟨e21, hP1⟩ := hO1
 obtain ⟨sa1, sc1, rfl⟩ := OwnS.shape hP1
 have hO1 := OIs.mk hP1
 refine ⟨_, Z, ?_⟩
 have hdm1 := dm_nodup H (k := 0) rfl; obtain ⟨Gk1, H, hkl1, hks1⟩ := H.keepF (k := 0) rfl (H.apart (k := 0) (ks := [1, 2]) rfl rfl (by intro b hb; simp only [fps, List.flatMap_cons, List.flatMap_nil, List.append_nil, List.mem_append] at hb; rcases hb with h | h; (· exact fpsAt_mem (k := 1) rfl rfl b (by exact h)); (· exact fpsAt_mem (k := 2) rfl rfl b (by exact h))))
 have hrk1 := hO1.rd hks1 hdm1
 have hSs := hSs.up hkl1
 have hn_hrk1 := hrk1.len
 refine o_len_slice underlying24 Z Z (mV Z (q3 (W_block ?_)))
 refine W_lp (hf := (Sub.cons (t := 0) Z (Sub.cons (t := 8) Z (Sub.cons (t := 9) Z Sub.nil)))) (J := fun M w m => ∃ (esm0 : Array MapEntry) (ckm0 : Nat) (xsm0 : List (Int × Value)) (Lm0 : List BHeld) (k : Nat) (G : PH), M = [(10, .int .i64 (k : Int))] ∧ PLe Gk1 G ∧ Hp w0 G0 (fps [blk mbs (.map ess cks), frag Ft]) w G [blk mbs (.map esm0 ckm0), frag Ft] ∧ (MapIs (Value.int .i64) esm0 ckm0 xsm0 ∧ StR G xsm0 Lm0 ∧ Sp.VH Lm0 ∧ k ≤ (t.flat []).length ∧ Sp.foldB Sp.keepT ((t.flat []).take k) (some Ls) = some Lm0) ∧ m = ((t.flat []).length - k)) (h0 := ⟨_, _, xss, Ls, 0, _, Z, PLe.refl _, H, ?inv, Z⟩) (round := ?round)
 case inv => exact ⟨hms, hSs, hVs, (by simp [Sp.foldB])⟩
 case round =>
  rintro _ w2 _ ⟨esm0, ckm0, xsm0, Lm0, k, G2, rfl, hle2, H, hinv2, rfl⟩
  have hrk1 := hrk1.up hle2
  obtain ⟨hm2_m0, hS2_m0, hV2_m0, hinv2⟩ := hinv2
  obtain ⟨hk, hf⟩ := hinv2
  refine q2 (o_lss Z Z Z (q3 (W_seq ?_)))
  refine W_cond Z ?_ ?_
  ·intro hc3
   try simp only [nrm] at hc3
   refine W_skip (N_K (W_seq (W_block (q2 (o_index_P k hrk1 underlying24 sizeOf40 Z Z Z Z aN ?_))))); intro b4 o4 z4 q4 hz4 hE4 hrow4
   obtain ⟨a4, m4, c4, rfl, hi4, hr4⟩ := hE4; have hy_hi4 : _ ≤ 16777216 := hi4; have hn_hr4 := hr4.len; have hx_hr4 : _ ≤ 1099511627776 := hr4.lim
   refine o_loadagg_P H isAgg40 sizeOf40 Z Z hrow4 Z (o_alloc H zeroValue40 Z Z ?_); intro b5 w5 hb5 H
   refine o_store_B 0 H sizeOf40 Z Z Z Z Z Z Z Z ?_; intro w6 H
   refine q1 (mV Z (o_fieldAddr 2 runUnderlying40 Z sizeOf38 Z Z Z (o_load_B 0 H isAgg38 Z Z Z Z ?_)))
   have H := H.toFront (k := 1) rfl
   refine o_call call112 Z Z (i_keepFile_c _ _ H.sub _ _ _ _ _ hm2_m0 hS2_m0 hV2_m0 _ _ hr4 H.lent1 ) ?_
   rintro _ w7 ⟨G7, _, _, rfl, H7', ⟨es7, ck7, xs7, L7, rfl, rfl, hm7, hS7, hV7, hL7⟩⟩
   have hle2 := hle2.trans H7'.le
   have H := H.borrow1 H7'
   refine ⟨_, Z, ?_⟩
   refine o_not Z Z (q3 ?_)
   refine W_cond Z ?_ ?_
   ·intro hc8
    try simp only [nrm] at hc8
    refine q2 (aG Z (q3 (W_ret (N_B_ret (N_K_ret (N_LP_ret (N_B_ret (N_K_ret (rt1 results77 Z ?_)))))))))
    have H := H.del (k := 1) rfl
    have H := H.toFront (k := 1) rfl
    have H := H.toFront (k := 1) rfl
    have hno : Sp.l12Keep Ls (t.flat []) = none := by (have hno : Sp.keepT Lm0 z4 = none := (show Sp.foldB Sp.StoreKeep z4.ids (some Lm0) = none by simpa using hc8)); exact Sp.foldB_stop hf hz4 hno
    exact H.retM ⟨_, _, _, _, congrArg Value.bool (by rw [hno]; rfl), rfl, hm7, hS7, hV7, fun l hl => by rw [hno] at hl; cases hl⟩
   intro hc8'
   try simp only [nrm] at hc8'
   obtain ⟨p, hsp⟩ := Option.isSome_iff_exists.1 (show (Sp.foldB Sp.StoreKeep z4.ids (some Lm0)).isSome = true by simpa using hc8')
   have hLp := hL7 p hsp; subst hLp
   have hsp : Sp.keepT Lm0 z4 = some L7 := hsp
   refine W_skip (N_B (N_K (W_region (o_add Z Z Z oO (mV Z (R_nil ?_))))))
   have H := H.del (k := 1) rfl
   refine N_lp (hJ := ⟨_, _, xs7, L7, k + 1, _, Z, hle2, H, ?inv, Z⟩) (hm := ?hm)
   case hm => omega
   case inv => exact ⟨hm7, hS7, hV7, (by exact ⟨by omega, Sp.foldB_succ hf hz4 hsp⟩)⟩
  intro hc3'
  try simp only [nrm] at hc3'
  refine W_exit (N_K_exit (N_LP_exit (N_B_same (N_K (q2 (aG Z (q3 (W_ret (rt1 results77 Z ?_)))))))))
  have H := H.toFront (k := 1) rfl
  have H := H.toFront (k := 1) rfl
  have hyes : Sp.l12Keep Ls (t.flat []) = some Lm0 := Sp.foldB_all hf oM
  exact H.retM ⟨_, _, _, _, congrArg Value.bool (by rw [hyes]; rfl), rfl, hm2_m0, hS2_m0, hV2_m0, fun l hl => by rw [hyes] at hl; cases hl; rfl⟩
end Go.Proofs.Tst

namespace Go.Proofs.Tst
open Go Fw Tryz
theorem i_newDisk_c (w0 : World) (G0 : PH) (hG : PSub G0 w0) (cd : List Value) (d : BDisk) (hd : diskE G0 d cd) (hLent : Lent w0 G0 [])  :
  Calls Tryz.prog 58 #[.agg cd.toArray] w0 (RetM w0 G0 [] (fun G' v Bs => (v = .tuple #[.pointer none, .bool false] ∧ Bs = [] ∧ Sp.DiskValid d = false) ∨ (∃ (db mb : Nat) (es : Array MapEntry) (ck : Nat) (xs : List (Int × Value)) (T : Nd) (F : Fr) (sv : Value) (sn : List (Fw.Bs × Nd)) (c : List Value) (FSq : Fr), v = .tuple #[.pointer (some ⟨db, 0, none⟩), .bool true] ∧ Bs = [blk db (cl [.int .i32 0, .int .u32 0, .map (some mb), .pointer (some ⟨T.b, 0, none⟩), sv] 70), blk mb (.map es ck), frag F, acc 124 2 sv sn.length c, frag FSq] ∧ MapIs (Value.int .i64) es ck xs ∧ StR G' xs d.store ∧ NdO 167 65 G' T F ∧ Nd.TOK T d.tree ∧ Chk osE 2 G' c sn ∧ NdsO 167 65 G' (sn.map (·.2)) FSq ∧ SnOK sn d.snaps ∧ Sp.DiskValid d = true))) := by
 obtain ⟨a1, m1, c1, a1', m1', c1', a1'', m1'', c1'', rfl, hr1, hr1', hr1''⟩ := hd; have hn_hr1 := hr1.len; have hx_hr1 : _ ≤ 1099511627776 := hr1.lim; have hn_hr1q := hr1'.len; have hx_hr1q : _ ≤ 1099511627776 := hr1'.lim; have hn_hr1qq := hr1''.len; have hx_hr1qq : _ ≤ 1099511627776 := hr1''.lim
 have H : Hp w0 G0 [] w0 G0 [] := hLent.hp
 refine calls_of_W (l := [_]) func58 Z ntmps58 Z (q2 (o_box H Z Z Z ?_)); intro b2 w2 hb2 H
 refine aG Z (aG Z (q1 (o_fieldAddr 0 runUnderlying27 Z sizeOf23 Z Z Z (o_load_B 0 H isAgg23 Z Z Z Z (o_fieldAddr 1 runUnderlying27 Z sizeOf24 Z Z Z (o_load_B 0 H isAgg24 Z Z Z Z (o_call call92 Z Z (i_newVolume_c _ _ H.sub _ _ hr1 _ _ hr1' H.lent0 ) ?_)))))))
 rintro _ w3 ⟨G3, _, _, rfl, H3', ⟨rfl, rfl, hnv3⟩ | ⟨mb3, es3, ck3, xs3, T3, F3, rfl, rfl, hm3, hS3, hV3, hN3, hT3, hv3⟩⟩
 ·skip
  have H := H.borrow0 H3'
  refine ⟨_, Z, ?_⟩
  refine mV Z (o_extract Z Z Z (o_extract Z Z Z (o_alloc H zeroValue67 Z Z ?_))); intro b4 w4 hb4 H
  refine o_store_B 0 H sizeOf67 Z Z Z Z Z Z Z Z ?_; intro w5 H
  refine aG Z (q3 (W_seq (q2 (mV Z (o_not Z Z (mV Z (rP Z (rP Z (rP Z (rP Z (o_pick_t Z Z Z (q3 (W_true Z (q2 (aG Z ?_)))))))))))))))
  refine aG Z (q3 (W_ret (N_K_ret (rt2 results58 Z Z ?_))))
  have H := H.del (k := 0) rfl
  have H := H.del (k := 0) rfl
  exact H.retM (.inl ⟨rfl, rfl, Sp.dv_no (fun hh => by simp [hh.1, hh.2.1] at hnv3)⟩)
 skip
 have hr1'' := hr1''.up H3'.le
 have H := H.borrow0 H3'
 refine ⟨_, Z, ?_⟩
 refine mV Z (o_extract Z Z Z (o_extract Z Z Z (o_alloc H zeroValue67 Z Z ?_))); intro b6 w6 hb6 H
 refine o_store_B 0 H sizeOf67 Z Z Z Z Z Z Z Z ?_; intro w7 H
 refine aG Z (q3 (W_seq (q2 (mV Z (o_not Z Z (mV Z (gR Z (o_fieldAddr 2 runUnderlying27 Z sizeOf25 Z Z Z (gR Z (o_load_B 3 H isAgg25 Z Z Z Z (gR Z (o_len_slice underlying25 Z Z (gR Z (o_gtr Z Z Z (o_pick_f Z Z Z ?_)))))))))))))))
 refine q3 ?_
 refine W_cond Z ?_ ?_
 ·intro hc8
  try simp only [nrm] at hc8
  refine q2 (aG Z (aG Z (q3 (W_ret (N_K_ret (rt2 results58 Z Z ?_))))))
  have H := H.del (k := 0) rfl
  have H := H.del (k := 0) rfl
  have H := H.del (k := 0) rfl
  have H := H.del (k := 0) rfl
  exact H.retM (.inl ⟨rfl, rfl, Sp.dv_no (fun hh => by have := hh.2.2.1; omega)⟩)
 intro hc8'
 try simp only [nrm] at hc8'
 refine W_skip (N_K (q2 (o_loadagg_B 0 H isAgg67 sizeOf67 Z Z Z Z Z (o_build bf70 Z Z Z (o_box H Z Z Z ?_))))); intro b9 w9 hb9 H
 refine aG Z (q1 (o_fieldAddr 1 runUnderlying67 Z sizeOf65 Z Z Z (o_load_B 1 H isAgg65 Z Z Z Z (o_buildSlice H underlying140 sizeOf65 (fun w => ⟨_, zeroValue65 w, Z⟩) Z Z Z Z Z Z Z ?_)))); intro b10 w10 hb10 H
 refine aG Z (q3 (W_seq (q2 (o_fieldAddr 2 runUnderlying27 Z sizeOf25 Z Z Z (o_load_B 5 H isAgg25 Z Z Z Z (o_len_slice underlying25 Z Z (mV Z (q3 (W_block ?_)))))))))
 have H := H.blkAcc 1 (k := 0) (n := 1) rfl rfl (by decide)
 have H := H.addF
 have H := H.addNil 124 2
 obtain ⟨ln12, hln12, H⟩ := H.nameAt (k := 3) (off := 4) rfl rfl
 obtain ⟨ln13, hln13, H⟩ := H.name (k := 4) rfl
 obtain ⟨ln14, hln14, H⟩ := H.name (k := 7) rfl
 refine W_lp (hf := (Sub.cons (t := 4) Z (Sub.cons (t := 6) Z (Sub.cons (t := 35) Z (Sub.cons (t := 36) Z Sub.nil))))) (J := fun M w m => ∃ (v : Value) (n : Nat) (cs : List Value) (xs : List (Bs × Nd)) (v1 : Value) (n1 : Nat) (cs1 : List Value) (xs1 : List (Nd)) (k : Nat) (FSq : Fr) (G : PH), M = [(37, .int .i64 (k : Int)), (7, v1)] ∧ PLe G3 G ∧ Hp w0 G0 [] w G [acc 124 2 v n cs, frag FSq, acc 65 1 v1 n1 cs1, blk b9 (cl (setN ln12 4 v) 70), blk b6 (cl ln13 67), blk mb3 (.map es3 ck3), frag F3, blk b2 (cl ln14 27)] ∧ (Chk osE 2 G cs xs ∧ n = xs.length ∧ Chk kdE 1 G cs1 xs1 ∧ n1 = xs1.length ∧ k ≤ d.snaps.length ∧ xs1 = T3 :: xs.map (·.2) ∧ NdsO 167 65 G (xs.map (·.2)) FSq ∧ SnOK xs (d.snaps.take k) ∧ ∀ (j : Nat) (s : BSnap), j < k → d.snaps[j]? = some s → Sp.l1Word s.name = true ∧ (j : Int) ≤ Sp.l12At d.snaps s.name) ∧ m = (d.snaps.length - k)) (h0 := ⟨_, _, _, [], _, _, _, [T3], 0, [], _, Z, PLe.refl _, H, ?inv, Z⟩) (round := ?round)
 case inv => exact ⟨(Chk.nil (E := osE) (sz := 2) (G := G3)), (by first | rfl | simp | (simp; omega) | omega), (chkK [T3]),  by first | rfl | simp | (simp; omega) | omega, (by exact ⟨by omega, rfl, by simp [NdsO], .nil, fun j s hj => by omega⟩)⟩
 case round =>
  rintro _ w15 _ ⟨v, n, cs, xs, v1, n1, cs1, xs1, k, FSq, G15, rfl, hle15, H, hinv15, rfl⟩
  subst hln12
  subst hln13
  subst hln14
  have hr1'' := hr1''.up hle15
  have hS3 := hS3.up hle15
  have hN3 := hN3.up hle15
  obtain ⟨hchk15_0, hn15_0, hinv15⟩ := hinv15
  obtain ⟨av15_0, cv15_0, rfl⟩ := H.accShape (k := 0) rfl
  obtain ⟨hchk15_1, hn15_1, hinv15⟩ := hinv15
  obtain ⟨av15_1, cv15_1, rfl⟩ := H.accShape (k := 2) rfl
  obtain ⟨hk, hx1, hNs, hSn, hw⟩ := hinv15; have hsl := hSn.len; have hxl6 : xs.length ≤ 6 := (by simp at hsl; omega); have hx1l : xs1.length = xs.length + 1 := by simp [hx1]
  refine q2 (o_lss Z Z Z (q3 (W_seq ?_)))
  refine W_cond Z ?_ ?_
  ·intro hc16
   try simp only [nrm] at hc16
   refine W_skip (N_K (W_seq (W_block (q2 (o_index_P k hr1'' underlying25 sizeOf46 Z Z Z Z aN ?_))))); intro b17 o17 z17 q17 hz17 hE17 hrow17
   obtain ⟨a17, m17, c17, rfl, hi17, hr17⟩ := hE17; have hy_hi17 : _ ≤ 16777216 := hi17; have hn_hr17 := hr17.len; have hx_hr17 : _ ≤ 1099511627776 := hr17.lim
   refine o_loadagg_P H isAgg46 sizeOf46 Z Z hrow17 Z (o_alloc H zeroValue46 Z Z ?_); intro b18 w18 hb18 H
   refine o_store_B 0 H sizeOf46 Z Z Z Z Z Z Z Z ?_; intro w19 H
   refine q1 (o_fieldAddr 1 runUnderlying46 Z sizeOf24 Z Z Z (o_load_B 0 H isAgg24 Z Z Z Z (o_call call93 Z Z (i_openTree_c _ _ H.sub _ _ hr17 H.lent0 ) ?_)))
   rintro _ w20 ⟨G20, _, _, rfl, H20', ⟨rfl, rfl, hv20⟩ | ⟨T20, F20, rfl, rfl, hN20, hT20, hv20⟩⟩
   ·skip
    have H := H.borrow0 H20'
    refine ⟨_, Z, ?_⟩
    refine mV Z (o_extract Z Z Z (o_extract Z Z Z (aG Z (aG Z (q3 (W_seq (q2 (mV Z (o_not Z Z (mV Z (rP Z (rP Z (rP Z (rP Z (o_pick_t Z Z Z ?_)))))))))))))))
    refine mV Z (rP Z (rP Z (rP Z (rP Z (rP Z (o_pick_t Z Z Z (q3 (W_true Z (q2 (aG Z (aG Z (q3 (W_ret (N_K_ret (N_B_ret ?_)))))))))))))))
    refine N_K_ret (N_LP_ret (N_B_ret (N_K_ret (rt2 results58 Z Z ?_))))
    have H := H.del (k := 0) rfl
    have H := H.del (k := 0) rfl
    have H := H.del (k := 0) rfl
    have H := H.del (k := 0) rfl
    have H := H.del (k := 0) rfl
    have H := H.del (k := 0) rfl
    have H := H.del (k := 0) rfl
    have H := H.del (k := 0) rfl
    have H := H.del (k := 0) rfl
    exact H.retM (.inl ⟨rfl, rfl, Sp.dv_no (fun hh => by (rw [(hh.2.2.2 k _ hz17).2.2] at hv20); cases hv20)⟩)
   skip
   have hchk15_0 := hchk15_0.up H20'.le
   have hchk15_1 := hchk15_1.up H20'.le
   have hNs := hNs.up H20'.le
   have hle15 := hle15.trans H20'.le
   have H := H.borrow0 H20'
   refine ⟨_, Z, ?_⟩
   refine mV Z (o_extract Z Z Z (o_extract Z Z Z (aG Z (aG Z (q3 (W_seq (q2 (mV Z (o_not Z Z (mV Z (gR Z (o_fieldAddr 0 runUnderlying46 Z sizeOf9 Z Z Z (gR Z (o_load_B 1 H isAgg9 Z Z Z Z (gR Z ?_)))))))))))))))
   refine o_call call74 Z Z (i_partValid_c _ _ hi17 ) ?_
   rintro _ w21 ⟨rfl, ew21⟩; have H := H.step ew21; refine ⟨_, rfl, ?_⟩
   refine gR Z (o_not Z Z (o_pick_f Z Z Z (mV Z ?_)))
   refine R_case (t := 55) Z ?_ ?_
   ·intro hc22
    try simp only [nrm] at hc22
    refine rP Z (rP Z (rP Z (rP Z (rP Z (o_pick_t Z Z Z (q3 (W_true Z (q2 (aG Z (aG Z (q3 (W_ret (N_K_ret (N_B_ret (N_K_ret ?_)))))))))))))))
    refine N_LP_ret (N_B_ret (N_K_ret (rt2 results58 Z Z ?_)))
    have H := H.del (k := 0) rfl
    have H := H.del (k := 0) rfl
    have H := H.del (k := 0) rfl
    have H := H.del (k := 0) rfl
    have H := H.del (k := 0) rfl
    have H := H.del (k := 0) rfl
    have H := H.del (k := 0) rfl
    have H := H.del (k := 0) rfl
    have H := H.del (k := 0) rfl
    have H := H.del (k := 0) rfl
    exact H.retM (.inl ⟨rfl, rfl, Sp.dv_no (fun hh => by have h9 := (hh.2.2.2 k _ hz17).1; simp_all)⟩)
   intro hc22'
   try simp only [nrm] at hc22'
   refine gR Z (mV Z (gR Z (o_fieldAddr 0 runUnderlying46 Z sizeOf9 Z Z Z (gR Z (o_load_B 1 H isAgg9 Z Z Z Z (gR Z (o_call call75 Z Z (i_snapAt_c _ _ (H.lendSubL [2, 5]) _ _ _ _ _ _ _ (prow_blk (H.lendPredL (k := 5) (ks := [2, 5]) Z Z)) (H.lendRdL (k := 2) (ks := [2, 5]) Z Z hchk15_0 aN aN) _ hi17 ) ?_)))))))
   rintro _ w23 ⟨rfl, ew23⟩; have H := H.step ew23; refine ⟨_, rfl, ?_⟩
   refine gR Z (o_geq Z Z Z (o_pick_f Z Z Z (q3 ?_)))
   refine W_cond Z ?_ ?_
   ·intro hc24
    try simp only [nrm] at hc24
    refine q2 (aG Z (aG Z (q3 (W_ret (N_K_ret (N_B_ret (N_K_ret (N_LP_ret (N_B_ret (N_K_ret (rt2 results58 Z Z ?_)))))))))))
    have H := H.del (k := 0) rfl
    have H := H.del (k := 0) rfl
    have H := H.del (k := 0) rfl
    have H := H.del (k := 0) rfl
    have H := H.del (k := 0) rfl
    have H := H.del (k := 0) rfl
    have H := H.del (k := 0) rfl
    have H := H.del (k := 0) rfl
    have H := H.del (k := 0) rfl
    have H := H.del (k := 0) rfl
    exact H.retM (.inl ⟨rfl, rfl, Sp.dv_no (fun hh => by have h9 := (Sp.at_take hz17).1 (hh.2.2.2 k _ hz17).2.1; (rw [← Sp.sn_find hSn] at h9); omega)⟩)
   intro hc24'
   try simp only [nrm] at hc24'
   refine W_skip (N_K (W_seq (W_drawK [1, 6, 9] 14 H kR Z ?_))); intro w25 H; have hd25 := PLe.refl G20
   refine vM 0 Z Z (vM 1 Z Z (RD_t 2 Z kR Z (fun _ hK => v_nilCheck Z) (RD_t 3 Z kR Z (fun _ hK => v_fieldAddr 4 runUnderlying70 Z sizeOf68 Z Z) (RD_t 5 Z kR Z (fun _ hK => v_fieldAddr 0 runUnderlying46 Z sizeOf9 Z Z) (RD_t 6 Z kR Z (fun _ hK => v_load_B 0 hK isAgg9 Z Z Z) (vM 7 Z Z (RD_t 8 Z kR Z (fun _ hK => v_build bf124 Z Z) ?_)))))))
   refine RD_run [4, 9] kR Z (RDs.cons Z ?_ (RDs.cons Z ?_ RDs.nil))
   ·skip
    refine o_load_B 5 H isAgg68 Z Z Z Z (R_nil (N_DK (Kn.of' H hd25 (SubL.cons 1 Z (SubL.cons 6 Z (SubL.cons 9 Z SubL.nil)))) ?_))
    refine RD_run [9] kR Z (RDs.cons Z ?_ RDs.nil)
    refine o_buildSlice H underlying68 sizeOf124 (fun w => ⟨_, zeroValue124 w, Z⟩) Z Z Z Z Z Z Z ?_; intro b26 w26 hb26 H
    refine R_nil (N_DK (Kn.of' H hd25 (SubL.cons 2 Z (SubL.cons 7 Z (SubL.cons 10 Z SubL.nil)))) ?_)
    refine RD_run [10] kR Z (RDs.cons Z ?_ RDs.nil)
    refine o_append1 2 H (sz := 2) (bytes := 24) underlying68 typeInfo124 ⟨_, Z, Z⟩ Z Z Z Z Z Z Z Z Z Z oM Z ?_; intro v27 w27 H
    have hchk27 := hchk15_0.snoc (show osE _ (z17.name, T20) _ from ⟨rfl, hi17⟩) rfl
    obtain ⟨av27, cv27, rfl⟩ := H.accShape (k := 2) rfl
    refine R_nil (N_DK (Kn.of' H hd25 (SubL.cons 1 Z (SubL.cons 6 Z (SubL.cons 9 Z SubL.nil)))) (RD_t 11 Z kR Z (fun _ hK => v_nilCheck Z) (RD_t 12 Z kR Z (fun _ hK => v_fieldAddr 4 runUnderlying70 Z sizeOf68 Z Z) ?_)))
    refine RD_run [13] kR Z (RDs.cons Z ?_ RDs.nil)
    have H := H.toFront (k := 3) rfl
    have H := H.mergeF
    refine o_store_B 4 H sizeOf68 Z Z Z Z Z Z Z Z ?_; intro w28 H
    refine R_nil (N_DK (Kn.of' H hd25 (SubL.cons 1 Z (SubL.cons 5 Z (SubL.cons 8 Z SubL.nil)))) (RD_done kR (N_K (W_region (mV Z (mV Z (o_buildSlice H underlying140 sizeOf65 (fun w => ⟨_, zeroValue65 w, Z⟩) Z Z Z Z Z Z Z ?_))))))); intro b29 w29 hb29 H
    refine o_append1 3 H (sz := 1) (bytes := 8) underlying140 typeInfo65 ⟨_, Z, Z⟩ Z Z Z Z Z Z Z Z Z Z oM Z ?_; intro v30 w30 H
    have hchk30 := hchk15_1.snoc (show kdE _ T20 _ from rfl) rfl
    obtain ⟨av30, cv30, rfl⟩ := H.accShape (k := 3) rfl
    refine aG Z (R_nil (N_B (N_K (W_region (o_add Z Z Z oO (mV Z (R_nil ?_)))))))
    have H := H.del (k := 1) rfl
    have H := H.toFront (k := 7) rfl
    have H := H.toFront (k := 7) rfl
    have H := H.toFront (k := 7) rfl
    have H := H.toFront (k := 7) rfl
    have H := H.toFront (k := 7) rfl
    have H := H.toFront (k := 7) rfl
    have H := H.toFront (k := 6) rfl
    have H := H.toFront (k := 7) rfl
    refine N_lp (hJ := ⟨_, _, _, (xs ++ [(z17.name, T20)]), _, _, _, (xs1 ++ [T20]), k + 1, (FSq ++ F20), _, Z, hle15, H, ?inv, Z⟩) (hm := ?hm)
    case hm => omega
    case inv => exact ⟨hchk27, aN, hchk30, aN, (by exact ⟨by omega, by simp [hx1], by simpa using hNs.snoc hN20, hSn.snoc2 hz17 rfl hT20 hv20, names_step hw hz17 (by simpa using hc22') hSn oM⟩)⟩
   skip
   refine o_buildSlice H underlying68 sizeOf124 (fun w => ⟨_, zeroValue124 w, Z⟩) Z Z Z Z Z Z Z ?_; intro b32 w32 hb32 H
   refine R_nil (N_DK (Kn.of' H hd25 (SubL.cons 2 Z (SubL.cons 7 Z (SubL.cons 10 Z SubL.nil)))) ?_)
   refine RD_run [4] kR Z (RDs.cons Z ?_ RDs.nil)
   refine o_load_B 6 H isAgg68 Z Z Z Z (R_nil (N_DK (Kn.of' H hd25 (SubL.cons 2 Z (SubL.cons 7 Z (SubL.cons 10 Z SubL.nil)))) ?_))
   refine RD_run [10] kR Z (RDs.cons Z ?_ RDs.nil)
   refine o_append1 2 H (sz := 2) (bytes := 24) underlying68 typeInfo124 ⟨_, Z, Z⟩ Z Z Z Z Z Z Z Z Z Z oM Z ?_; intro v33 w33 H
   have hchk33 := hchk15_0.snoc (show osE _ (z17.name, T20) _ from ⟨rfl, hi17⟩) rfl
   obtain ⟨av33, cv33, rfl⟩ := H.accShape (k := 2) rfl
   refine R_nil (N_DK (Kn.of' H hd25 (SubL.cons 1 Z (SubL.cons 6 Z (SubL.cons 9 Z SubL.nil)))) (RD_t 11 Z kR Z (fun _ hK => v_nilCheck Z) (RD_t 12 Z kR Z (fun _ hK => v_fieldAddr 4 runUnderlying70 Z sizeOf68 Z Z) ?_)))
   refine RD_run [13] kR Z (RDs.cons Z ?_ RDs.nil)
   have H := H.toFront (k := 3) rfl
   have H := H.mergeF
   refine o_store_B 4 H sizeOf68 Z Z Z Z Z Z Z Z ?_; intro w34 H
   refine R_nil (N_DK (Kn.of' H hd25 (SubL.cons 1 Z (SubL.cons 5 Z (SubL.cons 8 Z SubL.nil)))) (RD_done kR (N_K (W_region (mV Z (mV Z (o_buildSlice H underlying140 sizeOf65 (fun w => ⟨_, zeroValue65 w, Z⟩) Z Z Z Z Z Z Z ?_))))))); intro b35 w35 hb35 H
   refine o_append1 3 H (sz := 1) (bytes := 8) underlying140 typeInfo65 ⟨_, Z, Z⟩ Z Z Z Z Z Z Z Z Z Z oM Z ?_; intro v36 w36 H
   have hchk36 := hchk15_1.snoc (show kdE _ T20 _ from rfl) rfl
   obtain ⟨av36, cv36, rfl⟩ := H.accShape (k := 3) rfl
   refine aG Z (R_nil (N_B (N_K (W_region (o_add Z Z Z oO (mV Z (R_nil ?_)))))))
   have H := H.del (k := 1) rfl
   have H := H.toFront (k := 7) rfl
   have H := H.toFront (k := 7) rfl
   have H := H.toFront (k := 7) rfl
   have H := H.toFront (k := 7) rfl
   have H := H.toFront (k := 7) rfl
   have H := H.toFront (k := 7) rfl
   have H := H.toFront (k := 6) rfl
   have H := H.toFront (k := 7) rfl
   refine N_lp (hJ := ⟨_, _, _, (xs ++ [(z17.name, T20)]), _, _, _, (xs1 ++ [T20]), k + 1, (FSq ++ F20), _, Z, hle15, H, ?inv, Z⟩) (hm := ?hm)
   case hm => omega
   case inv => exact ⟨hchk33, aN, hchk36, aN, (by exact ⟨by omega, by simp [hx1], by simpa using hNs.snoc hN20, hSn.snoc2 hz17 rfl hT20 hv20, names_step hw hz17 (by simpa using hc22') hSn oM⟩)⟩
  intro hc16'
  try simp only [nrm] at hc16'
  refine W_exit (N_K_exit (N_LP_exit (N_B_same (N_K (W_seq (q2 (o_fieldAddr 0 runUnderlying67 Z sizeOf64 Z Z Z (o_load_B 4 H isAgg64 Z Z Z Z (mV Z ?_)))))))))
  refine o_call call94 Z Z (i_usedBy_c _ _ (H.lendSubL [1, 2, 5, 6]) _ _ _ _ _ (H.lendPredL (k := 5) (ks := [1, 2, 5, 6]) Z Z) hm3 (hS3.up (PPlus.le _ _ _)) hV3 _ _ (RdS.withN (H.lendRdL (k := 2) (ks := [1, 2, 5, 6]) Z Z hchk15_1 aN aN) (fun t ht => by (rw [hx1] at ht); rcases List.mem_cons.1 ht with rfl | ht; (· exact H.lendN (k := 6) rfl rfl hN3); (· exact H.lendNs (k := 1) rfl rfl hNs t ht))) oM (fun t ht => by (rw [hx1] at ht); rcases List.mem_cons.1 ht with rfl | ht; (· exact ⟨hT3.wf, by have := hT3.cnt; have := Sp.tree_len hv3; omega⟩); (· exact sn_ok hSn t ht))) ?_
  rintro _ w38 ⟨rfl, ew38⟩; have H := H.step ew38; refine ⟨_, rfl, ?_⟩
  refine o_not Z Z (q3 ?_)
  refine W_cond Z ?_ ?_
  ·intro hc39
   try simp only [nrm] at hc39
   refine q2 (aG Z (aG Z (q3 (W_ret (N_K_ret (rt2 results58 Z Z ?_))))))
   have H := H.del (k := 0) rfl
   have H := H.del (k := 0) rfl
   have H := H.del (k := 0) rfl
   have H := H.del (k := 0) rfl
   have H := H.del (k := 0) rfl
   have H := H.del (k := 0) rfl
   have H := H.del (k := 0) rfl
   have H := H.del (k := 0) rfl
   have hkk : k = d.snaps.length := by omega
   have hSnf : SnOK xs d.snaps := by (rw [hkk, List.take_length] at hSn; exact hSn)
   have hwf : ∀ (j : Nat) (s : BSnap), d.snaps[j]? = some s → Sp.l1Word s.name = true ∧ (j : Int) ≤ Sp.l12At d.snaps s.name := fun j s hs => hw j s (by have := (List.getElem?_eq_some_iff.1 hs).1; omega) hs
   exact H.retM (.inl ⟨rfl, rfl, (by (rw [Sp.dv_use (Sp.valid_iff.2 hV3) hT3 oM hSnf hwf, ← hx1]; unfold Sp.useOK; rw [Bool.and_eq_false_iff]; exact hc39))⟩)
  intro hc39'
  try simp only [nrm] at hc39'
  refine W_skip (N_K (q2 (mV Z (aG Z (aG Z (q3 (W_ret (rt2 results58 Z Z ?_))))))))
  have H := H.del (k := 2) rfl
  have H := H.del (k := 3) rfl
  have H := H.del (k := 5) rfl
  have H := H.toFront (k := 1) rfl
  have H := H.toFront (k := 1) rfl
  have H := H.toFront (k := 4) rfl
  have H := H.toFront (k := 4) rfl
  have H := H.toFront (k := 4) rfl
  have hkk : k = d.snaps.length := by omega
  have hSnf : SnOK xs d.snaps := by (rw [hkk, List.take_length] at hSn; exact hSn)
  have hwf : ∀ (j : Nat) (s : BSnap), d.snaps[j]? = some s → Sp.l1Word s.name = true ∧ (j : Int) ≤ Sp.l12At d.snaps s.name := fun j s hs => hw j s (by have := (List.getElem?_eq_some_iff.1 hs).1; omega) hs
  have hdv : Sp.DiskValid d = true := by (rw [Sp.dv_use (Sp.valid_iff.2 hV3) hT3 oM hSnf hwf, ← hx1]; unfold Sp.useOK; simpa using hc39')
  obtain rfl : n = xs.length := by assumption
  exact H.retM (.inr ⟨_, _, _, _, _, _, _, _, xs, _, _, Z, Z, hm3, hS3, hN3, hT3, hchk15_0, hNs, hSnf, hdv⟩)
end Go.Proofs.Tst

namespace Go.Proofs.Tst
open Go Fw Tryz
theorem i_countDisk_c (w0 : World) (G0 : PH) (hG : PSub G0 w0) (cd : List Value) (d : BDisk) (hd : diskE G0 d cd) (hLent : Lent w0 G0 [])  :
  Calls Tryz.prog 28 #[.agg cd.toArray] w0 (RetM w0 G0 [] (fun G' v Bs => ((∃ s : Fw.Bs, v = .tuple #[.pointer none, .iface 109 (.agg #[str s])]) ∧ Bs = [] ∧ Sp.DiskValid d = false) ∨ (∃ (db mb : Nat) (es : Array MapEntry) (ck : Nat) (xs : List (Int × Value)) (T : Nd) (F : Fr) (sv : Value) (sn : List (Fw.Bs × Nd)) (c : List Value) (FSq : Fr), v = .tuple #[.pointer (some ⟨db, 0, none⟩), .nilIface] ∧ Bs = [blk db (cl [.int .i32 0, .int .u32 0, .map (some mb), .pointer (some ⟨T.b, 0, none⟩), sv] 70), blk mb (.map es ck), frag F, acc 124 2 sv sn.length c, frag FSq] ∧ MapIs (Value.int .i64) es ck xs ∧ StR G' xs d.store ∧ NdO 167 65 G' T F ∧ Nd.TOK T d.tree ∧ Chk osE 2 G' c sn ∧ NdsO 167 65 G' (sn.map (·.2)) FSq ∧ SnOK sn d.snaps ∧ Sp.DiskValid d = true))) := by
 obtain ⟨a1, m1, c1, a1', m1', c1', a1'', m1'', c1'', rfl, hr1, hr1', hr1''⟩ := hd; have hn_hr1 := hr1.len; have hx_hr1 : _ ≤ 1099511627776 := hr1.lim; have hn_hr1q := hr1'.len; have hx_hr1q : _ ≤ 1099511627776 := hr1'.lim; have hn_hr1qq := hr1''.len; have hx_hr1qq : _ ≤ 1099511627776 := hr1''.lim
 have H : Hp w0 G0 [] w0 G0 [] := hLent.hp
 refine calls_of_W (l := [_]) func28 Z ntmps28 Z (q2 (o_box H Z Z Z ?_)); intro b2 w2 hb2 H
 refine aG Z (aG Z (q1 (o_loadagg_B 0 H isAgg27 sizeOf27 Z Z Z Z Z (o_call call58 Z Z (i_newDisk_c _ _ H.sub _ d ⟨_, _, _, _, _, _, _, _, _, Z, hr1, hr1', hr1''⟩ H.lent0 ) ?_))))
 rintro _ w3 ⟨G3, _, _, rfl, H3', ⟨rfl, rfl, hnd3⟩ | ⟨db3, mb3, es3, ck3, xs3, T3, F3, sv3, sn3, c3, FS3, rfl, rfl, hm3, hS3, hN3, hT3, hchk3, hNs3, hSn3, hdv3⟩⟩
 ·skip
  have H := H.borrow0 H3'
  refine ⟨_, Z, ?_⟩
  refine mV Z (o_extract Z Z Z (o_extract Z Z Z (aG Z (aG Z (q3 (W_seq (q2 (mV Z (o_not Z Z (q3 (W_true Z (q2 (o_build bf109 Z Z Z (o_iface kR Z Z (aG Z ?_)))))))))))))))
  refine aG Z (q3 (W_ret (N_K_ret (rt2 results28 Z Z ?_))))
  have H := H.del (k := 0) rfl
  exact H.retM (.inl ⟨⟨_, rfl⟩, rfl, by assumption⟩)
 skip
 have H := H.borrow0 H3'
 obtain ⟨avAd, cvAd, rfl⟩ := H.accShape (k := 3) rfl
 refine ⟨_, Z, ?_⟩
 refine mV Z (o_extract Z Z Z (o_extract Z Z Z (aG Z (aG Z (q3 (W_seq (q2 (mV Z (o_not Z Z (q3 (W_false Z (W_skip (N_K (q2 (mV Z ?_)))))))))))))))
 refine aG Z (aG Z (q3 (W_ret (rt2 results28 Z Z ?_))))
 have H := H.del (k := 5) rfl
 have H := H.toFront (k := 4) rfl
 have H := H.toFront (k := 4) rfl
 have H := H.toFront (k := 4) rfl
 have H := H.toFront (k := 4) rfl
 have H := H.toFront (k := 4) rfl
 exact H.retM (.inr ⟨_, _, _, _, _, _, _, _, _, _, _, Z, Z, hm3, hS3, hN3, hT3, hchk3, hNs3, hSn3, hdv3⟩)
theorem i_countSnap_c (w0 : World) (G0 : PH) (hG : PSub G0 w0) (db : Nat) (m1 m2 v1 v2 vs : Value) (sn : List (Bs × Nd)) (hdk : PRow G0 db 0 [m1, m2, v1, v2, vs]) (hsn : RdS LIM osE 2 G0 vs sn) (nm : Bs) (hnm : nm.length ≤ 16777216)  :
  Calls Tryz.prog 48 #[.pointer (some ⟨db, 0, none⟩), str nm] w0 (RetV w0 (fun v => ((∃ s : Fw.Bs, v = .tuple #[.pointer none, .iface 109 (.agg #[str s])]) ∧ Sp.optI (sn.findIdx? (fun x => decide (x.1 = nm))) < 0) ∨ (∃ (i : Nat) (z : Fw.Bs × Nd), v = .tuple #[.pointer (some ⟨z.2.b, 0, none⟩), .nilIface] ∧ sn[i]? = some z ∧ Sp.optI (sn.findIdx? (fun x => decide (x.1 = nm))) = (i : Int)))) := by
 obtain ⟨asn, ksn, rfl⟩ := hsn.shape; have hlimsn : sn.length ≤ 1099511627776 := hsn.lim
 have H := Hp.init hG
 refine calls_of_W (l := [.pointer (some ⟨db, 0, none⟩), str nm]) func48 Z ntmps48 Z (q2 (aG Z (aG Z (q1 (mV Z (mV Z (o_call call75 Z Z (i_snapAt_c _ _ H.sub _ _ _ _ _ _ _ hdk hsn _ hnm ) ?_)))))))
 rintro _ w1 ⟨rfl, ew1⟩; have H := H.step ew1; refine ⟨_, rfl, ?_⟩
 refine aG Z (q3 (W_seq (q2 (mV Z (o_lss Z Z Z (q3 ?_))))))
 refine W_cond Z ?_ ?_
 ·intro hc2
  try simp only [nrm] at hc2
  refine q2 (o_build bf109 Z Z Z (o_iface kR Z Z (aG Z (aG Z (q3 (W_ret (N_K_ret (rt2 results48 Z Z ?_))))))))
  exact H.retV (.inl ⟨⟨_, rfl⟩, by omega⟩)
 intro hc2'
 try simp only [nrm] at hc2'
 obtain ⟨ix, hix⟩ : ∃ i : Nat, Sp.optI (sn.findIdx? (fun x => decide (x.1 = nm))) = (i : Int) := ⟨(Sp.optI (sn.findIdx? (fun x => decide (x.1 = nm)))).toNat, by omega⟩
 have hil : ix < sn.length := Sp.fidx_lt hix
 refine W_skip (N_K (q2 (mV Z (o_nilCheck Z Z (o_fieldAddr 4 runUnderlying70 Z sizeOf68 Z Z Z (o_load_P H isAgg68 Z Z (hdk 4 _ Z) (mV Z (o_index_P ix hsn underlying68 sizeOf124 Z Z Z hix aN ?_)))))))); intro b3 o3 z3 q3 hz3 hE3 hrow3
 obtain ⟨rfl, hi3⟩ := hE3; have hy_hi3 : _ ≤ 16777216 := hi3
 refine o_fieldAddr 1 runUnderlying124 Z sizeOf65 Z Z Z (o_load_P H isAgg65 Z Z (hrow3 1 _ Z) (aG Z (aG Z (q3 (W_ret (rt2 results48 Z Z ?_))))))
 exact H.retV (.inr ⟨ix, _, Z, hz3, hix⟩)
end Go.Proofs.Tst

namespace Go.Proofs.Tst
open Go Fw Tryz
theorem i_CountShared_c (w0 : World) (G0 : PH) (hG : PSub G0 w0) (cd : List Value) (d : BDisk) (hd : diskE G0 d cd) (hge : ErrG G0) :
  Calls Tryz.prog 13 #[.agg cd.toArray] w0 (Rets w0 (.int .i64 (Sp.cShared d))) := by
 obtain ⟨a1, m1, c1, a1', m1', c1', a1'', m1'', c1'', rfl, hr1, hr1', hr1''⟩ := hd; have hn_hr1 := hr1.len; have hx_hr1 : _ ≤ 1099511627776 := hr1.lim; have hn_hr1q := hr1'.len; have hx_hr1q : _ ≤ 1099511627776 := hr1'.lim; have hn_hr1qq := hr1''.len; have hx_hr1qq : _ ≤ 1099511627776 := hr1''.lim
 have H := Hp.init hG
 refine calls_of_W (l := [_]) func13 Z ntmps13 Z (q2 (o_box H Z Z Z ?_)); intro b2 w2 hb2 H
 refine aG Z (q1 (o_loadagg_B 0 H isAgg27 sizeOf27 Z Z Z Z Z (o_call call28 Z Z (i_countDisk_c _ _ H.sub _ d ⟨_, _, _, _, _, _, _, _, _, Z, hr1, hr1', hr1''⟩ H.lent0 ) ?_)))
 rintro _ w3 ⟨G3, _, _, rfl, H3', ⟨⟨se3, rfl⟩, rfl, hnd3⟩ | ⟨db3, mb3, es3, ck3, xs3, T3, F3, sv3, sn3, c3, FS3, rfl, rfl, hm3, hS3, hN3, hT3, hchk3, hNs3, hSn3, hdv3⟩⟩
 ·skip
  have hge := hge.up H3'.le
  have H := H.borrow0 H3'
  refine ⟨_, Z, ?_⟩
  refine mV Z (o_extract Z Z Z (o_extract Z Z Z (aG Z (aG Z (q3 (W_seq (q2 (mV Z (o_call call29 Z Z (uncounted_hit _ _ H.sub hge _) ?_)))))))))
  rintro _ w4 ⟨rfl, ew4⟩; have H := H.step ew4; refine ⟨_, rfl, ?_⟩
  refine q3 (W_true Z (q2 (aG Z (q3 (W_ret (N_K_ret (rt1 results13 Z ?_)))))))
  exact H.rets (congrArg (Value.int .i64) (by have h9 : Sp.DiskValid d = false := (by assumption); simp [Sp.cShared, h9]))
 skip
 have H := H.borrow0 H3'
 obtain ⟨avAd, cvAd, rfl⟩ := H.accShape (k := 3) rfl
 have hVx := Sp.valid_iff.1 (Sp.dv_parts.1 hdv3).1; have hNs := hNs3; have hSn := hSn3; have hT := hT3; have hdv := hdv3; have hTc := hT.cnt; have hTl := Sp.tree_len (Sp.dv_parts.1 hdv).2.1; have hs6 := (Sp.dv_parts.1 hdv).2.2.1; have hsnl := hSn.len; have h16 := hVx.len
 refine ⟨_, Z, ?_⟩
 refine mV Z (o_extract Z Z Z (o_extract Z Z Z (aG Z (aG Z (q3 (W_seq (q2 (mV Z (o_call call29 Z Z (uncounted_nil _ _ H.sub) ?_)))))))))
 rintro _ w5 ⟨rfl, ew5⟩; have H := H.step ew5; refine ⟨_, rfl, ?_⟩
 refine q3 (W_false Z (W_skip (N_K (q2 (aG Z (q3 (W_seq (q2 (mV Z (o_nilCheck Z Z (o_fieldAddr 2 runUnderlying70 Z sizeOf67 Z Z Z (o_fieldAddr 0 runUnderlying67 Z sizeOf64 Z Z Z (o_load_B 0 H isAgg64 Z Z Z Z (o_call call30 Z Z (i_slist_c _ _ (H.lendSubL [1]) _ _ _ _ _ (H.lendPredL (k := 1) (ks := [1]) Z Z) hm3 (hS3.up (PPlus.le _ _ _)) hVx ) ?_))))))))))))))
 rintro _ w6 ⟨_, _, rfl, H6', ⟨F6, rfl, hO6⟩⟩
 have H := H.readersL H6'
 obtain ⟨e26, hP6⟩ := hO6
 obtain ⟨sa6, sc6, rfl⟩ := OwnS.shape hP6
 have hO6 := OHs.mk hP6
 refine ⟨_, Z, ?_⟩
 have hdm1 := dm_nodup H (k := 0) rfl; obtain ⟨Gk1, H, hkl1, hks1⟩ := H.keepF (k := 0) rfl (fun b _ hb => by simp at hb)
 have hrk1 := hO6.rd hks1 hdm1
 have hn_hrk1 := hrk1.len
 refine o_len_slice underlying23 Z Z (mV Z (q3 (W_block ?_)))
 have H := H.del (k := 0) rfl
 have H := H.del (k := 0) rfl
 have H := H.del (k := 0) rfl
 have H := H.del (k := 0) rfl
 have H := H.del (k := 0) rfl
 obtain ⟨ln7, hln7, H⟩ := H.name (k := 0) rfl
 refine W_lp (hf := (Sub.cons (t := 2) Z (Sub.cons (t := 20) Z (Sub.cons (t := 21) Z Sub.nil)))) (J := fun M w m => ∃ (k : Nat) (mm : Int) (G : PH), M = [(22, .int .i64 (k : Int)), (5, .int .i64 mm)] ∧ PLe Gk1 G ∧ Hp w0 G0 [] w G [blk b2 (cl ln7 27)] ∧ (k ≤ d.store.length ∧ mm = (Sp.sharedN (d.store.take k) : Int)) ∧ m = (d.store.length - k)) (h0 := ⟨0, 0, _, Z, PLe.refl _, H, ?inv, Z⟩) (round := ?round)
 case inv => exact ⟨by omega, rfl⟩
 case round =>
  rintro _ w8 _ ⟨k, mm, G8, rfl, hle8, H, hinv8, rfl⟩
  subst hln7
  have hrk1 := hrk1.up hle8
  obtain ⟨hk, hmm⟩ := hinv8; have hcb := Sp.cnt_bnd hVx k
  refine q2 (o_lss Z Z Z (q3 (W_seq ?_)))
  refine W_cond Z ?_ ?_
  ·intro hc9
   try simp only [nrm] at hc9
   refine W_skip (N_K (W_seq (W_block (q2 (o_index_P k hrk1 underlying23 sizeOf42 Z Z Z Z aN ?_))))); intro b10 o10 z10 q10 hz10 hE10 hrow10
   obtain ⟨a10, m10, c10, rfl, hi10, hr10, hj10⟩ := hE10; have hn_hr10 := hr10.len; have hx_hr10 : _ ≤ 1099511627776 := hr10.lim
   obtain ⟨hbv, hb1, hb2, hb3, hb4, hb5, hb6⟩ := Sp.held_bnd hVx hz10
   have hbc : (m10 : Int) * z10.uses = z10.uses * (z10.bytes.length : Int) := by (rw [hn_hr10]; exact Int.mul_comm _ _)
   refine o_loadagg_P H isAgg42 sizeOf42 Z Z hrow10 Z (o_alloc H zeroValue42 Z Z ?_); intro b11 w11 hb11 H
   refine o_store_B 0 H sizeOf42 Z Z Z Z Z Z Z Z ?_; intro w12 H
   refine q1 (o_fieldAddr 2 runUnderlying42 Z sizeOf3 Z Z Z (o_load_B 0 H isAgg3 Z Z Z Z (o_gtr Z Z Z (q3 ?_))))
   refine W_cond Z ?_ ?_
   ·intro hc13
    try simp only [nrm] at hc13
    refine W_region (mV Z (o_add Z Z Z oO (aG Z (R_nil (N_B (N_K (W_region (o_add Z Z Z oO (mV Z (R_nil ?_))))))))))
    have H := H.del (k := 0) rfl
    refine N_lp (hJ := ⟨k + 1, (mm + 1), _, Z, hle8, H, ?inv, Z⟩) (hm := ?hm)
    case hm => omega
    case inv => exact ⟨by omega, by (rw [Sp.shared_yes hz10 oM, hmm]; rfl)⟩
   intro hc13'
   try simp only [nrm] at hc13'
   refine W_skip (N_B (N_K (W_region (o_add Z Z Z oO (mV Z (R_nil ?_))))))
   have H := H.del (k := 0) rfl
   refine N_lp (hJ := ⟨k + 1, mm, _, Z, hle8, H, ?inv, Z⟩) (hm := ?hm)
   case hm => omega
   case inv => exact ⟨by omega, by (rw [Sp.shared_no hz10 oM, hmm]; skip)⟩
  intro hc9'
  try simp only [nrm] at hc9'
  refine W_exit (N_K_exit (N_LP_exit (N_B_same (N_K (q2 (mV Z (aG Z (q3 (W_ret (rt1 results13 Z ?_))))))))))
  have hkk : k = d.store.length := by omega
  rw [hkk, List.take_length] at hmm
  exact H.rets (congrArg (Value.int .i64) (by (rw [hmm]; simp [Sp.cShared, hdv])))
theorem i_CountBytes_c (w0 : World) (G0 : PH) (hG : PSub G0 w0) (cd : List Value) (d : BDisk) (hd : diskE G0 d cd) (hge : ErrG G0) :
  Calls Tryz.prog 10 #[.agg cd.toArray] w0 (Rets w0 (.tuple #[.int .i64 (Sp.cStored d), .int .i64 (Sp.cShown d), .int .i64 (Sp.cPacked d)])) := by
 obtain ⟨a1, m1, c1, a1', m1', c1', a1'', m1'', c1'', rfl, hr1, hr1', hr1''⟩ := hd; have hn_hr1 := hr1.len; have hx_hr1 : _ ≤ 1099511627776 := hr1.lim; have hn_hr1q := hr1'.len; have hx_hr1q : _ ≤ 1099511627776 := hr1'.lim; have hn_hr1qq := hr1''.len; have hx_hr1qq : _ ≤ 1099511627776 := hr1''.lim
 have H := Hp.init hG
 refine calls_of_W (l := [_]) func10 Z ntmps10 Z (q2 (o_box H Z Z Z ?_)); intro b2 w2 hb2 H
 refine aG Z (aG Z (aG Z (q1 (o_loadagg_B 0 H isAgg27 sizeOf27 Z Z Z Z Z (o_call call28 Z Z (i_countDisk_c _ _ H.sub _ d ⟨_, _, _, _, _, _, _, _, _, Z, hr1, hr1', hr1''⟩ H.lent0 ) ?_)))))
 rintro _ w3 ⟨G3, _, _, rfl, H3', ⟨⟨se3, rfl⟩, rfl, hnd3⟩ | ⟨db3, mb3, es3, ck3, xs3, T3, F3, sv3, sn3, c3, FS3, rfl, rfl, hm3, hS3, hN3, hT3, hchk3, hNs3, hSn3, hdv3⟩⟩
 ·skip
  have hge := hge.up H3'.le
  have H := H.borrow0 H3'
  refine ⟨_, Z, ?_⟩
  refine mV Z (o_extract Z Z Z (o_extract Z Z Z (aG Z (aG Z (q3 (W_seq (q2 (mV Z (o_call call29 Z Z (uncounted_hit _ _ H.sub hge _) ?_)))))))))
  rintro _ w4 ⟨rfl, ew4⟩; have H := H.step ew4; refine ⟨_, rfl, ?_⟩
  refine q3 (W_true Z (q2 (aG Z (aG Z (aG Z (q3 (W_ret (N_K_ret (ret_gen (rs := [.tmp 2, .tmp 3, .tmp 4]) (vs := [_, _, _]) results10 ⟨Z, Z, Z, trivial⟩ ?_)))))))))
  have h9 : Sp.DiskValid d = false := by assumption
  exact H.rets (show Value.tuple #[.int .i64 0, .int .i64 0, .int .i64 0] = _ from by simp [Sp.cStored, Sp.cShown, Sp.cPacked, h9])
 skip
 have H := H.borrow0 H3'
 obtain ⟨avAd, cvAd, rfl⟩ := H.accShape (k := 3) rfl
 have hVx := Sp.valid_iff.1 (Sp.dv_parts.1 hdv3).1; have hNs := hNs3; have hSn := hSn3; have hT := hT3; have hdv := hdv3; have hTc := hT.cnt; have hTl := Sp.tree_len (Sp.dv_parts.1 hdv).2.1; have hs6 := (Sp.dv_parts.1 hdv).2.2.1; have hsnl := hSn.len; have h16 := hVx.len
 refine ⟨_, Z, ?_⟩
 refine mV Z (o_extract Z Z Z (o_extract Z Z Z (aG Z (aG Z (q3 (W_seq (q2 (mV Z (o_call call29 Z Z (uncounted_nil _ _ H.sub) ?_)))))))))
 rintro _ w5 ⟨rfl, ew5⟩; have H := H.step ew5; refine ⟨_, rfl, ?_⟩
 refine q3 (W_false Z (W_skip (N_K (q2 (aG Z (aG Z (aG Z (q3 (W_seq (q2 (mV Z (o_nilCheck Z Z (o_fieldAddr 2 runUnderlying70 Z sizeOf67 Z Z Z (o_fieldAddr 0 runUnderlying67 Z sizeOf64 Z Z Z (o_load_B 0 H isAgg64 Z Z Z Z ?_)))))))))))))))
 refine o_call call30 Z Z (i_slist_c _ _ (H.lendSubL [1]) _ _ _ _ _ (H.lendPredL (k := 1) (ks := [1]) Z Z) hm3 (hS3.up (PPlus.le _ _ _)) hVx ) ?_
 rintro _ w6 ⟨_, _, rfl, H6', ⟨F6, rfl, hO6⟩⟩
 have H := H.readersL H6'
 obtain ⟨e26, hP6⟩ := hO6
 obtain ⟨sa6, sc6, rfl⟩ := OwnS.shape hP6
 have hO6 := OHs.mk hP6
 refine ⟨_, Z, ?_⟩
 have hdm1 := dm_nodup H (k := 0) rfl; obtain ⟨Gk1, H, hkl1, hks1⟩ := H.keepF (k := 0) rfl (fun b _ hb => by simp at hb)
 have hrk1 := hO6.rd hks1 hdm1
 have hn_hrk1 := hrk1.len
 refine o_len_slice underlying23 Z Z (mV Z (q3 (W_block ?_)))
 have H := H.del (k := 0) rfl
 have H := H.del (k := 0) rfl
 have H := H.del (k := 0) rfl
 have H := H.del (k := 0) rfl
 have H := H.del (k := 0) rfl
 obtain ⟨ln7, hln7, H⟩ := H.name (k := 0) rfl
 refine W_lp (hf := (Sub.cons (t := 2) Z (Sub.cons (t := 3) Z (Sub.cons (t := 4) Z (Sub.cons (t := 26) Z (Sub.cons (t := 27) Z Sub.nil)))))) (J := fun M w m => ∃ (k : Nat) (ma mb mc : Int) (G : PH), M = [(28, .int .i64 (k : Int)), (7, .int .i64 ma), (8, .int .i64 mb), (9, .int .i64 mc)] ∧ PLe Gk1 G ∧ Hp w0 G0 [] w G [blk b2 (cl ln7 27)] ∧ (k ≤ d.store.length ∧ ma = (Sp.stored (d.store.take k) : Int) ∧ mb = Sp.shown (d.store.take k) ∧ mc = (Sp.packed (d.store.take k) : Int)) ∧ m = (d.store.length - k)) (h0 := ⟨0, 0, 0, 0, _, Z, PLe.refl _, H, ?inv, Z⟩) (round := ?round)
 case inv => exact ⟨by omega, rfl, rfl, rfl⟩
 case round =>
  rintro _ w8 _ ⟨k, ma, mb, mc, G8, rfl, hle8, H, hinv8, rfl⟩
  subst hln7
  have hrk1 := hrk1.up hle8
  obtain ⟨hk, hma, hmb, hmc⟩ := hinv8; have hcb := Sp.cnt_bnd hVx k
  refine q2 (o_lss Z Z Z (q3 (W_seq ?_)))
  refine W_cond Z ?_ ?_
  ·intro hc9
   try simp only [nrm] at hc9
   refine W_skip (N_K (W_seq (W_block (q2 (o_index_P k hrk1 underlying23 sizeOf42 Z Z Z Z aN ?_))))); intro b10 o10 z10 q10 hz10 hE10 hrow10
   obtain ⟨a10, m10, c10, rfl, hi10, hr10, hj10⟩ := hE10; have hn_hr10 := hr10.len; have hx_hr10 : _ ≤ 1099511627776 := hr10.lim
   obtain ⟨hbv, hb1, hb2, hb3, hb4, hb5, hb6⟩ := Sp.held_bnd hVx hz10
   have hbc : (m10 : Int) * z10.uses = z10.uses * (z10.bytes.length : Int) := by (rw [hn_hr10]; exact Int.mul_comm _ _)
   refine o_loadagg_P H isAgg42 sizeOf42 Z Z hrow10 Z (o_alloc H zeroValue42 Z Z ?_); intro b11 w11 hb11 H
   refine o_store_B 0 H sizeOf42 Z Z Z Z Z Z Z Z ?_; intro w12 H
   refine q1 (mV Z (o_fieldAddr 1 runUnderlying42 Z sizeOf38 Z Z Z (o_load_B 0 H isAgg38 Z Z Z Z (o_len_slice underlying38 Z Z (o_add Z Z Z oO (aG Z (q1 (mV Z (o_fieldAddr 1 runUnderlying42 Z sizeOf38 Z Z Z (o_load_B 0 H isAgg38 Z Z Z Z (o_len_slice underlying38 Z Z (o_fieldAddr 2 runUnderlying42 Z sizeOf3 Z Z Z (o_load_B 0 H isAgg3 Z Z Z Z (o_mul Z Z Z oO (o_add Z Z Z oO ?_)))))))))))))))
   refine aG Z (q1 (o_fieldAddr 1 runUnderlying42 Z sizeOf38 Z Z Z (o_load_B 0 H isAgg38 Z Z Z Z (o_call call31 Z Z (i_BlockPack_c _ _ H.sub _ _ hr10 ) ?_))))
   rintro _ w16 ⟨_, _, rfl, H16', ⟨u16, c16, xs16, rfl, rfl, hchk16, hxl16, hxs16⟩⟩
   have H := H.readers (fp := []) (by simp) (PLe.refl _) H16'
   obtain ⟨avr16, cvr16, rfl⟩ := H.accShape (k := 0) rfl
   refine ⟨_, Z, ?_⟩
   refine mV Z (o_extract Z Z Z (o_extract Z Z Z (aG Z (aG Z (q3 (W_region (mV Z (mV Z (o_len_slice underlying38 Z Z (o_add Z Z Z oO (aG Z (R_nil (N_B (N_K (W_region ?_)))))))))))))))
   refine o_add Z Z Z oO (mV Z (R_nil ?_))
   have H := H.del (k := 0) rfl
   have H := H.del (k := 0) rfl
   refine N_lp (hJ := ⟨k + 1, (ma + (m10 : Int)), (mb + (m10 : Int) * z10.uses), (mc + (xs16.length : Int)), _, Z, hle8, H, ?inv, Z⟩) (hm := ?hm)
   case hm => omega
   case inv => exact ⟨by omega, by (rw [Sp.stored_succ hz10]; omega), by (rw [Sp.shown_succ hz10]; omega), by (have h9 := hxs16 hbv; rw [Sp.packed_succ hz10]; omega)⟩
  intro hc9'
  try simp only [nrm] at hc9'
  refine W_exit (N_K_exit (N_LP_exit (N_B_same (N_K (q2 (mV Z (mV Z (mV Z (aG Z (aG Z (aG Z (q3 (W_ret (ret_gen (rs := [.tmp 2, .tmp 3, .tmp 4]) (vs := [_, _, _]) results10 ⟨Z, Z, Z, trivial⟩ ?_))))))))))))))
  exact H.rets (Sp.cnt_fin hma hmb hmc (.inr hdv) (fun _ => by omega))
end Go.Proofs.Tst

namespace Go.Proofs.Tst
open Go Fw Tryz
theorem l6In_c (w0 : World) (n : Int) (lo : Int) (hi : Int)  :
  Calls Tryz.prog 78 #[.int .i64 n, .int .i64 lo, .int .i64 hi] w0 (Rets w0 (.bool (Sp.l6In n lo hi))) := by
 have H := Hp.init0 w0
 refine calls_of_W (l := [.int .i64 n, .int .i64 lo, .int .i64 hi]) func78 Z ntmps78 Z (q2 (aG Z (q1 (mV Z (mV Z (o_geq Z Z Z (mV Z ?_)))))))
 refine R_case (t := 10) Z ?_ ?_
 ·intro hc1
  try simp only [nrm] at hc1
  refine gR Z (mV Z (gR Z (mV Z (gR Z (o_leq Z Z Z (o_pick_t Z Z Z (aG Z (q3 (W_ret (rt1 results78 Z ?_))))))))))
  exact H.rets (congrArg Value.bool (by unfold Sp.l6In; rw [Bool.eq_iff_iff]; simp; omega))
 intro hc1'
 try simp only [nrm] at hc1'
 refine rP Z (rP Z (rP Z (o_pick_f Z Z Z (aG Z (q3 (W_ret (rt1 results78 Z ?_)))))))
 exact H.rets (congrArg Value.bool (by unfold Sp.l6In; rw [Bool.eq_iff_iff]; simp; omega))
theorem l1Word_c (w0 : World) (s : Bs) (hs : s.length ≤ 16777216)  :
  Calls Tryz.prog 39 #[str s] w0 (Rets w0 (.bool (Sp.l1Word s))) := by
 have H := Hp.init0 w0
 refine calls_of_W (l := [str s]) func39 Z ntmps39 Z (q2 (aG Z (q3 (W_seq (q2 (aG Z (q3 (W_block ?_))))))))
 refine W_lp (hf := (Sub.cons (t := 0) Z Sub.nil)) (J := fun M w m => ∃ (k : Nat) (G : PH), M = [(3, .int .i64 (k : Int))] ∧ PLe (fun _ => none) G ∧ Hp w0 (fun _ => none) [] w G [] ∧ (k ≤ s.length ∧ (s.take k).all Sp.low = true) ∧ m = (s.length - k)) (h0 := ⟨0, _, Z, PLe.refl _, H, ?inv, Z⟩) (round := ?round)
 case inv => exact ⟨by omega, by simp⟩
 case round =>
  rintro _ w1 _ ⟨k, G1, rfl, hle1, H, hinv1, rfl⟩
  obtain ⟨hk, hall⟩ := hinv1
  refine W_seq (q2 (mV Z (mV Z (o_len_str underlying9 Z Z (o_lss Z Z Z (q3 ?_))))))
  refine W_cond Z ?_ ?_
  ·intro hc2
   try simp only [nrm] at hc2
   refine W_skip (N_K (W_seq (W_block (q2 (mV Z (mV Z (o_index_str underlying9 Z Z Z Z oM ?_))))))); intro ch3 hch3; have hlt3 := ch3.toNat_lt
   refine o_lss Z Z Z (mV Z ?_)
   refine R_case (t := 14) Z ?_ ?_
   ·intro hc4
    try simp only [nrm] at hc4
    refine rP Z (rP Z (rP Z (rP Z (o_pick_t Z Z Z (q3 (W_true Z (q2 (aG Z (q3 (W_ret (N_B_ret (N_K_ret (N_LP_ret (N_B_ret (N_K_ret ?_)))))))))))))))
    refine rt1 results39 Z ?_
    exact H.rets (congrArg Value.bool (by rw [Sp.l1Word, Sp.all_false hch3 (by simp [Sp.low]; omega)]; rfl))
   intro hc4'
   try simp only [nrm] at hc4'
   refine gR Z (mV Z (gR Z (mV Z (gR Z (o_index_str underlying9 Z Z Z Z oM ?_))))); intro ch5 hch5; have hlt5 := ch5.toNat_lt
   obtain rfl : ch5 = ch3 := Option.some.inj (hch5.symm.trans hch3)
   refine gR Z (o_gtr Z Z Z (o_pick_f Z Z Z (q3 ?_)))
   refine W_cond Z ?_ ?_
   ·intro hc6
    try simp only [nrm] at hc6
    refine q2 (aG Z (q3 (W_ret (N_B_ret (N_K_ret (N_LP_ret (N_B_ret (N_K_ret (rt1 results39 Z ?_)))))))))
    exact H.rets (congrArg Value.bool (by rw [Sp.l1Word, Sp.all_false hch5 (by simp [Sp.low]; omega)]; rfl))
   intro hc6'
   try simp only [nrm] at hc6'
   refine W_skip (N_B (N_K (W_region (mV Z (o_add Z Z Z oO (aG Z (R_nil ?_)))))))
   refine N_lp (hJ := ⟨k + 1, _, Z, hle1, H, ?inv, Z⟩) (hm := ?hm)
   case hm => omega
   case inv => exact ⟨by omega, Sp.all_take hall hch5 (by simp [Sp.low]; omega)⟩
  intro hc2'
  try simp only [nrm] at hc2'
  refine W_exit (N_K_exit (N_LP_exit (N_B_same (N_K (q2 (mV Z (o_len_str underlying9 Z Z (o_call call78 Z Z (l6In_c _ _ _ _ ) ?_))))))))
  rintro _ w8 ⟨rfl, ew8⟩; have H := H.step ew8; refine ⟨_, rfl, ?_⟩
  refine aG Z (q3 (W_ret (rt1 results39 Z ?_)))
  obtain rfl : k = s.length := by omega
  rw [List.take_length] at hall
  exact H.rets (congrArg Value.bool (by simp only [Sp.l1Word, Sp.l6In, hall]; rw [Bool.eq_iff_iff]; simp; omega))
theorem l1Cut_c (w0 : World) (G0 : PH) (hG : PSub G0 w0) (s : Bs) (hs : s.length ≤ 16777216)  :
  Calls Tryz.prog 148 #[str s] w0 (RetP w0 G0 (fun G v => RdT G v (Sp.cut s))) := by
 have H := Hp.init hG
 refine calls_of_W (l := [str s]) func148 Z ntmps148 Z (q2 (aG Z (q1 (o_buildSlice H underlying77 sizeOf9 (fun w => ⟨_, zeroValue9 w, Z⟩) Z Z Z Z Z Z Z ?_)))); intro b1 w1 hb1 H
 have H := H.blkAcc 1 (k := 0) (n := 0) rfl rfl (by decide)
 refine aG Z (q1 (aG Z (q3 (W_seq (q2 (aG Z (q3 (W_block ?_))))))))
 refine W_lp (hf := (Sub.cons (t := 0) Z (Sub.cons (t := 2) Z Sub.nil))) (J := fun M w m => ∃ (v : Value) (n : Nat) (cs : List Value) (xs : List (Bs)) (f k : Nat) (G : PH), M = [(4, .int .i64 (f : Int)), (5, .int .i64 (k : Int)), (3, v)] ∧ PLe G0 G ∧ Hp w0 G0 [] w G [acc 9 1 v n cs] ∧ (Chk strE 1 G cs xs ∧ n = xs.length ∧ f ≤ k ∧ k ≤ s.length ∧ xs.length ≤ k ∧ xs ++ Sp.cut (s.drop f) = Sp.cut s ∧ ∀ j, f ≤ j → j < k → s[j]? ≠ some 47) ∧ m = (s.length - k)) (h0 := ⟨_, _, _, [], 0, 0, _, Z, PLe.refl _, H, ?inv, Z⟩) (round := ?round)
 case inv => exact ⟨(Chk.nil (E := strE) (sz := 1) (G := G0)),  by first | rfl | simp | (simp; omega) | omega, (by simp)⟩
 case round =>
  rintro _ w2 _ ⟨v, n, cs, xs, f, k, G2, rfl, hle2, H, hinv2, rfl⟩
  obtain ⟨hchk2_0, hn2_0, hinv2⟩ := hinv2
  obtain ⟨av2_0, cv2_0, rfl⟩ := H.accShape (k := 0) rfl
  obtain ⟨h1, h2, h3, h4, h5⟩ := hinv2
  refine W_seq (q2 (mV Z (mV Z (o_len_str underlying9 Z Z (o_lss Z Z Z (q3 ?_))))))
  refine W_cond Z ?_ ?_
  ·intro hc3
   try simp only [nrm] at hc3
   refine W_skip (N_K (W_seq (W_block (q2 (mV Z (mV Z (o_index_str underlying9 Z Z Z Z oM ?_))))))); intro ch4 hch4; have hlt4 := ch4.toNat_lt
   refine o_eql Z Z Z (q3 ?_)
   refine W_cond Z ?_ ?_
   ·intro hc5
    try simp only [nrm] at hc5
    refine q2 (mV Z (mV Z (mV Z (mV Z (o_slice_str underlying9 Z Z Z Z oM oM oM (o_buildSlice H underlying77 sizeOf9 (fun w => ⟨_, zeroValue9 w, Z⟩) Z Z Z Z Z Z Z ?_)))))); intro b7 w7 hb7 H
    refine o_append1 0 H (sz := 1) (bytes := 16) underlying77 typeInfo9 ⟨_, Z, Z⟩ Z Z Z Z Z Z Z Z Z Z oM Z ?_; intro v8 w8 H
    have hchk8 := hchk2_0.snoc (show strE _ ((s.drop f).take (k - f)) _ from ⟨rfl, (by (first | assumption | (refine Sp.l5Parent_lim ?_; assumption) | (simp; done) | (simp; omega) | omega))⟩) rfl
    obtain ⟨av8, cv8, rfl⟩ := H.accShape (k := 0) rfl
    refine aG Z (q3 (W_region (mV Z (o_add Z Z Z oO (aG Z (R_nil (N_B (N_K (W_region (mV Z (o_add Z Z Z oO (aG Z (R_nil ?_)))))))))))))
    refine N_lp (hJ := ⟨_, _, _, (xs ++ [((s.drop f).take (k - f))]), k + 1, k + 1, _, Z, hle2, H, ?inv, Z⟩) (hm := ?hm)
    case hm => omega
    case inv => exact ⟨hchk8, aN, (by exact ⟨by omega, by omega, by simp; omega, Sp.cut_step h4 h1 (hch4 ▸ congrArg some (Sp.is47 oM)) h5, fun j g1 g2 => by omega⟩)⟩
   intro hc5'
   try simp only [nrm] at hc5'
   refine W_skip (N_B (N_K (W_region (mV Z (o_add Z Z Z oO (aG Z (R_nil ?_)))))))
   refine N_lp (hJ := ⟨_, _, _, xs, f, k + 1, _, Z, hle2, H, ?inv, Z⟩) (hm := ?hm)
   case hm => omega
   case inv => exact ⟨hchk2_0, aN, (by exact ⟨by omega, by omega, by omega, h4, Sp.noslash_succ h5 (hch4 ▸ Sp.not47 oM)⟩)⟩
  intro hc3'
  try simp only [nrm] at hc3'
  refine W_exit (N_K_exit (N_LP_exit (N_B_same (N_K (q2 (mV Z (mV Z (mV Z (o_slice_str_from underlying9 Z Z Z oM oM (o_buildSlice H underlying77 sizeOf9 (fun w => ⟨_, zeroValue9 w, Z⟩) Z Z Z Z Z Z Z ?_)))))))))); intro b13 w13 hb13 H
  refine o_append1 0 H (sz := 1) (bytes := 16) underlying77 typeInfo9 ⟨_, Z, Z⟩ Z Z Z Z Z Z Z Z Z Z oM Z ?_; intro v14 w14 H
  have hchk14 := hchk2_0.snoc (show strE _ (s.drop f) _ from ⟨rfl, (by (first | assumption | (refine Sp.l5Parent_lim ?_; assumption) | (simp; done) | (simp; omega) | omega))⟩) rfl
  obtain ⟨av14, cv14, rfl⟩ := H.accShape (k := 0) rfl
  refine aG Z (q3 (W_ret (rt1 results148 Z ?_)))
  obtain ⟨G515, H, hsg515, hsr515⟩ := H.shut' (k := 0) rfl hchk14 aN aN
  exact H.retP (by rw [← Sp.cut_end h4 h5 oM]; exact hsr515)
theorem PathValid_c (w0 : World) (G0 : PH) (hG : PSub G0 w0) (path : Bs) (hpath : path.length ≤ 16777216)  :
  Calls Tryz.prog 116 #[str path] w0 (Rets w0 (.bool (Sp.PathValid path))) := by
 have H := Hp.init hG
 refine calls_of_W (l := [str path]) func116 Z ntmps116 Z (q2 (aG Z (q1 (mV Z (o_call call148 Z Z (l1Cut_c _ _ H.sub _ hpath ) ?_)))))
 rintro _ w1 ⟨G1, u1_0, g1, rfl, hr1_0⟩
 have H := H.grow g1
 obtain ⟨a1_0, k1_0, rfl⟩ := hr1_0.shape; have hx_hr1_0 : _ ≤ 1099511627776 := hr1_0.lim
 refine ⟨_, Z, ?_⟩
 refine aG Z (q3 (W_seq (q2 (aG Z (q3 (W_block ?_))))))
 refine W_lp (hf := (Sub.cons (t := 3) Z Sub.nil)) (J := fun M w m => ∃ (k : Nat) (G : PH), M = [(4, .int .i64 (k : Int))] ∧ PLe G1 G ∧ Hp w0 G0 [] w G [] ∧ (k ≤ (Sp.cut path).length ∧ ((Sp.cut path).take k).all Sp.l1Word = true) ∧ m = ((Sp.cut path).length - k)) (h0 := ⟨0, _, Z, PLe.refl _, H, ?inv, Z⟩) (round := ?round)
 case inv => simp
 case round =>
  rintro _ w2 _ ⟨k, G2, rfl, hle2, H, hinv2, rfl⟩
  have hr1_0 := hr1_0.up hle2
  obtain ⟨hk, hall⟩ := hinv2
  refine W_seq (q2 (mV Z (mV Z (o_len_slice underlying77 Z Z (o_lss Z Z Z (q3 ?_))))))
  refine W_cond Z ?_ ?_
  ·intro hc3
   try simp only [nrm] at hc3
   refine W_skip (N_K (W_seq (W_block (q2 (mV Z (mV Z (o_index_P k hr1_0 underlying77 sizeOf9 Z Z Z Z aN ?_))))))); intro b4 o4 z4 q4 hz4 hE4 hrow4
   obtain ⟨rfl, hi4⟩ := hE4; have hy_hi4 : _ ≤ 16777216 := hi4
   refine o_load_P H isAgg9 Z Z (hrow4 0 _ Z) (o_call call39 Z Z (l1Word_c _ _ hi4 ) ?_)
   rintro _ w5 ⟨rfl, ew5⟩; have H := H.step ew5; refine ⟨_, rfl, ?_⟩
   refine o_not Z Z (q3 ?_)
   refine W_cond Z ?_ ?_
   ·intro hc6
    try simp only [nrm] at hc6
    refine q2 (aG Z (q3 (W_ret (N_B_ret (N_K_ret (N_LP_ret (N_B_ret (N_K_ret (rt1 results116 Z ?_)))))))))
    exact H.rets (congrArg Value.bool (by rw [Sp.PathValid, Sp.all_false hz4 hc6]; rfl))
   intro hc6'
   try simp only [nrm] at hc6'
   refine W_skip (N_B (N_K (W_region (mV Z (o_add Z Z Z oO (aG Z (R_nil ?_)))))))
   refine N_lp (hJ := ⟨k + 1, _, Z, hle2, H, ?inv, Z⟩) (hm := ?hm)
   case hm => omega
   case inv => exact ⟨by omega, Sp.all_take hall hz4 hc6'⟩
  intro hc3'
  try simp only [nrm] at hc3'
  refine W_exit (N_K_exit (N_LP_exit (N_B_same (N_K (q2 (mV Z (o_len_slice underlying77 Z Z (o_leq Z Z Z (aG Z (q3 (W_ret (rt1 results116 Z ?_))))))))))))
  obtain rfl : k = (Sp.cut path).length := by omega
  rw [List.take_length] at hall
  exact H.rets (congrArg Value.bool (by simp only [Sp.PathValid, hall, Bool.true_and]; rw [Bool.eq_iff_iff]; simp; omega))
theorem l1Last_c (w0 : World) (path : Bs) (hpath : path.length ≤ 16777216)  :
  Calls Tryz.prog 149 #[str path] w0 (Rets w0 (.int .i64 (Sp.l1Last path))) := by
 have H := Hp.init0 w0
 refine calls_of_W (l := [str path]) func149 Z ntmps149 Z (q2 (aG Z (q1 (aG Z (q3 (W_seq (q2 (aG Z (q3 (W_block ?_))))))))))
 refine W_lp (hf := (Sub.cons (t := 0) Z (Sub.cons (t := 2) Z Sub.nil))) (J := fun M w m => ∃ (k : Nat) (o : Option Nat) (G : PH), M = [(3, .int .i64 (Sp.optI o)), (4, .int .i64 (k : Int))] ∧ PLe (fun _ => none) G ∧ Hp w0 (fun _ => none) [] w G [] ∧ (k ≤ path.length ∧ o = (List.range k).foldl (Sp.lastF path) none) ∧ m = (path.length - k)) (h0 := ⟨0, none, _, Z, PLe.refl _, H, ?inv, Z⟩) (round := ?round)
 case inv => exact ⟨by omega, rfl⟩
 case round =>
  rintro _ w1 _ ⟨k, o, G1, rfl, hle1, H, hinv1, rfl⟩
  obtain ⟨hk, hall⟩ := hinv1
  refine W_seq (q2 (mV Z (mV Z (o_len_str underlying9 Z Z (o_lss Z Z Z (q3 ?_))))))
  refine W_cond Z ?_ ?_
  ·intro hc2
   try simp only [nrm] at hc2
   refine W_skip (N_K (W_seq (W_block (q2 (mV Z (mV Z (o_index_str underlying9 Z Z Z Z oM ?_))))))); intro ch3 hch3; have hlt3 := ch3.toNat_lt
   refine o_eql Z Z Z (q3 ?_)
   refine W_cond Z ?_ ?_
   ·intro hc4
    try simp only [nrm] at hc4
    refine W_region (mV Z (aG Z (R_nil (N_B (N_K (W_region (mV Z (o_add Z Z Z oO (aG Z (R_nil ?_))))))))))
    refine N_lp (hJ := ⟨k + 1, some k, _, Z, hle1, H, ?inv, Z⟩) (hm := ?hm)
    case hm => omega
    case inv => exact ⟨by omega, by rw [Sp.last_succ, ← hall, Sp.lastF, hch3, if_pos (congrArg some (Sp.is47 oM))]⟩
   intro hc4'
   try simp only [nrm] at hc4'
   refine W_skip (N_B (N_K (W_region (mV Z (o_add Z Z Z oO (aG Z (R_nil ?_)))))))
   refine N_lp (hJ := ⟨k + 1, o, _, Z, hle1, H, ?inv, Z⟩) (hm := ?hm)
   case hm => omega
   case inv => exact ⟨by omega, by rw [Sp.last_succ, ← hall, Sp.lastF, hch3, if_neg (Sp.not47 oM)]⟩
  intro hc2'
  try simp only [nrm] at hc2'
  refine W_exit (N_K_exit (N_LP_exit (N_B_same (N_K (q2 (mV Z (aG Z (q3 (W_ret (rt1 results149 Z ?_))))))))))
  obtain rfl : k = path.length := by omega
  exact H.rets (congrArg (Value.int .i64) (by rw [hall]; rfl))
theorem l5Parent_c (w0 : World) (path : Bs) (hpath : path.length ≤ 16777216)  :
  Calls Tryz.prog 117 #[str path] w0 (Rets w0 (str (Sp.l5Parent path))) := by
 have hl := Sp.l1Last_le path
 have H := Hp.init0 w0
 refine calls_of_W (l := [str path]) func117 Z ntmps117 Z (q2 (aG Z (q1 (mV Z (mV Z (o_call call149 Z Z (l1Last_c _ _ hpath ) ?_))))))
 rintro _ w1 ⟨rfl, ew1⟩; have H := H.step ew1; refine ⟨_, rfl, ?_⟩
 refine o_max Z Z Z (o_slice_str_to underlying9 Z Z Z oM oM (aG Z (q3 (W_ret (rt1 results117 Z ?_)))))
 exact H.rets Z
theorem l5At_c (w0 : World) (G0 : PH) (hG : PSub G0 w0) (vlist : Value) (list : List (BItem)) (hlist : RdItems G0 vlist list) (path : Bs) (hpath : path.length ≤ 16777216)  :
  Calls Tryz.prog 118 #[vlist, str path] w0 (Rets w0 (.int .i64 (Sp.l5At list path))) := by
 obtain ⟨alist, klist, rfl⟩ := hlist.shape
 have hlimlist : list.length ≤ 1099511627776 := hlist.lim
 have H := Hp.init hG
 refine calls_of_W (l := [.slice alist list.length klist, str path]) func118 Z ntmps118 Z (q2 (aG Z (q3 (W_seq (q2 (aG Z (q3 (W_block ?_))))))))
 refine W_lp (hf := (Sub.cons (t := 0) Z (Sub.cons (t := 1) Z Sub.nil))) (J := fun M w m => ∃ (k : Nat) (G : PH), M = [(5, .int .i64 (k : Int))] ∧ PLe G0 G ∧ Hp w0 G0 [] w G [] ∧ (k ≤ list.length ∧ (∀ j, j < k → ∀ y, list[j]? = some y → decide (y.path = path) = false)) ∧ m = (list.length - k)) (h0 := ⟨0, _, Z, PLe.refl _, H, ?inv, Z⟩) (round := ?round)
 case inv => exact ⟨by omega, fun j hj => by omega⟩
 case round =>
  rintro _ w1 _ ⟨k, G1, rfl, hle1, H, hinv1, rfl⟩
  have hlist := hlist.up hle1
  obtain ⟨hk, hall⟩ := hinv1
  refine W_seq (q2 (mV Z (mV Z (o_len_slice underlying24 Z Z (o_lss Z Z Z (q3 ?_))))))
  refine W_cond Z ?_ ?_
  ·intro hc2
   try simp only [nrm] at hc2
   refine W_skip (N_K (W_seq (W_block (q2 (mV Z (mV Z (o_index_P k hlist underlying24 sizeOf40 Z Z Z Z aN ?_))))))); intro b3 o3 z3 q3 hz3 hE3 hrow3
   obtain ⟨a3, m3, c3, rfl, hi3, hr3⟩ := hE3; have hy_hi3 : _ ≤ 16777216 := hi3; have hn_hr3 := hr3.len; have hx_hr3 : _ ≤ 1099511627776 := hr3.lim
   refine o_fieldAddr 0 runUnderlying40 Z sizeOf9 Z Z Z (o_load_P H isAgg9 Z Z (hrow3 0 _ Z) (mV Z (o_seql Z Z Z (q3 ?_))))
   refine W_cond Z ?_ ?_
   ·intro hc4
    try simp only [nrm] at hc4
    refine q2 (mV Z (aG Z (q3 (W_ret (N_B_ret (N_K_ret (N_LP_ret (N_B_ret (N_K_ret (rt1 results118 Z ?_))))))))))
    exact H.rets (congrArg (Value.int .i64) (by rw [Sp.l5At, Sp.atI, Sp.find_at hall hz3 (by simp; exact hc4)]; rfl))
   intro hc4'
   try simp only [nrm] at hc4'
   refine W_skip (N_B (N_K (W_region (mV Z (o_add Z Z Z oO (aG Z (R_nil ?_)))))))
   refine N_lp (hJ := ⟨k + 1, _, Z, hle1, H, ?inv, Z⟩) (hm := ?hm)
   case hm => omega
   case inv => exact ⟨by omega, Sp.none_succ hall hz3 (by simp; exact hc4')⟩
  intro hc2'
  try simp only [nrm] at hc2'
  refine W_exit (N_K_exit (N_LP_exit (N_B_same (N_K (q2 (aG Z (q3 (W_ret (rt1 results118 Z ?_)))))))))
  exact H.rets (congrArg (Value.int .i64) (by rw [Sp.l5At, Sp.atI, Sp.find_none hall oM]; rfl))
theorem l5Home_c (w0 : World) (G0 : PH) (hG : PSub G0 w0) (vlist : Value) (list : List (BItem)) (hlist : RdItems G0 vlist list) (path : Bs) (hpath : path.length ≤ 16777216)  :
  Calls Tryz.prog 90 #[vlist, str path] w0 (Rets w0 (.bool (Sp.l5Home list path))) := by
 obtain ⟨alist, klist, rfl⟩ := hlist.shape
 have hlimlist : list.length ≤ 1099511627776 := hlist.lim
 have H := Hp.init hG
 refine calls_of_W (l := [.slice alist list.length klist, str path]) func90 Z ntmps90 Z (q2 (aG Z (q1 (mV Z (o_call call117 Z Z (l5Parent_c _ _ hpath ) ?_)))))
 rintro _ w1 ⟨rfl, ew1⟩; have H := H.step ew1; refine ⟨_, rfl, ?_⟩
 refine aG Z (q1 (mV Z (mV Z ?_)))
 refine o_call call118 Z Z (l5At_c _ _ H.sub _ _ hlist _ (by (first | assumption | (refine Sp.l5Parent_lim ?_; assumption) | (simp; done) | (simp; omega) | omega)) ) ?_
 rintro _ w2 ⟨rfl, ew2⟩; have H := H.step ew2; refine ⟨_, rfl, ?_⟩
 refine aG Z (q1 (mV Z (o_seql Z Z Z (mV Z ?_))))
 refine R_case (t := 14) Z ?_ ?_
 ·intro hc3
  try simp only [nrm] at hc3
  refine rP Z (rP Z (rP Z (R_pass Z (yl_un Z Z) (R_pass Z (yl_un Z Z) (R_pass Z (yl_un Z Z) (R_pass Z (yl_un Z Z) (R_pass Z (yl_un Z Z) (rP Z (o_pick_t Z Z Z (aG Z (q3 (W_ret (rt1 results90 Z ?_)))))))))))))
  exact H.rets (congrArg Value.bool (by simp [Sp.l5Home, hc3]))
 intro hc3'
 try simp only [nrm] at hc3'
 refine gR Z (mV Z (gR Z (o_geq Z Z Z (gR Z (mV Z ?_)))))
 refine R_case (t := 17) Z ?_ ?_
 ·intro hc4
  try simp only [nrm] at hc4
  obtain ⟨i, x, hi1, hi2, hi3, hi4, hi5⟩ := Sp.at_nat hc4
  refine gR Z (mV Z (gR Z (mV Z (gR Z (o_index_P i hlist underlying24 sizeOf40 Z Z Z hi2 aN ?_))))); intro b5 o5 z5 q5 hz5 hE5 hrow5
  obtain ⟨a5, m5, c5, rfl, hi5, hr5⟩ := hE5; have hy_hi5 : _ ≤ 16777216 := hi5; have hn_hr5 := hr5.len; have hx_hr5 : _ ≤ 1099511627776 := hr5.lim
  refine gR Z (o_fieldAddr 1 runUnderlying40 Z sizeOf4 Z Z Z (gR Z (o_load_P H isAgg4 Z Z (hrow5 1 _ Z) (gR Z (o_pick_t Z Z Z (o_pick_f Z Z Z (aG Z (q3 (W_ret (rt1 results90 Z ?_))))))))))
  exact H.rets (congrArg Value.bool (by simp [Sp.l5Home, hc3', Sp.atI, hi1, hz5]))
 intro hc4'
 try simp only [nrm] at hc4'
 refine rP Z (rP Z (rP Z (rP Z (rP Z (gR Z (o_pick_f Z Z Z (o_pick_f Z Z Z (aG Z (q3 (W_ret (rt1 results90 Z ?_)))))))))))
 exact H.rets (congrArg Value.bool (by simp [Sp.l5Home, hc3', Sp.atI, Sp.at_none hc4']))
theorem l5Item_c (w0 : World) (G0 : PH) (hG : PSub G0 w0) (cx : List Value) (x : BItem) (hx : itemE G0 x cx)  :
  Calls Tryz.prog 89 #[.agg cx.toArray] w0 (Rets w0 (.bool (Sp.l5Item x))) := by
 obtain ⟨a1, m1, c1, rfl, hi1, hr1⟩ := hx; have hy_hi1 : _ ≤ 16777216 := hi1; have hn_hr1 := hr1.len; have hx_hr1 : _ ≤ 1099511627776 := hr1.lim
 have H := Hp.init hG
 refine calls_of_W (l := [_]) func89 Z ntmps89 Z (q2 (o_box H Z Z Z ?_)); intro b2 w2 hb2 H
 refine aG Z (q3 (W_seq (q2 (aG Z (q3 (W_block ?_))))))
 obtain ⟨ln3, hln3, H⟩ := H.name (k := 0) rfl
 refine W_lp (hf := (Sub.cons (t := 1) Z Sub.nil)) (J := fun M w m => ∃ (k : Nat) (G : PH), M = [(3, .int .i64 (k : Int))] ∧ PLe G0 G ∧ Hp w0 G0 [] w G [blk b2 (cl ln3 40)] ∧ (k ≤ x.ids.length ∧ (x.ids.take k).all (Sp.idOk x.dir) = true) ∧ m = (x.ids.length - k)) (h0 := ⟨0, _, Z, PLe.refl _, H, ?inv, Z⟩) (round := ?round)
 case inv => exact ⟨by omega, by simp⟩
 case round =>
  rintro _ w4 _ ⟨k, G4, rfl, hle4, H, hinv4, rfl⟩
  subst hln3
  have hr1 := hr1.up hle4
  obtain ⟨hk, hall⟩ := hinv4
  refine W_seq (q2 (mV Z (o_fieldAddr 2 runUnderlying40 Z sizeOf38 Z Z Z (o_load_B 0 H isAgg38 Z Z Z Z (o_len_slice underlying38 Z Z (o_lss Z Z Z (q3 ?_)))))))
  refine W_cond Z ?_ ?_
  ·intro hc5
   try simp only [nrm] at hc5
   refine W_skip (N_K (W_seq (W_block (q2 (o_fieldAddr 1 runUnderlying40 Z sizeOf4 Z Z Z (o_load_B 0 H isAgg4 Z Z Z Z (mV Z ?_)))))))
   refine R_case (t := 13) Z ?_ ?_
   ·intro hc6
    try simp only [nrm] at hc6
    refine rP Z (rP Z (rP Z (rP Z (rP Z (rP Z (rP Z (o_pick_t Z Z Z (q3 (W_true Z (q2 (aG Z (q3 (W_ret (N_B_ret (N_K_ret ?_)))))))))))))))
    refine N_LP_ret (N_B_ret (N_K_ret (rt1 results89 Z ?_)))
    exact H.rets (congrArg Value.bool (by rw [Sp.l5Item, Sp.all_false (c := x.ids[k]) (List.getElem?_eq_getElem oM) (by simp [Sp.idOk, hc6])]; rfl))
   intro hc6'
   try simp only [nrm] at hc6'
   refine gR Z (o_fieldAddr 2 runUnderlying40 Z sizeOf38 Z Z Z (gR Z (o_load_B 0 H isAgg38 Z Z Z Z (gR Z (mV Z (gR Z (o_index_P k hr1 underlying38 sizeOf3 Z Z Z Z aN ?_))))))); intro b7 o7 z7 q7 hz7 hE7 hrow7
   obtain ⟨rfl, hi7⟩ := hE7
   refine gR Z (o_load_P H isAgg3 Z Z (hrow7 0 _ Z) (gR Z (o_call call78 Z Z (l6In_c _ _ _ _ ) ?_)))
   rintro _ w8 ⟨rfl, ew8⟩; have H := H.step ew8; refine ⟨_, rfl, ?_⟩
   refine gR Z (o_not Z Z (o_pick_f Z Z Z (q3 ?_)))
   refine W_cond Z ?_ ?_
   ·intro hc9
    try simp only [nrm] at hc9
    refine q2 (aG Z (q3 (W_ret (N_B_ret (N_K_ret (N_LP_ret (N_B_ret (N_K_ret (rt1 results89 Z ?_)))))))))
    exact H.rets (congrArg Value.bool (by rw [Sp.l5Item, Sp.all_false hz7 (by simp [Sp.idOk, *])]; rfl))
   intro hc9'
   try simp only [nrm] at hc9'
   refine W_skip (N_B (N_K (W_region (mV Z (o_add Z Z Z oO (aG Z (R_nil ?_)))))))
   refine N_lp (hJ := ⟨k + 1, _, Z, hle4, H, ?inv, Z⟩) (hm := ?hm)
   case hm => omega
   case inv => exact ⟨by omega, Sp.all_take hall hz7 (by simp [Sp.idOk, *])⟩
  intro hc5'
  try simp only [nrm] at hc5'
  refine W_exit (N_K_exit (N_LP_exit (N_B_same (N_K (q2 (o_fieldAddr 0 runUnderlying40 Z sizeOf9 Z Z Z (o_load_B 0 H isAgg9 Z Z Z Z (o_call call116 Z Z (PathValid_c _ _ H.sub _ hi1 ) ?_))))))))
  rintro _ w11 ⟨rfl, ew11⟩; have H := H.step ew11; refine ⟨_, rfl, ?_⟩
  refine mV Z ?_
  refine R_case (t := 25) Z ?_ ?_
  ·intro hc12
   try simp only [nrm] at hc12
   refine gR Z (o_fieldAddr 2 runUnderlying40 Z sizeOf38 Z Z Z (gR Z (o_load_B 0 H isAgg38 Z Z Z Z (gR Z (o_len_slice underlying38 Z Z (gR Z (o_leq Z Z Z (o_pick_t Z Z Z (aG Z (q3 (W_ret (rt1 results89 Z ?_))))))))))))
   obtain rfl : k = x.ids.length := by omega
   rw [List.take_length] at hall
   exact H.rets (congrArg Value.bool (by simp only [Sp.l5Item, hall, hc12, Bool.true_and]; rw [Bool.eq_iff_iff]; simp; omega))
  intro hc12'
  try simp only [nrm] at hc12'
  refine rP Z (rP Z (rP Z (rP Z (o_pick_f Z Z Z (aG Z (q3 (W_ret (rt1 results89 Z ?_))))))))
  exact H.rets (congrArg Value.bool (by simp [Sp.l5Item, hc12']))
theorem TreeValid_c (w0 : World) (G0 : PH) (hG : PSub G0 w0) (vlist : Value) (list : List (BItem)) (hlist : RdItems G0 vlist list)  :
  Calls Tryz.prog 54 #[vlist] w0 (Rets w0 (.bool (Sp.TreeValid list))) := by
 obtain ⟨alist, klist, rfl⟩ := hlist.shape
 have hlimlist : list.length ≤ 1099511627776 := hlist.lim
 have H := Hp.init hG
 refine calls_of_W (l := [.slice alist list.length klist]) func54 Z ntmps54 Z (q2 (aG Z (q3 (W_seq (q2 (aG Z (q3 (W_block ?_))))))))
 refine W_lp (hf := (Sub.cons (t := 0) Z Sub.nil)) (J := fun M w m => ∃ (k : Nat) (G : PH), M = [(3, .int .i64 (k : Int))] ∧ PLe G0 G ∧ Hp w0 G0 [] w G [] ∧ (k ≤ list.length ∧ ∀ j, j < k → Sp.okT list j = true) ∧ m = (list.length - k)) (h0 := ⟨0, _, Z, PLe.refl _, H, ?inv, Z⟩) (round := ?round)
 case inv => exact ⟨by omega, fun j hj => by omega⟩
 case round =>
  rintro _ w1 _ ⟨k, G1, rfl, hle1, H, hinv1, rfl⟩
  have hlist := hlist.up hle1
  obtain ⟨hk, hall⟩ := hinv1
  refine W_seq (q2 (mV Z (mV Z (o_len_slice underlying24 Z Z (o_lss Z Z Z (q3 ?_))))))
  refine W_cond Z ?_ ?_
  ·intro hc2
   try simp only [nrm] at hc2
   refine W_skip (N_K (W_seq (W_block (W_seq (W_drawK [] 34 H kR Z ?_))))); intro w3 H; have hd3 := PLe.refl G1
   refine vM 0 Z Z (vM 1 Z Z ?_)
   have hl4 := hlist.len
   obtain ⟨b4, o4, z4, q4, ha4, hz4, hq4, hE4, hrow4, _⟩ := hlist.at (i := k) oM
   clear hq4
   obtain ⟨a4, m4, c4, rfl, hi4, hr4⟩ := hE4; have hy_hi4 : _ ≤ 16777216 := hi4; have hn_hr4 := hr4.len; have hx_hr4 : _ ≤ 1099511627776 := hr4.lim
   refine RD_t 2 Z kR Z (fun _ hK => v_index_P (i := k) ha4 underlying24 sizeOf40 Z Z Z oM) (RD_t 3 Z kR Z (fun _ hK => v_loadagg_P hK isAgg40 sizeOf40 Z hrow4 Z) ?_)
   refine RD_run [4] kR Z (RDs.cons Z ?_ RDs.nil)
   refine o_call call89 Z Z (l5Item_c _ _ H.sub _ _ ⟨_, _, _, Z, hi4, hr4⟩ ) ?_
   rintro _ w5 ⟨rfl, ew5⟩; have H := H.step ew5; refine ⟨_, rfl, ?_⟩
   refine R_nil (N_DK (Kn.of' H hd3 SubL.nil) (RD_t 5 Z kR Z (fun _ hK => v_not Z) (vM 6 Z Z ?_)))
   refine RD_case (t := 16) Z ?_ ?_
   ·intro hc6
    try simp only [nrm] at hc6
    refine RD_pass 7 Z kR kR kR Z (yl_ne Z Z Z) (RD_pass 8 Z kR kR kR Z (yl_ne Z Z Z) (RD_pass 9 Z kR kR kR Z (yl_ne Z Z Z) (RD_pass 10 Z kR kR kR Z (yl_un Z Z) (RD_pass 11 Z kR kR kR Z (yl_un Z Z) (RD_pass 12 Z kR kR kR Z (yl_un Z Z) (RD_pass 13 Z kR kR kR Z (yl_un Z Z) (RD_pass 14 Z kR kR kR Z (yl_un Z Z) (RD_pass 15 Z kR kR kR Z (yl_un Z Z) (RD_pass 16 Z kR kR kR Z (yl_un Z Z) (RD_pass 17 Z kR kR kR Z (yl_un Z Z) (RD_pass 18 Z kR kR kR Z (yl_un Z Z) (RD_pass 19 Z kR kR kR Z (yl_un Z Z) (RD_pass 20 Z kR kR kR Z (yl_un Z Z) (RD_pass 21 Z kR kR kR Z (yl_un Z Z) (RD_pass 22 Z kR kR kR Z (yl_ne Z Z Z) ?_)))))))))))))))
    refine RD_t 23 Z kR Z (fun _ hK => v_pick_t Z Z) (vM 24 Z Z (RD_pass 25 Z kR kR kR Z (yl_ne Z Z Z) (RD_pass 26 Z kR kR kR Z (yl_ne Z Z Z) (RD_pass 27 Z kR kR kR Z (yl_ne Z Z Z) (RD_pass 28 Z kR kR kR Z (yl_ne Z Z Z) (RD_pass 29 Z kR kR kR Z (yl_ne Z Z Z) (RD_pass 30 Z kR kR kR Z (yl_ne Z Z Z) (RD_pass 31 Z kR kR kR Z (yl_ne Z Z Z) (RD_pass 32 Z kR kR kR Z (yl_ne Z Z Z) (RD_t 33 Z kR Z (fun _ hK => v_pick_t Z Z) (RD_done kR (N_K (W_true Z (q2 (aG Z ?_)))))))))))))))
    refine q3 (W_ret (N_B_ret (N_K_ret (N_LP_ret (N_B_ret (N_K_ret (rt1 results54 Z ?_)))))))
    exact H.rets (congrArg Value.bool (by rw [Sp.TreeValid, Sp.not_all_range (k := k) oM (by rw [Sp.okT_at hz4]; simp [Sp.prevLt, *])]; rfl))
   intro hc6'
   try simp only [nrm] at hc6'
   refine RD_tg 7 Z kR Z (yl Z Z) (fun _ hK => v_move Z) (RD_tg 8 Z kR Z (yl Z Z) (fun _ hK => v_gtr Z Z) (RD_tg 9 Z kR Z (yl Z Z) (fun _ hK => v_move Z) ?_))
   refine RD_case (t := 19) Z ?_ ?_
   ·intro hc7
    try simp only [nrm] at hc7
    have hk0 : k ≠ 0 := by omega
    refine RD_tg 10 Z kR Z (yl Z Z) (fun _ hK => v_move Z) (RD_tg 11 Z kR Z (yl Z Z) (fun _ hK => v_move Z) (RD_tg 12 Z kR Z (yl Z Z) (fun _ hK => v_sub Z Z oO) ?_))
    have hl9 := hlist.len
    obtain ⟨b9, o9, z9, q9, ha9, hz9, hq9, hE9, hrow9, _⟩ := hlist.at (i := (k - 1)) oM
    clear hq9
    obtain ⟨a9, m9, c9, rfl, hi9, hr9⟩ := hE9; have hy_hi9 : _ ≤ 16777216 := hi9; have hn_hr9 := hr9.len; have hx_hr9 : _ ≤ 1099511627776 := hr9.lim
    refine RD_tg 13 Z kR Z (yl Z Z) (fun _ hK => v_index_P (i := (k - 1)) ha9 underlying24 sizeOf40 Z Z oM oM) (RD_tg 14 Z kR Z (yl Z Z) (fun _ hK => v_fieldAddr 0 runUnderlying40 Z sizeOf9 Z Z) (RD_tg 15 Z kR Z (yl Z Z) (fun _ hK => v_load_P hK isAgg9 Z (hrow9 0 _ Z)) (RD_tg 16 Z kR Z (yl Z Z) (fun _ hK => v_move Z) (RD_tg 17 Z kR Z (yl Z Z) (fun _ hK => v_move Z) ?_))))
    have hl10 := hlist.len
    obtain ⟨b10, o10, z10, q10, ha10, hz10, hq10, hE10, hrow10, _⟩ := hlist.at (i := k) oM
    clear hq10
    obtain ⟨a10, m10, c10, rfl, hi10, hr10⟩ := hE10; have hy_hi10 : _ ≤ 16777216 := hi10; have hn_hr10 := hr10.len; have hx_hr10 : _ ≤ 1099511627776 := hr10.lim
    have hzz10 : z4 = z10 := Option.some.inj (hz4.symm.trans hz10)
    subst hzz10
    refine RD_tg 18 Z kR Z (yl Z Z) (fun _ hK => v_index_P (i := k) ha10 underlying24 sizeOf40 Z Z Z oM) (RD_tg 19 Z kR Z (yl Z Z) (fun _ hK => v_fieldAddr 0 runUnderlying40 Z sizeOf9 Z Z) (RD_tg 20 Z kR Z (yl Z Z) (fun _ hK => v_load_P hK isAgg9 Z (hrow10 0 _ Z)) (RD_tg 21 Z kR Z (yl Z Z) (fun _ hK => v_sgeq Z Z) (RD_tg 22 Z kR Z (yl Z Z) (fun _ hK => v_pick_t Z Z) (RD_t 23 Z kR Z (fun _ hK => v_pick_f Z Z) (vM 24 Z Z ?_))))))
    refine RD_case (t := 34) Z ?_ ?_
    ·intro hc11
     try simp only [nrm] at hc11
     refine RD_pass 25 Z kR kR kR Z (yl_ne Z Z Z) (RD_pass 26 Z kR kR kR Z (yl_ne Z Z Z) (RD_pass 27 Z kR kR kR Z (yl_ne Z Z Z) (RD_pass 28 Z kR kR kR Z (yl_ne Z Z Z) (RD_pass 29 Z kR kR kR Z (yl_ne Z Z Z) (RD_pass 30 Z kR kR kR Z (yl_ne Z Z Z) (RD_pass 31 Z kR kR kR Z (yl_ne Z Z Z) (RD_pass 32 Z kR kR kR Z (yl_ne Z Z Z) (RD_t 33 Z kR Z (fun _ hK => v_pick_t Z Z) (RD_done kR (N_K (W_true Z (q2 (aG Z (q3 (W_ret ?_)))))))))))))))
     refine N_B_ret (N_K_ret (N_LP_ret (N_B_ret (N_K_ret (rt1 results54 Z ?_)))))
     exact H.rets (congrArg Value.bool (by rw [Sp.TreeValid, Sp.not_all_range (k := k) oM (by rw [Sp.okT_at hz4]; simp [Sp.prevLt, *])]; rfl))
    intro hc11'
    try simp only [nrm] at hc11'
    refine RD_tg 25 Z kR Z (yl Z Z) (fun _ hK => v_move Z) (RD_tg 26 Z kR Z (yl Z Z) (fun _ hK => v_move Z) (RD_tg 27 Z kR Z (yl Z Z) (fun _ hK => v_move Z) ?_))
    have hl12 := hlist.len
    obtain ⟨b12, o12, z12, q12, ha12, hz12, hq12, hE12, hrow12, _⟩ := hlist.at (i := k) oM
    clear hq12
    obtain ⟨a12, m12, c12, rfl, hi12, hr12⟩ := hE12; have hy_hi12 : _ ≤ 16777216 := hi12; have hn_hr12 := hr12.len; have hx_hr12 : _ ≤ 1099511627776 := hr12.lim
    have hzz12 : z4 = z12 := Option.some.inj (hz4.symm.trans hz12)
    subst hzz12
    refine RD_tg 28 Z kR Z (yl Z Z) (fun _ hK => v_index_P (i := k) ha12 underlying24 sizeOf40 Z Z Z oM) (RD_tg 29 Z kR Z (yl Z Z) (fun _ hK => v_fieldAddr 0 runUnderlying40 Z sizeOf9 Z Z) (RD_tg 30 Z kR Z (yl Z Z) (fun _ hK => v_load_P hK isAgg9 Z (hrow12 0 _ Z)) ?_))
    refine RD_run [31] kR Z (RDs.cons Z ?_ RDs.nil)
    refine gR Z (o_call call90 Z Z (l5Home_c _ _ H.sub _ _ hlist _ hi12 ) ?_)
    rintro _ w13 ⟨rfl, ew13⟩; have H := H.step ew13; refine ⟨_, rfl, ?_⟩
    refine R_nil (N_DK (Kn.of' H hd3 SubL.nil) (RD_tg 32 Z kR Z (yl Z Z) (fun _ hK => v_not Z) (RD_t 33 Z kR Z (fun _ hK => v_pick_f Z Z) (RD_done kR (N_K ?_)))))
    refine W_cond Z ?_ ?_
    ·intro hc14
     try simp only [nrm] at hc14
     refine q2 (aG Z (q3 (W_ret (N_B_ret (N_K_ret (N_LP_ret (N_B_ret (N_K_ret (rt1 results54 Z ?_)))))))))
     exact H.rets (congrArg Value.bool (by rw [Sp.TreeValid, Sp.not_all_range (k := k) oM (by rw [Sp.okT_at hz4]; simp [Sp.prevLt, *])]; rfl))
    intro hc14'
    try simp only [nrm] at hc14'
    refine W_skip (N_B (N_K (W_region (mV Z (o_add Z Z Z oO (aG Z (R_nil ?_)))))))
    refine N_lp (hJ := ⟨k + 1, _, Z, hle1, H, ?inv, Z⟩) (hm := ?hm)
    case hm => omega
    case inv => exact ⟨by omega, Sp.upto_succ hall (by rw [Sp.okT_at hz4]; simp [Sp.prevLt, *])⟩
   intro hc7'
   try simp only [nrm] at hc7'
   have hk0 : k = 0 := by omega
   refine RD_pass 10 Z kR kR kR Z (yl_ne Z Z Z) (RD_pass 11 Z kR kR kR Z (yl_ne Z Z Z) (RD_pass 12 Z kR kR kR Z (yl_ne Z Z Z) (RD_pass 13 Z kR kR kR Z (yl_ne Z Z Z) (RD_pass 14 Z kR kR kR Z (yl_ne Z Z Z) (RD_pass 15 Z kR kR kR Z (yl_ne Z Z Z) (RD_pass 16 Z kR kR kR Z (yl_ne Z Z Z) (RD_pass 17 Z kR kR kR Z (yl_ne Z Z Z) (RD_pass 18 Z kR kR kR Z (yl_ne Z Z Z) (RD_pass 19 Z kR kR kR Z (yl_ne Z Z Z) (RD_pass 20 Z kR kR kR Z (yl_ne Z Z Z) (RD_pass 21 Z kR kR kR Z (yl_ne Z Z Z) (RD_tg 22 Z kR Z (yl Z Z) (fun _ hK => v_pick_f Z Z) (RD_t 23 Z kR Z (fun _ hK => v_pick_f Z Z) (vM 24 Z Z (RD_tg 25 Z kR Z (yl Z Z) (fun _ hK => v_move Z) ?_)))))))))))))))
   refine RD_tg 26 Z kR Z (yl Z Z) (fun _ hK => v_move Z) (RD_tg 27 Z kR Z (yl Z Z) (fun _ hK => v_move Z) ?_)
   have hl16 := hlist.len
   obtain ⟨b16, o16, z16, q16, ha16, hz16, hq16, hE16, hrow16, _⟩ := hlist.at (i := k) oM
   clear hq16
   obtain ⟨a16, m16, c16, rfl, hi16, hr16⟩ := hE16; have hy_hi16 : _ ≤ 16777216 := hi16; have hn_hr16 := hr16.len; have hx_hr16 : _ ≤ 1099511627776 := hr16.lim
   have hzz16 : z4 = z16 := Option.some.inj (hz4.symm.trans hz16)
   subst hzz16
   refine RD_tg 28 Z kR Z (yl Z Z) (fun _ hK => v_index_P (i := k) ha16 underlying24 sizeOf40 Z Z Z oM) (RD_tg 29 Z kR Z (yl Z Z) (fun _ hK => v_fieldAddr 0 runUnderlying40 Z sizeOf9 Z Z) (RD_tg 30 Z kR Z (yl Z Z) (fun _ hK => v_load_P hK isAgg9 Z (hrow16 0 _ Z)) ?_))
   refine RD_run [31] kR Z (RDs.cons Z ?_ RDs.nil)
   refine gR Z (o_call call90 Z Z (l5Home_c _ _ H.sub _ _ hlist _ hi16 ) ?_)
   rintro _ w17 ⟨rfl, ew17⟩; have H := H.step ew17; refine ⟨_, rfl, ?_⟩
   refine R_nil (N_DK (Kn.of' H hd3 SubL.nil) (RD_tg 32 Z kR Z (yl Z Z) (fun _ hK => v_not Z) (RD_t 33 Z kR Z (fun _ hK => v_pick_f Z Z) (RD_done kR (N_K ?_)))))
   refine W_cond Z ?_ ?_
   ·intro hc18
    try simp only [nrm] at hc18
    refine q2 (aG Z (q3 (W_ret (N_B_ret (N_K_ret (N_LP_ret (N_B_ret (N_K_ret (rt1 results54 Z ?_)))))))))
    exact H.rets (congrArg Value.bool (by rw [Sp.TreeValid, Sp.not_all_range (k := k) oM (by rw [Sp.okT_at hz4]; simp [Sp.prevLt, *])]; rfl))
   intro hc18'
   try simp only [nrm] at hc18'
   refine W_skip (N_B (N_K (W_region (mV Z (o_add Z Z Z oO (aG Z (R_nil ?_)))))))
   refine N_lp (hJ := ⟨k + 1, _, Z, hle1, H, ?inv, Z⟩) (hm := ?hm)
   case hm => omega
   case inv => exact ⟨by omega, Sp.upto_succ hall (by rw [Sp.okT_at hz4]; simp [Sp.prevLt, *])⟩
  intro hc2'
  try simp only [nrm] at hc2'
  refine W_exit (N_K_exit (N_LP_exit (N_B_same (N_K (q2 (mV Z (o_len_slice underlying24 Z Z (o_leq Z Z Z (aG Z (q3 (W_ret (rt1 results54 Z ?_))))))))))))
  exact H.rets (congrArg Value.bool (by rw [Sp.TreeValid, Sp.all_range (fun j hj => hall j oM), Bool.true_and]; rw [Bool.eq_iff_iff]; simp; omega))
theorem l2Same_c (w0 : World) (G0 : PH) (hG : PSub G0 w0) (va : Value) (a : List (Int)) (ha : RdI G0 va a) (vb : Value) (b : List (Int)) (hb : RdI G0 vb b)  :
  Calls Tryz.prog 88 #[va, vb] w0 (Rets w0 (.bool (Sp.l2Same a b))) := by
 obtain ⟨aa, ka, rfl⟩ := ha.shape
 have hlima : a.length ≤ 1099511627776 := ha.lim
 obtain ⟨ab, kb, rfl⟩ := hb.shape
 have hlimb : b.length ≤ 1099511627776 := hb.lim
 have H := Hp.init hG
 refine calls_of_W (l := [.slice aa a.length ka, .slice ab b.length kb]) func88 Z ntmps88 Z (q2 (aG Z (q3 (W_seq (q2 (mV Z (o_len_slice underlying38 Z Z (mV Z (o_len_slice underlying38 Z Z (o_neq Z Z Z (q3 ?_)))))))))))
 refine W_cond Z ?_ ?_
 ·intro hc1
  try simp only [nrm] at hc1
  refine q2 (aG Z (q3 (W_ret (N_K_ret (rt1 results88 Z ?_)))))
  exact H.rets (congrArg Value.bool (by unfold Sp.l2Same; exact Sp.ne_len oM))
 intro hc1'
 try simp only [nrm] at hc1'
 refine W_skip (N_K (W_seq (q2 (aG Z (q3 (W_block ?_))))))
 refine W_lp (hf := (Sub.cons (t := 0) Z (Sub.cons (t := 1) Z Sub.nil))) (J := fun M w m => ∃ (k : Nat) (G : PH), M = [(5, .int .i64 (k : Int))] ∧ PLe G0 G ∧ Hp w0 G0 [] w G [] ∧ (k ≤ a.length ∧ a.take k = b.take k) ∧ m = (a.length - k)) (h0 := ⟨0, _, Z, PLe.refl _, H, ?inv, Z⟩) (round := ?round)
 case inv => exact ⟨by omega, by simp⟩
 case round =>
  rintro _ w2 _ ⟨k, G2, rfl, hle2, H, hinv2, rfl⟩
  have ha := ha.up hle2
  have hb := hb.up hle2
  obtain ⟨hk, hall⟩ := hinv2
  refine W_seq (q2 (mV Z (mV Z (o_len_slice underlying38 Z Z (o_lss Z Z Z (q3 ?_))))))
  refine W_cond Z ?_ ?_
  ·intro hc3
   try simp only [nrm] at hc3
   refine W_skip (N_K (W_seq (W_block (W_seq (W_drawK [] 9 H kR Z ?_))))); intro w4 H; have hd4 := PLe.refl G2
   refine vM 0 Z Z (vM 1 Z Z ?_)
   have hl5 := ha.len
   obtain ⟨b5, o5, z5, q5, ha5, hz5, hq5, hE5, hrow5, _⟩ := ha.at (i := k) oM
   clear hq5
   obtain ⟨rfl, hi5⟩ := hE5
   refine RD_t 2 Z kR Z (fun _ hK => v_index_P (i := k) ha5 underlying38 sizeOf3 Z Z Z oM) (RD_t 3 Z kR Z (fun _ hK => v_load_P hK isAgg3 Z (hrow5 0 _ Z)) (vM 4 Z Z (vM 5 Z Z ?_)))
   have hl6 := hb.len
   obtain ⟨b6, o6, z6, q6, ha6, hz6, hq6, hE6, hrow6, _⟩ := hb.at (i := k) oM
   clear hq6
   obtain ⟨rfl, hi6⟩ := hE6
   refine RD_t 6 Z kR Z (fun _ hK => v_index_P (i := k) ha6 underlying38 sizeOf3 Z Z Z oM) (RD_t 7 Z kR Z (fun _ hK => v_load_P hK isAgg3 Z (hrow6 0 _ Z)) (RD_t 8 Z kR Z (fun _ hK => v_neq Z Z) (RD_done kR (N_K ?_))))
   refine W_cond Z ?_ ?_
   ·intro hc7
    try simp only [nrm] at hc7
    refine q2 (aG Z (q3 (W_ret (N_B_ret (N_K_ret (N_LP_ret (N_B_ret (N_K_ret (rt1 results88 Z ?_)))))))))
    exact H.rets (congrArg Value.bool (by unfold Sp.l2Same; exact Sp.ne_at hz5 hz6 oM))
   intro hc7'
   try simp only [nrm] at hc7'
   refine W_skip (N_B (N_K (W_region (mV Z (o_add Z Z Z oO (aG Z (R_nil ?_)))))))
   refine N_lp (hJ := ⟨k + 1, _, Z, hle2, H, ?inv, Z⟩) (hm := ?hm)
   case hm => omega
   case inv => exact ⟨by omega, Sp.take_eq hall hz5 (by rw [hz6]; congr 1; omega)⟩
  intro hc3'
  try simp only [nrm] at hc3'
  refine W_exit (N_K_exit (N_LP_exit (N_B_same (N_K (q2 (aG Z (q3 (W_ret (rt1 results88 Z ?_)))))))))
  exact H.rets (congrArg Value.bool (by unfold Sp.l2Same; exact Sp.eq_all hall oM oM))
theorem BlockValid_c (w0 : World) (G0 : PH) (hG : PSub G0 w0) (vbytes : Value) (bytes : List (Int)) (hbytes : RdI G0 vbytes bytes)  :
  Calls Tryz.prog 87 #[vbytes] w0 (Rets w0 (.bool (Sp.BlockValid bytes))) := by
 obtain ⟨abytes, kbytes, rfl⟩ := hbytes.shape
 have hlimbytes : bytes.length ≤ 1099511627776 := hbytes.lim
 have H := Hp.init hG
 refine calls_of_W (l := [.slice abytes bytes.length kbytes]) func87 Z ntmps87 Z (q2 (aG Z (q3 (W_seq (q2 (aG Z (q3 (W_block ?_))))))))
 refine W_lp (hf := (Sub.cons (t := 0) Z Sub.nil)) (J := fun M w m => ∃ (k : Nat) (G : PH), M = [(3, .int .i64 (k : Int))] ∧ PLe G0 G ∧ Hp w0 G0 [] w G [] ∧ (k ≤ bytes.length ∧ (bytes.take k).all Sp.byteOk = true) ∧ m = (bytes.length - k)) (h0 := ⟨0, _, Z, PLe.refl _, H, ?inv, Z⟩) (round := ?round)
 case inv => exact ⟨by omega, by simp⟩
 case round =>
  rintro _ w1 _ ⟨k, G1, rfl, hle1, H, hinv1, rfl⟩
  have hbytes := hbytes.up hle1
  obtain ⟨hk, hall⟩ := hinv1
  refine W_seq (q2 (mV Z (mV Z (o_len_slice underlying38 Z Z (o_lss Z Z Z (q3 ?_))))))
  refine W_cond Z ?_ ?_
  ·intro hc2
   try simp only [nrm] at hc2
   refine W_skip (N_K (W_seq (W_block (q2 (mV Z (mV Z (o_index_P k hbytes underlying38 sizeOf3 Z Z Z Z aN ?_))))))); intro b3 o3 z3 q3 hz3 hE3 hrow3
   obtain ⟨rfl, hi3⟩ := hE3
   refine o_load_P H isAgg3 Z Z (hrow3 0 _ Z) (o_call call78 Z Z (l6In_c _ _ _ _ ) ?_)
   rintro _ w4 ⟨rfl, ew4⟩; have H := H.step ew4; refine ⟨_, rfl, ?_⟩
   refine o_not Z Z (q3 ?_)
   refine W_cond Z ?_ ?_
   ·intro hc5
    try simp only [nrm] at hc5
    refine q2 (aG Z (q3 (W_ret (N_B_ret (N_K_ret (N_LP_ret (N_B_ret (N_K_ret (rt1 results87 Z ?_)))))))))
    exact H.rets (congrArg Value.bool (by rw [Sp.BlockValid, Sp.all_false hz3 (by simp [Sp.byteOk, *])]; rfl))
   intro hc5'
   try simp only [nrm] at hc5'
   refine W_skip (N_B (N_K (W_region (mV Z (o_add Z Z Z oO (aG Z (R_nil ?_)))))))
   refine N_lp (hJ := ⟨k + 1, _, Z, hle1, H, ?inv, Z⟩) (hm := ?hm)
   case hm => omega
   case inv => exact ⟨by omega, Sp.all_take hall hz3 (by simp [Sp.byteOk, *])⟩
  intro hc2'
  try simp only [nrm] at hc2'
  refine W_exit (N_K_exit (N_LP_exit (N_B_same (N_K (q2 (mV Z (o_len_slice underlying38 Z Z (o_call call78 Z Z (l6In_c _ _ _ _ ) ?_))))))))
  rintro _ w7 ⟨rfl, ew7⟩; have H := H.step ew7; refine ⟨_, rfl, ?_⟩
  refine aG Z (q3 (W_ret (rt1 results87 Z ?_)))
  obtain rfl : k = bytes.length := by omega
  rw [List.take_length] at hall
  exact H.rets (congrArg Value.bool (by simp only [Sp.BlockValid, hall, Bool.true_and]))
theorem FileValid_c (w0 : World) (G0 : PH) (hG : PSub G0 w0) (vbytes : Value) (bytes : List (Int)) (hbytes : RdI G0 vbytes bytes)  :
  Calls Tryz.prog 130 #[vbytes] w0 (Rets w0 (.bool (Sp.FileValid bytes))) := by
 obtain ⟨abytes, kbytes, rfl⟩ := hbytes.shape
 have hlimbytes : bytes.length ≤ 1099511627776 := hbytes.lim
 have H := Hp.init hG
 refine calls_of_W (l := [.slice abytes bytes.length kbytes]) func130 Z ntmps130 Z (q2 (aG Z (q3 (W_seq (q2 (aG Z (q3 (W_block ?_))))))))
 refine W_lp (hf := (Sub.cons (t := 0) Z Sub.nil)) (J := fun M w m => ∃ (k : Nat) (G : PH), M = [(3, .int .i64 (k : Int))] ∧ PLe G0 G ∧ Hp w0 G0 [] w G [] ∧ (k ≤ bytes.length ∧ (bytes.take k).all Sp.byteOk = true) ∧ m = (bytes.length - k)) (h0 := ⟨0, _, Z, PLe.refl _, H, ?inv, Z⟩) (round := ?round)
 case inv => exact ⟨by omega, by simp⟩
 case round =>
  rintro _ w1 _ ⟨k, G1, rfl, hle1, H, hinv1, rfl⟩
  have hbytes := hbytes.up hle1
  obtain ⟨hk, hall⟩ := hinv1
  refine W_seq (q2 (mV Z (mV Z (o_len_slice underlying38 Z Z (o_lss Z Z Z (q3 ?_))))))
  refine W_cond Z ?_ ?_
  ·intro hc2
   try simp only [nrm] at hc2
   refine W_skip (N_K (W_seq (W_block (q2 (mV Z (mV Z (o_index_P k hbytes underlying38 sizeOf3 Z Z Z Z aN ?_))))))); intro b3 o3 z3 q3 hz3 hE3 hrow3
   obtain ⟨rfl, hi3⟩ := hE3
   refine o_load_P H isAgg3 Z Z (hrow3 0 _ Z) (o_call call78 Z Z (l6In_c _ _ _ _ ) ?_)
   rintro _ w4 ⟨rfl, ew4⟩; have H := H.step ew4; refine ⟨_, rfl, ?_⟩
   refine o_not Z Z (q3 ?_)
   refine W_cond Z ?_ ?_
   ·intro hc5
    try simp only [nrm] at hc5
    refine q2 (aG Z (q3 (W_ret (N_B_ret (N_K_ret (N_LP_ret (N_B_ret (N_K_ret (rt1 results130 Z ?_)))))))))
    exact H.rets (congrArg Value.bool (by rw [Sp.FileValid, Sp.all_false hz3 (by simp [Sp.byteOk, *])]; rfl))
   intro hc5'
   try simp only [nrm] at hc5'
   refine W_skip (N_B (N_K (W_region (mV Z (o_add Z Z Z oO (aG Z (R_nil ?_)))))))
   refine N_lp (hJ := ⟨k + 1, _, Z, hle1, H, ?inv, Z⟩) (hm := ?hm)
   case hm => omega
   case inv => exact ⟨by omega, Sp.all_take hall hz3 (by simp [Sp.byteOk, *])⟩
  intro hc2'
  try simp only [nrm] at hc2'
  refine W_exit (N_K_exit (N_LP_exit (N_B_same (N_K (q2 (mV Z (o_len_slice underlying38 Z Z (o_leq Z Z Z (aG Z (q3 (W_ret (rt1 results130 Z ?_))))))))))))
  obtain rfl : k = bytes.length := by omega
  rw [List.take_length] at hall
  exact H.rets (congrArg Value.bool (by simp only [Sp.FileValid, hall, Bool.true_and]; rw [Bool.eq_iff_iff]; simp; omega))
theorem StoreValid_c (w0 : World) (G0 : PH) (hG : PSub G0 w0) (vlist : Value) (list : List (BHeld)) (hlist : RdH G0 vlist list)  :
  Calls Tryz.prog 53 #[vlist] w0 (Rets w0 (.bool (Sp.StoreValid list))) := by
 obtain ⟨alist, klist, rfl⟩ := hlist.shape
 have hlimlist : list.length ≤ 1099511627776 := hlist.lim
 have H := Hp.init hG
 refine calls_of_W (l := [.slice alist list.length klist]) func53 Z ntmps53 Z (q2 (aG Z (q3 (W_seq (q2 (aG Z (q3 (W_block ?_))))))))
 refine W_lp (hf := (Sub.cons (t := 0) Z Sub.nil)) (J := fun M w m => ∃ (k : Nat) (G : PH), M = [(3, .int .i64 (k : Int))] ∧ PLe G0 G ∧ Hp w0 G0 [] w G [] ∧ (k ≤ list.length ∧ ∀ j, j < k → Sp.okH list j = true) ∧ m = (list.length - k)) (h0 := ⟨0, _, Z, PLe.refl _, H, ?inv, Z⟩) (round := ?round)
 case inv => exact ⟨by omega, fun j hj => by omega⟩
 case round =>
  rintro _ w1 _ ⟨k, G1, rfl, hle1, H, hinv1, rfl⟩
  have hlist := hlist.up hle1
  obtain ⟨hk, hall⟩ := hinv1
  refine W_seq (q2 (mV Z (mV Z (o_len_slice underlying23 Z Z (o_lss Z Z Z (q3 ?_))))))
  refine W_cond Z ?_ ?_
  ·intro hc2
   try simp only [nrm] at hc2
   refine W_skip (N_K (W_seq (W_block (q2 (mV Z (mV Z (o_index_P k hlist underlying23 sizeOf42 Z Z Z Z aN ?_))))))); intro b3 o3 z3 q3 hz3 hE3 hrow3
   obtain ⟨a3, m3, c3, rfl, hi3, hr3, hj3⟩ := hE3; have hn_hr3 := hr3.len; have hx_hr3 : _ ≤ 1099511627776 := hr3.lim
   refine o_loadagg_P H isAgg42 sizeOf42 Z Z hrow3 Z (o_alloc H zeroValue42 Z Z ?_); intro b4 w4 hb4 H
   refine o_store_B 0 H sizeOf42 Z Z Z Z Z Z Z Z ?_; intro w5 H
   refine q3 (W_seq (W_seq (W_drawK [0] 31 H kR Z ?_))); intro w6 H; have hd6 := PLe.refl G1
   refine RD_t 0 Z kR Z (fun _ hK => v_fieldAddr 0 runUnderlying42 Z sizeOf3 Z Z) (RD_t 1 Z kR Z (fun _ hK => v_load_B 0 hK isAgg3 Z Z Z) ?_)
   refine RD_run [2] kR Z (RDs.cons Z ?_ RDs.nil)
   refine o_call call78 Z Z (l6In_c _ _ _ _ ) ?_
   rintro _ w7 ⟨rfl, ew7⟩; have H := H.step ew7; refine ⟨_, rfl, ?_⟩
   refine R_nil (N_DK (Kn.of' H hd6 (SubL.cons 0 Z SubL.nil)) (RD_t 3 Z kR Z (fun _ hK => v_not Z) (vM 4 Z Z ?_)))
   refine RD_case (t := 20) Z ?_ ?_
   ·intro hc8
    try simp only [nrm] at hc8
    refine RD_pass 5 Z kR kR kR Z (yl_ne Z Z Z) (RD_pass 6 Z kR kR kR Z (yl_ne Z Z Z) (RD_pass 7 Z kR kR kR Z (yl_ne Z Z Z) (RD_pass 8 Z kR kR kR Z (yl_ne Z Z Z) (RD_t 9 Z kR Z (fun _ hK => v_pick_t Z Z) (vM 10 Z Z (RD_pass 11 Z kR kR kR Z (yl_ne Z Z Z) (RD_pass 12 Z kR kR kR Z (yl_ne Z Z Z) (RD_pass 13 Z kR kR kR Z (yl_ne Z Z Z) (RD_pass 14 Z kR kR kR Z (yl_ne Z Z Z) (RD_t 15 Z kR Z (fun _ hK => v_pick_t Z Z) (vM 16 Z Z (RD_pass 17 Z kR kR kR Z (yl_ne Z Z Z) (RD_pass 18 Z kR kR kR Z (yl_ne Z Z Z) (RD_pass 19 Z kR kR kR Z (yl_ne Z Z Z) (RD_pass 20 Z kR kR kR Z (yl_un Z Z) ?_)))))))))))))))
    refine RD_pass 21 Z kR kR kR Z (yl_un Z Z) (RD_pass 22 Z kR kR kR Z (yl_un Z Z) (RD_pass 23 Z kR kR kR Z (yl_un Z Z) (RD_pass 24 Z kR kR kR Z (yl_un Z Z) (RD_pass 25 Z kR kR kR Z (yl_un Z Z) (RD_pass 26 Z kR kR kR Z (yl_un Z Z) (RD_pass 27 Z kR kR kR Z (yl_un Z Z) (RD_pass 28 Z kR kR kR Z (yl_un Z Z) (RD_pass 29 Z kR kR kR Z (yl_ne Z Z Z) (RD_t 30 Z kR Z (fun _ hK => v_pick_t Z Z) (RD_done kR (N_K (W_true Z (q2 (aG Z (q3 ?_)))))))))))))))
    refine W_ret (N_K_ret (N_B_ret (N_K_ret (N_LP_ret (N_B_ret (N_K_ret (rt1 results53 Z ?_)))))))
    exact H.rets (congrArg Value.bool (by rw [Sp.StoreValid, Sp.not_all_range (k := k) oM (by rw [Sp.okH_at hz3]; simp [Sp.prevId, *])]; rfl))
   intro hc8'
   try simp only [nrm] at hc8'
   refine RD_tg 5 Z kR Z (yl Z Z) (fun _ hK => v_fieldAddr 1 runUnderlying42 Z sizeOf38 Z Z) (RD_tg 6 Z kR Z (yl Z Z) (fun _ hK => v_load_B 0 hK isAgg38 Z Z Z) ?_)
   refine RD_run [7] kR Z (RDs.cons Z ?_ RDs.nil)
   refine gR Z (o_call call87 Z Z (BlockValid_c _ _ H.sub _ _ hr3 ) ?_)
   rintro _ w9 ⟨rfl, ew9⟩; have H := H.step ew9; refine ⟨_, rfl, ?_⟩
   refine R_nil (N_DK (Kn.of' H hd6 (SubL.cons 0 Z SubL.nil)) (RD_tg 8 Z kR Z (yl Z Z) (fun _ hK => v_not Z) (RD_t 9 Z kR Z (fun _ hK => v_pick_f Z Z) (vM 10 Z Z ?_))))
   refine RD_case (t := 26) Z ?_ ?_
   ·intro hc10
    try simp only [nrm] at hc10
    refine RD_pass 11 Z kR kR kR Z (yl_ne Z Z Z) (RD_pass 12 Z kR kR kR Z (yl_ne Z Z Z) (RD_pass 13 Z kR kR kR Z (yl_ne Z Z Z) (RD_pass 14 Z kR kR kR Z (yl_ne Z Z Z) (RD_t 15 Z kR Z (fun _ hK => v_pick_t Z Z) (vM 16 Z Z (RD_pass 17 Z kR kR kR Z (yl_ne Z Z Z) (RD_pass 18 Z kR kR kR Z (yl_ne Z Z Z) (RD_pass 19 Z kR kR kR Z (yl_ne Z Z Z) (RD_pass 20 Z kR kR kR Z (yl_un Z Z) (RD_pass 21 Z kR kR kR Z (yl_un Z Z) (RD_pass 22 Z kR kR kR Z (yl_un Z Z) (RD_pass 23 Z kR kR kR Z (yl_un Z Z) (RD_pass 24 Z kR kR kR Z (yl_un Z Z) (RD_pass 25 Z kR kR kR Z (yl_un Z Z) (RD_pass 26 Z kR kR kR Z (yl_un Z Z) ?_)))))))))))))))
    refine RD_pass 27 Z kR kR kR Z (yl_un Z Z) (RD_pass 28 Z kR kR kR Z (yl_un Z Z) (RD_pass 29 Z kR kR kR Z (yl_ne Z Z Z) (RD_t 30 Z kR Z (fun _ hK => v_pick_t Z Z) (RD_done kR (N_K (W_true Z (q2 (aG Z (q3 (W_ret (N_K_ret (N_B_ret (N_K_ret (N_LP_ret (N_B_ret ?_)))))))))))))))
    refine N_K_ret (rt1 results53 Z ?_)
    exact H.rets (congrArg Value.bool (by rw [Sp.StoreValid, Sp.not_all_range (k := k) oM (by rw [Sp.okH_at hz3]; simp [Sp.prevId, *])]; rfl))
   intro hc10'
   try simp only [nrm] at hc10'
   refine RD_tg 11 Z kR Z (yl Z Z) (fun _ hK => v_fieldAddr 2 runUnderlying42 Z sizeOf3 Z Z) (RD_tg 12 Z kR Z (yl Z Z) (fun _ hK => v_load_B 0 hK isAgg3 Z Z Z) ?_)
   refine RD_run [13] kR Z (RDs.cons Z ?_ RDs.nil)
   refine gR Z (o_call call78 Z Z (l6In_c _ _ _ _ ) ?_)
   rintro _ w11 ⟨rfl, ew11⟩; have H := H.step ew11; refine ⟨_, rfl, ?_⟩
   refine R_nil (N_DK (Kn.of' H hd6 (SubL.cons 0 Z SubL.nil)) (RD_tg 14 Z kR Z (yl Z Z) (fun _ hK => v_not Z) (RD_t 15 Z kR Z (fun _ hK => v_pick_f Z Z) (vM 16 Z Z ?_))))
   refine RD_case (t := 32) Z ?_ ?_
   ·intro hc12
    try simp only [nrm] at hc12
    refine RD_pass 17 Z kR kR kR Z (yl_ne Z Z Z) (RD_pass 18 Z kR kR kR Z (yl_ne Z Z Z) (RD_pass 19 Z kR kR kR Z (yl_ne Z Z Z) (RD_pass 20 Z kR kR kR Z (yl_un Z Z) (RD_pass 21 Z kR kR kR Z (yl_un Z Z) (RD_pass 22 Z kR kR kR Z (yl_un Z Z) (RD_pass 23 Z kR kR kR Z (yl_un Z Z) (RD_pass 24 Z kR kR kR Z (yl_un Z Z) (RD_pass 25 Z kR kR kR Z (yl_un Z Z) (RD_pass 26 Z kR kR kR Z (yl_un Z Z) (RD_pass 27 Z kR kR kR Z (yl_un Z Z) (RD_pass 28 Z kR kR kR Z (yl_un Z Z) (RD_pass 29 Z kR kR kR Z (yl_ne Z Z Z) (RD_t 30 Z kR Z (fun _ hK => v_pick_t Z Z) (RD_done kR (N_K ?_)))))))))))))))
    refine W_true Z (q2 (aG Z (q3 (W_ret (N_K_ret (N_B_ret (N_K_ret (N_LP_ret (N_B_ret (N_K_ret (rt1 results53 Z ?_)))))))))))
    exact H.rets (congrArg Value.bool (by rw [Sp.StoreValid, Sp.not_all_range (k := k) oM (by rw [Sp.okH_at hz3]; simp [Sp.prevId, *])]; rfl))
   intro hc12'
   try simp only [nrm] at hc12'
   refine RD_tg 17 Z kR Z (yl Z Z) (fun _ hK => v_move Z) (RD_tg 18 Z kR Z (yl Z Z) (fun _ hK => v_gtr Z Z) (RD_tg 19 Z kR Z (yl Z Z) (fun _ hK => v_move Z) ?_))
   refine RD_case (t := 35) Z ?_ ?_
   ·intro hc13
    try simp only [nrm] at hc13
    have hk0 : k ≠ 0 := by omega
    refine RD_tg 20 Z kR Z (yl Z Z) (fun _ hK => v_move Z) (RD_tg 21 Z kR Z (yl Z Z) (fun _ hK => v_move Z) (RD_tg 22 Z kR Z (yl Z Z) (fun _ hK => v_sub Z Z oO) ?_))
    have hl15 := hlist.len
    obtain ⟨b15, o15, z15, q15, ha15, hz15, hq15, hE15, hrow15, _⟩ := hlist.at (i := (k - 1)) oM
    clear hq15
    obtain ⟨a15, m15, c15, rfl, hi15, hr15, hj15⟩ := hE15; have hn_hr15 := hr15.len; have hx_hr15 : _ ≤ 1099511627776 := hr15.lim
    refine RD_tg 23 Z kR Z (yl Z Z) (fun _ hK => v_index_P (i := (k - 1)) ha15 underlying23 sizeOf42 Z Z oM oM) (RD_tg 24 Z kR Z (yl Z Z) (fun _ hK => v_fieldAddr 0 runUnderlying42 Z sizeOf3 Z Z) (RD_tg 25 Z kR Z (yl Z Z) (fun _ hK => v_load_P hK isAgg3 Z (hrow15 0 _ Z)) (RD_tg 26 Z kR Z (yl Z Z) (fun _ hK => v_fieldAddr 0 runUnderlying42 Z sizeOf3 Z Z) (RD_tg 27 Z kR Z (yl Z Z) (fun _ hK => v_load_B 0 hK isAgg3 Z Z Z) (RD_tg 28 Z kR Z (yl Z Z) (fun _ hK => v_geq Z Z) (RD_tg 29 Z kR Z (yl Z Z) (fun _ hK => v_pick_t Z Z) (RD_t 30 Z kR Z (fun _ hK => v_pick_f Z Z) (RD_done kR (N_K ?_)))))))))
    refine W_cond Z ?_ ?_
    ·intro hc16
     try simp only [nrm] at hc16
     refine q2 (aG Z (q3 (W_ret (N_K_ret (N_B_ret (N_K_ret (N_LP_ret (N_B_ret (N_K_ret (rt1 results53 Z ?_))))))))))
     exact H.rets (congrArg Value.bool (by rw [Sp.StoreValid, Sp.not_all_range (k := k) oM (by rw [Sp.okH_at hz3]; simp [Sp.prevId, *]; intro h; omega)]; rfl))
    intro hc16'
    try simp only [nrm] at hc16'
    refine W_skip (N_K (q2 (aG Z (q3 (W_block ?_)))))
    obtain ⟨ln17, hln17, H⟩ := H.name (k := 0) rfl
    refine W_lp (hf := (Sub.cons (t := 0) Z (Sub.cons (t := 3) Z (Sub.cons (t := 4) Z Sub.nil)))) (J := fun M w m => ∃ (i : Nat) (G : PH), M = [(5, .int .i64 (i : Int))] ∧ PLe G1 G ∧ Hp w0 G0 [] w G [blk b4 (cl ln17 42)] ∧ (i ≤ k ∧ (list.take i).all (fun g => !Sp.l2Same g.bytes z3.bytes) = true) ∧ m = (k - i)) (h0 := ⟨0, _, Z, PLe.refl _, H, ?inv, Z⟩) (round := ?round)
    case inv => exact ⟨by omega, by simp⟩
    case round =>
     rintro _ w18 _ ⟨i, G18, rfl, hle18, H, hinv18, rfl⟩
     subst hln17
     have hlist := hlist.up hle18
     have hr3 := hr3.up hle18
     have hle1 := hle1.trans hle18
     obtain ⟨hi, hall2⟩ := hinv18
     refine W_seq (q2 (mV Z (mV Z (o_lss Z Z Z (q3 ?_)))))
     refine W_cond Z ?_ ?_
     ·intro hc19
      try simp only [nrm] at hc19
      refine W_skip (N_K (W_seq (W_block (W_seq (W_drawK [0] 8 H kR Z ?_))))); intro w20 H; have hd20 := PLe.refl G18
      refine vM 0 Z Z (vM 1 Z Z ?_)
      have hl21 := hlist.len
      obtain ⟨b21, o21, z21, q21, ha21, hz21, hq21, hE21, hrow21, _⟩ := hlist.at (i := i) oM
      clear hq21
      obtain ⟨a21, m21, c21, rfl, hi21, hr21, hj21⟩ := hE21; have hn_hr21 := hr21.len; have hx_hr21 : _ ≤ 1099511627776 := hr21.lim
      refine RD_t 2 Z kR Z (fun _ hK => v_index_P (i := i) ha21 underlying23 sizeOf42 Z Z Z oM) (RD_t 3 Z kR Z (fun _ hK => v_fieldAddr 1 runUnderlying42 Z sizeOf38 Z Z) (RD_t 4 Z kR Z (fun _ hK => v_load_P hK isAgg38 Z (hrow21 1 _ Z)) (RD_t 5 Z kR Z (fun _ hK => v_fieldAddr 1 runUnderlying42 Z sizeOf38 Z Z) (RD_t 6 Z kR Z (fun _ hK => v_load_B 0 hK isAgg38 Z Z Z) ?_))))
      refine RD_run [7] kR Z (RDs.cons Z ?_ RDs.nil)
      refine o_call call88 Z Z (l2Same_c _ _ H.sub _ _ hr21 _ _ hr3 ) ?_
      rintro _ w22 ⟨rfl, ew22⟩; have H := H.step ew22; refine ⟨_, rfl, ?_⟩
      refine R_nil (N_DK (Kn.of' H hd20 (SubL.cons 0 Z SubL.nil)) (RD_done kR (N_K ?_)))
      refine W_cond Z ?_ ?_
      ·intro hc23
       try simp only [nrm] at hc23
       refine q2 (aG Z (q3 (W_ret (N_B_ret (N_K_ret (N_LP_ret (N_B_ret (N_B_ret (N_K_ret (N_LP_ret (N_B_ret (N_K_ret (rt1 results53 Z ?_)))))))))))))
       exact H.rets (congrArg Value.bool (by rw [Sp.StoreValid, Sp.not_all_range (k := k) oM (by rw [Sp.okH_at hz3, Sp.all_false (l := list.take k) (k := i) (by rw [List.getElem?_take, if_pos oM]; exact hz21) (by simp [*])]; simp)]; rfl))
      intro hc23'
      try simp only [nrm] at hc23'
      refine W_skip (N_B (N_K (W_region (mV Z (o_add Z Z Z oO (aG Z (R_nil ?_)))))))
      refine N_lp (hJ := ⟨i + 1, _, Z, hle18, H, ?inv, Z⟩) (hm := ?hm)
      case hm => omega
      case inv => exact ⟨by omega, Sp.all_take hall2 hz21 (by simp [*])⟩
     intro hc19'
     try simp only [nrm] at hc19'
     refine W_exit (N_K_exit (N_LP_exit (N_B_same (N_B (N_K (W_region (mV Z (o_add Z Z Z oO (aG Z (R_nil ?_))))))))))
     have H := H.del (k := 0) rfl
     refine N_lp (hJ := ⟨k + 1, _, Z, hle1, H, ?inv, Z⟩) (hm := ?hm)
     case hm => omega
     case inv => exact ⟨by omega, Sp.upto_succ hall (by (obtain rfl : i = k := by omega); rw [Sp.okH_at hz3, hall2]; simp [Sp.prevId, *])⟩
   intro hc13'
   try simp only [nrm] at hc13'
   have hk0 : k = 0 := by omega
   refine RD_pass 20 Z kR kR kR Z (yl_ne Z Z Z) (RD_pass 21 Z kR kR kR Z (yl_ne Z Z Z) (RD_pass 22 Z kR kR kR Z (yl_ne Z Z Z) (RD_pass 23 Z kR kR kR Z (yl_ne Z Z Z) (RD_pass 24 Z kR kR kR Z (yl_ne Z Z Z) (RD_pass 25 Z kR kR kR Z (yl_ne Z Z Z) (RD_pass 26 Z kR kR kR Z (yl_ne Z Z Z) (RD_pass 27 Z kR kR kR Z (yl_ne Z Z Z) (RD_pass 28 Z kR kR kR Z (yl_ne Z Z Z) (RD_tg 29 Z kR Z (yl Z Z) (fun _ hK => v_pick_f Z Z) (RD_t 30 Z kR Z (fun _ hK => v_pick_f Z Z) (RD_done kR (N_K (W_false Z (W_skip (N_K ?_)))))))))))))))
   refine q2 (aG Z (q3 (W_block ?_)))
   obtain ⟨ln26, hln26, H⟩ := H.name (k := 0) rfl
   refine W_lp (hf := (Sub.cons (t := 0) Z (Sub.cons (t := 3) Z (Sub.cons (t := 4) Z Sub.nil)))) (J := fun M w m => ∃ (i : Nat) (G : PH), M = [(5, .int .i64 (i : Int))] ∧ PLe G1 G ∧ Hp w0 G0 [] w G [blk b4 (cl ln26 42)] ∧ (i ≤ k ∧ (list.take i).all (fun g => !Sp.l2Same g.bytes z3.bytes) = true) ∧ m = (k - i)) (h0 := ⟨0, _, Z, PLe.refl _, H, ?inv, Z⟩) (round := ?round)
   case inv => exact ⟨by omega, by simp⟩
   case round =>
    rintro _ w27 _ ⟨i, G27, rfl, hle27, H, hinv27, rfl⟩
    subst hln26
    have hlist := hlist.up hle27
    have hr3 := hr3.up hle27
    have hle1 := hle1.trans hle27
    obtain ⟨hi, hall2⟩ := hinv27
    refine W_seq (q2 (mV Z (mV Z (o_lss Z Z Z (q3 ?_)))))
    refine W_cond Z ?_ ?_
    ·intro hc28
     try simp only [nrm] at hc28
     refine W_skip (N_K (W_seq (W_block (W_seq (W_drawK [0] 8 H kR Z ?_))))); intro w29 H; have hd29 := PLe.refl G27
     refine vM 0 Z Z (vM 1 Z Z ?_)
     have hl30 := hlist.len
     obtain ⟨b30, o30, z30, q30, ha30, hz30, hq30, hE30, hrow30, _⟩ := hlist.at (i := i) oM
     clear hq30
     obtain ⟨a30, m30, c30, rfl, hi30, hr30, hj30⟩ := hE30; have hn_hr30 := hr30.len; have hx_hr30 : _ ≤ 1099511627776 := hr30.lim
     refine RD_t 2 Z kR Z (fun _ hK => v_index_P (i := i) ha30 underlying23 sizeOf42 Z Z Z oM) (RD_t 3 Z kR Z (fun _ hK => v_fieldAddr 1 runUnderlying42 Z sizeOf38 Z Z) (RD_t 4 Z kR Z (fun _ hK => v_load_P hK isAgg38 Z (hrow30 1 _ Z)) (RD_t 5 Z kR Z (fun _ hK => v_fieldAddr 1 runUnderlying42 Z sizeOf38 Z Z) (RD_t 6 Z kR Z (fun _ hK => v_load_B 0 hK isAgg38 Z Z Z) ?_))))
     refine RD_run [7] kR Z (RDs.cons Z ?_ RDs.nil)
     refine o_call call88 Z Z (l2Same_c _ _ H.sub _ _ hr30 _ _ hr3 ) ?_
     rintro _ w31 ⟨rfl, ew31⟩; have H := H.step ew31; refine ⟨_, rfl, ?_⟩
     refine R_nil (N_DK (Kn.of' H hd29 (SubL.cons 0 Z SubL.nil)) (RD_done kR (N_K ?_)))
     refine W_cond Z ?_ ?_
     ·intro hc32
      try simp only [nrm] at hc32
      refine q2 (aG Z (q3 (W_ret (N_B_ret (N_K_ret (N_LP_ret (N_B_ret (N_B_ret (N_K_ret (N_LP_ret (N_B_ret (N_K_ret (rt1 results53 Z ?_)))))))))))))
      exact H.rets (congrArg Value.bool (by rw [Sp.StoreValid, Sp.not_all_range (k := k) oM (by rw [Sp.okH_at hz3, Sp.all_false (l := list.take k) (k := i) (by rw [List.getElem?_take, if_pos oM]; exact hz30) (by simp [*])]; simp)]; rfl))
     intro hc32'
     try simp only [nrm] at hc32'
     refine W_skip (N_B (N_K (W_region (mV Z (o_add Z Z Z oO (aG Z (R_nil ?_)))))))
     refine N_lp (hJ := ⟨i + 1, _, Z, hle27, H, ?inv, Z⟩) (hm := ?hm)
     case hm => omega
     case inv => exact ⟨by omega, Sp.all_take hall2 hz30 (by simp [*])⟩
    intro hc28'
    try simp only [nrm] at hc28'
    refine W_exit (N_K_exit (N_LP_exit (N_B_same (N_B (N_K (W_region (mV Z (o_add Z Z Z oO (aG Z (R_nil ?_))))))))))
    have H := H.del (k := 0) rfl
    refine N_lp (hJ := ⟨k + 1, _, Z, hle1, H, ?inv, Z⟩) (hm := ?hm)
    case hm => omega
    case inv => exact ⟨by omega, Sp.upto_succ hall (by (obtain rfl : i = k := by omega); rw [Sp.okH_at hz3, hall2]; simp [Sp.prevId, *])⟩
  intro hc2'
  try simp only [nrm] at hc2'
  refine W_exit (N_K_exit (N_LP_exit (N_B_same (N_K (q2 (mV Z (o_len_slice underlying23 Z Z (o_leq Z Z Z (aG Z (q3 (W_ret (rt1 results53 Z ?_))))))))))))
  exact H.rets (congrArg Value.bool (by rw [Sp.StoreValid, Sp.all_range (fun j hj => hall j oM), Bool.true_and]; rw [Bool.eq_iff_iff]; simp; omega))
theorem l3At_c (w0 : World) (G0 : PH) (hG : PSub G0 w0) (vlist : Value) (list : List (BHeld)) (hlist : RdH G0 vlist list) (id : Int)  :
  Calls Tryz.prog 113 #[vlist, .int .i64 id] w0 (Rets w0 (.int .i64 (Sp.l3At list id))) := by
 obtain ⟨alist, klist, rfl⟩ := hlist.shape
 have hlimlist : list.length ≤ 1099511627776 := hlist.lim
 have H := Hp.init hG
 refine calls_of_W (l := [.slice alist list.length klist, .int .i64 id]) func113 Z ntmps113 Z (q2 (aG Z (q3 (W_seq (q2 (aG Z (q3 (W_block ?_))))))))
 refine W_lp (hf := (Sub.cons (t := 0) Z (Sub.cons (t := 1) Z Sub.nil))) (J := fun M w m => ∃ (k : Nat) (G : PH), M = [(5, .int .i64 (k : Int))] ∧ PLe G0 G ∧ Hp w0 G0 [] w G [] ∧ (k ≤ list.length ∧ (∀ j, j < k → ∀ y, list[j]? = some y → decide (y.id = id) = false)) ∧ m = (list.length - k)) (h0 := ⟨0, _, Z, PLe.refl _, H, ?inv, Z⟩) (round := ?round)
 case inv => exact ⟨by omega, fun j hj => by omega⟩
 case round =>
  rintro _ w1 _ ⟨k, G1, rfl, hle1, H, hinv1, rfl⟩
  have hlist := hlist.up hle1
  obtain ⟨hk, hall⟩ := hinv1
  refine W_seq (q2 (mV Z (mV Z (o_len_slice underlying23 Z Z (o_lss Z Z Z (q3 ?_))))))
  refine W_cond Z ?_ ?_
  ·intro hc2
   try simp only [nrm] at hc2
   refine W_skip (N_K (W_seq (W_block (q2 (mV Z (mV Z (o_index_P k hlist underlying23 sizeOf42 Z Z Z Z aN ?_))))))); intro b3 o3 z3 q3 hz3 hE3 hrow3
   obtain ⟨a3, m3, c3, rfl, hi3, hr3, hj3⟩ := hE3; have hn_hr3 := hr3.len; have hx_hr3 : _ ≤ 1099511627776 := hr3.lim
   refine o_fieldAddr 0 runUnderlying42 Z sizeOf3 Z Z Z (o_load_P H isAgg3 Z Z (hrow3 0 _ Z) (mV Z (o_eql Z Z Z (q3 ?_))))
   refine W_cond Z ?_ ?_
   ·intro hc4
    try simp only [nrm] at hc4
    refine q2 (mV Z (aG Z (q3 (W_ret (N_B_ret (N_K_ret (N_LP_ret (N_B_ret (N_K_ret (rt1 results113 Z ?_))))))))))
    exact H.rets (congrArg (Value.int .i64) (by rw [Sp.l3At, Sp.atH, Sp.find_at hall hz3 (by simp; omega)]; rfl))
   intro hc4'
   try simp only [nrm] at hc4'
   refine W_skip (N_B (N_K (W_region (mV Z (o_add Z Z Z oO (aG Z (R_nil ?_)))))))
   refine N_lp (hJ := ⟨k + 1, _, Z, hle1, H, ?inv, Z⟩) (hm := ?hm)
   case hm => omega
   case inv => exact ⟨by omega, Sp.none_succ hall hz3 (by simp; omega)⟩
  intro hc2'
  try simp only [nrm] at hc2'
  refine W_exit (N_K_exit (N_LP_exit (N_B_same (N_K (q2 (aG Z (q3 (W_ret (rt1 results113 Z ?_)))))))))
  exact H.rets (congrArg (Value.int .i64) (by rw [Sp.l3At, Sp.atH, Sp.find_none hall oM]; rfl))
theorem l3Like_c (w0 : World) (G0 : PH) (hG : PSub G0 w0) (vlist : Value) (list : List (BHeld)) (hlist : RdH G0 vlist list) (vbytes : Value) (bytes : List (Int)) (hbytes : RdI G0 vbytes bytes)  :
  Calls Tryz.prog 203 #[vlist, vbytes] w0 (Rets w0 (.int .i64 (Sp.l3Like list bytes))) := by
 obtain ⟨alist, klist, rfl⟩ := hlist.shape
 have hlimlist : list.length ≤ 1099511627776 := hlist.lim
 obtain ⟨abytes, kbytes, rfl⟩ := hbytes.shape
 have hlimbytes : bytes.length ≤ 1099511627776 := hbytes.lim
 have H := Hp.init hG
 refine calls_of_W (l := [.slice alist list.length klist, .slice abytes bytes.length kbytes]) func203 Z ntmps203 Z (q2 (aG Z (q3 (W_seq (q2 (aG Z (q3 (W_block ?_))))))))
 refine W_lp (hf := (Sub.cons (t := 0) Z (Sub.cons (t := 1) Z Sub.nil))) (J := fun M w m => ∃ (k : Nat) (G : PH), M = [(5, .int .i64 (k : Int))] ∧ PLe G0 G ∧ Hp w0 G0 [] w G [] ∧ (k ≤ list.length ∧ (∀ j, j < k → ∀ y, list[j]? = some y → Sp.l2Same y.bytes bytes = false)) ∧ m = (list.length - k)) (h0 := ⟨0, _, Z, PLe.refl _, H, ?inv, Z⟩) (round := ?round)
 case inv => exact ⟨by omega, fun j hj => by omega⟩
 case round =>
  rintro _ w1 _ ⟨k, G1, rfl, hle1, H, hinv1, rfl⟩
  have hlist := hlist.up hle1
  have hbytes := hbytes.up hle1
  obtain ⟨hk, hall⟩ := hinv1
  refine W_seq (q2 (mV Z (mV Z (o_len_slice underlying23 Z Z (o_lss Z Z Z (q3 ?_))))))
  refine W_cond Z ?_ ?_
  ·intro hc2
   try simp only [nrm] at hc2
   refine W_skip (N_K (W_seq (W_block (q2 (mV Z (mV Z (o_index_P k hlist underlying23 sizeOf42 Z Z Z Z aN ?_))))))); intro b3 o3 z3 q3 hz3 hE3 hrow3
   obtain ⟨a3, m3, c3, rfl, hi3, hr3, hj3⟩ := hE3; have hn_hr3 := hr3.len; have hx_hr3 : _ ≤ 1099511627776 := hr3.lim
   refine o_fieldAddr 1 runUnderlying42 Z sizeOf38 Z Z Z (o_load_P H isAgg38 Z Z (hrow3 1 _ Z) (mV Z (o_call call88 Z Z (l2Same_c _ _ H.sub _ _ hr3 _ _ hbytes ) ?_)))
   rintro _ w4 ⟨rfl, ew4⟩; have H := H.step ew4; refine ⟨_, rfl, ?_⟩
   refine q3 ?_
   refine W_cond Z ?_ ?_
   ·intro hc5
    try simp only [nrm] at hc5
    refine q2 (mV Z (aG Z (q3 (W_ret (N_B_ret (N_K_ret (N_LP_ret (N_B_ret (N_K_ret (rt1 results203 Z ?_))))))))))
    exact H.rets (congrArg (Value.int .i64) (by rw [Sp.l3Like, Sp.like, Sp.find_at hall hz3 hc5]; rfl))
   intro hc5'
   try simp only [nrm] at hc5'
   refine W_skip (N_B (N_K (W_region (mV Z (o_add Z Z Z oO (aG Z (R_nil ?_)))))))
   refine N_lp (hJ := ⟨k + 1, _, Z, hle1, H, ?inv, Z⟩) (hm := ?hm)
   case hm => omega
   case inv => exact ⟨by omega, Sp.none_succ hall hz3 hc5'⟩
  intro hc2'
  try simp only [nrm] at hc2'
  refine W_exit (N_K_exit (N_LP_exit (N_B_same (N_K (q2 (aG Z (q3 (W_ret (rt1 results203 Z ?_)))))))))
  exact H.rets (congrArg (Value.int .i64) (by rw [Sp.l3Like, Sp.like, Sp.find_none hall oM]; rfl))
theorem l3Copy_c (w0 : World) (G0 : PH) (hG : PSub G0 w0) (vlist : Value) (list : List (BHeld)) (hlist : RdH G0 vlist list)  :
  Calls Tryz.prog 79 #[vlist] w0 (RetO w0 G0 (AccOf heldE 3 42 list)) := by
 obtain ⟨alist, klist, rfl⟩ := hlist.shape
 have hlimlist : list.length ≤ 1099511627776 := hlist.lim
 have H := Hp.init hG
 refine calls_of_W (l := [.slice alist list.length klist]) func79 Z ntmps79 Z (q2 (aG Z (q1 (o_buildSlice H underlying23 sizeOf42 (fun w => ⟨_, zeroValue42 w, Z⟩) Z Z Z Z Z Z Z ?_)))); intro b1 w1 hb1 H
 have H := H.blkAcc 3 (k := 0) (n := 0) rfl rfl (by decide)
 refine aG Z (q3 (W_seq (q2 (aG Z (q3 (W_block ?_))))))
 refine W_lp (hf := (Sub.cons (t := 0) Z (Sub.cons (t := 2) Z Sub.nil))) (J := fun M w m => ∃ (v : Value) (n : Nat) (cs : List Value) (xs : List (BHeld)) (k : Nat) (G : PH), M = [(4, .int .i64 (k : Int)), (3, v)] ∧ PLe G0 G ∧ Hp w0 G0 [] w G [acc 42 3 v n cs] ∧ (Chk heldE 3 G cs xs ∧ n = xs.length ∧ k ≤ list.length ∧ xs.length = k ∧ xs = list.take k) ∧ m = (list.length - k)) (h0 := ⟨_, _, _, [], 0, _, Z, PLe.refl _, H, ?inv, Z⟩) (round := ?round)
 case inv => exact ⟨(Chk.nil (E := heldE) (sz := 3) (G := G0)),  by first | rfl | simp | (simp; omega) | omega, (by simp)⟩
 case round =>
  rintro _ w2 _ ⟨v, n, cs, xs, k, G2, rfl, hle2, H, hinv2, rfl⟩
  have hlist := hlist.up hle2
  obtain ⟨hchk2_0, hn2_0, hinv2⟩ := hinv2
  obtain ⟨av2_0, cv2_0, rfl⟩ := H.accShape (k := 0) rfl
  obtain ⟨hk, hxl, hxs⟩ := hinv2
  refine W_seq (q2 (mV Z (mV Z (o_len_slice underlying23 Z Z (o_lss Z Z Z (q3 ?_))))))
  refine W_cond Z ?_ ?_
  ·intro hc3
   try simp only [nrm] at hc3
   refine W_skip (N_K (W_seq (W_block (q2 (mV Z (mV Z (o_index_P k hlist underlying23 sizeOf42 Z Z Z Z aN ?_))))))); intro b4 o4 z4 q4 hz4 hE4 hrow4
   obtain ⟨a4, m4, c4, rfl, hi4, hr4, hj4⟩ := hE4; have hn_hr4 := hr4.len; have hx_hr4 : _ ≤ 1099511627776 := hr4.lim
   refine o_loadagg_P H isAgg42 sizeOf42 Z Z hrow4 Z (o_alloc H zeroValue42 Z Z ?_); intro b5 w5 hb5 H
   refine o_store_B 0 H sizeOf42 Z Z Z Z Z Z Z Z ?_; intro w6 H
   refine q1 (o_buildSlice H underlying38 sizeOf3 (fun w => ⟨_, zeroValue3 w, Z⟩) Z Z Z Z Z Z Z ?_); intro b7 w7 hb7 H
   have H := H.blkAcc 1 (k := 0) (n := 0) rfl rfl (by decide)
   refine o_fieldAddr 1 runUnderlying42 Z sizeOf38 Z Z Z (o_load_B 1 H isAgg38 Z Z Z Z ?_)
   refine o_append_P 0 H hr4 (by intro z cs hz u hu; obtain ⟨rfl, _⟩ := hz; simp at hu; subst hu; rfl) (sz := 1) (bytes := 8) underlying38 typeInfo3 ⟨_, rfl, rfl⟩ rfl rfl rfl rfl rfl rfl rfl oM rfl ?_; intro v8 w8 css8 hcl8 hcs8 H
   have hchk8 : Chk intE 1 G2 ([] ++ css8.flatten) _ := ⟨css8, rfl, hcl8, hcs8⟩
   obtain ⟨av8, cv8, rfl⟩ := H.accShape (k := 0) rfl
   refine o_fieldAddr 1 runUnderlying42 Z sizeOf38 Z Z Z (o_store_B 1 H sizeOf38 Z Z Z Z Z Z Z Z ?_); intro w9 H
   refine q3 (W_region (mV Z (o_loadagg_B 1 H isAgg42 sizeOf42 Z Z Z Z Z (o_buildSlice H underlying23 sizeOf42 (fun w => ⟨_, zeroValue42 w, Z⟩) Z Z Z Z Z Z Z ?_)))); intro b10 w10 hb10 H
   refine o_append1 2 H (sz := 3) (bytes := 40) underlying23 typeInfo42 ⟨_, Z, Z⟩ Z Z Z Z Z Z Z Z Z Z oM Z ?_; intro v11 w11 H
   obtain ⟨G12, H, hsg12, hsr12⟩ := H.shut' (k := 0) rfl hchk8 aN aN
   have hchk2_0 := hchk2_0.up hsg12
   have hle2 := hle2.trans hsg12
   have hchk11 := hchk2_0.snoc (show heldE _ z4 _ from ⟨_, _, _, rfl, ⟨by first | omega | (dsimp only; omega), by first | omega | (dsimp only; omega)⟩, hsr12, ⟨by first | omega | (dsimp only; omega), by first | omega | (dsimp only; omega)⟩⟩) rfl
   obtain ⟨av11, cv11, rfl⟩ := H.accShape (k := 1) rfl
   refine aG Z (R_nil (N_B (N_K (W_region (mV Z (o_add Z Z Z oO (aG Z (R_nil ?_))))))))
   have H := H.del (k := 0) rfl
   refine N_lp (hJ := ⟨_, _, _, (xs ++ [z4]), k + 1, _, Z, hle2, H, ?inv, Z⟩) (hm := ?hm)
   case hm => omega
   case inv => exact ⟨hchk11, aN, (by exact ⟨by omega, by simp [hxl], by rw [Sp.take_succ' hz4, hxs]⟩)⟩
  intro hc3'
  try simp only [nrm] at hc3'
  refine W_exit (N_K_exit (N_LP_exit (N_B_same (N_K (q2 (mV Z (aG Z (q3 (W_ret (rt1 results79 Z ?_))))))))))
  obtain rfl : k = list.length := by omega
  rw [List.take_length] at hxs
  subst hxs
  exact H.retO (k := 0) rfl (AccOf.mk (by assumption) hchk2_0) (acc_nd _ _ _ _ _)
theorem l12At_c (w0 : World) (G0 : PH) (hG : PSub G0 w0) (vlist : Value) (list : List (BSnap)) (hlist : RdSn G0 vlist list) (name : Bs) (hname : name.length ≤ 16777216)  :
  Calls Tryz.prog 40 #[vlist, str name] w0 (Rets w0 (.int .i64 (Sp.l12At list name))) := by
 obtain ⟨alist, klist, rfl⟩ := hlist.shape
 have hlimlist : list.length ≤ 1099511627776 := hlist.lim
 have H := Hp.init hG
 refine calls_of_W (l := [.slice alist list.length klist, str name]) func40 Z ntmps40 Z (q2 (aG Z (q3 (W_seq (q2 (aG Z (q3 (W_block ?_))))))))
 refine W_lp (hf := (Sub.cons (t := 0) Z (Sub.cons (t := 1) Z Sub.nil))) (J := fun M w m => ∃ (k : Nat) (G : PH), M = [(5, .int .i64 (k : Int))] ∧ PLe G0 G ∧ Hp w0 G0 [] w G [] ∧ (k ≤ list.length ∧ (∀ j, j < k → ∀ y, list[j]? = some y → decide (y.name = name) = false)) ∧ m = (list.length - k)) (h0 := ⟨0, _, Z, PLe.refl _, H, ?inv, Z⟩) (round := ?round)
 case inv => exact ⟨by omega, fun j hj => by omega⟩
 case round =>
  rintro _ w1 _ ⟨k, G1, rfl, hle1, H, hinv1, rfl⟩
  have hlist := hlist.up hle1
  obtain ⟨hk, hall⟩ := hinv1
  refine W_seq (q2 (mV Z (mV Z (o_len_slice underlying25 Z Z (o_lss Z Z Z (q3 ?_))))))
  refine W_cond Z ?_ ?_
  ·intro hc2
   try simp only [nrm] at hc2
   refine W_skip (N_K (W_seq (W_block (q2 (mV Z (mV Z (o_index_P k hlist underlying25 sizeOf46 Z Z Z Z aN ?_))))))); intro b3 o3 z3 q3 hz3 hE3 hrow3
   obtain ⟨a3, m3, c3, rfl, hi3, hr3⟩ := hE3; have hy_hi3 : _ ≤ 16777216 := hi3; have hn_hr3 := hr3.len; have hx_hr3 : _ ≤ 1099511627776 := hr3.lim
   refine o_fieldAddr 0 runUnderlying46 Z sizeOf9 Z Z Z (o_load_P H isAgg9 Z Z (hrow3 0 _ Z) (mV Z (o_seql Z Z Z (q3 ?_))))
   refine W_cond Z ?_ ?_
   ·intro hc4
    try simp only [nrm] at hc4
    refine q2 (mV Z (aG Z (q3 (W_ret (N_B_ret (N_K_ret (N_LP_ret (N_B_ret (N_K_ret (rt1 results40 Z ?_))))))))))
    exact H.rets (congrArg (Value.int .i64) (by rw [Sp.l12At, Sp.atS, Sp.find_at hall hz3 (by simp; exact hc4)]; rfl))
   intro hc4'
   try simp only [nrm] at hc4'
   refine W_skip (N_B (N_K (W_region (mV Z (o_add Z Z Z oO (aG Z (R_nil ?_)))))))
   refine N_lp (hJ := ⟨k + 1, _, Z, hle1, H, ?inv, Z⟩) (hm := ?hm)
   case hm => omega
   case inv => exact ⟨by omega, Sp.none_succ hall hz3 (by simp; exact hc4')⟩
  intro hc2'
  try simp only [nrm] at hc2'
  refine W_exit (N_K_exit (N_LP_exit (N_B_same (N_K (q2 (aG Z (q3 (W_ret (rt1 results40 Z ?_)))))))))
  exact H.rets (congrArg (Value.int .i64) (by rw [Sp.l12At, Sp.atS, Sp.find_none hall oM]; rfl))
end Go.Proofs.Tst

namespace Go.Proofs.Tst
open Go Fw Tryz
theorem l4Ids_c (w0 : World) (G0 : PH) (hG : PSub G0 w0) (vlist : Value) (list : List (BHeld)) (hlist : RdH G0 vlist list) (vids : Value) (ids : List (Int)) (hids : RdI G0 vids ids)  :
  Calls Tryz.prog 91 #[vlist, vids] w0 (Rets w0 (.bool (Sp.l4Ids list ids))) := by
 obtain ⟨alist, klist, rfl⟩ := hlist.shape
 have hlimlist : list.length ≤ 1099511627776 := hlist.lim
 obtain ⟨aids, kids, rfl⟩ := hids.shape
 have hlimids : ids.length ≤ 1099511627776 := hids.lim
 have H := Hp.init hG
 refine calls_of_W (l := [.slice alist list.length klist, .slice aids ids.length kids]) func91 Z ntmps91 Z (q2 (aG Z (q3 (W_seq (q2 (aG Z (q3 (W_block ?_))))))))
 refine W_lp (hf := (Sub.cons (t := 0) Z (Sub.cons (t := 1) Z Sub.nil))) (J := fun M w m => ∃ (k : Nat) (G : PH), M = [(5, .int .i64 (k : Int))] ∧ PLe G0 G ∧ Hp w0 G0 [] w G [] ∧ (k ≤ ids.length ∧ ∀ j, j < k → Sp.idsOk list ids j = true) ∧ m = (ids.length - k)) (h0 := ⟨0, _, Z, PLe.refl _, H, ?inv, Z⟩) (round := ?round)
 case inv => exact ⟨by omega, fun j hj => by omega⟩
 case round =>
  rintro _ w1 _ ⟨k, G1, rfl, hle1, H, hinv1, rfl⟩
  have hlist := hlist.up hle1
  have hids := hids.up hle1
  obtain ⟨hk, hall⟩ := hinv1
  refine W_seq (q2 (mV Z (mV Z (o_len_slice underlying38 Z Z (o_lss Z Z Z (q3 ?_))))))
  refine W_cond Z ?_ ?_
  ·intro hc2
   try simp only [nrm] at hc2
   refine W_skip (N_K (W_seq (W_block (q2 (mV Z (mV Z (mV Z (o_index_P k hids underlying38 sizeOf3 Z Z Z Z aN ?_)))))))); intro b3 o3 z3 q3 hz3 hE3 hrow3
   obtain ⟨rfl, hi3⟩ := hE3
   refine o_load_P H isAgg3 Z Z (hrow3 0 _ Z) (o_call call113 Z Z (l3At_c _ _ H.sub _ _ hlist _ ) ?_)
   rintro _ w4 ⟨rfl, ew4⟩; have H := H.step ew4; refine ⟨_, rfl, ?_⟩
   refine aG Z (q1 (mV Z (o_lss Z Z Z (mV Z ?_))))
   refine R_case (t := 21) Z ?_ ?_
   ·intro hc5
    try simp only [nrm] at hc5
    refine rP Z (rP Z (rP Z (rP Z (rP Z (rP Z (R_pass Z (yl_un Z Z) (R_pass Z (yl_un Z Z) (R_pass Z (yl_un Z Z) (R_pass Z (yl_un Z Z) (R_pass Z (yl_un Z Z) (R_pass Z (yl_un Z Z) (R_pass Z (yl_un Z Z) (rP Z (o_pick_t Z Z Z (q3 ?_)))))))))))))))
    refine W_true Z (q2 (aG Z (q3 (W_ret (N_B_ret (N_K_ret (N_LP_ret (N_B_ret (N_K_ret (rt1 results91 Z ?_))))))))))
    exact H.rets (congrArg Value.bool (by rw [Sp.l4Ids, Sp.not_all_range (k := k) oM (by simp [Sp.idsOk, hz3, Sp.atH, Sp.at_none hc5])]; rfl))
   intro hc5'
   try simp only [nrm] at hc5'
   obtain ⟨i, x, hi1, hi2, hi3, hi4, hi5⟩ := Sp.at_nat hc5'
   have hl : Sp.atH list z3 = some i := hi1
   refine gR Z (mV Z (gR Z (o_add Z Z Z oO (gR Z (mV Z (gR Z (o_len_slice underlying38 Z Z (gR Z (o_lss Z Z Z (gR Z (mV Z ?_)))))))))))
   refine R_case (t := 27) Z ?_ ?_
   ·intro hc7
    try simp only [nrm] at hc7
    refine gR Z (mV Z (gR Z (mV Z (gR Z (o_index_P i hlist underlying23 sizeOf42 Z Z Z hi2 aN ?_))))); intro b8 o8 z8 q8 hz8 hE8 hrow8
    obtain ⟨a8, m8, c8, rfl, hi8, hr8, hj8⟩ := hE8; have hn_hr8 := hr8.len; have hx_hr8 : _ ≤ 1099511627776 := hr8.lim
    have hzz : x = z8 := Option.some.inj (hi4.symm.trans hz8)
    subst hzz
    refine gR Z (o_fieldAddr 1 runUnderlying42 Z sizeOf38 Z Z Z (gR Z (o_load_P H isAgg38 Z Z (hrow8 1 _ Z) (gR Z (o_len_slice underlying38 Z Z (gR Z (o_lss Z Z Z (gR Z (o_pick_t Z Z Z (o_pick_f Z Z Z (q3 ?_)))))))))))
    refine W_cond Z ?_ ?_
    ·intro hc9
     try simp only [nrm] at hc9
     refine q2 (aG Z (q3 (W_ret (N_B_ret (N_K_ret (N_LP_ret (N_B_ret (N_K_ret (rt1 results91 Z ?_)))))))))
     exact H.rets (congrArg Value.bool (by rw [Sp.l4Ids, Sp.not_all_range (k := k) oM (by simp [Sp.idsOk, hz3, hl, hi4]; omega)]; rfl))
    intro hc9'
    try simp only [nrm] at hc9'
    refine W_skip (N_B (N_K (W_region (mV Z (o_add Z Z Z oO (aG Z (R_nil ?_)))))))
    refine N_lp (hJ := ⟨k + 1, _, Z, hle1, H, ?inv, Z⟩) (hm := ?hm)
    case hm => omega
    case inv => exact ⟨by omega, Sp.upto_succ hall (by simp [Sp.idsOk, hz3, hl, hi4]; omega)⟩
   intro hc7'
   try simp only [nrm] at hc7'
   refine rP Z (rP Z (rP Z (rP Z (rP Z (rP Z (rP Z (gR Z (o_pick_f Z Z Z (o_pick_f Z Z Z (q3 (W_false Z (W_skip (N_B (N_K (W_region ?_)))))))))))))))
   refine mV Z (o_add Z Z Z oO (aG Z (R_nil ?_)))
   refine N_lp (hJ := ⟨k + 1, _, Z, hle1, H, ?inv, Z⟩) (hm := ?hm)
   case hm => omega
   case inv => exact ⟨by omega, Sp.upto_succ hall (by simp [Sp.idsOk, hz3, hl, hi4]; omega)⟩
  intro hc2'
  try simp only [nrm] at hc2'
  refine W_exit (N_K_exit (N_LP_exit (N_B_same (N_K (q2 (mV Z (o_len_slice underlying38 Z Z (o_leq Z Z Z (aG Z (q3 (W_ret (rt1 results91 Z ?_))))))))))))
  exact H.rets (congrArg Value.bool (by rw [Sp.l4Ids, Sp.all_range (fun j hj => hall j oM), Bool.true_and]; rw [Bool.eq_iff_iff]; simp; omega))
end Go.Proofs.Tst

namespace Go.Proofs.Tst
open Go Fw Tryz
theorem l11Count_c (w0 : World) (G0 : PH) (hG : PSub G0 w0) (vlist : Value) (list : List (BItem)) (hlist : RdItems G0 vlist list) (id : Int) (hT : Sp.TreeValid list = true) :
  Calls Tryz.prog 50 #[vlist, .int .i64 id] w0 (Rets w0 (.int .i64 (Sp.l11Count list id : Int))) := by
 obtain ⟨alist, klist, rfl⟩ := hlist.shape
 have hlimlist : list.length ≤ 1099511627776 := hlist.lim
 have htl := Sp.tree_len hT
 have H := Hp.init hG
 refine calls_of_W (l := [.slice alist list.length klist, .int .i64 id]) func50 Z ntmps50 Z (q2 (aG Z (q1 (aG Z (q3 (W_seq (q2 (aG Z (q3 (W_block ?_))))))))))
 refine W_lp (hf := (Sub.cons (t := 0) Z (Sub.cons (t := 1) Z (Sub.cons (t := 4) Z Sub.nil)))) (J := fun M w m => ∃ (c k : Nat) (G : PH), M = [(5, .int .i64 (c : Int)), (6, .int .i64 (k : Int))] ∧ PLe G0 G ∧ Hp w0 G0 [] w G [] ∧ (k ≤ list.length ∧ c = Sp.cntU list id k) ∧ m = (list.length - k)) (h0 := ⟨0, 0, _, Z, PLe.refl _, H, ?inv, Z⟩) (round := ?round)
 case inv => exact ⟨by omega, by simp [Sp.cntU]⟩
 case round =>
  rintro _ w1 _ ⟨c, k, G1, rfl, hle1, H, hinv1, rfl⟩
  have hlist := hlist.up hle1
  obtain ⟨hk, hc⟩ := hinv1; have hcu := Sp.cntU_le hT k hk (id := id)
  refine W_seq (q2 (mV Z (mV Z (o_len_slice underlying24 Z Z (o_lss Z Z Z (q3 ?_))))))
  refine W_cond Z ?_ ?_
  ·intro hc2
   try simp only [nrm] at hc2
   refine W_skip (N_K (W_seq (W_block (q2 (aG Z (q3 (W_block ?_)))))))
   refine W_lp (hf := (Sub.cons (t := 0) Z (Sub.cons (t := 1) Z (Sub.cons (t := 4) Z (Sub.cons (t := 6) Z Sub.nil))))) (J := fun M w m => ∃ (c2 j : Nat) (y : BItem) (G : PH), M = [(5, .int .i64 (c2 : Int)), (7, .int .i64 (j : Int))] ∧ PLe G1 G ∧ Hp w0 G0 [] w G [] ∧ (list[k]? = some y ∧ j ≤ y.ids.length ∧ c2 = Sp.cntU list id k + Sp.cnt1 id (y.ids.take j)) ∧ m = (y.ids.length - j)) (h0 := ⟨c, 0, (list[k]'oM), _, Z, PLe.refl _, H, ?inv, Z⟩) (round := ?round)
   case inv => exact ⟨by simp, by omega, by simp [hc, Sp.cnt1]⟩
   case round =>
    rintro _ w3 _ ⟨c2, j, y, G3, rfl, hle3, H, hinv3, rfl⟩
    have hlist := hlist.up hle3
    have hle1 := hle1.trans hle3
    obtain ⟨hy, hj, hc2⟩ := hinv3; have hc4 := (Sp.tree_at hT hy).2; have hc1 := Sp.cnt1_le id (y.ids.take j); have htk : (y.ids.take j).length ≤ j := by simp; omega
    refine W_seq (q2 (mV Z (mV Z (mV Z (o_index_P k hlist underlying24 sizeOf40 Z Z Z Z aN ?_))))); intro b4 o4 z4 q4 hz4 hE4 hrow4
    obtain ⟨a4, m4, c4, rfl, hi4, hr4⟩ := hE4; have hy_hi4 : _ ≤ 16777216 := hi4; have hn_hr4 := hr4.len; have hx_hr4 : _ ≤ 1099511627776 := hr4.lim
    have hzz4 : y = z4 := Option.some.inj (hy.symm.trans hz4)
    subst hzz4
    refine o_fieldAddr 2 runUnderlying40 Z sizeOf38 Z Z Z (o_load_P H isAgg38 Z Z (hrow4 2 _ Z) (o_len_slice underlying38 Z Z (o_lss Z Z Z (q3 ?_))))
    refine W_cond Z ?_ ?_
    ·intro hc5
     try simp only [nrm] at hc5
     refine W_skip (N_K (W_seq (W_block (q2 (mV Z (mV Z (o_index_P k hlist underlying24 sizeOf40 Z Z Z Z aN ?_))))))); intro b6 o6 z6 q6 hz6 hE6 hrow6
     obtain ⟨a6, m6, c6, rfl, hi6, hr6⟩ := hE6; have hy_hi6 : _ ≤ 16777216 := hi6; have hn_hr6 := hr6.len; have hx_hr6 : _ ≤ 1099511627776 := hr6.lim
     have hzz6 : y = z6 := Option.some.inj (hy.symm.trans hz6)
     subst hzz6
     refine o_fieldAddr 2 runUnderlying40 Z sizeOf38 Z Z Z (o_load_P H isAgg38 Z Z (hrow6 2 _ Z) (mV Z (o_index_P j hr6 underlying38 sizeOf3 Z Z Z Z aN ?_))); intro b7 o7 z7 q7 hz7 hE7 hrow7
     obtain ⟨rfl, hi7⟩ := hE7
     refine o_load_P H isAgg3 Z Z (hrow7 0 _ Z) (mV Z (o_eql Z Z Z (q3 ?_)))
     refine W_cond Z ?_ ?_
     ·intro hc8
      try simp only [nrm] at hc8
      refine W_region (mV Z (o_add Z Z Z oO (aG Z (R_nil (N_B (N_K (W_region (mV Z (o_add Z Z Z oO (aG Z (R_nil ?_)))))))))))
      refine N_lp (hJ := ⟨c2 + 1, j + 1, y, _, Z, hle3, H, ?inv, Z⟩) (hm := ?hm)
      case hm => omega
      case inv => exact ⟨hy, by omega, by rw [Sp.cnt1_succ hz7, if_pos oM, hc2]; omega⟩
     intro hc8'
     try simp only [nrm] at hc8'
     refine W_skip (N_B (N_K (W_region (mV Z (o_add Z Z Z oO (aG Z (R_nil ?_)))))))
     refine N_lp (hJ := ⟨c2, j + 1, y, _, Z, hle3, H, ?inv, Z⟩) (hm := ?hm)
     case hm => omega
     case inv => exact ⟨hy, by omega, by rw [Sp.cnt1_succ hz7, if_neg oM, hc2]; omega⟩
    intro hc5'
    try simp only [nrm] at hc5'
    refine W_exit (N_K_exit (N_LP_exit (N_B_same (N_B (N_K (W_region (mV Z (o_add Z Z Z oO (aG Z (R_nil ?_))))))))))
    refine N_lp (hJ := ⟨c2, k + 1, _, Z, hle1, H, ?inv, Z⟩) (hm := ?hm)
    case hm => omega
    case inv => exact ⟨by omega, by rw [hc2, Sp.cntU_succ hy, List.take_of_length_le oM]⟩
  intro hc2'
  try simp only [nrm] at hc2'
  refine W_exit (N_K_exit (N_LP_exit (N_B_same (N_K (q2 (mV Z (aG Z (q3 (W_ret (rt1 results50 Z ?_))))))))))
  obtain rfl : k = list.length := by omega
  exact H.rets (congrArg (Value.int .i64) (by rw [hc]; rfl))
theorem l11Files_c (w0 : World) (G0 : PH) (hG : PSub G0 w0) (vstore : Value) (store : List (BHeld)) (hstore : RdH G0 vstore store) (vlist : Value) (list : List (BItem)) (hlist : RdItems G0 vlist list)  :
  Calls Tryz.prog 55 #[vstore, vlist] w0 (Rets w0 (.bool (Sp.l11Files store list))) := by
 obtain ⟨astore, kstore, rfl⟩ := hstore.shape
 have hlimstore : store.length ≤ 1099511627776 := hstore.lim
 obtain ⟨alist, klist, rfl⟩ := hlist.shape
 have hlimlist : list.length ≤ 1099511627776 := hlist.lim
 have H := Hp.init hG
 refine calls_of_W (l := [.slice astore store.length kstore, .slice alist list.length klist]) func55 Z ntmps55 Z (q2 (aG Z (q3 (W_seq (q2 (aG Z (q3 (W_block ?_))))))))
 refine W_lp (hf := (Sub.cons (t := 0) Z (Sub.cons (t := 1) Z Sub.nil))) (J := fun M w m => ∃ (k : Nat) (G : PH), M = [(5, .int .i64 (k : Int))] ∧ PLe G0 G ∧ Hp w0 G0 [] w G [] ∧ (k ≤ list.length ∧ (list.take k).all (Sp.fileOk store) = true) ∧ m = (list.length - k)) (h0 := ⟨0, _, Z, PLe.refl _, H, ?inv, Z⟩) (round := ?round)
 case inv => exact ⟨by omega, by simp⟩
 case round =>
  rintro _ w1 _ ⟨k, G1, rfl, hle1, H, hinv1, rfl⟩
  have hstore := hstore.up hle1
  have hlist := hlist.up hle1
  obtain ⟨hk, hall⟩ := hinv1
  refine W_seq (q2 (mV Z (mV Z (o_len_slice underlying24 Z Z (o_lss Z Z Z (q3 ?_))))))
  refine W_cond Z ?_ ?_
  ·intro hc2
   try simp only [nrm] at hc2
   refine W_skip (N_K (W_seq (W_block (q2 (mV Z (mV Z (mV Z (o_index_P k hlist underlying24 sizeOf40 Z Z Z Z aN ?_)))))))); intro b3 o3 z3 q3 hz3 hE3 hrow3
   obtain ⟨a3, m3, c3, rfl, hi3, hr3⟩ := hE3; have hy_hi3 : _ ≤ 16777216 := hi3; have hn_hr3 := hr3.len; have hx_hr3 : _ ≤ 1099511627776 := hr3.lim
   refine o_fieldAddr 2 runUnderlying40 Z sizeOf38 Z Z Z (o_load_P H isAgg38 Z Z (hrow3 2 _ Z) (o_call call91 Z Z (l4Ids_c _ _ H.sub _ _ hstore _ _ hr3 ) ?_))
   rintro _ w4 ⟨rfl, ew4⟩; have H := H.step ew4; refine ⟨_, rfl, ?_⟩
   refine o_not Z Z (q3 ?_)
   refine W_cond Z ?_ ?_
   ·intro hc5
    try simp only [nrm] at hc5
    refine q2 (aG Z (q3 (W_ret (N_B_ret (N_K_ret (N_LP_ret (N_B_ret (N_K_ret (rt1 results55 Z ?_)))))))))
    exact H.rets (congrArg Value.bool (by rw [Sp.l11Files, Sp.all_false hz3 (by simp [Sp.fileOk, *])]))
   intro hc5'
   try simp only [nrm] at hc5'
   refine W_skip (N_B (N_K (W_region (mV Z (o_add Z Z Z oO (aG Z (R_nil ?_)))))))
   refine N_lp (hJ := ⟨k + 1, _, Z, hle1, H, ?inv, Z⟩) (hm := ?hm)
   case hm => omega
   case inv => exact ⟨by omega, Sp.all_take hall hz3 (by simp [Sp.fileOk, *])⟩
  intro hc2'
  try simp only [nrm] at hc2'
  refine W_exit (N_K_exit (N_LP_exit (N_B_same (N_K (q2 (aG Z (q3 (W_ret (rt1 results55 Z ?_)))))))))
  obtain rfl : k = list.length := by omega
  rw [List.take_length] at hall
  exact H.rets (congrArg Value.bool (by rw [Sp.l11Files, hall]))
theorem l11Ids_c (w0 : World) (G0 : PH) (hG : PSub G0 w0) (vlist : Value) (list : List (BItem)) (hlist : RdItems G0 vlist list) (path : Bs) (hpath : path.length ≤ 16777216)  :
  Calls Tryz.prog 161 #[vlist, str path] w0 (RetP w0 G0 (fun G v => RdItems G v (Sp.l11Ids list path))) := by
 obtain ⟨alist, klist, rfl⟩ := hlist.shape
 have hlimlist : list.length ≤ 1099511627776 := hlist.lim
 have H := Hp.init hG
 refine calls_of_W (l := [.slice alist list.length klist, str path]) func161 Z ntmps161 Z (q2 (aG Z (q1 (mV Z (mV Z (o_call call118 Z Z (l5At_c _ _ H.sub _ _ hlist _ hpath ) ?_))))))
 rintro _ w1 ⟨rfl, ew1⟩; have H := H.step ew1; refine ⟨_, rfl, ?_⟩
 refine aG Z (q3 (W_seq (q2 (mV Z (o_lss Z Z Z (mV Z ?_))))))
 refine R_case (t := 11) Z ?_ ?_
 ·intro hc2
  try simp only [nrm] at hc2
  refine rP Z (rP Z (rP Z (rP Z (rP Z (o_pick_t Z Z Z (q3 (W_true Z (q2 (o_buildSlice H underlying24 sizeOf40 (fun w => ⟨_, zeroValue40 w, Z⟩) Z Z Z Z Z Z Z ?_))))))))); intro b3 w3 hb3 H
  have H := H.blkAcc 3 (k := 0) (n := 0) rfl rfl (by decide)
  refine aG Z (q3 (W_ret (N_K_ret (rt1 results161 Z ?_))))
  obtain ⟨G504, H, hsg504, hsr504⟩ := H.shut' (k := 0) rfl (Chk.nil (E := itemE) (sz := 3) (G := G0)) aN aN
  exact H.retP (by rw [show Sp.l11Ids list path = [] by simp [Sp.l11Ids, Sp.atI, Sp.at_none hc2]]; exact hsr504)
 intro hc2'
 try simp only [nrm] at hc2'
 obtain ⟨i, y, ia, ib, ic, ie, ig⟩ := Sp.at_nat hc2'
 have ib : Sp.l5At list path = (i : Int) := ib
 have hl : Sp.atI list path = some i := ia
 refine gR Z (mV Z (gR Z (mV Z (gR Z (o_index_P i hlist underlying24 sizeOf40 Z Z Z ib aN ?_))))); intro b4 o4 z4 q4 hz4 hE4 hrow4
 obtain ⟨a4, m4, c4, rfl, hi4, hr4⟩ := hE4; have hy_hi4 : _ ≤ 16777216 := hi4; have hn_hr4 := hr4.len; have hx_hr4 : _ ≤ 1099511627776 := hr4.lim
 refine gR Z (o_fieldAddr 1 runUnderlying40 Z sizeOf4 Z Z Z (gR Z (o_load_P H isAgg4 Z Z (hrow4 1 _ Z) (o_pick_f Z Z Z (q3 ?_)))))
 refine W_cond Z ?_ ?_
 ·intro hc5
  try simp only [nrm] at hc5
  refine q2 (o_buildSlice H underlying24 sizeOf40 (fun w => ⟨_, zeroValue40 w, Z⟩) Z Z Z Z Z Z Z ?_); intro b6 w6 hb6 H
  have H := H.blkAcc 3 (k := 0) (n := 0) rfl rfl (by decide)
  refine aG Z (q3 (W_ret (N_K_ret (rt1 results161 Z ?_))))
  obtain ⟨G507, H, hsg507, hsr507⟩ := H.shut' (k := 0) rfl (Chk.nil (E := itemE) (sz := 3) (G := G0)) aN aN
  exact H.retP (by rw [show Sp.l11Ids list path = [] by simp [Sp.l11Ids, hl, hz4, hc5]]; exact hsr507)
 intro hc5'
 try simp only [nrm] at hc5'
 refine W_skip (N_K (q2 (mV Z (mV Z (mV Z (o_add Z Z Z oO ?_))))))
 have hcap8 := hlist.cap; try simp only [List.length_set, List.length_append, List.length_take, List.length_drop, List.length_replicate] at hcap8
 refine o_slice (i := i) (j := (i + 1)) underlying24 sizeOf40 Z Z Z Z ib oM aN aN ?_
 have hsl8 := hlist.part (i := i) (j := (i + 1)) oM oM
 have hsn1 := hsl8.len
 refine aG Z (q3 (W_ret (rt1 results161 Z ?_)))
 exact H.retP (by rw [show Sp.l11Ids list path = (list.drop i).take (i + 1 - i) by simp [Sp.l11Ids, hl, hz4, hc5', Sp.drop_at hz4]]; exact hsl8)
end Go.Proofs.Tst

namespace Go.Proofs.Tst
open Go Fw Tryz
theorem l12Count_c (w0 : World) (G0 : PH) (hG : PSub G0 w0) (cd : List Value) (d : BDisk) (hd : diskE G0 d cd) (id : Int) (hT : Sp.TreeValid d.tree = true) (hN : Sp.l12Snaps d = true) :
  Calls Tryz.prog 57 #[.agg cd.toArray, .int .i64 id] w0 (Rets w0 (.int .i64 (Sp.l12Count d id : Int))) := by
 obtain ⟨a1, m1, c1, a1', m1', c1', a1'', m1'', c1'', rfl, hr1, hr1', hr1''⟩ := hd; have hn_hr1 := hr1.len; have hx_hr1 : _ ≤ 1099511627776 := hr1.lim; have hn_hr1q := hr1'.len; have hx_hr1q : _ ≤ 1099511627776 := hr1'.lim; have hn_hr1qq := hr1''.len; have hx_hr1qq : _ ≤ 1099511627776 := hr1''.lim
 obtain ⟨hsl, hst⟩ := Sp.snaps_at hN
 have htc := Sp.l11Count_le hT (id := id)
 have H := Hp.init hG
 refine calls_of_W (l := [_, .int .i64 id]) func57 Z ntmps57 Z (q2 (o_box H Z Z Z ?_)); intro b2 w2 hb2 H
 refine aG Z (q1 (o_fieldAddr 1 runUnderlying27 Z sizeOf24 Z Z Z (o_load_B 0 H isAgg24 Z Z Z Z (mV Z (o_call call50 Z Z (l11Count_c _ _ H.sub _ _ hr1' _ hT) ?_)))))
 rintro _ w3 ⟨rfl, ew3⟩; have H := H.step ew3; refine ⟨_, rfl, ?_⟩
 refine aG Z (q3 (W_seq (q2 (aG Z (q3 (W_block ?_))))))
 obtain ⟨ln4, hln4, H⟩ := H.name (k := 0) rfl
 refine W_lp (hf := (Sub.cons (t := 1) Z (Sub.cons (t := 2) Z (Sub.cons (t := 4) Z Sub.nil)))) (J := fun M w m => ∃ (c k : Nat) (G : PH), M = [(5, .int .i64 (c : Int)), (6, .int .i64 (k : Int))] ∧ PLe G0 G ∧ Hp w0 G0 [] w G [blk b2 (cl ln4 27)] ∧ (k ≤ d.snaps.length ∧ c = Sp.l11Count d.tree id + Sp.cntS d.snaps id k) ∧ m = (d.snaps.length - k)) (h0 := ⟨(Sp.l11Count d.tree id), 0, _, Z, PLe.refl _, H, ?inv, Z⟩) (round := ?round)
 case inv => exact ⟨by omega, by simp [Sp.cntS]⟩
 case round =>
  rintro _ w5 _ ⟨c, k, G5, rfl, hle5, H, hinv5, rfl⟩
  subst hln4
  have hr1'' := hr1''.up hle5
  obtain ⟨hk, hc⟩ := hinv5; have hcu := Sp.cntS_le hst k hk (id := id)
  refine W_seq (q2 (mV Z (o_fieldAddr 2 runUnderlying27 Z sizeOf25 Z Z Z (o_load_B 0 H isAgg25 Z Z Z Z (o_len_slice underlying25 Z Z (o_lss Z Z Z (q3 ?_)))))))
  refine W_cond Z ?_ ?_
  ·intro hc6
   try simp only [nrm] at hc6
   refine W_skip (N_K (W_seq (W_block (W_region (mV Z (o_fieldAddr 2 runUnderlying27 Z sizeOf25 Z Z Z (o_load_B 0 H isAgg25 Z Z Z Z (mV Z (o_index_P k hr1'' underlying25 sizeOf46 Z Z Z Z aN ?_))))))))); intro b7 o7 z7 q7 hz7 hE7 hrow7
   obtain ⟨a7, m7, c7, rfl, hi7, hr7⟩ := hE7; have hy_hi7 : _ ≤ 16777216 := hi7; have hn_hr7 := hr7.len; have hx_hr7 : _ ≤ 1099511627776 := hr7.lim
   have hlz := Sp.l11Count_le (hst _ (List.mem_of_getElem? hz7)) (id := id)
   refine o_fieldAddr 1 runUnderlying46 Z sizeOf24 Z Z Z (o_load_P H isAgg24 Z Z (hrow7 1 _ Z) (mV Z ?_))
   refine o_call call50 Z Z (l11Count_c _ _ H.sub _ _ hr7 _ (hst _ (List.mem_of_getElem? hz7))) ?_
   rintro _ w8 ⟨rfl, ew8⟩; have H := H.step ew8; refine ⟨_, rfl, ?_⟩
   refine o_add Z Z Z oO (aG Z (R_nil (N_B (N_K (W_region (mV Z (o_add Z Z Z oO (aG Z (R_nil ?_)))))))))
   refine N_lp (hJ := ⟨c + Sp.l11Count z7.tree id, k + 1, _, Z, hle5, H, ?inv, Z⟩) (hm := ?hm)
   case hm => omega
   case inv => exact ⟨by omega, by rw [hc, Sp.cntS_succ hz7]; omega⟩
  intro hc6'
  try simp only [nrm] at hc6'
  refine W_exit (N_K_exit (N_LP_exit (N_B_same (N_K (q2 (mV Z (aG Z (q3 (W_ret (rt1 results57 Z ?_))))))))))
  obtain rfl : k = d.snaps.length := by omega
  exact H.rets (congrArg (Value.int .i64) (by rw [hc]; rfl))
end Go.Proofs.Tst

namespace Go.Proofs.Tst
open Go Fw Tryz
theorem l12Snaps_c (w0 : World) (G0 : PH) (hG : PSub G0 w0) (cd : List Value) (d : BDisk) (hd : diskE G0 d cd)  :
  Calls Tryz.prog 56 #[.agg cd.toArray] w0 (Rets w0 (.bool (Sp.l12Snaps d))) := by
 obtain ⟨a1, m1, c1, a1', m1', c1', a1'', m1'', c1'', rfl, hr1, hr1', hr1''⟩ := hd; have hn_hr1 := hr1.len; have hx_hr1 : _ ≤ 1099511627776 := hr1.lim; have hn_hr1q := hr1'.len; have hx_hr1q : _ ≤ 1099511627776 := hr1'.lim; have hn_hr1qq := hr1''.len; have hx_hr1qq : _ ≤ 1099511627776 := hr1''.lim
 have H := Hp.init hG
 refine calls_of_W (l := [_]) func56 Z ntmps56 Z (q2 (o_box H Z Z Z ?_)); intro b2 w2 hb2 H
 refine aG Z (q3 (W_seq (q2 (aG Z (q3 (W_block ?_))))))
 obtain ⟨ln3, hln3, H⟩ := H.name (k := 0) rfl
 refine W_lp (hf := (Sub.cons (t := 1) Z Sub.nil)) (J := fun M w m => ∃ (k : Nat) (G : PH), M = [(3, .int .i64 (k : Int))] ∧ PLe G0 G ∧ Hp w0 G0 [] w G [blk b2 (cl ln3 27)] ∧ (k ≤ d.snaps.length ∧ ∀ j, j < k → Sp.okS d j = true) ∧ m = (d.snaps.length - k)) (h0 := ⟨0, _, Z, PLe.refl _, H, ?inv, Z⟩) (round := ?round)
 case inv => exact ⟨by omega, fun j hj => by omega⟩
 case round =>
  rintro _ w4 _ ⟨k, G4, rfl, hle4, H, hinv4, rfl⟩
  subst hln3
  have hr1 := hr1.up hle4
  have hr1'' := hr1''.up hle4
  obtain ⟨hk, hall⟩ := hinv4
  refine W_seq (q2 (mV Z (o_fieldAddr 2 runUnderlying27 Z sizeOf25 Z Z Z (o_load_B 0 H isAgg25 Z Z Z Z (o_len_slice underlying25 Z Z (o_lss Z Z Z (q3 ?_)))))))
  refine W_cond Z ?_ ?_
  ·intro hc5
   try simp only [nrm] at hc5
   refine W_skip (N_K (W_seq (W_block (q2 (o_fieldAddr 2 runUnderlying27 Z sizeOf25 Z Z Z (o_load_B 0 H isAgg25 Z Z Z Z (mV Z (o_index_P k hr1'' underlying25 sizeOf46 Z Z Z Z aN ?_)))))))); intro b6 o6 z6 q6 hz6 hE6 hrow6
   obtain ⟨a6, m6, c6, rfl, hi6, hr6⟩ := hE6; have hy_hi6 : _ ≤ 16777216 := hi6; have hn_hr6 := hr6.len; have hx_hr6 : _ ≤ 1099511627776 := hr6.lim
   refine o_loadagg_P H isAgg46 sizeOf46 Z Z hrow6 Z (o_alloc H zeroValue46 Z Z ?_); intro b7 w7 hb7 H
   refine o_store_B 0 H sizeOf46 Z Z Z Z Z Z Z Z ?_; intro w8 H
   refine q1 (o_fieldAddr 0 runUnderlying46 Z sizeOf9 Z Z Z (o_load_B 0 H isAgg9 Z Z Z Z (o_call call39 Z Z (l1Word_c _ _ hi6 ) ?_)))
   rintro _ w9 ⟨rfl, ew9⟩; have H := H.step ew9; refine ⟨_, rfl, ?_⟩
   refine o_not Z Z (mV Z ?_)
   refine R_case (t := 21) Z ?_ ?_
   ·intro hc10
    try simp only [nrm] at hc10
    refine rP Z (rP Z (rP Z (rP Z (rP Z (rP Z (rP Z (o_pick_t Z Z Z (mV Z (rP Z (rP Z (rP Z (rP Z (o_pick_t Z Z Z (mV Z (rP Z ?_)))))))))))))))
    refine rP Z (rP Z (rP Z (rP Z (rP Z (o_pick_t Z Z Z (q3 (W_true Z (q2 (aG Z (q3 (W_ret (N_B_ret (N_K_ret (N_LP_ret (N_B_ret ?_)))))))))))))))
    refine N_K_ret (rt1 results56 Z ?_)
    exact H.rets (congrArg Value.bool (by rw [Sp.l12Snaps, Sp.not_all_range (k := k) oM (by rw [Sp.okS_at hz6]; simp [*] <;> (intros; omega))]; rfl))
   intro hc10'
   try simp only [nrm] at hc10'
   refine gR Z (o_fieldAddr 2 runUnderlying27 Z sizeOf25 Z Z Z (gR Z (o_load_B 1 H isAgg25 Z Z Z Z (gR Z (o_fieldAddr 0 runUnderlying46 Z sizeOf9 Z Z Z (gR Z (o_load_B 0 H isAgg9 Z Z Z Z (gR Z (o_call call40 Z Z (l12At_c _ _ H.sub _ _ hr1'' _ hi6 ) ?_)))))))))
   rintro _ w11 ⟨rfl, ew11⟩; have H := H.step ew11; refine ⟨_, rfl, ?_⟩
   refine gR Z (mV Z (gR Z (o_lss Z Z Z (o_pick_f Z Z Z (mV Z ?_)))))
   refine R_case (t := 30) Z ?_ ?_
   ·intro hc12
    try simp only [nrm] at hc12
    refine rP Z (rP Z (rP Z (rP Z (o_pick_t Z Z Z (mV Z (rP Z (rP Z (rP Z (rP Z (rP Z (rP Z (o_pick_t Z Z Z (q3 (W_true Z (q2 ?_)))))))))))))))
    refine aG Z (q3 (W_ret (N_B_ret (N_K_ret (N_LP_ret (N_B_ret (N_K_ret (rt1 results56 Z ?_))))))))
    exact H.rets (congrArg Value.bool (by rw [Sp.l12Snaps, Sp.not_all_range (k := k) oM (by rw [Sp.okS_at hz6]; simp [*] <;> (intros; omega))]; rfl))
   intro hc12'
   try simp only [nrm] at hc12'
   refine gR Z (o_fieldAddr 1 runUnderlying46 Z sizeOf24 Z Z Z (gR Z (o_load_B 0 H isAgg24 Z Z Z Z (gR Z (o_call call54 Z Z (TreeValid_c _ _ H.sub _ _ hr6 ) ?_)))))
   rintro _ w13 ⟨rfl, ew13⟩; have H := H.step ew13; refine ⟨_, rfl, ?_⟩
   refine gR Z (o_not Z Z (o_pick_f Z Z Z (mV Z ?_)))
   refine R_case (t := 36) Z ?_ ?_
   ·intro hc14
    try simp only [nrm] at hc14
    refine rP Z (rP Z (rP Z (rP Z (rP Z (rP Z (o_pick_t Z Z Z (q3 (W_true Z (q2 (aG Z (q3 (W_ret (N_B_ret (N_K_ret (N_LP_ret ?_)))))))))))))))
    refine N_B_ret (N_K_ret (rt1 results56 Z ?_))
    exact H.rets (congrArg Value.bool (by rw [Sp.l12Snaps, Sp.not_all_range (k := k) oM (by rw [Sp.okS_at hz6]; simp [*] <;> (intros; omega))]; rfl))
   intro hc14'
   try simp only [nrm] at hc14'
   refine gR Z (o_fieldAddr 0 runUnderlying27 Z sizeOf23 Z Z Z (gR Z (o_load_B 1 H isAgg23 Z Z Z Z (gR Z (o_fieldAddr 1 runUnderlying46 Z sizeOf24 Z Z Z (gR Z (o_load_B 0 H isAgg24 Z Z Z Z (gR Z (o_call call55 Z Z (l11Files_c _ _ H.sub _ _ hr1 _ _ hr6 ) ?_)))))))))
   rintro _ w15 ⟨rfl, ew15⟩; have H := H.step ew15; refine ⟨_, rfl, ?_⟩
   refine gR Z (o_not Z Z (o_pick_f Z Z Z (q3 ?_)))
   refine W_cond Z ?_ ?_
   ·intro hc16
    try simp only [nrm] at hc16
    refine q2 (aG Z (q3 (W_ret (N_B_ret (N_K_ret (N_LP_ret (N_B_ret (N_K_ret (rt1 results56 Z ?_)))))))))
    exact H.rets (congrArg Value.bool (by rw [Sp.l12Snaps, Sp.not_all_range (k := k) oM (by rw [Sp.okS_at hz6]; simp [*] <;> (intros; omega))]; rfl))
   intro hc16'
   try simp only [nrm] at hc16'
   refine W_skip (N_B (N_K (W_region (mV Z (o_add Z Z Z oO (aG Z (R_nil ?_)))))))
   have H := H.del (k := 0) rfl
   refine N_lp (hJ := ⟨k + 1, _, Z, hle4, H, ?inv, Z⟩) (hm := ?hm)
   case hm => omega
   case inv => exact ⟨by omega, Sp.upto_succ hall (by rw [Sp.okS_at hz6]; simp [*])⟩
  intro hc5'
  try simp only [nrm] at hc5'
  refine W_exit (N_K_exit (N_LP_exit (N_B_same (N_K (q2 (o_fieldAddr 2 runUnderlying27 Z sizeOf25 Z Z Z (o_load_B 0 H isAgg25 Z Z Z Z (o_len_slice underlying25 Z Z (o_leq Z Z Z (aG Z (q3 (W_ret (rt1 results56 Z ?_)))))))))))))
  exact H.rets (congrArg Value.bool (by rw [Sp.l12Snaps, Sp.all_range (fun j hj => hall j oM), Bool.true_and]; rw [Bool.eq_iff_iff]; simp; omega))
end Go.Proofs.Tst

