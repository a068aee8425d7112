/- Part 5 of the proof: the program logic and plain functions. Conditions: none. -/
import Derived.Test.YtbhkgogeoafjjaaGreatDoorProg
import Derived.Test.YtbhkgogeoafjjaaGreatDoorG00
import Derived.Test.YtbhkgogeoafjjaaGreatDoorG01
import Derived.Test.YtbhkgogeoafjjaaGreatDoorG02
import Derived.Test.YtbhkgogeoafjjaaGreatDoorG04
import Derived.Test.YtbhkgogeoafjjaaGreatDoorG03
import Derived.WideKeyArgs
import Derived.ChangeArms
import Derived.DataElems
import Derived.ChangeSame
set_option linter.all false
set_option maxRecDepth 100000
set_option maxHeartbeats 1000000
namespace Go.Proofs.Tst
open Go Fw Tryz
theorem l12Free_c (w0 : World) (G0 : PH) (hG : PSub G0 w0) (vstore : Value) (store : List (BHeld)) (hstore : RdH G0 vstore store) (vlist : Value) (list : List (BItem)) (hlist : RdItems G0 vlist list)  :
  Calls Tryz.prog 55 #[vstore, vlist] w0 (RetO w0 G0 (AccOf heldE 3 131 (Sp.l12Free store list))) := by
 obtain ⟨astore, kstore, rfl⟩ := hstore.shape
 have hlimstore : store.length ≤ 1099511627776 := hstore.lim
 obtain ⟨alist, klist, rfl⟩ := hlist.shape
 have hlimlist : list.length ≤ 1099511627776 := hlist.lim
 have H := Hp.init hG
 refine calls_of_W (l := [.slice astore store.length kstore, .slice alist list.length klist]) func55 rfl ntmps55 rfl (q2 (aG rfl (q1 (mV rfl (o_call call109 rfl rfl (l3Copy_c _ _ H.sub _ _ hstore ) ?_)))))
 rintro _ w1 ⟨G1, v1, _, g1, rfl, ⟨cs1, rfl, hchk1⟩, hp1, hq1, hs1⟩
 have H := H.growO g1 hp1 hq1 hs1; obtain ⟨av1, cv1, rfl⟩ := H.accShape (k := 0) rfl
 have hlist := hlist.up g1.le
 refine ⟨_, rfl, ?_⟩
 refine aG rfl (q3 (W_seq (q2 (aG rfl (q3 (W_block ?_))))))
 refine W_lp (hf := (Sub.cons (t := 1) rfl (Sub.cons (t := 4) rfl Sub.nil))) (J := fun M w m => ∃ (v : Value) (n : Nat) (cs : List Value) (xs : List (BHeld)) (k : Nat) (G : PH), M = [(6, .int .i64 (k : Int)), (5, v)] ∧ PLe G1 G ∧ Hp w0 G0 [] w G [acc 131 3 v n cs] ∧ (Chk heldE 3 G cs xs ∧ n = xs.length ∧ k ≤ list.length ∧ xs.length ≤ store.length ∧ xs = Sp.l12Free store (list.take k)) ∧ m = (list.length - k)) (h0 := ⟨_, _, _, store, 0, _, rfl, PLe.refl _, H, ?inv, rfl⟩) (round := ?round)
 case inv => exact ⟨hchk1,  by first | rfl | simp | (simp; omega) | omega, (by exact ⟨by omega, by omega, rfl⟩)⟩
 case round =>
  rintro _ w2 _ ⟨v, n, cs, xs, k, G2, rfl, hle2, H, hinv2, rfl⟩
  have hlist := hlist.up hle2
  obtain ⟨hchk2_0, hn2_0, hinv2⟩ := hinv2
  obtain ⟨av2_0, cv2_0, rfl⟩ := H.accShape (k := 0) rfl
  obtain ⟨hk, hxl, hxs⟩ := hinv2
  refine W_seq (q2 (mV rfl (mV rfl (o_len_slice underlying29 rfl rfl (o_lss rfl rfl rfl (q3 ?_))))))
  refine W_cond rfl ?_ ?_
  ·intro hc3
   try simp only [nrm] at hc3
   refine W_skip (N_K (W_seq (W_block (q2 (mV rfl (mV rfl (mV rfl (o_index_P k hlist underlying29 sizeOf66 rfl rfl rfl rfl aN ?_)))))))); intro b4 o4 z4 q4 hz4 hE4 hrow4
   obtain ⟨a4, m4, c4, rfl, hi4, hr4⟩ := hE4; have hy_hi4 : _ ≤ 16777216 := hi4; have hn_hr4 := hr4.len; have hx_hr4 : _ ≤ 1099511627776 := hr4.lim
   refine o_fieldAddr 2 runUnderlying66 rfl sizeOf41 rfl rfl rfl (o_load_P H isAgg41 rfl rfl (hrow4 2 _ rfl) ?_)
   obtain ⟨G6, H, hsg6, hsr6⟩ := H.shut' (k := 0) rfl hchk2_0 aN aN
   have hr4 := hr4.up hsg6
   have hle2 := hle2.trans hsg6
   refine o_call call110 rfl rfl (FileFree_c _ _ H.sub _ _ hsr6 _ _ hr4 ) ?_
   rintro _ w5 ⟨G5, _, _, g5, rfl, ⟨u5_0, rfl, ⟨cs5, rfl, hchk5⟩⟩, hp5, hq5, hs5⟩
   have H := H.growO g5 hp5 hq5 hs5; obtain ⟨av5, cv5, rfl⟩ := H.accShape (k := 0) rfl
   have hle2 := hle2.trans g5.le
   refine ⟨_, rfl, ?_⟩
   refine mV rfl (o_extract rfl rfl rfl (o_extract rfl rfl rfl (aG rfl (aG rfl (q3 (W_region (mV rfl (aG rfl (R_nil (N_B (N_K (W_region (mV rfl (o_add rfl rfl rfl oO (aG rfl ?_)))))))))))))))
   refine R_nil ?_
   refine N_lp (hJ := ⟨_, _, _, ((Sp.FileFree xs z4.ids).getD []), k + 1, _, rfl, hle2, H, ?inv, rfl⟩) (hm := ?hm)
   case hm => omega
   case inv => exact ⟨hchk5, aN, (by exact ⟨by omega, by (have := Sp.free_len xs z4.ids; omega), by (rw [Sp.l12Free_succ hz4, ← hxs])⟩)⟩
  intro hc3'
  try simp only [nrm] at hc3'
  refine W_exit (N_K_exit (N_LP_exit (N_B_same (N_K (q2 (mV rfl (aG rfl (q3 (W_ret (rt1 results55 rfl ?_))))))))))
  obtain rfl : k = list.length := by omega
  rw [List.take_length] at hxs
  subst hxs
  exact H.retO (k := 0) rfl (AccOf.mk (by assumption) hchk2_0) (acc_nd _ _ _ _ _)
theorem SnapBack_c (w0 : World) (G0 : PH) (hG : PSub G0 w0) (cd : List Value) (d : BDisk) (hd : diskE G0 d cd) (name : Bs) (hname : name.length ≤ 16777216)  :
  Calls Tryz.prog 39 #[.agg cd.toArray, str name] w0 (RetO w0 G0 (fun G val r => ∃ u u1 u2, val = .tuple #[.agg #[u, u1, u2], .bool (Sp.SnapBack d name).isSome] ∧ AccOf snapE 2 58 (((Sp.SnapBack d name).map (·.snaps)).getD []) G u2 r ∧ RdH G u (((Sp.SnapBack d name).map (·.store)).getD []) ∧ RdItems G u1 (((Sp.SnapBack d name).map (·.tree)).getD []))) := by
 obtain ⟨a1, m1, c1, a1', m1', c1', a1'', m1'', c1'', rfl, hr1, hr1', hr1''⟩ := hd; have hn_hr1 := hr1.len; have hx_hr1 : _ ≤ 1099511627776 := hr1.lim; have hn_hr1q := hr1'.len; have hx_hr1q : _ ≤ 1099511627776 := hr1'.lim; have hn_hr1qq := hr1''.len; have hx_hr1qq : _ ≤ 1099511627776 := hr1''.lim
 have H := Hp.init hG
 refine calls_of_W (l := [_, str name]) func39 rfl ntmps39 rfl (q2 (o_box H rfl rfl rfl ?_)); intro b2 w2 hb2 H
 refine o_alloc H zeroValue32 rfl rfl ?_; intro b3 w3 hb3 H
 refine aG rfl (q1 (o_fieldAddr 2 runUnderlying32 rfl sizeOf30 rfl rfl rfl (o_load_B 1 H isAgg30 rfl rfl rfl rfl (mV rfl (o_call call52 rfl rfl (l12At_c _ _ H.sub _ _ hr1'' _ hname ) ?_)))))
 rintro _ w4 ⟨rfl, ew4⟩; have H := H.step ew4; refine ⟨_, rfl, ?_⟩
 refine aG rfl (q3 (W_seq (q2 (o_loadagg_B 1 H isAgg32 sizeOf32 rfl rfl rfl rfl rfl (o_call call53 rfl rfl (DiskValid_c _ _ H.sub _ d ⟨_, _, _, _, _, _, _, _, _, rfl, hr1, hr1', hr1''⟩ ) ?_)))))
 rintro _ w5 ⟨rfl, ew5⟩; have H := H.step ew5; refine ⟨_, rfl, ?_⟩
 refine o_not rfl rfl (mV rfl ?_)
 refine R_case (t := 17) rfl ?_ ?_
 ·intro hc6
  try simp only [nrm] at hc6
  refine rP rfl (rP rfl (o_pick_t rfl rfl rfl (q3 (W_true rfl (q2 (o_build bf32 rfl rfl rfl (o_store_B 0 H sizeOf32 rfl rfl rfl rfl rfl rfl rfl rfl ?_))))))); intro w7 H
  refine aG rfl (q3 (W_ret (N_K_ret (ret_gen (rs := [.cell 4 32, .tmp 5]) (vs := [_, _]) results39 ⟨⟨_, rfl, load_blk 0 H isAgg32 sizeOf32 rfl rfl rfl⟩, rfl, trivial⟩ ?_))))
  have hN : Sp.SnapBack d name = none := by exact Sp.back_nov (by simpa using hc6)
  have H := H.addNil 58 2
  exact H.retO (k := 0) rfl (by rw [hN]; exact ⟨_, _, _, rfl, AccOf.mk rfl Chk.nil, RdS.nil _ _ _, RdS.nil _ _ _⟩) (acc_nd _ _ _ _ _)
 intro hc6'
 try simp only [nrm] at hc6'
 refine gR rfl (mV rfl (gR rfl (o_lss rfl rfl rfl (o_pick_f rfl rfl rfl (q3 ?_)))))
 refine W_cond rfl ?_ ?_
 ·intro hc8
  try simp only [nrm] at hc8
  refine q2 (o_build bf32 rfl rfl rfl (o_store_B 0 H sizeOf32 rfl rfl rfl rfl rfl rfl rfl rfl ?_)); intro w9 H
  refine aG rfl (q3 (W_ret (N_K_ret (ret_gen (rs := [.cell 4 32, .tmp 5]) (vs := [_, _]) results39 ⟨⟨_, rfl, load_blk 0 H isAgg32 sizeOf32 rfl rfl rfl⟩, rfl, trivial⟩ ?_))))
  have hN : Sp.SnapBack d name = none := by exact Sp.back_noat (by simpa [Sp.l12At] using hc8)
  have H := H.addNil 58 2
  exact H.retO (k := 0) rfl (by rw [hN]; exact ⟨_, _, _, rfl, AccOf.mk rfl Chk.nil, RdS.nil _ _ _, RdS.nil _ _ _⟩) (acc_nd _ _ _ _ _)
 intro hc8'
 try simp only [nrm] at hc8'
 obtain ⟨i, x, ia, ib, ic, ie, ig⟩ := Sp.at_nat hc8'
 have ib : Sp.l12At d.snaps name = (i : Int) := ib
 have hat : Sp.atS d.snaps name = some i := ia
 refine W_skip (N_K (W_seq (W_drawK [0, 1] 14 H kR rfl ?_))); intro w10 H; have hd10 := PLe.refl G0
 refine RD_t 0 rfl kR rfl (fun _ hK => v_fieldAddr 0 runUnderlying32 rfl sizeOf28 rfl rfl) (RD_t 1 rfl kR rfl (fun _ hK => v_load_B 1 hK isAgg28 rfl rfl rfl) (RD_t 2 rfl kR rfl (fun _ hK => v_fieldAddr 2 runUnderlying32 rfl sizeOf30 rfl rfl) (RD_t 3 rfl kR rfl (fun _ hK => v_load_B 1 hK isAgg30 rfl rfl rfl) (vM 4 rfl rfl ?_))))
 have hl11 := hr1''.len
 obtain ⟨b11, o11, z11, q11, ha11, hz11, hq11, hE11, hrow11, _⟩ := hr1''.at (i := i) oM
 clear hq11
 obtain ⟨a11, m11, c11, rfl, hi11, hr11⟩ := hE11; have hy_hi11 : _ ≤ 16777216 := hi11; have hn_hr11 := hr11.len; have hx_hr11 : _ ≤ 1099511627776 := hr11.lim
 refine RD_t 5 rfl kR rfl (fun _ hK => v_index_P (i := i) ha11 underlying30 sizeOf58 rfl rfl ib oM) (RD_t 6 rfl kR rfl (fun _ hK => v_fieldAddr 1 runUnderlying58 rfl sizeOf29 rfl rfl) (RD_t 7 rfl kR rfl (fun _ hK => v_load_P hK isAgg29 rfl (hrow11 1 _ rfl)) ?_))
 refine RD_run [8] kR rfl (RDs.cons rfl ?_ RDs.nil)
 refine o_call call86 rfl rfl (l12Keep_c _ _ H.sub _ _ hr1 _ _ hr11 ) ?_
 rintro _ w12 ⟨G12, _, _, g12, rfl, ⟨u12_0, rfl, ⟨cs12, rfl, hchk12⟩⟩, hp12, hq12, hs12⟩
 have H := H.growO g12 hp12 hq12 hs12; obtain ⟨av12, cv12, rfl⟩ := H.accShape (k := 0) rfl
 have hr1 := hr1.up g12.le
 have hr1' := hr1'.up g12.le
 have hr1'' := hr1''.up g12.le
 have hd10 := hd10.trans g12.le
 refine ⟨_, rfl, ?_⟩
 have hkl := Sp.l12Keep_len d.store z11.tree
 refine R_nil (N_DK (Kn.of' H hd10 (SubL.cons 1 rfl (SubL.cons 2 rfl SubL.nil))) (vM 9 rfl rfl (RD_t 10 rfl kR rfl (fun _ hK => v_extract rfl rfl) (RD_t 11 rfl kR rfl (fun _ hK => v_extract rfl rfl) (RD_t 12 rfl kR rfl (fun _ hK => v_assign rfl) (RD_t 13 rfl kR rfl (fun _ hK => v_assign rfl) (RD_done kR (N_K (W_seq (q2 (mV rfl (o_not rfl rfl (q3 ?_)))))))))))))
 refine W_cond rfl ?_ ?_
 ·intro hc13
  try simp only [nrm] at hc13
  refine q2 (o_build bf32 rfl rfl rfl (o_store_B 1 H sizeOf32 rfl rfl rfl rfl rfl rfl rfl rfl ?_)); intro w14 H
  refine aG rfl (q3 (W_ret (N_K_ret (ret_gen (rs := [.cell 4 32, .tmp 5]) (vs := [_, _]) results39 ⟨⟨_, rfl, load_blk 1 H isAgg32 sizeOf32 rfl rfl rfl⟩, rfl, trivial⟩ ?_))))
  have hN : Sp.SnapBack d name = none := by (have hno : Sp.l12Keep d.store z11.tree = none := by simpa using hc13); (rw [Sp.back_eq (by simpa using hc6') hat hz11, hno]; rfl)
  have H := H.addNil 58 2
  exact H.retO (k := 0) rfl (by rw [hN]; exact ⟨_, _, _, rfl, AccOf.mk rfl Chk.nil, RdS.nil _ _ _, RdS.nil _ _ _⟩) (acc_nd _ _ _ _ _)
 intro hc13'
 try simp only [nrm] at hc13'
 refine W_skip (N_K (q2 (o_loadagg_B 2 H isAgg32 sizeOf32 rfl rfl rfl rfl rfl (o_call call54 rfl rfl (l12Copy_c _ _ H.sub _ d ⟨_, _, _, _, _, _, _, _, _, rfl, hr1, hr1', hr1''⟩ ) ?_))))
 rintro _ w15 ⟨G15, _, _, g15, rfl, ⟨u15_0, u15_1, u15_2, rfl, ⟨cs15, rfl, hchk15⟩, hr15_0, hr15_1⟩, hp15, hq15, hs15⟩
 have H := H.growO g15 hp15 hq15 hs15; obtain ⟨av15, cv15, rfl⟩ := H.accShape (k := 0) rfl
 have hr1' := hr1'.up g15.le
 have hr1'' := hr1''.up g15.le
 have hchk12 := hchk12.up g15.le
 obtain ⟨a15_0, k15_0, rfl⟩ := hr15_0.shape; have hx_hr15_0 : _ ≤ 1099511627776 := hr15_0.lim
 obtain ⟨a15_1, k15_1, rfl⟩ := hr15_1.shape; have hx_hr15_1 : _ ≤ 1099511627776 := hr15_1.lim
 refine ⟨_, rfl, ?_⟩
 refine o_alloc H zeroValue32 rfl rfl ?_; intro b16 w16 hb16 H
 refine o_store_B 0 H sizeOf32 rfl rfl rfl rfl rfl rfl rfl rfl ?_; intro w17 H
 refine q1 (mV rfl (o_fieldAddr 1 runUnderlying32 rfl sizeOf29 rfl rfl rfl (o_load_B 4 H isAgg29 rfl rfl rfl rfl ?_)))
 obtain ⟨G19, H, hsg19, hsr19⟩ := H.shut' (k := 2) rfl hchk12 aN aN
 have hr1' := hr1'.up hsg19
 have hr1'' := hr1''.up hsg19
 have hchk15 := hchk15.up hsg19
 refine o_call call55 rfl rfl (l12Free_c _ _ H.sub _ _ hsr19 _ _ hr1' ) ?_
 rintro _ w18 ⟨G18, v18, _, g18, rfl, ⟨cs18, rfl, hchk18⟩, hp18, hq18, hs18⟩
 have H := H.growO g18 hp18 hq18 hs18; obtain ⟨av18, cv18, rfl⟩ := H.accShape (k := 0) rfl
 have hr1'' := hr1''.up g18.le
 have hchk15 := hchk15.up g18.le
 refine ⟨_, rfl, ?_⟩
 have hfl2 := Sp.l12Free_len d.tree ((Sp.l12Keep d.store z11.tree).getD [])
 refine o_fieldAddr 0 runUnderlying32 rfl sizeOf28 rfl rfl rfl (o_store_B 1 H sizeOf28 rfl rfl rfl rfl rfl rfl rfl rfl ?_); intro w20 H
 refine q1 (o_fieldAddr 2 runUnderlying32 rfl sizeOf30 rfl rfl rfl (o_load_B 4 H isAgg30 rfl rfl rfl rfl (mV rfl (o_index_P i hr1'' underlying30 sizeOf58 rfl rfl rfl ib aN ?_)))); intro b21 o21 z21 q21 hz21 hE21 hrow21
 obtain ⟨a21, m21, c21, rfl, hi21, hr21⟩ := hE21; have hy_hi21 : _ ≤ 16777216 := hi21; have hn_hr21 := hr21.len; have hx_hr21 : _ ≤ 1099511627776 := hr21.lim
 refine o_fieldAddr 1 runUnderlying58 rfl sizeOf29 rfl rfl rfl (o_load_P H isAgg29 rfl rfl (hrow21 1 _ rfl) (o_call call87 rfl rfl (l5All_c _ _ H.sub _ _ hr21 ) ?_))
 rintro _ w22 ⟨G22, v22, _, g22, rfl, ⟨cs22, rfl, hchk22⟩, hp22, hq22, hs22⟩
 have H := H.growO g22 hp22 hq22 hs22; obtain ⟨av22, cv22, rfl⟩ := H.accShape (k := 0) rfl
 have hchk15 := hchk15.up g22.le
 have hchk18 := hchk18.up g22.le
 refine ⟨_, rfl, ?_⟩
 refine o_fieldAddr 1 runUnderlying32 rfl sizeOf29 rfl rfl rfl (o_store_B 2 H sizeOf29 rfl rfl rfl rfl rfl rfl rfl rfl ?_); intro w23 H
 refine q1 (o_loadagg_B 2 H isAgg32 sizeOf32 rfl rfl rfl rfl rfl (o_store_B 4 H sizeOf32 rfl rfl rfl rfl rfl rfl rfl rfl ?_)); intro w24 H
 refine aG rfl (q3 (W_ret (ret_gen (rs := [.cell 4 32, .tmp 5]) (vs := [_, _]) results39 ⟨⟨_, rfl, load_blk 4 H isAgg32 sizeOf32 rfl rfl rfl⟩, rfl, trivial⟩ ?_)))
 have hzz := Option.some.inj (hz21.symm.trans hz11); subst hzz
 obtain ⟨G526, H, hsg526, hsr526⟩ := H.shut' (k := 1) rfl hchk18 aN aN
 have hchk15 := hchk15.up hsg526
 have hchk22 := hchk22.up hsg526
 obtain ⟨G527, H, hsg527, hsr527⟩ := H.shut' (k := 0) rfl hchk22 aN aN
 have hchk15 := hchk15.up hsg527
 have hsr526 := hsr526.up hsg527
 have hY : Sp.SnapBack d name = some ⟨Sp.l12Free ((Sp.l12Keep d.store z21.tree).getD []) d.tree, z21.tree, d.snaps⟩ := by (obtain ⟨p, hp⟩ := Option.isSome_iff_exists.1 hc13'); (rw [Sp.back_eq (by simpa using hc6') hat hz21, hp]; rfl)
 exact H.retO (k := 1) rfl (by rw [hY]; exact ⟨_, _, _, rfl, AccOf.mk aN hchk15, hsr526, hsr527⟩) (acc_nd _ _ _ _ _)
end Go.Proofs.Tst

namespace Go.Proofs.Tst
open Go Fw Tryz
theorem SnapBackP_c (w0 : World) (G0 : PH) (hG : PSub G0 w0) (cd : List Value) (d : BDisk) (hd : diskE G0 d cd) (name : Bs) (hname : name.length ≤ 16777216) :
  Calls Tryz.prog 39 #[.agg cd.toArray, str name] w0 (RetP w0 G0 (fun G val => ∃ cs, val = .tuple #[.agg cs.toArray, .bool (Sp.SnapBack d name).isSome] ∧ diskE G ((Sp.SnapBack d name).getD ⟨[], [], []⟩) cs)) := by
 refine (SnapBack_c w0 G0 hG cd d hd name hname).mono ?_
 rintro _ w' ⟨G, v, r, g, rfl, ⟨u, u1, u2, rfl, ⟨cells, rfl, hchk⟩, h1, h2⟩, hp, hq, hs⟩
 have H := (Hp.init hG).growO g hp hq hs
 have hb : (((Sp.SnapBack d name).map (·.snaps)).getD []).length ≤ 6 := Sp.dk_lim (fun d1 h => Sp.back_valid h)
 obtain ⟨G2, H2, hle, hr⟩ := H.shut' (k := 0) rfl hchk rfl oM
 have e1 : ((Sp.SnapBack d name).map (·.store)).getD [] = ((Sp.SnapBack d name).getD ⟨[], [], []⟩).store := by cases Sp.SnapBack d name <;> rfl
 have e2 : ((Sp.SnapBack d name).map (·.tree)).getD [] = ((Sp.SnapBack d name).getD ⟨[], [], []⟩).tree := by cases Sp.SnapBack d name <;> rfl
 have e3 : ((Sp.SnapBack d name).map (·.snaps)).getD [] = ((Sp.SnapBack d name).getD ⟨[], [], []⟩).snaps := by cases Sp.SnapBack d name <;> rfl
 rw [e1] at h1; rw [e2] at h2; rw [e3] at hr
 obtain ⟨a1, c1, rfl⟩ := h1.shape
 obtain ⟨a2, c2, rfl⟩ := h2.shape
 obtain ⟨a3, c3, rfl⟩ := hr.shape
 exact H2.retP ⟨[_, _, _], rfl, _, _, _, _, _, _, _, _, _, rfl, h1.up hle, h2.up hle, hr⟩
end Go.Proofs.Tst

namespace Go.Proofs.Tst
open Go Fw Tryz
theorem xSnapBack_c (w0 : World) (G0 : PH) (hG : PSub G0 w0) (caD : List Value) (aD : BDisk) (haD : diskE G0 aD caD) (aName : Bs) (haName : aName.length ≤ 16777216)  :
  Calls Tryz.prog 6 #[.agg caD.toArray, str aName] w0 (Rets w0 (.bool true)) := by
 obtain ⟨a1, m1, c1, a1', m1', c1', a1'', m1'', c1'', rfl, hr1, hr1', hr1''⟩ := haD; have hn_hr1 := hr1.len; have hx_hr1 : _ ≤ 1099511627776 := hr1.lim; have hn_hr1q := hr1'.len; have hx_hr1q : _ ≤ 1099511627776 := hr1'.lim; have hn_hr1qq := hr1''.len; have hx_hr1qq : _ ≤ 1099511627776 := hr1''.lim
 have hcd0 := cDisk_le aD
 have hcD : cDisk ((Sp.SnapBack aD aName).getD ⟨[], [], []⟩) ≤ 700 := dk_cnt (fun d1 h => Sp.back_valid h)
 have H := Hp.init hG
 refine calls_of_W (l := [_, str aName]) func6 rfl ntmps6 rfl (q2 (o_box H rfl rfl rfl ?_)); intro b2 w2 hb2 H
 refine aG rfl (q3 (W_seq (q2 (mV rfl (o_len_str underlying9 rfl rfl (o_gtr rfl rfl rfl (q3 ?_)))))))
 refine W_cond rfl ?_ ?_
 ·intro hc3
  try simp only [nrm] at hc3
  refine q2 (aG rfl (q3 (W_ret (N_K_ret (rt1 results6 rfl ?_)))))
  exact H.rets rfl
 intro hc3'
 try simp only [nrm] at hc3'
 refine W_skip (N_K (q2 (aG rfl (q1 (o_loadagg_B 0 H isAgg26 sizeOf26 rfl rfl rfl rfl rfl (mV rfl (o_call call15 rfl rfl (w_szDisk_c _ _ H.sub _ aD ⟨_, _, _, _, _, _, _, _, _, rfl, hr1, hr1', hr1''⟩ _ oO) ?_)))))))
 rintro _ w4 ⟨_, rfl, ew4, ⟨r4, rfl, hra4⟩⟩
 skip
 have H := H.step ew4; refine ⟨_, rfl, ?_⟩
 refine aG rfl (q3 (W_seq (q2 (mV rfl (o_lss rfl rfl rfl (q3 ?_))))))
 refine W_cond rfl ?_ ?_
 ·intro hc5
  try simp only [nrm] at hc5
  refine q2 (aG rfl (q3 (W_ret (N_K_ret (rt1 results6 rfl ?_)))))
  exact H.rets rfl
 intro hc5'
 try simp only [nrm] at hc5'
 refine W_skip (N_K (q2 (o_loadagg_B 0 H isAgg26 sizeOf26 rfl rfl rfl rfl rfl (o_call call17 rfl rfl (w_toDisk_c _ _ H.sub _ aD ⟨_, _, _, _, _, _, _, _, _, rfl, hr1, hr1', hr1''⟩ ) ?_))))
 rintro _ w6 ⟨_, _, rfl, H6', ⟨u16, u26, u36, D16, D26, D36, rfl, rfl, ho16, ho26, ho36⟩⟩
 have H := H.readers (fp := []) (by simp) (PLe.refl _) H6'
 obtain ⟨x16, p16⟩ := ho16
 obtain ⟨a16, c16, rfl⟩ := OwnS.shape p16
 obtain ⟨x26, p26⟩ := ho26
 obtain ⟨a26, c26, rfl⟩ := OwnS.shape p26
 obtain ⟨x36, p36⟩ := ho36
 obtain ⟨a36, c36, rfl⟩ := OwnS.shape p36
 refine ⟨_, rfl, ?_⟩
 refine mV rfl ?_
 have hnd8 := dm_nodup H (k := 0) rfl; obtain ⟨G8, H, hsg8, hsf8⟩ := H.keepF (k := 0) rfl (by simp); have hsr8 := (show OHs _ _ _ from ⟨_, p16⟩).rd hsf8 hnd8
 have hr1 := hr1.up hsg8
 have hr1' := hr1'.up hsg8
 have hr1'' := hr1''.up hsg8
 have hnd9 := dm_nodup H (k := 0) rfl; obtain ⟨G9, H, hsg9, hsf9⟩ := H.keepF (k := 0) rfl (by simp); have hsr9 := (show OIs _ _ _ from ⟨_, p26⟩).rd hsf9 hnd9
 have hr1 := hr1.up hsg9
 have hr1' := hr1'.up hsg9
 have hr1'' := hr1''.up hsg9
 have hsr8 := hsr8.up hsg9
 have hnd10 := dm_nodup H (k := 0) rfl; obtain ⟨G10, H, hsg10, hsf10⟩ := H.keepF (k := 0) rfl (by simp); have hsr10 := (show OSn _ _ _ from ⟨_, p36⟩).rd hsf10 hnd10
 have hr1 := hr1.up hsg10
 have hr1' := hr1'.up hsg10
 have hr1'' := hr1''.up hsg10
 have hsr8 := hsr8.up hsg10
 have hsr9 := hsr9.up hsg10
 refine o_call call39 rfl rfl (SnapBackP_c _ _ H.sub _ aD ⟨_, _, _, _, _, _, _, _, _, rfl, hsr8, hsr9, hsr10⟩ _ haName ) ?_
 rintro _ w7 ⟨G7, _, g7, rfl, u7_0, rfl, hr7_0⟩
 have H := H.grow g7
 have hr1 := hr1.up g7.le
 have hr1' := hr1'.up g7.le
 have hr1'' := hr1''.up g7.le
 obtain ⟨a11, m11, c11, a11', m11', c11', a11'', m11'', c11'', rfl, hr11, hr11', hr11''⟩ := hr7_0; have hn_hr11 := hr11.len; have hx_hr11 : _ ≤ 1099511627776 := hr11.lim; have hn_hr11q := hr11'.len; have hx_hr11q : _ ≤ 1099511627776 := hr11'.lim; have hn_hr11qq := hr11''.len; have hx_hr11qq : _ ≤ 1099511627776 := hr11''.lim
 refine ⟨_, rfl, ?_⟩
 refine mV rfl (o_extract rfl rfl rfl (o_extract rfl rfl rfl (o_alloc H zeroValue32 rfl rfl ?_))); intro b12 w12 hb12 H
 refine o_store_B 0 H sizeOf32 rfl rfl rfl rfl rfl rfl rfl rfl ?_; intro w13 H
 refine aG rfl (q1 (o_loadagg_B 1 H isAgg26 sizeOf26 rfl rfl rfl rfl rfl (o_call call17 rfl rfl (w_toDisk_c _ _ H.sub _ aD ⟨_, _, _, _, _, _, _, _, _, rfl, hr1, hr1', hr1''⟩ ) ?_)))
 rintro _ w14 ⟨_, _, rfl, H14', ⟨u114, u214, u314, D114, D214, D314, rfl, rfl, ho114, ho214, ho314⟩⟩
 have H := H.readers (fp := []) (by simp) (PLe.refl _) H14'
 obtain ⟨x114, p114⟩ := ho114
 obtain ⟨a114, c114, rfl⟩ := OwnS.shape p114
 obtain ⟨x214, p214⟩ := ho214
 obtain ⟨a214, c214, rfl⟩ := OwnS.shape p214
 obtain ⟨x314, p314⟩ := ho314
 obtain ⟨a314, c314, rfl⟩ := OwnS.shape p314
 refine ⟨_, rfl, ?_⟩
 refine o_alloc H zeroValue32 rfl rfl ?_; intro b15 w15 hb15 H
 refine o_store_B 0 H sizeOf32 rfl rfl rfl rfl rfl rfl rfl rfl ?_; intro w16 H
 refine q1 (o_loadagg_B 0 H isAgg32 sizeOf32 rfl rfl rfl rfl rfl (mV rfl (o_call call40 rfl rfl (i_SnapBack_c _ _ (H.lendSubL [1, 2, 3]) _ aD ⟨_, _, _, _, _, _, _, _, _, rfl, (H.lendOHs (k := 1) (ks := [1, 2, 3]) rfl rfl ⟨_, p114⟩), (H.lendOIs (k := 2) (ks := [1, 2, 3]) rfl rfl ⟨_, p214⟩), (H.lendOSn (k := 3) (ks := [1, 2, 3]) rfl rfl ⟨_, p314⟩)⟩ _ haName ) ?_)))
 rintro _ w17 ⟨_, _, rfl, H17', ⟨u117, u217, u317, E117, E217, E317, rfl, rfl, ho117, ho217, ho317⟩⟩
 have H := H.readersL H17'
 obtain ⟨x117, p117⟩ := ho117
 obtain ⟨a117, c117, rfl⟩ := OwnS.shape p117
 obtain ⟨x217, p217⟩ := ho217
 obtain ⟨a217, c217, rfl⟩ := OwnS.shape p217
 obtain ⟨x317, p317⟩ := ho317
 obtain ⟨a317, c317, rfl⟩ := OwnS.shape p317
 refine ⟨_, rfl, ?_⟩
 refine mV rfl (o_extract rfl rfl rfl (o_extract rfl rfl rfl (o_alloc H zeroValue32 rfl rfl ?_))); intro b18 w18 hb18 H
 refine o_store_B 0 H sizeOf32 rfl rfl rfl rfl rfl rfl rfl rfl ?_; intro w19 H
 refine aG rfl (q3 (W_seq (q2 (o_loadagg_B 0 H isAgg32 sizeOf32 rfl rfl rfl rfl rfl (o_loadagg_B 8 H isAgg32 sizeOf32 rfl rfl rfl rfl rfl (o_call call19 rfl rfl (w_eqDisk_c _ _ (H.lendSubL [1, 2, 3]) _ ((Sp.SnapBack aD aName).getD ⟨[], [], []⟩) ⟨_, _, _, _, _, _, _, _, _, rfl, (H.lendOHs (k := 1) (ks := [1, 2, 3]) rfl rfl ⟨_, p117⟩), (H.lendOIs (k := 2) (ks := [1, 2, 3]) rfl rfl ⟨_, p217⟩), (H.lendOSn (k := 3) (ks := [1, 2, 3]) rfl rfl ⟨_, p317⟩)⟩ _ ((Sp.SnapBack aD aName).getD ⟨[], [], []⟩) ⟨_, _, _, _, _, _, _, _, _, rfl, (hr11.up (PPlus.le _ _ _)), (hr11'.up (PPlus.le _ _ _)), (hr11''.up (PPlus.le _ _ _))⟩ rfl) ?_))))))
 rintro _ w20 ⟨rfl, ew20⟩; have H := H.step ew20; refine ⟨_, rfl, ?_⟩
 refine o_not rfl rfl (mV rfl (gR rfl (mV rfl (gR rfl (mV rfl (gR rfl (o_bneq_same underlying4 rfl rfl rfl (o_pick_f rfl rfl rfl (q3 (W_false rfl (W_skip (N_K (W_seq (W_seq (W_drawK [0, 4, 8, 9] 5 H kR rfl ?_))))))))))))))); intro w21 H; have hd21 := PLe.refl G7
 refine RD_t 0 rfl kR rfl (fun _ hK => v_loadagg_B 1 hK isAgg32 sizeOf32 rfl rfl rfl rfl) (RD_t 1 rfl kR rfl (fun _ hK => v_loadagg_B 3 hK isAgg26 sizeOf26 rfl rfl rfl rfl) ?_)
 refine RD_run [2] kR rfl (RDs.cons rfl ?_ RDs.nil)
 refine o_call call17 rfl rfl (w_toDisk_c _ _ H.sub _ aD ⟨_, _, _, _, _, _, _, _, _, rfl, hr1, hr1', hr1''⟩ ) ?_
 rintro _ w22 ⟨_, _, rfl, H22', ⟨u122, u222, u322, D122, D222, D322, rfl, rfl, ho122, ho222, ho322⟩⟩
 have H := H.readers (fp := []) (by simp) (PLe.refl _) H22'
 obtain ⟨x122, p122⟩ := ho122
 obtain ⟨a122, c122, rfl⟩ := OwnS.shape p122
 obtain ⟨x222, p222⟩ := ho222
 obtain ⟨a222, c222, rfl⟩ := OwnS.shape p222
 obtain ⟨x322, p322⟩ := ho322
 obtain ⟨a322, c322, rfl⟩ := OwnS.shape p322
 refine ⟨_, rfl, ?_⟩
 refine R_nil (N_DK (Kn.of' H hd21 (SubL.cons 3 rfl (SubL.cons 7 rfl (SubL.cons 11 rfl (SubL.cons 12 rfl SubL.nil))))) ?_)
 refine RD_run [3] kR rfl (RDs.cons rfl ?_ RDs.nil)
 refine o_call call19 rfl rfl (w_eqDisk_c _ _ (H.lendSubL [0, 1, 2, 8, 9, 10]) _ aD ⟨_, _, _, _, _, _, _, _, _, rfl, (H.lendOHs (k := 8) (ks := [0, 1, 2, 8, 9, 10]) rfl rfl ⟨_, p114⟩), (H.lendOIs (k := 9) (ks := [0, 1, 2, 8, 9, 10]) rfl rfl ⟨_, p214⟩), (H.lendOSn (k := 10) (ks := [0, 1, 2, 8, 9, 10]) rfl rfl ⟨_, p314⟩)⟩ _ aD ⟨_, _, _, _, _, _, _, _, _, rfl, (H.lendOHs (k := 0) (ks := [0, 1, 2, 8, 9, 10]) rfl rfl ⟨_, p122⟩), (H.lendOIs (k := 1) (ks := [0, 1, 2, 8, 9, 10]) rfl rfl ⟨_, p222⟩), (H.lendOSn (k := 2) (ks := [0, 1, 2, 8, 9, 10]) rfl rfl ⟨_, p322⟩)⟩ rfl) ?_
 rintro _ w23 ⟨rfl, ew23⟩; have H := H.step ew23; refine ⟨_, rfl, ?_⟩
 refine R_nil (N_DK (Kn.of' H hd21 (SubL.cons 3 rfl (SubL.cons 7 rfl (SubL.cons 11 rfl (SubL.cons 12 rfl SubL.nil))))) (RD_t 4 rfl kR rfl (fun _ hK => v_not rfl) (RD_done kR (N_K (W_false rfl (W_skip (N_K (q2 (aG rfl (q1 (o_loadagg_B 7 H isAgg32 sizeOf32 rfl rfl rfl rfl rfl (mV rfl ?_))))))))))))
 have H := H.toFront (k := 10) rfl
 have H := H.toFront (k := 10) rfl
 have H := H.toFront (k := 10) rfl
 refine o_call call20 rfl rfl (w_markDisk_c _ _ H.sub _ _ _ _ _ _ aD ⟨_, p114⟩ ⟨_, p214⟩ ⟨_, p314⟩ _ H.lent3 oO) ?_
 rintro _ w24 ⟨G24, _, _, rfl, H24', ⟨K124, K224, K324, rfl, rfl, hK124, hK224, hK324⟩⟩
 have hr1 := hr1.up H24'.le
 have hr1' := hr1'.up H24'.le
 have hr1'' := hr1''.up H24'.le
 have hr11 := hr11.up H24'.le
 have hr11' := hr11'.up H24'.le
 have hr11'' := hr11''.up H24'.le
 have H := H.borrow3 H24'
 refine ⟨_, rfl, ?_⟩
 refine aG rfl (q3 (W_seq (q2 (mV rfl (o_lss rfl rfl rfl (mV rfl ?_))))))
 refine R_case (t := 58) rfl ?_ ?_
 ·intro hc25
  try simp only [nrm] at hc25
  exact absurd (show False from by first | omega | (simp at hc25; done) | exact hc25 rfl) id
 intro hc25'
 try simp only [nrm] at hc25'
 refine gR rfl (o_loadagg_B 6 H isAgg32 sizeOf32 rfl rfl rfl rfl rfl (gR rfl (o_loadagg_B 11 H isAgg32 sizeOf32 rfl rfl rfl rfl rfl (gR rfl (o_call call19 rfl rfl (w_eqDisk_c _ _ (H.lendSubL [7, 8, 9]) _ ((Sp.SnapBack aD aName).getD ⟨[], [], []⟩) ⟨_, _, _, _, _, _, _, _, _, rfl, (H.lendOHs (k := 7) (ks := [7, 8, 9]) rfl rfl ⟨_, p117⟩), (H.lendOIs (k := 8) (ks := [7, 8, 9]) rfl rfl ⟨_, p217⟩), (H.lendOSn (k := 9) (ks := [7, 8, 9]) rfl rfl ⟨_, p317⟩)⟩ _ ((Sp.SnapBack aD aName).getD ⟨[], [], []⟩) ⟨_, _, _, _, _, _, _, _, _, rfl, (hr11.up (PPlus.le _ _ _)), (hr11'.up (PPlus.le _ _ _)), (hr11''.up (PPlus.le _ _ _))⟩ rfl) ?_)))))
 rintro _ w26 ⟨rfl, ew26⟩; have H := H.step ew26; refine ⟨_, rfl, ?_⟩
 refine gR rfl (o_not rfl rfl (o_pick_f rfl rfl rfl (mV rfl (gR rfl (mV rfl (gR rfl (mV rfl (gR rfl (o_bneq_same underlying4 rfl rfl rfl (o_pick_f rfl rfl rfl (q3 (W_false rfl (W_skip (N_K (q2 ?_)))))))))))))))
 refine aG rfl (q1 (o_loadagg_B 6 H isAgg32 sizeOf32 rfl rfl rfl rfl rfl (mV rfl ?_)))
 have H := H.toFront (k := 9) rfl
 have H := H.toFront (k := 9) rfl
 have H := H.toFront (k := 9) rfl
 refine o_call call20 rfl rfl (w_markDisk_c _ _ H.sub _ _ _ _ _ _ ((Sp.SnapBack aD aName).getD ⟨[], [], []⟩) ⟨_, p117⟩ ⟨_, p217⟩ ⟨_, p317⟩ _ H.lent3 oO) ?_
 rintro _ w27 ⟨G27, _, _, rfl, H27', ⟨K127, K227, K327, rfl, rfl, hK127, hK227, hK327⟩⟩
 have hr1 := hr1.up H27'.le
 have hr1' := hr1'.up H27'.le
 have hr1'' := hr1''.up H27'.le
 have hr11 := hr11.up H27'.le
 have hr11' := hr11'.up H27'.le
 have hr11'' := hr11''.up H27'.le
 have H := H.borrow3 H27'
 refine ⟨_, rfl, ?_⟩
 refine aG rfl (q1 (aG rfl (q1 (o_loadagg_B 9 H isAgg32 sizeOf32 rfl rfl rfl rfl rfl (mV rfl (o_call call21 rfl rfl (w_heldDisk_c _ _ (H.lendSubL [0, 1, 2]) _ (mDisk 1 ((Sp.SnapBack aD aName).getD ⟨[], [], []⟩)) ⟨_, _, _, _, _, _, _, _, _, rfl, (H.lendOHs (k := 0) (ks := [0, 1, 2]) rfl rfl hK127), (H.lendOIs (k := 1) (ks := [0, 1, 2]) rfl rfl hK227), (H.lendOSn (k := 2) (ks := [0, 1, 2]) rfl rfl hK327)⟩ _ ((Sp.SnapBack aD aName).getD ⟨[], [], []⟩) rfl oO) ?_))))))
 rintro _ w28 ⟨rfl, ew28⟩; have H := H.step ew28; refine ⟨_, rfl, ?_⟩
 refine aG rfl (q3 (W_seq (q2 (mV rfl (o_lss rfl rfl rfl (q3 ?_))))))
 refine W_cond rfl ?_ ?_
 ·intro hc29
  try simp only [nrm] at hc29
  exact absurd (show False from by first | omega | (simp at hc29; done) | exact hc29 rfl) id
 intro hc29'
 try simp only [nrm] at hc29'
 refine W_skip (N_K (W_seq (q2 (mV rfl (mV rfl (o_neq rfl rfl rfl (q3 ?_)))))))
 refine W_cond rfl ?_ ?_
 ·intro hc30
  try simp only [nrm] at hc30
  exact absurd (show False from by first | omega | (simp at hc30; done) | exact hc30 rfl) id
 intro hc30'
 try simp only [nrm] at hc30'
 refine W_skip (N_K (q2 (o_loadagg_B 12 H isAgg26 sizeOf26 rfl rfl rfl rfl rfl (o_call call17 rfl rfl (w_toDisk_c _ _ H.sub _ aD ⟨_, _, _, _, _, _, _, _, _, rfl, hr1, hr1', hr1''⟩ ) ?_))))
 rintro _ w31 ⟨_, _, rfl, H31', ⟨u131, u231, u331, D131, D231, D331, rfl, rfl, ho131, ho231, ho331⟩⟩
 have H := H.readers (fp := []) (by simp) (PLe.refl _) H31'
 obtain ⟨x131, p131⟩ := ho131
 obtain ⟨a131, c131, rfl⟩ := OwnS.shape p131
 obtain ⟨x231, p231⟩ := ho231
 obtain ⟨a231, c231, rfl⟩ := OwnS.shape p231
 obtain ⟨x331, p331⟩ := ho331
 obtain ⟨a331, c331, rfl⟩ := OwnS.shape p331
 refine ⟨_, rfl, ?_⟩
 refine mV rfl (o_call call40 rfl rfl (i_SnapBack_c _ _ (H.lendSubL [0, 1, 2]) _ aD ⟨_, _, _, _, _, _, _, _, _, rfl, (H.lendOHs (k := 0) (ks := [0, 1, 2]) rfl rfl ⟨_, p131⟩), (H.lendOIs (k := 1) (ks := [0, 1, 2]) rfl rfl ⟨_, p231⟩), (H.lendOSn (k := 2) (ks := [0, 1, 2]) rfl rfl ⟨_, p331⟩)⟩ _ haName ) ?_)
 rintro _ w32 ⟨_, _, rfl, H32', ⟨u132, u232, u332, E132, E232, E332, rfl, rfl, ho132, ho232, ho332⟩⟩
 have H := H.readersL H32'
 obtain ⟨x132, p132⟩ := ho132
 obtain ⟨a132, c132, rfl⟩ := OwnS.shape p132
 obtain ⟨x232, p232⟩ := ho232
 obtain ⟨a232, c232, rfl⟩ := OwnS.shape p232
 obtain ⟨x332, p332⟩ := ho332
 obtain ⟨a332, c332, rfl⟩ := OwnS.shape p332
 refine ⟨_, rfl, ?_⟩
 refine mV rfl (o_extract rfl rfl rfl (o_extract rfl rfl rfl (o_alloc H zeroValue32 rfl rfl ?_))); intro b33 w33 hb33 H
 refine o_store_B 0 H sizeOf32 rfl rfl rfl rfl rfl rfl rfl rfl ?_; intro w34 H
 refine aG rfl (q3 (W_seq (q2 (o_loadagg_B 0 H isAgg32 sizeOf32 rfl rfl rfl rfl rfl (o_loadagg_B 18 H isAgg32 sizeOf32 rfl rfl rfl rfl rfl (o_call call19 rfl rfl (w_eqDisk_c _ _ (H.lendSubL [1, 2, 3]) _ ((Sp.SnapBack aD aName).getD ⟨[], [], []⟩) ⟨_, _, _, _, _, _, _, _, _, rfl, (H.lendOHs (k := 1) (ks := [1, 2, 3]) rfl rfl ⟨_, p132⟩), (H.lendOIs (k := 2) (ks := [1, 2, 3]) rfl rfl ⟨_, p232⟩), (H.lendOSn (k := 3) (ks := [1, 2, 3]) rfl rfl ⟨_, p332⟩)⟩ _ ((Sp.SnapBack aD aName).getD ⟨[], [], []⟩) ⟨_, _, _, _, _, _, _, _, _, rfl, (hr11.up (PPlus.le _ _ _)), (hr11'.up (PPlus.le _ _ _)), (hr11''.up (PPlus.le _ _ _))⟩ rfl) ?_))))))
 rintro _ w35 ⟨rfl, ew35⟩; have H := H.step ew35; refine ⟨_, rfl, ?_⟩
 refine o_not rfl rfl (mV rfl (gR rfl (mV rfl (gR rfl (mV rfl (gR rfl (o_bneq_same underlying4 rfl rfl rfl (o_pick_f rfl rfl rfl (q3 (W_false rfl (W_skip (N_K (q2 (aG rfl (q1 ?_)))))))))))))))
 refine o_loadagg_B 16 H isAgg32 sizeOf32 rfl rfl rfl rfl rfl (mV rfl (o_call call21 rfl rfl (w_heldDisk_c _ _ (H.lendSubL [7, 8, 9]) _ (mDisk 1 ((Sp.SnapBack aD aName).getD ⟨[], [], []⟩)) ⟨_, _, _, _, _, _, _, _, _, rfl, (H.lendOHs (k := 7) (ks := [7, 8, 9]) rfl rfl hK127), (H.lendOIs (k := 8) (ks := [7, 8, 9]) rfl rfl hK227), (H.lendOSn (k := 9) (ks := [7, 8, 9]) rfl rfl hK327)⟩ _ ((Sp.SnapBack aD aName).getD ⟨[], [], []⟩) rfl oO) ?_))
 rintro _ w36 ⟨rfl, ew36⟩; have H := H.step ew36; refine ⟨_, rfl, ?_⟩
 refine aG rfl (q3 (W_seq (q2 (mV rfl (o_lss rfl rfl rfl (q3 ?_))))))
 refine W_cond rfl ?_ ?_
 ·intro hc37
  try simp only [nrm] at hc37
  exact absurd (show False from by first | omega | (simp at hc37; done) | exact hc37 rfl) id
 intro hc37'
 try simp only [nrm] at hc37'
 refine W_skip (N_K (W_seq (q2 (mV rfl (mV rfl (o_neq rfl rfl rfl (q3 ?_)))))))
 refine W_cond rfl ?_ ?_
 ·intro hc38
  try simp only [nrm] at hc38
  exact absurd (show False from by first | omega | (simp at hc38; done) | exact hc38 rfl) id
 intro hc38'
 try simp only [nrm] at hc38'
 refine W_skip (N_K (q2 (aG rfl (q3 (W_ret (rt1 results6 rfl ?_))))))
 exact H.rets rfl
end Go.Proofs.Tst

namespace Fw
open Go
section
variable {H : Type} {enc : TypeId × Value → H} {P : Program} {W : World}
structure Bulk (bk : DataW H → Nat) (bka : List (DataW H) → Nat) : Prop where
 slice : ∀ es sp, bk (.slice es sp) = bka es + bka sp + 1
 agg : ∀ ps, bk (.agg ps) = bka ps + 1
 str : ∀ b, bk (.lit (.string b)) = b.length + 1
 nil : bka [] = 0
 cons : ∀ d r, bka (d :: r) = bk d + bka r
 pos : ∀ d, 1 ≤ bk d
variable {bk : DataW H → Nat} {bka : List (DataW H) → Nat}
theorem Bulk.len (hb : Bulk bk bka) : ∀ l, l.length ≤ bka l
 | [] => by simp
 | d :: r => by
  have h1 := hb.len r
  have h2 := hb.pos d
  rw [hb.cons]
  simp; omega
theorem Bulk.mem (hb : Bulk bk bka) {d : DataW H} : ∀ {l : List (DataW H)}, d ∈ l → bk d ≤ bka l
 | [], h => by simp at h
 | e :: r, h => by
  rw [hb.cons]
  rcases List.mem_cons.1 h with rfl | h
  ·omega
  ·have := hb.mem h
   omega
theorem Bulk.memF (hb : Bulk bk bka) {l : List (DataW H × List MemPlace)} {i : Nat} (hi : i < l.length) : bk (l[i]).1 ≤ bka (l.map (fun x => x.1)) :=
 hb.mem (List.mem_map.2 ⟨l[i], List.getElem_mem hi, rfl⟩)
abbrev Reads (enc : TypeId × Value → H) (P : Program) (W : World) (n : Nat) (t : TypeId) (cs : List Value) : Option (DataW H × List MemPlace) := DataW.trod enc P W 0 (fun _ => true) true n t cs
def Elem (enc : TypeId × Value → H) (P : Program) (W : World) (bk : DataW H → Nat) (t : TypeId) (sz : Nat) {α : Type} (E : PH → α → List Value → Prop) : Prop :=
 ∀ n cs x, Reads enc P W n t cs = some x → bk x.1 ≤ 1048576 → ∃ a, cs.length = sz ∧ E (PAll W) a cs
theorem elem_int {t : TypeId} (ht : P.underlying t = some (.int .i64)) : Elem enc P W bk t 1 intE := by
 intro n cs x h _
 obtain ⟨i, rfl, _, hw⟩ := DataW.trod_int ht h
 refine ⟨i, rfl, rfl, ?_⟩
 simp [Lit.wf, IntKind.min, IntKind.max, IntKind.signed, IntKind.bits] at hw
 exact ⟨by omega, by omega⟩
theorem elem_str (hb : Bulk bk bka) {t : TypeId} (ht : P.underlying t = some .string) : Elem enc P W bk t 1 strE := by
 intro n cs x h hx
 obtain ⟨s, rfl, rfl, _⟩ := DataW.trod_string ht h
 simp only [hb.str] at hx
 exact ⟨s.data.toList, rfl, rfl, by omega⟩
theorem elem_bool {t : TypeId} (ht : P.underlying t = some .bool) : Elem enc P W bk t 1 (fun _ (x : Bool) cs => cs = [.bool x]) := by
 intro n cs x h _
 obtain ⟨b, rfl, _⟩ := DataW.trod_bool ht h
 exact ⟨b, rfl, rfl⟩
theorem list_of {α : Type} {Q : Nat → α → Prop} : ∀ n, (∀ i, i < n → ∃ x, Q i x) → ∃ xs : List α, xs.length = n ∧ ∀ i x, xs[i]? = some x → Q i x
 | 0, _ => ⟨[], rfl, by simp⟩
 | n + 1, h => by
  obtain ⟨xs, h1, h2⟩ := list_of n (fun i hi => h i (by omega))
  obtain ⟨x, hx⟩ := h n (by omega)
  refine ⟨xs ++ [x], by simp [h1], fun i y hy => ?_⟩
  by_cases hi : i < n
  ·rw [List.getElem?_append_left (by omega)] at hy
   exact h2 i y hy
  ·rw [List.getElem?_append_right (by omega)] at hy
   have : i = n := by
    have := (List.getElem?_eq_some_iff.1 hy).1
    simp at this
    omega
   subst this
   simp [h1] at hy
   subst hy
   exact hx
theorem mapM_at {α β : Type} {f : α → Option β} : ∀ {l : List α} {r : List β}, l.mapM f = some r → ∀ (i : Nat) (x : α), l[i]? = some x → f x = r[i]?
 | [], r, h, i, x, hx => by simp at hx
 | y :: t, r, h, i, x, hx => by
  simp only [List.mapM_cons, Option.bind_eq_bind, Option.bind_eq_some_iff, Option.pure_def, Option.some.injEq] at h
  obtain ⟨z, h1, u, h2, rfl⟩ := h
  cases i with
  | zero => simp at hx; subst hx; simpa using h1
  | succ i => simp only [List.getElem?_cons_succ] at hx ⊢; exact mapM_at h2 i x hx
theorem pcell_of {b o : Nat} {v : Value} (h : W.cell? ⟨b, o, none⟩ = some v) : PCell (PAll W) b o v := by
 unfold World.cell? at h
 unfold PCell PAll
 split at h
 ·rename_i C e fz hb
  exact ⟨C, e, fz, hb, by simpa using h⟩
 ·cases h
theorem elem_slice {α : Type} {E : PH → α → List Value → Prop} (hb : Bulk bk bka) {t e : TypeId} {sz : Nat} (ht : P.underlying t = some (.slice e)) (hz : P.cellsOf e = sz) (hsz : 0 < sz) (hE : Elem enc P W bk e sz E) :
  ∀ n cs x, Reads enc P W n t cs = some x → bk x.1 ≤ 1048576 → ∃ v xs, cs = [v] ∧ RdS LIM E sz (PAll W) v xs := by
 intro n cs x h hx
 rcases DataW.trod_slice ht h with ⟨rfl, _⟩ | ⟨a, len, cap, elems, rest, m, _, rfl, rfl, _, h2, _, h4, h5, _, _⟩
 ·exact ⟨_, [], rfl, RdS.nil _ _ _⟩
 ·simp only [hb.slice] at hx
  rw [hz] at h5
  have hle := hb.len (elems.map (·.1))
  rw [List.length_map] at hle
  have hel : ∀ i, i < len → ∃ y : α, ∃ cs, cs.length = sz ∧ E (PAll W) y cs ∧ ∀ j v, cs[j]? = some v → W.cell? ((a.add (i * sz)).add j) = some v := by
   intro i hi
   have h6 := h5 i hi
   rw [List.getElem?_eq_getElem (by omega)] at h6
   obtain ⟨cs, k1, k2⟩ := Option.bind_eq_some_iff.1 h6
   obtain ⟨y, k3, k4⟩ := hE m cs _ k2 (Nat.le_trans (hb.memF (by omega)) (by omega))
   refine ⟨y, cs, k3, k4, fun j v hj => ?_⟩
   unfold World.cells? at k1
   split at k1
   ·have hjl := (List.getElem?_eq_some_iff.1 hj).1
    rw [← hj]
    exact mapM_at k1 j j (by rw [List.getElem?_range (by omega)])
   ·cases k1
  obtain ⟨xs, x1, x2⟩ := list_of len hel
  refine ⟨_, xs, rfl, some a, cap, by rw [x1], by omega, by simp only [LIM]; omega, ?_⟩
  by_cases h0 : len = 0
  ·exact .inl (List.eq_nil_of_length_eq_zero (by omega))
  ·right
   have hspot : a.spot = none := by
    obtain ⟨y, cs, y1, _, y2⟩ := hel 0 (by omega)
    have := World.cell?_spot (y2 0 cs[0] (by simp))
    simpa [Addr.add] using this
   obtain ⟨b, o, sp⟩ := a
   simp only at hspot
   subst hspot
   refine ⟨b, o, rfl, fun i y hy => ?_⟩
   obtain ⟨cs, c1, c2, c3⟩ := x2 i y hy
   refine ⟨cs, c1, c2, fun j v hj => pcell_of ?_⟩
   have := c3 j v hj
   rwa [Addr.add_lit, Addr.add_lit] at this
theorem struct_fields (hb : Bulk bk bka) {t : TypeId} {fs : Array Field} {k : Nat} (ht : P.underlying t = some (.struct fs)) (hk : P.cellsOf t = k) (hall : ∀ (i : Nat) (f : Field), fs[i]? = some f → f.offset = i ∧ P.cellsOf f.type = 1) :
  ∀ n cs x, Reads enc P W n t cs = some x → bk x.1 ≤ 1048576 → cs.length = k ∧ ∀ (i : Nat) (f : Field), fs[i]? = some f → i < k → ∃ v y m, cs[i]? = some v ∧ Reads enc P W m f.type [v] = some y ∧ bk y.1 ≤ 1048576 := by
 intro n cs x h hx
 obtain ⟨xs, m, _, rfl, h1, h2, h3⟩ := DataW.trod_struct ht h
 simp only [hb.agg] at hx
 rw [hk] at h1
 refine ⟨h1, fun i f hf hi => ?_⟩
 have hfi := (Array.getElem?_eq_some_iff.1 hf).1
 obtain ⟨ho, hc⟩ := hall i f hf
 have h4 := h3 i f hf
 rw [ho, hc, List.getElem?_eq_getElem (by omega)] at h4
 have e : (cs.drop i).take 1 = [cs[i]'(by omega)] := by
  rw [List.drop_eq_getElem_cons (by omega)]
  rfl
 rw [e] at h4
 exact ⟨_, _, m, List.getElem?_eq_getElem (by omega), h4, Nat.le_trans (hb.memF (by omega)) (by omega)⟩
theorem two_of {cs : List Value} {a b : Value} (h : cs.length = 2) (h0 : cs[0]? = some a) (h1 : cs[1]? = some b) : cs = [a, b] := by
 match cs, h with
 | [x, y], _ => simp at h0 h1; simp [h0, h1]
theorem three_of {cs : List Value} {a b c : Value} (h : cs.length = 3) (h0 : cs[0]? = some a) (h1 : cs[1]? = some b) (h2 : cs[2]? = some c) : cs = [a, b, c] := by
 match cs, h with
 | [x, y, z], _ => simp at h0 h1 h2; simp [h0, h1, h2]
variable {ti ts tb tis : TypeId}
theorem elem_held (hb : Bulk bk bka) {t : TypeId} {f0 f1 f2 : Field} (ht : P.underlying t = some (.struct #[f0, f1, f2])) (hk : P.cellsOf t = 3) (hall : ∀ (i : Nat) (f : Field), #[f0, f1, f2][i]? = some f → f.offset = i ∧ P.cellsOf f.type = 1)
  (e0 : f0.type = ti) (e1 : f1.type = tis) (e2 : f2.type = ti) (hi : P.underlying ti = some (.int .i64)) (his : P.underlying tis = some (.slice ti)) (hz : P.cellsOf ti = 1) : Elem enc P W bk t 3 heldE := by
 intro n cs x h hx
 obtain ⟨hl, hf⟩ := struct_fields hb ht hk hall n cs x h hx
 obtain ⟨v0, y0, m0, a0, b0, c0⟩ := hf 0 f0 rfl (by omega)
 obtain ⟨v1, y1, m1, a1, b1, c1⟩ := hf 1 f1 rfl (by omega)
 obtain ⟨v2, y2, m2, a2, b2, c2⟩ := hf 2 f2 rfl (by omega)
 rw [e0] at b0; rw [e1] at b1; rw [e2] at b2
 obtain ⟨i0, _, g0, g0'⟩ := elem_int (bk := bk) hi m0 _ _ b0 c0
 obtain ⟨i2, _, g2, g2'⟩ := elem_int (bk := bk) hi m2 _ _ b2 c2
 obtain ⟨v, xs, g1, g1'⟩ := elem_slice hb his hz (by omega) (elem_int hi) m1 _ _ b1 c1
 simp only [List.cons.injEq, and_true] at g0 g1 g2
 subst g0 g1 g2
 obtain ⟨a, c, rfl⟩ := g1'.shape
 exact ⟨⟨i0, xs, i2⟩, hl, _, _, _, three_of hl a0 a1 a2, g0', g1', g2'⟩
theorem elem_item (hb : Bulk bk bka) {t : TypeId} {f0 f1 f2 : Field} (ht : P.underlying t = some (.struct #[f0, f1, f2])) (hk : P.cellsOf t = 3) (hall : ∀ (i : Nat) (f : Field), #[f0, f1, f2][i]? = some f → f.offset = i ∧ P.cellsOf f.type = 1)
  (e0 : f0.type = ts) (e1 : f1.type = tb) (e2 : f2.type = tis) (hs : P.underlying ts = some .string) (hbo : P.underlying tb = some .bool) (hi : P.underlying ti = some (.int .i64)) (his : P.underlying tis = some (.slice ti)) (hz : P.cellsOf ti = 1) : Elem enc P W bk t 3 itemE := by
 intro n cs x h hx
 obtain ⟨hl, hf⟩ := struct_fields hb ht hk hall n cs x h hx
 obtain ⟨v0, y0, m0, a0, b0, c0⟩ := hf 0 f0 rfl (by omega)
 obtain ⟨v1, y1, m1, a1, b1, c1⟩ := hf 1 f1 rfl (by omega)
 obtain ⟨v2, y2, m2, a2, b2, c2⟩ := hf 2 f2 rfl (by omega)
 rw [e0] at b0; rw [e1] at b1; rw [e2] at b2
 obtain ⟨i0, _, g0, g0'⟩ := elem_str hb hs m0 _ _ b0 c0
 obtain ⟨i1, _, g1⟩ := elem_bool (bk := bk) hbo m1 _ _ b1 c1
 obtain ⟨v, xs, g2, g2'⟩ := elem_slice hb his hz (by omega) (elem_int hi) m2 _ _ b2 c2
 simp only [List.cons.injEq, and_true] at g0 g1 g2
 subst g0 g1 g2
 obtain ⟨a, c, rfl⟩ := g2'.shape
 exact ⟨⟨i0, i1, xs⟩, hl, _, _, _, three_of hl a0 a1 a2, g0', g2'⟩
theorem elem_snap (hb : Bulk bk bka) {t tit tits : TypeId} {f0 f1 : Field} (ht : P.underlying t = some (.struct #[f0, f1])) (hk : P.cellsOf t = 2) (hall : ∀ (i : Nat) (f : Field), #[f0, f1][i]? = some f → f.offset = i ∧ P.cellsOf f.type = 1)
  (e0 : f0.type = ts) (e1 : f1.type = tits) (hs : P.underlying ts = some .string) (his : P.underlying tits = some (.slice tit)) (hz : P.cellsOf tit = 3) (hit : Elem enc P W bk tit 3 itemE) : Elem enc P W bk t 2 snapE := by
 intro n cs x h hx
 obtain ⟨hl, hf⟩ := struct_fields hb ht hk hall n cs x h hx
 obtain ⟨v0, y0, m0, a0, b0, c0⟩ := hf 0 f0 rfl (by omega)
 obtain ⟨v1, y1, m1, a1, b1, c1⟩ := hf 1 f1 rfl (by omega)
 rw [e0] at b0; rw [e1] at b1
 obtain ⟨i0, _, g0, g0'⟩ := elem_str hb hs m0 _ _ b0 c0
 obtain ⟨v, xs, g1, g1'⟩ := elem_slice hb his hz (by omega) hit m1 _ _ b1 c1
 simp only [List.cons.injEq, and_true] at g0 g1
 subst g0 g1
 obtain ⟨a, c, rfl⟩ := g1'.shape
 exact ⟨⟨i0, xs⟩, hl, _, _, _, two_of hl a0 a1, g0', g1'⟩
theorem elem_disk (hb : Bulk bk bka) {t the thes tit tits tsn tsns : TypeId} {f0 f1 f2 : Field} (ht : P.underlying t = some (.struct #[f0, f1, f2])) (hk : P.cellsOf t = 3) (hall : ∀ (i : Nat) (f : Field), #[f0, f1, f2][i]? = some f → f.offset = i ∧ P.cellsOf f.type = 1)
  (e0 : f0.type = thes) (e1 : f1.type = tits) (e2 : f2.type = tsns) (h0 : P.underlying thes = some (.slice the)) (h1 : P.underlying tits = some (.slice tit)) (h2 : P.underlying tsns = some (.slice tsn)) (z0 : P.cellsOf the = 3) (z1 : P.cellsOf tit = 3) (z2 : P.cellsOf tsn = 2)
  (hh : Elem enc P W bk the 3 heldE) (hit : Elem enc P W bk tit 3 itemE) (hsn : Elem enc P W bk tsn 2 snapE) : Elem enc P W bk t 3 diskE := by
 intro n cs x h hx
 obtain ⟨hl, hf⟩ := struct_fields hb ht hk hall n cs x h hx
 obtain ⟨v0, y0, m0, a0, b0, c0⟩ := hf 0 f0 rfl (by omega)
 obtain ⟨v1, y1, m1, a1, b1, c1⟩ := hf 1 f1 rfl (by omega)
 obtain ⟨v2, y2, m2, a2, b2, c2⟩ := hf 2 f2 rfl (by omega)
 rw [e0] at b0; rw [e1] at b1; rw [e2] at b2
 obtain ⟨u0, x0, g0, g0'⟩ := elem_slice hb h0 z0 (by omega) hh m0 _ _ b0 c0
 obtain ⟨u1, x1, g1, g1'⟩ := elem_slice hb h1 z1 (by omega) hit m1 _ _ b1 c1
 obtain ⟨u2, x2, g2, g2'⟩ := elem_slice hb h2 z2 (by omega) hsn m2 _ _ b2 c2
 simp only [List.cons.injEq, and_true] at g0 g1 g2
 subst g0 g1 g2
 obtain ⟨a, c, rfl⟩ := g0'.shape
 obtain ⟨a', c', rfl⟩ := g1'.shape
 obtain ⟨a'', c'', rfl⟩ := g2'.shape
 exact ⟨⟨x0, x1, x2⟩, hl, _, _, _, _, _, _, _, _, _, three_of hl a0 a1 a2, g0', g1', g2'⟩
theorem same_of_ext {w w' : World} (h : Ext w w') {p : MemPlace} (hp : p.block < w.heap.size) : w.sameAt w' p := by
 have hb := h.block p.block hp
 cases p with
 | cell b off => simp only [World.sameAt, World.cell?]; simp only [MemPlace.block] at hb; rw [hb]
 | map b => simp only [World.sameAt]; simpa [MemPlace.block] using hb
end
end Fw
namespace Fw
open Go Go.ChangeShapes Go.WideShapes
section
variable {H : Type} {enc : TypeId × Value → H} {P : Program}
theorem trodAll_stays (hl : laidOutB P = true) {W W' : World} {sp' : Nat → Bool} : ∀ {ts : List TypeId} {vs : List Value} {ds : List (DataW H)} {ps : List MemPlace}, (∀ t, t ∈ ts → P.readableRec t = true ∧ t < P.types.size) →
  DataW.TrodAll enc P W 0 (fun _ => true) true ts vs ds ps → (∀ p ∈ ps, W.sameAt W' p) → (∀ p ∈ ps, sp' p.block = true) → DataW.TrodAll enc P W' 0 sp' true ts vs ds ps
 | [], _, _, _, _, h, _, _ => by
  obtain ⟨rfl, rfl, rfl⟩ := trodAll_nil h
  rfl
 | t :: ts, _, _, _, hr, h, hs, hq => by
  obtain ⟨v, vs1, d, ds1, a, b, rfl, rfl, rfl, h1, h2⟩ := trodAll_cons h
  exact ⟨a, b, WideElems.Trod_stays hl (hr t (by simp)).1 (hr t (by simp)).2 h1 (fun p hp => hs p (by simp [hp])) (fun p hp => hq p (by simp [hp])),
   trodAll_stays hl (fun t ht => hr t (by simp [ht])) h2 (fun p hp => hs p (by simp [hp])) (fun p hp => hq p (by simp [hp])), rfl⟩
theorem kept_of_ext {W W' : World} (h : Ext W W') (may : MemPlace → Prop) : W.keptBut W' may := by
 refine ⟨h.os, h.output, fun i hi => ?_⟩
 rw [h.block i hi]
 cases W.heap[i]? with
 | none => simp
 | some o => cases o <;> simp
theorem law_post {f : Func} {s : ChangeSpec} {apart fresh handsOn again : Bool} {W W' : World} {args : Array Value} {ds gs : List (DataW H)} {before : List MemPlace} (hl : laidOutB P = true) (hr : ∀ t, t ∈ f.params.toList → P.readableRec t = true ∧ t < P.types.size)
  (hv : s.vars = []) (hW : DataW.Whole enc P f.params.toList s.vars apart W args.toList ds gs before) (hx : Ext W W') (hfr : (s.fn H (ds ++ gs)).results = [.lit (.bool true)]) (hfa : (s.fn H (ds ++ gs)).args = ds) (hfv : (s.fn H (ds ++ gs)).vars = [])
  (hres : ∀ (b : Nat) (sp : Nat → Bool) (hd : Bool), DataW.TrodAll enc P W' b sp hd f.resultTypes.toList ((Value.bool true).resultList f.resultTypes.size) [.lit (.bool true)] [])
  (hok : ∀ (j : Nat) (t : TypeId) (r : Value), f.resultTypes[j]? = some t → ((Value.bool true).resultList f.resultTypes.size)[j]? = some r → Value.okWide P W' .any 0 t r) :
  s.post enc P f apart fresh handsOn again W args (.bool true) W' := by
 have hW' := hW
 obtain ⟨p, q, hA, hV, rfl, hz, hn⟩ := hW
 rw [hv] at hV
 have hgs : gs = [] ∧ q = [] := by
  cases gs with
  | nil => exact ⟨rfl, hV⟩
  | cons d r => exact hV.elim
 obtain ⟨rfl, rfl⟩ := hgs
 rw [List.append_nil] at hW' hz hn
 have hlt : ∀ m ∈ p, m.block < W.heap.size := fun m hm => hW'.lt m hm
 have hold : ∀ m ∈ p, (fun b => decide (b < W.heap.size)) m.block = true := fun m hm => by simpa using hlt m hm
 have hargs : ∀ sp : Nat → Bool, (∀ m ∈ p, sp m.block = true) → DataW.TrodAll enc P W' 0 sp true f.params.toList args.toList (s.fn H (ds ++ [])).args p := fun sp hsp => by
  rw [hfa]
  exact trodAll_stays hl hr hA (fun m hm => same_of_ext hx (hlt m hm)) hsp
 have hvars : ∀ sp : Nat → Bool, DataW.TrodVars enc P W' sp s.vars (s.fn H (ds ++ [])).vars [] := fun sp => by rw [hv, hfv]; rfl
 have hres' : ∀ (b : Nat) (sp : Nat → Bool) (hd : Bool), DataW.TrodAll enc P W' b sp hd f.resultTypes.toList ((Value.bool true).resultList f.resultTypes.size) (s.fn H (ds ++ [])).results [] := fun b sp hd => by rw [hfr]; exact hres b sp hd
 refine ⟨ds, [], p, [], p, [], hW', hres' _ _ _, hargs _ hold, hvars _, World.keptBut_mono (fun m hm => ⟨hm, Or.inr ?_⟩) (kept_of_ext hx (· ∈ p)), fun _ => ?_⟩
 ·simpa using hm
 ·refine ⟨hok, _, _, ([] ++ p) ++ [], ⟨[] ++ p, [], trodAll_append (hargs _ (fun _ _ => rfl)) (hres' _ _ _), hvars _, rfl, ?_, ?_⟩, ?_⟩
  ·intro b off hp
   have hp' : MemPlace.cell b off ∈ p := by simpa using hp
   have h1 := hz b off hp'
   have h2 := hx.block b (hlt _ hp')
   simp only [World.frozen?] at h1 ⊢
   rw [h2]
   exact h1
  ·intro ha
   simpa using hn ha
  ·intro m hm _
   simpa using hm
end
end Fw
namespace Fw
open Go Go.WideShapes
theorem agg_of {P : Program} {W : World} {b : Nat} {t : TypeId} {fs : Array Field} {v : Value} (ht : P.underlying t = some (.struct fs)) (h : Value.okWide P W .any b t v) : ∃ cs : List Value, v = .agg cs.toArray := by
 unfold Value.okWide at h
 rw [ht] at h
 obtain ⟨cs, rfl, _⟩ := h
 exact ⟨cs.toList, by simp⟩
end Fw
