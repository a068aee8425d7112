/- Part 7 of the proof: the program logic and plain functions. Conditions: none. -/
import Derived.Test.YtcnapjpnemcolaaGreatDoorProg
import Derived.Test.YtcnapjpnemcolaaGreatDoorG02
import Derived.Test.YtcnapjpnemcolaaGreatDoorG03
import Derived.Test.YtcnapjpnemcolaaGreatDoorG04
import Derived.Test.YtcnapjpnemcolaaGreatDoorG06
import Derived.Test.YtcnapjpnemcolaaGreatDoorG05
import Derived.WideKeyArgs
import Derived.ChangeArms
import Derived.DataElems
import Derived.ChangeSame
import Derived.Test.YtcnapjpnemcolaaGreatDoorRows
import Derived.LaidHandle
import Derived.LaidLaws
import Derived.ChangeVars
set_option linter.all false
set_option maxRecDepth 100000
set_option maxHeartbeats 1000000
namespace Go.Proofs.Tst
open Go Fw Tryz
theorem l91Step_c (w0 : World) (G0 : PH) (hG : PSub G0 w0) (rb : Nat) (ab : Option Addr) (mb kb : Nat) (bs : List UInt8) (p : Nat) (hbs : RdU G0 (.slice ab mb kb) bs) (hrb : w0.heap[rb]? = some (cl [.slice ab mb kb, .int .i64 (p : Int)] 107)) (hrn : G0 rb = none) (hp : p ≤ 100000000) (cu : List Value) (u : BVol) (hu : volE G0 u cu)  :
  Calls Tryz.prog 98 #[.pointer (some ⟨rb, 0, none⟩), .agg cu.toArray] w0 (RetM w0 G0 [rb] (fun G val Bs => ∃ (p' : Nat) (v1 v2 : Value) (st : List BHeld) (tr : List BItem) (b : Bool) (c : List Value), p' ≤ p + 200 ∧ val = .tuple #[.agg #[v1, v2], .bool b] ∧ Chk heldE 3 G c st ∧ st.length ≤ 16 ∧ RdItems G v2 tr ∧ Bs = [acc 42 3 v1 st.length c, blk rb (cl [.slice ab mb kb, .int .i64 (p' : Int)] 107)])) := by
 have hlimbs : bs.length ≤ 1099511627776 := hbs.lim; obtain rfl : mb = bs.length := hbs.len
 obtain ⟨a1, m1, c1, a1', m1', c1', rfl, hr1, hr1'⟩ := hu; have hn_hr1 := hr1.len; have hx_hr1 : _ ≤ 1099511627776 := hr1.lim; have hn_hr1q := hr1'.len; have hx_hr1q : _ ≤ 1099511627776 := hr1'.lim
 have H := Hp.initM hG hrb hrn
 refine calls_of_W (l := [.pointer (some ⟨rb, 0, none⟩), _]) func98 Z ntmps98 Z (q2 (o_box H Z Z Z ?_)); intro b2 w2 hb2 H
 refine o_alloc H zeroValue103 Z Z ?_; intro b3 w3 hb3 H
 refine aG Z (q3 (W_seq (q2 (mV Z (o_call call33 Z Z (pick_c _ _ H.sub _ _ _ _ _ _ hbs (H.blkIs (k := 2) Z).1 (H.blkIs (k := 2) Z).2 oM _ oO ) ?_)))))
 rintro _ w4 ⟨G4, _, _, rfl, H4', ⟨p4, x4, hp4, rfl, hxb4, rfl⟩⟩
 have hbs := hbs.up H4'.le
 have hr1 := hr1.up H4'.le
 have hr1' := hr1'.up H4'.le
 have H := H.borrow (k := 2) rfl H4'
 refine ⟨_, Z, ?_⟩
 refine q3 (W_block (W_seq (q2 (o_eql Z Z Z (aG Z (q3 ?_))))))
 refine W_cond Z ?_ ?_
 ·intro hc5
  try simp only [nrm] at hc5
  refine W_skip (N_K ?_)
  refine W_cond Z ?_ ?_
  ·intro hc6
   try simp only [nrm] at hc6
   refine W_seq (W_drawK [2] 9 H kR Z ?_); intro w7 H; have hd7 := PLe.refl G4
   refine RD_t 0 Z kR Z (fun _ hK => v_loadagg_B 0 hK isAgg103 sizeOf103 Z Z Z Z) (vM 1 Z Z ?_)
   refine RD_run [2] kR Z (RDs.cons Z ?_ RDs.nil)
   refine o_buildSlice H underlying77 sizeOf9 (fun w => ⟨_, zeroValue9 w, Z⟩) Z Z Z Z Z Z Z ?_; intro b8 w8 hb8 H
   refine R_nil (N_DK (Kn.of' H hd7 (SubL.cons 3 Z SubL.nil)) ?_)
   refine RD_run [3] kR Z (RDs.cons Z ?_ RDs.nil)
   have H := H.blkAcc 1 (k := 0) (n := 3) rfl rfl (by decide)
   have hchk10 := ((((Chk.nil (E := strE) (sz := 1) (G := G4)).snoc (show strE _ ([97] : Fw.Bs) [str [97]] from ⟨rfl, by decide⟩) rfl).snoc (show strE _ ([98] : Fw.Bs) [str [98]] from ⟨rfl, by decide⟩) rfl).snoc (show strE _ ([97, 47, 120] : Fw.Bs) [str [97, 47, 120]] from ⟨rfl, by decide⟩) rfl)
   obtain ⟨G11, H, hsg11, hsr11⟩ := H.shutM (k := 0) (j := 0) rfl rfl hchk10 aN aN
   have hbs := hbs.up hsg11
   have hr1 := hr1.up hsg11
   have hr1' := hr1'.up hsg11
   have hd7 := hd7.trans hsg11
   refine o_call call34 Z Z (of_c _ _ H.sub _ _ _ _ _ _ hbs (H.blkIs (k := 0) Z).1 (H.blkIs (k := 0) Z).2 oM _ _ hsr11 (by first | decide | (simp; done) | (simp; omega))) ?_
   rintro _ w9 ⟨G9, _, _, rfl, H9', ⟨p9, x9, hp9, rfl, hxs9, rfl⟩⟩
   have hr1 := hr1.up H9'.le
   have hr1' := hr1'.up H9'.le
   have hd7 := hd7.trans H9'.le
   have H := H.borrow (k := 0) rfl H9'
   refine ⟨_, Z, ?_⟩
   refine R_nil (N_DK (Kn.of' H hd7 (SubL.cons 2 Z SubL.nil)) ?_)
   refine RD_run [4] kR Z (RDs.cons Z ?_ RDs.nil)
   refine o_call call125 Z Z (VolumeDir_c _ _ H.sub _ u ⟨_, _, _, _, _, _, Z, hr1, hr1'⟩ _ hxs9 ) ?_
   rintro _ w12 ⟨G12, _, _, g12, rfl, ⟨u12_0, u12_1, rfl, ⟨cs12, rfl, hchk12⟩, hr12_1⟩, hp12, hq12, hs12⟩
   have H := H.growO g12 hp12 hq12 hs12; obtain ⟨av12, cv12, rfl⟩ := H.accShape (k := 0) rfl
   have hd7 := hd7.trans g12.le
   obtain ⟨a12_1, k12_1, rfl⟩ := hr12_1.shape; have hx_hr12_1 : _ ≤ 1099511627776 := hr12_1.lim
   refine ⟨_, Z, ?_⟩
   refine R_nil (N_DK (Kn.of' H hd7 (SubL.cons 3 Z SubL.nil)) (RD_t 5 Z kR Z (fun _ hK => v_extract Z Z) (RD_t 6 Z kR Z (fun _ hK => v_extract Z Z) ?_)))
   refine RD_run [7] kR Z (RDs.cons Z ?_ RDs.nil)
   refine o_store_B 2 H sizeOf103 Z Z Z Z Z Z Z Z ?_; intro w13 H
   refine R_nil (N_DK (Kn.of' H hd7 (SubL.cons 3 Z SubL.nil)) (RD_t 8 Z kR Z (fun _ hK => v_assign Z) (RD_done kR (N_K (W_ret (N_B_ret (N_K_ret (ret_gen (rs := [.cell 4 103, .tmp 5]) (vs := [_, _]) results98 ⟨⟨_, Z, load_blk 2 H isAgg103 sizeOf103 Z Z Z⟩, Z, trivial⟩ ?_))))))))
   have H := H.del (k := 2) rfl
   have H := H.del (k := 2) rfl
   have H := H.toFront (k := 1) rfl
   have H := H.toFront (k := 1) rfl
   exact H.retM ⟨_, _, _, _, _, _, _, oM, Z, hchk12, Sp.vol_len (fun u2 h2 => Sp.dir_valid h2), hr12_1, acc_1 Z⟩
  intro hc6'
  try simp only [nrm] at hc6'
  refine q2 (o_eql Z Z Z (aG Z (q3 ?_)))
  refine W_cond Z ?_ ?_
  ·intro hc14
   try simp only [nrm] at hc14
   refine W_seq (W_drawK [2] 8 H kR Z ?_); intro w15 H; have hd15 := PLe.refl G4
   refine RD_t 0 Z kR Z (fun _ hK => v_loadagg_B 0 hK isAgg103 sizeOf103 Z Z Z Z) (vM 1 Z Z ?_)
   refine RD_run [2] kR Z (RDs.cons Z ?_ RDs.nil)
   refine o_call call127 Z Z (l91Path_c _ _ H.sub _ _ _ _ _ _ hbs (H.blkIs (k := 0) Z).1 (H.blkIs (k := 0) Z).2 oM ) ?_
   rintro _ w16 ⟨G16, _, _, rfl, H16', ⟨p16, x16, hp16, rfl, hxs16, rfl⟩⟩
   have hr1 := hr1.up H16'.le
   have hr1' := hr1'.up H16'.le
   have hd15 := hd15.trans H16'.le
   have H := H.borrow (k := 0) rfl H16'
   refine ⟨_, Z, ?_⟩
   refine R_nil (N_DK (Kn.of' H hd15 (SubL.cons 2 Z SubL.nil)) ?_)
   refine RD_run [3] kR Z (RDs.cons Z ?_ RDs.nil)
   refine o_call call126 Z Z (VolumeDrop_c _ _ H.sub _ u ⟨_, _, _, _, _, _, Z, hr1, hr1'⟩ _ hxs16 ) ?_
   rintro _ w17 ⟨G17, _, _, g17, rfl, ⟨u17_0, u17_1, rfl, ⟨cs17, rfl, hchk17⟩, hr17_1⟩, hp17, hq17, hs17⟩
   have H := H.growO g17 hp17 hq17 hs17; obtain ⟨av17, cv17, rfl⟩ := H.accShape (k := 0) rfl
   have hd15 := hd15.trans g17.le
   obtain ⟨a17_1, k17_1, rfl⟩ := hr17_1.shape; have hx_hr17_1 : _ ≤ 1099511627776 := hr17_1.lim
   refine ⟨_, Z, ?_⟩
   refine R_nil (N_DK (Kn.of' H hd15 (SubL.cons 3 Z SubL.nil)) (RD_t 4 Z kR Z (fun _ hK => v_extract Z Z) (RD_t 5 Z kR Z (fun _ hK => v_extract Z Z) ?_)))
   refine RD_run [6] kR Z (RDs.cons Z ?_ RDs.nil)
   refine o_store_B 2 H sizeOf103 Z Z Z Z Z Z Z Z ?_; intro w18 H
   refine R_nil (N_DK (Kn.of' H hd15 (SubL.cons 3 Z SubL.nil)) (RD_t 7 Z kR Z (fun _ hK => v_assign Z) (RD_done kR (N_K (W_ret (N_B_ret (N_K_ret (ret_gen (rs := [.cell 4 103, .tmp 5]) (vs := [_, _]) results98 ⟨⟨_, Z, load_blk 2 H isAgg103 sizeOf103 Z Z Z⟩, Z, trivial⟩ ?_))))))))
   have H := H.del (k := 2) rfl
   have H := H.del (k := 2) rfl
   have H := H.toFront (k := 1) rfl
   have H := H.toFront (k := 1) rfl
   exact H.retM ⟨_, _, _, _, _, _, _, oM, Z, hchk17, Sp.vol_len (fun u2 h2 => Sp.drop_valid h2), hr17_1, acc_1 Z⟩
  intro hc14'
  try simp only [nrm] at hc14'
  refine W_skip (N_B (N_K (q2 (mV Z (o_buildSlice H underlying77 sizeOf9 (fun w => ⟨_, zeroValue9 w, Z⟩) Z Z Z Z Z Z Z ?_))))); intro b19 w19 hb19 H
  have H := H.blkAcc 1 (k := 0) (n := 5) rfl rfl (by decide)
  have hchk21 := ((((((Chk.nil (E := strE) (sz := 1) (G := G4)).snoc (show strE _ ([99] : Fw.Bs) [str [99]] from ⟨rfl, by decide⟩) rfl).snoc (show strE _ ([97, 47, 121] : Fw.Bs) [str [97, 47, 121]] from ⟨rfl, by decide⟩) rfl).snoc (show strE _ ([98, 47, 120] : Fw.Bs) [str [98, 47, 120]] from ⟨rfl, by decide⟩) rfl).snoc (show strE _ ([97, 47, 120, 47, 112] : Fw.Bs) [str [97, 47, 120, 47, 112]] from ⟨rfl, by decide⟩) rfl).snoc (show strE _ ([100] : Fw.Bs) [str [100]] from ⟨rfl, by decide⟩) rfl)
  obtain ⟨G22, H, hsg22, hsr22⟩ := H.shutM (k := 0) (j := 0) rfl rfl hchk21 aN aN
  have hbs := hbs.up hsg22
  have hr1 := hr1.up hsg22
  have hr1' := hr1'.up hsg22
  refine o_call call34 Z Z (of_c _ _ H.sub _ _ _ _ _ _ hbs (H.blkIs (k := 0) Z).1 (H.blkIs (k := 0) Z).2 oM _ _ hsr22 (by first | decide | (simp; done) | (simp; omega))) ?_
  rintro _ w20 ⟨G20, _, _, rfl, H20', ⟨p20, x20, hp20, rfl, hxs20, rfl⟩⟩
  have hbs := hbs.up H20'.le
  have hr1 := hr1.up H20'.le
  have hr1' := hr1'.up H20'.le
  have H := H.borrow (k := 0) rfl H20'
  refine ⟨_, Z, ?_⟩
  refine aG Z (q3 (W_seq (W_drawK [2] 9 H kR Z ?_))); intro w23 H; have hd23 := PLe.refl G20
  refine RD_t 0 Z kR Z (fun _ hK => v_loadagg_B 0 hK isAgg103 sizeOf103 Z Z Z Z) (vM 1 Z Z (vM 2 Z Z ?_))
  refine RD_run [3] kR Z (RDs.cons Z ?_ RDs.nil)
  refine o_call call101 Z Z (l91File_c _ _ H.sub _ _ _ _ _ _ hbs (H.blkIs (k := 0) Z).1 (H.blkIs (k := 0) Z).2 oM ) ?_
  rintro _ w24 ⟨G24, _, _, rfl, H24', ⟨p24, x24, v24, c24, hp24, rfl, hchk24, hxl24, rfl⟩⟩
  have hr1 := hr1.up H24'.le
  have hr1' := hr1'.up H24'.le
  have hd23 := hd23.trans H24'.le
  have H := H.borrow (k := 0) rfl H24'
  obtain ⟨av24, cv24, rfl⟩ := H.accShape (k := 0) rfl
  refine ⟨_, Z, ?_⟩
  refine R_nil (N_DK (Kn.of' H hd23 (SubL.cons 3 Z SubL.nil)) ?_)
  refine RD_run [4] kR Z (RDs.cons Z ?_ RDs.nil)
  obtain ⟨G26, H, hsg26, hsr26⟩ := H.shutM (k := 0) (j := 0) rfl rfl hchk24 aN aN
  have hr1 := hr1.up hsg26
  have hr1' := hr1'.up hsg26
  have hd23 := hd23.trans hsg26
  refine o_call call128 Z Z (VolumeWrite_c _ _ H.sub _ u ⟨_, _, _, _, _, _, Z, hr1, hr1'⟩ _ hxs20 _ _ hsr26 ) ?_
  rintro _ w25 ⟨G25, _, _, g25, rfl, ⟨u25_0, u25_1, rfl, ⟨cs25, rfl, hchk25⟩, hr25_1⟩, hp25, hq25, hs25⟩
  have H := H.growO g25 hp25 hq25 hs25; obtain ⟨av25, cv25, rfl⟩ := H.accShape (k := 0) rfl
  have hd23 := hd23.trans g25.le
  obtain ⟨a25_1, k25_1, rfl⟩ := hr25_1.shape; have hx_hr25_1 : _ ≤ 1099511627776 := hr25_1.lim
  refine ⟨_, Z, ?_⟩
  refine R_nil (N_DK (Kn.of' H hd23 (SubL.cons 3 Z SubL.nil)) (RD_t 5 Z kR Z (fun _ hK => v_extract Z Z) (RD_t 6 Z kR Z (fun _ hK => v_extract Z Z) ?_)))
  refine RD_run [7] kR Z (RDs.cons Z ?_ RDs.nil)
  refine o_store_B 2 H sizeOf103 Z Z Z Z Z Z Z Z ?_; intro w27 H
  refine R_nil (N_DK (Kn.of' H hd23 (SubL.cons 3 Z SubL.nil)) (RD_t 8 Z kR Z (fun _ hK => v_assign Z) (RD_done kR (N_K (W_ret (ret_gen (rs := [.cell 4 103, .tmp 5]) (vs := [_, _]) results98 ⟨⟨_, Z, load_blk 2 H isAgg103 sizeOf103 Z Z Z⟩, Z, trivial⟩ ?_))))))
  have H := H.del (k := 2) rfl
  have H := H.del (k := 2) rfl
  have H := H.toFront (k := 1) rfl
  have H := H.toFront (k := 1) rfl
  exact H.retM ⟨_, _, _, _, _, _, _, oM, Z, hchk25, Sp.vol_len (fun u2 h2 => Sp.vwrite_valid h2), hr25_1, acc_1 Z⟩
 intro hc5'
 try simp only [nrm] at hc5'
 refine q2 (o_eql Z Z Z (aG Z (q3 ?_)))
 refine W_cond Z ?_ ?_
 ·intro hc28
  try simp only [nrm] at hc28
  refine W_skip (N_K ?_)
  refine W_cond Z ?_ ?_
  ·intro hc29
   try simp only [nrm] at hc29
   refine W_seq (W_drawK [2] 9 H kR Z ?_); intro w30 H; have hd30 := PLe.refl G4
   refine RD_t 0 Z kR Z (fun _ hK => v_loadagg_B 0 hK isAgg103 sizeOf103 Z Z Z Z) (vM 1 Z Z ?_)
   refine RD_run [2] kR Z (RDs.cons Z ?_ RDs.nil)
   refine o_buildSlice H underlying77 sizeOf9 (fun w => ⟨_, zeroValue9 w, Z⟩) Z Z Z Z Z Z Z ?_; intro b31 w31 hb31 H
   refine R_nil (N_DK (Kn.of' H hd30 (SubL.cons 3 Z SubL.nil)) ?_)
   refine RD_run [3] kR Z (RDs.cons Z ?_ RDs.nil)
   have H := H.blkAcc 1 (k := 0) (n := 3) rfl rfl (by decide)
   have hchk33 := ((((Chk.nil (E := strE) (sz := 1) (G := G4)).snoc (show strE _ ([97] : Fw.Bs) [str [97]] from ⟨rfl, by decide⟩) rfl).snoc (show strE _ ([98] : Fw.Bs) [str [98]] from ⟨rfl, by decide⟩) rfl).snoc (show strE _ ([97, 47, 120] : Fw.Bs) [str [97, 47, 120]] from ⟨rfl, by decide⟩) rfl)
   obtain ⟨G34, H, hsg34, hsr34⟩ := H.shutM (k := 0) (j := 0) rfl rfl hchk33 aN aN
   have hbs := hbs.up hsg34
   have hr1 := hr1.up hsg34
   have hr1' := hr1'.up hsg34
   have hd30 := hd30.trans hsg34
   refine o_call call34 Z Z (of_c _ _ H.sub _ _ _ _ _ _ hbs (H.blkIs (k := 0) Z).1 (H.blkIs (k := 0) Z).2 oM _ _ hsr34 (by first | decide | (simp; done) | (simp; omega))) ?_
   rintro _ w32 ⟨G32, _, _, rfl, H32', ⟨p32, x32, hp32, rfl, hxs32, rfl⟩⟩
   have hr1 := hr1.up H32'.le
   have hr1' := hr1'.up H32'.le
   have hd30 := hd30.trans H32'.le
   have H := H.borrow (k := 0) rfl H32'
   refine ⟨_, Z, ?_⟩
   refine R_nil (N_DK (Kn.of' H hd30 (SubL.cons 2 Z SubL.nil)) ?_)
   refine RD_run [4] kR Z (RDs.cons Z ?_ RDs.nil)
   refine o_call call125 Z Z (VolumeDir_c _ _ H.sub _ u ⟨_, _, _, _, _, _, Z, hr1, hr1'⟩ _ hxs32 ) ?_
   rintro _ w35 ⟨G35, _, _, g35, rfl, ⟨u35_0, u35_1, rfl, ⟨cs35, rfl, hchk35⟩, hr35_1⟩, hp35, hq35, hs35⟩
   have H := H.growO g35 hp35 hq35 hs35; obtain ⟨av35, cv35, rfl⟩ := H.accShape (k := 0) rfl
   have hd30 := hd30.trans g35.le
   obtain ⟨a35_1, k35_1, rfl⟩ := hr35_1.shape; have hx_hr35_1 : _ ≤ 1099511627776 := hr35_1.lim
   refine ⟨_, Z, ?_⟩
   refine R_nil (N_DK (Kn.of' H hd30 (SubL.cons 3 Z SubL.nil)) (RD_t 5 Z kR Z (fun _ hK => v_extract Z Z) (RD_t 6 Z kR Z (fun _ hK => v_extract Z Z) ?_)))
   refine RD_run [7] kR Z (RDs.cons Z ?_ RDs.nil)
   refine o_store_B 2 H sizeOf103 Z Z Z Z Z Z Z Z ?_; intro w36 H
   refine R_nil (N_DK (Kn.of' H hd30 (SubL.cons 3 Z SubL.nil)) (RD_t 8 Z kR Z (fun _ hK => v_assign Z) (RD_done kR (N_K (W_ret (N_B_ret (N_K_ret (ret_gen (rs := [.cell 4 103, .tmp 5]) (vs := [_, _]) results98 ⟨⟨_, Z, load_blk 2 H isAgg103 sizeOf103 Z Z Z⟩, Z, trivial⟩ ?_))))))))
   have H := H.del (k := 2) rfl
   have H := H.del (k := 2) rfl
   have H := H.toFront (k := 1) rfl
   have H := H.toFront (k := 1) rfl
   exact H.retM ⟨_, _, _, _, _, _, _, oM, Z, hchk35, Sp.vol_len (fun u2 h2 => Sp.dir_valid h2), hr35_1, acc_1 Z⟩
  intro hc29'
  try simp only [nrm] at hc29'
  refine q2 (o_eql Z Z Z (aG Z (q3 ?_)))
  refine W_cond Z ?_ ?_
  ·intro hc37
   try simp only [nrm] at hc37
   refine W_seq (W_drawK [2] 8 H kR Z ?_); intro w38 H; have hd38 := PLe.refl G4
   refine RD_t 0 Z kR Z (fun _ hK => v_loadagg_B 0 hK isAgg103 sizeOf103 Z Z Z Z) (vM 1 Z Z ?_)
   refine RD_run [2] kR Z (RDs.cons Z ?_ RDs.nil)
   refine o_call call127 Z Z (l91Path_c _ _ H.sub _ _ _ _ _ _ hbs (H.blkIs (k := 0) Z).1 (H.blkIs (k := 0) Z).2 oM ) ?_
   rintro _ w39 ⟨G39, _, _, rfl, H39', ⟨p39, x39, hp39, rfl, hxs39, rfl⟩⟩
   have hr1 := hr1.up H39'.le
   have hr1' := hr1'.up H39'.le
   have hd38 := hd38.trans H39'.le
   have H := H.borrow (k := 0) rfl H39'
   refine ⟨_, Z, ?_⟩
   refine R_nil (N_DK (Kn.of' H hd38 (SubL.cons 2 Z SubL.nil)) ?_)
   refine RD_run [3] kR Z (RDs.cons Z ?_ RDs.nil)
   refine o_call call126 Z Z (VolumeDrop_c _ _ H.sub _ u ⟨_, _, _, _, _, _, Z, hr1, hr1'⟩ _ hxs39 ) ?_
   rintro _ w40 ⟨G40, _, _, g40, rfl, ⟨u40_0, u40_1, rfl, ⟨cs40, rfl, hchk40⟩, hr40_1⟩, hp40, hq40, hs40⟩
   have H := H.growO g40 hp40 hq40 hs40; obtain ⟨av40, cv40, rfl⟩ := H.accShape (k := 0) rfl
   have hd38 := hd38.trans g40.le
   obtain ⟨a40_1, k40_1, rfl⟩ := hr40_1.shape; have hx_hr40_1 : _ ≤ 1099511627776 := hr40_1.lim
   refine ⟨_, Z, ?_⟩
   refine R_nil (N_DK (Kn.of' H hd38 (SubL.cons 3 Z SubL.nil)) (RD_t 4 Z kR Z (fun _ hK => v_extract Z Z) (RD_t 5 Z kR Z (fun _ hK => v_extract Z Z) ?_)))
   refine RD_run [6] kR Z (RDs.cons Z ?_ RDs.nil)
   refine o_store_B 2 H sizeOf103 Z Z Z Z Z Z Z Z ?_; intro w41 H
   refine R_nil (N_DK (Kn.of' H hd38 (SubL.cons 3 Z SubL.nil)) (RD_t 7 Z kR Z (fun _ hK => v_assign Z) (RD_done kR (N_K (W_ret (N_B_ret (N_K_ret (ret_gen (rs := [.cell 4 103, .tmp 5]) (vs := [_, _]) results98 ⟨⟨_, Z, load_blk 2 H isAgg103 sizeOf103 Z Z Z⟩, Z, trivial⟩ ?_))))))))
   have H := H.del (k := 2) rfl
   have H := H.del (k := 2) rfl
   have H := H.toFront (k := 1) rfl
   have H := H.toFront (k := 1) rfl
   exact H.retM ⟨_, _, _, _, _, _, _, oM, Z, hchk40, Sp.vol_len (fun u2 h2 => Sp.drop_valid h2), hr40_1, acc_1 Z⟩
  intro hc37'
  try simp only [nrm] at hc37'
  refine W_skip (N_B (N_K (q2 (mV Z (o_buildSlice H underlying77 sizeOf9 (fun w => ⟨_, zeroValue9 w, Z⟩) Z Z Z Z Z Z Z ?_))))); intro b42 w42 hb42 H
  have H := H.blkAcc 1 (k := 0) (n := 5) rfl rfl (by decide)
  have hchk44 := ((((((Chk.nil (E := strE) (sz := 1) (G := G4)).snoc (show strE _ ([99] : Fw.Bs) [str [99]] from ⟨rfl, by decide⟩) rfl).snoc (show strE _ ([97, 47, 121] : Fw.Bs) [str [97, 47, 121]] from ⟨rfl, by decide⟩) rfl).snoc (show strE _ ([98, 47, 120] : Fw.Bs) [str [98, 47, 120]] from ⟨rfl, by decide⟩) rfl).snoc (show strE _ ([97, 47, 120, 47, 112] : Fw.Bs) [str [97, 47, 120, 47, 112]] from ⟨rfl, by decide⟩) rfl).snoc (show strE _ ([100] : Fw.Bs) [str [100]] from ⟨rfl, by decide⟩) rfl)
  obtain ⟨G45, H, hsg45, hsr45⟩ := H.shutM (k := 0) (j := 0) rfl rfl hchk44 aN aN
  have hbs := hbs.up hsg45
  have hr1 := hr1.up hsg45
  have hr1' := hr1'.up hsg45
  refine o_call call34 Z Z (of_c _ _ H.sub _ _ _ _ _ _ hbs (H.blkIs (k := 0) Z).1 (H.blkIs (k := 0) Z).2 oM _ _ hsr45 (by first | decide | (simp; done) | (simp; omega))) ?_
  rintro _ w43 ⟨G43, _, _, rfl, H43', ⟨p43, x43, hp43, rfl, hxs43, rfl⟩⟩
  have hbs := hbs.up H43'.le
  have hr1 := hr1.up H43'.le
  have hr1' := hr1'.up H43'.le
  have H := H.borrow (k := 0) rfl H43'
  refine ⟨_, Z, ?_⟩
  refine aG Z (q3 (W_seq (W_drawK [2] 9 H kR Z ?_))); intro w46 H; have hd46 := PLe.refl G43
  refine RD_t 0 Z kR Z (fun _ hK => v_loadagg_B 0 hK isAgg103 sizeOf103 Z Z Z Z) (vM 1 Z Z (vM 2 Z Z ?_))
  refine RD_run [3] kR Z (RDs.cons Z ?_ RDs.nil)
  refine o_call call101 Z Z (l91File_c _ _ H.sub _ _ _ _ _ _ hbs (H.blkIs (k := 0) Z).1 (H.blkIs (k := 0) Z).2 oM ) ?_
  rintro _ w47 ⟨G47, _, _, rfl, H47', ⟨p47, x47, v47, c47, hp47, rfl, hchk47, hxl47, rfl⟩⟩
  have hr1 := hr1.up H47'.le
  have hr1' := hr1'.up H47'.le
  have hd46 := hd46.trans H47'.le
  have H := H.borrow (k := 0) rfl H47'
  obtain ⟨av47, cv47, rfl⟩ := H.accShape (k := 0) rfl
  refine ⟨_, Z, ?_⟩
  refine R_nil (N_DK (Kn.of' H hd46 (SubL.cons 3 Z SubL.nil)) ?_)
  refine RD_run [4] kR Z (RDs.cons Z ?_ RDs.nil)
  obtain ⟨G49, H, hsg49, hsr49⟩ := H.shutM (k := 0) (j := 0) rfl rfl hchk47 aN aN
  have hr1 := hr1.up hsg49
  have hr1' := hr1'.up hsg49
  have hd46 := hd46.trans hsg49
  refine o_call call128 Z Z (VolumeWrite_c _ _ H.sub _ u ⟨_, _, _, _, _, _, Z, hr1, hr1'⟩ _ hxs43 _ _ hsr49 ) ?_
  rintro _ w48 ⟨G48, _, _, g48, rfl, ⟨u48_0, u48_1, rfl, ⟨cs48, rfl, hchk48⟩, hr48_1⟩, hp48, hq48, hs48⟩
  have H := H.growO g48 hp48 hq48 hs48; obtain ⟨av48, cv48, rfl⟩ := H.accShape (k := 0) rfl
  have hd46 := hd46.trans g48.le
  obtain ⟨a48_1, k48_1, rfl⟩ := hr48_1.shape; have hx_hr48_1 : _ ≤ 1099511627776 := hr48_1.lim
  refine ⟨_, Z, ?_⟩
  refine R_nil (N_DK (Kn.of' H hd46 (SubL.cons 3 Z SubL.nil)) (RD_t 5 Z kR Z (fun _ hK => v_extract Z Z) (RD_t 6 Z kR Z (fun _ hK => v_extract Z Z) ?_)))
  refine RD_run [7] kR Z (RDs.cons Z ?_ RDs.nil)
  refine o_store_B 2 H sizeOf103 Z Z Z Z Z Z Z Z ?_; intro w50 H
  refine R_nil (N_DK (Kn.of' H hd46 (SubL.cons 3 Z SubL.nil)) (RD_t 8 Z kR Z (fun _ hK => v_assign Z) (RD_done kR (N_K (W_ret (ret_gen (rs := [.cell 4 103, .tmp 5]) (vs := [_, _]) results98 ⟨⟨_, Z, load_blk 2 H isAgg103 sizeOf103 Z Z Z⟩, Z, trivial⟩ ?_))))))
  have H := H.del (k := 2) rfl
  have H := H.del (k := 2) rfl
  have H := H.toFront (k := 1) rfl
  have H := H.toFront (k := 1) rfl
  exact H.retM ⟨_, _, _, _, _, _, _, oM, Z, hchk48, Sp.vol_len (fun u2 h2 => Sp.vwrite_valid h2), hr48_1, acc_1 Z⟩
 intro hc28'
 try simp only [nrm] at hc28'
 refine W_region (o_eql Z Z Z (aG Z (q3 ?_)))
 refine W_cond Z ?_ ?_
 ·intro hc51
  try simp only [nrm] at hc51
  refine W_seq (W_drawK [2] 9 H kR Z ?_); intro w52 H; have hd52 := PLe.refl G4
  refine RD_t 0 Z kR Z (fun _ hK => v_loadagg_B 0 hK isAgg103 sizeOf103 Z Z Z Z) (vM 1 Z Z ?_)
  refine RD_run [2] kR Z (RDs.cons Z ?_ RDs.nil)
  refine o_buildSlice H underlying77 sizeOf9 (fun w => ⟨_, zeroValue9 w, Z⟩) Z Z Z Z Z Z Z ?_; intro b53 w53 hb53 H
  refine R_nil (N_DK (Kn.of' H hd52 (SubL.cons 3 Z SubL.nil)) ?_)
  refine RD_run [3] kR Z (RDs.cons Z ?_ RDs.nil)
  have H := H.blkAcc 1 (k := 0) (n := 3) rfl rfl (by decide)
  have hchk55 := ((((Chk.nil (E := strE) (sz := 1) (G := G4)).snoc (show strE _ ([97] : Fw.Bs) [str [97]] from ⟨rfl, by decide⟩) rfl).snoc (show strE _ ([98] : Fw.Bs) [str [98]] from ⟨rfl, by decide⟩) rfl).snoc (show strE _ ([97, 47, 120] : Fw.Bs) [str [97, 47, 120]] from ⟨rfl, by decide⟩) rfl)
  obtain ⟨G56, H, hsg56, hsr56⟩ := H.shutM (k := 0) (j := 0) rfl rfl hchk55 aN aN
  have hbs := hbs.up hsg56
  have hr1 := hr1.up hsg56
  have hr1' := hr1'.up hsg56
  have hd52 := hd52.trans hsg56
  refine o_call call34 Z Z (of_c _ _ H.sub _ _ _ _ _ _ hbs (H.blkIs (k := 0) Z).1 (H.blkIs (k := 0) Z).2 oM _ _ hsr56 (by first | decide | (simp; done) | (simp; omega))) ?_
  rintro _ w54 ⟨G54, _, _, rfl, H54', ⟨p54, x54, hp54, rfl, hxs54, rfl⟩⟩
  have hr1 := hr1.up H54'.le
  have hr1' := hr1'.up H54'.le
  have hd52 := hd52.trans H54'.le
  have H := H.borrow (k := 0) rfl H54'
  refine ⟨_, Z, ?_⟩
  refine R_nil (N_DK (Kn.of' H hd52 (SubL.cons 2 Z SubL.nil)) ?_)
  refine RD_run [4] kR Z (RDs.cons Z ?_ RDs.nil)
  refine o_call call125 Z Z (VolumeDir_c _ _ H.sub _ u ⟨_, _, _, _, _, _, Z, hr1, hr1'⟩ _ hxs54 ) ?_
  rintro _ w57 ⟨G57, _, _, g57, rfl, ⟨u57_0, u57_1, rfl, ⟨cs57, rfl, hchk57⟩, hr57_1⟩, hp57, hq57, hs57⟩
  have H := H.growO g57 hp57 hq57 hs57; obtain ⟨av57, cv57, rfl⟩ := H.accShape (k := 0) rfl
  have hd52 := hd52.trans g57.le
  obtain ⟨a57_1, k57_1, rfl⟩ := hr57_1.shape; have hx_hr57_1 : _ ≤ 1099511627776 := hr57_1.lim
  refine ⟨_, Z, ?_⟩
  refine R_nil (N_DK (Kn.of' H hd52 (SubL.cons 3 Z SubL.nil)) (RD_t 5 Z kR Z (fun _ hK => v_extract Z Z) (RD_t 6 Z kR Z (fun _ hK => v_extract Z Z) ?_)))
  refine RD_run [7] kR Z (RDs.cons Z ?_ RDs.nil)
  refine o_store_B 2 H sizeOf103 Z Z Z Z Z Z Z Z ?_; intro w58 H
  refine R_nil (N_DK (Kn.of' H hd52 (SubL.cons 3 Z SubL.nil)) (RD_t 8 Z kR Z (fun _ hK => v_assign Z) (RD_done kR (N_K (W_ret (N_B_ret (N_K_ret (ret_gen (rs := [.cell 4 103, .tmp 5]) (vs := [_, _]) results98 ⟨⟨_, Z, load_blk 2 H isAgg103 sizeOf103 Z Z Z⟩, Z, trivial⟩ ?_))))))))
  have H := H.del (k := 2) rfl
  have H := H.del (k := 2) rfl
  have H := H.toFront (k := 1) rfl
  have H := H.toFront (k := 1) rfl
  exact H.retM ⟨_, _, _, _, _, _, _, oM, Z, hchk57, Sp.vol_len (fun u2 h2 => Sp.dir_valid h2), hr57_1, acc_1 Z⟩
 intro hc51'
 try simp only [nrm] at hc51'
 refine q2 (o_eql Z Z Z (aG Z (q3 ?_)))
 refine W_cond Z ?_ ?_
 ·intro hc59
  try simp only [nrm] at hc59
  refine W_seq (W_drawK [2] 8 H kR Z ?_); intro w60 H; have hd60 := PLe.refl G4
  refine RD_t 0 Z kR Z (fun _ hK => v_loadagg_B 0 hK isAgg103 sizeOf103 Z Z Z Z) (vM 1 Z Z ?_)
  refine RD_run [2] kR Z (RDs.cons Z ?_ RDs.nil)
  refine o_call call127 Z Z (l91Path_c _ _ H.sub _ _ _ _ _ _ hbs (H.blkIs (k := 0) Z).1 (H.blkIs (k := 0) Z).2 oM ) ?_
  rintro _ w61 ⟨G61, _, _, rfl, H61', ⟨p61, x61, hp61, rfl, hxs61, rfl⟩⟩
  have hr1 := hr1.up H61'.le
  have hr1' := hr1'.up H61'.le
  have hd60 := hd60.trans H61'.le
  have H := H.borrow (k := 0) rfl H61'
  refine ⟨_, Z, ?_⟩
  refine R_nil (N_DK (Kn.of' H hd60 (SubL.cons 2 Z SubL.nil)) ?_)
  refine RD_run [3] kR Z (RDs.cons Z ?_ RDs.nil)
  refine o_call call126 Z Z (VolumeDrop_c _ _ H.sub _ u ⟨_, _, _, _, _, _, Z, hr1, hr1'⟩ _ hxs61 ) ?_
  rintro _ w62 ⟨G62, _, _, g62, rfl, ⟨u62_0, u62_1, rfl, ⟨cs62, rfl, hchk62⟩, hr62_1⟩, hp62, hq62, hs62⟩
  have H := H.growO g62 hp62 hq62 hs62; obtain ⟨av62, cv62, rfl⟩ := H.accShape (k := 0) rfl
  have hd60 := hd60.trans g62.le
  obtain ⟨a62_1, k62_1, rfl⟩ := hr62_1.shape; have hx_hr62_1 : _ ≤ 1099511627776 := hr62_1.lim
  refine ⟨_, Z, ?_⟩
  refine R_nil (N_DK (Kn.of' H hd60 (SubL.cons 3 Z SubL.nil)) (RD_t 4 Z kR Z (fun _ hK => v_extract Z Z) (RD_t 5 Z kR Z (fun _ hK => v_extract Z Z) ?_)))
  refine RD_run [6] kR Z (RDs.cons Z ?_ RDs.nil)
  refine o_store_B 2 H sizeOf103 Z Z Z Z Z Z Z Z ?_; intro w63 H
  refine R_nil (N_DK (Kn.of' H hd60 (SubL.cons 3 Z SubL.nil)) (RD_t 7 Z kR Z (fun _ hK => v_assign Z) (RD_done kR (N_K (W_ret (N_B_ret (N_K_ret (ret_gen (rs := [.cell 4 103, .tmp 5]) (vs := [_, _]) results98 ⟨⟨_, Z, load_blk 2 H isAgg103 sizeOf103 Z Z Z⟩, Z, trivial⟩ ?_))))))))
  have H := H.del (k := 2) rfl
  have H := H.del (k := 2) rfl
  have H := H.toFront (k := 1) rfl
  have H := H.toFront (k := 1) rfl
  exact H.retM ⟨_, _, _, _, _, _, _, oM, Z, hchk62, Sp.vol_len (fun u2 h2 => Sp.drop_valid h2), hr62_1, acc_1 Z⟩
 intro hc59'
 try simp only [nrm] at hc59'
 refine W_skip (N_B (N_K (q2 (mV Z (o_buildSlice H underlying77 sizeOf9 (fun w => ⟨_, zeroValue9 w, Z⟩) Z Z Z Z Z Z Z ?_))))); intro b64 w64 hb64 H
 have H := H.blkAcc 1 (k := 0) (n := 5) rfl rfl (by decide)
 have hchk66 := ((((((Chk.nil (E := strE) (sz := 1) (G := G4)).snoc (show strE _ ([99] : Fw.Bs) [str [99]] from ⟨rfl, by decide⟩) rfl).snoc (show strE _ ([97, 47, 121] : Fw.Bs) [str [97, 47, 121]] from ⟨rfl, by decide⟩) rfl).snoc (show strE _ ([98, 47, 120] : Fw.Bs) [str [98, 47, 120]] from ⟨rfl, by decide⟩) rfl).snoc (show strE _ ([97, 47, 120, 47, 112] : Fw.Bs) [str [97, 47, 120, 47, 112]] from ⟨rfl, by decide⟩) rfl).snoc (show strE _ ([100] : Fw.Bs) [str [100]] from ⟨rfl, by decide⟩) rfl)
 obtain ⟨G67, H, hsg67, hsr67⟩ := H.shutM (k := 0) (j := 0) rfl rfl hchk66 aN aN
 have hbs := hbs.up hsg67
 have hr1 := hr1.up hsg67
 have hr1' := hr1'.up hsg67
 refine o_call call34 Z Z (of_c _ _ H.sub _ _ _ _ _ _ hbs (H.blkIs (k := 0) Z).1 (H.blkIs (k := 0) Z).2 oM _ _ hsr67 (by first | decide | (simp; done) | (simp; omega))) ?_
 rintro _ w65 ⟨G65, _, _, rfl, H65', ⟨p65, x65, hp65, rfl, hxs65, rfl⟩⟩
 have hbs := hbs.up H65'.le
 have hr1 := hr1.up H65'.le
 have hr1' := hr1'.up H65'.le
 have H := H.borrow (k := 0) rfl H65'
 refine ⟨_, Z, ?_⟩
 refine aG Z (q3 (W_seq (W_drawK [2] 9 H kR Z ?_))); intro w68 H; have hd68 := PLe.refl G65
 refine RD_t 0 Z kR Z (fun _ hK => v_loadagg_B 0 hK isAgg103 sizeOf103 Z Z Z Z) (vM 1 Z Z (vM 2 Z Z ?_))
 refine RD_run [3] kR Z (RDs.cons Z ?_ RDs.nil)
 refine o_call call101 Z Z (l91File_c _ _ H.sub _ _ _ _ _ _ hbs (H.blkIs (k := 0) Z).1 (H.blkIs (k := 0) Z).2 oM ) ?_
 rintro _ w69 ⟨G69, _, _, rfl, H69', ⟨p69, x69, v69, c69, hp69, rfl, hchk69, hxl69, rfl⟩⟩
 have hr1 := hr1.up H69'.le
 have hr1' := hr1'.up H69'.le
 have hd68 := hd68.trans H69'.le
 have H := H.borrow (k := 0) rfl H69'
 obtain ⟨av69, cv69, rfl⟩ := H.accShape (k := 0) rfl
 refine ⟨_, Z, ?_⟩
 refine R_nil (N_DK (Kn.of' H hd68 (SubL.cons 3 Z SubL.nil)) ?_)
 refine RD_run [4] kR Z (RDs.cons Z ?_ RDs.nil)
 obtain ⟨G71, H, hsg71, hsr71⟩ := H.shutM (k := 0) (j := 0) rfl rfl hchk69 aN aN
 have hr1 := hr1.up hsg71
 have hr1' := hr1'.up hsg71
 have hd68 := hd68.trans hsg71
 refine o_call call128 Z Z (VolumeWrite_c _ _ H.sub _ u ⟨_, _, _, _, _, _, Z, hr1, hr1'⟩ _ hxs65 _ _ hsr71 ) ?_
 rintro _ w70 ⟨G70, _, _, g70, rfl, ⟨u70_0, u70_1, rfl, ⟨cs70, rfl, hchk70⟩, hr70_1⟩, hp70, hq70, hs70⟩
 have H := H.growO g70 hp70 hq70 hs70; obtain ⟨av70, cv70, rfl⟩ := H.accShape (k := 0) rfl
 have hd68 := hd68.trans g70.le
 obtain ⟨a70_1, k70_1, rfl⟩ := hr70_1.shape; have hx_hr70_1 : _ ≤ 1099511627776 := hr70_1.lim
 refine ⟨_, Z, ?_⟩
 refine R_nil (N_DK (Kn.of' H hd68 (SubL.cons 3 Z SubL.nil)) (RD_t 5 Z kR Z (fun _ hK => v_extract Z Z) (RD_t 6 Z kR Z (fun _ hK => v_extract Z Z) ?_)))
 refine RD_run [7] kR Z (RDs.cons Z ?_ RDs.nil)
 refine o_store_B 2 H sizeOf103 Z Z Z Z Z Z Z Z ?_; intro w72 H
 refine R_nil (N_DK (Kn.of' H hd68 (SubL.cons 3 Z SubL.nil)) (RD_t 8 Z kR Z (fun _ hK => v_assign Z) (RD_done kR (N_K (W_ret (ret_gen (rs := [.cell 4 103, .tmp 5]) (vs := [_, _]) results98 ⟨⟨_, Z, load_blk 2 H isAgg103 sizeOf103 Z Z Z⟩, Z, trivial⟩ ?_))))))
 have H := H.del (k := 2) rfl
 have H := H.del (k := 2) rfl
 have H := H.toFront (k := 1) rfl
 have H := H.toFront (k := 1) rfl
 exact H.retM ⟨_, _, _, _, _, _, _, oM, Z, hchk70, Sp.vol_len (fun u2 h2 => Sp.vwrite_valid h2), hr70_1, acc_1 Z⟩
end Go.Proofs.Tst

namespace Go.Proofs.Tst
open Go Fw Tryz
theorem l91Volume_c (w0 : World) (G0 : PH) (hG : PSub G0 w0) (rb : Nat) (ab : Option Addr) (mb kb : Nat) (bs : List UInt8) (p : Nat) (hbs : RdU G0 (.slice ab mb kb) bs) (hrb : w0.heap[rb]? = some (cl [.slice ab mb kb, .int .i64 (p : Int)] 107)) (hrn : G0 rb = none) (hp : p ≤ 10000000)  :
  Calls Tryz.prog 63 #[.pointer (some ⟨rb, 0, none⟩)] w0 (RetM w0 G0 [rb] (fun G val Bs => ∃ (p' : Nat) (v1 v2 : Value) (st : List BHeld) (tr : List BItem), p' ≤ p + 3000 ∧ val = .agg #[v1, v2] ∧ RdH G v1 st ∧ RdItems G v2 tr ∧ Bs = [blk rb (cl [.slice ab mb kb, .int .i64 (p' : Int)] 107)])) := by
 have hlimbs : bs.length ≤ 1099511627776 := hbs.lim; obtain rfl : mb = bs.length := hbs.len
 have H := Hp.initM hG hrb hrn
 refine calls_of_W (l := [.pointer (some ⟨rb, 0, none⟩)]) func63 Z ntmps63 Z (q2 (o_alloc H zeroValue103 Z Z ?_)); intro b1 w1 hb1 H
 refine q1 (o_build bf103 Z Z Z (o_alloc H zeroValue103 Z Z ?_)); intro b2 w2 hb2 H
 refine o_store_B 0 H sizeOf103 Z Z Z Z Z Z Z Z ?_; intro w3 H
 refine q1 (mV Z (o_call call33 Z Z (pick_c _ _ H.sub _ _ _ _ _ _ hbs (H.blkIs (k := 2) Z).1 (H.blkIs (k := 2) Z).2 oM _ oO ) ?_))
 rintro _ w4 ⟨G4, _, _, rfl, H4', ⟨p4, x4, hp4, rfl, hxb4, rfl⟩⟩
 have hbs := hbs.up H4'.le
 have H := H.borrow (k := 2) rfl H4'
 refine ⟨_, Z, ?_⟩
 refine o_add Z Z Z oO (aG Z (q3 (W_seq (q2 (aG Z (q3 (W_block ?_)))))))
 obtain ⟨ln6, hln6, H⟩ := H.name (k := 2) rfl
 refine W_lp (hf := (Sub.cons (t := 0) Z (Sub.cons (t := 2) Z (Sub.cons (t := 3) Z (Sub.cons (t := 4) Z Sub.nil))))) (J := fun M w m => ∃ (k : Nat) (va vb : Value) (st : List BHeld) (tr : List BItem) (pp : Nat) (G : PH), M = [(5, .int .i64 (k : Int))] ∧ PLe G4 G ∧ Hp w0 G0 [rb] w G [blk rb (cl [.slice ab bs.length kb, .int .i64 (pp : Int)] 107), blk b2 (cl [va, vb] 103), blk b1 (cl ln6 103)] ∧ (k ≤ 8 ∧ pp ≤ p + 100 + 201 * k ∧ RdH G va st ∧ RdItems G vb tr ∧ Mine w0 G va) ∧ m = (8 - k)) (h0 := ⟨0, .slice none 0 0, .slice none 0 0, [], [], p4, _, Z, PLe.refl _, H, ?inv, Z⟩) (round := ?round)
 case inv => exact ⟨by omega, by omega, RdS.nil _ _ _, RdS.nil _ _ _, Mine.nil⟩
 case round =>
  rintro _ w7 _ ⟨k, va, vb, st, tr, pp, G7, rfl, hle7, H, hinv7, rfl⟩
  subst hln6
  have hbs := hbs.up hle7
  obtain ⟨hk, hpp, hst, htr, hmine⟩ := hinv7; obtain ⟨sa, sk, rfl⟩ := hst.shape; obtain ⟨ta, tk, rfl⟩ := htr.shape; have hlst : _ ≤ 1099511627776 := hst.lim; have hltr : _ ≤ 1099511627776 := htr.lim
  refine W_seq (q2 (mV Z (mV Z (o_lss Z Z Z (q3 ?_)))))
  refine W_cond Z ?_ ?_
  ·intro hc8
   try simp only [nrm] at hc8
   refine W_skip (N_K (W_seq (W_block (q2 (mV Z (o_loadagg_B 1 H isAgg103 sizeOf103 Z Z Z Z Z (o_call call98 Z Z (l91Step_c _ _ H.sub _ _ _ _ _ _ hbs (H.blkIs (k := 0) Z).1 (H.blkIs (k := 0) Z).2 oM _ ⟨st, tr⟩ ⟨_, _, _, _, _, _, Z, hst, htr⟩ ) ?_)))))))
   rintro _ w9 ⟨G9, _, _, rfl, H9', ⟨p9, v19, v29, st9, tr9, b9, c9, hp9, rfl, hchk9, hsl9, htr9, rfl⟩⟩
   have hst := hst.up H9'.le
   have htr := htr.up H9'.le
   have hmine := hmine.up H9'.le
   have hle7 := hle7.trans H9'.le
   have H := H.borrow (k := 0) rfl H9'
   obtain ⟨av9, cv9, rfl⟩ := H.accShape (k := 0) rfl
   obtain ⟨ta9, tc9, rfl⟩ := htr9.shape; have hx_htr9 : _ ≤ 1099511627776 := htr9.lim
   refine ⟨_, Z, ?_⟩
   refine mV Z (o_extract Z Z Z (o_extract Z Z Z (o_alloc H zeroValue103 Z Z ?_))); intro b10 w10 hb10 H
   refine o_store_B 0 H sizeOf103 Z Z Z Z Z Z Z Z ?_; intro w11 H
   refine aG Z (q1 (mV Z (q3 ?_)))
   refine W_cond Z ?_ ?_
   ·intro hc12
    try simp only [nrm] at hc12
    refine W_region (o_loadagg_B 0 H isAgg103 sizeOf103 Z Z Z Z Z (o_store_B 3 H sizeOf103 Z Z Z Z Z Z Z Z ?_)); intro w13 H
    refine R_nil (N_B (N_K (W_region (mV Z (o_add Z Z Z oO (aG Z (R_nil ?_)))))))
    obtain ⟨G15, H, hsg15, hst15, hmine15⟩ := H.shutP (k := 1) (j := 1) rfl rfl hchk9 aN oM
    have htr9 := htr9.up hsg15
    have hle7 := hle7.trans hsg15
    have H := H.del (k := 0) rfl
    refine N_lp (hJ := ⟨k + 1, _, _, st9, tr9, p9, _, Z, hle7, H, ?inv, Z⟩) (hm := ?hm)
    case hm => omega
    case inv => exact ⟨by omega, by omega, hst15, htr9, hmine15⟩
   intro hc12'
   try simp only [nrm] at hc12'
   refine W_skip (N_B (N_K (W_region (mV Z (o_add Z Z Z oO (aG Z (R_nil ?_)))))))
   have H := H.del (k := 0) rfl
   have H := H.del (k := 0) rfl
   refine N_lp (hJ := ⟨k + 1, _, _, st, tr, p9, _, Z, hle7, H, ?inv, Z⟩) (hm := ?hm)
   case hm => omega
   case inv => exact ⟨by omega, by omega, hst, htr, hmine⟩
  intro hc8'
  try simp only [nrm] at hc8'
  refine W_exit (N_K_exit (N_LP_exit (N_B_same (N_K (W_seq (q2 (o_fieldAddr 0 runUnderlying103 Z sizeOf23 Z Z Z (o_load_B 1 H isAgg23 Z Z Z Z (o_len_slice underlying23 Z Z (o_gtr Z Z Z (mV Z ?_)))))))))))
  refine R_case (t := 29) Z ?_ ?_
  ·intro hc17
   try simp only [nrm] at hc17
   refine gR Z (mV Z (gR Z (o_call call33 Z Z (pick_c _ _ H.sub _ _ _ _ _ _ hbs (H.blkIs (k := 0) Z).1 (H.blkIs (k := 0) Z).2 oM _ oO ) ?_)))
   rintro _ w18 ⟨G18, _, _, rfl, H18', ⟨p18, x18, hp18, rfl, hxb18, rfl⟩⟩
   have hbs := hbs.up H18'.le
   have hst := hst.up H18'.le
   have htr := htr.up H18'.le
   have hmine := hmine.up H18'.le
   have H := H.borrow (k := 0) rfl H18'
   refine ⟨_, Z, ?_⟩
   refine gR Z (o_eql Z Z Z (o_pick_t Z Z Z (q3 ?_)))
   refine W_cond Z ?_ ?_
   ·intro hc19
    try simp only [nrm] at hc19
    refine W_drawN [1, 2] 10 H kR Z ?_; intro w20 H; have hd20 := (PLe.none : PLe _ G18)
    refine RD_t 0 Z kR Z (fun _ hK => v_fieldAddr 0 runUnderlying103 Z sizeOf23 Z Z) (RD_t 1 Z kR Z (fun _ hK => v_load_B 0 hK isAgg23 Z Z Z) (vM 2 Z Z (RD_t 3 Z kR Z (fun _ hK => v_fieldAddr 0 runUnderlying103 Z sizeOf23 Z Z) (RD_t 4 Z kR Z (fun _ hK => v_load_B 0 hK isAgg23 Z Z Z) (RD_t 5 Z kR Z (fun _ hK => v_len_slice underlying23 Z) ?_)))))
    refine RD_run [6] kR Z (RDs.cons Z ?_ RDs.nil)
    refine o_call call33 Z Z (pick_c _ _ H.sub _ _ _ _ _ _ hbs (H.blkIs (k := 0) Z).1 (H.blkIs (k := 0) Z).2 oM _ oO ) ?_
    rintro _ w21 ⟨G21, _, _, rfl, H21', ⟨p21, x21, hp21, rfl, hxb21, rfl⟩⟩
    have hst := hst.up H21'.le
    have htr := htr.up H21'.le
    have hmine := hmine.up H21'.le
    have hd20 := hd20.trans H21'.le
    have H := H.borrow (k := 0) rfl H21'
    refine ⟨_, Z, ?_⟩
    refine R_nil (N_DK (Kn.of' H hd20 (SubL.cons 1 Z (SubL.cons 2 Z SubL.nil))) ?_)
    have hl22 := hst.len
    obtain ⟨b22, o22, z22, q22, ha22, hz22, hq22, hE22, hrow22, _⟩ := hst.at (i := x21) oM
    clear hq22
    obtain ⟨a22, m22, c22, rfl, hi22, hr22, hj22⟩ := hE22; have hn_hr22 := hr22.len; have hx_hr22 : _ ≤ 1099511627776 := hr22.lim
    refine RD_t 7 Z kR Z (fun _ hK => v_index_P (i := x21) ha22 underlying23 sizeOf42 Z Z Z oM) (RD_t 8 Z kR Z (fun _ hK => v_fieldAddr 2 runUnderlying42 Z sizeOf3 Z Z) ?_)
    refine RD_run [9] kR Z (RDs.cons Z ?_ RDs.nil)
    refine o_store_mine H hG hmine ha22 sizeOf3 Z Z oO (hrow22 2 _ Z) hrb Z ?_; intro w23 G23 hgr23 H
    obtain ⟨st2, _, hst2⟩ := RdS.st hgr23 hst; obtain ⟨tr2, _, htr2⟩ := RdS.st hgr23 htr
    have hd20 := (PLe.none : PLe (fun _ => none) G23)
    refine R_nil (N_DK (Kn.of' H hd20 (SubL.cons 1 Z (SubL.cons 2 Z SubL.nil))) (RD_done kR (N_K (q2 (o_loadagg_B 1 H isAgg103 sizeOf103 Z Z Z Z Z (o_store_B 2 H sizeOf103 Z Z Z Z Z Z Z Z ?_)))))); intro w24 H
    refine q3 (W_ret (ret_gen (rs := [.cell 2 103]) (vs := [_]) results63 ⟨⟨_, Z, load_blk 2 H isAgg103 sizeOf103 Z Z Z⟩, trivial⟩ ?_))
    have H := H.del (k := 1) rfl
    have H := H.del (k := 1) rfl
    exact H.retM ⟨_, _, _, _, _, oM, Z, hst2, htr2, Z⟩
   intro hc19'
   try simp only [nrm] at hc19'
   refine W_skip (N_K (q2 (o_loadagg_B 1 H isAgg103 sizeOf103 Z Z Z Z Z (o_store_B 2 H sizeOf103 Z Z Z Z Z Z Z Z ?_)))); intro w25 H
   refine q3 (W_ret (ret_gen (rs := [.cell 2 103]) (vs := [_]) results63 ⟨⟨_, Z, load_blk 2 H isAgg103 sizeOf103 Z Z Z⟩, trivial⟩ ?_))
   have H := H.del (k := 1) rfl
   have H := H.del (k := 1) rfl
   exact H.retM ⟨_, _, _, _, _, oM, Z, hst, htr, Z⟩
  intro hc17'
  try simp only [nrm] at hc17'
  refine rP Z (rP Z (rP Z (o_pick_f Z Z Z (q3 (W_false Z (W_skip (N_K (q2 (o_loadagg_B 1 H isAgg103 sizeOf103 Z Z Z Z Z (o_store_B 2 H sizeOf103 Z Z Z Z Z Z Z Z ?_)))))))))); intro w26 H
  refine q3 (W_ret (ret_gen (rs := [.cell 2 103]) (vs := [_]) results63 ⟨⟨_, Z, load_blk 2 H isAgg103 sizeOf103 Z Z Z⟩, trivial⟩ ?_))
  have H := H.del (k := 1) rfl
  have H := H.del (k := 1) rfl
  exact H.retM ⟨_, _, _, _, _, oM, Z, hst, htr, Z⟩
end Go.Proofs.Tst

namespace Go.Proofs.Tst
open Go Fw Tryz
theorem l12Free_c (w0 : World) (G0 : PH) (hG : PSub G0 w0) (vstore : Value) (store : List (BHeld)) (hstore : RdH G0 vstore store) (vlist : Value) (list : List (BItem)) (hlist : RdItems G0 vlist list)  :
  Calls Tryz.prog 129 #[vstore, vlist] w0 (RetO w0 G0 (AccOf heldE 3 42 (Sp.l12Free store list))) := by
 obtain ⟨astore, kstore, rfl⟩ := hstore.shape
 have hlimstore : store.length ≤ 1099511627776 := hstore.lim
 obtain ⟨alist, klist, rfl⟩ := hlist.shape
 have hlimlist : list.length ≤ 1099511627776 := hlist.lim
 have H := Hp.init hG
 refine calls_of_W (l := [.slice astore store.length kstore, .slice alist list.length klist]) func129 Z ntmps129 Z (q2 (aG Z (q1 (mV Z (o_call call79 Z Z (l3Copy_c _ _ H.sub _ _ hstore ) ?_)))))
 rintro _ w1 ⟨G1, v1, _, g1, rfl, ⟨cs1, rfl, hchk1⟩, hp1, hq1, hs1⟩
 have H := H.growO g1 hp1 hq1 hs1; obtain ⟨av1, cv1, rfl⟩ := H.accShape (k := 0) rfl
 have hlist := hlist.up g1.le
 refine ⟨_, Z, ?_⟩
 refine aG Z (q3 (W_seq (q2 (aG Z (q3 (W_block ?_))))))
 refine W_lp (hf := (Sub.cons (t := 1) Z (Sub.cons (t := 4) Z Sub.nil))) (J := fun M w m => ∃ (v : Value) (n : Nat) (cs : List Value) (xs : List (BHeld)) (k : Nat) (G : PH), M = [(6, .int .i64 (k : Int)), (5, v)] ∧ PLe G1 G ∧ Hp w0 G0 [] w G [acc 42 3 v n cs] ∧ (Chk heldE 3 G cs xs ∧ n = xs.length ∧ k ≤ list.length ∧ xs.length ≤ store.length ∧ xs = Sp.l12Free store (list.take k)) ∧ m = (list.length - k)) (h0 := ⟨_, _, _, store, 0, _, Z, PLe.refl _, H, ?inv, Z⟩) (round := ?round)
 case inv => exact ⟨hchk1,  by first | rfl | simp | (simp; omega) | omega, (by exact ⟨by omega, by omega, rfl⟩)⟩
 case round =>
  rintro _ w2 _ ⟨v, n, cs, xs, k, G2, rfl, hle2, H, hinv2, rfl⟩
  have hlist := hlist.up hle2
  obtain ⟨hchk2_0, hn2_0, hinv2⟩ := hinv2
  obtain ⟨av2_0, cv2_0, rfl⟩ := H.accShape (k := 0) rfl
  obtain ⟨hk, hxl, hxs⟩ := hinv2
  refine W_seq (q2 (mV Z (mV Z (o_len_slice underlying24 Z Z (o_lss Z Z Z (q3 ?_))))))
  refine W_cond Z ?_ ?_
  ·intro hc3
   try simp only [nrm] at hc3
   refine W_skip (N_K (W_seq (W_block (q2 (mV Z (mV Z (mV Z (o_index_P k hlist underlying24 sizeOf40 Z Z Z Z aN ?_)))))))); intro b4 o4 z4 q4 hz4 hE4 hrow4
   obtain ⟨a4, m4, c4, rfl, hi4, hr4⟩ := hE4; have hy_hi4 : _ ≤ 16777216 := hi4; have hn_hr4 := hr4.len; have hx_hr4 : _ ≤ 1099511627776 := hr4.lim
   refine o_fieldAddr 2 runUnderlying40 Z sizeOf38 Z Z Z (o_load_P H isAgg38 Z Z (hrow4 2 _ Z) ?_)
   obtain ⟨G6, H, hsg6, hsr6⟩ := H.shut' (k := 0) rfl hchk2_0 aN aN
   have hr4 := hr4.up hsg6
   have hle2 := hle2.trans hsg6
   refine o_call call159 Z Z (FileFree_c _ _ H.sub _ _ hsr6 _ _ hr4 ) ?_
   rintro _ w5 ⟨G5, _, _, g5, rfl, ⟨u5_0, rfl, ⟨cs5, rfl, hchk5⟩⟩, hp5, hq5, hs5⟩
   have H := H.growO g5 hp5 hq5 hs5; obtain ⟨av5, cv5, rfl⟩ := H.accShape (k := 0) rfl
   have hle2 := hle2.trans g5.le
   refine ⟨_, Z, ?_⟩
   refine mV Z (o_extract Z Z Z (o_extract Z Z Z (aG Z (aG Z (q3 (W_region (mV Z (aG Z (R_nil (N_B (N_K (W_region (mV Z (o_add Z Z Z oO (aG Z ?_)))))))))))))))
   refine R_nil ?_
   refine N_lp (hJ := ⟨_, _, _, ((Sp.FileFree xs z4.ids).getD []), k + 1, _, Z, hle2, H, ?inv, Z⟩) (hm := ?hm)
   case hm => omega
   case inv => exact ⟨hchk5, aN, (by exact ⟨by omega, by (have := Sp.free_len xs z4.ids; omega), by (rw [Sp.l12Free_succ hz4, ← hxs])⟩)⟩
  intro hc3'
  try simp only [nrm] at hc3'
  refine W_exit (N_K_exit (N_LP_exit (N_B_same (N_K (q2 (mV Z (aG Z (q3 (W_ret (rt1 results129 Z ?_))))))))))
  obtain rfl : k = list.length := by omega
  rw [List.take_length] at hxs
  subst hxs
  exact H.retO (k := 0) rfl (AccOf.mk (by assumption) hchk2_0) (acc_nd _ _ _ _ _)
theorem SnapBack_c (w0 : World) (G0 : PH) (hG : PSub G0 w0) (cd : List Value) (d : BDisk) (hd : diskE G0 d cd) (name : Bs) (hname : name.length ≤ 16777216)  :
  Calls Tryz.prog 99 #[.agg cd.toArray, str name] w0 (RetO w0 G0 (fun G val r => ∃ u u1 u2, val = .tuple #[.agg #[u, u1, u2], .bool (Sp.SnapBack d name).isSome] ∧ AccOf snapE 2 46 (((Sp.SnapBack d name).map (·.snaps)).getD []) G u2 r ∧ RdH G u (((Sp.SnapBack d name).map (·.store)).getD []) ∧ RdItems G u1 (((Sp.SnapBack d name).map (·.tree)).getD []))) := by
 obtain ⟨a1, m1, c1, a1', m1', c1', a1'', m1'', c1'', rfl, hr1, hr1', hr1''⟩ := hd; have hn_hr1 := hr1.len; have hx_hr1 : _ ≤ 1099511627776 := hr1.lim; have hn_hr1q := hr1'.len; have hx_hr1q : _ ≤ 1099511627776 := hr1'.lim; have hn_hr1qq := hr1''.len; have hx_hr1qq : _ ≤ 1099511627776 := hr1''.lim
 have H := Hp.init hG
 refine calls_of_W (l := [_, str name]) func99 Z ntmps99 Z (q2 (o_box H Z Z Z ?_)); intro b2 w2 hb2 H
 refine o_alloc H zeroValue27 Z Z ?_; intro b3 w3 hb3 H
 refine aG Z (q1 (o_fieldAddr 2 runUnderlying27 Z sizeOf25 Z Z Z (o_load_B 1 H isAgg25 Z Z Z Z (mV Z (o_call call40 Z Z (l12At_c _ _ H.sub _ _ hr1'' _ hname ) ?_)))))
 rintro _ w4 ⟨rfl, ew4⟩; have H := H.step ew4; refine ⟨_, rfl, ?_⟩
 refine aG Z (q3 (W_seq (q2 (o_loadagg_B 1 H isAgg27 sizeOf27 Z Z Z Z Z (o_call call23 Z Z (DiskValid_c _ _ H.sub _ d ⟨_, _, _, _, _, _, _, _, _, Z, hr1, hr1', hr1''⟩ ) ?_)))))
 rintro _ w5 ⟨rfl, ew5⟩; have H := H.step ew5; refine ⟨_, rfl, ?_⟩
 refine o_not Z Z (mV Z ?_)
 refine R_case (t := 17) Z ?_ ?_
 ·intro hc6
  try simp only [nrm] at hc6
  refine rP Z (rP Z (o_pick_t Z Z Z (q3 (W_true Z (q2 (o_build bf27 Z Z Z (o_store_B 0 H sizeOf27 Z Z Z Z Z Z Z Z ?_))))))); intro w7 H
  refine aG Z (q3 (W_ret (N_K_ret (ret_gen (rs := [.cell 4 27, .tmp 5]) (vs := [_, _]) results99 ⟨⟨_, Z, load_blk 0 H isAgg27 sizeOf27 Z Z Z⟩, Z, trivial⟩ ?_))))
  have hN : Sp.SnapBack d name = none := by exact Sp.back_nov (by simpa using hc6)
  have H := H.addNil 46 2
  exact H.retO (k := 0) rfl (by rw [hN]; exact ⟨_, _, _, rfl, AccOf.mk rfl Chk.nil, RdS.nil _ _ _, RdS.nil _ _ _⟩) (acc_nd _ _ _ _ _)
 intro hc6'
 try simp only [nrm] at hc6'
 refine gR Z (mV Z (gR Z (o_lss Z Z Z (o_pick_f Z Z Z (q3 ?_)))))
 refine W_cond Z ?_ ?_
 ·intro hc8
  try simp only [nrm] at hc8
  refine q2 (o_build bf27 Z Z Z (o_store_B 0 H sizeOf27 Z Z Z Z Z Z Z Z ?_)); intro w9 H
  refine aG Z (q3 (W_ret (N_K_ret (ret_gen (rs := [.cell 4 27, .tmp 5]) (vs := [_, _]) results99 ⟨⟨_, Z, load_blk 0 H isAgg27 sizeOf27 Z Z Z⟩, Z, trivial⟩ ?_))))
  have hN : Sp.SnapBack d name = none := by exact Sp.back_noat (by simpa [Sp.l12At] using hc8)
  have H := H.addNil 46 2
  exact H.retO (k := 0) rfl (by rw [hN]; exact ⟨_, _, _, rfl, AccOf.mk rfl Chk.nil, RdS.nil _ _ _, RdS.nil _ _ _⟩) (acc_nd _ _ _ _ _)
 intro hc8'
 try simp only [nrm] at hc8'
 obtain ⟨i, x, ia, ib, ic, ie, ig⟩ := Sp.at_nat hc8'
 have ib : Sp.l12At d.snaps name = (i : Int) := ib
 have hat : Sp.atS d.snaps name = some i := ia
 refine W_skip (N_K (W_seq (W_drawK [0, 1] 14 H kR Z ?_))); intro w10 H; have hd10 := PLe.refl G0
 refine RD_t 0 Z kR Z (fun _ hK => v_fieldAddr 0 runUnderlying27 Z sizeOf23 Z Z) (RD_t 1 Z kR Z (fun _ hK => v_load_B 1 hK isAgg23 Z Z Z) (RD_t 2 Z kR Z (fun _ hK => v_fieldAddr 2 runUnderlying27 Z sizeOf25 Z Z) (RD_t 3 Z kR Z (fun _ hK => v_load_B 1 hK isAgg25 Z Z Z) (vM 4 Z Z ?_))))
 have hl11 := hr1''.len
 obtain ⟨b11, o11, z11, q11, ha11, hz11, hq11, hE11, hrow11, _⟩ := hr1''.at (i := i) oM
 clear hq11
 obtain ⟨a11, m11, c11, rfl, hi11, hr11⟩ := hE11; have hy_hi11 : _ ≤ 16777216 := hi11; have hn_hr11 := hr11.len; have hx_hr11 : _ ≤ 1099511627776 := hr11.lim
 refine RD_t 5 Z kR Z (fun _ hK => v_index_P (i := i) ha11 underlying25 sizeOf46 Z Z ib oM) (RD_t 6 Z kR Z (fun _ hK => v_fieldAddr 1 runUnderlying46 Z sizeOf24 Z Z) (RD_t 7 Z kR Z (fun _ hK => v_load_P hK isAgg24 Z (hrow11 1 _ Z)) ?_))
 refine RD_run [8] kR Z (RDs.cons Z ?_ RDs.nil)
 refine o_call call41 Z Z (l12Keep_c _ _ H.sub _ _ hr1 _ _ hr11 ) ?_
 rintro _ w12 ⟨G12, _, _, g12, rfl, ⟨u12_0, rfl, ⟨cs12, rfl, hchk12⟩⟩, hp12, hq12, hs12⟩
 have H := H.growO g12 hp12 hq12 hs12; obtain ⟨av12, cv12, rfl⟩ := H.accShape (k := 0) rfl
 have hr1 := hr1.up g12.le
 have hr1' := hr1'.up g12.le
 have hr1'' := hr1''.up g12.le
 have hd10 := hd10.trans g12.le
 refine ⟨_, Z, ?_⟩
 have hkl := Sp.l12Keep_len d.store z11.tree
 refine R_nil (N_DK (Kn.of' H hd10 (SubL.cons 1 Z (SubL.cons 2 Z SubL.nil))) (vM 9 Z Z (RD_t 10 Z kR Z (fun _ hK => v_extract Z Z) (RD_t 11 Z kR Z (fun _ hK => v_extract Z Z) (RD_t 12 Z kR Z (fun _ hK => v_assign Z) (RD_t 13 Z kR Z (fun _ hK => v_assign Z) (RD_done kR (N_K (W_seq (q2 (mV Z (o_not Z Z (q3 ?_)))))))))))))
 refine W_cond Z ?_ ?_
 ·intro hc13
  try simp only [nrm] at hc13
  refine q2 (o_build bf27 Z Z Z (o_store_B 1 H sizeOf27 Z Z Z Z Z Z Z Z ?_)); intro w14 H
  refine aG Z (q3 (W_ret (N_K_ret (ret_gen (rs := [.cell 4 27, .tmp 5]) (vs := [_, _]) results99 ⟨⟨_, Z, load_blk 1 H isAgg27 sizeOf27 Z Z Z⟩, Z, trivial⟩ ?_))))
  have hN : Sp.SnapBack d name = none := by (have hno : Sp.l12Keep d.store z11.tree = none := by simpa using hc13); (rw [Sp.back_eq (by simpa using hc6') hat hz11, hno]; rfl)
  have H := H.addNil 46 2
  exact H.retO (k := 0) rfl (by rw [hN]; exact ⟨_, _, _, rfl, AccOf.mk rfl Chk.nil, RdS.nil _ _ _, RdS.nil _ _ _⟩) (acc_nd _ _ _ _ _)
 intro hc13'
 try simp only [nrm] at hc13'
 refine W_skip (N_K (q2 (o_loadagg_B 2 H isAgg27 sizeOf27 Z Z Z Z Z (o_call call42 Z Z (l12Copy_c _ _ H.sub _ d ⟨_, _, _, _, _, _, _, _, _, Z, hr1, hr1', hr1''⟩ ) ?_))))
 rintro _ w15 ⟨G15, _, _, g15, rfl, ⟨u15_0, u15_1, u15_2, rfl, ⟨cs15, rfl, hchk15⟩, hr15_0, hr15_1⟩, hp15, hq15, hs15⟩
 have H := H.growO g15 hp15 hq15 hs15; obtain ⟨av15, cv15, rfl⟩ := H.accShape (k := 0) rfl
 have hr1' := hr1'.up g15.le
 have hr1'' := hr1''.up g15.le
 have hchk12 := hchk12.up g15.le
 obtain ⟨a15_0, k15_0, rfl⟩ := hr15_0.shape; have hx_hr15_0 : _ ≤ 1099511627776 := hr15_0.lim
 obtain ⟨a15_1, k15_1, rfl⟩ := hr15_1.shape; have hx_hr15_1 : _ ≤ 1099511627776 := hr15_1.lim
 refine ⟨_, Z, ?_⟩
 refine o_alloc H zeroValue27 Z Z ?_; intro b16 w16 hb16 H
 refine o_store_B 0 H sizeOf27 Z Z Z Z Z Z Z Z ?_; intro w17 H
 refine q1 (mV Z (o_fieldAddr 1 runUnderlying27 Z sizeOf24 Z Z Z (o_load_B 4 H isAgg24 Z Z Z Z ?_)))
 obtain ⟨G19, H, hsg19, hsr19⟩ := H.shut' (k := 2) rfl hchk12 aN aN
 have hr1' := hr1'.up hsg19
 have hr1'' := hr1''.up hsg19
 have hchk15 := hchk15.up hsg19
 refine o_call call129 Z Z (l12Free_c _ _ H.sub _ _ hsr19 _ _ hr1' ) ?_
 rintro _ w18 ⟨G18, v18, _, g18, rfl, ⟨cs18, rfl, hchk18⟩, hp18, hq18, hs18⟩
 have H := H.growO g18 hp18 hq18 hs18; obtain ⟨av18, cv18, rfl⟩ := H.accShape (k := 0) rfl
 have hr1'' := hr1''.up g18.le
 have hchk15 := hchk15.up g18.le
 refine ⟨_, Z, ?_⟩
 have hfl2 := Sp.l12Free_len d.tree ((Sp.l12Keep d.store z11.tree).getD [])
 refine o_fieldAddr 0 runUnderlying27 Z sizeOf23 Z Z Z (o_store_B 1 H sizeOf23 Z Z Z Z Z Z Z Z ?_); intro w20 H
 refine q1 (o_fieldAddr 2 runUnderlying27 Z sizeOf25 Z Z Z (o_load_B 4 H isAgg25 Z Z Z Z (mV Z (o_index_P i hr1'' underlying25 sizeOf46 Z Z Z ib aN ?_)))); intro b21 o21 z21 q21 hz21 hE21 hrow21
 obtain ⟨a21, m21, c21, rfl, hi21, hr21⟩ := hE21; have hy_hi21 : _ ≤ 16777216 := hi21; have hn_hr21 := hr21.len; have hx_hr21 : _ ≤ 1099511627776 := hr21.lim
 refine o_fieldAddr 1 runUnderlying46 Z sizeOf24 Z Z Z (o_load_P H isAgg24 Z Z (hrow21 1 _ Z) (o_call call43 Z Z (l5All_c _ _ H.sub _ _ hr21 ) ?_))
 rintro _ w22 ⟨G22, v22, _, g22, rfl, ⟨cs22, rfl, hchk22⟩, hp22, hq22, hs22⟩
 have H := H.growO g22 hp22 hq22 hs22; obtain ⟨av22, cv22, rfl⟩ := H.accShape (k := 0) rfl
 have hchk15 := hchk15.up g22.le
 have hchk18 := hchk18.up g22.le
 refine ⟨_, Z, ?_⟩
 refine o_fieldAddr 1 runUnderlying27 Z sizeOf24 Z Z Z (o_store_B 2 H sizeOf24 Z Z Z Z Z Z Z Z ?_); intro w23 H
 refine q1 (o_loadagg_B 2 H isAgg27 sizeOf27 Z Z Z Z Z (o_store_B 4 H sizeOf27 Z Z Z Z Z Z Z Z ?_)); intro w24 H
 refine aG Z (q3 (W_ret (ret_gen (rs := [.cell 4 27, .tmp 5]) (vs := [_, _]) results99 ⟨⟨_, Z, load_blk 4 H isAgg27 sizeOf27 Z Z Z⟩, Z, trivial⟩ ?_)))
 have hzz := Option.some.inj (hz21.symm.trans hz11); subst hzz
 obtain ⟨G526, H, hsg526, hsr526⟩ := H.shut' (k := 1) rfl hchk18 aN aN
 have hchk15 := hchk15.up hsg526
 have hchk22 := hchk22.up hsg526
 obtain ⟨G527, H, hsg527, hsr527⟩ := H.shut' (k := 0) rfl hchk22 aN aN
 have hchk15 := hchk15.up hsg527
 have hsr526 := hsr526.up hsg527
 have hY : Sp.SnapBack d name = some ⟨Sp.l12Free ((Sp.l12Keep d.store z21.tree).getD []) d.tree, z21.tree, d.snaps⟩ := by (obtain ⟨p, hp⟩ := Option.isSome_iff_exists.1 hc13'); (rw [Sp.back_eq (by simpa using hc6') hat hz21, hp]; rfl)
 exact H.retO (k := 1) rfl (by rw [hY]; exact ⟨_, _, _, rfl, AccOf.mk aN hchk15, hsr526, hsr527⟩) (acc_nd _ _ _ _ _)
theorem DiskWrite_c (w0 : World) (G0 : PH) (hG : PSub G0 w0) (cd : List Value) (d : BDisk) (hd : diskE G0 d cd) (path : Bs) (hpath : path.length ≤ 16777216) (vbytes : Value) (bytes : List (Int)) (hbytes : RdI G0 vbytes bytes)  :
  Calls Tryz.prog 100 #[.agg cd.toArray, str path, vbytes] w0 (RetO w0 G0 (fun G val r => ∃ u u1 u2, val = .tuple #[.agg #[u, u1, u2], .bool (Sp.DiskWrite d path bytes).isSome] ∧ AccOf snapE 2 46 (((Sp.DiskWrite d path bytes).map (·.snaps)).getD []) G u2 r ∧ RdH G u (((Sp.DiskWrite d path bytes).map (·.store)).getD []) ∧ RdItems G u1 (((Sp.DiskWrite d path bytes).map (·.tree)).getD []))) := by
 obtain ⟨a1, m1, c1, a1', m1', c1', a1'', m1'', c1'', rfl, hr1, hr1', hr1''⟩ := hd; have hn_hr1 := hr1.len; have hx_hr1 : _ ≤ 1099511627776 := hr1.lim; have hn_hr1q := hr1'.len; have hx_hr1q : _ ≤ 1099511627776 := hr1'.lim; have hn_hr1qq := hr1''.len; have hx_hr1qq : _ ≤ 1099511627776 := hr1''.lim
 obtain ⟨abytes, kbytes, rfl⟩ := hbytes.shape
 have hlimbytes : bytes.length ≤ 1099511627776 := hbytes.lim
 have H := Hp.init hG
 refine calls_of_W (l := [_, str path, .slice abytes bytes.length kbytes]) func100 Z ntmps100 Z (q2 (o_box H Z Z Z ?_)); intro b2 w2 hb2 H
 refine o_alloc H zeroValue27 Z Z ?_; intro b3 w3 hb3 H
 refine aG Z (q3 (W_seq (q2 (o_loadagg_B 1 H isAgg27 sizeOf27 Z Z Z Z Z (o_call call23 Z Z (DiskValid_c _ _ H.sub _ d ⟨_, _, _, _, _, _, _, _, _, Z, hr1, hr1', hr1''⟩ ) ?_)))))
 rintro _ w4 ⟨rfl, ew4⟩; have H := H.step ew4; refine ⟨_, rfl, ?_⟩
 refine o_not Z Z (mV Z ?_)
 refine R_case (t := 14) Z ?_ ?_
 ·intro hc5
  try simp only [nrm] at hc5
  refine rP Z (rP Z (rP Z (o_pick_t Z Z Z (q3 (W_true Z (q2 (o_build bf27 Z Z Z (o_store_B 0 H sizeOf27 Z Z Z Z Z Z Z Z ?_)))))))); intro w6 H
  refine aG Z (q3 (W_ret (N_K_ret (ret_gen (rs := [.cell 6 27, .tmp 7]) (vs := [_, _]) results100 ⟨⟨_, Z, load_blk 0 H isAgg27 sizeOf27 Z Z Z⟩, Z, trivial⟩ ?_))))
  have hN : Sp.DiskWrite d path bytes = none := by simp [Sp.DiskWrite, hc5]
  have H := H.addNil 46 2
  exact H.retO (k := 0) rfl (by rw [hN]; exact ⟨_, _, _, rfl, AccOf.mk rfl Chk.nil, RdS.nil _ _ _, RdS.nil _ _ _⟩) (acc_nd _ _ _ _ _)
 intro hc5'
 try simp only [nrm] at hc5'
 refine gR Z (mV Z (gR Z (o_call call130 Z Z (FileValid_c _ _ H.sub _ _ hbytes ) ?_)))
 rintro _ w7 ⟨rfl, ew7⟩; have H := H.step ew7; refine ⟨_, rfl, ?_⟩
 refine gR Z (o_not Z Z (o_pick_f Z Z Z (q3 ?_)))
 refine W_cond Z ?_ ?_
 ·intro hc8
  try simp only [nrm] at hc8
  refine q2 (o_build bf27 Z Z Z (o_store_B 0 H sizeOf27 Z Z Z Z Z Z Z Z ?_)); intro w9 H
  refine aG Z (q3 (W_ret (N_K_ret (ret_gen (rs := [.cell 6 27, .tmp 7]) (vs := [_, _]) results100 ⟨⟨_, Z, load_blk 0 H isAgg27 sizeOf27 Z Z Z⟩, Z, trivial⟩ ?_))))
  have hN : Sp.DiskWrite d path bytes = none := by simp [Sp.DiskWrite, hc8]
  have H := H.addNil 46 2
  exact H.retO (k := 0) rfl (by rw [hN]; exact ⟨_, _, _, rfl, AccOf.mk rfl Chk.nil, RdS.nil _ _ _, RdS.nil _ _ _⟩) (acc_nd _ _ _ _ _)
 intro hc8'
 try simp only [nrm] at hc8'
 have hfl := Sp.file_len hc8'
 refine W_skip (N_K (q2 (o_fieldAddr 0 runUnderlying27 Z sizeOf23 Z Z Z (o_load_B 1 H isAgg23 Z Z Z Z (o_fieldAddr 1 runUnderlying27 Z sizeOf24 Z Z Z (o_load_B 1 H isAgg24 Z Z Z Z (o_build bf103 Z Z Z (mV Z (mV Z (o_call call131 Z Z (l11Write_c _ _ H.sub _ ⟨d.store, d.tree⟩ ⟨_, _, _, _, _, _, Z, hr1, hr1'⟩ _ hpath _ _ hbytes oM) ?_))))))))))
 rintro _ w10 ⟨G10, _, _, g10, rfl, ⟨u10_0, u10_1, rfl, ⟨cs10, rfl, hchk10⟩, hr10_1⟩, hp10, hq10, hs10⟩
 have H := H.growO g10 hp10 hq10 hs10; obtain ⟨av10, cv10, rfl⟩ := H.accShape (k := 0) rfl
 have hr1 := hr1.up g10.le
 have hr1' := hr1'.up g10.le
 have hr1'' := hr1''.up g10.le
 obtain ⟨a10_1, k10_1, rfl⟩ := hr10_1.shape; have hx_hr10_1 : _ ≤ 1099511627776 := hr10_1.lim
 refine ⟨_, Z, ?_⟩
 have hwl := Sp.l11Write_slen ⟨d.store, d.tree⟩ path bytes
 refine mV Z (o_extract Z Z Z (o_extract Z Z Z (o_alloc H zeroValue103 Z Z ?_))); intro b11 w11 hb11 H
 refine o_store_B 0 H sizeOf103 Z Z Z Z Z Z Z Z ?_; intro w12 H
 refine aG Z (q3 (W_seq (q2 (mV Z (o_not Z Z (q3 ?_))))))
 refine W_cond Z ?_ ?_
 ·intro hc13
  try simp only [nrm] at hc13
  refine q2 (o_build bf27 Z Z Z (o_store_B 2 H sizeOf27 Z Z Z Z Z Z Z Z ?_)); intro w14 H
  refine aG Z (q3 (W_ret (N_K_ret (ret_gen (rs := [.cell 6 27, .tmp 7]) (vs := [_, _]) results100 ⟨⟨_, Z, load_blk 2 H isAgg27 sizeOf27 Z Z Z⟩, Z, trivial⟩ ?_))))
  have hN : Sp.DiskWrite d path bytes = none := by (have hno : Sp.l11Write ⟨d.store, d.tree⟩ path bytes = none := by simpa using hc13); simp [Sp.DiskWrite, hno]
  have H := H.addNil 46 2
  exact H.retO (k := 0) rfl (by rw [hN]; exact ⟨_, _, _, rfl, AccOf.mk rfl Chk.nil, RdS.nil _ _ _, RdS.nil _ _ _⟩) (acc_nd _ _ _ _ _)
 intro hc13'
 try simp only [nrm] at hc13'
 refine W_skip (N_K (q2 (o_loadagg_B 3 H isAgg27 sizeOf27 Z Z Z Z Z (o_call call42 Z Z (l12Copy_c _ _ H.sub _ d ⟨_, _, _, _, _, _, _, _, _, Z, hr1, hr1', hr1''⟩ ) ?_))))
 rintro _ w15 ⟨G15, _, _, g15, rfl, ⟨u15_0, u15_1, u15_2, rfl, ⟨cs15, rfl, hchk15⟩, hr15_0, hr15_1⟩, hp15, hq15, hs15⟩
 have H := H.growO g15 hp15 hq15 hs15; obtain ⟨av15, cv15, rfl⟩ := H.accShape (k := 0) rfl
 have hchk10 := hchk10.up g15.le
 have hr10_1 := hr10_1.up g15.le
 obtain ⟨a15_0, k15_0, rfl⟩ := hr15_0.shape; have hx_hr15_0 : _ ≤ 1099511627776 := hr15_0.lim
 obtain ⟨a15_1, k15_1, rfl⟩ := hr15_1.shape; have hx_hr15_1 : _ ≤ 1099511627776 := hr15_1.lim
 refine ⟨_, Z, ?_⟩
 refine o_alloc H zeroValue27 Z Z ?_; intro b16 w16 hb16 H
 refine o_store_B 0 H sizeOf27 Z Z Z Z Z Z Z Z ?_; intro w17 H
 refine q1 (o_fieldAddr 0 runUnderlying103 Z sizeOf23 Z Z Z (o_load_B 2 H isAgg23 Z Z Z Z (o_fieldAddr 0 runUnderlying27 Z sizeOf23 Z Z Z (o_store_B 0 H sizeOf23 Z Z Z Z Z Z Z Z ?_)))); intro w18 H
 refine q1 (o_fieldAddr 1 runUnderlying103 Z sizeOf24 Z Z Z (o_load_B 2 H isAgg24 Z Z Z Z (o_fieldAddr 1 runUnderlying27 Z sizeOf24 Z Z Z (o_store_B 0 H sizeOf24 Z Z Z Z Z Z Z Z ?_)))); intro w19 H
 refine q1 (o_loadagg_B 0 H isAgg27 sizeOf27 Z Z Z Z Z (o_store_B 4 H sizeOf27 Z Z Z Z Z Z Z Z ?_)); intro w20 H
 refine aG Z (q3 (W_ret (ret_gen (rs := [.cell 6 27, .tmp 7]) (vs := [_, _]) results100 ⟨⟨_, Z, load_blk 4 H isAgg27 sizeOf27 Z Z Z⟩, Z, trivial⟩ ?_)))
 obtain ⟨G524, H, hsg524, hsr524⟩ := H.shut' (k := 3) rfl hchk10 aN aN
 have hr10_1 := hr10_1.up hsg524
 have hchk15 := hchk15.up hsg524
 have hY : Sp.DiskWrite d path bytes = some ⟨((Sp.l11Write ⟨d.store, d.tree⟩ path bytes).map (·.store)).getD [], ((Sp.l11Write ⟨d.store, d.tree⟩ path bytes).map (·.tree)).getD [], d.snaps⟩ := by (obtain ⟨p, hp⟩ := Option.isSome_iff_exists.1 hc13'); simp [Sp.DiskWrite, hc5', hc8', hp]
 exact H.retO (k := 1) rfl (by rw [hY]; exact ⟨_, _, _, rfl, AccOf.mk aN hchk15, hsr524, hr10_1⟩) (acc_nd _ _ _ _ _)
end Go.Proofs.Tst

namespace Go.Proofs.Tst
open Go Fw Tryz
theorem SnapBackP_c (w0 : World) (G0 : PH) (hG : PSub G0 w0) (cd : List Value) (d : BDisk) (hd : diskE G0 d cd) (name : Bs) (hname : name.length ≤ 16777216) :
  Calls Tryz.prog 99 #[.agg cd.toArray, str name] w0 (RetP w0 G0 (fun G val => ∃ cs, val = .tuple #[.agg cs.toArray, .bool (Sp.SnapBack d name).isSome] ∧ diskE G ((Sp.SnapBack d name).getD ⟨[], [], []⟩) cs)) := by
 refine (SnapBack_c w0 G0 hG cd d hd name hname).mono ?_
 rintro _ w' ⟨G, v, r, g, rfl, ⟨u, u1, u2, rfl, ⟨cells, rfl, hchk⟩, h1, h2⟩, hp, hq, hs⟩
 have H := (Hp.init hG).growO g hp hq hs
 have hb : (((Sp.SnapBack d name).map (·.snaps)).getD []).length ≤ 6 := Sp.dk_lim (fun d1 h => Sp.back_valid h)
 obtain ⟨G2, H2, hle, hr⟩ := H.shut' (k := 0) rfl hchk rfl oM
 have e1 : ((Sp.SnapBack d name).map (·.store)).getD [] = ((Sp.SnapBack d name).getD ⟨[], [], []⟩).store := by cases Sp.SnapBack d name <;> rfl
 have e2 : ((Sp.SnapBack d name).map (·.tree)).getD [] = ((Sp.SnapBack d name).getD ⟨[], [], []⟩).tree := by cases Sp.SnapBack d name <;> rfl
 have e3 : ((Sp.SnapBack d name).map (·.snaps)).getD [] = ((Sp.SnapBack d name).getD ⟨[], [], []⟩).snaps := by cases Sp.SnapBack d name <;> rfl
 rw [e1] at h1; rw [e2] at h2; rw [e3] at hr
 obtain ⟨a1, c1, rfl⟩ := h1.shape
 obtain ⟨a2, c2, rfl⟩ := h2.shape
 obtain ⟨a3, c3, rfl⟩ := hr.shape
 exact H2.retP ⟨[_, _, _], Z, _, _, _, _, _, _, _, _, _, Z, h1.up hle, h2.up hle, hr⟩
theorem DiskWriteP_c (w0 : World) (G0 : PH) (hG : PSub G0 w0) (cd : List Value) (d : BDisk) (hd : diskE G0 d cd) (path : Bs) (hpath : path.length ≤ 16777216) (vbytes : Value) (bytes : List Int) (hbytes : RdI G0 vbytes bytes) :
  Calls Tryz.prog 100 #[.agg cd.toArray, str path, vbytes] w0 (RetP w0 G0 (fun G val => ∃ cs, val = .tuple #[.agg cs.toArray, .bool (Sp.DiskWrite d path bytes).isSome] ∧ diskE G ((Sp.DiskWrite d path bytes).getD ⟨[], [], []⟩) cs)) := by
 refine (DiskWrite_c w0 G0 hG cd d hd path hpath vbytes bytes hbytes).mono ?_
 rintro _ w' ⟨G, v, r, g, rfl, ⟨u, u1, u2, rfl, ⟨cells, rfl, hchk⟩, h1, h2⟩, hp, hq, hs⟩
 have H := (Hp.init hG).growO g hp hq hs
 have hb : (((Sp.DiskWrite d path bytes).map (·.snaps)).getD []).length ≤ 6 := Sp.dk_lim (fun d1 h => Sp.dwrite_valid h)
 obtain ⟨G2, H2, hle, hr⟩ := H.shut' (k := 0) rfl hchk rfl oM
 have e1 : ((Sp.DiskWrite d path bytes).map (·.store)).getD [] = ((Sp.DiskWrite d path bytes).getD ⟨[], [], []⟩).store := by cases Sp.DiskWrite d path bytes <;> rfl
 have e2 : ((Sp.DiskWrite d path bytes).map (·.tree)).getD [] = ((Sp.DiskWrite d path bytes).getD ⟨[], [], []⟩).tree := by cases Sp.DiskWrite d path bytes <;> rfl
 have e3 : ((Sp.DiskWrite d path bytes).map (·.snaps)).getD [] = ((Sp.DiskWrite d path bytes).getD ⟨[], [], []⟩).snaps := by cases Sp.DiskWrite d path bytes <;> rfl
 rw [e1] at h1; rw [e2] at h2; rw [e3] at hr
 obtain ⟨a1, c1, rfl⟩ := h1.shape
 obtain ⟨a2, c2, rfl⟩ := h2.shape
 obtain ⟨a3, c3, rfl⟩ := hr.shape
 exact H2.retP ⟨[_, _, _], Z, _, _, _, _, _, _, _, _, _, Z, h1.up hle, h2.up hle, hr⟩
end Go.Proofs.Tst

namespace Go.Proofs.Tst
open Go Fw Tryz
theorem l91Turn_c (w0 : World) (G0 : PH) (hG : PSub G0 w0) (rb : Nat) (ab : Option Addr) (mb kb : Nat) (bs : List UInt8) (p : Nat) (hbs : RdU G0 (.slice ab mb kb) bs) (hrb : w0.heap[rb]? = some (cl [.slice ab mb kb, .int .i64 (p : Int)] 107)) (hrn : G0 rb = none) (hp : p ≤ 100000000) (cd : List Value) (d : BDisk) (hd : diskE G0 d cd)  :
  Calls Tryz.prog 64 #[.pointer (some ⟨rb, 0, none⟩), .agg cd.toArray] w0 (RetM w0 G0 [rb] (fun G val Bs => ∃ (p' : Nat) (v1 v2 v3 : Value) (st : List BHeld) (tr : List BItem) (sn : List BSnap) (b : Bool), p' ≤ p + 200 ∧ val = .tuple #[.agg #[v1, v2, v3], .bool b] ∧ RdH G v1 st ∧ RdItems G v2 tr ∧ RdSn G v3 sn ∧ Bs = [blk rb (cl [.slice ab mb kb, .int .i64 (p' : Int)] 107)])) := by
 have hlimbs : bs.length ≤ 1099511627776 := hbs.lim; obtain rfl : mb = bs.length := hbs.len
 obtain ⟨a1, m1, c1, a1', m1', c1', a1'', m1'', c1'', rfl, hr1, hr1', hr1''⟩ := hd; have hn_hr1 := hr1.len; have hx_hr1 : _ ≤ 1099511627776 := hr1.lim; have hn_hr1q := hr1'.len; have hx_hr1q : _ ≤ 1099511627776 := hr1'.lim; have hn_hr1qq := hr1''.len; have hx_hr1qq : _ ≤ 1099511627776 := hr1''.lim
 have H := Hp.initM hG hrb hrn
 refine calls_of_W (l := [.pointer (some ⟨rb, 0, none⟩), _]) func64 Z ntmps64 Z (q2 (o_box H Z Z Z ?_)); intro b2 w2 hb2 H
 refine o_alloc H zeroValue27 Z Z ?_; intro b3 w3 hb3 H
 refine aG Z (q3 (W_seq (q2 (mV Z (o_call call33 Z Z (pick_c _ _ H.sub _ _ _ _ _ _ hbs (H.blkIs (k := 2) Z).1 (H.blkIs (k := 2) Z).2 oM _ oO ) ?_)))))
 rintro _ w4 ⟨G4, _, _, rfl, H4', ⟨p4, x4, hp4, rfl, hxb4, rfl⟩⟩
 have hbs := hbs.up H4'.le
 have hr1 := hr1.up H4'.le
 have hr1' := hr1'.up H4'.le
 have hr1'' := hr1''.up H4'.le
 have H := H.borrow (k := 2) rfl H4'
 refine ⟨_, Z, ?_⟩
 refine q3 (W_block (W_seq (q2 (o_eql Z Z Z (aG Z (q3 ?_))))))
 refine W_cond Z ?_ ?_
 ·intro hc5
  try simp only [nrm] at hc5
  refine W_skip (N_K ?_)
  refine W_cond Z ?_ ?_
  ·intro hc6
   try simp only [nrm] at hc6
   refine W_seq (W_drawK [2] 9 H kR Z ?_); intro w7 H; have hd7 := PLe.refl G4
   refine RD_t 0 Z kR Z (fun _ hK => v_loadagg_B 0 hK isAgg27 sizeOf27 Z Z Z Z) (vM 1 Z Z ?_)
   refine RD_run [2] kR Z (RDs.cons Z ?_ RDs.nil)
   refine o_buildSlice H underlying77 sizeOf9 (fun w => ⟨_, zeroValue9 w, Z⟩) Z Z Z Z Z Z Z ?_; intro b8 w8 hb8 H
   refine R_nil (N_DK (Kn.of' H hd7 (SubL.cons 3 Z SubL.nil)) ?_)
   refine RD_run [3] kR Z (RDs.cons Z ?_ RDs.nil)
   have H := H.blkAcc 1 (k := 0) (n := 3) rfl rfl (by decide)
   have hchk10 := ((((Chk.nil (E := strE) (sz := 1) (G := G4)).snoc (show strE _ ([115] : Fw.Bs) [str [115]] from ⟨rfl, by decide⟩) rfl).snoc (show strE _ ([116] : Fw.Bs) [str [116]] from ⟨rfl, by decide⟩) rfl).snoc (show strE _ ([117] : Fw.Bs) [str [117]] from ⟨rfl, by decide⟩) rfl)
   obtain ⟨G11, H, hsg11, hsr11⟩ := H.shutM (k := 0) (j := 0) rfl rfl hchk10 aN aN
   have hbs := hbs.up hsg11
   have hr1 := hr1.up hsg11
   have hr1' := hr1'.up hsg11
   have hr1'' := hr1''.up hsg11
   have hd7 := hd7.trans hsg11
   refine o_call call34 Z Z (of_c _ _ H.sub _ _ _ _ _ _ hbs (H.blkIs (k := 0) Z).1 (H.blkIs (k := 0) Z).2 oM _ _ hsr11 (by first | decide | (simp; done) | (simp; omega))) ?_
   rintro _ w9 ⟨G9, _, _, rfl, H9', ⟨p9, x9, hp9, rfl, hxs9, rfl⟩⟩
   have hr1 := hr1.up H9'.le
   have hr1' := hr1'.up H9'.le
   have hr1'' := hr1''.up H9'.le
   have hd7 := hd7.trans H9'.le
   have H := H.borrow (k := 0) rfl H9'
   refine ⟨_, Z, ?_⟩
   refine R_nil (N_DK (Kn.of' H hd7 (SubL.cons 2 Z SubL.nil)) ?_)
   refine RD_run [4] kR Z (RDs.cons Z ?_ RDs.nil)
   refine o_call call17 Z Z (SnapTakeP_c _ _ H.sub _ d ⟨_, _, _, _, _, _, _, _, _, Z, hr1, hr1', hr1''⟩ _ hxs9 ) ?_
   rintro _ w12 ⟨G12, _, g12, rfl, u12_0, rfl, hr12_0⟩
   have H := H.grow g12
   have hd7 := hd7.trans g12.le
   obtain ⟨a13, m13, c13, a13', m13', c13', a13'', m13'', c13'', rfl, hr13, hr13', hr13''⟩ := hr12_0; have hn_hr13 := hr13.len; have hx_hr13 : _ ≤ 1099511627776 := hr13.lim; have hn_hr13q := hr13'.len; have hx_hr13q : _ ≤ 1099511627776 := hr13'.lim; have hn_hr13qq := hr13''.len; have hx_hr13qq : _ ≤ 1099511627776 := hr13''.lim
   refine ⟨_, Z, ?_⟩
   refine R_nil (N_DK (Kn.of' H hd7 (SubL.cons 2 Z SubL.nil)) (RD_t 5 Z kR Z (fun _ hK => v_extract Z Z) (RD_t 6 Z kR Z (fun _ hK => v_extract Z Z) ?_)))
   refine RD_run [7] kR Z (RDs.cons Z ?_ RDs.nil)
   refine o_store_B 1 H sizeOf27 Z Z Z Z Z Z Z Z ?_; intro w14 H
   refine R_nil (N_DK (Kn.of' H hd7 (SubL.cons 2 Z SubL.nil)) (RD_t 8 Z kR Z (fun _ hK => v_assign Z) (RD_done kR (N_K (W_ret (N_B_ret (N_K_ret (ret_gen (rs := [.cell 4 27, .tmp 5]) (vs := [_, _]) results64 ⟨⟨_, Z, load_blk 1 H isAgg27 sizeOf27 Z Z Z⟩, Z, trivial⟩ ?_))))))))
   have H := H.del (k := 1) rfl
   have H := H.del (k := 1) rfl
   exact H.retM ⟨_, _, _, _, _, _, _, _, oM, Z, hr13, hr13', hr13'', Z⟩
  intro hc6'
  try simp only [nrm] at hc6'
  refine q2 (o_eql Z Z Z (aG Z (q3 ?_)))
  refine W_cond Z ?_ ?_
  ·intro hc15
   try simp only [nrm] at hc15
   refine W_seq (W_drawK [2] 9 H kR Z ?_); intro w16 H; have hd16 := PLe.refl G4
   refine RD_t 0 Z kR Z (fun _ hK => v_loadagg_B 0 hK isAgg27 sizeOf27 Z Z Z Z) (vM 1 Z Z ?_)
   refine RD_run [2] kR Z (RDs.cons Z ?_ RDs.nil)
   refine o_buildSlice H underlying77 sizeOf9 (fun w => ⟨_, zeroValue9 w, Z⟩) Z Z Z Z Z Z Z ?_; intro b17 w17 hb17 H
   refine R_nil (N_DK (Kn.of' H hd16 (SubL.cons 3 Z SubL.nil)) ?_)
   refine RD_run [3] kR Z (RDs.cons Z ?_ RDs.nil)
   have H := H.blkAcc 1 (k := 0) (n := 2) rfl rfl (by decide)
   have hchk19 := (((Chk.nil (E := strE) (sz := 1) (G := G4)).snoc (show strE _ ([115] : Fw.Bs) [str [115]] from ⟨rfl, by decide⟩) rfl).snoc (show strE _ ([116] : Fw.Bs) [str [116]] from ⟨rfl, by decide⟩) rfl)
   obtain ⟨G20, H, hsg20, hsr20⟩ := H.shutM (k := 0) (j := 0) rfl rfl hchk19 aN aN
   have hbs := hbs.up hsg20
   have hr1 := hr1.up hsg20
   have hr1' := hr1'.up hsg20
   have hr1'' := hr1''.up hsg20
   have hd16 := hd16.trans hsg20
   refine o_call call34 Z Z (of_c _ _ H.sub _ _ _ _ _ _ hbs (H.blkIs (k := 0) Z).1 (H.blkIs (k := 0) Z).2 oM _ _ hsr20 (by first | decide | (simp; done) | (simp; omega))) ?_
   rintro _ w18 ⟨G18, _, _, rfl, H18', ⟨p18, x18, hp18, rfl, hxs18, rfl⟩⟩
   have hr1 := hr1.up H18'.le
   have hr1' := hr1'.up H18'.le
   have hr1'' := hr1''.up H18'.le
   have hd16 := hd16.trans H18'.le
   have H := H.borrow (k := 0) rfl H18'
   refine ⟨_, Z, ?_⟩
   refine R_nil (N_DK (Kn.of' H hd16 (SubL.cons 2 Z SubL.nil)) ?_)
   refine RD_run [4] kR Z (RDs.cons Z ?_ RDs.nil)
   refine o_call call99 Z Z (SnapBackP_c _ _ H.sub _ d ⟨_, _, _, _, _, _, _, _, _, Z, hr1, hr1', hr1''⟩ _ hxs18 ) ?_
   rintro _ w21 ⟨G21, _, g21, rfl, u21_0, rfl, hr21_0⟩
   have H := H.grow g21
   have hd16 := hd16.trans g21.le
   obtain ⟨a22, m22, c22, a22', m22', c22', a22'', m22'', c22'', rfl, hr22, hr22', hr22''⟩ := hr21_0; have hn_hr22 := hr22.len; have hx_hr22 : _ ≤ 1099511627776 := hr22.lim; have hn_hr22q := hr22'.len; have hx_hr22q : _ ≤ 1099511627776 := hr22'.lim; have hn_hr22qq := hr22''.len; have hx_hr22qq : _ ≤ 1099511627776 := hr22''.lim
   refine ⟨_, Z, ?_⟩
   refine R_nil (N_DK (Kn.of' H hd16 (SubL.cons 2 Z SubL.nil)) (RD_t 5 Z kR Z (fun _ hK => v_extract Z Z) (RD_t 6 Z kR Z (fun _ hK => v_extract Z Z) ?_)))
   refine RD_run [7] kR Z (RDs.cons Z ?_ RDs.nil)
   refine o_store_B 1 H sizeOf27 Z Z Z Z Z Z Z Z ?_; intro w23 H
   refine R_nil (N_DK (Kn.of' H hd16 (SubL.cons 2 Z SubL.nil)) (RD_t 8 Z kR Z (fun _ hK => v_assign Z) (RD_done kR (N_K (W_ret (N_B_ret (N_K_ret (ret_gen (rs := [.cell 4 27, .tmp 5]) (vs := [_, _]) results64 ⟨⟨_, Z, load_blk 1 H isAgg27 sizeOf27 Z Z Z⟩, Z, trivial⟩ ?_))))))))
   have H := H.del (k := 1) rfl
   have H := H.del (k := 1) rfl
   exact H.retM ⟨_, _, _, _, _, _, _, _, oM, Z, hr22, hr22', hr22'', Z⟩
  intro hc15'
  try simp only [nrm] at hc15'
  refine W_skip (N_B (N_K (q2 (mV Z (o_buildSlice H underlying77 sizeOf9 (fun w => ⟨_, zeroValue9 w, Z⟩) Z Z Z Z Z Z Z ?_))))); intro b24 w24 hb24 H
  have H := H.blkAcc 1 (k := 0) (n := 5) rfl rfl (by decide)
  have hchk26 := ((((((Chk.nil (E := strE) (sz := 1) (G := G4)).snoc (show strE _ ([99] : Fw.Bs) [str [99]] from ⟨rfl, by decide⟩) rfl).snoc (show strE _ ([97, 47, 121] : Fw.Bs) [str [97, 47, 121]] from ⟨rfl, by decide⟩) rfl).snoc (show strE _ ([98, 47, 120] : Fw.Bs) [str [98, 47, 120]] from ⟨rfl, by decide⟩) rfl).snoc (show strE _ ([97, 47, 120, 47, 112] : Fw.Bs) [str [97, 47, 120, 47, 112]] from ⟨rfl, by decide⟩) rfl).snoc (show strE _ ([100] : Fw.Bs) [str [100]] from ⟨rfl, by decide⟩) rfl)
  obtain ⟨G27, H, hsg27, hsr27⟩ := H.shutM (k := 0) (j := 0) rfl rfl hchk26 aN aN
  have hbs := hbs.up hsg27
  have hr1 := hr1.up hsg27
  have hr1' := hr1'.up hsg27
  have hr1'' := hr1''.up hsg27
  refine o_call call34 Z Z (of_c _ _ H.sub _ _ _ _ _ _ hbs (H.blkIs (k := 0) Z).1 (H.blkIs (k := 0) Z).2 oM _ _ hsr27 (by first | decide | (simp; done) | (simp; omega))) ?_
  rintro _ w25 ⟨G25, _, _, rfl, H25', ⟨p25, x25, hp25, rfl, hxs25, rfl⟩⟩
  have hbs := hbs.up H25'.le
  have hr1 := hr1.up H25'.le
  have hr1' := hr1'.up H25'.le
  have hr1'' := hr1''.up H25'.le
  have H := H.borrow (k := 0) rfl H25'
  refine ⟨_, Z, ?_⟩
  refine aG Z (q3 (W_seq (W_drawK [2] 9 H kR Z ?_))); intro w28 H; have hd28 := PLe.refl G25
  refine RD_t 0 Z kR Z (fun _ hK => v_loadagg_B 0 hK isAgg27 sizeOf27 Z Z Z Z) (vM 1 Z Z (vM 2 Z Z ?_))
  refine RD_run [3] kR Z (RDs.cons Z ?_ RDs.nil)
  refine o_call call101 Z Z (l91File_c _ _ H.sub _ _ _ _ _ _ hbs (H.blkIs (k := 0) Z).1 (H.blkIs (k := 0) Z).2 oM ) ?_
  rintro _ w29 ⟨G29, _, _, rfl, H29', ⟨p29, x29, v29, c29, hp29, rfl, hchk29, hxl29, rfl⟩⟩
  have hr1 := hr1.up H29'.le
  have hr1' := hr1'.up H29'.le
  have hr1'' := hr1''.up H29'.le
  have hd28 := hd28.trans H29'.le
  have H := H.borrow (k := 0) rfl H29'
  obtain ⟨av29, cv29, rfl⟩ := H.accShape (k := 0) rfl
  refine ⟨_, Z, ?_⟩
  refine R_nil (N_DK (Kn.of' H hd28 (SubL.cons 3 Z SubL.nil)) ?_)
  refine RD_run [4] kR Z (RDs.cons Z ?_ RDs.nil)
  obtain ⟨G31, H, hsg31, hsr31⟩ := H.shutM (k := 0) (j := 0) rfl rfl hchk29 aN aN
  have hr1 := hr1.up hsg31
  have hr1' := hr1'.up hsg31
  have hr1'' := hr1''.up hsg31
  have hd28 := hd28.trans hsg31
  refine o_call call100 Z Z (DiskWriteP_c _ _ H.sub _ d ⟨_, _, _, _, _, _, _, _, _, Z, hr1, hr1', hr1''⟩ _ hxs25 _ _ hsr31 ) ?_
  rintro _ w30 ⟨G30, _, g30, rfl, u30_0, rfl, hr30_0⟩
  have H := H.grow g30
  have hd28 := hd28.trans g30.le
  obtain ⟨a32, m32, c32, a32', m32', c32', a32'', m32'', c32'', rfl, hr32, hr32', hr32''⟩ := hr30_0; have hn_hr32 := hr32.len; have hx_hr32 : _ ≤ 1099511627776 := hr32.lim; have hn_hr32q := hr32'.len; have hx_hr32q : _ ≤ 1099511627776 := hr32'.lim; have hn_hr32qq := hr32''.len; have hx_hr32qq : _ ≤ 1099511627776 := hr32''.lim
  refine ⟨_, Z, ?_⟩
  refine R_nil (N_DK (Kn.of' H hd28 (SubL.cons 2 Z SubL.nil)) (RD_t 5 Z kR Z (fun _ hK => v_extract Z Z) (RD_t 6 Z kR Z (fun _ hK => v_extract Z Z) ?_)))
  refine RD_run [7] kR Z (RDs.cons Z ?_ RDs.nil)
  refine o_store_B 1 H sizeOf27 Z Z Z Z Z Z Z Z ?_; intro w33 H
  refine R_nil (N_DK (Kn.of' H hd28 (SubL.cons 2 Z SubL.nil)) (RD_t 8 Z kR Z (fun _ hK => v_assign Z) (RD_done kR (N_K (W_ret (ret_gen (rs := [.cell 4 27, .tmp 5]) (vs := [_, _]) results64 ⟨⟨_, Z, load_blk 1 H isAgg27 sizeOf27 Z Z Z⟩, Z, trivial⟩ ?_))))))
  have H := H.del (k := 1) rfl
  have H := H.del (k := 1) rfl
  exact H.retM ⟨_, _, _, _, _, _, _, _, oM, Z, hr32, hr32', hr32'', Z⟩
 intro hc5'
 try simp only [nrm] at hc5'
 refine q2 (o_eql Z Z Z (aG Z (q3 ?_)))
 refine W_cond Z ?_ ?_
 ·intro hc34
  try simp only [nrm] at hc34
  refine W_skip (N_K ?_)
  refine W_cond Z ?_ ?_
  ·intro hc35
   try simp only [nrm] at hc35
   refine W_seq (W_drawK [2] 9 H kR Z ?_); intro w36 H; have hd36 := PLe.refl G4
   refine RD_t 0 Z kR Z (fun _ hK => v_loadagg_B 0 hK isAgg27 sizeOf27 Z Z Z Z) (vM 1 Z Z ?_)
   refine RD_run [2] kR Z (RDs.cons Z ?_ RDs.nil)
   refine o_buildSlice H underlying77 sizeOf9 (fun w => ⟨_, zeroValue9 w, Z⟩) Z Z Z Z Z Z Z ?_; intro b37 w37 hb37 H
   refine R_nil (N_DK (Kn.of' H hd36 (SubL.cons 3 Z SubL.nil)) ?_)
   refine RD_run [3] kR Z (RDs.cons Z ?_ RDs.nil)
   have H := H.blkAcc 1 (k := 0) (n := 3) rfl rfl (by decide)
   have hchk39 := ((((Chk.nil (E := strE) (sz := 1) (G := G4)).snoc (show strE _ ([115] : Fw.Bs) [str [115]] from ⟨rfl, by decide⟩) rfl).snoc (show strE _ ([116] : Fw.Bs) [str [116]] from ⟨rfl, by decide⟩) rfl).snoc (show strE _ ([117] : Fw.Bs) [str [117]] from ⟨rfl, by decide⟩) rfl)
   obtain ⟨G40, H, hsg40, hsr40⟩ := H.shutM (k := 0) (j := 0) rfl rfl hchk39 aN aN
   have hbs := hbs.up hsg40
   have hr1 := hr1.up hsg40
   have hr1' := hr1'.up hsg40
   have hr1'' := hr1''.up hsg40
   have hd36 := hd36.trans hsg40
   refine o_call call34 Z Z (of_c _ _ H.sub _ _ _ _ _ _ hbs (H.blkIs (k := 0) Z).1 (H.blkIs (k := 0) Z).2 oM _ _ hsr40 (by first | decide | (simp; done) | (simp; omega))) ?_
   rintro _ w38 ⟨G38, _, _, rfl, H38', ⟨p38, x38, hp38, rfl, hxs38, rfl⟩⟩
   have hr1 := hr1.up H38'.le
   have hr1' := hr1'.up H38'.le
   have hr1'' := hr1''.up H38'.le
   have hd36 := hd36.trans H38'.le
   have H := H.borrow (k := 0) rfl H38'
   refine ⟨_, Z, ?_⟩
   refine R_nil (N_DK (Kn.of' H hd36 (SubL.cons 2 Z SubL.nil)) ?_)
   refine RD_run [4] kR Z (RDs.cons Z ?_ RDs.nil)
   refine o_call call17 Z Z (SnapTakeP_c _ _ H.sub _ d ⟨_, _, _, _, _, _, _, _, _, Z, hr1, hr1', hr1''⟩ _ hxs38 ) ?_
   rintro _ w41 ⟨G41, _, g41, rfl, u41_0, rfl, hr41_0⟩
   have H := H.grow g41
   have hd36 := hd36.trans g41.le
   obtain ⟨a42, m42, c42, a42', m42', c42', a42'', m42'', c42'', rfl, hr42, hr42', hr42''⟩ := hr41_0; have hn_hr42 := hr42.len; have hx_hr42 : _ ≤ 1099511627776 := hr42.lim; have hn_hr42q := hr42'.len; have hx_hr42q : _ ≤ 1099511627776 := hr42'.lim; have hn_hr42qq := hr42''.len; have hx_hr42qq : _ ≤ 1099511627776 := hr42''.lim
   refine ⟨_, Z, ?_⟩
   refine R_nil (N_DK (Kn.of' H hd36 (SubL.cons 2 Z SubL.nil)) (RD_t 5 Z kR Z (fun _ hK => v_extract Z Z) (RD_t 6 Z kR Z (fun _ hK => v_extract Z Z) ?_)))
   refine RD_run [7] kR Z (RDs.cons Z ?_ RDs.nil)
   refine o_store_B 1 H sizeOf27 Z Z Z Z Z Z Z Z ?_; intro w43 H
   refine R_nil (N_DK (Kn.of' H hd36 (SubL.cons 2 Z SubL.nil)) (RD_t 8 Z kR Z (fun _ hK => v_assign Z) (RD_done kR (N_K (W_ret (N_B_ret (N_K_ret (ret_gen (rs := [.cell 4 27, .tmp 5]) (vs := [_, _]) results64 ⟨⟨_, Z, load_blk 1 H isAgg27 sizeOf27 Z Z Z⟩, Z, trivial⟩ ?_))))))))
   have H := H.del (k := 1) rfl
   have H := H.del (k := 1) rfl
   exact H.retM ⟨_, _, _, _, _, _, _, _, oM, Z, hr42, hr42', hr42'', Z⟩
  intro hc35'
  try simp only [nrm] at hc35'
  refine q2 (o_eql Z Z Z (aG Z (q3 ?_)))
  refine W_cond Z ?_ ?_
  ·intro hc44
   try simp only [nrm] at hc44
   refine W_seq (W_drawK [2] 9 H kR Z ?_); intro w45 H; have hd45 := PLe.refl G4
   refine RD_t 0 Z kR Z (fun _ hK => v_loadagg_B 0 hK isAgg27 sizeOf27 Z Z Z Z) (vM 1 Z Z ?_)
   refine RD_run [2] kR Z (RDs.cons Z ?_ RDs.nil)
   refine o_buildSlice H underlying77 sizeOf9 (fun w => ⟨_, zeroValue9 w, Z⟩) Z Z Z Z Z Z Z ?_; intro b46 w46 hb46 H
   refine R_nil (N_DK (Kn.of' H hd45 (SubL.cons 3 Z SubL.nil)) ?_)
   refine RD_run [3] kR Z (RDs.cons Z ?_ RDs.nil)
   have H := H.blkAcc 1 (k := 0) (n := 2) rfl rfl (by decide)
   have hchk48 := (((Chk.nil (E := strE) (sz := 1) (G := G4)).snoc (show strE _ ([115] : Fw.Bs) [str [115]] from ⟨rfl, by decide⟩) rfl).snoc (show strE _ ([116] : Fw.Bs) [str [116]] from ⟨rfl, by decide⟩) rfl)
   obtain ⟨G49, H, hsg49, hsr49⟩ := H.shutM (k := 0) (j := 0) rfl rfl hchk48 aN aN
   have hbs := hbs.up hsg49
   have hr1 := hr1.up hsg49
   have hr1' := hr1'.up hsg49
   have hr1'' := hr1''.up hsg49
   have hd45 := hd45.trans hsg49
   refine o_call call34 Z Z (of_c _ _ H.sub _ _ _ _ _ _ hbs (H.blkIs (k := 0) Z).1 (H.blkIs (k := 0) Z).2 oM _ _ hsr49 (by first | decide | (simp; done) | (simp; omega))) ?_
   rintro _ w47 ⟨G47, _, _, rfl, H47', ⟨p47, x47, hp47, rfl, hxs47, rfl⟩⟩
   have hr1 := hr1.up H47'.le
   have hr1' := hr1'.up H47'.le
   have hr1'' := hr1''.up H47'.le
   have hd45 := hd45.trans H47'.le
   have H := H.borrow (k := 0) rfl H47'
   refine ⟨_, Z, ?_⟩
   refine R_nil (N_DK (Kn.of' H hd45 (SubL.cons 2 Z SubL.nil)) ?_)
   refine RD_run [4] kR Z (RDs.cons Z ?_ RDs.nil)
   refine o_call call99 Z Z (SnapBackP_c _ _ H.sub _ d ⟨_, _, _, _, _, _, _, _, _, Z, hr1, hr1', hr1''⟩ _ hxs47 ) ?_
   rintro _ w50 ⟨G50, _, g50, rfl, u50_0, rfl, hr50_0⟩
   have H := H.grow g50
   have hd45 := hd45.trans g50.le
   obtain ⟨a51, m51, c51, a51', m51', c51', a51'', m51'', c51'', rfl, hr51, hr51', hr51''⟩ := hr50_0; have hn_hr51 := hr51.len; have hx_hr51 : _ ≤ 1099511627776 := hr51.lim; have hn_hr51q := hr51'.len; have hx_hr51q : _ ≤ 1099511627776 := hr51'.lim; have hn_hr51qq := hr51''.len; have hx_hr51qq : _ ≤ 1099511627776 := hr51''.lim
   refine ⟨_, Z, ?_⟩
   refine R_nil (N_DK (Kn.of' H hd45 (SubL.cons 2 Z SubL.nil)) (RD_t 5 Z kR Z (fun _ hK => v_extract Z Z) (RD_t 6 Z kR Z (fun _ hK => v_extract Z Z) ?_)))
   refine RD_run [7] kR Z (RDs.cons Z ?_ RDs.nil)
   refine o_store_B 1 H sizeOf27 Z Z Z Z Z Z Z Z ?_; intro w52 H
   refine R_nil (N_DK (Kn.of' H hd45 (SubL.cons 2 Z SubL.nil)) (RD_t 8 Z kR Z (fun _ hK => v_assign Z) (RD_done kR (N_K (W_ret (N_B_ret (N_K_ret (ret_gen (rs := [.cell 4 27, .tmp 5]) (vs := [_, _]) results64 ⟨⟨_, Z, load_blk 1 H isAgg27 sizeOf27 Z Z Z⟩, Z, trivial⟩ ?_))))))))
   have H := H.del (k := 1) rfl
   have H := H.del (k := 1) rfl
   exact H.retM ⟨_, _, _, _, _, _, _, _, oM, Z, hr51, hr51', hr51'', Z⟩
  intro hc44'
  try simp only [nrm] at hc44'
  refine W_skip (N_B (N_K (q2 (mV Z (o_buildSlice H underlying77 sizeOf9 (fun w => ⟨_, zeroValue9 w, Z⟩) Z Z Z Z Z Z Z ?_))))); intro b53 w53 hb53 H
  have H := H.blkAcc 1 (k := 0) (n := 5) rfl rfl (by decide)
  have hchk55 := ((((((Chk.nil (E := strE) (sz := 1) (G := G4)).snoc (show strE _ ([99] : Fw.Bs) [str [99]] from ⟨rfl, by decide⟩) rfl).snoc (show strE _ ([97, 47, 121] : Fw.Bs) [str [97, 47, 121]] from ⟨rfl, by decide⟩) rfl).snoc (show strE _ ([98, 47, 120] : Fw.Bs) [str [98, 47, 120]] from ⟨rfl, by decide⟩) rfl).snoc (show strE _ ([97, 47, 120, 47, 112] : Fw.Bs) [str [97, 47, 120, 47, 112]] from ⟨rfl, by decide⟩) rfl).snoc (show strE _ ([100] : Fw.Bs) [str [100]] from ⟨rfl, by decide⟩) rfl)
  obtain ⟨G56, H, hsg56, hsr56⟩ := H.shutM (k := 0) (j := 0) rfl rfl hchk55 aN aN
  have hbs := hbs.up hsg56
  have hr1 := hr1.up hsg56
  have hr1' := hr1'.up hsg56
  have hr1'' := hr1''.up hsg56
  refine o_call call34 Z Z (of_c _ _ H.sub _ _ _ _ _ _ hbs (H.blkIs (k := 0) Z).1 (H.blkIs (k := 0) Z).2 oM _ _ hsr56 (by first | decide | (simp; done) | (simp; omega))) ?_
  rintro _ w54 ⟨G54, _, _, rfl, H54', ⟨p54, x54, hp54, rfl, hxs54, rfl⟩⟩
  have hbs := hbs.up H54'.le
  have hr1 := hr1.up H54'.le
  have hr1' := hr1'.up H54'.le
  have hr1'' := hr1''.up H54'.le
  have H := H.borrow (k := 0) rfl H54'
  refine ⟨_, Z, ?_⟩
  refine aG Z (q3 (W_seq (W_drawK [2] 9 H kR Z ?_))); intro w57 H; have hd57 := PLe.refl G54
  refine RD_t 0 Z kR Z (fun _ hK => v_loadagg_B 0 hK isAgg27 sizeOf27 Z Z Z Z) (vM 1 Z Z (vM 2 Z Z ?_))
  refine RD_run [3] kR Z (RDs.cons Z ?_ RDs.nil)
  refine o_call call101 Z Z (l91File_c _ _ H.sub _ _ _ _ _ _ hbs (H.blkIs (k := 0) Z).1 (H.blkIs (k := 0) Z).2 oM ) ?_
  rintro _ w58 ⟨G58, _, _, rfl, H58', ⟨p58, x58, v58, c58, hp58, rfl, hchk58, hxl58, rfl⟩⟩
  have hr1 := hr1.up H58'.le
  have hr1' := hr1'.up H58'.le
  have hr1'' := hr1''.up H58'.le
  have hd57 := hd57.trans H58'.le
  have H := H.borrow (k := 0) rfl H58'
  obtain ⟨av58, cv58, rfl⟩ := H.accShape (k := 0) rfl
  refine ⟨_, Z, ?_⟩
  refine R_nil (N_DK (Kn.of' H hd57 (SubL.cons 3 Z SubL.nil)) ?_)
  refine RD_run [4] kR Z (RDs.cons Z ?_ RDs.nil)
  obtain ⟨G60, H, hsg60, hsr60⟩ := H.shutM (k := 0) (j := 0) rfl rfl hchk58 aN aN
  have hr1 := hr1.up hsg60
  have hr1' := hr1'.up hsg60
  have hr1'' := hr1''.up hsg60
  have hd57 := hd57.trans hsg60
  refine o_call call100 Z Z (DiskWriteP_c _ _ H.sub _ d ⟨_, _, _, _, _, _, _, _, _, Z, hr1, hr1', hr1''⟩ _ hxs54 _ _ hsr60 ) ?_
  rintro _ w59 ⟨G59, _, g59, rfl, u59_0, rfl, hr59_0⟩
  have H := H.grow g59
  have hd57 := hd57.trans g59.le
  obtain ⟨a61, m61, c61, a61', m61', c61', a61'', m61'', c61'', rfl, hr61, hr61', hr61''⟩ := hr59_0; have hn_hr61 := hr61.len; have hx_hr61 : _ ≤ 1099511627776 := hr61.lim; have hn_hr61q := hr61'.len; have hx_hr61q : _ ≤ 1099511627776 := hr61'.lim; have hn_hr61qq := hr61''.len; have hx_hr61qq : _ ≤ 1099511627776 := hr61''.lim
  refine ⟨_, Z, ?_⟩
  refine R_nil (N_DK (Kn.of' H hd57 (SubL.cons 2 Z SubL.nil)) (RD_t 5 Z kR Z (fun _ hK => v_extract Z Z) (RD_t 6 Z kR Z (fun _ hK => v_extract Z Z) ?_)))
  refine RD_run [7] kR Z (RDs.cons Z ?_ RDs.nil)
  refine o_store_B 1 H sizeOf27 Z Z Z Z Z Z Z Z ?_; intro w62 H
  refine R_nil (N_DK (Kn.of' H hd57 (SubL.cons 2 Z SubL.nil)) (RD_t 8 Z kR Z (fun _ hK => v_assign Z) (RD_done kR (N_K (W_ret (ret_gen (rs := [.cell 4 27, .tmp 5]) (vs := [_, _]) results64 ⟨⟨_, Z, load_blk 1 H isAgg27 sizeOf27 Z Z Z⟩, Z, trivial⟩ ?_))))))
  have H := H.del (k := 1) rfl
  have H := H.del (k := 1) rfl
  exact H.retM ⟨_, _, _, _, _, _, _, _, oM, Z, hr61, hr61', hr61'', Z⟩
 intro hc34'
 try simp only [nrm] at hc34'
 refine W_region (o_eql Z Z Z (aG Z (q3 ?_)))
 refine W_cond Z ?_ ?_
 ·intro hc63
  try simp only [nrm] at hc63
  refine W_seq (W_drawK [2] 9 H kR Z ?_); intro w64 H; have hd64 := PLe.refl G4
  refine RD_t 0 Z kR Z (fun _ hK => v_loadagg_B 0 hK isAgg27 sizeOf27 Z Z Z Z) (vM 1 Z Z ?_)
  refine RD_run [2] kR Z (RDs.cons Z ?_ RDs.nil)
  refine o_buildSlice H underlying77 sizeOf9 (fun w => ⟨_, zeroValue9 w, Z⟩) Z Z Z Z Z Z Z ?_; intro b65 w65 hb65 H
  refine R_nil (N_DK (Kn.of' H hd64 (SubL.cons 3 Z SubL.nil)) ?_)
  refine RD_run [3] kR Z (RDs.cons Z ?_ RDs.nil)
  have H := H.blkAcc 1 (k := 0) (n := 3) rfl rfl (by decide)
  have hchk67 := ((((Chk.nil (E := strE) (sz := 1) (G := G4)).snoc (show strE _ ([115] : Fw.Bs) [str [115]] from ⟨rfl, by decide⟩) rfl).snoc (show strE _ ([116] : Fw.Bs) [str [116]] from ⟨rfl, by decide⟩) rfl).snoc (show strE _ ([117] : Fw.Bs) [str [117]] from ⟨rfl, by decide⟩) rfl)
  obtain ⟨G68, H, hsg68, hsr68⟩ := H.shutM (k := 0) (j := 0) rfl rfl hchk67 aN aN
  have hbs := hbs.up hsg68
  have hr1 := hr1.up hsg68
  have hr1' := hr1'.up hsg68
  have hr1'' := hr1''.up hsg68
  have hd64 := hd64.trans hsg68
  refine o_call call34 Z Z (of_c _ _ H.sub _ _ _ _ _ _ hbs (H.blkIs (k := 0) Z).1 (H.blkIs (k := 0) Z).2 oM _ _ hsr68 (by first | decide | (simp; done) | (simp; omega))) ?_
  rintro _ w66 ⟨G66, _, _, rfl, H66', ⟨p66, x66, hp66, rfl, hxs66, rfl⟩⟩
  have hr1 := hr1.up H66'.le
  have hr1' := hr1'.up H66'.le
  have hr1'' := hr1''.up H66'.le
  have hd64 := hd64.trans H66'.le
  have H := H.borrow (k := 0) rfl H66'
  refine ⟨_, Z, ?_⟩
  refine R_nil (N_DK (Kn.of' H hd64 (SubL.cons 2 Z SubL.nil)) ?_)
  refine RD_run [4] kR Z (RDs.cons Z ?_ RDs.nil)
  refine o_call call17 Z Z (SnapTakeP_c _ _ H.sub _ d ⟨_, _, _, _, _, _, _, _, _, Z, hr1, hr1', hr1''⟩ _ hxs66 ) ?_
  rintro _ w69 ⟨G69, _, g69, rfl, u69_0, rfl, hr69_0⟩
  have H := H.grow g69
  have hd64 := hd64.trans g69.le
  obtain ⟨a70, m70, c70, a70', m70', c70', a70'', m70'', c70'', rfl, hr70, hr70', hr70''⟩ := hr69_0; have hn_hr70 := hr70.len; have hx_hr70 : _ ≤ 1099511627776 := hr70.lim; have hn_hr70q := hr70'.len; have hx_hr70q : _ ≤ 1099511627776 := hr70'.lim; have hn_hr70qq := hr70''.len; have hx_hr70qq : _ ≤ 1099511627776 := hr70''.lim
  refine ⟨_, Z, ?_⟩
  refine R_nil (N_DK (Kn.of' H hd64 (SubL.cons 2 Z SubL.nil)) (RD_t 5 Z kR Z (fun _ hK => v_extract Z Z) (RD_t 6 Z kR Z (fun _ hK => v_extract Z Z) ?_)))
  refine RD_run [7] kR Z (RDs.cons Z ?_ RDs.nil)
  refine o_store_B 1 H sizeOf27 Z Z Z Z Z Z Z Z ?_; intro w71 H
  refine R_nil (N_DK (Kn.of' H hd64 (SubL.cons 2 Z SubL.nil)) (RD_t 8 Z kR Z (fun _ hK => v_assign Z) (RD_done kR (N_K (W_ret (N_B_ret (N_K_ret (ret_gen (rs := [.cell 4 27, .tmp 5]) (vs := [_, _]) results64 ⟨⟨_, Z, load_blk 1 H isAgg27 sizeOf27 Z Z Z⟩, Z, trivial⟩ ?_))))))))
  have H := H.del (k := 1) rfl
  have H := H.del (k := 1) rfl
  exact H.retM ⟨_, _, _, _, _, _, _, _, oM, Z, hr70, hr70', hr70'', Z⟩
 intro hc63'
 try simp only [nrm] at hc63'
 refine q2 (o_eql Z Z Z (aG Z (q3 ?_)))
 refine W_cond Z ?_ ?_
 ·intro hc72
  try simp only [nrm] at hc72
  refine W_seq (W_drawK [2] 9 H kR Z ?_); intro w73 H; have hd73 := PLe.refl G4
  refine RD_t 0 Z kR Z (fun _ hK => v_loadagg_B 0 hK isAgg27 sizeOf27 Z Z Z Z) (vM 1 Z Z ?_)
  refine RD_run [2] kR Z (RDs.cons Z ?_ RDs.nil)
  refine o_buildSlice H underlying77 sizeOf9 (fun w => ⟨_, zeroValue9 w, Z⟩) Z Z Z Z Z Z Z ?_; intro b74 w74 hb74 H
  refine R_nil (N_DK (Kn.of' H hd73 (SubL.cons 3 Z SubL.nil)) ?_)
  refine RD_run [3] kR Z (RDs.cons Z ?_ RDs.nil)
  have H := H.blkAcc 1 (k := 0) (n := 2) rfl rfl (by decide)
  have hchk76 := (((Chk.nil (E := strE) (sz := 1) (G := G4)).snoc (show strE _ ([115] : Fw.Bs) [str [115]] from ⟨rfl, by decide⟩) rfl).snoc (show strE _ ([116] : Fw.Bs) [str [116]] from ⟨rfl, by decide⟩) rfl)
  obtain ⟨G77, H, hsg77, hsr77⟩ := H.shutM (k := 0) (j := 0) rfl rfl hchk76 aN aN
  have hbs := hbs.up hsg77
  have hr1 := hr1.up hsg77
  have hr1' := hr1'.up hsg77
  have hr1'' := hr1''.up hsg77
  have hd73 := hd73.trans hsg77
  refine o_call call34 Z Z (of_c _ _ H.sub _ _ _ _ _ _ hbs (H.blkIs (k := 0) Z).1 (H.blkIs (k := 0) Z).2 oM _ _ hsr77 (by first | decide | (simp; done) | (simp; omega))) ?_
  rintro _ w75 ⟨G75, _, _, rfl, H75', ⟨p75, x75, hp75, rfl, hxs75, rfl⟩⟩
  have hr1 := hr1.up H75'.le
  have hr1' := hr1'.up H75'.le
  have hr1'' := hr1''.up H75'.le
  have hd73 := hd73.trans H75'.le
  have H := H.borrow (k := 0) rfl H75'
  refine ⟨_, Z, ?_⟩
  refine R_nil (N_DK (Kn.of' H hd73 (SubL.cons 2 Z SubL.nil)) ?_)
  refine RD_run [4] kR Z (RDs.cons Z ?_ RDs.nil)
  refine o_call call99 Z Z (SnapBackP_c _ _ H.sub _ d ⟨_, _, _, _, _, _, _, _, _, Z, hr1, hr1', hr1''⟩ _ hxs75 ) ?_
  rintro _ w78 ⟨G78, _, g78, rfl, u78_0, rfl, hr78_0⟩
  have H := H.grow g78
  have hd73 := hd73.trans g78.le
  obtain ⟨a79, m79, c79, a79', m79', c79', a79'', m79'', c79'', rfl, hr79, hr79', hr79''⟩ := hr78_0; have hn_hr79 := hr79.len; have hx_hr79 : _ ≤ 1099511627776 := hr79.lim; have hn_hr79q := hr79'.len; have hx_hr79q : _ ≤ 1099511627776 := hr79'.lim; have hn_hr79qq := hr79''.len; have hx_hr79qq : _ ≤ 1099511627776 := hr79''.lim
  refine ⟨_, Z, ?_⟩
  refine R_nil (N_DK (Kn.of' H hd73 (SubL.cons 2 Z SubL.nil)) (RD_t 5 Z kR Z (fun _ hK => v_extract Z Z) (RD_t 6 Z kR Z (fun _ hK => v_extract Z Z) ?_)))
  refine RD_run [7] kR Z (RDs.cons Z ?_ RDs.nil)
  refine o_store_B 1 H sizeOf27 Z Z Z Z Z Z Z Z ?_; intro w80 H
  refine R_nil (N_DK (Kn.of' H hd73 (SubL.cons 2 Z SubL.nil)) (RD_t 8 Z kR Z (fun _ hK => v_assign Z) (RD_done kR (N_K (W_ret (N_B_ret (N_K_ret (ret_gen (rs := [.cell 4 27, .tmp 5]) (vs := [_, _]) results64 ⟨⟨_, Z, load_blk 1 H isAgg27 sizeOf27 Z Z Z⟩, Z, trivial⟩ ?_))))))))
  have H := H.del (k := 1) rfl
  have H := H.del (k := 1) rfl
  exact H.retM ⟨_, _, _, _, _, _, _, _, oM, Z, hr79, hr79', hr79'', Z⟩
 intro hc72'
 try simp only [nrm] at hc72'
 refine W_skip (N_B (N_K (q2 (mV Z (o_buildSlice H underlying77 sizeOf9 (fun w => ⟨_, zeroValue9 w, Z⟩) Z Z Z Z Z Z Z ?_))))); intro b81 w81 hb81 H
 have H := H.blkAcc 1 (k := 0) (n := 5) rfl rfl (by decide)
 have hchk83 := ((((((Chk.nil (E := strE) (sz := 1) (G := G4)).snoc (show strE _ ([99] : Fw.Bs) [str [99]] from ⟨rfl, by decide⟩) rfl).snoc (show strE _ ([97, 47, 121] : Fw.Bs) [str [97, 47, 121]] from ⟨rfl, by decide⟩) rfl).snoc (show strE _ ([98, 47, 120] : Fw.Bs) [str [98, 47, 120]] from ⟨rfl, by decide⟩) rfl).snoc (show strE _ ([97, 47, 120, 47, 112] : Fw.Bs) [str [97, 47, 120, 47, 112]] from ⟨rfl, by decide⟩) rfl).snoc (show strE _ ([100] : Fw.Bs) [str [100]] from ⟨rfl, by decide⟩) rfl)
 obtain ⟨G84, H, hsg84, hsr84⟩ := H.shutM (k := 0) (j := 0) rfl rfl hchk83 aN aN
 have hbs := hbs.up hsg84
 have hr1 := hr1.up hsg84
 have hr1' := hr1'.up hsg84
 have hr1'' := hr1''.up hsg84
 refine o_call call34 Z Z (of_c _ _ H.sub _ _ _ _ _ _ hbs (H.blkIs (k := 0) Z).1 (H.blkIs (k := 0) Z).2 oM _ _ hsr84 (by first | decide | (simp; done) | (simp; omega))) ?_
 rintro _ w82 ⟨G82, _, _, rfl, H82', ⟨p82, x82, hp82, rfl, hxs82, rfl⟩⟩
 have hbs := hbs.up H82'.le
 have hr1 := hr1.up H82'.le
 have hr1' := hr1'.up H82'.le
 have hr1'' := hr1''.up H82'.le
 have H := H.borrow (k := 0) rfl H82'
 refine ⟨_, Z, ?_⟩
 refine aG Z (q3 (W_seq (W_drawK [2] 9 H kR Z ?_))); intro w85 H; have hd85 := PLe.refl G82
 refine RD_t 0 Z kR Z (fun _ hK => v_loadagg_B 0 hK isAgg27 sizeOf27 Z Z Z Z) (vM 1 Z Z (vM 2 Z Z ?_))
 refine RD_run [3] kR Z (RDs.cons Z ?_ RDs.nil)
 refine o_call call101 Z Z (l91File_c _ _ H.sub _ _ _ _ _ _ hbs (H.blkIs (k := 0) Z).1 (H.blkIs (k := 0) Z).2 oM ) ?_
 rintro _ w86 ⟨G86, _, _, rfl, H86', ⟨p86, x86, v86, c86, hp86, rfl, hchk86, hxl86, rfl⟩⟩
 have hr1 := hr1.up H86'.le
 have hr1' := hr1'.up H86'.le
 have hr1'' := hr1''.up H86'.le
 have hd85 := hd85.trans H86'.le
 have H := H.borrow (k := 0) rfl H86'
 obtain ⟨av86, cv86, rfl⟩ := H.accShape (k := 0) rfl
 refine ⟨_, Z, ?_⟩
 refine R_nil (N_DK (Kn.of' H hd85 (SubL.cons 3 Z SubL.nil)) ?_)
 refine RD_run [4] kR Z (RDs.cons Z ?_ RDs.nil)
 obtain ⟨G88, H, hsg88, hsr88⟩ := H.shutM (k := 0) (j := 0) rfl rfl hchk86 aN aN
 have hr1 := hr1.up hsg88
 have hr1' := hr1'.up hsg88
 have hr1'' := hr1''.up hsg88
 have hd85 := hd85.trans hsg88
 refine o_call call100 Z Z (DiskWriteP_c _ _ H.sub _ d ⟨_, _, _, _, _, _, _, _, _, Z, hr1, hr1', hr1''⟩ _ hxs82 _ _ hsr88 ) ?_
 rintro _ w87 ⟨G87, _, g87, rfl, u87_0, rfl, hr87_0⟩
 have H := H.grow g87
 have hd85 := hd85.trans g87.le
 obtain ⟨a89, m89, c89, a89', m89', c89', a89'', m89'', c89'', rfl, hr89, hr89', hr89''⟩ := hr87_0; have hn_hr89 := hr89.len; have hx_hr89 : _ ≤ 1099511627776 := hr89.lim; have hn_hr89q := hr89'.len; have hx_hr89q : _ ≤ 1099511627776 := hr89'.lim; have hn_hr89qq := hr89''.len; have hx_hr89qq : _ ≤ 1099511627776 := hr89''.lim
 refine ⟨_, Z, ?_⟩
 refine R_nil (N_DK (Kn.of' H hd85 (SubL.cons 2 Z SubL.nil)) (RD_t 5 Z kR Z (fun _ hK => v_extract Z Z) (RD_t 6 Z kR Z (fun _ hK => v_extract Z Z) ?_)))
 refine RD_run [7] kR Z (RDs.cons Z ?_ RDs.nil)
 refine o_store_B 1 H sizeOf27 Z Z Z Z Z Z Z Z ?_; intro w90 H
 refine R_nil (N_DK (Kn.of' H hd85 (SubL.cons 2 Z SubL.nil)) (RD_t 8 Z kR Z (fun _ hK => v_assign Z) (RD_done kR (N_K (W_ret (ret_gen (rs := [.cell 4 27, .tmp 5]) (vs := [_, _]) results64 ⟨⟨_, Z, load_blk 1 H isAgg27 sizeOf27 Z Z Z⟩, Z, trivial⟩ ?_))))))
 have H := H.del (k := 1) rfl
 have H := H.del (k := 1) rfl
 exact H.retM ⟨_, _, _, _, _, _, _, _, oM, Z, hr89, hr89', hr89'', Z⟩
end Go.Proofs.Tst

namespace Go.Proofs.Tst
open Go Fw Tryz
theorem l91Disk_c (w0 : World) (G0 : PH) (hG : PSub G0 w0) (rb : Nat) (ab : Option Addr) (mb kb : Nat) (bs : List UInt8) (p : Nat) (hbs : RdU G0 (.slice ab mb kb) bs) (hrb : w0.heap[rb]? = some (cl [.slice ab mb kb, .int .i64 (p : Int)] 107)) (hrn : G0 rb = none) (hp : p ≤ 5000000)  :
  Calls Tryz.prog 26 #[.pointer (some ⟨rb, 0, none⟩)] w0 (RetM w0 G0 [rb] (fun G val Bs => ∃ (p' : Nat) (v1 v2 v3 : Value) (st : List BHeld) (tr : List BItem) (sn : List BSnap), p' ≤ p + 5000 ∧ val = .agg #[v1, v2, v3] ∧ RdH G v1 st ∧ RdItems G v2 tr ∧ RdSn G v3 sn ∧ Bs = [blk rb (cl [.slice ab mb kb, .int .i64 (p' : Int)] 107)])) := by
 have hlimbs : bs.length ≤ 1099511627776 := hbs.lim; obtain rfl : mb = bs.length := hbs.len
 have H := Hp.initM hG hrb hrn
 refine calls_of_W (l := [.pointer (some ⟨rb, 0, none⟩)]) func26 Z ntmps26 Z (q2 (o_alloc H zeroValue27 Z Z ?_)); intro b1 w1 hb1 H
 refine q1 (mV Z (o_call call63 Z Z (l91Volume_c _ _ H.sub _ _ _ _ _ _ hbs (H.blkIs (k := 1) Z).1 (H.blkIs (k := 1) Z).2 oM ) ?_))
 rintro _ w2 ⟨G2, _, _, rfl, H2', ⟨p2, v12, v22, st2, tr2, hp2, rfl, hst2, htr2, rfl⟩⟩
 have hbs := hbs.up H2'.le
 have H := H.borrow (k := 1) rfl H2'
 obtain ⟨sa2, sc2, rfl⟩ := hst2.shape; obtain ⟨ta2, tc2, rfl⟩ := htr2.shape; have hx_hst2 : _ ≤ 1099511627776 := hst2.lim; have hx_htr2 : _ ≤ 1099511627776 := htr2.lim
 refine ⟨_, Z, ?_⟩
 refine o_alloc H zeroValue103 Z Z ?_; intro b3 w3 hb3 H
 refine o_store_B 0 H sizeOf103 Z Z Z Z Z Z Z Z ?_; intro w4 H
 refine q1 (o_fieldAddr 0 runUnderlying103 Z sizeOf23 Z Z Z (o_load_B 0 H isAgg23 Z Z Z Z (o_fieldAddr 1 runUnderlying103 Z sizeOf24 Z Z Z (o_load_B 0 H isAgg24 Z Z Z Z (o_build bf27 Z Z Z (o_alloc H zeroValue27 Z Z ?_)))))); intro b5 w5 hb5 H
 refine o_store_B 0 H sizeOf27 Z Z Z Z Z Z Z Z ?_; intro w6 H
 refine q1 (mV Z (o_call call33 Z Z (pick_c _ _ H.sub _ _ _ _ _ _ hbs (H.blkIs (k := 2) Z).1 (H.blkIs (k := 2) Z).2 oM _ oO ) ?_))
 rintro _ w7 ⟨G7, _, _, rfl, H7', ⟨p7, x7, hp7, rfl, hxb7, rfl⟩⟩
 have hbs := hbs.up H7'.le
 have hst2 := hst2.up H7'.le
 have htr2 := htr2.up H7'.le
 have H := H.borrow (k := 2) rfl H7'
 refine ⟨_, Z, ?_⟩
 refine aG Z (q3 (W_seq (q2 (aG Z (q3 (W_block ?_))))))
 obtain ⟨ln8, hln8, H⟩ := H.name (k := 2) rfl
 obtain ⟨ln9, hln9, H⟩ := H.name (k := 3) rfl
 refine W_lp (hf := (Sub.cons (t := 0) Z (Sub.cons (t := 2) Z (Sub.cons (t := 4) Z (Sub.cons (t := 5) Z Sub.nil))))) (J := fun M w m => ∃ (k : Nat) (va vb vc : Value) (st : List BHeld) (tr : List BItem) (sn : List BSnap) (pp : Nat) (G : PH), M = [(6, .int .i64 (k : Int))] ∧ PLe G7 G ∧ Hp w0 G0 [rb] w G [blk rb (cl [.slice ab bs.length kb, .int .i64 (pp : Int)] 107), blk b5 (cl [va, vb, vc] 27), blk b3 (cl ln8 103), blk b1 (cl ln9 27)] ∧ (k ≤ 7 ∧ pp ≤ p + 3100 + 201 * k ∧ RdH G va st ∧ RdItems G vb tr ∧ RdSn G vc sn) ∧ m = (8 - k)) (h0 := ⟨0, _, _, _, st2, tr2, [], p7, _, Z, PLe.refl _, H, ?inv, Z⟩) (round := ?round)
 case inv => exact ⟨by omega, by omega, hst2, htr2, (RdS.nil _ _ _)⟩
 case round =>
  rintro _ w10 _ ⟨k, va, vb, vc, st, tr, sn, pp, G10, rfl, hle10, H, hinv10, rfl⟩
  subst hln8
  subst hln9
  have hbs := hbs.up hle10
  obtain ⟨hk, hpp, hst, htr, hsn⟩ := hinv10; obtain ⟨lhsta, lhstc, rfl⟩ := hst.shape; have hlhst : _ ≤ 1099511627776 := hst.lim; obtain ⟨lhtra, lhtrc, rfl⟩ := htr.shape; have hlhtr : _ ≤ 1099511627776 := htr.lim; obtain ⟨lhsna, lhsnc, rfl⟩ := hsn.shape; have hlhsn : _ ≤ 1099511627776 := hsn.lim
  refine W_seq (q2 (mV Z (mV Z (o_lss Z Z Z (q3 ?_)))))
  refine W_cond Z ?_ ?_
  ·intro hc11
   try simp only [nrm] at hc11
   refine W_skip (N_K (W_seq (W_block (q2 (mV Z (o_loadagg_B 1 H isAgg27 sizeOf27 Z Z Z Z Z (o_call call64 Z Z (l91Turn_c _ _ H.sub _ _ _ _ _ _ hbs (H.blkIs (k := 0) Z).1 (H.blkIs (k := 0) Z).2 oM _ ⟨st, tr, sn⟩ ⟨_, _, _, _, _, _, _, _, _, Z, hst, htr, hsn⟩ ) ?_)))))))
   rintro _ w12 ⟨G12, _, _, rfl, H12', ⟨p12, v112, v212, v312, st12, tr12, sn12, b12, hp12, rfl, hst12, htr12, hsn12, rfl⟩⟩
   have hst := hst.up H12'.le
   have htr := htr.up H12'.le
   have hsn := hsn.up H12'.le
   have hle10 := hle10.trans H12'.le
   have H := H.borrow (k := 0) rfl H12'
   obtain ⟨sta12, stc12, rfl⟩ := hst12.shape; have hx_hst12 : _ ≤ 1099511627776 := hst12.lim; obtain ⟨tra12, trc12, rfl⟩ := htr12.shape; have hx_htr12 : _ ≤ 1099511627776 := htr12.lim; obtain ⟨sna12, snc12, rfl⟩ := hsn12.shape; have hx_hsn12 : _ ≤ 1099511627776 := hsn12.lim
   refine ⟨_, Z, ?_⟩
   refine mV Z (o_extract Z Z Z (o_extract Z Z Z (o_alloc H zeroValue27 Z Z ?_))); intro b13 w13 hb13 H
   refine o_store_B 0 H sizeOf27 Z Z Z Z Z Z Z Z ?_; intro w14 H
   refine aG Z (q1 (mV Z (q3 ?_)))
   refine W_cond Z ?_ ?_
   ·intro hc15
    try simp only [nrm] at hc15
    refine W_region (o_loadagg_B 0 H isAgg27 sizeOf27 Z Z Z Z Z (o_store_B 2 H sizeOf27 Z Z Z Z Z Z Z Z ?_)); intro w16 H
    refine R_nil (N_B (N_K (W_region (mV Z (o_add Z Z Z oO (aG Z (R_nil ?_)))))))
    have H := H.del (k := 0) rfl
    refine N_lp (hJ := ⟨k + 1, _, _, _, st12, tr12, sn12, p12, _, Z, hle10, H, ?inv, Z⟩) (hm := ?hm)
    case hm => omega
    case inv => exact ⟨by omega, by omega, hst12, htr12, hsn12⟩
   intro hc15'
   try simp only [nrm] at hc15'
   refine W_skip (N_B (N_K (W_region (mV Z (o_add Z Z Z oO (aG Z (R_nil ?_)))))))
   have H := H.del (k := 0) rfl
   refine N_lp (hJ := ⟨k + 1, _, _, _, st, tr, sn, p12, _, Z, hle10, H, ?inv, Z⟩) (hm := ?hm)
   case hm => omega
   case inv => exact ⟨by omega, by omega, hst, htr, hsn⟩
  intro hc11'
  try simp only [nrm] at hc11'
  refine W_exit (N_K_exit (N_LP_exit (N_B_same (N_K (q2 (o_loadagg_B 1 H isAgg27 sizeOf27 Z Z Z Z Z (o_store_B 3 H sizeOf27 Z Z Z Z Z Z Z Z ?_))))))); intro w19 H
  refine q3 (W_ret (ret_gen (rs := [.cell 2 27]) (vs := [_]) results26 ⟨⟨_, Z, load_blk 3 H isAgg27 sizeOf27 Z Z Z⟩, trivial⟩ ?_))
  have H := H.del (k := 1) rfl
  have H := H.del (k := 1) rfl
  have H := H.del (k := 1) rfl
  exact H.retM ⟨_, _, _, _, _, _, _, oM, Z, hst, htr, hsn, Z⟩
end Go.Proofs.Tst

namespace Go.Proofs.Tst
open Go Fw Tryz
theorem l91Snap_c (w0 : World) (G0 : PH) (hG : PSub G0 w0) (rb : Nat) (ab : Option Addr) (mb kb : Nat) (bs : List UInt8) (p : Nat) (hbs : RdU G0 (.slice ab mb kb) bs) (hrb : w0.heap[rb]? = some (cl [.slice ab mb kb, .int .i64 (p : Int)] 107)) (hrn : G0 rb = none) (hp : p ≤ 1000000000) (cd : List Value) (d : BDisk) (hd : diskE G0 d cd)  :
  Calls Tryz.prog 35 #[.pointer (some ⟨rb, 0, none⟩), .agg cd.toArray] w0 (RetM w0 G0 [rb] (fun G val Bs => ∃ (p' : Nat) (x : Fw.Bs), p' ≤ p + 4 ∧ val = str x ∧ x.length ≤ 16777216 ∧ Bs = [blk rb (cl [.slice ab mb kb, .int .i64 (p' : Int)] 107)])) := by
 have hlimbs : bs.length ≤ 1099511627776 := hbs.lim; obtain rfl : mb = bs.length := hbs.len
 obtain ⟨a1, m1, c1, a1', m1', c1', a1'', m1'', c1'', rfl, hr1, hr1', hr1''⟩ := hd; have hn_hr1 := hr1.len; have hx_hr1 : _ ≤ 1099511627776 := hr1.lim; have hn_hr1q := hr1'.len; have hx_hr1q : _ ≤ 1099511627776 := hr1'.lim; have hn_hr1qq := hr1''.len; have hx_hr1qq : _ ≤ 1099511627776 := hr1''.lim
 have H := Hp.initM hG hrb hrn
 refine calls_of_W (l := [.pointer (some ⟨rb, 0, none⟩), _]) func35 Z ntmps35 Z (q2 (o_box H Z Z Z ?_)); intro b2 w2 hb2 H
 refine aG Z (q3 (W_seq (q2 (o_fieldAddr 2 runUnderlying27 Z sizeOf25 Z Z Z (o_load_B 0 H isAgg25 Z Z Z Z (o_len_slice underlying25 Z Z (o_gtr Z Z Z (mV Z ?_))))))))
 refine R_case (t := 9) Z ?_ ?_
 ·intro hc3
  try simp only [nrm] at hc3
  refine gR Z (mV Z (gR Z (o_call call33 Z Z (pick_c _ _ H.sub _ _ _ _ _ _ hbs (H.blkIs (k := 1) Z).1 (H.blkIs (k := 1) Z).2 oM _ oO ) ?_)))
  rintro _ w4 ⟨G4, _, _, rfl, H4', ⟨p4, x4, hp4, rfl, hxb4, rfl⟩⟩
  have hbs := hbs.up H4'.le
  have hr1'' := hr1''.up H4'.le
  have H := H.borrow (k := 1) rfl H4'
  refine ⟨_, Z, ?_⟩
  refine gR Z (o_gtr Z Z Z (o_pick_t Z Z Z (q3 ?_)))
  refine W_cond Z ?_ ?_
  ·intro hc5
   try simp only [nrm] at hc5
   refine W_seq (W_drawK [1] 11 H kR Z ?_); intro w6 H; have hd6 := PLe.refl G4
   refine RD_t 0 Z kR Z (fun _ hK => v_fieldAddr 2 runUnderlying27 Z sizeOf25 Z Z) (RD_t 1 Z kR Z (fun _ hK => v_load_B 0 hK isAgg25 Z Z Z) (vM 2 Z Z (RD_t 3 Z kR Z (fun _ hK => v_fieldAddr 2 runUnderlying27 Z sizeOf25 Z Z) (RD_t 4 Z kR Z (fun _ hK => v_load_B 0 hK isAgg25 Z Z Z) (RD_t 5 Z kR Z (fun _ hK => v_len_slice underlying25 Z) ?_)))))
   refine RD_run [6] kR Z (RDs.cons Z ?_ RDs.nil)
   refine o_call call33 Z Z (pick_c _ _ H.sub _ _ _ _ _ _ hbs (H.blkIs (k := 0) Z).1 (H.blkIs (k := 0) Z).2 oM _ oO ) ?_
   rintro _ w7 ⟨G7, _, _, rfl, H7', ⟨p7, x7, hp7, rfl, hxb7, rfl⟩⟩
   have hr1'' := hr1''.up H7'.le
   have hd6 := hd6.trans H7'.le
   have H := H.borrow (k := 0) rfl H7'
   refine ⟨_, Z, ?_⟩
   refine R_nil (N_DK (Kn.of' H hd6 (SubL.cons 1 Z SubL.nil)) ?_)
   have hl8 := hr1''.len
   obtain ⟨b8, o8, z8, q8, ha8, hz8, hq8, hE8, hrow8, _⟩ := hr1''.at (i := x7) oM
   clear hq8
   obtain ⟨a8, m8, c8, rfl, hi8, hr8⟩ := hE8; have hy_hi8 : _ ≤ 16777216 := hi8; have hn_hr8 := hr8.len; have hx_hr8 : _ ≤ 1099511627776 := hr8.lim
   refine RD_t 7 Z kR Z (fun _ hK => v_index_P (i := x7) ha8 underlying25 sizeOf46 Z Z Z oM) (RD_t 8 Z kR Z (fun _ hK => v_fieldAddr 0 runUnderlying46 Z sizeOf9 Z Z) ?_)
   refine RD_run [9] kR Z (RDs.cons Z ?_ RDs.nil)
   refine o_load_P H isAgg9 Z Z (hrow8 0 _ Z) (R_nil (N_DK (Kn.of' H hd6 (SubL.cons 1 Z SubL.nil)) (RD_t 10 Z kR Z (fun _ hK => v_assign Z) (RD_done kR (N_K (W_ret (N_K_ret (rt1 results35 Z ?_))))))))
   have H := H.del (k := 1) rfl
   exact H.retM ⟨_, _, by omega, rfl, hi8, rfl⟩
  intro hc5'
  try simp only [nrm] at hc5'
  refine W_skip (N_K (q2 (mV Z (o_buildSlice H underlying77 sizeOf9 (fun w => ⟨_, zeroValue9 w, Z⟩) Z Z Z Z Z Z Z ?_)))); intro b9 w9 hb9 H
  have H := H.blkAcc 1 (k := 0) (n := 5) rfl rfl (by decide)
  have hchk11 := ((((((Chk.nil (E := strE) (sz := 1) (G := G4)).snoc (show strE _ ([115] : Fw.Bs) [str [115]] from ⟨rfl, by decide⟩) rfl).snoc (show strE _ ([118] : Fw.Bs) [str [118]] from ⟨rfl, by decide⟩) rfl).snoc (show strE _ ([119] : Fw.Bs) [str [119]] from ⟨rfl, by decide⟩) rfl).snoc (show strE _ ([66, 97, 100] : Fw.Bs) [str [66, 97, 100]] from ⟨rfl, by decide⟩) rfl).snoc (show strE _ ([] : Fw.Bs) [str []] from ⟨rfl, by decide⟩) rfl)
  obtain ⟨G12, H, hsg12, hsr12⟩ := H.shutM (k := 0) (j := 0) rfl rfl hchk11 aN aN
  have hbs := hbs.up hsg12
  refine o_call call34 Z Z (of_c _ _ H.sub _ _ _ _ _ _ hbs (H.blkIs (k := 0) Z).1 (H.blkIs (k := 0) Z).2 oM _ _ hsr12 (by first | decide | (simp; done) | (simp; omega))) ?_
  rintro _ w10 ⟨G10, _, _, rfl, H10', ⟨p10, x10, hp10, rfl, hxs10, rfl⟩⟩
  have H := H.borrow (k := 0) rfl H10'
  refine ⟨_, Z, ?_⟩
  refine aG Z (q3 (W_ret (rt1 results35 Z ?_)))
  have H := H.del (k := 1) rfl
  exact H.retM ⟨_, _, by omega, rfl, hxs10, rfl⟩
 intro hc3'
 try simp only [nrm] at hc3'
 refine rP Z (rP Z (rP Z (o_pick_f Z Z Z (q3 (W_false Z (W_skip (N_K (q2 (mV Z (o_buildSlice H underlying77 sizeOf9 (fun w => ⟨_, zeroValue9 w, Z⟩) Z Z Z Z Z Z Z ?_)))))))))); intro b13 w13 hb13 H
 have H := H.blkAcc 1 (k := 0) (n := 5) rfl rfl (by decide)
 have hchk15 := ((((((Chk.nil (E := strE) (sz := 1) (G := G0)).snoc (show strE _ ([115] : Fw.Bs) [str [115]] from ⟨rfl, by decide⟩) rfl).snoc (show strE _ ([118] : Fw.Bs) [str [118]] from ⟨rfl, by decide⟩) rfl).snoc (show strE _ ([119] : Fw.Bs) [str [119]] from ⟨rfl, by decide⟩) rfl).snoc (show strE _ ([66, 97, 100] : Fw.Bs) [str [66, 97, 100]] from ⟨rfl, by decide⟩) rfl).snoc (show strE _ ([] : Fw.Bs) [str []] from ⟨rfl, by decide⟩) rfl)
 obtain ⟨G16, H, hsg16, hsr16⟩ := H.shutM (k := 0) (j := 1) rfl rfl hchk15 aN aN
 have hbs := hbs.up hsg16
 refine o_call call34 Z Z (of_c _ _ H.sub _ _ _ _ _ _ hbs (H.blkIs (k := 1) Z).1 (H.blkIs (k := 1) Z).2 oM _ _ hsr16 (by first | decide | (simp; done) | (simp; omega))) ?_
 rintro _ w14 ⟨G14, _, _, rfl, H14', ⟨p14, x14, hp14, rfl, hxs14, rfl⟩⟩
 have H := H.borrow (k := 1) rfl H14'
 refine ⟨_, Z, ?_⟩
 refine aG Z (q3 (W_ret (rt1 results35 Z ?_)))
 have H := H.del (k := 1) rfl
 exact H.retM ⟨_, _, by omega, rfl, hxs14, rfl⟩
end Go.Proofs.Tst

namespace Go.Proofs.Tst
open Go Fw Tryz
theorem DrawSnapTake_c (w0 : World) (G0 : PH) (hG : PSub G0 w0) (vcode : Value) (code : List (UInt8)) (hcode : RdU G0 vcode code)  :
  Calls Tryz.prog 15 #[vcode] w0 (RetP w0 G0 (fun G v => ∃ (cs : List Value) (x : BDisk) (p0 : Bs), v = .tuple #[.agg cs.toArray, str p0] ∧ diskE G x cs ∧ p0.length ≤ 16777216)) := by
 obtain ⟨acode, kcode, rfl⟩ := hcode.shape
 have hlimcode : code.length ≤ 1099511627776 := hcode.lim
 have H := Hp.init hG
 refine calls_of_W (l := [.slice acode code.length kcode]) func15 Z ntmps15 Z (q2 (o_alloc H zeroValue27 Z Z ?_)); intro b1 w1 hb1 H
 refine aG Z (q1 (mV Z (o_call call27 Z Z (l6Open_c _ _ H.sub _ _ hcode ) ?_)))
 rintro _ w2 ⟨G2, _, _, g2, rfl, ⟨rb2, ab2, mb2, kb2, bs2, rfl, rfl, hbs2⟩, hp2, hq2, hs2⟩
 have H := H.growO g2 hp2 hq2 hs2
 refine ⟨_, Z, ?_⟩
 refine aG Z (q1 (mV Z (o_call call26 Z Z (l91Disk_c _ _ H.sub _ _ _ _ _ _ hbs2 (H.blkIs (k := 0) Z).1 (H.blkIs (k := 0) Z).2 oM ) ?_)))
 rintro _ w3 ⟨G3, _, _, rfl, H3', ⟨p3, v13, v23, v33, st3, tr3, sn3, hp3, rfl, hst3, htr3, hsn3, rfl⟩⟩
 have hbs2 := hbs2.up H3'.le
 have H := H.borrow (k := 0) rfl H3'
 obtain ⟨sta3, stc3, rfl⟩ := hst3.shape; have hx_hst3 : _ ≤ 1099511627776 := hst3.lim; obtain ⟨tra3, trc3, rfl⟩ := htr3.shape; have hx_htr3 : _ ≤ 1099511627776 := htr3.lim; obtain ⟨sna3, snc3, rfl⟩ := hsn3.shape; have hx_hsn3 : _ ≤ 1099511627776 := hsn3.lim
 refine ⟨_, Z, ?_⟩
 refine o_alloc H zeroValue27 Z Z ?_; intro b4 w4 hb4 H
 refine o_store_B 0 H sizeOf27 Z Z Z Z Z Z Z Z ?_; intro w5 H
 refine q3 (W_seq (q2 (mV Z (o_call call33 Z Z (pick_c _ _ H.sub _ _ _ _ _ _ hbs2 (H.blkIs (k := 1) Z).1 (H.blkIs (k := 1) Z).2 oM _ oO ) ?_))))
 rintro _ w6 ⟨G6, _, _, rfl, H6', ⟨p6, x6, hp6, rfl, hxb6, rfl⟩⟩
 have hbs2 := hbs2.up H6'.le
 have hst3 := hst3.up H6'.le
 have htr3 := htr3.up H6'.le
 have hsn3 := hsn3.up H6'.le
 have H := H.borrow (k := 1) rfl H6'
 refine ⟨_, Z, ?_⟩
 refine o_gtr Z Z Z (q3 ?_)
 refine W_cond Z ?_ ?_
 ·intro hc7
  try simp only [nrm] at hc7
  refine W_seq (W_drawK [1] 6 H kR Z ?_); intro w8 H; have hd8 := PLe.refl G6
  refine RD_t 0 Z kR Z (fun _ hK => v_loadagg_B 0 hK isAgg27 sizeOf27 Z Z Z Z) (vM 1 Z Z ?_)
  refine RD_run [2] kR Z (RDs.cons Z ?_ RDs.nil)
  refine o_buildSlice H underlying77 sizeOf9 (fun w => ⟨_, zeroValue9 w, Z⟩) Z Z Z Z Z Z Z ?_; intro b9 w9 hb9 H
  refine R_nil (N_DK (Kn.of' H hd8 (SubL.cons 2 Z SubL.nil)) ?_)
  refine RD_run [3] kR Z (RDs.cons Z ?_ RDs.nil)
  have H := H.blkAcc 1 (k := 0) (n := 3) rfl rfl (by decide)
  have hchk11 := ((((Chk.nil (E := strE) (sz := 1) (G := G6)).snoc (show strE _ ([118] : Fw.Bs) [str [118]] from ⟨rfl, by decide⟩) rfl).snoc (show strE _ ([119] : Fw.Bs) [str [119]] from ⟨rfl, by decide⟩) rfl).snoc (show strE _ ([110, 101, 119] : Fw.Bs) [str [110, 101, 119]] from ⟨rfl, by decide⟩) rfl)
  obtain ⟨G12, H, hsg12, hsr12⟩ := H.shut' (k := 0) rfl hchk11 aN aN
  have hbs2 := hbs2.up hsg12
  have hst3 := hst3.up hsg12
  have htr3 := htr3.up hsg12
  have hsn3 := hsn3.up hsg12
  have hd8 := hd8.trans hsg12
  refine o_call call34 Z Z (of_c _ _ H.sub _ _ _ _ _ _ hbs2 (H.blkIs (k := 0) Z).1 (H.blkIs (k := 0) Z).2 oM _ _ hsr12 (by first | decide | (simp; done) | (simp; omega))) ?_
  rintro _ w10 ⟨G10, _, _, rfl, H10', ⟨p10, x10, hp10, rfl, hxs10, rfl⟩⟩
  have hst3 := hst3.up H10'.le
  have htr3 := htr3.up H10'.le
  have hsn3 := hsn3.up H10'.le
  have hd8 := hd8.trans H10'.le
  have H := H.borrow (k := 0) rfl H10'
  refine ⟨_, Z, ?_⟩
  refine R_nil (N_DK (Kn.of' H hd8 (SubL.cons 1 Z SubL.nil)) ?_)
  refine RD_run [4] kR Z (RDs.cons Z ?_ RDs.nil)
  refine o_store_B 2 H sizeOf27 Z Z Z Z Z Z Z Z ?_; intro w13 H
  refine R_nil (N_DK (Kn.of' H hd8 (SubL.cons 1 Z SubL.nil)) (RD_t 5 Z kR Z (fun _ hK => v_assign Z) (RD_done kR (N_K (W_ret (N_K_ret (ret_gen (rs := [.cell 2 27, .tmp 3]) (vs := [_, _]) results15 ⟨⟨_, Z, load_blk 2 H isAgg27 sizeOf27 Z Z Z⟩, Z, trivial⟩ ?_)))))))
  have H := H.del (k := 0) rfl
  have H := H.del (k := 0) rfl
  have H := H.del (k := 0) rfl
  exact H.retP ⟨_, ⟨st3, tr3, sn3⟩, _, Z, ⟨_, _, _, _, _, _, _, _, _, Z, hst3, htr3, hsn3⟩, hxs10⟩
 intro hc7'
 try simp only [nrm] at hc7'
 refine W_skip (N_K (W_seq (W_drawK [1] 6 H kR Z ?_))); intro w14 H; have hd14 := PLe.refl G6
 refine RD_t 0 Z kR Z (fun _ hK => v_loadagg_B 0 hK isAgg27 sizeOf27 Z Z Z Z) (vM 1 Z Z (RD_t 2 Z kR Z (fun _ hK => v_loadagg_B 0 hK isAgg27 sizeOf27 Z Z Z Z) ?_))
 refine RD_run [3] kR Z (RDs.cons Z ?_ RDs.nil)
 refine o_call call35 Z Z (l91Snap_c _ _ H.sub _ _ _ _ _ _ hbs2 (H.blkIs (k := 0) Z).1 (H.blkIs (k := 0) Z).2 oM _ ⟨st3, tr3, sn3⟩ ⟨_, _, _, _, _, _, _, _, _, Z, hst3, htr3, hsn3⟩ ) ?_
 rintro _ w15 ⟨G15, _, _, rfl, H15', ⟨p15, x15, hp15, rfl, hxs15, rfl⟩⟩
 have hst3 := hst3.up H15'.le
 have htr3 := htr3.up H15'.le
 have hsn3 := hsn3.up H15'.le
 have hd14 := hd14.trans H15'.le
 have H := H.borrow (k := 0) rfl H15'
 refine ⟨_, Z, ?_⟩
 refine R_nil (N_DK (Kn.of' H hd14 (SubL.cons 1 Z SubL.nil)) ?_)
 refine RD_run [4] kR Z (RDs.cons Z ?_ RDs.nil)
 refine o_store_B 2 H sizeOf27 Z Z Z Z Z Z Z Z ?_; intro w16 H
 refine R_nil (N_DK (Kn.of' H hd14 (SubL.cons 1 Z SubL.nil)) (RD_t 5 Z kR Z (fun _ hK => v_assign Z) (RD_done kR (N_K (W_ret (ret_gen (rs := [.cell 2 27, .tmp 3]) (vs := [_, _]) results15 ⟨⟨_, Z, load_blk 2 H isAgg27 sizeOf27 Z Z Z⟩, Z, trivial⟩ ?_))))))
 have H := H.del (k := 0) rfl
 have H := H.del (k := 0) rfl
 have H := H.del (k := 0) rfl
 exact H.retP ⟨_, ⟨st3, tr3, sn3⟩, _, Z, ⟨_, _, _, _, _, _, _, _, _, Z, hst3, htr3, hsn3⟩, hxs15⟩
end Go.Proofs.Tst

namespace Go.Proofs.Tst
open Go Fw Tryz
theorem w_sameInts_c (w0 : World) (G0 : PH) (hG : PSub G0 w0) (va : Value) (a : List (Int)) (ha : RdI G0 va a) (vb : Value) (b : List (Int)) (hb : RdI G0 vb b) (hab : a = b) :
  Calls Tryz.prog 114 #[va, vb] w0 (Rets w0 (.bool true)) := by
 obtain ⟨aa, ka, rfl⟩ := ha.shape
 have hlima : a.length ≤ 1099511627776 := ha.lim
 obtain ⟨ab, kb, rfl⟩ := hb.shape
 have hlimb : b.length ≤ 1099511627776 := hb.lim
 have hle := congrArg List.length hab
 have H := Hp.init hG
 refine calls_of_W (l := [.slice aa a.length ka, .slice ab b.length kb]) func114 Z ntmps114 Z (q2 (aG Z (q3 (W_seq (q2 (mV Z (o_len_slice underlying38 Z Z (mV Z (o_len_slice underlying38 Z Z (o_neq Z Z Z (q3 ?_)))))))))))
 refine W_cond Z ?_ ?_
 ·intro hc1
  try simp only [nrm] at hc1
  refine q2 (aG Z (q3 (W_ret (N_K_ret (rt1 results114 Z ?_)))))
  exact absurd (show False from by omega) id
 intro hc1'
 try simp only [nrm] at hc1'
 refine W_skip (N_K (W_seq (q2 (aG Z (q3 (W_block ?_))))))
 refine W_lp (hf := (Sub.cons (t := 0) Z (Sub.cons (t := 1) Z Sub.nil))) (J := fun M w m => ∃ (k : Nat) (G : PH), M = [(5, .int .i64 (k : Int))] ∧ PLe G0 G ∧ Hp w0 G0 [] w G [] ∧ (k ≤ a.length) ∧ m = (a.length - k)) (h0 := ⟨0, _, Z, PLe.refl _, H, ?inv, Z⟩) (round := ?round)
 case inv => omega
 case round =>
  rintro _ w2 _ ⟨k, G2, rfl, hle2, H, hinv2, rfl⟩
  have ha := ha.up hle2
  have hb := hb.up hle2
  have hk := hinv2
  refine W_seq (q2 (mV Z (mV Z (o_len_slice underlying38 Z Z (o_lss Z Z Z (q3 ?_))))))
  refine W_cond Z ?_ ?_
  ·intro hc3
   try simp only [nrm] at hc3
   refine W_skip (N_K (W_seq (W_block (W_seq (W_drawK [] 9 H kR Z ?_))))); intro w4 H; have hd4 := PLe.refl G2
   refine vM 0 Z Z (vM 1 Z Z ?_)
   have hl5 := ha.len
   obtain ⟨b5, o5, z5, q5, ha5, hz5, hq5, hE5, hrow5, _⟩ := ha.at (i := k) oM
   clear hq5
   obtain ⟨rfl, hi5⟩ := hE5
   refine RD_t 2 Z kR Z (fun _ hK => v_index_P (i := k) ha5 underlying38 sizeOf3 Z Z Z oM) (RD_t 3 Z kR Z (fun _ hK => v_load_P hK isAgg3 Z (hrow5 0 _ Z)) (vM 4 Z Z (vM 5 Z Z ?_)))
   have hl6 := hb.len
   obtain ⟨b6, o6, z6, q6, ha6, hz6, hq6, hE6, hrow6, _⟩ := hb.at (i := k) oM
   clear hq6
   obtain ⟨rfl, hi6⟩ := hE6
   refine RD_t 6 Z kR Z (fun _ hK => v_index_P (i := k) ha6 underlying38 sizeOf3 Z Z Z oM) (RD_t 7 Z kR Z (fun _ hK => v_load_P hK isAgg3 Z (hrow6 0 _ Z)) (RD_t 8 Z kR Z (fun _ hK => v_neq Z Z) (RD_done kR (N_K ?_))))
   refine W_cond Z ?_ ?_
   ·intro hc7
    try simp only [nrm] at hc7
    refine q2 (aG Z (q3 (W_ret (N_B_ret (N_K_ret (N_LP_ret (N_B_ret (N_K_ret (rt1 results114 Z ?_)))))))))
    exact absurd (show False from by first | omega | (exact hc7 (Sp.same_at hab hz5 hz6))) id
   intro hc7'
   try simp only [nrm] at hc7'
   refine W_skip (N_B (N_K (W_region (mV Z (o_add Z Z Z oO (aG Z (R_nil ?_)))))))
   refine N_lp (hJ := ⟨k + 1, _, Z, hle2, H, ?inv, Z⟩) (hm := ?hm)
   case hm => omega
   case inv => omega
  intro hc3'
  try simp only [nrm] at hc3'
  refine W_exit (N_K_exit (N_LP_exit (N_B_same (N_K (q2 (aG Z (q3 (W_ret (rt1 results114 Z ?_)))))))))
  exact H.rets Z
theorem w_sameHeld_c (w0 : World) (G0 : PH) (hG : PSub G0 w0) (ca : List Value) (a : BHeld) (ha : heldE G0 a ca) (cb : List Value) (b : BHeld) (hb : heldE G0 b cb) (hab : a = b) :
  Calls Tryz.prog 82 #[.agg ca.toArray, .agg cb.toArray] w0 (Rets w0 (.bool true)) := by
 obtain ⟨a1, m1, c1, rfl, hi1, hr1, hj1⟩ := ha; have hn_hr1 := hr1.len; have hx_hr1 : _ ≤ 1099511627776 := hr1.lim
 obtain ⟨a2, m2, c2, rfl, hi2, hr2, hj2⟩ := hb; have hn_hr2 := hr2.len; have hx_hr2 : _ ≤ 1099511627776 := hr2.lim
 have H := Hp.init hG
 refine calls_of_W (l := [_, _]) func82 Z ntmps82 Z (q2 (o_box H Z Z Z ?_)); intro b3 w3 hb3 H
 refine o_box H Z Z Z ?_; intro b4 w4 hb4 H
 refine aG Z (q1 (o_fieldAddr 0 runUnderlying42 Z sizeOf3 Z Z Z (o_load_B 1 H isAgg3 Z Z Z Z (o_fieldAddr 0 runUnderlying42 Z sizeOf3 Z Z Z (o_load_B 0 H isAgg3 Z Z Z Z (o_eql Z Z Z (mV Z ?_)))))))
 refine R_case (t := 10) Z ?_ ?_
 ·intro hc5
  try simp only [nrm] at hc5
  refine gR Z (o_fieldAddr 2 runUnderlying42 Z sizeOf3 Z Z Z (gR Z (o_load_B 1 H isAgg3 Z Z Z Z (gR Z (o_fieldAddr 2 runUnderlying42 Z sizeOf3 Z Z Z (gR Z (o_load_B 0 H isAgg3 Z Z Z Z (gR Z (o_eql Z Z Z (o_pick_t Z Z Z (mV Z ?_)))))))))))
  refine R_case (t := 17) Z ?_ ?_
  ·intro hc6
   try simp only [nrm] at hc6
   refine gR Z (o_fieldAddr 1 runUnderlying42 Z sizeOf38 Z Z Z (gR Z (o_load_B 1 H isAgg38 Z Z Z Z (gR Z (o_fieldAddr 1 runUnderlying42 Z sizeOf38 Z Z Z (gR Z (o_load_B 0 H isAgg38 Z Z Z Z (gR Z (o_call call114 Z Z (w_sameInts_c _ _ H.sub _ _ hr1 _ _ hr2 (congrArg BHeld.bytes hab)) ?_)))))))))
   rintro _ w7 ⟨rfl, ew7⟩; have H := H.step ew7; refine ⟨_, rfl, ?_⟩
   refine o_pick_t Z Z Z (aG Z (q3 (W_ret (rt1 results82 Z ?_))))
   exact H.rets Z
  intro hc6'
  try simp only [nrm] at hc6'
  refine rP Z (rP Z (rP Z (rP Z (rP Z (o_pick_f Z Z Z (aG Z (q3 (W_ret (rt1 results82 Z ?_)))))))))
  exact absurd (show False from by simp [hab] at hc6') id
 intro hc5'
 try simp only [nrm] at hc5'
 refine rP Z (rP Z (rP Z (rP Z (rP Z (o_pick_f Z Z Z (mV Z (rP Z (rP Z (rP Z (rP Z (rP Z (o_pick_f Z Z Z (aG Z (q3 (W_ret ?_)))))))))))))))
 refine rt1 results82 Z ?_
 exact absurd (show False from by simp [hab] at hc5') id
theorem w_sameStore_c (w0 : World) (G0 : PH) (hG : PSub G0 w0) (va : Value) (a : List (BHeld)) (ha : RdH G0 va a) (vb : Value) (b : List (BHeld)) (hb : RdH G0 vb b) (hab : a = b) :
  Calls Tryz.prog 44 #[va, vb] w0 (Rets w0 (.bool true)) := by
 obtain ⟨aa, ka, rfl⟩ := ha.shape
 have hlima : a.length ≤ 1099511627776 := ha.lim
 obtain ⟨ab, kb, rfl⟩ := hb.shape
 have hlimb : b.length ≤ 1099511627776 := hb.lim
 have hle := congrArg List.length hab
 have H := Hp.init hG
 refine calls_of_W (l := [.slice aa a.length ka, .slice ab b.length kb]) func44 Z ntmps44 Z (q2 (aG Z (q3 (W_seq (q2 (mV Z (o_len_slice underlying23 Z Z (mV Z (o_len_slice underlying23 Z Z (o_neq Z Z Z (q3 ?_)))))))))))
 refine W_cond Z ?_ ?_
 ·intro hc1
  try simp only [nrm] at hc1
  refine q2 (aG Z (q3 (W_ret (N_K_ret (rt1 results44 Z ?_)))))
  exact absurd (show False from by omega) id
 intro hc1'
 try simp only [nrm] at hc1'
 refine W_skip (N_K (W_seq (q2 (aG Z (q3 (W_block ?_))))))
 refine W_lp (hf := (Sub.cons (t := 0) Z (Sub.cons (t := 1) Z Sub.nil))) (J := fun M w m => ∃ (k : Nat) (G : PH), M = [(5, .int .i64 (k : Int))] ∧ PLe G0 G ∧ Hp w0 G0 [] w G [] ∧ (k ≤ a.length) ∧ m = (a.length - k)) (h0 := ⟨0, _, Z, PLe.refl _, H, ?inv, Z⟩) (round := ?round)
 case inv => omega
 case round =>
  rintro _ w2 _ ⟨k, G2, rfl, hle2, H, hinv2, rfl⟩
  have ha := ha.up hle2
  have hb := hb.up hle2
  have hk := hinv2
  refine W_seq (q2 (mV Z (mV Z (o_len_slice underlying23 Z Z (o_lss Z Z Z (q3 ?_))))))
  refine W_cond Z ?_ ?_
  ·intro hc3
   try simp only [nrm] at hc3
   refine W_skip (N_K (W_seq (W_block (W_seq (W_drawK [] 10 H kR Z ?_))))); intro w4 H; have hd4 := PLe.refl G2
   refine vM 0 Z Z (vM 1 Z Z ?_)
   have hl5 := ha.len
   obtain ⟨b5, o5, z5, q5, ha5, hz5, hq5, hE5, hrow5, _⟩ := ha.at (i := k) oM
   clear hq5
   obtain ⟨a5, m5, c5, rfl, hi5, hr5, hj5⟩ := hE5; have hn_hr5 := hr5.len; have hx_hr5 : _ ≤ 1099511627776 := hr5.lim
   refine RD_t 2 Z kR Z (fun _ hK => v_index_P (i := k) ha5 underlying23 sizeOf42 Z Z Z oM) (RD_t 3 Z kR Z (fun _ hK => v_loadagg_P hK isAgg42 sizeOf42 Z hrow5 Z) (vM 4 Z Z (vM 5 Z Z ?_)))
   have hl6 := hb.len
   obtain ⟨b6, o6, z6, q6, ha6, hz6, hq6, hE6, hrow6, _⟩ := hb.at (i := k) oM
   clear hq6
   obtain ⟨a6, m6, c6, rfl, hi6, hr6, hj6⟩ := hE6; have hn_hr6 := hr6.len; have hx_hr6 : _ ≤ 1099511627776 := hr6.lim
   refine RD_t 6 Z kR Z (fun _ hK => v_index_P (i := k) ha6 underlying23 sizeOf42 Z Z Z oM) (RD_t 7 Z kR Z (fun _ hK => v_loadagg_P hK isAgg42 sizeOf42 Z hrow6 Z) ?_)
   refine RD_run [8] kR Z (RDs.cons Z ?_ RDs.nil)
   refine o_call call82 Z Z (w_sameHeld_c _ _ H.sub _ _ ⟨_, _, _, Z, ⟨by first | omega | (dsimp only; omega), by first | omega | (dsimp only; omega)⟩, hr5, ⟨by first | omega | (dsimp only; omega), by first | omega | (dsimp only; omega)⟩⟩ _ _ ⟨_, _, _, rfl, ⟨by first | omega | (dsimp only; omega), by first | omega | (dsimp only; omega)⟩, hr6, ⟨by first | omega | (dsimp only; omega), by first | omega | (dsimp only; omega)⟩⟩ (Sp.same_at hab hz5 hz6)) ?_
   rintro _ w7 ⟨rfl, ew7⟩; have H := H.step ew7; refine ⟨_, rfl, ?_⟩
   refine R_nil (N_DK (Kn.of' H hd4 SubL.nil) (RD_t 9 Z kR Z (fun _ hK => v_not Z) (RD_done kR (N_K (W_false Z (W_skip (N_B (N_K (W_region (mV Z (o_add Z Z Z oO (aG Z (R_nil ?_)))))))))))))
   refine N_lp (hJ := ⟨k + 1, _, Z, hle2, H, ?inv, Z⟩) (hm := ?hm)
   case hm => omega
   case inv => omega
  intro hc3'
  try simp only [nrm] at hc3'
  refine W_exit (N_K_exit (N_LP_exit (N_B_same (N_K (q2 (aG Z (q3 (W_ret (rt1 results44 Z ?_)))))))))
  exact H.rets Z
theorem w_sameItem_c (w0 : World) (G0 : PH) (hG : PSub G0 w0) (ca : List Value) (a : BItem) (ha : itemE G0 a ca) (cb : List Value) (b : BItem) (hb : itemE G0 b cb) (hab : a = b) :
  Calls Tryz.prog 83 #[.agg ca.toArray, .agg cb.toArray] w0 (Rets w0 (.bool true)) := by
 obtain ⟨a1, m1, c1, rfl, hi1, hr1⟩ := ha; have hy_hi1 : _ ≤ 16777216 := hi1; have hn_hr1 := hr1.len; have hx_hr1 : _ ≤ 1099511627776 := hr1.lim
 obtain ⟨a2, m2, c2, rfl, hi2, hr2⟩ := hb; have hy_hi2 : _ ≤ 16777216 := hi2; have hn_hr2 := hr2.len; have hx_hr2 : _ ≤ 1099511627776 := hr2.lim
 have H := Hp.init hG
 refine calls_of_W (l := [_, _]) func83 Z ntmps83 Z (q2 (o_box H Z Z Z ?_)); intro b3 w3 hb3 H
 refine o_box H Z Z Z ?_; intro b4 w4 hb4 H
 refine aG Z (q1 (o_fieldAddr 0 runUnderlying40 Z sizeOf9 Z Z Z (o_load_B 1 H isAgg9 Z Z Z Z (o_fieldAddr 0 runUnderlying40 Z sizeOf9 Z Z Z (o_load_B 0 H isAgg9 Z Z Z Z (o_seql Z Z Z (mV Z ?_)))))))
 refine R_case (t := 10) Z ?_ ?_
 ·intro hc5
  try simp only [nrm] at hc5
  refine gR Z (o_fieldAddr 1 runUnderlying40 Z sizeOf4 Z Z Z (gR Z (o_load_B 1 H isAgg4 Z Z Z Z (gR Z (o_fieldAddr 1 runUnderlying40 Z sizeOf4 Z Z Z (gR Z (o_load_B 0 H isAgg4 Z Z Z Z (gR Z (o_beql underlying4 Z Z Z (o_pick_t Z Z Z (mV Z ?_)))))))))))
  refine R_case (t := 17) Z ?_ ?_
  ·intro hc6
   try simp only [nrm] at hc6
   refine gR Z (o_fieldAddr 2 runUnderlying40 Z sizeOf38 Z Z Z (gR Z (o_load_B 1 H isAgg38 Z Z Z Z (gR Z (o_fieldAddr 2 runUnderlying40 Z sizeOf38 Z Z Z (gR Z (o_load_B 0 H isAgg38 Z Z Z Z (gR Z (o_call call114 Z Z (w_sameInts_c _ _ H.sub _ _ hr1 _ _ hr2 (congrArg BItem.ids hab)) ?_)))))))))
   rintro _ w7 ⟨rfl, ew7⟩; have H := H.step ew7; refine ⟨_, rfl, ?_⟩
   refine o_pick_t Z Z Z (aG Z (q3 (W_ret (rt1 results83 Z ?_))))
   exact H.rets Z
  intro hc6'
  try simp only [nrm] at hc6'
  refine rP Z (rP Z (rP Z (rP Z (rP Z (o_pick_f Z Z Z (aG Z (q3 (W_ret (rt1 results83 Z ?_)))))))))
  exact absurd (show False from by simp [hab] at hc6') id
 intro hc5'
 try simp only [nrm] at hc5'
 refine rP Z (rP Z (rP Z (rP Z (rP Z (o_pick_f Z Z Z (mV Z (rP Z (rP Z (rP Z (rP Z (rP Z (o_pick_f Z Z Z (aG Z (q3 (W_ret ?_)))))))))))))))
 refine rt1 results83 Z ?_
 exact absurd (show False from by simp [hab] at hc5') id
theorem w_sameTree_c (w0 : World) (G0 : PH) (hG : PSub G0 w0) (va : Value) (a : List (BItem)) (ha : RdItems G0 va a) (vb : Value) (b : List (BItem)) (hb : RdItems G0 vb b) (hab : a = b) :
  Calls Tryz.prog 45 #[va, vb] w0 (Rets w0 (.bool true)) := by
 obtain ⟨aa, ka, rfl⟩ := ha.shape
 have hlima : a.length ≤ 1099511627776 := ha.lim
 obtain ⟨ab, kb, rfl⟩ := hb.shape
 have hlimb : b.length ≤ 1099511627776 := hb.lim
 have hle := congrArg List.length hab
 have H := Hp.init hG
 refine calls_of_W (l := [.slice aa a.length ka, .slice ab b.length kb]) func45 Z ntmps45 Z (q2 (aG Z (q3 (W_seq (q2 (mV Z (o_len_slice underlying24 Z Z (mV Z (o_len_slice underlying24 Z Z (o_neq Z Z Z (q3 ?_)))))))))))
 refine W_cond Z ?_ ?_
 ·intro hc1
  try simp only [nrm] at hc1
  refine q2 (aG Z (q3 (W_ret (N_K_ret (rt1 results45 Z ?_)))))
  exact absurd (show False from by omega) id
 intro hc1'
 try simp only [nrm] at hc1'
 refine W_skip (N_K (W_seq (q2 (aG Z (q3 (W_block ?_))))))
 refine W_lp (hf := (Sub.cons (t := 0) Z (Sub.cons (t := 1) Z Sub.nil))) (J := fun M w m => ∃ (k : Nat) (G : PH), M = [(5, .int .i64 (k : Int))] ∧ PLe G0 G ∧ Hp w0 G0 [] w G [] ∧ (k ≤ a.length) ∧ m = (a.length - k)) (h0 := ⟨0, _, Z, PLe.refl _, H, ?inv, Z⟩) (round := ?round)
 case inv => omega
 case round =>
  rintro _ w2 _ ⟨k, G2, rfl, hle2, H, hinv2, rfl⟩
  have ha := ha.up hle2
  have hb := hb.up hle2
  have hk := hinv2
  refine W_seq (q2 (mV Z (mV Z (o_len_slice underlying24 Z Z (o_lss Z Z Z (q3 ?_))))))
  refine W_cond Z ?_ ?_
  ·intro hc3
   try simp only [nrm] at hc3
   refine W_skip (N_K (W_seq (W_block (W_seq (W_drawK [] 10 H kR Z ?_))))); intro w4 H; have hd4 := PLe.refl G2
   refine vM 0 Z Z (vM 1 Z Z ?_)
   have hl5 := ha.len
   obtain ⟨b5, o5, z5, q5, ha5, hz5, hq5, hE5, hrow5, _⟩ := ha.at (i := k) oM
   clear hq5
   obtain ⟨a5, m5, c5, rfl, hi5, hr5⟩ := hE5; have hy_hi5 : _ ≤ 16777216 := hi5; have hn_hr5 := hr5.len; have hx_hr5 : _ ≤ 1099511627776 := hr5.lim
   refine RD_t 2 Z kR Z (fun _ hK => v_index_P (i := k) ha5 underlying24 sizeOf40 Z Z Z oM) (RD_t 3 Z kR Z (fun _ hK => v_loadagg_P hK isAgg40 sizeOf40 Z hrow5 Z) (vM 4 Z Z (vM 5 Z Z ?_)))
   have hl6 := hb.len
   obtain ⟨b6, o6, z6, q6, ha6, hz6, hq6, hE6, hrow6, _⟩ := hb.at (i := k) oM
   clear hq6
   obtain ⟨a6, m6, c6, rfl, hi6, hr6⟩ := hE6; have hy_hi6 : _ ≤ 16777216 := hi6; have hn_hr6 := hr6.len; have hx_hr6 : _ ≤ 1099511627776 := hr6.lim
   refine RD_t 6 Z kR Z (fun _ hK => v_index_P (i := k) ha6 underlying24 sizeOf40 Z Z Z oM) (RD_t 7 Z kR Z (fun _ hK => v_loadagg_P hK isAgg40 sizeOf40 Z hrow6 Z) ?_)
   refine RD_run [8] kR Z (RDs.cons Z ?_ RDs.nil)
   refine o_call call83 Z Z (w_sameItem_c _ _ H.sub _ _ ⟨_, _, _, Z, hi5, hr5⟩ _ _ ⟨_, _, _, Z, hi6, hr6⟩ (Sp.same_at hab hz5 hz6)) ?_
   rintro _ w7 ⟨rfl, ew7⟩; have H := H.step ew7; refine ⟨_, rfl, ?_⟩
   refine R_nil (N_DK (Kn.of' H hd4 SubL.nil) (RD_t 9 Z kR Z (fun _ hK => v_not Z) (RD_done kR (N_K (W_false Z (W_skip (N_B (N_K (W_region (mV Z (o_add Z Z Z oO (aG Z (R_nil ?_)))))))))))))
   refine N_lp (hJ := ⟨k + 1, _, Z, hle2, H, ?inv, Z⟩) (hm := ?hm)
   case hm => omega
   case inv => omega
  intro hc3'
  try simp only [nrm] at hc3'
  refine W_exit (N_K_exit (N_LP_exit (N_B_same (N_K (q2 (aG Z (q3 (W_ret (rt1 results45 Z ?_)))))))))
  exact H.rets Z
end Go.Proofs.Tst

namespace Go.Proofs.Tst
open Go Fw Tryz
theorem w_sameSnap_c (w0 : World) (G0 : PH) (hG : PSub G0 w0) (ca : List Value) (a : BSnap) (ha : snapE G0 a ca) (cb : List Value) (b : BSnap) (hb : snapE G0 b cb) (hab : a = b) :
  Calls Tryz.prog 84 #[.agg ca.toArray, .agg cb.toArray] w0 (Rets w0 (.bool true)) := by
 obtain ⟨a1, m1, c1, rfl, hi1, hr1⟩ := ha; have hy_hi1 : _ ≤ 16777216 := hi1; have hn_hr1 := hr1.len; have hx_hr1 : _ ≤ 1099511627776 := hr1.lim
 obtain ⟨a2, m2, c2, rfl, hi2, hr2⟩ := hb; have hy_hi2 : _ ≤ 16777216 := hi2; have hn_hr2 := hr2.len; have hx_hr2 : _ ≤ 1099511627776 := hr2.lim
 have H := Hp.init hG
 refine calls_of_W (l := [_, _]) func84 Z ntmps84 Z (q2 (o_box H Z Z Z ?_)); intro b3 w3 hb3 H
 refine o_box H Z Z Z ?_; intro b4 w4 hb4 H
 refine aG Z (q1 (o_fieldAddr 0 runUnderlying46 Z sizeOf9 Z Z Z (o_load_B 1 H isAgg9 Z Z Z Z (o_fieldAddr 0 runUnderlying46 Z sizeOf9 Z Z Z (o_load_B 0 H isAgg9 Z Z Z Z (o_seql Z Z Z (mV Z ?_)))))))
 refine R_case (t := 10) Z ?_ ?_
 ·intro hc5
  try simp only [nrm] at hc5
  refine gR Z (o_fieldAddr 1 runUnderlying46 Z sizeOf24 Z Z Z (gR Z (o_load_B 1 H isAgg24 Z Z Z Z (gR Z (o_fieldAddr 1 runUnderlying46 Z sizeOf24 Z Z Z (gR Z (o_load_B 0 H isAgg24 Z Z Z Z (gR Z (o_call call45 Z Z (w_sameTree_c _ _ H.sub _ _ hr1 _ _ hr2 (congrArg BSnap.tree hab)) ?_)))))))))
  rintro _ w6 ⟨rfl, ew6⟩; have H := H.step ew6; refine ⟨_, rfl, ?_⟩
  refine o_pick_t Z Z Z (aG Z (q3 (W_ret (rt1 results84 Z ?_))))
  exact H.rets Z
 intro hc5'
 try simp only [nrm] at hc5'
 refine rP Z (rP Z (rP Z (rP Z (rP Z (o_pick_f Z Z Z (aG Z (q3 (W_ret (rt1 results84 Z ?_)))))))))
 exact absurd (show False from by simp [hab] at hc5') id
theorem w_sameSnaps_c (w0 : World) (G0 : PH) (hG : PSub G0 w0) (va : Value) (a : List (BSnap)) (ha : RdSn G0 va a) (vb : Value) (b : List (BSnap)) (hb : RdSn G0 vb b) (hab : a = b) :
  Calls Tryz.prog 46 #[va, vb] w0 (Rets w0 (.bool true)) := by
 obtain ⟨aa, ka, rfl⟩ := ha.shape
 have hlima : a.length ≤ 1099511627776 := ha.lim
 obtain ⟨ab, kb, rfl⟩ := hb.shape
 have hlimb : b.length ≤ 1099511627776 := hb.lim
 have hle := congrArg List.length hab
 have H := Hp.init hG
 refine calls_of_W (l := [.slice aa a.length ka, .slice ab b.length kb]) func46 Z ntmps46 Z (q2 (aG Z (q3 (W_seq (q2 (mV Z (o_len_slice underlying25 Z Z (mV Z (o_len_slice underlying25 Z Z (o_neq Z Z Z (q3 ?_)))))))))))
 refine W_cond Z ?_ ?_
 ·intro hc1
  try simp only [nrm] at hc1
  refine q2 (aG Z (q3 (W_ret (N_K_ret (rt1 results46 Z ?_)))))
  exact absurd (show False from by omega) id
 intro hc1'
 try simp only [nrm] at hc1'
 refine W_skip (N_K (W_seq (q2 (aG Z (q3 (W_block ?_))))))
 refine W_lp (hf := (Sub.cons (t := 0) Z (Sub.cons (t := 1) Z Sub.nil))) (J := fun M w m => ∃ (k : Nat) (G : PH), M = [(5, .int .i64 (k : Int))] ∧ PLe G0 G ∧ Hp w0 G0 [] w G [] ∧ (k ≤ a.length) ∧ m = (a.length - k)) (h0 := ⟨0, _, Z, PLe.refl _, H, ?inv, Z⟩) (round := ?round)
 case inv => omega
 case round =>
  rintro _ w2 _ ⟨k, G2, rfl, hle2, H, hinv2, rfl⟩
  have ha := ha.up hle2
  have hb := hb.up hle2
  have hk := hinv2
  refine W_seq (q2 (mV Z (mV Z (o_len_slice underlying25 Z Z (o_lss Z Z Z (q3 ?_))))))
  refine W_cond Z ?_ ?_
  ·intro hc3
   try simp only [nrm] at hc3
   refine W_skip (N_K (W_seq (W_block (W_seq (W_drawK [] 10 H kR Z ?_))))); intro w4 H; have hd4 := PLe.refl G2
   refine vM 0 Z Z (vM 1 Z Z ?_)
   have hl5 := ha.len
   obtain ⟨b5, o5, z5, q5, ha5, hz5, hq5, hE5, hrow5, _⟩ := ha.at (i := k) oM
   clear hq5
   obtain ⟨a5, m5, c5, rfl, hi5, hr5⟩ := hE5; have hy_hi5 : _ ≤ 16777216 := hi5; have hn_hr5 := hr5.len; have hx_hr5 : _ ≤ 1099511627776 := hr5.lim
   refine RD_t 2 Z kR Z (fun _ hK => v_index_P (i := k) ha5 underlying25 sizeOf46 Z Z Z oM) (RD_t 3 Z kR Z (fun _ hK => v_loadagg_P hK isAgg46 sizeOf46 Z hrow5 Z) (vM 4 Z Z (vM 5 Z Z ?_)))
   have hl6 := hb.len
   obtain ⟨b6, o6, z6, q6, ha6, hz6, hq6, hE6, hrow6, _⟩ := hb.at (i := k) oM
   clear hq6
   obtain ⟨a6, m6, c6, rfl, hi6, hr6⟩ := hE6; have hy_hi6 : _ ≤ 16777216 := hi6; have hn_hr6 := hr6.len; have hx_hr6 : _ ≤ 1099511627776 := hr6.lim
   refine RD_t 6 Z kR Z (fun _ hK => v_index_P (i := k) ha6 underlying25 sizeOf46 Z Z Z oM) (RD_t 7 Z kR Z (fun _ hK => v_loadagg_P hK isAgg46 sizeOf46 Z hrow6 Z) ?_)
   refine RD_run [8] kR Z (RDs.cons Z ?_ RDs.nil)
   refine o_call call84 Z Z (w_sameSnap_c _ _ H.sub _ _ ⟨_, _, _, Z, hi5, hr5⟩ _ _ ⟨_, _, _, Z, hi6, hr6⟩ (Sp.same_at hab hz5 hz6)) ?_
   rintro _ w7 ⟨rfl, ew7⟩; have H := H.step ew7; refine ⟨_, rfl, ?_⟩
   refine R_nil (N_DK (Kn.of' H hd4 SubL.nil) (RD_t 9 Z kR Z (fun _ hK => v_not Z) (RD_done kR (N_K (W_false Z (W_skip (N_B (N_K (W_region (mV Z (o_add Z Z Z oO (aG Z (R_nil ?_)))))))))))))
   refine N_lp (hJ := ⟨k + 1, _, Z, hle2, H, ?inv, Z⟩) (hm := ?hm)
   case hm => omega
   case inv => omega
  intro hc3'
  try simp only [nrm] at hc3'
  refine W_exit (N_K_exit (N_LP_exit (N_B_same (N_K (q2 (aG Z (q3 (W_ret (rt1 results46 Z ?_)))))))))
  exact H.rets Z
theorem w_sameDisk_c (w0 : World) (G0 : PH) (hG : PSub G0 w0) (ca : List Value) (a : BDisk) (ha : diskE G0 a ca) (cb : List Value) (b : BDisk) (hb : diskE G0 b cb) (hab : a = b) :
  Calls Tryz.prog 18 #[.agg ca.toArray, .agg cb.toArray] w0 (Rets w0 (.bool true)) := by
 obtain ⟨a1, m1, c1, a1', m1', c1', a1'', m1'', c1'', rfl, hr1, hr1', hr1''⟩ := ha; have hn_hr1 := hr1.len; have hx_hr1 : _ ≤ 1099511627776 := hr1.lim; have hn_hr1q := hr1'.len; have hx_hr1q : _ ≤ 1099511627776 := hr1'.lim; have hn_hr1qq := hr1''.len; have hx_hr1qq : _ ≤ 1099511627776 := hr1''.lim
 obtain ⟨a2, m2, c2, a2', m2', c2', a2'', m2'', c2'', rfl, hr2, hr2', hr2''⟩ := hb; have hn_hr2 := hr2.len; have hx_hr2 : _ ≤ 1099511627776 := hr2.lim; have hn_hr2q := hr2'.len; have hx_hr2q : _ ≤ 1099511627776 := hr2'.lim; have hn_hr2qq := hr2''.len; have hx_hr2qq : _ ≤ 1099511627776 := hr2''.lim
 have H := Hp.init hG
 refine calls_of_W (l := [_, _]) func18 Z ntmps18 Z (q2 (o_box H Z Z Z ?_)); intro b3 w3 hb3 H
 refine o_box H Z Z Z ?_; intro b4 w4 hb4 H
 refine aG Z (q1 (o_fieldAddr 0 runUnderlying27 Z sizeOf23 Z Z Z (o_load_B 1 H isAgg23 Z Z Z Z (o_fieldAddr 0 runUnderlying27 Z sizeOf23 Z Z Z (o_load_B 0 H isAgg23 Z Z Z Z (o_call call44 Z Z (w_sameStore_c _ _ H.sub _ _ hr1 _ _ hr2 (congrArg BDisk.store hab)) ?_))))))
 rintro _ w5 ⟨rfl, ew5⟩; have H := H.step ew5; refine ⟨_, rfl, ?_⟩
 refine mV Z (gR Z (o_fieldAddr 1 runUnderlying27 Z sizeOf24 Z Z Z (gR Z (o_load_B 1 H isAgg24 Z Z Z Z (gR Z (o_fieldAddr 1 runUnderlying27 Z sizeOf24 Z Z Z (gR Z (o_load_B 0 H isAgg24 Z Z Z Z (gR Z (o_call call45 Z Z (w_sameTree_c _ _ H.sub _ _ hr1' _ _ hr2' (congrArg BDisk.tree hab)) ?_))))))))))
 rintro _ w6 ⟨rfl, ew6⟩; have H := H.step ew6; refine ⟨_, rfl, ?_⟩
 refine o_pick_t Z Z Z (mV Z (gR Z (o_fieldAddr 2 runUnderlying27 Z sizeOf25 Z Z Z (gR Z (o_load_B 1 H isAgg25 Z Z Z Z (gR Z (o_fieldAddr 2 runUnderlying27 Z sizeOf25 Z Z Z (gR Z (o_load_B 0 H isAgg25 Z Z Z Z (gR Z (o_call call46 Z Z (w_sameSnaps_c _ _ H.sub _ _ hr1'' _ _ hr2'' (congrArg BDisk.snaps hab)) ?_)))))))))))
 rintro _ w7 ⟨rfl, ew7⟩; have H := H.step ew7; refine ⟨_, rfl, ?_⟩
 refine o_pick_t Z Z Z (aG Z (q3 (W_ret (rt1 results18 Z ?_))))
 exact H.rets Z
end Go.Proofs.Tst

namespace Go.Proofs.Tst
open Go Fw Tryz
end Go.Proofs.Tst

namespace Go.Proofs.Tst
open Go Fw Tryz
theorem i_countDisk_c (w0 : World) (G0 : PH) (hG : PSub G0 w0) (cd : List Value) (d : BDisk) (hd : diskE G0 d cd) (hLent : Lent w0 G0 [])  :
  Calls Tryz.prog 28 #[.agg cd.toArray] w0 (RetM w0 G0 [] (fun G' v Bs => ((∃ s : Fw.Bs, v = .tuple #[.pointer none, .iface 109 (.agg #[str s])]) ∧ Bs = [] ∧ Sp.DiskValid d = false) ∨ (∃ (db mb : Nat) (es : Array MapEntry) (ck : Nat) (xs : List (Int × Value)) (T : Nd) (F : Fr) (sv : Value) (sn : List (Fw.Bs × Nd)) (c : List Value) (FSq : Fr), v = .tuple #[.pointer (some ⟨db, 0, none⟩), .nilIface] ∧ Bs = [blk db (cl [.int .i32 0, .int .u32 0, .map (some mb), .pointer (some ⟨T.b, 0, none⟩), sv] 70), blk mb (.map es ck), frag F, acc 124 2 sv sn.length c, frag FSq] ∧ MapIs (Value.int .i64) es ck xs ∧ StR G' xs d.store ∧ NdO 167 65 G' T F ∧ Nd.TOK T d.tree ∧ Chk osE 2 G' c sn ∧ NdsO 167 65 G' (sn.map (·.2)) FSq ∧ SnOK sn d.snaps ∧ Sp.DiskValid d = true))) := by
 obtain ⟨a1, m1, c1, a1', m1', c1', a1'', m1'', c1'', rfl, hr1, hr1', hr1''⟩ := hd; have hn_hr1 := hr1.len; have hx_hr1 : _ ≤ 1099511627776 := hr1.lim; have hn_hr1q := hr1'.len; have hx_hr1q : _ ≤ 1099511627776 := hr1'.lim; have hn_hr1qq := hr1''.len; have hx_hr1qq : _ ≤ 1099511627776 := hr1''.lim
 have H : Hp w0 G0 [] w0 G0 [] := hLent.hp
 refine calls_of_W (l := [_]) func28 Z ntmps28 Z (q2 (o_box H Z Z Z ?_)); intro b2 w2 hb2 H
 refine aG Z (aG Z (q1 (o_loadagg_B 0 H isAgg27 sizeOf27 Z Z Z Z Z (o_call call58 Z Z (i_newDisk_c _ _ H.sub _ d ⟨_, _, _, _, _, _, _, _, _, Z, hr1, hr1', hr1''⟩ H.lent0 ) ?_))))
 rintro _ w3 ⟨G3, _, _, rfl, H3', ⟨rfl, rfl, hnd3⟩ | ⟨db3, mb3, es3, ck3, xs3, T3, F3, sv3, sn3, c3, FS3, rfl, rfl, hm3, hS3, hN3, hT3, hchk3, hNs3, hSn3, hdv3⟩⟩
 ·skip
  have H := H.borrow0 H3'
  refine ⟨_, Z, ?_⟩
  refine mV Z (o_extract Z Z Z (o_extract Z Z Z (aG Z (aG Z (q3 (W_seq (q2 (mV Z (o_not Z Z (q3 (W_true Z (q2 (o_build bf109 Z Z Z (o_iface kR Z Z (aG Z ?_)))))))))))))))
  refine aG Z (q3 (W_ret (N_K_ret (rt2 results28 Z Z ?_))))
  have H := H.del (k := 0) rfl
  exact H.retM (.inl ⟨⟨_, rfl⟩, rfl, by assumption⟩)
 skip
 have H := H.borrow0 H3'
 obtain ⟨avAd, cvAd, rfl⟩ := H.accShape (k := 3) rfl
 refine ⟨_, Z, ?_⟩
 refine mV Z (o_extract Z Z Z (o_extract Z Z Z (aG Z (aG Z (q3 (W_seq (q2 (mV Z (o_not Z Z (q3 (W_false Z (W_skip (N_K (q2 (mV Z ?_)))))))))))))))
 refine aG Z (aG Z (q3 (W_ret (rt2 results28 Z Z ?_))))
 have H := H.del (k := 5) rfl
 have H := H.toFront (k := 4) rfl
 have H := H.toFront (k := 4) rfl
 have H := H.toFront (k := 4) rfl
 have H := H.toFront (k := 4) rfl
 have H := H.toFront (k := 4) rfl
 exact H.retM (.inr ⟨_, _, _, _, _, _, _, _, _, _, _, Z, Z, hm3, hS3, hN3, hT3, hchk3, hNs3, hSn3, hdv3⟩)
end Go.Proofs.Tst

namespace Go.Proofs.Tst
open Go Fw Tryz
theorem i_CountShared_c (w0 : World) (G0 : PH) (hG : PSub G0 w0) (cd : List Value) (d : BDisk) (hd : diskE G0 d cd) (hge : ErrG G0) :
  Calls Tryz.prog 13 #[.agg cd.toArray] w0 (Rets w0 (.int .i64 (Sp.cShared d))) := by
 obtain ⟨a1, m1, c1, a1', m1', c1', a1'', m1'', c1'', rfl, hr1, hr1', hr1''⟩ := hd; have hn_hr1 := hr1.len; have hx_hr1 : _ ≤ 1099511627776 := hr1.lim; have hn_hr1q := hr1'.len; have hx_hr1q : _ ≤ 1099511627776 := hr1'.lim; have hn_hr1qq := hr1''.len; have hx_hr1qq : _ ≤ 1099511627776 := hr1''.lim
 have H := Hp.init hG
 refine calls_of_W (l := [_]) func13 Z ntmps13 Z (q2 (o_box H Z Z Z ?_)); intro b2 w2 hb2 H
 refine aG Z (q1 (o_loadagg_B 0 H isAgg27 sizeOf27 Z Z Z Z Z (o_call call28 Z Z (i_countDisk_c _ _ H.sub _ d ⟨_, _, _, _, _, _, _, _, _, Z, hr1, hr1', hr1''⟩ H.lent0 ) ?_)))
 rintro _ w3 ⟨G3, _, _, rfl, H3', ⟨⟨se3, rfl⟩, rfl, hnd3⟩ | ⟨db3, mb3, es3, ck3, xs3, T3, F3, sv3, sn3, c3, FS3, rfl, rfl, hm3, hS3, hN3, hT3, hchk3, hNs3, hSn3, hdv3⟩⟩
 ·skip
  have hge := hge.up H3'.le
  have H := H.borrow0 H3'
  refine ⟨_, Z, ?_⟩
  refine mV Z (o_extract Z Z Z (o_extract Z Z Z (aG Z (aG Z (q3 (W_seq (q2 (mV Z (o_call call29 Z Z (uncounted_hit _ _ H.sub hge _) ?_)))))))))
  rintro _ w4 ⟨rfl, ew4⟩; have H := H.step ew4; refine ⟨_, rfl, ?_⟩
  refine q3 (W_true Z (q2 (aG Z (q3 (W_ret (N_K_ret (rt1 results13 Z ?_)))))))
  exact H.rets (congrArg (Value.int .i64) (by have h9 : Sp.DiskValid d = false := (by assumption); simp [Sp.cShared, h9]))
 skip
 have H := H.borrow0 H3'
 obtain ⟨avAd, cvAd, rfl⟩ := H.accShape (k := 3) rfl
 have hVx := Sp.valid_iff.1 (Sp.dv_parts.1 hdv3).1; have hNs := hNs3; have hSn := hSn3; have hT := hT3; have hdv := hdv3; have hTc := hT.cnt; have hTl := Sp.tree_len (Sp.dv_parts.1 hdv).2.1; have hs6 := (Sp.dv_parts.1 hdv).2.2.1; have hsnl := hSn.len; have h16 := hVx.len
 refine ⟨_, Z, ?_⟩
 refine mV Z (o_extract Z Z Z (o_extract Z Z Z (aG Z (aG Z (q3 (W_seq (q2 (mV Z (o_call call29 Z Z (uncounted_nil _ _ H.sub) ?_)))))))))
 rintro _ w5 ⟨rfl, ew5⟩; have H := H.step ew5; refine ⟨_, rfl, ?_⟩
 refine q3 (W_false Z (W_skip (N_K (q2 (aG Z (q3 (W_seq (q2 (mV Z (o_nilCheck Z Z (o_fieldAddr 2 runUnderlying70 Z sizeOf67 Z Z Z (o_fieldAddr 0 runUnderlying67 Z sizeOf64 Z Z Z (o_load_B 0 H isAgg64 Z Z Z Z (o_call call30 Z Z (i_slist_c _ _ (H.lendSubL [1]) _ _ _ _ _ (H.lendPredL (k := 1) (ks := [1]) Z Z) hm3 (hS3.up (PPlus.le _ _ _)) hVx ) ?_))))))))))))))
 rintro _ w6 ⟨_, _, rfl, H6', ⟨F6, rfl, hO6⟩⟩
 have H := H.readersL H6'
 obtain ⟨e26, hP6⟩ := hO6
 obtain ⟨sa6, sc6, rfl⟩ := OwnS.shape hP6
 have hO6 := OHs.mk hP6
 refine ⟨_, Z, ?_⟩
 have hdm1 := dm_nodup H (k := 0) rfl; obtain ⟨Gk1, H, hkl1, hks1⟩ := H.keepF (k := 0) rfl (fun b _ hb => by simp at hb)
 have hrk1 := hO6.rd hks1 hdm1
 have hn_hrk1 := hrk1.len
 refine o_len_slice underlying23 Z Z (mV Z (q3 (W_block ?_)))
 have H := H.del (k := 0) rfl
 have H := H.del (k := 0) rfl
 have H := H.del (k := 0) rfl
 have H := H.del (k := 0) rfl
 have H := H.del (k := 0) rfl
 obtain ⟨ln7, hln7, H⟩ := H.name (k := 0) rfl
 refine W_lp (hf := (Sub.cons (t := 2) Z (Sub.cons (t := 20) Z (Sub.cons (t := 21) Z Sub.nil)))) (J := fun M w m => ∃ (k : Nat) (mm : Int) (G : PH), M = [(22, .int .i64 (k : Int)), (5, .int .i64 mm)] ∧ PLe Gk1 G ∧ Hp w0 G0 [] w G [blk b2 (cl ln7 27)] ∧ (k ≤ d.store.length ∧ mm = (Sp.sharedN (d.store.take k) : Int)) ∧ m = (d.store.length - k)) (h0 := ⟨0, 0, _, Z, PLe.refl _, H, ?inv, Z⟩) (round := ?round)
 case inv => exact ⟨by omega, rfl⟩
 case round =>
  rintro _ w8 _ ⟨k, mm, G8, rfl, hle8, H, hinv8, rfl⟩
  subst hln7
  have hrk1 := hrk1.up hle8
  obtain ⟨hk, hmm⟩ := hinv8; have hcb := Sp.cnt_bnd hVx k
  refine q2 (o_lss Z Z Z (q3 (W_seq ?_)))
  refine W_cond Z ?_ ?_
  ·intro hc9
   try simp only [nrm] at hc9
   refine W_skip (N_K (W_seq (W_block (q2 (o_index_P k hrk1 underlying23 sizeOf42 Z Z Z Z aN ?_))))); intro b10 o10 z10 q10 hz10 hE10 hrow10
   obtain ⟨a10, m10, c10, rfl, hi10, hr10, hj10⟩ := hE10; have hn_hr10 := hr10.len; have hx_hr10 : _ ≤ 1099511627776 := hr10.lim
   obtain ⟨hbv, hb1, hb2, hb3, hb4, hb5, hb6⟩ := Sp.held_bnd hVx hz10
   have hbc : (m10 : Int) * z10.uses = z10.uses * (z10.bytes.length : Int) := by (rw [hn_hr10]; exact Int.mul_comm _ _)
   refine o_loadagg_P H isAgg42 sizeOf42 Z Z hrow10 Z (o_alloc H zeroValue42 Z Z ?_); intro b11 w11 hb11 H
   refine o_store_B 0 H sizeOf42 Z Z Z Z Z Z Z Z ?_; intro w12 H
   refine q1 (o_fieldAddr 2 runUnderlying42 Z sizeOf3 Z Z Z (o_load_B 0 H isAgg3 Z Z Z Z (o_gtr Z Z Z (q3 ?_))))
   refine W_cond Z ?_ ?_
   ·intro hc13
    try simp only [nrm] at hc13
    refine W_region (mV Z (o_add Z Z Z oO (aG Z (R_nil (N_B (N_K (W_region (o_add Z Z Z oO (mV Z (R_nil ?_))))))))))
    have H := H.del (k := 0) rfl
    refine N_lp (hJ := ⟨k + 1, (mm + 1), _, Z, hle8, H, ?inv, Z⟩) (hm := ?hm)
    case hm => omega
    case inv => exact ⟨by omega, by (rw [Sp.shared_yes hz10 oM, hmm]; rfl)⟩
   intro hc13'
   try simp only [nrm] at hc13'
   refine W_skip (N_B (N_K (W_region (o_add Z Z Z oO (mV Z (R_nil ?_))))))
   have H := H.del (k := 0) rfl
   refine N_lp (hJ := ⟨k + 1, mm, _, Z, hle8, H, ?inv, Z⟩) (hm := ?hm)
   case hm => omega
   case inv => exact ⟨by omega, by (rw [Sp.shared_no hz10 oM, hmm]; skip)⟩
  intro hc9'
  try simp only [nrm] at hc9'
  refine W_exit (N_K_exit (N_LP_exit (N_B_same (N_K (q2 (mV Z (aG Z (q3 (W_ret (rt1 results13 Z ?_))))))))))
  have hkk : k = d.store.length := by omega
  rw [hkk, List.take_length] at hmm
  exact H.rets (congrArg (Value.int .i64) (by (rw [hmm]; simp [Sp.cShared, hdv])))
end Go.Proofs.Tst

namespace Go.Proofs.Tst
open Go Fw Tryz
theorem lSharedTake_c (w0 : World) (G0 : PH) (hG : PSub G0 w0) (vcode : Value) (code : List (UInt8)) (hcode : RdU G0 vcode code) (hge : ErrG G0) :
  Calls Tryz.prog 5 #[vcode] w0 (Rets w0 (.bool true)) := by
 obtain ⟨acode, kcode, rfl⟩ := hcode.shape
 have hlimcode : code.length ≤ 1099511627776 := hcode.lim
 have H := Hp.init hG
 refine calls_of_W (l := [.slice acode code.length kcode]) func5 Z ntmps5 Z (q2 (aG Z (q3 (W_seq (q2 (mV Z (o_len_slice underlying22 Z Z (o_gtr Z Z Z (q3 ?_)))))))))
 refine W_cond Z ?_ ?_
 ·intro hc1
  try simp only [nrm] at hc1
  refine q2 (aG Z (q3 (W_ret (N_K_ret (rt1 results5 Z ?_)))))
  exact H.rets Z
 intro hc1'
 try simp only [nrm] at hc1'
 refine W_skip (N_K (q2 (mV Z (o_call call15 Z Z (DrawSnapTake_c _ _ H.sub _ _ hcode ) ?_))))
 rintro _ w2 ⟨G2, _, g2, rfl, ⟨cV, uV, uP0, rfl, hV, hP0⟩⟩
 have H := H.grow g2
 have hge := hge.up g2.le
 obtain ⟨a2, m2, c2, a2', m2', c2', a2'', m2'', c2'', rfl, hr2, hr2', hr2''⟩ := hV; have hn_hr2 := hr2.len; have hx_hr2 : _ ≤ 1099511627776 := hr2.lim; have hn_hr2q := hr2'.len; have hx_hr2q : _ ≤ 1099511627776 := hr2'.lim; have hn_hr2qq := hr2''.len; have hx_hr2qq : _ ≤ 1099511627776 := hr2''.lim
 refine ⟨_, Z, ?_⟩
 refine mV Z (o_extract Z Z Z (o_extract Z Z Z (o_alloc H zeroValue27 Z Z ?_))); intro b3 w3 hb3 H
 refine o_store_B 0 H sizeOf27 Z Z Z Z Z Z Z Z ?_; intro w4 H
 refine aG Z (q1 (o_loadagg_B 0 H isAgg27 sizeOf27 Z Z Z Z Z (mV Z (o_call call16 Z Z (i_SnapTake_c _ _ H.sub _ uV ⟨_, _, _, _, _, _, _, _, _, Z, hr2, hr2', hr2''⟩ _ hP0 ) ?_))))
 rintro _ w5 ⟨_, _, rfl, H5', ⟨u15, u25, u35, E15, E25, E35, rfl, rfl, ho15, ho25, ho35⟩⟩
 have H := H.readers (fp := []) (by simp) (PLe.refl _) H5'
 obtain ⟨x15, p15⟩ := ho15
 obtain ⟨a15, c15, rfl⟩ := OwnS.shape p15
 obtain ⟨x25, p25⟩ := ho25
 obtain ⟨a25, c25, rfl⟩ := OwnS.shape p25
 obtain ⟨x35, p35⟩ := ho35
 obtain ⟨a35, c35, rfl⟩ := OwnS.shape p35
 refine ⟨_, Z, ?_⟩
 refine mV Z (o_extract Z Z Z (o_extract Z Z Z (o_alloc H zeroValue27 Z Z ?_))); intro b6 w6 hb6 H
 refine o_store_B 0 H sizeOf27 Z Z Z Z Z Z Z Z ?_; intro w7 H
 refine aG Z (q1 (o_loadagg_B 4 H isAgg27 sizeOf27 Z Z Z Z Z (mV Z (o_call call17 Z Z (SnapTakeP_c _ _ H.sub _ uV ⟨_, _, _, _, _, _, _, _, _, Z, hr2, hr2', hr2''⟩ _ hP0 ) ?_))))
 rintro _ w8 ⟨G8, _, g8, rfl, u8_0, rfl, hr8_0⟩
 have H := H.grow g8
 have hge := hge.up g8.le
 have hr2 := hr2.up g8.le
 have hr2' := hr2'.up g8.le
 obtain ⟨a9, m9, c9, a9', m9', c9', a9'', m9'', c9'', rfl, hr9, hr9', hr9''⟩ := hr8_0; have hn_hr9 := hr9.len; have hx_hr9 : _ ≤ 1099511627776 := hr9.lim; have hn_hr9q := hr9'.len; have hx_hr9q : _ ≤ 1099511627776 := hr9'.lim; have hn_hr9qq := hr9''.len; have hx_hr9qq : _ ≤ 1099511627776 := hr9''.lim
 refine ⟨_, Z, ?_⟩
 refine mV Z (o_extract Z Z Z (o_extract Z Z Z (o_alloc H zeroValue27 Z Z ?_))); intro b10 w10 hb10 H
 refine o_store_B 0 H sizeOf27 Z Z Z Z Z Z Z Z ?_; intro w11 H
 refine aG Z (q3 (W_seq (q2 (mV Z (mV Z (o_bneq_same underlying4 Z Z Z (mV Z (gR Z (o_loadagg_B 1 H isAgg27 sizeOf27 Z Z Z Z Z (gR Z (o_loadagg_B 0 H isAgg27 sizeOf27 Z Z Z Z Z (gR Z (o_call call18 Z Z (w_sameDisk_c _ _ (H.lendSubL [2, 3, 4]) _ ((Sp.SnapTake uV uP0).getD ⟨[], [], []⟩) ⟨_, _, _, _, _, _, _, _, _, Z, (H.lendOHs (k := 2) (ks := [2, 3, 4]) Z Z ⟨_, p15⟩), (H.lendOIs (k := 3) (ks := [2, 3, 4]) Z Z ⟨_, p25⟩), (H.lendOSn (k := 4) (ks := [2, 3, 4]) Z Z ⟨_, p35⟩)⟩ _ ((Sp.SnapTake uV uP0).getD ⟨[], [], []⟩) ⟨_, _, _, _, _, _, _, _, _, Z, (hr9.up (PPlus.le _ _ _)), (hr9'.up (PPlus.le _ _ _)), (hr9''.up (PPlus.le _ _ _))⟩ Z) ?_)))))))))))))
 rintro _ w12 ⟨rfl, ew12⟩; have H := H.step ew12; refine ⟨_, rfl, ?_⟩
 refine gR Z (o_not Z Z (o_pick_f Z Z Z (mV Z (gR Z (mV Z (gR Z (o_not Z Z (o_pick_f Z Z Z (q3 ?_)))))))))
 refine W_cond Z ?_ ?_
 ·intro hc13
  try simp only [nrm] at hc13
  refine q2 (mV Z (mV Z (o_beql_same underlying4 Z Z Z (mV Z (gR Z (o_loadagg_B 1 H isAgg27 sizeOf27 Z Z Z Z Z (gR Z (o_loadagg_B 0 H isAgg27 sizeOf27 Z Z Z Z Z (gR Z (o_call call18 Z Z (w_sameDisk_c _ _ (H.lendSubL [2, 3, 4]) _ ((Sp.SnapTake uV uP0).getD ⟨[], [], []⟩) ⟨_, _, _, _, _, _, _, _, _, Z, (H.lendOHs (k := 2) (ks := [2, 3, 4]) Z Z ⟨_, p15⟩), (H.lendOIs (k := 3) (ks := [2, 3, 4]) Z Z ⟨_, p25⟩), (H.lendOSn (k := 4) (ks := [2, 3, 4]) Z Z ⟨_, p35⟩)⟩ _ ((Sp.SnapTake uV uP0).getD ⟨[], [], []⟩) ⟨_, _, _, _, _, _, _, _, _, Z, (hr9.up (PPlus.le _ _ _)), (hr9'.up (PPlus.le _ _ _)), (hr9''.up (PPlus.le _ _ _))⟩ Z) ?_))))))))))
  rintro _ w14 ⟨rfl, ew14⟩; have H := H.step ew14; refine ⟨_, rfl, ?_⟩
  refine o_pick_t Z Z Z (aG Z (q3 (W_ret (N_K_ret (rt1 results5 Z ?_)))))
  exact H.rets Z
 intro hc13'
 try simp only [nrm] at hc13'
 obtain ⟨u2, hu2⟩ := Option.isSome_iff_exists.1 (show (Sp.SnapTake uV uP0).isSome = true by simpa using hc13')
 have hW : (Sp.SnapTake uV uP0).getD ⟨[], [], []⟩ = u2 := by (rw [hu2]; rfl)
 have hsh : ((uV.store.countP (fun h => decide (0 < Sp.cntL uV.tree h.id)) : Nat) : Int) ≤ Sp.cShared ((Sp.SnapTake uV uP0).getD ⟨[], [], []⟩) := by (rw [hW]; exact Sp.shared_take0 hu2)
 refine W_skip (N_K (q2 (aG Z (q3 (W_seq (q2 (aG Z (q3 (W_block ?_)))))))))
 obtain ⟨ln15, hln15, H⟩ := H.name (k := 0) rfl
 obtain ⟨ln16, hln16, H⟩ := H.name (k := 1) rfl
 obtain ⟨ln17, hln17, H⟩ := H.name (k := 5) rfl
 refine W_lp (hf := (Sub.cons (t := 2) Z (Sub.cons (t := 3) Z (Sub.cons (t := 5) Z Sub.nil)))) (J := fun M w m => ∃ (k : Nat) (nn : Int) (G : PH), M = [(10, .int .i64 (k : Int)), (9, .int .i64 nn)] ∧ PLe G8 G ∧ Hp w0 G0 [] w G [blk b10 (cl ln15 27), blk b6 (cl ln16 27), frag E15, frag E25, frag E35, blk b3 (cl ln17 27)] ∧ (k ≤ uV.store.length ∧ nn = ((uV.store.take k).countP (fun h => decide (0 < Sp.cntL uV.tree h.id)) : Int)) ∧ m = (uV.store.length - k)) (h0 := ⟨0, 0, _, Z, PLe.refl _, H, ?inv, Z⟩) (round := ?round)
 case inv => exact ⟨by omega, by simp⟩
 case round =>
  rintro _ w18 _ ⟨k, nn, G18, rfl, hle18, H, hinv18, rfl⟩
  subst hln15
  subst hln16
  subst hln17
  have hge := hge.up hle18
  have hr2 := hr2.up hle18
  have hr2' := hr2'.up hle18
  obtain ⟨hk, hnn⟩ := hinv18; have hcp := List.countP_le_length (p := (fun h => decide (0 < Sp.cntL uV.tree h.id))) (l := uV.store.take k); (rw [List.length_take] at hcp)
  refine W_seq (q2 (mV Z (o_fieldAddr 0 runUnderlying27 Z sizeOf23 Z Z Z (o_load_B 5 H isAgg23 Z Z Z Z (o_len_slice underlying23 Z Z (o_lss Z Z Z (q3 ?_)))))))
  refine W_cond Z ?_ ?_
  ·intro hc19
   try simp only [nrm] at hc19
   refine W_skip (N_K (W_seq (W_block (q2 (aG Z (q3 (W_seq (q2 (aG Z (q3 (W_block ?_)))))))))))
   obtain ⟨zs, hzs⟩ : ∃ z, uV.store[k]? = some z := ⟨_, List.getElem?_eq_getElem oM⟩
   obtain ⟨ln20, hln20, H⟩ := H.name (k := 0) rfl
   obtain ⟨ln21, hln21, H⟩ := H.name (k := 1) rfl
   obtain ⟨ln22, hln22, H⟩ := H.name (k := 5) rfl
   refine W_lp (hf := (Sub.cons (t := 2) Z (Sub.cons (t := 3) Z (Sub.cons (t := 5) Z (Sub.cons (t := 9) Z (Sub.cons (t := 10) Z Sub.nil)))))) (J := fun M w m => ∃ (kk : Nat) (sb : Bool) (G : PH), M = [(12, .int .i64 (kk : Int)), (11, .bool sb)] ∧ PLe G18 G ∧ Hp w0 G0 [] w G [blk b10 (cl ln20 27), blk b6 (cl ln21 27), frag E15, frag E25, frag E35, blk b3 (cl ln22 27)] ∧ (kk ≤ uV.tree.length ∧ sb = decide (0 < Sp.cntL (uV.tree.take kk) zs.id)) ∧ m = (uV.tree.length - kk)) (h0 := ⟨0, false, _, Z, PLe.refl _, H, ?inv, Z⟩) (round := ?round)
   case inv => exact ⟨by omega, by simp [Sp.cntL]⟩
   case round =>
    rintro _ w23 _ ⟨kk, sb, G23, rfl, hle23, H, hinv23, rfl⟩
    subst hln20
    subst hln21
    subst hln22
    have hr2 := hr2.up hle23
    have hr2' := hr2'.up hle23
    have hle18 := hle18.trans hle23
    obtain ⟨hkk, hsb⟩ := hinv23
    refine W_seq (q2 (mV Z (o_fieldAddr 1 runUnderlying27 Z sizeOf24 Z Z Z (o_load_B 5 H isAgg24 Z Z Z Z (o_len_slice underlying24 Z Z (o_lss Z Z Z (q3 ?_)))))))
    refine W_cond Z ?_ ?_
    ·intro hc24
     try simp only [nrm] at hc24
     refine W_skip (N_K (W_seq (W_block (q2 (aG Z (q3 (W_block ?_)))))))
     obtain ⟨zt, hzt⟩ : ∃ z, uV.tree[kk]? = some z := ⟨_, List.getElem?_eq_getElem oM⟩
     obtain ⟨ln25, hln25, H⟩ := H.name (k := 0) rfl
     obtain ⟨ln26, hln26, H⟩ := H.name (k := 1) rfl
     obtain ⟨ln27, hln27, H⟩ := H.name (k := 5) rfl
     refine W_lp (hf := (Sub.cons (t := 2) Z (Sub.cons (t := 3) Z (Sub.cons (t := 5) Z (Sub.cons (t := 9) Z (Sub.cons (t := 10) Z (Sub.cons (t := 12) Z Sub.nil))))))) (J := fun M w m => ∃ (jj : Nat) (sc : Bool) (G : PH), M = [(13, .int .i64 (jj : Int)), (11, .bool sc)] ∧ PLe G23 G ∧ Hp w0 G0 [] w G [blk b10 (cl ln25 27), blk b6 (cl ln26 27), frag E15, frag E25, frag E35, blk b3 (cl ln27 27)] ∧ (jj ≤ zt.ids.length ∧ sc = (decide (0 < Sp.cntL (uV.tree.take kk) zs.id) || decide (0 < Sp.cnt1 zs.id (zt.ids.take jj)))) ∧ m = (zt.ids.length - jj)) (h0 := ⟨0, sb, _, Z, PLe.refl _, H, ?inv, Z⟩) (round := ?round)
     case inv => exact ⟨by omega, by (rw [hsb]; simp [Sp.cnt1])⟩
     case round =>
      rintro _ w28 _ ⟨jj, sc, G28, rfl, hle28, H, hinv28, rfl⟩
      subst hln25
      subst hln26
      subst hln27
      have hr2 := hr2.up hle28
      have hr2' := hr2'.up hle28
      have hle23 := hle23.trans hle28
      obtain ⟨hjj, hsc⟩ := hinv28
      refine W_seq (q2 (mV Z (o_fieldAddr 1 runUnderlying27 Z sizeOf24 Z Z Z (o_load_B 5 H isAgg24 Z Z Z Z (mV Z (o_index_P kk hr2' underlying24 sizeOf40 Z Z Z Z aN ?_)))))); intro b29 o29 z29 q29 hz29 hE29 hrow29
      obtain ⟨a29, m29, c29, rfl, hi29, hr29⟩ := hE29; have hy_hi29 : _ ≤ 16777216 := hi29; have hn_hr29 := hr29.len; have hx_hr29 : _ ≤ 1099511627776 := hr29.lim
      have hzz29 : zt = z29 := Option.some.inj (hzt.symm.trans hz29)
      subst hzz29
      refine o_fieldAddr 2 runUnderlying40 Z sizeOf38 Z Z Z (o_load_P H isAgg38 Z Z (hrow29 2 _ Z) (o_len_slice underlying38 Z Z (o_lss Z Z Z (q3 ?_))))
      refine W_cond Z ?_ ?_
      ·intro hc30
       try simp only [nrm] at hc30
       refine W_skip (N_K (W_seq (W_block (W_drawK [0, 1, 5] 20 H kR Z ?_)))); intro w31 H; have hd31 := PLe.refl G28
       refine vM 0 Z Z (vM 1 Z Z ?_)
       refine RD_case (t := 81) Z ?_ ?_
       ·intro hc32
        try simp only [nrm] at hc32
        refine RD_pass 2 Z kR kR kR Z (yl_ne Z Z Z) (RD_pass 3 Z kR kR kR Z (yl_ne Z Z Z) (RD_pass 4 Z kR kR kR Z (yl_ne Z Z Z) (RD_pass 5 Z kR kR kR Z (yl_ne Z Z Z) (RD_pass 6 Z kR kR kR Z (yl_ne Z Z Z) (RD_pass 7 Z kR kR kR Z (yl_ne Z Z Z) (RD_pass 8 Z kR kR kR Z (yl_ne Z Z Z) (RD_pass 9 Z kR kR kR Z (yl_ne Z Z Z) (RD_pass 10 Z kR kR kR Z (yl_ne Z Z Z) (RD_pass 11 Z kR kR kR Z (yl_ne Z Z Z) (RD_pass 12 Z kR kR kR Z (yl_ne Z Z Z) (RD_pass 13 Z kR kR kR Z (yl_ne Z Z Z) (RD_pass 14 Z kR kR kR Z (yl_ne Z Z Z) (RD_pass 15 Z kR kR kR Z (yl_ne Z Z Z) (RD_pass 16 Z kR kR kR Z (yl_ne Z Z Z) (RD_pass 17 Z kR kR kR Z (yl_ne Z Z Z) ?_)))))))))))))))
        refine RD_t 18 Z kR Z (fun _ hK => v_pick_t Z Z) (RD_t 19 Z kR Z (fun _ hK => v_assign Z) (RD_done kR (N_B (N_K (W_region (mV Z (o_add Z Z Z oO (aG Z (R_nil ?_)))))))))
        refine N_lp (hJ := ⟨jj + 1, true, _, Z, hle28, H, ?inv, Z⟩) (hm := ?hm)
        case hm => omega
        case inv => exact ⟨by omega, by (rw [Sp.some_id (List.getElem?_eq_getElem oM), ← Bool.or_assoc, ← hsc, hc32]; rfl)⟩
       intro hc32'
       try simp only [nrm] at hc32'
       refine RD_tg 2 Z kR Z (yl Z Z) (fun _ hK => v_fieldAddr 1 runUnderlying27 Z sizeOf24 Z Z) (RD_tg 3 Z kR Z (yl Z Z) (fun _ hK => v_load_B 2 hK isAgg24 Z Z Z) (RD_tg 4 Z kR Z (yl Z Z) (fun _ hK => v_move Z) ?_))
       have hl34 := hr2'.len
       obtain ⟨b34, o34, z34, q34, ha34, hz34, hq34, hE34, hrow34, _⟩ := hr2'.at (i := kk) oM
       clear hq34
       obtain ⟨a34, m34, c34, rfl, hi34, hr34⟩ := hE34; have hy_hi34 : _ ≤ 16777216 := hi34; have hn_hr34 := hr34.len; have hx_hr34 : _ ≤ 1099511627776 := hr34.lim
       have hzz34 : zt = z34 := Option.some.inj (hzt.symm.trans hz34)
       subst hzz34
       refine RD_tg 5 Z kR Z (yl Z Z) (fun _ hK => v_index_P (i := kk) ha34 underlying24 sizeOf40 Z Z Z oM) (RD_tg 6 Z kR Z (yl Z Z) (fun _ hK => v_fieldAddr 2 runUnderlying40 Z sizeOf38 Z Z) (RD_tg 7 Z kR Z (yl Z Z) (fun _ hK => v_load_P hK isAgg38 Z (hrow34 2 _ Z)) (RD_tg 8 Z kR Z (yl Z Z) (fun _ hK => v_move Z) ?_)))
       have hl35 := hr34.len
       obtain ⟨b35, o35, z35, q35, ha35, hz35, hq35, hE35, hrow35, _⟩ := hr34.at (i := jj) oM
       clear hq35
       obtain ⟨rfl, hi35⟩ := hE35
       refine RD_tg 9 Z kR Z (yl Z Z) (fun _ hK => v_index_P (i := jj) ha35 underlying38 sizeOf3 Z Z Z oM) (RD_tg 10 Z kR Z (yl Z Z) (fun _ hK => v_load_P hK isAgg3 Z (hrow35 0 _ Z)) (RD_tg 11 Z kR Z (yl Z Z) (fun _ hK => v_fieldAddr 0 runUnderlying27 Z sizeOf23 Z Z) (RD_tg 12 Z kR Z (yl Z Z) (fun _ hK => v_load_B 2 hK isAgg23 Z Z Z) (RD_tg 13 Z kR Z (yl Z Z) (fun _ hK => v_move Z) ?_))))
       have hl36 := hr2.len
       obtain ⟨b36, o36, z36, q36, ha36, hz36, hq36, hE36, hrow36, _⟩ := hr2.at (i := k) oM
       clear hq36
       obtain ⟨a36, m36, c36, rfl, hi36, hr36, hj36⟩ := hE36; have hn_hr36 := hr36.len; have hx_hr36 : _ ≤ 1099511627776 := hr36.lim
       have hzz36 : zs = z36 := Option.some.inj (hzs.symm.trans hz36)
       subst hzz36
       refine RD_tg 14 Z kR Z (yl Z Z) (fun _ hK => v_index_P (i := k) ha36 underlying23 sizeOf42 Z Z Z oM) (RD_tg 15 Z kR Z (yl Z Z) (fun _ hK => v_fieldAddr 0 runUnderlying42 Z sizeOf3 Z Z) (RD_tg 16 Z kR Z (yl Z Z) (fun _ hK => v_load_P hK isAgg3 Z (hrow36 0 _ Z)) (RD_tg 17 Z kR Z (yl Z Z) (fun _ hK => v_eql Z Z) (RD_t 18 Z kR Z (fun _ hK => v_pick_f Z Z) (RD_t 19 Z kR Z (fun _ hK => v_assign Z) (RD_done kR (N_B (N_K (W_region (mV Z (o_add Z Z Z oO (aG Z (R_nil ?_)))))))))))))
       refine N_lp (hJ := ⟨jj + 1, (decide (z35 = zs.id)), _, Z, hle28, H, ?inv, Z⟩) (hm := ?hm)
       case hm => omega
       case inv => exact ⟨by omega, by (rw [Sp.some_id hz35, ← Bool.or_assoc, ← hsc, hc32']; rfl)⟩
      intro hc30'
      try simp only [nrm] at hc30'
      refine W_exit (N_K_exit (N_LP_exit (N_B_same (N_B (N_K (W_region (mV Z (o_add Z Z Z oO (aG Z (R_nil ?_))))))))))
      refine N_lp (hJ := ⟨kk + 1, sc, _, Z, hle23, H, ?inv, Z⟩) (hm := ?hm)
      case hm => omega
      case inv => exact ⟨by omega, by (rw [Sp.some_step (Sp.cntL_succ hzt zs.id), hsc, List.take_of_length_le (l := zt.ids) (i := jj) oM])⟩
    intro hc24'
    try simp only [nrm] at hc24'
    refine W_exit (N_K_exit (N_LP_exit (N_B_same (N_K (q2 (mV Z (q3 ?_)))))))
    refine W_cond Z ?_ ?_
    ·intro hc39
     try simp only [nrm] at hc39
     refine W_region (mV Z (o_add Z Z Z oO (aG Z (R_nil (N_B (N_K (W_region (mV Z (o_add Z Z Z oO (aG Z (R_nil ?_)))))))))))
     have hsome : decide (0 < Sp.cntL uV.tree zs.id) = true := by (rw [← List.take_of_length_le (l := uV.tree) (i := kk) oM, ← hsb]; exact hc39)
     refine N_lp (hJ := ⟨k + 1, (nn + 1), _, Z, hle18, H, ?inv, Z⟩) (hm := ?hm)
     case hm => omega
     case inv => exact ⟨by omega, by (rw [Sp.cp_succ hzs, hsome]; simp; omega)⟩
    intro hc39'
    try simp only [nrm] at hc39'
    refine W_skip (N_B (N_K (W_region (mV Z (o_add Z Z Z oO (aG Z (R_nil ?_)))))))
    have hsome : decide (0 < Sp.cntL uV.tree zs.id) = false := by (rw [← List.take_of_length_le (l := uV.tree) (i := kk) oM, ← hsb]; exact hc39')
    refine N_lp (hJ := ⟨k + 1, nn, _, Z, hle18, H, ?inv, Z⟩) (hm := ?hm)
    case hm => omega
    case inv => exact ⟨by omega, by (rw [Sp.cp_succ hzs, hsome]; simp; omega)⟩
  intro hc19'
  try simp only [nrm] at hc19'
  refine W_exit (N_K_exit (N_LP_exit (N_B_same (N_K (q2 (o_loadagg_B 1 H isAgg27 sizeOf27 Z Z Z Z Z (o_call call13 Z Z (i_CountShared_c _ _ (H.lendSubL [2, 3, 4]) _ ((Sp.SnapTake uV uP0).getD ⟨[], [], []⟩) ⟨_, _, _, _, _, _, _, _, _, Z, (H.lendOHs (k := 2) (ks := [2, 3, 4]) Z Z ⟨_, p15⟩), (H.lendOIs (k := 3) (ks := [2, 3, 4]) Z Z ⟨_, p25⟩), (H.lendOSn (k := 4) (ks := [2, 3, 4]) Z Z ⟨_, p35⟩)⟩ (hge.up (PPlus.le _ _ _))) ?_)))))))
  rintro _ w43 ⟨rfl, ew43⟩; have H := H.step ew43; refine ⟨_, rfl, ?_⟩
  refine mV Z (o_geq Z Z Z (aG Z (q3 (W_ret (rt1 results5 Z ?_)))))
  have hkk : k = uV.store.length := by omega
  rw [hkk, List.take_length] at hnn
  exact H.rets (congrArg Value.bool (by simp only [decide_eq_true_eq]; omega))
end Go.Proofs.Tst

namespace Fw
open Go
section
variable {H : Type} {enc : TypeId × Value → H} {P : Program} {W : World}
structure Bulk (bk : DataW H → Nat) (bka : List (DataW H) → Nat) : Prop where
 slice : ∀ es sp, bk (.slice es sp) = bka es + bka sp + 1
 agg : ∀ ps, bk (.agg ps) = bka ps + 1
 str : ∀ b, bk (.lit (.string b)) = b.length + 1
 nil : bka [] = 0
 cons : ∀ d r, bka (d :: r) = bk d + bka r
 pos : ∀ d, 1 ≤ bk d
variable {bk : DataW H → Nat} {bka : List (DataW H) → Nat}
theorem Bulk.len (hb : Bulk bk bka) : ∀ l, l.length ≤ bka l
 | [] => by simp
 | d :: r => by
  have h1 := hb.len r
  have h2 := hb.pos d
  rw [hb.cons]
  simp; omega
theorem Bulk.mem (hb : Bulk bk bka) {d : DataW H} : ∀ {l : List (DataW H)}, d ∈ l → bk d ≤ bka l
 | [], h => by simp at h
 | e :: r, h => by
  rw [hb.cons]
  rcases List.mem_cons.1 h with rfl | h
  ·omega
  ·have := hb.mem h
   omega
theorem Bulk.memF (hb : Bulk bk bka) {l : List (DataW H × List MemPlace)} {i : Nat} (hi : i < l.length) : bk (l[i]).1 ≤ bka (l.map (fun x => x.1)) :=
 hb.mem (List.mem_map.2 ⟨l[i], List.getElem_mem hi, rfl⟩)
abbrev Reads (enc : TypeId × Value → H) (P : Program) (W : World) (n : Nat) (t : TypeId) (cs : List Value) : Option (DataW H × List MemPlace) := DataW.trod enc P W 0 (fun _ => true) true n t cs
def Elem (enc : TypeId × Value → H) (P : Program) (W : World) (bk : DataW H → Nat) (t : TypeId) (sz : Nat) {α : Type} (E : PH → α → List Value → Prop) : Prop :=
 ∀ n cs x, Reads enc P W n t cs = some x → bk x.1 ≤ 1048576 → ∃ a, cs.length = sz ∧ E (PAll W) a cs
theorem elem_u8 {t : TypeId} (ht : P.underlying t = some (.int .u8)) : Elem enc P W bk t 1 u8E := by
 intro n cs x h _
 obtain ⟨i, rfl, _, hw⟩ := DataW.trod_int ht h
 simp [Lit.wf, IntKind.min, IntKind.max, IntKind.signed, IntKind.bits] at hw
 refine ⟨UInt8.ofNat i.toNat, rfl, ?_⟩
 show [Value.int .u8 i] = [.int .u8 ((UInt8.ofNat i.toNat).toNat : Int)]
 congr 2
 rw [UInt8.toNat_ofNat']
 omega
theorem list_of {α : Type} {Q : Nat → α → Prop} : ∀ n, (∀ i, i < n → ∃ x, Q i x) → ∃ xs : List α, xs.length = n ∧ ∀ i x, xs[i]? = some x → Q i x
 | 0, _ => ⟨[], rfl, by simp⟩
 | n + 1, h => by
  obtain ⟨xs, h1, h2⟩ := list_of n (fun i hi => h i (by omega))
  obtain ⟨x, hx⟩ := h n (by omega)
  refine ⟨xs ++ [x], by simp [h1], fun i y hy => ?_⟩
  by_cases hi : i < n
  ·rw [List.getElem?_append_left (by omega)] at hy
   exact h2 i y hy
  ·rw [List.getElem?_append_right (by omega)] at hy
   have : i = n := by
    have := (List.getElem?_eq_some_iff.1 hy).1
    simp at this
    omega
   subst this
   simp [h1] at hy
   subst hy
   exact hx
theorem mapM_at {α β : Type} {f : α → Option β} : ∀ {l : List α} {r : List β}, l.mapM f = some r → ∀ (i : Nat) (x : α), l[i]? = some x → f x = r[i]?
 | [], r, h, i, x, hx => by simp at hx
 | y :: t, r, h, i, x, hx => by
  simp only [List.mapM_cons, Option.bind_eq_bind, Option.bind_eq_some_iff, Option.pure_def, Option.some.injEq] at h
  obtain ⟨z, h1, u, h2, rfl⟩ := h
  cases i with
  | zero => simp at hx; subst hx; simpa using h1
  | succ i => simp only [List.getElem?_cons_succ] at hx ⊢; exact mapM_at h2 i x hx
theorem pcell_of {b o : Nat} {v : Value} (h : W.cell? ⟨b, o, none⟩ = some v) : PCell (PAll W) b o v := by
 unfold World.cell? at h
 unfold PCell PAll
 split at h
 ·rename_i C e fz hb
  exact ⟨C, e, fz, hb, by simpa using h⟩
 ·cases h
theorem elem_slice {α : Type} {E : PH → α → List Value → Prop} (hb : Bulk bk bka) {t e : TypeId} {sz : Nat} (ht : P.underlying t = some (.slice e)) (hz : P.cellsOf e = sz) (hsz : 0 < sz) (hE : Elem enc P W bk e sz E) :
  ∀ n cs x, Reads enc P W n t cs = some x → bk x.1 ≤ 1048576 → ∃ v xs, cs = [v] ∧ RdS LIM E sz (PAll W) v xs := by
 intro n cs x h hx
 rcases DataW.trod_slice ht h with ⟨rfl, _⟩ | ⟨a, len, cap, elems, rest, m, _, rfl, rfl, _, h2, _, h4, h5, _, _⟩
 ·exact ⟨_, [], rfl, RdS.nil _ _ _⟩
 ·simp only [hb.slice] at hx
  rw [hz] at h5
  have hle := hb.len (elems.map (·.1))
  rw [List.length_map] at hle
  have hel : ∀ i, i < len → ∃ y : α, ∃ cs, cs.length = sz ∧ E (PAll W) y cs ∧ ∀ j v, cs[j]? = some v → W.cell? ((a.add (i * sz)).add j) = some v := by
   intro i hi
   have h6 := h5 i hi
   rw [List.getElem?_eq_getElem (by omega)] at h6
   obtain ⟨cs, k1, k2⟩ := Option.bind_eq_some_iff.1 h6
   obtain ⟨y, k3, k4⟩ := hE m cs _ k2 (Nat.le_trans (hb.memF (by omega)) (by omega))
   refine ⟨y, cs, k3, k4, fun j v hj => ?_⟩
   unfold World.cells? at k1
   split at k1
   ·have hjl := (List.getElem?_eq_some_iff.1 hj).1
    rw [← hj]
    exact mapM_at k1 j j (by rw [List.getElem?_range (by omega)])
   ·cases k1
  obtain ⟨xs, x1, x2⟩ := list_of len hel
  refine ⟨_, xs, rfl, some a, cap, by rw [x1], by omega, by simp only [LIM]; omega, ?_⟩
  by_cases h0 : len = 0
  ·exact .inl (List.eq_nil_of_length_eq_zero (by omega))
  ·right
   have hspot : a.spot = none := by
    obtain ⟨y, cs, y1, _, y2⟩ := hel 0 (by omega)
    have := World.cell?_spot (y2 0 cs[0] (by simp))
    simpa [Addr.add] using this
   obtain ⟨b, o, sp⟩ := a
   simp only at hspot
   subst hspot
   refine ⟨b, o, rfl, fun i y hy => ?_⟩
   obtain ⟨cs, c1, c2, c3⟩ := x2 i y hy
   refine ⟨cs, c1, c2, fun j v hj => pcell_of ?_⟩
   have := c3 j v hj
   rwa [Addr.add_lit, Addr.add_lit] at this
variable {ti ts tb tis : TypeId}
theorem same_of_ext {w w' : World} (h : Ext w w') {p : MemPlace} (hp : p.block < w.heap.size) : w.sameAt w' p := by
 have hb := h.block p.block hp
 cases p with
 | cell b off => simp only [World.sameAt, World.cell?]; simp only [MemPlace.block] at hb; rw [hb]
 | map b => simp only [World.sameAt]; simpa [MemPlace.block] using hb
end
end Fw
namespace Fw
open Go Go.ChangeShapes Go.WideShapes
section
variable {H : Type} {enc : TypeId × Value → H} {P : Program}
theorem trodAll_stays (hl : laidOutB P = true) {W W' : World} {sp' : Nat → Bool} : ∀ {ts : List TypeId} {vs : List Value} {ds : List (DataW H)} {ps : List MemPlace}, (∀ t, t ∈ ts → P.readableRec t = true ∧ t < P.types.size) →
  DataW.TrodAll enc P W 0 (fun _ => true) true ts vs ds ps → (∀ p ∈ ps, W.sameAt W' p) → (∀ p ∈ ps, sp' p.block = true) → DataW.TrodAll enc P W' 0 sp' true ts vs ds ps
 | [], _, _, _, _, h, _, _ => by
  obtain ⟨rfl, rfl, rfl⟩ := trodAll_nil h
  rfl
 | t :: ts, _, _, _, hr, h, hs, hq => by
  obtain ⟨v, vs1, d, ds1, a, b, rfl, rfl, rfl, h1, h2⟩ := trodAll_cons h
  exact ⟨a, b, WideElems.Trod_stays hl (hr t (by simp)).1 (hr t (by simp)).2 h1 (fun p hp => hs p (by simp [hp])) (fun p hp => hq p (by simp [hp])),
   trodAll_stays hl (fun t ht => hr t (by simp [ht])) h2 (fun p hp => hs p (by simp [hp])) (fun p hp => hq p (by simp [hp])), rfl⟩
theorem kept_of_ext {W W' : World} (h : Ext W W') (may : MemPlace → Prop) : W.keptBut W' may := by
 refine ⟨h.os, h.output, fun i hi => ?_⟩
 rw [h.block i hi]
 cases W.heap[i]? with
 | none => simp
 | some o => cases o <;> simp
theorem law_post {f : Func} {s : ChangeSpec} {apart fresh handsOn again : Bool} {W W' : World} {args : Array Value} {ds gs : List (DataW H)} {before : List MemPlace} (hl : laidOutB P = true) (hr : ∀ t, t ∈ f.params.toList → P.readableRec t = true ∧ t < P.types.size)
  (hv : s.vars = []) (hW : DataW.Whole enc P f.params.toList s.vars apart W args.toList ds gs before) (hx : Ext W W') (hfr : (s.fn H (ds ++ gs)).results = [.lit (.bool true)]) (hfa : (s.fn H (ds ++ gs)).args = ds) (hfv : (s.fn H (ds ++ gs)).vars = [])
  (hres : ∀ (b : Nat) (sp : Nat → Bool) (hd : Bool), DataW.TrodAll enc P W' b sp hd f.resultTypes.toList ((Value.bool true).resultList f.resultTypes.size) [.lit (.bool true)] [])
  (hok : ∀ (j : Nat) (t : TypeId) (r : Value), f.resultTypes[j]? = some t → ((Value.bool true).resultList f.resultTypes.size)[j]? = some r → Value.okWide P W' .any 0 t r) :
  s.post enc P f apart fresh handsOn again W args (.bool true) W' := by
 have hW' := hW
 obtain ⟨p, q, hA, hV, rfl, hz, hn⟩ := hW
 rw [hv] at hV
 have hgs : gs = [] ∧ q = [] := by
  cases gs with
  | nil => exact ⟨rfl, hV⟩
  | cons d r => exact hV.elim
 obtain ⟨rfl, rfl⟩ := hgs
 rw [List.append_nil] at hW' hz hn
 have hlt : ∀ m ∈ p, m.block < W.heap.size := fun m hm => hW'.lt m hm
 have hold : ∀ m ∈ p, (fun b => decide (b < W.heap.size)) m.block = true := fun m hm => by simpa using hlt m hm
 have hargs : ∀ sp : Nat → Bool, (∀ m ∈ p, sp m.block = true) → DataW.TrodAll enc P W' 0 sp true f.params.toList args.toList (s.fn H (ds ++ [])).args p := fun sp hsp => by
  rw [hfa]
  exact trodAll_stays hl hr hA (fun m hm => same_of_ext hx (hlt m hm)) hsp
 have hvars : ∀ sp : Nat → Bool, DataW.TrodVars enc P W' sp s.vars (s.fn H (ds ++ [])).vars [] := fun sp => by rw [hv, hfv]; rfl
 have hres' : ∀ (b : Nat) (sp : Nat → Bool) (hd : Bool), DataW.TrodAll enc P W' b sp hd f.resultTypes.toList ((Value.bool true).resultList f.resultTypes.size) (s.fn H (ds ++ [])).results [] := fun b sp hd => by rw [hfr]; exact hres b sp hd
 refine ⟨ds, [], p, [], p, [], hW', hres' _ _ _, hargs _ hold, hvars _, World.keptBut_mono (fun m hm => ⟨hm, Or.inr ?_⟩) (kept_of_ext hx (· ∈ p)), fun _ => ?_⟩
 ·simpa using hm
 ·refine ⟨hok, _, _, ([] ++ p) ++ [], ⟨[] ++ p, [], trodAll_append (hargs _ (fun _ _ => rfl)) (hres' _ _ _), hvars _, rfl, ?_, ?_⟩, ?_⟩
  ·intro b off hp
   have hp' : MemPlace.cell b off ∈ p := by simpa using hp
   have h1 := hz b off hp'
   have h2 := hx.block b (hlt _ hp')
   simp only [World.frozen?] at h1 ⊢
   rw [h2]
   exact h1
  ·intro ha
   simpa using hn ha
  ·intro m hm _
   simpa using hm
end
end Fw
namespace Fw
open Go Go.WideShapes
theorem slice_of {P : Program} {W : World} {b : Nat} {t e : TypeId} {v u : Value} (ht : P.underlying t = some (.slice e)) (h : Value.okWide P W .any b t v) (hu : v.cells.toList = [u]) : v = u := by
 unfold Value.okWide at h
 rw [ht] at h
 unfold Cell.okWide at h
 rw [ht] at h
 cases v <;> simp_all [Value.cells, Cell.ok]
end Fw
namespace Go.Proofs.YtcnapjpnemcolaaGreatDoor
open Go Fw Go.ChangeShapes Go.Proofs.Tst Tryz
theorem hEt : Tryz.prog.globalNamed "errors.errorType" = some 0 := by kernel_rfl
theorem hRow : ((List.range 299).filter fun t => Tryz.prog.rowNamed t [101, 114, 114, 111, 114]) = [52] := by kernel_rfl
theorem hNt : Tryz.prog.types.size = 299 := by kernel_rfl
def errCell : Array Value := #[.iface 180 (.agg #[.pointer (some ⟨4, 52, none⟩)])]
theorem handle_of {W : World} (h : handlesMet Tryz.prog [("errors.errorType", Rows.laid_errors_errorType)] W) : ErrG (PAll W) := by
 obtain ⟨name, u, ty, e1, e2, e3, e4, e5⟩ := h _ (List.mem_singleton.2 rfl)
 have en : name = [101, 114, 114, 111, 114] := (Option.some.inj e1).symm
 subst en
 obtain rfl : u = 180 := Option.some.inj (e2.symm.trans kR)
 have hm : ty ∈ (List.range 299).filter fun t => Tryz.prog.rowNamed t [101, 114, 114, 111, 114] := List.mem_filter.2 ⟨List.mem_range.2 (by rw [← hNt]; exact e3), e4⟩
 rw [hRow] at hm
 obtain rfl := List.mem_singleton.1 hm
 have hh : typeHandle Tryz.prog 52 = .pointer (some ⟨4, 52, none⟩) := by kernel_rfl
 rw [hh] at e5
 exact pcell_of (by simpa using World.var?_cell hEt e5 0)
end Go.Proofs.YtcnapjpnemcolaaGreatDoor

