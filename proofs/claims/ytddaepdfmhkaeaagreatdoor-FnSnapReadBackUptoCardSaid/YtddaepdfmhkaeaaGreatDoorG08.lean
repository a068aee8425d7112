/- Part 8 of the proof: the program logic and plain functions. Conditions: none. -/
import Derived.Test.YtddaepdfmhkaeaaGreatDoorProg
import Derived.Test.YtddaepdfmhkaeaaGreatDoorG02
import Derived.Test.YtddaepdfmhkaeaaGreatDoorG03
import Derived.Test.YtddaepdfmhkaeaaGreatDoorG04
import Derived.Test.YtddaepdfmhkaeaaGreatDoorG07
import Derived.Test.YtddaepdfmhkaeaaGreatDoorG05
import Derived.Test.YtddaepdfmhkaeaaGreatDoorG06
import Derived.WideKeyArgs
import Derived.ChangeArms
import Derived.DataElems
import Derived.ChangeSame
set_option linter.all false
set_option maxRecDepth 100000
set_option maxHeartbeats 1000000
namespace Go.Proofs.Tst
open Go Fw Tryz
theorem l91Turn_c (w0 : World) (G0 : PH) (hG : PSub G0 w0) (rb : Nat) (ab : Option Addr) (mb kb : Nat) (bs : List UInt8) (p : Nat) (hbs : RdU G0 (.slice ab mb kb) bs) (hrb : w0.heap[rb]? = some (cl [.slice ab mb kb, .int .i64 (p : Int)] 118)) (hrn : G0 rb = none) (hp : p ≤ 100000000) (cd : List Value) (d : BDisk) (hd : diskE G0 d cd)  :
  Calls Tryz.prog 88 #[.pointer (some ⟨rb, 0, none⟩), .agg cd.toArray] w0 (RetM w0 G0 [rb] (fun G val Bs => ∃ (p' : Nat) (v1 v2 v3 : Value) (st : List BHeld) (tr : List BItem) (sn : List BSnap) (b : Bool), p' ≤ p + 200 ∧ val = .tuple #[.agg #[v1, v2, v3], .bool b] ∧ RdH G v1 st ∧ RdItems G v2 tr ∧ RdSn G v3 sn ∧ Bs = [blk rb (cl [.slice ab mb kb, .int .i64 (p' : Int)] 118)])) := by
 have hlimbs : bs.length ≤ 1099511627776 := hbs.lim; obtain rfl : mb = bs.length := hbs.len
 obtain ⟨a1, m1, c1, a1', m1', c1', a1'', m1'', c1'', rfl, hr1, hr1', hr1''⟩ := hd; have hn_hr1 := hr1.len; have hx_hr1 : _ ≤ 1099511627776 := hr1.lim; have hn_hr1q := hr1'.len; have hx_hr1q : _ ≤ 1099511627776 := hr1'.lim; have hn_hr1qq := hr1''.len; have hx_hr1qq : _ ≤ 1099511627776 := hr1''.lim
 have H := Hp.initM hG hrb hrn
 refine calls_of_W (l := [.pointer (some ⟨rb, 0, none⟩), _]) func88 Z ntmps88 Z (q2 (o_box H Z Z Z ?_)); intro b2 w2 hb2 H
 refine o_alloc H zeroValue27 Z Z ?_; intro b3 w3 hb3 H
 refine aG Z (q3 (W_seq (q2 (mV Z (o_call call38 Z Z (pick_c _ _ H.sub _ _ _ _ _ _ hbs (H.blkIs (k := 2) Z).1 (H.blkIs (k := 2) Z).2 oM _ oO ) ?_)))))
 rintro _ w4 ⟨G4, _, _, rfl, H4', ⟨p4, x4, hp4, rfl, hxb4, rfl⟩⟩
 have hbs := hbs.up H4'.le
 have hr1 := hr1.up H4'.le
 have hr1' := hr1'.up H4'.le
 have hr1'' := hr1''.up H4'.le
 have H := H.borrow (k := 2) rfl H4'
 refine ⟨_, Z, ?_⟩
 refine q3 (W_block (W_seq (q2 (o_eql Z Z Z (aG Z (q3 ?_))))))
 refine W_cond Z ?_ ?_
 ·intro hc5
  try simp only [nrm] at hc5
  refine W_skip (N_K ?_)
  refine W_cond Z ?_ ?_
  ·intro hc6
   try simp only [nrm] at hc6
   refine W_seq (W_drawK [2] 9 H kR Z ?_); intro w7 H; have hd7 := PLe.refl G4
   refine RD_t 0 Z kR Z (fun _ hK => v_loadagg_B 0 hK isAgg27 sizeOf27 Z Z Z Z) (vM 1 Z Z ?_)
   refine RD_run [2] kR Z (RDs.cons Z ?_ RDs.nil)
   refine o_buildSlice H underlying69 sizeOf9 (fun w => ⟨_, zeroValue9 w, Z⟩) Z Z Z Z Z Z Z ?_; intro b8 w8 hb8 H
   refine R_nil (N_DK (Kn.of' H hd7 (SubL.cons 3 Z SubL.nil)) ?_)
   refine RD_run [3] kR Z (RDs.cons Z ?_ RDs.nil)
   have H := H.blkAcc 1 (k := 0) (n := 3) rfl rfl (by decide)
   have hchk10 := ((((Chk.nil (E := strE) (sz := 1) (G := G4)).snoc (show strE _ ([115] : Fw.Bs) [str [115]] from ⟨rfl, by decide⟩) rfl).snoc (show strE _ ([116] : Fw.Bs) [str [116]] from ⟨rfl, by decide⟩) rfl).snoc (show strE _ ([117] : Fw.Bs) [str [117]] from ⟨rfl, by decide⟩) rfl)
   obtain ⟨G11, H, hsg11, hsr11⟩ := H.shutM (k := 0) (j := 0) rfl rfl hchk10 aN aN
   have hbs := hbs.up hsg11
   have hr1 := hr1.up hsg11
   have hr1' := hr1'.up hsg11
   have hr1'' := hr1''.up hsg11
   have hd7 := hd7.trans hsg11
   refine o_call call39 Z Z (of_c _ _ H.sub _ _ _ _ _ _ hbs (H.blkIs (k := 0) Z).1 (H.blkIs (k := 0) Z).2 oM _ _ hsr11 (by first | decide | (simp; done) | (simp; omega))) ?_
   rintro _ w9 ⟨G9, _, _, rfl, H9', ⟨p9, x9, hp9, rfl, hxs9, rfl⟩⟩
   have hr1 := hr1.up H9'.le
   have hr1' := hr1'.up H9'.le
   have hr1'' := hr1''.up H9'.le
   have hd7 := hd7.trans H9'.le
   have H := H.borrow (k := 0) rfl H9'
   refine ⟨_, Z, ?_⟩
   refine R_nil (N_DK (Kn.of' H hd7 (SubL.cons 2 Z SubL.nil)) ?_)
   refine RD_run [4] kR Z (RDs.cons Z ?_ RDs.nil)
   refine o_call call12 Z Z (SnapTakeP_c _ _ H.sub _ d ⟨_, _, _, _, _, _, _, _, _, Z, hr1, hr1', hr1''⟩ _ hxs9 ) ?_
   rintro _ w12 ⟨G12, _, g12, rfl, u12_0, rfl, hr12_0⟩
   have H := H.grow g12
   have hd7 := hd7.trans g12.le
   obtain ⟨a13, m13, c13, a13', m13', c13', a13'', m13'', c13'', rfl, hr13, hr13', hr13''⟩ := hr12_0; have hn_hr13 := hr13.len; have hx_hr13 : _ ≤ 1099511627776 := hr13.lim; have hn_hr13q := hr13'.len; have hx_hr13q : _ ≤ 1099511627776 := hr13'.lim; have hn_hr13qq := hr13''.len; have hx_hr13qq : _ ≤ 1099511627776 := hr13''.lim
   refine ⟨_, Z, ?_⟩
   refine R_nil (N_DK (Kn.of' H hd7 (SubL.cons 2 Z SubL.nil)) (RD_t 5 Z kR Z (fun _ hK => v_extract Z Z) (RD_t 6 Z kR Z (fun _ hK => v_extract Z Z) ?_)))
   refine RD_run [7] kR Z (RDs.cons Z ?_ RDs.nil)
   refine o_store_B 1 H sizeOf27 Z Z Z Z Z Z Z Z ?_; intro w14 H
   refine R_nil (N_DK (Kn.of' H hd7 (SubL.cons 2 Z SubL.nil)) (RD_t 8 Z kR Z (fun _ hK => v_assign Z) (RD_done kR (N_K (W_ret (N_B_ret (N_K_ret (ret_gen (rs := [.cell 4 27, .tmp 5]) (vs := [_, _]) results88 ⟨⟨_, Z, load_blk 1 H isAgg27 sizeOf27 Z Z Z⟩, Z, trivial⟩ ?_))))))))
   have H := H.del (k := 1) rfl
   have H := H.del (k := 1) rfl
   exact H.retM ⟨_, _, _, _, _, _, _, _, oM, Z, hr13, hr13', hr13'', Z⟩
  intro hc6'
  try simp only [nrm] at hc6'
  refine q2 (o_eql Z Z Z (aG Z (q3 ?_)))
  refine W_cond Z ?_ ?_
  ·intro hc15
   try simp only [nrm] at hc15
   refine W_seq (W_drawK [2] 9 H kR Z ?_); intro w16 H; have hd16 := PLe.refl G4
   refine RD_t 0 Z kR Z (fun _ hK => v_loadagg_B 0 hK isAgg27 sizeOf27 Z Z Z Z) (vM 1 Z Z ?_)
   refine RD_run [2] kR Z (RDs.cons Z ?_ RDs.nil)
   refine o_buildSlice H underlying69 sizeOf9 (fun w => ⟨_, zeroValue9 w, Z⟩) Z Z Z Z Z Z Z ?_; intro b17 w17 hb17 H
   refine R_nil (N_DK (Kn.of' H hd16 (SubL.cons 3 Z SubL.nil)) ?_)
   refine RD_run [3] kR Z (RDs.cons Z ?_ RDs.nil)
   have H := H.blkAcc 1 (k := 0) (n := 2) rfl rfl (by decide)
   have hchk19 := (((Chk.nil (E := strE) (sz := 1) (G := G4)).snoc (show strE _ ([115] : Fw.Bs) [str [115]] from ⟨rfl, by decide⟩) rfl).snoc (show strE _ ([116] : Fw.Bs) [str [116]] from ⟨rfl, by decide⟩) rfl)
   obtain ⟨G20, H, hsg20, hsr20⟩ := H.shutM (k := 0) (j := 0) rfl rfl hchk19 aN aN
   have hbs := hbs.up hsg20
   have hr1 := hr1.up hsg20
   have hr1' := hr1'.up hsg20
   have hr1'' := hr1''.up hsg20
   have hd16 := hd16.trans hsg20
   refine o_call call39 Z Z (of_c _ _ H.sub _ _ _ _ _ _ hbs (H.blkIs (k := 0) Z).1 (H.blkIs (k := 0) Z).2 oM _ _ hsr20 (by first | decide | (simp; done) | (simp; omega))) ?_
   rintro _ w18 ⟨G18, _, _, rfl, H18', ⟨p18, x18, hp18, rfl, hxs18, rfl⟩⟩
   have hr1 := hr1.up H18'.le
   have hr1' := hr1'.up H18'.le
   have hr1'' := hr1''.up H18'.le
   have hd16 := hd16.trans H18'.le
   have H := H.borrow (k := 0) rfl H18'
   refine ⟨_, Z, ?_⟩
   refine R_nil (N_DK (Kn.of' H hd16 (SubL.cons 2 Z SubL.nil)) ?_)
   refine RD_run [4] kR Z (RDs.cons Z ?_ RDs.nil)
   refine o_call call138 Z Z (SnapBackP_c _ _ H.sub _ d ⟨_, _, _, _, _, _, _, _, _, Z, hr1, hr1', hr1''⟩ _ hxs18 ) ?_
   rintro _ w21 ⟨G21, _, g21, rfl, u21_0, rfl, hr21_0⟩
   have H := H.grow g21
   have hd16 := hd16.trans g21.le
   obtain ⟨a22, m22, c22, a22', m22', c22', a22'', m22'', c22'', rfl, hr22, hr22', hr22''⟩ := hr21_0; have hn_hr22 := hr22.len; have hx_hr22 : _ ≤ 1099511627776 := hr22.lim; have hn_hr22q := hr22'.len; have hx_hr22q : _ ≤ 1099511627776 := hr22'.lim; have hn_hr22qq := hr22''.len; have hx_hr22qq : _ ≤ 1099511627776 := hr22''.lim
   refine ⟨_, Z, ?_⟩
   refine R_nil (N_DK (Kn.of' H hd16 (SubL.cons 2 Z SubL.nil)) (RD_t 5 Z kR Z (fun _ hK => v_extract Z Z) (RD_t 6 Z kR Z (fun _ hK => v_extract Z Z) ?_)))
   refine RD_run [7] kR Z (RDs.cons Z ?_ RDs.nil)
   refine o_store_B 1 H sizeOf27 Z Z Z Z Z Z Z Z ?_; intro w23 H
   refine R_nil (N_DK (Kn.of' H hd16 (SubL.cons 2 Z SubL.nil)) (RD_t 8 Z kR Z (fun _ hK => v_assign Z) (RD_done kR (N_K (W_ret (N_B_ret (N_K_ret (ret_gen (rs := [.cell 4 27, .tmp 5]) (vs := [_, _]) results88 ⟨⟨_, Z, load_blk 1 H isAgg27 sizeOf27 Z Z Z⟩, Z, trivial⟩ ?_))))))))
   have H := H.del (k := 1) rfl
   have H := H.del (k := 1) rfl
   exact H.retM ⟨_, _, _, _, _, _, _, _, oM, Z, hr22, hr22', hr22'', Z⟩
  intro hc15'
  try simp only [nrm] at hc15'
  refine W_skip (N_B (N_K (q2 (mV Z (o_buildSlice H underlying69 sizeOf9 (fun w => ⟨_, zeroValue9 w, Z⟩) Z Z Z Z Z Z Z ?_))))); intro b24 w24 hb24 H
  have H := H.blkAcc 1 (k := 0) (n := 5) rfl rfl (by decide)
  have hchk26 := ((((((Chk.nil (E := strE) (sz := 1) (G := G4)).snoc (show strE _ ([99] : Fw.Bs) [str [99]] from ⟨rfl, by decide⟩) rfl).snoc (show strE _ ([97, 47, 121] : Fw.Bs) [str [97, 47, 121]] from ⟨rfl, by decide⟩) rfl).snoc (show strE _ ([98, 47, 120] : Fw.Bs) [str [98, 47, 120]] from ⟨rfl, by decide⟩) rfl).snoc (show strE _ ([97, 47, 120, 47, 112] : Fw.Bs) [str [97, 47, 120, 47, 112]] from ⟨rfl, by decide⟩) rfl).snoc (show strE _ ([100] : Fw.Bs) [str [100]] from ⟨rfl, by decide⟩) rfl)
  obtain ⟨G27, H, hsg27, hsr27⟩ := H.shutM (k := 0) (j := 0) rfl rfl hchk26 aN aN
  have hbs := hbs.up hsg27
  have hr1 := hr1.up hsg27
  have hr1' := hr1'.up hsg27
  have hr1'' := hr1''.up hsg27
  refine o_call call39 Z Z (of_c _ _ H.sub _ _ _ _ _ _ hbs (H.blkIs (k := 0) Z).1 (H.blkIs (k := 0) Z).2 oM _ _ hsr27 (by first | decide | (simp; done) | (simp; omega))) ?_
  rintro _ w25 ⟨G25, _, _, rfl, H25', ⟨p25, x25, hp25, rfl, hxs25, rfl⟩⟩
  have hbs := hbs.up H25'.le
  have hr1 := hr1.up H25'.le
  have hr1' := hr1'.up H25'.le
  have hr1'' := hr1''.up H25'.le
  have H := H.borrow (k := 0) rfl H25'
  refine ⟨_, Z, ?_⟩
  refine aG Z (q3 (W_seq (W_drawK [2] 9 H kR Z ?_))); intro w28 H; have hd28 := PLe.refl G25
  refine RD_t 0 Z kR Z (fun _ hK => v_loadagg_B 0 hK isAgg27 sizeOf27 Z Z Z Z) (vM 1 Z Z (vM 2 Z Z ?_))
  refine RD_run [3] kR Z (RDs.cons Z ?_ RDs.nil)
  refine o_call call60 Z Z (l91File_c _ _ H.sub _ _ _ _ _ _ hbs (H.blkIs (k := 0) Z).1 (H.blkIs (k := 0) Z).2 oM ) ?_
  rintro _ w29 ⟨G29, _, _, rfl, H29', ⟨p29, x29, v29, c29, hp29, rfl, hchk29, hxl29, rfl⟩⟩
  have hr1 := hr1.up H29'.le
  have hr1' := hr1'.up H29'.le
  have hr1'' := hr1''.up H29'.le
  have hd28 := hd28.trans H29'.le
  have H := H.borrow (k := 0) rfl H29'
  obtain ⟨av29, cv29, rfl⟩ := H.accShape (k := 0) rfl
  refine ⟨_, Z, ?_⟩
  refine R_nil (N_DK (Kn.of' H hd28 (SubL.cons 3 Z SubL.nil)) ?_)
  refine RD_run [4] kR Z (RDs.cons Z ?_ RDs.nil)
  obtain ⟨G31, H, hsg31, hsr31⟩ := H.shutM (k := 0) (j := 0) rfl rfl hchk29 aN aN
  have hr1 := hr1.up hsg31
  have hr1' := hr1'.up hsg31
  have hr1'' := hr1''.up hsg31
  have hd28 := hd28.trans hsg31
  refine o_call call22 Z Z (DiskWriteP_c _ _ H.sub _ d ⟨_, _, _, _, _, _, _, _, _, Z, hr1, hr1', hr1''⟩ _ hxs25 _ _ hsr31 ) ?_
  rintro _ w30 ⟨G30, _, g30, rfl, u30_0, rfl, hr30_0⟩
  have H := H.grow g30
  have hd28 := hd28.trans g30.le
  obtain ⟨a32, m32, c32, a32', m32', c32', a32'', m32'', c32'', rfl, hr32, hr32', hr32''⟩ := hr30_0; have hn_hr32 := hr32.len; have hx_hr32 : _ ≤ 1099511627776 := hr32.lim; have hn_hr32q := hr32'.len; have hx_hr32q : _ ≤ 1099511627776 := hr32'.lim; have hn_hr32qq := hr32''.len; have hx_hr32qq : _ ≤ 1099511627776 := hr32''.lim
  refine ⟨_, Z, ?_⟩
  refine R_nil (N_DK (Kn.of' H hd28 (SubL.cons 2 Z SubL.nil)) (RD_t 5 Z kR Z (fun _ hK => v_extract Z Z) (RD_t 6 Z kR Z (fun _ hK => v_extract Z Z) ?_)))
  refine RD_run [7] kR Z (RDs.cons Z ?_ RDs.nil)
  refine o_store_B 1 H sizeOf27 Z Z Z Z Z Z Z Z ?_; intro w33 H
  refine R_nil (N_DK (Kn.of' H hd28 (SubL.cons 2 Z SubL.nil)) (RD_t 8 Z kR Z (fun _ hK => v_assign Z) (RD_done kR (N_K (W_ret (ret_gen (rs := [.cell 4 27, .tmp 5]) (vs := [_, _]) results88 ⟨⟨_, Z, load_blk 1 H isAgg27 sizeOf27 Z Z Z⟩, Z, trivial⟩ ?_))))))
  have H := H.del (k := 1) rfl
  have H := H.del (k := 1) rfl
  exact H.retM ⟨_, _, _, _, _, _, _, _, oM, Z, hr32, hr32', hr32'', Z⟩
 intro hc5'
 try simp only [nrm] at hc5'
 refine q2 (o_eql Z Z Z (aG Z (q3 ?_)))
 refine W_cond Z ?_ ?_
 ·intro hc34
  try simp only [nrm] at hc34
  refine W_skip (N_K ?_)
  refine W_cond Z ?_ ?_
  ·intro hc35
   try simp only [nrm] at hc35
   refine W_seq (W_drawK [2] 9 H kR Z ?_); intro w36 H; have hd36 := PLe.refl G4
   refine RD_t 0 Z kR Z (fun _ hK => v_loadagg_B 0 hK isAgg27 sizeOf27 Z Z Z Z) (vM 1 Z Z ?_)
   refine RD_run [2] kR Z (RDs.cons Z ?_ RDs.nil)
   refine o_buildSlice H underlying69 sizeOf9 (fun w => ⟨_, zeroValue9 w, Z⟩) Z Z Z Z Z Z Z ?_; intro b37 w37 hb37 H
   refine R_nil (N_DK (Kn.of' H hd36 (SubL.cons 3 Z SubL.nil)) ?_)
   refine RD_run [3] kR Z (RDs.cons Z ?_ RDs.nil)
   have H := H.blkAcc 1 (k := 0) (n := 3) rfl rfl (by decide)
   have hchk39 := ((((Chk.nil (E := strE) (sz := 1) (G := G4)).snoc (show strE _ ([115] : Fw.Bs) [str [115]] from ⟨rfl, by decide⟩) rfl).snoc (show strE _ ([116] : Fw.Bs) [str [116]] from ⟨rfl, by decide⟩) rfl).snoc (show strE _ ([117] : Fw.Bs) [str [117]] from ⟨rfl, by decide⟩) rfl)
   obtain ⟨G40, H, hsg40, hsr40⟩ := H.shutM (k := 0) (j := 0) rfl rfl hchk39 aN aN
   have hbs := hbs.up hsg40
   have hr1 := hr1.up hsg40
   have hr1' := hr1'.up hsg40
   have hr1'' := hr1''.up hsg40
   have hd36 := hd36.trans hsg40
   refine o_call call39 Z Z (of_c _ _ H.sub _ _ _ _ _ _ hbs (H.blkIs (k := 0) Z).1 (H.blkIs (k := 0) Z).2 oM _ _ hsr40 (by first | decide | (simp; done) | (simp; omega))) ?_
   rintro _ w38 ⟨G38, _, _, rfl, H38', ⟨p38, x38, hp38, rfl, hxs38, rfl⟩⟩
   have hr1 := hr1.up H38'.le
   have hr1' := hr1'.up H38'.le
   have hr1'' := hr1''.up H38'.le
   have hd36 := hd36.trans H38'.le
   have H := H.borrow (k := 0) rfl H38'
   refine ⟨_, Z, ?_⟩
   refine R_nil (N_DK (Kn.of' H hd36 (SubL.cons 2 Z SubL.nil)) ?_)
   refine RD_run [4] kR Z (RDs.cons Z ?_ RDs.nil)
   refine o_call call12 Z Z (SnapTakeP_c _ _ H.sub _ d ⟨_, _, _, _, _, _, _, _, _, Z, hr1, hr1', hr1''⟩ _ hxs38 ) ?_
   rintro _ w41 ⟨G41, _, g41, rfl, u41_0, rfl, hr41_0⟩
   have H := H.grow g41
   have hd36 := hd36.trans g41.le
   obtain ⟨a42, m42, c42, a42', m42', c42', a42'', m42'', c42'', rfl, hr42, hr42', hr42''⟩ := hr41_0; have hn_hr42 := hr42.len; have hx_hr42 : _ ≤ 1099511627776 := hr42.lim; have hn_hr42q := hr42'.len; have hx_hr42q : _ ≤ 1099511627776 := hr42'.lim; have hn_hr42qq := hr42''.len; have hx_hr42qq : _ ≤ 1099511627776 := hr42''.lim
   refine ⟨_, Z, ?_⟩
   refine R_nil (N_DK (Kn.of' H hd36 (SubL.cons 2 Z SubL.nil)) (RD_t 5 Z kR Z (fun _ hK => v_extract Z Z) (RD_t 6 Z kR Z (fun _ hK => v_extract Z Z) ?_)))
   refine RD_run [7] kR Z (RDs.cons Z ?_ RDs.nil)
   refine o_store_B 1 H sizeOf27 Z Z Z Z Z Z Z Z ?_; intro w43 H
   refine R_nil (N_DK (Kn.of' H hd36 (SubL.cons 2 Z SubL.nil)) (RD_t 8 Z kR Z (fun _ hK => v_assign Z) (RD_done kR (N_K (W_ret (N_B_ret (N_K_ret (ret_gen (rs := [.cell 4 27, .tmp 5]) (vs := [_, _]) results88 ⟨⟨_, Z, load_blk 1 H isAgg27 sizeOf27 Z Z Z⟩, Z, trivial⟩ ?_))))))))
   have H := H.del (k := 1) rfl
   have H := H.del (k := 1) rfl
   exact H.retM ⟨_, _, _, _, _, _, _, _, oM, Z, hr42, hr42', hr42'', Z⟩
  intro hc35'
  try simp only [nrm] at hc35'
  refine q2 (o_eql Z Z Z (aG Z (q3 ?_)))
  refine W_cond Z ?_ ?_
  ·intro hc44
   try simp only [nrm] at hc44
   refine W_seq (W_drawK [2] 9 H kR Z ?_); intro w45 H; have hd45 := PLe.refl G4
   refine RD_t 0 Z kR Z (fun _ hK => v_loadagg_B 0 hK isAgg27 sizeOf27 Z Z Z Z) (vM 1 Z Z ?_)
   refine RD_run [2] kR Z (RDs.cons Z ?_ RDs.nil)
   refine o_buildSlice H underlying69 sizeOf9 (fun w => ⟨_, zeroValue9 w, Z⟩) Z Z Z Z Z Z Z ?_; intro b46 w46 hb46 H
   refine R_nil (N_DK (Kn.of' H hd45 (SubL.cons 3 Z SubL.nil)) ?_)
   refine RD_run [3] kR Z (RDs.cons Z ?_ RDs.nil)
   have H := H.blkAcc 1 (k := 0) (n := 2) rfl rfl (by decide)
   have hchk48 := (((Chk.nil (E := strE) (sz := 1) (G := G4)).snoc (show strE _ ([115] : Fw.Bs) [str [115]] from ⟨rfl, by decide⟩) rfl).snoc (show strE _ ([116] : Fw.Bs) [str [116]] from ⟨rfl, by decide⟩) rfl)
   obtain ⟨G49, H, hsg49, hsr49⟩ := H.shutM (k := 0) (j := 0) rfl rfl hchk48 aN aN
   have hbs := hbs.up hsg49
   have hr1 := hr1.up hsg49
   have hr1' := hr1'.up hsg49
   have hr1'' := hr1''.up hsg49
   have hd45 := hd45.trans hsg49
   refine o_call call39 Z Z (of_c _ _ H.sub _ _ _ _ _ _ hbs (H.blkIs (k := 0) Z).1 (H.blkIs (k := 0) Z).2 oM _ _ hsr49 (by first | decide | (simp; done) | (simp; omega))) ?_
   rintro _ w47 ⟨G47, _, _, rfl, H47', ⟨p47, x47, hp47, rfl, hxs47, rfl⟩⟩
   have hr1 := hr1.up H47'.le
   have hr1' := hr1'.up H47'.le
   have hr1'' := hr1''.up H47'.le
   have hd45 := hd45.trans H47'.le
   have H := H.borrow (k := 0) rfl H47'
   refine ⟨_, Z, ?_⟩
   refine R_nil (N_DK (Kn.of' H hd45 (SubL.cons 2 Z SubL.nil)) ?_)
   refine RD_run [4] kR Z (RDs.cons Z ?_ RDs.nil)
   refine o_call call138 Z Z (SnapBackP_c _ _ H.sub _ d ⟨_, _, _, _, _, _, _, _, _, Z, hr1, hr1', hr1''⟩ _ hxs47 ) ?_
   rintro _ w50 ⟨G50, _, g50, rfl, u50_0, rfl, hr50_0⟩
   have H := H.grow g50
   have hd45 := hd45.trans g50.le
   obtain ⟨a51, m51, c51, a51', m51', c51', a51'', m51'', c51'', rfl, hr51, hr51', hr51''⟩ := hr50_0; have hn_hr51 := hr51.len; have hx_hr51 : _ ≤ 1099511627776 := hr51.lim; have hn_hr51q := hr51'.len; have hx_hr51q : _ ≤ 1099511627776 := hr51'.lim; have hn_hr51qq := hr51''.len; have hx_hr51qq : _ ≤ 1099511627776 := hr51''.lim
   refine ⟨_, Z, ?_⟩
   refine R_nil (N_DK (Kn.of' H hd45 (SubL.cons 2 Z SubL.nil)) (RD_t 5 Z kR Z (fun _ hK => v_extract Z Z) (RD_t 6 Z kR Z (fun _ hK => v_extract Z Z) ?_)))
   refine RD_run [7] kR Z (RDs.cons Z ?_ RDs.nil)
   refine o_store_B 1 H sizeOf27 Z Z Z Z Z Z Z Z ?_; intro w52 H
   refine R_nil (N_DK (Kn.of' H hd45 (SubL.cons 2 Z SubL.nil)) (RD_t 8 Z kR Z (fun _ hK => v_assign Z) (RD_done kR (N_K (W_ret (N_B_ret (N_K_ret (ret_gen (rs := [.cell 4 27, .tmp 5]) (vs := [_, _]) results88 ⟨⟨_, Z, load_blk 1 H isAgg27 sizeOf27 Z Z Z⟩, Z, trivial⟩ ?_))))))))
   have H := H.del (k := 1) rfl
   have H := H.del (k := 1) rfl
   exact H.retM ⟨_, _, _, _, _, _, _, _, oM, Z, hr51, hr51', hr51'', Z⟩
  intro hc44'
  try simp only [nrm] at hc44'
  refine W_skip (N_B (N_K (q2 (mV Z (o_buildSlice H underlying69 sizeOf9 (fun w => ⟨_, zeroValue9 w, Z⟩) Z Z Z Z Z Z Z ?_))))); intro b53 w53 hb53 H
  have H := H.blkAcc 1 (k := 0) (n := 5) rfl rfl (by decide)
  have hchk55 := ((((((Chk.nil (E := strE) (sz := 1) (G := G4)).snoc (show strE _ ([99] : Fw.Bs) [str [99]] from ⟨rfl, by decide⟩) rfl).snoc (show strE _ ([97, 47, 121] : Fw.Bs) [str [97, 47, 121]] from ⟨rfl, by decide⟩) rfl).snoc (show strE _ ([98, 47, 120] : Fw.Bs) [str [98, 47, 120]] from ⟨rfl, by decide⟩) rfl).snoc (show strE _ ([97, 47, 120, 47, 112] : Fw.Bs) [str [97, 47, 120, 47, 112]] from ⟨rfl, by decide⟩) rfl).snoc (show strE _ ([100] : Fw.Bs) [str [100]] from ⟨rfl, by decide⟩) rfl)
  obtain ⟨G56, H, hsg56, hsr56⟩ := H.shutM (k := 0) (j := 0) rfl rfl hchk55 aN aN
  have hbs := hbs.up hsg56
  have hr1 := hr1.up hsg56
  have hr1' := hr1'.up hsg56
  have hr1'' := hr1''.up hsg56
  refine o_call call39 Z Z (of_c _ _ H.sub _ _ _ _ _ _ hbs (H.blkIs (k := 0) Z).1 (H.blkIs (k := 0) Z).2 oM _ _ hsr56 (by first | decide | (simp; done) | (simp; omega))) ?_
  rintro _ w54 ⟨G54, _, _, rfl, H54', ⟨p54, x54, hp54, rfl, hxs54, rfl⟩⟩
  have hbs := hbs.up H54'.le
  have hr1 := hr1.up H54'.le
  have hr1' := hr1'.up H54'.le
  have hr1'' := hr1''.up H54'.le
  have H := H.borrow (k := 0) rfl H54'
  refine ⟨_, Z, ?_⟩
  refine aG Z (q3 (W_seq (W_drawK [2] 9 H kR Z ?_))); intro w57 H; have hd57 := PLe.refl G54
  refine RD_t 0 Z kR Z (fun _ hK => v_loadagg_B 0 hK isAgg27 sizeOf27 Z Z Z Z) (vM 1 Z Z (vM 2 Z Z ?_))
  refine RD_run [3] kR Z (RDs.cons Z ?_ RDs.nil)
  refine o_call call60 Z Z (l91File_c _ _ H.sub _ _ _ _ _ _ hbs (H.blkIs (k := 0) Z).1 (H.blkIs (k := 0) Z).2 oM ) ?_
  rintro _ w58 ⟨G58, _, _, rfl, H58', ⟨p58, x58, v58, c58, hp58, rfl, hchk58, hxl58, rfl⟩⟩
  have hr1 := hr1.up H58'.le
  have hr1' := hr1'.up H58'.le
  have hr1'' := hr1''.up H58'.le
  have hd57 := hd57.trans H58'.le
  have H := H.borrow (k := 0) rfl H58'
  obtain ⟨av58, cv58, rfl⟩ := H.accShape (k := 0) rfl
  refine ⟨_, Z, ?_⟩
  refine R_nil (N_DK (Kn.of' H hd57 (SubL.cons 3 Z SubL.nil)) ?_)
  refine RD_run [4] kR Z (RDs.cons Z ?_ RDs.nil)
  obtain ⟨G60, H, hsg60, hsr60⟩ := H.shutM (k := 0) (j := 0) rfl rfl hchk58 aN aN
  have hr1 := hr1.up hsg60
  have hr1' := hr1'.up hsg60
  have hr1'' := hr1''.up hsg60
  have hd57 := hd57.trans hsg60
  refine o_call call22 Z Z (DiskWriteP_c _ _ H.sub _ d ⟨_, _, _, _, _, _, _, _, _, Z, hr1, hr1', hr1''⟩ _ hxs54 _ _ hsr60 ) ?_
  rintro _ w59 ⟨G59, _, g59, rfl, u59_0, rfl, hr59_0⟩
  have H := H.grow g59
  have hd57 := hd57.trans g59.le
  obtain ⟨a61, m61, c61, a61', m61', c61', a61'', m61'', c61'', rfl, hr61, hr61', hr61''⟩ := hr59_0; have hn_hr61 := hr61.len; have hx_hr61 : _ ≤ 1099511627776 := hr61.lim; have hn_hr61q := hr61'.len; have hx_hr61q : _ ≤ 1099511627776 := hr61'.lim; have hn_hr61qq := hr61''.len; have hx_hr61qq : _ ≤ 1099511627776 := hr61''.lim
  refine ⟨_, Z, ?_⟩
  refine R_nil (N_DK (Kn.of' H hd57 (SubL.cons 2 Z SubL.nil)) (RD_t 5 Z kR Z (fun _ hK => v_extract Z Z) (RD_t 6 Z kR Z (fun _ hK => v_extract Z Z) ?_)))
  refine RD_run [7] kR Z (RDs.cons Z ?_ RDs.nil)
  refine o_store_B 1 H sizeOf27 Z Z Z Z Z Z Z Z ?_; intro w62 H
  refine R_nil (N_DK (Kn.of' H hd57 (SubL.cons 2 Z SubL.nil)) (RD_t 8 Z kR Z (fun _ hK => v_assign Z) (RD_done kR (N_K (W_ret (ret_gen (rs := [.cell 4 27, .tmp 5]) (vs := [_, _]) results88 ⟨⟨_, Z, load_blk 1 H isAgg27 sizeOf27 Z Z Z⟩, Z, trivial⟩ ?_))))))
  have H := H.del (k := 1) rfl
  have H := H.del (k := 1) rfl
  exact H.retM ⟨_, _, _, _, _, _, _, _, oM, Z, hr61, hr61', hr61'', Z⟩
 intro hc34'
 try simp only [nrm] at hc34'
 refine W_region (o_eql Z Z Z (aG Z (q3 ?_)))
 refine W_cond Z ?_ ?_
 ·intro hc63
  try simp only [nrm] at hc63
  refine W_seq (W_drawK [2] 9 H kR Z ?_); intro w64 H; have hd64 := PLe.refl G4
  refine RD_t 0 Z kR Z (fun _ hK => v_loadagg_B 0 hK isAgg27 sizeOf27 Z Z Z Z) (vM 1 Z Z ?_)
  refine RD_run [2] kR Z (RDs.cons Z ?_ RDs.nil)
  refine o_buildSlice H underlying69 sizeOf9 (fun w => ⟨_, zeroValue9 w, Z⟩) Z Z Z Z Z Z Z ?_; intro b65 w65 hb65 H
  refine R_nil (N_DK (Kn.of' H hd64 (SubL.cons 3 Z SubL.nil)) ?_)
  refine RD_run [3] kR Z (RDs.cons Z ?_ RDs.nil)
  have H := H.blkAcc 1 (k := 0) (n := 3) rfl rfl (by decide)
  have hchk67 := ((((Chk.nil (E := strE) (sz := 1) (G := G4)).snoc (show strE _ ([115] : Fw.Bs) [str [115]] from ⟨rfl, by decide⟩) rfl).snoc (show strE _ ([116] : Fw.Bs) [str [116]] from ⟨rfl, by decide⟩) rfl).snoc (show strE _ ([117] : Fw.Bs) [str [117]] from ⟨rfl, by decide⟩) rfl)
  obtain ⟨G68, H, hsg68, hsr68⟩ := H.shutM (k := 0) (j := 0) rfl rfl hchk67 aN aN
  have hbs := hbs.up hsg68
  have hr1 := hr1.up hsg68
  have hr1' := hr1'.up hsg68
  have hr1'' := hr1''.up hsg68
  have hd64 := hd64.trans hsg68
  refine o_call call39 Z Z (of_c _ _ H.sub _ _ _ _ _ _ hbs (H.blkIs (k := 0) Z).1 (H.blkIs (k := 0) Z).2 oM _ _ hsr68 (by first | decide | (simp; done) | (simp; omega))) ?_
  rintro _ w66 ⟨G66, _, _, rfl, H66', ⟨p66, x66, hp66, rfl, hxs66, rfl⟩⟩
  have hr1 := hr1.up H66'.le
  have hr1' := hr1'.up H66'.le
  have hr1'' := hr1''.up H66'.le
  have hd64 := hd64.trans H66'.le
  have H := H.borrow (k := 0) rfl H66'
  refine ⟨_, Z, ?_⟩
  refine R_nil (N_DK (Kn.of' H hd64 (SubL.cons 2 Z SubL.nil)) ?_)
  refine RD_run [4] kR Z (RDs.cons Z ?_ RDs.nil)
  refine o_call call12 Z Z (SnapTakeP_c _ _ H.sub _ d ⟨_, _, _, _, _, _, _, _, _, Z, hr1, hr1', hr1''⟩ _ hxs66 ) ?_
  rintro _ w69 ⟨G69, _, g69, rfl, u69_0, rfl, hr69_0⟩
  have H := H.grow g69
  have hd64 := hd64.trans g69.le
  obtain ⟨a70, m70, c70, a70', m70', c70', a70'', m70'', c70'', rfl, hr70, hr70', hr70''⟩ := hr69_0; have hn_hr70 := hr70.len; have hx_hr70 : _ ≤ 1099511627776 := hr70.lim; have hn_hr70q := hr70'.len; have hx_hr70q : _ ≤ 1099511627776 := hr70'.lim; have hn_hr70qq := hr70''.len; have hx_hr70qq : _ ≤ 1099511627776 := hr70''.lim
  refine ⟨_, Z, ?_⟩
  refine R_nil (N_DK (Kn.of' H hd64 (SubL.cons 2 Z SubL.nil)) (RD_t 5 Z kR Z (fun _ hK => v_extract Z Z) (RD_t 6 Z kR Z (fun _ hK => v_extract Z Z) ?_)))
  refine RD_run [7] kR Z (RDs.cons Z ?_ RDs.nil)
  refine o_store_B 1 H sizeOf27 Z Z Z Z Z Z Z Z ?_; intro w71 H
  refine R_nil (N_DK (Kn.of' H hd64 (SubL.cons 2 Z SubL.nil)) (RD_t 8 Z kR Z (fun _ hK => v_assign Z) (RD_done kR (N_K (W_ret (N_B_ret (N_K_ret (ret_gen (rs := [.cell 4 27, .tmp 5]) (vs := [_, _]) results88 ⟨⟨_, Z, load_blk 1 H isAgg27 sizeOf27 Z Z Z⟩, Z, trivial⟩ ?_))))))))
  have H := H.del (k := 1) rfl
  have H := H.del (k := 1) rfl
  exact H.retM ⟨_, _, _, _, _, _, _, _, oM, Z, hr70, hr70', hr70'', Z⟩
 intro hc63'
 try simp only [nrm] at hc63'
 refine q2 (o_eql Z Z Z (aG Z (q3 ?_)))
 refine W_cond Z ?_ ?_
 ·intro hc72
  try simp only [nrm] at hc72
  refine W_seq (W_drawK [2] 9 H kR Z ?_); intro w73 H; have hd73 := PLe.refl G4
  refine RD_t 0 Z kR Z (fun _ hK => v_loadagg_B 0 hK isAgg27 sizeOf27 Z Z Z Z) (vM 1 Z Z ?_)
  refine RD_run [2] kR Z (RDs.cons Z ?_ RDs.nil)
  refine o_buildSlice H underlying69 sizeOf9 (fun w => ⟨_, zeroValue9 w, Z⟩) Z Z Z Z Z Z Z ?_; intro b74 w74 hb74 H
  refine R_nil (N_DK (Kn.of' H hd73 (SubL.cons 3 Z SubL.nil)) ?_)
  refine RD_run [3] kR Z (RDs.cons Z ?_ RDs.nil)
  have H := H.blkAcc 1 (k := 0) (n := 2) rfl rfl (by decide)
  have hchk76 := (((Chk.nil (E := strE) (sz := 1) (G := G4)).snoc (show strE _ ([115] : Fw.Bs) [str [115]] from ⟨rfl, by decide⟩) rfl).snoc (show strE _ ([116] : Fw.Bs) [str [116]] from ⟨rfl, by decide⟩) rfl)
  obtain ⟨G77, H, hsg77, hsr77⟩ := H.shutM (k := 0) (j := 0) rfl rfl hchk76 aN aN
  have hbs := hbs.up hsg77
  have hr1 := hr1.up hsg77
  have hr1' := hr1'.up hsg77
  have hr1'' := hr1''.up hsg77
  have hd73 := hd73.trans hsg77
  refine o_call call39 Z Z (of_c _ _ H.sub _ _ _ _ _ _ hbs (H.blkIs (k := 0) Z).1 (H.blkIs (k := 0) Z).2 oM _ _ hsr77 (by first | decide | (simp; done) | (simp; omega))) ?_
  rintro _ w75 ⟨G75, _, _, rfl, H75', ⟨p75, x75, hp75, rfl, hxs75, rfl⟩⟩
  have hr1 := hr1.up H75'.le
  have hr1' := hr1'.up H75'.le
  have hr1'' := hr1''.up H75'.le
  have hd73 := hd73.trans H75'.le
  have H := H.borrow (k := 0) rfl H75'
  refine ⟨_, Z, ?_⟩
  refine R_nil (N_DK (Kn.of' H hd73 (SubL.cons 2 Z SubL.nil)) ?_)
  refine RD_run [4] kR Z (RDs.cons Z ?_ RDs.nil)
  refine o_call call138 Z Z (SnapBackP_c _ _ H.sub _ d ⟨_, _, _, _, _, _, _, _, _, Z, hr1, hr1', hr1''⟩ _ hxs75 ) ?_
  rintro _ w78 ⟨G78, _, g78, rfl, u78_0, rfl, hr78_0⟩
  have H := H.grow g78
  have hd73 := hd73.trans g78.le
  obtain ⟨a79, m79, c79, a79', m79', c79', a79'', m79'', c79'', rfl, hr79, hr79', hr79''⟩ := hr78_0; have hn_hr79 := hr79.len; have hx_hr79 : _ ≤ 1099511627776 := hr79.lim; have hn_hr79q := hr79'.len; have hx_hr79q : _ ≤ 1099511627776 := hr79'.lim; have hn_hr79qq := hr79''.len; have hx_hr79qq : _ ≤ 1099511627776 := hr79''.lim
  refine ⟨_, Z, ?_⟩
  refine R_nil (N_DK (Kn.of' H hd73 (SubL.cons 2 Z SubL.nil)) (RD_t 5 Z kR Z (fun _ hK => v_extract Z Z) (RD_t 6 Z kR Z (fun _ hK => v_extract Z Z) ?_)))
  refine RD_run [7] kR Z (RDs.cons Z ?_ RDs.nil)
  refine o_store_B 1 H sizeOf27 Z Z Z Z Z Z Z Z ?_; intro w80 H
  refine R_nil (N_DK (Kn.of' H hd73 (SubL.cons 2 Z SubL.nil)) (RD_t 8 Z kR Z (fun _ hK => v_assign Z) (RD_done kR (N_K (W_ret (N_B_ret (N_K_ret (ret_gen (rs := [.cell 4 27, .tmp 5]) (vs := [_, _]) results88 ⟨⟨_, Z, load_blk 1 H isAgg27 sizeOf27 Z Z Z⟩, Z, trivial⟩ ?_))))))))
  have H := H.del (k := 1) rfl
  have H := H.del (k := 1) rfl
  exact H.retM ⟨_, _, _, _, _, _, _, _, oM, Z, hr79, hr79', hr79'', Z⟩
 intro hc72'
 try simp only [nrm] at hc72'
 refine W_skip (N_B (N_K (q2 (mV Z (o_buildSlice H underlying69 sizeOf9 (fun w => ⟨_, zeroValue9 w, Z⟩) Z Z Z Z Z Z Z ?_))))); intro b81 w81 hb81 H
 have H := H.blkAcc 1 (k := 0) (n := 5) rfl rfl (by decide)
 have hchk83 := ((((((Chk.nil (E := strE) (sz := 1) (G := G4)).snoc (show strE _ ([99] : Fw.Bs) [str [99]] from ⟨rfl, by decide⟩) rfl).snoc (show strE _ ([97, 47, 121] : Fw.Bs) [str [97, 47, 121]] from ⟨rfl, by decide⟩) rfl).snoc (show strE _ ([98, 47, 120] : Fw.Bs) [str [98, 47, 120]] from ⟨rfl, by decide⟩) rfl).snoc (show strE _ ([97, 47, 120, 47, 112] : Fw.Bs) [str [97, 47, 120, 47, 112]] from ⟨rfl, by decide⟩) rfl).snoc (show strE _ ([100] : Fw.Bs) [str [100]] from ⟨rfl, by decide⟩) rfl)
 obtain ⟨G84, H, hsg84, hsr84⟩ := H.shutM (k := 0) (j := 0) rfl rfl hchk83 aN aN
 have hbs := hbs.up hsg84
 have hr1 := hr1.up hsg84
 have hr1' := hr1'.up hsg84
 have hr1'' := hr1''.up hsg84
 refine o_call call39 Z Z (of_c _ _ H.sub _ _ _ _ _ _ hbs (H.blkIs (k := 0) Z).1 (H.blkIs (k := 0) Z).2 oM _ _ hsr84 (by first | decide | (simp; done) | (simp; omega))) ?_
 rintro _ w82 ⟨G82, _, _, rfl, H82', ⟨p82, x82, hp82, rfl, hxs82, rfl⟩⟩
 have hbs := hbs.up H82'.le
 have hr1 := hr1.up H82'.le
 have hr1' := hr1'.up H82'.le
 have hr1'' := hr1''.up H82'.le
 have H := H.borrow (k := 0) rfl H82'
 refine ⟨_, Z, ?_⟩
 refine aG Z (q3 (W_seq (W_drawK [2] 9 H kR Z ?_))); intro w85 H; have hd85 := PLe.refl G82
 refine RD_t 0 Z kR Z (fun _ hK => v_loadagg_B 0 hK isAgg27 sizeOf27 Z Z Z Z) (vM 1 Z Z (vM 2 Z Z ?_))
 refine RD_run [3] kR Z (RDs.cons Z ?_ RDs.nil)
 refine o_call call60 Z Z (l91File_c _ _ H.sub _ _ _ _ _ _ hbs (H.blkIs (k := 0) Z).1 (H.blkIs (k := 0) Z).2 oM ) ?_
 rintro _ w86 ⟨G86, _, _, rfl, H86', ⟨p86, x86, v86, c86, hp86, rfl, hchk86, hxl86, rfl⟩⟩
 have hr1 := hr1.up H86'.le
 have hr1' := hr1'.up H86'.le
 have hr1'' := hr1''.up H86'.le
 have hd85 := hd85.trans H86'.le
 have H := H.borrow (k := 0) rfl H86'
 obtain ⟨av86, cv86, rfl⟩ := H.accShape (k := 0) rfl
 refine ⟨_, Z, ?_⟩
 refine R_nil (N_DK (Kn.of' H hd85 (SubL.cons 3 Z SubL.nil)) ?_)
 refine RD_run [4] kR Z (RDs.cons Z ?_ RDs.nil)
 obtain ⟨G88, H, hsg88, hsr88⟩ := H.shutM (k := 0) (j := 0) rfl rfl hchk86 aN aN
 have hr1 := hr1.up hsg88
 have hr1' := hr1'.up hsg88
 have hr1'' := hr1''.up hsg88
 have hd85 := hd85.trans hsg88
 refine o_call call22 Z Z (DiskWriteP_c _ _ H.sub _ d ⟨_, _, _, _, _, _, _, _, _, Z, hr1, hr1', hr1''⟩ _ hxs82 _ _ hsr88 ) ?_
 rintro _ w87 ⟨G87, _, g87, rfl, u87_0, rfl, hr87_0⟩
 have H := H.grow g87
 have hd85 := hd85.trans g87.le
 obtain ⟨a89, m89, c89, a89', m89', c89', a89'', m89'', c89'', rfl, hr89, hr89', hr89''⟩ := hr87_0; have hn_hr89 := hr89.len; have hx_hr89 : _ ≤ 1099511627776 := hr89.lim; have hn_hr89q := hr89'.len; have hx_hr89q : _ ≤ 1099511627776 := hr89'.lim; have hn_hr89qq := hr89''.len; have hx_hr89qq : _ ≤ 1099511627776 := hr89''.lim
 refine ⟨_, Z, ?_⟩
 refine R_nil (N_DK (Kn.of' H hd85 (SubL.cons 2 Z SubL.nil)) (RD_t 5 Z kR Z (fun _ hK => v_extract Z Z) (RD_t 6 Z kR Z (fun _ hK => v_extract Z Z) ?_)))
 refine RD_run [7] kR Z (RDs.cons Z ?_ RDs.nil)
 refine o_store_B 1 H sizeOf27 Z Z Z Z Z Z Z Z ?_; intro w90 H
 refine R_nil (N_DK (Kn.of' H hd85 (SubL.cons 2 Z SubL.nil)) (RD_t 8 Z kR Z (fun _ hK => v_assign Z) (RD_done kR (N_K (W_ret (ret_gen (rs := [.cell 4 27, .tmp 5]) (vs := [_, _]) results88 ⟨⟨_, Z, load_blk 1 H isAgg27 sizeOf27 Z Z Z⟩, Z, trivial⟩ ?_))))))
 have H := H.del (k := 1) rfl
 have H := H.del (k := 1) rfl
 exact H.retM ⟨_, _, _, _, _, _, _, _, oM, Z, hr89, hr89', hr89'', Z⟩
end Go.Proofs.Tst

namespace Go.Proofs.Tst
open Go Fw Tryz
theorem l91Disk_c (w0 : World) (G0 : PH) (hG : PSub G0 w0) (rb : Nat) (ab : Option Addr) (mb kb : Nat) (bs : List UInt8) (p : Nat) (hbs : RdU G0 (.slice ab mb kb) bs) (hrb : w0.heap[rb]? = some (cl [.slice ab mb kb, .int .i64 (p : Int)] 118)) (hrn : G0 rb = none) (hp : p ≤ 5000000)  :
  Calls Tryz.prog 37 #[.pointer (some ⟨rb, 0, none⟩)] w0 (RetM w0 G0 [rb] (fun G val Bs => ∃ (p' : Nat) (v1 v2 v3 : Value) (st : List BHeld) (tr : List BItem) (sn : List BSnap), p' ≤ p + 5000 ∧ val = .agg #[v1, v2, v3] ∧ RdH G v1 st ∧ RdItems G v2 tr ∧ RdSn G v3 sn ∧ Bs = [blk rb (cl [.slice ab mb kb, .int .i64 (p' : Int)] 118)])) := by
 have hlimbs : bs.length ≤ 1099511627776 := hbs.lim; obtain rfl : mb = bs.length := hbs.len
 have H := Hp.initM hG hrb hrn
 refine calls_of_W (l := [.pointer (some ⟨rb, 0, none⟩)]) func37 Z ntmps37 Z (q2 (o_alloc H zeroValue27 Z Z ?_)); intro b1 w1 hb1 H
 refine q1 (mV Z (o_call call87 Z Z (l91Volume_c _ _ H.sub _ _ _ _ _ _ hbs (H.blkIs (k := 1) Z).1 (H.blkIs (k := 1) Z).2 oM ) ?_))
 rintro _ w2 ⟨G2, _, _, rfl, H2', ⟨p2, v12, v22, st2, tr2, hp2, rfl, hst2, htr2, rfl⟩⟩
 have hbs := hbs.up H2'.le
 have H := H.borrow (k := 1) rfl H2'
 obtain ⟨sa2, sc2, rfl⟩ := hst2.shape; obtain ⟨ta2, tc2, rfl⟩ := htr2.shape; have hx_hst2 : _ ≤ 1099511627776 := hst2.lim; have hx_htr2 : _ ≤ 1099511627776 := htr2.lim
 refine ⟨_, Z, ?_⟩
 refine o_alloc H zeroValue47 Z Z ?_; intro b3 w3 hb3 H
 refine o_store_B 0 H sizeOf47 Z Z Z Z Z Z Z Z ?_; intro w4 H
 refine q1 (o_fieldAddr 0 runUnderlying47 Z sizeOf23 Z Z Z (o_load_B 0 H isAgg23 Z Z Z Z (o_fieldAddr 1 runUnderlying47 Z sizeOf24 Z Z Z (o_load_B 0 H isAgg24 Z Z Z Z (o_build bf27 Z Z Z (o_alloc H zeroValue27 Z Z ?_)))))); intro b5 w5 hb5 H
 refine o_store_B 0 H sizeOf27 Z Z Z Z Z Z Z Z ?_; intro w6 H
 refine q1 (mV Z (o_call call38 Z Z (pick_c _ _ H.sub _ _ _ _ _ _ hbs (H.blkIs (k := 2) Z).1 (H.blkIs (k := 2) Z).2 oM _ oO ) ?_))
 rintro _ w7 ⟨G7, _, _, rfl, H7', ⟨p7, x7, hp7, rfl, hxb7, rfl⟩⟩
 have hbs := hbs.up H7'.le
 have hst2 := hst2.up H7'.le
 have htr2 := htr2.up H7'.le
 have H := H.borrow (k := 2) rfl H7'
 refine ⟨_, Z, ?_⟩
 refine aG Z (q3 (W_seq (q2 (aG Z (q3 (W_block ?_))))))
 obtain ⟨ln8, hln8, H⟩ := H.name (k := 2) rfl
 obtain ⟨ln9, hln9, H⟩ := H.name (k := 3) rfl
 refine W_lp (hf := (Sub.cons (t := 0) Z (Sub.cons (t := 2) Z (Sub.cons (t := 4) Z (Sub.cons (t := 5) Z Sub.nil))))) (J := fun M w m => ∃ (k : Nat) (va vb vc : Value) (st : List BHeld) (tr : List BItem) (sn : List BSnap) (pp : Nat) (G : PH), M = [(6, .int .i64 (k : Int))] ∧ PLe G7 G ∧ Hp w0 G0 [rb] w G [blk rb (cl [.slice ab bs.length kb, .int .i64 (pp : Int)] 118), blk b5 (cl [va, vb, vc] 27), blk b3 (cl ln8 47), blk b1 (cl ln9 27)] ∧ (k ≤ 7 ∧ pp ≤ p + 3100 + 201 * k ∧ RdH G va st ∧ RdItems G vb tr ∧ RdSn G vc sn) ∧ m = (8 - k)) (h0 := ⟨0, _, _, _, st2, tr2, [], p7, _, Z, PLe.refl _, H, ?inv, Z⟩) (round := ?round)
 case inv => exact ⟨by omega, by omega, hst2, htr2, (RdS.nil _ _ _)⟩
 case round =>
  rintro _ w10 _ ⟨k, va, vb, vc, st, tr, sn, pp, G10, rfl, hle10, H, hinv10, rfl⟩
  subst hln8
  subst hln9
  have hbs := hbs.up hle10
  obtain ⟨hk, hpp, hst, htr, hsn⟩ := hinv10; obtain ⟨lhsta, lhstc, rfl⟩ := hst.shape; have hlhst : _ ≤ 1099511627776 := hst.lim; obtain ⟨lhtra, lhtrc, rfl⟩ := htr.shape; have hlhtr : _ ≤ 1099511627776 := htr.lim; obtain ⟨lhsna, lhsnc, rfl⟩ := hsn.shape; have hlhsn : _ ≤ 1099511627776 := hsn.lim
  refine W_seq (q2 (mV Z (mV Z (o_lss Z Z Z (q3 ?_)))))
  refine W_cond Z ?_ ?_
  ·intro hc11
   try simp only [nrm] at hc11
   refine W_skip (N_K (W_seq (W_block (q2 (mV Z (o_loadagg_B 1 H isAgg27 sizeOf27 Z Z Z Z Z (o_call call88 Z Z (l91Turn_c _ _ H.sub _ _ _ _ _ _ hbs (H.blkIs (k := 0) Z).1 (H.blkIs (k := 0) Z).2 oM _ ⟨st, tr, sn⟩ ⟨_, _, _, _, _, _, _, _, _, Z, hst, htr, hsn⟩ ) ?_)))))))
   rintro _ w12 ⟨G12, _, _, rfl, H12', ⟨p12, v112, v212, v312, st12, tr12, sn12, b12, hp12, rfl, hst12, htr12, hsn12, rfl⟩⟩
   have hst := hst.up H12'.le
   have htr := htr.up H12'.le
   have hsn := hsn.up H12'.le
   have hle10 := hle10.trans H12'.le
   have H := H.borrow (k := 0) rfl H12'
   obtain ⟨sta12, stc12, rfl⟩ := hst12.shape; have hx_hst12 : _ ≤ 1099511627776 := hst12.lim; obtain ⟨tra12, trc12, rfl⟩ := htr12.shape; have hx_htr12 : _ ≤ 1099511627776 := htr12.lim; obtain ⟨sna12, snc12, rfl⟩ := hsn12.shape; have hx_hsn12 : _ ≤ 1099511627776 := hsn12.lim
   refine ⟨_, Z, ?_⟩
   refine mV Z (o_extract Z Z Z (o_extract Z Z Z (o_alloc H zeroValue27 Z Z ?_))); intro b13 w13 hb13 H
   refine o_store_B 0 H sizeOf27 Z Z Z Z Z Z Z Z ?_; intro w14 H
   refine aG Z (q1 (mV Z (q3 ?_)))
   refine W_cond Z ?_ ?_
   ·intro hc15
    try simp only [nrm] at hc15
    refine W_region (o_loadagg_B 0 H isAgg27 sizeOf27 Z Z Z Z Z (o_store_B 2 H sizeOf27 Z Z Z Z Z Z Z Z ?_)); intro w16 H
    refine R_nil (N_B (N_K (W_region (mV Z (o_add Z Z Z oO (aG Z (R_nil ?_)))))))
    have H := H.del (k := 0) rfl
    refine N_lp (hJ := ⟨k + 1, _, _, _, st12, tr12, sn12, p12, _, Z, hle10, H, ?inv, Z⟩) (hm := ?hm)
    case hm => omega
    case inv => exact ⟨by omega, by omega, hst12, htr12, hsn12⟩
   intro hc15'
   try simp only [nrm] at hc15'
   refine W_skip (N_B (N_K (W_region (mV Z (o_add Z Z Z oO (aG Z (R_nil ?_)))))))
   have H := H.del (k := 0) rfl
   refine N_lp (hJ := ⟨k + 1, _, _, _, st, tr, sn, p12, _, Z, hle10, H, ?inv, Z⟩) (hm := ?hm)
   case hm => omega
   case inv => exact ⟨by omega, by omega, hst, htr, hsn⟩
  intro hc11'
  try simp only [nrm] at hc11'
  refine W_exit (N_K_exit (N_LP_exit (N_B_same (N_K (q2 (o_loadagg_B 1 H isAgg27 sizeOf27 Z Z Z Z Z (o_store_B 3 H sizeOf27 Z Z Z Z Z Z Z Z ?_))))))); intro w19 H
  refine q3 (W_ret (ret_gen (rs := [.cell 2 27]) (vs := [_]) results37 ⟨⟨_, Z, load_blk 3 H isAgg27 sizeOf27 Z Z Z⟩, trivial⟩ ?_))
  have H := H.del (k := 1) rfl
  have H := H.del (k := 1) rfl
  have H := H.del (k := 1) rfl
  exact H.retM ⟨_, _, _, _, _, _, _, oM, Z, hst, htr, hsn, Z⟩
end Go.Proofs.Tst

namespace Go.Proofs.Tst
open Go Fw Tryz
theorem l91Snap_c (w0 : World) (G0 : PH) (hG : PSub G0 w0) (rb : Nat) (ab : Option Addr) (mb kb : Nat) (bs : List UInt8) (p : Nat) (hbs : RdU G0 (.slice ab mb kb) bs) (hrb : w0.heap[rb]? = some (cl [.slice ab mb kb, .int .i64 (p : Int)] 118)) (hrn : G0 rb = none) (hp : p ≤ 1000000000) (cd : List Value) (d : BDisk) (hd : diskE G0 d cd)  :
  Calls Tryz.prog 40 #[.pointer (some ⟨rb, 0, none⟩), .agg cd.toArray] w0 (RetM w0 G0 [rb] (fun G val Bs => ∃ (p' : Nat) (x : Fw.Bs), p' ≤ p + 4 ∧ val = str x ∧ x.length ≤ 16777216 ∧ Bs = [blk rb (cl [.slice ab mb kb, .int .i64 (p' : Int)] 118)])) := by
 have hlimbs : bs.length ≤ 1099511627776 := hbs.lim; obtain rfl : mb = bs.length := hbs.len
 obtain ⟨a1, m1, c1, a1', m1', c1', a1'', m1'', c1'', rfl, hr1, hr1', hr1''⟩ := hd; have hn_hr1 := hr1.len; have hx_hr1 : _ ≤ 1099511627776 := hr1.lim; have hn_hr1q := hr1'.len; have hx_hr1q : _ ≤ 1099511627776 := hr1'.lim; have hn_hr1qq := hr1''.len; have hx_hr1qq : _ ≤ 1099511627776 := hr1''.lim
 have H := Hp.initM hG hrb hrn
 refine calls_of_W (l := [.pointer (some ⟨rb, 0, none⟩), _]) func40 Z ntmps40 Z (q2 (o_box H Z Z Z ?_)); intro b2 w2 hb2 H
 refine aG Z (q3 (W_seq (q2 (o_fieldAddr 2 runUnderlying27 Z sizeOf25 Z Z Z (o_load_B 0 H isAgg25 Z Z Z Z (o_len_slice underlying25 Z Z (o_gtr Z Z Z (mV Z ?_))))))))
 refine R_case (t := 9) Z ?_ ?_
 ·intro hc3
  try simp only [nrm] at hc3
  refine gR Z (mV Z (gR Z (o_call call38 Z Z (pick_c _ _ H.sub _ _ _ _ _ _ hbs (H.blkIs (k := 1) Z).1 (H.blkIs (k := 1) Z).2 oM _ oO ) ?_)))
  rintro _ w4 ⟨G4, _, _, rfl, H4', ⟨p4, x4, hp4, rfl, hxb4, rfl⟩⟩
  have hbs := hbs.up H4'.le
  have hr1'' := hr1''.up H4'.le
  have H := H.borrow (k := 1) rfl H4'
  refine ⟨_, Z, ?_⟩
  refine gR Z (o_gtr Z Z Z (o_pick_t Z Z Z (q3 ?_)))
  refine W_cond Z ?_ ?_
  ·intro hc5
   try simp only [nrm] at hc5
   refine W_seq (W_drawK [1] 11 H kR Z ?_); intro w6 H; have hd6 := PLe.refl G4
   refine RD_t 0 Z kR Z (fun _ hK => v_fieldAddr 2 runUnderlying27 Z sizeOf25 Z Z) (RD_t 1 Z kR Z (fun _ hK => v_load_B 0 hK isAgg25 Z Z Z) (vM 2 Z Z (RD_t 3 Z kR Z (fun _ hK => v_fieldAddr 2 runUnderlying27 Z sizeOf25 Z Z) (RD_t 4 Z kR Z (fun _ hK => v_load_B 0 hK isAgg25 Z Z Z) (RD_t 5 Z kR Z (fun _ hK => v_len_slice underlying25 Z) ?_)))))
   refine RD_run [6] kR Z (RDs.cons Z ?_ RDs.nil)
   refine o_call call38 Z Z (pick_c _ _ H.sub _ _ _ _ _ _ hbs (H.blkIs (k := 0) Z).1 (H.blkIs (k := 0) Z).2 oM _ oO ) ?_
   rintro _ w7 ⟨G7, _, _, rfl, H7', ⟨p7, x7, hp7, rfl, hxb7, rfl⟩⟩
   have hr1'' := hr1''.up H7'.le
   have hd6 := hd6.trans H7'.le
   have H := H.borrow (k := 0) rfl H7'
   refine ⟨_, Z, ?_⟩
   refine R_nil (N_DK (Kn.of' H hd6 (SubL.cons 1 Z SubL.nil)) ?_)
   have hl8 := hr1''.len
   obtain ⟨b8, o8, z8, q8, ha8, hz8, hq8, hE8, hrow8, _⟩ := hr1''.at (i := x7) oM
   clear hq8
   obtain ⟨a8, m8, c8, rfl, hi8, hr8⟩ := hE8; have hy_hi8 : _ ≤ 16777216 := hi8; have hn_hr8 := hr8.len; have hx_hr8 : _ ≤ 1099511627776 := hr8.lim
   refine RD_t 7 Z kR Z (fun _ hK => v_index_P (i := x7) ha8 underlying25 sizeOf81 Z Z Z oM) (RD_t 8 Z kR Z (fun _ hK => v_fieldAddr 0 runUnderlying81 Z sizeOf9 Z Z) ?_)
   refine RD_run [9] kR Z (RDs.cons Z ?_ RDs.nil)
   refine o_load_P H isAgg9 Z Z (hrow8 0 _ Z) (R_nil (N_DK (Kn.of' H hd6 (SubL.cons 1 Z SubL.nil)) (RD_t 10 Z kR Z (fun _ hK => v_assign Z) (RD_done kR (N_K (W_ret (N_K_ret (rt1 results40 Z ?_))))))))
   have H := H.del (k := 1) rfl
   exact H.retM ⟨_, _, by omega, rfl, hi8, rfl⟩
  intro hc5'
  try simp only [nrm] at hc5'
  refine W_skip (N_K (q2 (mV Z (o_buildSlice H underlying69 sizeOf9 (fun w => ⟨_, zeroValue9 w, Z⟩) Z Z Z Z Z Z Z ?_)))); intro b9 w9 hb9 H
  have H := H.blkAcc 1 (k := 0) (n := 5) rfl rfl (by decide)
  have hchk11 := ((((((Chk.nil (E := strE) (sz := 1) (G := G4)).snoc (show strE _ ([115] : Fw.Bs) [str [115]] from ⟨rfl, by decide⟩) rfl).snoc (show strE _ ([118] : Fw.Bs) [str [118]] from ⟨rfl, by decide⟩) rfl).snoc (show strE _ ([119] : Fw.Bs) [str [119]] from ⟨rfl, by decide⟩) rfl).snoc (show strE _ ([66, 97, 100] : Fw.Bs) [str [66, 97, 100]] from ⟨rfl, by decide⟩) rfl).snoc (show strE _ ([] : Fw.Bs) [str []] from ⟨rfl, by decide⟩) rfl)
  obtain ⟨G12, H, hsg12, hsr12⟩ := H.shutM (k := 0) (j := 0) rfl rfl hchk11 aN aN
  have hbs := hbs.up hsg12
  refine o_call call39 Z Z (of_c _ _ H.sub _ _ _ _ _ _ hbs (H.blkIs (k := 0) Z).1 (H.blkIs (k := 0) Z).2 oM _ _ hsr12 (by first | decide | (simp; done) | (simp; omega))) ?_
  rintro _ w10 ⟨G10, _, _, rfl, H10', ⟨p10, x10, hp10, rfl, hxs10, rfl⟩⟩
  have H := H.borrow (k := 0) rfl H10'
  refine ⟨_, Z, ?_⟩
  refine aG Z (q3 (W_ret (rt1 results40 Z ?_)))
  have H := H.del (k := 1) rfl
  exact H.retM ⟨_, _, by omega, rfl, hxs10, rfl⟩
 intro hc3'
 try simp only [nrm] at hc3'
 refine rP Z (rP Z (rP Z (o_pick_f Z Z Z (q3 (W_false Z (W_skip (N_K (q2 (mV Z (o_buildSlice H underlying69 sizeOf9 (fun w => ⟨_, zeroValue9 w, Z⟩) Z Z Z Z Z Z Z ?_)))))))))); intro b13 w13 hb13 H
 have H := H.blkAcc 1 (k := 0) (n := 5) rfl rfl (by decide)
 have hchk15 := ((((((Chk.nil (E := strE) (sz := 1) (G := G0)).snoc (show strE _ ([115] : Fw.Bs) [str [115]] from ⟨rfl, by decide⟩) rfl).snoc (show strE _ ([118] : Fw.Bs) [str [118]] from ⟨rfl, by decide⟩) rfl).snoc (show strE _ ([119] : Fw.Bs) [str [119]] from ⟨rfl, by decide⟩) rfl).snoc (show strE _ ([66, 97, 100] : Fw.Bs) [str [66, 97, 100]] from ⟨rfl, by decide⟩) rfl).snoc (show strE _ ([] : Fw.Bs) [str []] from ⟨rfl, by decide⟩) rfl)
 obtain ⟨G16, H, hsg16, hsr16⟩ := H.shutM (k := 0) (j := 1) rfl rfl hchk15 aN aN
 have hbs := hbs.up hsg16
 refine o_call call39 Z Z (of_c _ _ H.sub _ _ _ _ _ _ hbs (H.blkIs (k := 1) Z).1 (H.blkIs (k := 1) Z).2 oM _ _ hsr16 (by first | decide | (simp; done) | (simp; omega))) ?_
 rintro _ w14 ⟨G14, _, _, rfl, H14', ⟨p14, x14, hp14, rfl, hxs14, rfl⟩⟩
 have H := H.borrow (k := 1) rfl H14'
 refine ⟨_, Z, ?_⟩
 refine aG Z (q3 (W_ret (rt1 results40 Z ?_)))
 have H := H.del (k := 1) rfl
 exact H.retM ⟨_, _, by omega, rfl, hxs14, rfl⟩
end Go.Proofs.Tst

namespace Go.Proofs.Tst
open Go Fw Tryz
theorem DrawSnapRead_c (w0 : World) (G0 : PH) (hG : PSub G0 w0) (vcode : Value) (code : List (UInt8)) (hcode : RdU G0 vcode code)  :
  Calls Tryz.prog 17 #[vcode] w0 (RetP w0 G0 (fun G v => ∃ (cs : List Value) (x : BDisk) (p0 : Bs) (p1 : Bs), v = .tuple #[.agg cs.toArray, str p0, str p1] ∧ diskE G x cs ∧ p0.length ≤ 16777216 ∧ p1.length ≤ 16777216)) := by
 obtain ⟨acode, kcode, rfl⟩ := hcode.shape
 have hlimcode : code.length ≤ 1099511627776 := hcode.lim
 have H := Hp.init hG
 refine calls_of_W (l := [.slice acode code.length kcode]) func17 Z ntmps17 Z (q2 (o_alloc H zeroValue27 Z Z ?_)); intro b1 w1 hb1 H
 refine aG Z (aG Z (q1 (mV Z (o_call call36 Z Z (l6Open_c _ _ H.sub _ _ hcode ) ?_))))
 rintro _ w2 ⟨G2, _, _, g2, rfl, ⟨rb2, ab2, mb2, kb2, bs2, rfl, rfl, hbs2⟩, hp2, hq2, hs2⟩
 have H := H.growO g2 hp2 hq2 hs2
 refine ⟨_, Z, ?_⟩
 refine aG Z (q1 (mV Z (o_call call37 Z Z (l91Disk_c _ _ H.sub _ _ _ _ _ _ hbs2 (H.blkIs (k := 0) Z).1 (H.blkIs (k := 0) Z).2 oM ) ?_)))
 rintro _ w3 ⟨G3, _, _, rfl, H3', ⟨p3, v13, v23, v33, st3, tr3, sn3, hp3, rfl, hst3, htr3, hsn3, rfl⟩⟩
 have hbs2 := hbs2.up H3'.le
 have H := H.borrow (k := 0) rfl H3'
 obtain ⟨sta3, stc3, rfl⟩ := hst3.shape; have hx_hst3 : _ ≤ 1099511627776 := hst3.lim; obtain ⟨tra3, trc3, rfl⟩ := htr3.shape; have hx_htr3 : _ ≤ 1099511627776 := htr3.lim; obtain ⟨sna3, snc3, rfl⟩ := hsn3.shape; have hx_hsn3 : _ ≤ 1099511627776 := hsn3.lim
 refine ⟨_, Z, ?_⟩
 refine o_alloc H zeroValue27 Z Z ?_; intro b4 w4 hb4 H
 refine o_store_B 0 H sizeOf27 Z Z Z Z Z Z Z Z ?_; intro w5 H
 refine q1 (mV Z (o_loadagg_B 0 H isAgg27 sizeOf27 Z Z Z Z Z (o_call call40 Z Z (l91Snap_c _ _ H.sub _ _ _ _ _ _ hbs2 (H.blkIs (k := 1) Z).1 (H.blkIs (k := 1) Z).2 oM _ ⟨st3, tr3, sn3⟩ ⟨_, _, _, _, _, _, _, _, _, Z, hst3, htr3, hsn3⟩ ) ?_)))
 rintro _ w6 ⟨G6, _, _, rfl, H6', ⟨p6, x6, hp6, rfl, hxs6, rfl⟩⟩
 have hbs2 := hbs2.up H6'.le
 have hst3 := hst3.up H6'.le
 have htr3 := htr3.up H6'.le
 have hsn3 := hsn3.up H6'.le
 have H := H.borrow (k := 1) rfl H6'
 refine ⟨_, Z, ?_⟩
 refine aG Z (q1 (o_fieldAddr 2 runUnderlying27 Z sizeOf25 Z Z Z (o_load_B 1 H isAgg25 Z Z Z Z (mV Z (o_call call46 Z Z (l12At_c _ _ H.sub _ _ hsn3 _ hxs6 ) ?_)))))
 rintro _ w7 ⟨rfl, ew7⟩; have H := H.step ew7; refine ⟨_, rfl, ?_⟩
 refine aG Z (q3 (W_seq (q2 (mV Z (o_geq Z Z Z (q3 ?_))))))
 refine W_cond Z ?_ ?_
 ·intro hc8
  try simp only [nrm] at hc8
  obtain ⟨i, x, ia, ib, ic, ie, ig⟩ := Sp.at_nat hc8
  have ib : Sp.l12At sn3 x6 = (i : Int) := ib
  refine W_seq (W_drawK [1] 13 H kR Z ?_); intro w9 H; have hd9 := PLe.refl G6
  refine RD_t 0 Z kR Z (fun _ hK => v_loadagg_B 0 hK isAgg27 sizeOf27 Z Z Z Z) (vM 1 Z Z (vM 2 Z Z (RD_t 3 Z kR Z (fun _ hK => v_fieldAddr 2 runUnderlying27 Z sizeOf25 Z Z) (RD_t 4 Z kR Z (fun _ hK => v_load_B 0 hK isAgg25 Z Z Z) (vM 5 Z Z ?_)))))
  have hl10 := hsn3.len
  obtain ⟨b10, o10, z10, q10, ha10, hz10, hq10, hE10, hrow10, _⟩ := hsn3.at (i := i) oM
  clear hq10
  obtain ⟨a10, m10, c10, rfl, hi10, hr10⟩ := hE10; have hy_hi10 : _ ≤ 16777216 := hi10; have hn_hr10 := hr10.len; have hx_hr10 : _ ≤ 1099511627776 := hr10.lim
  refine RD_t 6 Z kR Z (fun _ hK => v_index_P (i := i) ha10 underlying25 sizeOf81 Z Z ib oM) (RD_t 7 Z kR Z (fun _ hK => v_fieldAddr 1 runUnderlying81 Z sizeOf24 Z Z) (RD_t 8 Z kR Z (fun _ hK => v_load_P hK isAgg24 Z (hrow10 1 _ Z)) ?_))
  refine RD_run [9] kR Z (RDs.cons Z ?_ RDs.nil)
  refine o_call call54 Z Z (l91At_c _ _ H.sub _ _ _ _ _ _ hbs2 (H.blkIs (k := 0) Z).1 (H.blkIs (k := 0) Z).2 oM _ _ hr10 ) ?_
  rintro _ w11 ⟨G11, _, _, rfl, H11', ⟨p11, x11, hp11, rfl, hxs11, rfl⟩⟩
  have hst3 := hst3.up H11'.le
  have htr3 := htr3.up H11'.le
  have hsn3 := hsn3.up H11'.le
  have hd9 := hd9.trans H11'.le
  have H := H.borrow (k := 0) rfl H11'
  refine ⟨_, Z, ?_⟩
  refine R_nil (N_DK (Kn.of' H hd9 (SubL.cons 1 Z SubL.nil)) ?_)
  refine RD_run [10] kR Z (RDs.cons Z ?_ RDs.nil)
  refine o_store_B 2 H sizeOf27 Z Z Z Z Z Z Z Z ?_; intro w12 H
  refine R_nil (N_DK (Kn.of' H hd9 (SubL.cons 1 Z SubL.nil)) (RD_t 11 Z kR Z (fun _ hK => v_assign Z) (RD_t 12 Z kR Z (fun _ hK => v_assign Z) (RD_done kR (N_K (W_ret (N_K_ret (ret_gen (rs := [.cell 2 27, .tmp 3, .tmp 4]) (vs := [_, _, _]) results17 ⟨⟨_, Z, load_blk 2 H isAgg27 sizeOf27 Z Z Z⟩, Z, Z, trivial⟩ ?_))))))))
  have H := H.del (k := 0) rfl
  have H := H.del (k := 0) rfl
  have H := H.del (k := 0) rfl
  exact H.retP ⟨_, ⟨st3, tr3, sn3⟩, _, _, Z, ⟨_, _, _, _, _, _, _, _, _, Z, hst3, htr3, hsn3⟩, hxs6, hxs11⟩
 intro hc8'
 try simp only [nrm] at hc8'
 refine W_skip (N_K (W_seq (W_drawK [1] 7 H kR Z ?_))); intro w13 H; have hd13 := PLe.refl G6
 refine RD_t 0 Z kR Z (fun _ hK => v_loadagg_B 0 hK isAgg27 sizeOf27 Z Z Z Z) (vM 1 Z Z (vM 2 Z Z ?_))
 refine RD_run [3] kR Z (RDs.cons Z ?_ RDs.nil)
 refine o_call call55 Z Z (l91Path_c _ _ H.sub _ _ _ _ _ _ hbs2 (H.blkIs (k := 0) Z).1 (H.blkIs (k := 0) Z).2 oM ) ?_
 rintro _ w14 ⟨G14, _, _, rfl, H14', ⟨p14, x14, hp14, rfl, hxs14, rfl⟩⟩
 have hst3 := hst3.up H14'.le
 have htr3 := htr3.up H14'.le
 have hsn3 := hsn3.up H14'.le
 have hd13 := hd13.trans H14'.le
 have H := H.borrow (k := 0) rfl H14'
 refine ⟨_, Z, ?_⟩
 refine R_nil (N_DK (Kn.of' H hd13 (SubL.cons 1 Z SubL.nil)) ?_)
 refine RD_run [4] kR Z (RDs.cons Z ?_ RDs.nil)
 refine o_store_B 2 H sizeOf27 Z Z Z Z Z Z Z Z ?_; intro w15 H
 refine R_nil (N_DK (Kn.of' H hd13 (SubL.cons 1 Z SubL.nil)) (RD_t 5 Z kR Z (fun _ hK => v_assign Z) (RD_t 6 Z kR Z (fun _ hK => v_assign Z) (RD_done kR (N_K (W_ret (ret_gen (rs := [.cell 2 27, .tmp 3, .tmp 4]) (vs := [_, _, _]) results17 ⟨⟨_, Z, load_blk 2 H isAgg27 sizeOf27 Z Z Z⟩, Z, Z, trivial⟩ ?_)))))))
 have H := H.del (k := 0) rfl
 have H := H.del (k := 0) rfl
 have H := H.del (k := 0) rfl
 exact H.retP ⟨_, ⟨st3, tr3, sn3⟩, _, _, Z, ⟨_, _, _, _, _, _, _, _, _, Z, hst3, htr3, hsn3⟩, hxs6, hxs14⟩
theorem DrawHistoryBack_c (w0 : World) (G0 : PH) (hG : PSub G0 w0) (vcode : Value) (code : List (UInt8)) (hcode : RdU G0 vcode code)  :
  Calls Tryz.prog 26 #[vcode] w0 (RetP w0 G0 (fun G v => ∃ (cs : List Value) (x : BDisk) (p0 : Bs) (p1 : Bs), v = .tuple #[.agg cs.toArray, str p0, str p1] ∧ diskE G x cs ∧ p0.length ≤ 16777216 ∧ p1.length ≤ 16777216)) := by
 obtain ⟨acode, kcode, rfl⟩ := hcode.shape
 have hlimcode : code.length ≤ 1099511627776 := hcode.lim
 have H := Hp.init hG
 refine calls_of_W (l := [.slice acode code.length kcode]) func26 Z ntmps26 Z (q2 (o_alloc H zeroValue27 Z Z ?_)); intro b1 w1 hb1 H
 refine aG Z (aG Z (q1 (mV Z (o_call call17 Z Z (DrawSnapRead_c _ _ H.sub _ _ hcode ) ?_))))
 rintro _ w2 ⟨G2, _, g2, rfl, ⟨cV, uV, uP0, uP1, rfl, hV, hP0, hP1⟩⟩
 have H := H.grow g2
 obtain ⟨a2, m2, c2, a2', m2', c2', a2'', m2'', c2'', rfl, hr2, hr2', hr2''⟩ := hV; have hn_hr2 := hr2.len; have hx_hr2 : _ ≤ 1099511627776 := hr2.lim; have hn_hr2q := hr2'.len; have hx_hr2q : _ ≤ 1099511627776 := hr2'.lim; have hn_hr2qq := hr2''.len; have hx_hr2qq : _ ≤ 1099511627776 := hr2''.lim
 refine ⟨_, Z, ?_⟩
 refine o_extract Z Z Z (o_extract Z Z Z (o_extract Z Z Z (o_store_B 0 H sizeOf27 Z Z Z Z Z Z Z Z ?_))); intro w3 H
 refine aG Z (aG Z (q3 (W_ret (ret_gen (rs := [.cell 2 27, .tmp 3, .tmp 4]) (vs := [_, _, _]) results26 ⟨⟨_, Z, load_blk 0 H isAgg27 sizeOf27 Z Z Z⟩, Z, Z, trivial⟩ ?_))))
 have H := H.del (k := 0) rfl
 exact H.retP ⟨_, uV, _, _, Z, ⟨_, _, _, _, _, _, _, _, _, Z, hr2, hr2', hr2''⟩, hP0, hP1⟩
end Go.Proofs.Tst

namespace Go.Proofs.Tst
open Go Fw Tryz
theorem lBackBlocks_c (w0 : World) (G0 : PH) (hG : PSub G0 w0) (vcode : Value) (code : List (UInt8)) (hcode : RdU G0 vcode code)  :
  Calls Tryz.prog 6 #[vcode] w0 (Rets w0 (.bool true)) := by
 obtain ⟨acode, kcode, rfl⟩ := hcode.shape
 have hlimcode : code.length ≤ 1099511627776 := hcode.lim
 have H := Hp.init hG
 refine calls_of_W (l := [.slice acode code.length kcode]) func6 Z ntmps6 Z (q2 (aG Z (q3 (W_seq (q2 (mV Z (o_len_slice underlying22 Z Z (o_gtr Z Z Z (q3 ?_)))))))))
 refine W_cond Z ?_ ?_
 ·intro hc1
  try simp only [nrm] at hc1
  refine q2 (aG Z (q3 (W_ret (N_K_ret (rt1 results6 Z ?_)))))
  exact H.rets Z
 intro hc1'
 try simp only [nrm] at hc1'
 refine W_skip (N_K (q2 (mV Z (o_call call26 Z Z (DrawHistoryBack_c _ _ H.sub _ _ hcode ) ?_))))
 rintro _ w2 ⟨G2, _, g2, rfl, ⟨cV, uV, uP0, uP1, rfl, hV, hP0, hP1⟩⟩
 have H := H.grow g2
 obtain ⟨a2, m2, c2, a2', m2', c2', a2'', m2'', c2'', rfl, hr2, hr2', hr2''⟩ := hV; have hn_hr2 := hr2.len; have hx_hr2 : _ ≤ 1099511627776 := hr2.lim; have hn_hr2q := hr2'.len; have hx_hr2q : _ ≤ 1099511627776 := hr2'.lim; have hn_hr2qq := hr2''.len; have hx_hr2qq : _ ≤ 1099511627776 := hr2''.lim
 refine ⟨_, Z, ?_⟩
 refine mV Z (o_extract Z Z Z (o_extract Z Z Z (o_extract Z Z Z (o_alloc H zeroValue27 Z Z ?_)))); intro b3 w3 hb3 H
 refine o_store_B 0 H sizeOf27 Z Z Z Z Z Z Z Z ?_; intro w4 H
 refine aG Z (aG Z (q1 (o_loadagg_B 0 H isAgg27 sizeOf27 Z Z Z Z Z (mV Z (mV Z (o_call call27 Z Z (i_HistoryBack_c _ _ H.sub _ uV ⟨_, _, _, _, _, _, _, _, _, Z, hr2, hr2', hr2''⟩ _ hP0 _ hP1 ) ?_))))))
 rintro _ w5 ⟨_, _, rfl, H5', ⟨u15, u25, u35, E15, E25, E35, rfl, rfl, ho15, ho25, ho35⟩⟩
 have H := H.readers (fp := []) (by simp) (PLe.refl _) H5'
 obtain ⟨x15, p15⟩ := ho15
 obtain ⟨a15, c15, rfl⟩ := OwnS.shape p15
 obtain ⟨x25, p25⟩ := ho25
 obtain ⟨a25, c25, rfl⟩ := OwnS.shape p25
 obtain ⟨x35, p35⟩ := ho35
 obtain ⟨a35, c35, rfl⟩ := OwnS.shape p35
 refine ⟨_, Z, ?_⟩
 refine mV Z (o_extract Z Z Z (o_extract Z Z Z (o_alloc H zeroValue27 Z Z ?_))); intro b6 w6 hb6 H
 refine o_store_B 0 H sizeOf27 Z Z Z Z Z Z Z Z ?_; intro w7 H
 refine aG Z (q1 (o_loadagg_B 4 H isAgg27 sizeOf27 Z Z Z Z Z (mV Z (mV Z (o_call call28 Z Z (HistoryBackP_c _ _ H.sub _ uV ⟨_, _, _, _, _, _, _, _, _, Z, hr2, hr2', hr2''⟩ _ hP0 _ hP1 ) ?_)))))
 rintro _ w8 ⟨G8, _, g8, rfl, u8_0, rfl, hr8_0⟩
 have H := H.grow g8
 have hr2'' := hr2''.up g8.le
 obtain ⟨a9, m9, c9, a9', m9', c9', a9'', m9'', c9'', rfl, hr9, hr9', hr9''⟩ := hr8_0; have hn_hr9 := hr9.len; have hx_hr9 : _ ≤ 1099511627776 := hr9.lim; have hn_hr9q := hr9'.len; have hx_hr9q : _ ≤ 1099511627776 := hr9'.lim; have hn_hr9qq := hr9''.len; have hx_hr9qq : _ ≤ 1099511627776 := hr9''.lim
 refine ⟨_, Z, ?_⟩
 refine mV Z (o_extract Z Z Z (o_extract Z Z Z (o_alloc H zeroValue27 Z Z ?_))); intro b10 w10 hb10 H
 refine o_store_B 0 H sizeOf27 Z Z Z Z Z Z Z Z ?_; intro w11 H
 refine aG Z (q3 (W_seq (q2 (mV Z (mV Z (o_bneq_same underlying4 Z Z Z (mV Z (gR Z (o_loadagg_B 1 H isAgg27 sizeOf27 Z Z Z Z Z (gR Z (o_loadagg_B 0 H isAgg27 sizeOf27 Z Z Z Z Z (gR Z (o_call call13 Z Z (w_sameDisk_c _ _ (H.lendSubL [2, 3, 4]) _ ((Sp.HistoryBack uV uP0 uP1).getD ⟨[], [], []⟩) ⟨_, _, _, _, _, _, _, _, _, Z, (H.lendOHs (k := 2) (ks := [2, 3, 4]) Z Z ⟨_, p15⟩), (H.lendOIs (k := 3) (ks := [2, 3, 4]) Z Z ⟨_, p25⟩), (H.lendOSn (k := 4) (ks := [2, 3, 4]) Z Z ⟨_, p35⟩)⟩ _ ((Sp.HistoryBack uV uP0 uP1).getD ⟨[], [], []⟩) ⟨_, _, _, _, _, _, _, _, _, Z, (hr9.up (PPlus.le _ _ _)), (hr9'.up (PPlus.le _ _ _)), (hr9''.up (PPlus.le _ _ _))⟩ Z) ?_)))))))))))))
 rintro _ w12 ⟨rfl, ew12⟩; have H := H.step ew12; refine ⟨_, rfl, ?_⟩
 refine gR Z (o_not Z Z (o_pick_f Z Z Z (mV Z (gR Z (mV Z (gR Z (o_not Z Z (o_pick_f Z Z Z (q3 ?_)))))))))
 refine W_cond Z ?_ ?_
 ·intro hc13
  try simp only [nrm] at hc13
  refine q2 (mV Z (mV Z (o_beql_same underlying4 Z Z Z (mV Z (gR Z (o_loadagg_B 1 H isAgg27 sizeOf27 Z Z Z Z Z (gR Z (o_loadagg_B 0 H isAgg27 sizeOf27 Z Z Z Z Z (gR Z (o_call call13 Z Z (w_sameDisk_c _ _ (H.lendSubL [2, 3, 4]) _ ((Sp.HistoryBack uV uP0 uP1).getD ⟨[], [], []⟩) ⟨_, _, _, _, _, _, _, _, _, Z, (H.lendOHs (k := 2) (ks := [2, 3, 4]) Z Z ⟨_, p15⟩), (H.lendOIs (k := 3) (ks := [2, 3, 4]) Z Z ⟨_, p25⟩), (H.lendOSn (k := 4) (ks := [2, 3, 4]) Z Z ⟨_, p35⟩)⟩ _ ((Sp.HistoryBack uV uP0 uP1).getD ⟨[], [], []⟩) ⟨_, _, _, _, _, _, _, _, _, Z, (hr9.up (PPlus.le _ _ _)), (hr9'.up (PPlus.le _ _ _)), (hr9''.up (PPlus.le _ _ _))⟩ Z) ?_))))))))))
  rintro _ w14 ⟨rfl, ew14⟩; have H := H.step ew14; refine ⟨_, rfl, ?_⟩
  refine o_pick_t Z Z Z (aG Z (q3 (W_ret (N_K_ret (rt1 results6 Z ?_)))))
  exact H.rets Z
 intro hc13'
 try simp only [nrm] at hc13'
 obtain ⟨u2, hu2⟩ := Option.isSome_iff_exists.1 (show (Sp.HistoryBack uV uP0 uP1).isSome = true by simpa using hc13')
 have hW : (Sp.HistoryBack uV uP0 uP1).getD ⟨[], [], []⟩ = u2 := by (rw [hu2]; rfl)
 have hlen : ((Sp.HistoryBack uV uP0 uP1).getD ⟨[], [], []⟩).store.length ≤ uV.store.length := by (rw [hW]; exact Sp.hist_blocks hu2)
 have hsn : ((Sp.HistoryBack uV uP0 uP1).getD ⟨[], [], []⟩).snaps = uV.snaps := by (rw [hW]; exact Sp.hist_snaps hu2)
 refine W_skip (N_K (q2 (o_fieldAddr 0 runUnderlying27 Z sizeOf23 Z Z Z (o_load_B 1 H isAgg23 Z Z Z Z (o_len_slice underlying23 Z Z (o_fieldAddr 0 runUnderlying27 Z sizeOf23 Z Z Z (o_load_B 5 H isAgg23 Z Z Z Z (o_len_slice underlying23 Z Z (o_leq Z Z Z (mV Z ?_))))))))))
 refine R_case (t := 61) Z ?_ ?_
 ·intro hc15
  try simp only [nrm] at hc15
  refine gR Z (o_fieldAddr 2 runUnderlying27 Z sizeOf25 Z Z Z (gR Z (o_load_B 1 H isAgg25 Z Z Z Z (gR Z (o_fieldAddr 2 runUnderlying27 Z sizeOf25 Z Z Z (gR Z (o_load_B 5 H isAgg25 Z Z Z Z (gR Z (o_call call29 Z Z (w_sameSnaps_c _ _ (H.lendSubL [4]) _ _ (H.lendOSn (k := 4) (ks := [4]) Z Z ⟨_, p35⟩) _ _ (hr2''.up (PPlus.le _ _ _)) hsn) ?_)))))))))
  rintro _ w16 ⟨rfl, ew16⟩; have H := H.step ew16; refine ⟨_, rfl, ?_⟩
  refine o_pick_t Z Z Z (aG Z (q3 (W_ret (rt1 results6 Z ?_))))
  exact H.rets Z
 intro hc15'
 try simp only [nrm] at hc15'
 exact absurd (show False from by first | omega | simp_all) id
end Go.Proofs.Tst

namespace Go.Proofs.Tst
open Go Fw Tryz
theorem lHBackTwice_c (w0 : World) (G0 : PH) (hG : PSub G0 w0) (vcode : Value) (code : List (UInt8)) (hcode : RdU G0 vcode code)  :
  Calls Tryz.prog 7 #[vcode] w0 (Rets w0 (.bool true)) := by
 obtain ⟨acode, kcode, rfl⟩ := hcode.shape
 have hlimcode : code.length ≤ 1099511627776 := hcode.lim
 have H := Hp.init hG
 refine calls_of_W (l := [.slice acode code.length kcode]) func7 Z ntmps7 Z (q2 (aG Z (q3 (W_seq (q2 (mV Z (o_len_slice underlying22 Z Z (o_gtr Z Z Z (q3 ?_)))))))))
 refine W_cond Z ?_ ?_
 ·intro hc1
  try simp only [nrm] at hc1
  refine q2 (aG Z (q3 (W_ret (N_K_ret (rt1 results7 Z ?_)))))
  exact H.rets Z
 intro hc1'
 try simp only [nrm] at hc1'
 refine W_skip (N_K (q2 (mV Z (o_call call26 Z Z (DrawHistoryBack_c _ _ H.sub _ _ hcode ) ?_))))
 rintro _ w2 ⟨G2, _, g2, rfl, ⟨cV, uV, uP0, uP1, rfl, hV, hP0, hP1⟩⟩
 have H := H.grow g2
 obtain ⟨a2, m2, c2, a2', m2', c2', a2'', m2'', c2'', rfl, hr2, hr2', hr2''⟩ := hV; have hn_hr2 := hr2.len; have hx_hr2 : _ ≤ 1099511627776 := hr2.lim; have hn_hr2q := hr2'.len; have hx_hr2q : _ ≤ 1099511627776 := hr2'.lim; have hn_hr2qq := hr2''.len; have hx_hr2qq : _ ≤ 1099511627776 := hr2''.lim
 refine ⟨_, Z, ?_⟩
 refine mV Z (o_extract Z Z Z (o_extract Z Z Z (o_extract Z Z Z (o_alloc H zeroValue27 Z Z ?_)))); intro b3 w3 hb3 H
 refine o_store_B 0 H sizeOf27 Z Z Z Z Z Z Z Z ?_; intro w4 H
 refine aG Z (aG Z (q1 (o_loadagg_B 0 H isAgg27 sizeOf27 Z Z Z Z Z (mV Z (mV Z (o_call call27 Z Z (i_HistoryBack_c _ _ H.sub _ uV ⟨_, _, _, _, _, _, _, _, _, Z, hr2, hr2', hr2''⟩ _ hP0 _ hP1 ) ?_))))))
 rintro _ w5 ⟨_, _, rfl, H5', ⟨u15, u25, u35, E15, E25, E35, rfl, rfl, ho15, ho25, ho35⟩⟩
 have H := H.readers (fp := []) (by simp) (PLe.refl _) H5'
 obtain ⟨x15, p15⟩ := ho15
 obtain ⟨a15, c15, rfl⟩ := OwnS.shape p15
 obtain ⟨x25, p25⟩ := ho25
 obtain ⟨a25, c25, rfl⟩ := OwnS.shape p25
 obtain ⟨x35, p35⟩ := ho35
 obtain ⟨a35, c35, rfl⟩ := OwnS.shape p35
 refine ⟨_, Z, ?_⟩
 refine mV Z (o_extract Z Z Z (o_extract Z Z Z (o_alloc H zeroValue27 Z Z ?_))); intro b6 w6 hb6 H
 refine o_store_B 0 H sizeOf27 Z Z Z Z Z Z Z Z ?_; intro w7 H
 refine aG Z (q1 (o_loadagg_B 4 H isAgg27 sizeOf27 Z Z Z Z Z (mV Z (mV Z (o_call call28 Z Z (HistoryBackP_c _ _ H.sub _ uV ⟨_, _, _, _, _, _, _, _, _, Z, hr2, hr2', hr2''⟩ _ hP0 _ hP1 ) ?_)))))
 rintro _ w8 ⟨G8, _, g8, rfl, u8_0, rfl, hr8_0⟩
 have H := H.grow g8
 obtain ⟨a9, m9, c9, a9', m9', c9', a9'', m9'', c9'', rfl, hr9, hr9', hr9''⟩ := hr8_0; have hn_hr9 := hr9.len; have hx_hr9 : _ ≤ 1099511627776 := hr9.lim; have hn_hr9q := hr9'.len; have hx_hr9q : _ ≤ 1099511627776 := hr9'.lim; have hn_hr9qq := hr9''.len; have hx_hr9qq : _ ≤ 1099511627776 := hr9''.lim
 refine ⟨_, Z, ?_⟩
 refine mV Z (o_extract Z Z Z (o_extract Z Z Z (o_alloc H zeroValue27 Z Z ?_))); intro b10 w10 hb10 H
 refine o_store_B 0 H sizeOf27 Z Z Z Z Z Z Z Z ?_; intro w11 H
 refine aG Z (q3 (W_seq (q2 (mV Z (mV Z (o_bneq_same underlying4 Z Z Z (mV Z (gR Z (o_loadagg_B 1 H isAgg27 sizeOf27 Z Z Z Z Z (gR Z (o_loadagg_B 0 H isAgg27 sizeOf27 Z Z Z Z Z (gR Z (o_call call13 Z Z (w_sameDisk_c _ _ (H.lendSubL [2, 3, 4]) _ ((Sp.HistoryBack uV uP0 uP1).getD ⟨[], [], []⟩) ⟨_, _, _, _, _, _, _, _, _, Z, (H.lendOHs (k := 2) (ks := [2, 3, 4]) Z Z ⟨_, p15⟩), (H.lendOIs (k := 3) (ks := [2, 3, 4]) Z Z ⟨_, p25⟩), (H.lendOSn (k := 4) (ks := [2, 3, 4]) Z Z ⟨_, p35⟩)⟩ _ ((Sp.HistoryBack uV uP0 uP1).getD ⟨[], [], []⟩) ⟨_, _, _, _, _, _, _, _, _, Z, (hr9.up (PPlus.le _ _ _)), (hr9'.up (PPlus.le _ _ _)), (hr9''.up (PPlus.le _ _ _))⟩ Z) ?_)))))))))))))
 rintro _ w12 ⟨rfl, ew12⟩; have H := H.step ew12; refine ⟨_, rfl, ?_⟩
 refine gR Z (o_not Z Z (o_pick_f Z Z Z (mV Z (gR Z (mV Z (gR Z (o_not Z Z (o_pick_f Z Z Z (q3 ?_)))))))))
 refine W_cond Z ?_ ?_
 ·intro hc13
  try simp only [nrm] at hc13
  refine q2 (mV Z (mV Z (o_beql_same underlying4 Z Z Z (mV Z (gR Z (o_loadagg_B 1 H isAgg27 sizeOf27 Z Z Z Z Z (gR Z (o_loadagg_B 0 H isAgg27 sizeOf27 Z Z Z Z Z (gR Z (o_call call13 Z Z (w_sameDisk_c _ _ (H.lendSubL [2, 3, 4]) _ ((Sp.HistoryBack uV uP0 uP1).getD ⟨[], [], []⟩) ⟨_, _, _, _, _, _, _, _, _, Z, (H.lendOHs (k := 2) (ks := [2, 3, 4]) Z Z ⟨_, p15⟩), (H.lendOIs (k := 3) (ks := [2, 3, 4]) Z Z ⟨_, p25⟩), (H.lendOSn (k := 4) (ks := [2, 3, 4]) Z Z ⟨_, p35⟩)⟩ _ ((Sp.HistoryBack uV uP0 uP1).getD ⟨[], [], []⟩) ⟨_, _, _, _, _, _, _, _, _, Z, (hr9.up (PPlus.le _ _ _)), (hr9'.up (PPlus.le _ _ _)), (hr9''.up (PPlus.le _ _ _))⟩ Z) ?_))))))))))
  rintro _ w14 ⟨rfl, ew14⟩; have H := H.step ew14; refine ⟨_, rfl, ?_⟩
  refine o_pick_t Z Z Z (aG Z (q3 (W_ret (N_K_ret (rt1 results7 Z ?_)))))
  exact H.rets Z
 intro hc13'
 try simp only [nrm] at hc13'
 obtain ⟨u2, hu2⟩ := Option.isSome_iff_exists.1 (show (Sp.HistoryBack uV uP0 uP1).isSome = true by simpa using hc13')
 have hW : (Sp.HistoryBack uV uP0 uP1).getD ⟨[], [], []⟩ = u2 := by (rw [hu2]; rfl)
 have hbb : Sp.HistoryBack ((Sp.HistoryBack uV uP0 uP1).getD ⟨[], [], []⟩) uP0 uP1 = some ((Sp.HistoryBack uV uP0 uP1).getD ⟨[], [], []⟩) := by (rw [hW]; exact Sp.hist_twice hu2)
 refine W_skip (N_K (q2 (o_loadagg_B 1 H isAgg27 sizeOf27 Z Z Z Z Z (mV Z (mV Z (o_call call27 Z Z (i_HistoryBack_c _ _ (H.lendSubL [2, 3, 4]) _ ((Sp.HistoryBack uV uP0 uP1).getD ⟨[], [], []⟩) ⟨_, _, _, _, _, _, _, _, _, Z, (H.lendOHs (k := 2) (ks := [2, 3, 4]) Z Z ⟨_, p15⟩), (H.lendOIs (k := 3) (ks := [2, 3, 4]) Z Z ⟨_, p25⟩), (H.lendOSn (k := 4) (ks := [2, 3, 4]) Z Z ⟨_, p35⟩)⟩ _ hP0 _ hP1 ) ?_))))))
 rintro _ w15 ⟨_, _, rfl, H15', ⟨u115, u215, u315, E115, E215, E315, rfl, rfl, ho115, ho215, ho315⟩⟩
 have H := H.readersL H15'
 obtain ⟨x115, p115⟩ := ho115
 obtain ⟨a115, c115, rfl⟩ := OwnS.shape p115
 obtain ⟨x215, p215⟩ := ho215
 obtain ⟨a215, c215, rfl⟩ := OwnS.shape p215
 obtain ⟨x315, p315⟩ := ho315
 obtain ⟨a315, c315, rfl⟩ := OwnS.shape p315
 refine ⟨_, Z, ?_⟩
 refine mV Z (o_extract Z Z Z (o_extract Z Z Z (o_alloc H zeroValue27 Z Z ?_))); intro b16 w16 hb16 H
 refine o_store_B 0 H sizeOf27 Z Z Z Z Z Z Z Z ?_; intro w17 H
 refine aG Z (q1 (mV Z (mV Z ?_)))
 refine R_case (t := 64) Z ?_ ?_
 ·intro hc18
  try simp only [nrm] at hc18
  refine gR Z (o_loadagg_B 0 H isAgg27 sizeOf27 Z Z Z Z Z (gR Z (o_loadagg_B 5 H isAgg27 sizeOf27 Z Z Z Z Z (gR Z ?_))))
  refine o_call call13 Z Z (w_sameDisk_c _ _ (H.lendSubL [1, 2, 3, 6, 7, 8]) _ ((Sp.HistoryBack ((Sp.HistoryBack uV uP0 uP1).getD ⟨[], [], []⟩) uP0 uP1).getD ⟨[], [], []⟩) ⟨_, _, _, _, _, _, _, _, _, Z, (H.lendOHs (k := 1) (ks := [1, 2, 3, 6, 7, 8]) Z Z ⟨_, p115⟩), (H.lendOIs (k := 2) (ks := [1, 2, 3, 6, 7, 8]) Z Z ⟨_, p215⟩), (H.lendOSn (k := 3) (ks := [1, 2, 3, 6, 7, 8]) Z Z ⟨_, p315⟩)⟩ _ ((Sp.HistoryBack uV uP0 uP1).getD ⟨[], [], []⟩) ⟨_, _, _, _, _, _, _, _, _, Z, (H.lendOHs (k := 6) (ks := [1, 2, 3, 6, 7, 8]) Z Z ⟨_, p15⟩), (H.lendOIs (k := 7) (ks := [1, 2, 3, 6, 7, 8]) Z Z ⟨_, p25⟩), (H.lendOSn (k := 8) (ks := [1, 2, 3, 6, 7, 8]) Z Z ⟨_, p35⟩)⟩ (by (rw [hbb]; rfl))) ?_
  rintro _ w19 ⟨rfl, ew19⟩; have H := H.step ew19; refine ⟨_, rfl, ?_⟩
  refine o_pick_t Z Z Z (aG Z (q3 (W_ret (rt1 results7 Z ?_))))
  exact H.rets Z
 intro hc18'
 try simp only [nrm] at hc18'
 exact absurd (show False from by simp_all) id
end Go.Proofs.Tst

namespace Go.Proofs.Tst
open Go Fw Tryz
theorem i_DiskValid_c (w0 : World) (G0 : PH) (hG : PSub G0 w0) (cd : List Value) (d : BDisk) (hd : diskE G0 d cd)  :
  Calls Tryz.prog 30 #[.agg cd.toArray] w0 (Rets w0 (.bool (Sp.DiskValid d))) := by
 obtain ⟨a1, m1, c1, a1', m1', c1', a1'', m1'', c1'', rfl, hr1, hr1', hr1''⟩ := hd; have hn_hr1 := hr1.len; have hx_hr1 : _ ≤ 1099511627776 := hr1.lim; have hn_hr1q := hr1'.len; have hx_hr1q : _ ≤ 1099511627776 := hr1'.lim; have hn_hr1qq := hr1''.len; have hx_hr1qq : _ ≤ 1099511627776 := hr1''.lim
 have H := Hp.init hG
 refine calls_of_W (l := [_]) func30 Z ntmps30 Z (q2 (o_box H Z Z Z ?_)); intro b2 w2 hb2 H
 refine aG Z (q1 (o_loadagg_B 0 H isAgg27 sizeOf27 Z Z Z Z Z (o_call call52 Z Z (i_newDisk_c _ _ H.sub _ d ⟨_, _, _, _, _, _, _, _, _, Z, hr1, hr1', hr1''⟩ H.lent0 ) ?_)))
 rintro _ w3 ⟨G3, _, _, rfl, H3', ⟨rfl, rfl, hnd3⟩ | ⟨db3, mb3, es3, ck3, xs3, T3, F3, sv3, sn3, c3, FS3, rfl, rfl, hm3, hS3, hN3, hT3, hchk3, hNs3, hSn3, hdv3⟩⟩
 ·skip
  have H := H.borrow0 H3'
  refine ⟨_, Z, ?_⟩
  refine mV Z (o_extract Z Z Z (o_extract Z Z Z (aG Z (aG Z (q1 (mV Z (aG Z (q3 (W_ret (rt1 results30 Z ?_))))))))))
  exact H.rets (congrArg Value.bool (by first | (rw [show Sp.DiskValid d = false by assumption]) | (rw [show Sp.DiskValid d = true by assumption])))
 skip
 have H := H.borrow0 H3'
 obtain ⟨avAd, cvAd, rfl⟩ := H.accShape (k := 3) rfl
 refine ⟨_, Z, ?_⟩
 refine mV Z (o_extract Z Z Z (o_extract Z Z Z (aG Z (aG Z (q1 (mV Z (aG Z (q3 (W_ret (rt1 results30 Z ?_))))))))))
 exact H.rets (congrArg Value.bool (by first | (rw [show Sp.DiskValid d = false by assumption]) | (rw [show Sp.DiskValid d = true by assumption])))
end Go.Proofs.Tst

namespace Go.Proofs.Tst
open Go Fw Tryz
theorem i_TreeFindI_c (w0 : World) (G0 : PH) (hG : PSub G0 w0) (vlist : Value) (list : List (BItem)) (hlist : RdItems G0 vlist list) (path : Bs) (hpath : path.length ≤ 16777216)  :
  Calls Tryz.prog 50 #[vlist, str path] w0 (RetP w0 G0 (fun G v => ∃ cs, v = .tuple #[.agg cs.toArray, .bool (Sp.TreeFind list path).isSome] ∧ itemE G ((Sp.TreeFind list path).getD ⟨[], false, []⟩) cs)) := by
 obtain ⟨alist, klist, rfl⟩ := hlist.shape
 have hlimlist : list.length ≤ 1099511627776 := hlist.lim
 have H := Hp.init hG
 refine calls_of_W (l := [.slice alist list.length klist, str path]) func50 Z ntmps50 Z (q2 (o_alloc H zeroValue37 Z Z ?_)); intro b1 w1 hb1 H
 refine aG Z (q1 (mV Z (o_call call105 Z Z (i_openTree_c _ _ H.sub _ _ hlist H.lent0 ) ?_)))
 rintro _ w2 ⟨G2, _, _, rfl, H2', ⟨rfl, rfl, hv2⟩ | ⟨T2, F2, rfl, rfl, hN2, hT2, hv2⟩⟩
 ·skip
  have H := H.borrow0 H2'
  refine ⟨_, Z, ?_⟩
  refine mV Z (o_extract Z Z Z (o_extract Z Z Z (aG Z (aG Z (q3 (W_seq (q2 (mV Z (o_not Z Z (q3 (W_true Z (q2 (o_build bf37 Z Z Z (o_store_B 0 H sizeOf37 Z Z Z Z Z Z Z Z ?_)))))))))))))); intro w3 H
  refine aG Z (q3 (W_ret (N_K_ret (ret_gen (rs := [.cell 4 37, .tmp 5]) (vs := [_, _]) results50 ⟨⟨_, Z, load_blk 0 H isAgg37 sizeOf37 Z Z Z⟩, Z, trivial⟩ ?_))))
  have H := H.del (k := 0) rfl
  have hp : Sp.TreeFind list path = none := (by first | exact Sp.tf_bad (by assumption) | exact Sp.tf_no (by assumption) (by assumption))
  exact H.retP ⟨_, (by (rw [hp]; rfl)), (by (rw [hp]; exact ⟨_, _, _, rfl, by decide, RdS.nil _ _ _⟩))⟩
 skip
 have H := H.borrow0 H2'
 refine ⟨_, Z, ?_⟩
 refine mV Z (o_extract Z Z Z (o_extract Z Z Z (aG Z (aG Z (q3 (W_seq (q2 (mV Z (o_not Z Z (q3 (W_false Z (W_skip (N_K (q2 (mV Z ?_)))))))))))))))
 refine mV Z (o_call call106 Z Z (i_find_n_c _ _ (H.lendSubL [0]) _ ((H.lendN (k := 0) (ks := [0]) Z Z hN2).at (show Nd.at_ T2 [] = some T2 from Z)) _ hpath hT2.wf) ?_)
 rintro _ w4 ⟨_, rfl, ew4, ⟨hfi4, rfl⟩ | ⟨d4, hfi4, rfl⟩⟩
 ·skip
  have H := H.step ew4; refine ⟨_, rfl, ?_⟩
  refine aG Z (q3 (W_seq (q2 (mV Z (o_eqnil_ptr underlying97 Z Z Z (q3 (W_true Z (q2 (o_build bf37 Z Z Z (o_store_B 1 H sizeOf37 Z Z Z Z Z Z Z Z ?_)))))))))); intro w5 H
  refine aG Z (q3 (W_ret (N_K_ret (ret_gen (rs := [.cell 4 37, .tmp 5]) (vs := [_, _]) results50 ⟨⟨_, Z, load_blk 1 H isAgg37 sizeOf37 Z Z Z⟩, Z, trivial⟩ ?_))))
  have H := H.del (k := 0) rfl
  have H := H.del (k := 0) rfl
  have hp : Sp.TreeFind list path = none := (by first | exact Sp.tf_bad (by assumption) | exact Sp.tf_no (by assumption) (by assumption))
  exact H.retP ⟨_, (by (rw [hp]; rfl)), (by (rw [hp]; exact ⟨_, _, _, rfl, by decide, RdS.nil _ _ _⟩))⟩
 skip
 have H := H.step ew4; refine ⟨_, rfl, ?_⟩
 refine aG Z (q3 (W_seq (q2 ?_)))
 obtain ⟨oa, om, oc, okv, oFs, oR, H, ohri, ohNs, ohnl, ohkl, hcov, hclose⟩ := Hp.openNode H hN2 (Nd.find_at_ hfi4)
 obtain ⟨oak, ock, rfl⟩ := H.accShape (k := 1) rfl; have hdo := PLe.refl G2; have hn_ohri := ohri.len
 refine mV Z (o_eqnil_ptr underlying97 Z Z Z (q3 (W_false Z (W_skip (N_K (W_seq (W_drawK [0] 12 H kR Z ?_))))))); intro w6 H; have hd6 := PLe.refl G2
 refine vM 0 Z Z (vM 1 Z Z (RD_t 2 Z kR Z (fun _ hK => v_nilCheck Z) (RD_t 3 Z kR Z (fun _ hK => v_fieldAddr 1 runUnderlying149 Z sizeOf4 Z Z) (RD_t 4 Z kR Z (fun _ hK => v_load_B 0 hK isAgg4 Z Z Z) (vM 5 Z Z (RD_t 6 Z kR Z (fun _ hK => v_nilCheck Z) (RD_t 7 Z kR Z (fun _ hK => v_fieldAddr 2 runUnderlying149 Z sizeOf33 Z Z) (RD_t 8 Z kR Z (fun _ hK => v_load_B 0 hK isAgg33 Z Z Z) (RD_t 9 Z kR Z (fun _ hK => v_build bf37 Z Z) ?_)))))))))
 refine RD_run [10] kR Z (RDs.cons Z ?_ RDs.nil)
 refine o_store_B 3 H sizeOf37 Z Z Z Z Z Z Z Z ?_; intro w7 H
 refine R_nil (N_DK (Kn.of' H hd6 (SubL.cons 0 Z SubL.nil)) (RD_t 11 Z kR Z (fun _ hK => v_assign Z) (RD_done kR (N_K (W_ret (ret_gen (rs := [.cell 4 37, .tmp 5]) (vs := [_, _]) results50 ⟨⟨_, Z, load_blk 3 H isAgg37 sizeOf37 Z Z Z⟩, Z, trivial⟩ ?_))))))
 have H := H.del (k := 0) rfl
 have H := H.del (k := 0) rfl
 have H := H.del (k := 0) rfl
 have H := H.del (k := 0) rfl
 have hp : Sp.TreeFind list path = some ⟨path, d4.dir, d4.ids⟩ := Sp.tf_yes hT2 hfi4
 exact H.retP ⟨_, (by (rw [hp]; rfl)), (by (rw [hp]; exact ⟨_, _, _, rfl, hpath, ohri⟩))⟩
theorem i_FileLoad_c (w0 : World) (G0 : PH) (hG : PSub G0 w0) (vlist : Value) (list : List (BHeld)) (hlist : RdH G0 vlist list) (vids : Value) (ids : List (Int)) (hids : RdI G0 vids ids)  :
  Calls Tryz.prog 51 #[vlist, vids] w0 (RetN w0 G0 (fun v Bs => ∃ (uv : Value) (c : List Value) (xs : List Int), v = .tuple #[uv, .bool (Sp.FileLoad list ids).isSome] ∧ Bs = [acc 3 1 uv xs.length c] ∧ Chk intE 1 (fun _ => none) c xs ∧ xs.length ≤ 1000 ∧ (∀ ys, Sp.FileLoad list ids = some ys → xs = ys) ∧ (Sp.FileLoad list ids = none → xs = []))) := by
 obtain ⟨alist, klist, rfl⟩ := hlist.shape
 have hlimlist : list.length ≤ 1099511627776 := hlist.lim
 obtain ⟨aids, kids, rfl⟩ := hids.shape
 have hlimids : ids.length ≤ 1099511627776 := hids.lim
 have H := Hp.init hG
 refine calls_of_W (l := [.slice alist list.length klist, .slice aids ids.length kids]) func51 Z ntmps51 Z (q2 (aG Z (aG Z (q1 (mV Z (o_call call107 Z Z (i_openStore_c _ _ H.sub _ _ hlist H.lent0 ) ?_))))))
 rintro _ w1 ⟨G1, _, _, rfl, H1', ⟨hnv1, rfl, rfl⟩ | ⟨hV1, mb1, es1, ck1, xs1, rfl, rfl, hm1, hS1⟩⟩
 ·skip
  have H := H.borrow0 H1'
  refine ⟨_, Z, ?_⟩
  refine mV Z (o_extract Z Z Z (o_extract Z Z Z (aG Z (aG Z (q3 (W_seq (q2 (mV Z (o_not Z Z (q3 (W_true Z (q2 (aG Z (aG Z (q3 ?_)))))))))))))))
  refine W_ret (N_K_ret (rt2 results51 Z Z ?_))
  have H := H.addNil 3 1
  have hno : Sp.FileLoad list ids = none := by (simp [Sp.FileLoad, show Sp.StoreValid list = false by assumption])
  have H := H.forget hG (by simp)
  exact ⟨_, _, rfl, H, _, _, [], (by (rw [hno]; rfl)), rfl, (Chk.nil (E := intE) (sz := 1) (G := G1)), by simp, fun ys h => (by rw [hno] at h; cases h), fun _ => rfl⟩
 skip
 have hids := hids.up H1'.le
 have H := H.borrow0 H1'
 refine ⟨_, Z, ?_⟩
 refine mV Z (o_extract Z Z Z (o_extract Z Z Z (aG Z (aG Z (q3 (W_seq (q2 (mV Z (o_not Z Z (q3 (W_false Z (W_skip (N_K (q2 (mV Z ?_)))))))))))))))
 refine mV Z (o_call call108 Z Z (i_loadFile_c _ _ (H.lendSubL [0]) _ _ _ _ _ (H.lendPredL (k := 0) (ks := [0]) Z Z) hm1 (hS1.up (PPlus.le _ _ _)) hV1 _ _ (hids.up (PPlus.le _ _ _)) ) ?_)
 rintro _ w2 ⟨_, _, rfl, H2', ⟨u2, c2, xs2, rfl, rfl, hchk2, hxl2, hxs2, hxn2⟩⟩
 have H := H.readersL H2'
 obtain ⟨avr2, cvr2, rfl⟩ := H.accShape (k := 0) rfl
 refine ⟨_, Z, ?_⟩
 refine o_extract Z Z Z (o_extract Z Z Z (aG Z (aG Z (q3 (W_ret (rt2 results51 Z Z ?_))))))
 have H := H.del (k := 1) rfl
 have hd : Sp.FileLoad list ids = if Sp.l4Ids list ids then some (Sp.load list ids) else none := by (have hq := Sp.valid_iff.2 hV1; simp [Sp.FileLoad, hq])
 have H := H.forget hG (by simp)
 exact ⟨_, _, rfl, H, _, _, xs2, (by (rw [hd]; cases Sp.l4Ids list ids <;> rfl)), acc_1 rfl, chkI (G := fun _ => none) ((chkI hchk2)), hxl2, fun ys h => (by (rw [hd] at h; by_cases hq : Sp.l4Ids list ids = true; (· (rw [if_pos hq] at h); cases h; exact hxs2 hq); (· (rw [if_neg hq] at h); cases h))), fun h => hxn2 (by (rw [hd] at h; by_cases hq : Sp.l4Ids list ids = true; (· (rw [if_pos hq] at h); cases h); (· simpa using hq)))⟩
end Go.Proofs.Tst

namespace Go.Proofs.Tst
open Go Fw Tryz
theorem w_readTree_c (w0 : World) (G0 : PH) (hG : PSub G0 w0) (cd : List Value) (d : BDisk) (hd : diskE G0 d cd) (path : Bs) (hpath : path.length ≤ 16777216)  :
  Calls Tryz.prog 14 #[.agg cd.toArray, str path] w0 (RetN w0 G0 (fun v Bs => ∃ (uv : Value) (c : List Value) (xs : List Int), v = .tuple #[uv, .bool (Sp.readT d path).isSome] ∧ Bs = [acc 3 1 uv xs.length c] ∧ Chk intE 1 (fun _ => none) c xs ∧ xs.length ≤ 1000 ∧ (∀ ys, Sp.readT d path = some ys → xs = ys) ∧ (Sp.readT d path = none → xs = []))) := by
 obtain ⟨a1, m1, c1, a1', m1', c1', a1'', m1'', c1'', rfl, hr1, hr1', hr1''⟩ := hd; have hn_hr1 := hr1.len; have hx_hr1 : _ ≤ 1099511627776 := hr1.lim; have hn_hr1q := hr1'.len; have hx_hr1q : _ ≤ 1099511627776 := hr1'.lim; have hn_hr1qq := hr1''.len; have hx_hr1qq : _ ≤ 1099511627776 := hr1''.lim
 have H := Hp.init hG
 refine calls_of_W (l := [_, str path]) func14 Z ntmps14 Z (q2 (o_box H Z Z Z ?_)); intro b2 w2 hb2 H
 refine aG Z (aG Z (q1 (o_fieldAddr 1 runUnderlying27 Z sizeOf24 Z Z Z (o_load_B 0 H isAgg24 Z Z Z Z (mV Z (o_call call50 Z Z (i_TreeFindI_c _ _ H.sub _ _ hr1' _ hpath ) ?_))))))
 rintro _ w3 ⟨G3, _, g3, rfl, u3_0, rfl, hr3_0⟩
 have H := H.grow g3
 have hr1 := hr1.up g3.le
 obtain ⟨a4, m4, c4, rfl, hi4, hr4⟩ := hr3_0; have hy_hi4 : _ ≤ 16777216 := hi4; have hn_hr4 := hr4.len; have hx_hr4 : _ ≤ 1099511627776 := hr4.lim
 refine ⟨_, Z, ?_⟩
 refine mV Z (o_extract Z Z Z (o_extract Z Z Z (o_alloc H zeroValue37 Z Z ?_))); intro b5 w5 hb5 H
 refine o_store_B 0 H sizeOf37 Z Z Z Z Z Z Z Z ?_; intro w6 H
 refine aG Z (q3 (W_seq (q2 (mV Z (o_not Z Z (mV Z ?_))))))
 refine R_case (t := 17) Z ?_ ?_
 ·intro hc7
  try simp only [nrm] at hc7
  refine rP Z (rP Z (o_pick_t Z Z Z (q3 (W_true Z (q2 (o_buildSlice H underlying33 sizeOf3 (fun w => ⟨_, zeroValue3 w, Z⟩) Z Z Z Z Z Z Z ?_)))))); intro b8 w8 hb8 H
  have H := H.blkAcc 1 (k := 0) (n := 0) rfl rfl (by decide)
  refine aG Z (aG Z (q3 (W_ret (N_K_ret (rt2 results14 Z Z ?_)))))
  have H := H.del (k := 1) rfl
  have H := H.del (k := 1) rfl
  have hno : Sp.readT d path = none := (by first | exact Sp.readT_no1 (by simpa using hc7) | exact Sp.readT_no2 (by simpa using hc7))
  have H := H.forget hG (by simp)
  exact ⟨_, _, rfl, H, _, _, [], (by (rw [hno]; rfl)), rfl, chkI (G := fun _ => none) ((Chk.nil (E := intE) (sz := 1) (G := G3))), by simp, fun ys h => (by rw [hno] at h; cases h), fun _ => rfl⟩
 intro hc7'
 try simp only [nrm] at hc7'
 refine gR Z (o_fieldAddr 1 runUnderlying37 Z sizeOf4 Z Z Z (gR Z (o_load_B 0 H isAgg4 Z Z Z Z (o_pick_f Z Z Z (q3 ?_)))))
 refine W_cond Z ?_ ?_
 ·intro hc9
  try simp only [nrm] at hc9
  refine q2 (o_buildSlice H underlying33 sizeOf3 (fun w => ⟨_, zeroValue3 w, Z⟩) Z Z Z Z Z Z Z ?_); intro b10 w10 hb10 H
  have H := H.blkAcc 1 (k := 0) (n := 0) rfl rfl (by decide)
  refine aG Z (aG Z (q3 (W_ret (N_K_ret (rt2 results14 Z Z ?_)))))
  have H := H.del (k := 1) rfl
  have H := H.del (k := 1) rfl
  have hno : Sp.readT d path = none := (by first | exact Sp.readT_no1 (by simpa using hc9) | exact Sp.readT_no2 (by simpa using hc9))
  have H := H.forget hG (by simp)
  exact ⟨_, _, rfl, H, _, _, [], (by (rw [hno]; rfl)), rfl, chkI (G := fun _ => none) ((Chk.nil (E := intE) (sz := 1) (G := G3))), by simp, fun ys h => (by rw [hno] at h; cases h), fun _ => rfl⟩
 intro hc9'
 try simp only [nrm] at hc9'
 refine W_skip (N_K (q2 (o_fieldAddr 0 runUnderlying27 Z sizeOf23 Z Z Z (o_load_B 1 H isAgg23 Z Z Z Z (o_fieldAddr 2 runUnderlying37 Z sizeOf33 Z Z Z (o_load_B 0 H isAgg33 Z Z Z Z (o_call call51 Z Z (i_FileLoad_c _ _ H.sub _ _ hr1 _ _ hr4 ) ?_)))))))
 rintro _ w11 ⟨_, _, rfl, H11', ⟨u11, c11, xs11, rfl, rfl, hchk11, hxl11, hxs11, hxn11⟩⟩
 have H := H.readers (fp := []) (by simp) (PLe.refl _) H11'
 obtain ⟨avr11, cvr11, rfl⟩ := H.accShape (k := 0) rfl
 refine ⟨_, Z, ?_⟩
 refine o_extract Z Z Z (o_extract Z Z Z (aG Z (aG Z (q3 (W_ret (rt2 results14 Z Z ?_))))))
 have H := H.del (k := 1) rfl
 have H := H.del (k := 1) rfl
 have hd : Sp.readT d path = _ := Sp.readT_yes (by simpa using hc7') (by simpa using hc9')
 have H := H.forget hG (by simp)
 exact ⟨_, _, rfl, H, _, _, xs11, (by (rw [hd]; rfl)), acc_1 rfl, chkI (G := fun _ => none) ((chkI hchk11)), hxl11, fun ys h => hxs11 ys (by (rw [hd] at h; exact h)), fun h => hxn11 (by (rw [hd] at h; exact h))⟩
end Go.Proofs.Tst

namespace Go.Proofs.Tst
open Go Fw Tryz
theorem lHBack_c (w0 : World) (G0 : PH) (hG : PSub G0 w0) (vcode : Value) (code : List (UInt8)) (hcode : RdU G0 vcode code)  :
  Calls Tryz.prog 8 #[vcode] w0 (Rets w0 (.bool true)) := by
 obtain ⟨acode, kcode, rfl⟩ := hcode.shape
 have hlimcode : code.length ≤ 1099511627776 := hcode.lim
 have H := Hp.init hG
 refine calls_of_W (l := [.slice acode code.length kcode]) func8 Z ntmps8 Z (q2 (aG Z (q3 (W_seq (q2 (mV Z (o_len_slice underlying22 Z Z (o_gtr Z Z Z (q3 ?_)))))))))
 refine W_cond Z ?_ ?_
 ·intro hc1
  try simp only [nrm] at hc1
  refine q2 (aG Z (q3 (W_ret (N_K_ret (rt1 results8 Z ?_)))))
  exact H.rets Z
 intro hc1'
 try simp only [nrm] at hc1'
 refine W_skip (N_K (q2 (mV Z (o_call call26 Z Z (DrawHistoryBack_c _ _ H.sub _ _ hcode ) ?_))))
 rintro _ w2 ⟨G2, _, g2, rfl, ⟨cV, uV, uP0, uP1, rfl, hV, hP0, hP1⟩⟩
 have H := H.grow g2
 obtain ⟨a2, m2, c2, a2', m2', c2', a2'', m2'', c2'', rfl, hr2, hr2', hr2''⟩ := hV; have hn_hr2 := hr2.len; have hx_hr2 : _ ≤ 1099511627776 := hr2.lim; have hn_hr2q := hr2'.len; have hx_hr2q : _ ≤ 1099511627776 := hr2'.lim; have hn_hr2qq := hr2''.len; have hx_hr2qq : _ ≤ 1099511627776 := hr2''.lim
 refine ⟨_, Z, ?_⟩
 refine mV Z (o_extract Z Z Z (o_extract Z Z Z (o_extract Z Z Z (o_alloc H zeroValue27 Z Z ?_)))); intro b3 w3 hb3 H
 refine o_store_B 0 H sizeOf27 Z Z Z Z Z Z Z Z ?_; intro w4 H
 refine aG Z (aG Z (q1 (o_loadagg_B 0 H isAgg27 sizeOf27 Z Z Z Z Z (mV Z (mV Z (o_call call27 Z Z (i_HistoryBack_c _ _ H.sub _ uV ⟨_, _, _, _, _, _, _, _, _, Z, hr2, hr2', hr2''⟩ _ hP0 _ hP1 ) ?_))))))
 rintro _ w5 ⟨_, _, rfl, H5', ⟨u15, u25, u35, E15, E25, E35, rfl, rfl, ho15, ho25, ho35⟩⟩
 have H := H.readers (fp := []) (by simp) (PLe.refl _) H5'
 obtain ⟨x15, p15⟩ := ho15
 obtain ⟨a15, c15, rfl⟩ := OwnS.shape p15
 obtain ⟨x25, p25⟩ := ho25
 obtain ⟨a25, c25, rfl⟩ := OwnS.shape p25
 obtain ⟨x35, p35⟩ := ho35
 obtain ⟨a35, c35, rfl⟩ := OwnS.shape p35
 refine ⟨_, Z, ?_⟩
 refine mV Z (o_extract Z Z Z (o_extract Z Z Z (o_alloc H zeroValue27 Z Z ?_))); intro b6 w6 hb6 H
 refine o_store_B 0 H sizeOf27 Z Z Z Z Z Z Z Z ?_; intro w7 H
 refine aG Z (q1 (o_loadagg_B 4 H isAgg27 sizeOf27 Z Z Z Z Z (mV Z (mV Z (o_call call28 Z Z (HistoryBackP_c _ _ H.sub _ uV ⟨_, _, _, _, _, _, _, _, _, Z, hr2, hr2', hr2''⟩ _ hP0 _ hP1 ) ?_)))))
 rintro _ w8 ⟨G8, _, g8, rfl, u8_0, rfl, hr8_0⟩
 have H := H.grow g8
 have hr2 := hr2.up g8.le
 have hr2' := hr2'.up g8.le
 have hr2'' := hr2''.up g8.le
 obtain ⟨a9, m9, c9, a9', m9', c9', a9'', m9'', c9'', rfl, hr9, hr9', hr9''⟩ := hr8_0; have hn_hr9 := hr9.len; have hx_hr9 : _ ≤ 1099511627776 := hr9.lim; have hn_hr9q := hr9'.len; have hx_hr9q : _ ≤ 1099511627776 := hr9'.lim; have hn_hr9qq := hr9''.len; have hx_hr9qq : _ ≤ 1099511627776 := hr9''.lim
 refine ⟨_, Z, ?_⟩
 refine mV Z (o_extract Z Z Z (o_extract Z Z Z (o_alloc H zeroValue27 Z Z ?_))); intro b10 w10 hb10 H
 refine o_store_B 0 H sizeOf27 Z Z Z Z Z Z Z Z ?_; intro w11 H
 refine aG Z (q3 (W_seq (q2 (mV Z (mV Z (o_bneq_same underlying4 Z Z Z (mV Z (gR Z (o_loadagg_B 1 H isAgg27 sizeOf27 Z Z Z Z Z (gR Z (o_loadagg_B 0 H isAgg27 sizeOf27 Z Z Z Z Z (gR Z (o_call call13 Z Z (w_sameDisk_c _ _ (H.lendSubL [2, 3, 4]) _ ((Sp.HistoryBack uV uP0 uP1).getD ⟨[], [], []⟩) ⟨_, _, _, _, _, _, _, _, _, Z, (H.lendOHs (k := 2) (ks := [2, 3, 4]) Z Z ⟨_, p15⟩), (H.lendOIs (k := 3) (ks := [2, 3, 4]) Z Z ⟨_, p25⟩), (H.lendOSn (k := 4) (ks := [2, 3, 4]) Z Z ⟨_, p35⟩)⟩ _ ((Sp.HistoryBack uV uP0 uP1).getD ⟨[], [], []⟩) ⟨_, _, _, _, _, _, _, _, _, Z, (hr9.up (PPlus.le _ _ _)), (hr9'.up (PPlus.le _ _ _)), (hr9''.up (PPlus.le _ _ _))⟩ Z) ?_)))))))))))))
 rintro _ w12 ⟨rfl, ew12⟩; have H := H.step ew12; refine ⟨_, rfl, ?_⟩
 refine gR Z (o_not Z Z (o_pick_f Z Z Z (mV Z (gR Z (mV Z (gR Z (o_not Z Z (o_pick_f Z Z Z (q3 ?_)))))))))
 refine W_cond Z ?_ ?_
 ·intro hc13
  try simp only [nrm] at hc13
  refine q2 (mV Z (mV Z (o_beql_same underlying4 Z Z Z (mV Z (gR Z (o_loadagg_B 1 H isAgg27 sizeOf27 Z Z Z Z Z (gR Z (o_loadagg_B 0 H isAgg27 sizeOf27 Z Z Z Z Z (gR Z (o_call call13 Z Z (w_sameDisk_c _ _ (H.lendSubL [2, 3, 4]) _ ((Sp.HistoryBack uV uP0 uP1).getD ⟨[], [], []⟩) ⟨_, _, _, _, _, _, _, _, _, Z, (H.lendOHs (k := 2) (ks := [2, 3, 4]) Z Z ⟨_, p15⟩), (H.lendOIs (k := 3) (ks := [2, 3, 4]) Z Z ⟨_, p25⟩), (H.lendOSn (k := 4) (ks := [2, 3, 4]) Z Z ⟨_, p35⟩)⟩ _ ((Sp.HistoryBack uV uP0 uP1).getD ⟨[], [], []⟩) ⟨_, _, _, _, _, _, _, _, _, Z, (hr9.up (PPlus.le _ _ _)), (hr9'.up (PPlus.le _ _ _)), (hr9''.up (PPlus.le _ _ _))⟩ Z) ?_))))))))))
  rintro _ w14 ⟨rfl, ew14⟩; have H := H.step ew14; refine ⟨_, rfl, ?_⟩
  refine o_pick_t Z Z Z (aG Z (q3 (W_ret (N_K_ret (rt1 results8 Z ?_)))))
  exact H.rets Z
 intro hc13'
 try simp only [nrm] at hc13'
 obtain ⟨u2, hu2⟩ := Option.isSome_iff_exists.1 (show (Sp.HistoryBack uV uP0 uP1).isSome = true by simpa using hc13')
 have hW : (Sp.HistoryBack uV uP0 uP1).getD ⟨[], [], []⟩ = u2 := by (rw [hu2]; rfl)
 have hvv : Sp.DiskValid ((Sp.HistoryBack uV uP0 uP1).getD ⟨[], [], []⟩) = true := by (rw [hW]; exact Sp.hist_valid hu2)
 obtain ⟨bb, hb1, hb2⟩ : ∃ b, Sp.SnapRead uV uP0 uP1 = some b ∧ Sp.readT ((Sp.HistoryBack uV uP0 uP1).getD ⟨[], [], []⟩) uP1 = some b := by (rw [hW]; exact Sp.hist_read hu2)
 refine W_skip (N_K (q2 (o_loadagg_B 5 H isAgg27 sizeOf27 Z Z Z Z Z (mV Z (mV Z (o_call call15 Z Z (i_SnapRead_c _ _ H.sub _ uV ⟨_, _, _, _, _, _, _, _, _, Z, hr2, hr2', hr2''⟩ _ hP0 _ hP1 ) ?_))))))
 rintro _ w15 ⟨_, _, rfl, H15', ⟨u15, c15, xs15, rfl, rfl, hchk15, hxl15, hxs15, hxn15⟩⟩
 have H := H.readers (fp := []) (by simp) (PLe.refl _) H15'
 obtain ⟨avr15, cvr15, rfl⟩ := H.accShape (k := 0) rfl
 refine ⟨_, Z, ?_⟩
 refine mV Z (o_extract Z Z Z (o_extract Z Z Z (aG Z (aG Z (q1 (o_loadagg_B 2 H isAgg27 sizeOf27 Z Z Z Z Z (mV Z (o_call call14 Z Z (w_readTree_c _ _ (H.lendSubL [3, 4, 5]) _ ((Sp.HistoryBack uV uP0 uP1).getD ⟨[], [], []⟩) ⟨_, _, _, _, _, _, _, _, _, Z, (H.lendOHs (k := 3) (ks := [3, 4, 5]) Z Z ⟨_, p15⟩), (H.lendOIs (k := 4) (ks := [3, 4, 5]) Z Z ⟨_, p25⟩), (H.lendOSn (k := 5) (ks := [3, 4, 5]) Z Z ⟨_, p35⟩)⟩ _ hP1 ) ?_))))))))
 rintro _ w16 ⟨_, _, rfl, H16', ⟨u16, c16, xs16, rfl, rfl, hchk16, hxl16, hxs16, hxn16⟩⟩
 have H := H.readersL H16'
 obtain ⟨avr16, cvr16, rfl⟩ := H.accShape (k := 0) rfl
 refine ⟨_, Z, ?_⟩
 refine mV Z (o_extract Z Z Z (o_extract Z Z Z (aG Z (aG Z (q1 (o_loadagg_B 3 H isAgg27 sizeOf27 Z Z Z Z Z (o_call call30 Z Z (i_DiskValid_c _ _ (H.lendSubL [4, 5, 6]) _ ((Sp.HistoryBack uV uP0 uP1).getD ⟨[], [], []⟩) ⟨_, _, _, _, _, _, _, _, _, Z, (H.lendOHs (k := 4) (ks := [4, 5, 6]) Z Z ⟨_, p15⟩), (H.lendOIs (k := 5) (ks := [4, 5, 6]) Z Z ⟨_, p25⟩), (H.lendOSn (k := 6) (ks := [4, 5, 6]) Z Z ⟨_, p35⟩)⟩ ) ?_)))))))
 rintro _ w17 ⟨rfl, ew17⟩; have H := H.step ew17; refine ⟨_, rfl, ?_⟩
 refine mV Z ?_
 refine R_case (t := 73) Z ?_ ?_
 ·intro hc18
  try simp only [nrm] at hc18
  refine gR Z (mV Z (o_pick_t Z Z Z (mV Z ?_)))
  refine R_case (t := 76) Z ?_ ?_
  ·intro hc19
   try simp only [nrm] at hc19
   refine gR Z (mV Z (o_pick_t Z Z Z (mV Z ?_)))
   refine R_case (t := 79) Z ?_ ?_
   ·intro hc20
    try simp only [nrm] at hc20
    refine gR Z (mV Z (gR Z (mV Z (gR Z (o_call call16 Z Z (w_sameInts_c _ _ (H.lendSubL [0, 1]) _ _ (H.lendRdL (k := 1) (ks := [0, 1]) Z Z (chkI hchk15) aN aN) _ _ (H.lendRdL (k := 0) (ks := [0, 1]) Z Z (chkI hchk16) aN aN) ((hxs15 _ hb1).trans (hxs16 _ hb2).symm)) ?_)))))
    rintro _ w21 ⟨rfl, ew21⟩; have H := H.step ew21; refine ⟨_, rfl, ?_⟩
    refine o_pick_t Z Z Z (aG Z (q3 (W_ret (rt1 results8 Z ?_))))
    exact H.rets Z
   intro hc20'
   try simp only [nrm] at hc20'
   exact absurd (show False from by simp_all) id
  intro hc19'
  try simp only [nrm] at hc19'
  exact absurd (show False from by simp_all) id
 intro hc18'
 try simp only [nrm] at hc18'
 exact absurd (show False from by simp_all) id
end Go.Proofs.Tst

namespace Go.Proofs.Tst
open Go Fw Tryz
theorem lReadBack_c (w0 : World) (G0 : PH) (hG : PSub G0 w0) (vcode : Value) (code : List (UInt8)) (hcode : RdU G0 vcode code)  :
  Calls Tryz.prog 4 #[vcode] w0 (Rets w0 (.bool true)) := by
 obtain ⟨acode, kcode, rfl⟩ := hcode.shape
 have hlimcode : code.length ≤ 1099511627776 := hcode.lim
 have H := Hp.init hG
 refine calls_of_W (l := [.slice acode code.length kcode]) func4 Z ntmps4 Z (q2 (aG Z (q3 (W_seq (q2 (mV Z (o_len_slice underlying22 Z Z (o_gtr Z Z Z (q3 ?_)))))))))
 refine W_cond Z ?_ ?_
 ·intro hc1
  try simp only [nrm] at hc1
  refine q2 (aG Z (q3 (W_ret (N_K_ret (rt1 results4 Z ?_)))))
  exact H.rets Z
 intro hc1'
 try simp only [nrm] at hc1'
 refine W_skip (N_K (q2 (mV Z (o_call call17 Z Z (DrawSnapRead_c _ _ H.sub _ _ hcode ) ?_))))
 rintro _ w2 ⟨G2, _, g2, rfl, ⟨cV, uV, uP0, uP1, rfl, hV, hP0, hP1⟩⟩
 have H := H.grow g2
 obtain ⟨a2, m2, c2, a2', m2', c2', a2'', m2'', c2'', rfl, hr2, hr2', hr2''⟩ := hV; have hn_hr2 := hr2.len; have hx_hr2 : _ ≤ 1099511627776 := hr2.lim; have hn_hr2q := hr2'.len; have hx_hr2q : _ ≤ 1099511627776 := hr2'.lim; have hn_hr2qq := hr2''.len; have hx_hr2qq : _ ≤ 1099511627776 := hr2''.lim
 refine ⟨_, Z, ?_⟩
 refine mV Z (o_extract Z Z Z (o_extract Z Z Z (o_extract Z Z Z (o_alloc H zeroValue27 Z Z ?_)))); intro b3 w3 hb3 H
 refine o_store_B 0 H sizeOf27 Z Z Z Z Z Z Z Z ?_; intro w4 H
 refine aG Z (aG Z (q1 (o_loadagg_B 0 H isAgg27 sizeOf27 Z Z Z Z Z (mV Z (mV Z (o_call call15 Z Z (i_SnapRead_c _ _ H.sub _ uV ⟨_, _, _, _, _, _, _, _, _, Z, hr2, hr2', hr2''⟩ _ hP0 _ hP1 ) ?_))))))
 rintro _ w5 ⟨_, _, rfl, H5', ⟨u5, c5, xs5, rfl, rfl, hchk5, hxl5, hxs5, hxn5⟩⟩
 have H := H.readers (fp := []) (by simp) (PLe.refl _) H5'
 obtain ⟨avr5, cvr5, rfl⟩ := H.accShape (k := 0) rfl
 refine ⟨_, Z, ?_⟩
 refine mV Z (o_extract Z Z Z (o_extract Z Z Z (aG Z (aG Z (q1 (o_loadagg_B 1 H isAgg27 sizeOf27 Z Z Z Z Z (mV Z (mV Z (o_call call18 Z Z (SnapRead_c _ _ H.sub _ uV ⟨_, _, _, _, _, _, _, _, _, Z, hr2, hr2', hr2''⟩ _ hP0 _ hP1 ) ?_)))))))))
 rintro _ w6 ⟨G6, _, _, g6, rfl, ⟨u6_0, rfl, ⟨cs6, rfl, hchk6⟩⟩, hp6, hq6, hs6⟩
 have H := H.growO g6 hp6 hq6 hs6; obtain ⟨av6, cv6, rfl⟩ := H.accShape (k := 0) rfl
 have hr2 := hr2.up g6.le
 have hr2' := hr2'.up g6.le
 have hr2'' := hr2''.up g6.le
 refine ⟨_, Z, ?_⟩
 have hbl := Sp.snapread_len uV uP0 uP1
 refine mV Z (o_extract Z Z Z (o_extract Z Z Z (aG Z (aG Z (q3 (W_seq (q2 (mV Z (mV Z (o_bneq_same underlying4 Z Z Z (mV Z (gR Z (mV Z (gR Z (mV Z ?_)))))))))))))))
 refine gR Z (o_call call16 Z Z (w_sameInts_c _ _ (H.lendSubL [0, 1]) _ _ (H.lendRdL (k := 1) (ks := [0, 1]) Z Z (chkI hchk5) aN aN) _ _ (H.lendRdL (k := 0) (ks := [0, 1]) Z Z hchk6 aN aN) (by first | exact Sp.rd_got hxs5 hxn5 | exact ((hxs5 _ hrb).trans (hxs6 _ hbq).symm))) ?_)
 rintro _ w7 ⟨rfl, ew7⟩; have H := H.step ew7; refine ⟨_, rfl, ?_⟩
 refine gR Z (o_not Z Z (o_pick_f Z Z Z (mV Z (gR Z (mV Z (gR Z (o_not Z Z (o_pick_f Z Z Z (q3 ?_)))))))))
 refine W_cond Z ?_ ?_
 ·intro hc8
  try simp only [nrm] at hc8
  refine q2 (mV Z (mV Z (o_beql_same underlying4 Z Z Z (mV Z (gR Z (mV Z (gR Z (mV Z (gR Z (o_call call16 Z Z (w_sameInts_c _ _ (H.lendSubL [0, 1]) _ _ (H.lendRdL (k := 1) (ks := [0, 1]) Z Z (chkI hchk5) aN aN) _ _ (H.lendRdL (k := 0) (ks := [0, 1]) Z Z hchk6 aN aN) (by first | exact Sp.rd_got hxs5 hxn5 | exact ((hxs5 _ hrb).trans (hxs6 _ hbq).symm))) ?_))))))))))
  rintro _ w9 ⟨rfl, ew9⟩; have H := H.step ew9; refine ⟨_, rfl, ?_⟩
  refine o_pick_t Z Z Z (aG Z (q3 (W_ret (N_K_ret (rt1 results4 Z ?_)))))
  exact H.rets Z
 intro hc8'
 try simp only [nrm] at hc8'
 obtain ⟨bq, hbq⟩ := Option.isSome_iff_exists.1 (show (Sp.SnapRead uV uP0 uP1).isSome = true by simpa using hc8')
 obtain ⟨dq, huq, hrq⟩ := Sp.back_read hbq
 have hW : ((Sp.SnapBack uV uP0).getD ⟨[], [], []⟩) = dq := by (rw [huq]; rfl)
 have hbs : (Sp.SnapBack uV uP0).isSome = true := by (rw [huq]; rfl)
 have hrb : Sp.readT ((Sp.SnapBack uV uP0).getD ⟨[], [], []⟩) uP1 = some bq := by (rw [hW]; exact hrq)
 refine W_skip (N_K (q2 (o_loadagg_B 2 H isAgg27 sizeOf27 Z Z Z Z Z (mV Z (o_call call19 Z Z (i_SnapBack_c _ _ H.sub _ uV ⟨_, _, _, _, _, _, _, _, _, Z, hr2, hr2', hr2''⟩ _ hP0 ) ?_)))))
 rintro _ w10 ⟨_, _, rfl, H10', ⟨u110, u210, u310, E110, E210, E310, rfl, rfl, ho110, ho210, ho310⟩⟩
 have H := H.readers (fp := []) (by simp) (PLe.refl _) H10'
 obtain ⟨x110, p110⟩ := ho110
 obtain ⟨a110, c110, rfl⟩ := OwnS.shape p110
 obtain ⟨x210, p210⟩ := ho210
 obtain ⟨a210, c210, rfl⟩ := OwnS.shape p210
 obtain ⟨x310, p310⟩ := ho310
 obtain ⟨a310, c310, rfl⟩ := OwnS.shape p310
 refine ⟨_, Z, ?_⟩
 refine mV Z (o_extract Z Z Z (o_extract Z Z Z (o_alloc H zeroValue27 Z Z ?_))); intro b11 w11 hb11 H
 refine o_store_B 0 H sizeOf27 Z Z Z Z Z Z Z Z ?_; intro w12 H
 refine aG Z (q1 (o_loadagg_B 0 H isAgg27 sizeOf27 Z Z Z Z Z (mV Z (o_call call14 Z Z (w_readTree_c _ _ (H.lendSubL [1, 2, 3]) _ ((Sp.SnapBack uV uP0).getD ⟨[], [], []⟩) ⟨_, _, _, _, _, _, _, _, _, Z, (H.lendOHs (k := 1) (ks := [1, 2, 3]) Z Z ⟨_, p110⟩), (H.lendOIs (k := 2) (ks := [1, 2, 3]) Z Z ⟨_, p210⟩), (H.lendOSn (k := 3) (ks := [1, 2, 3]) Z Z ⟨_, p310⟩)⟩ _ hP1 ) ?_))))
 rintro _ w13 ⟨_, _, rfl, H13', ⟨u13, c13, xs13, rfl, rfl, hchk13, hxl13, hxs13, hxn13⟩⟩
 have H := H.readersL H13'
 obtain ⟨avr13, cvr13, rfl⟩ := H.accShape (k := 0) rfl
 refine ⟨_, Z, ?_⟩
 refine mV Z (o_extract Z Z Z (o_extract Z Z Z (aG Z (aG Z (q1 (mV Z (mV Z ?_)))))))
 refine R_case (t := 71) Z ?_ ?_
 ·intro hc14
  try simp only [nrm] at hc14
  refine gR Z (mV Z (o_pick_t Z Z Z (mV Z ?_)))
  refine R_case (t := 74) Z ?_ ?_
  ·intro hc15
   try simp only [nrm] at hc15
   refine gR Z (mV Z (gR Z (mV Z (gR Z (o_call call16 Z Z (w_sameInts_c _ _ (H.lendSubL [0, 6]) _ _ (H.lendRdL (k := 0) (ks := [0, 6]) Z Z (chkI hchk13) aN aN) _ _ (H.lendRdL (k := 6) (ks := [0, 6]) Z Z (chkI hchk5) aN aN) (by first | exact Sp.rd_got hxs13 hxn13 | exact ((hxs13 _ hrb).trans (hxs5 _ hbq).symm))) ?_)))))
   rintro _ w16 ⟨rfl, ew16⟩; have H := H.step ew16; refine ⟨_, rfl, ?_⟩
   refine o_pick_t Z Z Z (aG Z (q3 (W_ret (rt1 results4 Z ?_))))
   exact H.rets Z
  intro hc15'
  try simp only [nrm] at hc15'
  exact absurd (show False from by simp_all) id
 intro hc14'
 try simp only [nrm] at hc14'
 exact absurd (show False from by simp_all) id
end Go.Proofs.Tst

namespace Fw
open Go
section
variable {H : Type} {enc : TypeId × Value → H} {P : Program} {W : World}
structure Bulk (bk : DataW H → Nat) (bka : List (DataW H) → Nat) : Prop where
 slice : ∀ es sp, bk (.slice es sp) = bka es + bka sp + 1
 agg : ∀ ps, bk (.agg ps) = bka ps + 1
 str : ∀ b, bk (.lit (.string b)) = b.length + 1
 nil : bka [] = 0
 cons : ∀ d r, bka (d :: r) = bk d + bka r
 pos : ∀ d, 1 ≤ bk d
variable {bk : DataW H → Nat} {bka : List (DataW H) → Nat}
theorem Bulk.len (hb : Bulk bk bka) : ∀ l, l.length ≤ bka l
 | [] => by simp
 | d :: r => by
  have h1 := hb.len r
  have h2 := hb.pos d
  rw [hb.cons]
  simp; omega
theorem Bulk.mem (hb : Bulk bk bka) {d : DataW H} : ∀ {l : List (DataW H)}, d ∈ l → bk d ≤ bka l
 | [], h => by simp at h
 | e :: r, h => by
  rw [hb.cons]
  rcases List.mem_cons.1 h with rfl | h
  ·omega
  ·have := hb.mem h
   omega
theorem Bulk.memF (hb : Bulk bk bka) {l : List (DataW H × List MemPlace)} {i : Nat} (hi : i < l.length) : bk (l[i]).1 ≤ bka (l.map (fun x => x.1)) :=
 hb.mem (List.mem_map.2 ⟨l[i], List.getElem_mem hi, rfl⟩)
abbrev Reads (enc : TypeId × Value → H) (P : Program) (W : World) (n : Nat) (t : TypeId) (cs : List Value) : Option (DataW H × List MemPlace) := DataW.trod enc P W 0 (fun _ => true) true n t cs
def Elem (enc : TypeId × Value → H) (P : Program) (W : World) (bk : DataW H → Nat) (t : TypeId) (sz : Nat) {α : Type} (E : PH → α → List Value → Prop) : Prop :=
 ∀ n cs x, Reads enc P W n t cs = some x → bk x.1 ≤ 1048576 → ∃ a, cs.length = sz ∧ E (PAll W) a cs
theorem elem_u8 {t : TypeId} (ht : P.underlying t = some (.int .u8)) : Elem enc P W bk t 1 u8E := by
 intro n cs x h _
 obtain ⟨i, rfl, _, hw⟩ := DataW.trod_int ht h
 simp [Lit.wf, IntKind.min, IntKind.max, IntKind.signed, IntKind.bits] at hw
 refine ⟨UInt8.ofNat i.toNat, rfl, ?_⟩
 show [Value.int .u8 i] = [.int .u8 ((UInt8.ofNat i.toNat).toNat : Int)]
 congr 2
 rw [UInt8.toNat_ofNat']
 omega
theorem list_of {α : Type} {Q : Nat → α → Prop} : ∀ n, (∀ i, i < n → ∃ x, Q i x) → ∃ xs : List α, xs.length = n ∧ ∀ i x, xs[i]? = some x → Q i x
 | 0, _ => ⟨[], rfl, by simp⟩
 | n + 1, h => by
  obtain ⟨xs, h1, h2⟩ := list_of n (fun i hi => h i (by omega))
  obtain ⟨x, hx⟩ := h n (by omega)
  refine ⟨xs ++ [x], by simp [h1], fun i y hy => ?_⟩
  by_cases hi : i < n
  ·rw [List.getElem?_append_left (by omega)] at hy
   exact h2 i y hy
  ·rw [List.getElem?_append_right (by omega)] at hy
   have : i = n := by
    have := (List.getElem?_eq_some_iff.1 hy).1
    simp at this
    omega
   subst this
   simp [h1] at hy
   subst hy
   exact hx
theorem mapM_at {α β : Type} {f : α → Option β} : ∀ {l : List α} {r : List β}, l.mapM f = some r → ∀ (i : Nat) (x : α), l[i]? = some x → f x = r[i]?
 | [], r, h, i, x, hx => by simp at hx
 | y :: t, r, h, i, x, hx => by
  simp only [List.mapM_cons, Option.bind_eq_bind, Option.bind_eq_some_iff, Option.pure_def, Option.some.injEq] at h
  obtain ⟨z, h1, u, h2, rfl⟩ := h
  cases i with
  | zero => simp at hx; subst hx; simpa using h1
  | succ i => simp only [List.getElem?_cons_succ] at hx ⊢; exact mapM_at h2 i x hx
theorem pcell_of {b o : Nat} {v : Value} (h : W.cell? ⟨b, o, none⟩ = some v) : PCell (PAll W) b o v := by
 unfold World.cell? at h
 unfold PCell PAll
 split at h
 ·rename_i C e fz hb
  exact ⟨C, e, fz, hb, by simpa using h⟩
 ·cases h
theorem elem_slice {α : Type} {E : PH → α → List Value → Prop} (hb : Bulk bk bka) {t e : TypeId} {sz : Nat} (ht : P.underlying t = some (.slice e)) (hz : P.cellsOf e = sz) (hsz : 0 < sz) (hE : Elem enc P W bk e sz E) :
  ∀ n cs x, Reads enc P W n t cs = some x → bk x.1 ≤ 1048576 → ∃ v xs, cs = [v] ∧ RdS LIM E sz (PAll W) v xs := by
 intro n cs x h hx
 rcases DataW.trod_slice ht h with ⟨rfl, _⟩ | ⟨a, len, cap, elems, rest, m, _, rfl, rfl, _, h2, _, h4, h5, _, _⟩
 ·exact ⟨_, [], rfl, RdS.nil _ _ _⟩
 ·simp only [hb.slice] at hx
  rw [hz] at h5
  have hle := hb.len (elems.map (·.1))
  rw [List.length_map] at hle
  have hel : ∀ i, i < len → ∃ y : α, ∃ cs, cs.length = sz ∧ E (PAll W) y cs ∧ ∀ j v, cs[j]? = some v → W.cell? ((a.add (i * sz)).add j) = some v := by
   intro i hi
   have h6 := h5 i hi
   rw [List.getElem?_eq_getElem (by omega)] at h6
   obtain ⟨cs, k1, k2⟩ := Option.bind_eq_some_iff.1 h6
   obtain ⟨y, k3, k4⟩ := hE m cs _ k2 (Nat.le_trans (hb.memF (by omega)) (by omega))
   refine ⟨y, cs, k3, k4, fun j v hj => ?_⟩
   unfold World.cells? at k1
   split at k1
   ·have hjl := (List.getElem?_eq_some_iff.1 hj).1
    rw [← hj]
    exact mapM_at k1 j j (by rw [List.getElem?_range (by omega)])
   ·cases k1
  obtain ⟨xs, x1, x2⟩ := list_of len hel
  refine ⟨_, xs, rfl, some a, cap, by rw [x1], by omega, by simp only [LIM]; omega, ?_⟩
  by_cases h0 : len = 0
  ·exact .inl (List.eq_nil_of_length_eq_zero (by omega))
  ·right
   have hspot : a.spot = none := by
    obtain ⟨y, cs, y1, _, y2⟩ := hel 0 (by omega)
    have := World.cell?_spot (y2 0 cs[0] (by simp))
    simpa [Addr.add] using this
   obtain ⟨b, o, sp⟩ := a
   simp only at hspot
   subst hspot
   refine ⟨b, o, rfl, fun i y hy => ?_⟩
   obtain ⟨cs, c1, c2, c3⟩ := x2 i y hy
   refine ⟨cs, c1, c2, fun j v hj => pcell_of ?_⟩
   have := c3 j v hj
   rwa [Addr.add_lit, Addr.add_lit] at this
variable {ti ts tb tis : TypeId}
theorem same_of_ext {w w' : World} (h : Ext w w') {p : MemPlace} (hp : p.block < w.heap.size) : w.sameAt w' p := by
 have hb := h.block p.block hp
 cases p with
 | cell b off => simp only [World.sameAt, World.cell?]; simp only [MemPlace.block] at hb; rw [hb]
 | map b => simp only [World.sameAt]; simpa [MemPlace.block] using hb
end
end Fw
namespace Fw
open Go Go.ChangeShapes Go.WideShapes
section
variable {H : Type} {enc : TypeId × Value → H} {P : Program}
theorem trodAll_stays (hl : laidOutB P = true) {W W' : World} {sp' : Nat → Bool} : ∀ {ts : List TypeId} {vs : List Value} {ds : List (DataW H)} {ps : List MemPlace}, (∀ t, t ∈ ts → P.readableRec t = true ∧ t < P.types.size) →
  DataW.TrodAll enc P W 0 (fun _ => true) true ts vs ds ps → (∀ p ∈ ps, W.sameAt W' p) → (∀ p ∈ ps, sp' p.block = true) → DataW.TrodAll enc P W' 0 sp' true ts vs ds ps
 | [], _, _, _, _, h, _, _ => by
  obtain ⟨rfl, rfl, rfl⟩ := trodAll_nil h
  rfl
 | t :: ts, _, _, _, hr, h, hs, hq => by
  obtain ⟨v, vs1, d, ds1, a, b, rfl, rfl, rfl, h1, h2⟩ := trodAll_cons h
  exact ⟨a, b, WideElems.Trod_stays hl (hr t (by simp)).1 (hr t (by simp)).2 h1 (fun p hp => hs p (by simp [hp])) (fun p hp => hq p (by simp [hp])),
   trodAll_stays hl (fun t ht => hr t (by simp [ht])) h2 (fun p hp => hs p (by simp [hp])) (fun p hp => hq p (by simp [hp])), rfl⟩
theorem kept_of_ext {W W' : World} (h : Ext W W') (may : MemPlace → Prop) : W.keptBut W' may := by
 refine ⟨h.os, h.output, fun i hi => ?_⟩
 rw [h.block i hi]
 cases W.heap[i]? with
 | none => simp
 | some o => cases o <;> simp
theorem law_post {f : Func} {s : ChangeSpec} {apart fresh handsOn again : Bool} {W W' : World} {args : Array Value} {ds gs : List (DataW H)} {before : List MemPlace} (hl : laidOutB P = true) (hr : ∀ t, t ∈ f.params.toList → P.readableRec t = true ∧ t < P.types.size)
  (hv : s.vars = []) (hW : DataW.Whole enc P f.params.toList s.vars apart W args.toList ds gs before) (hx : Ext W W') (hfr : (s.fn H (ds ++ gs)).results = [.lit (.bool true)]) (hfa : (s.fn H (ds ++ gs)).args = ds) (hfv : (s.fn H (ds ++ gs)).vars = [])
  (hres : ∀ (b : Nat) (sp : Nat → Bool) (hd : Bool), DataW.TrodAll enc P W' b sp hd f.resultTypes.toList ((Value.bool true).resultList f.resultTypes.size) [.lit (.bool true)] [])
  (hok : ∀ (j : Nat) (t : TypeId) (r : Value), f.resultTypes[j]? = some t → ((Value.bool true).resultList f.resultTypes.size)[j]? = some r → Value.okWide P W' .any 0 t r) :
  s.post enc P f apart fresh handsOn again W args (.bool true) W' := by
 have hW' := hW
 obtain ⟨p, q, hA, hV, rfl, hz, hn⟩ := hW
 rw [hv] at hV
 have hgs : gs = [] ∧ q = [] := by
  cases gs with
  | nil => exact ⟨rfl, hV⟩
  | cons d r => exact hV.elim
 obtain ⟨rfl, rfl⟩ := hgs
 rw [List.append_nil] at hW' hz hn
 have hlt : ∀ m ∈ p, m.block < W.heap.size := fun m hm => hW'.lt m hm
 have hold : ∀ m ∈ p, (fun b => decide (b < W.heap.size)) m.block = true := fun m hm => by simpa using hlt m hm
 have hargs : ∀ sp : Nat → Bool, (∀ m ∈ p, sp m.block = true) → DataW.TrodAll enc P W' 0 sp true f.params.toList args.toList (s.fn H (ds ++ [])).args p := fun sp hsp => by
  rw [hfa]
  exact trodAll_stays hl hr hA (fun m hm => same_of_ext hx (hlt m hm)) hsp
 have hvars : ∀ sp : Nat → Bool, DataW.TrodVars enc P W' sp s.vars (s.fn H (ds ++ [])).vars [] := fun sp => by rw [hv, hfv]; rfl
 have hres' : ∀ (b : Nat) (sp : Nat → Bool) (hd : Bool), DataW.TrodAll enc P W' b sp hd f.resultTypes.toList ((Value.bool true).resultList f.resultTypes.size) (s.fn H (ds ++ [])).results [] := fun b sp hd => by rw [hfr]; exact hres b sp hd
 refine ⟨ds, [], p, [], p, [], hW', hres' _ _ _, hargs _ hold, hvars _, World.keptBut_mono (fun m hm => ⟨hm, Or.inr ?_⟩) (kept_of_ext hx (· ∈ p)), fun _ => ?_⟩
 ·simpa using hm
 ·refine ⟨hok, _, _, ([] ++ p) ++ [], ⟨[] ++ p, [], trodAll_append (hargs _ (fun _ _ => rfl)) (hres' _ _ _), hvars _, rfl, ?_, ?_⟩, ?_⟩
  ·intro b off hp
   have hp' : MemPlace.cell b off ∈ p := by simpa using hp
   have h1 := hz b off hp'
   have h2 := hx.block b (hlt _ hp')
   simp only [World.frozen?] at h1 ⊢
   rw [h2]
   exact h1
  ·intro ha
   simpa using hn ha
  ·intro m hm _
   simpa using hm
end
end Fw
namespace Fw
open Go Go.WideShapes
theorem slice_of {P : Program} {W : World} {b : Nat} {t e : TypeId} {v u : Value} (ht : P.underlying t = some (.slice e)) (h : Value.okWide P W .any b t v) (hu : v.cells.toList = [u]) : v = u := by
 unfold Value.okWide at h
 rw [ht] at h
 unfold Cell.okWide at h
 rw [ht] at h
 cases v <;> simp_all [Value.cells, Cell.ok]
end Fw
