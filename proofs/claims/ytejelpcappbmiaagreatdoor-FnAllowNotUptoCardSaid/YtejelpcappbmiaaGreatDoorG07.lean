/- Part 7 of the proof: the program logic and plain functions. Conditions: none. -/
import Derived.Test.YtejelpcappbmiaaGreatDoorProg
import Derived.Test.YtejelpcappbmiaaGreatDoorG02
import Derived.Test.YtejelpcappbmiaaGreatDoorG03
import Derived.Test.YtejelpcappbmiaaGreatDoorG04
import Derived.Test.YtejelpcappbmiaaGreatDoorG05
import Derived.Test.YtejelpcappbmiaaGreatDoorG06
import Derived.WideKeyArgs
import Derived.ChangeArms
import Derived.DataElems
import Derived.ChangeSame
import Derived.Test.YtejelpcappbmiaaGreatDoorRows
import Derived.Stop.LaidErr
import Derived.LaidLaws
import Derived.ChangeVars
import Derived.OpenVars
set_option linter.all false
set_option maxRecDepth 100000
set_option maxHeartbeats 1000000
namespace Go.Proofs.Tst
open Go Fw Tryz
theorem l91Turn_c (w0 : World) (G0 : PH) (hG : PSub G0 w0) (rb : Nat) (ab : Option Addr) (mb kb : Nat) (bs : List UInt8) (p : Nat) (hbs : RdU G0 (.slice ab mb kb) bs) (hrb : w0.heap[rb]? = some (cl [.slice ab mb kb, .int .i64 (p : Int)] 192)) (hrn : G0 rb = none) (hp : p ≤ 100000000) (cd : List Value) (d : BDisk) (hd : diskE G0 d cd)  :
  Calls Tryz.prog 139 #[.pointer (some ⟨rb, 0, none⟩), .agg cd.toArray] w0 (RetM w0 G0 [rb] (fun G val Bs => ∃ (p' : Nat) (v1 v2 v3 : Value) (st : List BHeld) (tr : List BItem) (sn : List BSnap) (b : Bool), p' ≤ p + 200 ∧ val = .tuple #[.agg #[v1, v2, v3], .bool b] ∧ RdH G v1 st ∧ RdItems G v2 tr ∧ RdSn G v3 sn ∧ Bs = [blk rb (cl [.slice ab mb kb, .int .i64 (p' : Int)] 192)])) := by
 have hlimbs : bs.length ≤ 1099511627776 := hbs.lim; obtain rfl : mb = bs.length := hbs.len
 obtain ⟨_, _, _, _, _, _, _, _, _, rfl, hr1, hr1', hr1'', ⟨_, _⟩, ⟨_, _⟩, _, _⟩ := ox hd
 have H := Hp.initM hG hrb hrn
 refine calls_of_W (l := [.pointer (some ⟨rb, 0, none⟩), _]) func139 Z ntmps139 Z (q2 (o_box H Z Z Z ?_)); intro _ _ _ H
 refine xal H Z ?_; intro _ _ _ H
 refine aG Z (q3 (W_seq (q2 (mV Z (xc Z2 (pick_c _ _ H.sub _ _ _ _ _ _ hbs (H.blkIs (k := 2) Z).1 (H.blkIs (k := 2) Z).2 oM _ oO ) ?_)))))
 rintro _ _ ⟨G4, _, _, rfl, H4', ⟨_, _, _, rfl, _, rfl⟩⟩
 have hbs := hbs.up H4'.le
 have hr1 := hr1.up H4'.le
 have hr1' := hr1'.up H4'.le
 have hr1'' := hr1''.up H4'.le
 have H := H.borrow (k := 2) rfl H4'
 refine ⟨_, Z, ?_⟩
 refine q3 (W_block (W_seq (q2 (pe 2 Z (q3 ?_)))))
 refine W_cond Z ?_ ?_
 ·intro hc5
  try simp only [nrm] at hc5
  refine W_skip (N_K ?_)
  refine W_cond Z ?_ ?_
  ·intro hc6
   try simp only [nrm] at hc6
   refine W_seq (W_drawK [2] 9 H kR Z ?_); intro _ H; have hd7 := PLe.refl G4
   refine RD_t 0 Z kR Z (fun _ hK => v_loadagg_B 0 hK isAgg27 sizeOf27 Z Z Z Z) (dE 1 Z2 (r1 2 Z (xbs H Z7 ?_))); intro _ _ _ H
   refine q4 H hd7 (r1 3 Z ?_)
   have H := H.blkAcc 1 (k := 0) (n := 3) rfl rfl (by decide)
   have hchk10 := ((((Chk.nil (E := strE) (sz := 1) (G := G4)).snoc (show strE _ ([115] : Fw.Bs) [str [115]] from ⟨rfl, by decide⟩) rfl).snoc (show strE _ ([116] : Fw.Bs) [str [116]] from ⟨rfl, by decide⟩) rfl).snoc (show strE _ ([117] : Fw.Bs) [str [117]] from ⟨rfl, by decide⟩) rfl)
   obtain ⟨_, H, hsg11, hsr11⟩ := H.shutM (k := 0) (j := 0) rfl rfl hchk10 aN aN
   have hbs := hbs.up hsg11
   have hr1 := hr1.up hsg11
   have hr1' := hr1'.up hsg11
   have hr1'' := hr1''.up hsg11
   have hd7 := hd7.trans hsg11
   refine xc Z2 (of_c _ _ H.sub _ _ _ _ _ _ hbs (H.blkIs (k := 0) Z).1 (H.blkIs (k := 0) Z).2 oM _ _ hsr11 (by first | decide | (simp; done) | (simp; omega))) ?_
   rintro _ _ ⟨_, _, _, rfl, H9', ⟨_, _, _, rfl, hxs9, rfl⟩⟩
   have hr1 := hr1.up H9'.le
   have hr1' := hr1'.up H9'.le
   have hr1'' := hr1''.up H9'.le
   have hd7 := hd7.trans H9'.le
   have H := H.borrow (k := 0) rfl H9'
   refine ⟨_, Z, ?_⟩
   refine q4 H hd7 (r1 4 Z (xc Z2 (SnapTakeP_c _ _ H.sub _ d ⟨_, _, _, _, _, _, _, _, _, Z, hr1, hr1', hr1''⟩ _ hxs9 ) ?_))
   rintro _ _ ⟨_, _, g12, rfl, _, rfl, hr12_0⟩
   have H := H.grow g12
   have hd7 := hd7.trans g12.le
   obtain ⟨_, _, _, _, _, _, _, _, _, rfl, hr13, hr13', hr13'', ⟨_, _⟩, ⟨_, _⟩, _, _⟩ := ox hr12_0
   refine ⟨_, Z, ?_⟩
   refine q4 H hd7 (dE 5 Z2 (dE 6 Z2 (r1 7 Z (xst 1 H Z8 ?_)))); intro _ H
   refine q4 H hd7 (dE 8 Z2 (rz (N_K (W_ret (N_B_ret (N_K_ret (ret_gen (rs := [.cell 4 27, .tmp 5]) (vs := [_, _]) results139 ⟨⟨_, Z, load_blk 1 H isAgg27 sizeOf27 Z Z Z⟩, Z, trivial⟩ ?_)))))))
   have H := H.dl 1
   have H := H.dl 1
   exact H.retM ⟨_, _, _, _, _, _, _, _, oM, Z, hr13, hr13', hr13'', Z⟩
  intro hc6'
  try simp only [nrm] at hc6'
  refine q2 (pe 2 Z (q3 ?_))
  refine W_cond Z ?_ ?_
  ·intro hc15
   try simp only [nrm] at hc15
   refine W_seq (W_drawK [2] 9 H kR Z ?_); intro _ H; have hd16 := PLe.refl G4
   refine RD_t 0 Z kR Z (fun _ hK => v_loadagg_B 0 hK isAgg27 sizeOf27 Z Z Z Z) (dE 1 Z2 (r1 2 Z (xbs H Z7 ?_))); intro _ _ _ H
   refine q4 H hd16 (r1 3 Z ?_)
   have H := H.blkAcc 1 (k := 0) (n := 2) rfl rfl (by decide)
   have hchk19 := (((Chk.nil (E := strE) (sz := 1) (G := G4)).snoc (show strE _ ([115] : Fw.Bs) [str [115]] from ⟨rfl, by decide⟩) rfl).snoc (show strE _ ([116] : Fw.Bs) [str [116]] from ⟨rfl, by decide⟩) rfl)
   obtain ⟨_, H, hsg20, hsr20⟩ := H.shutM (k := 0) (j := 0) rfl rfl hchk19 aN aN
   have hbs := hbs.up hsg20
   have hr1 := hr1.up hsg20
   have hr1' := hr1'.up hsg20
   have hr1'' := hr1''.up hsg20
   have hd16 := hd16.trans hsg20
   refine xc Z2 (of_c _ _ H.sub _ _ _ _ _ _ hbs (H.blkIs (k := 0) Z).1 (H.blkIs (k := 0) Z).2 oM _ _ hsr20 (by first | decide | (simp; done) | (simp; omega))) ?_
   rintro _ _ ⟨_, _, _, rfl, H18', ⟨_, _, _, rfl, hxs18, rfl⟩⟩
   have hr1 := hr1.up H18'.le
   have hr1' := hr1'.up H18'.le
   have hr1'' := hr1''.up H18'.le
   have hd16 := hd16.trans H18'.le
   have H := H.borrow (k := 0) rfl H18'
   refine ⟨_, Z, ?_⟩
   refine q4 H hd16 (r1 4 Z (xc Z2 (SnapBackP_c _ _ H.sub _ d ⟨_, _, _, _, _, _, _, _, _, Z, hr1, hr1', hr1''⟩ _ hxs18 ) ?_))
   rintro _ _ ⟨_, _, g21, rfl, _, rfl, hr21_0⟩
   have H := H.grow g21
   have hd16 := hd16.trans g21.le
   obtain ⟨_, _, _, _, _, _, _, _, _, rfl, hr22, hr22', hr22'', ⟨_, _⟩, ⟨_, _⟩, _, _⟩ := ox hr21_0
   refine ⟨_, Z, ?_⟩
   refine q4 H hd16 (dE 5 Z2 (dE 6 Z2 (r1 7 Z (xst 1 H Z8 ?_)))); intro _ H
   refine q4 H hd16 (dE 8 Z2 (rz (N_K (W_ret (N_B_ret (N_K_ret (ret_gen (rs := [.cell 4 27, .tmp 5]) (vs := [_, _]) results139 ⟨⟨_, Z, load_blk 1 H isAgg27 sizeOf27 Z Z Z⟩, Z, trivial⟩ ?_)))))))
   have H := H.dl 1
   have H := H.dl 1
   exact H.retM ⟨_, _, _, _, _, _, _, _, oM, Z, hr22, hr22', hr22'', Z⟩
  intro hc15'
  try simp only [nrm] at hc15'
  refine W_skip (N_B (N_K (q2 (mV Z (xbs H Z7 ?_))))); intro _ _ _ H
  have H := H.blkAcc 1 (k := 0) (n := 5) rfl rfl (by decide)
  have hchk26 := ((((((Chk.nil (E := strE) (sz := 1) (G := G4)).snoc (show strE _ ([99] : Fw.Bs) [str [99]] from ⟨rfl, by decide⟩) rfl).snoc (show strE _ ([97, 47, 121] : Fw.Bs) [str [97, 47, 121]] from ⟨rfl, by decide⟩) rfl).snoc (show strE _ ([98, 47, 120] : Fw.Bs) [str [98, 47, 120]] from ⟨rfl, by decide⟩) rfl).snoc (show strE _ ([97, 47, 120, 47, 112] : Fw.Bs) [str [97, 47, 120, 47, 112]] from ⟨rfl, by decide⟩) rfl).snoc (show strE _ ([100] : Fw.Bs) [str [100]] from ⟨rfl, by decide⟩) rfl)
  obtain ⟨_, H, hsg27, hsr27⟩ := H.shutM (k := 0) (j := 0) rfl rfl hchk26 aN aN
  have hbs := hbs.up hsg27
  have hr1 := hr1.up hsg27
  have hr1' := hr1'.up hsg27
  have hr1'' := hr1''.up hsg27
  refine xc Z2 (of_c _ _ H.sub _ _ _ _ _ _ hbs (H.blkIs (k := 0) Z).1 (H.blkIs (k := 0) Z).2 oM _ _ hsr27 (by first | decide | (simp; done) | (simp; omega))) ?_
  rintro _ _ ⟨G25, _, _, rfl, H25', ⟨_, _, _, rfl, hxs25, rfl⟩⟩
  have hbs := hbs.up H25'.le
  have hr1 := hr1.up H25'.le
  have hr1' := hr1'.up H25'.le
  have hr1'' := hr1''.up H25'.le
  have H := H.borrow (k := 0) rfl H25'
  refine ⟨_, Z, ?_⟩
  refine aG Z (q3 (W_seq (W_drawK [2] 9 H kR Z ?_))); intro _ H; have hd28 := PLe.refl G25
  refine RD_t 0 Z kR Z (fun _ hK => v_loadagg_B 0 hK isAgg27 sizeOf27 Z Z Z Z) (dE 1 Z2 (dE 2 Z2 (r1 3 Z (xc Z2 (l91File_c _ _ H.sub _ _ _ _ _ _ hbs (H.blkIs (k := 0) Z).1 (H.blkIs (k := 0) Z).2 oM ) ?_))))
  rintro _ _ ⟨_, _, _, rfl, H29', ⟨_, _, _, _, _, rfl, hchk29, _, rfl⟩⟩
  have hr1 := hr1.up H29'.le
  have hr1' := hr1'.up H29'.le
  have hr1'' := hr1''.up H29'.le
  have hd28 := hd28.trans H29'.le
  have H := H.borrow (k := 0) rfl H29'
  obtain ⟨_, _, rfl⟩ := H.accShape (k := 0) rfl
  refine ⟨_, Z, ?_⟩
  refine q4 H hd28 (r1 4 Z ?_)
  obtain ⟨_, H, hsg31, hsr31⟩ := H.shutM (k := 0) (j := 0) rfl rfl hchk29 aN aN
  have hr1 := hr1.up hsg31
  have hr1' := hr1'.up hsg31
  have hr1'' := hr1''.up hsg31
  have hd28 := hd28.trans hsg31
  refine xc Z2 (DiskWriteP_c _ _ H.sub _ d ⟨_, _, _, _, _, _, _, _, _, Z, hr1, hr1', hr1''⟩ _ hxs25 _ _ hsr31 ) ?_
  rintro _ _ ⟨_, _, g30, rfl, _, rfl, hr30_0⟩
  have H := H.grow g30
  have hd28 := hd28.trans g30.le
  obtain ⟨_, _, _, _, _, _, _, _, _, rfl, hr32, hr32', hr32'', ⟨_, _⟩, ⟨_, _⟩, _, _⟩ := ox hr30_0
  refine ⟨_, Z, ?_⟩
  refine q4 H hd28 (dE 5 Z2 (dE 6 Z2 (r1 7 Z (xst 1 H Z8 ?_)))); intro _ H
  refine q4 H hd28 (dE 8 Z2 (rz (N_K (W_ret (ret_gen (rs := [.cell 4 27, .tmp 5]) (vs := [_, _]) results139 ⟨⟨_, Z, load_blk 1 H isAgg27 sizeOf27 Z Z Z⟩, Z, trivial⟩ ?_)))))
  have H := H.dl 1
  have H := H.dl 1
  exact H.retM ⟨_, _, _, _, _, _, _, _, oM, Z, hr32, hr32', hr32'', Z⟩
 intro hc5'
 try simp only [nrm] at hc5'
 refine q2 (pe 2 Z (q3 ?_))
 refine W_cond Z ?_ ?_
 ·intro hc34
  try simp only [nrm] at hc34
  refine W_skip (N_K ?_)
  refine W_cond Z ?_ ?_
  ·intro hc35
   try simp only [nrm] at hc35
   refine W_seq (W_drawK [2] 9 H kR Z ?_); intro _ H; have hd36 := PLe.refl G4
   refine RD_t 0 Z kR Z (fun _ hK => v_loadagg_B 0 hK isAgg27 sizeOf27 Z Z Z Z) (dE 1 Z2 (r1 2 Z (xbs H Z7 ?_))); intro _ _ _ H
   refine q4 H hd36 (r1 3 Z ?_)
   have H := H.blkAcc 1 (k := 0) (n := 3) rfl rfl (by decide)
   have hchk39 := ((((Chk.nil (E := strE) (sz := 1) (G := G4)).snoc (show strE _ ([115] : Fw.Bs) [str [115]] from ⟨rfl, by decide⟩) rfl).snoc (show strE _ ([116] : Fw.Bs) [str [116]] from ⟨rfl, by decide⟩) rfl).snoc (show strE _ ([117] : Fw.Bs) [str [117]] from ⟨rfl, by decide⟩) rfl)
   obtain ⟨_, H, hsg40, hsr40⟩ := H.shutM (k := 0) (j := 0) rfl rfl hchk39 aN aN
   have hbs := hbs.up hsg40
   have hr1 := hr1.up hsg40
   have hr1' := hr1'.up hsg40
   have hr1'' := hr1''.up hsg40
   have hd36 := hd36.trans hsg40
   refine xc Z2 (of_c _ _ H.sub _ _ _ _ _ _ hbs (H.blkIs (k := 0) Z).1 (H.blkIs (k := 0) Z).2 oM _ _ hsr40 (by first | decide | (simp; done) | (simp; omega))) ?_
   rintro _ _ ⟨_, _, _, rfl, H38', ⟨_, _, _, rfl, hxs38, rfl⟩⟩
   have hr1 := hr1.up H38'.le
   have hr1' := hr1'.up H38'.le
   have hr1'' := hr1''.up H38'.le
   have hd36 := hd36.trans H38'.le
   have H := H.borrow (k := 0) rfl H38'
   refine ⟨_, Z, ?_⟩
   refine q4 H hd36 (r1 4 Z (xc Z2 (SnapTakeP_c _ _ H.sub _ d ⟨_, _, _, _, _, _, _, _, _, Z, hr1, hr1', hr1''⟩ _ hxs38 ) ?_))
   rintro _ _ ⟨_, _, g41, rfl, _, rfl, hr41_0⟩
   have H := H.grow g41
   have hd36 := hd36.trans g41.le
   obtain ⟨_, _, _, _, _, _, _, _, _, rfl, hr42, hr42', hr42'', ⟨_, _⟩, ⟨_, _⟩, _, _⟩ := ox hr41_0
   refine ⟨_, Z, ?_⟩
   refine q4 H hd36 (dE 5 Z2 (dE 6 Z2 (r1 7 Z (xst 1 H Z8 ?_)))); intro _ H
   refine q4 H hd36 (dE 8 Z2 (rz (N_K (W_ret (N_B_ret (N_K_ret (ret_gen (rs := [.cell 4 27, .tmp 5]) (vs := [_, _]) results139 ⟨⟨_, Z, load_blk 1 H isAgg27 sizeOf27 Z Z Z⟩, Z, trivial⟩ ?_)))))))
   have H := H.dl 1
   have H := H.dl 1
   exact H.retM ⟨_, _, _, _, _, _, _, _, oM, Z, hr42, hr42', hr42'', Z⟩
  intro hc35'
  try simp only [nrm] at hc35'
  refine q2 (pe 2 Z (q3 ?_))
  refine W_cond Z ?_ ?_
  ·intro hc44
   try simp only [nrm] at hc44
   refine W_seq (W_drawK [2] 9 H kR Z ?_); intro _ H; have hd45 := PLe.refl G4
   refine RD_t 0 Z kR Z (fun _ hK => v_loadagg_B 0 hK isAgg27 sizeOf27 Z Z Z Z) (dE 1 Z2 (r1 2 Z (xbs H Z7 ?_))); intro _ _ _ H
   refine q4 H hd45 (r1 3 Z ?_)
   have H := H.blkAcc 1 (k := 0) (n := 2) rfl rfl (by decide)
   have hchk48 := (((Chk.nil (E := strE) (sz := 1) (G := G4)).snoc (show strE _ ([115] : Fw.Bs) [str [115]] from ⟨rfl, by decide⟩) rfl).snoc (show strE _ ([116] : Fw.Bs) [str [116]] from ⟨rfl, by decide⟩) rfl)
   obtain ⟨_, H, hsg49, hsr49⟩ := H.shutM (k := 0) (j := 0) rfl rfl hchk48 aN aN
   have hbs := hbs.up hsg49
   have hr1 := hr1.up hsg49
   have hr1' := hr1'.up hsg49
   have hr1'' := hr1''.up hsg49
   have hd45 := hd45.trans hsg49
   refine xc Z2 (of_c _ _ H.sub _ _ _ _ _ _ hbs (H.blkIs (k := 0) Z).1 (H.blkIs (k := 0) Z).2 oM _ _ hsr49 (by first | decide | (simp; done) | (simp; omega))) ?_
   rintro _ _ ⟨_, _, _, rfl, H47', ⟨_, _, _, rfl, hxs47, rfl⟩⟩
   have hr1 := hr1.up H47'.le
   have hr1' := hr1'.up H47'.le
   have hr1'' := hr1''.up H47'.le
   have hd45 := hd45.trans H47'.le
   have H := H.borrow (k := 0) rfl H47'
   refine ⟨_, Z, ?_⟩
   refine q4 H hd45 (r1 4 Z (xc Z2 (SnapBackP_c _ _ H.sub _ d ⟨_, _, _, _, _, _, _, _, _, Z, hr1, hr1', hr1''⟩ _ hxs47 ) ?_))
   rintro _ _ ⟨_, _, g50, rfl, _, rfl, hr50_0⟩
   have H := H.grow g50
   have hd45 := hd45.trans g50.le
   obtain ⟨_, _, _, _, _, _, _, _, _, rfl, hr51, hr51', hr51'', ⟨_, _⟩, ⟨_, _⟩, _, _⟩ := ox hr50_0
   refine ⟨_, Z, ?_⟩
   refine q4 H hd45 (dE 5 Z2 (dE 6 Z2 (r1 7 Z (xst 1 H Z8 ?_)))); intro _ H
   refine q4 H hd45 (dE 8 Z2 (rz (N_K (W_ret (N_B_ret (N_K_ret (ret_gen (rs := [.cell 4 27, .tmp 5]) (vs := [_, _]) results139 ⟨⟨_, Z, load_blk 1 H isAgg27 sizeOf27 Z Z Z⟩, Z, trivial⟩ ?_)))))))
   have H := H.dl 1
   have H := H.dl 1
   exact H.retM ⟨_, _, _, _, _, _, _, _, oM, Z, hr51, hr51', hr51'', Z⟩
  intro hc44'
  try simp only [nrm] at hc44'
  refine W_skip (N_B (N_K (q2 (mV Z (xbs H Z7 ?_))))); intro _ _ _ H
  have H := H.blkAcc 1 (k := 0) (n := 5) rfl rfl (by decide)
  have hchk55 := ((((((Chk.nil (E := strE) (sz := 1) (G := G4)).snoc (show strE _ ([99] : Fw.Bs) [str [99]] from ⟨rfl, by decide⟩) rfl).snoc (show strE _ ([97, 47, 121] : Fw.Bs) [str [97, 47, 121]] from ⟨rfl, by decide⟩) rfl).snoc (show strE _ ([98, 47, 120] : Fw.Bs) [str [98, 47, 120]] from ⟨rfl, by decide⟩) rfl).snoc (show strE _ ([97, 47, 120, 47, 112] : Fw.Bs) [str [97, 47, 120, 47, 112]] from ⟨rfl, by decide⟩) rfl).snoc (show strE _ ([100] : Fw.Bs) [str [100]] from ⟨rfl, by decide⟩) rfl)
  obtain ⟨_, H, hsg56, hsr56⟩ := H.shutM (k := 0) (j := 0) rfl rfl hchk55 aN aN
  have hbs := hbs.up hsg56
  have hr1 := hr1.up hsg56
  have hr1' := hr1'.up hsg56
  have hr1'' := hr1''.up hsg56
  refine xc Z2 (of_c _ _ H.sub _ _ _ _ _ _ hbs (H.blkIs (k := 0) Z).1 (H.blkIs (k := 0) Z).2 oM _ _ hsr56 (by first | decide | (simp; done) | (simp; omega))) ?_
  rintro _ _ ⟨G54, _, _, rfl, H54', ⟨_, _, _, rfl, hxs54, rfl⟩⟩
  have hbs := hbs.up H54'.le
  have hr1 := hr1.up H54'.le
  have hr1' := hr1'.up H54'.le
  have hr1'' := hr1''.up H54'.le
  have H := H.borrow (k := 0) rfl H54'
  refine ⟨_, Z, ?_⟩
  refine aG Z (q3 (W_seq (W_drawK [2] 9 H kR Z ?_))); intro _ H; have hd57 := PLe.refl G54
  refine RD_t 0 Z kR Z (fun _ hK => v_loadagg_B 0 hK isAgg27 sizeOf27 Z Z Z Z) (dE 1 Z2 (dE 2 Z2 (r1 3 Z (xc Z2 (l91File_c _ _ H.sub _ _ _ _ _ _ hbs (H.blkIs (k := 0) Z).1 (H.blkIs (k := 0) Z).2 oM ) ?_))))
  rintro _ _ ⟨_, _, _, rfl, H58', ⟨_, _, _, _, _, rfl, hchk58, _, rfl⟩⟩
  have hr1 := hr1.up H58'.le
  have hr1' := hr1'.up H58'.le
  have hr1'' := hr1''.up H58'.le
  have hd57 := hd57.trans H58'.le
  have H := H.borrow (k := 0) rfl H58'
  obtain ⟨_, _, rfl⟩ := H.accShape (k := 0) rfl
  refine ⟨_, Z, ?_⟩
  refine q4 H hd57 (r1 4 Z ?_)
  obtain ⟨_, H, hsg60, hsr60⟩ := H.shutM (k := 0) (j := 0) rfl rfl hchk58 aN aN
  have hr1 := hr1.up hsg60
  have hr1' := hr1'.up hsg60
  have hr1'' := hr1''.up hsg60
  have hd57 := hd57.trans hsg60
  refine xc Z2 (DiskWriteP_c _ _ H.sub _ d ⟨_, _, _, _, _, _, _, _, _, Z, hr1, hr1', hr1''⟩ _ hxs54 _ _ hsr60 ) ?_
  rintro _ _ ⟨_, _, g59, rfl, _, rfl, hr59_0⟩
  have H := H.grow g59
  have hd57 := hd57.trans g59.le
  obtain ⟨_, _, _, _, _, _, _, _, _, rfl, hr61, hr61', hr61'', ⟨_, _⟩, ⟨_, _⟩, _, _⟩ := ox hr59_0
  refine ⟨_, Z, ?_⟩
  refine q4 H hd57 (dE 5 Z2 (dE 6 Z2 (r1 7 Z (xst 1 H Z8 ?_)))); intro _ H
  refine q4 H hd57 (dE 8 Z2 (rz (N_K (W_ret (ret_gen (rs := [.cell 4 27, .tmp 5]) (vs := [_, _]) results139 ⟨⟨_, Z, load_blk 1 H isAgg27 sizeOf27 Z Z Z⟩, Z, trivial⟩ ?_)))))
  have H := H.dl 1
  have H := H.dl 1
  exact H.retM ⟨_, _, _, _, _, _, _, _, oM, Z, hr61, hr61', hr61'', Z⟩
 intro hc34'
 try simp only [nrm] at hc34'
 refine W_region (pe 2 Z (q3 ?_))
 refine W_cond Z ?_ ?_
 ·intro hc63
  try simp only [nrm] at hc63
  refine W_seq (W_drawK [2] 9 H kR Z ?_); intro _ H; have hd64 := PLe.refl G4
  refine RD_t 0 Z kR Z (fun _ hK => v_loadagg_B 0 hK isAgg27 sizeOf27 Z Z Z Z) (dE 1 Z2 (r1 2 Z (xbs H Z7 ?_))); intro _ _ _ H
  refine q4 H hd64 (r1 3 Z ?_)
  have H := H.blkAcc 1 (k := 0) (n := 3) rfl rfl (by decide)
  have hchk67 := ((((Chk.nil (E := strE) (sz := 1) (G := G4)).snoc (show strE _ ([115] : Fw.Bs) [str [115]] from ⟨rfl, by decide⟩) rfl).snoc (show strE _ ([116] : Fw.Bs) [str [116]] from ⟨rfl, by decide⟩) rfl).snoc (show strE _ ([117] : Fw.Bs) [str [117]] from ⟨rfl, by decide⟩) rfl)
  obtain ⟨_, H, hsg68, hsr68⟩ := H.shutM (k := 0) (j := 0) rfl rfl hchk67 aN aN
  have hbs := hbs.up hsg68
  have hr1 := hr1.up hsg68
  have hr1' := hr1'.up hsg68
  have hr1'' := hr1''.up hsg68
  have hd64 := hd64.trans hsg68
  refine xc Z2 (of_c _ _ H.sub _ _ _ _ _ _ hbs (H.blkIs (k := 0) Z).1 (H.blkIs (k := 0) Z).2 oM _ _ hsr68 (by first | decide | (simp; done) | (simp; omega))) ?_
  rintro _ _ ⟨_, _, _, rfl, H66', ⟨_, _, _, rfl, hxs66, rfl⟩⟩
  have hr1 := hr1.up H66'.le
  have hr1' := hr1'.up H66'.le
  have hr1'' := hr1''.up H66'.le
  have hd64 := hd64.trans H66'.le
  have H := H.borrow (k := 0) rfl H66'
  refine ⟨_, Z, ?_⟩
  refine q4 H hd64 (r1 4 Z (xc Z2 (SnapTakeP_c _ _ H.sub _ d ⟨_, _, _, _, _, _, _, _, _, Z, hr1, hr1', hr1''⟩ _ hxs66 ) ?_))
  rintro _ _ ⟨_, _, g69, rfl, _, rfl, hr69_0⟩
  have H := H.grow g69
  have hd64 := hd64.trans g69.le
  obtain ⟨_, _, _, _, _, _, _, _, _, rfl, hr70, hr70', hr70'', ⟨_, _⟩, ⟨_, _⟩, _, _⟩ := ox hr69_0
  refine ⟨_, Z, ?_⟩
  refine q4 H hd64 (dE 5 Z2 (dE 6 Z2 (r1 7 Z (xst 1 H Z8 ?_)))); intro _ H
  refine q4 H hd64 (dE 8 Z2 (rz (N_K (W_ret (N_B_ret (N_K_ret (ret_gen (rs := [.cell 4 27, .tmp 5]) (vs := [_, _]) results139 ⟨⟨_, Z, load_blk 1 H isAgg27 sizeOf27 Z Z Z⟩, Z, trivial⟩ ?_)))))))
  have H := H.dl 1
  have H := H.dl 1
  exact H.retM ⟨_, _, _, _, _, _, _, _, oM, Z, hr70, hr70', hr70'', Z⟩
 intro hc63'
 try simp only [nrm] at hc63'
 refine q2 (pe 2 Z (q3 ?_))
 refine W_cond Z ?_ ?_
 ·intro hc72
  try simp only [nrm] at hc72
  refine W_seq (W_drawK [2] 9 H kR Z ?_); intro _ H; have hd73 := PLe.refl G4
  refine RD_t 0 Z kR Z (fun _ hK => v_loadagg_B 0 hK isAgg27 sizeOf27 Z Z Z Z) (dE 1 Z2 (r1 2 Z (xbs H Z7 ?_))); intro _ _ _ H
  refine q4 H hd73 (r1 3 Z ?_)
  have H := H.blkAcc 1 (k := 0) (n := 2) rfl rfl (by decide)
  have hchk76 := (((Chk.nil (E := strE) (sz := 1) (G := G4)).snoc (show strE _ ([115] : Fw.Bs) [str [115]] from ⟨rfl, by decide⟩) rfl).snoc (show strE _ ([116] : Fw.Bs) [str [116]] from ⟨rfl, by decide⟩) rfl)
  obtain ⟨_, H, hsg77, hsr77⟩ := H.shutM (k := 0) (j := 0) rfl rfl hchk76 aN aN
  have hbs := hbs.up hsg77
  have hr1 := hr1.up hsg77
  have hr1' := hr1'.up hsg77
  have hr1'' := hr1''.up hsg77
  have hd73 := hd73.trans hsg77
  refine xc Z2 (of_c _ _ H.sub _ _ _ _ _ _ hbs (H.blkIs (k := 0) Z).1 (H.blkIs (k := 0) Z).2 oM _ _ hsr77 (by first | decide | (simp; done) | (simp; omega))) ?_
  rintro _ _ ⟨_, _, _, rfl, H75', ⟨_, _, _, rfl, hxs75, rfl⟩⟩
  have hr1 := hr1.up H75'.le
  have hr1' := hr1'.up H75'.le
  have hr1'' := hr1''.up H75'.le
  have hd73 := hd73.trans H75'.le
  have H := H.borrow (k := 0) rfl H75'
  refine ⟨_, Z, ?_⟩
  refine q4 H hd73 (r1 4 Z (xc Z2 (SnapBackP_c _ _ H.sub _ d ⟨_, _, _, _, _, _, _, _, _, Z, hr1, hr1', hr1''⟩ _ hxs75 ) ?_))
  rintro _ _ ⟨_, _, g78, rfl, _, rfl, hr78_0⟩
  have H := H.grow g78
  have hd73 := hd73.trans g78.le
  obtain ⟨_, _, _, _, _, _, _, _, _, rfl, hr79, hr79', hr79'', ⟨_, _⟩, ⟨_, _⟩, _, _⟩ := ox hr78_0
  refine ⟨_, Z, ?_⟩
  refine q4 H hd73 (dE 5 Z2 (dE 6 Z2 (r1 7 Z (xst 1 H Z8 ?_)))); intro _ H
  refine q4 H hd73 (dE 8 Z2 (rz (N_K (W_ret (N_B_ret (N_K_ret (ret_gen (rs := [.cell 4 27, .tmp 5]) (vs := [_, _]) results139 ⟨⟨_, Z, load_blk 1 H isAgg27 sizeOf27 Z Z Z⟩, Z, trivial⟩ ?_)))))))
  have H := H.dl 1
  have H := H.dl 1
  exact H.retM ⟨_, _, _, _, _, _, _, _, oM, Z, hr79, hr79', hr79'', Z⟩
 intro hc72'
 try simp only [nrm] at hc72'
 refine W_skip (N_B (N_K (q2 (mV Z (xbs H Z7 ?_))))); intro _ _ _ H
 have H := H.blkAcc 1 (k := 0) (n := 5) rfl rfl (by decide)
 have hchk83 := ((((((Chk.nil (E := strE) (sz := 1) (G := G4)).snoc (show strE _ ([99] : Fw.Bs) [str [99]] from ⟨rfl, by decide⟩) rfl).snoc (show strE _ ([97, 47, 121] : Fw.Bs) [str [97, 47, 121]] from ⟨rfl, by decide⟩) rfl).snoc (show strE _ ([98, 47, 120] : Fw.Bs) [str [98, 47, 120]] from ⟨rfl, by decide⟩) rfl).snoc (show strE _ ([97, 47, 120, 47, 112] : Fw.Bs) [str [97, 47, 120, 47, 112]] from ⟨rfl, by decide⟩) rfl).snoc (show strE _ ([100] : Fw.Bs) [str [100]] from ⟨rfl, by decide⟩) rfl)
 obtain ⟨_, H, hsg84, hsr84⟩ := H.shutM (k := 0) (j := 0) rfl rfl hchk83 aN aN
 have hbs := hbs.up hsg84
 have hr1 := hr1.up hsg84
 have hr1' := hr1'.up hsg84
 have hr1'' := hr1''.up hsg84
 refine xc Z2 (of_c _ _ H.sub _ _ _ _ _ _ hbs (H.blkIs (k := 0) Z).1 (H.blkIs (k := 0) Z).2 oM _ _ hsr84 (by first | decide | (simp; done) | (simp; omega))) ?_
 rintro _ _ ⟨G82, _, _, rfl, H82', ⟨_, _, _, rfl, hxs82, rfl⟩⟩
 have hbs := hbs.up H82'.le
 have hr1 := hr1.up H82'.le
 have hr1' := hr1'.up H82'.le
 have hr1'' := hr1''.up H82'.le
 have H := H.borrow (k := 0) rfl H82'
 refine ⟨_, Z, ?_⟩
 refine aG Z (q3 (W_seq (W_drawK [2] 9 H kR Z ?_))); intro _ H; have hd85 := PLe.refl G82
 refine RD_t 0 Z kR Z (fun _ hK => v_loadagg_B 0 hK isAgg27 sizeOf27 Z Z Z Z) (dE 1 Z2 (dE 2 Z2 (r1 3 Z (xc Z2 (l91File_c _ _ H.sub _ _ _ _ _ _ hbs (H.blkIs (k := 0) Z).1 (H.blkIs (k := 0) Z).2 oM ) ?_))))
 rintro _ _ ⟨_, _, _, rfl, H86', ⟨_, _, _, _, _, rfl, hchk86, _, rfl⟩⟩
 have hr1 := hr1.up H86'.le
 have hr1' := hr1'.up H86'.le
 have hr1'' := hr1''.up H86'.le
 have hd85 := hd85.trans H86'.le
 have H := H.borrow (k := 0) rfl H86'
 obtain ⟨_, _, rfl⟩ := H.accShape (k := 0) rfl
 refine ⟨_, Z, ?_⟩
 refine q4 H hd85 (r1 4 Z ?_)
 obtain ⟨_, H, hsg88, hsr88⟩ := H.shutM (k := 0) (j := 0) rfl rfl hchk86 aN aN
 have hr1 := hr1.up hsg88
 have hr1' := hr1'.up hsg88
 have hr1'' := hr1''.up hsg88
 have hd85 := hd85.trans hsg88
 refine xc Z2 (DiskWriteP_c _ _ H.sub _ d ⟨_, _, _, _, _, _, _, _, _, Z, hr1, hr1', hr1''⟩ _ hxs82 _ _ hsr88 ) ?_
 rintro _ _ ⟨_, _, g87, rfl, _, rfl, hr87_0⟩
 have H := H.grow g87
 have hd85 := hd85.trans g87.le
 obtain ⟨_, _, _, _, _, _, _, _, _, rfl, hr89, hr89', hr89'', ⟨_, _⟩, ⟨_, _⟩, _, _⟩ := ox hr87_0
 refine ⟨_, Z, ?_⟩
 refine q4 H hd85 (dE 5 Z2 (dE 6 Z2 (r1 7 Z (xst 1 H Z8 ?_)))); intro _ H
 refine q4 H hd85 (dE 8 Z2 (rz (N_K (W_ret (ret_gen (rs := [.cell 4 27, .tmp 5]) (vs := [_, _]) results139 ⟨⟨_, Z, load_blk 1 H isAgg27 sizeOf27 Z Z Z⟩, Z, trivial⟩ ?_)))))
 have H := H.dl 1
 have H := H.dl 1
 exact H.retM ⟨_, _, _, _, _, _, _, _, oM, Z, hr89, hr89', hr89'', Z⟩
end Go.Proofs.Tst

namespace Go.Proofs.Tst
open Go Fw Tryz
theorem l91Disk_c (w0 : World) (G0 : PH) (hG : PSub G0 w0) (rb : Nat) (ab : Option Addr) (mb kb : Nat) (bs : List UInt8) (p : Nat) (hbs : RdU G0 (.slice ab mb kb) bs) (hrb : w0.heap[rb]? = some (cl [.slice ab mb kb, .int .i64 (p : Int)] 192)) (hrn : G0 rb = none) (hp : p ≤ 5000000)  :
  Calls Tryz.prog 56 #[.pointer (some ⟨rb, 0, none⟩)] w0 (RetM w0 G0 [rb] (fun G val Bs => ∃ (p' : Nat) (v1 v2 v3 : Value) (st : List BHeld) (tr : List BItem) (sn : List BSnap), p' ≤ p + 5000 ∧ val = .agg #[v1, v2, v3] ∧ RdH G v1 st ∧ RdItems G v2 tr ∧ RdSn G v3 sn ∧ Bs = [blk rb (cl [.slice ab mb kb, .int .i64 (p' : Int)] 192)])) := by
 have hlimbs : bs.length ≤ 1099511627776 := hbs.lim; obtain rfl : mb = bs.length := hbs.len
 have H := Hp.initM hG hrb hrn
 refine calls_of_W (l := [.pointer (some ⟨rb, 0, none⟩)]) func56 Z ntmps56 Z (q2 (xal H Z ?_)); intro b1 _ _ H
 refine q1 (mV Z (xc Z2 (l91Volume_c _ _ H.sub _ _ _ _ _ _ hbs (H.blkIs (k := 1) Z).1 (H.blkIs (k := 1) Z).2 oM ) ?_))
 rintro _ _ ⟨_, _, _, rfl, H2', ⟨_, _, _, st2, tr2, _, rfl, hst2, htr2, rfl⟩⟩
 have hbs := hbs.up H2'.le
 have H := H.borrow (k := 1) rfl H2'
 obtain ⟨_, _, rfl⟩ := hst2.shape; obtain ⟨_, _, rfl⟩ := htr2.shape; have hx_hst2 : _ ≤ 1099511627776 := hst2.lim; have hx_htr2 : _ ≤ 1099511627776 := htr2.lim
 refine ⟨_, Z, ?_⟩
 refine xal H Z ?_; intro b3 _ _ H
 refine xst 0 H Z8 ?_; intro _ H
 refine q1 (fA 0 Z (lB 0 H Z3 (fA 1 Z (lB 0 H Z3 (o_build bf27 Z Z Z (xal H Z ?_)))))); intro b5 _ _ H
 refine xst 0 H Z8 ?_; intro _ H
 refine q1 (mV Z (xc Z2 (pick_c _ _ H.sub _ _ _ _ _ _ hbs (H.blkIs (k := 2) Z).1 (H.blkIs (k := 2) Z).2 oM _ oO ) ?_))
 rintro _ _ ⟨G7, _, _, rfl, H7', ⟨p7, _, _, rfl, _, rfl⟩⟩
 have hbs := hbs.up H7'.le
 have hst2 := hst2.up H7'.le
 have htr2 := htr2.up H7'.le
 have H := H.borrow (k := 2) rfl H7'
 refine ⟨_, Z, ?_⟩
 refine aG Z (q3 (W_seq (q2 (aG Z (q3 (W_block ?_))))))
 obtain ⟨ln8, hln8, H⟩ := H.name (k := 2) rfl
 obtain ⟨ln9, hln9, H⟩ := H.name (k := 3) rfl
 refine W_lp (hf := (Sub.cons (t := 0) Z (Sub.cons (t := 2) Z (Sub.cons (t := 4) Z (Sub.cons (t := 5) Z Sub.nil))))) (J := fun M w m => ∃ (k : Nat) (va vb vc : Value) (st : List BHeld) (tr : List BItem) (sn : List BSnap) (pp : Nat) (G : PH), M = [(6, .int .i64 (k : Int))] ∧ PLe G7 G ∧ Hp w0 G0 [rb] w G [blk rb (cl [.slice ab bs.length kb, .int .i64 (pp : Int)] 192), blk b5 (cl [va, vb, vc] 27), blk b3 (cl ln8 194), blk b1 (cl ln9 27)] ∧ (k ≤ 7 ∧ pp ≤ p + 3100 + 201 * k ∧ RdH G va st ∧ RdItems G vb tr ∧ RdSn G vc sn) ∧ m = (8 - k)) (h0 := ⟨0, _, _, _, st2, tr2, [], p7, _, Z, PLe.refl _, H, ?inv, Z⟩) (round := ?round)
 case inv => exact ⟨by omega, by omega, hst2, htr2, (RdS.nil _ _ _)⟩
 case round =>
  rintro _ _ _ ⟨k, va, vb, vc, st, tr, sn, pp, _, rfl, hle10, H, hinv10, rfl⟩
  subst hln8
  subst hln9
  have hbs := hbs.up hle10
  obtain ⟨_, _, hst, htr, hsn⟩ := hinv10; obtain ⟨_, _, rfl⟩ := hst.shape; have hlhst : _ ≤ 1099511627776 := hst.lim; obtain ⟨_, _, rfl⟩ := htr.shape; have hlhtr : _ ≤ 1099511627776 := htr.lim; obtain ⟨_, _, rfl⟩ := hsn.shape; have hlhsn : _ ≤ 1099511627776 := hsn.lim
  refine W_seq (q2 (pe 3 Z (q3 ?_)))
  refine W_cond Z ?_ ?_
  ·intro hc11
   try simp only [nrm] at hc11
   refine W_skip (N_K (W_seq (W_block (q2 (mV Z (lA 1 3 H Z4 (xc Z2 (l91Turn_c _ _ H.sub _ _ _ _ _ _ hbs (H.blkIs (k := 0) Z).1 (H.blkIs (k := 0) Z).2 oM _ ⟨st, tr, sn⟩ ⟨_, _, _, _, _, _, _, _, _, Z, hst, htr, hsn⟩ ) ?_)))))))
   rintro _ _ ⟨_, _, _, rfl, H12', ⟨p12, _, _, _, st12, tr12, sn12, _, _, rfl, hst12, htr12, hsn12, rfl⟩⟩
   have hst := hst.up H12'.le
   have htr := htr.up H12'.le
   have hsn := hsn.up H12'.le
   have hle10 := hle10.trans H12'.le
   have H := H.borrow (k := 0) rfl H12'
   obtain ⟨_, _, rfl⟩ := hst12.shape; have hx_hst12 : _ ≤ 1099511627776 := hst12.lim; obtain ⟨_, _, rfl⟩ := htr12.shape; have hx_htr12 : _ ≤ 1099511627776 := htr12.lim; obtain ⟨_, _, rfl⟩ := hsn12.shape; have hx_hsn12 : _ ≤ 1099511627776 := hsn12.lim
   refine ⟨_, Z, ?_⟩
   refine pe 3 Z (xal H Z ?_); intro _ _ _ H
   refine xst 0 H Z8 ?_; intro _ H
   refine aG Z (q1 (mV Z (q3 ?_)))
   refine W_cond Z ?_ ?_
   ·intro hc15
    try simp only [nrm] at hc15
    refine W_region (lA 0 3 H Z4 (xst 2 H Z8 ?_)); intro _ H
    refine R_nil (N_B (N_K (W_region (mV Z (aD Z2 (aG Z (R_nil ?_)))))))
    have H := H.dl 0
    refine N_lp (hJ := ⟨k + 1, _, _, _, st12, tr12, sn12, p12, _, Z, hle10, H, ?inv, Z⟩) (hm := ?hm)
    case hm => omega
    case inv => exact ⟨by omega, by omega, hst12, htr12, hsn12⟩
   intro hc15'
   try simp only [nrm] at hc15'
   refine W_skip (N_B (N_K (W_region (mV Z (aD Z2 (aG Z (R_nil ?_)))))))
   have H := H.dl 0
   refine N_lp (hJ := ⟨k + 1, _, _, _, st, tr, sn, p12, _, Z, hle10, H, ?inv, Z⟩) (hm := ?hm)
   case hm => omega
   case inv => exact ⟨by omega, by omega, hst, htr, hsn⟩
  intro hc11'
  try simp only [nrm] at hc11'
  refine W_exit (N_K_exit (N_LP_exit (N_B_same (N_K (q2 (lA 1 3 H Z4 (xst 3 H Z8 ?_))))))); intro _ H
  refine q3 (W_ret (ret_gen (rs := [.cell 2 27]) (vs := [_]) results56 ⟨⟨_, Z, load_blk 3 H isAgg27 sizeOf27 Z Z Z⟩, trivial⟩ ?_))
  have H := H.dl 1
  have H := H.dl 1
  have H := H.dl 1
  exact H.retM ⟨_, _, _, _, _, _, _, oM, Z, hst, htr, hsn, Z⟩
end Go.Proofs.Tst

namespace Go.Proofs.Tst
open Go Fw Tryz
end Go.Proofs.Tst

namespace Go.Proofs.Tst
open Go Fw Tryz
end Go.Proofs.Tst

namespace Go.Proofs.Tst
open Go Fw Tryz
end Go.Proofs.Tst

namespace Go.Proofs.Tst
open Go Fw Tryz
end Go.Proofs.Tst

namespace Go.Proofs.Tst
open Go Fw Tryz
end Go.Proofs.Tst

namespace Go.Proofs.Tst
open Go Fw Tryz
end Go.Proofs.Tst

namespace Go.Proofs.Tst
open Go Fw Tryz
end Go.Proofs.Tst

namespace Go.Proofs.Tst
open Go Fw Tryz
end Go.Proofs.Tst

namespace Go.Proofs.Tst
open Go Fw Tryz
end Go.Proofs.Tst

namespace Go.Proofs.Tst
open Go Fw Tryz
end Go.Proofs.Tst

namespace Go.Proofs.Tst
open Go Fw Tryz
end Go.Proofs.Tst

namespace Go.Proofs.Tst
open Go Fw Tryz
end Go.Proofs.Tst

namespace Go.Proofs.Tst
open Go Fw Tryz
end Go.Proofs.Tst

namespace Go.Proofs.Tst
open Go Fw Tryz
end Go.Proofs.Tst

namespace Go.Proofs.Tst
open Go Fw Tryz
end Go.Proofs.Tst

namespace Go.Proofs.Tst
open Go Fw Tryz
end Go.Proofs.Tst

namespace Go.Proofs.Tst
open Go Fw Tryz
theorem l4Load_c (w0 : World) (G0 : PH) (hG : PSub G0 w0) (vlist : Value) (list : List (BHeld)) (hlist : RdH G0 vlist list) (vids : Value) (ids : List (Int)) (hids : RdI G0 vids ids) (hl4 : Sp.l4Ids list ids = true) (hSv : Sp.StoreValid list = true) :
  Calls Tryz.prog 162 #[vlist, vids] w0 (RetO w0 G0 (AccOf intE 1 3 (Sp.load list ids))) := by
 obtain ⟨alist, klist, rfl⟩ := hlist.shape
 have hlimlist : list.length ≤ 1099511627776 := hlist.lim
 obtain ⟨aids, kids, rfl⟩ := hids.shape
 have hlimids : ids.length ≤ 1099511627776 := hids.lim
 have H := Hp.init hG
 have hil := Sp.ids_le hl4
 refine calls_of_W (l := [.slice alist list.length klist, .slice aids ids.length kids]) func162 Z ntmps162 Z (q2 (aG Z (q1 (xbs H Z7 ?_)))); intro _ _ _ H
 have H := H.blkAcc 1 (k := 0) (n := 0) rfl rfl (by decide)
 refine aG Z (q3 (W_seq (q2 (aG Z (q3 (W_block ?_))))))
 refine W_lp (hf := (Sub.cons (t := 0) Z (Sub.cons (t := 1) Z (Sub.cons (t := 4) Z Sub.nil)))) (J := fun M w m => ∃ (v : Value) (n : Nat) (cs : List Value) (xs : List (Int)) (k : Nat) (G : PH), M = [(6, .int .i64 (k : Int)), (5, v)] ∧ PLe G0 G ∧ Hp w0 G0 [] w G [acc 3 1 v n cs] ∧ (Chk intE 1 G cs xs ∧ n = xs.length ∧ k ≤ ids.length ∧ xs.length ≤ 8 * k ∧ xs = Sp.load list (ids.take k)) ∧ m = (ids.length - k)) (h0 := ⟨_, _, _, [], 0, _, Z, PLe.refl _, H, ?inv, Z⟩) (round := ?round)
 case inv => exact ⟨(Chk.nil (E := intE) (sz := 1) (G := G0)),  by first | rfl | simp | (simp; omega) | omega, (by exact ⟨by omega, by simp, by simp [Sp.load]⟩)⟩
 case round =>
  rintro _ _ _ ⟨v, n, cs, xs, k, _, rfl, hle2, H, hinv2, rfl⟩
  have hlist := hlist.up hle2
  have hids := hids.up hle2
  obtain ⟨hchk2_0, _, hinv2⟩ := hinv2
  obtain ⟨_, _, rfl⟩ := H.accShape (k := 0) rfl
  obtain ⟨_, _, hxs⟩ := hinv2
  refine W_seq (q2 (pe 2 Z (lN Z (pe 1 Z (q3 ?_)))))
  refine W_cond Z ?_ ?_
  ·intro hc3
   try simp only [nrm] at hc3
   refine W_skip (N_K (W_seq (W_block (W_region (pe 5 Z (iP k hids Z3 Z ?_)))))); intro _ _ z4 _ hz4 hE4 hrow4
   obtain ⟨rfl, _⟩ := hE4
   obtain ⟨j, hj1, _, hj3⟩ := Sp.ids_at hSv hl4 hz4
   refine lP H hrow4 0 Z2 (xr H Z2 (l3At_c _ _ H.sub _ _ hlist _ ) ?_); intro _ H
   refine iP j hlist Z3 hj1 ?_; intro _ _ z6 _ hz6 hE6 hrow6
   obtain ⟨_, _, _, rfl, _, hr6, _, _, _⟩ := ox hE6
   have hze : z6 = Fw.getH list z4 := Option.some.inj (hz6.symm.trans hj3)
   have hzl := Sp.get_len (Sp.valid_iff.1 hSv) z4
   (rw [← hze] at hzl)
   refine fA 1 Z (lP H hrow6 1 Z2 ?_)
   refine o_append_P 0 H hr6 (by intro _ cs hz _ hu; obtain ⟨rfl, _⟩ := hz; simp at hu; subst hu; rfl) (sz := 1) (bytes := 8) underlying33 typeInfo3 ⟨_, rfl, rfl⟩ rfl rfl rfl rfl rfl rfl rfl oM rfl ?_; intro _ _ css7 hcl7 hcs7 H
   have hchk7 := hchk2_0.app (show Chk _ _ _ _ _ from ⟨css7, rfl, hcl7, hcs7⟩)
   obtain ⟨_, _, rfl⟩ := H.accShape (k := 0) rfl
   refine aG Z (R_nil (N_B (N_K (W_region (mV Z (aD Z2 (aG Z (R_nil ?_))))))))
   refine N_lp (hJ := ⟨_, _, _, (xs ++ z6.bytes), k + 1, _, Z, hle2, H, ?inv, Z⟩) (hm := ?hm)
   case hm => omega
   case inv => exact ⟨hchk7, aN, (by exact ⟨by omega, by (rw [List.length_append]; omega), by (rw [Sp.load_succ hz4, hxs, hze])⟩)⟩
  intro hc3'
  try simp only [nrm] at hc3'
  refine W_exit (N_K_exit (N_LP_exit (N_B_same (N_K (q2 (pe 2 Z (q3 (W_ret (rt1 results162 Z ?_)))))))))
  obtain rfl : k = ids.length := by omega
  rw [List.take_length] at hxs
  subst hxs
  exact H.retO (k := 0) rfl (AccOf.mk (by assumption) hchk2_0) (acc_nd _ _ _ _ _)
end Go.Proofs.Tst

namespace Go.Proofs.Tst
open Go Fw Tryz
end Go.Proofs.Tst

namespace Go.Proofs.Tst
open Go Fw Tryz
end Go.Proofs.Tst

namespace Go.Proofs.Tst
open Go Fw Tryz
end Go.Proofs.Tst

namespace Go.Proofs.Tst
open Go Fw Tryz
end Go.Proofs.Tst

namespace Go.Proofs.Tst
open Go Fw Tryz
end Go.Proofs.Tst

namespace Go.Proofs.Tst
open Go Fw Tryz
end Go.Proofs.Tst

namespace Go.Proofs.Tst
open Go Fw Tryz
end Go.Proofs.Tst

namespace Go.Proofs.Tst
open Go Fw Tryz
end Go.Proofs.Tst

namespace Go.Proofs.Tst
open Go Fw Tryz
end Go.Proofs.Tst

namespace Go.Proofs.Tst
open Go Fw Tryz
end Go.Proofs.Tst

namespace Go.Proofs.Tst
open Go Fw Tryz
end Go.Proofs.Tst

namespace Go.Proofs.Tst
open Go Fw Tryz
end Go.Proofs.Tst

namespace Go.Proofs.Tst
open Go Fw Tryz
end Go.Proofs.Tst

namespace Go.Proofs.Tst
open Go Fw Tryz
end Go.Proofs.Tst

namespace Go.Proofs.Tst
open Go Fw Tryz
end Go.Proofs.Tst

namespace Go.Proofs.Tst
open Go Fw Tryz
end Go.Proofs.Tst

namespace Go.Proofs.Tst
open Go Fw Tryz
end Go.Proofs.Tst

namespace Go.Proofs.Tst
open Go Fw Tryz
end Go.Proofs.Tst

namespace Go.Proofs.Tst
open Go Fw Tryz
theorem l_HasPrefix0_c (w0 : World) (s : Bs) (hs : s.length ≤ 16777216) (p : Bs) (hp : p.length ≤ 16777216)  :
  Calls Tryz.prog 216 #[str s, str p] w0 (Rets w0 (.bool (p.isPrefixOf s))) := by
 have H := Hp.init0 w0
 refine calls_of_W (l := [str s, str p]) func216 Z ntmps216 Z (q2 (aG Z (q1 (mV Z (lS Z (mV Z (lS Z (pe 2 Z ?_))))))))
 refine R_case (t := 10) Z ?_ ?_
 ·intro hc1
  try simp only [nrm] at hc1
  refine pe 2 Z (gR Z (lS Z (gR Z (o_slice_str_to underlying9 Z Z Z oM oM (pe 1 Z (gR Z (o_seql Z Z Z (pe 2 Z (q3 (W_ret (rt1 results216 Z ?_)))))))))))
  exact H.rets (congrArg Value.bool (by rw [Sp.pre_eq, Bool.eq_iff_iff]; simp; intros; omega))
 intro hc1'
 try simp only [nrm] at hc1'
 refine pe 8 Z (q3 (W_ret (rt1 results216 Z ?_)))
 exact H.rets (congrArg Value.bool (by rw [Sp.pre_eq, Bool.eq_iff_iff]; simp; intros; omega))
theorem l_HasPrefix_c (w0 : World) (s : Bs) (hs : s.length ≤ 16777216) (p : Bs) (hp : p.length ≤ 16777216)  :
  Calls Tryz.prog 165 #[str s, str p] w0 (Rets w0 (.bool (p.isPrefixOf s))) := by
 have H := Hp.init0 w0
 refine calls_of_W (l := [str s, str p]) func165 Z ntmps165 Z (q2 (aG Z (q1 (pe 2 Z (xr H Z2 (l_HasPrefix0_c _ _ hs _ hp ) ?_))))); intro _ H
 refine aG Z (q3 (W_ret (rt1 results165 Z ?_)))
 exact H.rets Z
theorem i_within_c (w0 : World) (G0 : PH) (hG : PSub G0 w0) (p : Bs) (hp : p.length ≤ 16777216) (dir : Bs) (hdir : dir.length ≤ 16777216)  :
  Calls Tryz.prog 87 #[str p, str dir] w0 (Rets w0 (.bool (Sp.PathWithin p dir))) := by
 have H := Hp.init hG
 refine calls_of_W (l := [str p, str dir]) func87 Z ntmps87 Z (q2 (aG Z (q3 (W_seq (q2 (mV Z (xr H Z2 (i_valid_c _ _ H.sub _ hp ) ?_))))))); intro _ H
 refine pe 1 Z (q3 ?_)
 refine W_cond Z ?_ ?_
 ·intro hc2
  try simp only [nrm] at hc2
  refine q2 (aG Z (q3 (W_ret (N_K_ret (rt1 results87 Z ?_)))))
  exact H.rets (congrArg Value.bool (by simp_all [Sp.PathWithin, Sp.l1Within]))
 intro hc2'
 try simp only [nrm] at hc2'
 refine W_skip (N_K (W_seq (q2 (mV Z (o_seql Z Z Z (mV Z ?_))))))
 refine R_case (t := 10) Z ?_ ?_
 ·intro hc3
  try simp only [nrm] at hc3
  refine pe 4 Z (q3 (W_true Z (q2 (aG Z (q3 (W_ret (N_K_ret (rt1 results87 Z ?_))))))))
  exact H.rets (congrArg Value.bool (by simp_all [Sp.PathWithin, Sp.l1Within]))
 intro hc3'
 try simp only [nrm] at hc3'
 refine pe 2 Z (gR Z (o_seql Z Z Z (pe 1 Z (q3 ?_))))
 refine W_cond Z ?_ ?_
 ·intro hc4
  try simp only [nrm] at hc4
  refine q2 (aG Z (q3 (W_ret (N_K_ret (rt1 results87 Z ?_)))))
  exact H.rets (congrArg Value.bool (by simp_all [Sp.PathWithin, Sp.l1Within]))
 intro hc4'
 try simp only [nrm] at hc4'
 refine W_skip (N_K (q2 (mV Z (xr H Z2 (i_valid_c _ _ H.sub _ hdir ) ?_)))); intro _ H
 refine mV Z ?_
 refine R_case (t := 17) Z ?_ ?_
 ·intro hc6
  try simp only [nrm] at hc6
  have hdl := Sp.path_len hc6
  have hdl2 : (dir ++ [47]).length ≤ 16777216 := by (rw [List.length_append]; simp only [List.length_cons, List.length_nil]; omega)
  refine pe 2 Z (gR Z ?_)
  refine o_sadd Z Z Z (by simp only [List.length_cons, List.length_nil]; omega) ?_
  refine gR Z ?_
  refine xr H Z2 (l_HasPrefix_c _ _ hp _ (by (first | assumption | (refine Sp.l5Parent_lim ?_; assumption) | (simp; done) | (simp; omega) | omega)) ) ?_; intro _ H
  refine pe 2 Z (q3 (W_ret (rt1 results87 Z ?_)))
  exact H.rets (congrArg Value.bool (by simp_all [Sp.PathWithin, Sp.l1Within]))
 intro hc6'
 try simp only [nrm] at hc6'
 refine pe 6 Z (q3 (W_ret (rt1 results87 Z ?_)))
 exact H.rets (congrArg Value.bool (by simp_all [Sp.PathWithin, Sp.l1Within]))
theorem i_PathWithin_c (w0 : World) (G0 : PH) (hG : PSub G0 w0) (p : Bs) (hp : p.length ≤ 16777216) (dir : Bs) (hdir : dir.length ≤ 16777216)  :
  Calls Tryz.prog 25 #[str p, str dir] w0 (Rets w0 (.bool (Sp.PathWithin p dir))) := by
 have H := Hp.init hG
 refine calls_of_W (l := [str p, str dir]) func25 Z ntmps25 Z (q2 (aG Z (q1 (pe 2 Z (xr H Z2 (i_within_c _ _ H.sub _ hp _ hdir ) ?_))))); intro _ H
 refine aG Z (q3 (W_ret (rt1 results25 Z ?_)))
 exact H.rets Z
theorem i_sizeOf_c (w0 : World) (G0 : PH) (hG : PSub G0 w0) (mbs : Nat) (ess : Array MapEntry) (cks : Nat) (xss : List (Int × Value)) (Ls : List BHeld) (hbs : MapAt G0 mbs ess cks) (hms : MapIs (Value.int .i64) ess cks xss) (hSs : StR G0 xss Ls) (hVs : Sp.VH Ls) (vids : Value) (ids : List (Int)) (hids : RdI G0 vids ids)  :
  Calls Tryz.prog 77 #[.map (some mbs), vids] w0 (Rets w0 (.int .i64 ((Sp.load Ls ids).length : Int))) := by
 obtain ⟨aids, kids, rfl⟩ := hids.shape
 have hlimids : ids.length ≤ 1099511627776 := hids.lim
 have H := Hp.init hG
 refine calls_of_W (l := [.map (some mbs), .slice aids ids.length kids]) func77 Z ntmps77 Z (q2 (aG Z (q1 (aG Z (q3 (W_seq (q2 (mV Z (lN Z (mV Z (q3 (W_block ?_))))))))))))
 refine W_lp (hf := (Sub.cons (t := 0) Z (Sub.cons (t := 4) Z (Sub.cons (t := 8) Z (Sub.cons (t := 9) Z Sub.nil))))) (J := fun M w m => ∃ (k : Nat) (mm : Int) (G : PH), M = [(10, .int .i64 (k : Int)), (5, .int .i64 mm)] ∧ PLe G0 G ∧ Hp w0 G0 [] w G [] ∧ (k ≤ ids.length ∧ mm = ((Sp.load Ls (ids.take k)).length : Int)) ∧ m = (ids.length - k)) (h0 := ⟨0, 0, _, Z, PLe.refl _, H, ?inv, Z⟩) (round := ?round)
 case inv => exact ⟨by omega, by simp [Sp.load]⟩
 case round =>
  rintro _ _ _ ⟨k, mm, _, rfl, hle1, H, hinv1, rfl⟩
  have hSs := hSs.up hle1
  have hbs := hbs.up hle1
  have hids := hids.up hle1
  obtain ⟨_, hmm⟩ := hinv1; have hl8 := Sp.load_len8 hVs (ids.take k); (rw [List.length_take] at hl8)
  refine q2 (pe 1 Z (q3 (W_seq ?_)))
  refine W_cond Z ?_ ?_
  ·intro hc2
   try simp only [nrm] at hc2
   refine W_skip (N_K (W_seq (W_block (q2 (iP k hids Z3 Z ?_))))); intro _ _ z3 _ hz3 hE3 hrow3
   obtain ⟨rfl, _⟩ := hE3
   refine lP H hrow3 0 Z2 (aG Z (q3 (W_region (pe 3 Z (o_lookS (hbs.at H.sub) hms hSs underlying121 underlying3 zeroValue153 Z Z Z ?_))))); intro _ hE4
   obtain ⟨_, m4, _, rfl, _, _, _, _, _⟩ := ox hE4
   have hg8 := Sp.get_len hVs z3
   refine o_field 1 runUnderlying153 Z Z Z isAgg33 Z Z Z (lN Z (aD Z2 (aG Z (R_nil (N_B (N_K (W_region (aD Z2 (mV Z (R_nil ?_))))))))))
   refine N_lp (hJ := ⟨k + 1, (mm + (m4 : Int)), _, Z, hle1, H, ?inv, Z⟩) (hm := ?hm)
   case hm => omega
   case inv => exact ⟨by omega, by (rw [Sp.load_succ hz3, List.length_append]; omega)⟩
  intro hc2'
  try simp only [nrm] at hc2'
  refine W_exit (N_K_exit (N_LP_exit (N_B_same (N_K (q2 (pe 2 Z (q3 (W_ret (rt1 results77 Z ?_)))))))))
  have hkk : k = ids.length := by omega
  rw [hkk, List.take_length] at hmm
  exact H.rets (congrArg (Value.int .i64) hmm)
theorem i_used_c (w0 : World) (G0 : PH) (hG : PSub G0 w0) (mb : Nat) (es : Array MapEntry) (ck : Nat) (xs : List (Int × Value)) (T : Nd) (L : List BHeld) (hb : MapAt G0 mb es ck) (hm : MapIs (Value.int .i64) es ck xs) (hS : StR G0 xs L) (hV : Sp.VH L) (hnd : RdN G0 T) (dir : Bs) (hdir : dir.length ≤ 16777216) (tr : List BItem) (hTk : Nd.TOK T tr) (hvt : Sp.TreeValid tr = true) (hdv : Sp.dirValid dir = true) :
  Calls Tryz.prog 79 #[.agg #[.map (some mb), .pointer (some ⟨T.b, 0, none⟩)], str dir] w0 (Rets w0 (.int .i64 (Sp.usedB L tr dir [] : Int))) := by
 have htl := Sp.tree_len hvt; have hwt := hTk.wf; have hct := hTk.cnt; have hfl := hTk.flat; have hfl0 := congrArg List.length hfl
 have H := Hp.init hG
 obtain ⟨_, _, _, _, _, _, _, hprT, hriT, hrkT⟩ := hnd.open
 refine calls_of_W (l := [_, str dir]) func79 Z ntmps79 Z (q2 (o_box H Z Z Z ?_)); intro b1 _ _ H
 refine aG Z (q1 (aG Z (q3 (W_seq (q2 (fA 1 Z (lB 0 H Z3 (xc Z2 (i_tlist_c _ _ H.sub _ hnd hwt oM) ?_))))))))
 rintro _ _ ⟨_, _, rfl, H2', ⟨_, rfl, hO2⟩⟩
 have H := H.readers (fp := []) (by simp) (PLe.refl _) H2'
 obtain ⟨_, hP2⟩ := hO2
 obtain ⟨_, _, rfl⟩ := OwnS.shape hP2
 have hO2 := OIs.mk hP2
 refine ⟨_, Z, ?_⟩
 have hdm1 := dm_nodup H (k := 0) rfl; obtain ⟨Gk1, H, hkl1, hks1⟩ := H.keepF (k := 0) rfl (fun b _ hb => by simp at hb)
 have hrk1 := hO2.rd hks1 hdm1
 have hS := hS.up hkl1
 have hb := hb.up hkl1
 have hn_hrk1 := hrk1.len
 refine lN Z (mV Z (q3 (W_block ?_)))
 obtain ⟨ln3, hln3, H⟩ := H.name (k := 0) rfl
 refine W_lp (hf := (Sub.cons (t := 1) Z (Sub.cons (t := 2) Z (Sub.cons (t := 4) Z (Sub.cons (t := 10) Z (Sub.cons (t := 11) Z Sub.nil)))))) (J := fun M w m => ∃ (k : Nat) (mm : Int) (G : PH), M = [(12, .int .i64 (k : Int)), (5, .int .i64 mm)] ∧ PLe Gk1 G ∧ Hp w0 G0 [] w G [blk b1 (cl ln3 123)] ∧ (k ≤ tr.length ∧ mm = (Sp.usedB L (tr.take k) dir [] : Int)) ∧ m = (tr.length - k)) (h0 := ⟨0, 0, _, Z, PLe.refl _, H, ?inv, Z⟩) (round := ?round)
 case inv => exact ⟨by omega, by simp [Sp.usedB]⟩
 case round =>
  rintro _ _ _ ⟨k, mm, _, rfl, hle4, H, hinv4, rfl⟩
  subst hln3
  have hS := hS.up hle4
  have hb := hb.up hle4
  have hrk1 := hrk1.up hle4
  obtain ⟨hk, hmm⟩ := hinv4; have hub := Sp.used_bnd hV hvt hdv k hk
  refine q2 (pe 1 Z (q3 (W_seq ?_)))
  refine W_cond Z ?_ ?_
  ·intro hc5
   try simp only [nrm] at hc5
   refine W_skip (N_K (W_seq (W_block (q2 (iP k hrk1 Z3 Z ?_))))); intro _ _ z6 _ hz6 hE6 hrow6
   obtain ⟨_, _, _, rfl, hi6, hr6, _, _⟩ := ox hE6
   have hzt : tr[k]? = some z6 := by (rw [← hfl]; exact hz6)
   have hl8 := Sp.load_len8 hV z6.ids; have hl4 := (Sp.tree_at hvt hzt).2
   refine o_loadagg_P H isAgg35 sizeOf35 Z Z hrow6 Z (xal H Z ?_); intro _ _ _ H
   refine xst 0 H Z8 ?_; intro _ H
   refine q1 (fA 0 Z (lB 0 H Z3 (mV Z (xr H Z2 (i_PathWithin_c _ _ H.sub _ hi6 _ hdir ) ?_)))); intro _ H
   refine q3 ?_
   refine W_cond Z ?_ ?_
   ·intro hc10
    try simp only [nrm] at hc10
    refine W_region (mV Z (fA 0 Z (lB 1 H Z3 (fA 2 Z (lB 0 H Z3 (xr H Z2 (i_sizeOf_c _ _ H.sub _ _ _ _ _ hb hm hS hV _ _ hr6 ) ?_)))))); intro _ H
    refine aD Z2 (aG Z (R_nil (N_B (N_K (W_region (aD Z2 (mV Z (R_nil ?_))))))))
    have H := H.dl 0
    refine N_lp (hJ := ⟨k + 1, (mm + ((Sp.load L z6.ids).length : Int)), _, Z, hle4, H, ?inv, Z⟩) (hm := ?hm)
    case hm => omega
    case inv => exact ⟨by omega, by (rw [Sp.used_step hvt hzt hdv, if_pos (by assumption)]; omega)⟩
   intro hc10'
   try simp only [nrm] at hc10'
   refine W_skip (N_B (N_K (W_region (aD Z2 (mV Z (R_nil ?_))))))
   have H := H.dl 0
   refine N_lp (hJ := ⟨k + 1, mm, _, Z, hle4, H, ?inv, Z⟩) (hm := ?hm)
   case hm => omega
   case inv => exact ⟨by omega, by (rw [Sp.used_step hvt hzt hdv, if_neg (by simp_all)]; omega)⟩
  intro hc5'
  try simp only [nrm] at hc5'
  refine W_exit (N_K_exit (N_LP_exit (N_B_same (N_K (q2 (pe 2 Z (q3 (W_ret (rt1 results79 Z ?_)))))))))
  have hkk : k = tr.length := by omega
  rw [hkk, List.take_length] at hmm
  exact H.rets (congrArg (Value.int .i64) hmm)
theorem i_dirValid_c (w0 : World) (G0 : PH) (hG : PSub G0 w0) (dir : Bs) (hdir : dir.length ≤ 16777216)  :
  Calls Tryz.prog 88 #[str dir] w0 (Rets w0 (.bool (Sp.dirValid dir))) := by
 have H := Hp.init hG
 refine calls_of_W (l := [str dir]) func88 Z ntmps88 Z (q2 (aG Z (q1 (mV Z (o_seql Z Z Z (mV Z ?_))))))
 refine R_case (t := 5) Z ?_ ?_
 ·intro hc1
  try simp only [nrm] at hc1
  refine pe 4 Z (q3 (W_ret (rt1 results88 Z ?_)))
  exact H.rets (congrArg Value.bool (by simp_all [Sp.dirValid]))
 intro hc1'
 try simp only [nrm] at hc1'
 refine pe 1 Z (gR Z (xr H Z2 (i_PathValid_c _ _ H.sub _ hdir ) ?_)); intro _ H
 refine pe 2 Z (q3 (W_ret (rt1 results88 Z ?_)))
 exact H.rets (congrArg Value.bool (by simp_all [Sp.dirValid]))
theorem i_QuotaUsed_c (w0 : World) (G0 : PH) (hG : PSub G0 w0) (cd : List Value) (d : BDisk) (hd : diskE G0 d cd) (dir : Bs) (hdir : dir.length ≤ 16777216)  :
  Calls Tryz.prog 26 #[.agg cd.toArray, str dir] w0 (Rets w0 (.int .i64 (Sp.QuotaUsed d dir))) := by
 obtain ⟨_, _, _, _, _, _, _, _, _, rfl, hr1, hr1', hr1'', ⟨_, _⟩, ⟨_, _⟩, _, _⟩ := ox hd
 have H := Hp.init hG
 refine calls_of_W (l := [_, str dir]) func26 Z ntmps26 Z (q2 (o_box H Z Z Z ?_)); intro _ _ _ H
 refine aG Z (q1 (lA 0 3 H Z4 (xc Z2 (i_newDisk_c _ _ H.sub _ d ⟨_, _, _, _, _, _, _, _, _, Z, hr1, hr1', hr1''⟩ H.lent0 ) ?_)))
 rintro _ _ ⟨_, _, _, rfl, H3', ⟨rfl, rfl, _⟩ | ⟨_, _, _, _, _, _, _, _, _, _, _, rfl, rfl, hm3, hS3, hN3, hT3, _, _, _, hdv3⟩⟩
 ·skip
  have H := H.borrow0 H3'
  refine ⟨_, Z, ?_⟩
  try (have hVx := Sp.valid_iff.1 (Sp.dv_parts.1 hdv3).1)
  refine pe 5 Z (q3 (W_seq (q2 (pe 7 Z (q3 (W_true Z (q2 (aG Z (q3 (W_ret (N_K_ret (rt1 results26 Z ?_))))))))))))
  exact H.rets (congrArg (Value.int .i64) (Sp.quota_no (.inl (by assumption))).symm)
 skip
 have H := H.borrow0 H3'
 obtain ⟨_, _, rfl⟩ := H.accShape (k := 3) rfl
 refine ⟨_, Z, ?_⟩
 try (have hVx := Sp.valid_iff.1 (Sp.dv_parts.1 hdv3).1)
 refine pe 5 Z (q3 (W_seq (q2 (pe 4 Z (gR Z (xr H Z2 (i_dirValid_c _ _ H.sub _ hdir ) ?_)))))); intro _ H
 refine pe 2 Z (q3 ?_)
 refine W_cond Z ?_ ?_
 ·intro hc5
  try simp only [nrm] at hc5
  refine q2 (aG Z (q3 (W_ret (N_K_ret (rt1 results26 Z ?_)))))
  first | exact H.rets (congrArg (Value.int .i64) (Sp.quota_no (.inr (by simpa using hc5))).symm) | exact H.rets (congrArg (Value.int .i64) (Sp.quota_yes (by assumption) (by simpa using hc5)).symm)
 intro hc5'
 try simp only [nrm] at hc5'
 refine W_skip (N_K (q2 (pe 2 Z (fA 2 Z (lA 0 2 H Z4 (mV Z (xr H Z2 (i_used_c _ _ (H.lendSubL [1, 1, 2, 2]) _ _ _ _ _ _ (H.lendPredL (k := 1) (ks := [1, 1, 2, 2]) Z Z) hm3 (hS3.up (PPlus.le _ _ _)) hVx (H.lendN (k := 2) (ks := [1, 1, 2, 2]) Z Z hN3) _ hdir _ hT3 (Sp.dv_parts.1 hdv3).2.1 (by simpa using hc5')) ?_))))))); intro _ H
 refine aG Z (q3 (W_ret (rt1 results26 Z ?_)))
 first | exact H.rets (congrArg (Value.int .i64) (Sp.quota_no (.inr (by simpa using hc5'))).symm) | exact H.rets (congrArg (Value.int .i64) (Sp.quota_yes (by assumption) (by simpa using hc5')).symm)
end Go.Proofs.Tst

namespace Go.Proofs.Tst
open Go Fw Tryz
end Go.Proofs.Tst

namespace Go.Proofs.Tst
open Go Fw Tryz
end Go.Proofs.Tst

namespace Go.Proofs.Tst
open Go Fw Tryz
end Go.Proofs.Tst

namespace Go.Proofs.Tst
open Go Fw Tryz
end Go.Proofs.Tst

namespace Go.Proofs.Tst
open Go Fw Tryz
end Go.Proofs.Tst

namespace Go.Proofs.Tst
open Go Fw Tryz
end Go.Proofs.Tst

namespace Go.Proofs.Tst
open Go Fw Tryz
end Go.Proofs.Tst

namespace Go.Proofs.Tst
open Go Fw Tryz
theorem l1Within_c (w0 : World) (G0 : PH) (hG : PSub G0 w0) (p : Bs) (hp : p.length ≤ 16777216) (dir : Bs) (hdir : dir.length ≤ 16777216)  :
  Calls Tryz.prog 83 #[str p, str dir] w0 (Rets w0 (.bool (Sp.l1Within p dir))) := by
 have H := Hp.init hG
 refine calls_of_W (l := [str p, str dir]) func83 Z ntmps83 Z (q2 (aG Z (q3 (W_seq (q2 (mV Z (o_seql Z Z Z (mV Z ?_))))))))
 refine R_case (t := 7) Z ?_ ?_
 ·intro hc1
  try simp only [nrm] at hc1
  refine pe 4 Z (q3 (W_true Z (q2 (aG Z (q3 (W_ret (N_K_ret (rt1 results83 Z ?_))))))))
  exact H.rets (congrArg Value.bool (by exact (Sp.within_eqs (.inl (by simpa using hc1))).symm))
 intro hc1'
 try simp only [nrm] at hc1'
 refine pe 2 Z (gR Z (o_seql Z Z Z (pe 1 Z (q3 ?_))))
 refine W_cond Z ?_ ?_
 ·intro hc2
  try simp only [nrm] at hc2
  refine q2 (aG Z (q3 (W_ret (N_K_ret (rt1 results83 Z ?_)))))
  exact H.rets (congrArg Value.bool (by exact (Sp.within_eqs (.inr (by simpa using hc2))).symm))
 intro hc2'
 try simp only [nrm] at hc2'
 refine W_skip (N_K (q2 (mV Z (lS Z (mV Z (lS Z (pe 2 Z ?_)))))))
 refine R_case (t := 17) Z ?_ ?_
 ·intro hc3
  try simp only [nrm] at hc3
  refine pe 2 Z (gR Z (lS Z (gR Z (o_slice_str_to underlying9 Z Z Z oM oM (pe 1 Z (gR Z (o_seql Z Z Z (pe 2 Z ?_))))))))
  refine R_case (t := 25) Z ?_ ?_
  ·intro hc5
   try simp only [nrm] at hc5
   refine pe 2 Z (gR Z (lS Z (gR Z (o_index_str underlying9 Z Z Z Z oM ?_)))); intro ch6 hch6; have hlt6 := ch6.toNat_lt
   refine pe 3 Z (q3 (W_ret (rt1 results83 Z ?_)))
   exact H.rets (congrArg Value.bool (by exact (Sp.within_hit hc1' hc2' oM hc5 (by simpa using hch6)).symm))
  intro hc5'
  try simp only [nrm] at hc5'
  refine pe 7 Z (q3 (W_ret (rt1 results83 Z ?_)))
  exact H.rets (congrArg Value.bool (by rw [Sp.within_far hc1' hc2', decide_eq_false (show ¬ p.take dir.length = dir from hc5')]; simp))
 intro hc3'
 try simp only [nrm] at hc3'
 refine pe 15 Z (q3 (W_ret (rt1 results83 Z ?_)))
 exact H.rets (congrArg Value.bool (by rw [Sp.within_far hc1' hc2', decide_eq_false oM]; simp))
theorem l1Dir_c (w0 : World) (G0 : PH) (hG : PSub G0 w0) (dir : Bs) (hdir : dir.length ≤ 16777216)  :
  Calls Tryz.prog 94 #[str dir] w0 (Rets w0 (.bool (Sp.dirValid dir))) := by
 have H := Hp.init hG
 refine calls_of_W (l := [str dir]) func94 Z ntmps94 Z (q2 (aG Z (q1 (mV Z (o_seql Z Z Z (mV Z ?_))))))
 refine R_case (t := 5) Z ?_ ?_
 ·intro hc1
  try simp only [nrm] at hc1
  refine pe 4 Z (q3 (W_ret (rt1 results94 Z ?_)))
  exact H.rets (congrArg Value.bool (by simp_all [Sp.dirValid]))
 intro hc1'
 try simp only [nrm] at hc1'
 refine pe 1 Z (gR Z (xr H Z2 (PathValid_c _ _ H.sub _ hdir ) ?_)); intro _ H
 refine pe 2 Z (q3 (W_ret (rt1 results94 Z ?_)))
 exact H.rets (congrArg Value.bool (by simp_all [Sp.dirValid]))
end Go.Proofs.Tst

namespace Go.Proofs.Tst
open Go Fw Tryz
theorem l15Used_c (w0 : World) (G0 : PH) (hG : PSub G0 w0) (cd : List Value) (d : BDisk) (hd : diskE G0 d cd) (dir : Bs) (hdir : dir.length ≤ 16777216) (but : Bs) (hbut : but.length ≤ 16777216) (hdv : Sp.DiskValid d = true) :
  Calls Tryz.prog 84 #[.agg cd.toArray, str dir, str but] w0 (Rets w0 (.int .i64 (Sp.usedB d.store d.tree dir but : Int))) := by
 obtain ⟨_, _, _, _, _, _, _, _, _, rfl, hr1, hr1', hr1'', ⟨_, _⟩, ⟨_, _⟩, _, _⟩ := ox hd
 have hVx := Sp.valid_iff.1 (Sp.dv_parts.1 hdv).1; have hvt := (Sp.dv_parts.1 hdv).2.1; have htl := Sp.tree_len hvt
 have H := Hp.init hG
 refine calls_of_W (l := [_, str dir, str but]) func84 Z ntmps84 Z (q2 (o_box H Z Z Z ?_)); intro b2 _ _ H
 refine aG Z (q1 (aG Z (q3 (W_seq (q2 (aG Z (q3 (W_block ?_))))))))
 obtain ⟨ln3, hln3, H⟩ := H.name (k := 0) rfl
 refine W_lp (hf := (Sub.cons (t := 1) Z (Sub.cons (t := 2) Z (Sub.cons (t := 3) Z (Sub.cons (t := 6) Z Sub.nil))))) (J := fun M w m => ∃ (k : Nat) (mm : Int) (G : PH), M = [(8, .int .i64 (k : Int)), (7, .int .i64 mm)] ∧ PLe G0 G ∧ Hp w0 G0 [] w G [blk b2 (cl ln3 27)] ∧ (k ≤ d.tree.length ∧ mm = (Sp.usedB d.store (d.tree.take k) dir but : Int)) ∧ m = (d.tree.length - k)) (h0 := ⟨0, 0, _, Z, PLe.refl _, H, ?inv, Z⟩) (round := ?round)
 case inv => exact ⟨by omega, by simp [Sp.usedB]⟩
 case round =>
  rintro _ _ _ ⟨k, mm, G4, rfl, hle4, H, hinv4, rfl⟩
  subst hln3
  have hr1 := hr1.up hle4
  have hr1' := hr1'.up hle4
  obtain ⟨hk, hmm⟩ := hinv4; have hub := Sp.used_bnd2 hVx hvt dir but k hk
  refine W_seq (q2 (mV Z (fA 1 Z (lB 0 H Z3 (lN Z (pe 1 Z (q3 ?_)))))))
  refine W_cond Z ?_ ?_
  ·intro hc5
   try simp only [nrm] at hc5
   refine W_skip (N_K (W_seq (W_block (q2 (fA 1 Z (lB 0 H Z3 (mV Z (iP k hr1' Z3 Z ?_)))))))); intro _ _ z6 _ hz6 hE6 hrow6
   obtain ⟨_, _, _, rfl, hi6, hr6, _, _⟩ := ox hE6
   refine fA 0 Z (lP H hrow6 0 Z2 (mV Z (xr H Z2 (l1Within_c _ _ H.sub _ hi6 _ hdir ) ?_))); intro _ H
   refine mV Z ?_
   refine R_case (t := 24) Z ?_ ?_
   ·intro hc8
    try simp only [nrm] at hc8
    refine gR Z (fA 1 Z (gR Z (lB 0 H Z3 (pe 1 Z (gR Z (iP k hr1' Z3 Z ?_)))))); intro _ _ z9 _ hz9 hE9 hrow9
    obtain ⟨_, _, _, rfl, _, hr9, _, _⟩ := ox hE9
    have hzz9 : z6 = z9 := Option.some.inj (hz6.symm.trans hz9)
    subst hzz9
    refine gR Z (fA 0 Z (gR Z (lP H hrow9 0 Z2 (pe 1 Z (gR Z (o_sneq Z Z Z (pe 1 Z (q3 ?_))))))))
    refine W_cond Z ?_ ?_
    ·intro hc10
     try simp only [nrm] at hc10
     refine W_drawK [0] 13 H kR Z ?_; intro _ H; have hd11 := PLe.refl G4
     refine dE 0 Z2 (dF 1 0 Z2 (dB 2 0 Z4 (dF 3 1 Z2 (dB 4 0 Z4 (dE 5 Z2 ?_)))))
     have hl12 := hr1'.len
     obtain ⟨_, _, z12, _, ha12, hz12, hq12, hE12, hrow12, _⟩ := hr1'.at (i := k) oM
     clear hq12
     obtain ⟨_, _, _, rfl, _, hr12, _, _⟩ := ox hE12
     have hzz12 : z6 = z12 := Option.some.inj (hz6.symm.trans hz12)
     subst hzz12
     refine dI 6 3 k ha12 Z3 Z (dF 7 2 Z2 (dP 8 hrow12 2 Z3 (r1 9 Z (xc Z2 (l4Load_c _ _ H.sub _ _ hr1 _ _ hr12 (Sp.dv_ids hdv hz6) (Sp.dv_store hdv)) ?_))))
     rintro _ _ ⟨_, _, _, g13, rfl, ⟨_, rfl, _⟩, hp13, hq13, hs13⟩
     have H := H.growO g13 hp13 hq13 hs13; obtain ⟨_, _, rfl⟩ := H.accShape (k := 0) rfl
     have hle4 := hle4.trans g13.le
     have hd11 := hd11.trans g13.le
     refine ⟨_, Z, ?_⟩
     have hl8 := Sp.load_len8 hVx z6.ids; have hl4 := (Sp.tree_at hvt hz6).2
     refine q4 H hd11 (dN 10 Z2 (RD_t 11 Z kR Z (fun _ hK => v_add Z Z oO) (dE 12 Z2 (rz (N_B (N_K (W_region (mV Z (aD Z2 (aG Z (R_nil ?_)))))))))))
     have H := H.dl 0
     refine N_lp (hJ := ⟨k + 1, (mm + ((Sp.load d.store z6.ids).length : Int)), _, Z, hle4, H, ?inv, Z⟩) (hm := ?hm)
     case hm => omega
     case inv => exact ⟨by omega, by (rw [Sp.used_step2 hz6, if_pos (by simp_all [Sp.usedIn])]; omega)⟩
    intro hc10'
    try simp only [nrm] at hc10'
    refine W_skip (N_B (N_K (W_region (mV Z (aD Z2 (aG Z (R_nil ?_)))))))
    refine N_lp (hJ := ⟨k + 1, mm, _, Z, hle4, H, ?inv, Z⟩) (hm := ?hm)
    case hm => omega
    case inv => exact ⟨by omega, by (rw [Sp.used_step2 hz6, if_neg (by simp_all [Sp.usedIn])]; omega)⟩
   intro hc8'
   try simp only [nrm] at hc8'
   refine pe 9 Z (q3 (W_false Z (W_skip (N_B (N_K (W_region (mV Z (aD Z2 (aG Z (R_nil ?_))))))))))
   refine N_lp (hJ := ⟨k + 1, mm, _, Z, hle4, H, ?inv, Z⟩) (hm := ?hm)
   case hm => omega
   case inv => exact ⟨by omega, by (rw [Sp.used_step2 hz6, if_neg (by simp_all [Sp.usedIn])]; omega)⟩
  intro hc5'
  try simp only [nrm] at hc5'
  refine W_exit (N_K_exit (N_LP_exit (N_B_same (N_K (q2 (pe 2 Z (q3 (W_ret (rt1 results84 Z ?_)))))))))
  have hkk : k = d.tree.length := by omega
  rw [hkk, List.take_length] at hmm
  exact H.rets (congrArg (Value.int .i64) hmm)
end Go.Proofs.Tst

namespace Go.Proofs.Tst
open Go Fw Tryz
theorem QuotasValid_c (w0 : World) (G0 : PH) (hG : PSub G0 w0) (vlist : Value) (list : List (BQuota)) (hlist : RdQ G0 vlist list)  :
  Calls Tryz.prog 28 #[vlist] w0 (Rets w0 (.bool (Sp.QuotasValid list))) := by
 obtain ⟨alist, klist, rfl⟩ := hlist.shape
 have hlimlist : list.length ≤ 1099511627776 := hlist.lim
 have H := Hp.init hG
 refine calls_of_W (l := [.slice alist list.length klist]) func28 Z ntmps28 Z (q2 (aG Z (q3 (W_seq (q2 (aG Z (q3 (W_block ?_))))))))
 refine W_lp (hf := (Sub.cons (t := 0) Z Sub.nil)) (J := fun M w m => ∃ (k : Nat) (G : PH), M = [(3, .int .i64 (k : Int))] ∧ PLe G0 G ∧ Hp w0 G0 [] w G [] ∧ (k ≤ list.length ∧ ∀ j, j < k → Sp.okQ list j = true) ∧ m = (list.length - k)) (h0 := ⟨0, _, Z, PLe.refl _, H, ?inv, Z⟩) (round := ?round)
 case inv => exact ⟨by omega, fun j hj => by omega⟩
 case round =>
  rintro _ _ _ ⟨k, G1, rfl, hle1, H, hinv1, rfl⟩
  have hlist := hlist.up hle1
  obtain ⟨_, hall⟩ := hinv1
  refine W_seq (q2 (pe 2 Z (lN Z (pe 1 Z (q3 ?_)))))
  refine W_cond Z ?_ ?_
  ·intro hc2
   try simp only [nrm] at hc2
   refine W_skip (N_K (W_seq (W_block (W_seq (W_drawK [] 34 H kR Z ?_))))); intro _ H; have hd3 := PLe.refl G1
   refine dE 0 Z2 (dE 1 Z2 ?_)
   have hl4 := hlist.len
   obtain ⟨_, _, z4, q4, ha4, hz4, hq4, hE4, hrow4, _⟩ := hlist.at (i := k) oM
   clear hq4
   obtain ⟨rfl, hi4, _⟩ := hE4; have hy_hi4 : _ ≤ 16777216 := hi4
   refine dI 2 2 k ha4 Z3 Z (dF 3 0 Z2 (dP 4 hrow4 0 Z3 (r1 5 Z (xr H Z2 (l1Dir_c _ _ H.sub _ hi4 ) ?_)))); intro _ H
   refine q4 H hd3 (dE 6 Z2 (dE 7 Z2 ?_))
   refine RD_case (t := 17) Z ?_ ?_
   ·intro hc6
    try simp only [nrm] at hc6
    refine dE 8 Z2 (dE 9 Z2 (dE 10 Z2 (dE 11 Z2 (dE 12 Z2 (dE 13 Z2 (dE 14 Z2 (dE 15 Z2 (dE 16 Z2 (dE 17 Z2 (dE 18 Z2 (dE 19 Z2 (RD_pass 20 Z kR kR kR Z (yl_un Z Z) (RD_pass 21 Z kR kR kR Z (yl_un Z Z) (RD_pass 22 Z kR kR kR Z (yl_un Z Z) (RD_pass 23 Z kR kR kR Z (yl_un Z Z) ?_)))))))))))))))
    refine RD_pass 24 Z kR kR kR Z (yl_un Z Z) (RD_pass 25 Z kR kR kR Z (yl_un Z Z) (RD_pass 26 Z kR kR kR Z (yl_un Z Z) (RD_pass 27 Z kR kR kR Z (yl_un Z Z) (RD_pass 28 Z kR kR kR Z (yl_un Z Z) (RD_pass 29 Z kR kR kR Z (yl_un Z Z) (RD_pass 30 Z kR kR kR Z (yl_un Z Z) (RD_pass 31 Z kR kR kR Z (yl_un Z Z) (dE 32 Z2 (dE 33 Z2 (rz (N_K (W_true Z (q2 (aG Z (q3 ?_)))))))))))))))
    refine W_ret (N_B_ret (N_K_ret (N_LP_ret (N_B_ret (N_K_ret (rt1 results28 Z ?_))))))
    exact H.rets (congrArg Value.bool (by rw [Sp.QuotasValid, Sp.not_all_range (k := k) oM (by rw [Sp.okQ_at hz4]; simp [Sp.prevQ, *])]; rfl))
   intro hc6'
   try simp only [nrm] at hc6'
   refine dE 8 Z2 (dE 9 Z2 ?_)
   have hl7 := hlist.len
   obtain ⟨_, _, z7, _, ha7, hz7, hq7, hE7, hrow7, _⟩ := hlist.at (i := k) oM
   clear hq7
   obtain ⟨rfl, hi7, _⟩ := hE7; have hy_hi7 : _ ≤ 16777216 := hi7
   have hzz7 : z4 = z7 := Option.some.inj (hz4.symm.trans hz7)
   subst hzz7
   refine dI 10 2 k ha7 Z3 Z (dF 11 1 Z2 (dP 12 hrow7 1 Z3 (r1 13 Z (gR Z (xr H Z2 (l6In_c _ _ _ _ ) ?_))))); intro _ H
   refine q4 H hd3 (dE 14 Z2 (dE 15 Z2 (dE 16 Z2 ?_)))
   refine RD_case (t := 26) Z ?_ ?_
   ·intro hc9
    try simp only [nrm] at hc9
    refine dE 17 Z2 (dE 18 Z2 (dE 19 Z2 (RD_pass 20 Z kR kR kR Z (yl_un Z Z) (RD_pass 21 Z kR kR kR Z (yl_un Z Z) (RD_pass 22 Z kR kR kR Z (yl_un Z Z) (RD_pass 23 Z kR kR kR Z (yl_un Z Z) (RD_pass 24 Z kR kR kR Z (yl_un Z Z) (RD_pass 25 Z kR kR kR Z (yl_un Z Z) (RD_pass 26 Z kR kR kR Z (yl_un Z Z) (RD_pass 27 Z kR kR kR Z (yl_un Z Z) (RD_pass 28 Z kR kR kR Z (yl_un Z Z) (RD_pass 29 Z kR kR kR Z (yl_un Z Z) (RD_pass 30 Z kR kR kR Z (yl_un Z Z) (RD_pass 31 Z kR kR kR Z (yl_un Z Z) (dE 32 Z2 ?_)))))))))))))))
    refine dE 33 Z2 (rz (N_K (W_true Z (q2 (aG Z (q3 (W_ret (N_B_ret (N_K_ret (N_LP_ret (N_B_ret (N_K_ret (rt1 results28 Z ?_)))))))))))))
    exact H.rets (congrArg Value.bool (by rw [Sp.QuotasValid, Sp.not_all_range (k := k) oM (by rw [Sp.okQ_at hz4]; simp [Sp.prevQ, *])]; rfl))
   intro hc9'
   try simp only [nrm] at hc9'
   refine dE 17 Z2 (dE 18 Z2 (dE 19 Z2 ?_))
   refine RD_case (t := 29) Z ?_ ?_
   ·intro hc10
    try simp only [nrm] at hc10
    have hk0 : k ≠ 0 := by omega
    refine dE 20 Z2 (dE 21 Z2 (RD_tg 22 Z kR Z (yl Z Z) (fun _ hK => v_sub Z Z oO) ?_))
    have hl12 := hlist.len
    obtain ⟨_, _, _, _, ha12, _, hq12, hE12, hrow12, _⟩ := hlist.at (i := (k - 1)) oM
    clear hq12
    obtain ⟨rfl, hi12, _⟩ := hE12; have hy_hi12 : _ ≤ 16777216 := hi12
    refine dI 23 2 (k - 1) ha12 Z3 oM (dF 24 0 Z2 (dP 25 hrow12 0 Z3 (dE 26 Z2 (dE 27 Z2 ?_))))
    have hl13 := hlist.len
    obtain ⟨_, _, z13, _, ha13, hz13, hq13, hE13, hrow13, _⟩ := hlist.at (i := k) oM
    clear hq13
    obtain ⟨rfl, hi13, _⟩ := hE13; have hy_hi13 : _ ≤ 16777216 := hi13
    have hzz13 : z4 = z13 := Option.some.inj (hz4.symm.trans hz13)
    subst hzz13
    refine dI 28 2 k ha13 Z3 Z (dF 29 0 Z2 (dP 30 hrow13 0 Z3 (RD_tg 31 Z kR Z (yl Z Z) (fun _ hK => v_sgeq Z Z) (dE 32 Z2 (dE 33 Z2 (rz (N_K ?_)))))))
    refine W_cond Z ?_ ?_
    ·intro hc14
     try simp only [nrm] at hc14
     refine q2 (aG Z (q3 (W_ret (N_B_ret (N_K_ret (N_LP_ret (N_B_ret (N_K_ret (rt1 results28 Z ?_)))))))))
     exact H.rets (congrArg Value.bool (by rw [Sp.QuotasValid, Sp.not_all_range (k := k) oM (by rw [Sp.okQ_at hz4]; simp [Sp.prevQ, *])]; rfl))
    intro hc14'
    try simp only [nrm] at hc14'
    refine W_skip (N_B (N_K (W_region (mV Z (aD Z2 (aG Z (R_nil ?_)))))))
    refine N_lp (hJ := ⟨k + 1, _, Z, hle1, H, ?inv, Z⟩) (hm := ?hm)
    case hm => omega
    case inv => exact ⟨by omega, Sp.upto_succ hall (by rw [Sp.okQ_at hz4]; simp [Sp.prevQ, *])⟩
   intro hc10'
   try simp only [nrm] at hc10'
   have hk0 : k = 0 := by omega
   refine dE 20 Z2 (dE 21 Z2 (dE 22 Z2 (dE 23 Z2 (dE 24 Z2 (dE 25 Z2 (dE 26 Z2 (dE 27 Z2 (dE 28 Z2 (dE 29 Z2 (dE 30 Z2 (dE 31 Z2 (dE 32 Z2 (dE 33 Z2 (rz (N_K ?_)))))))))))))))
   refine W_false Z (W_skip (N_B (N_K (W_region (mV Z (aD Z2 (aG Z (R_nil ?_))))))))
   refine N_lp (hJ := ⟨k + 1, _, Z, hle1, H, ?inv, Z⟩) (hm := ?hm)
   case hm => omega
   case inv => exact ⟨by omega, Sp.upto_succ hall (by rw [Sp.okQ_at hz4]; simp [Sp.prevQ, *])⟩
  intro hc2'
  try simp only [nrm] at hc2'
  refine W_exit (N_K_exit (N_LP_exit (N_B_same (N_K (q2 (mV Z (lN Z (pe 2 Z (q3 (W_ret (rt1 results28 Z ?_)))))))))))
  exact H.rets (congrArg Value.bool (by rw [Sp.QuotasValid, Sp.all_range (fun j hj => hall j oM), Bool.true_and]; rw [Bool.eq_iff_iff]; simp; omega))
end Go.Proofs.Tst

namespace Go.Proofs.Tst
open Go Fw Tryz
theorem i_QuotasValid_c (w0 : World) (G0 : PH) (hG : PSub G0 w0) (vlist : Value) (list : List (BQuota)) (hlist : RdQ G0 vlist list)  :
  Calls Tryz.prog 75 #[vlist] w0 (Rets w0 (.bool (Sp.QuotasValid list))) := by
 obtain ⟨alist, klist, rfl⟩ := hlist.shape
 have hlimlist : list.length ≤ 1099511627776 := hlist.lim
 have H := Hp.init hG
 refine calls_of_W (l := [.slice alist list.length klist]) func75 Z ntmps75 Z (q2 (aG Z (q3 (W_seq (q2 (mV Z (lN Z (pe 1 Z (q3 ?_)))))))))
 refine W_cond Z ?_ ?_
 ·intro hc1
  try simp only [nrm] at hc1
  refine q2 (aG Z (q3 (W_ret (N_K_ret (rt1 results75 Z ?_)))))
  exact H.rets (congrArg Value.bool (by rw [Sp.QuotasValid, decide_eq_false (show ¬ list.length ≤ 6 by omega)]; simp))
 intro hc1'
 try simp only [nrm] at hc1'
 refine W_skip (N_K (W_seq (q2 (mV Z (lN Z (mV Z (q3 (W_block ?_))))))))
 refine W_lp (hf := (Sub.cons (t := 0) Z (Sub.cons (t := 8) Z (Sub.cons (t := 9) Z Sub.nil)))) (J := fun M w m => ∃ (k : Nat) (G : PH), M = [(10, .int .i64 (k : Int))] ∧ PLe G0 G ∧ Hp w0 G0 [] w G [] ∧ (k ≤ list.length ∧ ∀ j, j < k → Sp.okQ list j = true) ∧ m = (list.length - k)) (h0 := ⟨0, _, Z, PLe.refl _, H, ?inv, Z⟩) (round := ?round)
 case inv => exact ⟨by omega, fun j hj => by omega⟩
 case round =>
  rintro _ _ _ ⟨k, G2, rfl, hle2, H, hinv2, rfl⟩
  have hlist := hlist.up hle2
  obtain ⟨_, hall⟩ := hinv2
  refine q2 (pe 1 Z (q3 (W_seq ?_)))
  refine W_cond Z ?_ ?_
  ·intro hc3
   try simp only [nrm] at hc3
   refine W_skip (N_K (W_seq (W_block (q2 (mV Z (iP k hlist Z3 Z ?_)))))); intro _ _ _ _ hz4 hE4 hrow4
   obtain ⟨rfl, hi4, _⟩ := hE4; have hy_hi4 : _ ≤ 16777216 := hi4
   refine o_loadagg_P H isAgg47 sizeOf47 Z Z hrow4 Z (xal H Z ?_); intro _ _ _ H
   refine aG Z (xst 0 H Z8 ?_); intro _ H
   refine q3 (W_seq (q2 (fA 0 Z (lB 0 H Z3 (xr H Z2 (i_dirValid_c _ _ H.sub _ hi4 ) ?_))))); intro _ H
   refine pe 2 Z ?_
   refine R_case (t := 19) Z ?_ ?_
   ·intro hc8
    try simp only [nrm] at hc8
    refine pe 9 Z (q3 (W_true Z (q2 (aG Z (q3 (W_ret (N_K_ret (N_B_ret (N_K_ret (N_LP_ret (N_B_ret (N_K_ret (rt1 results75 Z ?_)))))))))))))
    exact H.rets (congrArg Value.bool (by rw [Sp.QuotasValid, Sp.not_all_range (k := k) oM (by rw [Sp.okQ_at hz4]; simp [Sp.prevQ, Sp.l6In, *] <;> omega)]; rfl))
   intro hc8'
   try simp only [nrm] at hc8'
   refine gR Z (fA 1 Z (gR Z (lB 0 H Z3 (pe 3 Z ?_))))
   refine R_case (t := 24) Z ?_ ?_
   ·intro hc9
    try simp only [nrm] at hc9
    refine pe 4 Z (q3 (W_true Z (q2 (aG Z (q3 (W_ret (N_K_ret (N_B_ret (N_K_ret (N_LP_ret (N_B_ret (N_K_ret (rt1 results75 Z ?_)))))))))))))
    exact H.rets (congrArg Value.bool (by rw [Sp.QuotasValid, Sp.not_all_range (k := k) oM (by rw [Sp.okQ_at hz4]; simp [Sp.prevQ, Sp.l6In, *] <;> omega)]; rfl))
   intro hc9'
   try simp only [nrm] at hc9'
   refine gR Z (fA 1 Z (gR Z (lB 0 H Z3 (pe 2 Z (q3 ?_)))))
   refine W_cond Z ?_ ?_
   ·intro hc10
    try simp only [nrm] at hc10
    refine q2 (aG Z (q3 (W_ret (N_K_ret (N_B_ret (N_K_ret (N_LP_ret (N_B_ret (N_K_ret (rt1 results75 Z ?_))))))))))
    exact H.rets (congrArg Value.bool (by rw [Sp.QuotasValid, Sp.not_all_range (k := k) oM (by rw [Sp.okQ_at hz4]; simp [Sp.prevQ, Sp.l6In, *] <;> omega)]; rfl))
   intro hc10'
   try simp only [nrm] at hc10'
   refine W_skip (N_K (W_seq (W_drawK [0] 13 H kR Z ?_))); intro _ H; have hd11 := PLe.refl G2
   refine dE 0 Z2 (dE 1 Z2 (dE 2 Z2 ?_))
   refine RD_case (t := 31) Z ?_ ?_
   ·intro hc12
    try simp only [nrm] at hc12
    have hk0 : k ≠ 0 := by omega
    refine dE 3 Z2 (dE 4 Z2 (RD_tg 5 Z kR Z (yl Z Z) (fun _ hK => v_sub Z Z oO) ?_))
    have hl14 := hlist.len
    obtain ⟨_, _, _, _, ha14, _, hq14, hE14, hrow14, _⟩ := hlist.at (i := (k - 1)) oM
    clear hq14
    obtain ⟨rfl, hi14, _⟩ := hE14; have hy_hi14 : _ ≤ 16777216 := hi14
    refine dI 6 2 (k - 1) ha14 Z3 oM (dF 7 0 Z2 (dP 8 hrow14 0 Z3 (dF 9 0 Z2 (dB 10 0 Z4 (RD_tg 11 Z kR Z (yl Z Z) (fun _ hK => v_sgeq Z Z) (dE 12 Z2 (rz (N_K ?_))))))))
    refine W_cond Z ?_ ?_
    ·intro hc15
     try simp only [nrm] at hc15
     refine q2 (aG Z (q3 (W_ret (N_B_ret (N_K_ret (N_LP_ret (N_B_ret (N_K_ret (rt1 results75 Z ?_)))))))))
     exact H.rets (congrArg Value.bool (by rw [Sp.QuotasValid, Sp.not_all_range (k := k) oM (by rw [Sp.okQ_at hz4]; simp [Sp.prevQ, Sp.l6In, *] <;> omega)]; rfl))
    intro hc15'
    try simp only [nrm] at hc15'
    refine W_skip (N_B (N_K (W_region (aD Z2 (mV Z (R_nil ?_))))))
    have H := H.dl 0
    refine N_lp (hJ := ⟨k + 1, _, Z, hle2, H, ?inv, Z⟩) (hm := ?hm)
    case hm => omega
    case inv => exact ⟨by omega, Sp.upto_succ hall (by rw [Sp.okQ_at hz4]; simp [Sp.prevQ, Sp.l6In, *])⟩
   intro hc12'
   try simp only [nrm] at hc12'
   have hk0 : k = 0 := by omega
   refine dE 3 Z2 (dE 4 Z2 (dE 5 Z2 (dE 6 Z2 (dE 7 Z2 (dE 8 Z2 (dE 9 Z2 (dE 10 Z2 (dE 11 Z2 (dE 12 Z2 (rz (N_K (W_false Z (W_skip (N_B (N_K ?_)))))))))))))))
   refine W_region (aD Z2 (mV Z (R_nil ?_)))
   have H := H.dl 0
   refine N_lp (hJ := ⟨k + 1, _, Z, hle2, H, ?inv, Z⟩) (hm := ?hm)
   case hm => omega
   case inv => exact ⟨by omega, Sp.upto_succ hall (by rw [Sp.okQ_at hz4]; simp [Sp.prevQ, Sp.l6In, *])⟩
  intro hc3'
  try simp only [nrm] at hc3'
  refine W_exit (N_K_exit (N_LP_exit (N_B_same (N_K (q2 (aG Z (q3 (W_ret (rt1 results75 Z ?_)))))))))
  exact H.rets (congrArg Value.bool (by rw [Sp.QuotasValid, Sp.all_range (fun j hj => hall j oM), Bool.true_and]; rw [Bool.eq_iff_iff]; simp; omega))
end Go.Proofs.Tst

namespace Go.Proofs.Tst
open Go Fw Tryz
theorem i_check_c (w0 : World) (G0 : PH) (hG : PSub G0 w0) (cq : List Value) (q : BQuota) (hq : quotaE G0 q cq) (n : Int) (ga : Addr) (hbk : BrkG ga G0) :
  Calls Tryz.prog 78 #[.agg cq.toArray, .int .i64 n] w0 (Rets w0 (errV ga (decide (q.most < n)))) := by
 obtain ⟨rfl, hi1, _⟩ := hq; have hy_hi1 : _ ≤ 16777216 := hi1
 have H := Hp.init hG
 refine calls_of_W (l := [_, .int .i64 n]) func78 Z ntmps78 Z (q2 (o_box H Z Z Z ?_)); intro _ _ _ H
 refine aG Z (q3 (W_seq (q2 (mV Z (fA 1 Z (lB 0 H Z3 (pe 1 Z (q3 ?_))))))))
 refine W_cond Z ?_ ?_
 ·intro hc3
  try simp only [nrm] at hc3
  refine q2 (o_load_P H isAgg140 Z Z hbk (aG Z (q3 (W_ret (N_K_ret (rt1 results78 Z ?_))))))
  exact H.rets (errV_t (by simpa using hc3))
 intro hc3'
 try simp only [nrm] at hc3'
 refine W_skip (N_K (q2 (aG Z (q3 (W_ret (rt1 results78 Z ?_))))))
 exact H.rets (errV_f (by simpa using hc3'))
end Go.Proofs.Tst

namespace Go.Proofs.Tst
open Go Fw Tryz
theorem i_QuotasAllow_c (w0 : World) (G0 : PH) (hG : PSub G0 w0) (cd : List Value) (d : BDisk) (hd : diskE G0 d cd) (vlist : Value) (list : List (BQuota)) (hlist : RdQ G0 vlist list) (path : Bs) (hpath : path.length ≤ 16777216) (size : Int) (ga : Addr) (hbk : BrkG ga G0) :
  Calls Tryz.prog 22 #[.agg cd.toArray, vlist, str path, .int .i64 size] w0 (Rets w0 (.bool (Sp.QuotasAllow d list path size))) := by
 obtain ⟨_, _, _, _, _, _, _, _, _, rfl, hr1, hr1', hr1'', ⟨_, _⟩, ⟨_, _⟩, _, _⟩ := ox hd
 obtain ⟨alist, klist, rfl⟩ := hlist.shape
 have hlimlist : list.length ≤ 1099511627776 := hlist.lim
 have H := Hp.init hG
 refine calls_of_W (l := [_, .slice alist list.length klist, str path, .int .i64 size]) func22 Z ntmps22 Z (q2 (o_box H Z Z Z ?_)); intro b2 _ hb2 H
 refine aG Z (q1 (lA 0 3 H Z4 (xc Z2 (i_newDisk_c _ _ H.sub _ d ⟨_, _, _, _, _, _, _, _, _, Z, hr1, hr1', hr1''⟩ H.lent0 ) ?_)))
 rintro _ _ ⟨G3, _, _, rfl, H3', ⟨rfl, rfl, _⟩ | ⟨db3, mb3, es3, ck3, _, T3, F3, _, _, _, _, rfl, rfl, hm3, hS3, hN3, hT3, hchk3, hNs3, _, hdv3⟩⟩
 ·skip
  have H := H.borrow0 H3'
  refine ⟨_, Z, ?_⟩
  refine pe 5 Z (q3 (W_seq (q2 (pe 20 Z (q3 (W_true Z (q2 (aG Z (q3 (W_ret (N_K_ret (rt1 results22 Z ?_))))))))))))
  exact H.rets (congrArg Value.bool (Sp.qallow_no (.inl (by assumption))).symm)
 skip
 have hlist := hlist.up H3'.le
 have hbk := hbk.up H3'.le
 have H := H.borrow0 H3'
 obtain ⟨_, _, rfl⟩ := H.accShape (k := 3) rfl
 refine ⟨_, Z, ?_⟩
 refine pe 5 Z (q3 (W_seq (q2 (pe 4 Z (gR Z (xr H Z2 (i_QuotasValid_c _ _ H.sub _ _ hlist ) ?_)))))); intro _ H
 refine pe 3 Z ?_
 refine R_case (t := 28) Z ?_ ?_
 ·intro hc5
  try simp only [nrm] at hc5
  refine pe 12 Z (q3 (W_true Z (q2 (aG Z (q3 (W_ret (N_K_ret (rt1 results22 Z ?_))))))))
  exact H.rets (congrArg Value.bool (Sp.qallow_no (.inr (.inl (by simpa using hc5)))).symm)
 intro hc5'
 try simp only [nrm] at hc5'
 refine pe 1 Z (gR Z (xr H Z2 (i_PathValid_c _ _ H.sub _ hpath ) ?_)); intro _ H
 refine pe 3 Z ?_
 refine R_case (t := 33) Z ?_ ?_
 ·intro hc7
  try simp only [nrm] at hc7
  refine pe 7 Z (q3 (W_true Z (q2 (aG Z (q3 (W_ret (N_K_ret (rt1 results22 Z ?_))))))))
  exact H.rets (congrArg Value.bool (Sp.qallow_no (.inr (.inr (.inl (by simpa using hc7))))).symm)
 intro hc7'
 try simp only [nrm] at hc7'
 refine pe 4 Z ?_
 refine R_case (t := 37) Z ?_ ?_
 ·intro hc8
  try simp only [nrm] at hc8
  refine pe 3 Z (q3 (W_true Z (q2 (aG Z (q3 (W_ret (N_K_ret (rt1 results22 Z ?_))))))))
  exact H.rets (congrArg Value.bool (Sp.qallow_no (.inr (.inr (.inr (.inl oM))))).symm)
 intro hc8'
 try simp only [nrm] at hc8'
 refine pe 3 Z (q3 ?_)
 refine W_cond Z ?_ ?_
 ·intro hc9
  try simp only [nrm] at hc9
  refine q2 (aG Z (q3 (W_ret (N_K_ret (rt1 results22 Z ?_)))))
  exact H.rets (congrArg Value.bool (Sp.qallow_no (.inr (.inr (.inr (.inr oM))))).symm)
 intro hc9'
 try simp only [nrm] at hc9'
 refine W_skip (N_K (q2 ?_))
 have hqv : Sp.QuotasValid list = true := by first | assumption | simp_all
 have hpv : Sp.PathValid path = true := by first | assumption | simp_all
 have hVx := Sp.valid_iff.1 (Sp.dv_parts.1 hdv3).1; have hvt := (Sp.dv_parts.1 hdv3).2.1; have hvT := Sp.dv_tree hdv3
 refine pe 2 Z (q3 (W_seq (q2 (pe 2 Z (fA 2 Z (fA 1 Z (lB 0 H Z3 (mV Z (xc Z2 (i_find_n_c _ _ (H.lendSubL [2]) _ ((H.lendN (k := 2) (ks := [2]) Z Z hN3).at (show Nd.at_ T3 [] = some T3 from Z)) _ hpath hT3.wf) ?_)))))))))
 rintro _ _ ⟨_, rfl, ew10, ⟨hfi10, rfl⟩ | ⟨d10, hfi10, rfl⟩⟩
 ·skip
  have H := H.step ew10; refine ⟨_, rfl, ?_⟩
  refine aG Z (q1 (mV Z (o_nenil_ptr underlying119 Z Z Z (q3 (W_false Z (W_skip (N_K (W_seq (q2 (mV Z (lN Z (mV Z (q3 (W_block ?_))))))))))))))
  have H := H.dl 3
  have H := H.dl 3
  obtain ⟨ln11, hln11, H⟩ := H.name (k := 0) rfl
  obtain ⟨ln12, hln12, H⟩ := H.name (k := 3) rfl
  refine W_lp (hf := (Sub.cons (t := 2) Z (Sub.cons (t := 9) Z (Sub.cons (t := 11) Z (Sub.cons (t := 63) Z (Sub.cons (t := 64) Z Sub.nil)))))) (J := fun M w m => ∃ (k : Nat) (G : PH), M = [(65, .int .i64 (k : Int))] ∧ PLe G3 G ∧ Hp w0 G0 [] w G [blk db3 (cl ln11 133), blk mb3 (.map es3 ck3), frag F3, blk b2 (cl ln12 27)] ∧ (k ≤ list.length ∧ (list.take k).all (fun q => !Sp.breaks d path size q) = true) ∧ m = (list.length - k)) (h0 := ⟨0, _, Z, PLe.refl _, H, ?inv, Z⟩) (round := ?round)
  case inv => exact ⟨by omega, by simp⟩
  case round =>
   rintro _ _ _ ⟨k, G13, rfl, hle13, H, hinv13, rfl⟩
   subst hln11
   subst hln12
   have hlist := hlist.up hle13
   have hbk := hbk.up hle13
   have hS3 := hS3.up hle13
   have hN3 := hN3.up hle13
   obtain ⟨hk, hall⟩ := hinv13
   refine q2 (pe 1 Z (q3 (W_seq ?_)))
   refine W_cond Z ?_ ?_
   ·intro hc14
    try simp only [nrm] at hc14
    refine W_skip (N_K (W_seq (W_block (q2 (iP k hlist Z3 Z ?_))))); intro _ _ _ _ hz15 hE15 hrow15
    obtain ⟨rfl, hi15, _⟩ := hE15; have hy_hi15 : _ ≤ 16777216 := hi15
    have hqd := Sp.quota_dir hqv (List.mem_of_getElem? hz15)
    have hub := Sp.used_bnd hVx hvt hqd d.tree.length (Nat.le_refl _); (rw [List.take_length] at hub)
    refine o_loadagg_P H isAgg47 sizeOf47 Z Z hrow15 Z (xal H Z ?_); intro _ _ _ H
    refine xst 0 H Z8 ?_; intro _ H
    refine q3 (W_seq (q2 (mV Z (fA 0 Z (lB 0 H Z3 (xr H Z2 (i_PathWithin_c _ _ H.sub _ hpath _ hi15 ) ?_)))))); intro _ H
    refine pe 1 Z (q3 ?_)
    refine W_cond Z ?_ ?_
    ·intro hc19
     try simp only [nrm] at hc19
     refine W_exit (N_K_exit (N_B_same (N_K (W_region (aD Z2 (mV Z (R_nil ?_)))))))
     have H := H.dl 0
     refine N_lp (hJ := ⟨k + 1, _, Z, hle13, H, ?inv, Z⟩) (hm := ?hm)
     case hm => omega
     case inv => exact ⟨by omega, Sp.all_take hall hz15 (by (rw [Sp.brk_no hpv hqd (by simpa using hc19)]; rfl))⟩
    intro hc19'
    try simp only [nrm] at hc19'
    refine W_skip (N_K (W_seq (W_drawK [0, 1, 4] 12 H kR Z ?_))); intro _ H; have hd21 := PLe.refl G13
    refine RD_t 0 Z kR Z (fun _ hK => v_loadagg_B 0 hK isAgg47 sizeOf47 Z Z Z Z) (dE 1 Z2 (dE 2 Z2 (dF 3 2 Z2 (RD_t 4 Z kR Z (fun _ hK => v_loadagg_B 1 hK isAgg123 sizeOf123 Z Z Z Z) (dF 5 0 Z2 (dB 6 0 Z4 (dE 8 Z2 (r1 7 Z (xr H Z2 (i_used_c _ _ (H.lendSubL [2, 2, 3, 3]) _ _ _ _ _ _ (H.lendPredL (k := 2) (ks := [2, 2, 3, 3]) Z Z) hm3 (hS3.up (PPlus.le _ _ _)) hVx (H.lendN (k := 3) (ks := [2, 2, 3, 3]) Z Z hN3) _ hi15 _ hT3 hvt hqd) ?_))))))))); intro _ H
    refine q4 H hd21 (RD_t 9 Z kR Z (fun _ hK => v_add Z Z oO) (r1 10 Z ?_))
    refine xr H Z2 (i_check_c _ _ H.sub _ _ ⟨Z, hi15, ⟨by first | omega | (dsimp only; omega), by first | omega | (dsimp only; omega)⟩⟩ _ _ hbk) ?_; intro _ H
    refine q4 H hd21 (dE 11 Z2 (rz (N_K (q2 (mV Z (o_load_P H isAgg140 Z Z hbk (xr H Z2 (is_brk _ _ H.sub _ _) ?_))))))); intro _ H
    refine q3 ?_
    refine W_cond Z ?_ ?_
    ·intro hc26
     try simp only [nrm] at hc26
     refine q2 (aG Z (q3 (W_ret (N_B_ret (N_K_ret (N_LP_ret (N_B_ret (N_K_ret (rt1 results22 Z ?_)))))))))
     exact H.rets (congrArg Value.bool (Sp.qallow_brk hz15 (by (rw [Sp.brk_eq hpv hqd (by simpa using hc19') (Sp.more_no hT3 hvT hfi10)]; simp; omega))).symm)
    intro hc26'
    try simp only [nrm] at hc26'
    refine W_skip (N_B (N_K (W_region (aD Z2 (mV Z (R_nil ?_))))))
    have H := H.dl 0
    refine N_lp (hJ := ⟨k + 1, _, Z, hle13, H, ?inv, Z⟩) (hm := ?hm)
    case hm => omega
    case inv => exact ⟨by omega, Sp.all_take hall hz15 (by (rw [Sp.brk_eq hpv hqd (by simpa using hc19') (Sp.more_no hT3 hvT hfi10)]; simp; omega))⟩
   intro hc14'
   try simp only [nrm] at hc14'
   refine W_exit (N_K_exit (N_LP_exit (N_B_same (N_K (q2 (aG Z (q3 (W_ret (rt1 results22 Z ?_)))))))))
   obtain rfl : k = list.length := by omega
   rw [List.take_length] at hall
   exact H.rets (congrArg Value.bool (Sp.qallow_yes (by assumption) hqv hpv oM oM hall).symm)
 skip
 have H := H.step ew10; refine ⟨_, rfl, ?_⟩
 refine aG Z (q1 (mV Z ?_))
 have H := H.tF 2
 obtain ⟨_, _, _, _, oFs, _, H, ohri, ohNs, _, _, _, hclose⟩ := Hp.openNode H hN3 (Nd.find_at_ hfi10)
 obtain ⟨_, _, rfl⟩ := H.accShape (k := 1) rfl; have hdo := PLe.refl G3; have hn_ohri := ohri.len
 have hl8 := Sp.load_len8 hVx d10.ids; have hlo := Sp.find_ids hT3 hvt hfi10
 refine o_nenil_ptr underlying119 Z Z Z (q3 (W_true Z (W_drawK [0, 3, 7] 13 H kR Z ?_))); intro _ H; have hd28 := PLe.refl G3
 refine dE 0 Z2 (dE 1 Z2 (dE 2 Z2 (dF 3 2 Z2 (dF 4 0 Z2 (dB 5 1 Z4 (dE 6 Z2 (dE 7 Z2 (dF 8 2 Z2 (dB 9 0 Z4 (r1 10 Z (xr H Z2 (i_sizeOf_c _ _ (H.lendSubL [4]) _ _ _ _ _ (H.lendPredL (k := 4) (ks := [4]) Z Z) hm3 (hS3.up (PPlus.le _ _ _)) hVx _ _ (ohri.up (PPlus.le _ _ _)) ) ?_))))))))))); intro _ H
 refine q4 H hd28 (RD_t 11 Z kR Z (fun _ hK => v_sub Z Z oO) (dE 12 Z2 (rz (N_K (W_seq (q2 ?_))))))
 have H := H.tF 7
 have H := H.tF 7
 have H := H.tF 7
 have H := H.tF 7
 have H := H.tF 7
 have H := H.tF 7
 have H := H.tF 7
 have H := H.tF 7
 obtain ⟨F2, H, hN2, hb2⟩ := hclose (Fs' := oFs) H (List.Perm.refl _) hdo ohri ohNs oM
 have hN2 := (Nd.upd_same (Nd.find_at_ hfi10)) ▸ hN2
 refine mV Z (lN Z (mV Z (q3 (W_block ?_))))
 have H := H.dl 3
 have H := H.dl 3
 obtain ⟨ln31, hln31, H⟩ := H.name (k := 1) rfl
 obtain ⟨ln32, hln32, H⟩ := H.name (k := 3) rfl
 refine W_lp (hf := (Sub.cons (t := 2) Z (Sub.cons (t := 9) Z (Sub.cons (t := 11) Z (Sub.cons (t := 63) Z (Sub.cons (t := 64) Z Sub.nil)))))) (J := fun M w m => ∃ (k : Nat) (G : PH), M = [(65, .int .i64 (k : Int))] ∧ PLe G3 G ∧ Hp w0 G0 [] w G [frag F2, blk db3 (cl ln31 133), blk mb3 (.map es3 ck3), blk b2 (cl ln32 27)] ∧ (k ≤ list.length ∧ (list.take k).all (fun q => !Sp.breaks d path size q) = true) ∧ m = (list.length - k)) (h0 := ⟨0, _, Z, PLe.refl _, H, ?inv, Z⟩) (round := ?round)
 case inv => exact ⟨by omega, by simp⟩
 case round =>
  rintro _ _ _ ⟨k, G33, rfl, hle33, H, hinv33, rfl⟩
  subst hln31
  subst hln32
  have hlist := hlist.up hle33
  have hbk := hbk.up hle33
  have hS3 := hS3.up hle33
  have hN2 := hN2.up hle33
  obtain ⟨hk, hall⟩ := hinv33
  refine q2 (pe 1 Z (q3 (W_seq ?_)))
  refine W_cond Z ?_ ?_
  ·intro hc34
   try simp only [nrm] at hc34
   refine W_skip (N_K (W_seq (W_block (q2 (iP k hlist Z3 Z ?_))))); intro _ _ _ _ hz35 hE35 hrow35
   obtain ⟨rfl, hi35, _⟩ := hE35; have hy_hi35 : _ ≤ 16777216 := hi35
   have hqd := Sp.quota_dir hqv (List.mem_of_getElem? hz35)
   have hub := Sp.used_bnd hVx hvt hqd d.tree.length (Nat.le_refl _); (rw [List.take_length] at hub)
   refine o_loadagg_P H isAgg47 sizeOf47 Z Z hrow35 Z (xal H Z ?_); intro _ _ _ H
   refine xst 0 H Z8 ?_; intro _ H
   refine q3 (W_seq (q2 (mV Z (fA 0 Z (lB 0 H Z3 (xr H Z2 (i_PathWithin_c _ _ H.sub _ hpath _ hi35 ) ?_)))))); intro _ H
   refine pe 1 Z (q3 ?_)
   refine W_cond Z ?_ ?_
   ·intro hc39
    try simp only [nrm] at hc39
    refine W_exit (N_K_exit (N_B_same (N_K (W_region (aD Z2 (mV Z (R_nil ?_)))))))
    have H := H.dl 0
    refine N_lp (hJ := ⟨k + 1, _, Z, hle33, H, ?inv, Z⟩) (hm := ?hm)
    case hm => omega
    case inv => exact ⟨by omega, Sp.all_take hall hz35 (by (rw [Sp.brk_no hpv hqd (by simpa using hc39)]; rfl))⟩
   intro hc39'
   try simp only [nrm] at hc39'
   refine W_skip (N_K (W_seq (W_drawK [0, 2, 4] 12 H kR Z ?_))); intro _ H; have hd41 := PLe.refl G33
   refine RD_t 0 Z kR Z (fun _ hK => v_loadagg_B 0 hK isAgg47 sizeOf47 Z Z Z Z) (dE 1 Z2 (dE 2 Z2 (dF 3 2 Z2 (RD_t 4 Z kR Z (fun _ hK => v_loadagg_B 1 hK isAgg123 sizeOf123 Z Z Z Z) (dF 5 0 Z2 (dB 6 0 Z4 (dE 8 Z2 (r1 7 Z (xr H Z2 (i_used_c _ _ (H.lendSubL [1, 1, 3, 3]) _ _ _ _ _ _ (H.lendPredL (k := 3) (ks := [1, 1, 3, 3]) Z Z) hm3 (hS3.up (PPlus.le _ _ _)) hVx (H.lendN (k := 1) (ks := [1, 1, 3, 3]) Z Z hN2) _ hi35 _ hT3 hvt hqd) ?_))))))))); intro _ H
   refine q4 H hd41 (RD_t 9 Z kR Z (fun _ hK => v_add Z Z oO) (r1 10 Z ?_))
   refine xr H Z2 (i_check_c _ _ H.sub _ _ ⟨Z, hi35, ⟨by first | omega | (dsimp only; omega), by first | omega | (dsimp only; omega)⟩⟩ _ _ hbk) ?_; intro _ H
   refine q4 H hd41 (dE 11 Z2 (rz (N_K (q2 (mV Z (o_load_P H isAgg140 Z Z hbk (xr H Z2 (is_brk _ _ H.sub _ _) ?_))))))); intro _ H
   refine q3 ?_
   refine W_cond Z ?_ ?_
   ·intro hc46
    try simp only [nrm] at hc46
    refine q2 (aG Z (q3 (W_ret (N_B_ret (N_K_ret (N_LP_ret (N_B_ret (N_K_ret (rt1 results22 Z ?_)))))))))
    exact H.rets (congrArg Value.bool (Sp.qallow_brk hz35 (by (rw [Sp.brk_eq hpv hqd (by simpa using hc39') (Sp.more_yes hT3 hvT hfi10 hpv hqd (by assumption))]; simp; omega))).symm)
   intro hc46'
   try simp only [nrm] at hc46'
   refine W_skip (N_B (N_K (W_region (aD Z2 (mV Z (R_nil ?_))))))
   have H := H.dl 0
   refine N_lp (hJ := ⟨k + 1, _, Z, hle33, H, ?inv, Z⟩) (hm := ?hm)
   case hm => omega
   case inv => exact ⟨by omega, Sp.all_take hall hz35 (by (rw [Sp.brk_eq hpv hqd (by simpa using hc39') (Sp.more_yes hT3 hvT hfi10 hpv hqd (by assumption))]; simp; omega))⟩
  intro hc34'
  try simp only [nrm] at hc34'
  refine W_exit (N_K_exit (N_LP_exit (N_B_same (N_K (q2 (aG Z (q3 (W_ret (rt1 results22 Z ?_)))))))))
  obtain rfl : k = list.length := by omega
  rw [List.take_length] at hall
  exact H.rets (congrArg Value.bool (Sp.qallow_yes (by assumption) hqv hpv oM oM hall).symm)
end Go.Proofs.Tst

namespace Go.Proofs.Tst
open Go Fw Tryz
theorem QuotasAllow_c (w0 : World) (G0 : PH) (hG : PSub G0 w0) (cd : List Value) (d : BDisk) (hd : diskE G0 d cd) (vlist : Value) (list : List (BQuota)) (hlist : RdQ G0 vlist list) (path : Bs) (hpath : path.length ≤ 16777216) (size : Int)  :
  Calls Tryz.prog 23 #[.agg cd.toArray, vlist, str path, .int .i64 size] w0 (Rets w0 (.bool (Sp.QuotasAllow d list path size))) := by
 obtain ⟨_, _, _, _, _, _, _, _, _, rfl, hr1, hr1', hr1'', ⟨_, _⟩, ⟨_, _⟩, _, _⟩ := ox hd
 obtain ⟨alist, klist, rfl⟩ := hlist.shape
 have hlimlist : list.length ≤ 1099511627776 := hlist.lim
 have H := Hp.init hG
 refine calls_of_W (l := [_, .slice alist list.length klist, str path, .int .i64 size]) func23 Z ntmps23 Z (q2 (o_box H Z Z Z ?_)); intro b2 _ _ H
 refine aG Z (q3 (W_seq (q2 (lA 0 3 H Z4 (xr H Z2 (DiskValid_c _ _ H.sub _ d ⟨_, _, _, _, _, _, _, _, _, Z, hr1, hr1', hr1''⟩ ) ?_))))); intro _ H
 refine pe 2 Z ?_
 refine R_case (t := 13) Z ?_ ?_
 ·intro hc4
  try simp only [nrm] at hc4
  refine pe 14 Z (q3 (W_true Z (q2 (aG Z (q3 (W_ret (N_K_ret (rt1 results23 Z ?_))))))))
  exact H.rets (congrArg Value.bool (Sp.qallow_no (.inl (by simpa using hc4))).symm)
 intro hc4'
 try simp only [nrm] at hc4'
 refine pe 1 Z (gR Z (xr H Z2 (QuotasValid_c _ _ H.sub _ _ hlist ) ?_)); intro _ H
 refine pe 3 Z ?_
 refine R_case (t := 18) Z ?_ ?_
 ·intro hc6
  try simp only [nrm] at hc6
  refine pe 9 Z (q3 (W_true Z (q2 (aG Z (q3 (W_ret (N_K_ret (rt1 results23 Z ?_))))))))
  exact H.rets (congrArg Value.bool (Sp.qallow_no (.inr (.inl (by simpa using hc6)))).symm)
 intro hc6'
 try simp only [nrm] at hc6'
 refine pe 1 Z (gR Z (xr H Z2 (PathValid_c _ _ H.sub _ hpath ) ?_)); intro _ H
 refine pe 3 Z ?_
 refine R_case (t := 23) Z ?_ ?_
 ·intro hc8
  try simp only [nrm] at hc8
  refine pe 4 Z (q3 (W_true Z (q2 (aG Z (q3 (W_ret (N_K_ret (rt1 results23 Z ?_))))))))
  exact H.rets (congrArg Value.bool (Sp.qallow_no (.inr (.inr (.inl (by simpa using hc8))))).symm)
 intro hc8'
 try simp only [nrm] at hc8'
 refine pe 1 Z (gR Z (xr H Z2 (l6In_c _ _ _ _ ) ?_)); intro _ H
 refine pe 2 Z (q3 ?_)
 refine W_cond Z ?_ ?_
 ·intro hc10
  try simp only [nrm] at hc10
  refine q2 (aG Z (q3 (W_ret (N_K_ret (rt1 results23 Z ?_)))))
  exact H.rets (congrArg Value.bool (by (unfold Sp.QuotasAllow; (rw [show Sp.l6In size 0 32 = false by simpa using hc10]); simp)))
 intro hc10'
 try simp only [nrm] at hc10'
 refine W_skip (N_K (W_seq (q2 ?_)))
 have hdv : Sp.DiskValid d = true := by first | assumption | simp_all
 have hqv : Sp.QuotasValid list = true := by first | assumption | simp_all
 have hpv : Sp.PathValid path = true := by first | assumption | simp_all
 have hVx := Sp.valid_iff.1 (Sp.dv_parts.1 hdv).1; have hvt := (Sp.dv_parts.1 hdv).2.1; have htl := Sp.tree_len hvt
 have hin : Sp.l6In size 0 32 = true := by first | assumption | simp_all
 have hsz : 0 ≤ size ∧ size ≤ 32 := by simpa [Sp.l6In] using hin
 refine aG Z (q3 (W_block ?_))
 obtain ⟨ln11, hln11, H⟩ := H.name (k := 0) rfl
 refine W_lp (hf := (Sub.cons (t := 1) Z (Sub.cons (t := 2) Z (Sub.cons (t := 3) Z (Sub.cons (t := 4) Z Sub.nil))))) (J := fun M w m => ∃ (k : Nat) (G : PH), M = [(9, .int .i64 (k : Int))] ∧ PLe G0 G ∧ Hp w0 G0 [] w G [blk b2 (cl ln11 27)] ∧ (k ≤ list.length ∧ (list.take k).all (fun q => !Sp.breaks d path size q) = true) ∧ m = (list.length - k)) (h0 := ⟨0, _, Z, PLe.refl _, H, ?inv, Z⟩) (round := ?round)
 case inv => exact ⟨by omega, by simp⟩
 case round =>
  rintro _ _ _ ⟨k, G12, rfl, hle12, H, hinv12, rfl⟩
  subst hln11
  have hr1 := hr1.up hle12
  have hr1' := hr1'.up hle12
  have hr1'' := hr1''.up hle12
  have hlist := hlist.up hle12
  obtain ⟨_, hall⟩ := hinv12
  refine W_seq (q2 (pe 2 Z (lN Z (pe 1 Z (q3 ?_)))))
  refine W_cond Z ?_ ?_
  ·intro hc13
   try simp only [nrm] at hc13
   refine W_skip (N_K (W_seq (W_block (W_seq (W_drawK [0] 25 H kR Z ?_))))); intro _ H; have hd14 := PLe.refl G12
   refine dE 0 Z2 (dE 1 Z2 (dE 2 Z2 ?_))
   have hl15 := hlist.len
   obtain ⟨_, _, z15, _, ha15, hz15, hq15, hE15, hrow15, _⟩ := hlist.at (i := k) oM
   clear hq15
   obtain ⟨rfl, hi15, _⟩ := hE15; have hy_hi15 : _ ≤ 16777216 := hi15
   have hub15 := Sp.used_bnd2 hVx hvt z15.dir path d.tree.length (Nat.le_refl _); (rw [List.take_length] at hub15)
   refine dI 3 2 k ha15 Z3 Z (dF 4 0 Z2 (dP 5 hrow15 0 Z3 (r1 6 Z (xr H Z2 (l1Within_c _ _ H.sub _ hpath _ hi15 ) ?_)))); intro _ H
   refine q4 H hd14 (dE 7 Z2 ?_)
   refine RD_case (t := 41) Z ?_ ?_
   ·intro hc17
    try simp only [nrm] at hc17
    refine RD_tg 8 Z kR Z (yl Z Z) (fun _ hK => v_loadagg_B 0 hK isAgg27 sizeOf27 Z Z Z Z) (dE 9 Z2 (dE 10 Z2 ?_))
    have hl18 := hlist.len
    obtain ⟨_, _, z18, _, ha18, hz18, hq18, hE18, hrow18, _⟩ := hlist.at (i := k) oM
    clear hq18
    obtain ⟨rfl, hi18, _⟩ := hE18; have hy_hi18 : _ ≤ 16777216 := hi18
    have hzz18 : z15 = z18 := Option.some.inj (hz15.symm.trans hz18)
    subst hzz18
    have hub18 := Sp.used_bnd2 hVx hvt z15.dir path d.tree.length (Nat.le_refl _); (rw [List.take_length] at hub18)
    refine dI 11 2 k ha18 Z3 Z (dF 12 0 Z2 (dP 13 hrow18 0 Z3 (dE 14 Z2 (dE 16 Z2 (dE 18 Z2 (dE 19 Z2 ?_))))))
    have hl19 := hlist.len
    obtain ⟨_, _, z19, _, ha19, hz19, hq19, hE19, hrow19, _⟩ := hlist.at (i := k) oM
    clear hq19
    obtain ⟨rfl, hi19, _⟩ := hE19; have hy_hi19 : _ ≤ 16777216 := hi19
    have hzz19 : z15 = z19 := Option.some.inj (hz15.symm.trans hz19)
    subst hzz19
    have hub19 := Sp.used_bnd2 hVx hvt z15.dir path d.tree.length (Nat.le_refl _); (rw [List.take_length] at hub19)
    refine dI 20 2 k ha19 Z3 Z (dF 21 1 Z2 (dP 22 hrow19 1 Z3 (r1 15 Z (gR Z (xr H Z2 (l15Used_c _ _ H.sub _ d ⟨_, _, _, _, _, _, _, _, _, Z, hr1, hr1', hr1''⟩ _ hi18 _ hpath hdv) ?_))))); intro _ H
    refine q4 H hd14 (RD_tg 17 Z kR Z (yl Z Z) (fun _ hK => v_add Z Z oO) (dE 23 Z2 (dE 24 Z2 (rz (N_K ?_)))))
    refine W_cond Z ?_ ?_
    ·intro hc22
     try simp only [nrm] at hc22
     refine q2 (aG Z (q3 (W_ret (N_B_ret (N_K_ret (N_LP_ret (N_B_ret (N_K_ret (rt1 results23 Z ?_)))))))))
     exact H.rets (congrArg Value.bool (Sp.qallow_brk hz15 (by (simp only [Sp.breaks, Bool.and_eq_true, decide_eq_true_eq]; exact ⟨hc17, by omega⟩))).symm)
    intro hc22'
    try simp only [nrm] at hc22'
    refine W_skip (N_B (N_K (W_region (mV Z (aD Z2 (aG Z (R_nil ?_)))))))
    refine N_lp (hJ := ⟨k + 1, _, Z, hle12, H, ?inv, Z⟩) (hm := ?hm)
    case hm => omega
    case inv => exact ⟨by omega, Sp.all_take hall hz15 (by (simp only [Sp.breaks]; simp_all; try omega))⟩
   intro hc17'
   try simp only [nrm] at hc17'
   refine dE 8 Z2 (dE 9 Z2 (dE 10 Z2 (dE 11 Z2 (dE 12 Z2 (dE 13 Z2 (dE 14 Z2 (dE 15 Z2 (dE 16 Z2 (dE 17 Z2 (dE 18 Z2 (dE 19 Z2 (dE 20 Z2 (dE 21 Z2 (dE 22 Z2 (dE 23 Z2 ?_)))))))))))))))
   refine dE 24 Z2 (rz (N_K (W_false Z (W_skip (N_B (N_K (W_region (mV Z (aD Z2 (aG Z (R_nil ?_)))))))))))
   refine N_lp (hJ := ⟨k + 1, _, Z, hle12, H, ?inv, Z⟩) (hm := ?hm)
   case hm => omega
   case inv => exact ⟨by omega, Sp.all_take hall hz15 (by (simp only [Sp.breaks]; simp_all; try omega))⟩
  intro hc13'
  try simp only [nrm] at hc13'
  refine W_exit (N_K_exit (N_LP_exit (N_B_same (N_K (q2 (aG Z (q3 (W_ret (rt1 results23 Z ?_)))))))))
  obtain rfl : k = list.length := by omega
  rw [List.take_length] at hall
  exact H.rets (congrArg Value.bool (by (unfold Sp.QuotasAllow; (rw [hdv, hqv, hpv, hin, hall]); rfl)))
end Go.Proofs.Tst

namespace Go.Proofs.Tst
open Go Fw Tryz
theorem l92Quotas_c (w0 : World) (G0 : PH) (hG : PSub G0 w0) (rb : Nat) (ab : Option Addr) (mb kb : Nat) (bs : List UInt8) (p : Nat) (hbs : RdU G0 (.slice ab mb kb) bs) (hrb : w0.heap[rb]? = some (cl [.slice ab mb kb, .int .i64 (p : Int)] 192)) (hrn : G0 rb = none) (hp : p ≤ 1000000000)  :
  Calls Tryz.prog 73 #[.pointer (some ⟨rb, 0, none⟩)] w0 (RetM w0 G0 [rb] (fun G val Bs => ∃ (p' : Nat) (x : List BQuota) (v : Value) (c : List Value), p' ≤ p + 100 ∧ val = v ∧ Chk quotaE 2 G c x ∧ x.length ≤ 5 ∧ Bs = [acc 47 2 v x.length c, blk rb (cl [.slice ab mb kb, .int .i64 (p' : Int)] 192)])) := by
 have hlimbs : bs.length ≤ 1099511627776 := hbs.lim; obtain rfl : mb = bs.length := hbs.len
 have H := Hp.initM hG hrb hrn
 refine calls_of_W (l := [.pointer (some ⟨rb, 0, none⟩)]) func73 Z ntmps73 Z (q2 (aG Z (q1 (xbs H Z7 ?_)))); intro _ _ _ H
 have H := H.blkAcc 2 (k := 0) (n := 0) rfl rfl (by decide)
 refine aG Z (q1 (xbs H Z7 ?_)); intro _ _ _ H
 refine aG Z (q3 (W_seq (q2 (aG Z (q3 (W_block ?_))))))
 have H := H.blkAcc 1 (k := 0) (n := 5) rfl rfl (by decide)
 have hchk3 := ((((((Chk.nil (E := strE) (sz := 1) (G := G0)).snoc (show strE _ ([] : Fw.Bs) [str []] from ⟨rfl, by decide⟩) rfl).snoc (show strE _ ([97] : Fw.Bs) [str [97]] from ⟨rfl, by decide⟩) rfl).snoc (show strE _ ([97, 47, 120] : Fw.Bs) [str [97, 47, 120]] from ⟨rfl, by decide⟩) rfl).snoc (show strE _ ([98] : Fw.Bs) [str [98]] from ⟨rfl, by decide⟩) rfl).snoc (show strE _ ([99] : Fw.Bs) [str [99]] from ⟨rfl, by decide⟩) rfl)
 obtain ⟨G4, H, hsg4, hsr4⟩ := H.shutM (k := 0) (j := 1) rfl rfl hchk3 aN aN
 have hbs := hbs.up hsg4
 have hl_hsr4 := hsr4.len
 refine W_lp (hf := (Sub.cons (t := 0) Z (Sub.cons (t := 2) Z (Sub.cons (t := 4) Z Sub.nil)))) (J := fun M w m => ∃ (v : Value) (n : Nat) (cs : List Value) (xs : List (BQuota)) (k : Nat) (pp : Nat) (G : PH), M = [(5, .int .i64 (k : Int)), (3, v)] ∧ PLe G4 G ∧ Hp w0 G0 [rb] w G [acc 47 2 v n cs, blk rb (cl [.slice ab bs.length kb, .int .i64 (pp : Int)] 192)] ∧ (Chk quotaE 2 G cs xs ∧ n = xs.length ∧ k ≤ 5 ∧ xs.length ≤ k ∧ pp ≤ p + 10 + 2 * k) ∧ m = (6 - k)) (h0 := ⟨_, _, _, [], 0, p, _, Z, PLe.refl _, H, ?inv, Z⟩) (round := ?round)
 case inv => exact ⟨(Chk.nil (E := quotaE) (sz := 2) (G := G4)),  by first | rfl | simp | (simp; omega) | omega, (by exact ⟨by omega, by simp, by omega⟩)⟩
 case round =>
  rintro _ _ _ ⟨v, n, cs, xs, k, pp, _, rfl, hle5, H, hinv5, rfl⟩
  have hbs := hbs.up hle5
  have hsr4 := hsr4.up hle5
  obtain ⟨hchk5_0, _, hinv5⟩ := hinv5
  obtain ⟨_, _, rfl⟩ := H.accShape (k := 0) rfl
  obtain ⟨_, _, _⟩ := hinv5
  refine W_seq (q2 (pe 2 Z (lN Z (pe 1 Z (q3 ?_)))))
  refine W_cond Z ?_ ?_
  ·intro hc6
   try simp only [nrm] at hc6
   refine W_skip (N_K (W_seq (W_block (q2 (mV Z (xc Z2 (pick_c _ _ H.sub _ _ _ _ _ _ hbs (H.blkIs (k := 1) Z).1 (H.blkIs (k := 1) Z).2 oM _ oO ) ?_))))))
   rintro _ _ ⟨G7, _, _, rfl, H7', ⟨p7, _, _, rfl, _, rfl⟩⟩
   have hbs := hbs.up H7'.le
   have hsr4 := hsr4.up H7'.le
   have hchk5_0 := hchk5_0.up H7'.le
   have hle5 := hle5.trans H7'.le
   have H := H.borrow (k := 1) rfl H7'
   refine ⟨_, Z, ?_⟩
   refine pe 1 Z (q3 ?_)
   refine W_cond Z ?_ ?_
   ·intro hc8
    try simp only [nrm] at hc8
    refine W_drawK [] 11 H kR Z ?_; intro _ H; have hd9 := PLe.refl G7
    refine dE 0 Z2 (dE 1 Z2 (dE 2 Z2 ?_))
    have hl10 := hsr4.len
    obtain ⟨_, _, z10, _, ha10, _, hq10, hE10, hrow10, _⟩ := hsr4.at (i := k) oM
    clear hq10
    obtain ⟨rfl, hi10⟩ := hE10; have hy_hi10 : _ ≤ 16777216 := hi10
    refine dI 3 1 k ha10 Z3 Z (dP 4 hrow10 0 Z3 (dE 5 Z2 (r1 6 Z (xc Z2 (pick_c _ _ H.sub _ _ _ _ _ _ hbs (H.blkIs (k := 0) Z).1 (H.blkIs (k := 0) Z).2 oM _ oO ) ?_))))
    rintro _ _ ⟨_, _, _, rfl, H11', ⟨p11, x11, _, rfl, _, rfl⟩⟩
    have hchk5_0 := hchk5_0.up H11'.le
    have hle5 := hle5.trans H11'.le
    have hd9 := hd9.trans H11'.le
    have H := H.borrow (k := 0) rfl H11'
    refine ⟨_, Z, ?_⟩
    refine q4 H hd9 (RD_t 7 Z kR Z (fun _ hK => v_build bf47 Z Z) (r1 8 Z (xbs H Z7 ?_))); intro _ _ _ H
    refine q4 H hd9 (r1 9 Z (o_append1 1 H (sz := 2) (bytes := 24) underlying40 typeInfo47 ⟨_, Z, Z⟩ Z Z Z Z Z Z Z Z Z Z oM Z ?_)); intro _ _ H
    have hchk13 := hchk5_0.snoc (show quotaE _ ⟨z10, (x11 : Int)⟩ _ from ⟨rfl, hi10, ⟨by first | omega | (dsimp only; omega), by first | omega | (dsimp only; omega)⟩⟩) rfl
    obtain ⟨_, _, rfl⟩ := H.accShape (k := 1) rfl
    refine q4 H hd9 (dE 10 Z2 (rz (N_B (N_K (W_region (mV Z (aD Z2 (aG Z (R_nil ?_)))))))))
    have H := H.tF 1
    refine N_lp (hJ := ⟨_, _, _, (xs ++ [⟨z10, (x11 : Int)⟩]), k + 1, p11, _, Z, hle5, H, ?inv, Z⟩) (hm := ?hm)
    case hm => omega
    case inv => exact ⟨hchk13, aN, (by exact ⟨by omega, by first | (simp; omega) | omega, by omega⟩)⟩
   intro hc8'
   try simp only [nrm] at hc8'
   refine W_skip (N_B (N_K (W_region (mV Z (aD Z2 (aG Z (R_nil ?_)))))))
   have H := H.tF 1
   refine N_lp (hJ := ⟨_, _, _, xs, k + 1, p7, _, Z, hle5, H, ?inv, Z⟩) (hm := ?hm)
   case hm => omega
   case inv => exact ⟨hchk5_0, aN, (by exact ⟨by omega, by first | (simp; omega) | omega, by omega⟩)⟩
  intro hc6'
  try simp only [nrm] at hc6'
  refine W_exit (N_K_exit (N_LP_exit (N_B_same (N_K (W_seq (q2 (mV Z (lN Z (pe 2 Z ?_)))))))))
  refine R_case (t := 30) Z ?_ ?_
  ·intro hc16
   try simp only [nrm] at hc16
   refine pe 1 Z (gR Z (xc Z2 (pick_c _ _ H.sub _ _ _ _ _ _ hbs (H.blkIs (k := 1) Z).1 (H.blkIs (k := 1) Z).2 oM _ oO ) ?_))
   rintro _ _ ⟨_, _, _, rfl, H17', ⟨_, _, _, rfl, _, rfl⟩⟩
   have hbs := hbs.up H17'.le
   have hchk5_0 := hchk5_0.up H17'.le
   have H := H.borrow (k := 1) rfl H17'
   refine ⟨_, Z, ?_⟩
   refine pe 2 Z (q3 ?_)
   refine W_cond Z ?_ ?_
   ·intro hc18
    try simp only [nrm] at hc18
    refine W_region (pe 3 Z (lN Z (xc Z2 (pick_c _ _ H.sub _ _ _ _ _ _ hbs (H.blkIs (k := 0) Z).1 (H.blkIs (k := 0) Z).2 oM _ oO ) ?_)))
    rintro _ _ ⟨_, _, _, rfl, H19', ⟨_, x19, _, rfl, _, rfl⟩⟩
    have hbs := hbs.up H19'.le
    have hchk5_0 := hchk5_0.up H19'.le
    have H := H.borrow (k := 0) rfl H19'
    refine ⟨_, Z, ?_⟩
    refine xbs H Z7 ?_; intro _ _ _ H
    refine mV Z (xc Z2 (pick_c _ _ H.sub _ _ _ _ _ _ hbs (H.blkIs (k := 1) Z).1 (H.blkIs (k := 1) Z).2 oM _ oO ) ?_)
    rintro _ _ ⟨G21, _, _, rfl, H21', ⟨_, x21, _, rfl, _, rfl⟩⟩
    have hchk5_0 := hchk5_0.up H21'.le
    have H := H.borrow (k := 1) rfl H21'
    refine ⟨_, Z, ?_⟩
    have H := H.blkAcc 1 (k := 1) (n := 3) rfl rfl (by decide)
    have hchk23 := ((((Chk.nil (E := intE) (sz := 1) (G := G21)).snoc (show intE _ ((-1) : Int) [.int .i64 (-1)] from ⟨rfl, by decide⟩) rfl).snoc (show intE _ (999 : Int) [.int .i64 999] from ⟨rfl, by decide⟩) rfl).snoc (show intE _ (1000 : Int) [.int .i64 1000] from ⟨rfl, by decide⟩) rfl)
    obtain ⟨_, H, hsg24, hsr24⟩ := H.shutM (k := 1) (j := 0) rfl rfl hchk23 aN aN
    have hchk5_0 := hchk5_0.up hsg24
    have hl_hsr24 := hsr24.len
    refine iP x21 hsr24 Z3 Z ?_; intro _ _ z22 _ _ hE22 hrow22
    obtain ⟨rfl, _⟩ := hE22
    refine lP H hrow22 0 Z2 (o_index_A 1 H x19 Z hchk5_0 underlying40 sizeOf47 Z Z Z Z aN aN ?_); intro _ z25 _ hba25 hz25 hE25 _; cases hba25
    obtain ⟨rfl, hi25, _⟩ := hE25; have hy_hi25 : _ ≤ 16777216 := hi25
    refine fA 1 Z ?_
    have hcl26 := hchk5_0.length
    refine o_store_A 1 H sizeOf3 Z Z Z Z Z (by simp only [vc, List.length_cons, List.length_nil]; omega) ?_; intro _ H
    have hchk26 := hchk5_0.put (x' := ⟨z25.dir, z22⟩) (off := 1) (vs := [_]) hz25 (fun cs hl hE => by obtain ⟨rfl, h1, _⟩ := hE; exact ⟨rfl, h1, ⟨by first | omega | (dsimp only; omega), by first | omega | (dsimp only; omega)⟩⟩) (by simp only [vc, List.length_cons, List.length_nil]; omega)
    refine q1 (pe 2 Z (q3 (W_ret (rt1 results73 Z ?_))))
    have H := H.tF 1
    have hcx := hchk26
    exact H.retM ⟨_, (xs.set x19 ⟨z25.dir, z22⟩), _, _, oM, rfl, hcx, (by first | (simp; done) | (simp; omega) | (simp at *; omega) | omega), acc_1 aN⟩
   intro hc18'
   try simp only [nrm] at hc18'
   refine W_skip (N_K (q2 (pe 2 Z (q3 (W_ret (rt1 results73 Z ?_))))))
   have H := H.tF 1
   have hcx := hchk5_0
   exact H.retM ⟨_, xs, _, _, oM, rfl, hcx, (by first | (simp; done) | (simp; omega) | (simp at *; omega) | omega), acc_1 aN⟩
  intro hc16'
  try simp only [nrm] at hc16'
  refine pe 4 Z (q3 (W_false Z (W_skip (N_K (q2 (pe 2 Z (q3 (W_ret (rt1 results73 Z ?_)))))))))
  have H := H.tF 1
  have H := H.tF 1
  have hcx := hchk5_0
  exact H.retM ⟨_, xs, _, _, oM, rfl, hcx, (by first | (simp; done) | (simp; omega) | (simp at *; omega) | omega), acc_1 aN⟩
end Go.Proofs.Tst

namespace Go.Proofs.Tst
open Go Fw Tryz
theorem DrawQuotasAllow_c (w0 : World) (G0 : PH) (hG : PSub G0 w0) (vcode : Value) (code : List (UInt8)) (hcode : RdU G0 vcode code)  :
  Calls Tryz.prog 21 #[vcode] w0 (RetP w0 G0 (fun G v => ∃ (cs : List Value) (x : BDisk) (va : Value) (qs : List BQuota) (p : Bs) (n : Int), v = .tuple #[.agg cs.toArray, va, str p, .int .i64 n] ∧ diskE G x cs ∧ RdQ G va qs ∧ p.length ≤ 16777216 ∧ n ≤ 1000)) := by
 obtain ⟨acode, kcode, rfl⟩ := hcode.shape
 have hlimcode : code.length ≤ 1099511627776 := hcode.lim
 have H := Hp.init hG
 refine calls_of_W (l := [.slice acode code.length kcode]) func21 Z ntmps21 Z (q2 (xal H Z ?_)); intro _ _ _ H
 refine pe 3 Z (q1 (mV Z (xc Z2 (l6Open_c _ _ H.sub _ _ hcode ) ?_)))
 rintro _ _ ⟨_, _, _, g2, rfl, ⟨_, _, _, _, _, rfl, rfl, hbs2⟩, hp2, hq2, hs2⟩
 have H := H.growO g2 hp2 hq2 hs2
 refine ⟨_, Z, ?_⟩
 refine aG Z (q1 (mV Z (xc Z2 (l91Disk_c _ _ H.sub _ _ _ _ _ _ hbs2 (H.blkIs (k := 0) Z).1 (H.blkIs (k := 0) Z).2 oM ) ?_)))
 rintro _ _ ⟨_, _, _, rfl, H3', ⟨_, _, _, _, st3, tr3, sn3, _, rfl, hst3, htr3, hsn3, rfl⟩⟩
 have hbs2 := hbs2.up H3'.le
 have H := H.borrow (k := 0) rfl H3'
 obtain ⟨_, _, rfl⟩ := hst3.shape; have hx_hst3 : _ ≤ 1099511627776 := hst3.lim; obtain ⟨_, _, rfl⟩ := htr3.shape; have hx_htr3 : _ ≤ 1099511627776 := htr3.lim; obtain ⟨_, _, rfl⟩ := hsn3.shape; have hx_hsn3 : _ ≤ 1099511627776 := hsn3.lim
 refine ⟨_, Z, ?_⟩
 refine xal H Z ?_; intro _ _ _ H
 refine xst 0 H Z8 ?_; intro _ H
 refine q1 (mV Z (xc Z2 (l92Quotas_c _ _ H.sub _ _ _ _ _ _ hbs2 (H.blkIs (k := 1) Z).1 (H.blkIs (k := 1) Z).2 oM ) ?_))
 rintro _ _ ⟨G6, _, _, rfl, H6', ⟨_, _, _, _, _, rfl, hchk6, _, rfl⟩⟩
 have hbs2 := hbs2.up H6'.le
 have hst3 := hst3.up H6'.le
 have htr3 := htr3.up H6'.le
 have hsn3 := hsn3.up H6'.le
 have H := H.borrow (k := 1) rfl H6'
 obtain ⟨_, _, rfl⟩ := H.accShape (k := 0) rfl
 refine ⟨_, Z, ?_⟩
 refine aG Z (q3 (W_seq (W_drawK [2] 17 H kR Z ?_))); intro _ H; have hd7 := PLe.refl G6
 refine RD_t 0 Z kR Z (fun _ hK => v_loadagg_B 0 hK isAgg27 sizeOf27 Z Z Z Z) (dE 1 Z2 (dE 2 Z2 (dF 3 1 Z2 (dB 4 0 Z4 (dE 6 Z2 (dE 8 Z2 (r1 5 Z (xc Z2 (l91At_c _ _ H.sub _ _ _ _ _ _ hbs2 (H.blkIs (k := 1) Z).1 (H.blkIs (k := 1) Z).2 oM _ _ htr3 ) ?_))))))))
 rintro _ _ ⟨_, _, _, rfl, H8', ⟨_, _, _, rfl, hxs8, rfl⟩⟩
 have hbs2 := hbs2.up H8'.le
 have hst3 := hst3.up H8'.le
 have htr3 := htr3.up H8'.le
 have hsn3 := hsn3.up H8'.le
 have hchk6 := hchk6.up H8'.le
 have hd7 := hd7.trans H8'.le
 have H := H.borrow (k := 1) rfl H8'
 refine ⟨_, Z, ?_⟩
 refine q4 H hd7 (r1 7 Z (xc Z2 (pick_c _ _ H.sub _ _ _ _ _ _ hbs2 (H.blkIs (k := 0) Z).1 (H.blkIs (k := 0) Z).2 oM _ oO ) ?_))
 rintro _ _ ⟨_, _, _, rfl, H9', ⟨_, _, _, rfl, _, rfl⟩⟩
 have hbs2 := hbs2.up H9'.le
 have hst3 := hst3.up H9'.le
 have htr3 := htr3.up H9'.le
 have hsn3 := hsn3.up H9'.le
 have hchk6 := hchk6.up H9'.le
 have hd7 := hd7.trans H9'.le
 have H := H.borrow (k := 0) rfl H9'
 refine ⟨_, Z, ?_⟩
 refine q4 H hd7 (r1 9 Z (xc Z2 (pick_c _ _ H.sub _ _ _ _ _ _ hbs2 (H.blkIs (k := 0) Z).1 (H.blkIs (k := 0) Z).2 oM _ oO ) ?_))
 rintro _ _ ⟨_, _, _, rfl, H10', ⟨_, _, _, rfl, _, rfl⟩⟩
 have hst3 := hst3.up H10'.le
 have htr3 := htr3.up H10'.le
 have hsn3 := hsn3.up H10'.le
 have hchk6 := hchk6.up H10'.le
 have hd7 := hd7.trans H10'.le
 have H := H.borrow (k := 0) rfl H10'
 refine ⟨_, Z, ?_⟩
 refine q4 H hd7 (RD_t 10 Z kR Z (fun _ hK => v_quo Z Z oM oM oM) (RD_t 11 Z kR Z (fun _ hK => v_mul Z Z oO) (RD_t 12 Z kR Z (fun _ hK => v_sub Z Z oO) (r1 13 Z (xst 3 H Z8 ?_))))); intro _ H
 refine q4 H hd7 (dE 14 Z2 (dE 15 Z2 (dE 16 Z2 (rz (N_K (W_ret (ret_gen (rs := [.cell 2 27, .tmp 3, .tmp 4, .tmp 5]) (vs := [_, _, _, _]) results21 ⟨⟨_, Z, load_blk 3 H isAgg27 sizeOf27 Z Z Z⟩, Z, Z, Z, trivial⟩ ?_)))))))
 obtain ⟨_, H, hsg14, hsr14⟩ := H.shut' (k := 1) rfl hchk6 aN aN
 have hst3 := hst3.up hsg14
 have htr3 := htr3.up hsg14
 have hsn3 := hsn3.up hsg14
 have H := H.dl 0
 have H := H.dl 0
 have H := H.dl 0
 exact H.retP ⟨_, ⟨st3, tr3, sn3⟩, _, _, _, _, Z, ⟨_, _, _, _, _, _, _, _, _, Z, hst3, htr3, hsn3⟩, hsr14, hxs8, oM⟩
end Go.Proofs.Tst

namespace Go.Proofs.Tst
open Go Fw Tryz
theorem lAllow_c (w0 : World) (G0 : PH) (hG : PSub G0 w0) (vcode : Value) (code : List (UInt8)) (hcode : RdU G0 vcode code) (ga : Addr) (hbk : BrkG ga G0) :
  Calls Tryz.prog 4 #[vcode] w0 (Rets w0 (.bool true)) := by
 obtain ⟨acode, kcode, rfl⟩ := hcode.shape
 have hlimcode : code.length ≤ 1099511627776 := hcode.lim
 have H := Hp.init hG
 refine calls_of_W (l := [.slice acode code.length kcode]) func4 Z ntmps4 Z (q2 (aG Z (q3 (W_seq (q2 (mV Z (lN Z (pe 1 Z (q3 ?_)))))))))
 refine W_cond Z ?_ ?_
 ·intro hc1
  try simp only [nrm] at hc1
  refine q2 (aG Z (q3 (W_ret (N_K_ret (rt1 results4 Z ?_)))))
  exact H.rets (congrArg Value.bool (by first | rfl | simp_all))
 intro hc1'
 try simp only [nrm] at hc1'
 refine W_skip (N_K (q2 (mV Z (xc Z2 (DrawQuotasAllow_c _ _ H.sub _ _ hcode ) ?_))))
 rintro _ _ ⟨G2, _, g2, rfl, ⟨_, uV, _, uQ, uP, uI, rfl, hV, hQ, hP0, _⟩⟩
 have H := H.grow g2
 have hbk := hbk.up g2.le
 obtain ⟨_, _, _, _, _, _, _, _, _, rfl, hr2, hr2', hr2'', ⟨_, _⟩, ⟨_, _⟩, _, _⟩ := ox hV
 obtain ⟨_, _, rfl⟩ := hQ.shape; have hx_hQ : _ ≤ 1099511627776 := hQ.lim
 refine ⟨_, Z, ?_⟩
 refine pe 5 Z (xal H Z ?_); intro _ _ _ H
 refine xst 0 H Z8 ?_; intro _ H
 refine pe 3 Z (q1 (lA 0 3 H Z4 (pe 3 Z (xr H Z2 (i_QuotasAllow_c _ _ H.sub _ uV ⟨_, _, _, _, _, _, _, _, _, Z, hr2, hr2', hr2''⟩ _ _ hQ _ hP0 _ _ hbk) ?_)))); intro _ H
 refine aG Z (q1 (lA 0 3 H Z4 (pe 3 Z (xr H Z2 (QuotasAllow_c _ _ H.sub _ uV ⟨_, _, _, _, _, _, _, _, _, Z, hr2, hr2', hr2''⟩ _ _ hQ _ hP0 _ ) ?_)))); intro _ H
 refine aG Z (q3 (W_seq (q2 (pe 2 Z (o_bneq_same underlying4 Z Z Z (pe 4 Z (q3 ?_)))))))
 refine W_cond Z ?_ ?_
 ·intro hc7
  try simp only [nrm] at hc7
  refine q2 (pe 2 Z (o_beql_same underlying4 Z Z Z (aG Z (q3 (W_ret (N_K_ret (rt1 results4 Z ?_)))))))
  exact H.rets (congrArg Value.bool (by first | rfl | simp_all))
 intro hc7'
 try simp only [nrm] at hc7'
 have hout : Sp.QuotasAllow uV uQ uP uI = true := by simpa using hc7'
 obtain ⟨_, _⟩ := Sp.qallow_size hout
 obtain ⟨nn, hnn⟩ : ∃ c : Nat, uI = (c : Int) := ⟨uI.toNat, by omega⟩
 refine W_skip (N_K (W_seq (W_drawK [0] 11 H kR Z ?_))); intro _ H; have hd8 := PLe.refl G2
 refine RD_t 0 Z kR Z (fun _ hK => v_loadagg_B 0 hK isAgg27 sizeOf27 Z Z Z Z) (dE 1 Z2 (dE 2 Z2 ?_))
 refine r2 3 8 Z2 ?_ ?_
 ·skip
  refine o_makeN (c := nn) (sz := 1) (bytes := 8) H underlying33 typeInfo3 ⟨_, Z, Z⟩ Z Z Z Z Z Z Z hnn hnn oM Z ?_; intro _ _ H
  have hchk9 := Chk.rep (E := intE) (sz := 1) (G := G2) (x0 := 0) (⟨rfl, by decide⟩) rfl (nn)
  refine q4 H hd8 ?_
  refine r2 4 8 Z2 ?_ ?_
  ·skip
   refine xc Z2 (i_DiskWrite_c _ _ (H.lendSubL [0]) _ uV ⟨_, _, _, _, _, _, _, _, _, Z, (hr2.up (PPlus.le _ _ _)), (hr2'.up (PPlus.le _ _ _)), (hr2''.up (PPlus.le _ _ _))⟩ _ hP0 _ _ (H.lendRdL (k := 0) (ks := [0]) Z Z hchk9 aN aN) ) ?_
   rintro _ _ ⟨_, _, rfl, H10', ⟨_, _, _, E110, E210, E310, rfl, rfl, ho110, ho210, ho310⟩⟩
   have H := H.readersL H10'
   obtain ⟨_, p110⟩ := ho110
   obtain ⟨_, _, rfl⟩ := OwnS.shape p110
   obtain ⟨_, p210⟩ := ho210
   obtain ⟨_, _, rfl⟩ := OwnS.shape p210
   obtain ⟨_, p310⟩ := ho310
   obtain ⟨_, _, rfl⟩ := OwnS.shape p310
   refine ⟨_, Z, ?_⟩
   refine q4 H hd8 (dE 5 Z2 (dE 6 Z2 (dE 7 Z2 (r1 8 Z (xal H Z ?_))))); intro b11 _ _ H
   refine q4 H hd8 (r1 9 Z (xst 0 H Z8 ?_)); intro _ H
   refine q4 H hd8 (dE 10 Z2 (rz (N_K (W_seq (q2 (pe 2 Z (q3 ?_)))))))
   refine W_cond Z ?_ ?_
   ·intro hc13
    try simp only [nrm] at hc13
    refine q2 (aG Z (q3 (W_ret (N_K_ret (rt1 results4 Z ?_)))))
    exact H.rets (congrArg Value.bool (by first | rfl | simp_all))
   intro hc13'
   try simp only [nrm] at hc13'
   refine W_skip (N_K (W_seq (q2 ?_)))
   obtain ⟨u2, hu2⟩ := Option.isSome_iff_exists.1 (show (Sp.DiskWrite uV uP (List.replicate nn 0)).isSome = true by simpa using hc13')
   have hW : (Sp.DiskWrite uV uP (List.replicate nn 0)).getD ⟨[], [], []⟩ = u2 := by (rw [hu2]; rfl)
   refine aG Z (q3 (W_block ?_))
   have H := H.dl 4
   have H := H.dl 4
   obtain ⟨ln14, hln14, H⟩ := H.name (k := 0) rfl
   refine W_lp (hf := (Sub.cons (t := 4) Z (Sub.cons (t := 5) Z (Sub.cons (t := 9) Z Sub.nil)))) (J := fun M w m => ∃ (k : Nat) (G : PH), M = [(11, .int .i64 (k : Int))] ∧ PLe G2 G ∧ Hp w0 G0 [] w G [blk b11 (cl ln14 27), frag E110, frag E210, frag E310] ∧ (k ≤ uQ.length) ∧ m = (uQ.length - k)) (h0 := ⟨0, _, Z, PLe.refl _, H, ?inv, Z⟩) (round := ?round)
   case inv => omega
   case round =>
    rintro _ _ _ ⟨k, G15, rfl, hle15, H, hinv15, rfl⟩
    subst hln14
    have hQ := hQ.up hle15
    have hk := hinv15
    refine W_seq (q2 (pe 2 Z (lN Z (pe 1 Z (q3 ?_)))))
    refine W_cond Z ?_ ?_
    ·intro hc16
     try simp only [nrm] at hc16
     refine W_skip (N_K (W_seq (W_block (W_seq (W_drawK [0] 22 H kR Z ?_))))); intro _ H; have hd17 := PLe.refl G15
     refine dE 0 Z2 (dE 1 Z2 (dE 2 Z2 ?_))
     have hl18 := hQ.len
     obtain ⟨_, _, z18, _, ha18, hz18, hq18, hE18, hrow18, _⟩ := hQ.at (i := k) oM
     clear hq18
     obtain ⟨rfl, hi18, _⟩ := hE18; have hy_hi18 : _ ≤ 16777216 := hi18
     refine dI 3 2 k ha18 Z3 Z (dF 4 0 Z2 (dP 5 hrow18 0 Z3 (r1 6 Z (xr H Z2 (i_PathWithin_c _ _ H.sub _ hP0 _ hi18 ) ?_)))); intro _ H
     refine q4 H hd17 (dE 7 Z2 ?_)
     refine RD_case (t := 65) Z ?_ ?_
     ·intro hc20
      try simp only [nrm] at hc20
      refine RD_tg 8 Z kR Z (yl Z Z) (fun _ hK => v_loadagg_B 0 hK isAgg27 sizeOf27 Z Z Z Z) (dE 9 Z2 (dE 10 Z2 ?_))
      have hl21 := hQ.len
      obtain ⟨_, _, z21, _, ha21, hz21, hq21, hE21, hrow21, _⟩ := hQ.at (i := k) oM
      clear hq21
      obtain ⟨rfl, hi21, _⟩ := hE21; have hy_hi21 : _ ≤ 16777216 := hi21
      have hzz21 : z18 = z21 := Option.some.inj (hz18.symm.trans hz21)
      subst hzz21
      refine dI 11 2 k ha21 Z3 Z (dF 12 0 Z2 (dP 13 hrow21 0 Z3 (dE 15 Z2 (dE 16 Z2 ?_))))
      have hl22 := hQ.len
      obtain ⟨_, _, z22, _, ha22, hz22, hq22, hE22, hrow22, _⟩ := hQ.at (i := k) oM
      clear hq22
      obtain ⟨rfl, hi22, _⟩ := hE22; have hy_hi22 : _ ≤ 16777216 := hi22
      have hzz22 : z18 = z22 := Option.some.inj (hz18.symm.trans hz22)
      subst hzz22
      refine dI 17 2 k ha22 Z3 Z (dF 18 1 Z2 (dP 19 hrow22 1 Z3 (r1 14 Z (gR Z (xr H Z2 (i_QuotaUsed_c _ _ (H.lendSubL [1, 2, 3]) _ ((Sp.DiskWrite uV uP (List.replicate nn 0)).getD ⟨[], [], []⟩) ⟨_, _, _, _, _, _, _, _, _, Z, (H.lendOHs (k := 1) (ks := [1, 2, 3]) Z Z ⟨_, p110⟩), (H.lendOIs (k := 2) (ks := [1, 2, 3]) Z Z ⟨_, p210⟩), (H.lendOSn (k := 3) (ks := [1, 2, 3]) Z Z ⟨_, p310⟩)⟩ _ hi21 ) ?_))))); intro _ H
      refine q4 H hd17 (dE 20 Z2 (dE 21 Z2 (rz (N_K ?_))))
      refine W_cond Z ?_ ?_
      ·intro hc24
       try simp only [nrm] at hc24
       refine q2 (aG Z (q3 (W_ret (N_B_ret (N_K_ret (N_LP_ret (N_B_ret (N_K_ret (rt1 results4 Z ?_)))))))))
       have hno := Sp.allow_ok hout hu2 (by simp [hnn]) (List.mem_of_getElem? hz18) (by assumption)
       rw [← hW] at hno
       exact absurd (show False by omega) id
      intro hc24'
      try simp only [nrm] at hc24'
      refine W_skip (N_B (N_K (W_region (mV Z (aD Z2 (aG Z (R_nil ?_)))))))
      refine N_lp (hJ := ⟨k + 1, _, Z, hle15, H, ?inv, Z⟩) (hm := ?hm)
      case hm => omega
      case inv => omega
     intro hc20'
     try simp only [nrm] at hc20'
     refine dE 8 Z2 (dE 9 Z2 (dE 10 Z2 (dE 11 Z2 (dE 12 Z2 (dE 13 Z2 (dE 14 Z2 (dE 15 Z2 (dE 16 Z2 (dE 17 Z2 (dE 18 Z2 (dE 19 Z2 (dE 20 Z2 (dE 21 Z2 (rz (N_K ?_)))))))))))))))
     refine W_false Z (W_skip (N_B (N_K (W_region (mV Z (aD Z2 (aG Z (R_nil ?_))))))))
     refine N_lp (hJ := ⟨k + 1, _, Z, hle15, H, ?inv, Z⟩) (hm := ?hm)
     case hm => omega
     case inv => omega
    intro hc16'
    try simp only [nrm] at hc16'
    refine W_exit (N_K_exit (N_LP_exit (N_B_same (N_K (q2 (aG Z (q3 (W_ret (rt1 results4 Z ?_)))))))))
    exact H.rets (congrArg Value.bool (by first | rfl | simp_all))
  skip
  refine xal H Z ?_; intro b27 _ _ H
  refine q4 H hd8 (r1 4 Z (xc Z2 (i_DiskWrite_c _ _ (H.lendSubL [1]) _ uV ⟨_, _, _, _, _, _, _, _, _, Z, (hr2.up (PPlus.le _ _ _)), (hr2'.up (PPlus.le _ _ _)), (hr2''.up (PPlus.le _ _ _))⟩ _ hP0 _ _ (H.lendRdL (k := 1) (ks := [1]) Z Z hchk9 aN aN) ) ?_))
  rintro _ _ ⟨_, _, rfl, H28', ⟨_, _, _, E128, E228, E328, rfl, rfl, ho128, ho228, ho328⟩⟩
  have H := H.readersL H28'
  obtain ⟨_, p128⟩ := ho128
  obtain ⟨_, _, rfl⟩ := OwnS.shape p128
  obtain ⟨_, p228⟩ := ho228
  obtain ⟨_, _, rfl⟩ := OwnS.shape p228
  obtain ⟨_, p328⟩ := ho328
  obtain ⟨_, _, rfl⟩ := OwnS.shape p328
  refine ⟨_, Z, ?_⟩
  refine q4 H hd8 (dE 5 Z2 (dE 6 Z2 (dE 7 Z2 (r1 9 Z (xst 3 H Z8 ?_))))); intro _ H
  refine q4 H hd8 (dE 10 Z2 (rz (N_K (W_seq (q2 (pe 2 Z (q3 ?_)))))))
  refine W_cond Z ?_ ?_
  ·intro hc30
   try simp only [nrm] at hc30
   refine q2 (aG Z (q3 (W_ret (N_K_ret (rt1 results4 Z ?_)))))
   exact H.rets (congrArg Value.bool (by first | rfl | simp_all))
  intro hc30'
  try simp only [nrm] at hc30'
  refine W_skip (N_K (W_seq (q2 ?_)))
  obtain ⟨u2, hu2⟩ := Option.isSome_iff_exists.1 (show (Sp.DiskWrite uV uP (List.replicate nn 0)).isSome = true by simpa using hc30')
  have hW : (Sp.DiskWrite uV uP (List.replicate nn 0)).getD ⟨[], [], []⟩ = u2 := by (rw [hu2]; rfl)
  refine aG Z (q3 (W_block ?_))
  have H := H.dl 4
  have H := H.dl 4
  obtain ⟨ln31, hln31, H⟩ := H.name (k := 3) rfl
  refine W_lp (hf := (Sub.cons (t := 4) Z (Sub.cons (t := 5) Z (Sub.cons (t := 9) Z Sub.nil)))) (J := fun M w m => ∃ (k : Nat) (G : PH), M = [(11, .int .i64 (k : Int))] ∧ PLe G2 G ∧ Hp w0 G0 [] w G [frag E128, frag E228, frag E328, blk b27 (cl ln31 27)] ∧ (k ≤ uQ.length) ∧ m = (uQ.length - k)) (h0 := ⟨0, _, Z, PLe.refl _, H, ?inv, Z⟩) (round := ?round)
  case inv => omega
  case round =>
   rintro _ _ _ ⟨k, G32, rfl, hle32, H, hinv32, rfl⟩
   subst hln31
   have hQ := hQ.up hle32
   have hk := hinv32
   refine W_seq (q2 (pe 2 Z (lN Z (pe 1 Z (q3 ?_)))))
   refine W_cond Z ?_ ?_
   ·intro hc33
    try simp only [nrm] at hc33
    refine W_skip (N_K (W_seq (W_block (W_seq (W_drawK [3] 22 H kR Z ?_))))); intro _ H; have hd34 := PLe.refl G32
    refine dE 0 Z2 (dE 1 Z2 (dE 2 Z2 ?_))
    have hl35 := hQ.len
    obtain ⟨_, _, z35, _, ha35, hz35, hq35, hE35, hrow35, _⟩ := hQ.at (i := k) oM
    clear hq35
    obtain ⟨rfl, hi35, _⟩ := hE35; have hy_hi35 : _ ≤ 16777216 := hi35
    refine dI 3 2 k ha35 Z3 Z (dF 4 0 Z2 (dP 5 hrow35 0 Z3 (r1 6 Z (xr H Z2 (i_PathWithin_c _ _ H.sub _ hP0 _ hi35 ) ?_)))); intro _ H
    refine q4 H hd34 (dE 7 Z2 ?_)
    refine RD_case (t := 65) Z ?_ ?_
    ·intro hc37
     try simp only [nrm] at hc37
     refine RD_tg 8 Z kR Z (yl Z Z) (fun _ hK => v_loadagg_B 0 hK isAgg27 sizeOf27 Z Z Z Z) (dE 9 Z2 (dE 10 Z2 ?_))
     have hl38 := hQ.len
     obtain ⟨_, _, z38, _, ha38, hz38, hq38, hE38, hrow38, _⟩ := hQ.at (i := k) oM
     clear hq38
     obtain ⟨rfl, hi38, _⟩ := hE38; have hy_hi38 : _ ≤ 16777216 := hi38
     have hzz38 : z35 = z38 := Option.some.inj (hz35.symm.trans hz38)
     subst hzz38
     refine dI 11 2 k ha38 Z3 Z (dF 12 0 Z2 (dP 13 hrow38 0 Z3 (dE 15 Z2 (dE 16 Z2 ?_))))
     have hl39 := hQ.len
     obtain ⟨_, _, z39, _, ha39, hz39, hq39, hE39, hrow39, _⟩ := hQ.at (i := k) oM
     clear hq39
     obtain ⟨rfl, hi39, _⟩ := hE39; have hy_hi39 : _ ≤ 16777216 := hi39
     have hzz39 : z35 = z39 := Option.some.inj (hz35.symm.trans hz39)
     subst hzz39
     refine dI 17 2 k ha39 Z3 Z (dF 18 1 Z2 (dP 19 hrow39 1 Z3 (r1 14 Z (gR Z (xr H Z2 (i_QuotaUsed_c _ _ (H.lendSubL [0, 1, 2]) _ ((Sp.DiskWrite uV uP (List.replicate nn 0)).getD ⟨[], [], []⟩) ⟨_, _, _, _, _, _, _, _, _, Z, (H.lendOHs (k := 0) (ks := [0, 1, 2]) Z Z ⟨_, p128⟩), (H.lendOIs (k := 1) (ks := [0, 1, 2]) Z Z ⟨_, p228⟩), (H.lendOSn (k := 2) (ks := [0, 1, 2]) Z Z ⟨_, p328⟩)⟩ _ hi38 ) ?_))))); intro _ H
     refine q4 H hd34 (dE 20 Z2 (dE 21 Z2 (rz (N_K ?_))))
     refine W_cond Z ?_ ?_
     ·intro hc41
      try simp only [nrm] at hc41
      refine q2 (aG Z (q3 (W_ret (N_B_ret (N_K_ret (N_LP_ret (N_B_ret (N_K_ret (rt1 results4 Z ?_)))))))))
      have hno := Sp.allow_ok hout hu2 (by simp [hnn]) (List.mem_of_getElem? hz35) (by assumption)
      rw [← hW] at hno
      exact absurd (show False by omega) id
     intro hc41'
     try simp only [nrm] at hc41'
     refine W_skip (N_B (N_K (W_region (mV Z (aD Z2 (aG Z (R_nil ?_)))))))
     refine N_lp (hJ := ⟨k + 1, _, Z, hle32, H, ?inv, Z⟩) (hm := ?hm)
     case hm => omega
     case inv => omega
    intro hc37'
    try simp only [nrm] at hc37'
    refine dE 8 Z2 (dE 9 Z2 (dE 10 Z2 (dE 11 Z2 (dE 12 Z2 (dE 13 Z2 (dE 14 Z2 (dE 15 Z2 (dE 16 Z2 (dE 17 Z2 (dE 18 Z2 (dE 19 Z2 (dE 20 Z2 (dE 21 Z2 (rz (N_K ?_)))))))))))))))
    refine W_false Z (W_skip (N_B (N_K (W_region (mV Z (aD Z2 (aG Z (R_nil ?_))))))))
    refine N_lp (hJ := ⟨k + 1, _, Z, hle32, H, ?inv, Z⟩) (hm := ?hm)
    case hm => omega
    case inv => omega
   intro hc33'
   try simp only [nrm] at hc33'
   refine W_exit (N_K_exit (N_LP_exit (N_B_same (N_K (q2 (aG Z (q3 (W_ret (rt1 results4 Z ?_)))))))))
   exact H.rets (congrArg Value.bool (by first | rfl | simp_all))
 skip
 refine xal H Z ?_; intro b44 _ _ H
 refine q4 H hd8 (r1 3 Z (o_makeN (c := nn) (sz := 1) (bytes := 8) H underlying33 typeInfo3 ⟨_, Z, Z⟩ Z Z Z Z Z Z Z hnn hnn oM Z ?_)); intro _ _ H
 have hchk45 := Chk.rep (E := intE) (sz := 1) (G := G2) (x0 := 0) (⟨rfl, by decide⟩) rfl (nn)
 refine q4 H hd8 (r1 4 Z (xc Z2 (i_DiskWrite_c _ _ (H.lendSubL [0]) _ uV ⟨_, _, _, _, _, _, _, _, _, Z, (hr2.up (PPlus.le _ _ _)), (hr2'.up (PPlus.le _ _ _)), (hr2''.up (PPlus.le _ _ _))⟩ _ hP0 _ _ (H.lendRdL (k := 0) (ks := [0]) Z Z hchk45 aN aN) ) ?_))
 rintro _ _ ⟨_, _, rfl, H46', ⟨_, _, _, E146, E246, E346, rfl, rfl, ho146, ho246, ho346⟩⟩
 have H := H.readersL H46'
 obtain ⟨_, p146⟩ := ho146
 obtain ⟨_, _, rfl⟩ := OwnS.shape p146
 obtain ⟨_, p246⟩ := ho246
 obtain ⟨_, _, rfl⟩ := OwnS.shape p246
 obtain ⟨_, p346⟩ := ho346
 obtain ⟨_, _, rfl⟩ := OwnS.shape p346
 refine ⟨_, Z, ?_⟩
 refine q4 H hd8 (dE 5 Z2 (dE 6 Z2 (dE 7 Z2 (r1 9 Z (xst 4 H Z8 ?_))))); intro _ H
 refine q4 H hd8 (dE 10 Z2 (rz (N_K (W_seq (q2 (pe 2 Z (q3 ?_)))))))
 refine W_cond Z ?_ ?_
 ·intro hc48
  try simp only [nrm] at hc48
  refine q2 (aG Z (q3 (W_ret (N_K_ret (rt1 results4 Z ?_)))))
  exact H.rets (congrArg Value.bool (by first | rfl | simp_all))
 intro hc48'
 try simp only [nrm] at hc48'
 refine W_skip (N_K (W_seq (q2 ?_)))
 obtain ⟨u2, hu2⟩ := Option.isSome_iff_exists.1 (show (Sp.DiskWrite uV uP (List.replicate nn 0)).isSome = true by simpa using hc48')
 have hW : (Sp.DiskWrite uV uP (List.replicate nn 0)).getD ⟨[], [], []⟩ = u2 := by (rw [hu2]; rfl)
 refine aG Z (q3 (W_block ?_))
 have H := H.dl 3
 have H := H.dl 4
 obtain ⟨ln49, hln49, H⟩ := H.name (k := 3) rfl
 refine W_lp (hf := (Sub.cons (t := 4) Z (Sub.cons (t := 5) Z (Sub.cons (t := 9) Z Sub.nil)))) (J := fun M w m => ∃ (k : Nat) (G : PH), M = [(11, .int .i64 (k : Int))] ∧ PLe G2 G ∧ Hp w0 G0 [] w G [frag E146, frag E246, frag E346, blk b44 (cl ln49 27)] ∧ (k ≤ uQ.length) ∧ m = (uQ.length - k)) (h0 := ⟨0, _, Z, PLe.refl _, H, ?inv, Z⟩) (round := ?round)
 case inv => omega
 case round =>
  rintro _ _ _ ⟨k, G50, rfl, hle50, H, hinv50, rfl⟩
  subst hln49
  have hQ := hQ.up hle50
  have hk := hinv50
  refine W_seq (q2 (pe 2 Z (lN Z (pe 1 Z (q3 ?_)))))
  refine W_cond Z ?_ ?_
  ·intro hc51
   try simp only [nrm] at hc51
   refine W_skip (N_K (W_seq (W_block (W_seq (W_drawK [3] 22 H kR Z ?_))))); intro _ H; have hd52 := PLe.refl G50
   refine dE 0 Z2 (dE 1 Z2 (dE 2 Z2 ?_))
   have hl53 := hQ.len
   obtain ⟨_, _, z53, _, ha53, hz53, hq53, hE53, hrow53, _⟩ := hQ.at (i := k) oM
   clear hq53
   obtain ⟨rfl, hi53, _⟩ := hE53; have hy_hi53 : _ ≤ 16777216 := hi53
   refine dI 3 2 k ha53 Z3 Z (dF 4 0 Z2 (dP 5 hrow53 0 Z3 (r1 6 Z (xr H Z2 (i_PathWithin_c _ _ H.sub _ hP0 _ hi53 ) ?_)))); intro _ H
   refine q4 H hd52 (dE 7 Z2 ?_)
   refine RD_case (t := 65) Z ?_ ?_
   ·intro hc55
    try simp only [nrm] at hc55
    refine RD_tg 8 Z kR Z (yl Z Z) (fun _ hK => v_loadagg_B 0 hK isAgg27 sizeOf27 Z Z Z Z) (dE 9 Z2 (dE 10 Z2 ?_))
    have hl56 := hQ.len
    obtain ⟨_, _, z56, _, ha56, hz56, hq56, hE56, hrow56, _⟩ := hQ.at (i := k) oM
    clear hq56
    obtain ⟨rfl, hi56, _⟩ := hE56; have hy_hi56 : _ ≤ 16777216 := hi56
    have hzz56 : z53 = z56 := Option.some.inj (hz53.symm.trans hz56)
    subst hzz56
    refine dI 11 2 k ha56 Z3 Z (dF 12 0 Z2 (dP 13 hrow56 0 Z3 (dE 15 Z2 (dE 16 Z2 ?_))))
    have hl57 := hQ.len
    obtain ⟨_, _, z57, _, ha57, hz57, hq57, hE57, hrow57, _⟩ := hQ.at (i := k) oM
    clear hq57
    obtain ⟨rfl, hi57, _⟩ := hE57; have hy_hi57 : _ ≤ 16777216 := hi57
    have hzz57 : z53 = z57 := Option.some.inj (hz53.symm.trans hz57)
    subst hzz57
    refine dI 17 2 k ha57 Z3 Z (dF 18 1 Z2 (dP 19 hrow57 1 Z3 (r1 14 Z (gR Z (xr H Z2 (i_QuotaUsed_c _ _ (H.lendSubL [0, 1, 2]) _ ((Sp.DiskWrite uV uP (List.replicate nn 0)).getD ⟨[], [], []⟩) ⟨_, _, _, _, _, _, _, _, _, Z, (H.lendOHs (k := 0) (ks := [0, 1, 2]) Z Z ⟨_, p146⟩), (H.lendOIs (k := 1) (ks := [0, 1, 2]) Z Z ⟨_, p246⟩), (H.lendOSn (k := 2) (ks := [0, 1, 2]) Z Z ⟨_, p346⟩)⟩ _ hi56 ) ?_))))); intro _ H
    refine q4 H hd52 (dE 20 Z2 (dE 21 Z2 (rz (N_K ?_))))
    refine W_cond Z ?_ ?_
    ·intro hc59
     try simp only [nrm] at hc59
     refine q2 (aG Z (q3 (W_ret (N_B_ret (N_K_ret (N_LP_ret (N_B_ret (N_K_ret (rt1 results4 Z ?_)))))))))
     have hno := Sp.allow_ok hout hu2 (by simp [hnn]) (List.mem_of_getElem? hz53) (by assumption)
     rw [← hW] at hno
     exact absurd (show False by omega) id
    intro hc59'
    try simp only [nrm] at hc59'
    refine W_skip (N_B (N_K (W_region (mV Z (aD Z2 (aG Z (R_nil ?_)))))))
    refine N_lp (hJ := ⟨k + 1, _, Z, hle50, H, ?inv, Z⟩) (hm := ?hm)
    case hm => omega
    case inv => omega
   intro hc55'
   try simp only [nrm] at hc55'
   refine dE 8 Z2 (dE 9 Z2 (dE 10 Z2 (dE 11 Z2 (dE 12 Z2 (dE 13 Z2 (dE 14 Z2 (dE 15 Z2 (dE 16 Z2 (dE 17 Z2 (dE 18 Z2 (dE 19 Z2 (dE 20 Z2 (dE 21 Z2 (rz (N_K ?_)))))))))))))))
   refine W_false Z (W_skip (N_B (N_K (W_region (mV Z (aD Z2 (aG Z (R_nil ?_))))))))
   refine N_lp (hJ := ⟨k + 1, _, Z, hle50, H, ?inv, Z⟩) (hm := ?hm)
   case hm => omega
   case inv => omega
  intro hc51'
  try simp only [nrm] at hc51'
  refine W_exit (N_K_exit (N_LP_exit (N_B_same (N_K (q2 (aG Z (q3 (W_ret (rt1 results4 Z ?_)))))))))
  exact H.rets (congrArg Value.bool (by first | rfl | simp_all))
end Go.Proofs.Tst

namespace Go.Proofs.Tst
open Go Fw Tryz
theorem lAllowNot_c (w0 : World) (G0 : PH) (hG : PSub G0 w0) (vcode : Value) (code : List (UInt8)) (hcode : RdU G0 vcode code) (ga : Addr) (hbk : BrkG ga G0) :
  Calls Tryz.prog 5 #[vcode] w0 (Rets w0 (.bool true)) := by
 obtain ⟨acode, kcode, rfl⟩ := hcode.shape
 have hlimcode : code.length ≤ 1099511627776 := hcode.lim
 have H := Hp.init hG
 refine calls_of_W (l := [.slice acode code.length kcode]) func5 Z ntmps5 Z (q2 (aG Z (q3 (W_seq (q2 (mV Z (lN Z (pe 1 Z (q3 ?_)))))))))
 refine W_cond Z ?_ ?_
 ·intro hc1
  try simp only [nrm] at hc1
  refine q2 (aG Z (q3 (W_ret (N_K_ret (rt1 results5 Z ?_)))))
  exact H.rets (congrArg Value.bool (by first | rfl | simp_all))
 intro hc1'
 try simp only [nrm] at hc1'
 refine W_skip (N_K (q2 (mV Z (xc Z2 (DrawQuotasAllow_c _ _ H.sub _ _ hcode ) ?_))))
 rintro _ _ ⟨G2, _, g2, rfl, ⟨_, uV, _, uQ, uP, uI, rfl, hV, hQ, hP0, _⟩⟩
 have H := H.grow g2
 have hbk := hbk.up g2.le
 obtain ⟨_, _, _, _, _, _, _, _, _, rfl, hr2, hr2', hr2'', ⟨_, _⟩, ⟨_, _⟩, _, _⟩ := ox hV
 obtain ⟨_, _, rfl⟩ := hQ.shape; have hx_hQ : _ ≤ 1099511627776 := hQ.lim
 refine ⟨_, Z, ?_⟩
 refine pe 5 Z (xal H Z ?_); intro _ _ _ H
 refine xst 0 H Z8 ?_; intro _ H
 refine pe 3 Z (q1 (lA 0 3 H Z4 (pe 3 Z (xr H Z2 (i_QuotasAllow_c _ _ H.sub _ uV ⟨_, _, _, _, _, _, _, _, _, Z, hr2, hr2', hr2''⟩ _ _ hQ _ hP0 _ _ hbk) ?_)))); intro _ H
 refine aG Z (q1 (lA 0 3 H Z4 (pe 3 Z (xr H Z2 (QuotasAllow_c _ _ H.sub _ uV ⟨_, _, _, _, _, _, _, _, _, Z, hr2, hr2', hr2''⟩ _ _ hQ _ hP0 _ ) ?_)))); intro _ H
 refine aG Z (q3 (W_seq (q2 (pe 2 Z (o_bneq_same underlying4 Z Z Z (pe 4 Z ?_))))))
 refine R_case (t := 38) Z ?_ ?_
 ·intro hc7
  try simp only [nrm] at hc7
  refine pe 13 Z (q3 (W_true Z (q2 (pe 2 Z (o_beql_same underlying4 Z Z Z (aG Z (q3 (W_ret (N_K_ret (rt1 results5 Z ?_))))))))))
  exact H.rets (congrArg Value.bool (by first | rfl | simp_all))
 intro hc7'
 try simp only [nrm] at hc7'
 refine gR Z (lA 0 3 H Z4 (gR Z (xr H Z2 (DiskValid_c _ _ H.sub _ uV ⟨_, _, _, _, _, _, _, _, _, Z, hr2, hr2', hr2''⟩ ) ?_))); intro _ H
 refine pe 3 Z ?_
 refine R_case (t := 43) Z ?_ ?_
 ·intro hc9
  try simp only [nrm] at hc9
  refine pe 8 Z (q3 (W_true Z (q2 (pe 2 Z (o_beql_same underlying4 Z Z Z (aG Z (q3 (W_ret (N_K_ret (rt1 results5 Z ?_))))))))))
  exact H.rets (congrArg Value.bool (by first | rfl | simp_all))
 intro hc9'
 try simp only [nrm] at hc9'
 refine pe 1 Z (gR Z (xr H Z2 (QuotasValid_c _ _ H.sub _ _ hQ ) ?_)); intro _ H
 refine pe 3 Z ?_
 refine R_case (t := 48) Z ?_ ?_
 ·intro hc11
  try simp only [nrm] at hc11
  refine pe 3 Z (q3 (W_true Z (q2 (pe 2 Z (o_beql_same underlying4 Z Z Z (aG Z (q3 (W_ret (N_K_ret (rt1 results5 Z ?_))))))))))
  exact H.rets (congrArg Value.bool (by first | rfl | simp_all))
 intro hc11'
 try simp only [nrm] at hc11'
 refine pe 3 Z (q3 ?_)
 refine W_cond Z ?_ ?_
 ·intro hc12
  try simp only [nrm] at hc12
  refine q2 (pe 2 Z (o_beql_same underlying4 Z Z Z (aG Z (q3 (W_ret (N_K_ret (rt1 results5 Z ?_)))))))
  exact H.rets (congrArg Value.bool (by first | rfl | simp_all))
 intro hc12'
 try simp only [nrm] at hc12'
 refine W_skip (N_K (W_seq (W_drawK [0] 11 H kR Z ?_))); intro _ H; have hd13 := PLe.refl G2
 refine RD_t 0 Z kR Z (fun _ hK => v_loadagg_B 0 hK isAgg27 sizeOf27 Z Z Z Z) (dE 1 Z2 (dE 2 Z2 ?_))
 refine r2 3 8 Z2 ?_ ?_
 ·skip
  refine o_makeN (c := uI.toNat) (sz := 1) (bytes := 8) H underlying33 typeInfo3 ⟨_, Z, Z⟩ Z Z Z Z Z Z Z oM oM oM Z ?_; intro _ _ H
  have hchk14 := Chk.rep (E := intE) (sz := 1) (G := G2) (x0 := 0) (⟨rfl, by decide⟩) rfl (uI.toNat)
  refine q4 H hd13 ?_
  refine r2 4 8 Z2 ?_ ?_
  ·skip
   refine xc Z2 (i_DiskWrite_c _ _ (H.lendSubL [0]) _ uV ⟨_, _, _, _, _, _, _, _, _, Z, (hr2.up (PPlus.le _ _ _)), (hr2'.up (PPlus.le _ _ _)), (hr2''.up (PPlus.le _ _ _))⟩ _ hP0 _ _ (H.lendRdL (k := 0) (ks := [0]) Z Z hchk14 aN aN) ) ?_
   rintro _ _ ⟨_, _, rfl, H15', ⟨_, _, _, E115, E215, E315, rfl, rfl, ho115, ho215, ho315⟩⟩
   have H := H.readersL H15'
   obtain ⟨_, p115⟩ := ho115
   obtain ⟨_, _, rfl⟩ := OwnS.shape p115
   obtain ⟨_, p215⟩ := ho215
   obtain ⟨_, _, rfl⟩ := OwnS.shape p215
   obtain ⟨_, p315⟩ := ho315
   obtain ⟨_, _, rfl⟩ := OwnS.shape p315
   refine ⟨_, Z, ?_⟩
   refine q4 H hd13 (dE 5 Z2 (dE 6 Z2 (dE 7 Z2 (r1 8 Z (xal H Z ?_))))); intro b16 _ _ H
   refine q4 H hd13 (r1 9 Z (xst 0 H Z8 ?_)); intro _ H
   refine q4 H hd13 (dE 10 Z2 (rz (N_K (W_seq (q2 (pe 2 Z (q3 ?_)))))))
   refine W_cond Z ?_ ?_
   ·intro hc18
    try simp only [nrm] at hc18
    refine q2 (aG Z (q3 (W_ret (N_K_ret (rt1 results5 Z ?_)))))
    exact H.rets (congrArg Value.bool (by first | rfl | simp_all))
   intro hc18'
   try simp only [nrm] at hc18'
   refine W_skip (N_K (W_seq (q2 ?_)))
   obtain ⟨u2, hu2⟩ := Option.isSome_iff_exists.1 (show (Sp.DiskWrite uV uP (List.replicate uI.toNat 0)).isSome = true by simpa using hc18')
   have hW : (Sp.DiskWrite uV uP (List.replicate uI.toNat 0)).getD ⟨[], [], []⟩ = u2 := by (rw [hu2]; rfl)
   have hout : Sp.QuotasAllow uV uQ uP uI = false := by first | assumption | simp_all
   have hqv : Sp.QuotasValid uQ = true := by first | assumption | simp_all
   refine aG Z (q3 (W_block ?_))
   have H := H.dl 4
   have H := H.dl 4
   obtain ⟨ln19, hln19, H⟩ := H.name (k := 0) rfl
   refine W_lp (hf := (Sub.cons (t := 4) Z (Sub.cons (t := 5) Z (Sub.cons (t := 9) Z Sub.nil)))) (J := fun M w m => ∃ (k : Nat) (G : PH), M = [(11, .int .i64 (k : Int))] ∧ PLe G2 G ∧ Hp w0 G0 [] w G [blk b16 (cl ln19 27), frag E115, frag E215, frag E315] ∧ (k ≤ uQ.length ∧ (uQ.take k).all (fun q => !(Sp.PathWithin uP q.dir && decide (q.most < Sp.QuotaUsed ((Sp.DiskWrite uV uP (List.replicate uI.toNat 0)).getD ⟨[], [], []⟩) q.dir))) = true) ∧ m = (uQ.length - k)) (h0 := ⟨0, _, Z, PLe.refl _, H, ?inv, Z⟩) (round := ?round)
   case inv => exact ⟨by omega, by simp⟩
   case round =>
    rintro _ _ _ ⟨k, G20, rfl, hle20, H, hinv20, rfl⟩
    subst hln19
    have hQ := hQ.up hle20
    obtain ⟨hk, hall⟩ := hinv20
    refine W_seq (q2 (pe 2 Z (lN Z (pe 1 Z (q3 ?_)))))
    refine W_cond Z ?_ ?_
    ·intro hc21
     try simp only [nrm] at hc21
     refine W_skip (N_K (W_seq (W_block (W_seq (W_drawK [0] 22 H kR Z ?_))))); intro _ H; have hd22 := PLe.refl G20
     refine dE 0 Z2 (dE 1 Z2 (dE 2 Z2 ?_))
     have hl23 := hQ.len
     obtain ⟨_, _, z23, _, ha23, hz23, hq23, hE23, hrow23, _⟩ := hQ.at (i := k) oM
     clear hq23
     obtain ⟨rfl, hi23, _⟩ := hE23; have hy_hi23 : _ ≤ 16777216 := hi23
     refine dI 3 2 k ha23 Z3 Z (dF 4 0 Z2 (dP 5 hrow23 0 Z3 (r1 6 Z (xr H Z2 (i_PathWithin_c _ _ H.sub _ hP0 _ hi23 ) ?_)))); intro _ H
     refine q4 H hd22 (dE 7 Z2 ?_)
     refine RD_case (t := 78) Z ?_ ?_
     ·intro hc25
      try simp only [nrm] at hc25
      refine RD_tg 8 Z kR Z (yl Z Z) (fun _ hK => v_loadagg_B 0 hK isAgg27 sizeOf27 Z Z Z Z) (dE 9 Z2 (dE 10 Z2 ?_))
      have hl26 := hQ.len
      obtain ⟨_, _, z26, _, ha26, hz26, hq26, hE26, hrow26, _⟩ := hQ.at (i := k) oM
      clear hq26
      obtain ⟨rfl, hi26, _⟩ := hE26; have hy_hi26 : _ ≤ 16777216 := hi26
      have hzz26 : z23 = z26 := Option.some.inj (hz23.symm.trans hz26)
      subst hzz26
      refine dI 11 2 k ha26 Z3 Z (dF 12 0 Z2 (dP 13 hrow26 0 Z3 (dE 15 Z2 (dE 16 Z2 ?_))))
      have hl27 := hQ.len
      obtain ⟨_, _, z27, _, ha27, hz27, hq27, hE27, hrow27, _⟩ := hQ.at (i := k) oM
      clear hq27
      obtain ⟨rfl, hi27, _⟩ := hE27; have hy_hi27 : _ ≤ 16777216 := hi27
      have hzz27 : z23 = z27 := Option.some.inj (hz23.symm.trans hz27)
      subst hzz27
      refine dI 17 2 k ha27 Z3 Z (dF 18 1 Z2 (dP 19 hrow27 1 Z3 (r1 14 Z (gR Z (xr H Z2 (i_QuotaUsed_c _ _ (H.lendSubL [1, 2, 3]) _ ((Sp.DiskWrite uV uP (List.replicate uI.toNat 0)).getD ⟨[], [], []⟩) ⟨_, _, _, _, _, _, _, _, _, Z, (H.lendOHs (k := 1) (ks := [1, 2, 3]) Z Z ⟨_, p115⟩), (H.lendOIs (k := 2) (ks := [1, 2, 3]) Z Z ⟨_, p215⟩), (H.lendOSn (k := 3) (ks := [1, 2, 3]) Z Z ⟨_, p315⟩)⟩ _ hi26 ) ?_))))); intro _ H
      refine q4 H hd22 (dE 20 Z2 (dE 21 Z2 (rz (N_K ?_))))
      refine W_cond Z ?_ ?_
      ·intro hc29
       try simp only [nrm] at hc29
       refine q2 (aG Z (q3 (W_ret (N_B_ret (N_K_ret (N_LP_ret (N_B_ret (N_K_ret (rt1 results5 Z ?_)))))))))
       exact H.rets (congrArg Value.bool (by first | rfl | simp_all))
      intro hc29'
      try simp only [nrm] at hc29'
      refine W_skip (N_B (N_K (W_region (mV Z (aD Z2 (aG Z (R_nil ?_)))))))
      refine N_lp (hJ := ⟨k + 1, _, Z, hle20, H, ?inv, Z⟩) (hm := ?hm)
      case hm => omega
      case inv => exact ⟨by omega, Sp.all_take hall hz23 (by simp_all)⟩
     intro hc25'
     try simp only [nrm] at hc25'
     refine dE 8 Z2 (dE 9 Z2 (dE 10 Z2 (dE 11 Z2 (dE 12 Z2 (dE 13 Z2 (dE 14 Z2 (dE 15 Z2 (dE 16 Z2 (dE 17 Z2 (dE 18 Z2 (dE 19 Z2 (dE 20 Z2 (dE 21 Z2 (rz (N_K ?_)))))))))))))))
     refine W_false Z (W_skip (N_B (N_K (W_region (mV Z (aD Z2 (aG Z (R_nil ?_))))))))
     refine N_lp (hJ := ⟨k + 1, _, Z, hle20, H, ?inv, Z⟩) (hm := ?hm)
     case hm => omega
     case inv => exact ⟨by omega, Sp.all_take hall hz23 (by simp_all)⟩
    intro hc21'
    try simp only [nrm] at hc21'
    refine W_exit (N_K_exit (N_LP_exit (N_B_same (N_K (q2 (aG Z (q3 (W_ret (rt1 results5 Z ?_)))))))))
    obtain ⟨q, hq1, hq2, hq3⟩ := Sp.allow_not hout hqv hu2 (by simp; omega)
    obtain rfl : k = uQ.length := by omega
    rw [List.take_length] at hall
    have hno := List.all_eq_true.1 hall q hq1
    rw [hW, hq2] at hno
    exact absurd (show False by (simp at hno; omega)) id
  skip
  refine xal H Z ?_; intro b32 _ _ H
  refine q4 H hd13 (r1 4 Z (xc Z2 (i_DiskWrite_c _ _ (H.lendSubL [1]) _ uV ⟨_, _, _, _, _, _, _, _, _, Z, (hr2.up (PPlus.le _ _ _)), (hr2'.up (PPlus.le _ _ _)), (hr2''.up (PPlus.le _ _ _))⟩ _ hP0 _ _ (H.lendRdL (k := 1) (ks := [1]) Z Z hchk14 aN aN) ) ?_))
  rintro _ _ ⟨_, _, rfl, H33', ⟨_, _, _, E133, E233, E333, rfl, rfl, ho133, ho233, ho333⟩⟩
  have H := H.readersL H33'
  obtain ⟨_, p133⟩ := ho133
  obtain ⟨_, _, rfl⟩ := OwnS.shape p133
  obtain ⟨_, p233⟩ := ho233
  obtain ⟨_, _, rfl⟩ := OwnS.shape p233
  obtain ⟨_, p333⟩ := ho333
  obtain ⟨_, _, rfl⟩ := OwnS.shape p333
  refine ⟨_, Z, ?_⟩
  refine q4 H hd13 (dE 5 Z2 (dE 6 Z2 (dE 7 Z2 (r1 9 Z (xst 3 H Z8 ?_))))); intro _ H
  refine q4 H hd13 (dE 10 Z2 (rz (N_K (W_seq (q2 (pe 2 Z (q3 ?_)))))))
  refine W_cond Z ?_ ?_
  ·intro hc35
   try simp only [nrm] at hc35
   refine q2 (aG Z (q3 (W_ret (N_K_ret (rt1 results5 Z ?_)))))
   exact H.rets (congrArg Value.bool (by first | rfl | simp_all))
  intro hc35'
  try simp only [nrm] at hc35'
  refine W_skip (N_K (W_seq (q2 ?_)))
  obtain ⟨u2, hu2⟩ := Option.isSome_iff_exists.1 (show (Sp.DiskWrite uV uP (List.replicate uI.toNat 0)).isSome = true by simpa using hc35')
  have hW : (Sp.DiskWrite uV uP (List.replicate uI.toNat 0)).getD ⟨[], [], []⟩ = u2 := by (rw [hu2]; rfl)
  have hout : Sp.QuotasAllow uV uQ uP uI = false := by first | assumption | simp_all
  have hqv : Sp.QuotasValid uQ = true := by first | assumption | simp_all
  refine aG Z (q3 (W_block ?_))
  have H := H.dl 4
  have H := H.dl 4
  obtain ⟨ln36, hln36, H⟩ := H.name (k := 3) rfl
  refine W_lp (hf := (Sub.cons (t := 4) Z (Sub.cons (t := 5) Z (Sub.cons (t := 9) Z Sub.nil)))) (J := fun M w m => ∃ (k : Nat) (G : PH), M = [(11, .int .i64 (k : Int))] ∧ PLe G2 G ∧ Hp w0 G0 [] w G [frag E133, frag E233, frag E333, blk b32 (cl ln36 27)] ∧ (k ≤ uQ.length ∧ (uQ.take k).all (fun q => !(Sp.PathWithin uP q.dir && decide (q.most < Sp.QuotaUsed ((Sp.DiskWrite uV uP (List.replicate uI.toNat 0)).getD ⟨[], [], []⟩) q.dir))) = true) ∧ m = (uQ.length - k)) (h0 := ⟨0, _, Z, PLe.refl _, H, ?inv, Z⟩) (round := ?round)
  case inv => exact ⟨by omega, by simp⟩
  case round =>
   rintro _ _ _ ⟨k, G37, rfl, hle37, H, hinv37, rfl⟩
   subst hln36
   have hQ := hQ.up hle37
   obtain ⟨hk, hall⟩ := hinv37
   refine W_seq (q2 (pe 2 Z (lN Z (pe 1 Z (q3 ?_)))))
   refine W_cond Z ?_ ?_
   ·intro hc38
    try simp only [nrm] at hc38
    refine W_skip (N_K (W_seq (W_block (W_seq (W_drawK [3] 22 H kR Z ?_))))); intro _ H; have hd39 := PLe.refl G37
    refine dE 0 Z2 (dE 1 Z2 (dE 2 Z2 ?_))
    have hl40 := hQ.len
    obtain ⟨_, _, z40, _, ha40, hz40, hq40, hE40, hrow40, _⟩ := hQ.at (i := k) oM
    clear hq40
    obtain ⟨rfl, hi40, _⟩ := hE40; have hy_hi40 : _ ≤ 16777216 := hi40
    refine dI 3 2 k ha40 Z3 Z (dF 4 0 Z2 (dP 5 hrow40 0 Z3 (r1 6 Z (xr H Z2 (i_PathWithin_c _ _ H.sub _ hP0 _ hi40 ) ?_)))); intro _ H
    refine q4 H hd39 (dE 7 Z2 ?_)
    refine RD_case (t := 78) Z ?_ ?_
    ·intro hc42
     try simp only [nrm] at hc42
     refine RD_tg 8 Z kR Z (yl Z Z) (fun _ hK => v_loadagg_B 0 hK isAgg27 sizeOf27 Z Z Z Z) (dE 9 Z2 (dE 10 Z2 ?_))
     have hl43 := hQ.len
     obtain ⟨_, _, z43, _, ha43, hz43, hq43, hE43, hrow43, _⟩ := hQ.at (i := k) oM
     clear hq43
     obtain ⟨rfl, hi43, _⟩ := hE43; have hy_hi43 : _ ≤ 16777216 := hi43
     have hzz43 : z40 = z43 := Option.some.inj (hz40.symm.trans hz43)
     subst hzz43
     refine dI 11 2 k ha43 Z3 Z (dF 12 0 Z2 (dP 13 hrow43 0 Z3 (dE 15 Z2 (dE 16 Z2 ?_))))
     have hl44 := hQ.len
     obtain ⟨_, _, z44, _, ha44, hz44, hq44, hE44, hrow44, _⟩ := hQ.at (i := k) oM
     clear hq44
     obtain ⟨rfl, hi44, _⟩ := hE44; have hy_hi44 : _ ≤ 16777216 := hi44
     have hzz44 : z40 = z44 := Option.some.inj (hz40.symm.trans hz44)
     subst hzz44
     refine dI 17 2 k ha44 Z3 Z (dF 18 1 Z2 (dP 19 hrow44 1 Z3 (r1 14 Z (gR Z (xr H Z2 (i_QuotaUsed_c _ _ (H.lendSubL [0, 1, 2]) _ ((Sp.DiskWrite uV uP (List.replicate uI.toNat 0)).getD ⟨[], [], []⟩) ⟨_, _, _, _, _, _, _, _, _, Z, (H.lendOHs (k := 0) (ks := [0, 1, 2]) Z Z ⟨_, p133⟩), (H.lendOIs (k := 1) (ks := [0, 1, 2]) Z Z ⟨_, p233⟩), (H.lendOSn (k := 2) (ks := [0, 1, 2]) Z Z ⟨_, p333⟩)⟩ _ hi43 ) ?_))))); intro _ H
     refine q4 H hd39 (dE 20 Z2 (dE 21 Z2 (rz (N_K ?_))))
     refine W_cond Z ?_ ?_
     ·intro hc46
      try simp only [nrm] at hc46
      refine q2 (aG Z (q3 (W_ret (N_B_ret (N_K_ret (N_LP_ret (N_B_ret (N_K_ret (rt1 results5 Z ?_)))))))))
      exact H.rets (congrArg Value.bool (by first | rfl | simp_all))
     intro hc46'
     try simp only [nrm] at hc46'
     refine W_skip (N_B (N_K (W_region (mV Z (aD Z2 (aG Z (R_nil ?_)))))))
     refine N_lp (hJ := ⟨k + 1, _, Z, hle37, H, ?inv, Z⟩) (hm := ?hm)
     case hm => omega
     case inv => exact ⟨by omega, Sp.all_take hall hz40 (by simp_all)⟩
    intro hc42'
    try simp only [nrm] at hc42'
    refine dE 8 Z2 (dE 9 Z2 (dE 10 Z2 (dE 11 Z2 (dE 12 Z2 (dE 13 Z2 (dE 14 Z2 (dE 15 Z2 (dE 16 Z2 (dE 17 Z2 (dE 18 Z2 (dE 19 Z2 (dE 20 Z2 (dE 21 Z2 (rz (N_K ?_)))))))))))))))
    refine W_false Z (W_skip (N_B (N_K (W_region (mV Z (aD Z2 (aG Z (R_nil ?_))))))))
    refine N_lp (hJ := ⟨k + 1, _, Z, hle37, H, ?inv, Z⟩) (hm := ?hm)
    case hm => omega
    case inv => exact ⟨by omega, Sp.all_take hall hz40 (by simp_all)⟩
   intro hc38'
   try simp only [nrm] at hc38'
   refine W_exit (N_K_exit (N_LP_exit (N_B_same (N_K (q2 (aG Z (q3 (W_ret (rt1 results5 Z ?_)))))))))
   obtain ⟨q, hq1, hq2, hq3⟩ := Sp.allow_not hout hqv hu2 (by simp; omega)
   obtain rfl : k = uQ.length := by omega
   rw [List.take_length] at hall
   have hno := List.all_eq_true.1 hall q hq1
   rw [hW, hq2] at hno
   exact absurd (show False by (simp at hno; omega)) id
 skip
 refine xal H Z ?_; intro b49 _ _ H
 refine q4 H hd13 (r1 3 Z (o_makeN (c := uI.toNat) (sz := 1) (bytes := 8) H underlying33 typeInfo3 ⟨_, Z, Z⟩ Z Z Z Z Z Z Z oM oM oM Z ?_)); intro _ _ H
 have hchk50 := Chk.rep (E := intE) (sz := 1) (G := G2) (x0 := 0) (⟨rfl, by decide⟩) rfl (uI.toNat)
 refine q4 H hd13 (r1 4 Z (xc Z2 (i_DiskWrite_c _ _ (H.lendSubL [0]) _ uV ⟨_, _, _, _, _, _, _, _, _, Z, (hr2.up (PPlus.le _ _ _)), (hr2'.up (PPlus.le _ _ _)), (hr2''.up (PPlus.le _ _ _))⟩ _ hP0 _ _ (H.lendRdL (k := 0) (ks := [0]) Z Z hchk50 aN aN) ) ?_))
 rintro _ _ ⟨_, _, rfl, H51', ⟨_, _, _, E151, E251, E351, rfl, rfl, ho151, ho251, ho351⟩⟩
 have H := H.readersL H51'
 obtain ⟨_, p151⟩ := ho151
 obtain ⟨_, _, rfl⟩ := OwnS.shape p151
 obtain ⟨_, p251⟩ := ho251
 obtain ⟨_, _, rfl⟩ := OwnS.shape p251
 obtain ⟨_, p351⟩ := ho351
 obtain ⟨_, _, rfl⟩ := OwnS.shape p351
 refine ⟨_, Z, ?_⟩
 refine q4 H hd13 (dE 5 Z2 (dE 6 Z2 (dE 7 Z2 (r1 9 Z (xst 4 H Z8 ?_))))); intro _ H
 refine q4 H hd13 (dE 10 Z2 (rz (N_K (W_seq (q2 (pe 2 Z (q3 ?_)))))))
 refine W_cond Z ?_ ?_
 ·intro hc53
  try simp only [nrm] at hc53
  refine q2 (aG Z (q3 (W_ret (N_K_ret (rt1 results5 Z ?_)))))
  exact H.rets (congrArg Value.bool (by first | rfl | simp_all))
 intro hc53'
 try simp only [nrm] at hc53'
 refine W_skip (N_K (W_seq (q2 ?_)))
 obtain ⟨u2, hu2⟩ := Option.isSome_iff_exists.1 (show (Sp.DiskWrite uV uP (List.replicate uI.toNat 0)).isSome = true by simpa using hc53')
 have hW : (Sp.DiskWrite uV uP (List.replicate uI.toNat 0)).getD ⟨[], [], []⟩ = u2 := by (rw [hu2]; rfl)
 have hout : Sp.QuotasAllow uV uQ uP uI = false := by first | assumption | simp_all
 have hqv : Sp.QuotasValid uQ = true := by first | assumption | simp_all
 refine aG Z (q3 (W_block ?_))
 have H := H.dl 3
 have H := H.dl 4
 obtain ⟨ln54, hln54, H⟩ := H.name (k := 3) rfl
 refine W_lp (hf := (Sub.cons (t := 4) Z (Sub.cons (t := 5) Z (Sub.cons (t := 9) Z Sub.nil)))) (J := fun M w m => ∃ (k : Nat) (G : PH), M = [(11, .int .i64 (k : Int))] ∧ PLe G2 G ∧ Hp w0 G0 [] w G [frag E151, frag E251, frag E351, blk b49 (cl ln54 27)] ∧ (k ≤ uQ.length ∧ (uQ.take k).all (fun q => !(Sp.PathWithin uP q.dir && decide (q.most < Sp.QuotaUsed ((Sp.DiskWrite uV uP (List.replicate uI.toNat 0)).getD ⟨[], [], []⟩) q.dir))) = true) ∧ m = (uQ.length - k)) (h0 := ⟨0, _, Z, PLe.refl _, H, ?inv, Z⟩) (round := ?round)
 case inv => exact ⟨by omega, by simp⟩
 case round =>
  rintro _ _ _ ⟨k, G55, rfl, hle55, H, hinv55, rfl⟩
  subst hln54
  have hQ := hQ.up hle55
  obtain ⟨hk, hall⟩ := hinv55
  refine W_seq (q2 (pe 2 Z (lN Z (pe 1 Z (q3 ?_)))))
  refine W_cond Z ?_ ?_
  ·intro hc56
   try simp only [nrm] at hc56
   refine W_skip (N_K (W_seq (W_block (W_seq (W_drawK [3] 22 H kR Z ?_))))); intro _ H; have hd57 := PLe.refl G55
   refine dE 0 Z2 (dE 1 Z2 (dE 2 Z2 ?_))
   have hl58 := hQ.len
   obtain ⟨_, _, z58, _, ha58, hz58, hq58, hE58, hrow58, _⟩ := hQ.at (i := k) oM
   clear hq58
   obtain ⟨rfl, hi58, _⟩ := hE58; have hy_hi58 : _ ≤ 16777216 := hi58
   refine dI 3 2 k ha58 Z3 Z (dF 4 0 Z2 (dP 5 hrow58 0 Z3 (r1 6 Z (xr H Z2 (i_PathWithin_c _ _ H.sub _ hP0 _ hi58 ) ?_)))); intro _ H
   refine q4 H hd57 (dE 7 Z2 ?_)
   refine RD_case (t := 78) Z ?_ ?_
   ·intro hc60
    try simp only [nrm] at hc60
    refine RD_tg 8 Z kR Z (yl Z Z) (fun _ hK => v_loadagg_B 0 hK isAgg27 sizeOf27 Z Z Z Z) (dE 9 Z2 (dE 10 Z2 ?_))
    have hl61 := hQ.len
    obtain ⟨_, _, z61, _, ha61, hz61, hq61, hE61, hrow61, _⟩ := hQ.at (i := k) oM
    clear hq61
    obtain ⟨rfl, hi61, _⟩ := hE61; have hy_hi61 : _ ≤ 16777216 := hi61
    have hzz61 : z58 = z61 := Option.some.inj (hz58.symm.trans hz61)
    subst hzz61
    refine dI 11 2 k ha61 Z3 Z (dF 12 0 Z2 (dP 13 hrow61 0 Z3 (dE 15 Z2 (dE 16 Z2 ?_))))
    have hl62 := hQ.len
    obtain ⟨_, _, z62, _, ha62, hz62, hq62, hE62, hrow62, _⟩ := hQ.at (i := k) oM
    clear hq62
    obtain ⟨rfl, hi62, _⟩ := hE62; have hy_hi62 : _ ≤ 16777216 := hi62
    have hzz62 : z58 = z62 := Option.some.inj (hz58.symm.trans hz62)
    subst hzz62
    refine dI 17 2 k ha62 Z3 Z (dF 18 1 Z2 (dP 19 hrow62 1 Z3 (r1 14 Z (gR Z (xr H Z2 (i_QuotaUsed_c _ _ (H.lendSubL [0, 1, 2]) _ ((Sp.DiskWrite uV uP (List.replicate uI.toNat 0)).getD ⟨[], [], []⟩) ⟨_, _, _, _, _, _, _, _, _, Z, (H.lendOHs (k := 0) (ks := [0, 1, 2]) Z Z ⟨_, p151⟩), (H.lendOIs (k := 1) (ks := [0, 1, 2]) Z Z ⟨_, p251⟩), (H.lendOSn (k := 2) (ks := [0, 1, 2]) Z Z ⟨_, p351⟩)⟩ _ hi61 ) ?_))))); intro _ H
    refine q4 H hd57 (dE 20 Z2 (dE 21 Z2 (rz (N_K ?_))))
    refine W_cond Z ?_ ?_
    ·intro hc64
     try simp only [nrm] at hc64
     refine q2 (aG Z (q3 (W_ret (N_B_ret (N_K_ret (N_LP_ret (N_B_ret (N_K_ret (rt1 results5 Z ?_)))))))))
     exact H.rets (congrArg Value.bool (by first | rfl | simp_all))
    intro hc64'
    try simp only [nrm] at hc64'
    refine W_skip (N_B (N_K (W_region (mV Z (aD Z2 (aG Z (R_nil ?_)))))))
    refine N_lp (hJ := ⟨k + 1, _, Z, hle55, H, ?inv, Z⟩) (hm := ?hm)
    case hm => omega
    case inv => exact ⟨by omega, Sp.all_take hall hz58 (by simp_all)⟩
   intro hc60'
   try simp only [nrm] at hc60'
   refine dE 8 Z2 (dE 9 Z2 (dE 10 Z2 (dE 11 Z2 (dE 12 Z2 (dE 13 Z2 (dE 14 Z2 (dE 15 Z2 (dE 16 Z2 (dE 17 Z2 (dE 18 Z2 (dE 19 Z2 (dE 20 Z2 (dE 21 Z2 (rz (N_K ?_)))))))))))))))
   refine W_false Z (W_skip (N_B (N_K (W_region (mV Z (aD Z2 (aG Z (R_nil ?_))))))))
   refine N_lp (hJ := ⟨k + 1, _, Z, hle55, H, ?inv, Z⟩) (hm := ?hm)
   case hm => omega
   case inv => exact ⟨by omega, Sp.all_take hall hz58 (by simp_all)⟩
  intro hc56'
  try simp only [nrm] at hc56'
  refine W_exit (N_K_exit (N_LP_exit (N_B_same (N_K (q2 (aG Z (q3 (W_ret (rt1 results5 Z ?_)))))))))
  obtain ⟨q, hq1, hq2, hq3⟩ := Sp.allow_not hout hqv hu2 (by simp; omega)
  obtain rfl : k = uQ.length := by omega
  rw [List.take_length] at hall
  have hno := List.all_eq_true.1 hall q hq1
  rw [hW, hq2] at hno
  exact absurd (show False by (simp at hno; omega)) id
end Go.Proofs.Tst

namespace Fw
open Go
section
variable {H : Type} {enc : TypeId × Value → H} {P : Program} {W : World}
structure Bulk (bk : DataW H → Nat) (bka : List (DataW H) → Nat) : Prop where
 slice : ∀ es sp, bk (.slice es sp) = bka es + bka sp + 1
 agg : ∀ ps, bk (.agg ps) = bka ps + 1
 str : ∀ b, bk (.lit (.string b)) = b.length + 1
 nil : bka [] = 0
 cons : ∀ d r, bka (d :: r) = bk d + bka r
 pos : ∀ d, 1 ≤ bk d
variable {bk : DataW H → Nat} {bka : List (DataW H) → Nat}
theorem Bulk.len (hb : Bulk bk bka) : ∀ l, l.length ≤ bka l
 | [] => by simp
 | d :: r => by
  have h1 := hb.len r
  have h2 := hb.pos d
  rw [hb.cons]
  simp; omega
theorem Bulk.mem (hb : Bulk bk bka) {d : DataW H} : ∀ {l : List (DataW H)}, d ∈ l → bk d ≤ bka l
 | [], h => by simp at h
 | e :: r, h => by
  rw [hb.cons]
  rcases List.mem_cons.1 h with rfl | h
  ·omega
  ·have := hb.mem h
   omega
theorem Bulk.memF (hb : Bulk bk bka) {l : List (DataW H × List MemPlace)} {i : Nat} (hi : i < l.length) : bk (l[i]).1 ≤ bka (l.map (fun x => x.1)) :=
 hb.mem (List.mem_map.2 ⟨l[i], List.getElem_mem hi, rfl⟩)
abbrev Reads (enc : TypeId × Value → H) (P : Program) (W : World) (n : Nat) (t : TypeId) (cs : List Value) : Option (DataW H × List MemPlace) := DataW.trod enc P W 0 (fun _ => true) true n t cs
def Elem (enc : TypeId × Value → H) (P : Program) (W : World) (bk : DataW H → Nat) (t : TypeId) (sz : Nat) {α : Type} (E : PH → α → List Value → Prop) : Prop :=
 ∀ n cs x, Reads enc P W n t cs = some x → bk x.1 ≤ 1048576 → ∃ a, cs.length = sz ∧ E (PAll W) a cs
theorem elem_u8 {t : TypeId} (ht : P.underlying t = some (.int .u8)) : Elem enc P W bk t 1 u8E := by
 intro n cs x h _
 obtain ⟨i, rfl, _, hw⟩ := DataW.trod_int ht h
 simp [Lit.wf, IntKind.min, IntKind.max, IntKind.signed, IntKind.bits] at hw
 refine ⟨UInt8.ofNat i.toNat, rfl, ?_⟩
 show [Value.int .u8 i] = [.int .u8 ((UInt8.ofNat i.toNat).toNat : Int)]
 congr 2
 rw [UInt8.toNat_ofNat']
 omega
theorem list_of {α : Type} {Q : Nat → α → Prop} : ∀ n, (∀ i, i < n → ∃ x, Q i x) → ∃ xs : List α, xs.length = n ∧ ∀ i x, xs[i]? = some x → Q i x
 | 0, _ => ⟨[], rfl, by simp⟩
 | n + 1, h => by
  obtain ⟨xs, h1, h2⟩ := list_of n (fun i hi => h i (by omega))
  obtain ⟨x, hx⟩ := h n (by omega)
  refine ⟨xs ++ [x], by simp [h1], fun i y hy => ?_⟩
  by_cases hi : i < n
  ·rw [List.getElem?_append_left (by omega)] at hy
   exact h2 i y hy
  ·rw [List.getElem?_append_right (by omega)] at hy
   have : i = n := by
    have := (List.getElem?_eq_some_iff.1 hy).1
    simp at this
    omega
   subst this
   simp [h1] at hy
   subst hy
   exact hx
theorem mapM_at {α β : Type} {f : α → Option β} : ∀ {l : List α} {r : List β}, l.mapM f = some r → ∀ (i : Nat) (x : α), l[i]? = some x → f x = r[i]?
 | [], r, h, i, x, hx => by simp at hx
 | y :: t, r, h, i, x, hx => by
  simp only [List.mapM_cons, Option.bind_eq_bind, Option.bind_eq_some_iff, Option.pure_def, Option.some.injEq] at h
  obtain ⟨z, h1, u, h2, rfl⟩ := h
  cases i with
  | zero => simp at hx; subst hx; simpa using h1
  | succ i => simp only [List.getElem?_cons_succ] at hx ⊢; exact mapM_at h2 i x hx
theorem pcell_of {b o : Nat} {v : Value} (h : W.cell? ⟨b, o, none⟩ = some v) : PCell (PAll W) b o v := by
 unfold World.cell? at h
 unfold PCell PAll
 split at h
 ·rename_i C e fz hb
  exact ⟨C, e, fz, hb, by simpa using h⟩
 ·cases h
theorem elem_slice {α : Type} {E : PH → α → List Value → Prop} (hb : Bulk bk bka) {t e : TypeId} {sz : Nat} (ht : P.underlying t = some (.slice e)) (hz : P.cellsOf e = sz) (hsz : 0 < sz) (hE : Elem enc P W bk e sz E) :
  ∀ n cs x, Reads enc P W n t cs = some x → bk x.1 ≤ 1048576 → ∃ v xs, cs = [v] ∧ RdS LIM E sz (PAll W) v xs := by
 intro n cs x h hx
 rcases DataW.trod_slice ht h with ⟨rfl, _⟩ | ⟨a, len, cap, elems, rest, m, _, rfl, rfl, _, h2, _, h4, h5, _, _⟩
 ·exact ⟨_, [], rfl, RdS.nil _ _ _⟩
 ·simp only [hb.slice] at hx
  rw [hz] at h5
  have hle := hb.len (elems.map (·.1))
  rw [List.length_map] at hle
  have hel : ∀ i, i < len → ∃ y : α, ∃ cs, cs.length = sz ∧ E (PAll W) y cs ∧ ∀ j v, cs[j]? = some v → W.cell? ((a.add (i * sz)).add j) = some v := by
   intro i hi
   have h6 := h5 i hi
   rw [List.getElem?_eq_getElem (by omega)] at h6
   obtain ⟨cs, k1, k2⟩ := Option.bind_eq_some_iff.1 h6
   obtain ⟨y, k3, k4⟩ := hE m cs _ k2 (Nat.le_trans (hb.memF (by omega)) (by omega))
   refine ⟨y, cs, k3, k4, fun j v hj => ?_⟩
   unfold World.cells? at k1
   split at k1
   ·have hjl := (List.getElem?_eq_some_iff.1 hj).1
    rw [← hj]
    exact mapM_at k1 j j (by rw [List.getElem?_range (by omega)])
   ·cases k1
  obtain ⟨xs, x1, x2⟩ := list_of len hel
  refine ⟨_, xs, rfl, some a, cap, by rw [x1], by omega, by simp only [LIM]; omega, ?_⟩
  by_cases h0 : len = 0
  ·exact .inl (List.eq_nil_of_length_eq_zero (by omega))
  ·right
   have hspot : a.spot = none := by
    obtain ⟨y, cs, y1, _, y2⟩ := hel 0 (by omega)
    have := World.cell?_spot (y2 0 cs[0] (by simp))
    simpa [Addr.add] using this
   obtain ⟨b, o, sp⟩ := a
   simp only at hspot
   subst hspot
   refine ⟨b, o, rfl, fun i y hy => ?_⟩
   obtain ⟨cs, c1, c2, c3⟩ := x2 i y hy
   refine ⟨cs, c1, c2, fun j v hj => pcell_of ?_⟩
   have := c3 j v hj
   rwa [Addr.add_lit, Addr.add_lit] at this
variable {ti ts tb tis : TypeId}
theorem same_of_ext {w w' : World} (h : Ext w w') {p : MemPlace} (hp : p.block < w.heap.size) : w.sameAt w' p := by
 have hb := h.block p.block hp
 cases p with
 | cell b off => simp only [World.sameAt, World.cell?]; simp only [MemPlace.block] at hb; rw [hb]
 | map b => simp only [World.sameAt]; simpa [MemPlace.block] using hb
end
end Fw
namespace Fw
open Go Go.ChangeShapes Go.WideShapes
section
variable {H : Type} {enc : TypeId × Value → H} {P : Program}
theorem trodAll_stays (hl : laidOutB P = true) {W W' : World} {sp' : Nat → Bool} : ∀ {ts : List TypeId} {vs : List Value} {ds : List (DataW H)} {ps : List MemPlace}, (∀ t, t ∈ ts → P.readableRec t = true ∧ t < P.types.size) →
  DataW.TrodAll enc P W 0 (fun _ => true) true ts vs ds ps → (∀ p ∈ ps, W.sameAt W' p) → (∀ p ∈ ps, sp' p.block = true) → DataW.TrodAll enc P W' 0 sp' true ts vs ds ps
 | [], _, _, _, _, h, _, _ => by
  obtain ⟨rfl, rfl, rfl⟩ := trodAll_nil h
  rfl
 | t :: ts, _, _, _, hr, h, hs, hq => by
  obtain ⟨v, vs1, d, ds1, a, b, rfl, rfl, rfl, h1, h2⟩ := trodAll_cons h
  exact ⟨a, b, WideElems.Trod_stays hl (hr t (by simp)).1 (hr t (by simp)).2 h1 (fun p hp => hs p (by simp [hp])) (fun p hp => hq p (by simp [hp])),
   trodAll_stays hl (fun t ht => hr t (by simp [ht])) h2 (fun p hp => hs p (by simp [hp])) (fun p hp => hq p (by simp [hp])), rfl⟩
theorem kept_of_ext {W W' : World} (h : Ext W W') (may : MemPlace → Prop) : W.keptBut W' may := by
 refine ⟨h.os, h.output, fun i hi => ?_⟩
 rw [h.block i hi]
 cases W.heap[i]? with
 | none => simp
 | some o => cases o <;> simp
end
end Fw
namespace Fw
open Go Go.WideShapes
theorem slice_of {P : Program} {W : World} {b : Nat} {t e : TypeId} {v u : Value} (ht : P.underlying t = some (.slice e)) (h : Value.okWide P W .any b t v) (hu : v.cells.toList = [u]) : v = u := by
 unfold Value.okWide at h
 rw [ht] at h
 unfold Cell.okWide at h
 rw [ht] at h
 cases v <;> simp_all [Value.cells, Cell.ok]
end Fw
namespace Go.Proofs.YtejelpcappbmiaaGreatDoor
open Go Go.ChangeShapes Fw Go.Proofs.Tst
theorem bk_type : Option.map (fun g => g.type) (Tryz.prog.globals[0]?) = some 140 := by kernel_rfl
theorem bk_ce : Tryz.prog.cellsOf 388 = 1 := by kernel_rfl
theorem bk_cs : Tryz.prog.cellsOf 9 = 1 := by kernel_rfl
theorem brk_of {n : String} {r : List (String × DataW Unit)} {W : World} (hg : Tryz.prog.globalNamed n = some 0) (h : laidMet Tryz.prog ((n, Rows.laid_loop_example_snapshotfiles_impl_errBroken) :: r) W) : ∃ a, BrkG a (PAll W) := by
 unfold Rows.laid_loop_example_snapshotfiles_impl_errBroken at h
 obtain ⟨a, _, hv, _⟩ := laid_sentinel h hg bk_type Tryz.underlying140 (fun u hu => typeName_ptr_named (nm := "errors.errorString") (tp := 366) kR kR (by decide) u (hu.trans (by decide))) Tryz.underlying366 Tryz.underlying388 rfl rfl Tryz.underlying9 bk_ce bk_cs
 exact ⟨a, pcell_of (by simpa using World.var?_cell hg hv 0)⟩
end Go.Proofs.YtejelpcappbmiaaGreatDoor

namespace Fw
open Go Go.ChangeShapes Go.WideShapes Go.RowKit
section
variable {H : Type} {enc : TypeId × Value → H} {P : Program}
theorem trodVars_single {w : World} {spare : Nat → Bool} {n : String} {gs : List (DataW H)} {ps : List MemPlace} (h : DataW.TrodVars enc P w spare [n] gs ps) : ∃ g, gs = [g] := by
 cases gs with
 | nil => exact h.elim
 | cons d r =>
  obtain ⟨g, t, cs, fuel, p, q, h1, h2, h3, h4, hs, e⟩ := h
  cases r with
  | nil => exact ⟨d, rfl⟩
  | cons d2 r2 => exact hs.elim
theorem law_post_v {f : Func} {s : ChangeSpec} {apart fresh handsOn : Bool} {W W' : World} {args : Array Value} {ds gs : List (DataW H)} {before : List MemPlace} (hl : laidOutB P = true) (hr : ∀ t, t ∈ f.params.toList → P.readableRec t = true ∧ t < P.types.size)
  (hv : varsRowed P s.vars = true) (hW : DataW.Whole enc P f.params.toList s.vars apart W args.toList ds gs before) (hx : Ext W W') (hfr : (s.fn H (ds ++ gs)).results = [.lit (.bool true)]) (hfa : (s.fn H (ds ++ gs)).args = ds) (hfv : (s.fn H (ds ++ gs)).vars = gs)
  (hres : ∀ (b : Nat) (sp : Nat → Bool) (hd : Bool), DataW.TrodAll enc P W' b sp hd f.resultTypes.toList ((Value.bool true).resultList f.resultTypes.size) [.lit (.bool true)] []) :
  s.post enc P f apart fresh handsOn false W args (.bool true) W' := by
 have hW' := hW
 obtain ⟨p, q, hA, hV, rfl, hz, hn⟩ := hW
 have hlt : ∀ m ∈ p, m.block < W.heap.size := fun m hm => hW'.lt m (by simp [hm])
 have hargs : DataW.TrodAll enc P W' 0 (fun b => decide (b < W.heap.size)) true f.params.toList args.toList (s.fn H (ds ++ gs)).args p := by
  rw [hfa]
  exact trodAll_stays hl hr hA (fun m hm => same_of_ext hx (hlt m hm)) (fun m hm => by simpa using hlt m hm)
 have hvars : DataW.TrodVars enc P W' (fun b => decide (b < W.heap.size)) s.vars (s.fn H (ds ++ gs)).vars q := by
  rw [hfv]
  exact Below.trodVars hl ⟨hx.os, hx.tape, hx.output, hx.size, hx.block⟩ hv hV
 exact ⟨ds, gs, p ++ q, [], p, q, hW', by rw [hfr]; exact hres _ _ _, hargs, hvars, World.keptBut_mono (fun m hm => hm.elim) (kept_of_ext hx (fun _ => False)), fun h => by cases h⟩
end
end Fw
