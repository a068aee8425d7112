/- Part 8 of the proof: the program logic and plain functions. Conditions: none. -/
import Derived.Test.YtbhkgogeoafjjaaGreatDoorProg
import Derived.Test.YtbhkgogeoafjjaaGreatDoorG02
import Derived.Test.YtbhkgogeoafjjaaGreatDoorG03
import Derived.Test.YtbhkgogeoafjjaaGreatDoorG04
import Derived.Test.YtbhkgogeoafjjaaGreatDoorG05
import Derived.Test.YtbhkgogeoafjjaaGreatDoorG07
import Derived.WideKeyArgs
import Derived.ChangeArms
import Derived.DataElems
import Derived.ChangeSame
set_option linter.all false
set_option maxRecDepth 100000
set_option maxHeartbeats 1000000
namespace Go.Proofs.Tst
open Go Fw Tryz
theorem lSnapDrop_c (w0 : World) (G0 : PH) (hG : PSub G0 w0) (vcode : Value) (code : List (UInt8)) (hcode : RdU G0 vcode code)  :
  Calls Tryz.prog 11 #[vcode] w0 (Rets w0 (.bool true)) := by
 obtain ⟨acode, kcode, rfl⟩ := hcode.shape
 have hlimcode : code.length ≤ 1099511627776 := hcode.lim
 have H := Hp.init hG
 refine calls_of_W (l := [.slice acode code.length kcode]) func11 Z ntmps11 Z (q2 (aG Z (q3 (W_seq (q2 (mV Z (o_len_slice underlying54 Z Z (o_gtr Z Z Z (q3 ?_)))))))))
 refine W_cond Z ?_ ?_
 ·intro hc1
  try simp only [nrm] at hc1
  refine q2 (aG Z (q3 (W_ret (N_K_ret (rt1 results11 Z ?_)))))
  first | exact H.rets rfl | exact H.rets (congrArg Value.bool (by (rw [hag]; rfl)))
 intro hc1'
 try simp only [nrm] at hc1'
 refine W_skip (N_K (q2 (mV Z (o_call call42 Z Z (DrawSnapDrop_c _ _ H.sub _ _ hcode ) ?_))))
 rintro _ w2 ⟨G2, _, g2, rfl, ⟨cV, uV, uP0, rfl, hV, hP0⟩⟩
 have H := H.grow g2
 obtain ⟨a2, m2, c2, a2', m2', c2', a2'', m2'', c2'', rfl, hr2, hr2', hr2''⟩ := hV; have hn_hr2 := hr2.len; have hx_hr2 : _ ≤ 1099511627776 := hr2.lim; have hn_hr2q := hr2'.len; have hx_hr2q : _ ≤ 1099511627776 := hr2'.lim; have hn_hr2qq := hr2''.len; have hx_hr2qq : _ ≤ 1099511627776 := hr2''.lim
 refine ⟨_, Z, ?_⟩
 refine mV Z (o_extract Z Z Z (o_extract Z Z Z (o_alloc H zeroValue32 Z Z ?_))); intro b3 w3 hb3 H
 refine o_store_B 0 H sizeOf32 Z Z Z Z Z Z Z Z ?_; intro w4 H
 refine aG Z (q1 (o_loadagg_B 0 H isAgg32 sizeOf32 Z Z Z Z Z (mV Z (o_call call18 Z Z (i_SnapDrop_c _ _ H.sub _ uV ⟨_, _, _, _, _, _, _, _, _, Z, hr2, hr2', hr2''⟩ _ hP0 ) ?_))))
 rintro _ w5 ⟨_, _, rfl, H5', ⟨u15, u25, u35, E15, E25, E35, rfl, rfl, ho15, ho25, ho35⟩⟩
 have H := H.readers (fp := []) (by simp) (PLe.refl _) H5'
 obtain ⟨x15, p15⟩ := ho15
 obtain ⟨a15, c15, rfl⟩ := OwnS.shape p15
 obtain ⟨x25, p25⟩ := ho25
 obtain ⟨a25, c25, rfl⟩ := OwnS.shape p25
 obtain ⟨x35, p35⟩ := ho35
 obtain ⟨a35, c35, rfl⟩ := OwnS.shape p35
 refine ⟨_, Z, ?_⟩
 refine mV Z (o_extract Z Z Z (o_extract Z Z Z (o_alloc H zeroValue32 Z Z ?_))); intro b6 w6 hb6 H
 refine o_store_B 0 H sizeOf32 Z Z Z Z Z Z Z Z ?_; intro w7 H
 refine aG Z (q1 (o_loadagg_B 4 H isAgg32 sizeOf32 Z Z Z Z Z (mV Z (o_call call16 Z Z (SnapDropP_c _ _ H.sub _ uV ⟨_, _, _, _, _, _, _, _, _, Z, hr2, hr2', hr2''⟩ _ hP0 ) ?_))))
 rintro _ w8 ⟨G8, _, g8, rfl, u8_0, rfl, hr8_0⟩
 have H := H.grow g8
 have hr2 := hr2.up g8.le
 have hr2' := hr2'.up g8.le
 have hr2'' := hr2''.up g8.le
 obtain ⟨a9, m9, c9, a9', m9', c9', a9'', m9'', c9'', rfl, hr9, hr9', hr9''⟩ := hr8_0; have hn_hr9 := hr9.len; have hx_hr9 : _ ≤ 1099511627776 := hr9.lim; have hn_hr9q := hr9'.len; have hx_hr9q : _ ≤ 1099511627776 := hr9'.lim; have hn_hr9qq := hr9''.len; have hx_hr9qq : _ ≤ 1099511627776 := hr9''.lim
 refine ⟨_, Z, ?_⟩
 refine mV Z (o_extract Z Z Z (o_extract Z Z Z (o_alloc H zeroValue32 Z Z ?_))); intro b10 w10 hb10 H
 refine o_store_B 0 H sizeOf32 Z Z Z Z Z Z Z Z ?_; intro w11 H
 refine aG Z (q3 (W_seq (q2 (mV Z (mV Z (o_bneq_same underlying4 Z Z Z (mV Z (gR Z (o_loadagg_B 1 H isAgg32 sizeOf32 Z Z Z Z Z (gR Z (o_loadagg_B 0 H isAgg32 sizeOf32 Z Z Z Z Z (gR Z (o_call call35 Z Z (w_sameDisk_c _ _ (H.lendSubL [2, 3, 4]) _ ((Sp.SnapDrop uV uP0).getD ⟨[], [], []⟩) ⟨_, _, _, _, _, _, _, _, _, Z, (H.lendOHs (k := 2) (ks := [2, 3, 4]) Z Z ⟨_, p15⟩), (H.lendOIs (k := 3) (ks := [2, 3, 4]) Z Z ⟨_, p25⟩), (H.lendOSn (k := 4) (ks := [2, 3, 4]) Z Z ⟨_, p35⟩)⟩ _ ((Sp.SnapDrop uV uP0).getD ⟨[], [], []⟩) ⟨_, _, _, _, _, _, _, _, _, Z, (hr9.up (PPlus.le _ _ _)), (hr9'.up (PPlus.le _ _ _)), (hr9''.up (PPlus.le _ _ _))⟩ Z) ?_)))))))))))))
 rintro _ w12 ⟨rfl, ew12⟩; have H := H.step ew12; refine ⟨_, rfl, ?_⟩
 refine gR Z (o_not Z Z (o_pick_f Z Z Z (mV Z (gR Z (mV Z (gR Z (o_not Z Z (o_pick_f Z Z Z (q3 ?_)))))))))
 refine W_cond Z ?_ ?_
 ·intro hc13
  try simp only [nrm] at hc13
  refine q2 (mV Z (mV Z (o_beql_same underlying4 Z Z Z (mV Z (gR Z (o_loadagg_B 1 H isAgg32 sizeOf32 Z Z Z Z Z (gR Z (o_loadagg_B 0 H isAgg32 sizeOf32 Z Z Z Z Z (gR Z (o_call call35 Z Z (w_sameDisk_c _ _ (H.lendSubL [2, 3, 4]) _ ((Sp.SnapDrop uV uP0).getD ⟨[], [], []⟩) ⟨_, _, _, _, _, _, _, _, _, Z, (H.lendOHs (k := 2) (ks := [2, 3, 4]) Z Z ⟨_, p15⟩), (H.lendOIs (k := 3) (ks := [2, 3, 4]) Z Z ⟨_, p25⟩), (H.lendOSn (k := 4) (ks := [2, 3, 4]) Z Z ⟨_, p35⟩)⟩ _ ((Sp.SnapDrop uV uP0).getD ⟨[], [], []⟩) ⟨_, _, _, _, _, _, _, _, _, Z, (hr9.up (PPlus.le _ _ _)), (hr9'.up (PPlus.le _ _ _)), (hr9''.up (PPlus.le _ _ _))⟩ Z) ?_))))))))))
  rintro _ w14 ⟨rfl, ew14⟩; have H := H.step ew14; refine ⟨_, rfl, ?_⟩
  refine o_pick_t Z Z Z (aG Z (q3 (W_ret (N_K_ret (rt1 results11 Z ?_)))))
  first | exact H.rets rfl | exact H.rets (congrArg Value.bool (by (rw [hag]; rfl)))
 intro hc13'
 try simp only [nrm] at hc13'
 obtain ⟨u2, hu2⟩ := Option.isSome_iff_exists.1 (show (Sp.SnapDrop uV uP0).isSome = true by simpa using hc13')
 have hW : (Sp.SnapDrop uV uP0).getD ⟨[], [], []⟩ = u2 := by (rw [hu2]; rfl)
 have hvv : Sp.DiskValid ((Sp.SnapDrop uV uP0).getD ⟨[], [], []⟩) = true := by (rw [hW]; exact Sp.sdrop_valid hu2)
 have htr : ((Sp.SnapDrop uV uP0).getD ⟨[], [], []⟩).tree = uV.tree := by (rw [hW]; exact Sp.sdrop_tree hu2)
 have hln : ((Sp.SnapDrop uV uP0).getD ⟨[], [], []⟩).snaps.length + 1 = uV.snaps.length := by (rw [hW]; exact Sp.sdrop_len hu2)
 have hag : Sp.SnapDrop ((Sp.SnapDrop uV uP0).getD ⟨[], [], []⟩) uP0 = none := by (rw [hW]; exact Sp.sdrop_again hu2)
 have hrd : ∀ p, Sp.readT ((Sp.SnapDrop uV uP0).getD ⟨[], [], []⟩) p = Sp.readT uV p := fun p => by (rw [hW]; exact Sp.sdrop_read hu2 p)
 refine W_skip (N_K (W_seq (q2 (aG Z (q3 (W_block ?_))))))
 obtain ⟨ln15, hln15, H⟩ := H.name (k := 0) rfl
 obtain ⟨ln16, hln16, H⟩ := H.name (k := 1) rfl
 obtain ⟨ln17, hln17, H⟩ := H.name (k := 5) rfl
 refine W_lp (hf := (Sub.cons (t := 3) Z (Sub.cons (t := 4) Z (Sub.cons (t := 5) Z Sub.nil)))) (J := fun M w m => ∃ (k : Nat) (G : PH), M = [(9, .int .i64 (k : Int))] ∧ PLe G8 G ∧ Hp w0 G0 [] w G [blk b10 (cl ln15 32), blk b6 (cl ln16 32), frag E15, frag E25, frag E35, blk b3 (cl ln17 32)] ∧ (k ≤ uV.tree.length) ∧ m = (uV.tree.length - k)) (h0 := ⟨0, _, Z, PLe.refl _, H, ?inv, Z⟩) (round := ?round)
 case inv => omega
 case round =>
  rintro _ w18 _ ⟨k, G18, rfl, hle18, H, hinv18, rfl⟩
  subst hln15
  subst hln16
  subst hln17
  have hr2 := hr2.up hle18
  have hr2' := hr2'.up hle18
  have hr2'' := hr2''.up hle18
  have hk := hinv18
  refine W_seq (q2 (mV Z (o_fieldAddr 1 runUnderlying32 Z sizeOf29 Z Z Z (o_load_B 5 H isAgg29 Z Z Z Z (o_len_slice underlying29 Z Z (o_lss Z Z Z (q3 ?_)))))))
  refine W_cond Z ?_ ?_
  ·intro hc19
   try simp only [nrm] at hc19
   refine W_skip (N_K (W_seq (W_block (W_seq (W_drawK [0, 1, 5] 13 H kR Z ?_))))); intro w20 H; have hd20 := PLe.refl G18
   refine RD_t 0 Z kR Z (fun _ hK => v_loadagg_B 2 hK isAgg32 sizeOf32 Z Z Z Z) (RD_t 1 Z kR Z (fun _ hK => v_fieldAddr 1 runUnderlying32 Z sizeOf29 Z Z) (RD_t 2 Z kR Z (fun _ hK => v_load_B 2 hK isAgg29 Z Z Z) (vM 3 Z Z ?_)))
   have hl21 := hr2'.len
   obtain ⟨b21, o21, z21, q21, ha21, hz21, hq21, hE21, hrow21, _⟩ := hr2'.at (i := k) oM
   clear hq21
   obtain ⟨a21, m21, c21, rfl, hi21, hr21⟩ := hE21; have hy_hi21 : _ ≤ 16777216 := hi21; have hn_hr21 := hr21.len; have hx_hr21 : _ ≤ 1099511627776 := hr21.lim
   refine RD_t 4 Z kR Z (fun _ hK => v_index_P (i := k) ha21 underlying29 sizeOf66 Z Z Z oM) (RD_t 5 Z kR Z (fun _ hK => v_fieldAddr 0 runUnderlying66 Z sizeOf9 Z Z) (RD_t 6 Z kR Z (fun _ hK => v_load_P hK isAgg9 Z (hrow21 0 _ Z)) ?_))
   refine RD_run [7] kR Z (RDs.cons Z ?_ RDs.nil)
   refine o_call call43 Z Z (w_readTree_c _ _ H.sub _ uV ⟨_, _, _, _, _, _, _, _, _, Z, hr2, hr2', hr2''⟩ _ hi21 ) ?_
   rintro _ w22 ⟨_, _, rfl, H22', ⟨u22, c22, xs22, rfl, rfl, hchk22, hxl22, hxs22, hxn22⟩⟩
   have H := H.readers (fp := []) (by simp) (PLe.refl _) H22'
   obtain ⟨avr22, cvr22, rfl⟩ := H.accShape (k := 0) rfl
   refine ⟨_, Z, ?_⟩
   try rw [hrd]
   try rw [hrd] at hxs22
   try rw [hrd] at hxn22
   refine R_nil (N_DK (Kn.of' H hd20 (SubL.cons 1 Z (SubL.cons 2 Z (SubL.cons 6 Z SubL.nil)))) (vM 8 Z Z (RD_t 9 Z kR Z (fun _ hK => v_extract Z Z) (RD_t 10 Z kR Z (fun _ hK => v_extract Z Z) (RD_t 11 Z kR Z (fun _ hK => v_assign Z) (RD_t 12 Z kR Z (fun _ hK => v_assign Z) (RD_done kR (N_K (W_seq (W_drawK [1, 2, 6] 13 H kR Z ?_)))))))))); intro w23 H; have hd23 := PLe.refl G18
   refine RD_t 0 Z kR Z (fun _ hK => v_loadagg_B 1 hK isAgg32 sizeOf32 Z Z Z Z) (RD_t 1 Z kR Z (fun _ hK => v_fieldAddr 1 runUnderlying32 Z sizeOf29 Z Z) (RD_t 2 Z kR Z (fun _ hK => v_load_B 2 hK isAgg29 Z Z Z) (vM 3 Z Z ?_)))
   have hl24 := hr2'.len
   obtain ⟨b24, o24, z24, q24, ha24, hz24, hq24, hE24, hrow24, _⟩ := hr2'.at (i := k) oM
   clear hq24
   obtain ⟨a24, m24, c24, rfl, hi24, hr24⟩ := hE24; have hy_hi24 : _ ≤ 16777216 := hi24; have hn_hr24 := hr24.len; have hx_hr24 : _ ≤ 1099511627776 := hr24.lim
   have hzz24 : z21 = z24 := Option.some.inj (hz21.symm.trans hz24)
   subst hzz24
   refine RD_t 4 Z kR Z (fun _ hK => v_index_P (i := k) ha24 underlying29 sizeOf66 Z Z Z oM) (RD_t 5 Z kR Z (fun _ hK => v_fieldAddr 0 runUnderlying66 Z sizeOf9 Z Z) (RD_t 6 Z kR Z (fun _ hK => v_load_P hK isAgg9 Z (hrow24 0 _ Z)) ?_))
   refine RD_run [7] kR Z (RDs.cons Z ?_ RDs.nil)
   refine o_call call43 Z Z (w_readTree_c _ _ (H.lendSubL [3, 4, 5]) _ ((Sp.SnapDrop uV uP0).getD ⟨[], [], []⟩) ⟨_, _, _, _, _, _, _, _, _, Z, (H.lendOHs (k := 3) (ks := [3, 4, 5]) Z Z ⟨_, p15⟩), (H.lendOIs (k := 4) (ks := [3, 4, 5]) Z Z ⟨_, p25⟩), (H.lendOSn (k := 5) (ks := [3, 4, 5]) Z Z ⟨_, p35⟩)⟩ _ hi24 ) ?_
   rintro _ w25 ⟨_, _, rfl, H25', ⟨u25, c25, xs25, rfl, rfl, hchk25, hxl25, hxs25, hxn25⟩⟩
   have H := H.readersL H25'
   obtain ⟨avr25, cvr25, rfl⟩ := H.accShape (k := 0) rfl
   refine ⟨_, Z, ?_⟩
   try rw [hrd]
   try rw [hrd] at hxs25
   try rw [hrd] at hxn25
   refine R_nil (N_DK (Kn.of' H hd23 (SubL.cons 2 Z (SubL.cons 3 Z (SubL.cons 7 Z SubL.nil)))) (vM 8 Z Z (RD_t 9 Z kR Z (fun _ hK => v_extract Z Z) (RD_t 10 Z kR Z (fun _ hK => v_extract Z Z) (RD_t 11 Z kR Z (fun _ hK => v_assign Z) (RD_t 12 Z kR Z (fun _ hK => v_assign Z) (RD_done kR (N_K (q2 (mV Z (mV Z (o_bneq_same underlying4 Z Z Z (mV Z (gR Z (mV Z ?_)))))))))))))))
   refine gR Z (mV Z (gR Z (o_call call44 Z Z (w_sameInts_c _ _ (H.lendSubL [0, 1]) _ _ (H.lendRdL (k := 1) (ks := [0, 1]) Z Z (chkI hchk22) aN aN) _ _ (H.lendRdL (k := 0) (ks := [0, 1]) Z Z (chkI hchk25) aN aN) (Sp.rd_same hxs22 hxn22 hxs25 hxn25)) ?_)))
   rintro _ w26 ⟨rfl, ew26⟩; have H := H.step ew26; refine ⟨_, rfl, ?_⟩
   refine gR Z (o_not Z Z (o_pick_f Z Z Z (q3 (W_false Z (W_skip (N_B (N_K (W_region (mV Z (o_add Z Z Z oO (aG Z (R_nil ?_))))))))))))
   have H := H.del (k := 0) rfl
   have H := H.del (k := 0) rfl
   refine N_lp (hJ := ⟨k + 1, _, Z, hle18, H, ?inv, Z⟩) (hm := ?hm)
   case hm => omega
   case inv => omega
  intro hc19'
  try simp only [nrm] at hc19'
  refine W_exit (N_K_exit (N_LP_exit (N_B_same (N_K (q2 (o_loadagg_B 1 H isAgg32 sizeOf32 Z Z Z Z Z (mV Z (o_call call18 Z Z (i_SnapDrop_c _ _ (H.lendSubL [2, 3, 4]) _ ((Sp.SnapDrop uV uP0).getD ⟨[], [], []⟩) ⟨_, _, _, _, _, _, _, _, _, Z, (H.lendOHs (k := 2) (ks := [2, 3, 4]) Z Z ⟨_, p15⟩), (H.lendOIs (k := 3) (ks := [2, 3, 4]) Z Z ⟨_, p25⟩), (H.lendOSn (k := 4) (ks := [2, 3, 4]) Z Z ⟨_, p35⟩)⟩ _ hP0 ) ?_))))))))
  rintro _ w28 ⟨_, _, rfl, H28', ⟨u128, u228, u328, E128, E228, E328, rfl, rfl, ho128, ho228, ho328⟩⟩
  have H := H.readersL H28'
  obtain ⟨x128, p128⟩ := ho128
  obtain ⟨a128, c128, rfl⟩ := OwnS.shape p128
  obtain ⟨x228, p228⟩ := ho228
  obtain ⟨a228, c228, rfl⟩ := OwnS.shape p228
  obtain ⟨x328, p328⟩ := ho328
  obtain ⟨a328, c328, rfl⟩ := OwnS.shape p328
  refine ⟨_, Z, ?_⟩
  refine mV Z (o_extract Z Z Z (o_extract Z Z Z (o_alloc H zeroValue32 Z Z ?_))); intro b29 w29 hb29 H
  refine o_store_B 0 H sizeOf32 Z Z Z Z Z Z Z Z ?_; intro w30 H
  refine aG Z (q1 (o_loadagg_B 5 H isAgg32 sizeOf32 Z Z Z Z Z (o_call call36 Z Z (i_DiskValid_c _ _ (H.lendSubL [6, 7, 8]) _ ((Sp.SnapDrop uV uP0).getD ⟨[], [], []⟩) ⟨_, _, _, _, _, _, _, _, _, Z, (H.lendOHs (k := 6) (ks := [6, 7, 8]) Z Z ⟨_, p15⟩), (H.lendOIs (k := 7) (ks := [6, 7, 8]) Z Z ⟨_, p25⟩), (H.lendOSn (k := 8) (ks := [6, 7, 8]) Z Z ⟨_, p35⟩)⟩ ) ?_)))
  rintro _ w31 ⟨rfl, ew31⟩; have H := H.step ew31; refine ⟨_, rfl, ?_⟩
  refine mV Z ?_
  refine R_case (t := 103) Z ?_ ?_
  ·intro hc32
   try simp only [nrm] at hc32
   refine gR Z (o_fieldAddr 2 runUnderlying32 Z sizeOf30 Z Z Z (gR Z (o_load_B 5 H isAgg30 Z Z Z Z (gR Z (o_len_slice underlying30 Z Z (gR Z (o_fieldAddr 2 runUnderlying32 Z sizeOf30 Z Z Z (gR Z (o_load_B 9 H isAgg30 Z Z Z Z (gR Z (o_len_slice underlying30 Z Z (gR Z (o_sub Z Z Z oO (gR Z (o_eql Z Z Z ?_)))))))))))))))
   refine o_pick_t Z Z Z (mV Z ?_)
   refine R_case (t := 113) Z ?_ ?_
   ·intro hc34
    try simp only [nrm] at hc34
    refine gR Z (o_fieldAddr 1 runUnderlying32 Z sizeOf29 Z Z Z (gR Z (o_load_B 5 H isAgg29 Z Z Z Z (gR Z (o_fieldAddr 1 runUnderlying32 Z sizeOf29 Z Z Z (gR Z (o_load_B 9 H isAgg29 Z Z Z Z (gR Z (o_call call37 Z Z (w_sameTree_c _ _ (H.lendSubL [7]) _ _ (H.lendOIs (k := 7) (ks := [7]) Z Z ⟨_, p25⟩) _ _ (hr2'.up (PPlus.le _ _ _)) (by first | rfl | assumption)) ?_)))))))))
    rintro _ w35 ⟨rfl, ew35⟩; have H := H.step ew35; refine ⟨_, rfl, ?_⟩
    refine o_pick_t Z Z Z (mV Z (gR Z (mV Z (gR Z (o_not Z Z (o_pick_t Z Z Z (aG Z (q3 (W_ret (rt1 results11 Z ?_))))))))))
    first | exact H.rets rfl | exact H.rets (congrArg Value.bool (by (rw [hag]; rfl)))
   intro hc34'
   try simp only [nrm] at hc34'
   exact absurd (show False from by first | omega | simp_all) id
  intro hc32'
  try simp only [nrm] at hc32'
  exact absurd (show False from by first | omega | simp_all) id
end Go.Proofs.Tst

namespace Go.Proofs.Tst
open Go Fw Tryz
theorem lDiskWrite_c (w0 : World) (G0 : PH) (hG : PSub G0 w0) (vcode : Value) (code : List (UInt8)) (hcode : RdU G0 vcode code)  :
  Calls Tryz.prog 12 #[vcode] w0 (Rets w0 (.bool true)) := by
 obtain ⟨acode, kcode, rfl⟩ := hcode.shape
 have hlimcode : code.length ≤ 1099511627776 := hcode.lim
 have H := Hp.init hG
 refine calls_of_W (l := [.slice acode code.length kcode]) func12 Z ntmps12 Z (q2 (aG Z (q3 (W_seq (q2 (mV Z (o_len_slice underlying54 Z Z (o_gtr Z Z Z (q3 ?_)))))))))
 refine W_cond Z ?_ ?_
 ·intro hc1
  try simp only [nrm] at hc1
  refine q2 (aG Z (q3 (W_ret (N_K_ret (rt1 results12 Z ?_)))))
  exact H.rets Z
 intro hc1'
 try simp only [nrm] at hc1'
 refine W_skip (N_K (q2 (mV Z (o_call call45 Z Z (DrawDiskWrite_c _ _ H.sub _ _ hcode ) ?_))))
 rintro _ w2 ⟨G2, _, g2, rfl, ⟨cV, uV, uP0, vB, uB, rfl, hV, hP0, hB⟩⟩
 have H := H.grow g2
 obtain ⟨a2, m2, c2, a2', m2', c2', a2'', m2'', c2'', rfl, hr2, hr2', hr2''⟩ := hV; have hn_hr2 := hr2.len; have hx_hr2 : _ ≤ 1099511627776 := hr2.lim; have hn_hr2q := hr2'.len; have hx_hr2q : _ ≤ 1099511627776 := hr2'.lim; have hn_hr2qq := hr2''.len; have hx_hr2qq : _ ≤ 1099511627776 := hr2''.lim
 obtain ⟨aB, kB, rfl⟩ := hB.shape; have hx_hB : _ ≤ 1099511627776 := hB.lim
 refine ⟨_, Z, ?_⟩
 refine mV Z (o_extract Z Z Z (o_extract Z Z Z (o_extract Z Z Z (o_alloc H zeroValue32 Z Z ?_)))); intro b3 w3 hb3 H
 refine o_store_B 0 H sizeOf32 Z Z Z Z Z Z Z Z ?_; intro w4 H
 refine aG Z (aG Z (q1 (o_loadagg_B 0 H isAgg32 sizeOf32 Z Z Z Z Z (mV Z (mV Z (o_call call46 Z Z (i_DiskWrite_c _ _ H.sub _ uV ⟨_, _, _, _, _, _, _, _, _, Z, hr2, hr2', hr2''⟩ _ hP0 _ _ hB ) ?_))))))
 rintro _ w5 ⟨_, _, rfl, H5', ⟨u15, u25, u35, E15, E25, E35, rfl, rfl, ho15, ho25, ho35⟩⟩
 have H := H.readers (fp := []) (by simp) (PLe.refl _) H5'
 obtain ⟨x15, p15⟩ := ho15
 obtain ⟨a15, c15, rfl⟩ := OwnS.shape p15
 obtain ⟨x25, p25⟩ := ho25
 obtain ⟨a25, c25, rfl⟩ := OwnS.shape p25
 obtain ⟨x35, p35⟩ := ho35
 obtain ⟨a35, c35, rfl⟩ := OwnS.shape p35
 refine ⟨_, Z, ?_⟩
 refine mV Z (o_extract Z Z Z (o_extract Z Z Z (o_alloc H zeroValue32 Z Z ?_))); intro b6 w6 hb6 H
 refine o_store_B 0 H sizeOf32 Z Z Z Z Z Z Z Z ?_; intro w7 H
 refine aG Z (q1 (o_loadagg_B 4 H isAgg32 sizeOf32 Z Z Z Z Z (mV Z (mV Z (o_call call47 Z Z (DiskWriteP_c _ _ H.sub _ uV ⟨_, _, _, _, _, _, _, _, _, Z, hr2, hr2', hr2''⟩ _ hP0 _ _ hB ) ?_)))))
 rintro _ w8 ⟨G8, _, g8, rfl, u8_0, rfl, hr8_0⟩
 have H := H.grow g8
 have hB := hB.up g8.le
 obtain ⟨a9, m9, c9, a9', m9', c9', a9'', m9'', c9'', rfl, hr9, hr9', hr9''⟩ := hr8_0; have hn_hr9 := hr9.len; have hx_hr9 : _ ≤ 1099511627776 := hr9.lim; have hn_hr9q := hr9'.len; have hx_hr9q : _ ≤ 1099511627776 := hr9'.lim; have hn_hr9qq := hr9''.len; have hx_hr9qq : _ ≤ 1099511627776 := hr9''.lim
 refine ⟨_, Z, ?_⟩
 refine mV Z (o_extract Z Z Z (o_extract Z Z Z (o_alloc H zeroValue32 Z Z ?_))); intro b10 w10 hb10 H
 refine o_store_B 0 H sizeOf32 Z Z Z Z Z Z Z Z ?_; intro w11 H
 refine aG Z (q3 (W_seq (q2 (mV Z (mV Z (o_bneq_same underlying4 Z Z Z (mV Z (gR Z (o_loadagg_B 1 H isAgg32 sizeOf32 Z Z Z Z Z (gR Z (o_loadagg_B 0 H isAgg32 sizeOf32 Z Z Z Z Z (gR Z (o_call call35 Z Z (w_sameDisk_c _ _ (H.lendSubL [2, 3, 4]) _ ((Sp.DiskWrite uV uP0 uB).getD ⟨[], [], []⟩) ⟨_, _, _, _, _, _, _, _, _, Z, (H.lendOHs (k := 2) (ks := [2, 3, 4]) Z Z ⟨_, p15⟩), (H.lendOIs (k := 3) (ks := [2, 3, 4]) Z Z ⟨_, p25⟩), (H.lendOSn (k := 4) (ks := [2, 3, 4]) Z Z ⟨_, p35⟩)⟩ _ ((Sp.DiskWrite uV uP0 uB).getD ⟨[], [], []⟩) ⟨_, _, _, _, _, _, _, _, _, Z, (hr9.up (PPlus.le _ _ _)), (hr9'.up (PPlus.le _ _ _)), (hr9''.up (PPlus.le _ _ _))⟩ Z) ?_)))))))))))))
 rintro _ w12 ⟨rfl, ew12⟩; have H := H.step ew12; refine ⟨_, rfl, ?_⟩
 refine gR Z (o_not Z Z (o_pick_f Z Z Z (mV Z (gR Z (mV Z (gR Z (o_not Z Z (o_pick_f Z Z Z (q3 ?_)))))))))
 refine W_cond Z ?_ ?_
 ·intro hc13
  try simp only [nrm] at hc13
  refine q2 (mV Z (mV Z (o_beql_same underlying4 Z Z Z (mV Z (gR Z (o_loadagg_B 1 H isAgg32 sizeOf32 Z Z Z Z Z (gR Z (o_loadagg_B 0 H isAgg32 sizeOf32 Z Z Z Z Z (gR Z (o_call call35 Z Z (w_sameDisk_c _ _ (H.lendSubL [2, 3, 4]) _ ((Sp.DiskWrite uV uP0 uB).getD ⟨[], [], []⟩) ⟨_, _, _, _, _, _, _, _, _, Z, (H.lendOHs (k := 2) (ks := [2, 3, 4]) Z Z ⟨_, p15⟩), (H.lendOIs (k := 3) (ks := [2, 3, 4]) Z Z ⟨_, p25⟩), (H.lendOSn (k := 4) (ks := [2, 3, 4]) Z Z ⟨_, p35⟩)⟩ _ ((Sp.DiskWrite uV uP0 uB).getD ⟨[], [], []⟩) ⟨_, _, _, _, _, _, _, _, _, Z, (hr9.up (PPlus.le _ _ _)), (hr9'.up (PPlus.le _ _ _)), (hr9''.up (PPlus.le _ _ _))⟩ Z) ?_))))))))))
  rintro _ w14 ⟨rfl, ew14⟩; have H := H.step ew14; refine ⟨_, rfl, ?_⟩
  refine o_pick_t Z Z Z (aG Z (q3 (W_ret (N_K_ret (rt1 results12 Z ?_)))))
  exact H.rets Z
 intro hc13'
 try simp only [nrm] at hc13'
 obtain ⟨u2, hu2⟩ := Option.isSome_iff_exists.1 (show (Sp.DiskWrite uV uP0 uB).isSome = true by simpa using hc13')
 have hW : (Sp.DiskWrite uV uP0 uB).getD ⟨[], [], []⟩ = u2 := by (rw [hu2]; rfl)
 have hvv : Sp.DiskValid ((Sp.DiskWrite uV uP0 uB).getD ⟨[], [], []⟩) = true := by (rw [hW]; exact Sp.dwrite_valid hu2)
 have hrd : Sp.readT ((Sp.DiskWrite uV uP0 uB).getD ⟨[], [], []⟩) uP0 = some uB := by (rw [hW]; exact Sp.dwrite_read hu2)
 refine W_skip (N_K (q2 (o_loadagg_B 1 H isAgg32 sizeOf32 Z Z Z Z Z (mV Z (o_call call43 Z Z (w_readTree_c _ _ (H.lendSubL [2, 3, 4]) _ ((Sp.DiskWrite uV uP0 uB).getD ⟨[], [], []⟩) ⟨_, _, _, _, _, _, _, _, _, Z, (H.lendOHs (k := 2) (ks := [2, 3, 4]) Z Z ⟨_, p15⟩), (H.lendOIs (k := 3) (ks := [2, 3, 4]) Z Z ⟨_, p25⟩), (H.lendOSn (k := 4) (ks := [2, 3, 4]) Z Z ⟨_, p35⟩)⟩ _ hP0 ) ?_)))))
 rintro _ w15 ⟨_, _, rfl, H15', ⟨u15, c15, xs15, rfl, rfl, hchk15, hxl15, hxs15, hxn15⟩⟩
 have H := H.readersL H15'
 obtain ⟨avr15, cvr15, rfl⟩ := H.accShape (k := 0) rfl
 refine ⟨_, Z, ?_⟩
 refine mV Z (o_extract Z Z Z (o_extract Z Z Z (aG Z (aG Z (q1 (o_loadagg_B 2 H isAgg32 sizeOf32 Z Z Z Z Z (o_call call36 Z Z (i_DiskValid_c _ _ (H.lendSubL [3, 4, 5]) _ ((Sp.DiskWrite uV uP0 uB).getD ⟨[], [], []⟩) ⟨_, _, _, _, _, _, _, _, _, Z, (H.lendOHs (k := 3) (ks := [3, 4, 5]) Z Z ⟨_, p15⟩), (H.lendOIs (k := 4) (ks := [3, 4, 5]) Z Z ⟨_, p25⟩), (H.lendOSn (k := 5) (ks := [3, 4, 5]) Z Z ⟨_, p35⟩)⟩ ) ?_)))))))
 rintro _ w16 ⟨rfl, ew16⟩; have H := H.step ew16; refine ⟨_, rfl, ?_⟩
 refine mV Z ?_
 refine R_case (t := 64) Z ?_ ?_
 ·intro hc17
  try simp only [nrm] at hc17
  refine gR Z (mV Z (o_pick_t Z Z Z (mV Z ?_)))
  refine R_case (t := 67) Z ?_ ?_
  ·intro hc18
   try simp only [nrm] at hc18
   refine gR Z (mV Z (gR Z (mV Z (gR Z (o_call call44 Z Z (w_sameInts_c _ _ (H.lendSubL [0]) _ _ (H.lendRdL (k := 0) (ks := [0]) Z Z (chkI hchk15) aN aN) _ _ (hB.up (PPlus.le _ _ _)) (hxs15 _ hrd)) ?_)))))
   rintro _ w19 ⟨rfl, ew19⟩; have H := H.step ew19; refine ⟨_, rfl, ?_⟩
   refine o_pick_t Z Z Z (aG Z (q3 (W_ret (rt1 results12 Z ?_))))
   exact H.rets Z
  intro hc18'
  try simp only [nrm] at hc18'
  exact absurd (show False from by simp_all) id
 intro hc17'
 try simp only [nrm] at hc17'
 exact absurd (show False from by simp_all) id
end Go.Proofs.Tst

namespace Go.Proofs.Tst
open Go Fw Tryz
theorem i_read_c (w0 : World) (G0 : PH) (hG : PSub G0 w0) (mbs : Nat) (ess : Array MapEntry) (cks : Nat) (xss : List (Int × Value)) (Ls : List BHeld) (hbs : MapAt G0 mbs ess cks) (hms : MapIs (Value.int .i64) ess cks xss) (hSs : StR G0 xss Ls) (hVs : Sp.VH Ls) (t : Nd) (hndt : RdN G0 t) (path : Bs) (hpath : path.length ≤ 16777216) (hwt : t.wf) :
  Calls Tryz.prog 151 #[.map (some mbs), .pointer (some ⟨t.b, 0, none⟩), str path] w0 (RetN w0 G0 (fun v Bs => ∃ (uv : Value) (c : List Value) (xs : List Int), v = .tuple #[uv, .bool (Sp.readN Ls t path).isSome] ∧ Bs = [acc 3 1 uv xs.length c] ∧ Chk intE 1 (fun _ => none) c xs ∧ xs.length ≤ 1000 ∧ (∀ ys, Sp.readN Ls t path = some ys → xs = ys) ∧ (Sp.readN Ls t path = none → xs = []))) := by
 obtain ⟨hnlt, nat, nmt, nct, nAt, nMt, nCt, hprt, hrit, hrkt⟩ := hndt.open
 have hn_hrit := hrit.len; have hx_hrit : _ ≤ 1099511627776 := hrit.lim
 have hn_hrkt := hrkt.len; have hx_hrkt : _ ≤ 1099511627776 := hrkt.lim
 have H := Hp.init hG
 refine calls_of_W (l := [.map (some mbs), .pointer (some ⟨t.b, 0, none⟩), str path]) func151 Z ntmps151 Z (q2 (aG Z (aG Z (q1 (mV Z (mV Z (o_call call134 Z Z (i_find_n_c _ _ H.sub _ hndt _ hpath hwt) ?_)))))))
 rintro _ w1 ⟨_, rfl, ew1, ⟨hfi1, rfl⟩ | ⟨d1, hfi1, rfl⟩⟩
 ·skip
  have H := H.step ew1; refine ⟨_, rfl, ?_⟩
  refine aG Z (q3 (W_seq (q2 (mV Z (o_eqnil_ptr underlying93 Z Z Z (mV Z (rP Z (rP Z (rP Z (rP Z (o_pick_t Z Z Z (q3 (W_true Z (q2 (aG Z ?_)))))))))))))))
  refine aG Z (q3 (W_ret (N_K_ret (rt2 results151 Z Z ?_))))
  have H := H.addNil 3 1
  have hno : Sp.readN Ls t path = none := by (simp_all [Sp.readN])
  have H := H.forget hG (by simp)
  exact ⟨_, _, rfl, H, _, _, [], (by (rw [hno]; rfl)), rfl, (Chk.nil (E := intE) (sz := 1) (G := G0)), by simp, fun ys h => (by rw [hno] at h; cases h), fun _ => rfl⟩
 skip
 have H := H.step ew1; refine ⟨_, rfl, ?_⟩
 have hnd1 := hndt.at (Nd.find_at_ hfi1); obtain ⟨hnl1, na1, nm1, nc1, nA1, nM1, nC1, hpr1, hri1, hrk1⟩ := hnd1.open
 have hn_hri1 := hri1.len; have hx_hri1 : _ ≤ 1099511627776 := hri1.lim
 have hn_hrk1 := hrk1.len; have hx_hrk1 : _ ≤ 1099511627776 := hrk1.lim
 refine aG Z (q3 (W_seq (q2 (mV Z (o_eqnil_ptr underlying93 Z Z Z (mV Z (gR Z (mV Z (gR Z (o_nilCheck Z Z (gR Z (o_fieldAddr 1 runUnderlying166 Z sizeOf4 Z Z Z (gR Z (o_load_P H isAgg4 Z Z (hpr1 1 _ Z) (o_pick_f Z Z Z ?_)))))))))))))))
 refine q3 ?_
 refine W_cond Z ?_ ?_
 ·intro hc2
  try simp only [nrm] at hc2
  refine q2 (aG Z (aG Z (q3 (W_ret (N_K_ret (rt2 results151 Z Z ?_))))))
  have H := H.addNil 3 1
  have hno : Sp.readN Ls t path = none := by (simp_all [Sp.readN])
  have H := H.forget hG (by simp)
  exact ⟨_, _, rfl, H, _, _, [], (by (rw [hno]; rfl)), rfl, (Chk.nil (E := intE) (sz := 1) (G := G0)), by simp, fun ys h => (by rw [hno] at h; cases h), fun _ => rfl⟩
 intro hc2'
 try simp only [nrm] at hc2'
 refine W_skip (N_K (q2 (mV Z (mV Z (o_nilCheck Z Z (o_fieldAddr 2 runUnderlying166 Z sizeOf41 Z Z Z (o_load_P H isAgg41 Z Z (hpr1 2 _ Z) (o_call call149 Z Z (i_loadFile_c _ _ H.sub _ _ _ _ _ hbs hms hSs hVs _ _ hri1 ) ?_))))))))
 rintro _ w3 ⟨_, _, rfl, H3', ⟨u3, c3, xs3, rfl, rfl, hchk3, hxl3, hxs3, hxn3⟩⟩
 have H := H.readers (fp := []) (by simp) (PLe.refl _) H3'
 obtain ⟨avr3, cvr3, rfl⟩ := H.accShape (k := 0) rfl
 refine ⟨_, Z, ?_⟩
 refine o_extract Z Z Z (o_extract Z Z Z (aG Z (aG Z (q3 (W_ret (rt2 results151 Z Z ?_))))))
 have hd : Sp.readN Ls t path = if Sp.l4Ids Ls d1.ids then some (Sp.load Ls d1.ids) else none := by simp_all [Sp.readN]
 have H := H.forget hG (by simp)
 exact ⟨_, _, rfl, H, _, _, xs3, (by (rw [hd]; cases Sp.l4Ids Ls d1.ids <;> rfl)), acc_1 rfl, chkI (G := fun _ => none) ((chkI hchk3)), hxl3, fun ys h => by (rw [hd] at h; by_cases hq : Sp.l4Ids Ls d1.ids = true; (· (rw [if_pos hq] at h); cases h; exact hxs3 hq); (· (rw [if_neg hq] at h); cases h)), fun h => hxn3 (by (rw [hd] at h); by_cases hq : Sp.l4Ids Ls d1.ids = true; (· (rw [if_pos hq] at h); cases h); (· simpa using hq))⟩
end Go.Proofs.Tst

namespace Go.Proofs.Tst
open Go Fw Tryz
theorem i_readSnap_c (w0 : World) (G0 : PH) (hG : PSub G0 w0) (db mb : Nat) (es : Array MapEntry) (ck : Nat) (xs : List (Int × Value)) (T : Nd) (FT : Fr) (sv : Value) (sn : List (Bs × Nd)) (c : List Value) (FSq : Fr) (d : BDisk) (hm : MapIs (Value.int .i64) es ck xs) (hS : StR G0 xs d.store) (hN : NdO 166 93 G0 T FT) (hT : Nd.TOK T d.tree) (hchk : Chk osE 2 G0 c sn) (hNs : NdsO 166 93 G0 (sn.map (·.2)) FSq) (hSn : SnOK sn d.snaps) (hdv : Sp.DiskValid d = true) (name : Bs) (hname : name.length ≤ 16777216) (path : Bs) (hpath : path.length ≤ 16777216) (hLent : Lent w0 G0 [blk db (cl [.int .i32 0, .int .u32 0, .map (some mb), .pointer (some ⟨T.b, 0, none⟩), sv] 147), blk mb (.map es ck), frag FT, acc 151 2 sv sn.length c, frag FSq])  :
  Calls Tryz.prog 100 #[.pointer (some ⟨db, 0, none⟩), str name, str path] w0 (RetM w0 G0 (fps [blk db (cl [.int .i32 0, .int .u32 0, .map (some mb), .pointer (some ⟨T.b, 0, none⟩), sv] 147), blk mb (.map es ck), frag FT, acc 151 2 sv sn.length c, frag FSq]) (fun G' v Bs => ∃ (uv : Value) (c : List Value) (xs : List Int), v = .tuple #[uv, .bool (Sp.SnapRead d name path).isSome] ∧ Bs = [acc 3 1 uv xs.length c] ∧ Chk intE 1 (fun _ => none) c xs ∧ xs.length ≤ 1000 ∧ (∀ ys, Sp.SnapRead d name path = some ys → xs = ys) ∧ (Sp.SnapRead d name path = none → xs = []))) := by
 have H : Hp w0 G0 (fps [blk db (cl [.int .i32 0, .int .u32 0, .map (some mb), .pointer (some ⟨T.b, 0, none⟩), sv] 147), blk mb (.map es ck), frag FT, acc 151 2 sv sn.length c, frag FSq]) w0 G0 [blk db (cl [.int .i32 0, .int .u32 0, .map (some mb), .pointer (some ⟨T.b, 0, none⟩), sv] 147), blk mb (.map es ck), frag FT, acc 151 2 sv sn.length c, frag FSq] := hLent.hp
 obtain ⟨adv, cdv, rfl⟩ := H.accShape (k := 3) rfl; have hVd := Sp.valid_iff.1 (Sp.dv_parts.1 hdv).1; have hTv := (Sp.dv_parts.1 hdv).2.1; have hTc := hT.cnt; have hTl := Sp.tree_len hTv; have hsnl := hSn.len; have hsn6 := (Sp.dv_parts.1 hdv).2.2.1
 refine calls_of_WD (l := [.pointer (some ⟨db, 0, none⟩), str name, str path]) func100 Z ntmps100 Z (q2 (aG Z (aG Z (q1 (mV Z (o_nilCheck Z Z (o_fieldAddr 0 runUnderlying147 Z sizeOf144 Z Z Z (o_lock 0 H muLib Z call115 Z Z Z Z ?_)))))))); intro w1 H
 refine q1 (mV Z (o_nilCheck Z Z (o_fieldAddr 0 runUnderlying147 Z sizeOf144 Z Z Z (o_defer Z (q1 (mV Z (mV Z (o_call call117 Z Z (i_snapAt_c _ _ (H.lendSubL [0, 3]) _ _ _ _ _ _ _ (prow_blk (H.lendPredL (k := 0) (ks := [0, 3]) Z Z)) (H.lendRdL (k := 3) (ks := [0, 3]) Z Z hchk aN aN) _ hname ) ?_))))))))
 rintro _ w2 ⟨rfl, ew2⟩; have H := H.step ew2; refine ⟨_, rfl, ?_⟩
 refine aG Z (q3 (W_seq (q2 (mV Z (o_lss Z Z Z (q3 ?_))))))
 refine W_cond Z ?_ ?_
 ·intro hc3
  try simp only [nrm] at hc3
  refine q2 (aG Z (aG Z (q3 (W_ret (N_K_ret (ret_unlock 0 H muLib Z call116 Z Z (rs := [.tmp 6, .tmp 7]) results100 ?_)))))); intro wu1 H
  refine ⟨[_, _], ⟨Z, Z, trivial⟩, ?_⟩
  have H := H.addNil 3 1
  have H := H.del (k := 1) rfl
  have H := H.del (k := 1) rfl
  have H := H.del (k := 1) rfl
  have H := H.del (k := 1) rfl
  have H := H.del (k := 1) rfl
  have hno : Sp.SnapRead d name path = none := Sp.snapread_noat (by (rw [← Sp.sn_find hSn]; omega))
  exact H.retM ⟨_, _, [], (by (rw [hno]; rfl)), rfl, chkI (G := fun _ => none) ((Chk.nil (E := intE) (sz := 1) (G := G0))), by simp, fun ys h => (by rw [hno] at h; cases h), fun _ => rfl⟩
 intro hc3'
 try simp only [nrm] at hc3'
 obtain ⟨i, x, s0, hat, hsx, hs0, hai, htx, hix⟩ := sn_at hSn (n := name) oM
 refine W_skip (N_K (W_seq (W_drawK [0] 19 H kR Z ?_))); intro w4 H; have hd4 := PLe.refl G0
 refine vM 0 Z Z (RD_t 1 Z kR Z (fun _ hK => v_nilCheck Z) (RD_t 2 Z kR Z (fun _ hK => v_fieldAddr 2 runUnderlying147 Z sizeOf95 Z Z) (RD_t 3 Z kR Z (fun _ hK => v_fieldAddr 0 runUnderlying95 Z sizeOf92 Z Z) (RD_t 4 Z kR Z (fun _ hK => v_load_B 0 hK isAgg92 Z Z Z) (vM 5 Z Z (RD_t 6 Z kR Z (fun _ hK => v_nilCheck Z) (RD_t 7 Z kR Z (fun _ hK => v_fieldAddr 4 runUnderlying147 Z sizeOf145 Z Z) (RD_t 8 Z kR Z (fun _ hK => v_load_B 0 hK isAgg145 Z Z Z) (vM 9 Z Z (vM 13 Z Z ?_))))))))))
 refine RD_run [10] kR Z (RDs.cons Z ?_ RDs.nil)
 refine o_index_A 3 H i Z hchk underlying145 sizeOf151 Z Z Z hat aN aN ?_; intro ba5 z5 q5 hba5 hz5 hE5 hg5; cases hba5
 obtain ⟨rfl, hi5⟩ := hE5; have hy_hi5 : _ ≤ 16777216 := hi5
 refine R_nil (N_DK (Kn.of' H hd4 (SubL.cons 0 Z SubL.nil)) (RD_t 11 Z kR Z (fun _ hK => v_fieldAddr 1 runUnderlying151 Z sizeOf93 Z Z) ?_))
 refine RD_run [12] kR Z (RDs.cons Z ?_ RDs.nil)
 refine o_load_A 3 H isAgg93 Z Z Z (hg5 1 _ Z) (R_nil (N_DK (Kn.of' H hd4 (SubL.cons 0 Z SubL.nil)) ?_))
 refine RD_run [14] kR Z (RDs.cons Z ?_ RDs.nil)
 refine o_call call151 Z Z (i_read_c _ _ (H.lendSubL [1, 4]) _ _ _ _ _ (H.lendPredL (k := 1) (ks := [1, 4]) Z Z) hm (hS.up (PPlus.le _ _ _)) hVd _ (H.lendNs (k := 4) (ks := [1, 4]) Z Z hNs z5.2 (List.mem_map_of_mem (List.mem_of_getElem? hz5))) _ hpath (sn_ok hSn _ (List.mem_map_of_mem (List.mem_of_getElem? hz5))).1) ?_
 rintro _ w6 ⟨_, _, rfl, H6', ⟨u6, c6, xs6, rfl, rfl, hchk6, hxl6, hxs6, hxn6⟩⟩
 have H := H.readersL H6'
 obtain ⟨avr6, cvr6, rfl⟩ := H.accShape (k := 0) rfl
 refine ⟨_, Z, ?_⟩
 refine R_nil (N_DK (Kn.of' H hd4 (SubL.cons 1 Z SubL.nil)) (RD_t 15 Z kR Z (fun _ hK => v_extract Z Z) (RD_t 16 Z kR Z (fun _ hK => v_extract Z Z) (RD_t 17 Z kR Z (fun _ hK => v_assign Z) (RD_t 18 Z kR Z (fun _ hK => v_assign Z) (RD_done kR (N_K (W_ret (ret_unlock 1 H muLib Z call116 Z Z (rs := [.tmp 6, .tmp 7]) results100 ?_))))))))); intro wu2 H
 refine ⟨[_, _], ⟨Z, Z, trivial⟩, ?_⟩
 have H := H.del (k := 1) rfl
 have H := H.del (k := 1) rfl
 have H := H.del (k := 1) rfl
 have H := H.del (k := 1) rfl
 have H := H.del (k := 1) rfl
 obtain rfl : x = z5 := Option.some.inj (hsx.symm.trans hz5)
 have hd : Sp.SnapRead d name path = _ := Sp.snapread_eq hdv hai hs0 htx
 exact H.retM ⟨_, _, xs6, (by (rw [hd]; rfl)), acc_1 rfl, chkI (G := fun _ => none) ((chkI hchk6)), hxl6, fun ys h => hxs6 ys (by (rw [hd] at h; exact h)), fun h => hxn6 (by (rw [hd] at h; exact h))⟩
end Go.Proofs.Tst

namespace Go.Proofs.Tst
open Go Fw Tryz
theorem i_SnapRead_c (w0 : World) (G0 : PH) (hG : PSub G0 w0) (cd : List Value) (d : BDisk) (hd : diskE G0 d cd) (name : Bs) (hname : name.length ≤ 16777216) (path : Bs) (hpath : path.length ≤ 16777216)  :
  Calls Tryz.prog 48 #[.agg cd.toArray, str name, str path] w0 (RetN w0 G0 (fun v Bs => ∃ (uv : Value) (c : List Value) (xs : List Int), v = .tuple #[uv, .bool (Sp.SnapRead d name path).isSome] ∧ Bs = [acc 3 1 uv xs.length c] ∧ Chk intE 1 (fun _ => none) c xs ∧ xs.length ≤ 1000 ∧ (∀ ys, Sp.SnapRead d name path = some ys → xs = ys) ∧ (Sp.SnapRead d name path = none → xs = []))) := by
 obtain ⟨a1, m1, c1, a1', m1', c1', a1'', m1'', c1'', rfl, hr1, hr1', hr1''⟩ := hd; have hn_hr1 := hr1.len; have hx_hr1 : _ ≤ 1099511627776 := hr1.lim; have hn_hr1q := hr1'.len; have hx_hr1q : _ ≤ 1099511627776 := hr1'.lim; have hn_hr1qq := hr1''.len; have hx_hr1qq : _ ≤ 1099511627776 := hr1''.lim
 have H := Hp.init hG
 refine calls_of_W (l := [_, str name, str path]) func48 Z ntmps48 Z (q2 (o_box H Z Z Z ?_)); intro b2 w2 hb2 H
 refine aG Z (aG Z (q1 (o_loadagg_B 0 H isAgg32 sizeOf32 Z Z Z Z Z (o_call call89 Z Z (i_newDisk_c _ _ H.sub _ d ⟨_, _, _, _, _, _, _, _, _, Z, hr1, hr1', hr1''⟩ H.lent0 ) ?_))))
 rintro _ w3 ⟨G3, _, _, rfl, H3', ⟨rfl, rfl, hnd3⟩ | ⟨db3, mb3, es3, ck3, xs3, T3, F3, sv3, sn3, c3, FS3, rfl, rfl, hm3, hS3, hN3, hT3, hchk3, hNs3, hSn3, hdv3⟩⟩
 ·skip
  have H := H.borrow0 H3'
  refine ⟨_, Z, ?_⟩
  refine mV Z (o_extract Z Z Z (o_extract Z Z Z (aG Z (aG Z (q3 (W_seq (q2 (mV Z (o_not Z Z (q3 (W_true Z (q2 (aG Z (aG Z (q3 ?_)))))))))))))))
  refine W_ret (N_K_ret (rt2 results48 Z Z ?_))
  have H := H.addNil 3 1
  have H := H.del (k := 1) rfl
  have hno : Sp.SnapRead d name path = none := Sp.snapread_nov (by assumption)
  have H := H.forget hG (by simp)
  exact ⟨_, _, rfl, H, _, _, [], (by (rw [hno]; rfl)), rfl, chkI (G := fun _ => none) ((Chk.nil (E := intE) (sz := 1) (G := G3))), by simp, fun ys h => (by rw [hno] at h; cases h), fun _ => rfl⟩
 skip
 have H := H.borrow0 H3'
 obtain ⟨avAd, cvAd, rfl⟩ := H.accShape (k := 3) rfl
 refine ⟨_, Z, ?_⟩
 refine mV Z (o_extract Z Z Z (o_extract Z Z Z (aG Z (aG Z (q3 (W_seq (q2 (mV Z (o_not Z Z (q3 (W_false Z (W_skip (N_K (q2 (mV Z ?_)))))))))))))))
 refine mV Z (mV Z ?_)
 have H := H.toFront (k := 4) rfl
 have H := H.toFront (k := 4) rfl
 have H := H.toFront (k := 4) rfl
 have H := H.toFront (k := 4) rfl
 have H := H.toFront (k := 4) rfl
 refine o_call call100 Z Z (i_readSnap_c _ _ H.sub _ _ _ _ _ _ _ _ _ _ _ _ hm3 hS3 hN3 hT3 hchk3 hNs3 hSn3 hdv3 _ hname _ hpath H.lent5 ) ?_
 rintro _ w4 ⟨G4, _, _, rfl, H4', ⟨u4, c4, xs4, rfl, rfl, hchk4, hxl4, hxs4, hxn4⟩⟩
 have H := H.borrow5 H4'
 obtain ⟨avr4, cvr4, rfl⟩ := H.accShape (k := 0) rfl
 refine ⟨_, Z, ?_⟩
 refine o_extract Z Z Z (o_extract Z Z Z (aG Z (aG Z (q3 (W_ret (rt2 results48 Z Z ?_))))))
 have H := H.del (k := 1) rfl
 have hd : Sp.SnapRead d name path = _ := rfl
 have H := H.forget hG (by simp)
 exact ⟨_, _, rfl, H, _, _, xs4, (by (rw [hd]; rfl)), acc_1 rfl, chkI (G := fun _ => none) ((chkI hchk4)), hxl4, fun ys h => hxs4 ys (by (rw [hd] at h; exact h)), fun h => hxn4 (by (rw [hd] at h; exact h))⟩
end Go.Proofs.Tst

namespace Go.Proofs.Tst
open Go Fw Tryz
theorem lDiskWriteSnaps_c (w0 : World) (G0 : PH) (hG : PSub G0 w0) (vcode : Value) (code : List (UInt8)) (hcode : RdU G0 vcode code)  :
  Calls Tryz.prog 13 #[vcode] w0 (Rets w0 (.bool true)) := by
 obtain ⟨acode, kcode, rfl⟩ := hcode.shape
 have hlimcode : code.length ≤ 1099511627776 := hcode.lim
 have H := Hp.init hG
 refine calls_of_W (l := [.slice acode code.length kcode]) func13 Z ntmps13 Z (q2 (aG Z (q3 (W_seq (q2 (mV Z (o_len_slice underlying54 Z Z (o_gtr Z Z Z (q3 ?_)))))))))
 refine W_cond Z ?_ ?_
 ·intro hc1
  try simp only [nrm] at hc1
  refine q2 (aG Z (q3 (W_ret (N_K_ret (rt1 results13 Z ?_)))))
  exact H.rets Z
 intro hc1'
 try simp only [nrm] at hc1'
 refine W_skip (N_K (q2 (mV Z (o_call call45 Z Z (DrawDiskWrite_c _ _ H.sub _ _ hcode ) ?_))))
 rintro _ w2 ⟨G2, _, g2, rfl, ⟨cV, uV, uP0, vB, uB, rfl, hV, hP0, hB⟩⟩
 have H := H.grow g2
 obtain ⟨a2, m2, c2, a2', m2', c2', a2'', m2'', c2'', rfl, hr2, hr2', hr2''⟩ := hV; have hn_hr2 := hr2.len; have hx_hr2 : _ ≤ 1099511627776 := hr2.lim; have hn_hr2q := hr2'.len; have hx_hr2q : _ ≤ 1099511627776 := hr2'.lim; have hn_hr2qq := hr2''.len; have hx_hr2qq : _ ≤ 1099511627776 := hr2''.lim
 obtain ⟨aB, kB, rfl⟩ := hB.shape; have hx_hB : _ ≤ 1099511627776 := hB.lim
 refine ⟨_, Z, ?_⟩
 refine mV Z (o_extract Z Z Z (o_extract Z Z Z (o_extract Z Z Z (o_alloc H zeroValue32 Z Z ?_)))); intro b3 w3 hb3 H
 refine o_store_B 0 H sizeOf32 Z Z Z Z Z Z Z Z ?_; intro w4 H
 refine aG Z (aG Z (q1 (o_loadagg_B 0 H isAgg32 sizeOf32 Z Z Z Z Z (mV Z (mV Z (o_call call46 Z Z (i_DiskWrite_c _ _ H.sub _ uV ⟨_, _, _, _, _, _, _, _, _, Z, hr2, hr2', hr2''⟩ _ hP0 _ _ hB ) ?_))))))
 rintro _ w5 ⟨_, _, rfl, H5', ⟨u15, u25, u35, E15, E25, E35, rfl, rfl, ho15, ho25, ho35⟩⟩
 have H := H.readers (fp := []) (by simp) (PLe.refl _) H5'
 obtain ⟨x15, p15⟩ := ho15
 obtain ⟨a15, c15, rfl⟩ := OwnS.shape p15
 obtain ⟨x25, p25⟩ := ho25
 obtain ⟨a25, c25, rfl⟩ := OwnS.shape p25
 obtain ⟨x35, p35⟩ := ho35
 obtain ⟨a35, c35, rfl⟩ := OwnS.shape p35
 refine ⟨_, Z, ?_⟩
 refine mV Z (o_extract Z Z Z (o_extract Z Z Z (o_alloc H zeroValue32 Z Z ?_))); intro b6 w6 hb6 H
 refine o_store_B 0 H sizeOf32 Z Z Z Z Z Z Z Z ?_; intro w7 H
 refine aG Z (q1 (o_loadagg_B 4 H isAgg32 sizeOf32 Z Z Z Z Z (mV Z (mV Z (o_call call47 Z Z (DiskWriteP_c _ _ H.sub _ uV ⟨_, _, _, _, _, _, _, _, _, Z, hr2, hr2', hr2''⟩ _ hP0 _ _ hB ) ?_)))))
 rintro _ w8 ⟨G8, _, g8, rfl, u8_0, rfl, hr8_0⟩
 have H := H.grow g8
 have hr2 := hr2.up g8.le
 have hr2' := hr2'.up g8.le
 have hr2'' := hr2''.up g8.le
 obtain ⟨a9, m9, c9, a9', m9', c9', a9'', m9'', c9'', rfl, hr9, hr9', hr9''⟩ := hr8_0; have hn_hr9 := hr9.len; have hx_hr9 : _ ≤ 1099511627776 := hr9.lim; have hn_hr9q := hr9'.len; have hx_hr9q : _ ≤ 1099511627776 := hr9'.lim; have hn_hr9qq := hr9''.len; have hx_hr9qq : _ ≤ 1099511627776 := hr9''.lim
 refine ⟨_, Z, ?_⟩
 refine mV Z (o_extract Z Z Z (o_extract Z Z Z (o_alloc H zeroValue32 Z Z ?_))); intro b10 w10 hb10 H
 refine o_store_B 0 H sizeOf32 Z Z Z Z Z Z Z Z ?_; intro w11 H
 refine aG Z (q3 (W_seq (q2 (mV Z (mV Z (o_bneq_same underlying4 Z Z Z (mV Z (gR Z (o_loadagg_B 1 H isAgg32 sizeOf32 Z Z Z Z Z (gR Z (o_loadagg_B 0 H isAgg32 sizeOf32 Z Z Z Z Z (gR Z (o_call call35 Z Z (w_sameDisk_c _ _ (H.lendSubL [2, 3, 4]) _ ((Sp.DiskWrite uV uP0 uB).getD ⟨[], [], []⟩) ⟨_, _, _, _, _, _, _, _, _, Z, (H.lendOHs (k := 2) (ks := [2, 3, 4]) Z Z ⟨_, p15⟩), (H.lendOIs (k := 3) (ks := [2, 3, 4]) Z Z ⟨_, p25⟩), (H.lendOSn (k := 4) (ks := [2, 3, 4]) Z Z ⟨_, p35⟩)⟩ _ ((Sp.DiskWrite uV uP0 uB).getD ⟨[], [], []⟩) ⟨_, _, _, _, _, _, _, _, _, Z, (hr9.up (PPlus.le _ _ _)), (hr9'.up (PPlus.le _ _ _)), (hr9''.up (PPlus.le _ _ _))⟩ Z) ?_)))))))))))))
 rintro _ w12 ⟨rfl, ew12⟩; have H := H.step ew12; refine ⟨_, rfl, ?_⟩
 refine gR Z (o_not Z Z (o_pick_f Z Z Z (mV Z (gR Z (mV Z (gR Z (o_not Z Z (o_pick_f Z Z Z (q3 ?_)))))))))
 refine W_cond Z ?_ ?_
 ·intro hc13
  try simp only [nrm] at hc13
  refine q2 (mV Z (mV Z (o_beql_same underlying4 Z Z Z (mV Z (gR Z (o_loadagg_B 1 H isAgg32 sizeOf32 Z Z Z Z Z (gR Z (o_loadagg_B 0 H isAgg32 sizeOf32 Z Z Z Z Z (gR Z (o_call call35 Z Z (w_sameDisk_c _ _ (H.lendSubL [2, 3, 4]) _ ((Sp.DiskWrite uV uP0 uB).getD ⟨[], [], []⟩) ⟨_, _, _, _, _, _, _, _, _, Z, (H.lendOHs (k := 2) (ks := [2, 3, 4]) Z Z ⟨_, p15⟩), (H.lendOIs (k := 3) (ks := [2, 3, 4]) Z Z ⟨_, p25⟩), (H.lendOSn (k := 4) (ks := [2, 3, 4]) Z Z ⟨_, p35⟩)⟩ _ ((Sp.DiskWrite uV uP0 uB).getD ⟨[], [], []⟩) ⟨_, _, _, _, _, _, _, _, _, Z, (hr9.up (PPlus.le _ _ _)), (hr9'.up (PPlus.le _ _ _)), (hr9''.up (PPlus.le _ _ _))⟩ Z) ?_))))))))))
  rintro _ w14 ⟨rfl, ew14⟩; have H := H.step ew14; refine ⟨_, rfl, ?_⟩
  refine o_pick_t Z Z Z (aG Z (q3 (W_ret (N_K_ret (rt1 results13 Z ?_)))))
  exact H.rets Z
 intro hc13'
 try simp only [nrm] at hc13'
 obtain ⟨u2, hu2⟩ := Option.isSome_iff_exists.1 (show (Sp.DiskWrite uV uP0 uB).isSome = true by simpa using hc13')
 have hW : (Sp.DiskWrite uV uP0 uB).getD ⟨[], [], []⟩ = u2 := by (rw [hu2]; rfl)
 have hsn : ((Sp.DiskWrite uV uP0 uB).getD ⟨[], [], []⟩).snaps = uV.snaps := by (rw [hW]; exact Sp.dwrite_snaps hu2)
 have hrd : ∀ n p, Sp.SnapRead ((Sp.DiskWrite uV uP0 uB).getD ⟨[], [], []⟩) n p = Sp.SnapRead uV n p := fun n p => by (rw [hW]; exact Sp.dwrite_readS hu2 n p)
 refine W_skip (N_K (W_seq (q2 (aG Z (q3 (W_block ?_))))))
 obtain ⟨ln15, hln15, H⟩ := H.name (k := 0) rfl
 obtain ⟨ln16, hln16, H⟩ := H.name (k := 1) rfl
 obtain ⟨ln17, hln17, H⟩ := H.name (k := 5) rfl
 refine W_lp (hf := (Sub.cons (t := 3) Z (Sub.cons (t := 6) Z Sub.nil))) (J := fun M w m => ∃ (k : Nat) (G : PH), M = [(10, .int .i64 (k : Int))] ∧ PLe G8 G ∧ Hp w0 G0 [] w G [blk b10 (cl ln15 32), blk b6 (cl ln16 32), frag E15, frag E25, frag E35, blk b3 (cl ln17 32)] ∧ (k ≤ uV.snaps.length) ∧ m = (uV.snaps.length - k)) (h0 := ⟨0, _, Z, PLe.refl _, H, ?inv, Z⟩) (round := ?round)
 case inv => omega
 case round =>
  rintro _ w18 _ ⟨k, G18, rfl, hle18, H, hinv18, rfl⟩
  subst hln15
  subst hln16
  subst hln17
  have hr2 := hr2.up hle18
  have hr2' := hr2'.up hle18
  have hr2'' := hr2''.up hle18
  have hk := hinv18
  refine W_seq (q2 (mV Z (o_fieldAddr 2 runUnderlying32 Z sizeOf30 Z Z Z (o_load_B 5 H isAgg30 Z Z Z Z (o_len_slice underlying30 Z Z (o_lss Z Z Z (q3 ?_)))))))
  refine W_cond Z ?_ ?_
  ·intro hc19
   try simp only [nrm] at hc19
   refine W_skip (N_K (W_seq (W_block (q2 (o_fieldAddr 2 runUnderlying32 Z sizeOf30 Z Z Z (o_load_B 5 H isAgg30 Z Z Z Z (mV Z (o_index_P k hr2'' underlying30 sizeOf58 Z Z Z Z aN ?_)))))))); intro b20 o20 z20 q20 hz20 hE20 hrow20
   obtain ⟨a20, m20, c20, rfl, hi20, hr20⟩ := hE20; have hy_hi20 : _ ≤ 16777216 := hi20; have hn_hr20 := hr20.len; have hx_hr20 : _ ≤ 1099511627776 := hr20.lim
   refine o_loadagg_P H isAgg58 sizeOf58 Z Z hrow20 Z (o_alloc H zeroValue58 Z Z ?_); intro b21 w21 hb21 H
   refine o_store_B 0 H sizeOf58 Z Z Z Z Z Z Z Z ?_; intro w22 H
   refine q1 (aG Z (q3 (W_block ?_)))
   obtain ⟨ln23, hln23, H⟩ := H.name (k := 0) rfl
   obtain ⟨ln24, hln24, H⟩ := H.name (k := 1) rfl
   obtain ⟨ln25, hln25, H⟩ := H.name (k := 2) rfl
   obtain ⟨ln26, hln26, H⟩ := H.name (k := 6) rfl
   refine W_lp (hf := (Sub.cons (t := 3) Z (Sub.cons (t := 6) Z (Sub.cons (t := 10) Z (Sub.cons (t := 11) Z Sub.nil))))) (J := fun M w m => ∃ (j : Nat) (G : PH), M = [(12, .int .i64 (j : Int))] ∧ PLe G18 G ∧ Hp w0 G0 [] w G [blk b21 (cl ln23 58), blk b10 (cl ln24 32), blk b6 (cl ln25 32), frag E15, frag E25, frag E35, blk b3 (cl ln26 32)] ∧ (j ≤ z20.tree.length) ∧ m = (z20.tree.length - j)) (h0 := ⟨0, _, Z, PLe.refl _, H, ?inv, Z⟩) (round := ?round)
   case inv => omega
   case round =>
    rintro _ w27 _ ⟨j, G27, rfl, hle27, H, hinv27, rfl⟩
    subst hln23
    subst hln24
    subst hln25
    subst hln26
    have hr2 := hr2.up hle27
    have hr2' := hr2'.up hle27
    have hr2'' := hr2''.up hle27
    have hr20 := hr20.up hle27
    have hle18 := hle18.trans hle27
    have hj := hinv27
    refine W_seq (q2 (mV Z (o_fieldAddr 1 runUnderlying58 Z sizeOf29 Z Z Z (o_load_B 0 H isAgg29 Z Z Z Z (o_len_slice underlying29 Z Z (o_lss Z Z Z (q3 ?_)))))))
    refine W_cond Z ?_ ?_
    ·intro hc28
     try simp only [nrm] at hc28
     refine W_skip (N_K (W_seq (W_block (W_seq (W_drawK [0, 1, 2, 6] 15 H kR Z ?_))))); intro w29 H; have hd29 := PLe.refl G27
     refine RD_t 0 Z kR Z (fun _ hK => v_loadagg_B 3 hK isAgg32 sizeOf32 Z Z Z Z) (RD_t 1 Z kR Z (fun _ hK => v_fieldAddr 0 runUnderlying58 Z sizeOf9 Z Z) (RD_t 2 Z kR Z (fun _ hK => v_load_B 0 hK isAgg9 Z Z Z) (RD_t 3 Z kR Z (fun _ hK => v_fieldAddr 1 runUnderlying58 Z sizeOf29 Z Z) (RD_t 4 Z kR Z (fun _ hK => v_load_B 0 hK isAgg29 Z Z Z) (vM 5 Z Z ?_)))))
     have hl30 := hr20.len
     obtain ⟨b30, o30, z30, q30, ha30, hz30, hq30, hE30, hrow30, _⟩ := hr20.at (i := j) oM
     clear hq30
     obtain ⟨a30, m30, c30, rfl, hi30, hr30⟩ := hE30; have hy_hi30 : _ ≤ 16777216 := hi30; have hn_hr30 := hr30.len; have hx_hr30 : _ ≤ 1099511627776 := hr30.lim
     refine RD_t 6 Z kR Z (fun _ hK => v_index_P (i := j) ha30 underlying29 sizeOf66 Z Z Z oM) (RD_t 7 Z kR Z (fun _ hK => v_fieldAddr 0 runUnderlying66 Z sizeOf9 Z Z) (RD_t 8 Z kR Z (fun _ hK => v_load_P hK isAgg9 Z (hrow30 0 _ Z)) ?_))
     refine RD_run [9] kR Z (RDs.cons Z ?_ RDs.nil)
     refine o_call call48 Z Z (i_SnapRead_c _ _ H.sub _ uV ⟨_, _, _, _, _, _, _, _, _, Z, hr2, hr2', hr2''⟩ _ hi20 _ hi30 ) ?_
     rintro _ w31 ⟨_, _, rfl, H31', ⟨u31, c31, xs31, rfl, rfl, hchk31, hxl31, hxs31, hxn31⟩⟩
     have H := H.readers (fp := []) (by simp) (PLe.refl _) H31'
     obtain ⟨avr31, cvr31, rfl⟩ := H.accShape (k := 0) rfl
     refine ⟨_, Z, ?_⟩
     try rw [hrd]
     try rw [hrd] at hxs31
     try rw [hrd] at hxn31
     refine R_nil (N_DK (Kn.of' H hd29 (SubL.cons 1 Z (SubL.cons 2 Z (SubL.cons 3 Z (SubL.cons 7 Z SubL.nil))))) (vM 10 Z Z (RD_t 11 Z kR Z (fun _ hK => v_extract Z Z) (RD_t 12 Z kR Z (fun _ hK => v_extract Z Z) (RD_t 13 Z kR Z (fun _ hK => v_assign Z) (RD_t 14 Z kR Z (fun _ hK => v_assign Z) (RD_done kR (N_K (W_seq (W_drawK [1, 2, 3, 7] 15 H kR Z ?_)))))))))); intro w32 H; have hd32 := PLe.refl G27
     refine RD_t 0 Z kR Z (fun _ hK => v_loadagg_B 2 hK isAgg32 sizeOf32 Z Z Z Z) (RD_t 1 Z kR Z (fun _ hK => v_fieldAddr 0 runUnderlying58 Z sizeOf9 Z Z) (RD_t 2 Z kR Z (fun _ hK => v_load_B 0 hK isAgg9 Z Z Z) (RD_t 3 Z kR Z (fun _ hK => v_fieldAddr 1 runUnderlying58 Z sizeOf29 Z Z) (RD_t 4 Z kR Z (fun _ hK => v_load_B 0 hK isAgg29 Z Z Z) (vM 5 Z Z ?_)))))
     have hl33 := hr20.len
     obtain ⟨b33, o33, z33, q33, ha33, hz33, hq33, hE33, hrow33, _⟩ := hr20.at (i := j) oM
     clear hq33
     obtain ⟨a33, m33, c33, rfl, hi33, hr33⟩ := hE33; have hy_hi33 : _ ≤ 16777216 := hi33; have hn_hr33 := hr33.len; have hx_hr33 : _ ≤ 1099511627776 := hr33.lim
     have hzz33 : z30 = z33 := Option.some.inj (hz30.symm.trans hz33)
     subst hzz33
     refine RD_t 6 Z kR Z (fun _ hK => v_index_P (i := j) ha33 underlying29 sizeOf66 Z Z Z oM) (RD_t 7 Z kR Z (fun _ hK => v_fieldAddr 0 runUnderlying66 Z sizeOf9 Z Z) (RD_t 8 Z kR Z (fun _ hK => v_load_P hK isAgg9 Z (hrow33 0 _ Z)) ?_))
     refine RD_run [9] kR Z (RDs.cons Z ?_ RDs.nil)
     refine o_call call48 Z Z (i_SnapRead_c _ _ (H.lendSubL [4, 5, 6]) _ ((Sp.DiskWrite uV uP0 uB).getD ⟨[], [], []⟩) ⟨_, _, _, _, _, _, _, _, _, Z, (H.lendOHs (k := 4) (ks := [4, 5, 6]) Z Z ⟨_, p15⟩), (H.lendOIs (k := 5) (ks := [4, 5, 6]) Z Z ⟨_, p25⟩), (H.lendOSn (k := 6) (ks := [4, 5, 6]) Z Z ⟨_, p35⟩)⟩ _ hi20 _ hi33 ) ?_
     rintro _ w34 ⟨_, _, rfl, H34', ⟨u34, c34, xs34, rfl, rfl, hchk34, hxl34, hxs34, hxn34⟩⟩
     have H := H.readersL H34'
     obtain ⟨avr34, cvr34, rfl⟩ := H.accShape (k := 0) rfl
     refine ⟨_, Z, ?_⟩
     try rw [hrd]
     try rw [hrd] at hxs34
     try rw [hrd] at hxn34
     refine R_nil (N_DK (Kn.of' H hd32 (SubL.cons 2 Z (SubL.cons 3 Z (SubL.cons 4 Z (SubL.cons 8 Z SubL.nil))))) (vM 10 Z Z (RD_t 11 Z kR Z (fun _ hK => v_extract Z Z) (RD_t 12 Z kR Z (fun _ hK => v_extract Z Z) (RD_t 13 Z kR Z (fun _ hK => v_assign Z) (RD_t 14 Z kR Z (fun _ hK => v_assign Z) (RD_done kR (N_K (q2 (mV Z (mV Z (o_bneq_same underlying4 Z Z Z (mV Z (gR Z (mV Z ?_)))))))))))))))
     refine gR Z (mV Z (gR Z (o_call call44 Z Z (w_sameInts_c _ _ (H.lendSubL [0, 1]) _ _ (H.lendRdL (k := 1) (ks := [0, 1]) Z Z (chkI hchk31) aN aN) _ _ (H.lendRdL (k := 0) (ks := [0, 1]) Z Z (chkI hchk34) aN aN) (Sp.rd_same hxs31 hxn31 hxs34 hxn34)) ?_)))
     rintro _ w35 ⟨rfl, ew35⟩; have H := H.step ew35; refine ⟨_, rfl, ?_⟩
     refine gR Z (o_not Z Z (o_pick_f Z Z Z (q3 (W_false Z (W_skip (N_B (N_K (W_region (mV Z (o_add Z Z Z oO (aG Z (R_nil ?_))))))))))))
     have H := H.del (k := 0) rfl
     have H := H.del (k := 0) rfl
     refine N_lp (hJ := ⟨j + 1, _, Z, hle27, H, ?inv, Z⟩) (hm := ?hm)
     case hm => omega
     case inv => omega
    intro hc28'
    try simp only [nrm] at hc28'
    refine W_exit (N_K_exit (N_LP_exit (N_B_same (N_B (N_K (W_region (mV Z (o_add Z Z Z oO (aG Z (R_nil ?_))))))))))
    have H := H.del (k := 0) rfl
    refine N_lp (hJ := ⟨k + 1, _, Z, hle18, H, ?inv, Z⟩) (hm := ?hm)
    case hm => omega
    case inv => omega
  intro hc19'
  try simp only [nrm] at hc19'
  refine W_exit (N_K_exit (N_LP_exit (N_B_same (N_K (q2 (o_fieldAddr 2 runUnderlying32 Z sizeOf30 Z Z Z (o_load_B 1 H isAgg30 Z Z Z Z (o_fieldAddr 2 runUnderlying32 Z sizeOf30 Z Z Z (o_load_B 5 H isAgg30 Z Z Z Z (o_call call38 Z Z (w_sameSnaps_c _ _ (H.lendSubL [4]) _ _ (H.lendOSn (k := 4) (ks := [4]) Z Z ⟨_, p35⟩) _ _ (hr2''.up (PPlus.le _ _ _)) hsn) ?_))))))))))
  rintro _ w38 ⟨rfl, ew38⟩; have H := H.step ew38; refine ⟨_, rfl, ?_⟩
  refine aG Z (q3 (W_ret (rt1 results13 Z ?_)))
  exact H.rets Z
end Go.Proofs.Tst

namespace Fw
open Go
section
variable {H : Type} {enc : TypeId × Value → H} {P : Program} {W : World}
structure Bulk (bk : DataW H → Nat) (bka : List (DataW H) → Nat) : Prop where
 slice : ∀ es sp, bk (.slice es sp) = bka es + bka sp + 1
 agg : ∀ ps, bk (.agg ps) = bka ps + 1
 str : ∀ b, bk (.lit (.string b)) = b.length + 1
 nil : bka [] = 0
 cons : ∀ d r, bka (d :: r) = bk d + bka r
 pos : ∀ d, 1 ≤ bk d
variable {bk : DataW H → Nat} {bka : List (DataW H) → Nat}
theorem Bulk.len (hb : Bulk bk bka) : ∀ l, l.length ≤ bka l
 | [] => by simp
 | d :: r => by
  have h1 := hb.len r
  have h2 := hb.pos d
  rw [hb.cons]
  simp; omega
theorem Bulk.mem (hb : Bulk bk bka) {d : DataW H} : ∀ {l : List (DataW H)}, d ∈ l → bk d ≤ bka l
 | [], h => by simp at h
 | e :: r, h => by
  rw [hb.cons]
  rcases List.mem_cons.1 h with rfl | h
  ·omega
  ·have := hb.mem h
   omega
theorem Bulk.memF (hb : Bulk bk bka) {l : List (DataW H × List MemPlace)} {i : Nat} (hi : i < l.length) : bk (l[i]).1 ≤ bka (l.map (fun x => x.1)) :=
 hb.mem (List.mem_map.2 ⟨l[i], List.getElem_mem hi, rfl⟩)
abbrev Reads (enc : TypeId × Value → H) (P : Program) (W : World) (n : Nat) (t : TypeId) (cs : List Value) : Option (DataW H × List MemPlace) := DataW.trod enc P W 0 (fun _ => true) true n t cs
def Elem (enc : TypeId × Value → H) (P : Program) (W : World) (bk : DataW H → Nat) (t : TypeId) (sz : Nat) {α : Type} (E : PH → α → List Value → Prop) : Prop :=
 ∀ n cs x, Reads enc P W n t cs = some x → bk x.1 ≤ 1048576 → ∃ a, cs.length = sz ∧ E (PAll W) a cs
theorem elem_u8 {t : TypeId} (ht : P.underlying t = some (.int .u8)) : Elem enc P W bk t 1 u8E := by
 intro n cs x h _
 obtain ⟨i, rfl, _, hw⟩ := DataW.trod_int ht h
 simp [Lit.wf, IntKind.min, IntKind.max, IntKind.signed, IntKind.bits] at hw
 refine ⟨UInt8.ofNat i.toNat, rfl, ?_⟩
 show [Value.int .u8 i] = [.int .u8 ((UInt8.ofNat i.toNat).toNat : Int)]
 congr 2
 rw [UInt8.toNat_ofNat']
 omega
theorem list_of {α : Type} {Q : Nat → α → Prop} : ∀ n, (∀ i, i < n → ∃ x, Q i x) → ∃ xs : List α, xs.length = n ∧ ∀ i x, xs[i]? = some x → Q i x
 | 0, _ => ⟨[], rfl, by simp⟩
 | n + 1, h => by
  obtain ⟨xs, h1, h2⟩ := list_of n (fun i hi => h i (by omega))
  obtain ⟨x, hx⟩ := h n (by omega)
  refine ⟨xs ++ [x], by simp [h1], fun i y hy => ?_⟩
  by_cases hi : i < n
  ·rw [List.getElem?_append_left (by omega)] at hy
   exact h2 i y hy
  ·rw [List.getElem?_append_right (by omega)] at hy
   have : i = n := by
    have := (List.getElem?_eq_some_iff.1 hy).1
    simp at this
    omega
   subst this
   simp [h1] at hy
   subst hy
   exact hx
theorem mapM_at {α β : Type} {f : α → Option β} : ∀ {l : List α} {r : List β}, l.mapM f = some r → ∀ (i : Nat) (x : α), l[i]? = some x → f x = r[i]?
 | [], r, h, i, x, hx => by simp at hx
 | y :: t, r, h, i, x, hx => by
  simp only [List.mapM_cons, Option.bind_eq_bind, Option.bind_eq_some_iff, Option.pure_def, Option.some.injEq] at h
  obtain ⟨z, h1, u, h2, rfl⟩ := h
  cases i with
  | zero => simp at hx; subst hx; simpa using h1
  | succ i => simp only [List.getElem?_cons_succ] at hx ⊢; exact mapM_at h2 i x hx
theorem pcell_of {b o : Nat} {v : Value} (h : W.cell? ⟨b, o, none⟩ = some v) : PCell (PAll W) b o v := by
 unfold World.cell? at h
 unfold PCell PAll
 split at h
 ·rename_i C e fz hb
  exact ⟨C, e, fz, hb, by simpa using h⟩
 ·cases h
theorem elem_slice {α : Type} {E : PH → α → List Value → Prop} (hb : Bulk bk bka) {t e : TypeId} {sz : Nat} (ht : P.underlying t = some (.slice e)) (hz : P.cellsOf e = sz) (hsz : 0 < sz) (hE : Elem enc P W bk e sz E) :
  ∀ n cs x, Reads enc P W n t cs = some x → bk x.1 ≤ 1048576 → ∃ v xs, cs = [v] ∧ RdS LIM E sz (PAll W) v xs := by
 intro n cs x h hx
 rcases DataW.trod_slice ht h with ⟨rfl, _⟩ | ⟨a, len, cap, elems, rest, m, _, rfl, rfl, _, h2, _, h4, h5, _, _⟩
 ·exact ⟨_, [], rfl, RdS.nil _ _ _⟩
 ·simp only [hb.slice] at hx
  rw [hz] at h5
  have hle := hb.len (elems.map (·.1))
  rw [List.length_map] at hle
  have hel : ∀ i, i < len → ∃ y : α, ∃ cs, cs.length = sz ∧ E (PAll W) y cs ∧ ∀ j v, cs[j]? = some v → W.cell? ((a.add (i * sz)).add j) = some v := by
   intro i hi
   have h6 := h5 i hi
   rw [List.getElem?_eq_getElem (by omega)] at h6
   obtain ⟨cs, k1, k2⟩ := Option.bind_eq_some_iff.1 h6
   obtain ⟨y, k3, k4⟩ := hE m cs _ k2 (Nat.le_trans (hb.memF (by omega)) (by omega))
   refine ⟨y, cs, k3, k4, fun j v hj => ?_⟩
   unfold World.cells? at k1
   split at k1
   ·have hjl := (List.getElem?_eq_some_iff.1 hj).1
    rw [← hj]
    exact mapM_at k1 j j (by rw [List.getElem?_range (by omega)])
   ·cases k1
  obtain ⟨xs, x1, x2⟩ := list_of len hel
  refine ⟨_, xs, rfl, some a, cap, by rw [x1], by omega, by simp only [LIM]; omega, ?_⟩
  by_cases h0 : len = 0
  ·exact .inl (List.eq_nil_of_length_eq_zero (by omega))
  ·right
   have hspot : a.spot = none := by
    obtain ⟨y, cs, y1, _, y2⟩ := hel 0 (by omega)
    have := World.cell?_spot (y2 0 cs[0] (by simp))
    simpa [Addr.add] using this
   obtain ⟨b, o, sp⟩ := a
   simp only at hspot
   subst hspot
   refine ⟨b, o, rfl, fun i y hy => ?_⟩
   obtain ⟨cs, c1, c2, c3⟩ := x2 i y hy
   refine ⟨cs, c1, c2, fun j v hj => pcell_of ?_⟩
   have := c3 j v hj
   rwa [Addr.add_lit, Addr.add_lit] at this
variable {ti ts tb tis : TypeId}
theorem same_of_ext {w w' : World} (h : Ext w w') {p : MemPlace} (hp : p.block < w.heap.size) : w.sameAt w' p := by
 have hb := h.block p.block hp
 cases p with
 | cell b off => simp only [World.sameAt, World.cell?]; simp only [MemPlace.block] at hb; rw [hb]
 | map b => simp only [World.sameAt]; simpa [MemPlace.block] using hb
end
end Fw
namespace Fw
open Go Go.ChangeShapes Go.WideShapes
section
variable {H : Type} {enc : TypeId × Value → H} {P : Program}
theorem trodAll_stays (hl : laidOutB P = true) {W W' : World} {sp' : Nat → Bool} : ∀ {ts : List TypeId} {vs : List Value} {ds : List (DataW H)} {ps : List MemPlace}, (∀ t, t ∈ ts → P.readableRec t = true ∧ t < P.types.size) →
  DataW.TrodAll enc P W 0 (fun _ => true) true ts vs ds ps → (∀ p ∈ ps, W.sameAt W' p) → (∀ p ∈ ps, sp' p.block = true) → DataW.TrodAll enc P W' 0 sp' true ts vs ds ps
 | [], _, _, _, _, h, _, _ => by
  obtain ⟨rfl, rfl, rfl⟩ := trodAll_nil h
  rfl
 | t :: ts, _, _, _, hr, h, hs, hq => by
  obtain ⟨v, vs1, d, ds1, a, b, rfl, rfl, rfl, h1, h2⟩ := trodAll_cons h
  exact ⟨a, b, WideElems.Trod_stays hl (hr t (by simp)).1 (hr t (by simp)).2 h1 (fun p hp => hs p (by simp [hp])) (fun p hp => hq p (by simp [hp])),
   trodAll_stays hl (fun t ht => hr t (by simp [ht])) h2 (fun p hp => hs p (by simp [hp])) (fun p hp => hq p (by simp [hp])), rfl⟩
theorem kept_of_ext {W W' : World} (h : Ext W W') (may : MemPlace → Prop) : W.keptBut W' may := by
 refine ⟨h.os, h.output, fun i hi => ?_⟩
 rw [h.block i hi]
 cases W.heap[i]? with
 | none => simp
 | some o => cases o <;> simp
theorem law_post {f : Func} {s : ChangeSpec} {apart fresh handsOn again : Bool} {W W' : World} {args : Array Value} {ds gs : List (DataW H)} {before : List MemPlace} (hl : laidOutB P = true) (hr : ∀ t, t ∈ f.params.toList → P.readableRec t = true ∧ t < P.types.size)
  (hv : s.vars = []) (hW : DataW.Whole enc P f.params.toList s.vars apart W args.toList ds gs before) (hx : Ext W W') (hfr : (s.fn H (ds ++ gs)).results = [.lit (.bool true)]) (hfa : (s.fn H (ds ++ gs)).args = ds) (hfv : (s.fn H (ds ++ gs)).vars = [])
  (hres : ∀ (b : Nat) (sp : Nat → Bool) (hd : Bool), DataW.TrodAll enc P W' b sp hd f.resultTypes.toList ((Value.bool true).resultList f.resultTypes.size) [.lit (.bool true)] [])
  (hok : ∀ (j : Nat) (t : TypeId) (r : Value), f.resultTypes[j]? = some t → ((Value.bool true).resultList f.resultTypes.size)[j]? = some r → Value.okWide P W' .any 0 t r) :
  s.post enc P f apart fresh handsOn again W args (.bool true) W' := by
 have hW' := hW
 obtain ⟨p, q, hA, hV, rfl, hz, hn⟩ := hW
 rw [hv] at hV
 have hgs : gs = [] ∧ q = [] := by
  cases gs with
  | nil => exact ⟨rfl, hV⟩
  | cons d r => exact hV.elim
 obtain ⟨rfl, rfl⟩ := hgs
 rw [List.append_nil] at hW' hz hn
 have hlt : ∀ m ∈ p, m.block < W.heap.size := fun m hm => hW'.lt m hm
 have hold : ∀ m ∈ p, (fun b => decide (b < W.heap.size)) m.block = true := fun m hm => by simpa using hlt m hm
 have hargs : ∀ sp : Nat → Bool, (∀ m ∈ p, sp m.block = true) → DataW.TrodAll enc P W' 0 sp true f.params.toList args.toList (s.fn H (ds ++ [])).args p := fun sp hsp => by
  rw [hfa]
  exact trodAll_stays hl hr hA (fun m hm => same_of_ext hx (hlt m hm)) hsp
 have hvars : ∀ sp : Nat → Bool, DataW.TrodVars enc P W' sp s.vars (s.fn H (ds ++ [])).vars [] := fun sp => by rw [hv, hfv]; rfl
 have hres' : ∀ (b : Nat) (sp : Nat → Bool) (hd : Bool), DataW.TrodAll enc P W' b sp hd f.resultTypes.toList ((Value.bool true).resultList f.resultTypes.size) (s.fn H (ds ++ [])).results [] := fun b sp hd => by rw [hfr]; exact hres b sp hd
 refine ⟨ds, [], p, [], p, [], hW', hres' _ _ _, hargs _ hold, hvars _, World.keptBut_mono (fun m hm => ⟨hm, Or.inr ?_⟩) (kept_of_ext hx (· ∈ p)), fun _ => ?_⟩
 ·simpa using hm
 ·refine ⟨hok, _, _, ([] ++ p) ++ [], ⟨[] ++ p, [], trodAll_append (hargs _ (fun _ _ => rfl)) (hres' _ _ _), hvars _, rfl, ?_, ?_⟩, ?_⟩
  ·intro b off hp
   have hp' : MemPlace.cell b off ∈ p := by simpa using hp
   have h1 := hz b off hp'
   have h2 := hx.block b (hlt _ hp')
   simp only [World.frozen?] at h1 ⊢
   rw [h2]
   exact h1
  ·intro ha
   simpa using hn ha
  ·intro m hm _
   simpa using hm
end
end Fw
namespace Fw
open Go Go.WideShapes
theorem slice_of {P : Program} {W : World} {b : Nat} {t e : TypeId} {v u : Value} (ht : P.underlying t = some (.slice e)) (h : Value.okWide P W .any b t v) (hu : v.cells.toList = [u]) : v = u := by
 unfold Value.okWide at h
 rw [ht] at h
 unfold Cell.okWide at h
 rw [ht] at h
 cases v <;> simp_all [Value.cells, Cell.ok]
end Fw
