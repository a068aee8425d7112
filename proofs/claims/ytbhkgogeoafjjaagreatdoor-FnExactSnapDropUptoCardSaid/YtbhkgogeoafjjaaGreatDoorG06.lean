/- Part 6 of the proof: the program logic and plain functions. Conditions: none. -/
import Derived.Test.YtbhkgogeoafjjaaGreatDoorProg
import Derived.Test.YtbhkgogeoafjjaaGreatDoorG02
import Derived.Test.YtbhkgogeoafjjaaGreatDoorG03
import Derived.Test.YtbhkgogeoafjjaaGreatDoorG04
import Derived.Test.YtbhkgogeoafjjaaGreatDoorG05
set_option linter.all false
set_option maxRecDepth 100000
set_option maxHeartbeats 1000000
namespace Go.Proofs.Tst
open Go Fw Tryz
theorem i_changed_back_c (w0 : World) (G0 : PH) (hG : PSub G0 w0) (cd : List Value) (d : BDisk) (hd : diskE G0 d cd) (cp : Nat) (name : Bs) (hname : name.length ≤ 16777216) (hcp : PRow G0 cp 0 [str name])  :
  Calls Tryz.prog 59 #[.agg cd.toArray, .func (.func 92) #[] #[.pointer (some ⟨cp, 0, none⟩)]] w0 (RetN w0 G0 (fun v Bs => ∃ (v1 v2 v3 : Value) (F1 F2 F3 : Fr), v = .tuple #[.agg #[v1, v2, v3], .bool (Sp.SnapBack d name).isSome] ∧ Bs = [frag F1, frag F2, frag F3] ∧ OHs F1 v1 ((Sp.SnapBack d name).getD ⟨[], [], []⟩).store ∧ OIs F2 v2 ((Sp.SnapBack d name).getD ⟨[], [], []⟩).tree ∧ OSn F3 v3 ((Sp.SnapBack d name).getD ⟨[], [], []⟩).snaps)) := by
 obtain ⟨a1, m1, c1, a1', m1', c1', a1'', m1'', c1'', rfl, hr1, hr1', hr1''⟩ := hd; have hn_hr1 := hr1.len; have hx_hr1 : _ ≤ 1099511627776 := hr1.lim; have hn_hr1q := hr1'.len; have hx_hr1q : _ ≤ 1099511627776 := hr1'.lim; have hn_hr1qq := hr1''.len; have hx_hr1qq : _ ≤ 1099511627776 := hr1''.lim
 have H := Hp.init hG
 refine calls_of_W (l := [_, .func (.func 92) #[] #[.pointer (some ⟨cp, 0, none⟩)]]) func59 Z ntmps59 Z (q2 (o_box H Z Z Z ?_)); intro b2 w2 hb2 H
 refine o_alloc H zeroValue32 Z Z ?_; intro b3 w3 hb3 H
 refine aG Z (q1 (o_loadagg_B 1 H isAgg32 sizeOf32 Z Z Z Z Z (o_call call89 Z Z (i_newDisk_c _ _ H.sub _ d ⟨_, _, _, _, _, _, _, _, _, Z, hr1, hr1', hr1''⟩ H.lent0 ) ?_)))
 rintro _ w4 ⟨G4, _, _, rfl, H4', ⟨rfl, rfl, hnd4⟩ | ⟨db4, mb4, es4, ck4, xs4, T4, F4, sv4, sn4, c4, FS4, rfl, rfl, hm4, hS4, hN4, hT4, hchk4, hNs4, hSn4, hdv4⟩⟩
 ·skip
  have H := H.borrow0 H4'
  refine ⟨_, Z, ?_⟩
  refine mV Z (o_extract Z Z Z (o_extract Z Z Z (aG Z (aG Z (q3 (W_seq (q2 (mV Z (o_not Z Z (mV Z (rP Z (rP Z (rP Z (rP Z (o_pick_t Z Z Z ?_)))))))))))))))
  refine q3 (W_true Z (q2 (o_build bf32 Z Z Z (o_store_B 0 H sizeOf32 Z Z Z Z Z Z Z Z ?_)))); intro w5 H
  refine aG Z (q3 (W_ret (N_K_ret (ret_gen (rs := [.cell 4 32, .tmp 5]) (vs := [_, _]) results59 ⟨⟨_, Z, load_blk 0 H isAgg32 sizeOf32 Z Z Z⟩, Z, trivial⟩ ?_))))
  have H := H.del (k := 0) rfl
  have H := H.del (k := 0) rfl
  have hno : Sp.SnapBack d name = none := by (cases hh : Sp.SnapBack d name with | none => rfl | some q => (have hx := Sp.back_isv hh; rw [hnd4] at hx; cases hx))
  have H := (((H.addF).addF).addF).forget hG (by simp)
  refine ⟨_, _, Z, H, .slice none 0 0, .slice none 0 0, .slice none 0 0, [], [], [], ?_, Z, ?_, ?_, ?_⟩
  ·(rw [hno]; rfl)
  ·(rw [hno]; exact oh_nil)
  ·(rw [hno]; exact oi_nil)
  (rw [hno]; exact os_nil)
 skip
 have hcp := hcp.up H4'.le
 have H := H.borrow0 H4'
 obtain ⟨avAd, cvAd, rfl⟩ := H.accShape (k := 3) rfl
 refine ⟨_, Z, ?_⟩
 refine mV Z (o_extract Z Z Z (o_extract Z Z Z (aG Z (aG Z (q3 (W_seq (q2 (mV Z (o_not Z Z (mV Z (gR Z (mV Z (gR Z (mV Z (gR Z ?_)))))))))))))))
 have H := H.toFront (k := 4) rfl
 have H := H.toFront (k := 4) rfl
 have H := H.toFront (k := 4) rfl
 have H := H.toFront (k := 4) rfl
 have H := H.toFront (k := 4) rfl
 refine o_callc call92 Z Z Z (i_SnapBack1_c _ _ H.sub _ _ _ _ _ _ _ _ _ _ _ _ hm4 hS4 hN4 hT4 hchk4 hNs4 hSn4 hdv4 _ _ hname hcp H.lent5 ) ?_
 rintro _ w6 ⟨G6, _, _, rfl, H6', ⟨es6, ck6, xs6, F6, T6, sv6, sn6, c6, FS6, L6, rfl, rfl, hm6, hS6, hV6, hN6, hchk6, hNs6, hd6⟩⟩
 have H := H.borrow5 H6'
 obtain ⟨avAd, cvAd, rfl⟩ := H.accShape (k := 3) rfl
 refine ⟨_, Z, ?_⟩
 refine gR Z (o_not Z Z (o_pick_f Z Z Z (q3 ?_)))
 refine W_cond Z ?_ ?_
 ·intro hc7
  try simp only [nrm] at hc7
  refine q2 (o_build bf32 Z Z Z (o_store_B 5 H sizeOf32 Z Z Z Z Z Z Z Z ?_)); intro w8 H
  refine aG Z (q3 (W_ret (N_K_ret (ret_gen (rs := [.cell 4 32, .tmp 5]) (vs := [_, _]) results59 ⟨⟨_, Z, load_blk 5 H isAgg32 sizeOf32 Z Z Z⟩, Z, trivial⟩ ?_))))
  have H := H.del (k := 0) rfl
  have H := H.del (k := 0) rfl
  have H := H.del (k := 0) rfl
  have H := H.del (k := 0) rfl
  have H := H.del (k := 0) rfl
  have H := H.del (k := 0) rfl
  have H := H.del (k := 0) rfl
  have hno : Sp.SnapBack d name = none := by simpa using hc7
  have H := (((H.addF).addF).addF).forget hG (by simp)
  refine ⟨_, _, Z, H, .slice none 0 0, .slice none 0 0, .slice none 0 0, [], [], [], ?_, Z, ?_, ?_, ?_⟩
  ·(rw [hno]; rfl)
  ·(rw [hno]; exact oh_nil)
  ·(rw [hno]; exact oi_nil)
  (rw [hno]; exact os_nil)
 intro hc7'
 try simp only [nrm] at hc7'
 obtain ⟨d2, hd2⟩ := Option.isSome_iff_exists.1 (show (Sp.SnapBack d name).isSome = true by simpa using hc7')
 obtain ⟨hL2, hT2, hsn2⟩ := hd6 d2 hd2; subst hL2
 refine W_skip (N_K (q2 (mV Z ?_)))
 have H := H.toFront (k := 4) rfl
 have H := H.toFront (k := 4) rfl
 have H := H.toFront (k := 4) rfl
 have H := H.toFront (k := 4) rfl
 have H := H.toFront (k := 4) rfl
 refine o_call call114 Z Z (i_disk_c _ _ H.sub _ _ _ _ _ _ _ _ _ _ _ _ hm6 hS6 hN6 hT2 hchk6 hNs6 hsn2 hV6 (Sp.dv_parts.1 (Sp.back_valid hd2)).2.2.1 H.lent5 ) ?_
 rintro _ w9 ⟨G9, _, _, rfl, H9', ⟨u19, u29, u39, D19, D29, D39, rfl, rfl, ho19, ho29, ho39⟩⟩
 have H := H.borrow5 H9'
 obtain ⟨x19, p19⟩ := ho19
 obtain ⟨a19, c19, rfl⟩ := OwnS.shape p19
 obtain ⟨x29, p29⟩ := ho29
 obtain ⟨a29, c29, rfl⟩ := OwnS.shape p29
 obtain ⟨x39, p39⟩ := ho39
 obtain ⟨a39, c39, rfl⟩ := OwnS.shape p39
 refine ⟨_, Z, ?_⟩
 refine o_store_B 3 H sizeOf32 Z Z Z Z Z Z Z Z ?_; intro w10 H
 refine aG Z (q3 (W_ret (ret_gen (rs := [.cell 4 32, .tmp 5]) (vs := [_, _]) results59 ⟨⟨_, Z, load_blk 3 H isAgg32 sizeOf32 Z Z Z⟩, Z, trivial⟩ ?_)))
 have H := H.del (k := 3) rfl
 have H := H.del (k := 3) rfl
 have H := H.toFront (k := 2) rfl
 have H := H.toFront (k := 2) rfl
 have H := H.toFront (k := 2) rfl
 have H := H.forget hG (by simp)
 refine ⟨_, _, Z, H, .slice a19 d2.store.length c19, .slice a29 d2.tree.length c29, .slice a39 d2.snaps.length c39, D19, D29, D39, ?_, Z, ?_, ?_, ?_⟩
 ·(rw [hd2]; rfl)
 ·(rw [hd2]; exact ⟨_, p19⟩)
 ·(rw [hd2]; exact ⟨_, p29⟩)
 (rw [hd2]; exact ⟨_, p39⟩)
theorem i_changed_sdrop_c (w0 : World) (G0 : PH) (hG : PSub G0 w0) (cd : List Value) (d : BDisk) (hd : diskE G0 d cd) (cp : Nat) (name : Bs) (hname : name.length ≤ 16777216) (hcp : PRow G0 cp 0 [str name])  :
  Calls Tryz.prog 59 #[.agg cd.toArray, .func (.func 60) #[] #[.pointer (some ⟨cp, 0, none⟩)]] w0 (RetN w0 G0 (fun v Bs => ∃ (v1 v2 v3 : Value) (F1 F2 F3 : Fr), v = .tuple #[.agg #[v1, v2, v3], .bool (Sp.SnapDrop d name).isSome] ∧ Bs = [frag F1, frag F2, frag F3] ∧ OHs F1 v1 ((Sp.SnapDrop d name).getD ⟨[], [], []⟩).store ∧ OIs F2 v2 ((Sp.SnapDrop d name).getD ⟨[], [], []⟩).tree ∧ OSn F3 v3 ((Sp.SnapDrop d name).getD ⟨[], [], []⟩).snaps)) := by
 obtain ⟨a1, m1, c1, a1', m1', c1', a1'', m1'', c1'', rfl, hr1, hr1', hr1''⟩ := hd; have hn_hr1 := hr1.len; have hx_hr1 : _ ≤ 1099511627776 := hr1.lim; have hn_hr1q := hr1'.len; have hx_hr1q : _ ≤ 1099511627776 := hr1'.lim; have hn_hr1qq := hr1''.len; have hx_hr1qq : _ ≤ 1099511627776 := hr1''.lim
 have H := Hp.init hG
 refine calls_of_W (l := [_, .func (.func 60) #[] #[.pointer (some ⟨cp, 0, none⟩)]]) func59 Z ntmps59 Z (q2 (o_box H Z Z Z ?_)); intro b2 w2 hb2 H
 refine o_alloc H zeroValue32 Z Z ?_; intro b3 w3 hb3 H
 refine aG Z (q1 (o_loadagg_B 1 H isAgg32 sizeOf32 Z Z Z Z Z (o_call call89 Z Z (i_newDisk_c _ _ H.sub _ d ⟨_, _, _, _, _, _, _, _, _, Z, hr1, hr1', hr1''⟩ H.lent0 ) ?_)))
 rintro _ w4 ⟨G4, _, _, rfl, H4', ⟨rfl, rfl, hnd4⟩ | ⟨db4, mb4, es4, ck4, xs4, T4, F4, sv4, sn4, c4, FS4, rfl, rfl, hm4, hS4, hN4, hT4, hchk4, hNs4, hSn4, hdv4⟩⟩
 ·skip
  have H := H.borrow0 H4'
  refine ⟨_, Z, ?_⟩
  refine mV Z (o_extract Z Z Z (o_extract Z Z Z (aG Z (aG Z (q3 (W_seq (q2 (mV Z (o_not Z Z (mV Z (rP Z (rP Z (rP Z (rP Z (o_pick_t Z Z Z ?_)))))))))))))))
  refine q3 (W_true Z (q2 (o_build bf32 Z Z Z (o_store_B 0 H sizeOf32 Z Z Z Z Z Z Z Z ?_)))); intro w5 H
  refine aG Z (q3 (W_ret (N_K_ret (ret_gen (rs := [.cell 4 32, .tmp 5]) (vs := [_, _]) results59 ⟨⟨_, Z, load_blk 0 H isAgg32 sizeOf32 Z Z Z⟩, Z, trivial⟩ ?_))))
  have H := H.del (k := 0) rfl
  have H := H.del (k := 0) rfl
  have hno : Sp.SnapDrop d name = none := by (cases hh : Sp.SnapDrop d name with | none => rfl | some q => (have hx := Sp.sdrop_isv hh; rw [hnd4] at hx; cases hx))
  have H := (((H.addF).addF).addF).forget hG (by simp)
  refine ⟨_, _, Z, H, .slice none 0 0, .slice none 0 0, .slice none 0 0, [], [], [], ?_, Z, ?_, ?_, ?_⟩
  ·(rw [hno]; rfl)
  ·(rw [hno]; exact oh_nil)
  ·(rw [hno]; exact oi_nil)
  (rw [hno]; exact os_nil)
 skip
 have hcp := hcp.up H4'.le
 have H := H.borrow0 H4'
 obtain ⟨avAd, cvAd, rfl⟩ := H.accShape (k := 3) rfl
 refine ⟨_, Z, ?_⟩
 refine mV Z (o_extract Z Z Z (o_extract Z Z Z (aG Z (aG Z (q3 (W_seq (q2 (mV Z (o_not Z Z (mV Z (gR Z (mV Z (gR Z (mV Z (gR Z ?_)))))))))))))))
 have H := H.toFront (k := 4) rfl
 have H := H.toFront (k := 4) rfl
 have H := H.toFront (k := 4) rfl
 have H := H.toFront (k := 4) rfl
 have H := H.toFront (k := 4) rfl
 refine o_callc call60 Z Z Z (i_SnapDrop1_c _ _ H.sub _ _ _ _ _ _ _ _ _ _ _ _ hm4 hS4 hN4 hT4 hchk4 hNs4 hSn4 hdv4 _ _ hname hcp H.lent5 ) ?_
 rintro _ w6 ⟨G6, _, _, rfl, H6', ⟨es6, ck6, xs6, F6, T6, sv6, sn6, c6, FS6, L6, rfl, rfl, hm6, hS6, hV6, hN6, hchk6, hNs6, hd6⟩⟩
 have H := H.borrow5 H6'
 obtain ⟨avAd, cvAd, rfl⟩ := H.accShape (k := 3) rfl
 refine ⟨_, Z, ?_⟩
 refine gR Z (o_not Z Z (o_pick_f Z Z Z (q3 ?_)))
 refine W_cond Z ?_ ?_
 ·intro hc7
  try simp only [nrm] at hc7
  refine q2 (o_build bf32 Z Z Z (o_store_B 5 H sizeOf32 Z Z Z Z Z Z Z Z ?_)); intro w8 H
  refine aG Z (q3 (W_ret (N_K_ret (ret_gen (rs := [.cell 4 32, .tmp 5]) (vs := [_, _]) results59 ⟨⟨_, Z, load_blk 5 H isAgg32 sizeOf32 Z Z Z⟩, Z, trivial⟩ ?_))))
  have H := H.del (k := 0) rfl
  have H := H.del (k := 0) rfl
  have H := H.del (k := 0) rfl
  have H := H.del (k := 0) rfl
  have H := H.del (k := 0) rfl
  have H := H.del (k := 0) rfl
  have H := H.del (k := 0) rfl
  have hno : Sp.SnapDrop d name = none := by simpa using hc7
  have H := (((H.addF).addF).addF).forget hG (by simp)
  refine ⟨_, _, Z, H, .slice none 0 0, .slice none 0 0, .slice none 0 0, [], [], [], ?_, Z, ?_, ?_, ?_⟩
  ·(rw [hno]; rfl)
  ·(rw [hno]; exact oh_nil)
  ·(rw [hno]; exact oi_nil)
  (rw [hno]; exact os_nil)
 intro hc7'
 try simp only [nrm] at hc7'
 obtain ⟨d2, hd2⟩ := Option.isSome_iff_exists.1 (show (Sp.SnapDrop d name).isSome = true by simpa using hc7')
 obtain ⟨hL2, hT2, hsn2⟩ := hd6 d2 hd2; subst hL2
 refine W_skip (N_K (q2 (mV Z ?_)))
 have H := H.toFront (k := 4) rfl
 have H := H.toFront (k := 4) rfl
 have H := H.toFront (k := 4) rfl
 have H := H.toFront (k := 4) rfl
 have H := H.toFront (k := 4) rfl
 refine o_call call114 Z Z (i_disk_c _ _ H.sub _ _ _ _ _ _ _ _ _ _ _ _ hm6 hS6 hN6 hT2 hchk6 hNs6 hsn2 hV6 (Sp.dv_parts.1 (Sp.sdrop_valid hd2)).2.2.1 H.lent5 ) ?_
 rintro _ w9 ⟨G9, _, _, rfl, H9', ⟨u19, u29, u39, D19, D29, D39, rfl, rfl, ho19, ho29, ho39⟩⟩
 have H := H.borrow5 H9'
 obtain ⟨x19, p19⟩ := ho19
 obtain ⟨a19, c19, rfl⟩ := OwnS.shape p19
 obtain ⟨x29, p29⟩ := ho29
 obtain ⟨a29, c29, rfl⟩ := OwnS.shape p29
 obtain ⟨x39, p39⟩ := ho39
 obtain ⟨a39, c39, rfl⟩ := OwnS.shape p39
 refine ⟨_, Z, ?_⟩
 refine o_store_B 3 H sizeOf32 Z Z Z Z Z Z Z Z ?_; intro w10 H
 refine aG Z (q3 (W_ret (ret_gen (rs := [.cell 4 32, .tmp 5]) (vs := [_, _]) results59 ⟨⟨_, Z, load_blk 3 H isAgg32 sizeOf32 Z Z Z⟩, Z, trivial⟩ ?_)))
 have H := H.del (k := 3) rfl
 have H := H.del (k := 3) rfl
 have H := H.toFront (k := 2) rfl
 have H := H.toFront (k := 2) rfl
 have H := H.toFront (k := 2) rfl
 have H := H.forget hG (by simp)
 refine ⟨_, _, Z, H, .slice a19 d2.store.length c19, .slice a29 d2.tree.length c29, .slice a39 d2.snaps.length c39, D19, D29, D39, ?_, Z, ?_, ?_, ?_⟩
 ·(rw [hd2]; rfl)
 ·(rw [hd2]; exact ⟨_, p19⟩)
 ·(rw [hd2]; exact ⟨_, p29⟩)
 (rw [hd2]; exact ⟨_, p39⟩)
end Go.Proofs.Tst

namespace Go.Proofs.Tst
open Go Fw Tryz
theorem i_SnapBack_c (w0 : World) (G0 : PH) (hG : PSub G0 w0) (cd : List Value) (d : BDisk) (hd : diskE G0 d cd) (name : Bs) (hname : name.length ≤ 16777216)  :
  Calls Tryz.prog 40 #[.agg cd.toArray, str name] w0 (RetN w0 G0 (fun v Bs => ∃ (v1 v2 v3 : Value) (F1 F2 F3 : Fr), v = .tuple #[.agg #[v1, v2, v3], .bool (Sp.SnapBack d name).isSome] ∧ Bs = [frag F1, frag F2, frag F3] ∧ OHs F1 v1 ((Sp.SnapBack d name).getD ⟨[], [], []⟩).store ∧ OIs F2 v2 ((Sp.SnapBack d name).getD ⟨[], [], []⟩).tree ∧ OSn F3 v3 ((Sp.SnapBack d name).getD ⟨[], [], []⟩).snaps)) := by
 obtain ⟨a1, m1, c1, a1', m1', c1', a1'', m1'', c1'', rfl, hr1, hr1', hr1''⟩ := hd; have hn_hr1 := hr1.len; have hx_hr1 : _ ≤ 1099511627776 := hr1.lim; have hn_hr1q := hr1'.len; have hx_hr1q : _ ≤ 1099511627776 := hr1'.lim; have hn_hr1qq := hr1''.len; have hx_hr1qq : _ ≤ 1099511627776 := hr1''.lim
 have H := Hp.init hG
 refine calls_of_W (l := [_, str name]) func40 Z ntmps40 Z (q2 (o_box H Z Z Z ?_)); intro b2 w2 hb2 H
 refine o_box H Z Z Z ?_; intro b3 w3 hb3 H
 refine o_alloc H zeroValue32 Z Z ?_; intro b4 w4 hb4 H
 refine aG Z (q1 (o_loadagg_B 2 H isAgg32 sizeOf32 Z Z Z Z Z (o_makefn1 Z Z (o_call call59 Z Z (i_changed_back_c _ _ (H.lendSubL [1]) _ d ⟨_, _, _, _, _, _, _, _, _, Z, (hr1.up (PPlus.le _ _ _)), (hr1'.up (PPlus.le _ _ _)), (hr1''.up (PPlus.le _ _ _))⟩ _ _ hname (prow_blk (H.lendPredL (k := 1) (ks := [1]) Z Z)) ) ?_))))
 rintro _ w5 ⟨_, _, rfl, H5', ⟨u15, u25, u35, E15, E25, E35, rfl, rfl, ho15, ho25, ho35⟩⟩
 have H := H.readersL H5'
 obtain ⟨x15, p15⟩ := ho15
 obtain ⟨a15, c15, rfl⟩ := OwnS.shape p15
 obtain ⟨x25, p25⟩ := ho25
 obtain ⟨a25, c25, rfl⟩ := OwnS.shape p25
 obtain ⟨x35, p35⟩ := ho35
 obtain ⟨a35, c35, rfl⟩ := OwnS.shape p35
 refine ⟨_, Z, ?_⟩
 refine o_extract Z Z Z (o_extract Z Z Z (o_store_B 3 H sizeOf32 Z Z Z Z Z Z Z Z ?_)); intro w6 H
 refine aG Z (q3 (W_ret (ret_gen (rs := [.cell 4 32, .tmp 5]) (vs := [_, _]) results40 ⟨⟨_, Z, load_blk 3 H isAgg32 sizeOf32 Z Z Z⟩, Z, trivial⟩ ?_)))
 have H := H.del (k := 3) rfl
 have H := H.del (k := 3) rfl
 have H := H.del (k := 3) rfl
 have H := H.toFront (k := 2) rfl
 have H := H.toFront (k := 2) rfl
 have H := H.toFront (k := 2) rfl
 exact ⟨_, _, Z, H, .slice a15 ((Sp.SnapBack d name).getD ⟨[], [], []⟩).store.length c15, .slice a25 ((Sp.SnapBack d name).getD ⟨[], [], []⟩).tree.length c25, .slice a35 ((Sp.SnapBack d name).getD ⟨[], [], []⟩).snaps.length c35, E15, E25, E35, Z, Z, ⟨_, p15⟩, ⟨_, p25⟩, ⟨_, p35⟩⟩
theorem i_SnapDrop_c (w0 : World) (G0 : PH) (hG : PSub G0 w0) (cd : List Value) (d : BDisk) (hd : diskE G0 d cd) (name : Bs) (hname : name.length ≤ 16777216)  :
  Calls Tryz.prog 18 #[.agg cd.toArray, str name] w0 (RetN w0 G0 (fun v Bs => ∃ (v1 v2 v3 : Value) (F1 F2 F3 : Fr), v = .tuple #[.agg #[v1, v2, v3], .bool (Sp.SnapDrop d name).isSome] ∧ Bs = [frag F1, frag F2, frag F3] ∧ OHs F1 v1 ((Sp.SnapDrop d name).getD ⟨[], [], []⟩).store ∧ OIs F2 v2 ((Sp.SnapDrop d name).getD ⟨[], [], []⟩).tree ∧ OSn F3 v3 ((Sp.SnapDrop d name).getD ⟨[], [], []⟩).snaps)) := by
 obtain ⟨a1, m1, c1, a1', m1', c1', a1'', m1'', c1'', rfl, hr1, hr1', hr1''⟩ := hd; have hn_hr1 := hr1.len; have hx_hr1 : _ ≤ 1099511627776 := hr1.lim; have hn_hr1q := hr1'.len; have hx_hr1q : _ ≤ 1099511627776 := hr1'.lim; have hn_hr1qq := hr1''.len; have hx_hr1qq : _ ≤ 1099511627776 := hr1''.lim
 have H := Hp.init hG
 refine calls_of_W (l := [_, str name]) func18 Z ntmps18 Z (q2 (o_box H Z Z Z ?_)); intro b2 w2 hb2 H
 refine o_box H Z Z Z ?_; intro b3 w3 hb3 H
 refine o_alloc H zeroValue32 Z Z ?_; intro b4 w4 hb4 H
 refine aG Z (q1 (o_loadagg_B 2 H isAgg32 sizeOf32 Z Z Z Z Z (o_makefn1 Z Z (o_call call59 Z Z (i_changed_sdrop_c _ _ (H.lendSubL [1]) _ d ⟨_, _, _, _, _, _, _, _, _, Z, (hr1.up (PPlus.le _ _ _)), (hr1'.up (PPlus.le _ _ _)), (hr1''.up (PPlus.le _ _ _))⟩ _ _ hname (prow_blk (H.lendPredL (k := 1) (ks := [1]) Z Z)) ) ?_))))
 rintro _ w5 ⟨_, _, rfl, H5', ⟨u15, u25, u35, E15, E25, E35, rfl, rfl, ho15, ho25, ho35⟩⟩
 have H := H.readersL H5'
 obtain ⟨x15, p15⟩ := ho15
 obtain ⟨a15, c15, rfl⟩ := OwnS.shape p15
 obtain ⟨x25, p25⟩ := ho25
 obtain ⟨a25, c25, rfl⟩ := OwnS.shape p25
 obtain ⟨x35, p35⟩ := ho35
 obtain ⟨a35, c35, rfl⟩ := OwnS.shape p35
 refine ⟨_, Z, ?_⟩
 refine o_extract Z Z Z (o_extract Z Z Z (o_store_B 3 H sizeOf32 Z Z Z Z Z Z Z Z ?_)); intro w6 H
 refine aG Z (q3 (W_ret (ret_gen (rs := [.cell 4 32, .tmp 5]) (vs := [_, _]) results18 ⟨⟨_, Z, load_blk 3 H isAgg32 sizeOf32 Z Z Z⟩, Z, trivial⟩ ?_)))
 have H := H.del (k := 3) rfl
 have H := H.del (k := 3) rfl
 have H := H.del (k := 3) rfl
 have H := H.toFront (k := 2) rfl
 have H := H.toFront (k := 2) rfl
 have H := H.toFront (k := 2) rfl
 exact ⟨_, _, Z, H, .slice a15 ((Sp.SnapDrop d name).getD ⟨[], [], []⟩).store.length c15, .slice a25 ((Sp.SnapDrop d name).getD ⟨[], [], []⟩).tree.length c25, .slice a35 ((Sp.SnapDrop d name).getD ⟨[], [], []⟩).snaps.length c35, E15, E25, E35, Z, Z, ⟨_, p15⟩, ⟨_, p25⟩, ⟨_, p35⟩⟩
end Go.Proofs.Tst

namespace Go.Proofs.Tst
open Go Fw Tryz
theorem l6In_c (w0 : World) (n : Int) (lo : Int) (hi : Int)  :
  Calls Tryz.prog 125 #[.int .i64 n, .int .i64 lo, .int .i64 hi] w0 (Rets w0 (.bool (Sp.l6In n lo hi))) := by
 have H := Hp.init0 w0
 refine calls_of_W (l := [.int .i64 n, .int .i64 lo, .int .i64 hi]) func125 Z ntmps125 Z (q2 (aG Z (q1 (mV Z (mV Z (o_geq Z Z Z (mV Z ?_)))))))
 refine R_case (t := 10) Z ?_ ?_
 ·intro hc1
  try simp only [nrm] at hc1
  refine gR Z (mV Z (gR Z (mV Z (gR Z (o_leq Z Z Z (o_pick_t Z Z Z (aG Z (q3 (W_ret (rt1 results125 Z ?_))))))))))
  exact H.rets (congrArg Value.bool (by unfold Sp.l6In; rw [Bool.eq_iff_iff]; simp; omega))
 intro hc1'
 try simp only [nrm] at hc1'
 refine rP Z (rP Z (rP Z (o_pick_f Z Z Z (aG Z (q3 (W_ret (rt1 results125 Z ?_)))))))
 exact H.rets (congrArg Value.bool (by unfold Sp.l6In; rw [Bool.eq_iff_iff]; simp; omega))
theorem l1Word_c (w0 : World) (s : Bs) (hs : s.length ≤ 16777216)  :
  Calls Tryz.prog 85 #[str s] w0 (Rets w0 (.bool (Sp.l1Word s))) := by
 have H := Hp.init0 w0
 refine calls_of_W (l := [str s]) func85 Z ntmps85 Z (q2 (aG Z (q3 (W_seq (q2 (aG Z (q3 (W_block ?_))))))))
 refine W_lp (hf := (Sub.cons (t := 0) Z Sub.nil)) (J := fun M w m => ∃ (k : Nat) (G : PH), M = [(3, .int .i64 (k : Int))] ∧ PLe (fun _ => none) G ∧ Hp w0 (fun _ => none) [] w G [] ∧ (k ≤ s.length ∧ (s.take k).all Sp.low = true) ∧ m = (s.length - k)) (h0 := ⟨0, _, Z, PLe.refl _, H, ?inv, Z⟩) (round := ?round)
 case inv => exact ⟨by omega, by simp⟩
 case round =>
  rintro _ w1 _ ⟨k, G1, rfl, hle1, H, hinv1, rfl⟩
  obtain ⟨hk, hall⟩ := hinv1
  refine W_seq (q2 (mV Z (mV Z (o_len_str underlying9 Z Z (o_lss Z Z Z (q3 ?_))))))
  refine W_cond Z ?_ ?_
  ·intro hc2
   try simp only [nrm] at hc2
   refine W_skip (N_K (W_seq (W_block (q2 (mV Z (mV Z (o_index_str underlying9 Z Z Z Z oM ?_))))))); intro ch3 hch3; have hlt3 := ch3.toNat_lt
   refine o_lss Z Z Z (mV Z ?_)
   refine R_case (t := 14) Z ?_ ?_
   ·intro hc4
    try simp only [nrm] at hc4
    refine rP Z (rP Z (rP Z (rP Z (o_pick_t Z Z Z (q3 (W_true Z (q2 (aG Z (q3 (W_ret (N_B_ret (N_K_ret (N_LP_ret (N_B_ret (N_K_ret ?_)))))))))))))))
    refine rt1 results85 Z ?_
    exact H.rets (congrArg Value.bool (by rw [Sp.l1Word, Sp.all_false hch3 (by simp [Sp.low]; omega)]; rfl))
   intro hc4'
   try simp only [nrm] at hc4'
   refine gR Z (mV Z (gR Z (mV Z (gR Z (o_index_str underlying9 Z Z Z Z oM ?_))))); intro ch5 hch5; have hlt5 := ch5.toNat_lt
   obtain rfl : ch5 = ch3 := Option.some.inj (hch5.symm.trans hch3)
   refine gR Z (o_gtr Z Z Z (o_pick_f Z Z Z (q3 ?_)))
   refine W_cond Z ?_ ?_
   ·intro hc6
    try simp only [nrm] at hc6
    refine q2 (aG Z (q3 (W_ret (N_B_ret (N_K_ret (N_LP_ret (N_B_ret (N_K_ret (rt1 results85 Z ?_)))))))))
    exact H.rets (congrArg Value.bool (by rw [Sp.l1Word, Sp.all_false hch5 (by simp [Sp.low]; omega)]; rfl))
   intro hc6'
   try simp only [nrm] at hc6'
   refine W_skip (N_B (N_K (W_region (mV Z (o_add Z Z Z oO (aG Z (R_nil ?_)))))))
   refine N_lp (hJ := ⟨k + 1, _, Z, hle1, H, ?inv, Z⟩) (hm := ?hm)
   case hm => omega
   case inv => exact ⟨by omega, Sp.all_take hall hch5 (by simp [Sp.low]; omega)⟩
  intro hc2'
  try simp only [nrm] at hc2'
  refine W_exit (N_K_exit (N_LP_exit (N_B_same (N_K (q2 (mV Z (o_len_str underlying9 Z Z (o_call call125 Z Z (l6In_c _ _ _ _ ) ?_))))))))
  rintro _ w8 ⟨rfl, ew8⟩; have H := H.step ew8; refine ⟨_, rfl, ?_⟩
  refine aG Z (q3 (W_ret (rt1 results85 Z ?_)))
  obtain rfl : k = s.length := by omega
  rw [List.take_length] at hall
  exact H.rets (congrArg Value.bool (by simp only [Sp.l1Word, Sp.l6In, hall]; rw [Bool.eq_iff_iff]; simp; omega))
theorem l1Cut_c (w0 : World) (G0 : PH) (hG : PSub G0 w0) (s : Bs) (hs : s.length ≤ 16777216)  :
  Calls Tryz.prog 209 #[str s] w0 (RetP w0 G0 (fun G v => RdT G v (Sp.cut s))) := by
 have H := Hp.init hG
 refine calls_of_W (l := [str s]) func209 Z ntmps209 Z (q2 (aG Z (q1 (o_buildSlice H underlying105 sizeOf9 (fun w => ⟨_, zeroValue9 w, Z⟩) Z Z Z Z Z Z Z ?_)))); intro b1 w1 hb1 H
 have H := H.blkAcc 1 (k := 0) (n := 0) rfl rfl (by decide)
 refine aG Z (q1 (aG Z (q3 (W_seq (q2 (aG Z (q3 (W_block ?_))))))))
 refine W_lp (hf := (Sub.cons (t := 0) Z (Sub.cons (t := 2) Z Sub.nil))) (J := fun M w m => ∃ (v : Value) (n : Nat) (cs : List Value) (xs : List (Bs)) (f k : Nat) (G : PH), M = [(4, .int .i64 (f : Int)), (5, .int .i64 (k : Int)), (3, v)] ∧ PLe G0 G ∧ Hp w0 G0 [] w G [acc 9 1 v n cs] ∧ (Chk strE 1 G cs xs ∧ n = xs.length ∧ f ≤ k ∧ k ≤ s.length ∧ xs.length ≤ k ∧ xs ++ Sp.cut (s.drop f) = Sp.cut s ∧ ∀ j, f ≤ j → j < k → s[j]? ≠ some 47) ∧ m = (s.length - k)) (h0 := ⟨_, _, _, [], 0, 0, _, Z, PLe.refl _, H, ?inv, Z⟩) (round := ?round)
 case inv => exact ⟨(Chk.nil (E := strE) (sz := 1) (G := G0)),  by first | rfl | simp | (simp; omega) | omega, (by simp)⟩
 case round =>
  rintro _ w2 _ ⟨v, n, cs, xs, f, k, G2, rfl, hle2, H, hinv2, rfl⟩
  obtain ⟨hchk2_0, hn2_0, hinv2⟩ := hinv2
  obtain ⟨av2_0, cv2_0, rfl⟩ := H.accShape (k := 0) rfl
  obtain ⟨h1, h2, h3, h4, h5⟩ := hinv2
  refine W_seq (q2 (mV Z (mV Z (o_len_str underlying9 Z Z (o_lss Z Z Z (q3 ?_))))))
  refine W_cond Z ?_ ?_
  ·intro hc3
   try simp only [nrm] at hc3
   refine W_skip (N_K (W_seq (W_block (q2 (mV Z (mV Z (o_index_str underlying9 Z Z Z Z oM ?_))))))); intro ch4 hch4; have hlt4 := ch4.toNat_lt
   refine o_eql Z Z Z (q3 ?_)
   refine W_cond Z ?_ ?_
   ·intro hc5
    try simp only [nrm] at hc5
    refine q2 (mV Z (mV Z (mV Z (mV Z (o_slice_str underlying9 Z Z Z Z oM oM oM (o_buildSlice H underlying105 sizeOf9 (fun w => ⟨_, zeroValue9 w, Z⟩) Z Z Z Z Z Z Z ?_)))))); intro b7 w7 hb7 H
    refine o_append1 0 H (sz := 1) (bytes := 16) underlying105 typeInfo9 ⟨_, Z, Z⟩ Z Z Z Z Z Z Z Z Z Z oM Z ?_; intro v8 w8 H
    have hchk8 := hchk2_0.snoc (show strE _ ((s.drop f).take (k - f)) _ from ⟨rfl, (by (first | assumption | (refine Sp.l5Parent_lim ?_; assumption) | (simp; done) | (simp; omega) | omega))⟩) rfl
    obtain ⟨av8, cv8, rfl⟩ := H.accShape (k := 0) rfl
    refine aG Z (q3 (W_region (mV Z (o_add Z Z Z oO (aG Z (R_nil (N_B (N_K (W_region (mV Z (o_add Z Z Z oO (aG Z (R_nil ?_)))))))))))))
    refine N_lp (hJ := ⟨_, _, _, (xs ++ [((s.drop f).take (k - f))]), k + 1, k + 1, _, Z, hle2, H, ?inv, Z⟩) (hm := ?hm)
    case hm => omega
    case inv => exact ⟨hchk8, aN, (by exact ⟨by omega, by omega, by simp; omega, Sp.cut_step h4 h1 (hch4 ▸ congrArg some (Sp.is47 oM)) h5, fun j g1 g2 => by omega⟩)⟩
   intro hc5'
   try simp only [nrm] at hc5'
   refine W_skip (N_B (N_K (W_region (mV Z (o_add Z Z Z oO (aG Z (R_nil ?_)))))))
   refine N_lp (hJ := ⟨_, _, _, xs, f, k + 1, _, Z, hle2, H, ?inv, Z⟩) (hm := ?hm)
   case hm => omega
   case inv => exact ⟨hchk2_0, aN, (by exact ⟨by omega, by omega, by omega, h4, Sp.noslash_succ h5 (hch4 ▸ Sp.not47 oM)⟩)⟩
  intro hc3'
  try simp only [nrm] at hc3'
  refine W_exit (N_K_exit (N_LP_exit (N_B_same (N_K (q2 (mV Z (mV Z (mV Z (o_slice_str_from underlying9 Z Z Z oM oM (o_buildSlice H underlying105 sizeOf9 (fun w => ⟨_, zeroValue9 w, Z⟩) Z Z Z Z Z Z Z ?_)))))))))); intro b13 w13 hb13 H
  refine o_append1 0 H (sz := 1) (bytes := 16) underlying105 typeInfo9 ⟨_, Z, Z⟩ Z Z Z Z Z Z Z Z Z Z oM Z ?_; intro v14 w14 H
  have hchk14 := hchk2_0.snoc (show strE _ (s.drop f) _ from ⟨rfl, (by (first | assumption | (refine Sp.l5Parent_lim ?_; assumption) | (simp; done) | (simp; omega) | omega))⟩) rfl
  obtain ⟨av14, cv14, rfl⟩ := H.accShape (k := 0) rfl
  refine aG Z (q3 (W_ret (rt1 results209 Z ?_)))
  obtain ⟨G515, H, hsg515, hsr515⟩ := H.shut' (k := 0) rfl hchk14 aN aN
  exact H.retP (by rw [← Sp.cut_end h4 h5 oM]; exact hsr515)
theorem PathValid_c (w0 : World) (G0 : PH) (hG : PSub G0 w0) (path : Bs) (hpath : path.length ≤ 16777216)  :
  Calls Tryz.prog 183 #[str path] w0 (Rets w0 (.bool (Sp.PathValid path))) := by
 have H := Hp.init hG
 refine calls_of_W (l := [str path]) func183 Z ntmps183 Z (q2 (aG Z (q1 (mV Z (o_call call209 Z Z (l1Cut_c _ _ H.sub _ hpath ) ?_)))))
 rintro _ w1 ⟨G1, u1_0, g1, rfl, hr1_0⟩
 have H := H.grow g1
 obtain ⟨a1_0, k1_0, rfl⟩ := hr1_0.shape; have hx_hr1_0 : _ ≤ 1099511627776 := hr1_0.lim
 refine ⟨_, Z, ?_⟩
 refine aG Z (q3 (W_seq (q2 (aG Z (q3 (W_block ?_))))))
 refine W_lp (hf := (Sub.cons (t := 3) Z Sub.nil)) (J := fun M w m => ∃ (k : Nat) (G : PH), M = [(4, .int .i64 (k : Int))] ∧ PLe G1 G ∧ Hp w0 G0 [] w G [] ∧ (k ≤ (Sp.cut path).length ∧ ((Sp.cut path).take k).all Sp.l1Word = true) ∧ m = ((Sp.cut path).length - k)) (h0 := ⟨0, _, Z, PLe.refl _, H, ?inv, Z⟩) (round := ?round)
 case inv => simp
 case round =>
  rintro _ w2 _ ⟨k, G2, rfl, hle2, H, hinv2, rfl⟩
  have hr1_0 := hr1_0.up hle2
  obtain ⟨hk, hall⟩ := hinv2
  refine W_seq (q2 (mV Z (mV Z (o_len_slice underlying105 Z Z (o_lss Z Z Z (q3 ?_))))))
  refine W_cond Z ?_ ?_
  ·intro hc3
   try simp only [nrm] at hc3
   refine W_skip (N_K (W_seq (W_block (q2 (mV Z (mV Z (o_index_P k hr1_0 underlying105 sizeOf9 Z Z Z Z aN ?_))))))); intro b4 o4 z4 q4 hz4 hE4 hrow4
   obtain ⟨rfl, hi4⟩ := hE4; have hy_hi4 : _ ≤ 16777216 := hi4
   refine o_load_P H isAgg9 Z Z (hrow4 0 _ Z) (o_call call85 Z Z (l1Word_c _ _ hi4 ) ?_)
   rintro _ w5 ⟨rfl, ew5⟩; have H := H.step ew5; refine ⟨_, rfl, ?_⟩
   refine o_not Z Z (q3 ?_)
   refine W_cond Z ?_ ?_
   ·intro hc6
    try simp only [nrm] at hc6
    refine q2 (aG Z (q3 (W_ret (N_B_ret (N_K_ret (N_LP_ret (N_B_ret (N_K_ret (rt1 results183 Z ?_)))))))))
    exact H.rets (congrArg Value.bool (by rw [Sp.PathValid, Sp.all_false hz4 hc6]; rfl))
   intro hc6'
   try simp only [nrm] at hc6'
   refine W_skip (N_B (N_K (W_region (mV Z (o_add Z Z Z oO (aG Z (R_nil ?_)))))))
   refine N_lp (hJ := ⟨k + 1, _, Z, hle2, H, ?inv, Z⟩) (hm := ?hm)
   case hm => omega
   case inv => exact ⟨by omega, Sp.all_take hall hz4 hc6'⟩
  intro hc3'
  try simp only [nrm] at hc3'
  refine W_exit (N_K_exit (N_LP_exit (N_B_same (N_K (q2 (mV Z (o_len_slice underlying105 Z Z (o_leq Z Z Z (aG Z (q3 (W_ret (rt1 results183 Z ?_))))))))))))
  obtain rfl : k = (Sp.cut path).length := by omega
  rw [List.take_length] at hall
  exact H.rets (congrArg Value.bool (by simp only [Sp.PathValid, hall, Bool.true_and]; rw [Bool.eq_iff_iff]; simp; omega))
theorem l1Last_c (w0 : World) (path : Bs) (hpath : path.length ≤ 16777216)  :
  Calls Tryz.prog 210 #[str path] w0 (Rets w0 (.int .i64 (Sp.l1Last path))) := by
 have H := Hp.init0 w0
 refine calls_of_W (l := [str path]) func210 Z ntmps210 Z (q2 (aG Z (q1 (aG Z (q3 (W_seq (q2 (aG Z (q3 (W_block ?_))))))))))
 refine W_lp (hf := (Sub.cons (t := 0) Z (Sub.cons (t := 2) Z Sub.nil))) (J := fun M w m => ∃ (k : Nat) (o : Option Nat) (G : PH), M = [(3, .int .i64 (Sp.optI o)), (4, .int .i64 (k : Int))] ∧ PLe (fun _ => none) G ∧ Hp w0 (fun _ => none) [] w G [] ∧ (k ≤ path.length ∧ o = (List.range k).foldl (Sp.lastF path) none) ∧ m = (path.length - k)) (h0 := ⟨0, none, _, Z, PLe.refl _, H, ?inv, Z⟩) (round := ?round)
 case inv => exact ⟨by omega, rfl⟩
 case round =>
  rintro _ w1 _ ⟨k, o, G1, rfl, hle1, H, hinv1, rfl⟩
  obtain ⟨hk, hall⟩ := hinv1
  refine W_seq (q2 (mV Z (mV Z (o_len_str underlying9 Z Z (o_lss Z Z Z (q3 ?_))))))
  refine W_cond Z ?_ ?_
  ·intro hc2
   try simp only [nrm] at hc2
   refine W_skip (N_K (W_seq (W_block (q2 (mV Z (mV Z (o_index_str underlying9 Z Z Z Z oM ?_))))))); intro ch3 hch3; have hlt3 := ch3.toNat_lt
   refine o_eql Z Z Z (q3 ?_)
   refine W_cond Z ?_ ?_
   ·intro hc4
    try simp only [nrm] at hc4
    refine W_region (mV Z (aG Z (R_nil (N_B (N_K (W_region (mV Z (o_add Z Z Z oO (aG Z (R_nil ?_))))))))))
    refine N_lp (hJ := ⟨k + 1, some k, _, Z, hle1, H, ?inv, Z⟩) (hm := ?hm)
    case hm => omega
    case inv => exact ⟨by omega, by rw [Sp.last_succ, ← hall, Sp.lastF, hch3, if_pos (congrArg some (Sp.is47 oM))]⟩
   intro hc4'
   try simp only [nrm] at hc4'
   refine W_skip (N_B (N_K (W_region (mV Z (o_add Z Z Z oO (aG Z (R_nil ?_)))))))
   refine N_lp (hJ := ⟨k + 1, o, _, Z, hle1, H, ?inv, Z⟩) (hm := ?hm)
   case hm => omega
   case inv => exact ⟨by omega, by rw [Sp.last_succ, ← hall, Sp.lastF, hch3, if_neg (Sp.not47 oM)]⟩
  intro hc2'
  try simp only [nrm] at hc2'
  refine W_exit (N_K_exit (N_LP_exit (N_B_same (N_K (q2 (mV Z (aG Z (q3 (W_ret (rt1 results210 Z ?_))))))))))
  obtain rfl : k = path.length := by omega
  exact H.rets (congrArg (Value.int .i64) (by rw [hall]; rfl))
theorem l5Parent_c (w0 : World) (path : Bs) (hpath : path.length ≤ 16777216)  :
  Calls Tryz.prog 184 #[str path] w0 (Rets w0 (str (Sp.l5Parent path))) := by
 have hl := Sp.l1Last_le path
 have H := Hp.init0 w0
 refine calls_of_W (l := [str path]) func184 Z ntmps184 Z (q2 (aG Z (q1 (mV Z (mV Z (o_call call210 Z Z (l1Last_c _ _ hpath ) ?_))))))
 rintro _ w1 ⟨rfl, ew1⟩; have H := H.step ew1; refine ⟨_, rfl, ?_⟩
 refine o_max Z Z Z (o_slice_str_to underlying9 Z Z Z oM oM (aG Z (q3 (W_ret (rt1 results184 Z ?_)))))
 exact H.rets Z
theorem l5At_c (w0 : World) (G0 : PH) (hG : PSub G0 w0) (vlist : Value) (list : List (BItem)) (hlist : RdItems G0 vlist list) (path : Bs) (hpath : path.length ≤ 16777216)  :
  Calls Tryz.prog 163 #[vlist, str path] w0 (Rets w0 (.int .i64 (Sp.l5At list path))) := by
 obtain ⟨alist, klist, rfl⟩ := hlist.shape
 have hlimlist : list.length ≤ 1099511627776 := hlist.lim
 have H := Hp.init hG
 refine calls_of_W (l := [.slice alist list.length klist, str path]) func163 Z ntmps163 Z (q2 (aG Z (q3 (W_seq (q2 (aG Z (q3 (W_block ?_))))))))
 refine W_lp (hf := (Sub.cons (t := 0) Z (Sub.cons (t := 1) Z Sub.nil))) (J := fun M w m => ∃ (k : Nat) (G : PH), M = [(5, .int .i64 (k : Int))] ∧ PLe G0 G ∧ Hp w0 G0 [] w G [] ∧ (k ≤ list.length ∧ (∀ j, j < k → ∀ y, list[j]? = some y → decide (y.path = path) = false)) ∧ m = (list.length - k)) (h0 := ⟨0, _, Z, PLe.refl _, H, ?inv, Z⟩) (round := ?round)
 case inv => exact ⟨by omega, fun j hj => by omega⟩
 case round =>
  rintro _ w1 _ ⟨k, G1, rfl, hle1, H, hinv1, rfl⟩
  have hlist := hlist.up hle1
  obtain ⟨hk, hall⟩ := hinv1
  refine W_seq (q2 (mV Z (mV Z (o_len_slice underlying29 Z Z (o_lss Z Z Z (q3 ?_))))))
  refine W_cond Z ?_ ?_
  ·intro hc2
   try simp only [nrm] at hc2
   refine W_skip (N_K (W_seq (W_block (q2 (mV Z (mV Z (o_index_P k hlist underlying29 sizeOf66 Z Z Z Z aN ?_))))))); intro b3 o3 z3 q3 hz3 hE3 hrow3
   obtain ⟨a3, m3, c3, rfl, hi3, hr3⟩ := hE3; have hy_hi3 : _ ≤ 16777216 := hi3; have hn_hr3 := hr3.len; have hx_hr3 : _ ≤ 1099511627776 := hr3.lim
   refine o_fieldAddr 0 runUnderlying66 Z sizeOf9 Z Z Z (o_load_P H isAgg9 Z Z (hrow3 0 _ Z) (mV Z (o_seql Z Z Z (q3 ?_))))
   refine W_cond Z ?_ ?_
   ·intro hc4
    try simp only [nrm] at hc4
    refine q2 (mV Z (aG Z (q3 (W_ret (N_B_ret (N_K_ret (N_LP_ret (N_B_ret (N_K_ret (rt1 results163 Z ?_))))))))))
    exact H.rets (congrArg (Value.int .i64) (by rw [Sp.l5At, Sp.atI, Sp.find_at hall hz3 (by simp; exact hc4)]; rfl))
   intro hc4'
   try simp only [nrm] at hc4'
   refine W_skip (N_B (N_K (W_region (mV Z (o_add Z Z Z oO (aG Z (R_nil ?_)))))))
   refine N_lp (hJ := ⟨k + 1, _, Z, hle1, H, ?inv, Z⟩) (hm := ?hm)
   case hm => omega
   case inv => exact ⟨by omega, Sp.none_succ hall hz3 (by simp; exact hc4')⟩
  intro hc2'
  try simp only [nrm] at hc2'
  refine W_exit (N_K_exit (N_LP_exit (N_B_same (N_K (q2 (aG Z (q3 (W_ret (rt1 results163 Z ?_)))))))))
  exact H.rets (congrArg (Value.int .i64) (by rw [Sp.l5At, Sp.atI, Sp.find_none hall oM]; rfl))
theorem l5Home_c (w0 : World) (G0 : PH) (hG : PSub G0 w0) (vlist : Value) (list : List (BItem)) (hlist : RdItems G0 vlist list) (path : Bs) (hpath : path.length ≤ 16777216)  :
  Calls Tryz.prog 156 #[vlist, str path] w0 (Rets w0 (.bool (Sp.l5Home list path))) := by
 obtain ⟨alist, klist, rfl⟩ := hlist.shape
 have hlimlist : list.length ≤ 1099511627776 := hlist.lim
 have H := Hp.init hG
 refine calls_of_W (l := [.slice alist list.length klist, str path]) func156 Z ntmps156 Z (q2 (aG Z (q1 (mV Z (o_call call184 Z Z (l5Parent_c _ _ hpath ) ?_)))))
 rintro _ w1 ⟨rfl, ew1⟩; have H := H.step ew1; refine ⟨_, rfl, ?_⟩
 refine aG Z (q1 (mV Z (mV Z ?_)))
 refine o_call call163 Z Z (l5At_c _ _ H.sub _ _ hlist _ (by (first | assumption | (refine Sp.l5Parent_lim ?_; assumption) | (simp; done) | (simp; omega) | omega)) ) ?_
 rintro _ w2 ⟨rfl, ew2⟩; have H := H.step ew2; refine ⟨_, rfl, ?_⟩
 refine aG Z (q1 (mV Z (o_seql Z Z Z (mV Z ?_))))
 refine R_case (t := 14) Z ?_ ?_
 ·intro hc3
  try simp only [nrm] at hc3
  refine rP Z (rP Z (rP Z (R_pass Z (yl_un Z Z) (R_pass Z (yl_un Z Z) (R_pass Z (yl_un Z Z) (R_pass Z (yl_un Z Z) (R_pass Z (yl_un Z Z) (rP Z (o_pick_t Z Z Z (aG Z (q3 (W_ret (rt1 results156 Z ?_)))))))))))))
  exact H.rets (congrArg Value.bool (by simp [Sp.l5Home, hc3]))
 intro hc3'
 try simp only [nrm] at hc3'
 refine gR Z (mV Z (gR Z (o_geq Z Z Z (gR Z (mV Z ?_)))))
 refine R_case (t := 17) Z ?_ ?_
 ·intro hc4
  try simp only [nrm] at hc4
  obtain ⟨i, x, hi1, hi2, hi3, hi4, hi5⟩ := Sp.at_nat hc4
  refine gR Z (mV Z (gR Z (mV Z (gR Z (o_index_P i hlist underlying29 sizeOf66 Z Z Z hi2 aN ?_))))); intro b5 o5 z5 q5 hz5 hE5 hrow5
  obtain ⟨a5, m5, c5, rfl, hi5, hr5⟩ := hE5; have hy_hi5 : _ ≤ 16777216 := hi5; have hn_hr5 := hr5.len; have hx_hr5 : _ ≤ 1099511627776 := hr5.lim
  refine gR Z (o_fieldAddr 1 runUnderlying66 Z sizeOf4 Z Z Z (gR Z (o_load_P H isAgg4 Z Z (hrow5 1 _ Z) (gR Z (o_pick_t Z Z Z (o_pick_f Z Z Z (aG Z (q3 (W_ret (rt1 results156 Z ?_))))))))))
  exact H.rets (congrArg Value.bool (by simp [Sp.l5Home, hc3', Sp.atI, hi1, hz5]))
 intro hc4'
 try simp only [nrm] at hc4'
 refine rP Z (rP Z (rP Z (rP Z (rP Z (gR Z (o_pick_f Z Z Z (o_pick_f Z Z Z (aG Z (q3 (W_ret (rt1 results156 Z ?_)))))))))))
 exact H.rets (congrArg Value.bool (by simp [Sp.l5Home, hc3', Sp.atI, Sp.at_none hc4']))
theorem l5Item_c (w0 : World) (G0 : PH) (hG : PSub G0 w0) (cx : List Value) (x : BItem) (hx : itemE G0 x cx)  :
  Calls Tryz.prog 155 #[.agg cx.toArray] w0 (Rets w0 (.bool (Sp.l5Item x))) := by
 obtain ⟨a1, m1, c1, rfl, hi1, hr1⟩ := hx; have hy_hi1 : _ ≤ 16777216 := hi1; have hn_hr1 := hr1.len; have hx_hr1 : _ ≤ 1099511627776 := hr1.lim
 have H := Hp.init hG
 refine calls_of_W (l := [_]) func155 Z ntmps155 Z (q2 (o_box H Z Z Z ?_)); intro b2 w2 hb2 H
 refine aG Z (q3 (W_seq (q2 (aG Z (q3 (W_block ?_))))))
 obtain ⟨ln3, hln3, H⟩ := H.name (k := 0) rfl
 refine W_lp (hf := (Sub.cons (t := 1) Z Sub.nil)) (J := fun M w m => ∃ (k : Nat) (G : PH), M = [(3, .int .i64 (k : Int))] ∧ PLe G0 G ∧ Hp w0 G0 [] w G [blk b2 (cl ln3 66)] ∧ (k ≤ x.ids.length ∧ (x.ids.take k).all (Sp.idOk x.dir) = true) ∧ m = (x.ids.length - k)) (h0 := ⟨0, _, Z, PLe.refl _, H, ?inv, Z⟩) (round := ?round)
 case inv => exact ⟨by omega, by simp⟩
 case round =>
  rintro _ w4 _ ⟨k, G4, rfl, hle4, H, hinv4, rfl⟩
  subst hln3
  have hr1 := hr1.up hle4
  obtain ⟨hk, hall⟩ := hinv4
  refine W_seq (q2 (mV Z (o_fieldAddr 2 runUnderlying66 Z sizeOf41 Z Z Z (o_load_B 0 H isAgg41 Z Z Z Z (o_len_slice underlying41 Z Z (o_lss Z Z Z (q3 ?_)))))))
  refine W_cond Z ?_ ?_
  ·intro hc5
   try simp only [nrm] at hc5
   refine W_skip (N_K (W_seq (W_block (q2 (o_fieldAddr 1 runUnderlying66 Z sizeOf4 Z Z Z (o_load_B 0 H isAgg4 Z Z Z Z (mV Z ?_)))))))
   refine R_case (t := 13) Z ?_ ?_
   ·intro hc6
    try simp only [nrm] at hc6
    refine rP Z (rP Z (rP Z (rP Z (rP Z (rP Z (rP Z (o_pick_t Z Z Z (q3 (W_true Z (q2 (aG Z (q3 (W_ret (N_B_ret (N_K_ret ?_)))))))))))))))
    refine N_LP_ret (N_B_ret (N_K_ret (rt1 results155 Z ?_)))
    exact H.rets (congrArg Value.bool (by rw [Sp.l5Item, Sp.all_false (c := x.ids[k]) (List.getElem?_eq_getElem oM) (by simp [Sp.idOk, hc6])]; rfl))
   intro hc6'
   try simp only [nrm] at hc6'
   refine gR Z (o_fieldAddr 2 runUnderlying66 Z sizeOf41 Z Z Z (gR Z (o_load_B 0 H isAgg41 Z Z Z Z (gR Z (mV Z (gR Z (o_index_P k hr1 underlying41 sizeOf3 Z Z Z Z aN ?_))))))); intro b7 o7 z7 q7 hz7 hE7 hrow7
   obtain ⟨rfl, hi7⟩ := hE7
   refine gR Z (o_load_P H isAgg3 Z Z (hrow7 0 _ Z) (gR Z (o_call call125 Z Z (l6In_c _ _ _ _ ) ?_)))
   rintro _ w8 ⟨rfl, ew8⟩; have H := H.step ew8; refine ⟨_, rfl, ?_⟩
   refine gR Z (o_not Z Z (o_pick_f Z Z Z (q3 ?_)))
   refine W_cond Z ?_ ?_
   ·intro hc9
    try simp only [nrm] at hc9
    refine q2 (aG Z (q3 (W_ret (N_B_ret (N_K_ret (N_LP_ret (N_B_ret (N_K_ret (rt1 results155 Z ?_)))))))))
    exact H.rets (congrArg Value.bool (by rw [Sp.l5Item, Sp.all_false hz7 (by simp [Sp.idOk, *])]; rfl))
   intro hc9'
   try simp only [nrm] at hc9'
   refine W_skip (N_B (N_K (W_region (mV Z (o_add Z Z Z oO (aG Z (R_nil ?_)))))))
   refine N_lp (hJ := ⟨k + 1, _, Z, hle4, H, ?inv, Z⟩) (hm := ?hm)
   case hm => omega
   case inv => exact ⟨by omega, Sp.all_take hall hz7 (by simp [Sp.idOk, *])⟩
  intro hc5'
  try simp only [nrm] at hc5'
  refine W_exit (N_K_exit (N_LP_exit (N_B_same (N_K (q2 (o_fieldAddr 0 runUnderlying66 Z sizeOf9 Z Z Z (o_load_B 0 H isAgg9 Z Z Z Z (o_call call183 Z Z (PathValid_c _ _ H.sub _ hi1 ) ?_))))))))
  rintro _ w11 ⟨rfl, ew11⟩; have H := H.step ew11; refine ⟨_, rfl, ?_⟩
  refine mV Z ?_
  refine R_case (t := 25) Z ?_ ?_
  ·intro hc12
   try simp only [nrm] at hc12
   refine gR Z (o_fieldAddr 2 runUnderlying66 Z sizeOf41 Z Z Z (gR Z (o_load_B 0 H isAgg41 Z Z Z Z (gR Z (o_len_slice underlying41 Z Z (gR Z (o_leq Z Z Z (o_pick_t Z Z Z (aG Z (q3 (W_ret (rt1 results155 Z ?_))))))))))))
   obtain rfl : k = x.ids.length := by omega
   rw [List.take_length] at hall
   exact H.rets (congrArg Value.bool (by simp only [Sp.l5Item, hall, hc12, Bool.true_and]; rw [Bool.eq_iff_iff]; simp; omega))
  intro hc12'
  try simp only [nrm] at hc12'
  refine rP Z (rP Z (rP Z (rP Z (o_pick_f Z Z Z (aG Z (q3 (W_ret (rt1 results155 Z ?_))))))))
  exact H.rets (congrArg Value.bool (by simp [Sp.l5Item, hc12']))
theorem TreeValid_c (w0 : World) (G0 : PH) (hG : PSub G0 w0) (vlist : Value) (list : List (BItem)) (hlist : RdItems G0 vlist list)  :
  Calls Tryz.prog 105 #[vlist] w0 (Rets w0 (.bool (Sp.TreeValid list))) := by
 obtain ⟨alist, klist, rfl⟩ := hlist.shape
 have hlimlist : list.length ≤ 1099511627776 := hlist.lim
 have H := Hp.init hG
 refine calls_of_W (l := [.slice alist list.length klist]) func105 Z ntmps105 Z (q2 (aG Z (q3 (W_seq (q2 (aG Z (q3 (W_block ?_))))))))
 refine W_lp (hf := (Sub.cons (t := 0) Z Sub.nil)) (J := fun M w m => ∃ (k : Nat) (G : PH), M = [(3, .int .i64 (k : Int))] ∧ PLe G0 G ∧ Hp w0 G0 [] w G [] ∧ (k ≤ list.length ∧ ∀ j, j < k → Sp.okT list j = true) ∧ m = (list.length - k)) (h0 := ⟨0, _, Z, PLe.refl _, H, ?inv, Z⟩) (round := ?round)
 case inv => exact ⟨by omega, fun j hj => by omega⟩
 case round =>
  rintro _ w1 _ ⟨k, G1, rfl, hle1, H, hinv1, rfl⟩
  have hlist := hlist.up hle1
  obtain ⟨hk, hall⟩ := hinv1
  refine W_seq (q2 (mV Z (mV Z (o_len_slice underlying29 Z Z (o_lss Z Z Z (q3 ?_))))))
  refine W_cond Z ?_ ?_
  ·intro hc2
   try simp only [nrm] at hc2
   refine W_skip (N_K (W_seq (W_block (W_seq (W_drawK [] 34 H kR Z ?_))))); intro w3 H; have hd3 := PLe.refl G1
   refine vM 0 Z Z (vM 1 Z Z ?_)
   have hl4 := hlist.len
   obtain ⟨b4, o4, z4, q4, ha4, hz4, hq4, hE4, hrow4, _⟩ := hlist.at (i := k) oM
   clear hq4
   obtain ⟨a4, m4, c4, rfl, hi4, hr4⟩ := hE4; have hy_hi4 : _ ≤ 16777216 := hi4; have hn_hr4 := hr4.len; have hx_hr4 : _ ≤ 1099511627776 := hr4.lim
   refine RD_t 2 Z kR Z (fun _ hK => v_index_P (i := k) ha4 underlying29 sizeOf66 Z Z Z oM) (RD_t 3 Z kR Z (fun _ hK => v_loadagg_P hK isAgg66 sizeOf66 Z hrow4 Z) ?_)
   refine RD_run [4] kR Z (RDs.cons Z ?_ RDs.nil)
   refine o_call call155 Z Z (l5Item_c _ _ H.sub _ _ ⟨_, _, _, Z, hi4, hr4⟩ ) ?_
   rintro _ w5 ⟨rfl, ew5⟩; have H := H.step ew5; refine ⟨_, rfl, ?_⟩
   refine R_nil (N_DK (Kn.of' H hd3 SubL.nil) (RD_t 5 Z kR Z (fun _ hK => v_not Z) (vM 6 Z Z ?_)))
   refine RD_case (t := 16) Z ?_ ?_
   ·intro hc6
    try simp only [nrm] at hc6
    refine RD_pass 7 Z kR kR kR Z (yl_ne Z Z Z) (RD_pass 8 Z kR kR kR Z (yl_ne Z Z Z) (RD_pass 9 Z kR kR kR Z (yl_ne Z Z Z) (RD_pass 10 Z kR kR kR Z (yl_un Z Z) (RD_pass 11 Z kR kR kR Z (yl_un Z Z) (RD_pass 12 Z kR kR kR Z (yl_un Z Z) (RD_pass 13 Z kR kR kR Z (yl_un Z Z) (RD_pass 14 Z kR kR kR Z (yl_un Z Z) (RD_pass 15 Z kR kR kR Z (yl_un Z Z) (RD_pass 16 Z kR kR kR Z (yl_un Z Z) (RD_pass 17 Z kR kR kR Z (yl_un Z Z) (RD_pass 18 Z kR kR kR Z (yl_un Z Z) (RD_pass 19 Z kR kR kR Z (yl_un Z Z) (RD_pass 20 Z kR kR kR Z (yl_un Z Z) (RD_pass 21 Z kR kR kR Z (yl_un Z Z) (RD_pass 22 Z kR kR kR Z (yl_ne Z Z Z) ?_)))))))))))))))
    refine RD_t 23 Z kR Z (fun _ hK => v_pick_t Z Z) (vM 24 Z Z (RD_pass 25 Z kR kR kR Z (yl_ne Z Z Z) (RD_pass 26 Z kR kR kR Z (yl_ne Z Z Z) (RD_pass 27 Z kR kR kR Z (yl_ne Z Z Z) (RD_pass 28 Z kR kR kR Z (yl_ne Z Z Z) (RD_pass 29 Z kR kR kR Z (yl_ne Z Z Z) (RD_pass 30 Z kR kR kR Z (yl_ne Z Z Z) (RD_pass 31 Z kR kR kR Z (yl_ne Z Z Z) (RD_pass 32 Z kR kR kR Z (yl_ne Z Z Z) (RD_t 33 Z kR Z (fun _ hK => v_pick_t Z Z) (RD_done kR (N_K (W_true Z (q2 (aG Z ?_)))))))))))))))
    refine q3 (W_ret (N_B_ret (N_K_ret (N_LP_ret (N_B_ret (N_K_ret (rt1 results105 Z ?_)))))))
    exact H.rets (congrArg Value.bool (by rw [Sp.TreeValid, Sp.not_all_range (k := k) oM (by rw [Sp.okT_at hz4]; simp [Sp.prevLt, *])]; rfl))
   intro hc6'
   try simp only [nrm] at hc6'
   refine RD_tg 7 Z kR Z (yl Z Z) (fun _ hK => v_move Z) (RD_tg 8 Z kR Z (yl Z Z) (fun _ hK => v_gtr Z Z) (RD_tg 9 Z kR Z (yl Z Z) (fun _ hK => v_move Z) ?_))
   refine RD_case (t := 19) Z ?_ ?_
   ·intro hc7
    try simp only [nrm] at hc7
    have hk0 : k ≠ 0 := by omega
    refine RD_tg 10 Z kR Z (yl Z Z) (fun _ hK => v_move Z) (RD_tg 11 Z kR Z (yl Z Z) (fun _ hK => v_move Z) (RD_tg 12 Z kR Z (yl Z Z) (fun _ hK => v_sub Z Z oO) ?_))
    have hl9 := hlist.len
    obtain ⟨b9, o9, z9, q9, ha9, hz9, hq9, hE9, hrow9, _⟩ := hlist.at (i := (k - 1)) oM
    clear hq9
    obtain ⟨a9, m9, c9, rfl, hi9, hr9⟩ := hE9; have hy_hi9 : _ ≤ 16777216 := hi9; have hn_hr9 := hr9.len; have hx_hr9 : _ ≤ 1099511627776 := hr9.lim
    refine RD_tg 13 Z kR Z (yl Z Z) (fun _ hK => v_index_P (i := (k - 1)) ha9 underlying29 sizeOf66 Z Z oM oM) (RD_tg 14 Z kR Z (yl Z Z) (fun _ hK => v_fieldAddr 0 runUnderlying66 Z sizeOf9 Z Z) (RD_tg 15 Z kR Z (yl Z Z) (fun _ hK => v_load_P hK isAgg9 Z (hrow9 0 _ Z)) (RD_tg 16 Z kR Z (yl Z Z) (fun _ hK => v_move Z) (RD_tg 17 Z kR Z (yl Z Z) (fun _ hK => v_move Z) ?_))))
    have hl10 := hlist.len
    obtain ⟨b10, o10, z10, q10, ha10, hz10, hq10, hE10, hrow10, _⟩ := hlist.at (i := k) oM
    clear hq10
    obtain ⟨a10, m10, c10, rfl, hi10, hr10⟩ := hE10; have hy_hi10 : _ ≤ 16777216 := hi10; have hn_hr10 := hr10.len; have hx_hr10 : _ ≤ 1099511627776 := hr10.lim
    have hzz10 : z4 = z10 := Option.some.inj (hz4.symm.trans hz10)
    subst hzz10
    refine RD_tg 18 Z kR Z (yl Z Z) (fun _ hK => v_index_P (i := k) ha10 underlying29 sizeOf66 Z Z Z oM) (RD_tg 19 Z kR Z (yl Z Z) (fun _ hK => v_fieldAddr 0 runUnderlying66 Z sizeOf9 Z Z) (RD_tg 20 Z kR Z (yl Z Z) (fun _ hK => v_load_P hK isAgg9 Z (hrow10 0 _ Z)) (RD_tg 21 Z kR Z (yl Z Z) (fun _ hK => v_sgeq Z Z) (RD_tg 22 Z kR Z (yl Z Z) (fun _ hK => v_pick_t Z Z) (RD_t 23 Z kR Z (fun _ hK => v_pick_f Z Z) (vM 24 Z Z ?_))))))
    refine RD_case (t := 34) Z ?_ ?_
    ·intro hc11
     try simp only [nrm] at hc11
     refine RD_pass 25 Z kR kR kR Z (yl_ne Z Z Z) (RD_pass 26 Z kR kR kR Z (yl_ne Z Z Z) (RD_pass 27 Z kR kR kR Z (yl_ne Z Z Z) (RD_pass 28 Z kR kR kR Z (yl_ne Z Z Z) (RD_pass 29 Z kR kR kR Z (yl_ne Z Z Z) (RD_pass 30 Z kR kR kR Z (yl_ne Z Z Z) (RD_pass 31 Z kR kR kR Z (yl_ne Z Z Z) (RD_pass 32 Z kR kR kR Z (yl_ne Z Z Z) (RD_t 33 Z kR Z (fun _ hK => v_pick_t Z Z) (RD_done kR (N_K (W_true Z (q2 (aG Z (q3 (W_ret ?_)))))))))))))))
     refine N_B_ret (N_K_ret (N_LP_ret (N_B_ret (N_K_ret (rt1 results105 Z ?_)))))
     exact H.rets (congrArg Value.bool (by rw [Sp.TreeValid, Sp.not_all_range (k := k) oM (by rw [Sp.okT_at hz4]; simp [Sp.prevLt, *])]; rfl))
    intro hc11'
    try simp only [nrm] at hc11'
    refine RD_tg 25 Z kR Z (yl Z Z) (fun _ hK => v_move Z) (RD_tg 26 Z kR Z (yl Z Z) (fun _ hK => v_move Z) (RD_tg 27 Z kR Z (yl Z Z) (fun _ hK => v_move Z) ?_))
    have hl12 := hlist.len
    obtain ⟨b12, o12, z12, q12, ha12, hz12, hq12, hE12, hrow12, _⟩ := hlist.at (i := k) oM
    clear hq12
    obtain ⟨a12, m12, c12, rfl, hi12, hr12⟩ := hE12; have hy_hi12 : _ ≤ 16777216 := hi12; have hn_hr12 := hr12.len; have hx_hr12 : _ ≤ 1099511627776 := hr12.lim
    have hzz12 : z4 = z12 := Option.some.inj (hz4.symm.trans hz12)
    subst hzz12
    refine RD_tg 28 Z kR Z (yl Z Z) (fun _ hK => v_index_P (i := k) ha12 underlying29 sizeOf66 Z Z Z oM) (RD_tg 29 Z kR Z (yl Z Z) (fun _ hK => v_fieldAddr 0 runUnderlying66 Z sizeOf9 Z Z) (RD_tg 30 Z kR Z (yl Z Z) (fun _ hK => v_load_P hK isAgg9 Z (hrow12 0 _ Z)) ?_))
    refine RD_run [31] kR Z (RDs.cons Z ?_ RDs.nil)
    refine gR Z (o_call call156 Z Z (l5Home_c _ _ H.sub _ _ hlist _ hi12 ) ?_)
    rintro _ w13 ⟨rfl, ew13⟩; have H := H.step ew13; refine ⟨_, rfl, ?_⟩
    refine R_nil (N_DK (Kn.of' H hd3 SubL.nil) (RD_tg 32 Z kR Z (yl Z Z) (fun _ hK => v_not Z) (RD_t 33 Z kR Z (fun _ hK => v_pick_f Z Z) (RD_done kR (N_K ?_)))))
    refine W_cond Z ?_ ?_
    ·intro hc14
     try simp only [nrm] at hc14
     refine q2 (aG Z (q3 (W_ret (N_B_ret (N_K_ret (N_LP_ret (N_B_ret (N_K_ret (rt1 results105 Z ?_)))))))))
     exact H.rets (congrArg Value.bool (by rw [Sp.TreeValid, Sp.not_all_range (k := k) oM (by rw [Sp.okT_at hz4]; simp [Sp.prevLt, *])]; rfl))
    intro hc14'
    try simp only [nrm] at hc14'
    refine W_skip (N_B (N_K (W_region (mV Z (o_add Z Z Z oO (aG Z (R_nil ?_)))))))
    refine N_lp (hJ := ⟨k + 1, _, Z, hle1, H, ?inv, Z⟩) (hm := ?hm)
    case hm => omega
    case inv => exact ⟨by omega, Sp.upto_succ hall (by rw [Sp.okT_at hz4]; simp [Sp.prevLt, *])⟩
   intro hc7'
   try simp only [nrm] at hc7'
   have hk0 : k = 0 := by omega
   refine RD_pass 10 Z kR kR kR Z (yl_ne Z Z Z) (RD_pass 11 Z kR kR kR Z (yl_ne Z Z Z) (RD_pass 12 Z kR kR kR Z (yl_ne Z Z Z) (RD_pass 13 Z kR kR kR Z (yl_ne Z Z Z) (RD_pass 14 Z kR kR kR Z (yl_ne Z Z Z) (RD_pass 15 Z kR kR kR Z (yl_ne Z Z Z) (RD_pass 16 Z kR kR kR Z (yl_ne Z Z Z) (RD_pass 17 Z kR kR kR Z (yl_ne Z Z Z) (RD_pass 18 Z kR kR kR Z (yl_ne Z Z Z) (RD_pass 19 Z kR kR kR Z (yl_ne Z Z Z) (RD_pass 20 Z kR kR kR Z (yl_ne Z Z Z) (RD_pass 21 Z kR kR kR Z (yl_ne Z Z Z) (RD_tg 22 Z kR Z (yl Z Z) (fun _ hK => v_pick_f Z Z) (RD_t 23 Z kR Z (fun _ hK => v_pick_f Z Z) (vM 24 Z Z (RD_tg 25 Z kR Z (yl Z Z) (fun _ hK => v_move Z) ?_)))))))))))))))
   refine RD_tg 26 Z kR Z (yl Z Z) (fun _ hK => v_move Z) (RD_tg 27 Z kR Z (yl Z Z) (fun _ hK => v_move Z) ?_)
   have hl16 := hlist.len
   obtain ⟨b16, o16, z16, q16, ha16, hz16, hq16, hE16, hrow16, _⟩ := hlist.at (i := k) oM
   clear hq16
   obtain ⟨a16, m16, c16, rfl, hi16, hr16⟩ := hE16; have hy_hi16 : _ ≤ 16777216 := hi16; have hn_hr16 := hr16.len; have hx_hr16 : _ ≤ 1099511627776 := hr16.lim
   have hzz16 : z4 = z16 := Option.some.inj (hz4.symm.trans hz16)
   subst hzz16
   refine RD_tg 28 Z kR Z (yl Z Z) (fun _ hK => v_index_P (i := k) ha16 underlying29 sizeOf66 Z Z Z oM) (RD_tg 29 Z kR Z (yl Z Z) (fun _ hK => v_fieldAddr 0 runUnderlying66 Z sizeOf9 Z Z) (RD_tg 30 Z kR Z (yl Z Z) (fun _ hK => v_load_P hK isAgg9 Z (hrow16 0 _ Z)) ?_))
   refine RD_run [31] kR Z (RDs.cons Z ?_ RDs.nil)
   refine gR Z (o_call call156 Z Z (l5Home_c _ _ H.sub _ _ hlist _ hi16 ) ?_)
   rintro _ w17 ⟨rfl, ew17⟩; have H := H.step ew17; refine ⟨_, rfl, ?_⟩
   refine R_nil (N_DK (Kn.of' H hd3 SubL.nil) (RD_tg 32 Z kR Z (yl Z Z) (fun _ hK => v_not Z) (RD_t 33 Z kR Z (fun _ hK => v_pick_f Z Z) (RD_done kR (N_K ?_)))))
   refine W_cond Z ?_ ?_
   ·intro hc18
    try simp only [nrm] at hc18
    refine q2 (aG Z (q3 (W_ret (N_B_ret (N_K_ret (N_LP_ret (N_B_ret (N_K_ret (rt1 results105 Z ?_)))))))))
    exact H.rets (congrArg Value.bool (by rw [Sp.TreeValid, Sp.not_all_range (k := k) oM (by rw [Sp.okT_at hz4]; simp [Sp.prevLt, *])]; rfl))
   intro hc18'
   try simp only [nrm] at hc18'
   refine W_skip (N_B (N_K (W_region (mV Z (o_add Z Z Z oO (aG Z (R_nil ?_)))))))
   refine N_lp (hJ := ⟨k + 1, _, Z, hle1, H, ?inv, Z⟩) (hm := ?hm)
   case hm => omega
   case inv => exact ⟨by omega, Sp.upto_succ hall (by rw [Sp.okT_at hz4]; simp [Sp.prevLt, *])⟩
  intro hc2'
  try simp only [nrm] at hc2'
  refine W_exit (N_K_exit (N_LP_exit (N_B_same (N_K (q2 (mV Z (o_len_slice underlying29 Z Z (o_leq Z Z Z (aG Z (q3 (W_ret (rt1 results105 Z ?_))))))))))))
  exact H.rets (congrArg Value.bool (by rw [Sp.TreeValid, Sp.all_range (fun j hj => hall j oM), Bool.true_and]; rw [Bool.eq_iff_iff]; simp; omega))
theorem l2Same_c (w0 : World) (G0 : PH) (hG : PSub G0 w0) (va : Value) (a : List (Int)) (ha : RdI G0 va a) (vb : Value) (b : List (Int)) (hb : RdI G0 vb b)  :
  Calls Tryz.prog 154 #[va, vb] w0 (Rets w0 (.bool (Sp.l2Same a b))) := by
 obtain ⟨aa, ka, rfl⟩ := ha.shape
 have hlima : a.length ≤ 1099511627776 := ha.lim
 obtain ⟨ab, kb, rfl⟩ := hb.shape
 have hlimb : b.length ≤ 1099511627776 := hb.lim
 have H := Hp.init hG
 refine calls_of_W (l := [.slice aa a.length ka, .slice ab b.length kb]) func154 Z ntmps154 Z (q2 (aG Z (q3 (W_seq (q2 (mV Z (o_len_slice underlying41 Z Z (mV Z (o_len_slice underlying41 Z Z (o_neq Z Z Z (q3 ?_)))))))))))
 refine W_cond Z ?_ ?_
 ·intro hc1
  try simp only [nrm] at hc1
  refine q2 (aG Z (q3 (W_ret (N_K_ret (rt1 results154 Z ?_)))))
  exact H.rets (congrArg Value.bool (by unfold Sp.l2Same; exact Sp.ne_len oM))
 intro hc1'
 try simp only [nrm] at hc1'
 refine W_skip (N_K (W_seq (q2 (aG Z (q3 (W_block ?_))))))
 refine W_lp (hf := (Sub.cons (t := 0) Z (Sub.cons (t := 1) Z Sub.nil))) (J := fun M w m => ∃ (k : Nat) (G : PH), M = [(5, .int .i64 (k : Int))] ∧ PLe G0 G ∧ Hp w0 G0 [] w G [] ∧ (k ≤ a.length ∧ a.take k = b.take k) ∧ m = (a.length - k)) (h0 := ⟨0, _, Z, PLe.refl _, H, ?inv, Z⟩) (round := ?round)
 case inv => exact ⟨by omega, by simp⟩
 case round =>
  rintro _ w2 _ ⟨k, G2, rfl, hle2, H, hinv2, rfl⟩
  have ha := ha.up hle2
  have hb := hb.up hle2
  obtain ⟨hk, hall⟩ := hinv2
  refine W_seq (q2 (mV Z (mV Z (o_len_slice underlying41 Z Z (o_lss Z Z Z (q3 ?_))))))
  refine W_cond Z ?_ ?_
  ·intro hc3
   try simp only [nrm] at hc3
   refine W_skip (N_K (W_seq (W_block (W_seq (W_drawK [] 9 H kR Z ?_))))); intro w4 H; have hd4 := PLe.refl G2
   refine vM 0 Z Z (vM 1 Z Z ?_)
   have hl5 := ha.len
   obtain ⟨b5, o5, z5, q5, ha5, hz5, hq5, hE5, hrow5, _⟩ := ha.at (i := k) oM
   clear hq5
   obtain ⟨rfl, hi5⟩ := hE5
   refine RD_t 2 Z kR Z (fun _ hK => v_index_P (i := k) ha5 underlying41 sizeOf3 Z Z Z oM) (RD_t 3 Z kR Z (fun _ hK => v_load_P hK isAgg3 Z (hrow5 0 _ Z)) (vM 4 Z Z (vM 5 Z Z ?_)))
   have hl6 := hb.len
   obtain ⟨b6, o6, z6, q6, ha6, hz6, hq6, hE6, hrow6, _⟩ := hb.at (i := k) oM
   clear hq6
   obtain ⟨rfl, hi6⟩ := hE6
   refine RD_t 6 Z kR Z (fun _ hK => v_index_P (i := k) ha6 underlying41 sizeOf3 Z Z Z oM) (RD_t 7 Z kR Z (fun _ hK => v_load_P hK isAgg3 Z (hrow6 0 _ Z)) (RD_t 8 Z kR Z (fun _ hK => v_neq Z Z) (RD_done kR (N_K ?_))))
   refine W_cond Z ?_ ?_
   ·intro hc7
    try simp only [nrm] at hc7
    refine q2 (aG Z (q3 (W_ret (N_B_ret (N_K_ret (N_LP_ret (N_B_ret (N_K_ret (rt1 results154 Z ?_)))))))))
    exact H.rets (congrArg Value.bool (by unfold Sp.l2Same; exact Sp.ne_at hz5 hz6 oM))
   intro hc7'
   try simp only [nrm] at hc7'
   refine W_skip (N_B (N_K (W_region (mV Z (o_add Z Z Z oO (aG Z (R_nil ?_)))))))
   refine N_lp (hJ := ⟨k + 1, _, Z, hle2, H, ?inv, Z⟩) (hm := ?hm)
   case hm => omega
   case inv => exact ⟨by omega, Sp.take_eq hall hz5 (by rw [hz6]; congr 1; omega)⟩
  intro hc3'
  try simp only [nrm] at hc3'
  refine W_exit (N_K_exit (N_LP_exit (N_B_same (N_K (q2 (aG Z (q3 (W_ret (rt1 results154 Z ?_)))))))))
  exact H.rets (congrArg Value.bool (by unfold Sp.l2Same; exact Sp.eq_all hall oM oM))
theorem BlockValid_c (w0 : World) (G0 : PH) (hG : PSub G0 w0) (vbytes : Value) (bytes : List (Int)) (hbytes : RdI G0 vbytes bytes)  :
  Calls Tryz.prog 153 #[vbytes] w0 (Rets w0 (.bool (Sp.BlockValid bytes))) := by
 obtain ⟨abytes, kbytes, rfl⟩ := hbytes.shape
 have hlimbytes : bytes.length ≤ 1099511627776 := hbytes.lim
 have H := Hp.init hG
 refine calls_of_W (l := [.slice abytes bytes.length kbytes]) func153 Z ntmps153 Z (q2 (aG Z (q3 (W_seq (q2 (aG Z (q3 (W_block ?_))))))))
 refine W_lp (hf := (Sub.cons (t := 0) Z Sub.nil)) (J := fun M w m => ∃ (k : Nat) (G : PH), M = [(3, .int .i64 (k : Int))] ∧ PLe G0 G ∧ Hp w0 G0 [] w G [] ∧ (k ≤ bytes.length ∧ (bytes.take k).all Sp.byteOk = true) ∧ m = (bytes.length - k)) (h0 := ⟨0, _, Z, PLe.refl _, H, ?inv, Z⟩) (round := ?round)
 case inv => exact ⟨by omega, by simp⟩
 case round =>
  rintro _ w1 _ ⟨k, G1, rfl, hle1, H, hinv1, rfl⟩
  have hbytes := hbytes.up hle1
  obtain ⟨hk, hall⟩ := hinv1
  refine W_seq (q2 (mV Z (mV Z (o_len_slice underlying41 Z Z (o_lss Z Z Z (q3 ?_))))))
  refine W_cond Z ?_ ?_
  ·intro hc2
   try simp only [nrm] at hc2
   refine W_skip (N_K (W_seq (W_block (q2 (mV Z (mV Z (o_index_P k hbytes underlying41 sizeOf3 Z Z Z Z aN ?_))))))); intro b3 o3 z3 q3 hz3 hE3 hrow3
   obtain ⟨rfl, hi3⟩ := hE3
   refine o_load_P H isAgg3 Z Z (hrow3 0 _ Z) (o_call call125 Z Z (l6In_c _ _ _ _ ) ?_)
   rintro _ w4 ⟨rfl, ew4⟩; have H := H.step ew4; refine ⟨_, rfl, ?_⟩
   refine o_not Z Z (q3 ?_)
   refine W_cond Z ?_ ?_
   ·intro hc5
    try simp only [nrm] at hc5
    refine q2 (aG Z (q3 (W_ret (N_B_ret (N_K_ret (N_LP_ret (N_B_ret (N_K_ret (rt1 results153 Z ?_)))))))))
    exact H.rets (congrArg Value.bool (by rw [Sp.BlockValid, Sp.all_false hz3 (by simp [Sp.byteOk, *])]; rfl))
   intro hc5'
   try simp only [nrm] at hc5'
   refine W_skip (N_B (N_K (W_region (mV Z (o_add Z Z Z oO (aG Z (R_nil ?_)))))))
   refine N_lp (hJ := ⟨k + 1, _, Z, hle1, H, ?inv, Z⟩) (hm := ?hm)
   case hm => omega
   case inv => exact ⟨by omega, Sp.all_take hall hz3 (by simp [Sp.byteOk, *])⟩
  intro hc2'
  try simp only [nrm] at hc2'
  refine W_exit (N_K_exit (N_LP_exit (N_B_same (N_K (q2 (mV Z (o_len_slice underlying41 Z Z (o_call call125 Z Z (l6In_c _ _ _ _ ) ?_))))))))
  rintro _ w7 ⟨rfl, ew7⟩; have H := H.step ew7; refine ⟨_, rfl, ?_⟩
  refine aG Z (q3 (W_ret (rt1 results153 Z ?_)))
  obtain rfl : k = bytes.length := by omega
  rw [List.take_length] at hall
  exact H.rets (congrArg Value.bool (by simp only [Sp.BlockValid, hall, Bool.true_and]))
theorem StoreValid_c (w0 : World) (G0 : PH) (hG : PSub G0 w0) (vlist : Value) (list : List (BHeld)) (hlist : RdH G0 vlist list)  :
  Calls Tryz.prog 104 #[vlist] w0 (Rets w0 (.bool (Sp.StoreValid list))) := by
 obtain ⟨alist, klist, rfl⟩ := hlist.shape
 have hlimlist : list.length ≤ 1099511627776 := hlist.lim
 have H := Hp.init hG
 refine calls_of_W (l := [.slice alist list.length klist]) func104 Z ntmps104 Z (q2 (aG Z (q3 (W_seq (q2 (aG Z (q3 (W_block ?_))))))))
 refine W_lp (hf := (Sub.cons (t := 0) Z Sub.nil)) (J := fun M w m => ∃ (k : Nat) (G : PH), M = [(3, .int .i64 (k : Int))] ∧ PLe G0 G ∧ Hp w0 G0 [] w G [] ∧ (k ≤ list.length ∧ ∀ j, j < k → Sp.okH list j = true) ∧ m = (list.length - k)) (h0 := ⟨0, _, Z, PLe.refl _, H, ?inv, Z⟩) (round := ?round)
 case inv => exact ⟨by omega, fun j hj => by omega⟩
 case round =>
  rintro _ w1 _ ⟨k, G1, rfl, hle1, H, hinv1, rfl⟩
  have hlist := hlist.up hle1
  obtain ⟨hk, hall⟩ := hinv1
  refine W_seq (q2 (mV Z (mV Z (o_len_slice underlying28 Z Z (o_lss Z Z Z (q3 ?_))))))
  refine W_cond Z ?_ ?_
  ·intro hc2
   try simp only [nrm] at hc2
   refine W_skip (N_K (W_seq (W_block (q2 (mV Z (mV Z (o_index_P k hlist underlying28 sizeOf131 Z Z Z Z aN ?_))))))); intro b3 o3 z3 q3 hz3 hE3 hrow3
   obtain ⟨a3, m3, c3, rfl, hi3, hr3, hj3⟩ := hE3; have hn_hr3 := hr3.len; have hx_hr3 : _ ≤ 1099511627776 := hr3.lim
   refine o_loadagg_P H isAgg131 sizeOf131 Z Z hrow3 Z (o_alloc H zeroValue131 Z Z ?_); intro b4 w4 hb4 H
   refine o_store_B 0 H sizeOf131 Z Z Z Z Z Z Z Z ?_; intro w5 H
   refine q3 (W_seq (W_seq (W_drawK [0] 31 H kR Z ?_))); intro w6 H; have hd6 := PLe.refl G1
   refine RD_t 0 Z kR Z (fun _ hK => v_fieldAddr 0 runUnderlying131 Z sizeOf3 Z Z) (RD_t 1 Z kR Z (fun _ hK => v_load_B 0 hK isAgg3 Z Z Z) ?_)
   refine RD_run [2] kR Z (RDs.cons Z ?_ RDs.nil)
   refine o_call call125 Z Z (l6In_c _ _ _ _ ) ?_
   rintro _ w7 ⟨rfl, ew7⟩; have H := H.step ew7; refine ⟨_, rfl, ?_⟩
   refine R_nil (N_DK (Kn.of' H hd6 (SubL.cons 0 Z SubL.nil)) (RD_t 3 Z kR Z (fun _ hK => v_not Z) (vM 4 Z Z ?_)))
   refine RD_case (t := 20) Z ?_ ?_
   ·intro hc8
    try simp only [nrm] at hc8
    refine RD_pass 5 Z kR kR kR Z (yl_ne Z Z Z) (RD_pass 6 Z kR kR kR Z (yl_ne Z Z Z) (RD_pass 7 Z kR kR kR Z (yl_ne Z Z Z) (RD_pass 8 Z kR kR kR Z (yl_ne Z Z Z) (RD_t 9 Z kR Z (fun _ hK => v_pick_t Z Z) (vM 10 Z Z (RD_pass 11 Z kR kR kR Z (yl_ne Z Z Z) (RD_pass 12 Z kR kR kR Z (yl_ne Z Z Z) (RD_pass 13 Z kR kR kR Z (yl_ne Z Z Z) (RD_pass 14 Z kR kR kR Z (yl_ne Z Z Z) (RD_t 15 Z kR Z (fun _ hK => v_pick_t Z Z) (vM 16 Z Z (RD_pass 17 Z kR kR kR Z (yl_ne Z Z Z) (RD_pass 18 Z kR kR kR Z (yl_ne Z Z Z) (RD_pass 19 Z kR kR kR Z (yl_ne Z Z Z) (RD_pass 20 Z kR kR kR Z (yl_un Z Z) ?_)))))))))))))))
    refine RD_pass 21 Z kR kR kR Z (yl_un Z Z) (RD_pass 22 Z kR kR kR Z (yl_un Z Z) (RD_pass 23 Z kR kR kR Z (yl_un Z Z) (RD_pass 24 Z kR kR kR Z (yl_un Z Z) (RD_pass 25 Z kR kR kR Z (yl_un Z Z) (RD_pass 26 Z kR kR kR Z (yl_un Z Z) (RD_pass 27 Z kR kR kR Z (yl_un Z Z) (RD_pass 28 Z kR kR kR Z (yl_un Z Z) (RD_pass 29 Z kR kR kR Z (yl_ne Z Z Z) (RD_t 30 Z kR Z (fun _ hK => v_pick_t Z Z) (RD_done kR (N_K (W_true Z (q2 (aG Z (q3 ?_)))))))))))))))
    refine W_ret (N_K_ret (N_B_ret (N_K_ret (N_LP_ret (N_B_ret (N_K_ret (rt1 results104 Z ?_)))))))
    exact H.rets (congrArg Value.bool (by rw [Sp.StoreValid, Sp.not_all_range (k := k) oM (by rw [Sp.okH_at hz3]; simp [Sp.prevId, *])]; rfl))
   intro hc8'
   try simp only [nrm] at hc8'
   refine RD_tg 5 Z kR Z (yl Z Z) (fun _ hK => v_fieldAddr 1 runUnderlying131 Z sizeOf41 Z Z) (RD_tg 6 Z kR Z (yl Z Z) (fun _ hK => v_load_B 0 hK isAgg41 Z Z Z) ?_)
   refine RD_run [7] kR Z (RDs.cons Z ?_ RDs.nil)
   refine gR Z (o_call call153 Z Z (BlockValid_c _ _ H.sub _ _ hr3 ) ?_)
   rintro _ w9 ⟨rfl, ew9⟩; have H := H.step ew9; refine ⟨_, rfl, ?_⟩
   refine R_nil (N_DK (Kn.of' H hd6 (SubL.cons 0 Z SubL.nil)) (RD_tg 8 Z kR Z (yl Z Z) (fun _ hK => v_not Z) (RD_t 9 Z kR Z (fun _ hK => v_pick_f Z Z) (vM 10 Z Z ?_))))
   refine RD_case (t := 26) Z ?_ ?_
   ·intro hc10
    try simp only [nrm] at hc10
    refine RD_pass 11 Z kR kR kR Z (yl_ne Z Z Z) (RD_pass 12 Z kR kR kR Z (yl_ne Z Z Z) (RD_pass 13 Z kR kR kR Z (yl_ne Z Z Z) (RD_pass 14 Z kR kR kR Z (yl_ne Z Z Z) (RD_t 15 Z kR Z (fun _ hK => v_pick_t Z Z) (vM 16 Z Z (RD_pass 17 Z kR kR kR Z (yl_ne Z Z Z) (RD_pass 18 Z kR kR kR Z (yl_ne Z Z Z) (RD_pass 19 Z kR kR kR Z (yl_ne Z Z Z) (RD_pass 20 Z kR kR kR Z (yl_un Z Z) (RD_pass 21 Z kR kR kR Z (yl_un Z Z) (RD_pass 22 Z kR kR kR Z (yl_un Z Z) (RD_pass 23 Z kR kR kR Z (yl_un Z Z) (RD_pass 24 Z kR kR kR Z (yl_un Z Z) (RD_pass 25 Z kR kR kR Z (yl_un Z Z) (RD_pass 26 Z kR kR kR Z (yl_un Z Z) ?_)))))))))))))))
    refine RD_pass 27 Z kR kR kR Z (yl_un Z Z) (RD_pass 28 Z kR kR kR Z (yl_un Z Z) (RD_pass 29 Z kR kR kR Z (yl_ne Z Z Z) (RD_t 30 Z kR Z (fun _ hK => v_pick_t Z Z) (RD_done kR (N_K (W_true Z (q2 (aG Z (q3 (W_ret (N_K_ret (N_B_ret (N_K_ret (N_LP_ret (N_B_ret ?_)))))))))))))))
    refine N_K_ret (rt1 results104 Z ?_)
    exact H.rets (congrArg Value.bool (by rw [Sp.StoreValid, Sp.not_all_range (k := k) oM (by rw [Sp.okH_at hz3]; simp [Sp.prevId, *])]; rfl))
   intro hc10'
   try simp only [nrm] at hc10'
   refine RD_tg 11 Z kR Z (yl Z Z) (fun _ hK => v_fieldAddr 2 runUnderlying131 Z sizeOf3 Z Z) (RD_tg 12 Z kR Z (yl Z Z) (fun _ hK => v_load_B 0 hK isAgg3 Z Z Z) ?_)
   refine RD_run [13] kR Z (RDs.cons Z ?_ RDs.nil)
   refine gR Z (o_call call125 Z Z (l6In_c _ _ _ _ ) ?_)
   rintro _ w11 ⟨rfl, ew11⟩; have H := H.step ew11; refine ⟨_, rfl, ?_⟩
   refine R_nil (N_DK (Kn.of' H hd6 (SubL.cons 0 Z SubL.nil)) (RD_tg 14 Z kR Z (yl Z Z) (fun _ hK => v_not Z) (RD_t 15 Z kR Z (fun _ hK => v_pick_f Z Z) (vM 16 Z Z ?_))))
   refine RD_case (t := 32) Z ?_ ?_
   ·intro hc12
    try simp only [nrm] at hc12
    refine RD_pass 17 Z kR kR kR Z (yl_ne Z Z Z) (RD_pass 18 Z kR kR kR Z (yl_ne Z Z Z) (RD_pass 19 Z kR kR kR Z (yl_ne Z Z Z) (RD_pass 20 Z kR kR kR Z (yl_un Z Z) (RD_pass 21 Z kR kR kR Z (yl_un Z Z) (RD_pass 22 Z kR kR kR Z (yl_un Z Z) (RD_pass 23 Z kR kR kR Z (yl_un Z Z) (RD_pass 24 Z kR kR kR Z (yl_un Z Z) (RD_pass 25 Z kR kR kR Z (yl_un Z Z) (RD_pass 26 Z kR kR kR Z (yl_un Z Z) (RD_pass 27 Z kR kR kR Z (yl_un Z Z) (RD_pass 28 Z kR kR kR Z (yl_un Z Z) (RD_pass 29 Z kR kR kR Z (yl_ne Z Z Z) (RD_t 30 Z kR Z (fun _ hK => v_pick_t Z Z) (RD_done kR (N_K ?_)))))))))))))))
    refine W_true Z (q2 (aG Z (q3 (W_ret (N_K_ret (N_B_ret (N_K_ret (N_LP_ret (N_B_ret (N_K_ret (rt1 results104 Z ?_)))))))))))
    exact H.rets (congrArg Value.bool (by rw [Sp.StoreValid, Sp.not_all_range (k := k) oM (by rw [Sp.okH_at hz3]; simp [Sp.prevId, *])]; rfl))
   intro hc12'
   try simp only [nrm] at hc12'
   refine RD_tg 17 Z kR Z (yl Z Z) (fun _ hK => v_move Z) (RD_tg 18 Z kR Z (yl Z Z) (fun _ hK => v_gtr Z Z) (RD_tg 19 Z kR Z (yl Z Z) (fun _ hK => v_move Z) ?_))
   refine RD_case (t := 35) Z ?_ ?_
   ·intro hc13
    try simp only [nrm] at hc13
    have hk0 : k ≠ 0 := by omega
    refine RD_tg 20 Z kR Z (yl Z Z) (fun _ hK => v_move Z) (RD_tg 21 Z kR Z (yl Z Z) (fun _ hK => v_move Z) (RD_tg 22 Z kR Z (yl Z Z) (fun _ hK => v_sub Z Z oO) ?_))
    have hl15 := hlist.len
    obtain ⟨b15, o15, z15, q15, ha15, hz15, hq15, hE15, hrow15, _⟩ := hlist.at (i := (k - 1)) oM
    clear hq15
    obtain ⟨a15, m15, c15, rfl, hi15, hr15, hj15⟩ := hE15; have hn_hr15 := hr15.len; have hx_hr15 : _ ≤ 1099511627776 := hr15.lim
    refine RD_tg 23 Z kR Z (yl Z Z) (fun _ hK => v_index_P (i := (k - 1)) ha15 underlying28 sizeOf131 Z Z oM oM) (RD_tg 24 Z kR Z (yl Z Z) (fun _ hK => v_fieldAddr 0 runUnderlying131 Z sizeOf3 Z Z) (RD_tg 25 Z kR Z (yl Z Z) (fun _ hK => v_load_P hK isAgg3 Z (hrow15 0 _ Z)) (RD_tg 26 Z kR Z (yl Z Z) (fun _ hK => v_fieldAddr 0 runUnderlying131 Z sizeOf3 Z Z) (RD_tg 27 Z kR Z (yl Z Z) (fun _ hK => v_load_B 0 hK isAgg3 Z Z Z) (RD_tg 28 Z kR Z (yl Z Z) (fun _ hK => v_geq Z Z) (RD_tg 29 Z kR Z (yl Z Z) (fun _ hK => v_pick_t Z Z) (RD_t 30 Z kR Z (fun _ hK => v_pick_f Z Z) (RD_done kR (N_K ?_)))))))))
    refine W_cond Z ?_ ?_
    ·intro hc16
     try simp only [nrm] at hc16
     refine q2 (aG Z (q3 (W_ret (N_K_ret (N_B_ret (N_K_ret (N_LP_ret (N_B_ret (N_K_ret (rt1 results104 Z ?_))))))))))
     exact H.rets (congrArg Value.bool (by rw [Sp.StoreValid, Sp.not_all_range (k := k) oM (by rw [Sp.okH_at hz3]; simp [Sp.prevId, *]; intro h; omega)]; rfl))
    intro hc16'
    try simp only [nrm] at hc16'
    refine W_skip (N_K (q2 (aG Z (q3 (W_block ?_)))))
    obtain ⟨ln17, hln17, H⟩ := H.name (k := 0) rfl
    refine W_lp (hf := (Sub.cons (t := 0) Z (Sub.cons (t := 3) Z (Sub.cons (t := 4) Z Sub.nil)))) (J := fun M w m => ∃ (i : Nat) (G : PH), M = [(5, .int .i64 (i : Int))] ∧ PLe G1 G ∧ Hp w0 G0 [] w G [blk b4 (cl ln17 131)] ∧ (i ≤ k ∧ (list.take i).all (fun g => !Sp.l2Same g.bytes z3.bytes) = true) ∧ m = (k - i)) (h0 := ⟨0, _, Z, PLe.refl _, H, ?inv, Z⟩) (round := ?round)
    case inv => exact ⟨by omega, by simp⟩
    case round =>
     rintro _ w18 _ ⟨i, G18, rfl, hle18, H, hinv18, rfl⟩
     subst hln17
     have hlist := hlist.up hle18
     have hr3 := hr3.up hle18
     have hle1 := hle1.trans hle18
     obtain ⟨hi, hall2⟩ := hinv18
     refine W_seq (q2 (mV Z (mV Z (o_lss Z Z Z (q3 ?_)))))
     refine W_cond Z ?_ ?_
     ·intro hc19
      try simp only [nrm] at hc19
      refine W_skip (N_K (W_seq (W_block (W_seq (W_drawK [0] 8 H kR Z ?_))))); intro w20 H; have hd20 := PLe.refl G18
      refine vM 0 Z Z (vM 1 Z Z ?_)
      have hl21 := hlist.len
      obtain ⟨b21, o21, z21, q21, ha21, hz21, hq21, hE21, hrow21, _⟩ := hlist.at (i := i) oM
      clear hq21
      obtain ⟨a21, m21, c21, rfl, hi21, hr21, hj21⟩ := hE21; have hn_hr21 := hr21.len; have hx_hr21 : _ ≤ 1099511627776 := hr21.lim
      refine RD_t 2 Z kR Z (fun _ hK => v_index_P (i := i) ha21 underlying28 sizeOf131 Z Z Z oM) (RD_t 3 Z kR Z (fun _ hK => v_fieldAddr 1 runUnderlying131 Z sizeOf41 Z Z) (RD_t 4 Z kR Z (fun _ hK => v_load_P hK isAgg41 Z (hrow21 1 _ Z)) (RD_t 5 Z kR Z (fun _ hK => v_fieldAddr 1 runUnderlying131 Z sizeOf41 Z Z) (RD_t 6 Z kR Z (fun _ hK => v_load_B 0 hK isAgg41 Z Z Z) ?_))))
      refine RD_run [7] kR Z (RDs.cons Z ?_ RDs.nil)
      refine o_call call154 Z Z (l2Same_c _ _ H.sub _ _ hr21 _ _ hr3 ) ?_
      rintro _ w22 ⟨rfl, ew22⟩; have H := H.step ew22; refine ⟨_, rfl, ?_⟩
      refine R_nil (N_DK (Kn.of' H hd20 (SubL.cons 0 Z SubL.nil)) (RD_done kR (N_K ?_)))
      refine W_cond Z ?_ ?_
      ·intro hc23
       try simp only [nrm] at hc23
       refine q2 (aG Z (q3 (W_ret (N_B_ret (N_K_ret (N_LP_ret (N_B_ret (N_B_ret (N_K_ret (N_LP_ret (N_B_ret (N_K_ret (rt1 results104 Z ?_)))))))))))))
       exact H.rets (congrArg Value.bool (by rw [Sp.StoreValid, Sp.not_all_range (k := k) oM (by rw [Sp.okH_at hz3, Sp.all_false (l := list.take k) (k := i) (by rw [List.getElem?_take, if_pos oM]; exact hz21) (by simp [*])]; simp)]; rfl))
      intro hc23'
      try simp only [nrm] at hc23'
      refine W_skip (N_B (N_K (W_region (mV Z (o_add Z Z Z oO (aG Z (R_nil ?_)))))))
      refine N_lp (hJ := ⟨i + 1, _, Z, hle18, H, ?inv, Z⟩) (hm := ?hm)
      case hm => omega
      case inv => exact ⟨by omega, Sp.all_take hall2 hz21 (by simp [*])⟩
     intro hc19'
     try simp only [nrm] at hc19'
     refine W_exit (N_K_exit (N_LP_exit (N_B_same (N_B (N_K (W_region (mV Z (o_add Z Z Z oO (aG Z (R_nil ?_))))))))))
     have H := H.del (k := 0) rfl
     refine N_lp (hJ := ⟨k + 1, _, Z, hle1, H, ?inv, Z⟩) (hm := ?hm)
     case hm => omega
     case inv => exact ⟨by omega, Sp.upto_succ hall (by (obtain rfl : i = k := by omega); rw [Sp.okH_at hz3, hall2]; simp [Sp.prevId, *])⟩
   intro hc13'
   try simp only [nrm] at hc13'
   have hk0 : k = 0 := by omega
   refine RD_pass 20 Z kR kR kR Z (yl_ne Z Z Z) (RD_pass 21 Z kR kR kR Z (yl_ne Z Z Z) (RD_pass 22 Z kR kR kR Z (yl_ne Z Z Z) (RD_pass 23 Z kR kR kR Z (yl_ne Z Z Z) (RD_pass 24 Z kR kR kR Z (yl_ne Z Z Z) (RD_pass 25 Z kR kR kR Z (yl_ne Z Z Z) (RD_pass 26 Z kR kR kR Z (yl_ne Z Z Z) (RD_pass 27 Z kR kR kR Z (yl_ne Z Z Z) (RD_pass 28 Z kR kR kR Z (yl_ne Z Z Z) (RD_tg 29 Z kR Z (yl Z Z) (fun _ hK => v_pick_f Z Z) (RD_t 30 Z kR Z (fun _ hK => v_pick_f Z Z) (RD_done kR (N_K (W_false Z (W_skip (N_K ?_)))))))))))))))
   refine q2 (aG Z (q3 (W_block ?_)))
   obtain ⟨ln26, hln26, H⟩ := H.name (k := 0) rfl
   refine W_lp (hf := (Sub.cons (t := 0) Z (Sub.cons (t := 3) Z (Sub.cons (t := 4) Z Sub.nil)))) (J := fun M w m => ∃ (i : Nat) (G : PH), M = [(5, .int .i64 (i : Int))] ∧ PLe G1 G ∧ Hp w0 G0 [] w G [blk b4 (cl ln26 131)] ∧ (i ≤ k ∧ (list.take i).all (fun g => !Sp.l2Same g.bytes z3.bytes) = true) ∧ m = (k - i)) (h0 := ⟨0, _, Z, PLe.refl _, H, ?inv, Z⟩) (round := ?round)
   case inv => exact ⟨by omega, by simp⟩
   case round =>
    rintro _ w27 _ ⟨i, G27, rfl, hle27, H, hinv27, rfl⟩
    subst hln26
    have hlist := hlist.up hle27
    have hr3 := hr3.up hle27
    have hle1 := hle1.trans hle27
    obtain ⟨hi, hall2⟩ := hinv27
    refine W_seq (q2 (mV Z (mV Z (o_lss Z Z Z (q3 ?_)))))
    refine W_cond Z ?_ ?_
    ·intro hc28
     try simp only [nrm] at hc28
     refine W_skip (N_K (W_seq (W_block (W_seq (W_drawK [0] 8 H kR Z ?_))))); intro w29 H; have hd29 := PLe.refl G27
     refine vM 0 Z Z (vM 1 Z Z ?_)
     have hl30 := hlist.len
     obtain ⟨b30, o30, z30, q30, ha30, hz30, hq30, hE30, hrow30, _⟩ := hlist.at (i := i) oM
     clear hq30
     obtain ⟨a30, m30, c30, rfl, hi30, hr30, hj30⟩ := hE30; have hn_hr30 := hr30.len; have hx_hr30 : _ ≤ 1099511627776 := hr30.lim
     refine RD_t 2 Z kR Z (fun _ hK => v_index_P (i := i) ha30 underlying28 sizeOf131 Z Z Z oM) (RD_t 3 Z kR Z (fun _ hK => v_fieldAddr 1 runUnderlying131 Z sizeOf41 Z Z) (RD_t 4 Z kR Z (fun _ hK => v_load_P hK isAgg41 Z (hrow30 1 _ Z)) (RD_t 5 Z kR Z (fun _ hK => v_fieldAddr 1 runUnderlying131 Z sizeOf41 Z Z) (RD_t 6 Z kR Z (fun _ hK => v_load_B 0 hK isAgg41 Z Z Z) ?_))))
     refine RD_run [7] kR Z (RDs.cons Z ?_ RDs.nil)
     refine o_call call154 Z Z (l2Same_c _ _ H.sub _ _ hr30 _ _ hr3 ) ?_
     rintro _ w31 ⟨rfl, ew31⟩; have H := H.step ew31; refine ⟨_, rfl, ?_⟩
     refine R_nil (N_DK (Kn.of' H hd29 (SubL.cons 0 Z SubL.nil)) (RD_done kR (N_K ?_)))
     refine W_cond Z ?_ ?_
     ·intro hc32
      try simp only [nrm] at hc32
      refine q2 (aG Z (q3 (W_ret (N_B_ret (N_K_ret (N_LP_ret (N_B_ret (N_B_ret (N_K_ret (N_LP_ret (N_B_ret (N_K_ret (rt1 results104 Z ?_)))))))))))))
      exact H.rets (congrArg Value.bool (by rw [Sp.StoreValid, Sp.not_all_range (k := k) oM (by rw [Sp.okH_at hz3, Sp.all_false (l := list.take k) (k := i) (by rw [List.getElem?_take, if_pos oM]; exact hz30) (by simp [*])]; simp)]; rfl))
     intro hc32'
     try simp only [nrm] at hc32'
     refine W_skip (N_B (N_K (W_region (mV Z (o_add Z Z Z oO (aG Z (R_nil ?_)))))))
     refine N_lp (hJ := ⟨i + 1, _, Z, hle27, H, ?inv, Z⟩) (hm := ?hm)
     case hm => omega
     case inv => exact ⟨by omega, Sp.all_take hall2 hz30 (by simp [*])⟩
    intro hc28'
    try simp only [nrm] at hc28'
    refine W_exit (N_K_exit (N_LP_exit (N_B_same (N_B (N_K (W_region (mV Z (o_add Z Z Z oO (aG Z (R_nil ?_))))))))))
    have H := H.del (k := 0) rfl
    refine N_lp (hJ := ⟨k + 1, _, Z, hle1, H, ?inv, Z⟩) (hm := ?hm)
    case hm => omega
    case inv => exact ⟨by omega, Sp.upto_succ hall (by (obtain rfl : i = k := by omega); rw [Sp.okH_at hz3, hall2]; simp [Sp.prevId, *])⟩
  intro hc2'
  try simp only [nrm] at hc2'
  refine W_exit (N_K_exit (N_LP_exit (N_B_same (N_K (q2 (mV Z (o_len_slice underlying28 Z Z (o_leq Z Z Z (aG Z (q3 (W_ret (rt1 results104 Z ?_))))))))))))
  exact H.rets (congrArg Value.bool (by rw [Sp.StoreValid, Sp.all_range (fun j hj => hall j oM), Bool.true_and]; rw [Bool.eq_iff_iff]; simp; omega))
theorem l3At_c (w0 : World) (G0 : PH) (hG : PSub G0 w0) (vlist : Value) (list : List (BHeld)) (hlist : RdH G0 vlist list) (id : Int)  :
  Calls Tryz.prog 180 #[vlist, .int .i64 id] w0 (Rets w0 (.int .i64 (Sp.l3At list id))) := by
 obtain ⟨alist, klist, rfl⟩ := hlist.shape
 have hlimlist : list.length ≤ 1099511627776 := hlist.lim
 have H := Hp.init hG
 refine calls_of_W (l := [.slice alist list.length klist, .int .i64 id]) func180 Z ntmps180 Z (q2 (aG Z (q3 (W_seq (q2 (aG Z (q3 (W_block ?_))))))))
 refine W_lp (hf := (Sub.cons (t := 0) Z (Sub.cons (t := 1) Z Sub.nil))) (J := fun M w m => ∃ (k : Nat) (G : PH), M = [(5, .int .i64 (k : Int))] ∧ PLe G0 G ∧ Hp w0 G0 [] w G [] ∧ (k ≤ list.length ∧ (∀ j, j < k → ∀ y, list[j]? = some y → decide (y.id = id) = false)) ∧ m = (list.length - k)) (h0 := ⟨0, _, Z, PLe.refl _, H, ?inv, Z⟩) (round := ?round)
 case inv => exact ⟨by omega, fun j hj => by omega⟩
 case round =>
  rintro _ w1 _ ⟨k, G1, rfl, hle1, H, hinv1, rfl⟩
  have hlist := hlist.up hle1
  obtain ⟨hk, hall⟩ := hinv1
  refine W_seq (q2 (mV Z (mV Z (o_len_slice underlying28 Z Z (o_lss Z Z Z (q3 ?_))))))
  refine W_cond Z ?_ ?_
  ·intro hc2
   try simp only [nrm] at hc2
   refine W_skip (N_K (W_seq (W_block (q2 (mV Z (mV Z (o_index_P k hlist underlying28 sizeOf131 Z Z Z Z aN ?_))))))); intro b3 o3 z3 q3 hz3 hE3 hrow3
   obtain ⟨a3, m3, c3, rfl, hi3, hr3, hj3⟩ := hE3; have hn_hr3 := hr3.len; have hx_hr3 : _ ≤ 1099511627776 := hr3.lim
   refine o_fieldAddr 0 runUnderlying131 Z sizeOf3 Z Z Z (o_load_P H isAgg3 Z Z (hrow3 0 _ Z) (mV Z (o_eql Z Z Z (q3 ?_))))
   refine W_cond Z ?_ ?_
   ·intro hc4
    try simp only [nrm] at hc4
    refine q2 (mV Z (aG Z (q3 (W_ret (N_B_ret (N_K_ret (N_LP_ret (N_B_ret (N_K_ret (rt1 results180 Z ?_))))))))))
    exact H.rets (congrArg (Value.int .i64) (by rw [Sp.l3At, Sp.atH, Sp.find_at hall hz3 (by simp; omega)]; rfl))
   intro hc4'
   try simp only [nrm] at hc4'
   refine W_skip (N_B (N_K (W_region (mV Z (o_add Z Z Z oO (aG Z (R_nil ?_)))))))
   refine N_lp (hJ := ⟨k + 1, _, Z, hle1, H, ?inv, Z⟩) (hm := ?hm)
   case hm => omega
   case inv => exact ⟨by omega, Sp.none_succ hall hz3 (by simp; omega)⟩
  intro hc2'
  try simp only [nrm] at hc2'
  refine W_exit (N_K_exit (N_LP_exit (N_B_same (N_K (q2 (aG Z (q3 (W_ret (rt1 results180 Z ?_)))))))))
  exact H.rets (congrArg (Value.int .i64) (by rw [Sp.l3At, Sp.atH, Sp.find_none hall oM]; rfl))
theorem l3Copy_c (w0 : World) (G0 : PH) (hG : PSub G0 w0) (vlist : Value) (list : List (BHeld)) (hlist : RdH G0 vlist list)  :
  Calls Tryz.prog 109 #[vlist] w0 (RetO w0 G0 (AccOf heldE 3 131 list)) := by
 obtain ⟨alist, klist, rfl⟩ := hlist.shape
 have hlimlist : list.length ≤ 1099511627776 := hlist.lim
 have H := Hp.init hG
 refine calls_of_W (l := [.slice alist list.length klist]) func109 Z ntmps109 Z (q2 (aG Z (q1 (o_buildSlice H underlying28 sizeOf131 (fun w => ⟨_, zeroValue131 w, Z⟩) Z Z Z Z Z Z Z ?_)))); intro b1 w1 hb1 H
 have H := H.blkAcc 3 (k := 0) (n := 0) rfl rfl (by decide)
 refine aG Z (q3 (W_seq (q2 (aG Z (q3 (W_block ?_))))))
 refine W_lp (hf := (Sub.cons (t := 0) Z (Sub.cons (t := 2) Z Sub.nil))) (J := fun M w m => ∃ (v : Value) (n : Nat) (cs : List Value) (xs : List (BHeld)) (k : Nat) (G : PH), M = [(4, .int .i64 (k : Int)), (3, v)] ∧ PLe G0 G ∧ Hp w0 G0 [] w G [acc 131 3 v n cs] ∧ (Chk heldE 3 G cs xs ∧ n = xs.length ∧ k ≤ list.length ∧ xs.length = k ∧ xs = list.take k) ∧ m = (list.length - k)) (h0 := ⟨_, _, _, [], 0, _, Z, PLe.refl _, H, ?inv, Z⟩) (round := ?round)
 case inv => exact ⟨(Chk.nil (E := heldE) (sz := 3) (G := G0)),  by first | rfl | simp | (simp; omega) | omega, (by simp)⟩
 case round =>
  rintro _ w2 _ ⟨v, n, cs, xs, k, G2, rfl, hle2, H, hinv2, rfl⟩
  have hlist := hlist.up hle2
  obtain ⟨hchk2_0, hn2_0, hinv2⟩ := hinv2
  obtain ⟨av2_0, cv2_0, rfl⟩ := H.accShape (k := 0) rfl
  obtain ⟨hk, hxl, hxs⟩ := hinv2
  refine W_seq (q2 (mV Z (mV Z (o_len_slice underlying28 Z Z (o_lss Z Z Z (q3 ?_))))))
  refine W_cond Z ?_ ?_
  ·intro hc3
   try simp only [nrm] at hc3
   refine W_skip (N_K (W_seq (W_block (q2 (mV Z (mV Z (o_index_P k hlist underlying28 sizeOf131 Z Z Z Z aN ?_))))))); intro b4 o4 z4 q4 hz4 hE4 hrow4
   obtain ⟨a4, m4, c4, rfl, hi4, hr4, hj4⟩ := hE4; have hn_hr4 := hr4.len; have hx_hr4 : _ ≤ 1099511627776 := hr4.lim
   refine o_loadagg_P H isAgg131 sizeOf131 Z Z hrow4 Z (o_alloc H zeroValue131 Z Z ?_); intro b5 w5 hb5 H
   refine o_store_B 0 H sizeOf131 Z Z Z Z Z Z Z Z ?_; intro w6 H
   refine q1 (o_buildSlice H underlying41 sizeOf3 (fun w => ⟨_, zeroValue3 w, Z⟩) Z Z Z Z Z Z Z ?_); intro b7 w7 hb7 H
   have H := H.blkAcc 1 (k := 0) (n := 0) rfl rfl (by decide)
   refine o_fieldAddr 1 runUnderlying131 Z sizeOf41 Z Z Z (o_load_B 1 H isAgg41 Z Z Z Z ?_)
   refine o_append_P 0 H hr4 (by intro z cs hz u hu; obtain ⟨rfl, _⟩ := hz; simp at hu; subst hu; rfl) (sz := 1) (bytes := 8) underlying41 typeInfo3 ⟨_, rfl, rfl⟩ rfl rfl rfl rfl rfl rfl rfl oM rfl ?_; intro v8 w8 css8 hcl8 hcs8 H
   have hchk8 : Chk intE 1 G2 ([] ++ css8.flatten) _ := ⟨css8, rfl, hcl8, hcs8⟩
   obtain ⟨av8, cv8, rfl⟩ := H.accShape (k := 0) rfl
   refine o_fieldAddr 1 runUnderlying131 Z sizeOf41 Z Z Z (o_store_B 1 H sizeOf41 Z Z Z Z Z Z Z Z ?_); intro w9 H
   refine q3 (W_region (mV Z (o_loadagg_B 1 H isAgg131 sizeOf131 Z Z Z Z Z (o_buildSlice H underlying28 sizeOf131 (fun w => ⟨_, zeroValue131 w, Z⟩) Z Z Z Z Z Z Z ?_)))); intro b10 w10 hb10 H
   refine o_append1 2 H (sz := 3) (bytes := 40) underlying28 typeInfo131 ⟨_, Z, Z⟩ Z Z Z Z Z Z Z Z Z Z oM Z ?_; intro v11 w11 H
   obtain ⟨G12, H, hsg12, hsr12⟩ := H.shut' (k := 0) rfl hchk8 aN aN
   have hchk2_0 := hchk2_0.up hsg12
   have hle2 := hle2.trans hsg12
   have hchk11 := hchk2_0.snoc (show heldE _ z4 _ from ⟨_, _, _, rfl, ⟨by first | omega | (dsimp only; omega), by first | omega | (dsimp only; omega)⟩, hsr12, ⟨by first | omega | (dsimp only; omega), by first | omega | (dsimp only; omega)⟩⟩) rfl
   obtain ⟨av11, cv11, rfl⟩ := H.accShape (k := 1) rfl
   refine aG Z (R_nil (N_B (N_K (W_region (mV Z (o_add Z Z Z oO (aG Z (R_nil ?_))))))))
   have H := H.del (k := 0) rfl
   refine N_lp (hJ := ⟨_, _, _, (xs ++ [z4]), k + 1, _, Z, hle2, H, ?inv, Z⟩) (hm := ?hm)
   case hm => omega
   case inv => exact ⟨hchk11, aN, (by exact ⟨by omega, by simp [hxl], by rw [Sp.take_succ' hz4, hxs]⟩)⟩
  intro hc3'
  try simp only [nrm] at hc3'
  refine W_exit (N_K_exit (N_LP_exit (N_B_same (N_K (q2 (mV Z (aG Z (q3 (W_ret (rt1 results109 Z ?_))))))))))
  obtain rfl : k = list.length := by omega
  rw [List.take_length] at hxs
  subst hxs
  exact H.retO (k := 0) rfl (AccOf.mk (by assumption) hchk2_0) (acc_nd _ _ _ _ _)
theorem l12At_c (w0 : World) (G0 : PH) (hG : PSub G0 w0) (vlist : Value) (list : List (BSnap)) (hlist : RdSn G0 vlist list) (name : Bs) (hname : name.length ≤ 16777216)  :
  Calls Tryz.prog 52 #[vlist, str name] w0 (Rets w0 (.int .i64 (Sp.l12At list name))) := by
 obtain ⟨alist, klist, rfl⟩ := hlist.shape
 have hlimlist : list.length ≤ 1099511627776 := hlist.lim
 have H := Hp.init hG
 refine calls_of_W (l := [.slice alist list.length klist, str name]) func52 Z ntmps52 Z (q2 (aG Z (q3 (W_seq (q2 (aG Z (q3 (W_block ?_))))))))
 refine W_lp (hf := (Sub.cons (t := 0) Z (Sub.cons (t := 1) Z Sub.nil))) (J := fun M w m => ∃ (k : Nat) (G : PH), M = [(5, .int .i64 (k : Int))] ∧ PLe G0 G ∧ Hp w0 G0 [] w G [] ∧ (k ≤ list.length ∧ (∀ j, j < k → ∀ y, list[j]? = some y → decide (y.name = name) = false)) ∧ m = (list.length - k)) (h0 := ⟨0, _, Z, PLe.refl _, H, ?inv, Z⟩) (round := ?round)
 case inv => exact ⟨by omega, fun j hj => by omega⟩
 case round =>
  rintro _ w1 _ ⟨k, G1, rfl, hle1, H, hinv1, rfl⟩
  have hlist := hlist.up hle1
  obtain ⟨hk, hall⟩ := hinv1
  refine W_seq (q2 (mV Z (mV Z (o_len_slice underlying30 Z Z (o_lss Z Z Z (q3 ?_))))))
  refine W_cond Z ?_ ?_
  ·intro hc2
   try simp only [nrm] at hc2
   refine W_skip (N_K (W_seq (W_block (q2 (mV Z (mV Z (o_index_P k hlist underlying30 sizeOf58 Z Z Z Z aN ?_))))))); intro b3 o3 z3 q3 hz3 hE3 hrow3
   obtain ⟨a3, m3, c3, rfl, hi3, hr3⟩ := hE3; have hy_hi3 : _ ≤ 16777216 := hi3; have hn_hr3 := hr3.len; have hx_hr3 : _ ≤ 1099511627776 := hr3.lim
   refine o_fieldAddr 0 runUnderlying58 Z sizeOf9 Z Z Z (o_load_P H isAgg9 Z Z (hrow3 0 _ Z) (mV Z (o_seql Z Z Z (q3 ?_))))
   refine W_cond Z ?_ ?_
   ·intro hc4
    try simp only [nrm] at hc4
    refine q2 (mV Z (aG Z (q3 (W_ret (N_B_ret (N_K_ret (N_LP_ret (N_B_ret (N_K_ret (rt1 results52 Z ?_))))))))))
    exact H.rets (congrArg (Value.int .i64) (by rw [Sp.l12At, Sp.atS, Sp.find_at hall hz3 (by simp; exact hc4)]; rfl))
   intro hc4'
   try simp only [nrm] at hc4'
   refine W_skip (N_B (N_K (W_region (mV Z (o_add Z Z Z oO (aG Z (R_nil ?_)))))))
   refine N_lp (hJ := ⟨k + 1, _, Z, hle1, H, ?inv, Z⟩) (hm := ?hm)
   case hm => omega
   case inv => exact ⟨by omega, Sp.none_succ hall hz3 (by simp; exact hc4')⟩
  intro hc2'
  try simp only [nrm] at hc2'
  refine W_exit (N_K_exit (N_LP_exit (N_B_same (N_K (q2 (aG Z (q3 (W_ret (rt1 results52 Z ?_)))))))))
  exact H.rets (congrArg (Value.int .i64) (by rw [Sp.l12At, Sp.atS, Sp.find_none hall oM]; rfl))
end Go.Proofs.Tst

namespace Go.Proofs.Tst
open Go Fw Tryz
theorem StoreKeep_c (w0 : World) (G0 : PH) (hG : PSub G0 w0) (vlist : Value) (list : List (BHeld)) (hlist : RdH G0 vlist list) (id : Int)  :
  Calls Tryz.prog 144 #[vlist, .int .i64 id] w0 (RetO w0 G0 (fun G v r => ∃ u, v = .tuple #[u, .bool (Sp.StoreKeep list id).isSome] ∧ AccOf heldE 3 131 ((Sp.StoreKeep list id).getD []) G u r)) := by
 obtain ⟨alist, klist, rfl⟩ := hlist.shape
 have hlimlist : list.length ≤ 1099511627776 := hlist.lim
 have H := Hp.init hG
 refine calls_of_W (l := [.slice alist list.length klist, .int .i64 id]) func144 Z ntmps144 Z (q2 (aG Z (aG Z (q1 (mV Z (mV Z (o_call call180 Z Z (l3At_c _ _ H.sub _ _ hlist _ ) ?_)))))))
 rintro _ w1 ⟨rfl, ew1⟩; have H := H.step ew1; refine ⟨_, rfl, ?_⟩
 refine aG Z (q3 (W_seq (q2 (mV Z (o_call call104 Z Z (StoreValid_c _ _ H.sub _ _ hlist ) ?_)))))
 rintro _ w2 ⟨rfl, ew2⟩; have H := H.step ew2; refine ⟨_, rfl, ?_⟩
 refine o_not Z Z (mV Z ?_)
 refine R_case (t := 14) Z ?_ ?_
 ·intro hc3
  try simp only [nrm] at hc3
  refine rP Z (rP Z (o_pick_t Z Z Z (mV Z (rP Z (rP Z (rP Z (rP Z (rP Z (rP Z (o_pick_t Z Z Z (q3 (W_true Z (q2 (o_buildSlice H underlying28 sizeOf131 (fun w => ⟨_, zeroValue131 w, Z⟩) Z Z Z Z Z Z Z ?_)))))))))))))); intro b4 w4 hb4 H
  have H := H.blkAcc 3 (k := 0) (n := 0) rfl rfl (by decide)
  refine aG Z (aG Z (q3 (W_ret (N_K_ret (rt2 results144 Z Z ?_)))))
  have hN : Sp.StoreKeep list id = none := by simp [Sp.StoreKeep, hc3]
  exact H.retO (k := 0) rfl (by rw [hN]; exact ⟨_, rfl, AccOf.mk aN (Chk.nil (E := heldE) (sz := 3) (G := G0))⟩) (acc_nd _ _ _ _ _)
 intro hc3'
 try simp only [nrm] at hc3'
 refine gR Z (mV Z (gR Z (o_lss Z Z Z (o_pick_f Z Z Z (mV Z ?_)))))
 refine R_case (t := 18) Z ?_ ?_
 ·intro hc5
  try simp only [nrm] at hc5
  refine rP Z (rP Z (rP Z (rP Z (rP Z (rP Z (o_pick_t Z Z Z (q3 (W_true Z (q2 (o_buildSlice H underlying28 sizeOf131 (fun w => ⟨_, zeroValue131 w, Z⟩) Z Z Z Z Z Z Z ?_)))))))))); intro b6 w6 hb6 H
  have H := H.blkAcc 3 (k := 0) (n := 0) rfl rfl (by decide)
  refine aG Z (aG Z (q3 (W_ret (N_K_ret (rt2 results144 Z Z ?_)))))
  have hN : Sp.StoreKeep list id = none := by simp [Sp.StoreKeep, Sp.atH, Sp.at_none hc5]
  exact H.retO (k := 0) rfl (by rw [hN]; exact ⟨_, rfl, AccOf.mk aN (Chk.nil (E := heldE) (sz := 3) (G := G0))⟩) (acc_nd _ _ _ _ _)
 intro hc5'
 try simp only [nrm] at hc5'
 obtain ⟨i, x, hi1, hi2, hi3, hi4, hi5⟩ := Sp.at_nat hc5'
 have hl : Sp.atH list id = some i := hi1
 refine gR Z (mV Z (gR Z (mV Z (gR Z (o_index_P i hlist underlying28 sizeOf131 Z Z Z hi2 aN ?_))))); intro b7 o7 z7 q7 hz7 hE7 hrow7
 obtain ⟨a7, m7, c7, rfl, hi7, hr7, hj7⟩ := hE7; have hn_hr7 := hr7.len; have hx_hr7 : _ ≤ 1099511627776 := hr7.lim
 refine gR Z (o_fieldAddr 2 runUnderlying131 Z sizeOf3 Z Z Z (gR Z (o_load_P H isAgg3 Z Z (hrow7 2 _ Z) (gR Z (o_eql Z Z Z (o_pick_f Z Z Z (q3 ?_)))))))
 refine W_cond Z ?_ ?_
 ·intro hc8
  try simp only [nrm] at hc8
  refine q2 (o_buildSlice H underlying28 sizeOf131 (fun w => ⟨_, zeroValue131 w, Z⟩) Z Z Z Z Z Z Z ?_); intro b9 w9 hb9 H
  have H := H.blkAcc 3 (k := 0) (n := 0) rfl rfl (by decide)
  refine aG Z (aG Z (q3 (W_ret (N_K_ret (rt2 results144 Z Z ?_)))))
  have hN : Sp.StoreKeep list id = none := by simp [Sp.StoreKeep, hl, hz7, hc8]
  exact H.retO (k := 0) rfl (by rw [hN]; exact ⟨_, rfl, AccOf.mk aN (Chk.nil (E := heldE) (sz := 3) (G := G0))⟩) (acc_nd _ _ _ _ _)
 intro hc8'
 try simp only [nrm] at hc8'
 refine W_skip (N_K (q2 (mV Z (o_call call109 Z Z (l3Copy_c _ _ H.sub _ _ hlist ) ?_))))
 rintro _ w10 ⟨G10, v10, _, g10, rfl, ⟨cs10, rfl, hchk10⟩, hp10, hq10, hs10⟩
 have H := H.growO g10 hp10 hq10 hs10; obtain ⟨av10, cv10, rfl⟩ := H.accShape (k := 0) rfl
 refine ⟨_, Z, ?_⟩
 refine aG Z (q1 (mV Z (mV Z (mV Z (mV Z (o_index_A 0 H i Z hchk10 underlying28 sizeOf131 Z Z Z hi2 aN aN ?_)))))); intro ba11 z11 q11 hba11 hz11 hE11 hg11; cases hba11
 obtain ⟨a11, m11, c11, rfl, hi11, hr11, hj11⟩ := hE11; have hn_hr11 := hr11.len; have hx_hr11 : _ ≤ 1099511627776 := hr11.lim
 have hsv := Sp.valid_at hc3' hz11
 refine o_fieldAddr 2 runUnderlying131 Z sizeOf3 Z Z Z (o_load_A 0 H isAgg3 Z Z Z (hg11 2 _ Z) (o_add Z Z Z oO (o_index_A 0 H i Z hchk10 underlying28 sizeOf131 Z Z Z hi2 aN aN ?_))); intro ba13 z13 q13 hba13 hz13 hE13 hg13; cases hba13
 obtain ⟨a13, m13, c13, rfl, hi13, hr13, hj13⟩ := hE13; have hn_hr13 := hr13.len; have hx_hr13 : _ ≤ 1099511627776 := hr13.lim
 have hzz13 : z11 = z13 := Option.some.inj (hz11.symm.trans hz13)
 subst hzz13
 refine o_fieldAddr 2 runUnderlying131 Z sizeOf3 Z Z Z ?_
 have hcl14 := hchk10.length
 refine o_store_A 0 H sizeOf3 Z Z Z Z Z (by simp only [vc, List.length_cons, List.length_nil]; omega) ?_; intro w14 H
 have hchk14 := hchk10.put (x' := ⟨z11.id, z11.bytes, z11.uses + 1⟩) (off := 2) (vs := [_]) hz13 (fun cs hl hE => by obtain ⟨_, _, _, rfl, h1, h2, h3⟩ := hE; exact ⟨_, _, _, rfl, h1, h2, ⟨by first | omega | (dsimp only; omega), by first | omega | (dsimp only; omega)⟩⟩) (by simp only [vc, List.length_cons, List.length_nil]; omega)
 refine q1 (mV Z (aG Z (aG Z (q3 (W_ret (rt2 results144 Z Z ?_))))))
 have hY : Sp.StoreKeep list id = some (list.set i ⟨z11.id, z11.bytes, z11.uses + 1⟩) := by (have hzz : z7 = z11 := Option.some.inj (hz7.symm.trans hz11)); rw [hzz] at hc8'; simp [Sp.StoreKeep, hc3', hl, hz11, hc8', Sp.bump_at hz11]
 exact H.retO (k := 0) rfl (by rw [hY]; exact ⟨_, rfl, AccOf.mk aN hchk14⟩) (acc_nd _ _ _ _ _)
theorem StoreDrop_c (w0 : World) (G0 : PH) (hG : PSub G0 w0) (vlist : Value) (list : List (BHeld)) (hlist : RdH G0 vlist list) (id : Int)  :
  Calls Tryz.prog 158 #[vlist, .int .i64 id] w0 (RetO w0 G0 (fun G v r => ∃ u, v = .tuple #[u, .bool (Sp.StoreDrop list id).isSome] ∧ AccOf heldE 3 131 ((Sp.StoreDrop list id).getD []) G u r)) := by
 obtain ⟨alist, klist, rfl⟩ := hlist.shape
 have hlimlist : list.length ≤ 1099511627776 := hlist.lim
 have H := Hp.init hG
 refine calls_of_W (l := [.slice alist list.length klist, .int .i64 id]) func158 Z ntmps158 Z (q2 (aG Z (aG Z (q1 (mV Z (mV Z (o_call call180 Z Z (l3At_c _ _ H.sub _ _ hlist _ ) ?_)))))))
 rintro _ w1 ⟨rfl, ew1⟩; have H := H.step ew1; refine ⟨_, rfl, ?_⟩
 refine aG Z (q3 (W_seq (q2 (mV Z (o_call call104 Z Z (StoreValid_c _ _ H.sub _ _ hlist ) ?_)))))
 rintro _ w2 ⟨rfl, ew2⟩; have H := H.step ew2; refine ⟨_, rfl, ?_⟩
 refine o_not Z Z (mV Z ?_)
 refine R_case (t := 14) Z ?_ ?_
 ·intro hc3
  try simp only [nrm] at hc3
  refine rP Z (rP Z (o_pick_t Z Z Z (q3 (W_true Z (q2 (o_buildSlice H underlying28 sizeOf131 (fun w => ⟨_, zeroValue131 w, Z⟩) Z Z Z Z Z Z Z ?_)))))); intro b4 w4 hb4 H
  have H := H.blkAcc 3 (k := 0) (n := 0) rfl rfl (by decide)
  refine aG Z (aG Z (q3 (W_ret (N_K_ret (rt2 results158 Z Z ?_)))))
  have hN : Sp.StoreDrop list id = none := by simp [Sp.StoreDrop, hc3]
  exact H.retO (k := 0) rfl (by rw [hN]; exact ⟨_, rfl, AccOf.mk aN (Chk.nil (E := heldE) (sz := 3) (G := G0))⟩) (acc_nd _ _ _ _ _)
 intro hc3'
 try simp only [nrm] at hc3'
 refine gR Z (mV Z (gR Z (o_lss Z Z Z (o_pick_f Z Z Z (q3 ?_)))))
 refine W_cond Z ?_ ?_
 ·intro hc5
  try simp only [nrm] at hc5
  refine q2 (o_buildSlice H underlying28 sizeOf131 (fun w => ⟨_, zeroValue131 w, Z⟩) Z Z Z Z Z Z Z ?_); intro b6 w6 hb6 H
  have H := H.blkAcc 3 (k := 0) (n := 0) rfl rfl (by decide)
  refine aG Z (aG Z (q3 (W_ret (N_K_ret (rt2 results158 Z Z ?_)))))
  have hN : Sp.StoreDrop list id = none := by simp [Sp.StoreDrop, Sp.atH, Sp.at_none hc5]
  exact H.retO (k := 0) rfl (by rw [hN]; exact ⟨_, rfl, AccOf.mk aN (Chk.nil (E := heldE) (sz := 3) (G := G0))⟩) (acc_nd _ _ _ _ _)
 intro hc5'
 try simp only [nrm] at hc5'
 obtain ⟨i, x, hi1, hi2, hi3, hi4, hi5⟩ := Sp.at_nat hc5'
 have hi2 : Sp.l3At list id = (i : Int) := hi2
 have hl : Sp.atH list id = some i := hi1
 refine W_skip (N_K (q2 (mV Z (o_call call109 Z Z (l3Copy_c _ _ H.sub _ _ hlist ) ?_))))
 rintro _ w7 ⟨G7, v7, _, g7, rfl, ⟨cs7, rfl, hchk7⟩, hp7, hq7, hs7⟩
 have H := H.growO g7 hp7 hq7 hs7; obtain ⟨av7, cv7, rfl⟩ := H.accShape (k := 0) rfl
 refine ⟨_, Z, ?_⟩
 refine aG Z (q3 (W_seq (q2 (mV Z (mV Z (o_index_A 0 H i Z hchk7 underlying28 sizeOf131 Z Z Z hi2 aN aN ?_)))))); intro ba8 z8 q8 hba8 hz8 hE8 hg8; cases hba8
 obtain ⟨a8, m8, c8, rfl, hi8, hr8, hj8⟩ := hE8; have hn_hr8 := hr8.len; have hx_hr8 : _ ≤ 1099511627776 := hr8.lim
 have hsv := Sp.valid_at hc3' hz8
 refine o_fieldAddr 2 runUnderlying131 Z sizeOf3 Z Z Z (o_load_A 0 H isAgg3 Z Z Z (hg8 2 _ Z) (o_eql Z Z Z (q3 ?_)))
 refine W_cond Z ?_ ?_
 ·intro hc9
  try simp only [nrm] at hc9
  refine W_seq (W_drawK [] 10 H kR Z ?_); intro w10 H; have hd10 := PLe.refl G7
  refine vM 0 Z Z (vM 1 Z Z ?_)
  have hac11 := H.accCap (k := 0) rfl
  refine RD_t 2 Z kR Z (fun _ hK => v_slice_to (j := i) underlying28 sizeOf131 Z Z hi2 oM) (vM 3 Z Z (vM 4 Z Z (RD_t 5 Z kR Z (fun _ hK => v_add Z Z oO) ?_)))
  have hac13 := H.accCap (k := 0) rfl
  refine RD_t 6 Z kR Z (fun _ hK => v_slice_from (i := (i + 1)) underlying28 sizeOf131 Z Z oM oM) ?_
  refine RD_run [7] kR Z (RDs.cons Z ?_ RDs.nil)
  refine o_append_del 0 H i Z hchk7 (by intro z cs hz u hu; obtain ⟨_, _, _, rfl, _⟩ := hz; simp at hu; rcases hu with rfl | rfl | rfl <;> rfl) underlying28 typeInfo131 rfl rfl rfl rfl oM aN ?_; intro b14 w14 hb14 H hchk14; cases hb14
  refine R_nil (N_DK (Kn.of' H hd10 SubL.nil) (RD_t 8 Z kR Z (fun _ hK => v_assign Z) (RD_t 9 Z kR Z (fun _ hK => v_assign Z) (RD_done kR (N_K (W_ret (N_K_ret (rt2 results158 Z Z ?_))))))))
  have hY : Sp.StoreDrop list id = some (list.take i ++ list.drop (i + 1)) := by simp [Sp.StoreDrop, hc3', hl, hz8, hc9]
  exact H.retO (k := 0) rfl (by rw [hY]; exact ⟨_, rfl, AccOf.mk aN hchk14⟩) (acc_nd _ _ _ _ _)
 intro hc9'
 try simp only [nrm] at hc9'
 refine W_skip (N_K (q2 (mV Z (mV Z (mV Z (mV Z (o_index_A 0 H i Z hchk7 underlying28 sizeOf131 Z Z Z hi2 aN aN ?_))))))); intro ba15 z15 q15 hba15 hz15 hE15 hg15; cases hba15
 obtain ⟨a15, m15, c15, rfl, hi15, hr15, hj15⟩ := hE15; have hn_hr15 := hr15.len; have hx_hr15 : _ ≤ 1099511627776 := hr15.lim
 have hzz15 : z8 = z15 := Option.some.inj (hz8.symm.trans hz15)
 subst hzz15
 refine o_fieldAddr 2 runUnderlying131 Z sizeOf3 Z Z Z (o_load_A 0 H isAgg3 Z Z Z (hg15 2 _ Z) (o_sub Z Z Z oO (o_index_A 0 H i Z hchk7 underlying28 sizeOf131 Z Z Z hi2 aN aN ?_))); intro ba17 z17 q17 hba17 hz17 hE17 hg17; cases hba17
 obtain ⟨a17, m17, c17, rfl, hi17, hr17, hj17⟩ := hE17; have hn_hr17 := hr17.len; have hx_hr17 : _ ≤ 1099511627776 := hr17.lim
 have hzz17 : z8 = z17 := Option.some.inj (hz8.symm.trans hz17)
 subst hzz17
 refine o_fieldAddr 2 runUnderlying131 Z sizeOf3 Z Z Z ?_
 have hcl18 := hchk7.length
 refine o_store_A 0 H sizeOf3 Z Z Z Z Z (by simp only [vc, List.length_cons, List.length_nil]; omega) ?_; intro w18 H
 have hchk18 := hchk7.put (x' := ⟨z8.id, z8.bytes, z8.uses + (-1)⟩) (off := 2) (vs := [_]) hz17 (fun cs hl hE => by obtain ⟨_, _, _, rfl, h1, h2, h3⟩ := hE; exact ⟨_, _, _, rfl, h1, h2, ⟨by first | omega | (dsimp only; omega), by first | omega | (dsimp only; omega)⟩⟩) (by simp only [vc, List.length_cons, List.length_nil]; omega)
 refine q1 (mV Z (aG Z (aG Z (q3 (W_ret (rt2 results158 Z Z ?_))))))
 have hY : Sp.StoreDrop list id = some (list.set i ⟨z8.id, z8.bytes, z8.uses + (-1)⟩) := by simp [Sp.StoreDrop, hc3', hl, hz8, hc9', Sp.bump_at hz8]
 exact H.retO (k := 0) rfl (by rw [hY]; exact ⟨_, rfl, AccOf.mk aN hchk18⟩) (acc_nd _ _ _ _ _)
end Go.Proofs.Tst

namespace Go.Proofs.Tst
open Go Fw Tryz
theorem l4Ids_c (w0 : World) (G0 : PH) (hG : PSub G0 w0) (vlist : Value) (list : List (BHeld)) (hlist : RdH G0 vlist list) (vids : Value) (ids : List (Int)) (hids : RdI G0 vids ids)  :
  Calls Tryz.prog 157 #[vlist, vids] w0 (Rets w0 (.bool (Sp.l4Ids list ids))) := by
 obtain ⟨alist, klist, rfl⟩ := hlist.shape
 have hlimlist : list.length ≤ 1099511627776 := hlist.lim
 obtain ⟨aids, kids, rfl⟩ := hids.shape
 have hlimids : ids.length ≤ 1099511627776 := hids.lim
 have H := Hp.init hG
 refine calls_of_W (l := [.slice alist list.length klist, .slice aids ids.length kids]) func157 Z ntmps157 Z (q2 (aG Z (q3 (W_seq (q2 (aG Z (q3 (W_block ?_))))))))
 refine W_lp (hf := (Sub.cons (t := 0) Z (Sub.cons (t := 1) Z Sub.nil))) (J := fun M w m => ∃ (k : Nat) (G : PH), M = [(5, .int .i64 (k : Int))] ∧ PLe G0 G ∧ Hp w0 G0 [] w G [] ∧ (k ≤ ids.length ∧ ∀ j, j < k → Sp.idsOk list ids j = true) ∧ m = (ids.length - k)) (h0 := ⟨0, _, Z, PLe.refl _, H, ?inv, Z⟩) (round := ?round)
 case inv => exact ⟨by omega, fun j hj => by omega⟩
 case round =>
  rintro _ w1 _ ⟨k, G1, rfl, hle1, H, hinv1, rfl⟩
  have hlist := hlist.up hle1
  have hids := hids.up hle1
  obtain ⟨hk, hall⟩ := hinv1
  refine W_seq (q2 (mV Z (mV Z (o_len_slice underlying41 Z Z (o_lss Z Z Z (q3 ?_))))))
  refine W_cond Z ?_ ?_
  ·intro hc2
   try simp only [nrm] at hc2
   refine W_skip (N_K (W_seq (W_block (q2 (mV Z (mV Z (mV Z (o_index_P k hids underlying41 sizeOf3 Z Z Z Z aN ?_)))))))); intro b3 o3 z3 q3 hz3 hE3 hrow3
   obtain ⟨rfl, hi3⟩ := hE3
   refine o_load_P H isAgg3 Z Z (hrow3 0 _ Z) (o_call call180 Z Z (l3At_c _ _ H.sub _ _ hlist _ ) ?_)
   rintro _ w4 ⟨rfl, ew4⟩; have H := H.step ew4; refine ⟨_, rfl, ?_⟩
   refine aG Z (q1 (mV Z (o_lss Z Z Z (mV Z ?_))))
   refine R_case (t := 21) Z ?_ ?_
   ·intro hc5
    try simp only [nrm] at hc5
    refine rP Z (rP Z (rP Z (rP Z (rP Z (rP Z (R_pass Z (yl_un Z Z) (R_pass Z (yl_un Z Z) (R_pass Z (yl_un Z Z) (R_pass Z (yl_un Z Z) (R_pass Z (yl_un Z Z) (R_pass Z (yl_un Z Z) (R_pass Z (yl_un Z Z) (rP Z (o_pick_t Z Z Z (q3 ?_)))))))))))))))
    refine W_true Z (q2 (aG Z (q3 (W_ret (N_B_ret (N_K_ret (N_LP_ret (N_B_ret (N_K_ret (rt1 results157 Z ?_))))))))))
    exact H.rets (congrArg Value.bool (by rw [Sp.l4Ids, Sp.not_all_range (k := k) oM (by simp [Sp.idsOk, hz3, Sp.atH, Sp.at_none hc5])]; rfl))
   intro hc5'
   try simp only [nrm] at hc5'
   obtain ⟨i, x, hi1, hi2, hi3, hi4, hi5⟩ := Sp.at_nat hc5'
   have hl : Sp.atH list z3 = some i := hi1
   refine gR Z (mV Z (gR Z (o_add Z Z Z oO (gR Z (mV Z (gR Z (o_len_slice underlying41 Z Z (gR Z (o_lss Z Z Z (gR Z (mV Z ?_)))))))))))
   refine R_case (t := 27) Z ?_ ?_
   ·intro hc7
    try simp only [nrm] at hc7
    refine gR Z (mV Z (gR Z (mV Z (gR Z (o_index_P i hlist underlying28 sizeOf131 Z Z Z hi2 aN ?_))))); intro b8 o8 z8 q8 hz8 hE8 hrow8
    obtain ⟨a8, m8, c8, rfl, hi8, hr8, hj8⟩ := hE8; have hn_hr8 := hr8.len; have hx_hr8 : _ ≤ 1099511627776 := hr8.lim
    have hzz : x = z8 := Option.some.inj (hi4.symm.trans hz8)
    subst hzz
    refine gR Z (o_fieldAddr 1 runUnderlying131 Z sizeOf41 Z Z Z (gR Z (o_load_P H isAgg41 Z Z (hrow8 1 _ Z) (gR Z (o_len_slice underlying41 Z Z (gR Z (o_lss Z Z Z (gR Z (o_pick_t Z Z Z (o_pick_f Z Z Z (q3 ?_)))))))))))
    refine W_cond Z ?_ ?_
    ·intro hc9
     try simp only [nrm] at hc9
     refine q2 (aG Z (q3 (W_ret (N_B_ret (N_K_ret (N_LP_ret (N_B_ret (N_K_ret (rt1 results157 Z ?_)))))))))
     exact H.rets (congrArg Value.bool (by rw [Sp.l4Ids, Sp.not_all_range (k := k) oM (by simp [Sp.idsOk, hz3, hl, hi4]; omega)]; rfl))
    intro hc9'
    try simp only [nrm] at hc9'
    refine W_skip (N_B (N_K (W_region (mV Z (o_add Z Z Z oO (aG Z (R_nil ?_)))))))
    refine N_lp (hJ := ⟨k + 1, _, Z, hle1, H, ?inv, Z⟩) (hm := ?hm)
    case hm => omega
    case inv => exact ⟨by omega, Sp.upto_succ hall (by simp [Sp.idsOk, hz3, hl, hi4]; omega)⟩
   intro hc7'
   try simp only [nrm] at hc7'
   refine rP Z (rP Z (rP Z (rP Z (rP Z (rP Z (rP Z (gR Z (o_pick_f Z Z Z (o_pick_f Z Z Z (q3 (W_false Z (W_skip (N_B (N_K (W_region ?_)))))))))))))))
   refine mV Z (o_add Z Z Z oO (aG Z (R_nil ?_)))
   refine N_lp (hJ := ⟨k + 1, _, Z, hle1, H, ?inv, Z⟩) (hm := ?hm)
   case hm => omega
   case inv => exact ⟨by omega, Sp.upto_succ hall (by simp [Sp.idsOk, hz3, hl, hi4]; omega)⟩
  intro hc2'
  try simp only [nrm] at hc2'
  refine W_exit (N_K_exit (N_LP_exit (N_B_same (N_K (q2 (mV Z (o_len_slice underlying41 Z Z (o_leq Z Z Z (aG Z (q3 (W_ret (rt1 results157 Z ?_))))))))))))
  exact H.rets (congrArg Value.bool (by rw [Sp.l4Ids, Sp.all_range (fun j hj => hall j oM), Bool.true_and]; rw [Bool.eq_iff_iff]; simp; omega))
end Go.Proofs.Tst

namespace Go.Proofs.Tst
open Go Fw Tryz
theorem FileFree_c (w0 : World) (G0 : PH) (hG : PSub G0 w0) (vlist : Value) (list : List (BHeld)) (hlist : RdH G0 vlist list) (vids : Value) (ids : List (Int)) (hids : RdI G0 vids ids)  :
  Calls Tryz.prog 110 #[vlist, vids] w0 (RetO w0 G0 (fun G v r => ∃ u, v = .tuple #[u, .bool (Sp.FileFree list ids).isSome] ∧ AccOf heldE 3 131 ((Sp.FileFree list ids).getD []) G u r)) := by
 obtain ⟨alist, klist, rfl⟩ := hlist.shape
 have hlimlist : list.length ≤ 1099511627776 := hlist.lim
 obtain ⟨aids, kids, rfl⟩ := hids.shape
 have hlimids : ids.length ≤ 1099511627776 := hids.lim
 have H := Hp.init hG
 refine calls_of_W (l := [.slice alist list.length klist, .slice aids ids.length kids]) func110 Z ntmps110 Z (q2 (aG Z (aG Z (q3 (W_seq (q2 (mV Z (o_call call104 Z Z (StoreValid_c _ _ H.sub _ _ hlist ) ?_))))))))
 rintro _ w1 ⟨rfl, ew1⟩; have H := H.step ew1; refine ⟨_, rfl, ?_⟩
 refine o_not Z Z (mV Z ?_)
 refine R_case (t := 13) Z ?_ ?_
 ·intro hc2
  try simp only [nrm] at hc2
  refine rP Z (rP Z (rP Z (rP Z (o_pick_t Z Z Z (q3 (W_true Z (q2 (o_buildSlice H underlying28 sizeOf131 (fun w => ⟨_, zeroValue131 w, Z⟩) Z Z Z Z Z Z Z ?_)))))))); intro b3 w3 hb3 H
  have H := H.blkAcc 3 (k := 0) (n := 0) rfl rfl (by decide)
  refine aG Z (aG Z (q3 (W_ret (N_K_ret (rt2 results110 Z Z ?_)))))
  have hN : Sp.FileFree list ids = none := by simp [Sp.FileFree, hc2]
  exact H.retO (k := 0) rfl (by rw [hN]; exact ⟨_, rfl, AccOf.mk aN (Chk.nil (E := heldE) (sz := 3) (G := G0))⟩) (acc_nd _ _ _ _ _)
 intro hc2'
 try simp only [nrm] at hc2'
 refine gR Z (mV Z (gR Z (mV Z (gR Z (o_call call157 Z Z (l4Ids_c _ _ H.sub _ _ hlist _ _ hids ) ?_)))))
 rintro _ w4 ⟨rfl, ew4⟩; have H := H.step ew4; refine ⟨_, rfl, ?_⟩
 refine gR Z (o_not Z Z (o_pick_f Z Z Z (q3 ?_)))
 refine W_cond Z ?_ ?_
 ·intro hc5
  try simp only [nrm] at hc5
  refine q2 (o_buildSlice H underlying28 sizeOf131 (fun w => ⟨_, zeroValue131 w, Z⟩) Z Z Z Z Z Z Z ?_); intro b6 w6 hb6 H
  have H := H.blkAcc 3 (k := 0) (n := 0) rfl rfl (by decide)
  refine aG Z (aG Z (q3 (W_ret (N_K_ret (rt2 results110 Z Z ?_)))))
  have hN : Sp.FileFree list ids = none := by simp [Sp.FileFree, hc5]
  exact H.retO (k := 0) rfl (by rw [hN]; exact ⟨_, rfl, AccOf.mk aN (Chk.nil (E := heldE) (sz := 3) (G := G0))⟩) (acc_nd _ _ _ _ _)
 intro hc5'
 try simp only [nrm] at hc5'
 refine W_skip (N_K (q2 (mV Z (o_call call109 Z Z (l3Copy_c _ _ H.sub _ _ hlist ) ?_))))
 rintro _ w7 ⟨G7, v7, _, g7, rfl, ⟨cs7, rfl, hchk7⟩, hp7, hq7, hs7⟩
 have H := H.growO g7 hp7 hq7 hs7; obtain ⟨av7, cv7, rfl⟩ := H.accShape (k := 0) rfl
 have hids := hids.up g7.le
 refine ⟨_, Z, ?_⟩
 refine aG Z (q3 (W_seq (q2 (aG Z (q3 (W_block ?_))))))
 refine W_lp (hf := (Sub.cons (t := 1) Z Sub.nil)) (J := fun M w m => ∃ (v : Value) (n : Nat) (cs : List Value) (xs : List (BHeld)) (k : Nat) (G : PH), M = [(7, .int .i64 (k : Int)), (6, v)] ∧ PLe G7 G ∧ Hp w0 G0 [] w G [acc 131 3 v n cs] ∧ (Chk heldE 3 G cs xs ∧ n = xs.length ∧ k ≤ ids.length ∧ xs.length ≤ 1000 ∧ Sp.foldB Sp.StoreDrop (ids.take k) (some list) = some xs) ∧ m = (ids.length - k)) (h0 := ⟨_, _, _, list, 0, _, Z, PLe.refl _, H, ?inv, Z⟩) (round := ?round)
 case inv => exact ⟨hchk7,  by first | rfl | simp | (simp; omega) | omega, (by exact ⟨by omega, by have := Sp.valid_len hc2'; omega, by simp [Sp.foldB]⟩)⟩
 case round =>
  rintro _ w8 _ ⟨v, n, cs, xs, k, G8, rfl, hle8, H, hinv8, rfl⟩
  have hids := hids.up hle8
  obtain ⟨hchk8_0, hn8_0, hinv8⟩ := hinv8
  obtain ⟨av8_0, cv8_0, rfl⟩ := H.accShape (k := 0) rfl
  obtain ⟨hk, hxl, hf⟩ := hinv8
  refine W_seq (q2 (mV Z (mV Z (o_len_slice underlying41 Z Z (o_lss Z Z Z (q3 ?_))))))
  refine W_cond Z ?_ ?_
  ·intro hc9
   try simp only [nrm] at hc9
   refine W_skip (N_K (W_seq (W_block (q2 (mV Z (mV Z (mV Z (o_index_P k hids underlying41 sizeOf3 Z Z Z Z aN ?_)))))))); intro b10 o10 z10 q10 hz10 hE10 hrow10
   obtain ⟨rfl, hi10⟩ := hE10
   refine o_load_P H isAgg3 Z Z (hrow10 0 _ Z) ?_
   obtain ⟨G12, H, hsg12, hsr12⟩ := H.shut' (k := 0) rfl hchk8_0 aN aN
   have hle8 := hle8.trans hsg12
   refine o_call call158 Z Z (StoreDrop_c _ _ H.sub _ _ hsr12 _ ) ?_
   rintro _ w11 ⟨G11, _, _, g11, rfl, ⟨u11_0, rfl, ⟨cs11, rfl, hchk11⟩⟩, hp11, hq11, hs11⟩
   have H := H.growO g11 hp11 hq11 hs11; obtain ⟨av11, cv11, rfl⟩ := H.accShape (k := 0) rfl
   have hle8 := hle8.trans g11.le
   refine ⟨_, Z, ?_⟩
   refine mV Z (o_extract Z Z Z (o_extract Z Z Z (aG Z (aG Z (q3 (W_seq (q2 (mV Z (o_not Z Z (q3 ?_))))))))))
   refine W_cond Z ?_ ?_
   ·intro hc13
    try simp only [nrm] at hc13
    refine q2 (o_buildSlice H underlying28 sizeOf131 (fun w => ⟨_, zeroValue131 w, Z⟩) Z Z Z Z Z Z Z ?_); intro b14 w14 hb14 H
    have H := H.blkAcc 3 (k := 0) (n := 0) rfl rfl (by decide)
    refine aG Z (aG Z (q3 (W_ret (N_K_ret (N_B_ret (N_K_ret (N_LP_ret (N_B_ret (N_K_ret (rt2 results110 Z Z ?_))))))))))
    have hN : Sp.FileFree list ids = none := by (have hno : Sp.StoreDrop xs z10 = none := by simpa using hc13); simp only [Sp.FileFree, hc2', hc5', Bool.and_self, if_true]; exact Sp.foldB_stop hf hz10 hno
    exact H.retO (k := 0) rfl (by rw [hN]; exact ⟨_, rfl, AccOf.mk aN (Chk.nil (E := heldE) (sz := 3) (G := G11))⟩) (acc_nd _ _ _ _ _)
   intro hc13'
   try simp only [nrm] at hc13'
   obtain ⟨p, hsp⟩ := Option.isSome_iff_exists.1 hc13'
   rw [hsp] at H hchk11 ⊢
   dsimp only [Option.map, Option.getD] at H hchk11
   refine W_skip (N_K (W_region (mV Z (aG Z (R_nil (N_B (N_K (W_region (mV Z (o_add Z Z Z oO (aG Z (R_nil ?_))))))))))))
   refine N_lp (hJ := ⟨_, _, _, p, k + 1, _, Z, hle8, H, ?inv, Z⟩) (hm := ?hm)
   case hm => omega
   case inv => exact ⟨hchk11, aN, (by exact ⟨by omega, by have := Sp.drop_len hsp; omega, Sp.foldB_succ hf hz10 hsp⟩)⟩
  intro hc9'
  try simp only [nrm] at hc9'
  refine W_exit (N_K_exit (N_LP_exit (N_B_same (N_K (q2 (mV Z (aG Z (aG Z (q3 (W_ret (rt2 results110 Z Z ?_)))))))))))
  have hY : Sp.FileFree list ids = some xs := by simp only [Sp.FileFree, hc2', hc5', Bool.and_self, if_true]; exact Sp.foldB_all hf oM
  exact H.retO (k := 0) rfl (by rw [hY]; exact ⟨_, rfl, AccOf.mk aN hchk8_0⟩) (acc_nd _ _ _ _ _)
end Go.Proofs.Tst

namespace Go.Proofs.Tst
open Go Fw Tryz
theorem l5Copy_c (w0 : World) (G0 : PH) (hG : PSub G0 w0) (cx : List Value) (x : BItem) (hx : itemE G0 x cx)  :
  Calls Tryz.prog 145 #[.agg cx.toArray] w0 (RetP w0 G0 (fun G v => ∃ cs, v = .agg cs.toArray ∧ itemE G x cs)) := by
 obtain ⟨a1, m1, c1, rfl, hi1, hr1⟩ := hx; have hy_hi1 : _ ≤ 16777216 := hi1; have hn_hr1 := hr1.len; have hx_hr1 : _ ≤ 1099511627776 := hr1.lim
 have H := Hp.init hG
 refine calls_of_W (l := [_]) func145 Z ntmps145 Z (q2 (o_box H Z Z Z ?_)); intro b2 w2 hb2 H
 refine o_alloc H zeroValue66 Z Z ?_; intro b3 w3 hb3 H
 refine q1 (o_buildSlice H underlying41 sizeOf3 (fun w => ⟨_, zeroValue3 w, Z⟩) Z Z Z Z Z Z Z ?_); intro b4 w4 hb4 H
 have H := H.blkAcc 1 (k := 0) (n := 0) rfl rfl (by decide)
 refine o_fieldAddr 2 runUnderlying66 Z sizeOf41 Z Z Z (o_load_B 2 H isAgg41 Z Z Z Z ?_)
 refine o_append_P 0 H hr1 (by intro z cs hz u hu; obtain ⟨rfl, _⟩ := hz; simp at hu; subst hu; rfl) (sz := 1) (bytes := 8) underlying41 typeInfo3 ⟨_, rfl, rfl⟩ rfl rfl rfl rfl rfl rfl rfl oM rfl ?_; intro v5 w5 css5 hcl5 hcs5 H
 have hchk5 : Chk intE 1 G0 ([] ++ css5.flatten) _ := ⟨css5, rfl, hcl5, hcs5⟩
 obtain ⟨av5, cv5, rfl⟩ := H.accShape (k := 0) rfl
 refine o_fieldAddr 2 runUnderlying66 Z sizeOf41 Z Z Z (o_store_B 2 H sizeOf41 Z Z Z Z Z Z Z Z ?_); intro w6 H
 refine q1 (o_loadagg_B 2 H isAgg66 sizeOf66 Z Z Z Z Z (o_store_B 1 H sizeOf66 Z Z Z Z Z Z Z Z ?_)); intro w7 H
 refine q3 (W_ret (ret_gen (rs := [.cell 2 66]) (vs := [_]) results145 ⟨⟨_, Z, load_blk 1 H isAgg66 sizeOf66 Z Z Z⟩, trivial⟩ ?_))
 obtain ⟨G508, H, hsg508, hsr508⟩ := H.shut' (k := 0) rfl hchk5 aN aN
 exact H.retP ⟨_, Z, ⟨_, _, _, Z, hi1, hsr508⟩⟩
end Go.Proofs.Tst

namespace Go.Proofs.Tst
open Go Fw Tryz
theorem l5All_c (w0 : World) (G0 : PH) (hG : PSub G0 w0) (vlist : Value) (list : List (BItem)) (hlist : RdItems G0 vlist list)  :
  Calls Tryz.prog 87 #[vlist] w0 (RetO w0 G0 (AccOf itemE 3 66 list)) := by
 obtain ⟨alist, klist, rfl⟩ := hlist.shape
 have hlimlist : list.length ≤ 1099511627776 := hlist.lim
 have H := Hp.init hG
 refine calls_of_W (l := [.slice alist list.length klist]) func87 Z ntmps87 Z (q2 (aG Z (q1 (o_buildSlice H underlying29 sizeOf66 (fun w => ⟨_, zeroValue66 w, Z⟩) Z Z Z Z Z Z Z ?_)))); intro b1 w1 hb1 H
 have H := H.blkAcc 3 (k := 0) (n := 0) rfl rfl (by decide)
 refine aG Z (q3 (W_seq (q2 (aG Z (q3 (W_block ?_))))))
 refine W_lp (hf := (Sub.cons (t := 0) Z (Sub.cons (t := 2) Z Sub.nil))) (J := fun M w m => ∃ (v : Value) (n : Nat) (cs : List Value) (xs : List (BItem)) (k : Nat) (G : PH), M = [(4, .int .i64 (k : Int)), (3, v)] ∧ PLe G0 G ∧ Hp w0 G0 [] w G [acc 66 3 v n cs] ∧ (Chk itemE 3 G cs xs ∧ n = xs.length ∧ k ≤ list.length ∧ xs.length = k ∧ xs = list.take k) ∧ m = (list.length - k)) (h0 := ⟨_, _, _, [], 0, _, Z, PLe.refl _, H, ?inv, Z⟩) (round := ?round)
 case inv => exact ⟨(Chk.nil (E := itemE) (sz := 3) (G := G0)),  by first | rfl | simp | (simp; omega) | omega, (by simp)⟩
 case round =>
  rintro _ w2 _ ⟨v, n, cs, xs, k, G2, rfl, hle2, H, hinv2, rfl⟩
  have hlist := hlist.up hle2
  obtain ⟨hchk2_0, hn2_0, hinv2⟩ := hinv2
  obtain ⟨av2_0, cv2_0, rfl⟩ := H.accShape (k := 0) rfl
  obtain ⟨hk, hxl, hxs⟩ := hinv2
  refine W_seq (q2 (mV Z (mV Z (o_len_slice underlying29 Z Z (o_lss Z Z Z (q3 ?_))))))
  refine W_cond Z ?_ ?_
  ·intro hc3
   try simp only [nrm] at hc3
   refine W_skip (N_K (W_seq (W_block (W_region (mV Z (mV Z (mV Z (o_index_P k hlist underlying29 sizeOf66 Z Z Z Z aN ?_)))))))); intro b4 o4 z4 q4 hz4 hE4 hrow4
   obtain ⟨a4, m4, c4, rfl, hi4, hr4⟩ := hE4; have hy_hi4 : _ ≤ 16777216 := hi4; have hn_hr4 := hr4.len; have hx_hr4 : _ ≤ 1099511627776 := hr4.lim
   refine o_loadagg_P H isAgg66 sizeOf66 Z Z hrow4 Z (o_call call145 Z Z (l5Copy_c _ _ H.sub _ _ ⟨_, _, _, Z, hi4, hr4⟩ ) ?_)
   rintro _ w5 ⟨G5, _, g5, rfl, u5_0, rfl, hr5_0⟩
   have H := H.grow g5
   have hchk2_0 := hchk2_0.up g5.le
   have hle2 := hle2.trans g5.le
   obtain ⟨a6, m6, c6, rfl, hi6, hr6⟩ := hr5_0; have hy_hi6 : _ ≤ 16777216 := hi6; have hn_hr6 := hr6.len; have hx_hr6 : _ ≤ 1099511627776 := hr6.lim
   refine ⟨_, Z, ?_⟩
   refine o_buildSlice H underlying29 sizeOf66 (fun w => ⟨_, zeroValue66 w, Z⟩) Z Z Z Z Z Z Z ?_; intro b7 w7 hb7 H
   refine o_append1 0 H (sz := 3) (bytes := 48) underlying29 typeInfo66 ⟨_, Z, Z⟩ Z Z Z Z Z Z Z Z Z Z oM Z ?_; intro v8 w8 H
   have hchk8 := hchk2_0.snoc (show itemE _ z4 _ from ⟨_, _, _, rfl, hi6, hr6⟩) rfl
   obtain ⟨av8, cv8, rfl⟩ := H.accShape (k := 0) rfl
   refine aG Z (R_nil (N_B (N_K (W_region (mV Z (o_add Z Z Z oO (aG Z (R_nil ?_))))))))
   refine N_lp (hJ := ⟨_, _, _, (xs ++ [z4]), k + 1, _, Z, hle2, H, ?inv, Z⟩) (hm := ?hm)
   case hm => omega
   case inv => exact ⟨hchk8, aN, (by exact ⟨by omega, by simp [hxl], by rw [Sp.take_succ' hz4, hxs]⟩)⟩
  intro hc3'
  try simp only [nrm] at hc3'
  refine W_exit (N_K_exit (N_LP_exit (N_B_same (N_K (q2 (mV Z (aG Z (q3 (W_ret (rt1 results87 Z ?_))))))))))
  obtain rfl : k = list.length := by omega
  rw [List.take_length] at hxs
  subst hxs
  exact H.retO (k := 0) rfl (AccOf.mk (by assumption) hchk2_0) (acc_nd _ _ _ _ _)
end Go.Proofs.Tst

namespace Go.Proofs.Tst
open Go Fw Tryz
end Go.Proofs.Tst

namespace Go.Proofs.Tst
open Go Fw Tryz
end Go.Proofs.Tst

namespace Go.Proofs.Tst
open Go Fw Tryz
end Go.Proofs.Tst

namespace Go.Proofs.Tst
open Go Fw Tryz
end Go.Proofs.Tst

namespace Go.Proofs.Tst
open Go Fw Tryz
end Go.Proofs.Tst

namespace Go.Proofs.Tst
open Go Fw Tryz
end Go.Proofs.Tst

namespace Go.Proofs.Tst
open Go Fw Tryz
end Go.Proofs.Tst

namespace Go.Proofs.Tst
open Go Fw Tryz
end Go.Proofs.Tst

namespace Go.Proofs.Tst
open Go Fw Tryz
theorem l11Count_c (w0 : World) (G0 : PH) (hG : PSub G0 w0) (vlist : Value) (list : List (BItem)) (hlist : RdItems G0 vlist list) (id : Int) (hT : Sp.TreeValid list = true) :
  Calls Tryz.prog 124 #[vlist, .int .i64 id] w0 (Rets w0 (.int .i64 (Sp.l11Count list id : Int))) := by
 obtain ⟨alist, klist, rfl⟩ := hlist.shape
 have hlimlist : list.length ≤ 1099511627776 := hlist.lim
 have htl := Sp.tree_len hT
 have H := Hp.init hG
 refine calls_of_W (l := [.slice alist list.length klist, .int .i64 id]) func124 Z ntmps124 Z (q2 (aG Z (q1 (aG Z (q3 (W_seq (q2 (aG Z (q3 (W_block ?_))))))))))
 refine W_lp (hf := (Sub.cons (t := 0) Z (Sub.cons (t := 1) Z (Sub.cons (t := 4) Z Sub.nil)))) (J := fun M w m => ∃ (c k : Nat) (G : PH), M = [(5, .int .i64 (c : Int)), (6, .int .i64 (k : Int))] ∧ PLe G0 G ∧ Hp w0 G0 [] w G [] ∧ (k ≤ list.length ∧ c = Sp.cntU list id k) ∧ m = (list.length - k)) (h0 := ⟨0, 0, _, Z, PLe.refl _, H, ?inv, Z⟩) (round := ?round)
 case inv => exact ⟨by omega, by simp [Sp.cntU]⟩
 case round =>
  rintro _ w1 _ ⟨c, k, G1, rfl, hle1, H, hinv1, rfl⟩
  have hlist := hlist.up hle1
  obtain ⟨hk, hc⟩ := hinv1; have hcu := Sp.cntU_le hT k hk (id := id)
  refine W_seq (q2 (mV Z (mV Z (o_len_slice underlying29 Z Z (o_lss Z Z Z (q3 ?_))))))
  refine W_cond Z ?_ ?_
  ·intro hc2
   try simp only [nrm] at hc2
   refine W_skip (N_K (W_seq (W_block (q2 (aG Z (q3 (W_block ?_)))))))
   refine W_lp (hf := (Sub.cons (t := 0) Z (Sub.cons (t := 1) Z (Sub.cons (t := 4) Z (Sub.cons (t := 6) Z Sub.nil))))) (J := fun M w m => ∃ (c2 j : Nat) (y : BItem) (G : PH), M = [(5, .int .i64 (c2 : Int)), (7, .int .i64 (j : Int))] ∧ PLe G1 G ∧ Hp w0 G0 [] w G [] ∧ (list[k]? = some y ∧ j ≤ y.ids.length ∧ c2 = Sp.cntU list id k + Sp.cnt1 id (y.ids.take j)) ∧ m = (y.ids.length - j)) (h0 := ⟨c, 0, (list[k]'oM), _, Z, PLe.refl _, H, ?inv, Z⟩) (round := ?round)
   case inv => exact ⟨by simp, by omega, by simp [hc, Sp.cnt1]⟩
   case round =>
    rintro _ w3 _ ⟨c2, j, y, G3, rfl, hle3, H, hinv3, rfl⟩
    have hlist := hlist.up hle3
    have hle1 := hle1.trans hle3
    obtain ⟨hy, hj, hc2⟩ := hinv3; have hc4 := (Sp.tree_at hT hy).2; have hc1 := Sp.cnt1_le id (y.ids.take j); have htk : (y.ids.take j).length ≤ j := by simp; omega
    refine W_seq (q2 (mV Z (mV Z (mV Z (o_index_P k hlist underlying29 sizeOf66 Z Z Z Z aN ?_))))); intro b4 o4 z4 q4 hz4 hE4 hrow4
    obtain ⟨a4, m4, c4, rfl, hi4, hr4⟩ := hE4; have hy_hi4 : _ ≤ 16777216 := hi4; have hn_hr4 := hr4.len; have hx_hr4 : _ ≤ 1099511627776 := hr4.lim
    have hzz4 : y = z4 := Option.some.inj (hy.symm.trans hz4)
    subst hzz4
    refine o_fieldAddr 2 runUnderlying66 Z sizeOf41 Z Z Z (o_load_P H isAgg41 Z Z (hrow4 2 _ Z) (o_len_slice underlying41 Z Z (o_lss Z Z Z (q3 ?_))))
    refine W_cond Z ?_ ?_
    ·intro hc5
     try simp only [nrm] at hc5
     refine W_skip (N_K (W_seq (W_block (q2 (mV Z (mV Z (o_index_P k hlist underlying29 sizeOf66 Z Z Z Z aN ?_))))))); intro b6 o6 z6 q6 hz6 hE6 hrow6
     obtain ⟨a6, m6, c6, rfl, hi6, hr6⟩ := hE6; have hy_hi6 : _ ≤ 16777216 := hi6; have hn_hr6 := hr6.len; have hx_hr6 : _ ≤ 1099511627776 := hr6.lim
     have hzz6 : y = z6 := Option.some.inj (hy.symm.trans hz6)
     subst hzz6
     refine o_fieldAddr 2 runUnderlying66 Z sizeOf41 Z Z Z (o_load_P H isAgg41 Z Z (hrow6 2 _ Z) (mV Z (o_index_P j hr6 underlying41 sizeOf3 Z Z Z Z aN ?_))); intro b7 o7 z7 q7 hz7 hE7 hrow7
     obtain ⟨rfl, hi7⟩ := hE7
     refine o_load_P H isAgg3 Z Z (hrow7 0 _ Z) (mV Z (o_eql Z Z Z (q3 ?_)))
     refine W_cond Z ?_ ?_
     ·intro hc8
      try simp only [nrm] at hc8
      refine W_region (mV Z (o_add Z Z Z oO (aG Z (R_nil (N_B (N_K (W_region (mV Z (o_add Z Z Z oO (aG Z (R_nil ?_)))))))))))
      refine N_lp (hJ := ⟨c2 + 1, j + 1, y, _, Z, hle3, H, ?inv, Z⟩) (hm := ?hm)
      case hm => omega
      case inv => exact ⟨hy, by omega, by rw [Sp.cnt1_succ hz7, if_pos oM, hc2]; omega⟩
     intro hc8'
     try simp only [nrm] at hc8'
     refine W_skip (N_B (N_K (W_region (mV Z (o_add Z Z Z oO (aG Z (R_nil ?_)))))))
     refine N_lp (hJ := ⟨c2, j + 1, y, _, Z, hle3, H, ?inv, Z⟩) (hm := ?hm)
     case hm => omega
     case inv => exact ⟨hy, by omega, by rw [Sp.cnt1_succ hz7, if_neg oM, hc2]; omega⟩
    intro hc5'
    try simp only [nrm] at hc5'
    refine W_exit (N_K_exit (N_LP_exit (N_B_same (N_B (N_K (W_region (mV Z (o_add Z Z Z oO (aG Z (R_nil ?_))))))))))
    refine N_lp (hJ := ⟨c2, k + 1, _, Z, hle1, H, ?inv, Z⟩) (hm := ?hm)
    case hm => omega
    case inv => exact ⟨by omega, by rw [hc2, Sp.cntU_succ hy, List.take_of_length_le oM]⟩
  intro hc2'
  try simp only [nrm] at hc2'
  refine W_exit (N_K_exit (N_LP_exit (N_B_same (N_K (q2 (mV Z (aG Z (q3 (W_ret (rt1 results124 Z ?_))))))))))
  obtain rfl : k = list.length := by omega
  exact H.rets (congrArg (Value.int .i64) (by rw [hc]; rfl))
theorem l11Files_c (w0 : World) (G0 : PH) (hG : PSub G0 w0) (vstore : Value) (store : List (BHeld)) (hstore : RdH G0 vstore store) (vlist : Value) (list : List (BItem)) (hlist : RdItems G0 vlist list)  :
  Calls Tryz.prog 106 #[vstore, vlist] w0 (Rets w0 (.bool (Sp.l11Files store list))) := by
 obtain ⟨astore, kstore, rfl⟩ := hstore.shape
 have hlimstore : store.length ≤ 1099511627776 := hstore.lim
 obtain ⟨alist, klist, rfl⟩ := hlist.shape
 have hlimlist : list.length ≤ 1099511627776 := hlist.lim
 have H := Hp.init hG
 refine calls_of_W (l := [.slice astore store.length kstore, .slice alist list.length klist]) func106 Z ntmps106 Z (q2 (aG Z (q3 (W_seq (q2 (aG Z (q3 (W_block ?_))))))))
 refine W_lp (hf := (Sub.cons (t := 0) Z (Sub.cons (t := 1) Z Sub.nil))) (J := fun M w m => ∃ (k : Nat) (G : PH), M = [(5, .int .i64 (k : Int))] ∧ PLe G0 G ∧ Hp w0 G0 [] w G [] ∧ (k ≤ list.length ∧ (list.take k).all (Sp.fileOk store) = true) ∧ m = (list.length - k)) (h0 := ⟨0, _, Z, PLe.refl _, H, ?inv, Z⟩) (round := ?round)
 case inv => exact ⟨by omega, by simp⟩
 case round =>
  rintro _ w1 _ ⟨k, G1, rfl, hle1, H, hinv1, rfl⟩
  have hstore := hstore.up hle1
  have hlist := hlist.up hle1
  obtain ⟨hk, hall⟩ := hinv1
  refine W_seq (q2 (mV Z (mV Z (o_len_slice underlying29 Z Z (o_lss Z Z Z (q3 ?_))))))
  refine W_cond Z ?_ ?_
  ·intro hc2
   try simp only [nrm] at hc2
   refine W_skip (N_K (W_seq (W_block (q2 (mV Z (mV Z (mV Z (o_index_P k hlist underlying29 sizeOf66 Z Z Z Z aN ?_)))))))); intro b3 o3 z3 q3 hz3 hE3 hrow3
   obtain ⟨a3, m3, c3, rfl, hi3, hr3⟩ := hE3; have hy_hi3 : _ ≤ 16777216 := hi3; have hn_hr3 := hr3.len; have hx_hr3 : _ ≤ 1099511627776 := hr3.lim
   refine o_fieldAddr 2 runUnderlying66 Z sizeOf41 Z Z Z (o_load_P H isAgg41 Z Z (hrow3 2 _ Z) (o_call call157 Z Z (l4Ids_c _ _ H.sub _ _ hstore _ _ hr3 ) ?_))
   rintro _ w4 ⟨rfl, ew4⟩; have H := H.step ew4; refine ⟨_, rfl, ?_⟩
   refine o_not Z Z (q3 ?_)
   refine W_cond Z ?_ ?_
   ·intro hc5
    try simp only [nrm] at hc5
    refine q2 (aG Z (q3 (W_ret (N_B_ret (N_K_ret (N_LP_ret (N_B_ret (N_K_ret (rt1 results106 Z ?_)))))))))
    exact H.rets (congrArg Value.bool (by rw [Sp.l11Files, Sp.all_false hz3 (by simp [Sp.fileOk, *])]))
   intro hc5'
   try simp only [nrm] at hc5'
   refine W_skip (N_B (N_K (W_region (mV Z (o_add Z Z Z oO (aG Z (R_nil ?_)))))))
   refine N_lp (hJ := ⟨k + 1, _, Z, hle1, H, ?inv, Z⟩) (hm := ?hm)
   case hm => omega
   case inv => exact ⟨by omega, Sp.all_take hall hz3 (by simp [Sp.fileOk, *])⟩
  intro hc2'
  try simp only [nrm] at hc2'
  refine W_exit (N_K_exit (N_LP_exit (N_B_same (N_K (q2 (aG Z (q3 (W_ret (rt1 results106 Z ?_)))))))))
  obtain rfl : k = list.length := by omega
  rw [List.take_length] at hall
  exact H.rets (congrArg Value.bool (by rw [Sp.l11Files, hall]))
end Go.Proofs.Tst

namespace Go.Proofs.Tst
open Go Fw Tryz
end Go.Proofs.Tst

namespace Go.Proofs.Tst
open Go Fw Tryz
theorem l12Keep_c (w0 : World) (G0 : PH) (hG : PSub G0 w0) (vstore : Value) (store : List (BHeld)) (hstore : RdH G0 vstore store) (vlist : Value) (list : List (BItem)) (hlist : RdItems G0 vlist list)  :
  Calls Tryz.prog 86 #[vstore, vlist] w0 (RetO w0 G0 (fun G v r => ∃ u, v = .tuple #[u, .bool (Sp.l12Keep store list).isSome] ∧ AccOf heldE 3 131 ((Sp.l12Keep store list).getD []) G u r)) := by
 obtain ⟨astore, kstore, rfl⟩ := hstore.shape
 have hlimstore : store.length ≤ 1099511627776 := hstore.lim
 obtain ⟨alist, klist, rfl⟩ := hlist.shape
 have hlimlist : list.length ≤ 1099511627776 := hlist.lim
 have H := Hp.init hG
 refine calls_of_W (l := [.slice astore store.length kstore, .slice alist list.length klist]) func86 Z ntmps86 Z (q2 (aG Z (aG Z (q1 (mV Z (o_call call109 Z Z (l3Copy_c _ _ H.sub _ _ hstore ) ?_))))))
 rintro _ w1 ⟨G1, v1, _, g1, rfl, ⟨cs1, rfl, hchk1⟩, hp1, hq1, hs1⟩
 have H := H.growO g1 hp1 hq1 hs1; obtain ⟨av1, cv1, rfl⟩ := H.accShape (k := 0) rfl
 have hlist := hlist.up g1.le
 refine ⟨_, Z, ?_⟩
 refine aG Z (q3 (W_seq (q2 (aG Z (q3 (W_block ?_))))))
 refine W_lp (hf := (Sub.cons (t := 1) Z Sub.nil)) (J := fun M w m => ∃ (vo : Value) (no : Nat) (cso : List Value) (xso : List (BHeld)) (k : Nat) (G : PH), M = [(7, .int .i64 (k : Int)), (6, vo)] ∧ PLe G1 G ∧ Hp w0 G0 [] w G [acc 131 3 vo no cso] ∧ (Chk heldE 3 G cso xso ∧ no = xso.length ∧ k ≤ list.length ∧ xso.length = store.length ∧ Sp.foldB Sp.keepT (list.take k) (some store) = some xso) ∧ m = (list.length - k)) (h0 := ⟨_, _, _, store, 0, _, Z, PLe.refl _, H, ?inv, Z⟩) (round := ?round)
 case inv => exact ⟨hchk1,  by first | rfl | simp | (simp; omega) | omega, (by exact ⟨by omega, rfl, by simp [Sp.foldB]⟩)⟩
 case round =>
  rintro _ w2 _ ⟨vo, no, cso, xso, k, G2, rfl, hle2, H, hinv2, rfl⟩
  have hlist := hlist.up hle2
  obtain ⟨hchk2_0, hn2_0, hinv2⟩ := hinv2
  obtain ⟨av2_0, cv2_0, rfl⟩ := H.accShape (k := 0) rfl
  obtain ⟨hk, hxl, hf⟩ := hinv2
  refine W_seq (q2 (mV Z (mV Z (o_len_slice underlying29 Z Z (o_lss Z Z Z (q3 ?_))))))
  refine W_cond Z ?_ ?_
  ·intro hc3
   try simp only [nrm] at hc3
   refine W_skip (N_K (W_seq (W_block (q2 (aG Z (q3 (W_block ?_)))))))
   refine W_lp (hf := (Sub.cons (t := 1) Z (Sub.cons (t := 7) Z Sub.nil))) (J := fun M w m => ∃ (v : Value) (n : Nat) (cs : List Value) (xs : List (BHeld)) (j : Nat) (y : BItem) (G : PH), M = [(8, .int .i64 (j : Int)), (6, v)] ∧ PLe G2 G ∧ Hp w0 G0 [] w G [acc 131 3 v n cs] ∧ (Chk heldE 3 G cs xs ∧ n = xs.length ∧ list[k]? = some y ∧ j ≤ y.ids.length ∧ xs.length = store.length ∧ Sp.foldB Sp.StoreKeep (y.ids.take j) (some xso) = some xs) ∧ m = (y.ids.length - j)) (h0 := ⟨_, _, _, xso, 0, (list[k]'oM), _, Z, PLe.refl _, H, ?inv, Z⟩) (round := ?round)
   case inv => exact ⟨hchk2_0,  by first | rfl | simp | (simp; omega) | omega, (by exact ⟨by simp, by omega, hxl, by simp [Sp.foldB]⟩)⟩
   case round =>
    rintro _ w4 _ ⟨v, n, cs, xs, j, y, G4, rfl, hle4, H, hinv4, rfl⟩
    have hlist := hlist.up hle4
    have hle2 := hle2.trans hle4
    obtain ⟨hchk4_0, hn4_0, hinv4⟩ := hinv4
    obtain ⟨av4_0, cv4_0, rfl⟩ := H.accShape (k := 0) rfl
    obtain ⟨hy, hj, hxl2, hf2⟩ := hinv4
    refine W_seq (q2 (mV Z (mV Z (mV Z (o_index_P k hlist underlying29 sizeOf66 Z Z Z Z aN ?_))))); intro b5 o5 z5 q5 hz5 hE5 hrow5
    obtain ⟨a5, m5, c5, rfl, hi5, hr5⟩ := hE5; have hy_hi5 : _ ≤ 16777216 := hi5; have hn_hr5 := hr5.len; have hx_hr5 : _ ≤ 1099511627776 := hr5.lim
    have hzz5 : y = z5 := Option.some.inj (hy.symm.trans hz5)
    subst hzz5
    refine o_fieldAddr 2 runUnderlying66 Z sizeOf41 Z Z Z (o_load_P H isAgg41 Z Z (hrow5 2 _ Z) (o_len_slice underlying41 Z Z (o_lss Z Z Z (q3 ?_))))
    refine W_cond Z ?_ ?_
    ·intro hc6
     try simp only [nrm] at hc6
     refine W_skip (N_K (W_seq (W_block (q2 (mV Z (mV Z (mV Z (o_index_P k hlist underlying29 sizeOf66 Z Z Z Z aN ?_)))))))); intro b7 o7 z7 q7 hz7 hE7 hrow7
     obtain ⟨a7, m7, c7, rfl, hi7, hr7⟩ := hE7; have hy_hi7 : _ ≤ 16777216 := hi7; have hn_hr7 := hr7.len; have hx_hr7 : _ ≤ 1099511627776 := hr7.lim
     have hzz7 : y = z7 := Option.some.inj (hy.symm.trans hz7)
     subst hzz7
     refine o_fieldAddr 2 runUnderlying66 Z sizeOf41 Z Z Z (o_load_P H isAgg41 Z Z (hrow7 2 _ Z) (mV Z (o_index_P j hr7 underlying41 sizeOf3 Z Z Z Z aN ?_))); intro b8 o8 z8 q8 hz8 hE8 hrow8
     obtain ⟨rfl, hi8⟩ := hE8
     refine o_load_P H isAgg3 Z Z (hrow8 0 _ Z) ?_
     obtain ⟨G10, H, hsg10, hsr10⟩ := H.shut' (k := 0) rfl hchk4_0 aN aN
     have hle4 := hle4.trans hsg10
     refine o_call call144 Z Z (StoreKeep_c _ _ H.sub _ _ hsr10 _ ) ?_
     rintro _ w9 ⟨G9, _, _, g9, rfl, ⟨u9_0, rfl, ⟨cs9, rfl, hchk9⟩⟩, hp9, hq9, hs9⟩
     have H := H.growO g9 hp9 hq9 hs9; obtain ⟨av9, cv9, rfl⟩ := H.accShape (k := 0) rfl
     have hle4 := hle4.trans g9.le
     refine ⟨_, Z, ?_⟩
     refine mV Z (o_extract Z Z Z (o_extract Z Z Z (aG Z (aG Z (q3 (W_seq (q2 (mV Z (o_not Z Z (q3 ?_))))))))))
     refine W_cond Z ?_ ?_
     ·intro hc11
      try simp only [nrm] at hc11
      refine q2 (o_buildSlice H underlying28 sizeOf131 (fun w => ⟨_, zeroValue131 w, Z⟩) Z Z Z Z Z Z Z ?_); intro b12 w12 hb12 H
      have H := H.blkAcc 3 (k := 0) (n := 0) rfl rfl (by decide)
      refine aG Z (aG Z (q3 (W_ret (N_K_ret (N_B_ret (N_K_ret (N_LP_ret (N_B_ret (N_B_ret (N_K_ret (N_LP_ret (N_B_ret (N_K_ret (rt2 results86 Z Z ?_))))))))))))))
      have hN : Sp.l12Keep store list = none := by (have hno : Sp.StoreKeep xs z8 = none := by simpa using hc11); unfold Sp.l12Keep; exact Sp.foldB_stop hf hy (by unfold Sp.keepT; exact Sp.foldB_stop hf2 hz8 hno)
      exact H.retO (k := 0) rfl (by rw [hN]; exact ⟨_, rfl, AccOf.mk aN (Chk.nil (E := heldE) (sz := 3) (G := G9))⟩) (acc_nd _ _ _ _ _)
     intro hc11'
     try simp only [nrm] at hc11'
     obtain ⟨p, hsp⟩ := Option.isSome_iff_exists.1 hc11'
     rw [hsp] at H hchk9 ⊢
     dsimp only [Option.map, Option.getD] at H hchk9
     refine W_skip (N_K (W_region (mV Z (aG Z (R_nil (N_B (N_K (W_region (mV Z (o_add Z Z Z oO (aG Z (R_nil ?_))))))))))))
     refine N_lp (hJ := ⟨_, _, _, p, j + 1, y, _, Z, hle4, H, ?inv, Z⟩) (hm := ?hm)
     case hm => omega
     case inv => exact ⟨hchk9, aN, (by exact ⟨hy, by omega, by rw [Sp.keep_len hsp]; exact hxl2, Sp.foldB_succ hf2 hz8 hsp⟩)⟩
    intro hc6'
    try simp only [nrm] at hc6'
    refine W_exit (N_K_exit (N_LP_exit (N_B_same (N_B (N_K (W_region (mV Z (o_add Z Z Z oO (aG Z (R_nil ?_))))))))))
    refine N_lp (hJ := ⟨_, _, _, xs, k + 1, _, Z, hle2, H, ?inv, Z⟩) (hm := ?hm)
    case hm => omega
    case inv => exact ⟨hchk4_0, aN, (by exact ⟨by omega, hxl2, Sp.foldB_succ hf hy (by unfold Sp.keepT; exact Sp.foldB_all hf2 oM)⟩)⟩
  intro hc3'
  try simp only [nrm] at hc3'
  refine W_exit (N_K_exit (N_LP_exit (N_B_same (N_K (q2 (mV Z (aG Z (aG Z (q3 (W_ret (rt2 results86 Z Z ?_)))))))))))
  have hY : Sp.l12Keep store list = some xso := by unfold Sp.l12Keep; exact Sp.foldB_all hf oM
  exact H.retO (k := 0) rfl (by rw [hY]; exact ⟨_, rfl, AccOf.mk aN hchk2_0⟩) (acc_nd _ _ _ _ _)
end Go.Proofs.Tst

namespace Go.Proofs.Tst
open Go Fw Tryz
theorem l12Count_c (w0 : World) (G0 : PH) (hG : PSub G0 w0) (cd : List Value) (d : BDisk) (hd : diskE G0 d cd) (id : Int) (hT : Sp.TreeValid d.tree = true) (hN : Sp.l12Snaps d = true) :
  Calls Tryz.prog 108 #[.agg cd.toArray, .int .i64 id] w0 (Rets w0 (.int .i64 (Sp.l12Count d id : Int))) := by
 obtain ⟨a1, m1, c1, a1', m1', c1', a1'', m1'', c1'', rfl, hr1, hr1', hr1''⟩ := hd; have hn_hr1 := hr1.len; have hx_hr1 : _ ≤ 1099511627776 := hr1.lim; have hn_hr1q := hr1'.len; have hx_hr1q : _ ≤ 1099511627776 := hr1'.lim; have hn_hr1qq := hr1''.len; have hx_hr1qq : _ ≤ 1099511627776 := hr1''.lim
 obtain ⟨hsl, hst⟩ := Sp.snaps_at hN
 have htc := Sp.l11Count_le hT (id := id)
 have H := Hp.init hG
 refine calls_of_W (l := [_, .int .i64 id]) func108 Z ntmps108 Z (q2 (o_box H Z Z Z ?_)); intro b2 w2 hb2 H
 refine aG Z (q1 (o_fieldAddr 1 runUnderlying32 Z sizeOf29 Z Z Z (o_load_B 0 H isAgg29 Z Z Z Z (mV Z (o_call call124 Z Z (l11Count_c _ _ H.sub _ _ hr1' _ hT) ?_)))))
 rintro _ w3 ⟨rfl, ew3⟩; have H := H.step ew3; refine ⟨_, rfl, ?_⟩
 refine aG Z (q3 (W_seq (q2 (aG Z (q3 (W_block ?_))))))
 obtain ⟨ln4, hln4, H⟩ := H.name (k := 0) rfl
 refine W_lp (hf := (Sub.cons (t := 1) Z (Sub.cons (t := 2) Z (Sub.cons (t := 4) Z Sub.nil)))) (J := fun M w m => ∃ (c k : Nat) (G : PH), M = [(5, .int .i64 (c : Int)), (6, .int .i64 (k : Int))] ∧ PLe G0 G ∧ Hp w0 G0 [] w G [blk b2 (cl ln4 32)] ∧ (k ≤ d.snaps.length ∧ c = Sp.l11Count d.tree id + Sp.cntS d.snaps id k) ∧ m = (d.snaps.length - k)) (h0 := ⟨(Sp.l11Count d.tree id), 0, _, Z, PLe.refl _, H, ?inv, Z⟩) (round := ?round)
 case inv => exact ⟨by omega, by simp [Sp.cntS]⟩
 case round =>
  rintro _ w5 _ ⟨c, k, G5, rfl, hle5, H, hinv5, rfl⟩
  subst hln4
  have hr1'' := hr1''.up hle5
  obtain ⟨hk, hc⟩ := hinv5; have hcu := Sp.cntS_le hst k hk (id := id)
  refine W_seq (q2 (mV Z (o_fieldAddr 2 runUnderlying32 Z sizeOf30 Z Z Z (o_load_B 0 H isAgg30 Z Z Z Z (o_len_slice underlying30 Z Z (o_lss Z Z Z (q3 ?_)))))))
  refine W_cond Z ?_ ?_
  ·intro hc6
   try simp only [nrm] at hc6
   refine W_skip (N_K (W_seq (W_block (W_region (mV Z (o_fieldAddr 2 runUnderlying32 Z sizeOf30 Z Z Z (o_load_B 0 H isAgg30 Z Z Z Z (mV Z (o_index_P k hr1'' underlying30 sizeOf58 Z Z Z Z aN ?_))))))))); intro b7 o7 z7 q7 hz7 hE7 hrow7
   obtain ⟨a7, m7, c7, rfl, hi7, hr7⟩ := hE7; have hy_hi7 : _ ≤ 16777216 := hi7; have hn_hr7 := hr7.len; have hx_hr7 : _ ≤ 1099511627776 := hr7.lim
   have hlz := Sp.l11Count_le (hst _ (List.mem_of_getElem? hz7)) (id := id)
   refine o_fieldAddr 1 runUnderlying58 Z sizeOf29 Z Z Z (o_load_P H isAgg29 Z Z (hrow7 1 _ Z) (mV Z ?_))
   refine o_call call124 Z Z (l11Count_c _ _ H.sub _ _ hr7 _ (hst _ (List.mem_of_getElem? hz7))) ?_
   rintro _ w8 ⟨rfl, ew8⟩; have H := H.step ew8; refine ⟨_, rfl, ?_⟩
   refine o_add Z Z Z oO (aG Z (R_nil (N_B (N_K (W_region (mV Z (o_add Z Z Z oO (aG Z (R_nil ?_)))))))))
   refine N_lp (hJ := ⟨c + Sp.l11Count z7.tree id, k + 1, _, Z, hle5, H, ?inv, Z⟩) (hm := ?hm)
   case hm => omega
   case inv => exact ⟨by omega, by rw [hc, Sp.cntS_succ hz7]; omega⟩
  intro hc6'
  try simp only [nrm] at hc6'
  refine W_exit (N_K_exit (N_LP_exit (N_B_same (N_K (q2 (mV Z (aG Z (q3 (W_ret (rt1 results108 Z ?_))))))))))
  obtain rfl : k = d.snaps.length := by omega
  exact H.rets (congrArg (Value.int .i64) (by rw [hc]; rfl))
end Go.Proofs.Tst

namespace Go.Proofs.Tst
open Go Fw Tryz
theorem l12Snaps_c (w0 : World) (G0 : PH) (hG : PSub G0 w0) (cd : List Value) (d : BDisk) (hd : diskE G0 d cd)  :
  Calls Tryz.prog 107 #[.agg cd.toArray] w0 (Rets w0 (.bool (Sp.l12Snaps d))) := by
 obtain ⟨a1, m1, c1, a1', m1', c1', a1'', m1'', c1'', rfl, hr1, hr1', hr1''⟩ := hd; have hn_hr1 := hr1.len; have hx_hr1 : _ ≤ 1099511627776 := hr1.lim; have hn_hr1q := hr1'.len; have hx_hr1q : _ ≤ 1099511627776 := hr1'.lim; have hn_hr1qq := hr1''.len; have hx_hr1qq : _ ≤ 1099511627776 := hr1''.lim
 have H := Hp.init hG
 refine calls_of_W (l := [_]) func107 Z ntmps107 Z (q2 (o_box H Z Z Z ?_)); intro b2 w2 hb2 H
 refine aG Z (q3 (W_seq (q2 (aG Z (q3 (W_block ?_))))))
 obtain ⟨ln3, hln3, H⟩ := H.name (k := 0) rfl
 refine W_lp (hf := (Sub.cons (t := 1) Z Sub.nil)) (J := fun M w m => ∃ (k : Nat) (G : PH), M = [(3, .int .i64 (k : Int))] ∧ PLe G0 G ∧ Hp w0 G0 [] w G [blk b2 (cl ln3 32)] ∧ (k ≤ d.snaps.length ∧ ∀ j, j < k → Sp.okS d j = true) ∧ m = (d.snaps.length - k)) (h0 := ⟨0, _, Z, PLe.refl _, H, ?inv, Z⟩) (round := ?round)
 case inv => exact ⟨by omega, fun j hj => by omega⟩
 case round =>
  rintro _ w4 _ ⟨k, G4, rfl, hle4, H, hinv4, rfl⟩
  subst hln3
  have hr1 := hr1.up hle4
  have hr1'' := hr1''.up hle4
  obtain ⟨hk, hall⟩ := hinv4
  refine W_seq (q2 (mV Z (o_fieldAddr 2 runUnderlying32 Z sizeOf30 Z Z Z (o_load_B 0 H isAgg30 Z Z Z Z (o_len_slice underlying30 Z Z (o_lss Z Z Z (q3 ?_)))))))
  refine W_cond Z ?_ ?_
  ·intro hc5
   try simp only [nrm] at hc5
   refine W_skip (N_K (W_seq (W_block (q2 (o_fieldAddr 2 runUnderlying32 Z sizeOf30 Z Z Z (o_load_B 0 H isAgg30 Z Z Z Z (mV Z (o_index_P k hr1'' underlying30 sizeOf58 Z Z Z Z aN ?_)))))))); intro b6 o6 z6 q6 hz6 hE6 hrow6
   obtain ⟨a6, m6, c6, rfl, hi6, hr6⟩ := hE6; have hy_hi6 : _ ≤ 16777216 := hi6; have hn_hr6 := hr6.len; have hx_hr6 : _ ≤ 1099511627776 := hr6.lim
   refine o_loadagg_P H isAgg58 sizeOf58 Z Z hrow6 Z (o_alloc H zeroValue58 Z Z ?_); intro b7 w7 hb7 H
   refine o_store_B 0 H sizeOf58 Z Z Z Z Z Z Z Z ?_; intro w8 H
   refine q1 (o_fieldAddr 0 runUnderlying58 Z sizeOf9 Z Z Z (o_load_B 0 H isAgg9 Z Z Z Z (o_call call85 Z Z (l1Word_c _ _ hi6 ) ?_)))
   rintro _ w9 ⟨rfl, ew9⟩; have H := H.step ew9; refine ⟨_, rfl, ?_⟩
   refine o_not Z Z (mV Z ?_)
   refine R_case (t := 21) Z ?_ ?_
   ·intro hc10
    try simp only [nrm] at hc10
    refine rP Z (rP Z (rP Z (rP Z (rP Z (rP Z (rP Z (o_pick_t Z Z Z (mV Z (rP Z (rP Z (rP Z (rP Z (o_pick_t Z Z Z (mV Z (rP Z ?_)))))))))))))))
    refine rP Z (rP Z (rP Z (rP Z (rP Z (o_pick_t Z Z Z (q3 (W_true Z (q2 (aG Z (q3 (W_ret (N_B_ret (N_K_ret (N_LP_ret (N_B_ret ?_)))))))))))))))
    refine N_K_ret (rt1 results107 Z ?_)
    exact H.rets (congrArg Value.bool (by rw [Sp.l12Snaps, Sp.not_all_range (k := k) oM (by rw [Sp.okS_at hz6]; simp [*] <;> (intros; omega))]; rfl))
   intro hc10'
   try simp only [nrm] at hc10'
   refine gR Z (o_fieldAddr 2 runUnderlying32 Z sizeOf30 Z Z Z (gR Z (o_load_B 1 H isAgg30 Z Z Z Z (gR Z (o_fieldAddr 0 runUnderlying58 Z sizeOf9 Z Z Z (gR Z (o_load_B 0 H isAgg9 Z Z Z Z (gR Z (o_call call52 Z Z (l12At_c _ _ H.sub _ _ hr1'' _ hi6 ) ?_)))))))))
   rintro _ w11 ⟨rfl, ew11⟩; have H := H.step ew11; refine ⟨_, rfl, ?_⟩
   refine gR Z (mV Z (gR Z (o_lss Z Z Z (o_pick_f Z Z Z (mV Z ?_)))))
   refine R_case (t := 30) Z ?_ ?_
   ·intro hc12
    try simp only [nrm] at hc12
    refine rP Z (rP Z (rP Z (rP Z (o_pick_t Z Z Z (mV Z (rP Z (rP Z (rP Z (rP Z (rP Z (rP Z (o_pick_t Z Z Z (q3 (W_true Z (q2 ?_)))))))))))))))
    refine aG Z (q3 (W_ret (N_B_ret (N_K_ret (N_LP_ret (N_B_ret (N_K_ret (rt1 results107 Z ?_))))))))
    exact H.rets (congrArg Value.bool (by rw [Sp.l12Snaps, Sp.not_all_range (k := k) oM (by rw [Sp.okS_at hz6]; simp [*] <;> (intros; omega))]; rfl))
   intro hc12'
   try simp only [nrm] at hc12'
   refine gR Z (o_fieldAddr 1 runUnderlying58 Z sizeOf29 Z Z Z (gR Z (o_load_B 0 H isAgg29 Z Z Z Z (gR Z (o_call call105 Z Z (TreeValid_c _ _ H.sub _ _ hr6 ) ?_)))))
   rintro _ w13 ⟨rfl, ew13⟩; have H := H.step ew13; refine ⟨_, rfl, ?_⟩
   refine gR Z (o_not Z Z (o_pick_f Z Z Z (mV Z ?_)))
   refine R_case (t := 36) Z ?_ ?_
   ·intro hc14
    try simp only [nrm] at hc14
    refine rP Z (rP Z (rP Z (rP Z (rP Z (rP Z (o_pick_t Z Z Z (q3 (W_true Z (q2 (aG Z (q3 (W_ret (N_B_ret (N_K_ret (N_LP_ret ?_)))))))))))))))
    refine N_B_ret (N_K_ret (rt1 results107 Z ?_))
    exact H.rets (congrArg Value.bool (by rw [Sp.l12Snaps, Sp.not_all_range (k := k) oM (by rw [Sp.okS_at hz6]; simp [*] <;> (intros; omega))]; rfl))
   intro hc14'
   try simp only [nrm] at hc14'
   refine gR Z (o_fieldAddr 0 runUnderlying32 Z sizeOf28 Z Z Z (gR Z (o_load_B 1 H isAgg28 Z Z Z Z (gR Z (o_fieldAddr 1 runUnderlying58 Z sizeOf29 Z Z Z (gR Z (o_load_B 0 H isAgg29 Z Z Z Z (gR Z (o_call call106 Z Z (l11Files_c _ _ H.sub _ _ hr1 _ _ hr6 ) ?_)))))))))
   rintro _ w15 ⟨rfl, ew15⟩; have H := H.step ew15; refine ⟨_, rfl, ?_⟩
   refine gR Z (o_not Z Z (o_pick_f Z Z Z (q3 ?_)))
   refine W_cond Z ?_ ?_
   ·intro hc16
    try simp only [nrm] at hc16
    refine q2 (aG Z (q3 (W_ret (N_B_ret (N_K_ret (N_LP_ret (N_B_ret (N_K_ret (rt1 results107 Z ?_)))))))))
    exact H.rets (congrArg Value.bool (by rw [Sp.l12Snaps, Sp.not_all_range (k := k) oM (by rw [Sp.okS_at hz6]; simp [*] <;> (intros; omega))]; rfl))
   intro hc16'
   try simp only [nrm] at hc16'
   refine W_skip (N_B (N_K (W_region (mV Z (o_add Z Z Z oO (aG Z (R_nil ?_)))))))
   have H := H.del (k := 0) rfl
   refine N_lp (hJ := ⟨k + 1, _, Z, hle4, H, ?inv, Z⟩) (hm := ?hm)
   case hm => omega
   case inv => exact ⟨by omega, Sp.upto_succ hall (by rw [Sp.okS_at hz6]; simp [*])⟩
  intro hc5'
  try simp only [nrm] at hc5'
  refine W_exit (N_K_exit (N_LP_exit (N_B_same (N_K (q2 (o_fieldAddr 2 runUnderlying32 Z sizeOf30 Z Z Z (o_load_B 0 H isAgg30 Z Z Z Z (o_len_slice underlying30 Z Z (o_leq Z Z Z (aG Z (q3 (W_ret (rt1 results107 Z ?_)))))))))))))
  exact H.rets (congrArg Value.bool (by rw [Sp.l12Snaps, Sp.all_range (fun j hj => hall j oM), Bool.true_and]; rw [Bool.eq_iff_iff]; simp; omega))
end Go.Proofs.Tst

namespace Go.Proofs.Tst
open Go Fw Tryz
theorem DiskValid_c (w0 : World) (G0 : PH) (hG : PSub G0 w0) (cd : List Value) (d : BDisk) (hd : diskE G0 d cd)  :
  Calls Tryz.prog 53 #[.agg cd.toArray] w0 (Rets w0 (.bool (Sp.DiskValid d))) := by
 obtain ⟨a1, m1, c1, a1', m1', c1', a1'', m1'', c1'', rfl, hr1, hr1', hr1''⟩ := hd; have hn_hr1 := hr1.len; have hx_hr1 : _ ≤ 1099511627776 := hr1.lim; have hn_hr1q := hr1'.len; have hx_hr1q : _ ≤ 1099511627776 := hr1'.lim; have hn_hr1qq := hr1''.len; have hx_hr1qq : _ ≤ 1099511627776 := hr1''.lim
 have H := Hp.init hG
 refine calls_of_W (l := [_]) func53 Z ntmps53 Z (q2 (o_box H Z Z Z ?_)); intro b2 w2 hb2 H
 refine aG Z (q3 (W_seq (q2 (o_fieldAddr 0 runUnderlying32 Z sizeOf28 Z Z Z (o_load_B 0 H isAgg28 Z Z Z Z (o_call call104 Z Z (StoreValid_c _ _ H.sub _ _ hr1 ) ?_))))))
 rintro _ w3 ⟨rfl, ew3⟩; have H := H.step ew3; refine ⟨_, rfl, ?_⟩
 refine o_not Z Z (mV Z ?_)
 refine R_case (t := 8) Z ?_ ?_
 ·intro hc4
  try simp only [nrm] at hc4
  refine rP Z (rP Z (rP Z (rP Z (o_pick_t Z Z Z (mV Z (rP Z (rP Z (rP Z (rP Z (rP Z (rP Z (o_pick_t Z Z Z (mV Z (rP Z (rP Z ?_)))))))))))))))
  refine rP Z (o_pick_t Z Z Z (q3 (W_true Z (q2 (aG Z (q3 (W_ret (N_K_ret (rt1 results53 Z ?_)))))))))
  exact H.rets (congrArg Value.bool (by simp [Sp.DiskValid, hc4]))
 intro hc4'
 try simp only [nrm] at hc4'
 refine gR Z (o_fieldAddr 1 runUnderlying32 Z sizeOf29 Z Z Z (gR Z (o_load_B 0 H isAgg29 Z Z Z Z (gR Z (o_call call105 Z Z (TreeValid_c _ _ H.sub _ _ hr1' ) ?_)))))
 rintro _ w5 ⟨rfl, ew5⟩; have H := H.step ew5; refine ⟨_, rfl, ?_⟩
 refine gR Z (o_not Z Z (o_pick_f Z Z Z (mV Z ?_)))
 refine R_case (t := 14) Z ?_ ?_
 ·intro hc6
  try simp only [nrm] at hc6
  refine rP Z (rP Z (rP Z (rP Z (rP Z (rP Z (o_pick_t Z Z Z (mV Z (rP Z (rP Z (rP Z (o_pick_t Z Z Z (q3 (W_true Z (q2 (aG Z ?_)))))))))))))))
  refine q3 (W_ret (N_K_ret (rt1 results53 Z ?_)))
  exact H.rets (congrArg Value.bool (by simp [Sp.DiskValid, hc6]))
 intro hc6'
 try simp only [nrm] at hc6'
 refine gR Z (o_fieldAddr 0 runUnderlying32 Z sizeOf28 Z Z Z (gR Z (o_load_B 0 H isAgg28 Z Z Z Z (gR Z (o_fieldAddr 1 runUnderlying32 Z sizeOf29 Z Z Z (gR Z (o_load_B 0 H isAgg29 Z Z Z Z (gR Z (o_call call106 Z Z (l11Files_c _ _ H.sub _ _ hr1 _ _ hr1' ) ?_)))))))))
 rintro _ w7 ⟨rfl, ew7⟩; have H := H.step ew7; refine ⟨_, rfl, ?_⟩
 refine gR Z (o_not Z Z (o_pick_f Z Z Z (mV Z ?_)))
 refine R_case (t := 22) Z ?_ ?_
 ·intro hc8
  try simp only [nrm] at hc8
  refine rP Z (rP Z (rP Z (o_pick_t Z Z Z (q3 (W_true Z (q2 (aG Z (q3 (W_ret (N_K_ret (rt1 results53 Z ?_)))))))))))
  exact H.rets (congrArg Value.bool (by simp [Sp.DiskValid, hc8]))
 intro hc8'
 try simp only [nrm] at hc8'
 refine gR Z (o_loadagg_B 0 H isAgg32 sizeOf32 Z Z Z Z Z (gR Z (o_call call107 Z Z (l12Snaps_c _ _ H.sub _ d ⟨_, _, _, _, _, _, _, _, _, Z, hr1, hr1', hr1''⟩ ) ?_)))
 rintro _ w9 ⟨rfl, ew9⟩; have H := H.step ew9; refine ⟨_, rfl, ?_⟩
 refine gR Z (o_not Z Z (o_pick_f Z Z Z (q3 ?_)))
 refine W_cond Z ?_ ?_
 ·intro hc10
  try simp only [nrm] at hc10
  refine q2 (aG Z (q3 (W_ret (N_K_ret (rt1 results53 Z ?_)))))
  exact H.rets (congrArg Value.bool (by simp [Sp.DiskValid, hc10]))
 intro hc10'
 try simp only [nrm] at hc10'
 refine W_skip (N_K (W_seq (q2 (aG Z (q3 (W_block ?_))))))
 obtain ⟨ln11, hln11, H⟩ := H.name (k := 0) rfl
 refine W_lp (hf := (Sub.cons (t := 1) Z Sub.nil)) (J := fun M w m => ∃ (k : Nat) (G : PH), M = [(3, .int .i64 (k : Int))] ∧ PLe G0 G ∧ Hp w0 G0 [] w G [blk b2 (cl ln11 32)] ∧ (k ≤ d.store.length ∧ (d.store.take k).all (Sp.usesD d) = true) ∧ m = (d.store.length - k)) (h0 := ⟨0, _, Z, PLe.refl _, H, ?inv, Z⟩) (round := ?round)
 case inv => exact ⟨by omega, by simp⟩
 case round =>
  rintro _ w12 _ ⟨k, G12, rfl, hle12, H, hinv12, rfl⟩
  subst hln11
  have hr1 := hr1.up hle12
  have hr1' := hr1'.up hle12
  have hr1'' := hr1''.up hle12
  obtain ⟨hk, hall⟩ := hinv12
  refine W_seq (q2 (mV Z (o_fieldAddr 0 runUnderlying32 Z sizeOf28 Z Z Z (o_load_B 0 H isAgg28 Z Z Z Z (o_len_slice underlying28 Z Z (o_lss Z Z Z (q3 ?_)))))))
  refine W_cond Z ?_ ?_
  ·intro hc13
   try simp only [nrm] at hc13
   refine W_skip (N_K (W_seq (W_block (W_seq (W_drawK [0] 15 H kR Z ?_))))); intro w14 H; have hd14 := PLe.refl G12
   refine RD_t 0 Z kR Z (fun _ hK => v_loadagg_B 0 hK isAgg32 sizeOf32 Z Z Z Z) (RD_t 1 Z kR Z (fun _ hK => v_fieldAddr 0 runUnderlying32 Z sizeOf28 Z Z) (RD_t 2 Z kR Z (fun _ hK => v_load_B 0 hK isAgg28 Z Z Z) (vM 3 Z Z ?_)))
   have hl15 := hr1.len
   obtain ⟨b15, o15, z15, q15, ha15, hz15, hq15, hE15, hrow15, _⟩ := hr1.at (i := k) oM
   clear hq15
   obtain ⟨a15, m15, c15, rfl, hi15, hr15, hj15⟩ := hE15; have hn_hr15 := hr15.len; have hx_hr15 : _ ≤ 1099511627776 := hr15.lim
   refine RD_t 4 Z kR Z (fun _ hK => v_index_P (i := k) ha15 underlying28 sizeOf131 Z Z Z oM) (RD_t 5 Z kR Z (fun _ hK => v_fieldAddr 0 runUnderlying131 Z sizeOf3 Z Z) (RD_t 6 Z kR Z (fun _ hK => v_load_P hK isAgg3 Z (hrow15 0 _ Z)) (RD_t 8 Z kR Z (fun _ hK => v_fieldAddr 0 runUnderlying32 Z sizeOf28 Z Z) (RD_t 9 Z kR Z (fun _ hK => v_load_B 0 hK isAgg28 Z Z Z) (vM 10 Z Z ?_)))))
   have hl16 := hr1.len
   obtain ⟨b16, o16, z16, q16, ha16, hz16, hq16, hE16, hrow16, _⟩ := hr1.at (i := k) oM
   clear hq16
   obtain ⟨a16, m16, c16, rfl, hi16, hr16, hj16⟩ := hE16; have hn_hr16 := hr16.len; have hx_hr16 : _ ≤ 1099511627776 := hr16.lim
   have hzz16 : z15 = z16 := Option.some.inj (hz15.symm.trans hz16)
   subst hzz16
   refine RD_t 11 Z kR Z (fun _ hK => v_index_P (i := k) ha16 underlying28 sizeOf131 Z Z Z oM) (RD_t 12 Z kR Z (fun _ hK => v_fieldAddr 2 runUnderlying131 Z sizeOf3 Z Z) (RD_t 13 Z kR Z (fun _ hK => v_load_P hK isAgg3 Z (hrow16 2 _ Z)) ?_))
   refine RD_run [7] kR Z (RDs.cons Z ?_ RDs.nil)
   refine o_call call108 Z Z (l12Count_c _ _ H.sub _ d ⟨_, _, _, _, _, _, _, _, _, Z, hr1, hr1', hr1''⟩ _ hc6' hc10') ?_
   rintro _ w17 ⟨rfl, ew17⟩; have H := H.step ew17; refine ⟨_, rfl, ?_⟩
   refine R_nil (N_DK (Kn.of' H hd14 (SubL.cons 0 Z SubL.nil)) (RD_t 14 Z kR Z (fun _ hK => v_neq Z Z) (RD_done kR (N_K ?_))))
   refine W_cond Z ?_ ?_
   ·intro hc18
    try simp only [nrm] at hc18
    refine q2 (aG Z (q3 (W_ret (N_B_ret (N_K_ret (N_LP_ret (N_B_ret (N_K_ret (rt1 results53 Z ?_)))))))))
    exact H.rets (congrArg Value.bool (by rw [Sp.DiskValid, Sp.all_false hz15 (by simp [Sp.usesD, *])]; rfl))
   intro hc18'
   try simp only [nrm] at hc18'
   refine W_skip (N_B (N_K (W_region (mV Z (o_add Z Z Z oO (aG Z (R_nil ?_)))))))
   refine N_lp (hJ := ⟨k + 1, _, Z, hle12, H, ?inv, Z⟩) (hm := ?hm)
   case hm => omega
   case inv => exact ⟨by omega, Sp.all_take hall hz15 (by simp [Sp.usesD, *])⟩
  intro hc13'
  try simp only [nrm] at hc13'
  refine W_exit (N_K_exit (N_LP_exit (N_B_same (N_K (q2 (aG Z (q3 (W_ret (rt1 results53 Z ?_)))))))))
  obtain rfl : k = d.store.length := by omega
  rw [List.take_length] at hall
  exact H.rets (congrArg Value.bool (by simp [Sp.DiskValid, hall, hc4', hc6', hc8', hc10']))
end Go.Proofs.Tst

namespace Sp
open Fw Nd
end Sp
namespace Sp
open Fw Nd
end Sp
namespace Sp
open Fw
end Sp
namespace Fw
open Go
section
variable {P : Program} {n : Nat} {Q : Post} {L : Slots} {ds : List Deferred} {w : World}
def JP (n : Nat) (ds : List Deferred) (Lf : Slots) (J : Slots → World → Prop) : Post := fun e a w => e = .normal ∧ ∃ M, FrL n (M ++ Lf) ds a ∧ J M w
theorem W_join {x y : Code} (Lf : Slots) (J : Slots → World → Prop) (hf : Sub Lf L) (first : W P n (JP n ds Lf J) x L ds w) (second : ∀ M w, J M w → W P n Q y (M ++ Lf) ds w) : W P n Q (.seq x y) L ds w :=
 W_seq (fun a ha => wp_mono (first a ha) (fun e a' w' hq => by
  obtain ⟨he, M, hF, hJ⟩ := hq
  subst he
  exact second M w' hJ a' hF))
theorem N_J {Lf : Slots} {J : Slots → World → Prop} {M : Slots} (hJ : J M w) (hM : Sub M L := by (repeat (first | exact Sub.nil | refine Sub.cons rfl ?_))) (hf : Sub Lf L := by (repeat (first | exact Sub.nil | refine Sub.cons rfl ?_))) : N n (JP n ds Lf J) .normal L ds w :=
 fun _ ha => ⟨rfl, M, ha.sub (hM.app hf), hJ⟩
end
end Fw
namespace Go.Proofs.Tst
open Go Fw Tryz
theorem l12Copy_c (w0 : World) (G0 : PH) (hG : PSub G0 w0) (cd : List Value) (d : BDisk) (hd : diskE G0 d cd)  :
  Calls Tryz.prog 54 #[.agg cd.toArray] w0 (RetO w0 G0 (fun G val r => ∃ u u1 u2, val = .agg #[u, u1, u2] ∧ AccOf snapE 2 58 d.snaps G u2 r ∧ RdH G u d.store ∧ RdItems G u1 d.tree)) := by
 obtain ⟨a1, m1, c1, a1', m1', c1', a1'', m1'', c1'', rfl, hr1, hr1', hr1''⟩ := hd; have hn_hr1 := hr1.len; have hx_hr1 : _ ≤ 1099511627776 := hr1.lim; have hn_hr1q := hr1'.len; have hx_hr1q : _ ≤ 1099511627776 := hr1'.lim; have hn_hr1qq := hr1''.len; have hx_hr1qq : _ ≤ 1099511627776 := hr1''.lim
 have H := Hp.init hG
 refine calls_of_W (l := [_]) func54 Z ntmps54 Z (q2 (o_box H Z Z Z ?_)); intro b2 w2 hb2 H
 refine o_alloc H zeroValue32 Z Z ?_; intro b3 w3 hb3 H
 refine q3 ?_
 obtain ⟨ljb3, hljb3, H⟩ := H.name (k := 0) rfl
 obtain ⟨ljb2, hljb2, H⟩ := H.name (k := 1) rfl
 have hj4 := PLe.refl G0
 refine W_join (hf := (Sub.cons (t := 1) Z (Sub.cons (t := 2) Z Sub.nil))) (J := fun M w => ∃ (jb : Nat) (ja jc : Option Addr) (jm jk jn jl : Nat) (ve : Value) (ce : List Value) (ne : Nat) (G : PH), M = [(3, .pointer (some ⟨jb, 0, none⟩))] ∧ PLe G0 G ∧ Hp w0 G0 [] w G [acc 58 2 ve ne ce, blk jb (cl [.slice ja jm jk, .slice jc jn jl, ve] 32), blk b3 (cl ljb3 32), blk b2 (cl ljb2 32)] ∧ (RdH G (.slice ja jm jk) d.store ∧ RdItems G (.slice jc jn jl) d.tree ∧ Chk snapE 2 G ce ([] : List BSnap) ∧ ne = 0)) (first := ?_) (second := ?_)
 ·skip
  subst hljb3
  subst hljb2
  refine W_drawK [0, 1] 10 H kR Z ?_; intro w5 H; have hd5 := PLe.refl G0
  refine RD_t 0 Z kR Z (fun _ hK => v_fieldAddr 0 runUnderlying32 Z sizeOf28 Z Z) (RD_t 1 Z kR Z (fun _ hK => v_load_B 1 hK isAgg28 Z Z Z) (RD_t 3 Z kR Z (fun _ hK => v_fieldAddr 1 runUnderlying32 Z sizeOf29 Z Z) (RD_t 4 Z kR Z (fun _ hK => v_load_B 1 hK isAgg29 Z Z Z) ?_)))
  refine RD_run [2, 6, 8] kR Z (RDs.cons Z ?_ (RDs.cons Z ?_ (RDs.cons Z ?_ RDs.nil)))
  ·skip
   refine o_call call109 Z Z (l3Copy_c _ _ H.sub _ _ hr1 ) ?_
   rintro _ w6 ⟨G6, v6, _, g6, rfl, ⟨cs6, rfl, hchk6⟩, hp6, hq6, hs6⟩
   have H := H.growO g6 hp6 hq6 hs6; obtain ⟨av6, cv6, rfl⟩ := H.accShape (k := 0) rfl
   have hr1' := hr1'.up g6.le
   have hj4 := hj4.trans g6.le
   have hd5 := hd5.trans g6.le
   refine ⟨_, Z, ?_⟩
   refine R_nil (N_DK (Kn.of' H hd5 (SubL.cons 1 Z (SubL.cons 2 Z SubL.nil))) ?_)
   refine RD_run [5, 6, 8] kR Z (RDs.cons Z ?_ (RDs.cons Z ?_ (RDs.cons Z ?_ RDs.nil)))
   ·skip
    refine o_call call87 Z Z (l5All_c _ _ H.sub _ _ hr1' ) ?_
    rintro _ w7 ⟨G7, v7, _, g7, rfl, ⟨cs7, rfl, hchk7⟩, hp7, hq7, hs7⟩
    have H := H.growO g7 hp7 hq7 hs7; obtain ⟨av7, cv7, rfl⟩ := H.accShape (k := 0) rfl
    have hchk6 := hchk6.up g7.le
    have hj4 := hj4.trans g7.le
    have hd5 := hd5.trans g7.le
    refine ⟨_, Z, ?_⟩
    refine R_nil (N_DK (Kn.of' H hd5 (SubL.cons 2 Z (SubL.cons 3 Z SubL.nil))) ?_)
    refine RD_run [6, 8] kR Z (RDs.cons Z ?_ (RDs.cons Z ?_ RDs.nil))
    ·skip
     refine o_buildSlice H underlying30 sizeOf58 (fun w => ⟨_, zeroValue58 w, Z⟩) Z Z Z Z Z Z Z ?_; intro b8 w8 hb8 H
     have H := H.blkAcc 2 (k := 0) (n := 0) rfl rfl (by decide)
     refine R_nil (N_DK (Kn.of' H hd5 (SubL.cons 3 Z (SubL.cons 4 Z SubL.nil))) (RD_t 7 Z kR Z (fun _ hK => v_build bf32 Z Z) ?_))
     refine RD_run [8] kR Z (RDs.cons Z ?_ RDs.nil)
     refine o_alloc H zeroValue32 Z Z ?_; intro b9 w9 hb9 H
     refine R_nil (N_DK (Kn.of' H hd5 (SubL.cons 4 Z (SubL.cons 5 Z SubL.nil))) ?_)
     refine RD_run [9] kR Z (RDs.cons Z ?_ RDs.nil)
     refine o_store_B 0 H sizeOf32 Z Z Z Z Z Z Z Z ?_; intro w10 H
     refine R_nil (N_DKlast kR kR ?_)
     obtain ⟨G512, H, hsg512, hsr512⟩ := H.shut' (k := 3) rfl hchk6 aN aN
     have hchk7 := hchk7.up hsg512
     have hj4 := hj4.trans hsg512
     obtain ⟨G513, H, hsg513, hsr513⟩ := H.shut' (k := 2) rfl hchk7 aN aN
     have hsr512 := hsr512.up hsg513
     have hj4 := hj4.trans hsg513
     have H := H.toFront (k := 3) rfl
     have H := H.toFront (k := 3) rfl
     have H := H.toFront (k := 2) rfl
     have H := H.toFront (k := 3) rfl
     exact N_J ⟨_, _, _, _, _, _, _, _, _, _, _, Z, hj4, H, ⟨hsr512, hsr513, (Chk.nil (E := snapE) (sz := 2) (G := G513)), Z⟩⟩
    skip
    refine o_alloc H zeroValue32 Z Z ?_; intro b11 w11 hb11 H
    refine R_nil (N_DK (Kn.of' H hd5 (SubL.cons 3 Z (SubL.cons 4 Z SubL.nil))) ?_)
    refine RD_run [6] kR Z (RDs.cons Z ?_ RDs.nil)
    refine o_buildSlice H underlying30 sizeOf58 (fun w => ⟨_, zeroValue58 w, Z⟩) Z Z Z Z Z Z Z ?_; intro b12 w12 hb12 H
    have H := H.blkAcc 2 (k := 0) (n := 0) rfl rfl (by decide)
    refine R_nil (N_DK (Kn.of' H hd5 (SubL.cons 4 Z (SubL.cons 5 Z SubL.nil))) (RD_t 7 Z kR Z (fun _ hK => v_build bf32 Z Z) ?_))
    refine RD_run [9] kR Z (RDs.cons Z ?_ RDs.nil)
    refine o_store_B 1 H sizeOf32 Z Z Z Z Z Z Z Z ?_; intro w13 H
    refine R_nil (N_DKlast kR kR ?_)
    obtain ⟨G517, H, hsg517, hsr517⟩ := H.shut' (k := 3) rfl hchk6 aN aN
    have hchk7 := hchk7.up hsg517
    have hj4 := hj4.trans hsg517
    obtain ⟨G518, H, hsg518, hsr518⟩ := H.shut' (k := 2) rfl hchk7 aN aN
    have hsr517 := hsr517.up hsg518
    have hj4 := hj4.trans hsg518
    have H := H.toFront (k := 3) rfl
    have H := H.toFront (k := 3) rfl
    have H := H.toFront (k := 3) rfl
    have H := H.toFront (k := 3) rfl
    exact N_J ⟨_, _, _, _, _, _, _, _, _, _, _, Z, hj4, H, ⟨hsr517, hsr518, (Chk.nil (E := snapE) (sz := 2) (G := G518)), Z⟩⟩
   ·skip
    refine o_buildSlice H underlying30 sizeOf58 (fun w => ⟨_, zeroValue58 w, Z⟩) Z Z Z Z Z Z Z ?_; intro b14 w14 hb14 H
    have H := H.blkAcc 2 (k := 0) (n := 0) rfl rfl (by decide)
    refine R_nil (N_DK (Kn.of' H hd5 (SubL.cons 2 Z (SubL.cons 3 Z SubL.nil))) ?_)
    refine RD_run [5, 8] kR Z (RDs.cons Z ?_ (RDs.cons Z ?_ RDs.nil))
    ·skip
     refine o_call call87 Z Z (l5All_c _ _ H.sub _ _ hr1' ) ?_
     rintro _ w15 ⟨G15, v15, _, g15, rfl, ⟨cs15, rfl, hchk15⟩, hp15, hq15, hs15⟩
     have H := H.growO g15 hp15 hq15 hs15; obtain ⟨av15, cv15, rfl⟩ := H.accShape (k := 0) rfl
     have hchk6 := hchk6.up g15.le
     have hj4 := hj4.trans g15.le
     have hd5 := hd5.trans g15.le
     refine ⟨_, Z, ?_⟩
     refine R_nil (N_DK (Kn.of' H hd5 (SubL.cons 3 Z (SubL.cons 4 Z SubL.nil))) (RD_t 7 Z kR Z (fun _ hK => v_build bf32 Z Z) ?_))
     refine RD_run [8] kR Z (RDs.cons Z ?_ RDs.nil)
     refine o_alloc H zeroValue32 Z Z ?_; intro b16 w16 hb16 H
     refine R_nil (N_DK (Kn.of' H hd5 (SubL.cons 4 Z (SubL.cons 5 Z SubL.nil))) ?_)
     refine RD_run [9] kR Z (RDs.cons Z ?_ RDs.nil)
     refine o_store_B 0 H sizeOf32 Z Z Z Z Z Z Z Z ?_; intro w17 H
     refine R_nil (N_DKlast kR kR ?_)
     obtain ⟨G523, H, hsg523, hsr523⟩ := H.shut' (k := 3) rfl hchk6 aN aN
     have hchk15 := hchk15.up hsg523
     have hj4 := hj4.trans hsg523
     obtain ⟨G524, H, hsg524, hsr524⟩ := H.shut' (k := 1) rfl hchk15 aN aN
     have hsr523 := hsr523.up hsg524
     have hj4 := hj4.trans hsg524
     have H := H.toFront (k := 3) rfl
     have H := H.toFront (k := 3) rfl
     have H := H.toFront (k := 2) rfl
     have H := H.toFront (k := 3) rfl
     exact N_J ⟨_, _, _, _, _, _, _, _, _, _, _, Z, hj4, H, ⟨hsr523, hsr524, (Chk.nil (E := snapE) (sz := 2) (G := G524)), Z⟩⟩
    skip
    refine o_alloc H zeroValue32 Z Z ?_; intro b18 w18 hb18 H
    refine R_nil (N_DK (Kn.of' H hd5 (SubL.cons 3 Z (SubL.cons 4 Z SubL.nil))) ?_)
    refine RD_run [5] kR Z (RDs.cons Z ?_ RDs.nil)
    refine o_call call87 Z Z (l5All_c _ _ H.sub _ _ hr1' ) ?_
    rintro _ w19 ⟨G19, v19, _, g19, rfl, ⟨cs19, rfl, hchk19⟩, hp19, hq19, hs19⟩
    have H := H.growO g19 hp19 hq19 hs19; obtain ⟨av19, cv19, rfl⟩ := H.accShape (k := 0) rfl
    have hchk6 := hchk6.up g19.le
    have hj4 := hj4.trans g19.le
    have hd5 := hd5.trans g19.le
    refine ⟨_, Z, ?_⟩
    refine R_nil (N_DK (Kn.of' H hd5 (SubL.cons 4 Z (SubL.cons 5 Z SubL.nil))) (RD_t 7 Z kR Z (fun _ hK => v_build bf32 Z Z) ?_))
    refine RD_run [9] kR Z (RDs.cons Z ?_ RDs.nil)
    refine o_store_B 1 H sizeOf32 Z Z Z Z Z Z Z Z ?_; intro w20 H
    refine R_nil (N_DKlast kR kR ?_)
    obtain ⟨G528, H, hsg528, hsr528⟩ := H.shut' (k := 3) rfl hchk6 aN aN
    have hchk19 := hchk19.up hsg528
    have hj4 := hj4.trans hsg528
    obtain ⟨G529, H, hsg529, hsr529⟩ := H.shut' (k := 0) rfl hchk19 aN aN
    have hsr528 := hsr528.up hsg529
    have hj4 := hj4.trans hsg529
    have H := H.toFront (k := 3) rfl
    have H := H.toFront (k := 3) rfl
    have H := H.toFront (k := 2) rfl
    have H := H.toFront (k := 3) rfl
    exact N_J ⟨_, _, _, _, _, _, _, _, _, _, _, Z, hj4, H, ⟨hsr528, hsr529, (Chk.nil (E := snapE) (sz := 2) (G := G529)), Z⟩⟩
   skip
   refine o_alloc H zeroValue32 Z Z ?_; intro b21 w21 hb21 H
   refine R_nil (N_DK (Kn.of' H hd5 (SubL.cons 2 Z (SubL.cons 3 Z SubL.nil))) ?_)
   refine RD_run [5, 6] kR Z (RDs.cons Z ?_ (RDs.cons Z ?_ RDs.nil))
   ·skip
    refine o_call call87 Z Z (l5All_c _ _ H.sub _ _ hr1' ) ?_
    rintro _ w22 ⟨G22, v22, _, g22, rfl, ⟨cs22, rfl, hchk22⟩, hp22, hq22, hs22⟩
    have H := H.growO g22 hp22 hq22 hs22; obtain ⟨av22, cv22, rfl⟩ := H.accShape (k := 0) rfl
    have hchk6 := hchk6.up g22.le
    have hj4 := hj4.trans g22.le
    have hd5 := hd5.trans g22.le
    refine ⟨_, Z, ?_⟩
    refine R_nil (N_DK (Kn.of' H hd5 (SubL.cons 3 Z (SubL.cons 4 Z SubL.nil))) ?_)
    refine RD_run [6] kR Z (RDs.cons Z ?_ RDs.nil)
    refine o_buildSlice H underlying30 sizeOf58 (fun w => ⟨_, zeroValue58 w, Z⟩) Z Z Z Z Z Z Z ?_; intro b23 w23 hb23 H
    have H := H.blkAcc 2 (k := 0) (n := 0) rfl rfl (by decide)
    refine R_nil (N_DK (Kn.of' H hd5 (SubL.cons 4 Z (SubL.cons 5 Z SubL.nil))) (RD_t 7 Z kR Z (fun _ hK => v_build bf32 Z Z) ?_))
    refine RD_run [9] kR Z (RDs.cons Z ?_ RDs.nil)
    refine o_store_B 2 H sizeOf32 Z Z Z Z Z Z Z Z ?_; intro w24 H
    refine R_nil (N_DKlast kR kR ?_)
    obtain ⟨G534, H, hsg534, hsr534⟩ := H.shut' (k := 3) rfl hchk6 aN aN
    have hchk22 := hchk22.up hsg534
    have hj4 := hj4.trans hsg534
    obtain ⟨G535, H, hsg535, hsr535⟩ := H.shut' (k := 1) rfl hchk22 aN aN
    have hsr534 := hsr534.up hsg535
    have hj4 := hj4.trans hsg535
    have H := H.toFront (k := 3) rfl
    have H := H.toFront (k := 3) rfl
    have H := H.toFront (k := 3) rfl
    have H := H.toFront (k := 3) rfl
    exact N_J ⟨_, _, _, _, _, _, _, _, _, _, _, Z, hj4, H, ⟨hsr534, hsr535, (Chk.nil (E := snapE) (sz := 2) (G := G535)), Z⟩⟩
   skip
   refine o_buildSlice H underlying30 sizeOf58 (fun w => ⟨_, zeroValue58 w, Z⟩) Z Z Z Z Z Z Z ?_; intro b25 w25 hb25 H
   have H := H.blkAcc 2 (k := 0) (n := 0) rfl rfl (by decide)
   refine R_nil (N_DK (Kn.of' H hd5 (SubL.cons 3 Z (SubL.cons 4 Z SubL.nil))) ?_)
   refine RD_run [5] kR Z (RDs.cons Z ?_ RDs.nil)
   refine o_call call87 Z Z (l5All_c _ _ H.sub _ _ hr1' ) ?_
   rintro _ w26 ⟨G26, v26, _, g26, rfl, ⟨cs26, rfl, hchk26⟩, hp26, hq26, hs26⟩
   have H := H.growO g26 hp26 hq26 hs26; obtain ⟨av26, cv26, rfl⟩ := H.accShape (k := 0) rfl
   have hchk6 := hchk6.up g26.le
   have hj4 := hj4.trans g26.le
   have hd5 := hd5.trans g26.le
   refine ⟨_, Z, ?_⟩
   refine R_nil (N_DK (Kn.of' H hd5 (SubL.cons 4 Z (SubL.cons 5 Z SubL.nil))) (RD_t 7 Z kR Z (fun _ hK => v_build bf32 Z Z) ?_))
   refine RD_run [9] kR Z (RDs.cons Z ?_ RDs.nil)
   refine o_store_B 2 H sizeOf32 Z Z Z Z Z Z Z Z ?_; intro w27 H
   refine R_nil (N_DKlast kR kR ?_)
   obtain ⟨G539, H, hsg539, hsr539⟩ := H.shut' (k := 3) rfl hchk6 aN aN
   have hchk26 := hchk26.up hsg539
   have hj4 := hj4.trans hsg539
   obtain ⟨G540, H, hsg540, hsr540⟩ := H.shut' (k := 0) rfl hchk26 aN aN
   have hsr539 := hsr539.up hsg540
   have hj4 := hj4.trans hsg540
   have H := H.toFront (k := 3) rfl
   have H := H.toFront (k := 3) rfl
   have H := H.toFront (k := 3) rfl
   have H := H.toFront (k := 3) rfl
   exact N_J ⟨_, _, _, _, _, _, _, _, _, _, _, Z, hj4, H, ⟨hsr539, hsr540, (Chk.nil (E := snapE) (sz := 2) (G := G540)), Z⟩⟩
  ·skip
   refine o_buildSlice H underlying30 sizeOf58 (fun w => ⟨_, zeroValue58 w, Z⟩) Z Z Z Z Z Z Z ?_; intro b28 w28 hb28 H
   have H := H.blkAcc 2 (k := 0) (n := 0) rfl rfl (by decide)
   refine R_nil (N_DK (Kn.of' H hd5 (SubL.cons 1 Z (SubL.cons 2 Z SubL.nil))) ?_)
   refine RD_run [2, 8] kR Z (RDs.cons Z ?_ (RDs.cons Z ?_ RDs.nil))
   ·skip
    refine o_call call109 Z Z (l3Copy_c _ _ H.sub _ _ hr1 ) ?_
    rintro _ w29 ⟨G29, v29, _, g29, rfl, ⟨cs29, rfl, hchk29⟩, hp29, hq29, hs29⟩
    have H := H.growO g29 hp29 hq29 hs29; obtain ⟨av29, cv29, rfl⟩ := H.accShape (k := 0) rfl
    have hr1' := hr1'.up g29.le
    have hj4 := hj4.trans g29.le
    have hd5 := hd5.trans g29.le
    refine ⟨_, Z, ?_⟩
    refine R_nil (N_DK (Kn.of' H hd5 (SubL.cons 2 Z (SubL.cons 3 Z SubL.nil))) ?_)
    refine RD_run [5, 8] kR Z (RDs.cons Z ?_ (RDs.cons Z ?_ RDs.nil))
    ·skip
     refine o_call call87 Z Z (l5All_c _ _ H.sub _ _ hr1' ) ?_
     rintro _ w30 ⟨G30, v30, _, g30, rfl, ⟨cs30, rfl, hchk30⟩, hp30, hq30, hs30⟩
     have H := H.growO g30 hp30 hq30 hs30; obtain ⟨av30, cv30, rfl⟩ := H.accShape (k := 0) rfl
     have hchk29 := hchk29.up g30.le
     have hj4 := hj4.trans g30.le
     have hd5 := hd5.trans g30.le
     refine ⟨_, Z, ?_⟩
     refine R_nil (N_DK (Kn.of' H hd5 (SubL.cons 3 Z (SubL.cons 4 Z SubL.nil))) (RD_t 7 Z kR Z (fun _ hK => v_build bf32 Z Z) ?_))
     refine RD_run [8] kR Z (RDs.cons Z ?_ RDs.nil)
     refine o_alloc H zeroValue32 Z Z ?_; intro b31 w31 hb31 H
     refine R_nil (N_DK (Kn.of' H hd5 (SubL.cons 4 Z (SubL.cons 5 Z SubL.nil))) ?_)
     refine RD_run [9] kR Z (RDs.cons Z ?_ RDs.nil)
     refine o_store_B 0 H sizeOf32 Z Z Z Z Z Z Z Z ?_; intro w32 H
     refine R_nil (N_DKlast kR kR ?_)
     obtain ⟨G546, H, hsg546, hsr546⟩ := H.shut' (k := 2) rfl hchk29 aN aN
     have hchk30 := hchk30.up hsg546
     have hj4 := hj4.trans hsg546
     obtain ⟨G547, H, hsg547, hsr547⟩ := H.shut' (k := 1) rfl hchk30 aN aN
     have hsr546 := hsr546.up hsg547
     have hj4 := hj4.trans hsg547
     have H := H.toFront (k := 3) rfl
     have H := H.toFront (k := 3) rfl
     have H := H.toFront (k := 2) rfl
     have H := H.toFront (k := 3) rfl
     exact N_J ⟨_, _, _, _, _, _, _, _, _, _, _, Z, hj4, H, ⟨hsr546, hsr547, (Chk.nil (E := snapE) (sz := 2) (G := G547)), Z⟩⟩
    skip
    refine o_alloc H zeroValue32 Z Z ?_; intro b33 w33 hb33 H
    refine R_nil (N_DK (Kn.of' H hd5 (SubL.cons 3 Z (SubL.cons 4 Z SubL.nil))) ?_)
    refine RD_run [5] kR Z (RDs.cons Z ?_ RDs.nil)
    refine o_call call87 Z Z (l5All_c _ _ H.sub _ _ hr1' ) ?_
    rintro _ w34 ⟨G34, v34, _, g34, rfl, ⟨cs34, rfl, hchk34⟩, hp34, hq34, hs34⟩
    have H := H.growO g34 hp34 hq34 hs34; obtain ⟨av34, cv34, rfl⟩ := H.accShape (k := 0) rfl
    have hchk29 := hchk29.up g34.le
    have hj4 := hj4.trans g34.le
    have hd5 := hd5.trans g34.le
    refine ⟨_, Z, ?_⟩
    refine R_nil (N_DK (Kn.of' H hd5 (SubL.cons 4 Z (SubL.cons 5 Z SubL.nil))) (RD_t 7 Z kR Z (fun _ hK => v_build bf32 Z Z) ?_))
    refine RD_run [9] kR Z (RDs.cons Z ?_ RDs.nil)
    refine o_store_B 1 H sizeOf32 Z Z Z Z Z Z Z Z ?_; intro w35 H
    refine R_nil (N_DKlast kR kR ?_)
    obtain ⟨G551, H, hsg551, hsr551⟩ := H.shut' (k := 2) rfl hchk29 aN aN
    have hchk34 := hchk34.up hsg551
    have hj4 := hj4.trans hsg551
    obtain ⟨G552, H, hsg552, hsr552⟩ := H.shut' (k := 0) rfl hchk34 aN aN
    have hsr551 := hsr551.up hsg552
    have hj4 := hj4.trans hsg552
    have H := H.toFront (k := 3) rfl
    have H := H.toFront (k := 3) rfl
    have H := H.toFront (k := 2) rfl
    have H := H.toFront (k := 3) rfl
    exact N_J ⟨_, _, _, _, _, _, _, _, _, _, _, Z, hj4, H, ⟨hsr551, hsr552, (Chk.nil (E := snapE) (sz := 2) (G := G552)), Z⟩⟩
   skip
   refine o_alloc H zeroValue32 Z Z ?_; intro b36 w36 hb36 H
   refine R_nil (N_DK (Kn.of' H hd5 (SubL.cons 2 Z (SubL.cons 3 Z SubL.nil))) ?_)
   refine RD_run [2] kR Z (RDs.cons Z ?_ RDs.nil)
   refine o_call call109 Z Z (l3Copy_c _ _ H.sub _ _ hr1 ) ?_
   rintro _ w37 ⟨G37, v37, _, g37, rfl, ⟨cs37, rfl, hchk37⟩, hp37, hq37, hs37⟩
   have H := H.growO g37 hp37 hq37 hs37; obtain ⟨av37, cv37, rfl⟩ := H.accShape (k := 0) rfl
   have hr1' := hr1'.up g37.le
   have hj4 := hj4.trans g37.le
   have hd5 := hd5.trans g37.le
   refine ⟨_, Z, ?_⟩
   refine R_nil (N_DK (Kn.of' H hd5 (SubL.cons 3 Z (SubL.cons 4 Z SubL.nil))) ?_)
   refine RD_run [5] kR Z (RDs.cons Z ?_ RDs.nil)
   refine o_call call87 Z Z (l5All_c _ _ H.sub _ _ hr1' ) ?_
   rintro _ w38 ⟨G38, v38, _, g38, rfl, ⟨cs38, rfl, hchk38⟩, hp38, hq38, hs38⟩
   have H := H.growO g38 hp38 hq38 hs38; obtain ⟨av38, cv38, rfl⟩ := H.accShape (k := 0) rfl
   have hchk37 := hchk37.up g38.le
   have hj4 := hj4.trans g38.le
   have hd5 := hd5.trans g38.le
   refine ⟨_, Z, ?_⟩
   refine R_nil (N_DK (Kn.of' H hd5 (SubL.cons 4 Z (SubL.cons 5 Z SubL.nil))) (RD_t 7 Z kR Z (fun _ hK => v_build bf32 Z Z) ?_))
   refine RD_run [9] kR Z (RDs.cons Z ?_ RDs.nil)
   refine o_store_B 2 H sizeOf32 Z Z Z Z Z Z Z Z ?_; intro w39 H
   refine R_nil (N_DKlast kR kR ?_)
   obtain ⟨G557, H, hsg557, hsr557⟩ := H.shut' (k := 1) rfl hchk37 aN aN
   have hchk38 := hchk38.up hsg557
   have hj4 := hj4.trans hsg557
   obtain ⟨G558, H, hsg558, hsr558⟩ := H.shut' (k := 0) rfl hchk38 aN aN
   have hsr557 := hsr557.up hsg558
   have hj4 := hj4.trans hsg558
   have H := H.toFront (k := 3) rfl
   have H := H.toFront (k := 3) rfl
   have H := H.toFront (k := 2) rfl
   have H := H.toFront (k := 3) rfl
   exact N_J ⟨_, _, _, _, _, _, _, _, _, _, _, Z, hj4, H, ⟨hsr557, hsr558, (Chk.nil (E := snapE) (sz := 2) (G := G558)), Z⟩⟩
  skip
  refine o_alloc H zeroValue32 Z Z ?_; intro b40 w40 hb40 H
  refine R_nil (N_DK (Kn.of' H hd5 (SubL.cons 1 Z (SubL.cons 2 Z SubL.nil))) ?_)
  refine RD_run [2, 6] kR Z (RDs.cons Z ?_ (RDs.cons Z ?_ RDs.nil))
  ·skip
   refine o_call call109 Z Z (l3Copy_c _ _ H.sub _ _ hr1 ) ?_
   rintro _ w41 ⟨G41, v41, _, g41, rfl, ⟨cs41, rfl, hchk41⟩, hp41, hq41, hs41⟩
   have H := H.growO g41 hp41 hq41 hs41; obtain ⟨av41, cv41, rfl⟩ := H.accShape (k := 0) rfl
   have hr1' := hr1'.up g41.le
   have hj4 := hj4.trans g41.le
   have hd5 := hd5.trans g41.le
   refine ⟨_, Z, ?_⟩
   refine R_nil (N_DK (Kn.of' H hd5 (SubL.cons 2 Z (SubL.cons 3 Z SubL.nil))) ?_)
   refine RD_run [5, 6] kR Z (RDs.cons Z ?_ (RDs.cons Z ?_ RDs.nil))
   ·skip
    refine o_call call87 Z Z (l5All_c _ _ H.sub _ _ hr1' ) ?_
    rintro _ w42 ⟨G42, v42, _, g42, rfl, ⟨cs42, rfl, hchk42⟩, hp42, hq42, hs42⟩
    have H := H.growO g42 hp42 hq42 hs42; obtain ⟨av42, cv42, rfl⟩ := H.accShape (k := 0) rfl
    have hchk41 := hchk41.up g42.le
    have hj4 := hj4.trans g42.le
    have hd5 := hd5.trans g42.le
    refine ⟨_, Z, ?_⟩
    refine R_nil (N_DK (Kn.of' H hd5 (SubL.cons 3 Z (SubL.cons 4 Z SubL.nil))) ?_)
    refine RD_run [6] kR Z (RDs.cons Z ?_ RDs.nil)
    refine o_buildSlice H underlying30 sizeOf58 (fun w => ⟨_, zeroValue58 w, Z⟩) Z Z Z Z Z Z Z ?_; intro b43 w43 hb43 H
    have H := H.blkAcc 2 (k := 0) (n := 0) rfl rfl (by decide)
    refine R_nil (N_DK (Kn.of' H hd5 (SubL.cons 4 Z (SubL.cons 5 Z SubL.nil))) (RD_t 7 Z kR Z (fun _ hK => v_build bf32 Z Z) ?_))
    refine RD_run [9] kR Z (RDs.cons Z ?_ RDs.nil)
    refine o_store_B 3 H sizeOf32 Z Z Z Z Z Z Z Z ?_; intro w44 H
    refine R_nil (N_DKlast kR kR ?_)
    obtain ⟨G564, H, hsg564, hsr564⟩ := H.shut' (k := 2) rfl hchk41 aN aN
    have hchk42 := hchk42.up hsg564
    have hj4 := hj4.trans hsg564
    obtain ⟨G565, H, hsg565, hsr565⟩ := H.shut' (k := 1) rfl hchk42 aN aN
    have hsr564 := hsr564.up hsg565
    have hj4 := hj4.trans hsg565
    have H := H.toFront (k := 3) rfl
    have H := H.toFront (k := 3) rfl
    have H := H.toFront (k := 3) rfl
    have H := H.toFront (k := 3) rfl
    exact N_J ⟨_, _, _, _, _, _, _, _, _, _, _, Z, hj4, H, ⟨hsr564, hsr565, (Chk.nil (E := snapE) (sz := 2) (G := G565)), Z⟩⟩
   skip
   refine o_buildSlice H underlying30 sizeOf58 (fun w => ⟨_, zeroValue58 w, Z⟩) Z Z Z Z Z Z Z ?_; intro b45 w45 hb45 H
   have H := H.blkAcc 2 (k := 0) (n := 0) rfl rfl (by decide)
   refine R_nil (N_DK (Kn.of' H hd5 (SubL.cons 3 Z (SubL.cons 4 Z SubL.nil))) ?_)
   refine RD_run [5] kR Z (RDs.cons Z ?_ RDs.nil)
   refine o_call call87 Z Z (l5All_c _ _ H.sub _ _ hr1' ) ?_
   rintro _ w46 ⟨G46, v46, _, g46, rfl, ⟨cs46, rfl, hchk46⟩, hp46, hq46, hs46⟩
   have H := H.growO g46 hp46 hq46 hs46; obtain ⟨av46, cv46, rfl⟩ := H.accShape (k := 0) rfl
   have hchk41 := hchk41.up g46.le
   have hj4 := hj4.trans g46.le
   have hd5 := hd5.trans g46.le
   refine ⟨_, Z, ?_⟩
   refine R_nil (N_DK (Kn.of' H hd5 (SubL.cons 4 Z (SubL.cons 5 Z SubL.nil))) (RD_t 7 Z kR Z (fun _ hK => v_build bf32 Z Z) ?_))
   refine RD_run [9] kR Z (RDs.cons Z ?_ RDs.nil)
   refine o_store_B 3 H sizeOf32 Z Z Z Z Z Z Z Z ?_; intro w47 H
   refine R_nil (N_DKlast kR kR ?_)
   obtain ⟨G569, H, hsg569, hsr569⟩ := H.shut' (k := 2) rfl hchk41 aN aN
   have hchk46 := hchk46.up hsg569
   have hj4 := hj4.trans hsg569
   obtain ⟨G570, H, hsg570, hsr570⟩ := H.shut' (k := 0) rfl hchk46 aN aN
   have hsr569 := hsr569.up hsg570
   have hj4 := hj4.trans hsg570
   have H := H.toFront (k := 3) rfl
   have H := H.toFront (k := 3) rfl
   have H := H.toFront (k := 3) rfl
   have H := H.toFront (k := 3) rfl
   exact N_J ⟨_, _, _, _, _, _, _, _, _, _, _, Z, hj4, H, ⟨hsr569, hsr570, (Chk.nil (E := snapE) (sz := 2) (G := G570)), Z⟩⟩
  skip
  refine o_buildSlice H underlying30 sizeOf58 (fun w => ⟨_, zeroValue58 w, Z⟩) Z Z Z Z Z Z Z ?_; intro b48 w48 hb48 H
  have H := H.blkAcc 2 (k := 0) (n := 0) rfl rfl (by decide)
  refine R_nil (N_DK (Kn.of' H hd5 (SubL.cons 2 Z (SubL.cons 3 Z SubL.nil))) ?_)
  refine RD_run [2] kR Z (RDs.cons Z ?_ RDs.nil)
  refine o_call call109 Z Z (l3Copy_c _ _ H.sub _ _ hr1 ) ?_
  rintro _ w49 ⟨G49, v49, _, g49, rfl, ⟨cs49, rfl, hchk49⟩, hp49, hq49, hs49⟩
  have H := H.growO g49 hp49 hq49 hs49; obtain ⟨av49, cv49, rfl⟩ := H.accShape (k := 0) rfl
  have hr1' := hr1'.up g49.le
  have hj4 := hj4.trans g49.le
  have hd5 := hd5.trans g49.le
  refine ⟨_, Z, ?_⟩
  refine R_nil (N_DK (Kn.of' H hd5 (SubL.cons 3 Z (SubL.cons 4 Z SubL.nil))) ?_)
  refine RD_run [5] kR Z (RDs.cons Z ?_ RDs.nil)
  refine o_call call87 Z Z (l5All_c _ _ H.sub _ _ hr1' ) ?_
  rintro _ w50 ⟨G50, v50, _, g50, rfl, ⟨cs50, rfl, hchk50⟩, hp50, hq50, hs50⟩
  have H := H.growO g50 hp50 hq50 hs50; obtain ⟨av50, cv50, rfl⟩ := H.accShape (k := 0) rfl
  have hchk49 := hchk49.up g50.le
  have hj4 := hj4.trans g50.le
  have hd5 := hd5.trans g50.le
  refine ⟨_, Z, ?_⟩
  refine R_nil (N_DK (Kn.of' H hd5 (SubL.cons 4 Z (SubL.cons 5 Z SubL.nil))) (RD_t 7 Z kR Z (fun _ hK => v_build bf32 Z Z) ?_))
  refine RD_run [9] kR Z (RDs.cons Z ?_ RDs.nil)
  refine o_store_B 3 H sizeOf32 Z Z Z Z Z Z Z Z ?_; intro w51 H
  refine R_nil (N_DKlast kR kR ?_)
  obtain ⟨G575, H, hsg575, hsr575⟩ := H.shut' (k := 1) rfl hchk49 aN aN
  have hchk50 := hchk50.up hsg575
  have hj4 := hj4.trans hsg575
  obtain ⟨G576, H, hsg576, hsr576⟩ := H.shut' (k := 0) rfl hchk50 aN aN
  have hsr575 := hsr575.up hsg576
  have hj4 := hj4.trans hsg576
  have H := H.toFront (k := 3) rfl
  have H := H.toFront (k := 3) rfl
  have H := H.toFront (k := 3) rfl
  have H := H.toFront (k := 3) rfl
  exact N_J ⟨_, _, _, _, _, _, _, _, _, _, _, Z, hj4, H, ⟨hsr575, hsr576, (Chk.nil (E := snapE) (sz := 2) (G := G576)), Z⟩⟩
 rintro _ w4 ⟨jb, ja, jc, jm, jk, jn, jl, ve, ce, ne, G4, rfl, hle4, H, hinv4⟩
 subst hljb3
 subst hljb2
 have hr1'' := hr1''.up hle4
 obtain ⟨hja, hjb, hjc, rfl⟩ := hinv4; obtain ⟨ajx, cjx, rfl⟩ := H.accShape (k := 0) rfl
 refine W_seq (q2 (aG Z (q3 (W_block ?_))))
 obtain ⟨ln52, hln52, H⟩ := H.nameAt (k := 1) (off := 2) rfl rfl
 obtain ⟨ln53, hln53, H⟩ := H.name (k := 2) rfl
 obtain ⟨ln54, hln54, H⟩ := H.name (k := 3) rfl
 refine W_lp (hf := (Sub.cons (t := 1) Z (Sub.cons (t := 2) Z (Sub.cons (t := 3) Z Sub.nil)))) (J := fun M w m => ∃ (v : Value) (n : Nat) (cs : List Value) (xs : List (BSnap)) (k : Nat) (G : PH), M = [(4, .int .i64 (k : Int))] ∧ PLe G4 G ∧ Hp w0 G0 [] w G [acc 58 2 v n cs, blk jb (cl (setN ln52 2 v) 32), blk b3 (cl ln53 32), blk b2 (cl ln54 32)] ∧ (Chk snapE 2 G cs xs ∧ n = xs.length ∧ k ≤ d.snaps.length ∧ xs.length = k ∧ xs = d.snaps.take k) ∧ m = (d.snaps.length - k)) (h0 := ⟨_, _, _, [], 0, _, Z, PLe.refl _, H, ?inv, Z⟩) (round := ?round)
 case inv => exact ⟨hjc,  by first | rfl | simp | (simp; omega) | omega, (by simp)⟩
 case round =>
  rintro _ w55 _ ⟨v, n, cs, xs, k, G55, rfl, hle55, H, hinv55, rfl⟩
  subst hln52
  subst hln53
  subst hln54
  have hr1'' := hr1''.up hle55
  have hja := hja.up hle55
  have hjb := hjb.up hle55
  obtain ⟨hchk55_0, hn55_0, hinv55⟩ := hinv55
  obtain ⟨av55_0, cv55_0, rfl⟩ := H.accShape (k := 0) rfl
  obtain ⟨hk, hxl, hxs⟩ := hinv55
  refine W_seq (q2 (mV Z (o_fieldAddr 2 runUnderlying32 Z sizeOf30 Z Z Z (o_load_B 3 H isAgg30 Z Z Z Z (o_len_slice underlying30 Z Z (o_lss Z Z Z (q3 ?_)))))))
  refine W_cond Z ?_ ?_
  ·intro hc56
   try simp only [nrm] at hc56
   refine W_skip (N_K (W_seq (W_block (W_drawK [1, 2, 3] 20 H kR Z ?_)))); intro w57 H; have hd57 := PLe.refl G55
   refine RD_t 0 Z kR Z (fun _ hK => v_fieldAddr 2 runUnderlying32 Z sizeOf30 Z Z) (RD_t 1 Z kR Z (fun _ hK => v_load_B 0 hK isAgg30 Z Z Z) (RD_t 2 Z kR Z (fun _ hK => v_fieldAddr 2 runUnderlying32 Z sizeOf30 Z Z) (RD_t 3 Z kR Z (fun _ hK => v_load_B 2 hK isAgg30 Z Z Z) (vM 4 Z Z ?_))))
   have hl58 := hr1''.len
   obtain ⟨b58, o58, z58, q58, ha58, hz58, hq58, hE58, hrow58, _⟩ := hr1''.at (i := k) oM
   clear hq58
   obtain ⟨a58, m58, c58, rfl, hi58, hr58⟩ := hE58; have hy_hi58 : _ ≤ 16777216 := hi58; have hn_hr58 := hr58.len; have hx_hr58 : _ ≤ 1099511627776 := hr58.lim
   refine RD_t 5 Z kR Z (fun _ hK => v_index_P (i := k) ha58 underlying30 sizeOf58 Z Z Z oM) (RD_t 6 Z kR Z (fun _ hK => v_fieldAddr 0 runUnderlying58 Z sizeOf9 Z Z) (RD_t 7 Z kR Z (fun _ hK => v_load_P hK isAgg9 Z (hrow58 0 _ Z)) (RD_t 8 Z kR Z (fun _ hK => v_fieldAddr 2 runUnderlying32 Z sizeOf30 Z Z) (RD_t 9 Z kR Z (fun _ hK => v_load_B 2 hK isAgg30 Z Z Z) (vM 10 Z Z ?_)))))
   have hl59 := hr1''.len
   obtain ⟨b59, o59, z59, q59, ha59, hz59, hq59, hE59, hrow59, _⟩ := hr1''.at (i := k) oM
   clear hq59
   obtain ⟨a59, m59, c59, rfl, hi59, hr59⟩ := hE59; have hy_hi59 : _ ≤ 16777216 := hi59; have hn_hr59 := hr59.len; have hx_hr59 : _ ≤ 1099511627776 := hr59.lim
   have hzz59 : z58 = z59 := Option.some.inj (hz58.symm.trans hz59)
   subst hzz59
   refine RD_t 11 Z kR Z (fun _ hK => v_index_P (i := k) ha59 underlying30 sizeOf58 Z Z Z oM) (RD_t 12 Z kR Z (fun _ hK => v_fieldAddr 1 runUnderlying58 Z sizeOf29 Z Z) (RD_t 13 Z kR Z (fun _ hK => v_load_P hK isAgg29 Z (hrow59 1 _ Z)) ?_))
   refine RD_run [14] kR Z (RDs.cons Z ?_ RDs.nil)
   refine o_call call87 Z Z (l5All_c _ _ H.sub _ _ hr59 ) ?_
   rintro _ w60 ⟨G60, v60, _, g60, rfl, ⟨cs60, rfl, hchk60⟩, hp60, hq60, hs60⟩
   have H := H.growO g60 hp60 hq60 hs60; obtain ⟨av60, cv60, rfl⟩ := H.accShape (k := 0) rfl
   have hchk55_0 := hchk55_0.up g60.le
   have hle55 := hle55.trans g60.le
   have hd57 := hd57.trans g60.le
   refine ⟨_, Z, ?_⟩
   refine R_nil (N_DK (Kn.of' H hd57 (SubL.cons 2 Z (SubL.cons 3 Z (SubL.cons 4 Z SubL.nil)))) (RD_t 15 Z kR Z (fun _ hK => v_build bf58 Z Z) ?_))
   refine RD_run [16] kR Z (RDs.cons Z ?_ RDs.nil)
   refine o_buildSlice H underlying30 sizeOf58 (fun w => ⟨_, zeroValue58 w, Z⟩) Z Z Z Z Z Z Z ?_; intro b61 w61 hb61 H
   refine R_nil (N_DK (Kn.of' H hd57 (SubL.cons 3 Z (SubL.cons 4 Z (SubL.cons 5 Z SubL.nil)))) ?_)
   refine RD_run [17] kR Z (RDs.cons Z ?_ RDs.nil)
   refine o_append1 1 H (sz := 2) (bytes := 40) underlying30 typeInfo58 ⟨_, Z, Z⟩ Z Z Z Z Z Z Z Z Z Z oM Z ?_; intro v62 w62 H
   obtain ⟨G63, H, hsg63, hsr63⟩ := H.shut' (k := 0) rfl hchk60 aN aN
   have hchk55_0 := hchk55_0.up hsg63
   have hle55 := hle55.trans hsg63
   have hd57 := hd57.trans hsg63
   have hchk62 := hchk55_0.snoc (show snapE _ ⟨z58.name, z58.tree⟩ _ from ⟨_, _, _, rfl, hi58, hsr63⟩) rfl
   obtain ⟨av62, cv62, rfl⟩ := H.accShape (k := 0) rfl
   refine R_nil (N_DK (Kn.of' H hd57 (SubL.cons 1 Z (SubL.cons 2 Z (SubL.cons 3 Z SubL.nil)))) (RD_t 18 Z kR Z (fun _ hK => v_fieldAddr 2 runUnderlying32 Z sizeOf30 Z Z) ?_))
   refine RD_run [19] kR Z (RDs.cons Z ?_ RDs.nil)
   refine o_store_B 1 H sizeOf30 Z Z Z Z Z Z Z Z ?_; intro w64 H
   refine R_nil (N_DKlast kR kR (N_B (N_K (W_region (mV Z (o_add Z Z Z oO (aG Z (R_nil ?_))))))))
   refine N_lp (hJ := ⟨_, _, _, (xs ++ [⟨z58.name, z58.tree⟩]), k + 1, _, Z, hle55, H, ?inv, Z⟩) (hm := ?hm)
   case hm => omega
   case inv => exact ⟨hchk62, aN, (by exact ⟨by omega, by simp [hxl], by rw [Sp.take_succ' hz58, hxs]⟩)⟩
  intro hc56'
  try simp only [nrm] at hc56'
  refine W_exit (N_K_exit (N_LP_exit (N_B_same (N_K (q2 (o_loadagg_B 1 H isAgg32 sizeOf32 Z Z Z Z Z (o_store_B 2 H sizeOf32 Z Z Z Z Z Z Z Z ?_))))))); intro w66 H
  refine q3 (W_ret (ret_gen (rs := [.cell 2 32]) (vs := [_]) results54 ⟨⟨_, Z, load_blk 2 H isAgg32 sizeOf32 Z Z Z⟩, trivial⟩ ?_))
  obtain rfl : k = d.snaps.length := by omega
  rw [List.take_length] at hxs
  subst hxs
  exact H.retO (k := 0) Z ⟨_, _, _, Z, AccOf.mk aN hchk55_0, hja, hjb⟩ (acc_nd _ _ _ _ _)
end Go.Proofs.Tst

namespace Go.Proofs.Tst
open Go Fw Tryz
theorem l12Free_c (w0 : World) (G0 : PH) (hG : PSub G0 w0) (vstore : Value) (store : List (BHeld)) (hstore : RdH G0 vstore store) (vlist : Value) (list : List (BItem)) (hlist : RdItems G0 vlist list)  :
  Calls Tryz.prog 55 #[vstore, vlist] w0 (RetO w0 G0 (AccOf heldE 3 131 (Sp.l12Free store list))) := by
 obtain ⟨astore, kstore, rfl⟩ := hstore.shape
 have hlimstore : store.length ≤ 1099511627776 := hstore.lim
 obtain ⟨alist, klist, rfl⟩ := hlist.shape
 have hlimlist : list.length ≤ 1099511627776 := hlist.lim
 have H := Hp.init hG
 refine calls_of_W (l := [.slice astore store.length kstore, .slice alist list.length klist]) func55 Z ntmps55 Z (q2 (aG Z (q1 (mV Z (o_call call109 Z Z (l3Copy_c _ _ H.sub _ _ hstore ) ?_)))))
 rintro _ w1 ⟨G1, v1, _, g1, rfl, ⟨cs1, rfl, hchk1⟩, hp1, hq1, hs1⟩
 have H := H.growO g1 hp1 hq1 hs1; obtain ⟨av1, cv1, rfl⟩ := H.accShape (k := 0) rfl
 have hlist := hlist.up g1.le
 refine ⟨_, Z, ?_⟩
 refine aG Z (q3 (W_seq (q2 (aG Z (q3 (W_block ?_))))))
 refine W_lp (hf := (Sub.cons (t := 1) Z (Sub.cons (t := 4) Z Sub.nil))) (J := fun M w m => ∃ (v : Value) (n : Nat) (cs : List Value) (xs : List (BHeld)) (k : Nat) (G : PH), M = [(6, .int .i64 (k : Int)), (5, v)] ∧ PLe G1 G ∧ Hp w0 G0 [] w G [acc 131 3 v n cs] ∧ (Chk heldE 3 G cs xs ∧ n = xs.length ∧ k ≤ list.length ∧ xs.length ≤ store.length ∧ xs = Sp.l12Free store (list.take k)) ∧ m = (list.length - k)) (h0 := ⟨_, _, _, store, 0, _, Z, PLe.refl _, H, ?inv, Z⟩) (round := ?round)
 case inv => exact ⟨hchk1,  by first | rfl | simp | (simp; omega) | omega, (by exact ⟨by omega, by omega, rfl⟩)⟩
 case round =>
  rintro _ w2 _ ⟨v, n, cs, xs, k, G2, rfl, hle2, H, hinv2, rfl⟩
  have hlist := hlist.up hle2
  obtain ⟨hchk2_0, hn2_0, hinv2⟩ := hinv2
  obtain ⟨av2_0, cv2_0, rfl⟩ := H.accShape (k := 0) rfl
  obtain ⟨hk, hxl, hxs⟩ := hinv2
  refine W_seq (q2 (mV Z (mV Z (o_len_slice underlying29 Z Z (o_lss Z Z Z (q3 ?_))))))
  refine W_cond Z ?_ ?_
  ·intro hc3
   try simp only [nrm] at hc3
   refine W_skip (N_K (W_seq (W_block (q2 (mV Z (mV Z (mV Z (o_index_P k hlist underlying29 sizeOf66 Z Z Z Z aN ?_)))))))); intro b4 o4 z4 q4 hz4 hE4 hrow4
   obtain ⟨a4, m4, c4, rfl, hi4, hr4⟩ := hE4; have hy_hi4 : _ ≤ 16777216 := hi4; have hn_hr4 := hr4.len; have hx_hr4 : _ ≤ 1099511627776 := hr4.lim
   refine o_fieldAddr 2 runUnderlying66 Z sizeOf41 Z Z Z (o_load_P H isAgg41 Z Z (hrow4 2 _ Z) ?_)
   obtain ⟨G6, H, hsg6, hsr6⟩ := H.shut' (k := 0) rfl hchk2_0 aN aN
   have hr4 := hr4.up hsg6
   have hle2 := hle2.trans hsg6
   refine o_call call110 Z Z (FileFree_c _ _ H.sub _ _ hsr6 _ _ hr4 ) ?_
   rintro _ w5 ⟨G5, _, _, g5, rfl, ⟨u5_0, rfl, ⟨cs5, rfl, hchk5⟩⟩, hp5, hq5, hs5⟩
   have H := H.growO g5 hp5 hq5 hs5; obtain ⟨av5, cv5, rfl⟩ := H.accShape (k := 0) rfl
   have hle2 := hle2.trans g5.le
   refine ⟨_, Z, ?_⟩
   refine mV Z (o_extract Z Z Z (o_extract Z Z Z (aG Z (aG Z (q3 (W_region (mV Z (aG Z (R_nil (N_B (N_K (W_region (mV Z (o_add Z Z Z oO (aG Z ?_)))))))))))))))
   refine R_nil ?_
   refine N_lp (hJ := ⟨_, _, _, ((Sp.FileFree xs z4.ids).getD []), k + 1, _, Z, hle2, H, ?inv, Z⟩) (hm := ?hm)
   case hm => omega
   case inv => exact ⟨hchk5, aN, (by exact ⟨by omega, by (have := Sp.free_len xs z4.ids; omega), by (rw [Sp.l12Free_succ hz4, ← hxs])⟩)⟩
  intro hc3'
  try simp only [nrm] at hc3'
  refine W_exit (N_K_exit (N_LP_exit (N_B_same (N_K (q2 (mV Z (aG Z (q3 (W_ret (rt1 results55 Z ?_))))))))))
  obtain rfl : k = list.length := by omega
  rw [List.take_length] at hxs
  subst hxs
  exact H.retO (k := 0) rfl (AccOf.mk (by assumption) hchk2_0) (acc_nd _ _ _ _ _)
theorem SnapBack_c (w0 : World) (G0 : PH) (hG : PSub G0 w0) (cd : List Value) (d : BDisk) (hd : diskE G0 d cd) (name : Bs) (hname : name.length ≤ 16777216)  :
  Calls Tryz.prog 39 #[.agg cd.toArray, str name] w0 (RetO w0 G0 (fun G val r => ∃ u u1 u2, val = .tuple #[.agg #[u, u1, u2], .bool (Sp.SnapBack d name).isSome] ∧ AccOf snapE 2 58 (((Sp.SnapBack d name).map (·.snaps)).getD []) G u2 r ∧ RdH G u (((Sp.SnapBack d name).map (·.store)).getD []) ∧ RdItems G u1 (((Sp.SnapBack d name).map (·.tree)).getD []))) := by
 obtain ⟨a1, m1, c1, a1', m1', c1', a1'', m1'', c1'', rfl, hr1, hr1', hr1''⟩ := hd; have hn_hr1 := hr1.len; have hx_hr1 : _ ≤ 1099511627776 := hr1.lim; have hn_hr1q := hr1'.len; have hx_hr1q : _ ≤ 1099511627776 := hr1'.lim; have hn_hr1qq := hr1''.len; have hx_hr1qq : _ ≤ 1099511627776 := hr1''.lim
 have H := Hp.init hG
 refine calls_of_W (l := [_, str name]) func39 Z ntmps39 Z (q2 (o_box H Z Z Z ?_)); intro b2 w2 hb2 H
 refine o_alloc H zeroValue32 Z Z ?_; intro b3 w3 hb3 H
 refine aG Z (q1 (o_fieldAddr 2 runUnderlying32 Z sizeOf30 Z Z Z (o_load_B 1 H isAgg30 Z Z Z Z (mV Z (o_call call52 Z Z (l12At_c _ _ H.sub _ _ hr1'' _ hname ) ?_)))))
 rintro _ w4 ⟨rfl, ew4⟩; have H := H.step ew4; refine ⟨_, rfl, ?_⟩
 refine aG Z (q3 (W_seq (q2 (o_loadagg_B 1 H isAgg32 sizeOf32 Z Z Z Z Z (o_call call53 Z Z (DiskValid_c _ _ H.sub _ d ⟨_, _, _, _, _, _, _, _, _, Z, hr1, hr1', hr1''⟩ ) ?_)))))
 rintro _ w5 ⟨rfl, ew5⟩; have H := H.step ew5; refine ⟨_, rfl, ?_⟩
 refine o_not Z Z (mV Z ?_)
 refine R_case (t := 17) Z ?_ ?_
 ·intro hc6
  try simp only [nrm] at hc6
  refine rP Z (rP Z (o_pick_t Z Z Z (q3 (W_true Z (q2 (o_build bf32 Z Z Z (o_store_B 0 H sizeOf32 Z Z Z Z Z Z Z Z ?_))))))); intro w7 H
  refine aG Z (q3 (W_ret (N_K_ret (ret_gen (rs := [.cell 4 32, .tmp 5]) (vs := [_, _]) results39 ⟨⟨_, Z, load_blk 0 H isAgg32 sizeOf32 Z Z Z⟩, Z, trivial⟩ ?_))))
  have hN : Sp.SnapBack d name = none := by exact Sp.back_nov (by simpa using hc6)
  have H := H.addNil 58 2
  exact H.retO (k := 0) rfl (by rw [hN]; exact ⟨_, _, _, rfl, AccOf.mk rfl Chk.nil, RdS.nil _ _ _, RdS.nil _ _ _⟩) (acc_nd _ _ _ _ _)
 intro hc6'
 try simp only [nrm] at hc6'
 refine gR Z (mV Z (gR Z (o_lss Z Z Z (o_pick_f Z Z Z (q3 ?_)))))
 refine W_cond Z ?_ ?_
 ·intro hc8
  try simp only [nrm] at hc8
  refine q2 (o_build bf32 Z Z Z (o_store_B 0 H sizeOf32 Z Z Z Z Z Z Z Z ?_)); intro w9 H
  refine aG Z (q3 (W_ret (N_K_ret (ret_gen (rs := [.cell 4 32, .tmp 5]) (vs := [_, _]) results39 ⟨⟨_, Z, load_blk 0 H isAgg32 sizeOf32 Z Z Z⟩, Z, trivial⟩ ?_))))
  have hN : Sp.SnapBack d name = none := by exact Sp.back_noat (by simpa [Sp.l12At] using hc8)
  have H := H.addNil 58 2
  exact H.retO (k := 0) rfl (by rw [hN]; exact ⟨_, _, _, rfl, AccOf.mk rfl Chk.nil, RdS.nil _ _ _, RdS.nil _ _ _⟩) (acc_nd _ _ _ _ _)
 intro hc8'
 try simp only [nrm] at hc8'
 obtain ⟨i, x, ia, ib, ic, ie, ig⟩ := Sp.at_nat hc8'
 have ib : Sp.l12At d.snaps name = (i : Int) := ib
 have hat : Sp.atS d.snaps name = some i := ia
 refine W_skip (N_K (W_seq (W_drawK [0, 1] 14 H kR Z ?_))); intro w10 H; have hd10 := PLe.refl G0
 refine RD_t 0 Z kR Z (fun _ hK => v_fieldAddr 0 runUnderlying32 Z sizeOf28 Z Z) (RD_t 1 Z kR Z (fun _ hK => v_load_B 1 hK isAgg28 Z Z Z) (RD_t 2 Z kR Z (fun _ hK => v_fieldAddr 2 runUnderlying32 Z sizeOf30 Z Z) (RD_t 3 Z kR Z (fun _ hK => v_load_B 1 hK isAgg30 Z Z Z) (vM 4 Z Z ?_))))
 have hl11 := hr1''.len
 obtain ⟨b11, o11, z11, q11, ha11, hz11, hq11, hE11, hrow11, _⟩ := hr1''.at (i := i) oM
 clear hq11
 obtain ⟨a11, m11, c11, rfl, hi11, hr11⟩ := hE11; have hy_hi11 : _ ≤ 16777216 := hi11; have hn_hr11 := hr11.len; have hx_hr11 : _ ≤ 1099511627776 := hr11.lim
 refine RD_t 5 Z kR Z (fun _ hK => v_index_P (i := i) ha11 underlying30 sizeOf58 Z Z ib oM) (RD_t 6 Z kR Z (fun _ hK => v_fieldAddr 1 runUnderlying58 Z sizeOf29 Z Z) (RD_t 7 Z kR Z (fun _ hK => v_load_P hK isAgg29 Z (hrow11 1 _ Z)) ?_))
 refine RD_run [8] kR Z (RDs.cons Z ?_ RDs.nil)
 refine o_call call86 Z Z (l12Keep_c _ _ H.sub _ _ hr1 _ _ hr11 ) ?_
 rintro _ w12 ⟨G12, _, _, g12, rfl, ⟨u12_0, rfl, ⟨cs12, rfl, hchk12⟩⟩, hp12, hq12, hs12⟩
 have H := H.growO g12 hp12 hq12 hs12; obtain ⟨av12, cv12, rfl⟩ := H.accShape (k := 0) rfl
 have hr1 := hr1.up g12.le
 have hr1' := hr1'.up g12.le
 have hr1'' := hr1''.up g12.le
 have hd10 := hd10.trans g12.le
 refine ⟨_, Z, ?_⟩
 have hkl := Sp.l12Keep_len d.store z11.tree
 refine R_nil (N_DK (Kn.of' H hd10 (SubL.cons 1 Z (SubL.cons 2 Z SubL.nil))) (vM 9 Z Z (RD_t 10 Z kR Z (fun _ hK => v_extract Z Z) (RD_t 11 Z kR Z (fun _ hK => v_extract Z Z) (RD_t 12 Z kR Z (fun _ hK => v_assign Z) (RD_t 13 Z kR Z (fun _ hK => v_assign Z) (RD_done kR (N_K (W_seq (q2 (mV Z (o_not Z Z (q3 ?_)))))))))))))
 refine W_cond Z ?_ ?_
 ·intro hc13
  try simp only [nrm] at hc13
  refine q2 (o_build bf32 Z Z Z (o_store_B 1 H sizeOf32 Z Z Z Z Z Z Z Z ?_)); intro w14 H
  refine aG Z (q3 (W_ret (N_K_ret (ret_gen (rs := [.cell 4 32, .tmp 5]) (vs := [_, _]) results39 ⟨⟨_, Z, load_blk 1 H isAgg32 sizeOf32 Z Z Z⟩, Z, trivial⟩ ?_))))
  have hN : Sp.SnapBack d name = none := by (have hno : Sp.l12Keep d.store z11.tree = none := by simpa using hc13); (rw [Sp.back_eq (by simpa using hc6') hat hz11, hno]; rfl)
  have H := H.addNil 58 2
  exact H.retO (k := 0) rfl (by rw [hN]; exact ⟨_, _, _, rfl, AccOf.mk rfl Chk.nil, RdS.nil _ _ _, RdS.nil _ _ _⟩) (acc_nd _ _ _ _ _)
 intro hc13'
 try simp only [nrm] at hc13'
 refine W_skip (N_K (q2 (o_loadagg_B 2 H isAgg32 sizeOf32 Z Z Z Z Z (o_call call54 Z Z (l12Copy_c _ _ H.sub _ d ⟨_, _, _, _, _, _, _, _, _, Z, hr1, hr1', hr1''⟩ ) ?_))))
 rintro _ w15 ⟨G15, _, _, g15, rfl, ⟨u15_0, u15_1, u15_2, rfl, ⟨cs15, rfl, hchk15⟩, hr15_0, hr15_1⟩, hp15, hq15, hs15⟩
 have H := H.growO g15 hp15 hq15 hs15; obtain ⟨av15, cv15, rfl⟩ := H.accShape (k := 0) rfl
 have hr1' := hr1'.up g15.le
 have hr1'' := hr1''.up g15.le
 have hchk12 := hchk12.up g15.le
 obtain ⟨a15_0, k15_0, rfl⟩ := hr15_0.shape; have hx_hr15_0 : _ ≤ 1099511627776 := hr15_0.lim
 obtain ⟨a15_1, k15_1, rfl⟩ := hr15_1.shape; have hx_hr15_1 : _ ≤ 1099511627776 := hr15_1.lim
 refine ⟨_, Z, ?_⟩
 refine o_alloc H zeroValue32 Z Z ?_; intro b16 w16 hb16 H
 refine o_store_B 0 H sizeOf32 Z Z Z Z Z Z Z Z ?_; intro w17 H
 refine q1 (mV Z (o_fieldAddr 1 runUnderlying32 Z sizeOf29 Z Z Z (o_load_B 4 H isAgg29 Z Z Z Z ?_)))
 obtain ⟨G19, H, hsg19, hsr19⟩ := H.shut' (k := 2) rfl hchk12 aN aN
 have hr1' := hr1'.up hsg19
 have hr1'' := hr1''.up hsg19
 have hchk15 := hchk15.up hsg19
 refine o_call call55 Z Z (l12Free_c _ _ H.sub _ _ hsr19 _ _ hr1' ) ?_
 rintro _ w18 ⟨G18, v18, _, g18, rfl, ⟨cs18, rfl, hchk18⟩, hp18, hq18, hs18⟩
 have H := H.growO g18 hp18 hq18 hs18; obtain ⟨av18, cv18, rfl⟩ := H.accShape (k := 0) rfl
 have hr1'' := hr1''.up g18.le
 have hchk15 := hchk15.up g18.le
 refine ⟨_, Z, ?_⟩
 have hfl2 := Sp.l12Free_len d.tree ((Sp.l12Keep d.store z11.tree).getD [])
 refine o_fieldAddr 0 runUnderlying32 Z sizeOf28 Z Z Z (o_store_B 1 H sizeOf28 Z Z Z Z Z Z Z Z ?_); intro w20 H
 refine q1 (o_fieldAddr 2 runUnderlying32 Z sizeOf30 Z Z Z (o_load_B 4 H isAgg30 Z Z Z Z (mV Z (o_index_P i hr1'' underlying30 sizeOf58 Z Z Z ib aN ?_)))); intro b21 o21 z21 q21 hz21 hE21 hrow21
 obtain ⟨a21, m21, c21, rfl, hi21, hr21⟩ := hE21; have hy_hi21 : _ ≤ 16777216 := hi21; have hn_hr21 := hr21.len; have hx_hr21 : _ ≤ 1099511627776 := hr21.lim
 refine o_fieldAddr 1 runUnderlying58 Z sizeOf29 Z Z Z (o_load_P H isAgg29 Z Z (hrow21 1 _ Z) (o_call call87 Z Z (l5All_c _ _ H.sub _ _ hr21 ) ?_))
 rintro _ w22 ⟨G22, v22, _, g22, rfl, ⟨cs22, rfl, hchk22⟩, hp22, hq22, hs22⟩
 have H := H.growO g22 hp22 hq22 hs22; obtain ⟨av22, cv22, rfl⟩ := H.accShape (k := 0) rfl
 have hchk15 := hchk15.up g22.le
 have hchk18 := hchk18.up g22.le
 refine ⟨_, Z, ?_⟩
 refine o_fieldAddr 1 runUnderlying32 Z sizeOf29 Z Z Z (o_store_B 2 H sizeOf29 Z Z Z Z Z Z Z Z ?_); intro w23 H
 refine q1 (o_loadagg_B 2 H isAgg32 sizeOf32 Z Z Z Z Z (o_store_B 4 H sizeOf32 Z Z Z Z Z Z Z Z ?_)); intro w24 H
 refine aG Z (q3 (W_ret (ret_gen (rs := [.cell 4 32, .tmp 5]) (vs := [_, _]) results39 ⟨⟨_, Z, load_blk 4 H isAgg32 sizeOf32 Z Z Z⟩, Z, trivial⟩ ?_)))
 have hzz := Option.some.inj (hz21.symm.trans hz11); subst hzz
 obtain ⟨G526, H, hsg526, hsr526⟩ := H.shut' (k := 1) rfl hchk18 aN aN
 have hchk15 := hchk15.up hsg526
 have hchk22 := hchk22.up hsg526
 obtain ⟨G527, H, hsg527, hsr527⟩ := H.shut' (k := 0) rfl hchk22 aN aN
 have hchk15 := hchk15.up hsg527
 have hsr526 := hsr526.up hsg527
 have hY : Sp.SnapBack d name = some ⟨Sp.l12Free ((Sp.l12Keep d.store z21.tree).getD []) d.tree, z21.tree, d.snaps⟩ := by (obtain ⟨p, hp⟩ := Option.isSome_iff_exists.1 hc13'); (rw [Sp.back_eq (by simpa using hc6') hat hz21, hp]; rfl)
 exact H.retO (k := 1) rfl (by rw [hY]; exact ⟨_, _, _, rfl, AccOf.mk aN hchk15, hsr526, hsr527⟩) (acc_nd _ _ _ _ _)
theorem SnapDrop_c (w0 : World) (G0 : PH) (hG : PSub G0 w0) (cd : List Value) (d : BDisk) (hd : diskE G0 d cd) (name : Bs) (hname : name.length ≤ 16777216)  :
  Calls Tryz.prog 16 #[.agg cd.toArray, str name] w0 (RetO w0 G0 (fun G val r => ∃ u u1 u2, val = .tuple #[.agg #[u, u1, u2], .bool (Sp.SnapDrop d name).isSome] ∧ AccOf snapE 2 58 (((Sp.SnapDrop d name).map (·.snaps)).getD []) G u2 r ∧ RdH G u (((Sp.SnapDrop d name).map (·.store)).getD []) ∧ RdItems G u1 (((Sp.SnapDrop d name).map (·.tree)).getD []))) := by
 obtain ⟨a1, m1, c1, a1', m1', c1', a1'', m1'', c1'', rfl, hr1, hr1', hr1''⟩ := hd; have hn_hr1 := hr1.len; have hx_hr1 : _ ≤ 1099511627776 := hr1.lim; have hn_hr1q := hr1'.len; have hx_hr1q : _ ≤ 1099511627776 := hr1'.lim; have hn_hr1qq := hr1''.len; have hx_hr1qq : _ ≤ 1099511627776 := hr1''.lim
 have H := Hp.init hG
 refine calls_of_W (l := [_, str name]) func16 Z ntmps16 Z (q2 (o_box H Z Z Z ?_)); intro b2 w2 hb2 H
 refine o_alloc H zeroValue32 Z Z ?_; intro b3 w3 hb3 H
 refine aG Z (q1 (o_fieldAddr 2 runUnderlying32 Z sizeOf30 Z Z Z (o_load_B 1 H isAgg30 Z Z Z Z (mV Z (o_call call52 Z Z (l12At_c _ _ H.sub _ _ hr1'' _ hname ) ?_)))))
 rintro _ w4 ⟨rfl, ew4⟩; have H := H.step ew4; refine ⟨_, rfl, ?_⟩
 refine aG Z (q3 (W_seq (q2 (o_loadagg_B 1 H isAgg32 sizeOf32 Z Z Z Z Z (o_call call53 Z Z (DiskValid_c _ _ H.sub _ d ⟨_, _, _, _, _, _, _, _, _, Z, hr1, hr1', hr1''⟩ ) ?_)))))
 rintro _ w5 ⟨rfl, ew5⟩; have H := H.step ew5; refine ⟨_, rfl, ?_⟩
 refine o_not Z Z (mV Z ?_)
 refine R_case (t := 15) Z ?_ ?_
 ·intro hc6
  try simp only [nrm] at hc6
  refine rP Z (rP Z (o_pick_t Z Z Z (q3 (W_true Z (q2 (o_build bf32 Z Z Z (o_store_B 0 H sizeOf32 Z Z Z Z Z Z Z Z ?_))))))); intro w7 H
  refine aG Z (q3 (W_ret (N_K_ret (ret_gen (rs := [.cell 4 32, .tmp 5]) (vs := [_, _]) results16 ⟨⟨_, Z, load_blk 0 H isAgg32 sizeOf32 Z Z Z⟩, Z, trivial⟩ ?_))))
  have hN : Sp.SnapDrop d name = none := by exact Sp.sdrop_nov (by simpa using hc6)
  have H := H.addNil 58 2
  exact H.retO (k := 0) rfl (by rw [hN]; exact ⟨_, _, _, rfl, AccOf.mk rfl Chk.nil, RdS.nil _ _ _, RdS.nil _ _ _⟩) (acc_nd _ _ _ _ _)
 intro hc6'
 try simp only [nrm] at hc6'
 refine gR Z (mV Z (gR Z (o_lss Z Z Z (o_pick_f Z Z Z (q3 ?_)))))
 refine W_cond Z ?_ ?_
 ·intro hc8
  try simp only [nrm] at hc8
  refine q2 (o_build bf32 Z Z Z (o_store_B 0 H sizeOf32 Z Z Z Z Z Z Z Z ?_)); intro w9 H
  refine aG Z (q3 (W_ret (N_K_ret (ret_gen (rs := [.cell 4 32, .tmp 5]) (vs := [_, _]) results16 ⟨⟨_, Z, load_blk 0 H isAgg32 sizeOf32 Z Z Z⟩, Z, trivial⟩ ?_))))
  have hN : Sp.SnapDrop d name = none := by exact Sp.sdrop_noat (by simpa [Sp.l12At] using hc8)
  have H := H.addNil 58 2
  exact H.retO (k := 0) rfl (by rw [hN]; exact ⟨_, _, _, rfl, AccOf.mk rfl Chk.nil, RdS.nil _ _ _, RdS.nil _ _ _⟩) (acc_nd _ _ _ _ _)
 intro hc8'
 try simp only [nrm] at hc8'
 obtain ⟨i, x, ia, ib, ic, ie, ig⟩ := Sp.at_nat hc8'
 have ib : Sp.l12At d.snaps name = (i : Int) := ib
 have hat : Sp.atS d.snaps name = some i := ia
 refine W_skip (N_K (q2 (o_loadagg_B 1 H isAgg32 sizeOf32 Z Z Z Z Z (o_call call54 Z Z (l12Copy_c _ _ H.sub _ d ⟨_, _, _, _, _, _, _, _, _, Z, hr1, hr1', hr1''⟩ ) ?_))))
 rintro _ w10 ⟨G10, _, _, g10, rfl, ⟨u10_0, u10_1, u10_2, rfl, ⟨cs10, rfl, hchk10⟩, hr10_0, hr10_1⟩, hp10, hq10, hs10⟩
 have H := H.growO g10 hp10 hq10 hs10; obtain ⟨av10, cv10, rfl⟩ := H.accShape (k := 0) rfl
 have hr1 := hr1.up g10.le
 have hr1'' := hr1''.up g10.le
 obtain ⟨a10_0, k10_0, rfl⟩ := hr10_0.shape; have hx_hr10_0 : _ ≤ 1099511627776 := hr10_0.lim
 obtain ⟨a10_1, k10_1, rfl⟩ := hr10_1.shape; have hx_hr10_1 : _ ≤ 1099511627776 := hr10_1.lim
 refine ⟨_, Z, ?_⟩
 refine o_alloc H zeroValue32 Z Z ?_; intro b11 w11 hb11 H
 refine o_store_B 0 H sizeOf32 Z Z Z Z Z Z Z Z ?_; intro w12 H
 refine q3 (W_seq (W_drawK [0, 2, 3] 11 H kR Z ?_)); intro w13 H; have hd13 := PLe.refl G10
 refine RD_t 0 Z kR Z (fun _ hK => v_fieldAddr 0 runUnderlying32 Z sizeOf28 Z Z) (RD_t 1 Z kR Z (fun _ hK => v_load_B 2 hK isAgg28 Z Z Z) (RD_t 2 Z kR Z (fun _ hK => v_fieldAddr 2 runUnderlying32 Z sizeOf30 Z Z) (RD_t 3 Z kR Z (fun _ hK => v_load_B 2 hK isAgg30 Z Z Z) (vM 4 Z Z ?_))))
 have hl14 := hr1''.len
 obtain ⟨b14, o14, z14, q14, ha14, hz14, hq14, hE14, hrow14, _⟩ := hr1''.at (i := i) oM
 clear hq14
 obtain ⟨a14, m14, c14, rfl, hi14, hr14⟩ := hE14; have hy_hi14 : _ ≤ 16777216 := hi14; have hn_hr14 := hr14.len; have hx_hr14 : _ ≤ 1099511627776 := hr14.lim
 refine RD_t 5 Z kR Z (fun _ hK => v_index_P (i := i) ha14 underlying30 sizeOf58 Z Z ib oM) (RD_t 6 Z kR Z (fun _ hK => v_fieldAddr 1 runUnderlying58 Z sizeOf29 Z Z) (RD_t 7 Z kR Z (fun _ hK => v_load_P hK isAgg29 Z (hrow14 1 _ Z)) ?_))
 refine RD_run [8] kR Z (RDs.cons Z ?_ RDs.nil)
 refine o_call call55 Z Z (l12Free_c _ _ H.sub _ _ hr1 _ _ hr14 ) ?_
 rintro _ w15 ⟨G15, v15, _, g15, rfl, ⟨cs15, rfl, hchk15⟩, hp15, hq15, hs15⟩
 have H := H.growO g15 hp15 hq15 hs15; obtain ⟨av15, cv15, rfl⟩ := H.accShape (k := 0) rfl
 have hr10_1 := hr10_1.up g15.le
 have hchk10 := hchk10.up g15.le
 have hd13 := hd13.trans g15.le
 refine ⟨_, Z, ?_⟩
 have hfl2 := Sp.l12Free_len z14.tree d.store
 refine R_nil (N_DK (Kn.of' H hd13 (SubL.cons 1 Z (SubL.cons 3 Z (SubL.cons 4 Z SubL.nil)))) (RD_t 9 Z kR Z (fun _ hK => v_fieldAddr 0 runUnderlying32 Z sizeOf28 Z Z) ?_))
 refine RD_run [10] kR Z (RDs.cons Z ?_ RDs.nil)
 refine o_store_B 1 H sizeOf28 Z Z Z Z Z Z Z Z ?_; intro w16 H
 refine R_nil (N_DKlast kR kR (N_K (W_seq (W_drawK [1, 3, 4] 12 H kR Z ?_)))); intro w17 H; have hd17 := PLe.refl G15
 refine RD_t 0 Z kR Z (fun _ hK => v_fieldAddr 2 runUnderlying32 Z sizeOf30 Z Z) (RD_t 1 Z kR Z (fun _ hK => v_load_B 0 hK isAgg30 Z Z Z) (vM 2 Z Z ?_))
 have hac18 := H.accCap (k := 2) rfl
 refine RD_t 3 Z kR Z (fun _ hK => v_slice_to (j := i) underlying30 sizeOf58 Z Z ib oM) (RD_t 4 Z kR Z (fun _ hK => v_fieldAddr 2 runUnderlying32 Z sizeOf30 Z Z) (RD_t 5 Z kR Z (fun _ hK => v_load_B 0 hK isAgg30 Z Z Z) (vM 6 Z Z (RD_t 7 Z kR Z (fun _ hK => v_add Z Z oO) ?_))))
 have hac20 := H.accCap (k := 2) rfl
 refine RD_t 8 Z kR Z (fun _ hK => v_slice_from (i := (i + 1)) underlying30 sizeOf58 Z Z oM oM) ?_
 refine RD_run [9] kR Z (RDs.cons Z ?_ RDs.nil)
 refine o_append_del 2 H i Z hchk10 (by intro z cs hz u hu; obtain ⟨_, _, _, rfl, _⟩ := hz; simp at hu; rcases hu with rfl | rfl <;> rfl) underlying30 typeInfo58 rfl rfl rfl rfl oM aN ?_; intro b21 w21 hb21 H hchk21; cases hb21
 refine R_nil (N_DK (Kn.of' H hd17 (SubL.cons 1 Z (SubL.cons 3 Z (SubL.cons 4 Z SubL.nil)))) (RD_t 10 Z kR Z (fun _ hK => v_fieldAddr 2 runUnderlying32 Z sizeOf30 Z Z) ?_))
 refine RD_run [11] kR Z (RDs.cons Z ?_ RDs.nil)
 refine o_store_B 1 H sizeOf30 Z Z Z Z Z Z Z Z ?_; intro w22 H
 refine R_nil (N_DKlast kR kR (N_K (q2 (o_loadagg_B 1 H isAgg32 sizeOf32 Z Z Z Z Z (o_store_B 3 H sizeOf32 Z Z Z Z Z Z Z Z ?_))))); intro w23 H
 refine aG Z (q3 (W_ret (ret_gen (rs := [.cell 4 32, .tmp 5]) (vs := [_, _]) results16 ⟨⟨_, Z, load_blk 3 H isAgg32 sizeOf32 Z Z Z⟩, Z, trivial⟩ ?_)))
 obtain ⟨G527, H, hsg527, hsr527⟩ := H.shut' (k := 0) rfl hchk15 aN aN
 have hr10_1 := hr10_1.up hsg527
 have hchk21 := hchk21.up hsg527
 have hY : Sp.SnapDrop d name = some ⟨Sp.l12Free d.store z14.tree, d.tree, d.snaps.take i ++ d.snaps.drop (i + 1)⟩ := by exact Sp.sdrop_eq (by simpa using hc6') hat hz14
 exact H.retO (k := 1) rfl (by rw [hY]; exact ⟨_, _, _, rfl, AccOf.mk aN hchk21, hsr527, hr10_1⟩) (acc_nd _ _ _ _ _)
end Go.Proofs.Tst

namespace Go.Proofs.Tst
open Go Fw Tryz
theorem SnapBackP_c (w0 : World) (G0 : PH) (hG : PSub G0 w0) (cd : List Value) (d : BDisk) (hd : diskE G0 d cd) (name : Bs) (hname : name.length ≤ 16777216) :
  Calls Tryz.prog 39 #[.agg cd.toArray, str name] w0 (RetP w0 G0 (fun G val => ∃ cs, val = .tuple #[.agg cs.toArray, .bool (Sp.SnapBack d name).isSome] ∧ diskE G ((Sp.SnapBack d name).getD ⟨[], [], []⟩) cs)) := by
 refine (SnapBack_c w0 G0 hG cd d hd name hname).mono ?_
 rintro _ w' ⟨G, v, r, g, rfl, ⟨u, u1, u2, rfl, ⟨cells, rfl, hchk⟩, h1, h2⟩, hp, hq, hs⟩
 have H := (Hp.init hG).growO g hp hq hs
 have hb : (((Sp.SnapBack d name).map (·.snaps)).getD []).length ≤ 6 := Sp.dk_lim (fun d1 h => Sp.back_valid h)
 obtain ⟨G2, H2, hle, hr⟩ := H.shut' (k := 0) rfl hchk rfl oM
 have e1 : ((Sp.SnapBack d name).map (·.store)).getD [] = ((Sp.SnapBack d name).getD ⟨[], [], []⟩).store := by cases Sp.SnapBack d name <;> rfl
 have e2 : ((Sp.SnapBack d name).map (·.tree)).getD [] = ((Sp.SnapBack d name).getD ⟨[], [], []⟩).tree := by cases Sp.SnapBack d name <;> rfl
 have e3 : ((Sp.SnapBack d name).map (·.snaps)).getD [] = ((Sp.SnapBack d name).getD ⟨[], [], []⟩).snaps := by cases Sp.SnapBack d name <;> rfl
 rw [e1] at h1; rw [e2] at h2; rw [e3] at hr
 obtain ⟨a1, c1, rfl⟩ := h1.shape
 obtain ⟨a2, c2, rfl⟩ := h2.shape
 obtain ⟨a3, c3, rfl⟩ := hr.shape
 exact H2.retP ⟨[_, _, _], Z, _, _, _, _, _, _, _, _, _, Z, h1.up hle, h2.up hle, hr⟩
theorem SnapDropP_c (w0 : World) (G0 : PH) (hG : PSub G0 w0) (cd : List Value) (d : BDisk) (hd : diskE G0 d cd) (name : Bs) (hname : name.length ≤ 16777216) :
  Calls Tryz.prog 16 #[.agg cd.toArray, str name] w0 (RetP w0 G0 (fun G val => ∃ cs, val = .tuple #[.agg cs.toArray, .bool (Sp.SnapDrop d name).isSome] ∧ diskE G ((Sp.SnapDrop d name).getD ⟨[], [], []⟩) cs)) := by
 refine (SnapDrop_c w0 G0 hG cd d hd name hname).mono ?_
 rintro _ w' ⟨G, v, r, g, rfl, ⟨u, u1, u2, rfl, ⟨cells, rfl, hchk⟩, h1, h2⟩, hp, hq, hs⟩
 have H := (Hp.init hG).growO g hp hq hs
 have hb : (((Sp.SnapDrop d name).map (·.snaps)).getD []).length ≤ 6 := Sp.dk_lim (fun d1 h => Sp.sdrop_valid h)
 obtain ⟨G2, H2, hle, hr⟩ := H.shut' (k := 0) rfl hchk rfl oM
 have e1 : ((Sp.SnapDrop d name).map (·.store)).getD [] = ((Sp.SnapDrop d name).getD ⟨[], [], []⟩).store := by cases Sp.SnapDrop d name <;> rfl
 have e2 : ((Sp.SnapDrop d name).map (·.tree)).getD [] = ((Sp.SnapDrop d name).getD ⟨[], [], []⟩).tree := by cases Sp.SnapDrop d name <;> rfl
 have e3 : ((Sp.SnapDrop d name).map (·.snaps)).getD [] = ((Sp.SnapDrop d name).getD ⟨[], [], []⟩).snaps := by cases Sp.SnapDrop d name <;> rfl
 rw [e1] at h1; rw [e2] at h2; rw [e3] at hr
 obtain ⟨a1, c1, rfl⟩ := h1.shape
 obtain ⟨a2, c2, rfl⟩ := h2.shape
 obtain ⟨a3, c3, rfl⟩ := hr.shape
 exact H2.retP ⟨[_, _, _], Z, _, _, _, _, _, _, _, _, _, Z, h1.up hle, h2.up hle, hr⟩
end Go.Proofs.Tst

namespace Go.Proofs.Tst
open Go Fw Tryz
theorem xSnapDrop_c (w0 : World) (G0 : PH) (hG : PSub G0 w0) (caD : List Value) (aD : BDisk) (haD : diskE G0 aD caD) (aName : Bs) (haName : aName.length ≤ 16777216)  :
  Calls Tryz.prog 3 #[.agg caD.toArray, str aName] w0 (Rets w0 (.bool true)) := by
 obtain ⟨a1, m1, c1, a1', m1', c1', a1'', m1'', c1'', rfl, hr1, hr1', hr1''⟩ := haD; have hn_hr1 := hr1.len; have hx_hr1 : _ ≤ 1099511627776 := hr1.lim; have hn_hr1q := hr1'.len; have hx_hr1q : _ ≤ 1099511627776 := hr1'.lim; have hn_hr1qq := hr1''.len; have hx_hr1qq : _ ≤ 1099511627776 := hr1''.lim
 have hcd0 := cDisk_le aD
 have hcD : cDisk ((Sp.SnapDrop aD aName).getD ⟨[], [], []⟩) ≤ 700 := dk_cnt (fun d1 h => Sp.sdrop_valid h)
 have H := Hp.init hG
 refine calls_of_W (l := [_, str aName]) func3 Z ntmps3 Z (q2 (o_box H Z Z Z ?_)); intro b2 w2 hb2 H
 refine aG Z (q3 (W_seq (q2 (mV Z (o_len_str underlying9 Z Z (o_gtr Z Z Z (q3 ?_)))))))
 refine W_cond Z ?_ ?_
 ·intro hc3
  try simp only [nrm] at hc3
  refine q2 (aG Z (q3 (W_ret (N_K_ret (rt1 results3 Z ?_)))))
  exact H.rets Z
 intro hc3'
 try simp only [nrm] at hc3'
 refine W_skip (N_K (q2 (aG Z (q1 (o_loadagg_B 0 H isAgg26 sizeOf26 Z Z Z Z Z (mV Z (o_call call15 Z Z (w_szDisk_c _ _ H.sub _ aD ⟨_, _, _, _, _, _, _, _, _, Z, hr1, hr1', hr1''⟩ _ oO) ?_)))))))
 rintro _ w4 ⟨_, rfl, ew4, ⟨r4, rfl, hra4⟩⟩
 skip
 have H := H.step ew4; refine ⟨_, rfl, ?_⟩
 refine aG Z (q3 (W_seq (q2 (mV Z (o_lss Z Z Z (q3 ?_))))))
 refine W_cond Z ?_ ?_
 ·intro hc5
  try simp only [nrm] at hc5
  refine q2 (aG Z (q3 (W_ret (N_K_ret (rt1 results3 Z ?_)))))
  exact H.rets Z
 intro hc5'
 try simp only [nrm] at hc5'
 refine W_skip (N_K (q2 (o_loadagg_B 0 H isAgg26 sizeOf26 Z Z Z Z Z (o_call call17 Z Z (w_toDisk_c _ _ H.sub _ aD ⟨_, _, _, _, _, _, _, _, _, Z, hr1, hr1', hr1''⟩ ) ?_))))
 rintro _ w6 ⟨_, _, rfl, H6', ⟨u16, u26, u36, D16, D26, D36, rfl, rfl, ho16, ho26, ho36⟩⟩
 have H := H.readers (fp := []) (by simp) (PLe.refl _) H6'
 obtain ⟨x16, p16⟩ := ho16
 obtain ⟨a16, c16, rfl⟩ := OwnS.shape p16
 obtain ⟨x26, p26⟩ := ho26
 obtain ⟨a26, c26, rfl⟩ := OwnS.shape p26
 obtain ⟨x36, p36⟩ := ho36
 obtain ⟨a36, c36, rfl⟩ := OwnS.shape p36
 refine ⟨_, Z, ?_⟩
 refine mV Z ?_
 have hnd8 := dm_nodup H (k := 0) rfl; obtain ⟨G8, H, hsg8, hsf8⟩ := H.keepF (k := 0) rfl (by simp); have hsr8 := (show OHs _ _ _ from ⟨_, p16⟩).rd hsf8 hnd8
 have hr1 := hr1.up hsg8
 have hr1' := hr1'.up hsg8
 have hr1'' := hr1''.up hsg8
 have hnd9 := dm_nodup H (k := 0) rfl; obtain ⟨G9, H, hsg9, hsf9⟩ := H.keepF (k := 0) rfl (by simp); have hsr9 := (show OIs _ _ _ from ⟨_, p26⟩).rd hsf9 hnd9
 have hr1 := hr1.up hsg9
 have hr1' := hr1'.up hsg9
 have hr1'' := hr1''.up hsg9
 have hsr8 := hsr8.up hsg9
 have hnd10 := dm_nodup H (k := 0) rfl; obtain ⟨G10, H, hsg10, hsf10⟩ := H.keepF (k := 0) rfl (by simp); have hsr10 := (show OSn _ _ _ from ⟨_, p36⟩).rd hsf10 hnd10
 have hr1 := hr1.up hsg10
 have hr1' := hr1'.up hsg10
 have hr1'' := hr1''.up hsg10
 have hsr8 := hsr8.up hsg10
 have hsr9 := hsr9.up hsg10
 refine o_call call16 Z Z (SnapDropP_c _ _ H.sub _ aD ⟨_, _, _, _, _, _, _, _, _, Z, hsr8, hsr9, hsr10⟩ _ haName ) ?_
 rintro _ w7 ⟨G7, _, g7, rfl, u7_0, rfl, hr7_0⟩
 have H := H.grow g7
 have hr1 := hr1.up g7.le
 have hr1' := hr1'.up g7.le
 have hr1'' := hr1''.up g7.le
 obtain ⟨a11, m11, c11, a11', m11', c11', a11'', m11'', c11'', rfl, hr11, hr11', hr11''⟩ := hr7_0; have hn_hr11 := hr11.len; have hx_hr11 : _ ≤ 1099511627776 := hr11.lim; have hn_hr11q := hr11'.len; have hx_hr11q : _ ≤ 1099511627776 := hr11'.lim; have hn_hr11qq := hr11''.len; have hx_hr11qq : _ ≤ 1099511627776 := hr11''.lim
 refine ⟨_, Z, ?_⟩
 refine mV Z (o_extract Z Z Z (o_extract Z Z Z (o_alloc H zeroValue32 Z Z ?_))); intro b12 w12 hb12 H
 refine o_store_B 0 H sizeOf32 Z Z Z Z Z Z Z Z ?_; intro w13 H
 refine aG Z (q1 (o_loadagg_B 1 H isAgg26 sizeOf26 Z Z Z Z Z (o_call call17 Z Z (w_toDisk_c _ _ H.sub _ aD ⟨_, _, _, _, _, _, _, _, _, Z, hr1, hr1', hr1''⟩ ) ?_)))
 rintro _ w14 ⟨_, _, rfl, H14', ⟨u114, u214, u314, D114, D214, D314, rfl, rfl, ho114, ho214, ho314⟩⟩
 have H := H.readers (fp := []) (by simp) (PLe.refl _) H14'
 obtain ⟨x114, p114⟩ := ho114
 obtain ⟨a114, c114, rfl⟩ := OwnS.shape p114
 obtain ⟨x214, p214⟩ := ho214
 obtain ⟨a214, c214, rfl⟩ := OwnS.shape p214
 obtain ⟨x314, p314⟩ := ho314
 obtain ⟨a314, c314, rfl⟩ := OwnS.shape p314
 refine ⟨_, Z, ?_⟩
 refine o_alloc H zeroValue32 Z Z ?_; intro b15 w15 hb15 H
 refine o_store_B 0 H sizeOf32 Z Z Z Z Z Z Z Z ?_; intro w16 H
 refine q1 (o_loadagg_B 0 H isAgg32 sizeOf32 Z Z Z Z Z (mV Z (o_call call18 Z Z (i_SnapDrop_c _ _ (H.lendSubL [1, 2, 3]) _ aD ⟨_, _, _, _, _, _, _, _, _, Z, (H.lendOHs (k := 1) (ks := [1, 2, 3]) Z Z ⟨_, p114⟩), (H.lendOIs (k := 2) (ks := [1, 2, 3]) Z Z ⟨_, p214⟩), (H.lendOSn (k := 3) (ks := [1, 2, 3]) Z Z ⟨_, p314⟩)⟩ _ haName ) ?_)))
 rintro _ w17 ⟨_, _, rfl, H17', ⟨u117, u217, u317, E117, E217, E317, rfl, rfl, ho117, ho217, ho317⟩⟩
 have H := H.readersL H17'
 obtain ⟨x117, p117⟩ := ho117
 obtain ⟨a117, c117, rfl⟩ := OwnS.shape p117
 obtain ⟨x217, p217⟩ := ho217
 obtain ⟨a217, c217, rfl⟩ := OwnS.shape p217
 obtain ⟨x317, p317⟩ := ho317
 obtain ⟨a317, c317, rfl⟩ := OwnS.shape p317
 refine ⟨_, Z, ?_⟩
 refine mV Z (o_extract Z Z Z (o_extract Z Z Z (o_alloc H zeroValue32 Z Z ?_))); intro b18 w18 hb18 H
 refine o_store_B 0 H sizeOf32 Z Z Z Z Z Z Z Z ?_; intro w19 H
 refine aG Z (q3 (W_seq (q2 (o_loadagg_B 0 H isAgg32 sizeOf32 Z Z Z Z Z (o_loadagg_B 8 H isAgg32 sizeOf32 Z Z Z Z Z (o_call call19 Z Z (w_eqDisk_c _ _ (H.lendSubL [1, 2, 3]) _ ((Sp.SnapDrop aD aName).getD ⟨[], [], []⟩) ⟨_, _, _, _, _, _, _, _, _, Z, (H.lendOHs (k := 1) (ks := [1, 2, 3]) Z Z ⟨_, p117⟩), (H.lendOIs (k := 2) (ks := [1, 2, 3]) Z Z ⟨_, p217⟩), (H.lendOSn (k := 3) (ks := [1, 2, 3]) Z Z ⟨_, p317⟩)⟩ _ ((Sp.SnapDrop aD aName).getD ⟨[], [], []⟩) ⟨_, _, _, _, _, _, _, _, _, Z, (hr11.up (PPlus.le _ _ _)), (hr11'.up (PPlus.le _ _ _)), (hr11''.up (PPlus.le _ _ _))⟩ Z) ?_))))))
 rintro _ w20 ⟨rfl, ew20⟩; have H := H.step ew20; refine ⟨_, rfl, ?_⟩
 refine o_not Z Z (mV Z (gR Z (mV Z (gR Z (mV Z (gR Z (o_bneq_same underlying4 Z Z Z (o_pick_f Z Z Z (q3 (W_false Z (W_skip (N_K (W_seq (W_seq (W_drawK [0, 4, 8, 9] 5 H kR Z ?_))))))))))))))); intro w21 H; have hd21 := PLe.refl G7
 refine RD_t 0 Z kR Z (fun _ hK => v_loadagg_B 1 hK isAgg32 sizeOf32 Z Z Z Z) (RD_t 1 Z kR Z (fun _ hK => v_loadagg_B 3 hK isAgg26 sizeOf26 Z Z Z Z) ?_)
 refine RD_run [2] kR Z (RDs.cons Z ?_ RDs.nil)
 refine o_call call17 Z Z (w_toDisk_c _ _ H.sub _ aD ⟨_, _, _, _, _, _, _, _, _, Z, hr1, hr1', hr1''⟩ ) ?_
 rintro _ w22 ⟨_, _, rfl, H22', ⟨u122, u222, u322, D122, D222, D322, rfl, rfl, ho122, ho222, ho322⟩⟩
 have H := H.readers (fp := []) (by simp) (PLe.refl _) H22'
 obtain ⟨x122, p122⟩ := ho122
 obtain ⟨a122, c122, rfl⟩ := OwnS.shape p122
 obtain ⟨x222, p222⟩ := ho222
 obtain ⟨a222, c222, rfl⟩ := OwnS.shape p222
 obtain ⟨x322, p322⟩ := ho322
 obtain ⟨a322, c322, rfl⟩ := OwnS.shape p322
 refine ⟨_, Z, ?_⟩
 refine R_nil (N_DK (Kn.of' H hd21 (SubL.cons 3 Z (SubL.cons 7 Z (SubL.cons 11 Z (SubL.cons 12 Z SubL.nil))))) ?_)
 refine RD_run [3] kR Z (RDs.cons Z ?_ RDs.nil)
 refine o_call call19 Z Z (w_eqDisk_c _ _ (H.lendSubL [0, 1, 2, 8, 9, 10]) _ aD ⟨_, _, _, _, _, _, _, _, _, Z, (H.lendOHs (k := 8) (ks := [0, 1, 2, 8, 9, 10]) Z Z ⟨_, p114⟩), (H.lendOIs (k := 9) (ks := [0, 1, 2, 8, 9, 10]) Z Z ⟨_, p214⟩), (H.lendOSn (k := 10) (ks := [0, 1, 2, 8, 9, 10]) Z Z ⟨_, p314⟩)⟩ _ aD ⟨_, _, _, _, _, _, _, _, _, Z, (H.lendOHs (k := 0) (ks := [0, 1, 2, 8, 9, 10]) Z Z ⟨_, p122⟩), (H.lendOIs (k := 1) (ks := [0, 1, 2, 8, 9, 10]) Z Z ⟨_, p222⟩), (H.lendOSn (k := 2) (ks := [0, 1, 2, 8, 9, 10]) Z Z ⟨_, p322⟩)⟩ Z) ?_
 rintro _ w23 ⟨rfl, ew23⟩; have H := H.step ew23; refine ⟨_, rfl, ?_⟩
 refine R_nil (N_DK (Kn.of' H hd21 (SubL.cons 3 Z (SubL.cons 7 Z (SubL.cons 11 Z (SubL.cons 12 Z SubL.nil))))) (RD_t 4 Z kR Z (fun _ hK => v_not Z) (RD_done kR (N_K (W_false Z (W_skip (N_K (q2 (aG Z (q1 (o_loadagg_B 7 H isAgg32 sizeOf32 Z Z Z Z Z (mV Z ?_))))))))))))
 have H := H.toFront (k := 10) rfl
 have H := H.toFront (k := 10) rfl
 have H := H.toFront (k := 10) rfl
 refine o_call call20 Z Z (w_markDisk_c _ _ H.sub _ _ _ _ _ _ aD ⟨_, p114⟩ ⟨_, p214⟩ ⟨_, p314⟩ _ H.lent3 oO) ?_
 rintro _ w24 ⟨G24, _, _, rfl, H24', ⟨K124, K224, K324, rfl, rfl, hK124, hK224, hK324⟩⟩
 have hr1 := hr1.up H24'.le
 have hr1' := hr1'.up H24'.le
 have hr1'' := hr1''.up H24'.le
 have hr11 := hr11.up H24'.le
 have hr11' := hr11'.up H24'.le
 have hr11'' := hr11''.up H24'.le
 have H := H.borrow3 H24'
 refine ⟨_, Z, ?_⟩
 refine aG Z (q3 (W_seq (q2 (mV Z (o_lss Z Z Z (mV Z ?_))))))
 refine R_case (t := 58) Z ?_ ?_
 ·intro hc25
  try simp only [nrm] at hc25
  exact absurd (show False from by first | omega | (simp at hc25; done) | exact hc25 rfl) id
 intro hc25'
 try simp only [nrm] at hc25'
 refine gR Z (o_loadagg_B 6 H isAgg32 sizeOf32 Z Z Z Z Z (gR Z (o_loadagg_B 11 H isAgg32 sizeOf32 Z Z Z Z Z (gR Z (o_call call19 Z Z (w_eqDisk_c _ _ (H.lendSubL [7, 8, 9]) _ ((Sp.SnapDrop aD aName).getD ⟨[], [], []⟩) ⟨_, _, _, _, _, _, _, _, _, Z, (H.lendOHs (k := 7) (ks := [7, 8, 9]) Z Z ⟨_, p117⟩), (H.lendOIs (k := 8) (ks := [7, 8, 9]) Z Z ⟨_, p217⟩), (H.lendOSn (k := 9) (ks := [7, 8, 9]) Z Z ⟨_, p317⟩)⟩ _ ((Sp.SnapDrop aD aName).getD ⟨[], [], []⟩) ⟨_, _, _, _, _, _, _, _, _, Z, (hr11.up (PPlus.le _ _ _)), (hr11'.up (PPlus.le _ _ _)), (hr11''.up (PPlus.le _ _ _))⟩ Z) ?_)))))
 rintro _ w26 ⟨rfl, ew26⟩; have H := H.step ew26; refine ⟨_, rfl, ?_⟩
 refine gR Z (o_not Z Z (o_pick_f Z Z Z (mV Z (gR Z (mV Z (gR Z (mV Z (gR Z (o_bneq_same underlying4 Z Z Z (o_pick_f Z Z Z (q3 (W_false Z (W_skip (N_K (q2 ?_)))))))))))))))
 refine aG Z (q1 (o_loadagg_B 6 H isAgg32 sizeOf32 Z Z Z Z Z (mV Z ?_)))
 have H := H.toFront (k := 9) rfl
 have H := H.toFront (k := 9) rfl
 have H := H.toFront (k := 9) rfl
 refine o_call call20 Z Z (w_markDisk_c _ _ H.sub _ _ _ _ _ _ ((Sp.SnapDrop aD aName).getD ⟨[], [], []⟩) ⟨_, p117⟩ ⟨_, p217⟩ ⟨_, p317⟩ _ H.lent3 oO) ?_
 rintro _ w27 ⟨G27, _, _, rfl, H27', ⟨K127, K227, K327, rfl, rfl, hK127, hK227, hK327⟩⟩
 have hr1 := hr1.up H27'.le
 have hr1' := hr1'.up H27'.le
 have hr1'' := hr1''.up H27'.le
 have hr11 := hr11.up H27'.le
 have hr11' := hr11'.up H27'.le
 have hr11'' := hr11''.up H27'.le
 have H := H.borrow3 H27'
 refine ⟨_, Z, ?_⟩
 refine aG Z (q1 (aG Z (q1 (o_loadagg_B 9 H isAgg32 sizeOf32 Z Z Z Z Z (mV Z (o_call call21 Z Z (w_heldDisk_c _ _ (H.lendSubL [0, 1, 2]) _ (mDisk 1 ((Sp.SnapDrop aD aName).getD ⟨[], [], []⟩)) ⟨_, _, _, _, _, _, _, _, _, Z, (H.lendOHs (k := 0) (ks := [0, 1, 2]) Z Z hK127), (H.lendOIs (k := 1) (ks := [0, 1, 2]) Z Z hK227), (H.lendOSn (k := 2) (ks := [0, 1, 2]) Z Z hK327)⟩ _ ((Sp.SnapDrop aD aName).getD ⟨[], [], []⟩) Z oO) ?_))))))
 rintro _ w28 ⟨rfl, ew28⟩; have H := H.step ew28; refine ⟨_, rfl, ?_⟩
 refine aG Z (q3 (W_seq (q2 (mV Z (o_lss Z Z Z (q3 ?_))))))
 refine W_cond Z ?_ ?_
 ·intro hc29
  try simp only [nrm] at hc29
  exact absurd (show False from by first | omega | (simp at hc29; done) | exact hc29 rfl) id
 intro hc29'
 try simp only [nrm] at hc29'
 refine W_skip (N_K (W_seq (q2 (mV Z (mV Z (o_neq Z Z Z (q3 ?_)))))))
 refine W_cond Z ?_ ?_
 ·intro hc30
  try simp only [nrm] at hc30
  exact absurd (show False from by first | omega | (simp at hc30; done) | exact hc30 rfl) id
 intro hc30'
 try simp only [nrm] at hc30'
 refine W_skip (N_K (q2 (o_loadagg_B 12 H isAgg26 sizeOf26 Z Z Z Z Z (o_call call17 Z Z (w_toDisk_c _ _ H.sub _ aD ⟨_, _, _, _, _, _, _, _, _, Z, hr1, hr1', hr1''⟩ ) ?_))))
 rintro _ w31 ⟨_, _, rfl, H31', ⟨u131, u231, u331, D131, D231, D331, rfl, rfl, ho131, ho231, ho331⟩⟩
 have H := H.readers (fp := []) (by simp) (PLe.refl _) H31'
 obtain ⟨x131, p131⟩ := ho131
 obtain ⟨a131, c131, rfl⟩ := OwnS.shape p131
 obtain ⟨x231, p231⟩ := ho231
 obtain ⟨a231, c231, rfl⟩ := OwnS.shape p231
 obtain ⟨x331, p331⟩ := ho331
 obtain ⟨a331, c331, rfl⟩ := OwnS.shape p331
 refine ⟨_, Z, ?_⟩
 refine mV Z (o_call call18 Z Z (i_SnapDrop_c _ _ (H.lendSubL [0, 1, 2]) _ aD ⟨_, _, _, _, _, _, _, _, _, Z, (H.lendOHs (k := 0) (ks := [0, 1, 2]) Z Z ⟨_, p131⟩), (H.lendOIs (k := 1) (ks := [0, 1, 2]) Z Z ⟨_, p231⟩), (H.lendOSn (k := 2) (ks := [0, 1, 2]) Z Z ⟨_, p331⟩)⟩ _ haName ) ?_)
 rintro _ w32 ⟨_, _, rfl, H32', ⟨u132, u232, u332, E132, E232, E332, rfl, rfl, ho132, ho232, ho332⟩⟩
 have H := H.readersL H32'
 obtain ⟨x132, p132⟩ := ho132
 obtain ⟨a132, c132, rfl⟩ := OwnS.shape p132
 obtain ⟨x232, p232⟩ := ho232
 obtain ⟨a232, c232, rfl⟩ := OwnS.shape p232
 obtain ⟨x332, p332⟩ := ho332
 obtain ⟨a332, c332, rfl⟩ := OwnS.shape p332
 refine ⟨_, Z, ?_⟩
 refine mV Z (o_extract Z Z Z (o_extract Z Z Z (o_alloc H zeroValue32 Z Z ?_))); intro b33 w33 hb33 H
 refine o_store_B 0 H sizeOf32 Z Z Z Z Z Z Z Z ?_; intro w34 H
 refine aG Z (q3 (W_seq (q2 (o_loadagg_B 0 H isAgg32 sizeOf32 Z Z Z Z Z (o_loadagg_B 18 H isAgg32 sizeOf32 Z Z Z Z Z (o_call call19 Z Z (w_eqDisk_c _ _ (H.lendSubL [1, 2, 3]) _ ((Sp.SnapDrop aD aName).getD ⟨[], [], []⟩) ⟨_, _, _, _, _, _, _, _, _, Z, (H.lendOHs (k := 1) (ks := [1, 2, 3]) Z Z ⟨_, p132⟩), (H.lendOIs (k := 2) (ks := [1, 2, 3]) Z Z ⟨_, p232⟩), (H.lendOSn (k := 3) (ks := [1, 2, 3]) Z Z ⟨_, p332⟩)⟩ _ ((Sp.SnapDrop aD aName).getD ⟨[], [], []⟩) ⟨_, _, _, _, _, _, _, _, _, Z, (hr11.up (PPlus.le _ _ _)), (hr11'.up (PPlus.le _ _ _)), (hr11''.up (PPlus.le _ _ _))⟩ Z) ?_))))))
 rintro _ w35 ⟨rfl, ew35⟩; have H := H.step ew35; refine ⟨_, rfl, ?_⟩
 refine o_not Z Z (mV Z (gR Z (mV Z (gR Z (mV Z (gR Z (o_bneq_same underlying4 Z Z Z (o_pick_f Z Z Z (q3 (W_false Z (W_skip (N_K (q2 (aG Z (q1 ?_)))))))))))))))
 refine o_loadagg_B 16 H isAgg32 sizeOf32 Z Z Z Z Z (mV Z (o_call call21 Z Z (w_heldDisk_c _ _ (H.lendSubL [7, 8, 9]) _ (mDisk 1 ((Sp.SnapDrop aD aName).getD ⟨[], [], []⟩)) ⟨_, _, _, _, _, _, _, _, _, Z, (H.lendOHs (k := 7) (ks := [7, 8, 9]) Z Z hK127), (H.lendOIs (k := 8) (ks := [7, 8, 9]) Z Z hK227), (H.lendOSn (k := 9) (ks := [7, 8, 9]) Z Z hK327)⟩ _ ((Sp.SnapDrop aD aName).getD ⟨[], [], []⟩) Z oO) ?_))
 rintro _ w36 ⟨rfl, ew36⟩; have H := H.step ew36; refine ⟨_, rfl, ?_⟩
 refine aG Z (q3 (W_seq (q2 (mV Z (o_lss Z Z Z (q3 ?_))))))
 refine W_cond Z ?_ ?_
 ·intro hc37
  try simp only [nrm] at hc37
  exact absurd (show False from by first | omega | (simp at hc37; done) | exact hc37 rfl) id
 intro hc37'
 try simp only [nrm] at hc37'
 refine W_skip (N_K (W_seq (q2 (mV Z (mV Z (o_neq Z Z Z (q3 ?_)))))))
 refine W_cond Z ?_ ?_
 ·intro hc38
  try simp only [nrm] at hc38
  exact absurd (show False from by first | omega | (simp at hc38; done) | exact hc38 rfl) id
 intro hc38'
 try simp only [nrm] at hc38'
 refine W_skip (N_K (q2 (aG Z (q3 (W_ret (rt1 results3 Z ?_))))))
 exact H.rets Z
end Go.Proofs.Tst

namespace Go.Proofs.Tst
open Go Fw Tryz
theorem xSnapBack_c (w0 : World) (G0 : PH) (hG : PSub G0 w0) (caD : List Value) (aD : BDisk) (haD : diskE G0 aD caD) (aName : Bs) (haName : aName.length ≤ 16777216)  :
  Calls Tryz.prog 6 #[.agg caD.toArray, str aName] w0 (Rets w0 (.bool true)) := by
 obtain ⟨a1, m1, c1, a1', m1', c1', a1'', m1'', c1'', rfl, hr1, hr1', hr1''⟩ := haD; have hn_hr1 := hr1.len; have hx_hr1 : _ ≤ 1099511627776 := hr1.lim; have hn_hr1q := hr1'.len; have hx_hr1q : _ ≤ 1099511627776 := hr1'.lim; have hn_hr1qq := hr1''.len; have hx_hr1qq : _ ≤ 1099511627776 := hr1''.lim
 have hcd0 := cDisk_le aD
 have hcD : cDisk ((Sp.SnapBack aD aName).getD ⟨[], [], []⟩) ≤ 700 := dk_cnt (fun d1 h => Sp.back_valid h)
 have H := Hp.init hG
 refine calls_of_W (l := [_, str aName]) func6 Z ntmps6 Z (q2 (o_box H Z Z Z ?_)); intro b2 w2 hb2 H
 refine aG Z (q3 (W_seq (q2 (mV Z (o_len_str underlying9 Z Z (o_gtr Z Z Z (q3 ?_)))))))
 refine W_cond Z ?_ ?_
 ·intro hc3
  try simp only [nrm] at hc3
  refine q2 (aG Z (q3 (W_ret (N_K_ret (rt1 results6 Z ?_)))))
  exact H.rets Z
 intro hc3'
 try simp only [nrm] at hc3'
 refine W_skip (N_K (q2 (aG Z (q1 (o_loadagg_B 0 H isAgg26 sizeOf26 Z Z Z Z Z (mV Z (o_call call15 Z Z (w_szDisk_c _ _ H.sub _ aD ⟨_, _, _, _, _, _, _, _, _, Z, hr1, hr1', hr1''⟩ _ oO) ?_)))))))
 rintro _ w4 ⟨_, rfl, ew4, ⟨r4, rfl, hra4⟩⟩
 skip
 have H := H.step ew4; refine ⟨_, rfl, ?_⟩
 refine aG Z (q3 (W_seq (q2 (mV Z (o_lss Z Z Z (q3 ?_))))))
 refine W_cond Z ?_ ?_
 ·intro hc5
  try simp only [nrm] at hc5
  refine q2 (aG Z (q3 (W_ret (N_K_ret (rt1 results6 Z ?_)))))
  exact H.rets Z
 intro hc5'
 try simp only [nrm] at hc5'
 refine W_skip (N_K (q2 (o_loadagg_B 0 H isAgg26 sizeOf26 Z Z Z Z Z (o_call call17 Z Z (w_toDisk_c _ _ H.sub _ aD ⟨_, _, _, _, _, _, _, _, _, Z, hr1, hr1', hr1''⟩ ) ?_))))
 rintro _ w6 ⟨_, _, rfl, H6', ⟨u16, u26, u36, D16, D26, D36, rfl, rfl, ho16, ho26, ho36⟩⟩
 have H := H.readers (fp := []) (by simp) (PLe.refl _) H6'
 obtain ⟨x16, p16⟩ := ho16
 obtain ⟨a16, c16, rfl⟩ := OwnS.shape p16
 obtain ⟨x26, p26⟩ := ho26
 obtain ⟨a26, c26, rfl⟩ := OwnS.shape p26
 obtain ⟨x36, p36⟩ := ho36
 obtain ⟨a36, c36, rfl⟩ := OwnS.shape p36
 refine ⟨_, Z, ?_⟩
 refine mV Z ?_
 have hnd8 := dm_nodup H (k := 0) rfl; obtain ⟨G8, H, hsg8, hsf8⟩ := H.keepF (k := 0) rfl (by simp); have hsr8 := (show OHs _ _ _ from ⟨_, p16⟩).rd hsf8 hnd8
 have hr1 := hr1.up hsg8
 have hr1' := hr1'.up hsg8
 have hr1'' := hr1''.up hsg8
 have hnd9 := dm_nodup H (k := 0) rfl; obtain ⟨G9, H, hsg9, hsf9⟩ := H.keepF (k := 0) rfl (by simp); have hsr9 := (show OIs _ _ _ from ⟨_, p26⟩).rd hsf9 hnd9
 have hr1 := hr1.up hsg9
 have hr1' := hr1'.up hsg9
 have hr1'' := hr1''.up hsg9
 have hsr8 := hsr8.up hsg9
 have hnd10 := dm_nodup H (k := 0) rfl; obtain ⟨G10, H, hsg10, hsf10⟩ := H.keepF (k := 0) rfl (by simp); have hsr10 := (show OSn _ _ _ from ⟨_, p36⟩).rd hsf10 hnd10
 have hr1 := hr1.up hsg10
 have hr1' := hr1'.up hsg10
 have hr1'' := hr1''.up hsg10
 have hsr8 := hsr8.up hsg10
 have hsr9 := hsr9.up hsg10
 refine o_call call39 Z Z (SnapBackP_c _ _ H.sub _ aD ⟨_, _, _, _, _, _, _, _, _, Z, hsr8, hsr9, hsr10⟩ _ haName ) ?_
 rintro _ w7 ⟨G7, _, g7, rfl, u7_0, rfl, hr7_0⟩
 have H := H.grow g7
 have hr1 := hr1.up g7.le
 have hr1' := hr1'.up g7.le
 have hr1'' := hr1''.up g7.le
 obtain ⟨a11, m11, c11, a11', m11', c11', a11'', m11'', c11'', rfl, hr11, hr11', hr11''⟩ := hr7_0; have hn_hr11 := hr11.len; have hx_hr11 : _ ≤ 1099511627776 := hr11.lim; have hn_hr11q := hr11'.len; have hx_hr11q : _ ≤ 1099511627776 := hr11'.lim; have hn_hr11qq := hr11''.len; have hx_hr11qq : _ ≤ 1099511627776 := hr11''.lim
 refine ⟨_, Z, ?_⟩
 refine mV Z (o_extract Z Z Z (o_extract Z Z Z (o_alloc H zeroValue32 Z Z ?_))); intro b12 w12 hb12 H
 refine o_store_B 0 H sizeOf32 Z Z Z Z Z Z Z Z ?_; intro w13 H
 refine aG Z (q1 (o_loadagg_B 1 H isAgg26 sizeOf26 Z Z Z Z Z (o_call call17 Z Z (w_toDisk_c _ _ H.sub _ aD ⟨_, _, _, _, _, _, _, _, _, Z, hr1, hr1', hr1''⟩ ) ?_)))
 rintro _ w14 ⟨_, _, rfl, H14', ⟨u114, u214, u314, D114, D214, D314, rfl, rfl, ho114, ho214, ho314⟩⟩
 have H := H.readers (fp := []) (by simp) (PLe.refl _) H14'
 obtain ⟨x114, p114⟩ := ho114
 obtain ⟨a114, c114, rfl⟩ := OwnS.shape p114
 obtain ⟨x214, p214⟩ := ho214
 obtain ⟨a214, c214, rfl⟩ := OwnS.shape p214
 obtain ⟨x314, p314⟩ := ho314
 obtain ⟨a314, c314, rfl⟩ := OwnS.shape p314
 refine ⟨_, Z, ?_⟩
 refine o_alloc H zeroValue32 Z Z ?_; intro b15 w15 hb15 H
 refine o_store_B 0 H sizeOf32 Z Z Z Z Z Z Z Z ?_; intro w16 H
 refine q1 (o_loadagg_B 0 H isAgg32 sizeOf32 Z Z Z Z Z (mV Z (o_call call40 Z Z (i_SnapBack_c _ _ (H.lendSubL [1, 2, 3]) _ aD ⟨_, _, _, _, _, _, _, _, _, Z, (H.lendOHs (k := 1) (ks := [1, 2, 3]) Z Z ⟨_, p114⟩), (H.lendOIs (k := 2) (ks := [1, 2, 3]) Z Z ⟨_, p214⟩), (H.lendOSn (k := 3) (ks := [1, 2, 3]) Z Z ⟨_, p314⟩)⟩ _ haName ) ?_)))
 rintro _ w17 ⟨_, _, rfl, H17', ⟨u117, u217, u317, E117, E217, E317, rfl, rfl, ho117, ho217, ho317⟩⟩
 have H := H.readersL H17'
 obtain ⟨x117, p117⟩ := ho117
 obtain ⟨a117, c117, rfl⟩ := OwnS.shape p117
 obtain ⟨x217, p217⟩ := ho217
 obtain ⟨a217, c217, rfl⟩ := OwnS.shape p217
 obtain ⟨x317, p317⟩ := ho317
 obtain ⟨a317, c317, rfl⟩ := OwnS.shape p317
 refine ⟨_, Z, ?_⟩
 refine mV Z (o_extract Z Z Z (o_extract Z Z Z (o_alloc H zeroValue32 Z Z ?_))); intro b18 w18 hb18 H
 refine o_store_B 0 H sizeOf32 Z Z Z Z Z Z Z Z ?_; intro w19 H
 refine aG Z (q3 (W_seq (q2 (o_loadagg_B 0 H isAgg32 sizeOf32 Z Z Z Z Z (o_loadagg_B 8 H isAgg32 sizeOf32 Z Z Z Z Z (o_call call19 Z Z (w_eqDisk_c _ _ (H.lendSubL [1, 2, 3]) _ ((Sp.SnapBack aD aName).getD ⟨[], [], []⟩) ⟨_, _, _, _, _, _, _, _, _, Z, (H.lendOHs (k := 1) (ks := [1, 2, 3]) Z Z ⟨_, p117⟩), (H.lendOIs (k := 2) (ks := [1, 2, 3]) Z Z ⟨_, p217⟩), (H.lendOSn (k := 3) (ks := [1, 2, 3]) Z Z ⟨_, p317⟩)⟩ _ ((Sp.SnapBack aD aName).getD ⟨[], [], []⟩) ⟨_, _, _, _, _, _, _, _, _, Z, (hr11.up (PPlus.le _ _ _)), (hr11'.up (PPlus.le _ _ _)), (hr11''.up (PPlus.le _ _ _))⟩ Z) ?_))))))
 rintro _ w20 ⟨rfl, ew20⟩; have H := H.step ew20; refine ⟨_, rfl, ?_⟩
 refine o_not Z Z (mV Z (gR Z (mV Z (gR Z (mV Z (gR Z (o_bneq_same underlying4 Z Z Z (o_pick_f Z Z Z (q3 (W_false Z (W_skip (N_K (W_seq (W_seq (W_drawK [0, 4, 8, 9] 5 H kR Z ?_))))))))))))))); intro w21 H; have hd21 := PLe.refl G7
 refine RD_t 0 Z kR Z (fun _ hK => v_loadagg_B 1 hK isAgg32 sizeOf32 Z Z Z Z) (RD_t 1 Z kR Z (fun _ hK => v_loadagg_B 3 hK isAgg26 sizeOf26 Z Z Z Z) ?_)
 refine RD_run [2] kR Z (RDs.cons Z ?_ RDs.nil)
 refine o_call call17 Z Z (w_toDisk_c _ _ H.sub _ aD ⟨_, _, _, _, _, _, _, _, _, Z, hr1, hr1', hr1''⟩ ) ?_
 rintro _ w22 ⟨_, _, rfl, H22', ⟨u122, u222, u322, D122, D222, D322, rfl, rfl, ho122, ho222, ho322⟩⟩
 have H := H.readers (fp := []) (by simp) (PLe.refl _) H22'
 obtain ⟨x122, p122⟩ := ho122
 obtain ⟨a122, c122, rfl⟩ := OwnS.shape p122
 obtain ⟨x222, p222⟩ := ho222
 obtain ⟨a222, c222, rfl⟩ := OwnS.shape p222
 obtain ⟨x322, p322⟩ := ho322
 obtain ⟨a322, c322, rfl⟩ := OwnS.shape p322
 refine ⟨_, Z, ?_⟩
 refine R_nil (N_DK (Kn.of' H hd21 (SubL.cons 3 Z (SubL.cons 7 Z (SubL.cons 11 Z (SubL.cons 12 Z SubL.nil))))) ?_)
 refine RD_run [3] kR Z (RDs.cons Z ?_ RDs.nil)
 refine o_call call19 Z Z (w_eqDisk_c _ _ (H.lendSubL [0, 1, 2, 8, 9, 10]) _ aD ⟨_, _, _, _, _, _, _, _, _, Z, (H.lendOHs (k := 8) (ks := [0, 1, 2, 8, 9, 10]) Z Z ⟨_, p114⟩), (H.lendOIs (k := 9) (ks := [0, 1, 2, 8, 9, 10]) Z Z ⟨_, p214⟩), (H.lendOSn (k := 10) (ks := [0, 1, 2, 8, 9, 10]) Z Z ⟨_, p314⟩)⟩ _ aD ⟨_, _, _, _, _, _, _, _, _, Z, (H.lendOHs (k := 0) (ks := [0, 1, 2, 8, 9, 10]) Z Z ⟨_, p122⟩), (H.lendOIs (k := 1) (ks := [0, 1, 2, 8, 9, 10]) Z Z ⟨_, p222⟩), (H.lendOSn (k := 2) (ks := [0, 1, 2, 8, 9, 10]) Z Z ⟨_, p322⟩)⟩ Z) ?_
 rintro _ w23 ⟨rfl, ew23⟩; have H := H.step ew23; refine ⟨_, rfl, ?_⟩
 refine R_nil (N_DK (Kn.of' H hd21 (SubL.cons 3 Z (SubL.cons 7 Z (SubL.cons 11 Z (SubL.cons 12 Z SubL.nil))))) (RD_t 4 Z kR Z (fun _ hK => v_not Z) (RD_done kR (N_K (W_false Z (W_skip (N_K (q2 (aG Z (q1 (o_loadagg_B 7 H isAgg32 sizeOf32 Z Z Z Z Z (mV Z ?_))))))))))))
 have H := H.toFront (k := 10) rfl
 have H := H.toFront (k := 10) rfl
 have H := H.toFront (k := 10) rfl
 refine o_call call20 Z Z (w_markDisk_c _ _ H.sub _ _ _ _ _ _ aD ⟨_, p114⟩ ⟨_, p214⟩ ⟨_, p314⟩ _ H.lent3 oO) ?_
 rintro _ w24 ⟨G24, _, _, rfl, H24', ⟨K124, K224, K324, rfl, rfl, hK124, hK224, hK324⟩⟩
 have hr1 := hr1.up H24'.le
 have hr1' := hr1'.up H24'.le
 have hr1'' := hr1''.up H24'.le
 have hr11 := hr11.up H24'.le
 have hr11' := hr11'.up H24'.le
 have hr11'' := hr11''.up H24'.le
 have H := H.borrow3 H24'
 refine ⟨_, Z, ?_⟩
 refine aG Z (q3 (W_seq (q2 (mV Z (o_lss Z Z Z (mV Z ?_))))))
 refine R_case (t := 58) Z ?_ ?_
 ·intro hc25
  try simp only [nrm] at hc25
  exact absurd (show False from by first | omega | (simp at hc25; done) | exact hc25 rfl) id
 intro hc25'
 try simp only [nrm] at hc25'
 refine gR Z (o_loadagg_B 6 H isAgg32 sizeOf32 Z Z Z Z Z (gR Z (o_loadagg_B 11 H isAgg32 sizeOf32 Z Z Z Z Z (gR Z (o_call call19 Z Z (w_eqDisk_c _ _ (H.lendSubL [7, 8, 9]) _ ((Sp.SnapBack aD aName).getD ⟨[], [], []⟩) ⟨_, _, _, _, _, _, _, _, _, Z, (H.lendOHs (k := 7) (ks := [7, 8, 9]) Z Z ⟨_, p117⟩), (H.lendOIs (k := 8) (ks := [7, 8, 9]) Z Z ⟨_, p217⟩), (H.lendOSn (k := 9) (ks := [7, 8, 9]) Z Z ⟨_, p317⟩)⟩ _ ((Sp.SnapBack aD aName).getD ⟨[], [], []⟩) ⟨_, _, _, _, _, _, _, _, _, Z, (hr11.up (PPlus.le _ _ _)), (hr11'.up (PPlus.le _ _ _)), (hr11''.up (PPlus.le _ _ _))⟩ Z) ?_)))))
 rintro _ w26 ⟨rfl, ew26⟩; have H := H.step ew26; refine ⟨_, rfl, ?_⟩
 refine gR Z (o_not Z Z (o_pick_f Z Z Z (mV Z (gR Z (mV Z (gR Z (mV Z (gR Z (o_bneq_same underlying4 Z Z Z (o_pick_f Z Z Z (q3 (W_false Z (W_skip (N_K (q2 ?_)))))))))))))))
 refine aG Z (q1 (o_loadagg_B 6 H isAgg32 sizeOf32 Z Z Z Z Z (mV Z ?_)))
 have H := H.toFront (k := 9) rfl
 have H := H.toFront (k := 9) rfl
 have H := H.toFront (k := 9) rfl
 refine o_call call20 Z Z (w_markDisk_c _ _ H.sub _ _ _ _ _ _ ((Sp.SnapBack aD aName).getD ⟨[], [], []⟩) ⟨_, p117⟩ ⟨_, p217⟩ ⟨_, p317⟩ _ H.lent3 oO) ?_
 rintro _ w27 ⟨G27, _, _, rfl, H27', ⟨K127, K227, K327, rfl, rfl, hK127, hK227, hK327⟩⟩
 have hr1 := hr1.up H27'.le
 have hr1' := hr1'.up H27'.le
 have hr1'' := hr1''.up H27'.le
 have hr11 := hr11.up H27'.le
 have hr11' := hr11'.up H27'.le
 have hr11'' := hr11''.up H27'.le
 have H := H.borrow3 H27'
 refine ⟨_, Z, ?_⟩
 refine aG Z (q1 (aG Z (q1 (o_loadagg_B 9 H isAgg32 sizeOf32 Z Z Z Z Z (mV Z (o_call call21 Z Z (w_heldDisk_c _ _ (H.lendSubL [0, 1, 2]) _ (mDisk 1 ((Sp.SnapBack aD aName).getD ⟨[], [], []⟩)) ⟨_, _, _, _, _, _, _, _, _, Z, (H.lendOHs (k := 0) (ks := [0, 1, 2]) Z Z hK127), (H.lendOIs (k := 1) (ks := [0, 1, 2]) Z Z hK227), (H.lendOSn (k := 2) (ks := [0, 1, 2]) Z Z hK327)⟩ _ ((Sp.SnapBack aD aName).getD ⟨[], [], []⟩) Z oO) ?_))))))
 rintro _ w28 ⟨rfl, ew28⟩; have H := H.step ew28; refine ⟨_, rfl, ?_⟩
 refine aG Z (q3 (W_seq (q2 (mV Z (o_lss Z Z Z (q3 ?_))))))
 refine W_cond Z ?_ ?_
 ·intro hc29
  try simp only [nrm] at hc29
  exact absurd (show False from by first | omega | (simp at hc29; done) | exact hc29 rfl) id
 intro hc29'
 try simp only [nrm] at hc29'
 refine W_skip (N_K (W_seq (q2 (mV Z (mV Z (o_neq Z Z Z (q3 ?_)))))))
 refine W_cond Z ?_ ?_
 ·intro hc30
  try simp only [nrm] at hc30
  exact absurd (show False from by first | omega | (simp at hc30; done) | exact hc30 rfl) id
 intro hc30'
 try simp only [nrm] at hc30'
 refine W_skip (N_K (q2 (o_loadagg_B 12 H isAgg26 sizeOf26 Z Z Z Z Z (o_call call17 Z Z (w_toDisk_c _ _ H.sub _ aD ⟨_, _, _, _, _, _, _, _, _, Z, hr1, hr1', hr1''⟩ ) ?_))))
 rintro _ w31 ⟨_, _, rfl, H31', ⟨u131, u231, u331, D131, D231, D331, rfl, rfl, ho131, ho231, ho331⟩⟩
 have H := H.readers (fp := []) (by simp) (PLe.refl _) H31'
 obtain ⟨x131, p131⟩ := ho131
 obtain ⟨a131, c131, rfl⟩ := OwnS.shape p131
 obtain ⟨x231, p231⟩ := ho231
 obtain ⟨a231, c231, rfl⟩ := OwnS.shape p231
 obtain ⟨x331, p331⟩ := ho331
 obtain ⟨a331, c331, rfl⟩ := OwnS.shape p331
 refine ⟨_, Z, ?_⟩
 refine mV Z (o_call call40 Z Z (i_SnapBack_c _ _ (H.lendSubL [0, 1, 2]) _ aD ⟨_, _, _, _, _, _, _, _, _, Z, (H.lendOHs (k := 0) (ks := [0, 1, 2]) Z Z ⟨_, p131⟩), (H.lendOIs (k := 1) (ks := [0, 1, 2]) Z Z ⟨_, p231⟩), (H.lendOSn (k := 2) (ks := [0, 1, 2]) Z Z ⟨_, p331⟩)⟩ _ haName ) ?_)
 rintro _ w32 ⟨_, _, rfl, H32', ⟨u132, u232, u332, E132, E232, E332, rfl, rfl, ho132, ho232, ho332⟩⟩
 have H := H.readersL H32'
 obtain ⟨x132, p132⟩ := ho132
 obtain ⟨a132, c132, rfl⟩ := OwnS.shape p132
 obtain ⟨x232, p232⟩ := ho232
 obtain ⟨a232, c232, rfl⟩ := OwnS.shape p232
 obtain ⟨x332, p332⟩ := ho332
 obtain ⟨a332, c332, rfl⟩ := OwnS.shape p332
 refine ⟨_, Z, ?_⟩
 refine mV Z (o_extract Z Z Z (o_extract Z Z Z (o_alloc H zeroValue32 Z Z ?_))); intro b33 w33 hb33 H
 refine o_store_B 0 H sizeOf32 Z Z Z Z Z Z Z Z ?_; intro w34 H
 refine aG Z (q3 (W_seq (q2 (o_loadagg_B 0 H isAgg32 sizeOf32 Z Z Z Z Z (o_loadagg_B 18 H isAgg32 sizeOf32 Z Z Z Z Z (o_call call19 Z Z (w_eqDisk_c _ _ (H.lendSubL [1, 2, 3]) _ ((Sp.SnapBack aD aName).getD ⟨[], [], []⟩) ⟨_, _, _, _, _, _, _, _, _, Z, (H.lendOHs (k := 1) (ks := [1, 2, 3]) Z Z ⟨_, p132⟩), (H.lendOIs (k := 2) (ks := [1, 2, 3]) Z Z ⟨_, p232⟩), (H.lendOSn (k := 3) (ks := [1, 2, 3]) Z Z ⟨_, p332⟩)⟩ _ ((Sp.SnapBack aD aName).getD ⟨[], [], []⟩) ⟨_, _, _, _, _, _, _, _, _, Z, (hr11.up (PPlus.le _ _ _)), (hr11'.up (PPlus.le _ _ _)), (hr11''.up (PPlus.le _ _ _))⟩ Z) ?_))))))
 rintro _ w35 ⟨rfl, ew35⟩; have H := H.step ew35; refine ⟨_, rfl, ?_⟩
 refine o_not Z Z (mV Z (gR Z (mV Z (gR Z (mV Z (gR Z (o_bneq_same underlying4 Z Z Z (o_pick_f Z Z Z (q3 (W_false Z (W_skip (N_K (q2 (aG Z (q1 ?_)))))))))))))))
 refine o_loadagg_B 16 H isAgg32 sizeOf32 Z Z Z Z Z (mV Z (o_call call21 Z Z (w_heldDisk_c _ _ (H.lendSubL [7, 8, 9]) _ (mDisk 1 ((Sp.SnapBack aD aName).getD ⟨[], [], []⟩)) ⟨_, _, _, _, _, _, _, _, _, Z, (H.lendOHs (k := 7) (ks := [7, 8, 9]) Z Z hK127), (H.lendOIs (k := 8) (ks := [7, 8, 9]) Z Z hK227), (H.lendOSn (k := 9) (ks := [7, 8, 9]) Z Z hK327)⟩ _ ((Sp.SnapBack aD aName).getD ⟨[], [], []⟩) Z oO) ?_))
 rintro _ w36 ⟨rfl, ew36⟩; have H := H.step ew36; refine ⟨_, rfl, ?_⟩
 refine aG Z (q3 (W_seq (q2 (mV Z (o_lss Z Z Z (q3 ?_))))))
 refine W_cond Z ?_ ?_
 ·intro hc37
  try simp only [nrm] at hc37
  exact absurd (show False from by first | omega | (simp at hc37; done) | exact hc37 rfl) id
 intro hc37'
 try simp only [nrm] at hc37'
 refine W_skip (N_K (W_seq (q2 (mV Z (mV Z (o_neq Z Z Z (q3 ?_)))))))
 refine W_cond Z ?_ ?_
 ·intro hc38
  try simp only [nrm] at hc38
  exact absurd (show False from by first | omega | (simp at hc38; done) | exact hc38 rfl) id
 intro hc38'
 try simp only [nrm] at hc38'
 refine W_skip (N_K (q2 (aG Z (q3 (W_ret (rt1 results6 Z ?_))))))
 exact H.rets Z
end Go.Proofs.Tst

