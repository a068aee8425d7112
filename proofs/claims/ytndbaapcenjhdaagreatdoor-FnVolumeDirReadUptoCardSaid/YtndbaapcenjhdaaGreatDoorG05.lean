/- Part 5 of the proof: the program logic and plain functions. Conditions: none. -/
import Derived.Test.YtndbaapcenjhdaaGreatDoorProg
import Derived.Test.YtndbaapcenjhdaaGreatDoorG00
import Derived.Test.YtndbaapcenjhdaaGreatDoorG01
import Derived.Test.YtndbaapcenjhdaaGreatDoorG02
import Derived.Test.YtndbaapcenjhdaaGreatDoorG04
import Derived.Test.YtndbaapcenjhdaaGreatDoorG03
import Derived.WideKeyArgs
import Derived.ChangeArms
import Derived.DataElems
import Derived.ChangeSame
set_option linter.all false
set_option maxRecDepth 100000
set_option maxHeartbeats 1000000
namespace Go.Proofs.Tst
open Go Fw
theorem i_vwrite_c (w0 : World) (G0 : PH) (hG : PSub G0 w0) (mb : Nat) (es : Array MapEntry) (ck : Nat) (xs : List (Int × Value)) (T : Nd) (FT : Fr) (L : List BHeld) (l : List BItem) (hm : MapIs (Value.int .i64) es ck xs) (hS : StR G0 xs L) (hN : NdO 83 67 G0 T FT) (hT : Nd.TOK T l) (hH : Sp.Hol L l) (path : Bs) (hpath : path.length ≤ 16777216) (vbytes : Value) (bytes : List (Int)) (hbytes : RdI G0 vbytes bytes) (hLent : Lent w0 G0 [blk mb (.map es ck), frag FT]) (hB : Sp.FileValid bytes = true) :
  Calls Tryz.prog 32 #[.agg #[.map (some mb), .pointer (some ⟨T.b, 0, none⟩)], str path, vbytes] w0 (RetM w0 G0 (fps [blk mb (.map es ck), frag FT]) (fun G' v Bs => ∃ (es' : Array MapEntry) (ck' : Nat) (xs' : List (Int × Value)) (F' : Fr) (T' : Nd) (L' : List BHeld), v = .bool ((Sp.l11Write ⟨L, l⟩ path bytes)).isSome ∧ Bs = [blk mb (.map es' ck'), frag F'] ∧ MapIs (Value.int .i64) es' ck' xs' ∧ StR G' xs' L' ∧ Sp.VH L' ∧ NdO 83 67 G' T' F' ∧ T'.b = T.b ∧ ∀ u', (Sp.l11Write ⟨L, l⟩ path bytes) = some u' → L' = u'.store ∧ Nd.TOK T' u'.tree ∧ Sp.Hol u'.store u'.tree)) := by
 obtain ⟨abytes, kbytes, rfl⟩ := hbytes.shape
 have hlimbytes : bytes.length ≤ 1099511627776 := hbytes.lim
 have H : Hp w0 G0 (fps [blk mb (.map es ck), frag FT]) w0 G0 [blk mb (.map es ck), frag FT] := hLent.hp
 have hVd := hH.vh; have hTc := hT.cnt; have hTl := hH.vt.len
 refine calls_of_W (l := [_, str path, .slice abytes bytes.length kbytes]) Tryz.func32 rfl Tryz.ntmps32 rfl ?_
 refine q2 ?_
 refine o_box H rfl rfl rfl ?_; intro b1 w1 hb1 H
 refine o_assign rfl rfl ?_
 refine q3 ?_
 refine W_seq ?_
 refine q2 ?_
 refine o_move rfl rfl ?_
 refine o_call Tryz.call77 rfl rfl (i_PathValid_c _ _ H.sub _ hpath ) ?_
 rintro _ w2 ⟨rfl, ew2⟩; have H := H.step ew2; refine ⟨_, rfl, ?_⟩
 refine o_not rfl rfl ?_
 refine q3 ?_
 refine W_cond rfl ?_ ?_
 ·intro hc3
  try simp only [nrm] at hc3
  refine q2 ?_
  refine o_assign rfl rfl ?_
  refine q3 ?_
  refine W_ret ?_
  refine N_K_ret ?_
  refine ret_gen (rs := [.tmp 6]) (vs := [_]) Tryz.results32 ⟨rfl, trivial⟩ ?_
  have H := H.del (k := 0) rfl
  have H := H.toFront (k := 1) rfl
  have H := H.toFront (k := 1) rfl
  have hno : Sp.l11Write ⟨L, l⟩ path bytes = none := Sp.write_nop (by simpa using hc3)
  exact H.retM ⟨_, _, _, _, _, _, congrArg Value.bool (by (rw [hno]; rfl)), rfl, hm, hS, hVd, hN, rfl, fun u' h => (by rw [hno] at h; cases h)⟩
 intro hc3'
 try simp only [nrm] at hc3'
 refine W_skip ?_
 refine N_K ?_
 refine q2 ?_
 refine o_fieldAddr 0 Tryz.runUnderlying69 rfl Tryz.sizeOf66 rfl rfl rfl ?_
 refine o_load_B 0 H Tryz.isAgg66 rfl rfl rfl rfl ?_
 refine o_move rfl rfl ?_
 have H := H.toFront (k := 1) rfl
 refine o_call Tryz.call78 rfl rfl (i_storeFile_c _ _ H.sub _ _ _ _ _ hm hS hVd _ _ hbytes H.lent1 hB) ?_
 rintro _ w4 ⟨G4, _, _, rfl, H4', ⟨es4, ck4, xs4, L4, u4, c4, ids4, rfl, rfl, hm4, hS4, hV4, hL4, hchk4, hidl4⟩⟩
 have hbytes := hbytes.up H4'.le
 have hS := hS.up H4'.le
 have hN := hN.up H4'.le
 have H := H.borrow1 H4'
 obtain ⟨avr4, cvr4, rfl⟩ := H.accShape (k := 0) rfl
 refine ⟨_, rfl, ?_⟩
 refine o_move rfl rfl ?_
 refine o_extract rfl rfl rfl ?_
 refine o_extract rfl rfl rfl ?_
 refine o_assign rfl rfl ?_
 refine o_assign rfl rfl ?_
 refine q3 ?_
 refine W_seq ?_
 refine q2 ?_
 refine o_move rfl rfl ?_
 refine o_not rfl rfl ?_
 refine q3 ?_
 refine W_cond rfl ?_ ?_
 ·intro hc5
  try simp only [nrm] at hc5
  refine q2 ?_
  refine o_assign rfl rfl ?_
  refine q3 ?_
  refine W_ret ?_
  refine N_K_ret ?_
  refine ret_gen (rs := [.tmp 6]) (vs := [_]) Tryz.results32 ⟨rfl, trivial⟩ ?_
  have H := H.del (k := 0) rfl
  have H := H.del (k := 1) rfl
  have H := H.toFront (k := 1) rfl
  have H := H.toFront (k := 1) rfl
  have hno : Sp.l11Write ⟨L, l⟩ path bytes = none := Sp.l11Write_1 (v := ⟨L, l⟩) (by simpa using hc5)
  exact H.retM ⟨_, _, _, _, _, _, congrArg Value.bool (by (rw [hno]; rfl)), rfl, hm4, hS4, hV4, hN, rfl, fun u' h => (by rw [hno] at h; cases h)⟩
 intro hc5'
 try simp only [nrm] at hc5'
 refine W_skip ?_
 refine N_K ?_
 refine q2 ?_
 obtain ⟨G6, H, hsg6, hsr6⟩ := H.shutL (k := 0) rfl (H.apart (k := 0) (ks := [1, 3]) rfl rfl (by intro b hb; simp only [fps, List.flatMap_cons, List.flatMap_nil, List.append_nil, List.mem_append] at hb; rcases hb with h | h; (· exact fpsAt_mem (k := 1) rfl rfl b (by exact h)); (· exact fpsAt_mem (k := 3) rfl rfl b (by exact h)))) hchk4 (by first | assumption | (simp; done) | (simp; omega) | omega) (by first | assumption | (simp; done) | (simp; omega) | omega)
 have hbytes := hbytes.up hsg6
 have hS := hS.up hsg6
 have hN := hN.up hsg6
 have hS4 := hS4.up hsg6
 have hchk4 := hchk4.up hsg6
 refine o_assign rfl rfl ?_
 refine q3 ?_
 refine W_seq ?_
 refine q2 ?_
 refine o_fieldAddr 1 Tryz.runUnderlying69 rfl Tryz.sizeOf67 rfl rfl rfl ?_
 refine o_load_B 1 H Tryz.isAgg67 rfl rfl rfl rfl ?_
 refine o_move rfl rfl ?_
 refine o_call Tryz.call41 rfl rfl (i_find_n_c _ _ (H.lendSubL [2]) _ ((H.lendN (k := 2) (ks := [2]) rfl rfl hN).at (show Nd.at_ T [] = some T from rfl)) _ hpath hT.wf) ?_
 rintro _ w7 ⟨_, rfl, ew7, ⟨hfi7, rfl⟩ | ⟨d7, hfi7, rfl⟩⟩
 ·skip
  have H := H.step ew7; refine ⟨_, rfl, ?_⟩
  refine o_assign rfl rfl ?_
  refine q1 ?_
  refine o_move rfl rfl ?_
  refine o_nenil_ptr Tryz.underlying67 rfl rfl rfl ?_
  refine q3 ?_
  refine W_false rfl ?_
  refine W_skip ?_
  refine N_K ?_
  refine q2 ?_
  refine o_fieldAddr 1 Tryz.runUnderlying69 rfl Tryz.sizeOf67 rfl rfl rfl ?_
  refine o_load_B 1 H Tryz.isAgg67 rfl rfl rfl rfl ?_
  refine o_move rfl rfl ?_
  refine o_move rfl rfl ?_
  refine o_build bf39 rfl rfl rfl ?_
  have H := H.toFront (k := 2) rfl
  refine o_call Tryz.call79 rfl rfl (i_put_n_c _ _ H.sub _ _ hN _ ⟨path, false, ids4⟩ ⟨_, _, _, rfl, hpath, hsr6⟩ H.lent1 hT.wf (by omega)) ?_
  rintro _ w8 ⟨G8, _, _, rfl, H8', ⟨nb8, F8, t8, rfl, rfl, hN8, hb8, ht8⟩⟩
  have hbytes := hbytes.up H8'.le
  have hS := hS.up H8'.le
  have hN := hN.up H8'.le
  have hS4 := hS4.up H8'.le
  have hchk4 := hchk4.up H8'.le
  have hsr6 := hsr6.up H8'.le
  have H := H.borrow1 H8'
  try rw [← hb8]
  refine ⟨_, rfl, ?_⟩
  refine o_move rfl rfl ?_
  refine R_case (t := 39) rfl ?_ ?_
  ·intro hc9
   try simp only [nrm] at hc9
   refine R_guard (yl rfl rfl) ?_
   refine o_fieldAddr 0 Tryz.runUnderlying69 rfl Tryz.sizeOf66 rfl rfl rfl ?_
   refine R_guard (yl rfl rfl) ?_
   refine o_load_B 2 H Tryz.isAgg66 rfl rfl rfl rfl ?_
   refine R_guard (yl rfl rfl) ?_
   refine o_move rfl rfl ?_
   refine R_guard (yl rfl rfl) ?_
   have H := H.toFront (k := 1) rfl
   refine o_call Tryz.call80 rfl rfl (i_freeFile_c _ _ H.sub _ _ _ _ _ hm4 hS4 hV4 _ _ (RdS.nil _ _ _) H.lent1 ) ?_
   rintro _ w10 ⟨G10, _, _, rfl, H10', ⟨es10, ck10, xs10, L10, rfl, rfl, hm10, hS10, hV10, hL10⟩⟩
   have hbytes := hbytes.up H10'.le
   have hS := hS.up H10'.le
   have hN := hN.up H10'.le
   have hS4 := hS4.up H10'.le
   have hchk4 := hchk4.up H10'.le
   have hsr6 := hsr6.up H10'.le
   have hN8 := hN8.up H10'.le
   have H := H.borrow1 H10'
   refine ⟨_, rfl, ?_⟩
   refine o_pick_t rfl rfl rfl ?_
   refine o_assign rfl rfl ?_
   refine q3 ?_
   refine W_ret ?_
   refine ret_gen (rs := [.tmp 6]) (vs := [_]) Tryz.results32 ⟨rfl, trivial⟩ ?_
   have H := H.del (k := 2) rfl
   have H := H.toFront (k := 1) rfl
   have H := H.toFront (k := 1) rfl
   obtain ⟨r, hr⟩ := Option.isSome_iff_exists.1 (show (Sp.FileStore L bytes).isSome = true by simpa using hc5')
   have hst : Sp.FileStore L bytes = some (L4, ids4) := hr.trans (congrArg some (hL4 r hr))
   have hpt : T.putN ⟨path, false, ids4⟩ nb8 = some t8 := by (obtain ⟨q, hq⟩ := Option.isSome_iff_exists.1 (show (T.putN ⟨path, false, ids4⟩ nb8).isSome = true by simpa using hc9); (rw [← ht8, hq]; rfl))
   obtain ⟨s', tt, g1, g2, g3, g4⟩ := Sp.write_fin hH hT (show Sp.PathValid path = true by simpa using hc3') hst hpt (.inl ⟨hfi7, rfl⟩)
   exact H.retM ⟨_, _, _, _, _, _, congrArg Value.bool (by (rw [g1, g2]; rfl)), rfl, hm10, hS10, hV10, hN8, (by first | rfl | exact hb8), fun u' h => (by rw [g2] at h; cases h; exact ⟨hL10 _ g1, g3, g4⟩)⟩
  intro hc9'
  try simp only [nrm] at hc9'
  refine R_pass rfl (yl_ne rfl rfl rfl) ?_
  refine R_pass rfl (yl_ne rfl rfl rfl) ?_
  refine R_pass rfl (yl_ne rfl rfl rfl) ?_
  refine R_pass rfl (yl_ne rfl rfl rfl) ?_
  refine o_pick_f rfl rfl rfl ?_
  refine o_assign rfl rfl ?_
  refine q3 ?_
  refine W_ret ?_
  refine ret_gen (rs := [.tmp 6]) (vs := [_]) Tryz.results32 ⟨rfl, trivial⟩ ?_
  have H := H.del (k := 2) rfl
  have H := H.toFront (k := 1) rfl
  obtain ⟨r, hr⟩ := Option.isSome_iff_exists.1 (show (Sp.FileStore L bytes).isSome = true by simpa using hc5')
  have hst : Sp.FileStore L bytes = some (L4, ids4) := hr.trans (congrArg some (hL4 r hr))
  have hno : Sp.l11Write ⟨L, l⟩ path bytes = none := Sp.write_no2 (nb := nb8) hH hT (show Sp.PathValid path = true by simpa using hc3') hst (by simpa using hc9')
  exact H.retM ⟨_, _, _, _, _, _, congrArg Value.bool (by (rw [hno]; rfl)), rfl, hm4, hS4, hV4, hN8, (by first | rfl | exact hb8), fun u' h => (by rw [hno] at h; cases h)⟩
 skip
 have H := H.step ew7; refine ⟨_, rfl, ?_⟩
 refine o_assign rfl rfl ?_
 refine q1 ?_
 refine o_move rfl rfl ?_
 refine o_nenil_ptr Tryz.underlying67 rfl rfl rfl ?_
 refine q3 ?_
 refine W_true rfl ?_
 refine W_region ?_
 have H := H.toFront (k := 2) rfl
 obtain ⟨oa, om, oc, okv, oFs, oR, H, ohri, ohNs, ohnl, ohkl, hcov, hclose⟩ := Hp.openNode H hN (Nd.find_at_ hfi7)
 obtain ⟨oak, ock, rfl⟩ := H.accShape (k := 1) rfl; have hdo := PLe.refl G6; have hn_ohri := ohri.len
 refine o_move rfl rfl ?_
 refine o_nilCheck rfl rfl ?_
 refine o_fieldAddr 2 Tryz.runUnderlying83 rfl Tryz.sizeOf27 rfl rfl rfl ?_
 refine o_load_B 0 H Tryz.isAgg27 rfl rfl rfl rfl ?_
 refine o_assign rfl rfl ?_
 refine q1 ?_
 have H := H.toFront (k := 4) rfl
 have H := H.toFront (k := 4) rfl
 have H := H.toFront (k := 4) rfl
 have H := H.toFront (k := 4) rfl
 have H := H.toFront (k := 4) rfl
 obtain ⟨F2, H, hN2, hb2⟩ := hclose (Fs' := oFs) H (List.Perm.refl _) hdo ohri ohNs (by omega)
 have hN2 := (Nd.upd_same (Nd.find_at_ hfi7)) ▸ hN2
 refine o_fieldAddr 1 Tryz.runUnderlying69 rfl Tryz.sizeOf67 rfl rfl rfl ?_
 refine o_load_B 2 H Tryz.isAgg67 rfl rfl rfl rfl ?_
 refine o_move rfl rfl ?_
 refine o_move rfl rfl ?_
 refine o_build bf39 rfl rfl rfl ?_
 refine o_call Tryz.call79 rfl rfl (i_put_n_c _ _ H.sub _ _ hN2 _ ⟨path, false, ids4⟩ ⟨_, _, _, rfl, hpath, hsr6⟩ H.lent1 hT.wf (by omega)) ?_
 rintro _ w11 ⟨G11, _, _, rfl, H11', ⟨nb11, F11, t11, rfl, rfl, hN11, hb11, ht11⟩⟩
 have hbytes := hbytes.up H11'.le
 have hS := hS.up H11'.le
 have hN := hN.up H11'.le
 have hS4 := hS4.up H11'.le
 have hchk4 := hchk4.up H11'.le
 have hsr6 := hsr6.up H11'.le
 have ohri := ohri.up H11'.le
 have ohNs := ohNs.up H11'.le
 have hN2 := hN2.up H11'.le
 have hdo := hdo.trans H11'.le
 have H := H.borrow1 H11'
 try rw [← hb11]
 refine ⟨_, rfl, ?_⟩
 refine o_move rfl rfl ?_
 refine R_case (t := 39) rfl ?_ ?_
 ·intro hc12
  try simp only [nrm] at hc12
  refine R_guard (yl rfl rfl) ?_
  refine o_fieldAddr 0 Tryz.runUnderlying69 rfl Tryz.sizeOf66 rfl rfl rfl ?_
  refine R_guard (yl rfl rfl) ?_
  refine o_load_B 2 H Tryz.isAgg66 rfl rfl rfl rfl ?_
  refine R_guard (yl rfl rfl) ?_
  refine o_move rfl rfl ?_
  refine R_guard (yl rfl rfl) ?_
  have H := H.toFront (k := 1) rfl
  refine o_call Tryz.call80 rfl rfl (i_freeFile_c _ _ H.sub _ _ _ _ _ hm4 hS4 hV4 _ _ ohri H.lent1 ) ?_
  rintro _ w13 ⟨G13, _, _, rfl, H13', ⟨es13, ck13, xs13, L13, rfl, rfl, hm13, hS13, hV13, hL13⟩⟩
  have hbytes := hbytes.up H13'.le
  have hS := hS.up H13'.le
  have hN := hN.up H13'.le
  have hS4 := hS4.up H13'.le
  have hchk4 := hchk4.up H13'.le
  have hsr6 := hsr6.up H13'.le
  have ohri := ohri.up H13'.le
  have ohNs := ohNs.up H13'.le
  have hN2 := hN2.up H13'.le
  have hN11 := hN11.up H13'.le
  have hdo := hdo.trans H13'.le
  have H := H.borrow1 H13'
  refine ⟨_, rfl, ?_⟩
  refine o_pick_t rfl rfl rfl ?_
  refine o_assign rfl rfl ?_
  refine q3 ?_
  refine W_ret ?_
  refine ret_gen (rs := [.tmp 6]) (vs := [_]) Tryz.results32 ⟨rfl, trivial⟩ ?_
  have H := H.del (k := 2) rfl
  have H := H.toFront (k := 1) rfl
  have H := H.toFront (k := 1) rfl
  obtain ⟨r, hr⟩ := Option.isSome_iff_exists.1 (show (Sp.FileStore L bytes).isSome = true by simpa using hc5')
  have hst : Sp.FileStore L bytes = some (L4, ids4) := hr.trans (congrArg some (hL4 r hr))
  have hpt : T.putN ⟨path, false, ids4⟩ nb11 = some t11 := by (obtain ⟨q, hq⟩ := Option.isSome_iff_exists.1 (show (T.putN ⟨path, false, ids4⟩ nb11).isSome = true by simpa using hc12); (rw [← ht11, hq]; rfl))
  obtain ⟨s', tt, g1, g2, g3, g4⟩ := Sp.write_fin hH hT (show Sp.PathValid path = true by simpa using hc3') hst hpt (.inr ⟨d7, hfi7, rfl⟩)
  exact H.retM ⟨_, _, _, _, _, _, congrArg Value.bool (by (rw [g1, g2]; rfl)), rfl, hm13, hS13, hV13, hN11, (by first | rfl | exact hb11), fun u' h => (by rw [g2] at h; cases h; exact ⟨hL13 _ g1, g3, g4⟩)⟩
 intro hc12'
 try simp only [nrm] at hc12'
 refine R_pass rfl (yl_ne rfl rfl rfl) ?_
 refine R_pass rfl (yl_ne rfl rfl rfl) ?_
 refine R_pass rfl (yl_ne rfl rfl rfl) ?_
 refine R_pass rfl (yl_ne rfl rfl rfl) ?_
 refine o_pick_f rfl rfl rfl ?_
 refine o_assign rfl rfl ?_
 refine q3 ?_
 refine W_ret ?_
 refine ret_gen (rs := [.tmp 6]) (vs := [_]) Tryz.results32 ⟨rfl, trivial⟩ ?_
 have H := H.del (k := 2) rfl
 have H := H.toFront (k := 1) rfl
 obtain ⟨r, hr⟩ := Option.isSome_iff_exists.1 (show (Sp.FileStore L bytes).isSome = true by simpa using hc5')
 have hst : Sp.FileStore L bytes = some (L4, ids4) := hr.trans (congrArg some (hL4 r hr))
 have hno : Sp.l11Write ⟨L, l⟩ path bytes = none := Sp.write_no2 (nb := nb11) hH hT (show Sp.PathValid path = true by simpa using hc3') hst (by simpa using hc12')
 exact H.retM ⟨_, _, _, _, _, _, congrArg Value.bool (by (rw [hno]; rfl)), rfl, hm4, hS4, hV4, hN11, (by first | rfl | exact hb11), fun u' h => (by rw [hno] at h; cases h)⟩
end Go.Proofs.Tst

namespace Go.Proofs.Tst
open Go Fw
theorem i_VolumeWrite_c (w0 : World) (G0 : PH) (hG : PSub G0 w0) (cu : List Value) (u : BVol) (hu : volE G0 u cu) (path : Bs) (hpath : path.length ≤ 16777216) (vbytes : Value) (bytes : List (Int)) (hbytes : RdI G0 vbytes bytes)  :
  Calls Tryz.prog 8 #[.agg cu.toArray, str path, vbytes] w0 (RetN w0 G0 (fun v Bs => ∃ (v1 v2 : Value) (F1 F2 : Fr), v = .tuple #[.agg #[v1, v2], .bool (Sp.VolumeWrite u path bytes).isSome] ∧ Bs = [frag F1, frag F2] ∧ OHs F1 v1 ((Sp.VolumeWrite u path bytes).getD ⟨[], []⟩).store ∧ OIs F2 v2 ((Sp.VolumeWrite u path bytes).getD ⟨[], []⟩).tree)) := by
 obtain ⟨a1, m1, c1, a1', m1', c1', rfl, hr1, hr1'⟩ := hu; have hn_hr1 := hr1.len; have hx_hr1 : _ ≤ 1099511627776 := hr1.lim; have hn_hr1q := hr1'.len; have hx_hr1q : _ ≤ 1099511627776 := hr1'.lim
 obtain ⟨abytes, kbytes, rfl⟩ := hbytes.shape
 have hlimbytes : bytes.length ≤ 1099511627776 := hbytes.lim
 have H := Hp.init hG
 refine calls_of_W (l := [_, str path, .slice abytes bytes.length kbytes]) Tryz.func8 rfl Tryz.ntmps8 rfl ?_
 refine q2 ?_
 refine o_box H rfl rfl rfl ?_; intro b2 w2 hb2 H
 refine o_alloc H Tryz.zeroValue26 rfl rfl ?_; intro b3 w3 hb3 H
 refine o_assign rfl rfl ?_
 refine q1 ?_
 refine o_loadagg_B 1 H Tryz.isAgg26 Tryz.sizeOf26 rfl rfl rfl rfl rfl ?_
 refine o_call Tryz.call30 rfl rfl (i_openVol_c _ _ H.sub _ u ⟨_, _, _, _, _, _, rfl, hr1, hr1'⟩ H.lent0 ) ?_
 rintro _ w4 ⟨G4, _, _, rfl, H4', ⟨rfl, rfl, hnv4⟩ | ⟨mb4, es4, ck4, xs4, T4, F4, rfl, rfl, hm4, hS4, hN4, hT4, hv4⟩⟩
 ·skip
  have hr1 := hr1.up H4'.le
  have hr1' := hr1'.up H4'.le
  have hbytes := hbytes.up H4'.le
  have H := H.borrow0 H4'
  refine ⟨_, rfl, ?_⟩
  refine o_move rfl rfl ?_
  refine o_extract rfl rfl rfl ?_
  refine o_extract rfl rfl rfl ?_
  refine o_alloc H Tryz.zeroValue69 rfl rfl ?_; intro b5 w5 hb5 H
  refine o_store_B 0 H Tryz.sizeOf69 rfl rfl rfl rfl rfl rfl rfl rfl ?_; intro w6 H
  refine o_assign rfl rfl ?_
  refine q3 ?_
  refine W_seq ?_
  refine q2 ?_
  refine o_move rfl rfl ?_
  refine o_not rfl rfl ?_
  refine o_move rfl rfl ?_
  refine R_pass rfl (yl_ne rfl rfl rfl) ?_
  refine R_pass rfl (yl_ne rfl rfl rfl) ?_
  refine R_pass rfl (yl_ne rfl rfl rfl) ?_
  refine o_pick_t rfl rfl rfl ?_
  refine o_move rfl rfl ?_
  refine R_pass rfl (yl_ne rfl rfl rfl) ?_
  refine R_pass rfl (yl_ne rfl rfl rfl) ?_
  refine R_pass rfl (yl_ne rfl rfl rfl) ?_
  refine R_pass rfl (yl_ne rfl rfl rfl) ?_
  refine R_pass rfl (yl_ne rfl rfl rfl) ?_
  refine o_pick_t rfl rfl rfl ?_
  refine q3 ?_
  refine W_true rfl ?_
  refine q2 ?_
  refine o_build bf26 rfl rfl rfl ?_
  refine o_store_B 1 H Tryz.sizeOf26 rfl rfl rfl rfl rfl rfl rfl rfl ?_; intro w7 H
  refine o_assign rfl rfl ?_
  refine q3 ?_
  refine W_ret ?_
  refine N_K_ret ?_
  refine ret_gen (rs := [.cell 6 26, .tmp 7]) (vs := [_, _]) Tryz.results8 ⟨⟨_, rfl, load_blk 1 H Tryz.isAgg26 Tryz.sizeOf26 rfl rfl rfl⟩, rfl, trivial⟩ ?_
  have H := H.del (k := 0) rfl
  have H := H.del (k := 0) rfl
  have H := H.del (k := 0) rfl
  have hno : Sp.VolumeWrite u path bytes = none := (by first | (simp [Sp.VolumeWrite, show Sp.VolumeValid u = false by assumption]; done) | (simp_all [Sp.VolumeWrite]; done))
  have H := ((H.addF).addF).forget hG (by simp)
  refine ⟨_, _, rfl, H, .slice none 0 0, .slice none 0 0, [], [], ?_, rfl, ?_, ?_⟩
  ·(rw [hno]; rfl)
  ·(rw [hno]; exact oh_nil)
  (rw [hno]; exact oi_nil)
 skip
 have hr1 := hr1.up H4'.le
 have hr1' := hr1'.up H4'.le
 have hbytes := hbytes.up H4'.le
 have H := H.borrow0 H4'
 have hH4 := Sp.Hol.of_vol hv4
 have hVs4 := hH4.vh
 refine ⟨_, rfl, ?_⟩
 refine o_move rfl rfl ?_
 refine o_extract rfl rfl rfl ?_
 refine o_extract rfl rfl rfl ?_
 refine o_alloc H Tryz.zeroValue69 rfl rfl ?_; intro b8 w8 hb8 H
 refine o_store_B 0 H Tryz.sizeOf69 rfl rfl rfl rfl rfl rfl rfl rfl ?_; intro w9 H
 refine o_assign rfl rfl ?_
 refine q3 ?_
 refine W_seq ?_
 refine q2 ?_
 refine o_move rfl rfl ?_
 refine o_not rfl rfl ?_
 refine o_move rfl rfl ?_
 refine R_guard (yl rfl rfl) ?_
 refine o_move rfl rfl ?_
 refine R_guard (yl rfl rfl) ?_
 refine o_call Tryz.call31 rfl rfl (i_FileValid_c _ _ H.sub _ _ hbytes ) ?_
 rintro _ w10 ⟨rfl, ew10⟩; have H := H.step ew10; refine ⟨_, rfl, ?_⟩
 refine R_guard (yl rfl rfl) ?_
 refine o_not rfl rfl ?_
 refine o_pick_f rfl rfl rfl ?_
 refine o_move rfl rfl ?_
 refine R_case (t := 22) rfl ?_ ?_
 ·intro hc11
  try simp only [nrm] at hc11
  refine R_pass rfl (yl_ne rfl rfl rfl) ?_
  refine R_pass rfl (yl_ne rfl rfl rfl) ?_
  refine R_pass rfl (yl_ne rfl rfl rfl) ?_
  refine R_pass rfl (yl_ne rfl rfl rfl) ?_
  refine R_pass rfl (yl_ne rfl rfl rfl) ?_
  refine o_pick_t rfl rfl rfl ?_
  refine q3 ?_
  refine W_true rfl ?_
  refine q2 ?_
  refine o_build bf26 rfl rfl rfl ?_
  refine o_store_B 3 H Tryz.sizeOf26 rfl rfl rfl rfl rfl rfl rfl rfl ?_; intro w12 H
  refine o_assign rfl rfl ?_
  refine q3 ?_
  refine W_ret ?_
  refine N_K_ret ?_
  refine ret_gen (rs := [.cell 6 26, .tmp 7]) (vs := [_, _]) Tryz.results8 ⟨⟨_, rfl, load_blk 3 H Tryz.isAgg26 Tryz.sizeOf26 rfl rfl rfl⟩, rfl, trivial⟩ ?_
  have H := H.del (k := 0) rfl
  have H := H.del (k := 0) rfl
  have H := H.del (k := 0) rfl
  have H := H.del (k := 0) rfl
  have H := H.del (k := 0) rfl
  have hno : Sp.VolumeWrite u path bytes = none := (by first | (simp [Sp.VolumeWrite, show Sp.VolumeValid u = false by assumption]; done) | (simp_all [Sp.VolumeWrite]; done))
  have H := ((H.addF).addF).forget hG (by simp)
  refine ⟨_, _, rfl, H, .slice none 0 0, .slice none 0 0, [], [], ?_, rfl, ?_, ?_⟩
  ·(rw [hno]; rfl)
  ·(rw [hno]; exact oh_nil)
  (rw [hno]; exact oi_nil)
 intro hc11'
 try simp only [nrm] at hc11'
 refine R_guard (yl rfl rfl) ?_
 refine o_loadagg_B 0 H Tryz.isAgg69 Tryz.sizeOf69 rfl rfl rfl rfl rfl ?_
 refine R_guard (yl rfl rfl) ?_
 refine o_move rfl rfl ?_
 refine R_guard (yl rfl rfl) ?_
 refine o_move rfl rfl ?_
 refine R_guard (yl rfl rfl) ?_
 have H := H.toFront (k := 2) rfl
 have H := H.toFront (k := 2) rfl
 have hB : Sp.FileValid bytes = true := by simpa using hc11'
 refine o_call Tryz.call32 rfl rfl (i_vwrite_c _ _ H.sub _ _ _ _ _ _ _ _ hm4 hS4 hN4 hT4 hH4 _ hpath _ _ hbytes H.lent2 hB) ?_
 rintro _ w13 ⟨G13, _, _, rfl, H13', ⟨es13, ck13, xs13, F13, T13, L13, rfl, rfl, hm13, hS13, hV13, hN13, hb13, hu13⟩⟩
 have hr1 := hr1.up H13'.le
 have hr1' := hr1'.up H13'.le
 have hbytes := hbytes.up H13'.le
 have hS4 := hS4.up H13'.le
 have hN4 := hN4.up H13'.le
 have H := H.borrow2 H13'
 try rw [← hb13]
 try rw [← hb13] at H
 refine ⟨_, rfl, ?_⟩
 refine R_guard (yl rfl rfl) ?_
 refine o_not rfl rfl ?_
 refine o_pick_f rfl rfl rfl ?_
 refine q3 ?_
 refine W_cond rfl ?_ ?_
 ·intro hc14
  try simp only [nrm] at hc14
  refine q2 ?_
  refine o_build bf26 rfl rfl rfl ?_
  refine o_store_B 3 H Tryz.sizeOf26 rfl rfl rfl rfl rfl rfl rfl rfl ?_; intro w15 H
  refine o_assign rfl rfl ?_
  refine q3 ?_
  refine W_ret ?_
  refine N_K_ret ?_
  refine ret_gen (rs := [.cell 6 26, .tmp 7]) (vs := [_, _]) Tryz.results8 ⟨⟨_, rfl, load_blk 3 H Tryz.isAgg26 Tryz.sizeOf26 rfl rfl rfl⟩, rfl, trivial⟩ ?_
  have H := H.del (k := 0) rfl
  have H := H.del (k := 0) rfl
  have H := H.del (k := 0) rfl
  have H := H.del (k := 0) rfl
  have H := H.del (k := 0) rfl
  have hno : Sp.VolumeWrite u path bytes = none := (by first | (simp [Sp.VolumeWrite, show Sp.VolumeValid u = false by assumption]; done) | (simp_all [Sp.VolumeWrite]; done))
  have H := ((H.addF).addF).forget hG (by simp)
  refine ⟨_, _, rfl, H, .slice none 0 0, .slice none 0 0, [], [], ?_, rfl, ?_, ?_⟩
  ·(rw [hno]; rfl)
  ·(rw [hno]; exact oh_nil)
  (rw [hno]; exact oi_nil)
 intro hc14'
 try simp only [nrm] at hc14'
 obtain ⟨u2, hu2⟩ := Option.isSome_iff_exists.1 (show (Sp.l11Write ⟨u.store, u.tree⟩ path bytes).isSome = true by simpa using hc14')
 obtain ⟨hL2, hT2, hH2⟩ := hu13 u2 hu2; subst hL2
 refine W_skip ?_
 refine N_K ?_
 refine q2 ?_
 refine o_loadagg_B 2 H Tryz.isAgg69 Tryz.sizeOf69 rfl rfl rfl rfl rfl ?_
 refine o_call Tryz.call33 rfl rfl (i_volume_c _ _ (H.lendSubL [0, 0, 1, 1]) _ _ _ _ _ _ (H.lendPredL (k := 0) (ks := [0, 0, 1, 1]) rfl rfl) hm13 (hS13.up (PPlus.le _ _ _)) hV13 (H.lendN (k := 1) (ks := [0, 0, 1, 1]) rfl rfl hN13) hT2.wf (by have := hT2.cnt; have := hH2.vt.len; omega)) ?_
 rintro _ w16 ⟨_, _, rfl, H16', ⟨u116, u216, D116, D216, rfl, rfl, ho116, ho216⟩⟩
 have H := H.readersL H16'
 obtain ⟨x116, p116⟩ := ho116
 obtain ⟨a116, c116, rfl⟩ := OwnS.shape p116
 obtain ⟨x216, p216⟩ := ho216
 obtain ⟨a216, c216, rfl⟩ := OwnS.shape p216
 refine ⟨_, rfl, ?_⟩
 refine o_store_B 5 H Tryz.sizeOf26 rfl rfl rfl rfl rfl rfl rfl rfl ?_; intro w17 H
 refine o_assign rfl rfl ?_
 refine q3 ?_
 refine W_ret ?_
 refine ret_gen (rs := [.cell 6 26, .tmp 7]) (vs := [_, _]) Tryz.results8 ⟨⟨_, rfl, load_blk 5 H Tryz.isAgg26 Tryz.sizeOf26 rfl rfl rfl⟩, rfl, trivial⟩ ?_
 have H := H.del (k := 2) rfl
 have H := H.del (k := 2) rfl
 have H := H.del (k := 2) rfl
 have H := H.del (k := 2) rfl
 have H := H.del (k := 2) rfl
 have H := H.toFront (k := 1) rfl
 have H := H.toFront (k := 1) rfl
 have hyes : Sp.VolumeWrite u path bytes = some u2 := by (simp only [Sp.VolumeWrite, hv4, hB, Bool.and_self, if_true]; exact hu2)
 have hfl := hT2.flat
 have H := H.forget hG (by simp)
 exact ⟨_, _, rfl, H, _, _, _, _, (by (rw [hyes]; rfl)), rfl, (by (rw [hyes]; exact ⟨_, p116⟩)), (by (rw [hyes]; exact (hfl ▸ ⟨_, p216⟩)))⟩
end Go.Proofs.Tst

namespace Sp
open Go Fw Fw.Nd
def l11Dir (L : List BHeld) (l : List BItem) (p : Bs) : Option BVol := (TreePut l ⟨p, true, []⟩).map (fun t => ⟨L, t⟩)
theorem dir_ok {L : List BHeld} {l : List BItem} (hu : Hol L l) {p : Bs} {t : List BItem} (hpt : TreePut l ⟨p, true, []⟩ = some t) : Hol L t ∧ ∀ a, cntL t a = cntL l a := by
  obtain ⟨_, ht, hx, hperm⟩ := put_perm2 hpt
  have hne : ∀ y, y ∈ l → y.path ≠ p := fun y hy hp => by
    have := put_dir_no hu.vt.asc (x := ⟨p, true, []⟩) hy hp (by simp)
    rw [this] at hpt; cases hpt
  have hp2 : t.Perm (⟨p, true, []⟩ :: l) := by
    have h := hperm
    rw [filter_none hne] at h
    exact h
  have hc : ∀ a, cntL t a = cntL l a := fun a => by rw [cntL_perm hp2, cntL_cons]; simp [cnt1]
  refine ⟨⟨hu.vh, ht, fun x hx => ?_, fun a => by rw [hc]; exact hu.le a⟩, hc⟩
  rcases List.mem_cons.1 (hp2.mem_iff.1 hx) with rfl | h
  · exact ids_true (by simp) (by simp)
  · exact hu.ids x h
theorem dir_fin {L : List BHeld} {l : List BItem} {T : Nd} {p : Bs} {nb : Nat} {T' : Nd} (hH : Hol L l) (hT : TOK T l) (hp : PathValid p = true) (hput : T.putN ⟨p, true, []⟩ nb = some T') : ∃ t, TreePut l ⟨p, true, []⟩ = some t ∧ TOK T' t ∧ Hol L t := by
  have hx : l5Item ⟨p, true, []⟩ = true := by simp [l5Item, hp]
  obtain ⟨h1, h2⟩ := put_eq nb hT hx
  rw [hput] at h1
  obtain ⟨t, ht⟩ := Option.isSome_iff_exists.1 h1.symm
  have hT' := h2 T' hput
  rw [ht] at hT'
  exact ⟨t, ht, hT', (dir_ok hH ht).1⟩
theorem dir_nop {l : List BItem} {p : Bs} (hp : PathValid p = false) : TreePut l ⟨p, true, []⟩ = none := by simp [TreePut, l5Item, hp]
theorem dir_no2 {l : List BItem} {T : Nd} {p : Bs} {nb : Nat} (hT : TOK T l) (hp : PathValid p = true) (hput : (T.putN ⟨p, true, []⟩ nb).isSome = false) : TreePut l ⟨p, true, []⟩ = none := by
  have h1 := (put_eq nb hT (x := ⟨p, true, []⟩) (by simp [l5Item, hp])).1
  rw [hput] at h1
  simpa using h1.symm
theorem dir_valid {u u' : BVol} {p : Bs} (h : VolumeDir u p = some u') : VolumeValid u' = true := by
  unfold VolumeDir at h
  split at h
  · rename_i hv
    obtain ⟨t, ht, rfl⟩ := Option.map_eq_some_iff.1 h
    obtain ⟨h1, h2⟩ := dir_ok (Hol.of_vol hv) ht
    refine h1.vol (fun a => ?_)
    rw [(vv_iff.1 hv).2.2.2 a]
    have := h2 a
    omega
  · cases h
def readF (L : List BHeld) (l : List BItem) (p : Bs) : Option (List Int) := match l11Ids l p with
  | [] => none
  | o :: _ => some (load L o.ids)
def readN (L : List BHeld) (t : Nd) (p : Bs) : Option (List Int) := match t.find p with
  | none => none
  | some d => if d.dir then none else if l4Ids L d.ids then some (load L d.ids) else none
def VolumeRead (u : BVol) (p : Bs) : Option (List Int) := if VolumeValid u then readF u.store u.tree p else none
theorem read_eq {L : List BHeld} {l : List BItem} {T : Nd} (hids : ∀ x, x ∈ l → l4Ids L x.ids = true) (hT : TOK T l) (p : Bs) : readN L T p = readF L l p := by
  have hfl := find_list hT p
  unfold readN readF l11Ids
  cases hf : T.find p with
  | none =>
    rw [hf] at hfl
    cases e : atI l p with
    | none => rfl
    | some i =>
      rw [e] at hfl
      simp only [Option.map_none, Option.bind_some] at hfl
      simp only [← hfl]
  | some d =>
    rw [hf] at hfl
    cases e : atI l p with
    | none => rw [e] at hfl; simp at hfl
    | some i =>
      rw [e] at hfl
      simp only [Option.map_some, Option.bind_some] at hfl
      have := hids _ (List.mem_of_getElem? hfl.symm)
      simp only at this
      simp only [← hfl]
      cases hd : d.dir <;> simp [this]
def l11Drop (L : List BHeld) (l : List BItem) (p : Bs) : Option BVol := match TreeDrop l p with
  | none => none
  | some t => some ⟨(FileFree L (((atI l p).bind (fun i => l[i]?)).map (·.ids) |>.getD [])).getD [], t⟩
theorem drop_eq2 (u : BVol) (p : Bs) : VolumeDrop u p = if VolumeValid u then l11Drop u.store u.tree p else none := rfl
theorem drop_perm2 {l t : List BItem} {p : Bs} (h : TreeDrop l p = some t) : VT l ∧ VT t ∧ ∃ x, x ∈ l ∧ x.path = p ∧ (atI l p).bind (fun i => l[i]?) = some x ∧ l.Perm (x :: t) := by
  unfold TreeDrop at h
  split at h
  · rename_i hv
    have hv := tvalid_iff.1 hv
    cases e : atI l p with
    | none => simp [e] at h
    | some i =>
      simp only [e] at h
      split at h
      · rename_i hp
        simp only [Option.some.injEq] at h
        subst h
        obtain ⟨x, h1, h2⟩ := (uniq_at hv.asc (p := p)).1 i e
        refine ⟨hv, tvalid_iff.1 hp, x, List.mem_of_getElem? h1, h2, by simp [h1], ?_⟩
        have := erase_perm h1
        rwa [List.eraseIdx_eq_take_drop_succ] at this
      · cases h
  · cases h
theorem drop_ok {L : List BHeld} {l : List BItem} (hu : Hol L l) {p : Bs} {t : List BItem} (hpt : TreeDrop l p = some t) :
    ∃ x s', x ∈ l ∧ (atI l p).bind (fun i => l[i]?) = some x ∧ FileFree L x.ids = some s' ∧ l11Drop L l p = some ⟨s', t⟩ ∧ Hol s' t ∧ l.Perm (x :: t) ∧ ∀ a, us s' a = us L a - (cnt1 a x.ids : Int) ∧ (0 < us s' a → by_ s' a = by_ L a) := by
  obtain ⟨_, ht, x, hx, hxp, hxa, hperm⟩ := drop_perm2 hpt
  have hc : ∀ a, cntL l a = cnt1 a x.ids + cntL t a := fun a => by rw [cntL_perm hperm, cntL_cons]
  obtain ⟨s', g1, g2, g3⟩ := free_ok hu.vh (hu.ids x hx) (fun a => by have := hu.le a; have := hc a; omega)
  have hle : ∀ a, (cntL t a : Int) ≤ us s' a := fun a => by have := hu.le a; have := hc a; have := (g3 a).1; omega
  refine ⟨x, s', hx, hxa, g1, by simp [l11Drop, hpt, hxa, g1], ⟨g2, ht, fun y hy => ?_, hle⟩, hperm, g3⟩
  refine ids_keep hu.vh g2 (fun a ha => ?_) (hu.ids y (hperm.mem_iff.2 (by simp [hy])))
  have h1 := cntL_mem hy a
  have h2 := cnt1_pos.2 ha
  have h3 := hle a
  exact ⟨by omega, (g3 a).2 (by omega)⟩
theorem drop_fin {L : List BHeld} {l : List BItem} {T : Nd} {p : Bs} {T' d : Nd} (hH : Hol L l) (hT : TOK T l) (hd : T.find p = some d) (hdr : T.dropN p = some T') :
    ∃ s' t, FileFree L d.ids = some s' ∧ l11Drop L l p = some ⟨s', t⟩ ∧ TOK T' t ∧ Hol s' t := by
  obtain ⟨h1, h2⟩ := drop_eq hT p
  rw [hdr] at h1
  obtain ⟨t, ht⟩ := Option.isSome_iff_exists.1 h1.symm
  have hT' := h2 T' hdr
  rw [ht] at hT'
  obtain ⟨x, s', _, hxa, g1, g2, g3, _⟩ := drop_ok hH ht
  have hfl := find_list hT p
  rw [hd, hxa] at hfl
  simp only [Option.map_some, Option.some.injEq] at hfl
  subst hfl
  exact ⟨s', t, g1, g2, hT', g3⟩
theorem drop_no1 {L : List BHeld} {l : List BItem} {T : Nd} {p : Bs} (hT : TOK T l) (h : T.find p = none) : l11Drop L l p = none := by
  have hfl := find_list hT p
  rw [h] at hfl
  unfold l11Drop
  cases e : TreeDrop l p with
  | none => rfl
  | some t =>
    obtain ⟨_, _, x, _, _, hxa, _⟩ := drop_perm2 e
    rw [hxa] at hfl; cases hfl
theorem drop_no2 {L : List BHeld} {l : List BItem} {T : Nd} {p : Bs} (hT : TOK T l) (h : (T.dropN p).isSome = false) : l11Drop L l p = none := by
  have h1 := (drop_eq hT p).1
  rw [h] at h1
  have : TreeDrop l p = none := by simpa using h1.symm
  simp [l11Drop, this]
theorem drop_valid {u u' : BVol} {p : Bs} (h : VolumeDrop u p = some u') : VolumeValid u' = true := by
  rw [drop_eq2] at h
  split at h
  · rename_i hv
    cases e : TreeDrop u.tree p with
    | none => simp [l11Drop, e] at h
    | some t =>
      obtain ⟨x, s', _, _, _, g2, g3, g4, g5⟩ := drop_ok (Hol.of_vol hv) e
      rw [g2] at h
      cases h
      refine g3.vol (fun a => ?_)
      have := (vv_iff.1 hv).2.2.2 a
      have h3 : cntL u.tree a = cnt1 a x.ids + cntL t a := by rw [cntL_perm g4, cntL_cons]
      have := (g5 a).1
      omega
  · cases h
end Sp
namespace Sp
open Go Fw
theorem vwrite_valid {u u' : BVol} {p : Bs} {b : List Int} (h : VolumeWrite u p b = some u') : VolumeValid u' = true := by
  unfold VolumeWrite at h
  split at h
  · rename_i hc
    simp only [Bool.and_eq_true] at hc
    exact write_valid hc.1 h
  · cases h
theorem vol_len {o : Option BVol} (h : ∀ u', o = some u' → VolumeValid u' = true) : ((o.map (·.store)).getD []).length ≤ 16 := by
  cases o with
  | none => simp
  | some u => exact (vv_iff.1 (h u rfl)).1.len
end Sp
namespace Go.Proofs.Tst
open Go Fw
theorem i_vdir_c (w0 : World) (G0 : PH) (hG : PSub G0 w0) (mb : Nat) (es : Array MapEntry) (ck : Nat) (xs : List (Int × Value)) (T : Nd) (FT : Fr) (L : List BHeld) (l : List BItem) (hm : MapIs (Value.int .i64) es ck xs) (hS : StR G0 xs L) (hN : NdO 83 67 G0 T FT) (hT : Nd.TOK T l) (hH : Sp.Hol L l) (path : Bs) (hpath : path.length ≤ 16777216) (hLent : Lent w0 G0 [blk mb (.map es ck), frag FT])  :
    Calls Tryz.prog 46 #[.agg #[.map (some mb), .pointer (some ⟨T.b, 0, none⟩)], str path] w0 (RetM w0 G0 (fps [blk mb (.map es ck), frag FT]) (fun G' v Bs => ∃ (es' : Array MapEntry) (ck' : Nat) (xs' : List (Int × Value)) (F' : Fr) (T' : Nd) (L' : List BHeld), v = .bool ((Sp.l11Dir L l path)).isSome ∧ Bs = [blk mb (.map es' ck'), frag F'] ∧ MapIs (Value.int .i64) es' ck' xs' ∧ StR G' xs' L' ∧ Sp.VH L' ∧ NdO 83 67 G' T' F' ∧ T'.b = T.b ∧ ∀ u', (Sp.l11Dir L l path) = some u' → L' = u'.store ∧ Nd.TOK T' u'.tree ∧ Sp.Hol u'.store u'.tree)) := by
  have H : Hp w0 G0 (fps [blk mb (.map es ck), frag FT]) w0 G0 [blk mb (.map es ck), frag FT] := hLent.hp
  have hVd := hH.vh; have hTc := hT.cnt; have hTl := hH.vt.len
  refine calls_of_W (l := [_, str path]) Tryz.func46 rfl Tryz.ntmps46 rfl ?_
  refine q2 ?_
  refine o_box H rfl rfl rfl ?_; intro b1 w1 hb1 H
  refine o_assign rfl rfl ?_
  refine q1 ?_
  refine o_move rfl rfl ?_
  refine o_call Tryz.call77 rfl rfl (i_PathValid_c _ _ H.sub _ hpath ) ?_
  rintro _ w2 ⟨rfl, ew2⟩; have H := H.step ew2; refine ⟨_, rfl, ?_⟩
  refine o_move rfl rfl ?_
  refine R_case (t := 7) rfl ?_ ?_
  · intro hc3
    try simp only [nrm] at hc3
    refine R_guard (yl rfl rfl) ?_
    refine o_fieldAddr 1 Tryz.runUnderlying69 rfl Tryz.sizeOf67 rfl rfl rfl ?_
    refine R_guard (yl rfl rfl) ?_
    refine o_load_B 0 H Tryz.isAgg67 rfl rfl rfl rfl ?_
    refine R_guard (yl rfl rfl) ?_
    refine o_move rfl rfl ?_
    refine R_guard (yl rfl rfl) ?_
    refine o_build bf39 rfl rfl rfl ?_
    refine R_guard (yl rfl rfl) ?_
    have H := H.toFront (k := 2) rfl
    refine o_call Tryz.call79 rfl rfl (i_put_n_c _ _ H.sub _ _ hN _ ⟨path, true, []⟩ ⟨_, _, _, rfl, hpath, (RdS.nil _ _ _)⟩ H.lent1 hT.wf (by omega)) ?_
    rintro _ w4 ⟨G4, _, _, rfl, H4', ⟨nb4, F4, t4, rfl, rfl, hN4, hb4, ht4⟩⟩
    have hS := hS.up H4'.le
    have hN := hN.up H4'.le
    have H := H.borrow1 H4'
    try rw [← hb4]
    refine ⟨_, rfl, ?_⟩
    refine o_pick_t rfl rfl rfl ?_
    refine o_assign rfl rfl ?_
    refine q3 ?_
    refine W_ret ?_
    refine ret_gen (rs := [.tmp 4]) (vs := [_]) Tryz.results46 ⟨rfl, trivial⟩ ?_
    have H := H.del (k := 1) rfl
    have H := H.toFront (k := 1) rfl
    have hpv : Sp.PathValid path = true := by simpa using hc3
    cases hpt : T.putN ⟨path, true, []⟩ nb4 with
    | none => have hno : Sp.l11Dir L l path = none := by (unfold Sp.l11Dir; (rw [Sp.dir_no2 (nb := nb4) hT hpv (by (rw [hpt]; rfl))]; rfl))
              exact H.retM ⟨_, _, _, _, _, _, congrArg Value.bool (by (rw [hno]; rfl)), rfl, hm, hS, hVd, hN4, (by first | rfl | exact hb4), fun u' h => (by rw [hno] at h; cases h)⟩
    | some T2 => obtain ⟨tt, g1, g3, g4⟩ := Sp.dir_fin hH hT hpv hpt
                 have g2 : Sp.l11Dir L l path = some ⟨L, tt⟩ := by (unfold Sp.l11Dir; (rw [g1]; rfl))
                 have hT2 : t4 = T2 := by (rw [← ht4, hpt]; rfl)
                 exact H.retM ⟨_, _, _, _, _, _, congrArg Value.bool (by (rw [g2]; rfl)), rfl, hm, hS, hVd, hN4, (by first | rfl | exact hb4), fun u' h => (by rw [g2] at h; cases h; exact ⟨rfl, hT2 ▸ g3, g4⟩)⟩
  intro hc3'
  try simp only [nrm] at hc3'
  refine R_pass rfl (yl_ne rfl rfl rfl) ?_
  refine R_pass rfl (yl_ne rfl rfl rfl) ?_
  refine R_pass rfl (yl_ne rfl rfl rfl) ?_
  refine R_pass rfl (yl_ne rfl rfl rfl) ?_
  refine R_pass rfl (yl_ne rfl rfl rfl) ?_
  refine o_pick_f rfl rfl rfl ?_
  refine o_assign rfl rfl ?_
  refine q3 ?_
  refine W_ret ?_
  refine ret_gen (rs := [.tmp 4]) (vs := [_]) Tryz.results46 ⟨rfl, trivial⟩ ?_
  have H := H.del (k := 0) rfl
  have H := H.toFront (k := 1) rfl
  have H := H.toFront (k := 1) rfl
  have hno : Sp.l11Dir L l path = none := by (unfold Sp.l11Dir; (rw [Sp.dir_nop (by simpa using hc3')]; rfl))
  exact H.retM ⟨_, _, _, _, _, _, congrArg Value.bool (by (rw [hno]; rfl)), rfl, hm, hS, hVd, hN, rfl, fun u' h => (by rw [hno] at h; cases h)⟩
theorem i_VolumeDir_c (w0 : World) (G0 : PH) (hG : PSub G0 w0) (cu : List Value) (u : BVol) (hu : volE G0 u cu) (path : Bs) (hpath : path.length ≤ 16777216)  :
    Calls Tryz.prog 17 #[.agg cu.toArray, str path] w0 (RetN w0 G0 (fun v Bs => ∃ (v1 v2 : Value) (F1 F2 : Fr), v = .tuple #[.agg #[v1, v2], .bool (Sp.VolumeDir u path).isSome] ∧ Bs = [frag F1, frag F2] ∧ OHs F1 v1 ((Sp.VolumeDir u path).getD ⟨[], []⟩).store ∧ OIs F2 v2 ((Sp.VolumeDir u path).getD ⟨[], []⟩).tree)) := by
  obtain ⟨a1, m1, c1, a1', m1', c1', rfl, hr1, hr1'⟩ := hu; have hn_hr1 := hr1.len; have hx_hr1 : _ ≤ 1099511627776 := hr1.lim; have hn_hr1q := hr1'.len; have hx_hr1q : _ ≤ 1099511627776 := hr1'.lim
  have H := Hp.init hG
  refine calls_of_W (l := [_, str path]) Tryz.func17 rfl Tryz.ntmps17 rfl ?_
  refine q2 ?_
  refine o_box H rfl rfl rfl ?_; intro b2 w2 hb2 H
  refine o_alloc H Tryz.zeroValue26 rfl rfl ?_; intro b3 w3 hb3 H
  refine o_assign rfl rfl ?_
  refine q1 ?_
  refine o_loadagg_B 1 H Tryz.isAgg26 Tryz.sizeOf26 rfl rfl rfl rfl rfl ?_
  refine o_call Tryz.call30 rfl rfl (i_openVol_c _ _ H.sub _ u ⟨_, _, _, _, _, _, rfl, hr1, hr1'⟩ H.lent0 ) ?_
  rintro _ w4 ⟨G4, _, _, rfl, H4', ⟨rfl, rfl, hnv4⟩ | ⟨mb4, es4, ck4, xs4, T4, F4, rfl, rfl, hm4, hS4, hN4, hT4, hv4⟩⟩
  · skip
    have hr1 := hr1.up H4'.le
    have hr1' := hr1'.up H4'.le
    have H := H.borrow0 H4'
    refine ⟨_, rfl, ?_⟩
    refine o_move rfl rfl ?_
    refine o_extract rfl rfl rfl ?_
    refine o_extract rfl rfl rfl ?_
    refine o_alloc H Tryz.zeroValue69 rfl rfl ?_; intro b5 w5 hb5 H
    refine o_store_B 0 H Tryz.sizeOf69 rfl rfl rfl rfl rfl rfl rfl rfl ?_; intro w6 H
    refine o_assign rfl rfl ?_
    refine q3 ?_
    refine W_seq ?_
    refine q2 ?_
    refine o_move rfl rfl ?_
    refine o_not rfl rfl ?_
    refine o_move rfl rfl ?_
    refine R_pass rfl (yl_ne rfl rfl rfl) ?_
    refine R_pass rfl (yl_ne rfl rfl rfl) ?_
    refine R_pass rfl (yl_ne rfl rfl rfl) ?_
    refine R_pass rfl (yl_ne rfl rfl rfl) ?_
    refine o_pick_t rfl rfl rfl ?_
    refine q3 ?_
    refine W_true rfl ?_
    refine q2 ?_
    refine o_build bf26 rfl rfl rfl ?_
    refine o_store_B 1 H Tryz.sizeOf26 rfl rfl rfl rfl rfl rfl rfl rfl ?_; intro w7 H
    refine o_assign rfl rfl ?_
    refine q3 ?_
    refine W_ret ?_
    refine N_K_ret ?_
    refine ret_gen (rs := [.cell 4 26, .tmp 5]) (vs := [_, _]) Tryz.results17 ⟨⟨_, rfl, load_blk 1 H Tryz.isAgg26 Tryz.sizeOf26 rfl rfl rfl⟩, rfl, trivial⟩ ?_
    have H := H.del (k := 0) rfl
    have H := H.del (k := 0) rfl
    have H := H.del (k := 0) rfl
    have hno : Sp.VolumeDir u path = none := (by (rw [show Sp.VolumeDir u path = (if Sp.VolumeValid u then Sp.l11Dir u.store u.tree path else none) from rfl]; split <;> simp_all))
    have H := ((H.addF).addF).forget hG (by simp)
    refine ⟨_, _, rfl, H, .slice none 0 0, .slice none 0 0, [], [], ?_, rfl, ?_, ?_⟩
    · (rw [hno]; rfl)
    · (rw [hno]; exact oh_nil)
    (rw [hno]; exact oi_nil)
  skip
  have hr1 := hr1.up H4'.le
  have hr1' := hr1'.up H4'.le
  have H := H.borrow0 H4'
  have hH4 := Sp.Hol.of_vol hv4
  have hVs4 := hH4.vh
  refine ⟨_, rfl, ?_⟩
  refine o_move rfl rfl ?_
  refine o_extract rfl rfl rfl ?_
  refine o_extract rfl rfl rfl ?_
  refine o_alloc H Tryz.zeroValue69 rfl rfl ?_; intro b8 w8 hb8 H
  refine o_store_B 0 H Tryz.sizeOf69 rfl rfl rfl rfl rfl rfl rfl rfl ?_; intro w9 H
  refine o_assign rfl rfl ?_
  refine q3 ?_
  refine W_seq ?_
  refine q2 ?_
  refine o_move rfl rfl ?_
  refine o_not rfl rfl ?_
  refine o_move rfl rfl ?_
  refine R_guard (yl rfl rfl) ?_
  refine o_loadagg_B 0 H Tryz.isAgg69 Tryz.sizeOf69 rfl rfl rfl rfl rfl ?_
  refine R_guard (yl rfl rfl) ?_
  refine o_move rfl rfl ?_
  refine R_guard (yl rfl rfl) ?_
  have H := H.toFront (k := 2) rfl
  have H := H.toFront (k := 2) rfl
  refine o_call Tryz.call46 rfl rfl (i_vdir_c _ _ H.sub _ _ _ _ _ _ _ _ hm4 hS4 hN4 hT4 hH4 _ hpath H.lent2 ) ?_
  rintro _ w10 ⟨G10, _, _, rfl, H10', ⟨es10, ck10, xs10, F10, T10, L10, rfl, rfl, hm10, hS10, hV10, hN10, hb10, hu10⟩⟩
  have hr1 := hr1.up H10'.le
  have hr1' := hr1'.up H10'.le
  have hS4 := hS4.up H10'.le
  have hN4 := hN4.up H10'.le
  have H := H.borrow2 H10'
  try rw [← hb10]
  try rw [← hb10] at H
  refine ⟨_, rfl, ?_⟩
  refine R_guard (yl rfl rfl) ?_
  refine o_not rfl rfl ?_
  refine o_pick_f rfl rfl rfl ?_
  refine q3 ?_
  refine W_cond rfl ?_ ?_
  · intro hc11
    try simp only [nrm] at hc11
    refine q2 ?_
    refine o_build bf26 rfl rfl rfl ?_
    refine o_store_B 3 H Tryz.sizeOf26 rfl rfl rfl rfl rfl rfl rfl rfl ?_; intro w12 H
    refine o_assign rfl rfl ?_
    refine q3 ?_
    refine W_ret ?_
    refine N_K_ret ?_
    refine ret_gen (rs := [.cell 4 26, .tmp 5]) (vs := [_, _]) Tryz.results17 ⟨⟨_, rfl, load_blk 3 H Tryz.isAgg26 Tryz.sizeOf26 rfl rfl rfl⟩, rfl, trivial⟩ ?_
    have H := H.del (k := 0) rfl
    have H := H.del (k := 0) rfl
    have H := H.del (k := 0) rfl
    have H := H.del (k := 0) rfl
    have H := H.del (k := 0) rfl
    have hno : Sp.VolumeDir u path = none := (by (rw [show Sp.VolumeDir u path = (if Sp.VolumeValid u then Sp.l11Dir u.store u.tree path else none) from rfl]; split <;> simp_all))
    have H := ((H.addF).addF).forget hG (by simp)
    refine ⟨_, _, rfl, H, .slice none 0 0, .slice none 0 0, [], [], ?_, rfl, ?_, ?_⟩
    · (rw [hno]; rfl)
    · (rw [hno]; exact oh_nil)
    (rw [hno]; exact oi_nil)
  intro hc11'
  try simp only [nrm] at hc11'
  obtain ⟨u2, hu2⟩ := Option.isSome_iff_exists.1 (show (Sp.l11Dir u.store u.tree path).isSome = true by simpa using hc11')
  obtain ⟨hL2, hT2, hH2⟩ := hu10 u2 hu2; subst hL2
  refine W_skip ?_
  refine N_K ?_
  refine q2 ?_
  refine o_loadagg_B 2 H Tryz.isAgg69 Tryz.sizeOf69 rfl rfl rfl rfl rfl ?_
  refine o_call Tryz.call33 rfl rfl (i_volume_c _ _ (H.lendSubL [0, 0, 1, 1]) _ _ _ _ _ _ (H.lendPredL (k := 0) (ks := [0, 0, 1, 1]) rfl rfl) hm10 (hS10.up (PPlus.le _ _ _)) hV10 (H.lendN (k := 1) (ks := [0, 0, 1, 1]) rfl rfl hN10) hT2.wf (by have := hT2.cnt; have := hH2.vt.len; omega)) ?_
  rintro _ w13 ⟨_, _, rfl, H13', ⟨u113, u213, D113, D213, rfl, rfl, ho113, ho213⟩⟩
  have H := H.readersL H13'
  obtain ⟨x113, p113⟩ := ho113
  obtain ⟨a113, c113, rfl⟩ := OwnS.shape p113
  obtain ⟨x213, p213⟩ := ho213
  obtain ⟨a213, c213, rfl⟩ := OwnS.shape p213
  refine ⟨_, rfl, ?_⟩
  refine o_store_B 5 H Tryz.sizeOf26 rfl rfl rfl rfl rfl rfl rfl rfl ?_; intro w14 H
  refine o_assign rfl rfl ?_
  refine q3 ?_
  refine W_ret ?_
  refine ret_gen (rs := [.cell 4 26, .tmp 5]) (vs := [_, _]) Tryz.results17 ⟨⟨_, rfl, load_blk 5 H Tryz.isAgg26 Tryz.sizeOf26 rfl rfl rfl⟩, rfl, trivial⟩ ?_
  have H := H.del (k := 2) rfl
  have H := H.del (k := 2) rfl
  have H := H.del (k := 2) rfl
  have H := H.del (k := 2) rfl
  have H := H.del (k := 2) rfl
  have H := H.toFront (k := 1) rfl
  have H := H.toFront (k := 1) rfl
  have hyes : Sp.VolumeDir u path = some u2 := by (simp only [Sp.VolumeDir, hv4, if_true]; exact hu2)
  have hfl := hT2.flat
  have H := H.forget hG (by simp)
  exact ⟨_, _, rfl, H, _, _, _, _, (by (rw [hyes]; rfl)), rfl, (by (rw [hyes]; exact ⟨_, p113⟩)), (by (rw [hyes]; exact (hfl ▸ ⟨_, p213⟩)))⟩
end Go.Proofs.Tst

namespace Go.Proofs.Tst
open Go Fw
theorem i_read_c (w0 : World) (G0 : PH) (hG : PSub G0 w0) (mbs : Nat) (ess : Array MapEntry) (cks : Nat) (xss : List (Int × Value)) (Ls : List BHeld) (hbs : MapAt G0 mbs ess cks) (hms : MapIs (Value.int .i64) ess cks xss) (hSs : StR G0 xss Ls) (hVs : Sp.VH Ls) (t : Nd) (hndt : RdN G0 t) (path : Bs) (hpath : path.length ≤ 16777216) (hwt : t.wf) :
  Calls Tryz.prog 39 #[.map (some mbs), .pointer (some ⟨t.b, 0, none⟩), str path] w0 (RetN w0 G0 (fun v Bs => ∃ (u : Value) (c : List Value) (xs : List Int), v = .tuple #[u, .bool (Sp.readN Ls t path).isSome] ∧ Bs = [acc 3 1 u xs.length c] ∧ Chk intE 1 (fun _ => none) c xs ∧ xs.length ≤ 1000 ∧ (∀ ys, Sp.readN Ls t path = some ys → xs = ys))) := by
 obtain ⟨hnlt, nat, nmt, nct, nAt, nMt, nCt, hprt, hrit, hrkt⟩ := hndt.open
 have hn_hrit := hrit.len; have hx_hrit : _ ≤ 1099511627776 := hrit.lim
 have hn_hrkt := hrkt.len; have hx_hrkt : _ ≤ 1099511627776 := hrkt.lim
 have H := Hp.init hG
 refine calls_of_W (l := [.map (some mbs), .pointer (some ⟨t.b, 0, none⟩), str path]) Tryz.func39 rfl Tryz.ntmps39 rfl ?_
 refine q2 ?_
 refine o_assign rfl rfl ?_
 refine o_assign rfl rfl ?_
 refine q1 ?_
 refine o_move rfl rfl ?_
 refine o_move rfl rfl ?_
 refine o_call Tryz.call41 rfl rfl (i_find_n_c _ _ H.sub _ hndt _ hpath hwt) ?_
 rintro _ w1 ⟨_, rfl, ew1, ⟨hfi1, rfl⟩ | ⟨d1, hfi1, rfl⟩⟩
 ·skip
  have H := H.step ew1; refine ⟨_, rfl, ?_⟩
  refine o_assign rfl rfl ?_
  refine q3 ?_
  refine W_seq ?_
  refine q2 ?_
  refine o_move rfl rfl ?_
  refine o_eqnil_ptr Tryz.underlying67 rfl rfl rfl ?_
  refine o_move rfl rfl ?_
  refine R_pass rfl (yl_ne rfl rfl rfl) ?_
  refine R_pass rfl (yl_ne rfl rfl rfl) ?_
  refine R_pass rfl (yl_ne rfl rfl rfl) ?_
  refine R_pass rfl (yl_ne rfl rfl rfl) ?_
  refine o_pick_t rfl rfl rfl ?_
  refine q3 ?_
  refine W_true rfl ?_
  refine q2 ?_
  refine o_assign rfl rfl ?_
  refine o_assign rfl rfl ?_
  refine q3 ?_
  refine W_ret ?_
  refine N_K_ret ?_
  refine ret_gen (rs := [.tmp 6, .tmp 7]) (vs := [_, _]) Tryz.results39 ⟨rfl, rfl, trivial⟩ ?_
  have H := H.addNil 3 1
  have hno : Sp.readN Ls t path = none := by (simp_all [Sp.readN])
  have H := H.forget hG (by simp)
  exact ⟨_, _, rfl, H, _, _, [], (by (rw [hno]; rfl)), rfl, (Chk.nil (E := intE) (sz := 1) (G := G0)), by simp, fun ys h => by rw [hno] at h; cases h⟩
 skip
 have H := H.step ew1; refine ⟨_, rfl, ?_⟩
 have hnd1 := hndt.at (Nd.find_at_ hfi1); obtain ⟨hnl1, na1, nm1, nc1, nA1, nM1, nC1, hpr1, hri1, hrk1⟩ := hnd1.open
 have hn_hri1 := hri1.len; have hx_hri1 : _ ≤ 1099511627776 := hri1.lim
 have hn_hrk1 := hrk1.len; have hx_hrk1 : _ ≤ 1099511627776 := hrk1.lim
 refine o_assign rfl rfl ?_
 refine q3 ?_
 refine W_seq ?_
 refine q2 ?_
 refine o_move rfl rfl ?_
 refine o_eqnil_ptr Tryz.underlying67 rfl rfl rfl ?_
 refine o_move rfl rfl ?_
 refine R_guard (yl rfl rfl) ?_
 refine o_move rfl rfl ?_
 refine R_guard (yl rfl rfl) ?_
 refine o_nilCheck rfl rfl ?_
 refine R_guard (yl rfl rfl) ?_
 refine o_fieldAddr 1 Tryz.runUnderlying83 rfl Tryz.sizeOf4 rfl rfl rfl ?_
 refine R_guard (yl rfl rfl) ?_
 refine o_load_P H Tryz.isAgg4 rfl rfl (hpr1 1 _ rfl) ?_
 refine o_pick_f rfl rfl rfl ?_
 refine q3 ?_
 refine W_cond rfl ?_ ?_
 ·intro hc2
  try simp only [nrm] at hc2
  refine q2 ?_
  refine o_assign rfl rfl ?_
  refine o_assign rfl rfl ?_
  refine q3 ?_
  refine W_ret ?_
  refine N_K_ret ?_
  refine ret_gen (rs := [.tmp 6, .tmp 7]) (vs := [_, _]) Tryz.results39 ⟨rfl, rfl, trivial⟩ ?_
  have H := H.addNil 3 1
  have hno : Sp.readN Ls t path = none := by (simp_all [Sp.readN])
  have H := H.forget hG (by simp)
  exact ⟨_, _, rfl, H, _, _, [], (by (rw [hno]; rfl)), rfl, (Chk.nil (E := intE) (sz := 1) (G := G0)), by simp, fun ys h => by rw [hno] at h; cases h⟩
 intro hc2'
 try simp only [nrm] at hc2'
 refine W_skip ?_
 refine N_K ?_
 refine q2 ?_
 refine o_move rfl rfl ?_
 refine o_move rfl rfl ?_
 refine o_nilCheck rfl rfl ?_
 refine o_fieldAddr 2 Tryz.runUnderlying83 rfl Tryz.sizeOf27 rfl rfl rfl ?_
 refine o_load_P H Tryz.isAgg27 rfl rfl (hpr1 2 _ rfl) ?_
 refine o_call Tryz.call93 rfl rfl (i_loadFile_c _ _ H.sub _ _ _ _ _ hbs hms hSs hVs _ _ hri1 ) ?_
 rintro _ w3 ⟨_, _, rfl, H3', ⟨u3, c3, xs3, rfl, rfl, hchk3, hxl3, hxs3⟩⟩
 have H := H.readers (fp := []) (by simp) (PLe.refl _) H3'
 obtain ⟨avr3, cvr3, rfl⟩ := H.accShape (k := 0) rfl
 refine ⟨_, rfl, ?_⟩
 refine o_extract rfl rfl rfl ?_
 refine o_extract rfl rfl rfl ?_
 refine o_assign rfl rfl ?_
 refine o_assign rfl rfl ?_
 refine q3 ?_
 refine W_ret ?_
 refine ret_gen (rs := [.tmp 6, .tmp 7]) (vs := [_, _]) Tryz.results39 ⟨rfl, rfl, trivial⟩ ?_
 have hd : Sp.readN Ls t path = if Sp.l4Ids Ls d1.ids then some (Sp.load Ls d1.ids) else none := by simp_all [Sp.readN]
 have H := H.forget hG (by simp)
 exact ⟨_, _, rfl, H, _, _, xs3, (by (rw [hd]; cases Sp.l4Ids Ls d1.ids <;> rfl)), acc_1 rfl, chkI (G := fun _ => none) ((chkI hchk3)), hxl3, fun ys h => by (rw [hd] at h; by_cases hq : Sp.l4Ids Ls d1.ids = true; (· (rw [if_pos hq] at h); cases h; exact hxs3 hq); (· (rw [if_neg hq] at h); cases h))⟩
end Go.Proofs.Tst

namespace Go.Proofs.Tst
open Go Fw
theorem i_VolumeRead_c (w0 : World) (G0 : PH) (hG : PSub G0 w0) (cu : List Value) (u : BVol) (hu : volE G0 u cu) (path : Bs) (hpath : path.length ≤ 16777216)  :
  Calls Tryz.prog 11 #[.agg cu.toArray, str path] w0 (RetN w0 G0 (fun v Bs => ∃ (uv : Value) (c : List Value) (xs : List Int), v = .tuple #[uv, .bool (Sp.VolumeRead u path).isSome] ∧ Bs = [acc 3 1 uv xs.length c] ∧ Chk intE 1 (fun _ => none) c xs ∧ xs.length ≤ 1000 ∧ (∀ ys, Sp.VolumeRead u path = some ys → xs = ys))) := by
 obtain ⟨a1, m1, c1, a1', m1', c1', rfl, hr1, hr1'⟩ := hu; have hn_hr1 := hr1.len; have hx_hr1 : _ ≤ 1099511627776 := hr1.lim; have hn_hr1q := hr1'.len; have hx_hr1q : _ ≤ 1099511627776 := hr1'.lim
 have H := Hp.init hG
 refine calls_of_W (l := [_, str path]) Tryz.func11 rfl Tryz.ntmps11 rfl ?_
 refine q2 ?_
 refine o_box H rfl rfl rfl ?_; intro b2 w2 hb2 H
 refine o_assign rfl rfl ?_
 refine o_assign rfl rfl ?_
 refine q1 ?_
 refine o_loadagg_B 0 H Tryz.isAgg26 Tryz.sizeOf26 rfl rfl rfl rfl rfl ?_
 refine o_call Tryz.call30 rfl rfl (i_openVol_c _ _ H.sub _ u ⟨_, _, _, _, _, _, rfl, hr1, hr1'⟩ H.lent0 ) ?_
 rintro _ w3 ⟨G3, _, _, rfl, H3', ⟨rfl, rfl, hnv3⟩ | ⟨mb3, es3, ck3, xs3, T3, F3, rfl, rfl, hm3, hS3, hN3, hT3, hv3⟩⟩
 ·skip
  have hr1 := hr1.up H3'.le
  have hr1' := hr1'.up H3'.le
  have H := H.borrow0 H3'
  refine ⟨_, rfl, ?_⟩
  refine o_move rfl rfl ?_
  refine o_extract rfl rfl rfl ?_
  refine o_extract rfl rfl rfl ?_
  refine o_alloc H Tryz.zeroValue69 rfl rfl ?_; intro b4 w4 hb4 H
  refine o_store_B 0 H Tryz.sizeOf69 rfl rfl rfl rfl rfl rfl rfl rfl ?_; intro w5 H
  refine o_assign rfl rfl ?_
  refine q3 ?_
  refine W_seq ?_
  refine q2 ?_
  refine o_move rfl rfl ?_
  refine o_not rfl rfl ?_
  refine q3 ?_
  refine W_true rfl ?_
  refine q2 ?_
  refine o_assign rfl rfl ?_
  refine o_assign rfl rfl ?_
  refine q3 ?_
  refine W_ret ?_
  refine N_K_ret ?_
  refine ret_gen (rs := [.tmp 4, .tmp 5]) (vs := [_, _]) Tryz.results11 ⟨rfl, rfl, trivial⟩ ?_
  have H := H.addNil 3 1
  have H := H.del (k := 1) rfl
  have H := H.del (k := 1) rfl
  have hno : Sp.VolumeRead u path = none := by (simp [Sp.VolumeRead, show Sp.VolumeValid u = false by assumption])
  have H := H.forget hG (by simp)
  exact ⟨_, _, rfl, H, _, _, [], (by (rw [hno]; rfl)), rfl, (Chk.nil (E := intE) (sz := 1) (G := G3)), by simp, fun ys h => by rw [hno] at h; cases h⟩
 skip
 have hr1 := hr1.up H3'.le
 have hr1' := hr1'.up H3'.le
 have H := H.borrow0 H3'
 have hH3 := Sp.Hol.of_vol hv3
 have hVs3 := hH3.vh
 refine ⟨_, rfl, ?_⟩
 refine o_move rfl rfl ?_
 refine o_extract rfl rfl rfl ?_
 refine o_extract rfl rfl rfl ?_
 refine o_alloc H Tryz.zeroValue69 rfl rfl ?_; intro b6 w6 hb6 H
 refine o_store_B 0 H Tryz.sizeOf69 rfl rfl rfl rfl rfl rfl rfl rfl ?_; intro w7 H
 refine o_assign rfl rfl ?_
 refine q3 ?_
 refine W_seq ?_
 refine q2 ?_
 refine o_move rfl rfl ?_
 refine o_not rfl rfl ?_
 refine q3 ?_
 refine W_false rfl ?_
 refine W_skip ?_
 refine N_K ?_
 refine q2 ?_
 refine o_fieldAddr 0 Tryz.runUnderlying69 rfl Tryz.sizeOf66 rfl rfl rfl ?_
 refine o_load_B 0 H Tryz.isAgg66 rfl rfl rfl rfl ?_
 refine o_fieldAddr 1 Tryz.runUnderlying69 rfl Tryz.sizeOf67 rfl rfl rfl ?_
 refine o_load_B 0 H Tryz.isAgg67 rfl rfl rfl rfl ?_
 refine o_move rfl rfl ?_
 refine o_call Tryz.call39 rfl rfl (i_read_c _ _ (H.lendSubL [1, 2]) _ _ _ _ _ (H.lendPredL (k := 1) (ks := [1, 2]) rfl rfl) hm3 (hS3.up (PPlus.le _ _ _)) hVs3 _ ((H.lendN (k := 2) (ks := [1, 2]) rfl rfl hN3).at (show Nd.at_ T3 [] = some T3 from rfl)) _ hpath hT3.wf) ?_
 rintro _ w8 ⟨_, _, rfl, H8', ⟨u8, c8, xs8, rfl, rfl, hchk8, hxl8, hxs8⟩⟩
 have H := H.readersL H8'
 obtain ⟨avr8, cvr8, rfl⟩ := H.accShape (k := 0) rfl
 refine ⟨_, rfl, ?_⟩
 refine o_extract rfl rfl rfl ?_
 refine o_extract rfl rfl rfl ?_
 refine o_assign rfl rfl ?_
 refine o_assign rfl rfl ?_
 refine q3 ?_
 refine W_ret ?_
 refine ret_gen (rs := [.tmp 4, .tmp 5]) (vs := [_, _]) Tryz.results11 ⟨rfl, rfl, trivial⟩ ?_
 have H := H.del (k := 1) rfl
 have H := H.del (k := 1) rfl
 have H := H.del (k := 1) rfl
 have H := H.del (k := 1) rfl
 have hd : Sp.VolumeRead u path = Sp.readN u.store T3 path := by (rw [Sp.read_eq hH3.ids hT3]; simp only [Sp.VolumeRead, hv3, if_true])
 have H := H.forget hG (by simp)
 exact ⟨_, _, rfl, H, _, _, xs8, (by (rw [hd]; rfl)), acc_1 rfl, chkI (G := fun _ => none) ((chkI hchk8)), hxl8, fun ys h => by (rw [hd] at h; exact hxs8 ys h)⟩
end Go.Proofs.Tst

namespace Go.Proofs.Tst
open Go Fw
theorem i_vremove_c (w0 : World) (G0 : PH) (hG : PSub G0 w0) (mb : Nat) (es : Array MapEntry) (ck : Nat) (xs : List (Int × Value)) (T : Nd) (FT : Fr) (L : List BHeld) (l : List BItem) (hm : MapIs (Value.int .i64) es ck xs) (hS : StR G0 xs L) (hN : NdO 83 67 G0 T FT) (hT : Nd.TOK T l) (hH : Sp.Hol L l) (path : Bs) (hpath : path.length ≤ 16777216) (hLent : Lent w0 G0 [blk mb (.map es ck), frag FT])  :
  Calls Tryz.prog 42 #[.agg #[.map (some mb), .pointer (some ⟨T.b, 0, none⟩)], str path] w0 (RetM w0 G0 (fps [blk mb (.map es ck), frag FT]) (fun G' v Bs => ∃ (es' : Array MapEntry) (ck' : Nat) (xs' : List (Int × Value)) (F' : Fr) (T' : Nd) (L' : List BHeld), v = .bool ((Sp.l11Drop L l path)).isSome ∧ Bs = [blk mb (.map es' ck'), frag F'] ∧ MapIs (Value.int .i64) es' ck' xs' ∧ StR G' xs' L' ∧ Sp.VH L' ∧ NdO 83 67 G' T' F' ∧ T'.b = T.b ∧ ∀ u', (Sp.l11Drop L l path) = some u' → L' = u'.store ∧ Nd.TOK T' u'.tree ∧ Sp.Hol u'.store u'.tree)) := by
 have H : Hp w0 G0 (fps [blk mb (.map es ck), frag FT]) w0 G0 [blk mb (.map es ck), frag FT] := hLent.hp
 have hVd := hH.vh; have hTc := hT.cnt; have hTl := hH.vt.len
 refine calls_of_W (l := [_, str path]) Tryz.func42 rfl Tryz.ntmps42 rfl ?_
 refine q2 ?_
 refine o_box H rfl rfl rfl ?_; intro b1 w1 hb1 H
 refine o_assign rfl rfl ?_
 refine q1 ?_
 refine o_fieldAddr 1 Tryz.runUnderlying69 rfl Tryz.sizeOf67 rfl rfl rfl ?_
 refine o_load_B 0 H Tryz.isAgg67 rfl rfl rfl rfl ?_
 refine o_move rfl rfl ?_
 refine o_call Tryz.call41 rfl rfl (i_find_n_c _ _ (H.lendSubL [2]) _ ((H.lendN (k := 2) (ks := [2]) rfl rfl hN).at (show Nd.at_ T [] = some T from rfl)) _ hpath hT.wf) ?_
 rintro _ w2 ⟨_, rfl, ew2, ⟨hfi2, rfl⟩ | ⟨d2, hfi2, rfl⟩⟩
 ·skip
  have H := H.step ew2; refine ⟨_, rfl, ?_⟩
  refine o_assign rfl rfl ?_
  refine q3 ?_
  refine W_seq ?_
  refine W_drawK [0] 18 H (by kernel_rfl) rfl ?_; intro w3 H; have hd3 := PLe.refl G0
  refine RD_t 0 rfl (by kernel_rfl) rfl (fun _ hK => v_move rfl) ?_
  refine RD_t 1 rfl (by kernel_rfl) rfl (fun _ hK => v_nenil_ptr Tryz.underlying67 rfl rfl) ?_
  refine RD_t 2 rfl (by kernel_rfl) rfl (fun _ hK => v_move rfl) ?_
  refine RD_pass 3 rfl (by kernel_rfl) (by kernel_rfl) (by kernel_rfl) rfl (yl_ne rfl rfl rfl) ?_
  refine RD_pass 4 rfl (by kernel_rfl) (by kernel_rfl) (by kernel_rfl) rfl (yl_ne rfl rfl rfl) ?_
  refine RD_pass 5 rfl (by kernel_rfl) (by kernel_rfl) (by kernel_rfl) rfl (yl_ne rfl rfl rfl) ?_
  refine RD_pass 6 rfl (by kernel_rfl) (by kernel_rfl) (by kernel_rfl) rfl (yl_ne rfl rfl rfl) ?_
  refine RD_t 7 rfl (by kernel_rfl) rfl (fun _ hK => v_pick_f rfl rfl) ?_
  refine RD_t 8 rfl (by kernel_rfl) rfl (fun _ hK => v_move rfl) ?_
  refine RD_pass 9 rfl (by kernel_rfl) (by kernel_rfl) (by kernel_rfl) rfl (yl_ne rfl rfl rfl) ?_
  refine RD_pass 10 rfl (by kernel_rfl) (by kernel_rfl) (by kernel_rfl) rfl (yl_ne rfl rfl rfl) ?_
  refine RD_pass 11 rfl (by kernel_rfl) (by kernel_rfl) (by kernel_rfl) rfl (yl_ne rfl rfl rfl) ?_
  refine RD_pass 12 rfl (by kernel_rfl) (by kernel_rfl) (by kernel_rfl) rfl (yl_ne rfl rfl rfl) ?_
  refine RD_pass 13 rfl (by kernel_rfl) (by kernel_rfl) (by kernel_rfl) rfl (yl_ne rfl rfl rfl) ?_
  refine RD_pass 14 rfl (by kernel_rfl) (by kernel_rfl) (by kernel_rfl) rfl (yl_ne rfl rfl rfl) ?_
  refine RD_pass 15 rfl (by kernel_rfl) (by kernel_rfl) (by kernel_rfl) rfl (yl_ne rfl rfl rfl) ?_
  refine RD_t 16 rfl (by kernel_rfl) rfl (fun _ hK => v_pick_f rfl rfl) ?_
  refine RD_t 17 rfl (by kernel_rfl) rfl (fun _ hK => v_assign rfl) ?_
  refine RD_done (by kernel_rfl) ?_
  refine N_K ?_
  refine W_ret ?_
  refine ret_gen (rs := [.tmp 4]) (vs := [_]) Tryz.results42 ⟨rfl, trivial⟩ ?_
  have H := H.del (k := 0) rfl
  have H := H.toFront (k := 1) rfl
  have H := H.toFront (k := 1) rfl
  have hno : Sp.l11Drop L l path = none := Sp.drop_no1 hT (by assumption)
  exact H.retM ⟨_, _, _, _, _, _, congrArg Value.bool (by (rw [hno]; rfl)), rfl, hm, hS, hVd, hN, rfl, fun u' h => (by rw [hno] at h; cases h)⟩
 skip
 have H := H.step ew2; refine ⟨_, rfl, ?_⟩
 refine o_assign rfl rfl ?_
 refine q3 ?_
 refine W_seq ?_
 refine W_drawK [0] 18 H (by kernel_rfl) rfl ?_; intro w4 H; have hd4 := PLe.refl G0
 refine RD_t 0 rfl (by kernel_rfl) rfl (fun _ hK => v_move rfl) ?_
 refine RD_t 1 rfl (by kernel_rfl) rfl (fun _ hK => v_nenil_ptr Tryz.underlying67 rfl rfl) ?_
 refine RD_t 2 rfl (by kernel_rfl) rfl (fun _ hK => v_move rfl) ?_
 refine RD_tg 3 rfl (by kernel_rfl) rfl (yl rfl rfl) (fun _ hK => v_fieldAddr 1 Tryz.runUnderlying69 rfl Tryz.sizeOf67 rfl rfl) ?_
 refine RD_tg 4 rfl (by kernel_rfl) rfl (yl rfl rfl) (fun _ hK => v_load_B 0 hK Tryz.isAgg67 rfl rfl rfl) ?_
 refine RD_tg 5 rfl (by kernel_rfl) rfl (yl rfl rfl) (fun _ hK => v_move rfl) ?_
 refine RD_run [6] (by kernel_rfl) rfl (RDs.cons rfl ?_ RDs.nil)
 refine R_guard (yl rfl rfl) ?_
 have H := H.toFront (k := 2) rfl
 refine o_call Tryz.call98 rfl rfl (i_drop_n_c _ _ H.sub _ _ hN _ hpath H.lent1 hT.wf (by omega)) ?_
 rintro _ w5 ⟨G5, _, _, rfl, H5', ⟨F5, Fk5, t5, rfl, rfl, hN5, hb5, ht5, hk5⟩⟩
 have hS := hS.up H5'.le
 have hN := hN.up H5'.le
 have hd4 := hd4.trans H5'.le
 have H := H.borrow1 H5'
 try rw [← hb5]
 try rw [← hb5] at H
 refine ⟨_, rfl, ?_⟩
 refine R_nil ?_
 refine N_DK (Kn.of' H hd4 (SubL.cons 2 rfl SubL.nil)) ?_
 refine RD_t 7 rfl (by kernel_rfl) rfl (fun _ hK => v_pick_t rfl rfl) ?_
 refine RD_t 8 rfl (by kernel_rfl) rfl (fun _ hK => v_move rfl) ?_
 refine RD_case (t := 18) rfl ?_ ?_
 ·intro hc6
  try simp only [nrm] at hc6
  obtain ⟨k2, hk2, hNk⟩ := hk5 (by simpa using hc6)
  obtain rfl : k2 = d2 := Option.some.inj (hk2.symm.trans hfi2)
  have H := H.toFront (k := 1) rfl
  obtain ⟨oa, om, oc, okv, oFs, oR, H, ohri, ohNs, ohnl, ohkl, hcov, hclose⟩ := Hp.openNode H hNk (show Nd.at_ k2 [] = some k2 from rfl)
  obtain ⟨oak, ock, rfl⟩ := H.accShape (k := 1) rfl; have hdo := PLe.refl G5; have hn_ohri := ohri.len
  refine RD_tg 9 rfl (by kernel_rfl) rfl (yl rfl rfl) (fun _ hK => v_fieldAddr 0 Tryz.runUnderlying69 rfl Tryz.sizeOf66 rfl rfl) ?_
  refine RD_tg 10 rfl (by kernel_rfl) rfl (yl rfl rfl) (fun _ hK => v_load_B 0 hK Tryz.isAgg66 rfl rfl rfl) ?_
  refine RD_tg 11 rfl (by kernel_rfl) rfl (yl rfl rfl) (fun _ hK => v_move rfl) ?_
  refine RD_tg 12 rfl (by kernel_rfl) rfl (yl rfl rfl) (fun _ hK => v_nilCheck rfl) ?_
  refine RD_tg 13 rfl (by kernel_rfl) rfl (yl rfl rfl) (fun _ hK => v_fieldAddr 2 Tryz.runUnderlying83 rfl Tryz.sizeOf27 rfl rfl) ?_
  refine RD_run [14] (by kernel_rfl) rfl (RDs.cons rfl ?_ RDs.nil)
  refine R_guard (yl rfl rfl) ?_
  refine o_load_B 0 H Tryz.isAgg27 rfl rfl rfl rfl ?_
  refine R_nil ?_
  refine N_DK (Kn.of' H hd4 (SubL.cons 4 rfl SubL.nil)) ?_
  refine RD_run [15] (by kernel_rfl) rfl (RDs.cons rfl ?_ RDs.nil)
  refine R_guard (yl rfl rfl) ?_
  have H := H.toFront (k := 5) rfl
  refine o_call Tryz.call80 rfl rfl (i_freeFile_c _ _ H.sub _ _ _ _ _ hm hS hVd _ _ ohri H.lent1 ) ?_
  rintro _ w7 ⟨G7, _, _, rfl, H7', ⟨es7, ck7, xs7, L7, rfl, rfl, hm7, hS7, hV7, hL7⟩⟩
  have hS := hS.up H7'.le
  have hN := hN.up H7'.le
  have hN5 := hN5.up H7'.le
  have ohri := ohri.up H7'.le
  have ohNs := ohNs.up H7'.le
  have hd4 := hd4.trans H7'.le
  have hdo := hdo.trans H7'.le
  have H := H.borrow1 H7'
  refine ⟨_, rfl, ?_⟩
  refine R_nil ?_
  refine N_DK (Kn.of' H hd4 (SubL.cons 5 rfl SubL.nil)) ?_
  refine RD_t 16 rfl (by kernel_rfl) rfl (fun _ hK => v_pick_t rfl rfl) ?_
  refine RD_t 17 rfl (by kernel_rfl) rfl (fun _ hK => v_assign rfl) ?_
  refine RD_done (by kernel_rfl) ?_
  refine N_K ?_
  refine W_ret ?_
  refine ret_gen (rs := [.tmp 4]) (vs := [_]) Tryz.results42 ⟨rfl, trivial⟩ ?_
  have H := H.del (k := 1) rfl
  have H := H.del (k := 1) rfl
  have H := H.del (k := 1) rfl
  have H := H.del (k := 2) rfl
  have H := H.toFront (k := 1) rfl
  have H := H.toFront (k := 1) rfl
  have hpt : T.dropN path = some t5 := by (obtain ⟨q, hq⟩ := Option.isSome_iff_exists.1 (show (T.dropN path).isSome = true by simpa using hc6); (rw [← ht5, hq]; rfl))
  obtain ⟨s', tt, g1, g2, g3, g4⟩ := Sp.drop_fin hH hT hk2 hpt
  exact H.retM ⟨_, _, _, _, _, _, congrArg Value.bool (by (rw [g1, g2]; rfl)), rfl, hm7, hS7, hV7, hN5, (by first | rfl | exact hb5), fun u' h => (by rw [g2] at h; cases h; exact ⟨hL7 _ g1, g3, g4⟩)⟩
 intro hc6'
 try simp only [nrm] at hc6'
 refine RD_pass 9 rfl (by kernel_rfl) (by kernel_rfl) (by kernel_rfl) rfl (yl_ne rfl rfl rfl) ?_
 refine RD_pass 10 rfl (by kernel_rfl) (by kernel_rfl) (by kernel_rfl) rfl (yl_ne rfl rfl rfl) ?_
 refine RD_pass 11 rfl (by kernel_rfl) (by kernel_rfl) (by kernel_rfl) rfl (yl_ne rfl rfl rfl) ?_
 refine RD_pass 12 rfl (by kernel_rfl) (by kernel_rfl) (by kernel_rfl) rfl (yl_ne rfl rfl rfl) ?_
 refine RD_pass 13 rfl (by kernel_rfl) (by kernel_rfl) (by kernel_rfl) rfl (yl_ne rfl rfl rfl) ?_
 refine RD_pass 14 rfl (by kernel_rfl) (by kernel_rfl) (by kernel_rfl) rfl (yl_ne rfl rfl rfl) ?_
 refine RD_pass 15 rfl (by kernel_rfl) (by kernel_rfl) (by kernel_rfl) rfl (yl_ne rfl rfl rfl) ?_
 refine RD_t 16 rfl (by kernel_rfl) rfl (fun _ hK => v_pick_f rfl rfl) ?_
 refine RD_t 17 rfl (by kernel_rfl) rfl (fun _ hK => v_assign rfl) ?_
 refine RD_done (by kernel_rfl) ?_
 refine N_K ?_
 refine W_ret ?_
 refine ret_gen (rs := [.tmp 4]) (vs := [_]) Tryz.results42 ⟨rfl, trivial⟩ ?_
 have H := H.del (k := 1) rfl
 have H := H.del (k := 1) rfl
 have H := H.toFront (k := 1) rfl
 have hno : Sp.l11Drop L l path = none := Sp.drop_no2 hT (by simpa using hc6')
 exact H.retM ⟨_, _, _, _, _, _, congrArg Value.bool (by (rw [hno]; rfl)), rfl, hm, hS, hVd, hN5, (by first | rfl | exact hb5), fun u' h => (by rw [hno] at h; cases h)⟩
theorem i_VolumeDrop_c (w0 : World) (G0 : PH) (hG : PSub G0 w0) (cu : List Value) (u : BVol) (hu : volE G0 u cu) (path : Bs) (hpath : path.length ≤ 16777216)  :
  Calls Tryz.prog 15 #[.agg cu.toArray, str path] w0 (RetN w0 G0 (fun v Bs => ∃ (v1 v2 : Value) (F1 F2 : Fr), v = .tuple #[.agg #[v1, v2], .bool (Sp.VolumeDrop u path).isSome] ∧ Bs = [frag F1, frag F2] ∧ OHs F1 v1 ((Sp.VolumeDrop u path).getD ⟨[], []⟩).store ∧ OIs F2 v2 ((Sp.VolumeDrop u path).getD ⟨[], []⟩).tree)) := by
 obtain ⟨a1, m1, c1, a1', m1', c1', rfl, hr1, hr1'⟩ := hu; have hn_hr1 := hr1.len; have hx_hr1 : _ ≤ 1099511627776 := hr1.lim; have hn_hr1q := hr1'.len; have hx_hr1q : _ ≤ 1099511627776 := hr1'.lim
 have H := Hp.init hG
 refine calls_of_W (l := [_, str path]) Tryz.func15 rfl Tryz.ntmps15 rfl ?_
 refine q2 ?_
 refine o_box H rfl rfl rfl ?_; intro b2 w2 hb2 H
 refine o_alloc H Tryz.zeroValue26 rfl rfl ?_; intro b3 w3 hb3 H
 refine o_assign rfl rfl ?_
 refine q1 ?_
 refine o_loadagg_B 1 H Tryz.isAgg26 Tryz.sizeOf26 rfl rfl rfl rfl rfl ?_
 refine o_call Tryz.call30 rfl rfl (i_openVol_c _ _ H.sub _ u ⟨_, _, _, _, _, _, rfl, hr1, hr1'⟩ H.lent0 ) ?_
 rintro _ w4 ⟨G4, _, _, rfl, H4', ⟨rfl, rfl, hnv4⟩ | ⟨mb4, es4, ck4, xs4, T4, F4, rfl, rfl, hm4, hS4, hN4, hT4, hv4⟩⟩
 ·skip
  have hr1 := hr1.up H4'.le
  have hr1' := hr1'.up H4'.le
  have H := H.borrow0 H4'
  refine ⟨_, rfl, ?_⟩
  refine o_move rfl rfl ?_
  refine o_extract rfl rfl rfl ?_
  refine o_extract rfl rfl rfl ?_
  refine o_alloc H Tryz.zeroValue69 rfl rfl ?_; intro b5 w5 hb5 H
  refine o_store_B 0 H Tryz.sizeOf69 rfl rfl rfl rfl rfl rfl rfl rfl ?_; intro w6 H
  refine o_assign rfl rfl ?_
  refine q3 ?_
  refine W_seq ?_
  refine q2 ?_
  refine o_move rfl rfl ?_
  refine o_not rfl rfl ?_
  refine o_move rfl rfl ?_
  refine R_pass rfl (yl_ne rfl rfl rfl) ?_
  refine R_pass rfl (yl_ne rfl rfl rfl) ?_
  refine R_pass rfl (yl_ne rfl rfl rfl) ?_
  refine R_pass rfl (yl_ne rfl rfl rfl) ?_
  refine o_pick_t rfl rfl rfl ?_
  refine q3 ?_
  refine W_true rfl ?_
  refine q2 ?_
  refine o_build bf26 rfl rfl rfl ?_
  refine o_store_B 1 H Tryz.sizeOf26 rfl rfl rfl rfl rfl rfl rfl rfl ?_; intro w7 H
  refine o_assign rfl rfl ?_
  refine q3 ?_
  refine W_ret ?_
  refine N_K_ret ?_
  refine ret_gen (rs := [.cell 4 26, .tmp 5]) (vs := [_, _]) Tryz.results15 ⟨⟨_, rfl, load_blk 1 H Tryz.isAgg26 Tryz.sizeOf26 rfl rfl rfl⟩, rfl, trivial⟩ ?_
  have H := H.del (k := 0) rfl
  have H := H.del (k := 0) rfl
  have H := H.del (k := 0) rfl
  have hno : Sp.VolumeDrop u path = none := (by (rw [Sp.drop_eq2]; split <;> simp_all))
  have H := ((H.addF).addF).forget hG (by simp)
  refine ⟨_, _, rfl, H, .slice none 0 0, .slice none 0 0, [], [], ?_, rfl, ?_, ?_⟩
  ·(rw [hno]; rfl)
  ·(rw [hno]; exact oh_nil)
  (rw [hno]; exact oi_nil)
 skip
 have hr1 := hr1.up H4'.le
 have hr1' := hr1'.up H4'.le
 have H := H.borrow0 H4'
 have hH4 := Sp.Hol.of_vol hv4
 have hVs4 := hH4.vh
 refine ⟨_, rfl, ?_⟩
 refine o_move rfl rfl ?_
 refine o_extract rfl rfl rfl ?_
 refine o_extract rfl rfl rfl ?_
 refine o_alloc H Tryz.zeroValue69 rfl rfl ?_; intro b8 w8 hb8 H
 refine o_store_B 0 H Tryz.sizeOf69 rfl rfl rfl rfl rfl rfl rfl rfl ?_; intro w9 H
 refine o_assign rfl rfl ?_
 refine q3 ?_
 refine W_seq ?_
 refine q2 ?_
 refine o_move rfl rfl ?_
 refine o_not rfl rfl ?_
 refine o_move rfl rfl ?_
 refine R_guard (yl rfl rfl) ?_
 refine o_loadagg_B 0 H Tryz.isAgg69 Tryz.sizeOf69 rfl rfl rfl rfl rfl ?_
 refine R_guard (yl rfl rfl) ?_
 refine o_move rfl rfl ?_
 refine R_guard (yl rfl rfl) ?_
 have H := H.toFront (k := 2) rfl
 have H := H.toFront (k := 2) rfl
 refine o_call Tryz.call42 rfl rfl (i_vremove_c _ _ H.sub _ _ _ _ _ _ _ _ hm4 hS4 hN4 hT4 hH4 _ hpath H.lent2 ) ?_
 rintro _ w10 ⟨G10, _, _, rfl, H10', ⟨es10, ck10, xs10, F10, T10, L10, rfl, rfl, hm10, hS10, hV10, hN10, hb10, hu10⟩⟩
 have hr1 := hr1.up H10'.le
 have hr1' := hr1'.up H10'.le
 have hS4 := hS4.up H10'.le
 have hN4 := hN4.up H10'.le
 have H := H.borrow2 H10'
 try rw [← hb10]
 try rw [← hb10] at H
 refine ⟨_, rfl, ?_⟩
 refine R_guard (yl rfl rfl) ?_
 refine o_not rfl rfl ?_
 refine o_pick_f rfl rfl rfl ?_
 refine q3 ?_
 refine W_cond rfl ?_ ?_
 ·intro hc11
  try simp only [nrm] at hc11
  refine q2 ?_
  refine o_build bf26 rfl rfl rfl ?_
  refine o_store_B 3 H Tryz.sizeOf26 rfl rfl rfl rfl rfl rfl rfl rfl ?_; intro w12 H
  refine o_assign rfl rfl ?_
  refine q3 ?_
  refine W_ret ?_
  refine N_K_ret ?_
  refine ret_gen (rs := [.cell 4 26, .tmp 5]) (vs := [_, _]) Tryz.results15 ⟨⟨_, rfl, load_blk 3 H Tryz.isAgg26 Tryz.sizeOf26 rfl rfl rfl⟩, rfl, trivial⟩ ?_
  have H := H.del (k := 0) rfl
  have H := H.del (k := 0) rfl
  have H := H.del (k := 0) rfl
  have H := H.del (k := 0) rfl
  have H := H.del (k := 0) rfl
  have hno : Sp.VolumeDrop u path = none := (by (rw [Sp.drop_eq2]; split <;> simp_all))
  have H := ((H.addF).addF).forget hG (by simp)
  refine ⟨_, _, rfl, H, .slice none 0 0, .slice none 0 0, [], [], ?_, rfl, ?_, ?_⟩
  ·(rw [hno]; rfl)
  ·(rw [hno]; exact oh_nil)
  (rw [hno]; exact oi_nil)
 intro hc11'
 try simp only [nrm] at hc11'
 obtain ⟨u2, hu2⟩ := Option.isSome_iff_exists.1 (show (Sp.l11Drop u.store u.tree path).isSome = true by simpa using hc11')
 obtain ⟨hL2, hT2, hH2⟩ := hu10 u2 hu2; subst hL2
 refine W_skip ?_
 refine N_K ?_
 refine q2 ?_
 refine o_loadagg_B 2 H Tryz.isAgg69 Tryz.sizeOf69 rfl rfl rfl rfl rfl ?_
 refine o_call Tryz.call33 rfl rfl (i_volume_c _ _ (H.lendSubL [0, 0, 1, 1]) _ _ _ _ _ _ (H.lendPredL (k := 0) (ks := [0, 0, 1, 1]) rfl rfl) hm10 (hS10.up (PPlus.le _ _ _)) hV10 (H.lendN (k := 1) (ks := [0, 0, 1, 1]) rfl rfl hN10) hT2.wf (by have := hT2.cnt; have := hH2.vt.len; omega)) ?_
 rintro _ w13 ⟨_, _, rfl, H13', ⟨u113, u213, D113, D213, rfl, rfl, ho113, ho213⟩⟩
 have H := H.readersL H13'
 obtain ⟨x113, p113⟩ := ho113
 obtain ⟨a113, c113, rfl⟩ := OwnS.shape p113
 obtain ⟨x213, p213⟩ := ho213
 obtain ⟨a213, c213, rfl⟩ := OwnS.shape p213
 refine ⟨_, rfl, ?_⟩
 refine o_store_B 5 H Tryz.sizeOf26 rfl rfl rfl rfl rfl rfl rfl rfl ?_; intro w14 H
 refine o_assign rfl rfl ?_
 refine q3 ?_
 refine W_ret ?_
 refine ret_gen (rs := [.cell 4 26, .tmp 5]) (vs := [_, _]) Tryz.results15 ⟨⟨_, rfl, load_blk 5 H Tryz.isAgg26 Tryz.sizeOf26 rfl rfl rfl⟩, rfl, trivial⟩ ?_
 have H := H.del (k := 2) rfl
 have H := H.del (k := 2) rfl
 have H := H.del (k := 2) rfl
 have H := H.del (k := 2) rfl
 have H := H.del (k := 2) rfl
 have H := H.toFront (k := 1) rfl
 have H := H.toFront (k := 1) rfl
 have hyes : Sp.VolumeDrop u path = some u2 := by (rw [Sp.drop_eq2, if_pos hv4]; exact hu2)
 have hfl := hT2.flat
 have H := H.forget hG (by simp)
 exact ⟨_, _, rfl, H, _, _, _, _, (by (rw [hyes]; rfl)), rfl, (by (rw [hyes]; exact ⟨_, p113⟩)), (by (rw [hyes]; exact (hfl ▸ ⟨_, p213⟩)))⟩
end Go.Proofs.Tst

namespace Go.Proofs.Tst
open Go Fw
theorem w_sameInts_c (w0 : World) (G0 : PH) (hG : PSub G0 w0) (va : Value) (a : List (Int)) (ha : RdI G0 va a) (vb : Value) (b : List (Int)) (hb : RdI G0 vb b) (hab : a = b) :
  Calls Tryz.prog 13 #[va, vb] w0 (Rets w0 (.bool true)) := by
 obtain ⟨aa, ka, rfl⟩ := ha.shape
 have hlima : a.length ≤ 1099511627776 := ha.lim
 obtain ⟨ab, kb, rfl⟩ := hb.shape
 have hlimb : b.length ≤ 1099511627776 := hb.lim
 have hle := congrArg List.length hab
 have H := Hp.init hG
 refine calls_of_W (l := [.slice aa a.length ka, .slice ab b.length kb]) Tryz.func13 rfl Tryz.ntmps13 rfl ?_
 refine q2 ?_
 refine o_assign rfl rfl ?_
 refine q3 ?_
 refine W_seq ?_
 refine q2 ?_
 refine o_move rfl rfl ?_
 refine o_len_slice Tryz.underlying27 rfl rfl ?_
 refine o_move rfl rfl ?_
 refine o_len_slice Tryz.underlying27 rfl rfl ?_
 refine o_neq rfl rfl rfl ?_
 refine q3 ?_
 refine W_cond rfl ?_ ?_
 ·intro hc1
  try simp only [nrm] at hc1
  refine q2 ?_
  refine o_assign rfl rfl ?_
  refine q3 ?_
  refine W_ret ?_
  refine N_K_ret ?_
  refine ret_gen (rs := [.tmp 4]) (vs := [_]) Tryz.results13 ⟨rfl, trivial⟩ ?_
  exact absurd (show False from by omega) id
 intro hc1'
 try simp only [nrm] at hc1'
 refine W_skip ?_
 refine N_K ?_
 refine W_seq ?_
 refine q2 ?_
 refine o_assign rfl rfl ?_
 refine q3 ?_
 refine W_block ?_
 refine W_loop (hf := (Sub.cons (t := 0) rfl (Sub.cons (t := 1) rfl Sub.nil))) (J := fun M w m => ∃ (k : Nat) (G : PH), M = [(5, .int .i64 (k : Int))] ∧ PLe G0 G ∧ Hp w0 G0 [] w G [] ∧ (k ≤ a.length) ∧ m = (a.length - k)) (h0 := ⟨0, _, rfl, PLe.refl _, H, ?inv, rfl⟩) (hM := ?hM) (round := ?round)
 case hM => (repeat (first | exact Sub.nil | refine Sub.cons rfl ?_))
 case inv => omega
 case round =>
  rintro _ w2 _ ⟨k, G2, rfl, hle2, H, hinv2, rfl⟩
  have ha := ha.up hle2
  have hb := hb.up hle2
  have hk := hinv2
  refine W_seq ?_
  refine q2 ?_
  refine o_move rfl rfl ?_
  refine o_move rfl rfl ?_
  refine o_len_slice Tryz.underlying27 rfl rfl ?_
  refine o_lss rfl rfl rfl ?_
  refine q3 ?_
  refine W_cond rfl ?_ ?_
  ·intro hc3
   try simp only [nrm] at hc3
   refine W_skip ?_
   refine N_K ?_
   refine W_seq ?_
   refine W_block ?_
   refine W_seq ?_
   refine W_drawK [] 9 H (by kernel_rfl) rfl ?_; intro w4 H; have hd4 := PLe.refl G2
   refine RD_t 0 rfl (by kernel_rfl) rfl (fun _ hK => v_move rfl) ?_
   refine RD_t 1 rfl (by kernel_rfl) rfl (fun _ hK => v_move rfl) ?_
   have hl5 := ha.len
   obtain ⟨b5, o5, z5, q5, ha5, hz5, hq5, hE5, hrow5, _⟩ := ha.at (i := k) (by omega)
   clear hq5
   obtain ⟨rfl, hi5⟩ := hE5
   refine RD_t 2 rfl (by kernel_rfl) rfl (fun _ hK => v_index_P (i := k) ha5 Tryz.underlying27 Tryz.sizeOf3 rfl rfl rfl (by omega)) ?_
   refine RD_t 3 rfl (by kernel_rfl) rfl (fun _ hK => v_load_P hK Tryz.isAgg3 rfl (hrow5 0 _ rfl)) ?_
   refine RD_t 4 rfl (by kernel_rfl) rfl (fun _ hK => v_move rfl) ?_
   refine RD_t 5 rfl (by kernel_rfl) rfl (fun _ hK => v_move rfl) ?_
   have hl6 := hb.len
   obtain ⟨b6, o6, z6, q6, ha6, hz6, hq6, hE6, hrow6, _⟩ := hb.at (i := k) (by omega)
   clear hq6
   obtain ⟨rfl, hi6⟩ := hE6
   refine RD_t 6 rfl (by kernel_rfl) rfl (fun _ hK => v_index_P (i := k) ha6 Tryz.underlying27 Tryz.sizeOf3 rfl rfl rfl (by omega)) ?_
   refine RD_t 7 rfl (by kernel_rfl) rfl (fun _ hK => v_load_P hK Tryz.isAgg3 rfl (hrow6 0 _ rfl)) ?_
   refine RD_t 8 rfl (by kernel_rfl) rfl (fun _ hK => v_neq rfl rfl) ?_
   refine RD_done (by kernel_rfl) ?_
   refine N_K ?_
   refine W_cond rfl ?_ ?_
   ·intro hc7
    try simp only [nrm] at hc7
    refine q2 ?_
    refine o_assign rfl rfl ?_
    refine q3 ?_
    refine W_ret ?_
    refine N_B_ret ?_
    refine N_K_ret ?_
    refine N_LP_ret ?_
    refine N_B_ret ?_
    refine N_K_ret ?_
    refine ret_gen (rs := [.tmp 4]) (vs := [_]) Tryz.results13 ⟨rfl, trivial⟩ ?_
    exact absurd (show False from by first | omega | (exact hc7 (Sp.same_at hab hz5 hz6))) id
   intro hc7'
   try simp only [nrm] at hc7'
   refine W_skip ?_
   refine N_B ?_
   refine N_K ?_
   refine W_region ?_
   refine o_move rfl rfl ?_
   refine o_add rfl rfl rfl ⟨by omega, by omega⟩ ?_
   refine o_assign rfl rfl ?_
   refine R_nil ?_
   refine N_LP (hJ := ⟨k + 1, _, rfl, hle2, H, ?inv, rfl⟩) (hM := ?hM) (hf := ?hf) (hm := ?hm)
   case hM => (repeat (first | exact Sub.nil | refine Sub.cons rfl ?_))
   case hf => (repeat (first | exact Sub.nil | refine Sub.cons rfl ?_))
   case hm => omega
   case inv => omega
  intro hc3'
  try simp only [nrm] at hc3'
  refine W_exit ?_
  refine N_K_exit ?_
  refine N_LP_exit ?_
  refine N_B_same ?_
  refine N_K ?_
  refine q2 ?_
  refine o_assign rfl rfl ?_
  refine q3 ?_
  refine W_ret ?_
  refine ret_gen (rs := [.tmp 4]) (vs := [_]) Tryz.results13 ⟨rfl, trivial⟩ ?_
  exact H.rets rfl
theorem w_sameHeld_c (w0 : World) (G0 : PH) (hG : PSub G0 w0) (ca : List Value) (a : BHeld) (ha : heldE G0 a ca) (cb : List Value) (b : BHeld) (hb : heldE G0 b cb) (hab : a = b) :
  Calls Tryz.prog 91 #[.agg ca.toArray, .agg cb.toArray] w0 (Rets w0 (.bool true)) := by
 obtain ⟨a1, m1, c1, rfl, hi1, hr1, hj1⟩ := ha; have hn_hr1 := hr1.len; have hx_hr1 : _ ≤ 1099511627776 := hr1.lim
 obtain ⟨a2, m2, c2, rfl, hi2, hr2, hj2⟩ := hb; have hn_hr2 := hr2.len; have hx_hr2 : _ ≤ 1099511627776 := hr2.lim
 have H := Hp.init hG
 refine calls_of_W (l := [_, _]) Tryz.func91 rfl Tryz.ntmps91 rfl ?_
 refine q2 ?_
 refine o_box H rfl rfl rfl ?_; intro b3 w3 hb3 H
 refine o_box H rfl rfl rfl ?_; intro b4 w4 hb4 H
 refine o_assign rfl rfl ?_
 refine q1 ?_
 refine o_fieldAddr 0 Tryz.runUnderlying117 rfl Tryz.sizeOf3 rfl rfl rfl ?_
 refine o_load_B 1 H Tryz.isAgg3 rfl rfl rfl rfl ?_
 refine o_fieldAddr 0 Tryz.runUnderlying117 rfl Tryz.sizeOf3 rfl rfl rfl ?_
 refine o_load_B 0 H Tryz.isAgg3 rfl rfl rfl rfl ?_
 refine o_eql rfl rfl rfl ?_
 refine o_move rfl rfl ?_
 refine R_case (t := 10) rfl ?_ ?_
 ·intro hc5
  try simp only [nrm] at hc5
  refine R_guard (yl rfl rfl) ?_
  refine o_fieldAddr 2 Tryz.runUnderlying117 rfl Tryz.sizeOf3 rfl rfl rfl ?_
  refine R_guard (yl rfl rfl) ?_
  refine o_load_B 1 H Tryz.isAgg3 rfl rfl rfl rfl ?_
  refine R_guard (yl rfl rfl) ?_
  refine o_fieldAddr 2 Tryz.runUnderlying117 rfl Tryz.sizeOf3 rfl rfl rfl ?_
  refine R_guard (yl rfl rfl) ?_
  refine o_load_B 0 H Tryz.isAgg3 rfl rfl rfl rfl ?_
  refine R_guard (yl rfl rfl) ?_
  refine o_eql rfl rfl rfl ?_
  refine o_pick_t rfl rfl rfl ?_
  refine o_move rfl rfl ?_
  refine R_case (t := 17) rfl ?_ ?_
  ·intro hc6
   try simp only [nrm] at hc6
   refine R_guard (yl rfl rfl) ?_
   refine o_fieldAddr 1 Tryz.runUnderlying117 rfl Tryz.sizeOf27 rfl rfl rfl ?_
   refine R_guard (yl rfl rfl) ?_
   refine o_load_B 1 H Tryz.isAgg27 rfl rfl rfl rfl ?_
   refine R_guard (yl rfl rfl) ?_
   refine o_fieldAddr 1 Tryz.runUnderlying117 rfl Tryz.sizeOf27 rfl rfl rfl ?_
   refine R_guard (yl rfl rfl) ?_
   refine o_load_B 0 H Tryz.isAgg27 rfl rfl rfl rfl ?_
   refine R_guard (yl rfl rfl) ?_
   refine o_call Tryz.call13 rfl rfl (w_sameInts_c _ _ H.sub _ _ hr1 _ _ hr2 (congrArg BHeld.bytes hab)) ?_
   rintro _ w7 ⟨rfl, ew7⟩; have H := H.step ew7; refine ⟨_, rfl, ?_⟩
   refine o_pick_t rfl rfl rfl ?_
   refine o_assign rfl rfl ?_
   refine q3 ?_
   refine W_ret ?_
   refine ret_gen (rs := [.tmp 4]) (vs := [_]) Tryz.results91 ⟨rfl, trivial⟩ ?_
   exact H.rets rfl
  intro hc6'
  try simp only [nrm] at hc6'
  refine R_pass rfl (yl_ne rfl rfl rfl) ?_
  refine R_pass rfl (yl_ne rfl rfl rfl) ?_
  refine R_pass rfl (yl_ne rfl rfl rfl) ?_
  refine R_pass rfl (yl_ne rfl rfl rfl) ?_
  refine R_pass rfl (yl_ne rfl rfl rfl) ?_
  refine o_pick_f rfl rfl rfl ?_
  refine o_assign rfl rfl ?_
  refine q3 ?_
  refine W_ret ?_
  refine ret_gen (rs := [.tmp 4]) (vs := [_]) Tryz.results91 ⟨rfl, trivial⟩ ?_
  exact absurd (show False from by simp [hab] at hc6') id
 intro hc5'
 try simp only [nrm] at hc5'
 refine R_pass rfl (yl_ne rfl rfl rfl) ?_
 refine R_pass rfl (yl_ne rfl rfl rfl) ?_
 refine R_pass rfl (yl_ne rfl rfl rfl) ?_
 refine R_pass rfl (yl_ne rfl rfl rfl) ?_
 refine R_pass rfl (yl_ne rfl rfl rfl) ?_
 refine o_pick_f rfl rfl rfl ?_
 refine o_move rfl rfl ?_
 refine R_pass rfl (yl_ne rfl rfl rfl) ?_
 refine R_pass rfl (yl_ne rfl rfl rfl) ?_
 refine R_pass rfl (yl_ne rfl rfl rfl) ?_
 refine R_pass rfl (yl_ne rfl rfl rfl) ?_
 refine R_pass rfl (yl_ne rfl rfl rfl) ?_
 refine o_pick_f rfl rfl rfl ?_
 refine o_assign rfl rfl ?_
 refine q3 ?_
 refine W_ret ?_
 refine ret_gen (rs := [.tmp 4]) (vs := [_]) Tryz.results91 ⟨rfl, trivial⟩ ?_
 exact absurd (show False from by simp [hab] at hc5') id
theorem w_sameStore_c (w0 : World) (G0 : PH) (hG : PSub G0 w0) (va : Value) (a : List (BHeld)) (ha : RdH G0 va a) (vb : Value) (b : List (BHeld)) (hb : RdH G0 vb b) (hab : a = b) :
  Calls Tryz.prog 37 #[va, vb] w0 (Rets w0 (.bool true)) := by
 obtain ⟨aa, ka, rfl⟩ := ha.shape
 have hlima : a.length ≤ 1099511627776 := ha.lim
 obtain ⟨ab, kb, rfl⟩ := hb.shape
 have hlimb : b.length ≤ 1099511627776 := hb.lim
 have hle := congrArg List.length hab
 have H := Hp.init hG
 refine calls_of_W (l := [.slice aa a.length ka, .slice ab b.length kb]) Tryz.func37 rfl Tryz.ntmps37 rfl ?_
 refine q2 ?_
 refine o_assign rfl rfl ?_
 refine q3 ?_
 refine W_seq ?_
 refine q2 ?_
 refine o_move rfl rfl ?_
 refine o_len_slice Tryz.underlying23 rfl rfl ?_
 refine o_move rfl rfl ?_
 refine o_len_slice Tryz.underlying23 rfl rfl ?_
 refine o_neq rfl rfl rfl ?_
 refine q3 ?_
 refine W_cond rfl ?_ ?_
 ·intro hc1
  try simp only [nrm] at hc1
  refine q2 ?_
  refine o_assign rfl rfl ?_
  refine q3 ?_
  refine W_ret ?_
  refine N_K_ret ?_
  refine ret_gen (rs := [.tmp 4]) (vs := [_]) Tryz.results37 ⟨rfl, trivial⟩ ?_
  exact absurd (show False from by omega) id
 intro hc1'
 try simp only [nrm] at hc1'
 refine W_skip ?_
 refine N_K ?_
 refine W_seq ?_
 refine q2 ?_
 refine o_assign rfl rfl ?_
 refine q3 ?_
 refine W_block ?_
 refine W_loop (hf := (Sub.cons (t := 0) rfl (Sub.cons (t := 1) rfl Sub.nil))) (J := fun M w m => ∃ (k : Nat) (G : PH), M = [(5, .int .i64 (k : Int))] ∧ PLe G0 G ∧ Hp w0 G0 [] w G [] ∧ (k ≤ a.length) ∧ m = (a.length - k)) (h0 := ⟨0, _, rfl, PLe.refl _, H, ?inv, rfl⟩) (hM := ?hM) (round := ?round)
 case hM => (repeat (first | exact Sub.nil | refine Sub.cons rfl ?_))
 case inv => omega
 case round =>
  rintro _ w2 _ ⟨k, G2, rfl, hle2, H, hinv2, rfl⟩
  have ha := ha.up hle2
  have hb := hb.up hle2
  have hk := hinv2
  refine W_seq ?_
  refine q2 ?_
  refine o_move rfl rfl ?_
  refine o_move rfl rfl ?_
  refine o_len_slice Tryz.underlying23 rfl rfl ?_
  refine o_lss rfl rfl rfl ?_
  refine q3 ?_
  refine W_cond rfl ?_ ?_
  ·intro hc3
   try simp only [nrm] at hc3
   refine W_skip ?_
   refine N_K ?_
   refine W_seq ?_
   refine W_block ?_
   refine W_seq ?_
   refine W_drawK [] 10 H (by kernel_rfl) rfl ?_; intro w4 H; have hd4 := PLe.refl G2
   refine RD_t 0 rfl (by kernel_rfl) rfl (fun _ hK => v_move rfl) ?_
   refine RD_t 1 rfl (by kernel_rfl) rfl (fun _ hK => v_move rfl) ?_
   have hl5 := ha.len
   obtain ⟨b5, o5, z5, q5, ha5, hz5, hq5, hE5, hrow5, _⟩ := ha.at (i := k) (by omega)
   clear hq5
   obtain ⟨a5, m5, c5, rfl, hi5, hr5, hj5⟩ := hE5; have hn_hr5 := hr5.len; have hx_hr5 : _ ≤ 1099511627776 := hr5.lim
   refine RD_t 2 rfl (by kernel_rfl) rfl (fun _ hK => v_index_P (i := k) ha5 Tryz.underlying23 Tryz.sizeOf117 rfl rfl rfl (by omega)) ?_
   refine RD_t 3 rfl (by kernel_rfl) rfl (fun _ hK => v_loadagg_P hK Tryz.isAgg117 Tryz.sizeOf117 rfl hrow5 rfl) ?_
   refine RD_t 4 rfl (by kernel_rfl) rfl (fun _ hK => v_move rfl) ?_
   refine RD_t 5 rfl (by kernel_rfl) rfl (fun _ hK => v_move rfl) ?_
   have hl6 := hb.len
   obtain ⟨b6, o6, z6, q6, ha6, hz6, hq6, hE6, hrow6, _⟩ := hb.at (i := k) (by omega)
   clear hq6
   obtain ⟨a6, m6, c6, rfl, hi6, hr6, hj6⟩ := hE6; have hn_hr6 := hr6.len; have hx_hr6 : _ ≤ 1099511627776 := hr6.lim
   refine RD_t 6 rfl (by kernel_rfl) rfl (fun _ hK => v_index_P (i := k) ha6 Tryz.underlying23 Tryz.sizeOf117 rfl rfl rfl (by omega)) ?_
   refine RD_t 7 rfl (by kernel_rfl) rfl (fun _ hK => v_loadagg_P hK Tryz.isAgg117 Tryz.sizeOf117 rfl hrow6 rfl) ?_
   refine RD_run [8] (by kernel_rfl) rfl (RDs.cons rfl ?_ RDs.nil)
   refine o_call Tryz.call91 rfl rfl (w_sameHeld_c _ _ H.sub _ _ ⟨_, _, _, rfl, ⟨by first | omega | (dsimp only; omega), by first | omega | (dsimp only; omega)⟩, hr5, ⟨by first | omega | (dsimp only; omega), by first | omega | (dsimp only; omega)⟩⟩ _ _ ⟨_, _, _, rfl, ⟨by first | omega | (dsimp only; omega), by first | omega | (dsimp only; omega)⟩, hr6, ⟨by first | omega | (dsimp only; omega), by first | omega | (dsimp only; omega)⟩⟩ (Sp.same_at hab hz5 hz6)) ?_
   rintro _ w7 ⟨rfl, ew7⟩; have H := H.step ew7; refine ⟨_, rfl, ?_⟩
   refine R_nil ?_
   refine N_DK (Kn.of' H hd4 SubL.nil) ?_
   refine RD_t 9 rfl (by kernel_rfl) rfl (fun _ hK => v_not rfl) ?_
   refine RD_done (by kernel_rfl) ?_
   refine N_K ?_
   refine W_false rfl ?_
   refine W_skip ?_
   refine N_B ?_
   refine N_K ?_
   refine W_region ?_
   refine o_move rfl rfl ?_
   refine o_add rfl rfl rfl ⟨by omega, by omega⟩ ?_
   refine o_assign rfl rfl ?_
   refine R_nil ?_
   refine N_LP (hJ := ⟨k + 1, _, rfl, hle2, H, ?inv, rfl⟩) (hM := ?hM) (hf := ?hf) (hm := ?hm)
   case hM => (repeat (first | exact Sub.nil | refine Sub.cons rfl ?_))
   case hf => (repeat (first | exact Sub.nil | refine Sub.cons rfl ?_))
   case hm => omega
   case inv => omega
  intro hc3'
  try simp only [nrm] at hc3'
  refine W_exit ?_
  refine N_K_exit ?_
  refine N_LP_exit ?_
  refine N_B_same ?_
  refine N_K ?_
  refine q2 ?_
  refine o_assign rfl rfl ?_
  refine q3 ?_
  refine W_ret ?_
  refine ret_gen (rs := [.tmp 4]) (vs := [_]) Tryz.results37 ⟨rfl, trivial⟩ ?_
  exact H.rets rfl
theorem w_sameItem_c (w0 : World) (G0 : PH) (hG : PSub G0 w0) (ca : List Value) (a : BItem) (ha : itemE G0 a ca) (cb : List Value) (b : BItem) (hb : itemE G0 b cb) (hab : a = b) :
  Calls Tryz.prog 92 #[.agg ca.toArray, .agg cb.toArray] w0 (Rets w0 (.bool true)) := by
 obtain ⟨a1, m1, c1, rfl, hi1, hr1⟩ := ha; have hy_hi1 : _ ≤ 16777216 := hi1; have hn_hr1 := hr1.len; have hx_hr1 : _ ≤ 1099511627776 := hr1.lim
 obtain ⟨a2, m2, c2, rfl, hi2, hr2⟩ := hb; have hy_hi2 : _ ≤ 16777216 := hi2; have hn_hr2 := hr2.len; have hx_hr2 : _ ≤ 1099511627776 := hr2.lim
 have H := Hp.init hG
 refine calls_of_W (l := [_, _]) Tryz.func92 rfl Tryz.ntmps92 rfl ?_
 refine q2 ?_
 refine o_box H rfl rfl rfl ?_; intro b3 w3 hb3 H
 refine o_box H rfl rfl rfl ?_; intro b4 w4 hb4 H
 refine o_assign rfl rfl ?_
 refine q1 ?_
 refine o_fieldAddr 0 Tryz.runUnderlying39 rfl Tryz.sizeOf9 rfl rfl rfl ?_
 refine o_load_B 1 H Tryz.isAgg9 rfl rfl rfl rfl ?_
 refine o_fieldAddr 0 Tryz.runUnderlying39 rfl Tryz.sizeOf9 rfl rfl rfl ?_
 refine o_load_B 0 H Tryz.isAgg9 rfl rfl rfl rfl ?_
 refine o_seql rfl rfl rfl ?_
 refine o_move rfl rfl ?_
 refine R_case (t := 10) rfl ?_ ?_
 ·intro hc5
  try simp only [nrm] at hc5
  refine R_guard (yl rfl rfl) ?_
  refine o_fieldAddr 1 Tryz.runUnderlying39 rfl Tryz.sizeOf4 rfl rfl rfl ?_
  refine R_guard (yl rfl rfl) ?_
  refine o_load_B 1 H Tryz.isAgg4 rfl rfl rfl rfl ?_
  refine R_guard (yl rfl rfl) ?_
  refine o_fieldAddr 1 Tryz.runUnderlying39 rfl Tryz.sizeOf4 rfl rfl rfl ?_
  refine R_guard (yl rfl rfl) ?_
  refine o_load_B 0 H Tryz.isAgg4 rfl rfl rfl rfl ?_
  refine R_guard (yl rfl rfl) ?_
  refine o_beql Tryz.underlying4 rfl rfl rfl ?_
  refine o_pick_t rfl rfl rfl ?_
  refine o_move rfl rfl ?_
  refine R_case (t := 17) rfl ?_ ?_
  ·intro hc6
   try simp only [nrm] at hc6
   refine R_guard (yl rfl rfl) ?_
   refine o_fieldAddr 2 Tryz.runUnderlying39 rfl Tryz.sizeOf27 rfl rfl rfl ?_
   refine R_guard (yl rfl rfl) ?_
   refine o_load_B 1 H Tryz.isAgg27 rfl rfl rfl rfl ?_
   refine R_guard (yl rfl rfl) ?_
   refine o_fieldAddr 2 Tryz.runUnderlying39 rfl Tryz.sizeOf27 rfl rfl rfl ?_
   refine R_guard (yl rfl rfl) ?_
   refine o_load_B 0 H Tryz.isAgg27 rfl rfl rfl rfl ?_
   refine R_guard (yl rfl rfl) ?_
   refine o_call Tryz.call13 rfl rfl (w_sameInts_c _ _ H.sub _ _ hr1 _ _ hr2 (congrArg BItem.ids hab)) ?_
   rintro _ w7 ⟨rfl, ew7⟩; have H := H.step ew7; refine ⟨_, rfl, ?_⟩
   refine o_pick_t rfl rfl rfl ?_
   refine o_assign rfl rfl ?_
   refine q3 ?_
   refine W_ret ?_
   refine ret_gen (rs := [.tmp 4]) (vs := [_]) Tryz.results92 ⟨rfl, trivial⟩ ?_
   exact H.rets rfl
  intro hc6'
  try simp only [nrm] at hc6'
  refine R_pass rfl (yl_ne rfl rfl rfl) ?_
  refine R_pass rfl (yl_ne rfl rfl rfl) ?_
  refine R_pass rfl (yl_ne rfl rfl rfl) ?_
  refine R_pass rfl (yl_ne rfl rfl rfl) ?_
  refine R_pass rfl (yl_ne rfl rfl rfl) ?_
  refine o_pick_f rfl rfl rfl ?_
  refine o_assign rfl rfl ?_
  refine q3 ?_
  refine W_ret ?_
  refine ret_gen (rs := [.tmp 4]) (vs := [_]) Tryz.results92 ⟨rfl, trivial⟩ ?_
  exact absurd (show False from by simp [hab] at hc6') id
 intro hc5'
 try simp only [nrm] at hc5'
 refine R_pass rfl (yl_ne rfl rfl rfl) ?_
 refine R_pass rfl (yl_ne rfl rfl rfl) ?_
 refine R_pass rfl (yl_ne rfl rfl rfl) ?_
 refine R_pass rfl (yl_ne rfl rfl rfl) ?_
 refine R_pass rfl (yl_ne rfl rfl rfl) ?_
 refine o_pick_f rfl rfl rfl ?_
 refine o_move rfl rfl ?_
 refine R_pass rfl (yl_ne rfl rfl rfl) ?_
 refine R_pass rfl (yl_ne rfl rfl rfl) ?_
 refine R_pass rfl (yl_ne rfl rfl rfl) ?_
 refine R_pass rfl (yl_ne rfl rfl rfl) ?_
 refine R_pass rfl (yl_ne rfl rfl rfl) ?_
 refine o_pick_f rfl rfl rfl ?_
 refine o_assign rfl rfl ?_
 refine q3 ?_
 refine W_ret ?_
 refine ret_gen (rs := [.tmp 4]) (vs := [_]) Tryz.results92 ⟨rfl, trivial⟩ ?_
 exact absurd (show False from by simp [hab] at hc5') id
theorem w_sameTree_c (w0 : World) (G0 : PH) (hG : PSub G0 w0) (va : Value) (a : List (BItem)) (ha : RdItems G0 va a) (vb : Value) (b : List (BItem)) (hb : RdItems G0 vb b) (hab : a = b) :
  Calls Tryz.prog 38 #[va, vb] w0 (Rets w0 (.bool true)) := by
 obtain ⟨aa, ka, rfl⟩ := ha.shape
 have hlima : a.length ≤ 1099511627776 := ha.lim
 obtain ⟨ab, kb, rfl⟩ := hb.shape
 have hlimb : b.length ≤ 1099511627776 := hb.lim
 have hle := congrArg List.length hab
 have H := Hp.init hG
 refine calls_of_W (l := [.slice aa a.length ka, .slice ab b.length kb]) Tryz.func38 rfl Tryz.ntmps38 rfl ?_
 refine q2 ?_
 refine o_assign rfl rfl ?_
 refine q3 ?_
 refine W_seq ?_
 refine q2 ?_
 refine o_move rfl rfl ?_
 refine o_len_slice Tryz.underlying24 rfl rfl ?_
 refine o_move rfl rfl ?_
 refine o_len_slice Tryz.underlying24 rfl rfl ?_
 refine o_neq rfl rfl rfl ?_
 refine q3 ?_
 refine W_cond rfl ?_ ?_
 ·intro hc1
  try simp only [nrm] at hc1
  refine q2 ?_
  refine o_assign rfl rfl ?_
  refine q3 ?_
  refine W_ret ?_
  refine N_K_ret ?_
  refine ret_gen (rs := [.tmp 4]) (vs := [_]) Tryz.results38 ⟨rfl, trivial⟩ ?_
  exact absurd (show False from by omega) id
 intro hc1'
 try simp only [nrm] at hc1'
 refine W_skip ?_
 refine N_K ?_
 refine W_seq ?_
 refine q2 ?_
 refine o_assign rfl rfl ?_
 refine q3 ?_
 refine W_block ?_
 refine W_loop (hf := (Sub.cons (t := 0) rfl (Sub.cons (t := 1) rfl Sub.nil))) (J := fun M w m => ∃ (k : Nat) (G : PH), M = [(5, .int .i64 (k : Int))] ∧ PLe G0 G ∧ Hp w0 G0 [] w G [] ∧ (k ≤ a.length) ∧ m = (a.length - k)) (h0 := ⟨0, _, rfl, PLe.refl _, H, ?inv, rfl⟩) (hM := ?hM) (round := ?round)
 case hM => (repeat (first | exact Sub.nil | refine Sub.cons rfl ?_))
 case inv => omega
 case round =>
  rintro _ w2 _ ⟨k, G2, rfl, hle2, H, hinv2, rfl⟩
  have ha := ha.up hle2
  have hb := hb.up hle2
  have hk := hinv2
  refine W_seq ?_
  refine q2 ?_
  refine o_move rfl rfl ?_
  refine o_move rfl rfl ?_
  refine o_len_slice Tryz.underlying24 rfl rfl ?_
  refine o_lss rfl rfl rfl ?_
  refine q3 ?_
  refine W_cond rfl ?_ ?_
  ·intro hc3
   try simp only [nrm] at hc3
   refine W_skip ?_
   refine N_K ?_
   refine W_seq ?_
   refine W_block ?_
   refine W_seq ?_
   refine W_drawK [] 10 H (by kernel_rfl) rfl ?_; intro w4 H; have hd4 := PLe.refl G2
   refine RD_t 0 rfl (by kernel_rfl) rfl (fun _ hK => v_move rfl) ?_
   refine RD_t 1 rfl (by kernel_rfl) rfl (fun _ hK => v_move rfl) ?_
   have hl5 := ha.len
   obtain ⟨b5, o5, z5, q5, ha5, hz5, hq5, hE5, hrow5, _⟩ := ha.at (i := k) (by omega)
   clear hq5
   obtain ⟨a5, m5, c5, rfl, hi5, hr5⟩ := hE5; have hy_hi5 : _ ≤ 16777216 := hi5; have hn_hr5 := hr5.len; have hx_hr5 : _ ≤ 1099511627776 := hr5.lim
   refine RD_t 2 rfl (by kernel_rfl) rfl (fun _ hK => v_index_P (i := k) ha5 Tryz.underlying24 Tryz.sizeOf39 rfl rfl rfl (by omega)) ?_
   refine RD_t 3 rfl (by kernel_rfl) rfl (fun _ hK => v_loadagg_P hK Tryz.isAgg39 Tryz.sizeOf39 rfl hrow5 rfl) ?_
   refine RD_t 4 rfl (by kernel_rfl) rfl (fun _ hK => v_move rfl) ?_
   refine RD_t 5 rfl (by kernel_rfl) rfl (fun _ hK => v_move rfl) ?_
   have hl6 := hb.len
   obtain ⟨b6, o6, z6, q6, ha6, hz6, hq6, hE6, hrow6, _⟩ := hb.at (i := k) (by omega)
   clear hq6
   obtain ⟨a6, m6, c6, rfl, hi6, hr6⟩ := hE6; have hy_hi6 : _ ≤ 16777216 := hi6; have hn_hr6 := hr6.len; have hx_hr6 : _ ≤ 1099511627776 := hr6.lim
   refine RD_t 6 rfl (by kernel_rfl) rfl (fun _ hK => v_index_P (i := k) ha6 Tryz.underlying24 Tryz.sizeOf39 rfl rfl rfl (by omega)) ?_
   refine RD_t 7 rfl (by kernel_rfl) rfl (fun _ hK => v_loadagg_P hK Tryz.isAgg39 Tryz.sizeOf39 rfl hrow6 rfl) ?_
   refine RD_run [8] (by kernel_rfl) rfl (RDs.cons rfl ?_ RDs.nil)
   refine o_call Tryz.call92 rfl rfl (w_sameItem_c _ _ H.sub _ _ ⟨_, _, _, rfl, hi5, hr5⟩ _ _ ⟨_, _, _, rfl, hi6, hr6⟩ (Sp.same_at hab hz5 hz6)) ?_
   rintro _ w7 ⟨rfl, ew7⟩; have H := H.step ew7; refine ⟨_, rfl, ?_⟩
   refine R_nil ?_
   refine N_DK (Kn.of' H hd4 SubL.nil) ?_
   refine RD_t 9 rfl (by kernel_rfl) rfl (fun _ hK => v_not rfl) ?_
   refine RD_done (by kernel_rfl) ?_
   refine N_K ?_
   refine W_false rfl ?_
   refine W_skip ?_
   refine N_B ?_
   refine N_K ?_
   refine W_region ?_
   refine o_move rfl rfl ?_
   refine o_add rfl rfl rfl ⟨by omega, by omega⟩ ?_
   refine o_assign rfl rfl ?_
   refine R_nil ?_
   refine N_LP (hJ := ⟨k + 1, _, rfl, hle2, H, ?inv, rfl⟩) (hM := ?hM) (hf := ?hf) (hm := ?hm)
   case hM => (repeat (first | exact Sub.nil | refine Sub.cons rfl ?_))
   case hf => (repeat (first | exact Sub.nil | refine Sub.cons rfl ?_))
   case hm => omega
   case inv => omega
  intro hc3'
  try simp only [nrm] at hc3'
  refine W_exit ?_
  refine N_K_exit ?_
  refine N_LP_exit ?_
  refine N_B_same ?_
  refine N_K ?_
  refine q2 ?_
  refine o_assign rfl rfl ?_
  refine q3 ?_
  refine W_ret ?_
  refine ret_gen (rs := [.tmp 4]) (vs := [_]) Tryz.results38 ⟨rfl, trivial⟩ ?_
  exact H.rets rfl
theorem w_sameVolume_c (w0 : World) (G0 : PH) (hG : PSub G0 w0) (ca : List Value) (a : BVol) (ha : volE G0 a ca) (cb : List Value) (b : BVol) (hb : volE G0 b cb) (hab : a = b) :
  Calls Tryz.prog 10 #[.agg ca.toArray, .agg cb.toArray] w0 (Rets w0 (.bool true)) := by
 obtain ⟨a1, m1, c1, a1', m1', c1', rfl, hr1, hr1'⟩ := ha; have hn_hr1 := hr1.len; have hx_hr1 : _ ≤ 1099511627776 := hr1.lim; have hn_hr1q := hr1'.len; have hx_hr1q : _ ≤ 1099511627776 := hr1'.lim
 obtain ⟨a2, m2, c2, a2', m2', c2', rfl, hr2, hr2'⟩ := hb; have hn_hr2 := hr2.len; have hx_hr2 : _ ≤ 1099511627776 := hr2.lim; have hn_hr2q := hr2'.len; have hx_hr2q : _ ≤ 1099511627776 := hr2'.lim
 have H := Hp.init hG
 refine calls_of_W (l := [_, _]) Tryz.func10 rfl Tryz.ntmps10 rfl ?_
 refine q2 ?_
 refine o_box H rfl rfl rfl ?_; intro b3 w3 hb3 H
 refine o_box H rfl rfl rfl ?_; intro b4 w4 hb4 H
 refine o_assign rfl rfl ?_
 refine q1 ?_
 refine o_fieldAddr 0 Tryz.runUnderlying26 rfl Tryz.sizeOf23 rfl rfl rfl ?_
 refine o_load_B 1 H Tryz.isAgg23 rfl rfl rfl rfl ?_
 refine o_fieldAddr 0 Tryz.runUnderlying26 rfl Tryz.sizeOf23 rfl rfl rfl ?_
 refine o_load_B 0 H Tryz.isAgg23 rfl rfl rfl rfl ?_
 refine o_call Tryz.call37 rfl rfl (w_sameStore_c _ _ H.sub _ _ hr1 _ _ hr2 (congrArg BVol.store hab)) ?_
 rintro _ w5 ⟨rfl, ew5⟩; have H := H.step ew5; refine ⟨_, rfl, ?_⟩
 refine o_move rfl rfl ?_
 refine R_guard (yl rfl rfl) ?_
 refine o_fieldAddr 1 Tryz.runUnderlying26 rfl Tryz.sizeOf24 rfl rfl rfl ?_
 refine R_guard (yl rfl rfl) ?_
 refine o_load_B 1 H Tryz.isAgg24 rfl rfl rfl rfl ?_
 refine R_guard (yl rfl rfl) ?_
 refine o_fieldAddr 1 Tryz.runUnderlying26 rfl Tryz.sizeOf24 rfl rfl rfl ?_
 refine R_guard (yl rfl rfl) ?_
 refine o_load_B 0 H Tryz.isAgg24 rfl rfl rfl rfl ?_
 refine R_guard (yl rfl rfl) ?_
 refine o_call Tryz.call38 rfl rfl (w_sameTree_c _ _ H.sub _ _ hr1' _ _ hr2' (congrArg BVol.tree hab)) ?_
 rintro _ w6 ⟨rfl, ew6⟩; have H := H.step ew6; refine ⟨_, rfl, ?_⟩
 refine o_pick_t rfl rfl rfl ?_
 refine o_assign rfl rfl ?_
 refine q3 ?_
 refine W_ret ?_
 refine ret_gen (rs := [.tmp 4]) (vs := [_]) Tryz.results10 ⟨rfl, trivial⟩ ?_
 exact H.rets rfl
end Go.Proofs.Tst

namespace Go.Proofs.Tst
open Go Fw
theorem l91File_c (w0 : World) (G0 : PH) (hG : PSub G0 w0) (rb : Nat) (ab : Option Addr) (mb kb : Nat) (bs : List UInt8) (p : Nat) (hbs : RdU G0 (.slice ab mb kb) bs) (hrb : w0.heap[rb]? = some (cl [.slice ab mb kb, .int .i64 (p : Int)] 114)) (hrn : G0 rb = none) (hp : p ≤ 1000000000)  :
  Calls Tryz.prog 29 #[.pointer (some ⟨rb, 0, none⟩)] w0 (RetM w0 G0 [rb] (fun G val Bs => ∃ (p' : Nat) (x : List Int) (v : Value) (c : List Value), p' ≤ p + 100 ∧ val = v ∧ Chk intE 1 G c x ∧ x.length ≤ 33 ∧ Bs = [acc 3 1 v x.length c, blk rb (cl [.slice ab mb kb, .int .i64 (p' : Int)] 114)])) := by
 have hlimbs : bs.length ≤ 1099511627776 := hbs.lim; obtain rfl : mb = bs.length := hbs.len
 have H := Hp.initM hG hrb hrn
 refine calls_of_W (l := [.pointer (some ⟨rb, 0, none⟩)]) Tryz.func29 rfl Tryz.ntmps29 rfl ?_
 refine q2 ?_
 refine o_assign rfl rfl ?_
 refine q1 ?_
 refine o_buildSlice H Tryz.underlying27 Tryz.sizeOf3 (fun w => ⟨_, Tryz.zeroValue3 w, rfl⟩) rfl rfl rfl rfl rfl rfl rfl ?_; intro b1 w1 hb1 H
 have H := H.blkAcc 1 (k := 0) (n := 0) rfl rfl (by decide)
 refine o_assign rfl rfl ?_
 refine q1 ?_
 refine o_buildSlice H Tryz.underlying27 Tryz.sizeOf3 (fun w => ⟨_, Tryz.zeroValue3 w, rfl⟩) rfl rfl rfl rfl rfl rfl rfl ?_; intro b2 w2 hb2 H
 refine o_move rfl rfl ?_
 refine o_call Tryz.call43 rfl rfl (pick_c _ _ H.sub _ _ _ _ _ _ hbs (H.blkIs (k := 2) rfl).1 (H.blkIs (k := 2) rfl).2 (by omega) _ ⟨by omega, by omega⟩ ) ?_
 rintro _ w3 ⟨G3, _, _, rfl, H3', ⟨p3, x3, hp3, rfl, hxb3, rfl⟩⟩
 have hbs := hbs.up H3'.le
 have H := H.borrow (k := 2) rfl H3'
 refine ⟨_, rfl, ?_⟩
 have H := H.blkAcc 1 (k := 1) (n := 8) rfl rfl (by decide)
 have hchk5 := (((((((((Chk.nil (E := intE) (sz := 1) (G := G3)).snoc (show intE _ (0 : Int) [.int .i64 0] from ⟨rfl, by decide⟩) rfl).snoc (show intE _ (1 : Int) [.int .i64 1] from ⟨rfl, by decide⟩) rfl).snoc (show intE _ (7 : Int) [.int .i64 7] from ⟨rfl, by decide⟩) rfl).snoc (show intE _ (8 : Int) [.int .i64 8] from ⟨rfl, by decide⟩) rfl).snoc (show intE _ (9 : Int) [.int .i64 9] from ⟨rfl, by decide⟩) rfl).snoc (show intE _ (16 : Int) [.int .i64 16] from ⟨rfl, by decide⟩) rfl).snoc (show intE _ (17 : Int) [.int .i64 17] from ⟨rfl, by decide⟩) rfl).snoc (show intE _ (32 : Int) [.int .i64 32] from ⟨rfl, by decide⟩) rfl)
 obtain ⟨G6, H, hsg6, hsr6⟩ := H.shutM (k := 1) (j := 0) rfl rfl hchk5 (by first | assumption | (simp; done) | (simp; omega) | omega) (by first | assumption | (simp; done) | (simp; omega) | omega)
 have hbs := hbs.up hsg6
 have hchk5 := hchk5.up hsg6
 have hl_hsr6 := hsr6.len
 refine o_index_P x3 hsr6 Tryz.underlying27 Tryz.sizeOf3 rfl rfl rfl rfl (by first | omega | (simp; omega)) ?_; intro b4 o4 z4 q4 hz4 hE4 hrow4
 obtain ⟨rfl, hi4⟩ := hE4
 have hzb : 0 ≤ z4 ∧ z4 ≤ 32 := by have := List.mem_of_getElem? hz4; simp at this; omega
 refine o_load_P H Tryz.isAgg3 rfl rfl (hrow4 0 _ rfl) ?_
 refine o_assign rfl rfl ?_
 refine q3 ?_
 refine W_seq ?_
 refine q2 ?_
 refine o_move rfl rfl ?_
 refine o_call Tryz.call43 rfl rfl (pick_c _ _ H.sub _ _ _ _ _ _ hbs (H.blkIs (k := 0) rfl).1 (H.blkIs (k := 0) rfl).2 (by omega) _ ⟨by omega, by omega⟩ ) ?_
 rintro _ w7 ⟨G7, _, _, rfl, H7', ⟨p7, x7, hp7, rfl, hxb7, rfl⟩⟩
 have hbs := hbs.up H7'.le
 have hchk5 := hchk5.up H7'.le
 have hsr6 := hsr6.up H7'.le
 have hrow4 := hrow4.up H7'.le
 have H := H.borrow (k := 0) rfl H7'
 refine ⟨_, rfl, ?_⟩
 refine o_eql rfl rfl rfl ?_
 refine q3 ?_
 refine W_cond rfl ?_ ?_
 ·intro hc8
  try simp only [nrm] at hc8
  refine W_region ?_
  refine o_move rfl rfl ?_
  refine o_call Tryz.call43 rfl rfl (pick_c _ _ H.sub _ _ _ _ _ _ hbs (H.blkIs (k := 0) rfl).1 (H.blkIs (k := 0) rfl).2 (by omega) _ ⟨by omega, by omega⟩ ) ?_
  rintro _ w9 ⟨G9, _, _, rfl, H9', ⟨p9, x9, hp9, rfl, hxb9, rfl⟩⟩
  have hbs := hbs.up H9'.le
  have hchk5 := hchk5.up H9'.le
  have hsr6 := hsr6.up H9'.le
  have hrow4 := hrow4.up H9'.le
  have H := H.borrow (k := 0) rfl H9'
  refine ⟨_, rfl, ?_⟩
  refine o_assign rfl rfl ?_
  refine q1 ?_
  refine o_move rfl rfl ?_
  refine o_call Tryz.call43 rfl rfl (pick_c _ _ H.sub _ _ _ _ _ _ hbs (H.blkIs (k := 0) rfl).1 (H.blkIs (k := 0) rfl).2 (by omega) _ ⟨by omega, by omega⟩ ) ?_
  rintro _ w10 ⟨G10, _, _, rfl, H10', ⟨p10, x10, hp10, rfl, hxb10, rfl⟩⟩
  have hbs := hbs.up H10'.le
  have hchk5 := hchk5.up H10'.le
  have hsr6 := hsr6.up H10'.le
  have hrow4 := hrow4.up H10'.le
  have H := H.borrow (k := 0) rfl H10'
  refine ⟨_, rfl, ?_⟩
  refine o_assign rfl rfl ?_
  refine q3 ?_
  refine W_seq ?_
  refine q2 ?_
  refine o_assign rfl rfl ?_
  refine q3 ?_
  refine W_block ?_
  refine W_loop (hf := (Sub.cons (t := 0) rfl (Sub.cons (t := 2) rfl (Sub.cons (t := 4) rfl (Sub.cons (t := 5) rfl Sub.nil))))) (J := fun M w m => ∃ (v : Value) (n : Nat) (cs : List Value) (xs : List (Int)) (k : Nat) (pp : Nat) (G : PH), M = [(6, .int .i64 (k : Int)), (3, v)] ∧ PLe G10 G ∧ Hp w0 G0 [rb] w G [blk rb (cl [.slice ab bs.length kb, .int .i64 (pp : Int)] 114), acc 3 1 v n cs] ∧ (Chk intE 1 G cs xs ∧ n = xs.length ∧ k ≤ 32 ∧ xs.length = k ∧ pp ≤ p + 10 + 2 * k) ∧ m = (33 - k)) (h0 := ⟨_, _, _, [], 0, p10, _, rfl, PLe.refl _, H, ?inv, rfl⟩) (hM := ?hM) (round := ?round)
  case hM => (repeat (first | exact Sub.nil | refine Sub.cons rfl ?_))
  case inv => exact ⟨(Chk.nil (E := intE) (sz := 1) (G := G10)),  by first | rfl | simp | (simp; omega) | omega, (by exact ⟨by omega, rfl, by omega⟩)⟩
  case round =>
   rintro _ w11 _ ⟨v, n, cs, xs, k, pp, G11, rfl, hle11, H, hinv11, rfl⟩
   have hbs := hbs.up hle11
   have hchk5 := hchk5.up hle11
   have hsr6 := hsr6.up hle11
   have hrow4 := hrow4.up hle11
   obtain ⟨hchk11_0, hn11_0, hinv11⟩ := hinv11
   obtain ⟨av11_0, cv11_0, rfl⟩ := H.accShape (k := 1) rfl
   obtain ⟨hk, hxl, hpp⟩ := hinv11
   refine W_seq ?_
   refine q2 ?_
   refine o_move rfl rfl ?_
   refine o_move rfl rfl ?_
   refine o_lss rfl rfl rfl ?_
   refine q3 ?_
   refine W_cond rfl ?_ ?_
   ·intro hc12
    try simp only [nrm] at hc12
    refine W_skip ?_
    refine N_K ?_
    refine W_seq ?_
    refine W_block ?_
    refine W_region ?_
    refine o_move rfl rfl ?_
    refine o_move rfl rfl ?_
    refine o_move rfl rfl ?_
    refine o_quo rfl rfl rfl (by omega) (by omega) (by omega) ?_
    refine o_move rfl rfl ?_
    refine o_call Tryz.call43 rfl rfl (pick_c _ _ H.sub _ _ _ _ _ _ hbs (H.blkIs (k := 0) rfl).1 (H.blkIs (k := 0) rfl).2 (by omega) _ ⟨by omega, by omega⟩ ) ?_
    rintro _ w13 ⟨G13, _, _, rfl, H13', ⟨p13, x13, hp13, rfl, hxb13, rfl⟩⟩
    have hbs := hbs.up H13'.le
    have hchk5 := hchk5.up H13'.le
    have hsr6 := hsr6.up H13'.le
    have hrow4 := hrow4.up H13'.le
    have hchk11_0 := hchk11_0.up H13'.le
    have hle11 := hle11.trans H13'.le
    have H := H.borrow (k := 0) rfl H13'
    refine ⟨_, rfl, ?_⟩
    have hma13 : 0 ≤ ((k : Int) / 8) * (x13 : Int) := Int.mul_nonneg (by omega) (by omega)
    have hmb13 : ((k : Int) / 8) * (x13 : Int) ≤ 4 * (x13 : Int) := Int.mul_le_mul_of_nonneg_right (by omega) (by omega)
    refine o_mul rfl rfl rfl ⟨by omega, by omega⟩ ?_
    refine o_add rfl rfl rfl ⟨by omega, by omega⟩ ?_
    refine o_move rfl rfl ?_
    refine o_call Tryz.call43 rfl rfl (pick_c _ _ H.sub _ _ _ _ _ _ hbs (H.blkIs (k := 0) rfl).1 (H.blkIs (k := 0) rfl).2 (by omega) _ ⟨by omega, by omega⟩ ) ?_
    rintro _ w16 ⟨G16, _, _, rfl, H16', ⟨p16, x16, hp16, rfl, hxb16, rfl⟩⟩
    have hbs := hbs.up H16'.le
    have hchk5 := hchk5.up H16'.le
    have hsr6 := hsr6.up H16'.le
    have hrow4 := hrow4.up H16'.le
    have hchk11_0 := hchk11_0.up H16'.le
    have hle11 := hle11.trans H16'.le
    have H := H.borrow (k := 0) rfl H16'
    refine ⟨_, rfl, ?_⟩
    have hma16 : 0 ≤ ((k : Int) / 8) * (x16 : Int) := Int.mul_nonneg (by omega) (by omega)
    have hmb16 : ((k : Int) / 8) * (x16 : Int) ≤ 4 * (x16 : Int) := Int.mul_le_mul_of_nonneg_right (by omega) (by omega)
    refine o_quo rfl rfl rfl (by omega) (by omega) (by omega) ?_
    refine o_add rfl rfl rfl ⟨by omega, by omega⟩ ?_
    refine o_buildSlice H Tryz.underlying27 Tryz.sizeOf3 (fun w => ⟨_, Tryz.zeroValue3 w, rfl⟩) rfl rfl rfl rfl rfl rfl rfl ?_; intro b18 w18 hb18 H
    refine o_append1 1 H (sz := 1) (bytes := 8) Tryz.underlying27 Tryz.typeInfo3 ⟨_, rfl, rfl⟩ rfl rfl rfl rfl rfl rfl rfl rfl rfl rfl (by omega) rfl ?_; intro v19 w19 H
    have hchk19 := hchk11_0.snoc (show intE _ ((x10 : Int) + ((k : Int) / 8) * (x13 : Int) + (x16 : Int) / 5) _ from ⟨rfl, ⟨by omega, by omega⟩⟩) rfl
    obtain ⟨av19, cv19, rfl⟩ := H.accShape (k := 1) rfl
    refine o_assign rfl rfl ?_
    refine R_nil ?_
    refine N_B ?_
    refine N_K ?_
    refine W_region ?_
    refine o_move rfl rfl ?_
    refine o_add rfl rfl rfl ⟨by omega, by omega⟩ ?_
    refine o_assign rfl rfl ?_
    refine R_nil ?_
    refine N_LP (hJ := ⟨_, _, _, (xs ++ [((x10 : Int) + ((k : Int) / 8) * (x13 : Int) + (x16 : Int) / 5)]), k + 1, p16, _, rfl, hle11, H, ?inv, rfl⟩) (hM := ?hM) (hf := ?hf) (hm := ?hm)
    case hM => (repeat (first | exact Sub.nil | refine Sub.cons rfl ?_))
    case hf => (repeat (first | exact Sub.nil | refine Sub.cons rfl ?_))
    case hm => omega
    case inv => exact ⟨hchk19, (by first | assumption | (simp; omega) | omega), (by exact ⟨by omega, by simp [hxl], by omega⟩)⟩
   intro hc12'
   try simp only [nrm] at hc12'
   refine W_exit ?_
   refine N_K_exit ?_
   refine N_LP_exit ?_
   refine N_B_same ?_
   refine N_K ?_
   refine W_seq ?_
   refine q2 ?_
   refine o_move rfl rfl ?_
   refine o_call Tryz.call43 rfl rfl (pick_c _ _ H.sub _ _ _ _ _ _ hbs (H.blkIs (k := 0) rfl).1 (H.blkIs (k := 0) rfl).2 (by omega) _ ⟨by omega, by omega⟩ ) ?_
   rintro _ w21 ⟨G21, _, _, rfl, H21', ⟨p21, x21, hp21, rfl, hxb21, rfl⟩⟩
   have hbs := hbs.up H21'.le
   have hchk5 := hchk5.up H21'.le
   have hsr6 := hsr6.up H21'.le
   have hrow4 := hrow4.up H21'.le
   have hchk11_0 := hchk11_0.up H21'.le
   have hle11 := hle11.trans H21'.le
   have H := H.borrow (k := 0) rfl H21'
   refine ⟨_, rfl, ?_⟩
   have hma21 : 0 ≤ ((k : Int) / 8) * (x21 : Int) := Int.mul_nonneg (by omega) (by omega)
   have hmb21 : ((k : Int) / 8) * (x21 : Int) ≤ 4 * (x21 : Int) := Int.mul_le_mul_of_nonneg_right (by omega) (by omega)
   refine q3 ?_
   refine W_block ?_
   refine q2 ?_
   refine o_eql rfl rfl rfl ?_
   refine o_assign rfl rfl ?_
   refine q3 ?_
   refine W_cond rfl ?_ ?_
   ·intro hc22
    try simp only [nrm] at hc22
    refine q2 ?_
    refine o_move rfl rfl ?_
    refine o_gtr rfl rfl rfl ?_
    refine q3 ?_
    refine W_cond rfl ?_ ?_
    ·intro hc23
     try simp only [nrm] at hc23
     refine W_region ?_
     refine o_move rfl rfl ?_
     refine o_move rfl rfl ?_
     refine o_move rfl rfl ?_
     refine o_call Tryz.call43 rfl rfl (pick_c _ _ H.sub _ _ _ _ _ _ hbs (H.blkIs (k := 0) rfl).1 (H.blkIs (k := 0) rfl).2 (by omega) _ ⟨by omega, by omega⟩ ) ?_
     rintro _ w24 ⟨G24, _, _, rfl, H24', ⟨p24, x24, hp24, rfl, hxb24, rfl⟩⟩
     have hbs := hbs.up H24'.le
     have hchk5 := hchk5.up H24'.le
     have hsr6 := hsr6.up H24'.le
     have hrow4 := hrow4.up H24'.le
     have hchk11_0 := hchk11_0.up H24'.le
     have hle11 := hle11.trans H24'.le
     have H := H.borrow (k := 0) rfl H24'
     refine ⟨_, rfl, ?_⟩
     have hma24 : 0 ≤ ((k : Int) / 8) * (x24 : Int) := Int.mul_nonneg (by omega) (by omega)
     have hmb24 : ((k : Int) / 8) * (x24 : Int) ≤ 4 * (x24 : Int) := Int.mul_le_mul_of_nonneg_right (by omega) (by omega)
     refine o_index_A 1 H x24 rfl hchk11_0 Tryz.underlying27 Tryz.sizeOf3 rfl rfl rfl rfl (by first | omega | (simp; omega) | (simp; done)) (by first | rfl | assumption | (simp; done) | (simp; omega) | omega) ?_; intro ba25 z25 q25 hba25 hz25 hE25 hg25; cases hba25
     obtain ⟨rfl, hi25⟩ := hE25
     have hcl26 := hchk11_0.length
     refine o_store_A 1 H Tryz.sizeOf3 rfl rfl rfl rfl rfl (by simp only [vc, List.length_cons, List.length_nil]; omega) ?_; intro w26 H
     have hchk26 := hchk11_0.put (x' := 256) (off := 0) (vs := [_]) hz25 (fun cs hl hE => by obtain ⟨rfl, _⟩ := hE; exact ⟨rfl, ⟨by omega, by omega⟩⟩) (by simp only [vc, List.length_cons, List.length_nil]; omega)
     refine R_nil ?_
     refine N_B ?_
     refine N_K ?_
     refine q2 ?_
     refine o_move rfl rfl ?_
     refine o_assign rfl rfl ?_
     refine q3 ?_
     refine W_ret ?_
     refine ret_gen (rs := [.tmp 2]) (vs := [_]) Tryz.results29 ⟨rfl, trivial⟩ ?_
     have H := H.toFront (k := 1) rfl
     have hcx := hchk26
     exact H.retM ⟨_, (xs.set x24 256), _, _, (by omega), rfl, hcx, (by first | (simp; done) | (simp; omega) | (simp at *; omega) | omega), acc_1 (by first | assumption | rfl | (simp; done) | (simp; omega) | omega)⟩
    intro hc23'
    try simp only [nrm] at hc23'
    refine W_skip ?_
    refine N_B ?_
    refine N_K ?_
    refine q2 ?_
    refine o_move rfl rfl ?_
    refine o_assign rfl rfl ?_
    refine q3 ?_
    refine W_ret ?_
    refine ret_gen (rs := [.tmp 2]) (vs := [_]) Tryz.results29 ⟨rfl, trivial⟩ ?_
    have H := H.toFront (k := 1) rfl
    have hcx := hchk11_0
    exact H.retM ⟨_, xs, _, _, (by omega), rfl, hcx, (by first | (simp; done) | (simp; omega) | (simp at *; omega) | omega), acc_1 (by first | assumption | rfl | (simp; done) | (simp; omega) | omega)⟩
   intro hc22'
   try simp only [nrm] at hc22'
   refine q2 ?_
   refine o_eql rfl rfl rfl ?_
   refine o_assign rfl rfl ?_
   refine q3 ?_
   refine W_cond rfl ?_ ?_
   ·intro hc27
    try simp only [nrm] at hc27
    refine q2 ?_
    refine o_makeN (c := 33) (sz := 1) (bytes := 8) H Tryz.underlying27 Tryz.typeInfo3 ⟨_, rfl, rfl⟩ rfl rfl rfl rfl rfl rfl rfl rfl rfl (by omega) rfl ?_; intro b28 w28 H
    have hchk28 := Chk.rep (E := intE) (sz := 1) (G := G21) (x0 := 0) (⟨rfl, by decide⟩) rfl (33)
    refine o_assign rfl rfl ?_
    refine q3 ?_
    refine W_ret ?_
    refine N_B_ret ?_
    refine N_K_ret ?_
    refine ret_gen (rs := [.tmp 2]) (vs := [_]) Tryz.results29 ⟨rfl, trivial⟩ ?_
    have H := H.del (k := 2) rfl
    have H := H.toFront (k := 1) rfl
    have H := H.toFront (k := 1) rfl
    have hcx := hchk28
    exact H.retM ⟨_, (List.replicate (33) 0), _, _, (by omega), rfl, hcx, (by first | (simp; done) | (simp; omega) | (simp at *; omega) | omega), acc_1 (by first | assumption | rfl | (simp; done) | (simp; omega) | omega)⟩
   intro hc27'
   try simp only [nrm] at hc27'
   refine W_skip ?_
   refine N_B ?_
   refine N_K ?_
   refine q2 ?_
   refine o_move rfl rfl ?_
   refine o_assign rfl rfl ?_
   refine q3 ?_
   refine W_ret ?_
   refine ret_gen (rs := [.tmp 2]) (vs := [_]) Tryz.results29 ⟨rfl, trivial⟩ ?_
   have H := H.toFront (k := 1) rfl
   have hcx := hchk11_0
   exact H.retM ⟨_, xs, _, _, (by omega), rfl, hcx, (by first | (simp; done) | (simp; omega) | (simp at *; omega) | omega), acc_1 (by first | assumption | rfl | (simp; done) | (simp; omega) | omega)⟩
 intro hc8'
 try simp only [nrm] at hc8'
 refine W_skip ?_
 refine N_K ?_
 refine q2 ?_
 refine o_move rfl rfl ?_
 refine o_call Tryz.call43 rfl rfl (pick_c _ _ H.sub _ _ _ _ _ _ hbs (H.blkIs (k := 0) rfl).1 (H.blkIs (k := 0) rfl).2 (by omega) _ ⟨by omega, by omega⟩ ) ?_
 rintro _ w29 ⟨G29, _, _, rfl, H29', ⟨p29, x29, hp29, rfl, hxb29, rfl⟩⟩
 have hbs := hbs.up H29'.le
 have hchk5 := hchk5.up H29'.le
 have hsr6 := hsr6.up H29'.le
 have hrow4 := hrow4.up H29'.le
 have H := H.borrow (k := 0) rfl H29'
 refine ⟨_, rfl, ?_⟩
 refine o_assign rfl rfl ?_
 refine q3 ?_
 refine W_seq ?_
 refine q2 ?_
 refine o_assign rfl rfl ?_
 refine q3 ?_
 refine W_block ?_
 refine W_loop (hf := (Sub.cons (t := 0) rfl (Sub.cons (t := 2) rfl (Sub.cons (t := 4) rfl (Sub.cons (t := 5) rfl Sub.nil))))) (J := fun M w m => ∃ (v : Value) (n : Nat) (cs : List Value) (xs : List (Int)) (k : Nat) (pp : Nat) (G : PH), M = [(6, .int .i64 (k : Int)), (3, v)] ∧ PLe G29 G ∧ Hp w0 G0 [rb] w G [blk rb (cl [.slice ab bs.length kb, .int .i64 (pp : Int)] 114), acc 3 1 v n cs] ∧ (Chk intE 1 G cs xs ∧ n = xs.length ∧ k ≤ 32 ∧ xs.length = k ∧ pp ≤ p + 10 + 2 * k) ∧ m = (33 - k)) (h0 := ⟨_, _, _, [], 0, p29, _, rfl, PLe.refl _, H, ?inv, rfl⟩) (hM := ?hM) (round := ?round)
 case hM => (repeat (first | exact Sub.nil | refine Sub.cons rfl ?_))
 case inv => exact ⟨(Chk.nil (E := intE) (sz := 1) (G := G29)),  by first | rfl | simp | (simp; omega) | omega, (by exact ⟨by omega, rfl, by omega⟩)⟩
 case round =>
  rintro _ w30 _ ⟨v, n, cs, xs, k, pp, G30, rfl, hle30, H, hinv30, rfl⟩
  have hbs := hbs.up hle30
  have hchk5 := hchk5.up hle30
  have hsr6 := hsr6.up hle30
  have hrow4 := hrow4.up hle30
  obtain ⟨hchk30_0, hn30_0, hinv30⟩ := hinv30
  obtain ⟨av30_0, cv30_0, rfl⟩ := H.accShape (k := 1) rfl
  obtain ⟨hk, hxl, hpp⟩ := hinv30
  refine W_seq ?_
  refine q2 ?_
  refine o_move rfl rfl ?_
  refine o_move rfl rfl ?_
  refine o_lss rfl rfl rfl ?_
  refine q3 ?_
  refine W_cond rfl ?_ ?_
  ·intro hc31
   try simp only [nrm] at hc31
   refine W_skip ?_
   refine N_K ?_
   refine W_seq ?_
   refine W_block ?_
   refine W_region ?_
   refine o_move rfl rfl ?_
   refine o_move rfl rfl ?_
   refine o_move rfl rfl ?_
   refine o_quo rfl rfl rfl (by omega) (by omega) (by omega) ?_
   refine o_move rfl rfl ?_
   refine o_call Tryz.call43 rfl rfl (pick_c _ _ H.sub _ _ _ _ _ _ hbs (H.blkIs (k := 0) rfl).1 (H.blkIs (k := 0) rfl).2 (by omega) _ ⟨by omega, by omega⟩ ) ?_
   rintro _ w32 ⟨G32, _, _, rfl, H32', ⟨p32, x32, hp32, rfl, hxb32, rfl⟩⟩
   have hbs := hbs.up H32'.le
   have hchk5 := hchk5.up H32'.le
   have hsr6 := hsr6.up H32'.le
   have hrow4 := hrow4.up H32'.le
   have hchk30_0 := hchk30_0.up H32'.le
   have hle30 := hle30.trans H32'.le
   have H := H.borrow (k := 0) rfl H32'
   refine ⟨_, rfl, ?_⟩
   have hma32 : 0 ≤ ((k : Int) / 8) * (x32 : Int) := Int.mul_nonneg (by omega) (by omega)
   have hmb32 : ((k : Int) / 8) * (x32 : Int) ≤ 4 * (x32 : Int) := Int.mul_le_mul_of_nonneg_right (by omega) (by omega)
   refine o_mul rfl rfl rfl ⟨by omega, by omega⟩ ?_
   refine o_add rfl rfl rfl ⟨by omega, by omega⟩ ?_
   refine o_move rfl rfl ?_
   refine o_call Tryz.call43 rfl rfl (pick_c _ _ H.sub _ _ _ _ _ _ hbs (H.blkIs (k := 0) rfl).1 (H.blkIs (k := 0) rfl).2 (by omega) _ ⟨by omega, by omega⟩ ) ?_
   rintro _ w35 ⟨G35, _, _, rfl, H35', ⟨p35, x35, hp35, rfl, hxb35, rfl⟩⟩
   have hbs := hbs.up H35'.le
   have hchk5 := hchk5.up H35'.le
   have hsr6 := hsr6.up H35'.le
   have hrow4 := hrow4.up H35'.le
   have hchk30_0 := hchk30_0.up H35'.le
   have hle30 := hle30.trans H35'.le
   have H := H.borrow (k := 0) rfl H35'
   refine ⟨_, rfl, ?_⟩
   have hma35 : 0 ≤ ((k : Int) / 8) * (x35 : Int) := Int.mul_nonneg (by omega) (by omega)
   have hmb35 : ((k : Int) / 8) * (x35 : Int) ≤ 4 * (x35 : Int) := Int.mul_le_mul_of_nonneg_right (by omega) (by omega)
   refine o_quo rfl rfl rfl (by omega) (by omega) (by omega) ?_
   refine o_add rfl rfl rfl ⟨by omega, by omega⟩ ?_
   refine o_buildSlice H Tryz.underlying27 Tryz.sizeOf3 (fun w => ⟨_, Tryz.zeroValue3 w, rfl⟩) rfl rfl rfl rfl rfl rfl rfl ?_; intro b37 w37 hb37 H
   refine o_append1 1 H (sz := 1) (bytes := 8) Tryz.underlying27 Tryz.typeInfo3 ⟨_, rfl, rfl⟩ rfl rfl rfl rfl rfl rfl rfl rfl rfl rfl (by omega) rfl ?_; intro v38 w38 H
   have hchk38 := hchk30_0.snoc (show intE _ ((x29 : Int) + ((k : Int) / 8) * (x32 : Int) + (x35 : Int) / 5) _ from ⟨rfl, ⟨by omega, by omega⟩⟩) rfl
   obtain ⟨av38, cv38, rfl⟩ := H.accShape (k := 1) rfl
   refine o_assign rfl rfl ?_
   refine R_nil ?_
   refine N_B ?_
   refine N_K ?_
   refine W_region ?_
   refine o_move rfl rfl ?_
   refine o_add rfl rfl rfl ⟨by omega, by omega⟩ ?_
   refine o_assign rfl rfl ?_
   refine R_nil ?_
   refine N_LP (hJ := ⟨_, _, _, (xs ++ [((x29 : Int) + ((k : Int) / 8) * (x32 : Int) + (x35 : Int) / 5)]), k + 1, p35, _, rfl, hle30, H, ?inv, rfl⟩) (hM := ?hM) (hf := ?hf) (hm := ?hm)
   case hM => (repeat (first | exact Sub.nil | refine Sub.cons rfl ?_))
   case hf => (repeat (first | exact Sub.nil | refine Sub.cons rfl ?_))
   case hm => omega
   case inv => exact ⟨hchk38, (by first | assumption | (simp; omega) | omega), (by exact ⟨by omega, by simp [hxl], by omega⟩)⟩
  intro hc31'
  try simp only [nrm] at hc31'
  refine W_exit ?_
  refine N_K_exit ?_
  refine N_LP_exit ?_
  refine N_B_same ?_
  refine N_K ?_
  refine W_seq ?_
  refine q2 ?_
  refine o_move rfl rfl ?_
  refine o_call Tryz.call43 rfl rfl (pick_c _ _ H.sub _ _ _ _ _ _ hbs (H.blkIs (k := 0) rfl).1 (H.blkIs (k := 0) rfl).2 (by omega) _ ⟨by omega, by omega⟩ ) ?_
  rintro _ w40 ⟨G40, _, _, rfl, H40', ⟨p40, x40, hp40, rfl, hxb40, rfl⟩⟩
  have hbs := hbs.up H40'.le
  have hchk5 := hchk5.up H40'.le
  have hsr6 := hsr6.up H40'.le
  have hrow4 := hrow4.up H40'.le
  have hchk30_0 := hchk30_0.up H40'.le
  have hle30 := hle30.trans H40'.le
  have H := H.borrow (k := 0) rfl H40'
  refine ⟨_, rfl, ?_⟩
  have hma40 : 0 ≤ ((k : Int) / 8) * (x40 : Int) := Int.mul_nonneg (by omega) (by omega)
  have hmb40 : ((k : Int) / 8) * (x40 : Int) ≤ 4 * (x40 : Int) := Int.mul_le_mul_of_nonneg_right (by omega) (by omega)
  refine q3 ?_
  refine W_block ?_
  refine q2 ?_
  refine o_eql rfl rfl rfl ?_
  refine o_assign rfl rfl ?_
  refine q3 ?_
  refine W_cond rfl ?_ ?_
  ·intro hc41
   try simp only [nrm] at hc41
   refine q2 ?_
   refine o_move rfl rfl ?_
   refine o_gtr rfl rfl rfl ?_
   refine q3 ?_
   refine W_cond rfl ?_ ?_
   ·intro hc42
    try simp only [nrm] at hc42
    refine W_region ?_
    refine o_move rfl rfl ?_
    refine o_move rfl rfl ?_
    refine o_move rfl rfl ?_
    refine o_call Tryz.call43 rfl rfl (pick_c _ _ H.sub _ _ _ _ _ _ hbs (H.blkIs (k := 0) rfl).1 (H.blkIs (k := 0) rfl).2 (by omega) _ ⟨by omega, by omega⟩ ) ?_
    rintro _ w43 ⟨G43, _, _, rfl, H43', ⟨p43, x43, hp43, rfl, hxb43, rfl⟩⟩
    have hbs := hbs.up H43'.le
    have hchk5 := hchk5.up H43'.le
    have hsr6 := hsr6.up H43'.le
    have hrow4 := hrow4.up H43'.le
    have hchk30_0 := hchk30_0.up H43'.le
    have hle30 := hle30.trans H43'.le
    have H := H.borrow (k := 0) rfl H43'
    refine ⟨_, rfl, ?_⟩
    have hma43 : 0 ≤ ((k : Int) / 8) * (x43 : Int) := Int.mul_nonneg (by omega) (by omega)
    have hmb43 : ((k : Int) / 8) * (x43 : Int) ≤ 4 * (x43 : Int) := Int.mul_le_mul_of_nonneg_right (by omega) (by omega)
    refine o_index_A 1 H x43 rfl hchk30_0 Tryz.underlying27 Tryz.sizeOf3 rfl rfl rfl rfl (by first | omega | (simp; omega) | (simp; done)) (by first | rfl | assumption | (simp; done) | (simp; omega) | omega) ?_; intro ba44 z44 q44 hba44 hz44 hE44 hg44; cases hba44
    obtain ⟨rfl, hi44⟩ := hE44
    have hcl45 := hchk30_0.length
    refine o_store_A 1 H Tryz.sizeOf3 rfl rfl rfl rfl rfl (by simp only [vc, List.length_cons, List.length_nil]; omega) ?_; intro w45 H
    have hchk45 := hchk30_0.put (x' := 256) (off := 0) (vs := [_]) hz44 (fun cs hl hE => by obtain ⟨rfl, _⟩ := hE; exact ⟨rfl, ⟨by omega, by omega⟩⟩) (by simp only [vc, List.length_cons, List.length_nil]; omega)
    refine R_nil ?_
    refine N_B ?_
    refine N_K ?_
    refine q2 ?_
    refine o_move rfl rfl ?_
    refine o_assign rfl rfl ?_
    refine q3 ?_
    refine W_ret ?_
    refine ret_gen (rs := [.tmp 2]) (vs := [_]) Tryz.results29 ⟨rfl, trivial⟩ ?_
    have H := H.toFront (k := 1) rfl
    have hcx := hchk45
    exact H.retM ⟨_, (xs.set x43 256), _, _, (by omega), rfl, hcx, (by first | (simp; done) | (simp; omega) | (simp at *; omega) | omega), acc_1 (by first | assumption | rfl | (simp; done) | (simp; omega) | omega)⟩
   intro hc42'
   try simp only [nrm] at hc42'
   refine W_skip ?_
   refine N_B ?_
   refine N_K ?_
   refine q2 ?_
   refine o_move rfl rfl ?_
   refine o_assign rfl rfl ?_
   refine q3 ?_
   refine W_ret ?_
   refine ret_gen (rs := [.tmp 2]) (vs := [_]) Tryz.results29 ⟨rfl, trivial⟩ ?_
   have H := H.toFront (k := 1) rfl
   have hcx := hchk30_0
   exact H.retM ⟨_, xs, _, _, (by omega), rfl, hcx, (by first | (simp; done) | (simp; omega) | (simp at *; omega) | omega), acc_1 (by first | assumption | rfl | (simp; done) | (simp; omega) | omega)⟩
  intro hc41'
  try simp only [nrm] at hc41'
  refine q2 ?_
  refine o_eql rfl rfl rfl ?_
  refine o_assign rfl rfl ?_
  refine q3 ?_
  refine W_cond rfl ?_ ?_
  ·intro hc46
   try simp only [nrm] at hc46
   refine q2 ?_
   refine o_makeN (c := 33) (sz := 1) (bytes := 8) H Tryz.underlying27 Tryz.typeInfo3 ⟨_, rfl, rfl⟩ rfl rfl rfl rfl rfl rfl rfl rfl rfl (by omega) rfl ?_; intro b47 w47 H
   have hchk47 := Chk.rep (E := intE) (sz := 1) (G := G40) (x0 := 0) (⟨rfl, by decide⟩) rfl (33)
   refine o_assign rfl rfl ?_
   refine q3 ?_
   refine W_ret ?_
   refine N_B_ret ?_
   refine N_K_ret ?_
   refine ret_gen (rs := [.tmp 2]) (vs := [_]) Tryz.results29 ⟨rfl, trivial⟩ ?_
   have H := H.del (k := 2) rfl
   have H := H.toFront (k := 1) rfl
   have H := H.toFront (k := 1) rfl
   have hcx := hchk47
   exact H.retM ⟨_, (List.replicate (33) 0), _, _, (by omega), rfl, hcx, (by first | (simp; done) | (simp; omega) | (simp at *; omega) | omega), acc_1 (by first | assumption | rfl | (simp; done) | (simp; omega) | omega)⟩
  intro hc46'
  try simp only [nrm] at hc46'
  refine W_skip ?_
  refine N_B ?_
  refine N_K ?_
  refine q2 ?_
  refine o_move rfl rfl ?_
  refine o_assign rfl rfl ?_
  refine q3 ?_
  refine W_ret ?_
  refine ret_gen (rs := [.tmp 2]) (vs := [_]) Tryz.results29 ⟨rfl, trivial⟩ ?_
  have H := H.toFront (k := 1) rfl
  have hcx := hchk30_0
  exact H.retM ⟨_, xs, _, _, (by omega), rfl, hcx, (by first | (simp; done) | (simp; omega) | (simp at *; omega) | omega), acc_1 (by first | assumption | rfl | (simp; done) | (simp; omega) | omega)⟩
end Go.Proofs.Tst

namespace Go.Proofs.Tst
open Go Fw
theorem l91Step_c (w0 : World) (G0 : PH) (hG : PSub G0 w0) (rb : Nat) (ab : Option Addr) (mb kb : Nat) (bs : List UInt8) (p : Nat) (hbs : RdU G0 (.slice ab mb kb) bs) (hrb : w0.heap[rb]? = some (cl [.slice ab mb kb, .int .i64 (p : Int)] 114)) (hrn : G0 rb = none) (hp : p ≤ 100000000) (cu : List Value) (u : BVol) (hu : volE G0 u cu)  :
  Calls Tryz.prog 73 #[.pointer (some ⟨rb, 0, none⟩), .agg cu.toArray] w0 (RetM w0 G0 [rb] (fun G val Bs => ∃ (p' : Nat) (v1 v2 : Value) (st : List BHeld) (tr : List BItem) (b : Bool) (c : List Value), p' ≤ p + 200 ∧ val = .tuple #[.agg #[v1, v2], .bool b] ∧ Chk heldE 3 G c st ∧ st.length ≤ 16 ∧ RdItems G v2 tr ∧ Bs = [acc 117 3 v1 st.length c, blk rb (cl [.slice ab mb kb, .int .i64 (p' : Int)] 114)])) := by
 have hlimbs : bs.length ≤ 1099511627776 := hbs.lim; obtain rfl : mb = bs.length := hbs.len
 obtain ⟨a1, m1, c1, a1', m1', c1', rfl, hr1, hr1'⟩ := hu; have hn_hr1 := hr1.len; have hx_hr1 : _ ≤ 1099511627776 := hr1.lim; have hn_hr1q := hr1'.len; have hx_hr1q : _ ≤ 1099511627776 := hr1'.lim
 have H := Hp.initM hG hrb hrn
 refine calls_of_W (l := [.pointer (some ⟨rb, 0, none⟩), _]) Tryz.func73 rfl Tryz.ntmps73 rfl ?_
 refine q2 ?_
 refine o_box H rfl rfl rfl ?_; intro b2 w2 hb2 H
 refine o_alloc H Tryz.zeroValue26 rfl rfl ?_; intro b3 w3 hb3 H
 refine o_assign rfl rfl ?_
 refine q3 ?_
 refine W_seq ?_
 refine q2 ?_
 refine o_move rfl rfl ?_
 refine o_call Tryz.call43 rfl rfl (pick_c _ _ H.sub _ _ _ _ _ _ hbs (H.blkIs (k := 2) rfl).1 (H.blkIs (k := 2) rfl).2 (by omega) _ ⟨by omega, by omega⟩ ) ?_
 rintro _ w4 ⟨G4, _, _, rfl, H4', ⟨p4, x4, hp4, rfl, hxb4, rfl⟩⟩
 have hbs := hbs.up H4'.le
 have hr1 := hr1.up H4'.le
 have hr1' := hr1'.up H4'.le
 have H := H.borrow (k := 2) rfl H4'
 refine ⟨_, rfl, ?_⟩
 refine q3 ?_
 refine W_block ?_
 refine W_seq ?_
 refine q2 ?_
 refine o_eql rfl rfl rfl ?_
 refine o_assign rfl rfl ?_
 refine q3 ?_
 refine W_cond rfl ?_ ?_
 ·intro hc5
  try simp only [nrm] at hc5
  refine W_skip ?_
  refine N_K ?_
  refine W_cond rfl ?_ ?_
  ·intro hc6
   try simp only [nrm] at hc6
   refine W_seq ?_
   refine W_drawK [2] 9 H (by kernel_rfl) rfl ?_; intro w7 H; have hd7 := PLe.refl G4
   refine RD_t 0 rfl (by kernel_rfl) rfl (fun _ hK => v_loadagg_B 0 hK Tryz.isAgg26 Tryz.sizeOf26 rfl rfl rfl rfl) ?_
   refine RD_t 1 rfl (by kernel_rfl) rfl (fun _ hK => v_move rfl) ?_
   refine RD_run [2] (by kernel_rfl) rfl (RDs.cons rfl ?_ RDs.nil)
   refine o_buildSlice H Tryz.underlying87 Tryz.sizeOf9 (fun w => ⟨_, Tryz.zeroValue9 w, rfl⟩) rfl rfl rfl rfl rfl rfl rfl ?_; intro b8 w8 hb8 H
   refine R_nil ?_
   refine N_DK (Kn.of' H hd7 (SubL.cons 3 rfl SubL.nil)) ?_
   refine RD_run [3] (by kernel_rfl) rfl (RDs.cons rfl ?_ RDs.nil)
   have H := H.blkAcc 1 (k := 0) (n := 3) rfl rfl (by decide)
   have hchk10 := ((((Chk.nil (E := strE) (sz := 1) (G := G4)).snoc (show strE _ ([97] : Fw.Bs) [str [97]] from ⟨rfl, by decide⟩) rfl).snoc (show strE _ ([98] : Fw.Bs) [str [98]] from ⟨rfl, by decide⟩) rfl).snoc (show strE _ ([97, 47, 120] : Fw.Bs) [str [97, 47, 120]] from ⟨rfl, by decide⟩) rfl)
   obtain ⟨G11, H, hsg11, hsr11⟩ := H.shutM (k := 0) (j := 0) rfl rfl hchk10 (by first | assumption | (simp; done) | (simp; omega) | omega) (by first | assumption | (simp; done) | (simp; omega) | omega)
   have hbs := hbs.up hsg11
   have hr1 := hr1.up hsg11
   have hr1' := hr1'.up hsg11
   have hchk10 := hchk10.up hsg11
   have hd7 := hd7.trans hsg11
   refine o_call Tryz.call44 rfl rfl (of_c _ _ H.sub _ _ _ _ _ _ hbs (H.blkIs (k := 0) rfl).1 (H.blkIs (k := 0) rfl).2 (by omega) _ _ hsr11 (by first | decide | (simp; done) | (simp; omega))) ?_
   rintro _ w9 ⟨G9, _, _, rfl, H9', ⟨p9, x9, hp9, rfl, hxs9, rfl⟩⟩
   have hbs := hbs.up H9'.le
   have hr1 := hr1.up H9'.le
   have hr1' := hr1'.up H9'.le
   have hchk10 := hchk10.up H9'.le
   have hsr11 := hsr11.up H9'.le
   have hd7 := hd7.trans H9'.le
   have H := H.borrow (k := 0) rfl H9'
   refine ⟨_, rfl, ?_⟩
   refine R_nil ?_
   refine N_DK (Kn.of' H hd7 (SubL.cons 2 rfl SubL.nil)) ?_
   refine RD_run [4] (by kernel_rfl) rfl (RDs.cons rfl ?_ RDs.nil)
   refine o_call Tryz.call18 rfl rfl (VolumeDir_c _ _ H.sub _ u ⟨_, _, _, _, _, _, rfl, hr1, hr1'⟩ _ hxs9 ) ?_
   rintro _ w12 ⟨G12, _, _, g12, rfl, ⟨u12_0, u12_1, rfl, ⟨cs12, rfl, hchk12⟩, hr12_1⟩, hp12, hq12, hs12⟩
   have H := H.growO g12 hp12 hq12 hs12; obtain ⟨av12, cv12, rfl⟩ := H.accShape (k := 0) rfl
   have hbs := hbs.up g12.le
   have hr1 := hr1.up g12.le
   have hr1' := hr1'.up g12.le
   have hchk10 := hchk10.up g12.le
   have hsr11 := hsr11.up g12.le
   have hd7 := hd7.trans g12.le
   obtain ⟨a12_1, k12_1, rfl⟩ := hr12_1.shape; have hx_hr12_1 : _ ≤ 1099511627776 := hr12_1.lim
   refine ⟨_, rfl, ?_⟩
   refine R_nil ?_
   refine N_DK (Kn.of' H hd7 (SubL.cons 3 rfl SubL.nil)) ?_
   refine RD_t 5 rfl (by kernel_rfl) rfl (fun _ hK => v_extract rfl rfl) ?_
   refine RD_t 6 rfl (by kernel_rfl) rfl (fun _ hK => v_extract rfl rfl) ?_
   refine RD_run [7] (by kernel_rfl) rfl (RDs.cons rfl ?_ RDs.nil)
   refine o_store_B 2 H Tryz.sizeOf26 rfl rfl rfl rfl rfl rfl rfl rfl ?_; intro w13 H
   refine R_nil ?_
   refine N_DK (Kn.of' H hd7 (SubL.cons 3 rfl SubL.nil)) ?_
   refine RD_t 8 rfl (by kernel_rfl) rfl (fun _ hK => v_assign rfl) ?_
   refine RD_done (by kernel_rfl) ?_
   refine N_K ?_
   refine W_ret ?_
   refine N_B_ret ?_
   refine N_K_ret ?_
   refine ret_gen (rs := [.cell 4 26, .tmp 5]) (vs := [_, _]) Tryz.results73 ⟨⟨_, rfl, load_blk 2 H Tryz.isAgg26 Tryz.sizeOf26 rfl rfl rfl⟩, rfl, trivial⟩ ?_
   have H := H.del (k := 2) rfl
   have H := H.del (k := 2) rfl
   have H := H.toFront (k := 1) rfl
   have H := H.toFront (k := 1) rfl
   exact H.retM ⟨_, _, _, _, _, _, _, (by omega), rfl, hchk12, Sp.vol_len (fun u2 h2 => Sp.dir_valid h2), hr12_1, acc_1 rfl⟩
  intro hc6'
  try simp only [nrm] at hc6'
  refine q2 ?_
  refine o_eql rfl rfl rfl ?_
  refine o_assign rfl rfl ?_
  refine q3 ?_
  refine W_cond rfl ?_ ?_
  ·intro hc14
   try simp only [nrm] at hc14
   refine W_seq ?_
   refine W_drawK [2] 8 H (by kernel_rfl) rfl ?_; intro w15 H; have hd15 := PLe.refl G4
   refine RD_t 0 rfl (by kernel_rfl) rfl (fun _ hK => v_loadagg_B 0 hK Tryz.isAgg26 Tryz.sizeOf26 rfl rfl rfl rfl) ?_
   refine RD_t 1 rfl (by kernel_rfl) rfl (fun _ hK => v_move rfl) ?_
   refine RD_run [2] (by kernel_rfl) rfl (RDs.cons rfl ?_ RDs.nil)
   refine o_call Tryz.call45 rfl rfl (l91Path_c _ _ H.sub _ _ _ _ _ _ hbs (H.blkIs (k := 0) rfl).1 (H.blkIs (k := 0) rfl).2 (by omega) ) ?_
   rintro _ w16 ⟨G16, _, _, rfl, H16', ⟨p16, x16, hp16, rfl, hxs16, rfl⟩⟩
   have hbs := hbs.up H16'.le
   have hr1 := hr1.up H16'.le
   have hr1' := hr1'.up H16'.le
   have hd15 := hd15.trans H16'.le
   have H := H.borrow (k := 0) rfl H16'
   refine ⟨_, rfl, ?_⟩
   refine R_nil ?_
   refine N_DK (Kn.of' H hd15 (SubL.cons 2 rfl SubL.nil)) ?_
   refine RD_run [3] (by kernel_rfl) rfl (RDs.cons rfl ?_ RDs.nil)
   refine o_call Tryz.call126 rfl rfl (VolumeDrop_c _ _ H.sub _ u ⟨_, _, _, _, _, _, rfl, hr1, hr1'⟩ _ hxs16 ) ?_
   rintro _ w17 ⟨G17, _, _, g17, rfl, ⟨u17_0, u17_1, rfl, ⟨cs17, rfl, hchk17⟩, hr17_1⟩, hp17, hq17, hs17⟩
   have H := H.growO g17 hp17 hq17 hs17; obtain ⟨av17, cv17, rfl⟩ := H.accShape (k := 0) rfl
   have hbs := hbs.up g17.le
   have hr1 := hr1.up g17.le
   have hr1' := hr1'.up g17.le
   have hd15 := hd15.trans g17.le
   obtain ⟨a17_1, k17_1, rfl⟩ := hr17_1.shape; have hx_hr17_1 : _ ≤ 1099511627776 := hr17_1.lim
   refine ⟨_, rfl, ?_⟩
   refine R_nil ?_
   refine N_DK (Kn.of' H hd15 (SubL.cons 3 rfl SubL.nil)) ?_
   refine RD_t 4 rfl (by kernel_rfl) rfl (fun _ hK => v_extract rfl rfl) ?_
   refine RD_t 5 rfl (by kernel_rfl) rfl (fun _ hK => v_extract rfl rfl) ?_
   refine RD_run [6] (by kernel_rfl) rfl (RDs.cons rfl ?_ RDs.nil)
   refine o_store_B 2 H Tryz.sizeOf26 rfl rfl rfl rfl rfl rfl rfl rfl ?_; intro w18 H
   refine R_nil ?_
   refine N_DK (Kn.of' H hd15 (SubL.cons 3 rfl SubL.nil)) ?_
   refine RD_t 7 rfl (by kernel_rfl) rfl (fun _ hK => v_assign rfl) ?_
   refine RD_done (by kernel_rfl) ?_
   refine N_K ?_
   refine W_ret ?_
   refine N_B_ret ?_
   refine N_K_ret ?_
   refine ret_gen (rs := [.cell 4 26, .tmp 5]) (vs := [_, _]) Tryz.results73 ⟨⟨_, rfl, load_blk 2 H Tryz.isAgg26 Tryz.sizeOf26 rfl rfl rfl⟩, rfl, trivial⟩ ?_
   have H := H.del (k := 2) rfl
   have H := H.del (k := 2) rfl
   have H := H.toFront (k := 1) rfl
   have H := H.toFront (k := 1) rfl
   exact H.retM ⟨_, _, _, _, _, _, _, (by omega), rfl, hchk17, Sp.vol_len (fun u2 h2 => Sp.drop_valid h2), hr17_1, acc_1 rfl⟩
  intro hc14'
  try simp only [nrm] at hc14'
  refine W_skip ?_
  refine N_B ?_
  refine N_K ?_
  refine q2 ?_
  refine o_move rfl rfl ?_
  refine o_buildSlice H Tryz.underlying87 Tryz.sizeOf9 (fun w => ⟨_, Tryz.zeroValue9 w, rfl⟩) rfl rfl rfl rfl rfl rfl rfl ?_; intro b19 w19 hb19 H
  have H := H.blkAcc 1 (k := 0) (n := 5) rfl rfl (by decide)
  have hchk21 := ((((((Chk.nil (E := strE) (sz := 1) (G := G4)).snoc (show strE _ ([99] : Fw.Bs) [str [99]] from ⟨rfl, by decide⟩) rfl).snoc (show strE _ ([97, 47, 121] : Fw.Bs) [str [97, 47, 121]] from ⟨rfl, by decide⟩) rfl).snoc (show strE _ ([98, 47, 120] : Fw.Bs) [str [98, 47, 120]] from ⟨rfl, by decide⟩) rfl).snoc (show strE _ ([97, 47, 120, 47, 112] : Fw.Bs) [str [97, 47, 120, 47, 112]] from ⟨rfl, by decide⟩) rfl).snoc (show strE _ ([100] : Fw.Bs) [str [100]] from ⟨rfl, by decide⟩) rfl)
  obtain ⟨G22, H, hsg22, hsr22⟩ := H.shutM (k := 0) (j := 0) rfl rfl hchk21 (by first | assumption | (simp; done) | (simp; omega) | omega) (by first | assumption | (simp; done) | (simp; omega) | omega)
  have hbs := hbs.up hsg22
  have hr1 := hr1.up hsg22
  have hr1' := hr1'.up hsg22
  have hchk21 := hchk21.up hsg22
  refine o_call Tryz.call44 rfl rfl (of_c _ _ H.sub _ _ _ _ _ _ hbs (H.blkIs (k := 0) rfl).1 (H.blkIs (k := 0) rfl).2 (by omega) _ _ hsr22 (by first | decide | (simp; done) | (simp; omega))) ?_
  rintro _ w20 ⟨G20, _, _, rfl, H20', ⟨p20, x20, hp20, rfl, hxs20, rfl⟩⟩
  have hbs := hbs.up H20'.le
  have hr1 := hr1.up H20'.le
  have hr1' := hr1'.up H20'.le
  have hchk21 := hchk21.up H20'.le
  have hsr22 := hsr22.up H20'.le
  have H := H.borrow (k := 0) rfl H20'
  refine ⟨_, rfl, ?_⟩
  refine o_assign rfl rfl ?_
  refine q3 ?_
  refine W_seq ?_
  refine W_drawK [2] 9 H (by kernel_rfl) rfl ?_; intro w23 H; have hd23 := PLe.refl G20
  refine RD_t 0 rfl (by kernel_rfl) rfl (fun _ hK => v_loadagg_B 0 hK Tryz.isAgg26 Tryz.sizeOf26 rfl rfl rfl rfl) ?_
  refine RD_t 1 rfl (by kernel_rfl) rfl (fun _ hK => v_move rfl) ?_
  refine RD_t 2 rfl (by kernel_rfl) rfl (fun _ hK => v_move rfl) ?_
  refine RD_run [3] (by kernel_rfl) rfl (RDs.cons rfl ?_ RDs.nil)
  refine o_call Tryz.call29 rfl rfl (l91File_c _ _ H.sub _ _ _ _ _ _ hbs (H.blkIs (k := 0) rfl).1 (H.blkIs (k := 0) rfl).2 (by omega) ) ?_
  rintro _ w24 ⟨G24, _, _, rfl, H24', ⟨p24, x24, v24, c24, hp24, rfl, hchk24, hxl24, rfl⟩⟩
  have hbs := hbs.up H24'.le
  have hr1 := hr1.up H24'.le
  have hr1' := hr1'.up H24'.le
  have hchk21 := hchk21.up H24'.le
  have hsr22 := hsr22.up H24'.le
  have hd23 := hd23.trans H24'.le
  have H := H.borrow (k := 0) rfl H24'
  obtain ⟨av24, cv24, rfl⟩ := H.accShape (k := 0) rfl
  refine ⟨_, rfl, ?_⟩
  refine R_nil ?_
  refine N_DK (Kn.of' H hd23 (SubL.cons 3 rfl SubL.nil)) ?_
  refine RD_run [4] (by kernel_rfl) rfl (RDs.cons rfl ?_ RDs.nil)
  obtain ⟨G26, H, hsg26, hsr26⟩ := H.shutM (k := 0) (j := 0) rfl rfl hchk24 (by first | assumption | (simp; done) | (simp; omega) | omega) (by first | assumption | (simp; done) | (simp; omega) | omega)
  have hbs := hbs.up hsg26
  have hr1 := hr1.up hsg26
  have hr1' := hr1'.up hsg26
  have hchk21 := hchk21.up hsg26
  have hsr22 := hsr22.up hsg26
  have hchk24 := hchk24.up hsg26
  have hd23 := hd23.trans hsg26
  refine o_call Tryz.call9 rfl rfl (VolumeWrite_c _ _ H.sub _ u ⟨_, _, _, _, _, _, rfl, hr1, hr1'⟩ _ hxs20 _ _ hsr26 ) ?_
  rintro _ w25 ⟨G25, _, _, g25, rfl, ⟨u25_0, u25_1, rfl, ⟨cs25, rfl, hchk25⟩, hr25_1⟩, hp25, hq25, hs25⟩
  have H := H.growO g25 hp25 hq25 hs25; obtain ⟨av25, cv25, rfl⟩ := H.accShape (k := 0) rfl
  have hbs := hbs.up g25.le
  have hr1 := hr1.up g25.le
  have hr1' := hr1'.up g25.le
  have hchk21 := hchk21.up g25.le
  have hsr22 := hsr22.up g25.le
  have hchk24 := hchk24.up g25.le
  have hsr26 := hsr26.up g25.le
  have hd23 := hd23.trans g25.le
  obtain ⟨a25_1, k25_1, rfl⟩ := hr25_1.shape; have hx_hr25_1 : _ ≤ 1099511627776 := hr25_1.lim
  refine ⟨_, rfl, ?_⟩
  refine R_nil ?_
  refine N_DK (Kn.of' H hd23 (SubL.cons 3 rfl SubL.nil)) ?_
  refine RD_t 5 rfl (by kernel_rfl) rfl (fun _ hK => v_extract rfl rfl) ?_
  refine RD_t 6 rfl (by kernel_rfl) rfl (fun _ hK => v_extract rfl rfl) ?_
  refine RD_run [7] (by kernel_rfl) rfl (RDs.cons rfl ?_ RDs.nil)
  refine o_store_B 2 H Tryz.sizeOf26 rfl rfl rfl rfl rfl rfl rfl rfl ?_; intro w27 H
  refine R_nil ?_
  refine N_DK (Kn.of' H hd23 (SubL.cons 3 rfl SubL.nil)) ?_
  refine RD_t 8 rfl (by kernel_rfl) rfl (fun _ hK => v_assign rfl) ?_
  refine RD_done (by kernel_rfl) ?_
  refine N_K ?_
  refine W_ret ?_
  refine ret_gen (rs := [.cell 4 26, .tmp 5]) (vs := [_, _]) Tryz.results73 ⟨⟨_, rfl, load_blk 2 H Tryz.isAgg26 Tryz.sizeOf26 rfl rfl rfl⟩, rfl, trivial⟩ ?_
  have H := H.del (k := 2) rfl
  have H := H.del (k := 2) rfl
  have H := H.toFront (k := 1) rfl
  have H := H.toFront (k := 1) rfl
  exact H.retM ⟨_, _, _, _, _, _, _, (by omega), rfl, hchk25, Sp.vol_len (fun u2 h2 => Sp.vwrite_valid h2), hr25_1, acc_1 rfl⟩
 intro hc5'
 try simp only [nrm] at hc5'
 refine q2 ?_
 refine o_eql rfl rfl rfl ?_
 refine o_assign rfl rfl ?_
 refine q3 ?_
 refine W_cond rfl ?_ ?_
 ·intro hc28
  try simp only [nrm] at hc28
  refine W_skip ?_
  refine N_K ?_
  refine W_cond rfl ?_ ?_
  ·intro hc29
   try simp only [nrm] at hc29
   refine W_seq ?_
   refine W_drawK [2] 9 H (by kernel_rfl) rfl ?_; intro w30 H; have hd30 := PLe.refl G4
   refine RD_t 0 rfl (by kernel_rfl) rfl (fun _ hK => v_loadagg_B 0 hK Tryz.isAgg26 Tryz.sizeOf26 rfl rfl rfl rfl) ?_
   refine RD_t 1 rfl (by kernel_rfl) rfl (fun _ hK => v_move rfl) ?_
   refine RD_run [2] (by kernel_rfl) rfl (RDs.cons rfl ?_ RDs.nil)
   refine o_buildSlice H Tryz.underlying87 Tryz.sizeOf9 (fun w => ⟨_, Tryz.zeroValue9 w, rfl⟩) rfl rfl rfl rfl rfl rfl rfl ?_; intro b31 w31 hb31 H
   refine R_nil ?_
   refine N_DK (Kn.of' H hd30 (SubL.cons 3 rfl SubL.nil)) ?_
   refine RD_run [3] (by kernel_rfl) rfl (RDs.cons rfl ?_ RDs.nil)
   have H := H.blkAcc 1 (k := 0) (n := 3) rfl rfl (by decide)
   have hchk33 := ((((Chk.nil (E := strE) (sz := 1) (G := G4)).snoc (show strE _ ([97] : Fw.Bs) [str [97]] from ⟨rfl, by decide⟩) rfl).snoc (show strE _ ([98] : Fw.Bs) [str [98]] from ⟨rfl, by decide⟩) rfl).snoc (show strE _ ([97, 47, 120] : Fw.Bs) [str [97, 47, 120]] from ⟨rfl, by decide⟩) rfl)
   obtain ⟨G34, H, hsg34, hsr34⟩ := H.shutM (k := 0) (j := 0) rfl rfl hchk33 (by first | assumption | (simp; done) | (simp; omega) | omega) (by first | assumption | (simp; done) | (simp; omega) | omega)
   have hbs := hbs.up hsg34
   have hr1 := hr1.up hsg34
   have hr1' := hr1'.up hsg34
   have hchk33 := hchk33.up hsg34
   have hd30 := hd30.trans hsg34
   refine o_call Tryz.call44 rfl rfl (of_c _ _ H.sub _ _ _ _ _ _ hbs (H.blkIs (k := 0) rfl).1 (H.blkIs (k := 0) rfl).2 (by omega) _ _ hsr34 (by first | decide | (simp; done) | (simp; omega))) ?_
   rintro _ w32 ⟨G32, _, _, rfl, H32', ⟨p32, x32, hp32, rfl, hxs32, rfl⟩⟩
   have hbs := hbs.up H32'.le
   have hr1 := hr1.up H32'.le
   have hr1' := hr1'.up H32'.le
   have hchk33 := hchk33.up H32'.le
   have hsr34 := hsr34.up H32'.le
   have hd30 := hd30.trans H32'.le
   have H := H.borrow (k := 0) rfl H32'
   refine ⟨_, rfl, ?_⟩
   refine R_nil ?_
   refine N_DK (Kn.of' H hd30 (SubL.cons 2 rfl SubL.nil)) ?_
   refine RD_run [4] (by kernel_rfl) rfl (RDs.cons rfl ?_ RDs.nil)
   refine o_call Tryz.call18 rfl rfl (VolumeDir_c _ _ H.sub _ u ⟨_, _, _, _, _, _, rfl, hr1, hr1'⟩ _ hxs32 ) ?_
   rintro _ w35 ⟨G35, _, _, g35, rfl, ⟨u35_0, u35_1, rfl, ⟨cs35, rfl, hchk35⟩, hr35_1⟩, hp35, hq35, hs35⟩
   have H := H.growO g35 hp35 hq35 hs35; obtain ⟨av35, cv35, rfl⟩ := H.accShape (k := 0) rfl
   have hbs := hbs.up g35.le
   have hr1 := hr1.up g35.le
   have hr1' := hr1'.up g35.le
   have hchk33 := hchk33.up g35.le
   have hsr34 := hsr34.up g35.le
   have hd30 := hd30.trans g35.le
   obtain ⟨a35_1, k35_1, rfl⟩ := hr35_1.shape; have hx_hr35_1 : _ ≤ 1099511627776 := hr35_1.lim
   refine ⟨_, rfl, ?_⟩
   refine R_nil ?_
   refine N_DK (Kn.of' H hd30 (SubL.cons 3 rfl SubL.nil)) ?_
   refine RD_t 5 rfl (by kernel_rfl) rfl (fun _ hK => v_extract rfl rfl) ?_
   refine RD_t 6 rfl (by kernel_rfl) rfl (fun _ hK => v_extract rfl rfl) ?_
   refine RD_run [7] (by kernel_rfl) rfl (RDs.cons rfl ?_ RDs.nil)
   refine o_store_B 2 H Tryz.sizeOf26 rfl rfl rfl rfl rfl rfl rfl rfl ?_; intro w36 H
   refine R_nil ?_
   refine N_DK (Kn.of' H hd30 (SubL.cons 3 rfl SubL.nil)) ?_
   refine RD_t 8 rfl (by kernel_rfl) rfl (fun _ hK => v_assign rfl) ?_
   refine RD_done (by kernel_rfl) ?_
   refine N_K ?_
   refine W_ret ?_
   refine N_B_ret ?_
   refine N_K_ret ?_
   refine ret_gen (rs := [.cell 4 26, .tmp 5]) (vs := [_, _]) Tryz.results73 ⟨⟨_, rfl, load_blk 2 H Tryz.isAgg26 Tryz.sizeOf26 rfl rfl rfl⟩, rfl, trivial⟩ ?_
   have H := H.del (k := 2) rfl
   have H := H.del (k := 2) rfl
   have H := H.toFront (k := 1) rfl
   have H := H.toFront (k := 1) rfl
   exact H.retM ⟨_, _, _, _, _, _, _, (by omega), rfl, hchk35, Sp.vol_len (fun u2 h2 => Sp.dir_valid h2), hr35_1, acc_1 rfl⟩
  intro hc29'
  try simp only [nrm] at hc29'
  refine q2 ?_
  refine o_eql rfl rfl rfl ?_
  refine o_assign rfl rfl ?_
  refine q3 ?_
  refine W_cond rfl ?_ ?_
  ·intro hc37
   try simp only [nrm] at hc37
   refine W_seq ?_
   refine W_drawK [2] 8 H (by kernel_rfl) rfl ?_; intro w38 H; have hd38 := PLe.refl G4
   refine RD_t 0 rfl (by kernel_rfl) rfl (fun _ hK => v_loadagg_B 0 hK Tryz.isAgg26 Tryz.sizeOf26 rfl rfl rfl rfl) ?_
   refine RD_t 1 rfl (by kernel_rfl) rfl (fun _ hK => v_move rfl) ?_
   refine RD_run [2] (by kernel_rfl) rfl (RDs.cons rfl ?_ RDs.nil)
   refine o_call Tryz.call45 rfl rfl (l91Path_c _ _ H.sub _ _ _ _ _ _ hbs (H.blkIs (k := 0) rfl).1 (H.blkIs (k := 0) rfl).2 (by omega) ) ?_
   rintro _ w39 ⟨G39, _, _, rfl, H39', ⟨p39, x39, hp39, rfl, hxs39, rfl⟩⟩
   have hbs := hbs.up H39'.le
   have hr1 := hr1.up H39'.le
   have hr1' := hr1'.up H39'.le
   have hd38 := hd38.trans H39'.le
   have H := H.borrow (k := 0) rfl H39'
   refine ⟨_, rfl, ?_⟩
   refine R_nil ?_
   refine N_DK (Kn.of' H hd38 (SubL.cons 2 rfl SubL.nil)) ?_
   refine RD_run [3] (by kernel_rfl) rfl (RDs.cons rfl ?_ RDs.nil)
   refine o_call Tryz.call126 rfl rfl (VolumeDrop_c _ _ H.sub _ u ⟨_, _, _, _, _, _, rfl, hr1, hr1'⟩ _ hxs39 ) ?_
   rintro _ w40 ⟨G40, _, _, g40, rfl, ⟨u40_0, u40_1, rfl, ⟨cs40, rfl, hchk40⟩, hr40_1⟩, hp40, hq40, hs40⟩
   have H := H.growO g40 hp40 hq40 hs40; obtain ⟨av40, cv40, rfl⟩ := H.accShape (k := 0) rfl
   have hbs := hbs.up g40.le
   have hr1 := hr1.up g40.le
   have hr1' := hr1'.up g40.le
   have hd38 := hd38.trans g40.le
   obtain ⟨a40_1, k40_1, rfl⟩ := hr40_1.shape; have hx_hr40_1 : _ ≤ 1099511627776 := hr40_1.lim
   refine ⟨_, rfl, ?_⟩
   refine R_nil ?_
   refine N_DK (Kn.of' H hd38 (SubL.cons 3 rfl SubL.nil)) ?_
   refine RD_t 4 rfl (by kernel_rfl) rfl (fun _ hK => v_extract rfl rfl) ?_
   refine RD_t 5 rfl (by kernel_rfl) rfl (fun _ hK => v_extract rfl rfl) ?_
   refine RD_run [6] (by kernel_rfl) rfl (RDs.cons rfl ?_ RDs.nil)
   refine o_store_B 2 H Tryz.sizeOf26 rfl rfl rfl rfl rfl rfl rfl rfl ?_; intro w41 H
   refine R_nil ?_
   refine N_DK (Kn.of' H hd38 (SubL.cons 3 rfl SubL.nil)) ?_
   refine RD_t 7 rfl (by kernel_rfl) rfl (fun _ hK => v_assign rfl) ?_
   refine RD_done (by kernel_rfl) ?_
   refine N_K ?_
   refine W_ret ?_
   refine N_B_ret ?_
   refine N_K_ret ?_
   refine ret_gen (rs := [.cell 4 26, .tmp 5]) (vs := [_, _]) Tryz.results73 ⟨⟨_, rfl, load_blk 2 H Tryz.isAgg26 Tryz.sizeOf26 rfl rfl rfl⟩, rfl, trivial⟩ ?_
   have H := H.del (k := 2) rfl
   have H := H.del (k := 2) rfl
   have H := H.toFront (k := 1) rfl
   have H := H.toFront (k := 1) rfl
   exact H.retM ⟨_, _, _, _, _, _, _, (by omega), rfl, hchk40, Sp.vol_len (fun u2 h2 => Sp.drop_valid h2), hr40_1, acc_1 rfl⟩
  intro hc37'
  try simp only [nrm] at hc37'
  refine W_skip ?_
  refine N_B ?_
  refine N_K ?_
  refine q2 ?_
  refine o_move rfl rfl ?_
  refine o_buildSlice H Tryz.underlying87 Tryz.sizeOf9 (fun w => ⟨_, Tryz.zeroValue9 w, rfl⟩) rfl rfl rfl rfl rfl rfl rfl ?_; intro b42 w42 hb42 H
  have H := H.blkAcc 1 (k := 0) (n := 5) rfl rfl (by decide)
  have hchk44 := ((((((Chk.nil (E := strE) (sz := 1) (G := G4)).snoc (show strE _ ([99] : Fw.Bs) [str [99]] from ⟨rfl, by decide⟩) rfl).snoc (show strE _ ([97, 47, 121] : Fw.Bs) [str [97, 47, 121]] from ⟨rfl, by decide⟩) rfl).snoc (show strE _ ([98, 47, 120] : Fw.Bs) [str [98, 47, 120]] from ⟨rfl, by decide⟩) rfl).snoc (show strE _ ([97, 47, 120, 47, 112] : Fw.Bs) [str [97, 47, 120, 47, 112]] from ⟨rfl, by decide⟩) rfl).snoc (show strE _ ([100] : Fw.Bs) [str [100]] from ⟨rfl, by decide⟩) rfl)
  obtain ⟨G45, H, hsg45, hsr45⟩ := H.shutM (k := 0) (j := 0) rfl rfl hchk44 (by first | assumption | (simp; done) | (simp; omega) | omega) (by first | assumption | (simp; done) | (simp; omega) | omega)
  have hbs := hbs.up hsg45
  have hr1 := hr1.up hsg45
  have hr1' := hr1'.up hsg45
  have hchk44 := hchk44.up hsg45
  refine o_call Tryz.call44 rfl rfl (of_c _ _ H.sub _ _ _ _ _ _ hbs (H.blkIs (k := 0) rfl).1 (H.blkIs (k := 0) rfl).2 (by omega) _ _ hsr45 (by first | decide | (simp; done) | (simp; omega))) ?_
  rintro _ w43 ⟨G43, _, _, rfl, H43', ⟨p43, x43, hp43, rfl, hxs43, rfl⟩⟩
  have hbs := hbs.up H43'.le
  have hr1 := hr1.up H43'.le
  have hr1' := hr1'.up H43'.le
  have hchk44 := hchk44.up H43'.le
  have hsr45 := hsr45.up H43'.le
  have H := H.borrow (k := 0) rfl H43'
  refine ⟨_, rfl, ?_⟩
  refine o_assign rfl rfl ?_
  refine q3 ?_
  refine W_seq ?_
  refine W_drawK [2] 9 H (by kernel_rfl) rfl ?_; intro w46 H; have hd46 := PLe.refl G43
  refine RD_t 0 rfl (by kernel_rfl) rfl (fun _ hK => v_loadagg_B 0 hK Tryz.isAgg26 Tryz.sizeOf26 rfl rfl rfl rfl) ?_
  refine RD_t 1 rfl (by kernel_rfl) rfl (fun _ hK => v_move rfl) ?_
  refine RD_t 2 rfl (by kernel_rfl) rfl (fun _ hK => v_move rfl) ?_
  refine RD_run [3] (by kernel_rfl) rfl (RDs.cons rfl ?_ RDs.nil)
  refine o_call Tryz.call29 rfl rfl (l91File_c _ _ H.sub _ _ _ _ _ _ hbs (H.blkIs (k := 0) rfl).1 (H.blkIs (k := 0) rfl).2 (by omega) ) ?_
  rintro _ w47 ⟨G47, _, _, rfl, H47', ⟨p47, x47, v47, c47, hp47, rfl, hchk47, hxl47, rfl⟩⟩
  have hbs := hbs.up H47'.le
  have hr1 := hr1.up H47'.le
  have hr1' := hr1'.up H47'.le
  have hchk44 := hchk44.up H47'.le
  have hsr45 := hsr45.up H47'.le
  have hd46 := hd46.trans H47'.le
  have H := H.borrow (k := 0) rfl H47'
  obtain ⟨av47, cv47, rfl⟩ := H.accShape (k := 0) rfl
  refine ⟨_, rfl, ?_⟩
  refine R_nil ?_
  refine N_DK (Kn.of' H hd46 (SubL.cons 3 rfl SubL.nil)) ?_
  refine RD_run [4] (by kernel_rfl) rfl (RDs.cons rfl ?_ RDs.nil)
  obtain ⟨G49, H, hsg49, hsr49⟩ := H.shutM (k := 0) (j := 0) rfl rfl hchk47 (by first | assumption | (simp; done) | (simp; omega) | omega) (by first | assumption | (simp; done) | (simp; omega) | omega)
  have hbs := hbs.up hsg49
  have hr1 := hr1.up hsg49
  have hr1' := hr1'.up hsg49
  have hchk44 := hchk44.up hsg49
  have hsr45 := hsr45.up hsg49
  have hchk47 := hchk47.up hsg49
  have hd46 := hd46.trans hsg49
  refine o_call Tryz.call9 rfl rfl (VolumeWrite_c _ _ H.sub _ u ⟨_, _, _, _, _, _, rfl, hr1, hr1'⟩ _ hxs43 _ _ hsr49 ) ?_
  rintro _ w48 ⟨G48, _, _, g48, rfl, ⟨u48_0, u48_1, rfl, ⟨cs48, rfl, hchk48⟩, hr48_1⟩, hp48, hq48, hs48⟩
  have H := H.growO g48 hp48 hq48 hs48; obtain ⟨av48, cv48, rfl⟩ := H.accShape (k := 0) rfl
  have hbs := hbs.up g48.le
  have hr1 := hr1.up g48.le
  have hr1' := hr1'.up g48.le
  have hchk44 := hchk44.up g48.le
  have hsr45 := hsr45.up g48.le
  have hchk47 := hchk47.up g48.le
  have hsr49 := hsr49.up g48.le
  have hd46 := hd46.trans g48.le
  obtain ⟨a48_1, k48_1, rfl⟩ := hr48_1.shape; have hx_hr48_1 : _ ≤ 1099511627776 := hr48_1.lim
  refine ⟨_, rfl, ?_⟩
  refine R_nil ?_
  refine N_DK (Kn.of' H hd46 (SubL.cons 3 rfl SubL.nil)) ?_
  refine RD_t 5 rfl (by kernel_rfl) rfl (fun _ hK => v_extract rfl rfl) ?_
  refine RD_t 6 rfl (by kernel_rfl) rfl (fun _ hK => v_extract rfl rfl) ?_
  refine RD_run [7] (by kernel_rfl) rfl (RDs.cons rfl ?_ RDs.nil)
  refine o_store_B 2 H Tryz.sizeOf26 rfl rfl rfl rfl rfl rfl rfl rfl ?_; intro w50 H
  refine R_nil ?_
  refine N_DK (Kn.of' H hd46 (SubL.cons 3 rfl SubL.nil)) ?_
  refine RD_t 8 rfl (by kernel_rfl) rfl (fun _ hK => v_assign rfl) ?_
  refine RD_done (by kernel_rfl) ?_
  refine N_K ?_
  refine W_ret ?_
  refine ret_gen (rs := [.cell 4 26, .tmp 5]) (vs := [_, _]) Tryz.results73 ⟨⟨_, rfl, load_blk 2 H Tryz.isAgg26 Tryz.sizeOf26 rfl rfl rfl⟩, rfl, trivial⟩ ?_
  have H := H.del (k := 2) rfl
  have H := H.del (k := 2) rfl
  have H := H.toFront (k := 1) rfl
  have H := H.toFront (k := 1) rfl
  exact H.retM ⟨_, _, _, _, _, _, _, (by omega), rfl, hchk48, Sp.vol_len (fun u2 h2 => Sp.vwrite_valid h2), hr48_1, acc_1 rfl⟩
 intro hc28'
 try simp only [nrm] at hc28'
 refine W_region ?_
 refine o_eql rfl rfl rfl ?_
 refine o_assign rfl rfl ?_
 refine q3 ?_
 refine W_cond rfl ?_ ?_
 ·intro hc51
  try simp only [nrm] at hc51
  refine W_seq ?_
  refine W_drawK [2] 9 H (by kernel_rfl) rfl ?_; intro w52 H; have hd52 := PLe.refl G4
  refine RD_t 0 rfl (by kernel_rfl) rfl (fun _ hK => v_loadagg_B 0 hK Tryz.isAgg26 Tryz.sizeOf26 rfl rfl rfl rfl) ?_
  refine RD_t 1 rfl (by kernel_rfl) rfl (fun _ hK => v_move rfl) ?_
  refine RD_run [2] (by kernel_rfl) rfl (RDs.cons rfl ?_ RDs.nil)
  refine o_buildSlice H Tryz.underlying87 Tryz.sizeOf9 (fun w => ⟨_, Tryz.zeroValue9 w, rfl⟩) rfl rfl rfl rfl rfl rfl rfl ?_; intro b53 w53 hb53 H
  refine R_nil ?_
  refine N_DK (Kn.of' H hd52 (SubL.cons 3 rfl SubL.nil)) ?_
  refine RD_run [3] (by kernel_rfl) rfl (RDs.cons rfl ?_ RDs.nil)
  have H := H.blkAcc 1 (k := 0) (n := 3) rfl rfl (by decide)
  have hchk55 := ((((Chk.nil (E := strE) (sz := 1) (G := G4)).snoc (show strE _ ([97] : Fw.Bs) [str [97]] from ⟨rfl, by decide⟩) rfl).snoc (show strE _ ([98] : Fw.Bs) [str [98]] from ⟨rfl, by decide⟩) rfl).snoc (show strE _ ([97, 47, 120] : Fw.Bs) [str [97, 47, 120]] from ⟨rfl, by decide⟩) rfl)
  obtain ⟨G56, H, hsg56, hsr56⟩ := H.shutM (k := 0) (j := 0) rfl rfl hchk55 (by first | assumption | (simp; done) | (simp; omega) | omega) (by first | assumption | (simp; done) | (simp; omega) | omega)
  have hbs := hbs.up hsg56
  have hr1 := hr1.up hsg56
  have hr1' := hr1'.up hsg56
  have hchk55 := hchk55.up hsg56
  have hd52 := hd52.trans hsg56
  refine o_call Tryz.call44 rfl rfl (of_c _ _ H.sub _ _ _ _ _ _ hbs (H.blkIs (k := 0) rfl).1 (H.blkIs (k := 0) rfl).2 (by omega) _ _ hsr56 (by first | decide | (simp; done) | (simp; omega))) ?_
  rintro _ w54 ⟨G54, _, _, rfl, H54', ⟨p54, x54, hp54, rfl, hxs54, rfl⟩⟩
  have hbs := hbs.up H54'.le
  have hr1 := hr1.up H54'.le
  have hr1' := hr1'.up H54'.le
  have hchk55 := hchk55.up H54'.le
  have hsr56 := hsr56.up H54'.le
  have hd52 := hd52.trans H54'.le
  have H := H.borrow (k := 0) rfl H54'
  refine ⟨_, rfl, ?_⟩
  refine R_nil ?_
  refine N_DK (Kn.of' H hd52 (SubL.cons 2 rfl SubL.nil)) ?_
  refine RD_run [4] (by kernel_rfl) rfl (RDs.cons rfl ?_ RDs.nil)
  refine o_call Tryz.call18 rfl rfl (VolumeDir_c _ _ H.sub _ u ⟨_, _, _, _, _, _, rfl, hr1, hr1'⟩ _ hxs54 ) ?_
  rintro _ w57 ⟨G57, _, _, g57, rfl, ⟨u57_0, u57_1, rfl, ⟨cs57, rfl, hchk57⟩, hr57_1⟩, hp57, hq57, hs57⟩
  have H := H.growO g57 hp57 hq57 hs57; obtain ⟨av57, cv57, rfl⟩ := H.accShape (k := 0) rfl
  have hbs := hbs.up g57.le
  have hr1 := hr1.up g57.le
  have hr1' := hr1'.up g57.le
  have hchk55 := hchk55.up g57.le
  have hsr56 := hsr56.up g57.le
  have hd52 := hd52.trans g57.le
  obtain ⟨a57_1, k57_1, rfl⟩ := hr57_1.shape; have hx_hr57_1 : _ ≤ 1099511627776 := hr57_1.lim
  refine ⟨_, rfl, ?_⟩
  refine R_nil ?_
  refine N_DK (Kn.of' H hd52 (SubL.cons 3 rfl SubL.nil)) ?_
  refine RD_t 5 rfl (by kernel_rfl) rfl (fun _ hK => v_extract rfl rfl) ?_
  refine RD_t 6 rfl (by kernel_rfl) rfl (fun _ hK => v_extract rfl rfl) ?_
  refine RD_run [7] (by kernel_rfl) rfl (RDs.cons rfl ?_ RDs.nil)
  refine o_store_B 2 H Tryz.sizeOf26 rfl rfl rfl rfl rfl rfl rfl rfl ?_; intro w58 H
  refine R_nil ?_
  refine N_DK (Kn.of' H hd52 (SubL.cons 3 rfl SubL.nil)) ?_
  refine RD_t 8 rfl (by kernel_rfl) rfl (fun _ hK => v_assign rfl) ?_
  refine RD_done (by kernel_rfl) ?_
  refine N_K ?_
  refine W_ret ?_
  refine N_B_ret ?_
  refine N_K_ret ?_
  refine ret_gen (rs := [.cell 4 26, .tmp 5]) (vs := [_, _]) Tryz.results73 ⟨⟨_, rfl, load_blk 2 H Tryz.isAgg26 Tryz.sizeOf26 rfl rfl rfl⟩, rfl, trivial⟩ ?_
  have H := H.del (k := 2) rfl
  have H := H.del (k := 2) rfl
  have H := H.toFront (k := 1) rfl
  have H := H.toFront (k := 1) rfl
  exact H.retM ⟨_, _, _, _, _, _, _, (by omega), rfl, hchk57, Sp.vol_len (fun u2 h2 => Sp.dir_valid h2), hr57_1, acc_1 rfl⟩
 intro hc51'
 try simp only [nrm] at hc51'
 refine q2 ?_
 refine o_eql rfl rfl rfl ?_
 refine o_assign rfl rfl ?_
 refine q3 ?_
 refine W_cond rfl ?_ ?_
 ·intro hc59
  try simp only [nrm] at hc59
  refine W_seq ?_
  refine W_drawK [2] 8 H (by kernel_rfl) rfl ?_; intro w60 H; have hd60 := PLe.refl G4
  refine RD_t 0 rfl (by kernel_rfl) rfl (fun _ hK => v_loadagg_B 0 hK Tryz.isAgg26 Tryz.sizeOf26 rfl rfl rfl rfl) ?_
  refine RD_t 1 rfl (by kernel_rfl) rfl (fun _ hK => v_move rfl) ?_
  refine RD_run [2] (by kernel_rfl) rfl (RDs.cons rfl ?_ RDs.nil)
  refine o_call Tryz.call45 rfl rfl (l91Path_c _ _ H.sub _ _ _ _ _ _ hbs (H.blkIs (k := 0) rfl).1 (H.blkIs (k := 0) rfl).2 (by omega) ) ?_
  rintro _ w61 ⟨G61, _, _, rfl, H61', ⟨p61, x61, hp61, rfl, hxs61, rfl⟩⟩
  have hbs := hbs.up H61'.le
  have hr1 := hr1.up H61'.le
  have hr1' := hr1'.up H61'.le
  have hd60 := hd60.trans H61'.le
  have H := H.borrow (k := 0) rfl H61'
  refine ⟨_, rfl, ?_⟩
  refine R_nil ?_
  refine N_DK (Kn.of' H hd60 (SubL.cons 2 rfl SubL.nil)) ?_
  refine RD_run [3] (by kernel_rfl) rfl (RDs.cons rfl ?_ RDs.nil)
  refine o_call Tryz.call126 rfl rfl (VolumeDrop_c _ _ H.sub _ u ⟨_, _, _, _, _, _, rfl, hr1, hr1'⟩ _ hxs61 ) ?_
  rintro _ w62 ⟨G62, _, _, g62, rfl, ⟨u62_0, u62_1, rfl, ⟨cs62, rfl, hchk62⟩, hr62_1⟩, hp62, hq62, hs62⟩
  have H := H.growO g62 hp62 hq62 hs62; obtain ⟨av62, cv62, rfl⟩ := H.accShape (k := 0) rfl
  have hbs := hbs.up g62.le
  have hr1 := hr1.up g62.le
  have hr1' := hr1'.up g62.le
  have hd60 := hd60.trans g62.le
  obtain ⟨a62_1, k62_1, rfl⟩ := hr62_1.shape; have hx_hr62_1 : _ ≤ 1099511627776 := hr62_1.lim
  refine ⟨_, rfl, ?_⟩
  refine R_nil ?_
  refine N_DK (Kn.of' H hd60 (SubL.cons 3 rfl SubL.nil)) ?_
  refine RD_t 4 rfl (by kernel_rfl) rfl (fun _ hK => v_extract rfl rfl) ?_
  refine RD_t 5 rfl (by kernel_rfl) rfl (fun _ hK => v_extract rfl rfl) ?_
  refine RD_run [6] (by kernel_rfl) rfl (RDs.cons rfl ?_ RDs.nil)
  refine o_store_B 2 H Tryz.sizeOf26 rfl rfl rfl rfl rfl rfl rfl rfl ?_; intro w63 H
  refine R_nil ?_
  refine N_DK (Kn.of' H hd60 (SubL.cons 3 rfl SubL.nil)) ?_
  refine RD_t 7 rfl (by kernel_rfl) rfl (fun _ hK => v_assign rfl) ?_
  refine RD_done (by kernel_rfl) ?_
  refine N_K ?_
  refine W_ret ?_
  refine N_B_ret ?_
  refine N_K_ret ?_
  refine ret_gen (rs := [.cell 4 26, .tmp 5]) (vs := [_, _]) Tryz.results73 ⟨⟨_, rfl, load_blk 2 H Tryz.isAgg26 Tryz.sizeOf26 rfl rfl rfl⟩, rfl, trivial⟩ ?_
  have H := H.del (k := 2) rfl
  have H := H.del (k := 2) rfl
  have H := H.toFront (k := 1) rfl
  have H := H.toFront (k := 1) rfl
  exact H.retM ⟨_, _, _, _, _, _, _, (by omega), rfl, hchk62, Sp.vol_len (fun u2 h2 => Sp.drop_valid h2), hr62_1, acc_1 rfl⟩
 intro hc59'
 try simp only [nrm] at hc59'
 refine W_skip ?_
 refine N_B ?_
 refine N_K ?_
 refine q2 ?_
 refine o_move rfl rfl ?_
 refine o_buildSlice H Tryz.underlying87 Tryz.sizeOf9 (fun w => ⟨_, Tryz.zeroValue9 w, rfl⟩) rfl rfl rfl rfl rfl rfl rfl ?_; intro b64 w64 hb64 H
 have H := H.blkAcc 1 (k := 0) (n := 5) rfl rfl (by decide)
 have hchk66 := ((((((Chk.nil (E := strE) (sz := 1) (G := G4)).snoc (show strE _ ([99] : Fw.Bs) [str [99]] from ⟨rfl, by decide⟩) rfl).snoc (show strE _ ([97, 47, 121] : Fw.Bs) [str [97, 47, 121]] from ⟨rfl, by decide⟩) rfl).snoc (show strE _ ([98, 47, 120] : Fw.Bs) [str [98, 47, 120]] from ⟨rfl, by decide⟩) rfl).snoc (show strE _ ([97, 47, 120, 47, 112] : Fw.Bs) [str [97, 47, 120, 47, 112]] from ⟨rfl, by decide⟩) rfl).snoc (show strE _ ([100] : Fw.Bs) [str [100]] from ⟨rfl, by decide⟩) rfl)
 obtain ⟨G67, H, hsg67, hsr67⟩ := H.shutM (k := 0) (j := 0) rfl rfl hchk66 (by first | assumption | (simp; done) | (simp; omega) | omega) (by first | assumption | (simp; done) | (simp; omega) | omega)
 have hbs := hbs.up hsg67
 have hr1 := hr1.up hsg67
 have hr1' := hr1'.up hsg67
 have hchk66 := hchk66.up hsg67
 refine o_call Tryz.call44 rfl rfl (of_c _ _ H.sub _ _ _ _ _ _ hbs (H.blkIs (k := 0) rfl).1 (H.blkIs (k := 0) rfl).2 (by omega) _ _ hsr67 (by first | decide | (simp; done) | (simp; omega))) ?_
 rintro _ w65 ⟨G65, _, _, rfl, H65', ⟨p65, x65, hp65, rfl, hxs65, rfl⟩⟩
 have hbs := hbs.up H65'.le
 have hr1 := hr1.up H65'.le
 have hr1' := hr1'.up H65'.le
 have hchk66 := hchk66.up H65'.le
 have hsr67 := hsr67.up H65'.le
 have H := H.borrow (k := 0) rfl H65'
 refine ⟨_, rfl, ?_⟩
 refine o_assign rfl rfl ?_
 refine q3 ?_
 refine W_seq ?_
 refine W_drawK [2] 9 H (by kernel_rfl) rfl ?_; intro w68 H; have hd68 := PLe.refl G65
 refine RD_t 0 rfl (by kernel_rfl) rfl (fun _ hK => v_loadagg_B 0 hK Tryz.isAgg26 Tryz.sizeOf26 rfl rfl rfl rfl) ?_
 refine RD_t 1 rfl (by kernel_rfl) rfl (fun _ hK => v_move rfl) ?_
 refine RD_t 2 rfl (by kernel_rfl) rfl (fun _ hK => v_move rfl) ?_
 refine RD_run [3] (by kernel_rfl) rfl (RDs.cons rfl ?_ RDs.nil)
 refine o_call Tryz.call29 rfl rfl (l91File_c _ _ H.sub _ _ _ _ _ _ hbs (H.blkIs (k := 0) rfl).1 (H.blkIs (k := 0) rfl).2 (by omega) ) ?_
 rintro _ w69 ⟨G69, _, _, rfl, H69', ⟨p69, x69, v69, c69, hp69, rfl, hchk69, hxl69, rfl⟩⟩
 have hbs := hbs.up H69'.le
 have hr1 := hr1.up H69'.le
 have hr1' := hr1'.up H69'.le
 have hchk66 := hchk66.up H69'.le
 have hsr67 := hsr67.up H69'.le
 have hd68 := hd68.trans H69'.le
 have H := H.borrow (k := 0) rfl H69'
 obtain ⟨av69, cv69, rfl⟩ := H.accShape (k := 0) rfl
 refine ⟨_, rfl, ?_⟩
 refine R_nil ?_
 refine N_DK (Kn.of' H hd68 (SubL.cons 3 rfl SubL.nil)) ?_
 refine RD_run [4] (by kernel_rfl) rfl (RDs.cons rfl ?_ RDs.nil)
 obtain ⟨G71, H, hsg71, hsr71⟩ := H.shutM (k := 0) (j := 0) rfl rfl hchk69 (by first | assumption | (simp; done) | (simp; omega) | omega) (by first | assumption | (simp; done) | (simp; omega) | omega)
 have hbs := hbs.up hsg71
 have hr1 := hr1.up hsg71
 have hr1' := hr1'.up hsg71
 have hchk66 := hchk66.up hsg71
 have hsr67 := hsr67.up hsg71
 have hchk69 := hchk69.up hsg71
 have hd68 := hd68.trans hsg71
 refine o_call Tryz.call9 rfl rfl (VolumeWrite_c _ _ H.sub _ u ⟨_, _, _, _, _, _, rfl, hr1, hr1'⟩ _ hxs65 _ _ hsr71 ) ?_
 rintro _ w70 ⟨G70, _, _, g70, rfl, ⟨u70_0, u70_1, rfl, ⟨cs70, rfl, hchk70⟩, hr70_1⟩, hp70, hq70, hs70⟩
 have H := H.growO g70 hp70 hq70 hs70; obtain ⟨av70, cv70, rfl⟩ := H.accShape (k := 0) rfl
 have hbs := hbs.up g70.le
 have hr1 := hr1.up g70.le
 have hr1' := hr1'.up g70.le
 have hchk66 := hchk66.up g70.le
 have hsr67 := hsr67.up g70.le
 have hchk69 := hchk69.up g70.le
 have hsr71 := hsr71.up g70.le
 have hd68 := hd68.trans g70.le
 obtain ⟨a70_1, k70_1, rfl⟩ := hr70_1.shape; have hx_hr70_1 : _ ≤ 1099511627776 := hr70_1.lim
 refine ⟨_, rfl, ?_⟩
 refine R_nil ?_
 refine N_DK (Kn.of' H hd68 (SubL.cons 3 rfl SubL.nil)) ?_
 refine RD_t 5 rfl (by kernel_rfl) rfl (fun _ hK => v_extract rfl rfl) ?_
 refine RD_t 6 rfl (by kernel_rfl) rfl (fun _ hK => v_extract rfl rfl) ?_
 refine RD_run [7] (by kernel_rfl) rfl (RDs.cons rfl ?_ RDs.nil)
 refine o_store_B 2 H Tryz.sizeOf26 rfl rfl rfl rfl rfl rfl rfl rfl ?_; intro w72 H
 refine R_nil ?_
 refine N_DK (Kn.of' H hd68 (SubL.cons 3 rfl SubL.nil)) ?_
 refine RD_t 8 rfl (by kernel_rfl) rfl (fun _ hK => v_assign rfl) ?_
 refine RD_done (by kernel_rfl) ?_
 refine N_K ?_
 refine W_ret ?_
 refine ret_gen (rs := [.cell 4 26, .tmp 5]) (vs := [_, _]) Tryz.results73 ⟨⟨_, rfl, load_blk 2 H Tryz.isAgg26 Tryz.sizeOf26 rfl rfl rfl⟩, rfl, trivial⟩ ?_
 have H := H.del (k := 2) rfl
 have H := H.del (k := 2) rfl
 have H := H.toFront (k := 1) rfl
 have H := H.toFront (k := 1) rfl
 exact H.retM ⟨_, _, _, _, _, _, _, (by omega), rfl, hchk70, Sp.vol_len (fun u2 h2 => Sp.vwrite_valid h2), hr70_1, acc_1 rfl⟩
end Go.Proofs.Tst

namespace Fw
open Go
def R1 (v v' : Value) : Prop := v' = v ∨ ∃ p q, v = .int .i64 p ∧ v' = .int .i64 q ∧ inI q
def GRel (G G' : PH) : Prop := ∀ b o v, PCell G b o v → ∃ v', PCell G' b o v' ∧ R1 v v'
def RL : List Value → List Value → Prop
  | [], [] => True
  | v :: r, v' :: r' => R1 v v' ∧ RL r r'
  | _, _ => False
theorem RL.len : ∀ {a b : List Value}, RL a b → b.length = a.length
  | [], [], _ => rfl
  | _ :: _, _ :: _, h => by simp [RL.len h.2]
  | [], _ :: _, h => h.elim
  | _ :: _, [], h => h.elim
theorem prow_rel {G G' : PH} (h : GRel G G') : ∀ (cs : List Value) (b o : Nat), PRow G b o cs → ∃ cs', PRow G' b o cs' ∧ RL cs cs'
  | [], b, o, _ => ⟨[], by intro j v h; simp at h, trivial⟩
  | c :: r, b, o, hr => by
    obtain ⟨c', h1, h2⟩ := h b o c (by simpa using hr 0 c rfl)
    obtain ⟨r', h3, h4⟩ := prow_rel h r b (o + 1) (fun j v hv => by
      have := hr (j + 1) v (by simpa using hv)
      rwa [show o + 1 + j = o + (j + 1) by omega])
    refine ⟨c' :: r', fun j v hv => ?_, h2, h4⟩
    cases j with
    | zero => simp at hv; subst hv; simpa using h1
    | succ j =>
      have := h3 j v (by simpa using hv)
      rwa [show o + (j + 1) = o + 1 + j by omega]
class StE {α : Type} (E : PH → α → List Value → Prop) : Prop where
  st : ∀ {G G' : PH} {x : α} {cs cs' : List Value}, GRel G G' → RL cs cs' → E G x cs → ∃ x', E G' x' cs'
theorem RdS.st {α : Type} {lim : Nat} {E : PH → α → List Value → Prop} [StE E] {sz : Nat} {G G' : PH} {v : Value} {xs : List α} (hg : GRel G G') (h : RdS lim E sz G v xs) : ∃ xs', xs'.length = xs.length ∧ RdS lim E sz G' v xs' := by
  obtain ⟨a, c, rfl, h2, h3, h4⟩ := h
  rcases h4 with rfl | ⟨b, o, rfl, h5⟩
  · exact ⟨[], rfl, a, c, rfl, h2, h3, .inl rfl⟩
  · have key : ∀ n, n ≤ xs.length → ∃ xs' : List α, xs'.length = n ∧ ∀ i x, xs'[i]? = some x → ∃ cs, cs.length = sz ∧ E G' x cs ∧ PRow G' b (o + i * sz) cs := by
      intro n
      induction n with
      | zero => intro _; exact ⟨[], rfl, by simp⟩
      | succ n ih =>
        intro hn
        obtain ⟨xs', k1, k2⟩ := ih (by omega)
        obtain ⟨cs, c1, c2, c3⟩ := h5 n xs[n] (by simp)
        obtain ⟨cs', d1, d2⟩ := prow_rel hg cs _ _ c3
        obtain ⟨x', hx'⟩ := StE.st hg d2 c2
        refine ⟨xs' ++ [x'], by simp [k1], fun i x hx => ?_⟩
        by_cases hi : i < n
        · rw [List.getElem?_append_left (by omega)] at hx
          exact k2 i x hx
        · rw [List.getElem?_append_right (by omega)] at hx
          have : i = n := by
            have := (List.getElem?_eq_some_iff.1 hx).1
            simp at this
            omega
          subst this
          simp [k1] at hx
          subst hx
          exact ⟨cs', by rw [d2.len]; exact c1, hx', d1⟩
    obtain ⟨xs', k1, k2⟩ := key xs.length (Nat.le_refl _)
    exact ⟨xs', k1, some ⟨b, o, none⟩, c, by rw [k1], by omega, by omega, .inr ⟨b, o, rfl, k2⟩⟩
theorem r1_int {p : Int} {v' : Value} (h : R1 (.int .i64 p) v') (hp : inI p) : ∃ q, v' = .int .i64 q ∧ inI q := by
  rcases h with rfl | ⟨_, q, _, rfl, hq⟩
  · exact ⟨p, rfl, hp⟩
  · exact ⟨q, rfl, hq⟩
theorem r1_slice {a : Option Addr} {m c : Nat} {v' : Value} (h : R1 (.slice a m c) v') : v' = .slice a m c := by
  rcases h with rfl | ⟨_, _, h, _⟩
  · rfl
  · cases h
theorem r1_str {s : Bs} {v' : Value} (h : R1 (str s) v') : v' = str s := by
  rcases h with rfl | ⟨_, _, h, _⟩
  · rfl
  · cases h
theorem r1_bool {b : Bool} {v' : Value} (h : R1 (.bool b) v') : v' = .bool b := by
  rcases h with rfl | ⟨_, _, h, _⟩
  · rfl
  · cases h
theorem rl1 {a : Value} {cs' : List Value} (h : RL [a] cs') : ∃ u, cs' = [u] ∧ R1 a u := by
  rcases cs' with _ | ⟨u, _ | ⟨z, r⟩⟩
  · exact h.elim
  · exact ⟨u, rfl, h.1⟩
  · exact h.2.elim
theorem intE_st {G' : PH} {x : Int} {cs' : List Value} (hi : inI x) (hr : RL [.int .i64 x] cs') : ∃ x', intE G' x' cs' := by
  obtain ⟨u, rfl, k1⟩ := rl1 hr
  obtain ⟨q, rfl, hq⟩ := r1_int k1 hi
  exact ⟨q, rfl, hq⟩
instance : StE intE := ⟨fun {_ _ x cs cs'} _ hr h => by
  obtain ⟨h1, h2⟩ := h
  rw [h1] at hr
  exact intE_st h2 hr⟩
theorem rl3 {a b c : Value} {cs' : List Value} (h : RL [a, b, c] cs') : ∃ u v w, cs' = [u, v, w] ∧ R1 a u ∧ R1 b v ∧ R1 c w := by
  rcases cs' with _ | ⟨u, _ | ⟨v, _ | ⟨w, _ | ⟨z, r⟩⟩⟩⟩
  · exact h.elim
  · exact h.2.elim
  · exact h.2.2.elim
  · exact ⟨u, v, w, rfl, h.1, h.2.1, h.2.2.1⟩
  · exact h.2.2.2.elim
theorem heldE_st {G G' : PH} {x : BHeld} {a : Option Addr} {m c : Nat} {u v w : Value} (hg : GRel G G') (h1 : inI x.id) (h2 : RdI G (.slice a m c) x.bytes) (h3 : inI x.uses)
    (k1 : R1 (.int .i64 x.id) u) (k2 : R1 (.slice a m c) v) (k3 : R1 (.int .i64 x.uses) w) : ∃ x', heldE G' x' [u, v, w] := by
  obtain ⟨p, rfl, hp⟩ := r1_int k1 h1
  obtain ⟨q, rfl, hq⟩ := r1_int k3 h3
  have e := r1_slice k2
  subst e
  obtain ⟨ys, _, hy⟩ := RdS.st hg h2
  exact ⟨⟨p, ys, q⟩, a, m, c, rfl, hp, hy, hq⟩
instance : StE heldE := ⟨fun {_ _ x cs cs'} hg hr h => by
  obtain ⟨a, m, c, rfl, h1, h2, h3⟩ := h
  obtain ⟨u, v, w, rfl, k1, k2, k3⟩ := rl3 hr
  exact heldE_st hg h1 h2 h3 k1 k2 k3⟩
instance : StE itemE := ⟨fun {_ _ x cs cs'} hg hr h => by
  obtain ⟨a, m, c, rfl, h1, h2⟩ := h
  obtain ⟨u, v, w, rfl, k1, k2, k3⟩ := rl3 hr
  obtain rfl := r1_str k1
  obtain rfl := r1_bool k2
  obtain rfl := r1_slice k3
  obtain ⟨ys, _, hy⟩ := h2.st hg
  exact ⟨⟨x.path, x.dir, ys⟩, a, m, c, rfl, h1, hy⟩⟩
section
variable {w0 w : World} {G0 G : PH} {S : List Nat} {B : List Res}
theorem Hp.unkeep (H : Hp w0 G0 S w G B) (h0 : PSub G0 w0) {b : Nat} {l : List Value} {e : TypeId} (hb : G b = some (cl l e)) (hn : w0.heap.size ≤ b) : Hp w0 G0 S w (fun c => if c = b then none else G c) (blk b (cl l e) :: B) := by
  refine ⟨H.os, H.tape, H.output, H.size, H.ext, ?_, ?_, ?_, ?_, ?_⟩
  · intro c o hc
    by_cases e : c = b
    · simp [e] at hc
    · simp [e] at hc; exact H.sub c o hc
  · intro c o hc
    have : c ≠ b := fun e => by
      have := h0.lt hc
      omega
    simp [this, H.le c o hc]
  · intro c hc hnone
    by_cases e : c = b
    · simp [e]
    · simp [e, H.old c hc hnone]
  · intro r hr
    rcases List.mem_cons.1 hr with rfl | hr
    · exact ⟨H.sub _ _ hb, fun c hc => by simp [blk] at hc; subst hc; exact ⟨by simp, .inr hn⟩⟩
    · refine ⟨(H.own r hr).1, fun c hc => ⟨?_, ((H.own r hr).2 c hc).2⟩⟩
      by_cases e : c = b
      · simp [e]
      · simp [e, ((H.own r hr).2 c hc).1]
  · show ([b] ++ fps B).Nodup
    refine List.nodup_append.2 ⟨by simp, H.nd, ?_⟩
    intro a ha c hc e
    subst e
    simp at ha
    subst ha
    obtain ⟨r, hr, hb2⟩ := List.mem_flatMap.1 hc
    have := ((H.own r hr).2 a hb2).1
    rw [hb] at this
    cases this
end
section ops
variable {P : Program} {n : Nat} {ops : Array Oper} {Q : Post} {rest : List Oper} {L : Slots} {ds : List Deferred} {w w0 : World} {G0 : PH} {S : List Nat} {G : PH} {B : List Res}
variable {ty : TypeId} {ps : String} {af : Array Edge}
theorem o_store_P (H : Hp w0 G0 S w G B) (h0 : PSub G0 w0) {t : TypeId} {x y : Operand} {b o : Nat} {l : List Value} {e : TypeId} {p q : Int} (hS : ∀ w, (Go.sizeOf t).run P w = .ok 1 w) (hx : od L x = some (.pointer (some ⟨b, o, none⟩))) (hy : od L y = some (.int .i64 q)) (hq : inI q)
    (hb : G b = some (cl l e)) (hc : l[o]? = some (.int .i64 p)) (hn : w0.heap.size ≤ b) (hS2 : b ∉ S)
    (next : ∀ w' G', GRel G G' → Hp w0 G0 S w' G' B → R P n ops Q rest L ds w') : R P n ops Q (⟨none, .store t x y, ty, ps, af, none⟩ :: rest) L ds w := by
  have ho := (List.getElem?_eq_some_iff.1 hc).1
  have H1 := H.unkeep h0 hb hn
  obtain ⟨w', hr, H2⟩ := run_storeCells_blk (P := P) [.int .i64 q] 0 l w (o := o) H1 (k := 0) rfl (by simp; omega) (by simp [Value.oneCell'])
  have H2' : Hp w0 G0 S w' (fun c => if c = b then none else G c) (blk b (cl (setCs l (o + 0) [.int .i64 q]) e) :: B) := H2
  obtain ⟨H3, h3⟩ := H2'.keep (k := 0) rfl (by simpa [blk] using hS2)
  refine R_skip (w' := w') (fun a ha => ?_) (next w' _ ?_ H3)
  · have : (Value.int .i64 q).cells = #[.int .i64 q] := rfl
    simp [execOp, Instr.storeAt, ha.eval hx, ha.eval hy, Instr.sureAddr, storeVar, hS, this, hr]
  · intro c off v hv
    obtain ⟨C, e2, fz, h4, h5⟩ := hv
    by_cases ec : c = b
    · subst ec
      have h6 : PPlus (fun c' => if c' = c then none else G c') w' (blk c (cl (setCs l (o + 0) [.int .i64 q]) e)).fp c = some (cl (setCs l (o + 0) [.int .i64 q]) e) := h3
      rw [hb] at h4
      simp only [Option.some.injEq, Obj.cells.injEq] at h4
      obtain ⟨rfl, rfl, rfl⟩ := h4
      have h7 : l[off]? = some v := by simpa using h5
      by_cases eo : off = o
      · subst eo
        rw [hc] at h7
        cases h7
        refine ⟨.int .i64 q, ⟨_, _, _, h6, ?_⟩, .inr ⟨p, q, rfl, rfl, hq⟩⟩
        simp [setCs, setN_eq, ho]
      · refine ⟨v, ⟨_, _, _, h6, ?_⟩, .inl rfl⟩
        have : ¬ o = off := fun h => eo h.symm
        simp [setCs, setN_eq, this, h7]
    · refine ⟨v, ⟨C, e2, fz, PPlus.le _ _ _ _ _ (by simp [ec, h4]), h5⟩, .inl rfl⟩
end ops
def Mine (w0 : World) (G : PH) (v : Value) : Prop := ∀ b o m c, v = .slice (some ⟨b, o, none⟩) m c → w0.heap.size ≤ b ∧ ∃ l e, G b = some (cl l e)
theorem Mine.up {w0 : World} {G G' : PH} {v : Value} (h : Mine w0 G v) (hle : PLe G G') : Mine w0 G' v := fun b o m c e => by
  obtain ⟨h1, l, e, h2⟩ := h b o m c e
  exact ⟨h1, l, e, hle _ _ h2⟩
theorem Mine.nil {w0 : World} {G : PH} : Mine w0 G (.slice none 0 0) := fun b o m c e => by simp at e
theorem acc_fpb {e : TypeId} {sz : Nat} {v : Value} {n : Nat} {cells : List Value} {b o m c} (h : v = .slice (some ⟨b, o, none⟩) m c) : b ∈ (acc e sz v n cells).fp := by
  subst h
  exact List.mem_singleton.2 rfl
section
variable {w0 w : World} {G0 G : PH} {B : List Res}
theorem Hp.shutP {α : Type} {E : PH → α → List Value → Prop} [MonoE E] {b : Nat} {o : Obj} (H : Hp w0 G0 [b] w G B) {k j : Nat} {e : TypeId} {sz : Nat} {v : Value} {n : Nat} {cells : List Value} {xs : List α} (hk : nth B k = some (acc e sz v n cells)) (hj : nth (delN B k) j = some (blk b o))
    (hc : Chk E sz G cells xs) (hn : n = xs.length) (hl : xs.length ≤ 1099511627776) :
    ∃ G', Hp w0 G0 [b] w G' (delN B k) ∧ PLe G G' ∧ RdS LIM E sz G' v xs ∧ Mine w0 G' v := by
  have hnb : ∀ c, c ∈ (acc e sz v n cells).fp → c ∉ [b] := fun c hc hcb => by
    simp only [List.mem_singleton] at hcb
    subst hcb
    obtain ⟨B1, B2, h1, _, h3⟩ := fps_split hk
    have hpm : List.Perm B (acc e sz v n cells :: (B1 ++ B2)) := by rw [h1]; exact List.perm_middle
    have h2 : ((acc e sz v n cells).fp ++ fps (B1 ++ B2)).Nodup := (List.Perm.flatMap_right _ hpm).nodup_iff.1 H.nd
    rw [h3] at hj
    exact (List.nodup_append.1 h2).2.2 c hc c (fps_nth hj (by simp [blk])) rfl
  have hown := (H.own _ (by rw [nth_eq] at hk; exact List.mem_of_getElem? hk)).2
  obtain ⟨H', hp⟩ := H.keep hk hnb
  refine ⟨_, H', PPlus.le _ _ _, acc_rd hp (hc.up (PPlus.le _ _ _)) hn hl, ?_⟩
  obtain ⟨_, hp2⟩ := hp
  intro b' o' m' c' ev
  have hmem : b' ∈ (acc e sz v n cells).fp := acc_fpb ev
  refine ⟨(hown b' hmem).2.resolve_left (hnb b' hmem), ?_⟩
  rcases hp2 with ⟨h1, _⟩ | ⟨b2, cap, C, h1, h2, _⟩
  · rw [ev] at h1; cases h1
  · rw [ev] at h1
    cases h1
    exact ⟨C.toList, e, h2⟩
end
section ops
variable {P : Program} {n : Nat} {ops : Array Oper} {Q : Post} {rest : List Oper} {L : Slots} {ds : List Deferred} {w w0 : World} {G0 : PH} {S : List Nat} {G : PH} {B : List Res}
variable {ty : TypeId} {ps : String} {af : Array Edge}
theorem o_store_mine (H : Hp w0 G0 S w G B) (h0 : PSub G0 w0) {t : TypeId} {x y : Operand} {a : Option Addr} {m c b o off rb : Nat} {ob : Obj} {p q : Int} (hm : Mine w0 G (.slice a m c)) (ha : a = some ⟨b, o, none⟩) (hS : ∀ w, (Go.sizeOf t).run P w = .ok 1 w) (hx : od L x = some (.pointer (some ⟨b, off, none⟩))) (hy : od L y = some (.int .i64 q)) (hq : inI q)
    (hc : PCell G b off (.int .i64 p)) (hrb : w0.heap[rb]? = some ob) (hS2 : S = [rb])
    (next : ∀ w' G', GRel G G' → Hp w0 G0 S w' G' B → R P n ops Q rest L ds w') : R P n ops Q (⟨none, .store t x y, ty, ps, af, none⟩ :: rest) L ds w := by
  subst ha
  obtain ⟨h1, l, e, h2⟩ := hm b o m c rfl
  obtain ⟨C, e2, fz, h3, h4⟩ := hc
  rw [h2] at h3
  simp only [Option.some.injEq, Obj.cells.injEq] at h3
  obtain ⟨rfl, rfl, rfl⟩ := h3
  have hlt := (Array.getElem?_eq_some_iff.1 hrb).1
  exact o_store_P H h0 hS hx hy hq h2 (by simpa using h4) h1 (by subst hS2; simp; omega) next
end ops
theorem PLe.none {G : PH} : PLe (fun _ => none) G := fun _ _ h => by cases h
theorem W_drawN {P : Program} {n : Nat} {l : List Oper} {Q : Post} {L : Slots} {ds : List Deferred} {w : World} {id : Nat} {w0 : World} {G0 : PH} {SS : List Nat} {G : PH} {B : List Res} (ks : List Nat) (m : Nat) (H : Hp w0 G0 SS w G B) (hm : P.follows .mixedOrders = true) (hl : Nat.beq l.length m = true)
    (h : ∀ w', Hp w0 G0 SS w' G B → RD P n l Q (fun w => Kn w (fun _ => none) (sel ks B)) m (Array.replicate m false) L ds w') : W P n Q (.region id l.toArray true) L ds w :=
  W_draw _ m H hm hl (fun _ H' => Kn.of H' PLe.none (fun _ hr => sel_mem hr)) h
section ops
variable {P : Program} {n : Nat} {ops : Array Oper} {Q : Post} {rest : List Oper} {L : Slots} {ds : List Deferred} {w : World} {ty : TypeId} {ps : String} {af : Array Edge}
theorem o_beql_same {d : Nat} {x y : Operand} {t u : TypeId} {p : Bool} (hT : P.underlying t = some .bool) (hd : Nat.blt d n = true) (hx : od L x = some (.bool p)) (hy : od L y = some (.bool p))
    (next : R P n ops Q rest ((d, .bool true) :: L) ds w) : R P n ops Q (⟨some d, .binOp .eql t x y u, ty, ps, af, none⟩ :: rest) L ds w :=
  o_beql hT hd hx hy (by simpa using next)
end ops
end Fw
namespace Go.Proofs.Tst
open Go Fw
theorem l91Volume_c (w0 : World) (G0 : PH) (hG : PSub G0 w0) (rb : Nat) (ab : Option Addr) (mb kb : Nat) (bs : List UInt8) (p : Nat) (hbs : RdU G0 (.slice ab mb kb) bs) (hrb : w0.heap[rb]? = some (cl [.slice ab mb kb, .int .i64 (p : Int)] 114)) (hrn : G0 rb = none) (hp : p ≤ 10000000)  :
  Calls Tryz.prog 27 #[.pointer (some ⟨rb, 0, none⟩)] w0 (RetM w0 G0 [rb] (fun G val Bs => ∃ (p' : Nat) (v1 v2 : Value) (st : List BHeld) (tr : List BItem), p' ≤ p + 3000 ∧ val = .agg #[v1, v2] ∧ RdH G v1 st ∧ RdItems G v2 tr ∧ Bs = [blk rb (cl [.slice ab mb kb, .int .i64 (p' : Int)] 114)])) := by
 have hlimbs : bs.length ≤ 1099511627776 := hbs.lim; obtain rfl : mb = bs.length := hbs.len
 have H := Hp.initM hG hrb hrn
 refine calls_of_W (l := [.pointer (some ⟨rb, 0, none⟩)]) Tryz.func27 rfl Tryz.ntmps27 rfl ?_
 refine q2 ?_
 refine o_alloc H Tryz.zeroValue26 rfl rfl ?_; intro b1 w1 hb1 H
 refine q1 ?_
 refine o_build bf26 rfl rfl rfl ?_
 refine o_alloc H Tryz.zeroValue26 rfl rfl ?_; intro b2 w2 hb2 H
 refine o_store_B 0 H Tryz.sizeOf26 rfl rfl rfl rfl rfl rfl rfl rfl ?_; intro w3 H
 refine q1 ?_
 refine o_move rfl rfl ?_
 refine o_call Tryz.call43 rfl rfl (pick_c _ _ H.sub _ _ _ _ _ _ hbs (H.blkIs (k := 2) rfl).1 (H.blkIs (k := 2) rfl).2 (by omega) _ ⟨by omega, by omega⟩ ) ?_
 rintro _ w4 ⟨G4, _, _, rfl, H4', ⟨p4, x4, hp4, rfl, hxb4, rfl⟩⟩
 have hbs := hbs.up H4'.le
 have H := H.borrow (k := 2) rfl H4'
 refine ⟨_, rfl, ?_⟩
 refine o_add rfl rfl rfl ⟨by omega, by omega⟩ ?_
 refine o_assign rfl rfl ?_
 refine q3 ?_
 refine W_seq ?_
 refine q2 ?_
 refine o_assign rfl rfl ?_
 refine q3 ?_
 refine W_block ?_
 obtain ⟨ln6, hln6, H⟩ := H.name (k := 2) rfl
 refine W_loop (hf := (Sub.cons (t := 0) rfl (Sub.cons (t := 2) rfl (Sub.cons (t := 3) rfl (Sub.cons (t := 4) rfl Sub.nil))))) (J := fun M w m => ∃ (k : Nat) (va vb : Value) (st : List BHeld) (tr : List BItem) (pp : Nat) (G : PH), M = [(5, .int .i64 (k : Int))] ∧ PLe G4 G ∧ Hp w0 G0 [rb] w G [blk rb (cl [.slice ab bs.length kb, .int .i64 (pp : Int)] 114), blk b2 (cl [va, vb] 26), blk b1 (cl ln6 26)] ∧ (k ≤ 8 ∧ pp ≤ p + 100 + 201 * k ∧ RdH G va st ∧ RdItems G vb tr ∧ Mine w0 G va) ∧ m = (8 - k)) (h0 := ⟨0, .slice none 0 0, .slice none 0 0, [], [], p4, _, rfl, PLe.refl _, H, ?inv, rfl⟩) (hM := ?hM) (round := ?round)
 case hM => (repeat (first | exact Sub.nil | refine Sub.cons rfl ?_))
 case inv => exact ⟨by omega, by omega, RdS.nil _ _ _, RdS.nil _ _ _, Mine.nil⟩
 case round =>
  rintro _ w7 _ ⟨k, va, vb, st, tr, pp, G7, rfl, hle7, H, hinv7, rfl⟩
  subst hln6
  have hbs := hbs.up hle7
  obtain ⟨hk, hpp, hst, htr, hmine⟩ := hinv7; obtain ⟨sa, sk, rfl⟩ := hst.shape; obtain ⟨ta, tk, rfl⟩ := htr.shape; have hlst : _ ≤ 1099511627776 := hst.lim; have hltr : _ ≤ 1099511627776 := htr.lim
  refine W_seq ?_
  refine q2 ?_
  refine o_move rfl rfl ?_
  refine o_move rfl rfl ?_
  refine o_lss rfl rfl rfl ?_
  refine q3 ?_
  refine W_cond rfl ?_ ?_
  ·intro hc8
   try simp only [nrm] at hc8
   refine W_skip ?_
   refine N_K ?_
   refine W_seq ?_
   refine W_block ?_
   refine q2 ?_
   refine o_move rfl rfl ?_
   refine o_loadagg_B 1 H Tryz.isAgg26 Tryz.sizeOf26 rfl rfl rfl rfl rfl ?_
   refine o_call Tryz.call73 rfl rfl (l91Step_c _ _ H.sub _ _ _ _ _ _ hbs (H.blkIs (k := 0) rfl).1 (H.blkIs (k := 0) rfl).2 (by omega) _ ⟨st, tr⟩ ⟨_, _, _, _, _, _, rfl, hst, htr⟩ ) ?_
   rintro _ w9 ⟨G9, _, _, rfl, H9', ⟨p9, v19, v29, st9, tr9, b9, c9, hp9, rfl, hchk9, hsl9, htr9, rfl⟩⟩
   have hbs := hbs.up H9'.le
   have hst := hst.up H9'.le
   have htr := htr.up H9'.le
   have hmine := hmine.up H9'.le
   have hle7 := hle7.trans H9'.le
   have H := H.borrow (k := 0) rfl H9'
   obtain ⟨av9, cv9, rfl⟩ := H.accShape (k := 0) rfl
   obtain ⟨ta9, tc9, rfl⟩ := htr9.shape; have hx_htr9 : _ ≤ 1099511627776 := htr9.lim
   refine ⟨_, rfl, ?_⟩
   refine o_move rfl rfl ?_
   refine o_extract rfl rfl rfl ?_
   refine o_extract rfl rfl rfl ?_
   refine o_alloc H Tryz.zeroValue26 rfl rfl ?_; intro b10 w10 hb10 H
   refine o_store_B 0 H Tryz.sizeOf26 rfl rfl rfl rfl rfl rfl rfl rfl ?_; intro w11 H
   refine o_assign rfl rfl ?_
   refine q1 ?_
   refine o_move rfl rfl ?_
   refine q3 ?_
   refine W_cond rfl ?_ ?_
   ·intro hc12
    try simp only [nrm] at hc12
    refine W_region ?_
    refine o_loadagg_B 0 H Tryz.isAgg26 Tryz.sizeOf26 rfl rfl rfl rfl rfl ?_
    refine o_store_B 3 H Tryz.sizeOf26 rfl rfl rfl rfl rfl rfl rfl rfl ?_; intro w13 H
    refine R_nil ?_
    refine N_B ?_
    refine N_K ?_
    refine W_region ?_
    refine o_move rfl rfl ?_
    refine o_add rfl rfl rfl ⟨by omega, by omega⟩ ?_
    refine o_assign rfl rfl ?_
    refine R_nil ?_
    obtain ⟨G15, H, hsg15, hst15, hmine15⟩ := H.shutP (k := 1) (j := 1) rfl rfl hchk9 (by first | assumption | rfl | (simp; done) | (simp; omega) | omega) (by omega)
    have hbs := hbs.up hsg15
    have hst := hst.up hsg15
    have htr := htr.up hsg15
    have hmine := hmine.up hsg15
    have hchk9 := hchk9.up hsg15
    have htr9 := htr9.up hsg15
    have hle7 := hle7.trans hsg15
    have H := H.del (k := 0) rfl
    refine N_LP (hJ := ⟨k + 1, _, _, st9, tr9, p9, _, rfl, hle7, H, ?inv, rfl⟩) (hM := ?hM) (hf := ?hf) (hm := ?hm)
    case hM => (repeat (first | exact Sub.nil | refine Sub.cons rfl ?_))
    case hf => (repeat (first | exact Sub.nil | refine Sub.cons rfl ?_))
    case hm => omega
    case inv => exact ⟨by omega, by omega, hst15, htr9, hmine15⟩
   intro hc12'
   try simp only [nrm] at hc12'
   refine W_skip ?_
   refine N_B ?_
   refine N_K ?_
   refine W_region ?_
   refine o_move rfl rfl ?_
   refine o_add rfl rfl rfl ⟨by omega, by omega⟩ ?_
   refine o_assign rfl rfl ?_
   refine R_nil ?_
   have H := H.del (k := 0) rfl
   have H := H.del (k := 0) rfl
   refine N_LP (hJ := ⟨k + 1, _, _, st, tr, p9, _, rfl, hle7, H, ?inv, rfl⟩) (hM := ?hM) (hf := ?hf) (hm := ?hm)
   case hM => (repeat (first | exact Sub.nil | refine Sub.cons rfl ?_))
   case hf => (repeat (first | exact Sub.nil | refine Sub.cons rfl ?_))
   case hm => omega
   case inv => exact ⟨by omega, by omega, hst, htr, hmine⟩
  intro hc8'
  try simp only [nrm] at hc8'
  refine W_exit ?_
  refine N_K_exit ?_
  refine N_LP_exit ?_
  refine N_B_same ?_
  refine N_K ?_
  refine W_seq ?_
  refine q2 ?_
  refine o_fieldAddr 0 Tryz.runUnderlying26 rfl Tryz.sizeOf23 rfl rfl rfl ?_
  refine o_load_B 1 H Tryz.isAgg23 rfl rfl rfl rfl ?_
  refine o_len_slice Tryz.underlying23 rfl rfl ?_
  refine o_gtr rfl rfl rfl ?_
  refine o_move rfl rfl ?_
  refine R_case (t := 29) rfl ?_ ?_
  ·intro hc17
   try simp only [nrm] at hc17
   refine R_guard (yl rfl rfl) ?_
   refine o_move rfl rfl ?_
   refine R_guard (yl rfl rfl) ?_
   refine o_call Tryz.call43 rfl rfl (pick_c _ _ H.sub _ _ _ _ _ _ hbs (H.blkIs (k := 0) rfl).1 (H.blkIs (k := 0) rfl).2 (by omega) _ ⟨by omega, by omega⟩ ) ?_
   rintro _ w18 ⟨G18, _, _, rfl, H18', ⟨p18, x18, hp18, rfl, hxb18, rfl⟩⟩
   have hbs := hbs.up H18'.le
   have hst := hst.up H18'.le
   have htr := htr.up H18'.le
   have hmine := hmine.up H18'.le
   have hle7 := hle7.trans H18'.le
   have H := H.borrow (k := 0) rfl H18'
   refine ⟨_, rfl, ?_⟩
   refine R_guard (yl rfl rfl) ?_
   refine o_eql rfl rfl rfl ?_
   refine o_pick_t rfl rfl rfl ?_
   refine q3 ?_
   refine W_cond rfl ?_ ?_
   ·intro hc19
    try simp only [nrm] at hc19
    refine W_drawN [1, 2] 10 H (by kernel_rfl) rfl ?_; intro w20 H; have hd20 := (PLe.none : PLe _ G18)
    refine RD_t 0 rfl (by kernel_rfl) rfl (fun _ hK => v_fieldAddr 0 Tryz.runUnderlying26 rfl Tryz.sizeOf23 rfl rfl) ?_
    refine RD_t 1 rfl (by kernel_rfl) rfl (fun _ hK => v_load_B 0 hK Tryz.isAgg23 rfl rfl rfl) ?_
    refine RD_t 2 rfl (by kernel_rfl) rfl (fun _ hK => v_move rfl) ?_
    refine RD_t 3 rfl (by kernel_rfl) rfl (fun _ hK => v_fieldAddr 0 Tryz.runUnderlying26 rfl Tryz.sizeOf23 rfl rfl) ?_
    refine RD_t 4 rfl (by kernel_rfl) rfl (fun _ hK => v_load_B 0 hK Tryz.isAgg23 rfl rfl rfl) ?_
    refine RD_t 5 rfl (by kernel_rfl) rfl (fun _ hK => v_len_slice Tryz.underlying23 rfl) ?_
    refine RD_run [6] (by kernel_rfl) rfl (RDs.cons rfl ?_ RDs.nil)
    refine o_call Tryz.call43 rfl rfl (pick_c _ _ H.sub _ _ _ _ _ _ hbs (H.blkIs (k := 0) rfl).1 (H.blkIs (k := 0) rfl).2 (by omega) _ ⟨by omega, by omega⟩ ) ?_
    rintro _ w21 ⟨G21, _, _, rfl, H21', ⟨p21, x21, hp21, rfl, hxb21, rfl⟩⟩
    have hbs := hbs.up H21'.le
    have hst := hst.up H21'.le
    have htr := htr.up H21'.le
    have hmine := hmine.up H21'.le
    have hle7 := hle7.trans H21'.le
    have hd20 := hd20.trans H21'.le
    have H := H.borrow (k := 0) rfl H21'
    refine ⟨_, rfl, ?_⟩
    refine R_nil ?_
    refine N_DK (Kn.of' H hd20 (SubL.cons 1 rfl (SubL.cons 2 rfl SubL.nil))) ?_
    have hl22 := hst.len
    obtain ⟨b22, o22, z22, q22, ha22, hz22, hq22, hE22, hrow22, _⟩ := hst.at (i := x21) (by omega)
    clear hq22
    obtain ⟨a22, m22, c22, rfl, hi22, hr22, hj22⟩ := hE22; have hn_hr22 := hr22.len; have hx_hr22 : _ ≤ 1099511627776 := hr22.lim
    refine RD_t 7 rfl (by kernel_rfl) rfl (fun _ hK => v_index_P (i := x21) ha22 Tryz.underlying23 Tryz.sizeOf117 rfl rfl rfl (by omega)) ?_
    refine RD_t 8 rfl (by kernel_rfl) rfl (fun _ hK => v_fieldAddr 2 Tryz.runUnderlying117 rfl Tryz.sizeOf3 rfl rfl) ?_
    refine RD_run [9] (by kernel_rfl) rfl (RDs.cons rfl ?_ RDs.nil)
    refine o_store_mine H hG hmine ha22 Tryz.sizeOf3 rfl rfl ⟨by omega, by omega⟩ (hrow22 2 _ rfl) hrb rfl ?_; intro w23 G23 hgr23 H
    obtain ⟨st2, _, hst2⟩ := RdS.st hgr23 hst; obtain ⟨tr2, _, htr2⟩ := RdS.st hgr23 htr
    have hd20 := (PLe.none : PLe (fun _ => none) G23)
    refine R_nil ?_
    refine N_DK (Kn.of' H hd20 (SubL.cons 1 rfl (SubL.cons 2 rfl SubL.nil))) ?_
    refine RD_done (by kernel_rfl) ?_
    refine N_K ?_
    refine q2 ?_
    refine o_loadagg_B 1 H Tryz.isAgg26 Tryz.sizeOf26 rfl rfl rfl rfl rfl ?_
    refine o_store_B 2 H Tryz.sizeOf26 rfl rfl rfl rfl rfl rfl rfl rfl ?_; intro w24 H
    refine q3 ?_
    refine W_ret ?_
    refine ret_gen (rs := [.cell 2 26]) (vs := [_]) Tryz.results27 ⟨⟨_, rfl, load_blk 2 H Tryz.isAgg26 Tryz.sizeOf26 rfl rfl rfl⟩, trivial⟩ ?_
    have H := H.del (k := 1) rfl
    have H := H.del (k := 1) rfl
    exact H.retM ⟨_, _, _, _, _, (by omega), rfl, hst2, htr2, rfl⟩
   intro hc19'
   try simp only [nrm] at hc19'
   refine W_skip ?_
   refine N_K ?_
   refine q2 ?_
   refine o_loadagg_B 1 H Tryz.isAgg26 Tryz.sizeOf26 rfl rfl rfl rfl rfl ?_
   refine o_store_B 2 H Tryz.sizeOf26 rfl rfl rfl rfl rfl rfl rfl rfl ?_; intro w25 H
   refine q3 ?_
   refine W_ret ?_
   refine ret_gen (rs := [.cell 2 26]) (vs := [_]) Tryz.results27 ⟨⟨_, rfl, load_blk 2 H Tryz.isAgg26 Tryz.sizeOf26 rfl rfl rfl⟩, trivial⟩ ?_
   have H := H.del (k := 1) rfl
   have H := H.del (k := 1) rfl
   exact H.retM ⟨_, _, _, _, _, (by omega), rfl, hst, htr, rfl⟩
  intro hc17'
  try simp only [nrm] at hc17'
  refine R_pass rfl (yl_ne rfl rfl rfl) ?_
  refine R_pass rfl (yl_ne rfl rfl rfl) ?_
  refine R_pass rfl (yl_ne rfl rfl rfl) ?_
  refine o_pick_f rfl rfl rfl ?_
  refine q3 ?_
  refine W_false rfl ?_
  refine W_skip ?_
  refine N_K ?_
  refine q2 ?_
  refine o_loadagg_B 1 H Tryz.isAgg26 Tryz.sizeOf26 rfl rfl rfl rfl rfl ?_
  refine o_store_B 2 H Tryz.sizeOf26 rfl rfl rfl rfl rfl rfl rfl rfl ?_; intro w26 H
  refine q3 ?_
  refine W_ret ?_
  refine ret_gen (rs := [.cell 2 26]) (vs := [_]) Tryz.results27 ⟨⟨_, rfl, load_blk 2 H Tryz.isAgg26 Tryz.sizeOf26 rfl rfl rfl⟩, trivial⟩ ?_
  have H := H.del (k := 1) rfl
  have H := H.del (k := 1) rfl
  exact H.retM ⟨_, _, _, _, _, (by omega), rfl, hst, htr, rfl⟩
end Go.Proofs.Tst

namespace Sp
open Fw
open Nd
theorem put_at {l t : List BItem} {x : BItem} (h : TreePut l x = some t) : ∃ i, atI t x.path = some i ∧ t[i]? = some x := by
  obtain ⟨_, vt, _, hp⟩ := put_perm2 h
  exact (uniq_at vt.asc (p := x.path)).2.1 _ (hp.mem_iff.2 (by simp)) rfl
theorem put_drop {l t : List BItem} {x : BItem} (h : TreePut l x = some t) (hn : ∀ y, y ∈ l → y.path ≠ x.path) : TreeDrop t x.path = some l := by
  obtain ⟨i, h1, h2⟩ := put_at h
  obtain ⟨vl, vt, _, hp⟩ := put_perm2 h
  rw [filter_none hn] at hp
  have e : t = t.take i ++ x :: t.drop (i + 1) := by
    have := List.take_append_drop i t
    rw [drop_at h2] at this
    exact this.symm
  have hp2 : (x :: (t.take i ++ t.drop (i + 1))).Perm (x :: l) := by
    refine List.Perm.trans ?_ hp
    exact (List.perm_middle.symm).trans (List.Perm.of_eq e.symm)
  have hp3 := hp2.cons_inv
  have hsub : (t.take i ++ t.drop (i + 1)).Sublist t := by
    conv => rhs; rw [e]
    exact List.Sublist.append_left (List.sublist_cons_self _ _) _
  have he : t.take i ++ t.drop (i + 1) = l := hp3.eq_of_pairwise (fun a b _ _ h1 h2 => by
    have := lt_asymm h1
    simp only [ltp] at h2
    rw [this] at h2
    cases h2) (vt.asc.sublist hsub) vl.asc
  simp [TreeDrop, tvalid_iff.2 vt, h1, he, tvalid_iff.2 vl]
theorem put_newD {l t : List BItem} {x : BItem} (h : TreePut l x = some t) (hd : x.dir = true) : ∀ y, y ∈ l → y.path ≠ x.path := fun y hy e => by
  have := put_dir_no (put_perm2 h).1.asc hy e (by simp [hd])
  rw [this] at h
  cases h
section
variable {v u : BVol} {p : Bs} {b : List Int}
theorem dir_get (h : VolumeDir v p = some u) : VolumeValid v = true ∧ ∃ t, TreePut v.tree ⟨p, true, []⟩ = some t ∧ u = ⟨v.store, t⟩ := by
  unfold VolumeDir at h
  split at h
  · rename_i hc
    refine ⟨hc, ?_⟩
    cases e : TreePut v.tree ⟨p, true, []⟩ with
    | none => rw [e] at h; cases h
    | some t => rw [e] at h; cases h; exact ⟨t, rfl, rfl⟩
  · cases h
theorem dir_noread (h : VolumeDir v p = some u) : VolumeRead u p = none := by
  have hv := dir_valid h
  obtain ⟨_, t, ht, rfl⟩ := dir_get h
  obtain ⟨i, h1, h2⟩ := put_at ht
  simp only [VolumeRead, hv, if_true, readF, l11Ids, h1, h2]
theorem dir_nowrite (h : VolumeDir v p = some u) (b : List Int) : VolumeWrite u p b = none := by
  obtain ⟨_, t, ht, rfl⟩ := dir_get h
  obtain ⟨_, vt, _, hp⟩ := put_perm2 ht
  unfold VolumeWrite
  split
  · unfold l11Write
    split
    · rfl
    · rename_i r _
      have : TreePut t ⟨p, false, r.2⟩ = none := put_dir_no vt.asc (y := ⟨p, true, []⟩) (hp.mem_iff.2 (by simp)) rfl rfl
      simp [this]
  · rfl
theorem dir_drop (h : VolumeDir v p = some u) : VolumeDrop u p = some v := by
  have hv := dir_valid h
  obtain ⟨hvv, t, ht, rfl⟩ := dir_get h
  obtain ⟨i, h1, h2⟩ := put_at ht
  have h3 := put_drop ht (put_newD ht rfl)
  have h4 := free_nil (Hol.of_vol hvv).vh
  simp only at h1 h3
  simp only [VolumeDrop, hv, if_true, h3, h1, h2, Option.bind_some, Option.map_some, Option.getD_some, h4]
end
end Sp
namespace Go.Proofs.Tst
open Go Fw
theorem DrawVolumeDir_c (w0 : World) (G0 : PH) (hG : PSub G0 w0) (vcode : Value) (code : List (UInt8)) (hcode : RdU G0 vcode code)  :
  Calls Tryz.prog 16 #[vcode] w0 (RetP w0 G0 (fun G v => ∃ (cs : List Value) (x : BVol) (path : Bs), v = .tuple #[.agg cs.toArray, str path] ∧ volE G x cs ∧ path.length ≤ 16777216)) := by
 obtain ⟨acode, kcode, rfl⟩ := hcode.shape
 have hlimcode : code.length ≤ 1099511627776 := hcode.lim
 have H := Hp.init hG
 refine calls_of_W (l := [.slice acode code.length kcode]) Tryz.func16 rfl Tryz.ntmps16 rfl ?_
 refine q2 ?_
 refine o_alloc H Tryz.zeroValue26 rfl rfl ?_; intro b1 w1 hb1 H
 refine o_assign rfl rfl ?_
 refine q1 ?_
 refine o_move rfl rfl ?_
 refine o_call Tryz.call26 rfl rfl (l6Open_c _ _ H.sub _ _ hcode ) ?_
 rintro _ w2 ⟨G2, _, _, g2, rfl, ⟨rb2, ab2, mb2, kb2, bs2, rfl, rfl, hbs2⟩, hp2, hq2, hs2⟩
 have H := H.growO g2 hp2 hq2 hs2
 have hcode := hcode.up g2.le
 refine ⟨_, rfl, ?_⟩
 refine o_assign rfl rfl ?_
 refine q1 ?_
 refine o_move rfl rfl ?_
 refine o_call Tryz.call27 rfl rfl (l91Volume_c _ _ H.sub _ _ _ _ _ _ hbs2 (H.blkIs (k := 0) rfl).1 (H.blkIs (k := 0) rfl).2 (by omega) ) ?_
 rintro _ w3 ⟨G3, _, _, rfl, H3', ⟨p3, v13, v23, st3, tr3, hp3, rfl, hst3, htr3, rfl⟩⟩
 have hcode := hcode.up H3'.le
 have hbs2 := hbs2.up H3'.le
 have H := H.borrow (k := 0) rfl H3'
 obtain ⟨sa3, sc3, rfl⟩ := hst3.shape; obtain ⟨ta3, tc3, rfl⟩ := htr3.shape; have hx_hst3 : _ ≤ 1099511627776 := hst3.lim; have hx_htr3 : _ ≤ 1099511627776 := htr3.lim
 refine ⟨_, rfl, ?_⟩
 refine o_alloc H Tryz.zeroValue26 rfl rfl ?_; intro b4 w4 hb4 H
 refine o_store_B 0 H Tryz.sizeOf26 rfl rfl rfl rfl rfl rfl rfl rfl ?_; intro w5 H
 refine q3 ?_
 refine W_seq ?_
 refine q2 ?_
 refine o_move rfl rfl ?_
 refine o_call Tryz.call43 rfl rfl (pick_c _ _ H.sub _ _ _ _ _ _ hbs2 (H.blkIs (k := 1) rfl).1 (H.blkIs (k := 1) rfl).2 (by omega) _ ⟨by omega, by omega⟩ ) ?_
 rintro _ w6 ⟨G6, _, _, rfl, H6', ⟨p6, x6, hp6, rfl, hxb6, rfl⟩⟩
 have hcode := hcode.up H6'.le
 have hbs2 := hbs2.up H6'.le
 have hst3 := hst3.up H6'.le
 have htr3 := htr3.up H6'.le
 have H := H.borrow (k := 1) rfl H6'
 refine ⟨_, rfl, ?_⟩
 refine o_gtr rfl rfl rfl ?_
 refine q3 ?_
 refine W_cond rfl ?_ ?_
 ·intro hc7
  try simp only [nrm] at hc7
  refine W_seq ?_
  refine W_drawK [1] 6 H (by kernel_rfl) rfl ?_; intro w8 H; have hd8 := PLe.refl G6
  refine RD_t 0 rfl (by kernel_rfl) rfl (fun _ hK => v_loadagg_B 0 hK Tryz.isAgg26 Tryz.sizeOf26 rfl rfl rfl rfl) ?_
  refine RD_t 1 rfl (by kernel_rfl) rfl (fun _ hK => v_move rfl) ?_
  refine RD_run [2] (by kernel_rfl) rfl (RDs.cons rfl ?_ RDs.nil)
  refine o_buildSlice H Tryz.underlying87 Tryz.sizeOf9 (fun w => ⟨_, Tryz.zeroValue9 w, rfl⟩) rfl rfl rfl rfl rfl rfl rfl ?_; intro b9 w9 hb9 H
  refine R_nil ?_
  refine N_DK (Kn.of' H hd8 (SubL.cons 2 rfl SubL.nil)) ?_
  refine RD_run [3] (by kernel_rfl) rfl (RDs.cons rfl ?_ RDs.nil)
  have H := H.blkAcc 1 (k := 0) (n := 4) rfl rfl (by decide)
  have hchk11 := (((((Chk.nil (E := strE) (sz := 1) (G := G6)).snoc (show strE _ ([101] : Fw.Bs) [str [101]] from ⟨rfl, by decide⟩) rfl).snoc (show strE _ ([97, 47, 122] : Fw.Bs) [str [97, 47, 122]] from ⟨rfl, by decide⟩) rfl).snoc (show strE _ ([98, 47, 121] : Fw.Bs) [str [98, 47, 121]] from ⟨rfl, by decide⟩) rfl).snoc (show strE _ ([102] : Fw.Bs) [str [102]] from ⟨rfl, by decide⟩) rfl)
  obtain ⟨G12, H, hsg12, hsr12⟩ := H.shut' (k := 0) rfl hchk11 (by first | assumption | (simp; done) | (simp; omega) | omega) (by first | assumption | (simp; done) | (simp; omega) | omega)
  have hcode := hcode.up hsg12
  have hbs2 := hbs2.up hsg12
  have hst3 := hst3.up hsg12
  have htr3 := htr3.up hsg12
  have hchk11 := hchk11.up hsg12
  have hd8 := hd8.trans hsg12
  refine o_call Tryz.call44 rfl rfl (of_c _ _ H.sub _ _ _ _ _ _ hbs2 (H.blkIs (k := 0) rfl).1 (H.blkIs (k := 0) rfl).2 (by omega) _ _ hsr12 (by first | decide | (simp; done) | (simp; omega))) ?_
  rintro _ w10 ⟨G10, _, _, rfl, H10', ⟨p10, x10, hp10, rfl, hxs10, rfl⟩⟩
  have hcode := hcode.up H10'.le
  have hbs2 := hbs2.up H10'.le
  have hst3 := hst3.up H10'.le
  have htr3 := htr3.up H10'.le
  have hchk11 := hchk11.up H10'.le
  have hsr12 := hsr12.up H10'.le
  have hd8 := hd8.trans H10'.le
  have H := H.borrow (k := 0) rfl H10'
  refine ⟨_, rfl, ?_⟩
  refine R_nil ?_
  refine N_DK (Kn.of' H hd8 (SubL.cons 1 rfl SubL.nil)) ?_
  refine RD_run [4] (by kernel_rfl) rfl (RDs.cons rfl ?_ RDs.nil)
  refine o_store_B 2 H Tryz.sizeOf26 rfl rfl rfl rfl rfl rfl rfl rfl ?_; intro w13 H
  refine R_nil ?_
  refine N_DK (Kn.of' H hd8 (SubL.cons 1 rfl SubL.nil)) ?_
  refine RD_t 5 rfl (by kernel_rfl) rfl (fun _ hK => v_assign rfl) ?_
  refine RD_done (by kernel_rfl) ?_
  refine N_K ?_
  refine W_ret ?_
  refine N_K_ret ?_
  refine ret_gen (rs := [.cell 2 26, .tmp 3]) (vs := [_, _]) Tryz.results16 ⟨⟨_, rfl, load_blk 2 H Tryz.isAgg26 Tryz.sizeOf26 rfl rfl rfl⟩, rfl, trivial⟩ ?_
  have H := H.del (k := 0) rfl
  have H := H.del (k := 0) rfl
  have H := H.del (k := 0) rfl
  exact H.retP ⟨_, ⟨st3, tr3⟩, _, rfl, ⟨_, _, _, _, _, _, rfl, hst3, htr3⟩, hxs10⟩
 intro hc7'
 try simp only [nrm] at hc7'
 refine W_skip ?_
 refine N_K ?_
 refine W_seq ?_
 refine W_drawK [1] 5 H (by kernel_rfl) rfl ?_; intro w14 H; have hd14 := PLe.refl G6
 refine RD_t 0 rfl (by kernel_rfl) rfl (fun _ hK => v_loadagg_B 0 hK Tryz.isAgg26 Tryz.sizeOf26 rfl rfl rfl rfl) ?_
 refine RD_t 1 rfl (by kernel_rfl) rfl (fun _ hK => v_move rfl) ?_
 refine RD_run [2] (by kernel_rfl) rfl (RDs.cons rfl ?_ RDs.nil)
 refine o_call Tryz.call45 rfl rfl (l91Path_c _ _ H.sub _ _ _ _ _ _ hbs2 (H.blkIs (k := 0) rfl).1 (H.blkIs (k := 0) rfl).2 (by omega) ) ?_
 rintro _ w15 ⟨G15, _, _, rfl, H15', ⟨p15, x15, hp15, rfl, hxs15, rfl⟩⟩
 have hcode := hcode.up H15'.le
 have hbs2 := hbs2.up H15'.le
 have hst3 := hst3.up H15'.le
 have htr3 := htr3.up H15'.le
 have hd14 := hd14.trans H15'.le
 have H := H.borrow (k := 0) rfl H15'
 refine ⟨_, rfl, ?_⟩
 refine R_nil ?_
 refine N_DK (Kn.of' H hd14 (SubL.cons 1 rfl SubL.nil)) ?_
 refine RD_run [3] (by kernel_rfl) rfl (RDs.cons rfl ?_ RDs.nil)
 refine o_store_B 2 H Tryz.sizeOf26 rfl rfl rfl rfl rfl rfl rfl rfl ?_; intro w16 H
 refine R_nil ?_
 refine N_DK (Kn.of' H hd14 (SubL.cons 1 rfl SubL.nil)) ?_
 refine RD_t 4 rfl (by kernel_rfl) rfl (fun _ hK => v_assign rfl) ?_
 refine RD_done (by kernel_rfl) ?_
 refine N_K ?_
 refine W_ret ?_
 refine ret_gen (rs := [.cell 2 26, .tmp 3]) (vs := [_, _]) Tryz.results16 ⟨⟨_, rfl, load_blk 2 H Tryz.isAgg26 Tryz.sizeOf26 rfl rfl rfl⟩, rfl, trivial⟩ ?_
 have H := H.del (k := 0) rfl
 have H := H.del (k := 0) rfl
 have H := H.del (k := 0) rfl
 exact H.retP ⟨_, ⟨st3, tr3⟩, _, rfl, ⟨_, _, _, _, _, _, rfl, hst3, htr3⟩, hxs15⟩
end Go.Proofs.Tst

namespace Go.Proofs.Tst
open Go Fw
theorem VolumeDirP_c (w0 : World) (G0 : PH) (hG : PSub G0 w0) (cv : List Value) (v : BVol) (hv : volE G0 v cv) (path : Bs) (hpath : path.length ≤ 16777216) :
  Calls Tryz.prog 18 #[.agg cv.toArray, str path] w0 (RetP w0 G0 (fun G val => ∃ cs, val = .tuple #[.agg cs.toArray, .bool (Sp.VolumeDir v path).isSome] ∧ volE G ((Sp.VolumeDir v path).getD ⟨[], []⟩) cs)) := by
 refine (VolumeDir_c w0 G0 hG cv v hv path hpath).mono ?_
 rintro _ w' ⟨G, v', r, g, rfl, ⟨u, u1, rfl, ⟨cells, rfl, hchk⟩, h1⟩, hp, hq, hs⟩
 have H := (Hp.init hG).growO g hp hq hs
 have hb : (((Sp.VolumeDir v path).map (·.store)).getD []).length ≤ 16 := Sp.vol_len (fun u2 h2 => Sp.dir_valid h2)
 obtain ⟨G2, H2, hle, hr⟩ := H.shut' (k := 0) rfl hchk rfl (by omega)
 have e1 : ((Sp.VolumeDir v path).map (·.tree)).getD [] = ((Sp.VolumeDir v path).getD ⟨[], []⟩).tree := by cases Sp.VolumeDir v path <;> rfl
 have e3 : ((Sp.VolumeDir v path).map (·.store)).getD [] = ((Sp.VolumeDir v path).getD ⟨[], []⟩).store := by cases Sp.VolumeDir v path <;> rfl
 rw [e1] at h1; rw [e3] at hr
 obtain ⟨a1, c1, rfl⟩ := h1.shape
 obtain ⟨a3, c3, rfl⟩ := hr.shape
 exact H2.retP ⟨[_, _], rfl, _, _, _, _, _, _, rfl, hr, h1.up hle⟩
end Go.Proofs.Tst

namespace Go.Proofs.Tst
open Go Fw
end Go.Proofs.Tst

namespace Go.Proofs.Tst
open Go Fw
end Go.Proofs.Tst

namespace Go.Proofs.Tst
open Go Fw
end Go.Proofs.Tst

namespace Go.Proofs.Tst
open Go Fw
theorem vdrLaw_c (w0 : World) (G0 : PH) (hG : PSub G0 w0) (vcode : Value) (code : List (UInt8)) (hcode : RdU G0 vcode code)  :
  Calls Tryz.prog 5 #[vcode] w0 (Rets w0 (.bool true)) := by
 obtain ⟨acode, kcode, rfl⟩ := hcode.shape
 have hlimcode : code.length ≤ 1099511627776 := hcode.lim
 have H := Hp.init hG
 refine calls_of_W (l := [.slice acode code.length kcode]) Tryz.func5 rfl Tryz.ntmps5 rfl ?_
 refine q2 ?_
 refine o_assign rfl rfl ?_
 refine q3 ?_
 refine W_seq ?_
 refine q2 ?_
 refine o_move rfl rfl ?_
 refine o_len_slice Tryz.underlying22 rfl rfl ?_
 refine o_gtr rfl rfl rfl ?_
 refine q3 ?_
 refine W_cond rfl ?_ ?_
 ·intro hc1
  try simp only [nrm] at hc1
  refine q2 ?_
  refine o_assign rfl rfl ?_
  refine q3 ?_
  refine W_ret ?_
  refine N_K_ret ?_
  refine ret_gen (rs := [.tmp 2]) (vs := [_]) Tryz.results5 ⟨rfl, trivial⟩ ?_
  exact H.rets rfl
 intro hc1'
 try simp only [nrm] at hc1'
 refine W_skip ?_
 refine N_K ?_
 refine q2 ?_
 refine o_move rfl rfl ?_
 refine o_call Tryz.call16 rfl rfl (DrawVolumeDir_c _ _ H.sub _ _ hcode ) ?_
 rintro _ w2 ⟨G2, _, g2, rfl, ⟨cV, uV, uP, rfl, hV, hP⟩⟩
 have H := H.grow g2
 have hcode := hcode.up g2.le
 obtain ⟨a2, m2, c2, a2', m2', c2', rfl, hr2, hr2'⟩ := hV; have hn_hr2 := hr2.len; have hx_hr2 : _ ≤ 1099511627776 := hr2.lim; have hn_hr2q := hr2'.len; have hx_hr2q : _ ≤ 1099511627776 := hr2'.lim
 refine ⟨_, rfl, ?_⟩
 refine o_move rfl rfl ?_
 refine o_extract rfl rfl rfl ?_
 refine o_extract rfl rfl rfl ?_
 refine o_alloc H Tryz.zeroValue26 rfl rfl ?_; intro b3 w3 hb3 H
 refine o_store_B 0 H Tryz.sizeOf26 rfl rfl rfl rfl rfl rfl rfl rfl ?_; intro w4 H
 refine o_assign rfl rfl ?_
 refine q1 ?_
 refine o_loadagg_B 0 H Tryz.isAgg26 Tryz.sizeOf26 rfl rfl rfl rfl rfl ?_
 refine o_move rfl rfl ?_
 refine o_call Tryz.call17 rfl rfl (i_VolumeDir_c _ _ H.sub _ uV ⟨_, _, _, _, _, _, rfl, hr2, hr2'⟩ _ hP ) ?_
 rintro _ w5 ⟨_, _, rfl, H5', ⟨u15, u25, E15, E25, rfl, rfl, ho15, ho25⟩⟩
 have H := H.readers (fp := []) (by simp) (PLe.refl _) H5'
 obtain ⟨x15, p15⟩ := ho15
 obtain ⟨a15, c15, rfl⟩ := OwnS.shape p15
 obtain ⟨x25, p25⟩ := ho25
 obtain ⟨a25, c25, rfl⟩ := OwnS.shape p25
 refine ⟨_, rfl, ?_⟩
 refine o_move rfl rfl ?_
 refine o_extract rfl rfl rfl ?_
 refine o_extract rfl rfl rfl ?_
 refine o_alloc H Tryz.zeroValue26 rfl rfl ?_; intro b6 w6 hb6 H
 refine o_store_B 0 H Tryz.sizeOf26 rfl rfl rfl rfl rfl rfl rfl rfl ?_; intro w7 H
 refine o_assign rfl rfl ?_
 refine q1 ?_
 refine o_loadagg_B 3 H Tryz.isAgg26 Tryz.sizeOf26 rfl rfl rfl rfl rfl ?_
 refine o_move rfl rfl ?_
 refine o_call Tryz.call18 rfl rfl (VolumeDirP_c _ _ H.sub _ uV ⟨_, _, _, _, _, _, rfl, hr2, hr2'⟩ _ hP ) ?_
 rintro _ w8 ⟨G8, _, g8, rfl, u8_0, rfl, hr8_0⟩
 have H := H.grow g8
 have hcode := hcode.up g8.le
 have hr2 := hr2.up g8.le
 have hr2' := hr2'.up g8.le
 obtain ⟨a9, m9, c9, a9', m9', c9', rfl, hr9, hr9'⟩ := hr8_0; have hn_hr9 := hr9.len; have hx_hr9 : _ ≤ 1099511627776 := hr9.lim; have hn_hr9q := hr9'.len; have hx_hr9q : _ ≤ 1099511627776 := hr9'.lim
 refine ⟨_, rfl, ?_⟩
 refine o_move rfl rfl ?_
 refine o_extract rfl rfl rfl ?_
 refine o_extract rfl rfl rfl ?_
 refine o_alloc H Tryz.zeroValue26 rfl rfl ?_; intro b10 w10 hb10 H
 refine o_store_B 0 H Tryz.sizeOf26 rfl rfl rfl rfl rfl rfl rfl rfl ?_; intro w11 H
 refine o_assign rfl rfl ?_
 refine q3 ?_
 refine W_seq ?_
 refine q2 ?_
 refine o_move rfl rfl ?_
 refine o_move rfl rfl ?_
 refine o_bneq_same Tryz.underlying4 rfl rfl rfl ?_
 refine o_move rfl rfl ?_
 refine R_guard (yl rfl rfl) ?_
 refine o_loadagg_B 1 H Tryz.isAgg26 Tryz.sizeOf26 rfl rfl rfl rfl rfl ?_
 refine R_guard (yl rfl rfl) ?_
 refine o_loadagg_B 0 H Tryz.isAgg26 Tryz.sizeOf26 rfl rfl rfl rfl rfl ?_
 refine R_guard (yl rfl rfl) ?_
 refine o_call Tryz.call10 rfl rfl (w_sameVolume_c _ _ (H.lendSubL [2, 3]) _ ((Sp.VolumeDir uV uP).getD ⟨[], []⟩) ⟨_, _, _, _, _, _, rfl, (H.lendOHs (k := 2) (ks := [2, 3]) rfl rfl ⟨_, p15⟩), (H.lendOIs (k := 3) (ks := [2, 3]) rfl rfl ⟨_, p25⟩)⟩ _ ((Sp.VolumeDir uV uP).getD ⟨[], []⟩) ⟨_, _, _, _, _, _, rfl, (hr9.up (PPlus.le _ _ _)), (hr9'.up (PPlus.le _ _ _))⟩ rfl) ?_
 rintro _ w12 ⟨rfl, ew12⟩; have H := H.step ew12; refine ⟨_, rfl, ?_⟩
 refine R_guard (yl rfl rfl) ?_
 refine o_not rfl rfl ?_
 refine o_pick_f rfl rfl rfl ?_
 refine o_move rfl rfl ?_
 refine R_guard (yl rfl rfl) ?_
 refine o_move rfl rfl ?_
 refine R_guard (yl rfl rfl) ?_
 refine o_not rfl rfl ?_
 refine o_pick_f rfl rfl rfl ?_
 refine q3 ?_
 refine W_cond rfl ?_ ?_
 ·intro hc13
  try simp only [nrm] at hc13
  refine q2 ?_
  refine o_move rfl rfl ?_
  refine o_move rfl rfl ?_
  refine o_beql_same Tryz.underlying4 rfl rfl rfl ?_
  refine o_move rfl rfl ?_
  refine R_guard (yl rfl rfl) ?_
  refine o_loadagg_B 1 H Tryz.isAgg26 Tryz.sizeOf26 rfl rfl rfl rfl rfl ?_
  refine R_guard (yl rfl rfl) ?_
  refine o_loadagg_B 0 H Tryz.isAgg26 Tryz.sizeOf26 rfl rfl rfl rfl rfl ?_
  refine R_guard (yl rfl rfl) ?_
  refine o_call Tryz.call10 rfl rfl (w_sameVolume_c _ _ (H.lendSubL [2, 3]) _ ((Sp.VolumeDir uV uP).getD ⟨[], []⟩) ⟨_, _, _, _, _, _, rfl, (H.lendOHs (k := 2) (ks := [2, 3]) rfl rfl ⟨_, p15⟩), (H.lendOIs (k := 3) (ks := [2, 3]) rfl rfl ⟨_, p25⟩)⟩ _ ((Sp.VolumeDir uV uP).getD ⟨[], []⟩) ⟨_, _, _, _, _, _, rfl, (hr9.up (PPlus.le _ _ _)), (hr9'.up (PPlus.le _ _ _))⟩ rfl) ?_
  rintro _ w14 ⟨rfl, ew14⟩; have H := H.step ew14; refine ⟨_, rfl, ?_⟩
  refine o_pick_t rfl rfl rfl ?_
  refine o_assign rfl rfl ?_
  refine q3 ?_
  refine W_ret ?_
  refine N_K_ret ?_
  refine ret_gen (rs := [.tmp 2]) (vs := [_]) Tryz.results5 ⟨rfl, trivial⟩ ?_
  exact H.rets rfl
 intro hc13'
 try simp only [nrm] at hc13'
 obtain ⟨u2, hu2⟩ := Option.isSome_iff_exists.1 (show (Sp.VolumeDir uV uP).isSome = true by simpa using hc13')
 have hW : (Sp.VolumeDir uV uP).getD ⟨[], []⟩ = u2 := by (rw [hu2]; rfl)
 have hnr : Sp.VolumeRead ((Sp.VolumeDir uV uP).getD ⟨[], []⟩) uP = none := by (rw [hW]; exact Sp.dir_noread hu2)
 have hnw : ∀ b, Sp.VolumeWrite ((Sp.VolumeDir uV uP).getD ⟨[], []⟩) uP b = none := fun b => by (rw [hW]; exact Sp.dir_nowrite hu2 b)
 have hdr : Sp.VolumeDrop ((Sp.VolumeDir uV uP).getD ⟨[], []⟩) uP = some uV := by (rw [hW]; exact Sp.dir_drop hu2)
 refine W_skip ?_
 refine N_K ?_
 refine q2 ?_
 refine o_loadagg_B 1 H Tryz.isAgg26 Tryz.sizeOf26 rfl rfl rfl rfl rfl ?_
 refine o_move rfl rfl ?_
 refine o_call Tryz.call11 rfl rfl (i_VolumeRead_c _ _ (H.lendSubL [2, 3]) _ ((Sp.VolumeDir uV uP).getD ⟨[], []⟩) ⟨_, _, _, _, _, _, rfl, (H.lendOHs (k := 2) (ks := [2, 3]) rfl rfl ⟨_, p15⟩), (H.lendOIs (k := 3) (ks := [2, 3]) rfl rfl ⟨_, p25⟩)⟩ _ hP ) ?_
 rintro _ w15 ⟨_, _, rfl, H15', ⟨u15, c15, xs15, rfl, rfl, hchk15, hxl15, hxs15⟩⟩
 have H := H.readersL H15'
 obtain ⟨avr15, cvr15, rfl⟩ := H.accShape (k := 0) rfl
 refine ⟨_, rfl, ?_⟩
 refine o_move rfl rfl ?_
 refine o_extract rfl rfl rfl ?_
 refine o_extract rfl rfl rfl ?_
 refine o_assign rfl rfl ?_
 refine o_assign rfl rfl ?_
 refine q1 ?_
 refine o_loadagg_B 2 H Tryz.isAgg26 Tryz.sizeOf26 rfl rfl rfl rfl rfl ?_
 refine o_move rfl rfl ?_
 refine o_buildSlice H Tryz.underlying27 Tryz.sizeOf3 (fun w => ⟨_, Tryz.zeroValue3 w, rfl⟩) rfl rfl rfl rfl rfl rfl rfl ?_; intro b16 w16 hb16 H
 have H := H.blkAcc 1 (k := 0) (n := 1) rfl rfl (by decide)
 have hchk18 := ((Chk.nil (E := intE) (sz := 1) (G := G8)).snoc (show intE _ (1 : Int) [.int .i64 1] from ⟨rfl, by decide⟩) rfl)
 refine o_call Tryz.call8 rfl rfl (i_VolumeWrite_c _ _ (H.lendSubL [0, 4, 5]) _ ((Sp.VolumeDir uV uP).getD ⟨[], []⟩) ⟨_, _, _, _, _, _, rfl, (H.lendOHs (k := 4) (ks := [0, 4, 5]) rfl rfl ⟨_, p15⟩), (H.lendOIs (k := 5) (ks := [0, 4, 5]) rfl rfl ⟨_, p25⟩)⟩ _ hP _ _ (H.lendRdL (k := 0) (ks := [0, 4, 5]) rfl rfl hchk18 (by first | assumption | rfl | (simp; done) | (simp; omega) | omega) (by first | assumption | (simp; done) | (simp; omega) | omega)) ) ?_
 rintro _ w17 ⟨_, _, rfl, H17', ⟨u117, u217, E117, E217, rfl, rfl, ho117, ho217⟩⟩
 have H := H.readersL H17'
 obtain ⟨x117, p117⟩ := ho117
 obtain ⟨a117, c117, rfl⟩ := OwnS.shape p117
 obtain ⟨x217, p217⟩ := ho217
 obtain ⟨a217, c217, rfl⟩ := OwnS.shape p217
 refine ⟨_, rfl, ?_⟩
 refine o_move rfl rfl ?_
 refine o_extract rfl rfl rfl ?_
 refine o_extract rfl rfl rfl ?_
 refine o_alloc H Tryz.zeroValue26 rfl rfl ?_; intro b19 w19 hb19 H
 refine o_store_B 0 H Tryz.sizeOf26 rfl rfl rfl rfl rfl rfl rfl rfl ?_; intro w20 H
 refine o_assign rfl rfl ?_
 refine q1 ?_
 refine o_loadagg_B 6 H Tryz.isAgg26 Tryz.sizeOf26 rfl rfl rfl rfl rfl ?_
 refine o_move rfl rfl ?_
 refine o_call Tryz.call15 rfl rfl (i_VolumeDrop_c _ _ (H.lendSubL [7, 8]) _ ((Sp.VolumeDir uV uP).getD ⟨[], []⟩) ⟨_, _, _, _, _, _, rfl, (H.lendOHs (k := 7) (ks := [7, 8]) rfl rfl ⟨_, p15⟩), (H.lendOIs (k := 8) (ks := [7, 8]) rfl rfl ⟨_, p25⟩)⟩ _ hP ) ?_
 rintro _ w21 ⟨_, _, rfl, H21', ⟨u121, u221, E121, E221, rfl, rfl, ho121, ho221⟩⟩
 have H := H.readersL H21'
 obtain ⟨x121, p121⟩ := ho121
 obtain ⟨a121, c121, rfl⟩ := OwnS.shape p121
 obtain ⟨x221, p221⟩ := ho221
 obtain ⟨a221, c221, rfl⟩ := OwnS.shape p221
 refine ⟨_, rfl, ?_⟩
 refine o_move rfl rfl ?_
 refine o_extract rfl rfl rfl ?_
 refine o_extract rfl rfl rfl ?_
 refine o_alloc H Tryz.zeroValue26 rfl rfl ?_; intro b22 w22 hb22 H
 refine o_store_B 0 H Tryz.sizeOf26 rfl rfl rfl rfl rfl rfl rfl rfl ?_; intro w23 H
 refine o_assign rfl rfl ?_
 refine q1 ?_
 refine o_move rfl rfl ?_
 refine o_not rfl rfl ?_
 refine o_move rfl rfl ?_
 refine R_case (t := 77) rfl ?_ ?_
 ·intro hc24
  try simp only [nrm] at hc24
  refine R_guard (yl rfl rfl) ?_
  refine o_move rfl rfl ?_
  refine R_guard (yl rfl rfl) ?_
  refine o_not rfl rfl ?_
  refine o_pick_t rfl rfl rfl ?_
  refine o_move rfl rfl ?_
  refine R_case (t := 81) rfl ?_ ?_
  ·intro hc25
   try simp only [nrm] at hc25
   refine R_guard (yl rfl rfl) ?_
   refine o_move rfl rfl ?_
   refine o_pick_t rfl rfl rfl ?_
   refine o_move rfl rfl ?_
   refine R_case (t := 84) rfl ?_ ?_
   ·intro hc26
    try simp only [nrm] at hc26
    refine R_guard (yl rfl rfl) ?_
    refine o_loadagg_B 0 H Tryz.isAgg26 Tryz.sizeOf26 rfl rfl rfl rfl rfl ?_
    refine R_guard (yl rfl rfl) ?_
    refine o_loadagg_B 12 H Tryz.isAgg26 Tryz.sizeOf26 rfl rfl rfl rfl rfl ?_
    refine R_guard (yl rfl rfl) ?_
    refine o_call Tryz.call10 rfl rfl (w_sameVolume_c _ _ (H.lendSubL [1, 2]) _ ((Sp.VolumeDrop ((Sp.VolumeDir uV uP).getD ⟨[], []⟩) uP).getD ⟨[], []⟩) ⟨_, _, _, _, _, _, rfl, (H.lendOHs (k := 1) (ks := [1, 2]) rfl rfl ⟨_, p121⟩), (H.lendOIs (k := 2) (ks := [1, 2]) rfl rfl ⟨_, p221⟩)⟩ _ uV ⟨_, _, _, _, _, _, rfl, (hr2.up (PPlus.le _ _ _)), (hr2'.up (PPlus.le _ _ _))⟩ (by (rw [hdr]; rfl))) ?_
    rintro _ w27 ⟨rfl, ew27⟩; have H := H.step ew27; refine ⟨_, rfl, ?_⟩
    refine o_pick_t rfl rfl rfl ?_
    refine o_assign rfl rfl ?_
    refine q3 ?_
    refine W_ret ?_
    refine ret_gen (rs := [.tmp 2]) (vs := [_]) Tryz.results5 ⟨rfl, trivial⟩ ?_
    exact H.rets rfl
   intro hc26'
   try simp only [nrm] at hc26'
   exact absurd (show False from by simp_all) id
  intro hc25'
  try simp only [nrm] at hc25'
  exact absurd (show False from by simp_all) id
 intro hc24'
 try simp only [nrm] at hc24'
 exact absurd (show False from by simp_all) id
end Go.Proofs.Tst

namespace Fw
open Go
section
variable {H : Type} {enc : TypeId × Value → H} {P : Program} {W : World}
structure Bulk (bk : DataW H → Nat) (bka : List (DataW H) → Nat) : Prop where
  slice : ∀ es sp, bk (.slice es sp) = bka es + bka sp + 1
  agg : ∀ ps, bk (.agg ps) = bka ps + 1
  str : ∀ b, bk (.lit (.string b)) = b.length + 1
  nil : bka [] = 0
  cons : ∀ d r, bka (d :: r) = bk d + bka r
  pos : ∀ d, 1 ≤ bk d
variable {bk : DataW H → Nat} {bka : List (DataW H) → Nat}
theorem Bulk.len (hb : Bulk bk bka) : ∀ l, l.length ≤ bka l
  | [] => by simp
  | d :: r => by
    have h1 := hb.len r
    have h2 := hb.pos d
    rw [hb.cons]
    simp; omega
theorem Bulk.mem (hb : Bulk bk bka) {d : DataW H} : ∀ {l : List (DataW H)}, d ∈ l → bk d ≤ bka l
  | [], h => by simp at h
  | e :: r, h => by
    rw [hb.cons]
    rcases List.mem_cons.1 h with rfl | h
    · omega
    · have := hb.mem h
      omega
theorem Bulk.memF (hb : Bulk bk bka) {l : List (DataW H × List MemPlace)} {i : Nat} (hi : i < l.length) : bk (l[i]).1 ≤ bka (l.map (fun x => x.1)) :=
  hb.mem (List.mem_map.2 ⟨l[i], List.getElem_mem hi, rfl⟩)
abbrev Reads (enc : TypeId × Value → H) (P : Program) (W : World) (n : Nat) (t : TypeId) (cs : List Value) : Option (DataW H × List MemPlace) := DataW.trod enc P W 0 (fun _ => true) true n t cs
def Elem (enc : TypeId × Value → H) (P : Program) (W : World) (bk : DataW H → Nat) (t : TypeId) (sz : Nat) {α : Type} (E : PH → α → List Value → Prop) : Prop :=
  ∀ n cs x, Reads enc P W n t cs = some x → bk x.1 ≤ 1048576 → ∃ a, cs.length = sz ∧ E (PAll W) a cs
theorem elem_u8 {t : TypeId} (ht : P.underlying t = some (.int .u8)) : Elem enc P W bk t 1 u8E := by
  intro n cs x h _
  obtain ⟨i, rfl, _, hw⟩ := DataW.trod_int ht h
  simp [Lit.wf, IntKind.min, IntKind.max, IntKind.signed, IntKind.bits] at hw
  refine ⟨UInt8.ofNat i.toNat, rfl, ?_⟩
  show [Value.int .u8 i] = [.int .u8 ((UInt8.ofNat i.toNat).toNat : Int)]
  congr 2
  rw [UInt8.toNat_ofNat']
  omega
theorem list_of {α : Type} {Q : Nat → α → Prop} : ∀ n, (∀ i, i < n → ∃ x, Q i x) → ∃ xs : List α, xs.length = n ∧ ∀ i x, xs[i]? = some x → Q i x
  | 0, _ => ⟨[], rfl, by simp⟩
  | n + 1, h => by
    obtain ⟨xs, h1, h2⟩ := list_of n (fun i hi => h i (by omega))
    obtain ⟨x, hx⟩ := h n (by omega)
    refine ⟨xs ++ [x], by simp [h1], fun i y hy => ?_⟩
    by_cases hi : i < n
    · rw [List.getElem?_append_left (by omega)] at hy
      exact h2 i y hy
    · rw [List.getElem?_append_right (by omega)] at hy
      have : i = n := by
        have := (List.getElem?_eq_some_iff.1 hy).1
        simp at this
        omega
      subst this
      simp [h1] at hy
      subst hy
      exact hx
theorem mapM_at {α β : Type} {f : α → Option β} : ∀ {l : List α} {r : List β}, l.mapM f = some r → ∀ (i : Nat) (x : α), l[i]? = some x → f x = r[i]?
  | [], r, h, i, x, hx => by simp at hx
  | y :: t, r, h, i, x, hx => by
    simp only [List.mapM_cons, Option.bind_eq_bind, Option.bind_eq_some_iff, Option.pure_def, Option.some.injEq] at h
    obtain ⟨z, h1, u, h2, rfl⟩ := h
    cases i with
    | zero => simp at hx; subst hx; simpa using h1
    | succ i => simp only [List.getElem?_cons_succ] at hx ⊢; exact mapM_at h2 i x hx
theorem pcell_of {b o : Nat} {v : Value} (h : W.cell? ⟨b, o, none⟩ = some v) : PCell (PAll W) b o v := by
  unfold World.cell? at h
  unfold PCell PAll
  split at h
  · rename_i C e fz hb
    exact ⟨C, e, fz, hb, by simpa using h⟩
  · cases h
theorem elem_slice {α : Type} {E : PH → α → List Value → Prop} (hb : Bulk bk bka) {t e : TypeId} {sz : Nat} (ht : P.underlying t = some (.slice e)) (hz : P.cellsOf e = sz) (hsz : 0 < sz) (hE : Elem enc P W bk e sz E) :
    ∀ n cs x, Reads enc P W n t cs = some x → bk x.1 ≤ 1048576 → ∃ v xs, cs = [v] ∧ RdS LIM E sz (PAll W) v xs := by
  intro n cs x h hx
  rcases DataW.trod_slice ht h with ⟨rfl, _⟩ | ⟨a, len, cap, elems, rest, m, _, rfl, rfl, _, h2, _, h4, h5, _, _⟩
  · exact ⟨_, [], rfl, RdS.nil _ _ _⟩
  · simp only [hb.slice] at hx
    rw [hz] at h5
    have hle := hb.len (elems.map (·.1))
    rw [List.length_map] at hle
    have hel : ∀ i, i < len → ∃ y : α, ∃ cs, cs.length = sz ∧ E (PAll W) y cs ∧ ∀ j v, cs[j]? = some v → W.cell? ((a.add (i * sz)).add j) = some v := by
      intro i hi
      have h6 := h5 i hi
      rw [List.getElem?_eq_getElem (by omega)] at h6
      obtain ⟨cs, k1, k2⟩ := Option.bind_eq_some_iff.1 h6
      obtain ⟨y, k3, k4⟩ := hE m cs _ k2 (Nat.le_trans (hb.memF (by omega)) (by omega))
      refine ⟨y, cs, k3, k4, fun j v hj => ?_⟩
      unfold World.cells? at k1
      split at k1
      · have hjl := (List.getElem?_eq_some_iff.1 hj).1
        rw [← hj]
        exact mapM_at k1 j j (by rw [List.getElem?_range (by omega)])
      · cases k1
    obtain ⟨xs, x1, x2⟩ := list_of len hel
    refine ⟨_, xs, rfl, some a, cap, by rw [x1], by omega, by simp only [LIM]; omega, ?_⟩
    by_cases h0 : len = 0
    · exact .inl (List.eq_nil_of_length_eq_zero (by omega))
    · right
      have hspot : a.spot = none := by
        obtain ⟨y, cs, y1, _, y2⟩ := hel 0 (by omega)
        have := World.cell?_spot (y2 0 cs[0] (by simp))
        simpa [Addr.add] using this
      obtain ⟨b, o, sp⟩ := a
      simp only at hspot
      subst hspot
      refine ⟨b, o, rfl, fun i y hy => ?_⟩
      obtain ⟨cs, c1, c2, c3⟩ := x2 i y hy
      refine ⟨cs, c1, c2, fun j v hj => pcell_of ?_⟩
      have := c3 j v hj
      rwa [Addr.add_lit, Addr.add_lit] at this
variable {ti ts tb tis : TypeId}
theorem same_of_ext {w w' : World} (h : Ext w w') {p : MemPlace} (hp : p.block < w.heap.size) : w.sameAt w' p := by
  have hb := h.block p.block hp
  cases p with
  | cell b off => simp only [World.sameAt, World.cell?]; simp only [MemPlace.block] at hb; rw [hb]
  | map b => simp only [World.sameAt]; simpa [MemPlace.block] using hb
end
end Fw
namespace Fw
open Go Go.ChangeShapes Go.WideShapes
section
variable {H : Type} {enc : TypeId × Value → H} {P : Program}
theorem trodAll_stays (hl : laidOutB P = true) {W W' : World} {sp' : Nat → Bool} : ∀ {ts : List TypeId} {vs : List Value} {ds : List (DataW H)} {ps : List MemPlace}, (∀ t, t ∈ ts → P.readableRec t = true ∧ t < P.types.size) →
    DataW.TrodAll enc P W 0 (fun _ => true) true ts vs ds ps → (∀ p ∈ ps, W.sameAt W' p) → (∀ p ∈ ps, sp' p.block = true) → DataW.TrodAll enc P W' 0 sp' true ts vs ds ps
  | [], _, _, _, _, h, _, _ => by
    obtain ⟨rfl, rfl, rfl⟩ := trodAll_nil h
    rfl
  | t :: ts, _, _, _, hr, h, hs, hq => by
    obtain ⟨v, vs1, d, ds1, a, b, rfl, rfl, rfl, h1, h2⟩ := trodAll_cons h
    exact ⟨a, b, WideElems.Trod_stays hl (hr t (by simp)).1 (hr t (by simp)).2 h1 (fun p hp => hs p (by simp [hp])) (fun p hp => hq p (by simp [hp])),
      trodAll_stays hl (fun t ht => hr t (by simp [ht])) h2 (fun p hp => hs p (by simp [hp])) (fun p hp => hq p (by simp [hp])), rfl⟩
theorem kept_of_ext {W W' : World} (h : Ext W W') (may : MemPlace → Prop) : W.keptBut W' may := by
  refine ⟨h.os, h.output, fun i hi => ?_⟩
  rw [h.block i hi]
  cases W.heap[i]? with
  | none => simp
  | some o => cases o <;> simp
theorem law_post {f : Func} {s : ChangeSpec} {apart fresh handsOn again : Bool} {W W' : World} {args : Array Value} {ds gs : List (DataW H)} {before : List MemPlace} (hl : laidOutB P = true) (hr : ∀ t, t ∈ f.params.toList → P.readableRec t = true ∧ t < P.types.size)
    (hv : s.vars = []) (hW : DataW.Whole enc P f.params.toList s.vars apart W args.toList ds gs before) (hx : Ext W W') (hfr : (s.fn H (ds ++ gs)).results = [.lit (.bool true)]) (hfa : (s.fn H (ds ++ gs)).args = ds) (hfv : (s.fn H (ds ++ gs)).vars = [])
    (hres : ∀ (b : Nat) (sp : Nat → Bool) (hd : Bool), DataW.TrodAll enc P W' b sp hd f.resultTypes.toList ((Value.bool true).resultList f.resultTypes.size) [.lit (.bool true)] [])
    (hok : ∀ (j : Nat) (t : TypeId) (r : Value), f.resultTypes[j]? = some t → ((Value.bool true).resultList f.resultTypes.size)[j]? = some r → Value.okWide P W' .any 0 t r) :
    s.post enc P f apart fresh handsOn again W args (.bool true) W' := by
  have hW' := hW
  obtain ⟨p, q, hA, hV, rfl, hz, hn⟩ := hW
  rw [hv] at hV
  have hgs : gs = [] ∧ q = [] := by
    cases gs with
    | nil => exact ⟨rfl, hV⟩
    | cons d r => exact hV.elim
  obtain ⟨rfl, rfl⟩ := hgs
  rw [List.append_nil] at hW' hz hn
  have hlt : ∀ m ∈ p, m.block < W.heap.size := fun m hm => hW'.lt m hm
  have hold : ∀ m ∈ p, (fun b => decide (b < W.heap.size)) m.block = true := fun m hm => by simpa using hlt m hm
  have hargs : ∀ sp : Nat → Bool, (∀ m ∈ p, sp m.block = true) → DataW.TrodAll enc P W' 0 sp true f.params.toList args.toList (s.fn H (ds ++ [])).args p := fun sp hsp => by
    rw [hfa]
    exact trodAll_stays hl hr hA (fun m hm => same_of_ext hx (hlt m hm)) hsp
  have hvars : ∀ sp : Nat → Bool, DataW.TrodVars enc P W' sp s.vars (s.fn H (ds ++ [])).vars [] := fun sp => by rw [hv, hfv]; rfl
  have hres' : ∀ (b : Nat) (sp : Nat → Bool) (hd : Bool), DataW.TrodAll enc P W' b sp hd f.resultTypes.toList ((Value.bool true).resultList f.resultTypes.size) (s.fn H (ds ++ [])).results [] := fun b sp hd => by rw [hfr]; exact hres b sp hd
  refine ⟨ds, [], p, [], p, [], hW', hres' _ _ _, hargs _ hold, hvars _, World.keptBut_mono (fun m hm => ⟨hm, Or.inr ?_⟩) (kept_of_ext hx (· ∈ p)), fun _ => ?_⟩
  · simpa using hm
  · refine ⟨hok, _, _, ([] ++ p) ++ [], ⟨[] ++ p, [], trodAll_append (hargs _ (fun _ _ => rfl)) (hres' _ _ _), hvars _, rfl, ?_, ?_⟩, ?_⟩
    · intro b off hp
      have hp' : MemPlace.cell b off ∈ p := by simpa using hp
      have h1 := hz b off hp'
      have h2 := hx.block b (hlt _ hp')
      simp only [World.frozen?] at h1 ⊢
      rw [h2]
      exact h1
    · intro ha
      simpa using hn ha
    · intro m hm _
      simpa using hm
end
end Fw
namespace Fw
open Go Go.WideShapes
theorem slice_of {P : Program} {W : World} {b : Nat} {t e : TypeId} {v u : Value} (ht : P.underlying t = some (.slice e)) (h : Value.okWide P W .any b t v) (hu : v.cells.toList = [u]) : v = u := by
  unfold Value.okWide at h
  rw [ht] at h
  unfold Cell.okWide at h
  rw [ht] at h
  cases v <;> simp_all [Value.cells, Cell.ok]
end Fw
