/- Part 7 of the proof: contracts of functions of the program. Conditions: none. -/
import Derived.Test.YtddaepdfmhkaeaaGreatDoorProg
import Derived.Test.YtddaepdfmhkaeaaGreatDoorG02
import Derived.Test.YtddaepdfmhkaeaaGreatDoorG03
import Derived.Test.YtddaepdfmhkaeaaGreatDoorG04
import Derived.Test.YtddaepdfmhkaeaaGreatDoorG06
import Derived.Test.YtddaepdfmhkaeaaGreatDoorG05
set_option linter.all false
set_option maxRecDepth 100000
set_option maxHeartbeats 1000000
namespace Go.Proofs.Tst
open Go Fw Tryz
theorem i_disk_c (w0 : World) (G0 : PH) (hG : PSub G0 w0) (db mb : Nat) (es : Array MapEntry) (ck : Nat) (xs : List (Int × Value)) (T : Nd) (FT : Fr) (sv : Value) (sn : List (Bs × Nd)) (c : List Value) (FSq : Fr) (d : BDisk) (hm : MapIs (Value.int .i64) es ck xs) (hS : StR G0 xs d.store) (hN : NdO 149 97 G0 T FT) (hT : Nd.TOK T d.tree) (hchk : Chk osE 2 G0 c sn) (hNs : NdsO 149 97 G0 (sn.map (·.2)) FSq) (hSn : SnOK sn d.snaps) (hVd : Sp.VH d.store) (hs6 : d.snaps.length ≤ 6) (hLent : Lent w0 G0 [blk db (cl [.int .i32 0, .int .u32 0, .map (some mb), .pointer (some ⟨T.b, 0, none⟩), sv] 131), blk mb (.map es ck), frag FT, acc 135 2 sv sn.length c, frag FSq])  :
  Calls Tryz.prog 89 #[.pointer (some ⟨db, 0, none⟩)] w0 (RetM w0 G0 (fps [blk db (cl [.int .i32 0, .int .u32 0, .map (some mb), .pointer (some ⟨T.b, 0, none⟩), sv] 131), blk mb (.map es ck), frag FT, acc 135 2 sv sn.length c, frag FSq]) (fun G' v Bs => ∃ (v1 v2 v3 : Value) (F1 F2 F3 : Fr), v = .agg #[v1, v2, v3] ∧ Bs = [frag F1, frag F2, frag F3] ∧ OHs F1 v1 d.store ∧ OIs F2 v2 d.tree ∧ OSn F3 v3 d.snaps)) := by
 have H : Hp w0 G0 (fps [blk db (cl [.int .i32 0, .int .u32 0, .map (some mb), .pointer (some ⟨T.b, 0, none⟩), sv] 131), blk mb (.map es ck), frag FT, acc 135 2 sv sn.length c, frag FSq]) w0 G0 [blk db (cl [.int .i32 0, .int .u32 0, .map (some mb), .pointer (some ⟨T.b, 0, none⟩), sv] 131), blk mb (.map es ck), frag FT, acc 135 2 sv sn.length c, frag FSq] := hLent.hp
 obtain ⟨adv, cdv, rfl⟩ := H.accShape (k := 3) rfl; have hTv := hT.valid; have hTc := hT.cnt; have hTl := Sp.tree_len hTv; have hsnl := hSn.len; have hxa := H.accShape (k := 3) rfl
 refine calls_of_WD (l := [.pointer (some ⟨db, 0, none⟩)]) func89 Z ntmps89 Z (q2 (o_alloc H zeroValue27 Z Z ?_)); intro b1 w1 hb1 H
 refine q1 (mV Z (o_nilCheck Z Z (o_fieldAddr 0 runUnderlying131 Z sizeOf128 Z Z Z (o_lock 1 H muLib Z call90 Z Z Z Z ?_)))); intro w2 H
 refine q1 (mV Z (o_nilCheck Z Z (o_fieldAddr 0 runUnderlying131 Z sizeOf128 Z Z Z (o_defer Z (q3 (W_seq (W_drawK [0, 1] 15 H kR Z ?_))))))); intro w3 H; have hd3 := PLe.refl G0
 refine vM 0 Z Z (RD_t 1 Z kR Z (fun _ hK => v_nilCheck Z) (RD_t 2 Z kR Z (fun _ hK => v_fieldAddr 2 runUnderlying131 Z sizeOf99 Z Z) (RD_t 3 Z kR Z (fun _ hK => v_fieldAddr 0 runUnderlying99 Z sizeOf96 Z Z) (RD_t 4 Z kR Z (fun _ hK => v_load_B 1 hK isAgg96 Z Z Z) (vM 6 Z Z (RD_t 7 Z kR Z (fun _ hK => v_nilCheck Z) (RD_t 8 Z kR Z (fun _ hK => v_fieldAddr 2 runUnderlying131 Z sizeOf99 Z Z) (RD_t 9 Z kR Z (fun _ hK => v_fieldAddr 1 runUnderlying99 Z sizeOf97 Z Z) (RD_t 10 Z kR Z (fun _ hK => v_load_B 1 hK isAgg97 Z Z Z) ?_)))))))))
 refine RD_run [5, 13] kR Z (RDs.cons Z ?_ (RDs.cons Z ?_ RDs.nil))
 ·skip
  refine o_call call123 Z Z (i_slist_c _ _ (H.lendSubL [2]) _ _ _ _ _ (H.lendPredL (k := 2) (ks := [2]) Z Z) hm (hS.up (PPlus.le _ _ _)) hVd ) ?_
  rintro _ w4 ⟨_, _, rfl, H4', ⟨F4, rfl, hO4⟩⟩
  have H := H.readersL H4'
  obtain ⟨e24, hP4⟩ := hO4
  obtain ⟨sa4, sc4, rfl⟩ := OwnS.shape hP4
  have hO4 := OHs.mk hP4
  refine ⟨_, Z, ?_⟩
  refine R_nil (N_DK (Kn.of' H hd3 (SubL.cons 1 Z (SubL.cons 2 Z SubL.nil))) ?_)
  refine RD_run [11, 13] kR Z (RDs.cons Z ?_ (RDs.cons Z ?_ RDs.nil))
  ·skip
   refine o_call call124 Z Z (i_tlist_c _ _ (H.lendSubL [4]) _ ((H.lendN (k := 4) (ks := [4]) Z Z hN).at (show Nd.at_ T [] = some T from Z)) hT.wf oM) ?_
   rintro _ w5 ⟨_, _, rfl, H5', ⟨F5, rfl, hO5⟩⟩
   have H := H.readersL H5'
   obtain ⟨e25, hP5⟩ := hO5
   obtain ⟨sa5, sc5, rfl⟩ := OwnS.shape hP5
   have hO5 := OIs.mk hP5
   refine ⟨_, Z, ?_⟩
   refine R_nil (N_DK (Kn.of' H hd3 (SubL.cons 2 Z (SubL.cons 3 Z SubL.nil))) (RD_t 12 Z kR Z (fun _ hK => v_build bf27 Z Z) ?_))
   refine RD_run [13] kR Z (RDs.cons Z ?_ RDs.nil)
   refine o_alloc H zeroValue27 Z Z ?_; intro b6 w6 hb6 H
   refine R_nil (N_DK (Kn.of' H hd3 (SubL.cons 3 Z (SubL.cons 4 Z SubL.nil))) ?_)
   refine RD_run [14] kR Z (RDs.cons Z ?_ RDs.nil)
   refine o_store_B 0 H sizeOf27 Z Z Z Z Z Z Z Z ?_; intro w7 H
   refine R_nil (N_DKlast kR kR (N_K (W_seq (q2 (mV Z (o_nilCheck Z Z (o_fieldAddr 4 runUnderlying131 Z sizeOf129 Z Z Z (o_load_B 4 H isAgg129 Z Z Z Z (o_len_slice underlying129 Z Z (mV Z (q3 (W_block ?_))))))))))))
   have H := H.addNil 81 2
   have H := H.addF
   obtain ⟨ln9, hln9, H⟩ := H.nameAt (k := 2) (off := 2) rfl rfl
   obtain ⟨ln10, hln10, H⟩ := H.name (k := 5) rfl
   obtain ⟨ln11, hln11, H⟩ := H.name (k := 6) rfl
   refine W_lp (hf := (Sub.cons (t := 2) Z (Sub.cons (t := 3) Z (Sub.cons (t := 29) Z (Sub.cons (t := 30) Z Sub.nil))))) (J := fun M w m => ∃ (v : Value) (n : Nat) (cs : List Value) (xs : List (BSnap)) (F : Fr) (k : Nat) (G : PH), M = [(31, .int .i64 (k : Int))] ∧ PLe G0 G ∧ Hp w0 G0 (fps [blk db (cl [.int .i32 0, .int .u32 0, .map (some mb), .pointer (some ⟨T.b, 0, none⟩), .slice adv sn.length cdv] 131), blk mb (.map es ck), frag FT, acc 135 2 (.slice adv sn.length cdv) sn.length c, frag FSq]) w G [frag F, acc 81 2 v n cs, blk b6 (cl (setN ln9 2 v) 27), frag F5, frag F4, blk b1 (cl ln10 27), blk db (cl ln11 131), blk mb (.map es ck), frag FT, acc 135 2 (.slice adv sn.length cdv) sn.length c, frag FSq] ∧ (ChkF snapO 2 cs xs F ∧ n = xs.length ∧ k ≤ sn.length ∧ xs = (sn.take k).map (fun x => (⟨x.1, x.2.flat []⟩ : BSnap))) ∧ m = (sn.length - k)) (h0 := ⟨_, _, _, [], [], 0, _, Z, PLe.refl _, H, ?inv, Z⟩) (round := ?round)
   case inv => exact ⟨ChkF.nil,  by first | rfl | simp | (simp; omega) | omega, (by simp)⟩
   case round =>
    rintro _ w12 _ ⟨v, n, cs, xs, F, k, G12, rfl, hle12, H, hinv12, rfl⟩
    subst hln9
    subst hln10
    subst hln11
    have hchk := hchk.up hle12
    have hNs := hNs.up hle12
    obtain ⟨hchk12_0, hn12_0, hinv12⟩ := hinv12
    obtain ⟨av12_0, cv12_0, rfl⟩ := H.accShape (k := 1) rfl
    obtain ⟨hk, hxs⟩ := hinv12; have hxl6 : xs.length ≤ 6 := by (rw [hxs]; simp; omega)
    refine q2 (o_lss Z Z Z (q3 (W_seq ?_)))
    refine W_cond Z ?_ ?_
    ·intro hc13
     try simp only [nrm] at hc13
     refine W_skip (N_K (W_seq (W_block (q2 (o_index_A 9 H k Z hchk underlying129 sizeOf135 Z Z Z Z aN aN ?_))))); intro ba14 z14 q14 hba14 hz14 hE14 hg14; cases hba14
     obtain ⟨rfl, hi14⟩ := hE14; have hy_hi14 : _ ≤ 16777216 := hi14
     refine o_loadagg_A 9 H isAgg135 sizeOf135 Z Z Z hg14 Z (o_alloc H zeroValue135 Z Z ?_); intro b15 w15 hb15 H
     refine o_store_B 0 H sizeOf135 Z Z Z Z Z Z Z Z ?_; intro w16 H
     refine q3 (W_drawK [0, 3, 6, 7] 12 H kR Z ?_); intro w17 H; have hd17 := PLe.refl G12
     refine RD_t 0 Z kR Z (fun _ hK => v_fieldAddr 2 runUnderlying27 Z sizeOf25 Z Z) (RD_t 1 Z kR Z (fun _ hK => v_load_B 1 hK isAgg25 Z Z Z) (RD_t 2 Z kR Z (fun _ hK => v_fieldAddr 0 runUnderlying135 Z sizeOf9 Z Z) (RD_t 3 Z kR Z (fun _ hK => v_load_B 0 hK isAgg9 Z Z Z) (RD_t 4 Z kR Z (fun _ hK => v_fieldAddr 1 runUnderlying135 Z sizeOf97 Z Z) (RD_t 5 Z kR Z (fun _ hK => v_load_B 0 hK isAgg97 Z Z Z) ?_)))))
     refine RD_run [6] kR Z (RDs.cons Z ?_ RDs.nil)
     refine o_call call124 Z Z (i_tlist_c _ _ (H.lendSubL [11]) _ (H.lendNs (k := 11) (ks := [11]) Z Z hNs z14.2 (List.mem_map_of_mem (List.mem_of_getElem? hz14))) (sn_ok hSn _ (List.mem_map_of_mem (List.mem_of_getElem? hz14))).1 (by have := (sn_ok hSn _ (List.mem_map_of_mem (List.mem_of_getElem? hz14))).2; omega)) ?_
     rintro _ w18 ⟨_, _, rfl, H18', ⟨F18, rfl, hO18⟩⟩
     have H := H.readersL H18'
     obtain ⟨e218, hP18⟩ := hO18
     obtain ⟨sa18, sc18, rfl⟩ := OwnS.shape hP18
     have hO18 := OIs.mk hP18
     refine ⟨_, Z, ?_⟩
     refine R_nil (N_DK (Kn.of' H hd17 (SubL.cons 1 Z (SubL.cons 4 Z (SubL.cons 7 Z (SubL.cons 8 Z SubL.nil))))) (RD_t 7 Z kR Z (fun _ hK => v_build bf81 Z Z) ?_))
     refine RD_run [8] kR Z (RDs.cons Z ?_ RDs.nil)
     refine o_buildSlice H underlying25 sizeOf81 (fun w => ⟨_, zeroValue81 w, Z⟩) Z Z Z Z Z Z Z ?_; intro b19 w19 hb19 H
     refine R_nil (N_DK (Kn.of' H hd17 (SubL.cons 2 Z (SubL.cons 5 Z (SubL.cons 8 Z (SubL.cons 9 Z SubL.nil))))) ?_)
     refine RD_run [9] kR Z (RDs.cons Z ?_ RDs.nil)
     refine o_append1 3 H (sz := 2) (bytes := 40) underlying25 typeInfo81 ⟨_, Z, Z⟩ Z Z Z Z Z Z Z Z Z Z oM Z ?_; intro v20 w20 H
     have hchk20 := hchk12_0.snoc (show snapO F18 ⟨z14.1, z14.2.flat []⟩ _ from ⟨_, _, _, rfl, hi14, hO18⟩) rfl
     have H := H.toFront (k := 2) rfl
     have H := H.mergeF
     obtain ⟨av20, cv20, rfl⟩ := H.accShape (k := 2) rfl
     refine R_nil (N_DK (Kn.of' H hd17 (SubL.cons 1 Z (SubL.cons 3 Z (SubL.cons 6 Z (SubL.cons 7 Z SubL.nil))))) (RD_t 10 Z kR Z (fun _ hK => v_fieldAddr 2 runUnderlying27 Z sizeOf25 Z Z) ?_))
     refine RD_run [11] kR Z (RDs.cons Z ?_ RDs.nil)
     refine o_store_B 3 H sizeOf25 Z Z Z Z Z Z Z Z ?_; intro w21 H
     refine R_nil (N_DKlast kR kR (N_B (N_K (W_region (o_add Z Z Z oO (mV Z (R_nil ?_)))))))
     have H := H.del (k := 1) rfl
     refine N_lp (hJ := ⟨_, _, _, (xs ++ [⟨z14.1, z14.2.flat []⟩]), (F ++ F18), k + 1, _, Z, hle12, H, ?inv, Z⟩) (hm := ?hm)
     case hm => omega
     case inv => exact ⟨hchk20, aN, (by exact ⟨by omega, by (rw [Sp.take_succ' hz14, List.map_append, ← hxs]; rfl)⟩)⟩
    intro hc13'
    try simp only [nrm] at hc13'
    refine W_exit (N_K_exit (N_LP_exit (N_B_same (N_K (q2 (o_loadagg_B 2 H isAgg27 sizeOf27 Z Z Z Z Z (o_store_B 5 H sizeOf27 Z Z Z Z Z Z Z Z ?_))))))); intro w23 H
    refine q3 (W_ret (ret_unlock 6 H muLib Z call91 Z Z (rs := [.cell 2 27]) results89 ?_)); intro wu2 H
    refine ⟨[_], ⟨⟨_, Z, load_blk 5 H isAgg27 sizeOf27 Z Z Z⟩, trivial⟩, ?_⟩
    have H := H.toFront (k := 1) rfl
    obtain ⟨Fo3, H, hOw3⟩ := H.ownF hchk12_0 aN aN
    have H := H.del (k := 1) rfl
    have H := H.del (k := 3) rfl
    have H := H.del (k := 3) rfl
    have H := H.del (k := 3) rfl
    have H := H.del (k := 3) rfl
    have H := H.del (k := 3) rfl
    have H := H.del (k := 3) rfl
    have H := H.toFront (k := 1) rfl
    have H := H.toFront (k := 2) rfl
    have hxs2 : xs = d.snaps := by (rw [hxs, List.take_of_length_le oM]; exact sn_list hSn)
    exact H.retM ⟨_, _, _, _, _, _, rfl, rfl, hO4, (by (rw [← hT.flat]); exact hO5), (by have h9 := (show OSn _ _ _ from ⟨_, hOw3⟩); (rw [hxs2] at h9); exact h9)⟩
  skip
  refine o_alloc H zeroValue27 Z Z ?_; intro b24 w24 hb24 H
  refine R_nil (N_DK (Kn.of' H hd3 (SubL.cons 2 Z (SubL.cons 3 Z SubL.nil))) ?_)
  refine RD_run [11] kR Z (RDs.cons Z ?_ RDs.nil)
  refine o_call call124 Z Z (i_tlist_c _ _ (H.lendSubL [5]) _ ((H.lendN (k := 5) (ks := [5]) Z Z hN).at (show Nd.at_ T [] = some T from Z)) hT.wf oM) ?_
  rintro _ w25 ⟨_, _, rfl, H25', ⟨F25, rfl, hO25⟩⟩
  have H := H.readersL H25'
  obtain ⟨e225, hP25⟩ := hO25
  obtain ⟨sa25, sc25, rfl⟩ := OwnS.shape hP25
  have hO25 := OIs.mk hP25
  refine ⟨_, Z, ?_⟩
  refine R_nil (N_DK (Kn.of' H hd3 (SubL.cons 3 Z (SubL.cons 4 Z SubL.nil))) (RD_t 12 Z kR Z (fun _ hK => v_build bf27 Z Z) ?_))
  refine RD_run [14] kR Z (RDs.cons Z ?_ RDs.nil)
  refine o_store_B 1 H sizeOf27 Z Z Z Z Z Z Z Z ?_; intro w26 H
  refine R_nil (N_DKlast kR kR (N_K (W_seq (q2 (mV Z (o_nilCheck Z Z (o_fieldAddr 4 runUnderlying131 Z sizeOf129 Z Z Z (o_load_B 4 H isAgg129 Z Z Z Z (o_len_slice underlying129 Z Z (mV Z (q3 (W_block ?_))))))))))))
  have H := H.addNil 81 2
  have H := H.addF
  obtain ⟨ln28, hln28, H⟩ := H.nameAt (k := 3) (off := 2) rfl rfl
  obtain ⟨ln29, hln29, H⟩ := H.name (k := 5) rfl
  obtain ⟨ln30, hln30, H⟩ := H.name (k := 6) rfl
  refine W_lp (hf := (Sub.cons (t := 2) Z (Sub.cons (t := 3) Z (Sub.cons (t := 29) Z (Sub.cons (t := 30) Z Sub.nil))))) (J := fun M w m => ∃ (v : Value) (n : Nat) (cs : List Value) (xs : List (BSnap)) (F : Fr) (k : Nat) (G : PH), M = [(31, .int .i64 (k : Int))] ∧ PLe G0 G ∧ Hp w0 G0 (fps [blk db (cl [.int .i32 0, .int .u32 0, .map (some mb), .pointer (some ⟨T.b, 0, none⟩), .slice adv sn.length cdv] 131), blk mb (.map es ck), frag FT, acc 135 2 (.slice adv sn.length cdv) sn.length c, frag FSq]) w G [frag F, acc 81 2 v n cs, frag F25, blk b24 (cl (setN ln28 2 v) 27), frag F4, blk b1 (cl ln29 27), blk db (cl ln30 131), blk mb (.map es ck), frag FT, acc 135 2 (.slice adv sn.length cdv) sn.length c, frag FSq] ∧ (ChkF snapO 2 cs xs F ∧ n = xs.length ∧ k ≤ sn.length ∧ xs = (sn.take k).map (fun x => (⟨x.1, x.2.flat []⟩ : BSnap))) ∧ m = (sn.length - k)) (h0 := ⟨_, _, _, [], [], 0, _, Z, PLe.refl _, H, ?inv, Z⟩) (round := ?round)
  case inv => exact ⟨ChkF.nil,  by first | rfl | simp | (simp; omega) | omega, (by simp)⟩
  case round =>
   rintro _ w31 _ ⟨v, n, cs, xs, F, k, G31, rfl, hle31, H, hinv31, rfl⟩
   subst hln28
   subst hln29
   subst hln30
   have hchk := hchk.up hle31
   have hNs := hNs.up hle31
   obtain ⟨hchk31_0, hn31_0, hinv31⟩ := hinv31
   obtain ⟨av31_0, cv31_0, rfl⟩ := H.accShape (k := 1) rfl
   obtain ⟨hk, hxs⟩ := hinv31; have hxl6 : xs.length ≤ 6 := by (rw [hxs]; simp; omega)
   refine q2 (o_lss Z Z Z (q3 (W_seq ?_)))
   refine W_cond Z ?_ ?_
   ·intro hc32
    try simp only [nrm] at hc32
    refine W_skip (N_K (W_seq (W_block (q2 (o_index_A 9 H k Z hchk underlying129 sizeOf135 Z Z Z Z aN aN ?_))))); intro ba33 z33 q33 hba33 hz33 hE33 hg33; cases hba33
    obtain ⟨rfl, hi33⟩ := hE33; have hy_hi33 : _ ≤ 16777216 := hi33
    refine o_loadagg_A 9 H isAgg135 sizeOf135 Z Z Z hg33 Z (o_alloc H zeroValue135 Z Z ?_); intro b34 w34 hb34 H
    refine o_store_B 0 H sizeOf135 Z Z Z Z Z Z Z Z ?_; intro w35 H
    refine q3 (W_drawK [0, 4, 6, 7] 12 H kR Z ?_); intro w36 H; have hd36 := PLe.refl G31
    refine RD_t 0 Z kR Z (fun _ hK => v_fieldAddr 2 runUnderlying27 Z sizeOf25 Z Z) (RD_t 1 Z kR Z (fun _ hK => v_load_B 1 hK isAgg25 Z Z Z) (RD_t 2 Z kR Z (fun _ hK => v_fieldAddr 0 runUnderlying135 Z sizeOf9 Z Z) (RD_t 3 Z kR Z (fun _ hK => v_load_B 0 hK isAgg9 Z Z Z) (RD_t 4 Z kR Z (fun _ hK => v_fieldAddr 1 runUnderlying135 Z sizeOf97 Z Z) (RD_t 5 Z kR Z (fun _ hK => v_load_B 0 hK isAgg97 Z Z Z) ?_)))))
    refine RD_run [6] kR Z (RDs.cons Z ?_ RDs.nil)
    refine o_call call124 Z Z (i_tlist_c _ _ (H.lendSubL [11]) _ (H.lendNs (k := 11) (ks := [11]) Z Z hNs z33.2 (List.mem_map_of_mem (List.mem_of_getElem? hz33))) (sn_ok hSn _ (List.mem_map_of_mem (List.mem_of_getElem? hz33))).1 (by have := (sn_ok hSn _ (List.mem_map_of_mem (List.mem_of_getElem? hz33))).2; omega)) ?_
    rintro _ w37 ⟨_, _, rfl, H37', ⟨F37, rfl, hO37⟩⟩
    have H := H.readersL H37'
    obtain ⟨e237, hP37⟩ := hO37
    obtain ⟨sa37, sc37, rfl⟩ := OwnS.shape hP37
    have hO37 := OIs.mk hP37
    refine ⟨_, Z, ?_⟩
    refine R_nil (N_DK (Kn.of' H hd36 (SubL.cons 1 Z (SubL.cons 5 Z (SubL.cons 7 Z (SubL.cons 8 Z SubL.nil))))) (RD_t 7 Z kR Z (fun _ hK => v_build bf81 Z Z) ?_))
    refine RD_run [8] kR Z (RDs.cons Z ?_ RDs.nil)
    refine o_buildSlice H underlying25 sizeOf81 (fun w => ⟨_, zeroValue81 w, Z⟩) Z Z Z Z Z Z Z ?_; intro b38 w38 hb38 H
    refine R_nil (N_DK (Kn.of' H hd36 (SubL.cons 2 Z (SubL.cons 6 Z (SubL.cons 8 Z (SubL.cons 9 Z SubL.nil))))) ?_)
    refine RD_run [9] kR Z (RDs.cons Z ?_ RDs.nil)
    refine o_append1 3 H (sz := 2) (bytes := 40) underlying25 typeInfo81 ⟨_, Z, Z⟩ Z Z Z Z Z Z Z Z Z Z oM Z ?_; intro v39 w39 H
    have hchk39 := hchk31_0.snoc (show snapO F37 ⟨z33.1, z33.2.flat []⟩ _ from ⟨_, _, _, rfl, hi33, hO37⟩) rfl
    have H := H.toFront (k := 2) rfl
    have H := H.mergeF
    obtain ⟨av39, cv39, rfl⟩ := H.accShape (k := 2) rfl
    refine R_nil (N_DK (Kn.of' H hd36 (SubL.cons 1 Z (SubL.cons 4 Z (SubL.cons 6 Z (SubL.cons 7 Z SubL.nil))))) (RD_t 10 Z kR Z (fun _ hK => v_fieldAddr 2 runUnderlying27 Z sizeOf25 Z Z) ?_))
    refine RD_run [11] kR Z (RDs.cons Z ?_ RDs.nil)
    refine o_store_B 4 H sizeOf25 Z Z Z Z Z Z Z Z ?_; intro w40 H
    refine R_nil (N_DKlast kR kR (N_B (N_K (W_region (o_add Z Z Z oO (mV Z (R_nil ?_)))))))
    have H := H.del (k := 1) rfl
    refine N_lp (hJ := ⟨_, _, _, (xs ++ [⟨z33.1, z33.2.flat []⟩]), (F ++ F37), k + 1, _, Z, hle31, H, ?inv, Z⟩) (hm := ?hm)
    case hm => omega
    case inv => exact ⟨hchk39, aN, (by exact ⟨by omega, by (rw [Sp.take_succ' hz33, List.map_append, ← hxs]; rfl)⟩)⟩
   intro hc32'
   try simp only [nrm] at hc32'
   refine W_exit (N_K_exit (N_LP_exit (N_B_same (N_K (q2 (o_loadagg_B 3 H isAgg27 sizeOf27 Z Z Z Z Z (o_store_B 5 H sizeOf27 Z Z Z Z Z Z Z Z ?_))))))); intro w42 H
   refine q3 (W_ret (ret_unlock 6 H muLib Z call91 Z Z (rs := [.cell 2 27]) results89 ?_)); intro wu5 H
   refine ⟨[_], ⟨⟨_, Z, load_blk 5 H isAgg27 sizeOf27 Z Z Z⟩, trivial⟩, ?_⟩
   have H := H.toFront (k := 1) rfl
   obtain ⟨Fo6, H, hOw6⟩ := H.ownF hchk31_0 aN aN
   have H := H.del (k := 2) rfl
   have H := H.del (k := 3) rfl
   have H := H.del (k := 3) rfl
   have H := H.del (k := 3) rfl
   have H := H.del (k := 3) rfl
   have H := H.del (k := 3) rfl
   have H := H.del (k := 3) rfl
   have H := H.toFront (k := 1) rfl
   have H := H.toFront (k := 2) rfl
   have hxs2 : xs = d.snaps := by (rw [hxs, List.take_of_length_le oM]; exact sn_list hSn)
   exact H.retM ⟨_, _, _, _, _, _, rfl, rfl, hO4, (by (rw [← hT.flat]); exact hO25), (by have h9 := (show OSn _ _ _ from ⟨_, hOw6⟩); (rw [hxs2] at h9); exact h9)⟩
 skip
 refine o_alloc H zeroValue27 Z Z ?_; intro b43 w43 hb43 H
 refine R_nil (N_DK (Kn.of' H hd3 (SubL.cons 1 Z (SubL.cons 2 Z SubL.nil))) ?_)
 refine RD_run [5] kR Z (RDs.cons Z ?_ RDs.nil)
 refine o_call call123 Z Z (i_slist_c _ _ (H.lendSubL [3]) _ _ _ _ _ (H.lendPredL (k := 3) (ks := [3]) Z Z) hm (hS.up (PPlus.le _ _ _)) hVd ) ?_
 rintro _ w44 ⟨_, _, rfl, H44', ⟨F44, rfl, hO44⟩⟩
 have H := H.readersL H44'
 obtain ⟨e244, hP44⟩ := hO44
 obtain ⟨sa44, sc44, rfl⟩ := OwnS.shape hP44
 have hO44 := OHs.mk hP44
 refine ⟨_, Z, ?_⟩
 refine R_nil (N_DK (Kn.of' H hd3 (SubL.cons 2 Z (SubL.cons 3 Z SubL.nil))) ?_)
 refine RD_run [11] kR Z (RDs.cons Z ?_ RDs.nil)
 refine o_call call124 Z Z (i_tlist_c _ _ (H.lendSubL [5]) _ ((H.lendN (k := 5) (ks := [5]) Z Z hN).at (show Nd.at_ T [] = some T from Z)) hT.wf oM) ?_
 rintro _ w45 ⟨_, _, rfl, H45', ⟨F45, rfl, hO45⟩⟩
 have H := H.readersL H45'
 obtain ⟨e245, hP45⟩ := hO45
 obtain ⟨sa45, sc45, rfl⟩ := OwnS.shape hP45
 have hO45 := OIs.mk hP45
 refine ⟨_, Z, ?_⟩
 refine R_nil (N_DK (Kn.of' H hd3 (SubL.cons 3 Z (SubL.cons 4 Z SubL.nil))) (RD_t 12 Z kR Z (fun _ hK => v_build bf27 Z Z) ?_))
 refine RD_run [14] kR Z (RDs.cons Z ?_ RDs.nil)
 refine o_store_B 2 H sizeOf27 Z Z Z Z Z Z Z Z ?_; intro w46 H
 refine R_nil (N_DKlast kR kR (N_K (W_seq (q2 (mV Z (o_nilCheck Z Z (o_fieldAddr 4 runUnderlying131 Z sizeOf129 Z Z Z (o_load_B 4 H isAgg129 Z Z Z Z (o_len_slice underlying129 Z Z (mV Z (q3 (W_block ?_))))))))))))
 have H := H.addNil 81 2
 have H := H.addF
 obtain ⟨ln48, hln48, H⟩ := H.nameAt (k := 4) (off := 2) rfl rfl
 obtain ⟨ln49, hln49, H⟩ := H.name (k := 5) rfl
 obtain ⟨ln50, hln50, H⟩ := H.name (k := 6) rfl
 refine W_lp (hf := (Sub.cons (t := 2) Z (Sub.cons (t := 3) Z (Sub.cons (t := 29) Z (Sub.cons (t := 30) Z Sub.nil))))) (J := fun M w m => ∃ (v : Value) (n : Nat) (cs : List Value) (xs : List (BSnap)) (F : Fr) (k : Nat) (G : PH), M = [(31, .int .i64 (k : Int))] ∧ PLe G0 G ∧ Hp w0 G0 (fps [blk db (cl [.int .i32 0, .int .u32 0, .map (some mb), .pointer (some ⟨T.b, 0, none⟩), .slice adv sn.length cdv] 131), blk mb (.map es ck), frag FT, acc 135 2 (.slice adv sn.length cdv) sn.length c, frag FSq]) w G [frag F, acc 81 2 v n cs, frag F45, frag F44, blk b43 (cl (setN ln48 2 v) 27), blk b1 (cl ln49 27), blk db (cl ln50 131), blk mb (.map es ck), frag FT, acc 135 2 (.slice adv sn.length cdv) sn.length c, frag FSq] ∧ (ChkF snapO 2 cs xs F ∧ n = xs.length ∧ k ≤ sn.length ∧ xs = (sn.take k).map (fun x => (⟨x.1, x.2.flat []⟩ : BSnap))) ∧ m = (sn.length - k)) (h0 := ⟨_, _, _, [], [], 0, _, Z, PLe.refl _, H, ?inv, Z⟩) (round := ?round)
 case inv => exact ⟨ChkF.nil,  by first | rfl | simp | (simp; omega) | omega, (by simp)⟩
 case round =>
  rintro _ w51 _ ⟨v, n, cs, xs, F, k, G51, rfl, hle51, H, hinv51, rfl⟩
  subst hln48
  subst hln49
  subst hln50
  have hchk := hchk.up hle51
  have hNs := hNs.up hle51
  obtain ⟨hchk51_0, hn51_0, hinv51⟩ := hinv51
  obtain ⟨av51_0, cv51_0, rfl⟩ := H.accShape (k := 1) rfl
  obtain ⟨hk, hxs⟩ := hinv51; have hxl6 : xs.length ≤ 6 := by (rw [hxs]; simp; omega)
  refine q2 (o_lss Z Z Z (q3 (W_seq ?_)))
  refine W_cond Z ?_ ?_
  ·intro hc52
   try simp only [nrm] at hc52
   refine W_skip (N_K (W_seq (W_block (q2 (o_index_A 9 H k Z hchk underlying129 sizeOf135 Z Z Z Z aN aN ?_))))); intro ba53 z53 q53 hba53 hz53 hE53 hg53; cases hba53
   obtain ⟨rfl, hi53⟩ := hE53; have hy_hi53 : _ ≤ 16777216 := hi53
   refine o_loadagg_A 9 H isAgg135 sizeOf135 Z Z Z hg53 Z (o_alloc H zeroValue135 Z Z ?_); intro b54 w54 hb54 H
   refine o_store_B 0 H sizeOf135 Z Z Z Z Z Z Z Z ?_; intro w55 H
   refine q3 (W_drawK [0, 5, 6, 7] 12 H kR Z ?_); intro w56 H; have hd56 := PLe.refl G51
   refine RD_t 0 Z kR Z (fun _ hK => v_fieldAddr 2 runUnderlying27 Z sizeOf25 Z Z) (RD_t 1 Z kR Z (fun _ hK => v_load_B 1 hK isAgg25 Z Z Z) (RD_t 2 Z kR Z (fun _ hK => v_fieldAddr 0 runUnderlying135 Z sizeOf9 Z Z) (RD_t 3 Z kR Z (fun _ hK => v_load_B 0 hK isAgg9 Z Z Z) (RD_t 4 Z kR Z (fun _ hK => v_fieldAddr 1 runUnderlying135 Z sizeOf97 Z Z) (RD_t 5 Z kR Z (fun _ hK => v_load_B 0 hK isAgg97 Z Z Z) ?_)))))
   refine RD_run [6] kR Z (RDs.cons Z ?_ RDs.nil)
   refine o_call call124 Z Z (i_tlist_c _ _ (H.lendSubL [11]) _ (H.lendNs (k := 11) (ks := [11]) Z Z hNs z53.2 (List.mem_map_of_mem (List.mem_of_getElem? hz53))) (sn_ok hSn _ (List.mem_map_of_mem (List.mem_of_getElem? hz53))).1 (by have := (sn_ok hSn _ (List.mem_map_of_mem (List.mem_of_getElem? hz53))).2; omega)) ?_
   rintro _ w57 ⟨_, _, rfl, H57', ⟨F57, rfl, hO57⟩⟩
   have H := H.readersL H57'
   obtain ⟨e257, hP57⟩ := hO57
   obtain ⟨sa57, sc57, rfl⟩ := OwnS.shape hP57
   have hO57 := OIs.mk hP57
   refine ⟨_, Z, ?_⟩
   refine R_nil (N_DK (Kn.of' H hd56 (SubL.cons 1 Z (SubL.cons 6 Z (SubL.cons 7 Z (SubL.cons 8 Z SubL.nil))))) (RD_t 7 Z kR Z (fun _ hK => v_build bf81 Z Z) ?_))
   refine RD_run [8] kR Z (RDs.cons Z ?_ RDs.nil)
   refine o_buildSlice H underlying25 sizeOf81 (fun w => ⟨_, zeroValue81 w, Z⟩) Z Z Z Z Z Z Z ?_; intro b58 w58 hb58 H
   refine R_nil (N_DK (Kn.of' H hd56 (SubL.cons 2 Z (SubL.cons 7 Z (SubL.cons 8 Z (SubL.cons 9 Z SubL.nil))))) ?_)
   refine RD_run [9] kR Z (RDs.cons Z ?_ RDs.nil)
   refine o_append1 3 H (sz := 2) (bytes := 40) underlying25 typeInfo81 ⟨_, Z, Z⟩ Z Z Z Z Z Z Z Z Z Z oM Z ?_; intro v59 w59 H
   have hchk59 := hchk51_0.snoc (show snapO F57 ⟨z53.1, z53.2.flat []⟩ _ from ⟨_, _, _, rfl, hi53, hO57⟩) rfl
   have H := H.toFront (k := 2) rfl
   have H := H.mergeF
   obtain ⟨av59, cv59, rfl⟩ := H.accShape (k := 2) rfl
   refine R_nil (N_DK (Kn.of' H hd56 (SubL.cons 1 Z (SubL.cons 5 Z (SubL.cons 6 Z (SubL.cons 7 Z SubL.nil))))) (RD_t 10 Z kR Z (fun _ hK => v_fieldAddr 2 runUnderlying27 Z sizeOf25 Z Z) ?_))
   refine RD_run [11] kR Z (RDs.cons Z ?_ RDs.nil)
   refine o_store_B 5 H sizeOf25 Z Z Z Z Z Z Z Z ?_; intro w60 H
   refine R_nil (N_DKlast kR kR (N_B (N_K (W_region (o_add Z Z Z oO (mV Z (R_nil ?_)))))))
   have H := H.del (k := 1) rfl
   refine N_lp (hJ := ⟨_, _, _, (xs ++ [⟨z53.1, z53.2.flat []⟩]), (F ++ F57), k + 1, _, Z, hle51, H, ?inv, Z⟩) (hm := ?hm)
   case hm => omega
   case inv => exact ⟨hchk59, aN, (by exact ⟨by omega, by (rw [Sp.take_succ' hz53, List.map_append, ← hxs]; rfl)⟩)⟩
  intro hc52'
  try simp only [nrm] at hc52'
  refine W_exit (N_K_exit (N_LP_exit (N_B_same (N_K (q2 (o_loadagg_B 4 H isAgg27 sizeOf27 Z Z Z Z Z (o_store_B 5 H sizeOf27 Z Z Z Z Z Z Z Z ?_))))))); intro w62 H
  refine q3 (W_ret (ret_unlock 6 H muLib Z call91 Z Z (rs := [.cell 2 27]) results89 ?_)); intro wu8 H
  refine ⟨[_], ⟨⟨_, Z, load_blk 5 H isAgg27 sizeOf27 Z Z Z⟩, trivial⟩, ?_⟩
  have H := H.toFront (k := 1) rfl
  obtain ⟨Fo9, H, hOw9⟩ := H.ownF hchk51_0 aN aN
  have H := H.del (k := 3) rfl
  have H := H.del (k := 3) rfl
  have H := H.del (k := 3) rfl
  have H := H.del (k := 3) rfl
  have H := H.del (k := 3) rfl
  have H := H.del (k := 3) rfl
  have H := H.del (k := 3) rfl
  have H := H.toFront (k := 1) rfl
  have H := H.toFront (k := 2) rfl
  have hxs2 : xs = d.snaps := by (rw [hxs, List.take_of_length_le oM]; exact sn_list hSn)
  exact H.retM ⟨_, _, _, _, _, _, rfl, rfl, hO44, (by (rw [← hT.flat]); exact hO45), (by have h9 := (show OSn _ _ _ from ⟨_, hOw9⟩); (rw [hxs2] at h9); exact h9)⟩
end Go.Proofs.Tst

namespace Go.Proofs.Tst
open Go Fw Tryz
theorem i_clone_r : ∀ (N : Nat) (w0 : World) (G0 : PH) (hG : PSub G0 w0) (t : Nd) (hndt : RdN G0 t) (hct : t.cnt ≤ 1000) (hsz : t.size ≤ N),
  Calls Tryz.prog 94 #[.pointer (some ⟨t.b, 0, none⟩)] w0 (RetN w0 G0 (fun v Bs => ∃ (F : Fr) (T : Nd), v = .pointer (some ⟨T.b, 0, none⟩) ∧ Bs = [frag F] ∧ NdC 149 97 T F ∧ T.strip = t.strip)) := by
 intro N
 induction N with
 | zero => intro w0 G0 hG t hndt hct hsz; exact absurd (Nd.size_pos t) oM
 | succ N ih =>
 intro w0 G0 hG t hndt hct hsz
 obtain ⟨hnlt, nat, nmt, nct, nAt, nMt, nCt, hprt, hrit, hrkt⟩ := hndt.open
 have hn_hrit := hrit.len; have hx_hrit : _ ≤ 1099511627776 := hrit.lim
 have hn_hrkt := hrkt.len; have hx_hrkt : _ ≤ 1099511627776 := hrkt.lim
 have H := Hp.init hG
 refine calls_of_W (l := [.pointer (some ⟨t.b, 0, none⟩)]) func94 Z ntmps94 Z (q2 (aG Z (q3 (W_seq (W_drawK [] 16 H kR Z ?_))))); intro w1 H; have hd1 := PLe.refl G0
 refine vM 0 Z Z (RD_t 1 Z kR Z (fun _ hK => v_nilCheck Z) (RD_t 2 Z kR Z (fun _ hK => v_fieldAddr 0 runUnderlying149 Z sizeOf9 Z Z) (RD_t 3 Z kR Z (fun _ hK => v_load_P hK isAgg9 Z (hprt 0 _ Z)) (vM 4 Z Z (RD_t 5 Z kR Z (fun _ hK => v_nilCheck Z) (RD_t 6 Z kR Z (fun _ hK => v_fieldAddr 1 runUnderlying149 Z sizeOf4 Z Z) (RD_t 7 Z kR Z (fun _ hK => v_load_P hK isAgg4 Z (hprt 1 _ Z)) (vM 8 Z Z (RD_t 9 Z kR Z (fun _ hK => v_nilCheck Z) (RD_t 10 Z kR Z (fun _ hK => v_fieldAddr 2 runUnderlying149 Z sizeOf33 Z Z) (RD_t 11 Z kR Z (fun _ hK => v_load_P hK isAgg33 Z (hprt 2 _ Z)) ?_)))))))))))
 refine RD_run [12] kR Z (RDs.cons Z ?_ RDs.nil)
 refine o_call call141 Z Z (l_Clone_c _ _ H.sub _ _ hrit ) ?_
 rintro _ w2 ⟨G2, v2, _, g2, rfl, ⟨cs2, rfl, hchk2⟩, hp2, hq2, hs2⟩
 have H := H.growO g2 hp2 hq2 hs2; obtain ⟨av2, cv2, rfl⟩ := H.accShape (k := 0) rfl
 have hprt := hprt.up g2.le
 have hrkt := hrkt.up g2.le
 have hd1 := hd1.trans g2.le
 refine ⟨_, Z, ?_⟩
 refine R_nil (N_DK (Kn.of' H hd1 SubL.nil) (RD_t 13 Z kR Z (fun _ hK => v_build bf149 Z Z) ?_))
 refine RD_run [14] kR Z (RDs.cons Z ?_ RDs.nil)
 refine o_box H Z Z Z ?_; intro b3 w3 hb3 H
 refine R_nil (N_DK (Kn.of' H hd1 SubL.nil) (RD_t 15 Z kR Z (fun _ hK => v_assign Z) (RD_done kR (N_K (W_seq (q2 (mV Z (o_nilCheck Z Z (o_fieldAddr 3 runUnderlying149 Z sizeOf147 Z Z Z (o_load_P H isAgg147 Z Z (hprt 3 _ Z) (o_len_slice underlying147 Z Z (mV Z (q3 (W_block ?_))))))))))))))
 obtain ⟨Fi1, H, hOI1⟩ := H.ownI (k := 1) rfl hchk2 aN aN
 have hOIc := hOI1
 have H := H.addF
 have H := H.addNil 97 1
 obtain ⟨ln5, hln5, H⟩ := H.nameAt (k := 3) (off := 3) rfl rfl
 refine W_lp (hf := (Sub.cons (t := 2) Z (Sub.cons (t := 3) Z (Sub.cons (t := 24) Z (Sub.cons (t := 25) Z Sub.nil))))) (J := fun M w m => ∃ (v : Value) (n : Nat) (cs : List Value) (xs : List (Nd)) (k : Nat) (FK : Fr) (G : PH), M = [(26, .int .i64 (k : Int))] ∧ PLe G2 G ∧ Hp w0 G0 [] w G [acc 97 1 v n cs, frag FK, frag Fi1, blk b3 (cl (setN ln5 3 v) 149)] ∧ (Chk kdE 1 G cs xs ∧ n = xs.length ∧ k ≤ t.kids.length ∧ NdsC 149 97 xs FK ∧ xs.map Nd.strip = (t.kids.take k).map Nd.strip) ∧ m = (t.kids.length - k)) (h0 := ⟨_, _, _, [], 0, [], _, Z, PLe.refl _, H, ?inv, Z⟩) (round := ?round)
 case inv => exact ⟨(Chk.nil (E := kdE) (sz := 1) (G := G2)),  by first | rfl | simp | (simp; omega) | omega, (by simp [NdsC])⟩
 case round =>
  rintro _ w6 _ ⟨v, n, cs, xs, k, FK, G6, rfl, hle6, H, hinv6, rfl⟩
  subst hln5
  have hrkt := hrkt.up hle6
  obtain ⟨hchk6_0, hn6_0, hinv6⟩ := hinv6
  obtain ⟨av6_0, cv6_0, rfl⟩ := H.accShape (k := 0) rfl
  obtain ⟨hk, hKs, hst0⟩ := hinv6; have hxl0 := congrArg List.length hst0; simp at hxl0; have hkl0 := Nd.kids_le t
  refine q2 (o_lss Z Z Z (q3 (W_seq ?_)))
  refine W_cond Z ?_ ?_
  ·intro hc7
   try simp only [nrm] at hc7
   refine W_skip (N_K (W_seq (W_block (q2 (o_index_P k hrkt underlying147 sizeOf97 Z Z Z Z aN ?_))))); intro b8 o8 z8 q8 hz8 hE8 hrow8
   obtain ⟨rfl, hnd8⟩ := hE8; obtain ⟨hnl8, na8, nm8, nc8, nA8, nM8, nC8, hpr8, hri8, hrk8⟩ := hnd8.open; have hn_hri8 := hri8.len; have hx_hri8 : _ ≤ 1099511627776 := hri8.lim; have hn_hrk8 := hrk8.len; have hx_hrk8 : _ ≤ 1099511627776 := hrk8.lim
   have hzm := List.mem_of_getElem? hz8; have hzc := Nd.kid_cnt hzm; have hzs := Nd.size_kid hzm
   refine o_load_P H isAgg97 Z Z (hrow8 0 _ Z) (aG Z (q3 (W_drawK [] 12 H kR Z ?_))); intro w9 H; have hd9 := PLe.refl G6
   refine vM 0 Z Z (vM 1 Z Z (RD_t 2 Z kR Z (fun _ hK => v_nilCheck Z) (RD_t 3 Z kR Z (fun _ hK => v_fieldAddr 3 runUnderlying149 Z sizeOf147 Z Z) (vM 5 Z Z ?_))))
   refine RD_run [4, 6] kR Z (RDs.cons Z ?_ (RDs.cons Z ?_ RDs.nil))
   ·skip
    refine o_load_B 3 H isAgg147 Z Z Z Z (R_nil (N_DK (Kn.of' H hd9 SubL.nil) ?_))
    refine RD_run [6] kR Z (RDs.cons Z ?_ RDs.nil)
    refine o_call call94 Z Z (ih _ _ H.sub _ hnd8 oM oM) ?_
    rintro _ w10 ⟨_, _, rfl, H10', ⟨F10, T10, rfl, rfl, hNC10, hst10⟩⟩
    have H := H.readers (fp := []) (by simp) (PLe.refl _) H10'
    refine ⟨_, Z, ?_⟩
    refine R_nil (N_DK (Kn.of' H hd9 SubL.nil) ?_)
    refine RD_run [7] kR Z (RDs.cons Z ?_ RDs.nil)
    refine o_buildSlice H underlying147 sizeOf97 (fun w => ⟨_, zeroValue97 w, Z⟩) Z Z Z Z Z Z Z ?_; intro b11 w11 hb11 H
    refine R_nil (N_DK (Kn.of' H hd9 SubL.nil) ?_)
    refine RD_run [8] kR Z (RDs.cons Z ?_ RDs.nil)
    refine o_append1 1 H (sz := 1) (bytes := 8) underlying147 typeInfo97 ⟨_, Z, Z⟩ Z Z Z Z Z Z Z Z Z Z oM Z ?_; intro v12 w12 H
    have hchk12 := hchk6_0.snoc (show kdE _ T10 _ from rfl) rfl
    obtain ⟨av12, cv12, rfl⟩ := H.accShape (k := 1) rfl
    refine R_nil (N_DK (Kn.of' H hd9 SubL.nil) (RD_t 9 Z kR Z (fun _ hK => v_nilCheck Z) (RD_t 10 Z kR Z (fun _ hK => v_fieldAddr 3 runUnderlying149 Z sizeOf147 Z Z) ?_)))
    refine RD_run [11] kR Z (RDs.cons Z ?_ RDs.nil)
    have H := H.toFront (k := 2) rfl
    have H := H.mergeF
    refine o_store_B 3 H sizeOf147 Z Z Z Z Z Z Z Z ?_; intro w13 H
    refine R_nil (N_DK (Kn.of' H hd9 SubL.nil) (RD_done kR (N_B (N_K (W_region (o_add Z Z Z oO (mV Z (R_nil ?_))))))))
    have H := H.toFront (k := 3) rfl
    have H := H.toFront (k := 3) rfl
    have H := H.toFront (k := 2) rfl
    have H := H.toFront (k := 3) rfl
    refine N_lp (hJ := ⟨_, _, _, (xs ++ [T10]), k + 1, (FK ++ F10), _, Z, hle6, H, ?inv, Z⟩) (hm := ?hm)
    case hm => omega
    case inv => exact ⟨hchk12, aN, (by exact ⟨by omega, hKs.snoc hNC10, Nd.strip_take hz8 hst0 hst10⟩)⟩
   skip
   refine o_call call94 Z Z (ih _ _ H.sub _ hnd8 oM oM) ?_
   rintro _ w15 ⟨_, _, rfl, H15', ⟨F15, T15, rfl, rfl, hNC15, hst15⟩⟩
   have H := H.readers (fp := []) (by simp) (PLe.refl _) H15'
   refine ⟨_, Z, ?_⟩
   refine R_nil (N_DK (Kn.of' H hd9 SubL.nil) ?_)
   refine RD_run [4, 7] kR Z (RDs.cons Z ?_ (RDs.cons Z ?_ RDs.nil))
   ·skip
    refine o_load_B 4 H isAgg147 Z Z Z Z (R_nil (N_DK (Kn.of' H hd9 SubL.nil) ?_))
    refine RD_run [7] kR Z (RDs.cons Z ?_ RDs.nil)
    refine o_buildSlice H underlying147 sizeOf97 (fun w => ⟨_, zeroValue97 w, Z⟩) Z Z Z Z Z Z Z ?_; intro b16 w16 hb16 H
    refine R_nil (N_DK (Kn.of' H hd9 SubL.nil) ?_)
    refine RD_run [8] kR Z (RDs.cons Z ?_ RDs.nil)
    refine o_append1 1 H (sz := 1) (bytes := 8) underlying147 typeInfo97 ⟨_, Z, Z⟩ Z Z Z Z Z Z Z Z Z Z oM Z ?_; intro v17 w17 H
    have hchk17 := hchk6_0.snoc (show kdE _ T15 _ from rfl) rfl
    obtain ⟨av17, cv17, rfl⟩ := H.accShape (k := 1) rfl
    refine R_nil (N_DK (Kn.of' H hd9 SubL.nil) (RD_t 9 Z kR Z (fun _ hK => v_nilCheck Z) (RD_t 10 Z kR Z (fun _ hK => v_fieldAddr 3 runUnderlying149 Z sizeOf147 Z Z) ?_)))
    refine RD_run [11] kR Z (RDs.cons Z ?_ RDs.nil)
    have H := H.toFront (k := 2) rfl
    have H := H.mergeF
    refine o_store_B 3 H sizeOf147 Z Z Z Z Z Z Z Z ?_; intro w18 H
    refine R_nil (N_DK (Kn.of' H hd9 SubL.nil) (RD_done kR (N_B (N_K (W_region (o_add Z Z Z oO (mV Z (R_nil ?_))))))))
    have H := H.toFront (k := 3) rfl
    have H := H.toFront (k := 3) rfl
    have H := H.toFront (k := 2) rfl
    have H := H.toFront (k := 3) rfl
    refine N_lp (hJ := ⟨_, _, _, (xs ++ [T15]), k + 1, (FK ++ F15), _, Z, hle6, H, ?inv, Z⟩) (hm := ?hm)
    case hm => omega
    case inv => exact ⟨hchk17, aN, (by exact ⟨by omega, hKs.snoc hNC15, Nd.strip_take hz8 hst0 hst15⟩)⟩
   skip
   refine o_buildSlice H underlying147 sizeOf97 (fun w => ⟨_, zeroValue97 w, Z⟩) Z Z Z Z Z Z Z ?_; intro b20 w20 hb20 H
   refine R_nil (N_DK (Kn.of' H hd9 SubL.nil) ?_)
   refine RD_run [4] kR Z (RDs.cons Z ?_ RDs.nil)
   refine o_load_B 5 H isAgg147 Z Z Z Z (R_nil (N_DK (Kn.of' H hd9 SubL.nil) ?_))
   refine RD_run [8] kR Z (RDs.cons Z ?_ RDs.nil)
   refine o_append1 1 H (sz := 1) (bytes := 8) underlying147 typeInfo97 ⟨_, Z, Z⟩ Z Z Z Z Z Z Z Z Z Z oM Z ?_; intro v21 w21 H
   have hchk21 := hchk6_0.snoc (show kdE _ T15 _ from rfl) rfl
   obtain ⟨av21, cv21, rfl⟩ := H.accShape (k := 1) rfl
   refine R_nil (N_DK (Kn.of' H hd9 SubL.nil) (RD_t 9 Z kR Z (fun _ hK => v_nilCheck Z) (RD_t 10 Z kR Z (fun _ hK => v_fieldAddr 3 runUnderlying149 Z sizeOf147 Z Z) ?_)))
   refine RD_run [11] kR Z (RDs.cons Z ?_ RDs.nil)
   have H := H.toFront (k := 2) rfl
   have H := H.mergeF
   refine o_store_B 3 H sizeOf147 Z Z Z Z Z Z Z Z ?_; intro w22 H
   refine R_nil (N_DK (Kn.of' H hd9 SubL.nil) (RD_done kR (N_B (N_K (W_region (o_add Z Z Z oO (mV Z (R_nil ?_))))))))
   have H := H.toFront (k := 3) rfl
   have H := H.toFront (k := 3) rfl
   have H := H.toFront (k := 2) rfl
   have H := H.toFront (k := 3) rfl
   refine N_lp (hJ := ⟨_, _, _, (xs ++ [T15]), k + 1, (FK ++ F15), _, Z, hle6, H, ?inv, Z⟩) (hm := ?hm)
   case hm => omega
   case inv => exact ⟨hchk21, aN, (by exact ⟨by omega, hKs.snoc hNC15, Nd.strip_take hz8 hst0 hst15⟩)⟩
  intro hc7'
  try simp only [nrm] at hc7'
  refine W_exit (N_K_exit (N_LP_exit (N_B_same (N_K (q2 (mV Z (aG Z (q3 (W_ret (rt1 results94 Z ?_))))))))))
  have H := H.toFront (k := 2) rfl
  have H := H.toFront (k := 3) rfl
  have H := H.toFront (k := 3) rfl
  have H := H.toFront (k := 3) rfl
  have hst : xs.map Nd.strip = t.kids.map Nd.strip := by (have h9 := hst0; rw [List.take_of_length_le oM] at h9; exact h9)
  have hxl := Nd.strip_len hst; have hkl := Nd.kids_le t
  obtain rfl : n = xs.length := by assumption
  obtain ⟨FT, H, hNC⟩ := Hp.makeC (ks := xs) (by (have hcc := hchk6_0.kd; rw [hcc] at H; exact H)) hnlt oM hOIc hKs
  have H := H.forget hG (by simp)
  exact ⟨_, _, Z, H, FT, _, Z, Z, hNC, Nd.strip_mk hst⟩
theorem i_clone_c (w0 : World) (G0 : PH) (hG : PSub G0 w0) (t : Nd) (hndt : RdN G0 t) (hct : t.cnt ≤ 1000) :
  Calls Tryz.prog 94 #[.pointer (some ⟨t.b, 0, none⟩)] w0 (RetN w0 G0 (fun v Bs => ∃ (F : Fr) (T : Nd), v = .pointer (some ⟨T.b, 0, none⟩) ∧ Bs = [frag F] ∧ NdC 149 97 T F ∧ T.strip = t.strip)) := i_clone_r _ w0 G0 hG t hndt hct (Nat.le_refl _)
end Go.Proofs.Tst

namespace Go.Proofs.Tst
open Go Fw Tryz
theorem i_freeTree_c (w0 : World) (G0 : PH) (hG : PSub G0 w0) (mbs : Nat) (ess : Array MapEntry) (cks : Nat) (xss : List (Int × Value)) (Ls : List BHeld) (hms : MapIs (Value.int .i64) ess cks xss) (hSs : StR G0 xss Ls) (hVs : Sp.VH Ls) (Ft : Fr) (t : Nd) (hNt : NdO 149 97 G0 t Ft) (hLent : Lent w0 G0 [blk mbs (.map ess cks), frag Ft]) (hwt : t.wf) (hct : t.cnt ≤ 1000) :
  Calls Tryz.prog 114 #[.map (some mbs), .pointer (some ⟨t.b, 0, none⟩)] w0 (RetM w0 G0 (fps [blk mbs (.map ess cks), frag Ft]) (fun G' v Bs => ∃ (es' : Array MapEntry) (ck' : Nat) (xs' : List (Int × Value)) (L' : List BHeld), v = .bool (Sp.freeTs Ls (t.flat [])).isSome ∧ Bs = [blk mbs (.map es' ck'), frag Ft] ∧ MapIs (Value.int .i64) es' ck' xs' ∧ StR G' xs' L' ∧ Sp.VH L' ∧ ∀ l, Sp.freeTs Ls (t.flat []) = some l → L' = l)) := by
 have hfl := Nd.flat_len [] t
 have H : Hp w0 G0 (fps [blk mbs (.map ess cks), frag Ft]) w0 G0 [blk mbs (.map ess cks), frag Ft] := hLent.hp
 refine calls_of_W (l := [.map (some mbs), .pointer (some ⟨t.b, 0, none⟩)]) func114 Z ntmps114 Z (q2 (aG Z (q3 (W_seq (q2 (mV Z (o_call call124 Z Z (i_tlist_c _ _ (H.lendSubL [1]) _ ((H.lendN (k := 1) (ks := [1]) Z Z hNt).at (show Nd.at_ t [] = some t from Z)) hwt hct) ?_)))))))
 rintro _ w1 ⟨_, _, rfl, H1', ⟨F1, rfl, hO1⟩⟩
 have H := H.readersL H1'
 obtain ⟨e21, hP1⟩ := hO1
 obtain ⟨sa1, sc1, rfl⟩ := OwnS.shape hP1
 have hO1 := OIs.mk hP1
 refine ⟨_, Z, ?_⟩
 have hdm1 := dm_nodup H (k := 0) rfl; obtain ⟨Gk1, H, hkl1, hks1⟩ := H.keepF (k := 0) rfl (H.apart (k := 0) (ks := [1, 2]) rfl rfl (by intro b hb; simp only [fps, List.flatMap_cons, List.flatMap_nil, List.append_nil, List.mem_append] at hb; rcases hb with h | h; (· exact fpsAt_mem (k := 1) rfl rfl b (by exact h)); (· exact fpsAt_mem (k := 2) rfl rfl b (by exact h))))
 have hrk1 := hO1.rd hks1 hdm1
 have hSs := hSs.up hkl1
 have hn_hrk1 := hrk1.len
 refine o_len_slice underlying24 Z Z (mV Z (q3 (W_block ?_)))
 refine W_lp (hf := (Sub.cons (t := 0) Z (Sub.cons (t := 8) Z (Sub.cons (t := 9) Z Sub.nil)))) (J := fun M w m => ∃ (esm0 : Array MapEntry) (ckm0 : Nat) (xsm0 : List (Int × Value)) (Lm0 : List BHeld) (k : Nat) (G : PH), M = [(10, .int .i64 (k : Int))] ∧ PLe Gk1 G ∧ Hp w0 G0 (fps [blk mbs (.map ess cks), frag Ft]) w G [blk mbs (.map esm0 ckm0), frag Ft] ∧ (MapIs (Value.int .i64) esm0 ckm0 xsm0 ∧ StR G xsm0 Lm0 ∧ Sp.VH Lm0 ∧ k ≤ (t.flat []).length ∧ Sp.foldB Sp.freeF ((t.flat []).take k) (some Ls) = some Lm0) ∧ m = ((t.flat []).length - k)) (h0 := ⟨_, _, xss, Ls, 0, _, Z, PLe.refl _, H, ?inv, Z⟩) (round := ?round)
 case inv => exact ⟨hms, hSs, hVs, (by simp [Sp.foldB])⟩
 case round =>
  rintro _ w2 _ ⟨esm0, ckm0, xsm0, Lm0, k, G2, rfl, hle2, H, hinv2, rfl⟩
  have hrk1 := hrk1.up hle2
  obtain ⟨hm2_m0, hS2_m0, hV2_m0, hinv2⟩ := hinv2
  obtain ⟨hk, hf⟩ := hinv2
  refine q2 (o_lss Z Z Z (q3 (W_seq ?_)))
  refine W_cond Z ?_ ?_
  ·intro hc3
   try simp only [nrm] at hc3
   refine W_skip (N_K (W_seq (W_block (q2 (o_index_P k hrk1 underlying24 sizeOf37 Z Z Z Z aN ?_))))); intro b4 o4 z4 q4 hz4 hE4 hrow4
   obtain ⟨a4, m4, c4, rfl, hi4, hr4⟩ := hE4; have hy_hi4 : _ ≤ 16777216 := hi4; have hn_hr4 := hr4.len; have hx_hr4 : _ ≤ 1099511627776 := hr4.lim
   refine o_loadagg_P H isAgg37 sizeOf37 Z Z hrow4 Z (o_alloc H zeroValue37 Z Z ?_); intro b5 w5 hb5 H
   refine o_store_B 0 H sizeOf37 Z Z Z Z Z Z Z Z ?_; intro w6 H
   refine q1 (mV Z (o_fieldAddr 2 runUnderlying37 Z sizeOf33 Z Z Z (o_load_B 0 H isAgg33 Z Z Z Z ?_)))
   have H := H.toFront (k := 1) rfl
   refine o_call call122 Z Z (i_freeFile_c _ _ H.sub _ _ _ _ _ hm2_m0 hS2_m0 hV2_m0 _ _ hr4 H.lent1 ) ?_
   rintro _ w7 ⟨G7, _, _, rfl, H7', ⟨es7, ck7, xs7, L7, rfl, rfl, hm7, hS7, hV7, hL7⟩⟩
   have hle2 := hle2.trans H7'.le
   have H := H.borrow1 H7'
   refine ⟨_, Z, ?_⟩
   refine o_not Z Z (q3 ?_)
   refine W_cond Z ?_ ?_
   ·intro hc8
    try simp only [nrm] at hc8
    refine q2 (aG Z (q3 (W_ret (N_B_ret (N_K_ret (N_LP_ret (N_B_ret (N_K_ret (rt1 results114 Z ?_)))))))))
    have H := H.del (k := 1) rfl
    have H := H.toFront (k := 1) rfl
    have H := H.toFront (k := 1) rfl
    have hno : Sp.freeTs Ls (t.flat []) = none := by (have hno : Sp.freeF Lm0 z4 = none := (show Sp.FileFree Lm0 z4.ids = none by simpa using hc8)); exact Sp.foldB_stop hf hz4 hno
    exact H.retM ⟨_, _, _, _, congrArg Value.bool (by rw [hno]; rfl), rfl, hm7, hS7, hV7, fun l hl => by rw [hno] at hl; cases hl⟩
   intro hc8'
   try simp only [nrm] at hc8'
   obtain ⟨p, hsp⟩ := Option.isSome_iff_exists.1 (show (Sp.FileFree Lm0 z4.ids).isSome = true by simpa using hc8')
   have hLp := hL7 p hsp; subst hLp
   have hsp : Sp.freeF Lm0 z4 = some L7 := hsp
   refine W_skip (N_B (N_K (W_region (o_add Z Z Z oO (mV Z (R_nil ?_))))))
   have H := H.del (k := 1) rfl
   refine N_lp (hJ := ⟨_, _, xs7, L7, k + 1, _, Z, hle2, H, ?inv, Z⟩) (hm := ?hm)
   case hm => omega
   case inv => exact ⟨hm7, hS7, hV7, (by exact ⟨by omega, Sp.foldB_succ hf hz4 hsp⟩)⟩
  intro hc3'
  try simp only [nrm] at hc3'
  refine W_exit (N_K_exit (N_LP_exit (N_B_same (N_K (q2 (aG Z (q3 (W_ret (rt1 results114 Z ?_)))))))))
  have H := H.toFront (k := 1) rfl
  have H := H.toFront (k := 1) rfl
  have hyes : Sp.freeTs Ls (t.flat []) = some Lm0 := Sp.foldB_all hf oM
  exact H.retM ⟨_, _, _, _, congrArg Value.bool (by rw [hyes]; rfl), rfl, hm2_m0, hS2_m0, hV2_m0, fun l hl => by rw [hyes] at hl; cases hl; rfl⟩
end Go.Proofs.Tst

namespace Go.Proofs.Tst
open Go Fw Tryz
theorem i_back_c (w0 : World) (G0 : PH) (hG : PSub G0 w0) (db mb : Nat) (es : Array MapEntry) (ck : Nat) (xs : List (Int × Value)) (T : Nd) (FT : Fr) (sv : Value) (sn : List (Bs × Nd)) (c : List Value) (FSq : Fr) (d : BDisk) (hm : MapIs (Value.int .i64) es ck xs) (hS : StR G0 xs d.store) (hN : NdO 149 97 G0 T FT) (hT : Nd.TOK T d.tree) (hchk : Chk osE 2 G0 c sn) (hNs : NdsO 149 97 G0 (sn.map (·.2)) FSq) (hSn : SnOK sn d.snaps) (hdv : Sp.DiskValid d = true) (name : Bs) (hname : name.length ≤ 16777216) (hLent : Lent w0 G0 [blk db (cl [.int .i32 0, .int .u32 0, .map (some mb), .pointer (some ⟨T.b, 0, none⟩), sv] 131), blk mb (.map es ck), frag FT, acc 135 2 sv sn.length c, frag FSq])  :
  Calls Tryz.prog 59 #[.pointer (some ⟨db, 0, none⟩), str name] w0 (RetM w0 G0 (fps [blk db (cl [.int .i32 0, .int .u32 0, .map (some mb), .pointer (some ⟨T.b, 0, none⟩), sv] 131), blk mb (.map es ck), frag FT, acc 135 2 sv sn.length c, frag FSq]) (fun G' v Bs => ∃ (es' : Array MapEntry) (ck' : Nat) (xs' : List (Int × Value)) (F' : Fr) (T' : Nd) (sv' : Value) (sn' : List (Fw.Bs × Nd)) (c' : List Value) (FSq' : Fr) (L' : List BHeld), v = .bool (Sp.SnapBack d name).isSome ∧ Bs = [blk db (cl [.int .i32 0, .int .u32 0, .map (some mb), .pointer (some ⟨T'.b, 0, none⟩), sv'] 131), blk mb (.map es' ck'), frag F', acc 135 2 sv' sn'.length c', frag FSq'] ∧ MapIs (Value.int .i64) es' ck' xs' ∧ StR G' xs' L' ∧ Sp.VH L' ∧ NdO 149 97 G' T' F' ∧ Chk osE 2 G' c' sn' ∧ NdsO 149 97 G' (sn'.map (·.2)) FSq' ∧ ∀ d', Sp.SnapBack d name = some d' → L' = d'.store ∧ Nd.TOK T' d'.tree ∧ SnOK sn' d'.snaps)) := by
 have H : Hp w0 G0 (fps [blk db (cl [.int .i32 0, .int .u32 0, .map (some mb), .pointer (some ⟨T.b, 0, none⟩), sv] 131), blk mb (.map es ck), frag FT, acc 135 2 sv sn.length c, frag FSq]) w0 G0 [blk db (cl [.int .i32 0, .int .u32 0, .map (some mb), .pointer (some ⟨T.b, 0, none⟩), sv] 131), blk mb (.map es ck), frag FT, acc 135 2 sv sn.length c, frag FSq] := hLent.hp
 obtain ⟨adv, cdv, rfl⟩ := H.accShape (k := 3) rfl; have hVd := Sp.valid_iff.1 (Sp.dv_parts.1 hdv).1; have hTv := (Sp.dv_parts.1 hdv).2.1; have hTc := hT.cnt; have hTl := Sp.tree_len hTv; have hsnl := hSn.len; have hsn6 := (Sp.dv_parts.1 hdv).2.2.1
 refine calls_of_WD (l := [.pointer (some ⟨db, 0, none⟩), str name]) func59 Z ntmps59 Z (q2 (aG Z (q1 (mV Z (o_nilCheck Z Z (o_fieldAddr 0 runUnderlying131 Z sizeOf128 Z Z Z (o_lock 0 H muLib Z call90 Z Z Z Z ?_))))))); intro w1 H
 refine q1 (mV Z (o_nilCheck Z Z (o_fieldAddr 0 runUnderlying131 Z sizeOf128 Z Z Z (o_defer Z (q1 (mV Z (mV Z (o_call call93 Z Z (i_snapAt_c _ _ (H.lendSubL [0, 3]) _ _ _ _ _ _ _ (prow_blk (H.lendPredL (k := 0) (ks := [0, 3]) Z Z)) (H.lendRdL (k := 3) (ks := [0, 3]) Z Z hchk aN aN) _ hname ) ?_))))))))
 rintro _ w2 ⟨rfl, ew2⟩; have H := H.step ew2; refine ⟨_, rfl, ?_⟩
 refine aG Z (q3 (W_seq (W_seq (W_drawK [0] 33 H kR Z ?_)))); intro w3 H; have hd3 := PLe.refl G0
 refine vM 0 Z Z (RD_t 1 Z kR Z (fun _ hK => v_lss Z Z) (vM 2 Z Z ?_))
 refine RD_case (t := 18) Z ?_ ?_
 ·intro hc4
  try simp only [nrm] at hc4
  refine RD_pass 3 Z kR kR kR Z (yl_ne Z Z Z) (RD_pass 4 Z kR kR kR Z (yl_ne Z Z Z) (RD_pass 5 Z kR kR kR Z (yl_ne Z Z Z) (RD_pass 6 Z kR kR kR Z (yl_ne Z Z Z) (RD_pass 7 Z kR kR kR Z (yl_ne Z Z Z) (RD_pass 8 Z kR kR kR Z (yl_ne Z Z Z) (RD_pass 9 Z kR kR kR Z (yl_ne Z Z Z) (RD_pass 10 Z kR kR kR Z (yl_ne Z Z Z) (RD_pass 11 Z kR kR kR Z (yl_ne Z Z Z) (RD_pass 12 Z kR kR kR Z (yl_ne Z Z Z) (RD_pass 13 Z kR kR kR Z (yl_ne Z Z Z) (RD_pass 14 Z kR kR kR Z (yl_ne Z Z Z) (RD_pass 15 Z kR kR kR Z (yl_ne Z Z Z) (RD_pass 16 Z kR kR kR Z (yl_ne Z Z Z) (RD_pass 17 Z kR kR kR Z (yl_ne Z Z Z) (RD_t 18 Z kR Z (fun _ hK => v_pick_t Z Z) ?_)))))))))))))))
  refine vM 19 Z Z (RD_pass 20 Z kR kR kR Z (yl_ne Z Z Z) (RD_pass 21 Z kR kR kR Z (yl_ne Z Z Z) (RD_pass 22 Z kR kR kR Z (yl_ne Z Z Z) (RD_pass 23 Z kR kR kR Z (yl_ne Z Z Z) (RD_pass 24 Z kR kR kR Z (yl_ne Z Z Z) (RD_pass 25 Z kR kR kR Z (yl_ne Z Z Z) (RD_pass 26 Z kR kR kR Z (yl_ne Z Z Z) (RD_pass 27 Z kR kR kR Z (yl_ne Z Z Z) (RD_pass 28 Z kR kR kR Z (yl_ne Z Z Z) (RD_pass 29 Z kR kR kR Z (yl_ne Z Z Z) (RD_pass 30 Z kR kR kR Z (yl_ne Z Z Z) (RD_pass 31 Z kR kR kR Z (yl_ne Z Z Z) (RD_t 32 Z kR Z (fun _ hK => v_pick_t Z Z) (RD_done kR (N_K ?_)))))))))))))))
  refine W_true Z (q2 (aG Z (q3 (W_ret (N_K_ret (ret_unlock 0 H muLib Z call91 Z Z (rs := [.tmp 4]) results59 ?_)))))); intro wu1 H
  refine ⟨[_], ⟨Z, trivial⟩, ?_⟩
  have H := H.toFront (k := 4) rfl
  have H := H.toFront (k := 4) rfl
  have H := H.toFront (k := 4) rfl
  have H := H.toFront (k := 4) rfl
  have H := H.toFront (k := 4) rfl
  have hno : Sp.SnapBack d name = none := Sp.back_noat (by (rw [← Sp.sn_find hSn]; omega))
  exact H.retM ⟨_, _, _, _, T, _, sn, _, _, d.store, congrArg Value.bool (by (rw [hno]; rfl)), rfl, hm, hS, hVd, hN, hchk, hNs, fun d2 h => (by rw [hno] at h; cases h)⟩
 intro hc4'
 try simp only [nrm] at hc4'
 obtain ⟨i, x, s0, hat, hsx, hs0, hai, htx, hix⟩ := sn_at hSn (n := name) oM
 refine RD_tg 3 Z kR Z (yl Z Z) (fun _ hK => v_move Z) (RD_tg 4 Z kR Z (yl Z Z) (fun _ hK => v_nilCheck Z) (RD_tg 5 Z kR Z (yl Z Z) (fun _ hK => v_fieldAddr 2 runUnderlying131 Z sizeOf99 Z Z) (RD_tg 6 Z kR Z (yl Z Z) (fun _ hK => v_fieldAddr 0 runUnderlying99 Z sizeOf96 Z Z) (RD_tg 7 Z kR Z (yl Z Z) (fun _ hK => v_load_B 0 hK isAgg96 Z Z Z) (RD_tg 8 Z kR Z (yl Z Z) (fun _ hK => v_move Z) (RD_tg 9 Z kR Z (yl Z Z) (fun _ hK => v_nilCheck Z) (RD_tg 10 Z kR Z (yl Z Z) (fun _ hK => v_fieldAddr 4 runUnderlying131 Z sizeOf129 Z Z) (RD_tg 11 Z kR Z (yl Z Z) (fun _ hK => v_load_B 0 hK isAgg129 Z Z Z) (RD_tg 12 Z kR Z (yl Z Z) (fun _ hK => v_move Z) ?_)))))))))
 refine RD_run [13] kR Z (RDs.cons Z ?_ RDs.nil)
 refine gR Z (o_index_A 3 H i Z hchk underlying129 sizeOf135 Z Z Z hat aN aN ?_); intro ba5 z5 q5 hba5 hz5 hE5 hg5; cases hba5
 obtain ⟨rfl, hi5⟩ := hE5; have hy_hi5 : _ ≤ 16777216 := hi5
 refine R_nil (N_DK (Kn.of' H hd3 (SubL.cons 0 Z SubL.nil)) (RD_tg 14 Z kR Z (yl Z Z) (fun _ hK => v_fieldAddr 1 runUnderlying135 Z sizeOf97 Z Z) ?_))
 refine RD_run [15] kR Z (RDs.cons Z ?_ RDs.nil)
 refine gR Z (o_load_A 3 H isAgg97 Z Z Z (hg5 1 _ Z) (R_nil (N_DK (Kn.of' H hd3 (SubL.cons 0 Z SubL.nil)) ?_)))
 refine RD_run [16] kR Z (RDs.cons Z ?_ RDs.nil)
 refine gR Z ?_
 have H := H.toFront (k := 4) rfl
 obtain ⟨Fk2, Fr2, hpm2, hNk2, hNr2⟩ := NdsO.del hNs (i := i) (k := z5.2) (by (rw [List.getElem?_map, hz5]; rfl))
 have H := (H.permF hpm2).splitF
 have H := H.toFront (k := 3) rfl
 refine o_call call95 Z Z (i_keepTree_c _ _ H.sub _ _ _ _ _ hm hS hVd _ _ hNk2 H.lent2 (sn_ok hSn _ (List.mem_map_of_mem (List.mem_of_getElem? hz5))).1 (by have := (sn_ok hSn _ (List.mem_map_of_mem (List.mem_of_getElem? hz5))).2; omega)) ?_
 rintro _ w6 ⟨G6, _, _, rfl, H6', ⟨es6, ck6, xs6, L6, rfl, rfl, hm6, hS6, hV6, hL6⟩⟩
 have hN := hN.up H6'.le
 have hchk := hchk.up H6'.le
 have hNs := hNs.up H6'.le
 have hd3 := hd3.trans H6'.le
 have H := H.borrow2 H6'
 refine ⟨_, Z, ?_⟩
 have H := H.toFront (k := 2) rfl
 have H := H.toFront (k := 2) rfl
 have H := (H.mergeF).permF hpm2.symm
 refine R_nil (N_DK (Kn.of' H hd3 (SubL.cons 2 Z SubL.nil)) (RD_tg 17 Z kR Z (yl Z Z) (fun _ hK => v_not Z) (RD_t 18 Z kR Z (fun _ hK => v_pick_f Z Z) (vM 19 Z Z ?_))))
 refine RD_case (t := 35) Z ?_ ?_
 ·intro hc7
  try simp only [nrm] at hc7
  refine RD_pass 20 Z kR kR kR Z (yl_ne Z Z Z) (RD_pass 21 Z kR kR kR Z (yl_ne Z Z Z) (RD_pass 22 Z kR kR kR Z (yl_ne Z Z Z) (RD_pass 23 Z kR kR kR Z (yl_ne Z Z Z) (RD_pass 24 Z kR kR kR Z (yl_ne Z Z Z) (RD_pass 25 Z kR kR kR Z (yl_ne Z Z Z) (RD_pass 26 Z kR kR kR Z (yl_ne Z Z Z) (RD_pass 27 Z kR kR kR Z (yl_ne Z Z Z) (RD_pass 28 Z kR kR kR Z (yl_ne Z Z Z) (RD_pass 29 Z kR kR kR Z (yl_ne Z Z Z) (RD_pass 30 Z kR kR kR Z (yl_ne Z Z Z) (RD_pass 31 Z kR kR kR Z (yl_ne Z Z Z) (RD_t 32 Z kR Z (fun _ hK => v_pick_t Z Z) (RD_done kR (N_K (W_true Z ?_)))))))))))))))
  refine q2 (aG Z (q3 (W_ret (N_K_ret (ret_unlock 2 H muLib Z call91 Z Z (rs := [.tmp 4]) results59 ?_))))); intro wu3 H
  refine ⟨[_], ⟨Z, trivial⟩, ?_⟩
  obtain rfl : x = z5 := Option.some.inj (hsx.symm.trans hz5)
  have H := H.toFront (k := 4) rfl
  have H := H.toFront (k := 4) rfl
  have H := H.toFront (k := 3) rfl
  have H := H.toFront (k := 4) rfl
  have hno : Sp.SnapBack d name = none := by (rw [Sp.back_eq hdv hai hs0, ← htx.flat]; (have hq : Sp.l12Keep d.store (x.2.flat []) = none := by simpa using hc7); rw [hq]; rfl)
  exact H.retM ⟨_, _, _, _, T, _, sn, _, _, L6, congrArg Value.bool (by (rw [hno]; rfl)), rfl, hm6, hS6, hV6, hN, hchk, hNs, fun d2 h => (by rw [hno] at h; cases h)⟩
 intro hc7'
 try simp only [nrm] at hc7'
 refine RD_tg 20 Z kR Z (yl Z Z) (fun _ hK => v_move Z) (RD_tg 21 Z kR Z (yl Z Z) (fun _ hK => v_nilCheck Z) (RD_tg 22 Z kR Z (yl Z Z) (fun _ hK => v_fieldAddr 2 runUnderlying131 Z sizeOf99 Z Z) (RD_tg 23 Z kR Z (yl Z Z) (fun _ hK => v_fieldAddr 0 runUnderlying99 Z sizeOf96 Z Z) (RD_tg 24 Z kR Z (yl Z Z) (fun _ hK => v_load_B 0 hK isAgg96 Z Z Z) (RD_tg 25 Z kR Z (yl Z Z) (fun _ hK => v_move Z) (RD_tg 26 Z kR Z (yl Z Z) (fun _ hK => v_nilCheck Z) (RD_tg 27 Z kR Z (yl Z Z) (fun _ hK => v_fieldAddr 2 runUnderlying131 Z sizeOf99 Z Z) (RD_tg 28 Z kR Z (yl Z Z) (fun _ hK => v_fieldAddr 1 runUnderlying99 Z sizeOf97 Z Z) (RD_tg 29 Z kR Z (yl Z Z) (fun _ hK => v_load_B 0 hK isAgg97 Z Z Z) ?_)))))))))
 refine RD_run [30] kR Z (RDs.cons Z ?_ RDs.nil)
 refine gR Z ?_
 have H := H.toFront (k := 3) rfl
 have H := H.toFront (k := 2) rfl
 refine o_call call114 Z Z (i_freeTree_c _ _ H.sub _ _ _ _ _ hm6 hS6 hV6 _ _ hN H.lent2 hT.wf oM) ?_
 rintro _ w8 ⟨G8, _, _, rfl, H8', ⟨es8, ck8, xs8, L8, rfl, rfl, hm8, hS8, hV8, hL8⟩⟩
 have hchk := hchk.up H8'.le
 have hNs := hNs.up H8'.le
 have hd3 := hd3.trans H8'.le
 have H := H.borrow2 H8'
 refine ⟨_, Z, ?_⟩
 refine R_nil (N_DK (Kn.of' H hd3 (SubL.cons 3 Z SubL.nil)) (RD_tg 31 Z kR Z (yl Z Z) (fun _ hK => v_not Z) (RD_t 32 Z kR Z (fun _ hK => v_pick_f Z Z) (RD_done kR (N_K ?_)))))
 refine W_cond Z ?_ ?_
 ·intro hc9
  try simp only [nrm] at hc9
  refine q2 (aG Z (q3 (W_ret (N_K_ret (ret_unlock 3 H muLib Z call91 Z Z (rs := [.tmp 4]) results59 ?_))))); intro wu4 H
  refine ⟨[_], ⟨Z, trivial⟩, ?_⟩
  obtain rfl : x = z5 := Option.some.inj (hsx.symm.trans hz5)
  obtain ⟨p, hp⟩ := Option.isSome_iff_exists.1 (show (Sp.l12Keep d.store (x.2.flat [])).isSome = true by simpa using hc7')
  have hLp := hL6 p hp; subst hLp; (rw [htx.flat] at hp)
  have hfr := Sp.back_free hdv hs0 hp
  exact absurd (show (Sp.freeTs L6 (T.flat [])).isSome = true by (rw [hT.flat, hfr]; rfl)) (by simpa using hc9)
 intro hc9'
 try simp only [nrm] at hc9'
 refine W_skip (N_K (q2 (mV Z (mV Z (o_nilCheck Z Z (o_fieldAddr 4 runUnderlying131 Z sizeOf129 Z Z Z (o_load_B 3 H isAgg129 Z Z Z Z (mV Z (o_index_A 4 H i Z hchk underlying129 sizeOf135 Z Z Z hat aN aN ?_))))))))); intro ba10 z10 q10 hba10 hz10 hE10 hg10; cases hba10
 obtain ⟨rfl, hi10⟩ := hE10; have hy_hi10 : _ ≤ 16777216 := hi10
 have hzz10 : z5 = z10 := Option.some.inj (hz5.symm.trans hz10)
 subst hzz10
 refine o_fieldAddr 1 runUnderlying135 Z sizeOf97 Z Z Z (o_load_A 4 H isAgg97 Z Z Z (hg10 1 _ Z) ?_)
 refine o_call call94 Z Z (i_clone_c _ _ (H.lendSubL [2]) _ (H.lendNs (k := 2) (ks := [2]) Z Z hNs z5.2 (List.mem_map_of_mem (List.mem_of_getElem? hz5))) (by have := (sn_ok hSn z5.2 (List.mem_map_of_mem (List.mem_of_getElem? hz5))).2; omega)) ?_
 rintro _ w11 ⟨_, _, rfl, H11', ⟨F11, T11, rfl, rfl, hNC11, hst11⟩⟩
 have H := H.readersL H11'
 refine ⟨_, Z, ?_⟩
 obtain ⟨Gs5, Fc5, H, hsl5, hNc5⟩ := Hp.shareC H hNC11 (H.apart (k := 0) (ks := [4, 1, 2, 5, 3]) rfl rfl (by intro b hb; simp only [fps, List.flatMap_cons, List.flatMap_nil, List.append_nil, List.mem_append] at hb; rcases hb with h | h | h | h | h; (· exact fpsAt_mem (k := 4) rfl rfl b (by exact h)); (· exact fpsAt_mem (k := 1) rfl rfl b (by exact h)); (· exact fpsAt_mem (k := 2) rfl rfl b (by exact h)); (· exact fpsAt_mem (k := 5) rfl rfl b (by exact h)); (· exact fpsAt_mem (k := 3) rfl rfl b (by exact h))))
 have hchk := hchk.up hsl5
 have hNs := hNs.up hsl5
 have hS8 := hS8.up hsl5
 refine o_nilCheck Z Z (o_fieldAddr 2 runUnderlying131 Z sizeOf99 Z Z Z (o_fieldAddr 1 runUnderlying99 Z sizeOf97 Z Z Z (o_store_B 4 H sizeOf97 Z Z Z Z Z Z Z Z ?_))); intro w12 H
 refine q1 (aG Z (q3 (W_ret (ret_unlock 4 H muLib Z call91 Z Z (rs := [.tmp 4]) results59 ?_)))); intro wu6 H
 refine ⟨[_], ⟨Z, trivial⟩, ?_⟩
 obtain rfl : x = z5 := Option.some.inj (hsx.symm.trans hz5)
 have H := H.del (k := 2) rfl
 have H := H.toFront (k := 2) rfl
 have H := H.toFront (k := 4) rfl
 have H := H.toFront (k := 2) rfl
 have H := H.toFront (k := 3) rfl
 have H := H.toFront (k := 4) rfl
 obtain ⟨p, hp⟩ := Option.isSome_iff_exists.1 (show (Sp.l12Keep d.store (x.2.flat [])).isSome = true by simpa using hc7')
 have hLp := hL6 p hp; subst hLp; (rw [htx.flat] at hp)
 have hfr := Sp.back_free hdv hs0 hp
 have hyes : Sp.SnapBack d name = some ⟨Sp.l12Free L6 d.tree, s0.tree, d.snaps⟩ := by (rw [Sp.back_eq hdv hai hs0, hp]; rfl)
 exact H.retM ⟨_, _, _, _, T11, _, sn, _, _, L8, congrArg Value.bool (by (rw [hyes]; rfl)), rfl, hm8, hS8, hV8, hNc5, hchk, hNs, fun d2 h => (by rw [hyes] at h; cases h; exact ⟨hL8 _ (by (rw [hT.flat]; exact hfr)), htx.strip hst11, hSn⟩)⟩
end Go.Proofs.Tst

namespace Go.Proofs.Tst
open Go Fw Tryz
theorem i_next_c (w0 : World) (G0 : PH) (hG : PSub G0 w0) (rb : Nat) (ab : Option Addr) (kb : Nat) (bs : List Int) (p : Nat) (hbs : RdI G0 (.slice ab bs.length kb) bs) (hp : p ≤ bs.length) (hbl : bs.length ≤ 1000000) (hLent : Lent w0 G0 [blk rb (cl [.slice ab bs.length kb, .int .i64 (p : Int)] 195)])  :
  Calls Tryz.prog 160 #[.pointer (some ⟨rb, 0, none⟩)] w0 (RetM w0 G0 [rb] (fun G' v Bs => ∃ (u : Value) (c : List Value) (p' : Nat), v = u ∧ Bs = [acc 3 1 u (Sp.nextC bs p).length c, blk rb (cl [.slice ab bs.length kb, .int .i64 (p' : Int)] 195)] ∧ p' = min (p + 8) bs.length ∧ Chk intE 1 G' c (Sp.nextC bs p))) := by
 have H : Hp w0 G0 [rb] w0 G0 [blk rb (cl [.slice ab bs.length kb, .int .i64 (p : Int)] 195)] := hLent.hp
 refine calls_of_W (l := [.pointer (some ⟨rb, 0, none⟩)]) func160 Z ntmps160 Z (q2 (aG Z (q3 (W_seq (W_drawK [0] 12 H kR Z ?_))))); intro w1 H; have hd1 := PLe.refl G0
 refine vM 0 Z Z (RD_t 1 Z kR Z (fun _ hK => v_nilCheck Z) (RD_t 2 Z kR Z (fun _ hK => v_fieldAddr 1 runUnderlying195 Z sizeOf3 Z Z) (RD_t 3 Z kR Z (fun _ hK => v_load_B 0 hK isAgg3 Z Z Z) (RD_t 4 Z kR Z (fun _ hK => v_add Z Z oO) (vM 5 Z Z (RD_t 6 Z kR Z (fun _ hK => v_nilCheck Z) (RD_t 7 Z kR Z (fun _ hK => v_fieldAddr 0 runUnderlying195 Z sizeOf33 Z Z) (RD_t 8 Z kR Z (fun _ hK => v_load_B 0 hK isAgg33 Z Z Z) (RD_t 9 Z kR Z (fun _ hK => v_len_slice underlying33 Z) (RD_t 10 Z kR Z (fun _ hK => v_min Z Z) (RD_t 11 Z kR Z (fun _ hK => v_assign Z) (RD_done kR (N_K (W_seq (W_drawK [0] 12 H kR Z ?_))))))))))))))); intro w3 H; have hd3 := PLe.refl G0
 refine vM 0 Z Z (RD_t 1 Z kR Z (fun _ hK => v_nilCheck Z) (RD_t 2 Z kR Z (fun _ hK => v_fieldAddr 0 runUnderlying195 Z sizeOf33 Z Z) (RD_t 3 Z kR Z (fun _ hK => v_load_B 0 hK isAgg33 Z Z Z) (vM 4 Z Z (RD_t 5 Z kR Z (fun _ hK => v_nilCheck Z) (RD_t 6 Z kR Z (fun _ hK => v_fieldAddr 1 runUnderlying195 Z sizeOf3 Z Z) (RD_t 7 Z kR Z (fun _ hK => v_load_B 0 hK isAgg3 Z Z Z) (vM 8 Z Z ?_))))))))
 have hcap4 := hbs.cap; try simp only [List.length_set, List.length_append, List.length_take, List.length_drop, List.length_replicate] at hcap4
 have hsl4 := hbs.part (i := p) (j := (min (p + 8) bs.length)) oM oM
 have hsn1 := hsl4.len
 refine RD_t 9 Z kR Z (fun _ hK => v_slice (i := p) (j := (min (p + 8) bs.length)) underlying33 sizeOf3 Z Z Z oM oM aN aN) ?_
 refine RD_run [10] kR Z (RDs.cons Z ?_ RDs.nil)
 have H := H.addNil 3 1
 refine o_append_P 0 H hsl4 (by intro z cs hz u hu; obtain ⟨rfl, _⟩ := hz; simp at hu; subst hu; rfl) (sz := 1) (bytes := 8) underlying33 typeInfo3 ⟨_, rfl, rfl⟩ rfl rfl rfl rfl rfl rfl rfl oM rfl ?_; intro v5 w5 css5 hcl5 hcs5 H
 have hchk5 : Chk intE 1 G0 ([] ++ css5.flatten) _ := ⟨css5, rfl, hcl5, hcs5⟩
 obtain ⟨av5, cv5, rfl⟩ := H.accShape (k := 0) rfl
 refine R_nil (N_DK (Kn.of' H hd3 (SubL.cons 1 Z SubL.nil)) (RD_t 11 Z kR Z (fun _ hK => v_assign Z) (RD_done kR (N_K (q2 (mV Z (mV Z (o_nilCheck Z Z (o_fieldAddr 1 runUnderlying195 Z sizeOf3 Z Z Z (o_store_B 1 H sizeOf3 Z Z Z Z Z Z Z Z ?_)))))))))); intro w6 H
 refine q1 (mV Z (aG Z (q3 (W_ret (rt1 results160 Z ?_)))))
 have hcx : (Sp.nextC bs p).length = min (p + 8) bs.length - p := by unfold Sp.nextC; simp; omega
 have hpm : min ((p : Int) + 8) (bs.length : Int) = ((min (p + 8) bs.length : Nat) : Int) := by omega
 exact H.retM ⟨_, _, min (p + 8) bs.length, rfl, by rw [hcx, hpm]; simp only [Nat.zero_add]; rfl, rfl, hchk5⟩
theorem i_storeFile_c (w0 : World) (G0 : PH) (hG : PSub G0 w0) (mbs : Nat) (ess : Array MapEntry) (cks : Nat) (xss : List (Int × Value)) (Ls : List BHeld) (hms : MapIs (Value.int .i64) ess cks xss) (hSs : StR G0 xss Ls) (hVs : Sp.VH Ls) (vbytes : Value) (bytes : List (Int)) (hbytes : RdI G0 vbytes bytes) (hLent : Lent w0 G0 [blk mbs (.map ess cks)]) (hB : Sp.FileValid bytes = true) :
  Calls Tryz.prog 120 #[.map (some mbs), vbytes] w0 (RetM w0 G0 [mbs] (fun G' v Bs => ∃ (es' : Array MapEntry) (ck' : Nat) (xs' : List (Int × Value)) (L' : List BHeld) (u : Value) (c : List Value) (ids : List Int), v = .tuple #[u, .bool (Sp.FileStore Ls bytes).isSome] ∧ Bs = [acc 3 1 u ids.length c, blk mbs (.map es' ck')] ∧ MapIs (Value.int .i64) es' ck' xs' ∧ StR G' xs' L' ∧ Sp.VH L' ∧ (∀ r, Sp.FileStore Ls bytes = some r → r = (L', ids)) ∧ Chk intE 1 G' c ids ∧ ids.length ≤ 1000)) := by
 obtain ⟨abytes, kbytes, rfl⟩ := hbytes.shape
 have hlimbytes : bytes.length ≤ 1099511627776 := hbytes.lim
 have hBl : bytes.length ≤ 32 := by simp [Sp.FileValid] at hB; omega
 have H : Hp w0 G0 [mbs] w0 G0 [blk mbs (.map ess cks)] := hLent.hp
 refine calls_of_W (l := [.map (some mbs), .slice abytes bytes.length kbytes]) func120 Z ntmps120 Z (q2 (aG Z (aG Z (q1 (aG Z (q1 (mV Z (o_build bf195 Z Z Z (o_box H Z Z Z ?_))))))))); intro b1 w1 hb1 H
 refine aG Z (q3 (W_seq (q2 (mV Z (o_call call160 Z Z (i_next_c _ _ H.sub _ _ _ _ 0 hbytes oM oM H.lent1 ) ?_)))))
 rintro _ w2 ⟨G2, _, _, rfl, H2', ⟨u2, c2, p2, rfl, rfl, hp2, hchk2⟩⟩
 have hSs := hSs.up H2'.le
 have hbytes := hbytes.up H2'.le
 have H := H.borrow1 H2'
 obtain ⟨avr2, cvr2, rfl⟩ := H.accShape (k := 0) rfl
 refine ⟨_, Z, ?_⟩
 refine aG Z (q3 (W_block ?_))
 have H := H.addNil 3 1
 refine W_lp (hf := (Sub.cons (t := 0) Z (Sub.cons (t := 7) Z Sub.nil))) (J := fun M w m => ∃ (esm0 : Array MapEntry) (ckm0 : Nat) (xsm0 : List (Int × Value)) (Lm0 : List BHeld) (v : Value) (n : Nat) (cs : List Value) (xs : List (Int)) (v1 : Value) (n1 : Nat) (cs1 : List Value) (xs1 : List (Int)) (k p : Nat) (G : PH), M = [(6, v), (8, v1)] ∧ PLe G2 G ∧ Hp w0 G0 [mbs] w G [acc 3 1 v n cs, acc 3 1 v1 n1 cs1, blk b1 (cl [.slice abytes bytes.length kbytes, .int .i64 (p : Int)] 195), blk mbs (.map esm0 ckm0)] ∧ (MapIs (Value.int .i64) esm0 ckm0 xsm0 ∧ StR G xsm0 Lm0 ∧ Sp.VH Lm0 ∧ Chk intE 1 G cs xs ∧ n = xs.length ∧ Chk intE 1 G cs1 xs1 ∧ n1 = xs1.length ∧ xs1 = Sp.chunk bytes k ∧ p = min (8 * k + 8) bytes.length ∧ xs.length ≤ k ∧ k ≤ 100 ∧ Sp.foldB Sp.put1 ((Sp.l4Cut bytes).take k) (some (Ls, [])) = some (Lm0, xs)) ∧ m = (100 - k)) (h0 := ⟨_, _, xss, Ls, _, _, _, [], _, _, _, (Sp.nextC bytes 0), 0, _, _, Z, PLe.refl _, H, ?inv, Z⟩) (round := ?round)
 case inv => exact ⟨hms, hSs, hVs, (by exact ⟨(Chk.nil (E := intE) (sz := 1) (G := G2)), (by first | rfl | simp | (simp; omega) | omega), hchk2,  by first | rfl | simp | (simp; omega) | omega, (by exact ⟨Sp.next_zero _, by omega, by simp, by omega, by simp [Sp.foldB]⟩)⟩)⟩
 case round =>
  rintro _ w4 _ ⟨esm0, ckm0, xsm0, Lm0, v, n, cs, xs, v1, n1, cs1, xs1, k, p, G4, rfl, hle4, H, hinv4, rfl⟩
  have hbytes := hbytes.up hle4
  obtain ⟨hm4_m0, hS4_m0, hV4_m0, hinv4⟩ := hinv4
  obtain ⟨hchk4_0, hn4_0, hinv4⟩ := hinv4
  obtain ⟨av4_0, cv4_0, rfl⟩ := H.accShape (k := 0) rfl
  obtain ⟨hchk4_1, hn4_1, hinv4⟩ := hinv4
  obtain ⟨av4_1, cv4_1, rfl⟩ := H.accShape (k := 1) rfl
  obtain ⟨rfl, hpk, hxl, hk9, hf⟩ := hinv4; have hcl := Sp.chunk_len bytes k
  refine W_seq (q2 (mV Z (o_len_slice underlying33 Z Z (o_gtr Z Z Z (q3 ?_)))))
  refine W_cond Z ?_ ?_
  ·intro hc5
   try simp only [nrm] at hc5
   refine W_skip (N_K (W_seq (W_block (q2 (mV Z (mV Z ?_))))))
   obtain ⟨G7, H, hsg7, hsr7⟩ := H.shutL (k := 1) rfl (H.apart (k := 1) (ks := [3]) rfl rfl (by intro b hb; simpa [fpsAt, nth, blk] using hb)) hchk4_1 aN aN
   have hbytes := hbytes.up hsg7
   have hS4_m0 := hS4_m0.up hsg7
   have hchk4_0 := hchk4_0.up hsg7
   have hle4 := hle4.trans hsg7
   have H := H.toFront (k := 2) rfl
   refine o_call call161 Z Z (i_put_c _ _ H.sub _ _ _ _ _ hm4_m0 hS4_m0 hV4_m0 _ _ hsr7 H.lent1 (Sp.chunk_valid hB oM)) ?_
   rintro _ w6 ⟨G6, _, _, rfl, H6', ⟨es6, ck6, xs6, L6, i6, rfl, rfl, hm6, hS6, hV6, hL6, hii6, hir6⟩⟩
   have hbytes := hbytes.up H6'.le
   have hchk4_0 := hchk4_0.up H6'.le
   have hle4 := hle4.trans H6'.le
   have H := H.borrow1 H6'
   refine ⟨_, Z, ?_⟩
   refine mV Z (o_extract Z Z Z (o_extract Z Z Z (aG Z (aG Z (q3 (W_seq (q2 (mV Z (o_not Z Z (q3 ?_))))))))))
   refine W_cond Z ?_ ?_
   ·intro hc8
    try simp only [nrm] at hc8
    refine q2 (aG Z (aG Z (q3 (W_ret (N_K_ret (N_B_ret (N_K_ret (N_LP_ret (N_B_ret (N_K_ret (rt2 results120 Z Z ?_)))))))))))
    have hno : Sp.FileStore Ls bytes = none := by (have hno : Sp.StorePut Lm0 (Sp.chunk bytes k) = none := by simpa using hc8); simp only [Sp.FileStore, Sp.valid_iff.2 hVs, hB, Bool.and_self, if_true]; exact Sp.foldB_stop hf (Sp.chunks_at oM) (by simp [Sp.put1, hno])
    have H := H.addNil 3 1
    have H := H.del (k := 2) rfl
    have H := H.del (k := 2) rfl
    have H := H.toFront (k := 1) rfl
    have H := H.toFront (k := 1) rfl
    exact H.retM ⟨_, _, _, _, _, _, _, congrArg (fun b => Value.tuple #[_, Value.bool b]) (show _ = (Sp.FileStore Ls bytes).isSome by rw [hno]; rfl), acc_1 aN, hm6, hS6, hV6, (fun r hr => by rw [hno] at hr; cases hr), (Chk.nil (E := intE) (sz := 1) (G := G6)), by first | omega | (simp; done) | (simp; omega)⟩
   intro hc8'
   try simp only [nrm] at hc8'
   obtain ⟨⟨r1, r2⟩, hsp⟩ := Option.isSome_iff_exists.1 hc8'
   have hLp : L6 = r1 := by rw [hL6, hsp]; rfl
   subst hLp
   obtain rfl : i6 = r2 := (hir6 _ hsp).symm
   refine W_skip (N_K (W_region (mV Z (mV Z (o_buildSlice H underlying33 sizeOf3 (fun w => ⟨_, zeroValue3 w, Z⟩) Z Z Z Z Z Z Z ?_))))); intro b9 w9 hb9 H
   refine o_append1 1 H (sz := 1) (bytes := 8) underlying33 typeInfo3 ⟨_, Z, Z⟩ Z Z Z Z Z Z Z Z Z Z oM Z ?_; intro v10 w10 H
   have hchk10 := hchk4_0.snoc (show intE _ i6 _ from ⟨rfl, oO⟩) rfl
   obtain ⟨av10, cv10, rfl⟩ := H.accShape (k := 1) rfl
   refine aG Z (R_nil (N_B (N_K (W_region (mV Z ?_)))))
   have H := H.toFront (k := 2) rfl
   refine o_call call160 Z Z (i_next_c _ _ H.sub _ _ _ _ p hbytes oM oM H.lent1 ) ?_
   rintro _ w11 ⟨G11, _, _, rfl, H11', ⟨u11, c11, p11, rfl, rfl, hp11, hchk11⟩⟩
   have hS6 := hS6.up H11'.le
   have hchk10 := hchk10.up H11'.le
   have hle4 := hle4.trans H11'.le
   have H := H.borrow1 H11'
   obtain ⟨avr11, cvr11, rfl⟩ := H.accShape (k := 0) rfl
   refine ⟨_, Z, ?_⟩
   refine aG Z (R_nil ?_)
   have H := H.toFront (k := 2) rfl
   have H := H.toFront (k := 2) rfl
   have H := H.toFront (k := 2) rfl
   have H := H.toFront (k := 3) rfl
   refine N_lp (hJ := ⟨_, _, xs6, L6, _, _, _, (xs ++ [i6]), _, _, _, (Sp.nextC bytes p), k + 1, p11, _, Z, hle4, H, ?inv, Z⟩) (hm := ?hm)
   case hm => omega
   case inv => exact ⟨hm6, hS6, hV6, (by exact ⟨hchk10, aN, hchk11, aN, (by exact ⟨by rw [hpk]; exact Sp.next_chunk _ _, by omega, by simp; omega, by omega, Sp.foldB_succ hf (Sp.chunks_at oM) (by simp [Sp.put1, hsp])⟩)⟩)⟩
  intro hc5'
  try simp only [nrm] at hc5'
  refine W_exit (N_K_exit (N_LP_exit (N_B_same (N_K (q2 (mV Z (aG Z (aG Z (q3 (W_ret (rt2 results120 Z Z ?_)))))))))))
  have hyes : Sp.FileStore Ls bytes = some (Lm0, xs) := by simp only [Sp.FileStore, Sp.valid_iff.2 hVs, hB, Bool.and_self, if_true]; exact Sp.foldB_all hf (Sp.chunks_end oM)
  have H := H.del (k := 1) rfl
  have H := H.del (k := 1) rfl
  have H := H.toFront (k := 1) rfl
  have H := H.toFront (k := 1) rfl
  exact H.retM ⟨_, _, _, _, _, _, _, congrArg (fun b => Value.tuple #[_, Value.bool b]) (show _ = (Sp.FileStore Ls bytes).isSome by rw [hyes]; rfl), acc_1 aN, hm4_m0, hS4_m0, hV4_m0, (fun r hr => by rw [hyes] at hr; cases hr; rfl), hchk4_0, by first | omega | (simp; done) | (simp; omega)⟩
end Go.Proofs.Tst

namespace Go.Proofs.Tst
open Go Fw Tryz
theorem i_count_r : ∀ (N : Nat) (w0 : World) (G0 : PH) (hG : PSub G0 w0) (t : Nd) (hndt : RdN G0 t) (hct : t.cnt ≤ 100000) (hsz : t.size ≤ N),
  Calls Tryz.prog 162 #[.pointer (some ⟨t.b, 0, none⟩)] w0 (Rets w0 (.int .i64 (t.cnt : Nat))) := by
 intro N
 induction N with
 | zero => intro w0 G0 hG t hndt hct hsz; exact absurd (Nd.size_pos t) oM
 | succ N ih =>
 intro w0 G0 hG t hndt hct hsz
 obtain ⟨hnlt, nat, nmt, nct, nAt, nMt, nCt, hprt, hrit, hrkt⟩ := hndt.open
 have hn_hrit := hrit.len; have hx_hrit : _ ≤ 1099511627776 := hrit.lim
 have hn_hrkt := hrkt.len; have hx_hrkt : _ ≤ 1099511627776 := hrkt.lim
 subst hn_hrkt
 have H := Hp.init hG
 refine calls_of_W (l := [.pointer (some ⟨t.b, 0, none⟩)]) func162 Z ntmps162 Z (q2 (aG Z (q1 (mV Z (o_nilCheck Z Z (o_fieldAddr 3 runUnderlying149 Z sizeOf147 Z Z Z (o_load_P H isAgg147 Z Z (hprt 3 _ Z) (o_len_slice underlying147 Z Z (aG Z (q3 (W_seq (q2 (mV Z (o_nilCheck Z Z (o_fieldAddr 3 runUnderlying149 Z sizeOf147 Z Z Z ?_)))))))))))))))
 refine o_load_P H isAgg147 Z Z (hprt 3 _ Z) (o_len_slice underlying147 Z Z (mV Z (q3 (W_block ?_))))
 refine W_lp (hf := (Sub.cons (t := 2) Z (Sub.cons (t := 14) Z (Sub.cons (t := 15) Z Sub.nil)))) (J := fun M w m => ∃ (k mm : Nat) (G : PH), M = [(16, .int .i64 (k : Int)), (3, .int .i64 (mm : Int))] ∧ PLe G0 G ∧ Hp w0 G0 [] w G [] ∧ (k ≤ t.kids.length ∧ mm = Nd.cnts (t.kids.take k) + (t.kids.length - k)) ∧ m = (t.kids.length - k)) (h0 := ⟨0, t.kids.length, _, Z, PLe.refl _, H, ?inv, Z⟩) (round := ?round)
 case inv => simp [Nd.cnts]
 case round =>
  rintro _ w1 _ ⟨k, mm, G1, rfl, hle1, H, hinv1, rfl⟩
  have hrkt := hrkt.up hle1
  obtain ⟨hk, hm⟩ := hinv1; have hct2 := Nd.cnts_take t.kids k; have hct3 := Nd.cnt_eq t; have hkl := Nd.kids_le t
  refine q2 (o_lss Z Z Z (q3 (W_seq ?_)))
  refine W_cond Z ?_ ?_
  ·intro hc2
   try simp only [nrm] at hc2
   refine W_skip (N_K (W_seq (W_block (q2 (o_index_P k hrkt underlying147 sizeOf97 Z Z Z Z aN ?_))))); intro b3 o3 z3 q3 hz3 hE3 hrow3
   obtain ⟨rfl, hnd3⟩ := hE3; obtain ⟨hnl3, na3, nm3, nc3, nA3, nM3, nC3, hpr3, hri3, hrk3⟩ := hnd3.open; have hn_hri3 := hri3.len; have hx_hri3 : _ ≤ 1099511627776 := hri3.lim; have hn_hrk3 := hrk3.len; have hx_hrk3 : _ ≤ 1099511627776 := hrk3.lim
   have hzm := List.mem_of_getElem? hz3; have hzc := Nd.kid_cnt hzm; have hzs := Nd.size_kid hzm
   refine o_load_P H isAgg97 Z Z (hrow3 0 _ Z) (aG Z (q3 (W_region (mV Z (mV Z (o_call call162 Z Z (ih _ _ H.sub _ hnd3 oM oM) ?_))))))
   rintro _ w4 ⟨rfl, ew4⟩; have H := H.step ew4; refine ⟨_, rfl, ?_⟩
   refine o_add Z Z Z oO (aG Z (R_nil (N_B (N_K (W_region (o_add Z Z Z oO (mV Z (R_nil ?_))))))))
   refine N_lp (hJ := ⟨k + 1, (mm + z3.cnt), _, Z, hle1, H, ?inv, Z⟩) (hm := ?hm)
   case hm => omega
   case inv => exact ⟨by omega, by (rw [Nd.cnts_succ hz3]; omega)⟩
  intro hc2'
  try simp only [nrm] at hc2'
  refine W_exit (N_K_exit (N_LP_exit (N_B_same (N_K (q2 (mV Z (aG Z (q3 (W_ret (rt1 results162 Z ?_))))))))))
  exact H.rets (congrArg (fun j : Nat => Value.int .i64 (j : Int)) (by (rw [hm, List.take_of_length_le oM]); omega))
theorem i_count_c (w0 : World) (G0 : PH) (hG : PSub G0 w0) (t : Nd) (hndt : RdN G0 t) (hct : t.cnt ≤ 100000) :
  Calls Tryz.prog 162 #[.pointer (some ⟨t.b, 0, none⟩)] w0 (Rets w0 (.int .i64 (t.cnt : Nat))) := i_count_r _ w0 G0 hG t hndt hct (Nat.le_refl _)
theorem i_put_n_c (w0 : World) (G0 : PH) (hG : PSub G0 w0) (Ft : Fr) (t : Nd) (hNt : NdO 149 97 G0 t Ft) (cx : List Value) (x : BItem) (hx : itemE G0 x cx) (hLent : Lent w0 G0 [frag Ft]) (hwt : t.wf) (hct : t.cnt ≤ 1000) :
  Calls Tryz.prog 121 #[.pointer (some ⟨t.b, 0, none⟩), .agg cx.toArray] w0 (RetM w0 G0 (fps [frag Ft]) (fun G' v Bs => ∃ (nb : Nat) (F' : Fr) (t' : Nd), v = .bool (t.putN x nb).isSome ∧ Bs = [frag F'] ∧ NdO 149 97 G' t' F' ∧ t'.b = t.b ∧ (t.putN x nb).getD t = t')) := by
 obtain ⟨a1, m1, c1, rfl, hi1, hr1⟩ := hx; have hy_hi1 : _ ≤ 16777216 := hi1; have hn_hr1 := hr1.len; have hx_hr1 : _ ≤ 1099511627776 := hr1.lim
 have H : Hp w0 G0 (fps [frag Ft]) w0 G0 [frag Ft] := hLent.hp
 refine calls_of_W (l := [.pointer (some ⟨t.b, 0, none⟩), _]) func121 Z ntmps121 Z (q2 (o_box H Z Z Z ?_)); intro b2 w2 hb2 H
 refine aG Z (q1 (mV Z (o_fieldAddr 0 runUnderlying37 Z sizeOf9 Z Z Z (o_load_B 0 H isAgg9 Z Z Z Z (o_call call106 Z Z (i_find_n_c _ _ (H.lendSubL [1]) _ ((H.lendN (k := 1) (ks := [1]) Z Z hNt).at (show Nd.at_ t [] = some t from Z)) _ hi1 hwt) ?_)))))
 rintro _ w3 ⟨_, rfl, ew3, ⟨hfi3, rfl⟩ | ⟨d3, hfi3, rfl⟩⟩
 ·skip
  have H := H.step ew3; refine ⟨_, rfl, ?_⟩
  refine aG Z (q3 (W_seq (q2 (mV Z (o_eqnil_ptr underlying97 Z Z Z (q3 (W_true Z (q2 (mV Z (o_call call162 Z Z (i_count_c _ _ (H.lendSubL [1]) _ ((H.lendN (k := 1) (ks := [1]) Z Z hNt).at (show Nd.at_ t [] = some t from Z)) oM) ?_))))))))))
  rintro _ w4 ⟨rfl, ew4⟩; have H := H.step ew4; refine ⟨_, rfl, ?_⟩
  refine o_lss Z Z Z (mV Z ?_)
  refine R_case (t := 15) Z ?_ ?_
  ·intro hc5
   try simp only [nrm] at hc5
   refine gR Z (mV Z (gR Z (o_loadagg_B 0 H isAgg37 sizeOf37 Z Z Z Z Z (gR Z ?_))))
   have H := H.toFront (k := 1) rfl
   refine o_call call150 Z Z (i_insert_c _ _ H.sub _ _ hNt _ x ⟨_, _, _, Z, hi1, hr1⟩ H.lent1 hwt hct) ?_
   rintro _ w6 ⟨G6, _, _, rfl, H6', ⟨nb6, F6, t6, rfl, rfl, hN6, hb6, ht6⟩⟩
   have H := H.borrow1 H6'
   try rw [← hb6]
   refine ⟨_, Z, ?_⟩
   refine o_pick_t Z Z Z (aG Z (q3 (W_ret (N_K_ret (rt1 results121 Z ?_)))))
   have H := H.del (k := 1) rfl
   have hput := Nd.put_ins (nb := nb6) hfi3 oM
   exact H.retM ⟨nb6, _, _, by (rw [hput]; rfl), rfl, hN6, by (first | exact hb6 | rfl), by (rw [hput]; exact ht6)⟩
  intro hc5'
  try simp only [nrm] at hc5'
  refine rP Z (rP Z (rP Z (o_pick_f Z Z Z (aG Z (q3 (W_ret (N_K_ret (rt1 results121 Z ?_))))))))
  have H := H.del (k := 0) rfl
  have hput := Nd.put_no1 (nb := 0) hfi3 oM
  exact H.retM ⟨0, _, _, by (rw [hput]; rfl), rfl, hNt, rfl, by (rw [hput]; rfl)⟩
 skip
 have H := H.step ew3; refine ⟨_, rfl, ?_⟩
 refine aG Z (q3 (W_seq (q2 (mV Z (o_eqnil_ptr underlying97 Z Z Z (q3 (W_false Z (W_skip (N_K (W_seq (q2 ?_)))))))))))
 have H := H.toFront (k := 1) rfl
 obtain ⟨oa, om, oc, okv, oFs, oR, H, ohri, ohNs, ohnl, ohkl, hcov, hclose⟩ := Hp.openNode H hNt (Nd.find_at_ hfi3)
 obtain ⟨oak, ock, rfl⟩ := H.accShape (k := 1) rfl; have hdo := PLe.refl G0; have hn_ohri := ohri.len
 refine mV Z (o_nilCheck Z Z (o_fieldAddr 1 runUnderlying149 Z sizeOf4 Z Z Z (o_load_B 0 H isAgg4 Z Z Z Z (mV Z ?_))))
 refine R_case (t := 24) Z ?_ ?_
 ·intro hc7
  try simp only [nrm] at hc7
  refine rP Z (rP Z (o_pick_t Z Z Z (q3 (W_true Z (q2 (aG Z (q3 (W_ret (N_K_ret (rt1 results121 Z ?_))))))))))
  have H := H.del (k := 3) rfl
  have H := H.toFront (k := 2) rfl
  have H := H.toFront (k := 2) rfl
  have H := H.toFront (k := 2) rfl
  obtain ⟨F2, H, hN2, hb2⟩ := hclose (Fs' := oFs) H (List.Perm.refl _) hdo ohri ohNs oM
  have hN2 := (Nd.upd_same (Nd.find_at_ hfi3)) ▸ hN2
  have hput := Nd.put_no2 (x := x) (nb := 0) hfi3 (by simp_all)
  exact H.retM ⟨0, _, _, by (rw [hput]; rfl), rfl, hN2, rfl, by (rw [hput]; rfl)⟩
 intro hc7'
 try simp only [nrm] at hc7'
 refine gR Z (o_fieldAddr 1 runUnderlying37 Z sizeOf4 Z Z Z (gR Z (o_load_B 3 H isAgg4 Z Z Z Z (o_pick_f Z Z Z (q3 ?_)))))
 refine W_cond Z ?_ ?_
 ·intro hc8
  try simp only [nrm] at hc8
  refine q2 (aG Z (q3 (W_ret (N_K_ret (rt1 results121 Z ?_)))))
  have H := H.del (k := 3) rfl
  have H := H.toFront (k := 2) rfl
  have H := H.toFront (k := 2) rfl
  have H := H.toFront (k := 2) rfl
  obtain ⟨F2, H, hN2, hb2⟩ := hclose (Fs' := oFs) H (List.Perm.refl _) hdo ohri ohNs oM
  have hN2 := (Nd.upd_same (Nd.find_at_ hfi3)) ▸ hN2
  have hput := Nd.put_no2 (x := x) (nb := 0) hfi3 (by simp_all)
  exact H.retM ⟨0, _, _, by (rw [hput]; rfl), rfl, hN2, rfl, by (rw [hput]; rfl)⟩
 intro hc8'
 try simp only [nrm] at hc8'
 refine W_skip (N_K (q2 (mV Z (o_fieldAddr 2 runUnderlying37 Z sizeOf33 Z Z Z (o_load_B 3 H isAgg33 Z Z Z Z (o_call call141 Z Z (l_Clone_c _ _ H.sub _ _ hr1 ) ?_))))))
 rintro _ w9 ⟨G9, v9, _, g9, rfl, ⟨cs9, rfl, hchk9⟩, hp9, hq9, hs9⟩
 have H := H.growO g9 hp9 hq9 hs9; obtain ⟨av9, cv9, rfl⟩ := H.accShape (k := 0) rfl
 have ohNs := ohNs.up g9.le
 have hdo := hdo.trans g9.le
 refine ⟨_, Z, ?_⟩
 obtain ⟨G10, H, hsg10, hsr10⟩ := H.shutL (k := 0) rfl (H.apart (k := 0) (ks := [1, 2, 3]) rfl rfl (by intro b hb; rcases hcov b hb with h | h | h; (· exact fpsAt_mem (k := 1) rfl rfl b (by simp [blk, h])); (· exact fpsAt_mem (k := 2) rfl rfl b h); (· exact fpsAt_mem (k := 3) rfl rfl b h))) hchk9 aN aN
 have ohNs := ohNs.up hsg10
 have hdo := hdo.trans hsg10
 refine o_nilCheck Z Z (o_fieldAddr 2 runUnderlying149 Z sizeOf33 Z Z Z (o_store_B 0 H sizeOf33 Z Z Z Z Z Z Z Z ?_)); intro w11 H
 refine q1 (aG Z (q3 (W_ret (rt1 results121 Z ?_))))
 have H := H.del (k := 3) rfl
 have H := H.toFront (k := 2) rfl
 have H := H.toFront (k := 2) rfl
 have H := H.toFront (k := 2) rfl
 obtain ⟨F2, H, hN2, hb2⟩ := hclose (ids' := x.ids) (Fs' := oFs) H (List.Perm.refl _) hdo hsr10 ohNs oM
 have hput := Nd.put_set (nb := 0) hfi3 (by simp_all)
 exact H.retM ⟨0, _, _, by (rw [hput]; rfl), rfl, hN2, hb2, by (rw [hput]; rfl)⟩
end Go.Proofs.Tst

namespace Go.Proofs.Tst
open Go Fw Tryz
theorem i_vwrite_c (w0 : World) (G0 : PH) (hG : PSub G0 w0) (mb : Nat) (es : Array MapEntry) (ck : Nat) (xs : List (Int × Value)) (T : Nd) (FT : Fr) (L : List BHeld) (l : List BItem) (hm : MapIs (Value.int .i64) es ck xs) (hS : StR G0 xs L) (hN : NdO 149 97 G0 T FT) (hT : Nd.TOK T l) (hH : Sp.Hol L l) (path : Bs) (hpath : path.length ≤ 16777216) (vbytes : Value) (bytes : List (Int)) (hbytes : RdI G0 vbytes bytes) (hLent : Lent w0 G0 [blk mb (.map es ck), frag FT]) (hB : Sp.FileValid bytes = true) :
  Calls Tryz.prog 67 #[.agg #[.map (some mb), .pointer (some ⟨T.b, 0, none⟩)], str path, vbytes] w0 (RetM w0 G0 (fps [blk mb (.map es ck), frag FT]) (fun G' v Bs => ∃ (es' : Array MapEntry) (ck' : Nat) (xs' : List (Int × Value)) (F' : Fr) (T' : Nd) (L' : List BHeld), v = .bool ((Sp.l11Write ⟨L, l⟩ path bytes)).isSome ∧ Bs = [blk mb (.map es' ck'), frag F'] ∧ MapIs (Value.int .i64) es' ck' xs' ∧ StR G' xs' L' ∧ Sp.VH L' ∧ NdO 149 97 G' T' F' ∧ T'.b = T.b ∧ ∀ u', (Sp.l11Write ⟨L, l⟩ path bytes) = some u' → L' = u'.store ∧ Nd.TOK T' u'.tree ∧ Sp.Hol u'.store u'.tree)) := by
 obtain ⟨abytes, kbytes, rfl⟩ := hbytes.shape
 have hlimbytes : bytes.length ≤ 1099511627776 := hbytes.lim
 have H : Hp w0 G0 (fps [blk mb (.map es ck), frag FT]) w0 G0 [blk mb (.map es ck), frag FT] := hLent.hp
 have hVd := hH.vh; have hTc := hT.cnt; have hTl := hH.vt.len
 refine calls_of_W (l := [_, str path, .slice abytes bytes.length kbytes]) func67 Z ntmps67 Z (q2 (o_box H Z Z Z ?_)); intro b1 w1 hb1 H
 refine aG Z (q3 (W_seq (q2 (mV Z (o_call call119 Z Z (i_PathValid_c _ _ H.sub _ hpath ) ?_)))))
 rintro _ w2 ⟨rfl, ew2⟩; have H := H.step ew2; refine ⟨_, rfl, ?_⟩
 refine o_not Z Z (q3 ?_)
 refine W_cond Z ?_ ?_
 ·intro hc3
  try simp only [nrm] at hc3
  refine q2 (aG Z (q3 (W_ret (N_K_ret (rt1 results67 Z ?_)))))
  have H := H.del (k := 0) rfl
  have H := H.toFront (k := 1) rfl
  have H := H.toFront (k := 1) rfl
  have hno : Sp.l11Write ⟨L, l⟩ path bytes = none := Sp.write_nop (by simpa using hc3)
  exact H.retM ⟨_, _, _, _, _, _, congrArg Value.bool (by (rw [hno]; rfl)), rfl, hm, hS, hVd, hN, rfl, fun u' h => (by rw [hno] at h; cases h)⟩
 intro hc3'
 try simp only [nrm] at hc3'
 refine W_skip (N_K (q2 (o_fieldAddr 0 runUnderlying99 Z sizeOf96 Z Z Z (o_load_B 0 H isAgg96 Z Z Z Z (mV Z ?_)))))
 have H := H.toFront (k := 1) rfl
 refine o_call call120 Z Z (i_storeFile_c _ _ H.sub _ _ _ _ _ hm hS hVd _ _ hbytes H.lent1 hB) ?_
 rintro _ w4 ⟨G4, _, _, rfl, H4', ⟨es4, ck4, xs4, L4, u4, c4, ids4, rfl, rfl, hm4, hS4, hV4, hL4, hchk4, hidl4⟩⟩
 have hN := hN.up H4'.le
 have H := H.borrow1 H4'
 obtain ⟨avr4, cvr4, rfl⟩ := H.accShape (k := 0) rfl
 refine ⟨_, Z, ?_⟩
 refine mV Z (o_extract Z Z Z (o_extract Z Z Z (aG Z (aG Z (q3 (W_seq (q2 (mV Z (o_not Z Z (q3 ?_))))))))))
 refine W_cond Z ?_ ?_
 ·intro hc5
  try simp only [nrm] at hc5
  refine q2 (aG Z (q3 (W_ret (N_K_ret (rt1 results67 Z ?_)))))
  have H := H.del (k := 0) rfl
  have H := H.del (k := 1) rfl
  have H := H.toFront (k := 1) rfl
  have H := H.toFront (k := 1) rfl
  have hno : Sp.l11Write ⟨L, l⟩ path bytes = none := Sp.l11Write_1 (v := ⟨L, l⟩) (by simpa using hc5)
  exact H.retM ⟨_, _, _, _, _, _, congrArg Value.bool (by (rw [hno]; rfl)), rfl, hm4, hS4, hV4, hN, rfl, fun u' h => (by rw [hno] at h; cases h)⟩
 intro hc5'
 try simp only [nrm] at hc5'
 refine W_skip (N_K (q2 ?_))
 obtain ⟨G6, H, hsg6, hsr6⟩ := H.shutL (k := 0) rfl (H.apart (k := 0) (ks := [1, 3]) rfl rfl (by intro b hb; simp only [fps, List.flatMap_cons, List.flatMap_nil, List.append_nil, List.mem_append] at hb; rcases hb with h | h; (· exact fpsAt_mem (k := 1) rfl rfl b (by exact h)); (· exact fpsAt_mem (k := 3) rfl rfl b (by exact h)))) hchk4 aN aN
 have hN := hN.up hsg6
 have hS4 := hS4.up hsg6
 refine aG Z (q3 (W_seq (q2 (o_fieldAddr 1 runUnderlying99 Z sizeOf97 Z Z Z (o_load_B 1 H isAgg97 Z Z Z Z (mV Z (o_call call106 Z Z (i_find_n_c _ _ (H.lendSubL [2]) _ ((H.lendN (k := 2) (ks := [2]) Z Z hN).at (show Nd.at_ T [] = some T from Z)) _ hpath hT.wf) ?_)))))))
 rintro _ w7 ⟨_, rfl, ew7, ⟨hfi7, rfl⟩ | ⟨d7, hfi7, rfl⟩⟩
 ·skip
  have H := H.step ew7; refine ⟨_, rfl, ?_⟩
  refine aG Z (q1 (mV Z (o_nenil_ptr underlying97 Z Z Z (q3 (W_false Z (W_skip (N_K (q2 (o_fieldAddr 1 runUnderlying99 Z sizeOf97 Z Z Z (o_load_B 1 H isAgg97 Z Z Z Z (mV Z (mV Z (o_build bf37 Z Z Z ?_)))))))))))))
  have H := H.toFront (k := 2) rfl
  refine o_call call121 Z Z (i_put_n_c _ _ H.sub _ _ hN _ ⟨path, false, ids4⟩ ⟨_, _, _, Z, hpath, hsr6⟩ H.lent1 hT.wf oM) ?_
  rintro _ w8 ⟨G8, _, _, rfl, H8', ⟨nb8, F8, t8, rfl, rfl, hN8, hb8, ht8⟩⟩
  have hS4 := hS4.up H8'.le
  have H := H.borrow1 H8'
  try rw [← hb8]
  refine ⟨_, Z, ?_⟩
  refine mV Z ?_
  refine R_case (t := 39) Z ?_ ?_
  ·intro hc9
   try simp only [nrm] at hc9
   refine gR Z (o_fieldAddr 0 runUnderlying99 Z sizeOf96 Z Z Z (gR Z (o_load_B 2 H isAgg96 Z Z Z Z (gR Z (mV Z (gR Z ?_))))))
   have H := H.toFront (k := 1) rfl
   refine o_call call122 Z Z (i_freeFile_c _ _ H.sub _ _ _ _ _ hm4 hS4 hV4 _ _ (RdS.nil _ _ _) H.lent1 ) ?_
   rintro _ w10 ⟨G10, _, _, rfl, H10', ⟨es10, ck10, xs10, L10, rfl, rfl, hm10, hS10, hV10, hL10⟩⟩
   have hN8 := hN8.up H10'.le
   have H := H.borrow1 H10'
   refine ⟨_, Z, ?_⟩
   refine o_pick_t Z Z Z (aG Z (q3 (W_ret (rt1 results67 Z ?_))))
   have H := H.del (k := 2) rfl
   have H := H.toFront (k := 1) rfl
   have H := H.toFront (k := 1) rfl
   obtain ⟨r, hr⟩ := Option.isSome_iff_exists.1 (show (Sp.FileStore L bytes).isSome = true by simpa using hc5')
   have hst : Sp.FileStore L bytes = some (L4, ids4) := hr.trans (congrArg some (hL4 r hr))
   have hpt : T.putN ⟨path, false, ids4⟩ nb8 = some t8 := by (obtain ⟨q, hq⟩ := Option.isSome_iff_exists.1 (show (T.putN ⟨path, false, ids4⟩ nb8).isSome = true by simpa using hc9); (rw [← ht8, hq]; rfl))
   obtain ⟨s', tt, g1, g2, g3, g4⟩ := Sp.write_fin hH hT (show Sp.PathValid path = true by simpa using hc3') hst hpt (.inl ⟨hfi7, rfl⟩)
   exact H.retM ⟨_, _, _, _, _, _, congrArg Value.bool (by (rw [g1, g2]; rfl)), rfl, hm10, hS10, hV10, hN8, (by first | rfl | exact hb8), fun u' h => (by rw [g2] at h; cases h; exact ⟨hL10 _ g1, g3, g4⟩)⟩
  intro hc9'
  try simp only [nrm] at hc9'
  refine rP Z (rP Z (rP Z (rP Z (o_pick_f Z Z Z (aG Z (q3 (W_ret (rt1 results67 Z ?_))))))))
  have H := H.del (k := 2) rfl
  have H := H.toFront (k := 1) rfl
  obtain ⟨r, hr⟩ := Option.isSome_iff_exists.1 (show (Sp.FileStore L bytes).isSome = true by simpa using hc5')
  have hst : Sp.FileStore L bytes = some (L4, ids4) := hr.trans (congrArg some (hL4 r hr))
  have hno : Sp.l11Write ⟨L, l⟩ path bytes = none := Sp.write_no2 (nb := nb8) hH hT (show Sp.PathValid path = true by simpa using hc3') hst (by simpa using hc9')
  exact H.retM ⟨_, _, _, _, _, _, congrArg Value.bool (by (rw [hno]; rfl)), rfl, hm4, hS4, hV4, hN8, (by first | rfl | exact hb8), fun u' h => (by rw [hno] at h; cases h)⟩
 skip
 have H := H.step ew7; refine ⟨_, rfl, ?_⟩
 refine aG Z (q1 (mV Z (o_nenil_ptr underlying97 Z Z Z (q3 (W_true Z (W_region ?_))))))
 have H := H.toFront (k := 2) rfl
 obtain ⟨oa, om, oc, okv, oFs, oR, H, ohri, ohNs, ohnl, ohkl, hcov, hclose⟩ := Hp.openNode H hN (Nd.find_at_ hfi7)
 obtain ⟨oak, ock, rfl⟩ := H.accShape (k := 1) rfl; have hdo := PLe.refl G6; have hn_ohri := ohri.len
 refine mV Z (o_nilCheck Z Z (o_fieldAddr 2 runUnderlying149 Z sizeOf33 Z Z Z (o_load_B 0 H isAgg33 Z Z Z Z (aG Z (q1 ?_)))))
 have H := H.toFront (k := 4) rfl
 have H := H.toFront (k := 4) rfl
 have H := H.toFront (k := 4) rfl
 have H := H.toFront (k := 4) rfl
 have H := H.toFront (k := 4) rfl
 obtain ⟨F2, H, hN2, hb2⟩ := hclose (Fs' := oFs) H (List.Perm.refl _) hdo ohri ohNs oM
 have hN2 := (Nd.upd_same (Nd.find_at_ hfi7)) ▸ hN2
 refine o_fieldAddr 1 runUnderlying99 Z sizeOf97 Z Z Z (o_load_B 2 H isAgg97 Z Z Z Z (mV Z (mV Z (o_build bf37 Z Z Z (o_call call121 Z Z (i_put_n_c _ _ H.sub _ _ hN2 _ ⟨path, false, ids4⟩ ⟨_, _, _, Z, hpath, hsr6⟩ H.lent1 hT.wf oM) ?_)))))
 rintro _ w11 ⟨G11, _, _, rfl, H11', ⟨nb11, F11, t11, rfl, rfl, hN11, hb11, ht11⟩⟩
 have hS4 := hS4.up H11'.le
 have ohri := ohri.up H11'.le
 have H := H.borrow1 H11'
 try rw [← hb11]
 refine ⟨_, Z, ?_⟩
 refine mV Z ?_
 refine R_case (t := 39) Z ?_ ?_
 ·intro hc12
  try simp only [nrm] at hc12
  refine gR Z (o_fieldAddr 0 runUnderlying99 Z sizeOf96 Z Z Z (gR Z (o_load_B 2 H isAgg96 Z Z Z Z (gR Z (mV Z (gR Z ?_))))))
  have H := H.toFront (k := 1) rfl
  refine o_call call122 Z Z (i_freeFile_c _ _ H.sub _ _ _ _ _ hm4 hS4 hV4 _ _ ohri H.lent1 ) ?_
  rintro _ w13 ⟨G13, _, _, rfl, H13', ⟨es13, ck13, xs13, L13, rfl, rfl, hm13, hS13, hV13, hL13⟩⟩
  have hN11 := hN11.up H13'.le
  have H := H.borrow1 H13'
  refine ⟨_, Z, ?_⟩
  refine o_pick_t Z Z Z (aG Z (q3 (W_ret (rt1 results67 Z ?_))))
  have H := H.del (k := 2) rfl
  have H := H.toFront (k := 1) rfl
  have H := H.toFront (k := 1) rfl
  obtain ⟨r, hr⟩ := Option.isSome_iff_exists.1 (show (Sp.FileStore L bytes).isSome = true by simpa using hc5')
  have hst : Sp.FileStore L bytes = some (L4, ids4) := hr.trans (congrArg some (hL4 r hr))
  have hpt : T.putN ⟨path, false, ids4⟩ nb11 = some t11 := by (obtain ⟨q, hq⟩ := Option.isSome_iff_exists.1 (show (T.putN ⟨path, false, ids4⟩ nb11).isSome = true by simpa using hc12); (rw [← ht11, hq]; rfl))
  obtain ⟨s', tt, g1, g2, g3, g4⟩ := Sp.write_fin hH hT (show Sp.PathValid path = true by simpa using hc3') hst hpt (.inr ⟨d7, hfi7, rfl⟩)
  exact H.retM ⟨_, _, _, _, _, _, congrArg Value.bool (by (rw [g1, g2]; rfl)), rfl, hm13, hS13, hV13, hN11, (by first | rfl | exact hb11), fun u' h => (by rw [g2] at h; cases h; exact ⟨hL13 _ g1, g3, g4⟩)⟩
 intro hc12'
 try simp only [nrm] at hc12'
 refine rP Z (rP Z (rP Z (rP Z (o_pick_f Z Z Z (aG Z (q3 (W_ret (rt1 results67 Z ?_))))))))
 have H := H.del (k := 2) rfl
 have H := H.toFront (k := 1) rfl
 obtain ⟨r, hr⟩ := Option.isSome_iff_exists.1 (show (Sp.FileStore L bytes).isSome = true by simpa using hc5')
 have hst : Sp.FileStore L bytes = some (L4, ids4) := hr.trans (congrArg some (hL4 r hr))
 have hno : Sp.l11Write ⟨L, l⟩ path bytes = none := Sp.write_no2 (nb := nb11) hH hT (show Sp.PathValid path = true by simpa using hc3') hst (by simpa using hc12')
 exact H.retM ⟨_, _, _, _, _, _, congrArg Value.bool (by (rw [hno]; rfl)), rfl, hm4, hS4, hV4, hN11, (by first | rfl | exact hb11), fun u' h => (by rw [hno] at h; cases h)⟩
end Go.Proofs.Tst

namespace Go.Proofs.Tst
open Go Fw Tryz
theorem i_dwrite_c (w0 : World) (G0 : PH) (hG : PSub G0 w0) (db mb : Nat) (es : Array MapEntry) (ck : Nat) (xs : List (Int × Value)) (T : Nd) (FT : Fr) (sv : Value) (sn : List (Bs × Nd)) (c : List Value) (FSq : Fr) (d : BDisk) (hm : MapIs (Value.int .i64) es ck xs) (hS : StR G0 xs d.store) (hN : NdO 149 97 G0 T FT) (hT : Nd.TOK T d.tree) (hchk : Chk osE 2 G0 c sn) (hNs : NdsO 149 97 G0 (sn.map (·.2)) FSq) (hSn : SnOK sn d.snaps) (hdv : Sp.DiskValid d = true) (path : Bs) (hpath : path.length ≤ 16777216) (vbytes : Value) (bytes : List (Int)) (hbytes : RdI G0 vbytes bytes) (hLent : Lent w0 G0 [blk db (cl [.int .i32 0, .int .u32 0, .map (some mb), .pointer (some ⟨T.b, 0, none⟩), sv] 131), blk mb (.map es ck), frag FT, acc 135 2 sv sn.length c, frag FSq])  :
  Calls Tryz.prog 62 #[.pointer (some ⟨db, 0, none⟩), str path, vbytes] w0 (RetM w0 G0 (fps [blk db (cl [.int .i32 0, .int .u32 0, .map (some mb), .pointer (some ⟨T.b, 0, none⟩), sv] 131), blk mb (.map es ck), frag FT, acc 135 2 sv sn.length c, frag FSq]) (fun G' v Bs => ∃ (es' : Array MapEntry) (ck' : Nat) (xs' : List (Int × Value)) (F' : Fr) (T' : Nd) (sv' : Value) (sn' : List (Fw.Bs × Nd)) (c' : List Value) (FSq' : Fr) (L' : List BHeld), v = .bool (Sp.DiskWrite d path bytes).isSome ∧ Bs = [blk db (cl [.int .i32 0, .int .u32 0, .map (some mb), .pointer (some ⟨T'.b, 0, none⟩), sv'] 131), blk mb (.map es' ck'), frag F', acc 135 2 sv' sn'.length c', frag FSq'] ∧ MapIs (Value.int .i64) es' ck' xs' ∧ StR G' xs' L' ∧ Sp.VH L' ∧ NdO 149 97 G' T' F' ∧ Chk osE 2 G' c' sn' ∧ NdsO 149 97 G' (sn'.map (·.2)) FSq' ∧ ∀ d', Sp.DiskWrite d path bytes = some d' → L' = d'.store ∧ Nd.TOK T' d'.tree ∧ SnOK sn' d'.snaps)) := by
 obtain ⟨abytes, kbytes, rfl⟩ := hbytes.shape
 have hlimbytes : bytes.length ≤ 1099511627776 := hbytes.lim
 have H : Hp w0 G0 (fps [blk db (cl [.int .i32 0, .int .u32 0, .map (some mb), .pointer (some ⟨T.b, 0, none⟩), sv] 131), blk mb (.map es ck), frag FT, acc 135 2 sv sn.length c, frag FSq]) w0 G0 [blk db (cl [.int .i32 0, .int .u32 0, .map (some mb), .pointer (some ⟨T.b, 0, none⟩), sv] 131), blk mb (.map es ck), frag FT, acc 135 2 sv sn.length c, frag FSq] := hLent.hp
 obtain ⟨adv, cdv, rfl⟩ := H.accShape (k := 3) rfl; have hVd := Sp.valid_iff.1 (Sp.dv_parts.1 hdv).1; have hTv := (Sp.dv_parts.1 hdv).2.1; have hTc := hT.cnt; have hTl := Sp.tree_len hTv; have hsnl := hSn.len; have hsn6 := (Sp.dv_parts.1 hdv).2.2.1
 have hHd := Sp.DHol.hol (ts := d.snaps.map (·.tree)) (Sp.dd_iff.1 hdv).2
 refine calls_of_WD (l := [.pointer (some ⟨db, 0, none⟩), str path, .slice abytes bytes.length kbytes]) func62 Z ntmps62 Z (q2 (aG Z (q1 (mV Z (o_nilCheck Z Z (o_fieldAddr 0 runUnderlying131 Z sizeOf128 Z Z Z (o_lock 0 H muLib Z call90 Z Z Z Z ?_))))))); intro w1 H
 refine q1 (mV Z (o_nilCheck Z Z (o_fieldAddr 0 runUnderlying131 Z sizeOf128 Z Z Z (o_defer Z (q1 (mV Z (o_call call66 Z Z (i_FileValid_c _ _ H.sub _ _ hbytes ) ?_)))))))
 rintro _ w2 ⟨rfl, ew2⟩; have H := H.step ew2; refine ⟨_, rfl, ?_⟩
 refine mV Z ?_
 refine R_case (t := 16) Z ?_ ?_
 ·intro hc3
  try simp only [nrm] at hc3
  refine gR Z (mV Z (gR Z (o_nilCheck Z Z (gR Z (o_fieldAddr 2 runUnderlying131 Z sizeOf99 Z Z Z (gR Z (o_loadagg_B 0 H isAgg99 sizeOf99 Z Z Z Z Z (gR Z (mV Z (gR Z (mV Z (gR Z ?_))))))))))))
  have H := H.toFront (k := 2) rfl
  have H := H.toFront (k := 2) rfl
  refine o_call call67 Z Z (i_vwrite_c _ _ H.sub _ _ _ _ _ _ _ _ hm hS hN hT hHd _ hpath _ _ hbytes H.lent2 (by assumption)) ?_
  rintro _ w4 ⟨G4, _, _, rfl, H4', ⟨es4, ck4, xs4, F4, T4, L4, rfl, rfl, hm4, hS4, hV4, hN4, hb4, hu4⟩⟩
  have hchk := hchk.up H4'.le
  have hNs := hNs.up H4'.le
  have H := H.borrow2 H4'
  try rw [← hb4]
  try rw [← hb4] at H
  refine ⟨_, Z, ?_⟩
  refine o_pick_t Z Z Z (aG Z (q3 (W_ret (ret_unlock 2 H muLib Z call91 Z Z (rs := [.tmp 6]) results62 ?_)))); intro wu1 H
  refine ⟨[_], ⟨Z, trivial⟩, ?_⟩
  have H := H.toFront (k := 4) rfl
  have H := H.toFront (k := 4) rfl
  have H := H.toFront (k := 3) rfl
  have H := H.toFront (k := 3) rfl
  have H := H.toFront (k := 4) rfl
  exact H.retM ⟨_, _, _, _, T4, _, sn, _, _, L4, congrArg Value.bool (by simp [Sp.DiskWrite, hdv, hc3]), rfl, hm4, hS4, hV4, hN4, hchk, hNs, fun d2 h => (by obtain ⟨_, _, v2, h1, rfl⟩ := Sp.dwrite_get h; obtain ⟨g1, g2, _⟩ := hu4 v2 h1; exact ⟨g1, g2, hSn⟩)⟩
 intro hc3'
 try simp only [nrm] at hc3'
 refine rP Z (rP Z (rP Z (rP Z (rP Z (rP Z (rP Z (o_pick_f Z Z Z (aG Z (q3 (W_ret (ret_unlock 0 H muLib Z call91 Z Z (rs := [.tmp 6]) results62 ?_))))))))))); intro wu2 H
 refine ⟨[_], ⟨Z, trivial⟩, ?_⟩
 have H := H.toFront (k := 4) rfl
 have H := H.toFront (k := 4) rfl
 have H := H.toFront (k := 4) rfl
 have H := H.toFront (k := 4) rfl
 have H := H.toFront (k := 4) rfl
 have hno : Sp.DiskWrite d path bytes = none := by simp [Sp.DiskWrite, hc3']
 exact H.retM ⟨_, _, _, _, T, _, sn, _, _, d.store, congrArg Value.bool (by (rw [hno]; rfl)), rfl, hm, hS, hVd, hN, hchk, hNs, fun d2 h => (by rw [hno] at h; cases h)⟩
end Go.Proofs.Tst

namespace Go.Proofs.Tst
open Go Fw Tryz
theorem i_SnapBack1_c (w0 : World) (G0 : PH) (hG : PSub G0 w0) (db mb : Nat) (es : Array MapEntry) (ck : Nat) (xs : List (Int × Value)) (T : Nd) (FT : Fr) (sv : Value) (sn : List (Bs × Nd)) (c : List Value) (FSq : Fr) (d : BDisk) (hm : MapIs (Value.int .i64) es ck xs) (hS : StR G0 xs d.store) (hN : NdO 149 97 G0 T FT) (hT : Nd.TOK T d.tree) (hchk : Chk osE 2 G0 c sn) (hNs : NdsO 149 97 G0 (sn.map (·.2)) FSq) (hSn : SnOK sn d.snaps) (hdv : Sp.DiskValid d = true) (cp : Nat) (name : Bs) (hname : name.length ≤ 16777216) (hcp : PRow G0 cp 0 [str name]) (hLent : Lent w0 G0 [blk db (cl [.int .i32 0, .int .u32 0, .map (some mb), .pointer (some ⟨T.b, 0, none⟩), sv] 131), blk mb (.map es ck), frag FT, acc 135 2 sv sn.length c, frag FSq])  :
  Calls Tryz.prog 58 #[.pointer (some ⟨db, 0, none⟩), .pointer (some ⟨cp, 0, none⟩)] w0 (RetM w0 G0 (fps [blk db (cl [.int .i32 0, .int .u32 0, .map (some mb), .pointer (some ⟨T.b, 0, none⟩), sv] 131), blk mb (.map es ck), frag FT, acc 135 2 sv sn.length c, frag FSq]) (fun G' v Bs => ∃ (es' : Array MapEntry) (ck' : Nat) (xs' : List (Int × Value)) (F' : Fr) (T' : Nd) (sv' : Value) (sn' : List (Fw.Bs × Nd)) (c' : List Value) (FSq' : Fr) (L' : List BHeld), v = .bool (Sp.SnapBack d name).isSome ∧ Bs = [blk db (cl [.int .i32 0, .int .u32 0, .map (some mb), .pointer (some ⟨T'.b, 0, none⟩), sv'] 131), blk mb (.map es' ck'), frag F', acc 135 2 sv' sn'.length c', frag FSq'] ∧ MapIs (Value.int .i64) es' ck' xs' ∧ StR G' xs' L' ∧ Sp.VH L' ∧ NdO 149 97 G' T' F' ∧ Chk osE 2 G' c' sn' ∧ NdsO 149 97 G' (sn'.map (·.2)) FSq' ∧ ∀ d', Sp.SnapBack d name = some d' → L' = d'.store ∧ Nd.TOK T' d'.tree ∧ SnOK sn' d'.snaps)) := by
 have H : Hp w0 G0 (fps [blk db (cl [.int .i32 0, .int .u32 0, .map (some mb), .pointer (some ⟨T.b, 0, none⟩), sv] 131), blk mb (.map es ck), frag FT, acc 135 2 sv sn.length c, frag FSq]) w0 G0 [blk db (cl [.int .i32 0, .int .u32 0, .map (some mb), .pointer (some ⟨T.b, 0, none⟩), sv] 131), blk mb (.map es ck), frag FT, acc 135 2 sv sn.length c, frag FSq] := hLent.hp
 obtain ⟨adv, cdv, rfl⟩ := H.accShape (k := 3) rfl; have hVd := Sp.valid_iff.1 (Sp.dv_parts.1 hdv).1; have hTv := (Sp.dv_parts.1 hdv).2.1; have hTc := hT.cnt; have hTl := Sp.tree_len hTv; have hsnl := hSn.len; have hsn6 := (Sp.dv_parts.1 hdv).2.2.1
 refine calls_of_W (l := [.pointer (some ⟨db, 0, none⟩), .pointer (some ⟨cp, 0, none⟩)]) func58 Z ntmps58 Z (q2 (aG Z (q1 (mV Z (o_load_P H isAgg9 Z Z (hcp 0 _ Z) ?_)))))
 have H := H.toFront (k := 4) rfl
 have H := H.toFront (k := 4) rfl
 have H := H.toFront (k := 4) rfl
 have H := H.toFront (k := 4) rfl
 have H := H.toFront (k := 4) rfl
 refine o_call call59 Z Z (i_back_c _ _ H.sub _ _ _ _ _ _ _ _ _ _ _ _ hm hS hN hT hchk hNs hSn hdv _ hname H.lent5 ) ?_
 rintro _ w1 ⟨G1, _, _, rfl, H1', ⟨es1, ck1, xs1, F1, T1, sv1, sn1, c1, FS1, L1, rfl, rfl, hm1, hS1, hV1, hN1, hchk1, hNs1, hd1⟩⟩
 have H := H.borrow5 H1'
 obtain ⟨avAd, cvAd, rfl⟩ := H.accShape (k := 3) rfl
 refine ⟨_, Z, ?_⟩
 refine aG Z (q3 (W_ret (rt1 results58 Z ?_)))
 have H := H.toFront (k := 4) rfl
 have H := H.toFront (k := 4) rfl
 have H := H.toFront (k := 4) rfl
 have H := H.toFront (k := 4) rfl
 have H := H.toFront (k := 4) rfl
 exact H.retM ⟨_, _, _, _, _, _, _, _, _, _, Z, Z, hm1, hS1, hV1, hN1, hchk1, hNs1, hd1⟩
theorem i_DiskWrite1_c (w0 : World) (G0 : PH) (hG : PSub G0 w0) (db mb : Nat) (es : Array MapEntry) (ck : Nat) (xs : List (Int × Value)) (T : Nd) (FT : Fr) (sv : Value) (sn : List (Bs × Nd)) (c : List Value) (FSq : Fr) (d : BDisk) (hm : MapIs (Value.int .i64) es ck xs) (hS : StR G0 xs d.store) (hN : NdO 149 97 G0 T FT) (hT : Nd.TOK T d.tree) (hchk : Chk osE 2 G0 c sn) (hNs : NdsO 149 97 G0 (sn.map (·.2)) FSq) (hSn : SnOK sn d.snaps) (hdv : Sp.DiskValid d = true) (cp : Nat) (path : Bs) (hpath : path.length ≤ 16777216) (hcp : PRow G0 cp 0 [str path]) (cq : Nat) (abytes : Option Addr) (bytes : List Int) (kbytes : Nat) (hcq : PRow G0 cq 0 [.slice abytes bytes.length kbytes]) (hbytes : RdI G0 (.slice abytes bytes.length kbytes) bytes) (hLent : Lent w0 G0 [blk db (cl [.int .i32 0, .int .u32 0, .map (some mb), .pointer (some ⟨T.b, 0, none⟩), sv] 131), blk mb (.map es ck), frag FT, acc 135 2 sv sn.length c, frag FSq])  :
  Calls Tryz.prog 61 #[.pointer (some ⟨db, 0, none⟩), .pointer (some ⟨cp, 0, none⟩), .pointer (some ⟨cq, 0, none⟩)] w0 (RetM w0 G0 (fps [blk db (cl [.int .i32 0, .int .u32 0, .map (some mb), .pointer (some ⟨T.b, 0, none⟩), sv] 131), blk mb (.map es ck), frag FT, acc 135 2 sv sn.length c, frag FSq]) (fun G' v Bs => ∃ (es' : Array MapEntry) (ck' : Nat) (xs' : List (Int × Value)) (F' : Fr) (T' : Nd) (sv' : Value) (sn' : List (Fw.Bs × Nd)) (c' : List Value) (FSq' : Fr) (L' : List BHeld), v = .bool (Sp.DiskWrite d path bytes).isSome ∧ Bs = [blk db (cl [.int .i32 0, .int .u32 0, .map (some mb), .pointer (some ⟨T'.b, 0, none⟩), sv'] 131), blk mb (.map es' ck'), frag F', acc 135 2 sv' sn'.length c', frag FSq'] ∧ MapIs (Value.int .i64) es' ck' xs' ∧ StR G' xs' L' ∧ Sp.VH L' ∧ NdO 149 97 G' T' F' ∧ Chk osE 2 G' c' sn' ∧ NdsO 149 97 G' (sn'.map (·.2)) FSq' ∧ ∀ d', Sp.DiskWrite d path bytes = some d' → L' = d'.store ∧ Nd.TOK T' d'.tree ∧ SnOK sn' d'.snaps)) := by
 have hlimbytes : bytes.length ≤ 1099511627776 := hbytes.lim
 have H : Hp w0 G0 (fps [blk db (cl [.int .i32 0, .int .u32 0, .map (some mb), .pointer (some ⟨T.b, 0, none⟩), sv] 131), blk mb (.map es ck), frag FT, acc 135 2 sv sn.length c, frag FSq]) w0 G0 [blk db (cl [.int .i32 0, .int .u32 0, .map (some mb), .pointer (some ⟨T.b, 0, none⟩), sv] 131), blk mb (.map es ck), frag FT, acc 135 2 sv sn.length c, frag FSq] := hLent.hp
 obtain ⟨adv, cdv, rfl⟩ := H.accShape (k := 3) rfl; have hVd := Sp.valid_iff.1 (Sp.dv_parts.1 hdv).1; have hTv := (Sp.dv_parts.1 hdv).2.1; have hTc := hT.cnt; have hTl := Sp.tree_len hTv; have hsnl := hSn.len; have hsn6 := (Sp.dv_parts.1 hdv).2.2.1
 refine calls_of_W (l := [.pointer (some ⟨db, 0, none⟩), .pointer (some ⟨cp, 0, none⟩), .pointer (some ⟨cq, 0, none⟩)]) func61 Z ntmps61 Z (q2 (aG Z (q1 (mV Z (o_load_P H isAgg9 Z Z (hcp 0 _ Z) (o_load_P H isAgg33 Z Z (hcq 0 _ Z) ?_))))))
 have H := H.toFront (k := 4) rfl
 have H := H.toFront (k := 4) rfl
 have H := H.toFront (k := 4) rfl
 have H := H.toFront (k := 4) rfl
 have H := H.toFront (k := 4) rfl
 refine o_call call62 Z Z (i_dwrite_c _ _ H.sub _ _ _ _ _ _ _ _ _ _ _ _ hm hS hN hT hchk hNs hSn hdv _ hpath _ _ hbytes H.lent5 ) ?_
 rintro _ w1 ⟨G1, _, _, rfl, H1', ⟨es1, ck1, xs1, F1, T1, sv1, sn1, c1, FS1, L1, rfl, rfl, hm1, hS1, hV1, hN1, hchk1, hNs1, hd1⟩⟩
 have H := H.borrow5 H1'
 obtain ⟨avAd, cvAd, rfl⟩ := H.accShape (k := 3) rfl
 refine ⟨_, Z, ?_⟩
 refine aG Z (q3 (W_ret (rt1 results61 Z ?_)))
 have H := H.toFront (k := 4) rfl
 have H := H.toFront (k := 4) rfl
 have H := H.toFront (k := 4) rfl
 have H := H.toFront (k := 4) rfl
 have H := H.toFront (k := 4) rfl
 exact H.retM ⟨_, _, _, _, _, _, _, _, _, _, Z, Z, hm1, hS1, hV1, hN1, hchk1, hNs1, hd1⟩
end Go.Proofs.Tst

namespace Go.Proofs.Tst
open Go Fw Tryz
theorem i_changed_back_c (w0 : World) (G0 : PH) (hG : PSub G0 w0) (cd : List Value) (d : BDisk) (hd : diskE G0 d cd) (cp : Nat) (name : Bs) (hname : name.length ≤ 16777216) (hcp : PRow G0 cp 0 [str name])  :
  Calls Tryz.prog 41 #[.agg cd.toArray, .func (.func 58) #[] #[.pointer (some ⟨cp, 0, none⟩)]] w0 (RetN w0 G0 (fun v Bs => ∃ (v1 v2 v3 : Value) (F1 F2 F3 : Fr), v = .tuple #[.agg #[v1, v2, v3], .bool (Sp.SnapBack d name).isSome] ∧ Bs = [frag F1, frag F2, frag F3] ∧ OHs F1 v1 ((Sp.SnapBack d name).getD ⟨[], [], []⟩).store ∧ OIs F2 v2 ((Sp.SnapBack d name).getD ⟨[], [], []⟩).tree ∧ OSn F3 v3 ((Sp.SnapBack d name).getD ⟨[], [], []⟩).snaps)) := by
 obtain ⟨a1, m1, c1, a1', m1', c1', a1'', m1'', c1'', rfl, hr1, hr1', hr1''⟩ := hd; have hn_hr1 := hr1.len; have hx_hr1 : _ ≤ 1099511627776 := hr1.lim; have hn_hr1q := hr1'.len; have hx_hr1q : _ ≤ 1099511627776 := hr1'.lim; have hn_hr1qq := hr1''.len; have hx_hr1qq : _ ≤ 1099511627776 := hr1''.lim
 have H := Hp.init hG
 refine calls_of_W (l := [_, .func (.func 58) #[] #[.pointer (some ⟨cp, 0, none⟩)]]) func41 Z ntmps41 Z (q2 (o_box H Z Z Z ?_)); intro b2 w2 hb2 H
 refine o_alloc H zeroValue27 Z Z ?_; intro b3 w3 hb3 H
 refine aG Z (q1 (o_loadagg_B 1 H isAgg27 sizeOf27 Z Z Z Z Z (o_call call52 Z Z (i_newDisk_c _ _ H.sub _ d ⟨_, _, _, _, _, _, _, _, _, Z, hr1, hr1', hr1''⟩ H.lent0 ) ?_)))
 rintro _ w4 ⟨G4, _, _, rfl, H4', ⟨rfl, rfl, hnd4⟩ | ⟨db4, mb4, es4, ck4, xs4, T4, F4, sv4, sn4, c4, FS4, rfl, rfl, hm4, hS4, hN4, hT4, hchk4, hNs4, hSn4, hdv4⟩⟩
 ·skip
  have H := H.borrow0 H4'
  refine ⟨_, Z, ?_⟩
  refine mV Z (o_extract Z Z Z (o_extract Z Z Z (aG Z (aG Z (q3 (W_seq (q2 (mV Z (o_not Z Z (mV Z (rP Z (rP Z (rP Z (rP Z (o_pick_t Z Z Z ?_)))))))))))))))
  refine q3 (W_true Z (q2 (o_build bf27 Z Z Z (o_store_B 0 H sizeOf27 Z Z Z Z Z Z Z Z ?_)))); intro w5 H
  refine aG Z (q3 (W_ret (N_K_ret (ret_gen (rs := [.cell 4 27, .tmp 5]) (vs := [_, _]) results41 ⟨⟨_, Z, load_blk 0 H isAgg27 sizeOf27 Z Z Z⟩, Z, trivial⟩ ?_))))
  have H := H.del (k := 0) rfl
  have H := H.del (k := 0) rfl
  have hno : Sp.SnapBack d name = none := by (cases hh : Sp.SnapBack d name with | none => rfl | some q => (have hx := Sp.back_isv hh; rw [hnd4] at hx; cases hx))
  have H := (((H.addF).addF).addF).forget hG (by simp)
  refine ⟨_, _, Z, H, .slice none 0 0, .slice none 0 0, .slice none 0 0, [], [], [], ?_, Z, ?_, ?_, ?_⟩
  ·(rw [hno]; rfl)
  ·(rw [hno]; exact oh_nil)
  ·(rw [hno]; exact oi_nil)
  (rw [hno]; exact os_nil)
 skip
 have hcp := hcp.up H4'.le
 have H := H.borrow0 H4'
 obtain ⟨avAd, cvAd, rfl⟩ := H.accShape (k := 3) rfl
 refine ⟨_, Z, ?_⟩
 refine mV Z (o_extract Z Z Z (o_extract Z Z Z (aG Z (aG Z (q3 (W_seq (q2 (mV Z (o_not Z Z (mV Z (gR Z (mV Z (gR Z (mV Z (gR Z ?_)))))))))))))))
 have H := H.toFront (k := 4) rfl
 have H := H.toFront (k := 4) rfl
 have H := H.toFront (k := 4) rfl
 have H := H.toFront (k := 4) rfl
 have H := H.toFront (k := 4) rfl
 refine o_callc call58 Z Z Z (i_SnapBack1_c _ _ H.sub _ _ _ _ _ _ _ _ _ _ _ _ hm4 hS4 hN4 hT4 hchk4 hNs4 hSn4 hdv4 _ _ hname hcp H.lent5 ) ?_
 rintro _ w6 ⟨G6, _, _, rfl, H6', ⟨es6, ck6, xs6, F6, T6, sv6, sn6, c6, FS6, L6, rfl, rfl, hm6, hS6, hV6, hN6, hchk6, hNs6, hd6⟩⟩
 have H := H.borrow5 H6'
 obtain ⟨avAd, cvAd, rfl⟩ := H.accShape (k := 3) rfl
 refine ⟨_, Z, ?_⟩
 refine gR Z (o_not Z Z (o_pick_f Z Z Z (q3 ?_)))
 refine W_cond Z ?_ ?_
 ·intro hc7
  try simp only [nrm] at hc7
  refine q2 (o_build bf27 Z Z Z (o_store_B 5 H sizeOf27 Z Z Z Z Z Z Z Z ?_)); intro w8 H
  refine aG Z (q3 (W_ret (N_K_ret (ret_gen (rs := [.cell 4 27, .tmp 5]) (vs := [_, _]) results41 ⟨⟨_, Z, load_blk 5 H isAgg27 sizeOf27 Z Z Z⟩, Z, trivial⟩ ?_))))
  have H := H.del (k := 0) rfl
  have H := H.del (k := 0) rfl
  have H := H.del (k := 0) rfl
  have H := H.del (k := 0) rfl
  have H := H.del (k := 0) rfl
  have H := H.del (k := 0) rfl
  have H := H.del (k := 0) rfl
  have hno : Sp.SnapBack d name = none := by simpa using hc7
  have H := (((H.addF).addF).addF).forget hG (by simp)
  refine ⟨_, _, Z, H, .slice none 0 0, .slice none 0 0, .slice none 0 0, [], [], [], ?_, Z, ?_, ?_, ?_⟩
  ·(rw [hno]; rfl)
  ·(rw [hno]; exact oh_nil)
  ·(rw [hno]; exact oi_nil)
  (rw [hno]; exact os_nil)
 intro hc7'
 try simp only [nrm] at hc7'
 obtain ⟨d2, hd2⟩ := Option.isSome_iff_exists.1 (show (Sp.SnapBack d name).isSome = true by simpa using hc7')
 obtain ⟨hL2, hT2, hsn2⟩ := hd6 d2 hd2; subst hL2
 refine W_skip (N_K (q2 (mV Z ?_)))
 have H := H.toFront (k := 4) rfl
 have H := H.toFront (k := 4) rfl
 have H := H.toFront (k := 4) rfl
 have H := H.toFront (k := 4) rfl
 have H := H.toFront (k := 4) rfl
 refine o_call call89 Z Z (i_disk_c _ _ H.sub _ _ _ _ _ _ _ _ _ _ _ _ hm6 hS6 hN6 hT2 hchk6 hNs6 hsn2 hV6 (Sp.dv_parts.1 (Sp.back_valid hd2)).2.2.1 H.lent5 ) ?_
 rintro _ w9 ⟨G9, _, _, rfl, H9', ⟨u19, u29, u39, D19, D29, D39, rfl, rfl, ho19, ho29, ho39⟩⟩
 have H := H.borrow5 H9'
 obtain ⟨x19, p19⟩ := ho19
 obtain ⟨a19, c19, rfl⟩ := OwnS.shape p19
 obtain ⟨x29, p29⟩ := ho29
 obtain ⟨a29, c29, rfl⟩ := OwnS.shape p29
 obtain ⟨x39, p39⟩ := ho39
 obtain ⟨a39, c39, rfl⟩ := OwnS.shape p39
 refine ⟨_, Z, ?_⟩
 refine o_store_B 3 H sizeOf27 Z Z Z Z Z Z Z Z ?_; intro w10 H
 refine aG Z (q3 (W_ret (ret_gen (rs := [.cell 4 27, .tmp 5]) (vs := [_, _]) results41 ⟨⟨_, Z, load_blk 3 H isAgg27 sizeOf27 Z Z Z⟩, Z, trivial⟩ ?_)))
 have H := H.del (k := 3) rfl
 have H := H.del (k := 3) rfl
 have H := H.toFront (k := 2) rfl
 have H := H.toFront (k := 2) rfl
 have H := H.toFront (k := 2) rfl
 have H := H.forget hG (by simp)
 refine ⟨_, _, Z, H, .slice a19 d2.store.length c19, .slice a29 d2.tree.length c29, .slice a39 d2.snaps.length c39, D19, D29, D39, ?_, Z, ?_, ?_, ?_⟩
 ·(rw [hd2]; rfl)
 ·(rw [hd2]; exact ⟨_, p19⟩)
 ·(rw [hd2]; exact ⟨_, p29⟩)
 (rw [hd2]; exact ⟨_, p39⟩)
theorem i_changed_dwrite_c (w0 : World) (G0 : PH) (hG : PSub G0 w0) (cd : List Value) (d : BDisk) (hd : diskE G0 d cd) (cp : Nat) (path : Bs) (hpath : path.length ≤ 16777216) (hcp : PRow G0 cp 0 [str path]) (cq : Nat) (abytes : Option Addr) (bytes : List Int) (kbytes : Nat) (hcq : PRow G0 cq 0 [.slice abytes bytes.length kbytes]) (hbytes : RdI G0 (.slice abytes bytes.length kbytes) bytes)  :
  Calls Tryz.prog 41 #[.agg cd.toArray, .func (.func 61) #[] #[.pointer (some ⟨cp, 0, none⟩), .pointer (some ⟨cq, 0, none⟩)]] w0 (RetN w0 G0 (fun v Bs => ∃ (v1 v2 v3 : Value) (F1 F2 F3 : Fr), v = .tuple #[.agg #[v1, v2, v3], .bool (Sp.DiskWrite d path bytes).isSome] ∧ Bs = [frag F1, frag F2, frag F3] ∧ OHs F1 v1 ((Sp.DiskWrite d path bytes).getD ⟨[], [], []⟩).store ∧ OIs F2 v2 ((Sp.DiskWrite d path bytes).getD ⟨[], [], []⟩).tree ∧ OSn F3 v3 ((Sp.DiskWrite d path bytes).getD ⟨[], [], []⟩).snaps)) := by
 obtain ⟨a1, m1, c1, a1', m1', c1', a1'', m1'', c1'', rfl, hr1, hr1', hr1''⟩ := hd; have hn_hr1 := hr1.len; have hx_hr1 : _ ≤ 1099511627776 := hr1.lim; have hn_hr1q := hr1'.len; have hx_hr1q : _ ≤ 1099511627776 := hr1'.lim; have hn_hr1qq := hr1''.len; have hx_hr1qq : _ ≤ 1099511627776 := hr1''.lim
 have hlimbytes : bytes.length ≤ 1099511627776 := hbytes.lim
 have H := Hp.init hG
 refine calls_of_W (l := [_, .func (.func 61) #[] #[.pointer (some ⟨cp, 0, none⟩), .pointer (some ⟨cq, 0, none⟩)]]) func41 Z ntmps41 Z (q2 (o_box H Z Z Z ?_)); intro b2 w2 hb2 H
 refine o_alloc H zeroValue27 Z Z ?_; intro b3 w3 hb3 H
 refine aG Z (q1 (o_loadagg_B 1 H isAgg27 sizeOf27 Z Z Z Z Z (o_call call52 Z Z (i_newDisk_c _ _ H.sub _ d ⟨_, _, _, _, _, _, _, _, _, Z, hr1, hr1', hr1''⟩ H.lent0 ) ?_)))
 rintro _ w4 ⟨G4, _, _, rfl, H4', ⟨rfl, rfl, hnd4⟩ | ⟨db4, mb4, es4, ck4, xs4, T4, F4, sv4, sn4, c4, FS4, rfl, rfl, hm4, hS4, hN4, hT4, hchk4, hNs4, hSn4, hdv4⟩⟩
 ·skip
  have H := H.borrow0 H4'
  refine ⟨_, Z, ?_⟩
  refine mV Z (o_extract Z Z Z (o_extract Z Z Z (aG Z (aG Z (q3 (W_seq (q2 (mV Z (o_not Z Z (mV Z (rP Z (rP Z (rP Z (rP Z (o_pick_t Z Z Z ?_)))))))))))))))
  refine q3 (W_true Z (q2 (o_build bf27 Z Z Z (o_store_B 0 H sizeOf27 Z Z Z Z Z Z Z Z ?_)))); intro w5 H
  refine aG Z (q3 (W_ret (N_K_ret (ret_gen (rs := [.cell 4 27, .tmp 5]) (vs := [_, _]) results41 ⟨⟨_, Z, load_blk 0 H isAgg27 sizeOf27 Z Z Z⟩, Z, trivial⟩ ?_))))
  have H := H.del (k := 0) rfl
  have H := H.del (k := 0) rfl
  have hno : Sp.DiskWrite d path bytes = none := by (cases hh : Sp.DiskWrite d path bytes with | none => rfl | some q => (have hx := Sp.dwrite_isv hh; rw [hnd4] at hx; cases hx))
  have H := (((H.addF).addF).addF).forget hG (by simp)
  refine ⟨_, _, Z, H, .slice none 0 0, .slice none 0 0, .slice none 0 0, [], [], [], ?_, Z, ?_, ?_, ?_⟩
  ·(rw [hno]; rfl)
  ·(rw [hno]; exact oh_nil)
  ·(rw [hno]; exact oi_nil)
  (rw [hno]; exact os_nil)
 skip
 have hcp := hcp.up H4'.le
 have hcq := hcq.up H4'.le
 have hbytes := hbytes.up H4'.le
 have H := H.borrow0 H4'
 obtain ⟨avAd, cvAd, rfl⟩ := H.accShape (k := 3) rfl
 refine ⟨_, Z, ?_⟩
 refine mV Z (o_extract Z Z Z (o_extract Z Z Z (aG Z (aG Z (q3 (W_seq (q2 (mV Z (o_not Z Z (mV Z (gR Z (mV Z (gR Z (mV Z (gR Z ?_)))))))))))))))
 have H := H.toFront (k := 4) rfl
 have H := H.toFront (k := 4) rfl
 have H := H.toFront (k := 4) rfl
 have H := H.toFront (k := 4) rfl
 have H := H.toFront (k := 4) rfl
 refine o_callc2 call61 Z Z Z (i_DiskWrite1_c _ _ H.sub _ _ _ _ _ _ _ _ _ _ _ _ hm4 hS4 hN4 hT4 hchk4 hNs4 hSn4 hdv4 _ _ hpath hcp _ _ _ _ hcq hbytes H.lent5 ) ?_
 rintro _ w6 ⟨G6, _, _, rfl, H6', ⟨es6, ck6, xs6, F6, T6, sv6, sn6, c6, FS6, L6, rfl, rfl, hm6, hS6, hV6, hN6, hchk6, hNs6, hd6⟩⟩
 have H := H.borrow5 H6'
 obtain ⟨avAd, cvAd, rfl⟩ := H.accShape (k := 3) rfl
 refine ⟨_, Z, ?_⟩
 refine gR Z (o_not Z Z (o_pick_f Z Z Z (q3 ?_)))
 refine W_cond Z ?_ ?_
 ·intro hc7
  try simp only [nrm] at hc7
  refine q2 (o_build bf27 Z Z Z (o_store_B 5 H sizeOf27 Z Z Z Z Z Z Z Z ?_)); intro w8 H
  refine aG Z (q3 (W_ret (N_K_ret (ret_gen (rs := [.cell 4 27, .tmp 5]) (vs := [_, _]) results41 ⟨⟨_, Z, load_blk 5 H isAgg27 sizeOf27 Z Z Z⟩, Z, trivial⟩ ?_))))
  have H := H.del (k := 0) rfl
  have H := H.del (k := 0) rfl
  have H := H.del (k := 0) rfl
  have H := H.del (k := 0) rfl
  have H := H.del (k := 0) rfl
  have H := H.del (k := 0) rfl
  have H := H.del (k := 0) rfl
  have hno : Sp.DiskWrite d path bytes = none := by simpa using hc7
  have H := (((H.addF).addF).addF).forget hG (by simp)
  refine ⟨_, _, Z, H, .slice none 0 0, .slice none 0 0, .slice none 0 0, [], [], [], ?_, Z, ?_, ?_, ?_⟩
  ·(rw [hno]; rfl)
  ·(rw [hno]; exact oh_nil)
  ·(rw [hno]; exact oi_nil)
  (rw [hno]; exact os_nil)
 intro hc7'
 try simp only [nrm] at hc7'
 obtain ⟨d2, hd2⟩ := Option.isSome_iff_exists.1 (show (Sp.DiskWrite d path bytes).isSome = true by simpa using hc7')
 obtain ⟨hL2, hT2, hsn2⟩ := hd6 d2 hd2; subst hL2
 refine W_skip (N_K (q2 (mV Z ?_)))
 have H := H.toFront (k := 4) rfl
 have H := H.toFront (k := 4) rfl
 have H := H.toFront (k := 4) rfl
 have H := H.toFront (k := 4) rfl
 have H := H.toFront (k := 4) rfl
 refine o_call call89 Z Z (i_disk_c _ _ H.sub _ _ _ _ _ _ _ _ _ _ _ _ hm6 hS6 hN6 hT2 hchk6 hNs6 hsn2 hV6 (Sp.dv_parts.1 (Sp.dwrite_valid hd2)).2.2.1 H.lent5 ) ?_
 rintro _ w9 ⟨G9, _, _, rfl, H9', ⟨u19, u29, u39, D19, D29, D39, rfl, rfl, ho19, ho29, ho39⟩⟩
 have H := H.borrow5 H9'
 obtain ⟨x19, p19⟩ := ho19
 obtain ⟨a19, c19, rfl⟩ := OwnS.shape p19
 obtain ⟨x29, p29⟩ := ho29
 obtain ⟨a29, c29, rfl⟩ := OwnS.shape p29
 obtain ⟨x39, p39⟩ := ho39
 obtain ⟨a39, c39, rfl⟩ := OwnS.shape p39
 refine ⟨_, Z, ?_⟩
 refine o_store_B 3 H sizeOf27 Z Z Z Z Z Z Z Z ?_; intro w10 H
 refine aG Z (q3 (W_ret (ret_gen (rs := [.cell 4 27, .tmp 5]) (vs := [_, _]) results41 ⟨⟨_, Z, load_blk 3 H isAgg27 sizeOf27 Z Z Z⟩, Z, trivial⟩ ?_)))
 have H := H.del (k := 3) rfl
 have H := H.del (k := 3) rfl
 have H := H.toFront (k := 2) rfl
 have H := H.toFront (k := 2) rfl
 have H := H.toFront (k := 2) rfl
 have H := H.forget hG (by simp)
 refine ⟨_, _, Z, H, .slice a19 d2.store.length c19, .slice a29 d2.tree.length c29, .slice a39 d2.snaps.length c39, D19, D29, D39, ?_, Z, ?_, ?_, ?_⟩
 ·(rw [hd2]; rfl)
 ·(rw [hd2]; exact ⟨_, p19⟩)
 ·(rw [hd2]; exact ⟨_, p29⟩)
 (rw [hd2]; exact ⟨_, p39⟩)
end Go.Proofs.Tst

namespace Go.Proofs.Tst
open Go Fw Tryz
theorem i_SnapBack_c (w0 : World) (G0 : PH) (hG : PSub G0 w0) (cd : List Value) (d : BDisk) (hd : diskE G0 d cd) (name : Bs) (hname : name.length ≤ 16777216)  :
  Calls Tryz.prog 19 #[.agg cd.toArray, str name] w0 (RetN w0 G0 (fun v Bs => ∃ (v1 v2 v3 : Value) (F1 F2 F3 : Fr), v = .tuple #[.agg #[v1, v2, v3], .bool (Sp.SnapBack d name).isSome] ∧ Bs = [frag F1, frag F2, frag F3] ∧ OHs F1 v1 ((Sp.SnapBack d name).getD ⟨[], [], []⟩).store ∧ OIs F2 v2 ((Sp.SnapBack d name).getD ⟨[], [], []⟩).tree ∧ OSn F3 v3 ((Sp.SnapBack d name).getD ⟨[], [], []⟩).snaps)) := by
 obtain ⟨a1, m1, c1, a1', m1', c1', a1'', m1'', c1'', rfl, hr1, hr1', hr1''⟩ := hd; have hn_hr1 := hr1.len; have hx_hr1 : _ ≤ 1099511627776 := hr1.lim; have hn_hr1q := hr1'.len; have hx_hr1q : _ ≤ 1099511627776 := hr1'.lim; have hn_hr1qq := hr1''.len; have hx_hr1qq : _ ≤ 1099511627776 := hr1''.lim
 have H := Hp.init hG
 refine calls_of_W (l := [_, str name]) func19 Z ntmps19 Z (q2 (o_box H Z Z Z ?_)); intro b2 w2 hb2 H
 refine o_box H Z Z Z ?_; intro b3 w3 hb3 H
 refine o_alloc H zeroValue27 Z Z ?_; intro b4 w4 hb4 H
 refine aG Z (q1 (o_loadagg_B 2 H isAgg27 sizeOf27 Z Z Z Z Z (o_makefn1 Z Z (o_call call41 Z Z (i_changed_back_c _ _ (H.lendSubL [1]) _ d ⟨_, _, _, _, _, _, _, _, _, Z, (hr1.up (PPlus.le _ _ _)), (hr1'.up (PPlus.le _ _ _)), (hr1''.up (PPlus.le _ _ _))⟩ _ _ hname (prow_blk (H.lendPredL (k := 1) (ks := [1]) Z Z)) ) ?_))))
 rintro _ w5 ⟨_, _, rfl, H5', ⟨u15, u25, u35, E15, E25, E35, rfl, rfl, ho15, ho25, ho35⟩⟩
 have H := H.readersL H5'
 obtain ⟨x15, p15⟩ := ho15
 obtain ⟨a15, c15, rfl⟩ := OwnS.shape p15
 obtain ⟨x25, p25⟩ := ho25
 obtain ⟨a25, c25, rfl⟩ := OwnS.shape p25
 obtain ⟨x35, p35⟩ := ho35
 obtain ⟨a35, c35, rfl⟩ := OwnS.shape p35
 refine ⟨_, Z, ?_⟩
 refine o_extract Z Z Z (o_extract Z Z Z (o_store_B 3 H sizeOf27 Z Z Z Z Z Z Z Z ?_)); intro w6 H
 refine aG Z (q3 (W_ret (ret_gen (rs := [.cell 4 27, .tmp 5]) (vs := [_, _]) results19 ⟨⟨_, Z, load_blk 3 H isAgg27 sizeOf27 Z Z Z⟩, Z, trivial⟩ ?_)))
 have H := H.del (k := 3) rfl
 have H := H.del (k := 3) rfl
 have H := H.del (k := 3) rfl
 have H := H.toFront (k := 2) rfl
 have H := H.toFront (k := 2) rfl
 have H := H.toFront (k := 2) rfl
 exact ⟨_, _, Z, H, .slice a15 ((Sp.SnapBack d name).getD ⟨[], [], []⟩).store.length c15, .slice a25 ((Sp.SnapBack d name).getD ⟨[], [], []⟩).tree.length c25, .slice a35 ((Sp.SnapBack d name).getD ⟨[], [], []⟩).snaps.length c35, E15, E25, E35, Z, Z, ⟨_, p15⟩, ⟨_, p25⟩, ⟨_, p35⟩⟩
theorem i_DiskWrite_c (w0 : World) (G0 : PH) (hG : PSub G0 w0) (cd : List Value) (d : BDisk) (hd : diskE G0 d cd) (path : Bs) (hpath : path.length ≤ 16777216) (vbytes : Value) (bytes : List (Int)) (hbytes : RdI G0 vbytes bytes)  :
  Calls Tryz.prog 21 #[.agg cd.toArray, str path, vbytes] w0 (RetN w0 G0 (fun v Bs => ∃ (v1 v2 v3 : Value) (F1 F2 F3 : Fr), v = .tuple #[.agg #[v1, v2, v3], .bool (Sp.DiskWrite d path bytes).isSome] ∧ Bs = [frag F1, frag F2, frag F3] ∧ OHs F1 v1 ((Sp.DiskWrite d path bytes).getD ⟨[], [], []⟩).store ∧ OIs F2 v2 ((Sp.DiskWrite d path bytes).getD ⟨[], [], []⟩).tree ∧ OSn F3 v3 ((Sp.DiskWrite d path bytes).getD ⟨[], [], []⟩).snaps)) := by
 obtain ⟨a1, m1, c1, a1', m1', c1', a1'', m1'', c1'', rfl, hr1, hr1', hr1''⟩ := hd; have hn_hr1 := hr1.len; have hx_hr1 : _ ≤ 1099511627776 := hr1.lim; have hn_hr1q := hr1'.len; have hx_hr1q : _ ≤ 1099511627776 := hr1'.lim; have hn_hr1qq := hr1''.len; have hx_hr1qq : _ ≤ 1099511627776 := hr1''.lim
 obtain ⟨abytes, kbytes, rfl⟩ := hbytes.shape
 have hlimbytes : bytes.length ≤ 1099511627776 := hbytes.lim
 have H := Hp.init hG
 refine calls_of_W (l := [_, str path, .slice abytes bytes.length kbytes]) func21 Z ntmps21 Z (q2 (o_box H Z Z Z ?_)); intro b2 w2 hb2 H
 refine o_box H Z Z Z ?_; intro b3 w3 hb3 H
 refine o_box H Z Z Z ?_; intro b4 w4 hb4 H
 refine o_alloc H zeroValue27 Z Z ?_; intro b5 w5 hb5 H
 refine aG Z (q1 (o_loadagg_B 3 H isAgg27 sizeOf27 Z Z Z Z Z (o_makefn2 Z Z Z (o_call call41 Z Z (i_changed_dwrite_c _ _ (H.lendSubL [1, 2]) _ d ⟨_, _, _, _, _, _, _, _, _, Z, (hr1.up (PPlus.le _ _ _)), (hr1'.up (PPlus.le _ _ _)), (hr1''.up (PPlus.le _ _ _))⟩ _ _ hpath (prow_blk (H.lendPredL (k := 2) (ks := [1, 2]) Z Z)) _ _ _ _ (prow_blk (H.lendPredL (k := 1) (ks := [1, 2]) Z Z)) (hbytes.up (PPlus.le _ _ _)) ) ?_))))
 rintro _ w6 ⟨_, _, rfl, H6', ⟨u16, u26, u36, E16, E26, E36, rfl, rfl, ho16, ho26, ho36⟩⟩
 have H := H.readersL H6'
 obtain ⟨x16, p16⟩ := ho16
 obtain ⟨a16, c16, rfl⟩ := OwnS.shape p16
 obtain ⟨x26, p26⟩ := ho26
 obtain ⟨a26, c26, rfl⟩ := OwnS.shape p26
 obtain ⟨x36, p36⟩ := ho36
 obtain ⟨a36, c36, rfl⟩ := OwnS.shape p36
 refine ⟨_, Z, ?_⟩
 refine o_extract Z Z Z (o_extract Z Z Z (o_store_B 3 H sizeOf27 Z Z Z Z Z Z Z Z ?_)); intro w7 H
 refine aG Z (q3 (W_ret (ret_gen (rs := [.cell 6 27, .tmp 7]) (vs := [_, _]) results21 ⟨⟨_, Z, load_blk 3 H isAgg27 sizeOf27 Z Z Z⟩, Z, trivial⟩ ?_)))
 have H := H.del (k := 3) rfl
 have H := H.del (k := 3) rfl
 have H := H.del (k := 3) rfl
 have H := H.del (k := 3) rfl
 have H := H.toFront (k := 2) rfl
 have H := H.toFront (k := 2) rfl
 have H := H.toFront (k := 2) rfl
 exact ⟨_, _, Z, H, .slice a16 ((Sp.DiskWrite d path bytes).getD ⟨[], [], []⟩).store.length c16, .slice a26 ((Sp.DiskWrite d path bytes).getD ⟨[], [], []⟩).tree.length c26, .slice a36 ((Sp.DiskWrite d path bytes).getD ⟨[], [], []⟩).snaps.length c36, E16, E26, E36, Z, Z, ⟨_, p16⟩, ⟨_, p26⟩, ⟨_, p36⟩⟩
end Go.Proofs.Tst

namespace Go.Proofs.Tst
open Go Fw Tryz
theorem i_read_c (w0 : World) (G0 : PH) (hG : PSub G0 w0) (mbs : Nat) (ess : Array MapEntry) (cks : Nat) (xss : List (Int × Value)) (Ls : List BHeld) (hbs : MapAt G0 mbs ess cks) (hms : MapIs (Value.int .i64) ess cks xss) (hSs : StR G0 xss Ls) (hVs : Sp.VH Ls) (t : Nd) (hndt : RdN G0 t) (path : Bs) (hpath : path.length ≤ 16777216) (hwt : t.wf) :
  Calls Tryz.prog 111 #[.map (some mbs), .pointer (some ⟨t.b, 0, none⟩), str path] w0 (RetN w0 G0 (fun v Bs => ∃ (uv : Value) (c : List Value) (xs : List Int), v = .tuple #[uv, .bool (Sp.readN Ls t path).isSome] ∧ Bs = [acc 3 1 uv xs.length c] ∧ Chk intE 1 (fun _ => none) c xs ∧ xs.length ≤ 1000 ∧ (∀ ys, Sp.readN Ls t path = some ys → xs = ys) ∧ (Sp.readN Ls t path = none → xs = []))) := by
 obtain ⟨hnlt, nat, nmt, nct, nAt, nMt, nCt, hprt, hrit, hrkt⟩ := hndt.open
 have hn_hrit := hrit.len; have hx_hrit : _ ≤ 1099511627776 := hrit.lim
 have hn_hrkt := hrkt.len; have hx_hrkt : _ ≤ 1099511627776 := hrkt.lim
 have H := Hp.init hG
 refine calls_of_W (l := [.map (some mbs), .pointer (some ⟨t.b, 0, none⟩), str path]) func111 Z ntmps111 Z (q2 (aG Z (aG Z (q1 (mV Z (mV Z (o_call call106 Z Z (i_find_n_c _ _ H.sub _ hndt _ hpath hwt) ?_)))))))
 rintro _ w1 ⟨_, rfl, ew1, ⟨hfi1, rfl⟩ | ⟨d1, hfi1, rfl⟩⟩
 ·skip
  have H := H.step ew1; refine ⟨_, rfl, ?_⟩
  refine aG Z (q3 (W_seq (q2 (mV Z (o_eqnil_ptr underlying97 Z Z Z (mV Z (rP Z (rP Z (rP Z (rP Z (o_pick_t Z Z Z (q3 (W_true Z (q2 (aG Z ?_)))))))))))))))
  refine aG Z (q3 (W_ret (N_K_ret (rt2 results111 Z Z ?_))))
  have H := H.addNil 3 1
  have hno : Sp.readN Ls t path = none := by (simp_all [Sp.readN])
  have H := H.forget hG (by simp)
  exact ⟨_, _, rfl, H, _, _, [], (by (rw [hno]; rfl)), rfl, (Chk.nil (E := intE) (sz := 1) (G := G0)), by simp, fun ys h => (by rw [hno] at h; cases h), fun _ => rfl⟩
 skip
 have H := H.step ew1; refine ⟨_, rfl, ?_⟩
 have hnd1 := hndt.at (Nd.find_at_ hfi1); obtain ⟨hnl1, na1, nm1, nc1, nA1, nM1, nC1, hpr1, hri1, hrk1⟩ := hnd1.open
 have hn_hri1 := hri1.len; have hx_hri1 : _ ≤ 1099511627776 := hri1.lim
 have hn_hrk1 := hrk1.len; have hx_hrk1 : _ ≤ 1099511627776 := hrk1.lim
 refine aG Z (q3 (W_seq (q2 (mV Z (o_eqnil_ptr underlying97 Z Z Z (mV Z (gR Z (mV Z (gR Z (o_nilCheck Z Z (gR Z (o_fieldAddr 1 runUnderlying149 Z sizeOf4 Z Z Z (gR Z (o_load_P H isAgg4 Z Z (hpr1 1 _ Z) (o_pick_f Z Z Z ?_)))))))))))))))
 refine q3 ?_
 refine W_cond Z ?_ ?_
 ·intro hc2
  try simp only [nrm] at hc2
  refine q2 (aG Z (aG Z (q3 (W_ret (N_K_ret (rt2 results111 Z Z ?_))))))
  have H := H.addNil 3 1
  have hno : Sp.readN Ls t path = none := by (simp_all [Sp.readN])
  have H := H.forget hG (by simp)
  exact ⟨_, _, rfl, H, _, _, [], (by (rw [hno]; rfl)), rfl, (Chk.nil (E := intE) (sz := 1) (G := G0)), by simp, fun ys h => (by rw [hno] at h; cases h), fun _ => rfl⟩
 intro hc2'
 try simp only [nrm] at hc2'
 refine W_skip (N_K (q2 (mV Z (mV Z (o_nilCheck Z Z (o_fieldAddr 2 runUnderlying149 Z sizeOf33 Z Z Z (o_load_P H isAgg33 Z Z (hpr1 2 _ Z) (o_call call108 Z Z (i_loadFile_c _ _ H.sub _ _ _ _ _ hbs hms hSs hVs _ _ hri1 ) ?_))))))))
 rintro _ w3 ⟨_, _, rfl, H3', ⟨u3, c3, xs3, rfl, rfl, hchk3, hxl3, hxs3, hxn3⟩⟩
 have H := H.readers (fp := []) (by simp) (PLe.refl _) H3'
 obtain ⟨avr3, cvr3, rfl⟩ := H.accShape (k := 0) rfl
 refine ⟨_, Z, ?_⟩
 refine o_extract Z Z Z (o_extract Z Z Z (aG Z (aG Z (q3 (W_ret (rt2 results111 Z Z ?_))))))
 have hd : Sp.readN Ls t path = if Sp.l4Ids Ls d1.ids then some (Sp.load Ls d1.ids) else none := by simp_all [Sp.readN]
 have H := H.forget hG (by simp)
 exact ⟨_, _, rfl, H, _, _, xs3, (by (rw [hd]; cases Sp.l4Ids Ls d1.ids <;> rfl)), acc_1 rfl, chkI (G := fun _ => none) ((chkI hchk3)), hxl3, fun ys h => by (rw [hd] at h; by_cases hq : Sp.l4Ids Ls d1.ids = true; (· (rw [if_pos hq] at h); cases h; exact hxs3 hq); (· (rw [if_neg hq] at h); cases h)), fun h => hxn3 (by (rw [hd] at h); by_cases hq : Sp.l4Ids Ls d1.ids = true; (· (rw [if_pos hq] at h); cases h); (· simpa using hq))⟩
end Go.Proofs.Tst

namespace Go.Proofs.Tst
open Go Fw Tryz
theorem i_readSnap_c (w0 : World) (G0 : PH) (hG : PSub G0 w0) (db mb : Nat) (es : Array MapEntry) (ck : Nat) (xs : List (Int × Value)) (T : Nd) (FT : Fr) (sv : Value) (sn : List (Bs × Nd)) (c : List Value) (FSq : Fr) (d : BDisk) (hm : MapIs (Value.int .i64) es ck xs) (hS : StR G0 xs d.store) (hN : NdO 149 97 G0 T FT) (hT : Nd.TOK T d.tree) (hchk : Chk osE 2 G0 c sn) (hNs : NdsO 149 97 G0 (sn.map (·.2)) FSq) (hSn : SnOK sn d.snaps) (hdv : Sp.DiskValid d = true) (name : Bs) (hname : name.length ≤ 16777216) (path : Bs) (hpath : path.length ≤ 16777216) (hLent : Lent w0 G0 [blk db (cl [.int .i32 0, .int .u32 0, .map (some mb), .pointer (some ⟨T.b, 0, none⟩), sv] 131), blk mb (.map es ck), frag FT, acc 135 2 sv sn.length c, frag FSq])  :
  Calls Tryz.prog 53 #[.pointer (some ⟨db, 0, none⟩), str name, str path] w0 (RetM w0 G0 (fps [blk db (cl [.int .i32 0, .int .u32 0, .map (some mb), .pointer (some ⟨T.b, 0, none⟩), sv] 131), blk mb (.map es ck), frag FT, acc 135 2 sv sn.length c, frag FSq]) (fun G' v Bs => ∃ (uv : Value) (c : List Value) (xs : List Int), v = .tuple #[uv, .bool (Sp.SnapRead d name path).isSome] ∧ Bs = [acc 3 1 uv xs.length c] ∧ Chk intE 1 (fun _ => none) c xs ∧ xs.length ≤ 1000 ∧ (∀ ys, Sp.SnapRead d name path = some ys → xs = ys) ∧ (Sp.SnapRead d name path = none → xs = []))) := by
 have H : Hp w0 G0 (fps [blk db (cl [.int .i32 0, .int .u32 0, .map (some mb), .pointer (some ⟨T.b, 0, none⟩), sv] 131), blk mb (.map es ck), frag FT, acc 135 2 sv sn.length c, frag FSq]) w0 G0 [blk db (cl [.int .i32 0, .int .u32 0, .map (some mb), .pointer (some ⟨T.b, 0, none⟩), sv] 131), blk mb (.map es ck), frag FT, acc 135 2 sv sn.length c, frag FSq] := hLent.hp
 obtain ⟨adv, cdv, rfl⟩ := H.accShape (k := 3) rfl; have hVd := Sp.valid_iff.1 (Sp.dv_parts.1 hdv).1; have hTv := (Sp.dv_parts.1 hdv).2.1; have hTc := hT.cnt; have hTl := Sp.tree_len hTv; have hsnl := hSn.len; have hsn6 := (Sp.dv_parts.1 hdv).2.2.1
 refine calls_of_WD (l := [.pointer (some ⟨db, 0, none⟩), str name, str path]) func53 Z ntmps53 Z (q2 (aG Z (aG Z (q1 (mV Z (o_nilCheck Z Z (o_fieldAddr 0 runUnderlying131 Z sizeOf128 Z Z Z (o_lock 0 H muLib Z call90 Z Z Z Z ?_)))))))); intro w1 H
 refine q1 (mV Z (o_nilCheck Z Z (o_fieldAddr 0 runUnderlying131 Z sizeOf128 Z Z Z (o_defer Z (q1 (mV Z (mV Z (o_call call93 Z Z (i_snapAt_c _ _ (H.lendSubL [0, 3]) _ _ _ _ _ _ _ (prow_blk (H.lendPredL (k := 0) (ks := [0, 3]) Z Z)) (H.lendRdL (k := 3) (ks := [0, 3]) Z Z hchk aN aN) _ hname ) ?_))))))))
 rintro _ w2 ⟨rfl, ew2⟩; have H := H.step ew2; refine ⟨_, rfl, ?_⟩
 refine aG Z (q3 (W_seq (q2 (mV Z (o_lss Z Z Z (q3 ?_))))))
 refine W_cond Z ?_ ?_
 ·intro hc3
  try simp only [nrm] at hc3
  refine q2 (aG Z (aG Z (q3 (W_ret (N_K_ret (ret_unlock 0 H muLib Z call91 Z Z (rs := [.tmp 6, .tmp 7]) results53 ?_)))))); intro wu1 H
  refine ⟨[_, _], ⟨Z, Z, trivial⟩, ?_⟩
  have H := H.addNil 3 1
  have H := H.del (k := 1) rfl
  have H := H.del (k := 1) rfl
  have H := H.del (k := 1) rfl
  have H := H.del (k := 1) rfl
  have H := H.del (k := 1) rfl
  have hno : Sp.SnapRead d name path = none := Sp.snapread_noat (by (rw [← Sp.sn_find hSn]; omega))
  exact H.retM ⟨_, _, [], (by (rw [hno]; rfl)), rfl, chkI (G := fun _ => none) ((Chk.nil (E := intE) (sz := 1) (G := G0))), by simp, fun ys h => (by rw [hno] at h; cases h), fun _ => rfl⟩
 intro hc3'
 try simp only [nrm] at hc3'
 obtain ⟨i, x, s0, hat, hsx, hs0, hai, htx, hix⟩ := sn_at hSn (n := name) oM
 refine W_skip (N_K (W_seq (W_drawK [0] 19 H kR Z ?_))); intro w4 H; have hd4 := PLe.refl G0
 refine vM 0 Z Z (RD_t 1 Z kR Z (fun _ hK => v_nilCheck Z) (RD_t 2 Z kR Z (fun _ hK => v_fieldAddr 2 runUnderlying131 Z sizeOf99 Z Z) (RD_t 3 Z kR Z (fun _ hK => v_fieldAddr 0 runUnderlying99 Z sizeOf96 Z Z) (RD_t 4 Z kR Z (fun _ hK => v_load_B 0 hK isAgg96 Z Z Z) (vM 5 Z Z (RD_t 6 Z kR Z (fun _ hK => v_nilCheck Z) (RD_t 7 Z kR Z (fun _ hK => v_fieldAddr 4 runUnderlying131 Z sizeOf129 Z Z) (RD_t 8 Z kR Z (fun _ hK => v_load_B 0 hK isAgg129 Z Z Z) (vM 9 Z Z (vM 13 Z Z ?_))))))))))
 refine RD_run [10] kR Z (RDs.cons Z ?_ RDs.nil)
 refine o_index_A 3 H i Z hchk underlying129 sizeOf135 Z Z Z hat aN aN ?_; intro ba5 z5 q5 hba5 hz5 hE5 hg5; cases hba5
 obtain ⟨rfl, hi5⟩ := hE5; have hy_hi5 : _ ≤ 16777216 := hi5
 refine R_nil (N_DK (Kn.of' H hd4 (SubL.cons 0 Z SubL.nil)) (RD_t 11 Z kR Z (fun _ hK => v_fieldAddr 1 runUnderlying135 Z sizeOf97 Z Z) ?_))
 refine RD_run [12] kR Z (RDs.cons Z ?_ RDs.nil)
 refine o_load_A 3 H isAgg97 Z Z Z (hg5 1 _ Z) (R_nil (N_DK (Kn.of' H hd4 (SubL.cons 0 Z SubL.nil)) ?_))
 refine RD_run [14] kR Z (RDs.cons Z ?_ RDs.nil)
 refine o_call call111 Z Z (i_read_c _ _ (H.lendSubL [1, 4]) _ _ _ _ _ (H.lendPredL (k := 1) (ks := [1, 4]) Z Z) hm (hS.up (PPlus.le _ _ _)) hVd _ (H.lendNs (k := 4) (ks := [1, 4]) Z Z hNs z5.2 (List.mem_map_of_mem (List.mem_of_getElem? hz5))) _ hpath (sn_ok hSn _ (List.mem_map_of_mem (List.mem_of_getElem? hz5))).1) ?_
 rintro _ w6 ⟨_, _, rfl, H6', ⟨u6, c6, xs6, rfl, rfl, hchk6, hxl6, hxs6, hxn6⟩⟩
 have H := H.readersL H6'
 obtain ⟨avr6, cvr6, rfl⟩ := H.accShape (k := 0) rfl
 refine ⟨_, Z, ?_⟩
 refine R_nil (N_DK (Kn.of' H hd4 (SubL.cons 1 Z SubL.nil)) (RD_t 15 Z kR Z (fun _ hK => v_extract Z Z) (RD_t 16 Z kR Z (fun _ hK => v_extract Z Z) (RD_t 17 Z kR Z (fun _ hK => v_assign Z) (RD_t 18 Z kR Z (fun _ hK => v_assign Z) (RD_done kR (N_K (W_ret (ret_unlock 1 H muLib Z call91 Z Z (rs := [.tmp 6, .tmp 7]) results53 ?_))))))))); intro wu2 H
 refine ⟨[_, _], ⟨Z, Z, trivial⟩, ?_⟩
 have H := H.del (k := 1) rfl
 have H := H.del (k := 1) rfl
 have H := H.del (k := 1) rfl
 have H := H.del (k := 1) rfl
 have H := H.del (k := 1) rfl
 obtain rfl : x = z5 := Option.some.inj (hsx.symm.trans hz5)
 have hd : Sp.SnapRead d name path = _ := Sp.snapread_eq hdv hai hs0 htx
 exact H.retM ⟨_, _, xs6, (by (rw [hd]; rfl)), acc_1 rfl, chkI (G := fun _ => none) ((chkI hchk6)), hxl6, fun ys h => hxs6 ys (by (rw [hd] at h; exact h)), fun h => hxn6 (by (rw [hd] at h; exact h))⟩
end Go.Proofs.Tst

namespace Go.Proofs.Tst
open Go Fw Tryz
theorem i_SnapRead_c (w0 : World) (G0 : PH) (hG : PSub G0 w0) (cd : List Value) (d : BDisk) (hd : diskE G0 d cd) (name : Bs) (hname : name.length ≤ 16777216) (path : Bs) (hpath : path.length ≤ 16777216)  :
  Calls Tryz.prog 15 #[.agg cd.toArray, str name, str path] w0 (RetN w0 G0 (fun v Bs => ∃ (uv : Value) (c : List Value) (xs : List Int), v = .tuple #[uv, .bool (Sp.SnapRead d name path).isSome] ∧ Bs = [acc 3 1 uv xs.length c] ∧ Chk intE 1 (fun _ => none) c xs ∧ xs.length ≤ 1000 ∧ (∀ ys, Sp.SnapRead d name path = some ys → xs = ys) ∧ (Sp.SnapRead d name path = none → xs = []))) := by
 obtain ⟨a1, m1, c1, a1', m1', c1', a1'', m1'', c1'', rfl, hr1, hr1', hr1''⟩ := hd; have hn_hr1 := hr1.len; have hx_hr1 : _ ≤ 1099511627776 := hr1.lim; have hn_hr1q := hr1'.len; have hx_hr1q : _ ≤ 1099511627776 := hr1'.lim; have hn_hr1qq := hr1''.len; have hx_hr1qq : _ ≤ 1099511627776 := hr1''.lim
 have H := Hp.init hG
 refine calls_of_W (l := [_, str name, str path]) func15 Z ntmps15 Z (q2 (o_box H Z Z Z ?_)); intro b2 w2 hb2 H
 refine aG Z (aG Z (q1 (o_loadagg_B 0 H isAgg27 sizeOf27 Z Z Z Z Z (o_call call52 Z Z (i_newDisk_c _ _ H.sub _ d ⟨_, _, _, _, _, _, _, _, _, Z, hr1, hr1', hr1''⟩ H.lent0 ) ?_))))
 rintro _ w3 ⟨G3, _, _, rfl, H3', ⟨rfl, rfl, hnd3⟩ | ⟨db3, mb3, es3, ck3, xs3, T3, F3, sv3, sn3, c3, FS3, rfl, rfl, hm3, hS3, hN3, hT3, hchk3, hNs3, hSn3, hdv3⟩⟩
 ·skip
  have H := H.borrow0 H3'
  refine ⟨_, Z, ?_⟩
  refine mV Z (o_extract Z Z Z (o_extract Z Z Z (aG Z (aG Z (q3 (W_seq (q2 (mV Z (o_not Z Z (q3 (W_true Z (q2 (aG Z (aG Z (q3 ?_)))))))))))))))
  refine W_ret (N_K_ret (rt2 results15 Z Z ?_))
  have H := H.addNil 3 1
  have H := H.del (k := 1) rfl
  have hno : Sp.SnapRead d name path = none := Sp.snapread_nov (by assumption)
  have H := H.forget hG (by simp)
  exact ⟨_, _, rfl, H, _, _, [], (by (rw [hno]; rfl)), rfl, chkI (G := fun _ => none) ((Chk.nil (E := intE) (sz := 1) (G := G3))), by simp, fun ys h => (by rw [hno] at h; cases h), fun _ => rfl⟩
 skip
 have H := H.borrow0 H3'
 obtain ⟨avAd, cvAd, rfl⟩ := H.accShape (k := 3) rfl
 refine ⟨_, Z, ?_⟩
 refine mV Z (o_extract Z Z Z (o_extract Z Z Z (aG Z (aG Z (q3 (W_seq (q2 (mV Z (o_not Z Z (q3 (W_false Z (W_skip (N_K (q2 (mV Z ?_)))))))))))))))
 refine mV Z (mV Z ?_)
 have H := H.toFront (k := 4) rfl
 have H := H.toFront (k := 4) rfl
 have H := H.toFront (k := 4) rfl
 have H := H.toFront (k := 4) rfl
 have H := H.toFront (k := 4) rfl
 refine o_call call53 Z Z (i_readSnap_c _ _ H.sub _ _ _ _ _ _ _ _ _ _ _ _ hm3 hS3 hN3 hT3 hchk3 hNs3 hSn3 hdv3 _ hname _ hpath H.lent5 ) ?_
 rintro _ w4 ⟨G4, _, _, rfl, H4', ⟨u4, c4, xs4, rfl, rfl, hchk4, hxl4, hxs4, hxn4⟩⟩
 have H := H.borrow5 H4'
 obtain ⟨avr4, cvr4, rfl⟩ := H.accShape (k := 0) rfl
 refine ⟨_, Z, ?_⟩
 refine o_extract Z Z Z (o_extract Z Z Z (aG Z (aG Z (q3 (W_ret (rt2 results15 Z Z ?_))))))
 have H := H.del (k := 1) rfl
 have hd : Sp.SnapRead d name path = _ := rfl
 have H := H.forget hG (by simp)
 exact ⟨_, _, rfl, H, _, _, xs4, (by (rw [hd]; rfl)), acc_1 rfl, chkI (G := fun _ => none) ((chkI hchk4)), hxl4, fun ys h => hxs4 ys (by (rw [hd] at h; exact h)), fun h => hxn4 (by (rw [hd] at h; exact h))⟩
end Go.Proofs.Tst

namespace Go.Proofs.Tst
open Go Fw Tryz
theorem i_HistoryBack_c (w0 : World) (G0 : PH) (hG : PSub G0 w0) (cd : List Value) (d : BDisk) (hd : diskE G0 d cd) (snap : Bs) (hsnap : snap.length ≤ 16777216) (path : Bs) (hpath : path.length ≤ 16777216)  :
  Calls Tryz.prog 27 #[.agg cd.toArray, str snap, str path] w0 (RetN w0 G0 (fun v Bs => ∃ (v1 v2 v3 : Value) (F1 F2 F3 : Fr), v = .tuple #[.agg #[v1, v2, v3], .bool (Sp.HistoryBack d snap path).isSome] ∧ Bs = [frag F1, frag F2, frag F3] ∧ OHs F1 v1 ((Sp.HistoryBack d snap path).getD ⟨[], [], []⟩).store ∧ OIs F2 v2 ((Sp.HistoryBack d snap path).getD ⟨[], [], []⟩).tree ∧ OSn F3 v3 ((Sp.HistoryBack d snap path).getD ⟨[], [], []⟩).snaps)) := by
 obtain ⟨a1, m1, c1, a1', m1', c1', a1'', m1'', c1'', rfl, hr1, hr1', hr1''⟩ := hd; have hn_hr1 := hr1.len; have hx_hr1 : _ ≤ 1099511627776 := hr1.lim; have hn_hr1q := hr1'.len; have hx_hr1q : _ ≤ 1099511627776 := hr1'.lim; have hn_hr1qq := hr1''.len; have hx_hr1qq : _ ≤ 1099511627776 := hr1''.lim
 have H := Hp.init hG
 refine calls_of_W (l := [_, str snap, str path]) func27 Z ntmps27 Z (q2 (o_box H Z Z Z ?_)); intro b2 w2 hb2 H
 refine o_alloc H zeroValue27 Z Z ?_; intro b3 w3 hb3 H
 refine aG Z (q1 (o_loadagg_B 1 H isAgg27 sizeOf27 Z Z Z Z Z (mV Z (mV Z (o_call call15 Z Z (i_SnapRead_c _ _ H.sub _ d ⟨_, _, _, _, _, _, _, _, _, Z, hr1, hr1', hr1''⟩ _ hsnap _ hpath ) ?_)))))
 rintro _ w4 ⟨_, _, rfl, H4', ⟨u4, c4, xs4, rfl, rfl, hchk4, hxl4, hxs4, hxn4⟩⟩
 have H := H.readers (fp := []) (by simp) (PLe.refl _) H4'
 obtain ⟨avr4, cvr4, rfl⟩ := H.accShape (k := 0) rfl
 refine ⟨_, Z, ?_⟩
 refine mV Z (o_extract Z Z Z (o_extract Z Z Z (aG Z (aG Z (q3 (W_seq (q2 (mV Z (o_not Z Z (q3 ?_))))))))))
 refine W_cond Z ?_ ?_
 ·intro hc5
  try simp only [nrm] at hc5
  refine q2 (o_build bf27 Z Z Z (o_store_B 1 H sizeOf27 Z Z Z Z Z Z Z Z ?_)); intro w6 H
  refine aG Z (q3 (W_ret (N_K_ret (ret_gen (rs := [.cell 6 27, .tmp 7]) (vs := [_, _]) results27 ⟨⟨_, Z, load_blk 1 H isAgg27 sizeOf27 Z Z Z⟩, Z, trivial⟩ ?_))))
  have H := H.del (k := 0) rfl
  have H := H.del (k := 0) rfl
  have H := H.del (k := 0) rfl
  have hs : Sp.SnapRead d snap path = none := by simpa using hc5
  have hno : Sp.HistoryBack d snap path = none := by simp [Sp.HistoryBack, hs]
  have H := (((H.addF).addF).addF).forget hG (by simp)
  refine ⟨_, _, Z, H, .slice none 0 0, .slice none 0 0, .slice none 0 0, [], [], [], ?_, Z, ?_, ?_, ?_⟩
  ·(rw [hno]; rfl)
  ·(rw [hno]; exact oh_nil)
  ·(rw [hno]; exact oi_nil)
  (rw [hno]; exact os_nil)
 intro hc5'
 try simp only [nrm] at hc5'
 refine W_skip (N_K (q2 (o_loadagg_B 2 H isAgg27 sizeOf27 Z Z Z Z Z (mV Z (mV Z (o_call call21 Z Z (i_DiskWrite_c _ _ (H.lendSubL [0]) _ d ⟨_, _, _, _, _, _, _, _, _, Z, (hr1.up (PPlus.le _ _ _)), (hr1'.up (PPlus.le _ _ _)), (hr1''.up (PPlus.le _ _ _))⟩ _ hpath _ _ (H.lendRdL (k := 0) (ks := [0]) Z Z (chkI hchk4) aN aN) ) ?_))))))
 rintro _ w7 ⟨_, _, rfl, H7', ⟨u17, u27, u37, E17, E27, E37, rfl, rfl, ho17, ho27, ho37⟩⟩
 have H := H.readersL H7'
 obtain ⟨x17, p17⟩ := ho17
 obtain ⟨a17, c17, rfl⟩ := OwnS.shape p17
 obtain ⟨x27, p27⟩ := ho27
 obtain ⟨a27, c27, rfl⟩ := OwnS.shape p27
 obtain ⟨x37, p37⟩ := ho37
 obtain ⟨a37, c37, rfl⟩ := OwnS.shape p37
 refine ⟨_, Z, ?_⟩
 refine o_extract Z Z Z (o_extract Z Z Z (o_store_B 4 H sizeOf27 Z Z Z Z Z Z Z Z ?_)); intro w8 H
 refine aG Z (q3 (W_ret (ret_gen (rs := [.cell 6 27, .tmp 7]) (vs := [_, _]) results27 ⟨⟨_, Z, load_blk 4 H isAgg27 sizeOf27 Z Z Z⟩, Z, trivial⟩ ?_)))
 have H := H.del (k := 3) rfl
 have H := H.del (k := 3) rfl
 have H := H.del (k := 3) rfl
 have H := H.toFront (k := 2) rfl
 have H := H.toFront (k := 2) rfl
 have H := H.toFront (k := 2) rfl
 obtain ⟨sb, hsb⟩ := Option.isSome_iff_exists.1 (show (Sp.SnapRead d snap path).isSome = true by simpa using hc5')
 have hY : Sp.HistoryBack d snap path = Sp.DiskWrite d path xs4 := by (rw [hxs4 sb hsb]; simp [Sp.HistoryBack, hsb])
 have H := H.forget hG (by simp)
 refine ⟨_, _, Z, H, .slice a17 ((Sp.DiskWrite d path xs4).getD ⟨[], [], []⟩).store.length c17, .slice a27 ((Sp.DiskWrite d path xs4).getD ⟨[], [], []⟩).tree.length c27, .slice a37 ((Sp.DiskWrite d path xs4).getD ⟨[], [], []⟩).snaps.length c37, E17, E27, E37, ?_, Z, ?_, ?_, ?_⟩
 ·(rw [hY]; rfl)
 ·(rw [hY]; exact ⟨_, p17⟩)
 ·(rw [hY]; exact ⟨_, p27⟩)
 (rw [hY]; exact ⟨_, p37⟩)
end Go.Proofs.Tst

namespace Go.Proofs.Tst
open Go Fw Tryz
theorem l6Open_c (w0 : World) (G0 : PH) (hG : PSub G0 w0) (vcode : Value) (code : List (UInt8)) (hcode : RdU G0 vcode code)  :
  Calls Tryz.prog 36 #[vcode] w0 (RetO w0 G0 (fun G val r => ∃ (b : Nat) (ab : Option Addr) (mb kb : Nat) (bs : List UInt8), val = .pointer (some ⟨b, 0, none⟩) ∧ r = blk b (cl [.slice ab mb kb, .int .i64 ((0 : Nat) : Int)] 118) ∧ RdU G (.slice ab mb kb) bs)) := by
 obtain ⟨acode, kcode, rfl⟩ := hcode.shape
 have hlimcode : code.length ≤ 1099511627776 := hcode.lim
 have H := Hp.init hG
 refine calls_of_W (l := [.slice acode code.length kcode]) func36 Z ntmps36 Z (q2 (aG Z (q3 (W_seq (q2 (mV Z (o_len_slice underlying22 Z Z (o_gtr Z Z Z (q3 ?_)))))))))
 refine W_cond Z ?_ ?_
 ·intro hc1
  try simp only [nrm] at hc1
  refine W_region (mV Z ?_)
  have hcap2 := hcode.cap; try simp only [List.length_set, List.length_append, List.length_take, List.length_drop, List.length_replicate] at hcap2
  refine o_slice_to (j := 2000) underlying22 sizeOf5 Z Z Z oM oM ?_
  have hsl2 := hcode.take (j := 2000) aN
  have hsn1 := hsl2.len
  refine aG Z (q1 (mV Z (o_build bf118 Z Z Z (o_box H Z Z Z ?_)))); intro b3 w3 hb3 H
  refine aG Z (q3 (W_ret (rt1 results36 Z ?_)))
  exact H.retO (k := 0) rfl ⟨_, _, _, _, _, rfl, rfl, hsl2⟩ (by simp [blk])
 intro hc1'
 try simp only [nrm] at hc1'
 refine W_skip (N_K (q2 (mV Z (o_build bf118 Z Z Z (o_box H Z Z Z ?_))))); intro b4 w4 hb4 H
 refine aG Z (q3 (W_ret (rt1 results36 Z ?_)))
 exact H.retO (k := 0) rfl ⟨_, _, _, _, _, rfl, rfl, hcode⟩ (by simp [blk])
end Go.Proofs.Tst

namespace Go.Proofs.Tst
open Go Fw Tryz
theorem pick_c (w0 : World) (G0 : PH) (hG : PSub G0 w0) (rb : Nat) (ab : Option Addr) (mb kb : Nat) (bs : List UInt8) (p : Nat) (hbs : RdU G0 (.slice ab mb kb) bs) (hrb : w0.heap[rb]? = some (cl [.slice ab mb kb, .int .i64 (p : Int)] 118)) (hrn : G0 rb = none) (hp : p ≤ 1000000000000) (n : Int) (hn : inI n)  :
  Calls Tryz.prog 38 #[.pointer (some ⟨rb, 0, none⟩), .int .i64 n] w0 (RetM w0 G0 [rb] (fun G val Bs => ∃ (p' : Nat) (x : Nat), p' ≤ p + 1 ∧ val = .int .i64 (x : Int) ∧ ((x : Int) < n ∨ x = 0) ∧ Bs = [blk rb (cl [.slice ab mb kb, .int .i64 (p' : Int)] 118)])) := by
 have hlimbs : bs.length ≤ 1099511627776 := hbs.lim; obtain rfl : mb = bs.length := hbs.len
 have H := Hp.initM hG hrb hrn
 refine calls_of_W (l := [.pointer (some ⟨rb, 0, none⟩), .int .i64 n]) func38 Z ntmps38 Z (q2 (aG Z (q1 (mV Z (mV Z (o_nilCheck Z Z (o_fieldAddr 1 runUnderlying118 Z sizeOf3 Z Z Z (o_load_B 0 H isAgg3 Z Z Z Z (o_add Z Z Z oO (o_nilCheck Z Z (o_fieldAddr 1 runUnderlying118 Z sizeOf3 Z Z Z (o_store_B 0 H sizeOf3 Z Z Z Z Z Z Z Z ?_)))))))))))); intro w2 H
 refine q3 (W_seq (q2 (mV Z (o_lss Z Z Z (mV Z ?_)))))
 refine R_case (t := 17) Z ?_ ?_
 ·intro hc3
  try simp only [nrm] at hc3
  refine rP Z (rP Z (rP Z (rP Z (rP Z (rP Z (o_pick_t Z Z Z (q3 (W_true Z (q2 (aG Z (q3 (W_ret (N_K_ret (rt1 results38 Z ?_))))))))))))))
  exact H.retM ⟨p + 1, 0, by omega, rfl, .inr rfl, rfl⟩
 intro hc3'
 try simp only [nrm] at hc3'
 refine gR Z (mV Z (gR Z (o_nilCheck Z Z (gR Z (o_fieldAddr 0 runUnderlying118 Z sizeOf22 Z Z Z (gR Z (o_load_B 0 H isAgg22 Z Z Z Z (gR Z (o_len_slice underlying22 Z Z (gR Z (o_eql Z Z Z (o_pick_f Z Z Z (q3 ?_)))))))))))))
 refine W_cond Z ?_ ?_
 ·intro hc4
  try simp only [nrm] at hc4
  refine q2 (aG Z (q3 (W_ret (N_K_ret (rt1 results38 Z ?_)))))
  exact H.retM ⟨p + 1, 0, by omega, rfl, .inr rfl, rfl⟩
 intro hc4'
 try simp only [nrm] at hc4'
 have hm0 : 0 < bs.length := by omega
 have hm1 := Nat.mod_lt p hm0
 have hm2 := Nat.mod_lt (p * 7 + 3) hm0
 have hq1 : 0 ≤ ((p : Int) + 1 - 1) / (bs.length : Int) := Int.ediv_nonneg oM oM
 have hq2 : ((p : Int) + 1 - 1) / (bs.length : Int) ≤ (p : Int) + 1 - 1 := Int.ediv_le_self _ oM
 refine W_skip (N_K (q2 (mV Z (o_nilCheck Z Z (o_fieldAddr 1 runUnderlying118 Z sizeOf3 Z Z Z (o_load_B 0 H isAgg3 Z Z Z Z (o_sub Z Z Z oO (aG Z (q3 (W_seq (q2 (mV Z (mV Z (o_nilCheck Z Z (o_fieldAddr 0 runUnderlying118 Z sizeOf22 Z Z Z ?_)))))))))))))))
 refine o_load_B 0 H isAgg22 Z Z Z Z (o_len_slice underlying22 Z Z (o_lss Z Z Z (q3 ?_)))
 refine W_cond Z ?_ ?_
 ·intro hc6
  try simp only [nrm] at hc6
  refine q2 (mV Z (o_nilCheck Z Z (o_fieldAddr 0 runUnderlying118 Z sizeOf22 Z Z Z (o_load_B 0 H isAgg22 Z Z Z Z (mV Z (o_index_P p hbs underlying22 sizeOf5 Z Z Z oM aN ?_)))))); intro b7 o7 z7 q7 hz7 hE7 hrow7
  obtain rfl := hE7
  have hzl7 := z7.toNat_lt
  refine o_load_P H isAgg5 Z Z (hrow7 0 _ Z) (o_conv (by simp [underlying5]) underlying3 Z Z (wrap_i64 oO) (mV Z (o_rem Z Z Z oM oM (aG Z (q3 (W_ret (N_K_ret (rt1 results38 Z ?_))))))))
  exact H.retM ⟨p + 1, _, by omega, congrArg (Value.int .i64) (Int.toNat_of_nonneg (Int.emod_nonneg _ oM)).symm, .inl (by rw [Int.toNat_of_nonneg (Int.emod_nonneg _ oM)]; exact Int.emod_lt_of_pos _ oM), rfl⟩
 intro hc6'
 try simp only [nrm] at hc6'
 refine W_skip (N_K (W_seq (W_drawK [0] 46 H kR Z ?_))); intro w8 H; have hd8 := PLe.refl G0
 refine vM 0 Z Z (RD_t 1 Z kR Z (fun _ hK => v_nilCheck Z) (RD_t 2 Z kR Z (fun _ hK => v_fieldAddr 0 runUnderlying118 Z sizeOf22 Z Z) (RD_t 3 Z kR Z (fun _ hK => v_load_B 0 hK isAgg22 Z Z Z) (vM 4 Z Z (vM 5 Z Z (RD_t 6 Z kR Z (fun _ hK => v_nilCheck Z) (RD_t 7 Z kR Z (fun _ hK => v_fieldAddr 0 runUnderlying118 Z sizeOf22 Z Z) (RD_t 8 Z kR Z (fun _ hK => v_load_B 0 hK isAgg22 Z Z Z) (RD_t 9 Z kR Z (fun _ hK => v_len_slice underlying22 Z) (RD_t 10 Z kR Z (fun _ hK => v_rem Z Z oM oM) ?_))))))))))
 have hl9 := hbs.len
 obtain ⟨b9, o9, z9, q9, ha9, hz9, hq9, hE9, hrow9, _⟩ := hbs.at (i := (p % bs.length)) oM
 clear hq9
 obtain rfl := hE9
 have hzl9 := z9.toNat_lt
 refine RD_t 11 Z kR Z (fun _ hK => v_index_P (i := (p % bs.length)) ha9 underlying22 sizeOf5 Z Z (by rw [Int.add_sub_cancel]; exact (Int.natCast_emod _ _).symm) oM) ?_
 refine RD_t 12 Z kR Z (fun _ hK => v_load_P hK isAgg5 Z (hrow9 0 _ Z)) (RD_t 13 Z kR Z (fun _ hK => v_conv (by simp [underlying5]) underlying3 Z (wrap_i64 oO)) (RD_t 14 Z kR Z (fun _ hK => v_mul Z Z oO) (vM 15 Z Z (RD_t 16 Z kR Z (fun _ hK => v_nilCheck Z) (RD_t 17 Z kR Z (fun _ hK => v_fieldAddr 0 runUnderlying118 Z sizeOf22 Z Z) (RD_t 18 Z kR Z (fun _ hK => v_load_B 0 hK isAgg22 Z Z Z) (vM 19 Z Z (RD_t 20 Z kR Z (fun _ hK => v_mul Z Z oO) (RD_t 21 Z kR Z (fun _ hK => v_add Z Z oO) (vM 22 Z Z (RD_t 23 Z kR Z (fun _ hK => v_nilCheck Z) (RD_t 24 Z kR Z (fun _ hK => v_fieldAddr 0 runUnderlying118 Z sizeOf22 Z Z) (RD_t 25 Z kR Z (fun _ hK => v_load_B 0 hK isAgg22 Z Z Z) (RD_t 26 Z kR Z (fun _ hK => v_len_slice underlying22 Z) (RD_t 27 Z kR Z (fun _ hK => v_rem Z Z oM oM) ?_)))))))))))))))
 have hl13 := hbs.len
 obtain ⟨b13, o13, z13, q13, ha13, hz13, hq13, hE13, hrow13, _⟩ := hbs.at (i := ((p * 7 + 3) % bs.length)) oM
 clear hq13
 obtain rfl := hE13
 have hzl13 := z13.toNat_lt
 refine RD_t 28 Z kR Z (fun _ hK => v_index_P (i := ((p * 7 + 3) % bs.length)) ha13 underlying22 sizeOf5 Z Z (by rw [Int.add_sub_cancel]; exact (Int.natCast_emod _ _).symm) oM) ?_
 refine RD_t 29 Z kR Z (fun _ hK => v_load_P hK isAgg5 Z (hrow13 0 _ Z)) (RD_t 30 Z kR Z (fun _ hK => v_conv (by simp [underlying5]) underlying3 Z (wrap_i64 oO)) (RD_t 31 Z kR Z (fun _ hK => v_mul Z Z oO) (RD_t 32 Z kR Z (fun _ hK => v_add Z Z oO) (vM 33 Z Z (RD_t 34 Z kR Z (fun _ hK => v_mul Z Z oO) (RD_t 35 Z kR Z (fun _ hK => v_add Z Z oO) (vM 36 Z Z (vM 37 Z Z (RD_t 38 Z kR Z (fun _ hK => v_nilCheck Z) (RD_t 39 Z kR Z (fun _ hK => v_fieldAddr 0 runUnderlying118 Z sizeOf22 Z Z) (RD_t 40 Z kR Z (fun _ hK => v_load_B 0 hK isAgg22 Z Z Z) (RD_t 41 Z kR Z (fun _ hK => v_len_slice underlying22 Z) (RD_t 42 Z kR Z (fun _ hK => v_quo Z Z oM oM oM) (RD_t 43 Z kR Z (fun _ hK => v_mul Z Z oO) (RD_t 44 Z kR Z (fun _ hK => v_add Z Z oO) ?_)))))))))))))))
 refine RD_t 45 Z kR Z (fun _ hK => v_assign Z) (RD_done kR (N_K (q2 (mV Z (mV Z (o_quo Z Z Z oM oM oM (o_xor Z Z Z oO oO ?_))))))); intro xr20 hxr20
 refine aG Z (q1 (mV Z (mV Z (o_rem Z Z Z oM oM (aG Z (q3 (W_ret (rt1 results38 Z ?_))))))))
 exact H.retM ⟨p + 1, _, by omega, congrArg (Value.int .i64) (Int.toNat_of_nonneg (Int.emod_nonneg _ oM)).symm, .inl (by rw [Int.toNat_of_nonneg (Int.emod_nonneg _ oM)]; exact Int.emod_lt_of_pos _ oM), rfl⟩
end Go.Proofs.Tst

namespace Go.Proofs.Tst
open Go Fw Tryz
theorem of_c (w0 : World) (G0 : PH) (hG : PSub G0 w0) (rb : Nat) (ab : Option Addr) (mb kb : Nat) (bs : List UInt8) (p : Nat) (hbs : RdU G0 (.slice ab mb kb) bs) (hrb : w0.heap[rb]? = some (cl [.slice ab mb kb, .int .i64 (p : Int)] 118)) (hrn : G0 rb = none) (hp : p ≤ 100000000000) (vlist : Value) (list : List (Bs)) (hlist : RdT G0 vlist list) (hL : 0 < list.length) :
  Calls Tryz.prog 39 #[.pointer (some ⟨rb, 0, none⟩), vlist] w0 (RetM w0 G0 [rb] (fun G val Bs => ∃ (p' : Nat) (x : Fw.Bs), p' ≤ p + 1 ∧ val = str x ∧ x.length ≤ 16777216 ∧ Bs = [blk rb (cl [.slice ab mb kb, .int .i64 (p' : Int)] 118)])) := by
 have hlimbs : bs.length ≤ 1099511627776 := hbs.lim; obtain rfl : mb = bs.length := hbs.len
 obtain ⟨alist, klist, rfl⟩ := hlist.shape
 have hlimlist : list.length ≤ 1099511627776 := hlist.lim
 have H := Hp.initM hG hrb hrn
 refine calls_of_W (l := [.pointer (some ⟨rb, 0, none⟩), .slice alist list.length klist]) func39 Z ntmps39 Z (q2 (aG Z (q1 (mV Z (mV Z (mV Z (o_len_slice underlying69 Z Z (o_call call38 Z Z (pick_c _ _ H.sub _ _ _ _ _ _ hbs (H.blkIs (k := 0) Z).1 (H.blkIs (k := 0) Z).2 oM _ oO ) ?_))))))))
 rintro _ w1 ⟨G1, _, _, rfl, H1', ⟨p1, x1, hp1, rfl, hxb1, rfl⟩⟩
 have hlist := hlist.up H1'.le
 have H := H.borrow (k := 0) rfl H1'
 refine ⟨_, Z, ?_⟩
 refine o_index_P x1 hlist underlying69 sizeOf9 Z Z Z Z aN ?_; intro b2 o2 z2 q2 hz2 hE2 hrow2
 obtain ⟨rfl, hi2⟩ := hE2; have hy_hi2 : _ ≤ 16777216 := hi2
 refine o_load_P H isAgg9 Z Z (hrow2 0 _ Z) (aG Z (q3 (W_ret (rt1 results39 Z ?_))))
 exact H.retM ⟨_, _, by omega, rfl, (by assumption), rfl⟩
end Go.Proofs.Tst

namespace Go.Proofs.Tst
open Go Fw Tryz
theorem l91Path_c (w0 : World) (G0 : PH) (hG : PSub G0 w0) (rb : Nat) (ab : Option Addr) (mb kb : Nat) (bs : List UInt8) (p : Nat) (hbs : RdU G0 (.slice ab mb kb) bs) (hrb : w0.heap[rb]? = some (cl [.slice ab mb kb, .int .i64 (p : Int)] 118)) (hrn : G0 rb = none) (hp : p ≤ 10000000000)  :
  Calls Tryz.prog 55 #[.pointer (some ⟨rb, 0, none⟩)] w0 (RetM w0 G0 [rb] (fun G val Bs => ∃ (p' : Nat) (x : Fw.Bs), p' ≤ p + 2 ∧ val = str x ∧ x.length ≤ 16777216 ∧ Bs = [blk rb (cl [.slice ab mb kb, .int .i64 (p' : Int)] 118)])) := by
 have hlimbs : bs.length ≤ 1099511627776 := hbs.lim; obtain rfl : mb = bs.length := hbs.len
 have H := Hp.initM hG hrb hrn
 refine calls_of_W (l := [.pointer (some ⟨rb, 0, none⟩)]) func55 Z ntmps55 Z (q2 (aG Z (q3 (W_seq (q2 (mV Z (o_call call38 Z Z (pick_c _ _ H.sub _ _ _ _ _ _ hbs (H.blkIs (k := 0) Z).1 (H.blkIs (k := 0) Z).2 oM _ oO ) ?_)))))))
 rintro _ w1 ⟨G1, _, _, rfl, H1', ⟨p1, x1, hp1, rfl, hxb1, rfl⟩⟩
 have hbs := hbs.up H1'.le
 have H := H.borrow (k := 0) rfl H1'
 refine ⟨_, Z, ?_⟩
 refine o_eql Z Z Z (q3 ?_)
 refine W_cond Z ?_ ?_
 ·intro hc2
  try simp only [nrm] at hc2
  refine q2 (mV Z (o_buildSlice H underlying69 sizeOf9 (fun w => ⟨_, zeroValue9 w, Z⟩) Z Z Z Z Z Z Z ?_)); intro b3 w3 hb3 H
  have H := H.blkAcc 1 (k := 0) (n := 8) rfl rfl (by decide)
  have hchk5 := (((((((((Chk.nil (E := strE) (sz := 1) (G := G1)).snoc (show strE _ ([] : Fw.Bs) [str []] from ⟨rfl, by decide⟩) rfl).snoc (show strE _ ([97, 47, 47, 98] : Fw.Bs) [str [97, 47, 47, 98]] from ⟨rfl, by decide⟩) rfl).snoc (show strE _ ([47, 97] : Fw.Bs) [str [47, 97]] from ⟨rfl, by decide⟩) rfl).snoc (show strE _ ([97, 47] : Fw.Bs) [str [97, 47]] from ⟨rfl, by decide⟩) rfl).snoc (show strE _ ([65] : Fw.Bs) [str [65]] from ⟨rfl, by decide⟩) rfl).snoc (show strE _ ([97, 98, 99, 100, 101, 102] : Fw.Bs) [str [97, 98, 99, 100, 101, 102]] from ⟨rfl, by decide⟩) rfl).snoc (show strE _ ([97, 47, 98, 47, 99, 47, 100, 47, 101] : Fw.Bs) [str [97, 47, 98, 47, 99, 47, 100, 47, 101]] from ⟨rfl, by decide⟩) rfl).snoc (show strE _ ([97, 47, 98, 47, 99, 47, 100] : Fw.Bs) [str [97, 47, 98, 47, 99, 47, 100]] from ⟨rfl, by decide⟩) rfl)
  obtain ⟨G6, H, hsg6, hsr6⟩ := H.shutM (k := 0) (j := 0) rfl rfl hchk5 aN aN
  have hbs := hbs.up hsg6
  refine o_call call39 Z Z (of_c _ _ H.sub _ _ _ _ _ _ hbs (H.blkIs (k := 0) Z).1 (H.blkIs (k := 0) Z).2 oM _ _ hsr6 (by first | decide | (simp; done) | (simp; omega))) ?_
  rintro _ w4 ⟨G4, _, _, rfl, H4', ⟨p4, x4, hp4, rfl, hxs4, rfl⟩⟩
  have H := H.borrow (k := 0) rfl H4'
  refine ⟨_, Z, ?_⟩
  refine aG Z (q3 (W_ret (N_K_ret (rt1 results55 Z ?_))))
  exact H.retM ⟨_, _, by omega, rfl, (by assumption), rfl⟩
 intro hc2'
 try simp only [nrm] at hc2'
 refine W_skip (N_K (q2 (mV Z (o_buildSlice H underlying69 sizeOf9 (fun w => ⟨_, zeroValue9 w, Z⟩) Z Z Z Z Z Z Z ?_)))); intro b7 w7 hb7 H
 have H := H.blkAcc 1 (k := 0) (n := 8) rfl rfl (by decide)
 have hchk9 := (((((((((Chk.nil (E := strE) (sz := 1) (G := G1)).snoc (show strE _ ([97] : Fw.Bs) [str [97]] from ⟨rfl, by decide⟩) rfl).snoc (show strE _ ([98] : Fw.Bs) [str [98]] from ⟨rfl, by decide⟩) rfl).snoc (show strE _ ([97, 47, 120] : Fw.Bs) [str [97, 47, 120]] from ⟨rfl, by decide⟩) rfl).snoc (show strE _ ([97, 47, 121] : Fw.Bs) [str [97, 47, 121]] from ⟨rfl, by decide⟩) rfl).snoc (show strE _ ([98, 47, 120] : Fw.Bs) [str [98, 47, 120]] from ⟨rfl, by decide⟩) rfl).snoc (show strE _ ([97, 47, 120, 47, 112] : Fw.Bs) [str [97, 47, 120, 47, 112]] from ⟨rfl, by decide⟩) rfl).snoc (show strE _ ([99] : Fw.Bs) [str [99]] from ⟨rfl, by decide⟩) rfl).snoc (show strE _ ([97, 47, 120, 47, 113] : Fw.Bs) [str [97, 47, 120, 47, 113]] from ⟨rfl, by decide⟩) rfl)
 obtain ⟨G10, H, hsg10, hsr10⟩ := H.shutM (k := 0) (j := 0) rfl rfl hchk9 aN aN
 have hbs := hbs.up hsg10
 refine o_call call39 Z Z (of_c _ _ H.sub _ _ _ _ _ _ hbs (H.blkIs (k := 0) Z).1 (H.blkIs (k := 0) Z).2 oM _ _ hsr10 (by first | decide | (simp; done) | (simp; omega))) ?_
 rintro _ w8 ⟨G8, _, _, rfl, H8', ⟨p8, x8, hp8, rfl, hxs8, rfl⟩⟩
 have H := H.borrow (k := 0) rfl H8'
 refine ⟨_, Z, ?_⟩
 refine aG Z (q3 (W_ret (rt1 results55 Z ?_)))
 exact H.retM ⟨_, _, by omega, rfl, (by assumption), rfl⟩
end Go.Proofs.Tst

namespace Go.Proofs.Tst
open Go Fw Tryz
theorem l91At_c (w0 : World) (G0 : PH) (hG : PSub G0 w0) (rb : Nat) (ab : Option Addr) (mb kb : Nat) (bs : List UInt8) (p : Nat) (hbs : RdU G0 (.slice ab mb kb) bs) (hrb : w0.heap[rb]? = some (cl [.slice ab mb kb, .int .i64 (p : Int)] 118)) (hrn : G0 rb = none) (hp : p ≤ 1000000000) (vlist : Value) (list : List (BItem)) (hlist : RdItems G0 vlist list)  :
  Calls Tryz.prog 54 #[.pointer (some ⟨rb, 0, none⟩), vlist] w0 (RetM w0 G0 [rb] (fun G val Bs => ∃ (p' : Nat) (x : Fw.Bs), p' ≤ p + 4 ∧ val = str x ∧ x.length ≤ 16777216 ∧ Bs = [blk rb (cl [.slice ab mb kb, .int .i64 (p' : Int)] 118)])) := by
 have hlimbs : bs.length ≤ 1099511627776 := hbs.lim; obtain rfl : mb = bs.length := hbs.len
 obtain ⟨alist, klist, rfl⟩ := hlist.shape
 have hlimlist : list.length ≤ 1099511627776 := hlist.lim
 have H := Hp.initM hG hrb hrn
 refine calls_of_W (l := [.pointer (some ⟨rb, 0, none⟩), .slice alist list.length klist]) func54 Z ntmps54 Z (q2 (aG Z (q3 (W_seq (q2 (mV Z (o_len_slice underlying24 Z Z (o_gtr Z Z Z (mV Z ?_)))))))))
 refine R_case (t := 8) Z ?_ ?_
 ·intro hc1
  try simp only [nrm] at hc1
  refine gR Z (mV Z (gR Z (o_call call38 Z Z (pick_c _ _ H.sub _ _ _ _ _ _ hbs (H.blkIs (k := 0) Z).1 (H.blkIs (k := 0) Z).2 oM _ oO ) ?_)))
  rintro _ w2 ⟨G2, _, _, rfl, H2', ⟨p2, x2, hp2, rfl, hxb2, rfl⟩⟩
  have hbs := hbs.up H2'.le
  have hlist := hlist.up H2'.le
  have H := H.borrow (k := 0) rfl H2'
  refine ⟨_, Z, ?_⟩
  refine gR Z (o_gtr Z Z Z (o_pick_t Z Z Z (q3 ?_)))
  refine W_cond Z ?_ ?_
  ·intro hc3
   try simp only [nrm] at hc3
   refine q2 (mV Z (mV Z (mV Z (o_len_slice underlying24 Z Z (o_call call38 Z Z (pick_c _ _ H.sub _ _ _ _ _ _ hbs (H.blkIs (k := 0) Z).1 (H.blkIs (k := 0) Z).2 oM _ oO ) ?_)))))
   rintro _ w4 ⟨G4, _, _, rfl, H4', ⟨p4, x4, hp4, rfl, hxb4, rfl⟩⟩
   have hlist := hlist.up H4'.le
   have H := H.borrow (k := 0) rfl H4'
   refine ⟨_, Z, ?_⟩
   refine o_index_P x4 hlist underlying24 sizeOf37 Z Z Z Z aN ?_; intro b5 o5 z5 q5 hz5 hE5 hrow5
   obtain ⟨a5, m5, c5, rfl, hi5, hr5⟩ := hE5; have hy_hi5 : _ ≤ 16777216 := hi5; have hn_hr5 := hr5.len; have hx_hr5 : _ ≤ 1099511627776 := hr5.lim
   refine o_fieldAddr 0 runUnderlying37 Z sizeOf9 Z Z Z (o_load_P H isAgg9 Z Z (hrow5 0 _ Z) (aG Z (q3 (W_ret (N_K_ret (rt1 results54 Z ?_))))))
   exact H.retM ⟨_, _, by omega, rfl, (by assumption), rfl⟩
  intro hc3'
  try simp only [nrm] at hc3'
  refine W_skip (N_K (q2 (mV Z (o_call call55 Z Z (l91Path_c _ _ H.sub _ _ _ _ _ _ hbs (H.blkIs (k := 0) Z).1 (H.blkIs (k := 0) Z).2 oM ) ?_))))
  rintro _ w6 ⟨G6, _, _, rfl, H6', ⟨p6, x6, hp6, rfl, hxs6, rfl⟩⟩
  have H := H.borrow (k := 0) rfl H6'
  refine ⟨_, Z, ?_⟩
  refine aG Z (q3 (W_ret (rt1 results54 Z ?_)))
  exact H.retM ⟨_, _, by omega, rfl, (by assumption), rfl⟩
 intro hc1'
 try simp only [nrm] at hc1'
 refine rP Z (rP Z (rP Z (o_pick_f Z Z Z (q3 (W_false Z (W_skip (N_K (q2 (mV Z (o_call call55 Z Z (l91Path_c _ _ H.sub _ _ _ _ _ _ hbs (H.blkIs (k := 0) Z).1 (H.blkIs (k := 0) Z).2 oM ) ?_))))))))))
 rintro _ w7 ⟨G7, _, _, rfl, H7', ⟨p7, x7, hp7, rfl, hxs7, rfl⟩⟩
 have H := H.borrow (k := 0) rfl H7'
 refine ⟨_, Z, ?_⟩
 refine aG Z (q3 (W_ret (rt1 results54 Z ?_)))
 exact H.retM ⟨_, _, by omega, rfl, (by assumption), rfl⟩
end Go.Proofs.Tst

namespace Go.Proofs.Tst
open Go Fw Tryz
theorem l91File_c (w0 : World) (G0 : PH) (hG : PSub G0 w0) (rb : Nat) (ab : Option Addr) (mb kb : Nat) (bs : List UInt8) (p : Nat) (hbs : RdU G0 (.slice ab mb kb) bs) (hrb : w0.heap[rb]? = some (cl [.slice ab mb kb, .int .i64 (p : Int)] 118)) (hrn : G0 rb = none) (hp : p ≤ 1000000000)  :
  Calls Tryz.prog 60 #[.pointer (some ⟨rb, 0, none⟩)] w0 (RetM w0 G0 [rb] (fun G val Bs => ∃ (p' : Nat) (x : List Int) (v : Value) (c : List Value), p' ≤ p + 100 ∧ val = v ∧ Chk intE 1 G c x ∧ x.length ≤ 33 ∧ Bs = [acc 3 1 v x.length c, blk rb (cl [.slice ab mb kb, .int .i64 (p' : Int)] 118)])) := by
 have hlimbs : bs.length ≤ 1099511627776 := hbs.lim; obtain rfl : mb = bs.length := hbs.len
 have H := Hp.initM hG hrb hrn
 refine calls_of_W (l := [.pointer (some ⟨rb, 0, none⟩)]) func60 Z ntmps60 Z (q2 (aG Z (q1 (o_buildSlice H underlying33 sizeOf3 (fun w => ⟨_, zeroValue3 w, Z⟩) Z Z Z Z Z Z Z ?_)))); intro b1 w1 hb1 H
 have H := H.blkAcc 1 (k := 0) (n := 0) rfl rfl (by decide)
 refine aG Z (q1 (o_buildSlice H underlying33 sizeOf3 (fun w => ⟨_, zeroValue3 w, Z⟩) Z Z Z Z Z Z Z ?_)); intro b2 w2 hb2 H
 refine mV Z (o_call call38 Z Z (pick_c _ _ H.sub _ _ _ _ _ _ hbs (H.blkIs (k := 2) Z).1 (H.blkIs (k := 2) Z).2 oM _ oO ) ?_)
 rintro _ w3 ⟨G3, _, _, rfl, H3', ⟨p3, x3, hp3, rfl, hxb3, rfl⟩⟩
 have hbs := hbs.up H3'.le
 have H := H.borrow (k := 2) rfl H3'
 refine ⟨_, Z, ?_⟩
 have H := H.blkAcc 1 (k := 1) (n := 8) rfl rfl (by decide)
 have hchk5 := (((((((((Chk.nil (E := intE) (sz := 1) (G := G3)).snoc (show intE _ (0 : Int) [.int .i64 0] from ⟨rfl, by decide⟩) rfl).snoc (show intE _ (1 : Int) [.int .i64 1] from ⟨rfl, by decide⟩) rfl).snoc (show intE _ (7 : Int) [.int .i64 7] from ⟨rfl, by decide⟩) rfl).snoc (show intE _ (8 : Int) [.int .i64 8] from ⟨rfl, by decide⟩) rfl).snoc (show intE _ (9 : Int) [.int .i64 9] from ⟨rfl, by decide⟩) rfl).snoc (show intE _ (16 : Int) [.int .i64 16] from ⟨rfl, by decide⟩) rfl).snoc (show intE _ (17 : Int) [.int .i64 17] from ⟨rfl, by decide⟩) rfl).snoc (show intE _ (32 : Int) [.int .i64 32] from ⟨rfl, by decide⟩) rfl)
 obtain ⟨G6, H, hsg6, hsr6⟩ := H.shutM (k := 1) (j := 0) rfl rfl hchk5 aN aN
 have hbs := hbs.up hsg6
 have hl_hsr6 := hsr6.len
 refine o_index_P x3 hsr6 underlying33 sizeOf3 Z Z Z Z aN ?_; intro b4 o4 z4 q4 hz4 hE4 hrow4
 obtain ⟨rfl, hi4⟩ := hE4
 have hzb : 0 ≤ z4 ∧ z4 ≤ 32 := by have := List.mem_of_getElem? hz4; simp at this; omega
 refine o_load_P H isAgg3 Z Z (hrow4 0 _ Z) (aG Z (q3 (W_seq (q2 (mV Z (o_call call38 Z Z (pick_c _ _ H.sub _ _ _ _ _ _ hbs (H.blkIs (k := 0) Z).1 (H.blkIs (k := 0) Z).2 oM _ oO ) ?_))))))
 rintro _ w7 ⟨G7, _, _, rfl, H7', ⟨p7, x7, hp7, rfl, hxb7, rfl⟩⟩
 have hbs := hbs.up H7'.le
 have H := H.borrow (k := 0) rfl H7'
 refine ⟨_, Z, ?_⟩
 refine o_eql Z Z Z (q3 ?_)
 refine W_cond Z ?_ ?_
 ·intro hc8
  try simp only [nrm] at hc8
  refine W_region (mV Z (o_call call38 Z Z (pick_c _ _ H.sub _ _ _ _ _ _ hbs (H.blkIs (k := 0) Z).1 (H.blkIs (k := 0) Z).2 oM _ oO ) ?_))
  rintro _ w9 ⟨G9, _, _, rfl, H9', ⟨p9, x9, hp9, rfl, hxb9, rfl⟩⟩
  have hbs := hbs.up H9'.le
  have H := H.borrow (k := 0) rfl H9'
  refine ⟨_, Z, ?_⟩
  refine aG Z (q1 (mV Z (o_call call38 Z Z (pick_c _ _ H.sub _ _ _ _ _ _ hbs (H.blkIs (k := 0) Z).1 (H.blkIs (k := 0) Z).2 oM _ oO ) ?_)))
  rintro _ w10 ⟨G10, _, _, rfl, H10', ⟨p10, x10, hp10, rfl, hxb10, rfl⟩⟩
  have hbs := hbs.up H10'.le
  have H := H.borrow (k := 0) rfl H10'
  refine ⟨_, Z, ?_⟩
  refine aG Z (q3 (W_seq (q2 (aG Z (q3 (W_block ?_))))))
  refine W_lp (hf := (Sub.cons (t := 0) Z (Sub.cons (t := 2) Z (Sub.cons (t := 4) Z (Sub.cons (t := 5) Z Sub.nil))))) (J := fun M w m => ∃ (v : Value) (n : Nat) (cs : List Value) (xs : List (Int)) (k : Nat) (pp : Nat) (G : PH), M = [(6, .int .i64 (k : Int)), (3, v)] ∧ PLe G10 G ∧ Hp w0 G0 [rb] w G [blk rb (cl [.slice ab bs.length kb, .int .i64 (pp : Int)] 118), acc 3 1 v n cs] ∧ (Chk intE 1 G cs xs ∧ n = xs.length ∧ k ≤ 32 ∧ xs.length = k ∧ pp ≤ p + 10 + 2 * k) ∧ m = (33 - k)) (h0 := ⟨_, _, _, [], 0, p10, _, Z, PLe.refl _, H, ?inv, Z⟩) (round := ?round)
  case inv => exact ⟨(Chk.nil (E := intE) (sz := 1) (G := G10)),  by first | rfl | simp | (simp; omega) | omega, (by exact ⟨by omega, rfl, by omega⟩)⟩
  case round =>
   rintro _ w11 _ ⟨v, n, cs, xs, k, pp, G11, rfl, hle11, H, hinv11, rfl⟩
   have hbs := hbs.up hle11
   obtain ⟨hchk11_0, hn11_0, hinv11⟩ := hinv11
   obtain ⟨av11_0, cv11_0, rfl⟩ := H.accShape (k := 1) rfl
   obtain ⟨hk, hxl, hpp⟩ := hinv11
   refine W_seq (q2 (mV Z (mV Z (o_lss Z Z Z (q3 ?_)))))
   refine W_cond Z ?_ ?_
   ·intro hc12
    try simp only [nrm] at hc12
    refine W_skip (N_K (W_seq (W_block (W_region (mV Z (mV Z (mV Z (o_quo Z Z Z oM oM oM (mV Z (o_call call38 Z Z (pick_c _ _ H.sub _ _ _ _ _ _ hbs (H.blkIs (k := 0) Z).1 (H.blkIs (k := 0) Z).2 oM _ oO ) ?_))))))))))
    rintro _ w13 ⟨G13, _, _, rfl, H13', ⟨p13, x13, hp13, rfl, hxb13, rfl⟩⟩
    have hbs := hbs.up H13'.le
    have hchk11_0 := hchk11_0.up H13'.le
    have hle11 := hle11.trans H13'.le
    have H := H.borrow (k := 0) rfl H13'
    refine ⟨_, Z, ?_⟩
    have hma13 : 0 ≤ ((k : Int) / 8) * (x13 : Int) := Int.mul_nonneg oM oM
    have hmb13 : ((k : Int) / 8) * (x13 : Int) ≤ 4 * (x13 : Int) := Int.mul_le_mul_of_nonneg_right oM oM
    refine o_mul Z Z Z oO (o_add Z Z Z oO (mV Z (o_call call38 Z Z (pick_c _ _ H.sub _ _ _ _ _ _ hbs (H.blkIs (k := 0) Z).1 (H.blkIs (k := 0) Z).2 oM _ oO ) ?_)))
    rintro _ w16 ⟨G16, _, _, rfl, H16', ⟨p16, x16, hp16, rfl, hxb16, rfl⟩⟩
    have hchk11_0 := hchk11_0.up H16'.le
    have hle11 := hle11.trans H16'.le
    have H := H.borrow (k := 0) rfl H16'
    refine ⟨_, Z, ?_⟩
    have hma16 : 0 ≤ ((k : Int) / 8) * (x16 : Int) := Int.mul_nonneg oM oM
    have hmb16 : ((k : Int) / 8) * (x16 : Int) ≤ 4 * (x16 : Int) := Int.mul_le_mul_of_nonneg_right oM oM
    refine o_quo Z Z Z oM oM oM (o_add Z Z Z oO (o_buildSlice H underlying33 sizeOf3 (fun w => ⟨_, zeroValue3 w, Z⟩) Z Z Z Z Z Z Z ?_)); intro b18 w18 hb18 H
    refine o_append1 1 H (sz := 1) (bytes := 8) underlying33 typeInfo3 ⟨_, Z, Z⟩ Z Z Z Z Z Z Z Z Z Z oM Z ?_; intro v19 w19 H
    have hchk19 := hchk11_0.snoc (show intE _ ((x10 : Int) + ((k : Int) / 8) * (x13 : Int) + (x16 : Int) / 5) _ from ⟨rfl, oO⟩) rfl
    obtain ⟨av19, cv19, rfl⟩ := H.accShape (k := 1) rfl
    refine aG Z (R_nil (N_B (N_K (W_region (mV Z (o_add Z Z Z oO (aG Z (R_nil ?_))))))))
    refine N_lp (hJ := ⟨_, _, _, (xs ++ [((x10 : Int) + ((k : Int) / 8) * (x13 : Int) + (x16 : Int) / 5)]), k + 1, p16, _, Z, hle11, H, ?inv, Z⟩) (hm := ?hm)
    case hm => omega
    case inv => exact ⟨hchk19, aN, (by exact ⟨by omega, by simp [hxl], by omega⟩)⟩
   intro hc12'
   try simp only [nrm] at hc12'
   refine W_exit (N_K_exit (N_LP_exit (N_B_same (N_K (W_seq (q2 (mV Z (o_call call38 Z Z (pick_c _ _ H.sub _ _ _ _ _ _ hbs (H.blkIs (k := 0) Z).1 (H.blkIs (k := 0) Z).2 oM _ oO ) ?_))))))))
   rintro _ w21 ⟨G21, _, _, rfl, H21', ⟨p21, x21, hp21, rfl, hxb21, rfl⟩⟩
   have hbs := hbs.up H21'.le
   have hchk11_0 := hchk11_0.up H21'.le
   have H := H.borrow (k := 0) rfl H21'
   refine ⟨_, Z, ?_⟩
   have hma21 : 0 ≤ ((k : Int) / 8) * (x21 : Int) := Int.mul_nonneg oM oM
   have hmb21 : ((k : Int) / 8) * (x21 : Int) ≤ 4 * (x21 : Int) := Int.mul_le_mul_of_nonneg_right oM oM
   refine q3 (W_block (q2 (o_eql Z Z Z (aG Z (q3 ?_)))))
   refine W_cond Z ?_ ?_
   ·intro hc22
    try simp only [nrm] at hc22
    refine q2 (mV Z (o_gtr Z Z Z (q3 ?_)))
    refine W_cond Z ?_ ?_
    ·intro hc23
     try simp only [nrm] at hc23
     refine W_region (mV Z (mV Z (mV Z (o_call call38 Z Z (pick_c _ _ H.sub _ _ _ _ _ _ hbs (H.blkIs (k := 0) Z).1 (H.blkIs (k := 0) Z).2 oM _ oO ) ?_))))
     rintro _ w24 ⟨G24, _, _, rfl, H24', ⟨p24, x24, hp24, rfl, hxb24, rfl⟩⟩
     have hchk11_0 := hchk11_0.up H24'.le
     have H := H.borrow (k := 0) rfl H24'
     refine ⟨_, Z, ?_⟩
     have hma24 : 0 ≤ ((k : Int) / 8) * (x24 : Int) := Int.mul_nonneg oM oM
     have hmb24 : ((k : Int) / 8) * (x24 : Int) ≤ 4 * (x24 : Int) := Int.mul_le_mul_of_nonneg_right oM oM
     refine o_index_A 1 H x24 Z hchk11_0 underlying33 sizeOf3 Z Z Z Z aN aN ?_; intro ba25 z25 q25 hba25 hz25 hE25 hg25; cases hba25
     obtain ⟨rfl, hi25⟩ := hE25
     have hcl26 := hchk11_0.length
     refine o_store_A 1 H sizeOf3 Z Z Z Z Z (by simp only [vc, List.length_cons, List.length_nil]; omega) ?_; intro w26 H
     have hchk26 := hchk11_0.put (x' := 256) (off := 0) (vs := [_]) hz25 (fun cs hl hE => by obtain ⟨rfl, _⟩ := hE; exact ⟨rfl, oO⟩) (by simp only [vc, List.length_cons, List.length_nil]; omega)
     refine R_nil (N_B (N_K (q2 (mV Z (aG Z (q3 (W_ret (rt1 results60 Z ?_))))))))
     have H := H.toFront (k := 1) rfl
     have hcx := hchk26
     exact H.retM ⟨_, (xs.set x24 256), _, _, oM, rfl, hcx, (by first | (simp; done) | (simp; omega) | (simp at *; omega) | omega), acc_1 aN⟩
    intro hc23'
    try simp only [nrm] at hc23'
    refine W_skip (N_B (N_K (q2 (mV Z (aG Z (q3 (W_ret (rt1 results60 Z ?_))))))))
    have H := H.toFront (k := 1) rfl
    have hcx := hchk11_0
    exact H.retM ⟨_, xs, _, _, oM, rfl, hcx, (by first | (simp; done) | (simp; omega) | (simp at *; omega) | omega), acc_1 aN⟩
   intro hc22'
   try simp only [nrm] at hc22'
   refine q2 (o_eql Z Z Z (aG Z (q3 ?_)))
   refine W_cond Z ?_ ?_
   ·intro hc27
    try simp only [nrm] at hc27
    refine q2 (o_makeN (c := 33) (sz := 1) (bytes := 8) H underlying33 typeInfo3 ⟨_, Z, Z⟩ Z Z Z Z Z Z Z Z Z oM Z ?_); intro b28 w28 H
    have hchk28 := Chk.rep (E := intE) (sz := 1) (G := G21) (x0 := 0) (⟨rfl, by decide⟩) rfl (33)
    refine aG Z (q3 (W_ret (N_B_ret (N_K_ret (rt1 results60 Z ?_)))))
    have H := H.del (k := 2) rfl
    have H := H.toFront (k := 1) rfl
    have H := H.toFront (k := 1) rfl
    have hcx := hchk28
    exact H.retM ⟨_, (List.replicate (33) 0), _, _, oM, rfl, hcx, (by first | (simp; done) | (simp; omega) | (simp at *; omega) | omega), acc_1 aN⟩
   intro hc27'
   try simp only [nrm] at hc27'
   refine W_skip (N_B (N_K (q2 (mV Z (aG Z (q3 (W_ret (rt1 results60 Z ?_))))))))
   have H := H.toFront (k := 1) rfl
   have hcx := hchk11_0
   exact H.retM ⟨_, xs, _, _, oM, rfl, hcx, (by first | (simp; done) | (simp; omega) | (simp at *; omega) | omega), acc_1 aN⟩
 intro hc8'
 try simp only [nrm] at hc8'
 refine W_skip (N_K (q2 (mV Z (o_call call38 Z Z (pick_c _ _ H.sub _ _ _ _ _ _ hbs (H.blkIs (k := 0) Z).1 (H.blkIs (k := 0) Z).2 oM _ oO ) ?_))))
 rintro _ w29 ⟨G29, _, _, rfl, H29', ⟨p29, x29, hp29, rfl, hxb29, rfl⟩⟩
 have hbs := hbs.up H29'.le
 have H := H.borrow (k := 0) rfl H29'
 refine ⟨_, Z, ?_⟩
 refine aG Z (q3 (W_seq (q2 (aG Z (q3 (W_block ?_))))))
 refine W_lp (hf := (Sub.cons (t := 0) Z (Sub.cons (t := 2) Z (Sub.cons (t := 4) Z (Sub.cons (t := 5) Z Sub.nil))))) (J := fun M w m => ∃ (v : Value) (n : Nat) (cs : List Value) (xs : List (Int)) (k : Nat) (pp : Nat) (G : PH), M = [(6, .int .i64 (k : Int)), (3, v)] ∧ PLe G29 G ∧ Hp w0 G0 [rb] w G [blk rb (cl [.slice ab bs.length kb, .int .i64 (pp : Int)] 118), acc 3 1 v n cs] ∧ (Chk intE 1 G cs xs ∧ n = xs.length ∧ k ≤ 32 ∧ xs.length = k ∧ pp ≤ p + 10 + 2 * k) ∧ m = (33 - k)) (h0 := ⟨_, _, _, [], 0, p29, _, Z, PLe.refl _, H, ?inv, Z⟩) (round := ?round)
 case inv => exact ⟨(Chk.nil (E := intE) (sz := 1) (G := G29)),  by first | rfl | simp | (simp; omega) | omega, (by exact ⟨by omega, rfl, by omega⟩)⟩
 case round =>
  rintro _ w30 _ ⟨v, n, cs, xs, k, pp, G30, rfl, hle30, H, hinv30, rfl⟩
  have hbs := hbs.up hle30
  obtain ⟨hchk30_0, hn30_0, hinv30⟩ := hinv30
  obtain ⟨av30_0, cv30_0, rfl⟩ := H.accShape (k := 1) rfl
  obtain ⟨hk, hxl, hpp⟩ := hinv30
  refine W_seq (q2 (mV Z (mV Z (o_lss Z Z Z (q3 ?_)))))
  refine W_cond Z ?_ ?_
  ·intro hc31
   try simp only [nrm] at hc31
   refine W_skip (N_K (W_seq (W_block (W_region (mV Z (mV Z (mV Z (o_quo Z Z Z oM oM oM (mV Z (o_call call38 Z Z (pick_c _ _ H.sub _ _ _ _ _ _ hbs (H.blkIs (k := 0) Z).1 (H.blkIs (k := 0) Z).2 oM _ oO ) ?_))))))))))
   rintro _ w32 ⟨G32, _, _, rfl, H32', ⟨p32, x32, hp32, rfl, hxb32, rfl⟩⟩
   have hbs := hbs.up H32'.le
   have hchk30_0 := hchk30_0.up H32'.le
   have hle30 := hle30.trans H32'.le
   have H := H.borrow (k := 0) rfl H32'
   refine ⟨_, Z, ?_⟩
   have hma32 : 0 ≤ ((k : Int) / 8) * (x32 : Int) := Int.mul_nonneg oM oM
   have hmb32 : ((k : Int) / 8) * (x32 : Int) ≤ 4 * (x32 : Int) := Int.mul_le_mul_of_nonneg_right oM oM
   refine o_mul Z Z Z oO (o_add Z Z Z oO (mV Z (o_call call38 Z Z (pick_c _ _ H.sub _ _ _ _ _ _ hbs (H.blkIs (k := 0) Z).1 (H.blkIs (k := 0) Z).2 oM _ oO ) ?_)))
   rintro _ w35 ⟨G35, _, _, rfl, H35', ⟨p35, x35, hp35, rfl, hxb35, rfl⟩⟩
   have hchk30_0 := hchk30_0.up H35'.le
   have hle30 := hle30.trans H35'.le
   have H := H.borrow (k := 0) rfl H35'
   refine ⟨_, Z, ?_⟩
   have hma35 : 0 ≤ ((k : Int) / 8) * (x35 : Int) := Int.mul_nonneg oM oM
   have hmb35 : ((k : Int) / 8) * (x35 : Int) ≤ 4 * (x35 : Int) := Int.mul_le_mul_of_nonneg_right oM oM
   refine o_quo Z Z Z oM oM oM (o_add Z Z Z oO (o_buildSlice H underlying33 sizeOf3 (fun w => ⟨_, zeroValue3 w, Z⟩) Z Z Z Z Z Z Z ?_)); intro b37 w37 hb37 H
   refine o_append1 1 H (sz := 1) (bytes := 8) underlying33 typeInfo3 ⟨_, Z, Z⟩ Z Z Z Z Z Z Z Z Z Z oM Z ?_; intro v38 w38 H
   have hchk38 := hchk30_0.snoc (show intE _ ((x29 : Int) + ((k : Int) / 8) * (x32 : Int) + (x35 : Int) / 5) _ from ⟨rfl, oO⟩) rfl
   obtain ⟨av38, cv38, rfl⟩ := H.accShape (k := 1) rfl
   refine aG Z (R_nil (N_B (N_K (W_region (mV Z (o_add Z Z Z oO (aG Z (R_nil ?_))))))))
   refine N_lp (hJ := ⟨_, _, _, (xs ++ [((x29 : Int) + ((k : Int) / 8) * (x32 : Int) + (x35 : Int) / 5)]), k + 1, p35, _, Z, hle30, H, ?inv, Z⟩) (hm := ?hm)
   case hm => omega
   case inv => exact ⟨hchk38, aN, (by exact ⟨by omega, by simp [hxl], by omega⟩)⟩
  intro hc31'
  try simp only [nrm] at hc31'
  refine W_exit (N_K_exit (N_LP_exit (N_B_same (N_K (W_seq (q2 (mV Z (o_call call38 Z Z (pick_c _ _ H.sub _ _ _ _ _ _ hbs (H.blkIs (k := 0) Z).1 (H.blkIs (k := 0) Z).2 oM _ oO ) ?_))))))))
  rintro _ w40 ⟨G40, _, _, rfl, H40', ⟨p40, x40, hp40, rfl, hxb40, rfl⟩⟩
  have hbs := hbs.up H40'.le
  have hchk30_0 := hchk30_0.up H40'.le
  have H := H.borrow (k := 0) rfl H40'
  refine ⟨_, Z, ?_⟩
  have hma40 : 0 ≤ ((k : Int) / 8) * (x40 : Int) := Int.mul_nonneg oM oM
  have hmb40 : ((k : Int) / 8) * (x40 : Int) ≤ 4 * (x40 : Int) := Int.mul_le_mul_of_nonneg_right oM oM
  refine q3 (W_block (q2 (o_eql Z Z Z (aG Z (q3 ?_)))))
  refine W_cond Z ?_ ?_
  ·intro hc41
   try simp only [nrm] at hc41
   refine q2 (mV Z (o_gtr Z Z Z (q3 ?_)))
   refine W_cond Z ?_ ?_
   ·intro hc42
    try simp only [nrm] at hc42
    refine W_region (mV Z (mV Z (mV Z (o_call call38 Z Z (pick_c _ _ H.sub _ _ _ _ _ _ hbs (H.blkIs (k := 0) Z).1 (H.blkIs (k := 0) Z).2 oM _ oO ) ?_))))
    rintro _ w43 ⟨G43, _, _, rfl, H43', ⟨p43, x43, hp43, rfl, hxb43, rfl⟩⟩
    have hchk30_0 := hchk30_0.up H43'.le
    have H := H.borrow (k := 0) rfl H43'
    refine ⟨_, Z, ?_⟩
    have hma43 : 0 ≤ ((k : Int) / 8) * (x43 : Int) := Int.mul_nonneg oM oM
    have hmb43 : ((k : Int) / 8) * (x43 : Int) ≤ 4 * (x43 : Int) := Int.mul_le_mul_of_nonneg_right oM oM
    refine o_index_A 1 H x43 Z hchk30_0 underlying33 sizeOf3 Z Z Z Z aN aN ?_; intro ba44 z44 q44 hba44 hz44 hE44 hg44; cases hba44
    obtain ⟨rfl, hi44⟩ := hE44
    have hcl45 := hchk30_0.length
    refine o_store_A 1 H sizeOf3 Z Z Z Z Z (by simp only [vc, List.length_cons, List.length_nil]; omega) ?_; intro w45 H
    have hchk45 := hchk30_0.put (x' := 256) (off := 0) (vs := [_]) hz44 (fun cs hl hE => by obtain ⟨rfl, _⟩ := hE; exact ⟨rfl, oO⟩) (by simp only [vc, List.length_cons, List.length_nil]; omega)
    refine R_nil (N_B (N_K (q2 (mV Z (aG Z (q3 (W_ret (rt1 results60 Z ?_))))))))
    have H := H.toFront (k := 1) rfl
    have hcx := hchk45
    exact H.retM ⟨_, (xs.set x43 256), _, _, oM, rfl, hcx, (by first | (simp; done) | (simp; omega) | (simp at *; omega) | omega), acc_1 aN⟩
   intro hc42'
   try simp only [nrm] at hc42'
   refine W_skip (N_B (N_K (q2 (mV Z (aG Z (q3 (W_ret (rt1 results60 Z ?_))))))))
   have H := H.toFront (k := 1) rfl
   have hcx := hchk30_0
   exact H.retM ⟨_, xs, _, _, oM, rfl, hcx, (by first | (simp; done) | (simp; omega) | (simp at *; omega) | omega), acc_1 aN⟩
  intro hc41'
  try simp only [nrm] at hc41'
  refine q2 (o_eql Z Z Z (aG Z (q3 ?_)))
  refine W_cond Z ?_ ?_
  ·intro hc46
   try simp only [nrm] at hc46
   refine q2 (o_makeN (c := 33) (sz := 1) (bytes := 8) H underlying33 typeInfo3 ⟨_, Z, Z⟩ Z Z Z Z Z Z Z Z Z oM Z ?_); intro b47 w47 H
   have hchk47 := Chk.rep (E := intE) (sz := 1) (G := G40) (x0 := 0) (⟨rfl, by decide⟩) rfl (33)
   refine aG Z (q3 (W_ret (N_B_ret (N_K_ret (rt1 results60 Z ?_)))))
   have H := H.del (k := 2) rfl
   have H := H.toFront (k := 1) rfl
   have H := H.toFront (k := 1) rfl
   have hcx := hchk47
   exact H.retM ⟨_, (List.replicate (33) 0), _, _, oM, rfl, hcx, (by first | (simp; done) | (simp; omega) | (simp at *; omega) | omega), acc_1 aN⟩
  intro hc46'
  try simp only [nrm] at hc46'
  refine W_skip (N_B (N_K (q2 (mV Z (aG Z (q3 (W_ret (rt1 results60 Z ?_))))))))
  have H := H.toFront (k := 1) rfl
  have hcx := hchk30_0
  exact H.retM ⟨_, xs, _, _, oM, rfl, hcx, (by first | (simp; done) | (simp; omega) | (simp at *; omega) | omega), acc_1 aN⟩
end Go.Proofs.Tst

namespace Go.Proofs.Tst
open Go Fw Tryz
theorem l91Step_c (w0 : World) (G0 : PH) (hG : PSub G0 w0) (rb : Nat) (ab : Option Addr) (mb kb : Nat) (bs : List UInt8) (p : Nat) (hbs : RdU G0 (.slice ab mb kb) bs) (hrb : w0.heap[rb]? = some (cl [.slice ab mb kb, .int .i64 (p : Int)] 118)) (hrn : G0 rb = none) (hp : p ≤ 100000000) (cu : List Value) (u : BVol) (hu : volE G0 u cu)  :
  Calls Tryz.prog 137 #[.pointer (some ⟨rb, 0, none⟩), .agg cu.toArray] w0 (RetM w0 G0 [rb] (fun G val Bs => ∃ (p' : Nat) (v1 v2 : Value) (st : List BHeld) (tr : List BItem) (b : Bool) (c : List Value), p' ≤ p + 200 ∧ val = .tuple #[.agg #[v1, v2], .bool b] ∧ Chk heldE 3 G c st ∧ st.length ≤ 16 ∧ RdItems G v2 tr ∧ Bs = [acc 105 3 v1 st.length c, blk rb (cl [.slice ab mb kb, .int .i64 (p' : Int)] 118)])) := by
 have hlimbs : bs.length ≤ 1099511627776 := hbs.lim; obtain rfl : mb = bs.length := hbs.len
 obtain ⟨a1, m1, c1, a1', m1', c1', rfl, hr1, hr1'⟩ := hu; have hn_hr1 := hr1.len; have hx_hr1 : _ ≤ 1099511627776 := hr1.lim; have hn_hr1q := hr1'.len; have hx_hr1q : _ ≤ 1099511627776 := hr1'.lim
 have H := Hp.initM hG hrb hrn
 refine calls_of_W (l := [.pointer (some ⟨rb, 0, none⟩), _]) func137 Z ntmps137 Z (q2 (o_box H Z Z Z ?_)); intro b2 w2 hb2 H
 refine o_alloc H zeroValue47 Z Z ?_; intro b3 w3 hb3 H
 refine aG Z (q3 (W_seq (q2 (mV Z (o_call call38 Z Z (pick_c _ _ H.sub _ _ _ _ _ _ hbs (H.blkIs (k := 2) Z).1 (H.blkIs (k := 2) Z).2 oM _ oO ) ?_)))))
 rintro _ w4 ⟨G4, _, _, rfl, H4', ⟨p4, x4, hp4, rfl, hxb4, rfl⟩⟩
 have hbs := hbs.up H4'.le
 have hr1 := hr1.up H4'.le
 have hr1' := hr1'.up H4'.le
 have H := H.borrow (k := 2) rfl H4'
 refine ⟨_, Z, ?_⟩
 refine q3 (W_block (W_seq (q2 (o_eql Z Z Z (aG Z (q3 ?_))))))
 refine W_cond Z ?_ ?_
 ·intro hc5
  try simp only [nrm] at hc5
  refine W_skip (N_K ?_)
  refine W_cond Z ?_ ?_
  ·intro hc6
   try simp only [nrm] at hc6
   refine W_seq (W_drawK [2] 9 H kR Z ?_); intro w7 H; have hd7 := PLe.refl G4
   refine RD_t 0 Z kR Z (fun _ hK => v_loadagg_B 0 hK isAgg47 sizeOf47 Z Z Z Z) (vM 1 Z Z ?_)
   refine RD_run [2] kR Z (RDs.cons Z ?_ RDs.nil)
   refine o_buildSlice H underlying69 sizeOf9 (fun w => ⟨_, zeroValue9 w, Z⟩) Z Z Z Z Z Z Z ?_; intro b8 w8 hb8 H
   refine R_nil (N_DK (Kn.of' H hd7 (SubL.cons 3 Z SubL.nil)) ?_)
   refine RD_run [3] kR Z (RDs.cons Z ?_ RDs.nil)
   have H := H.blkAcc 1 (k := 0) (n := 3) rfl rfl (by decide)
   have hchk10 := ((((Chk.nil (E := strE) (sz := 1) (G := G4)).snoc (show strE _ ([97] : Fw.Bs) [str [97]] from ⟨rfl, by decide⟩) rfl).snoc (show strE _ ([98] : Fw.Bs) [str [98]] from ⟨rfl, by decide⟩) rfl).snoc (show strE _ ([97, 47, 120] : Fw.Bs) [str [97, 47, 120]] from ⟨rfl, by decide⟩) rfl)
   obtain ⟨G11, H, hsg11, hsr11⟩ := H.shutM (k := 0) (j := 0) rfl rfl hchk10 aN aN
   have hbs := hbs.up hsg11
   have hr1 := hr1.up hsg11
   have hr1' := hr1'.up hsg11
   have hd7 := hd7.trans hsg11
   refine o_call call39 Z Z (of_c _ _ H.sub _ _ _ _ _ _ hbs (H.blkIs (k := 0) Z).1 (H.blkIs (k := 0) Z).2 oM _ _ hsr11 (by first | decide | (simp; done) | (simp; omega))) ?_
   rintro _ w9 ⟨G9, _, _, rfl, H9', ⟨p9, x9, hp9, rfl, hxs9, rfl⟩⟩
   have hr1 := hr1.up H9'.le
   have hr1' := hr1'.up H9'.le
   have hd7 := hd7.trans H9'.le
   have H := H.borrow (k := 0) rfl H9'
   refine ⟨_, Z, ?_⟩
   refine R_nil (N_DK (Kn.of' H hd7 (SubL.cons 2 Z SubL.nil)) ?_)
   refine RD_run [4] kR Z (RDs.cons Z ?_ RDs.nil)
   refine o_call call170 Z Z (VolumeDir_c _ _ H.sub _ u ⟨_, _, _, _, _, _, Z, hr1, hr1'⟩ _ hxs9 ) ?_
   rintro _ w12 ⟨G12, _, _, g12, rfl, ⟨u12_0, u12_1, rfl, ⟨cs12, rfl, hchk12⟩, hr12_1⟩, hp12, hq12, hs12⟩
   have H := H.growO g12 hp12 hq12 hs12; obtain ⟨av12, cv12, rfl⟩ := H.accShape (k := 0) rfl
   have hd7 := hd7.trans g12.le
   obtain ⟨a12_1, k12_1, rfl⟩ := hr12_1.shape; have hx_hr12_1 : _ ≤ 1099511627776 := hr12_1.lim
   refine ⟨_, Z, ?_⟩
   refine R_nil (N_DK (Kn.of' H hd7 (SubL.cons 3 Z SubL.nil)) (RD_t 5 Z kR Z (fun _ hK => v_extract Z Z) (RD_t 6 Z kR Z (fun _ hK => v_extract Z Z) ?_)))
   refine RD_run [7] kR Z (RDs.cons Z ?_ RDs.nil)
   refine o_store_B 2 H sizeOf47 Z Z Z Z Z Z Z Z ?_; intro w13 H
   refine R_nil (N_DK (Kn.of' H hd7 (SubL.cons 3 Z SubL.nil)) (RD_t 8 Z kR Z (fun _ hK => v_assign Z) (RD_done kR (N_K (W_ret (N_B_ret (N_K_ret (ret_gen (rs := [.cell 4 47, .tmp 5]) (vs := [_, _]) results137 ⟨⟨_, Z, load_blk 2 H isAgg47 sizeOf47 Z Z Z⟩, Z, trivial⟩ ?_))))))))
   have H := H.del (k := 2) rfl
   have H := H.del (k := 2) rfl
   have H := H.toFront (k := 1) rfl
   have H := H.toFront (k := 1) rfl
   exact H.retM ⟨_, _, _, _, _, _, _, oM, Z, hchk12, Sp.vol_len (fun u2 h2 => Sp.dir_valid h2), hr12_1, acc_1 Z⟩
  intro hc6'
  try simp only [nrm] at hc6'
  refine q2 (o_eql Z Z Z (aG Z (q3 ?_)))
  refine W_cond Z ?_ ?_
  ·intro hc14
   try simp only [nrm] at hc14
   refine W_seq (W_drawK [2] 8 H kR Z ?_); intro w15 H; have hd15 := PLe.refl G4
   refine RD_t 0 Z kR Z (fun _ hK => v_loadagg_B 0 hK isAgg47 sizeOf47 Z Z Z Z) (vM 1 Z Z ?_)
   refine RD_run [2] kR Z (RDs.cons Z ?_ RDs.nil)
   refine o_call call55 Z Z (l91Path_c _ _ H.sub _ _ _ _ _ _ hbs (H.blkIs (k := 0) Z).1 (H.blkIs (k := 0) Z).2 oM ) ?_
   rintro _ w16 ⟨G16, _, _, rfl, H16', ⟨p16, x16, hp16, rfl, hxs16, rfl⟩⟩
   have hr1 := hr1.up H16'.le
   have hr1' := hr1'.up H16'.le
   have hd15 := hd15.trans H16'.le
   have H := H.borrow (k := 0) rfl H16'
   refine ⟨_, Z, ?_⟩
   refine R_nil (N_DK (Kn.of' H hd15 (SubL.cons 2 Z SubL.nil)) ?_)
   refine RD_run [3] kR Z (RDs.cons Z ?_ RDs.nil)
   refine o_call call171 Z Z (VolumeDrop_c _ _ H.sub _ u ⟨_, _, _, _, _, _, Z, hr1, hr1'⟩ _ hxs16 ) ?_
   rintro _ w17 ⟨G17, _, _, g17, rfl, ⟨u17_0, u17_1, rfl, ⟨cs17, rfl, hchk17⟩, hr17_1⟩, hp17, hq17, hs17⟩
   have H := H.growO g17 hp17 hq17 hs17; obtain ⟨av17, cv17, rfl⟩ := H.accShape (k := 0) rfl
   have hd15 := hd15.trans g17.le
   obtain ⟨a17_1, k17_1, rfl⟩ := hr17_1.shape; have hx_hr17_1 : _ ≤ 1099511627776 := hr17_1.lim
   refine ⟨_, Z, ?_⟩
   refine R_nil (N_DK (Kn.of' H hd15 (SubL.cons 3 Z SubL.nil)) (RD_t 4 Z kR Z (fun _ hK => v_extract Z Z) (RD_t 5 Z kR Z (fun _ hK => v_extract Z Z) ?_)))
   refine RD_run [6] kR Z (RDs.cons Z ?_ RDs.nil)
   refine o_store_B 2 H sizeOf47 Z Z Z Z Z Z Z Z ?_; intro w18 H
   refine R_nil (N_DK (Kn.of' H hd15 (SubL.cons 3 Z SubL.nil)) (RD_t 7 Z kR Z (fun _ hK => v_assign Z) (RD_done kR (N_K (W_ret (N_B_ret (N_K_ret (ret_gen (rs := [.cell 4 47, .tmp 5]) (vs := [_, _]) results137 ⟨⟨_, Z, load_blk 2 H isAgg47 sizeOf47 Z Z Z⟩, Z, trivial⟩ ?_))))))))
   have H := H.del (k := 2) rfl
   have H := H.del (k := 2) rfl
   have H := H.toFront (k := 1) rfl
   have H := H.toFront (k := 1) rfl
   exact H.retM ⟨_, _, _, _, _, _, _, oM, Z, hchk17, Sp.vol_len (fun u2 h2 => Sp.drop_valid h2), hr17_1, acc_1 Z⟩
  intro hc14'
  try simp only [nrm] at hc14'
  refine W_skip (N_B (N_K (q2 (mV Z (o_buildSlice H underlying69 sizeOf9 (fun w => ⟨_, zeroValue9 w, Z⟩) Z Z Z Z Z Z Z ?_))))); intro b19 w19 hb19 H
  have H := H.blkAcc 1 (k := 0) (n := 5) rfl rfl (by decide)
  have hchk21 := ((((((Chk.nil (E := strE) (sz := 1) (G := G4)).snoc (show strE _ ([99] : Fw.Bs) [str [99]] from ⟨rfl, by decide⟩) rfl).snoc (show strE _ ([97, 47, 121] : Fw.Bs) [str [97, 47, 121]] from ⟨rfl, by decide⟩) rfl).snoc (show strE _ ([98, 47, 120] : Fw.Bs) [str [98, 47, 120]] from ⟨rfl, by decide⟩) rfl).snoc (show strE _ ([97, 47, 120, 47, 112] : Fw.Bs) [str [97, 47, 120, 47, 112]] from ⟨rfl, by decide⟩) rfl).snoc (show strE _ ([100] : Fw.Bs) [str [100]] from ⟨rfl, by decide⟩) rfl)
  obtain ⟨G22, H, hsg22, hsr22⟩ := H.shutM (k := 0) (j := 0) rfl rfl hchk21 aN aN
  have hbs := hbs.up hsg22
  have hr1 := hr1.up hsg22
  have hr1' := hr1'.up hsg22
  refine o_call call39 Z Z (of_c _ _ H.sub _ _ _ _ _ _ hbs (H.blkIs (k := 0) Z).1 (H.blkIs (k := 0) Z).2 oM _ _ hsr22 (by first | decide | (simp; done) | (simp; omega))) ?_
  rintro _ w20 ⟨G20, _, _, rfl, H20', ⟨p20, x20, hp20, rfl, hxs20, rfl⟩⟩
  have hbs := hbs.up H20'.le
  have hr1 := hr1.up H20'.le
  have hr1' := hr1'.up H20'.le
  have H := H.borrow (k := 0) rfl H20'
  refine ⟨_, Z, ?_⟩
  refine aG Z (q3 (W_seq (W_drawK [2] 9 H kR Z ?_))); intro w23 H; have hd23 := PLe.refl G20
  refine RD_t 0 Z kR Z (fun _ hK => v_loadagg_B 0 hK isAgg47 sizeOf47 Z Z Z Z) (vM 1 Z Z (vM 2 Z Z ?_))
  refine RD_run [3] kR Z (RDs.cons Z ?_ RDs.nil)
  refine o_call call60 Z Z (l91File_c _ _ H.sub _ _ _ _ _ _ hbs (H.blkIs (k := 0) Z).1 (H.blkIs (k := 0) Z).2 oM ) ?_
  rintro _ w24 ⟨G24, _, _, rfl, H24', ⟨p24, x24, v24, c24, hp24, rfl, hchk24, hxl24, rfl⟩⟩
  have hr1 := hr1.up H24'.le
  have hr1' := hr1'.up H24'.le
  have hd23 := hd23.trans H24'.le
  have H := H.borrow (k := 0) rfl H24'
  obtain ⟨av24, cv24, rfl⟩ := H.accShape (k := 0) rfl
  refine ⟨_, Z, ?_⟩
  refine R_nil (N_DK (Kn.of' H hd23 (SubL.cons 3 Z SubL.nil)) ?_)
  refine RD_run [4] kR Z (RDs.cons Z ?_ RDs.nil)
  obtain ⟨G26, H, hsg26, hsr26⟩ := H.shutM (k := 0) (j := 0) rfl rfl hchk24 aN aN
  have hr1 := hr1.up hsg26
  have hr1' := hr1'.up hsg26
  have hd23 := hd23.trans hsg26
  refine o_call call172 Z Z (VolumeWrite_c _ _ H.sub _ u ⟨_, _, _, _, _, _, Z, hr1, hr1'⟩ _ hxs20 _ _ hsr26 ) ?_
  rintro _ w25 ⟨G25, _, _, g25, rfl, ⟨u25_0, u25_1, rfl, ⟨cs25, rfl, hchk25⟩, hr25_1⟩, hp25, hq25, hs25⟩
  have H := H.growO g25 hp25 hq25 hs25; obtain ⟨av25, cv25, rfl⟩ := H.accShape (k := 0) rfl
  have hd23 := hd23.trans g25.le
  obtain ⟨a25_1, k25_1, rfl⟩ := hr25_1.shape; have hx_hr25_1 : _ ≤ 1099511627776 := hr25_1.lim
  refine ⟨_, Z, ?_⟩
  refine R_nil (N_DK (Kn.of' H hd23 (SubL.cons 3 Z SubL.nil)) (RD_t 5 Z kR Z (fun _ hK => v_extract Z Z) (RD_t 6 Z kR Z (fun _ hK => v_extract Z Z) ?_)))
  refine RD_run [7] kR Z (RDs.cons Z ?_ RDs.nil)
  refine o_store_B 2 H sizeOf47 Z Z Z Z Z Z Z Z ?_; intro w27 H
  refine R_nil (N_DK (Kn.of' H hd23 (SubL.cons 3 Z SubL.nil)) (RD_t 8 Z kR Z (fun _ hK => v_assign Z) (RD_done kR (N_K (W_ret (ret_gen (rs := [.cell 4 47, .tmp 5]) (vs := [_, _]) results137 ⟨⟨_, Z, load_blk 2 H isAgg47 sizeOf47 Z Z Z⟩, Z, trivial⟩ ?_))))))
  have H := H.del (k := 2) rfl
  have H := H.del (k := 2) rfl
  have H := H.toFront (k := 1) rfl
  have H := H.toFront (k := 1) rfl
  exact H.retM ⟨_, _, _, _, _, _, _, oM, Z, hchk25, Sp.vol_len (fun u2 h2 => Sp.vwrite_valid h2), hr25_1, acc_1 Z⟩
 intro hc5'
 try simp only [nrm] at hc5'
 refine q2 (o_eql Z Z Z (aG Z (q3 ?_)))
 refine W_cond Z ?_ ?_
 ·intro hc28
  try simp only [nrm] at hc28
  refine W_skip (N_K ?_)
  refine W_cond Z ?_ ?_
  ·intro hc29
   try simp only [nrm] at hc29
   refine W_seq (W_drawK [2] 9 H kR Z ?_); intro w30 H; have hd30 := PLe.refl G4
   refine RD_t 0 Z kR Z (fun _ hK => v_loadagg_B 0 hK isAgg47 sizeOf47 Z Z Z Z) (vM 1 Z Z ?_)
   refine RD_run [2] kR Z (RDs.cons Z ?_ RDs.nil)
   refine o_buildSlice H underlying69 sizeOf9 (fun w => ⟨_, zeroValue9 w, Z⟩) Z Z Z Z Z Z Z ?_; intro b31 w31 hb31 H
   refine R_nil (N_DK (Kn.of' H hd30 (SubL.cons 3 Z SubL.nil)) ?_)
   refine RD_run [3] kR Z (RDs.cons Z ?_ RDs.nil)
   have H := H.blkAcc 1 (k := 0) (n := 3) rfl rfl (by decide)
   have hchk33 := ((((Chk.nil (E := strE) (sz := 1) (G := G4)).snoc (show strE _ ([97] : Fw.Bs) [str [97]] from ⟨rfl, by decide⟩) rfl).snoc (show strE _ ([98] : Fw.Bs) [str [98]] from ⟨rfl, by decide⟩) rfl).snoc (show strE _ ([97, 47, 120] : Fw.Bs) [str [97, 47, 120]] from ⟨rfl, by decide⟩) rfl)
   obtain ⟨G34, H, hsg34, hsr34⟩ := H.shutM (k := 0) (j := 0) rfl rfl hchk33 aN aN
   have hbs := hbs.up hsg34
   have hr1 := hr1.up hsg34
   have hr1' := hr1'.up hsg34
   have hd30 := hd30.trans hsg34
   refine o_call call39 Z Z (of_c _ _ H.sub _ _ _ _ _ _ hbs (H.blkIs (k := 0) Z).1 (H.blkIs (k := 0) Z).2 oM _ _ hsr34 (by first | decide | (simp; done) | (simp; omega))) ?_
   rintro _ w32 ⟨G32, _, _, rfl, H32', ⟨p32, x32, hp32, rfl, hxs32, rfl⟩⟩
   have hr1 := hr1.up H32'.le
   have hr1' := hr1'.up H32'.le
   have hd30 := hd30.trans H32'.le
   have H := H.borrow (k := 0) rfl H32'
   refine ⟨_, Z, ?_⟩
   refine R_nil (N_DK (Kn.of' H hd30 (SubL.cons 2 Z SubL.nil)) ?_)
   refine RD_run [4] kR Z (RDs.cons Z ?_ RDs.nil)
   refine o_call call170 Z Z (VolumeDir_c _ _ H.sub _ u ⟨_, _, _, _, _, _, Z, hr1, hr1'⟩ _ hxs32 ) ?_
   rintro _ w35 ⟨G35, _, _, g35, rfl, ⟨u35_0, u35_1, rfl, ⟨cs35, rfl, hchk35⟩, hr35_1⟩, hp35, hq35, hs35⟩
   have H := H.growO g35 hp35 hq35 hs35; obtain ⟨av35, cv35, rfl⟩ := H.accShape (k := 0) rfl
   have hd30 := hd30.trans g35.le
   obtain ⟨a35_1, k35_1, rfl⟩ := hr35_1.shape; have hx_hr35_1 : _ ≤ 1099511627776 := hr35_1.lim
   refine ⟨_, Z, ?_⟩
   refine R_nil (N_DK (Kn.of' H hd30 (SubL.cons 3 Z SubL.nil)) (RD_t 5 Z kR Z (fun _ hK => v_extract Z Z) (RD_t 6 Z kR Z (fun _ hK => v_extract Z Z) ?_)))
   refine RD_run [7] kR Z (RDs.cons Z ?_ RDs.nil)
   refine o_store_B 2 H sizeOf47 Z Z Z Z Z Z Z Z ?_; intro w36 H
   refine R_nil (N_DK (Kn.of' H hd30 (SubL.cons 3 Z SubL.nil)) (RD_t 8 Z kR Z (fun _ hK => v_assign Z) (RD_done kR (N_K (W_ret (N_B_ret (N_K_ret (ret_gen (rs := [.cell 4 47, .tmp 5]) (vs := [_, _]) results137 ⟨⟨_, Z, load_blk 2 H isAgg47 sizeOf47 Z Z Z⟩, Z, trivial⟩ ?_))))))))
   have H := H.del (k := 2) rfl
   have H := H.del (k := 2) rfl
   have H := H.toFront (k := 1) rfl
   have H := H.toFront (k := 1) rfl
   exact H.retM ⟨_, _, _, _, _, _, _, oM, Z, hchk35, Sp.vol_len (fun u2 h2 => Sp.dir_valid h2), hr35_1, acc_1 Z⟩
  intro hc29'
  try simp only [nrm] at hc29'
  refine q2 (o_eql Z Z Z (aG Z (q3 ?_)))
  refine W_cond Z ?_ ?_
  ·intro hc37
   try simp only [nrm] at hc37
   refine W_seq (W_drawK [2] 8 H kR Z ?_); intro w38 H; have hd38 := PLe.refl G4
   refine RD_t 0 Z kR Z (fun _ hK => v_loadagg_B 0 hK isAgg47 sizeOf47 Z Z Z Z) (vM 1 Z Z ?_)
   refine RD_run [2] kR Z (RDs.cons Z ?_ RDs.nil)
   refine o_call call55 Z Z (l91Path_c _ _ H.sub _ _ _ _ _ _ hbs (H.blkIs (k := 0) Z).1 (H.blkIs (k := 0) Z).2 oM ) ?_
   rintro _ w39 ⟨G39, _, _, rfl, H39', ⟨p39, x39, hp39, rfl, hxs39, rfl⟩⟩
   have hr1 := hr1.up H39'.le
   have hr1' := hr1'.up H39'.le
   have hd38 := hd38.trans H39'.le
   have H := H.borrow (k := 0) rfl H39'
   refine ⟨_, Z, ?_⟩
   refine R_nil (N_DK (Kn.of' H hd38 (SubL.cons 2 Z SubL.nil)) ?_)
   refine RD_run [3] kR Z (RDs.cons Z ?_ RDs.nil)
   refine o_call call171 Z Z (VolumeDrop_c _ _ H.sub _ u ⟨_, _, _, _, _, _, Z, hr1, hr1'⟩ _ hxs39 ) ?_
   rintro _ w40 ⟨G40, _, _, g40, rfl, ⟨u40_0, u40_1, rfl, ⟨cs40, rfl, hchk40⟩, hr40_1⟩, hp40, hq40, hs40⟩
   have H := H.growO g40 hp40 hq40 hs40; obtain ⟨av40, cv40, rfl⟩ := H.accShape (k := 0) rfl
   have hd38 := hd38.trans g40.le
   obtain ⟨a40_1, k40_1, rfl⟩ := hr40_1.shape; have hx_hr40_1 : _ ≤ 1099511627776 := hr40_1.lim
   refine ⟨_, Z, ?_⟩
   refine R_nil (N_DK (Kn.of' H hd38 (SubL.cons 3 Z SubL.nil)) (RD_t 4 Z kR Z (fun _ hK => v_extract Z Z) (RD_t 5 Z kR Z (fun _ hK => v_extract Z Z) ?_)))
   refine RD_run [6] kR Z (RDs.cons Z ?_ RDs.nil)
   refine o_store_B 2 H sizeOf47 Z Z Z Z Z Z Z Z ?_; intro w41 H
   refine R_nil (N_DK (Kn.of' H hd38 (SubL.cons 3 Z SubL.nil)) (RD_t 7 Z kR Z (fun _ hK => v_assign Z) (RD_done kR (N_K (W_ret (N_B_ret (N_K_ret (ret_gen (rs := [.cell 4 47, .tmp 5]) (vs := [_, _]) results137 ⟨⟨_, Z, load_blk 2 H isAgg47 sizeOf47 Z Z Z⟩, Z, trivial⟩ ?_))))))))
   have H := H.del (k := 2) rfl
   have H := H.del (k := 2) rfl
   have H := H.toFront (k := 1) rfl
   have H := H.toFront (k := 1) rfl
   exact H.retM ⟨_, _, _, _, _, _, _, oM, Z, hchk40, Sp.vol_len (fun u2 h2 => Sp.drop_valid h2), hr40_1, acc_1 Z⟩
  intro hc37'
  try simp only [nrm] at hc37'
  refine W_skip (N_B (N_K (q2 (mV Z (o_buildSlice H underlying69 sizeOf9 (fun w => ⟨_, zeroValue9 w, Z⟩) Z Z Z Z Z Z Z ?_))))); intro b42 w42 hb42 H
  have H := H.blkAcc 1 (k := 0) (n := 5) rfl rfl (by decide)
  have hchk44 := ((((((Chk.nil (E := strE) (sz := 1) (G := G4)).snoc (show strE _ ([99] : Fw.Bs) [str [99]] from ⟨rfl, by decide⟩) rfl).snoc (show strE _ ([97, 47, 121] : Fw.Bs) [str [97, 47, 121]] from ⟨rfl, by decide⟩) rfl).snoc (show strE _ ([98, 47, 120] : Fw.Bs) [str [98, 47, 120]] from ⟨rfl, by decide⟩) rfl).snoc (show strE _ ([97, 47, 120, 47, 112] : Fw.Bs) [str [97, 47, 120, 47, 112]] from ⟨rfl, by decide⟩) rfl).snoc (show strE _ ([100] : Fw.Bs) [str [100]] from ⟨rfl, by decide⟩) rfl)
  obtain ⟨G45, H, hsg45, hsr45⟩ := H.shutM (k := 0) (j := 0) rfl rfl hchk44 aN aN
  have hbs := hbs.up hsg45
  have hr1 := hr1.up hsg45
  have hr1' := hr1'.up hsg45
  refine o_call call39 Z Z (of_c _ _ H.sub _ _ _ _ _ _ hbs (H.blkIs (k := 0) Z).1 (H.blkIs (k := 0) Z).2 oM _ _ hsr45 (by first | decide | (simp; done) | (simp; omega))) ?_
  rintro _ w43 ⟨G43, _, _, rfl, H43', ⟨p43, x43, hp43, rfl, hxs43, rfl⟩⟩
  have hbs := hbs.up H43'.le
  have hr1 := hr1.up H43'.le
  have hr1' := hr1'.up H43'.le
  have H := H.borrow (k := 0) rfl H43'
  refine ⟨_, Z, ?_⟩
  refine aG Z (q3 (W_seq (W_drawK [2] 9 H kR Z ?_))); intro w46 H; have hd46 := PLe.refl G43
  refine RD_t 0 Z kR Z (fun _ hK => v_loadagg_B 0 hK isAgg47 sizeOf47 Z Z Z Z) (vM 1 Z Z (vM 2 Z Z ?_))
  refine RD_run [3] kR Z (RDs.cons Z ?_ RDs.nil)
  refine o_call call60 Z Z (l91File_c _ _ H.sub _ _ _ _ _ _ hbs (H.blkIs (k := 0) Z).1 (H.blkIs (k := 0) Z).2 oM ) ?_
  rintro _ w47 ⟨G47, _, _, rfl, H47', ⟨p47, x47, v47, c47, hp47, rfl, hchk47, hxl47, rfl⟩⟩
  have hr1 := hr1.up H47'.le
  have hr1' := hr1'.up H47'.le
  have hd46 := hd46.trans H47'.le
  have H := H.borrow (k := 0) rfl H47'
  obtain ⟨av47, cv47, rfl⟩ := H.accShape (k := 0) rfl
  refine ⟨_, Z, ?_⟩
  refine R_nil (N_DK (Kn.of' H hd46 (SubL.cons 3 Z SubL.nil)) ?_)
  refine RD_run [4] kR Z (RDs.cons Z ?_ RDs.nil)
  obtain ⟨G49, H, hsg49, hsr49⟩ := H.shutM (k := 0) (j := 0) rfl rfl hchk47 aN aN
  have hr1 := hr1.up hsg49
  have hr1' := hr1'.up hsg49
  have hd46 := hd46.trans hsg49
  refine o_call call172 Z Z (VolumeWrite_c _ _ H.sub _ u ⟨_, _, _, _, _, _, Z, hr1, hr1'⟩ _ hxs43 _ _ hsr49 ) ?_
  rintro _ w48 ⟨G48, _, _, g48, rfl, ⟨u48_0, u48_1, rfl, ⟨cs48, rfl, hchk48⟩, hr48_1⟩, hp48, hq48, hs48⟩
  have H := H.growO g48 hp48 hq48 hs48; obtain ⟨av48, cv48, rfl⟩ := H.accShape (k := 0) rfl
  have hd46 := hd46.trans g48.le
  obtain ⟨a48_1, k48_1, rfl⟩ := hr48_1.shape; have hx_hr48_1 : _ ≤ 1099511627776 := hr48_1.lim
  refine ⟨_, Z, ?_⟩
  refine R_nil (N_DK (Kn.of' H hd46 (SubL.cons 3 Z SubL.nil)) (RD_t 5 Z kR Z (fun _ hK => v_extract Z Z) (RD_t 6 Z kR Z (fun _ hK => v_extract Z Z) ?_)))
  refine RD_run [7] kR Z (RDs.cons Z ?_ RDs.nil)
  refine o_store_B 2 H sizeOf47 Z Z Z Z Z Z Z Z ?_; intro w50 H
  refine R_nil (N_DK (Kn.of' H hd46 (SubL.cons 3 Z SubL.nil)) (RD_t 8 Z kR Z (fun _ hK => v_assign Z) (RD_done kR (N_K (W_ret (ret_gen (rs := [.cell 4 47, .tmp 5]) (vs := [_, _]) results137 ⟨⟨_, Z, load_blk 2 H isAgg47 sizeOf47 Z Z Z⟩, Z, trivial⟩ ?_))))))
  have H := H.del (k := 2) rfl
  have H := H.del (k := 2) rfl
  have H := H.toFront (k := 1) rfl
  have H := H.toFront (k := 1) rfl
  exact H.retM ⟨_, _, _, _, _, _, _, oM, Z, hchk48, Sp.vol_len (fun u2 h2 => Sp.vwrite_valid h2), hr48_1, acc_1 Z⟩
 intro hc28'
 try simp only [nrm] at hc28'
 refine W_region (o_eql Z Z Z (aG Z (q3 ?_)))
 refine W_cond Z ?_ ?_
 ·intro hc51
  try simp only [nrm] at hc51
  refine W_seq (W_drawK [2] 9 H kR Z ?_); intro w52 H; have hd52 := PLe.refl G4
  refine RD_t 0 Z kR Z (fun _ hK => v_loadagg_B 0 hK isAgg47 sizeOf47 Z Z Z Z) (vM 1 Z Z ?_)
  refine RD_run [2] kR Z (RDs.cons Z ?_ RDs.nil)
  refine o_buildSlice H underlying69 sizeOf9 (fun w => ⟨_, zeroValue9 w, Z⟩) Z Z Z Z Z Z Z ?_; intro b53 w53 hb53 H
  refine R_nil (N_DK (Kn.of' H hd52 (SubL.cons 3 Z SubL.nil)) ?_)
  refine RD_run [3] kR Z (RDs.cons Z ?_ RDs.nil)
  have H := H.blkAcc 1 (k := 0) (n := 3) rfl rfl (by decide)
  have hchk55 := ((((Chk.nil (E := strE) (sz := 1) (G := G4)).snoc (show strE _ ([97] : Fw.Bs) [str [97]] from ⟨rfl, by decide⟩) rfl).snoc (show strE _ ([98] : Fw.Bs) [str [98]] from ⟨rfl, by decide⟩) rfl).snoc (show strE _ ([97, 47, 120] : Fw.Bs) [str [97, 47, 120]] from ⟨rfl, by decide⟩) rfl)
  obtain ⟨G56, H, hsg56, hsr56⟩ := H.shutM (k := 0) (j := 0) rfl rfl hchk55 aN aN
  have hbs := hbs.up hsg56
  have hr1 := hr1.up hsg56
  have hr1' := hr1'.up hsg56
  have hd52 := hd52.trans hsg56
  refine o_call call39 Z Z (of_c _ _ H.sub _ _ _ _ _ _ hbs (H.blkIs (k := 0) Z).1 (H.blkIs (k := 0) Z).2 oM _ _ hsr56 (by first | decide | (simp; done) | (simp; omega))) ?_
  rintro _ w54 ⟨G54, _, _, rfl, H54', ⟨p54, x54, hp54, rfl, hxs54, rfl⟩⟩
  have hr1 := hr1.up H54'.le
  have hr1' := hr1'.up H54'.le
  have hd52 := hd52.trans H54'.le
  have H := H.borrow (k := 0) rfl H54'
  refine ⟨_, Z, ?_⟩
  refine R_nil (N_DK (Kn.of' H hd52 (SubL.cons 2 Z SubL.nil)) ?_)
  refine RD_run [4] kR Z (RDs.cons Z ?_ RDs.nil)
  refine o_call call170 Z Z (VolumeDir_c _ _ H.sub _ u ⟨_, _, _, _, _, _, Z, hr1, hr1'⟩ _ hxs54 ) ?_
  rintro _ w57 ⟨G57, _, _, g57, rfl, ⟨u57_0, u57_1, rfl, ⟨cs57, rfl, hchk57⟩, hr57_1⟩, hp57, hq57, hs57⟩
  have H := H.growO g57 hp57 hq57 hs57; obtain ⟨av57, cv57, rfl⟩ := H.accShape (k := 0) rfl
  have hd52 := hd52.trans g57.le
  obtain ⟨a57_1, k57_1, rfl⟩ := hr57_1.shape; have hx_hr57_1 : _ ≤ 1099511627776 := hr57_1.lim
  refine ⟨_, Z, ?_⟩
  refine R_nil (N_DK (Kn.of' H hd52 (SubL.cons 3 Z SubL.nil)) (RD_t 5 Z kR Z (fun _ hK => v_extract Z Z) (RD_t 6 Z kR Z (fun _ hK => v_extract Z Z) ?_)))
  refine RD_run [7] kR Z (RDs.cons Z ?_ RDs.nil)
  refine o_store_B 2 H sizeOf47 Z Z Z Z Z Z Z Z ?_; intro w58 H
  refine R_nil (N_DK (Kn.of' H hd52 (SubL.cons 3 Z SubL.nil)) (RD_t 8 Z kR Z (fun _ hK => v_assign Z) (RD_done kR (N_K (W_ret (N_B_ret (N_K_ret (ret_gen (rs := [.cell 4 47, .tmp 5]) (vs := [_, _]) results137 ⟨⟨_, Z, load_blk 2 H isAgg47 sizeOf47 Z Z Z⟩, Z, trivial⟩ ?_))))))))
  have H := H.del (k := 2) rfl
  have H := H.del (k := 2) rfl
  have H := H.toFront (k := 1) rfl
  have H := H.toFront (k := 1) rfl
  exact H.retM ⟨_, _, _, _, _, _, _, oM, Z, hchk57, Sp.vol_len (fun u2 h2 => Sp.dir_valid h2), hr57_1, acc_1 Z⟩
 intro hc51'
 try simp only [nrm] at hc51'
 refine q2 (o_eql Z Z Z (aG Z (q3 ?_)))
 refine W_cond Z ?_ ?_
 ·intro hc59
  try simp only [nrm] at hc59
  refine W_seq (W_drawK [2] 8 H kR Z ?_); intro w60 H; have hd60 := PLe.refl G4
  refine RD_t 0 Z kR Z (fun _ hK => v_loadagg_B 0 hK isAgg47 sizeOf47 Z Z Z Z) (vM 1 Z Z ?_)
  refine RD_run [2] kR Z (RDs.cons Z ?_ RDs.nil)
  refine o_call call55 Z Z (l91Path_c _ _ H.sub _ _ _ _ _ _ hbs (H.blkIs (k := 0) Z).1 (H.blkIs (k := 0) Z).2 oM ) ?_
  rintro _ w61 ⟨G61, _, _, rfl, H61', ⟨p61, x61, hp61, rfl, hxs61, rfl⟩⟩
  have hr1 := hr1.up H61'.le
  have hr1' := hr1'.up H61'.le
  have hd60 := hd60.trans H61'.le
  have H := H.borrow (k := 0) rfl H61'
  refine ⟨_, Z, ?_⟩
  refine R_nil (N_DK (Kn.of' H hd60 (SubL.cons 2 Z SubL.nil)) ?_)
  refine RD_run [3] kR Z (RDs.cons Z ?_ RDs.nil)
  refine o_call call171 Z Z (VolumeDrop_c _ _ H.sub _ u ⟨_, _, _, _, _, _, Z, hr1, hr1'⟩ _ hxs61 ) ?_
  rintro _ w62 ⟨G62, _, _, g62, rfl, ⟨u62_0, u62_1, rfl, ⟨cs62, rfl, hchk62⟩, hr62_1⟩, hp62, hq62, hs62⟩
  have H := H.growO g62 hp62 hq62 hs62; obtain ⟨av62, cv62, rfl⟩ := H.accShape (k := 0) rfl
  have hd60 := hd60.trans g62.le
  obtain ⟨a62_1, k62_1, rfl⟩ := hr62_1.shape; have hx_hr62_1 : _ ≤ 1099511627776 := hr62_1.lim
  refine ⟨_, Z, ?_⟩
  refine R_nil (N_DK (Kn.of' H hd60 (SubL.cons 3 Z SubL.nil)) (RD_t 4 Z kR Z (fun _ hK => v_extract Z Z) (RD_t 5 Z kR Z (fun _ hK => v_extract Z Z) ?_)))
  refine RD_run [6] kR Z (RDs.cons Z ?_ RDs.nil)
  refine o_store_B 2 H sizeOf47 Z Z Z Z Z Z Z Z ?_; intro w63 H
  refine R_nil (N_DK (Kn.of' H hd60 (SubL.cons 3 Z SubL.nil)) (RD_t 7 Z kR Z (fun _ hK => v_assign Z) (RD_done kR (N_K (W_ret (N_B_ret (N_K_ret (ret_gen (rs := [.cell 4 47, .tmp 5]) (vs := [_, _]) results137 ⟨⟨_, Z, load_blk 2 H isAgg47 sizeOf47 Z Z Z⟩, Z, trivial⟩ ?_))))))))
  have H := H.del (k := 2) rfl
  have H := H.del (k := 2) rfl
  have H := H.toFront (k := 1) rfl
  have H := H.toFront (k := 1) rfl
  exact H.retM ⟨_, _, _, _, _, _, _, oM, Z, hchk62, Sp.vol_len (fun u2 h2 => Sp.drop_valid h2), hr62_1, acc_1 Z⟩
 intro hc59'
 try simp only [nrm] at hc59'
 refine W_skip (N_B (N_K (q2 (mV Z (o_buildSlice H underlying69 sizeOf9 (fun w => ⟨_, zeroValue9 w, Z⟩) Z Z Z Z Z Z Z ?_))))); intro b64 w64 hb64 H
 have H := H.blkAcc 1 (k := 0) (n := 5) rfl rfl (by decide)
 have hchk66 := ((((((Chk.nil (E := strE) (sz := 1) (G := G4)).snoc (show strE _ ([99] : Fw.Bs) [str [99]] from ⟨rfl, by decide⟩) rfl).snoc (show strE _ ([97, 47, 121] : Fw.Bs) [str [97, 47, 121]] from ⟨rfl, by decide⟩) rfl).snoc (show strE _ ([98, 47, 120] : Fw.Bs) [str [98, 47, 120]] from ⟨rfl, by decide⟩) rfl).snoc (show strE _ ([97, 47, 120, 47, 112] : Fw.Bs) [str [97, 47, 120, 47, 112]] from ⟨rfl, by decide⟩) rfl).snoc (show strE _ ([100] : Fw.Bs) [str [100]] from ⟨rfl, by decide⟩) rfl)
 obtain ⟨G67, H, hsg67, hsr67⟩ := H.shutM (k := 0) (j := 0) rfl rfl hchk66 aN aN
 have hbs := hbs.up hsg67
 have hr1 := hr1.up hsg67
 have hr1' := hr1'.up hsg67
 refine o_call call39 Z Z (of_c _ _ H.sub _ _ _ _ _ _ hbs (H.blkIs (k := 0) Z).1 (H.blkIs (k := 0) Z).2 oM _ _ hsr67 (by first | decide | (simp; done) | (simp; omega))) ?_
 rintro _ w65 ⟨G65, _, _, rfl, H65', ⟨p65, x65, hp65, rfl, hxs65, rfl⟩⟩
 have hbs := hbs.up H65'.le
 have hr1 := hr1.up H65'.le
 have hr1' := hr1'.up H65'.le
 have H := H.borrow (k := 0) rfl H65'
 refine ⟨_, Z, ?_⟩
 refine aG Z (q3 (W_seq (W_drawK [2] 9 H kR Z ?_))); intro w68 H; have hd68 := PLe.refl G65
 refine RD_t 0 Z kR Z (fun _ hK => v_loadagg_B 0 hK isAgg47 sizeOf47 Z Z Z Z) (vM 1 Z Z (vM 2 Z Z ?_))
 refine RD_run [3] kR Z (RDs.cons Z ?_ RDs.nil)
 refine o_call call60 Z Z (l91File_c _ _ H.sub _ _ _ _ _ _ hbs (H.blkIs (k := 0) Z).1 (H.blkIs (k := 0) Z).2 oM ) ?_
 rintro _ w69 ⟨G69, _, _, rfl, H69', ⟨p69, x69, v69, c69, hp69, rfl, hchk69, hxl69, rfl⟩⟩
 have hr1 := hr1.up H69'.le
 have hr1' := hr1'.up H69'.le
 have hd68 := hd68.trans H69'.le
 have H := H.borrow (k := 0) rfl H69'
 obtain ⟨av69, cv69, rfl⟩ := H.accShape (k := 0) rfl
 refine ⟨_, Z, ?_⟩
 refine R_nil (N_DK (Kn.of' H hd68 (SubL.cons 3 Z SubL.nil)) ?_)
 refine RD_run [4] kR Z (RDs.cons Z ?_ RDs.nil)
 obtain ⟨G71, H, hsg71, hsr71⟩ := H.shutM (k := 0) (j := 0) rfl rfl hchk69 aN aN
 have hr1 := hr1.up hsg71
 have hr1' := hr1'.up hsg71
 have hd68 := hd68.trans hsg71
 refine o_call call172 Z Z (VolumeWrite_c _ _ H.sub _ u ⟨_, _, _, _, _, _, Z, hr1, hr1'⟩ _ hxs65 _ _ hsr71 ) ?_
 rintro _ w70 ⟨G70, _, _, g70, rfl, ⟨u70_0, u70_1, rfl, ⟨cs70, rfl, hchk70⟩, hr70_1⟩, hp70, hq70, hs70⟩
 have H := H.growO g70 hp70 hq70 hs70; obtain ⟨av70, cv70, rfl⟩ := H.accShape (k := 0) rfl
 have hd68 := hd68.trans g70.le
 obtain ⟨a70_1, k70_1, rfl⟩ := hr70_1.shape; have hx_hr70_1 : _ ≤ 1099511627776 := hr70_1.lim
 refine ⟨_, Z, ?_⟩
 refine R_nil (N_DK (Kn.of' H hd68 (SubL.cons 3 Z SubL.nil)) (RD_t 5 Z kR Z (fun _ hK => v_extract Z Z) (RD_t 6 Z kR Z (fun _ hK => v_extract Z Z) ?_)))
 refine RD_run [7] kR Z (RDs.cons Z ?_ RDs.nil)
 refine o_store_B 2 H sizeOf47 Z Z Z Z Z Z Z Z ?_; intro w72 H
 refine R_nil (N_DK (Kn.of' H hd68 (SubL.cons 3 Z SubL.nil)) (RD_t 8 Z kR Z (fun _ hK => v_assign Z) (RD_done kR (N_K (W_ret (ret_gen (rs := [.cell 4 47, .tmp 5]) (vs := [_, _]) results137 ⟨⟨_, Z, load_blk 2 H isAgg47 sizeOf47 Z Z Z⟩, Z, trivial⟩ ?_))))))
 have H := H.del (k := 2) rfl
 have H := H.del (k := 2) rfl
 have H := H.toFront (k := 1) rfl
 have H := H.toFront (k := 1) rfl
 exact H.retM ⟨_, _, _, _, _, _, _, oM, Z, hchk70, Sp.vol_len (fun u2 h2 => Sp.vwrite_valid h2), hr70_1, acc_1 Z⟩
end Go.Proofs.Tst

namespace Go.Proofs.Tst
open Go Fw Tryz
theorem l91Volume_c (w0 : World) (G0 : PH) (hG : PSub G0 w0) (rb : Nat) (ab : Option Addr) (mb kb : Nat) (bs : List UInt8) (p : Nat) (hbs : RdU G0 (.slice ab mb kb) bs) (hrb : w0.heap[rb]? = some (cl [.slice ab mb kb, .int .i64 (p : Int)] 118)) (hrn : G0 rb = none) (hp : p ≤ 10000000)  :
  Calls Tryz.prog 87 #[.pointer (some ⟨rb, 0, none⟩)] w0 (RetM w0 G0 [rb] (fun G val Bs => ∃ (p' : Nat) (v1 v2 : Value) (st : List BHeld) (tr : List BItem), p' ≤ p + 3000 ∧ val = .agg #[v1, v2] ∧ RdH G v1 st ∧ RdItems G v2 tr ∧ Bs = [blk rb (cl [.slice ab mb kb, .int .i64 (p' : Int)] 118)])) := by
 have hlimbs : bs.length ≤ 1099511627776 := hbs.lim; obtain rfl : mb = bs.length := hbs.len
 have H := Hp.initM hG hrb hrn
 refine calls_of_W (l := [.pointer (some ⟨rb, 0, none⟩)]) func87 Z ntmps87 Z (q2 (o_alloc H zeroValue47 Z Z ?_)); intro b1 w1 hb1 H
 refine q1 (o_build bf47 Z Z Z (o_alloc H zeroValue47 Z Z ?_)); intro b2 w2 hb2 H
 refine o_store_B 0 H sizeOf47 Z Z Z Z Z Z Z Z ?_; intro w3 H
 refine q1 (mV Z (o_call call38 Z Z (pick_c _ _ H.sub _ _ _ _ _ _ hbs (H.blkIs (k := 2) Z).1 (H.blkIs (k := 2) Z).2 oM _ oO ) ?_))
 rintro _ w4 ⟨G4, _, _, rfl, H4', ⟨p4, x4, hp4, rfl, hxb4, rfl⟩⟩
 have hbs := hbs.up H4'.le
 have H := H.borrow (k := 2) rfl H4'
 refine ⟨_, Z, ?_⟩
 refine o_add Z Z Z oO (aG Z (q3 (W_seq (q2 (aG Z (q3 (W_block ?_)))))))
 obtain ⟨ln6, hln6, H⟩ := H.name (k := 2) rfl
 refine W_lp (hf := (Sub.cons (t := 0) Z (Sub.cons (t := 2) Z (Sub.cons (t := 3) Z (Sub.cons (t := 4) Z Sub.nil))))) (J := fun M w m => ∃ (k : Nat) (va vb : Value) (st : List BHeld) (tr : List BItem) (pp : Nat) (G : PH), M = [(5, .int .i64 (k : Int))] ∧ PLe G4 G ∧ Hp w0 G0 [rb] w G [blk rb (cl [.slice ab bs.length kb, .int .i64 (pp : Int)] 118), blk b2 (cl [va, vb] 47), blk b1 (cl ln6 47)] ∧ (k ≤ 8 ∧ pp ≤ p + 100 + 201 * k ∧ RdH G va st ∧ RdItems G vb tr ∧ Mine w0 G va) ∧ m = (8 - k)) (h0 := ⟨0, .slice none 0 0, .slice none 0 0, [], [], p4, _, Z, PLe.refl _, H, ?inv, Z⟩) (round := ?round)
 case inv => exact ⟨by omega, by omega, RdS.nil _ _ _, RdS.nil _ _ _, Mine.nil⟩
 case round =>
  rintro _ w7 _ ⟨k, va, vb, st, tr, pp, G7, rfl, hle7, H, hinv7, rfl⟩
  subst hln6
  have hbs := hbs.up hle7
  obtain ⟨hk, hpp, hst, htr, hmine⟩ := hinv7; obtain ⟨sa, sk, rfl⟩ := hst.shape; obtain ⟨ta, tk, rfl⟩ := htr.shape; have hlst : _ ≤ 1099511627776 := hst.lim; have hltr : _ ≤ 1099511627776 := htr.lim
  refine W_seq (q2 (mV Z (mV Z (o_lss Z Z Z (q3 ?_)))))
  refine W_cond Z ?_ ?_
  ·intro hc8
   try simp only [nrm] at hc8
   refine W_skip (N_K (W_seq (W_block (q2 (mV Z (o_loadagg_B 1 H isAgg47 sizeOf47 Z Z Z Z Z (o_call call137 Z Z (l91Step_c _ _ H.sub _ _ _ _ _ _ hbs (H.blkIs (k := 0) Z).1 (H.blkIs (k := 0) Z).2 oM _ ⟨st, tr⟩ ⟨_, _, _, _, _, _, Z, hst, htr⟩ ) ?_)))))))
   rintro _ w9 ⟨G9, _, _, rfl, H9', ⟨p9, v19, v29, st9, tr9, b9, c9, hp9, rfl, hchk9, hsl9, htr9, rfl⟩⟩
   have hst := hst.up H9'.le
   have htr := htr.up H9'.le
   have hmine := hmine.up H9'.le
   have hle7 := hle7.trans H9'.le
   have H := H.borrow (k := 0) rfl H9'
   obtain ⟨av9, cv9, rfl⟩ := H.accShape (k := 0) rfl
   obtain ⟨ta9, tc9, rfl⟩ := htr9.shape; have hx_htr9 : _ ≤ 1099511627776 := htr9.lim
   refine ⟨_, Z, ?_⟩
   refine mV Z (o_extract Z Z Z (o_extract Z Z Z (o_alloc H zeroValue47 Z Z ?_))); intro b10 w10 hb10 H
   refine o_store_B 0 H sizeOf47 Z Z Z Z Z Z Z Z ?_; intro w11 H
   refine aG Z (q1 (mV Z (q3 ?_)))
   refine W_cond Z ?_ ?_
   ·intro hc12
    try simp only [nrm] at hc12
    refine W_region (o_loadagg_B 0 H isAgg47 sizeOf47 Z Z Z Z Z (o_store_B 3 H sizeOf47 Z Z Z Z Z Z Z Z ?_)); intro w13 H
    refine R_nil (N_B (N_K (W_region (mV Z (o_add Z Z Z oO (aG Z (R_nil ?_)))))))
    obtain ⟨G15, H, hsg15, hst15, hmine15⟩ := H.shutP (k := 1) (j := 1) rfl rfl hchk9 aN oM
    have htr9 := htr9.up hsg15
    have hle7 := hle7.trans hsg15
    have H := H.del (k := 0) rfl
    refine N_lp (hJ := ⟨k + 1, _, _, st9, tr9, p9, _, Z, hle7, H, ?inv, Z⟩) (hm := ?hm)
    case hm => omega
    case inv => exact ⟨by omega, by omega, hst15, htr9, hmine15⟩
   intro hc12'
   try simp only [nrm] at hc12'
   refine W_skip (N_B (N_K (W_region (mV Z (o_add Z Z Z oO (aG Z (R_nil ?_)))))))
   have H := H.del (k := 0) rfl
   have H := H.del (k := 0) rfl
   refine N_lp (hJ := ⟨k + 1, _, _, st, tr, p9, _, Z, hle7, H, ?inv, Z⟩) (hm := ?hm)
   case hm => omega
   case inv => exact ⟨by omega, by omega, hst, htr, hmine⟩
  intro hc8'
  try simp only [nrm] at hc8'
  refine W_exit (N_K_exit (N_LP_exit (N_B_same (N_K (W_seq (q2 (o_fieldAddr 0 runUnderlying47 Z sizeOf23 Z Z Z (o_load_B 1 H isAgg23 Z Z Z Z (o_len_slice underlying23 Z Z (o_gtr Z Z Z (mV Z ?_)))))))))))
  refine R_case (t := 29) Z ?_ ?_
  ·intro hc17
   try simp only [nrm] at hc17
   refine gR Z (mV Z (gR Z (o_call call38 Z Z (pick_c _ _ H.sub _ _ _ _ _ _ hbs (H.blkIs (k := 0) Z).1 (H.blkIs (k := 0) Z).2 oM _ oO ) ?_)))
   rintro _ w18 ⟨G18, _, _, rfl, H18', ⟨p18, x18, hp18, rfl, hxb18, rfl⟩⟩
   have hbs := hbs.up H18'.le
   have hst := hst.up H18'.le
   have htr := htr.up H18'.le
   have hmine := hmine.up H18'.le
   have H := H.borrow (k := 0) rfl H18'
   refine ⟨_, Z, ?_⟩
   refine gR Z (o_eql Z Z Z (o_pick_t Z Z Z (q3 ?_)))
   refine W_cond Z ?_ ?_
   ·intro hc19
    try simp only [nrm] at hc19
    refine W_drawN [1, 2] 10 H kR Z ?_; intro w20 H; have hd20 := (PLe.none : PLe _ G18)
    refine RD_t 0 Z kR Z (fun _ hK => v_fieldAddr 0 runUnderlying47 Z sizeOf23 Z Z) (RD_t 1 Z kR Z (fun _ hK => v_load_B 0 hK isAgg23 Z Z Z) (vM 2 Z Z (RD_t 3 Z kR Z (fun _ hK => v_fieldAddr 0 runUnderlying47 Z sizeOf23 Z Z) (RD_t 4 Z kR Z (fun _ hK => v_load_B 0 hK isAgg23 Z Z Z) (RD_t 5 Z kR Z (fun _ hK => v_len_slice underlying23 Z) ?_)))))
    refine RD_run [6] kR Z (RDs.cons Z ?_ RDs.nil)
    refine o_call call38 Z Z (pick_c _ _ H.sub _ _ _ _ _ _ hbs (H.blkIs (k := 0) Z).1 (H.blkIs (k := 0) Z).2 oM _ oO ) ?_
    rintro _ w21 ⟨G21, _, _, rfl, H21', ⟨p21, x21, hp21, rfl, hxb21, rfl⟩⟩
    have hst := hst.up H21'.le
    have htr := htr.up H21'.le
    have hmine := hmine.up H21'.le
    have hd20 := hd20.trans H21'.le
    have H := H.borrow (k := 0) rfl H21'
    refine ⟨_, Z, ?_⟩
    refine R_nil (N_DK (Kn.of' H hd20 (SubL.cons 1 Z (SubL.cons 2 Z SubL.nil))) ?_)
    have hl22 := hst.len
    obtain ⟨b22, o22, z22, q22, ha22, hz22, hq22, hE22, hrow22, _⟩ := hst.at (i := x21) oM
    clear hq22
    obtain ⟨a22, m22, c22, rfl, hi22, hr22, hj22⟩ := hE22; have hn_hr22 := hr22.len; have hx_hr22 : _ ≤ 1099511627776 := hr22.lim
    refine RD_t 7 Z kR Z (fun _ hK => v_index_P (i := x21) ha22 underlying23 sizeOf105 Z Z Z oM) (RD_t 8 Z kR Z (fun _ hK => v_fieldAddr 2 runUnderlying105 Z sizeOf3 Z Z) ?_)
    refine RD_run [9] kR Z (RDs.cons Z ?_ RDs.nil)
    refine o_store_mine H hG hmine ha22 sizeOf3 Z Z oO (hrow22 2 _ Z) hrb Z ?_; intro w23 G23 hgr23 H
    obtain ⟨st2, _, hst2⟩ := RdS.st hgr23 hst; obtain ⟨tr2, _, htr2⟩ := RdS.st hgr23 htr
    have hd20 := (PLe.none : PLe (fun _ => none) G23)
    refine R_nil (N_DK (Kn.of' H hd20 (SubL.cons 1 Z (SubL.cons 2 Z SubL.nil))) (RD_done kR (N_K (q2 (o_loadagg_B 1 H isAgg47 sizeOf47 Z Z Z Z Z (o_store_B 2 H sizeOf47 Z Z Z Z Z Z Z Z ?_)))))); intro w24 H
    refine q3 (W_ret (ret_gen (rs := [.cell 2 47]) (vs := [_]) results87 ⟨⟨_, Z, load_blk 2 H isAgg47 sizeOf47 Z Z Z⟩, trivial⟩ ?_))
    have H := H.del (k := 1) rfl
    have H := H.del (k := 1) rfl
    exact H.retM ⟨_, _, _, _, _, oM, Z, hst2, htr2, Z⟩
   intro hc19'
   try simp only [nrm] at hc19'
   refine W_skip (N_K (q2 (o_loadagg_B 1 H isAgg47 sizeOf47 Z Z Z Z Z (o_store_B 2 H sizeOf47 Z Z Z Z Z Z Z Z ?_)))); intro w25 H
   refine q3 (W_ret (ret_gen (rs := [.cell 2 47]) (vs := [_]) results87 ⟨⟨_, Z, load_blk 2 H isAgg47 sizeOf47 Z Z Z⟩, trivial⟩ ?_))
   have H := H.del (k := 1) rfl
   have H := H.del (k := 1) rfl
   exact H.retM ⟨_, _, _, _, _, oM, Z, hst, htr, Z⟩
  intro hc17'
  try simp only [nrm] at hc17'
  refine rP Z (rP Z (rP Z (o_pick_f Z Z Z (q3 (W_false Z (W_skip (N_K (q2 (o_loadagg_B 1 H isAgg47 sizeOf47 Z Z Z Z Z (o_store_B 2 H sizeOf47 Z Z Z Z Z Z Z Z ?_)))))))))); intro w26 H
  refine q3 (W_ret (ret_gen (rs := [.cell 2 47]) (vs := [_]) results87 ⟨⟨_, Z, load_blk 2 H isAgg47 sizeOf47 Z Z Z⟩, trivial⟩ ?_))
  have H := H.del (k := 1) rfl
  have H := H.del (k := 1) rfl
  exact H.retM ⟨_, _, _, _, _, oM, Z, hst, htr, Z⟩
end Go.Proofs.Tst

namespace Go.Proofs.Tst
open Go Fw Tryz
theorem SnapTake_c (w0 : World) (G0 : PH) (hG : PSub G0 w0) (cd : List Value) (d : BDisk) (hd : diskE G0 d cd) (name : Bs) (hname : name.length ≤ 16777216)  :
  Calls Tryz.prog 12 #[.agg cd.toArray, str name] w0 (RetO w0 G0 (fun G val r => ∃ u u1 u2, val = .tuple #[.agg #[u, u1, u2], .bool (Sp.SnapTake d name).isSome] ∧ AccOf snapE 2 81 (((Sp.SnapTake d name).map (·.snaps)).getD []) G u2 r ∧ RdH G u (((Sp.SnapTake d name).map (·.store)).getD []) ∧ RdItems G u1 (((Sp.SnapTake d name).map (·.tree)).getD []))) := by
 obtain ⟨a1, m1, c1, a1', m1', c1', a1'', m1'', c1'', rfl, hr1, hr1', hr1''⟩ := hd; have hn_hr1 := hr1.len; have hx_hr1 : _ ≤ 1099511627776 := hr1.lim; have hn_hr1q := hr1'.len; have hx_hr1q : _ ≤ 1099511627776 := hr1'.lim; have hn_hr1qq := hr1''.len; have hx_hr1qq : _ ≤ 1099511627776 := hr1''.lim
 have H := Hp.init hG
 refine calls_of_W (l := [_, str name]) func12 Z ntmps12 Z (q2 (o_box H Z Z Z ?_)); intro b2 w2 hb2 H
 refine o_alloc H zeroValue27 Z Z ?_; intro b3 w3 hb3 H
 refine aG Z (q3 (W_seq (q2 (o_loadagg_B 1 H isAgg27 sizeOf27 Z Z Z Z Z (o_call call44 Z Z (DiskValid_c _ _ H.sub _ d ⟨_, _, _, _, _, _, _, _, _, Z, hr1, hr1', hr1''⟩ ) ?_)))))
 rintro _ w4 ⟨rfl, ew4⟩; have H := H.step ew4; refine ⟨_, rfl, ?_⟩
 refine o_not Z Z (mV Z ?_)
 refine R_case (t := 12) Z ?_ ?_
 ·intro hc5
  try simp only [nrm] at hc5
  refine rP Z (rP Z (rP Z (o_pick_t Z Z Z (mV Z (rP Z (rP Z (rP Z (rP Z (rP Z (o_pick_t Z Z Z (mV Z (rP Z (rP Z (rP Z (rP Z ?_)))))))))))))))
  refine o_pick_t Z Z Z (q3 (W_true Z (q2 (o_build bf27 Z Z Z (o_store_B 0 H sizeOf27 Z Z Z Z Z Z Z Z ?_))))); intro w6 H
  refine aG Z (q3 (W_ret (N_K_ret (ret_gen (rs := [.cell 4 27, .tmp 5]) (vs := [_, _]) results12 ⟨⟨_, Z, load_blk 0 H isAgg27 sizeOf27 Z Z Z⟩, Z, trivial⟩ ?_))))
  have hN : Sp.SnapTake d name = none := by simp [Sp.SnapTake, hc5]
  have H := H.addNil 81 2
  exact H.retO (k := 0) rfl (by rw [hN]; exact ⟨_, _, _, rfl, AccOf.mk rfl Chk.nil, RdS.nil _ _ _, RdS.nil _ _ _⟩) (acc_nd _ _ _ _ _)
 intro hc5'
 try simp only [nrm] at hc5'
 refine gR Z (mV Z (gR Z (o_call call45 Z Z (l1Word_c _ _ hname ) ?_)))
 rintro _ w7 ⟨rfl, ew7⟩; have H := H.step ew7; refine ⟨_, rfl, ?_⟩
 refine gR Z (o_not Z Z (o_pick_f Z Z Z (mV Z ?_)))
 refine R_case (t := 17) Z ?_ ?_
 ·intro hc8
  try simp only [nrm] at hc8
  refine rP Z (rP Z (rP Z (rP Z (rP Z (o_pick_t Z Z Z (mV Z (rP Z (rP Z (rP Z (rP Z (o_pick_t Z Z Z (q3 (W_true Z (q2 (o_build bf27 Z Z Z ?_)))))))))))))))
  refine o_store_B 0 H sizeOf27 Z Z Z Z Z Z Z Z ?_; intro w9 H
  refine aG Z (q3 (W_ret (N_K_ret (ret_gen (rs := [.cell 4 27, .tmp 5]) (vs := [_, _]) results12 ⟨⟨_, Z, load_blk 0 H isAgg27 sizeOf27 Z Z Z⟩, Z, trivial⟩ ?_))))
  have hN : Sp.SnapTake d name = none := by simp [Sp.SnapTake, hc8]
  have H := H.addNil 81 2
  exact H.retO (k := 0) rfl (by rw [hN]; exact ⟨_, _, _, rfl, AccOf.mk rfl Chk.nil, RdS.nil _ _ _, RdS.nil _ _ _⟩) (acc_nd _ _ _ _ _)
 intro hc8'
 try simp only [nrm] at hc8'
 refine gR Z (o_fieldAddr 2 runUnderlying27 Z sizeOf25 Z Z Z (gR Z (o_load_B 1 H isAgg25 Z Z Z Z (gR Z (mV Z (gR Z (o_call call46 Z Z (l12At_c _ _ H.sub _ _ hr1'' _ hname ) ?_)))))))
 rintro _ w10 ⟨rfl, ew10⟩; have H := H.step ew10; refine ⟨_, rfl, ?_⟩
 refine gR Z (o_geq Z Z Z (o_pick_f Z Z Z (mV Z ?_)))
 refine R_case (t := 24) Z ?_ ?_
 ·intro hc11
  try simp only [nrm] at hc11
  refine rP Z (rP Z (rP Z (rP Z (o_pick_t Z Z Z (q3 (W_true Z (q2 (o_build bf27 Z Z Z (o_store_B 0 H sizeOf27 Z Z Z Z Z Z Z Z ?_))))))))); intro w12 H
  refine aG Z (q3 (W_ret (N_K_ret (ret_gen (rs := [.cell 4 27, .tmp 5]) (vs := [_, _]) results12 ⟨⟨_, Z, load_blk 0 H isAgg27 sizeOf27 Z Z Z⟩, Z, trivial⟩ ?_))))
  have hN : Sp.SnapTake d name = none := by (obtain ⟨i, x, ia, ib, ic, ie, ig⟩ := Sp.at_nat hc11); simp [Sp.SnapTake, Sp.atS, ia]
  have H := H.addNil 81 2
  exact H.retO (k := 0) rfl (by rw [hN]; exact ⟨_, _, _, rfl, AccOf.mk rfl Chk.nil, RdS.nil _ _ _, RdS.nil _ _ _⟩) (acc_nd _ _ _ _ _)
 intro hc11'
 try simp only [nrm] at hc11'
 refine gR Z (o_fieldAddr 2 runUnderlying27 Z sizeOf25 Z Z Z (gR Z (o_load_B 1 H isAgg25 Z Z Z Z (gR Z (o_len_slice underlying25 Z Z (gR Z (o_eql Z Z Z (o_pick_f Z Z Z (q3 ?_)))))))))
 refine W_cond Z ?_ ?_
 ·intro hc13
  try simp only [nrm] at hc13
  refine q2 (o_build bf27 Z Z Z (o_store_B 0 H sizeOf27 Z Z Z Z Z Z Z Z ?_)); intro w14 H
  refine aG Z (q3 (W_ret (N_K_ret (ret_gen (rs := [.cell 4 27, .tmp 5]) (vs := [_, _]) results12 ⟨⟨_, Z, load_blk 0 H isAgg27 sizeOf27 Z Z Z⟩, Z, trivial⟩ ?_))))
  have hN : Sp.SnapTake d name = none := by simp [Sp.SnapTake, show d.snaps.length = 6 by omega]
  have H := H.addNil 81 2
  exact H.retO (k := 0) rfl (by rw [hN]; exact ⟨_, _, _, rfl, AccOf.mk rfl Chk.nil, RdS.nil _ _ _, RdS.nil _ _ _⟩) (acc_nd _ _ _ _ _)
 intro hc13'
 try simp only [nrm] at hc13'
 refine W_skip (N_K (q2 (o_fieldAddr 0 runUnderlying27 Z sizeOf23 Z Z Z (o_load_B 1 H isAgg23 Z Z Z Z (o_fieldAddr 1 runUnderlying27 Z sizeOf24 Z Z Z (o_load_B 1 H isAgg24 Z Z Z Z (o_call call47 Z Z (l12Keep_c _ _ H.sub _ _ hr1 _ _ hr1' ) ?_)))))))
 rintro _ w15 ⟨G15, _, _, g15, rfl, ⟨u15_0, rfl, ⟨cs15, rfl, hchk15⟩⟩, hp15, hq15, hs15⟩
 have H := H.growO g15 hp15 hq15 hs15; obtain ⟨av15, cv15, rfl⟩ := H.accShape (k := 0) rfl
 have hr1 := hr1.up g15.le
 have hr1' := hr1'.up g15.le
 have hr1'' := hr1''.up g15.le
 refine ⟨_, Z, ?_⟩
 have hkl := Sp.l12Keep_len d.store d.tree
 refine mV Z (o_extract Z Z Z (o_extract Z Z Z (aG Z (aG Z (q3 (W_seq (q2 (mV Z (o_not Z Z (q3 ?_))))))))))
 refine W_cond Z ?_ ?_
 ·intro hc16
  try simp only [nrm] at hc16
  refine q2 (o_build bf27 Z Z Z (o_store_B 1 H sizeOf27 Z Z Z Z Z Z Z Z ?_)); intro w17 H
  refine aG Z (q3 (W_ret (N_K_ret (ret_gen (rs := [.cell 4 27, .tmp 5]) (vs := [_, _]) results12 ⟨⟨_, Z, load_blk 1 H isAgg27 sizeOf27 Z Z Z⟩, Z, trivial⟩ ?_))))
  have hN : Sp.SnapTake d name = none := by (have hno : Sp.l12Keep d.store d.tree = none := by simpa using hc16); simp [Sp.SnapTake, hno]
  have H := H.addNil 81 2
  exact H.retO (k := 0) rfl (by rw [hN]; exact ⟨_, _, _, rfl, AccOf.mk rfl Chk.nil, RdS.nil _ _ _, RdS.nil _ _ _⟩) (acc_nd _ _ _ _ _)
 intro hc16'
 try simp only [nrm] at hc16'
 refine W_skip (N_K (q2 (o_loadagg_B 2 H isAgg27 sizeOf27 Z Z Z Z Z (o_call call48 Z Z (l12Copy_c _ _ H.sub _ d ⟨_, _, _, _, _, _, _, _, _, Z, hr1, hr1', hr1''⟩ ) ?_))))
 rintro _ w18 ⟨G18, _, _, g18, rfl, ⟨u18_0, u18_1, u18_2, rfl, ⟨cs18, rfl, hchk18⟩, hr18_0, hr18_1⟩, hp18, hq18, hs18⟩
 have H := H.growO g18 hp18 hq18 hs18; obtain ⟨av18, cv18, rfl⟩ := H.accShape (k := 0) rfl
 have hr1' := hr1'.up g18.le
 have hchk15 := hchk15.up g18.le
 obtain ⟨a18_0, k18_0, rfl⟩ := hr18_0.shape; have hx_hr18_0 : _ ≤ 1099511627776 := hr18_0.lim
 obtain ⟨a18_1, k18_1, rfl⟩ := hr18_1.shape; have hx_hr18_1 : _ ≤ 1099511627776 := hr18_1.lim
 refine ⟨_, Z, ?_⟩
 refine o_alloc H zeroValue27 Z Z ?_; intro b19 w19 hb19 H
 refine o_store_B 0 H sizeOf27 Z Z Z Z Z Z Z Z ?_; intro w20 H
 refine q1 (mV Z (o_fieldAddr 0 runUnderlying27 Z sizeOf23 Z Z Z (o_store_B 0 H sizeOf23 Z Z Z Z Z Z Z Z ?_))); intro w21 H
 refine q3 (W_seq (W_drawK [0, 3, 4] 11 H kR Z ?_)); intro w22 H; have hd22 := PLe.refl G18
 refine RD_t 0 Z kR Z (fun _ hK => v_fieldAddr 2 runUnderlying27 Z sizeOf25 Z Z) (RD_t 1 Z kR Z (fun _ hK => v_load_B 0 hK isAgg25 Z Z Z) (vM 2 Z Z (RD_t 3 Z kR Z (fun _ hK => v_fieldAddr 1 runUnderlying27 Z sizeOf24 Z Z) (RD_t 4 Z kR Z (fun _ hK => v_load_B 2 hK isAgg24 Z Z Z) ?_))))
 refine RD_run [5] kR Z (RDs.cons Z ?_ RDs.nil)
 refine o_call call49 Z Z (l5All_c _ _ H.sub _ _ hr1' ) ?_
 rintro _ w23 ⟨G23, v23, _, g23, rfl, ⟨cs23, rfl, hchk23⟩, hp23, hq23, hs23⟩
 have H := H.growO g23 hp23 hq23 hs23; obtain ⟨av23, cv23, rfl⟩ := H.accShape (k := 0) rfl
 have hchk15 := hchk15.up g23.le
 have hr18_1 := hr18_1.up g23.le
 have hchk18 := hchk18.up g23.le
 have hd22 := hd22.trans g23.le
 refine ⟨_, Z, ?_⟩
 refine R_nil (N_DK (Kn.of' H hd22 (SubL.cons 1 Z (SubL.cons 4 Z (SubL.cons 5 Z SubL.nil)))) (RD_t 6 Z kR Z (fun _ hK => v_build bf81 Z Z) ?_))
 refine RD_run [7] kR Z (RDs.cons Z ?_ RDs.nil)
 refine o_buildSlice H underlying25 sizeOf81 (fun w => ⟨_, zeroValue81 w, Z⟩) Z Z Z Z Z Z Z ?_; intro b24 w24 hb24 H
 refine R_nil (N_DK (Kn.of' H hd22 (SubL.cons 2 Z (SubL.cons 5 Z (SubL.cons 6 Z SubL.nil)))) ?_)
 refine RD_run [8] kR Z (RDs.cons Z ?_ RDs.nil)
 refine o_append1 2 H (sz := 2) (bytes := 40) underlying25 typeInfo81 ⟨_, Z, Z⟩ Z Z Z Z Z Z Z Z Z Z oM Z ?_; intro v25 w25 H
 obtain ⟨G26, H, hsg26, hsr26⟩ := H.shut' (k := 0) rfl hchk23 aN aN
 have hchk15 := hchk15.up hsg26
 have hr18_1 := hr18_1.up hsg26
 have hchk18 := hchk18.up hsg26
 have hd22 := hd22.trans hsg26
 have hchk25 := hchk18.snoc (show snapE _ ⟨name, d.tree⟩ _ from ⟨_, _, _, rfl, hname, hsr26⟩) rfl
 obtain ⟨av25, cv25, rfl⟩ := H.accShape (k := 1) rfl
 refine R_nil (N_DK (Kn.of' H hd22 (SubL.cons 0 Z (SubL.cons 3 Z (SubL.cons 4 Z SubL.nil)))) (RD_t 9 Z kR Z (fun _ hK => v_fieldAddr 2 runUnderlying27 Z sizeOf25 Z Z) ?_))
 refine RD_run [10] kR Z (RDs.cons Z ?_ RDs.nil)
 refine o_store_B 0 H sizeOf25 Z Z Z Z Z Z Z Z ?_; intro w27 H
 refine R_nil (N_DKlast kR kR (N_K (q2 (o_loadagg_B 0 H isAgg27 sizeOf27 Z Z Z Z Z (o_store_B 3 H sizeOf27 Z Z Z Z Z Z Z Z ?_))))); intro w28 H
 refine aG Z (q3 (W_ret (ret_gen (rs := [.cell 4 27, .tmp 5]) (vs := [_, _]) results12 ⟨⟨_, Z, load_blk 3 H isAgg27 sizeOf27 Z Z Z⟩, Z, trivial⟩ ?_)))
 obtain ⟨G530, H, hsg530, hsr530⟩ := H.shut' (k := 2) rfl hchk15 aN aN
 have hr18_1 := hr18_1.up hsg530
 have hchk25 := hchk25.up hsg530
 have hY : Sp.SnapTake d name = some ⟨(Sp.l12Keep d.store d.tree).getD [], d.tree, d.snaps ++ [⟨name, d.tree⟩]⟩ := by (obtain ⟨p, hp⟩ := Option.isSome_iff_exists.1 hc16'); (have hat : Sp.atS d.snaps name = none := Sp.at_none hc11'); simp [Sp.SnapTake, hc5', hc8', hat, hp, show ¬ d.snaps.length = 6 by omega]
 exact H.retO (k := 1) rfl (by rw [hY]; exact ⟨_, _, _, rfl, AccOf.mk aN hchk25, hsr530, hr18_1⟩) (acc_nd _ _ _ _ _)
end Go.Proofs.Tst

namespace Go.Proofs.Tst
open Go Fw Tryz
theorem SnapTakeP_c (w0 : World) (G0 : PH) (hG : PSub G0 w0) (cd : List Value) (d : BDisk) (hd : diskE G0 d cd) (name : Bs) (hname : name.length ≤ 16777216) :
  Calls Tryz.prog 12 #[.agg cd.toArray, str name] w0 (RetP w0 G0 (fun G val => ∃ cs, val = .tuple #[.agg cs.toArray, .bool (Sp.SnapTake d name).isSome] ∧ diskE G ((Sp.SnapTake d name).getD ⟨[], [], []⟩) cs)) := by
 refine (SnapTake_c w0 G0 hG cd d hd name hname).mono ?_
 rintro _ w' ⟨G, v, r, g, rfl, ⟨u, u1, u2, rfl, ⟨cells, rfl, hchk⟩, h1, h2⟩, hp, hq, hs⟩
 have H := (Hp.init hG).growO g hp hq hs
 have hb : (((Sp.SnapTake d name).map (·.snaps)).getD []).length ≤ 6 := Sp.dk_lim (fun d1 h => Sp.take_valid h)
 obtain ⟨G2, H2, hle, hr⟩ := H.shut' (k := 0) rfl hchk rfl oM
 have e1 : ((Sp.SnapTake d name).map (·.store)).getD [] = ((Sp.SnapTake d name).getD ⟨[], [], []⟩).store := by cases Sp.SnapTake d name <;> rfl
 have e2 : ((Sp.SnapTake d name).map (·.tree)).getD [] = ((Sp.SnapTake d name).getD ⟨[], [], []⟩).tree := by cases Sp.SnapTake d name <;> rfl
 have e3 : ((Sp.SnapTake d name).map (·.snaps)).getD [] = ((Sp.SnapTake d name).getD ⟨[], [], []⟩).snaps := by cases Sp.SnapTake d name <;> rfl
 rw [e1] at h1; rw [e2] at h2; rw [e3] at hr
 obtain ⟨a1, c1, rfl⟩ := h1.shape
 obtain ⟨a2, c2, rfl⟩ := h2.shape
 obtain ⟨a3, c3, rfl⟩ := hr.shape
 exact H2.retP ⟨[_, _, _], Z, _, _, _, _, _, _, _, _, _, Z, h1.up hle, h2.up hle, hr⟩
end Go.Proofs.Tst

namespace Go.Proofs.Tst
open Go Fw Tryz
theorem SnapBackP_c (w0 : World) (G0 : PH) (hG : PSub G0 w0) (cd : List Value) (d : BDisk) (hd : diskE G0 d cd) (name : Bs) (hname : name.length ≤ 16777216) :
  Calls Tryz.prog 138 #[.agg cd.toArray, str name] w0 (RetP w0 G0 (fun G val => ∃ cs, val = .tuple #[.agg cs.toArray, .bool (Sp.SnapBack d name).isSome] ∧ diskE G ((Sp.SnapBack d name).getD ⟨[], [], []⟩) cs)) := by
 refine (SnapBack_c w0 G0 hG cd d hd name hname).mono ?_
 rintro _ w' ⟨G, v, r, g, rfl, ⟨u, u1, u2, rfl, ⟨cells, rfl, hchk⟩, h1, h2⟩, hp, hq, hs⟩
 have H := (Hp.init hG).growO g hp hq hs
 have hb : (((Sp.SnapBack d name).map (·.snaps)).getD []).length ≤ 6 := Sp.dk_lim (fun d1 h => Sp.back_valid h)
 obtain ⟨G2, H2, hle, hr⟩ := H.shut' (k := 0) rfl hchk rfl oM
 have e1 : ((Sp.SnapBack d name).map (·.store)).getD [] = ((Sp.SnapBack d name).getD ⟨[], [], []⟩).store := by cases Sp.SnapBack d name <;> rfl
 have e2 : ((Sp.SnapBack d name).map (·.tree)).getD [] = ((Sp.SnapBack d name).getD ⟨[], [], []⟩).tree := by cases Sp.SnapBack d name <;> rfl
 have e3 : ((Sp.SnapBack d name).map (·.snaps)).getD [] = ((Sp.SnapBack d name).getD ⟨[], [], []⟩).snaps := by cases Sp.SnapBack d name <;> rfl
 rw [e1] at h1; rw [e2] at h2; rw [e3] at hr
 obtain ⟨a1, c1, rfl⟩ := h1.shape
 obtain ⟨a2, c2, rfl⟩ := h2.shape
 obtain ⟨a3, c3, rfl⟩ := hr.shape
 exact H2.retP ⟨[_, _, _], Z, _, _, _, _, _, _, _, _, _, Z, h1.up hle, h2.up hle, hr⟩
theorem DiskWriteP_c (w0 : World) (G0 : PH) (hG : PSub G0 w0) (cd : List Value) (d : BDisk) (hd : diskE G0 d cd) (path : Bs) (hpath : path.length ≤ 16777216) (vbytes : Value) (bytes : List Int) (hbytes : RdI G0 vbytes bytes) :
  Calls Tryz.prog 22 #[.agg cd.toArray, str path, vbytes] w0 (RetP w0 G0 (fun G val => ∃ cs, val = .tuple #[.agg cs.toArray, .bool (Sp.DiskWrite d path bytes).isSome] ∧ diskE G ((Sp.DiskWrite d path bytes).getD ⟨[], [], []⟩) cs)) := by
 refine (DiskWrite_c w0 G0 hG cd d hd path hpath vbytes bytes hbytes).mono ?_
 rintro _ w' ⟨G, v, r, g, rfl, ⟨u, u1, u2, rfl, ⟨cells, rfl, hchk⟩, h1, h2⟩, hp, hq, hs⟩
 have H := (Hp.init hG).growO g hp hq hs
 have hb : (((Sp.DiskWrite d path bytes).map (·.snaps)).getD []).length ≤ 6 := Sp.dk_lim (fun d1 h => Sp.dwrite_valid h)
 obtain ⟨G2, H2, hle, hr⟩ := H.shut' (k := 0) rfl hchk rfl oM
 have e1 : ((Sp.DiskWrite d path bytes).map (·.store)).getD [] = ((Sp.DiskWrite d path bytes).getD ⟨[], [], []⟩).store := by cases Sp.DiskWrite d path bytes <;> rfl
 have e2 : ((Sp.DiskWrite d path bytes).map (·.tree)).getD [] = ((Sp.DiskWrite d path bytes).getD ⟨[], [], []⟩).tree := by cases Sp.DiskWrite d path bytes <;> rfl
 have e3 : ((Sp.DiskWrite d path bytes).map (·.snaps)).getD [] = ((Sp.DiskWrite d path bytes).getD ⟨[], [], []⟩).snaps := by cases Sp.DiskWrite d path bytes <;> rfl
 rw [e1] at h1; rw [e2] at h2; rw [e3] at hr
 obtain ⟨a1, c1, rfl⟩ := h1.shape
 obtain ⟨a2, c2, rfl⟩ := h2.shape
 obtain ⟨a3, c3, rfl⟩ := hr.shape
 exact H2.retP ⟨[_, _, _], Z, _, _, _, _, _, _, _, _, _, Z, h1.up hle, h2.up hle, hr⟩
end Go.Proofs.Tst

