/- Part 7 of the proof: the program logic and plain functions. Conditions: none. -/
import Derived.Test.YtddaepdfmhkaeaaGreatDoorProg
import Derived.Test.YtddaepdfmhkaeaaGreatDoorG02
import Derived.Test.YtddaepdfmhkaeaaGreatDoorG03
import Derived.Test.YtddaepdfmhkaeaaGreatDoorG04
import Derived.Test.YtddaepdfmhkaeaaGreatDoorG06
import Derived.WideKeyArgs
import Derived.ChangeArms
import Derived.DataElems
import Derived.ChangeSame
set_option linter.all false
set_option maxRecDepth 100000
set_option maxHeartbeats 1000000
namespace Go.Proofs.Tst
open Go Fw Tryz
theorem i_disk_c (w0 : World) (G0 : PH) (hG : PSub G0 w0) (db mb : Nat) (es : Array MapEntry) (ck : Nat) (xs : List (Int × Value)) (T : Nd) (FT : Fr) (sv : Value) (sn : List (Bs × Nd)) (c : List Value) (FSq : Fr) (d : BDisk) (hm : MapIs (Value.int .i64) es ck xs) (hS : StR G0 xs d.store) (hN : NdO 149 97 G0 T FT) (hT : Nd.TOK T d.tree) (hchk : Chk osE 2 G0 c sn) (hNs : NdsO 149 97 G0 (sn.map (·.2)) FSq) (hSn : SnOK sn d.snaps) (hVd : Sp.VH d.store) (hs6 : d.snaps.length ≤ 6) (hLent : Lent w0 G0 [blk db (cl [.int .i32 0, .int .u32 0, .map (some mb), .pointer (some ⟨T.b, 0, none⟩), sv] 131), blk mb (.map es ck), frag FT, acc 135 2 sv sn.length c, frag FSq])  :
  Calls Tryz.prog 89 #[.pointer (some ⟨db, 0, none⟩)] w0 (RetM w0 G0 (fps [blk db (cl [.int .i32 0, .int .u32 0, .map (some mb), .pointer (some ⟨T.b, 0, none⟩), sv] 131), blk mb (.map es ck), frag FT, acc 135 2 sv sn.length c, frag FSq]) (fun G' v Bs => ∃ (v1 v2 v3 : Value) (F1 F2 F3 : Fr), v = .agg #[v1, v2, v3] ∧ Bs = [frag F1, frag F2, frag F3] ∧ OHs F1 v1 d.store ∧ OIs F2 v2 d.tree ∧ OSn F3 v3 d.snaps)) := by
 have H : Hp w0 G0 (fps [blk db (cl [.int .i32 0, .int .u32 0, .map (some mb), .pointer (some ⟨T.b, 0, none⟩), sv] 131), blk mb (.map es ck), frag FT, acc 135 2 sv sn.length c, frag FSq]) w0 G0 [blk db (cl [.int .i32 0, .int .u32 0, .map (some mb), .pointer (some ⟨T.b, 0, none⟩), sv] 131), blk mb (.map es ck), frag FT, acc 135 2 sv sn.length c, frag FSq] := hLent.hp
 obtain ⟨adv, cdv, rfl⟩ := H.accShape (k := 3) rfl; have hTv := hT.valid; have hTc := hT.cnt; have hTl := Sp.tree_len hTv; have hsnl := hSn.len; have hxa := H.accShape (k := 3) rfl
 refine calls_of_WD (l := [.pointer (some ⟨db, 0, none⟩)]) func89 Z ntmps89 Z (q2 (o_alloc H zeroValue27 Z Z ?_)); intro b1 w1 hb1 H
 refine q1 (mV Z (o_nilCheck Z Z (o_fieldAddr 0 runUnderlying131 Z sizeOf128 Z Z Z (o_lock 1 H muLib Z call90 Z Z Z Z ?_)))); intro w2 H
 refine q1 (mV Z (o_nilCheck Z Z (o_fieldAddr 0 runUnderlying131 Z sizeOf128 Z Z Z (o_defer Z (q3 (W_seq (W_drawK [0, 1] 15 H kR Z ?_))))))); intro w3 H; have hd3 := PLe.refl G0
 refine vM 0 Z Z (RD_t 1 Z kR Z (fun _ hK => v_nilCheck Z) (RD_t 2 Z kR Z (fun _ hK => v_fieldAddr 2 runUnderlying131 Z sizeOf99 Z Z) (RD_t 3 Z kR Z (fun _ hK => v_fieldAddr 0 runUnderlying99 Z sizeOf96 Z Z) (RD_t 4 Z kR Z (fun _ hK => v_load_B 1 hK isAgg96 Z Z Z) (vM 6 Z Z (RD_t 7 Z kR Z (fun _ hK => v_nilCheck Z) (RD_t 8 Z kR Z (fun _ hK => v_fieldAddr 2 runUnderlying131 Z sizeOf99 Z Z) (RD_t 9 Z kR Z (fun _ hK => v_fieldAddr 1 runUnderlying99 Z sizeOf97 Z Z) (RD_t 10 Z kR Z (fun _ hK => v_load_B 1 hK isAgg97 Z Z Z) ?_)))))))))
 refine RD_run [5, 13] kR Z (RDs.cons Z ?_ (RDs.cons Z ?_ RDs.nil))
 ·skip
  refine o_call call123 Z Z (i_slist_c _ _ (H.lendSubL [2]) _ _ _ _ _ (H.lendPredL (k := 2) (ks := [2]) Z Z) hm (hS.up (PPlus.le _ _ _)) hVd ) ?_
  rintro _ w4 ⟨_, _, rfl, H4', ⟨F4, rfl, hO4⟩⟩
  have H := H.readersL H4'
  obtain ⟨e24, hP4⟩ := hO4
  obtain ⟨sa4, sc4, rfl⟩ := OwnS.shape hP4
  have hO4 := OHs.mk hP4
  refine ⟨_, Z, ?_⟩
  refine R_nil (N_DK (Kn.of' H hd3 (SubL.cons 1 Z (SubL.cons 2 Z SubL.nil))) ?_)
  refine RD_run [11, 13] kR Z (RDs.cons Z ?_ (RDs.cons Z ?_ RDs.nil))
  ·skip
   refine o_call call124 Z Z (i_tlist_c _ _ (H.lendSubL [4]) _ ((H.lendN (k := 4) (ks := [4]) Z Z hN).at (show Nd.at_ T [] = some T from Z)) hT.wf oM) ?_
   rintro _ w5 ⟨_, _, rfl, H5', ⟨F5, rfl, hO5⟩⟩
   have H := H.readersL H5'
   obtain ⟨e25, hP5⟩ := hO5
   obtain ⟨sa5, sc5, rfl⟩ := OwnS.shape hP5
   have hO5 := OIs.mk hP5
   refine ⟨_, Z, ?_⟩
   refine R_nil (N_DK (Kn.of' H hd3 (SubL.cons 2 Z (SubL.cons 3 Z SubL.nil))) (RD_t 12 Z kR Z (fun _ hK => v_build bf27 Z Z) ?_))
   refine RD_run [13] kR Z (RDs.cons Z ?_ RDs.nil)
   refine o_alloc H zeroValue27 Z Z ?_; intro b6 w6 hb6 H
   refine R_nil (N_DK (Kn.of' H hd3 (SubL.cons 3 Z (SubL.cons 4 Z SubL.nil))) ?_)
   refine RD_run [14] kR Z (RDs.cons Z ?_ RDs.nil)
   refine o_store_B 0 H sizeOf27 Z Z Z Z Z Z Z Z ?_; intro w7 H
   refine R_nil (N_DKlast kR kR (N_K (W_seq (q2 (mV Z (o_nilCheck Z Z (o_fieldAddr 4 runUnderlying131 Z sizeOf129 Z Z Z (o_load_B 4 H isAgg129 Z Z Z Z (o_len_slice underlying129 Z Z (mV Z (q3 (W_block ?_))))))))))))
   have H := H.addNil 81 2
   have H := H.addF
   obtain ⟨ln9, hln9, H⟩ := H.nameAt (k := 2) (off := 2) rfl rfl
   obtain ⟨ln10, hln10, H⟩ := H.name (k := 5) rfl
   obtain ⟨ln11, hln11, H⟩ := H.name (k := 6) rfl
   refine W_lp (hf := (Sub.cons (t := 2) Z (Sub.cons (t := 3) Z (Sub.cons (t := 29) Z (Sub.cons (t := 30) Z Sub.nil))))) (J := fun M w m => ∃ (v : Value) (n : Nat) (cs : List Value) (xs : List (BSnap)) (F : Fr) (k : Nat) (G : PH), M = [(31, .int .i64 (k : Int))] ∧ PLe G0 G ∧ Hp w0 G0 (fps [blk db (cl [.int .i32 0, .int .u32 0, .map (some mb), .pointer (some ⟨T.b, 0, none⟩), .slice adv sn.length cdv] 131), blk mb (.map es ck), frag FT, acc 135 2 (.slice adv sn.length cdv) sn.length c, frag FSq]) w G [frag F, acc 81 2 v n cs, blk b6 (cl (setN ln9 2 v) 27), frag F5, frag F4, blk b1 (cl ln10 27), blk db (cl ln11 131), blk mb (.map es ck), frag FT, acc 135 2 (.slice adv sn.length cdv) sn.length c, frag FSq] ∧ (ChkF snapO 2 cs xs F ∧ n = xs.length ∧ k ≤ sn.length ∧ xs = (sn.take k).map (fun x => (⟨x.1, x.2.flat []⟩ : BSnap))) ∧ m = (sn.length - k)) (h0 := ⟨_, _, _, [], [], 0, _, Z, PLe.refl _, H, ?inv, Z⟩) (round := ?round)
   case inv => exact ⟨ChkF.nil,  by first | rfl | simp | (simp; omega) | omega, (by simp)⟩
   case round =>
    rintro _ w12 _ ⟨v, n, cs, xs, F, k, G12, rfl, hle12, H, hinv12, rfl⟩
    subst hln9
    subst hln10
    subst hln11
    have hchk := hchk.up hle12
    have hNs := hNs.up hle12
    obtain ⟨hchk12_0, hn12_0, hinv12⟩ := hinv12
    obtain ⟨av12_0, cv12_0, rfl⟩ := H.accShape (k := 1) rfl
    obtain ⟨hk, hxs⟩ := hinv12; have hxl6 : xs.length ≤ 6 := by (rw [hxs]; simp; omega)
    refine q2 (o_lss Z Z Z (q3 (W_seq ?_)))
    refine W_cond Z ?_ ?_
    ·intro hc13
     try simp only [nrm] at hc13
     refine W_skip (N_K (W_seq (W_block (q2 (o_index_A 9 H k Z hchk underlying129 sizeOf135 Z Z Z Z aN aN ?_))))); intro ba14 z14 q14 hba14 hz14 hE14 hg14; cases hba14
     obtain ⟨rfl, hi14⟩ := hE14; have hy_hi14 : _ ≤ 16777216 := hi14
     refine o_loadagg_A 9 H isAgg135 sizeOf135 Z Z Z hg14 Z (o_alloc H zeroValue135 Z Z ?_); intro b15 w15 hb15 H
     refine o_store_B 0 H sizeOf135 Z Z Z Z Z Z Z Z ?_; intro w16 H
     refine q3 (W_drawK [0, 3, 6, 7] 12 H kR Z ?_); intro w17 H; have hd17 := PLe.refl G12
     refine RD_t 0 Z kR Z (fun _ hK => v_fieldAddr 2 runUnderlying27 Z sizeOf25 Z Z) (RD_t 1 Z kR Z (fun _ hK => v_load_B 1 hK isAgg25 Z Z Z) (RD_t 2 Z kR Z (fun _ hK => v_fieldAddr 0 runUnderlying135 Z sizeOf9 Z Z) (RD_t 3 Z kR Z (fun _ hK => v_load_B 0 hK isAgg9 Z Z Z) (RD_t 4 Z kR Z (fun _ hK => v_fieldAddr 1 runUnderlying135 Z sizeOf97 Z Z) (RD_t 5 Z kR Z (fun _ hK => v_load_B 0 hK isAgg97 Z Z Z) ?_)))))
     refine RD_run [6] kR Z (RDs.cons Z ?_ RDs.nil)
     refine o_call call124 Z Z (i_tlist_c _ _ (H.lendSubL [11]) _ (H.lendNs (k := 11) (ks := [11]) Z Z hNs z14.2 (List.mem_map_of_mem (List.mem_of_getElem? hz14))) (sn_ok hSn _ (List.mem_map_of_mem (List.mem_of_getElem? hz14))).1 (by have := (sn_ok hSn _ (List.mem_map_of_mem (List.mem_of_getElem? hz14))).2; omega)) ?_
     rintro _ w18 ⟨_, _, rfl, H18', ⟨F18, rfl, hO18⟩⟩
     have H := H.readersL H18'
     obtain ⟨e218, hP18⟩ := hO18
     obtain ⟨sa18, sc18, rfl⟩ := OwnS.shape hP18
     have hO18 := OIs.mk hP18
     refine ⟨_, Z, ?_⟩
     refine R_nil (N_DK (Kn.of' H hd17 (SubL.cons 1 Z (SubL.cons 4 Z (SubL.cons 7 Z (SubL.cons 8 Z SubL.nil))))) (RD_t 7 Z kR Z (fun _ hK => v_build bf81 Z Z) ?_))
     refine RD_run [8] kR Z (RDs.cons Z ?_ RDs.nil)
     refine o_buildSlice H underlying25 sizeOf81 (fun w => ⟨_, zeroValue81 w, Z⟩) Z Z Z Z Z Z Z ?_; intro b19 w19 hb19 H
     refine R_nil (N_DK (Kn.of' H hd17 (SubL.cons 2 Z (SubL.cons 5 Z (SubL.cons 8 Z (SubL.cons 9 Z SubL.nil))))) ?_)
     refine RD_run [9] kR Z (RDs.cons Z ?_ RDs.nil)
     refine o_append1 3 H (sz := 2) (bytes := 40) underlying25 typeInfo81 ⟨_, Z, Z⟩ Z Z Z Z Z Z Z Z Z Z oM Z ?_; intro v20 w20 H
     have hchk20 := hchk12_0.snoc (show snapO F18 ⟨z14.1, z14.2.flat []⟩ _ from ⟨_, _, _, rfl, hi14, hO18⟩) rfl
     have H := H.toFront (k := 2) rfl
     have H := H.mergeF
     obtain ⟨av20, cv20, rfl⟩ := H.accShape (k := 2) rfl
     refine R_nil (N_DK (Kn.of' H hd17 (SubL.cons 1 Z (SubL.cons 3 Z (SubL.cons 6 Z (SubL.cons 7 Z SubL.nil))))) (RD_t 10 Z kR Z (fun _ hK => v_fieldAddr 2 runUnderlying27 Z sizeOf25 Z Z) ?_))
     refine RD_run [11] kR Z (RDs.cons Z ?_ RDs.nil)
     refine o_store_B 3 H sizeOf25 Z Z Z Z Z Z Z Z ?_; intro w21 H
     refine R_nil (N_DKlast kR kR (N_B (N_K (W_region (o_add Z Z Z oO (mV Z (R_nil ?_)))))))
     have H := H.del (k := 1) rfl
     refine N_lp (hJ := ⟨_, _, _, (xs ++ [⟨z14.1, z14.2.flat []⟩]), (F ++ F18), k + 1, _, Z, hle12, H, ?inv, Z⟩) (hm := ?hm)
     case hm => omega
     case inv => exact ⟨hchk20, aN, (by exact ⟨by omega, by (rw [Sp.take_succ' hz14, List.map_append, ← hxs]; rfl)⟩)⟩
    intro hc13'
    try simp only [nrm] at hc13'
    refine W_exit (N_K_exit (N_LP_exit (N_B_same (N_K (q2 (o_loadagg_B 2 H isAgg27 sizeOf27 Z Z Z Z Z (o_store_B 5 H sizeOf27 Z Z Z Z Z Z Z Z ?_))))))); intro w23 H
    refine q3 (W_ret (ret_unlock 6 H muLib Z call91 Z Z (rs := [.cell 2 27]) results89 ?_)); intro wu2 H
    refine ⟨[_], ⟨⟨_, Z, load_blk 5 H isAgg27 sizeOf27 Z Z Z⟩, trivial⟩, ?_⟩
    have H := H.toFront (k := 1) rfl
    obtain ⟨Fo3, H, hOw3⟩ := H.ownF hchk12_0 aN aN
    have H := H.del (k := 1) rfl
    have H := H.del (k := 3) rfl
    have H := H.del (k := 3) rfl
    have H := H.del (k := 3) rfl
    have H := H.del (k := 3) rfl
    have H := H.del (k := 3) rfl
    have H := H.del (k := 3) rfl
    have H := H.toFront (k := 1) rfl
    have H := H.toFront (k := 2) rfl
    have hxs2 : xs = d.snaps := by (rw [hxs, List.take_of_length_le oM]; exact sn_list hSn)
    exact H.retM ⟨_, _, _, _, _, _, rfl, rfl, hO4, (by (rw [← hT.flat]); exact hO5), (by have h9 := (show OSn _ _ _ from ⟨_, hOw3⟩); (rw [hxs2] at h9); exact h9)⟩
  skip
  refine o_alloc H zeroValue27 Z Z ?_; intro b24 w24 hb24 H
  refine R_nil (N_DK (Kn.of' H hd3 (SubL.cons 2 Z (SubL.cons 3 Z SubL.nil))) ?_)
  refine RD_run [11] kR Z (RDs.cons Z ?_ RDs.nil)
  refine o_call call124 Z Z (i_tlist_c _ _ (H.lendSubL [5]) _ ((H.lendN (k := 5) (ks := [5]) Z Z hN).at (show Nd.at_ T [] = some T from Z)) hT.wf oM) ?_
  rintro _ w25 ⟨_, _, rfl, H25', ⟨F25, rfl, hO25⟩⟩
  have H := H.readersL H25'
  obtain ⟨e225, hP25⟩ := hO25
  obtain ⟨sa25, sc25, rfl⟩ := OwnS.shape hP25
  have hO25 := OIs.mk hP25
  refine ⟨_, Z, ?_⟩
  refine R_nil (N_DK (Kn.of' H hd3 (SubL.cons 3 Z (SubL.cons 4 Z SubL.nil))) (RD_t 12 Z kR Z (fun _ hK => v_build bf27 Z Z) ?_))
  refine RD_run [14] kR Z (RDs.cons Z ?_ RDs.nil)
  refine o_store_B 1 H sizeOf27 Z Z Z Z Z Z Z Z ?_; intro w26 H
  refine R_nil (N_DKlast kR kR (N_K (W_seq (q2 (mV Z (o_nilCheck Z Z (o_fieldAddr 4 runUnderlying131 Z sizeOf129 Z Z Z (o_load_B 4 H isAgg129 Z Z Z Z (o_len_slice underlying129 Z Z (mV Z (q3 (W_block ?_))))))))))))
  have H := H.addNil 81 2
  have H := H.addF
  obtain ⟨ln28, hln28, H⟩ := H.nameAt (k := 3) (off := 2) rfl rfl
  obtain ⟨ln29, hln29, H⟩ := H.name (k := 5) rfl
  obtain ⟨ln30, hln30, H⟩ := H.name (k := 6) rfl
  refine W_lp (hf := (Sub.cons (t := 2) Z (Sub.cons (t := 3) Z (Sub.cons (t := 29) Z (Sub.cons (t := 30) Z Sub.nil))))) (J := fun M w m => ∃ (v : Value) (n : Nat) (cs : List Value) (xs : List (BSnap)) (F : Fr) (k : Nat) (G : PH), M = [(31, .int .i64 (k : Int))] ∧ PLe G0 G ∧ Hp w0 G0 (fps [blk db (cl [.int .i32 0, .int .u32 0, .map (some mb), .pointer (some ⟨T.b, 0, none⟩), .slice adv sn.length cdv] 131), blk mb (.map es ck), frag FT, acc 135 2 (.slice adv sn.length cdv) sn.length c, frag FSq]) w G [frag F, acc 81 2 v n cs, frag F25, blk b24 (cl (setN ln28 2 v) 27), frag F4, blk b1 (cl ln29 27), blk db (cl ln30 131), blk mb (.map es ck), frag FT, acc 135 2 (.slice adv sn.length cdv) sn.length c, frag FSq] ∧ (ChkF snapO 2 cs xs F ∧ n = xs.length ∧ k ≤ sn.length ∧ xs = (sn.take k).map (fun x => (⟨x.1, x.2.flat []⟩ : BSnap))) ∧ m = (sn.length - k)) (h0 := ⟨_, _, _, [], [], 0, _, Z, PLe.refl _, H, ?inv, Z⟩) (round := ?round)
  case inv => exact ⟨ChkF.nil,  by first | rfl | simp | (simp; omega) | omega, (by simp)⟩
  case round =>
   rintro _ w31 _ ⟨v, n, cs, xs, F, k, G31, rfl, hle31, H, hinv31, rfl⟩
   subst hln28
   subst hln29
   subst hln30
   have hchk := hchk.up hle31
   have hNs := hNs.up hle31
   obtain ⟨hchk31_0, hn31_0, hinv31⟩ := hinv31
   obtain ⟨av31_0, cv31_0, rfl⟩ := H.accShape (k := 1) rfl
   obtain ⟨hk, hxs⟩ := hinv31; have hxl6 : xs.length ≤ 6 := by (rw [hxs]; simp; omega)
   refine q2 (o_lss Z Z Z (q3 (W_seq ?_)))
   refine W_cond Z ?_ ?_
   ·intro hc32
    try simp only [nrm] at hc32
    refine W_skip (N_K (W_seq (W_block (q2 (o_index_A 9 H k Z hchk underlying129 sizeOf135 Z Z Z Z aN aN ?_))))); intro ba33 z33 q33 hba33 hz33 hE33 hg33; cases hba33
    obtain ⟨rfl, hi33⟩ := hE33; have hy_hi33 : _ ≤ 16777216 := hi33
    refine o_loadagg_A 9 H isAgg135 sizeOf135 Z Z Z hg33 Z (o_alloc H zeroValue135 Z Z ?_); intro b34 w34 hb34 H
    refine o_store_B 0 H sizeOf135 Z Z Z Z Z Z Z Z ?_; intro w35 H
    refine q3 (W_drawK [0, 4, 6, 7] 12 H kR Z ?_); intro w36 H; have hd36 := PLe.refl G31
    refine RD_t 0 Z kR Z (fun _ hK => v_fieldAddr 2 runUnderlying27 Z sizeOf25 Z Z) (RD_t 1 Z kR Z (fun _ hK => v_load_B 1 hK isAgg25 Z Z Z) (RD_t 2 Z kR Z (fun _ hK => v_fieldAddr 0 runUnderlying135 Z sizeOf9 Z Z) (RD_t 3 Z kR Z (fun _ hK => v_load_B 0 hK isAgg9 Z Z Z) (RD_t 4 Z kR Z (fun _ hK => v_fieldAddr 1 runUnderlying135 Z sizeOf97 Z Z) (RD_t 5 Z kR Z (fun _ hK => v_load_B 0 hK isAgg97 Z Z Z) ?_)))))
    refine RD_run [6] kR Z (RDs.cons Z ?_ RDs.nil)
    refine o_call call124 Z Z (i_tlist_c _ _ (H.lendSubL [11]) _ (H.lendNs (k := 11) (ks := [11]) Z Z hNs z33.2 (List.mem_map_of_mem (List.mem_of_getElem? hz33))) (sn_ok hSn _ (List.mem_map_of_mem (List.mem_of_getElem? hz33))).1 (by have := (sn_ok hSn _ (List.mem_map_of_mem (List.mem_of_getElem? hz33))).2; omega)) ?_
    rintro _ w37 ⟨_, _, rfl, H37', ⟨F37, rfl, hO37⟩⟩
    have H := H.readersL H37'
    obtain ⟨e237, hP37⟩ := hO37
    obtain ⟨sa37, sc37, rfl⟩ := OwnS.shape hP37
    have hO37 := OIs.mk hP37
    refine ⟨_, Z, ?_⟩
    refine R_nil (N_DK (Kn.of' H hd36 (SubL.cons 1 Z (SubL.cons 5 Z (SubL.cons 7 Z (SubL.cons 8 Z SubL.nil))))) (RD_t 7 Z kR Z (fun _ hK => v_build bf81 Z Z) ?_))
    refine RD_run [8] kR Z (RDs.cons Z ?_ RDs.nil)
    refine o_buildSlice H underlying25 sizeOf81 (fun w => ⟨_, zeroValue81 w, Z⟩) Z Z Z Z Z Z Z ?_; intro b38 w38 hb38 H
    refine R_nil (N_DK (Kn.of' H hd36 (SubL.cons 2 Z (SubL.cons 6 Z (SubL.cons 8 Z (SubL.cons 9 Z SubL.nil))))) ?_)
    refine RD_run [9] kR Z (RDs.cons Z ?_ RDs.nil)
    refine o_append1 3 H (sz := 2) (bytes := 40) underlying25 typeInfo81 ⟨_, Z, Z⟩ Z Z Z Z Z Z Z Z Z Z oM Z ?_; intro v39 w39 H
    have hchk39 := hchk31_0.snoc (show snapO F37 ⟨z33.1, z33.2.flat []⟩ _ from ⟨_, _, _, rfl, hi33, hO37⟩) rfl
    have H := H.toFront (k := 2) rfl
    have H := H.mergeF
    obtain ⟨av39, cv39, rfl⟩ := H.accShape (k := 2) rfl
    refine R_nil (N_DK (Kn.of' H hd36 (SubL.cons 1 Z (SubL.cons 4 Z (SubL.cons 6 Z (SubL.cons 7 Z SubL.nil))))) (RD_t 10 Z kR Z (fun _ hK => v_fieldAddr 2 runUnderlying27 Z sizeOf25 Z Z) ?_))
    refine RD_run [11] kR Z (RDs.cons Z ?_ RDs.nil)
    refine o_store_B 4 H sizeOf25 Z Z Z Z Z Z Z Z ?_; intro w40 H
    refine R_nil (N_DKlast kR kR (N_B (N_K (W_region (o_add Z Z Z oO (mV Z (R_nil ?_)))))))
    have H := H.del (k := 1) rfl
    refine N_lp (hJ := ⟨_, _, _, (xs ++ [⟨z33.1, z33.2.flat []⟩]), (F ++ F37), k + 1, _, Z, hle31, H, ?inv, Z⟩) (hm := ?hm)
    case hm => omega
    case inv => exact ⟨hchk39, aN, (by exact ⟨by omega, by (rw [Sp.take_succ' hz33, List.map_append, ← hxs]; rfl)⟩)⟩
   intro hc32'
   try simp only [nrm] at hc32'
   refine W_exit (N_K_exit (N_LP_exit (N_B_same (N_K (q2 (o_loadagg_B 3 H isAgg27 sizeOf27 Z Z Z Z Z (o_store_B 5 H sizeOf27 Z Z Z Z Z Z Z Z ?_))))))); intro w42 H
   refine q3 (W_ret (ret_unlock 6 H muLib Z call91 Z Z (rs := [.cell 2 27]) results89 ?_)); intro wu5 H
   refine ⟨[_], ⟨⟨_, Z, load_blk 5 H isAgg27 sizeOf27 Z Z Z⟩, trivial⟩, ?_⟩
   have H := H.toFront (k := 1) rfl
   obtain ⟨Fo6, H, hOw6⟩ := H.ownF hchk31_0 aN aN
   have H := H.del (k := 2) rfl
   have H := H.del (k := 3) rfl
   have H := H.del (k := 3) rfl
   have H := H.del (k := 3) rfl
   have H := H.del (k := 3) rfl
   have H := H.del (k := 3) rfl
   have H := H.del (k := 3) rfl
   have H := H.toFront (k := 1) rfl
   have H := H.toFront (k := 2) rfl
   have hxs2 : xs = d.snaps := by (rw [hxs, List.take_of_length_le oM]; exact sn_list hSn)
   exact H.retM ⟨_, _, _, _, _, _, rfl, rfl, hO4, (by (rw [← hT.flat]); exact hO25), (by have h9 := (show OSn _ _ _ from ⟨_, hOw6⟩); (rw [hxs2] at h9); exact h9)⟩
 skip
 refine o_alloc H zeroValue27 Z Z ?_; intro b43 w43 hb43 H
 refine R_nil (N_DK (Kn.of' H hd3 (SubL.cons 1 Z (SubL.cons 2 Z SubL.nil))) ?_)
 refine RD_run [5] kR Z (RDs.cons Z ?_ RDs.nil)
 refine o_call call123 Z Z (i_slist_c _ _ (H.lendSubL [3]) _ _ _ _ _ (H.lendPredL (k := 3) (ks := [3]) Z Z) hm (hS.up (PPlus.le _ _ _)) hVd ) ?_
 rintro _ w44 ⟨_, _, rfl, H44', ⟨F44, rfl, hO44⟩⟩
 have H := H.readersL H44'
 obtain ⟨e244, hP44⟩ := hO44
 obtain ⟨sa44, sc44, rfl⟩ := OwnS.shape hP44
 have hO44 := OHs.mk hP44
 refine ⟨_, Z, ?_⟩
 refine R_nil (N_DK (Kn.of' H hd3 (SubL.cons 2 Z (SubL.cons 3 Z SubL.nil))) ?_)
 refine RD_run [11] kR Z (RDs.cons Z ?_ RDs.nil)
 refine o_call call124 Z Z (i_tlist_c _ _ (H.lendSubL [5]) _ ((H.lendN (k := 5) (ks := [5]) Z Z hN).at (show Nd.at_ T [] = some T from Z)) hT.wf oM) ?_
 rintro _ w45 ⟨_, _, rfl, H45', ⟨F45, rfl, hO45⟩⟩
 have H := H.readersL H45'
 obtain ⟨e245, hP45⟩ := hO45
 obtain ⟨sa45, sc45, rfl⟩ := OwnS.shape hP45
 have hO45 := OIs.mk hP45
 refine ⟨_, Z, ?_⟩
 refine R_nil (N_DK (Kn.of' H hd3 (SubL.cons 3 Z (SubL.cons 4 Z SubL.nil))) (RD_t 12 Z kR Z (fun _ hK => v_build bf27 Z Z) ?_))
 refine RD_run [14] kR Z (RDs.cons Z ?_ RDs.nil)
 refine o_store_B 2 H sizeOf27 Z Z Z Z Z Z Z Z ?_; intro w46 H
 refine R_nil (N_DKlast kR kR (N_K (W_seq (q2 (mV Z (o_nilCheck Z Z (o_fieldAddr 4 runUnderlying131 Z sizeOf129 Z Z Z (o_load_B 4 H isAgg129 Z Z Z Z (o_len_slice underlying129 Z Z (mV Z (q3 (W_block ?_))))))))))))
 have H := H.addNil 81 2
 have H := H.addF
 obtain ⟨ln48, hln48, H⟩ := H.nameAt (k := 4) (off := 2) rfl rfl
 obtain ⟨ln49, hln49, H⟩ := H.name (k := 5) rfl
 obtain ⟨ln50, hln50, H⟩ := H.name (k := 6) rfl
 refine W_lp (hf := (Sub.cons (t := 2) Z (Sub.cons (t := 3) Z (Sub.cons (t := 29) Z (Sub.cons (t := 30) Z Sub.nil))))) (J := fun M w m => ∃ (v : Value) (n : Nat) (cs : List Value) (xs : List (BSnap)) (F : Fr) (k : Nat) (G : PH), M = [(31, .int .i64 (k : Int))] ∧ PLe G0 G ∧ Hp w0 G0 (fps [blk db (cl [.int .i32 0, .int .u32 0, .map (some mb), .pointer (some ⟨T.b, 0, none⟩), .slice adv sn.length cdv] 131), blk mb (.map es ck), frag FT, acc 135 2 (.slice adv sn.length cdv) sn.length c, frag FSq]) w G [frag F, acc 81 2 v n cs, frag F45, frag F44, blk b43 (cl (setN ln48 2 v) 27), blk b1 (cl ln49 27), blk db (cl ln50 131), blk mb (.map es ck), frag FT, acc 135 2 (.slice adv sn.length cdv) sn.length c, frag FSq] ∧ (ChkF snapO 2 cs xs F ∧ n = xs.length ∧ k ≤ sn.length ∧ xs = (sn.take k).map (fun x => (⟨x.1, x.2.flat []⟩ : BSnap))) ∧ m = (sn.length - k)) (h0 := ⟨_, _, _, [], [], 0, _, Z, PLe.refl _, H, ?inv, Z⟩) (round := ?round)
 case inv => exact ⟨ChkF.nil,  by first | rfl | simp | (simp; omega) | omega, (by simp)⟩
 case round =>
  rintro _ w51 _ ⟨v, n, cs, xs, F, k, G51, rfl, hle51, H, hinv51, rfl⟩
  subst hln48
  subst hln49
  subst hln50
  have hchk := hchk.up hle51
  have hNs := hNs.up hle51
  obtain ⟨hchk51_0, hn51_0, hinv51⟩ := hinv51
  obtain ⟨av51_0, cv51_0, rfl⟩ := H.accShape (k := 1) rfl
  obtain ⟨hk, hxs⟩ := hinv51; have hxl6 : xs.length ≤ 6 := by (rw [hxs]; simp; omega)
  refine q2 (o_lss Z Z Z (q3 (W_seq ?_)))
  refine W_cond Z ?_ ?_
  ·intro hc52
   try simp only [nrm] at hc52
   refine W_skip (N_K (W_seq (W_block (q2 (o_index_A 9 H k Z hchk underlying129 sizeOf135 Z Z Z Z aN aN ?_))))); intro ba53 z53 q53 hba53 hz53 hE53 hg53; cases hba53
   obtain ⟨rfl, hi53⟩ := hE53; have hy_hi53 : _ ≤ 16777216 := hi53
   refine o_loadagg_A 9 H isAgg135 sizeOf135 Z Z Z hg53 Z (o_alloc H zeroValue135 Z Z ?_); intro b54 w54 hb54 H
   refine o_store_B 0 H sizeOf135 Z Z Z Z Z Z Z Z ?_; intro w55 H
   refine q3 (W_drawK [0, 5, 6, 7] 12 H kR Z ?_); intro w56 H; have hd56 := PLe.refl G51
   refine RD_t 0 Z kR Z (fun _ hK => v_fieldAddr 2 runUnderlying27 Z sizeOf25 Z Z) (RD_t 1 Z kR Z (fun _ hK => v_load_B 1 hK isAgg25 Z Z Z) (RD_t 2 Z kR Z (fun _ hK => v_fieldAddr 0 runUnderlying135 Z sizeOf9 Z Z) (RD_t 3 Z kR Z (fun _ hK => v_load_B 0 hK isAgg9 Z Z Z) (RD_t 4 Z kR Z (fun _ hK => v_fieldAddr 1 runUnderlying135 Z sizeOf97 Z Z) (RD_t 5 Z kR Z (fun _ hK => v_load_B 0 hK isAgg97 Z Z Z) ?_)))))
   refine RD_run [6] kR Z (RDs.cons Z ?_ RDs.nil)
   refine o_call call124 Z Z (i_tlist_c _ _ (H.lendSubL [11]) _ (H.lendNs (k := 11) (ks := [11]) Z Z hNs z53.2 (List.mem_map_of_mem (List.mem_of_getElem? hz53))) (sn_ok hSn _ (List.mem_map_of_mem (List.mem_of_getElem? hz53))).1 (by have := (sn_ok hSn _ (List.mem_map_of_mem (List.mem_of_getElem? hz53))).2; omega)) ?_
   rintro _ w57 ⟨_, _, rfl, H57', ⟨F57, rfl, hO57⟩⟩
   have H := H.readersL H57'
   obtain ⟨e257, hP57⟩ := hO57
   obtain ⟨sa57, sc57, rfl⟩ := OwnS.shape hP57
   have hO57 := OIs.mk hP57
   refine ⟨_, Z, ?_⟩
   refine R_nil (N_DK (Kn.of' H hd56 (SubL.cons 1 Z (SubL.cons 6 Z (SubL.cons 7 Z (SubL.cons 8 Z SubL.nil))))) (RD_t 7 Z kR Z (fun _ hK => v_build bf81 Z Z) ?_))
   refine RD_run [8] kR Z (RDs.cons Z ?_ RDs.nil)
   refine o_buildSlice H underlying25 sizeOf81 (fun w => ⟨_, zeroValue81 w, Z⟩) Z Z Z Z Z Z Z ?_; intro b58 w58 hb58 H
   refine R_nil (N_DK (Kn.of' H hd56 (SubL.cons 2 Z (SubL.cons 7 Z (SubL.cons 8 Z (SubL.cons 9 Z SubL.nil))))) ?_)
   refine RD_run [9] kR Z (RDs.cons Z ?_ RDs.nil)
   refine o_append1 3 H (sz := 2) (bytes := 40) underlying25 typeInfo81 ⟨_, Z, Z⟩ Z Z Z Z Z Z Z Z Z Z oM Z ?_; intro v59 w59 H
   have hchk59 := hchk51_0.snoc (show snapO F57 ⟨z53.1, z53.2.flat []⟩ _ from ⟨_, _, _, rfl, hi53, hO57⟩) rfl
   have H := H.toFront (k := 2) rfl
   have H := H.mergeF
   obtain ⟨av59, cv59, rfl⟩ := H.accShape (k := 2) rfl
   refine R_nil (N_DK (Kn.of' H hd56 (SubL.cons 1 Z (SubL.cons 5 Z (SubL.cons 6 Z (SubL.cons 7 Z SubL.nil))))) (RD_t 10 Z kR Z (fun _ hK => v_fieldAddr 2 runUnderlying27 Z sizeOf25 Z Z) ?_))
   refine RD_run [11] kR Z (RDs.cons Z ?_ RDs.nil)
   refine o_store_B 5 H sizeOf25 Z Z Z Z Z Z Z Z ?_; intro w60 H
   refine R_nil (N_DKlast kR kR (N_B (N_K (W_region (o_add Z Z Z oO (mV Z (R_nil ?_)))))))
   have H := H.del (k := 1) rfl
   refine N_lp (hJ := ⟨_, _, _, (xs ++ [⟨z53.1, z53.2.flat []⟩]), (F ++ F57), k + 1, _, Z, hle51, H, ?inv, Z⟩) (hm := ?hm)
   case hm => omega
   case inv => exact ⟨hchk59, aN, (by exact ⟨by omega, by (rw [Sp.take_succ' hz53, List.map_append, ← hxs]; rfl)⟩)⟩
  intro hc52'
  try simp only [nrm] at hc52'
  refine W_exit (N_K_exit (N_LP_exit (N_B_same (N_K (q2 (o_loadagg_B 4 H isAgg27 sizeOf27 Z Z Z Z Z (o_store_B 5 H sizeOf27 Z Z Z Z Z Z Z Z ?_))))))); intro w62 H
  refine q3 (W_ret (ret_unlock 6 H muLib Z call91 Z Z (rs := [.cell 2 27]) results89 ?_)); intro wu8 H
  refine ⟨[_], ⟨⟨_, Z, load_blk 5 H isAgg27 sizeOf27 Z Z Z⟩, trivial⟩, ?_⟩
  have H := H.toFront (k := 1) rfl
  obtain ⟨Fo9, H, hOw9⟩ := H.ownF hchk51_0 aN aN
  have H := H.del (k := 3) rfl
  have H := H.del (k := 3) rfl
  have H := H.del (k := 3) rfl
  have H := H.del (k := 3) rfl
  have H := H.del (k := 3) rfl
  have H := H.del (k := 3) rfl
  have H := H.del (k := 3) rfl
  have H := H.toFront (k := 1) rfl
  have H := H.toFront (k := 2) rfl
  have hxs2 : xs = d.snaps := by (rw [hxs, List.take_of_length_le oM]; exact sn_list hSn)
  exact H.retM ⟨_, _, _, _, _, _, rfl, rfl, hO44, (by (rw [← hT.flat]); exact hO45), (by have h9 := (show OSn _ _ _ from ⟨_, hOw9⟩); (rw [hxs2] at h9); exact h9)⟩
end Go.Proofs.Tst

namespace Go.Proofs.Tst
open Go Fw Tryz
end Go.Proofs.Tst

namespace Go.Proofs.Tst
open Go Fw Tryz
end Go.Proofs.Tst

namespace Go.Proofs.Tst
open Go Fw Tryz
end Go.Proofs.Tst

namespace Go.Proofs.Tst
open Go Fw Tryz
theorem i_next_c (w0 : World) (G0 : PH) (hG : PSub G0 w0) (rb : Nat) (ab : Option Addr) (kb : Nat) (bs : List Int) (p : Nat) (hbs : RdI G0 (.slice ab bs.length kb) bs) (hp : p ≤ bs.length) (hbl : bs.length ≤ 1000000) (hLent : Lent w0 G0 [blk rb (cl [.slice ab bs.length kb, .int .i64 (p : Int)] 195)])  :
  Calls Tryz.prog 160 #[.pointer (some ⟨rb, 0, none⟩)] w0 (RetM w0 G0 [rb] (fun G' v Bs => ∃ (u : Value) (c : List Value) (p' : Nat), v = u ∧ Bs = [acc 3 1 u (Sp.nextC bs p).length c, blk rb (cl [.slice ab bs.length kb, .int .i64 (p' : Int)] 195)] ∧ p' = min (p + 8) bs.length ∧ Chk intE 1 G' c (Sp.nextC bs p))) := by
 have H : Hp w0 G0 [rb] w0 G0 [blk rb (cl [.slice ab bs.length kb, .int .i64 (p : Int)] 195)] := hLent.hp
 refine calls_of_W (l := [.pointer (some ⟨rb, 0, none⟩)]) func160 Z ntmps160 Z (q2 (aG Z (q3 (W_seq (W_drawK [0] 12 H kR Z ?_))))); intro w1 H; have hd1 := PLe.refl G0
 refine vM 0 Z Z (RD_t 1 Z kR Z (fun _ hK => v_nilCheck Z) (RD_t 2 Z kR Z (fun _ hK => v_fieldAddr 1 runUnderlying195 Z sizeOf3 Z Z) (RD_t 3 Z kR Z (fun _ hK => v_load_B 0 hK isAgg3 Z Z Z) (RD_t 4 Z kR Z (fun _ hK => v_add Z Z oO) (vM 5 Z Z (RD_t 6 Z kR Z (fun _ hK => v_nilCheck Z) (RD_t 7 Z kR Z (fun _ hK => v_fieldAddr 0 runUnderlying195 Z sizeOf33 Z Z) (RD_t 8 Z kR Z (fun _ hK => v_load_B 0 hK isAgg33 Z Z Z) (RD_t 9 Z kR Z (fun _ hK => v_len_slice underlying33 Z) (RD_t 10 Z kR Z (fun _ hK => v_min Z Z) (RD_t 11 Z kR Z (fun _ hK => v_assign Z) (RD_done kR (N_K (W_seq (W_drawK [0] 12 H kR Z ?_))))))))))))))); intro w3 H; have hd3 := PLe.refl G0
 refine vM 0 Z Z (RD_t 1 Z kR Z (fun _ hK => v_nilCheck Z) (RD_t 2 Z kR Z (fun _ hK => v_fieldAddr 0 runUnderlying195 Z sizeOf33 Z Z) (RD_t 3 Z kR Z (fun _ hK => v_load_B 0 hK isAgg33 Z Z Z) (vM 4 Z Z (RD_t 5 Z kR Z (fun _ hK => v_nilCheck Z) (RD_t 6 Z kR Z (fun _ hK => v_fieldAddr 1 runUnderlying195 Z sizeOf3 Z Z) (RD_t 7 Z kR Z (fun _ hK => v_load_B 0 hK isAgg3 Z Z Z) (vM 8 Z Z ?_))))))))
 have hcap4 := hbs.cap; try simp only [List.length_set, List.length_append, List.length_take, List.length_drop, List.length_replicate] at hcap4
 have hsl4 := hbs.part (i := p) (j := (min (p + 8) bs.length)) oM oM
 have hsn1 := hsl4.len
 refine RD_t 9 Z kR Z (fun _ hK => v_slice (i := p) (j := (min (p + 8) bs.length)) underlying33 sizeOf3 Z Z Z oM oM aN aN) ?_
 refine RD_run [10] kR Z (RDs.cons Z ?_ RDs.nil)
 have H := H.addNil 3 1
 refine o_append_P 0 H hsl4 (by intro z cs hz u hu; obtain ⟨rfl, _⟩ := hz; simp at hu; subst hu; rfl) (sz := 1) (bytes := 8) underlying33 typeInfo3 ⟨_, rfl, rfl⟩ rfl rfl rfl rfl rfl rfl rfl oM rfl ?_; intro v5 w5 css5 hcl5 hcs5 H
 have hchk5 : Chk intE 1 G0 ([] ++ css5.flatten) _ := ⟨css5, rfl, hcl5, hcs5⟩
 obtain ⟨av5, cv5, rfl⟩ := H.accShape (k := 0) rfl
 refine R_nil (N_DK (Kn.of' H hd3 (SubL.cons 1 Z SubL.nil)) (RD_t 11 Z kR Z (fun _ hK => v_assign Z) (RD_done kR (N_K (q2 (mV Z (mV Z (o_nilCheck Z Z (o_fieldAddr 1 runUnderlying195 Z sizeOf3 Z Z Z (o_store_B 1 H sizeOf3 Z Z Z Z Z Z Z Z ?_)))))))))); intro w6 H
 refine q1 (mV Z (aG Z (q3 (W_ret (rt1 results160 Z ?_)))))
 have hcx : (Sp.nextC bs p).length = min (p + 8) bs.length - p := by unfold Sp.nextC; simp; omega
 have hpm : min ((p : Int) + 8) (bs.length : Int) = ((min (p + 8) bs.length : Nat) : Int) := by omega
 exact H.retM ⟨_, _, min (p + 8) bs.length, rfl, by rw [hcx, hpm]; simp only [Nat.zero_add]; rfl, rfl, hchk5⟩
theorem i_storeFile_c (w0 : World) (G0 : PH) (hG : PSub G0 w0) (mbs : Nat) (ess : Array MapEntry) (cks : Nat) (xss : List (Int × Value)) (Ls : List BHeld) (hms : MapIs (Value.int .i64) ess cks xss) (hSs : StR G0 xss Ls) (hVs : Sp.VH Ls) (vbytes : Value) (bytes : List (Int)) (hbytes : RdI G0 vbytes bytes) (hLent : Lent w0 G0 [blk mbs (.map ess cks)]) (hB : Sp.FileValid bytes = true) :
  Calls Tryz.prog 120 #[.map (some mbs), vbytes] w0 (RetM w0 G0 [mbs] (fun G' v Bs => ∃ (es' : Array MapEntry) (ck' : Nat) (xs' : List (Int × Value)) (L' : List BHeld) (u : Value) (c : List Value) (ids : List Int), v = .tuple #[u, .bool (Sp.FileStore Ls bytes).isSome] ∧ Bs = [acc 3 1 u ids.length c, blk mbs (.map es' ck')] ∧ MapIs (Value.int .i64) es' ck' xs' ∧ StR G' xs' L' ∧ Sp.VH L' ∧ (∀ r, Sp.FileStore Ls bytes = some r → r = (L', ids)) ∧ Chk intE 1 G' c ids ∧ ids.length ≤ 1000)) := by
 obtain ⟨abytes, kbytes, rfl⟩ := hbytes.shape
 have hlimbytes : bytes.length ≤ 1099511627776 := hbytes.lim
 have hBl : bytes.length ≤ 32 := by simp [Sp.FileValid] at hB; omega
 have H : Hp w0 G0 [mbs] w0 G0 [blk mbs (.map ess cks)] := hLent.hp
 refine calls_of_W (l := [.map (some mbs), .slice abytes bytes.length kbytes]) func120 Z ntmps120 Z (q2 (aG Z (aG Z (q1 (aG Z (q1 (mV Z (o_build bf195 Z Z Z (o_box H Z Z Z ?_))))))))); intro b1 w1 hb1 H
 refine aG Z (q3 (W_seq (q2 (mV Z (o_call call160 Z Z (i_next_c _ _ H.sub _ _ _ _ 0 hbytes oM oM H.lent1 ) ?_)))))
 rintro _ w2 ⟨G2, _, _, rfl, H2', ⟨u2, c2, p2, rfl, rfl, hp2, hchk2⟩⟩
 have hSs := hSs.up H2'.le
 have hbytes := hbytes.up H2'.le
 have H := H.borrow1 H2'
 obtain ⟨avr2, cvr2, rfl⟩ := H.accShape (k := 0) rfl
 refine ⟨_, Z, ?_⟩
 refine aG Z (q3 (W_block ?_))
 have H := H.addNil 3 1
 refine W_lp (hf := (Sub.cons (t := 0) Z (Sub.cons (t := 7) Z Sub.nil))) (J := fun M w m => ∃ (esm0 : Array MapEntry) (ckm0 : Nat) (xsm0 : List (Int × Value)) (Lm0 : List BHeld) (v : Value) (n : Nat) (cs : List Value) (xs : List (Int)) (v1 : Value) (n1 : Nat) (cs1 : List Value) (xs1 : List (Int)) (k p : Nat) (G : PH), M = [(6, v), (8, v1)] ∧ PLe G2 G ∧ Hp w0 G0 [mbs] w G [acc 3 1 v n cs, acc 3 1 v1 n1 cs1, blk b1 (cl [.slice abytes bytes.length kbytes, .int .i64 (p : Int)] 195), blk mbs (.map esm0 ckm0)] ∧ (MapIs (Value.int .i64) esm0 ckm0 xsm0 ∧ StR G xsm0 Lm0 ∧ Sp.VH Lm0 ∧ Chk intE 1 G cs xs ∧ n = xs.length ∧ Chk intE 1 G cs1 xs1 ∧ n1 = xs1.length ∧ xs1 = Sp.chunk bytes k ∧ p = min (8 * k + 8) bytes.length ∧ xs.length ≤ k ∧ k ≤ 100 ∧ Sp.foldB Sp.put1 ((Sp.l4Cut bytes).take k) (some (Ls, [])) = some (Lm0, xs)) ∧ m = (100 - k)) (h0 := ⟨_, _, xss, Ls, _, _, _, [], _, _, _, (Sp.nextC bytes 0), 0, _, _, Z, PLe.refl _, H, ?inv, Z⟩) (round := ?round)
 case inv => exact ⟨hms, hSs, hVs, (by exact ⟨(Chk.nil (E := intE) (sz := 1) (G := G2)), (by first | rfl | simp | (simp; omega) | omega), hchk2,  by first | rfl | simp | (simp; omega) | omega, (by exact ⟨Sp.next_zero _, by omega, by simp, by omega, by simp [Sp.foldB]⟩)⟩)⟩
 case round =>
  rintro _ w4 _ ⟨esm0, ckm0, xsm0, Lm0, v, n, cs, xs, v1, n1, cs1, xs1, k, p, G4, rfl, hle4, H, hinv4, rfl⟩
  have hbytes := hbytes.up hle4
  obtain ⟨hm4_m0, hS4_m0, hV4_m0, hinv4⟩ := hinv4
  obtain ⟨hchk4_0, hn4_0, hinv4⟩ := hinv4
  obtain ⟨av4_0, cv4_0, rfl⟩ := H.accShape (k := 0) rfl
  obtain ⟨hchk4_1, hn4_1, hinv4⟩ := hinv4
  obtain ⟨av4_1, cv4_1, rfl⟩ := H.accShape (k := 1) rfl
  obtain ⟨rfl, hpk, hxl, hk9, hf⟩ := hinv4; have hcl := Sp.chunk_len bytes k
  refine W_seq (q2 (mV Z (o_len_slice underlying33 Z Z (o_gtr Z Z Z (q3 ?_)))))
  refine W_cond Z ?_ ?_
  ·intro hc5
   try simp only [nrm] at hc5
   refine W_skip (N_K (W_seq (W_block (q2 (mV Z (mV Z ?_))))))
   obtain ⟨G7, H, hsg7, hsr7⟩ := H.shutL (k := 1) rfl (H.apart (k := 1) (ks := [3]) rfl rfl (by intro b hb; simpa [fpsAt, nth, blk] using hb)) hchk4_1 aN aN
   have hbytes := hbytes.up hsg7
   have hS4_m0 := hS4_m0.up hsg7
   have hchk4_0 := hchk4_0.up hsg7
   have hle4 := hle4.trans hsg7
   have H := H.toFront (k := 2) rfl
   refine o_call call161 Z Z (i_put_c _ _ H.sub _ _ _ _ _ hm4_m0 hS4_m0 hV4_m0 _ _ hsr7 H.lent1 (Sp.chunk_valid hB oM)) ?_
   rintro _ w6 ⟨G6, _, _, rfl, H6', ⟨es6, ck6, xs6, L6, i6, rfl, rfl, hm6, hS6, hV6, hL6, hii6, hir6⟩⟩
   have hbytes := hbytes.up H6'.le
   have hchk4_0 := hchk4_0.up H6'.le
   have hle4 := hle4.trans H6'.le
   have H := H.borrow1 H6'
   refine ⟨_, Z, ?_⟩
   refine mV Z (o_extract Z Z Z (o_extract Z Z Z (aG Z (aG Z (q3 (W_seq (q2 (mV Z (o_not Z Z (q3 ?_))))))))))
   refine W_cond Z ?_ ?_
   ·intro hc8
    try simp only [nrm] at hc8
    refine q2 (aG Z (aG Z (q3 (W_ret (N_K_ret (N_B_ret (N_K_ret (N_LP_ret (N_B_ret (N_K_ret (rt2 results120 Z Z ?_)))))))))))
    have hno : Sp.FileStore Ls bytes = none := by (have hno : Sp.StorePut Lm0 (Sp.chunk bytes k) = none := by simpa using hc8); simp only [Sp.FileStore, Sp.valid_iff.2 hVs, hB, Bool.and_self, if_true]; exact Sp.foldB_stop hf (Sp.chunks_at oM) (by simp [Sp.put1, hno])
    have H := H.addNil 3 1
    have H := H.del (k := 2) rfl
    have H := H.del (k := 2) rfl
    have H := H.toFront (k := 1) rfl
    have H := H.toFront (k := 1) rfl
    exact H.retM ⟨_, _, _, _, _, _, _, congrArg (fun b => Value.tuple #[_, Value.bool b]) (show _ = (Sp.FileStore Ls bytes).isSome by rw [hno]; rfl), acc_1 aN, hm6, hS6, hV6, (fun r hr => by rw [hno] at hr; cases hr), (Chk.nil (E := intE) (sz := 1) (G := G6)), by first | omega | (simp; done) | (simp; omega)⟩
   intro hc8'
   try simp only [nrm] at hc8'
   obtain ⟨⟨r1, r2⟩, hsp⟩ := Option.isSome_iff_exists.1 hc8'
   have hLp : L6 = r1 := by rw [hL6, hsp]; rfl
   subst hLp
   obtain rfl : i6 = r2 := (hir6 _ hsp).symm
   refine W_skip (N_K (W_region (mV Z (mV Z (o_buildSlice H underlying33 sizeOf3 (fun w => ⟨_, zeroValue3 w, Z⟩) Z Z Z Z Z Z Z ?_))))); intro b9 w9 hb9 H
   refine o_append1 1 H (sz := 1) (bytes := 8) underlying33 typeInfo3 ⟨_, Z, Z⟩ Z Z Z Z Z Z Z Z Z Z oM Z ?_; intro v10 w10 H
   have hchk10 := hchk4_0.snoc (show intE _ i6 _ from ⟨rfl, oO⟩) rfl
   obtain ⟨av10, cv10, rfl⟩ := H.accShape (k := 1) rfl
   refine aG Z (R_nil (N_B (N_K (W_region (mV Z ?_)))))
   have H := H.toFront (k := 2) rfl
   refine o_call call160 Z Z (i_next_c _ _ H.sub _ _ _ _ p hbytes oM oM H.lent1 ) ?_
   rintro _ w11 ⟨G11, _, _, rfl, H11', ⟨u11, c11, p11, rfl, rfl, hp11, hchk11⟩⟩
   have hS6 := hS6.up H11'.le
   have hchk10 := hchk10.up H11'.le
   have hle4 := hle4.trans H11'.le
   have H := H.borrow1 H11'
   obtain ⟨avr11, cvr11, rfl⟩ := H.accShape (k := 0) rfl
   refine ⟨_, Z, ?_⟩
   refine aG Z (R_nil ?_)
   have H := H.toFront (k := 2) rfl
   have H := H.toFront (k := 2) rfl
   have H := H.toFront (k := 2) rfl
   have H := H.toFront (k := 3) rfl
   refine N_lp (hJ := ⟨_, _, xs6, L6, _, _, _, (xs ++ [i6]), _, _, _, (Sp.nextC bytes p), k + 1, p11, _, Z, hle4, H, ?inv, Z⟩) (hm := ?hm)
   case hm => omega
   case inv => exact ⟨hm6, hS6, hV6, (by exact ⟨hchk10, aN, hchk11, aN, (by exact ⟨by rw [hpk]; exact Sp.next_chunk _ _, by omega, by simp; omega, by omega, Sp.foldB_succ hf (Sp.chunks_at oM) (by simp [Sp.put1, hsp])⟩)⟩)⟩
  intro hc5'
  try simp only [nrm] at hc5'
  refine W_exit (N_K_exit (N_LP_exit (N_B_same (N_K (q2 (mV Z (aG Z (aG Z (q3 (W_ret (rt2 results120 Z Z ?_)))))))))))
  have hyes : Sp.FileStore Ls bytes = some (Lm0, xs) := by simp only [Sp.FileStore, Sp.valid_iff.2 hVs, hB, Bool.and_self, if_true]; exact Sp.foldB_all hf (Sp.chunks_end oM)
  have H := H.del (k := 1) rfl
  have H := H.del (k := 1) rfl
  have H := H.toFront (k := 1) rfl
  have H := H.toFront (k := 1) rfl
  exact H.retM ⟨_, _, _, _, _, _, _, congrArg (fun b => Value.tuple #[_, Value.bool b]) (show _ = (Sp.FileStore Ls bytes).isSome by rw [hyes]; rfl), acc_1 aN, hm4_m0, hS4_m0, hV4_m0, (fun r hr => by rw [hyes] at hr; cases hr; rfl), hchk4_0, by first | omega | (simp; done) | (simp; omega)⟩
end Go.Proofs.Tst

namespace Go.Proofs.Tst
open Go Fw Tryz
theorem i_count_r : ∀ (N : Nat) (w0 : World) (G0 : PH) (hG : PSub G0 w0) (t : Nd) (hndt : RdN G0 t) (hct : t.cnt ≤ 100000) (hsz : t.size ≤ N),
  Calls Tryz.prog 162 #[.pointer (some ⟨t.b, 0, none⟩)] w0 (Rets w0 (.int .i64 (t.cnt : Nat))) := by
 intro N
 induction N with
 | zero => intro w0 G0 hG t hndt hct hsz; exact absurd (Nd.size_pos t) oM
 | succ N ih =>
 intro w0 G0 hG t hndt hct hsz
 obtain ⟨hnlt, nat, nmt, nct, nAt, nMt, nCt, hprt, hrit, hrkt⟩ := hndt.open
 have hn_hrit := hrit.len; have hx_hrit : _ ≤ 1099511627776 := hrit.lim
 have hn_hrkt := hrkt.len; have hx_hrkt : _ ≤ 1099511627776 := hrkt.lim
 subst hn_hrkt
 have H := Hp.init hG
 refine calls_of_W (l := [.pointer (some ⟨t.b, 0, none⟩)]) func162 Z ntmps162 Z (q2 (aG Z (q1 (mV Z (o_nilCheck Z Z (o_fieldAddr 3 runUnderlying149 Z sizeOf147 Z Z Z (o_load_P H isAgg147 Z Z (hprt 3 _ Z) (o_len_slice underlying147 Z Z (aG Z (q3 (W_seq (q2 (mV Z (o_nilCheck Z Z (o_fieldAddr 3 runUnderlying149 Z sizeOf147 Z Z Z ?_)))))))))))))))
 refine o_load_P H isAgg147 Z Z (hprt 3 _ Z) (o_len_slice underlying147 Z Z (mV Z (q3 (W_block ?_))))
 refine W_lp (hf := (Sub.cons (t := 2) Z (Sub.cons (t := 14) Z (Sub.cons (t := 15) Z Sub.nil)))) (J := fun M w m => ∃ (k mm : Nat) (G : PH), M = [(16, .int .i64 (k : Int)), (3, .int .i64 (mm : Int))] ∧ PLe G0 G ∧ Hp w0 G0 [] w G [] ∧ (k ≤ t.kids.length ∧ mm = Nd.cnts (t.kids.take k) + (t.kids.length - k)) ∧ m = (t.kids.length - k)) (h0 := ⟨0, t.kids.length, _, Z, PLe.refl _, H, ?inv, Z⟩) (round := ?round)
 case inv => simp [Nd.cnts]
 case round =>
  rintro _ w1 _ ⟨k, mm, G1, rfl, hle1, H, hinv1, rfl⟩
  have hrkt := hrkt.up hle1
  obtain ⟨hk, hm⟩ := hinv1; have hct2 := Nd.cnts_take t.kids k; have hct3 := Nd.cnt_eq t; have hkl := Nd.kids_le t
  refine q2 (o_lss Z Z Z (q3 (W_seq ?_)))
  refine W_cond Z ?_ ?_
  ·intro hc2
   try simp only [nrm] at hc2
   refine W_skip (N_K (W_seq (W_block (q2 (o_index_P k hrkt underlying147 sizeOf97 Z Z Z Z aN ?_))))); intro b3 o3 z3 q3 hz3 hE3 hrow3
   obtain ⟨rfl, hnd3⟩ := hE3; obtain ⟨hnl3, na3, nm3, nc3, nA3, nM3, nC3, hpr3, hri3, hrk3⟩ := hnd3.open; have hn_hri3 := hri3.len; have hx_hri3 : _ ≤ 1099511627776 := hri3.lim; have hn_hrk3 := hrk3.len; have hx_hrk3 : _ ≤ 1099511627776 := hrk3.lim
   have hzm := List.mem_of_getElem? hz3; have hzc := Nd.kid_cnt hzm; have hzs := Nd.size_kid hzm
   refine o_load_P H isAgg97 Z Z (hrow3 0 _ Z) (aG Z (q3 (W_region (mV Z (mV Z (o_call call162 Z Z (ih _ _ H.sub _ hnd3 oM oM) ?_))))))
   rintro _ w4 ⟨rfl, ew4⟩; have H := H.step ew4; refine ⟨_, rfl, ?_⟩
   refine o_add Z Z Z oO (aG Z (R_nil (N_B (N_K (W_region (o_add Z Z Z oO (mV Z (R_nil ?_))))))))
   refine N_lp (hJ := ⟨k + 1, (mm + z3.cnt), _, Z, hle1, H, ?inv, Z⟩) (hm := ?hm)
   case hm => omega
   case inv => exact ⟨by omega, by (rw [Nd.cnts_succ hz3]; omega)⟩
  intro hc2'
  try simp only [nrm] at hc2'
  refine W_exit (N_K_exit (N_LP_exit (N_B_same (N_K (q2 (mV Z (aG Z (q3 (W_ret (rt1 results162 Z ?_))))))))))
  exact H.rets (congrArg (fun j : Nat => Value.int .i64 (j : Int)) (by (rw [hm, List.take_of_length_le oM]); omega))
theorem i_count_c (w0 : World) (G0 : PH) (hG : PSub G0 w0) (t : Nd) (hndt : RdN G0 t) (hct : t.cnt ≤ 100000) :
  Calls Tryz.prog 162 #[.pointer (some ⟨t.b, 0, none⟩)] w0 (Rets w0 (.int .i64 (t.cnt : Nat))) := i_count_r _ w0 G0 hG t hndt hct (Nat.le_refl _)
theorem i_put_n_c (w0 : World) (G0 : PH) (hG : PSub G0 w0) (Ft : Fr) (t : Nd) (hNt : NdO 149 97 G0 t Ft) (cx : List Value) (x : BItem) (hx : itemE G0 x cx) (hLent : Lent w0 G0 [frag Ft]) (hwt : t.wf) (hct : t.cnt ≤ 1000) :
  Calls Tryz.prog 121 #[.pointer (some ⟨t.b, 0, none⟩), .agg cx.toArray] w0 (RetM w0 G0 (fps [frag Ft]) (fun G' v Bs => ∃ (nb : Nat) (F' : Fr) (t' : Nd), v = .bool (t.putN x nb).isSome ∧ Bs = [frag F'] ∧ NdO 149 97 G' t' F' ∧ t'.b = t.b ∧ (t.putN x nb).getD t = t')) := by
 obtain ⟨a1, m1, c1, rfl, hi1, hr1⟩ := hx; have hy_hi1 : _ ≤ 16777216 := hi1; have hn_hr1 := hr1.len; have hx_hr1 : _ ≤ 1099511627776 := hr1.lim
 have H : Hp w0 G0 (fps [frag Ft]) w0 G0 [frag Ft] := hLent.hp
 refine calls_of_W (l := [.pointer (some ⟨t.b, 0, none⟩), _]) func121 Z ntmps121 Z (q2 (o_box H Z Z Z ?_)); intro b2 w2 hb2 H
 refine aG Z (q1 (mV Z (o_fieldAddr 0 runUnderlying37 Z sizeOf9 Z Z Z (o_load_B 0 H isAgg9 Z Z Z Z (o_call call106 Z Z (i_find_n_c _ _ (H.lendSubL [1]) _ ((H.lendN (k := 1) (ks := [1]) Z Z hNt).at (show Nd.at_ t [] = some t from Z)) _ hi1 hwt) ?_)))))
 rintro _ w3 ⟨_, rfl, ew3, ⟨hfi3, rfl⟩ | ⟨d3, hfi3, rfl⟩⟩
 ·skip
  have H := H.step ew3; refine ⟨_, rfl, ?_⟩
  refine aG Z (q3 (W_seq (q2 (mV Z (o_eqnil_ptr underlying97 Z Z Z (q3 (W_true Z (q2 (mV Z (o_call call162 Z Z (i_count_c _ _ (H.lendSubL [1]) _ ((H.lendN (k := 1) (ks := [1]) Z Z hNt).at (show Nd.at_ t [] = some t from Z)) oM) ?_))))))))))
  rintro _ w4 ⟨rfl, ew4⟩; have H := H.step ew4; refine ⟨_, rfl, ?_⟩
  refine o_lss Z Z Z (mV Z ?_)
  refine R_case (t := 15) Z ?_ ?_
  ·intro hc5
   try simp only [nrm] at hc5
   refine gR Z (mV Z (gR Z (o_loadagg_B 0 H isAgg37 sizeOf37 Z Z Z Z Z (gR Z ?_))))
   have H := H.toFront (k := 1) rfl
   refine o_call call150 Z Z (i_insert_c _ _ H.sub _ _ hNt _ x ⟨_, _, _, Z, hi1, hr1⟩ H.lent1 hwt hct) ?_
   rintro _ w6 ⟨G6, _, _, rfl, H6', ⟨nb6, F6, t6, rfl, rfl, hN6, hb6, ht6⟩⟩
   have H := H.borrow1 H6'
   try rw [← hb6]
   refine ⟨_, Z, ?_⟩
   refine o_pick_t Z Z Z (aG Z (q3 (W_ret (N_K_ret (rt1 results121 Z ?_)))))
   have H := H.del (k := 1) rfl
   have hput := Nd.put_ins (nb := nb6) hfi3 oM
   exact H.retM ⟨nb6, _, _, by (rw [hput]; rfl), rfl, hN6, by (first | exact hb6 | rfl), by (rw [hput]; exact ht6)⟩
  intro hc5'
  try simp only [nrm] at hc5'
  refine rP Z (rP Z (rP Z (o_pick_f Z Z Z (aG Z (q3 (W_ret (N_K_ret (rt1 results121 Z ?_))))))))
  have H := H.del (k := 0) rfl
  have hput := Nd.put_no1 (nb := 0) hfi3 oM
  exact H.retM ⟨0, _, _, by (rw [hput]; rfl), rfl, hNt, rfl, by (rw [hput]; rfl)⟩
 skip
 have H := H.step ew3; refine ⟨_, rfl, ?_⟩
 refine aG Z (q3 (W_seq (q2 (mV Z (o_eqnil_ptr underlying97 Z Z Z (q3 (W_false Z (W_skip (N_K (W_seq (q2 ?_)))))))))))
 have H := H.toFront (k := 1) rfl
 obtain ⟨oa, om, oc, okv, oFs, oR, H, ohri, ohNs, ohnl, ohkl, hcov, hclose⟩ := Hp.openNode H hNt (Nd.find_at_ hfi3)
 obtain ⟨oak, ock, rfl⟩ := H.accShape (k := 1) rfl; have hdo := PLe.refl G0; have hn_ohri := ohri.len
 refine mV Z (o_nilCheck Z Z (o_fieldAddr 1 runUnderlying149 Z sizeOf4 Z Z Z (o_load_B 0 H isAgg4 Z Z Z Z (mV Z ?_))))
 refine R_case (t := 24) Z ?_ ?_
 ·intro hc7
  try simp only [nrm] at hc7
  refine rP Z (rP Z (o_pick_t Z Z Z (q3 (W_true Z (q2 (aG Z (q3 (W_ret (N_K_ret (rt1 results121 Z ?_))))))))))
  have H := H.del (k := 3) rfl
  have H := H.toFront (k := 2) rfl
  have H := H.toFront (k := 2) rfl
  have H := H.toFront (k := 2) rfl
  obtain ⟨F2, H, hN2, hb2⟩ := hclose (Fs' := oFs) H (List.Perm.refl _) hdo ohri ohNs oM
  have hN2 := (Nd.upd_same (Nd.find_at_ hfi3)) ▸ hN2
  have hput := Nd.put_no2 (x := x) (nb := 0) hfi3 (by simp_all)
  exact H.retM ⟨0, _, _, by (rw [hput]; rfl), rfl, hN2, rfl, by (rw [hput]; rfl)⟩
 intro hc7'
 try simp only [nrm] at hc7'
 refine gR Z (o_fieldAddr 1 runUnderlying37 Z sizeOf4 Z Z Z (gR Z (o_load_B 3 H isAgg4 Z Z Z Z (o_pick_f Z Z Z (q3 ?_)))))
 refine W_cond Z ?_ ?_
 ·intro hc8
  try simp only [nrm] at hc8
  refine q2 (aG Z (q3 (W_ret (N_K_ret (rt1 results121 Z ?_)))))
  have H := H.del (k := 3) rfl
  have H := H.toFront (k := 2) rfl
  have H := H.toFront (k := 2) rfl
  have H := H.toFront (k := 2) rfl
  obtain ⟨F2, H, hN2, hb2⟩ := hclose (Fs' := oFs) H (List.Perm.refl _) hdo ohri ohNs oM
  have hN2 := (Nd.upd_same (Nd.find_at_ hfi3)) ▸ hN2
  have hput := Nd.put_no2 (x := x) (nb := 0) hfi3 (by simp_all)
  exact H.retM ⟨0, _, _, by (rw [hput]; rfl), rfl, hN2, rfl, by (rw [hput]; rfl)⟩
 intro hc8'
 try simp only [nrm] at hc8'
 refine W_skip (N_K (q2 (mV Z (o_fieldAddr 2 runUnderlying37 Z sizeOf33 Z Z Z (o_load_B 3 H isAgg33 Z Z Z Z (o_call call141 Z Z (l_Clone_c _ _ H.sub _ _ hr1 ) ?_))))))
 rintro _ w9 ⟨G9, v9, _, g9, rfl, ⟨cs9, rfl, hchk9⟩, hp9, hq9, hs9⟩
 have H := H.growO g9 hp9 hq9 hs9; obtain ⟨av9, cv9, rfl⟩ := H.accShape (k := 0) rfl
 have ohNs := ohNs.up g9.le
 have hdo := hdo.trans g9.le
 refine ⟨_, Z, ?_⟩
 obtain ⟨G10, H, hsg10, hsr10⟩ := H.shutL (k := 0) rfl (H.apart (k := 0) (ks := [1, 2, 3]) rfl rfl (by intro b hb; rcases hcov b hb with h | h | h; (· exact fpsAt_mem (k := 1) rfl rfl b (by simp [blk, h])); (· exact fpsAt_mem (k := 2) rfl rfl b h); (· exact fpsAt_mem (k := 3) rfl rfl b h))) hchk9 aN aN
 have ohNs := ohNs.up hsg10
 have hdo := hdo.trans hsg10
 refine o_nilCheck Z Z (o_fieldAddr 2 runUnderlying149 Z sizeOf33 Z Z Z (o_store_B 0 H sizeOf33 Z Z Z Z Z Z Z Z ?_)); intro w11 H
 refine q1 (aG Z (q3 (W_ret (rt1 results121 Z ?_))))
 have H := H.del (k := 3) rfl
 have H := H.toFront (k := 2) rfl
 have H := H.toFront (k := 2) rfl
 have H := H.toFront (k := 2) rfl
 obtain ⟨F2, H, hN2, hb2⟩ := hclose (ids' := x.ids) (Fs' := oFs) H (List.Perm.refl _) hdo hsr10 ohNs oM
 have hput := Nd.put_set (nb := 0) hfi3 (by simp_all)
 exact H.retM ⟨0, _, _, by (rw [hput]; rfl), rfl, hN2, hb2, by (rw [hput]; rfl)⟩
end Go.Proofs.Tst

namespace Go.Proofs.Tst
open Go Fw Tryz
theorem i_vwrite_c (w0 : World) (G0 : PH) (hG : PSub G0 w0) (mb : Nat) (es : Array MapEntry) (ck : Nat) (xs : List (Int × Value)) (T : Nd) (FT : Fr) (L : List BHeld) (l : List BItem) (hm : MapIs (Value.int .i64) es ck xs) (hS : StR G0 xs L) (hN : NdO 149 97 G0 T FT) (hT : Nd.TOK T l) (hH : Sp.Hol L l) (path : Bs) (hpath : path.length ≤ 16777216) (vbytes : Value) (bytes : List (Int)) (hbytes : RdI G0 vbytes bytes) (hLent : Lent w0 G0 [blk mb (.map es ck), frag FT]) (hB : Sp.FileValid bytes = true) :
  Calls Tryz.prog 67 #[.agg #[.map (some mb), .pointer (some ⟨T.b, 0, none⟩)], str path, vbytes] w0 (RetM w0 G0 (fps [blk mb (.map es ck), frag FT]) (fun G' v Bs => ∃ (es' : Array MapEntry) (ck' : Nat) (xs' : List (Int × Value)) (F' : Fr) (T' : Nd) (L' : List BHeld), v = .bool ((Sp.l11Write ⟨L, l⟩ path bytes)).isSome ∧ Bs = [blk mb (.map es' ck'), frag F'] ∧ MapIs (Value.int .i64) es' ck' xs' ∧ StR G' xs' L' ∧ Sp.VH L' ∧ NdO 149 97 G' T' F' ∧ T'.b = T.b ∧ ∀ u', (Sp.l11Write ⟨L, l⟩ path bytes) = some u' → L' = u'.store ∧ Nd.TOK T' u'.tree ∧ Sp.Hol u'.store u'.tree)) := by
 obtain ⟨abytes, kbytes, rfl⟩ := hbytes.shape
 have hlimbytes : bytes.length ≤ 1099511627776 := hbytes.lim
 have H : Hp w0 G0 (fps [blk mb (.map es ck), frag FT]) w0 G0 [blk mb (.map es ck), frag FT] := hLent.hp
 have hVd := hH.vh; have hTc := hT.cnt; have hTl := hH.vt.len
 refine calls_of_W (l := [_, str path, .slice abytes bytes.length kbytes]) func67 Z ntmps67 Z (q2 (o_box H Z Z Z ?_)); intro b1 w1 hb1 H
 refine aG Z (q3 (W_seq (q2 (mV Z (o_call call119 Z Z (i_PathValid_c _ _ H.sub _ hpath ) ?_)))))
 rintro _ w2 ⟨rfl, ew2⟩; have H := H.step ew2; refine ⟨_, rfl, ?_⟩
 refine o_not Z Z (q3 ?_)
 refine W_cond Z ?_ ?_
 ·intro hc3
  try simp only [nrm] at hc3
  refine q2 (aG Z (q3 (W_ret (N_K_ret (rt1 results67 Z ?_)))))
  have H := H.del (k := 0) rfl
  have H := H.toFront (k := 1) rfl
  have H := H.toFront (k := 1) rfl
  have hno : Sp.l11Write ⟨L, l⟩ path bytes = none := Sp.write_nop (by simpa using hc3)
  exact H.retM ⟨_, _, _, _, _, _, congrArg Value.bool (by (rw [hno]; rfl)), rfl, hm, hS, hVd, hN, rfl, fun u' h => (by rw [hno] at h; cases h)⟩
 intro hc3'
 try simp only [nrm] at hc3'
 refine W_skip (N_K (q2 (o_fieldAddr 0 runUnderlying99 Z sizeOf96 Z Z Z (o_load_B 0 H isAgg96 Z Z Z Z (mV Z ?_)))))
 have H := H.toFront (k := 1) rfl
 refine o_call call120 Z Z (i_storeFile_c _ _ H.sub _ _ _ _ _ hm hS hVd _ _ hbytes H.lent1 hB) ?_
 rintro _ w4 ⟨G4, _, _, rfl, H4', ⟨es4, ck4, xs4, L4, u4, c4, ids4, rfl, rfl, hm4, hS4, hV4, hL4, hchk4, hidl4⟩⟩
 have hN := hN.up H4'.le
 have H := H.borrow1 H4'
 obtain ⟨avr4, cvr4, rfl⟩ := H.accShape (k := 0) rfl
 refine ⟨_, Z, ?_⟩
 refine mV Z (o_extract Z Z Z (o_extract Z Z Z (aG Z (aG Z (q3 (W_seq (q2 (mV Z (o_not Z Z (q3 ?_))))))))))
 refine W_cond Z ?_ ?_
 ·intro hc5
  try simp only [nrm] at hc5
  refine q2 (aG Z (q3 (W_ret (N_K_ret (rt1 results67 Z ?_)))))
  have H := H.del (k := 0) rfl
  have H := H.del (k := 1) rfl
  have H := H.toFront (k := 1) rfl
  have H := H.toFront (k := 1) rfl
  have hno : Sp.l11Write ⟨L, l⟩ path bytes = none := Sp.l11Write_1 (v := ⟨L, l⟩) (by simpa using hc5)
  exact H.retM ⟨_, _, _, _, _, _, congrArg Value.bool (by (rw [hno]; rfl)), rfl, hm4, hS4, hV4, hN, rfl, fun u' h => (by rw [hno] at h; cases h)⟩
 intro hc5'
 try simp only [nrm] at hc5'
 refine W_skip (N_K (q2 ?_))
 obtain ⟨G6, H, hsg6, hsr6⟩ := H.shutL (k := 0) rfl (H.apart (k := 0) (ks := [1, 3]) rfl rfl (by intro b hb; simp only [fps, List.flatMap_cons, List.flatMap_nil, List.append_nil, List.mem_append] at hb; rcases hb with h | h; (· exact fpsAt_mem (k := 1) rfl rfl b (by exact h)); (· exact fpsAt_mem (k := 3) rfl rfl b (by exact h)))) hchk4 aN aN
 have hN := hN.up hsg6
 have hS4 := hS4.up hsg6
 refine aG Z (q3 (W_seq (q2 (o_fieldAddr 1 runUnderlying99 Z sizeOf97 Z Z Z (o_load_B 1 H isAgg97 Z Z Z Z (mV Z (o_call call106 Z Z (i_find_n_c _ _ (H.lendSubL [2]) _ ((H.lendN (k := 2) (ks := [2]) Z Z hN).at (show Nd.at_ T [] = some T from Z)) _ hpath hT.wf) ?_)))))))
 rintro _ w7 ⟨_, rfl, ew7, ⟨hfi7, rfl⟩ | ⟨d7, hfi7, rfl⟩⟩
 ·skip
  have H := H.step ew7; refine ⟨_, rfl, ?_⟩
  refine aG Z (q1 (mV Z (o_nenil_ptr underlying97 Z Z Z (q3 (W_false Z (W_skip (N_K (q2 (o_fieldAddr 1 runUnderlying99 Z sizeOf97 Z Z Z (o_load_B 1 H isAgg97 Z Z Z Z (mV Z (mV Z (o_build bf37 Z Z Z ?_)))))))))))))
  have H := H.toFront (k := 2) rfl
  refine o_call call121 Z Z (i_put_n_c _ _ H.sub _ _ hN _ ⟨path, false, ids4⟩ ⟨_, _, _, Z, hpath, hsr6⟩ H.lent1 hT.wf oM) ?_
  rintro _ w8 ⟨G8, _, _, rfl, H8', ⟨nb8, F8, t8, rfl, rfl, hN8, hb8, ht8⟩⟩
  have hS4 := hS4.up H8'.le
  have H := H.borrow1 H8'
  try rw [← hb8]
  refine ⟨_, Z, ?_⟩
  refine mV Z ?_
  refine R_case (t := 39) Z ?_ ?_
  ·intro hc9
   try simp only [nrm] at hc9
   refine gR Z (o_fieldAddr 0 runUnderlying99 Z sizeOf96 Z Z Z (gR Z (o_load_B 2 H isAgg96 Z Z Z Z (gR Z (mV Z (gR Z ?_))))))
   have H := H.toFront (k := 1) rfl
   refine o_call call122 Z Z (i_freeFile_c _ _ H.sub _ _ _ _ _ hm4 hS4 hV4 _ _ (RdS.nil _ _ _) H.lent1 ) ?_
   rintro _ w10 ⟨G10, _, _, rfl, H10', ⟨es10, ck10, xs10, L10, rfl, rfl, hm10, hS10, hV10, hL10⟩⟩
   have hN8 := hN8.up H10'.le
   have H := H.borrow1 H10'
   refine ⟨_, Z, ?_⟩
   refine o_pick_t Z Z Z (aG Z (q3 (W_ret (rt1 results67 Z ?_))))
   have H := H.del (k := 2) rfl
   have H := H.toFront (k := 1) rfl
   have H := H.toFront (k := 1) rfl
   obtain ⟨r, hr⟩ := Option.isSome_iff_exists.1 (show (Sp.FileStore L bytes).isSome = true by simpa using hc5')
   have hst : Sp.FileStore L bytes = some (L4, ids4) := hr.trans (congrArg some (hL4 r hr))
   have hpt : T.putN ⟨path, false, ids4⟩ nb8 = some t8 := by (obtain ⟨q, hq⟩ := Option.isSome_iff_exists.1 (show (T.putN ⟨path, false, ids4⟩ nb8).isSome = true by simpa using hc9); (rw [← ht8, hq]; rfl))
   obtain ⟨s', tt, g1, g2, g3, g4⟩ := Sp.write_fin hH hT (show Sp.PathValid path = true by simpa using hc3') hst hpt (.inl ⟨hfi7, rfl⟩)
   exact H.retM ⟨_, _, _, _, _, _, congrArg Value.bool (by (rw [g1, g2]; rfl)), rfl, hm10, hS10, hV10, hN8, (by first | rfl | exact hb8), fun u' h => (by rw [g2] at h; cases h; exact ⟨hL10 _ g1, g3, g4⟩)⟩
  intro hc9'
  try simp only [nrm] at hc9'
  refine rP Z (rP Z (rP Z (rP Z (o_pick_f Z Z Z (aG Z (q3 (W_ret (rt1 results67 Z ?_))))))))
  have H := H.del (k := 2) rfl
  have H := H.toFront (k := 1) rfl
  obtain ⟨r, hr⟩ := Option.isSome_iff_exists.1 (show (Sp.FileStore L bytes).isSome = true by simpa using hc5')
  have hst : Sp.FileStore L bytes = some (L4, ids4) := hr.trans (congrArg some (hL4 r hr))
  have hno : Sp.l11Write ⟨L, l⟩ path bytes = none := Sp.write_no2 (nb := nb8) hH hT (show Sp.PathValid path = true by simpa using hc3') hst (by simpa using hc9')
  exact H.retM ⟨_, _, _, _, _, _, congrArg Value.bool (by (rw [hno]; rfl)), rfl, hm4, hS4, hV4, hN8, (by first | rfl | exact hb8), fun u' h => (by rw [hno] at h; cases h)⟩
 skip
 have H := H.step ew7; refine ⟨_, rfl, ?_⟩
 refine aG Z (q1 (mV Z (o_nenil_ptr underlying97 Z Z Z (q3 (W_true Z (W_region ?_))))))
 have H := H.toFront (k := 2) rfl
 obtain ⟨oa, om, oc, okv, oFs, oR, H, ohri, ohNs, ohnl, ohkl, hcov, hclose⟩ := Hp.openNode H hN (Nd.find_at_ hfi7)
 obtain ⟨oak, ock, rfl⟩ := H.accShape (k := 1) rfl; have hdo := PLe.refl G6; have hn_ohri := ohri.len
 refine mV Z (o_nilCheck Z Z (o_fieldAddr 2 runUnderlying149 Z sizeOf33 Z Z Z (o_load_B 0 H isAgg33 Z Z Z Z (aG Z (q1 ?_)))))
 have H := H.toFront (k := 4) rfl
 have H := H.toFront (k := 4) rfl
 have H := H.toFront (k := 4) rfl
 have H := H.toFront (k := 4) rfl
 have H := H.toFront (k := 4) rfl
 obtain ⟨F2, H, hN2, hb2⟩ := hclose (Fs' := oFs) H (List.Perm.refl _) hdo ohri ohNs oM
 have hN2 := (Nd.upd_same (Nd.find_at_ hfi7)) ▸ hN2
 refine o_fieldAddr 1 runUnderlying99 Z sizeOf97 Z Z Z (o_load_B 2 H isAgg97 Z Z Z Z (mV Z (mV Z (o_build bf37 Z Z Z (o_call call121 Z Z (i_put_n_c _ _ H.sub _ _ hN2 _ ⟨path, false, ids4⟩ ⟨_, _, _, Z, hpath, hsr6⟩ H.lent1 hT.wf oM) ?_)))))
 rintro _ w11 ⟨G11, _, _, rfl, H11', ⟨nb11, F11, t11, rfl, rfl, hN11, hb11, ht11⟩⟩
 have hS4 := hS4.up H11'.le
 have ohri := ohri.up H11'.le
 have H := H.borrow1 H11'
 try rw [← hb11]
 refine ⟨_, Z, ?_⟩
 refine mV Z ?_
 refine R_case (t := 39) Z ?_ ?_
 ·intro hc12
  try simp only [nrm] at hc12
  refine gR Z (o_fieldAddr 0 runUnderlying99 Z sizeOf96 Z Z Z (gR Z (o_load_B 2 H isAgg96 Z Z Z Z (gR Z (mV Z (gR Z ?_))))))
  have H := H.toFront (k := 1) rfl
  refine o_call call122 Z Z (i_freeFile_c _ _ H.sub _ _ _ _ _ hm4 hS4 hV4 _ _ ohri H.lent1 ) ?_
  rintro _ w13 ⟨G13, _, _, rfl, H13', ⟨es13, ck13, xs13, L13, rfl, rfl, hm13, hS13, hV13, hL13⟩⟩
  have hN11 := hN11.up H13'.le
  have H := H.borrow1 H13'
  refine ⟨_, Z, ?_⟩
  refine o_pick_t Z Z Z (aG Z (q3 (W_ret (rt1 results67 Z ?_))))
  have H := H.del (k := 2) rfl
  have H := H.toFront (k := 1) rfl
  have H := H.toFront (k := 1) rfl
  obtain ⟨r, hr⟩ := Option.isSome_iff_exists.1 (show (Sp.FileStore L bytes).isSome = true by simpa using hc5')
  have hst : Sp.FileStore L bytes = some (L4, ids4) := hr.trans (congrArg some (hL4 r hr))
  have hpt : T.putN ⟨path, false, ids4⟩ nb11 = some t11 := by (obtain ⟨q, hq⟩ := Option.isSome_iff_exists.1 (show (T.putN ⟨path, false, ids4⟩ nb11).isSome = true by simpa using hc12); (rw [← ht11, hq]; rfl))
  obtain ⟨s', tt, g1, g2, g3, g4⟩ := Sp.write_fin hH hT (show Sp.PathValid path = true by simpa using hc3') hst hpt (.inr ⟨d7, hfi7, rfl⟩)
  exact H.retM ⟨_, _, _, _, _, _, congrArg Value.bool (by (rw [g1, g2]; rfl)), rfl, hm13, hS13, hV13, hN11, (by first | rfl | exact hb11), fun u' h => (by rw [g2] at h; cases h; exact ⟨hL13 _ g1, g3, g4⟩)⟩
 intro hc12'
 try simp only [nrm] at hc12'
 refine rP Z (rP Z (rP Z (rP Z (o_pick_f Z Z Z (aG Z (q3 (W_ret (rt1 results67 Z ?_))))))))
 have H := H.del (k := 2) rfl
 have H := H.toFront (k := 1) rfl
 obtain ⟨r, hr⟩ := Option.isSome_iff_exists.1 (show (Sp.FileStore L bytes).isSome = true by simpa using hc5')
 have hst : Sp.FileStore L bytes = some (L4, ids4) := hr.trans (congrArg some (hL4 r hr))
 have hno : Sp.l11Write ⟨L, l⟩ path bytes = none := Sp.write_no2 (nb := nb11) hH hT (show Sp.PathValid path = true by simpa using hc3') hst (by simpa using hc12')
 exact H.retM ⟨_, _, _, _, _, _, congrArg Value.bool (by (rw [hno]; rfl)), rfl, hm4, hS4, hV4, hN11, (by first | rfl | exact hb11), fun u' h => (by rw [hno] at h; cases h)⟩
end Go.Proofs.Tst

namespace Go.Proofs.Tst
open Go Fw Tryz
theorem i_dwrite_c (w0 : World) (G0 : PH) (hG : PSub G0 w0) (db mb : Nat) (es : Array MapEntry) (ck : Nat) (xs : List (Int × Value)) (T : Nd) (FT : Fr) (sv : Value) (sn : List (Bs × Nd)) (c : List Value) (FSq : Fr) (d : BDisk) (hm : MapIs (Value.int .i64) es ck xs) (hS : StR G0 xs d.store) (hN : NdO 149 97 G0 T FT) (hT : Nd.TOK T d.tree) (hchk : Chk osE 2 G0 c sn) (hNs : NdsO 149 97 G0 (sn.map (·.2)) FSq) (hSn : SnOK sn d.snaps) (hdv : Sp.DiskValid d = true) (path : Bs) (hpath : path.length ≤ 16777216) (vbytes : Value) (bytes : List (Int)) (hbytes : RdI G0 vbytes bytes) (hLent : Lent w0 G0 [blk db (cl [.int .i32 0, .int .u32 0, .map (some mb), .pointer (some ⟨T.b, 0, none⟩), sv] 131), blk mb (.map es ck), frag FT, acc 135 2 sv sn.length c, frag FSq])  :
  Calls Tryz.prog 62 #[.pointer (some ⟨db, 0, none⟩), str path, vbytes] w0 (RetM w0 G0 (fps [blk db (cl [.int .i32 0, .int .u32 0, .map (some mb), .pointer (some ⟨T.b, 0, none⟩), sv] 131), blk mb (.map es ck), frag FT, acc 135 2 sv sn.length c, frag FSq]) (fun G' v Bs => ∃ (es' : Array MapEntry) (ck' : Nat) (xs' : List (Int × Value)) (F' : Fr) (T' : Nd) (sv' : Value) (sn' : List (Fw.Bs × Nd)) (c' : List Value) (FSq' : Fr) (L' : List BHeld), v = .bool (Sp.DiskWrite d path bytes).isSome ∧ Bs = [blk db (cl [.int .i32 0, .int .u32 0, .map (some mb), .pointer (some ⟨T'.b, 0, none⟩), sv'] 131), blk mb (.map es' ck'), frag F', acc 135 2 sv' sn'.length c', frag FSq'] ∧ MapIs (Value.int .i64) es' ck' xs' ∧ StR G' xs' L' ∧ Sp.VH L' ∧ NdO 149 97 G' T' F' ∧ Chk osE 2 G' c' sn' ∧ NdsO 149 97 G' (sn'.map (·.2)) FSq' ∧ ∀ d', Sp.DiskWrite d path bytes = some d' → L' = d'.store ∧ Nd.TOK T' d'.tree ∧ SnOK sn' d'.snaps)) := by
 obtain ⟨abytes, kbytes, rfl⟩ := hbytes.shape
 have hlimbytes : bytes.length ≤ 1099511627776 := hbytes.lim
 have H : Hp w0 G0 (fps [blk db (cl [.int .i32 0, .int .u32 0, .map (some mb), .pointer (some ⟨T.b, 0, none⟩), sv] 131), blk mb (.map es ck), frag FT, acc 135 2 sv sn.length c, frag FSq]) w0 G0 [blk db (cl [.int .i32 0, .int .u32 0, .map (some mb), .pointer (some ⟨T.b, 0, none⟩), sv] 131), blk mb (.map es ck), frag FT, acc 135 2 sv sn.length c, frag FSq] := hLent.hp
 obtain ⟨adv, cdv, rfl⟩ := H.accShape (k := 3) rfl; have hVd := Sp.valid_iff.1 (Sp.dv_parts.1 hdv).1; have hTv := (Sp.dv_parts.1 hdv).2.1; have hTc := hT.cnt; have hTl := Sp.tree_len hTv; have hsnl := hSn.len; have hsn6 := (Sp.dv_parts.1 hdv).2.2.1
 have hHd := Sp.DHol.hol (ts := d.snaps.map (·.tree)) (Sp.dd_iff.1 hdv).2
 refine calls_of_WD (l := [.pointer (some ⟨db, 0, none⟩), str path, .slice abytes bytes.length kbytes]) func62 Z ntmps62 Z (q2 (aG Z (q1 (mV Z (o_nilCheck Z Z (o_fieldAddr 0 runUnderlying131 Z sizeOf128 Z Z Z (o_lock 0 H muLib Z call90 Z Z Z Z ?_))))))); intro w1 H
 refine q1 (mV Z (o_nilCheck Z Z (o_fieldAddr 0 runUnderlying131 Z sizeOf128 Z Z Z (o_defer Z (q1 (mV Z (o_call call66 Z Z (i_FileValid_c _ _ H.sub _ _ hbytes ) ?_)))))))
 rintro _ w2 ⟨rfl, ew2⟩; have H := H.step ew2; refine ⟨_, rfl, ?_⟩
 refine mV Z ?_
 refine R_case (t := 16) Z ?_ ?_
 ·intro hc3
  try simp only [nrm] at hc3
  refine gR Z (mV Z (gR Z (o_nilCheck Z Z (gR Z (o_fieldAddr 2 runUnderlying131 Z sizeOf99 Z Z Z (gR Z (o_loadagg_B 0 H isAgg99 sizeOf99 Z Z Z Z Z (gR Z (mV Z (gR Z (mV Z (gR Z ?_))))))))))))
  have H := H.toFront (k := 2) rfl
  have H := H.toFront (k := 2) rfl
  refine o_call call67 Z Z (i_vwrite_c _ _ H.sub _ _ _ _ _ _ _ _ hm hS hN hT hHd _ hpath _ _ hbytes H.lent2 (by assumption)) ?_
  rintro _ w4 ⟨G4, _, _, rfl, H4', ⟨es4, ck4, xs4, F4, T4, L4, rfl, rfl, hm4, hS4, hV4, hN4, hb4, hu4⟩⟩
  have hchk := hchk.up H4'.le
  have hNs := hNs.up H4'.le
  have H := H.borrow2 H4'
  try rw [← hb4]
  try rw [← hb4] at H
  refine ⟨_, Z, ?_⟩
  refine o_pick_t Z Z Z (aG Z (q3 (W_ret (ret_unlock 2 H muLib Z call91 Z Z (rs := [.tmp 6]) results62 ?_)))); intro wu1 H
  refine ⟨[_], ⟨Z, trivial⟩, ?_⟩
  have H := H.toFront (k := 4) rfl
  have H := H.toFront (k := 4) rfl
  have H := H.toFront (k := 3) rfl
  have H := H.toFront (k := 3) rfl
  have H := H.toFront (k := 4) rfl
  exact H.retM ⟨_, _, _, _, T4, _, sn, _, _, L4, congrArg Value.bool (by simp [Sp.DiskWrite, hdv, hc3]), rfl, hm4, hS4, hV4, hN4, hchk, hNs, fun d2 h => (by obtain ⟨_, _, v2, h1, rfl⟩ := Sp.dwrite_get h; obtain ⟨g1, g2, _⟩ := hu4 v2 h1; exact ⟨g1, g2, hSn⟩)⟩
 intro hc3'
 try simp only [nrm] at hc3'
 refine rP Z (rP Z (rP Z (rP Z (rP Z (rP Z (rP Z (o_pick_f Z Z Z (aG Z (q3 (W_ret (ret_unlock 0 H muLib Z call91 Z Z (rs := [.tmp 6]) results62 ?_))))))))))); intro wu2 H
 refine ⟨[_], ⟨Z, trivial⟩, ?_⟩
 have H := H.toFront (k := 4) rfl
 have H := H.toFront (k := 4) rfl
 have H := H.toFront (k := 4) rfl
 have H := H.toFront (k := 4) rfl
 have H := H.toFront (k := 4) rfl
 have hno : Sp.DiskWrite d path bytes = none := by simp [Sp.DiskWrite, hc3']
 exact H.retM ⟨_, _, _, _, T, _, sn, _, _, d.store, congrArg Value.bool (by (rw [hno]; rfl)), rfl, hm, hS, hVd, hN, hchk, hNs, fun d2 h => (by rw [hno] at h; cases h)⟩
end Go.Proofs.Tst

namespace Go.Proofs.Tst
open Go Fw Tryz
theorem i_DiskWrite1_c (w0 : World) (G0 : PH) (hG : PSub G0 w0) (db mb : Nat) (es : Array MapEntry) (ck : Nat) (xs : List (Int × Value)) (T : Nd) (FT : Fr) (sv : Value) (sn : List (Bs × Nd)) (c : List Value) (FSq : Fr) (d : BDisk) (hm : MapIs (Value.int .i64) es ck xs) (hS : StR G0 xs d.store) (hN : NdO 149 97 G0 T FT) (hT : Nd.TOK T d.tree) (hchk : Chk osE 2 G0 c sn) (hNs : NdsO 149 97 G0 (sn.map (·.2)) FSq) (hSn : SnOK sn d.snaps) (hdv : Sp.DiskValid d = true) (cp : Nat) (path : Bs) (hpath : path.length ≤ 16777216) (hcp : PRow G0 cp 0 [str path]) (cq : Nat) (abytes : Option Addr) (bytes : List Int) (kbytes : Nat) (hcq : PRow G0 cq 0 [.slice abytes bytes.length kbytes]) (hbytes : RdI G0 (.slice abytes bytes.length kbytes) bytes) (hLent : Lent w0 G0 [blk db (cl [.int .i32 0, .int .u32 0, .map (some mb), .pointer (some ⟨T.b, 0, none⟩), sv] 131), blk mb (.map es ck), frag FT, acc 135 2 sv sn.length c, frag FSq])  :
  Calls Tryz.prog 61 #[.pointer (some ⟨db, 0, none⟩), .pointer (some ⟨cp, 0, none⟩), .pointer (some ⟨cq, 0, none⟩)] w0 (RetM w0 G0 (fps [blk db (cl [.int .i32 0, .int .u32 0, .map (some mb), .pointer (some ⟨T.b, 0, none⟩), sv] 131), blk mb (.map es ck), frag FT, acc 135 2 sv sn.length c, frag FSq]) (fun G' v Bs => ∃ (es' : Array MapEntry) (ck' : Nat) (xs' : List (Int × Value)) (F' : Fr) (T' : Nd) (sv' : Value) (sn' : List (Fw.Bs × Nd)) (c' : List Value) (FSq' : Fr) (L' : List BHeld), v = .bool (Sp.DiskWrite d path bytes).isSome ∧ Bs = [blk db (cl [.int .i32 0, .int .u32 0, .map (some mb), .pointer (some ⟨T'.b, 0, none⟩), sv'] 131), blk mb (.map es' ck'), frag F', acc 135 2 sv' sn'.length c', frag FSq'] ∧ MapIs (Value.int .i64) es' ck' xs' ∧ StR G' xs' L' ∧ Sp.VH L' ∧ NdO 149 97 G' T' F' ∧ Chk osE 2 G' c' sn' ∧ NdsO 149 97 G' (sn'.map (·.2)) FSq' ∧ ∀ d', Sp.DiskWrite d path bytes = some d' → L' = d'.store ∧ Nd.TOK T' d'.tree ∧ SnOK sn' d'.snaps)) := by
 have hlimbytes : bytes.length ≤ 1099511627776 := hbytes.lim
 have H : Hp w0 G0 (fps [blk db (cl [.int .i32 0, .int .u32 0, .map (some mb), .pointer (some ⟨T.b, 0, none⟩), sv] 131), blk mb (.map es ck), frag FT, acc 135 2 sv sn.length c, frag FSq]) w0 G0 [blk db (cl [.int .i32 0, .int .u32 0, .map (some mb), .pointer (some ⟨T.b, 0, none⟩), sv] 131), blk mb (.map es ck), frag FT, acc 135 2 sv sn.length c, frag FSq] := hLent.hp
 obtain ⟨adv, cdv, rfl⟩ := H.accShape (k := 3) rfl; have hVd := Sp.valid_iff.1 (Sp.dv_parts.1 hdv).1; have hTv := (Sp.dv_parts.1 hdv).2.1; have hTc := hT.cnt; have hTl := Sp.tree_len hTv; have hsnl := hSn.len; have hsn6 := (Sp.dv_parts.1 hdv).2.2.1
 refine calls_of_W (l := [.pointer (some ⟨db, 0, none⟩), .pointer (some ⟨cp, 0, none⟩), .pointer (some ⟨cq, 0, none⟩)]) func61 Z ntmps61 Z (q2 (aG Z (q1 (mV Z (o_load_P H isAgg9 Z Z (hcp 0 _ Z) (o_load_P H isAgg33 Z Z (hcq 0 _ Z) ?_))))))
 have H := H.toFront (k := 4) rfl
 have H := H.toFront (k := 4) rfl
 have H := H.toFront (k := 4) rfl
 have H := H.toFront (k := 4) rfl
 have H := H.toFront (k := 4) rfl
 refine o_call call62 Z Z (i_dwrite_c _ _ H.sub _ _ _ _ _ _ _ _ _ _ _ _ hm hS hN hT hchk hNs hSn hdv _ hpath _ _ hbytes H.lent5 ) ?_
 rintro _ w1 ⟨G1, _, _, rfl, H1', ⟨es1, ck1, xs1, F1, T1, sv1, sn1, c1, FS1, L1, rfl, rfl, hm1, hS1, hV1, hN1, hchk1, hNs1, hd1⟩⟩
 have H := H.borrow5 H1'
 obtain ⟨avAd, cvAd, rfl⟩ := H.accShape (k := 3) rfl
 refine ⟨_, Z, ?_⟩
 refine aG Z (q3 (W_ret (rt1 results61 Z ?_)))
 have H := H.toFront (k := 4) rfl
 have H := H.toFront (k := 4) rfl
 have H := H.toFront (k := 4) rfl
 have H := H.toFront (k := 4) rfl
 have H := H.toFront (k := 4) rfl
 exact H.retM ⟨_, _, _, _, _, _, _, _, _, _, Z, Z, hm1, hS1, hV1, hN1, hchk1, hNs1, hd1⟩
end Go.Proofs.Tst

namespace Go.Proofs.Tst
open Go Fw Tryz
theorem i_changed_dwrite_c (w0 : World) (G0 : PH) (hG : PSub G0 w0) (cd : List Value) (d : BDisk) (hd : diskE G0 d cd) (cp : Nat) (path : Bs) (hpath : path.length ≤ 16777216) (hcp : PRow G0 cp 0 [str path]) (cq : Nat) (abytes : Option Addr) (bytes : List Int) (kbytes : Nat) (hcq : PRow G0 cq 0 [.slice abytes bytes.length kbytes]) (hbytes : RdI G0 (.slice abytes bytes.length kbytes) bytes)  :
  Calls Tryz.prog 41 #[.agg cd.toArray, .func (.func 61) #[] #[.pointer (some ⟨cp, 0, none⟩), .pointer (some ⟨cq, 0, none⟩)]] w0 (RetN w0 G0 (fun v Bs => ∃ (v1 v2 v3 : Value) (F1 F2 F3 : Fr), v = .tuple #[.agg #[v1, v2, v3], .bool (Sp.DiskWrite d path bytes).isSome] ∧ Bs = [frag F1, frag F2, frag F3] ∧ OHs F1 v1 ((Sp.DiskWrite d path bytes).getD ⟨[], [], []⟩).store ∧ OIs F2 v2 ((Sp.DiskWrite d path bytes).getD ⟨[], [], []⟩).tree ∧ OSn F3 v3 ((Sp.DiskWrite d path bytes).getD ⟨[], [], []⟩).snaps)) := by
 obtain ⟨a1, m1, c1, a1', m1', c1', a1'', m1'', c1'', rfl, hr1, hr1', hr1''⟩ := hd; have hn_hr1 := hr1.len; have hx_hr1 : _ ≤ 1099511627776 := hr1.lim; have hn_hr1q := hr1'.len; have hx_hr1q : _ ≤ 1099511627776 := hr1'.lim; have hn_hr1qq := hr1''.len; have hx_hr1qq : _ ≤ 1099511627776 := hr1''.lim
 have hlimbytes : bytes.length ≤ 1099511627776 := hbytes.lim
 have H := Hp.init hG
 refine calls_of_W (l := [_, .func (.func 61) #[] #[.pointer (some ⟨cp, 0, none⟩), .pointer (some ⟨cq, 0, none⟩)]]) func41 Z ntmps41 Z (q2 (o_box H Z Z Z ?_)); intro b2 w2 hb2 H
 refine o_alloc H zeroValue27 Z Z ?_; intro b3 w3 hb3 H
 refine aG Z (q1 (o_loadagg_B 1 H isAgg27 sizeOf27 Z Z Z Z Z (o_call call52 Z Z (i_newDisk_c _ _ H.sub _ d ⟨_, _, _, _, _, _, _, _, _, Z, hr1, hr1', hr1''⟩ H.lent0 ) ?_)))
 rintro _ w4 ⟨G4, _, _, rfl, H4', ⟨rfl, rfl, hnd4⟩ | ⟨db4, mb4, es4, ck4, xs4, T4, F4, sv4, sn4, c4, FS4, rfl, rfl, hm4, hS4, hN4, hT4, hchk4, hNs4, hSn4, hdv4⟩⟩
 ·skip
  have H := H.borrow0 H4'
  refine ⟨_, Z, ?_⟩
  refine mV Z (o_extract Z Z Z (o_extract Z Z Z (aG Z (aG Z (q3 (W_seq (q2 (mV Z (o_not Z Z (mV Z (rP Z (rP Z (rP Z (rP Z (o_pick_t Z Z Z ?_)))))))))))))))
  refine q3 (W_true Z (q2 (o_build bf27 Z Z Z (o_store_B 0 H sizeOf27 Z Z Z Z Z Z Z Z ?_)))); intro w5 H
  refine aG Z (q3 (W_ret (N_K_ret (ret_gen (rs := [.cell 4 27, .tmp 5]) (vs := [_, _]) results41 ⟨⟨_, Z, load_blk 0 H isAgg27 sizeOf27 Z Z Z⟩, Z, trivial⟩ ?_))))
  have H := H.del (k := 0) rfl
  have H := H.del (k := 0) rfl
  have hno : Sp.DiskWrite d path bytes = none := by (cases hh : Sp.DiskWrite d path bytes with | none => rfl | some q => (have hx := Sp.dwrite_isv hh; rw [hnd4] at hx; cases hx))
  have H := (((H.addF).addF).addF).forget hG (by simp)
  refine ⟨_, _, Z, H, .slice none 0 0, .slice none 0 0, .slice none 0 0, [], [], [], ?_, Z, ?_, ?_, ?_⟩
  ·(rw [hno]; rfl)
  ·(rw [hno]; exact oh_nil)
  ·(rw [hno]; exact oi_nil)
  (rw [hno]; exact os_nil)
 skip
 have hcp := hcp.up H4'.le
 have hcq := hcq.up H4'.le
 have hbytes := hbytes.up H4'.le
 have H := H.borrow0 H4'
 obtain ⟨avAd, cvAd, rfl⟩ := H.accShape (k := 3) rfl
 refine ⟨_, Z, ?_⟩
 refine mV Z (o_extract Z Z Z (o_extract Z Z Z (aG Z (aG Z (q3 (W_seq (q2 (mV Z (o_not Z Z (mV Z (gR Z (mV Z (gR Z (mV Z (gR Z ?_)))))))))))))))
 have H := H.toFront (k := 4) rfl
 have H := H.toFront (k := 4) rfl
 have H := H.toFront (k := 4) rfl
 have H := H.toFront (k := 4) rfl
 have H := H.toFront (k := 4) rfl
 refine o_callc2 call61 Z Z Z (i_DiskWrite1_c _ _ H.sub _ _ _ _ _ _ _ _ _ _ _ _ hm4 hS4 hN4 hT4 hchk4 hNs4 hSn4 hdv4 _ _ hpath hcp _ _ _ _ hcq hbytes H.lent5 ) ?_
 rintro _ w6 ⟨G6, _, _, rfl, H6', ⟨es6, ck6, xs6, F6, T6, sv6, sn6, c6, FS6, L6, rfl, rfl, hm6, hS6, hV6, hN6, hchk6, hNs6, hd6⟩⟩
 have H := H.borrow5 H6'
 obtain ⟨avAd, cvAd, rfl⟩ := H.accShape (k := 3) rfl
 refine ⟨_, Z, ?_⟩
 refine gR Z (o_not Z Z (o_pick_f Z Z Z (q3 ?_)))
 refine W_cond Z ?_ ?_
 ·intro hc7
  try simp only [nrm] at hc7
  refine q2 (o_build bf27 Z Z Z (o_store_B 5 H sizeOf27 Z Z Z Z Z Z Z Z ?_)); intro w8 H
  refine aG Z (q3 (W_ret (N_K_ret (ret_gen (rs := [.cell 4 27, .tmp 5]) (vs := [_, _]) results41 ⟨⟨_, Z, load_blk 5 H isAgg27 sizeOf27 Z Z Z⟩, Z, trivial⟩ ?_))))
  have H := H.del (k := 0) rfl
  have H := H.del (k := 0) rfl
  have H := H.del (k := 0) rfl
  have H := H.del (k := 0) rfl
  have H := H.del (k := 0) rfl
  have H := H.del (k := 0) rfl
  have H := H.del (k := 0) rfl
  have hno : Sp.DiskWrite d path bytes = none := by simpa using hc7
  have H := (((H.addF).addF).addF).forget hG (by simp)
  refine ⟨_, _, Z, H, .slice none 0 0, .slice none 0 0, .slice none 0 0, [], [], [], ?_, Z, ?_, ?_, ?_⟩
  ·(rw [hno]; rfl)
  ·(rw [hno]; exact oh_nil)
  ·(rw [hno]; exact oi_nil)
  (rw [hno]; exact os_nil)
 intro hc7'
 try simp only [nrm] at hc7'
 obtain ⟨d2, hd2⟩ := Option.isSome_iff_exists.1 (show (Sp.DiskWrite d path bytes).isSome = true by simpa using hc7')
 obtain ⟨hL2, hT2, hsn2⟩ := hd6 d2 hd2; subst hL2
 refine W_skip (N_K (q2 (mV Z ?_)))
 have H := H.toFront (k := 4) rfl
 have H := H.toFront (k := 4) rfl
 have H := H.toFront (k := 4) rfl
 have H := H.toFront (k := 4) rfl
 have H := H.toFront (k := 4) rfl
 refine o_call call89 Z Z (i_disk_c _ _ H.sub _ _ _ _ _ _ _ _ _ _ _ _ hm6 hS6 hN6 hT2 hchk6 hNs6 hsn2 hV6 (Sp.dv_parts.1 (Sp.dwrite_valid hd2)).2.2.1 H.lent5 ) ?_
 rintro _ w9 ⟨G9, _, _, rfl, H9', ⟨u19, u29, u39, D19, D29, D39, rfl, rfl, ho19, ho29, ho39⟩⟩
 have H := H.borrow5 H9'
 obtain ⟨x19, p19⟩ := ho19
 obtain ⟨a19, c19, rfl⟩ := OwnS.shape p19
 obtain ⟨x29, p29⟩ := ho29
 obtain ⟨a29, c29, rfl⟩ := OwnS.shape p29
 obtain ⟨x39, p39⟩ := ho39
 obtain ⟨a39, c39, rfl⟩ := OwnS.shape p39
 refine ⟨_, Z, ?_⟩
 refine o_store_B 3 H sizeOf27 Z Z Z Z Z Z Z Z ?_; intro w10 H
 refine aG Z (q3 (W_ret (ret_gen (rs := [.cell 4 27, .tmp 5]) (vs := [_, _]) results41 ⟨⟨_, Z, load_blk 3 H isAgg27 sizeOf27 Z Z Z⟩, Z, trivial⟩ ?_)))
 have H := H.del (k := 3) rfl
 have H := H.del (k := 3) rfl
 have H := H.toFront (k := 2) rfl
 have H := H.toFront (k := 2) rfl
 have H := H.toFront (k := 2) rfl
 have H := H.forget hG (by simp)
 refine ⟨_, _, Z, H, .slice a19 d2.store.length c19, .slice a29 d2.tree.length c29, .slice a39 d2.snaps.length c39, D19, D29, D39, ?_, Z, ?_, ?_, ?_⟩
 ·(rw [hd2]; rfl)
 ·(rw [hd2]; exact ⟨_, p19⟩)
 ·(rw [hd2]; exact ⟨_, p29⟩)
 (rw [hd2]; exact ⟨_, p39⟩)
end Go.Proofs.Tst

namespace Go.Proofs.Tst
open Go Fw Tryz
theorem i_DiskWrite_c (w0 : World) (G0 : PH) (hG : PSub G0 w0) (cd : List Value) (d : BDisk) (hd : diskE G0 d cd) (path : Bs) (hpath : path.length ≤ 16777216) (vbytes : Value) (bytes : List (Int)) (hbytes : RdI G0 vbytes bytes)  :
  Calls Tryz.prog 21 #[.agg cd.toArray, str path, vbytes] w0 (RetN w0 G0 (fun v Bs => ∃ (v1 v2 v3 : Value) (F1 F2 F3 : Fr), v = .tuple #[.agg #[v1, v2, v3], .bool (Sp.DiskWrite d path bytes).isSome] ∧ Bs = [frag F1, frag F2, frag F3] ∧ OHs F1 v1 ((Sp.DiskWrite d path bytes).getD ⟨[], [], []⟩).store ∧ OIs F2 v2 ((Sp.DiskWrite d path bytes).getD ⟨[], [], []⟩).tree ∧ OSn F3 v3 ((Sp.DiskWrite d path bytes).getD ⟨[], [], []⟩).snaps)) := by
 obtain ⟨a1, m1, c1, a1', m1', c1', a1'', m1'', c1'', rfl, hr1, hr1', hr1''⟩ := hd; have hn_hr1 := hr1.len; have hx_hr1 : _ ≤ 1099511627776 := hr1.lim; have hn_hr1q := hr1'.len; have hx_hr1q : _ ≤ 1099511627776 := hr1'.lim; have hn_hr1qq := hr1''.len; have hx_hr1qq : _ ≤ 1099511627776 := hr1''.lim
 obtain ⟨abytes, kbytes, rfl⟩ := hbytes.shape
 have hlimbytes : bytes.length ≤ 1099511627776 := hbytes.lim
 have H := Hp.init hG
 refine calls_of_W (l := [_, str path, .slice abytes bytes.length kbytes]) func21 Z ntmps21 Z (q2 (o_box H Z Z Z ?_)); intro b2 w2 hb2 H
 refine o_box H Z Z Z ?_; intro b3 w3 hb3 H
 refine o_box H Z Z Z ?_; intro b4 w4 hb4 H
 refine o_alloc H zeroValue27 Z Z ?_; intro b5 w5 hb5 H
 refine aG Z (q1 (o_loadagg_B 3 H isAgg27 sizeOf27 Z Z Z Z Z (o_makefn2 Z Z Z (o_call call41 Z Z (i_changed_dwrite_c _ _ (H.lendSubL [1, 2]) _ d ⟨_, _, _, _, _, _, _, _, _, Z, (hr1.up (PPlus.le _ _ _)), (hr1'.up (PPlus.le _ _ _)), (hr1''.up (PPlus.le _ _ _))⟩ _ _ hpath (prow_blk (H.lendPredL (k := 2) (ks := [1, 2]) Z Z)) _ _ _ _ (prow_blk (H.lendPredL (k := 1) (ks := [1, 2]) Z Z)) (hbytes.up (PPlus.le _ _ _)) ) ?_))))
 rintro _ w6 ⟨_, _, rfl, H6', ⟨u16, u26, u36, E16, E26, E36, rfl, rfl, ho16, ho26, ho36⟩⟩
 have H := H.readersL H6'
 obtain ⟨x16, p16⟩ := ho16
 obtain ⟨a16, c16, rfl⟩ := OwnS.shape p16
 obtain ⟨x26, p26⟩ := ho26
 obtain ⟨a26, c26, rfl⟩ := OwnS.shape p26
 obtain ⟨x36, p36⟩ := ho36
 obtain ⟨a36, c36, rfl⟩ := OwnS.shape p36
 refine ⟨_, Z, ?_⟩
 refine o_extract Z Z Z (o_extract Z Z Z (o_store_B 3 H sizeOf27 Z Z Z Z Z Z Z Z ?_)); intro w7 H
 refine aG Z (q3 (W_ret (ret_gen (rs := [.cell 6 27, .tmp 7]) (vs := [_, _]) results21 ⟨⟨_, Z, load_blk 3 H isAgg27 sizeOf27 Z Z Z⟩, Z, trivial⟩ ?_)))
 have H := H.del (k := 3) rfl
 have H := H.del (k := 3) rfl
 have H := H.del (k := 3) rfl
 have H := H.del (k := 3) rfl
 have H := H.toFront (k := 2) rfl
 have H := H.toFront (k := 2) rfl
 have H := H.toFront (k := 2) rfl
 exact ⟨_, _, Z, H, .slice a16 ((Sp.DiskWrite d path bytes).getD ⟨[], [], []⟩).store.length c16, .slice a26 ((Sp.DiskWrite d path bytes).getD ⟨[], [], []⟩).tree.length c26, .slice a36 ((Sp.DiskWrite d path bytes).getD ⟨[], [], []⟩).snaps.length c36, E16, E26, E36, Z, Z, ⟨_, p16⟩, ⟨_, p26⟩, ⟨_, p36⟩⟩
end Go.Proofs.Tst

namespace Go.Proofs.Tst
open Go Fw Tryz
theorem i_read_c (w0 : World) (G0 : PH) (hG : PSub G0 w0) (mbs : Nat) (ess : Array MapEntry) (cks : Nat) (xss : List (Int × Value)) (Ls : List BHeld) (hbs : MapAt G0 mbs ess cks) (hms : MapIs (Value.int .i64) ess cks xss) (hSs : StR G0 xss Ls) (hVs : Sp.VH Ls) (t : Nd) (hndt : RdN G0 t) (path : Bs) (hpath : path.length ≤ 16777216) (hwt : t.wf) :
  Calls Tryz.prog 111 #[.map (some mbs), .pointer (some ⟨t.b, 0, none⟩), str path] w0 (RetN w0 G0 (fun v Bs => ∃ (uv : Value) (c : List Value) (xs : List Int), v = .tuple #[uv, .bool (Sp.readN Ls t path).isSome] ∧ Bs = [acc 3 1 uv xs.length c] ∧ Chk intE 1 (fun _ => none) c xs ∧ xs.length ≤ 1000 ∧ (∀ ys, Sp.readN Ls t path = some ys → xs = ys) ∧ (Sp.readN Ls t path = none → xs = []))) := by
 obtain ⟨hnlt, nat, nmt, nct, nAt, nMt, nCt, hprt, hrit, hrkt⟩ := hndt.open
 have hn_hrit := hrit.len; have hx_hrit : _ ≤ 1099511627776 := hrit.lim
 have hn_hrkt := hrkt.len; have hx_hrkt : _ ≤ 1099511627776 := hrkt.lim
 have H := Hp.init hG
 refine calls_of_W (l := [.map (some mbs), .pointer (some ⟨t.b, 0, none⟩), str path]) func111 Z ntmps111 Z (q2 (aG Z (aG Z (q1 (mV Z (mV Z (o_call call106 Z Z (i_find_n_c _ _ H.sub _ hndt _ hpath hwt) ?_)))))))
 rintro _ w1 ⟨_, rfl, ew1, ⟨hfi1, rfl⟩ | ⟨d1, hfi1, rfl⟩⟩
 ·skip
  have H := H.step ew1; refine ⟨_, rfl, ?_⟩
  refine aG Z (q3 (W_seq (q2 (mV Z (o_eqnil_ptr underlying97 Z Z Z (mV Z (rP Z (rP Z (rP Z (rP Z (o_pick_t Z Z Z (q3 (W_true Z (q2 (aG Z ?_)))))))))))))))
  refine aG Z (q3 (W_ret (N_K_ret (rt2 results111 Z Z ?_))))
  have H := H.addNil 3 1
  have hno : Sp.readN Ls t path = none := by (simp_all [Sp.readN])
  have H := H.forget hG (by simp)
  exact ⟨_, _, rfl, H, _, _, [], (by (rw [hno]; rfl)), rfl, (Chk.nil (E := intE) (sz := 1) (G := G0)), by simp, fun ys h => (by rw [hno] at h; cases h), fun _ => rfl⟩
 skip
 have H := H.step ew1; refine ⟨_, rfl, ?_⟩
 have hnd1 := hndt.at (Nd.find_at_ hfi1); obtain ⟨hnl1, na1, nm1, nc1, nA1, nM1, nC1, hpr1, hri1, hrk1⟩ := hnd1.open
 have hn_hri1 := hri1.len; have hx_hri1 : _ ≤ 1099511627776 := hri1.lim
 have hn_hrk1 := hrk1.len; have hx_hrk1 : _ ≤ 1099511627776 := hrk1.lim
 refine aG Z (q3 (W_seq (q2 (mV Z (o_eqnil_ptr underlying97 Z Z Z (mV Z (gR Z (mV Z (gR Z (o_nilCheck Z Z (gR Z (o_fieldAddr 1 runUnderlying149 Z sizeOf4 Z Z Z (gR Z (o_load_P H isAgg4 Z Z (hpr1 1 _ Z) (o_pick_f Z Z Z ?_)))))))))))))))
 refine q3 ?_
 refine W_cond Z ?_ ?_
 ·intro hc2
  try simp only [nrm] at hc2
  refine q2 (aG Z (aG Z (q3 (W_ret (N_K_ret (rt2 results111 Z Z ?_))))))
  have H := H.addNil 3 1
  have hno : Sp.readN Ls t path = none := by (simp_all [Sp.readN])
  have H := H.forget hG (by simp)
  exact ⟨_, _, rfl, H, _, _, [], (by (rw [hno]; rfl)), rfl, (Chk.nil (E := intE) (sz := 1) (G := G0)), by simp, fun ys h => (by rw [hno] at h; cases h), fun _ => rfl⟩
 intro hc2'
 try simp only [nrm] at hc2'
 refine W_skip (N_K (q2 (mV Z (mV Z (o_nilCheck Z Z (o_fieldAddr 2 runUnderlying149 Z sizeOf33 Z Z Z (o_load_P H isAgg33 Z Z (hpr1 2 _ Z) (o_call call108 Z Z (i_loadFile_c _ _ H.sub _ _ _ _ _ hbs hms hSs hVs _ _ hri1 ) ?_))))))))
 rintro _ w3 ⟨_, _, rfl, H3', ⟨u3, c3, xs3, rfl, rfl, hchk3, hxl3, hxs3, hxn3⟩⟩
 have H := H.readers (fp := []) (by simp) (PLe.refl _) H3'
 obtain ⟨avr3, cvr3, rfl⟩ := H.accShape (k := 0) rfl
 refine ⟨_, Z, ?_⟩
 refine o_extract Z Z Z (o_extract Z Z Z (aG Z (aG Z (q3 (W_ret (rt2 results111 Z Z ?_))))))
 have hd : Sp.readN Ls t path = if Sp.l4Ids Ls d1.ids then some (Sp.load Ls d1.ids) else none := by simp_all [Sp.readN]
 have H := H.forget hG (by simp)
 exact ⟨_, _, rfl, H, _, _, xs3, (by (rw [hd]; cases Sp.l4Ids Ls d1.ids <;> rfl)), acc_1 rfl, chkI (G := fun _ => none) ((chkI hchk3)), hxl3, fun ys h => by (rw [hd] at h; by_cases hq : Sp.l4Ids Ls d1.ids = true; (· (rw [if_pos hq] at h); cases h; exact hxs3 hq); (· (rw [if_neg hq] at h); cases h)), fun h => hxn3 (by (rw [hd] at h); by_cases hq : Sp.l4Ids Ls d1.ids = true; (· (rw [if_pos hq] at h); cases h); (· simpa using hq))⟩
end Go.Proofs.Tst

namespace Go.Proofs.Tst
open Go Fw Tryz
theorem i_readSnap_c (w0 : World) (G0 : PH) (hG : PSub G0 w0) (db mb : Nat) (es : Array MapEntry) (ck : Nat) (xs : List (Int × Value)) (T : Nd) (FT : Fr) (sv : Value) (sn : List (Bs × Nd)) (c : List Value) (FSq : Fr) (d : BDisk) (hm : MapIs (Value.int .i64) es ck xs) (hS : StR G0 xs d.store) (hN : NdO 149 97 G0 T FT) (hT : Nd.TOK T d.tree) (hchk : Chk osE 2 G0 c sn) (hNs : NdsO 149 97 G0 (sn.map (·.2)) FSq) (hSn : SnOK sn d.snaps) (hdv : Sp.DiskValid d = true) (name : Bs) (hname : name.length ≤ 16777216) (path : Bs) (hpath : path.length ≤ 16777216) (hLent : Lent w0 G0 [blk db (cl [.int .i32 0, .int .u32 0, .map (some mb), .pointer (some ⟨T.b, 0, none⟩), sv] 131), blk mb (.map es ck), frag FT, acc 135 2 sv sn.length c, frag FSq])  :
  Calls Tryz.prog 53 #[.pointer (some ⟨db, 0, none⟩), str name, str path] w0 (RetM w0 G0 (fps [blk db (cl [.int .i32 0, .int .u32 0, .map (some mb), .pointer (some ⟨T.b, 0, none⟩), sv] 131), blk mb (.map es ck), frag FT, acc 135 2 sv sn.length c, frag FSq]) (fun G' v Bs => ∃ (uv : Value) (c : List Value) (xs : List Int), v = .tuple #[uv, .bool (Sp.SnapRead d name path).isSome] ∧ Bs = [acc 3 1 uv xs.length c] ∧ Chk intE 1 (fun _ => none) c xs ∧ xs.length ≤ 1000 ∧ (∀ ys, Sp.SnapRead d name path = some ys → xs = ys) ∧ (Sp.SnapRead d name path = none → xs = []))) := by
 have H : Hp w0 G0 (fps [blk db (cl [.int .i32 0, .int .u32 0, .map (some mb), .pointer (some ⟨T.b, 0, none⟩), sv] 131), blk mb (.map es ck), frag FT, acc 135 2 sv sn.length c, frag FSq]) w0 G0 [blk db (cl [.int .i32 0, .int .u32 0, .map (some mb), .pointer (some ⟨T.b, 0, none⟩), sv] 131), blk mb (.map es ck), frag FT, acc 135 2 sv sn.length c, frag FSq] := hLent.hp
 obtain ⟨adv, cdv, rfl⟩ := H.accShape (k := 3) rfl; have hVd := Sp.valid_iff.1 (Sp.dv_parts.1 hdv).1; have hTv := (Sp.dv_parts.1 hdv).2.1; have hTc := hT.cnt; have hTl := Sp.tree_len hTv; have hsnl := hSn.len; have hsn6 := (Sp.dv_parts.1 hdv).2.2.1
 refine calls_of_WD (l := [.pointer (some ⟨db, 0, none⟩), str name, str path]) func53 Z ntmps53 Z (q2 (aG Z (aG Z (q1 (mV Z (o_nilCheck Z Z (o_fieldAddr 0 runUnderlying131 Z sizeOf128 Z Z Z (o_lock 0 H muLib Z call90 Z Z Z Z ?_)))))))); intro w1 H
 refine q1 (mV Z (o_nilCheck Z Z (o_fieldAddr 0 runUnderlying131 Z sizeOf128 Z Z Z (o_defer Z (q1 (mV Z (mV Z (o_call call93 Z Z (i_snapAt_c _ _ (H.lendSubL [0, 3]) _ _ _ _ _ _ _ (prow_blk (H.lendPredL (k := 0) (ks := [0, 3]) Z Z)) (H.lendRdL (k := 3) (ks := [0, 3]) Z Z hchk aN aN) _ hname ) ?_))))))))
 rintro _ w2 ⟨rfl, ew2⟩; have H := H.step ew2; refine ⟨_, rfl, ?_⟩
 refine aG Z (q3 (W_seq (q2 (mV Z (o_lss Z Z Z (q3 ?_))))))
 refine W_cond Z ?_ ?_
 ·intro hc3
  try simp only [nrm] at hc3
  refine q2 (aG Z (aG Z (q3 (W_ret (N_K_ret (ret_unlock 0 H muLib Z call91 Z Z (rs := [.tmp 6, .tmp 7]) results53 ?_)))))); intro wu1 H
  refine ⟨[_, _], ⟨Z, Z, trivial⟩, ?_⟩
  have H := H.addNil 3 1
  have H := H.del (k := 1) rfl
  have H := H.del (k := 1) rfl
  have H := H.del (k := 1) rfl
  have H := H.del (k := 1) rfl
  have H := H.del (k := 1) rfl
  have hno : Sp.SnapRead d name path = none := Sp.snapread_noat (by (rw [← Sp.sn_find hSn]; omega))
  exact H.retM ⟨_, _, [], (by (rw [hno]; rfl)), rfl, chkI (G := fun _ => none) ((Chk.nil (E := intE) (sz := 1) (G := G0))), by simp, fun ys h => (by rw [hno] at h; cases h), fun _ => rfl⟩
 intro hc3'
 try simp only [nrm] at hc3'
 obtain ⟨i, x, s0, hat, hsx, hs0, hai, htx, hix⟩ := sn_at hSn (n := name) oM
 refine W_skip (N_K (W_seq (W_drawK [0] 19 H kR Z ?_))); intro w4 H; have hd4 := PLe.refl G0
 refine vM 0 Z Z (RD_t 1 Z kR Z (fun _ hK => v_nilCheck Z) (RD_t 2 Z kR Z (fun _ hK => v_fieldAddr 2 runUnderlying131 Z sizeOf99 Z Z) (RD_t 3 Z kR Z (fun _ hK => v_fieldAddr 0 runUnderlying99 Z sizeOf96 Z Z) (RD_t 4 Z kR Z (fun _ hK => v_load_B 0 hK isAgg96 Z Z Z) (vM 5 Z Z (RD_t 6 Z kR Z (fun _ hK => v_nilCheck Z) (RD_t 7 Z kR Z (fun _ hK => v_fieldAddr 4 runUnderlying131 Z sizeOf129 Z Z) (RD_t 8 Z kR Z (fun _ hK => v_load_B 0 hK isAgg129 Z Z Z) (vM 9 Z Z (vM 13 Z Z ?_))))))))))
 refine RD_run [10] kR Z (RDs.cons Z ?_ RDs.nil)
 refine o_index_A 3 H i Z hchk underlying129 sizeOf135 Z Z Z hat aN aN ?_; intro ba5 z5 q5 hba5 hz5 hE5 hg5; cases hba5
 obtain ⟨rfl, hi5⟩ := hE5; have hy_hi5 : _ ≤ 16777216 := hi5
 refine R_nil (N_DK (Kn.of' H hd4 (SubL.cons 0 Z SubL.nil)) (RD_t 11 Z kR Z (fun _ hK => v_fieldAddr 1 runUnderlying135 Z sizeOf97 Z Z) ?_))
 refine RD_run [12] kR Z (RDs.cons Z ?_ RDs.nil)
 refine o_load_A 3 H isAgg97 Z Z Z (hg5 1 _ Z) (R_nil (N_DK (Kn.of' H hd4 (SubL.cons 0 Z SubL.nil)) ?_))
 refine RD_run [14] kR Z (RDs.cons Z ?_ RDs.nil)
 refine o_call call111 Z Z (i_read_c _ _ (H.lendSubL [1, 4]) _ _ _ _ _ (H.lendPredL (k := 1) (ks := [1, 4]) Z Z) hm (hS.up (PPlus.le _ _ _)) hVd _ (H.lendNs (k := 4) (ks := [1, 4]) Z Z hNs z5.2 (List.mem_map_of_mem (List.mem_of_getElem? hz5))) _ hpath (sn_ok hSn _ (List.mem_map_of_mem (List.mem_of_getElem? hz5))).1) ?_
 rintro _ w6 ⟨_, _, rfl, H6', ⟨u6, c6, xs6, rfl, rfl, hchk6, hxl6, hxs6, hxn6⟩⟩
 have H := H.readersL H6'
 obtain ⟨avr6, cvr6, rfl⟩ := H.accShape (k := 0) rfl
 refine ⟨_, Z, ?_⟩
 refine R_nil (N_DK (Kn.of' H hd4 (SubL.cons 1 Z SubL.nil)) (RD_t 15 Z kR Z (fun _ hK => v_extract Z Z) (RD_t 16 Z kR Z (fun _ hK => v_extract Z Z) (RD_t 17 Z kR Z (fun _ hK => v_assign Z) (RD_t 18 Z kR Z (fun _ hK => v_assign Z) (RD_done kR (N_K (W_ret (ret_unlock 1 H muLib Z call91 Z Z (rs := [.tmp 6, .tmp 7]) results53 ?_))))))))); intro wu2 H
 refine ⟨[_, _], ⟨Z, Z, trivial⟩, ?_⟩
 have H := H.del (k := 1) rfl
 have H := H.del (k := 1) rfl
 have H := H.del (k := 1) rfl
 have H := H.del (k := 1) rfl
 have H := H.del (k := 1) rfl
 obtain rfl : x = z5 := Option.some.inj (hsx.symm.trans hz5)
 have hd : Sp.SnapRead d name path = _ := Sp.snapread_eq hdv hai hs0 htx
 exact H.retM ⟨_, _, xs6, (by (rw [hd]; rfl)), acc_1 rfl, chkI (G := fun _ => none) ((chkI hchk6)), hxl6, fun ys h => hxs6 ys (by (rw [hd] at h; exact h)), fun h => hxn6 (by (rw [hd] at h; exact h))⟩
end Go.Proofs.Tst

namespace Go.Proofs.Tst
open Go Fw Tryz
theorem i_SnapRead_c (w0 : World) (G0 : PH) (hG : PSub G0 w0) (cd : List Value) (d : BDisk) (hd : diskE G0 d cd) (name : Bs) (hname : name.length ≤ 16777216) (path : Bs) (hpath : path.length ≤ 16777216)  :
  Calls Tryz.prog 15 #[.agg cd.toArray, str name, str path] w0 (RetN w0 G0 (fun v Bs => ∃ (uv : Value) (c : List Value) (xs : List Int), v = .tuple #[uv, .bool (Sp.SnapRead d name path).isSome] ∧ Bs = [acc 3 1 uv xs.length c] ∧ Chk intE 1 (fun _ => none) c xs ∧ xs.length ≤ 1000 ∧ (∀ ys, Sp.SnapRead d name path = some ys → xs = ys) ∧ (Sp.SnapRead d name path = none → xs = []))) := by
 obtain ⟨a1, m1, c1, a1', m1', c1', a1'', m1'', c1'', rfl, hr1, hr1', hr1''⟩ := hd; have hn_hr1 := hr1.len; have hx_hr1 : _ ≤ 1099511627776 := hr1.lim; have hn_hr1q := hr1'.len; have hx_hr1q : _ ≤ 1099511627776 := hr1'.lim; have hn_hr1qq := hr1''.len; have hx_hr1qq : _ ≤ 1099511627776 := hr1''.lim
 have H := Hp.init hG
 refine calls_of_W (l := [_, str name, str path]) func15 Z ntmps15 Z (q2 (o_box H Z Z Z ?_)); intro b2 w2 hb2 H
 refine aG Z (aG Z (q1 (o_loadagg_B 0 H isAgg27 sizeOf27 Z Z Z Z Z (o_call call52 Z Z (i_newDisk_c _ _ H.sub _ d ⟨_, _, _, _, _, _, _, _, _, Z, hr1, hr1', hr1''⟩ H.lent0 ) ?_))))
 rintro _ w3 ⟨G3, _, _, rfl, H3', ⟨rfl, rfl, hnd3⟩ | ⟨db3, mb3, es3, ck3, xs3, T3, F3, sv3, sn3, c3, FS3, rfl, rfl, hm3, hS3, hN3, hT3, hchk3, hNs3, hSn3, hdv3⟩⟩
 ·skip
  have H := H.borrow0 H3'
  refine ⟨_, Z, ?_⟩
  refine mV Z (o_extract Z Z Z (o_extract Z Z Z (aG Z (aG Z (q3 (W_seq (q2 (mV Z (o_not Z Z (q3 (W_true Z (q2 (aG Z (aG Z (q3 ?_)))))))))))))))
  refine W_ret (N_K_ret (rt2 results15 Z Z ?_))
  have H := H.addNil 3 1
  have H := H.del (k := 1) rfl
  have hno : Sp.SnapRead d name path = none := Sp.snapread_nov (by assumption)
  have H := H.forget hG (by simp)
  exact ⟨_, _, rfl, H, _, _, [], (by (rw [hno]; rfl)), rfl, chkI (G := fun _ => none) ((Chk.nil (E := intE) (sz := 1) (G := G3))), by simp, fun ys h => (by rw [hno] at h; cases h), fun _ => rfl⟩
 skip
 have H := H.borrow0 H3'
 obtain ⟨avAd, cvAd, rfl⟩ := H.accShape (k := 3) rfl
 refine ⟨_, Z, ?_⟩
 refine mV Z (o_extract Z Z Z (o_extract Z Z Z (aG Z (aG Z (q3 (W_seq (q2 (mV Z (o_not Z Z (q3 (W_false Z (W_skip (N_K (q2 (mV Z ?_)))))))))))))))
 refine mV Z (mV Z ?_)
 have H := H.toFront (k := 4) rfl
 have H := H.toFront (k := 4) rfl
 have H := H.toFront (k := 4) rfl
 have H := H.toFront (k := 4) rfl
 have H := H.toFront (k := 4) rfl
 refine o_call call53 Z Z (i_readSnap_c _ _ H.sub _ _ _ _ _ _ _ _ _ _ _ _ hm3 hS3 hN3 hT3 hchk3 hNs3 hSn3 hdv3 _ hname _ hpath H.lent5 ) ?_
 rintro _ w4 ⟨G4, _, _, rfl, H4', ⟨u4, c4, xs4, rfl, rfl, hchk4, hxl4, hxs4, hxn4⟩⟩
 have H := H.borrow5 H4'
 obtain ⟨avr4, cvr4, rfl⟩ := H.accShape (k := 0) rfl
 refine ⟨_, Z, ?_⟩
 refine o_extract Z Z Z (o_extract Z Z Z (aG Z (aG Z (q3 (W_ret (rt2 results15 Z Z ?_))))))
 have H := H.del (k := 1) rfl
 have hd : Sp.SnapRead d name path = _ := rfl
 have H := H.forget hG (by simp)
 exact ⟨_, _, rfl, H, _, _, xs4, (by (rw [hd]; rfl)), acc_1 rfl, chkI (G := fun _ => none) ((chkI hchk4)), hxl4, fun ys h => hxs4 ys (by (rw [hd] at h; exact h)), fun h => hxn4 (by (rw [hd] at h; exact h))⟩
end Go.Proofs.Tst

namespace Go.Proofs.Tst
open Go Fw Tryz
theorem i_HistoryBack_c (w0 : World) (G0 : PH) (hG : PSub G0 w0) (cd : List Value) (d : BDisk) (hd : diskE G0 d cd) (snap : Bs) (hsnap : snap.length ≤ 16777216) (path : Bs) (hpath : path.length ≤ 16777216)  :
  Calls Tryz.prog 27 #[.agg cd.toArray, str snap, str path] w0 (RetN w0 G0 (fun v Bs => ∃ (v1 v2 v3 : Value) (F1 F2 F3 : Fr), v = .tuple #[.agg #[v1, v2, v3], .bool (Sp.HistoryBack d snap path).isSome] ∧ Bs = [frag F1, frag F2, frag F3] ∧ OHs F1 v1 ((Sp.HistoryBack d snap path).getD ⟨[], [], []⟩).store ∧ OIs F2 v2 ((Sp.HistoryBack d snap path).getD ⟨[], [], []⟩).tree ∧ OSn F3 v3 ((Sp.HistoryBack d snap path).getD ⟨[], [], []⟩).snaps)) := by
 obtain ⟨a1, m1, c1, a1', m1', c1', a1'', m1'', c1'', rfl, hr1, hr1', hr1''⟩ := hd; have hn_hr1 := hr1.len; have hx_hr1 : _ ≤ 1099511627776 := hr1.lim; have hn_hr1q := hr1'.len; have hx_hr1q : _ ≤ 1099511627776 := hr1'.lim; have hn_hr1qq := hr1''.len; have hx_hr1qq : _ ≤ 1099511627776 := hr1''.lim
 have H := Hp.init hG
 refine calls_of_W (l := [_, str snap, str path]) func27 Z ntmps27 Z (q2 (o_box H Z Z Z ?_)); intro b2 w2 hb2 H
 refine o_alloc H zeroValue27 Z Z ?_; intro b3 w3 hb3 H
 refine aG Z (q1 (o_loadagg_B 1 H isAgg27 sizeOf27 Z Z Z Z Z (mV Z (mV Z (o_call call15 Z Z (i_SnapRead_c _ _ H.sub _ d ⟨_, _, _, _, _, _, _, _, _, Z, hr1, hr1', hr1''⟩ _ hsnap _ hpath ) ?_)))))
 rintro _ w4 ⟨_, _, rfl, H4', ⟨u4, c4, xs4, rfl, rfl, hchk4, hxl4, hxs4, hxn4⟩⟩
 have H := H.readers (fp := []) (by simp) (PLe.refl _) H4'
 obtain ⟨avr4, cvr4, rfl⟩ := H.accShape (k := 0) rfl
 refine ⟨_, Z, ?_⟩
 refine mV Z (o_extract Z Z Z (o_extract Z Z Z (aG Z (aG Z (q3 (W_seq (q2 (mV Z (o_not Z Z (q3 ?_))))))))))
 refine W_cond Z ?_ ?_
 ·intro hc5
  try simp only [nrm] at hc5
  refine q2 (o_build bf27 Z Z Z (o_store_B 1 H sizeOf27 Z Z Z Z Z Z Z Z ?_)); intro w6 H
  refine aG Z (q3 (W_ret (N_K_ret (ret_gen (rs := [.cell 6 27, .tmp 7]) (vs := [_, _]) results27 ⟨⟨_, Z, load_blk 1 H isAgg27 sizeOf27 Z Z Z⟩, Z, trivial⟩ ?_))))
  have H := H.del (k := 0) rfl
  have H := H.del (k := 0) rfl
  have H := H.del (k := 0) rfl
  have hs : Sp.SnapRead d snap path = none := by simpa using hc5
  have hno : Sp.HistoryBack d snap path = none := by simp [Sp.HistoryBack, hs]
  have H := (((H.addF).addF).addF).forget hG (by simp)
  refine ⟨_, _, Z, H, .slice none 0 0, .slice none 0 0, .slice none 0 0, [], [], [], ?_, Z, ?_, ?_, ?_⟩
  ·(rw [hno]; rfl)
  ·(rw [hno]; exact oh_nil)
  ·(rw [hno]; exact oi_nil)
  (rw [hno]; exact os_nil)
 intro hc5'
 try simp only [nrm] at hc5'
 refine W_skip (N_K (q2 (o_loadagg_B 2 H isAgg27 sizeOf27 Z Z Z Z Z (mV Z (mV Z (o_call call21 Z Z (i_DiskWrite_c _ _ (H.lendSubL [0]) _ d ⟨_, _, _, _, _, _, _, _, _, Z, (hr1.up (PPlus.le _ _ _)), (hr1'.up (PPlus.le _ _ _)), (hr1''.up (PPlus.le _ _ _))⟩ _ hpath _ _ (H.lendRdL (k := 0) (ks := [0]) Z Z (chkI hchk4) aN aN) ) ?_))))))
 rintro _ w7 ⟨_, _, rfl, H7', ⟨u17, u27, u37, E17, E27, E37, rfl, rfl, ho17, ho27, ho37⟩⟩
 have H := H.readersL H7'
 obtain ⟨x17, p17⟩ := ho17
 obtain ⟨a17, c17, rfl⟩ := OwnS.shape p17
 obtain ⟨x27, p27⟩ := ho27
 obtain ⟨a27, c27, rfl⟩ := OwnS.shape p27
 obtain ⟨x37, p37⟩ := ho37
 obtain ⟨a37, c37, rfl⟩ := OwnS.shape p37
 refine ⟨_, Z, ?_⟩
 refine o_extract Z Z Z (o_extract Z Z Z (o_store_B 4 H sizeOf27 Z Z Z Z Z Z Z Z ?_)); intro w8 H
 refine aG Z (q3 (W_ret (ret_gen (rs := [.cell 6 27, .tmp 7]) (vs := [_, _]) results27 ⟨⟨_, Z, load_blk 4 H isAgg27 sizeOf27 Z Z Z⟩, Z, trivial⟩ ?_)))
 have H := H.del (k := 3) rfl
 have H := H.del (k := 3) rfl
 have H := H.del (k := 3) rfl
 have H := H.toFront (k := 2) rfl
 have H := H.toFront (k := 2) rfl
 have H := H.toFront (k := 2) rfl
 obtain ⟨sb, hsb⟩ := Option.isSome_iff_exists.1 (show (Sp.SnapRead d snap path).isSome = true by simpa using hc5')
 have hY : Sp.HistoryBack d snap path = Sp.DiskWrite d path xs4 := by (rw [hxs4 sb hsb]; simp [Sp.HistoryBack, hsb])
 have H := H.forget hG (by simp)
 refine ⟨_, _, Z, H, .slice a17 ((Sp.DiskWrite d path xs4).getD ⟨[], [], []⟩).store.length c17, .slice a27 ((Sp.DiskWrite d path xs4).getD ⟨[], [], []⟩).tree.length c27, .slice a37 ((Sp.DiskWrite d path xs4).getD ⟨[], [], []⟩).snaps.length c37, E17, E27, E37, ?_, Z, ?_, ?_, ?_⟩
 ·(rw [hY]; rfl)
 ·(rw [hY]; exact ⟨_, p17⟩)
 ·(rw [hY]; exact ⟨_, p27⟩)
 (rw [hY]; exact ⟨_, p37⟩)
end Go.Proofs.Tst

namespace Go.Proofs.Tst
open Go Fw Tryz
theorem xHistoryBack_c (w0 : World) (G0 : PH) (hG : PSub G0 w0) (caD : List Value) (aD : BDisk) (haD : diskE G0 aD caD) (aSnap : Bs) (haSnap : aSnap.length ≤ 16777216) (aPath : Bs) (haPath : aPath.length ≤ 16777216)  :
  Calls Tryz.prog 9 #[.agg caD.toArray, str aSnap, str aPath] w0 (Rets w0 (.bool true)) := by
 obtain ⟨a1, m1, c1, a1', m1', c1', a1'', m1'', c1'', rfl, hr1, hr1', hr1''⟩ := haD; have hn_hr1 := hr1.len; have hx_hr1 : _ ≤ 1099511627776 := hr1.lim; have hn_hr1q := hr1'.len; have hx_hr1q : _ ≤ 1099511627776 := hr1'.lim; have hn_hr1qq := hr1''.len; have hx_hr1qq : _ ≤ 1099511627776 := hr1''.lim
 have hcd0 := cDisk_le aD
 have hcD : cDisk ((Sp.HistoryBack aD aSnap aPath).getD ⟨[], [], []⟩) ≤ 700 := dk_cnt (fun d1 h => Sp.hist_valid h)
 have H := Hp.init hG
 refine calls_of_W (l := [_, str aSnap, str aPath]) func9 Z ntmps9 Z (q2 (o_box H Z Z Z ?_)); intro b2 w2 hb2 H
 refine aG Z (q3 (W_seq (q2 (mV Z (o_len_str underlying9 Z Z (o_gtr Z Z Z (q3 ?_)))))))
 refine W_cond Z ?_ ?_
 ·intro hc3
  try simp only [nrm] at hc3
  refine q2 (aG Z (q3 (W_ret (N_K_ret (rt1 results9 Z ?_)))))
  exact H.rets Z
 intro hc3'
 try simp only [nrm] at hc3'
 refine W_skip (N_K (W_seq (q2 (mV Z (o_len_str underlying9 Z Z (o_gtr Z Z Z (q3 ?_)))))))
 refine W_cond Z ?_ ?_
 ·intro hc4
  try simp only [nrm] at hc4
  refine q2 (aG Z (q3 (W_ret (N_K_ret (rt1 results9 Z ?_)))))
  exact H.rets Z
 intro hc4'
 try simp only [nrm] at hc4'
 refine W_skip (N_K (q2 (aG Z (q1 (o_loadagg_B 0 H isAgg59 sizeOf59 Z Z Z Z Z (mV Z (o_call call31 Z Z (w_szDisk_c _ _ H.sub _ aD ⟨_, _, _, _, _, _, _, _, _, Z, hr1, hr1', hr1''⟩ _ oO) ?_)))))))
 rintro _ w5 ⟨_, rfl, ew5, ⟨r5, rfl, hra5⟩⟩
 skip
 have H := H.step ew5; refine ⟨_, rfl, ?_⟩
 refine aG Z (q3 (W_seq (q2 (mV Z (o_lss Z Z Z (q3 ?_))))))
 refine W_cond Z ?_ ?_
 ·intro hc6
  try simp only [nrm] at hc6
  refine q2 (aG Z (q3 (W_ret (N_K_ret (rt1 results9 Z ?_)))))
  exact H.rets Z
 intro hc6'
 try simp only [nrm] at hc6'
 refine W_skip (N_K (q2 (o_loadagg_B 0 H isAgg59 sizeOf59 Z Z Z Z Z (o_call call32 Z Z (w_toDisk_c _ _ H.sub _ aD ⟨_, _, _, _, _, _, _, _, _, Z, hr1, hr1', hr1''⟩ ) ?_))))
 rintro _ w7 ⟨_, _, rfl, H7', ⟨u17, u27, u37, D17, D27, D37, rfl, rfl, ho17, ho27, ho37⟩⟩
 have H := H.readers (fp := []) (by simp) (PLe.refl _) H7'
 obtain ⟨x17, p17⟩ := ho17
 obtain ⟨a17, c17, rfl⟩ := OwnS.shape p17
 obtain ⟨x27, p27⟩ := ho27
 obtain ⟨a27, c27, rfl⟩ := OwnS.shape p27
 obtain ⟨x37, p37⟩ := ho37
 obtain ⟨a37, c37, rfl⟩ := OwnS.shape p37
 refine ⟨_, Z, ?_⟩
 refine mV Z (mV Z ?_)
 have hnd9 := dm_nodup H (k := 0) rfl; obtain ⟨G9, H, hsg9, hsf9⟩ := H.keepF (k := 0) rfl (by simp); have hsr9 := (show OHs _ _ _ from ⟨_, p17⟩).rd hsf9 hnd9
 have hr1 := hr1.up hsg9
 have hr1' := hr1'.up hsg9
 have hr1'' := hr1''.up hsg9
 have hnd10 := dm_nodup H (k := 0) rfl; obtain ⟨G10, H, hsg10, hsf10⟩ := H.keepF (k := 0) rfl (by simp); have hsr10 := (show OIs _ _ _ from ⟨_, p27⟩).rd hsf10 hnd10
 have hr1 := hr1.up hsg10
 have hr1' := hr1'.up hsg10
 have hr1'' := hr1''.up hsg10
 have hsr9 := hsr9.up hsg10
 have hnd11 := dm_nodup H (k := 0) rfl; obtain ⟨G11, H, hsg11, hsf11⟩ := H.keepF (k := 0) rfl (by simp); have hsr11 := (show OSn _ _ _ from ⟨_, p37⟩).rd hsf11 hnd11
 have hr1 := hr1.up hsg11
 have hr1' := hr1'.up hsg11
 have hr1'' := hr1''.up hsg11
 have hsr9 := hsr9.up hsg11
 have hsr10 := hsr10.up hsg11
 refine o_call call28 Z Z (HistoryBackP_c _ _ H.sub _ aD ⟨_, _, _, _, _, _, _, _, _, Z, hsr9, hsr10, hsr11⟩ _ haSnap _ haPath ) ?_
 rintro _ w8 ⟨G8, _, g8, rfl, u8_0, rfl, hr8_0⟩
 have H := H.grow g8
 have hr1 := hr1.up g8.le
 have hr1' := hr1'.up g8.le
 have hr1'' := hr1''.up g8.le
 obtain ⟨a12, m12, c12, a12', m12', c12', a12'', m12'', c12'', rfl, hr12, hr12', hr12''⟩ := hr8_0; have hn_hr12 := hr12.len; have hx_hr12 : _ ≤ 1099511627776 := hr12.lim; have hn_hr12q := hr12'.len; have hx_hr12q : _ ≤ 1099511627776 := hr12'.lim; have hn_hr12qq := hr12''.len; have hx_hr12qq : _ ≤ 1099511627776 := hr12''.lim
 refine ⟨_, Z, ?_⟩
 refine mV Z (o_extract Z Z Z (o_extract Z Z Z (o_alloc H zeroValue27 Z Z ?_))); intro b13 w13 hb13 H
 refine o_store_B 0 H sizeOf27 Z Z Z Z Z Z Z Z ?_; intro w14 H
 refine aG Z (q1 (o_loadagg_B 1 H isAgg59 sizeOf59 Z Z Z Z Z (o_call call32 Z Z (w_toDisk_c _ _ H.sub _ aD ⟨_, _, _, _, _, _, _, _, _, Z, hr1, hr1', hr1''⟩ ) ?_)))
 rintro _ w15 ⟨_, _, rfl, H15', ⟨u115, u215, u315, D115, D215, D315, rfl, rfl, ho115, ho215, ho315⟩⟩
 have H := H.readers (fp := []) (by simp) (PLe.refl _) H15'
 obtain ⟨x115, p115⟩ := ho115
 obtain ⟨a115, c115, rfl⟩ := OwnS.shape p115
 obtain ⟨x215, p215⟩ := ho215
 obtain ⟨a215, c215, rfl⟩ := OwnS.shape p215
 obtain ⟨x315, p315⟩ := ho315
 obtain ⟨a315, c315, rfl⟩ := OwnS.shape p315
 refine ⟨_, Z, ?_⟩
 refine o_alloc H zeroValue27 Z Z ?_; intro b16 w16 hb16 H
 refine o_store_B 0 H sizeOf27 Z Z Z Z Z Z Z Z ?_; intro w17 H
 refine q1 (o_loadagg_B 0 H isAgg27 sizeOf27 Z Z Z Z Z (mV Z (mV Z (o_call call27 Z Z (i_HistoryBack_c _ _ (H.lendSubL [1, 2, 3]) _ aD ⟨_, _, _, _, _, _, _, _, _, Z, (H.lendOHs (k := 1) (ks := [1, 2, 3]) Z Z ⟨_, p115⟩), (H.lendOIs (k := 2) (ks := [1, 2, 3]) Z Z ⟨_, p215⟩), (H.lendOSn (k := 3) (ks := [1, 2, 3]) Z Z ⟨_, p315⟩)⟩ _ haSnap _ haPath ) ?_))))
 rintro _ w18 ⟨_, _, rfl, H18', ⟨u118, u218, u318, E118, E218, E318, rfl, rfl, ho118, ho218, ho318⟩⟩
 have H := H.readersL H18'
 obtain ⟨x118, p118⟩ := ho118
 obtain ⟨a118, c118, rfl⟩ := OwnS.shape p118
 obtain ⟨x218, p218⟩ := ho218
 obtain ⟨a218, c218, rfl⟩ := OwnS.shape p218
 obtain ⟨x318, p318⟩ := ho318
 obtain ⟨a318, c318, rfl⟩ := OwnS.shape p318
 refine ⟨_, Z, ?_⟩
 refine mV Z (o_extract Z Z Z (o_extract Z Z Z (o_alloc H zeroValue27 Z Z ?_))); intro b19 w19 hb19 H
 refine o_store_B 0 H sizeOf27 Z Z Z Z Z Z Z Z ?_; intro w20 H
 refine aG Z (q3 (W_seq (q2 (o_loadagg_B 0 H isAgg27 sizeOf27 Z Z Z Z Z (o_loadagg_B 8 H isAgg27 sizeOf27 Z Z Z Z Z (o_call call33 Z Z (w_eqDisk_c _ _ (H.lendSubL [1, 2, 3]) _ ((Sp.HistoryBack aD aSnap aPath).getD ⟨[], [], []⟩) ⟨_, _, _, _, _, _, _, _, _, Z, (H.lendOHs (k := 1) (ks := [1, 2, 3]) Z Z ⟨_, p118⟩), (H.lendOIs (k := 2) (ks := [1, 2, 3]) Z Z ⟨_, p218⟩), (H.lendOSn (k := 3) (ks := [1, 2, 3]) Z Z ⟨_, p318⟩)⟩ _ ((Sp.HistoryBack aD aSnap aPath).getD ⟨[], [], []⟩) ⟨_, _, _, _, _, _, _, _, _, Z, (hr12.up (PPlus.le _ _ _)), (hr12'.up (PPlus.le _ _ _)), (hr12''.up (PPlus.le _ _ _))⟩ Z) ?_))))))
 rintro _ w21 ⟨rfl, ew21⟩; have H := H.step ew21; refine ⟨_, rfl, ?_⟩
 refine o_not Z Z (mV Z (gR Z (mV Z (gR Z (mV Z (gR Z (o_bneq_same underlying4 Z Z Z (o_pick_f Z Z Z (q3 (W_false Z (W_skip (N_K (W_seq (W_seq (W_drawK [0, 4, 8, 9] 5 H kR Z ?_))))))))))))))); intro w22 H; have hd22 := PLe.refl G8
 refine RD_t 0 Z kR Z (fun _ hK => v_loadagg_B 1 hK isAgg27 sizeOf27 Z Z Z Z) (RD_t 1 Z kR Z (fun _ hK => v_loadagg_B 3 hK isAgg59 sizeOf59 Z Z Z Z) ?_)
 refine RD_run [2] kR Z (RDs.cons Z ?_ RDs.nil)
 refine o_call call32 Z Z (w_toDisk_c _ _ H.sub _ aD ⟨_, _, _, _, _, _, _, _, _, Z, hr1, hr1', hr1''⟩ ) ?_
 rintro _ w23 ⟨_, _, rfl, H23', ⟨u123, u223, u323, D123, D223, D323, rfl, rfl, ho123, ho223, ho323⟩⟩
 have H := H.readers (fp := []) (by simp) (PLe.refl _) H23'
 obtain ⟨x123, p123⟩ := ho123
 obtain ⟨a123, c123, rfl⟩ := OwnS.shape p123
 obtain ⟨x223, p223⟩ := ho223
 obtain ⟨a223, c223, rfl⟩ := OwnS.shape p223
 obtain ⟨x323, p323⟩ := ho323
 obtain ⟨a323, c323, rfl⟩ := OwnS.shape p323
 refine ⟨_, Z, ?_⟩
 refine R_nil (N_DK (Kn.of' H hd22 (SubL.cons 3 Z (SubL.cons 7 Z (SubL.cons 11 Z (SubL.cons 12 Z SubL.nil))))) ?_)
 refine RD_run [3] kR Z (RDs.cons Z ?_ RDs.nil)
 refine o_call call33 Z Z (w_eqDisk_c _ _ (H.lendSubL [0, 1, 2, 8, 9, 10]) _ aD ⟨_, _, _, _, _, _, _, _, _, Z, (H.lendOHs (k := 8) (ks := [0, 1, 2, 8, 9, 10]) Z Z ⟨_, p115⟩), (H.lendOIs (k := 9) (ks := [0, 1, 2, 8, 9, 10]) Z Z ⟨_, p215⟩), (H.lendOSn (k := 10) (ks := [0, 1, 2, 8, 9, 10]) Z Z ⟨_, p315⟩)⟩ _ aD ⟨_, _, _, _, _, _, _, _, _, Z, (H.lendOHs (k := 0) (ks := [0, 1, 2, 8, 9, 10]) Z Z ⟨_, p123⟩), (H.lendOIs (k := 1) (ks := [0, 1, 2, 8, 9, 10]) Z Z ⟨_, p223⟩), (H.lendOSn (k := 2) (ks := [0, 1, 2, 8, 9, 10]) Z Z ⟨_, p323⟩)⟩ Z) ?_
 rintro _ w24 ⟨rfl, ew24⟩; have H := H.step ew24; refine ⟨_, rfl, ?_⟩
 refine R_nil (N_DK (Kn.of' H hd22 (SubL.cons 3 Z (SubL.cons 7 Z (SubL.cons 11 Z (SubL.cons 12 Z SubL.nil))))) (RD_t 4 Z kR Z (fun _ hK => v_not Z) (RD_done kR (N_K (W_false Z (W_skip (N_K (q2 (aG Z (q1 (o_loadagg_B 7 H isAgg27 sizeOf27 Z Z Z Z Z (mV Z ?_))))))))))))
 have H := H.toFront (k := 10) rfl
 have H := H.toFront (k := 10) rfl
 have H := H.toFront (k := 10) rfl
 refine o_call call34 Z Z (w_markDisk_c _ _ H.sub _ _ _ _ _ _ aD ⟨_, p115⟩ ⟨_, p215⟩ ⟨_, p315⟩ _ H.lent3 oO) ?_
 rintro _ w25 ⟨G25, _, _, rfl, H25', ⟨K125, K225, K325, rfl, rfl, hK125, hK225, hK325⟩⟩
 have hr1 := hr1.up H25'.le
 have hr1' := hr1'.up H25'.le
 have hr1'' := hr1''.up H25'.le
 have hr12 := hr12.up H25'.le
 have hr12' := hr12'.up H25'.le
 have hr12'' := hr12''.up H25'.le
 have H := H.borrow3 H25'
 refine ⟨_, Z, ?_⟩
 refine aG Z (q3 (W_seq (q2 (mV Z (o_lss Z Z Z (mV Z ?_))))))
 refine R_case (t := 65) Z ?_ ?_
 ·intro hc26
  try simp only [nrm] at hc26
  exact absurd (show False from by first | omega | (simp at hc26; done) | exact hc26 rfl) id
 intro hc26'
 try simp only [nrm] at hc26'
 refine gR Z (o_loadagg_B 6 H isAgg27 sizeOf27 Z Z Z Z Z (gR Z (o_loadagg_B 11 H isAgg27 sizeOf27 Z Z Z Z Z (gR Z (o_call call33 Z Z (w_eqDisk_c _ _ (H.lendSubL [7, 8, 9]) _ ((Sp.HistoryBack aD aSnap aPath).getD ⟨[], [], []⟩) ⟨_, _, _, _, _, _, _, _, _, Z, (H.lendOHs (k := 7) (ks := [7, 8, 9]) Z Z ⟨_, p118⟩), (H.lendOIs (k := 8) (ks := [7, 8, 9]) Z Z ⟨_, p218⟩), (H.lendOSn (k := 9) (ks := [7, 8, 9]) Z Z ⟨_, p318⟩)⟩ _ ((Sp.HistoryBack aD aSnap aPath).getD ⟨[], [], []⟩) ⟨_, _, _, _, _, _, _, _, _, Z, (hr12.up (PPlus.le _ _ _)), (hr12'.up (PPlus.le _ _ _)), (hr12''.up (PPlus.le _ _ _))⟩ Z) ?_)))))
 rintro _ w27 ⟨rfl, ew27⟩; have H := H.step ew27; refine ⟨_, rfl, ?_⟩
 refine gR Z (o_not Z Z (o_pick_f Z Z Z (mV Z (gR Z (mV Z (gR Z (mV Z (gR Z (o_bneq_same underlying4 Z Z Z (o_pick_f Z Z Z (q3 (W_false Z (W_skip (N_K (q2 ?_)))))))))))))))
 refine aG Z (q1 (o_loadagg_B 6 H isAgg27 sizeOf27 Z Z Z Z Z (mV Z ?_)))
 have H := H.toFront (k := 9) rfl
 have H := H.toFront (k := 9) rfl
 have H := H.toFront (k := 9) rfl
 refine o_call call34 Z Z (w_markDisk_c _ _ H.sub _ _ _ _ _ _ ((Sp.HistoryBack aD aSnap aPath).getD ⟨[], [], []⟩) ⟨_, p118⟩ ⟨_, p218⟩ ⟨_, p318⟩ _ H.lent3 oO) ?_
 rintro _ w28 ⟨G28, _, _, rfl, H28', ⟨K128, K228, K328, rfl, rfl, hK128, hK228, hK328⟩⟩
 have hr1 := hr1.up H28'.le
 have hr1' := hr1'.up H28'.le
 have hr1'' := hr1''.up H28'.le
 have hr12 := hr12.up H28'.le
 have hr12' := hr12'.up H28'.le
 have hr12'' := hr12''.up H28'.le
 have H := H.borrow3 H28'
 refine ⟨_, Z, ?_⟩
 refine aG Z (q1 (aG Z (q1 (o_loadagg_B 9 H isAgg27 sizeOf27 Z Z Z Z Z (mV Z (o_call call35 Z Z (w_heldDisk_c _ _ (H.lendSubL [0, 1, 2]) _ (mDisk 1 ((Sp.HistoryBack aD aSnap aPath).getD ⟨[], [], []⟩)) ⟨_, _, _, _, _, _, _, _, _, Z, (H.lendOHs (k := 0) (ks := [0, 1, 2]) Z Z hK128), (H.lendOIs (k := 1) (ks := [0, 1, 2]) Z Z hK228), (H.lendOSn (k := 2) (ks := [0, 1, 2]) Z Z hK328)⟩ _ ((Sp.HistoryBack aD aSnap aPath).getD ⟨[], [], []⟩) Z oO) ?_))))))
 rintro _ w29 ⟨rfl, ew29⟩; have H := H.step ew29; refine ⟨_, rfl, ?_⟩
 refine aG Z (q3 (W_seq (q2 (mV Z (o_lss Z Z Z (q3 ?_))))))
 refine W_cond Z ?_ ?_
 ·intro hc30
  try simp only [nrm] at hc30
  exact absurd (show False from by first | omega | (simp at hc30; done) | exact hc30 rfl) id
 intro hc30'
 try simp only [nrm] at hc30'
 refine W_skip (N_K (W_seq (q2 (mV Z (mV Z (o_neq Z Z Z (q3 ?_)))))))
 refine W_cond Z ?_ ?_
 ·intro hc31
  try simp only [nrm] at hc31
  exact absurd (show False from by first | omega | (simp at hc31; done) | exact hc31 rfl) id
 intro hc31'
 try simp only [nrm] at hc31'
 refine W_skip (N_K (q2 (o_loadagg_B 12 H isAgg59 sizeOf59 Z Z Z Z Z (o_call call32 Z Z (w_toDisk_c _ _ H.sub _ aD ⟨_, _, _, _, _, _, _, _, _, Z, hr1, hr1', hr1''⟩ ) ?_))))
 rintro _ w32 ⟨_, _, rfl, H32', ⟨u132, u232, u332, D132, D232, D332, rfl, rfl, ho132, ho232, ho332⟩⟩
 have H := H.readers (fp := []) (by simp) (PLe.refl _) H32'
 obtain ⟨x132, p132⟩ := ho132
 obtain ⟨a132, c132, rfl⟩ := OwnS.shape p132
 obtain ⟨x232, p232⟩ := ho232
 obtain ⟨a232, c232, rfl⟩ := OwnS.shape p232
 obtain ⟨x332, p332⟩ := ho332
 obtain ⟨a332, c332, rfl⟩ := OwnS.shape p332
 refine ⟨_, Z, ?_⟩
 refine mV Z (mV Z (o_call call27 Z Z (i_HistoryBack_c _ _ (H.lendSubL [0, 1, 2]) _ aD ⟨_, _, _, _, _, _, _, _, _, Z, (H.lendOHs (k := 0) (ks := [0, 1, 2]) Z Z ⟨_, p132⟩), (H.lendOIs (k := 1) (ks := [0, 1, 2]) Z Z ⟨_, p232⟩), (H.lendOSn (k := 2) (ks := [0, 1, 2]) Z Z ⟨_, p332⟩)⟩ _ haSnap _ haPath ) ?_))
 rintro _ w33 ⟨_, _, rfl, H33', ⟨u133, u233, u333, E133, E233, E333, rfl, rfl, ho133, ho233, ho333⟩⟩
 have H := H.readersL H33'
 obtain ⟨x133, p133⟩ := ho133
 obtain ⟨a133, c133, rfl⟩ := OwnS.shape p133
 obtain ⟨x233, p233⟩ := ho233
 obtain ⟨a233, c233, rfl⟩ := OwnS.shape p233
 obtain ⟨x333, p333⟩ := ho333
 obtain ⟨a333, c333, rfl⟩ := OwnS.shape p333
 refine ⟨_, Z, ?_⟩
 refine mV Z (o_extract Z Z Z (o_extract Z Z Z (o_alloc H zeroValue27 Z Z ?_))); intro b34 w34 hb34 H
 refine o_store_B 0 H sizeOf27 Z Z Z Z Z Z Z Z ?_; intro w35 H
 refine aG Z (q3 (W_seq (q2 (o_loadagg_B 0 H isAgg27 sizeOf27 Z Z Z Z Z (o_loadagg_B 18 H isAgg27 sizeOf27 Z Z Z Z Z (o_call call33 Z Z (w_eqDisk_c _ _ (H.lendSubL [1, 2, 3]) _ ((Sp.HistoryBack aD aSnap aPath).getD ⟨[], [], []⟩) ⟨_, _, _, _, _, _, _, _, _, Z, (H.lendOHs (k := 1) (ks := [1, 2, 3]) Z Z ⟨_, p133⟩), (H.lendOIs (k := 2) (ks := [1, 2, 3]) Z Z ⟨_, p233⟩), (H.lendOSn (k := 3) (ks := [1, 2, 3]) Z Z ⟨_, p333⟩)⟩ _ ((Sp.HistoryBack aD aSnap aPath).getD ⟨[], [], []⟩) ⟨_, _, _, _, _, _, _, _, _, Z, (hr12.up (PPlus.le _ _ _)), (hr12'.up (PPlus.le _ _ _)), (hr12''.up (PPlus.le _ _ _))⟩ Z) ?_))))))
 rintro _ w36 ⟨rfl, ew36⟩; have H := H.step ew36; refine ⟨_, rfl, ?_⟩
 refine o_not Z Z (mV Z (gR Z (mV Z (gR Z (mV Z (gR Z (o_bneq_same underlying4 Z Z Z (o_pick_f Z Z Z (q3 (W_false Z (W_skip (N_K (q2 (aG Z (q1 ?_)))))))))))))))
 refine o_loadagg_B 16 H isAgg27 sizeOf27 Z Z Z Z Z (mV Z (o_call call35 Z Z (w_heldDisk_c _ _ (H.lendSubL [7, 8, 9]) _ (mDisk 1 ((Sp.HistoryBack aD aSnap aPath).getD ⟨[], [], []⟩)) ⟨_, _, _, _, _, _, _, _, _, Z, (H.lendOHs (k := 7) (ks := [7, 8, 9]) Z Z hK128), (H.lendOIs (k := 8) (ks := [7, 8, 9]) Z Z hK228), (H.lendOSn (k := 9) (ks := [7, 8, 9]) Z Z hK328)⟩ _ ((Sp.HistoryBack aD aSnap aPath).getD ⟨[], [], []⟩) Z oO) ?_))
 rintro _ w37 ⟨rfl, ew37⟩; have H := H.step ew37; refine ⟨_, rfl, ?_⟩
 refine aG Z (q3 (W_seq (q2 (mV Z (o_lss Z Z Z (q3 ?_))))))
 refine W_cond Z ?_ ?_
 ·intro hc38
  try simp only [nrm] at hc38
  exact absurd (show False from by first | omega | (simp at hc38; done) | exact hc38 rfl) id
 intro hc38'
 try simp only [nrm] at hc38'
 refine W_skip (N_K (W_seq (q2 (mV Z (mV Z (o_neq Z Z Z (q3 ?_)))))))
 refine W_cond Z ?_ ?_
 ·intro hc39
  try simp only [nrm] at hc39
  exact absurd (show False from by first | omega | (simp at hc39; done) | exact hc39 rfl) id
 intro hc39'
 try simp only [nrm] at hc39'
 refine W_skip (N_K (q2 (aG Z (q3 (W_ret (rt1 results9 Z ?_))))))
 exact H.rets Z
end Go.Proofs.Tst

namespace Fw
open Go
section
variable {H : Type} {enc : TypeId × Value → H} {P : Program} {W : World}
structure Bulk (bk : DataW H → Nat) (bka : List (DataW H) → Nat) : Prop where
 slice : ∀ es sp, bk (.slice es sp) = bka es + bka sp + 1
 agg : ∀ ps, bk (.agg ps) = bka ps + 1
 str : ∀ b, bk (.lit (.string b)) = b.length + 1
 nil : bka [] = 0
 cons : ∀ d r, bka (d :: r) = bk d + bka r
 pos : ∀ d, 1 ≤ bk d
variable {bk : DataW H → Nat} {bka : List (DataW H) → Nat}
theorem Bulk.len (hb : Bulk bk bka) : ∀ l, l.length ≤ bka l
 | [] => by simp
 | d :: r => by
  have h1 := hb.len r
  have h2 := hb.pos d
  rw [hb.cons]
  simp; omega
theorem Bulk.mem (hb : Bulk bk bka) {d : DataW H} : ∀ {l : List (DataW H)}, d ∈ l → bk d ≤ bka l
 | [], h => by simp at h
 | e :: r, h => by
  rw [hb.cons]
  rcases List.mem_cons.1 h with rfl | h
  ·omega
  ·have := hb.mem h
   omega
theorem Bulk.memF (hb : Bulk bk bka) {l : List (DataW H × List MemPlace)} {i : Nat} (hi : i < l.length) : bk (l[i]).1 ≤ bka (l.map (fun x => x.1)) :=
 hb.mem (List.mem_map.2 ⟨l[i], List.getElem_mem hi, rfl⟩)
abbrev Reads (enc : TypeId × Value → H) (P : Program) (W : World) (n : Nat) (t : TypeId) (cs : List Value) : Option (DataW H × List MemPlace) := DataW.trod enc P W 0 (fun _ => true) true n t cs
def Elem (enc : TypeId × Value → H) (P : Program) (W : World) (bk : DataW H → Nat) (t : TypeId) (sz : Nat) {α : Type} (E : PH → α → List Value → Prop) : Prop :=
 ∀ n cs x, Reads enc P W n t cs = some x → bk x.1 ≤ 1048576 → ∃ a, cs.length = sz ∧ E (PAll W) a cs
theorem elem_int {t : TypeId} (ht : P.underlying t = some (.int .i64)) : Elem enc P W bk t 1 intE := by
 intro n cs x h _
 obtain ⟨i, rfl, _, hw⟩ := DataW.trod_int ht h
 refine ⟨i, rfl, rfl, ?_⟩
 simp [Lit.wf, IntKind.min, IntKind.max, IntKind.signed, IntKind.bits] at hw
 exact ⟨by omega, by omega⟩
theorem elem_str (hb : Bulk bk bka) {t : TypeId} (ht : P.underlying t = some .string) : Elem enc P W bk t 1 strE := by
 intro n cs x h hx
 obtain ⟨s, rfl, rfl, _⟩ := DataW.trod_string ht h
 simp only [hb.str] at hx
 exact ⟨s.data.toList, rfl, rfl, by omega⟩
theorem elem_bool {t : TypeId} (ht : P.underlying t = some .bool) : Elem enc P W bk t 1 (fun _ (x : Bool) cs => cs = [.bool x]) := by
 intro n cs x h _
 obtain ⟨b, rfl, _⟩ := DataW.trod_bool ht h
 exact ⟨b, rfl, rfl⟩
theorem list_of {α : Type} {Q : Nat → α → Prop} : ∀ n, (∀ i, i < n → ∃ x, Q i x) → ∃ xs : List α, xs.length = n ∧ ∀ i x, xs[i]? = some x → Q i x
 | 0, _ => ⟨[], rfl, by simp⟩
 | n + 1, h => by
  obtain ⟨xs, h1, h2⟩ := list_of n (fun i hi => h i (by omega))
  obtain ⟨x, hx⟩ := h n (by omega)
  refine ⟨xs ++ [x], by simp [h1], fun i y hy => ?_⟩
  by_cases hi : i < n
  ·rw [List.getElem?_append_left (by omega)] at hy
   exact h2 i y hy
  ·rw [List.getElem?_append_right (by omega)] at hy
   have : i = n := by
    have := (List.getElem?_eq_some_iff.1 hy).1
    simp at this
    omega
   subst this
   simp [h1] at hy
   subst hy
   exact hx
theorem mapM_at {α β : Type} {f : α → Option β} : ∀ {l : List α} {r : List β}, l.mapM f = some r → ∀ (i : Nat) (x : α), l[i]? = some x → f x = r[i]?
 | [], r, h, i, x, hx => by simp at hx
 | y :: t, r, h, i, x, hx => by
  simp only [List.mapM_cons, Option.bind_eq_bind, Option.bind_eq_some_iff, Option.pure_def, Option.some.injEq] at h
  obtain ⟨z, h1, u, h2, rfl⟩ := h
  cases i with
  | zero => simp at hx; subst hx; simpa using h1
  | succ i => simp only [List.getElem?_cons_succ] at hx ⊢; exact mapM_at h2 i x hx
theorem pcell_of {b o : Nat} {v : Value} (h : W.cell? ⟨b, o, none⟩ = some v) : PCell (PAll W) b o v := by
 unfold World.cell? at h
 unfold PCell PAll
 split at h
 ·rename_i C e fz hb
  exact ⟨C, e, fz, hb, by simpa using h⟩
 ·cases h
theorem elem_slice {α : Type} {E : PH → α → List Value → Prop} (hb : Bulk bk bka) {t e : TypeId} {sz : Nat} (ht : P.underlying t = some (.slice e)) (hz : P.cellsOf e = sz) (hsz : 0 < sz) (hE : Elem enc P W bk e sz E) :
  ∀ n cs x, Reads enc P W n t cs = some x → bk x.1 ≤ 1048576 → ∃ v xs, cs = [v] ∧ RdS LIM E sz (PAll W) v xs := by
 intro n cs x h hx
 rcases DataW.trod_slice ht h with ⟨rfl, _⟩ | ⟨a, len, cap, elems, rest, m, _, rfl, rfl, _, h2, _, h4, h5, _, _⟩
 ·exact ⟨_, [], rfl, RdS.nil _ _ _⟩
 ·simp only [hb.slice] at hx
  rw [hz] at h5
  have hle := hb.len (elems.map (·.1))
  rw [List.length_map] at hle
  have hel : ∀ i, i < len → ∃ y : α, ∃ cs, cs.length = sz ∧ E (PAll W) y cs ∧ ∀ j v, cs[j]? = some v → W.cell? ((a.add (i * sz)).add j) = some v := by
   intro i hi
   have h6 := h5 i hi
   rw [List.getElem?_eq_getElem (by omega)] at h6
   obtain ⟨cs, k1, k2⟩ := Option.bind_eq_some_iff.1 h6
   obtain ⟨y, k3, k4⟩ := hE m cs _ k2 (Nat.le_trans (hb.memF (by omega)) (by omega))
   refine ⟨y, cs, k3, k4, fun j v hj => ?_⟩
   unfold World.cells? at k1
   split at k1
   ·have hjl := (List.getElem?_eq_some_iff.1 hj).1
    rw [← hj]
    exact mapM_at k1 j j (by rw [List.getElem?_range (by omega)])
   ·cases k1
  obtain ⟨xs, x1, x2⟩ := list_of len hel
  refine ⟨_, xs, rfl, some a, cap, by rw [x1], by omega, by simp only [LIM]; omega, ?_⟩
  by_cases h0 : len = 0
  ·exact .inl (List.eq_nil_of_length_eq_zero (by omega))
  ·right
   have hspot : a.spot = none := by
    obtain ⟨y, cs, y1, _, y2⟩ := hel 0 (by omega)
    have := World.cell?_spot (y2 0 cs[0] (by simp))
    simpa [Addr.add] using this
   obtain ⟨b, o, sp⟩ := a
   simp only at hspot
   subst hspot
   refine ⟨b, o, rfl, fun i y hy => ?_⟩
   obtain ⟨cs, c1, c2, c3⟩ := x2 i y hy
   refine ⟨cs, c1, c2, fun j v hj => pcell_of ?_⟩
   have := c3 j v hj
   rwa [Addr.add_lit, Addr.add_lit] at this
theorem struct_fields (hb : Bulk bk bka) {t : TypeId} {fs : Array Field} {k : Nat} (ht : P.underlying t = some (.struct fs)) (hk : P.cellsOf t = k) (hall : ∀ (i : Nat) (f : Field), fs[i]? = some f → f.offset = i ∧ P.cellsOf f.type = 1) :
  ∀ n cs x, Reads enc P W n t cs = some x → bk x.1 ≤ 1048576 → cs.length = k ∧ ∀ (i : Nat) (f : Field), fs[i]? = some f → i < k → ∃ v y m, cs[i]? = some v ∧ Reads enc P W m f.type [v] = some y ∧ bk y.1 ≤ 1048576 := by
 intro n cs x h hx
 obtain ⟨xs, m, _, rfl, h1, h2, h3⟩ := DataW.trod_struct ht h
 simp only [hb.agg] at hx
 rw [hk] at h1
 refine ⟨h1, fun i f hf hi => ?_⟩
 have hfi := (Array.getElem?_eq_some_iff.1 hf).1
 obtain ⟨ho, hc⟩ := hall i f hf
 have h4 := h3 i f hf
 rw [ho, hc, List.getElem?_eq_getElem (by omega)] at h4
 have e : (cs.drop i).take 1 = [cs[i]'(by omega)] := by
  rw [List.drop_eq_getElem_cons (by omega)]
  rfl
 rw [e] at h4
 exact ⟨_, _, m, List.getElem?_eq_getElem (by omega), h4, Nat.le_trans (hb.memF (by omega)) (by omega)⟩
theorem two_of {cs : List Value} {a b : Value} (h : cs.length = 2) (h0 : cs[0]? = some a) (h1 : cs[1]? = some b) : cs = [a, b] := by
 match cs, h with
 | [x, y], _ => simp at h0 h1; simp [h0, h1]
theorem three_of {cs : List Value} {a b c : Value} (h : cs.length = 3) (h0 : cs[0]? = some a) (h1 : cs[1]? = some b) (h2 : cs[2]? = some c) : cs = [a, b, c] := by
 match cs, h with
 | [x, y, z], _ => simp at h0 h1 h2; simp [h0, h1, h2]
variable {ti ts tb tis : TypeId}
theorem elem_held (hb : Bulk bk bka) {t : TypeId} {f0 f1 f2 : Field} (ht : P.underlying t = some (.struct #[f0, f1, f2])) (hk : P.cellsOf t = 3) (hall : ∀ (i : Nat) (f : Field), #[f0, f1, f2][i]? = some f → f.offset = i ∧ P.cellsOf f.type = 1)
  (e0 : f0.type = ti) (e1 : f1.type = tis) (e2 : f2.type = ti) (hi : P.underlying ti = some (.int .i64)) (his : P.underlying tis = some (.slice ti)) (hz : P.cellsOf ti = 1) : Elem enc P W bk t 3 heldE := by
 intro n cs x h hx
 obtain ⟨hl, hf⟩ := struct_fields hb ht hk hall n cs x h hx
 obtain ⟨v0, y0, m0, a0, b0, c0⟩ := hf 0 f0 rfl (by omega)
 obtain ⟨v1, y1, m1, a1, b1, c1⟩ := hf 1 f1 rfl (by omega)
 obtain ⟨v2, y2, m2, a2, b2, c2⟩ := hf 2 f2 rfl (by omega)
 rw [e0] at b0; rw [e1] at b1; rw [e2] at b2
 obtain ⟨i0, _, g0, g0'⟩ := elem_int (bk := bk) hi m0 _ _ b0 c0
 obtain ⟨i2, _, g2, g2'⟩ := elem_int (bk := bk) hi m2 _ _ b2 c2
 obtain ⟨v, xs, g1, g1'⟩ := elem_slice hb his hz (by omega) (elem_int hi) m1 _ _ b1 c1
 simp only [List.cons.injEq, and_true] at g0 g1 g2
 subst g0 g1 g2
 obtain ⟨a, c, rfl⟩ := g1'.shape
 exact ⟨⟨i0, xs, i2⟩, hl, _, _, _, three_of hl a0 a1 a2, g0', g1', g2'⟩
theorem elem_item (hb : Bulk bk bka) {t : TypeId} {f0 f1 f2 : Field} (ht : P.underlying t = some (.struct #[f0, f1, f2])) (hk : P.cellsOf t = 3) (hall : ∀ (i : Nat) (f : Field), #[f0, f1, f2][i]? = some f → f.offset = i ∧ P.cellsOf f.type = 1)
  (e0 : f0.type = ts) (e1 : f1.type = tb) (e2 : f2.type = tis) (hs : P.underlying ts = some .string) (hbo : P.underlying tb = some .bool) (hi : P.underlying ti = some (.int .i64)) (his : P.underlying tis = some (.slice ti)) (hz : P.cellsOf ti = 1) : Elem enc P W bk t 3 itemE := by
 intro n cs x h hx
 obtain ⟨hl, hf⟩ := struct_fields hb ht hk hall n cs x h hx
 obtain ⟨v0, y0, m0, a0, b0, c0⟩ := hf 0 f0 rfl (by omega)
 obtain ⟨v1, y1, m1, a1, b1, c1⟩ := hf 1 f1 rfl (by omega)
 obtain ⟨v2, y2, m2, a2, b2, c2⟩ := hf 2 f2 rfl (by omega)
 rw [e0] at b0; rw [e1] at b1; rw [e2] at b2
 obtain ⟨i0, _, g0, g0'⟩ := elem_str hb hs m0 _ _ b0 c0
 obtain ⟨i1, _, g1⟩ := elem_bool (bk := bk) hbo m1 _ _ b1 c1
 obtain ⟨v, xs, g2, g2'⟩ := elem_slice hb his hz (by omega) (elem_int hi) m2 _ _ b2 c2
 simp only [List.cons.injEq, and_true] at g0 g1 g2
 subst g0 g1 g2
 obtain ⟨a, c, rfl⟩ := g2'.shape
 exact ⟨⟨i0, i1, xs⟩, hl, _, _, _, three_of hl a0 a1 a2, g0', g2'⟩
theorem elem_snap (hb : Bulk bk bka) {t tit tits : TypeId} {f0 f1 : Field} (ht : P.underlying t = some (.struct #[f0, f1])) (hk : P.cellsOf t = 2) (hall : ∀ (i : Nat) (f : Field), #[f0, f1][i]? = some f → f.offset = i ∧ P.cellsOf f.type = 1)
  (e0 : f0.type = ts) (e1 : f1.type = tits) (hs : P.underlying ts = some .string) (his : P.underlying tits = some (.slice tit)) (hz : P.cellsOf tit = 3) (hit : Elem enc P W bk tit 3 itemE) : Elem enc P W bk t 2 snapE := by
 intro n cs x h hx
 obtain ⟨hl, hf⟩ := struct_fields hb ht hk hall n cs x h hx
 obtain ⟨v0, y0, m0, a0, b0, c0⟩ := hf 0 f0 rfl (by omega)
 obtain ⟨v1, y1, m1, a1, b1, c1⟩ := hf 1 f1 rfl (by omega)
 rw [e0] at b0; rw [e1] at b1
 obtain ⟨i0, _, g0, g0'⟩ := elem_str hb hs m0 _ _ b0 c0
 obtain ⟨v, xs, g1, g1'⟩ := elem_slice hb his hz (by omega) hit m1 _ _ b1 c1
 simp only [List.cons.injEq, and_true] at g0 g1
 subst g0 g1
 obtain ⟨a, c, rfl⟩ := g1'.shape
 exact ⟨⟨i0, xs⟩, hl, _, _, _, two_of hl a0 a1, g0', g1'⟩
theorem elem_disk (hb : Bulk bk bka) {t the thes tit tits tsn tsns : TypeId} {f0 f1 f2 : Field} (ht : P.underlying t = some (.struct #[f0, f1, f2])) (hk : P.cellsOf t = 3) (hall : ∀ (i : Nat) (f : Field), #[f0, f1, f2][i]? = some f → f.offset = i ∧ P.cellsOf f.type = 1)
  (e0 : f0.type = thes) (e1 : f1.type = tits) (e2 : f2.type = tsns) (h0 : P.underlying thes = some (.slice the)) (h1 : P.underlying tits = some (.slice tit)) (h2 : P.underlying tsns = some (.slice tsn)) (z0 : P.cellsOf the = 3) (z1 : P.cellsOf tit = 3) (z2 : P.cellsOf tsn = 2)
  (hh : Elem enc P W bk the 3 heldE) (hit : Elem enc P W bk tit 3 itemE) (hsn : Elem enc P W bk tsn 2 snapE) : Elem enc P W bk t 3 diskE := by
 intro n cs x h hx
 obtain ⟨hl, hf⟩ := struct_fields hb ht hk hall n cs x h hx
 obtain ⟨v0, y0, m0, a0, b0, c0⟩ := hf 0 f0 rfl (by omega)
 obtain ⟨v1, y1, m1, a1, b1, c1⟩ := hf 1 f1 rfl (by omega)
 obtain ⟨v2, y2, m2, a2, b2, c2⟩ := hf 2 f2 rfl (by omega)
 rw [e0] at b0; rw [e1] at b1; rw [e2] at b2
 obtain ⟨u0, x0, g0, g0'⟩ := elem_slice hb h0 z0 (by omega) hh m0 _ _ b0 c0
 obtain ⟨u1, x1, g1, g1'⟩ := elem_slice hb h1 z1 (by omega) hit m1 _ _ b1 c1
 obtain ⟨u2, x2, g2, g2'⟩ := elem_slice hb h2 z2 (by omega) hsn m2 _ _ b2 c2
 simp only [List.cons.injEq, and_true] at g0 g1 g2
 subst g0 g1 g2
 obtain ⟨a, c, rfl⟩ := g0'.shape
 obtain ⟨a', c', rfl⟩ := g1'.shape
 obtain ⟨a'', c'', rfl⟩ := g2'.shape
 exact ⟨⟨x0, x1, x2⟩, hl, _, _, _, _, _, _, _, _, _, three_of hl a0 a1 a2, g0', g1', g2'⟩
theorem same_of_ext {w w' : World} (h : Ext w w') {p : MemPlace} (hp : p.block < w.heap.size) : w.sameAt w' p := by
 have hb := h.block p.block hp
 cases p with
 | cell b off => simp only [World.sameAt, World.cell?]; simp only [MemPlace.block] at hb; rw [hb]
 | map b => simp only [World.sameAt]; simpa [MemPlace.block] using hb
end
end Fw
namespace Fw
open Go Go.ChangeShapes Go.WideShapes
section
variable {H : Type} {enc : TypeId × Value → H} {P : Program}
theorem trodAll_stays (hl : laidOutB P = true) {W W' : World} {sp' : Nat → Bool} : ∀ {ts : List TypeId} {vs : List Value} {ds : List (DataW H)} {ps : List MemPlace}, (∀ t, t ∈ ts → P.readableRec t = true ∧ t < P.types.size) →
  DataW.TrodAll enc P W 0 (fun _ => true) true ts vs ds ps → (∀ p ∈ ps, W.sameAt W' p) → (∀ p ∈ ps, sp' p.block = true) → DataW.TrodAll enc P W' 0 sp' true ts vs ds ps
 | [], _, _, _, _, h, _, _ => by
  obtain ⟨rfl, rfl, rfl⟩ := trodAll_nil h
  rfl
 | t :: ts, _, _, _, hr, h, hs, hq => by
  obtain ⟨v, vs1, d, ds1, a, b, rfl, rfl, rfl, h1, h2⟩ := trodAll_cons h
  exact ⟨a, b, WideElems.Trod_stays hl (hr t (by simp)).1 (hr t (by simp)).2 h1 (fun p hp => hs p (by simp [hp])) (fun p hp => hq p (by simp [hp])),
   trodAll_stays hl (fun t ht => hr t (by simp [ht])) h2 (fun p hp => hs p (by simp [hp])) (fun p hp => hq p (by simp [hp])), rfl⟩
theorem kept_of_ext {W W' : World} (h : Ext W W') (may : MemPlace → Prop) : W.keptBut W' may := by
 refine ⟨h.os, h.output, fun i hi => ?_⟩
 rw [h.block i hi]
 cases W.heap[i]? with
 | none => simp
 | some o => cases o <;> simp
theorem law_post {f : Func} {s : ChangeSpec} {apart fresh handsOn again : Bool} {W W' : World} {args : Array Value} {ds gs : List (DataW H)} {before : List MemPlace} (hl : laidOutB P = true) (hr : ∀ t, t ∈ f.params.toList → P.readableRec t = true ∧ t < P.types.size)
  (hv : s.vars = []) (hW : DataW.Whole enc P f.params.toList s.vars apart W args.toList ds gs before) (hx : Ext W W') (hfr : (s.fn H (ds ++ gs)).results = [.lit (.bool true)]) (hfa : (s.fn H (ds ++ gs)).args = ds) (hfv : (s.fn H (ds ++ gs)).vars = [])
  (hres : ∀ (b : Nat) (sp : Nat → Bool) (hd : Bool), DataW.TrodAll enc P W' b sp hd f.resultTypes.toList ((Value.bool true).resultList f.resultTypes.size) [.lit (.bool true)] [])
  (hok : ∀ (j : Nat) (t : TypeId) (r : Value), f.resultTypes[j]? = some t → ((Value.bool true).resultList f.resultTypes.size)[j]? = some r → Value.okWide P W' .any 0 t r) :
  s.post enc P f apart fresh handsOn again W args (.bool true) W' := by
 have hW' := hW
 obtain ⟨p, q, hA, hV, rfl, hz, hn⟩ := hW
 rw [hv] at hV
 have hgs : gs = [] ∧ q = [] := by
  cases gs with
  | nil => exact ⟨rfl, hV⟩
  | cons d r => exact hV.elim
 obtain ⟨rfl, rfl⟩ := hgs
 rw [List.append_nil] at hW' hz hn
 have hlt : ∀ m ∈ p, m.block < W.heap.size := fun m hm => hW'.lt m hm
 have hold : ∀ m ∈ p, (fun b => decide (b < W.heap.size)) m.block = true := fun m hm => by simpa using hlt m hm
 have hargs : ∀ sp : Nat → Bool, (∀ m ∈ p, sp m.block = true) → DataW.TrodAll enc P W' 0 sp true f.params.toList args.toList (s.fn H (ds ++ [])).args p := fun sp hsp => by
  rw [hfa]
  exact trodAll_stays hl hr hA (fun m hm => same_of_ext hx (hlt m hm)) hsp
 have hvars : ∀ sp : Nat → Bool, DataW.TrodVars enc P W' sp s.vars (s.fn H (ds ++ [])).vars [] := fun sp => by rw [hv, hfv]; rfl
 have hres' : ∀ (b : Nat) (sp : Nat → Bool) (hd : Bool), DataW.TrodAll enc P W' b sp hd f.resultTypes.toList ((Value.bool true).resultList f.resultTypes.size) (s.fn H (ds ++ [])).results [] := fun b sp hd => by rw [hfr]; exact hres b sp hd
 refine ⟨ds, [], p, [], p, [], hW', hres' _ _ _, hargs _ hold, hvars _, World.keptBut_mono (fun m hm => ⟨hm, Or.inr ?_⟩) (kept_of_ext hx (· ∈ p)), fun _ => ?_⟩
 ·simpa using hm
 ·refine ⟨hok, _, _, ([] ++ p) ++ [], ⟨[] ++ p, [], trodAll_append (hargs _ (fun _ _ => rfl)) (hres' _ _ _), hvars _, rfl, ?_, ?_⟩, ?_⟩
  ·intro b off hp
   have hp' : MemPlace.cell b off ∈ p := by simpa using hp
   have h1 := hz b off hp'
   have h2 := hx.block b (hlt _ hp')
   simp only [World.frozen?] at h1 ⊢
   rw [h2]
   exact h1
  ·intro ha
   simpa using hn ha
  ·intro m hm _
   simpa using hm
end
end Fw
namespace Fw
open Go Go.WideShapes
theorem agg_of {P : Program} {W : World} {b : Nat} {t : TypeId} {fs : Array Field} {v : Value} (ht : P.underlying t = some (.struct fs)) (h : Value.okWide P W .any b t v) : ∃ cs : List Value, v = .agg cs.toArray := by
 unfold Value.okWide at h
 rw [ht] at h
 obtain ⟨cs, rfl, _⟩ := h
 exact ⟨cs.toList, by simp⟩
end Fw
