/- Part 3 of the proof: contracts of functions of the program. Conditions: none. -/
import Derived.Test.YtndbaapcenjhdaaGreatDoorProg
import Derived.Test.YtndbaapcenjhdaaGreatDoorG00
import Derived.Test.YtndbaapcenjhdaaGreatDoorG01
import Derived.Test.YtndbaapcenjhdaaGreatDoorG02
import Derived.Conc.MuLone
import Derived.KernelRfl
set_option linter.all false
set_option maxRecDepth 100000
set_option maxHeartbeats 1000000
namespace Go.Proofs.Tst
open Go Fw
theorem i_newDisk_c (w0 : World) (G0 : PH) (hG : PSub G0 w0) (cd : List Value) (d : BDisk) (hd : diskE G0 d cd) (hLent : Lent w0 G0 [])  :
  Calls Tryz.prog 112 #[.agg cd.toArray] w0 (RetM w0 G0 [] (fun G' v Bs => (v = .tuple #[.pointer none, .bool false] ∧ Bs = [] ∧ Sp.DiskValid d = false) ∨ (∃ (db mb : Nat) (es : Array MapEntry) (ck : Nat) (xs : List (Int × Value)) (T : Nd) (F : Fr) (sv : Value) (sn : List (Fw.Bs × Nd)) (c : List Value) (FSq : Fr), v = .tuple #[.pointer (some ⟨db, 0, none⟩), .bool true] ∧ Bs = [blk db (cl [.int .i32 0, .int .u32 0, .map (some mb), .pointer (some ⟨T.b, 0, none⟩), sv] 163), blk mb (.map es ck), frag F, acc 167 2 sv sn.length c, frag FSq] ∧ MapIs (Value.int .i64) es ck xs ∧ StR G' xs d.store ∧ NdO 83 67 G' T F ∧ Nd.TOK T d.tree ∧ Chk osE 2 G' c sn ∧ NdsO 83 67 G' (sn.map (·.2)) FSq ∧ SnOK sn d.snaps ∧ Sp.DiskValid d = true))) := by
 obtain ⟨a1, m1, c1, a1', m1', c1', a1'', m1'', c1'', rfl, hr1, hr1', hr1''⟩ := hd; have hn_hr1 := hr1.len; have hx_hr1 : _ ≤ 1099511627776 := hr1.lim; have hn_hr1q := hr1'.len; have hx_hr1q : _ ≤ 1099511627776 := hr1'.lim; have hn_hr1qq := hr1''.len; have hx_hr1qq : _ ≤ 1099511627776 := hr1''.lim
 have H : Hp w0 G0 [] w0 G0 [] := hLent.hp
 refine calls_of_W (l := [_]) Tryz.func112 rfl Tryz.ntmps112 rfl ?_
 refine q2 ?_
 refine o_box H rfl rfl rfl ?_; intro b2 w2 hb2 H
 refine o_assign rfl rfl ?_
 refine o_assign rfl rfl ?_
 refine q1 ?_
 refine o_fieldAddr 0 Tryz.runUnderlying53 rfl Tryz.sizeOf23 rfl rfl rfl ?_
 refine o_load_B 0 H Tryz.isAgg23 rfl rfl rfl rfl ?_
 refine o_fieldAddr 1 Tryz.runUnderlying53 rfl Tryz.sizeOf24 rfl rfl rfl ?_
 refine o_load_B 0 H Tryz.isAgg24 rfl rfl rfl rfl ?_
 refine o_call Tryz.call74 rfl rfl (i_newVolume_c _ _ H.sub _ _ hr1 _ _ hr1' H.lent0 ) ?_
 rintro _ w3 ⟨G3, _, _, rfl, H3', ⟨rfl, rfl, hnv3⟩ | ⟨mb3, es3, ck3, xs3, T3, F3, rfl, rfl, hm3, hS3, hV3, hN3, hT3, hv3⟩⟩
 ·skip
  have hr1 := hr1.up H3'.le
  have hr1' := hr1'.up H3'.le
  have hr1'' := hr1''.up H3'.le
  have H := H.borrow0 H3'
  refine ⟨_, rfl, ?_⟩
  refine o_move rfl rfl ?_
  refine o_extract rfl rfl rfl ?_
  refine o_extract rfl rfl rfl ?_
  refine o_alloc H Tryz.zeroValue69 rfl rfl ?_; intro b4 w4 hb4 H
  refine o_store_B 0 H Tryz.sizeOf69 rfl rfl rfl rfl rfl rfl rfl rfl ?_; intro w5 H
  refine o_assign rfl rfl ?_
  refine q3 ?_
  refine W_seq ?_
  refine q2 ?_
  refine o_move rfl rfl ?_
  refine o_not rfl rfl ?_
  refine o_move rfl rfl ?_
  refine R_pass rfl (yl_ne rfl rfl rfl) ?_
  refine R_pass rfl (yl_ne rfl rfl rfl) ?_
  refine R_pass rfl (yl_ne rfl rfl rfl) ?_
  refine R_pass rfl (yl_ne rfl rfl rfl) ?_
  refine o_pick_t rfl rfl rfl ?_
  refine q3 ?_
  refine W_true rfl ?_
  refine q2 ?_
  refine o_assign rfl rfl ?_
  refine o_assign rfl rfl ?_
  refine q3 ?_
  refine W_ret ?_
  refine N_K_ret ?_
  refine ret_gen (rs := [.tmp 2, .tmp 3]) (vs := [_, _]) Tryz.results112 ⟨rfl, rfl, trivial⟩ ?_
  have H := H.del (k := 0) rfl
  have H := H.del (k := 0) rfl
  exact H.retM (.inl ⟨rfl, rfl, Sp.dv_no (fun hh => by simp [hh.1, hh.2.1] at hnv3)⟩)
 skip
 have hr1 := hr1.up H3'.le
 have hr1' := hr1'.up H3'.le
 have hr1'' := hr1''.up H3'.le
 have H := H.borrow0 H3'
 refine ⟨_, rfl, ?_⟩
 refine o_move rfl rfl ?_
 refine o_extract rfl rfl rfl ?_
 refine o_extract rfl rfl rfl ?_
 refine o_alloc H Tryz.zeroValue69 rfl rfl ?_; intro b6 w6 hb6 H
 refine o_store_B 0 H Tryz.sizeOf69 rfl rfl rfl rfl rfl rfl rfl rfl ?_; intro w7 H
 refine o_assign rfl rfl ?_
 refine q3 ?_
 refine W_seq ?_
 refine q2 ?_
 refine o_move rfl rfl ?_
 refine o_not rfl rfl ?_
 refine o_move rfl rfl ?_
 refine R_guard (yl rfl rfl) ?_
 refine o_fieldAddr 2 Tryz.runUnderlying53 rfl Tryz.sizeOf51 rfl rfl rfl ?_
 refine R_guard (yl rfl rfl) ?_
 refine o_load_B 3 H Tryz.isAgg51 rfl rfl rfl rfl ?_
 refine R_guard (yl rfl rfl) ?_
 refine o_len_slice Tryz.underlying51 rfl rfl ?_
 refine R_guard (yl rfl rfl) ?_
 refine o_gtr rfl rfl rfl ?_
 refine o_pick_f rfl rfl rfl ?_
 refine q3 ?_
 refine W_cond rfl ?_ ?_
 ·intro hc8
  try simp only [nrm] at hc8
  refine q2 ?_
  refine o_assign rfl rfl ?_
  refine o_assign rfl rfl ?_
  refine q3 ?_
  refine W_ret ?_
  refine N_K_ret ?_
  refine ret_gen (rs := [.tmp 2, .tmp 3]) (vs := [_, _]) Tryz.results112 ⟨rfl, rfl, trivial⟩ ?_
  have H := H.del (k := 0) rfl
  have H := H.del (k := 0) rfl
  have H := H.del (k := 0) rfl
  have H := H.del (k := 0) rfl
  exact H.retM (.inl ⟨rfl, rfl, Sp.dv_no (fun hh => by have := hh.2.2.1; omega)⟩)
 intro hc8'
 try simp only [nrm] at hc8'
 refine W_skip ?_
 refine N_K ?_
 refine q2 ?_
 refine o_loadagg_B 0 H Tryz.isAgg69 Tryz.sizeOf69 rfl rfl rfl rfl rfl ?_
 refine o_build bf163 rfl rfl rfl ?_
 refine o_box H rfl rfl rfl ?_; intro b9 w9 hb9 H
 refine o_assign rfl rfl ?_
 refine q1 ?_
 refine o_fieldAddr 1 Tryz.runUnderlying69 rfl Tryz.sizeOf67 rfl rfl rfl ?_
 refine o_load_B 1 H Tryz.isAgg67 rfl rfl rfl rfl ?_
 refine o_buildSlice H Tryz.underlying81 Tryz.sizeOf67 (fun w => ⟨_, Tryz.zeroValue67 w, rfl⟩) rfl rfl rfl rfl rfl rfl rfl ?_; intro b10 w10 hb10 H
 refine o_assign rfl rfl ?_
 refine q3 ?_
 refine W_seq ?_
 refine q2 ?_
 refine o_fieldAddr 2 Tryz.runUnderlying53 rfl Tryz.sizeOf51 rfl rfl rfl ?_
 refine o_load_B 5 H Tryz.isAgg51 rfl rfl rfl rfl ?_
 refine o_len_slice Tryz.underlying51 rfl rfl ?_
 refine o_move rfl rfl ?_
 refine q3 ?_
 refine W_block ?_
 have H := H.blkAcc 1 (k := 0) (n := 1) rfl rfl (by decide)
 have H := H.addF
 have H := H.addNil 167 2
 obtain ⟨ln12, hln12, H⟩ := H.nameAt (k := 3) (off := 4) rfl rfl
 obtain ⟨ln13, hln13, H⟩ := H.name (k := 4) rfl
 obtain ⟨ln14, hln14, H⟩ := H.name (k := 7) rfl
 refine W_loop (hf := (Sub.cons (t := 4) rfl (Sub.cons (t := 6) rfl (Sub.cons (t := 35) rfl (Sub.cons (t := 36) rfl Sub.nil))))) (J := fun M w m => ∃ (v : Value) (n : Nat) (cs : List Value) (xs : List (Bs × Nd)) (v1 : Value) (n1 : Nat) (cs1 : List Value) (xs1 : List (Nd)) (k : Nat) (FSq : Fr) (G : PH), M = [(37, .int .i64 (k : Int)), (7, v1)] ∧ PLe G3 G ∧ Hp w0 G0 [] w G [acc 167 2 v n cs, frag FSq, acc 67 1 v1 n1 cs1, blk b9 (cl (setN ln12 4 v) 163), blk b6 (cl ln13 69), blk mb3 (.map es3 ck3), frag F3, blk b2 (cl ln14 53)] ∧ (Chk osE 2 G cs xs ∧ n = xs.length ∧ Chk kdE 1 G cs1 xs1 ∧ n1 = xs1.length ∧ k ≤ d.snaps.length ∧ xs1 = T3 :: xs.map (·.2) ∧ NdsO 83 67 G (xs.map (·.2)) FSq ∧ SnOK xs (d.snaps.take k) ∧ ∀ (j : Nat) (s : BSnap), j < k → d.snaps[j]? = some s → Sp.l1Word s.name = true ∧ (j : Int) ≤ Sp.l12At d.snaps s.name) ∧ m = (d.snaps.length - k)) (h0 := ⟨_, _, _, [], _, _, _, [T3], 0, [], _, rfl, PLe.refl _, H, ?inv, rfl⟩) (hM := ?hM) (round := ?round)
 case hM => (repeat (first | exact Sub.nil | refine Sub.cons rfl ?_))
 case inv => exact ⟨(Chk.nil (E := osE) (sz := 2) (G := G3)), (by first | rfl | simp | (simp; omega) | omega), (chkK [T3]),  by first | rfl | simp | (simp; omega) | omega, (by exact ⟨by omega, rfl, by simp [NdsO], .nil, fun j s hj => by omega⟩)⟩
 case round =>
  rintro _ w15 _ ⟨v, n, cs, xs, v1, n1, cs1, xs1, k, FSq, G15, rfl, hle15, H, hinv15, rfl⟩
  subst hln12
  subst hln13
  subst hln14
  have hr1 := hr1.up hle15
  have hr1' := hr1'.up hle15
  have hr1'' := hr1''.up hle15
  have hS3 := hS3.up hle15
  have hN3 := hN3.up hle15
  obtain ⟨hchk15_0, hn15_0, hinv15⟩ := hinv15
  obtain ⟨av15_0, cv15_0, rfl⟩ := H.accShape (k := 0) rfl
  obtain ⟨hchk15_1, hn15_1, hinv15⟩ := hinv15
  obtain ⟨av15_1, cv15_1, rfl⟩ := H.accShape (k := 2) rfl
  obtain ⟨hk, hx1, hNs, hSn, hw⟩ := hinv15; have hsl := hSn.len; have hxl6 : xs.length ≤ 6 := (by simp at hsl; omega); have hx1l : xs1.length = xs.length + 1 := by simp [hx1]
  refine q2 ?_
  refine o_lss rfl rfl rfl ?_
  refine q3 ?_
  refine W_seq ?_
  refine W_cond rfl ?_ ?_
  ·intro hc16
   try simp only [nrm] at hc16
   refine W_skip ?_
   refine N_K ?_
   refine W_seq ?_
   refine W_block ?_
   refine q2 ?_
   refine o_index_P k hr1'' Tryz.underlying51 Tryz.sizeOf102 rfl rfl rfl rfl (by first | omega | (simp; omega)) ?_; intro b17 o17 z17 q17 hz17 hE17 hrow17
   obtain ⟨a17, m17, c17, rfl, hi17, hr17⟩ := hE17; have hy_hi17 : _ ≤ 16777216 := hi17; have hn_hr17 := hr17.len; have hx_hr17 : _ ≤ 1099511627776 := hr17.lim
   refine o_loadagg_P H Tryz.isAgg102 Tryz.sizeOf102 rfl rfl hrow17 rfl ?_
   refine o_alloc H Tryz.zeroValue102 rfl rfl ?_; intro b18 w18 hb18 H
   refine o_store_B 0 H Tryz.sizeOf102 rfl rfl rfl rfl rfl rfl rfl rfl ?_; intro w19 H
   refine q1 ?_
   refine o_fieldAddr 1 Tryz.runUnderlying102 rfl Tryz.sizeOf24 rfl rfl rfl ?_
   refine o_load_B 0 H Tryz.isAgg24 rfl rfl rfl rfl ?_
   refine o_call Tryz.call40 rfl rfl (i_openTree_c _ _ H.sub _ _ hr17 H.lent0 ) ?_
   rintro _ w20 ⟨G20, _, _, rfl, H20', ⟨rfl, rfl, hv20⟩ | ⟨T20, F20, rfl, rfl, hN20, hT20, hv20⟩⟩
   ·skip
    have hr1 := hr1.up H20'.le
    have hr1' := hr1'.up H20'.le
    have hr1'' := hr1''.up H20'.le
    have hS3 := hS3.up H20'.le
    have hN3 := hN3.up H20'.le
    have hchk15_0 := hchk15_0.up H20'.le
    have hchk15_1 := hchk15_1.up H20'.le
    have hNs := hNs.up H20'.le
    have hr17 := hr17.up H20'.le
    have hrow17 := hrow17.up H20'.le
    have hle15 := hle15.trans H20'.le
    have H := H.borrow0 H20'
    refine ⟨_, rfl, ?_⟩
    refine o_move rfl rfl ?_
    refine o_extract rfl rfl rfl ?_
    refine o_extract rfl rfl rfl ?_
    refine o_assign rfl rfl ?_
    refine o_assign rfl rfl ?_
    refine q3 ?_
    refine W_seq ?_
    refine q2 ?_
    refine o_move rfl rfl ?_
    refine o_not rfl rfl ?_
    refine o_move rfl rfl ?_
    refine R_pass rfl (yl_ne rfl rfl rfl) ?_
    refine R_pass rfl (yl_ne rfl rfl rfl) ?_
    refine R_pass rfl (yl_ne rfl rfl rfl) ?_
    refine R_pass rfl (yl_ne rfl rfl rfl) ?_
    refine o_pick_t rfl rfl rfl ?_
    refine o_move rfl rfl ?_
    refine R_pass rfl (yl_ne rfl rfl rfl) ?_
    refine R_pass rfl (yl_ne rfl rfl rfl) ?_
    refine R_pass rfl (yl_ne rfl rfl rfl) ?_
    refine R_pass rfl (yl_ne rfl rfl rfl) ?_
    refine R_pass rfl (yl_ne rfl rfl rfl) ?_
    refine o_pick_t rfl rfl rfl ?_
    refine q3 ?_
    refine W_true rfl ?_
    refine q2 ?_
    refine o_assign rfl rfl ?_
    refine o_assign rfl rfl ?_
    refine q3 ?_
    refine W_ret ?_
    refine N_K_ret ?_
    refine N_B_ret ?_
    refine N_K_ret ?_
    refine N_LP_ret ?_
    refine N_B_ret ?_
    refine N_K_ret ?_
    refine ret_gen (rs := [.tmp 2, .tmp 3]) (vs := [_, _]) Tryz.results112 ⟨rfl, rfl, trivial⟩ ?_
    have H := H.del (k := 0) rfl
    have H := H.del (k := 0) rfl
    have H := H.del (k := 0) rfl
    have H := H.del (k := 0) rfl
    have H := H.del (k := 0) rfl
    have H := H.del (k := 0) rfl
    have H := H.del (k := 0) rfl
    have H := H.del (k := 0) rfl
    have H := H.del (k := 0) rfl
    exact H.retM (.inl ⟨rfl, rfl, Sp.dv_no (fun hh => by (rw [(hh.2.2.2 k _ hz17).2.2] at hv20); cases hv20)⟩)
   skip
   have hr1 := hr1.up H20'.le
   have hr1' := hr1'.up H20'.le
   have hr1'' := hr1''.up H20'.le
   have hS3 := hS3.up H20'.le
   have hN3 := hN3.up H20'.le
   have hchk15_0 := hchk15_0.up H20'.le
   have hchk15_1 := hchk15_1.up H20'.le
   have hNs := hNs.up H20'.le
   have hr17 := hr17.up H20'.le
   have hrow17 := hrow17.up H20'.le
   have hle15 := hle15.trans H20'.le
   have H := H.borrow0 H20'
   refine ⟨_, rfl, ?_⟩
   refine o_move rfl rfl ?_
   refine o_extract rfl rfl rfl ?_
   refine o_extract rfl rfl rfl ?_
   refine o_assign rfl rfl ?_
   refine o_assign rfl rfl ?_
   refine q3 ?_
   refine W_seq ?_
   refine q2 ?_
   refine o_move rfl rfl ?_
   refine o_not rfl rfl ?_
   refine o_move rfl rfl ?_
   refine R_guard (yl rfl rfl) ?_
   refine o_fieldAddr 0 Tryz.runUnderlying102 rfl Tryz.sizeOf9 rfl rfl rfl ?_
   refine R_guard (yl rfl rfl) ?_
   refine o_load_B 1 H Tryz.isAgg9 rfl rfl rfl rfl ?_
   refine R_guard (yl rfl rfl) ?_
   refine o_call Tryz.call116 rfl rfl (i_partValid_c _ _ hi17 ) ?_
   rintro _ w21 ⟨rfl, ew21⟩; have H := H.step ew21; refine ⟨_, rfl, ?_⟩
   refine R_guard (yl rfl rfl) ?_
   refine o_not rfl rfl ?_
   refine o_pick_f rfl rfl rfl ?_
   refine o_move rfl rfl ?_
   refine R_case (t := 55) rfl ?_ ?_
   ·intro hc22
    try simp only [nrm] at hc22
    refine R_pass rfl (yl_ne rfl rfl rfl) ?_
    refine R_pass rfl (yl_ne rfl rfl rfl) ?_
    refine R_pass rfl (yl_ne rfl rfl rfl) ?_
    refine R_pass rfl (yl_ne rfl rfl rfl) ?_
    refine R_pass rfl (yl_ne rfl rfl rfl) ?_
    refine o_pick_t rfl rfl rfl ?_
    refine q3 ?_
    refine W_true rfl ?_
    refine q2 ?_
    refine o_assign rfl rfl ?_
    refine o_assign rfl rfl ?_
    refine q3 ?_
    refine W_ret ?_
    refine N_K_ret ?_
    refine N_B_ret ?_
    refine N_K_ret ?_
    refine N_LP_ret ?_
    refine N_B_ret ?_
    refine N_K_ret ?_
    refine ret_gen (rs := [.tmp 2, .tmp 3]) (vs := [_, _]) Tryz.results112 ⟨rfl, rfl, trivial⟩ ?_
    have H := H.del (k := 0) rfl
    have H := H.del (k := 0) rfl
    have H := H.del (k := 0) rfl
    have H := H.del (k := 0) rfl
    have H := H.del (k := 0) rfl
    have H := H.del (k := 0) rfl
    have H := H.del (k := 0) rfl
    have H := H.del (k := 0) rfl
    have H := H.del (k := 0) rfl
    have H := H.del (k := 0) rfl
    exact H.retM (.inl ⟨rfl, rfl, Sp.dv_no (fun hh => by have h9 := (hh.2.2.2 k _ hz17).1; simp_all)⟩)
   intro hc22'
   try simp only [nrm] at hc22'
   refine R_guard (yl rfl rfl) ?_
   refine o_move rfl rfl ?_
   refine R_guard (yl rfl rfl) ?_
   refine o_fieldAddr 0 Tryz.runUnderlying102 rfl Tryz.sizeOf9 rfl rfl rfl ?_
   refine R_guard (yl rfl rfl) ?_
   refine o_load_B 1 H Tryz.isAgg9 rfl rfl rfl rfl ?_
   refine R_guard (yl rfl rfl) ?_
   refine o_call Tryz.call117 rfl rfl (i_snapAt_c _ _ (H.lendSubL [2, 5]) _ _ _ _ _ _ _ (prow_blk (H.lendPredL (k := 5) (ks := [2, 5]) rfl rfl)) (H.lendRdL (k := 2) (ks := [2, 5]) rfl rfl hchk15_0 (by first | assumption | rfl | (simp; done) | (simp; omega) | omega) (by first | assumption | (simp; done) | (simp; omega) | omega)) _ hi17 ) ?_
   rintro _ w23 ⟨rfl, ew23⟩; have H := H.step ew23; refine ⟨_, rfl, ?_⟩
   refine R_guard (yl rfl rfl) ?_
   refine o_geq rfl rfl rfl ?_
   refine o_pick_f rfl rfl rfl ?_
   refine q3 ?_
   refine W_cond rfl ?_ ?_
   ·intro hc24
    try simp only [nrm] at hc24
    refine q2 ?_
    refine o_assign rfl rfl ?_
    refine o_assign rfl rfl ?_
    refine q3 ?_
    refine W_ret ?_
    refine N_K_ret ?_
    refine N_B_ret ?_
    refine N_K_ret ?_
    refine N_LP_ret ?_
    refine N_B_ret ?_
    refine N_K_ret ?_
    refine ret_gen (rs := [.tmp 2, .tmp 3]) (vs := [_, _]) Tryz.results112 ⟨rfl, rfl, trivial⟩ ?_
    have H := H.del (k := 0) rfl
    have H := H.del (k := 0) rfl
    have H := H.del (k := 0) rfl
    have H := H.del (k := 0) rfl
    have H := H.del (k := 0) rfl
    have H := H.del (k := 0) rfl
    have H := H.del (k := 0) rfl
    have H := H.del (k := 0) rfl
    have H := H.del (k := 0) rfl
    have H := H.del (k := 0) rfl
    exact H.retM (.inl ⟨rfl, rfl, Sp.dv_no (fun hh => by have h9 := (Sp.at_take hz17).1 (hh.2.2.2 k _ hz17).2.1; (rw [← Sp.sn_find hSn] at h9); omega)⟩)
   intro hc24'
   try simp only [nrm] at hc24'
   refine W_skip ?_
   refine N_K ?_
   refine W_seq ?_
   refine W_drawK [1, 6, 9] 14 H (by kernel_rfl) rfl ?_; intro w25 H; have hd25 := PLe.refl G20
   refine RD_t 0 rfl (by kernel_rfl) rfl (fun _ hK => v_move rfl) ?_
   refine RD_t 1 rfl (by kernel_rfl) rfl (fun _ hK => v_move rfl) ?_
   refine RD_t 2 rfl (by kernel_rfl) rfl (fun _ hK => v_nilCheck rfl) ?_
   refine RD_t 3 rfl (by kernel_rfl) rfl (fun _ hK => v_fieldAddr 4 Tryz.runUnderlying163 rfl Tryz.sizeOf161 rfl rfl) ?_
   refine RD_t 5 rfl (by kernel_rfl) rfl (fun _ hK => v_fieldAddr 0 Tryz.runUnderlying102 rfl Tryz.sizeOf9 rfl rfl) ?_
   refine RD_t 6 rfl (by kernel_rfl) rfl (fun _ hK => v_load_B 0 hK Tryz.isAgg9 rfl rfl rfl) ?_
   refine RD_t 7 rfl (by kernel_rfl) rfl (fun _ hK => v_move rfl) ?_
   refine RD_t 8 rfl (by kernel_rfl) rfl (fun _ hK => v_build bf167 rfl rfl) ?_
   refine RD_run [4, 9] (by kernel_rfl) rfl (RDs.cons rfl ?_ (RDs.cons rfl ?_ RDs.nil))
   ·skip
    refine o_load_B 5 H Tryz.isAgg161 rfl rfl rfl rfl ?_
    refine R_nil ?_
    refine N_DK (Kn.of' H hd25 (SubL.cons 1 rfl (SubL.cons 6 rfl (SubL.cons 9 rfl SubL.nil)))) ?_
    refine RD_run [9] (by kernel_rfl) rfl (RDs.cons rfl ?_ RDs.nil)
    refine o_buildSlice H Tryz.underlying161 Tryz.sizeOf167 (fun w => ⟨_, Tryz.zeroValue167 w, rfl⟩) rfl rfl rfl rfl rfl rfl rfl ?_; intro b26 w26 hb26 H
    refine R_nil ?_
    refine N_DK (Kn.of' H hd25 (SubL.cons 2 rfl (SubL.cons 7 rfl (SubL.cons 10 rfl SubL.nil)))) ?_
    refine RD_run [10] (by kernel_rfl) rfl (RDs.cons rfl ?_ RDs.nil)
    refine o_append1 2 H (sz := 2) (bytes := 24) Tryz.underlying161 Tryz.typeInfo167 ⟨_, rfl, rfl⟩ rfl rfl rfl rfl rfl rfl rfl rfl rfl rfl (by omega) rfl ?_; intro v27 w27 H
    have hchk27 := hchk15_0.snoc (show osE _ (z17.name, T20) _ from ⟨rfl, hi17⟩) rfl
    obtain ⟨av27, cv27, rfl⟩ := H.accShape (k := 2) rfl
    refine R_nil ?_
    refine N_DK (Kn.of' H hd25 (SubL.cons 1 rfl (SubL.cons 6 rfl (SubL.cons 9 rfl SubL.nil)))) ?_
    refine RD_t 11 rfl (by kernel_rfl) rfl (fun _ hK => v_nilCheck rfl) ?_
    refine RD_t 12 rfl (by kernel_rfl) rfl (fun _ hK => v_fieldAddr 4 Tryz.runUnderlying163 rfl Tryz.sizeOf161 rfl rfl) ?_
    refine RD_run [13] (by kernel_rfl) rfl (RDs.cons rfl ?_ RDs.nil)
    have H := H.toFront (k := 3) rfl
    have H := H.mergeF
    refine o_store_B 4 H Tryz.sizeOf161 rfl rfl rfl rfl rfl rfl rfl rfl ?_; intro w28 H
    refine R_nil ?_
    refine N_DK (Kn.of' H hd25 (SubL.cons 1 rfl (SubL.cons 5 rfl (SubL.cons 8 rfl SubL.nil)))) ?_
    refine RD_done (by kernel_rfl) ?_
    refine N_K ?_
    refine W_region ?_
    refine o_move rfl rfl ?_
    refine o_move rfl rfl ?_
    refine o_buildSlice H Tryz.underlying81 Tryz.sizeOf67 (fun w => ⟨_, Tryz.zeroValue67 w, rfl⟩) rfl rfl rfl rfl rfl rfl rfl ?_; intro b29 w29 hb29 H
    refine o_append1 3 H (sz := 1) (bytes := 8) Tryz.underlying81 Tryz.typeInfo67 ⟨_, rfl, rfl⟩ rfl rfl rfl rfl rfl rfl rfl rfl rfl rfl (by omega) rfl ?_; intro v30 w30 H
    have hchk30 := hchk15_1.snoc (show kdE _ T20 _ from rfl) rfl
    obtain ⟨av30, cv30, rfl⟩ := H.accShape (k := 3) rfl
    refine o_assign rfl rfl ?_
    refine R_nil ?_
    refine N_B ?_
    refine N_K ?_
    refine W_region ?_
    refine o_add rfl rfl rfl ⟨by omega, by omega⟩ ?_
    refine o_move rfl rfl ?_
    refine R_nil ?_
    have H := H.del (k := 1) rfl
    have H := H.toFront (k := 7) rfl
    have H := H.toFront (k := 7) rfl
    have H := H.toFront (k := 7) rfl
    have H := H.toFront (k := 7) rfl
    have H := H.toFront (k := 7) rfl
    have H := H.toFront (k := 7) rfl
    have H := H.toFront (k := 6) rfl
    have H := H.toFront (k := 7) rfl
    refine N_LP (hJ := ⟨_, _, _, (xs ++ [(z17.name, T20)]), _, _, _, (xs1 ++ [T20]), k + 1, (FSq ++ F20), _, rfl, hle15, H, ?inv, rfl⟩) (hM := ?hM) (hf := ?hf) (hm := ?hm)
    case hM => (repeat (first | exact Sub.nil | refine Sub.cons rfl ?_))
    case hf => (repeat (first | exact Sub.nil | refine Sub.cons rfl ?_))
    case hm => omega
    case inv => exact ⟨hchk27, (by first | assumption | (simp; omega) | omega), hchk30, (by first | assumption | (simp; omega) | omega), (by exact ⟨by omega, by simp [hx1], by simpa using hNs.snoc hN20, hSn.snoc2 hz17 rfl hT20 hv20, names_step hw hz17 (by simpa using hc22') hSn (by omega)⟩)⟩
   skip
   refine o_buildSlice H Tryz.underlying161 Tryz.sizeOf167 (fun w => ⟨_, Tryz.zeroValue167 w, rfl⟩) rfl rfl rfl rfl rfl rfl rfl ?_; intro b32 w32 hb32 H
   refine R_nil ?_
   refine N_DK (Kn.of' H hd25 (SubL.cons 2 rfl (SubL.cons 7 rfl (SubL.cons 10 rfl SubL.nil)))) ?_
   refine RD_run [4] (by kernel_rfl) rfl (RDs.cons rfl ?_ RDs.nil)
   refine o_load_B 6 H Tryz.isAgg161 rfl rfl rfl rfl ?_
   refine R_nil ?_
   refine N_DK (Kn.of' H hd25 (SubL.cons 2 rfl (SubL.cons 7 rfl (SubL.cons 10 rfl SubL.nil)))) ?_
   refine RD_run [10] (by kernel_rfl) rfl (RDs.cons rfl ?_ RDs.nil)
   refine o_append1 2 H (sz := 2) (bytes := 24) Tryz.underlying161 Tryz.typeInfo167 ⟨_, rfl, rfl⟩ rfl rfl rfl rfl rfl rfl rfl rfl rfl rfl (by omega) rfl ?_; intro v33 w33 H
   have hchk33 := hchk15_0.snoc (show osE _ (z17.name, T20) _ from ⟨rfl, hi17⟩) rfl
   obtain ⟨av33, cv33, rfl⟩ := H.accShape (k := 2) rfl
   refine R_nil ?_
   refine N_DK (Kn.of' H hd25 (SubL.cons 1 rfl (SubL.cons 6 rfl (SubL.cons 9 rfl SubL.nil)))) ?_
   refine RD_t 11 rfl (by kernel_rfl) rfl (fun _ hK => v_nilCheck rfl) ?_
   refine RD_t 12 rfl (by kernel_rfl) rfl (fun _ hK => v_fieldAddr 4 Tryz.runUnderlying163 rfl Tryz.sizeOf161 rfl rfl) ?_
   refine RD_run [13] (by kernel_rfl) rfl (RDs.cons rfl ?_ RDs.nil)
   have H := H.toFront (k := 3) rfl
   have H := H.mergeF
   refine o_store_B 4 H Tryz.sizeOf161 rfl rfl rfl rfl rfl rfl rfl rfl ?_; intro w34 H
   refine R_nil ?_
   refine N_DK (Kn.of' H hd25 (SubL.cons 1 rfl (SubL.cons 5 rfl (SubL.cons 8 rfl SubL.nil)))) ?_
   refine RD_done (by kernel_rfl) ?_
   refine N_K ?_
   refine W_region ?_
   refine o_move rfl rfl ?_
   refine o_move rfl rfl ?_
   refine o_buildSlice H Tryz.underlying81 Tryz.sizeOf67 (fun w => ⟨_, Tryz.zeroValue67 w, rfl⟩) rfl rfl rfl rfl rfl rfl rfl ?_; intro b35 w35 hb35 H
   refine o_append1 3 H (sz := 1) (bytes := 8) Tryz.underlying81 Tryz.typeInfo67 ⟨_, rfl, rfl⟩ rfl rfl rfl rfl rfl rfl rfl rfl rfl rfl (by omega) rfl ?_; intro v36 w36 H
   have hchk36 := hchk15_1.snoc (show kdE _ T20 _ from rfl) rfl
   obtain ⟨av36, cv36, rfl⟩ := H.accShape (k := 3) rfl
   refine o_assign rfl rfl ?_
   refine R_nil ?_
   refine N_B ?_
   refine N_K ?_
   refine W_region ?_
   refine o_add rfl rfl rfl ⟨by omega, by omega⟩ ?_
   refine o_move rfl rfl ?_
   refine R_nil ?_
   have H := H.del (k := 1) rfl
   have H := H.toFront (k := 7) rfl
   have H := H.toFront (k := 7) rfl
   have H := H.toFront (k := 7) rfl
   have H := H.toFront (k := 7) rfl
   have H := H.toFront (k := 7) rfl
   have H := H.toFront (k := 7) rfl
   have H := H.toFront (k := 6) rfl
   have H := H.toFront (k := 7) rfl
   refine N_LP (hJ := ⟨_, _, _, (xs ++ [(z17.name, T20)]), _, _, _, (xs1 ++ [T20]), k + 1, (FSq ++ F20), _, rfl, hle15, H, ?inv, rfl⟩) (hM := ?hM) (hf := ?hf) (hm := ?hm)
   case hM => (repeat (first | exact Sub.nil | refine Sub.cons rfl ?_))
   case hf => (repeat (first | exact Sub.nil | refine Sub.cons rfl ?_))
   case hm => omega
   case inv => exact ⟨hchk33, (by first | assumption | (simp; omega) | omega), hchk36, (by first | assumption | (simp; omega) | omega), (by exact ⟨by omega, by simp [hx1], by simpa using hNs.snoc hN20, hSn.snoc2 hz17 rfl hT20 hv20, names_step hw hz17 (by simpa using hc22') hSn (by omega)⟩)⟩
  intro hc16'
  try simp only [nrm] at hc16'
  refine W_exit ?_
  refine N_K_exit ?_
  refine N_LP_exit ?_
  refine N_B_same ?_
  refine N_K ?_
  refine W_seq ?_
  refine q2 ?_
  refine o_fieldAddr 0 Tryz.runUnderlying69 rfl Tryz.sizeOf66 rfl rfl rfl ?_
  refine o_load_B 4 H Tryz.isAgg66 rfl rfl rfl rfl ?_
  refine o_move rfl rfl ?_
  refine o_call Tryz.call75 rfl rfl (i_usedBy_c _ _ (H.lendSubL [1, 2, 5, 6]) _ _ _ _ _ (H.lendPredL (k := 5) (ks := [1, 2, 5, 6]) rfl rfl) hm3 (hS3.up (PPlus.le _ _ _)) hV3 _ _ (RdS.withN (H.lendRdL (k := 2) (ks := [1, 2, 5, 6]) rfl rfl hchk15_1 (by first | assumption | rfl | (simp; done) | (simp; omega) | omega) (by first | assumption | (simp; done) | (simp; omega) | omega)) (fun t ht => by (rw [hx1] at ht); rcases List.mem_cons.1 ht with rfl | ht; (· exact H.lendN (k := 6) rfl rfl hN3); (· exact H.lendNs (k := 1) rfl rfl hNs t ht))) (by omega) (fun t ht => by (rw [hx1] at ht); rcases List.mem_cons.1 ht with rfl | ht; (· exact ⟨hT3.wf, by have := hT3.cnt; have := Sp.tree_len hv3; omega⟩); (· exact sn_ok hSn t ht))) ?_
  rintro _ w38 ⟨rfl, ew38⟩; have H := H.step ew38; refine ⟨_, rfl, ?_⟩
  refine o_not rfl rfl ?_
  refine q3 ?_
  refine W_cond rfl ?_ ?_
  ·intro hc39
   try simp only [nrm] at hc39
   refine q2 ?_
   refine o_assign rfl rfl ?_
   refine o_assign rfl rfl ?_
   refine q3 ?_
   refine W_ret ?_
   refine N_K_ret ?_
   refine ret_gen (rs := [.tmp 2, .tmp 3]) (vs := [_, _]) Tryz.results112 ⟨rfl, rfl, trivial⟩ ?_
   have H := H.del (k := 0) rfl
   have H := H.del (k := 0) rfl
   have H := H.del (k := 0) rfl
   have H := H.del (k := 0) rfl
   have H := H.del (k := 0) rfl
   have H := H.del (k := 0) rfl
   have H := H.del (k := 0) rfl
   have H := H.del (k := 0) rfl
   have hkk : k = d.snaps.length := by omega
   have hSnf : SnOK xs d.snaps := by (rw [hkk, List.take_length] at hSn; exact hSn)
   have hwf : ∀ (j : Nat) (s : BSnap), d.snaps[j]? = some s → Sp.l1Word s.name = true ∧ (j : Int) ≤ Sp.l12At d.snaps s.name := fun j s hs => hw j s (by have := (List.getElem?_eq_some_iff.1 hs).1; omega) hs
   exact H.retM (.inl ⟨rfl, rfl, (by (rw [Sp.dv_use (Sp.valid_iff.2 hV3) hT3 (by omega) hSnf hwf, ← hx1]; unfold Sp.useOK; rw [Bool.and_eq_false_iff]; exact hc39))⟩)
  intro hc39'
  try simp only [nrm] at hc39'
  refine W_skip ?_
  refine N_K ?_
  refine q2 ?_
  refine o_move rfl rfl ?_
  refine o_assign rfl rfl ?_
  refine o_assign rfl rfl ?_
  refine q3 ?_
  refine W_ret ?_
  refine ret_gen (rs := [.tmp 2, .tmp 3]) (vs := [_, _]) Tryz.results112 ⟨rfl, rfl, trivial⟩ ?_
  have H := H.del (k := 2) rfl
  have H := H.del (k := 3) rfl
  have H := H.del (k := 5) rfl
  have H := H.toFront (k := 1) rfl
  have H := H.toFront (k := 1) rfl
  have H := H.toFront (k := 4) rfl
  have H := H.toFront (k := 4) rfl
  have H := H.toFront (k := 4) rfl
  have hkk : k = d.snaps.length := by omega
  have hSnf : SnOK xs d.snaps := by (rw [hkk, List.take_length] at hSn; exact hSn)
  have hwf : ∀ (j : Nat) (s : BSnap), d.snaps[j]? = some s → Sp.l1Word s.name = true ∧ (j : Int) ≤ Sp.l12At d.snaps s.name := fun j s hs => hw j s (by have := (List.getElem?_eq_some_iff.1 hs).1; omega) hs
  have hdv : Sp.DiskValid d = true := by (rw [Sp.dv_use (Sp.valid_iff.2 hV3) hT3 (by omega) hSnf hwf, ← hx1]; unfold Sp.useOK; simpa using hc39')
  obtain rfl : n = xs.length := by assumption
  exact H.retM (.inr ⟨_, _, _, _, _, _, _, _, xs, _, _, rfl, rfl, hm3, hS3, hN3, hT3, hchk15_0, hNs, hSnf, hdv⟩)
end Go.Proofs.Tst

namespace Go.Proofs.Tst
open Go
abbrev muLink : Go.Conc.Locks.MuLink := { lock := 114, unlock := 115, ilock := 153, iunlock := 154, lockSlow := 179, unlockSlow := 182, disable := 175, enable := 177, acquire := 178, relMerge := 180, cas32 := 176, add32 := 181, tMutex := 160, tIMutex := 158, tPMutex := 201, tPIMutex := 216, tPI32 := 218, tUP := 220, tNoCopy := 155, tU32 := 156 }
theorem muLib : Go.Conc.Locks.MuLib Tryz.prog muLink where
 f_lock := by kernel_rfl
 f_unlock := by kernel_rfl
 f_ilock := by kernel_rfl
 f_iunlock := by kernel_rfl
 f_disable := by kernel_rfl
 f_enable := by kernel_rfl
 f_acquire := by kernel_rfl
 f_relMerge := by kernel_rfl
 f_cas32 := by kernel_rfl
 f_add32 := by kernel_rfl
 underlying_tIMutex := Tryz.underlying158
 runUnderlying_tIMutex := Tryz.runUnderlying158
 sizeOf_tIMutex := Tryz.sizeOf158
 isAgg_tIMutex := Tryz.isAgg158
 zeroValue_tIMutex := Tryz.zeroValue158
 underlying_tMutex := Tryz.underlying160
 runUnderlying_tMutex := Tryz.runUnderlying160
 sizeOf_tMutex := Tryz.sizeOf160
 isAgg_tMutex := Tryz.isAgg160
 zeroValue_tMutex := Tryz.zeroValue160
 underlying_tPMutex := Tryz.underlying201
 runUnderlying_tPMutex := Tryz.runUnderlying201
 sizeOf_tPMutex := Tryz.sizeOf201
 isAgg_tPMutex := Tryz.isAgg201
 zeroValue_tPMutex := Tryz.zeroValue201
 underlying_tPIMutex := Tryz.underlying216
 runUnderlying_tPIMutex := Tryz.runUnderlying216
 sizeOf_tPIMutex := Tryz.sizeOf216
 isAgg_tPIMutex := Tryz.isAgg216
 zeroValue_tPIMutex := Tryz.zeroValue216
 underlying_tPI32 := Tryz.underlying218
 runUnderlying_tPI32 := Tryz.runUnderlying218
 sizeOf_tPI32 := Tryz.sizeOf218
 isAgg_tPI32 := Tryz.isAgg218
 zeroValue_tPI32 := Tryz.zeroValue218
 underlying_tUP := Tryz.underlying220
 runUnderlying_tUP := Tryz.runUnderlying220
 sizeOf_tUP := Tryz.sizeOf220
 isAgg_tUP := Tryz.isAgg220
 zeroValue_tUP := Tryz.zeroValue220
 underlying_tNoCopy := Tryz.underlying155
 runUnderlying_tNoCopy := Tryz.runUnderlying155
 sizeOf_tNoCopy := Tryz.sizeOf155
 isAgg_tNoCopy := Tryz.isAgg155
 zeroValue_tNoCopy := Tryz.zeroValue155
 underlying_t21 := Tryz.underlying21
 runUnderlying_t21 := Tryz.runUnderlying21
 sizeOf_t21 := Tryz.sizeOf21
 isAgg_t21 := Tryz.isAgg21
 zeroValue_t21 := Tryz.zeroValue21
 room_tIMutex := by kernel_rfl
end Go.Proofs.Tst

namespace Go.Proofs.Tst
open Go Fw
theorem i_disk_c (w0 : World) (G0 : PH) (hG : PSub G0 w0) (db mb : Nat) (es : Array MapEntry) (ck : Nat) (xs : List (Int × Value)) (T : Nd) (FT : Fr) (sv : Value) (sn : List (Bs × Nd)) (c : List Value) (FSq : Fr) (d : BDisk) (hm : MapIs (Value.int .i64) es ck xs) (hS : StR G0 xs d.store) (hN : NdO 83 67 G0 T FT) (hT : Nd.TOK T d.tree) (hchk : Chk osE 2 G0 c sn) (hNs : NdsO 83 67 G0 (sn.map (·.2)) FSq) (hSn : SnOK sn d.snaps) (hVd : Sp.VH d.store) (hs6 : d.snaps.length ≤ 6) (hLent : Lent w0 G0 [blk db (cl [.int .i32 0, .int .u32 0, .map (some mb), .pointer (some ⟨T.b, 0, none⟩), sv] 163), blk mb (.map es ck), frag FT, acc 167 2 sv sn.length c, frag FSq])  :
  Calls Tryz.prog 113 #[.pointer (some ⟨db, 0, none⟩)] w0 (RetM w0 G0 (fps [blk db (cl [.int .i32 0, .int .u32 0, .map (some mb), .pointer (some ⟨T.b, 0, none⟩), sv] 163), blk mb (.map es ck), frag FT, acc 167 2 sv sn.length c, frag FSq]) (fun G' v Bs => ∃ (v1 v2 v3 : Value) (F1 F2 F3 : Fr), v = .agg #[v1, v2, v3] ∧ Bs = [frag F1, frag F2, frag F3] ∧ OHs F1 v1 d.store ∧ OIs F2 v2 d.tree ∧ OSn F3 v3 d.snaps)) := by
 have H : Hp w0 G0 (fps [blk db (cl [.int .i32 0, .int .u32 0, .map (some mb), .pointer (some ⟨T.b, 0, none⟩), sv] 163), blk mb (.map es ck), frag FT, acc 167 2 sv sn.length c, frag FSq]) w0 G0 [blk db (cl [.int .i32 0, .int .u32 0, .map (some mb), .pointer (some ⟨T.b, 0, none⟩), sv] 163), blk mb (.map es ck), frag FT, acc 167 2 sv sn.length c, frag FSq] := hLent.hp
 obtain ⟨adv, cdv, rfl⟩ := H.accShape (k := 3) rfl; have hTv := hT.valid; have hTc := hT.cnt; have hTl := Sp.tree_len hTv; have hsnl := hSn.len; have hxa := H.accShape (k := 3) rfl
 refine calls_of_WD (l := [.pointer (some ⟨db, 0, none⟩)]) Tryz.func113 rfl Tryz.ntmps113 rfl ?_
 refine q2 ?_
 refine o_alloc H Tryz.zeroValue53 rfl rfl ?_; intro b1 w1 hb1 H
 refine q1 ?_
 refine o_move rfl rfl ?_
 refine o_nilCheck rfl rfl ?_
 refine o_fieldAddr 0 Tryz.runUnderlying163 rfl Tryz.sizeOf160 rfl rfl rfl ?_
 refine o_lock 1 H muLib rfl Tryz.call114 rfl rfl rfl rfl ?_; intro w2 H
 refine q1 ?_
 refine o_move rfl rfl ?_
 refine o_nilCheck rfl rfl ?_
 refine o_fieldAddr 0 Tryz.runUnderlying163 rfl Tryz.sizeOf160 rfl rfl rfl ?_
 refine o_defer rfl ?_
 refine q3 ?_
 refine W_seq ?_
 refine W_drawK [0, 1] 15 H (by kernel_rfl) rfl ?_; intro w3 H; have hd3 := PLe.refl G0
 refine RD_t 0 rfl (by kernel_rfl) rfl (fun _ hK => v_move rfl) ?_
 refine RD_t 1 rfl (by kernel_rfl) rfl (fun _ hK => v_nilCheck rfl) ?_
 refine RD_t 2 rfl (by kernel_rfl) rfl (fun _ hK => v_fieldAddr 2 Tryz.runUnderlying163 rfl Tryz.sizeOf69 rfl rfl) ?_
 refine RD_t 3 rfl (by kernel_rfl) rfl (fun _ hK => v_fieldAddr 0 Tryz.runUnderlying69 rfl Tryz.sizeOf66 rfl rfl) ?_
 refine RD_t 4 rfl (by kernel_rfl) rfl (fun _ hK => v_load_B 1 hK Tryz.isAgg66 rfl rfl rfl) ?_
 refine RD_t 6 rfl (by kernel_rfl) rfl (fun _ hK => v_move rfl) ?_
 refine RD_t 7 rfl (by kernel_rfl) rfl (fun _ hK => v_nilCheck rfl) ?_
 refine RD_t 8 rfl (by kernel_rfl) rfl (fun _ hK => v_fieldAddr 2 Tryz.runUnderlying163 rfl Tryz.sizeOf69 rfl rfl) ?_
 refine RD_t 9 rfl (by kernel_rfl) rfl (fun _ hK => v_fieldAddr 1 Tryz.runUnderlying69 rfl Tryz.sizeOf67 rfl rfl) ?_
 refine RD_t 10 rfl (by kernel_rfl) rfl (fun _ hK => v_load_B 1 hK Tryz.isAgg67 rfl rfl rfl) ?_
 refine RD_run [5, 13] (by kernel_rfl) rfl (RDs.cons rfl ?_ (RDs.cons rfl ?_ RDs.nil))
 ·skip
  refine o_call Tryz.call81 rfl rfl (i_slist_c _ _ (H.lendSubL [2]) _ _ _ _ _ (H.lendPredL (k := 2) (ks := [2]) rfl rfl) hm (hS.up (PPlus.le _ _ _)) hVd ) ?_
  rintro _ w4 ⟨_, _, rfl, H4', ⟨F4, rfl, hO4⟩⟩
  have H := H.readersL H4'
  obtain ⟨e24, hP4⟩ := hO4
  obtain ⟨sa4, sc4, rfl⟩ := OwnS.shape hP4
  have hO4 := OHs.mk hP4
  refine ⟨_, rfl, ?_⟩
  refine R_nil ?_
  refine N_DK (Kn.of' H hd3 (SubL.cons 1 rfl (SubL.cons 2 rfl SubL.nil))) ?_
  refine RD_run [11, 13] (by kernel_rfl) rfl (RDs.cons rfl ?_ (RDs.cons rfl ?_ RDs.nil))
  ·skip
   refine o_call Tryz.call82 rfl rfl (i_tlist_c _ _ (H.lendSubL [4]) _ ((H.lendN (k := 4) (ks := [4]) rfl rfl hN).at (show Nd.at_ T [] = some T from rfl)) hT.wf (by omega)) ?_
   rintro _ w5 ⟨_, _, rfl, H5', ⟨F5, rfl, hO5⟩⟩
   have H := H.readersL H5'
   obtain ⟨e25, hP5⟩ := hO5
   obtain ⟨sa5, sc5, rfl⟩ := OwnS.shape hP5
   have hO5 := OIs.mk hP5
   refine ⟨_, rfl, ?_⟩
   refine R_nil ?_
   refine N_DK (Kn.of' H hd3 (SubL.cons 2 rfl (SubL.cons 3 rfl SubL.nil))) ?_
   refine RD_t 12 rfl (by kernel_rfl) rfl (fun _ hK => v_build bf53 rfl rfl) ?_
   refine RD_run [13] (by kernel_rfl) rfl (RDs.cons rfl ?_ RDs.nil)
   refine o_alloc H Tryz.zeroValue53 rfl rfl ?_; intro b6 w6 hb6 H
   refine R_nil ?_
   refine N_DK (Kn.of' H hd3 (SubL.cons 3 rfl (SubL.cons 4 rfl SubL.nil))) ?_
   refine RD_run [14] (by kernel_rfl) rfl (RDs.cons rfl ?_ RDs.nil)
   refine o_store_B 0 H Tryz.sizeOf53 rfl rfl rfl rfl rfl rfl rfl rfl ?_; intro w7 H
   refine R_nil ?_
   refine N_DKlast (by kernel_rfl) (by kernel_rfl) ?_
   refine N_K ?_
   refine W_seq ?_
   refine q2 ?_
   refine o_move rfl rfl ?_
   refine o_nilCheck rfl rfl ?_
   refine o_fieldAddr 4 Tryz.runUnderlying163 rfl Tryz.sizeOf161 rfl rfl rfl ?_
   refine o_load_B 4 H Tryz.isAgg161 rfl rfl rfl rfl ?_
   refine o_len_slice Tryz.underlying161 rfl rfl ?_
   refine o_move rfl rfl ?_
   refine q3 ?_
   refine W_block ?_
   have H := H.addNil 102 2
   have H := H.addF
   obtain ⟨ln9, hln9, H⟩ := H.nameAt (k := 2) (off := 2) rfl rfl
   obtain ⟨ln10, hln10, H⟩ := H.name (k := 5) rfl
   obtain ⟨ln11, hln11, H⟩ := H.name (k := 6) rfl
   refine W_loop (hf := (Sub.cons (t := 2) rfl (Sub.cons (t := 3) rfl (Sub.cons (t := 29) rfl (Sub.cons (t := 30) rfl Sub.nil))))) (J := fun M w m => ∃ (v : Value) (n : Nat) (cs : List Value) (xs : List (BSnap)) (F : Fr) (k : Nat) (G : PH), M = [(31, .int .i64 (k : Int))] ∧ PLe G0 G ∧ Hp w0 G0 (fps [blk db (cl [.int .i32 0, .int .u32 0, .map (some mb), .pointer (some ⟨T.b, 0, none⟩), .slice adv sn.length cdv] 163), blk mb (.map es ck), frag FT, acc 167 2 (.slice adv sn.length cdv) sn.length c, frag FSq]) w G [frag F, acc 102 2 v n cs, blk b6 (cl (setN ln9 2 v) 53), frag F5, frag F4, blk b1 (cl ln10 53), blk db (cl ln11 163), blk mb (.map es ck), frag FT, acc 167 2 (.slice adv sn.length cdv) sn.length c, frag FSq] ∧ (ChkF snapO 2 cs xs F ∧ n = xs.length ∧ k ≤ sn.length ∧ xs = (sn.take k).map (fun x => (⟨x.1, x.2.flat []⟩ : BSnap))) ∧ m = (sn.length - k)) (h0 := ⟨_, _, _, [], [], 0, _, rfl, PLe.refl _, H, ?inv, rfl⟩) (hM := ?hM) (round := ?round)
   case hM => (repeat (first | exact Sub.nil | refine Sub.cons rfl ?_))
   case inv => exact ⟨ChkF.nil,  by first | rfl | simp | (simp; omega) | omega, (by simp)⟩
   case round =>
    rintro _ w12 _ ⟨v, n, cs, xs, F, k, G12, rfl, hle12, H, hinv12, rfl⟩
    subst hln9
    subst hln10
    subst hln11
    have hS := hS.up hle12
    have hN := hN.up hle12
    have hchk := hchk.up hle12
    have hNs := hNs.up hle12
    obtain ⟨hchk12_0, hn12_0, hinv12⟩ := hinv12
    obtain ⟨av12_0, cv12_0, rfl⟩ := H.accShape (k := 1) rfl
    obtain ⟨hk, hxs⟩ := hinv12; have hxl6 : xs.length ≤ 6 := by (rw [hxs]; simp; omega)
    refine q2 ?_
    refine o_lss rfl rfl rfl ?_
    refine q3 ?_
    refine W_seq ?_
    refine W_cond rfl ?_ ?_
    ·intro hc13
     try simp only [nrm] at hc13
     refine W_skip ?_
     refine N_K ?_
     refine W_seq ?_
     refine W_block ?_
     refine q2 ?_
     refine o_index_A 9 H k rfl hchk Tryz.underlying161 Tryz.sizeOf167 rfl rfl rfl rfl (by first | omega | (simp; omega) | (simp; done)) (by first | rfl | assumption | (simp; done) | (simp; omega) | omega) ?_; intro ba14 z14 q14 hba14 hz14 hE14 hg14; cases hba14
     obtain ⟨rfl, hi14⟩ := hE14; have hy_hi14 : _ ≤ 16777216 := hi14
     refine o_loadagg_A 9 H Tryz.isAgg167 Tryz.sizeOf167 rfl rfl rfl hg14 rfl ?_
     refine o_alloc H Tryz.zeroValue167 rfl rfl ?_; intro b15 w15 hb15 H
     refine o_store_B 0 H Tryz.sizeOf167 rfl rfl rfl rfl rfl rfl rfl rfl ?_; intro w16 H
     refine q3 ?_
     refine W_drawK [0, 3, 6, 7] 12 H (by kernel_rfl) rfl ?_; intro w17 H; have hd17 := PLe.refl G12
     refine RD_t 0 rfl (by kernel_rfl) rfl (fun _ hK => v_fieldAddr 2 Tryz.runUnderlying53 rfl Tryz.sizeOf51 rfl rfl) ?_
     refine RD_t 1 rfl (by kernel_rfl) rfl (fun _ hK => v_load_B 1 hK Tryz.isAgg51 rfl rfl rfl) ?_
     refine RD_t 2 rfl (by kernel_rfl) rfl (fun _ hK => v_fieldAddr 0 Tryz.runUnderlying167 rfl Tryz.sizeOf9 rfl rfl) ?_
     refine RD_t 3 rfl (by kernel_rfl) rfl (fun _ hK => v_load_B 0 hK Tryz.isAgg9 rfl rfl rfl) ?_
     refine RD_t 4 rfl (by kernel_rfl) rfl (fun _ hK => v_fieldAddr 1 Tryz.runUnderlying167 rfl Tryz.sizeOf67 rfl rfl) ?_
     refine RD_t 5 rfl (by kernel_rfl) rfl (fun _ hK => v_load_B 0 hK Tryz.isAgg67 rfl rfl rfl) ?_
     refine RD_run [6] (by kernel_rfl) rfl (RDs.cons rfl ?_ RDs.nil)
     refine o_call Tryz.call82 rfl rfl (i_tlist_c _ _ (H.lendSubL [11]) _ (H.lendNs (k := 11) (ks := [11]) rfl rfl hNs z14.2 (List.mem_map_of_mem (List.mem_of_getElem? hz14))) (sn_ok hSn _ (List.mem_map_of_mem (List.mem_of_getElem? hz14))).1 (by have := (sn_ok hSn _ (List.mem_map_of_mem (List.mem_of_getElem? hz14))).2; omega)) ?_
     rintro _ w18 ⟨_, _, rfl, H18', ⟨F18, rfl, hO18⟩⟩
     have H := H.readersL H18'
     obtain ⟨e218, hP18⟩ := hO18
     obtain ⟨sa18, sc18, rfl⟩ := OwnS.shape hP18
     have hO18 := OIs.mk hP18
     refine ⟨_, rfl, ?_⟩
     refine R_nil ?_
     refine N_DK (Kn.of' H hd17 (SubL.cons 1 rfl (SubL.cons 4 rfl (SubL.cons 7 rfl (SubL.cons 8 rfl SubL.nil))))) ?_
     refine RD_t 7 rfl (by kernel_rfl) rfl (fun _ hK => v_build bf102 rfl rfl) ?_
     refine RD_run [8] (by kernel_rfl) rfl (RDs.cons rfl ?_ RDs.nil)
     refine o_buildSlice H Tryz.underlying51 Tryz.sizeOf102 (fun w => ⟨_, Tryz.zeroValue102 w, rfl⟩) rfl rfl rfl rfl rfl rfl rfl ?_; intro b19 w19 hb19 H
     refine R_nil ?_
     refine N_DK (Kn.of' H hd17 (SubL.cons 2 rfl (SubL.cons 5 rfl (SubL.cons 8 rfl (SubL.cons 9 rfl SubL.nil))))) ?_
     refine RD_run [9] (by kernel_rfl) rfl (RDs.cons rfl ?_ RDs.nil)
     refine o_append1 3 H (sz := 2) (bytes := 40) Tryz.underlying51 Tryz.typeInfo102 ⟨_, rfl, rfl⟩ rfl rfl rfl rfl rfl rfl rfl rfl rfl rfl (by omega) rfl ?_; intro v20 w20 H
     have hchk20 := hchk12_0.snoc (show snapO F18 ⟨z14.1, z14.2.flat []⟩ _ from ⟨_, _, _, rfl, hi14, hO18⟩) rfl
     have H := H.toFront (k := 2) rfl
     have H := H.mergeF
     obtain ⟨av20, cv20, rfl⟩ := H.accShape (k := 2) rfl
     refine R_nil ?_
     refine N_DK (Kn.of' H hd17 (SubL.cons 1 rfl (SubL.cons 3 rfl (SubL.cons 6 rfl (SubL.cons 7 rfl SubL.nil))))) ?_
     refine RD_t 10 rfl (by kernel_rfl) rfl (fun _ hK => v_fieldAddr 2 Tryz.runUnderlying53 rfl Tryz.sizeOf51 rfl rfl) ?_
     refine RD_run [11] (by kernel_rfl) rfl (RDs.cons rfl ?_ RDs.nil)
     refine o_store_B 3 H Tryz.sizeOf51 rfl rfl rfl rfl rfl rfl rfl rfl ?_; intro w21 H
     refine R_nil ?_
     refine N_DKlast (by kernel_rfl) (by kernel_rfl) ?_
     refine N_B ?_
     refine N_K ?_
     refine W_region ?_
     refine o_add rfl rfl rfl ⟨by omega, by omega⟩ ?_
     refine o_move rfl rfl ?_
     refine R_nil ?_
     have H := H.del (k := 1) rfl
     refine N_LP (hJ := ⟨_, _, _, (xs ++ [⟨z14.1, z14.2.flat []⟩]), (F ++ F18), k + 1, _, rfl, hle12, H, ?inv, rfl⟩) (hM := ?hM) (hf := ?hf) (hm := ?hm)
     case hM => (repeat (first | exact Sub.nil | refine Sub.cons rfl ?_))
     case hf => (repeat (first | exact Sub.nil | refine Sub.cons rfl ?_))
     case hm => omega
     case inv => exact ⟨hchk20, (by first | assumption | (simp; omega) | omega), (by exact ⟨by omega, by (rw [Sp.take_succ' hz14, List.map_append, ← hxs]; rfl)⟩)⟩
    intro hc13'
    try simp only [nrm] at hc13'
    refine W_exit ?_
    refine N_K_exit ?_
    refine N_LP_exit ?_
    refine N_B_same ?_
    refine N_K ?_
    refine q2 ?_
    refine o_loadagg_B 2 H Tryz.isAgg53 Tryz.sizeOf53 rfl rfl rfl rfl rfl ?_
    refine o_store_B 5 H Tryz.sizeOf53 rfl rfl rfl rfl rfl rfl rfl rfl ?_; intro w23 H
    refine q3 ?_
    refine W_ret ?_
    refine ret_unlock 6 H muLib rfl Tryz.call115 rfl rfl (rs := [.cell 2 53]) Tryz.results113 ?_; intro wu2 H
    refine ⟨[_], ⟨⟨_, rfl, load_blk 5 H Tryz.isAgg53 Tryz.sizeOf53 rfl rfl rfl⟩, trivial⟩, ?_⟩
    have H := H.toFront (k := 1) rfl
    obtain ⟨Fo3, H, hOw3⟩ := H.ownF hchk12_0 (by first | assumption | rfl | (simp; done) | (simp; omega) | omega) (by first | assumption | (simp; done) | (simp; omega) | omega)
    have H := H.del (k := 1) rfl
    have H := H.del (k := 3) rfl
    have H := H.del (k := 3) rfl
    have H := H.del (k := 3) rfl
    have H := H.del (k := 3) rfl
    have H := H.del (k := 3) rfl
    have H := H.del (k := 3) rfl
    have H := H.toFront (k := 1) rfl
    have H := H.toFront (k := 2) rfl
    have hxs2 : xs = d.snaps := by (rw [hxs, List.take_of_length_le (by omega)]; exact sn_list hSn)
    exact H.retM ⟨_, _, _, _, _, _, rfl, rfl, hO4, (by (rw [← hT.flat]); exact hO5), (by have h9 := (show OSn _ _ _ from ⟨_, hOw3⟩); (rw [hxs2] at h9); exact h9)⟩
  skip
  refine o_alloc H Tryz.zeroValue53 rfl rfl ?_; intro b24 w24 hb24 H
  refine R_nil ?_
  refine N_DK (Kn.of' H hd3 (SubL.cons 2 rfl (SubL.cons 3 rfl SubL.nil))) ?_
  refine RD_run [11] (by kernel_rfl) rfl (RDs.cons rfl ?_ RDs.nil)
  refine o_call Tryz.call82 rfl rfl (i_tlist_c _ _ (H.lendSubL [5]) _ ((H.lendN (k := 5) (ks := [5]) rfl rfl hN).at (show Nd.at_ T [] = some T from rfl)) hT.wf (by omega)) ?_
  rintro _ w25 ⟨_, _, rfl, H25', ⟨F25, rfl, hO25⟩⟩
  have H := H.readersL H25'
  obtain ⟨e225, hP25⟩ := hO25
  obtain ⟨sa25, sc25, rfl⟩ := OwnS.shape hP25
  have hO25 := OIs.mk hP25
  refine ⟨_, rfl, ?_⟩
  refine R_nil ?_
  refine N_DK (Kn.of' H hd3 (SubL.cons 3 rfl (SubL.cons 4 rfl SubL.nil))) ?_
  refine RD_t 12 rfl (by kernel_rfl) rfl (fun _ hK => v_build bf53 rfl rfl) ?_
  refine RD_run [14] (by kernel_rfl) rfl (RDs.cons rfl ?_ RDs.nil)
  refine o_store_B 1 H Tryz.sizeOf53 rfl rfl rfl rfl rfl rfl rfl rfl ?_; intro w26 H
  refine R_nil ?_
  refine N_DKlast (by kernel_rfl) (by kernel_rfl) ?_
  refine N_K ?_
  refine W_seq ?_
  refine q2 ?_
  refine o_move rfl rfl ?_
  refine o_nilCheck rfl rfl ?_
  refine o_fieldAddr 4 Tryz.runUnderlying163 rfl Tryz.sizeOf161 rfl rfl rfl ?_
  refine o_load_B 4 H Tryz.isAgg161 rfl rfl rfl rfl ?_
  refine o_len_slice Tryz.underlying161 rfl rfl ?_
  refine o_move rfl rfl ?_
  refine q3 ?_
  refine W_block ?_
  have H := H.addNil 102 2
  have H := H.addF
  obtain ⟨ln28, hln28, H⟩ := H.nameAt (k := 3) (off := 2) rfl rfl
  obtain ⟨ln29, hln29, H⟩ := H.name (k := 5) rfl
  obtain ⟨ln30, hln30, H⟩ := H.name (k := 6) rfl
  refine W_loop (hf := (Sub.cons (t := 2) rfl (Sub.cons (t := 3) rfl (Sub.cons (t := 29) rfl (Sub.cons (t := 30) rfl Sub.nil))))) (J := fun M w m => ∃ (v : Value) (n : Nat) (cs : List Value) (xs : List (BSnap)) (F : Fr) (k : Nat) (G : PH), M = [(31, .int .i64 (k : Int))] ∧ PLe G0 G ∧ Hp w0 G0 (fps [blk db (cl [.int .i32 0, .int .u32 0, .map (some mb), .pointer (some ⟨T.b, 0, none⟩), .slice adv sn.length cdv] 163), blk mb (.map es ck), frag FT, acc 167 2 (.slice adv sn.length cdv) sn.length c, frag FSq]) w G [frag F, acc 102 2 v n cs, frag F25, blk b24 (cl (setN ln28 2 v) 53), frag F4, blk b1 (cl ln29 53), blk db (cl ln30 163), blk mb (.map es ck), frag FT, acc 167 2 (.slice adv sn.length cdv) sn.length c, frag FSq] ∧ (ChkF snapO 2 cs xs F ∧ n = xs.length ∧ k ≤ sn.length ∧ xs = (sn.take k).map (fun x => (⟨x.1, x.2.flat []⟩ : BSnap))) ∧ m = (sn.length - k)) (h0 := ⟨_, _, _, [], [], 0, _, rfl, PLe.refl _, H, ?inv, rfl⟩) (hM := ?hM) (round := ?round)
  case hM => (repeat (first | exact Sub.nil | refine Sub.cons rfl ?_))
  case inv => exact ⟨ChkF.nil,  by first | rfl | simp | (simp; omega) | omega, (by simp)⟩
  case round =>
   rintro _ w31 _ ⟨v, n, cs, xs, F, k, G31, rfl, hle31, H, hinv31, rfl⟩
   subst hln28
   subst hln29
   subst hln30
   have hS := hS.up hle31
   have hN := hN.up hle31
   have hchk := hchk.up hle31
   have hNs := hNs.up hle31
   obtain ⟨hchk31_0, hn31_0, hinv31⟩ := hinv31
   obtain ⟨av31_0, cv31_0, rfl⟩ := H.accShape (k := 1) rfl
   obtain ⟨hk, hxs⟩ := hinv31; have hxl6 : xs.length ≤ 6 := by (rw [hxs]; simp; omega)
   refine q2 ?_
   refine o_lss rfl rfl rfl ?_
   refine q3 ?_
   refine W_seq ?_
   refine W_cond rfl ?_ ?_
   ·intro hc32
    try simp only [nrm] at hc32
    refine W_skip ?_
    refine N_K ?_
    refine W_seq ?_
    refine W_block ?_
    refine q2 ?_
    refine o_index_A 9 H k rfl hchk Tryz.underlying161 Tryz.sizeOf167 rfl rfl rfl rfl (by first | omega | (simp; omega) | (simp; done)) (by first | rfl | assumption | (simp; done) | (simp; omega) | omega) ?_; intro ba33 z33 q33 hba33 hz33 hE33 hg33; cases hba33
    obtain ⟨rfl, hi33⟩ := hE33; have hy_hi33 : _ ≤ 16777216 := hi33
    refine o_loadagg_A 9 H Tryz.isAgg167 Tryz.sizeOf167 rfl rfl rfl hg33 rfl ?_
    refine o_alloc H Tryz.zeroValue167 rfl rfl ?_; intro b34 w34 hb34 H
    refine o_store_B 0 H Tryz.sizeOf167 rfl rfl rfl rfl rfl rfl rfl rfl ?_; intro w35 H
    refine q3 ?_
    refine W_drawK [0, 4, 6, 7] 12 H (by kernel_rfl) rfl ?_; intro w36 H; have hd36 := PLe.refl G31
    refine RD_t 0 rfl (by kernel_rfl) rfl (fun _ hK => v_fieldAddr 2 Tryz.runUnderlying53 rfl Tryz.sizeOf51 rfl rfl) ?_
    refine RD_t 1 rfl (by kernel_rfl) rfl (fun _ hK => v_load_B 1 hK Tryz.isAgg51 rfl rfl rfl) ?_
    refine RD_t 2 rfl (by kernel_rfl) rfl (fun _ hK => v_fieldAddr 0 Tryz.runUnderlying167 rfl Tryz.sizeOf9 rfl rfl) ?_
    refine RD_t 3 rfl (by kernel_rfl) rfl (fun _ hK => v_load_B 0 hK Tryz.isAgg9 rfl rfl rfl) ?_
    refine RD_t 4 rfl (by kernel_rfl) rfl (fun _ hK => v_fieldAddr 1 Tryz.runUnderlying167 rfl Tryz.sizeOf67 rfl rfl) ?_
    refine RD_t 5 rfl (by kernel_rfl) rfl (fun _ hK => v_load_B 0 hK Tryz.isAgg67 rfl rfl rfl) ?_
    refine RD_run [6] (by kernel_rfl) rfl (RDs.cons rfl ?_ RDs.nil)
    refine o_call Tryz.call82 rfl rfl (i_tlist_c _ _ (H.lendSubL [11]) _ (H.lendNs (k := 11) (ks := [11]) rfl rfl hNs z33.2 (List.mem_map_of_mem (List.mem_of_getElem? hz33))) (sn_ok hSn _ (List.mem_map_of_mem (List.mem_of_getElem? hz33))).1 (by have := (sn_ok hSn _ (List.mem_map_of_mem (List.mem_of_getElem? hz33))).2; omega)) ?_
    rintro _ w37 ⟨_, _, rfl, H37', ⟨F37, rfl, hO37⟩⟩
    have H := H.readersL H37'
    obtain ⟨e237, hP37⟩ := hO37
    obtain ⟨sa37, sc37, rfl⟩ := OwnS.shape hP37
    have hO37 := OIs.mk hP37
    refine ⟨_, rfl, ?_⟩
    refine R_nil ?_
    refine N_DK (Kn.of' H hd36 (SubL.cons 1 rfl (SubL.cons 5 rfl (SubL.cons 7 rfl (SubL.cons 8 rfl SubL.nil))))) ?_
    refine RD_t 7 rfl (by kernel_rfl) rfl (fun _ hK => v_build bf102 rfl rfl) ?_
    refine RD_run [8] (by kernel_rfl) rfl (RDs.cons rfl ?_ RDs.nil)
    refine o_buildSlice H Tryz.underlying51 Tryz.sizeOf102 (fun w => ⟨_, Tryz.zeroValue102 w, rfl⟩) rfl rfl rfl rfl rfl rfl rfl ?_; intro b38 w38 hb38 H
    refine R_nil ?_
    refine N_DK (Kn.of' H hd36 (SubL.cons 2 rfl (SubL.cons 6 rfl (SubL.cons 8 rfl (SubL.cons 9 rfl SubL.nil))))) ?_
    refine RD_run [9] (by kernel_rfl) rfl (RDs.cons rfl ?_ RDs.nil)
    refine o_append1 3 H (sz := 2) (bytes := 40) Tryz.underlying51 Tryz.typeInfo102 ⟨_, rfl, rfl⟩ rfl rfl rfl rfl rfl rfl rfl rfl rfl rfl (by omega) rfl ?_; intro v39 w39 H
    have hchk39 := hchk31_0.snoc (show snapO F37 ⟨z33.1, z33.2.flat []⟩ _ from ⟨_, _, _, rfl, hi33, hO37⟩) rfl
    have H := H.toFront (k := 2) rfl
    have H := H.mergeF
    obtain ⟨av39, cv39, rfl⟩ := H.accShape (k := 2) rfl
    refine R_nil ?_
    refine N_DK (Kn.of' H hd36 (SubL.cons 1 rfl (SubL.cons 4 rfl (SubL.cons 6 rfl (SubL.cons 7 rfl SubL.nil))))) ?_
    refine RD_t 10 rfl (by kernel_rfl) rfl (fun _ hK => v_fieldAddr 2 Tryz.runUnderlying53 rfl Tryz.sizeOf51 rfl rfl) ?_
    refine RD_run [11] (by kernel_rfl) rfl (RDs.cons rfl ?_ RDs.nil)
    refine o_store_B 4 H Tryz.sizeOf51 rfl rfl rfl rfl rfl rfl rfl rfl ?_; intro w40 H
    refine R_nil ?_
    refine N_DKlast (by kernel_rfl) (by kernel_rfl) ?_
    refine N_B ?_
    refine N_K ?_
    refine W_region ?_
    refine o_add rfl rfl rfl ⟨by omega, by omega⟩ ?_
    refine o_move rfl rfl ?_
    refine R_nil ?_
    have H := H.del (k := 1) rfl
    refine N_LP (hJ := ⟨_, _, _, (xs ++ [⟨z33.1, z33.2.flat []⟩]), (F ++ F37), k + 1, _, rfl, hle31, H, ?inv, rfl⟩) (hM := ?hM) (hf := ?hf) (hm := ?hm)
    case hM => (repeat (first | exact Sub.nil | refine Sub.cons rfl ?_))
    case hf => (repeat (first | exact Sub.nil | refine Sub.cons rfl ?_))
    case hm => omega
    case inv => exact ⟨hchk39, (by first | assumption | (simp; omega) | omega), (by exact ⟨by omega, by (rw [Sp.take_succ' hz33, List.map_append, ← hxs]; rfl)⟩)⟩
   intro hc32'
   try simp only [nrm] at hc32'
   refine W_exit ?_
   refine N_K_exit ?_
   refine N_LP_exit ?_
   refine N_B_same ?_
   refine N_K ?_
   refine q2 ?_
   refine o_loadagg_B 3 H Tryz.isAgg53 Tryz.sizeOf53 rfl rfl rfl rfl rfl ?_
   refine o_store_B 5 H Tryz.sizeOf53 rfl rfl rfl rfl rfl rfl rfl rfl ?_; intro w42 H
   refine q3 ?_
   refine W_ret ?_
   refine ret_unlock 6 H muLib rfl Tryz.call115 rfl rfl (rs := [.cell 2 53]) Tryz.results113 ?_; intro wu5 H
   refine ⟨[_], ⟨⟨_, rfl, load_blk 5 H Tryz.isAgg53 Tryz.sizeOf53 rfl rfl rfl⟩, trivial⟩, ?_⟩
   have H := H.toFront (k := 1) rfl
   obtain ⟨Fo6, H, hOw6⟩ := H.ownF hchk31_0 (by first | assumption | rfl | (simp; done) | (simp; omega) | omega) (by first | assumption | (simp; done) | (simp; omega) | omega)
   have H := H.del (k := 2) rfl
   have H := H.del (k := 3) rfl
   have H := H.del (k := 3) rfl
   have H := H.del (k := 3) rfl
   have H := H.del (k := 3) rfl
   have H := H.del (k := 3) rfl
   have H := H.del (k := 3) rfl
   have H := H.toFront (k := 1) rfl
   have H := H.toFront (k := 2) rfl
   have hxs2 : xs = d.snaps := by (rw [hxs, List.take_of_length_le (by omega)]; exact sn_list hSn)
   exact H.retM ⟨_, _, _, _, _, _, rfl, rfl, hO4, (by (rw [← hT.flat]); exact hO25), (by have h9 := (show OSn _ _ _ from ⟨_, hOw6⟩); (rw [hxs2] at h9); exact h9)⟩
 skip
 refine o_alloc H Tryz.zeroValue53 rfl rfl ?_; intro b43 w43 hb43 H
 refine R_nil ?_
 refine N_DK (Kn.of' H hd3 (SubL.cons 1 rfl (SubL.cons 2 rfl SubL.nil))) ?_
 refine RD_run [5] (by kernel_rfl) rfl (RDs.cons rfl ?_ RDs.nil)
 refine o_call Tryz.call81 rfl rfl (i_slist_c _ _ (H.lendSubL [3]) _ _ _ _ _ (H.lendPredL (k := 3) (ks := [3]) rfl rfl) hm (hS.up (PPlus.le _ _ _)) hVd ) ?_
 rintro _ w44 ⟨_, _, rfl, H44', ⟨F44, rfl, hO44⟩⟩
 have H := H.readersL H44'
 obtain ⟨e244, hP44⟩ := hO44
 obtain ⟨sa44, sc44, rfl⟩ := OwnS.shape hP44
 have hO44 := OHs.mk hP44
 refine ⟨_, rfl, ?_⟩
 refine R_nil ?_
 refine N_DK (Kn.of' H hd3 (SubL.cons 2 rfl (SubL.cons 3 rfl SubL.nil))) ?_
 refine RD_run [11] (by kernel_rfl) rfl (RDs.cons rfl ?_ RDs.nil)
 refine o_call Tryz.call82 rfl rfl (i_tlist_c _ _ (H.lendSubL [5]) _ ((H.lendN (k := 5) (ks := [5]) rfl rfl hN).at (show Nd.at_ T [] = some T from rfl)) hT.wf (by omega)) ?_
 rintro _ w45 ⟨_, _, rfl, H45', ⟨F45, rfl, hO45⟩⟩
 have H := H.readersL H45'
 obtain ⟨e245, hP45⟩ := hO45
 obtain ⟨sa45, sc45, rfl⟩ := OwnS.shape hP45
 have hO45 := OIs.mk hP45
 refine ⟨_, rfl, ?_⟩
 refine R_nil ?_
 refine N_DK (Kn.of' H hd3 (SubL.cons 3 rfl (SubL.cons 4 rfl SubL.nil))) ?_
 refine RD_t 12 rfl (by kernel_rfl) rfl (fun _ hK => v_build bf53 rfl rfl) ?_
 refine RD_run [14] (by kernel_rfl) rfl (RDs.cons rfl ?_ RDs.nil)
 refine o_store_B 2 H Tryz.sizeOf53 rfl rfl rfl rfl rfl rfl rfl rfl ?_; intro w46 H
 refine R_nil ?_
 refine N_DKlast (by kernel_rfl) (by kernel_rfl) ?_
 refine N_K ?_
 refine W_seq ?_
 refine q2 ?_
 refine o_move rfl rfl ?_
 refine o_nilCheck rfl rfl ?_
 refine o_fieldAddr 4 Tryz.runUnderlying163 rfl Tryz.sizeOf161 rfl rfl rfl ?_
 refine o_load_B 4 H Tryz.isAgg161 rfl rfl rfl rfl ?_
 refine o_len_slice Tryz.underlying161 rfl rfl ?_
 refine o_move rfl rfl ?_
 refine q3 ?_
 refine W_block ?_
 have H := H.addNil 102 2
 have H := H.addF
 obtain ⟨ln48, hln48, H⟩ := H.nameAt (k := 4) (off := 2) rfl rfl
 obtain ⟨ln49, hln49, H⟩ := H.name (k := 5) rfl
 obtain ⟨ln50, hln50, H⟩ := H.name (k := 6) rfl
 refine W_loop (hf := (Sub.cons (t := 2) rfl (Sub.cons (t := 3) rfl (Sub.cons (t := 29) rfl (Sub.cons (t := 30) rfl Sub.nil))))) (J := fun M w m => ∃ (v : Value) (n : Nat) (cs : List Value) (xs : List (BSnap)) (F : Fr) (k : Nat) (G : PH), M = [(31, .int .i64 (k : Int))] ∧ PLe G0 G ∧ Hp w0 G0 (fps [blk db (cl [.int .i32 0, .int .u32 0, .map (some mb), .pointer (some ⟨T.b, 0, none⟩), .slice adv sn.length cdv] 163), blk mb (.map es ck), frag FT, acc 167 2 (.slice adv sn.length cdv) sn.length c, frag FSq]) w G [frag F, acc 102 2 v n cs, frag F45, frag F44, blk b43 (cl (setN ln48 2 v) 53), blk b1 (cl ln49 53), blk db (cl ln50 163), blk mb (.map es ck), frag FT, acc 167 2 (.slice adv sn.length cdv) sn.length c, frag FSq] ∧ (ChkF snapO 2 cs xs F ∧ n = xs.length ∧ k ≤ sn.length ∧ xs = (sn.take k).map (fun x => (⟨x.1, x.2.flat []⟩ : BSnap))) ∧ m = (sn.length - k)) (h0 := ⟨_, _, _, [], [], 0, _, rfl, PLe.refl _, H, ?inv, rfl⟩) (hM := ?hM) (round := ?round)
 case hM => (repeat (first | exact Sub.nil | refine Sub.cons rfl ?_))
 case inv => exact ⟨ChkF.nil,  by first | rfl | simp | (simp; omega) | omega, (by simp)⟩
 case round =>
  rintro _ w51 _ ⟨v, n, cs, xs, F, k, G51, rfl, hle51, H, hinv51, rfl⟩
  subst hln48
  subst hln49
  subst hln50
  have hS := hS.up hle51
  have hN := hN.up hle51
  have hchk := hchk.up hle51
  have hNs := hNs.up hle51
  obtain ⟨hchk51_0, hn51_0, hinv51⟩ := hinv51
  obtain ⟨av51_0, cv51_0, rfl⟩ := H.accShape (k := 1) rfl
  obtain ⟨hk, hxs⟩ := hinv51; have hxl6 : xs.length ≤ 6 := by (rw [hxs]; simp; omega)
  refine q2 ?_
  refine o_lss rfl rfl rfl ?_
  refine q3 ?_
  refine W_seq ?_
  refine W_cond rfl ?_ ?_
  ·intro hc52
   try simp only [nrm] at hc52
   refine W_skip ?_
   refine N_K ?_
   refine W_seq ?_
   refine W_block ?_
   refine q2 ?_
   refine o_index_A 9 H k rfl hchk Tryz.underlying161 Tryz.sizeOf167 rfl rfl rfl rfl (by first | omega | (simp; omega) | (simp; done)) (by first | rfl | assumption | (simp; done) | (simp; omega) | omega) ?_; intro ba53 z53 q53 hba53 hz53 hE53 hg53; cases hba53
   obtain ⟨rfl, hi53⟩ := hE53; have hy_hi53 : _ ≤ 16777216 := hi53
   refine o_loadagg_A 9 H Tryz.isAgg167 Tryz.sizeOf167 rfl rfl rfl hg53 rfl ?_
   refine o_alloc H Tryz.zeroValue167 rfl rfl ?_; intro b54 w54 hb54 H
   refine o_store_B 0 H Tryz.sizeOf167 rfl rfl rfl rfl rfl rfl rfl rfl ?_; intro w55 H
   refine q3 ?_
   refine W_drawK [0, 5, 6, 7] 12 H (by kernel_rfl) rfl ?_; intro w56 H; have hd56 := PLe.refl G51
   refine RD_t 0 rfl (by kernel_rfl) rfl (fun _ hK => v_fieldAddr 2 Tryz.runUnderlying53 rfl Tryz.sizeOf51 rfl rfl) ?_
   refine RD_t 1 rfl (by kernel_rfl) rfl (fun _ hK => v_load_B 1 hK Tryz.isAgg51 rfl rfl rfl) ?_
   refine RD_t 2 rfl (by kernel_rfl) rfl (fun _ hK => v_fieldAddr 0 Tryz.runUnderlying167 rfl Tryz.sizeOf9 rfl rfl) ?_
   refine RD_t 3 rfl (by kernel_rfl) rfl (fun _ hK => v_load_B 0 hK Tryz.isAgg9 rfl rfl rfl) ?_
   refine RD_t 4 rfl (by kernel_rfl) rfl (fun _ hK => v_fieldAddr 1 Tryz.runUnderlying167 rfl Tryz.sizeOf67 rfl rfl) ?_
   refine RD_t 5 rfl (by kernel_rfl) rfl (fun _ hK => v_load_B 0 hK Tryz.isAgg67 rfl rfl rfl) ?_
   refine RD_run [6] (by kernel_rfl) rfl (RDs.cons rfl ?_ RDs.nil)
   refine o_call Tryz.call82 rfl rfl (i_tlist_c _ _ (H.lendSubL [11]) _ (H.lendNs (k := 11) (ks := [11]) rfl rfl hNs z53.2 (List.mem_map_of_mem (List.mem_of_getElem? hz53))) (sn_ok hSn _ (List.mem_map_of_mem (List.mem_of_getElem? hz53))).1 (by have := (sn_ok hSn _ (List.mem_map_of_mem (List.mem_of_getElem? hz53))).2; omega)) ?_
   rintro _ w57 ⟨_, _, rfl, H57', ⟨F57, rfl, hO57⟩⟩
   have H := H.readersL H57'
   obtain ⟨e257, hP57⟩ := hO57
   obtain ⟨sa57, sc57, rfl⟩ := OwnS.shape hP57
   have hO57 := OIs.mk hP57
   refine ⟨_, rfl, ?_⟩
   refine R_nil ?_
   refine N_DK (Kn.of' H hd56 (SubL.cons 1 rfl (SubL.cons 6 rfl (SubL.cons 7 rfl (SubL.cons 8 rfl SubL.nil))))) ?_
   refine RD_t 7 rfl (by kernel_rfl) rfl (fun _ hK => v_build bf102 rfl rfl) ?_
   refine RD_run [8] (by kernel_rfl) rfl (RDs.cons rfl ?_ RDs.nil)
   refine o_buildSlice H Tryz.underlying51 Tryz.sizeOf102 (fun w => ⟨_, Tryz.zeroValue102 w, rfl⟩) rfl rfl rfl rfl rfl rfl rfl ?_; intro b58 w58 hb58 H
   refine R_nil ?_
   refine N_DK (Kn.of' H hd56 (SubL.cons 2 rfl (SubL.cons 7 rfl (SubL.cons 8 rfl (SubL.cons 9 rfl SubL.nil))))) ?_
   refine RD_run [9] (by kernel_rfl) rfl (RDs.cons rfl ?_ RDs.nil)
   refine o_append1 3 H (sz := 2) (bytes := 40) Tryz.underlying51 Tryz.typeInfo102 ⟨_, rfl, rfl⟩ rfl rfl rfl rfl rfl rfl rfl rfl rfl rfl (by omega) rfl ?_; intro v59 w59 H
   have hchk59 := hchk51_0.snoc (show snapO F57 ⟨z53.1, z53.2.flat []⟩ _ from ⟨_, _, _, rfl, hi53, hO57⟩) rfl
   have H := H.toFront (k := 2) rfl
   have H := H.mergeF
   obtain ⟨av59, cv59, rfl⟩ := H.accShape (k := 2) rfl
   refine R_nil ?_
   refine N_DK (Kn.of' H hd56 (SubL.cons 1 rfl (SubL.cons 5 rfl (SubL.cons 6 rfl (SubL.cons 7 rfl SubL.nil))))) ?_
   refine RD_t 10 rfl (by kernel_rfl) rfl (fun _ hK => v_fieldAddr 2 Tryz.runUnderlying53 rfl Tryz.sizeOf51 rfl rfl) ?_
   refine RD_run [11] (by kernel_rfl) rfl (RDs.cons rfl ?_ RDs.nil)
   refine o_store_B 5 H Tryz.sizeOf51 rfl rfl rfl rfl rfl rfl rfl rfl ?_; intro w60 H
   refine R_nil ?_
   refine N_DKlast (by kernel_rfl) (by kernel_rfl) ?_
   refine N_B ?_
   refine N_K ?_
   refine W_region ?_
   refine o_add rfl rfl rfl ⟨by omega, by omega⟩ ?_
   refine o_move rfl rfl ?_
   refine R_nil ?_
   have H := H.del (k := 1) rfl
   refine N_LP (hJ := ⟨_, _, _, (xs ++ [⟨z53.1, z53.2.flat []⟩]), (F ++ F57), k + 1, _, rfl, hle51, H, ?inv, rfl⟩) (hM := ?hM) (hf := ?hf) (hm := ?hm)
   case hM => (repeat (first | exact Sub.nil | refine Sub.cons rfl ?_))
   case hf => (repeat (first | exact Sub.nil | refine Sub.cons rfl ?_))
   case hm => omega
   case inv => exact ⟨hchk59, (by first | assumption | (simp; omega) | omega), (by exact ⟨by omega, by (rw [Sp.take_succ' hz53, List.map_append, ← hxs]; rfl)⟩)⟩
  intro hc52'
  try simp only [nrm] at hc52'
  refine W_exit ?_
  refine N_K_exit ?_
  refine N_LP_exit ?_
  refine N_B_same ?_
  refine N_K ?_
  refine q2 ?_
  refine o_loadagg_B 4 H Tryz.isAgg53 Tryz.sizeOf53 rfl rfl rfl rfl rfl ?_
  refine o_store_B 5 H Tryz.sizeOf53 rfl rfl rfl rfl rfl rfl rfl rfl ?_; intro w62 H
  refine q3 ?_
  refine W_ret ?_
  refine ret_unlock 6 H muLib rfl Tryz.call115 rfl rfl (rs := [.cell 2 53]) Tryz.results113 ?_; intro wu8 H
  refine ⟨[_], ⟨⟨_, rfl, load_blk 5 H Tryz.isAgg53 Tryz.sizeOf53 rfl rfl rfl⟩, trivial⟩, ?_⟩
  have H := H.toFront (k := 1) rfl
  obtain ⟨Fo9, H, hOw9⟩ := H.ownF hchk51_0 (by first | assumption | rfl | (simp; done) | (simp; omega) | omega) (by first | assumption | (simp; done) | (simp; omega) | omega)
  have H := H.del (k := 3) rfl
  have H := H.del (k := 3) rfl
  have H := H.del (k := 3) rfl
  have H := H.del (k := 3) rfl
  have H := H.del (k := 3) rfl
  have H := H.del (k := 3) rfl
  have H := H.del (k := 3) rfl
  have H := H.toFront (k := 1) rfl
  have H := H.toFront (k := 2) rfl
  have hxs2 : xs = d.snaps := by (rw [hxs, List.take_of_length_le (by omega)]; exact sn_list hSn)
  exact H.retM ⟨_, _, _, _, _, _, rfl, rfl, hO44, (by (rw [← hT.flat]); exact hO45), (by have h9 := (show OSn _ _ _ from ⟨_, hOw9⟩); (rw [hxs2] at h9); exact h9)⟩
end Go.Proofs.Tst

namespace Go.Proofs.Tst
open Go Fw
theorem i_clone_r : ∀ (N : Nat) (w0 : World) (G0 : PH) (hG : PSub G0 w0) (t : Nd) (hndt : RdN G0 t) (hct : t.cnt ≤ 1000) (hsz : t.size ≤ N),
  Calls Tryz.prog 118 #[.pointer (some ⟨t.b, 0, none⟩)] w0 (RetN w0 G0 (fun v Bs => ∃ (F : Fr) (T : Nd), v = .pointer (some ⟨T.b, 0, none⟩) ∧ Bs = [frag F] ∧ NdC 83 67 T F ∧ T.strip = t.strip)) := by
 intro N
 induction N with
 | zero => intro w0 G0 hG t hndt hct hsz; exact absurd (Nd.size_pos t) (by omega)
 | succ N ih =>
 intro w0 G0 hG t hndt hct hsz
 obtain ⟨hnlt, nat, nmt, nct, nAt, nMt, nCt, hprt, hrit, hrkt⟩ := hndt.open
 have hn_hrit := hrit.len; have hx_hrit : _ ≤ 1099511627776 := hrit.lim
 have hn_hrkt := hrkt.len; have hx_hrkt : _ ≤ 1099511627776 := hrkt.lim
 have H := Hp.init hG
 refine calls_of_W (l := [.pointer (some ⟨t.b, 0, none⟩)]) Tryz.func118 rfl Tryz.ntmps118 rfl ?_
 refine q2 ?_
 refine o_assign rfl rfl ?_
 refine q3 ?_
 refine W_seq ?_
 refine W_drawK [] 16 H (by kernel_rfl) rfl ?_; intro w1 H; have hd1 := PLe.refl G0
 refine RD_t 0 rfl (by kernel_rfl) rfl (fun _ hK => v_move rfl) ?_
 refine RD_t 1 rfl (by kernel_rfl) rfl (fun _ hK => v_nilCheck rfl) ?_
 refine RD_t 2 rfl (by kernel_rfl) rfl (fun _ hK => v_fieldAddr 0 Tryz.runUnderlying83 rfl Tryz.sizeOf9 rfl rfl) ?_
 refine RD_t 3 rfl (by kernel_rfl) rfl (fun _ hK => v_load_P hK Tryz.isAgg9 rfl (hprt 0 _ rfl)) ?_
 refine RD_t 4 rfl (by kernel_rfl) rfl (fun _ hK => v_move rfl) ?_
 refine RD_t 5 rfl (by kernel_rfl) rfl (fun _ hK => v_nilCheck rfl) ?_
 refine RD_t 6 rfl (by kernel_rfl) rfl (fun _ hK => v_fieldAddr 1 Tryz.runUnderlying83 rfl Tryz.sizeOf4 rfl rfl) ?_
 refine RD_t 7 rfl (by kernel_rfl) rfl (fun _ hK => v_load_P hK Tryz.isAgg4 rfl (hprt 1 _ rfl)) ?_
 refine RD_t 8 rfl (by kernel_rfl) rfl (fun _ hK => v_move rfl) ?_
 refine RD_t 9 rfl (by kernel_rfl) rfl (fun _ hK => v_nilCheck rfl) ?_
 refine RD_t 10 rfl (by kernel_rfl) rfl (fun _ hK => v_fieldAddr 2 Tryz.runUnderlying83 rfl Tryz.sizeOf27 rfl rfl) ?_
 refine RD_t 11 rfl (by kernel_rfl) rfl (fun _ hK => v_load_P hK Tryz.isAgg27 rfl (hprt 2 _ rfl)) ?_
 refine RD_run [12] (by kernel_rfl) rfl (RDs.cons rfl ?_ RDs.nil)
 refine o_call Tryz.call133 rfl rfl (l_Clone_c _ _ H.sub _ _ hrit ) ?_
 rintro _ w2 ⟨G2, v2, _, g2, rfl, ⟨cs2, rfl, hchk2⟩, hp2, hq2, hs2⟩
 have H := H.growO g2 hp2 hq2 hs2; obtain ⟨av2, cv2, rfl⟩ := H.accShape (k := 0) rfl
 have hndt := hndt.up g2.le
 have hprt := hprt.up g2.le
 have hrit := hrit.up g2.le
 have hrkt := hrkt.up g2.le
 have hd1 := hd1.trans g2.le
 refine ⟨_, rfl, ?_⟩
 refine R_nil ?_
 refine N_DK (Kn.of' H hd1 SubL.nil) ?_
 refine RD_t 13 rfl (by kernel_rfl) rfl (fun _ hK => v_build bf83 rfl rfl) ?_
 refine RD_run [14] (by kernel_rfl) rfl (RDs.cons rfl ?_ RDs.nil)
 refine o_box H rfl rfl rfl ?_; intro b3 w3 hb3 H
 refine R_nil ?_
 refine N_DK (Kn.of' H hd1 SubL.nil) ?_
 refine RD_t 15 rfl (by kernel_rfl) rfl (fun _ hK => v_assign rfl) ?_
 refine RD_done (by kernel_rfl) ?_
 refine N_K ?_
 refine W_seq ?_
 refine q2 ?_
 refine o_move rfl rfl ?_
 refine o_nilCheck rfl rfl ?_
 refine o_fieldAddr 3 Tryz.runUnderlying83 rfl Tryz.sizeOf81 rfl rfl rfl ?_
 refine o_load_P H Tryz.isAgg81 rfl rfl (hprt 3 _ rfl) ?_
 refine o_len_slice Tryz.underlying81 rfl rfl ?_
 refine o_move rfl rfl ?_
 refine q3 ?_
 refine W_block ?_
 obtain ⟨Fi1, H, hOI1⟩ := H.ownI (k := 1) rfl hchk2 (by first | assumption | rfl | (simp; done) | (simp; omega) | omega) (by first | assumption | (simp; done) | (simp; omega) | omega)
 have hOIc := hOI1
 have H := H.addF
 have H := H.addNil 67 1
 obtain ⟨ln5, hln5, H⟩ := H.nameAt (k := 3) (off := 3) rfl rfl
 refine W_loop (hf := (Sub.cons (t := 2) rfl (Sub.cons (t := 3) rfl (Sub.cons (t := 24) rfl (Sub.cons (t := 25) rfl Sub.nil))))) (J := fun M w m => ∃ (v : Value) (n : Nat) (cs : List Value) (xs : List (Nd)) (k : Nat) (FK : Fr) (G : PH), M = [(26, .int .i64 (k : Int))] ∧ PLe G2 G ∧ Hp w0 G0 [] w G [acc 67 1 v n cs, frag FK, frag Fi1, blk b3 (cl (setN ln5 3 v) 83)] ∧ (Chk kdE 1 G cs xs ∧ n = xs.length ∧ k ≤ t.kids.length ∧ NdsC 83 67 xs FK ∧ xs.map Nd.strip = (t.kids.take k).map Nd.strip) ∧ m = (t.kids.length - k)) (h0 := ⟨_, _, _, [], 0, [], _, rfl, PLe.refl _, H, ?inv, rfl⟩) (hM := ?hM) (round := ?round)
 case hM => (repeat (first | exact Sub.nil | refine Sub.cons rfl ?_))
 case inv => exact ⟨(Chk.nil (E := kdE) (sz := 1) (G := G2)),  by first | rfl | simp | (simp; omega) | omega, (by simp [NdsC])⟩
 case round =>
  rintro _ w6 _ ⟨v, n, cs, xs, k, FK, G6, rfl, hle6, H, hinv6, rfl⟩
  subst hln5
  have hndt := hndt.up hle6
  have hprt := hprt.up hle6
  have hrit := hrit.up hle6
  have hrkt := hrkt.up hle6
  have hchk2 := hchk2.up hle6
  obtain ⟨hchk6_0, hn6_0, hinv6⟩ := hinv6
  obtain ⟨av6_0, cv6_0, rfl⟩ := H.accShape (k := 0) rfl
  obtain ⟨hk, hKs, hst0⟩ := hinv6; have hxl0 := congrArg List.length hst0; simp at hxl0; have hkl0 := Nd.kids_le t
  refine q2 ?_
  refine o_lss rfl rfl rfl ?_
  refine q3 ?_
  refine W_seq ?_
  refine W_cond rfl ?_ ?_
  ·intro hc7
   try simp only [nrm] at hc7
   refine W_skip ?_
   refine N_K ?_
   refine W_seq ?_
   refine W_block ?_
   refine q2 ?_
   refine o_index_P k hrkt Tryz.underlying81 Tryz.sizeOf67 rfl rfl rfl rfl (by first | omega | (simp; omega)) ?_; intro b8 o8 z8 q8 hz8 hE8 hrow8
   obtain ⟨rfl, hnd8⟩ := hE8; obtain ⟨hnl8, na8, nm8, nc8, nA8, nM8, nC8, hpr8, hri8, hrk8⟩ := hnd8.open; have hn_hri8 := hri8.len; have hx_hri8 : _ ≤ 1099511627776 := hri8.lim; have hn_hrk8 := hrk8.len; have hx_hrk8 : _ ≤ 1099511627776 := hrk8.lim
   have hzm := List.mem_of_getElem? hz8; have hzc := Nd.kid_cnt hzm; have hzs := Nd.size_kid hzm
   refine o_load_P H Tryz.isAgg67 rfl rfl (hrow8 0 _ rfl) ?_
   refine o_assign rfl rfl ?_
   refine q3 ?_
   refine W_drawK [] 12 H (by kernel_rfl) rfl ?_; intro w9 H; have hd9 := PLe.refl G6
   refine RD_t 0 rfl (by kernel_rfl) rfl (fun _ hK => v_move rfl) ?_
   refine RD_t 1 rfl (by kernel_rfl) rfl (fun _ hK => v_move rfl) ?_
   refine RD_t 2 rfl (by kernel_rfl) rfl (fun _ hK => v_nilCheck rfl) ?_
   refine RD_t 3 rfl (by kernel_rfl) rfl (fun _ hK => v_fieldAddr 3 Tryz.runUnderlying83 rfl Tryz.sizeOf81 rfl rfl) ?_
   refine RD_t 5 rfl (by kernel_rfl) rfl (fun _ hK => v_move rfl) ?_
   refine RD_run [4, 6] (by kernel_rfl) rfl (RDs.cons rfl ?_ (RDs.cons rfl ?_ RDs.nil))
   ·skip
    refine o_load_B 3 H Tryz.isAgg81 rfl rfl rfl rfl ?_
    refine R_nil ?_
    refine N_DK (Kn.of' H hd9 SubL.nil) ?_
    refine RD_run [6] (by kernel_rfl) rfl (RDs.cons rfl ?_ RDs.nil)
    refine o_call Tryz.call118 rfl rfl (ih _ _ H.sub _ hnd8 (by omega) (by omega)) ?_
    rintro _ w10 ⟨_, _, rfl, H10', ⟨F10, T10, rfl, rfl, hNC10, hst10⟩⟩
    have H := H.readers (fp := []) (by simp) (PLe.refl _) H10'
    refine ⟨_, rfl, ?_⟩
    refine R_nil ?_
    refine N_DK (Kn.of' H hd9 SubL.nil) ?_
    refine RD_run [7] (by kernel_rfl) rfl (RDs.cons rfl ?_ RDs.nil)
    refine o_buildSlice H Tryz.underlying81 Tryz.sizeOf67 (fun w => ⟨_, Tryz.zeroValue67 w, rfl⟩) rfl rfl rfl rfl rfl rfl rfl ?_; intro b11 w11 hb11 H
    refine R_nil ?_
    refine N_DK (Kn.of' H hd9 SubL.nil) ?_
    refine RD_run [8] (by kernel_rfl) rfl (RDs.cons rfl ?_ RDs.nil)
    refine o_append1 1 H (sz := 1) (bytes := 8) Tryz.underlying81 Tryz.typeInfo67 ⟨_, rfl, rfl⟩ rfl rfl rfl rfl rfl rfl rfl rfl rfl rfl (by omega) rfl ?_; intro v12 w12 H
    have hchk12 := hchk6_0.snoc (show kdE _ T10 _ from rfl) rfl
    obtain ⟨av12, cv12, rfl⟩ := H.accShape (k := 1) rfl
    refine R_nil ?_
    refine N_DK (Kn.of' H hd9 SubL.nil) ?_
    refine RD_t 9 rfl (by kernel_rfl) rfl (fun _ hK => v_nilCheck rfl) ?_
    refine RD_t 10 rfl (by kernel_rfl) rfl (fun _ hK => v_fieldAddr 3 Tryz.runUnderlying83 rfl Tryz.sizeOf81 rfl rfl) ?_
    refine RD_run [11] (by kernel_rfl) rfl (RDs.cons rfl ?_ RDs.nil)
    have H := H.toFront (k := 2) rfl
    have H := H.mergeF
    refine o_store_B 3 H Tryz.sizeOf81 rfl rfl rfl rfl rfl rfl rfl rfl ?_; intro w13 H
    refine R_nil ?_
    refine N_DK (Kn.of' H hd9 SubL.nil) ?_
    refine RD_done (by kernel_rfl) ?_
    refine N_B ?_
    refine N_K ?_
    refine W_region ?_
    refine o_add rfl rfl rfl ⟨by omega, by omega⟩ ?_
    refine o_move rfl rfl ?_
    refine R_nil ?_
    have H := H.toFront (k := 3) rfl
    have H := H.toFront (k := 3) rfl
    have H := H.toFront (k := 2) rfl
    have H := H.toFront (k := 3) rfl
    refine N_LP (hJ := ⟨_, _, _, (xs ++ [T10]), k + 1, (FK ++ F10), _, rfl, hle6, H, ?inv, rfl⟩) (hM := ?hM) (hf := ?hf) (hm := ?hm)
    case hM => (repeat (first | exact Sub.nil | refine Sub.cons rfl ?_))
    case hf => (repeat (first | exact Sub.nil | refine Sub.cons rfl ?_))
    case hm => omega
    case inv => exact ⟨hchk12, (by first | assumption | (simp; omega) | omega), (by exact ⟨by omega, hKs.snoc hNC10, Nd.strip_take hz8 hst0 hst10⟩)⟩
   skip
   refine o_call Tryz.call118 rfl rfl (ih _ _ H.sub _ hnd8 (by omega) (by omega)) ?_
   rintro _ w15 ⟨_, _, rfl, H15', ⟨F15, T15, rfl, rfl, hNC15, hst15⟩⟩
   have H := H.readers (fp := []) (by simp) (PLe.refl _) H15'
   refine ⟨_, rfl, ?_⟩
   refine R_nil ?_
   refine N_DK (Kn.of' H hd9 SubL.nil) ?_
   refine RD_run [4, 7] (by kernel_rfl) rfl (RDs.cons rfl ?_ (RDs.cons rfl ?_ RDs.nil))
   ·skip
    refine o_load_B 4 H Tryz.isAgg81 rfl rfl rfl rfl ?_
    refine R_nil ?_
    refine N_DK (Kn.of' H hd9 SubL.nil) ?_
    refine RD_run [7] (by kernel_rfl) rfl (RDs.cons rfl ?_ RDs.nil)
    refine o_buildSlice H Tryz.underlying81 Tryz.sizeOf67 (fun w => ⟨_, Tryz.zeroValue67 w, rfl⟩) rfl rfl rfl rfl rfl rfl rfl ?_; intro b16 w16 hb16 H
    refine R_nil ?_
    refine N_DK (Kn.of' H hd9 SubL.nil) ?_
    refine RD_run [8] (by kernel_rfl) rfl (RDs.cons rfl ?_ RDs.nil)
    refine o_append1 1 H (sz := 1) (bytes := 8) Tryz.underlying81 Tryz.typeInfo67 ⟨_, rfl, rfl⟩ rfl rfl rfl rfl rfl rfl rfl rfl rfl rfl (by omega) rfl ?_; intro v17 w17 H
    have hchk17 := hchk6_0.snoc (show kdE _ T15 _ from rfl) rfl
    obtain ⟨av17, cv17, rfl⟩ := H.accShape (k := 1) rfl
    refine R_nil ?_
    refine N_DK (Kn.of' H hd9 SubL.nil) ?_
    refine RD_t 9 rfl (by kernel_rfl) rfl (fun _ hK => v_nilCheck rfl) ?_
    refine RD_t 10 rfl (by kernel_rfl) rfl (fun _ hK => v_fieldAddr 3 Tryz.runUnderlying83 rfl Tryz.sizeOf81 rfl rfl) ?_
    refine RD_run [11] (by kernel_rfl) rfl (RDs.cons rfl ?_ RDs.nil)
    have H := H.toFront (k := 2) rfl
    have H := H.mergeF
    refine o_store_B 3 H Tryz.sizeOf81 rfl rfl rfl rfl rfl rfl rfl rfl ?_; intro w18 H
    refine R_nil ?_
    refine N_DK (Kn.of' H hd9 SubL.nil) ?_
    refine RD_done (by kernel_rfl) ?_
    refine N_B ?_
    refine N_K ?_
    refine W_region ?_
    refine o_add rfl rfl rfl ⟨by omega, by omega⟩ ?_
    refine o_move rfl rfl ?_
    refine R_nil ?_
    have H := H.toFront (k := 3) rfl
    have H := H.toFront (k := 3) rfl
    have H := H.toFront (k := 2) rfl
    have H := H.toFront (k := 3) rfl
    refine N_LP (hJ := ⟨_, _, _, (xs ++ [T15]), k + 1, (FK ++ F15), _, rfl, hle6, H, ?inv, rfl⟩) (hM := ?hM) (hf := ?hf) (hm := ?hm)
    case hM => (repeat (first | exact Sub.nil | refine Sub.cons rfl ?_))
    case hf => (repeat (first | exact Sub.nil | refine Sub.cons rfl ?_))
    case hm => omega
    case inv => exact ⟨hchk17, (by first | assumption | (simp; omega) | omega), (by exact ⟨by omega, hKs.snoc hNC15, Nd.strip_take hz8 hst0 hst15⟩)⟩
   skip
   refine o_buildSlice H Tryz.underlying81 Tryz.sizeOf67 (fun w => ⟨_, Tryz.zeroValue67 w, rfl⟩) rfl rfl rfl rfl rfl rfl rfl ?_; intro b20 w20 hb20 H
   refine R_nil ?_
   refine N_DK (Kn.of' H hd9 SubL.nil) ?_
   refine RD_run [4] (by kernel_rfl) rfl (RDs.cons rfl ?_ RDs.nil)
   refine o_load_B 5 H Tryz.isAgg81 rfl rfl rfl rfl ?_
   refine R_nil ?_
   refine N_DK (Kn.of' H hd9 SubL.nil) ?_
   refine RD_run [8] (by kernel_rfl) rfl (RDs.cons rfl ?_ RDs.nil)
   refine o_append1 1 H (sz := 1) (bytes := 8) Tryz.underlying81 Tryz.typeInfo67 ⟨_, rfl, rfl⟩ rfl rfl rfl rfl rfl rfl rfl rfl rfl rfl (by omega) rfl ?_; intro v21 w21 H
   have hchk21 := hchk6_0.snoc (show kdE _ T15 _ from rfl) rfl
   obtain ⟨av21, cv21, rfl⟩ := H.accShape (k := 1) rfl
   refine R_nil ?_
   refine N_DK (Kn.of' H hd9 SubL.nil) ?_
   refine RD_t 9 rfl (by kernel_rfl) rfl (fun _ hK => v_nilCheck rfl) ?_
   refine RD_t 10 rfl (by kernel_rfl) rfl (fun _ hK => v_fieldAddr 3 Tryz.runUnderlying83 rfl Tryz.sizeOf81 rfl rfl) ?_
   refine RD_run [11] (by kernel_rfl) rfl (RDs.cons rfl ?_ RDs.nil)
   have H := H.toFront (k := 2) rfl
   have H := H.mergeF
   refine o_store_B 3 H Tryz.sizeOf81 rfl rfl rfl rfl rfl rfl rfl rfl ?_; intro w22 H
   refine R_nil ?_
   refine N_DK (Kn.of' H hd9 SubL.nil) ?_
   refine RD_done (by kernel_rfl) ?_
   refine N_B ?_
   refine N_K ?_
   refine W_region ?_
   refine o_add rfl rfl rfl ⟨by omega, by omega⟩ ?_
   refine o_move rfl rfl ?_
   refine R_nil ?_
   have H := H.toFront (k := 3) rfl
   have H := H.toFront (k := 3) rfl
   have H := H.toFront (k := 2) rfl
   have H := H.toFront (k := 3) rfl
   refine N_LP (hJ := ⟨_, _, _, (xs ++ [T15]), k + 1, (FK ++ F15), _, rfl, hle6, H, ?inv, rfl⟩) (hM := ?hM) (hf := ?hf) (hm := ?hm)
   case hM => (repeat (first | exact Sub.nil | refine Sub.cons rfl ?_))
   case hf => (repeat (first | exact Sub.nil | refine Sub.cons rfl ?_))
   case hm => omega
   case inv => exact ⟨hchk21, (by first | assumption | (simp; omega) | omega), (by exact ⟨by omega, hKs.snoc hNC15, Nd.strip_take hz8 hst0 hst15⟩)⟩
  intro hc7'
  try simp only [nrm] at hc7'
  refine W_exit ?_
  refine N_K_exit ?_
  refine N_LP_exit ?_
  refine N_B_same ?_
  refine N_K ?_
  refine q2 ?_
  refine o_move rfl rfl ?_
  refine o_assign rfl rfl ?_
  refine q3 ?_
  refine W_ret ?_
  refine ret_gen (rs := [.tmp 2]) (vs := [_]) Tryz.results118 ⟨rfl, trivial⟩ ?_
  have H := H.toFront (k := 2) rfl
  have H := H.toFront (k := 3) rfl
  have H := H.toFront (k := 3) rfl
  have H := H.toFront (k := 3) rfl
  have hst : xs.map Nd.strip = t.kids.map Nd.strip := by (have h9 := hst0; rw [List.take_of_length_le (by omega)] at h9; exact h9)
  have hxl := Nd.strip_len hst; have hkl := Nd.kids_le t
  obtain rfl : n = xs.length := by assumption
  obtain ⟨FT, H, hNC⟩ := Hp.makeC (ks := xs) (by (have hcc := hchk6_0.kd; rw [hcc] at H; exact H)) hnlt (by omega) hOIc hKs
  have H := H.forget hG (by simp)
  exact ⟨_, _, rfl, H, FT, _, rfl, rfl, hNC, Nd.strip_mk hst⟩
theorem i_clone_c (w0 : World) (G0 : PH) (hG : PSub G0 w0) (t : Nd) (hndt : RdN G0 t) (hct : t.cnt ≤ 1000) :
  Calls Tryz.prog 118 #[.pointer (some ⟨t.b, 0, none⟩)] w0 (RetN w0 G0 (fun v Bs => ∃ (F : Fr) (T : Nd), v = .pointer (some ⟨T.b, 0, none⟩) ∧ Bs = [frag F] ∧ NdC 83 67 T F ∧ T.strip = t.strip)) := i_clone_r _ w0 G0 hG t hndt hct (Nat.le_refl _)
end Go.Proofs.Tst

namespace Go.Proofs.Tst
open Go Fw
theorem i_take_c (w0 : World) (G0 : PH) (hG : PSub G0 w0) (db mb : Nat) (es : Array MapEntry) (ck : Nat) (xs : List (Int × Value)) (T : Nd) (FT : Fr) (sv : Value) (sn : List (Bs × Nd)) (c : List Value) (FSq : Fr) (d : BDisk) (hm : MapIs (Value.int .i64) es ck xs) (hS : StR G0 xs d.store) (hN : NdO 83 67 G0 T FT) (hT : Nd.TOK T d.tree) (hchk : Chk osE 2 G0 c sn) (hNs : NdsO 83 67 G0 (sn.map (·.2)) FSq) (hSn : SnOK sn d.snaps) (hdv : Sp.DiskValid d = true) (name : Bs) (hname : name.length ≤ 16777216) (hLent : Lent w0 G0 [blk db (cl [.int .i32 0, .int .u32 0, .map (some mb), .pointer (some ⟨T.b, 0, none⟩), sv] 163), blk mb (.map es ck), frag FT, acc 167 2 sv sn.length c, frag FSq])  :
  Calls Tryz.prog 63 #[.pointer (some ⟨db, 0, none⟩), str name] w0 (RetM w0 G0 (fps [blk db (cl [.int .i32 0, .int .u32 0, .map (some mb), .pointer (some ⟨T.b, 0, none⟩), sv] 163), blk mb (.map es ck), frag FT, acc 167 2 sv sn.length c, frag FSq]) (fun G' v Bs => ∃ (es' : Array MapEntry) (ck' : Nat) (xs' : List (Int × Value)) (F' : Fr) (sv' : Value) (sn' : List (Fw.Bs × Nd)) (c' : List Value) (FSq' : Fr) (L' : List BHeld), v = .bool (Sp.SnapTake d name).isSome ∧ Bs = [blk db (cl [.int .i32 0, .int .u32 0, .map (some mb), .pointer (some ⟨T.b, 0, none⟩), sv'] 163), blk mb (.map es' ck'), frag F', acc 167 2 sv' sn'.length c', frag FSq'] ∧ MapIs (Value.int .i64) es' ck' xs' ∧ StR G' xs' L' ∧ Sp.VH L' ∧ NdO 83 67 G' T F' ∧ Chk osE 2 G' c' sn' ∧ NdsO 83 67 G' (sn'.map (·.2)) FSq' ∧ ∀ d', Sp.SnapTake d name = some d' → L' = d'.store ∧ d'.tree = d.tree ∧ SnOK sn' d'.snaps)) := by
 have H : Hp w0 G0 (fps [blk db (cl [.int .i32 0, .int .u32 0, .map (some mb), .pointer (some ⟨T.b, 0, none⟩), sv] 163), blk mb (.map es ck), frag FT, acc 167 2 sv sn.length c, frag FSq]) w0 G0 [blk db (cl [.int .i32 0, .int .u32 0, .map (some mb), .pointer (some ⟨T.b, 0, none⟩), sv] 163), blk mb (.map es ck), frag FT, acc 167 2 sv sn.length c, frag FSq] := hLent.hp
 obtain ⟨adv, cdv, rfl⟩ := H.accShape (k := 3) rfl; have hVd := Sp.valid_iff.1 (Sp.dv_parts.1 hdv).1; have hTv := (Sp.dv_parts.1 hdv).2.1; have hTc := hT.cnt; have hTl := Sp.tree_len hTv; have hsnl := hSn.len; have hsn6 := (Sp.dv_parts.1 hdv).2.2.1
 refine calls_of_WD (l := [.pointer (some ⟨db, 0, none⟩), str name]) Tryz.func63 rfl Tryz.ntmps63 rfl ?_
 refine q2 ?_
 refine o_assign rfl rfl ?_
 refine q1 ?_
 refine o_move rfl rfl ?_
 refine o_nilCheck rfl rfl ?_
 refine o_fieldAddr 0 Tryz.runUnderlying163 rfl Tryz.sizeOf160 rfl rfl rfl ?_
 refine o_lock 0 H muLib rfl Tryz.call114 rfl rfl rfl rfl ?_; intro w1 H
 refine q1 ?_
 refine o_move rfl rfl ?_
 refine o_nilCheck rfl rfl ?_
 refine o_fieldAddr 0 Tryz.runUnderlying163 rfl Tryz.sizeOf160 rfl rfl rfl ?_
 refine o_defer rfl ?_
 refine q3 ?_
 refine W_seq ?_
 refine q2 ?_
 refine o_move rfl rfl ?_
 refine o_call Tryz.call116 rfl rfl (i_partValid_c _ _ hname ) ?_
 rintro _ w2 ⟨rfl, ew2⟩; have H := H.step ew2; refine ⟨_, rfl, ?_⟩
 refine o_not rfl rfl ?_
 refine o_move rfl rfl ?_
 refine R_case (t := 15) rfl ?_ ?_
 ·intro hc3
  try simp only [nrm] at hc3
  refine R_pass rfl (yl_ne rfl rfl rfl) ?_
  refine R_pass rfl (yl_ne rfl rfl rfl) ?_
  refine R_pass rfl (yl_ne rfl rfl rfl) ?_
  refine R_pass rfl (yl_ne rfl rfl rfl) ?_
  refine o_pick_t rfl rfl rfl ?_
  refine o_move rfl rfl ?_
  refine R_pass rfl (yl_ne rfl rfl rfl) ?_
  refine R_pass rfl (yl_ne rfl rfl rfl) ?_
  refine R_pass rfl (yl_ne rfl rfl rfl) ?_
  refine R_pass rfl (yl_ne rfl rfl rfl) ?_
  refine R_pass rfl (yl_ne rfl rfl rfl) ?_
  refine R_pass rfl (yl_ne rfl rfl rfl) ?_
  refine o_pick_t rfl rfl rfl ?_
  refine q3 ?_
  refine W_true rfl ?_
  refine q2 ?_
  refine o_assign rfl rfl ?_
  refine q3 ?_
  refine W_ret ?_
  refine N_K_ret ?_
  refine ret_unlock 0 H muLib rfl Tryz.call115 rfl rfl (rs := [.tmp 4]) Tryz.results63 ?_; intro wu1 H
  refine ⟨[_], ⟨rfl, trivial⟩, ?_⟩
  have H := H.toFront (k := 4) rfl
  have H := H.toFront (k := 4) rfl
  have H := H.toFront (k := 4) rfl
  have H := H.toFront (k := 4) rfl
  have H := H.toFront (k := 4) rfl
  have hno : Sp.SnapTake d name = none := take_no (fun hh => by have := hh.1; simp_all)
  exact H.retM ⟨_, _, _, _, _, sn, _, _, d.store, by (rw [hno]; rfl), rfl, hm, hS, hVd, hN, hchk, hNs, fun d2 h => by rw [hno] at h; cases h⟩
 intro hc3'
 try simp only [nrm] at hc3'
 refine R_guard (yl rfl rfl) ?_
 refine o_move rfl rfl ?_
 refine R_guard (yl rfl rfl) ?_
 refine o_move rfl rfl ?_
 refine R_guard (yl rfl rfl) ?_
 refine o_call Tryz.call117 rfl rfl (i_snapAt_c _ _ (H.lendSubL [0, 3]) _ _ _ _ _ _ _ (prow_blk (H.lendPredL (k := 0) (ks := [0, 3]) rfl rfl)) (H.lendRdL (k := 3) (ks := [0, 3]) rfl rfl hchk (by first | assumption | rfl | (simp; done) | (simp; omega) | omega) (by first | assumption | (simp; done) | (simp; omega) | omega)) _ hname ) ?_
 rintro _ w4 ⟨rfl, ew4⟩; have H := H.step ew4; refine ⟨_, rfl, ?_⟩
 refine R_guard (yl rfl rfl) ?_
 refine o_geq rfl rfl rfl ?_
 refine o_pick_f rfl rfl rfl ?_
 refine o_move rfl rfl ?_
 refine R_case (t := 21) rfl ?_ ?_
 ·intro hc5
  try simp only [nrm] at hc5
  refine R_pass rfl (yl_ne rfl rfl rfl) ?_
  refine R_pass rfl (yl_ne rfl rfl rfl) ?_
  refine R_pass rfl (yl_ne rfl rfl rfl) ?_
  refine R_pass rfl (yl_ne rfl rfl rfl) ?_
  refine R_pass rfl (yl_ne rfl rfl rfl) ?_
  refine R_pass rfl (yl_ne rfl rfl rfl) ?_
  refine o_pick_t rfl rfl rfl ?_
  refine q3 ?_
  refine W_true rfl ?_
  refine q2 ?_
  refine o_assign rfl rfl ?_
  refine q3 ?_
  refine W_ret ?_
  refine N_K_ret ?_
  refine ret_unlock 0 H muLib rfl Tryz.call115 rfl rfl (rs := [.tmp 4]) Tryz.results63 ?_; intro wu2 H
  refine ⟨[_], ⟨rfl, trivial⟩, ?_⟩
  have H := H.toFront (k := 4) rfl
  have H := H.toFront (k := 4) rfl
  have H := H.toFront (k := 4) rfl
  have H := H.toFront (k := 4) rfl
  have H := H.toFront (k := 4) rfl
  have hno : Sp.SnapTake d name = none := take_no (fun hh => by have h8 := hh.2.1; (rw [← Sp.sn_find hSn, ← optI_neg] at h8); omega)
  exact H.retM ⟨_, _, _, _, _, sn, _, _, d.store, by (rw [hno]; rfl), rfl, hm, hS, hVd, hN, hchk, hNs, fun d2 h => by rw [hno] at h; cases h⟩
 intro hc5'
 try simp only [nrm] at hc5'
 refine R_guard (yl rfl rfl) ?_
 refine o_move rfl rfl ?_
 refine R_guard (yl rfl rfl) ?_
 refine o_nilCheck rfl rfl ?_
 refine R_guard (yl rfl rfl) ?_
 refine o_fieldAddr 4 Tryz.runUnderlying163 rfl Tryz.sizeOf161 rfl rfl rfl ?_
 refine R_guard (yl rfl rfl) ?_
 refine o_load_B 0 H Tryz.isAgg161 rfl rfl rfl rfl ?_
 refine R_guard (yl rfl rfl) ?_
 refine o_len_slice Tryz.underlying161 rfl rfl ?_
 refine R_guard (yl rfl rfl) ?_
 refine o_geq rfl rfl rfl ?_
 refine o_pick_f rfl rfl rfl ?_
 refine q3 ?_
 refine W_cond rfl ?_ ?_
 ·intro hc6
  try simp only [nrm] at hc6
  refine q2 ?_
  refine o_assign rfl rfl ?_
  refine q3 ?_
  refine W_ret ?_
  refine N_K_ret ?_
  refine ret_unlock 0 H muLib rfl Tryz.call115 rfl rfl (rs := [.tmp 4]) Tryz.results63 ?_; intro wu3 H
  refine ⟨[_], ⟨rfl, trivial⟩, ?_⟩
  have H := H.toFront (k := 4) rfl
  have H := H.toFront (k := 4) rfl
  have H := H.toFront (k := 4) rfl
  have H := H.toFront (k := 4) rfl
  have H := H.toFront (k := 4) rfl
  have hno : Sp.SnapTake d name = none := take_no (fun hh => by have := hh.2.2; omega)
  exact H.retM ⟨_, _, _, _, _, sn, _, _, d.store, by (rw [hno]; rfl), rfl, hm, hS, hVd, hN, hchk, hNs, fun d2 h => by rw [hno] at h; cases h⟩
 intro hc6'
 try simp only [nrm] at hc6'
 refine W_skip ?_
 refine N_K ?_
 refine W_seq ?_
 refine W_drawK [] 18 H (by kernel_rfl) rfl ?_; intro w7 H; have hd7 := PLe.refl G0
 refine RD_t 0 rfl (by kernel_rfl) rfl (fun _ hK => v_move rfl) ?_
 refine RD_t 1 rfl (by kernel_rfl) rfl (fun _ hK => v_move rfl) ?_
 refine RD_t 2 rfl (by kernel_rfl) rfl (fun _ hK => v_nilCheck rfl) ?_
 refine RD_t 3 rfl (by kernel_rfl) rfl (fun _ hK => v_fieldAddr 4 Tryz.runUnderlying163 rfl Tryz.sizeOf161 rfl rfl) ?_
 refine RD_t 5 rfl (by kernel_rfl) rfl (fun _ hK => v_move rfl) ?_
 refine RD_t 6 rfl (by kernel_rfl) rfl (fun _ hK => v_move rfl) ?_
 refine RD_t 7 rfl (by kernel_rfl) rfl (fun _ hK => v_nilCheck rfl) ?_
 refine RD_t 8 rfl (by kernel_rfl) rfl (fun _ hK => v_fieldAddr 2 Tryz.runUnderlying163 rfl Tryz.sizeOf69 rfl rfl) ?_
 refine RD_t 9 rfl (by kernel_rfl) rfl (fun _ hK => v_fieldAddr 1 Tryz.runUnderlying69 rfl Tryz.sizeOf67 rfl rfl) ?_
 refine RD_run [4, 10] (by kernel_rfl) rfl (RDs.cons rfl ?_ (RDs.cons rfl ?_ RDs.nil))
 ·skip
  refine o_load_B 0 H Tryz.isAgg161 rfl rfl rfl rfl ?_
  refine R_nil ?_
  refine N_DK (Kn.of' H hd7 SubL.nil) ?_
  refine RD_run [10] (by kernel_rfl) rfl (RDs.cons rfl ?_ RDs.nil)
  refine o_load_B 0 H Tryz.isAgg67 rfl rfl rfl rfl ?_
  refine R_nil ?_
  refine N_DK (Kn.of' H hd7 SubL.nil) ?_
  refine RD_run [11] (by kernel_rfl) rfl (RDs.cons rfl ?_ RDs.nil)
  refine o_call Tryz.call118 rfl rfl (i_clone_c _ _ (H.lendSubL [2]) _ ((H.lendN (k := 2) (ks := [2]) rfl rfl hN).at (show Nd.at_ T [] = some T from rfl)) (by omega)) ?_
  rintro _ w8 ⟨_, _, rfl, H8', ⟨F8, T8, rfl, rfl, hNC8, hst8⟩⟩
  have H := H.readersL H8'
  refine ⟨_, rfl, ?_⟩
  obtain ⟨Gs4, Fc4, H, hsl4, hNc4⟩ := Hp.shareC H hNC8 (H.apart (k := 0) (ks := [1, 2, 3, 4, 5]) rfl rfl (by intro b hb; simp only [fps, List.flatMap_cons, List.flatMap_nil, List.append_nil, List.mem_append] at hb; rcases hb with h | h | h | h | h; (· exact fpsAt_mem (k := 1) rfl rfl b (by exact h)); (· exact fpsAt_mem (k := 2) rfl rfl b (by exact h)); (· exact fpsAt_mem (k := 3) rfl rfl b (by exact h)); (· exact fpsAt_mem (k := 4) rfl rfl b (by exact h)); (· exact fpsAt_mem (k := 5) rfl rfl b (by exact h))))
  have hS := hS.up hsl4
  have hN := hN.up hsl4
  have hchk := hchk.up hsl4
  have hNs := hNs.up hsl4
  have hd7 := hd7.trans hsl4
  refine R_nil ?_
  refine N_DK (Kn.of' H hd7 SubL.nil) ?_
  refine RD_t 12 rfl (by kernel_rfl) rfl (fun _ hK => v_build bf167 rfl rfl) ?_
  refine RD_run [13] (by kernel_rfl) rfl (RDs.cons rfl ?_ RDs.nil)
  refine o_buildSlice H Tryz.underlying161 Tryz.sizeOf167 (fun w => ⟨_, Tryz.zeroValue167 w, rfl⟩) rfl rfl rfl rfl rfl rfl rfl ?_; intro b9 w9 hb9 H
  refine R_nil ?_
  refine N_DK (Kn.of' H hd7 SubL.nil) ?_
  refine RD_run [14] (by kernel_rfl) rfl (RDs.cons rfl ?_ RDs.nil)
  refine o_append1 4 H (sz := 2) (bytes := 24) Tryz.underlying161 Tryz.typeInfo167 ⟨_, rfl, rfl⟩ rfl rfl rfl rfl rfl rfl rfl rfl rfl rfl (by omega) rfl ?_; intro v10 w10 H
  have hchk10 := hchk.snoc (show osE _ (name, T8) _ from ⟨rfl, hname⟩) rfl
  obtain ⟨av10, cv10, rfl⟩ := H.accShape (k := 4) rfl
  refine R_nil ?_
  refine N_DK (Kn.of' H hd7 SubL.nil) ?_
  refine RD_t 15 rfl (by kernel_rfl) rfl (fun _ hK => v_nilCheck rfl) ?_
  refine RD_t 16 rfl (by kernel_rfl) rfl (fun _ hK => v_fieldAddr 4 Tryz.runUnderlying163 rfl Tryz.sizeOf161 rfl rfl) ?_
  refine RD_run [17] (by kernel_rfl) rfl (RDs.cons rfl ?_ RDs.nil)
  have H := H.toFront (k := 5) rfl
  have H := H.mergeF
  refine o_store_B 1 H Tryz.sizeOf161 rfl rfl rfl rfl rfl rfl rfl rfl ?_; intro w11 H
  refine R_nil ?_
  refine N_DK (Kn.of' H hd7 SubL.nil) ?_
  refine RD_done (by kernel_rfl) ?_
  refine N_K ?_
  refine W_seq ?_
  refine W_drawK [1] 12 H (by kernel_rfl) rfl ?_; intro w12 H; have hd12 := PLe.refl Gs4
  refine RD_t 0 rfl (by kernel_rfl) rfl (fun _ hK => v_move rfl) ?_
  refine RD_t 1 rfl (by kernel_rfl) rfl (fun _ hK => v_nilCheck rfl) ?_
  refine RD_t 2 rfl (by kernel_rfl) rfl (fun _ hK => v_fieldAddr 2 Tryz.runUnderlying163 rfl Tryz.sizeOf69 rfl rfl) ?_
  refine RD_t 3 rfl (by kernel_rfl) rfl (fun _ hK => v_fieldAddr 0 Tryz.runUnderlying69 rfl Tryz.sizeOf66 rfl rfl) ?_
  refine RD_t 4 rfl (by kernel_rfl) rfl (fun _ hK => v_load_B 0 hK Tryz.isAgg66 rfl rfl rfl) ?_
  refine RD_t 5 rfl (by kernel_rfl) rfl (fun _ hK => v_move rfl) ?_
  refine RD_t 6 rfl (by kernel_rfl) rfl (fun _ hK => v_nilCheck rfl) ?_
  refine RD_t 7 rfl (by kernel_rfl) rfl (fun _ hK => v_fieldAddr 2 Tryz.runUnderlying163 rfl Tryz.sizeOf69 rfl rfl) ?_
  refine RD_t 8 rfl (by kernel_rfl) rfl (fun _ hK => v_fieldAddr 1 Tryz.runUnderlying69 rfl Tryz.sizeOf67 rfl rfl) ?_
  refine RD_t 9 rfl (by kernel_rfl) rfl (fun _ hK => v_load_B 0 hK Tryz.isAgg67 rfl rfl rfl) ?_
  refine RD_run [10] (by kernel_rfl) rfl (RDs.cons rfl ?_ RDs.nil)
  have H := H.toFront (k := 3) rfl
  have H := H.toFront (k := 3) rfl
  refine o_call Tryz.call119 rfl rfl (i_keepTree_c _ _ H.sub _ _ _ _ _ hm hS hVd _ _ hN H.lent2 hT.wf (by omega)) ?_
  rintro _ w13 ⟨G13, _, _, rfl, H13', ⟨es13, ck13, xs13, L13, rfl, rfl, hm13, hS13, hV13, hL13⟩⟩
  have hS := hS.up H13'.le
  have hN := hN.up H13'.le
  have hchk := hchk.up H13'.le
  have hNs := hNs.up H13'.le
  have hNc4 := hNc4.up H13'.le
  have hchk10 := hchk10.up H13'.le
  have hd12 := hd12.trans H13'.le
  have H := H.borrow2 H13'
  refine ⟨_, rfl, ?_⟩
  refine R_nil ?_
  refine N_DK (Kn.of' H hd12 (SubL.cons 3 rfl SubL.nil)) ?_
  refine RD_t 11 rfl (by kernel_rfl) rfl (fun _ hK => v_assign rfl) ?_
  refine RD_done (by kernel_rfl) ?_
  refine N_K ?_
  refine W_ret ?_
  refine ret_unlock 3 H muLib rfl Tryz.call115 rfl rfl (rs := [.tmp 4]) Tryz.results63 ?_; intro wu5 H
  refine ⟨[_], ⟨rfl, trivial⟩, ?_⟩
  have H := H.toFront (k := 2) rfl
  have H := H.toFront (k := 4) rfl
  have H := H.toFront (k := 3) rfl
  have H := H.toFront (k := 3) rfl
  have H := H.toFront (k := 4) rfl
  have htk := take_eq hdv (by simpa using hc3') (optI_neg.1 (by (rw [← Sp.sn_find hSn]; omega))) (by omega : d.snaps.length ≠ 6)
  have hfl := hT.flat
  have hln : sn.length + 1 = (sn ++ [(name, T8)]).length := by simp
  rw [hln] at H
  exact H.retM ⟨_, _, _, _, _, sn ++ [(name, T8)], _, _, L13, congrArg Value.bool (by (rw [htk, hfl, Option.isSome_map])), rfl, hm13, hS13, hV13, hN, hchk10, by (rw [List.map_append]; exact hNs.snoc hNc4), fun d2 h => (by (rw [htk] at h); obtain ⟨s2, h2, rfl⟩ := Option.map_eq_some_iff.1 h; exact ⟨hL13 s2 (by (rw [hfl]; exact h2)), rfl, All2.push hSn rfl (hT.strip hst8) hTv⟩)⟩
 skip
 refine o_load_B 0 H Tryz.isAgg67 rfl rfl rfl rfl ?_
 refine R_nil ?_
 refine N_DK (Kn.of' H hd7 SubL.nil) ?_
 refine RD_run [4, 11] (by kernel_rfl) rfl (RDs.cons rfl ?_ (RDs.cons rfl ?_ RDs.nil))
 ·skip
  refine o_load_B 0 H Tryz.isAgg161 rfl rfl rfl rfl ?_
  refine R_nil ?_
  refine N_DK (Kn.of' H hd7 SubL.nil) ?_
  refine RD_run [11] (by kernel_rfl) rfl (RDs.cons rfl ?_ RDs.nil)
  refine o_call Tryz.call118 rfl rfl (i_clone_c _ _ (H.lendSubL [2]) _ ((H.lendN (k := 2) (ks := [2]) rfl rfl hN).at (show Nd.at_ T [] = some T from rfl)) (by omega)) ?_
  rintro _ w14 ⟨_, _, rfl, H14', ⟨F14, T14, rfl, rfl, hNC14, hst14⟩⟩
  have H := H.readersL H14'
  refine ⟨_, rfl, ?_⟩
  obtain ⟨Gs6, Fc6, H, hsl6, hNc6⟩ := Hp.shareC H hNC14 (H.apart (k := 0) (ks := [1, 2, 3, 4, 5]) rfl rfl (by intro b hb; simp only [fps, List.flatMap_cons, List.flatMap_nil, List.append_nil, List.mem_append] at hb; rcases hb with h | h | h | h | h; (· exact fpsAt_mem (k := 1) rfl rfl b (by exact h)); (· exact fpsAt_mem (k := 2) rfl rfl b (by exact h)); (· exact fpsAt_mem (k := 3) rfl rfl b (by exact h)); (· exact fpsAt_mem (k := 4) rfl rfl b (by exact h)); (· exact fpsAt_mem (k := 5) rfl rfl b (by exact h))))
  have hS := hS.up hsl6
  have hN := hN.up hsl6
  have hchk := hchk.up hsl6
  have hNs := hNs.up hsl6
  have hd7 := hd7.trans hsl6
  refine R_nil ?_
  refine N_DK (Kn.of' H hd7 SubL.nil) ?_
  refine RD_t 12 rfl (by kernel_rfl) rfl (fun _ hK => v_build bf167 rfl rfl) ?_
  refine RD_run [13] (by kernel_rfl) rfl (RDs.cons rfl ?_ RDs.nil)
  refine o_buildSlice H Tryz.underlying161 Tryz.sizeOf167 (fun w => ⟨_, Tryz.zeroValue167 w, rfl⟩) rfl rfl rfl rfl rfl rfl rfl ?_; intro b15 w15 hb15 H
  refine R_nil ?_
  refine N_DK (Kn.of' H hd7 SubL.nil) ?_
  refine RD_run [14] (by kernel_rfl) rfl (RDs.cons rfl ?_ RDs.nil)
  refine o_append1 4 H (sz := 2) (bytes := 24) Tryz.underlying161 Tryz.typeInfo167 ⟨_, rfl, rfl⟩ rfl rfl rfl rfl rfl rfl rfl rfl rfl rfl (by omega) rfl ?_; intro v16 w16 H
  have hchk16 := hchk.snoc (show osE _ (name, T14) _ from ⟨rfl, hname⟩) rfl
  obtain ⟨av16, cv16, rfl⟩ := H.accShape (k := 4) rfl
  refine R_nil ?_
  refine N_DK (Kn.of' H hd7 SubL.nil) ?_
  refine RD_t 15 rfl (by kernel_rfl) rfl (fun _ hK => v_nilCheck rfl) ?_
  refine RD_t 16 rfl (by kernel_rfl) rfl (fun _ hK => v_fieldAddr 4 Tryz.runUnderlying163 rfl Tryz.sizeOf161 rfl rfl) ?_
  refine RD_run [17] (by kernel_rfl) rfl (RDs.cons rfl ?_ RDs.nil)
  have H := H.toFront (k := 5) rfl
  have H := H.mergeF
  refine o_store_B 1 H Tryz.sizeOf161 rfl rfl rfl rfl rfl rfl rfl rfl ?_; intro w17 H
  refine R_nil ?_
  refine N_DK (Kn.of' H hd7 SubL.nil) ?_
  refine RD_done (by kernel_rfl) ?_
  refine N_K ?_
  refine W_seq ?_
  refine W_drawK [1] 12 H (by kernel_rfl) rfl ?_; intro w18 H; have hd18 := PLe.refl Gs6
  refine RD_t 0 rfl (by kernel_rfl) rfl (fun _ hK => v_move rfl) ?_
  refine RD_t 1 rfl (by kernel_rfl) rfl (fun _ hK => v_nilCheck rfl) ?_
  refine RD_t 2 rfl (by kernel_rfl) rfl (fun _ hK => v_fieldAddr 2 Tryz.runUnderlying163 rfl Tryz.sizeOf69 rfl rfl) ?_
  refine RD_t 3 rfl (by kernel_rfl) rfl (fun _ hK => v_fieldAddr 0 Tryz.runUnderlying69 rfl Tryz.sizeOf66 rfl rfl) ?_
  refine RD_t 4 rfl (by kernel_rfl) rfl (fun _ hK => v_load_B 0 hK Tryz.isAgg66 rfl rfl rfl) ?_
  refine RD_t 5 rfl (by kernel_rfl) rfl (fun _ hK => v_move rfl) ?_
  refine RD_t 6 rfl (by kernel_rfl) rfl (fun _ hK => v_nilCheck rfl) ?_
  refine RD_t 7 rfl (by kernel_rfl) rfl (fun _ hK => v_fieldAddr 2 Tryz.runUnderlying163 rfl Tryz.sizeOf69 rfl rfl) ?_
  refine RD_t 8 rfl (by kernel_rfl) rfl (fun _ hK => v_fieldAddr 1 Tryz.runUnderlying69 rfl Tryz.sizeOf67 rfl rfl) ?_
  refine RD_t 9 rfl (by kernel_rfl) rfl (fun _ hK => v_load_B 0 hK Tryz.isAgg67 rfl rfl rfl) ?_
  refine RD_run [10] (by kernel_rfl) rfl (RDs.cons rfl ?_ RDs.nil)
  have H := H.toFront (k := 3) rfl
  have H := H.toFront (k := 3) rfl
  refine o_call Tryz.call119 rfl rfl (i_keepTree_c _ _ H.sub _ _ _ _ _ hm hS hVd _ _ hN H.lent2 hT.wf (by omega)) ?_
  rintro _ w19 ⟨G19, _, _, rfl, H19', ⟨es19, ck19, xs19, L19, rfl, rfl, hm19, hS19, hV19, hL19⟩⟩
  have hS := hS.up H19'.le
  have hN := hN.up H19'.le
  have hchk := hchk.up H19'.le
  have hNs := hNs.up H19'.le
  have hNc6 := hNc6.up H19'.le
  have hchk16 := hchk16.up H19'.le
  have hd18 := hd18.trans H19'.le
  have H := H.borrow2 H19'
  refine ⟨_, rfl, ?_⟩
  refine R_nil ?_
  refine N_DK (Kn.of' H hd18 (SubL.cons 3 rfl SubL.nil)) ?_
  refine RD_t 11 rfl (by kernel_rfl) rfl (fun _ hK => v_assign rfl) ?_
  refine RD_done (by kernel_rfl) ?_
  refine N_K ?_
  refine W_ret ?_
  refine ret_unlock 3 H muLib rfl Tryz.call115 rfl rfl (rs := [.tmp 4]) Tryz.results63 ?_; intro wu7 H
  refine ⟨[_], ⟨rfl, trivial⟩, ?_⟩
  have H := H.toFront (k := 2) rfl
  have H := H.toFront (k := 4) rfl
  have H := H.toFront (k := 3) rfl
  have H := H.toFront (k := 3) rfl
  have H := H.toFront (k := 4) rfl
  have htk := take_eq hdv (by simpa using hc3') (optI_neg.1 (by (rw [← Sp.sn_find hSn]; omega))) (by omega : d.snaps.length ≠ 6)
  have hfl := hT.flat
  have hln : sn.length + 1 = (sn ++ [(name, T14)]).length := by simp
  rw [hln] at H
  exact H.retM ⟨_, _, _, _, _, sn ++ [(name, T14)], _, _, L19, congrArg Value.bool (by (rw [htk, hfl, Option.isSome_map])), rfl, hm19, hS19, hV19, hN, hchk16, by (rw [List.map_append]; exact hNs.snoc hNc6), fun d2 h => (by (rw [htk] at h); obtain ⟨s2, h2, rfl⟩ := Option.map_eq_some_iff.1 h; exact ⟨hL19 s2 (by (rw [hfl]; exact h2)), rfl, All2.push hSn rfl (hT.strip hst14) hTv⟩)⟩
 skip
 refine o_call Tryz.call118 rfl rfl (i_clone_c _ _ (H.lendSubL [2]) _ ((H.lendN (k := 2) (ks := [2]) rfl rfl hN).at (show Nd.at_ T [] = some T from rfl)) (by omega)) ?_
 rintro _ w20 ⟨_, _, rfl, H20', ⟨F20, T20, rfl, rfl, hNC20, hst20⟩⟩
 have H := H.readersL H20'
 refine ⟨_, rfl, ?_⟩
 obtain ⟨Gs8, Fc8, H, hsl8, hNc8⟩ := Hp.shareC H hNC20 (H.apart (k := 0) (ks := [1, 2, 3, 4, 5]) rfl rfl (by intro b hb; simp only [fps, List.flatMap_cons, List.flatMap_nil, List.append_nil, List.mem_append] at hb; rcases hb with h | h | h | h | h; (· exact fpsAt_mem (k := 1) rfl rfl b (by exact h)); (· exact fpsAt_mem (k := 2) rfl rfl b (by exact h)); (· exact fpsAt_mem (k := 3) rfl rfl b (by exact h)); (· exact fpsAt_mem (k := 4) rfl rfl b (by exact h)); (· exact fpsAt_mem (k := 5) rfl rfl b (by exact h))))
 have hS := hS.up hsl8
 have hN := hN.up hsl8
 have hchk := hchk.up hsl8
 have hNs := hNs.up hsl8
 have hd7 := hd7.trans hsl8
 refine R_nil ?_
 refine N_DK (Kn.of' H hd7 SubL.nil) ?_
 refine RD_t 12 rfl (by kernel_rfl) rfl (fun _ hK => v_build bf167 rfl rfl) ?_
 refine RD_run [4, 13] (by kernel_rfl) rfl (RDs.cons rfl ?_ (RDs.cons rfl ?_ RDs.nil))
 ·skip
  refine o_load_B 1 H Tryz.isAgg161 rfl rfl rfl rfl ?_
  refine R_nil ?_
  refine N_DK (Kn.of' H hd7 SubL.nil) ?_
  refine RD_run [13] (by kernel_rfl) rfl (RDs.cons rfl ?_ RDs.nil)
  refine o_buildSlice H Tryz.underlying161 Tryz.sizeOf167 (fun w => ⟨_, Tryz.zeroValue167 w, rfl⟩) rfl rfl rfl rfl rfl rfl rfl ?_; intro b21 w21 hb21 H
  refine R_nil ?_
  refine N_DK (Kn.of' H hd7 SubL.nil) ?_
  refine RD_run [14] (by kernel_rfl) rfl (RDs.cons rfl ?_ RDs.nil)
  refine o_append1 4 H (sz := 2) (bytes := 24) Tryz.underlying161 Tryz.typeInfo167 ⟨_, rfl, rfl⟩ rfl rfl rfl rfl rfl rfl rfl rfl rfl rfl (by omega) rfl ?_; intro v22 w22 H
  have hchk22 := hchk.snoc (show osE _ (name, T20) _ from ⟨rfl, hname⟩) rfl
  obtain ⟨av22, cv22, rfl⟩ := H.accShape (k := 4) rfl
  refine R_nil ?_
  refine N_DK (Kn.of' H hd7 SubL.nil) ?_
  refine RD_t 15 rfl (by kernel_rfl) rfl (fun _ hK => v_nilCheck rfl) ?_
  refine RD_t 16 rfl (by kernel_rfl) rfl (fun _ hK => v_fieldAddr 4 Tryz.runUnderlying163 rfl Tryz.sizeOf161 rfl rfl) ?_
  refine RD_run [17] (by kernel_rfl) rfl (RDs.cons rfl ?_ RDs.nil)
  have H := H.toFront (k := 5) rfl
  have H := H.mergeF
  refine o_store_B 1 H Tryz.sizeOf161 rfl rfl rfl rfl rfl rfl rfl rfl ?_; intro w23 H
  refine R_nil ?_
  refine N_DK (Kn.of' H hd7 SubL.nil) ?_
  refine RD_done (by kernel_rfl) ?_
  refine N_K ?_
  refine W_seq ?_
  refine W_drawK [1] 12 H (by kernel_rfl) rfl ?_; intro w24 H; have hd24 := PLe.refl Gs8
  refine RD_t 0 rfl (by kernel_rfl) rfl (fun _ hK => v_move rfl) ?_
  refine RD_t 1 rfl (by kernel_rfl) rfl (fun _ hK => v_nilCheck rfl) ?_
  refine RD_t 2 rfl (by kernel_rfl) rfl (fun _ hK => v_fieldAddr 2 Tryz.runUnderlying163 rfl Tryz.sizeOf69 rfl rfl) ?_
  refine RD_t 3 rfl (by kernel_rfl) rfl (fun _ hK => v_fieldAddr 0 Tryz.runUnderlying69 rfl Tryz.sizeOf66 rfl rfl) ?_
  refine RD_t 4 rfl (by kernel_rfl) rfl (fun _ hK => v_load_B 0 hK Tryz.isAgg66 rfl rfl rfl) ?_
  refine RD_t 5 rfl (by kernel_rfl) rfl (fun _ hK => v_move rfl) ?_
  refine RD_t 6 rfl (by kernel_rfl) rfl (fun _ hK => v_nilCheck rfl) ?_
  refine RD_t 7 rfl (by kernel_rfl) rfl (fun _ hK => v_fieldAddr 2 Tryz.runUnderlying163 rfl Tryz.sizeOf69 rfl rfl) ?_
  refine RD_t 8 rfl (by kernel_rfl) rfl (fun _ hK => v_fieldAddr 1 Tryz.runUnderlying69 rfl Tryz.sizeOf67 rfl rfl) ?_
  refine RD_t 9 rfl (by kernel_rfl) rfl (fun _ hK => v_load_B 0 hK Tryz.isAgg67 rfl rfl rfl) ?_
  refine RD_run [10] (by kernel_rfl) rfl (RDs.cons rfl ?_ RDs.nil)
  have H := H.toFront (k := 3) rfl
  have H := H.toFront (k := 3) rfl
  refine o_call Tryz.call119 rfl rfl (i_keepTree_c _ _ H.sub _ _ _ _ _ hm hS hVd _ _ hN H.lent2 hT.wf (by omega)) ?_
  rintro _ w25 ⟨G25, _, _, rfl, H25', ⟨es25, ck25, xs25, L25, rfl, rfl, hm25, hS25, hV25, hL25⟩⟩
  have hS := hS.up H25'.le
  have hN := hN.up H25'.le
  have hchk := hchk.up H25'.le
  have hNs := hNs.up H25'.le
  have hNc8 := hNc8.up H25'.le
  have hchk22 := hchk22.up H25'.le
  have hd24 := hd24.trans H25'.le
  have H := H.borrow2 H25'
  refine ⟨_, rfl, ?_⟩
  refine R_nil ?_
  refine N_DK (Kn.of' H hd24 (SubL.cons 3 rfl SubL.nil)) ?_
  refine RD_t 11 rfl (by kernel_rfl) rfl (fun _ hK => v_assign rfl) ?_
  refine RD_done (by kernel_rfl) ?_
  refine N_K ?_
  refine W_ret ?_
  refine ret_unlock 3 H muLib rfl Tryz.call115 rfl rfl (rs := [.tmp 4]) Tryz.results63 ?_; intro wu9 H
  refine ⟨[_], ⟨rfl, trivial⟩, ?_⟩
  have H := H.toFront (k := 2) rfl
  have H := H.toFront (k := 4) rfl
  have H := H.toFront (k := 3) rfl
  have H := H.toFront (k := 3) rfl
  have H := H.toFront (k := 4) rfl
  have htk := take_eq hdv (by simpa using hc3') (optI_neg.1 (by (rw [← Sp.sn_find hSn]; omega))) (by omega : d.snaps.length ≠ 6)
  have hfl := hT.flat
  have hln : sn.length + 1 = (sn ++ [(name, T20)]).length := by simp
  rw [hln] at H
  exact H.retM ⟨_, _, _, _, _, sn ++ [(name, T20)], _, _, L25, congrArg Value.bool (by (rw [htk, hfl, Option.isSome_map])), rfl, hm25, hS25, hV25, hN, hchk22, by (rw [List.map_append]; exact hNs.snoc hNc8), fun d2 h => (by (rw [htk] at h); obtain ⟨s2, h2, rfl⟩ := Option.map_eq_some_iff.1 h; exact ⟨hL25 s2 (by (rw [hfl]; exact h2)), rfl, All2.push hSn rfl (hT.strip hst20) hTv⟩)⟩
 skip
 refine o_buildSlice H Tryz.underlying161 Tryz.sizeOf167 (fun w => ⟨_, Tryz.zeroValue167 w, rfl⟩) rfl rfl rfl rfl rfl rfl rfl ?_; intro b26 w26 hb26 H
 refine R_nil ?_
 refine N_DK (Kn.of' H hd7 SubL.nil) ?_
 refine RD_run [4] (by kernel_rfl) rfl (RDs.cons rfl ?_ RDs.nil)
 refine o_load_B 2 H Tryz.isAgg161 rfl rfl rfl rfl ?_
 refine R_nil ?_
 refine N_DK (Kn.of' H hd7 SubL.nil) ?_
 refine RD_run [14] (by kernel_rfl) rfl (RDs.cons rfl ?_ RDs.nil)
 refine o_append1 4 H (sz := 2) (bytes := 24) Tryz.underlying161 Tryz.typeInfo167 ⟨_, rfl, rfl⟩ rfl rfl rfl rfl rfl rfl rfl rfl rfl rfl (by omega) rfl ?_; intro v27 w27 H
 have hchk27 := hchk.snoc (show osE _ (name, T20) _ from ⟨rfl, hname⟩) rfl
 obtain ⟨av27, cv27, rfl⟩ := H.accShape (k := 4) rfl
 refine R_nil ?_
 refine N_DK (Kn.of' H hd7 SubL.nil) ?_
 refine RD_t 15 rfl (by kernel_rfl) rfl (fun _ hK => v_nilCheck rfl) ?_
 refine RD_t 16 rfl (by kernel_rfl) rfl (fun _ hK => v_fieldAddr 4 Tryz.runUnderlying163 rfl Tryz.sizeOf161 rfl rfl) ?_
 refine RD_run [17] (by kernel_rfl) rfl (RDs.cons rfl ?_ RDs.nil)
 have H := H.toFront (k := 5) rfl
 have H := H.mergeF
 refine o_store_B 1 H Tryz.sizeOf161 rfl rfl rfl rfl rfl rfl rfl rfl ?_; intro w28 H
 refine R_nil ?_
 refine N_DK (Kn.of' H hd7 SubL.nil) ?_
 refine RD_done (by kernel_rfl) ?_
 refine N_K ?_
 refine W_seq ?_
 refine W_drawK [1] 12 H (by kernel_rfl) rfl ?_; intro w29 H; have hd29 := PLe.refl Gs8
 refine RD_t 0 rfl (by kernel_rfl) rfl (fun _ hK => v_move rfl) ?_
 refine RD_t 1 rfl (by kernel_rfl) rfl (fun _ hK => v_nilCheck rfl) ?_
 refine RD_t 2 rfl (by kernel_rfl) rfl (fun _ hK => v_fieldAddr 2 Tryz.runUnderlying163 rfl Tryz.sizeOf69 rfl rfl) ?_
 refine RD_t 3 rfl (by kernel_rfl) rfl (fun _ hK => v_fieldAddr 0 Tryz.runUnderlying69 rfl Tryz.sizeOf66 rfl rfl) ?_
 refine RD_t 4 rfl (by kernel_rfl) rfl (fun _ hK => v_load_B 0 hK Tryz.isAgg66 rfl rfl rfl) ?_
 refine RD_t 5 rfl (by kernel_rfl) rfl (fun _ hK => v_move rfl) ?_
 refine RD_t 6 rfl (by kernel_rfl) rfl (fun _ hK => v_nilCheck rfl) ?_
 refine RD_t 7 rfl (by kernel_rfl) rfl (fun _ hK => v_fieldAddr 2 Tryz.runUnderlying163 rfl Tryz.sizeOf69 rfl rfl) ?_
 refine RD_t 8 rfl (by kernel_rfl) rfl (fun _ hK => v_fieldAddr 1 Tryz.runUnderlying69 rfl Tryz.sizeOf67 rfl rfl) ?_
 refine RD_t 9 rfl (by kernel_rfl) rfl (fun _ hK => v_load_B 0 hK Tryz.isAgg67 rfl rfl rfl) ?_
 refine RD_run [10] (by kernel_rfl) rfl (RDs.cons rfl ?_ RDs.nil)
 have H := H.toFront (k := 3) rfl
 have H := H.toFront (k := 3) rfl
 refine o_call Tryz.call119 rfl rfl (i_keepTree_c _ _ H.sub _ _ _ _ _ hm hS hVd _ _ hN H.lent2 hT.wf (by omega)) ?_
 rintro _ w30 ⟨G30, _, _, rfl, H30', ⟨es30, ck30, xs30, L30, rfl, rfl, hm30, hS30, hV30, hL30⟩⟩
 have hS := hS.up H30'.le
 have hN := hN.up H30'.le
 have hchk := hchk.up H30'.le
 have hNs := hNs.up H30'.le
 have hNc8 := hNc8.up H30'.le
 have hchk27 := hchk27.up H30'.le
 have hd29 := hd29.trans H30'.le
 have H := H.borrow2 H30'
 refine ⟨_, rfl, ?_⟩
 refine R_nil ?_
 refine N_DK (Kn.of' H hd29 (SubL.cons 3 rfl SubL.nil)) ?_
 refine RD_t 11 rfl (by kernel_rfl) rfl (fun _ hK => v_assign rfl) ?_
 refine RD_done (by kernel_rfl) ?_
 refine N_K ?_
 refine W_ret ?_
 refine ret_unlock 3 H muLib rfl Tryz.call115 rfl rfl (rs := [.tmp 4]) Tryz.results63 ?_; intro wu10 H
 refine ⟨[_], ⟨rfl, trivial⟩, ?_⟩
 have H := H.toFront (k := 2) rfl
 have H := H.toFront (k := 4) rfl
 have H := H.toFront (k := 3) rfl
 have H := H.toFront (k := 3) rfl
 have H := H.toFront (k := 4) rfl
 have htk := take_eq hdv (by simpa using hc3') (optI_neg.1 (by (rw [← Sp.sn_find hSn]; omega))) (by omega : d.snaps.length ≠ 6)
 have hfl := hT.flat
 have hln : sn.length + 1 = (sn ++ [(name, T20)]).length := by simp
 rw [hln] at H
 exact H.retM ⟨_, _, _, _, _, sn ++ [(name, T20)], _, _, L30, congrArg Value.bool (by (rw [htk, hfl, Option.isSome_map])), rfl, hm30, hS30, hV30, hN, hchk27, by (rw [List.map_append]; exact hNs.snoc hNc8), fun d2 h => (by (rw [htk] at h); obtain ⟨s2, h2, rfl⟩ := Option.map_eq_some_iff.1 h; exact ⟨hL30 s2 (by (rw [hfl]; exact h2)), rfl, All2.push hSn rfl (hT.strip hst20) hTv⟩)⟩
end Go.Proofs.Tst

namespace Go.Proofs.Tst
open Go Fw
theorem i_SnapTake1_c (w0 : World) (G0 : PH) (hG : PSub G0 w0) (db mb : Nat) (es : Array MapEntry) (ck : Nat) (xs : List (Int × Value)) (T : Nd) (FT : Fr) (sv : Value) (sn : List (Bs × Nd)) (c : List Value) (FSq : Fr) (d : BDisk) (hm : MapIs (Value.int .i64) es ck xs) (hS : StR G0 xs d.store) (hN : NdO 83 67 G0 T FT) (hT : Nd.TOK T d.tree) (hchk : Chk osE 2 G0 c sn) (hNs : NdsO 83 67 G0 (sn.map (·.2)) FSq) (hSn : SnOK sn d.snaps) (hdv : Sp.DiskValid d = true) (cp : Nat) (name : Bs) (hname : name.length ≤ 16777216) (hcp : PRow G0 cp 0 [str name]) (hLent : Lent w0 G0 [blk db (cl [.int .i32 0, .int .u32 0, .map (some mb), .pointer (some ⟨T.b, 0, none⟩), sv] 163), blk mb (.map es ck), frag FT, acc 167 2 sv sn.length c, frag FSq])  :
  Calls Tryz.prog 62 #[.pointer (some ⟨db, 0, none⟩), .pointer (some ⟨cp, 0, none⟩)] w0 (RetM w0 G0 (fps [blk db (cl [.int .i32 0, .int .u32 0, .map (some mb), .pointer (some ⟨T.b, 0, none⟩), sv] 163), blk mb (.map es ck), frag FT, acc 167 2 sv sn.length c, frag FSq]) (fun G' v Bs => ∃ (es' : Array MapEntry) (ck' : Nat) (xs' : List (Int × Value)) (F' : Fr) (sv' : Value) (sn' : List (Fw.Bs × Nd)) (c' : List Value) (FSq' : Fr) (L' : List BHeld), v = .bool (Sp.SnapTake d name).isSome ∧ Bs = [blk db (cl [.int .i32 0, .int .u32 0, .map (some mb), .pointer (some ⟨T.b, 0, none⟩), sv'] 163), blk mb (.map es' ck'), frag F', acc 167 2 sv' sn'.length c', frag FSq'] ∧ MapIs (Value.int .i64) es' ck' xs' ∧ StR G' xs' L' ∧ Sp.VH L' ∧ NdO 83 67 G' T F' ∧ Chk osE 2 G' c' sn' ∧ NdsO 83 67 G' (sn'.map (·.2)) FSq' ∧ ∀ d', Sp.SnapTake d name = some d' → L' = d'.store ∧ d'.tree = d.tree ∧ SnOK sn' d'.snaps)) := by
 have H : Hp w0 G0 (fps [blk db (cl [.int .i32 0, .int .u32 0, .map (some mb), .pointer (some ⟨T.b, 0, none⟩), sv] 163), blk mb (.map es ck), frag FT, acc 167 2 sv sn.length c, frag FSq]) w0 G0 [blk db (cl [.int .i32 0, .int .u32 0, .map (some mb), .pointer (some ⟨T.b, 0, none⟩), sv] 163), blk mb (.map es ck), frag FT, acc 167 2 sv sn.length c, frag FSq] := hLent.hp
 obtain ⟨adv, cdv, rfl⟩ := H.accShape (k := 3) rfl; have hVd := Sp.valid_iff.1 (Sp.dv_parts.1 hdv).1; have hTv := (Sp.dv_parts.1 hdv).2.1; have hTc := hT.cnt; have hTl := Sp.tree_len hTv; have hsnl := hSn.len; have hsn6 := (Sp.dv_parts.1 hdv).2.2.1
 refine calls_of_W (l := [.pointer (some ⟨db, 0, none⟩), .pointer (some ⟨cp, 0, none⟩)]) Tryz.func62 rfl Tryz.ntmps62 rfl ?_
 refine q2 ?_
 refine o_assign rfl rfl ?_
 refine q1 ?_
 refine o_move rfl rfl ?_
 refine o_load_P H Tryz.isAgg9 rfl rfl (hcp 0 _ rfl) ?_
 have H := H.toFront (k := 4) rfl
 have H := H.toFront (k := 4) rfl
 have H := H.toFront (k := 4) rfl
 have H := H.toFront (k := 4) rfl
 have H := H.toFront (k := 4) rfl
 refine o_call Tryz.call63 rfl rfl (i_take_c _ _ H.sub _ _ _ _ _ _ _ _ _ _ _ _ hm hS hN hT hchk hNs hSn hdv _ hname H.lent5 ) ?_
 rintro _ w1 ⟨G1, _, _, rfl, H1', ⟨es1, ck1, xs1, F1, sv1, sn1, c1, FS1, L1, rfl, rfl, hm1, hS1, hV1, hN1, hchk1, hNs1, hd1⟩⟩
 have hcp := hcp.up H1'.le
 have hS := hS.up H1'.le
 have hN := hN.up H1'.le
 have hchk := hchk.up H1'.le
 have hNs := hNs.up H1'.le
 have H := H.borrow5 H1'
 obtain ⟨avAd, cvAd, rfl⟩ := H.accShape (k := 3) rfl
 refine ⟨_, rfl, ?_⟩
 refine o_assign rfl rfl ?_
 refine q3 ?_
 refine W_ret ?_
 refine ret_gen (rs := [.tmp 3]) (vs := [_]) Tryz.results62 ⟨rfl, trivial⟩ ?_
 have H := H.toFront (k := 4) rfl
 have H := H.toFront (k := 4) rfl
 have H := H.toFront (k := 4) rfl
 have H := H.toFront (k := 4) rfl
 have H := H.toFront (k := 4) rfl
 exact H.retM ⟨_, _, _, _, _, _, _, _, _, rfl, rfl, hm1, hS1, hV1, hN1, hchk1, hNs1, hd1⟩
end Go.Proofs.Tst

namespace Go.Proofs.Tst
open Go Fw
theorem i_changed_take_c (w0 : World) (G0 : PH) (hG : PSub G0 w0) (cd : List Value) (d : BDisk) (hd : diskE G0 d cd) (cp : Nat) (name : Bs) (hname : name.length ≤ 16777216) (hcp : PRow G0 cp 0 [str name])  :
  Calls Tryz.prog 61 #[.agg cd.toArray, .func (.func 62) #[] #[.pointer (some ⟨cp, 0, none⟩)]] w0 (RetN w0 G0 (fun v Bs => ∃ (v1 v2 v3 : Value) (F1 F2 F3 : Fr), v = .tuple #[.agg #[v1, v2, v3], .bool (Sp.SnapTake d name).isSome] ∧ Bs = [frag F1, frag F2, frag F3] ∧ OHs F1 v1 ((Sp.SnapTake d name).getD ⟨[], [], []⟩).store ∧ OIs F2 v2 ((Sp.SnapTake d name).getD ⟨[], [], []⟩).tree ∧ OSn F3 v3 ((Sp.SnapTake d name).getD ⟨[], [], []⟩).snaps)) := by
 obtain ⟨a1, m1, c1, a1', m1', c1', a1'', m1'', c1'', rfl, hr1, hr1', hr1''⟩ := hd; have hn_hr1 := hr1.len; have hx_hr1 : _ ≤ 1099511627776 := hr1.lim; have hn_hr1q := hr1'.len; have hx_hr1q : _ ≤ 1099511627776 := hr1'.lim; have hn_hr1qq := hr1''.len; have hx_hr1qq : _ ≤ 1099511627776 := hr1''.lim
 have H := Hp.init hG
 refine calls_of_W (l := [_, .func (.func 62) #[] #[.pointer (some ⟨cp, 0, none⟩)]]) Tryz.func61 rfl Tryz.ntmps61 rfl ?_
 refine q2 ?_
 refine o_box H rfl rfl rfl ?_; intro b2 w2 hb2 H
 refine o_alloc H Tryz.zeroValue53 rfl rfl ?_; intro b3 w3 hb3 H
 refine o_assign rfl rfl ?_
 refine q1 ?_
 refine o_loadagg_B 1 H Tryz.isAgg53 Tryz.sizeOf53 rfl rfl rfl rfl rfl ?_
 refine o_call Tryz.call112 rfl rfl (i_newDisk_c _ _ H.sub _ _ ⟨_, _, _, _, _, _, _, _, _, rfl, hr1, hr1', hr1''⟩ H.lent0 ) ?_
 rintro _ w4 ⟨G4, _, _, rfl, H4', ⟨rfl, rfl, hnd4⟩ | ⟨db4, mb4, es4, ck4, xs4, T4, F4, sv4, sn4, c4, FS4, rfl, rfl, hm4, hS4, hN4, hT4, hchk4, hNs4, hSn4, hdv4⟩⟩
 ·skip
  have hr1 := hr1.up H4'.le
  have hr1' := hr1'.up H4'.le
  have hr1'' := hr1''.up H4'.le
  have hcp := hcp.up H4'.le
  have H := H.borrow0 H4'
  refine ⟨_, rfl, ?_⟩
  refine o_move rfl rfl ?_
  refine o_extract rfl rfl rfl ?_
  refine o_extract rfl rfl rfl ?_
  refine o_assign rfl rfl ?_
  refine o_assign rfl rfl ?_
  refine q3 ?_
  refine W_seq ?_
  refine q2 ?_
  refine o_move rfl rfl ?_
  refine o_not rfl rfl ?_
  refine o_move rfl rfl ?_
  refine R_pass rfl (yl_ne rfl rfl rfl) ?_
  refine R_pass rfl (yl_ne rfl rfl rfl) ?_
  refine R_pass rfl (yl_ne rfl rfl rfl) ?_
  refine R_pass rfl (yl_ne rfl rfl rfl) ?_
  refine o_pick_t rfl rfl rfl ?_
  refine q3 ?_
  refine W_true rfl ?_
  refine q2 ?_
  refine o_build bf53 rfl rfl rfl ?_
  refine o_store_B 0 H Tryz.sizeOf53 rfl rfl rfl rfl rfl rfl rfl rfl ?_; intro w5 H
  refine o_assign rfl rfl ?_
  refine q3 ?_
  refine W_ret ?_
  refine N_K_ret ?_
  refine ret_gen (rs := [.cell 4 53, .tmp 5]) (vs := [_, _]) Tryz.results61 ⟨⟨_, rfl, load_blk 0 H Tryz.isAgg53 Tryz.sizeOf53 rfl rfl rfl⟩, rfl, trivial⟩ ?_
  have H := H.del (k := 0) rfl
  have H := H.del (k := 0) rfl
  have hno : Sp.SnapTake d name = none := by simp [Sp.SnapTake, hnd4]
  have H := (((H.addF).addF).addF).forget hG (by simp)
  refine ⟨_, _, rfl, H, .slice none 0 0, .slice none 0 0, .slice none 0 0, [], [], [], ?_, rfl, ?_, ?_, ?_⟩
  ·(rw [hno]; rfl)
  ·(rw [hno]; exact oh_nil)
  ·(rw [hno]; exact oi_nil)
  (rw [hno]; exact os_nil)
 skip
 have hr1 := hr1.up H4'.le
 have hr1' := hr1'.up H4'.le
 have hr1'' := hr1''.up H4'.le
 have hcp := hcp.up H4'.le
 have H := H.borrow0 H4'
 obtain ⟨avAd, cvAd, rfl⟩ := H.accShape (k := 3) rfl
 refine ⟨_, rfl, ?_⟩
 refine o_move rfl rfl ?_
 refine o_extract rfl rfl rfl ?_
 refine o_extract rfl rfl rfl ?_
 refine o_assign rfl rfl ?_
 refine o_assign rfl rfl ?_
 refine q3 ?_
 refine W_seq ?_
 refine q2 ?_
 refine o_move rfl rfl ?_
 refine o_not rfl rfl ?_
 refine o_move rfl rfl ?_
 refine R_guard (yl rfl rfl) ?_
 refine o_move rfl rfl ?_
 refine R_guard (yl rfl rfl) ?_
 refine o_move rfl rfl ?_
 refine R_guard (yl rfl rfl) ?_
 have H := H.toFront (k := 4) rfl
 have H := H.toFront (k := 4) rfl
 have H := H.toFront (k := 4) rfl
 have H := H.toFront (k := 4) rfl
 have H := H.toFront (k := 4) rfl
 refine o_callc Tryz.call62 rfl rfl rfl (i_SnapTake1_c _ _ H.sub _ _ _ _ _ _ _ _ _ _ _ _ hm4 hS4 hN4 hT4 hchk4 hNs4 hSn4 hdv4 _ _ hname hcp H.lent5 ) ?_
 rintro _ w6 ⟨G6, _, _, rfl, H6', ⟨es6, ck6, xs6, F6, sv6, sn6, c6, FS6, L6, rfl, rfl, hm6, hS6, hV6, hN6, hchk6, hNs6, hd6⟩⟩
 have hr1 := hr1.up H6'.le
 have hr1' := hr1'.up H6'.le
 have hr1'' := hr1''.up H6'.le
 have hcp := hcp.up H6'.le
 have hS4 := hS4.up H6'.le
 have hN4 := hN4.up H6'.le
 have hchk4 := hchk4.up H6'.le
 have hNs4 := hNs4.up H6'.le
 have H := H.borrow5 H6'
 obtain ⟨avAd, cvAd, rfl⟩ := H.accShape (k := 3) rfl
 refine ⟨_, rfl, ?_⟩
 refine R_guard (yl rfl rfl) ?_
 refine o_not rfl rfl ?_
 refine o_pick_f rfl rfl rfl ?_
 refine q3 ?_
 refine W_cond rfl ?_ ?_
 ·intro hc7
  try simp only [nrm] at hc7
  refine q2 ?_
  refine o_build bf53 rfl rfl rfl ?_
  refine o_store_B 5 H Tryz.sizeOf53 rfl rfl rfl rfl rfl rfl rfl rfl ?_; intro w8 H
  refine o_assign rfl rfl ?_
  refine q3 ?_
  refine W_ret ?_
  refine N_K_ret ?_
  refine ret_gen (rs := [.cell 4 53, .tmp 5]) (vs := [_, _]) Tryz.results61 ⟨⟨_, rfl, load_blk 5 H Tryz.isAgg53 Tryz.sizeOf53 rfl rfl rfl⟩, rfl, trivial⟩ ?_
  have H := H.del (k := 0) rfl
  have H := H.del (k := 0) rfl
  have H := H.del (k := 0) rfl
  have H := H.del (k := 0) rfl
  have H := H.del (k := 0) rfl
  have H := H.del (k := 0) rfl
  have H := H.del (k := 0) rfl
  have hno : Sp.SnapTake d name = none := by simpa using hc7
  have H := (((H.addF).addF).addF).forget hG (by simp)
  refine ⟨_, _, rfl, H, .slice none 0 0, .slice none 0 0, .slice none 0 0, [], [], [], ?_, rfl, ?_, ?_, ?_⟩
  ·(rw [hno]; rfl)
  ·(rw [hno]; exact oh_nil)
  ·(rw [hno]; exact oi_nil)
  (rw [hno]; exact os_nil)
 intro hc7'
 try simp only [nrm] at hc7'
 obtain ⟨d2, hd2⟩ := Option.isSome_iff_exists.1 (show (Sp.SnapTake d name).isSome = true by simpa using hc7')
 obtain ⟨hL2, ht2, hsn2⟩ := hd6 d2 hd2; subst hL2
 have hT2 : Nd.TOK T4 d2.tree := by (rw [ht2]; exact hT4)
 refine W_skip ?_
 refine N_K ?_
 refine q2 ?_
 refine o_move rfl rfl ?_
 have H := H.toFront (k := 4) rfl
 have H := H.toFront (k := 4) rfl
 have H := H.toFront (k := 4) rfl
 have H := H.toFront (k := 4) rfl
 have H := H.toFront (k := 4) rfl
 refine o_call Tryz.call113 rfl rfl (i_disk_c _ _ H.sub _ _ _ _ _ _ _ _ _ _ _ _ hm6 hS6 hN6 hT2 hchk6 hNs6 hsn2 hV6 (take_len hdv4 hd2) H.lent5 ) ?_
 rintro _ w9 ⟨G9, _, _, rfl, H9', ⟨u19, u29, u39, D19, D29, D39, rfl, rfl, ho19, ho29, ho39⟩⟩
 have hr1 := hr1.up H9'.le
 have hr1' := hr1'.up H9'.le
 have hr1'' := hr1''.up H9'.le
 have hcp := hcp.up H9'.le
 have hS4 := hS4.up H9'.le
 have hN4 := hN4.up H9'.le
 have hchk4 := hchk4.up H9'.le
 have hNs4 := hNs4.up H9'.le
 have hS6 := hS6.up H9'.le
 have hN6 := hN6.up H9'.le
 have hchk6 := hchk6.up H9'.le
 have hNs6 := hNs6.up H9'.le
 have H := H.borrow5 H9'
 obtain ⟨x19, p19⟩ := ho19
 obtain ⟨a19, c19, rfl⟩ := OwnS.shape p19
 obtain ⟨x29, p29⟩ := ho29
 obtain ⟨a29, c29, rfl⟩ := OwnS.shape p29
 obtain ⟨x39, p39⟩ := ho39
 obtain ⟨a39, c39, rfl⟩ := OwnS.shape p39
 refine ⟨_, rfl, ?_⟩
 refine o_store_B 3 H Tryz.sizeOf53 rfl rfl rfl rfl rfl rfl rfl rfl ?_; intro w10 H
 refine o_assign rfl rfl ?_
 refine q3 ?_
 refine W_ret ?_
 refine ret_gen (rs := [.cell 4 53, .tmp 5]) (vs := [_, _]) Tryz.results61 ⟨⟨_, rfl, load_blk 3 H Tryz.isAgg53 Tryz.sizeOf53 rfl rfl rfl⟩, rfl, trivial⟩ ?_
 have H := H.del (k := 3) rfl
 have H := H.del (k := 3) rfl
 have H := H.toFront (k := 2) rfl
 have H := H.toFront (k := 2) rfl
 have H := H.toFront (k := 2) rfl
 have H := H.forget hG (by simp)
 refine ⟨_, _, rfl, H, .slice a19 d2.store.length c19, .slice a29 d2.tree.length c29, .slice a39 d2.snaps.length c39, D19, D29, D39, ?_, rfl, ?_, ?_, ?_⟩
 ·(rw [hd2]; rfl)
 ·(rw [hd2]; exact ⟨_, p19⟩)
 ·(rw [hd2]; exact ⟨_, p29⟩)
 (rw [hd2]; exact ⟨_, p39⟩)
end Go.Proofs.Tst

namespace Go.Proofs.Tst
open Go Fw
theorem i_SnapTake_c (w0 : World) (G0 : PH) (hG : PSub G0 w0) (cd : List Value) (d : BDisk) (hd : diskE G0 d cd) (name : Bs) (hname : name.length ≤ 16777216)  :
  Calls Tryz.prog 22 #[.agg cd.toArray, str name] w0 (RetN w0 G0 (fun v Bs => ∃ (v1 v2 v3 : Value) (F1 F2 F3 : Fr), v = .tuple #[.agg #[v1, v2, v3], .bool (Sp.SnapTake d name).isSome] ∧ Bs = [frag F1, frag F2, frag F3] ∧ OHs F1 v1 ((Sp.SnapTake d name).getD ⟨[], [], []⟩).store ∧ OIs F2 v2 ((Sp.SnapTake d name).getD ⟨[], [], []⟩).tree ∧ OSn F3 v3 ((Sp.SnapTake d name).getD ⟨[], [], []⟩).snaps)) := by
 obtain ⟨a1, m1, c1, a1', m1', c1', a1'', m1'', c1'', rfl, hr1, hr1', hr1''⟩ := hd; have hn_hr1 := hr1.len; have hx_hr1 : _ ≤ 1099511627776 := hr1.lim; have hn_hr1q := hr1'.len; have hx_hr1q : _ ≤ 1099511627776 := hr1'.lim; have hn_hr1qq := hr1''.len; have hx_hr1qq : _ ≤ 1099511627776 := hr1''.lim
 have H := Hp.init hG
 refine calls_of_W (l := [_, str name]) Tryz.func22 rfl Tryz.ntmps22 rfl ?_
 refine q2 ?_
 refine o_box H rfl rfl rfl ?_; intro b2 w2 hb2 H
 refine o_box H rfl rfl rfl ?_; intro b3 w3 hb3 H
 refine o_alloc H Tryz.zeroValue53 rfl rfl ?_; intro b4 w4 hb4 H
 refine o_assign rfl rfl ?_
 refine q1 ?_
 refine o_loadagg_B 2 H Tryz.isAgg53 Tryz.sizeOf53 rfl rfl rfl rfl rfl ?_
 refine o_makefn1 rfl rfl ?_
 refine o_call Tryz.call61 rfl rfl (i_changed_take_c _ _ (H.lendSubL [1]) _ _ ⟨_, _, _, _, _, _, _, _, _, rfl, (hr1.up (PPlus.le _ _ _)), (hr1'.up (PPlus.le _ _ _)), (hr1''.up (PPlus.le _ _ _))⟩ _ _ hname (prow_blk (H.lendPredL (k := 1) (ks := [1]) rfl rfl)) ) ?_
 rintro _ w5 ⟨_, _, rfl, H5', ⟨u15, u25, u35, E15, E25, E35, rfl, rfl, ho15, ho25, ho35⟩⟩
 have H := H.readersL H5'
 obtain ⟨x15, p15⟩ := ho15
 obtain ⟨a15, c15, rfl⟩ := OwnS.shape p15
 obtain ⟨x25, p25⟩ := ho25
 obtain ⟨a25, c25, rfl⟩ := OwnS.shape p25
 obtain ⟨x35, p35⟩ := ho35
 obtain ⟨a35, c35, rfl⟩ := OwnS.shape p35
 refine ⟨_, rfl, ?_⟩
 refine o_extract rfl rfl rfl ?_
 refine o_extract rfl rfl rfl ?_
 refine o_store_B 3 H Tryz.sizeOf53 rfl rfl rfl rfl rfl rfl rfl rfl ?_; intro w6 H
 refine o_assign rfl rfl ?_
 refine q3 ?_
 refine W_ret ?_
 refine ret_gen (rs := [.cell 4 53, .tmp 5]) (vs := [_, _]) Tryz.results22 ⟨⟨_, rfl, load_blk 3 H Tryz.isAgg53 Tryz.sizeOf53 rfl rfl rfl⟩, rfl, trivial⟩ ?_
 have H := H.del (k := 3) rfl
 have H := H.del (k := 3) rfl
 have H := H.del (k := 3) rfl
 have H := H.toFront (k := 2) rfl
 have H := H.toFront (k := 2) rfl
 have H := H.toFront (k := 2) rfl
 exact ⟨_, _, rfl, H, .slice a15 ((Sp.SnapTake d name).getD ⟨[], [], []⟩).store.length c15, .slice a25 ((Sp.SnapTake d name).getD ⟨[], [], []⟩).tree.length c25, .slice a35 ((Sp.SnapTake d name).getD ⟨[], [], []⟩).snaps.length c35, E15, E25, E35, rfl, rfl, ⟨_, p15⟩, ⟨_, p25⟩, ⟨_, p35⟩⟩
end Go.Proofs.Tst

namespace Go.Proofs.Tst
open Go Fw
theorem w_szIntS_c (w0 : World) (G0 : PH) (hG : PSub G0 w0) (va : Value) (a : List (Int)) (ha : RdI G0 va a) (left : Int) (hl : -1 ≤ left ∧ left ≤ 1099511627776) :
  Calls Tryz.prog 150 #[va, .int .i64 left] w0 (RetV w0 (fun v => ∃ r : Int, v = .int .i64 r ∧ (r = -1 ∨ (0 ≤ r ∧ r + (List.length a : Int) ≤ left)))) := by
 obtain ⟨aa, ka, rfl⟩ := ha.shape
 have hlima : a.length ≤ 1099511627776 := ha.lim
 have H := Hp.init hG
 refine calls_of_W (l := [.slice aa a.length ka, .int .i64 left]) Tryz.func150 rfl Tryz.ntmps150 rfl ?_
 refine q2 ?_
 refine o_assign rfl rfl ?_
 refine q1 ?_
 refine o_move rfl rfl ?_
 refine o_move rfl rfl ?_
 refine o_len_slice Tryz.underlying27 rfl rfl ?_
 refine o_sub rfl rfl rfl ⟨by omega, by omega⟩ ?_
 refine o_assign rfl rfl ?_
 refine q3 ?_
 refine W_seq ?_
 refine q2 ?_
 refine o_move rfl rfl ?_
 refine o_lss rfl rfl rfl ?_
 refine q3 ?_
 refine W_cond rfl ?_ ?_
 ·intro hc2
  try simp only [nrm] at hc2
  refine q2 ?_
  refine o_assign rfl rfl ?_
  refine q3 ?_
  refine W_ret ?_
  refine N_K_ret ?_
  refine ret_gen (rs := [.tmp 4]) (vs := [_]) Tryz.results150 ⟨rfl, trivial⟩ ?_
  exact H.retV ⟨_, rfl, by first | omega | (simp only [wHeld, wItem, wSnap, wHelds, wItems, wSnaps, wDisk] at *; omega)⟩
 intro hc2'
 try simp only [nrm] at hc2'
 refine W_skip ?_
 refine N_K ?_
 refine q2 ?_
 refine o_move rfl rfl ?_
 refine o_assign rfl rfl ?_
 refine q3 ?_
 refine W_ret ?_
 refine ret_gen (rs := [.tmp 4]) (vs := [_]) Tryz.results150 ⟨rfl, trivial⟩ ?_
 exact H.retV ⟨_, rfl, by first | omega | (simp only [wHeld, wItem, wSnap, wHelds, wItems, wSnaps, wDisk] at *; omega)⟩
theorem w_szHeld_c (w0 : World) (G0 : PH) (hG : PSub G0 w0) (ca : List Value) (a : BHeld) (ha : heldE G0 a ca) (left : Int) (hl : -1 ≤ left ∧ left ≤ 1099511627776) :
  Calls Tryz.prog 102 #[.agg ca.toArray, .int .i64 left] w0 (RetV w0 (fun v => ∃ r : Int, v = .int .i64 r ∧ (r = -1 ∨ (0 ≤ r ∧ r + (wHeld a : Int) ≤ left)))) := by
 obtain ⟨a1, m1, c1, rfl, hi1, hr1, hj1⟩ := ha; have hn_hr1 := hr1.len; have hx_hr1 : _ ≤ 1099511627776 := hr1.lim
 have H := Hp.init hG
 refine calls_of_W (l := [_, .int .i64 left]) Tryz.func102 rfl Tryz.ntmps102 rfl ?_
 refine q2 ?_
 refine o_box H rfl rfl rfl ?_; intro b2 w2 hb2 H
 refine o_assign rfl rfl ?_
 refine q1 ?_
 refine o_fieldAddr 1 Tryz.runUnderlying140 rfl Tryz.sizeOf27 rfl rfl rfl ?_
 refine o_load_B 0 H Tryz.isAgg27 rfl rfl rfl rfl ?_
 refine o_move rfl rfl ?_
 refine o_call Tryz.call150 rfl rfl (w_szIntS_c _ _ H.sub _ _ hr1 _ ⟨by omega, by omega⟩) ?_
 rintro _ w3 ⟨_, rfl, ew3, ⟨r3, rfl, hra3⟩⟩
 skip
 have H := H.step ew3; refine ⟨_, rfl, ?_⟩
 refine o_assign rfl rfl ?_
 refine q3 ?_
 refine W_seq ?_
 refine q2 ?_
 refine o_move rfl rfl ?_
 refine o_lss rfl rfl rfl ?_
 refine q3 ?_
 refine W_cond rfl ?_ ?_
 ·intro hc4
  try simp only [nrm] at hc4
  refine q2 ?_
  refine o_assign rfl rfl ?_
  refine q3 ?_
  refine W_ret ?_
  refine N_K_ret ?_
  refine ret_gen (rs := [.tmp 4]) (vs := [_]) Tryz.results102 ⟨rfl, trivial⟩ ?_
  exact H.retV ⟨_, rfl, by first | omega | (simp only [wHeld, wItem, wSnap, wHelds, wItems, wSnaps, wDisk] at *; omega)⟩
 intro hc4'
 try simp only [nrm] at hc4'
 refine W_skip ?_
 refine N_K ?_
 refine q2 ?_
 refine o_move rfl rfl ?_
 refine o_assign rfl rfl ?_
 refine q3 ?_
 refine W_ret ?_
 refine ret_gen (rs := [.tmp 4]) (vs := [_]) Tryz.results102 ⟨rfl, trivial⟩ ?_
 exact H.retV ⟨_, rfl, by first | omega | (simp only [wHeld, wItem, wSnap, wHelds, wItems, wSnaps, wDisk] at *; omega)⟩
theorem w_szHeldS_c (w0 : World) (G0 : PH) (hG : PSub G0 w0) (va : Value) (a : List (BHeld)) (ha : RdH G0 va a) (left : Int) (hl : -1 ≤ left ∧ left ≤ 1099511627776) :
  Calls Tryz.prog 49 #[va, .int .i64 left] w0 (RetV w0 (fun v => ∃ r : Int, v = .int .i64 r ∧ (r = -1 ∨ (0 ≤ r ∧ r + (wHelds a : Int) ≤ left)))) := by
 obtain ⟨aa, ka, rfl⟩ := ha.shape
 have hlima : a.length ≤ 1099511627776 := ha.lim
 have H := Hp.init hG
 refine calls_of_W (l := [.slice aa a.length ka, .int .i64 left]) Tryz.func49 rfl Tryz.ntmps49 rfl ?_
 refine q2 ?_
 refine o_assign rfl rfl ?_
 refine q1 ?_
 refine o_move rfl rfl ?_
 refine o_move rfl rfl ?_
 refine o_len_slice Tryz.underlying45 rfl rfl ?_
 refine o_sub rfl rfl rfl ⟨by omega, by omega⟩ ?_
 refine o_assign rfl rfl ?_
 refine q3 ?_
 refine W_seq ?_
 refine q2 ?_
 refine o_move rfl rfl ?_
 refine o_lss rfl rfl rfl ?_
 refine q3 ?_
 refine W_cond rfl ?_ ?_
 ·intro hc2
  try simp only [nrm] at hc2
  refine q2 ?_
  refine o_assign rfl rfl ?_
  refine q3 ?_
  refine W_ret ?_
  refine N_K_ret ?_
  refine ret_gen (rs := [.tmp 4]) (vs := [_]) Tryz.results49 ⟨rfl, trivial⟩ ?_
  exact H.retV ⟨_, rfl, by first | omega | (simp only [wHeld, wItem, wSnap, wHelds, wItems, wSnaps, wDisk] at *; omega)⟩
 intro hc2'
 try simp only [nrm] at hc2'
 refine W_skip ?_
 refine N_K ?_
 refine W_seq ?_
 refine q2 ?_
 refine o_assign rfl rfl ?_
 refine q3 ?_
 refine W_block ?_
 refine W_loop (hf := (Sub.cons (t := 0) rfl Sub.nil)) (J := fun M w m => ∃ (k : Nat) (lf : Int) (G : PH), M = [(5, .int .i64 (k : Int)), (1, .int .i64 lf)] ∧ PLe G0 G ∧ Hp w0 G0 [] w G [] ∧ (k ≤ a.length ∧ 0 ≤ lf ∧ lf + (a.length : Int) + (cnt wHeld (a.take k) : Int) ≤ left) ∧ m = (a.length - k)) (h0 := ⟨0, (left - (a.length : Int)), _, rfl, PLe.refl _, H, ?inv, rfl⟩) (hM := ?hM) (round := ?round)
 case hM => (repeat (first | exact Sub.nil | refine Sub.cons rfl ?_))
 case inv => exact ⟨by omega, by omega, by (simp only [List.take_zero, cnt]; omega)⟩
 case round =>
  rintro _ w3 _ ⟨k, lf, G3, rfl, hle3, H, hinv3, rfl⟩
  have ha := ha.up hle3
  obtain ⟨hk, hlf1, hlf2⟩ := hinv3
  refine W_seq ?_
  refine q2 ?_
  refine o_move rfl rfl ?_
  refine o_move rfl rfl ?_
  refine o_len_slice Tryz.underlying45 rfl rfl ?_
  refine o_lss rfl rfl rfl ?_
  refine q3 ?_
  refine W_cond rfl ?_ ?_
  ·intro hc4
   try simp only [nrm] at hc4
   refine W_skip ?_
   refine N_K ?_
   refine W_seq ?_
   refine W_block ?_
   refine q2 ?_
   refine o_move rfl rfl ?_
   refine o_move rfl rfl ?_
   refine o_index_P k ha Tryz.underlying45 Tryz.sizeOf140 rfl rfl rfl rfl (by first | omega | (simp; omega)) ?_; intro b5 o5 z5 q5 hz5 hE5 hrow5
   obtain ⟨a5, m5, c5, rfl, hi5, hr5, hj5⟩ := hE5; have hn_hr5 := hr5.len; have hx_hr5 : _ ≤ 1099511627776 := hr5.lim
   refine o_loadagg_P H Tryz.isAgg140 Tryz.sizeOf140 rfl rfl hrow5 rfl ?_
   refine o_move rfl rfl ?_
   refine o_call Tryz.call102 rfl rfl (w_szHeld_c _ _ H.sub _ _ ⟨_, _, _, rfl, ⟨by first | omega | (dsimp only; omega), by first | omega | (dsimp only; omega)⟩, hr5, ⟨by first | omega | (dsimp only; omega), by first | omega | (dsimp only; omega)⟩⟩ _ ⟨by omega, by omega⟩) ?_
   rintro _ w6 ⟨_, rfl, ew6, ⟨r6, rfl, hra6⟩⟩
   skip
   have H := H.step ew6; refine ⟨_, rfl, ?_⟩
   refine o_assign rfl rfl ?_
   refine q1 ?_
   refine o_move rfl rfl ?_
   refine o_lss rfl rfl rfl ?_
   refine q3 ?_
   refine W_cond rfl ?_ ?_
   ·intro hc7
    try simp only [nrm] at hc7
    refine q2 ?_
    refine o_assign rfl rfl ?_
    refine q3 ?_
    refine W_ret ?_
    refine N_B_ret ?_
    refine N_K_ret ?_
    refine N_LP_ret ?_
    refine N_B_ret ?_
    refine N_K_ret ?_
    refine ret_gen (rs := [.tmp 4]) (vs := [_]) Tryz.results49 ⟨rfl, trivial⟩ ?_
    exact H.retV ⟨_, rfl, by first | omega | (simp only [wHeld, wItem, wSnap, wHelds, wItems, wSnaps, wDisk] at *; omega)⟩
   intro hc7'
   try simp only [nrm] at hc7'
   refine W_skip ?_
   refine N_B ?_
   refine N_K ?_
   refine W_region ?_
   refine o_move rfl rfl ?_
   refine o_add rfl rfl rfl ⟨by omega, by omega⟩ ?_
   refine o_assign rfl rfl ?_
   refine R_nil ?_
   refine N_LP (hJ := ⟨k + 1, r6, _, rfl, hle3, H, ?inv, rfl⟩) (hM := ?hM) (hf := ?hf) (hm := ?hm)
   case hM => (repeat (first | exact Sub.nil | refine Sub.cons rfl ?_))
   case hf => (repeat (first | exact Sub.nil | refine Sub.cons rfl ?_))
   case hm => omega
   case inv => exact ⟨by omega, by omega, by (have hcs := cnt_succ (c := wHeld) hz5; omega)⟩
  intro hc4'
  try simp only [nrm] at hc4'
  refine W_exit ?_
  refine N_K_exit ?_
  refine N_LP_exit ?_
  refine N_B_same ?_
  refine N_K ?_
  refine q2 ?_
  refine o_move rfl rfl ?_
  refine o_assign rfl rfl ?_
  refine q3 ?_
  refine W_ret ?_
  refine ret_gen (rs := [.tmp 4]) (vs := [_]) Tryz.results49 ⟨rfl, trivial⟩ ?_
  have hce := cnt_end (c := wHeld) (show k = a.length by omega)
  exact H.retV ⟨_, rfl, by first | omega | (simp only [wHeld, wItem, wSnap, wHelds, wItems, wSnaps, wDisk] at *; omega)⟩
theorem w_szItem_c (w0 : World) (G0 : PH) (hG : PSub G0 w0) (ca : List Value) (a : BItem) (ha : itemE G0 a ca) (left : Int) (hl : -1 ≤ left ∧ left ≤ 1099511627776) :
  Calls Tryz.prog 103 #[.agg ca.toArray, .int .i64 left] w0 (RetV w0 (fun v => ∃ r : Int, v = .int .i64 r ∧ (r = -1 ∨ (0 ≤ r ∧ r + (wItem a : Int) ≤ left)))) := by
 obtain ⟨a1, m1, c1, rfl, hi1, hr1⟩ := ha; have hy_hi1 : _ ≤ 16777216 := hi1; have hn_hr1 := hr1.len; have hx_hr1 : _ ≤ 1099511627776 := hr1.lim
 have H := Hp.init hG
 refine calls_of_W (l := [_, .int .i64 left]) Tryz.func103 rfl Tryz.ntmps103 rfl ?_
 refine q2 ?_
 refine o_box H rfl rfl rfl ?_; intro b2 w2 hb2 H
 refine o_assign rfl rfl ?_
 refine q1 ?_
 refine o_move rfl rfl ?_
 refine o_fieldAddr 0 Tryz.runUnderlying142 rfl Tryz.sizeOf9 rfl rfl rfl ?_
 refine o_load_B 0 H Tryz.isAgg9 rfl rfl rfl rfl ?_
 refine o_len_str Tryz.underlying9 rfl rfl ?_
 refine o_sub rfl rfl rfl ⟨by omega, by omega⟩ ?_
 refine o_assign rfl rfl ?_
 refine q3 ?_
 refine W_seq ?_
 refine q2 ?_
 refine o_move rfl rfl ?_
 refine o_lss rfl rfl rfl ?_
 refine q3 ?_
 refine W_cond rfl ?_ ?_
 ·intro hc4
  try simp only [nrm] at hc4
  refine q2 ?_
  refine o_assign rfl rfl ?_
  refine q3 ?_
  refine W_ret ?_
  refine N_K_ret ?_
  refine ret_gen (rs := [.tmp 4]) (vs := [_]) Tryz.results103 ⟨rfl, trivial⟩ ?_
  exact H.retV ⟨_, rfl, by first | omega | (simp only [wHeld, wItem, wSnap, wHelds, wItems, wSnaps, wDisk] at *; omega)⟩
 intro hc4'
 try simp only [nrm] at hc4'
 refine W_skip ?_
 refine N_K ?_
 refine q2 ?_
 refine o_fieldAddr 2 Tryz.runUnderlying142 rfl Tryz.sizeOf27 rfl rfl rfl ?_
 refine o_load_B 0 H Tryz.isAgg27 rfl rfl rfl rfl ?_
 refine o_move rfl rfl ?_
 refine o_call Tryz.call150 rfl rfl (w_szIntS_c _ _ H.sub _ _ hr1 _ ⟨by omega, by omega⟩) ?_
 rintro _ w5 ⟨_, rfl, ew5, ⟨r5, rfl, hra5⟩⟩
 skip
 have H := H.step ew5; refine ⟨_, rfl, ?_⟩
 refine o_assign rfl rfl ?_
 refine q3 ?_
 refine W_seq ?_
 refine q2 ?_
 refine o_move rfl rfl ?_
 refine o_lss rfl rfl rfl ?_
 refine q3 ?_
 refine W_cond rfl ?_ ?_
 ·intro hc6
  try simp only [nrm] at hc6
  refine q2 ?_
  refine o_assign rfl rfl ?_
  refine q3 ?_
  refine W_ret ?_
  refine N_K_ret ?_
  refine ret_gen (rs := [.tmp 4]) (vs := [_]) Tryz.results103 ⟨rfl, trivial⟩ ?_
  exact H.retV ⟨_, rfl, by first | omega | (simp only [wHeld, wItem, wSnap, wHelds, wItems, wSnaps, wDisk] at *; omega)⟩
 intro hc6'
 try simp only [nrm] at hc6'
 refine W_skip ?_
 refine N_K ?_
 refine q2 ?_
 refine o_move rfl rfl ?_
 refine o_assign rfl rfl ?_
 refine q3 ?_
 refine W_ret ?_
 refine ret_gen (rs := [.tmp 4]) (vs := [_]) Tryz.results103 ⟨rfl, trivial⟩ ?_
 exact H.retV ⟨_, rfl, by first | omega | (simp only [wHeld, wItem, wSnap, wHelds, wItems, wSnaps, wDisk] at *; omega)⟩
theorem w_szItemS_c (w0 : World) (G0 : PH) (hG : PSub G0 w0) (va : Value) (a : List (BItem)) (ha : RdItems G0 va a) (left : Int) (hl : -1 ≤ left ∧ left ≤ 1099511627776) :
  Calls Tryz.prog 50 #[va, .int .i64 left] w0 (RetV w0 (fun v => ∃ r : Int, v = .int .i64 r ∧ (r = -1 ∨ (0 ≤ r ∧ r + (wItems a : Int) ≤ left)))) := by
 obtain ⟨aa, ka, rfl⟩ := ha.shape
 have hlima : a.length ≤ 1099511627776 := ha.lim
 have H := Hp.init hG
 refine calls_of_W (l := [.slice aa a.length ka, .int .i64 left]) Tryz.func50 rfl Tryz.ntmps50 rfl ?_
 refine q2 ?_
 refine o_assign rfl rfl ?_
 refine q1 ?_
 refine o_move rfl rfl ?_
 refine o_move rfl rfl ?_
 refine o_len_slice Tryz.underlying46 rfl rfl ?_
 refine o_sub rfl rfl rfl ⟨by omega, by omega⟩ ?_
 refine o_assign rfl rfl ?_
 refine q3 ?_
 refine W_seq ?_
 refine q2 ?_
 refine o_move rfl rfl ?_
 refine o_lss rfl rfl rfl ?_
 refine q3 ?_
 refine W_cond rfl ?_ ?_
 ·intro hc2
  try simp only [nrm] at hc2
  refine q2 ?_
  refine o_assign rfl rfl ?_
  refine q3 ?_
  refine W_ret ?_
  refine N_K_ret ?_
  refine ret_gen (rs := [.tmp 4]) (vs := [_]) Tryz.results50 ⟨rfl, trivial⟩ ?_
  exact H.retV ⟨_, rfl, by first | omega | (simp only [wHeld, wItem, wSnap, wHelds, wItems, wSnaps, wDisk] at *; omega)⟩
 intro hc2'
 try simp only [nrm] at hc2'
 refine W_skip ?_
 refine N_K ?_
 refine W_seq ?_
 refine q2 ?_
 refine o_assign rfl rfl ?_
 refine q3 ?_
 refine W_block ?_
 refine W_loop (hf := (Sub.cons (t := 0) rfl Sub.nil)) (J := fun M w m => ∃ (k : Nat) (lf : Int) (G : PH), M = [(5, .int .i64 (k : Int)), (1, .int .i64 lf)] ∧ PLe G0 G ∧ Hp w0 G0 [] w G [] ∧ (k ≤ a.length ∧ 0 ≤ lf ∧ lf + (a.length : Int) + (cnt wItem (a.take k) : Int) ≤ left) ∧ m = (a.length - k)) (h0 := ⟨0, (left - (a.length : Int)), _, rfl, PLe.refl _, H, ?inv, rfl⟩) (hM := ?hM) (round := ?round)
 case hM => (repeat (first | exact Sub.nil | refine Sub.cons rfl ?_))
 case inv => exact ⟨by omega, by omega, by (simp only [List.take_zero, cnt]; omega)⟩
 case round =>
  rintro _ w3 _ ⟨k, lf, G3, rfl, hle3, H, hinv3, rfl⟩
  have ha := ha.up hle3
  obtain ⟨hk, hlf1, hlf2⟩ := hinv3
  refine W_seq ?_
  refine q2 ?_
  refine o_move rfl rfl ?_
  refine o_move rfl rfl ?_
  refine o_len_slice Tryz.underlying46 rfl rfl ?_
  refine o_lss rfl rfl rfl ?_
  refine q3 ?_
  refine W_cond rfl ?_ ?_
  ·intro hc4
   try simp only [nrm] at hc4
   refine W_skip ?_
   refine N_K ?_
   refine W_seq ?_
   refine W_block ?_
   refine q2 ?_
   refine o_move rfl rfl ?_
   refine o_move rfl rfl ?_
   refine o_index_P k ha Tryz.underlying46 Tryz.sizeOf142 rfl rfl rfl rfl (by first | omega | (simp; omega)) ?_; intro b5 o5 z5 q5 hz5 hE5 hrow5
   obtain ⟨a5, m5, c5, rfl, hi5, hr5⟩ := hE5; have hy_hi5 : _ ≤ 16777216 := hi5; have hn_hr5 := hr5.len; have hx_hr5 : _ ≤ 1099511627776 := hr5.lim
   refine o_loadagg_P H Tryz.isAgg142 Tryz.sizeOf142 rfl rfl hrow5 rfl ?_
   refine o_move rfl rfl ?_
   refine o_call Tryz.call103 rfl rfl (w_szItem_c _ _ H.sub _ _ ⟨_, _, _, rfl, hi5, hr5⟩ _ ⟨by omega, by omega⟩) ?_
   rintro _ w6 ⟨_, rfl, ew6, ⟨r6, rfl, hra6⟩⟩
   skip
   have H := H.step ew6; refine ⟨_, rfl, ?_⟩
   refine o_assign rfl rfl ?_
   refine q1 ?_
   refine o_move rfl rfl ?_
   refine o_lss rfl rfl rfl ?_
   refine q3 ?_
   refine W_cond rfl ?_ ?_
   ·intro hc7
    try simp only [nrm] at hc7
    refine q2 ?_
    refine o_assign rfl rfl ?_
    refine q3 ?_
    refine W_ret ?_
    refine N_B_ret ?_
    refine N_K_ret ?_
    refine N_LP_ret ?_
    refine N_B_ret ?_
    refine N_K_ret ?_
    refine ret_gen (rs := [.tmp 4]) (vs := [_]) Tryz.results50 ⟨rfl, trivial⟩ ?_
    exact H.retV ⟨_, rfl, by first | omega | (simp only [wHeld, wItem, wSnap, wHelds, wItems, wSnaps, wDisk] at *; omega)⟩
   intro hc7'
   try simp only [nrm] at hc7'
   refine W_skip ?_
   refine N_B ?_
   refine N_K ?_
   refine W_region ?_
   refine o_move rfl rfl ?_
   refine o_add rfl rfl rfl ⟨by omega, by omega⟩ ?_
   refine o_assign rfl rfl ?_
   refine R_nil ?_
   refine N_LP (hJ := ⟨k + 1, r6, _, rfl, hle3, H, ?inv, rfl⟩) (hM := ?hM) (hf := ?hf) (hm := ?hm)
   case hM => (repeat (first | exact Sub.nil | refine Sub.cons rfl ?_))
   case hf => (repeat (first | exact Sub.nil | refine Sub.cons rfl ?_))
   case hm => omega
   case inv => exact ⟨by omega, by omega, by (have hcs := cnt_succ (c := wItem) hz5; omega)⟩
  intro hc4'
  try simp only [nrm] at hc4'
  refine W_exit ?_
  refine N_K_exit ?_
  refine N_LP_exit ?_
  refine N_B_same ?_
  refine N_K ?_
  refine q2 ?_
  refine o_move rfl rfl ?_
  refine o_assign rfl rfl ?_
  refine q3 ?_
  refine W_ret ?_
  refine ret_gen (rs := [.tmp 4]) (vs := [_]) Tryz.results50 ⟨rfl, trivial⟩ ?_
  have hce := cnt_end (c := wItem) (show k = a.length by omega)
  exact H.retV ⟨_, rfl, by first | omega | (simp only [wHeld, wItem, wSnap, wHelds, wItems, wSnaps, wDisk] at *; omega)⟩
theorem w_szSnap_c (w0 : World) (G0 : PH) (hG : PSub G0 w0) (ca : List Value) (a : BSnap) (ha : snapE G0 a ca) (left : Int) (hl : -1 ≤ left ∧ left ≤ 1099511627776) :
  Calls Tryz.prog 104 #[.agg ca.toArray, .int .i64 left] w0 (RetV w0 (fun v => ∃ r : Int, v = .int .i64 r ∧ (r = -1 ∨ (0 ≤ r ∧ r + (wSnap a : Int) ≤ left)))) := by
 obtain ⟨a1, m1, c1, rfl, hi1, hr1⟩ := ha; have hy_hi1 : _ ≤ 16777216 := hi1; have hn_hr1 := hr1.len; have hx_hr1 : _ ≤ 1099511627776 := hr1.lim
 have H := Hp.init hG
 refine calls_of_W (l := [_, .int .i64 left]) Tryz.func104 rfl Tryz.ntmps104 rfl ?_
 refine q2 ?_
 refine o_box H rfl rfl rfl ?_; intro b2 w2 hb2 H
 refine o_assign rfl rfl ?_
 refine q1 ?_
 refine o_move rfl rfl ?_
 refine o_fieldAddr 0 Tryz.runUnderlying145 rfl Tryz.sizeOf9 rfl rfl rfl ?_
 refine o_load_B 0 H Tryz.isAgg9 rfl rfl rfl rfl ?_
 refine o_len_str Tryz.underlying9 rfl rfl ?_
 refine o_sub rfl rfl rfl ⟨by omega, by omega⟩ ?_
 refine o_assign rfl rfl ?_
 refine q3 ?_
 refine W_seq ?_
 refine q2 ?_
 refine o_move rfl rfl ?_
 refine o_lss rfl rfl rfl ?_
 refine q3 ?_
 refine W_cond rfl ?_ ?_
 ·intro hc4
  try simp only [nrm] at hc4
  refine q2 ?_
  refine o_assign rfl rfl ?_
  refine q3 ?_
  refine W_ret ?_
  refine N_K_ret ?_
  refine ret_gen (rs := [.tmp 4]) (vs := [_]) Tryz.results104 ⟨rfl, trivial⟩ ?_
  exact H.retV ⟨_, rfl, by first | omega | (simp only [wHeld, wItem, wSnap, wHelds, wItems, wSnaps, wDisk] at *; omega)⟩
 intro hc4'
 try simp only [nrm] at hc4'
 refine W_skip ?_
 refine N_K ?_
 refine q2 ?_
 refine o_fieldAddr 1 Tryz.runUnderlying145 rfl Tryz.sizeOf46 rfl rfl rfl ?_
 refine o_load_B 0 H Tryz.isAgg46 rfl rfl rfl rfl ?_
 refine o_move rfl rfl ?_
 refine o_call Tryz.call50 rfl rfl (w_szItemS_c _ _ H.sub _ _ hr1 _ ⟨by omega, by omega⟩) ?_
 rintro _ w5 ⟨_, rfl, ew5, ⟨r5, rfl, hra5⟩⟩
 skip
 have H := H.step ew5; refine ⟨_, rfl, ?_⟩
 refine o_assign rfl rfl ?_
 refine q3 ?_
 refine W_seq ?_
 refine q2 ?_
 refine o_move rfl rfl ?_
 refine o_lss rfl rfl rfl ?_
 refine q3 ?_
 refine W_cond rfl ?_ ?_
 ·intro hc6
  try simp only [nrm] at hc6
  refine q2 ?_
  refine o_assign rfl rfl ?_
  refine q3 ?_
  refine W_ret ?_
  refine N_K_ret ?_
  refine ret_gen (rs := [.tmp 4]) (vs := [_]) Tryz.results104 ⟨rfl, trivial⟩ ?_
  exact H.retV ⟨_, rfl, by first | omega | (simp only [wHeld, wItem, wSnap, wHelds, wItems, wSnaps, wDisk] at *; omega)⟩
 intro hc6'
 try simp only [nrm] at hc6'
 refine W_skip ?_
 refine N_K ?_
 refine q2 ?_
 refine o_move rfl rfl ?_
 refine o_assign rfl rfl ?_
 refine q3 ?_
 refine W_ret ?_
 refine ret_gen (rs := [.tmp 4]) (vs := [_]) Tryz.results104 ⟨rfl, trivial⟩ ?_
 exact H.retV ⟨_, rfl, by first | omega | (simp only [wHeld, wItem, wSnap, wHelds, wItems, wSnaps, wDisk] at *; omega)⟩
theorem w_szSnapS_c (w0 : World) (G0 : PH) (hG : PSub G0 w0) (va : Value) (a : List (BSnap)) (ha : RdSn G0 va a) (left : Int) (hl : -1 ≤ left ∧ left ≤ 1099511627776) :
  Calls Tryz.prog 51 #[va, .int .i64 left] w0 (RetV w0 (fun v => ∃ r : Int, v = .int .i64 r ∧ (r = -1 ∨ (0 ≤ r ∧ r + (wSnaps a : Int) ≤ left)))) := by
 obtain ⟨aa, ka, rfl⟩ := ha.shape
 have hlima : a.length ≤ 1099511627776 := ha.lim
 have H := Hp.init hG
 refine calls_of_W (l := [.slice aa a.length ka, .int .i64 left]) Tryz.func51 rfl Tryz.ntmps51 rfl ?_
 refine q2 ?_
 refine o_assign rfl rfl ?_
 refine q1 ?_
 refine o_move rfl rfl ?_
 refine o_move rfl rfl ?_
 refine o_len_slice Tryz.underlying47 rfl rfl ?_
 refine o_sub rfl rfl rfl ⟨by omega, by omega⟩ ?_
 refine o_assign rfl rfl ?_
 refine q3 ?_
 refine W_seq ?_
 refine q2 ?_
 refine o_move rfl rfl ?_
 refine o_lss rfl rfl rfl ?_
 refine q3 ?_
 refine W_cond rfl ?_ ?_
 ·intro hc2
  try simp only [nrm] at hc2
  refine q2 ?_
  refine o_assign rfl rfl ?_
  refine q3 ?_
  refine W_ret ?_
  refine N_K_ret ?_
  refine ret_gen (rs := [.tmp 4]) (vs := [_]) Tryz.results51 ⟨rfl, trivial⟩ ?_
  exact H.retV ⟨_, rfl, by first | omega | (simp only [wHeld, wItem, wSnap, wHelds, wItems, wSnaps, wDisk] at *; omega)⟩
 intro hc2'
 try simp only [nrm] at hc2'
 refine W_skip ?_
 refine N_K ?_
 refine W_seq ?_
 refine q2 ?_
 refine o_assign rfl rfl ?_
 refine q3 ?_
 refine W_block ?_
 refine W_loop (hf := (Sub.cons (t := 0) rfl Sub.nil)) (J := fun M w m => ∃ (k : Nat) (lf : Int) (G : PH), M = [(5, .int .i64 (k : Int)), (1, .int .i64 lf)] ∧ PLe G0 G ∧ Hp w0 G0 [] w G [] ∧ (k ≤ a.length ∧ 0 ≤ lf ∧ lf + (a.length : Int) + (cnt wSnap (a.take k) : Int) ≤ left) ∧ m = (a.length - k)) (h0 := ⟨0, (left - (a.length : Int)), _, rfl, PLe.refl _, H, ?inv, rfl⟩) (hM := ?hM) (round := ?round)
 case hM => (repeat (first | exact Sub.nil | refine Sub.cons rfl ?_))
 case inv => exact ⟨by omega, by omega, by (simp only [List.take_zero, cnt]; omega)⟩
 case round =>
  rintro _ w3 _ ⟨k, lf, G3, rfl, hle3, H, hinv3, rfl⟩
  have ha := ha.up hle3
  obtain ⟨hk, hlf1, hlf2⟩ := hinv3
  refine W_seq ?_
  refine q2 ?_
  refine o_move rfl rfl ?_
  refine o_move rfl rfl ?_
  refine o_len_slice Tryz.underlying47 rfl rfl ?_
  refine o_lss rfl rfl rfl ?_
  refine q3 ?_
  refine W_cond rfl ?_ ?_
  ·intro hc4
   try simp only [nrm] at hc4
   refine W_skip ?_
   refine N_K ?_
   refine W_seq ?_
   refine W_block ?_
   refine q2 ?_
   refine o_move rfl rfl ?_
   refine o_move rfl rfl ?_
   refine o_index_P k ha Tryz.underlying47 Tryz.sizeOf145 rfl rfl rfl rfl (by first | omega | (simp; omega)) ?_; intro b5 o5 z5 q5 hz5 hE5 hrow5
   obtain ⟨a5, m5, c5, rfl, hi5, hr5⟩ := hE5; have hy_hi5 : _ ≤ 16777216 := hi5; have hn_hr5 := hr5.len; have hx_hr5 : _ ≤ 1099511627776 := hr5.lim
   refine o_loadagg_P H Tryz.isAgg145 Tryz.sizeOf145 rfl rfl hrow5 rfl ?_
   refine o_move rfl rfl ?_
   refine o_call Tryz.call104 rfl rfl (w_szSnap_c _ _ H.sub _ _ ⟨_, _, _, rfl, hi5, hr5⟩ _ ⟨by omega, by omega⟩) ?_
   rintro _ w6 ⟨_, rfl, ew6, ⟨r6, rfl, hra6⟩⟩
   skip
   have H := H.step ew6; refine ⟨_, rfl, ?_⟩
   refine o_assign rfl rfl ?_
   refine q1 ?_
   refine o_move rfl rfl ?_
   refine o_lss rfl rfl rfl ?_
   refine q3 ?_
   refine W_cond rfl ?_ ?_
   ·intro hc7
    try simp only [nrm] at hc7
    refine q2 ?_
    refine o_assign rfl rfl ?_
    refine q3 ?_
    refine W_ret ?_
    refine N_B_ret ?_
    refine N_K_ret ?_
    refine N_LP_ret ?_
    refine N_B_ret ?_
    refine N_K_ret ?_
    refine ret_gen (rs := [.tmp 4]) (vs := [_]) Tryz.results51 ⟨rfl, trivial⟩ ?_
    exact H.retV ⟨_, rfl, by first | omega | (simp only [wHeld, wItem, wSnap, wHelds, wItems, wSnaps, wDisk] at *; omega)⟩
   intro hc7'
   try simp only [nrm] at hc7'
   refine W_skip ?_
   refine N_B ?_
   refine N_K ?_
   refine W_region ?_
   refine o_move rfl rfl ?_
   refine o_add rfl rfl rfl ⟨by omega, by omega⟩ ?_
   refine o_assign rfl rfl ?_
   refine R_nil ?_
   refine N_LP (hJ := ⟨k + 1, r6, _, rfl, hle3, H, ?inv, rfl⟩) (hM := ?hM) (hf := ?hf) (hm := ?hm)
   case hM => (repeat (first | exact Sub.nil | refine Sub.cons rfl ?_))
   case hf => (repeat (first | exact Sub.nil | refine Sub.cons rfl ?_))
   case hm => omega
   case inv => exact ⟨by omega, by omega, by (have hcs := cnt_succ (c := wSnap) hz5; omega)⟩
  intro hc4'
  try simp only [nrm] at hc4'
  refine W_exit ?_
  refine N_K_exit ?_
  refine N_LP_exit ?_
  refine N_B_same ?_
  refine N_K ?_
  refine q2 ?_
  refine o_move rfl rfl ?_
  refine o_assign rfl rfl ?_
  refine q3 ?_
  refine W_ret ?_
  refine ret_gen (rs := [.tmp 4]) (vs := [_]) Tryz.results51 ⟨rfl, trivial⟩ ?_
  have hce := cnt_end (c := wSnap) (show k = a.length by omega)
  exact H.retV ⟨_, rfl, by first | omega | (simp only [wHeld, wItem, wSnap, wHelds, wItems, wSnaps, wDisk] at *; omega)⟩
theorem w_szDisk_c (w0 : World) (G0 : PH) (hG : PSub G0 w0) (ca : List Value) (a : BDisk) (ha : diskE G0 a ca) (left : Int) (hl : -1 ≤ left ∧ left ≤ 1099511627776) :
  Calls Tryz.prog 19 #[.agg ca.toArray, .int .i64 left] w0 (RetV w0 (fun v => ∃ r : Int, v = .int .i64 r ∧ (r = -1 ∨ (0 ≤ r ∧ r + (wDisk a : Int) ≤ left)))) := by
 obtain ⟨a1, m1, c1, a1', m1', c1', a1'', m1'', c1'', rfl, hr1, hr1', hr1''⟩ := ha; have hn_hr1 := hr1.len; have hx_hr1 : _ ≤ 1099511627776 := hr1.lim; have hn_hr1q := hr1'.len; have hx_hr1q : _ ≤ 1099511627776 := hr1'.lim; have hn_hr1qq := hr1''.len; have hx_hr1qq : _ ≤ 1099511627776 := hr1''.lim
 have H := Hp.init hG
 refine calls_of_W (l := [_, .int .i64 left]) Tryz.func19 rfl Tryz.ntmps19 rfl ?_
 refine q2 ?_
 refine o_box H rfl rfl rfl ?_; intro b2 w2 hb2 H
 refine o_assign rfl rfl ?_
 refine q1 ?_
 refine o_fieldAddr 0 Tryz.runUnderlying49 rfl Tryz.sizeOf45 rfl rfl rfl ?_
 refine o_load_B 0 H Tryz.isAgg45 rfl rfl rfl rfl ?_
 refine o_move rfl rfl ?_
 refine o_call Tryz.call49 rfl rfl (w_szHeldS_c _ _ H.sub _ _ hr1 _ ⟨by omega, by omega⟩) ?_
 rintro _ w3 ⟨_, rfl, ew3, ⟨r3, rfl, hra3⟩⟩
 skip
 have H := H.step ew3; refine ⟨_, rfl, ?_⟩
 refine o_assign rfl rfl ?_
 refine q3 ?_
 refine W_seq ?_
 refine q2 ?_
 refine o_move rfl rfl ?_
 refine o_lss rfl rfl rfl ?_
 refine q3 ?_
 refine W_cond rfl ?_ ?_
 ·intro hc4
  try simp only [nrm] at hc4
  refine q2 ?_
  refine o_assign rfl rfl ?_
  refine q3 ?_
  refine W_ret ?_
  refine N_K_ret ?_
  refine ret_gen (rs := [.tmp 4]) (vs := [_]) Tryz.results19 ⟨rfl, trivial⟩ ?_
  exact H.retV ⟨_, rfl, by first | omega | (simp only [wHeld, wItem, wSnap, wHelds, wItems, wSnaps, wDisk] at *; omega)⟩
 intro hc4'
 try simp only [nrm] at hc4'
 refine W_skip ?_
 refine N_K ?_
 refine q2 ?_
 refine o_fieldAddr 1 Tryz.runUnderlying49 rfl Tryz.sizeOf46 rfl rfl rfl ?_
 refine o_load_B 0 H Tryz.isAgg46 rfl rfl rfl rfl ?_
 refine o_move rfl rfl ?_
 refine o_call Tryz.call50 rfl rfl (w_szItemS_c _ _ H.sub _ _ hr1' _ ⟨by omega, by omega⟩) ?_
 rintro _ w5 ⟨_, rfl, ew5, ⟨r5, rfl, hra5⟩⟩
 skip
 have H := H.step ew5; refine ⟨_, rfl, ?_⟩
 refine o_assign rfl rfl ?_
 refine q3 ?_
 refine W_seq ?_
 refine q2 ?_
 refine o_move rfl rfl ?_
 refine o_lss rfl rfl rfl ?_
 refine q3 ?_
 refine W_cond rfl ?_ ?_
 ·intro hc6
  try simp only [nrm] at hc6
  refine q2 ?_
  refine o_assign rfl rfl ?_
  refine q3 ?_
  refine W_ret ?_
  refine N_K_ret ?_
  refine ret_gen (rs := [.tmp 4]) (vs := [_]) Tryz.results19 ⟨rfl, trivial⟩ ?_
  exact H.retV ⟨_, rfl, by first | omega | (simp only [wHeld, wItem, wSnap, wHelds, wItems, wSnaps, wDisk] at *; omega)⟩
 intro hc6'
 try simp only [nrm] at hc6'
 refine W_skip ?_
 refine N_K ?_
 refine q2 ?_
 refine o_fieldAddr 2 Tryz.runUnderlying49 rfl Tryz.sizeOf47 rfl rfl rfl ?_
 refine o_load_B 0 H Tryz.isAgg47 rfl rfl rfl rfl ?_
 refine o_move rfl rfl ?_
 refine o_call Tryz.call51 rfl rfl (w_szSnapS_c _ _ H.sub _ _ hr1'' _ ⟨by omega, by omega⟩) ?_
 rintro _ w7 ⟨_, rfl, ew7, ⟨r7, rfl, hra7⟩⟩
 skip
 have H := H.step ew7; refine ⟨_, rfl, ?_⟩
 refine o_assign rfl rfl ?_
 refine q3 ?_
 refine W_seq ?_
 refine q2 ?_
 refine o_move rfl rfl ?_
 refine o_lss rfl rfl rfl ?_
 refine q3 ?_
 refine W_cond rfl ?_ ?_
 ·intro hc8
  try simp only [nrm] at hc8
  refine q2 ?_
  refine o_assign rfl rfl ?_
  refine q3 ?_
  refine W_ret ?_
  refine N_K_ret ?_
  refine ret_gen (rs := [.tmp 4]) (vs := [_]) Tryz.results19 ⟨rfl, trivial⟩ ?_
  exact H.retV ⟨_, rfl, by first | omega | (simp only [wHeld, wItem, wSnap, wHelds, wItems, wSnaps, wDisk] at *; omega)⟩
 intro hc8'
 try simp only [nrm] at hc8'
 refine W_skip ?_
 refine N_K ?_
 refine q2 ?_
 refine o_move rfl rfl ?_
 refine o_assign rfl rfl ?_
 refine q3 ?_
 refine W_ret ?_
 refine ret_gen (rs := [.tmp 4]) (vs := [_]) Tryz.results19 ⟨rfl, trivial⟩ ?_
 exact H.retV ⟨_, rfl, by first | omega | (simp only [wHeld, wItem, wSnap, wHelds, wItems, wSnaps, wDisk] at *; omega)⟩
end Go.Proofs.Tst

namespace Go.Proofs.Tst
open Go Fw
theorem w_eqIntS_c (w0 : World) (G0 : PH) (hG : PSub G0 w0) (va : Value) (a : List (Int)) (ha : RdI G0 va a) (vb : Value) (b : List (Int)) (hb : RdI G0 vb b) (hab : a = b) :
  Calls Tryz.prog 156 #[va, vb] w0 (Rets w0 (.bool true)) := by
 obtain ⟨aa, ka, rfl⟩ := ha.shape
 have hlima : a.length ≤ 1099511627776 := ha.lim
 obtain ⟨ab, kb, rfl⟩ := hb.shape
 have hlimb : b.length ≤ 1099511627776 := hb.lim
 have hle := congrArg List.length hab
 have H := Hp.init hG
 refine calls_of_W (l := [.slice aa a.length ka, .slice ab b.length kb]) Tryz.func156 rfl Tryz.ntmps156 rfl ?_
 refine q2 ?_
 refine o_assign rfl rfl ?_
 refine q3 ?_
 refine W_seq ?_
 refine q2 ?_
 refine o_move rfl rfl ?_
 refine o_len_slice Tryz.underlying27 rfl rfl ?_
 refine o_move rfl rfl ?_
 refine o_len_slice Tryz.underlying27 rfl rfl ?_
 refine o_neq rfl rfl rfl ?_
 refine q3 ?_
 refine W_cond rfl ?_ ?_
 ·intro hc1
  try simp only [nrm] at hc1
  refine q2 ?_
  refine o_assign rfl rfl ?_
  refine q3 ?_
  refine W_ret ?_
  refine N_K_ret ?_
  refine ret_gen (rs := [.tmp 4]) (vs := [_]) Tryz.results156 ⟨rfl, trivial⟩ ?_
  exact absurd (show False from by omega) id
 intro hc1'
 try simp only [nrm] at hc1'
 refine W_skip ?_
 refine N_K ?_
 refine W_seq ?_
 refine q2 ?_
 refine o_assign rfl rfl ?_
 refine q3 ?_
 refine W_block ?_
 refine W_loop (hf := (Sub.cons (t := 0) rfl (Sub.cons (t := 1) rfl Sub.nil))) (J := fun M w m => ∃ (k : Nat) (G : PH), M = [(5, .int .i64 (k : Int))] ∧ PLe G0 G ∧ Hp w0 G0 [] w G [] ∧ (k ≤ a.length) ∧ m = (a.length - k)) (h0 := ⟨0, _, rfl, PLe.refl _, H, ?inv, rfl⟩) (hM := ?hM) (round := ?round)
 case hM => (repeat (first | exact Sub.nil | refine Sub.cons rfl ?_))
 case inv => omega
 case round =>
  rintro _ w2 _ ⟨k, G2, rfl, hle2, H, hinv2, rfl⟩
  have ha := ha.up hle2
  have hb := hb.up hle2
  have hk := hinv2
  refine W_seq ?_
  refine q2 ?_
  refine o_move rfl rfl ?_
  refine o_move rfl rfl ?_
  refine o_len_slice Tryz.underlying27 rfl rfl ?_
  refine o_lss rfl rfl rfl ?_
  refine q3 ?_
  refine W_cond rfl ?_ ?_
  ·intro hc3
   try simp only [nrm] at hc3
   refine W_skip ?_
   refine N_K ?_
   refine W_seq ?_
   refine W_block ?_
   refine W_seq ?_
   refine W_drawK [] 9 H (by kernel_rfl) rfl ?_; intro w4 H; have hd4 := PLe.refl G2
   refine RD_t 0 rfl (by kernel_rfl) rfl (fun _ hK => v_move rfl) ?_
   refine RD_t 1 rfl (by kernel_rfl) rfl (fun _ hK => v_move rfl) ?_
   have hl5 := ha.len
   obtain ⟨b5, o5, z5, q5, ha5, hz5, hq5, hE5, hrow5, _⟩ := ha.at (i := k) (by omega)
   clear hq5
   obtain ⟨rfl, hi5⟩ := hE5
   refine RD_t 2 rfl (by kernel_rfl) rfl (fun _ hK => v_index_P (i := k) ha5 Tryz.underlying27 Tryz.sizeOf3 rfl rfl rfl (by omega)) ?_
   refine RD_t 3 rfl (by kernel_rfl) rfl (fun _ hK => v_load_P hK Tryz.isAgg3 rfl (hrow5 0 _ rfl)) ?_
   refine RD_t 4 rfl (by kernel_rfl) rfl (fun _ hK => v_move rfl) ?_
   refine RD_t 5 rfl (by kernel_rfl) rfl (fun _ hK => v_move rfl) ?_
   have hl6 := hb.len
   obtain ⟨b6, o6, z6, q6, ha6, hz6, hq6, hE6, hrow6, _⟩ := hb.at (i := k) (by omega)
   clear hq6
   obtain ⟨rfl, hi6⟩ := hE6
   refine RD_t 6 rfl (by kernel_rfl) rfl (fun _ hK => v_index_P (i := k) ha6 Tryz.underlying27 Tryz.sizeOf3 rfl rfl rfl (by omega)) ?_
   refine RD_t 7 rfl (by kernel_rfl) rfl (fun _ hK => v_load_P hK Tryz.isAgg3 rfl (hrow6 0 _ rfl)) ?_
   refine RD_t 8 rfl (by kernel_rfl) rfl (fun _ hK => v_neq rfl rfl) ?_
   refine RD_done (by kernel_rfl) ?_
   refine N_K ?_
   refine W_cond rfl ?_ ?_
   ·intro hc7
    try simp only [nrm] at hc7
    refine q2 ?_
    refine o_assign rfl rfl ?_
    refine q3 ?_
    refine W_ret ?_
    refine N_B_ret ?_
    refine N_K_ret ?_
    refine N_LP_ret ?_
    refine N_B_ret ?_
    refine N_K_ret ?_
    refine ret_gen (rs := [.tmp 4]) (vs := [_]) Tryz.results156 ⟨rfl, trivial⟩ ?_
    exact absurd (show False from by first | omega | (exact hc7 (Sp.same_at hab hz5 hz6))) id
   intro hc7'
   try simp only [nrm] at hc7'
   refine W_skip ?_
   refine N_B ?_
   refine N_K ?_
   refine W_region ?_
   refine o_move rfl rfl ?_
   refine o_add rfl rfl rfl ⟨by omega, by omega⟩ ?_
   refine o_assign rfl rfl ?_
   refine R_nil ?_
   refine N_LP (hJ := ⟨k + 1, _, rfl, hle2, H, ?inv, rfl⟩) (hM := ?hM) (hf := ?hf) (hm := ?hm)
   case hM => (repeat (first | exact Sub.nil | refine Sub.cons rfl ?_))
   case hf => (repeat (first | exact Sub.nil | refine Sub.cons rfl ?_))
   case hm => omega
   case inv => omega
  intro hc3'
  try simp only [nrm] at hc3'
  refine W_exit ?_
  refine N_K_exit ?_
  refine N_LP_exit ?_
  refine N_B_same ?_
  refine N_K ?_
  refine q2 ?_
  refine o_assign rfl rfl ?_
  refine q3 ?_
  refine W_ret ?_
  refine ret_gen (rs := [.tmp 4]) (vs := [_]) Tryz.results156 ⟨rfl, trivial⟩ ?_
  exact H.rets rfl
theorem w_eqHeld_c (w0 : World) (G0 : PH) (hG : PSub G0 w0) (ca : List Value) (a : BHeld) (ha : heldE G0 a ca) (cb : List Value) (b : BHeld) (hb : heldE G0 b cb) (hab : a = b) :
  Calls Tryz.prog 120 #[.agg ca.toArray, .agg cb.toArray] w0 (Rets w0 (.bool true)) := by
 obtain ⟨a1, m1, c1, rfl, hi1, hr1, hj1⟩ := ha; have hn_hr1 := hr1.len; have hx_hr1 : _ ≤ 1099511627776 := hr1.lim
 obtain ⟨a2, m2, c2, rfl, hi2, hr2, hj2⟩ := hb; have hn_hr2 := hr2.len; have hx_hr2 : _ ≤ 1099511627776 := hr2.lim
 have H := Hp.init hG
 refine calls_of_W (l := [_, _]) Tryz.func120 rfl Tryz.ntmps120 rfl ?_
 refine q2 ?_
 refine o_box H rfl rfl rfl ?_; intro b3 w3 hb3 H
 refine o_box H rfl rfl rfl ?_; intro b4 w4 hb4 H
 refine o_assign rfl rfl ?_
 refine q3 ?_
 refine W_seq ?_
 refine q2 ?_
 refine o_fieldAddr 0 Tryz.runUnderlying117 rfl Tryz.sizeOf3 rfl rfl rfl ?_
 refine o_load_B 1 H Tryz.isAgg3 rfl rfl rfl rfl ?_
 refine o_fieldAddr 0 Tryz.runUnderlying117 rfl Tryz.sizeOf3 rfl rfl rfl ?_
 refine o_load_B 0 H Tryz.isAgg3 rfl rfl rfl rfl ?_
 refine o_neq rfl rfl rfl ?_
 refine q3 ?_
 refine W_cond rfl ?_ ?_
 ·intro hc5
  try simp only [nrm] at hc5
  refine q2 ?_
  refine o_assign rfl rfl ?_
  refine q3 ?_
  refine W_ret ?_
  refine N_K_ret ?_
  refine ret_gen (rs := [.tmp 4]) (vs := [_]) Tryz.results120 ⟨rfl, trivial⟩ ?_
  exact absurd (show False from by simp [hab] at hc5) id
 intro hc5'
 try simp only [nrm] at hc5'
 refine W_skip ?_
 refine N_K ?_
 refine W_seq ?_
 refine q2 ?_
 refine o_fieldAddr 1 Tryz.runUnderlying117 rfl Tryz.sizeOf27 rfl rfl rfl ?_
 refine o_load_B 1 H Tryz.isAgg27 rfl rfl rfl rfl ?_
 refine o_fieldAddr 1 Tryz.runUnderlying117 rfl Tryz.sizeOf27 rfl rfl rfl ?_
 refine o_load_B 0 H Tryz.isAgg27 rfl rfl rfl rfl ?_
 refine o_call Tryz.call156 rfl rfl (w_eqIntS_c _ _ H.sub _ _ hr1 _ _ hr2 (congrArg BHeld.bytes hab)) ?_
 rintro _ w6 ⟨rfl, ew6⟩; have H := H.step ew6; refine ⟨_, rfl, ?_⟩
 refine o_not rfl rfl ?_
 refine q3 ?_
 refine W_false rfl ?_
 refine W_skip ?_
 refine N_K ?_
 refine W_seq ?_
 refine q2 ?_
 refine o_fieldAddr 2 Tryz.runUnderlying117 rfl Tryz.sizeOf3 rfl rfl rfl ?_
 refine o_load_B 1 H Tryz.isAgg3 rfl rfl rfl rfl ?_
 refine o_fieldAddr 2 Tryz.runUnderlying117 rfl Tryz.sizeOf3 rfl rfl rfl ?_
 refine o_load_B 0 H Tryz.isAgg3 rfl rfl rfl rfl ?_
 refine o_neq rfl rfl rfl ?_
 refine q3 ?_
 refine W_cond rfl ?_ ?_
 ·intro hc7
  try simp only [nrm] at hc7
  refine q2 ?_
  refine o_assign rfl rfl ?_
  refine q3 ?_
  refine W_ret ?_
  refine N_K_ret ?_
  refine ret_gen (rs := [.tmp 4]) (vs := [_]) Tryz.results120 ⟨rfl, trivial⟩ ?_
  exact absurd (show False from by simp [hab] at hc7) id
 intro hc7'
 try simp only [nrm] at hc7'
 refine W_skip ?_
 refine N_K ?_
 refine q2 ?_
 refine o_assign rfl rfl ?_
 refine q3 ?_
 refine W_ret ?_
 refine ret_gen (rs := [.tmp 4]) (vs := [_]) Tryz.results120 ⟨rfl, trivial⟩ ?_
 exact H.rets rfl
theorem w_eqHeldS_c (w0 : World) (G0 : PH) (hG : PSub G0 w0) (va : Value) (a : List (BHeld)) (ha : RdH G0 va a) (vb : Value) (b : List (BHeld)) (hb : RdH G0 vb b) (hab : a = b) :
  Calls Tryz.prog 64 #[va, vb] w0 (Rets w0 (.bool true)) := by
 obtain ⟨aa, ka, rfl⟩ := ha.shape
 have hlima : a.length ≤ 1099511627776 := ha.lim
 obtain ⟨ab, kb, rfl⟩ := hb.shape
 have hlimb : b.length ≤ 1099511627776 := hb.lim
 have hle := congrArg List.length hab
 have H := Hp.init hG
 refine calls_of_W (l := [.slice aa a.length ka, .slice ab b.length kb]) Tryz.func64 rfl Tryz.ntmps64 rfl ?_
 refine q2 ?_
 refine o_assign rfl rfl ?_
 refine q3 ?_
 refine W_seq ?_
 refine q2 ?_
 refine o_move rfl rfl ?_
 refine o_len_slice Tryz.underlying23 rfl rfl ?_
 refine o_move rfl rfl ?_
 refine o_len_slice Tryz.underlying23 rfl rfl ?_
 refine o_neq rfl rfl rfl ?_
 refine q3 ?_
 refine W_cond rfl ?_ ?_
 ·intro hc1
  try simp only [nrm] at hc1
  refine q2 ?_
  refine o_assign rfl rfl ?_
  refine q3 ?_
  refine W_ret ?_
  refine N_K_ret ?_
  refine ret_gen (rs := [.tmp 4]) (vs := [_]) Tryz.results64 ⟨rfl, trivial⟩ ?_
  exact absurd (show False from by omega) id
 intro hc1'
 try simp only [nrm] at hc1'
 refine W_skip ?_
 refine N_K ?_
 refine W_seq ?_
 refine q2 ?_
 refine o_assign rfl rfl ?_
 refine q3 ?_
 refine W_block ?_
 refine W_loop (hf := (Sub.cons (t := 0) rfl (Sub.cons (t := 1) rfl Sub.nil))) (J := fun M w m => ∃ (k : Nat) (G : PH), M = [(5, .int .i64 (k : Int))] ∧ PLe G0 G ∧ Hp w0 G0 [] w G [] ∧ (k ≤ a.length) ∧ m = (a.length - k)) (h0 := ⟨0, _, rfl, PLe.refl _, H, ?inv, rfl⟩) (hM := ?hM) (round := ?round)
 case hM => (repeat (first | exact Sub.nil | refine Sub.cons rfl ?_))
 case inv => omega
 case round =>
  rintro _ w2 _ ⟨k, G2, rfl, hle2, H, hinv2, rfl⟩
  have ha := ha.up hle2
  have hb := hb.up hle2
  have hk := hinv2
  refine W_seq ?_
  refine q2 ?_
  refine o_move rfl rfl ?_
  refine o_move rfl rfl ?_
  refine o_len_slice Tryz.underlying23 rfl rfl ?_
  refine o_lss rfl rfl rfl ?_
  refine q3 ?_
  refine W_cond rfl ?_ ?_
  ·intro hc3
   try simp only [nrm] at hc3
   refine W_skip ?_
   refine N_K ?_
   refine W_seq ?_
   refine W_block ?_
   refine W_seq ?_
   refine W_drawK [] 10 H (by kernel_rfl) rfl ?_; intro w4 H; have hd4 := PLe.refl G2
   refine RD_t 0 rfl (by kernel_rfl) rfl (fun _ hK => v_move rfl) ?_
   refine RD_t 1 rfl (by kernel_rfl) rfl (fun _ hK => v_move rfl) ?_
   have hl5 := ha.len
   obtain ⟨b5, o5, z5, q5, ha5, hz5, hq5, hE5, hrow5, _⟩ := ha.at (i := k) (by omega)
   clear hq5
   obtain ⟨a5, m5, c5, rfl, hi5, hr5, hj5⟩ := hE5; have hn_hr5 := hr5.len; have hx_hr5 : _ ≤ 1099511627776 := hr5.lim
   refine RD_t 2 rfl (by kernel_rfl) rfl (fun _ hK => v_index_P (i := k) ha5 Tryz.underlying23 Tryz.sizeOf117 rfl rfl rfl (by omega)) ?_
   refine RD_t 3 rfl (by kernel_rfl) rfl (fun _ hK => v_loadagg_P hK Tryz.isAgg117 Tryz.sizeOf117 rfl hrow5 rfl) ?_
   refine RD_t 4 rfl (by kernel_rfl) rfl (fun _ hK => v_move rfl) ?_
   refine RD_t 5 rfl (by kernel_rfl) rfl (fun _ hK => v_move rfl) ?_
   have hl6 := hb.len
   obtain ⟨b6, o6, z6, q6, ha6, hz6, hq6, hE6, hrow6, _⟩ := hb.at (i := k) (by omega)
   clear hq6
   obtain ⟨a6, m6, c6, rfl, hi6, hr6, hj6⟩ := hE6; have hn_hr6 := hr6.len; have hx_hr6 : _ ≤ 1099511627776 := hr6.lim
   refine RD_t 6 rfl (by kernel_rfl) rfl (fun _ hK => v_index_P (i := k) ha6 Tryz.underlying23 Tryz.sizeOf117 rfl rfl rfl (by omega)) ?_
   refine RD_t 7 rfl (by kernel_rfl) rfl (fun _ hK => v_loadagg_P hK Tryz.isAgg117 Tryz.sizeOf117 rfl hrow6 rfl) ?_
   refine RD_run [8] (by kernel_rfl) rfl (RDs.cons rfl ?_ RDs.nil)
   refine o_call Tryz.call120 rfl rfl (w_eqHeld_c _ _ H.sub _ _ ⟨_, _, _, rfl, ⟨by first | omega | (dsimp only; omega), by first | omega | (dsimp only; omega)⟩, hr5, ⟨by first | omega | (dsimp only; omega), by first | omega | (dsimp only; omega)⟩⟩ _ _ ⟨_, _, _, rfl, ⟨by first | omega | (dsimp only; omega), by first | omega | (dsimp only; omega)⟩, hr6, ⟨by first | omega | (dsimp only; omega), by first | omega | (dsimp only; omega)⟩⟩ (Sp.same_at hab hz5 hz6)) ?_
   rintro _ w7 ⟨rfl, ew7⟩; have H := H.step ew7; refine ⟨_, rfl, ?_⟩
   refine R_nil ?_
   refine N_DK (Kn.of' H hd4 SubL.nil) ?_
   refine RD_t 9 rfl (by kernel_rfl) rfl (fun _ hK => v_not rfl) ?_
   refine RD_done (by kernel_rfl) ?_
   refine N_K ?_
   refine W_false rfl ?_
   refine W_skip ?_
   refine N_B ?_
   refine N_K ?_
   refine W_region ?_
   refine o_move rfl rfl ?_
   refine o_add rfl rfl rfl ⟨by omega, by omega⟩ ?_
   refine o_assign rfl rfl ?_
   refine R_nil ?_
   refine N_LP (hJ := ⟨k + 1, _, rfl, hle2, H, ?inv, rfl⟩) (hM := ?hM) (hf := ?hf) (hm := ?hm)
   case hM => (repeat (first | exact Sub.nil | refine Sub.cons rfl ?_))
   case hf => (repeat (first | exact Sub.nil | refine Sub.cons rfl ?_))
   case hm => omega
   case inv => omega
  intro hc3'
  try simp only [nrm] at hc3'
  refine W_exit ?_
  refine N_K_exit ?_
  refine N_LP_exit ?_
  refine N_B_same ?_
  refine N_K ?_
  refine q2 ?_
  refine o_assign rfl rfl ?_
  refine q3 ?_
  refine W_ret ?_
  refine ret_gen (rs := [.tmp 4]) (vs := [_]) Tryz.results64 ⟨rfl, trivial⟩ ?_
  exact H.rets rfl
theorem w_eqItem_c (w0 : World) (G0 : PH) (hG : PSub G0 w0) (ca : List Value) (a : BItem) (ha : itemE G0 a ca) (cb : List Value) (b : BItem) (hb : itemE G0 b cb) (hab : a = b) :
  Calls Tryz.prog 121 #[.agg ca.toArray, .agg cb.toArray] w0 (Rets w0 (.bool true)) := by
 obtain ⟨a1, m1, c1, rfl, hi1, hr1⟩ := ha; have hy_hi1 : _ ≤ 16777216 := hi1; have hn_hr1 := hr1.len; have hx_hr1 : _ ≤ 1099511627776 := hr1.lim
 obtain ⟨a2, m2, c2, rfl, hi2, hr2⟩ := hb; have hy_hi2 : _ ≤ 16777216 := hi2; have hn_hr2 := hr2.len; have hx_hr2 : _ ≤ 1099511627776 := hr2.lim
 have H := Hp.init hG
 refine calls_of_W (l := [_, _]) Tryz.func121 rfl Tryz.ntmps121 rfl ?_
 refine q2 ?_
 refine o_box H rfl rfl rfl ?_; intro b3 w3 hb3 H
 refine o_box H rfl rfl rfl ?_; intro b4 w4 hb4 H
 refine o_assign rfl rfl ?_
 refine q3 ?_
 refine W_seq ?_
 refine q2 ?_
 refine o_fieldAddr 0 Tryz.runUnderlying39 rfl Tryz.sizeOf9 rfl rfl rfl ?_
 refine o_load_B 1 H Tryz.isAgg9 rfl rfl rfl rfl ?_
 refine o_fieldAddr 0 Tryz.runUnderlying39 rfl Tryz.sizeOf9 rfl rfl rfl ?_
 refine o_load_B 0 H Tryz.isAgg9 rfl rfl rfl rfl ?_
 refine o_sneq rfl rfl rfl ?_
 refine q3 ?_
 refine W_cond rfl ?_ ?_
 ·intro hc5
  try simp only [nrm] at hc5
  refine q2 ?_
  refine o_assign rfl rfl ?_
  refine q3 ?_
  refine W_ret ?_
  refine N_K_ret ?_
  refine ret_gen (rs := [.tmp 4]) (vs := [_]) Tryz.results121 ⟨rfl, trivial⟩ ?_
  exact absurd (show False from by simp [hab] at hc5) id
 intro hc5'
 try simp only [nrm] at hc5'
 refine W_skip ?_
 refine N_K ?_
 refine W_seq ?_
 refine q2 ?_
 refine o_fieldAddr 1 Tryz.runUnderlying39 rfl Tryz.sizeOf4 rfl rfl rfl ?_
 refine o_load_B 1 H Tryz.isAgg4 rfl rfl rfl rfl ?_
 refine o_fieldAddr 1 Tryz.runUnderlying39 rfl Tryz.sizeOf4 rfl rfl rfl ?_
 refine o_load_B 0 H Tryz.isAgg4 rfl rfl rfl rfl ?_
 refine o_bneq Tryz.underlying4 rfl rfl rfl ?_
 refine q3 ?_
 refine W_cond rfl ?_ ?_
 ·intro hc6
  try simp only [nrm] at hc6
  refine q2 ?_
  refine o_assign rfl rfl ?_
  refine q3 ?_
  refine W_ret ?_
  refine N_K_ret ?_
  refine ret_gen (rs := [.tmp 4]) (vs := [_]) Tryz.results121 ⟨rfl, trivial⟩ ?_
  exact absurd (show False from by simp [hab] at hc6) id
 intro hc6'
 try simp only [nrm] at hc6'
 refine W_skip ?_
 refine N_K ?_
 refine W_seq ?_
 refine q2 ?_
 refine o_fieldAddr 2 Tryz.runUnderlying39 rfl Tryz.sizeOf27 rfl rfl rfl ?_
 refine o_load_B 1 H Tryz.isAgg27 rfl rfl rfl rfl ?_
 refine o_fieldAddr 2 Tryz.runUnderlying39 rfl Tryz.sizeOf27 rfl rfl rfl ?_
 refine o_load_B 0 H Tryz.isAgg27 rfl rfl rfl rfl ?_
 refine o_call Tryz.call156 rfl rfl (w_eqIntS_c _ _ H.sub _ _ hr1 _ _ hr2 (congrArg BItem.ids hab)) ?_
 rintro _ w7 ⟨rfl, ew7⟩; have H := H.step ew7; refine ⟨_, rfl, ?_⟩
 refine o_not rfl rfl ?_
 refine q3 ?_
 refine W_false rfl ?_
 refine W_skip ?_
 refine N_K ?_
 refine q2 ?_
 refine o_assign rfl rfl ?_
 refine q3 ?_
 refine W_ret ?_
 refine ret_gen (rs := [.tmp 4]) (vs := [_]) Tryz.results121 ⟨rfl, trivial⟩ ?_
 exact H.rets rfl
theorem w_eqItemS_c (w0 : World) (G0 : PH) (hG : PSub G0 w0) (va : Value) (a : List (BItem)) (ha : RdItems G0 va a) (vb : Value) (b : List (BItem)) (hb : RdItems G0 vb b) (hab : a = b) :
  Calls Tryz.prog 65 #[va, vb] w0 (Rets w0 (.bool true)) := by
 obtain ⟨aa, ka, rfl⟩ := ha.shape
 have hlima : a.length ≤ 1099511627776 := ha.lim
 obtain ⟨ab, kb, rfl⟩ := hb.shape
 have hlimb : b.length ≤ 1099511627776 := hb.lim
 have hle := congrArg List.length hab
 have H := Hp.init hG
 refine calls_of_W (l := [.slice aa a.length ka, .slice ab b.length kb]) Tryz.func65 rfl Tryz.ntmps65 rfl ?_
 refine q2 ?_
 refine o_assign rfl rfl ?_
 refine q3 ?_
 refine W_seq ?_
 refine q2 ?_
 refine o_move rfl rfl ?_
 refine o_len_slice Tryz.underlying24 rfl rfl ?_
 refine o_move rfl rfl ?_
 refine o_len_slice Tryz.underlying24 rfl rfl ?_
 refine o_neq rfl rfl rfl ?_
 refine q3 ?_
 refine W_cond rfl ?_ ?_
 ·intro hc1
  try simp only [nrm] at hc1
  refine q2 ?_
  refine o_assign rfl rfl ?_
  refine q3 ?_
  refine W_ret ?_
  refine N_K_ret ?_
  refine ret_gen (rs := [.tmp 4]) (vs := [_]) Tryz.results65 ⟨rfl, trivial⟩ ?_
  exact absurd (show False from by omega) id
 intro hc1'
 try simp only [nrm] at hc1'
 refine W_skip ?_
 refine N_K ?_
 refine W_seq ?_
 refine q2 ?_
 refine o_assign rfl rfl ?_
 refine q3 ?_
 refine W_block ?_
 refine W_loop (hf := (Sub.cons (t := 0) rfl (Sub.cons (t := 1) rfl Sub.nil))) (J := fun M w m => ∃ (k : Nat) (G : PH), M = [(5, .int .i64 (k : Int))] ∧ PLe G0 G ∧ Hp w0 G0 [] w G [] ∧ (k ≤ a.length) ∧ m = (a.length - k)) (h0 := ⟨0, _, rfl, PLe.refl _, H, ?inv, rfl⟩) (hM := ?hM) (round := ?round)
 case hM => (repeat (first | exact Sub.nil | refine Sub.cons rfl ?_))
 case inv => omega
 case round =>
  rintro _ w2 _ ⟨k, G2, rfl, hle2, H, hinv2, rfl⟩
  have ha := ha.up hle2
  have hb := hb.up hle2
  have hk := hinv2
  refine W_seq ?_
  refine q2 ?_
  refine o_move rfl rfl ?_
  refine o_move rfl rfl ?_
  refine o_len_slice Tryz.underlying24 rfl rfl ?_
  refine o_lss rfl rfl rfl ?_
  refine q3 ?_
  refine W_cond rfl ?_ ?_
  ·intro hc3
   try simp only [nrm] at hc3
   refine W_skip ?_
   refine N_K ?_
   refine W_seq ?_
   refine W_block ?_
   refine W_seq ?_
   refine W_drawK [] 10 H (by kernel_rfl) rfl ?_; intro w4 H; have hd4 := PLe.refl G2
   refine RD_t 0 rfl (by kernel_rfl) rfl (fun _ hK => v_move rfl) ?_
   refine RD_t 1 rfl (by kernel_rfl) rfl (fun _ hK => v_move rfl) ?_
   have hl5 := ha.len
   obtain ⟨b5, o5, z5, q5, ha5, hz5, hq5, hE5, hrow5, _⟩ := ha.at (i := k) (by omega)
   clear hq5
   obtain ⟨a5, m5, c5, rfl, hi5, hr5⟩ := hE5; have hy_hi5 : _ ≤ 16777216 := hi5; have hn_hr5 := hr5.len; have hx_hr5 : _ ≤ 1099511627776 := hr5.lim
   refine RD_t 2 rfl (by kernel_rfl) rfl (fun _ hK => v_index_P (i := k) ha5 Tryz.underlying24 Tryz.sizeOf39 rfl rfl rfl (by omega)) ?_
   refine RD_t 3 rfl (by kernel_rfl) rfl (fun _ hK => v_loadagg_P hK Tryz.isAgg39 Tryz.sizeOf39 rfl hrow5 rfl) ?_
   refine RD_t 4 rfl (by kernel_rfl) rfl (fun _ hK => v_move rfl) ?_
   refine RD_t 5 rfl (by kernel_rfl) rfl (fun _ hK => v_move rfl) ?_
   have hl6 := hb.len
   obtain ⟨b6, o6, z6, q6, ha6, hz6, hq6, hE6, hrow6, _⟩ := hb.at (i := k) (by omega)
   clear hq6
   obtain ⟨a6, m6, c6, rfl, hi6, hr6⟩ := hE6; have hy_hi6 : _ ≤ 16777216 := hi6; have hn_hr6 := hr6.len; have hx_hr6 : _ ≤ 1099511627776 := hr6.lim
   refine RD_t 6 rfl (by kernel_rfl) rfl (fun _ hK => v_index_P (i := k) ha6 Tryz.underlying24 Tryz.sizeOf39 rfl rfl rfl (by omega)) ?_
   refine RD_t 7 rfl (by kernel_rfl) rfl (fun _ hK => v_loadagg_P hK Tryz.isAgg39 Tryz.sizeOf39 rfl hrow6 rfl) ?_
   refine RD_run [8] (by kernel_rfl) rfl (RDs.cons rfl ?_ RDs.nil)
   refine o_call Tryz.call121 rfl rfl (w_eqItem_c _ _ H.sub _ _ ⟨_, _, _, rfl, hi5, hr5⟩ _ _ ⟨_, _, _, rfl, hi6, hr6⟩ (Sp.same_at hab hz5 hz6)) ?_
   rintro _ w7 ⟨rfl, ew7⟩; have H := H.step ew7; refine ⟨_, rfl, ?_⟩
   refine R_nil ?_
   refine N_DK (Kn.of' H hd4 SubL.nil) ?_
   refine RD_t 9 rfl (by kernel_rfl) rfl (fun _ hK => v_not rfl) ?_
   refine RD_done (by kernel_rfl) ?_
   refine N_K ?_
   refine W_false rfl ?_
   refine W_skip ?_
   refine N_B ?_
   refine N_K ?_
   refine W_region ?_
   refine o_move rfl rfl ?_
   refine o_add rfl rfl rfl ⟨by omega, by omega⟩ ?_
   refine o_assign rfl rfl ?_
   refine R_nil ?_
   refine N_LP (hJ := ⟨k + 1, _, rfl, hle2, H, ?inv, rfl⟩) (hM := ?hM) (hf := ?hf) (hm := ?hm)
   case hM => (repeat (first | exact Sub.nil | refine Sub.cons rfl ?_))
   case hf => (repeat (first | exact Sub.nil | refine Sub.cons rfl ?_))
   case hm => omega
   case inv => omega
  intro hc3'
  try simp only [nrm] at hc3'
  refine W_exit ?_
  refine N_K_exit ?_
  refine N_LP_exit ?_
  refine N_B_same ?_
  refine N_K ?_
  refine q2 ?_
  refine o_assign rfl rfl ?_
  refine q3 ?_
  refine W_ret ?_
  refine ret_gen (rs := [.tmp 4]) (vs := [_]) Tryz.results65 ⟨rfl, trivial⟩ ?_
  exact H.rets rfl
theorem w_eqSnap_c (w0 : World) (G0 : PH) (hG : PSub G0 w0) (ca : List Value) (a : BSnap) (ha : snapE G0 a ca) (cb : List Value) (b : BSnap) (hb : snapE G0 b cb) (hab : a = b) :
  Calls Tryz.prog 122 #[.agg ca.toArray, .agg cb.toArray] w0 (Rets w0 (.bool true)) := by
 obtain ⟨a1, m1, c1, rfl, hi1, hr1⟩ := ha; have hy_hi1 : _ ≤ 16777216 := hi1; have hn_hr1 := hr1.len; have hx_hr1 : _ ≤ 1099511627776 := hr1.lim
 obtain ⟨a2, m2, c2, rfl, hi2, hr2⟩ := hb; have hy_hi2 : _ ≤ 16777216 := hi2; have hn_hr2 := hr2.len; have hx_hr2 : _ ≤ 1099511627776 := hr2.lim
 have H := Hp.init hG
 refine calls_of_W (l := [_, _]) Tryz.func122 rfl Tryz.ntmps122 rfl ?_
 refine q2 ?_
 refine o_box H rfl rfl rfl ?_; intro b3 w3 hb3 H
 refine o_box H rfl rfl rfl ?_; intro b4 w4 hb4 H
 refine o_assign rfl rfl ?_
 refine q3 ?_
 refine W_seq ?_
 refine q2 ?_
 refine o_fieldAddr 0 Tryz.runUnderlying102 rfl Tryz.sizeOf9 rfl rfl rfl ?_
 refine o_load_B 1 H Tryz.isAgg9 rfl rfl rfl rfl ?_
 refine o_fieldAddr 0 Tryz.runUnderlying102 rfl Tryz.sizeOf9 rfl rfl rfl ?_
 refine o_load_B 0 H Tryz.isAgg9 rfl rfl rfl rfl ?_
 refine o_sneq rfl rfl rfl ?_
 refine q3 ?_
 refine W_cond rfl ?_ ?_
 ·intro hc5
  try simp only [nrm] at hc5
  refine q2 ?_
  refine o_assign rfl rfl ?_
  refine q3 ?_
  refine W_ret ?_
  refine N_K_ret ?_
  refine ret_gen (rs := [.tmp 4]) (vs := [_]) Tryz.results122 ⟨rfl, trivial⟩ ?_
  exact absurd (show False from by simp [hab] at hc5) id
 intro hc5'
 try simp only [nrm] at hc5'
 refine W_skip ?_
 refine N_K ?_
 refine W_seq ?_
 refine q2 ?_
 refine o_fieldAddr 1 Tryz.runUnderlying102 rfl Tryz.sizeOf24 rfl rfl rfl ?_
 refine o_load_B 1 H Tryz.isAgg24 rfl rfl rfl rfl ?_
 refine o_fieldAddr 1 Tryz.runUnderlying102 rfl Tryz.sizeOf24 rfl rfl rfl ?_
 refine o_load_B 0 H Tryz.isAgg24 rfl rfl rfl rfl ?_
 refine o_call Tryz.call65 rfl rfl (w_eqItemS_c _ _ H.sub _ _ hr1 _ _ hr2 (congrArg BSnap.tree hab)) ?_
 rintro _ w6 ⟨rfl, ew6⟩; have H := H.step ew6; refine ⟨_, rfl, ?_⟩
 refine o_not rfl rfl ?_
 refine q3 ?_
 refine W_false rfl ?_
 refine W_skip ?_
 refine N_K ?_
 refine q2 ?_
 refine o_assign rfl rfl ?_
 refine q3 ?_
 refine W_ret ?_
 refine ret_gen (rs := [.tmp 4]) (vs := [_]) Tryz.results122 ⟨rfl, trivial⟩ ?_
 exact H.rets rfl
theorem w_eqSnapS_c (w0 : World) (G0 : PH) (hG : PSub G0 w0) (va : Value) (a : List (BSnap)) (ha : RdSn G0 va a) (vb : Value) (b : List (BSnap)) (hb : RdSn G0 vb b) (hab : a = b) :
  Calls Tryz.prog 66 #[va, vb] w0 (Rets w0 (.bool true)) := by
 obtain ⟨aa, ka, rfl⟩ := ha.shape
 have hlima : a.length ≤ 1099511627776 := ha.lim
 obtain ⟨ab, kb, rfl⟩ := hb.shape
 have hlimb : b.length ≤ 1099511627776 := hb.lim
 have hle := congrArg List.length hab
 have H := Hp.init hG
 refine calls_of_W (l := [.slice aa a.length ka, .slice ab b.length kb]) Tryz.func66 rfl Tryz.ntmps66 rfl ?_
 refine q2 ?_
 refine o_assign rfl rfl ?_
 refine q3 ?_
 refine W_seq ?_
 refine q2 ?_
 refine o_move rfl rfl ?_
 refine o_len_slice Tryz.underlying51 rfl rfl ?_
 refine o_move rfl rfl ?_
 refine o_len_slice Tryz.underlying51 rfl rfl ?_
 refine o_neq rfl rfl rfl ?_
 refine q3 ?_
 refine W_cond rfl ?_ ?_
 ·intro hc1
  try simp only [nrm] at hc1
  refine q2 ?_
  refine o_assign rfl rfl ?_
  refine q3 ?_
  refine W_ret ?_
  refine N_K_ret ?_
  refine ret_gen (rs := [.tmp 4]) (vs := [_]) Tryz.results66 ⟨rfl, trivial⟩ ?_
  exact absurd (show False from by omega) id
 intro hc1'
 try simp only [nrm] at hc1'
 refine W_skip ?_
 refine N_K ?_
 refine W_seq ?_
 refine q2 ?_
 refine o_assign rfl rfl ?_
 refine q3 ?_
 refine W_block ?_
 refine W_loop (hf := (Sub.cons (t := 0) rfl (Sub.cons (t := 1) rfl Sub.nil))) (J := fun M w m => ∃ (k : Nat) (G : PH), M = [(5, .int .i64 (k : Int))] ∧ PLe G0 G ∧ Hp w0 G0 [] w G [] ∧ (k ≤ a.length) ∧ m = (a.length - k)) (h0 := ⟨0, _, rfl, PLe.refl _, H, ?inv, rfl⟩) (hM := ?hM) (round := ?round)
 case hM => (repeat (first | exact Sub.nil | refine Sub.cons rfl ?_))
 case inv => omega
 case round =>
  rintro _ w2 _ ⟨k, G2, rfl, hle2, H, hinv2, rfl⟩
  have ha := ha.up hle2
  have hb := hb.up hle2
  have hk := hinv2
  refine W_seq ?_
  refine q2 ?_
  refine o_move rfl rfl ?_
  refine o_move rfl rfl ?_
  refine o_len_slice Tryz.underlying51 rfl rfl ?_
  refine o_lss rfl rfl rfl ?_
  refine q3 ?_
  refine W_cond rfl ?_ ?_
  ·intro hc3
   try simp only [nrm] at hc3
   refine W_skip ?_
   refine N_K ?_
   refine W_seq ?_
   refine W_block ?_
   refine W_seq ?_
   refine W_drawK [] 10 H (by kernel_rfl) rfl ?_; intro w4 H; have hd4 := PLe.refl G2
   refine RD_t 0 rfl (by kernel_rfl) rfl (fun _ hK => v_move rfl) ?_
   refine RD_t 1 rfl (by kernel_rfl) rfl (fun _ hK => v_move rfl) ?_
   have hl5 := ha.len
   obtain ⟨b5, o5, z5, q5, ha5, hz5, hq5, hE5, hrow5, _⟩ := ha.at (i := k) (by omega)
   clear hq5
   obtain ⟨a5, m5, c5, rfl, hi5, hr5⟩ := hE5; have hy_hi5 : _ ≤ 16777216 := hi5; have hn_hr5 := hr5.len; have hx_hr5 : _ ≤ 1099511627776 := hr5.lim
   refine RD_t 2 rfl (by kernel_rfl) rfl (fun _ hK => v_index_P (i := k) ha5 Tryz.underlying51 Tryz.sizeOf102 rfl rfl rfl (by omega)) ?_
   refine RD_t 3 rfl (by kernel_rfl) rfl (fun _ hK => v_loadagg_P hK Tryz.isAgg102 Tryz.sizeOf102 rfl hrow5 rfl) ?_
   refine RD_t 4 rfl (by kernel_rfl) rfl (fun _ hK => v_move rfl) ?_
   refine RD_t 5 rfl (by kernel_rfl) rfl (fun _ hK => v_move rfl) ?_
   have hl6 := hb.len
   obtain ⟨b6, o6, z6, q6, ha6, hz6, hq6, hE6, hrow6, _⟩ := hb.at (i := k) (by omega)
   clear hq6
   obtain ⟨a6, m6, c6, rfl, hi6, hr6⟩ := hE6; have hy_hi6 : _ ≤ 16777216 := hi6; have hn_hr6 := hr6.len; have hx_hr6 : _ ≤ 1099511627776 := hr6.lim
   refine RD_t 6 rfl (by kernel_rfl) rfl (fun _ hK => v_index_P (i := k) ha6 Tryz.underlying51 Tryz.sizeOf102 rfl rfl rfl (by omega)) ?_
   refine RD_t 7 rfl (by kernel_rfl) rfl (fun _ hK => v_loadagg_P hK Tryz.isAgg102 Tryz.sizeOf102 rfl hrow6 rfl) ?_
   refine RD_run [8] (by kernel_rfl) rfl (RDs.cons rfl ?_ RDs.nil)
   refine o_call Tryz.call122 rfl rfl (w_eqSnap_c _ _ H.sub _ _ ⟨_, _, _, rfl, hi5, hr5⟩ _ _ ⟨_, _, _, rfl, hi6, hr6⟩ (Sp.same_at hab hz5 hz6)) ?_
   rintro _ w7 ⟨rfl, ew7⟩; have H := H.step ew7; refine ⟨_, rfl, ?_⟩
   refine R_nil ?_
   refine N_DK (Kn.of' H hd4 SubL.nil) ?_
   refine RD_t 9 rfl (by kernel_rfl) rfl (fun _ hK => v_not rfl) ?_
   refine RD_done (by kernel_rfl) ?_
   refine N_K ?_
   refine W_false rfl ?_
   refine W_skip ?_
   refine N_B ?_
   refine N_K ?_
   refine W_region ?_
   refine o_move rfl rfl ?_
   refine o_add rfl rfl rfl ⟨by omega, by omega⟩ ?_
   refine o_assign rfl rfl ?_
   refine R_nil ?_
   refine N_LP (hJ := ⟨k + 1, _, rfl, hle2, H, ?inv, rfl⟩) (hM := ?hM) (hf := ?hf) (hm := ?hm)
   case hM => (repeat (first | exact Sub.nil | refine Sub.cons rfl ?_))
   case hf => (repeat (first | exact Sub.nil | refine Sub.cons rfl ?_))
   case hm => omega
   case inv => omega
  intro hc3'
  try simp only [nrm] at hc3'
  refine W_exit ?_
  refine N_K_exit ?_
  refine N_LP_exit ?_
  refine N_B_same ?_
  refine N_K ?_
  refine q2 ?_
  refine o_assign rfl rfl ?_
  refine q3 ?_
  refine W_ret ?_
  refine ret_gen (rs := [.tmp 4]) (vs := [_]) Tryz.results66 ⟨rfl, trivial⟩ ?_
  exact H.rets rfl
theorem w_eqDisk_c (w0 : World) (G0 : PH) (hG : PSub G0 w0) (ca : List Value) (a : BDisk) (ha : diskE G0 a ca) (cb : List Value) (b : BDisk) (hb : diskE G0 b cb) (hab : a = b) :
  Calls Tryz.prog 23 #[.agg ca.toArray, .agg cb.toArray] w0 (Rets w0 (.bool true)) := by
 obtain ⟨a1, m1, c1, a1', m1', c1', a1'', m1'', c1'', rfl, hr1, hr1', hr1''⟩ := ha; have hn_hr1 := hr1.len; have hx_hr1 : _ ≤ 1099511627776 := hr1.lim; have hn_hr1q := hr1'.len; have hx_hr1q : _ ≤ 1099511627776 := hr1'.lim; have hn_hr1qq := hr1''.len; have hx_hr1qq : _ ≤ 1099511627776 := hr1''.lim
 obtain ⟨a2, m2, c2, a2', m2', c2', a2'', m2'', c2'', rfl, hr2, hr2', hr2''⟩ := hb; have hn_hr2 := hr2.len; have hx_hr2 : _ ≤ 1099511627776 := hr2.lim; have hn_hr2q := hr2'.len; have hx_hr2q : _ ≤ 1099511627776 := hr2'.lim; have hn_hr2qq := hr2''.len; have hx_hr2qq : _ ≤ 1099511627776 := hr2''.lim
 have H := Hp.init hG
 refine calls_of_W (l := [_, _]) Tryz.func23 rfl Tryz.ntmps23 rfl ?_
 refine q2 ?_
 refine o_box H rfl rfl rfl ?_; intro b3 w3 hb3 H
 refine o_box H rfl rfl rfl ?_; intro b4 w4 hb4 H
 refine o_assign rfl rfl ?_
 refine q3 ?_
 refine W_seq ?_
 refine q2 ?_
 refine o_fieldAddr 0 Tryz.runUnderlying53 rfl Tryz.sizeOf23 rfl rfl rfl ?_
 refine o_load_B 1 H Tryz.isAgg23 rfl rfl rfl rfl ?_
 refine o_fieldAddr 0 Tryz.runUnderlying53 rfl Tryz.sizeOf23 rfl rfl rfl ?_
 refine o_load_B 0 H Tryz.isAgg23 rfl rfl rfl rfl ?_
 refine o_call Tryz.call64 rfl rfl (w_eqHeldS_c _ _ H.sub _ _ hr1 _ _ hr2 (congrArg BDisk.store hab)) ?_
 rintro _ w5 ⟨rfl, ew5⟩; have H := H.step ew5; refine ⟨_, rfl, ?_⟩
 refine o_not rfl rfl ?_
 refine q3 ?_
 refine W_false rfl ?_
 refine W_skip ?_
 refine N_K ?_
 refine W_seq ?_
 refine q2 ?_
 refine o_fieldAddr 1 Tryz.runUnderlying53 rfl Tryz.sizeOf24 rfl rfl rfl ?_
 refine o_load_B 1 H Tryz.isAgg24 rfl rfl rfl rfl ?_
 refine o_fieldAddr 1 Tryz.runUnderlying53 rfl Tryz.sizeOf24 rfl rfl rfl ?_
 refine o_load_B 0 H Tryz.isAgg24 rfl rfl rfl rfl ?_
 refine o_call Tryz.call65 rfl rfl (w_eqItemS_c _ _ H.sub _ _ hr1' _ _ hr2' (congrArg BDisk.tree hab)) ?_
 rintro _ w6 ⟨rfl, ew6⟩; have H := H.step ew6; refine ⟨_, rfl, ?_⟩
 refine o_not rfl rfl ?_
 refine q3 ?_
 refine W_false rfl ?_
 refine W_skip ?_
 refine N_K ?_
 refine W_seq ?_
 refine q2 ?_
 refine o_fieldAddr 2 Tryz.runUnderlying53 rfl Tryz.sizeOf51 rfl rfl rfl ?_
 refine o_load_B 1 H Tryz.isAgg51 rfl rfl rfl rfl ?_
 refine o_fieldAddr 2 Tryz.runUnderlying53 rfl Tryz.sizeOf51 rfl rfl rfl ?_
 refine o_load_B 0 H Tryz.isAgg51 rfl rfl rfl rfl ?_
 refine o_call Tryz.call66 rfl rfl (w_eqSnapS_c _ _ H.sub _ _ hr1'' _ _ hr2'' (congrArg BDisk.snaps hab)) ?_
 rintro _ w7 ⟨rfl, ew7⟩; have H := H.step ew7; refine ⟨_, rfl, ?_⟩
 refine o_not rfl rfl ?_
 refine q3 ?_
 refine W_false rfl ?_
 refine W_skip ?_
 refine N_K ?_
 refine q2 ?_
 refine o_assign rfl rfl ?_
 refine q3 ?_
 refine W_ret ?_
 refine ret_gen (rs := [.tmp 4]) (vs := [_]) Tryz.results23 ⟨rfl, trivial⟩ ?_
 exact H.rets rfl
end Go.Proofs.Tst

namespace Go.Proofs.Tst
open Go Fw
theorem w_toIntS_c (w0 : World) (G0 : PH) (hG : PSub G0 w0) (va : Value) (a : List (Int)) (ha : RdI G0 va a)  :
  Calls Tryz.prog 152 #[va] w0 (RetO w0 G0 (AccOf intE 1 3 a)) := by
 obtain ⟨aa, ka, rfl⟩ := ha.shape
 have hlima : a.length ≤ 1099511627776 := ha.lim
 have H := Hp.init hG
 refine calls_of_W (l := [.slice aa a.length ka]) Tryz.func152 rfl Tryz.ntmps152 rfl ?_
 refine q2 ?_
 refine o_assign rfl rfl ?_
 refine q1 ?_
 refine o_move rfl rfl ?_
 refine o_len_slice Tryz.underlying27 rfl rfl ?_
 refine o_makeN (c := a.length) (sz := 1) (bytes := 8) H Tryz.underlying27 Tryz.typeInfo3 ⟨_, rfl, rfl⟩ rfl rfl rfl rfl rfl rfl rfl rfl rfl (by omega) rfl ?_; intro b1 w1 H
 have hchk1 := Chk.rep (E := intE) (sz := 1) (G := G0) (x0 := 0) (⟨rfl, by decide⟩) rfl (a.length)
 refine o_assign rfl rfl ?_
 refine q3 ?_
 refine W_seq ?_
 refine q2 ?_
 refine o_assign rfl rfl ?_
 refine q3 ?_
 refine W_block ?_
 refine W_loop (hf := (Sub.cons (t := 0) rfl (Sub.cons (t := 2) rfl Sub.nil))) (J := fun M w m => ∃ (v : Value) (n : Nat) (cs : List Value) (xs : List (Int)) (k : Nat) (G : PH), M = [(4, .int .i64 (k : Int)), (3, v)] ∧ PLe G0 G ∧ Hp w0 G0 [] w G [acc 3 1 v n cs] ∧ (Chk intE 1 G cs xs ∧ n = xs.length ∧ k ≤ a.length ∧ xs.length = a.length ∧ xs.take k = a.take k) ∧ m = (a.length - k)) (h0 := ⟨_, _, _, (List.replicate a.length 0), 0, _, rfl, PLe.refl _, H, ?inv, rfl⟩) (hM := ?hM) (round := ?round)
 case hM => (repeat (first | exact Sub.nil | refine Sub.cons rfl ?_))
 case inv => exact ⟨hchk1,  by first | rfl | simp | (simp; omega) | omega, (by simp)⟩
 case round =>
  rintro _ w2 _ ⟨v, n, cs, xs, k, G2, rfl, hle2, H, hinv2, rfl⟩
  have ha := ha.up hle2
  have hchk1 := hchk1.up hle2
  obtain ⟨hchk2_0, hn2_0, hinv2⟩ := hinv2
  obtain ⟨av2_0, cv2_0, rfl⟩ := H.accShape (k := 0) rfl
  obtain ⟨hk, hxl, hxt⟩ := hinv2
  refine W_seq ?_
  refine q2 ?_
  refine o_move rfl rfl ?_
  refine o_move rfl rfl ?_
  refine o_len_slice Tryz.underlying27 rfl rfl ?_
  refine o_lss rfl rfl rfl ?_
  refine q3 ?_
  refine W_cond rfl ?_ ?_
  ·intro hc3
   try simp only [nrm] at hc3
   refine W_skip ?_
   refine N_K ?_
   refine W_seq ?_
   refine W_block ?_
   refine W_region ?_
   refine o_move rfl rfl ?_
   refine o_move rfl rfl ?_
   refine o_move rfl rfl ?_
   refine o_move rfl rfl ?_
   refine o_index_P k ha Tryz.underlying27 Tryz.sizeOf3 rfl rfl rfl rfl (by first | omega | (simp; omega)) ?_; intro b4 o4 z4 q4 hz4 hE4 hrow4
   obtain ⟨rfl, hi4⟩ := hE4
   refine o_load_P H Tryz.isAgg3 rfl rfl (hrow4 0 _ rfl) ?_
   refine o_index_A 0 H k rfl hchk2_0 Tryz.underlying27 Tryz.sizeOf3 rfl rfl rfl rfl (by first | omega | (simp; omega) | (simp; done)) (by first | rfl | assumption | (simp; done) | (simp; omega) | omega) ?_; intro ba5 z5 q5 hba5 hz5 hE5 hg5; cases hba5
   obtain ⟨rfl, hi5⟩ := hE5
   have hcl6 := hchk2_0.length
   refine o_store_A 0 H Tryz.sizeOf3 rfl rfl rfl rfl rfl (by simp only [vc, List.length_cons, List.length_nil]; omega) ?_; intro w6 H
   have hchk6 := hchk2_0.put (x' := z4) (off := 0) (vs := [_]) hz5 (fun cs hl hE => by obtain ⟨rfl, _⟩ := hE; exact ⟨rfl, ⟨by omega, by omega⟩⟩) (by simp only [vc, List.length_cons, List.length_nil]; omega)
   refine R_nil ?_
   refine N_B ?_
   refine N_K ?_
   refine W_region ?_
   refine o_move rfl rfl ?_
   refine o_add rfl rfl rfl ⟨by omega, by omega⟩ ?_
   refine o_assign rfl rfl ?_
   refine R_nil ?_
   refine N_LP (hJ := ⟨_, _, _, (xs.set k z4), k + 1, _, rfl, hle2, H, ?inv, rfl⟩) (hM := ?hM) (hf := ?hf) (hm := ?hm)
   case hM => (repeat (first | exact Sub.nil | refine Sub.cons rfl ?_))
   case hf => (repeat (first | exact Sub.nil | refine Sub.cons rfl ?_))
   case hm => omega
   case inv => exact ⟨hchk6, (by first | assumption | (simp; omega) | omega), (by exact ⟨by omega, by simp [hxl], Sp.take_set hxt hxl hz4⟩)⟩
  intro hc3'
  try simp only [nrm] at hc3'
  refine W_exit ?_
  refine N_K_exit ?_
  refine N_LP_exit ?_
  refine N_B_same ?_
  refine N_K ?_
  refine q2 ?_
  refine o_move rfl rfl ?_
  refine o_assign rfl rfl ?_
  refine q3 ?_
  refine W_ret ?_
  refine ret_gen (rs := [.tmp 2]) (vs := [_]) Tryz.results152 ⟨rfl, trivial⟩ ?_
  exact H.retO (k := 0) rfl (by (obtain rfl : k = a.length := by omega); (have hxx : xs = a := by (have h9 := hxt; rw [List.take_of_length_le (by omega), List.take_length] at h9; exact h9)); subst hxx; exact AccOf.mk (by first | rfl | assumption | (simp; done) | (simp; omega) | omega) hchk2_0) (acc_nd _ _ _ _ _)
end Go.Proofs.Tst

namespace Go.Proofs.Tst
open Go Fw
theorem w_toHeld_c (w0 : World) (G0 : PH) (hG : PSub G0 w0) (ca : List Value) (a : BHeld) (ha : heldE G0 a ca)  :
  Calls Tryz.prog 109 #[.agg ca.toArray] w0 (RetN w0 G0 (fun v Bs => ∃ (F : Fr) (cs : List Value), v = .agg cs.toArray ∧ Bs = [frag F] ∧ heldO F a cs)) := by
 obtain ⟨a1, m1, c1, rfl, hi1, hr1, hj1⟩ := ha; have hn_hr1 := hr1.len; have hx_hr1 : _ ≤ 1099511627776 := hr1.lim
 have H := Hp.init hG
 refine calls_of_W (l := [_]) Tryz.func109 rfl Tryz.ntmps109 rfl ?_
 refine q2 ?_
 refine o_box H rfl rfl rfl ?_; intro b2 w2 hb2 H
 refine o_alloc H Tryz.zeroValue117 rfl rfl ?_; intro b3 w3 hb3 H
 refine q1 ?_
 refine o_alloc H Tryz.zeroValue117 rfl rfl ?_; intro b4 w4 hb4 H
 refine q1 ?_
 refine o_fieldAddr 0 Tryz.runUnderlying140 rfl Tryz.sizeOf3 rfl rfl rfl ?_
 refine o_load_B 2 H Tryz.isAgg3 rfl rfl rfl rfl ?_
 refine o_fieldAddr 0 Tryz.runUnderlying117 rfl Tryz.sizeOf3 rfl rfl rfl ?_
 refine o_store_B 0 H Tryz.sizeOf3 rfl rfl rfl rfl rfl rfl rfl rfl ?_; intro w5 H
 refine q1 ?_
 refine o_fieldAddr 1 Tryz.runUnderlying140 rfl Tryz.sizeOf27 rfl rfl rfl ?_
 refine o_load_B 2 H Tryz.isAgg27 rfl rfl rfl rfl ?_
 refine o_call Tryz.call152 rfl rfl (w_toIntS_c _ _ H.sub _ _ hr1 ) ?_
 rintro _ w6 ⟨G6, v6, _, g6, rfl, ⟨cs6, rfl, hchk6⟩, hp6, hq6, hs6⟩
 have H := H.growO g6 hp6 hq6 hs6; obtain ⟨av6, cv6, rfl⟩ := H.accShape (k := 0) rfl
 have hr1 := hr1.up g6.le
 refine ⟨_, rfl, ?_⟩
 refine o_fieldAddr 1 Tryz.runUnderlying117 rfl Tryz.sizeOf27 rfl rfl rfl ?_
 refine o_store_B 1 H Tryz.sizeOf27 rfl rfl rfl rfl rfl rfl rfl rfl ?_; intro w7 H
 refine q1 ?_
 refine o_fieldAddr 2 Tryz.runUnderlying140 rfl Tryz.sizeOf3 rfl rfl rfl ?_
 refine o_load_B 3 H Tryz.isAgg3 rfl rfl rfl rfl ?_
 refine o_fieldAddr 2 Tryz.runUnderlying117 rfl Tryz.sizeOf3 rfl rfl rfl ?_
 refine o_store_B 1 H Tryz.sizeOf3 rfl rfl rfl rfl rfl rfl rfl rfl ?_; intro w8 H
 refine q1 ?_
 refine o_loadagg_B 1 H Tryz.isAgg117 Tryz.sizeOf117 rfl rfl rfl rfl rfl ?_
 refine o_store_B 2 H Tryz.sizeOf117 rfl rfl rfl rfl rfl rfl rfl rfl ?_; intro w9 H
 refine q3 ?_
 refine W_ret ?_
 refine ret_gen (rs := [.cell 2 117]) (vs := [_]) Tryz.results109 ⟨⟨_, rfl, load_blk 2 H Tryz.isAgg117 Tryz.sizeOf117 rfl rfl rfl⟩, trivial⟩ ?_
 obtain ⟨Fi1, H, hOI1⟩ := H.ownI (k := 0) rfl hchk6 (by first | assumption | rfl | (simp; done) | (simp; omega) | omega) (by first | assumption | (simp; done) | (simp; omega) | omega)
 have H := H.del (k := 1) rfl
 have H := H.del (k := 1) rfl
 have H := H.del (k := 1) rfl
 have H := H.forget hG (by simp)
 exact ⟨_, _, rfl, H, _, _, rfl, rfl, ⟨_, _, _, rfl, ⟨by omega, by omega⟩, hOI1, ⟨by omega, by omega⟩⟩⟩
theorem w_toItem_c (w0 : World) (G0 : PH) (hG : PSub G0 w0) (ca : List Value) (a : BItem) (ha : itemE G0 a ca)  :
  Calls Tryz.prog 110 #[.agg ca.toArray] w0 (RetN w0 G0 (fun v Bs => ∃ (F : Fr) (cs : List Value), v = .agg cs.toArray ∧ Bs = [frag F] ∧ itemO F a cs)) := by
 obtain ⟨a1, m1, c1, rfl, hi1, hr1⟩ := ha; have hy_hi1 : _ ≤ 16777216 := hi1; have hn_hr1 := hr1.len; have hx_hr1 : _ ≤ 1099511627776 := hr1.lim
 have H := Hp.init hG
 refine calls_of_W (l := [_]) Tryz.func110 rfl Tryz.ntmps110 rfl ?_
 refine q2 ?_
 refine o_box H rfl rfl rfl ?_; intro b2 w2 hb2 H
 refine o_alloc H Tryz.zeroValue39 rfl rfl ?_; intro b3 w3 hb3 H
 refine q1 ?_
 refine o_alloc H Tryz.zeroValue39 rfl rfl ?_; intro b4 w4 hb4 H
 refine q1 ?_
 refine o_fieldAddr 0 Tryz.runUnderlying142 rfl Tryz.sizeOf9 rfl rfl rfl ?_
 refine o_load_B 2 H Tryz.isAgg9 rfl rfl rfl rfl ?_
 refine o_fieldAddr 0 Tryz.runUnderlying39 rfl Tryz.sizeOf9 rfl rfl rfl ?_
 refine o_store_B 0 H Tryz.sizeOf9 rfl rfl rfl rfl rfl rfl rfl rfl ?_; intro w5 H
 refine q1 ?_
 refine o_fieldAddr 1 Tryz.runUnderlying142 rfl Tryz.sizeOf4 rfl rfl rfl ?_
 refine o_load_B 2 H Tryz.isAgg4 rfl rfl rfl rfl ?_
 refine o_fieldAddr 1 Tryz.runUnderlying39 rfl Tryz.sizeOf4 rfl rfl rfl ?_
 refine o_store_B 0 H Tryz.sizeOf4 rfl rfl rfl rfl rfl rfl rfl rfl ?_; intro w6 H
 refine q1 ?_
 refine o_fieldAddr 2 Tryz.runUnderlying142 rfl Tryz.sizeOf27 rfl rfl rfl ?_
 refine o_load_B 2 H Tryz.isAgg27 rfl rfl rfl rfl ?_
 refine o_call Tryz.call152 rfl rfl (w_toIntS_c _ _ H.sub _ _ hr1 ) ?_
 rintro _ w7 ⟨G7, v7, _, g7, rfl, ⟨cs7, rfl, hchk7⟩, hp7, hq7, hs7⟩
 have H := H.growO g7 hp7 hq7 hs7; obtain ⟨av7, cv7, rfl⟩ := H.accShape (k := 0) rfl
 have hr1 := hr1.up g7.le
 refine ⟨_, rfl, ?_⟩
 refine o_fieldAddr 2 Tryz.runUnderlying39 rfl Tryz.sizeOf27 rfl rfl rfl ?_
 refine o_store_B 1 H Tryz.sizeOf27 rfl rfl rfl rfl rfl rfl rfl rfl ?_; intro w8 H
 refine q1 ?_
 refine o_loadagg_B 1 H Tryz.isAgg39 Tryz.sizeOf39 rfl rfl rfl rfl rfl ?_
 refine o_store_B 2 H Tryz.sizeOf39 rfl rfl rfl rfl rfl rfl rfl rfl ?_; intro w9 H
 refine q3 ?_
 refine W_ret ?_
 refine ret_gen (rs := [.cell 2 39]) (vs := [_]) Tryz.results110 ⟨⟨_, rfl, load_blk 2 H Tryz.isAgg39 Tryz.sizeOf39 rfl rfl rfl⟩, trivial⟩ ?_
 obtain ⟨Fi1, H, hOI1⟩ := H.ownI (k := 0) rfl hchk7 (by first | assumption | rfl | (simp; done) | (simp; omega) | omega) (by first | assumption | (simp; done) | (simp; omega) | omega)
 have H := H.del (k := 1) rfl
 have H := H.del (k := 1) rfl
 have H := H.del (k := 1) rfl
 have H := H.forget hG (by simp)
 exact ⟨_, _, rfl, H, _, _, rfl, rfl, ⟨_, _, _, rfl, hi1, hOI1⟩⟩
end Go.Proofs.Tst

namespace Go.Proofs.Tst
open Go Fw
theorem w_toHeldS_c (w0 : World) (G0 : PH) (hG : PSub G0 w0) (va : Value) (a : List (BHeld)) (ha : RdH G0 va a)  :
  Calls Tryz.prog 58 #[va] w0 (RetN w0 G0 (fun v Bs => ∃ (F : Fr), Bs = [frag F] ∧ OHs F v a)) := by
 obtain ⟨aa, ka, rfl⟩ := ha.shape
 have hlima : a.length ≤ 1099511627776 := ha.lim
 have H := Hp.init hG
 refine calls_of_W (l := [.slice aa a.length ka]) Tryz.func58 rfl Tryz.ntmps58 rfl ?_
 refine q2 ?_
 refine o_assign rfl rfl ?_
 refine q1 ?_
 refine o_move rfl rfl ?_
 refine o_len_slice Tryz.underlying45 rfl rfl ?_
 refine o_makeN (c := a.length) (sz := 3) (bytes := 40) H Tryz.underlying23 Tryz.typeInfo117 ⟨_, rfl, rfl⟩ rfl rfl rfl rfl rfl rfl rfl rfl rfl (by omega) rfl ?_; intro b1 w1 H
 have hchk1 := Chk.rep (E := heldE) (sz := 3) (G := G0) (x0 := ⟨0, [], 0⟩) (zeroHeld _) rfl (a.length)
 refine o_assign rfl rfl ?_
 refine q3 ?_
 refine W_seq ?_
 refine q2 ?_
 refine o_assign rfl rfl ?_
 refine q3 ?_
 refine W_block ?_
 have H := H.addF
 refine W_loop (hf := (Sub.cons (t := 0) rfl (Sub.cons (t := 2) rfl Sub.nil))) (J := fun M w m => ∃ (v : Value) (n : Nat) (cs : List Value) (xs : List (BHeld)) (F : Fr) (k : Nat) (G : PH), M = [(4, .int .i64 (k : Int)), (3, v)] ∧ PLe G0 G ∧ Hp w0 G0 [] w G [frag F, acc 117 3 v n cs] ∧ (ChkF heldO 3 cs xs F ∧ n = xs.length ∧ k ≤ a.length ∧ xs.length = a.length ∧ xs.take k = a.take k) ∧ m = (a.length - k)) (h0 := ⟨_, _, _, (List.replicate a.length ⟨0, [], 0⟩), [], 0, _, rfl, PLe.refl _, H, ?inv, rfl⟩) (hM := ?hM) (round := ?round)
 case hM => (repeat (first | exact Sub.nil | refine Sub.cons rfl ?_))
 case inv => exact ⟨(ChkF.rep zeroHeldO rfl (a.length)),  by first | rfl | simp | (simp; omega) | omega, (by simp)⟩
 case round =>
  rintro _ w2 _ ⟨v, n, cs, xs, F, k, G2, rfl, hle2, H, hinv2, rfl⟩
  have ha := ha.up hle2
  have hchk1 := hchk1.up hle2
  obtain ⟨hchk2_0, hn2_0, hinv2⟩ := hinv2
  obtain ⟨av2_0, cv2_0, rfl⟩ := H.accShape (k := 1) rfl
  obtain ⟨hk, hxl, hxt⟩ := hinv2
  refine W_seq ?_
  refine q2 ?_
  refine o_move rfl rfl ?_
  refine o_move rfl rfl ?_
  refine o_len_slice Tryz.underlying45 rfl rfl ?_
  refine o_lss rfl rfl rfl ?_
  refine q3 ?_
  refine W_cond rfl ?_ ?_
  ·intro hc3
   try simp only [nrm] at hc3
   refine W_skip ?_
   refine N_K ?_
   refine W_seq ?_
   refine W_block ?_
   refine W_region ?_
   refine o_move rfl rfl ?_
   refine o_move rfl rfl ?_
   refine o_move rfl rfl ?_
   refine o_move rfl rfl ?_
   refine o_index_P k ha Tryz.underlying45 Tryz.sizeOf140 rfl rfl rfl rfl (by first | omega | (simp; omega)) ?_; intro b4 o4 z4 q4 hz4 hE4 hrow4
   obtain ⟨a4, m4, c4, rfl, hi4, hr4, hj4⟩ := hE4; have hn_hr4 := hr4.len; have hx_hr4 : _ ≤ 1099511627776 := hr4.lim
   refine o_loadagg_P H Tryz.isAgg140 Tryz.sizeOf140 rfl rfl hrow4 rfl ?_
   refine o_call Tryz.call109 rfl rfl (w_toHeld_c _ _ H.sub _ _ ⟨_, _, _, rfl, ⟨by first | omega | (dsimp only; omega), by first | omega | (dsimp only; omega)⟩, hr4, ⟨by first | omega | (dsimp only; omega), by first | omega | (dsimp only; omega)⟩⟩ ) ?_
   rintro _ w5 ⟨_, _, rfl, H5', ⟨F5, cs5, rfl, rfl, hO5⟩⟩
   have H := H.readers (fp := []) (by simp) (PLe.refl _) H5'
   obtain ⟨oa5, om5, oc5, rfl, hi5, ho5, hj5⟩ := hO5
   refine ⟨_, rfl, ?_⟩
   obtain ⟨z6, hz6⟩ : ∃ z, xs[k]? = some z := ⟨_, List.getElem?_eq_getElem (by first | omega | (simp; omega))⟩
   obtain ⟨q6, P6, Fi6, Q6, hF6, hl6, hE6, hg6, hput6, hpu06⟩ := (hchk2_0).focus hz6
   rw [hF6] at H
   refine o_index_F 2 H k rfl Tryz.underlying23 Tryz.sizeOf117 rfl rfl rfl rfl (by first | omega | (simp; omega) | (simp; done)) ?_; intro ba6 hba6; cases hba6
   obtain ⟨oa6, om6, oc6, rfl, hi6, ho6, hj6⟩ := hE6
   have hbk6 : ChkF heldO 3 _ (xs.set k z6) _ := hpu06 _ z6 (show heldO _ _ _ from ⟨_, _, _, rfl, hi6, ho6, hj6⟩)
   have hsame6 : xs.set k z6 = xs := Fw.set_same hz6; rw [hsame6] at hbk6
   have hcl7 := (hbk6).length
   have hlt7 : k < xs.length := (List.getElem?_eq_some_iff.1 hz6).1
   refine o_store_A 2 H Tryz.sizeOf117 rfl rfl rfl rfl rfl (by simp only [vc, List.length_cons, List.length_nil]; omega) ?_; intro w7 H
   have H := H.toFront (k := 1) rfl
   have H := H.outFi; have H := H.del (k := 0) rfl
   have H := H.toFront (k := 2) rfl
   have H := H.toFront (k := 2) rfl; have H := H.toFront (k := 2) rfl; have H := H.toFront (k := 2) rfl
   have H := H.inFi
   have hchk7 := hput6 F5 z4 0 [_, _, _] (by simp) (show heldO _ _ _ from ⟨_, _, _, rfl, ⟨by first | omega | (dsimp only; omega), by first | omega | (dsimp only; omega)⟩, ho5, ⟨by first | omega | (dsimp only; omega), by first | omega | (dsimp only; omega)⟩⟩)
   refine R_nil ?_
   refine N_B ?_
   refine N_K ?_
   refine W_region ?_
   refine o_move rfl rfl ?_
   refine o_add rfl rfl rfl ⟨by omega, by omega⟩ ?_
   refine o_assign rfl rfl ?_
   refine R_nil ?_
   refine N_LP (hJ := ⟨_, _, _, (xs.set k z4), (P6 ++ (F5 ++ Q6)), k + 1, _, rfl, hle2, H, ?inv, rfl⟩) (hM := ?hM) (hf := ?hf) (hm := ?hm)
   case hM => (repeat (first | exact Sub.nil | refine Sub.cons rfl ?_))
   case hf => (repeat (first | exact Sub.nil | refine Sub.cons rfl ?_))
   case hm => omega
   case inv => exact ⟨hchk7, (by first | assumption | (simp; omega) | omega), (by exact ⟨by omega, by simp [hxl], Sp.take_set hxt hxl hz4⟩)⟩
  intro hc3'
  try simp only [nrm] at hc3'
  refine W_exit ?_
  refine N_K_exit ?_
  refine N_LP_exit ?_
  refine N_B_same ?_
  refine N_K ?_
  refine q2 ?_
  refine o_move rfl rfl ?_
  refine o_assign rfl rfl ?_
  refine q3 ?_
  refine W_ret ?_
  refine ret_gen (rs := [.tmp 2]) (vs := [_]) Tryz.results58 ⟨rfl, trivial⟩ ?_
  have hke : k = a.length := by omega
  have hxx : xs = a := by (have h9 := hxt; rw [hke, List.take_of_length_le (by omega), List.take_length] at h9; exact h9)
  have H := H.toFront (k := 1) rfl
  obtain ⟨Fo2, H, hOw2⟩ := H.ownF hchk2_0 (by first | assumption | rfl | (simp; done) | (simp; omega) | omega) (by first | assumption | (simp; done) | (simp; omega) | omega)
  have H := H.forget hG (by simp)
  exact ⟨_, _, rfl, H, _, rfl, hxx ▸ ⟨_, hOw2⟩⟩
theorem w_toItemS_c (w0 : World) (G0 : PH) (hG : PSub G0 w0) (va : Value) (a : List (BItem)) (ha : RdItems G0 va a)  :
  Calls Tryz.prog 59 #[va] w0 (RetN w0 G0 (fun v Bs => ∃ (F : Fr), Bs = [frag F] ∧ OIs F v a)) := by
 obtain ⟨aa, ka, rfl⟩ := ha.shape
 have hlima : a.length ≤ 1099511627776 := ha.lim
 have H := Hp.init hG
 refine calls_of_W (l := [.slice aa a.length ka]) Tryz.func59 rfl Tryz.ntmps59 rfl ?_
 refine q2 ?_
 refine o_assign rfl rfl ?_
 refine q1 ?_
 refine o_move rfl rfl ?_
 refine o_len_slice Tryz.underlying46 rfl rfl ?_
 refine o_makeN (c := a.length) (sz := 3) (bytes := 48) H Tryz.underlying24 Tryz.typeInfo39 ⟨_, rfl, rfl⟩ rfl rfl rfl rfl rfl rfl rfl rfl rfl (by omega) rfl ?_; intro b1 w1 H
 have hchk1 := Chk.rep (E := itemE) (sz := 3) (G := G0) (x0 := ⟨[], false, []⟩) (itemE.mk (by decide) (RdS.nil _ _ _)) rfl (a.length)
 refine o_assign rfl rfl ?_
 refine q3 ?_
 refine W_seq ?_
 refine q2 ?_
 refine o_assign rfl rfl ?_
 refine q3 ?_
 refine W_block ?_
 have H := H.addF
 refine W_loop (hf := (Sub.cons (t := 0) rfl (Sub.cons (t := 2) rfl Sub.nil))) (J := fun M w m => ∃ (v : Value) (n : Nat) (cs : List Value) (xs : List (BItem)) (F : Fr) (k : Nat) (G : PH), M = [(4, .int .i64 (k : Int)), (3, v)] ∧ PLe G0 G ∧ Hp w0 G0 [] w G [frag F, acc 39 3 v n cs] ∧ (ChkF itemO 3 cs xs F ∧ n = xs.length ∧ k ≤ a.length ∧ xs.length = a.length ∧ xs.take k = a.take k) ∧ m = (a.length - k)) (h0 := ⟨_, _, _, (List.replicate a.length ⟨[], false, []⟩), [], 0, _, rfl, PLe.refl _, H, ?inv, rfl⟩) (hM := ?hM) (round := ?round)
 case hM => (repeat (first | exact Sub.nil | refine Sub.cons rfl ?_))
 case inv => exact ⟨(ChkF.rep zeroItemO rfl (a.length)),  by first | rfl | simp | (simp; omega) | omega, (by simp)⟩
 case round =>
  rintro _ w2 _ ⟨v, n, cs, xs, F, k, G2, rfl, hle2, H, hinv2, rfl⟩
  have ha := ha.up hle2
  have hchk1 := hchk1.up hle2
  obtain ⟨hchk2_0, hn2_0, hinv2⟩ := hinv2
  obtain ⟨av2_0, cv2_0, rfl⟩ := H.accShape (k := 1) rfl
  obtain ⟨hk, hxl, hxt⟩ := hinv2
  refine W_seq ?_
  refine q2 ?_
  refine o_move rfl rfl ?_
  refine o_move rfl rfl ?_
  refine o_len_slice Tryz.underlying46 rfl rfl ?_
  refine o_lss rfl rfl rfl ?_
  refine q3 ?_
  refine W_cond rfl ?_ ?_
  ·intro hc3
   try simp only [nrm] at hc3
   refine W_skip ?_
   refine N_K ?_
   refine W_seq ?_
   refine W_block ?_
   refine W_region ?_
   refine o_move rfl rfl ?_
   refine o_move rfl rfl ?_
   refine o_move rfl rfl ?_
   refine o_move rfl rfl ?_
   refine o_index_P k ha Tryz.underlying46 Tryz.sizeOf142 rfl rfl rfl rfl (by first | omega | (simp; omega)) ?_; intro b4 o4 z4 q4 hz4 hE4 hrow4
   obtain ⟨a4, m4, c4, rfl, hi4, hr4⟩ := hE4; have hy_hi4 : _ ≤ 16777216 := hi4; have hn_hr4 := hr4.len; have hx_hr4 : _ ≤ 1099511627776 := hr4.lim
   refine o_loadagg_P H Tryz.isAgg142 Tryz.sizeOf142 rfl rfl hrow4 rfl ?_
   refine o_call Tryz.call110 rfl rfl (w_toItem_c _ _ H.sub _ _ ⟨_, _, _, rfl, hi4, hr4⟩ ) ?_
   rintro _ w5 ⟨_, _, rfl, H5', ⟨F5, cs5, rfl, rfl, hO5⟩⟩
   have H := H.readers (fp := []) (by simp) (PLe.refl _) H5'
   obtain ⟨oa5, om5, oc5, rfl, hi5, ho5⟩ := hO5
   refine ⟨_, rfl, ?_⟩
   obtain ⟨z6, hz6⟩ : ∃ z, xs[k]? = some z := ⟨_, List.getElem?_eq_getElem (by first | omega | (simp; omega))⟩
   obtain ⟨q6, P6, Fi6, Q6, hF6, hl6, hE6, hg6, hput6, hpu06⟩ := (hchk2_0).focus hz6
   rw [hF6] at H
   refine o_index_F 2 H k rfl Tryz.underlying24 Tryz.sizeOf39 rfl rfl rfl rfl (by first | omega | (simp; omega) | (simp; done)) ?_; intro ba6 hba6; cases hba6
   obtain ⟨oa6, om6, oc6, rfl, hi6, ho6⟩ := hE6; have hy_hi6 : _ ≤ 16777216 := hi6
   have hbk6 : ChkF itemO 3 _ (xs.set k z6) _ := hpu06 _ z6 (show itemO _ _ _ from ⟨_, _, _, rfl, hi6, ho6⟩)
   have hsame6 : xs.set k z6 = xs := Fw.set_same hz6; rw [hsame6] at hbk6
   have hcl7 := (hbk6).length
   have hlt7 : k < xs.length := (List.getElem?_eq_some_iff.1 hz6).1
   refine o_store_A 2 H Tryz.sizeOf39 rfl rfl rfl rfl rfl (by simp only [vc, List.length_cons, List.length_nil]; omega) ?_; intro w7 H
   have H := H.toFront (k := 1) rfl
   have H := H.outFi; have H := H.del (k := 0) rfl
   have H := H.toFront (k := 2) rfl
   have H := H.toFront (k := 2) rfl; have H := H.toFront (k := 2) rfl; have H := H.toFront (k := 2) rfl
   have H := H.inFi
   have hchk7 := hput6 F5 z4 0 [_, _, _] (by simp) (show itemO _ _ _ from ⟨_, _, _, rfl, hi5, ho5⟩)
   refine R_nil ?_
   refine N_B ?_
   refine N_K ?_
   refine W_region ?_
   refine o_move rfl rfl ?_
   refine o_add rfl rfl rfl ⟨by omega, by omega⟩ ?_
   refine o_assign rfl rfl ?_
   refine R_nil ?_
   refine N_LP (hJ := ⟨_, _, _, (xs.set k z4), (P6 ++ (F5 ++ Q6)), k + 1, _, rfl, hle2, H, ?inv, rfl⟩) (hM := ?hM) (hf := ?hf) (hm := ?hm)
   case hM => (repeat (first | exact Sub.nil | refine Sub.cons rfl ?_))
   case hf => (repeat (first | exact Sub.nil | refine Sub.cons rfl ?_))
   case hm => omega
   case inv => exact ⟨hchk7, (by first | assumption | (simp; omega) | omega), (by exact ⟨by omega, by simp [hxl], Sp.take_set hxt hxl hz4⟩)⟩
  intro hc3'
  try simp only [nrm] at hc3'
  refine W_exit ?_
  refine N_K_exit ?_
  refine N_LP_exit ?_
  refine N_B_same ?_
  refine N_K ?_
  refine q2 ?_
  refine o_move rfl rfl ?_
  refine o_assign rfl rfl ?_
  refine q3 ?_
  refine W_ret ?_
  refine ret_gen (rs := [.tmp 2]) (vs := [_]) Tryz.results59 ⟨rfl, trivial⟩ ?_
  have hke : k = a.length := by omega
  have hxx : xs = a := by (have h9 := hxt; rw [hke, List.take_of_length_le (by omega), List.take_length] at h9; exact h9)
  have H := H.toFront (k := 1) rfl
  obtain ⟨Fo2, H, hOw2⟩ := H.ownF hchk2_0 (by first | assumption | rfl | (simp; done) | (simp; omega) | omega) (by first | assumption | (simp; done) | (simp; omega) | omega)
  have H := H.forget hG (by simp)
  exact ⟨_, _, rfl, H, _, rfl, hxx ▸ ⟨_, hOw2⟩⟩
theorem w_toSnap_c (w0 : World) (G0 : PH) (hG : PSub G0 w0) (ca : List Value) (a : BSnap) (ha : snapE G0 a ca)  :
  Calls Tryz.prog 111 #[.agg ca.toArray] w0 (RetN w0 G0 (fun v Bs => ∃ (F : Fr) (cs : List Value), v = .agg cs.toArray ∧ Bs = [frag F] ∧ snapO F a cs)) := by
 obtain ⟨a1, m1, c1, rfl, hi1, hr1⟩ := ha; have hy_hi1 : _ ≤ 16777216 := hi1; have hn_hr1 := hr1.len; have hx_hr1 : _ ≤ 1099511627776 := hr1.lim
 have H := Hp.init hG
 refine calls_of_W (l := [_]) Tryz.func111 rfl Tryz.ntmps111 rfl ?_
 refine q2 ?_
 refine o_box H rfl rfl rfl ?_; intro b2 w2 hb2 H
 refine o_alloc H Tryz.zeroValue102 rfl rfl ?_; intro b3 w3 hb3 H
 refine q1 ?_
 refine o_alloc H Tryz.zeroValue102 rfl rfl ?_; intro b4 w4 hb4 H
 refine q1 ?_
 refine o_fieldAddr 0 Tryz.runUnderlying145 rfl Tryz.sizeOf9 rfl rfl rfl ?_
 refine o_load_B 2 H Tryz.isAgg9 rfl rfl rfl rfl ?_
 refine o_fieldAddr 0 Tryz.runUnderlying102 rfl Tryz.sizeOf9 rfl rfl rfl ?_
 refine o_store_B 0 H Tryz.sizeOf9 rfl rfl rfl rfl rfl rfl rfl rfl ?_; intro w5 H
 refine q1 ?_
 refine o_fieldAddr 1 Tryz.runUnderlying145 rfl Tryz.sizeOf46 rfl rfl rfl ?_
 refine o_load_B 2 H Tryz.isAgg46 rfl rfl rfl rfl ?_
 refine o_call Tryz.call59 rfl rfl (w_toItemS_c _ _ H.sub _ _ hr1 ) ?_
 rintro _ w6 ⟨_, _, rfl, H6', ⟨F6, rfl, hO6⟩⟩
 have H := H.readers (fp := []) (by simp) (PLe.refl _) H6'
 obtain ⟨e26, hP6⟩ := hO6
 obtain ⟨sa6, sc6, rfl⟩ := OwnS.shape hP6
 have hO6 := OIs.mk hP6
 refine ⟨_, rfl, ?_⟩
 refine o_fieldAddr 1 Tryz.runUnderlying102 rfl Tryz.sizeOf24 rfl rfl rfl ?_
 refine o_store_B 1 H Tryz.sizeOf24 rfl rfl rfl rfl rfl rfl rfl rfl ?_; intro w7 H
 refine q1 ?_
 refine o_loadagg_B 1 H Tryz.isAgg102 Tryz.sizeOf102 rfl rfl rfl rfl rfl ?_
 refine o_store_B 2 H Tryz.sizeOf102 rfl rfl rfl rfl rfl rfl rfl rfl ?_; intro w8 H
 refine q3 ?_
 refine W_ret ?_
 refine ret_gen (rs := [.cell 2 102]) (vs := [_]) Tryz.results111 ⟨⟨_, rfl, load_blk 2 H Tryz.isAgg102 Tryz.sizeOf102 rfl rfl rfl⟩, trivial⟩ ?_
 have H := H.del (k := 1) rfl
 have H := H.del (k := 1) rfl
 have H := H.del (k := 1) rfl
 have H := H.forget hG (by simp)
 exact ⟨_, _, rfl, H, _, _, rfl, rfl, ⟨_, _, _, rfl, hi1, hO6⟩⟩
theorem w_toSnapS_c (w0 : World) (G0 : PH) (hG : PSub G0 w0) (va : Value) (a : List (BSnap)) (ha : RdSn G0 va a)  :
  Calls Tryz.prog 60 #[va] w0 (RetN w0 G0 (fun v Bs => ∃ (F : Fr), Bs = [frag F] ∧ OSn F v a)) := by
 obtain ⟨aa, ka, rfl⟩ := ha.shape
 have hlima : a.length ≤ 1099511627776 := ha.lim
 have H := Hp.init hG
 refine calls_of_W (l := [.slice aa a.length ka]) Tryz.func60 rfl Tryz.ntmps60 rfl ?_
 refine q2 ?_
 refine o_assign rfl rfl ?_
 refine q1 ?_
 refine o_move rfl rfl ?_
 refine o_len_slice Tryz.underlying47 rfl rfl ?_
 refine o_makeN (c := a.length) (sz := 2) (bytes := 40) H Tryz.underlying51 Tryz.typeInfo102 ⟨_, rfl, rfl⟩ rfl rfl rfl rfl rfl rfl rfl rfl rfl (by omega) rfl ?_; intro b1 w1 H
 have hchk1 := Chk.rep (E := snapE) (sz := 2) (G := G0) (x0 := ⟨[], []⟩) (⟨_, _, _, rfl, by decide, RdS.nil _ _ _⟩) rfl (a.length)
 refine o_assign rfl rfl ?_
 refine q3 ?_
 refine W_seq ?_
 refine q2 ?_
 refine o_assign rfl rfl ?_
 refine q3 ?_
 refine W_block ?_
 have H := H.addF
 refine W_loop (hf := (Sub.cons (t := 0) rfl (Sub.cons (t := 2) rfl Sub.nil))) (J := fun M w m => ∃ (v : Value) (n : Nat) (cs : List Value) (xs : List (BSnap)) (F : Fr) (k : Nat) (G : PH), M = [(4, .int .i64 (k : Int)), (3, v)] ∧ PLe G0 G ∧ Hp w0 G0 [] w G [frag F, acc 102 2 v n cs] ∧ (ChkF snapO 2 cs xs F ∧ n = xs.length ∧ k ≤ a.length ∧ xs.length = a.length ∧ xs.take k = a.take k) ∧ m = (a.length - k)) (h0 := ⟨_, _, _, (List.replicate a.length ⟨[], []⟩), [], 0, _, rfl, PLe.refl _, H, ?inv, rfl⟩) (hM := ?hM) (round := ?round)
 case hM => (repeat (first | exact Sub.nil | refine Sub.cons rfl ?_))
 case inv => exact ⟨(ChkF.rep zeroSnapO rfl (a.length)),  by first | rfl | simp | (simp; omega) | omega, (by simp)⟩
 case round =>
  rintro _ w2 _ ⟨v, n, cs, xs, F, k, G2, rfl, hle2, H, hinv2, rfl⟩
  have ha := ha.up hle2
  have hchk1 := hchk1.up hle2
  obtain ⟨hchk2_0, hn2_0, hinv2⟩ := hinv2
  obtain ⟨av2_0, cv2_0, rfl⟩ := H.accShape (k := 1) rfl
  obtain ⟨hk, hxl, hxt⟩ := hinv2
  refine W_seq ?_
  refine q2 ?_
  refine o_move rfl rfl ?_
  refine o_move rfl rfl ?_
  refine o_len_slice Tryz.underlying47 rfl rfl ?_
  refine o_lss rfl rfl rfl ?_
  refine q3 ?_
  refine W_cond rfl ?_ ?_
  ·intro hc3
   try simp only [nrm] at hc3
   refine W_skip ?_
   refine N_K ?_
   refine W_seq ?_
   refine W_block ?_
   refine W_region ?_
   refine o_move rfl rfl ?_
   refine o_move rfl rfl ?_
   refine o_move rfl rfl ?_
   refine o_move rfl rfl ?_
   refine o_index_P k ha Tryz.underlying47 Tryz.sizeOf145 rfl rfl rfl rfl (by first | omega | (simp; omega)) ?_; intro b4 o4 z4 q4 hz4 hE4 hrow4
   obtain ⟨a4, m4, c4, rfl, hi4, hr4⟩ := hE4; have hy_hi4 : _ ≤ 16777216 := hi4; have hn_hr4 := hr4.len; have hx_hr4 : _ ≤ 1099511627776 := hr4.lim
   refine o_loadagg_P H Tryz.isAgg145 Tryz.sizeOf145 rfl rfl hrow4 rfl ?_
   refine o_call Tryz.call111 rfl rfl (w_toSnap_c _ _ H.sub _ _ ⟨_, _, _, rfl, hi4, hr4⟩ ) ?_
   rintro _ w5 ⟨_, _, rfl, H5', ⟨F5, cs5, rfl, rfl, hO5⟩⟩
   have H := H.readers (fp := []) (by simp) (PLe.refl _) H5'
   obtain ⟨oa5, om5, oc5, rfl, hi5, ho5⟩ := hO5
   refine ⟨_, rfl, ?_⟩
   obtain ⟨z6, hz6⟩ : ∃ z, xs[k]? = some z := ⟨_, List.getElem?_eq_getElem (by first | omega | (simp; omega))⟩
   obtain ⟨q6, P6, Fi6, Q6, hF6, hl6, hE6, hg6, hput6, hpu06⟩ := (hchk2_0).focus hz6
   rw [hF6] at H
   refine o_index_F 2 H k rfl Tryz.underlying51 Tryz.sizeOf102 rfl rfl rfl rfl (by first | omega | (simp; omega) | (simp; done)) ?_; intro ba6 hba6; cases hba6
   obtain ⟨oa6, om6, oc6, rfl, hi6, ho6⟩ := hE6; have hy_hi6 : _ ≤ 16777216 := hi6
   have hbk6 : ChkF snapO 2 _ (xs.set k z6) _ := hpu06 _ z6 (show snapO _ _ _ from ⟨_, _, _, rfl, hi6, ho6⟩)
   have hsame6 : xs.set k z6 = xs := Fw.set_same hz6; rw [hsame6] at hbk6
   have hcl7 := (hbk6).length
   have hlt7 : k < xs.length := (List.getElem?_eq_some_iff.1 hz6).1
   refine o_store_A 2 H Tryz.sizeOf102 rfl rfl rfl rfl rfl (by simp only [vc, List.length_cons, List.length_nil]; omega) ?_; intro w7 H
   have H := H.toFront (k := 1) rfl
   have H := H.outFi; have H := H.del (k := 0) rfl
   have H := H.toFront (k := 2) rfl
   have H := H.toFront (k := 2) rfl; have H := H.toFront (k := 2) rfl; have H := H.toFront (k := 2) rfl
   have H := H.inFi
   have hchk7 := hput6 F5 z4 0 [_, _] (by simp) (show snapO _ _ _ from ⟨_, _, _, rfl, hi5, ho5⟩)
   refine R_nil ?_
   refine N_B ?_
   refine N_K ?_
   refine W_region ?_
   refine o_move rfl rfl ?_
   refine o_add rfl rfl rfl ⟨by omega, by omega⟩ ?_
   refine o_assign rfl rfl ?_
   refine R_nil ?_
   refine N_LP (hJ := ⟨_, _, _, (xs.set k z4), (P6 ++ (F5 ++ Q6)), k + 1, _, rfl, hle2, H, ?inv, rfl⟩) (hM := ?hM) (hf := ?hf) (hm := ?hm)
   case hM => (repeat (first | exact Sub.nil | refine Sub.cons rfl ?_))
   case hf => (repeat (first | exact Sub.nil | refine Sub.cons rfl ?_))
   case hm => omega
   case inv => exact ⟨hchk7, (by first | assumption | (simp; omega) | omega), (by exact ⟨by omega, by simp [hxl], Sp.take_set hxt hxl hz4⟩)⟩
  intro hc3'
  try simp only [nrm] at hc3'
  refine W_exit ?_
  refine N_K_exit ?_
  refine N_LP_exit ?_
  refine N_B_same ?_
  refine N_K ?_
  refine q2 ?_
  refine o_move rfl rfl ?_
  refine o_assign rfl rfl ?_
  refine q3 ?_
  refine W_ret ?_
  refine ret_gen (rs := [.tmp 2]) (vs := [_]) Tryz.results60 ⟨rfl, trivial⟩ ?_
  have hke : k = a.length := by omega
  have hxx : xs = a := by (have h9 := hxt; rw [hke, List.take_of_length_le (by omega), List.take_length] at h9; exact h9)
  have H := H.toFront (k := 1) rfl
  obtain ⟨Fo2, H, hOw2⟩ := H.ownF hchk2_0 (by first | assumption | rfl | (simp; done) | (simp; omega) | omega) (by first | assumption | (simp; done) | (simp; omega) | omega)
  have H := H.forget hG (by simp)
  exact ⟨_, _, rfl, H, _, rfl, hxx ▸ ⟨_, hOw2⟩⟩
theorem w_toDisk_c (w0 : World) (G0 : PH) (hG : PSub G0 w0) (ca : List Value) (a : BDisk) (ha : diskE G0 a ca)  :
  Calls Tryz.prog 21 #[.agg ca.toArray] w0 (RetN w0 G0 (fun v Bs => ∃ (v1 v2 v3 : Value) (F1 F2 F3 : Fr), v = .agg #[v1, v2, v3] ∧ Bs = [frag F1, frag F2, frag F3] ∧ OHs F1 v1 a.store ∧ OIs F2 v2 a.tree ∧ OSn F3 v3 a.snaps)) := by
 obtain ⟨a1, m1, c1, a1', m1', c1', a1'', m1'', c1'', rfl, hr1, hr1', hr1''⟩ := ha; have hn_hr1 := hr1.len; have hx_hr1 : _ ≤ 1099511627776 := hr1.lim; have hn_hr1q := hr1'.len; have hx_hr1q : _ ≤ 1099511627776 := hr1'.lim; have hn_hr1qq := hr1''.len; have hx_hr1qq : _ ≤ 1099511627776 := hr1''.lim
 have H := Hp.init hG
 refine calls_of_W (l := [_]) Tryz.func21 rfl Tryz.ntmps21 rfl ?_
 refine q2 ?_
 refine o_box H rfl rfl rfl ?_; intro b2 w2 hb2 H
 refine o_alloc H Tryz.zeroValue53 rfl rfl ?_; intro b3 w3 hb3 H
 refine q1 ?_
 refine o_alloc H Tryz.zeroValue53 rfl rfl ?_; intro b4 w4 hb4 H
 refine q1 ?_
 refine o_fieldAddr 0 Tryz.runUnderlying49 rfl Tryz.sizeOf45 rfl rfl rfl ?_
 refine o_load_B 2 H Tryz.isAgg45 rfl rfl rfl rfl ?_
 refine o_call Tryz.call58 rfl rfl (w_toHeldS_c _ _ H.sub _ _ hr1 ) ?_
 rintro _ w5 ⟨_, _, rfl, H5', ⟨F5, rfl, hO5⟩⟩
 have H := H.readers (fp := []) (by simp) (PLe.refl _) H5'
 obtain ⟨e25, hP5⟩ := hO5
 obtain ⟨sa5, sc5, rfl⟩ := OwnS.shape hP5
 have hO5 := OHs.mk hP5
 refine ⟨_, rfl, ?_⟩
 refine o_fieldAddr 0 Tryz.runUnderlying53 rfl Tryz.sizeOf23 rfl rfl rfl ?_
 refine o_store_B 1 H Tryz.sizeOf23 rfl rfl rfl rfl rfl rfl rfl rfl ?_; intro w6 H
 refine q1 ?_
 refine o_fieldAddr 1 Tryz.runUnderlying49 rfl Tryz.sizeOf46 rfl rfl rfl ?_
 refine o_load_B 3 H Tryz.isAgg46 rfl rfl rfl rfl ?_
 refine o_call Tryz.call59 rfl rfl (w_toItemS_c _ _ H.sub _ _ hr1' ) ?_
 rintro _ w7 ⟨_, _, rfl, H7', ⟨F7, rfl, hO7⟩⟩
 have H := H.readers (fp := []) (by simp) (PLe.refl _) H7'
 obtain ⟨e27, hP7⟩ := hO7
 obtain ⟨sa7, sc7, rfl⟩ := OwnS.shape hP7
 have hO7 := OIs.mk hP7
 refine ⟨_, rfl, ?_⟩
 refine o_fieldAddr 1 Tryz.runUnderlying53 rfl Tryz.sizeOf24 rfl rfl rfl ?_
 refine o_store_B 2 H Tryz.sizeOf24 rfl rfl rfl rfl rfl rfl rfl rfl ?_; intro w8 H
 refine q1 ?_
 refine o_fieldAddr 2 Tryz.runUnderlying49 rfl Tryz.sizeOf47 rfl rfl rfl ?_
 refine o_load_B 4 H Tryz.isAgg47 rfl rfl rfl rfl ?_
 refine o_call Tryz.call60 rfl rfl (w_toSnapS_c _ _ H.sub _ _ hr1'' ) ?_
 rintro _ w9 ⟨_, _, rfl, H9', ⟨F9, rfl, hO9⟩⟩
 have H := H.readers (fp := []) (by simp) (PLe.refl _) H9'
 obtain ⟨e29, hP9⟩ := hO9
 obtain ⟨sa9, sc9, rfl⟩ := OwnS.shape hP9
 have hO9 := OSn.mk hP9
 refine ⟨_, rfl, ?_⟩
 refine o_fieldAddr 2 Tryz.runUnderlying53 rfl Tryz.sizeOf51 rfl rfl rfl ?_
 refine o_store_B 3 H Tryz.sizeOf51 rfl rfl rfl rfl rfl rfl rfl rfl ?_; intro w10 H
 refine q1 ?_
 refine o_loadagg_B 3 H Tryz.isAgg53 Tryz.sizeOf53 rfl rfl rfl rfl rfl ?_
 refine o_store_B 4 H Tryz.sizeOf53 rfl rfl rfl rfl rfl rfl rfl rfl ?_; intro w11 H
 refine q3 ?_
 refine W_ret ?_
 refine ret_gen (rs := [.cell 2 53]) (vs := [_]) Tryz.results21 ⟨⟨_, rfl, load_blk 4 H Tryz.isAgg53 Tryz.sizeOf53 rfl rfl rfl⟩, trivial⟩ ?_
 have H := H.del (k := 3) rfl
 have H := H.del (k := 3) rfl
 have H := H.del (k := 3) rfl
 have H := H.toFront (k := 1) rfl
 have H := H.toFront (k := 2) rfl
 have H := H.forget hG (by simp)
 exact ⟨_, _, rfl, H, _, _, _, _, _, _, rfl, rfl, hO5, hO7, hO9⟩
end Go.Proofs.Tst

namespace Go.Proofs.Tst
open Go Fw
theorem w_markText_c (w0 : World) (k : Int) (hk : k ≤ 2199023255552) :
  Calls Tryz.prog 124 #[.int .i64 k] w0 (Rets w0 (str (mtext k))) := by
 have H := Hp.init0 w0
 refine calls_of_W (l := [.int .i64 k]) Tryz.func124 rfl Tryz.ntmps124 rfl ?_
 refine q2 ?_
 refine o_assign rfl rfl ?_
 refine q3 ?_
 refine W_seq ?_
 refine q2 ?_
 refine o_move rfl rfl ?_
 refine o_leq rfl rfl rfl ?_
 refine q3 ?_
 refine W_cond rfl ?_ ?_
 ·intro hc1
  try simp only [nrm] at hc1
  refine q2 ?_
  refine o_assign rfl rfl ?_
  refine q3 ?_
  refine W_ret ?_
  refine N_K_ret ?_
  refine ret_gen (rs := [.tmp 2]) (vs := [_]) Tryz.results124 ⟨rfl, trivial⟩ ?_
  exact H.rets (by (rw [mtext, if_pos (by omega)]; rfl))
 intro hc1'
 try simp only [nrm] at hc1'
 refine W_skip ?_
 refine N_K ?_
 refine q2 ?_
 refine o_assign rfl rfl ?_
 refine q3 ?_
 refine W_seq ?_
 refine W_block ?_
 refine W_loop (hf := (Sub.cons (t := 2) rfl Sub.nil)) (J := fun M w m => ∃ (kk : Int) (out : Bs) (G : PH), M = [(0, .int .i64 kk), (3, str out)] ∧ PLe (fun _ => none) G ∧ Hp w0 (fun _ => none) [] w G [] ∧ (0 ≤ kk ∧ kk ≤ k ∧ digs k.toNat = digs kk.toNat ++ out) ∧ m = (kk.toNat)) (h0 := ⟨k, [], _, rfl, PLe.refl _, H, ?inv, rfl⟩) (hM := ?hM) (round := ?round)
 case hM => (repeat (first | exact Sub.nil | refine Sub.cons rfl ?_))
 case inv => exact ⟨by omega, by omega, by simp⟩
 case round =>
  rintro _ w2 _ ⟨kk, out, G2, rfl, hle2, H, hinv2, rfl⟩
  obtain ⟨hk0, hk1, hdg⟩ := hinv2; have hol : out.length ≤ 20 := (by have h8 := congrArg List.length hdg; have h9 := digs_len 13 k.toNat (by omega); simp at h8; omega)
  refine W_seq ?_
  refine q2 ?_
  refine o_move rfl rfl ?_
  refine o_gtr rfl rfl rfl ?_
  refine q3 ?_
  refine W_cond rfl ?_ ?_
  ·intro hc3
   try simp only [nrm] at hc3
   refine W_skip ?_
   refine N_K ?_
   refine W_block ?_
   refine q2 ?_
   refine o_move rfl rfl ?_
   refine o_rem rfl rfl rfl (by omega) (by omega) ?_
   refine o_add rfl rfl rfl ⟨by omega, by omega⟩ ?_
   refine o_conv (by simp [Tryz.underlying3]) Tryz.underlying5 rfl rfl (wrap_u8 ⟨by omega, by omega⟩) ?_
   refine o_buildSlice H Tryz.underlying22 Tryz.sizeOf5 (fun w => ⟨_, Tryz.zeroValue5 w, rfl⟩) rfl rfl rfl rfl rfl rfl rfl ?_; intro b5 w5 hb5 H
   refine o_convbytes1 0 H Tryz.underlying22 Tryz.underlying5 Tryz.underlying9 rfl rfl rfl ?_
   refine o_move rfl rfl ?_
   refine o_sadd rfl rfl rfl (by simp; omega) ?_
   refine o_assign rfl rfl ?_
   refine q3 ?_
   refine W_region ?_
   refine o_move rfl rfl ?_
   refine o_quo rfl rfl rfl (by omega) (by omega) (by omega) ?_
   refine o_assign rfl rfl ?_
   refine R_nil ?_
   refine N_B ?_
   have H := H.del (k := 0) rfl
   refine N_LP (hJ := ⟨kk / 10, ([UInt8.ofNat (48 + kk % 10).toNat] ++ out), _, rfl, hle2, H, ?inv, rfl⟩) (hM := ?hM) (hf := ?hf) (hm := ?hm)
   case hM => (repeat (first | exact Sub.nil | refine Sub.cons rfl ?_))
   case hf => (repeat (first | exact Sub.nil | refine Sub.cons rfl ?_))
   case hm => omega
   case inv => exact ⟨by omega, by omega, (by rw [hdg, digs_pos (n := kk.toNat) (by omega), show (48 + kk % 10).toNat = 48 + kk.toNat % 10 by omega, show (kk / 10).toNat = kk.toNat / 10 by omega, List.append_assoc])⟩
  intro hc3'
  try simp only [nrm] at hc3'
  refine W_exit ?_
  refine N_K_exit ?_
  refine N_LP_exit ?_
  refine N_B_same ?_
  refine N_K ?_
  refine q2 ?_
  refine o_move rfl rfl ?_
  refine o_sadd rfl rfl rfl (by simp; omega) ?_
  refine o_assign rfl rfl ?_
  refine q3 ?_
  refine W_ret ?_
  refine ret_gen (rs := [.tmp 2]) (vs := [_]) Tryz.results124 ⟨rfl, trivial⟩ ?_
  obtain rfl : kk = 0 := by omega
  exact H.rets (by (rw [mtext, if_neg (by omega), hdg, show (0 : Int).toNat = 0 from rfl, digs_zero]; rfl))
theorem w_markIntS_c (w0 : World) (G0 : PH) (hG : PSub G0 w0) (Fa : Fr) (va : Value) (a : List (Int)) (hOa : OI Fa va a) (k : Int) (hLent : Lent w0 G0 [frag Fa]) (hb : 0 ≤ k ∧ k + (cnt cI a : Int) ≤ 2199023255552) :
  Calls Tryz.prog 123 #[va, .int .i64 k] w0 (RetM w0 G0 (fps [frag Fa]) (fun G' v Bs => ∃ (F' : Fr), v = .int .i64 (k + (cnt cI a : Int)) ∧ Bs = [frag F'] ∧ OI F' va (mks mI cI k a))) := by
 obtain ⟨ea, hPa⟩ := hOa; have hlima : a.length ≤ 1099511627776 := hPa.1; obtain ⟨aa, ka, rfl⟩ := OwnS.shape hPa
 have H : Hp w0 G0 (fps [frag Fa]) w0 G0 [frag Fa] := hLent.hp
 obtain ⟨cla, Ra, H, hcka⟩ := H.openF hPa
 refine calls_of_W (l := [.slice aa a.length ka, .int .i64 k]) Tryz.func123 rfl Tryz.ntmps123 rfl ?_
 refine q2 ?_
 refine o_assign rfl rfl ?_
 refine q3 ?_
 refine W_seq ?_
 refine q2 ?_
 refine o_assign rfl rfl ?_
 refine q3 ?_
 refine W_block ?_
 refine W_loop (hf := (Sub.cons (t := 4) rfl Sub.nil)) (J := fun M w m => ∃ (v : Value) (n : Nat) (cs : List Value) (xs : List (Int)) (F : Fr) (i : Nat) (kk : Int) (G : PH), M = [(5, .int .i64 (i : Int)), (1, .int .i64 kk), (0, v)] ∧ PLe G0 G ∧ Hp w0 G0 (fps [frag Fa]) w G [acc ea 1 v n cs, frag F] ∧ (ChkF intO 1 cs xs F ∧ n = xs.length ∧ i ≤ a.length ∧ kk = k + (cnt cI (a.take i) : Int) ∧ xs = mks mI cI k (a.take i) ++ a.drop i ∧ v = .slice aa a.length ka) ∧ m = (a.length - i)) (h0 := ⟨_, _, _, a, Ra, 0, k, _, rfl, PLe.refl _, H, ?inv, rfl⟩) (hM := ?hM) (round := ?round)
 case hM => (repeat (first | exact Sub.nil | refine Sub.cons rfl ?_))
 case inv => exact ⟨hcka,  by first | rfl | simp | (simp; omega) | omega, (by simp [cnt, mks])⟩
 case round =>
  rintro _ w1 _ ⟨v, n, cs, xs, F, i, kk, G1, rfl, hle1, H, hinv1, rfl⟩
  obtain ⟨hchk1_0, hn1_0, hinv1⟩ := hinv1
  obtain ⟨av1_0, cv1_0, rfl⟩ := H.accShape (k := 0) rfl
  obtain ⟨hi, hkk, hxs, hv⟩ := hinv1; have hxl : xs.length = a.length := (by (rw [hxs]; exact half_len hi)); have hctk := cnt_tk (c := cI) a i
  refine W_seq ?_
  refine q2 ?_
  refine o_move rfl rfl ?_
  refine o_move rfl rfl ?_
  refine o_len_slice Tryz.underlying27 rfl rfl ?_
  refine o_lss rfl rfl rfl ?_
  refine q3 ?_
  refine W_cond rfl ?_ ?_
  ·intro hc2
   try simp only [nrm] at hc2
   refine W_skip ?_
   refine N_K ?_
   refine W_seq ?_
   refine W_block ?_
   refine q2 ?_
   refine o_move rfl rfl ?_
   refine o_move rfl rfl ?_
   refine o_move rfl rfl ?_
   obtain ⟨z3, hz3⟩ : ∃ z, xs[i]? = some z := ⟨_, List.getElem?_eq_getElem (by first | omega | (simp; omega))⟩
   obtain ⟨q3, P3, Fi3, Q3, hF3, hl3, hE3, hg3, hput3, hpu03⟩ := (hchk1_0).focus hz3
   rw [hF3] at H
   refine o_index_F 0 H i rfl Tryz.underlying27 Tryz.sizeOf3 rfl rfl rfl rfl (by first | omega | (simp; omega) | (simp; done)) ?_; intro ba3 hba3; cases hba3
   obtain ⟨rfl, rfl, hi3⟩ := hE3
   have hbk3 : ChkF intO 1 _ (xs.set i z3) _ := hpu03 [] z3 (show intO _ _ _ from ⟨rfl, rfl, hi3⟩)
   have hsame3 : xs.set i z3 = xs := Fw.set_same hz3; rw [hsame3] at hbk3
   have hat := half_at hxs hz3 hi; have hcl := cnt_le (c := cI) hat
   have hch : cI z3 = 1 := rfl
   have hcl4 := (hbk3).length
   have hlt4 : i < xs.length := (List.getElem?_eq_some_iff.1 hz3).1
   refine o_store_A 0 H Tryz.sizeOf3 rfl rfl rfl rfl rfl (by simp only [vc, List.length_cons, List.length_nil]; omega) ?_; intro w4 H
   have hchk4 := hput3 [] kk 0 [_] (by simp) (show intO _ _ _ from ⟨rfl, rfl, ⟨by omega, by omega⟩⟩)
   refine q3 ?_
   refine W_region ?_
   refine o_move rfl rfl ?_
   refine o_add rfl rfl rfl ⟨by omega, by omega⟩ ?_
   refine o_assign rfl rfl ?_
   refine R_nil ?_
   refine N_B ?_
   refine N_K ?_
   refine W_region ?_
   refine o_move rfl rfl ?_
   refine o_add rfl rfl rfl ⟨by omega, by omega⟩ ?_
   refine o_assign rfl rfl ?_
   refine R_nil ?_
   refine N_LP (hJ := ⟨_, _, _, (xs.set i kk), (P3 ++ ([] ++ Q3)), i + 1, (kk + 1), _, rfl, hle1, H, ?inv, rfl⟩) (hM := ?hM) (hf := ?hf) (hm := ?hm)
   case hM => (repeat (first | exact Sub.nil | refine Sub.cons rfl ?_))
   case hf => (repeat (first | exact Sub.nil | refine Sub.cons rfl ?_))
   case hm => omega
   case inv => exact ⟨hchk4, (by first | assumption | (simp; omega) | omega), (by exact ⟨by omega, by (rw [cnt_succ hat]; omega), half_step hxs hz3 hi hkk, hv⟩)⟩
  intro hc2'
  try simp only [nrm] at hc2'
  refine W_exit ?_
  refine N_K_exit ?_
  refine N_LP_exit ?_
  refine N_B_same ?_
  refine N_K ?_
  refine q2 ?_
  refine o_move rfl rfl ?_
  refine o_assign rfl rfl ?_
  refine q3 ?_
  refine W_ret ?_
  refine ret_gen (rs := [.tmp 4]) (vs := [_]) Tryz.results123 ⟨rfl, trivial⟩ ?_
  have hie : i = a.length := by omega
  have hxx : xs = mks mI cI k a := by (rw [hxs]; exact half_end hie)
  have hce := cnt_end (c := cI) hie
  have H := H.toFront (k := 1) rfl
  have H := H.toFront (k := 1) rfl
  obtain ⟨Fo1, H, hOw1⟩ := H.ownF hchk1_0 (by first | assumption | rfl | (simp; done) | (simp; omega) | omega) (by first | assumption | (simp; done) | (simp; omega) | omega)
  exact H.retM ⟨_, congrArg (Value.int .i64) (by (rw [hkk, hce])), rfl, hxx ▸ hv ▸ ⟨_, hOw1⟩⟩
end Go.Proofs.Tst

