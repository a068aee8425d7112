/- Part 5 of the proof: contracts of functions of the program. Conditions: none. -/
import Derived.Test.YtbhkgogeoafjjaaGreatDoorProg
import Derived.Test.YtbhkgogeoafjjaaGreatDoorG02
import Derived.Test.YtbhkgogeoafjjaaGreatDoorG03
import Derived.Test.YtbhkgogeoafjjaaGreatDoorG04
import Derived.Conc.MuLone
import Derived.KernelRfl
set_option linter.all false
set_option maxRecDepth 100000
set_option maxHeartbeats 1000000
namespace Go.Proofs.Tst
open Go Fw Tryz
theorem i_usedBy_c (w0 : World) (G0 : PH) (hG : PSub G0 w0) (mbs : Nat) (ess : Array MapEntry) (cks : Nat) (xss : List (Int × Value)) (Ls : List BHeld) (hbs : MapAt G0 mbs ess cks) (hms : MapIs (Value.int .i64) ess cks xss) (hSs : StR G0 xss Ls) (hVs : Sp.VH Ls) (vtrees : Value) (trees : List (Nd)) (htrees : RdNd G0 vtrees trees) (htl : trees.length ≤ 7) (htw : ∀ t, t ∈ trees → t.wf ∧ t.cnt ≤ 12) :
  Calls Tryz.prog 130 #[.map (some mbs), vtrees] w0 (Rets w0 (.bool (trees.all (fun t => (t.flat []).all (fun x => Sp.l4Ids Ls x.ids)) && Ls.all (fun h => decide ((Sp.cntT trees h.id : Int) = h.uses))))) := by
 obtain ⟨atrees, ktrees, rfl⟩ := htrees.shape
 have hlimtrees : trees.length ≤ 1099511627776 := htrees.lim
 have H := Hp.init hG
 refine calls_of_W (l := [.map (some mbs), .slice atrees trees.length ktrees]) func130 Z ntmps130 Z (q2 (aG Z (q1 (o_makeMap H Z ?_)))); intro b1 w1 hb1 H
 have hm1 := MapIs.empty (key := Value.int .i64) 0
 have hS1 := UsR.nil
 refine aG Z (q3 (W_seq (q2 (mV Z (o_len_slice underlying162 Z Z (mV Z (q3 (W_block ?_))))))))
 refine W_lp (hf := (Sub.cons (t := 0) Z (Sub.cons (t := 5) Z (Sub.cons (t := 15) Z (Sub.cons (t := 16) Z Sub.nil))))) (J := fun M w m => ∃ (esm0 : Array MapEntry) (ckm0 : Nat) (xsm0 : List (Int × Value)) (fm0 : Int → Nat) (i : Nat) (G : PH), M = [(17, .int .i64 (i : Int))] ∧ PLe G0 G ∧ Hp w0 G0 [] w G [blk b1 (.map esm0 ckm0)] ∧ (MapIs (Value.int .i64) esm0 ckm0 xsm0 ∧ UsR xsm0 fm0 ∧ i ≤ trees.length ∧ (∀ a, fm0 a = Sp.cntT (trees.take i) a ∧ fm0 a ≤ 48 * i) ∧ (trees.take i).all (fun t => (t.flat []).all (fun x => Sp.l4Ids Ls x.ids)) = true) ∧ m = (trees.length - i)) (h0 := ⟨_, _, [], (fun _ => 0), 0, _, Z, PLe.refl _, H, ?inv, Z⟩) (round := ?round)
 case inv => exact ⟨hm1, hS1, (by simp [Sp.cntT])⟩
 case round =>
  rintro _ w2 _ ⟨esm0, ckm0, xsm0, fm0, i, G2, rfl, hle2, H, hinv2, rfl⟩
  have hSs := hSs.up hle2
  have hbs := hbs.up hle2
  have htrees := htrees.up hle2
  obtain ⟨hm2_m0, hS2_m0, hinv2⟩ := hinv2
  obtain ⟨hi, hf, hok⟩ := hinv2
  refine q2 (o_lss Z Z Z (q3 (W_seq ?_)))
  refine W_cond Z ?_ ?_
  ·intro hc3
   try simp only [nrm] at hc3
   refine W_skip (N_K (W_seq (W_block (q2 (o_index_P i htrees underlying162 sizeOf93 Z Z Z Z aN ?_))))); intro b4 o4 z4 q4 hz4 hE4 hrow4
   obtain ⟨rfl, hnd4⟩ := hE4; obtain ⟨hnl4, na4, nm4, nc4, nA4, nM4, nC4, hpr4, hri4, hrk4⟩ := hnd4.open; have hn_hri4 := hri4.len; have hx_hri4 : _ ≤ 1099511627776 := hri4.lim; have hn_hrk4 := hrk4.len; have hx_hrk4 : _ ≤ 1099511627776 := hrk4.lim
   try (have hzw := htw z4 (List.mem_of_getElem? hz4); have hzf := Nd.flat_len [] z4)
   refine o_load_P H isAgg93 Z Z (hrow4 0 _ Z) (aG Z (q1 (mV Z (o_call call138 Z Z (i_tlist_c _ _ H.sub _ hnd4 hzw.1 oM) ?_))))
   rintro _ w5 ⟨_, _, rfl, H5', ⟨F5, rfl, hO5⟩⟩
   have H := H.readers (fp := []) (by simp) (PLe.refl _) H5'
   obtain ⟨e25, hP5⟩ := hO5
   obtain ⟨sa5, sc5, rfl⟩ := OwnS.shape hP5
   have hO5 := OIs.mk hP5
   refine ⟨_, Z, ?_⟩
   have hdm1 := dm_nodup H (k := 0) rfl; obtain ⟨Gk1, H, hkl1, hks1⟩ := H.keepF (k := 0) rfl (fun b _ hb => by simp at hb)
   have hrk1 := hO5.rd hks1 hdm1
   have hSs := hSs.up hkl1
   have hbs := hbs.up hkl1
   have hle2 := hle2.trans hkl1
   have hn_hrk1 := hrk1.len
   refine o_len_slice underlying29 Z Z (mV Z (q3 (W_block ?_)))
   refine W_lp (hf := (Sub.cons (t := 0) Z (Sub.cons (t := 5) Z (Sub.cons (t := 15) Z (Sub.cons (t := 16) Z (Sub.cons (t := 17) Z (Sub.cons (t := 22) Z (Sub.cons (t := 23) Z Sub.nil)))))))) (J := fun M w m => ∃ (esm0 : Array MapEntry) (ckm0 : Nat) (xsm0 : List (Int × Value)) (fm0 : Int → Nat) (jj : Nat) (G : PH), M = [(24, .int .i64 (jj : Int))] ∧ PLe Gk1 G ∧ Hp w0 G0 [] w G [blk b1 (.map esm0 ckm0)] ∧ (MapIs (Value.int .i64) esm0 ckm0 xsm0 ∧ UsR xsm0 fm0 ∧ jj ≤ (z4.flat []).length ∧ (∀ a, fm0 a = Sp.cntT (trees.take i) a + Sp.cntU (z4.flat []) a jj ∧ fm0 a ≤ 48 * i + 4 * jj) ∧ ((z4.flat []).take jj).all (fun x => Sp.l4Ids Ls x.ids) = true) ∧ m = ((z4.flat []).length - jj)) (h0 := ⟨_, _, xsm0, fm0, 0, _, Z, PLe.refl _, H, ?inv, Z⟩) (round := ?round)
   case inv => exact ⟨hm2_m0, hS2_m0, (by exact ⟨by omega, fun a => (by have := hf a; simp [Sp.cntU]; omega), by simp⟩)⟩
   case round =>
    rintro _ w6 _ ⟨esm0, ckm0, xsm0, fm0, jj, G6, rfl, hle6, H, hinv6, rfl⟩
    have hSs := hSs.up hle6
    have hbs := hbs.up hle6
    have hrk1 := hrk1.up hle6
    have hle2 := hle2.trans hle6
    obtain ⟨hm6_m0, hS6_m0, hinv6⟩ := hinv6
    obtain ⟨hjl, hf2, hok2⟩ := hinv6
    refine q2 (o_lss Z Z Z (q3 (W_seq ?_)))
    refine W_cond Z ?_ ?_
    ·intro hc7
     try simp only [nrm] at hc7
     refine W_skip (N_K (W_seq (W_block (q2 (o_index_P jj hrk1 underlying29 sizeOf66 Z Z Z Z aN ?_))))); intro b8 o8 z8 q8 hz8 hE8 hrow8
     obtain ⟨a8, m8, c8, rfl, hi8, hr8⟩ := hE8; have hy_hi8 : _ ≤ 16777216 := hi8; have hn_hr8 := hr8.len; have hx_hr8 : _ ≤ 1099511627776 := hr8.lim
     try (have hzw := htw z8 (List.mem_of_getElem? hz8); have hzf := Nd.flat_len [] z8)
     refine o_loadagg_P H isAgg66 sizeOf66 Z Z hrow8 Z (o_alloc H zeroValue66 Z Z ?_); intro b9 w9 hb9 H
     refine o_store_B 0 H sizeOf66 Z Z Z Z Z Z Z Z ?_; intro w10 H
     refine q3 (W_seq (q2 (mV Z (o_fieldAddr 2 runUnderlying66 Z sizeOf41 Z Z Z (o_load_B 0 H isAgg41 Z Z Z Z (o_call call165 Z Z (i_fileIds_c _ _ H.sub _ _ _ _ _ hbs hms hSs hVs _ _ hr8 ) ?_))))))
     rintro _ w11 ⟨rfl, ew11⟩; have H := H.step ew11; refine ⟨_, rfl, ?_⟩
     refine o_not Z Z (q3 ?_)
     refine W_cond Z ?_ ?_
     ·intro hc12
      try simp only [nrm] at hc12
      refine q2 (aG Z (q3 (W_ret (N_K_ret (N_B_ret (N_K_ret (N_LP_ret (N_B_ret (N_B_ret (N_K_ret (N_LP_ret (N_B_ret (N_K_ret (rt1 results130 Z ?_))))))))))))))
      exact H.rets (congrArg Value.bool (by rw [Sp.all_false hz4 (Sp.all_false hz8 (by simpa using hc12)), Bool.false_and]))
     intro hc12'
     try simp only [nrm] at hc12'
     have hio : Sp.l4Ids Ls z8.ids = true := by simpa using hc12'
     have hil := Sp.ids_le hio
     refine W_skip (N_K (q2 (o_fieldAddr 2 runUnderlying66 Z sizeOf41 Z Z Z (o_load_B 0 H isAgg41 Z Z Z Z (o_len_slice underlying41 Z Z (mV Z (q3 (W_block ?_))))))))
     obtain ⟨ln13, hln13, H⟩ := H.name (k := 0) rfl
     refine W_lp (hf := (Sub.cons (t := 0) Z (Sub.cons (t := 5) Z (Sub.cons (t := 15) Z (Sub.cons (t := 16) Z (Sub.cons (t := 17) Z (Sub.cons (t := 22) Z (Sub.cons (t := 23) Z (Sub.cons (t := 24) Z (Sub.cons (t := 34) Z (Sub.cons (t := 35) Z Sub.nil))))))))))) (J := fun M w m => ∃ (esm0 : Array MapEntry) (ckm0 : Nat) (xsm0 : List (Int × Value)) (fm0 : Int → Nat) (kk : Nat) (G : PH), M = [(36, .int .i64 (kk : Int))] ∧ PLe G6 G ∧ Hp w0 G0 [] w G [blk b9 (cl ln13 66), blk b1 (.map esm0 ckm0)] ∧ (MapIs (Value.int .i64) esm0 ckm0 xsm0 ∧ UsR xsm0 fm0 ∧ kk ≤ z8.ids.length ∧ (∀ a, fm0 a = Sp.cntT (trees.take i) a + Sp.cntU (z4.flat []) a jj + Sp.cnt1 a (z8.ids.take kk) ∧ fm0 a ≤ 48 * i + 4 * jj + kk)) ∧ m = (z8.ids.length - kk)) (h0 := ⟨_, _, xsm0, fm0, 0, _, Z, PLe.refl _, H, ?inv, Z⟩) (round := ?round)
     case inv => exact ⟨hm6_m0, hS6_m0, (by exact ⟨by omega, fun a => (by have := hf2 a; simp [Sp.cnt1]; omega)⟩)⟩
     case round =>
      rintro _ w14 _ ⟨esm0, ckm0, xsm0, fm0, kk, G14, rfl, hle14, H, hinv14, rfl⟩
      subst hln13
      have hr8 := hr8.up hle14
      have hle6 := hle6.trans hle14
      obtain ⟨hm14_m0, hS14_m0, hinv14⟩ := hinv14
      obtain ⟨hkl, hf3⟩ := hinv14; have hb3 := fun a => (hf3 a).2
      refine q2 (o_lss Z Z Z (q3 (W_seq ?_)))
      refine W_cond Z ?_ ?_
      ·intro hc15
       try simp only [nrm] at hc15
       refine W_skip (N_K (W_seq (W_block (q2 (o_index_P kk hr8 underlying41 sizeOf3 Z Z Z Z aN ?_))))); intro b16 o16 z16 q16 hz16 hE16 hrow16
       obtain ⟨rfl, hi16⟩ := hE16
       refine o_load_P H isAgg3 Z Z (hrow16 0 _ Z) (aG Z (q3 (W_region (mV Z (mV Z (o_lookU (H.at (k := 1) Z) hm14_m0 hS14_m0 underlying192 underlying3 zeroValue3 Z Z Z ?_))))))
       try (have h7 := hb3 z16)
       refine o_add Z Z Z oO (o_updU 1 H (fm0 z16 + 1) Z hm14_m0 hS14_m0 underlying192 underlying3 Z Z Z oM ?_); intro es19 ck19 xs19 w19 H hm19 hS19
       refine R_nil (N_B (N_K (W_region (o_add Z Z Z oO (mV Z (R_nil ?_))))))
       refine N_lp (hJ := ⟨_, _, xs19, (fun a => if a = z16 then (fm0 z16 + 1) else fm0 a), kk + 1, _, Z, hle14, H, ?inv, Z⟩) (hm := ?hm)
       case hm => omega
       case inv => exact ⟨hm19, hS19, (by exact ⟨by omega, fun a => (by have h9 := hf3 a; have h7 := hf3 z16; (rw [Sp.cnt1_succ hz16]); by_cases e : a = z16; (· subst e; simp; omega); (· have e2 : ¬ z16 = a := fun h => e h.symm; simp only [e, e2, if_false]; omega))⟩)⟩
      intro hc15'
      try simp only [nrm] at hc15'
      refine W_exit (N_K_exit (N_LP_exit (N_B_same (N_B (N_K (W_region (o_add Z Z Z oO (mV Z (R_nil ?_)))))))))
      have H := H.del (k := 0) rfl
      refine N_lp (hJ := ⟨_, _, xsm0, fm0, jj + 1, _, Z, hle6, H, ?inv, Z⟩) (hm := ?hm)
      case hm => omega
      case inv => exact ⟨hm14_m0, hS14_m0, (by exact ⟨by omega, fun a => (by have h9 := hf3 a; (rw [Sp.cntU_succ hz8]); (rw [List.take_of_length_le (l := z8.ids) oM] at h9); omega), Sp.all_take hok2 hz8 hio⟩)⟩
    intro hc7'
    try simp only [nrm] at hc7'
    refine W_exit (N_K_exit (N_LP_exit (N_B_same (N_B (N_K (W_region (o_add Z Z Z oO (mV Z (R_nil ?_)))))))))
    refine N_lp (hJ := ⟨_, _, xsm0, fm0, i + 1, _, Z, hle2, H, ?inv, Z⟩) (hm := ?hm)
    case hm => omega
    case inv => exact ⟨hm6_m0, hS6_m0, (by exact ⟨by omega, fun a => (by have h9 := hf2 a; have h10 := Sp.cntT_succ (id := a) hz4; have h8 : (z4.flat []).length = jj := oM; (rw [h8] at h10); omega), Sp.all_take hok hz4 (by (rw [List.take_of_length_le (l := z4.flat []) oM] at hok2); exact hok2)⟩)⟩
  intro hc3'
  try simp only [nrm] at hc3'
  refine W_exit (N_K_exit (N_LP_exit (N_B_same (N_K (W_seq (q2 (mV Z ?_)))))))
  have hmb23 := (hbs.at H.sub); refine o_range H hmb23 underlying92 rfl rfl ?_; intro r23 w23 hr23 H _; have hne23 : r23 ≠ mbs := fun e => by have := (Array.getElem?_eq_some_iff.1 hmb23).1; omega
  refine q3 (W_block ?_)
  refine W_lp (hf := (Sub.cons (t := 5) Z (Sub.cons (t := 48) Z Sub.nil))) (J := fun M w m => ∃  (sn : Array Nat) (G : PH), M = [] ∧ PLe G2 G ∧ Hp w0 G0 [] w G [blk r23 (.mapIter (some mbs) cks sn cks), blk b1 (.map esm0 ckm0)] ∧ (∀ y, y ∈ Ls → seenH ess sn y → (Sp.cntT trees y.id : Int) = y.uses) ∧ m = ((leftOf ess sn).size)) (h0 := ⟨#[], _, Z, PLe.refl _, H, ?inv, Z⟩) (round := ?round)
  case inv => rintro y hy ⟨e, _, _, he⟩; simp at he
  case round =>
   rintro _ w24 _ ⟨sn, G24, rfl, hle24, H, hinv24, rfl⟩
   have hSs := hSs.up hle24
   have hbs := hbs.up hle24
   have hsn := hinv24
   refine q2 ?_
   refine o_next 0 H (hbs.at H.sub) hms hSs Z hne23 Z Z ?_ ?_
   ·intro hall25
    refine o_extract Z Z Z (q3 (W_seq (W_false Z (W_exit (N_K_exit (N_LP_exit (N_B_same (N_K (q2 (aG Z (q3 (W_ret (rt1 results130 Z ?_)))))))))))))
    have hot := hok; rw [List.take_of_length_le oM] at hot
    exact H.rets (congrArg Value.bool (by (rw [hot, Bool.true_and]); symm; (rw [List.all_eq_true]); intro y hy; simp only [decide_eq_true_eq]; exact hsn y hy (hall25 y hy)))
   intro e25 y25 q25 w25 he25 hk25 hv25 hy25 hE25 _ hless25 H
   obtain ⟨a25, m25, c25, rfl, hi25, hr25, hj25⟩ := hE25; have hn_hr25 := hr25.len; have hx_hr25 : _ ≤ 1099511627776 := hr25.lim
   refine o_extract Z Z Z (q3 (W_seq (W_true Z (W_skip (N_K (W_block (q2 (o_entry 0 H (hbs.at H.sub) hms Z he25 hk25 hv25 Z Z (o_extract Z Z Z (o_extract Z Z Z (o_alloc H zeroValue131 Z Z ?_))))))))))); intro b26 w26 hb26 H
   refine aG Z (o_store_B 0 H sizeOf131 Z Z Z Z Z Z Z Z ?_); intro w27 H
   refine q1 (mV Z (mV Z (o_lookU (H.at (k := 2) Z) hm2_m0 hS2_m0 underlying192 underlying3 zeroValue3 Z Z Z (o_fieldAddr 2 runUnderlying131 Z sizeOf3 Z Z Z (o_load_B 0 H isAgg3 Z Z Z Z (o_neq Z Z Z (q3 ?_)))))))
   refine W_cond Z ?_ ?_
   ·intro hc29
    try simp only [nrm] at hc29
    refine q2 (aG Z (q3 (W_ret (N_B_ret (N_LP_ret (N_B_ret (N_K_ret (rt1 results130 Z ?_))))))))
    have hft : ∀ a, fm0 a = Sp.cntT trees a := fun a => (by have h9 := (hf a).1; (rw [List.take_of_length_le oM] at h9); exact h9)
    have hot := hok; rw [List.take_of_length_le oM] at hot
    exact H.rets (congrArg Value.bool (by (rw [hot, Bool.true_and]); symm; (rw [List.all_eq_false]); exact ⟨_, hy25, by simp only [decide_eq_true_eq]; (rw [← hft]); first | exact hc29 | (simpa using hc29) | omega⟩))
   intro hc29'
   try simp only [nrm] at hc29'
   refine W_skip (N_B ?_)
   have H := H.del (k := 0) rfl
   refine N_lp (hJ := ⟨_, _, Z, hle24, H, ?inv, Z⟩) (hm := ?hm)
   case hm => exact hless25
   case inv => intro y hy hs; rcases seenH_push hms (hSs.nd hms) he25 hk25 hy25 hy hs with rfl | h; (· (have h9 := (hf y.id).1; (rw [List.take_of_length_le oM] at h9); (rw [← h9]); first | exact hc29' | (simpa using hc29') | omega)); exact hsn y hy h
end Go.Proofs.Tst

namespace Go.Proofs.Tst
open Go Fw Tryz
theorem i_StoreValid_c (w0 : World) (G0 : PH) (hG : PSub G0 w0) (vlist : Value) (list : List (BHeld)) (hlist : RdH G0 vlist list)  :
  Calls Tryz.prog 182 #[vlist] w0 (Rets w0 (.bool (Sp.StoreValid list))) := by
 obtain ⟨alist, klist, rfl⟩ := hlist.shape
 have hlimlist : list.length ≤ 1099511627776 := hlist.lim
 have H := Hp.init hG
 refine calls_of_W (l := [.slice alist list.length klist]) func182 Z ntmps182 Z (q2 (aG Z (q3 (W_seq (q2 (mV Z (o_len_slice underlying28 Z Z (o_gtr Z Z Z (q3 ?_)))))))))
 refine W_cond Z ?_ ?_
 ·intro hc1
  try simp only [nrm] at hc1
  refine q2 (aG Z (q3 (W_ret (N_K_ret (rt1 results182 Z ?_)))))
  exact H.rets (congrArg Value.bool (by rw [Sp.sv_long oM]))
 intro hc1'
 try simp only [nrm] at hc1'
 refine W_skip (N_K (q2 (aG Z (q3 (W_seq (q2 (mV Z (o_len_slice underlying28 Z Z (mV Z (q3 (W_block ?_)))))))))))
 refine W_lp (hf := (Sub.cons (t := 0) Z (Sub.cons (t := 11) Z (Sub.cons (t := 12) Z Sub.nil)))) (J := fun M w m => ∃ (k : Nat) (la : Int) (G : PH), M = [(13, .int .i64 (k : Int)), (3, .int .i64 la)] ∧ PLe G0 G ∧ Hp w0 G0 [] w G [] ∧ (k ≤ list.length ∧ la = Sp.lastId list k ∧ (∀ j, j < k → Sp.okH list j = true) ∧ inI la) ∧ m = (list.length - k)) (h0 := ⟨0, 0, _, Z, PLe.refl _, H, ?inv, Z⟩) (round := ?round)
 case inv => exact ⟨by omega, rfl, fun j hj => by omega, by decide⟩
 case round =>
  rintro _ w2 _ ⟨k, la, G2, rfl, hle2, H, hinv2, rfl⟩
  have hlist := hlist.up hle2
  obtain ⟨hk, hla, hall, hlai⟩ := hinv2
  refine q2 (o_lss Z Z Z (q3 (W_seq ?_)))
  refine W_cond Z ?_ ?_
  ·intro hc3
   try simp only [nrm] at hc3
   refine W_skip (N_K (W_seq (W_block (q2 (mV Z (o_index_P k hlist underlying28 sizeOf131 Z Z Z Z aN ?_)))))); intro b4 o4 z4 q4 hz4 hE4 hrow4
   obtain ⟨a4, m4, c4, rfl, hi4, hr4, hj4⟩ := hE4; have hn_hr4 := hr4.len; have hx_hr4 : _ ≤ 1099511627776 := hr4.lim
   refine o_loadagg_P H isAgg131 sizeOf131 Z Z hrow4 Z (o_alloc H zeroValue131 Z Z ?_); intro b5 w5 hb5 H
   refine aG Z (o_store_B 0 H sizeOf131 Z Z Z Z Z Z Z Z ?_); intro w6 H
   refine q3 (W_seq (q2 (o_fieldAddr 0 runUnderlying131 Z sizeOf3 Z Z Z (o_load_B 0 H isAgg3 Z Z Z Z (mV Z (o_leq Z Z Z (mV Z ?_)))))))
   refine R_case (t := 22) Z ?_ ?_
   ·intro hc7
    try simp only [nrm] at hc7
    refine rP Z (rP Z (rP Z (o_pick_t Z Z Z (mV Z (rP Z (rP Z (rP Z (o_pick_t Z Z Z (mV Z (rP Z (rP Z (rP Z (o_pick_t Z Z Z (mV Z (rP Z ?_)))))))))))))))
    refine rP Z (rP Z (rP Z (o_pick_t Z Z Z (q3 (W_true Z (q2 (aG Z (q3 (W_ret (N_K_ret (N_B_ret (N_K_ret (N_LP_ret (N_B_ret (N_K_ret ?_)))))))))))))))
    refine rt1 results182 Z ?_
    exact H.rets (congrArg Value.bool (by rw [Sp.sv_false (k := k) oM (Sp.okH_last hz4 oM)]))
   intro hc7'
   try simp only [nrm] at hc7'
   refine gR Z (o_fieldAddr 0 runUnderlying131 Z sizeOf3 Z Z Z (gR Z (o_load_B 0 H isAgg3 Z Z Z Z (gR Z (o_gtr Z Z Z (o_pick_f Z Z Z (mV Z ?_)))))))
   refine R_case (t := 27) Z ?_ ?_
   ·intro hc8
    try simp only [nrm] at hc8
    refine rP Z (rP Z (rP Z (o_pick_t Z Z Z (mV Z (rP Z (rP Z (rP Z (o_pick_t Z Z Z (mV Z (rP Z (rP Z (rP Z (rP Z (o_pick_t Z Z Z (q3 ?_)))))))))))))))
    refine W_true Z (q2 (aG Z (q3 (W_ret (N_K_ret (N_B_ret (N_K_ret (N_LP_ret (N_B_ret (N_K_ret (rt1 results182 Z ?_)))))))))))
    exact H.rets (congrArg Value.bool (by rw [Sp.sv_false (k := k) oM (Sp.okH_id hz4 oM)]))
   intro hc8'
   try simp only [nrm] at hc8'
   refine gR Z (o_fieldAddr 2 runUnderlying131 Z sizeOf3 Z Z Z (gR Z (o_load_B 0 H isAgg3 Z Z Z Z (gR Z (o_lss Z Z Z (o_pick_f Z Z Z (mV Z ?_)))))))
   refine R_case (t := 32) Z ?_ ?_
   ·intro hc9
    try simp only [nrm] at hc9
    refine rP Z (rP Z (rP Z (o_pick_t Z Z Z (mV Z (rP Z (rP Z (rP Z (rP Z (o_pick_t Z Z Z (q3 (W_true Z (q2 (aG Z (q3 (W_ret ?_)))))))))))))))
    refine N_K_ret (N_B_ret (N_K_ret (N_LP_ret (N_B_ret (N_K_ret (rt1 results182 Z ?_))))))
    exact H.rets (congrArg Value.bool (by rw [Sp.sv_false (k := k) oM (Sp.okH_id hz4 oM)]))
   intro hc9'
   try simp only [nrm] at hc9'
   refine gR Z (o_fieldAddr 2 runUnderlying131 Z sizeOf3 Z Z Z (gR Z (o_load_B 0 H isAgg3 Z Z Z Z (gR Z (o_gtr Z Z Z (o_pick_f Z Z Z (mV Z ?_)))))))
   refine R_case (t := 37) Z ?_ ?_
   ·intro hc10
    try simp only [nrm] at hc10
    refine rP Z (rP Z (rP Z (rP Z (o_pick_t Z Z Z (q3 (W_true Z (q2 (aG Z (q3 (W_ret (N_K_ret (N_B_ret (N_K_ret (N_LP_ret (N_B_ret ?_)))))))))))))))
    refine N_K_ret (rt1 results182 Z ?_)
    exact H.rets (congrArg Value.bool (by rw [Sp.sv_false (k := k) oM (Sp.okH_id hz4 oM)]))
   intro hc10'
   try simp only [nrm] at hc10'
   refine gR Z (o_fieldAddr 1 runUnderlying131 Z sizeOf41 Z Z Z (gR Z (o_load_B 0 H isAgg41 Z Z Z Z (gR Z (o_call call207 Z Z (i_BlockValid_c _ _ H.sub _ _ hr4 ) ?_)))))
   rintro _ w11 ⟨rfl, ew11⟩; have H := H.step ew11; refine ⟨_, rfl, ?_⟩
   refine gR Z (o_not Z Z (o_pick_f Z Z Z (q3 ?_)))
   refine W_cond Z ?_ ?_
   ·intro hc12
    try simp only [nrm] at hc12
    refine q2 (aG Z (q3 (W_ret (N_K_ret (N_B_ret (N_K_ret (N_LP_ret (N_B_ret (N_K_ret (rt1 results182 Z ?_))))))))))
    exact H.rets (congrArg Value.bool (by rw [Sp.sv_false (k := k) oM (Sp.okH_id hz4 (by exact .inr (.inr (.inr (by simpa using hc12)))))]))
   intro hc12'
   try simp only [nrm] at hc12'
   refine W_skip (N_K (W_seq (q2 (mV Z (mV Z ?_)))))
   have hcap13 := hlist.cap; try simp only [List.length_set, List.length_append, List.length_take, List.length_drop, List.length_replicate] at hcap13
   refine o_slice_to (j := k) underlying28 sizeOf131 Z Z Z oM oM ?_
   have hsl13 := hlist.take (j := k) aN
   have hsn1 := hsl13.len
   refine o_len_slice underlying28 Z Z (mV Z (q3 (W_block ?_)))
   obtain ⟨ln14, hln14, H⟩ := H.name (k := 0) rfl
   refine W_lp (hf := (Sub.cons (t := 0) Z (Sub.cons (t := 3) Z (Sub.cons (t := 5) Z (Sub.cons (t := 11) Z (Sub.cons (t := 12) Z (Sub.cons (t := 13) Z (Sub.cons (t := 45) Z (Sub.cons (t := 46) Z Sub.nil))))))))) (J := fun M w m => ∃ (j : Nat) (G : PH), M = [(47, .int .i64 (j : Int))] ∧ PLe G2 G ∧ Hp w0 G0 [] w G [blk b5 (cl ln14 131)] ∧ (j ≤ k ∧ (list.take j).all (fun g => !Sp.l2Same g.bytes z4.bytes) = true) ∧ m = (k - j)) (h0 := ⟨0, _, Z, PLe.refl _, H, ?inv, Z⟩) (round := ?round)
   case inv => exact ⟨by omega, by simp⟩
   case round =>
    rintro _ w15 _ ⟨j, G15, rfl, hle15, H, hinv15, rfl⟩
    subst hln14
    have hr4 := hr4.up hle15
    have hsl13 := hsl13.up hle15
    have hle2 := hle2.trans hle15
    obtain ⟨hj, hall2⟩ := hinv15
    refine q2 (o_lss Z Z Z (q3 (W_seq ?_)))
    refine W_cond Z ?_ ?_
    ·intro hc16
     try simp only [nrm] at hc16
     refine W_skip (N_K (W_seq (W_block (q2 (o_index_P j hsl13 underlying28 sizeOf131 Z Z Z Z aN ?_))))); intro b17 o17 z17 q17 hz17 hE17 hrow17
     obtain ⟨a17, m17, c17, rfl, hi17, hr17, hj17⟩ := hE17; have hn_hr17 := hr17.len; have hx_hr17 : _ ≤ 1099511627776 := hr17.lim
     rw [List.getElem?_take, if_pos oM] at hz17
     refine o_loadagg_P H isAgg131 sizeOf131 Z Z hrow17 Z (o_alloc H zeroValue131 Z Z ?_); intro b18 w18 hb18 H
     refine o_store_B 0 H sizeOf131 Z Z Z Z Z Z Z Z ?_; intro w19 H
     refine q1 (o_fieldAddr 1 runUnderlying131 Z sizeOf41 Z Z Z (o_load_B 0 H isAgg41 Z Z Z Z (o_fieldAddr 1 runUnderlying131 Z sizeOf41 Z Z Z (o_load_B 1 H isAgg41 Z Z Z Z (o_call call208 Z Z (l_Equal_c _ _ H.sub _ _ hr17 _ _ hr4 ) ?_)))))
     rintro _ w20 ⟨rfl, ew20⟩; have H := H.step ew20; refine ⟨_, rfl, ?_⟩
     refine q3 ?_
     refine W_cond Z ?_ ?_
     ·intro hc21
      try simp only [nrm] at hc21
      refine q2 (aG Z (q3 (W_ret (N_B_ret (N_K_ret (N_LP_ret (N_B_ret (N_K_ret (N_B_ret (N_K_ret (N_LP_ret (N_B_ret (N_K_ret (rt1 results182 Z ?_))))))))))))))
      exact H.rets (congrArg Value.bool (by rw [Sp.sv_false (k := k) oM (Sp.okH_dup hz4 oM hz17 hc21)]))
     intro hc21'
     try simp only [nrm] at hc21'
     refine W_skip (N_B (N_K (W_region (o_add Z Z Z oO (mV Z (R_nil ?_))))))
     have H := H.del (k := 0) rfl
     refine N_lp (hJ := ⟨j + 1, _, Z, hle15, H, ?inv, Z⟩) (hm := ?hm)
     case hm => omega
     case inv => exact ⟨by omega, Sp.all_take hall2 hz17 (by simp [hc21'])⟩
    intro hc16'
    try simp only [nrm] at hc16'
    refine W_exit (N_K_exit (N_LP_exit (N_B_same (N_K (W_region (o_fieldAddr 0 runUnderlying131 Z sizeOf3 Z Z Z (o_load_B 0 H isAgg3 Z Z Z Z (aG Z (R_nil (N_B (N_K (W_region (o_add Z Z Z oO (mV Z (R_nil ?_)))))))))))))))
    have H := H.del (k := 0) rfl
    refine N_lp (hJ := ⟨k + 1, z4.id, _, Z, hle2, H, ?inv, Z⟩) (hm := ?hm)
    case hm => omega
    case inv => (obtain rfl : j = k := by omega); exact ⟨by omega, (Sp.lastId_succ hz4).symm, Sp.upto_succ hall (Sp.okH_mk hz4 hall oM oM (by simpa using hc12') oM hall2), hi4⟩
  intro hc3'
  try simp only [nrm] at hc3'
  refine W_exit (N_K_exit (N_LP_exit (N_B_same (N_K (q2 (aG Z (q3 (W_ret (rt1 results182 Z ?_)))))))))
  exact H.rets (congrArg Value.bool (by rw [Sp.sv_true (fun j hj => hall j oM) oM]))
end Go.Proofs.Tst

namespace Go.Proofs.Tst
open Go Fw Tryz
theorem i_openStore_c (w0 : World) (G0 : PH) (hG : PSub G0 w0) (vlist : Value) (list : List (BHeld)) (hlist : RdH G0 vlist list) (hLent : Lent w0 G0 [])  :
  Calls Tryz.prog 148 #[vlist] w0 (RetM w0 G0 [] (fun G' v Bs => (Sp.StoreValid list = false ∧ v = .tuple #[.map none, .bool false] ∧ Bs = []) ∨ (Sp.VH list ∧ ∃ (mb : Nat) (es' : Array MapEntry) (ck' : Nat) (xs' : List (Int × Value)), v = .tuple #[.map (some mb), .bool true] ∧ Bs = [blk mb (.map es' ck')] ∧ MapIs (Value.int .i64) es' ck' xs' ∧ StR G' xs' list))) := by
 obtain ⟨alist, klist, rfl⟩ := hlist.shape
 have hlimlist : list.length ≤ 1099511627776 := hlist.lim
 have H : Hp w0 G0 [] w0 G0 [] := hLent.hp
 refine calls_of_W (l := [.slice alist list.length klist]) func148 Z ntmps148 Z (q2 (aG Z (aG Z (q3 (W_seq (q2 (mV Z (o_call call182 Z Z (i_StoreValid_c _ _ H.sub _ _ hlist ) ?_))))))))
 rintro _ w1 ⟨rfl, ew1⟩; have H := H.step ew1; refine ⟨_, rfl, ?_⟩
 refine o_not Z Z (q3 ?_)
 refine W_cond Z ?_ ?_
 ·intro hc2
  try simp only [nrm] at hc2
  refine q2 (aG Z (aG Z (q3 (W_ret (N_K_ret (rt2 results148 Z Z ?_))))))
  exact H.retM (.inl ⟨by simpa using hc2, rfl, rfl⟩)
 intro hc2'
 try simp only [nrm] at hc2'
 have hVl := Sp.valid_iff.1 (by simpa using hc2' : Sp.StoreValid list = true)
 refine W_skip (N_K (q2 (o_makeMap H Z ?_))); intro b3 w3 hb3 H
 have hm3 := MapIs.empty (key := Value.int .i64) 0
 have hS3 := StR.nil G0
 refine aG Z (q3 (W_seq (q2 (mV Z (o_len_slice underlying28 Z Z (mV Z (q3 (W_block ?_))))))))
 refine W_lp (hf := (Sub.cons (t := 2) Z (Sub.cons (t := 3) Z (Sub.cons (t := 4) Z (Sub.cons (t := 11) Z (Sub.cons (t := 12) Z Sub.nil)))))) (J := fun M w m => ∃ (esm0 : Array MapEntry) (ckm0 : Nat) (xsm0 : List (Int × Value)) (Lm0 : List BHeld) (k : Nat) (G : PH), M = [(13, .int .i64 (k : Int))] ∧ PLe G0 G ∧ Hp w0 G0 [] w G [blk b3 (.map esm0 ckm0)] ∧ (MapIs (Value.int .i64) esm0 ckm0 xsm0 ∧ StR G xsm0 Lm0 ∧ Sp.VH Lm0 ∧ k ≤ list.length ∧ Lm0 = list.take k) ∧ m = (list.length - k)) (h0 := ⟨_, _, [], [], 0, _, Z, PLe.refl _, H, ?inv, Z⟩) (round := ?round)
 case inv => exact ⟨hm3, hS3, Sp.VH_nil, (by simp)⟩
 case round =>
  rintro _ w4 _ ⟨esm0, ckm0, xsm0, Lm0, k, G4, rfl, hle4, H, hinv4, rfl⟩
  have hlist := hlist.up hle4
  obtain ⟨hm4_m0, hS4_m0, hV4_m0, hinv4⟩ := hinv4
  obtain ⟨hk, rfl⟩ := hinv4
  refine q2 (o_lss Z Z Z (q3 (W_seq ?_)))
  refine W_cond Z ?_ ?_
  ·intro hc5
   try simp only [nrm] at hc5
   refine W_skip (N_K (W_seq (W_block (q2 (o_index_P k hlist underlying28 sizeOf131 Z Z Z Z aN ?_))))); intro b6 o6 z6 q6 hz6 hE6 hrow6
   obtain ⟨a6, m6, c6, rfl, hi6, hr6, hj6⟩ := hE6; have hn_hr6 := hr6.len; have hx_hr6 : _ ≤ 1099511627776 := hr6.lim
   refine o_loadagg_P H isAgg131 sizeOf131 Z Z hrow6 Z (o_alloc H zeroValue131 Z Z ?_); intro b7 w7 hb7 H
   refine o_store_B 0 H sizeOf131 Z Z Z Z Z Z Z Z ?_; intro w8 H
   refine q3 (W_drawK [0] 12 H kR Z ?_); intro w9 H; have hd9 := PLe.refl G4
   refine vM 0 Z Z (RD_t 1 Z kR Z (fun _ hK => v_fieldAddr 0 runUnderlying131 Z sizeOf3 Z Z) (RD_t 2 Z kR Z (fun _ hK => v_load_B 0 hK isAgg3 Z Z Z) (RD_t 3 Z kR Z (fun _ hK => v_fieldAddr 0 runUnderlying131 Z sizeOf3 Z Z) (RD_t 4 Z kR Z (fun _ hK => v_load_B 0 hK isAgg3 Z Z Z) (RD_t 5 Z kR Z (fun _ hK => v_fieldAddr 1 runUnderlying131 Z sizeOf41 Z Z) (RD_t 6 Z kR Z (fun _ hK => v_load_B 0 hK isAgg41 Z Z Z) (RD_t 8 Z kR Z (fun _ hK => v_fieldAddr 2 runUnderlying131 Z sizeOf3 Z Z) (RD_t 9 Z kR Z (fun _ hK => v_load_B 0 hK isAgg3 Z Z Z) ?_))))))))
   refine RD_run [7] kR Z (RDs.cons Z ?_ RDs.nil)
   refine o_call call173 Z Z (l_Clone_c _ _ H.sub _ _ hr6 ) ?_
   rintro _ w10 ⟨G10, v10, _, g10, rfl, ⟨cs10, rfl, hchk10⟩, hp10, hq10, hs10⟩
   have H := H.growO g10 hp10 hq10 hs10; obtain ⟨av10, cv10, rfl⟩ := H.accShape (k := 0) rfl
   have hS4_m0 := hS4_m0.up g10.le
   have hle4 := hle4.trans g10.le
   have hd9 := hd9.trans g10.le
   refine ⟨_, Z, ?_⟩
   refine R_nil (N_DK (Kn.of' H hd9 (SubL.cons 1 Z SubL.nil)) (RD_t 10 Z kR Z (fun _ hK => v_build bf131 Z Z) ?_))
   refine RD_run [11] kR Z (RDs.cons Z ?_ RDs.nil)
   obtain ⟨G12, H, hsg12, hsr12⟩ := H.shutL (k := 0) rfl (H.apart (k := 0) (ks := []) rfl rfl (by intro b hb; simpa [fpsAt, nth, blk] using hb)) hchk10 aN aN
   have hS4_m0 := hS4_m0.up hsg12
   have hle4 := hle4.trans hsg12
   refine o_updS 1 H z6 Z hm4_m0 hS4_m0 underlying92 underlying3 Z Z Z (show heldE G12 z6 _ from ⟨_, _, _, Z, ⟨by first | omega | (dsimp only; omega), by first | omega | (dsimp only; omega)⟩, hsr12, ⟨by first | omega | (dsimp only; omega), by first | omega | (dsimp only; omega)⟩⟩) rfl ?_; intro es11 ck11 xs11 w11 H hm11 hS11
   refine R_nil (N_DKlast kR kR (N_B (N_K (W_region ?_))))
   rw [Sp.upd_take hVl hz6] at hS11
   refine o_add Z Z Z oO (mV Z (R_nil ?_))
   have H := H.del (k := 0) rfl
   refine N_lp (hJ := ⟨_, _, xs11, (list.take (k + 1)), k + 1, _, Z, hle4, H, ?inv, Z⟩) (hm := ?hm)
   case hm => omega
   case inv => exact ⟨hm11, hS11, (hVl.take (k + 1)), (by exact ⟨by omega, rfl⟩)⟩
  intro hc5'
  try simp only [nrm] at hc5'
  refine W_exit (N_K_exit (N_LP_exit (N_B_same (N_K (q2 (mV Z (aG Z (aG Z (q3 (W_ret (rt2 results148 Z Z ?_)))))))))))
  rw [List.take_of_length_le oM] at hS4_m0
  exact H.retM (.inr ⟨hVl, _, _, _, _, Z, Z, hm4_m0, hS4_m0⟩)
theorem i_slist_c (w0 : World) (G0 : PH) (hG : PSub G0 w0) (mbs : Nat) (ess : Array MapEntry) (cks : Nat) (xss : List (Int × Value)) (Ls : List BHeld) (hbs : MapAt G0 mbs ess cks) (hms : MapIs (Value.int .i64) ess cks xss) (hSs : StR G0 xss Ls) (hVs : Sp.VH Ls)  :
  Calls Tryz.prog 137 #[.map (some mbs)] w0 (RetN w0 G0 (fun v Bs => ∃ (F : Fr), Bs = [frag F] ∧ OHs F v Ls)) := by
 have hl16 := hVs.len
 have H := Hp.init hG
 refine calls_of_W (l := [.map (some mbs)]) func137 Z ntmps137 Z (q2 (aG Z (q1 (mV Z ?_))))
 have hml1 := hSs.len
 refine o_lenM (hbs.at H.sub) hms underlying92 Z Z (o_make0 (c := Ls.length) (sz := 3) (bytes := 40) H underlying28 typeInfo131 ⟨_, Z, Z⟩ Z Z Z Z Z Z oM oM Z ?_); intro b2 w2 H
 refine aG Z (q3 (W_seq (q2 (mV Z (o_call call176 Z Z (keys_c _ _ H.sub _) ?_))))); rintro _ w3 ⟨kb3, rfl, hkb3, ek3, hkc3⟩; have H := H.step ek3; refine ⟨_, rfl, ?_⟩
 refine o_call call175 Z Z (sorted_c _ _ _ hkc3 (hbs.at H.sub) hms hSs hVs) ?_; rintro _ w4 ⟨v4, rfl, ek4, hp4, hf4⟩; have H := H.add ek4 _ hp4 hf4 (acc_nd _ _ _ _ _)
 have hchk4 := chkIds G0 hVs; obtain ⟨av4, cv4, rfl⟩ := H.accShape (k := 0) rfl; refine ⟨_, rfl, ?_⟩
 refine o_len_slice underlying41 Z Z (mV Z (q3 (W_block ?_)))
 obtain ⟨G5, H, hsg5, hsr5⟩ := H.shut' (k := 0) rfl hchk4 aN aN
 have hSs := hSs.up hsg5
 have hbs := hbs.up hsg5
 have H := H.addF
 refine W_lp (hf := (Sub.cons (t := 0) Z (Sub.cons (t := 2) Z (Sub.cons (t := 12) Z (Sub.cons (t := 13) Z Sub.nil))))) (J := fun M w m => ∃ (v : Value) (n : Nat) (cs : List Value) (xs : List (BHeld)) (F : Fr) (k : Nat) (G : PH), M = [(14, .int .i64 (k : Int)), (3, v)] ∧ PLe G5 G ∧ Hp w0 G0 [] w G [frag F, acc 131 3 v n cs] ∧ (ChkF heldO 3 cs xs F ∧ n = xs.length ∧ k ≤ Ls.length ∧ xs = Ls.take k) ∧ m = (Ls.length - k)) (h0 := ⟨_, _, _, [], [], 0, _, Z, PLe.refl _, H, ?inv, Z⟩) (round := ?round)
 case inv => exact ⟨ChkF.nil,  by first | rfl | simp | (simp; omega) | omega, (by simp)⟩
 case round =>
  rintro _ w6 _ ⟨v, n, cs, xs, F, k, G6, rfl, hle6, H, hinv6, rfl⟩
  have hSs := hSs.up hle6
  have hbs := hbs.up hle6
  have hsr5 := hsr5.up hle6
  obtain ⟨hchk6_0, hn6_0, hinv6⟩ := hinv6
  obtain ⟨av6_0, cv6_0, rfl⟩ := H.accShape (k := 1) rfl
  obtain ⟨hk, hxs⟩ := hinv6; have hxl : xs.length ≤ 16 := by rw [hxs]; simp; omega
  refine q2 (o_lss Z Z Z (q3 (W_seq ?_)))
  refine W_cond Z ?_ ?_
  ·intro hc7
   try simp only [nrm] at hc7
   refine W_skip (N_K (W_seq (W_block (q2 (o_index_P k hsr5 underlying41 sizeOf3 Z Z Z Z aN ?_))))); intro b8 o8 z8 q8 hz8 hE8 hrow8
   obtain ⟨rfl, hi8⟩ := hE8
   refine o_load_P H isAgg3 Z Z (hrow8 0 _ Z) (aG Z (q1 (mV Z (mV Z (o_lookS (hbs.at H.sub) hms hSs underlying92 underlying3 zeroValue131 Z Z Z ?_))))); intro q9 hE9
   obtain ⟨a9, m9, c9, rfl, hi9, hr9, hj9⟩ := hE9; have hn_hr9 := hr9.len; have hx_hr9 : _ ≤ 1099511627776 := hr9.lim
   have hgb := Sp.get_len hVs z8
   have hat := Sp.get_at hVs hz8
   refine o_alloc H zeroValue131 Z Z ?_; intro b10 w10 hb10 H
   refine o_store_B 0 H sizeOf131 Z Z Z Z Z Z Z Z ?_; intro w11 H
   refine q3 (W_drawK [0] 11 H kR Z ?_); intro w12 H; have hd12 := PLe.refl G6
   refine vM 0 Z Z (vM 1 Z Z (RD_t 2 Z kR Z (fun _ hK => v_fieldAddr 1 runUnderlying131 Z sizeOf41 Z Z) (RD_t 3 Z kR Z (fun _ hK => v_load_B 0 hK isAgg41 Z Z Z) (RD_t 5 Z kR Z (fun _ hK => v_fieldAddr 2 runUnderlying131 Z sizeOf3 Z Z) (RD_t 6 Z kR Z (fun _ hK => v_load_B 0 hK isAgg3 Z Z Z) ?_)))))
   refine RD_run [4] kR Z (RDs.cons Z ?_ RDs.nil)
   refine o_call call173 Z Z (l_Clone_c _ _ H.sub _ _ hr9 ) ?_
   rintro _ w13 ⟨G13, v13, _, g13, rfl, ⟨cs13, rfl, hchk13⟩, hp13, hq13, hs13⟩
   have H := H.growO g13 hp13 hq13 hs13; obtain ⟨av13, cv13, rfl⟩ := H.accShape (k := 0) rfl
   have hle6 := hle6.trans g13.le
   have hd12 := hd12.trans g13.le
   refine ⟨_, Z, ?_⟩
   refine R_nil (N_DK (Kn.of' H hd12 (SubL.cons 1 Z SubL.nil)) (RD_t 7 Z kR Z (fun _ hK => v_build bf131 Z Z) ?_))
   refine RD_run [8] kR Z (RDs.cons Z ?_ RDs.nil)
   refine o_buildSlice H underlying28 sizeOf131 (fun w => ⟨_, zeroValue131 w, Z⟩) Z Z Z Z Z Z Z ?_; intro b14 w14 hb14 H
   refine R_nil (N_DK (Kn.of' H hd12 (SubL.cons 2 Z SubL.nil)) ?_)
   refine RD_run [9] kR Z (RDs.cons Z ?_ RDs.nil)
   refine o_append1 3 H (sz := 3) (bytes := 40) underlying28 typeInfo131 ⟨_, Z, Z⟩ Z Z Z Z Z Z Z Z Z Z oM Z ?_; intro v15 w15 H
   obtain ⟨Fi2, H, hOI2⟩ := H.ownI (k := 0) rfl hchk13 aN aN
   have hchk15 := hchk6_0.snoc (show heldO Fi2 ⟨z8, (getH Ls z8).bytes, (getH Ls z8).uses⟩ _ from ⟨_, _, _, rfl, ⟨by first | omega | (dsimp only; omega), by first | omega | (dsimp only; omega)⟩, hOI2, ⟨by first | omega | (dsimp only; omega), by first | omega | (dsimp only; omega)⟩⟩) rfl
   have H := H.toFront (k := 2) rfl
   have H := H.mergeF
   obtain ⟨av15, cv15, rfl⟩ := H.accShape (k := 2) rfl
   refine R_nil (N_DK (Kn.of' H hd12 (SubL.cons 1 Z SubL.nil)) (RD_t 10 Z kR Z (fun _ hK => v_assign Z) (RD_done kR (N_B (N_K (W_region (o_add Z Z Z oO (mV Z (R_nil ?_)))))))))
   have H := H.del (k := 1) rfl
   refine N_lp (hJ := ⟨_, _, _, (xs ++ [⟨z8, (getH Ls z8).bytes, (getH Ls z8).uses⟩]), (F ++ Fi2), k + 1, _, Z, hle6, H, ?inv, Z⟩) (hm := ?hm)
   case hm => omega
   case inv => exact ⟨hchk15, aN, (by exact ⟨by omega, by rw [Sp.take_succ' hat, hxs]⟩)⟩
  intro hc7'
  try simp only [nrm] at hc7'
  refine W_exit (N_K_exit (N_LP_exit (N_B_same (N_K (q2 (mV Z (aG Z (q3 (W_ret (rt1 results137 Z ?_))))))))))
  have H := H.toFront (k := 1) rfl
  obtain ⟨Fo3, H, hOw3⟩ := H.ownF hchk6_0 aN aN
  have hX : xs = Ls := by rw [hxs, List.take_of_length_le oM]
  have H := H.forget hG (by simp)
  exact ⟨_, _, Z, H, _, Z, hX ▸ ⟨_, hOw3⟩⟩
end Go.Proofs.Tst

namespace Go.Proofs.Tst
open Go Fw Tryz
theorem i_newVolume_c (w0 : World) (G0 : PH) (hG : PSub G0 w0) (vstore : Value) (store : List (BHeld)) (hstore : RdH G0 vstore store) (vtree : Value) (tree : List (BItem)) (htree : RdItems G0 vtree tree) (hLent : Lent w0 G0 [])  :
  Calls Tryz.prog 129 #[vstore, vtree] w0 (RetM w0 G0 [] (fun G' v Bs => (v = .tuple #[.agg #[.map none, .pointer none], .bool false] ∧ Bs = [] ∧ (Sp.StoreValid store && Sp.TreeValid tree) = false) ∨ (∃ (mb : Nat) (es : Array MapEntry) (ck : Nat) (xs : List (Int × Value)) (T : Nd) (F : Fr), v = .tuple #[.agg #[.map (some mb), .pointer (some ⟨T.b, 0, none⟩)], .bool true] ∧ Bs = [blk mb (.map es ck), frag F] ∧ MapIs (Value.int .i64) es ck xs ∧ StR G' xs store ∧ Sp.VH store ∧ NdO 166 93 G' T F ∧ Nd.TOK T tree ∧ Sp.TreeValid tree = true))) := by
 obtain ⟨astore, kstore, rfl⟩ := hstore.shape
 have hlimstore : store.length ≤ 1099511627776 := hstore.lim
 obtain ⟨atree, ktree, rfl⟩ := htree.shape
 have hlimtree : tree.length ≤ 1099511627776 := htree.lim
 have H : Hp w0 G0 [] w0 G0 [] := hLent.hp
 refine calls_of_W (l := [.slice astore store.length kstore, .slice atree tree.length ktree]) func129 Z ntmps129 Z (q2 (o_alloc H zeroValue95 Z Z ?_)); intro b1 w1 hb1 H
 refine aG Z (q1 (mV Z (o_call call148 Z Z (i_openStore_c _ _ H.sub _ _ hstore H.lent0 ) ?_)))
 rintro _ w2 ⟨G2, _, _, rfl, H2', ⟨hnv2, rfl, rfl⟩ | ⟨hV2, mb2, es2, ck2, xs2, rfl, rfl, hm2, hS2⟩⟩
 ·skip
  have H := H.borrow0 H2'
  refine ⟨_, Z, ?_⟩
  refine mV Z (o_extract Z Z Z (o_extract Z Z Z (aG Z (aG Z (q3 (W_seq (q2 (mV Z (o_not Z Z (q3 (W_true Z (q2 (o_build bf95 Z Z Z (o_store_B 0 H sizeOf95 Z Z Z Z Z Z Z Z ?_)))))))))))))); intro w3 H
  refine aG Z (q3 (W_ret (N_K_ret (ret_gen (rs := [.cell 4 95, .tmp 5]) (vs := [_, _]) results129 ⟨⟨_, Z, load_blk 0 H isAgg95 sizeOf95 Z Z Z⟩, Z, trivial⟩ ?_))))
  have H := H.del (k := 0) rfl
  exact H.retM (.inl ⟨rfl, rfl, by simp_all⟩)
 skip
 have htree := htree.up H2'.le
 have H := H.borrow0 H2'
 refine ⟨_, Z, ?_⟩
 refine mV Z (o_extract Z Z Z (o_extract Z Z Z (aG Z (aG Z (q3 (W_seq (q2 (mV Z (o_not Z Z (q3 (W_false Z (W_skip (N_K (q2 (mV Z ?_)))))))))))))))
 refine o_call call147 Z Z (i_openTree_c _ _ H.sub _ _ htree H.lent0 ) ?_
 rintro _ w4 ⟨G4, _, _, rfl, H4', ⟨rfl, rfl, hv4⟩ | ⟨T4, F4, rfl, rfl, hN4, hT4, hv4⟩⟩
 ·skip
  have H := H.borrow0 H4'
  refine ⟨_, Z, ?_⟩
  refine mV Z (o_extract Z Z Z (o_extract Z Z Z (aG Z (aG Z (q3 (W_seq (q2 (mV Z (o_not Z Z (q3 (W_true Z (q2 (o_build bf95 Z Z Z (o_store_B 1 H sizeOf95 Z Z Z Z Z Z Z Z ?_)))))))))))))); intro w5 H
  refine aG Z (q3 (W_ret (N_K_ret (ret_gen (rs := [.cell 4 95, .tmp 5]) (vs := [_, _]) results129 ⟨⟨_, Z, load_blk 1 H isAgg95 sizeOf95 Z Z Z⟩, Z, trivial⟩ ?_))))
  have H := H.del (k := 0) rfl
  have H := H.del (k := 0) rfl
  exact H.retM (.inl ⟨rfl, rfl, by simp_all⟩)
 skip
 have hS2 := hS2.up H4'.le
 have H := H.borrow0 H4'
 refine ⟨_, Z, ?_⟩
 refine mV Z (o_extract Z Z Z (o_extract Z Z Z (aG Z (aG Z (q3 (W_seq (q2 (mV Z (o_not Z Z (q3 (W_false Z (W_skip (N_K (q2 (mV Z ?_)))))))))))))))
 refine mV Z (o_build bf95 Z Z Z (o_store_B 2 H sizeOf95 Z Z Z Z Z Z Z Z ?_)); intro w6 H
 refine aG Z (q3 (W_ret (ret_gen (rs := [.cell 4 95, .tmp 5]) (vs := [_, _]) results129 ⟨⟨_, Z, load_blk 2 H isAgg95 sizeOf95 Z Z Z⟩, Z, trivial⟩ ?_)))
 have H := H.del (k := 2) rfl
 have H := H.toFront (k := 1) rfl
 exact H.retM (.inr ⟨_, _, _, _, _, _, Z, Z, hm2, hS2, hV2, hN4, hT4, hv4⟩)
theorem i_keepTree_c (w0 : World) (G0 : PH) (hG : PSub G0 w0) (mbs : Nat) (ess : Array MapEntry) (cks : Nat) (xss : List (Int × Value)) (Ls : List BHeld) (hms : MapIs (Value.int .i64) ess cks xss) (hSs : StR G0 xss Ls) (hVs : Sp.VH Ls) (Ft : Fr) (t : Nd) (hNt : NdO 166 93 G0 t Ft) (hLent : Lent w0 G0 [blk mbs (.map ess cks), frag Ft]) (hwt : t.wf) (hct : t.cnt ≤ 1000) :
  Calls Tryz.prog 143 #[.map (some mbs), .pointer (some ⟨t.b, 0, none⟩)] w0 (RetM w0 G0 (fps [blk mbs (.map ess cks), frag Ft]) (fun G' v Bs => ∃ (es' : Array MapEntry) (ck' : Nat) (xs' : List (Int × Value)) (L' : List BHeld), v = .bool (Sp.l12Keep Ls (t.flat [])).isSome ∧ Bs = [blk mbs (.map es' ck'), frag Ft] ∧ MapIs (Value.int .i64) es' ck' xs' ∧ StR G' xs' L' ∧ Sp.VH L' ∧ ∀ l, Sp.l12Keep Ls (t.flat []) = some l → L' = l)) := by
 have hfl := Nd.flat_len [] t
 have H : Hp w0 G0 (fps [blk mbs (.map ess cks), frag Ft]) w0 G0 [blk mbs (.map ess cks), frag Ft] := hLent.hp
 refine calls_of_W (l := [.map (some mbs), .pointer (some ⟨t.b, 0, none⟩)]) func143 Z ntmps143 Z (q2 (aG Z (q3 (W_seq (q2 (mV Z (o_call call138 Z Z (i_tlist_c _ _ (H.lendSubL [1]) _ ((H.lendN (k := 1) (ks := [1]) Z Z hNt).at (show Nd.at_ t [] = some t from Z)) hwt hct) ?_)))))))
 rintro _ w1 ⟨_, _, rfl, H1', ⟨F1, rfl, hO1⟩⟩
 have H := H.readersL H1'
 obtain ⟨e21, hP1⟩ := hO1
 obtain ⟨sa1, sc1, rfl⟩ := OwnS.shape hP1
 have hO1 := OIs.mk hP1
 refine ⟨_, Z, ?_⟩
 have hdm1 := dm_nodup H (k := 0) rfl; obtain ⟨Gk1, H, hkl1, hks1⟩ := H.keepF (k := 0) rfl (H.apart (k := 0) (ks := [1, 2]) rfl rfl (by intro b hb; simp only [fps, List.flatMap_cons, List.flatMap_nil, List.append_nil, List.mem_append] at hb; rcases hb with h | h; (· exact fpsAt_mem (k := 1) rfl rfl b (by exact h)); (· exact fpsAt_mem (k := 2) rfl rfl b (by exact h))))
 have hrk1 := hO1.rd hks1 hdm1
 have hSs := hSs.up hkl1
 have hn_hrk1 := hrk1.len
 refine o_len_slice underlying29 Z Z (mV Z (q3 (W_block ?_)))
 refine W_lp (hf := (Sub.cons (t := 0) Z (Sub.cons (t := 8) Z (Sub.cons (t := 9) Z Sub.nil)))) (J := fun M w m => ∃ (esm0 : Array MapEntry) (ckm0 : Nat) (xsm0 : List (Int × Value)) (Lm0 : List BHeld) (k : Nat) (G : PH), M = [(10, .int .i64 (k : Int))] ∧ PLe Gk1 G ∧ Hp w0 G0 (fps [blk mbs (.map ess cks), frag Ft]) w G [blk mbs (.map esm0 ckm0), frag Ft] ∧ (MapIs (Value.int .i64) esm0 ckm0 xsm0 ∧ StR G xsm0 Lm0 ∧ Sp.VH Lm0 ∧ k ≤ (t.flat []).length ∧ Sp.foldB Sp.keepT ((t.flat []).take k) (some Ls) = some Lm0) ∧ m = ((t.flat []).length - k)) (h0 := ⟨_, _, xss, Ls, 0, _, Z, PLe.refl _, H, ?inv, Z⟩) (round := ?round)
 case inv => exact ⟨hms, hSs, hVs, (by simp [Sp.foldB])⟩
 case round =>
  rintro _ w2 _ ⟨esm0, ckm0, xsm0, Lm0, k, G2, rfl, hle2, H, hinv2, rfl⟩
  have hrk1 := hrk1.up hle2
  obtain ⟨hm2_m0, hS2_m0, hV2_m0, hinv2⟩ := hinv2
  obtain ⟨hk, hf⟩ := hinv2
  refine q2 (o_lss Z Z Z (q3 (W_seq ?_)))
  refine W_cond Z ?_ ?_
  ·intro hc3
   try simp only [nrm] at hc3
   refine W_skip (N_K (W_seq (W_block (q2 (o_index_P k hrk1 underlying29 sizeOf66 Z Z Z Z aN ?_))))); intro b4 o4 z4 q4 hz4 hE4 hrow4
   obtain ⟨a4, m4, c4, rfl, hi4, hr4⟩ := hE4; have hy_hi4 : _ ≤ 16777216 := hi4; have hn_hr4 := hr4.len; have hx_hr4 : _ ≤ 1099511627776 := hr4.lim
   refine o_loadagg_P H isAgg66 sizeOf66 Z Z hrow4 Z (o_alloc H zeroValue66 Z Z ?_); intro b5 w5 hb5 H
   refine o_store_B 0 H sizeOf66 Z Z Z Z Z Z Z Z ?_; intro w6 H
   refine q1 (mV Z (o_fieldAddr 2 runUnderlying66 Z sizeOf41 Z Z Z (o_load_B 0 H isAgg41 Z Z Z Z ?_)))
   have H := H.toFront (k := 1) rfl
   refine o_call call179 Z Z (i_keepFile_c _ _ H.sub _ _ _ _ _ hm2_m0 hS2_m0 hV2_m0 _ _ hr4 H.lent1 ) ?_
   rintro _ w7 ⟨G7, _, _, rfl, H7', ⟨es7, ck7, xs7, L7, rfl, rfl, hm7, hS7, hV7, hL7⟩⟩
   have hle2 := hle2.trans H7'.le
   have H := H.borrow1 H7'
   refine ⟨_, Z, ?_⟩
   refine o_not Z Z (q3 ?_)
   refine W_cond Z ?_ ?_
   ·intro hc8
    try simp only [nrm] at hc8
    refine q2 (aG Z (q3 (W_ret (N_B_ret (N_K_ret (N_LP_ret (N_B_ret (N_K_ret (rt1 results143 Z ?_)))))))))
    have H := H.del (k := 1) rfl
    have H := H.toFront (k := 1) rfl
    have H := H.toFront (k := 1) rfl
    have hno : Sp.l12Keep Ls (t.flat []) = none := by (have hno : Sp.keepT Lm0 z4 = none := (show Sp.foldB Sp.StoreKeep z4.ids (some Lm0) = none by simpa using hc8)); exact Sp.foldB_stop hf hz4 hno
    exact H.retM ⟨_, _, _, _, congrArg Value.bool (by rw [hno]; rfl), rfl, hm7, hS7, hV7, fun l hl => by rw [hno] at hl; cases hl⟩
   intro hc8'
   try simp only [nrm] at hc8'
   obtain ⟨p, hsp⟩ := Option.isSome_iff_exists.1 (show (Sp.foldB Sp.StoreKeep z4.ids (some Lm0)).isSome = true by simpa using hc8')
   have hLp := hL7 p hsp; subst hLp
   have hsp : Sp.keepT Lm0 z4 = some L7 := hsp
   refine W_skip (N_B (N_K (W_region (o_add Z Z Z oO (mV Z (R_nil ?_))))))
   have H := H.del (k := 1) rfl
   refine N_lp (hJ := ⟨_, _, xs7, L7, k + 1, _, Z, hle2, H, ?inv, Z⟩) (hm := ?hm)
   case hm => omega
   case inv => exact ⟨hm7, hS7, hV7, (by exact ⟨by omega, Sp.foldB_succ hf hz4 hsp⟩)⟩
  intro hc3'
  try simp only [nrm] at hc3'
  refine W_exit (N_K_exit (N_LP_exit (N_B_same (N_K (q2 (aG Z (q3 (W_ret (rt1 results143 Z ?_)))))))))
  have H := H.toFront (k := 1) rfl
  have H := H.toFront (k := 1) rfl
  have hyes : Sp.l12Keep Ls (t.flat []) = some Lm0 := Sp.foldB_all hf oM
  exact H.retM ⟨_, _, _, _, congrArg Value.bool (by rw [hyes]; rfl), rfl, hm2_m0, hS2_m0, hV2_m0, fun l hl => by rw [hyes] at hl; cases hl; rfl⟩
end Go.Proofs.Tst

namespace Go.Proofs.Tst
open Go Fw Tryz
theorem i_snapAt_c (w0 : World) (G0 : PH) (hG : PSub G0 w0) (db : Nat) (m1 m2 v1 v2 vs : Value) (sn : List (Bs × Nd)) (hdk : PRow G0 db 0 [m1, m2, v1, v2, vs]) (hsn : RdS LIM osE 2 G0 vs sn) (nm : Bs) (hnm : nm.length ≤ 16777216)  :
  Calls Tryz.prog 117 #[.pointer (some ⟨db, 0, none⟩), str nm] w0 (Rets w0 (.int .i64 (Sp.optI (sn.findIdx? (fun x => decide (x.1 = nm)))))) := by
 obtain ⟨asn, ksn, rfl⟩ := hsn.shape; have hlimsn : sn.length ≤ 1099511627776 := hsn.lim
 have H := Hp.init hG
 refine calls_of_W (l := [.pointer (some ⟨db, 0, none⟩), str nm]) func117 Z ntmps117 Z (q2 (aG Z (q3 (W_seq (q2 (mV Z (o_nilCheck Z Z (o_fieldAddr 4 runUnderlying147 Z sizeOf145 Z Z Z (o_load_P H isAgg145 Z Z (hdk 4 _ Z) (o_len_slice underlying145 Z Z (mV Z (q3 (W_block ?_)))))))))))))
 refine W_lp (hf := (Sub.cons (t := 1) Z (Sub.cons (t := 10) Z (Sub.cons (t := 11) Z Sub.nil)))) (J := fun M w m => ∃ (k : Nat) (G : PH), M = [(12, .int .i64 (k : Int))] ∧ PLe G0 G ∧ Hp w0 G0 [] w G [] ∧ (k ≤ sn.length ∧ ∀ (j : Nat) (x : Bs × Nd), j < k → sn[j]? = some x → decide (x.1 = nm) = false) ∧ m = (sn.length - k)) (h0 := ⟨0, _, Z, PLe.refl _, H, ?inv, Z⟩) (round := ?round)
 case inv => exact ⟨by omega, fun j x hj => by omega⟩
 case round =>
  rintro _ w1 _ ⟨k, G1, rfl, hle1, H, hinv1, rfl⟩
  have hsn := hsn.up hle1
  obtain ⟨hk, hno⟩ := hinv1
  refine q2 (o_lss Z Z Z (q3 (W_seq ?_)))
  refine W_cond Z ?_ ?_
  ·intro hc2
   try simp only [nrm] at hc2
   refine W_skip (N_K (W_seq (W_block (q2 (mV Z (o_index_P k hsn underlying145 sizeOf151 Z Z Z Z aN ?_)))))); intro b3 o3 z3 q3 hz3 hE3 hrow3
   obtain ⟨rfl, hi3⟩ := hE3; have hy_hi3 : _ ≤ 16777216 := hi3
   refine o_loadagg_P H isAgg151 sizeOf151 Z Z hrow3 Z (o_alloc H zeroValue151 Z Z ?_); intro b4 w4 hb4 H
   refine aG Z (o_store_B 0 H sizeOf151 Z Z Z Z Z Z Z Z ?_); intro w5 H
   refine q1 (o_fieldAddr 0 runUnderlying151 Z sizeOf9 Z Z Z (o_load_B 0 H isAgg9 Z Z Z Z (mV Z (o_seql Z Z Z (q3 ?_)))))
   refine W_cond Z ?_ ?_
   ·intro hc6
    try simp only [nrm] at hc6
    refine q2 (mV Z (aG Z (q3 (W_ret (N_B_ret (N_K_ret (N_LP_ret (N_B_ret (N_K_ret (rt1 results117 Z ?_))))))))))
    exact H.rets (congrArg (Value.int .i64) (by rw [Sp.fidx_some (p := fun x : Bs × Nd => decide (x.1 = nm)) hno hz3 (by simpa using hc6)]; rfl))
   intro hc6'
   try simp only [nrm] at hc6'
   refine W_skip (N_B (N_K (W_region (o_add Z Z Z oO (mV Z (R_nil ?_))))))
   have H := H.del (k := 0) rfl
   refine N_lp (hJ := ⟨k + 1, _, Z, hle1, H, ?inv, Z⟩) (hm := ?hm)
   case hm => omega
   case inv => exact ⟨by omega, Sp.fidx_step hno hz3 (by simpa using hc6')⟩
  intro hc2'
  try simp only [nrm] at hc2'
  refine W_exit (N_K_exit (N_LP_exit (N_B_same (N_K (q2 (aG Z (q3 (W_ret (rt1 results117 Z ?_)))))))))
  exact H.rets (congrArg (Value.int .i64) (by rw [Sp.fidx_none (p := fun x : Bs × Nd => decide (x.1 = nm)) (fun j x hj => hno j x oM)]; rfl))
end Go.Proofs.Tst

namespace Go.Proofs.Tst
open Go Fw Tryz
theorem i_newDisk_c (w0 : World) (G0 : PH) (hG : PSub G0 w0) (cd : List Value) (d : BDisk) (hd : diskE G0 d cd) (hLent : Lent w0 G0 [])  :
  Calls Tryz.prog 89 #[.agg cd.toArray] w0 (RetM w0 G0 [] (fun G' v Bs => (v = .tuple #[.pointer none, .bool false] ∧ Bs = [] ∧ Sp.DiskValid d = false) ∨ (∃ (db mb : Nat) (es : Array MapEntry) (ck : Nat) (xs : List (Int × Value)) (T : Nd) (F : Fr) (sv : Value) (sn : List (Fw.Bs × Nd)) (c : List Value) (FSq : Fr), v = .tuple #[.pointer (some ⟨db, 0, none⟩), .bool true] ∧ Bs = [blk db (cl [.int .i32 0, .int .u32 0, .map (some mb), .pointer (some ⟨T.b, 0, none⟩), sv] 147), blk mb (.map es ck), frag F, acc 151 2 sv sn.length c, frag FSq] ∧ MapIs (Value.int .i64) es ck xs ∧ StR G' xs d.store ∧ NdO 166 93 G' T F ∧ Nd.TOK T d.tree ∧ Chk osE 2 G' c sn ∧ NdsO 166 93 G' (sn.map (·.2)) FSq ∧ SnOK sn d.snaps ∧ Sp.DiskValid d = true))) := by
 obtain ⟨a1, m1, c1, a1', m1', c1', a1'', m1'', c1'', rfl, hr1, hr1', hr1''⟩ := hd; have hn_hr1 := hr1.len; have hx_hr1 : _ ≤ 1099511627776 := hr1.lim; have hn_hr1q := hr1'.len; have hx_hr1q : _ ≤ 1099511627776 := hr1'.lim; have hn_hr1qq := hr1''.len; have hx_hr1qq : _ ≤ 1099511627776 := hr1''.lim
 have H : Hp w0 G0 [] w0 G0 [] := hLent.hp
 refine calls_of_W (l := [_]) func89 Z ntmps89 Z (q2 (o_box H Z Z Z ?_)); intro b2 w2 hb2 H
 refine aG Z (aG Z (q1 (o_fieldAddr 0 runUnderlying32 Z sizeOf28 Z Z Z (o_load_B 0 H isAgg28 Z Z Z Z (o_fieldAddr 1 runUnderlying32 Z sizeOf29 Z Z Z (o_load_B 0 H isAgg29 Z Z Z Z (o_call call129 Z Z (i_newVolume_c _ _ H.sub _ _ hr1 _ _ hr1' H.lent0 ) ?_)))))))
 rintro _ w3 ⟨G3, _, _, rfl, H3', ⟨rfl, rfl, hnv3⟩ | ⟨mb3, es3, ck3, xs3, T3, F3, rfl, rfl, hm3, hS3, hV3, hN3, hT3, hv3⟩⟩
 ·skip
  have H := H.borrow0 H3'
  refine ⟨_, Z, ?_⟩
  refine mV Z (o_extract Z Z Z (o_extract Z Z Z (o_alloc H zeroValue95 Z Z ?_))); intro b4 w4 hb4 H
  refine o_store_B 0 H sizeOf95 Z Z Z Z Z Z Z Z ?_; intro w5 H
  refine aG Z (q3 (W_seq (q2 (mV Z (o_not Z Z (mV Z (rP Z (rP Z (rP Z (rP Z (o_pick_t Z Z Z (q3 (W_true Z (q2 (aG Z ?_)))))))))))))))
  refine aG Z (q3 (W_ret (N_K_ret (rt2 results89 Z Z ?_))))
  have H := H.del (k := 0) rfl
  have H := H.del (k := 0) rfl
  exact H.retM (.inl ⟨rfl, rfl, Sp.dv_no (fun hh => by simp [hh.1, hh.2.1] at hnv3)⟩)
 skip
 have hr1'' := hr1''.up H3'.le
 have H := H.borrow0 H3'
 refine ⟨_, Z, ?_⟩
 refine mV Z (o_extract Z Z Z (o_extract Z Z Z (o_alloc H zeroValue95 Z Z ?_))); intro b6 w6 hb6 H
 refine o_store_B 0 H sizeOf95 Z Z Z Z Z Z Z Z ?_; intro w7 H
 refine aG Z (q3 (W_seq (q2 (mV Z (o_not Z Z (mV Z (gR Z (o_fieldAddr 2 runUnderlying32 Z sizeOf30 Z Z Z (gR Z (o_load_B 3 H isAgg30 Z Z Z Z (gR Z (o_len_slice underlying30 Z Z (gR Z (o_gtr Z Z Z (o_pick_f Z Z Z ?_)))))))))))))))
 refine q3 ?_
 refine W_cond Z ?_ ?_
 ·intro hc8
  try simp only [nrm] at hc8
  refine q2 (aG Z (aG Z (q3 (W_ret (N_K_ret (rt2 results89 Z Z ?_))))))
  have H := H.del (k := 0) rfl
  have H := H.del (k := 0) rfl
  have H := H.del (k := 0) rfl
  have H := H.del (k := 0) rfl
  exact H.retM (.inl ⟨rfl, rfl, Sp.dv_no (fun hh => by have := hh.2.2.1; omega)⟩)
 intro hc8'
 try simp only [nrm] at hc8'
 refine W_skip (N_K (q2 (o_loadagg_B 0 H isAgg95 sizeOf95 Z Z Z Z Z (o_build bf147 Z Z Z (o_box H Z Z Z ?_))))); intro b9 w9 hb9 H
 refine aG Z (q1 (o_fieldAddr 1 runUnderlying95 Z sizeOf93 Z Z Z (o_load_B 1 H isAgg93 Z Z Z Z (o_buildSlice H underlying162 sizeOf93 (fun w => ⟨_, zeroValue93 w, Z⟩) Z Z Z Z Z Z Z ?_)))); intro b10 w10 hb10 H
 refine aG Z (q3 (W_seq (q2 (o_fieldAddr 2 runUnderlying32 Z sizeOf30 Z Z Z (o_load_B 5 H isAgg30 Z Z Z Z (o_len_slice underlying30 Z Z (mV Z (q3 (W_block ?_)))))))))
 have H := H.blkAcc 1 (k := 0) (n := 1) rfl rfl (by decide)
 have H := H.addF
 have H := H.addNil 151 2
 obtain ⟨ln12, hln12, H⟩ := H.nameAt (k := 3) (off := 4) rfl rfl
 obtain ⟨ln13, hln13, H⟩ := H.name (k := 4) rfl
 obtain ⟨ln14, hln14, H⟩ := H.name (k := 7) rfl
 refine W_lp (hf := (Sub.cons (t := 4) Z (Sub.cons (t := 6) Z (Sub.cons (t := 35) Z (Sub.cons (t := 36) Z Sub.nil))))) (J := fun M w m => ∃ (v : Value) (n : Nat) (cs : List Value) (xs : List (Bs × Nd)) (v1 : Value) (n1 : Nat) (cs1 : List Value) (xs1 : List (Nd)) (k : Nat) (FSq : Fr) (G : PH), M = [(37, .int .i64 (k : Int)), (7, v1)] ∧ PLe G3 G ∧ Hp w0 G0 [] w G [acc 151 2 v n cs, frag FSq, acc 93 1 v1 n1 cs1, blk b9 (cl (setN ln12 4 v) 147), blk b6 (cl ln13 95), blk mb3 (.map es3 ck3), frag F3, blk b2 (cl ln14 32)] ∧ (Chk osE 2 G cs xs ∧ n = xs.length ∧ Chk kdE 1 G cs1 xs1 ∧ n1 = xs1.length ∧ k ≤ d.snaps.length ∧ xs1 = T3 :: xs.map (·.2) ∧ NdsO 166 93 G (xs.map (·.2)) FSq ∧ SnOK xs (d.snaps.take k) ∧ ∀ (j : Nat) (s : BSnap), j < k → d.snaps[j]? = some s → Sp.l1Word s.name = true ∧ (j : Int) ≤ Sp.l12At d.snaps s.name) ∧ m = (d.snaps.length - k)) (h0 := ⟨_, _, _, [], _, _, _, [T3], 0, [], _, Z, PLe.refl _, H, ?inv, Z⟩) (round := ?round)
 case inv => exact ⟨(Chk.nil (E := osE) (sz := 2) (G := G3)), (by first | rfl | simp | (simp; omega) | omega), (chkK [T3]),  by first | rfl | simp | (simp; omega) | omega, (by exact ⟨by omega, rfl, by simp [NdsO], .nil, fun j s hj => by omega⟩)⟩
 case round =>
  rintro _ w15 _ ⟨v, n, cs, xs, v1, n1, cs1, xs1, k, FSq, G15, rfl, hle15, H, hinv15, rfl⟩
  subst hln12
  subst hln13
  subst hln14
  have hr1'' := hr1''.up hle15
  have hS3 := hS3.up hle15
  have hN3 := hN3.up hle15
  obtain ⟨hchk15_0, hn15_0, hinv15⟩ := hinv15
  obtain ⟨av15_0, cv15_0, rfl⟩ := H.accShape (k := 0) rfl
  obtain ⟨hchk15_1, hn15_1, hinv15⟩ := hinv15
  obtain ⟨av15_1, cv15_1, rfl⟩ := H.accShape (k := 2) rfl
  obtain ⟨hk, hx1, hNs, hSn, hw⟩ := hinv15; have hsl := hSn.len; have hxl6 : xs.length ≤ 6 := (by simp at hsl; omega); have hx1l : xs1.length = xs.length + 1 := by simp [hx1]
  refine q2 (o_lss Z Z Z (q3 (W_seq ?_)))
  refine W_cond Z ?_ ?_
  ·intro hc16
   try simp only [nrm] at hc16
   refine W_skip (N_K (W_seq (W_block (q2 (o_index_P k hr1'' underlying30 sizeOf58 Z Z Z Z aN ?_))))); intro b17 o17 z17 q17 hz17 hE17 hrow17
   obtain ⟨a17, m17, c17, rfl, hi17, hr17⟩ := hE17; have hy_hi17 : _ ≤ 16777216 := hi17; have hn_hr17 := hr17.len; have hx_hr17 : _ ≤ 1099511627776 := hr17.lim
   refine o_loadagg_P H isAgg58 sizeOf58 Z Z hrow17 Z (o_alloc H zeroValue58 Z Z ?_); intro b18 w18 hb18 H
   refine o_store_B 0 H sizeOf58 Z Z Z Z Z Z Z Z ?_; intro w19 H
   refine q1 (o_fieldAddr 1 runUnderlying58 Z sizeOf29 Z Z Z (o_load_B 0 H isAgg29 Z Z Z Z (o_call call147 Z Z (i_openTree_c _ _ H.sub _ _ hr17 H.lent0 ) ?_)))
   rintro _ w20 ⟨G20, _, _, rfl, H20', ⟨rfl, rfl, hv20⟩ | ⟨T20, F20, rfl, rfl, hN20, hT20, hv20⟩⟩
   ·skip
    have H := H.borrow0 H20'
    refine ⟨_, Z, ?_⟩
    refine mV Z (o_extract Z Z Z (o_extract Z Z Z (aG Z (aG Z (q3 (W_seq (q2 (mV Z (o_not Z Z (mV Z (rP Z (rP Z (rP Z (rP Z (o_pick_t Z Z Z ?_)))))))))))))))
    refine mV Z (rP Z (rP Z (rP Z (rP Z (rP Z (o_pick_t Z Z Z (q3 (W_true Z (q2 (aG Z (aG Z (q3 (W_ret (N_K_ret (N_B_ret ?_)))))))))))))))
    refine N_K_ret (N_LP_ret (N_B_ret (N_K_ret (rt2 results89 Z Z ?_))))
    have H := H.del (k := 0) rfl
    have H := H.del (k := 0) rfl
    have H := H.del (k := 0) rfl
    have H := H.del (k := 0) rfl
    have H := H.del (k := 0) rfl
    have H := H.del (k := 0) rfl
    have H := H.del (k := 0) rfl
    have H := H.del (k := 0) rfl
    have H := H.del (k := 0) rfl
    exact H.retM (.inl ⟨rfl, rfl, Sp.dv_no (fun hh => by (rw [(hh.2.2.2 k _ hz17).2.2] at hv20); cases hv20)⟩)
   skip
   have hchk15_0 := hchk15_0.up H20'.le
   have hchk15_1 := hchk15_1.up H20'.le
   have hNs := hNs.up H20'.le
   have hle15 := hle15.trans H20'.le
   have H := H.borrow0 H20'
   refine ⟨_, Z, ?_⟩
   refine mV Z (o_extract Z Z Z (o_extract Z Z Z (aG Z (aG Z (q3 (W_seq (q2 (mV Z (o_not Z Z (mV Z (gR Z (o_fieldAddr 0 runUnderlying58 Z sizeOf9 Z Z Z (gR Z (o_load_B 1 H isAgg9 Z Z Z Z (gR Z ?_)))))))))))))))
   refine o_call call141 Z Z (i_partValid_c _ _ hi17 ) ?_
   rintro _ w21 ⟨rfl, ew21⟩; have H := H.step ew21; refine ⟨_, rfl, ?_⟩
   refine gR Z (o_not Z Z (o_pick_f Z Z Z (mV Z ?_)))
   refine R_case (t := 55) Z ?_ ?_
   ·intro hc22
    try simp only [nrm] at hc22
    refine rP Z (rP Z (rP Z (rP Z (rP Z (o_pick_t Z Z Z (q3 (W_true Z (q2 (aG Z (aG Z (q3 (W_ret (N_K_ret (N_B_ret (N_K_ret ?_)))))))))))))))
    refine N_LP_ret (N_B_ret (N_K_ret (rt2 results89 Z Z ?_)))
    have H := H.del (k := 0) rfl
    have H := H.del (k := 0) rfl
    have H := H.del (k := 0) rfl
    have H := H.del (k := 0) rfl
    have H := H.del (k := 0) rfl
    have H := H.del (k := 0) rfl
    have H := H.del (k := 0) rfl
    have H := H.del (k := 0) rfl
    have H := H.del (k := 0) rfl
    have H := H.del (k := 0) rfl
    exact H.retM (.inl ⟨rfl, rfl, Sp.dv_no (fun hh => by have h9 := (hh.2.2.2 k _ hz17).1; simp_all)⟩)
   intro hc22'
   try simp only [nrm] at hc22'
   refine gR Z (mV Z (gR Z (o_fieldAddr 0 runUnderlying58 Z sizeOf9 Z Z Z (gR Z (o_load_B 1 H isAgg9 Z Z Z Z (gR Z (o_call call117 Z Z (i_snapAt_c _ _ (H.lendSubL [2, 5]) _ _ _ _ _ _ _ (prow_blk (H.lendPredL (k := 5) (ks := [2, 5]) Z Z)) (H.lendRdL (k := 2) (ks := [2, 5]) Z Z hchk15_0 aN aN) _ hi17 ) ?_)))))))
   rintro _ w23 ⟨rfl, ew23⟩; have H := H.step ew23; refine ⟨_, rfl, ?_⟩
   refine gR Z (o_geq Z Z Z (o_pick_f Z Z Z (q3 ?_)))
   refine W_cond Z ?_ ?_
   ·intro hc24
    try simp only [nrm] at hc24
    refine q2 (aG Z (aG Z (q3 (W_ret (N_K_ret (N_B_ret (N_K_ret (N_LP_ret (N_B_ret (N_K_ret (rt2 results89 Z Z ?_)))))))))))
    have H := H.del (k := 0) rfl
    have H := H.del (k := 0) rfl
    have H := H.del (k := 0) rfl
    have H := H.del (k := 0) rfl
    have H := H.del (k := 0) rfl
    have H := H.del (k := 0) rfl
    have H := H.del (k := 0) rfl
    have H := H.del (k := 0) rfl
    have H := H.del (k := 0) rfl
    have H := H.del (k := 0) rfl
    exact H.retM (.inl ⟨rfl, rfl, Sp.dv_no (fun hh => by have h9 := (Sp.at_take hz17).1 (hh.2.2.2 k _ hz17).2.1; (rw [← Sp.sn_find hSn] at h9); omega)⟩)
   intro hc24'
   try simp only [nrm] at hc24'
   refine W_skip (N_K (W_seq (W_drawK [1, 6, 9] 14 H kR Z ?_))); intro w25 H; have hd25 := PLe.refl G20
   refine vM 0 Z Z (vM 1 Z Z (RD_t 2 Z kR Z (fun _ hK => v_nilCheck Z) (RD_t 3 Z kR Z (fun _ hK => v_fieldAddr 4 runUnderlying147 Z sizeOf145 Z Z) (RD_t 5 Z kR Z (fun _ hK => v_fieldAddr 0 runUnderlying58 Z sizeOf9 Z Z) (RD_t 6 Z kR Z (fun _ hK => v_load_B 0 hK isAgg9 Z Z Z) (vM 7 Z Z (RD_t 8 Z kR Z (fun _ hK => v_build bf151 Z Z) ?_)))))))
   refine RD_run [4, 9] kR Z (RDs.cons Z ?_ (RDs.cons Z ?_ RDs.nil))
   ·skip
    refine o_load_B 5 H isAgg145 Z Z Z Z (R_nil (N_DK (Kn.of' H hd25 (SubL.cons 1 Z (SubL.cons 6 Z (SubL.cons 9 Z SubL.nil)))) ?_))
    refine RD_run [9] kR Z (RDs.cons Z ?_ RDs.nil)
    refine o_buildSlice H underlying145 sizeOf151 (fun w => ⟨_, zeroValue151 w, Z⟩) Z Z Z Z Z Z Z ?_; intro b26 w26 hb26 H
    refine R_nil (N_DK (Kn.of' H hd25 (SubL.cons 2 Z (SubL.cons 7 Z (SubL.cons 10 Z SubL.nil)))) ?_)
    refine RD_run [10] kR Z (RDs.cons Z ?_ RDs.nil)
    refine o_append1 2 H (sz := 2) (bytes := 24) underlying145 typeInfo151 ⟨_, Z, Z⟩ Z Z Z Z Z Z Z Z Z Z oM Z ?_; intro v27 w27 H
    have hchk27 := hchk15_0.snoc (show osE _ (z17.name, T20) _ from ⟨rfl, hi17⟩) rfl
    obtain ⟨av27, cv27, rfl⟩ := H.accShape (k := 2) rfl
    refine R_nil (N_DK (Kn.of' H hd25 (SubL.cons 1 Z (SubL.cons 6 Z (SubL.cons 9 Z SubL.nil)))) (RD_t 11 Z kR Z (fun _ hK => v_nilCheck Z) (RD_t 12 Z kR Z (fun _ hK => v_fieldAddr 4 runUnderlying147 Z sizeOf145 Z Z) ?_)))
    refine RD_run [13] kR Z (RDs.cons Z ?_ RDs.nil)
    have H := H.toFront (k := 3) rfl
    have H := H.mergeF
    refine o_store_B 4 H sizeOf145 Z Z Z Z Z Z Z Z ?_; intro w28 H
    refine R_nil (N_DK (Kn.of' H hd25 (SubL.cons 1 Z (SubL.cons 5 Z (SubL.cons 8 Z SubL.nil)))) (RD_done kR (N_K (W_region (mV Z (mV Z (o_buildSlice H underlying162 sizeOf93 (fun w => ⟨_, zeroValue93 w, Z⟩) Z Z Z Z Z Z Z ?_))))))); intro b29 w29 hb29 H
    refine o_append1 3 H (sz := 1) (bytes := 8) underlying162 typeInfo93 ⟨_, Z, Z⟩ Z Z Z Z Z Z Z Z Z Z oM Z ?_; intro v30 w30 H
    have hchk30 := hchk15_1.snoc (show kdE _ T20 _ from rfl) rfl
    obtain ⟨av30, cv30, rfl⟩ := H.accShape (k := 3) rfl
    refine aG Z (R_nil (N_B (N_K (W_region (o_add Z Z Z oO (mV Z (R_nil ?_)))))))
    have H := H.del (k := 1) rfl
    have H := H.toFront (k := 7) rfl
    have H := H.toFront (k := 7) rfl
    have H := H.toFront (k := 7) rfl
    have H := H.toFront (k := 7) rfl
    have H := H.toFront (k := 7) rfl
    have H := H.toFront (k := 7) rfl
    have H := H.toFront (k := 6) rfl
    have H := H.toFront (k := 7) rfl
    refine N_lp (hJ := ⟨_, _, _, (xs ++ [(z17.name, T20)]), _, _, _, (xs1 ++ [T20]), k + 1, (FSq ++ F20), _, Z, hle15, H, ?inv, Z⟩) (hm := ?hm)
    case hm => omega
    case inv => exact ⟨hchk27, aN, hchk30, aN, (by exact ⟨by omega, by simp [hx1], by simpa using hNs.snoc hN20, hSn.snoc2 hz17 rfl hT20 hv20, names_step hw hz17 (by simpa using hc22') hSn oM⟩)⟩
   skip
   refine o_buildSlice H underlying145 sizeOf151 (fun w => ⟨_, zeroValue151 w, Z⟩) Z Z Z Z Z Z Z ?_; intro b32 w32 hb32 H
   refine R_nil (N_DK (Kn.of' H hd25 (SubL.cons 2 Z (SubL.cons 7 Z (SubL.cons 10 Z SubL.nil)))) ?_)
   refine RD_run [4] kR Z (RDs.cons Z ?_ RDs.nil)
   refine o_load_B 6 H isAgg145 Z Z Z Z (R_nil (N_DK (Kn.of' H hd25 (SubL.cons 2 Z (SubL.cons 7 Z (SubL.cons 10 Z SubL.nil)))) ?_))
   refine RD_run [10] kR Z (RDs.cons Z ?_ RDs.nil)
   refine o_append1 2 H (sz := 2) (bytes := 24) underlying145 typeInfo151 ⟨_, Z, Z⟩ Z Z Z Z Z Z Z Z Z Z oM Z ?_; intro v33 w33 H
   have hchk33 := hchk15_0.snoc (show osE _ (z17.name, T20) _ from ⟨rfl, hi17⟩) rfl
   obtain ⟨av33, cv33, rfl⟩ := H.accShape (k := 2) rfl
   refine R_nil (N_DK (Kn.of' H hd25 (SubL.cons 1 Z (SubL.cons 6 Z (SubL.cons 9 Z SubL.nil)))) (RD_t 11 Z kR Z (fun _ hK => v_nilCheck Z) (RD_t 12 Z kR Z (fun _ hK => v_fieldAddr 4 runUnderlying147 Z sizeOf145 Z Z) ?_)))
   refine RD_run [13] kR Z (RDs.cons Z ?_ RDs.nil)
   have H := H.toFront (k := 3) rfl
   have H := H.mergeF
   refine o_store_B 4 H sizeOf145 Z Z Z Z Z Z Z Z ?_; intro w34 H
   refine R_nil (N_DK (Kn.of' H hd25 (SubL.cons 1 Z (SubL.cons 5 Z (SubL.cons 8 Z SubL.nil)))) (RD_done kR (N_K (W_region (mV Z (mV Z (o_buildSlice H underlying162 sizeOf93 (fun w => ⟨_, zeroValue93 w, Z⟩) Z Z Z Z Z Z Z ?_))))))); intro b35 w35 hb35 H
   refine o_append1 3 H (sz := 1) (bytes := 8) underlying162 typeInfo93 ⟨_, Z, Z⟩ Z Z Z Z Z Z Z Z Z Z oM Z ?_; intro v36 w36 H
   have hchk36 := hchk15_1.snoc (show kdE _ T20 _ from rfl) rfl
   obtain ⟨av36, cv36, rfl⟩ := H.accShape (k := 3) rfl
   refine aG Z (R_nil (N_B (N_K (W_region (o_add Z Z Z oO (mV Z (R_nil ?_)))))))
   have H := H.del (k := 1) rfl
   have H := H.toFront (k := 7) rfl
   have H := H.toFront (k := 7) rfl
   have H := H.toFront (k := 7) rfl
   have H := H.toFront (k := 7) rfl
   have H := H.toFront (k := 7) rfl
   have H := H.toFront (k := 7) rfl
   have H := H.toFront (k := 6) rfl
   have H := H.toFront (k := 7) rfl
   refine N_lp (hJ := ⟨_, _, _, (xs ++ [(z17.name, T20)]), _, _, _, (xs1 ++ [T20]), k + 1, (FSq ++ F20), _, Z, hle15, H, ?inv, Z⟩) (hm := ?hm)
   case hm => omega
   case inv => exact ⟨hchk33, aN, hchk36, aN, (by exact ⟨by omega, by simp [hx1], by simpa using hNs.snoc hN20, hSn.snoc2 hz17 rfl hT20 hv20, names_step hw hz17 (by simpa using hc22') hSn oM⟩)⟩
  intro hc16'
  try simp only [nrm] at hc16'
  refine W_exit (N_K_exit (N_LP_exit (N_B_same (N_K (W_seq (q2 (o_fieldAddr 0 runUnderlying95 Z sizeOf92 Z Z Z (o_load_B 4 H isAgg92 Z Z Z Z (mV Z ?_)))))))))
  refine o_call call130 Z Z (i_usedBy_c _ _ (H.lendSubL [1, 2, 5, 6]) _ _ _ _ _ (H.lendPredL (k := 5) (ks := [1, 2, 5, 6]) Z Z) hm3 (hS3.up (PPlus.le _ _ _)) hV3 _ _ (RdS.withN (H.lendRdL (k := 2) (ks := [1, 2, 5, 6]) Z Z hchk15_1 aN aN) (fun t ht => by (rw [hx1] at ht); rcases List.mem_cons.1 ht with rfl | ht; (· exact H.lendN (k := 6) rfl rfl hN3); (· exact H.lendNs (k := 1) rfl rfl hNs t ht))) oM (fun t ht => by (rw [hx1] at ht); rcases List.mem_cons.1 ht with rfl | ht; (· exact ⟨hT3.wf, by have := hT3.cnt; have := Sp.tree_len hv3; omega⟩); (· exact sn_ok hSn t ht))) ?_
  rintro _ w38 ⟨rfl, ew38⟩; have H := H.step ew38; refine ⟨_, rfl, ?_⟩
  refine o_not Z Z (q3 ?_)
  refine W_cond Z ?_ ?_
  ·intro hc39
   try simp only [nrm] at hc39
   refine q2 (aG Z (aG Z (q3 (W_ret (N_K_ret (rt2 results89 Z Z ?_))))))
   have H := H.del (k := 0) rfl
   have H := H.del (k := 0) rfl
   have H := H.del (k := 0) rfl
   have H := H.del (k := 0) rfl
   have H := H.del (k := 0) rfl
   have H := H.del (k := 0) rfl
   have H := H.del (k := 0) rfl
   have H := H.del (k := 0) rfl
   have hkk : k = d.snaps.length := by omega
   have hSnf : SnOK xs d.snaps := by (rw [hkk, List.take_length] at hSn; exact hSn)
   have hwf : ∀ (j : Nat) (s : BSnap), d.snaps[j]? = some s → Sp.l1Word s.name = true ∧ (j : Int) ≤ Sp.l12At d.snaps s.name := fun j s hs => hw j s (by have := (List.getElem?_eq_some_iff.1 hs).1; omega) hs
   exact H.retM (.inl ⟨rfl, rfl, (by (rw [Sp.dv_use (Sp.valid_iff.2 hV3) hT3 oM hSnf hwf, ← hx1]; unfold Sp.useOK; rw [Bool.and_eq_false_iff]; exact hc39))⟩)
  intro hc39'
  try simp only [nrm] at hc39'
  refine W_skip (N_K (q2 (mV Z (aG Z (aG Z (q3 (W_ret (rt2 results89 Z Z ?_))))))))
  have H := H.del (k := 2) rfl
  have H := H.del (k := 3) rfl
  have H := H.del (k := 5) rfl
  have H := H.toFront (k := 1) rfl
  have H := H.toFront (k := 1) rfl
  have H := H.toFront (k := 4) rfl
  have H := H.toFront (k := 4) rfl
  have H := H.toFront (k := 4) rfl
  have hkk : k = d.snaps.length := by omega
  have hSnf : SnOK xs d.snaps := by (rw [hkk, List.take_length] at hSn; exact hSn)
  have hwf : ∀ (j : Nat) (s : BSnap), d.snaps[j]? = some s → Sp.l1Word s.name = true ∧ (j : Int) ≤ Sp.l12At d.snaps s.name := fun j s hs => hw j s (by have := (List.getElem?_eq_some_iff.1 hs).1; omega) hs
  have hdv : Sp.DiskValid d = true := by (rw [Sp.dv_use (Sp.valid_iff.2 hV3) hT3 oM hSnf hwf, ← hx1]; unfold Sp.useOK; simpa using hc39')
  obtain rfl : n = xs.length := by assumption
  exact H.retM (.inr ⟨_, _, _, _, _, _, _, _, xs, _, _, Z, Z, hm3, hS3, hN3, hT3, hchk15_0, hNs, hSnf, hdv⟩)
end Go.Proofs.Tst

namespace Go.Proofs.Tst
open Go
abbrev muLink : Go.Conc.Locks.MuLink := { lock := 115, unlock := 116, ilock := 159, iunlock := 160, lockSlow := 189, unlockSlow := 192, disable := 185, enable := 187, acquire := 188, relMerge := 190, cas32 := 186, add32 := 191, tMutex := 144, tIMutex := 142, tPMutex := 185, tPIMutex := 213, tPI32 := 215, tUP := 217, tNoCopy := 139, tU32 := 140 }
theorem muLib : Go.Conc.Locks.MuLib Tryz.prog muLink where
 f_lock := by kernel_rfl
 f_unlock := by kernel_rfl
 f_ilock := by kernel_rfl
 f_iunlock := by kernel_rfl
 f_disable := by kernel_rfl
 f_enable := by kernel_rfl
 f_acquire := by kernel_rfl
 f_relMerge := by kernel_rfl
 f_cas32 := by kernel_rfl
 f_add32 := by kernel_rfl
 underlying_tIMutex := Tryz.underlying142
 runUnderlying_tIMutex := Tryz.runUnderlying142
 sizeOf_tIMutex := Tryz.sizeOf142
 isAgg_tIMutex := Tryz.isAgg142
 zeroValue_tIMutex := Tryz.zeroValue142
 underlying_tMutex := Tryz.underlying144
 runUnderlying_tMutex := Tryz.runUnderlying144
 sizeOf_tMutex := Tryz.sizeOf144
 isAgg_tMutex := Tryz.isAgg144
 zeroValue_tMutex := Tryz.zeroValue144
 underlying_tPMutex := Tryz.underlying185
 runUnderlying_tPMutex := Tryz.runUnderlying185
 sizeOf_tPMutex := Tryz.sizeOf185
 isAgg_tPMutex := Tryz.isAgg185
 zeroValue_tPMutex := Tryz.zeroValue185
 underlying_tPIMutex := Tryz.underlying213
 runUnderlying_tPIMutex := Tryz.runUnderlying213
 sizeOf_tPIMutex := Tryz.sizeOf213
 isAgg_tPIMutex := Tryz.isAgg213
 zeroValue_tPIMutex := Tryz.zeroValue213
 underlying_tPI32 := Tryz.underlying215
 runUnderlying_tPI32 := Tryz.runUnderlying215
 sizeOf_tPI32 := Tryz.sizeOf215
 isAgg_tPI32 := Tryz.isAgg215
 zeroValue_tPI32 := Tryz.zeroValue215
 underlying_tUP := Tryz.underlying217
 runUnderlying_tUP := Tryz.runUnderlying217
 sizeOf_tUP := Tryz.sizeOf217
 isAgg_tUP := Tryz.isAgg217
 zeroValue_tUP := Tryz.zeroValue217
 underlying_tNoCopy := Tryz.underlying139
 runUnderlying_tNoCopy := Tryz.runUnderlying139
 sizeOf_tNoCopy := Tryz.sizeOf139
 isAgg_tNoCopy := Tryz.isAgg139
 zeroValue_tNoCopy := Tryz.zeroValue139
 underlying_t21 := Tryz.underlying21
 runUnderlying_t21 := Tryz.runUnderlying21
 sizeOf_t21 := Tryz.sizeOf21
 isAgg_t21 := Tryz.isAgg21
 zeroValue_t21 := Tryz.zeroValue21
 room_tIMutex := by kernel_rfl
end Go.Proofs.Tst

namespace Go.Proofs.Tst
open Go Fw Tryz
theorem i_disk_c (w0 : World) (G0 : PH) (hG : PSub G0 w0) (db mb : Nat) (es : Array MapEntry) (ck : Nat) (xs : List (Int × Value)) (T : Nd) (FT : Fr) (sv : Value) (sn : List (Bs × Nd)) (c : List Value) (FSq : Fr) (d : BDisk) (hm : MapIs (Value.int .i64) es ck xs) (hS : StR G0 xs d.store) (hN : NdO 166 93 G0 T FT) (hT : Nd.TOK T d.tree) (hchk : Chk osE 2 G0 c sn) (hNs : NdsO 166 93 G0 (sn.map (·.2)) FSq) (hSn : SnOK sn d.snaps) (hVd : Sp.VH d.store) (hs6 : d.snaps.length ≤ 6) (hLent : Lent w0 G0 [blk db (cl [.int .i32 0, .int .u32 0, .map (some mb), .pointer (some ⟨T.b, 0, none⟩), sv] 147), blk mb (.map es ck), frag FT, acc 151 2 sv sn.length c, frag FSq])  :
  Calls Tryz.prog 114 #[.pointer (some ⟨db, 0, none⟩)] w0 (RetM w0 G0 (fps [blk db (cl [.int .i32 0, .int .u32 0, .map (some mb), .pointer (some ⟨T.b, 0, none⟩), sv] 147), blk mb (.map es ck), frag FT, acc 151 2 sv sn.length c, frag FSq]) (fun G' v Bs => ∃ (v1 v2 v3 : Value) (F1 F2 F3 : Fr), v = .agg #[v1, v2, v3] ∧ Bs = [frag F1, frag F2, frag F3] ∧ OHs F1 v1 d.store ∧ OIs F2 v2 d.tree ∧ OSn F3 v3 d.snaps)) := by
 have H : Hp w0 G0 (fps [blk db (cl [.int .i32 0, .int .u32 0, .map (some mb), .pointer (some ⟨T.b, 0, none⟩), sv] 147), blk mb (.map es ck), frag FT, acc 151 2 sv sn.length c, frag FSq]) w0 G0 [blk db (cl [.int .i32 0, .int .u32 0, .map (some mb), .pointer (some ⟨T.b, 0, none⟩), sv] 147), blk mb (.map es ck), frag FT, acc 151 2 sv sn.length c, frag FSq] := hLent.hp
 obtain ⟨adv, cdv, rfl⟩ := H.accShape (k := 3) rfl; have hTv := hT.valid; have hTc := hT.cnt; have hTl := Sp.tree_len hTv; have hsnl := hSn.len; have hxa := H.accShape (k := 3) rfl
 refine calls_of_WD (l := [.pointer (some ⟨db, 0, none⟩)]) func114 Z ntmps114 Z (q2 (o_alloc H zeroValue32 Z Z ?_)); intro b1 w1 hb1 H
 refine q1 (mV Z (o_nilCheck Z Z (o_fieldAddr 0 runUnderlying147 Z sizeOf144 Z Z Z (o_lock 1 H muLib Z call115 Z Z Z Z ?_)))); intro w2 H
 refine q1 (mV Z (o_nilCheck Z Z (o_fieldAddr 0 runUnderlying147 Z sizeOf144 Z Z Z (o_defer Z (q3 (W_seq (W_drawK [0, 1] 15 H kR Z ?_))))))); intro w3 H; have hd3 := PLe.refl G0
 refine vM 0 Z Z (RD_t 1 Z kR Z (fun _ hK => v_nilCheck Z) (RD_t 2 Z kR Z (fun _ hK => v_fieldAddr 2 runUnderlying147 Z sizeOf95 Z Z) (RD_t 3 Z kR Z (fun _ hK => v_fieldAddr 0 runUnderlying95 Z sizeOf92 Z Z) (RD_t 4 Z kR Z (fun _ hK => v_load_B 1 hK isAgg92 Z Z Z) (vM 6 Z Z (RD_t 7 Z kR Z (fun _ hK => v_nilCheck Z) (RD_t 8 Z kR Z (fun _ hK => v_fieldAddr 2 runUnderlying147 Z sizeOf95 Z Z) (RD_t 9 Z kR Z (fun _ hK => v_fieldAddr 1 runUnderlying95 Z sizeOf93 Z Z) (RD_t 10 Z kR Z (fun _ hK => v_load_B 1 hK isAgg93 Z Z Z) ?_)))))))))
 refine RD_run [5, 13] kR Z (RDs.cons Z ?_ (RDs.cons Z ?_ RDs.nil))
 ·skip
  refine o_call call137 Z Z (i_slist_c _ _ (H.lendSubL [2]) _ _ _ _ _ (H.lendPredL (k := 2) (ks := [2]) Z Z) hm (hS.up (PPlus.le _ _ _)) hVd ) ?_
  rintro _ w4 ⟨_, _, rfl, H4', ⟨F4, rfl, hO4⟩⟩
  have H := H.readersL H4'
  obtain ⟨e24, hP4⟩ := hO4
  obtain ⟨sa4, sc4, rfl⟩ := OwnS.shape hP4
  have hO4 := OHs.mk hP4
  refine ⟨_, Z, ?_⟩
  refine R_nil (N_DK (Kn.of' H hd3 (SubL.cons 1 Z (SubL.cons 2 Z SubL.nil))) ?_)
  refine RD_run [11, 13] kR Z (RDs.cons Z ?_ (RDs.cons Z ?_ RDs.nil))
  ·skip
   refine o_call call138 Z Z (i_tlist_c _ _ (H.lendSubL [4]) _ ((H.lendN (k := 4) (ks := [4]) Z Z hN).at (show Nd.at_ T [] = some T from Z)) hT.wf oM) ?_
   rintro _ w5 ⟨_, _, rfl, H5', ⟨F5, rfl, hO5⟩⟩
   have H := H.readersL H5'
   obtain ⟨e25, hP5⟩ := hO5
   obtain ⟨sa5, sc5, rfl⟩ := OwnS.shape hP5
   have hO5 := OIs.mk hP5
   refine ⟨_, Z, ?_⟩
   refine R_nil (N_DK (Kn.of' H hd3 (SubL.cons 2 Z (SubL.cons 3 Z SubL.nil))) (RD_t 12 Z kR Z (fun _ hK => v_build bf32 Z Z) ?_))
   refine RD_run [13] kR Z (RDs.cons Z ?_ RDs.nil)
   refine o_alloc H zeroValue32 Z Z ?_; intro b6 w6 hb6 H
   refine R_nil (N_DK (Kn.of' H hd3 (SubL.cons 3 Z (SubL.cons 4 Z SubL.nil))) ?_)
   refine RD_run [14] kR Z (RDs.cons Z ?_ RDs.nil)
   refine o_store_B 0 H sizeOf32 Z Z Z Z Z Z Z Z ?_; intro w7 H
   refine R_nil (N_DKlast kR kR (N_K (W_seq (q2 (mV Z (o_nilCheck Z Z (o_fieldAddr 4 runUnderlying147 Z sizeOf145 Z Z Z (o_load_B 4 H isAgg145 Z Z Z Z (o_len_slice underlying145 Z Z (mV Z (q3 (W_block ?_))))))))))))
   have H := H.addNil 58 2
   have H := H.addF
   obtain ⟨ln9, hln9, H⟩ := H.nameAt (k := 2) (off := 2) rfl rfl
   obtain ⟨ln10, hln10, H⟩ := H.name (k := 5) rfl
   obtain ⟨ln11, hln11, H⟩ := H.name (k := 6) rfl
   refine W_lp (hf := (Sub.cons (t := 2) Z (Sub.cons (t := 3) Z (Sub.cons (t := 29) Z (Sub.cons (t := 30) Z Sub.nil))))) (J := fun M w m => ∃ (v : Value) (n : Nat) (cs : List Value) (xs : List (BSnap)) (F : Fr) (k : Nat) (G : PH), M = [(31, .int .i64 (k : Int))] ∧ PLe G0 G ∧ Hp w0 G0 (fps [blk db (cl [.int .i32 0, .int .u32 0, .map (some mb), .pointer (some ⟨T.b, 0, none⟩), .slice adv sn.length cdv] 147), blk mb (.map es ck), frag FT, acc 151 2 (.slice adv sn.length cdv) sn.length c, frag FSq]) w G [frag F, acc 58 2 v n cs, blk b6 (cl (setN ln9 2 v) 32), frag F5, frag F4, blk b1 (cl ln10 32), blk db (cl ln11 147), blk mb (.map es ck), frag FT, acc 151 2 (.slice adv sn.length cdv) sn.length c, frag FSq] ∧ (ChkF snapO 2 cs xs F ∧ n = xs.length ∧ k ≤ sn.length ∧ xs = (sn.take k).map (fun x => (⟨x.1, x.2.flat []⟩ : BSnap))) ∧ m = (sn.length - k)) (h0 := ⟨_, _, _, [], [], 0, _, Z, PLe.refl _, H, ?inv, Z⟩) (round := ?round)
   case inv => exact ⟨ChkF.nil,  by first | rfl | simp | (simp; omega) | omega, (by simp)⟩
   case round =>
    rintro _ w12 _ ⟨v, n, cs, xs, F, k, G12, rfl, hle12, H, hinv12, rfl⟩
    subst hln9
    subst hln10
    subst hln11
    have hchk := hchk.up hle12
    have hNs := hNs.up hle12
    obtain ⟨hchk12_0, hn12_0, hinv12⟩ := hinv12
    obtain ⟨av12_0, cv12_0, rfl⟩ := H.accShape (k := 1) rfl
    obtain ⟨hk, hxs⟩ := hinv12; have hxl6 : xs.length ≤ 6 := by (rw [hxs]; simp; omega)
    refine q2 (o_lss Z Z Z (q3 (W_seq ?_)))
    refine W_cond Z ?_ ?_
    ·intro hc13
     try simp only [nrm] at hc13
     refine W_skip (N_K (W_seq (W_block (q2 (o_index_A 9 H k Z hchk underlying145 sizeOf151 Z Z Z Z aN aN ?_))))); intro ba14 z14 q14 hba14 hz14 hE14 hg14; cases hba14
     obtain ⟨rfl, hi14⟩ := hE14; have hy_hi14 : _ ≤ 16777216 := hi14
     refine o_loadagg_A 9 H isAgg151 sizeOf151 Z Z Z hg14 Z (o_alloc H zeroValue151 Z Z ?_); intro b15 w15 hb15 H
     refine o_store_B 0 H sizeOf151 Z Z Z Z Z Z Z Z ?_; intro w16 H
     refine q3 (W_drawK [0, 3, 6, 7] 12 H kR Z ?_); intro w17 H; have hd17 := PLe.refl G12
     refine RD_t 0 Z kR Z (fun _ hK => v_fieldAddr 2 runUnderlying32 Z sizeOf30 Z Z) (RD_t 1 Z kR Z (fun _ hK => v_load_B 1 hK isAgg30 Z Z Z) (RD_t 2 Z kR Z (fun _ hK => v_fieldAddr 0 runUnderlying151 Z sizeOf9 Z Z) (RD_t 3 Z kR Z (fun _ hK => v_load_B 0 hK isAgg9 Z Z Z) (RD_t 4 Z kR Z (fun _ hK => v_fieldAddr 1 runUnderlying151 Z sizeOf93 Z Z) (RD_t 5 Z kR Z (fun _ hK => v_load_B 0 hK isAgg93 Z Z Z) ?_)))))
     refine RD_run [6] kR Z (RDs.cons Z ?_ RDs.nil)
     refine o_call call138 Z Z (i_tlist_c _ _ (H.lendSubL [11]) _ (H.lendNs (k := 11) (ks := [11]) Z Z hNs z14.2 (List.mem_map_of_mem (List.mem_of_getElem? hz14))) (sn_ok hSn _ (List.mem_map_of_mem (List.mem_of_getElem? hz14))).1 (by have := (sn_ok hSn _ (List.mem_map_of_mem (List.mem_of_getElem? hz14))).2; omega)) ?_
     rintro _ w18 ⟨_, _, rfl, H18', ⟨F18, rfl, hO18⟩⟩
     have H := H.readersL H18'
     obtain ⟨e218, hP18⟩ := hO18
     obtain ⟨sa18, sc18, rfl⟩ := OwnS.shape hP18
     have hO18 := OIs.mk hP18
     refine ⟨_, Z, ?_⟩
     refine R_nil (N_DK (Kn.of' H hd17 (SubL.cons 1 Z (SubL.cons 4 Z (SubL.cons 7 Z (SubL.cons 8 Z SubL.nil))))) (RD_t 7 Z kR Z (fun _ hK => v_build bf58 Z Z) ?_))
     refine RD_run [8] kR Z (RDs.cons Z ?_ RDs.nil)
     refine o_buildSlice H underlying30 sizeOf58 (fun w => ⟨_, zeroValue58 w, Z⟩) Z Z Z Z Z Z Z ?_; intro b19 w19 hb19 H
     refine R_nil (N_DK (Kn.of' H hd17 (SubL.cons 2 Z (SubL.cons 5 Z (SubL.cons 8 Z (SubL.cons 9 Z SubL.nil))))) ?_)
     refine RD_run [9] kR Z (RDs.cons Z ?_ RDs.nil)
     refine o_append1 3 H (sz := 2) (bytes := 40) underlying30 typeInfo58 ⟨_, Z, Z⟩ Z Z Z Z Z Z Z Z Z Z oM Z ?_; intro v20 w20 H
     have hchk20 := hchk12_0.snoc (show snapO F18 ⟨z14.1, z14.2.flat []⟩ _ from ⟨_, _, _, rfl, hi14, hO18⟩) rfl
     have H := H.toFront (k := 2) rfl
     have H := H.mergeF
     obtain ⟨av20, cv20, rfl⟩ := H.accShape (k := 2) rfl
     refine R_nil (N_DK (Kn.of' H hd17 (SubL.cons 1 Z (SubL.cons 3 Z (SubL.cons 6 Z (SubL.cons 7 Z SubL.nil))))) (RD_t 10 Z kR Z (fun _ hK => v_fieldAddr 2 runUnderlying32 Z sizeOf30 Z Z) ?_))
     refine RD_run [11] kR Z (RDs.cons Z ?_ RDs.nil)
     refine o_store_B 3 H sizeOf30 Z Z Z Z Z Z Z Z ?_; intro w21 H
     refine R_nil (N_DKlast kR kR (N_B (N_K (W_region (o_add Z Z Z oO (mV Z (R_nil ?_)))))))
     have H := H.del (k := 1) rfl
     refine N_lp (hJ := ⟨_, _, _, (xs ++ [⟨z14.1, z14.2.flat []⟩]), (F ++ F18), k + 1, _, Z, hle12, H, ?inv, Z⟩) (hm := ?hm)
     case hm => omega
     case inv => exact ⟨hchk20, aN, (by exact ⟨by omega, by (rw [Sp.take_succ' hz14, List.map_append, ← hxs]; rfl)⟩)⟩
    intro hc13'
    try simp only [nrm] at hc13'
    refine W_exit (N_K_exit (N_LP_exit (N_B_same (N_K (q2 (o_loadagg_B 2 H isAgg32 sizeOf32 Z Z Z Z Z (o_store_B 5 H sizeOf32 Z Z Z Z Z Z Z Z ?_))))))); intro w23 H
    refine q3 (W_ret (ret_unlock 6 H muLib Z call116 Z Z (rs := [.cell 2 32]) results114 ?_)); intro wu2 H
    refine ⟨[_], ⟨⟨_, Z, load_blk 5 H isAgg32 sizeOf32 Z Z Z⟩, trivial⟩, ?_⟩
    have H := H.toFront (k := 1) rfl
    obtain ⟨Fo3, H, hOw3⟩ := H.ownF hchk12_0 aN aN
    have H := H.del (k := 1) rfl
    have H := H.del (k := 3) rfl
    have H := H.del (k := 3) rfl
    have H := H.del (k := 3) rfl
    have H := H.del (k := 3) rfl
    have H := H.del (k := 3) rfl
    have H := H.del (k := 3) rfl
    have H := H.toFront (k := 1) rfl
    have H := H.toFront (k := 2) rfl
    have hxs2 : xs = d.snaps := by (rw [hxs, List.take_of_length_le oM]; exact sn_list hSn)
    exact H.retM ⟨_, _, _, _, _, _, rfl, rfl, hO4, (by (rw [← hT.flat]); exact hO5), (by have h9 := (show OSn _ _ _ from ⟨_, hOw3⟩); (rw [hxs2] at h9); exact h9)⟩
  skip
  refine o_alloc H zeroValue32 Z Z ?_; intro b24 w24 hb24 H
  refine R_nil (N_DK (Kn.of' H hd3 (SubL.cons 2 Z (SubL.cons 3 Z SubL.nil))) ?_)
  refine RD_run [11] kR Z (RDs.cons Z ?_ RDs.nil)
  refine o_call call138 Z Z (i_tlist_c _ _ (H.lendSubL [5]) _ ((H.lendN (k := 5) (ks := [5]) Z Z hN).at (show Nd.at_ T [] = some T from Z)) hT.wf oM) ?_
  rintro _ w25 ⟨_, _, rfl, H25', ⟨F25, rfl, hO25⟩⟩
  have H := H.readersL H25'
  obtain ⟨e225, hP25⟩ := hO25
  obtain ⟨sa25, sc25, rfl⟩ := OwnS.shape hP25
  have hO25 := OIs.mk hP25
  refine ⟨_, Z, ?_⟩
  refine R_nil (N_DK (Kn.of' H hd3 (SubL.cons 3 Z (SubL.cons 4 Z SubL.nil))) (RD_t 12 Z kR Z (fun _ hK => v_build bf32 Z Z) ?_))
  refine RD_run [14] kR Z (RDs.cons Z ?_ RDs.nil)
  refine o_store_B 1 H sizeOf32 Z Z Z Z Z Z Z Z ?_; intro w26 H
  refine R_nil (N_DKlast kR kR (N_K (W_seq (q2 (mV Z (o_nilCheck Z Z (o_fieldAddr 4 runUnderlying147 Z sizeOf145 Z Z Z (o_load_B 4 H isAgg145 Z Z Z Z (o_len_slice underlying145 Z Z (mV Z (q3 (W_block ?_))))))))))))
  have H := H.addNil 58 2
  have H := H.addF
  obtain ⟨ln28, hln28, H⟩ := H.nameAt (k := 3) (off := 2) rfl rfl
  obtain ⟨ln29, hln29, H⟩ := H.name (k := 5) rfl
  obtain ⟨ln30, hln30, H⟩ := H.name (k := 6) rfl
  refine W_lp (hf := (Sub.cons (t := 2) Z (Sub.cons (t := 3) Z (Sub.cons (t := 29) Z (Sub.cons (t := 30) Z Sub.nil))))) (J := fun M w m => ∃ (v : Value) (n : Nat) (cs : List Value) (xs : List (BSnap)) (F : Fr) (k : Nat) (G : PH), M = [(31, .int .i64 (k : Int))] ∧ PLe G0 G ∧ Hp w0 G0 (fps [blk db (cl [.int .i32 0, .int .u32 0, .map (some mb), .pointer (some ⟨T.b, 0, none⟩), .slice adv sn.length cdv] 147), blk mb (.map es ck), frag FT, acc 151 2 (.slice adv sn.length cdv) sn.length c, frag FSq]) w G [frag F, acc 58 2 v n cs, frag F25, blk b24 (cl (setN ln28 2 v) 32), frag F4, blk b1 (cl ln29 32), blk db (cl ln30 147), blk mb (.map es ck), frag FT, acc 151 2 (.slice adv sn.length cdv) sn.length c, frag FSq] ∧ (ChkF snapO 2 cs xs F ∧ n = xs.length ∧ k ≤ sn.length ∧ xs = (sn.take k).map (fun x => (⟨x.1, x.2.flat []⟩ : BSnap))) ∧ m = (sn.length - k)) (h0 := ⟨_, _, _, [], [], 0, _, Z, PLe.refl _, H, ?inv, Z⟩) (round := ?round)
  case inv => exact ⟨ChkF.nil,  by first | rfl | simp | (simp; omega) | omega, (by simp)⟩
  case round =>
   rintro _ w31 _ ⟨v, n, cs, xs, F, k, G31, rfl, hle31, H, hinv31, rfl⟩
   subst hln28
   subst hln29
   subst hln30
   have hchk := hchk.up hle31
   have hNs := hNs.up hle31
   obtain ⟨hchk31_0, hn31_0, hinv31⟩ := hinv31
   obtain ⟨av31_0, cv31_0, rfl⟩ := H.accShape (k := 1) rfl
   obtain ⟨hk, hxs⟩ := hinv31; have hxl6 : xs.length ≤ 6 := by (rw [hxs]; simp; omega)
   refine q2 (o_lss Z Z Z (q3 (W_seq ?_)))
   refine W_cond Z ?_ ?_
   ·intro hc32
    try simp only [nrm] at hc32
    refine W_skip (N_K (W_seq (W_block (q2 (o_index_A 9 H k Z hchk underlying145 sizeOf151 Z Z Z Z aN aN ?_))))); intro ba33 z33 q33 hba33 hz33 hE33 hg33; cases hba33
    obtain ⟨rfl, hi33⟩ := hE33; have hy_hi33 : _ ≤ 16777216 := hi33
    refine o_loadagg_A 9 H isAgg151 sizeOf151 Z Z Z hg33 Z (o_alloc H zeroValue151 Z Z ?_); intro b34 w34 hb34 H
    refine o_store_B 0 H sizeOf151 Z Z Z Z Z Z Z Z ?_; intro w35 H
    refine q3 (W_drawK [0, 4, 6, 7] 12 H kR Z ?_); intro w36 H; have hd36 := PLe.refl G31
    refine RD_t 0 Z kR Z (fun _ hK => v_fieldAddr 2 runUnderlying32 Z sizeOf30 Z Z) (RD_t 1 Z kR Z (fun _ hK => v_load_B 1 hK isAgg30 Z Z Z) (RD_t 2 Z kR Z (fun _ hK => v_fieldAddr 0 runUnderlying151 Z sizeOf9 Z Z) (RD_t 3 Z kR Z (fun _ hK => v_load_B 0 hK isAgg9 Z Z Z) (RD_t 4 Z kR Z (fun _ hK => v_fieldAddr 1 runUnderlying151 Z sizeOf93 Z Z) (RD_t 5 Z kR Z (fun _ hK => v_load_B 0 hK isAgg93 Z Z Z) ?_)))))
    refine RD_run [6] kR Z (RDs.cons Z ?_ RDs.nil)
    refine o_call call138 Z Z (i_tlist_c _ _ (H.lendSubL [11]) _ (H.lendNs (k := 11) (ks := [11]) Z Z hNs z33.2 (List.mem_map_of_mem (List.mem_of_getElem? hz33))) (sn_ok hSn _ (List.mem_map_of_mem (List.mem_of_getElem? hz33))).1 (by have := (sn_ok hSn _ (List.mem_map_of_mem (List.mem_of_getElem? hz33))).2; omega)) ?_
    rintro _ w37 ⟨_, _, rfl, H37', ⟨F37, rfl, hO37⟩⟩
    have H := H.readersL H37'
    obtain ⟨e237, hP37⟩ := hO37
    obtain ⟨sa37, sc37, rfl⟩ := OwnS.shape hP37
    have hO37 := OIs.mk hP37
    refine ⟨_, Z, ?_⟩
    refine R_nil (N_DK (Kn.of' H hd36 (SubL.cons 1 Z (SubL.cons 5 Z (SubL.cons 7 Z (SubL.cons 8 Z SubL.nil))))) (RD_t 7 Z kR Z (fun _ hK => v_build bf58 Z Z) ?_))
    refine RD_run [8] kR Z (RDs.cons Z ?_ RDs.nil)
    refine o_buildSlice H underlying30 sizeOf58 (fun w => ⟨_, zeroValue58 w, Z⟩) Z Z Z Z Z Z Z ?_; intro b38 w38 hb38 H
    refine R_nil (N_DK (Kn.of' H hd36 (SubL.cons 2 Z (SubL.cons 6 Z (SubL.cons 8 Z (SubL.cons 9 Z SubL.nil))))) ?_)
    refine RD_run [9] kR Z (RDs.cons Z ?_ RDs.nil)
    refine o_append1 3 H (sz := 2) (bytes := 40) underlying30 typeInfo58 ⟨_, Z, Z⟩ Z Z Z Z Z Z Z Z Z Z oM Z ?_; intro v39 w39 H
    have hchk39 := hchk31_0.snoc (show snapO F37 ⟨z33.1, z33.2.flat []⟩ _ from ⟨_, _, _, rfl, hi33, hO37⟩) rfl
    have H := H.toFront (k := 2) rfl
    have H := H.mergeF
    obtain ⟨av39, cv39, rfl⟩ := H.accShape (k := 2) rfl
    refine R_nil (N_DK (Kn.of' H hd36 (SubL.cons 1 Z (SubL.cons 4 Z (SubL.cons 6 Z (SubL.cons 7 Z SubL.nil))))) (RD_t 10 Z kR Z (fun _ hK => v_fieldAddr 2 runUnderlying32 Z sizeOf30 Z Z) ?_))
    refine RD_run [11] kR Z (RDs.cons Z ?_ RDs.nil)
    refine o_store_B 4 H sizeOf30 Z Z Z Z Z Z Z Z ?_; intro w40 H
    refine R_nil (N_DKlast kR kR (N_B (N_K (W_region (o_add Z Z Z oO (mV Z (R_nil ?_)))))))
    have H := H.del (k := 1) rfl
    refine N_lp (hJ := ⟨_, _, _, (xs ++ [⟨z33.1, z33.2.flat []⟩]), (F ++ F37), k + 1, _, Z, hle31, H, ?inv, Z⟩) (hm := ?hm)
    case hm => omega
    case inv => exact ⟨hchk39, aN, (by exact ⟨by omega, by (rw [Sp.take_succ' hz33, List.map_append, ← hxs]; rfl)⟩)⟩
   intro hc32'
   try simp only [nrm] at hc32'
   refine W_exit (N_K_exit (N_LP_exit (N_B_same (N_K (q2 (o_loadagg_B 3 H isAgg32 sizeOf32 Z Z Z Z Z (o_store_B 5 H sizeOf32 Z Z Z Z Z Z Z Z ?_))))))); intro w42 H
   refine q3 (W_ret (ret_unlock 6 H muLib Z call116 Z Z (rs := [.cell 2 32]) results114 ?_)); intro wu5 H
   refine ⟨[_], ⟨⟨_, Z, load_blk 5 H isAgg32 sizeOf32 Z Z Z⟩, trivial⟩, ?_⟩
   have H := H.toFront (k := 1) rfl
   obtain ⟨Fo6, H, hOw6⟩ := H.ownF hchk31_0 aN aN
   have H := H.del (k := 2) rfl
   have H := H.del (k := 3) rfl
   have H := H.del (k := 3) rfl
   have H := H.del (k := 3) rfl
   have H := H.del (k := 3) rfl
   have H := H.del (k := 3) rfl
   have H := H.del (k := 3) rfl
   have H := H.toFront (k := 1) rfl
   have H := H.toFront (k := 2) rfl
   have hxs2 : xs = d.snaps := by (rw [hxs, List.take_of_length_le oM]; exact sn_list hSn)
   exact H.retM ⟨_, _, _, _, _, _, rfl, rfl, hO4, (by (rw [← hT.flat]); exact hO25), (by have h9 := (show OSn _ _ _ from ⟨_, hOw6⟩); (rw [hxs2] at h9); exact h9)⟩
 skip
 refine o_alloc H zeroValue32 Z Z ?_; intro b43 w43 hb43 H
 refine R_nil (N_DK (Kn.of' H hd3 (SubL.cons 1 Z (SubL.cons 2 Z SubL.nil))) ?_)
 refine RD_run [5] kR Z (RDs.cons Z ?_ RDs.nil)
 refine o_call call137 Z Z (i_slist_c _ _ (H.lendSubL [3]) _ _ _ _ _ (H.lendPredL (k := 3) (ks := [3]) Z Z) hm (hS.up (PPlus.le _ _ _)) hVd ) ?_
 rintro _ w44 ⟨_, _, rfl, H44', ⟨F44, rfl, hO44⟩⟩
 have H := H.readersL H44'
 obtain ⟨e244, hP44⟩ := hO44
 obtain ⟨sa44, sc44, rfl⟩ := OwnS.shape hP44
 have hO44 := OHs.mk hP44
 refine ⟨_, Z, ?_⟩
 refine R_nil (N_DK (Kn.of' H hd3 (SubL.cons 2 Z (SubL.cons 3 Z SubL.nil))) ?_)
 refine RD_run [11] kR Z (RDs.cons Z ?_ RDs.nil)
 refine o_call call138 Z Z (i_tlist_c _ _ (H.lendSubL [5]) _ ((H.lendN (k := 5) (ks := [5]) Z Z hN).at (show Nd.at_ T [] = some T from Z)) hT.wf oM) ?_
 rintro _ w45 ⟨_, _, rfl, H45', ⟨F45, rfl, hO45⟩⟩
 have H := H.readersL H45'
 obtain ⟨e245, hP45⟩ := hO45
 obtain ⟨sa45, sc45, rfl⟩ := OwnS.shape hP45
 have hO45 := OIs.mk hP45
 refine ⟨_, Z, ?_⟩
 refine R_nil (N_DK (Kn.of' H hd3 (SubL.cons 3 Z (SubL.cons 4 Z SubL.nil))) (RD_t 12 Z kR Z (fun _ hK => v_build bf32 Z Z) ?_))
 refine RD_run [14] kR Z (RDs.cons Z ?_ RDs.nil)
 refine o_store_B 2 H sizeOf32 Z Z Z Z Z Z Z Z ?_; intro w46 H
 refine R_nil (N_DKlast kR kR (N_K (W_seq (q2 (mV Z (o_nilCheck Z Z (o_fieldAddr 4 runUnderlying147 Z sizeOf145 Z Z Z (o_load_B 4 H isAgg145 Z Z Z Z (o_len_slice underlying145 Z Z (mV Z (q3 (W_block ?_))))))))))))
 have H := H.addNil 58 2
 have H := H.addF
 obtain ⟨ln48, hln48, H⟩ := H.nameAt (k := 4) (off := 2) rfl rfl
 obtain ⟨ln49, hln49, H⟩ := H.name (k := 5) rfl
 obtain ⟨ln50, hln50, H⟩ := H.name (k := 6) rfl
 refine W_lp (hf := (Sub.cons (t := 2) Z (Sub.cons (t := 3) Z (Sub.cons (t := 29) Z (Sub.cons (t := 30) Z Sub.nil))))) (J := fun M w m => ∃ (v : Value) (n : Nat) (cs : List Value) (xs : List (BSnap)) (F : Fr) (k : Nat) (G : PH), M = [(31, .int .i64 (k : Int))] ∧ PLe G0 G ∧ Hp w0 G0 (fps [blk db (cl [.int .i32 0, .int .u32 0, .map (some mb), .pointer (some ⟨T.b, 0, none⟩), .slice adv sn.length cdv] 147), blk mb (.map es ck), frag FT, acc 151 2 (.slice adv sn.length cdv) sn.length c, frag FSq]) w G [frag F, acc 58 2 v n cs, frag F45, frag F44, blk b43 (cl (setN ln48 2 v) 32), blk b1 (cl ln49 32), blk db (cl ln50 147), blk mb (.map es ck), frag FT, acc 151 2 (.slice adv sn.length cdv) sn.length c, frag FSq] ∧ (ChkF snapO 2 cs xs F ∧ n = xs.length ∧ k ≤ sn.length ∧ xs = (sn.take k).map (fun x => (⟨x.1, x.2.flat []⟩ : BSnap))) ∧ m = (sn.length - k)) (h0 := ⟨_, _, _, [], [], 0, _, Z, PLe.refl _, H, ?inv, Z⟩) (round := ?round)
 case inv => exact ⟨ChkF.nil,  by first | rfl | simp | (simp; omega) | omega, (by simp)⟩
 case round =>
  rintro _ w51 _ ⟨v, n, cs, xs, F, k, G51, rfl, hle51, H, hinv51, rfl⟩
  subst hln48
  subst hln49
  subst hln50
  have hchk := hchk.up hle51
  have hNs := hNs.up hle51
  obtain ⟨hchk51_0, hn51_0, hinv51⟩ := hinv51
  obtain ⟨av51_0, cv51_0, rfl⟩ := H.accShape (k := 1) rfl
  obtain ⟨hk, hxs⟩ := hinv51; have hxl6 : xs.length ≤ 6 := by (rw [hxs]; simp; omega)
  refine q2 (o_lss Z Z Z (q3 (W_seq ?_)))
  refine W_cond Z ?_ ?_
  ·intro hc52
   try simp only [nrm] at hc52
   refine W_skip (N_K (W_seq (W_block (q2 (o_index_A 9 H k Z hchk underlying145 sizeOf151 Z Z Z Z aN aN ?_))))); intro ba53 z53 q53 hba53 hz53 hE53 hg53; cases hba53
   obtain ⟨rfl, hi53⟩ := hE53; have hy_hi53 : _ ≤ 16777216 := hi53
   refine o_loadagg_A 9 H isAgg151 sizeOf151 Z Z Z hg53 Z (o_alloc H zeroValue151 Z Z ?_); intro b54 w54 hb54 H
   refine o_store_B 0 H sizeOf151 Z Z Z Z Z Z Z Z ?_; intro w55 H
   refine q3 (W_drawK [0, 5, 6, 7] 12 H kR Z ?_); intro w56 H; have hd56 := PLe.refl G51
   refine RD_t 0 Z kR Z (fun _ hK => v_fieldAddr 2 runUnderlying32 Z sizeOf30 Z Z) (RD_t 1 Z kR Z (fun _ hK => v_load_B 1 hK isAgg30 Z Z Z) (RD_t 2 Z kR Z (fun _ hK => v_fieldAddr 0 runUnderlying151 Z sizeOf9 Z Z) (RD_t 3 Z kR Z (fun _ hK => v_load_B 0 hK isAgg9 Z Z Z) (RD_t 4 Z kR Z (fun _ hK => v_fieldAddr 1 runUnderlying151 Z sizeOf93 Z Z) (RD_t 5 Z kR Z (fun _ hK => v_load_B 0 hK isAgg93 Z Z Z) ?_)))))
   refine RD_run [6] kR Z (RDs.cons Z ?_ RDs.nil)
   refine o_call call138 Z Z (i_tlist_c _ _ (H.lendSubL [11]) _ (H.lendNs (k := 11) (ks := [11]) Z Z hNs z53.2 (List.mem_map_of_mem (List.mem_of_getElem? hz53))) (sn_ok hSn _ (List.mem_map_of_mem (List.mem_of_getElem? hz53))).1 (by have := (sn_ok hSn _ (List.mem_map_of_mem (List.mem_of_getElem? hz53))).2; omega)) ?_
   rintro _ w57 ⟨_, _, rfl, H57', ⟨F57, rfl, hO57⟩⟩
   have H := H.readersL H57'
   obtain ⟨e257, hP57⟩ := hO57
   obtain ⟨sa57, sc57, rfl⟩ := OwnS.shape hP57
   have hO57 := OIs.mk hP57
   refine ⟨_, Z, ?_⟩
   refine R_nil (N_DK (Kn.of' H hd56 (SubL.cons 1 Z (SubL.cons 6 Z (SubL.cons 7 Z (SubL.cons 8 Z SubL.nil))))) (RD_t 7 Z kR Z (fun _ hK => v_build bf58 Z Z) ?_))
   refine RD_run [8] kR Z (RDs.cons Z ?_ RDs.nil)
   refine o_buildSlice H underlying30 sizeOf58 (fun w => ⟨_, zeroValue58 w, Z⟩) Z Z Z Z Z Z Z ?_; intro b58 w58 hb58 H
   refine R_nil (N_DK (Kn.of' H hd56 (SubL.cons 2 Z (SubL.cons 7 Z (SubL.cons 8 Z (SubL.cons 9 Z SubL.nil))))) ?_)
   refine RD_run [9] kR Z (RDs.cons Z ?_ RDs.nil)
   refine o_append1 3 H (sz := 2) (bytes := 40) underlying30 typeInfo58 ⟨_, Z, Z⟩ Z Z Z Z Z Z Z Z Z Z oM Z ?_; intro v59 w59 H
   have hchk59 := hchk51_0.snoc (show snapO F57 ⟨z53.1, z53.2.flat []⟩ _ from ⟨_, _, _, rfl, hi53, hO57⟩) rfl
   have H := H.toFront (k := 2) rfl
   have H := H.mergeF
   obtain ⟨av59, cv59, rfl⟩ := H.accShape (k := 2) rfl
   refine R_nil (N_DK (Kn.of' H hd56 (SubL.cons 1 Z (SubL.cons 5 Z (SubL.cons 6 Z (SubL.cons 7 Z SubL.nil))))) (RD_t 10 Z kR Z (fun _ hK => v_fieldAddr 2 runUnderlying32 Z sizeOf30 Z Z) ?_))
   refine RD_run [11] kR Z (RDs.cons Z ?_ RDs.nil)
   refine o_store_B 5 H sizeOf30 Z Z Z Z Z Z Z Z ?_; intro w60 H
   refine R_nil (N_DKlast kR kR (N_B (N_K (W_region (o_add Z Z Z oO (mV Z (R_nil ?_)))))))
   have H := H.del (k := 1) rfl
   refine N_lp (hJ := ⟨_, _, _, (xs ++ [⟨z53.1, z53.2.flat []⟩]), (F ++ F57), k + 1, _, Z, hle51, H, ?inv, Z⟩) (hm := ?hm)
   case hm => omega
   case inv => exact ⟨hchk59, aN, (by exact ⟨by omega, by (rw [Sp.take_succ' hz53, List.map_append, ← hxs]; rfl)⟩)⟩
  intro hc52'
  try simp only [nrm] at hc52'
  refine W_exit (N_K_exit (N_LP_exit (N_B_same (N_K (q2 (o_loadagg_B 4 H isAgg32 sizeOf32 Z Z Z Z Z (o_store_B 5 H sizeOf32 Z Z Z Z Z Z Z Z ?_))))))); intro w62 H
  refine q3 (W_ret (ret_unlock 6 H muLib Z call116 Z Z (rs := [.cell 2 32]) results114 ?_)); intro wu8 H
  refine ⟨[_], ⟨⟨_, Z, load_blk 5 H isAgg32 sizeOf32 Z Z Z⟩, trivial⟩, ?_⟩
  have H := H.toFront (k := 1) rfl
  obtain ⟨Fo9, H, hOw9⟩ := H.ownF hchk51_0 aN aN
  have H := H.del (k := 3) rfl
  have H := H.del (k := 3) rfl
  have H := H.del (k := 3) rfl
  have H := H.del (k := 3) rfl
  have H := H.del (k := 3) rfl
  have H := H.del (k := 3) rfl
  have H := H.del (k := 3) rfl
  have H := H.toFront (k := 1) rfl
  have H := H.toFront (k := 2) rfl
  have hxs2 : xs = d.snaps := by (rw [hxs, List.take_of_length_le oM]; exact sn_list hSn)
  exact H.retM ⟨_, _, _, _, _, _, rfl, rfl, hO44, (by (rw [← hT.flat]); exact hO45), (by have h9 := (show OSn _ _ _ from ⟨_, hOw9⟩); (rw [hxs2] at h9); exact h9)⟩
end Go.Proofs.Tst

namespace Go.Proofs.Tst
open Go Fw Tryz
theorem i_clone_r : ∀ (N : Nat) (w0 : World) (G0 : PH) (hG : PSub G0 w0) (t : Nd) (hndt : RdN G0 t) (hct : t.cnt ≤ 1000) (hsz : t.size ≤ N),
  Calls Tryz.prog 142 #[.pointer (some ⟨t.b, 0, none⟩)] w0 (RetN w0 G0 (fun v Bs => ∃ (F : Fr) (T : Nd), v = .pointer (some ⟨T.b, 0, none⟩) ∧ Bs = [frag F] ∧ NdC 166 93 T F ∧ T.strip = t.strip)) := by
 intro N
 induction N with
 | zero => intro w0 G0 hG t hndt hct hsz; exact absurd (Nd.size_pos t) oM
 | succ N ih =>
 intro w0 G0 hG t hndt hct hsz
 obtain ⟨hnlt, nat, nmt, nct, nAt, nMt, nCt, hprt, hrit, hrkt⟩ := hndt.open
 have hn_hrit := hrit.len; have hx_hrit : _ ≤ 1099511627776 := hrit.lim
 have hn_hrkt := hrkt.len; have hx_hrkt : _ ≤ 1099511627776 := hrkt.lim
 have H := Hp.init hG
 refine calls_of_W (l := [.pointer (some ⟨t.b, 0, none⟩)]) func142 Z ntmps142 Z (q2 (aG Z (q3 (W_seq (W_drawK [] 16 H kR Z ?_))))); intro w1 H; have hd1 := PLe.refl G0
 refine vM 0 Z Z (RD_t 1 Z kR Z (fun _ hK => v_nilCheck Z) (RD_t 2 Z kR Z (fun _ hK => v_fieldAddr 0 runUnderlying166 Z sizeOf9 Z Z) (RD_t 3 Z kR Z (fun _ hK => v_load_P hK isAgg9 Z (hprt 0 _ Z)) (vM 4 Z Z (RD_t 5 Z kR Z (fun _ hK => v_nilCheck Z) (RD_t 6 Z kR Z (fun _ hK => v_fieldAddr 1 runUnderlying166 Z sizeOf4 Z Z) (RD_t 7 Z kR Z (fun _ hK => v_load_P hK isAgg4 Z (hprt 1 _ Z)) (vM 8 Z Z (RD_t 9 Z kR Z (fun _ hK => v_nilCheck Z) (RD_t 10 Z kR Z (fun _ hK => v_fieldAddr 2 runUnderlying166 Z sizeOf41 Z Z) (RD_t 11 Z kR Z (fun _ hK => v_load_P hK isAgg41 Z (hprt 2 _ Z)) ?_)))))))))))
 refine RD_run [12] kR Z (RDs.cons Z ?_ RDs.nil)
 refine o_call call173 Z Z (l_Clone_c _ _ H.sub _ _ hrit ) ?_
 rintro _ w2 ⟨G2, v2, _, g2, rfl, ⟨cs2, rfl, hchk2⟩, hp2, hq2, hs2⟩
 have H := H.growO g2 hp2 hq2 hs2; obtain ⟨av2, cv2, rfl⟩ := H.accShape (k := 0) rfl
 have hprt := hprt.up g2.le
 have hrkt := hrkt.up g2.le
 have hd1 := hd1.trans g2.le
 refine ⟨_, Z, ?_⟩
 refine R_nil (N_DK (Kn.of' H hd1 SubL.nil) (RD_t 13 Z kR Z (fun _ hK => v_build bf166 Z Z) ?_))
 refine RD_run [14] kR Z (RDs.cons Z ?_ RDs.nil)
 refine o_box H Z Z Z ?_; intro b3 w3 hb3 H
 refine R_nil (N_DK (Kn.of' H hd1 SubL.nil) (RD_t 15 Z kR Z (fun _ hK => v_assign Z) (RD_done kR (N_K (W_seq (q2 (mV Z (o_nilCheck Z Z (o_fieldAddr 3 runUnderlying166 Z sizeOf162 Z Z Z (o_load_P H isAgg162 Z Z (hprt 3 _ Z) (o_len_slice underlying162 Z Z (mV Z (q3 (W_block ?_))))))))))))))
 obtain ⟨Fi1, H, hOI1⟩ := H.ownI (k := 1) rfl hchk2 aN aN
 have hOIc := hOI1
 have H := H.addF
 have H := H.addNil 93 1
 obtain ⟨ln5, hln5, H⟩ := H.nameAt (k := 3) (off := 3) rfl rfl
 refine W_lp (hf := (Sub.cons (t := 2) Z (Sub.cons (t := 3) Z (Sub.cons (t := 24) Z (Sub.cons (t := 25) Z Sub.nil))))) (J := fun M w m => ∃ (v : Value) (n : Nat) (cs : List Value) (xs : List (Nd)) (k : Nat) (FK : Fr) (G : PH), M = [(26, .int .i64 (k : Int))] ∧ PLe G2 G ∧ Hp w0 G0 [] w G [acc 93 1 v n cs, frag FK, frag Fi1, blk b3 (cl (setN ln5 3 v) 166)] ∧ (Chk kdE 1 G cs xs ∧ n = xs.length ∧ k ≤ t.kids.length ∧ NdsC 166 93 xs FK ∧ xs.map Nd.strip = (t.kids.take k).map Nd.strip) ∧ m = (t.kids.length - k)) (h0 := ⟨_, _, _, [], 0, [], _, Z, PLe.refl _, H, ?inv, Z⟩) (round := ?round)
 case inv => exact ⟨(Chk.nil (E := kdE) (sz := 1) (G := G2)),  by first | rfl | simp | (simp; omega) | omega, (by simp [NdsC])⟩
 case round =>
  rintro _ w6 _ ⟨v, n, cs, xs, k, FK, G6, rfl, hle6, H, hinv6, rfl⟩
  subst hln5
  have hrkt := hrkt.up hle6
  obtain ⟨hchk6_0, hn6_0, hinv6⟩ := hinv6
  obtain ⟨av6_0, cv6_0, rfl⟩ := H.accShape (k := 0) rfl
  obtain ⟨hk, hKs, hst0⟩ := hinv6; have hxl0 := congrArg List.length hst0; simp at hxl0; have hkl0 := Nd.kids_le t
  refine q2 (o_lss Z Z Z (q3 (W_seq ?_)))
  refine W_cond Z ?_ ?_
  ·intro hc7
   try simp only [nrm] at hc7
   refine W_skip (N_K (W_seq (W_block (q2 (o_index_P k hrkt underlying162 sizeOf93 Z Z Z Z aN ?_))))); intro b8 o8 z8 q8 hz8 hE8 hrow8
   obtain ⟨rfl, hnd8⟩ := hE8; obtain ⟨hnl8, na8, nm8, nc8, nA8, nM8, nC8, hpr8, hri8, hrk8⟩ := hnd8.open; have hn_hri8 := hri8.len; have hx_hri8 : _ ≤ 1099511627776 := hri8.lim; have hn_hrk8 := hrk8.len; have hx_hrk8 : _ ≤ 1099511627776 := hrk8.lim
   have hzm := List.mem_of_getElem? hz8; have hzc := Nd.kid_cnt hzm; have hzs := Nd.size_kid hzm
   refine o_load_P H isAgg93 Z Z (hrow8 0 _ Z) (aG Z (q3 (W_drawK [] 12 H kR Z ?_))); intro w9 H; have hd9 := PLe.refl G6
   refine vM 0 Z Z (vM 1 Z Z (RD_t 2 Z kR Z (fun _ hK => v_nilCheck Z) (RD_t 3 Z kR Z (fun _ hK => v_fieldAddr 3 runUnderlying166 Z sizeOf162 Z Z) (vM 5 Z Z ?_))))
   refine RD_run [4, 6] kR Z (RDs.cons Z ?_ (RDs.cons Z ?_ RDs.nil))
   ·skip
    refine o_load_B 3 H isAgg162 Z Z Z Z (R_nil (N_DK (Kn.of' H hd9 SubL.nil) ?_))
    refine RD_run [6] kR Z (RDs.cons Z ?_ RDs.nil)
    refine o_call call142 Z Z (ih _ _ H.sub _ hnd8 oM oM) ?_
    rintro _ w10 ⟨_, _, rfl, H10', ⟨F10, T10, rfl, rfl, hNC10, hst10⟩⟩
    have H := H.readers (fp := []) (by simp) (PLe.refl _) H10'
    refine ⟨_, Z, ?_⟩
    refine R_nil (N_DK (Kn.of' H hd9 SubL.nil) ?_)
    refine RD_run [7] kR Z (RDs.cons Z ?_ RDs.nil)
    refine o_buildSlice H underlying162 sizeOf93 (fun w => ⟨_, zeroValue93 w, Z⟩) Z Z Z Z Z Z Z ?_; intro b11 w11 hb11 H
    refine R_nil (N_DK (Kn.of' H hd9 SubL.nil) ?_)
    refine RD_run [8] kR Z (RDs.cons Z ?_ RDs.nil)
    refine o_append1 1 H (sz := 1) (bytes := 8) underlying162 typeInfo93 ⟨_, Z, Z⟩ Z Z Z Z Z Z Z Z Z Z oM Z ?_; intro v12 w12 H
    have hchk12 := hchk6_0.snoc (show kdE _ T10 _ from rfl) rfl
    obtain ⟨av12, cv12, rfl⟩ := H.accShape (k := 1) rfl
    refine R_nil (N_DK (Kn.of' H hd9 SubL.nil) (RD_t 9 Z kR Z (fun _ hK => v_nilCheck Z) (RD_t 10 Z kR Z (fun _ hK => v_fieldAddr 3 runUnderlying166 Z sizeOf162 Z Z) ?_)))
    refine RD_run [11] kR Z (RDs.cons Z ?_ RDs.nil)
    have H := H.toFront (k := 2) rfl
    have H := H.mergeF
    refine o_store_B 3 H sizeOf162 Z Z Z Z Z Z Z Z ?_; intro w13 H
    refine R_nil (N_DK (Kn.of' H hd9 SubL.nil) (RD_done kR (N_B (N_K (W_region (o_add Z Z Z oO (mV Z (R_nil ?_))))))))
    have H := H.toFront (k := 3) rfl
    have H := H.toFront (k := 3) rfl
    have H := H.toFront (k := 2) rfl
    have H := H.toFront (k := 3) rfl
    refine N_lp (hJ := ⟨_, _, _, (xs ++ [T10]), k + 1, (FK ++ F10), _, Z, hle6, H, ?inv, Z⟩) (hm := ?hm)
    case hm => omega
    case inv => exact ⟨hchk12, aN, (by exact ⟨by omega, hKs.snoc hNC10, Nd.strip_take hz8 hst0 hst10⟩)⟩
   skip
   refine o_call call142 Z Z (ih _ _ H.sub _ hnd8 oM oM) ?_
   rintro _ w15 ⟨_, _, rfl, H15', ⟨F15, T15, rfl, rfl, hNC15, hst15⟩⟩
   have H := H.readers (fp := []) (by simp) (PLe.refl _) H15'
   refine ⟨_, Z, ?_⟩
   refine R_nil (N_DK (Kn.of' H hd9 SubL.nil) ?_)
   refine RD_run [4, 7] kR Z (RDs.cons Z ?_ (RDs.cons Z ?_ RDs.nil))
   ·skip
    refine o_load_B 4 H isAgg162 Z Z Z Z (R_nil (N_DK (Kn.of' H hd9 SubL.nil) ?_))
    refine RD_run [7] kR Z (RDs.cons Z ?_ RDs.nil)
    refine o_buildSlice H underlying162 sizeOf93 (fun w => ⟨_, zeroValue93 w, Z⟩) Z Z Z Z Z Z Z ?_; intro b16 w16 hb16 H
    refine R_nil (N_DK (Kn.of' H hd9 SubL.nil) ?_)
    refine RD_run [8] kR Z (RDs.cons Z ?_ RDs.nil)
    refine o_append1 1 H (sz := 1) (bytes := 8) underlying162 typeInfo93 ⟨_, Z, Z⟩ Z Z Z Z Z Z Z Z Z Z oM Z ?_; intro v17 w17 H
    have hchk17 := hchk6_0.snoc (show kdE _ T15 _ from rfl) rfl
    obtain ⟨av17, cv17, rfl⟩ := H.accShape (k := 1) rfl
    refine R_nil (N_DK (Kn.of' H hd9 SubL.nil) (RD_t 9 Z kR Z (fun _ hK => v_nilCheck Z) (RD_t 10 Z kR Z (fun _ hK => v_fieldAddr 3 runUnderlying166 Z sizeOf162 Z Z) ?_)))
    refine RD_run [11] kR Z (RDs.cons Z ?_ RDs.nil)
    have H := H.toFront (k := 2) rfl
    have H := H.mergeF
    refine o_store_B 3 H sizeOf162 Z Z Z Z Z Z Z Z ?_; intro w18 H
    refine R_nil (N_DK (Kn.of' H hd9 SubL.nil) (RD_done kR (N_B (N_K (W_region (o_add Z Z Z oO (mV Z (R_nil ?_))))))))
    have H := H.toFront (k := 3) rfl
    have H := H.toFront (k := 3) rfl
    have H := H.toFront (k := 2) rfl
    have H := H.toFront (k := 3) rfl
    refine N_lp (hJ := ⟨_, _, _, (xs ++ [T15]), k + 1, (FK ++ F15), _, Z, hle6, H, ?inv, Z⟩) (hm := ?hm)
    case hm => omega
    case inv => exact ⟨hchk17, aN, (by exact ⟨by omega, hKs.snoc hNC15, Nd.strip_take hz8 hst0 hst15⟩)⟩
   skip
   refine o_buildSlice H underlying162 sizeOf93 (fun w => ⟨_, zeroValue93 w, Z⟩) Z Z Z Z Z Z Z ?_; intro b20 w20 hb20 H
   refine R_nil (N_DK (Kn.of' H hd9 SubL.nil) ?_)
   refine RD_run [4] kR Z (RDs.cons Z ?_ RDs.nil)
   refine o_load_B 5 H isAgg162 Z Z Z Z (R_nil (N_DK (Kn.of' H hd9 SubL.nil) ?_))
   refine RD_run [8] kR Z (RDs.cons Z ?_ RDs.nil)
   refine o_append1 1 H (sz := 1) (bytes := 8) underlying162 typeInfo93 ⟨_, Z, Z⟩ Z Z Z Z Z Z Z Z Z Z oM Z ?_; intro v21 w21 H
   have hchk21 := hchk6_0.snoc (show kdE _ T15 _ from rfl) rfl
   obtain ⟨av21, cv21, rfl⟩ := H.accShape (k := 1) rfl
   refine R_nil (N_DK (Kn.of' H hd9 SubL.nil) (RD_t 9 Z kR Z (fun _ hK => v_nilCheck Z) (RD_t 10 Z kR Z (fun _ hK => v_fieldAddr 3 runUnderlying166 Z sizeOf162 Z Z) ?_)))
   refine RD_run [11] kR Z (RDs.cons Z ?_ RDs.nil)
   have H := H.toFront (k := 2) rfl
   have H := H.mergeF
   refine o_store_B 3 H sizeOf162 Z Z Z Z Z Z Z Z ?_; intro w22 H
   refine R_nil (N_DK (Kn.of' H hd9 SubL.nil) (RD_done kR (N_B (N_K (W_region (o_add Z Z Z oO (mV Z (R_nil ?_))))))))
   have H := H.toFront (k := 3) rfl
   have H := H.toFront (k := 3) rfl
   have H := H.toFront (k := 2) rfl
   have H := H.toFront (k := 3) rfl
   refine N_lp (hJ := ⟨_, _, _, (xs ++ [T15]), k + 1, (FK ++ F15), _, Z, hle6, H, ?inv, Z⟩) (hm := ?hm)
   case hm => omega
   case inv => exact ⟨hchk21, aN, (by exact ⟨by omega, hKs.snoc hNC15, Nd.strip_take hz8 hst0 hst15⟩)⟩
  intro hc7'
  try simp only [nrm] at hc7'
  refine W_exit (N_K_exit (N_LP_exit (N_B_same (N_K (q2 (mV Z (aG Z (q3 (W_ret (rt1 results142 Z ?_))))))))))
  have H := H.toFront (k := 2) rfl
  have H := H.toFront (k := 3) rfl
  have H := H.toFront (k := 3) rfl
  have H := H.toFront (k := 3) rfl
  have hst : xs.map Nd.strip = t.kids.map Nd.strip := by (have h9 := hst0; rw [List.take_of_length_le oM] at h9; exact h9)
  have hxl := Nd.strip_len hst; have hkl := Nd.kids_le t
  obtain rfl : n = xs.length := by assumption
  obtain ⟨FT, H, hNC⟩ := Hp.makeC (ks := xs) (by (have hcc := hchk6_0.kd; rw [hcc] at H; exact H)) hnlt oM hOIc hKs
  have H := H.forget hG (by simp)
  exact ⟨_, _, Z, H, FT, _, Z, Z, hNC, Nd.strip_mk hst⟩
theorem i_clone_c (w0 : World) (G0 : PH) (hG : PSub G0 w0) (t : Nd) (hndt : RdN G0 t) (hct : t.cnt ≤ 1000) :
  Calls Tryz.prog 142 #[.pointer (some ⟨t.b, 0, none⟩)] w0 (RetN w0 G0 (fun v Bs => ∃ (F : Fr) (T : Nd), v = .pointer (some ⟨T.b, 0, none⟩) ∧ Bs = [frag F] ∧ NdC 166 93 T F ∧ T.strip = t.strip)) := i_clone_r _ w0 G0 hG t hndt hct (Nat.le_refl _)
end Go.Proofs.Tst

namespace Go.Proofs.Tst
open Go Fw Tryz
theorem i_freeTree_c (w0 : World) (G0 : PH) (hG : PSub G0 w0) (mbs : Nat) (ess : Array MapEntry) (cks : Nat) (xss : List (Int × Value)) (Ls : List BHeld) (hms : MapIs (Value.int .i64) ess cks xss) (hSs : StR G0 xss Ls) (hVs : Sp.VH Ls) (Ft : Fr) (t : Nd) (hNt : NdO 166 93 G0 t Ft) (hLent : Lent w0 G0 [blk mbs (.map ess cks), frag Ft]) (hwt : t.wf) (hct : t.cnt ≤ 1000) :
  Calls Tryz.prog 118 #[.map (some mbs), .pointer (some ⟨t.b, 0, none⟩)] w0 (RetM w0 G0 (fps [blk mbs (.map ess cks), frag Ft]) (fun G' v Bs => ∃ (es' : Array MapEntry) (ck' : Nat) (xs' : List (Int × Value)) (L' : List BHeld), v = .bool (Sp.freeTs Ls (t.flat [])).isSome ∧ Bs = [blk mbs (.map es' ck'), frag Ft] ∧ MapIs (Value.int .i64) es' ck' xs' ∧ StR G' xs' L' ∧ Sp.VH L' ∧ ∀ l, Sp.freeTs Ls (t.flat []) = some l → L' = l)) := by
 have hfl := Nd.flat_len [] t
 have H : Hp w0 G0 (fps [blk mbs (.map ess cks), frag Ft]) w0 G0 [blk mbs (.map ess cks), frag Ft] := hLent.hp
 refine calls_of_W (l := [.map (some mbs), .pointer (some ⟨t.b, 0, none⟩)]) func118 Z ntmps118 Z (q2 (aG Z (q3 (W_seq (q2 (mV Z (o_call call138 Z Z (i_tlist_c _ _ (H.lendSubL [1]) _ ((H.lendN (k := 1) (ks := [1]) Z Z hNt).at (show Nd.at_ t [] = some t from Z)) hwt hct) ?_)))))))
 rintro _ w1 ⟨_, _, rfl, H1', ⟨F1, rfl, hO1⟩⟩
 have H := H.readersL H1'
 obtain ⟨e21, hP1⟩ := hO1
 obtain ⟨sa1, sc1, rfl⟩ := OwnS.shape hP1
 have hO1 := OIs.mk hP1
 refine ⟨_, Z, ?_⟩
 have hdm1 := dm_nodup H (k := 0) rfl; obtain ⟨Gk1, H, hkl1, hks1⟩ := H.keepF (k := 0) rfl (H.apart (k := 0) (ks := [1, 2]) rfl rfl (by intro b hb; simp only [fps, List.flatMap_cons, List.flatMap_nil, List.append_nil, List.mem_append] at hb; rcases hb with h | h; (· exact fpsAt_mem (k := 1) rfl rfl b (by exact h)); (· exact fpsAt_mem (k := 2) rfl rfl b (by exact h))))
 have hrk1 := hO1.rd hks1 hdm1
 have hSs := hSs.up hkl1
 have hn_hrk1 := hrk1.len
 refine o_len_slice underlying29 Z Z (mV Z (q3 (W_block ?_)))
 refine W_lp (hf := (Sub.cons (t := 0) Z (Sub.cons (t := 8) Z (Sub.cons (t := 9) Z Sub.nil)))) (J := fun M w m => ∃ (esm0 : Array MapEntry) (ckm0 : Nat) (xsm0 : List (Int × Value)) (Lm0 : List BHeld) (k : Nat) (G : PH), M = [(10, .int .i64 (k : Int))] ∧ PLe Gk1 G ∧ Hp w0 G0 (fps [blk mbs (.map ess cks), frag Ft]) w G [blk mbs (.map esm0 ckm0), frag Ft] ∧ (MapIs (Value.int .i64) esm0 ckm0 xsm0 ∧ StR G xsm0 Lm0 ∧ Sp.VH Lm0 ∧ k ≤ (t.flat []).length ∧ Sp.foldB Sp.freeF ((t.flat []).take k) (some Ls) = some Lm0) ∧ m = ((t.flat []).length - k)) (h0 := ⟨_, _, xss, Ls, 0, _, Z, PLe.refl _, H, ?inv, Z⟩) (round := ?round)
 case inv => exact ⟨hms, hSs, hVs, (by simp [Sp.foldB])⟩
 case round =>
  rintro _ w2 _ ⟨esm0, ckm0, xsm0, Lm0, k, G2, rfl, hle2, H, hinv2, rfl⟩
  have hrk1 := hrk1.up hle2
  obtain ⟨hm2_m0, hS2_m0, hV2_m0, hinv2⟩ := hinv2
  obtain ⟨hk, hf⟩ := hinv2
  refine q2 (o_lss Z Z Z (q3 (W_seq ?_)))
  refine W_cond Z ?_ ?_
  ·intro hc3
   try simp only [nrm] at hc3
   refine W_skip (N_K (W_seq (W_block (q2 (o_index_P k hrk1 underlying29 sizeOf66 Z Z Z Z aN ?_))))); intro b4 o4 z4 q4 hz4 hE4 hrow4
   obtain ⟨a4, m4, c4, rfl, hi4, hr4⟩ := hE4; have hy_hi4 : _ ≤ 16777216 := hi4; have hn_hr4 := hr4.len; have hx_hr4 : _ ≤ 1099511627776 := hr4.lim
   refine o_loadagg_P H isAgg66 sizeOf66 Z Z hrow4 Z (o_alloc H zeroValue66 Z Z ?_); intro b5 w5 hb5 H
   refine o_store_B 0 H sizeOf66 Z Z Z Z Z Z Z Z ?_; intro w6 H
   refine q1 (mV Z (o_fieldAddr 2 runUnderlying66 Z sizeOf41 Z Z Z (o_load_B 0 H isAgg41 Z Z Z Z ?_)))
   have H := H.toFront (k := 1) rfl
   refine o_call call136 Z Z (i_freeFile_c _ _ H.sub _ _ _ _ _ hm2_m0 hS2_m0 hV2_m0 _ _ hr4 H.lent1 ) ?_
   rintro _ w7 ⟨G7, _, _, rfl, H7', ⟨es7, ck7, xs7, L7, rfl, rfl, hm7, hS7, hV7, hL7⟩⟩
   have hle2 := hle2.trans H7'.le
   have H := H.borrow1 H7'
   refine ⟨_, Z, ?_⟩
   refine o_not Z Z (q3 ?_)
   refine W_cond Z ?_ ?_
   ·intro hc8
    try simp only [nrm] at hc8
    refine q2 (aG Z (q3 (W_ret (N_B_ret (N_K_ret (N_LP_ret (N_B_ret (N_K_ret (rt1 results118 Z ?_)))))))))
    have H := H.del (k := 1) rfl
    have H := H.toFront (k := 1) rfl
    have H := H.toFront (k := 1) rfl
    have hno : Sp.freeTs Ls (t.flat []) = none := by (have hno : Sp.freeF Lm0 z4 = none := (show Sp.FileFree Lm0 z4.ids = none by simpa using hc8)); exact Sp.foldB_stop hf hz4 hno
    exact H.retM ⟨_, _, _, _, congrArg Value.bool (by rw [hno]; rfl), rfl, hm7, hS7, hV7, fun l hl => by rw [hno] at hl; cases hl⟩
   intro hc8'
   try simp only [nrm] at hc8'
   obtain ⟨p, hsp⟩ := Option.isSome_iff_exists.1 (show (Sp.FileFree Lm0 z4.ids).isSome = true by simpa using hc8')
   have hLp := hL7 p hsp; subst hLp
   have hsp : Sp.freeF Lm0 z4 = some L7 := hsp
   refine W_skip (N_B (N_K (W_region (o_add Z Z Z oO (mV Z (R_nil ?_))))))
   have H := H.del (k := 1) rfl
   refine N_lp (hJ := ⟨_, _, xs7, L7, k + 1, _, Z, hle2, H, ?inv, Z⟩) (hm := ?hm)
   case hm => omega
   case inv => exact ⟨hm7, hS7, hV7, (by exact ⟨by omega, Sp.foldB_succ hf hz4 hsp⟩)⟩
  intro hc3'
  try simp only [nrm] at hc3'
  refine W_exit (N_K_exit (N_LP_exit (N_B_same (N_K (q2 (aG Z (q3 (W_ret (rt1 results118 Z ?_)))))))))
  have H := H.toFront (k := 1) rfl
  have H := H.toFront (k := 1) rfl
  have hyes : Sp.freeTs Ls (t.flat []) = some Lm0 := Sp.foldB_all hf oM
  exact H.retM ⟨_, _, _, _, congrArg Value.bool (by rw [hyes]; rfl), rfl, hm2_m0, hS2_m0, hV2_m0, fun l hl => by rw [hyes] at hl; cases hl; rfl⟩
end Go.Proofs.Tst

namespace Go.Proofs.Tst
open Go Fw Tryz
theorem i_back_c (w0 : World) (G0 : PH) (hG : PSub G0 w0) (db mb : Nat) (es : Array MapEntry) (ck : Nat) (xs : List (Int × Value)) (T : Nd) (FT : Fr) (sv : Value) (sn : List (Bs × Nd)) (c : List Value) (FSq : Fr) (d : BDisk) (hm : MapIs (Value.int .i64) es ck xs) (hS : StR G0 xs d.store) (hN : NdO 166 93 G0 T FT) (hT : Nd.TOK T d.tree) (hchk : Chk osE 2 G0 c sn) (hNs : NdsO 166 93 G0 (sn.map (·.2)) FSq) (hSn : SnOK sn d.snaps) (hdv : Sp.DiskValid d = true) (name : Bs) (hname : name.length ≤ 16777216) (hLent : Lent w0 G0 [blk db (cl [.int .i32 0, .int .u32 0, .map (some mb), .pointer (some ⟨T.b, 0, none⟩), sv] 147), blk mb (.map es ck), frag FT, acc 151 2 sv sn.length c, frag FSq])  :
  Calls Tryz.prog 93 #[.pointer (some ⟨db, 0, none⟩), str name] w0 (RetM w0 G0 (fps [blk db (cl [.int .i32 0, .int .u32 0, .map (some mb), .pointer (some ⟨T.b, 0, none⟩), sv] 147), blk mb (.map es ck), frag FT, acc 151 2 sv sn.length c, frag FSq]) (fun G' v Bs => ∃ (es' : Array MapEntry) (ck' : Nat) (xs' : List (Int × Value)) (F' : Fr) (T' : Nd) (sv' : Value) (sn' : List (Fw.Bs × Nd)) (c' : List Value) (FSq' : Fr) (L' : List BHeld), v = .bool (Sp.SnapBack d name).isSome ∧ Bs = [blk db (cl [.int .i32 0, .int .u32 0, .map (some mb), .pointer (some ⟨T'.b, 0, none⟩), sv'] 147), blk mb (.map es' ck'), frag F', acc 151 2 sv' sn'.length c', frag FSq'] ∧ MapIs (Value.int .i64) es' ck' xs' ∧ StR G' xs' L' ∧ Sp.VH L' ∧ NdO 166 93 G' T' F' ∧ Chk osE 2 G' c' sn' ∧ NdsO 166 93 G' (sn'.map (·.2)) FSq' ∧ ∀ d', Sp.SnapBack d name = some d' → L' = d'.store ∧ Nd.TOK T' d'.tree ∧ SnOK sn' d'.snaps)) := by
 have H : Hp w0 G0 (fps [blk db (cl [.int .i32 0, .int .u32 0, .map (some mb), .pointer (some ⟨T.b, 0, none⟩), sv] 147), blk mb (.map es ck), frag FT, acc 151 2 sv sn.length c, frag FSq]) w0 G0 [blk db (cl [.int .i32 0, .int .u32 0, .map (some mb), .pointer (some ⟨T.b, 0, none⟩), sv] 147), blk mb (.map es ck), frag FT, acc 151 2 sv sn.length c, frag FSq] := hLent.hp
 obtain ⟨adv, cdv, rfl⟩ := H.accShape (k := 3) rfl; have hVd := Sp.valid_iff.1 (Sp.dv_parts.1 hdv).1; have hTv := (Sp.dv_parts.1 hdv).2.1; have hTc := hT.cnt; have hTl := Sp.tree_len hTv; have hsnl := hSn.len; have hsn6 := (Sp.dv_parts.1 hdv).2.2.1
 refine calls_of_WD (l := [.pointer (some ⟨db, 0, none⟩), str name]) func93 Z ntmps93 Z (q2 (aG Z (q1 (mV Z (o_nilCheck Z Z (o_fieldAddr 0 runUnderlying147 Z sizeOf144 Z Z Z (o_lock 0 H muLib Z call115 Z Z Z Z ?_))))))); intro w1 H
 refine q1 (mV Z (o_nilCheck Z Z (o_fieldAddr 0 runUnderlying147 Z sizeOf144 Z Z Z (o_defer Z (q1 (mV Z (mV Z (o_call call117 Z Z (i_snapAt_c _ _ (H.lendSubL [0, 3]) _ _ _ _ _ _ _ (prow_blk (H.lendPredL (k := 0) (ks := [0, 3]) Z Z)) (H.lendRdL (k := 3) (ks := [0, 3]) Z Z hchk aN aN) _ hname ) ?_))))))))
 rintro _ w2 ⟨rfl, ew2⟩; have H := H.step ew2; refine ⟨_, rfl, ?_⟩
 refine aG Z (q3 (W_seq (W_seq (W_drawK [0] 33 H kR Z ?_)))); intro w3 H; have hd3 := PLe.refl G0
 refine vM 0 Z Z (RD_t 1 Z kR Z (fun _ hK => v_lss Z Z) (vM 2 Z Z ?_))
 refine RD_case (t := 18) Z ?_ ?_
 ·intro hc4
  try simp only [nrm] at hc4
  refine RD_pass 3 Z kR kR kR Z (yl_ne Z Z Z) (RD_pass 4 Z kR kR kR Z (yl_ne Z Z Z) (RD_pass 5 Z kR kR kR Z (yl_ne Z Z Z) (RD_pass 6 Z kR kR kR Z (yl_ne Z Z Z) (RD_pass 7 Z kR kR kR Z (yl_ne Z Z Z) (RD_pass 8 Z kR kR kR Z (yl_ne Z Z Z) (RD_pass 9 Z kR kR kR Z (yl_ne Z Z Z) (RD_pass 10 Z kR kR kR Z (yl_ne Z Z Z) (RD_pass 11 Z kR kR kR Z (yl_ne Z Z Z) (RD_pass 12 Z kR kR kR Z (yl_ne Z Z Z) (RD_pass 13 Z kR kR kR Z (yl_ne Z Z Z) (RD_pass 14 Z kR kR kR Z (yl_ne Z Z Z) (RD_pass 15 Z kR kR kR Z (yl_ne Z Z Z) (RD_pass 16 Z kR kR kR Z (yl_ne Z Z Z) (RD_pass 17 Z kR kR kR Z (yl_ne Z Z Z) (RD_t 18 Z kR Z (fun _ hK => v_pick_t Z Z) ?_)))))))))))))))
  refine vM 19 Z Z (RD_pass 20 Z kR kR kR Z (yl_ne Z Z Z) (RD_pass 21 Z kR kR kR Z (yl_ne Z Z Z) (RD_pass 22 Z kR kR kR Z (yl_ne Z Z Z) (RD_pass 23 Z kR kR kR Z (yl_ne Z Z Z) (RD_pass 24 Z kR kR kR Z (yl_ne Z Z Z) (RD_pass 25 Z kR kR kR Z (yl_ne Z Z Z) (RD_pass 26 Z kR kR kR Z (yl_ne Z Z Z) (RD_pass 27 Z kR kR kR Z (yl_ne Z Z Z) (RD_pass 28 Z kR kR kR Z (yl_ne Z Z Z) (RD_pass 29 Z kR kR kR Z (yl_ne Z Z Z) (RD_pass 30 Z kR kR kR Z (yl_ne Z Z Z) (RD_pass 31 Z kR kR kR Z (yl_ne Z Z Z) (RD_t 32 Z kR Z (fun _ hK => v_pick_t Z Z) (RD_done kR (N_K ?_)))))))))))))))
  refine W_true Z (q2 (aG Z (q3 (W_ret (N_K_ret (ret_unlock 0 H muLib Z call116 Z Z (rs := [.tmp 4]) results93 ?_)))))); intro wu1 H
  refine ⟨[_], ⟨Z, trivial⟩, ?_⟩
  have H := H.toFront (k := 4) rfl
  have H := H.toFront (k := 4) rfl
  have H := H.toFront (k := 4) rfl
  have H := H.toFront (k := 4) rfl
  have H := H.toFront (k := 4) rfl
  have hno : Sp.SnapBack d name = none := Sp.back_noat (by (rw [← Sp.sn_find hSn]; omega))
  exact H.retM ⟨_, _, _, _, T, _, sn, _, _, d.store, congrArg Value.bool (by (rw [hno]; rfl)), rfl, hm, hS, hVd, hN, hchk, hNs, fun d2 h => (by rw [hno] at h; cases h)⟩
 intro hc4'
 try simp only [nrm] at hc4'
 obtain ⟨i, x, s0, hat, hsx, hs0, hai, htx, hix⟩ := sn_at hSn (n := name) oM
 refine RD_tg 3 Z kR Z (yl Z Z) (fun _ hK => v_move Z) (RD_tg 4 Z kR Z (yl Z Z) (fun _ hK => v_nilCheck Z) (RD_tg 5 Z kR Z (yl Z Z) (fun _ hK => v_fieldAddr 2 runUnderlying147 Z sizeOf95 Z Z) (RD_tg 6 Z kR Z (yl Z Z) (fun _ hK => v_fieldAddr 0 runUnderlying95 Z sizeOf92 Z Z) (RD_tg 7 Z kR Z (yl Z Z) (fun _ hK => v_load_B 0 hK isAgg92 Z Z Z) (RD_tg 8 Z kR Z (yl Z Z) (fun _ hK => v_move Z) (RD_tg 9 Z kR Z (yl Z Z) (fun _ hK => v_nilCheck Z) (RD_tg 10 Z kR Z (yl Z Z) (fun _ hK => v_fieldAddr 4 runUnderlying147 Z sizeOf145 Z Z) (RD_tg 11 Z kR Z (yl Z Z) (fun _ hK => v_load_B 0 hK isAgg145 Z Z Z) (RD_tg 12 Z kR Z (yl Z Z) (fun _ hK => v_move Z) ?_)))))))))
 refine RD_run [13] kR Z (RDs.cons Z ?_ RDs.nil)
 refine gR Z (o_index_A 3 H i Z hchk underlying145 sizeOf151 Z Z Z hat aN aN ?_); intro ba5 z5 q5 hba5 hz5 hE5 hg5; cases hba5
 obtain ⟨rfl, hi5⟩ := hE5; have hy_hi5 : _ ≤ 16777216 := hi5
 refine R_nil (N_DK (Kn.of' H hd3 (SubL.cons 0 Z SubL.nil)) (RD_tg 14 Z kR Z (yl Z Z) (fun _ hK => v_fieldAddr 1 runUnderlying151 Z sizeOf93 Z Z) ?_))
 refine RD_run [15] kR Z (RDs.cons Z ?_ RDs.nil)
 refine gR Z (o_load_A 3 H isAgg93 Z Z Z (hg5 1 _ Z) (R_nil (N_DK (Kn.of' H hd3 (SubL.cons 0 Z SubL.nil)) ?_)))
 refine RD_run [16] kR Z (RDs.cons Z ?_ RDs.nil)
 refine gR Z ?_
 have H := H.toFront (k := 4) rfl
 obtain ⟨Fk2, Fr2, hpm2, hNk2, hNr2⟩ := NdsO.del hNs (i := i) (k := z5.2) (by (rw [List.getElem?_map, hz5]; rfl))
 have H := (H.permF hpm2).splitF
 have H := H.toFront (k := 3) rfl
 refine o_call call143 Z Z (i_keepTree_c _ _ H.sub _ _ _ _ _ hm hS hVd _ _ hNk2 H.lent2 (sn_ok hSn _ (List.mem_map_of_mem (List.mem_of_getElem? hz5))).1 (by have := (sn_ok hSn _ (List.mem_map_of_mem (List.mem_of_getElem? hz5))).2; omega)) ?_
 rintro _ w6 ⟨G6, _, _, rfl, H6', ⟨es6, ck6, xs6, L6, rfl, rfl, hm6, hS6, hV6, hL6⟩⟩
 have hN := hN.up H6'.le
 have hchk := hchk.up H6'.le
 have hNs := hNs.up H6'.le
 have hd3 := hd3.trans H6'.le
 have H := H.borrow2 H6'
 refine ⟨_, Z, ?_⟩
 have H := H.toFront (k := 2) rfl
 have H := H.toFront (k := 2) rfl
 have H := (H.mergeF).permF hpm2.symm
 refine R_nil (N_DK (Kn.of' H hd3 (SubL.cons 2 Z SubL.nil)) (RD_tg 17 Z kR Z (yl Z Z) (fun _ hK => v_not Z) (RD_t 18 Z kR Z (fun _ hK => v_pick_f Z Z) (vM 19 Z Z ?_))))
 refine RD_case (t := 35) Z ?_ ?_
 ·intro hc7
  try simp only [nrm] at hc7
  refine RD_pass 20 Z kR kR kR Z (yl_ne Z Z Z) (RD_pass 21 Z kR kR kR Z (yl_ne Z Z Z) (RD_pass 22 Z kR kR kR Z (yl_ne Z Z Z) (RD_pass 23 Z kR kR kR Z (yl_ne Z Z Z) (RD_pass 24 Z kR kR kR Z (yl_ne Z Z Z) (RD_pass 25 Z kR kR kR Z (yl_ne Z Z Z) (RD_pass 26 Z kR kR kR Z (yl_ne Z Z Z) (RD_pass 27 Z kR kR kR Z (yl_ne Z Z Z) (RD_pass 28 Z kR kR kR Z (yl_ne Z Z Z) (RD_pass 29 Z kR kR kR Z (yl_ne Z Z Z) (RD_pass 30 Z kR kR kR Z (yl_ne Z Z Z) (RD_pass 31 Z kR kR kR Z (yl_ne Z Z Z) (RD_t 32 Z kR Z (fun _ hK => v_pick_t Z Z) (RD_done kR (N_K (W_true Z ?_)))))))))))))))
  refine q2 (aG Z (q3 (W_ret (N_K_ret (ret_unlock 2 H muLib Z call116 Z Z (rs := [.tmp 4]) results93 ?_))))); intro wu3 H
  refine ⟨[_], ⟨Z, trivial⟩, ?_⟩
  obtain rfl : x = z5 := Option.some.inj (hsx.symm.trans hz5)
  have H := H.toFront (k := 4) rfl
  have H := H.toFront (k := 4) rfl
  have H := H.toFront (k := 3) rfl
  have H := H.toFront (k := 4) rfl
  have hno : Sp.SnapBack d name = none := by (rw [Sp.back_eq hdv hai hs0, ← htx.flat]; (have hq : Sp.l12Keep d.store (x.2.flat []) = none := by simpa using hc7); rw [hq]; rfl)
  exact H.retM ⟨_, _, _, _, T, _, sn, _, _, L6, congrArg Value.bool (by (rw [hno]; rfl)), rfl, hm6, hS6, hV6, hN, hchk, hNs, fun d2 h => (by rw [hno] at h; cases h)⟩
 intro hc7'
 try simp only [nrm] at hc7'
 refine RD_tg 20 Z kR Z (yl Z Z) (fun _ hK => v_move Z) (RD_tg 21 Z kR Z (yl Z Z) (fun _ hK => v_nilCheck Z) (RD_tg 22 Z kR Z (yl Z Z) (fun _ hK => v_fieldAddr 2 runUnderlying147 Z sizeOf95 Z Z) (RD_tg 23 Z kR Z (yl Z Z) (fun _ hK => v_fieldAddr 0 runUnderlying95 Z sizeOf92 Z Z) (RD_tg 24 Z kR Z (yl Z Z) (fun _ hK => v_load_B 0 hK isAgg92 Z Z Z) (RD_tg 25 Z kR Z (yl Z Z) (fun _ hK => v_move Z) (RD_tg 26 Z kR Z (yl Z Z) (fun _ hK => v_nilCheck Z) (RD_tg 27 Z kR Z (yl Z Z) (fun _ hK => v_fieldAddr 2 runUnderlying147 Z sizeOf95 Z Z) (RD_tg 28 Z kR Z (yl Z Z) (fun _ hK => v_fieldAddr 1 runUnderlying95 Z sizeOf93 Z Z) (RD_tg 29 Z kR Z (yl Z Z) (fun _ hK => v_load_B 0 hK isAgg93 Z Z Z) ?_)))))))))
 refine RD_run [30] kR Z (RDs.cons Z ?_ RDs.nil)
 refine gR Z ?_
 have H := H.toFront (k := 3) rfl
 have H := H.toFront (k := 2) rfl
 refine o_call call118 Z Z (i_freeTree_c _ _ H.sub _ _ _ _ _ hm6 hS6 hV6 _ _ hN H.lent2 hT.wf oM) ?_
 rintro _ w8 ⟨G8, _, _, rfl, H8', ⟨es8, ck8, xs8, L8, rfl, rfl, hm8, hS8, hV8, hL8⟩⟩
 have hchk := hchk.up H8'.le
 have hNs := hNs.up H8'.le
 have hd3 := hd3.trans H8'.le
 have H := H.borrow2 H8'
 refine ⟨_, Z, ?_⟩
 refine R_nil (N_DK (Kn.of' H hd3 (SubL.cons 3 Z SubL.nil)) (RD_tg 31 Z kR Z (yl Z Z) (fun _ hK => v_not Z) (RD_t 32 Z kR Z (fun _ hK => v_pick_f Z Z) (RD_done kR (N_K ?_)))))
 refine W_cond Z ?_ ?_
 ·intro hc9
  try simp only [nrm] at hc9
  refine q2 (aG Z (q3 (W_ret (N_K_ret (ret_unlock 3 H muLib Z call116 Z Z (rs := [.tmp 4]) results93 ?_))))); intro wu4 H
  refine ⟨[_], ⟨Z, trivial⟩, ?_⟩
  obtain rfl : x = z5 := Option.some.inj (hsx.symm.trans hz5)
  obtain ⟨p, hp⟩ := Option.isSome_iff_exists.1 (show (Sp.l12Keep d.store (x.2.flat [])).isSome = true by simpa using hc7')
  have hLp := hL6 p hp; subst hLp; (rw [htx.flat] at hp)
  have hfr := Sp.back_free hdv hs0 hp
  exact absurd (show (Sp.freeTs L6 (T.flat [])).isSome = true by (rw [hT.flat, hfr]; rfl)) (by simpa using hc9)
 intro hc9'
 try simp only [nrm] at hc9'
 refine W_skip (N_K (q2 (mV Z (mV Z (o_nilCheck Z Z (o_fieldAddr 4 runUnderlying147 Z sizeOf145 Z Z Z (o_load_B 3 H isAgg145 Z Z Z Z (mV Z (o_index_A 4 H i Z hchk underlying145 sizeOf151 Z Z Z hat aN aN ?_))))))))); intro ba10 z10 q10 hba10 hz10 hE10 hg10; cases hba10
 obtain ⟨rfl, hi10⟩ := hE10; have hy_hi10 : _ ≤ 16777216 := hi10
 have hzz10 : z5 = z10 := Option.some.inj (hz5.symm.trans hz10)
 subst hzz10
 refine o_fieldAddr 1 runUnderlying151 Z sizeOf93 Z Z Z (o_load_A 4 H isAgg93 Z Z Z (hg10 1 _ Z) ?_)
 refine o_call call142 Z Z (i_clone_c _ _ (H.lendSubL [2]) _ (H.lendNs (k := 2) (ks := [2]) Z Z hNs z5.2 (List.mem_map_of_mem (List.mem_of_getElem? hz5))) (by have := (sn_ok hSn z5.2 (List.mem_map_of_mem (List.mem_of_getElem? hz5))).2; omega)) ?_
 rintro _ w11 ⟨_, _, rfl, H11', ⟨F11, T11, rfl, rfl, hNC11, hst11⟩⟩
 have H := H.readersL H11'
 refine ⟨_, Z, ?_⟩
 obtain ⟨Gs5, Fc5, H, hsl5, hNc5⟩ := Hp.shareC H hNC11 (H.apart (k := 0) (ks := [4, 1, 2, 5, 3]) rfl rfl (by intro b hb; simp only [fps, List.flatMap_cons, List.flatMap_nil, List.append_nil, List.mem_append] at hb; rcases hb with h | h | h | h | h; (· exact fpsAt_mem (k := 4) rfl rfl b (by exact h)); (· exact fpsAt_mem (k := 1) rfl rfl b (by exact h)); (· exact fpsAt_mem (k := 2) rfl rfl b (by exact h)); (· exact fpsAt_mem (k := 5) rfl rfl b (by exact h)); (· exact fpsAt_mem (k := 3) rfl rfl b (by exact h))))
 have hchk := hchk.up hsl5
 have hNs := hNs.up hsl5
 have hS8 := hS8.up hsl5
 refine o_nilCheck Z Z (o_fieldAddr 2 runUnderlying147 Z sizeOf95 Z Z Z (o_fieldAddr 1 runUnderlying95 Z sizeOf93 Z Z Z (o_store_B 4 H sizeOf93 Z Z Z Z Z Z Z Z ?_))); intro w12 H
 refine q1 (aG Z (q3 (W_ret (ret_unlock 4 H muLib Z call116 Z Z (rs := [.tmp 4]) results93 ?_)))); intro wu6 H
 refine ⟨[_], ⟨Z, trivial⟩, ?_⟩
 obtain rfl : x = z5 := Option.some.inj (hsx.symm.trans hz5)
 have H := H.del (k := 2) rfl
 have H := H.toFront (k := 2) rfl
 have H := H.toFront (k := 4) rfl
 have H := H.toFront (k := 2) rfl
 have H := H.toFront (k := 3) rfl
 have H := H.toFront (k := 4) rfl
 obtain ⟨p, hp⟩ := Option.isSome_iff_exists.1 (show (Sp.l12Keep d.store (x.2.flat [])).isSome = true by simpa using hc7')
 have hLp := hL6 p hp; subst hLp; (rw [htx.flat] at hp)
 have hfr := Sp.back_free hdv hs0 hp
 have hyes : Sp.SnapBack d name = some ⟨Sp.l12Free L6 d.tree, s0.tree, d.snaps⟩ := by (rw [Sp.back_eq hdv hai hs0, hp]; rfl)
 exact H.retM ⟨_, _, _, _, T11, _, sn, _, _, L8, congrArg Value.bool (by (rw [hyes]; rfl)), rfl, hm8, hS8, hV8, hNc5, hchk, hNs, fun d2 h => (by rw [hyes] at h; cases h; exact ⟨hL8 _ (by (rw [hT.flat]; exact hfr)), htx.strip hst11, hSn⟩)⟩
end Go.Proofs.Tst

namespace Go.Proofs.Tst
open Go Fw Tryz
theorem i_dropSnap_c (w0 : World) (G0 : PH) (hG : PSub G0 w0) (db mb : Nat) (es : Array MapEntry) (ck : Nat) (xs : List (Int × Value)) (T : Nd) (FT : Fr) (sv : Value) (sn : List (Bs × Nd)) (c : List Value) (FSq : Fr) (d : BDisk) (hm : MapIs (Value.int .i64) es ck xs) (hS : StR G0 xs d.store) (hN : NdO 166 93 G0 T FT) (hT : Nd.TOK T d.tree) (hchk : Chk osE 2 G0 c sn) (hNs : NdsO 166 93 G0 (sn.map (·.2)) FSq) (hSn : SnOK sn d.snaps) (hdv : Sp.DiskValid d = true) (name : Bs) (hname : name.length ≤ 16777216) (hLent : Lent w0 G0 [blk db (cl [.int .i32 0, .int .u32 0, .map (some mb), .pointer (some ⟨T.b, 0, none⟩), sv] 147), blk mb (.map es ck), frag FT, acc 151 2 sv sn.length c, frag FSq])  :
  Calls Tryz.prog 61 #[.pointer (some ⟨db, 0, none⟩), str name] w0 (RetM w0 G0 (fps [blk db (cl [.int .i32 0, .int .u32 0, .map (some mb), .pointer (some ⟨T.b, 0, none⟩), sv] 147), blk mb (.map es ck), frag FT, acc 151 2 sv sn.length c, frag FSq]) (fun G' v Bs => ∃ (es' : Array MapEntry) (ck' : Nat) (xs' : List (Int × Value)) (F' : Fr) (T' : Nd) (sv' : Value) (sn' : List (Fw.Bs × Nd)) (c' : List Value) (FSq' : Fr) (L' : List BHeld), v = .bool (Sp.SnapDrop d name).isSome ∧ Bs = [blk db (cl [.int .i32 0, .int .u32 0, .map (some mb), .pointer (some ⟨T'.b, 0, none⟩), sv'] 147), blk mb (.map es' ck'), frag F', acc 151 2 sv' sn'.length c', frag FSq'] ∧ MapIs (Value.int .i64) es' ck' xs' ∧ StR G' xs' L' ∧ Sp.VH L' ∧ NdO 166 93 G' T' F' ∧ Chk osE 2 G' c' sn' ∧ NdsO 166 93 G' (sn'.map (·.2)) FSq' ∧ ∀ d', Sp.SnapDrop d name = some d' → L' = d'.store ∧ Nd.TOK T' d'.tree ∧ SnOK sn' d'.snaps)) := by
 have H : Hp w0 G0 (fps [blk db (cl [.int .i32 0, .int .u32 0, .map (some mb), .pointer (some ⟨T.b, 0, none⟩), sv] 147), blk mb (.map es ck), frag FT, acc 151 2 sv sn.length c, frag FSq]) w0 G0 [blk db (cl [.int .i32 0, .int .u32 0, .map (some mb), .pointer (some ⟨T.b, 0, none⟩), sv] 147), blk mb (.map es ck), frag FT, acc 151 2 sv sn.length c, frag FSq] := hLent.hp
 obtain ⟨adv, cdv, rfl⟩ := H.accShape (k := 3) rfl; have hVd := Sp.valid_iff.1 (Sp.dv_parts.1 hdv).1; have hTv := (Sp.dv_parts.1 hdv).2.1; have hTc := hT.cnt; have hTl := Sp.tree_len hTv; have hsnl := hSn.len; have hsn6 := (Sp.dv_parts.1 hdv).2.2.1
 refine calls_of_WD (l := [.pointer (some ⟨db, 0, none⟩), str name]) func61 Z ntmps61 Z (q2 (aG Z (q1 (mV Z (o_nilCheck Z Z (o_fieldAddr 0 runUnderlying147 Z sizeOf144 Z Z Z (o_lock 0 H muLib Z call115 Z Z Z Z ?_))))))); intro w1 H
 refine q1 (mV Z (o_nilCheck Z Z (o_fieldAddr 0 runUnderlying147 Z sizeOf144 Z Z Z (o_defer Z (q1 (mV Z (mV Z (o_call call117 Z Z (i_snapAt_c _ _ (H.lendSubL [0, 3]) _ _ _ _ _ _ _ (prow_blk (H.lendPredL (k := 0) (ks := [0, 3]) Z Z)) (H.lendRdL (k := 3) (ks := [0, 3]) Z Z hchk aN aN) _ hname ) ?_))))))))
 rintro _ w2 ⟨rfl, ew2⟩; have H := H.step ew2; refine ⟨_, rfl, ?_⟩
 refine aG Z (q3 (W_seq (W_seq (W_drawK [0] 19 H kR Z ?_)))); intro w3 H; have hd3 := PLe.refl G0
 refine vM 0 Z Z (RD_t 1 Z kR Z (fun _ hK => v_lss Z Z) (vM 2 Z Z ?_))
 refine RD_case (t := 18) Z ?_ ?_
 ·intro hc4
  try simp only [nrm] at hc4
  refine RD_pass 3 Z kR kR kR Z (yl_ne Z Z Z) (RD_pass 4 Z kR kR kR Z (yl_ne Z Z Z) (RD_pass 5 Z kR kR kR Z (yl_ne Z Z Z) (RD_pass 6 Z kR kR kR Z (yl_ne Z Z Z) (RD_pass 7 Z kR kR kR Z (yl_ne Z Z Z) (RD_pass 8 Z kR kR kR Z (yl_ne Z Z Z) (RD_pass 9 Z kR kR kR Z (yl_ne Z Z Z) (RD_pass 10 Z kR kR kR Z (yl_ne Z Z Z) (RD_pass 11 Z kR kR kR Z (yl_ne Z Z Z) (RD_pass 12 Z kR kR kR Z (yl_ne Z Z Z) (RD_pass 13 Z kR kR kR Z (yl_ne Z Z Z) (RD_pass 14 Z kR kR kR Z (yl_ne Z Z Z) (RD_pass 15 Z kR kR kR Z (yl_ne Z Z Z) (RD_pass 16 Z kR kR kR Z (yl_ne Z Z Z) (RD_pass 17 Z kR kR kR Z (yl_ne Z Z Z) (RD_t 18 Z kR Z (fun _ hK => v_pick_t Z Z) ?_)))))))))))))))
  refine RD_done kR (N_K (W_true Z (q2 (aG Z (q3 (W_ret (N_K_ret (ret_unlock 0 H muLib Z call116 Z Z (rs := [.tmp 4]) results61 ?_)))))))); intro wu1 H
  refine ⟨[_], ⟨Z, trivial⟩, ?_⟩
  have H := H.toFront (k := 4) rfl
  have H := H.toFront (k := 4) rfl
  have H := H.toFront (k := 4) rfl
  have H := H.toFront (k := 4) rfl
  have H := H.toFront (k := 4) rfl
  have hno : Sp.SnapDrop d name = none := Sp.sdrop_noat (by (rw [← Sp.sn_find hSn]; omega))
  exact H.retM ⟨_, _, _, _, T, _, sn, _, _, d.store, congrArg Value.bool (by (rw [hno]; rfl)), rfl, hm, hS, hVd, hN, hchk, hNs, fun d2 h => (by rw [hno] at h; cases h)⟩
 intro hc4'
 try simp only [nrm] at hc4'
 obtain ⟨i, x, s0, hat, hsx, hs0, hai, htx, hix⟩ := sn_at hSn (n := name) oM
 refine RD_tg 3 Z kR Z (yl Z Z) (fun _ hK => v_move Z) (RD_tg 4 Z kR Z (yl Z Z) (fun _ hK => v_nilCheck Z) (RD_tg 5 Z kR Z (yl Z Z) (fun _ hK => v_fieldAddr 2 runUnderlying147 Z sizeOf95 Z Z) (RD_tg 6 Z kR Z (yl Z Z) (fun _ hK => v_fieldAddr 0 runUnderlying95 Z sizeOf92 Z Z) (RD_tg 7 Z kR Z (yl Z Z) (fun _ hK => v_load_B 0 hK isAgg92 Z Z Z) (RD_tg 8 Z kR Z (yl Z Z) (fun _ hK => v_move Z) (RD_tg 9 Z kR Z (yl Z Z) (fun _ hK => v_nilCheck Z) (RD_tg 10 Z kR Z (yl Z Z) (fun _ hK => v_fieldAddr 4 runUnderlying147 Z sizeOf145 Z Z) (RD_tg 11 Z kR Z (yl Z Z) (fun _ hK => v_load_B 0 hK isAgg145 Z Z Z) (RD_tg 12 Z kR Z (yl Z Z) (fun _ hK => v_move Z) ?_)))))))))
 refine RD_run [13] kR Z (RDs.cons Z ?_ RDs.nil)
 refine gR Z (o_index_A 3 H i Z hchk underlying145 sizeOf151 Z Z Z hat aN aN ?_); intro ba5 z5 q5 hba5 hz5 hE5 hg5; cases hba5
 obtain ⟨rfl, hi5⟩ := hE5; have hy_hi5 : _ ≤ 16777216 := hi5
 refine R_nil (N_DK (Kn.of' H hd3 (SubL.cons 0 Z SubL.nil)) (RD_tg 14 Z kR Z (yl Z Z) (fun _ hK => v_fieldAddr 1 runUnderlying151 Z sizeOf93 Z Z) ?_))
 refine RD_run [15] kR Z (RDs.cons Z ?_ RDs.nil)
 refine gR Z (o_load_A 3 H isAgg93 Z Z Z (hg5 1 _ Z) (R_nil (N_DK (Kn.of' H hd3 (SubL.cons 0 Z SubL.nil)) ?_)))
 refine RD_run [16] kR Z (RDs.cons Z ?_ RDs.nil)
 refine gR Z ?_
 have H := H.toFront (k := 4) rfl
 obtain ⟨Fk2, Fr2, hpm2, hNk2, hNr2⟩ := NdsO.del hNs (i := i) (k := z5.2) (by (rw [List.getElem?_map, hz5]; rfl))
 have H := (H.permF hpm2).splitF
 have H := H.toFront (k := 3) rfl
 refine o_call call118 Z Z (i_freeTree_c _ _ H.sub _ _ _ _ _ hm hS hVd _ _ hNk2 H.lent2 (sn_ok hSn _ (List.mem_map_of_mem (List.mem_of_getElem? hz5))).1 (by have := (sn_ok hSn _ (List.mem_map_of_mem (List.mem_of_getElem? hz5))).2; omega)) ?_
 rintro _ w6 ⟨G6, _, _, rfl, H6', ⟨es6, ck6, xs6, L6, rfl, rfl, hm6, hS6, hV6, hL6⟩⟩
 have hN := hN.up H6'.le
 have hchk := hchk.up H6'.le
 have hNr2 := hNr2.up H6'.le
 have hd3 := hd3.trans H6'.le
 have H := H.borrow2 H6'
 refine ⟨_, Z, ?_⟩
 refine R_nil (N_DK (Kn.of' H hd3 (SubL.cons 3 Z SubL.nil)) (RD_tg 17 Z kR Z (yl Z Z) (fun _ hK => v_not Z) (RD_t 18 Z kR Z (fun _ hK => v_pick_f Z Z) (RD_done kR (N_K ?_)))))
 refine W_cond Z ?_ ?_
 ·intro hc7
  try simp only [nrm] at hc7
  refine q2 (aG Z (q3 (W_ret (N_K_ret (ret_unlock 3 H muLib Z call116 Z Z (rs := [.tmp 4]) results61 ?_))))); intro wu3 H
  refine ⟨[_], ⟨Z, trivial⟩, ?_⟩
  obtain rfl : x = z5 := Option.some.inj (hsx.symm.trans hz5)
  have hfr := Sp.sdrop_free hdv hs0
  (rw [← htx.flat] at hfr)
  exact absurd (show (Sp.freeTs d.store (x.2.flat [])).isSome = true by (rw [hfr]; rfl)) (by simpa using hc7)
 intro hc7'
 try simp only [nrm] at hc7'
 refine W_skip (N_K (W_seq (W_drawK [] 19 H kR Z ?_))); intro w8 H; have hd8 := PLe.refl G6
 refine vM 0 Z Z (vM 1 Z Z (RD_t 2 Z kR Z (fun _ hK => v_nilCheck Z) (RD_t 3 Z kR Z (fun _ hK => v_fieldAddr 4 runUnderlying147 Z sizeOf145 Z Z) (vM 5 Z Z (vM 6 Z Z (vM 8 Z Z (RD_t 9 Z kR Z (fun _ hK => v_nilCheck Z) (RD_t 10 Z kR Z (fun _ hK => v_fieldAddr 4 runUnderlying147 Z sizeOf145 Z Z) (vM 12 Z Z (RD_t 13 Z kR Z (fun _ hK => v_add Z Z oO) ?_))))))))))
 refine RD_run [4, 11] kR Z (RDs.cons Z ?_ (RDs.cons Z ?_ RDs.nil))
 ·skip
  refine o_load_B 3 H isAgg145 Z Z Z Z (R_nil (N_DK (Kn.of' H hd8 SubL.nil) ?_))
  refine RD_run [7, 11] kR Z (RDs.cons Z ?_ (RDs.cons Z ?_ RDs.nil))
  ·skip
   have hac10 := H.accCap (k := 5) rfl
   refine o_slice_to3 (j := i) underlying145 sizeOf151 Z Z Z Z hat oM (R_nil (N_DK (Kn.of' H hd8 SubL.nil) ?_))
   refine RD_run [11] kR Z (RDs.cons Z ?_ RDs.nil)
   refine o_load_B 3 H isAgg145 Z Z Z Z (R_nil (N_DK (Kn.of' H hd8 SubL.nil) ?_))
   refine RD_run [14] kR Z (RDs.cons Z ?_ RDs.nil)
   have hac11 := H.accCap (k := 5) rfl
   refine o_slice_from (i := (i + 1)) underlying145 sizeOf151 Z Z Z oM oM (R_nil (N_DK (Kn.of' H hd8 SubL.nil) ?_))
   refine RD_run [15] kR Z (RDs.cons Z ?_ RDs.nil)
   refine o_append_cut 5 H i Z hchk (by intro z cs hz u hu; obtain ⟨rfl, _⟩ := hz; simp at hu; rcases hu with rfl | rfl <;> rfl) underlying145 typeInfo151 ⟨_, rfl, rfl⟩ rfl rfl rfl rfl rfl rfl oM aN oM rfl ?_; intro v12 w12 H hchk12
   obtain ⟨av12, cv12, rfl⟩ := H.accShape (k := 5) rfl
   refine R_nil (N_DK (Kn.of' H hd8 SubL.nil) (RD_t 16 Z kR Z (fun _ hK => v_nilCheck Z) (RD_t 17 Z kR Z (fun _ hK => v_fieldAddr 4 runUnderlying147 Z sizeOf145 Z Z) ?_)))
   refine RD_run [18] kR Z (RDs.cons Z ?_ RDs.nil)
   refine o_store_B 3 H sizeOf145 Z Z Z Z Z Z Z Z ?_; intro w13 H
   refine R_nil (N_DK (Kn.of' H hd8 SubL.nil) (RD_done kR (N_K (q2 (aG Z (q3 (W_ret (ret_unlock 3 H muLib Z call116 Z Z (rs := [.tmp 4]) results61 ?_)))))))); intro wu4 H
   refine ⟨[_], ⟨Z, trivial⟩, ?_⟩
   obtain rfl : x = z5 := Option.some.inj (hsx.symm.trans hz5)
   have H := H.del (k := 1) rfl
   have H := H.toFront (k := 1) rfl
   have H := H.toFront (k := 4) rfl
   have H := H.toFront (k := 4) rfl
   have H := H.toFront (k := 3) rfl
   have H := H.toFront (k := 4) rfl
   have H := H.toFront (k := 4) rfl
   have H := H.toFront (k := 4) rfl
   have H := H.toFront (k := 4) rfl
   have H := H.toFront (k := 4) rfl
   have H := H.toFront (k := 4) rfl
   have hfr := Sp.sdrop_free hdv hs0
   (rw [← htx.flat] at hfr)
   have hyes : Sp.SnapDrop d name = some _ := Sp.sdrop_eq hdv hai hs0
   have hln : i + (sn.length - (i + 1)) = (sn.take i ++ sn.drop (i + 1)).length := by simp; omega
   rw [hln] at H
   have hsd := All2.del hSn i
   exact H.retM ⟨_, _, _, _, T, _, (sn.take i ++ sn.drop (i + 1)), _, _, L6, congrArg Value.bool (by (rw [hyes]; rfl)), rfl, hm6, hS6, hV6, hN, hchk12, (by simpa [List.map_append, List.map_take, List.map_drop] using hNr2), fun d2 h => (by rw [hyes] at h; cases h; exact ⟨hL6 _ (by (rw [← htx.flat]; exact hfr)), hT, hsd⟩)⟩
  skip
  refine o_load_B 3 H isAgg145 Z Z Z Z (R_nil (N_DK (Kn.of' H hd8 SubL.nil) ?_))
  refine RD_run [7, 14] kR Z (RDs.cons Z ?_ (RDs.cons Z ?_ RDs.nil))
  ·skip
   have hac14 := H.accCap (k := 5) rfl
   refine o_slice_to3 (j := i) underlying145 sizeOf151 Z Z Z Z hat oM (R_nil (N_DK (Kn.of' H hd8 SubL.nil) ?_))
   refine RD_run [14] kR Z (RDs.cons Z ?_ RDs.nil)
   have hac15 := H.accCap (k := 5) rfl
   refine o_slice_from (i := (i + 1)) underlying145 sizeOf151 Z Z Z oM oM (R_nil (N_DK (Kn.of' H hd8 SubL.nil) ?_))
   refine RD_run [15] kR Z (RDs.cons Z ?_ RDs.nil)
   refine o_append_cut 5 H i Z hchk (by intro z cs hz u hu; obtain ⟨rfl, _⟩ := hz; simp at hu; rcases hu with rfl | rfl <;> rfl) underlying145 typeInfo151 ⟨_, rfl, rfl⟩ rfl rfl rfl rfl rfl rfl oM aN oM rfl ?_; intro v16 w16 H hchk16
   obtain ⟨av16, cv16, rfl⟩ := H.accShape (k := 5) rfl
   refine R_nil (N_DK (Kn.of' H hd8 SubL.nil) (RD_t 16 Z kR Z (fun _ hK => v_nilCheck Z) (RD_t 17 Z kR Z (fun _ hK => v_fieldAddr 4 runUnderlying147 Z sizeOf145 Z Z) ?_)))
   refine RD_run [18] kR Z (RDs.cons Z ?_ RDs.nil)
   refine o_store_B 3 H sizeOf145 Z Z Z Z Z Z Z Z ?_; intro w17 H
   refine R_nil (N_DK (Kn.of' H hd8 SubL.nil) (RD_done kR (N_K (q2 (aG Z (q3 (W_ret (ret_unlock 3 H muLib Z call116 Z Z (rs := [.tmp 4]) results61 ?_)))))))); intro wu5 H
   refine ⟨[_], ⟨Z, trivial⟩, ?_⟩
   obtain rfl : x = z5 := Option.some.inj (hsx.symm.trans hz5)
   have H := H.del (k := 1) rfl
   have H := H.toFront (k := 1) rfl
   have H := H.toFront (k := 4) rfl
   have H := H.toFront (k := 4) rfl
   have H := H.toFront (k := 3) rfl
   have H := H.toFront (k := 4) rfl
   have H := H.toFront (k := 4) rfl
   have H := H.toFront (k := 4) rfl
   have H := H.toFront (k := 4) rfl
   have H := H.toFront (k := 4) rfl
   have H := H.toFront (k := 4) rfl
   have hfr := Sp.sdrop_free hdv hs0
   (rw [← htx.flat] at hfr)
   have hyes : Sp.SnapDrop d name = some _ := Sp.sdrop_eq hdv hai hs0
   have hln : i + (sn.length - (i + 1)) = (sn.take i ++ sn.drop (i + 1)).length := by simp; omega
   rw [hln] at H
   have hsd := All2.del hSn i
   exact H.retM ⟨_, _, _, _, T, _, (sn.take i ++ sn.drop (i + 1)), _, _, L6, congrArg Value.bool (by (rw [hyes]; rfl)), rfl, hm6, hS6, hV6, hN, hchk16, (by simpa [List.map_append, List.map_take, List.map_drop] using hNr2), fun d2 h => (by rw [hyes] at h; cases h; exact ⟨hL6 _ (by (rw [← htx.flat]; exact hfr)), hT, hsd⟩)⟩
  skip
  have hac18 := H.accCap (k := 5) rfl
  refine o_slice_from (i := (i + 1)) underlying145 sizeOf151 Z Z Z oM oM (R_nil (N_DK (Kn.of' H hd8 SubL.nil) ?_))
  refine RD_run [7] kR Z (RDs.cons Z ?_ RDs.nil)
  have hac19 := H.accCap (k := 5) rfl
  refine o_slice_to3 (j := i) underlying145 sizeOf151 Z Z Z Z hat oM (R_nil (N_DK (Kn.of' H hd8 SubL.nil) ?_))
  refine RD_run [15] kR Z (RDs.cons Z ?_ RDs.nil)
  refine o_append_cut 5 H i Z hchk (by intro z cs hz u hu; obtain ⟨rfl, _⟩ := hz; simp at hu; rcases hu with rfl | rfl <;> rfl) underlying145 typeInfo151 ⟨_, rfl, rfl⟩ rfl rfl rfl rfl rfl rfl oM aN oM rfl ?_; intro v20 w20 H hchk20
  obtain ⟨av20, cv20, rfl⟩ := H.accShape (k := 5) rfl
  refine R_nil (N_DK (Kn.of' H hd8 SubL.nil) (RD_t 16 Z kR Z (fun _ hK => v_nilCheck Z) (RD_t 17 Z kR Z (fun _ hK => v_fieldAddr 4 runUnderlying147 Z sizeOf145 Z Z) ?_)))
  refine RD_run [18] kR Z (RDs.cons Z ?_ RDs.nil)
  refine o_store_B 3 H sizeOf145 Z Z Z Z Z Z Z Z ?_; intro w21 H
  refine R_nil (N_DK (Kn.of' H hd8 SubL.nil) (RD_done kR (N_K (q2 (aG Z (q3 (W_ret (ret_unlock 3 H muLib Z call116 Z Z (rs := [.tmp 4]) results61 ?_)))))))); intro wu6 H
  refine ⟨[_], ⟨Z, trivial⟩, ?_⟩
  obtain rfl : x = z5 := Option.some.inj (hsx.symm.trans hz5)
  have H := H.del (k := 1) rfl
  have H := H.toFront (k := 1) rfl
  have H := H.toFront (k := 4) rfl
  have H := H.toFront (k := 4) rfl
  have H := H.toFront (k := 3) rfl
  have H := H.toFront (k := 4) rfl
  have H := H.toFront (k := 4) rfl
  have H := H.toFront (k := 4) rfl
  have H := H.toFront (k := 4) rfl
  have H := H.toFront (k := 4) rfl
  have H := H.toFront (k := 4) rfl
  have hfr := Sp.sdrop_free hdv hs0
  (rw [← htx.flat] at hfr)
  have hyes : Sp.SnapDrop d name = some _ := Sp.sdrop_eq hdv hai hs0
  have hln : i + (sn.length - (i + 1)) = (sn.take i ++ sn.drop (i + 1)).length := by simp; omega
  rw [hln] at H
  have hsd := All2.del hSn i
  exact H.retM ⟨_, _, _, _, T, _, (sn.take i ++ sn.drop (i + 1)), _, _, L6, congrArg Value.bool (by (rw [hyes]; rfl)), rfl, hm6, hS6, hV6, hN, hchk20, (by simpa [List.map_append, List.map_take, List.map_drop] using hNr2), fun d2 h => (by rw [hyes] at h; cases h; exact ⟨hL6 _ (by (rw [← htx.flat]; exact hfr)), hT, hsd⟩)⟩
 skip
 refine o_load_B 3 H isAgg145 Z Z Z Z (R_nil (N_DK (Kn.of' H hd8 SubL.nil) ?_))
 refine RD_run [4, 14] kR Z (RDs.cons Z ?_ (RDs.cons Z ?_ RDs.nil))
 ·skip
  refine o_load_B 3 H isAgg145 Z Z Z Z (R_nil (N_DK (Kn.of' H hd8 SubL.nil) ?_))
  refine RD_run [7, 14] kR Z (RDs.cons Z ?_ (RDs.cons Z ?_ RDs.nil))
  ·skip
   have hac22 := H.accCap (k := 5) rfl
   refine o_slice_to3 (j := i) underlying145 sizeOf151 Z Z Z Z hat oM (R_nil (N_DK (Kn.of' H hd8 SubL.nil) ?_))
   refine RD_run [14] kR Z (RDs.cons Z ?_ RDs.nil)
   have hac23 := H.accCap (k := 5) rfl
   refine o_slice_from (i := (i + 1)) underlying145 sizeOf151 Z Z Z oM oM (R_nil (N_DK (Kn.of' H hd8 SubL.nil) ?_))
   refine RD_run [15] kR Z (RDs.cons Z ?_ RDs.nil)
   refine o_append_cut 5 H i Z hchk (by intro z cs hz u hu; obtain ⟨rfl, _⟩ := hz; simp at hu; rcases hu with rfl | rfl <;> rfl) underlying145 typeInfo151 ⟨_, rfl, rfl⟩ rfl rfl rfl rfl rfl rfl oM aN oM rfl ?_; intro v24 w24 H hchk24
   obtain ⟨av24, cv24, rfl⟩ := H.accShape (k := 5) rfl
   refine R_nil (N_DK (Kn.of' H hd8 SubL.nil) (RD_t 16 Z kR Z (fun _ hK => v_nilCheck Z) (RD_t 17 Z kR Z (fun _ hK => v_fieldAddr 4 runUnderlying147 Z sizeOf145 Z Z) ?_)))
   refine RD_run [18] kR Z (RDs.cons Z ?_ RDs.nil)
   refine o_store_B 3 H sizeOf145 Z Z Z Z Z Z Z Z ?_; intro w25 H
   refine R_nil (N_DK (Kn.of' H hd8 SubL.nil) (RD_done kR (N_K (q2 (aG Z (q3 (W_ret (ret_unlock 3 H muLib Z call116 Z Z (rs := [.tmp 4]) results61 ?_)))))))); intro wu7 H
   refine ⟨[_], ⟨Z, trivial⟩, ?_⟩
   obtain rfl : x = z5 := Option.some.inj (hsx.symm.trans hz5)
   have H := H.del (k := 1) rfl
   have H := H.toFront (k := 1) rfl
   have H := H.toFront (k := 4) rfl
   have H := H.toFront (k := 4) rfl
   have H := H.toFront (k := 3) rfl
   have H := H.toFront (k := 4) rfl
   have H := H.toFront (k := 4) rfl
   have H := H.toFront (k := 4) rfl
   have H := H.toFront (k := 4) rfl
   have H := H.toFront (k := 4) rfl
   have H := H.toFront (k := 4) rfl
   have hfr := Sp.sdrop_free hdv hs0
   (rw [← htx.flat] at hfr)
   have hyes : Sp.SnapDrop d name = some _ := Sp.sdrop_eq hdv hai hs0
   have hln : i + (sn.length - (i + 1)) = (sn.take i ++ sn.drop (i + 1)).length := by simp; omega
   rw [hln] at H
   have hsd := All2.del hSn i
   exact H.retM ⟨_, _, _, _, T, _, (sn.take i ++ sn.drop (i + 1)), _, _, L6, congrArg Value.bool (by (rw [hyes]; rfl)), rfl, hm6, hS6, hV6, hN, hchk24, (by simpa [List.map_append, List.map_take, List.map_drop] using hNr2), fun d2 h => (by rw [hyes] at h; cases h; exact ⟨hL6 _ (by (rw [← htx.flat]; exact hfr)), hT, hsd⟩)⟩
  skip
  have hac26 := H.accCap (k := 5) rfl
  refine o_slice_from (i := (i + 1)) underlying145 sizeOf151 Z Z Z oM oM (R_nil (N_DK (Kn.of' H hd8 SubL.nil) ?_))
  refine RD_run [7] kR Z (RDs.cons Z ?_ RDs.nil)
  have hac27 := H.accCap (k := 5) rfl
  refine o_slice_to3 (j := i) underlying145 sizeOf151 Z Z Z Z hat oM (R_nil (N_DK (Kn.of' H hd8 SubL.nil) ?_))
  refine RD_run [15] kR Z (RDs.cons Z ?_ RDs.nil)
  refine o_append_cut 5 H i Z hchk (by intro z cs hz u hu; obtain ⟨rfl, _⟩ := hz; simp at hu; rcases hu with rfl | rfl <;> rfl) underlying145 typeInfo151 ⟨_, rfl, rfl⟩ rfl rfl rfl rfl rfl rfl oM aN oM rfl ?_; intro v28 w28 H hchk28
  obtain ⟨av28, cv28, rfl⟩ := H.accShape (k := 5) rfl
  refine R_nil (N_DK (Kn.of' H hd8 SubL.nil) (RD_t 16 Z kR Z (fun _ hK => v_nilCheck Z) (RD_t 17 Z kR Z (fun _ hK => v_fieldAddr 4 runUnderlying147 Z sizeOf145 Z Z) ?_)))
  refine RD_run [18] kR Z (RDs.cons Z ?_ RDs.nil)
  refine o_store_B 3 H sizeOf145 Z Z Z Z Z Z Z Z ?_; intro w29 H
  refine R_nil (N_DK (Kn.of' H hd8 SubL.nil) (RD_done kR (N_K (q2 (aG Z (q3 (W_ret (ret_unlock 3 H muLib Z call116 Z Z (rs := [.tmp 4]) results61 ?_)))))))); intro wu8 H
  refine ⟨[_], ⟨Z, trivial⟩, ?_⟩
  obtain rfl : x = z5 := Option.some.inj (hsx.symm.trans hz5)
  have H := H.del (k := 1) rfl
  have H := H.toFront (k := 1) rfl
  have H := H.toFront (k := 4) rfl
  have H := H.toFront (k := 4) rfl
  have H := H.toFront (k := 3) rfl
  have H := H.toFront (k := 4) rfl
  have H := H.toFront (k := 4) rfl
  have H := H.toFront (k := 4) rfl
  have H := H.toFront (k := 4) rfl
  have H := H.toFront (k := 4) rfl
  have H := H.toFront (k := 4) rfl
  have hfr := Sp.sdrop_free hdv hs0
  (rw [← htx.flat] at hfr)
  have hyes : Sp.SnapDrop d name = some _ := Sp.sdrop_eq hdv hai hs0
  have hln : i + (sn.length - (i + 1)) = (sn.take i ++ sn.drop (i + 1)).length := by simp; omega
  rw [hln] at H
  have hsd := All2.del hSn i
  exact H.retM ⟨_, _, _, _, T, _, (sn.take i ++ sn.drop (i + 1)), _, _, L6, congrArg Value.bool (by (rw [hyes]; rfl)), rfl, hm6, hS6, hV6, hN, hchk28, (by simpa [List.map_append, List.map_take, List.map_drop] using hNr2), fun d2 h => (by rw [hyes] at h; cases h; exact ⟨hL6 _ (by (rw [← htx.flat]; exact hfr)), hT, hsd⟩)⟩
 skip
 have hac30 := H.accCap (k := 5) rfl
 refine o_slice_from (i := (i + 1)) underlying145 sizeOf151 Z Z Z oM oM (R_nil (N_DK (Kn.of' H hd8 SubL.nil) ?_))
 refine RD_run [4] kR Z (RDs.cons Z ?_ RDs.nil)
 refine o_load_B 3 H isAgg145 Z Z Z Z (R_nil (N_DK (Kn.of' H hd8 SubL.nil) ?_))
 refine RD_run [7] kR Z (RDs.cons Z ?_ RDs.nil)
 have hac31 := H.accCap (k := 5) rfl
 refine o_slice_to3 (j := i) underlying145 sizeOf151 Z Z Z Z hat oM (R_nil (N_DK (Kn.of' H hd8 SubL.nil) ?_))
 refine RD_run [15] kR Z (RDs.cons Z ?_ RDs.nil)
 refine o_append_cut 5 H i Z hchk (by intro z cs hz u hu; obtain ⟨rfl, _⟩ := hz; simp at hu; rcases hu with rfl | rfl <;> rfl) underlying145 typeInfo151 ⟨_, rfl, rfl⟩ rfl rfl rfl rfl rfl rfl oM aN oM rfl ?_; intro v32 w32 H hchk32
 obtain ⟨av32, cv32, rfl⟩ := H.accShape (k := 5) rfl
 refine R_nil (N_DK (Kn.of' H hd8 SubL.nil) (RD_t 16 Z kR Z (fun _ hK => v_nilCheck Z) (RD_t 17 Z kR Z (fun _ hK => v_fieldAddr 4 runUnderlying147 Z sizeOf145 Z Z) ?_)))
 refine RD_run [18] kR Z (RDs.cons Z ?_ RDs.nil)
 refine o_store_B 3 H sizeOf145 Z Z Z Z Z Z Z Z ?_; intro w33 H
 refine R_nil (N_DK (Kn.of' H hd8 SubL.nil) (RD_done kR (N_K (q2 (aG Z (q3 (W_ret (ret_unlock 3 H muLib Z call116 Z Z (rs := [.tmp 4]) results61 ?_)))))))); intro wu9 H
 refine ⟨[_], ⟨Z, trivial⟩, ?_⟩
 obtain rfl : x = z5 := Option.some.inj (hsx.symm.trans hz5)
 have H := H.del (k := 1) rfl
 have H := H.toFront (k := 1) rfl
 have H := H.toFront (k := 4) rfl
 have H := H.toFront (k := 4) rfl
 have H := H.toFront (k := 3) rfl
 have H := H.toFront (k := 4) rfl
 have H := H.toFront (k := 4) rfl
 have H := H.toFront (k := 4) rfl
 have H := H.toFront (k := 4) rfl
 have H := H.toFront (k := 4) rfl
 have H := H.toFront (k := 4) rfl
 have hfr := Sp.sdrop_free hdv hs0
 (rw [← htx.flat] at hfr)
 have hyes : Sp.SnapDrop d name = some _ := Sp.sdrop_eq hdv hai hs0
 have hln : i + (sn.length - (i + 1)) = (sn.take i ++ sn.drop (i + 1)).length := by simp; omega
 rw [hln] at H
 have hsd := All2.del hSn i
 exact H.retM ⟨_, _, _, _, T, _, (sn.take i ++ sn.drop (i + 1)), _, _, L6, congrArg Value.bool (by (rw [hyes]; rfl)), rfl, hm6, hS6, hV6, hN, hchk32, (by simpa [List.map_append, List.map_take, List.map_drop] using hNr2), fun d2 h => (by rw [hyes] at h; cases h; exact ⟨hL6 _ (by (rw [← htx.flat]; exact hfr)), hT, hsd⟩)⟩
end Go.Proofs.Tst

namespace Go.Proofs.Tst
open Go Fw Tryz
end Go.Proofs.Tst

namespace Go.Proofs.Tst
open Go Fw Tryz
end Go.Proofs.Tst

namespace Go.Proofs.Tst
open Go Fw Tryz
end Go.Proofs.Tst

namespace Go.Proofs.Tst
open Go Fw Tryz
end Go.Proofs.Tst

namespace Go.Proofs.Tst
open Go Fw Tryz
theorem i_SnapBack1_c (w0 : World) (G0 : PH) (hG : PSub G0 w0) (db mb : Nat) (es : Array MapEntry) (ck : Nat) (xs : List (Int × Value)) (T : Nd) (FT : Fr) (sv : Value) (sn : List (Bs × Nd)) (c : List Value) (FSq : Fr) (d : BDisk) (hm : MapIs (Value.int .i64) es ck xs) (hS : StR G0 xs d.store) (hN : NdO 166 93 G0 T FT) (hT : Nd.TOK T d.tree) (hchk : Chk osE 2 G0 c sn) (hNs : NdsO 166 93 G0 (sn.map (·.2)) FSq) (hSn : SnOK sn d.snaps) (hdv : Sp.DiskValid d = true) (cp : Nat) (name : Bs) (hname : name.length ≤ 16777216) (hcp : PRow G0 cp 0 [str name]) (hLent : Lent w0 G0 [blk db (cl [.int .i32 0, .int .u32 0, .map (some mb), .pointer (some ⟨T.b, 0, none⟩), sv] 147), blk mb (.map es ck), frag FT, acc 151 2 sv sn.length c, frag FSq])  :
  Calls Tryz.prog 92 #[.pointer (some ⟨db, 0, none⟩), .pointer (some ⟨cp, 0, none⟩)] w0 (RetM w0 G0 (fps [blk db (cl [.int .i32 0, .int .u32 0, .map (some mb), .pointer (some ⟨T.b, 0, none⟩), sv] 147), blk mb (.map es ck), frag FT, acc 151 2 sv sn.length c, frag FSq]) (fun G' v Bs => ∃ (es' : Array MapEntry) (ck' : Nat) (xs' : List (Int × Value)) (F' : Fr) (T' : Nd) (sv' : Value) (sn' : List (Fw.Bs × Nd)) (c' : List Value) (FSq' : Fr) (L' : List BHeld), v = .bool (Sp.SnapBack d name).isSome ∧ Bs = [blk db (cl [.int .i32 0, .int .u32 0, .map (some mb), .pointer (some ⟨T'.b, 0, none⟩), sv'] 147), blk mb (.map es' ck'), frag F', acc 151 2 sv' sn'.length c', frag FSq'] ∧ MapIs (Value.int .i64) es' ck' xs' ∧ StR G' xs' L' ∧ Sp.VH L' ∧ NdO 166 93 G' T' F' ∧ Chk osE 2 G' c' sn' ∧ NdsO 166 93 G' (sn'.map (·.2)) FSq' ∧ ∀ d', Sp.SnapBack d name = some d' → L' = d'.store ∧ Nd.TOK T' d'.tree ∧ SnOK sn' d'.snaps)) := by
 have H : Hp w0 G0 (fps [blk db (cl [.int .i32 0, .int .u32 0, .map (some mb), .pointer (some ⟨T.b, 0, none⟩), sv] 147), blk mb (.map es ck), frag FT, acc 151 2 sv sn.length c, frag FSq]) w0 G0 [blk db (cl [.int .i32 0, .int .u32 0, .map (some mb), .pointer (some ⟨T.b, 0, none⟩), sv] 147), blk mb (.map es ck), frag FT, acc 151 2 sv sn.length c, frag FSq] := hLent.hp
 obtain ⟨adv, cdv, rfl⟩ := H.accShape (k := 3) rfl; have hVd := Sp.valid_iff.1 (Sp.dv_parts.1 hdv).1; have hTv := (Sp.dv_parts.1 hdv).2.1; have hTc := hT.cnt; have hTl := Sp.tree_len hTv; have hsnl := hSn.len; have hsn6 := (Sp.dv_parts.1 hdv).2.2.1
 refine calls_of_W (l := [.pointer (some ⟨db, 0, none⟩), .pointer (some ⟨cp, 0, none⟩)]) func92 Z ntmps92 Z (q2 (aG Z (q1 (mV Z (o_load_P H isAgg9 Z Z (hcp 0 _ Z) ?_)))))
 have H := H.toFront (k := 4) rfl
 have H := H.toFront (k := 4) rfl
 have H := H.toFront (k := 4) rfl
 have H := H.toFront (k := 4) rfl
 have H := H.toFront (k := 4) rfl
 refine o_call call93 Z Z (i_back_c _ _ H.sub _ _ _ _ _ _ _ _ _ _ _ _ hm hS hN hT hchk hNs hSn hdv _ hname H.lent5 ) ?_
 rintro _ w1 ⟨G1, _, _, rfl, H1', ⟨es1, ck1, xs1, F1, T1, sv1, sn1, c1, FS1, L1, rfl, rfl, hm1, hS1, hV1, hN1, hchk1, hNs1, hd1⟩⟩
 have H := H.borrow5 H1'
 obtain ⟨avAd, cvAd, rfl⟩ := H.accShape (k := 3) rfl
 refine ⟨_, Z, ?_⟩
 refine aG Z (q3 (W_ret (rt1 results92 Z ?_)))
 have H := H.toFront (k := 4) rfl
 have H := H.toFront (k := 4) rfl
 have H := H.toFront (k := 4) rfl
 have H := H.toFront (k := 4) rfl
 have H := H.toFront (k := 4) rfl
 exact H.retM ⟨_, _, _, _, _, _, _, _, _, _, Z, Z, hm1, hS1, hV1, hN1, hchk1, hNs1, hd1⟩
theorem i_SnapDrop1_c (w0 : World) (G0 : PH) (hG : PSub G0 w0) (db mb : Nat) (es : Array MapEntry) (ck : Nat) (xs : List (Int × Value)) (T : Nd) (FT : Fr) (sv : Value) (sn : List (Bs × Nd)) (c : List Value) (FSq : Fr) (d : BDisk) (hm : MapIs (Value.int .i64) es ck xs) (hS : StR G0 xs d.store) (hN : NdO 166 93 G0 T FT) (hT : Nd.TOK T d.tree) (hchk : Chk osE 2 G0 c sn) (hNs : NdsO 166 93 G0 (sn.map (·.2)) FSq) (hSn : SnOK sn d.snaps) (hdv : Sp.DiskValid d = true) (cp : Nat) (name : Bs) (hname : name.length ≤ 16777216) (hcp : PRow G0 cp 0 [str name]) (hLent : Lent w0 G0 [blk db (cl [.int .i32 0, .int .u32 0, .map (some mb), .pointer (some ⟨T.b, 0, none⟩), sv] 147), blk mb (.map es ck), frag FT, acc 151 2 sv sn.length c, frag FSq])  :
  Calls Tryz.prog 60 #[.pointer (some ⟨db, 0, none⟩), .pointer (some ⟨cp, 0, none⟩)] w0 (RetM w0 G0 (fps [blk db (cl [.int .i32 0, .int .u32 0, .map (some mb), .pointer (some ⟨T.b, 0, none⟩), sv] 147), blk mb (.map es ck), frag FT, acc 151 2 sv sn.length c, frag FSq]) (fun G' v Bs => ∃ (es' : Array MapEntry) (ck' : Nat) (xs' : List (Int × Value)) (F' : Fr) (T' : Nd) (sv' : Value) (sn' : List (Fw.Bs × Nd)) (c' : List Value) (FSq' : Fr) (L' : List BHeld), v = .bool (Sp.SnapDrop d name).isSome ∧ Bs = [blk db (cl [.int .i32 0, .int .u32 0, .map (some mb), .pointer (some ⟨T'.b, 0, none⟩), sv'] 147), blk mb (.map es' ck'), frag F', acc 151 2 sv' sn'.length c', frag FSq'] ∧ MapIs (Value.int .i64) es' ck' xs' ∧ StR G' xs' L' ∧ Sp.VH L' ∧ NdO 166 93 G' T' F' ∧ Chk osE 2 G' c' sn' ∧ NdsO 166 93 G' (sn'.map (·.2)) FSq' ∧ ∀ d', Sp.SnapDrop d name = some d' → L' = d'.store ∧ Nd.TOK T' d'.tree ∧ SnOK sn' d'.snaps)) := by
 have H : Hp w0 G0 (fps [blk db (cl [.int .i32 0, .int .u32 0, .map (some mb), .pointer (some ⟨T.b, 0, none⟩), sv] 147), blk mb (.map es ck), frag FT, acc 151 2 sv sn.length c, frag FSq]) w0 G0 [blk db (cl [.int .i32 0, .int .u32 0, .map (some mb), .pointer (some ⟨T.b, 0, none⟩), sv] 147), blk mb (.map es ck), frag FT, acc 151 2 sv sn.length c, frag FSq] := hLent.hp
 obtain ⟨adv, cdv, rfl⟩ := H.accShape (k := 3) rfl; have hVd := Sp.valid_iff.1 (Sp.dv_parts.1 hdv).1; have hTv := (Sp.dv_parts.1 hdv).2.1; have hTc := hT.cnt; have hTl := Sp.tree_len hTv; have hsnl := hSn.len; have hsn6 := (Sp.dv_parts.1 hdv).2.2.1
 refine calls_of_W (l := [.pointer (some ⟨db, 0, none⟩), .pointer (some ⟨cp, 0, none⟩)]) func60 Z ntmps60 Z (q2 (aG Z (q1 (mV Z (o_load_P H isAgg9 Z Z (hcp 0 _ Z) ?_)))))
 have H := H.toFront (k := 4) rfl
 have H := H.toFront (k := 4) rfl
 have H := H.toFront (k := 4) rfl
 have H := H.toFront (k := 4) rfl
 have H := H.toFront (k := 4) rfl
 refine o_call call61 Z Z (i_dropSnap_c _ _ H.sub _ _ _ _ _ _ _ _ _ _ _ _ hm hS hN hT hchk hNs hSn hdv _ hname H.lent5 ) ?_
 rintro _ w1 ⟨G1, _, _, rfl, H1', ⟨es1, ck1, xs1, F1, T1, sv1, sn1, c1, FS1, L1, rfl, rfl, hm1, hS1, hV1, hN1, hchk1, hNs1, hd1⟩⟩
 have H := H.borrow5 H1'
 obtain ⟨avAd, cvAd, rfl⟩ := H.accShape (k := 3) rfl
 refine ⟨_, Z, ?_⟩
 refine aG Z (q3 (W_ret (rt1 results60 Z ?_)))
 have H := H.toFront (k := 4) rfl
 have H := H.toFront (k := 4) rfl
 have H := H.toFront (k := 4) rfl
 have H := H.toFront (k := 4) rfl
 have H := H.toFront (k := 4) rfl
 exact H.retM ⟨_, _, _, _, _, _, _, _, _, _, Z, Z, hm1, hS1, hV1, hN1, hchk1, hNs1, hd1⟩
end Go.Proofs.Tst

namespace Go.Proofs.Tst
open Go Fw Tryz
theorem i_changed_back_c (w0 : World) (G0 : PH) (hG : PSub G0 w0) (cd : List Value) (d : BDisk) (hd : diskE G0 d cd) (cp : Nat) (name : Bs) (hname : name.length ≤ 16777216) (hcp : PRow G0 cp 0 [str name])  :
  Calls Tryz.prog 59 #[.agg cd.toArray, .func (.func 92) #[] #[.pointer (some ⟨cp, 0, none⟩)]] w0 (RetN w0 G0 (fun v Bs => ∃ (v1 v2 v3 : Value) (F1 F2 F3 : Fr), v = .tuple #[.agg #[v1, v2, v3], .bool (Sp.SnapBack d name).isSome] ∧ Bs = [frag F1, frag F2, frag F3] ∧ OHs F1 v1 ((Sp.SnapBack d name).getD ⟨[], [], []⟩).store ∧ OIs F2 v2 ((Sp.SnapBack d name).getD ⟨[], [], []⟩).tree ∧ OSn F3 v3 ((Sp.SnapBack d name).getD ⟨[], [], []⟩).snaps)) := by
 obtain ⟨a1, m1, c1, a1', m1', c1', a1'', m1'', c1'', rfl, hr1, hr1', hr1''⟩ := hd; have hn_hr1 := hr1.len; have hx_hr1 : _ ≤ 1099511627776 := hr1.lim; have hn_hr1q := hr1'.len; have hx_hr1q : _ ≤ 1099511627776 := hr1'.lim; have hn_hr1qq := hr1''.len; have hx_hr1qq : _ ≤ 1099511627776 := hr1''.lim
 have H := Hp.init hG
 refine calls_of_W (l := [_, .func (.func 92) #[] #[.pointer (some ⟨cp, 0, none⟩)]]) func59 Z ntmps59 Z (q2 (o_box H Z Z Z ?_)); intro b2 w2 hb2 H
 refine o_alloc H zeroValue32 Z Z ?_; intro b3 w3 hb3 H
 refine aG Z (q1 (o_loadagg_B 1 H isAgg32 sizeOf32 Z Z Z Z Z (o_call call89 Z Z (i_newDisk_c _ _ H.sub _ d ⟨_, _, _, _, _, _, _, _, _, Z, hr1, hr1', hr1''⟩ H.lent0 ) ?_)))
 rintro _ w4 ⟨G4, _, _, rfl, H4', ⟨rfl, rfl, hnd4⟩ | ⟨db4, mb4, es4, ck4, xs4, T4, F4, sv4, sn4, c4, FS4, rfl, rfl, hm4, hS4, hN4, hT4, hchk4, hNs4, hSn4, hdv4⟩⟩
 ·skip
  have H := H.borrow0 H4'
  refine ⟨_, Z, ?_⟩
  refine mV Z (o_extract Z Z Z (o_extract Z Z Z (aG Z (aG Z (q3 (W_seq (q2 (mV Z (o_not Z Z (mV Z (rP Z (rP Z (rP Z (rP Z (o_pick_t Z Z Z ?_)))))))))))))))
  refine q3 (W_true Z (q2 (o_build bf32 Z Z Z (o_store_B 0 H sizeOf32 Z Z Z Z Z Z Z Z ?_)))); intro w5 H
  refine aG Z (q3 (W_ret (N_K_ret (ret_gen (rs := [.cell 4 32, .tmp 5]) (vs := [_, _]) results59 ⟨⟨_, Z, load_blk 0 H isAgg32 sizeOf32 Z Z Z⟩, Z, trivial⟩ ?_))))
  have H := H.del (k := 0) rfl
  have H := H.del (k := 0) rfl
  have hno : Sp.SnapBack d name = none := by (cases hh : Sp.SnapBack d name with | none => rfl | some q => (have hx := Sp.back_isv hh; rw [hnd4] at hx; cases hx))
  have H := (((H.addF).addF).addF).forget hG (by simp)
  refine ⟨_, _, Z, H, .slice none 0 0, .slice none 0 0, .slice none 0 0, [], [], [], ?_, Z, ?_, ?_, ?_⟩
  ·(rw [hno]; rfl)
  ·(rw [hno]; exact oh_nil)
  ·(rw [hno]; exact oi_nil)
  (rw [hno]; exact os_nil)
 skip
 have hcp := hcp.up H4'.le
 have H := H.borrow0 H4'
 obtain ⟨avAd, cvAd, rfl⟩ := H.accShape (k := 3) rfl
 refine ⟨_, Z, ?_⟩
 refine mV Z (o_extract Z Z Z (o_extract Z Z Z (aG Z (aG Z (q3 (W_seq (q2 (mV Z (o_not Z Z (mV Z (gR Z (mV Z (gR Z (mV Z (gR Z ?_)))))))))))))))
 have H := H.toFront (k := 4) rfl
 have H := H.toFront (k := 4) rfl
 have H := H.toFront (k := 4) rfl
 have H := H.toFront (k := 4) rfl
 have H := H.toFront (k := 4) rfl
 refine o_callc call92 Z Z Z (i_SnapBack1_c _ _ H.sub _ _ _ _ _ _ _ _ _ _ _ _ hm4 hS4 hN4 hT4 hchk4 hNs4 hSn4 hdv4 _ _ hname hcp H.lent5 ) ?_
 rintro _ w6 ⟨G6, _, _, rfl, H6', ⟨es6, ck6, xs6, F6, T6, sv6, sn6, c6, FS6, L6, rfl, rfl, hm6, hS6, hV6, hN6, hchk6, hNs6, hd6⟩⟩
 have H := H.borrow5 H6'
 obtain ⟨avAd, cvAd, rfl⟩ := H.accShape (k := 3) rfl
 refine ⟨_, Z, ?_⟩
 refine gR Z (o_not Z Z (o_pick_f Z Z Z (q3 ?_)))
 refine W_cond Z ?_ ?_
 ·intro hc7
  try simp only [nrm] at hc7
  refine q2 (o_build bf32 Z Z Z (o_store_B 5 H sizeOf32 Z Z Z Z Z Z Z Z ?_)); intro w8 H
  refine aG Z (q3 (W_ret (N_K_ret (ret_gen (rs := [.cell 4 32, .tmp 5]) (vs := [_, _]) results59 ⟨⟨_, Z, load_blk 5 H isAgg32 sizeOf32 Z Z Z⟩, Z, trivial⟩ ?_))))
  have H := H.del (k := 0) rfl
  have H := H.del (k := 0) rfl
  have H := H.del (k := 0) rfl
  have H := H.del (k := 0) rfl
  have H := H.del (k := 0) rfl
  have H := H.del (k := 0) rfl
  have H := H.del (k := 0) rfl
  have hno : Sp.SnapBack d name = none := by simpa using hc7
  have H := (((H.addF).addF).addF).forget hG (by simp)
  refine ⟨_, _, Z, H, .slice none 0 0, .slice none 0 0, .slice none 0 0, [], [], [], ?_, Z, ?_, ?_, ?_⟩
  ·(rw [hno]; rfl)
  ·(rw [hno]; exact oh_nil)
  ·(rw [hno]; exact oi_nil)
  (rw [hno]; exact os_nil)
 intro hc7'
 try simp only [nrm] at hc7'
 obtain ⟨d2, hd2⟩ := Option.isSome_iff_exists.1 (show (Sp.SnapBack d name).isSome = true by simpa using hc7')
 obtain ⟨hL2, hT2, hsn2⟩ := hd6 d2 hd2; subst hL2
 refine W_skip (N_K (q2 (mV Z ?_)))
 have H := H.toFront (k := 4) rfl
 have H := H.toFront (k := 4) rfl
 have H := H.toFront (k := 4) rfl
 have H := H.toFront (k := 4) rfl
 have H := H.toFront (k := 4) rfl
 refine o_call call114 Z Z (i_disk_c _ _ H.sub _ _ _ _ _ _ _ _ _ _ _ _ hm6 hS6 hN6 hT2 hchk6 hNs6 hsn2 hV6 (Sp.dv_parts.1 (Sp.back_valid hd2)).2.2.1 H.lent5 ) ?_
 rintro _ w9 ⟨G9, _, _, rfl, H9', ⟨u19, u29, u39, D19, D29, D39, rfl, rfl, ho19, ho29, ho39⟩⟩
 have H := H.borrow5 H9'
 obtain ⟨x19, p19⟩ := ho19
 obtain ⟨a19, c19, rfl⟩ := OwnS.shape p19
 obtain ⟨x29, p29⟩ := ho29
 obtain ⟨a29, c29, rfl⟩ := OwnS.shape p29
 obtain ⟨x39, p39⟩ := ho39
 obtain ⟨a39, c39, rfl⟩ := OwnS.shape p39
 refine ⟨_, Z, ?_⟩
 refine o_store_B 3 H sizeOf32 Z Z Z Z Z Z Z Z ?_; intro w10 H
 refine aG Z (q3 (W_ret (ret_gen (rs := [.cell 4 32, .tmp 5]) (vs := [_, _]) results59 ⟨⟨_, Z, load_blk 3 H isAgg32 sizeOf32 Z Z Z⟩, Z, trivial⟩ ?_)))
 have H := H.del (k := 3) rfl
 have H := H.del (k := 3) rfl
 have H := H.toFront (k := 2) rfl
 have H := H.toFront (k := 2) rfl
 have H := H.toFront (k := 2) rfl
 have H := H.forget hG (by simp)
 refine ⟨_, _, Z, H, .slice a19 d2.store.length c19, .slice a29 d2.tree.length c29, .slice a39 d2.snaps.length c39, D19, D29, D39, ?_, Z, ?_, ?_, ?_⟩
 ·(rw [hd2]; rfl)
 ·(rw [hd2]; exact ⟨_, p19⟩)
 ·(rw [hd2]; exact ⟨_, p29⟩)
 (rw [hd2]; exact ⟨_, p39⟩)
theorem i_changed_sdrop_c (w0 : World) (G0 : PH) (hG : PSub G0 w0) (cd : List Value) (d : BDisk) (hd : diskE G0 d cd) (cp : Nat) (name : Bs) (hname : name.length ≤ 16777216) (hcp : PRow G0 cp 0 [str name])  :
  Calls Tryz.prog 59 #[.agg cd.toArray, .func (.func 60) #[] #[.pointer (some ⟨cp, 0, none⟩)]] w0 (RetN w0 G0 (fun v Bs => ∃ (v1 v2 v3 : Value) (F1 F2 F3 : Fr), v = .tuple #[.agg #[v1, v2, v3], .bool (Sp.SnapDrop d name).isSome] ∧ Bs = [frag F1, frag F2, frag F3] ∧ OHs F1 v1 ((Sp.SnapDrop d name).getD ⟨[], [], []⟩).store ∧ OIs F2 v2 ((Sp.SnapDrop d name).getD ⟨[], [], []⟩).tree ∧ OSn F3 v3 ((Sp.SnapDrop d name).getD ⟨[], [], []⟩).snaps)) := by
 obtain ⟨a1, m1, c1, a1', m1', c1', a1'', m1'', c1'', rfl, hr1, hr1', hr1''⟩ := hd; have hn_hr1 := hr1.len; have hx_hr1 : _ ≤ 1099511627776 := hr1.lim; have hn_hr1q := hr1'.len; have hx_hr1q : _ ≤ 1099511627776 := hr1'.lim; have hn_hr1qq := hr1''.len; have hx_hr1qq : _ ≤ 1099511627776 := hr1''.lim
 have H := Hp.init hG
 refine calls_of_W (l := [_, .func (.func 60) #[] #[.pointer (some ⟨cp, 0, none⟩)]]) func59 Z ntmps59 Z (q2 (o_box H Z Z Z ?_)); intro b2 w2 hb2 H
 refine o_alloc H zeroValue32 Z Z ?_; intro b3 w3 hb3 H
 refine aG Z (q1 (o_loadagg_B 1 H isAgg32 sizeOf32 Z Z Z Z Z (o_call call89 Z Z (i_newDisk_c _ _ H.sub _ d ⟨_, _, _, _, _, _, _, _, _, Z, hr1, hr1', hr1''⟩ H.lent0 ) ?_)))
 rintro _ w4 ⟨G4, _, _, rfl, H4', ⟨rfl, rfl, hnd4⟩ | ⟨db4, mb4, es4, ck4, xs4, T4, F4, sv4, sn4, c4, FS4, rfl, rfl, hm4, hS4, hN4, hT4, hchk4, hNs4, hSn4, hdv4⟩⟩
 ·skip
  have H := H.borrow0 H4'
  refine ⟨_, Z, ?_⟩
  refine mV Z (o_extract Z Z Z (o_extract Z Z Z (aG Z (aG Z (q3 (W_seq (q2 (mV Z (o_not Z Z (mV Z (rP Z (rP Z (rP Z (rP Z (o_pick_t Z Z Z ?_)))))))))))))))
  refine q3 (W_true Z (q2 (o_build bf32 Z Z Z (o_store_B 0 H sizeOf32 Z Z Z Z Z Z Z Z ?_)))); intro w5 H
  refine aG Z (q3 (W_ret (N_K_ret (ret_gen (rs := [.cell 4 32, .tmp 5]) (vs := [_, _]) results59 ⟨⟨_, Z, load_blk 0 H isAgg32 sizeOf32 Z Z Z⟩, Z, trivial⟩ ?_))))
  have H := H.del (k := 0) rfl
  have H := H.del (k := 0) rfl
  have hno : Sp.SnapDrop d name = none := by (cases hh : Sp.SnapDrop d name with | none => rfl | some q => (have hx := Sp.sdrop_isv hh; rw [hnd4] at hx; cases hx))
  have H := (((H.addF).addF).addF).forget hG (by simp)
  refine ⟨_, _, Z, H, .slice none 0 0, .slice none 0 0, .slice none 0 0, [], [], [], ?_, Z, ?_, ?_, ?_⟩
  ·(rw [hno]; rfl)
  ·(rw [hno]; exact oh_nil)
  ·(rw [hno]; exact oi_nil)
  (rw [hno]; exact os_nil)
 skip
 have hcp := hcp.up H4'.le
 have H := H.borrow0 H4'
 obtain ⟨avAd, cvAd, rfl⟩ := H.accShape (k := 3) rfl
 refine ⟨_, Z, ?_⟩
 refine mV Z (o_extract Z Z Z (o_extract Z Z Z (aG Z (aG Z (q3 (W_seq (q2 (mV Z (o_not Z Z (mV Z (gR Z (mV Z (gR Z (mV Z (gR Z ?_)))))))))))))))
 have H := H.toFront (k := 4) rfl
 have H := H.toFront (k := 4) rfl
 have H := H.toFront (k := 4) rfl
 have H := H.toFront (k := 4) rfl
 have H := H.toFront (k := 4) rfl
 refine o_callc call60 Z Z Z (i_SnapDrop1_c _ _ H.sub _ _ _ _ _ _ _ _ _ _ _ _ hm4 hS4 hN4 hT4 hchk4 hNs4 hSn4 hdv4 _ _ hname hcp H.lent5 ) ?_
 rintro _ w6 ⟨G6, _, _, rfl, H6', ⟨es6, ck6, xs6, F6, T6, sv6, sn6, c6, FS6, L6, rfl, rfl, hm6, hS6, hV6, hN6, hchk6, hNs6, hd6⟩⟩
 have H := H.borrow5 H6'
 obtain ⟨avAd, cvAd, rfl⟩ := H.accShape (k := 3) rfl
 refine ⟨_, Z, ?_⟩
 refine gR Z (o_not Z Z (o_pick_f Z Z Z (q3 ?_)))
 refine W_cond Z ?_ ?_
 ·intro hc7
  try simp only [nrm] at hc7
  refine q2 (o_build bf32 Z Z Z (o_store_B 5 H sizeOf32 Z Z Z Z Z Z Z Z ?_)); intro w8 H
  refine aG Z (q3 (W_ret (N_K_ret (ret_gen (rs := [.cell 4 32, .tmp 5]) (vs := [_, _]) results59 ⟨⟨_, Z, load_blk 5 H isAgg32 sizeOf32 Z Z Z⟩, Z, trivial⟩ ?_))))
  have H := H.del (k := 0) rfl
  have H := H.del (k := 0) rfl
  have H := H.del (k := 0) rfl
  have H := H.del (k := 0) rfl
  have H := H.del (k := 0) rfl
  have H := H.del (k := 0) rfl
  have H := H.del (k := 0) rfl
  have hno : Sp.SnapDrop d name = none := by simpa using hc7
  have H := (((H.addF).addF).addF).forget hG (by simp)
  refine ⟨_, _, Z, H, .slice none 0 0, .slice none 0 0, .slice none 0 0, [], [], [], ?_, Z, ?_, ?_, ?_⟩
  ·(rw [hno]; rfl)
  ·(rw [hno]; exact oh_nil)
  ·(rw [hno]; exact oi_nil)
  (rw [hno]; exact os_nil)
 intro hc7'
 try simp only [nrm] at hc7'
 obtain ⟨d2, hd2⟩ := Option.isSome_iff_exists.1 (show (Sp.SnapDrop d name).isSome = true by simpa using hc7')
 obtain ⟨hL2, hT2, hsn2⟩ := hd6 d2 hd2; subst hL2
 refine W_skip (N_K (q2 (mV Z ?_)))
 have H := H.toFront (k := 4) rfl
 have H := H.toFront (k := 4) rfl
 have H := H.toFront (k := 4) rfl
 have H := H.toFront (k := 4) rfl
 have H := H.toFront (k := 4) rfl
 refine o_call call114 Z Z (i_disk_c _ _ H.sub _ _ _ _ _ _ _ _ _ _ _ _ hm6 hS6 hN6 hT2 hchk6 hNs6 hsn2 hV6 (Sp.dv_parts.1 (Sp.sdrop_valid hd2)).2.2.1 H.lent5 ) ?_
 rintro _ w9 ⟨G9, _, _, rfl, H9', ⟨u19, u29, u39, D19, D29, D39, rfl, rfl, ho19, ho29, ho39⟩⟩
 have H := H.borrow5 H9'
 obtain ⟨x19, p19⟩ := ho19
 obtain ⟨a19, c19, rfl⟩ := OwnS.shape p19
 obtain ⟨x29, p29⟩ := ho29
 obtain ⟨a29, c29, rfl⟩ := OwnS.shape p29
 obtain ⟨x39, p39⟩ := ho39
 obtain ⟨a39, c39, rfl⟩ := OwnS.shape p39
 refine ⟨_, Z, ?_⟩
 refine o_store_B 3 H sizeOf32 Z Z Z Z Z Z Z Z ?_; intro w10 H
 refine aG Z (q3 (W_ret (ret_gen (rs := [.cell 4 32, .tmp 5]) (vs := [_, _]) results59 ⟨⟨_, Z, load_blk 3 H isAgg32 sizeOf32 Z Z Z⟩, Z, trivial⟩ ?_)))
 have H := H.del (k := 3) rfl
 have H := H.del (k := 3) rfl
 have H := H.toFront (k := 2) rfl
 have H := H.toFront (k := 2) rfl
 have H := H.toFront (k := 2) rfl
 have H := H.forget hG (by simp)
 refine ⟨_, _, Z, H, .slice a19 d2.store.length c19, .slice a29 d2.tree.length c29, .slice a39 d2.snaps.length c39, D19, D29, D39, ?_, Z, ?_, ?_, ?_⟩
 ·(rw [hd2]; rfl)
 ·(rw [hd2]; exact ⟨_, p19⟩)
 ·(rw [hd2]; exact ⟨_, p29⟩)
 (rw [hd2]; exact ⟨_, p39⟩)
end Go.Proofs.Tst

namespace Go.Proofs.Tst
open Go Fw Tryz
theorem i_SnapBack_c (w0 : World) (G0 : PH) (hG : PSub G0 w0) (cd : List Value) (d : BDisk) (hd : diskE G0 d cd) (name : Bs) (hname : name.length ≤ 16777216)  :
  Calls Tryz.prog 40 #[.agg cd.toArray, str name] w0 (RetN w0 G0 (fun v Bs => ∃ (v1 v2 v3 : Value) (F1 F2 F3 : Fr), v = .tuple #[.agg #[v1, v2, v3], .bool (Sp.SnapBack d name).isSome] ∧ Bs = [frag F1, frag F2, frag F3] ∧ OHs F1 v1 ((Sp.SnapBack d name).getD ⟨[], [], []⟩).store ∧ OIs F2 v2 ((Sp.SnapBack d name).getD ⟨[], [], []⟩).tree ∧ OSn F3 v3 ((Sp.SnapBack d name).getD ⟨[], [], []⟩).snaps)) := by
 obtain ⟨a1, m1, c1, a1', m1', c1', a1'', m1'', c1'', rfl, hr1, hr1', hr1''⟩ := hd; have hn_hr1 := hr1.len; have hx_hr1 : _ ≤ 1099511627776 := hr1.lim; have hn_hr1q := hr1'.len; have hx_hr1q : _ ≤ 1099511627776 := hr1'.lim; have hn_hr1qq := hr1''.len; have hx_hr1qq : _ ≤ 1099511627776 := hr1''.lim
 have H := Hp.init hG
 refine calls_of_W (l := [_, str name]) func40 Z ntmps40 Z (q2 (o_box H Z Z Z ?_)); intro b2 w2 hb2 H
 refine o_box H Z Z Z ?_; intro b3 w3 hb3 H
 refine o_alloc H zeroValue32 Z Z ?_; intro b4 w4 hb4 H
 refine aG Z (q1 (o_loadagg_B 2 H isAgg32 sizeOf32 Z Z Z Z Z (o_makefn1 Z Z (o_call call59 Z Z (i_changed_back_c _ _ (H.lendSubL [1]) _ d ⟨_, _, _, _, _, _, _, _, _, Z, (hr1.up (PPlus.le _ _ _)), (hr1'.up (PPlus.le _ _ _)), (hr1''.up (PPlus.le _ _ _))⟩ _ _ hname (prow_blk (H.lendPredL (k := 1) (ks := [1]) Z Z)) ) ?_))))
 rintro _ w5 ⟨_, _, rfl, H5', ⟨u15, u25, u35, E15, E25, E35, rfl, rfl, ho15, ho25, ho35⟩⟩
 have H := H.readersL H5'
 obtain ⟨x15, p15⟩ := ho15
 obtain ⟨a15, c15, rfl⟩ := OwnS.shape p15
 obtain ⟨x25, p25⟩ := ho25
 obtain ⟨a25, c25, rfl⟩ := OwnS.shape p25
 obtain ⟨x35, p35⟩ := ho35
 obtain ⟨a35, c35, rfl⟩ := OwnS.shape p35
 refine ⟨_, Z, ?_⟩
 refine o_extract Z Z Z (o_extract Z Z Z (o_store_B 3 H sizeOf32 Z Z Z Z Z Z Z Z ?_)); intro w6 H
 refine aG Z (q3 (W_ret (ret_gen (rs := [.cell 4 32, .tmp 5]) (vs := [_, _]) results40 ⟨⟨_, Z, load_blk 3 H isAgg32 sizeOf32 Z Z Z⟩, Z, trivial⟩ ?_)))
 have H := H.del (k := 3) rfl
 have H := H.del (k := 3) rfl
 have H := H.del (k := 3) rfl
 have H := H.toFront (k := 2) rfl
 have H := H.toFront (k := 2) rfl
 have H := H.toFront (k := 2) rfl
 exact ⟨_, _, Z, H, .slice a15 ((Sp.SnapBack d name).getD ⟨[], [], []⟩).store.length c15, .slice a25 ((Sp.SnapBack d name).getD ⟨[], [], []⟩).tree.length c25, .slice a35 ((Sp.SnapBack d name).getD ⟨[], [], []⟩).snaps.length c35, E15, E25, E35, Z, Z, ⟨_, p15⟩, ⟨_, p25⟩, ⟨_, p35⟩⟩
theorem i_SnapDrop_c (w0 : World) (G0 : PH) (hG : PSub G0 w0) (cd : List Value) (d : BDisk) (hd : diskE G0 d cd) (name : Bs) (hname : name.length ≤ 16777216)  :
  Calls Tryz.prog 18 #[.agg cd.toArray, str name] w0 (RetN w0 G0 (fun v Bs => ∃ (v1 v2 v3 : Value) (F1 F2 F3 : Fr), v = .tuple #[.agg #[v1, v2, v3], .bool (Sp.SnapDrop d name).isSome] ∧ Bs = [frag F1, frag F2, frag F3] ∧ OHs F1 v1 ((Sp.SnapDrop d name).getD ⟨[], [], []⟩).store ∧ OIs F2 v2 ((Sp.SnapDrop d name).getD ⟨[], [], []⟩).tree ∧ OSn F3 v3 ((Sp.SnapDrop d name).getD ⟨[], [], []⟩).snaps)) := by
 obtain ⟨a1, m1, c1, a1', m1', c1', a1'', m1'', c1'', rfl, hr1, hr1', hr1''⟩ := hd; have hn_hr1 := hr1.len; have hx_hr1 : _ ≤ 1099511627776 := hr1.lim; have hn_hr1q := hr1'.len; have hx_hr1q : _ ≤ 1099511627776 := hr1'.lim; have hn_hr1qq := hr1''.len; have hx_hr1qq : _ ≤ 1099511627776 := hr1''.lim
 have H := Hp.init hG
 refine calls_of_W (l := [_, str name]) func18 Z ntmps18 Z (q2 (o_box H Z Z Z ?_)); intro b2 w2 hb2 H
 refine o_box H Z Z Z ?_; intro b3 w3 hb3 H
 refine o_alloc H zeroValue32 Z Z ?_; intro b4 w4 hb4 H
 refine aG Z (q1 (o_loadagg_B 2 H isAgg32 sizeOf32 Z Z Z Z Z (o_makefn1 Z Z (o_call call59 Z Z (i_changed_sdrop_c _ _ (H.lendSubL [1]) _ d ⟨_, _, _, _, _, _, _, _, _, Z, (hr1.up (PPlus.le _ _ _)), (hr1'.up (PPlus.le _ _ _)), (hr1''.up (PPlus.le _ _ _))⟩ _ _ hname (prow_blk (H.lendPredL (k := 1) (ks := [1]) Z Z)) ) ?_))))
 rintro _ w5 ⟨_, _, rfl, H5', ⟨u15, u25, u35, E15, E25, E35, rfl, rfl, ho15, ho25, ho35⟩⟩
 have H := H.readersL H5'
 obtain ⟨x15, p15⟩ := ho15
 obtain ⟨a15, c15, rfl⟩ := OwnS.shape p15
 obtain ⟨x25, p25⟩ := ho25
 obtain ⟨a25, c25, rfl⟩ := OwnS.shape p25
 obtain ⟨x35, p35⟩ := ho35
 obtain ⟨a35, c35, rfl⟩ := OwnS.shape p35
 refine ⟨_, Z, ?_⟩
 refine o_extract Z Z Z (o_extract Z Z Z (o_store_B 3 H sizeOf32 Z Z Z Z Z Z Z Z ?_)); intro w6 H
 refine aG Z (q3 (W_ret (ret_gen (rs := [.cell 4 32, .tmp 5]) (vs := [_, _]) results18 ⟨⟨_, Z, load_blk 3 H isAgg32 sizeOf32 Z Z Z⟩, Z, trivial⟩ ?_)))
 have H := H.del (k := 3) rfl
 have H := H.del (k := 3) rfl
 have H := H.del (k := 3) rfl
 have H := H.toFront (k := 2) rfl
 have H := H.toFront (k := 2) rfl
 have H := H.toFront (k := 2) rfl
 exact ⟨_, _, Z, H, .slice a15 ((Sp.SnapDrop d name).getD ⟨[], [], []⟩).store.length c15, .slice a25 ((Sp.SnapDrop d name).getD ⟨[], [], []⟩).tree.length c25, .slice a35 ((Sp.SnapDrop d name).getD ⟨[], [], []⟩).snaps.length c35, E15, E25, E35, Z, Z, ⟨_, p15⟩, ⟨_, p25⟩, ⟨_, p35⟩⟩
end Go.Proofs.Tst

