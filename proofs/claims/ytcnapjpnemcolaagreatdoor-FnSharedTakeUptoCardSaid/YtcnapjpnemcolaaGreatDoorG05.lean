/- Part 5 of the proof: contracts of functions of the program. Conditions: none. -/
import Derived.Test.YtcnapjpnemcolaaGreatDoorProg
import Derived.Test.YtcnapjpnemcolaaGreatDoorG02
import Derived.Test.YtcnapjpnemcolaaGreatDoorG03
import Derived.Test.YtcnapjpnemcolaaGreatDoorG04
import Derived.Conc.MuLone
import Derived.KernelRfl
set_option linter.all false
set_option maxRecDepth 100000
set_option maxHeartbeats 1000000
namespace Go.Proofs.Tst
open Go Fw Tryz
theorem i_usedBy_c (w0 : World) (G0 : PH) (hG : PSub G0 w0) (mbs : Nat) (ess : Array MapEntry) (cks : Nat) (xss : List (Int × Value)) (Ls : List BHeld) (hbs : MapAt G0 mbs ess cks) (hms : MapIs (Value.int .i64) ess cks xss) (hSs : StR G0 xss Ls) (hVs : Sp.VH Ls) (vtrees : Value) (trees : List (Nd)) (htrees : RdNd G0 vtrees trees) (htl : trees.length ≤ 7) (htw : ∀ t, t ∈ trees → t.wf ∧ t.cnt ≤ 12) :
  Calls Tryz.prog 94 #[.map (some mbs), vtrees] w0 (Rets w0 (.bool (trees.all (fun t => (t.flat []).all (fun x => Sp.l4Ids Ls x.ids)) && Ls.all (fun h => decide ((Sp.cntT trees h.id : Int) = h.uses))))) := by
 obtain ⟨atrees, ktrees, rfl⟩ := htrees.shape
 have hlimtrees : trees.length ≤ 1099511627776 := htrees.lim
 have H := Hp.init hG
 refine calls_of_W (l := [.map (some mbs), .slice atrees trees.length ktrees]) func94 Z ntmps94 Z (q2 (aG Z (q1 (o_makeMap H Z ?_)))); intro b1 w1 hb1 H
 have hm1 := MapIs.empty (key := Value.int .i64) 0
 have hS1 := UsR.nil
 refine aG Z (q3 (W_seq (q2 (mV Z (o_len_slice underlying140 Z Z (mV Z (q3 (W_block ?_))))))))
 refine W_lp (hf := (Sub.cons (t := 0) Z (Sub.cons (t := 5) Z (Sub.cons (t := 15) Z (Sub.cons (t := 16) Z Sub.nil))))) (J := fun M w m => ∃ (esm0 : Array MapEntry) (ckm0 : Nat) (xsm0 : List (Int × Value)) (fm0 : Int → Nat) (i : Nat) (G : PH), M = [(17, .int .i64 (i : Int))] ∧ PLe G0 G ∧ Hp w0 G0 [] w G [blk b1 (.map esm0 ckm0)] ∧ (MapIs (Value.int .i64) esm0 ckm0 xsm0 ∧ UsR xsm0 fm0 ∧ i ≤ trees.length ∧ (∀ a, fm0 a = Sp.cntT (trees.take i) a ∧ fm0 a ≤ 48 * i) ∧ (trees.take i).all (fun t => (t.flat []).all (fun x => Sp.l4Ids Ls x.ids)) = true) ∧ m = (trees.length - i)) (h0 := ⟨_, _, [], (fun _ => 0), 0, _, Z, PLe.refl _, H, ?inv, Z⟩) (round := ?round)
 case inv => exact ⟨hm1, hS1, (by simp [Sp.cntT])⟩
 case round =>
  rintro _ w2 _ ⟨esm0, ckm0, xsm0, fm0, i, G2, rfl, hle2, H, hinv2, rfl⟩
  have hSs := hSs.up hle2
  have hbs := hbs.up hle2
  have htrees := htrees.up hle2
  obtain ⟨hm2_m0, hS2_m0, hinv2⟩ := hinv2
  obtain ⟨hi, hf, hok⟩ := hinv2
  refine q2 (o_lss Z Z Z (q3 (W_seq ?_)))
  refine W_cond Z ?_ ?_
  ·intro hc3
   try simp only [nrm] at hc3
   refine W_skip (N_K (W_seq (W_block (q2 (o_index_P i htrees underlying140 sizeOf65 Z Z Z Z aN ?_))))); intro b4 o4 z4 q4 hz4 hE4 hrow4
   obtain ⟨rfl, hnd4⟩ := hE4; obtain ⟨hnl4, na4, nm4, nc4, nA4, nM4, nC4, hpr4, hri4, hrk4⟩ := hnd4.open; have hn_hri4 := hri4.len; have hx_hri4 : _ ≤ 1099511627776 := hri4.lim; have hn_hrk4 := hrk4.len; have hx_hrk4 : _ ≤ 1099511627776 := hrk4.lim
   try (have hzw := htw z4 (List.mem_of_getElem? hz4); have hzf := Nd.flat_len [] z4)
   refine o_load_P H isAgg65 Z Z (hrow4 0 _ Z) (aG Z (q1 (mV Z (o_call call49 Z Z (i_tlist_c _ _ H.sub _ hnd4 hzw.1 oM) ?_))))
   rintro _ w5 ⟨_, _, rfl, H5', ⟨F5, rfl, hO5⟩⟩
   have H := H.readers (fp := []) (by simp) (PLe.refl _) H5'
   obtain ⟨e25, hP5⟩ := hO5
   obtain ⟨sa5, sc5, rfl⟩ := OwnS.shape hP5
   have hO5 := OIs.mk hP5
   refine ⟨_, Z, ?_⟩
   have hdm1 := dm_nodup H (k := 0) rfl; obtain ⟨Gk1, H, hkl1, hks1⟩ := H.keepF (k := 0) rfl (fun b _ hb => by simp at hb)
   have hrk1 := hO5.rd hks1 hdm1
   have hSs := hSs.up hkl1
   have hbs := hbs.up hkl1
   have hle2 := hle2.trans hkl1
   have hn_hrk1 := hrk1.len
   refine o_len_slice underlying24 Z Z (mV Z (q3 (W_block ?_)))
   refine W_lp (hf := (Sub.cons (t := 0) Z (Sub.cons (t := 5) Z (Sub.cons (t := 15) Z (Sub.cons (t := 16) Z (Sub.cons (t := 17) Z (Sub.cons (t := 22) Z (Sub.cons (t := 23) Z Sub.nil)))))))) (J := fun M w m => ∃ (esm0 : Array MapEntry) (ckm0 : Nat) (xsm0 : List (Int × Value)) (fm0 : Int → Nat) (jj : Nat) (G : PH), M = [(24, .int .i64 (jj : Int))] ∧ PLe Gk1 G ∧ Hp w0 G0 [] w G [blk b1 (.map esm0 ckm0)] ∧ (MapIs (Value.int .i64) esm0 ckm0 xsm0 ∧ UsR xsm0 fm0 ∧ jj ≤ (z4.flat []).length ∧ (∀ a, fm0 a = Sp.cntT (trees.take i) a + Sp.cntU (z4.flat []) a jj ∧ fm0 a ≤ 48 * i + 4 * jj) ∧ ((z4.flat []).take jj).all (fun x => Sp.l4Ids Ls x.ids) = true) ∧ m = ((z4.flat []).length - jj)) (h0 := ⟨_, _, xsm0, fm0, 0, _, Z, PLe.refl _, H, ?inv, Z⟩) (round := ?round)
   case inv => exact ⟨hm2_m0, hS2_m0, (by exact ⟨by omega, fun a => (by have := hf a; simp [Sp.cntU]; omega), by simp⟩)⟩
   case round =>
    rintro _ w6 _ ⟨esm0, ckm0, xsm0, fm0, jj, G6, rfl, hle6, H, hinv6, rfl⟩
    have hSs := hSs.up hle6
    have hbs := hbs.up hle6
    have hrk1 := hrk1.up hle6
    have hle2 := hle2.trans hle6
    obtain ⟨hm6_m0, hS6_m0, hinv6⟩ := hinv6
    obtain ⟨hjl, hf2, hok2⟩ := hinv6
    refine q2 (o_lss Z Z Z (q3 (W_seq ?_)))
    refine W_cond Z ?_ ?_
    ·intro hc7
     try simp only [nrm] at hc7
     refine W_skip (N_K (W_seq (W_block (q2 (o_index_P jj hrk1 underlying24 sizeOf40 Z Z Z Z aN ?_))))); intro b8 o8 z8 q8 hz8 hE8 hrow8
     obtain ⟨a8, m8, c8, rfl, hi8, hr8⟩ := hE8; have hy_hi8 : _ ≤ 16777216 := hi8; have hn_hr8 := hr8.len; have hx_hr8 : _ ≤ 1099511627776 := hr8.lim
     try (have hzw := htw z8 (List.mem_of_getElem? hz8); have hzf := Nd.flat_len [] z8)
     refine o_loadagg_P H isAgg40 sizeOf40 Z Z hrow8 Z (o_alloc H zeroValue40 Z Z ?_); intro b9 w9 hb9 H
     refine o_store_B 0 H sizeOf40 Z Z Z Z Z Z Z Z ?_; intro w10 H
     refine q3 (W_seq (q2 (mV Z (o_fieldAddr 2 runUnderlying40 Z sizeOf38 Z Z Z (o_load_B 0 H isAgg38 Z Z Z Z (o_call call122 Z Z (i_fileIds_c _ _ H.sub _ _ _ _ _ hbs hms hSs hVs _ _ hr8 ) ?_))))))
     rintro _ w11 ⟨rfl, ew11⟩; have H := H.step ew11; refine ⟨_, rfl, ?_⟩
     refine o_not Z Z (q3 ?_)
     refine W_cond Z ?_ ?_
     ·intro hc12
      try simp only [nrm] at hc12
      refine q2 (aG Z (q3 (W_ret (N_K_ret (N_B_ret (N_K_ret (N_LP_ret (N_B_ret (N_B_ret (N_K_ret (N_LP_ret (N_B_ret (N_K_ret (rt1 results94 Z ?_))))))))))))))
      exact H.rets (congrArg Value.bool (by rw [Sp.all_false hz4 (Sp.all_false hz8 (by simpa using hc12)), Bool.false_and]))
     intro hc12'
     try simp only [nrm] at hc12'
     have hio : Sp.l4Ids Ls z8.ids = true := by simpa using hc12'
     have hil := Sp.ids_le hio
     refine W_skip (N_K (q2 (o_fieldAddr 2 runUnderlying40 Z sizeOf38 Z Z Z (o_load_B 0 H isAgg38 Z Z Z Z (o_len_slice underlying38 Z Z (mV Z (q3 (W_block ?_))))))))
     obtain ⟨ln13, hln13, H⟩ := H.name (k := 0) rfl
     refine W_lp (hf := (Sub.cons (t := 0) Z (Sub.cons (t := 5) Z (Sub.cons (t := 15) Z (Sub.cons (t := 16) Z (Sub.cons (t := 17) Z (Sub.cons (t := 22) Z (Sub.cons (t := 23) Z (Sub.cons (t := 24) Z (Sub.cons (t := 34) Z (Sub.cons (t := 35) Z Sub.nil))))))))))) (J := fun M w m => ∃ (esm0 : Array MapEntry) (ckm0 : Nat) (xsm0 : List (Int × Value)) (fm0 : Int → Nat) (kk : Nat) (G : PH), M = [(36, .int .i64 (kk : Int))] ∧ PLe G6 G ∧ Hp w0 G0 [] w G [blk b9 (cl ln13 40), blk b1 (.map esm0 ckm0)] ∧ (MapIs (Value.int .i64) esm0 ckm0 xsm0 ∧ UsR xsm0 fm0 ∧ kk ≤ z8.ids.length ∧ (∀ a, fm0 a = Sp.cntT (trees.take i) a + Sp.cntU (z4.flat []) a jj + Sp.cnt1 a (z8.ids.take kk) ∧ fm0 a ≤ 48 * i + 4 * jj + kk)) ∧ m = (z8.ids.length - kk)) (h0 := ⟨_, _, xsm0, fm0, 0, _, Z, PLe.refl _, H, ?inv, Z⟩) (round := ?round)
     case inv => exact ⟨hm6_m0, hS6_m0, (by exact ⟨by omega, fun a => (by have := hf2 a; simp [Sp.cnt1]; omega)⟩)⟩
     case round =>
      rintro _ w14 _ ⟨esm0, ckm0, xsm0, fm0, kk, G14, rfl, hle14, H, hinv14, rfl⟩
      subst hln13
      have hr8 := hr8.up hle14
      have hle6 := hle6.trans hle14
      obtain ⟨hm14_m0, hS14_m0, hinv14⟩ := hinv14
      obtain ⟨hkl, hf3⟩ := hinv14; have hb3 := fun a => (hf3 a).2
      refine q2 (o_lss Z Z Z (q3 (W_seq ?_)))
      refine W_cond Z ?_ ?_
      ·intro hc15
       try simp only [nrm] at hc15
       refine W_skip (N_K (W_seq (W_block (q2 (o_index_P kk hr8 underlying38 sizeOf3 Z Z Z Z aN ?_))))); intro b16 o16 z16 q16 hz16 hE16 hrow16
       obtain ⟨rfl, hi16⟩ := hE16
       refine o_load_P H isAgg3 Z Z (hrow16 0 _ Z) (aG Z (q3 (W_region (mV Z (mV Z (o_lookU (H.at (k := 1) Z) hm14_m0 hS14_m0 underlying92 underlying3 zeroValue3 Z Z Z ?_))))))
       try (have h7 := hb3 z16)
       refine o_add Z Z Z oO (o_updU 1 H (fm0 z16 + 1) Z hm14_m0 hS14_m0 underlying92 underlying3 Z Z Z oM ?_); intro es19 ck19 xs19 w19 H hm19 hS19
       refine R_nil (N_B (N_K (W_region (o_add Z Z Z oO (mV Z (R_nil ?_))))))
       refine N_lp (hJ := ⟨_, _, xs19, (fun a => if a = z16 then (fm0 z16 + 1) else fm0 a), kk + 1, _, Z, hle14, H, ?inv, Z⟩) (hm := ?hm)
       case hm => omega
       case inv => exact ⟨hm19, hS19, (by exact ⟨by omega, fun a => (by have h9 := hf3 a; have h7 := hf3 z16; (rw [Sp.cnt1_succ hz16]); by_cases e : a = z16; (· subst e; simp; omega); (· have e2 : ¬ z16 = a := fun h => e h.symm; simp only [e, e2, if_false]; omega))⟩)⟩
      intro hc15'
      try simp only [nrm] at hc15'
      refine W_exit (N_K_exit (N_LP_exit (N_B_same (N_B (N_K (W_region (o_add Z Z Z oO (mV Z (R_nil ?_)))))))))
      have H := H.del (k := 0) rfl
      refine N_lp (hJ := ⟨_, _, xsm0, fm0, jj + 1, _, Z, hle6, H, ?inv, Z⟩) (hm := ?hm)
      case hm => omega
      case inv => exact ⟨hm14_m0, hS14_m0, (by exact ⟨by omega, fun a => (by have h9 := hf3 a; (rw [Sp.cntU_succ hz8]); (rw [List.take_of_length_le (l := z8.ids) oM] at h9); omega), Sp.all_take hok2 hz8 hio⟩)⟩
    intro hc7'
    try simp only [nrm] at hc7'
    refine W_exit (N_K_exit (N_LP_exit (N_B_same (N_B (N_K (W_region (o_add Z Z Z oO (mV Z (R_nil ?_)))))))))
    refine N_lp (hJ := ⟨_, _, xsm0, fm0, i + 1, _, Z, hle2, H, ?inv, Z⟩) (hm := ?hm)
    case hm => omega
    case inv => exact ⟨hm6_m0, hS6_m0, (by exact ⟨by omega, fun a => (by have h9 := hf2 a; have h10 := Sp.cntT_succ (id := a) hz4; have h8 : (z4.flat []).length = jj := oM; (rw [h8] at h10); omega), Sp.all_take hok hz4 (by (rw [List.take_of_length_le (l := z4.flat []) oM] at hok2); exact hok2)⟩)⟩
  intro hc3'
  try simp only [nrm] at hc3'
  refine W_exit (N_K_exit (N_LP_exit (N_B_same (N_K (W_seq (q2 (mV Z ?_)))))))
  have hmb23 := (hbs.at H.sub); refine o_range H hmb23 underlying64 rfl rfl ?_; intro r23 w23 hr23 H _; have hne23 : r23 ≠ mbs := fun e => by have := (Array.getElem?_eq_some_iff.1 hmb23).1; omega
  refine q3 (W_block ?_)
  refine W_lp (hf := (Sub.cons (t := 5) Z (Sub.cons (t := 48) Z Sub.nil))) (J := fun M w m => ∃  (sn : Array Nat) (G : PH), M = [] ∧ PLe G2 G ∧ Hp w0 G0 [] w G [blk r23 (.mapIter (some mbs) cks sn cks), blk b1 (.map esm0 ckm0)] ∧ (∀ y, y ∈ Ls → seenH ess sn y → (Sp.cntT trees y.id : Int) = y.uses) ∧ m = ((leftOf ess sn).size)) (h0 := ⟨#[], _, Z, PLe.refl _, H, ?inv, Z⟩) (round := ?round)
  case inv => rintro y hy ⟨e, _, _, he⟩; simp at he
  case round =>
   rintro _ w24 _ ⟨sn, G24, rfl, hle24, H, hinv24, rfl⟩
   have hSs := hSs.up hle24
   have hbs := hbs.up hle24
   have hsn := hinv24
   refine q2 ?_
   refine o_next 0 H (hbs.at H.sub) hms hSs Z hne23 Z Z ?_ ?_
   ·intro hall25
    refine o_extract Z Z Z (q3 (W_seq (W_false Z (W_exit (N_K_exit (N_LP_exit (N_B_same (N_K (q2 (aG Z (q3 (W_ret (rt1 results94 Z ?_)))))))))))))
    have hot := hok; rw [List.take_of_length_le oM] at hot
    exact H.rets (congrArg Value.bool (by (rw [hot, Bool.true_and]); symm; (rw [List.all_eq_true]); intro y hy; simp only [decide_eq_true_eq]; exact hsn y hy (hall25 y hy)))
   intro e25 y25 q25 w25 he25 hk25 hv25 hy25 hE25 _ hless25 H
   obtain ⟨a25, m25, c25, rfl, hi25, hr25, hj25⟩ := hE25; have hn_hr25 := hr25.len; have hx_hr25 : _ ≤ 1099511627776 := hr25.lim
   refine o_extract Z Z Z (q3 (W_seq (W_true Z (W_skip (N_K (W_block (q2 (o_entry 0 H (hbs.at H.sub) hms Z he25 hk25 hv25 Z Z (o_extract Z Z Z (o_extract Z Z Z (o_alloc H zeroValue42 Z Z ?_))))))))))); intro b26 w26 hb26 H
   refine aG Z (o_store_B 0 H sizeOf42 Z Z Z Z Z Z Z Z ?_); intro w27 H
   refine q1 (mV Z (mV Z (o_lookU (H.at (k := 2) Z) hm2_m0 hS2_m0 underlying92 underlying3 zeroValue3 Z Z Z (o_fieldAddr 2 runUnderlying42 Z sizeOf3 Z Z Z (o_load_B 0 H isAgg3 Z Z Z Z (o_neq Z Z Z (q3 ?_)))))))
   refine W_cond Z ?_ ?_
   ·intro hc29
    try simp only [nrm] at hc29
    refine q2 (aG Z (q3 (W_ret (N_B_ret (N_LP_ret (N_B_ret (N_K_ret (rt1 results94 Z ?_))))))))
    have hft : ∀ a, fm0 a = Sp.cntT trees a := fun a => (by have h9 := (hf a).1; (rw [List.take_of_length_le oM] at h9); exact h9)
    have hot := hok; rw [List.take_of_length_le oM] at hot
    exact H.rets (congrArg Value.bool (by (rw [hot, Bool.true_and]); symm; (rw [List.all_eq_false]); exact ⟨_, hy25, by simp only [decide_eq_true_eq]; (rw [← hft]); first | exact hc29 | (simpa using hc29) | omega⟩))
   intro hc29'
   try simp only [nrm] at hc29'
   refine W_skip (N_B ?_)
   have H := H.del (k := 0) rfl
   refine N_lp (hJ := ⟨_, _, Z, hle24, H, ?inv, Z⟩) (hm := ?hm)
   case hm => exact hless25
   case inv => intro y hy hs; rcases seenH_push hms (hSs.nd hms) he25 hk25 hy25 hy hs with rfl | h; (· (have h9 := (hf y.id).1; (rw [List.take_of_length_le oM] at h9); (rw [← h9]); first | exact hc29' | (simpa using hc29') | omega)); exact hsn y hy h
end Go.Proofs.Tst

namespace Go.Proofs.Tst
open Go Fw Tryz
theorem i_StoreValid_c (w0 : World) (G0 : PH) (hG : PSub G0 w0) (vlist : Value) (list : List (BHeld)) (hlist : RdH G0 vlist list)  :
  Calls Tryz.prog 150 #[vlist] w0 (Rets w0 (.bool (Sp.StoreValid list))) := by
 obtain ⟨alist, klist, rfl⟩ := hlist.shape
 have hlimlist : list.length ≤ 1099511627776 := hlist.lim
 have H := Hp.init hG
 refine calls_of_W (l := [.slice alist list.length klist]) func150 Z ntmps150 Z (q2 (aG Z (q3 (W_seq (q2 (mV Z (o_len_slice underlying23 Z Z (o_gtr Z Z Z (q3 ?_)))))))))
 refine W_cond Z ?_ ?_
 ·intro hc1
  try simp only [nrm] at hc1
  refine q2 (aG Z (q3 (W_ret (N_K_ret (rt1 results150 Z ?_)))))
  exact H.rets (congrArg Value.bool (by rw [Sp.sv_long oM]))
 intro hc1'
 try simp only [nrm] at hc1'
 refine W_skip (N_K (q2 (aG Z (q3 (W_seq (q2 (mV Z (o_len_slice underlying23 Z Z (mV Z (q3 (W_block ?_)))))))))))
 refine W_lp (hf := (Sub.cons (t := 0) Z (Sub.cons (t := 11) Z (Sub.cons (t := 12) Z Sub.nil)))) (J := fun M w m => ∃ (k : Nat) (la : Int) (G : PH), M = [(13, .int .i64 (k : Int)), (3, .int .i64 la)] ∧ PLe G0 G ∧ Hp w0 G0 [] w G [] ∧ (k ≤ list.length ∧ la = Sp.lastId list k ∧ (∀ j, j < k → Sp.okH list j = true) ∧ inI la) ∧ m = (list.length - k)) (h0 := ⟨0, 0, _, Z, PLe.refl _, H, ?inv, Z⟩) (round := ?round)
 case inv => exact ⟨by omega, rfl, fun j hj => by omega, by decide⟩
 case round =>
  rintro _ w2 _ ⟨k, la, G2, rfl, hle2, H, hinv2, rfl⟩
  have hlist := hlist.up hle2
  obtain ⟨hk, hla, hall, hlai⟩ := hinv2
  refine q2 (o_lss Z Z Z (q3 (W_seq ?_)))
  refine W_cond Z ?_ ?_
  ·intro hc3
   try simp only [nrm] at hc3
   refine W_skip (N_K (W_seq (W_block (q2 (mV Z (o_index_P k hlist underlying23 sizeOf42 Z Z Z Z aN ?_)))))); intro b4 o4 z4 q4 hz4 hE4 hrow4
   obtain ⟨a4, m4, c4, rfl, hi4, hr4, hj4⟩ := hE4; have hn_hr4 := hr4.len; have hx_hr4 : _ ≤ 1099511627776 := hr4.lim
   refine o_loadagg_P H isAgg42 sizeOf42 Z Z hrow4 Z (o_alloc H zeroValue42 Z Z ?_); intro b5 w5 hb5 H
   refine aG Z (o_store_B 0 H sizeOf42 Z Z Z Z Z Z Z Z ?_); intro w6 H
   refine q3 (W_seq (q2 (o_fieldAddr 0 runUnderlying42 Z sizeOf3 Z Z Z (o_load_B 0 H isAgg3 Z Z Z Z (mV Z (o_leq Z Z Z (mV Z ?_)))))))
   refine R_case (t := 22) Z ?_ ?_
   ·intro hc7
    try simp only [nrm] at hc7
    refine rP Z (rP Z (rP Z (o_pick_t Z Z Z (mV Z (rP Z (rP Z (rP Z (o_pick_t Z Z Z (mV Z (rP Z (rP Z (rP Z (o_pick_t Z Z Z (mV Z (rP Z ?_)))))))))))))))
    refine rP Z (rP Z (rP Z (o_pick_t Z Z Z (q3 (W_true Z (q2 (aG Z (q3 (W_ret (N_K_ret (N_B_ret (N_K_ret (N_LP_ret (N_B_ret (N_K_ret ?_)))))))))))))))
    refine rt1 results150 Z ?_
    exact H.rets (congrArg Value.bool (by rw [Sp.sv_false (k := k) oM (Sp.okH_last hz4 oM)]))
   intro hc7'
   try simp only [nrm] at hc7'
   refine gR Z (o_fieldAddr 0 runUnderlying42 Z sizeOf3 Z Z Z (gR Z (o_load_B 0 H isAgg3 Z Z Z Z (gR Z (o_gtr Z Z Z (o_pick_f Z Z Z (mV Z ?_)))))))
   refine R_case (t := 27) Z ?_ ?_
   ·intro hc8
    try simp only [nrm] at hc8
    refine rP Z (rP Z (rP Z (o_pick_t Z Z Z (mV Z (rP Z (rP Z (rP Z (o_pick_t Z Z Z (mV Z (rP Z (rP Z (rP Z (rP Z (o_pick_t Z Z Z (q3 ?_)))))))))))))))
    refine W_true Z (q2 (aG Z (q3 (W_ret (N_K_ret (N_B_ret (N_K_ret (N_LP_ret (N_B_ret (N_K_ret (rt1 results150 Z ?_)))))))))))
    exact H.rets (congrArg Value.bool (by rw [Sp.sv_false (k := k) oM (Sp.okH_id hz4 oM)]))
   intro hc8'
   try simp only [nrm] at hc8'
   refine gR Z (o_fieldAddr 2 runUnderlying42 Z sizeOf3 Z Z Z (gR Z (o_load_B 0 H isAgg3 Z Z Z Z (gR Z (o_lss Z Z Z (o_pick_f Z Z Z (mV Z ?_)))))))
   refine R_case (t := 32) Z ?_ ?_
   ·intro hc9
    try simp only [nrm] at hc9
    refine rP Z (rP Z (rP Z (o_pick_t Z Z Z (mV Z (rP Z (rP Z (rP Z (rP Z (o_pick_t Z Z Z (q3 (W_true Z (q2 (aG Z (q3 (W_ret ?_)))))))))))))))
    refine N_K_ret (N_B_ret (N_K_ret (N_LP_ret (N_B_ret (N_K_ret (rt1 results150 Z ?_))))))
    exact H.rets (congrArg Value.bool (by rw [Sp.sv_false (k := k) oM (Sp.okH_id hz4 oM)]))
   intro hc9'
   try simp only [nrm] at hc9'
   refine gR Z (o_fieldAddr 2 runUnderlying42 Z sizeOf3 Z Z Z (gR Z (o_load_B 0 H isAgg3 Z Z Z Z (gR Z (o_gtr Z Z Z (o_pick_f Z Z Z (mV Z ?_)))))))
   refine R_case (t := 37) Z ?_ ?_
   ·intro hc10
    try simp only [nrm] at hc10
    refine rP Z (rP Z (rP Z (rP Z (o_pick_t Z Z Z (q3 (W_true Z (q2 (aG Z (q3 (W_ret (N_K_ret (N_B_ret (N_K_ret (N_LP_ret (N_B_ret ?_)))))))))))))))
    refine N_K_ret (rt1 results150 Z ?_)
    exact H.rets (congrArg Value.bool (by rw [Sp.sv_false (k := k) oM (Sp.okH_id hz4 oM)]))
   intro hc10'
   try simp only [nrm] at hc10'
   refine gR Z (o_fieldAddr 1 runUnderlying42 Z sizeOf38 Z Z Z (gR Z (o_load_B 0 H isAgg38 Z Z Z Z (gR Z (o_call call69 Z Z (i_BlockValid_c _ _ H.sub _ _ hr4 ) ?_)))))
   rintro _ w11 ⟨rfl, ew11⟩; have H := H.step ew11; refine ⟨_, rfl, ?_⟩
   refine gR Z (o_not Z Z (o_pick_f Z Z Z (q3 ?_)))
   refine W_cond Z ?_ ?_
   ·intro hc12
    try simp only [nrm] at hc12
    refine q2 (aG Z (q3 (W_ret (N_K_ret (N_B_ret (N_K_ret (N_LP_ret (N_B_ret (N_K_ret (rt1 results150 Z ?_))))))))))
    exact H.rets (congrArg Value.bool (by rw [Sp.sv_false (k := k) oM (Sp.okH_id hz4 (by exact .inr (.inr (.inr (by simpa using hc12)))))]))
   intro hc12'
   try simp only [nrm] at hc12'
   refine W_skip (N_K (W_seq (q2 (mV Z (mV Z ?_)))))
   have hcap13 := hlist.cap; try simp only [List.length_set, List.length_append, List.length_take, List.length_drop, List.length_replicate] at hcap13
   refine o_slice_to (j := k) underlying23 sizeOf42 Z Z Z oM oM ?_
   have hsl13 := hlist.take (j := k) aN
   have hsn1 := hsl13.len
   refine o_len_slice underlying23 Z Z (mV Z (q3 (W_block ?_)))
   obtain ⟨ln14, hln14, H⟩ := H.name (k := 0) rfl
   refine W_lp (hf := (Sub.cons (t := 0) Z (Sub.cons (t := 3) Z (Sub.cons (t := 5) Z (Sub.cons (t := 11) Z (Sub.cons (t := 12) Z (Sub.cons (t := 13) Z (Sub.cons (t := 45) Z (Sub.cons (t := 46) Z Sub.nil))))))))) (J := fun M w m => ∃ (j : Nat) (G : PH), M = [(47, .int .i64 (j : Int))] ∧ PLe G2 G ∧ Hp w0 G0 [] w G [blk b5 (cl ln14 42)] ∧ (j ≤ k ∧ (list.take j).all (fun g => !Sp.l2Same g.bytes z4.bytes) = true) ∧ m = (k - j)) (h0 := ⟨0, _, Z, PLe.refl _, H, ?inv, Z⟩) (round := ?round)
   case inv => exact ⟨by omega, by simp⟩
   case round =>
    rintro _ w15 _ ⟨j, G15, rfl, hle15, H, hinv15, rfl⟩
    subst hln14
    have hr4 := hr4.up hle15
    have hsl13 := hsl13.up hle15
    have hle2 := hle2.trans hle15
    obtain ⟨hj, hall2⟩ := hinv15
    refine q2 (o_lss Z Z Z (q3 (W_seq ?_)))
    refine W_cond Z ?_ ?_
    ·intro hc16
     try simp only [nrm] at hc16
     refine W_skip (N_K (W_seq (W_block (q2 (o_index_P j hsl13 underlying23 sizeOf42 Z Z Z Z aN ?_))))); intro b17 o17 z17 q17 hz17 hE17 hrow17
     obtain ⟨a17, m17, c17, rfl, hi17, hr17, hj17⟩ := hE17; have hn_hr17 := hr17.len; have hx_hr17 : _ ≤ 1099511627776 := hr17.lim
     rw [List.getElem?_take, if_pos oM] at hz17
     refine o_loadagg_P H isAgg42 sizeOf42 Z Z hrow17 Z (o_alloc H zeroValue42 Z Z ?_); intro b18 w18 hb18 H
     refine o_store_B 0 H sizeOf42 Z Z Z Z Z Z Z Z ?_; intro w19 H
     refine q1 (o_fieldAddr 1 runUnderlying42 Z sizeOf38 Z Z Z (o_load_B 0 H isAgg38 Z Z Z Z (o_fieldAddr 1 runUnderlying42 Z sizeOf38 Z Z Z (o_load_B 1 H isAgg38 Z Z Z Z (o_call call180 Z Z (l_Equal_c _ _ H.sub _ _ hr17 _ _ hr4 ) ?_)))))
     rintro _ w20 ⟨rfl, ew20⟩; have H := H.step ew20; refine ⟨_, rfl, ?_⟩
     refine q3 ?_
     refine W_cond Z ?_ ?_
     ·intro hc21
      try simp only [nrm] at hc21
      refine q2 (aG Z (q3 (W_ret (N_B_ret (N_K_ret (N_LP_ret (N_B_ret (N_K_ret (N_B_ret (N_K_ret (N_LP_ret (N_B_ret (N_K_ret (rt1 results150 Z ?_))))))))))))))
      exact H.rets (congrArg Value.bool (by rw [Sp.sv_false (k := k) oM (Sp.okH_dup hz4 oM hz17 hc21)]))
     intro hc21'
     try simp only [nrm] at hc21'
     refine W_skip (N_B (N_K (W_region (o_add Z Z Z oO (mV Z (R_nil ?_))))))
     have H := H.del (k := 0) rfl
     refine N_lp (hJ := ⟨j + 1, _, Z, hle15, H, ?inv, Z⟩) (hm := ?hm)
     case hm => omega
     case inv => exact ⟨by omega, Sp.all_take hall2 hz17 (by simp [hc21'])⟩
    intro hc16'
    try simp only [nrm] at hc16'
    refine W_exit (N_K_exit (N_LP_exit (N_B_same (N_K (W_region (o_fieldAddr 0 runUnderlying42 Z sizeOf3 Z Z Z (o_load_B 0 H isAgg3 Z Z Z Z (aG Z (R_nil (N_B (N_K (W_region (o_add Z Z Z oO (mV Z (R_nil ?_)))))))))))))))
    have H := H.del (k := 0) rfl
    refine N_lp (hJ := ⟨k + 1, z4.id, _, Z, hle2, H, ?inv, Z⟩) (hm := ?hm)
    case hm => omega
    case inv => (obtain rfl : j = k := by omega); exact ⟨by omega, (Sp.lastId_succ hz4).symm, Sp.upto_succ hall (Sp.okH_mk hz4 hall oM oM (by simpa using hc12') oM hall2), hi4⟩
  intro hc3'
  try simp only [nrm] at hc3'
  refine W_exit (N_K_exit (N_LP_exit (N_B_same (N_K (q2 (aG Z (q3 (W_ret (rt1 results150 Z ?_)))))))))
  exact H.rets (congrArg Value.bool (by rw [Sp.sv_true (fun j hj => hall j oM) oM]))
end Go.Proofs.Tst

namespace Go.Proofs.Tst
open Go Fw Tryz
theorem i_openStore_c (w0 : World) (G0 : PH) (hG : PSub G0 w0) (vlist : Value) (list : List (BHeld)) (hlist : RdH G0 vlist list) (hLent : Lent w0 G0 [])  :
  Calls Tryz.prog 119 #[vlist] w0 (RetM w0 G0 [] (fun G' v Bs => (Sp.StoreValid list = false ∧ v = .tuple #[.map none, .bool false] ∧ Bs = []) ∨ (Sp.VH list ∧ ∃ (mb : Nat) (es' : Array MapEntry) (ck' : Nat) (xs' : List (Int × Value)), v = .tuple #[.map (some mb), .bool true] ∧ Bs = [blk mb (.map es' ck')] ∧ MapIs (Value.int .i64) es' ck' xs' ∧ StR G' xs' list))) := by
 obtain ⟨alist, klist, rfl⟩ := hlist.shape
 have hlimlist : list.length ≤ 1099511627776 := hlist.lim
 have H : Hp w0 G0 [] w0 G0 [] := hLent.hp
 refine calls_of_W (l := [.slice alist list.length klist]) func119 Z ntmps119 Z (q2 (aG Z (aG Z (q3 (W_seq (q2 (mV Z (o_call call150 Z Z (i_StoreValid_c _ _ H.sub _ _ hlist ) ?_))))))))
 rintro _ w1 ⟨rfl, ew1⟩; have H := H.step ew1; refine ⟨_, rfl, ?_⟩
 refine o_not Z Z (q3 ?_)
 refine W_cond Z ?_ ?_
 ·intro hc2
  try simp only [nrm] at hc2
  refine q2 (aG Z (aG Z (q3 (W_ret (N_K_ret (rt2 results119 Z Z ?_))))))
  exact H.retM (.inl ⟨by simpa using hc2, rfl, rfl⟩)
 intro hc2'
 try simp only [nrm] at hc2'
 have hVl := Sp.valid_iff.1 (by simpa using hc2' : Sp.StoreValid list = true)
 refine W_skip (N_K (q2 (o_makeMap H Z ?_))); intro b3 w3 hb3 H
 have hm3 := MapIs.empty (key := Value.int .i64) 0
 have hS3 := StR.nil G0
 refine aG Z (q3 (W_seq (q2 (mV Z (o_len_slice underlying23 Z Z (mV Z (q3 (W_block ?_))))))))
 refine W_lp (hf := (Sub.cons (t := 2) Z (Sub.cons (t := 3) Z (Sub.cons (t := 4) Z (Sub.cons (t := 11) Z (Sub.cons (t := 12) Z Sub.nil)))))) (J := fun M w m => ∃ (esm0 : Array MapEntry) (ckm0 : Nat) (xsm0 : List (Int × Value)) (Lm0 : List BHeld) (k : Nat) (G : PH), M = [(13, .int .i64 (k : Int))] ∧ PLe G0 G ∧ Hp w0 G0 [] w G [blk b3 (.map esm0 ckm0)] ∧ (MapIs (Value.int .i64) esm0 ckm0 xsm0 ∧ StR G xsm0 Lm0 ∧ Sp.VH Lm0 ∧ k ≤ list.length ∧ Lm0 = list.take k) ∧ m = (list.length - k)) (h0 := ⟨_, _, [], [], 0, _, Z, PLe.refl _, H, ?inv, Z⟩) (round := ?round)
 case inv => exact ⟨hm3, hS3, Sp.VH_nil, (by simp)⟩
 case round =>
  rintro _ w4 _ ⟨esm0, ckm0, xsm0, Lm0, k, G4, rfl, hle4, H, hinv4, rfl⟩
  have hlist := hlist.up hle4
  obtain ⟨hm4_m0, hS4_m0, hV4_m0, hinv4⟩ := hinv4
  obtain ⟨hk, rfl⟩ := hinv4
  refine q2 (o_lss Z Z Z (q3 (W_seq ?_)))
  refine W_cond Z ?_ ?_
  ·intro hc5
   try simp only [nrm] at hc5
   refine W_skip (N_K (W_seq (W_block (q2 (o_index_P k hlist underlying23 sizeOf42 Z Z Z Z aN ?_))))); intro b6 o6 z6 q6 hz6 hE6 hrow6
   obtain ⟨a6, m6, c6, rfl, hi6, hr6, hj6⟩ := hE6; have hn_hr6 := hr6.len; have hx_hr6 : _ ≤ 1099511627776 := hr6.lim
   refine o_loadagg_P H isAgg42 sizeOf42 Z Z hrow6 Z (o_alloc H zeroValue42 Z Z ?_); intro b7 w7 hb7 H
   refine o_store_B 0 H sizeOf42 Z Z Z Z Z Z Z Z ?_; intro w8 H
   refine q3 (W_drawK [0] 12 H kR Z ?_); intro w9 H; have hd9 := PLe.refl G4
   refine vM 0 Z Z (RD_t 1 Z kR Z (fun _ hK => v_fieldAddr 0 runUnderlying42 Z sizeOf3 Z Z) (RD_t 2 Z kR Z (fun _ hK => v_load_B 0 hK isAgg3 Z Z Z) (RD_t 3 Z kR Z (fun _ hK => v_fieldAddr 0 runUnderlying42 Z sizeOf3 Z Z) (RD_t 4 Z kR Z (fun _ hK => v_load_B 0 hK isAgg3 Z Z Z) (RD_t 5 Z kR Z (fun _ hK => v_fieldAddr 1 runUnderlying42 Z sizeOf38 Z Z) (RD_t 6 Z kR Z (fun _ hK => v_load_B 0 hK isAgg38 Z Z Z) (RD_t 8 Z kR Z (fun _ hK => v_fieldAddr 2 runUnderlying42 Z sizeOf3 Z Z) (RD_t 9 Z kR Z (fun _ hK => v_load_B 0 hK isAgg3 Z Z Z) ?_))))))))
   refine RD_run [7] kR Z (RDs.cons Z ?_ RDs.nil)
   refine o_call call68 Z Z (l_Clone_c _ _ H.sub _ _ hr6 ) ?_
   rintro _ w10 ⟨G10, v10, _, g10, rfl, ⟨cs10, rfl, hchk10⟩, hp10, hq10, hs10⟩
   have H := H.growO g10 hp10 hq10 hs10; obtain ⟨av10, cv10, rfl⟩ := H.accShape (k := 0) rfl
   have hS4_m0 := hS4_m0.up g10.le
   have hle4 := hle4.trans g10.le
   have hd9 := hd9.trans g10.le
   refine ⟨_, Z, ?_⟩
   refine R_nil (N_DK (Kn.of' H hd9 (SubL.cons 1 Z SubL.nil)) (RD_t 10 Z kR Z (fun _ hK => v_build bf42 Z Z) ?_))
   refine RD_run [11] kR Z (RDs.cons Z ?_ RDs.nil)
   obtain ⟨G12, H, hsg12, hsr12⟩ := H.shutL (k := 0) rfl (H.apart (k := 0) (ks := []) rfl rfl (by intro b hb; simpa [fpsAt, nth, blk] using hb)) hchk10 aN aN
   have hS4_m0 := hS4_m0.up hsg12
   have hle4 := hle4.trans hsg12
   refine o_updS 1 H z6 Z hm4_m0 hS4_m0 underlying64 underlying3 Z Z Z (show heldE G12 z6 _ from ⟨_, _, _, Z, ⟨by first | omega | (dsimp only; omega), by first | omega | (dsimp only; omega)⟩, hsr12, ⟨by first | omega | (dsimp only; omega), by first | omega | (dsimp only; omega)⟩⟩) rfl ?_; intro es11 ck11 xs11 w11 H hm11 hS11
   refine R_nil (N_DKlast kR kR (N_B (N_K (W_region ?_))))
   rw [Sp.upd_take hVl hz6] at hS11
   refine o_add Z Z Z oO (mV Z (R_nil ?_))
   have H := H.del (k := 0) rfl
   refine N_lp (hJ := ⟨_, _, xs11, (list.take (k + 1)), k + 1, _, Z, hle4, H, ?inv, Z⟩) (hm := ?hm)
   case hm => omega
   case inv => exact ⟨hm11, hS11, (hVl.take (k + 1)), (by exact ⟨by omega, rfl⟩)⟩
  intro hc5'
  try simp only [nrm] at hc5'
  refine W_exit (N_K_exit (N_LP_exit (N_B_same (N_K (q2 (mV Z (aG Z (aG Z (q3 (W_ret (rt2 results119 Z Z ?_)))))))))))
  rw [List.take_of_length_le oM] at hS4_m0
  exact H.retM (.inr ⟨hVl, _, _, _, _, Z, Z, hm4_m0, hS4_m0⟩)
theorem i_slist_c (w0 : World) (G0 : PH) (hG : PSub G0 w0) (mbs : Nat) (ess : Array MapEntry) (cks : Nat) (xss : List (Int × Value)) (Ls : List BHeld) (hbs : MapAt G0 mbs ess cks) (hms : MapIs (Value.int .i64) ess cks xss) (hSs : StR G0 xss Ls) (hVs : Sp.VH Ls)  :
  Calls Tryz.prog 30 #[.map (some mbs)] w0 (RetN w0 G0 (fun v Bs => ∃ (F : Fr), Bs = [frag F] ∧ OHs F v Ls)) := by
 have hl16 := hVs.len
 have H := Hp.init hG
 refine calls_of_W (l := [.map (some mbs)]) func30 Z ntmps30 Z (q2 (aG Z (q1 (mV Z ?_))))
 have hml1 := hSs.len
 refine o_lenM (hbs.at H.sub) hms underlying64 Z Z (o_make0 (c := Ls.length) (sz := 3) (bytes := 40) H underlying23 typeInfo42 ⟨_, Z, Z⟩ Z Z Z Z Z Z oM oM Z ?_); intro b2 w2 H
 refine aG Z (q3 (W_seq (q2 (mV Z (o_call call67 Z Z (keys_c _ _ H.sub _) ?_))))); rintro _ w3 ⟨kb3, rfl, hkb3, ek3, hkc3⟩; have H := H.step ek3; refine ⟨_, rfl, ?_⟩
 refine o_call call66 Z Z (sorted_c _ _ _ hkc3 (hbs.at H.sub) hms hSs hVs) ?_; rintro _ w4 ⟨v4, rfl, ek4, hp4, hf4⟩; have H := H.add ek4 _ hp4 hf4 (acc_nd _ _ _ _ _)
 have hchk4 := chkIds G0 hVs; obtain ⟨av4, cv4, rfl⟩ := H.accShape (k := 0) rfl; refine ⟨_, rfl, ?_⟩
 refine o_len_slice underlying38 Z Z (mV Z (q3 (W_block ?_)))
 obtain ⟨G5, H, hsg5, hsr5⟩ := H.shut' (k := 0) rfl hchk4 aN aN
 have hSs := hSs.up hsg5
 have hbs := hbs.up hsg5
 have H := H.addF
 refine W_lp (hf := (Sub.cons (t := 0) Z (Sub.cons (t := 2) Z (Sub.cons (t := 12) Z (Sub.cons (t := 13) Z Sub.nil))))) (J := fun M w m => ∃ (v : Value) (n : Nat) (cs : List Value) (xs : List (BHeld)) (F : Fr) (k : Nat) (G : PH), M = [(14, .int .i64 (k : Int)), (3, v)] ∧ PLe G5 G ∧ Hp w0 G0 [] w G [frag F, acc 42 3 v n cs] ∧ (ChkF heldO 3 cs xs F ∧ n = xs.length ∧ k ≤ Ls.length ∧ xs = Ls.take k) ∧ m = (Ls.length - k)) (h0 := ⟨_, _, _, [], [], 0, _, Z, PLe.refl _, H, ?inv, Z⟩) (round := ?round)
 case inv => exact ⟨ChkF.nil,  by first | rfl | simp | (simp; omega) | omega, (by simp)⟩
 case round =>
  rintro _ w6 _ ⟨v, n, cs, xs, F, k, G6, rfl, hle6, H, hinv6, rfl⟩
  have hSs := hSs.up hle6
  have hbs := hbs.up hle6
  have hsr5 := hsr5.up hle6
  obtain ⟨hchk6_0, hn6_0, hinv6⟩ := hinv6
  obtain ⟨av6_0, cv6_0, rfl⟩ := H.accShape (k := 1) rfl
  obtain ⟨hk, hxs⟩ := hinv6; have hxl : xs.length ≤ 16 := by rw [hxs]; simp; omega
  refine q2 (o_lss Z Z Z (q3 (W_seq ?_)))
  refine W_cond Z ?_ ?_
  ·intro hc7
   try simp only [nrm] at hc7
   refine W_skip (N_K (W_seq (W_block (q2 (o_index_P k hsr5 underlying38 sizeOf3 Z Z Z Z aN ?_))))); intro b8 o8 z8 q8 hz8 hE8 hrow8
   obtain ⟨rfl, hi8⟩ := hE8
   refine o_load_P H isAgg3 Z Z (hrow8 0 _ Z) (aG Z (q1 (mV Z (mV Z (o_lookS (hbs.at H.sub) hms hSs underlying64 underlying3 zeroValue42 Z Z Z ?_))))); intro q9 hE9
   obtain ⟨a9, m9, c9, rfl, hi9, hr9, hj9⟩ := hE9; have hn_hr9 := hr9.len; have hx_hr9 : _ ≤ 1099511627776 := hr9.lim
   have hgb := Sp.get_len hVs z8
   have hat := Sp.get_at hVs hz8
   refine o_alloc H zeroValue42 Z Z ?_; intro b10 w10 hb10 H
   refine o_store_B 0 H sizeOf42 Z Z Z Z Z Z Z Z ?_; intro w11 H
   refine q3 (W_drawK [0] 11 H kR Z ?_); intro w12 H; have hd12 := PLe.refl G6
   refine vM 0 Z Z (vM 1 Z Z (RD_t 2 Z kR Z (fun _ hK => v_fieldAddr 1 runUnderlying42 Z sizeOf38 Z Z) (RD_t 3 Z kR Z (fun _ hK => v_load_B 0 hK isAgg38 Z Z Z) (RD_t 5 Z kR Z (fun _ hK => v_fieldAddr 2 runUnderlying42 Z sizeOf3 Z Z) (RD_t 6 Z kR Z (fun _ hK => v_load_B 0 hK isAgg3 Z Z Z) ?_)))))
   refine RD_run [4] kR Z (RDs.cons Z ?_ RDs.nil)
   refine o_call call68 Z Z (l_Clone_c _ _ H.sub _ _ hr9 ) ?_
   rintro _ w13 ⟨G13, v13, _, g13, rfl, ⟨cs13, rfl, hchk13⟩, hp13, hq13, hs13⟩
   have H := H.growO g13 hp13 hq13 hs13; obtain ⟨av13, cv13, rfl⟩ := H.accShape (k := 0) rfl
   have hle6 := hle6.trans g13.le
   have hd12 := hd12.trans g13.le
   refine ⟨_, Z, ?_⟩
   refine R_nil (N_DK (Kn.of' H hd12 (SubL.cons 1 Z SubL.nil)) (RD_t 7 Z kR Z (fun _ hK => v_build bf42 Z Z) ?_))
   refine RD_run [8] kR Z (RDs.cons Z ?_ RDs.nil)
   refine o_buildSlice H underlying23 sizeOf42 (fun w => ⟨_, zeroValue42 w, Z⟩) Z Z Z Z Z Z Z ?_; intro b14 w14 hb14 H
   refine R_nil (N_DK (Kn.of' H hd12 (SubL.cons 2 Z SubL.nil)) ?_)
   refine RD_run [9] kR Z (RDs.cons Z ?_ RDs.nil)
   refine o_append1 3 H (sz := 3) (bytes := 40) underlying23 typeInfo42 ⟨_, Z, Z⟩ Z Z Z Z Z Z Z Z Z Z oM Z ?_; intro v15 w15 H
   obtain ⟨Fi2, H, hOI2⟩ := H.ownI (k := 0) rfl hchk13 aN aN
   have hchk15 := hchk6_0.snoc (show heldO Fi2 ⟨z8, (getH Ls z8).bytes, (getH Ls z8).uses⟩ _ from ⟨_, _, _, rfl, ⟨by first | omega | (dsimp only; omega), by first | omega | (dsimp only; omega)⟩, hOI2, ⟨by first | omega | (dsimp only; omega), by first | omega | (dsimp only; omega)⟩⟩) rfl
   have H := H.toFront (k := 2) rfl
   have H := H.mergeF
   obtain ⟨av15, cv15, rfl⟩ := H.accShape (k := 2) rfl
   refine R_nil (N_DK (Kn.of' H hd12 (SubL.cons 1 Z SubL.nil)) (RD_t 10 Z kR Z (fun _ hK => v_assign Z) (RD_done kR (N_B (N_K (W_region (o_add Z Z Z oO (mV Z (R_nil ?_)))))))))
   have H := H.del (k := 1) rfl
   refine N_lp (hJ := ⟨_, _, _, (xs ++ [⟨z8, (getH Ls z8).bytes, (getH Ls z8).uses⟩]), (F ++ Fi2), k + 1, _, Z, hle6, H, ?inv, Z⟩) (hm := ?hm)
   case hm => omega
   case inv => exact ⟨hchk15, aN, (by exact ⟨by omega, by rw [Sp.take_succ' hat, hxs]⟩)⟩
  intro hc7'
  try simp only [nrm] at hc7'
  refine W_exit (N_K_exit (N_LP_exit (N_B_same (N_K (q2 (mV Z (aG Z (q3 (W_ret (rt1 results30 Z ?_))))))))))
  have H := H.toFront (k := 1) rfl
  obtain ⟨Fo3, H, hOw3⟩ := H.ownF hchk6_0 aN aN
  have hX : xs = Ls := by rw [hxs, List.take_of_length_le oM]
  have H := H.forget hG (by simp)
  exact ⟨_, _, Z, H, _, Z, hX ▸ ⟨_, hOw3⟩⟩
end Go.Proofs.Tst

namespace Go.Proofs.Tst
open Go Fw Tryz
theorem i_newVolume_c (w0 : World) (G0 : PH) (hG : PSub G0 w0) (vstore : Value) (store : List (BHeld)) (hstore : RdH G0 vstore store) (vtree : Value) (tree : List (BItem)) (htree : RdItems G0 vtree tree) (hLent : Lent w0 G0 [])  :
  Calls Tryz.prog 92 #[vstore, vtree] w0 (RetM w0 G0 [] (fun G' v Bs => (v = .tuple #[.agg #[.map none, .pointer none], .bool false] ∧ Bs = [] ∧ (Sp.StoreValid store && Sp.TreeValid tree) = false) ∨ (∃ (mb : Nat) (es : Array MapEntry) (ck : Nat) (xs : List (Int × Value)) (T : Nd) (F : Fr), v = .tuple #[.agg #[.map (some mb), .pointer (some ⟨T.b, 0, none⟩)], .bool true] ∧ Bs = [blk mb (.map es ck), frag F] ∧ MapIs (Value.int .i64) es ck xs ∧ StR G' xs store ∧ Sp.VH store ∧ NdO 167 65 G' T F ∧ Nd.TOK T tree ∧ Sp.TreeValid tree = true))) := by
 obtain ⟨astore, kstore, rfl⟩ := hstore.shape
 have hlimstore : store.length ≤ 1099511627776 := hstore.lim
 obtain ⟨atree, ktree, rfl⟩ := htree.shape
 have hlimtree : tree.length ≤ 1099511627776 := htree.lim
 have H : Hp w0 G0 [] w0 G0 [] := hLent.hp
 refine calls_of_W (l := [.slice astore store.length kstore, .slice atree tree.length ktree]) func92 Z ntmps92 Z (q2 (o_alloc H zeroValue67 Z Z ?_)); intro b1 w1 hb1 H
 refine aG Z (q1 (mV Z (o_call call119 Z Z (i_openStore_c _ _ H.sub _ _ hstore H.lent0 ) ?_)))
 rintro _ w2 ⟨G2, _, _, rfl, H2', ⟨hnv2, rfl, rfl⟩ | ⟨hV2, mb2, es2, ck2, xs2, rfl, rfl, hm2, hS2⟩⟩
 ·skip
  have H := H.borrow0 H2'
  refine ⟨_, Z, ?_⟩
  refine mV Z (o_extract Z Z Z (o_extract Z Z Z (aG Z (aG Z (q3 (W_seq (q2 (mV Z (o_not Z Z (q3 (W_true Z (q2 (o_build bf67 Z Z Z (o_store_B 0 H sizeOf67 Z Z Z Z Z Z Z Z ?_)))))))))))))); intro w3 H
  refine aG Z (q3 (W_ret (N_K_ret (ret_gen (rs := [.cell 4 67, .tmp 5]) (vs := [_, _]) results92 ⟨⟨_, Z, load_blk 0 H isAgg67 sizeOf67 Z Z Z⟩, Z, trivial⟩ ?_))))
  have H := H.del (k := 0) rfl
  exact H.retM (.inl ⟨rfl, rfl, by simp_all⟩)
 skip
 have htree := htree.up H2'.le
 have H := H.borrow0 H2'
 refine ⟨_, Z, ?_⟩
 refine mV Z (o_extract Z Z Z (o_extract Z Z Z (aG Z (aG Z (q3 (W_seq (q2 (mV Z (o_not Z Z (q3 (W_false Z (W_skip (N_K (q2 (mV Z ?_)))))))))))))))
 refine o_call call93 Z Z (i_openTree_c _ _ H.sub _ _ htree H.lent0 ) ?_
 rintro _ w4 ⟨G4, _, _, rfl, H4', ⟨rfl, rfl, hv4⟩ | ⟨T4, F4, rfl, rfl, hN4, hT4, hv4⟩⟩
 ·skip
  have H := H.borrow0 H4'
  refine ⟨_, Z, ?_⟩
  refine mV Z (o_extract Z Z Z (o_extract Z Z Z (aG Z (aG Z (q3 (W_seq (q2 (mV Z (o_not Z Z (q3 (W_true Z (q2 (o_build bf67 Z Z Z (o_store_B 1 H sizeOf67 Z Z Z Z Z Z Z Z ?_)))))))))))))); intro w5 H
  refine aG Z (q3 (W_ret (N_K_ret (ret_gen (rs := [.cell 4 67, .tmp 5]) (vs := [_, _]) results92 ⟨⟨_, Z, load_blk 1 H isAgg67 sizeOf67 Z Z Z⟩, Z, trivial⟩ ?_))))
  have H := H.del (k := 0) rfl
  have H := H.del (k := 0) rfl
  exact H.retM (.inl ⟨rfl, rfl, by simp_all⟩)
 skip
 have hS2 := hS2.up H4'.le
 have H := H.borrow0 H4'
 refine ⟨_, Z, ?_⟩
 refine mV Z (o_extract Z Z Z (o_extract Z Z Z (aG Z (aG Z (q3 (W_seq (q2 (mV Z (o_not Z Z (q3 (W_false Z (W_skip (N_K (q2 (mV Z ?_)))))))))))))))
 refine mV Z (o_build bf67 Z Z Z (o_store_B 2 H sizeOf67 Z Z Z Z Z Z Z Z ?_)); intro w6 H
 refine aG Z (q3 (W_ret (ret_gen (rs := [.cell 4 67, .tmp 5]) (vs := [_, _]) results92 ⟨⟨_, Z, load_blk 2 H isAgg67 sizeOf67 Z Z Z⟩, Z, trivial⟩ ?_)))
 have H := H.del (k := 2) rfl
 have H := H.toFront (k := 1) rfl
 exact H.retM (.inr ⟨_, _, _, _, _, _, Z, Z, hm2, hS2, hV2, hN4, hT4, hv4⟩)
theorem i_keepTree_c (w0 : World) (G0 : PH) (hG : PSub G0 w0) (mbs : Nat) (ess : Array MapEntry) (cks : Nat) (xss : List (Int × Value)) (Ls : List BHeld) (hms : MapIs (Value.int .i64) ess cks xss) (hSs : StR G0 xss Ls) (hVs : Sp.VH Ls) (Ft : Fr) (t : Nd) (hNt : NdO 167 65 G0 t Ft) (hLent : Lent w0 G0 [blk mbs (.map ess cks), frag Ft]) (hwt : t.wf) (hct : t.cnt ≤ 1000) :
  Calls Tryz.prog 77 #[.map (some mbs), .pointer (some ⟨t.b, 0, none⟩)] w0 (RetM w0 G0 (fps [blk mbs (.map ess cks), frag Ft]) (fun G' v Bs => ∃ (es' : Array MapEntry) (ck' : Nat) (xs' : List (Int × Value)) (L' : List BHeld), v = .bool (Sp.l12Keep Ls (t.flat [])).isSome ∧ Bs = [blk mbs (.map es' ck'), frag Ft] ∧ MapIs (Value.int .i64) es' ck' xs' ∧ StR G' xs' L' ∧ Sp.VH L' ∧ ∀ l, Sp.l12Keep Ls (t.flat []) = some l → L' = l)) := by
 have hfl := Nd.flat_len [] t
 have H : Hp w0 G0 (fps [blk mbs (.map ess cks), frag Ft]) w0 G0 [blk mbs (.map ess cks), frag Ft] := hLent.hp
 refine calls_of_W (l := [.map (some mbs), .pointer (some ⟨t.b, 0, none⟩)]) func77 Z ntmps77 Z (q2 (aG Z (q3 (W_seq (q2 (mV Z (o_call call49 Z Z (i_tlist_c _ _ (H.lendSubL [1]) _ ((H.lendN (k := 1) (ks := [1]) Z Z hNt).at (show Nd.at_ t [] = some t from Z)) hwt hct) ?_)))))))
 rintro _ w1 ⟨_, _, rfl, H1', ⟨F1, rfl, hO1⟩⟩
 have H := H.readersL H1'
 obtain ⟨e21, hP1⟩ := hO1
 obtain ⟨sa1, sc1, rfl⟩ := OwnS.shape hP1
 have hO1 := OIs.mk hP1
 refine ⟨_, Z, ?_⟩
 have hdm1 := dm_nodup H (k := 0) rfl; obtain ⟨Gk1, H, hkl1, hks1⟩ := H.keepF (k := 0) rfl (H.apart (k := 0) (ks := [1, 2]) rfl rfl (by intro b hb; simp only [fps, List.flatMap_cons, List.flatMap_nil, List.append_nil, List.mem_append] at hb; rcases hb with h | h; (· exact fpsAt_mem (k := 1) rfl rfl b (by exact h)); (· exact fpsAt_mem (k := 2) rfl rfl b (by exact h))))
 have hrk1 := hO1.rd hks1 hdm1
 have hSs := hSs.up hkl1
 have hn_hrk1 := hrk1.len
 refine o_len_slice underlying24 Z Z (mV Z (q3 (W_block ?_)))
 refine W_lp (hf := (Sub.cons (t := 0) Z (Sub.cons (t := 8) Z (Sub.cons (t := 9) Z Sub.nil)))) (J := fun M w m => ∃ (esm0 : Array MapEntry) (ckm0 : Nat) (xsm0 : List (Int × Value)) (Lm0 : List BHeld) (k : Nat) (G : PH), M = [(10, .int .i64 (k : Int))] ∧ PLe Gk1 G ∧ Hp w0 G0 (fps [blk mbs (.map ess cks), frag Ft]) w G [blk mbs (.map esm0 ckm0), frag Ft] ∧ (MapIs (Value.int .i64) esm0 ckm0 xsm0 ∧ StR G xsm0 Lm0 ∧ Sp.VH Lm0 ∧ k ≤ (t.flat []).length ∧ Sp.foldB Sp.keepT ((t.flat []).take k) (some Ls) = some Lm0) ∧ m = ((t.flat []).length - k)) (h0 := ⟨_, _, xss, Ls, 0, _, Z, PLe.refl _, H, ?inv, Z⟩) (round := ?round)
 case inv => exact ⟨hms, hSs, hVs, (by simp [Sp.foldB])⟩
 case round =>
  rintro _ w2 _ ⟨esm0, ckm0, xsm0, Lm0, k, G2, rfl, hle2, H, hinv2, rfl⟩
  have hrk1 := hrk1.up hle2
  obtain ⟨hm2_m0, hS2_m0, hV2_m0, hinv2⟩ := hinv2
  obtain ⟨hk, hf⟩ := hinv2
  refine q2 (o_lss Z Z Z (q3 (W_seq ?_)))
  refine W_cond Z ?_ ?_
  ·intro hc3
   try simp only [nrm] at hc3
   refine W_skip (N_K (W_seq (W_block (q2 (o_index_P k hrk1 underlying24 sizeOf40 Z Z Z Z aN ?_))))); intro b4 o4 z4 q4 hz4 hE4 hrow4
   obtain ⟨a4, m4, c4, rfl, hi4, hr4⟩ := hE4; have hy_hi4 : _ ≤ 16777216 := hi4; have hn_hr4 := hr4.len; have hx_hr4 : _ ≤ 1099511627776 := hr4.lim
   refine o_loadagg_P H isAgg40 sizeOf40 Z Z hrow4 Z (o_alloc H zeroValue40 Z Z ?_); intro b5 w5 hb5 H
   refine o_store_B 0 H sizeOf40 Z Z Z Z Z Z Z Z ?_; intro w6 H
   refine q1 (mV Z (o_fieldAddr 2 runUnderlying40 Z sizeOf38 Z Z Z (o_load_B 0 H isAgg38 Z Z Z Z ?_)))
   have H := H.toFront (k := 1) rfl
   refine o_call call112 Z Z (i_keepFile_c _ _ H.sub _ _ _ _ _ hm2_m0 hS2_m0 hV2_m0 _ _ hr4 H.lent1 ) ?_
   rintro _ w7 ⟨G7, _, _, rfl, H7', ⟨es7, ck7, xs7, L7, rfl, rfl, hm7, hS7, hV7, hL7⟩⟩
   have hle2 := hle2.trans H7'.le
   have H := H.borrow1 H7'
   refine ⟨_, Z, ?_⟩
   refine o_not Z Z (q3 ?_)
   refine W_cond Z ?_ ?_
   ·intro hc8
    try simp only [nrm] at hc8
    refine q2 (aG Z (q3 (W_ret (N_B_ret (N_K_ret (N_LP_ret (N_B_ret (N_K_ret (rt1 results77 Z ?_)))))))))
    have H := H.del (k := 1) rfl
    have H := H.toFront (k := 1) rfl
    have H := H.toFront (k := 1) rfl
    have hno : Sp.l12Keep Ls (t.flat []) = none := by (have hno : Sp.keepT Lm0 z4 = none := (show Sp.foldB Sp.StoreKeep z4.ids (some Lm0) = none by simpa using hc8)); exact Sp.foldB_stop hf hz4 hno
    exact H.retM ⟨_, _, _, _, congrArg Value.bool (by rw [hno]; rfl), rfl, hm7, hS7, hV7, fun l hl => by rw [hno] at hl; cases hl⟩
   intro hc8'
   try simp only [nrm] at hc8'
   obtain ⟨p, hsp⟩ := Option.isSome_iff_exists.1 (show (Sp.foldB Sp.StoreKeep z4.ids (some Lm0)).isSome = true by simpa using hc8')
   have hLp := hL7 p hsp; subst hLp
   have hsp : Sp.keepT Lm0 z4 = some L7 := hsp
   refine W_skip (N_B (N_K (W_region (o_add Z Z Z oO (mV Z (R_nil ?_))))))
   have H := H.del (k := 1) rfl
   refine N_lp (hJ := ⟨_, _, xs7, L7, k + 1, _, Z, hle2, H, ?inv, Z⟩) (hm := ?hm)
   case hm => omega
   case inv => exact ⟨hm7, hS7, hV7, (by exact ⟨by omega, Sp.foldB_succ hf hz4 hsp⟩)⟩
  intro hc3'
  try simp only [nrm] at hc3'
  refine W_exit (N_K_exit (N_LP_exit (N_B_same (N_K (q2 (aG Z (q3 (W_ret (rt1 results77 Z ?_)))))))))
  have H := H.toFront (k := 1) rfl
  have H := H.toFront (k := 1) rfl
  have hyes : Sp.l12Keep Ls (t.flat []) = some Lm0 := Sp.foldB_all hf oM
  exact H.retM ⟨_, _, _, _, congrArg Value.bool (by rw [hyes]; rfl), rfl, hm2_m0, hS2_m0, hV2_m0, fun l hl => by rw [hyes] at hl; cases hl; rfl⟩
end Go.Proofs.Tst

namespace Go.Proofs.Tst
open Go Fw Tryz
theorem i_snapAt_c (w0 : World) (G0 : PH) (hG : PSub G0 w0) (db : Nat) (m1 m2 v1 v2 vs : Value) (sn : List (Bs × Nd)) (hdk : PRow G0 db 0 [m1, m2, v1, v2, vs]) (hsn : RdS LIM osE 2 G0 vs sn) (nm : Bs) (hnm : nm.length ≤ 16777216)  :
  Calls Tryz.prog 75 #[.pointer (some ⟨db, 0, none⟩), str nm] w0 (Rets w0 (.int .i64 (Sp.optI (sn.findIdx? (fun x => decide (x.1 = nm)))))) := by
 obtain ⟨asn, ksn, rfl⟩ := hsn.shape; have hlimsn : sn.length ≤ 1099511627776 := hsn.lim
 have H := Hp.init hG
 refine calls_of_W (l := [.pointer (some ⟨db, 0, none⟩), str nm]) func75 Z ntmps75 Z (q2 (aG Z (q3 (W_seq (q2 (mV Z (o_nilCheck Z Z (o_fieldAddr 4 runUnderlying70 Z sizeOf68 Z Z Z (o_load_P H isAgg68 Z Z (hdk 4 _ Z) (o_len_slice underlying68 Z Z (mV Z (q3 (W_block ?_)))))))))))))
 refine W_lp (hf := (Sub.cons (t := 1) Z (Sub.cons (t := 10) Z (Sub.cons (t := 11) Z Sub.nil)))) (J := fun M w m => ∃ (k : Nat) (G : PH), M = [(12, .int .i64 (k : Int))] ∧ PLe G0 G ∧ Hp w0 G0 [] w G [] ∧ (k ≤ sn.length ∧ ∀ (j : Nat) (x : Bs × Nd), j < k → sn[j]? = some x → decide (x.1 = nm) = false) ∧ m = (sn.length - k)) (h0 := ⟨0, _, Z, PLe.refl _, H, ?inv, Z⟩) (round := ?round)
 case inv => exact ⟨by omega, fun j x hj => by omega⟩
 case round =>
  rintro _ w1 _ ⟨k, G1, rfl, hle1, H, hinv1, rfl⟩
  have hsn := hsn.up hle1
  obtain ⟨hk, hno⟩ := hinv1
  refine q2 (o_lss Z Z Z (q3 (W_seq ?_)))
  refine W_cond Z ?_ ?_
  ·intro hc2
   try simp only [nrm] at hc2
   refine W_skip (N_K (W_seq (W_block (q2 (mV Z (o_index_P k hsn underlying68 sizeOf124 Z Z Z Z aN ?_)))))); intro b3 o3 z3 q3 hz3 hE3 hrow3
   obtain ⟨rfl, hi3⟩ := hE3; have hy_hi3 : _ ≤ 16777216 := hi3
   refine o_loadagg_P H isAgg124 sizeOf124 Z Z hrow3 Z (o_alloc H zeroValue124 Z Z ?_); intro b4 w4 hb4 H
   refine aG Z (o_store_B 0 H sizeOf124 Z Z Z Z Z Z Z Z ?_); intro w5 H
   refine q1 (o_fieldAddr 0 runUnderlying124 Z sizeOf9 Z Z Z (o_load_B 0 H isAgg9 Z Z Z Z (mV Z (o_seql Z Z Z (q3 ?_)))))
   refine W_cond Z ?_ ?_
   ·intro hc6
    try simp only [nrm] at hc6
    refine q2 (mV Z (aG Z (q3 (W_ret (N_B_ret (N_K_ret (N_LP_ret (N_B_ret (N_K_ret (rt1 results75 Z ?_))))))))))
    exact H.rets (congrArg (Value.int .i64) (by rw [Sp.fidx_some (p := fun x : Bs × Nd => decide (x.1 = nm)) hno hz3 (by simpa using hc6)]; rfl))
   intro hc6'
   try simp only [nrm] at hc6'
   refine W_skip (N_B (N_K (W_region (o_add Z Z Z oO (mV Z (R_nil ?_))))))
   have H := H.del (k := 0) rfl
   refine N_lp (hJ := ⟨k + 1, _, Z, hle1, H, ?inv, Z⟩) (hm := ?hm)
   case hm => omega
   case inv => exact ⟨by omega, Sp.fidx_step hno hz3 (by simpa using hc6')⟩
  intro hc2'
  try simp only [nrm] at hc2'
  refine W_exit (N_K_exit (N_LP_exit (N_B_same (N_K (q2 (aG Z (q3 (W_ret (rt1 results75 Z ?_)))))))))
  exact H.rets (congrArg (Value.int .i64) (by rw [Sp.fidx_none (p := fun x : Bs × Nd => decide (x.1 = nm)) (fun j x hj => hno j x oM)]; rfl))
end Go.Proofs.Tst

namespace Go.Proofs.Tst
open Go Fw Tryz
theorem i_newDisk_c (w0 : World) (G0 : PH) (hG : PSub G0 w0) (cd : List Value) (d : BDisk) (hd : diskE G0 d cd) (hLent : Lent w0 G0 [])  :
  Calls Tryz.prog 58 #[.agg cd.toArray] w0 (RetM w0 G0 [] (fun G' v Bs => (v = .tuple #[.pointer none, .bool false] ∧ Bs = [] ∧ Sp.DiskValid d = false) ∨ (∃ (db mb : Nat) (es : Array MapEntry) (ck : Nat) (xs : List (Int × Value)) (T : Nd) (F : Fr) (sv : Value) (sn : List (Fw.Bs × Nd)) (c : List Value) (FSq : Fr), v = .tuple #[.pointer (some ⟨db, 0, none⟩), .bool true] ∧ Bs = [blk db (cl [.int .i32 0, .int .u32 0, .map (some mb), .pointer (some ⟨T.b, 0, none⟩), sv] 70), blk mb (.map es ck), frag F, acc 124 2 sv sn.length c, frag FSq] ∧ MapIs (Value.int .i64) es ck xs ∧ StR G' xs d.store ∧ NdO 167 65 G' T F ∧ Nd.TOK T d.tree ∧ Chk osE 2 G' c sn ∧ NdsO 167 65 G' (sn.map (·.2)) FSq ∧ SnOK sn d.snaps ∧ Sp.DiskValid d = true))) := by
 obtain ⟨a1, m1, c1, a1', m1', c1', a1'', m1'', c1'', rfl, hr1, hr1', hr1''⟩ := hd; have hn_hr1 := hr1.len; have hx_hr1 : _ ≤ 1099511627776 := hr1.lim; have hn_hr1q := hr1'.len; have hx_hr1q : _ ≤ 1099511627776 := hr1'.lim; have hn_hr1qq := hr1''.len; have hx_hr1qq : _ ≤ 1099511627776 := hr1''.lim
 have H : Hp w0 G0 [] w0 G0 [] := hLent.hp
 refine calls_of_W (l := [_]) func58 Z ntmps58 Z (q2 (o_box H Z Z Z ?_)); intro b2 w2 hb2 H
 refine aG Z (aG Z (q1 (o_fieldAddr 0 runUnderlying27 Z sizeOf23 Z Z Z (o_load_B 0 H isAgg23 Z Z Z Z (o_fieldAddr 1 runUnderlying27 Z sizeOf24 Z Z Z (o_load_B 0 H isAgg24 Z Z Z Z (o_call call92 Z Z (i_newVolume_c _ _ H.sub _ _ hr1 _ _ hr1' H.lent0 ) ?_)))))))
 rintro _ w3 ⟨G3, _, _, rfl, H3', ⟨rfl, rfl, hnv3⟩ | ⟨mb3, es3, ck3, xs3, T3, F3, rfl, rfl, hm3, hS3, hV3, hN3, hT3, hv3⟩⟩
 ·skip
  have H := H.borrow0 H3'
  refine ⟨_, Z, ?_⟩
  refine mV Z (o_extract Z Z Z (o_extract Z Z Z (o_alloc H zeroValue67 Z Z ?_))); intro b4 w4 hb4 H
  refine o_store_B 0 H sizeOf67 Z Z Z Z Z Z Z Z ?_; intro w5 H
  refine aG Z (q3 (W_seq (q2 (mV Z (o_not Z Z (mV Z (rP Z (rP Z (rP Z (rP Z (o_pick_t Z Z Z (q3 (W_true Z (q2 (aG Z ?_)))))))))))))))
  refine aG Z (q3 (W_ret (N_K_ret (rt2 results58 Z Z ?_))))
  have H := H.del (k := 0) rfl
  have H := H.del (k := 0) rfl
  exact H.retM (.inl ⟨rfl, rfl, Sp.dv_no (fun hh => by simp [hh.1, hh.2.1] at hnv3)⟩)
 skip
 have hr1'' := hr1''.up H3'.le
 have H := H.borrow0 H3'
 refine ⟨_, Z, ?_⟩
 refine mV Z (o_extract Z Z Z (o_extract Z Z Z (o_alloc H zeroValue67 Z Z ?_))); intro b6 w6 hb6 H
 refine o_store_B 0 H sizeOf67 Z Z Z Z Z Z Z Z ?_; intro w7 H
 refine aG Z (q3 (W_seq (q2 (mV Z (o_not Z Z (mV Z (gR Z (o_fieldAddr 2 runUnderlying27 Z sizeOf25 Z Z Z (gR Z (o_load_B 3 H isAgg25 Z Z Z Z (gR Z (o_len_slice underlying25 Z Z (gR Z (o_gtr Z Z Z (o_pick_f Z Z Z ?_)))))))))))))))
 refine q3 ?_
 refine W_cond Z ?_ ?_
 ·intro hc8
  try simp only [nrm] at hc8
  refine q2 (aG Z (aG Z (q3 (W_ret (N_K_ret (rt2 results58 Z Z ?_))))))
  have H := H.del (k := 0) rfl
  have H := H.del (k := 0) rfl
  have H := H.del (k := 0) rfl
  have H := H.del (k := 0) rfl
  exact H.retM (.inl ⟨rfl, rfl, Sp.dv_no (fun hh => by have := hh.2.2.1; omega)⟩)
 intro hc8'
 try simp only [nrm] at hc8'
 refine W_skip (N_K (q2 (o_loadagg_B 0 H isAgg67 sizeOf67 Z Z Z Z Z (o_build bf70 Z Z Z (o_box H Z Z Z ?_))))); intro b9 w9 hb9 H
 refine aG Z (q1 (o_fieldAddr 1 runUnderlying67 Z sizeOf65 Z Z Z (o_load_B 1 H isAgg65 Z Z Z Z (o_buildSlice H underlying140 sizeOf65 (fun w => ⟨_, zeroValue65 w, Z⟩) Z Z Z Z Z Z Z ?_)))); intro b10 w10 hb10 H
 refine aG Z (q3 (W_seq (q2 (o_fieldAddr 2 runUnderlying27 Z sizeOf25 Z Z Z (o_load_B 5 H isAgg25 Z Z Z Z (o_len_slice underlying25 Z Z (mV Z (q3 (W_block ?_)))))))))
 have H := H.blkAcc 1 (k := 0) (n := 1) rfl rfl (by decide)
 have H := H.addF
 have H := H.addNil 124 2
 obtain ⟨ln12, hln12, H⟩ := H.nameAt (k := 3) (off := 4) rfl rfl
 obtain ⟨ln13, hln13, H⟩ := H.name (k := 4) rfl
 obtain ⟨ln14, hln14, H⟩ := H.name (k := 7) rfl
 refine W_lp (hf := (Sub.cons (t := 4) Z (Sub.cons (t := 6) Z (Sub.cons (t := 35) Z (Sub.cons (t := 36) Z Sub.nil))))) (J := fun M w m => ∃ (v : Value) (n : Nat) (cs : List Value) (xs : List (Bs × Nd)) (v1 : Value) (n1 : Nat) (cs1 : List Value) (xs1 : List (Nd)) (k : Nat) (FSq : Fr) (G : PH), M = [(37, .int .i64 (k : Int)), (7, v1)] ∧ PLe G3 G ∧ Hp w0 G0 [] w G [acc 124 2 v n cs, frag FSq, acc 65 1 v1 n1 cs1, blk b9 (cl (setN ln12 4 v) 70), blk b6 (cl ln13 67), blk mb3 (.map es3 ck3), frag F3, blk b2 (cl ln14 27)] ∧ (Chk osE 2 G cs xs ∧ n = xs.length ∧ Chk kdE 1 G cs1 xs1 ∧ n1 = xs1.length ∧ k ≤ d.snaps.length ∧ xs1 = T3 :: xs.map (·.2) ∧ NdsO 167 65 G (xs.map (·.2)) FSq ∧ SnOK xs (d.snaps.take k) ∧ ∀ (j : Nat) (s : BSnap), j < k → d.snaps[j]? = some s → Sp.l1Word s.name = true ∧ (j : Int) ≤ Sp.l12At d.snaps s.name) ∧ m = (d.snaps.length - k)) (h0 := ⟨_, _, _, [], _, _, _, [T3], 0, [], _, Z, PLe.refl _, H, ?inv, Z⟩) (round := ?round)
 case inv => exact ⟨(Chk.nil (E := osE) (sz := 2) (G := G3)), (by first | rfl | simp | (simp; omega) | omega), (chkK [T3]),  by first | rfl | simp | (simp; omega) | omega, (by exact ⟨by omega, rfl, by simp [NdsO], .nil, fun j s hj => by omega⟩)⟩
 case round =>
  rintro _ w15 _ ⟨v, n, cs, xs, v1, n1, cs1, xs1, k, FSq, G15, rfl, hle15, H, hinv15, rfl⟩
  subst hln12
  subst hln13
  subst hln14
  have hr1'' := hr1''.up hle15
  have hS3 := hS3.up hle15
  have hN3 := hN3.up hle15
  obtain ⟨hchk15_0, hn15_0, hinv15⟩ := hinv15
  obtain ⟨av15_0, cv15_0, rfl⟩ := H.accShape (k := 0) rfl
  obtain ⟨hchk15_1, hn15_1, hinv15⟩ := hinv15
  obtain ⟨av15_1, cv15_1, rfl⟩ := H.accShape (k := 2) rfl
  obtain ⟨hk, hx1, hNs, hSn, hw⟩ := hinv15; have hsl := hSn.len; have hxl6 : xs.length ≤ 6 := (by simp at hsl; omega); have hx1l : xs1.length = xs.length + 1 := by simp [hx1]
  refine q2 (o_lss Z Z Z (q3 (W_seq ?_)))
  refine W_cond Z ?_ ?_
  ·intro hc16
   try simp only [nrm] at hc16
   refine W_skip (N_K (W_seq (W_block (q2 (o_index_P k hr1'' underlying25 sizeOf46 Z Z Z Z aN ?_))))); intro b17 o17 z17 q17 hz17 hE17 hrow17
   obtain ⟨a17, m17, c17, rfl, hi17, hr17⟩ := hE17; have hy_hi17 : _ ≤ 16777216 := hi17; have hn_hr17 := hr17.len; have hx_hr17 : _ ≤ 1099511627776 := hr17.lim
   refine o_loadagg_P H isAgg46 sizeOf46 Z Z hrow17 Z (o_alloc H zeroValue46 Z Z ?_); intro b18 w18 hb18 H
   refine o_store_B 0 H sizeOf46 Z Z Z Z Z Z Z Z ?_; intro w19 H
   refine q1 (o_fieldAddr 1 runUnderlying46 Z sizeOf24 Z Z Z (o_load_B 0 H isAgg24 Z Z Z Z (o_call call93 Z Z (i_openTree_c _ _ H.sub _ _ hr17 H.lent0 ) ?_)))
   rintro _ w20 ⟨G20, _, _, rfl, H20', ⟨rfl, rfl, hv20⟩ | ⟨T20, F20, rfl, rfl, hN20, hT20, hv20⟩⟩
   ·skip
    have H := H.borrow0 H20'
    refine ⟨_, Z, ?_⟩
    refine mV Z (o_extract Z Z Z (o_extract Z Z Z (aG Z (aG Z (q3 (W_seq (q2 (mV Z (o_not Z Z (mV Z (rP Z (rP Z (rP Z (rP Z (o_pick_t Z Z Z ?_)))))))))))))))
    refine mV Z (rP Z (rP Z (rP Z (rP Z (rP Z (o_pick_t Z Z Z (q3 (W_true Z (q2 (aG Z (aG Z (q3 (W_ret (N_K_ret (N_B_ret ?_)))))))))))))))
    refine N_K_ret (N_LP_ret (N_B_ret (N_K_ret (rt2 results58 Z Z ?_))))
    have H := H.del (k := 0) rfl
    have H := H.del (k := 0) rfl
    have H := H.del (k := 0) rfl
    have H := H.del (k := 0) rfl
    have H := H.del (k := 0) rfl
    have H := H.del (k := 0) rfl
    have H := H.del (k := 0) rfl
    have H := H.del (k := 0) rfl
    have H := H.del (k := 0) rfl
    exact H.retM (.inl ⟨rfl, rfl, Sp.dv_no (fun hh => by (rw [(hh.2.2.2 k _ hz17).2.2] at hv20); cases hv20)⟩)
   skip
   have hchk15_0 := hchk15_0.up H20'.le
   have hchk15_1 := hchk15_1.up H20'.le
   have hNs := hNs.up H20'.le
   have hle15 := hle15.trans H20'.le
   have H := H.borrow0 H20'
   refine ⟨_, Z, ?_⟩
   refine mV Z (o_extract Z Z Z (o_extract Z Z Z (aG Z (aG Z (q3 (W_seq (q2 (mV Z (o_not Z Z (mV Z (gR Z (o_fieldAddr 0 runUnderlying46 Z sizeOf9 Z Z Z (gR Z (o_load_B 1 H isAgg9 Z Z Z Z (gR Z ?_)))))))))))))))
   refine o_call call74 Z Z (i_partValid_c _ _ hi17 ) ?_
   rintro _ w21 ⟨rfl, ew21⟩; have H := H.step ew21; refine ⟨_, rfl, ?_⟩
   refine gR Z (o_not Z Z (o_pick_f Z Z Z (mV Z ?_)))
   refine R_case (t := 55) Z ?_ ?_
   ·intro hc22
    try simp only [nrm] at hc22
    refine rP Z (rP Z (rP Z (rP Z (rP Z (o_pick_t Z Z Z (q3 (W_true Z (q2 (aG Z (aG Z (q3 (W_ret (N_K_ret (N_B_ret (N_K_ret ?_)))))))))))))))
    refine N_LP_ret (N_B_ret (N_K_ret (rt2 results58 Z Z ?_)))
    have H := H.del (k := 0) rfl
    have H := H.del (k := 0) rfl
    have H := H.del (k := 0) rfl
    have H := H.del (k := 0) rfl
    have H := H.del (k := 0) rfl
    have H := H.del (k := 0) rfl
    have H := H.del (k := 0) rfl
    have H := H.del (k := 0) rfl
    have H := H.del (k := 0) rfl
    have H := H.del (k := 0) rfl
    exact H.retM (.inl ⟨rfl, rfl, Sp.dv_no (fun hh => by have h9 := (hh.2.2.2 k _ hz17).1; simp_all)⟩)
   intro hc22'
   try simp only [nrm] at hc22'
   refine gR Z (mV Z (gR Z (o_fieldAddr 0 runUnderlying46 Z sizeOf9 Z Z Z (gR Z (o_load_B 1 H isAgg9 Z Z Z Z (gR Z (o_call call75 Z Z (i_snapAt_c _ _ (H.lendSubL [2, 5]) _ _ _ _ _ _ _ (prow_blk (H.lendPredL (k := 5) (ks := [2, 5]) Z Z)) (H.lendRdL (k := 2) (ks := [2, 5]) Z Z hchk15_0 aN aN) _ hi17 ) ?_)))))))
   rintro _ w23 ⟨rfl, ew23⟩; have H := H.step ew23; refine ⟨_, rfl, ?_⟩
   refine gR Z (o_geq Z Z Z (o_pick_f Z Z Z (q3 ?_)))
   refine W_cond Z ?_ ?_
   ·intro hc24
    try simp only [nrm] at hc24
    refine q2 (aG Z (aG Z (q3 (W_ret (N_K_ret (N_B_ret (N_K_ret (N_LP_ret (N_B_ret (N_K_ret (rt2 results58 Z Z ?_)))))))))))
    have H := H.del (k := 0) rfl
    have H := H.del (k := 0) rfl
    have H := H.del (k := 0) rfl
    have H := H.del (k := 0) rfl
    have H := H.del (k := 0) rfl
    have H := H.del (k := 0) rfl
    have H := H.del (k := 0) rfl
    have H := H.del (k := 0) rfl
    have H := H.del (k := 0) rfl
    have H := H.del (k := 0) rfl
    exact H.retM (.inl ⟨rfl, rfl, Sp.dv_no (fun hh => by have h9 := (Sp.at_take hz17).1 (hh.2.2.2 k _ hz17).2.1; (rw [← Sp.sn_find hSn] at h9); omega)⟩)
   intro hc24'
   try simp only [nrm] at hc24'
   refine W_skip (N_K (W_seq (W_drawK [1, 6, 9] 14 H kR Z ?_))); intro w25 H; have hd25 := PLe.refl G20
   refine vM 0 Z Z (vM 1 Z Z (RD_t 2 Z kR Z (fun _ hK => v_nilCheck Z) (RD_t 3 Z kR Z (fun _ hK => v_fieldAddr 4 runUnderlying70 Z sizeOf68 Z Z) (RD_t 5 Z kR Z (fun _ hK => v_fieldAddr 0 runUnderlying46 Z sizeOf9 Z Z) (RD_t 6 Z kR Z (fun _ hK => v_load_B 0 hK isAgg9 Z Z Z) (vM 7 Z Z (RD_t 8 Z kR Z (fun _ hK => v_build bf124 Z Z) ?_)))))))
   refine RD_run [4, 9] kR Z (RDs.cons Z ?_ (RDs.cons Z ?_ RDs.nil))
   ·skip
    refine o_load_B 5 H isAgg68 Z Z Z Z (R_nil (N_DK (Kn.of' H hd25 (SubL.cons 1 Z (SubL.cons 6 Z (SubL.cons 9 Z SubL.nil)))) ?_))
    refine RD_run [9] kR Z (RDs.cons Z ?_ RDs.nil)
    refine o_buildSlice H underlying68 sizeOf124 (fun w => ⟨_, zeroValue124 w, Z⟩) Z Z Z Z Z Z Z ?_; intro b26 w26 hb26 H
    refine R_nil (N_DK (Kn.of' H hd25 (SubL.cons 2 Z (SubL.cons 7 Z (SubL.cons 10 Z SubL.nil)))) ?_)
    refine RD_run [10] kR Z (RDs.cons Z ?_ RDs.nil)
    refine o_append1 2 H (sz := 2) (bytes := 24) underlying68 typeInfo124 ⟨_, Z, Z⟩ Z Z Z Z Z Z Z Z Z Z oM Z ?_; intro v27 w27 H
    have hchk27 := hchk15_0.snoc (show osE _ (z17.name, T20) _ from ⟨rfl, hi17⟩) rfl
    obtain ⟨av27, cv27, rfl⟩ := H.accShape (k := 2) rfl
    refine R_nil (N_DK (Kn.of' H hd25 (SubL.cons 1 Z (SubL.cons 6 Z (SubL.cons 9 Z SubL.nil)))) (RD_t 11 Z kR Z (fun _ hK => v_nilCheck Z) (RD_t 12 Z kR Z (fun _ hK => v_fieldAddr 4 runUnderlying70 Z sizeOf68 Z Z) ?_)))
    refine RD_run [13] kR Z (RDs.cons Z ?_ RDs.nil)
    have H := H.toFront (k := 3) rfl
    have H := H.mergeF
    refine o_store_B 4 H sizeOf68 Z Z Z Z Z Z Z Z ?_; intro w28 H
    refine R_nil (N_DK (Kn.of' H hd25 (SubL.cons 1 Z (SubL.cons 5 Z (SubL.cons 8 Z SubL.nil)))) (RD_done kR (N_K (W_region (mV Z (mV Z (o_buildSlice H underlying140 sizeOf65 (fun w => ⟨_, zeroValue65 w, Z⟩) Z Z Z Z Z Z Z ?_))))))); intro b29 w29 hb29 H
    refine o_append1 3 H (sz := 1) (bytes := 8) underlying140 typeInfo65 ⟨_, Z, Z⟩ Z Z Z Z Z Z Z Z Z Z oM Z ?_; intro v30 w30 H
    have hchk30 := hchk15_1.snoc (show kdE _ T20 _ from rfl) rfl
    obtain ⟨av30, cv30, rfl⟩ := H.accShape (k := 3) rfl
    refine aG Z (R_nil (N_B (N_K (W_region (o_add Z Z Z oO (mV Z (R_nil ?_)))))))
    have H := H.del (k := 1) rfl
    have H := H.toFront (k := 7) rfl
    have H := H.toFront (k := 7) rfl
    have H := H.toFront (k := 7) rfl
    have H := H.toFront (k := 7) rfl
    have H := H.toFront (k := 7) rfl
    have H := H.toFront (k := 7) rfl
    have H := H.toFront (k := 6) rfl
    have H := H.toFront (k := 7) rfl
    refine N_lp (hJ := ⟨_, _, _, (xs ++ [(z17.name, T20)]), _, _, _, (xs1 ++ [T20]), k + 1, (FSq ++ F20), _, Z, hle15, H, ?inv, Z⟩) (hm := ?hm)
    case hm => omega
    case inv => exact ⟨hchk27, aN, hchk30, aN, (by exact ⟨by omega, by simp [hx1], by simpa using hNs.snoc hN20, hSn.snoc2 hz17 rfl hT20 hv20, names_step hw hz17 (by simpa using hc22') hSn oM⟩)⟩
   skip
   refine o_buildSlice H underlying68 sizeOf124 (fun w => ⟨_, zeroValue124 w, Z⟩) Z Z Z Z Z Z Z ?_; intro b32 w32 hb32 H
   refine R_nil (N_DK (Kn.of' H hd25 (SubL.cons 2 Z (SubL.cons 7 Z (SubL.cons 10 Z SubL.nil)))) ?_)
   refine RD_run [4] kR Z (RDs.cons Z ?_ RDs.nil)
   refine o_load_B 6 H isAgg68 Z Z Z Z (R_nil (N_DK (Kn.of' H hd25 (SubL.cons 2 Z (SubL.cons 7 Z (SubL.cons 10 Z SubL.nil)))) ?_))
   refine RD_run [10] kR Z (RDs.cons Z ?_ RDs.nil)
   refine o_append1 2 H (sz := 2) (bytes := 24) underlying68 typeInfo124 ⟨_, Z, Z⟩ Z Z Z Z Z Z Z Z Z Z oM Z ?_; intro v33 w33 H
   have hchk33 := hchk15_0.snoc (show osE _ (z17.name, T20) _ from ⟨rfl, hi17⟩) rfl
   obtain ⟨av33, cv33, rfl⟩ := H.accShape (k := 2) rfl
   refine R_nil (N_DK (Kn.of' H hd25 (SubL.cons 1 Z (SubL.cons 6 Z (SubL.cons 9 Z SubL.nil)))) (RD_t 11 Z kR Z (fun _ hK => v_nilCheck Z) (RD_t 12 Z kR Z (fun _ hK => v_fieldAddr 4 runUnderlying70 Z sizeOf68 Z Z) ?_)))
   refine RD_run [13] kR Z (RDs.cons Z ?_ RDs.nil)
   have H := H.toFront (k := 3) rfl
   have H := H.mergeF
   refine o_store_B 4 H sizeOf68 Z Z Z Z Z Z Z Z ?_; intro w34 H
   refine R_nil (N_DK (Kn.of' H hd25 (SubL.cons 1 Z (SubL.cons 5 Z (SubL.cons 8 Z SubL.nil)))) (RD_done kR (N_K (W_region (mV Z (mV Z (o_buildSlice H underlying140 sizeOf65 (fun w => ⟨_, zeroValue65 w, Z⟩) Z Z Z Z Z Z Z ?_))))))); intro b35 w35 hb35 H
   refine o_append1 3 H (sz := 1) (bytes := 8) underlying140 typeInfo65 ⟨_, Z, Z⟩ Z Z Z Z Z Z Z Z Z Z oM Z ?_; intro v36 w36 H
   have hchk36 := hchk15_1.snoc (show kdE _ T20 _ from rfl) rfl
   obtain ⟨av36, cv36, rfl⟩ := H.accShape (k := 3) rfl
   refine aG Z (R_nil (N_B (N_K (W_region (o_add Z Z Z oO (mV Z (R_nil ?_)))))))
   have H := H.del (k := 1) rfl
   have H := H.toFront (k := 7) rfl
   have H := H.toFront (k := 7) rfl
   have H := H.toFront (k := 7) rfl
   have H := H.toFront (k := 7) rfl
   have H := H.toFront (k := 7) rfl
   have H := H.toFront (k := 7) rfl
   have H := H.toFront (k := 6) rfl
   have H := H.toFront (k := 7) rfl
   refine N_lp (hJ := ⟨_, _, _, (xs ++ [(z17.name, T20)]), _, _, _, (xs1 ++ [T20]), k + 1, (FSq ++ F20), _, Z, hle15, H, ?inv, Z⟩) (hm := ?hm)
   case hm => omega
   case inv => exact ⟨hchk33, aN, hchk36, aN, (by exact ⟨by omega, by simp [hx1], by simpa using hNs.snoc hN20, hSn.snoc2 hz17 rfl hT20 hv20, names_step hw hz17 (by simpa using hc22') hSn oM⟩)⟩
  intro hc16'
  try simp only [nrm] at hc16'
  refine W_exit (N_K_exit (N_LP_exit (N_B_same (N_K (W_seq (q2 (o_fieldAddr 0 runUnderlying67 Z sizeOf64 Z Z Z (o_load_B 4 H isAgg64 Z Z Z Z (mV Z ?_)))))))))
  refine o_call call94 Z Z (i_usedBy_c _ _ (H.lendSubL [1, 2, 5, 6]) _ _ _ _ _ (H.lendPredL (k := 5) (ks := [1, 2, 5, 6]) Z Z) hm3 (hS3.up (PPlus.le _ _ _)) hV3 _ _ (RdS.withN (H.lendRdL (k := 2) (ks := [1, 2, 5, 6]) Z Z hchk15_1 aN aN) (fun t ht => by (rw [hx1] at ht); rcases List.mem_cons.1 ht with rfl | ht; (· exact H.lendN (k := 6) rfl rfl hN3); (· exact H.lendNs (k := 1) rfl rfl hNs t ht))) oM (fun t ht => by (rw [hx1] at ht); rcases List.mem_cons.1 ht with rfl | ht; (· exact ⟨hT3.wf, by have := hT3.cnt; have := Sp.tree_len hv3; omega⟩); (· exact sn_ok hSn t ht))) ?_
  rintro _ w38 ⟨rfl, ew38⟩; have H := H.step ew38; refine ⟨_, rfl, ?_⟩
  refine o_not Z Z (q3 ?_)
  refine W_cond Z ?_ ?_
  ·intro hc39
   try simp only [nrm] at hc39
   refine q2 (aG Z (aG Z (q3 (W_ret (N_K_ret (rt2 results58 Z Z ?_))))))
   have H := H.del (k := 0) rfl
   have H := H.del (k := 0) rfl
   have H := H.del (k := 0) rfl
   have H := H.del (k := 0) rfl
   have H := H.del (k := 0) rfl
   have H := H.del (k := 0) rfl
   have H := H.del (k := 0) rfl
   have H := H.del (k := 0) rfl
   have hkk : k = d.snaps.length := by omega
   have hSnf : SnOK xs d.snaps := by (rw [hkk, List.take_length] at hSn; exact hSn)
   have hwf : ∀ (j : Nat) (s : BSnap), d.snaps[j]? = some s → Sp.l1Word s.name = true ∧ (j : Int) ≤ Sp.l12At d.snaps s.name := fun j s hs => hw j s (by have := (List.getElem?_eq_some_iff.1 hs).1; omega) hs
   exact H.retM (.inl ⟨rfl, rfl, (by (rw [Sp.dv_use (Sp.valid_iff.2 hV3) hT3 oM hSnf hwf, ← hx1]; unfold Sp.useOK; rw [Bool.and_eq_false_iff]; exact hc39))⟩)
  intro hc39'
  try simp only [nrm] at hc39'
  refine W_skip (N_K (q2 (mV Z (aG Z (aG Z (q3 (W_ret (rt2 results58 Z Z ?_))))))))
  have H := H.del (k := 2) rfl
  have H := H.del (k := 3) rfl
  have H := H.del (k := 5) rfl
  have H := H.toFront (k := 1) rfl
  have H := H.toFront (k := 1) rfl
  have H := H.toFront (k := 4) rfl
  have H := H.toFront (k := 4) rfl
  have H := H.toFront (k := 4) rfl
  have hkk : k = d.snaps.length := by omega
  have hSnf : SnOK xs d.snaps := by (rw [hkk, List.take_length] at hSn; exact hSn)
  have hwf : ∀ (j : Nat) (s : BSnap), d.snaps[j]? = some s → Sp.l1Word s.name = true ∧ (j : Int) ≤ Sp.l12At d.snaps s.name := fun j s hs => hw j s (by have := (List.getElem?_eq_some_iff.1 hs).1; omega) hs
  have hdv : Sp.DiskValid d = true := by (rw [Sp.dv_use (Sp.valid_iff.2 hV3) hT3 oM hSnf hwf, ← hx1]; unfold Sp.useOK; simpa using hc39')
  obtain rfl : n = xs.length := by assumption
  exact H.retM (.inr ⟨_, _, _, _, _, _, _, _, xs, _, _, Z, Z, hm3, hS3, hN3, hT3, hchk15_0, hNs, hSnf, hdv⟩)
end Go.Proofs.Tst

namespace Go.Proofs.Tst
open Go
abbrev muLink : Go.Conc.Locks.MuLink := { lock := 72, unlock := 73, ilock := 110, iunlock := 111, lockSlow := 142, unlockSlow := 145, disable := 138, enable := 140, acquire := 141, relMerge := 143, cas32 := 139, add32 := 144, tMutex := 62, tIMutex := 60, tPMutex := 165, tPIMutex := 197, tPI32 := 199, tUP := 150, tNoCopy := 57, tU32 := 58 }
theorem muLib : Go.Conc.Locks.MuLib Tryz.prog muLink where
 f_lock := by kernel_rfl
 f_unlock := by kernel_rfl
 f_ilock := by kernel_rfl
 f_iunlock := by kernel_rfl
 f_disable := by kernel_rfl
 f_enable := by kernel_rfl
 f_acquire := by kernel_rfl
 f_relMerge := by kernel_rfl
 f_cas32 := by kernel_rfl
 f_add32 := by kernel_rfl
 underlying_tIMutex := Tryz.underlying60
 runUnderlying_tIMutex := Tryz.runUnderlying60
 sizeOf_tIMutex := Tryz.sizeOf60
 isAgg_tIMutex := Tryz.isAgg60
 zeroValue_tIMutex := Tryz.zeroValue60
 underlying_tMutex := Tryz.underlying62
 runUnderlying_tMutex := Tryz.runUnderlying62
 sizeOf_tMutex := Tryz.sizeOf62
 isAgg_tMutex := Tryz.isAgg62
 zeroValue_tMutex := Tryz.zeroValue62
 underlying_tPMutex := Tryz.underlying165
 runUnderlying_tPMutex := Tryz.runUnderlying165
 sizeOf_tPMutex := Tryz.sizeOf165
 isAgg_tPMutex := Tryz.isAgg165
 zeroValue_tPMutex := Tryz.zeroValue165
 underlying_tPIMutex := Tryz.underlying197
 runUnderlying_tPIMutex := Tryz.runUnderlying197
 sizeOf_tPIMutex := Tryz.sizeOf197
 isAgg_tPIMutex := Tryz.isAgg197
 zeroValue_tPIMutex := Tryz.zeroValue197
 underlying_tPI32 := Tryz.underlying199
 runUnderlying_tPI32 := Tryz.runUnderlying199
 sizeOf_tPI32 := Tryz.sizeOf199
 isAgg_tPI32 := Tryz.isAgg199
 zeroValue_tPI32 := Tryz.zeroValue199
 underlying_tUP := Tryz.underlying150
 runUnderlying_tUP := Tryz.runUnderlying150
 sizeOf_tUP := Tryz.sizeOf150
 isAgg_tUP := Tryz.isAgg150
 zeroValue_tUP := Tryz.zeroValue150
 underlying_tNoCopy := Tryz.underlying57
 runUnderlying_tNoCopy := Tryz.runUnderlying57
 sizeOf_tNoCopy := Tryz.sizeOf57
 isAgg_tNoCopy := Tryz.isAgg57
 zeroValue_tNoCopy := Tryz.zeroValue57
 underlying_t21 := Tryz.underlying21
 runUnderlying_t21 := Tryz.runUnderlying21
 sizeOf_t21 := Tryz.sizeOf21
 isAgg_t21 := Tryz.isAgg21
 zeroValue_t21 := Tryz.zeroValue21
 room_tIMutex := by kernel_rfl
end Go.Proofs.Tst

namespace Go.Proofs.Tst
open Go Fw Tryz
theorem i_disk_c (w0 : World) (G0 : PH) (hG : PSub G0 w0) (db mb : Nat) (es : Array MapEntry) (ck : Nat) (xs : List (Int × Value)) (T : Nd) (FT : Fr) (sv : Value) (sn : List (Bs × Nd)) (c : List Value) (FSq : Fr) (d : BDisk) (hm : MapIs (Value.int .i64) es ck xs) (hS : StR G0 xs d.store) (hN : NdO 167 65 G0 T FT) (hT : Nd.TOK T d.tree) (hchk : Chk osE 2 G0 c sn) (hNs : NdsO 167 65 G0 (sn.map (·.2)) FSq) (hSn : SnOK sn d.snaps) (hVd : Sp.VH d.store) (hs6 : d.snaps.length ≤ 6) (hLent : Lent w0 G0 [blk db (cl [.int .i32 0, .int .u32 0, .map (some mb), .pointer (some ⟨T.b, 0, none⟩), sv] 70), blk mb (.map es ck), frag FT, acc 124 2 sv sn.length c, frag FSq])  :
  Calls Tryz.prog 71 #[.pointer (some ⟨db, 0, none⟩)] w0 (RetM w0 G0 (fps [blk db (cl [.int .i32 0, .int .u32 0, .map (some mb), .pointer (some ⟨T.b, 0, none⟩), sv] 70), blk mb (.map es ck), frag FT, acc 124 2 sv sn.length c, frag FSq]) (fun G' v Bs => ∃ (v1 v2 v3 : Value) (F1 F2 F3 : Fr), v = .agg #[v1, v2, v3] ∧ Bs = [frag F1, frag F2, frag F3] ∧ OHs F1 v1 d.store ∧ OIs F2 v2 d.tree ∧ OSn F3 v3 d.snaps)) := by
 have H : Hp w0 G0 (fps [blk db (cl [.int .i32 0, .int .u32 0, .map (some mb), .pointer (some ⟨T.b, 0, none⟩), sv] 70), blk mb (.map es ck), frag FT, acc 124 2 sv sn.length c, frag FSq]) w0 G0 [blk db (cl [.int .i32 0, .int .u32 0, .map (some mb), .pointer (some ⟨T.b, 0, none⟩), sv] 70), blk mb (.map es ck), frag FT, acc 124 2 sv sn.length c, frag FSq] := hLent.hp
 obtain ⟨adv, cdv, rfl⟩ := H.accShape (k := 3) rfl; have hTv := hT.valid; have hTc := hT.cnt; have hTl := Sp.tree_len hTv; have hsnl := hSn.len; have hxa := H.accShape (k := 3) rfl
 refine calls_of_WD (l := [.pointer (some ⟨db, 0, none⟩)]) func71 Z ntmps71 Z (q2 (o_alloc H zeroValue27 Z Z ?_)); intro b1 w1 hb1 H
 refine q1 (mV Z (o_nilCheck Z Z (o_fieldAddr 0 runUnderlying70 Z sizeOf62 Z Z Z (o_lock 1 H muLib Z call72 Z Z Z Z ?_)))); intro w2 H
 refine q1 (mV Z (o_nilCheck Z Z (o_fieldAddr 0 runUnderlying70 Z sizeOf62 Z Z Z (o_defer Z (q3 (W_seq (W_drawK [0, 1] 15 H kR Z ?_))))))); intro w3 H; have hd3 := PLe.refl G0
 refine vM 0 Z Z (RD_t 1 Z kR Z (fun _ hK => v_nilCheck Z) (RD_t 2 Z kR Z (fun _ hK => v_fieldAddr 2 runUnderlying70 Z sizeOf67 Z Z) (RD_t 3 Z kR Z (fun _ hK => v_fieldAddr 0 runUnderlying67 Z sizeOf64 Z Z) (RD_t 4 Z kR Z (fun _ hK => v_load_B 1 hK isAgg64 Z Z Z) (vM 6 Z Z (RD_t 7 Z kR Z (fun _ hK => v_nilCheck Z) (RD_t 8 Z kR Z (fun _ hK => v_fieldAddr 2 runUnderlying70 Z sizeOf67 Z Z) (RD_t 9 Z kR Z (fun _ hK => v_fieldAddr 1 runUnderlying67 Z sizeOf65 Z Z) (RD_t 10 Z kR Z (fun _ hK => v_load_B 1 hK isAgg65 Z Z Z) ?_)))))))))
 refine RD_run [5, 13] kR Z (RDs.cons Z ?_ (RDs.cons Z ?_ RDs.nil))
 ·skip
  refine o_call call30 Z Z (i_slist_c _ _ (H.lendSubL [2]) _ _ _ _ _ (H.lendPredL (k := 2) (ks := [2]) Z Z) hm (hS.up (PPlus.le _ _ _)) hVd ) ?_
  rintro _ w4 ⟨_, _, rfl, H4', ⟨F4, rfl, hO4⟩⟩
  have H := H.readersL H4'
  obtain ⟨e24, hP4⟩ := hO4
  obtain ⟨sa4, sc4, rfl⟩ := OwnS.shape hP4
  have hO4 := OHs.mk hP4
  refine ⟨_, Z, ?_⟩
  refine R_nil (N_DK (Kn.of' H hd3 (SubL.cons 1 Z (SubL.cons 2 Z SubL.nil))) ?_)
  refine RD_run [11, 13] kR Z (RDs.cons Z ?_ (RDs.cons Z ?_ RDs.nil))
  ·skip
   refine o_call call49 Z Z (i_tlist_c _ _ (H.lendSubL [4]) _ ((H.lendN (k := 4) (ks := [4]) Z Z hN).at (show Nd.at_ T [] = some T from Z)) hT.wf oM) ?_
   rintro _ w5 ⟨_, _, rfl, H5', ⟨F5, rfl, hO5⟩⟩
   have H := H.readersL H5'
   obtain ⟨e25, hP5⟩ := hO5
   obtain ⟨sa5, sc5, rfl⟩ := OwnS.shape hP5
   have hO5 := OIs.mk hP5
   refine ⟨_, Z, ?_⟩
   refine R_nil (N_DK (Kn.of' H hd3 (SubL.cons 2 Z (SubL.cons 3 Z SubL.nil))) (RD_t 12 Z kR Z (fun _ hK => v_build bf27 Z Z) ?_))
   refine RD_run [13] kR Z (RDs.cons Z ?_ RDs.nil)
   refine o_alloc H zeroValue27 Z Z ?_; intro b6 w6 hb6 H
   refine R_nil (N_DK (Kn.of' H hd3 (SubL.cons 3 Z (SubL.cons 4 Z SubL.nil))) ?_)
   refine RD_run [14] kR Z (RDs.cons Z ?_ RDs.nil)
   refine o_store_B 0 H sizeOf27 Z Z Z Z Z Z Z Z ?_; intro w7 H
   refine R_nil (N_DKlast kR kR (N_K (W_seq (q2 (mV Z (o_nilCheck Z Z (o_fieldAddr 4 runUnderlying70 Z sizeOf68 Z Z Z (o_load_B 4 H isAgg68 Z Z Z Z (o_len_slice underlying68 Z Z (mV Z (q3 (W_block ?_))))))))))))
   have H := H.addNil 46 2
   have H := H.addF
   obtain ⟨ln9, hln9, H⟩ := H.nameAt (k := 2) (off := 2) rfl rfl
   obtain ⟨ln10, hln10, H⟩ := H.name (k := 5) rfl
   obtain ⟨ln11, hln11, H⟩ := H.name (k := 6) rfl
   refine W_lp (hf := (Sub.cons (t := 2) Z (Sub.cons (t := 3) Z (Sub.cons (t := 29) Z (Sub.cons (t := 30) Z Sub.nil))))) (J := fun M w m => ∃ (v : Value) (n : Nat) (cs : List Value) (xs : List (BSnap)) (F : Fr) (k : Nat) (G : PH), M = [(31, .int .i64 (k : Int))] ∧ PLe G0 G ∧ Hp w0 G0 (fps [blk db (cl [.int .i32 0, .int .u32 0, .map (some mb), .pointer (some ⟨T.b, 0, none⟩), .slice adv sn.length cdv] 70), blk mb (.map es ck), frag FT, acc 124 2 (.slice adv sn.length cdv) sn.length c, frag FSq]) w G [frag F, acc 46 2 v n cs, blk b6 (cl (setN ln9 2 v) 27), frag F5, frag F4, blk b1 (cl ln10 27), blk db (cl ln11 70), blk mb (.map es ck), frag FT, acc 124 2 (.slice adv sn.length cdv) sn.length c, frag FSq] ∧ (ChkF snapO 2 cs xs F ∧ n = xs.length ∧ k ≤ sn.length ∧ xs = (sn.take k).map (fun x => (⟨x.1, x.2.flat []⟩ : BSnap))) ∧ m = (sn.length - k)) (h0 := ⟨_, _, _, [], [], 0, _, Z, PLe.refl _, H, ?inv, Z⟩) (round := ?round)
   case inv => exact ⟨ChkF.nil,  by first | rfl | simp | (simp; omega) | omega, (by simp)⟩
   case round =>
    rintro _ w12 _ ⟨v, n, cs, xs, F, k, G12, rfl, hle12, H, hinv12, rfl⟩
    subst hln9
    subst hln10
    subst hln11
    have hchk := hchk.up hle12
    have hNs := hNs.up hle12
    obtain ⟨hchk12_0, hn12_0, hinv12⟩ := hinv12
    obtain ⟨av12_0, cv12_0, rfl⟩ := H.accShape (k := 1) rfl
    obtain ⟨hk, hxs⟩ := hinv12; have hxl6 : xs.length ≤ 6 := by (rw [hxs]; simp; omega)
    refine q2 (o_lss Z Z Z (q3 (W_seq ?_)))
    refine W_cond Z ?_ ?_
    ·intro hc13
     try simp only [nrm] at hc13
     refine W_skip (N_K (W_seq (W_block (q2 (o_index_A 9 H k Z hchk underlying68 sizeOf124 Z Z Z Z aN aN ?_))))); intro ba14 z14 q14 hba14 hz14 hE14 hg14; cases hba14
     obtain ⟨rfl, hi14⟩ := hE14; have hy_hi14 : _ ≤ 16777216 := hi14
     refine o_loadagg_A 9 H isAgg124 sizeOf124 Z Z Z hg14 Z (o_alloc H zeroValue124 Z Z ?_); intro b15 w15 hb15 H
     refine o_store_B 0 H sizeOf124 Z Z Z Z Z Z Z Z ?_; intro w16 H
     refine q3 (W_drawK [0, 3, 6, 7] 12 H kR Z ?_); intro w17 H; have hd17 := PLe.refl G12
     refine RD_t 0 Z kR Z (fun _ hK => v_fieldAddr 2 runUnderlying27 Z sizeOf25 Z Z) (RD_t 1 Z kR Z (fun _ hK => v_load_B 1 hK isAgg25 Z Z Z) (RD_t 2 Z kR Z (fun _ hK => v_fieldAddr 0 runUnderlying124 Z sizeOf9 Z Z) (RD_t 3 Z kR Z (fun _ hK => v_load_B 0 hK isAgg9 Z Z Z) (RD_t 4 Z kR Z (fun _ hK => v_fieldAddr 1 runUnderlying124 Z sizeOf65 Z Z) (RD_t 5 Z kR Z (fun _ hK => v_load_B 0 hK isAgg65 Z Z Z) ?_)))))
     refine RD_run [6] kR Z (RDs.cons Z ?_ RDs.nil)
     refine o_call call49 Z Z (i_tlist_c _ _ (H.lendSubL [11]) _ (H.lendNs (k := 11) (ks := [11]) Z Z hNs z14.2 (List.mem_map_of_mem (List.mem_of_getElem? hz14))) (sn_ok hSn _ (List.mem_map_of_mem (List.mem_of_getElem? hz14))).1 (by have := (sn_ok hSn _ (List.mem_map_of_mem (List.mem_of_getElem? hz14))).2; omega)) ?_
     rintro _ w18 ⟨_, _, rfl, H18', ⟨F18, rfl, hO18⟩⟩
     have H := H.readersL H18'
     obtain ⟨e218, hP18⟩ := hO18
     obtain ⟨sa18, sc18, rfl⟩ := OwnS.shape hP18
     have hO18 := OIs.mk hP18
     refine ⟨_, Z, ?_⟩
     refine R_nil (N_DK (Kn.of' H hd17 (SubL.cons 1 Z (SubL.cons 4 Z (SubL.cons 7 Z (SubL.cons 8 Z SubL.nil))))) (RD_t 7 Z kR Z (fun _ hK => v_build bf46 Z Z) ?_))
     refine RD_run [8] kR Z (RDs.cons Z ?_ RDs.nil)
     refine o_buildSlice H underlying25 sizeOf46 (fun w => ⟨_, zeroValue46 w, Z⟩) Z Z Z Z Z Z Z ?_; intro b19 w19 hb19 H
     refine R_nil (N_DK (Kn.of' H hd17 (SubL.cons 2 Z (SubL.cons 5 Z (SubL.cons 8 Z (SubL.cons 9 Z SubL.nil))))) ?_)
     refine RD_run [9] kR Z (RDs.cons Z ?_ RDs.nil)
     refine o_append1 3 H (sz := 2) (bytes := 40) underlying25 typeInfo46 ⟨_, Z, Z⟩ Z Z Z Z Z Z Z Z Z Z oM Z ?_; intro v20 w20 H
     have hchk20 := hchk12_0.snoc (show snapO F18 ⟨z14.1, z14.2.flat []⟩ _ from ⟨_, _, _, rfl, hi14, hO18⟩) rfl
     have H := H.toFront (k := 2) rfl
     have H := H.mergeF
     obtain ⟨av20, cv20, rfl⟩ := H.accShape (k := 2) rfl
     refine R_nil (N_DK (Kn.of' H hd17 (SubL.cons 1 Z (SubL.cons 3 Z (SubL.cons 6 Z (SubL.cons 7 Z SubL.nil))))) (RD_t 10 Z kR Z (fun _ hK => v_fieldAddr 2 runUnderlying27 Z sizeOf25 Z Z) ?_))
     refine RD_run [11] kR Z (RDs.cons Z ?_ RDs.nil)
     refine o_store_B 3 H sizeOf25 Z Z Z Z Z Z Z Z ?_; intro w21 H
     refine R_nil (N_DKlast kR kR (N_B (N_K (W_region (o_add Z Z Z oO (mV Z (R_nil ?_)))))))
     have H := H.del (k := 1) rfl
     refine N_lp (hJ := ⟨_, _, _, (xs ++ [⟨z14.1, z14.2.flat []⟩]), (F ++ F18), k + 1, _, Z, hle12, H, ?inv, Z⟩) (hm := ?hm)
     case hm => omega
     case inv => exact ⟨hchk20, aN, (by exact ⟨by omega, by (rw [Sp.take_succ' hz14, List.map_append, ← hxs]; rfl)⟩)⟩
    intro hc13'
    try simp only [nrm] at hc13'
    refine W_exit (N_K_exit (N_LP_exit (N_B_same (N_K (q2 (o_loadagg_B 2 H isAgg27 sizeOf27 Z Z Z Z Z (o_store_B 5 H sizeOf27 Z Z Z Z Z Z Z Z ?_))))))); intro w23 H
    refine q3 (W_ret (ret_unlock 6 H muLib Z call73 Z Z (rs := [.cell 2 27]) results71 ?_)); intro wu2 H
    refine ⟨[_], ⟨⟨_, Z, load_blk 5 H isAgg27 sizeOf27 Z Z Z⟩, trivial⟩, ?_⟩
    have H := H.toFront (k := 1) rfl
    obtain ⟨Fo3, H, hOw3⟩ := H.ownF hchk12_0 aN aN
    have H := H.del (k := 1) rfl
    have H := H.del (k := 3) rfl
    have H := H.del (k := 3) rfl
    have H := H.del (k := 3) rfl
    have H := H.del (k := 3) rfl
    have H := H.del (k := 3) rfl
    have H := H.del (k := 3) rfl
    have H := H.toFront (k := 1) rfl
    have H := H.toFront (k := 2) rfl
    have hxs2 : xs = d.snaps := by (rw [hxs, List.take_of_length_le oM]; exact sn_list hSn)
    exact H.retM ⟨_, _, _, _, _, _, rfl, rfl, hO4, (by (rw [← hT.flat]); exact hO5), (by have h9 := (show OSn _ _ _ from ⟨_, hOw3⟩); (rw [hxs2] at h9); exact h9)⟩
  skip
  refine o_alloc H zeroValue27 Z Z ?_; intro b24 w24 hb24 H
  refine R_nil (N_DK (Kn.of' H hd3 (SubL.cons 2 Z (SubL.cons 3 Z SubL.nil))) ?_)
  refine RD_run [11] kR Z (RDs.cons Z ?_ RDs.nil)
  refine o_call call49 Z Z (i_tlist_c _ _ (H.lendSubL [5]) _ ((H.lendN (k := 5) (ks := [5]) Z Z hN).at (show Nd.at_ T [] = some T from Z)) hT.wf oM) ?_
  rintro _ w25 ⟨_, _, rfl, H25', ⟨F25, rfl, hO25⟩⟩
  have H := H.readersL H25'
  obtain ⟨e225, hP25⟩ := hO25
  obtain ⟨sa25, sc25, rfl⟩ := OwnS.shape hP25
  have hO25 := OIs.mk hP25
  refine ⟨_, Z, ?_⟩
  refine R_nil (N_DK (Kn.of' H hd3 (SubL.cons 3 Z (SubL.cons 4 Z SubL.nil))) (RD_t 12 Z kR Z (fun _ hK => v_build bf27 Z Z) ?_))
  refine RD_run [14] kR Z (RDs.cons Z ?_ RDs.nil)
  refine o_store_B 1 H sizeOf27 Z Z Z Z Z Z Z Z ?_; intro w26 H
  refine R_nil (N_DKlast kR kR (N_K (W_seq (q2 (mV Z (o_nilCheck Z Z (o_fieldAddr 4 runUnderlying70 Z sizeOf68 Z Z Z (o_load_B 4 H isAgg68 Z Z Z Z (o_len_slice underlying68 Z Z (mV Z (q3 (W_block ?_))))))))))))
  have H := H.addNil 46 2
  have H := H.addF
  obtain ⟨ln28, hln28, H⟩ := H.nameAt (k := 3) (off := 2) rfl rfl
  obtain ⟨ln29, hln29, H⟩ := H.name (k := 5) rfl
  obtain ⟨ln30, hln30, H⟩ := H.name (k := 6) rfl
  refine W_lp (hf := (Sub.cons (t := 2) Z (Sub.cons (t := 3) Z (Sub.cons (t := 29) Z (Sub.cons (t := 30) Z Sub.nil))))) (J := fun M w m => ∃ (v : Value) (n : Nat) (cs : List Value) (xs : List (BSnap)) (F : Fr) (k : Nat) (G : PH), M = [(31, .int .i64 (k : Int))] ∧ PLe G0 G ∧ Hp w0 G0 (fps [blk db (cl [.int .i32 0, .int .u32 0, .map (some mb), .pointer (some ⟨T.b, 0, none⟩), .slice adv sn.length cdv] 70), blk mb (.map es ck), frag FT, acc 124 2 (.slice adv sn.length cdv) sn.length c, frag FSq]) w G [frag F, acc 46 2 v n cs, frag F25, blk b24 (cl (setN ln28 2 v) 27), frag F4, blk b1 (cl ln29 27), blk db (cl ln30 70), blk mb (.map es ck), frag FT, acc 124 2 (.slice adv sn.length cdv) sn.length c, frag FSq] ∧ (ChkF snapO 2 cs xs F ∧ n = xs.length ∧ k ≤ sn.length ∧ xs = (sn.take k).map (fun x => (⟨x.1, x.2.flat []⟩ : BSnap))) ∧ m = (sn.length - k)) (h0 := ⟨_, _, _, [], [], 0, _, Z, PLe.refl _, H, ?inv, Z⟩) (round := ?round)
  case inv => exact ⟨ChkF.nil,  by first | rfl | simp | (simp; omega) | omega, (by simp)⟩
  case round =>
   rintro _ w31 _ ⟨v, n, cs, xs, F, k, G31, rfl, hle31, H, hinv31, rfl⟩
   subst hln28
   subst hln29
   subst hln30
   have hchk := hchk.up hle31
   have hNs := hNs.up hle31
   obtain ⟨hchk31_0, hn31_0, hinv31⟩ := hinv31
   obtain ⟨av31_0, cv31_0, rfl⟩ := H.accShape (k := 1) rfl
   obtain ⟨hk, hxs⟩ := hinv31; have hxl6 : xs.length ≤ 6 := by (rw [hxs]; simp; omega)
   refine q2 (o_lss Z Z Z (q3 (W_seq ?_)))
   refine W_cond Z ?_ ?_
   ·intro hc32
    try simp only [nrm] at hc32
    refine W_skip (N_K (W_seq (W_block (q2 (o_index_A 9 H k Z hchk underlying68 sizeOf124 Z Z Z Z aN aN ?_))))); intro ba33 z33 q33 hba33 hz33 hE33 hg33; cases hba33
    obtain ⟨rfl, hi33⟩ := hE33; have hy_hi33 : _ ≤ 16777216 := hi33
    refine o_loadagg_A 9 H isAgg124 sizeOf124 Z Z Z hg33 Z (o_alloc H zeroValue124 Z Z ?_); intro b34 w34 hb34 H
    refine o_store_B 0 H sizeOf124 Z Z Z Z Z Z Z Z ?_; intro w35 H
    refine q3 (W_drawK [0, 4, 6, 7] 12 H kR Z ?_); intro w36 H; have hd36 := PLe.refl G31
    refine RD_t 0 Z kR Z (fun _ hK => v_fieldAddr 2 runUnderlying27 Z sizeOf25 Z Z) (RD_t 1 Z kR Z (fun _ hK => v_load_B 1 hK isAgg25 Z Z Z) (RD_t 2 Z kR Z (fun _ hK => v_fieldAddr 0 runUnderlying124 Z sizeOf9 Z Z) (RD_t 3 Z kR Z (fun _ hK => v_load_B 0 hK isAgg9 Z Z Z) (RD_t 4 Z kR Z (fun _ hK => v_fieldAddr 1 runUnderlying124 Z sizeOf65 Z Z) (RD_t 5 Z kR Z (fun _ hK => v_load_B 0 hK isAgg65 Z Z Z) ?_)))))
    refine RD_run [6] kR Z (RDs.cons Z ?_ RDs.nil)
    refine o_call call49 Z Z (i_tlist_c _ _ (H.lendSubL [11]) _ (H.lendNs (k := 11) (ks := [11]) Z Z hNs z33.2 (List.mem_map_of_mem (List.mem_of_getElem? hz33))) (sn_ok hSn _ (List.mem_map_of_mem (List.mem_of_getElem? hz33))).1 (by have := (sn_ok hSn _ (List.mem_map_of_mem (List.mem_of_getElem? hz33))).2; omega)) ?_
    rintro _ w37 ⟨_, _, rfl, H37', ⟨F37, rfl, hO37⟩⟩
    have H := H.readersL H37'
    obtain ⟨e237, hP37⟩ := hO37
    obtain ⟨sa37, sc37, rfl⟩ := OwnS.shape hP37
    have hO37 := OIs.mk hP37
    refine ⟨_, Z, ?_⟩
    refine R_nil (N_DK (Kn.of' H hd36 (SubL.cons 1 Z (SubL.cons 5 Z (SubL.cons 7 Z (SubL.cons 8 Z SubL.nil))))) (RD_t 7 Z kR Z (fun _ hK => v_build bf46 Z Z) ?_))
    refine RD_run [8] kR Z (RDs.cons Z ?_ RDs.nil)
    refine o_buildSlice H underlying25 sizeOf46 (fun w => ⟨_, zeroValue46 w, Z⟩) Z Z Z Z Z Z Z ?_; intro b38 w38 hb38 H
    refine R_nil (N_DK (Kn.of' H hd36 (SubL.cons 2 Z (SubL.cons 6 Z (SubL.cons 8 Z (SubL.cons 9 Z SubL.nil))))) ?_)
    refine RD_run [9] kR Z (RDs.cons Z ?_ RDs.nil)
    refine o_append1 3 H (sz := 2) (bytes := 40) underlying25 typeInfo46 ⟨_, Z, Z⟩ Z Z Z Z Z Z Z Z Z Z oM Z ?_; intro v39 w39 H
    have hchk39 := hchk31_0.snoc (show snapO F37 ⟨z33.1, z33.2.flat []⟩ _ from ⟨_, _, _, rfl, hi33, hO37⟩) rfl
    have H := H.toFront (k := 2) rfl
    have H := H.mergeF
    obtain ⟨av39, cv39, rfl⟩ := H.accShape (k := 2) rfl
    refine R_nil (N_DK (Kn.of' H hd36 (SubL.cons 1 Z (SubL.cons 4 Z (SubL.cons 6 Z (SubL.cons 7 Z SubL.nil))))) (RD_t 10 Z kR Z (fun _ hK => v_fieldAddr 2 runUnderlying27 Z sizeOf25 Z Z) ?_))
    refine RD_run [11] kR Z (RDs.cons Z ?_ RDs.nil)
    refine o_store_B 4 H sizeOf25 Z Z Z Z Z Z Z Z ?_; intro w40 H
    refine R_nil (N_DKlast kR kR (N_B (N_K (W_region (o_add Z Z Z oO (mV Z (R_nil ?_)))))))
    have H := H.del (k := 1) rfl
    refine N_lp (hJ := ⟨_, _, _, (xs ++ [⟨z33.1, z33.2.flat []⟩]), (F ++ F37), k + 1, _, Z, hle31, H, ?inv, Z⟩) (hm := ?hm)
    case hm => omega
    case inv => exact ⟨hchk39, aN, (by exact ⟨by omega, by (rw [Sp.take_succ' hz33, List.map_append, ← hxs]; rfl)⟩)⟩
   intro hc32'
   try simp only [nrm] at hc32'
   refine W_exit (N_K_exit (N_LP_exit (N_B_same (N_K (q2 (o_loadagg_B 3 H isAgg27 sizeOf27 Z Z Z Z Z (o_store_B 5 H sizeOf27 Z Z Z Z Z Z Z Z ?_))))))); intro w42 H
   refine q3 (W_ret (ret_unlock 6 H muLib Z call73 Z Z (rs := [.cell 2 27]) results71 ?_)); intro wu5 H
   refine ⟨[_], ⟨⟨_, Z, load_blk 5 H isAgg27 sizeOf27 Z Z Z⟩, trivial⟩, ?_⟩
   have H := H.toFront (k := 1) rfl
   obtain ⟨Fo6, H, hOw6⟩ := H.ownF hchk31_0 aN aN
   have H := H.del (k := 2) rfl
   have H := H.del (k := 3) rfl
   have H := H.del (k := 3) rfl
   have H := H.del (k := 3) rfl
   have H := H.del (k := 3) rfl
   have H := H.del (k := 3) rfl
   have H := H.del (k := 3) rfl
   have H := H.toFront (k := 1) rfl
   have H := H.toFront (k := 2) rfl
   have hxs2 : xs = d.snaps := by (rw [hxs, List.take_of_length_le oM]; exact sn_list hSn)
   exact H.retM ⟨_, _, _, _, _, _, rfl, rfl, hO4, (by (rw [← hT.flat]); exact hO25), (by have h9 := (show OSn _ _ _ from ⟨_, hOw6⟩); (rw [hxs2] at h9); exact h9)⟩
 skip
 refine o_alloc H zeroValue27 Z Z ?_; intro b43 w43 hb43 H
 refine R_nil (N_DK (Kn.of' H hd3 (SubL.cons 1 Z (SubL.cons 2 Z SubL.nil))) ?_)
 refine RD_run [5] kR Z (RDs.cons Z ?_ RDs.nil)
 refine o_call call30 Z Z (i_slist_c _ _ (H.lendSubL [3]) _ _ _ _ _ (H.lendPredL (k := 3) (ks := [3]) Z Z) hm (hS.up (PPlus.le _ _ _)) hVd ) ?_
 rintro _ w44 ⟨_, _, rfl, H44', ⟨F44, rfl, hO44⟩⟩
 have H := H.readersL H44'
 obtain ⟨e244, hP44⟩ := hO44
 obtain ⟨sa44, sc44, rfl⟩ := OwnS.shape hP44
 have hO44 := OHs.mk hP44
 refine ⟨_, Z, ?_⟩
 refine R_nil (N_DK (Kn.of' H hd3 (SubL.cons 2 Z (SubL.cons 3 Z SubL.nil))) ?_)
 refine RD_run [11] kR Z (RDs.cons Z ?_ RDs.nil)
 refine o_call call49 Z Z (i_tlist_c _ _ (H.lendSubL [5]) _ ((H.lendN (k := 5) (ks := [5]) Z Z hN).at (show Nd.at_ T [] = some T from Z)) hT.wf oM) ?_
 rintro _ w45 ⟨_, _, rfl, H45', ⟨F45, rfl, hO45⟩⟩
 have H := H.readersL H45'
 obtain ⟨e245, hP45⟩ := hO45
 obtain ⟨sa45, sc45, rfl⟩ := OwnS.shape hP45
 have hO45 := OIs.mk hP45
 refine ⟨_, Z, ?_⟩
 refine R_nil (N_DK (Kn.of' H hd3 (SubL.cons 3 Z (SubL.cons 4 Z SubL.nil))) (RD_t 12 Z kR Z (fun _ hK => v_build bf27 Z Z) ?_))
 refine RD_run [14] kR Z (RDs.cons Z ?_ RDs.nil)
 refine o_store_B 2 H sizeOf27 Z Z Z Z Z Z Z Z ?_; intro w46 H
 refine R_nil (N_DKlast kR kR (N_K (W_seq (q2 (mV Z (o_nilCheck Z Z (o_fieldAddr 4 runUnderlying70 Z sizeOf68 Z Z Z (o_load_B 4 H isAgg68 Z Z Z Z (o_len_slice underlying68 Z Z (mV Z (q3 (W_block ?_))))))))))))
 have H := H.addNil 46 2
 have H := H.addF
 obtain ⟨ln48, hln48, H⟩ := H.nameAt (k := 4) (off := 2) rfl rfl
 obtain ⟨ln49, hln49, H⟩ := H.name (k := 5) rfl
 obtain ⟨ln50, hln50, H⟩ := H.name (k := 6) rfl
 refine W_lp (hf := (Sub.cons (t := 2) Z (Sub.cons (t := 3) Z (Sub.cons (t := 29) Z (Sub.cons (t := 30) Z Sub.nil))))) (J := fun M w m => ∃ (v : Value) (n : Nat) (cs : List Value) (xs : List (BSnap)) (F : Fr) (k : Nat) (G : PH), M = [(31, .int .i64 (k : Int))] ∧ PLe G0 G ∧ Hp w0 G0 (fps [blk db (cl [.int .i32 0, .int .u32 0, .map (some mb), .pointer (some ⟨T.b, 0, none⟩), .slice adv sn.length cdv] 70), blk mb (.map es ck), frag FT, acc 124 2 (.slice adv sn.length cdv) sn.length c, frag FSq]) w G [frag F, acc 46 2 v n cs, frag F45, frag F44, blk b43 (cl (setN ln48 2 v) 27), blk b1 (cl ln49 27), blk db (cl ln50 70), blk mb (.map es ck), frag FT, acc 124 2 (.slice adv sn.length cdv) sn.length c, frag FSq] ∧ (ChkF snapO 2 cs xs F ∧ n = xs.length ∧ k ≤ sn.length ∧ xs = (sn.take k).map (fun x => (⟨x.1, x.2.flat []⟩ : BSnap))) ∧ m = (sn.length - k)) (h0 := ⟨_, _, _, [], [], 0, _, Z, PLe.refl _, H, ?inv, Z⟩) (round := ?round)
 case inv => exact ⟨ChkF.nil,  by first | rfl | simp | (simp; omega) | omega, (by simp)⟩
 case round =>
  rintro _ w51 _ ⟨v, n, cs, xs, F, k, G51, rfl, hle51, H, hinv51, rfl⟩
  subst hln48
  subst hln49
  subst hln50
  have hchk := hchk.up hle51
  have hNs := hNs.up hle51
  obtain ⟨hchk51_0, hn51_0, hinv51⟩ := hinv51
  obtain ⟨av51_0, cv51_0, rfl⟩ := H.accShape (k := 1) rfl
  obtain ⟨hk, hxs⟩ := hinv51; have hxl6 : xs.length ≤ 6 := by (rw [hxs]; simp; omega)
  refine q2 (o_lss Z Z Z (q3 (W_seq ?_)))
  refine W_cond Z ?_ ?_
  ·intro hc52
   try simp only [nrm] at hc52
   refine W_skip (N_K (W_seq (W_block (q2 (o_index_A 9 H k Z hchk underlying68 sizeOf124 Z Z Z Z aN aN ?_))))); intro ba53 z53 q53 hba53 hz53 hE53 hg53; cases hba53
   obtain ⟨rfl, hi53⟩ := hE53; have hy_hi53 : _ ≤ 16777216 := hi53
   refine o_loadagg_A 9 H isAgg124 sizeOf124 Z Z Z hg53 Z (o_alloc H zeroValue124 Z Z ?_); intro b54 w54 hb54 H
   refine o_store_B 0 H sizeOf124 Z Z Z Z Z Z Z Z ?_; intro w55 H
   refine q3 (W_drawK [0, 5, 6, 7] 12 H kR Z ?_); intro w56 H; have hd56 := PLe.refl G51
   refine RD_t 0 Z kR Z (fun _ hK => v_fieldAddr 2 runUnderlying27 Z sizeOf25 Z Z) (RD_t 1 Z kR Z (fun _ hK => v_load_B 1 hK isAgg25 Z Z Z) (RD_t 2 Z kR Z (fun _ hK => v_fieldAddr 0 runUnderlying124 Z sizeOf9 Z Z) (RD_t 3 Z kR Z (fun _ hK => v_load_B 0 hK isAgg9 Z Z Z) (RD_t 4 Z kR Z (fun _ hK => v_fieldAddr 1 runUnderlying124 Z sizeOf65 Z Z) (RD_t 5 Z kR Z (fun _ hK => v_load_B 0 hK isAgg65 Z Z Z) ?_)))))
   refine RD_run [6] kR Z (RDs.cons Z ?_ RDs.nil)
   refine o_call call49 Z Z (i_tlist_c _ _ (H.lendSubL [11]) _ (H.lendNs (k := 11) (ks := [11]) Z Z hNs z53.2 (List.mem_map_of_mem (List.mem_of_getElem? hz53))) (sn_ok hSn _ (List.mem_map_of_mem (List.mem_of_getElem? hz53))).1 (by have := (sn_ok hSn _ (List.mem_map_of_mem (List.mem_of_getElem? hz53))).2; omega)) ?_
   rintro _ w57 ⟨_, _, rfl, H57', ⟨F57, rfl, hO57⟩⟩
   have H := H.readersL H57'
   obtain ⟨e257, hP57⟩ := hO57
   obtain ⟨sa57, sc57, rfl⟩ := OwnS.shape hP57
   have hO57 := OIs.mk hP57
   refine ⟨_, Z, ?_⟩
   refine R_nil (N_DK (Kn.of' H hd56 (SubL.cons 1 Z (SubL.cons 6 Z (SubL.cons 7 Z (SubL.cons 8 Z SubL.nil))))) (RD_t 7 Z kR Z (fun _ hK => v_build bf46 Z Z) ?_))
   refine RD_run [8] kR Z (RDs.cons Z ?_ RDs.nil)
   refine o_buildSlice H underlying25 sizeOf46 (fun w => ⟨_, zeroValue46 w, Z⟩) Z Z Z Z Z Z Z ?_; intro b58 w58 hb58 H
   refine R_nil (N_DK (Kn.of' H hd56 (SubL.cons 2 Z (SubL.cons 7 Z (SubL.cons 8 Z (SubL.cons 9 Z SubL.nil))))) ?_)
   refine RD_run [9] kR Z (RDs.cons Z ?_ RDs.nil)
   refine o_append1 3 H (sz := 2) (bytes := 40) underlying25 typeInfo46 ⟨_, Z, Z⟩ Z Z Z Z Z Z Z Z Z Z oM Z ?_; intro v59 w59 H
   have hchk59 := hchk51_0.snoc (show snapO F57 ⟨z53.1, z53.2.flat []⟩ _ from ⟨_, _, _, rfl, hi53, hO57⟩) rfl
   have H := H.toFront (k := 2) rfl
   have H := H.mergeF
   obtain ⟨av59, cv59, rfl⟩ := H.accShape (k := 2) rfl
   refine R_nil (N_DK (Kn.of' H hd56 (SubL.cons 1 Z (SubL.cons 5 Z (SubL.cons 6 Z (SubL.cons 7 Z SubL.nil))))) (RD_t 10 Z kR Z (fun _ hK => v_fieldAddr 2 runUnderlying27 Z sizeOf25 Z Z) ?_))
   refine RD_run [11] kR Z (RDs.cons Z ?_ RDs.nil)
   refine o_store_B 5 H sizeOf25 Z Z Z Z Z Z Z Z ?_; intro w60 H
   refine R_nil (N_DKlast kR kR (N_B (N_K (W_region (o_add Z Z Z oO (mV Z (R_nil ?_)))))))
   have H := H.del (k := 1) rfl
   refine N_lp (hJ := ⟨_, _, _, (xs ++ [⟨z53.1, z53.2.flat []⟩]), (F ++ F57), k + 1, _, Z, hle51, H, ?inv, Z⟩) (hm := ?hm)
   case hm => omega
   case inv => exact ⟨hchk59, aN, (by exact ⟨by omega, by (rw [Sp.take_succ' hz53, List.map_append, ← hxs]; rfl)⟩)⟩
  intro hc52'
  try simp only [nrm] at hc52'
  refine W_exit (N_K_exit (N_LP_exit (N_B_same (N_K (q2 (o_loadagg_B 4 H isAgg27 sizeOf27 Z Z Z Z Z (o_store_B 5 H sizeOf27 Z Z Z Z Z Z Z Z ?_))))))); intro w62 H
  refine q3 (W_ret (ret_unlock 6 H muLib Z call73 Z Z (rs := [.cell 2 27]) results71 ?_)); intro wu8 H
  refine ⟨[_], ⟨⟨_, Z, load_blk 5 H isAgg27 sizeOf27 Z Z Z⟩, trivial⟩, ?_⟩
  have H := H.toFront (k := 1) rfl
  obtain ⟨Fo9, H, hOw9⟩ := H.ownF hchk51_0 aN aN
  have H := H.del (k := 3) rfl
  have H := H.del (k := 3) rfl
  have H := H.del (k := 3) rfl
  have H := H.del (k := 3) rfl
  have H := H.del (k := 3) rfl
  have H := H.del (k := 3) rfl
  have H := H.del (k := 3) rfl
  have H := H.toFront (k := 1) rfl
  have H := H.toFront (k := 2) rfl
  have hxs2 : xs = d.snaps := by (rw [hxs, List.take_of_length_le oM]; exact sn_list hSn)
  exact H.retM ⟨_, _, _, _, _, _, rfl, rfl, hO44, (by (rw [← hT.flat]); exact hO45), (by have h9 := (show OSn _ _ _ from ⟨_, hOw9⟩); (rw [hxs2] at h9); exact h9)⟩
end Go.Proofs.Tst

namespace Go.Proofs.Tst
open Go Fw Tryz
theorem i_clone_r : ∀ (N : Nat) (w0 : World) (G0 : PH) (hG : PSub G0 w0) (t : Nd) (hndt : RdN G0 t) (hct : t.cnt ≤ 1000) (hsz : t.size ≤ N),
  Calls Tryz.prog 76 #[.pointer (some ⟨t.b, 0, none⟩)] w0 (RetN w0 G0 (fun v Bs => ∃ (F : Fr) (T : Nd), v = .pointer (some ⟨T.b, 0, none⟩) ∧ Bs = [frag F] ∧ NdC 167 65 T F ∧ T.strip = t.strip)) := by
 intro N
 induction N with
 | zero => intro w0 G0 hG t hndt hct hsz; exact absurd (Nd.size_pos t) oM
 | succ N ih =>
 intro w0 G0 hG t hndt hct hsz
 obtain ⟨hnlt, nat, nmt, nct, nAt, nMt, nCt, hprt, hrit, hrkt⟩ := hndt.open
 have hn_hrit := hrit.len; have hx_hrit : _ ≤ 1099511627776 := hrit.lim
 have hn_hrkt := hrkt.len; have hx_hrkt : _ ≤ 1099511627776 := hrkt.lim
 have H := Hp.init hG
 refine calls_of_W (l := [.pointer (some ⟨t.b, 0, none⟩)]) func76 Z ntmps76 Z (q2 (aG Z (q3 (W_seq (W_drawK [] 16 H kR Z ?_))))); intro w1 H; have hd1 := PLe.refl G0
 refine vM 0 Z Z (RD_t 1 Z kR Z (fun _ hK => v_nilCheck Z) (RD_t 2 Z kR Z (fun _ hK => v_fieldAddr 0 runUnderlying167 Z sizeOf9 Z Z) (RD_t 3 Z kR Z (fun _ hK => v_load_P hK isAgg9 Z (hprt 0 _ Z)) (vM 4 Z Z (RD_t 5 Z kR Z (fun _ hK => v_nilCheck Z) (RD_t 6 Z kR Z (fun _ hK => v_fieldAddr 1 runUnderlying167 Z sizeOf4 Z Z) (RD_t 7 Z kR Z (fun _ hK => v_load_P hK isAgg4 Z (hprt 1 _ Z)) (vM 8 Z Z (RD_t 9 Z kR Z (fun _ hK => v_nilCheck Z) (RD_t 10 Z kR Z (fun _ hK => v_fieldAddr 2 runUnderlying167 Z sizeOf38 Z Z) (RD_t 11 Z kR Z (fun _ hK => v_load_P hK isAgg38 Z (hprt 2 _ Z)) ?_)))))))))))
 refine RD_run [12] kR Z (RDs.cons Z ?_ RDs.nil)
 refine o_call call68 Z Z (l_Clone_c _ _ H.sub _ _ hrit ) ?_
 rintro _ w2 ⟨G2, v2, _, g2, rfl, ⟨cs2, rfl, hchk2⟩, hp2, hq2, hs2⟩
 have H := H.growO g2 hp2 hq2 hs2; obtain ⟨av2, cv2, rfl⟩ := H.accShape (k := 0) rfl
 have hprt := hprt.up g2.le
 have hrkt := hrkt.up g2.le
 have hd1 := hd1.trans g2.le
 refine ⟨_, Z, ?_⟩
 refine R_nil (N_DK (Kn.of' H hd1 SubL.nil) (RD_t 13 Z kR Z (fun _ hK => v_build bf167 Z Z) ?_))
 refine RD_run [14] kR Z (RDs.cons Z ?_ RDs.nil)
 refine o_box H Z Z Z ?_; intro b3 w3 hb3 H
 refine R_nil (N_DK (Kn.of' H hd1 SubL.nil) (RD_t 15 Z kR Z (fun _ hK => v_assign Z) (RD_done kR (N_K (W_seq (q2 (mV Z (o_nilCheck Z Z (o_fieldAddr 3 runUnderlying167 Z sizeOf140 Z Z Z (o_load_P H isAgg140 Z Z (hprt 3 _ Z) (o_len_slice underlying140 Z Z (mV Z (q3 (W_block ?_))))))))))))))
 obtain ⟨Fi1, H, hOI1⟩ := H.ownI (k := 1) rfl hchk2 aN aN
 have hOIc := hOI1
 have H := H.addF
 have H := H.addNil 65 1
 obtain ⟨ln5, hln5, H⟩ := H.nameAt (k := 3) (off := 3) rfl rfl
 refine W_lp (hf := (Sub.cons (t := 2) Z (Sub.cons (t := 3) Z (Sub.cons (t := 24) Z (Sub.cons (t := 25) Z Sub.nil))))) (J := fun M w m => ∃ (v : Value) (n : Nat) (cs : List Value) (xs : List (Nd)) (k : Nat) (FK : Fr) (G : PH), M = [(26, .int .i64 (k : Int))] ∧ PLe G2 G ∧ Hp w0 G0 [] w G [acc 65 1 v n cs, frag FK, frag Fi1, blk b3 (cl (setN ln5 3 v) 167)] ∧ (Chk kdE 1 G cs xs ∧ n = xs.length ∧ k ≤ t.kids.length ∧ NdsC 167 65 xs FK ∧ xs.map Nd.strip = (t.kids.take k).map Nd.strip) ∧ m = (t.kids.length - k)) (h0 := ⟨_, _, _, [], 0, [], _, Z, PLe.refl _, H, ?inv, Z⟩) (round := ?round)
 case inv => exact ⟨(Chk.nil (E := kdE) (sz := 1) (G := G2)),  by first | rfl | simp | (simp; omega) | omega, (by simp [NdsC])⟩
 case round =>
  rintro _ w6 _ ⟨v, n, cs, xs, k, FK, G6, rfl, hle6, H, hinv6, rfl⟩
  subst hln5
  have hrkt := hrkt.up hle6
  obtain ⟨hchk6_0, hn6_0, hinv6⟩ := hinv6
  obtain ⟨av6_0, cv6_0, rfl⟩ := H.accShape (k := 0) rfl
  obtain ⟨hk, hKs, hst0⟩ := hinv6; have hxl0 := congrArg List.length hst0; simp at hxl0; have hkl0 := Nd.kids_le t
  refine q2 (o_lss Z Z Z (q3 (W_seq ?_)))
  refine W_cond Z ?_ ?_
  ·intro hc7
   try simp only [nrm] at hc7
   refine W_skip (N_K (W_seq (W_block (q2 (o_index_P k hrkt underlying140 sizeOf65 Z Z Z Z aN ?_))))); intro b8 o8 z8 q8 hz8 hE8 hrow8
   obtain ⟨rfl, hnd8⟩ := hE8; obtain ⟨hnl8, na8, nm8, nc8, nA8, nM8, nC8, hpr8, hri8, hrk8⟩ := hnd8.open; have hn_hri8 := hri8.len; have hx_hri8 : _ ≤ 1099511627776 := hri8.lim; have hn_hrk8 := hrk8.len; have hx_hrk8 : _ ≤ 1099511627776 := hrk8.lim
   have hzm := List.mem_of_getElem? hz8; have hzc := Nd.kid_cnt hzm; have hzs := Nd.size_kid hzm
   refine o_load_P H isAgg65 Z Z (hrow8 0 _ Z) (aG Z (q3 (W_drawK [] 12 H kR Z ?_))); intro w9 H; have hd9 := PLe.refl G6
   refine vM 0 Z Z (vM 1 Z Z (RD_t 2 Z kR Z (fun _ hK => v_nilCheck Z) (RD_t 3 Z kR Z (fun _ hK => v_fieldAddr 3 runUnderlying167 Z sizeOf140 Z Z) (vM 5 Z Z ?_))))
   refine RD_run [4, 6] kR Z (RDs.cons Z ?_ (RDs.cons Z ?_ RDs.nil))
   ·skip
    refine o_load_B 3 H isAgg140 Z Z Z Z (R_nil (N_DK (Kn.of' H hd9 SubL.nil) ?_))
    refine RD_run [6] kR Z (RDs.cons Z ?_ RDs.nil)
    refine o_call call76 Z Z (ih _ _ H.sub _ hnd8 oM oM) ?_
    rintro _ w10 ⟨_, _, rfl, H10', ⟨F10, T10, rfl, rfl, hNC10, hst10⟩⟩
    have H := H.readers (fp := []) (by simp) (PLe.refl _) H10'
    refine ⟨_, Z, ?_⟩
    refine R_nil (N_DK (Kn.of' H hd9 SubL.nil) ?_)
    refine RD_run [7] kR Z (RDs.cons Z ?_ RDs.nil)
    refine o_buildSlice H underlying140 sizeOf65 (fun w => ⟨_, zeroValue65 w, Z⟩) Z Z Z Z Z Z Z ?_; intro b11 w11 hb11 H
    refine R_nil (N_DK (Kn.of' H hd9 SubL.nil) ?_)
    refine RD_run [8] kR Z (RDs.cons Z ?_ RDs.nil)
    refine o_append1 1 H (sz := 1) (bytes := 8) underlying140 typeInfo65 ⟨_, Z, Z⟩ Z Z Z Z Z Z Z Z Z Z oM Z ?_; intro v12 w12 H
    have hchk12 := hchk6_0.snoc (show kdE _ T10 _ from rfl) rfl
    obtain ⟨av12, cv12, rfl⟩ := H.accShape (k := 1) rfl
    refine R_nil (N_DK (Kn.of' H hd9 SubL.nil) (RD_t 9 Z kR Z (fun _ hK => v_nilCheck Z) (RD_t 10 Z kR Z (fun _ hK => v_fieldAddr 3 runUnderlying167 Z sizeOf140 Z Z) ?_)))
    refine RD_run [11] kR Z (RDs.cons Z ?_ RDs.nil)
    have H := H.toFront (k := 2) rfl
    have H := H.mergeF
    refine o_store_B 3 H sizeOf140 Z Z Z Z Z Z Z Z ?_; intro w13 H
    refine R_nil (N_DK (Kn.of' H hd9 SubL.nil) (RD_done kR (N_B (N_K (W_region (o_add Z Z Z oO (mV Z (R_nil ?_))))))))
    have H := H.toFront (k := 3) rfl
    have H := H.toFront (k := 3) rfl
    have H := H.toFront (k := 2) rfl
    have H := H.toFront (k := 3) rfl
    refine N_lp (hJ := ⟨_, _, _, (xs ++ [T10]), k + 1, (FK ++ F10), _, Z, hle6, H, ?inv, Z⟩) (hm := ?hm)
    case hm => omega
    case inv => exact ⟨hchk12, aN, (by exact ⟨by omega, hKs.snoc hNC10, Nd.strip_take hz8 hst0 hst10⟩)⟩
   skip
   refine o_call call76 Z Z (ih _ _ H.sub _ hnd8 oM oM) ?_
   rintro _ w15 ⟨_, _, rfl, H15', ⟨F15, T15, rfl, rfl, hNC15, hst15⟩⟩
   have H := H.readers (fp := []) (by simp) (PLe.refl _) H15'
   refine ⟨_, Z, ?_⟩
   refine R_nil (N_DK (Kn.of' H hd9 SubL.nil) ?_)
   refine RD_run [4, 7] kR Z (RDs.cons Z ?_ (RDs.cons Z ?_ RDs.nil))
   ·skip
    refine o_load_B 4 H isAgg140 Z Z Z Z (R_nil (N_DK (Kn.of' H hd9 SubL.nil) ?_))
    refine RD_run [7] kR Z (RDs.cons Z ?_ RDs.nil)
    refine o_buildSlice H underlying140 sizeOf65 (fun w => ⟨_, zeroValue65 w, Z⟩) Z Z Z Z Z Z Z ?_; intro b16 w16 hb16 H
    refine R_nil (N_DK (Kn.of' H hd9 SubL.nil) ?_)
    refine RD_run [8] kR Z (RDs.cons Z ?_ RDs.nil)
    refine o_append1 1 H (sz := 1) (bytes := 8) underlying140 typeInfo65 ⟨_, Z, Z⟩ Z Z Z Z Z Z Z Z Z Z oM Z ?_; intro v17 w17 H
    have hchk17 := hchk6_0.snoc (show kdE _ T15 _ from rfl) rfl
    obtain ⟨av17, cv17, rfl⟩ := H.accShape (k := 1) rfl
    refine R_nil (N_DK (Kn.of' H hd9 SubL.nil) (RD_t 9 Z kR Z (fun _ hK => v_nilCheck Z) (RD_t 10 Z kR Z (fun _ hK => v_fieldAddr 3 runUnderlying167 Z sizeOf140 Z Z) ?_)))
    refine RD_run [11] kR Z (RDs.cons Z ?_ RDs.nil)
    have H := H.toFront (k := 2) rfl
    have H := H.mergeF
    refine o_store_B 3 H sizeOf140 Z Z Z Z Z Z Z Z ?_; intro w18 H
    refine R_nil (N_DK (Kn.of' H hd9 SubL.nil) (RD_done kR (N_B (N_K (W_region (o_add Z Z Z oO (mV Z (R_nil ?_))))))))
    have H := H.toFront (k := 3) rfl
    have H := H.toFront (k := 3) rfl
    have H := H.toFront (k := 2) rfl
    have H := H.toFront (k := 3) rfl
    refine N_lp (hJ := ⟨_, _, _, (xs ++ [T15]), k + 1, (FK ++ F15), _, Z, hle6, H, ?inv, Z⟩) (hm := ?hm)
    case hm => omega
    case inv => exact ⟨hchk17, aN, (by exact ⟨by omega, hKs.snoc hNC15, Nd.strip_take hz8 hst0 hst15⟩)⟩
   skip
   refine o_buildSlice H underlying140 sizeOf65 (fun w => ⟨_, zeroValue65 w, Z⟩) Z Z Z Z Z Z Z ?_; intro b20 w20 hb20 H
   refine R_nil (N_DK (Kn.of' H hd9 SubL.nil) ?_)
   refine RD_run [4] kR Z (RDs.cons Z ?_ RDs.nil)
   refine o_load_B 5 H isAgg140 Z Z Z Z (R_nil (N_DK (Kn.of' H hd9 SubL.nil) ?_))
   refine RD_run [8] kR Z (RDs.cons Z ?_ RDs.nil)
   refine o_append1 1 H (sz := 1) (bytes := 8) underlying140 typeInfo65 ⟨_, Z, Z⟩ Z Z Z Z Z Z Z Z Z Z oM Z ?_; intro v21 w21 H
   have hchk21 := hchk6_0.snoc (show kdE _ T15 _ from rfl) rfl
   obtain ⟨av21, cv21, rfl⟩ := H.accShape (k := 1) rfl
   refine R_nil (N_DK (Kn.of' H hd9 SubL.nil) (RD_t 9 Z kR Z (fun _ hK => v_nilCheck Z) (RD_t 10 Z kR Z (fun _ hK => v_fieldAddr 3 runUnderlying167 Z sizeOf140 Z Z) ?_)))
   refine RD_run [11] kR Z (RDs.cons Z ?_ RDs.nil)
   have H := H.toFront (k := 2) rfl
   have H := H.mergeF
   refine o_store_B 3 H sizeOf140 Z Z Z Z Z Z Z Z ?_; intro w22 H
   refine R_nil (N_DK (Kn.of' H hd9 SubL.nil) (RD_done kR (N_B (N_K (W_region (o_add Z Z Z oO (mV Z (R_nil ?_))))))))
   have H := H.toFront (k := 3) rfl
   have H := H.toFront (k := 3) rfl
   have H := H.toFront (k := 2) rfl
   have H := H.toFront (k := 3) rfl
   refine N_lp (hJ := ⟨_, _, _, (xs ++ [T15]), k + 1, (FK ++ F15), _, Z, hle6, H, ?inv, Z⟩) (hm := ?hm)
   case hm => omega
   case inv => exact ⟨hchk21, aN, (by exact ⟨by omega, hKs.snoc hNC15, Nd.strip_take hz8 hst0 hst15⟩)⟩
  intro hc7'
  try simp only [nrm] at hc7'
  refine W_exit (N_K_exit (N_LP_exit (N_B_same (N_K (q2 (mV Z (aG Z (q3 (W_ret (rt1 results76 Z ?_))))))))))
  have H := H.toFront (k := 2) rfl
  have H := H.toFront (k := 3) rfl
  have H := H.toFront (k := 3) rfl
  have H := H.toFront (k := 3) rfl
  have hst : xs.map Nd.strip = t.kids.map Nd.strip := by (have h9 := hst0; rw [List.take_of_length_le oM] at h9; exact h9)
  have hxl := Nd.strip_len hst; have hkl := Nd.kids_le t
  obtain rfl : n = xs.length := by assumption
  obtain ⟨FT, H, hNC⟩ := Hp.makeC (ks := xs) (by (have hcc := hchk6_0.kd; rw [hcc] at H; exact H)) hnlt oM hOIc hKs
  have H := H.forget hG (by simp)
  exact ⟨_, _, Z, H, FT, _, Z, Z, hNC, Nd.strip_mk hst⟩
theorem i_clone_c (w0 : World) (G0 : PH) (hG : PSub G0 w0) (t : Nd) (hndt : RdN G0 t) (hct : t.cnt ≤ 1000) :
  Calls Tryz.prog 76 #[.pointer (some ⟨t.b, 0, none⟩)] w0 (RetN w0 G0 (fun v Bs => ∃ (F : Fr) (T : Nd), v = .pointer (some ⟨T.b, 0, none⟩) ∧ Bs = [frag F] ∧ NdC 167 65 T F ∧ T.strip = t.strip)) := i_clone_r _ w0 G0 hG t hndt hct (Nat.le_refl _)
end Go.Proofs.Tst

namespace Go.Proofs.Tst
open Go Fw Tryz
theorem i_take_c (w0 : World) (G0 : PH) (hG : PSub G0 w0) (db mb : Nat) (es : Array MapEntry) (ck : Nat) (xs : List (Int × Value)) (T : Nd) (FT : Fr) (sv : Value) (sn : List (Bs × Nd)) (c : List Value) (FSq : Fr) (d : BDisk) (hm : MapIs (Value.int .i64) es ck xs) (hS : StR G0 xs d.store) (hN : NdO 167 65 G0 T FT) (hT : Nd.TOK T d.tree) (hchk : Chk osE 2 G0 c sn) (hNs : NdsO 167 65 G0 (sn.map (·.2)) FSq) (hSn : SnOK sn d.snaps) (hdv : Sp.DiskValid d = true) (name : Bs) (hname : name.length ≤ 16777216) (hLent : Lent w0 G0 [blk db (cl [.int .i32 0, .int .u32 0, .map (some mb), .pointer (some ⟨T.b, 0, none⟩), sv] 70), blk mb (.map es ck), frag FT, acc 124 2 sv sn.length c, frag FSq])  :
  Calls Tryz.prog 38 #[.pointer (some ⟨db, 0, none⟩), str name] w0 (RetM w0 G0 (fps [blk db (cl [.int .i32 0, .int .u32 0, .map (some mb), .pointer (some ⟨T.b, 0, none⟩), sv] 70), blk mb (.map es ck), frag FT, acc 124 2 sv sn.length c, frag FSq]) (fun G' v Bs => ∃ (es' : Array MapEntry) (ck' : Nat) (xs' : List (Int × Value)) (F' : Fr) (sv' : Value) (sn' : List (Fw.Bs × Nd)) (c' : List Value) (FSq' : Fr) (L' : List BHeld), v = .bool (Sp.SnapTake d name).isSome ∧ Bs = [blk db (cl [.int .i32 0, .int .u32 0, .map (some mb), .pointer (some ⟨T.b, 0, none⟩), sv'] 70), blk mb (.map es' ck'), frag F', acc 124 2 sv' sn'.length c', frag FSq'] ∧ MapIs (Value.int .i64) es' ck' xs' ∧ StR G' xs' L' ∧ Sp.VH L' ∧ NdO 167 65 G' T F' ∧ Chk osE 2 G' c' sn' ∧ NdsO 167 65 G' (sn'.map (·.2)) FSq' ∧ ∀ d', Sp.SnapTake d name = some d' → L' = d'.store ∧ d'.tree = d.tree ∧ SnOK sn' d'.snaps)) := by
 have H : Hp w0 G0 (fps [blk db (cl [.int .i32 0, .int .u32 0, .map (some mb), .pointer (some ⟨T.b, 0, none⟩), sv] 70), blk mb (.map es ck), frag FT, acc 124 2 sv sn.length c, frag FSq]) w0 G0 [blk db (cl [.int .i32 0, .int .u32 0, .map (some mb), .pointer (some ⟨T.b, 0, none⟩), sv] 70), blk mb (.map es ck), frag FT, acc 124 2 sv sn.length c, frag FSq] := hLent.hp
 obtain ⟨adv, cdv, rfl⟩ := H.accShape (k := 3) rfl; have hVd := Sp.valid_iff.1 (Sp.dv_parts.1 hdv).1; have hTv := (Sp.dv_parts.1 hdv).2.1; have hTc := hT.cnt; have hTl := Sp.tree_len hTv; have hsnl := hSn.len; have hsn6 := (Sp.dv_parts.1 hdv).2.2.1
 refine calls_of_WD (l := [.pointer (some ⟨db, 0, none⟩), str name]) func38 Z ntmps38 Z (q2 (aG Z (q1 (mV Z (o_nilCheck Z Z (o_fieldAddr 0 runUnderlying70 Z sizeOf62 Z Z Z (o_lock 0 H muLib Z call72 Z Z Z Z ?_))))))); intro w1 H
 refine q1 (mV Z (o_nilCheck Z Z (o_fieldAddr 0 runUnderlying70 Z sizeOf62 Z Z Z (o_defer Z (q3 (W_seq (q2 (mV Z (o_call call74 Z Z (i_partValid_c _ _ hname ) ?_)))))))))
 rintro _ w2 ⟨rfl, ew2⟩; have H := H.step ew2; refine ⟨_, rfl, ?_⟩
 refine o_not Z Z (mV Z ?_)
 refine R_case (t := 15) Z ?_ ?_
 ·intro hc3
  try simp only [nrm] at hc3
  refine rP Z (rP Z (rP Z (rP Z (o_pick_t Z Z Z (mV Z (rP Z (rP Z (rP Z (rP Z (rP Z (rP Z (o_pick_t Z Z Z (q3 (W_true Z (q2 ?_)))))))))))))))
  refine aG Z (q3 (W_ret (N_K_ret (ret_unlock 0 H muLib Z call73 Z Z (rs := [.tmp 4]) results38 ?_)))); intro wu1 H
  refine ⟨[_], ⟨Z, trivial⟩, ?_⟩
  have H := H.toFront (k := 4) rfl
  have H := H.toFront (k := 4) rfl
  have H := H.toFront (k := 4) rfl
  have H := H.toFront (k := 4) rfl
  have H := H.toFront (k := 4) rfl
  have hno : Sp.SnapTake d name = none := take_no (fun hh => by have := hh.1; simp_all)
  exact H.retM ⟨_, _, _, _, _, sn, _, _, d.store, by (rw [hno]; rfl), rfl, hm, hS, hVd, hN, hchk, hNs, fun d2 h => by rw [hno] at h; cases h⟩
 intro hc3'
 try simp only [nrm] at hc3'
 refine gR Z (mV Z (gR Z (mV Z (gR Z (o_call call75 Z Z (i_snapAt_c _ _ (H.lendSubL [0, 3]) _ _ _ _ _ _ _ (prow_blk (H.lendPredL (k := 0) (ks := [0, 3]) Z Z)) (H.lendRdL (k := 3) (ks := [0, 3]) Z Z hchk aN aN) _ hname ) ?_)))))
 rintro _ w4 ⟨rfl, ew4⟩; have H := H.step ew4; refine ⟨_, rfl, ?_⟩
 refine gR Z (o_geq Z Z Z (o_pick_f Z Z Z (mV Z ?_)))
 refine R_case (t := 21) Z ?_ ?_
 ·intro hc5
  try simp only [nrm] at hc5
  refine rP Z (rP Z (rP Z (rP Z (rP Z (rP Z (o_pick_t Z Z Z (q3 (W_true Z (q2 (aG Z (q3 (W_ret (N_K_ret (ret_unlock 0 H muLib Z call73 Z Z (rs := [.tmp 4]) results38 ?_)))))))))))))); intro wu2 H
  refine ⟨[_], ⟨Z, trivial⟩, ?_⟩
  have H := H.toFront (k := 4) rfl
  have H := H.toFront (k := 4) rfl
  have H := H.toFront (k := 4) rfl
  have H := H.toFront (k := 4) rfl
  have H := H.toFront (k := 4) rfl
  have hno : Sp.SnapTake d name = none := take_no (fun hh => by have h8 := hh.2.1; (rw [← Sp.sn_find hSn, ← optI_neg] at h8); omega)
  exact H.retM ⟨_, _, _, _, _, sn, _, _, d.store, by (rw [hno]; rfl), rfl, hm, hS, hVd, hN, hchk, hNs, fun d2 h => by rw [hno] at h; cases h⟩
 intro hc5'
 try simp only [nrm] at hc5'
 refine gR Z (mV Z (gR Z (o_nilCheck Z Z (gR Z (o_fieldAddr 4 runUnderlying70 Z sizeOf68 Z Z Z (gR Z (o_load_B 0 H isAgg68 Z Z Z Z (gR Z (o_len_slice underlying68 Z Z (gR Z (o_geq Z Z Z (o_pick_f Z Z Z (q3 ?_)))))))))))))
 refine W_cond Z ?_ ?_
 ·intro hc6
  try simp only [nrm] at hc6
  refine q2 (aG Z (q3 (W_ret (N_K_ret (ret_unlock 0 H muLib Z call73 Z Z (rs := [.tmp 4]) results38 ?_))))); intro wu3 H
  refine ⟨[_], ⟨Z, trivial⟩, ?_⟩
  have H := H.toFront (k := 4) rfl
  have H := H.toFront (k := 4) rfl
  have H := H.toFront (k := 4) rfl
  have H := H.toFront (k := 4) rfl
  have H := H.toFront (k := 4) rfl
  have hno : Sp.SnapTake d name = none := take_no (fun hh => by have := hh.2.2; omega)
  exact H.retM ⟨_, _, _, _, _, sn, _, _, d.store, by (rw [hno]; rfl), rfl, hm, hS, hVd, hN, hchk, hNs, fun d2 h => by rw [hno] at h; cases h⟩
 intro hc6'
 try simp only [nrm] at hc6'
 refine W_skip (N_K (W_seq (W_drawK [] 18 H kR Z ?_))); intro w7 H; have hd7 := PLe.refl G0
 refine vM 0 Z Z (vM 1 Z Z (RD_t 2 Z kR Z (fun _ hK => v_nilCheck Z) (RD_t 3 Z kR Z (fun _ hK => v_fieldAddr 4 runUnderlying70 Z sizeOf68 Z Z) (vM 5 Z Z (vM 6 Z Z (RD_t 7 Z kR Z (fun _ hK => v_nilCheck Z) (RD_t 8 Z kR Z (fun _ hK => v_fieldAddr 2 runUnderlying70 Z sizeOf67 Z Z) (RD_t 9 Z kR Z (fun _ hK => v_fieldAddr 1 runUnderlying67 Z sizeOf65 Z Z) ?_))))))))
 refine RD_run [4, 10] kR Z (RDs.cons Z ?_ (RDs.cons Z ?_ RDs.nil))
 ·skip
  refine o_load_B 0 H isAgg68 Z Z Z Z (R_nil (N_DK (Kn.of' H hd7 SubL.nil) ?_))
  refine RD_run [10] kR Z (RDs.cons Z ?_ RDs.nil)
  refine o_load_B 0 H isAgg65 Z Z Z Z (R_nil (N_DK (Kn.of' H hd7 SubL.nil) ?_))
  refine RD_run [11] kR Z (RDs.cons Z ?_ RDs.nil)
  refine o_call call76 Z Z (i_clone_c _ _ (H.lendSubL [2]) _ ((H.lendN (k := 2) (ks := [2]) Z Z hN).at (show Nd.at_ T [] = some T from Z)) oM) ?_
  rintro _ w8 ⟨_, _, rfl, H8', ⟨F8, T8, rfl, rfl, hNC8, hst8⟩⟩
  have H := H.readersL H8'
  refine ⟨_, Z, ?_⟩
  obtain ⟨Gs4, Fc4, H, hsl4, hNc4⟩ := Hp.shareC H hNC8 (H.apart (k := 0) (ks := [1, 2, 3, 4, 5]) rfl rfl (by intro b hb; simp only [fps, List.flatMap_cons, List.flatMap_nil, List.append_nil, List.mem_append] at hb; rcases hb with h | h | h | h | h; (· exact fpsAt_mem (k := 1) rfl rfl b (by exact h)); (· exact fpsAt_mem (k := 2) rfl rfl b (by exact h)); (· exact fpsAt_mem (k := 3) rfl rfl b (by exact h)); (· exact fpsAt_mem (k := 4) rfl rfl b (by exact h)); (· exact fpsAt_mem (k := 5) rfl rfl b (by exact h))))
  have hS := hS.up hsl4
  have hN := hN.up hsl4
  have hchk := hchk.up hsl4
  have hNs := hNs.up hsl4
  have hd7 := hd7.trans hsl4
  refine R_nil (N_DK (Kn.of' H hd7 SubL.nil) (RD_t 12 Z kR Z (fun _ hK => v_build bf124 Z Z) ?_))
  refine RD_run [13] kR Z (RDs.cons Z ?_ RDs.nil)
  refine o_buildSlice H underlying68 sizeOf124 (fun w => ⟨_, zeroValue124 w, Z⟩) Z Z Z Z Z Z Z ?_; intro b9 w9 hb9 H
  refine R_nil (N_DK (Kn.of' H hd7 SubL.nil) ?_)
  refine RD_run [14] kR Z (RDs.cons Z ?_ RDs.nil)
  refine o_append1 4 H (sz := 2) (bytes := 24) underlying68 typeInfo124 ⟨_, Z, Z⟩ Z Z Z Z Z Z Z Z Z Z oM Z ?_; intro v10 w10 H
  have hchk10 := hchk.snoc (show osE _ (name, T8) _ from ⟨rfl, hname⟩) rfl
  obtain ⟨av10, cv10, rfl⟩ := H.accShape (k := 4) rfl
  refine R_nil (N_DK (Kn.of' H hd7 SubL.nil) (RD_t 15 Z kR Z (fun _ hK => v_nilCheck Z) (RD_t 16 Z kR Z (fun _ hK => v_fieldAddr 4 runUnderlying70 Z sizeOf68 Z Z) ?_)))
  refine RD_run [17] kR Z (RDs.cons Z ?_ RDs.nil)
  have H := H.toFront (k := 5) rfl
  have H := H.mergeF
  refine o_store_B 1 H sizeOf68 Z Z Z Z Z Z Z Z ?_; intro w11 H
  refine R_nil (N_DK (Kn.of' H hd7 SubL.nil) (RD_done kR (N_K (W_seq (W_drawK [1] 12 H kR Z ?_))))); intro w12 H; have hd12 := PLe.refl Gs4
  refine vM 0 Z Z (RD_t 1 Z kR Z (fun _ hK => v_nilCheck Z) (RD_t 2 Z kR Z (fun _ hK => v_fieldAddr 2 runUnderlying70 Z sizeOf67 Z Z) (RD_t 3 Z kR Z (fun _ hK => v_fieldAddr 0 runUnderlying67 Z sizeOf64 Z Z) (RD_t 4 Z kR Z (fun _ hK => v_load_B 0 hK isAgg64 Z Z Z) (vM 5 Z Z (RD_t 6 Z kR Z (fun _ hK => v_nilCheck Z) (RD_t 7 Z kR Z (fun _ hK => v_fieldAddr 2 runUnderlying70 Z sizeOf67 Z Z) (RD_t 8 Z kR Z (fun _ hK => v_fieldAddr 1 runUnderlying67 Z sizeOf65 Z Z) (RD_t 9 Z kR Z (fun _ hK => v_load_B 0 hK isAgg65 Z Z Z) ?_)))))))))
  refine RD_run [10] kR Z (RDs.cons Z ?_ RDs.nil)
  have H := H.toFront (k := 3) rfl
  have H := H.toFront (k := 3) rfl
  refine o_call call77 Z Z (i_keepTree_c _ _ H.sub _ _ _ _ _ hm hS hVd _ _ hN H.lent2 hT.wf oM) ?_
  rintro _ w13 ⟨G13, _, _, rfl, H13', ⟨es13, ck13, xs13, L13, rfl, rfl, hm13, hS13, hV13, hL13⟩⟩
  have hN := hN.up H13'.le
  have hNs := hNs.up H13'.le
  have hNc4 := hNc4.up H13'.le
  have hchk10 := hchk10.up H13'.le
  have hd12 := hd12.trans H13'.le
  have H := H.borrow2 H13'
  refine ⟨_, Z, ?_⟩
  refine R_nil (N_DK (Kn.of' H hd12 (SubL.cons 3 Z SubL.nil)) (RD_t 11 Z kR Z (fun _ hK => v_assign Z) (RD_done kR (N_K (W_ret (ret_unlock 3 H muLib Z call73 Z Z (rs := [.tmp 4]) results38 ?_)))))); intro wu5 H
  refine ⟨[_], ⟨Z, trivial⟩, ?_⟩
  have H := H.toFront (k := 2) rfl
  have H := H.toFront (k := 4) rfl
  have H := H.toFront (k := 3) rfl
  have H := H.toFront (k := 3) rfl
  have H := H.toFront (k := 4) rfl
  have htk := take_eq hdv (by simpa using hc3') (optI_neg.1 (by (rw [← Sp.sn_find hSn]; omega))) (by omega : d.snaps.length ≠ 6)
  have hfl := hT.flat
  have hln : sn.length + 1 = (sn ++ [(name, T8)]).length := by simp
  rw [hln] at H
  exact H.retM ⟨_, _, _, _, _, sn ++ [(name, T8)], _, _, L13, congrArg Value.bool (by (rw [htk, hfl, Option.isSome_map])), rfl, hm13, hS13, hV13, hN, hchk10, by (rw [List.map_append]; exact hNs.snoc hNc4), fun d2 h => (by (rw [htk] at h); obtain ⟨s2, h2, rfl⟩ := Option.map_eq_some_iff.1 h; exact ⟨hL13 s2 (by (rw [hfl]; exact h2)), rfl, All2.push hSn rfl (hT.strip hst8) hTv⟩)⟩
 skip
 refine o_load_B 0 H isAgg65 Z Z Z Z (R_nil (N_DK (Kn.of' H hd7 SubL.nil) ?_))
 refine RD_run [4, 11] kR Z (RDs.cons Z ?_ (RDs.cons Z ?_ RDs.nil))
 ·skip
  refine o_load_B 0 H isAgg68 Z Z Z Z (R_nil (N_DK (Kn.of' H hd7 SubL.nil) ?_))
  refine RD_run [11] kR Z (RDs.cons Z ?_ RDs.nil)
  refine o_call call76 Z Z (i_clone_c _ _ (H.lendSubL [2]) _ ((H.lendN (k := 2) (ks := [2]) Z Z hN).at (show Nd.at_ T [] = some T from Z)) oM) ?_
  rintro _ w14 ⟨_, _, rfl, H14', ⟨F14, T14, rfl, rfl, hNC14, hst14⟩⟩
  have H := H.readersL H14'
  refine ⟨_, Z, ?_⟩
  obtain ⟨Gs6, Fc6, H, hsl6, hNc6⟩ := Hp.shareC H hNC14 (H.apart (k := 0) (ks := [1, 2, 3, 4, 5]) rfl rfl (by intro b hb; simp only [fps, List.flatMap_cons, List.flatMap_nil, List.append_nil, List.mem_append] at hb; rcases hb with h | h | h | h | h; (· exact fpsAt_mem (k := 1) rfl rfl b (by exact h)); (· exact fpsAt_mem (k := 2) rfl rfl b (by exact h)); (· exact fpsAt_mem (k := 3) rfl rfl b (by exact h)); (· exact fpsAt_mem (k := 4) rfl rfl b (by exact h)); (· exact fpsAt_mem (k := 5) rfl rfl b (by exact h))))
  have hS := hS.up hsl6
  have hN := hN.up hsl6
  have hchk := hchk.up hsl6
  have hNs := hNs.up hsl6
  have hd7 := hd7.trans hsl6
  refine R_nil (N_DK (Kn.of' H hd7 SubL.nil) (RD_t 12 Z kR Z (fun _ hK => v_build bf124 Z Z) ?_))
  refine RD_run [13] kR Z (RDs.cons Z ?_ RDs.nil)
  refine o_buildSlice H underlying68 sizeOf124 (fun w => ⟨_, zeroValue124 w, Z⟩) Z Z Z Z Z Z Z ?_; intro b15 w15 hb15 H
  refine R_nil (N_DK (Kn.of' H hd7 SubL.nil) ?_)
  refine RD_run [14] kR Z (RDs.cons Z ?_ RDs.nil)
  refine o_append1 4 H (sz := 2) (bytes := 24) underlying68 typeInfo124 ⟨_, Z, Z⟩ Z Z Z Z Z Z Z Z Z Z oM Z ?_; intro v16 w16 H
  have hchk16 := hchk.snoc (show osE _ (name, T14) _ from ⟨rfl, hname⟩) rfl
  obtain ⟨av16, cv16, rfl⟩ := H.accShape (k := 4) rfl
  refine R_nil (N_DK (Kn.of' H hd7 SubL.nil) (RD_t 15 Z kR Z (fun _ hK => v_nilCheck Z) (RD_t 16 Z kR Z (fun _ hK => v_fieldAddr 4 runUnderlying70 Z sizeOf68 Z Z) ?_)))
  refine RD_run [17] kR Z (RDs.cons Z ?_ RDs.nil)
  have H := H.toFront (k := 5) rfl
  have H := H.mergeF
  refine o_store_B 1 H sizeOf68 Z Z Z Z Z Z Z Z ?_; intro w17 H
  refine R_nil (N_DK (Kn.of' H hd7 SubL.nil) (RD_done kR (N_K (W_seq (W_drawK [1] 12 H kR Z ?_))))); intro w18 H; have hd18 := PLe.refl Gs6
  refine vM 0 Z Z (RD_t 1 Z kR Z (fun _ hK => v_nilCheck Z) (RD_t 2 Z kR Z (fun _ hK => v_fieldAddr 2 runUnderlying70 Z sizeOf67 Z Z) (RD_t 3 Z kR Z (fun _ hK => v_fieldAddr 0 runUnderlying67 Z sizeOf64 Z Z) (RD_t 4 Z kR Z (fun _ hK => v_load_B 0 hK isAgg64 Z Z Z) (vM 5 Z Z (RD_t 6 Z kR Z (fun _ hK => v_nilCheck Z) (RD_t 7 Z kR Z (fun _ hK => v_fieldAddr 2 runUnderlying70 Z sizeOf67 Z Z) (RD_t 8 Z kR Z (fun _ hK => v_fieldAddr 1 runUnderlying67 Z sizeOf65 Z Z) (RD_t 9 Z kR Z (fun _ hK => v_load_B 0 hK isAgg65 Z Z Z) ?_)))))))))
  refine RD_run [10] kR Z (RDs.cons Z ?_ RDs.nil)
  have H := H.toFront (k := 3) rfl
  have H := H.toFront (k := 3) rfl
  refine o_call call77 Z Z (i_keepTree_c _ _ H.sub _ _ _ _ _ hm hS hVd _ _ hN H.lent2 hT.wf oM) ?_
  rintro _ w19 ⟨G19, _, _, rfl, H19', ⟨es19, ck19, xs19, L19, rfl, rfl, hm19, hS19, hV19, hL19⟩⟩
  have hN := hN.up H19'.le
  have hNs := hNs.up H19'.le
  have hNc6 := hNc6.up H19'.le
  have hchk16 := hchk16.up H19'.le
  have hd18 := hd18.trans H19'.le
  have H := H.borrow2 H19'
  refine ⟨_, Z, ?_⟩
  refine R_nil (N_DK (Kn.of' H hd18 (SubL.cons 3 Z SubL.nil)) (RD_t 11 Z kR Z (fun _ hK => v_assign Z) (RD_done kR (N_K (W_ret (ret_unlock 3 H muLib Z call73 Z Z (rs := [.tmp 4]) results38 ?_)))))); intro wu7 H
  refine ⟨[_], ⟨Z, trivial⟩, ?_⟩
  have H := H.toFront (k := 2) rfl
  have H := H.toFront (k := 4) rfl
  have H := H.toFront (k := 3) rfl
  have H := H.toFront (k := 3) rfl
  have H := H.toFront (k := 4) rfl
  have htk := take_eq hdv (by simpa using hc3') (optI_neg.1 (by (rw [← Sp.sn_find hSn]; omega))) (by omega : d.snaps.length ≠ 6)
  have hfl := hT.flat
  have hln : sn.length + 1 = (sn ++ [(name, T14)]).length := by simp
  rw [hln] at H
  exact H.retM ⟨_, _, _, _, _, sn ++ [(name, T14)], _, _, L19, congrArg Value.bool (by (rw [htk, hfl, Option.isSome_map])), rfl, hm19, hS19, hV19, hN, hchk16, by (rw [List.map_append]; exact hNs.snoc hNc6), fun d2 h => (by (rw [htk] at h); obtain ⟨s2, h2, rfl⟩ := Option.map_eq_some_iff.1 h; exact ⟨hL19 s2 (by (rw [hfl]; exact h2)), rfl, All2.push hSn rfl (hT.strip hst14) hTv⟩)⟩
 skip
 refine o_call call76 Z Z (i_clone_c _ _ (H.lendSubL [2]) _ ((H.lendN (k := 2) (ks := [2]) Z Z hN).at (show Nd.at_ T [] = some T from Z)) oM) ?_
 rintro _ w20 ⟨_, _, rfl, H20', ⟨F20, T20, rfl, rfl, hNC20, hst20⟩⟩
 have H := H.readersL H20'
 refine ⟨_, Z, ?_⟩
 obtain ⟨Gs8, Fc8, H, hsl8, hNc8⟩ := Hp.shareC H hNC20 (H.apart (k := 0) (ks := [1, 2, 3, 4, 5]) rfl rfl (by intro b hb; simp only [fps, List.flatMap_cons, List.flatMap_nil, List.append_nil, List.mem_append] at hb; rcases hb with h | h | h | h | h; (· exact fpsAt_mem (k := 1) rfl rfl b (by exact h)); (· exact fpsAt_mem (k := 2) rfl rfl b (by exact h)); (· exact fpsAt_mem (k := 3) rfl rfl b (by exact h)); (· exact fpsAt_mem (k := 4) rfl rfl b (by exact h)); (· exact fpsAt_mem (k := 5) rfl rfl b (by exact h))))
 have hS := hS.up hsl8
 have hN := hN.up hsl8
 have hchk := hchk.up hsl8
 have hNs := hNs.up hsl8
 have hd7 := hd7.trans hsl8
 refine R_nil (N_DK (Kn.of' H hd7 SubL.nil) (RD_t 12 Z kR Z (fun _ hK => v_build bf124 Z Z) ?_))
 refine RD_run [4, 13] kR Z (RDs.cons Z ?_ (RDs.cons Z ?_ RDs.nil))
 ·skip
  refine o_load_B 1 H isAgg68 Z Z Z Z (R_nil (N_DK (Kn.of' H hd7 SubL.nil) ?_))
  refine RD_run [13] kR Z (RDs.cons Z ?_ RDs.nil)
  refine o_buildSlice H underlying68 sizeOf124 (fun w => ⟨_, zeroValue124 w, Z⟩) Z Z Z Z Z Z Z ?_; intro b21 w21 hb21 H
  refine R_nil (N_DK (Kn.of' H hd7 SubL.nil) ?_)
  refine RD_run [14] kR Z (RDs.cons Z ?_ RDs.nil)
  refine o_append1 4 H (sz := 2) (bytes := 24) underlying68 typeInfo124 ⟨_, Z, Z⟩ Z Z Z Z Z Z Z Z Z Z oM Z ?_; intro v22 w22 H
  have hchk22 := hchk.snoc (show osE _ (name, T20) _ from ⟨rfl, hname⟩) rfl
  obtain ⟨av22, cv22, rfl⟩ := H.accShape (k := 4) rfl
  refine R_nil (N_DK (Kn.of' H hd7 SubL.nil) (RD_t 15 Z kR Z (fun _ hK => v_nilCheck Z) (RD_t 16 Z kR Z (fun _ hK => v_fieldAddr 4 runUnderlying70 Z sizeOf68 Z Z) ?_)))
  refine RD_run [17] kR Z (RDs.cons Z ?_ RDs.nil)
  have H := H.toFront (k := 5) rfl
  have H := H.mergeF
  refine o_store_B 1 H sizeOf68 Z Z Z Z Z Z Z Z ?_; intro w23 H
  refine R_nil (N_DK (Kn.of' H hd7 SubL.nil) (RD_done kR (N_K (W_seq (W_drawK [1] 12 H kR Z ?_))))); intro w24 H; have hd24 := PLe.refl Gs8
  refine vM 0 Z Z (RD_t 1 Z kR Z (fun _ hK => v_nilCheck Z) (RD_t 2 Z kR Z (fun _ hK => v_fieldAddr 2 runUnderlying70 Z sizeOf67 Z Z) (RD_t 3 Z kR Z (fun _ hK => v_fieldAddr 0 runUnderlying67 Z sizeOf64 Z Z) (RD_t 4 Z kR Z (fun _ hK => v_load_B 0 hK isAgg64 Z Z Z) (vM 5 Z Z (RD_t 6 Z kR Z (fun _ hK => v_nilCheck Z) (RD_t 7 Z kR Z (fun _ hK => v_fieldAddr 2 runUnderlying70 Z sizeOf67 Z Z) (RD_t 8 Z kR Z (fun _ hK => v_fieldAddr 1 runUnderlying67 Z sizeOf65 Z Z) (RD_t 9 Z kR Z (fun _ hK => v_load_B 0 hK isAgg65 Z Z Z) ?_)))))))))
  refine RD_run [10] kR Z (RDs.cons Z ?_ RDs.nil)
  have H := H.toFront (k := 3) rfl
  have H := H.toFront (k := 3) rfl
  refine o_call call77 Z Z (i_keepTree_c _ _ H.sub _ _ _ _ _ hm hS hVd _ _ hN H.lent2 hT.wf oM) ?_
  rintro _ w25 ⟨G25, _, _, rfl, H25', ⟨es25, ck25, xs25, L25, rfl, rfl, hm25, hS25, hV25, hL25⟩⟩
  have hN := hN.up H25'.le
  have hNs := hNs.up H25'.le
  have hNc8 := hNc8.up H25'.le
  have hchk22 := hchk22.up H25'.le
  have hd24 := hd24.trans H25'.le
  have H := H.borrow2 H25'
  refine ⟨_, Z, ?_⟩
  refine R_nil (N_DK (Kn.of' H hd24 (SubL.cons 3 Z SubL.nil)) (RD_t 11 Z kR Z (fun _ hK => v_assign Z) (RD_done kR (N_K (W_ret (ret_unlock 3 H muLib Z call73 Z Z (rs := [.tmp 4]) results38 ?_)))))); intro wu9 H
  refine ⟨[_], ⟨Z, trivial⟩, ?_⟩
  have H := H.toFront (k := 2) rfl
  have H := H.toFront (k := 4) rfl
  have H := H.toFront (k := 3) rfl
  have H := H.toFront (k := 3) rfl
  have H := H.toFront (k := 4) rfl
  have htk := take_eq hdv (by simpa using hc3') (optI_neg.1 (by (rw [← Sp.sn_find hSn]; omega))) (by omega : d.snaps.length ≠ 6)
  have hfl := hT.flat
  have hln : sn.length + 1 = (sn ++ [(name, T20)]).length := by simp
  rw [hln] at H
  exact H.retM ⟨_, _, _, _, _, sn ++ [(name, T20)], _, _, L25, congrArg Value.bool (by (rw [htk, hfl, Option.isSome_map])), rfl, hm25, hS25, hV25, hN, hchk22, by (rw [List.map_append]; exact hNs.snoc hNc8), fun d2 h => (by (rw [htk] at h); obtain ⟨s2, h2, rfl⟩ := Option.map_eq_some_iff.1 h; exact ⟨hL25 s2 (by (rw [hfl]; exact h2)), rfl, All2.push hSn rfl (hT.strip hst20) hTv⟩)⟩
 skip
 refine o_buildSlice H underlying68 sizeOf124 (fun w => ⟨_, zeroValue124 w, Z⟩) Z Z Z Z Z Z Z ?_; intro b26 w26 hb26 H
 refine R_nil (N_DK (Kn.of' H hd7 SubL.nil) ?_)
 refine RD_run [4] kR Z (RDs.cons Z ?_ RDs.nil)
 refine o_load_B 2 H isAgg68 Z Z Z Z (R_nil (N_DK (Kn.of' H hd7 SubL.nil) ?_))
 refine RD_run [14] kR Z (RDs.cons Z ?_ RDs.nil)
 refine o_append1 4 H (sz := 2) (bytes := 24) underlying68 typeInfo124 ⟨_, Z, Z⟩ Z Z Z Z Z Z Z Z Z Z oM Z ?_; intro v27 w27 H
 have hchk27 := hchk.snoc (show osE _ (name, T20) _ from ⟨rfl, hname⟩) rfl
 obtain ⟨av27, cv27, rfl⟩ := H.accShape (k := 4) rfl
 refine R_nil (N_DK (Kn.of' H hd7 SubL.nil) (RD_t 15 Z kR Z (fun _ hK => v_nilCheck Z) (RD_t 16 Z kR Z (fun _ hK => v_fieldAddr 4 runUnderlying70 Z sizeOf68 Z Z) ?_)))
 refine RD_run [17] kR Z (RDs.cons Z ?_ RDs.nil)
 have H := H.toFront (k := 5) rfl
 have H := H.mergeF
 refine o_store_B 1 H sizeOf68 Z Z Z Z Z Z Z Z ?_; intro w28 H
 refine R_nil (N_DK (Kn.of' H hd7 SubL.nil) (RD_done kR (N_K (W_seq (W_drawK [1] 12 H kR Z ?_))))); intro w29 H; have hd29 := PLe.refl Gs8
 refine vM 0 Z Z (RD_t 1 Z kR Z (fun _ hK => v_nilCheck Z) (RD_t 2 Z kR Z (fun _ hK => v_fieldAddr 2 runUnderlying70 Z sizeOf67 Z Z) (RD_t 3 Z kR Z (fun _ hK => v_fieldAddr 0 runUnderlying67 Z sizeOf64 Z Z) (RD_t 4 Z kR Z (fun _ hK => v_load_B 0 hK isAgg64 Z Z Z) (vM 5 Z Z (RD_t 6 Z kR Z (fun _ hK => v_nilCheck Z) (RD_t 7 Z kR Z (fun _ hK => v_fieldAddr 2 runUnderlying70 Z sizeOf67 Z Z) (RD_t 8 Z kR Z (fun _ hK => v_fieldAddr 1 runUnderlying67 Z sizeOf65 Z Z) (RD_t 9 Z kR Z (fun _ hK => v_load_B 0 hK isAgg65 Z Z Z) ?_)))))))))
 refine RD_run [10] kR Z (RDs.cons Z ?_ RDs.nil)
 have H := H.toFront (k := 3) rfl
 have H := H.toFront (k := 3) rfl
 refine o_call call77 Z Z (i_keepTree_c _ _ H.sub _ _ _ _ _ hm hS hVd _ _ hN H.lent2 hT.wf oM) ?_
 rintro _ w30 ⟨G30, _, _, rfl, H30', ⟨es30, ck30, xs30, L30, rfl, rfl, hm30, hS30, hV30, hL30⟩⟩
 have hN := hN.up H30'.le
 have hNs := hNs.up H30'.le
 have hNc8 := hNc8.up H30'.le
 have hchk27 := hchk27.up H30'.le
 have hd29 := hd29.trans H30'.le
 have H := H.borrow2 H30'
 refine ⟨_, Z, ?_⟩
 refine R_nil (N_DK (Kn.of' H hd29 (SubL.cons 3 Z SubL.nil)) (RD_t 11 Z kR Z (fun _ hK => v_assign Z) (RD_done kR (N_K (W_ret (ret_unlock 3 H muLib Z call73 Z Z (rs := [.tmp 4]) results38 ?_)))))); intro wu10 H
 refine ⟨[_], ⟨Z, trivial⟩, ?_⟩
 have H := H.toFront (k := 2) rfl
 have H := H.toFront (k := 4) rfl
 have H := H.toFront (k := 3) rfl
 have H := H.toFront (k := 3) rfl
 have H := H.toFront (k := 4) rfl
 have htk := take_eq hdv (by simpa using hc3') (optI_neg.1 (by (rw [← Sp.sn_find hSn]; omega))) (by omega : d.snaps.length ≠ 6)
 have hfl := hT.flat
 have hln : sn.length + 1 = (sn ++ [(name, T20)]).length := by simp
 rw [hln] at H
 exact H.retM ⟨_, _, _, _, _, sn ++ [(name, T20)], _, _, L30, congrArg Value.bool (by (rw [htk, hfl, Option.isSome_map])), rfl, hm30, hS30, hV30, hN, hchk27, by (rw [List.map_append]; exact hNs.snoc hNc8), fun d2 h => (by (rw [htk] at h); obtain ⟨s2, h2, rfl⟩ := Option.map_eq_some_iff.1 h; exact ⟨hL30 s2 (by (rw [hfl]; exact h2)), rfl, All2.push hSn rfl (hT.strip hst20) hTv⟩)⟩
end Go.Proofs.Tst

namespace Go.Proofs.Tst
open Go Fw Tryz
theorem i_SnapTake1_c (w0 : World) (G0 : PH) (hG : PSub G0 w0) (db mb : Nat) (es : Array MapEntry) (ck : Nat) (xs : List (Int × Value)) (T : Nd) (FT : Fr) (sv : Value) (sn : List (Bs × Nd)) (c : List Value) (FSq : Fr) (d : BDisk) (hm : MapIs (Value.int .i64) es ck xs) (hS : StR G0 xs d.store) (hN : NdO 167 65 G0 T FT) (hT : Nd.TOK T d.tree) (hchk : Chk osE 2 G0 c sn) (hNs : NdsO 167 65 G0 (sn.map (·.2)) FSq) (hSn : SnOK sn d.snaps) (hdv : Sp.DiskValid d = true) (cp : Nat) (name : Bs) (hname : name.length ≤ 16777216) (hcp : PRow G0 cp 0 [str name]) (hLent : Lent w0 G0 [blk db (cl [.int .i32 0, .int .u32 0, .map (some mb), .pointer (some ⟨T.b, 0, none⟩), sv] 70), blk mb (.map es ck), frag FT, acc 124 2 sv sn.length c, frag FSq])  :
  Calls Tryz.prog 37 #[.pointer (some ⟨db, 0, none⟩), .pointer (some ⟨cp, 0, none⟩)] w0 (RetM w0 G0 (fps [blk db (cl [.int .i32 0, .int .u32 0, .map (some mb), .pointer (some ⟨T.b, 0, none⟩), sv] 70), blk mb (.map es ck), frag FT, acc 124 2 sv sn.length c, frag FSq]) (fun G' v Bs => ∃ (es' : Array MapEntry) (ck' : Nat) (xs' : List (Int × Value)) (F' : Fr) (sv' : Value) (sn' : List (Fw.Bs × Nd)) (c' : List Value) (FSq' : Fr) (L' : List BHeld), v = .bool (Sp.SnapTake d name).isSome ∧ Bs = [blk db (cl [.int .i32 0, .int .u32 0, .map (some mb), .pointer (some ⟨T.b, 0, none⟩), sv'] 70), blk mb (.map es' ck'), frag F', acc 124 2 sv' sn'.length c', frag FSq'] ∧ MapIs (Value.int .i64) es' ck' xs' ∧ StR G' xs' L' ∧ Sp.VH L' ∧ NdO 167 65 G' T F' ∧ Chk osE 2 G' c' sn' ∧ NdsO 167 65 G' (sn'.map (·.2)) FSq' ∧ ∀ d', Sp.SnapTake d name = some d' → L' = d'.store ∧ d'.tree = d.tree ∧ SnOK sn' d'.snaps)) := by
 have H : Hp w0 G0 (fps [blk db (cl [.int .i32 0, .int .u32 0, .map (some mb), .pointer (some ⟨T.b, 0, none⟩), sv] 70), blk mb (.map es ck), frag FT, acc 124 2 sv sn.length c, frag FSq]) w0 G0 [blk db (cl [.int .i32 0, .int .u32 0, .map (some mb), .pointer (some ⟨T.b, 0, none⟩), sv] 70), blk mb (.map es ck), frag FT, acc 124 2 sv sn.length c, frag FSq] := hLent.hp
 obtain ⟨adv, cdv, rfl⟩ := H.accShape (k := 3) rfl; have hVd := Sp.valid_iff.1 (Sp.dv_parts.1 hdv).1; have hTv := (Sp.dv_parts.1 hdv).2.1; have hTc := hT.cnt; have hTl := Sp.tree_len hTv; have hsnl := hSn.len; have hsn6 := (Sp.dv_parts.1 hdv).2.2.1
 refine calls_of_W (l := [.pointer (some ⟨db, 0, none⟩), .pointer (some ⟨cp, 0, none⟩)]) func37 Z ntmps37 Z (q2 (aG Z (q1 (mV Z (o_load_P H isAgg9 Z Z (hcp 0 _ Z) ?_)))))
 have H := H.toFront (k := 4) rfl
 have H := H.toFront (k := 4) rfl
 have H := H.toFront (k := 4) rfl
 have H := H.toFront (k := 4) rfl
 have H := H.toFront (k := 4) rfl
 refine o_call call38 Z Z (i_take_c _ _ H.sub _ _ _ _ _ _ _ _ _ _ _ _ hm hS hN hT hchk hNs hSn hdv _ hname H.lent5 ) ?_
 rintro _ w1 ⟨G1, _, _, rfl, H1', ⟨es1, ck1, xs1, F1, sv1, sn1, c1, FS1, L1, rfl, rfl, hm1, hS1, hV1, hN1, hchk1, hNs1, hd1⟩⟩
 have H := H.borrow5 H1'
 obtain ⟨avAd, cvAd, rfl⟩ := H.accShape (k := 3) rfl
 refine ⟨_, Z, ?_⟩
 refine aG Z (q3 (W_ret (rt1 results37 Z ?_)))
 have H := H.toFront (k := 4) rfl
 have H := H.toFront (k := 4) rfl
 have H := H.toFront (k := 4) rfl
 have H := H.toFront (k := 4) rfl
 have H := H.toFront (k := 4) rfl
 exact H.retM ⟨_, _, _, _, _, _, _, _, _, Z, Z, hm1, hS1, hV1, hN1, hchk1, hNs1, hd1⟩
end Go.Proofs.Tst

namespace Go.Proofs.Tst
open Go Fw Tryz
theorem i_changed_take_c (w0 : World) (G0 : PH) (hG : PSub G0 w0) (cd : List Value) (d : BDisk) (hd : diskE G0 d cd) (cp : Nat) (name : Bs) (hname : name.length ≤ 16777216) (hcp : PRow G0 cp 0 [str name])  :
  Calls Tryz.prog 36 #[.agg cd.toArray, .func (.func 37) #[] #[.pointer (some ⟨cp, 0, none⟩)]] w0 (RetN w0 G0 (fun v Bs => ∃ (v1 v2 v3 : Value) (F1 F2 F3 : Fr), v = .tuple #[.agg #[v1, v2, v3], .bool (Sp.SnapTake d name).isSome] ∧ Bs = [frag F1, frag F2, frag F3] ∧ OHs F1 v1 ((Sp.SnapTake d name).getD ⟨[], [], []⟩).store ∧ OIs F2 v2 ((Sp.SnapTake d name).getD ⟨[], [], []⟩).tree ∧ OSn F3 v3 ((Sp.SnapTake d name).getD ⟨[], [], []⟩).snaps)) := by
 obtain ⟨a1, m1, c1, a1', m1', c1', a1'', m1'', c1'', rfl, hr1, hr1', hr1''⟩ := hd; have hn_hr1 := hr1.len; have hx_hr1 : _ ≤ 1099511627776 := hr1.lim; have hn_hr1q := hr1'.len; have hx_hr1q : _ ≤ 1099511627776 := hr1'.lim; have hn_hr1qq := hr1''.len; have hx_hr1qq : _ ≤ 1099511627776 := hr1''.lim
 have H := Hp.init hG
 refine calls_of_W (l := [_, .func (.func 37) #[] #[.pointer (some ⟨cp, 0, none⟩)]]) func36 Z ntmps36 Z (q2 (o_box H Z Z Z ?_)); intro b2 w2 hb2 H
 refine o_alloc H zeroValue27 Z Z ?_; intro b3 w3 hb3 H
 refine aG Z (q1 (o_loadagg_B 1 H isAgg27 sizeOf27 Z Z Z Z Z (o_call call58 Z Z (i_newDisk_c _ _ H.sub _ d ⟨_, _, _, _, _, _, _, _, _, Z, hr1, hr1', hr1''⟩ H.lent0 ) ?_)))
 rintro _ w4 ⟨G4, _, _, rfl, H4', ⟨rfl, rfl, hnd4⟩ | ⟨db4, mb4, es4, ck4, xs4, T4, F4, sv4, sn4, c4, FS4, rfl, rfl, hm4, hS4, hN4, hT4, hchk4, hNs4, hSn4, hdv4⟩⟩
 ·skip
  have H := H.borrow0 H4'
  refine ⟨_, Z, ?_⟩
  refine mV Z (o_extract Z Z Z (o_extract Z Z Z (aG Z (aG Z (q3 (W_seq (q2 (mV Z (o_not Z Z (mV Z (rP Z (rP Z (rP Z (rP Z (o_pick_t Z Z Z ?_)))))))))))))))
  refine q3 (W_true Z (q2 (o_build bf27 Z Z Z (o_store_B 0 H sizeOf27 Z Z Z Z Z Z Z Z ?_)))); intro w5 H
  refine aG Z (q3 (W_ret (N_K_ret (ret_gen (rs := [.cell 4 27, .tmp 5]) (vs := [_, _]) results36 ⟨⟨_, Z, load_blk 0 H isAgg27 sizeOf27 Z Z Z⟩, Z, trivial⟩ ?_))))
  have H := H.del (k := 0) rfl
  have H := H.del (k := 0) rfl
  have hno : Sp.SnapTake d name = none := by simp [Sp.SnapTake, hnd4]
  have H := (((H.addF).addF).addF).forget hG (by simp)
  refine ⟨_, _, Z, H, .slice none 0 0, .slice none 0 0, .slice none 0 0, [], [], [], ?_, Z, ?_, ?_, ?_⟩
  ·(rw [hno]; rfl)
  ·(rw [hno]; exact oh_nil)
  ·(rw [hno]; exact oi_nil)
  (rw [hno]; exact os_nil)
 skip
 have hcp := hcp.up H4'.le
 have H := H.borrow0 H4'
 obtain ⟨avAd, cvAd, rfl⟩ := H.accShape (k := 3) rfl
 refine ⟨_, Z, ?_⟩
 refine mV Z (o_extract Z Z Z (o_extract Z Z Z (aG Z (aG Z (q3 (W_seq (q2 (mV Z (o_not Z Z (mV Z (gR Z (mV Z (gR Z (mV Z (gR Z ?_)))))))))))))))
 have H := H.toFront (k := 4) rfl
 have H := H.toFront (k := 4) rfl
 have H := H.toFront (k := 4) rfl
 have H := H.toFront (k := 4) rfl
 have H := H.toFront (k := 4) rfl
 refine o_callc call37 Z Z Z (i_SnapTake1_c _ _ H.sub _ _ _ _ _ _ _ _ _ _ _ _ hm4 hS4 hN4 hT4 hchk4 hNs4 hSn4 hdv4 _ _ hname hcp H.lent5 ) ?_
 rintro _ w6 ⟨G6, _, _, rfl, H6', ⟨es6, ck6, xs6, F6, sv6, sn6, c6, FS6, L6, rfl, rfl, hm6, hS6, hV6, hN6, hchk6, hNs6, hd6⟩⟩
 have H := H.borrow5 H6'
 obtain ⟨avAd, cvAd, rfl⟩ := H.accShape (k := 3) rfl
 refine ⟨_, Z, ?_⟩
 refine gR Z (o_not Z Z (o_pick_f Z Z Z (q3 ?_)))
 refine W_cond Z ?_ ?_
 ·intro hc7
  try simp only [nrm] at hc7
  refine q2 (o_build bf27 Z Z Z (o_store_B 5 H sizeOf27 Z Z Z Z Z Z Z Z ?_)); intro w8 H
  refine aG Z (q3 (W_ret (N_K_ret (ret_gen (rs := [.cell 4 27, .tmp 5]) (vs := [_, _]) results36 ⟨⟨_, Z, load_blk 5 H isAgg27 sizeOf27 Z Z Z⟩, Z, trivial⟩ ?_))))
  have H := H.del (k := 0) rfl
  have H := H.del (k := 0) rfl
  have H := H.del (k := 0) rfl
  have H := H.del (k := 0) rfl
  have H := H.del (k := 0) rfl
  have H := H.del (k := 0) rfl
  have H := H.del (k := 0) rfl
  have hno : Sp.SnapTake d name = none := by simpa using hc7
  have H := (((H.addF).addF).addF).forget hG (by simp)
  refine ⟨_, _, Z, H, .slice none 0 0, .slice none 0 0, .slice none 0 0, [], [], [], ?_, Z, ?_, ?_, ?_⟩
  ·(rw [hno]; rfl)
  ·(rw [hno]; exact oh_nil)
  ·(rw [hno]; exact oi_nil)
  (rw [hno]; exact os_nil)
 intro hc7'
 try simp only [nrm] at hc7'
 obtain ⟨d2, hd2⟩ := Option.isSome_iff_exists.1 (show (Sp.SnapTake d name).isSome = true by simpa using hc7')
 obtain ⟨hL2, ht2, hsn2⟩ := hd6 d2 hd2; subst hL2
 have hT2 : Nd.TOK T4 d2.tree := by (rw [ht2]; exact hT4)
 refine W_skip (N_K (q2 (mV Z ?_)))
 have H := H.toFront (k := 4) rfl
 have H := H.toFront (k := 4) rfl
 have H := H.toFront (k := 4) rfl
 have H := H.toFront (k := 4) rfl
 have H := H.toFront (k := 4) rfl
 refine o_call call71 Z Z (i_disk_c _ _ H.sub _ _ _ _ _ _ _ _ _ _ _ _ hm6 hS6 hN6 hT2 hchk6 hNs6 hsn2 hV6 (take_len hdv4 hd2) H.lent5 ) ?_
 rintro _ w9 ⟨G9, _, _, rfl, H9', ⟨u19, u29, u39, D19, D29, D39, rfl, rfl, ho19, ho29, ho39⟩⟩
 have H := H.borrow5 H9'
 obtain ⟨x19, p19⟩ := ho19
 obtain ⟨a19, c19, rfl⟩ := OwnS.shape p19
 obtain ⟨x29, p29⟩ := ho29
 obtain ⟨a29, c29, rfl⟩ := OwnS.shape p29
 obtain ⟨x39, p39⟩ := ho39
 obtain ⟨a39, c39, rfl⟩ := OwnS.shape p39
 refine ⟨_, Z, ?_⟩
 refine o_store_B 3 H sizeOf27 Z Z Z Z Z Z Z Z ?_; intro w10 H
 refine aG Z (q3 (W_ret (ret_gen (rs := [.cell 4 27, .tmp 5]) (vs := [_, _]) results36 ⟨⟨_, Z, load_blk 3 H isAgg27 sizeOf27 Z Z Z⟩, Z, trivial⟩ ?_)))
 have H := H.del (k := 3) rfl
 have H := H.del (k := 3) rfl
 have H := H.toFront (k := 2) rfl
 have H := H.toFront (k := 2) rfl
 have H := H.toFront (k := 2) rfl
 have H := H.forget hG (by simp)
 refine ⟨_, _, Z, H, .slice a19 d2.store.length c19, .slice a29 d2.tree.length c29, .slice a39 d2.snaps.length c39, D19, D29, D39, ?_, Z, ?_, ?_, ?_⟩
 ·(rw [hd2]; rfl)
 ·(rw [hd2]; exact ⟨_, p19⟩)
 ·(rw [hd2]; exact ⟨_, p29⟩)
 (rw [hd2]; exact ⟨_, p39⟩)
end Go.Proofs.Tst

namespace Go.Proofs.Tst
open Go Fw Tryz
theorem i_SnapTake_c (w0 : World) (G0 : PH) (hG : PSub G0 w0) (cd : List Value) (d : BDisk) (hd : diskE G0 d cd) (name : Bs) (hname : name.length ≤ 16777216)  :
  Calls Tryz.prog 16 #[.agg cd.toArray, str name] w0 (RetN w0 G0 (fun v Bs => ∃ (v1 v2 v3 : Value) (F1 F2 F3 : Fr), v = .tuple #[.agg #[v1, v2, v3], .bool (Sp.SnapTake d name).isSome] ∧ Bs = [frag F1, frag F2, frag F3] ∧ OHs F1 v1 ((Sp.SnapTake d name).getD ⟨[], [], []⟩).store ∧ OIs F2 v2 ((Sp.SnapTake d name).getD ⟨[], [], []⟩).tree ∧ OSn F3 v3 ((Sp.SnapTake d name).getD ⟨[], [], []⟩).snaps)) := by
 obtain ⟨a1, m1, c1, a1', m1', c1', a1'', m1'', c1'', rfl, hr1, hr1', hr1''⟩ := hd; have hn_hr1 := hr1.len; have hx_hr1 : _ ≤ 1099511627776 := hr1.lim; have hn_hr1q := hr1'.len; have hx_hr1q : _ ≤ 1099511627776 := hr1'.lim; have hn_hr1qq := hr1''.len; have hx_hr1qq : _ ≤ 1099511627776 := hr1''.lim
 have H := Hp.init hG
 refine calls_of_W (l := [_, str name]) func16 Z ntmps16 Z (q2 (o_box H Z Z Z ?_)); intro b2 w2 hb2 H
 refine o_box H Z Z Z ?_; intro b3 w3 hb3 H
 refine o_alloc H zeroValue27 Z Z ?_; intro b4 w4 hb4 H
 refine aG Z (q1 (o_loadagg_B 2 H isAgg27 sizeOf27 Z Z Z Z Z (o_makefn1 Z Z (o_call call36 Z Z (i_changed_take_c _ _ (H.lendSubL [1]) _ d ⟨_, _, _, _, _, _, _, _, _, Z, (hr1.up (PPlus.le _ _ _)), (hr1'.up (PPlus.le _ _ _)), (hr1''.up (PPlus.le _ _ _))⟩ _ _ hname (prow_blk (H.lendPredL (k := 1) (ks := [1]) Z Z)) ) ?_))))
 rintro _ w5 ⟨_, _, rfl, H5', ⟨u15, u25, u35, E15, E25, E35, rfl, rfl, ho15, ho25, ho35⟩⟩
 have H := H.readersL H5'
 obtain ⟨x15, p15⟩ := ho15
 obtain ⟨a15, c15, rfl⟩ := OwnS.shape p15
 obtain ⟨x25, p25⟩ := ho25
 obtain ⟨a25, c25, rfl⟩ := OwnS.shape p25
 obtain ⟨x35, p35⟩ := ho35
 obtain ⟨a35, c35, rfl⟩ := OwnS.shape p35
 refine ⟨_, Z, ?_⟩
 refine o_extract Z Z Z (o_extract Z Z Z (o_store_B 3 H sizeOf27 Z Z Z Z Z Z Z Z ?_)); intro w6 H
 refine aG Z (q3 (W_ret (ret_gen (rs := [.cell 4 27, .tmp 5]) (vs := [_, _]) results16 ⟨⟨_, Z, load_blk 3 H isAgg27 sizeOf27 Z Z Z⟩, Z, trivial⟩ ?_)))
 have H := H.del (k := 3) rfl
 have H := H.del (k := 3) rfl
 have H := H.del (k := 3) rfl
 have H := H.toFront (k := 2) rfl
 have H := H.toFront (k := 2) rfl
 have H := H.toFront (k := 2) rfl
 exact ⟨_, _, Z, H, .slice a15 ((Sp.SnapTake d name).getD ⟨[], [], []⟩).store.length c15, .slice a25 ((Sp.SnapTake d name).getD ⟨[], [], []⟩).tree.length c25, .slice a35 ((Sp.SnapTake d name).getD ⟨[], [], []⟩).snaps.length c35, E15, E25, E35, Z, Z, ⟨_, p15⟩, ⟨_, p25⟩, ⟨_, p35⟩⟩
end Go.Proofs.Tst

namespace Go.Proofs.Tst
open Go Fw Tryz
theorem l6In_c (w0 : World) (n : Int) (lo : Int) (hi : Int)  :
  Calls Tryz.prog 78 #[.int .i64 n, .int .i64 lo, .int .i64 hi] w0 (Rets w0 (.bool (Sp.l6In n lo hi))) := by
 have H := Hp.init0 w0
 refine calls_of_W (l := [.int .i64 n, .int .i64 lo, .int .i64 hi]) func78 Z ntmps78 Z (q2 (aG Z (q1 (mV Z (mV Z (o_geq Z Z Z (mV Z ?_)))))))
 refine R_case (t := 10) Z ?_ ?_
 ·intro hc1
  try simp only [nrm] at hc1
  refine gR Z (mV Z (gR Z (mV Z (gR Z (o_leq Z Z Z (o_pick_t Z Z Z (aG Z (q3 (W_ret (rt1 results78 Z ?_))))))))))
  exact H.rets (congrArg Value.bool (by unfold Sp.l6In; rw [Bool.eq_iff_iff]; simp; omega))
 intro hc1'
 try simp only [nrm] at hc1'
 refine rP Z (rP Z (rP Z (o_pick_f Z Z Z (aG Z (q3 (W_ret (rt1 results78 Z ?_)))))))
 exact H.rets (congrArg Value.bool (by unfold Sp.l6In; rw [Bool.eq_iff_iff]; simp; omega))
theorem l1Word_c (w0 : World) (s : Bs) (hs : s.length ≤ 16777216)  :
  Calls Tryz.prog 39 #[str s] w0 (Rets w0 (.bool (Sp.l1Word s))) := by
 have H := Hp.init0 w0
 refine calls_of_W (l := [str s]) func39 Z ntmps39 Z (q2 (aG Z (q3 (W_seq (q2 (aG Z (q3 (W_block ?_))))))))
 refine W_lp (hf := (Sub.cons (t := 0) Z Sub.nil)) (J := fun M w m => ∃ (k : Nat) (G : PH), M = [(3, .int .i64 (k : Int))] ∧ PLe (fun _ => none) G ∧ Hp w0 (fun _ => none) [] w G [] ∧ (k ≤ s.length ∧ (s.take k).all Sp.low = true) ∧ m = (s.length - k)) (h0 := ⟨0, _, Z, PLe.refl _, H, ?inv, Z⟩) (round := ?round)
 case inv => exact ⟨by omega, by simp⟩
 case round =>
  rintro _ w1 _ ⟨k, G1, rfl, hle1, H, hinv1, rfl⟩
  obtain ⟨hk, hall⟩ := hinv1
  refine W_seq (q2 (mV Z (mV Z (o_len_str underlying9 Z Z (o_lss Z Z Z (q3 ?_))))))
  refine W_cond Z ?_ ?_
  ·intro hc2
   try simp only [nrm] at hc2
   refine W_skip (N_K (W_seq (W_block (q2 (mV Z (mV Z (o_index_str underlying9 Z Z Z Z oM ?_))))))); intro ch3 hch3; have hlt3 := ch3.toNat_lt
   refine o_lss Z Z Z (mV Z ?_)
   refine R_case (t := 14) Z ?_ ?_
   ·intro hc4
    try simp only [nrm] at hc4
    refine rP Z (rP Z (rP Z (rP Z (o_pick_t Z Z Z (q3 (W_true Z (q2 (aG Z (q3 (W_ret (N_B_ret (N_K_ret (N_LP_ret (N_B_ret (N_K_ret ?_)))))))))))))))
    refine rt1 results39 Z ?_
    exact H.rets (congrArg Value.bool (by rw [Sp.l1Word, Sp.all_false hch3 (by simp [Sp.low]; omega)]; rfl))
   intro hc4'
   try simp only [nrm] at hc4'
   refine gR Z (mV Z (gR Z (mV Z (gR Z (o_index_str underlying9 Z Z Z Z oM ?_))))); intro ch5 hch5; have hlt5 := ch5.toNat_lt
   obtain rfl : ch5 = ch3 := Option.some.inj (hch5.symm.trans hch3)
   refine gR Z (o_gtr Z Z Z (o_pick_f Z Z Z (q3 ?_)))
   refine W_cond Z ?_ ?_
   ·intro hc6
    try simp only [nrm] at hc6
    refine q2 (aG Z (q3 (W_ret (N_B_ret (N_K_ret (N_LP_ret (N_B_ret (N_K_ret (rt1 results39 Z ?_)))))))))
    exact H.rets (congrArg Value.bool (by rw [Sp.l1Word, Sp.all_false hch5 (by simp [Sp.low]; omega)]; rfl))
   intro hc6'
   try simp only [nrm] at hc6'
   refine W_skip (N_B (N_K (W_region (mV Z (o_add Z Z Z oO (aG Z (R_nil ?_)))))))
   refine N_lp (hJ := ⟨k + 1, _, Z, hle1, H, ?inv, Z⟩) (hm := ?hm)
   case hm => omega
   case inv => exact ⟨by omega, Sp.all_take hall hch5 (by simp [Sp.low]; omega)⟩
  intro hc2'
  try simp only [nrm] at hc2'
  refine W_exit (N_K_exit (N_LP_exit (N_B_same (N_K (q2 (mV Z (o_len_str underlying9 Z Z (o_call call78 Z Z (l6In_c _ _ _ _ ) ?_))))))))
  rintro _ w8 ⟨rfl, ew8⟩; have H := H.step ew8; refine ⟨_, rfl, ?_⟩
  refine aG Z (q3 (W_ret (rt1 results39 Z ?_)))
  obtain rfl : k = s.length := by omega
  rw [List.take_length] at hall
  exact H.rets (congrArg Value.bool (by simp only [Sp.l1Word, Sp.l6In, hall]; rw [Bool.eq_iff_iff]; simp; omega))
theorem l1Cut_c (w0 : World) (G0 : PH) (hG : PSub G0 w0) (s : Bs) (hs : s.length ≤ 16777216)  :
  Calls Tryz.prog 148 #[str s] w0 (RetP w0 G0 (fun G v => RdT G v (Sp.cut s))) := by
 have H := Hp.init hG
 refine calls_of_W (l := [str s]) func148 Z ntmps148 Z (q2 (aG Z (q1 (o_buildSlice H underlying77 sizeOf9 (fun w => ⟨_, zeroValue9 w, Z⟩) Z Z Z Z Z Z Z ?_)))); intro b1 w1 hb1 H
 have H := H.blkAcc 1 (k := 0) (n := 0) rfl rfl (by decide)
 refine aG Z (q1 (aG Z (q3 (W_seq (q2 (aG Z (q3 (W_block ?_))))))))
 refine W_lp (hf := (Sub.cons (t := 0) Z (Sub.cons (t := 2) Z Sub.nil))) (J := fun M w m => ∃ (v : Value) (n : Nat) (cs : List Value) (xs : List (Bs)) (f k : Nat) (G : PH), M = [(4, .int .i64 (f : Int)), (5, .int .i64 (k : Int)), (3, v)] ∧ PLe G0 G ∧ Hp w0 G0 [] w G [acc 9 1 v n cs] ∧ (Chk strE 1 G cs xs ∧ n = xs.length ∧ f ≤ k ∧ k ≤ s.length ∧ xs.length ≤ k ∧ xs ++ Sp.cut (s.drop f) = Sp.cut s ∧ ∀ j, f ≤ j → j < k → s[j]? ≠ some 47) ∧ m = (s.length - k)) (h0 := ⟨_, _, _, [], 0, 0, _, Z, PLe.refl _, H, ?inv, Z⟩) (round := ?round)
 case inv => exact ⟨(Chk.nil (E := strE) (sz := 1) (G := G0)),  by first | rfl | simp | (simp; omega) | omega, (by simp)⟩
 case round =>
  rintro _ w2 _ ⟨v, n, cs, xs, f, k, G2, rfl, hle2, H, hinv2, rfl⟩
  obtain ⟨hchk2_0, hn2_0, hinv2⟩ := hinv2
  obtain ⟨av2_0, cv2_0, rfl⟩ := H.accShape (k := 0) rfl
  obtain ⟨h1, h2, h3, h4, h5⟩ := hinv2
  refine W_seq (q2 (mV Z (mV Z (o_len_str underlying9 Z Z (o_lss Z Z Z (q3 ?_))))))
  refine W_cond Z ?_ ?_
  ·intro hc3
   try simp only [nrm] at hc3
   refine W_skip (N_K (W_seq (W_block (q2 (mV Z (mV Z (o_index_str underlying9 Z Z Z Z oM ?_))))))); intro ch4 hch4; have hlt4 := ch4.toNat_lt
   refine o_eql Z Z Z (q3 ?_)
   refine W_cond Z ?_ ?_
   ·intro hc5
    try simp only [nrm] at hc5
    refine q2 (mV Z (mV Z (mV Z (mV Z (o_slice_str underlying9 Z Z Z Z oM oM oM (o_buildSlice H underlying77 sizeOf9 (fun w => ⟨_, zeroValue9 w, Z⟩) Z Z Z Z Z Z Z ?_)))))); intro b7 w7 hb7 H
    refine o_append1 0 H (sz := 1) (bytes := 16) underlying77 typeInfo9 ⟨_, Z, Z⟩ Z Z Z Z Z Z Z Z Z Z oM Z ?_; intro v8 w8 H
    have hchk8 := hchk2_0.snoc (show strE _ ((s.drop f).take (k - f)) _ from ⟨rfl, (by (first | assumption | (refine Sp.l5Parent_lim ?_; assumption) | (simp; done) | (simp; omega) | omega))⟩) rfl
    obtain ⟨av8, cv8, rfl⟩ := H.accShape (k := 0) rfl
    refine aG Z (q3 (W_region (mV Z (o_add Z Z Z oO (aG Z (R_nil (N_B (N_K (W_region (mV Z (o_add Z Z Z oO (aG Z (R_nil ?_)))))))))))))
    refine N_lp (hJ := ⟨_, _, _, (xs ++ [((s.drop f).take (k - f))]), k + 1, k + 1, _, Z, hle2, H, ?inv, Z⟩) (hm := ?hm)
    case hm => omega
    case inv => exact ⟨hchk8, aN, (by exact ⟨by omega, by omega, by simp; omega, Sp.cut_step h4 h1 (hch4 ▸ congrArg some (Sp.is47 oM)) h5, fun j g1 g2 => by omega⟩)⟩
   intro hc5'
   try simp only [nrm] at hc5'
   refine W_skip (N_B (N_K (W_region (mV Z (o_add Z Z Z oO (aG Z (R_nil ?_)))))))
   refine N_lp (hJ := ⟨_, _, _, xs, f, k + 1, _, Z, hle2, H, ?inv, Z⟩) (hm := ?hm)
   case hm => omega
   case inv => exact ⟨hchk2_0, aN, (by exact ⟨by omega, by omega, by omega, h4, Sp.noslash_succ h5 (hch4 ▸ Sp.not47 oM)⟩)⟩
  intro hc3'
  try simp only [nrm] at hc3'
  refine W_exit (N_K_exit (N_LP_exit (N_B_same (N_K (q2 (mV Z (mV Z (mV Z (o_slice_str_from underlying9 Z Z Z oM oM (o_buildSlice H underlying77 sizeOf9 (fun w => ⟨_, zeroValue9 w, Z⟩) Z Z Z Z Z Z Z ?_)))))))))); intro b13 w13 hb13 H
  refine o_append1 0 H (sz := 1) (bytes := 16) underlying77 typeInfo9 ⟨_, Z, Z⟩ Z Z Z Z Z Z Z Z Z Z oM Z ?_; intro v14 w14 H
  have hchk14 := hchk2_0.snoc (show strE _ (s.drop f) _ from ⟨rfl, (by (first | assumption | (refine Sp.l5Parent_lim ?_; assumption) | (simp; done) | (simp; omega) | omega))⟩) rfl
  obtain ⟨av14, cv14, rfl⟩ := H.accShape (k := 0) rfl
  refine aG Z (q3 (W_ret (rt1 results148 Z ?_)))
  obtain ⟨G515, H, hsg515, hsr515⟩ := H.shut' (k := 0) rfl hchk14 aN aN
  exact H.retP (by rw [← Sp.cut_end h4 h5 oM]; exact hsr515)
theorem PathValid_c (w0 : World) (G0 : PH) (hG : PSub G0 w0) (path : Bs) (hpath : path.length ≤ 16777216)  :
  Calls Tryz.prog 116 #[str path] w0 (Rets w0 (.bool (Sp.PathValid path))) := by
 have H := Hp.init hG
 refine calls_of_W (l := [str path]) func116 Z ntmps116 Z (q2 (aG Z (q1 (mV Z (o_call call148 Z Z (l1Cut_c _ _ H.sub _ hpath ) ?_)))))
 rintro _ w1 ⟨G1, u1_0, g1, rfl, hr1_0⟩
 have H := H.grow g1
 obtain ⟨a1_0, k1_0, rfl⟩ := hr1_0.shape; have hx_hr1_0 : _ ≤ 1099511627776 := hr1_0.lim
 refine ⟨_, Z, ?_⟩
 refine aG Z (q3 (W_seq (q2 (aG Z (q3 (W_block ?_))))))
 refine W_lp (hf := (Sub.cons (t := 3) Z Sub.nil)) (J := fun M w m => ∃ (k : Nat) (G : PH), M = [(4, .int .i64 (k : Int))] ∧ PLe G1 G ∧ Hp w0 G0 [] w G [] ∧ (k ≤ (Sp.cut path).length ∧ ((Sp.cut path).take k).all Sp.l1Word = true) ∧ m = ((Sp.cut path).length - k)) (h0 := ⟨0, _, Z, PLe.refl _, H, ?inv, Z⟩) (round := ?round)
 case inv => simp
 case round =>
  rintro _ w2 _ ⟨k, G2, rfl, hle2, H, hinv2, rfl⟩
  have hr1_0 := hr1_0.up hle2
  obtain ⟨hk, hall⟩ := hinv2
  refine W_seq (q2 (mV Z (mV Z (o_len_slice underlying77 Z Z (o_lss Z Z Z (q3 ?_))))))
  refine W_cond Z ?_ ?_
  ·intro hc3
   try simp only [nrm] at hc3
   refine W_skip (N_K (W_seq (W_block (q2 (mV Z (mV Z (o_index_P k hr1_0 underlying77 sizeOf9 Z Z Z Z aN ?_))))))); intro b4 o4 z4 q4 hz4 hE4 hrow4
   obtain ⟨rfl, hi4⟩ := hE4; have hy_hi4 : _ ≤ 16777216 := hi4
   refine o_load_P H isAgg9 Z Z (hrow4 0 _ Z) (o_call call39 Z Z (l1Word_c _ _ hi4 ) ?_)
   rintro _ w5 ⟨rfl, ew5⟩; have H := H.step ew5; refine ⟨_, rfl, ?_⟩
   refine o_not Z Z (q3 ?_)
   refine W_cond Z ?_ ?_
   ·intro hc6
    try simp only [nrm] at hc6
    refine q2 (aG Z (q3 (W_ret (N_B_ret (N_K_ret (N_LP_ret (N_B_ret (N_K_ret (rt1 results116 Z ?_)))))))))
    exact H.rets (congrArg Value.bool (by rw [Sp.PathValid, Sp.all_false hz4 hc6]; rfl))
   intro hc6'
   try simp only [nrm] at hc6'
   refine W_skip (N_B (N_K (W_region (mV Z (o_add Z Z Z oO (aG Z (R_nil ?_)))))))
   refine N_lp (hJ := ⟨k + 1, _, Z, hle2, H, ?inv, Z⟩) (hm := ?hm)
   case hm => omega
   case inv => exact ⟨by omega, Sp.all_take hall hz4 hc6'⟩
  intro hc3'
  try simp only [nrm] at hc3'
  refine W_exit (N_K_exit (N_LP_exit (N_B_same (N_K (q2 (mV Z (o_len_slice underlying77 Z Z (o_leq Z Z Z (aG Z (q3 (W_ret (rt1 results116 Z ?_))))))))))))
  obtain rfl : k = (Sp.cut path).length := by omega
  rw [List.take_length] at hall
  exact H.rets (congrArg Value.bool (by simp only [Sp.PathValid, hall, Bool.true_and]; rw [Bool.eq_iff_iff]; simp; omega))
theorem l1Last_c (w0 : World) (path : Bs) (hpath : path.length ≤ 16777216)  :
  Calls Tryz.prog 149 #[str path] w0 (Rets w0 (.int .i64 (Sp.l1Last path))) := by
 have H := Hp.init0 w0
 refine calls_of_W (l := [str path]) func149 Z ntmps149 Z (q2 (aG Z (q1 (aG Z (q3 (W_seq (q2 (aG Z (q3 (W_block ?_))))))))))
 refine W_lp (hf := (Sub.cons (t := 0) Z (Sub.cons (t := 2) Z Sub.nil))) (J := fun M w m => ∃ (k : Nat) (o : Option Nat) (G : PH), M = [(3, .int .i64 (Sp.optI o)), (4, .int .i64 (k : Int))] ∧ PLe (fun _ => none) G ∧ Hp w0 (fun _ => none) [] w G [] ∧ (k ≤ path.length ∧ o = (List.range k).foldl (Sp.lastF path) none) ∧ m = (path.length - k)) (h0 := ⟨0, none, _, Z, PLe.refl _, H, ?inv, Z⟩) (round := ?round)
 case inv => exact ⟨by omega, rfl⟩
 case round =>
  rintro _ w1 _ ⟨k, o, G1, rfl, hle1, H, hinv1, rfl⟩
  obtain ⟨hk, hall⟩ := hinv1
  refine W_seq (q2 (mV Z (mV Z (o_len_str underlying9 Z Z (o_lss Z Z Z (q3 ?_))))))
  refine W_cond Z ?_ ?_
  ·intro hc2
   try simp only [nrm] at hc2
   refine W_skip (N_K (W_seq (W_block (q2 (mV Z (mV Z (o_index_str underlying9 Z Z Z Z oM ?_))))))); intro ch3 hch3; have hlt3 := ch3.toNat_lt
   refine o_eql Z Z Z (q3 ?_)
   refine W_cond Z ?_ ?_
   ·intro hc4
    try simp only [nrm] at hc4
    refine W_region (mV Z (aG Z (R_nil (N_B (N_K (W_region (mV Z (o_add Z Z Z oO (aG Z (R_nil ?_))))))))))
    refine N_lp (hJ := ⟨k + 1, some k, _, Z, hle1, H, ?inv, Z⟩) (hm := ?hm)
    case hm => omega
    case inv => exact ⟨by omega, by rw [Sp.last_succ, ← hall, Sp.lastF, hch3, if_pos (congrArg some (Sp.is47 oM))]⟩
   intro hc4'
   try simp only [nrm] at hc4'
   refine W_skip (N_B (N_K (W_region (mV Z (o_add Z Z Z oO (aG Z (R_nil ?_)))))))
   refine N_lp (hJ := ⟨k + 1, o, _, Z, hle1, H, ?inv, Z⟩) (hm := ?hm)
   case hm => omega
   case inv => exact ⟨by omega, by rw [Sp.last_succ, ← hall, Sp.lastF, hch3, if_neg (Sp.not47 oM)]⟩
  intro hc2'
  try simp only [nrm] at hc2'
  refine W_exit (N_K_exit (N_LP_exit (N_B_same (N_K (q2 (mV Z (aG Z (q3 (W_ret (rt1 results149 Z ?_))))))))))
  obtain rfl : k = path.length := by omega
  exact H.rets (congrArg (Value.int .i64) (by rw [hall]; rfl))
theorem l5Parent_c (w0 : World) (path : Bs) (hpath : path.length ≤ 16777216)  :
  Calls Tryz.prog 117 #[str path] w0 (Rets w0 (str (Sp.l5Parent path))) := by
 have hl := Sp.l1Last_le path
 have H := Hp.init0 w0
 refine calls_of_W (l := [str path]) func117 Z ntmps117 Z (q2 (aG Z (q1 (mV Z (mV Z (o_call call149 Z Z (l1Last_c _ _ hpath ) ?_))))))
 rintro _ w1 ⟨rfl, ew1⟩; have H := H.step ew1; refine ⟨_, rfl, ?_⟩
 refine o_max Z Z Z (o_slice_str_to underlying9 Z Z Z oM oM (aG Z (q3 (W_ret (rt1 results117 Z ?_)))))
 exact H.rets Z
theorem l5At_c (w0 : World) (G0 : PH) (hG : PSub G0 w0) (vlist : Value) (list : List (BItem)) (hlist : RdItems G0 vlist list) (path : Bs) (hpath : path.length ≤ 16777216)  :
  Calls Tryz.prog 118 #[vlist, str path] w0 (Rets w0 (.int .i64 (Sp.l5At list path))) := by
 obtain ⟨alist, klist, rfl⟩ := hlist.shape
 have hlimlist : list.length ≤ 1099511627776 := hlist.lim
 have H := Hp.init hG
 refine calls_of_W (l := [.slice alist list.length klist, str path]) func118 Z ntmps118 Z (q2 (aG Z (q3 (W_seq (q2 (aG Z (q3 (W_block ?_))))))))
 refine W_lp (hf := (Sub.cons (t := 0) Z (Sub.cons (t := 1) Z Sub.nil))) (J := fun M w m => ∃ (k : Nat) (G : PH), M = [(5, .int .i64 (k : Int))] ∧ PLe G0 G ∧ Hp w0 G0 [] w G [] ∧ (k ≤ list.length ∧ (∀ j, j < k → ∀ y, list[j]? = some y → decide (y.path = path) = false)) ∧ m = (list.length - k)) (h0 := ⟨0, _, Z, PLe.refl _, H, ?inv, Z⟩) (round := ?round)
 case inv => exact ⟨by omega, fun j hj => by omega⟩
 case round =>
  rintro _ w1 _ ⟨k, G1, rfl, hle1, H, hinv1, rfl⟩
  have hlist := hlist.up hle1
  obtain ⟨hk, hall⟩ := hinv1
  refine W_seq (q2 (mV Z (mV Z (o_len_slice underlying24 Z Z (o_lss Z Z Z (q3 ?_))))))
  refine W_cond Z ?_ ?_
  ·intro hc2
   try simp only [nrm] at hc2
   refine W_skip (N_K (W_seq (W_block (q2 (mV Z (mV Z (o_index_P k hlist underlying24 sizeOf40 Z Z Z Z aN ?_))))))); intro b3 o3 z3 q3 hz3 hE3 hrow3
   obtain ⟨a3, m3, c3, rfl, hi3, hr3⟩ := hE3; have hy_hi3 : _ ≤ 16777216 := hi3; have hn_hr3 := hr3.len; have hx_hr3 : _ ≤ 1099511627776 := hr3.lim
   refine o_fieldAddr 0 runUnderlying40 Z sizeOf9 Z Z Z (o_load_P H isAgg9 Z Z (hrow3 0 _ Z) (mV Z (o_seql Z Z Z (q3 ?_))))
   refine W_cond Z ?_ ?_
   ·intro hc4
    try simp only [nrm] at hc4
    refine q2 (mV Z (aG Z (q3 (W_ret (N_B_ret (N_K_ret (N_LP_ret (N_B_ret (N_K_ret (rt1 results118 Z ?_))))))))))
    exact H.rets (congrArg (Value.int .i64) (by rw [Sp.l5At, Sp.atI, Sp.find_at hall hz3 (by simp; exact hc4)]; rfl))
   intro hc4'
   try simp only [nrm] at hc4'
   refine W_skip (N_B (N_K (W_region (mV Z (o_add Z Z Z oO (aG Z (R_nil ?_)))))))
   refine N_lp (hJ := ⟨k + 1, _, Z, hle1, H, ?inv, Z⟩) (hm := ?hm)
   case hm => omega
   case inv => exact ⟨by omega, Sp.none_succ hall hz3 (by simp; exact hc4')⟩
  intro hc2'
  try simp only [nrm] at hc2'
  refine W_exit (N_K_exit (N_LP_exit (N_B_same (N_K (q2 (aG Z (q3 (W_ret (rt1 results118 Z ?_)))))))))
  exact H.rets (congrArg (Value.int .i64) (by rw [Sp.l5At, Sp.atI, Sp.find_none hall oM]; rfl))
theorem l5Home_c (w0 : World) (G0 : PH) (hG : PSub G0 w0) (vlist : Value) (list : List (BItem)) (hlist : RdItems G0 vlist list) (path : Bs) (hpath : path.length ≤ 16777216)  :
  Calls Tryz.prog 90 #[vlist, str path] w0 (Rets w0 (.bool (Sp.l5Home list path))) := by
 obtain ⟨alist, klist, rfl⟩ := hlist.shape
 have hlimlist : list.length ≤ 1099511627776 := hlist.lim
 have H := Hp.init hG
 refine calls_of_W (l := [.slice alist list.length klist, str path]) func90 Z ntmps90 Z (q2 (aG Z (q1 (mV Z (o_call call117 Z Z (l5Parent_c _ _ hpath ) ?_)))))
 rintro _ w1 ⟨rfl, ew1⟩; have H := H.step ew1; refine ⟨_, rfl, ?_⟩
 refine aG Z (q1 (mV Z (mV Z ?_)))
 refine o_call call118 Z Z (l5At_c _ _ H.sub _ _ hlist _ (by (first | assumption | (refine Sp.l5Parent_lim ?_; assumption) | (simp; done) | (simp; omega) | omega)) ) ?_
 rintro _ w2 ⟨rfl, ew2⟩; have H := H.step ew2; refine ⟨_, rfl, ?_⟩
 refine aG Z (q1 (mV Z (o_seql Z Z Z (mV Z ?_))))
 refine R_case (t := 14) Z ?_ ?_
 ·intro hc3
  try simp only [nrm] at hc3
  refine rP Z (rP Z (rP Z (R_pass Z (yl_un Z Z) (R_pass Z (yl_un Z Z) (R_pass Z (yl_un Z Z) (R_pass Z (yl_un Z Z) (R_pass Z (yl_un Z Z) (rP Z (o_pick_t Z Z Z (aG Z (q3 (W_ret (rt1 results90 Z ?_)))))))))))))
  exact H.rets (congrArg Value.bool (by simp [Sp.l5Home, hc3]))
 intro hc3'
 try simp only [nrm] at hc3'
 refine gR Z (mV Z (gR Z (o_geq Z Z Z (gR Z (mV Z ?_)))))
 refine R_case (t := 17) Z ?_ ?_
 ·intro hc4
  try simp only [nrm] at hc4
  obtain ⟨i, x, hi1, hi2, hi3, hi4, hi5⟩ := Sp.at_nat hc4
  refine gR Z (mV Z (gR Z (mV Z (gR Z (o_index_P i hlist underlying24 sizeOf40 Z Z Z hi2 aN ?_))))); intro b5 o5 z5 q5 hz5 hE5 hrow5
  obtain ⟨a5, m5, c5, rfl, hi5, hr5⟩ := hE5; have hy_hi5 : _ ≤ 16777216 := hi5; have hn_hr5 := hr5.len; have hx_hr5 : _ ≤ 1099511627776 := hr5.lim
  refine gR Z (o_fieldAddr 1 runUnderlying40 Z sizeOf4 Z Z Z (gR Z (o_load_P H isAgg4 Z Z (hrow5 1 _ Z) (gR Z (o_pick_t Z Z Z (o_pick_f Z Z Z (aG Z (q3 (W_ret (rt1 results90 Z ?_))))))))))
  exact H.rets (congrArg Value.bool (by simp [Sp.l5Home, hc3', Sp.atI, hi1, hz5]))
 intro hc4'
 try simp only [nrm] at hc4'
 refine rP Z (rP Z (rP Z (rP Z (rP Z (gR Z (o_pick_f Z Z Z (o_pick_f Z Z Z (aG Z (q3 (W_ret (rt1 results90 Z ?_)))))))))))
 exact H.rets (congrArg Value.bool (by simp [Sp.l5Home, hc3', Sp.atI, Sp.at_none hc4']))
theorem l5Item_c (w0 : World) (G0 : PH) (hG : PSub G0 w0) (cx : List Value) (x : BItem) (hx : itemE G0 x cx)  :
  Calls Tryz.prog 89 #[.agg cx.toArray] w0 (Rets w0 (.bool (Sp.l5Item x))) := by
 obtain ⟨a1, m1, c1, rfl, hi1, hr1⟩ := hx; have hy_hi1 : _ ≤ 16777216 := hi1; have hn_hr1 := hr1.len; have hx_hr1 : _ ≤ 1099511627776 := hr1.lim
 have H := Hp.init hG
 refine calls_of_W (l := [_]) func89 Z ntmps89 Z (q2 (o_box H Z Z Z ?_)); intro b2 w2 hb2 H
 refine aG Z (q3 (W_seq (q2 (aG Z (q3 (W_block ?_))))))
 obtain ⟨ln3, hln3, H⟩ := H.name (k := 0) rfl
 refine W_lp (hf := (Sub.cons (t := 1) Z Sub.nil)) (J := fun M w m => ∃ (k : Nat) (G : PH), M = [(3, .int .i64 (k : Int))] ∧ PLe G0 G ∧ Hp w0 G0 [] w G [blk b2 (cl ln3 40)] ∧ (k ≤ x.ids.length ∧ (x.ids.take k).all (Sp.idOk x.dir) = true) ∧ m = (x.ids.length - k)) (h0 := ⟨0, _, Z, PLe.refl _, H, ?inv, Z⟩) (round := ?round)
 case inv => exact ⟨by omega, by simp⟩
 case round =>
  rintro _ w4 _ ⟨k, G4, rfl, hle4, H, hinv4, rfl⟩
  subst hln3
  have hr1 := hr1.up hle4
  obtain ⟨hk, hall⟩ := hinv4
  refine W_seq (q2 (mV Z (o_fieldAddr 2 runUnderlying40 Z sizeOf38 Z Z Z (o_load_B 0 H isAgg38 Z Z Z Z (o_len_slice underlying38 Z Z (o_lss Z Z Z (q3 ?_)))))))
  refine W_cond Z ?_ ?_
  ·intro hc5
   try simp only [nrm] at hc5
   refine W_skip (N_K (W_seq (W_block (q2 (o_fieldAddr 1 runUnderlying40 Z sizeOf4 Z Z Z (o_load_B 0 H isAgg4 Z Z Z Z (mV Z ?_)))))))
   refine R_case (t := 13) Z ?_ ?_
   ·intro hc6
    try simp only [nrm] at hc6
    refine rP Z (rP Z (rP Z (rP Z (rP Z (rP Z (rP Z (o_pick_t Z Z Z (q3 (W_true Z (q2 (aG Z (q3 (W_ret (N_B_ret (N_K_ret ?_)))))))))))))))
    refine N_LP_ret (N_B_ret (N_K_ret (rt1 results89 Z ?_)))
    exact H.rets (congrArg Value.bool (by rw [Sp.l5Item, Sp.all_false (c := x.ids[k]) (List.getElem?_eq_getElem oM) (by simp [Sp.idOk, hc6])]; rfl))
   intro hc6'
   try simp only [nrm] at hc6'
   refine gR Z (o_fieldAddr 2 runUnderlying40 Z sizeOf38 Z Z Z (gR Z (o_load_B 0 H isAgg38 Z Z Z Z (gR Z (mV Z (gR Z (o_index_P k hr1 underlying38 sizeOf3 Z Z Z Z aN ?_))))))); intro b7 o7 z7 q7 hz7 hE7 hrow7
   obtain ⟨rfl, hi7⟩ := hE7
   refine gR Z (o_load_P H isAgg3 Z Z (hrow7 0 _ Z) (gR Z (o_call call78 Z Z (l6In_c _ _ _ _ ) ?_)))
   rintro _ w8 ⟨rfl, ew8⟩; have H := H.step ew8; refine ⟨_, rfl, ?_⟩
   refine gR Z (o_not Z Z (o_pick_f Z Z Z (q3 ?_)))
   refine W_cond Z ?_ ?_
   ·intro hc9
    try simp only [nrm] at hc9
    refine q2 (aG Z (q3 (W_ret (N_B_ret (N_K_ret (N_LP_ret (N_B_ret (N_K_ret (rt1 results89 Z ?_)))))))))
    exact H.rets (congrArg Value.bool (by rw [Sp.l5Item, Sp.all_false hz7 (by simp [Sp.idOk, *])]; rfl))
   intro hc9'
   try simp only [nrm] at hc9'
   refine W_skip (N_B (N_K (W_region (mV Z (o_add Z Z Z oO (aG Z (R_nil ?_)))))))
   refine N_lp (hJ := ⟨k + 1, _, Z, hle4, H, ?inv, Z⟩) (hm := ?hm)
   case hm => omega
   case inv => exact ⟨by omega, Sp.all_take hall hz7 (by simp [Sp.idOk, *])⟩
  intro hc5'
  try simp only [nrm] at hc5'
  refine W_exit (N_K_exit (N_LP_exit (N_B_same (N_K (q2 (o_fieldAddr 0 runUnderlying40 Z sizeOf9 Z Z Z (o_load_B 0 H isAgg9 Z Z Z Z (o_call call116 Z Z (PathValid_c _ _ H.sub _ hi1 ) ?_))))))))
  rintro _ w11 ⟨rfl, ew11⟩; have H := H.step ew11; refine ⟨_, rfl, ?_⟩
  refine mV Z ?_
  refine R_case (t := 25) Z ?_ ?_
  ·intro hc12
   try simp only [nrm] at hc12
   refine gR Z (o_fieldAddr 2 runUnderlying40 Z sizeOf38 Z Z Z (gR Z (o_load_B 0 H isAgg38 Z Z Z Z (gR Z (o_len_slice underlying38 Z Z (gR Z (o_leq Z Z Z (o_pick_t Z Z Z (aG Z (q3 (W_ret (rt1 results89 Z ?_))))))))))))
   obtain rfl : k = x.ids.length := by omega
   rw [List.take_length] at hall
   exact H.rets (congrArg Value.bool (by simp only [Sp.l5Item, hall, hc12, Bool.true_and]; rw [Bool.eq_iff_iff]; simp; omega))
  intro hc12'
  try simp only [nrm] at hc12'
  refine rP Z (rP Z (rP Z (rP Z (o_pick_f Z Z Z (aG Z (q3 (W_ret (rt1 results89 Z ?_))))))))
  exact H.rets (congrArg Value.bool (by simp [Sp.l5Item, hc12']))
theorem TreeValid_c (w0 : World) (G0 : PH) (hG : PSub G0 w0) (vlist : Value) (list : List (BItem)) (hlist : RdItems G0 vlist list)  :
  Calls Tryz.prog 54 #[vlist] w0 (Rets w0 (.bool (Sp.TreeValid list))) := by
 obtain ⟨alist, klist, rfl⟩ := hlist.shape
 have hlimlist : list.length ≤ 1099511627776 := hlist.lim
 have H := Hp.init hG
 refine calls_of_W (l := [.slice alist list.length klist]) func54 Z ntmps54 Z (q2 (aG Z (q3 (W_seq (q2 (aG Z (q3 (W_block ?_))))))))
 refine W_lp (hf := (Sub.cons (t := 0) Z Sub.nil)) (J := fun M w m => ∃ (k : Nat) (G : PH), M = [(3, .int .i64 (k : Int))] ∧ PLe G0 G ∧ Hp w0 G0 [] w G [] ∧ (k ≤ list.length ∧ ∀ j, j < k → Sp.okT list j = true) ∧ m = (list.length - k)) (h0 := ⟨0, _, Z, PLe.refl _, H, ?inv, Z⟩) (round := ?round)
 case inv => exact ⟨by omega, fun j hj => by omega⟩
 case round =>
  rintro _ w1 _ ⟨k, G1, rfl, hle1, H, hinv1, rfl⟩
  have hlist := hlist.up hle1
  obtain ⟨hk, hall⟩ := hinv1
  refine W_seq (q2 (mV Z (mV Z (o_len_slice underlying24 Z Z (o_lss Z Z Z (q3 ?_))))))
  refine W_cond Z ?_ ?_
  ·intro hc2
   try simp only [nrm] at hc2
   refine W_skip (N_K (W_seq (W_block (W_seq (W_drawK [] 34 H kR Z ?_))))); intro w3 H; have hd3 := PLe.refl G1
   refine vM 0 Z Z (vM 1 Z Z ?_)
   have hl4 := hlist.len
   obtain ⟨b4, o4, z4, q4, ha4, hz4, hq4, hE4, hrow4, _⟩ := hlist.at (i := k) oM
   clear hq4
   obtain ⟨a4, m4, c4, rfl, hi4, hr4⟩ := hE4; have hy_hi4 : _ ≤ 16777216 := hi4; have hn_hr4 := hr4.len; have hx_hr4 : _ ≤ 1099511627776 := hr4.lim
   refine RD_t 2 Z kR Z (fun _ hK => v_index_P (i := k) ha4 underlying24 sizeOf40 Z Z Z oM) (RD_t 3 Z kR Z (fun _ hK => v_loadagg_P hK isAgg40 sizeOf40 Z hrow4 Z) ?_)
   refine RD_run [4] kR Z (RDs.cons Z ?_ RDs.nil)
   refine o_call call89 Z Z (l5Item_c _ _ H.sub _ _ ⟨_, _, _, Z, hi4, hr4⟩ ) ?_
   rintro _ w5 ⟨rfl, ew5⟩; have H := H.step ew5; refine ⟨_, rfl, ?_⟩
   refine R_nil (N_DK (Kn.of' H hd3 SubL.nil) (RD_t 5 Z kR Z (fun _ hK => v_not Z) (vM 6 Z Z ?_)))
   refine RD_case (t := 16) Z ?_ ?_
   ·intro hc6
    try simp only [nrm] at hc6
    refine RD_pass 7 Z kR kR kR Z (yl_ne Z Z Z) (RD_pass 8 Z kR kR kR Z (yl_ne Z Z Z) (RD_pass 9 Z kR kR kR Z (yl_ne Z Z Z) (RD_pass 10 Z kR kR kR Z (yl_un Z Z) (RD_pass 11 Z kR kR kR Z (yl_un Z Z) (RD_pass 12 Z kR kR kR Z (yl_un Z Z) (RD_pass 13 Z kR kR kR Z (yl_un Z Z) (RD_pass 14 Z kR kR kR Z (yl_un Z Z) (RD_pass 15 Z kR kR kR Z (yl_un Z Z) (RD_pass 16 Z kR kR kR Z (yl_un Z Z) (RD_pass 17 Z kR kR kR Z (yl_un Z Z) (RD_pass 18 Z kR kR kR Z (yl_un Z Z) (RD_pass 19 Z kR kR kR Z (yl_un Z Z) (RD_pass 20 Z kR kR kR Z (yl_un Z Z) (RD_pass 21 Z kR kR kR Z (yl_un Z Z) (RD_pass 22 Z kR kR kR Z (yl_ne Z Z Z) ?_)))))))))))))))
    refine RD_t 23 Z kR Z (fun _ hK => v_pick_t Z Z) (vM 24 Z Z (RD_pass 25 Z kR kR kR Z (yl_ne Z Z Z) (RD_pass 26 Z kR kR kR Z (yl_ne Z Z Z) (RD_pass 27 Z kR kR kR Z (yl_ne Z Z Z) (RD_pass 28 Z kR kR kR Z (yl_ne Z Z Z) (RD_pass 29 Z kR kR kR Z (yl_ne Z Z Z) (RD_pass 30 Z kR kR kR Z (yl_ne Z Z Z) (RD_pass 31 Z kR kR kR Z (yl_ne Z Z Z) (RD_pass 32 Z kR kR kR Z (yl_ne Z Z Z) (RD_t 33 Z kR Z (fun _ hK => v_pick_t Z Z) (RD_done kR (N_K (W_true Z (q2 (aG Z ?_)))))))))))))))
    refine q3 (W_ret (N_B_ret (N_K_ret (N_LP_ret (N_B_ret (N_K_ret (rt1 results54 Z ?_)))))))
    exact H.rets (congrArg Value.bool (by rw [Sp.TreeValid, Sp.not_all_range (k := k) oM (by rw [Sp.okT_at hz4]; simp [Sp.prevLt, *])]; rfl))
   intro hc6'
   try simp only [nrm] at hc6'
   refine RD_tg 7 Z kR Z (yl Z Z) (fun _ hK => v_move Z) (RD_tg 8 Z kR Z (yl Z Z) (fun _ hK => v_gtr Z Z) (RD_tg 9 Z kR Z (yl Z Z) (fun _ hK => v_move Z) ?_))
   refine RD_case (t := 19) Z ?_ ?_
   ·intro hc7
    try simp only [nrm] at hc7
    have hk0 : k ≠ 0 := by omega
    refine RD_tg 10 Z kR Z (yl Z Z) (fun _ hK => v_move Z) (RD_tg 11 Z kR Z (yl Z Z) (fun _ hK => v_move Z) (RD_tg 12 Z kR Z (yl Z Z) (fun _ hK => v_sub Z Z oO) ?_))
    have hl9 := hlist.len
    obtain ⟨b9, o9, z9, q9, ha9, hz9, hq9, hE9, hrow9, _⟩ := hlist.at (i := (k - 1)) oM
    clear hq9
    obtain ⟨a9, m9, c9, rfl, hi9, hr9⟩ := hE9; have hy_hi9 : _ ≤ 16777216 := hi9; have hn_hr9 := hr9.len; have hx_hr9 : _ ≤ 1099511627776 := hr9.lim
    refine RD_tg 13 Z kR Z (yl Z Z) (fun _ hK => v_index_P (i := (k - 1)) ha9 underlying24 sizeOf40 Z Z oM oM) (RD_tg 14 Z kR Z (yl Z Z) (fun _ hK => v_fieldAddr 0 runUnderlying40 Z sizeOf9 Z Z) (RD_tg 15 Z kR Z (yl Z Z) (fun _ hK => v_load_P hK isAgg9 Z (hrow9 0 _ Z)) (RD_tg 16 Z kR Z (yl Z Z) (fun _ hK => v_move Z) (RD_tg 17 Z kR Z (yl Z Z) (fun _ hK => v_move Z) ?_))))
    have hl10 := hlist.len
    obtain ⟨b10, o10, z10, q10, ha10, hz10, hq10, hE10, hrow10, _⟩ := hlist.at (i := k) oM
    clear hq10
    obtain ⟨a10, m10, c10, rfl, hi10, hr10⟩ := hE10; have hy_hi10 : _ ≤ 16777216 := hi10; have hn_hr10 := hr10.len; have hx_hr10 : _ ≤ 1099511627776 := hr10.lim
    have hzz10 : z4 = z10 := Option.some.inj (hz4.symm.trans hz10)
    subst hzz10
    refine RD_tg 18 Z kR Z (yl Z Z) (fun _ hK => v_index_P (i := k) ha10 underlying24 sizeOf40 Z Z Z oM) (RD_tg 19 Z kR Z (yl Z Z) (fun _ hK => v_fieldAddr 0 runUnderlying40 Z sizeOf9 Z Z) (RD_tg 20 Z kR Z (yl Z Z) (fun _ hK => v_load_P hK isAgg9 Z (hrow10 0 _ Z)) (RD_tg 21 Z kR Z (yl Z Z) (fun _ hK => v_sgeq Z Z) (RD_tg 22 Z kR Z (yl Z Z) (fun _ hK => v_pick_t Z Z) (RD_t 23 Z kR Z (fun _ hK => v_pick_f Z Z) (vM 24 Z Z ?_))))))
    refine RD_case (t := 34) Z ?_ ?_
    ·intro hc11
     try simp only [nrm] at hc11
     refine RD_pass 25 Z kR kR kR Z (yl_ne Z Z Z) (RD_pass 26 Z kR kR kR Z (yl_ne Z Z Z) (RD_pass 27 Z kR kR kR Z (yl_ne Z Z Z) (RD_pass 28 Z kR kR kR Z (yl_ne Z Z Z) (RD_pass 29 Z kR kR kR Z (yl_ne Z Z Z) (RD_pass 30 Z kR kR kR Z (yl_ne Z Z Z) (RD_pass 31 Z kR kR kR Z (yl_ne Z Z Z) (RD_pass 32 Z kR kR kR Z (yl_ne Z Z Z) (RD_t 33 Z kR Z (fun _ hK => v_pick_t Z Z) (RD_done kR (N_K (W_true Z (q2 (aG Z (q3 (W_ret ?_)))))))))))))))
     refine N_B_ret (N_K_ret (N_LP_ret (N_B_ret (N_K_ret (rt1 results54 Z ?_)))))
     exact H.rets (congrArg Value.bool (by rw [Sp.TreeValid, Sp.not_all_range (k := k) oM (by rw [Sp.okT_at hz4]; simp [Sp.prevLt, *])]; rfl))
    intro hc11'
    try simp only [nrm] at hc11'
    refine RD_tg 25 Z kR Z (yl Z Z) (fun _ hK => v_move Z) (RD_tg 26 Z kR Z (yl Z Z) (fun _ hK => v_move Z) (RD_tg 27 Z kR Z (yl Z Z) (fun _ hK => v_move Z) ?_))
    have hl12 := hlist.len
    obtain ⟨b12, o12, z12, q12, ha12, hz12, hq12, hE12, hrow12, _⟩ := hlist.at (i := k) oM
    clear hq12
    obtain ⟨a12, m12, c12, rfl, hi12, hr12⟩ := hE12; have hy_hi12 : _ ≤ 16777216 := hi12; have hn_hr12 := hr12.len; have hx_hr12 : _ ≤ 1099511627776 := hr12.lim
    have hzz12 : z4 = z12 := Option.some.inj (hz4.symm.trans hz12)
    subst hzz12
    refine RD_tg 28 Z kR Z (yl Z Z) (fun _ hK => v_index_P (i := k) ha12 underlying24 sizeOf40 Z Z Z oM) (RD_tg 29 Z kR Z (yl Z Z) (fun _ hK => v_fieldAddr 0 runUnderlying40 Z sizeOf9 Z Z) (RD_tg 30 Z kR Z (yl Z Z) (fun _ hK => v_load_P hK isAgg9 Z (hrow12 0 _ Z)) ?_))
    refine RD_run [31] kR Z (RDs.cons Z ?_ RDs.nil)
    refine gR Z (o_call call90 Z Z (l5Home_c _ _ H.sub _ _ hlist _ hi12 ) ?_)
    rintro _ w13 ⟨rfl, ew13⟩; have H := H.step ew13; refine ⟨_, rfl, ?_⟩
    refine R_nil (N_DK (Kn.of' H hd3 SubL.nil) (RD_tg 32 Z kR Z (yl Z Z) (fun _ hK => v_not Z) (RD_t 33 Z kR Z (fun _ hK => v_pick_f Z Z) (RD_done kR (N_K ?_)))))
    refine W_cond Z ?_ ?_
    ·intro hc14
     try simp only [nrm] at hc14
     refine q2 (aG Z (q3 (W_ret (N_B_ret (N_K_ret (N_LP_ret (N_B_ret (N_K_ret (rt1 results54 Z ?_)))))))))
     exact H.rets (congrArg Value.bool (by rw [Sp.TreeValid, Sp.not_all_range (k := k) oM (by rw [Sp.okT_at hz4]; simp [Sp.prevLt, *])]; rfl))
    intro hc14'
    try simp only [nrm] at hc14'
    refine W_skip (N_B (N_K (W_region (mV Z (o_add Z Z Z oO (aG Z (R_nil ?_)))))))
    refine N_lp (hJ := ⟨k + 1, _, Z, hle1, H, ?inv, Z⟩) (hm := ?hm)
    case hm => omega
    case inv => exact ⟨by omega, Sp.upto_succ hall (by rw [Sp.okT_at hz4]; simp [Sp.prevLt, *])⟩
   intro hc7'
   try simp only [nrm] at hc7'
   have hk0 : k = 0 := by omega
   refine RD_pass 10 Z kR kR kR Z (yl_ne Z Z Z) (RD_pass 11 Z kR kR kR Z (yl_ne Z Z Z) (RD_pass 12 Z kR kR kR Z (yl_ne Z Z Z) (RD_pass 13 Z kR kR kR Z (yl_ne Z Z Z) (RD_pass 14 Z kR kR kR Z (yl_ne Z Z Z) (RD_pass 15 Z kR kR kR Z (yl_ne Z Z Z) (RD_pass 16 Z kR kR kR Z (yl_ne Z Z Z) (RD_pass 17 Z kR kR kR Z (yl_ne Z Z Z) (RD_pass 18 Z kR kR kR Z (yl_ne Z Z Z) (RD_pass 19 Z kR kR kR Z (yl_ne Z Z Z) (RD_pass 20 Z kR kR kR Z (yl_ne Z Z Z) (RD_pass 21 Z kR kR kR Z (yl_ne Z Z Z) (RD_tg 22 Z kR Z (yl Z Z) (fun _ hK => v_pick_f Z Z) (RD_t 23 Z kR Z (fun _ hK => v_pick_f Z Z) (vM 24 Z Z (RD_tg 25 Z kR Z (yl Z Z) (fun _ hK => v_move Z) ?_)))))))))))))))
   refine RD_tg 26 Z kR Z (yl Z Z) (fun _ hK => v_move Z) (RD_tg 27 Z kR Z (yl Z Z) (fun _ hK => v_move Z) ?_)
   have hl16 := hlist.len
   obtain ⟨b16, o16, z16, q16, ha16, hz16, hq16, hE16, hrow16, _⟩ := hlist.at (i := k) oM
   clear hq16
   obtain ⟨a16, m16, c16, rfl, hi16, hr16⟩ := hE16; have hy_hi16 : _ ≤ 16777216 := hi16; have hn_hr16 := hr16.len; have hx_hr16 : _ ≤ 1099511627776 := hr16.lim
   have hzz16 : z4 = z16 := Option.some.inj (hz4.symm.trans hz16)
   subst hzz16
   refine RD_tg 28 Z kR Z (yl Z Z) (fun _ hK => v_index_P (i := k) ha16 underlying24 sizeOf40 Z Z Z oM) (RD_tg 29 Z kR Z (yl Z Z) (fun _ hK => v_fieldAddr 0 runUnderlying40 Z sizeOf9 Z Z) (RD_tg 30 Z kR Z (yl Z Z) (fun _ hK => v_load_P hK isAgg9 Z (hrow16 0 _ Z)) ?_))
   refine RD_run [31] kR Z (RDs.cons Z ?_ RDs.nil)
   refine gR Z (o_call call90 Z Z (l5Home_c _ _ H.sub _ _ hlist _ hi16 ) ?_)
   rintro _ w17 ⟨rfl, ew17⟩; have H := H.step ew17; refine ⟨_, rfl, ?_⟩
   refine R_nil (N_DK (Kn.of' H hd3 SubL.nil) (RD_tg 32 Z kR Z (yl Z Z) (fun _ hK => v_not Z) (RD_t 33 Z kR Z (fun _ hK => v_pick_f Z Z) (RD_done kR (N_K ?_)))))
   refine W_cond Z ?_ ?_
   ·intro hc18
    try simp only [nrm] at hc18
    refine q2 (aG Z (q3 (W_ret (N_B_ret (N_K_ret (N_LP_ret (N_B_ret (N_K_ret (rt1 results54 Z ?_)))))))))
    exact H.rets (congrArg Value.bool (by rw [Sp.TreeValid, Sp.not_all_range (k := k) oM (by rw [Sp.okT_at hz4]; simp [Sp.prevLt, *])]; rfl))
   intro hc18'
   try simp only [nrm] at hc18'
   refine W_skip (N_B (N_K (W_region (mV Z (o_add Z Z Z oO (aG Z (R_nil ?_)))))))
   refine N_lp (hJ := ⟨k + 1, _, Z, hle1, H, ?inv, Z⟩) (hm := ?hm)
   case hm => omega
   case inv => exact ⟨by omega, Sp.upto_succ hall (by rw [Sp.okT_at hz4]; simp [Sp.prevLt, *])⟩
  intro hc2'
  try simp only [nrm] at hc2'
  refine W_exit (N_K_exit (N_LP_exit (N_B_same (N_K (q2 (mV Z (o_len_slice underlying24 Z Z (o_leq Z Z Z (aG Z (q3 (W_ret (rt1 results54 Z ?_))))))))))))
  exact H.rets (congrArg Value.bool (by rw [Sp.TreeValid, Sp.all_range (fun j hj => hall j oM), Bool.true_and]; rw [Bool.eq_iff_iff]; simp; omega))
theorem l2Same_c (w0 : World) (G0 : PH) (hG : PSub G0 w0) (va : Value) (a : List (Int)) (ha : RdI G0 va a) (vb : Value) (b : List (Int)) (hb : RdI G0 vb b)  :
  Calls Tryz.prog 88 #[va, vb] w0 (Rets w0 (.bool (Sp.l2Same a b))) := by
 obtain ⟨aa, ka, rfl⟩ := ha.shape
 have hlima : a.length ≤ 1099511627776 := ha.lim
 obtain ⟨ab, kb, rfl⟩ := hb.shape
 have hlimb : b.length ≤ 1099511627776 := hb.lim
 have H := Hp.init hG
 refine calls_of_W (l := [.slice aa a.length ka, .slice ab b.length kb]) func88 Z ntmps88 Z (q2 (aG Z (q3 (W_seq (q2 (mV Z (o_len_slice underlying38 Z Z (mV Z (o_len_slice underlying38 Z Z (o_neq Z Z Z (q3 ?_)))))))))))
 refine W_cond Z ?_ ?_
 ·intro hc1
  try simp only [nrm] at hc1
  refine q2 (aG Z (q3 (W_ret (N_K_ret (rt1 results88 Z ?_)))))
  exact H.rets (congrArg Value.bool (by unfold Sp.l2Same; exact Sp.ne_len oM))
 intro hc1'
 try simp only [nrm] at hc1'
 refine W_skip (N_K (W_seq (q2 (aG Z (q3 (W_block ?_))))))
 refine W_lp (hf := (Sub.cons (t := 0) Z (Sub.cons (t := 1) Z Sub.nil))) (J := fun M w m => ∃ (k : Nat) (G : PH), M = [(5, .int .i64 (k : Int))] ∧ PLe G0 G ∧ Hp w0 G0 [] w G [] ∧ (k ≤ a.length ∧ a.take k = b.take k) ∧ m = (a.length - k)) (h0 := ⟨0, _, Z, PLe.refl _, H, ?inv, Z⟩) (round := ?round)
 case inv => exact ⟨by omega, by simp⟩
 case round =>
  rintro _ w2 _ ⟨k, G2, rfl, hle2, H, hinv2, rfl⟩
  have ha := ha.up hle2
  have hb := hb.up hle2
  obtain ⟨hk, hall⟩ := hinv2
  refine W_seq (q2 (mV Z (mV Z (o_len_slice underlying38 Z Z (o_lss Z Z Z (q3 ?_))))))
  refine W_cond Z ?_ ?_
  ·intro hc3
   try simp only [nrm] at hc3
   refine W_skip (N_K (W_seq (W_block (W_seq (W_drawK [] 9 H kR Z ?_))))); intro w4 H; have hd4 := PLe.refl G2
   refine vM 0 Z Z (vM 1 Z Z ?_)
   have hl5 := ha.len
   obtain ⟨b5, o5, z5, q5, ha5, hz5, hq5, hE5, hrow5, _⟩ := ha.at (i := k) oM
   clear hq5
   obtain ⟨rfl, hi5⟩ := hE5
   refine RD_t 2 Z kR Z (fun _ hK => v_index_P (i := k) ha5 underlying38 sizeOf3 Z Z Z oM) (RD_t 3 Z kR Z (fun _ hK => v_load_P hK isAgg3 Z (hrow5 0 _ Z)) (vM 4 Z Z (vM 5 Z Z ?_)))
   have hl6 := hb.len
   obtain ⟨b6, o6, z6, q6, ha6, hz6, hq6, hE6, hrow6, _⟩ := hb.at (i := k) oM
   clear hq6
   obtain ⟨rfl, hi6⟩ := hE6
   refine RD_t 6 Z kR Z (fun _ hK => v_index_P (i := k) ha6 underlying38 sizeOf3 Z Z Z oM) (RD_t 7 Z kR Z (fun _ hK => v_load_P hK isAgg3 Z (hrow6 0 _ Z)) (RD_t 8 Z kR Z (fun _ hK => v_neq Z Z) (RD_done kR (N_K ?_))))
   refine W_cond Z ?_ ?_
   ·intro hc7
    try simp only [nrm] at hc7
    refine q2 (aG Z (q3 (W_ret (N_B_ret (N_K_ret (N_LP_ret (N_B_ret (N_K_ret (rt1 results88 Z ?_)))))))))
    exact H.rets (congrArg Value.bool (by unfold Sp.l2Same; exact Sp.ne_at hz5 hz6 oM))
   intro hc7'
   try simp only [nrm] at hc7'
   refine W_skip (N_B (N_K (W_region (mV Z (o_add Z Z Z oO (aG Z (R_nil ?_)))))))
   refine N_lp (hJ := ⟨k + 1, _, Z, hle2, H, ?inv, Z⟩) (hm := ?hm)
   case hm => omega
   case inv => exact ⟨by omega, Sp.take_eq hall hz5 (by rw [hz6]; congr 1; omega)⟩
  intro hc3'
  try simp only [nrm] at hc3'
  refine W_exit (N_K_exit (N_LP_exit (N_B_same (N_K (q2 (aG Z (q3 (W_ret (rt1 results88 Z ?_)))))))))
  exact H.rets (congrArg Value.bool (by unfold Sp.l2Same; exact Sp.eq_all hall oM oM))
theorem BlockValid_c (w0 : World) (G0 : PH) (hG : PSub G0 w0) (vbytes : Value) (bytes : List (Int)) (hbytes : RdI G0 vbytes bytes)  :
  Calls Tryz.prog 87 #[vbytes] w0 (Rets w0 (.bool (Sp.BlockValid bytes))) := by
 obtain ⟨abytes, kbytes, rfl⟩ := hbytes.shape
 have hlimbytes : bytes.length ≤ 1099511627776 := hbytes.lim
 have H := Hp.init hG
 refine calls_of_W (l := [.slice abytes bytes.length kbytes]) func87 Z ntmps87 Z (q2 (aG Z (q3 (W_seq (q2 (aG Z (q3 (W_block ?_))))))))
 refine W_lp (hf := (Sub.cons (t := 0) Z Sub.nil)) (J := fun M w m => ∃ (k : Nat) (G : PH), M = [(3, .int .i64 (k : Int))] ∧ PLe G0 G ∧ Hp w0 G0 [] w G [] ∧ (k ≤ bytes.length ∧ (bytes.take k).all Sp.byteOk = true) ∧ m = (bytes.length - k)) (h0 := ⟨0, _, Z, PLe.refl _, H, ?inv, Z⟩) (round := ?round)
 case inv => exact ⟨by omega, by simp⟩
 case round =>
  rintro _ w1 _ ⟨k, G1, rfl, hle1, H, hinv1, rfl⟩
  have hbytes := hbytes.up hle1
  obtain ⟨hk, hall⟩ := hinv1
  refine W_seq (q2 (mV Z (mV Z (o_len_slice underlying38 Z Z (o_lss Z Z Z (q3 ?_))))))
  refine W_cond Z ?_ ?_
  ·intro hc2
   try simp only [nrm] at hc2
   refine W_skip (N_K (W_seq (W_block (q2 (mV Z (mV Z (o_index_P k hbytes underlying38 sizeOf3 Z Z Z Z aN ?_))))))); intro b3 o3 z3 q3 hz3 hE3 hrow3
   obtain ⟨rfl, hi3⟩ := hE3
   refine o_load_P H isAgg3 Z Z (hrow3 0 _ Z) (o_call call78 Z Z (l6In_c _ _ _ _ ) ?_)
   rintro _ w4 ⟨rfl, ew4⟩; have H := H.step ew4; refine ⟨_, rfl, ?_⟩
   refine o_not Z Z (q3 ?_)
   refine W_cond Z ?_ ?_
   ·intro hc5
    try simp only [nrm] at hc5
    refine q2 (aG Z (q3 (W_ret (N_B_ret (N_K_ret (N_LP_ret (N_B_ret (N_K_ret (rt1 results87 Z ?_)))))))))
    exact H.rets (congrArg Value.bool (by rw [Sp.BlockValid, Sp.all_false hz3 (by simp [Sp.byteOk, *])]; rfl))
   intro hc5'
   try simp only [nrm] at hc5'
   refine W_skip (N_B (N_K (W_region (mV Z (o_add Z Z Z oO (aG Z (R_nil ?_)))))))
   refine N_lp (hJ := ⟨k + 1, _, Z, hle1, H, ?inv, Z⟩) (hm := ?hm)
   case hm => omega
   case inv => exact ⟨by omega, Sp.all_take hall hz3 (by simp [Sp.byteOk, *])⟩
  intro hc2'
  try simp only [nrm] at hc2'
  refine W_exit (N_K_exit (N_LP_exit (N_B_same (N_K (q2 (mV Z (o_len_slice underlying38 Z Z (o_call call78 Z Z (l6In_c _ _ _ _ ) ?_))))))))
  rintro _ w7 ⟨rfl, ew7⟩; have H := H.step ew7; refine ⟨_, rfl, ?_⟩
  refine aG Z (q3 (W_ret (rt1 results87 Z ?_)))
  obtain rfl : k = bytes.length := by omega
  rw [List.take_length] at hall
  exact H.rets (congrArg Value.bool (by simp only [Sp.BlockValid, hall, Bool.true_and]))
theorem FileValid_c (w0 : World) (G0 : PH) (hG : PSub G0 w0) (vbytes : Value) (bytes : List (Int)) (hbytes : RdI G0 vbytes bytes)  :
  Calls Tryz.prog 130 #[vbytes] w0 (Rets w0 (.bool (Sp.FileValid bytes))) := by
 obtain ⟨abytes, kbytes, rfl⟩ := hbytes.shape
 have hlimbytes : bytes.length ≤ 1099511627776 := hbytes.lim
 have H := Hp.init hG
 refine calls_of_W (l := [.slice abytes bytes.length kbytes]) func130 Z ntmps130 Z (q2 (aG Z (q3 (W_seq (q2 (aG Z (q3 (W_block ?_))))))))
 refine W_lp (hf := (Sub.cons (t := 0) Z Sub.nil)) (J := fun M w m => ∃ (k : Nat) (G : PH), M = [(3, .int .i64 (k : Int))] ∧ PLe G0 G ∧ Hp w0 G0 [] w G [] ∧ (k ≤ bytes.length ∧ (bytes.take k).all Sp.byteOk = true) ∧ m = (bytes.length - k)) (h0 := ⟨0, _, Z, PLe.refl _, H, ?inv, Z⟩) (round := ?round)
 case inv => exact ⟨by omega, by simp⟩
 case round =>
  rintro _ w1 _ ⟨k, G1, rfl, hle1, H, hinv1, rfl⟩
  have hbytes := hbytes.up hle1
  obtain ⟨hk, hall⟩ := hinv1
  refine W_seq (q2 (mV Z (mV Z (o_len_slice underlying38 Z Z (o_lss Z Z Z (q3 ?_))))))
  refine W_cond Z ?_ ?_
  ·intro hc2
   try simp only [nrm] at hc2
   refine W_skip (N_K (W_seq (W_block (q2 (mV Z (mV Z (o_index_P k hbytes underlying38 sizeOf3 Z Z Z Z aN ?_))))))); intro b3 o3 z3 q3 hz3 hE3 hrow3
   obtain ⟨rfl, hi3⟩ := hE3
   refine o_load_P H isAgg3 Z Z (hrow3 0 _ Z) (o_call call78 Z Z (l6In_c _ _ _ _ ) ?_)
   rintro _ w4 ⟨rfl, ew4⟩; have H := H.step ew4; refine ⟨_, rfl, ?_⟩
   refine o_not Z Z (q3 ?_)
   refine W_cond Z ?_ ?_
   ·intro hc5
    try simp only [nrm] at hc5
    refine q2 (aG Z (q3 (W_ret (N_B_ret (N_K_ret (N_LP_ret (N_B_ret (N_K_ret (rt1 results130 Z ?_)))))))))
    exact H.rets (congrArg Value.bool (by rw [Sp.FileValid, Sp.all_false hz3 (by simp [Sp.byteOk, *])]; rfl))
   intro hc5'
   try simp only [nrm] at hc5'
   refine W_skip (N_B (N_K (W_region (mV Z (o_add Z Z Z oO (aG Z (R_nil ?_)))))))
   refine N_lp (hJ := ⟨k + 1, _, Z, hle1, H, ?inv, Z⟩) (hm := ?hm)
   case hm => omega
   case inv => exact ⟨by omega, Sp.all_take hall hz3 (by simp [Sp.byteOk, *])⟩
  intro hc2'
  try simp only [nrm] at hc2'
  refine W_exit (N_K_exit (N_LP_exit (N_B_same (N_K (q2 (mV Z (o_len_slice underlying38 Z Z (o_leq Z Z Z (aG Z (q3 (W_ret (rt1 results130 Z ?_))))))))))))
  obtain rfl : k = bytes.length := by omega
  rw [List.take_length] at hall
  exact H.rets (congrArg Value.bool (by simp only [Sp.FileValid, hall, Bool.true_and]; rw [Bool.eq_iff_iff]; simp; omega))
theorem StoreValid_c (w0 : World) (G0 : PH) (hG : PSub G0 w0) (vlist : Value) (list : List (BHeld)) (hlist : RdH G0 vlist list)  :
  Calls Tryz.prog 53 #[vlist] w0 (Rets w0 (.bool (Sp.StoreValid list))) := by
 obtain ⟨alist, klist, rfl⟩ := hlist.shape
 have hlimlist : list.length ≤ 1099511627776 := hlist.lim
 have H := Hp.init hG
 refine calls_of_W (l := [.slice alist list.length klist]) func53 Z ntmps53 Z (q2 (aG Z (q3 (W_seq (q2 (aG Z (q3 (W_block ?_))))))))
 refine W_lp (hf := (Sub.cons (t := 0) Z Sub.nil)) (J := fun M w m => ∃ (k : Nat) (G : PH), M = [(3, .int .i64 (k : Int))] ∧ PLe G0 G ∧ Hp w0 G0 [] w G [] ∧ (k ≤ list.length ∧ ∀ j, j < k → Sp.okH list j = true) ∧ m = (list.length - k)) (h0 := ⟨0, _, Z, PLe.refl _, H, ?inv, Z⟩) (round := ?round)
 case inv => exact ⟨by omega, fun j hj => by omega⟩
 case round =>
  rintro _ w1 _ ⟨k, G1, rfl, hle1, H, hinv1, rfl⟩
  have hlist := hlist.up hle1
  obtain ⟨hk, hall⟩ := hinv1
  refine W_seq (q2 (mV Z (mV Z (o_len_slice underlying23 Z Z (o_lss Z Z Z (q3 ?_))))))
  refine W_cond Z ?_ ?_
  ·intro hc2
   try simp only [nrm] at hc2
   refine W_skip (N_K (W_seq (W_block (q2 (mV Z (mV Z (o_index_P k hlist underlying23 sizeOf42 Z Z Z Z aN ?_))))))); intro b3 o3 z3 q3 hz3 hE3 hrow3
   obtain ⟨a3, m3, c3, rfl, hi3, hr3, hj3⟩ := hE3; have hn_hr3 := hr3.len; have hx_hr3 : _ ≤ 1099511627776 := hr3.lim
   refine o_loadagg_P H isAgg42 sizeOf42 Z Z hrow3 Z (o_alloc H zeroValue42 Z Z ?_); intro b4 w4 hb4 H
   refine o_store_B 0 H sizeOf42 Z Z Z Z Z Z Z Z ?_; intro w5 H
   refine q3 (W_seq (W_seq (W_drawK [0] 31 H kR Z ?_))); intro w6 H; have hd6 := PLe.refl G1
   refine RD_t 0 Z kR Z (fun _ hK => v_fieldAddr 0 runUnderlying42 Z sizeOf3 Z Z) (RD_t 1 Z kR Z (fun _ hK => v_load_B 0 hK isAgg3 Z Z Z) ?_)
   refine RD_run [2] kR Z (RDs.cons Z ?_ RDs.nil)
   refine o_call call78 Z Z (l6In_c _ _ _ _ ) ?_
   rintro _ w7 ⟨rfl, ew7⟩; have H := H.step ew7; refine ⟨_, rfl, ?_⟩
   refine R_nil (N_DK (Kn.of' H hd6 (SubL.cons 0 Z SubL.nil)) (RD_t 3 Z kR Z (fun _ hK => v_not Z) (vM 4 Z Z ?_)))
   refine RD_case (t := 20) Z ?_ ?_
   ·intro hc8
    try simp only [nrm] at hc8
    refine RD_pass 5 Z kR kR kR Z (yl_ne Z Z Z) (RD_pass 6 Z kR kR kR Z (yl_ne Z Z Z) (RD_pass 7 Z kR kR kR Z (yl_ne Z Z Z) (RD_pass 8 Z kR kR kR Z (yl_ne Z Z Z) (RD_t 9 Z kR Z (fun _ hK => v_pick_t Z Z) (vM 10 Z Z (RD_pass 11 Z kR kR kR Z (yl_ne Z Z Z) (RD_pass 12 Z kR kR kR Z (yl_ne Z Z Z) (RD_pass 13 Z kR kR kR Z (yl_ne Z Z Z) (RD_pass 14 Z kR kR kR Z (yl_ne Z Z Z) (RD_t 15 Z kR Z (fun _ hK => v_pick_t Z Z) (vM 16 Z Z (RD_pass 17 Z kR kR kR Z (yl_ne Z Z Z) (RD_pass 18 Z kR kR kR Z (yl_ne Z Z Z) (RD_pass 19 Z kR kR kR Z (yl_ne Z Z Z) (RD_pass 20 Z kR kR kR Z (yl_un Z Z) ?_)))))))))))))))
    refine RD_pass 21 Z kR kR kR Z (yl_un Z Z) (RD_pass 22 Z kR kR kR Z (yl_un Z Z) (RD_pass 23 Z kR kR kR Z (yl_un Z Z) (RD_pass 24 Z kR kR kR Z (yl_un Z Z) (RD_pass 25 Z kR kR kR Z (yl_un Z Z) (RD_pass 26 Z kR kR kR Z (yl_un Z Z) (RD_pass 27 Z kR kR kR Z (yl_un Z Z) (RD_pass 28 Z kR kR kR Z (yl_un Z Z) (RD_pass 29 Z kR kR kR Z (yl_ne Z Z Z) (RD_t 30 Z kR Z (fun _ hK => v_pick_t Z Z) (RD_done kR (N_K (W_true Z (q2 (aG Z (q3 ?_)))))))))))))))
    refine W_ret (N_K_ret (N_B_ret (N_K_ret (N_LP_ret (N_B_ret (N_K_ret (rt1 results53 Z ?_)))))))
    exact H.rets (congrArg Value.bool (by rw [Sp.StoreValid, Sp.not_all_range (k := k) oM (by rw [Sp.okH_at hz3]; simp [Sp.prevId, *])]; rfl))
   intro hc8'
   try simp only [nrm] at hc8'
   refine RD_tg 5 Z kR Z (yl Z Z) (fun _ hK => v_fieldAddr 1 runUnderlying42 Z sizeOf38 Z Z) (RD_tg 6 Z kR Z (yl Z Z) (fun _ hK => v_load_B 0 hK isAgg38 Z Z Z) ?_)
   refine RD_run [7] kR Z (RDs.cons Z ?_ RDs.nil)
   refine gR Z (o_call call87 Z Z (BlockValid_c _ _ H.sub _ _ hr3 ) ?_)
   rintro _ w9 ⟨rfl, ew9⟩; have H := H.step ew9; refine ⟨_, rfl, ?_⟩
   refine R_nil (N_DK (Kn.of' H hd6 (SubL.cons 0 Z SubL.nil)) (RD_tg 8 Z kR Z (yl Z Z) (fun _ hK => v_not Z) (RD_t 9 Z kR Z (fun _ hK => v_pick_f Z Z) (vM 10 Z Z ?_))))
   refine RD_case (t := 26) Z ?_ ?_
   ·intro hc10
    try simp only [nrm] at hc10
    refine RD_pass 11 Z kR kR kR Z (yl_ne Z Z Z) (RD_pass 12 Z kR kR kR Z (yl_ne Z Z Z) (RD_pass 13 Z kR kR kR Z (yl_ne Z Z Z) (RD_pass 14 Z kR kR kR Z (yl_ne Z Z Z) (RD_t 15 Z kR Z (fun _ hK => v_pick_t Z Z) (vM 16 Z Z (RD_pass 17 Z kR kR kR Z (yl_ne Z Z Z) (RD_pass 18 Z kR kR kR Z (yl_ne Z Z Z) (RD_pass 19 Z kR kR kR Z (yl_ne Z Z Z) (RD_pass 20 Z kR kR kR Z (yl_un Z Z) (RD_pass 21 Z kR kR kR Z (yl_un Z Z) (RD_pass 22 Z kR kR kR Z (yl_un Z Z) (RD_pass 23 Z kR kR kR Z (yl_un Z Z) (RD_pass 24 Z kR kR kR Z (yl_un Z Z) (RD_pass 25 Z kR kR kR Z (yl_un Z Z) (RD_pass 26 Z kR kR kR Z (yl_un Z Z) ?_)))))))))))))))
    refine RD_pass 27 Z kR kR kR Z (yl_un Z Z) (RD_pass 28 Z kR kR kR Z (yl_un Z Z) (RD_pass 29 Z kR kR kR Z (yl_ne Z Z Z) (RD_t 30 Z kR Z (fun _ hK => v_pick_t Z Z) (RD_done kR (N_K (W_true Z (q2 (aG Z (q3 (W_ret (N_K_ret (N_B_ret (N_K_ret (N_LP_ret (N_B_ret ?_)))))))))))))))
    refine N_K_ret (rt1 results53 Z ?_)
    exact H.rets (congrArg Value.bool (by rw [Sp.StoreValid, Sp.not_all_range (k := k) oM (by rw [Sp.okH_at hz3]; simp [Sp.prevId, *])]; rfl))
   intro hc10'
   try simp only [nrm] at hc10'
   refine RD_tg 11 Z kR Z (yl Z Z) (fun _ hK => v_fieldAddr 2 runUnderlying42 Z sizeOf3 Z Z) (RD_tg 12 Z kR Z (yl Z Z) (fun _ hK => v_load_B 0 hK isAgg3 Z Z Z) ?_)
   refine RD_run [13] kR Z (RDs.cons Z ?_ RDs.nil)
   refine gR Z (o_call call78 Z Z (l6In_c _ _ _ _ ) ?_)
   rintro _ w11 ⟨rfl, ew11⟩; have H := H.step ew11; refine ⟨_, rfl, ?_⟩
   refine R_nil (N_DK (Kn.of' H hd6 (SubL.cons 0 Z SubL.nil)) (RD_tg 14 Z kR Z (yl Z Z) (fun _ hK => v_not Z) (RD_t 15 Z kR Z (fun _ hK => v_pick_f Z Z) (vM 16 Z Z ?_))))
   refine RD_case (t := 32) Z ?_ ?_
   ·intro hc12
    try simp only [nrm] at hc12
    refine RD_pass 17 Z kR kR kR Z (yl_ne Z Z Z) (RD_pass 18 Z kR kR kR Z (yl_ne Z Z Z) (RD_pass 19 Z kR kR kR Z (yl_ne Z Z Z) (RD_pass 20 Z kR kR kR Z (yl_un Z Z) (RD_pass 21 Z kR kR kR Z (yl_un Z Z) (RD_pass 22 Z kR kR kR Z (yl_un Z Z) (RD_pass 23 Z kR kR kR Z (yl_un Z Z) (RD_pass 24 Z kR kR kR Z (yl_un Z Z) (RD_pass 25 Z kR kR kR Z (yl_un Z Z) (RD_pass 26 Z kR kR kR Z (yl_un Z Z) (RD_pass 27 Z kR kR kR Z (yl_un Z Z) (RD_pass 28 Z kR kR kR Z (yl_un Z Z) (RD_pass 29 Z kR kR kR Z (yl_ne Z Z Z) (RD_t 30 Z kR Z (fun _ hK => v_pick_t Z Z) (RD_done kR (N_K ?_)))))))))))))))
    refine W_true Z (q2 (aG Z (q3 (W_ret (N_K_ret (N_B_ret (N_K_ret (N_LP_ret (N_B_ret (N_K_ret (rt1 results53 Z ?_)))))))))))
    exact H.rets (congrArg Value.bool (by rw [Sp.StoreValid, Sp.not_all_range (k := k) oM (by rw [Sp.okH_at hz3]; simp [Sp.prevId, *])]; rfl))
   intro hc12'
   try simp only [nrm] at hc12'
   refine RD_tg 17 Z kR Z (yl Z Z) (fun _ hK => v_move Z) (RD_tg 18 Z kR Z (yl Z Z) (fun _ hK => v_gtr Z Z) (RD_tg 19 Z kR Z (yl Z Z) (fun _ hK => v_move Z) ?_))
   refine RD_case (t := 35) Z ?_ ?_
   ·intro hc13
    try simp only [nrm] at hc13
    have hk0 : k ≠ 0 := by omega
    refine RD_tg 20 Z kR Z (yl Z Z) (fun _ hK => v_move Z) (RD_tg 21 Z kR Z (yl Z Z) (fun _ hK => v_move Z) (RD_tg 22 Z kR Z (yl Z Z) (fun _ hK => v_sub Z Z oO) ?_))
    have hl15 := hlist.len
    obtain ⟨b15, o15, z15, q15, ha15, hz15, hq15, hE15, hrow15, _⟩ := hlist.at (i := (k - 1)) oM
    clear hq15
    obtain ⟨a15, m15, c15, rfl, hi15, hr15, hj15⟩ := hE15; have hn_hr15 := hr15.len; have hx_hr15 : _ ≤ 1099511627776 := hr15.lim
    refine RD_tg 23 Z kR Z (yl Z Z) (fun _ hK => v_index_P (i := (k - 1)) ha15 underlying23 sizeOf42 Z Z oM oM) (RD_tg 24 Z kR Z (yl Z Z) (fun _ hK => v_fieldAddr 0 runUnderlying42 Z sizeOf3 Z Z) (RD_tg 25 Z kR Z (yl Z Z) (fun _ hK => v_load_P hK isAgg3 Z (hrow15 0 _ Z)) (RD_tg 26 Z kR Z (yl Z Z) (fun _ hK => v_fieldAddr 0 runUnderlying42 Z sizeOf3 Z Z) (RD_tg 27 Z kR Z (yl Z Z) (fun _ hK => v_load_B 0 hK isAgg3 Z Z Z) (RD_tg 28 Z kR Z (yl Z Z) (fun _ hK => v_geq Z Z) (RD_tg 29 Z kR Z (yl Z Z) (fun _ hK => v_pick_t Z Z) (RD_t 30 Z kR Z (fun _ hK => v_pick_f Z Z) (RD_done kR (N_K ?_)))))))))
    refine W_cond Z ?_ ?_
    ·intro hc16
     try simp only [nrm] at hc16
     refine q2 (aG Z (q3 (W_ret (N_K_ret (N_B_ret (N_K_ret (N_LP_ret (N_B_ret (N_K_ret (rt1 results53 Z ?_))))))))))
     exact H.rets (congrArg Value.bool (by rw [Sp.StoreValid, Sp.not_all_range (k := k) oM (by rw [Sp.okH_at hz3]; simp [Sp.prevId, *]; intro h; omega)]; rfl))
    intro hc16'
    try simp only [nrm] at hc16'
    refine W_skip (N_K (q2 (aG Z (q3 (W_block ?_)))))
    obtain ⟨ln17, hln17, H⟩ := H.name (k := 0) rfl
    refine W_lp (hf := (Sub.cons (t := 0) Z (Sub.cons (t := 3) Z (Sub.cons (t := 4) Z Sub.nil)))) (J := fun M w m => ∃ (i : Nat) (G : PH), M = [(5, .int .i64 (i : Int))] ∧ PLe G1 G ∧ Hp w0 G0 [] w G [blk b4 (cl ln17 42)] ∧ (i ≤ k ∧ (list.take i).all (fun g => !Sp.l2Same g.bytes z3.bytes) = true) ∧ m = (k - i)) (h0 := ⟨0, _, Z, PLe.refl _, H, ?inv, Z⟩) (round := ?round)
    case inv => exact ⟨by omega, by simp⟩
    case round =>
     rintro _ w18 _ ⟨i, G18, rfl, hle18, H, hinv18, rfl⟩
     subst hln17
     have hlist := hlist.up hle18
     have hr3 := hr3.up hle18
     have hle1 := hle1.trans hle18
     obtain ⟨hi, hall2⟩ := hinv18
     refine W_seq (q2 (mV Z (mV Z (o_lss Z Z Z (q3 ?_)))))
     refine W_cond Z ?_ ?_
     ·intro hc19
      try simp only [nrm] at hc19
      refine W_skip (N_K (W_seq (W_block (W_seq (W_drawK [0] 8 H kR Z ?_))))); intro w20 H; have hd20 := PLe.refl G18
      refine vM 0 Z Z (vM 1 Z Z ?_)
      have hl21 := hlist.len
      obtain ⟨b21, o21, z21, q21, ha21, hz21, hq21, hE21, hrow21, _⟩ := hlist.at (i := i) oM
      clear hq21
      obtain ⟨a21, m21, c21, rfl, hi21, hr21, hj21⟩ := hE21; have hn_hr21 := hr21.len; have hx_hr21 : _ ≤ 1099511627776 := hr21.lim
      refine RD_t 2 Z kR Z (fun _ hK => v_index_P (i := i) ha21 underlying23 sizeOf42 Z Z Z oM) (RD_t 3 Z kR Z (fun _ hK => v_fieldAddr 1 runUnderlying42 Z sizeOf38 Z Z) (RD_t 4 Z kR Z (fun _ hK => v_load_P hK isAgg38 Z (hrow21 1 _ Z)) (RD_t 5 Z kR Z (fun _ hK => v_fieldAddr 1 runUnderlying42 Z sizeOf38 Z Z) (RD_t 6 Z kR Z (fun _ hK => v_load_B 0 hK isAgg38 Z Z Z) ?_))))
      refine RD_run [7] kR Z (RDs.cons Z ?_ RDs.nil)
      refine o_call call88 Z Z (l2Same_c _ _ H.sub _ _ hr21 _ _ hr3 ) ?_
      rintro _ w22 ⟨rfl, ew22⟩; have H := H.step ew22; refine ⟨_, rfl, ?_⟩
      refine R_nil (N_DK (Kn.of' H hd20 (SubL.cons 0 Z SubL.nil)) (RD_done kR (N_K ?_)))
      refine W_cond Z ?_ ?_
      ·intro hc23
       try simp only [nrm] at hc23
       refine q2 (aG Z (q3 (W_ret (N_B_ret (N_K_ret (N_LP_ret (N_B_ret (N_B_ret (N_K_ret (N_LP_ret (N_B_ret (N_K_ret (rt1 results53 Z ?_)))))))))))))
       exact H.rets (congrArg Value.bool (by rw [Sp.StoreValid, Sp.not_all_range (k := k) oM (by rw [Sp.okH_at hz3, Sp.all_false (l := list.take k) (k := i) (by rw [List.getElem?_take, if_pos oM]; exact hz21) (by simp [*])]; simp)]; rfl))
      intro hc23'
      try simp only [nrm] at hc23'
      refine W_skip (N_B (N_K (W_region (mV Z (o_add Z Z Z oO (aG Z (R_nil ?_)))))))
      refine N_lp (hJ := ⟨i + 1, _, Z, hle18, H, ?inv, Z⟩) (hm := ?hm)
      case hm => omega
      case inv => exact ⟨by omega, Sp.all_take hall2 hz21 (by simp [*])⟩
     intro hc19'
     try simp only [nrm] at hc19'
     refine W_exit (N_K_exit (N_LP_exit (N_B_same (N_B (N_K (W_region (mV Z (o_add Z Z Z oO (aG Z (R_nil ?_))))))))))
     have H := H.del (k := 0) rfl
     refine N_lp (hJ := ⟨k + 1, _, Z, hle1, H, ?inv, Z⟩) (hm := ?hm)
     case hm => omega
     case inv => exact ⟨by omega, Sp.upto_succ hall (by (obtain rfl : i = k := by omega); rw [Sp.okH_at hz3, hall2]; simp [Sp.prevId, *])⟩
   intro hc13'
   try simp only [nrm] at hc13'
   have hk0 : k = 0 := by omega
   refine RD_pass 20 Z kR kR kR Z (yl_ne Z Z Z) (RD_pass 21 Z kR kR kR Z (yl_ne Z Z Z) (RD_pass 22 Z kR kR kR Z (yl_ne Z Z Z) (RD_pass 23 Z kR kR kR Z (yl_ne Z Z Z) (RD_pass 24 Z kR kR kR Z (yl_ne Z Z Z) (RD_pass 25 Z kR kR kR Z (yl_ne Z Z Z) (RD_pass 26 Z kR kR kR Z (yl_ne Z Z Z) (RD_pass 27 Z kR kR kR Z (yl_ne Z Z Z) (RD_pass 28 Z kR kR kR Z (yl_ne Z Z Z) (RD_tg 29 Z kR Z (yl Z Z) (fun _ hK => v_pick_f Z Z) (RD_t 30 Z kR Z (fun _ hK => v_pick_f Z Z) (RD_done kR (N_K (W_false Z (W_skip (N_K ?_)))))))))))))))
   refine q2 (aG Z (q3 (W_block ?_)))
   obtain ⟨ln26, hln26, H⟩ := H.name (k := 0) rfl
   refine W_lp (hf := (Sub.cons (t := 0) Z (Sub.cons (t := 3) Z (Sub.cons (t := 4) Z Sub.nil)))) (J := fun M w m => ∃ (i : Nat) (G : PH), M = [(5, .int .i64 (i : Int))] ∧ PLe G1 G ∧ Hp w0 G0 [] w G [blk b4 (cl ln26 42)] ∧ (i ≤ k ∧ (list.take i).all (fun g => !Sp.l2Same g.bytes z3.bytes) = true) ∧ m = (k - i)) (h0 := ⟨0, _, Z, PLe.refl _, H, ?inv, Z⟩) (round := ?round)
   case inv => exact ⟨by omega, by simp⟩
   case round =>
    rintro _ w27 _ ⟨i, G27, rfl, hle27, H, hinv27, rfl⟩
    subst hln26
    have hlist := hlist.up hle27
    have hr3 := hr3.up hle27
    have hle1 := hle1.trans hle27
    obtain ⟨hi, hall2⟩ := hinv27
    refine W_seq (q2 (mV Z (mV Z (o_lss Z Z Z (q3 ?_)))))
    refine W_cond Z ?_ ?_
    ·intro hc28
     try simp only [nrm] at hc28
     refine W_skip (N_K (W_seq (W_block (W_seq (W_drawK [0] 8 H kR Z ?_))))); intro w29 H; have hd29 := PLe.refl G27
     refine vM 0 Z Z (vM 1 Z Z ?_)
     have hl30 := hlist.len
     obtain ⟨b30, o30, z30, q30, ha30, hz30, hq30, hE30, hrow30, _⟩ := hlist.at (i := i) oM
     clear hq30
     obtain ⟨a30, m30, c30, rfl, hi30, hr30, hj30⟩ := hE30; have hn_hr30 := hr30.len; have hx_hr30 : _ ≤ 1099511627776 := hr30.lim
     refine RD_t 2 Z kR Z (fun _ hK => v_index_P (i := i) ha30 underlying23 sizeOf42 Z Z Z oM) (RD_t 3 Z kR Z (fun _ hK => v_fieldAddr 1 runUnderlying42 Z sizeOf38 Z Z) (RD_t 4 Z kR Z (fun _ hK => v_load_P hK isAgg38 Z (hrow30 1 _ Z)) (RD_t 5 Z kR Z (fun _ hK => v_fieldAddr 1 runUnderlying42 Z sizeOf38 Z Z) (RD_t 6 Z kR Z (fun _ hK => v_load_B 0 hK isAgg38 Z Z Z) ?_))))
     refine RD_run [7] kR Z (RDs.cons Z ?_ RDs.nil)
     refine o_call call88 Z Z (l2Same_c _ _ H.sub _ _ hr30 _ _ hr3 ) ?_
     rintro _ w31 ⟨rfl, ew31⟩; have H := H.step ew31; refine ⟨_, rfl, ?_⟩
     refine R_nil (N_DK (Kn.of' H hd29 (SubL.cons 0 Z SubL.nil)) (RD_done kR (N_K ?_)))
     refine W_cond Z ?_ ?_
     ·intro hc32
      try simp only [nrm] at hc32
      refine q2 (aG Z (q3 (W_ret (N_B_ret (N_K_ret (N_LP_ret (N_B_ret (N_B_ret (N_K_ret (N_LP_ret (N_B_ret (N_K_ret (rt1 results53 Z ?_)))))))))))))
      exact H.rets (congrArg Value.bool (by rw [Sp.StoreValid, Sp.not_all_range (k := k) oM (by rw [Sp.okH_at hz3, Sp.all_false (l := list.take k) (k := i) (by rw [List.getElem?_take, if_pos oM]; exact hz30) (by simp [*])]; simp)]; rfl))
     intro hc32'
     try simp only [nrm] at hc32'
     refine W_skip (N_B (N_K (W_region (mV Z (o_add Z Z Z oO (aG Z (R_nil ?_)))))))
     refine N_lp (hJ := ⟨i + 1, _, Z, hle27, H, ?inv, Z⟩) (hm := ?hm)
     case hm => omega
     case inv => exact ⟨by omega, Sp.all_take hall2 hz30 (by simp [*])⟩
    intro hc28'
    try simp only [nrm] at hc28'
    refine W_exit (N_K_exit (N_LP_exit (N_B_same (N_B (N_K (W_region (mV Z (o_add Z Z Z oO (aG Z (R_nil ?_))))))))))
    have H := H.del (k := 0) rfl
    refine N_lp (hJ := ⟨k + 1, _, Z, hle1, H, ?inv, Z⟩) (hm := ?hm)
    case hm => omega
    case inv => exact ⟨by omega, Sp.upto_succ hall (by (obtain rfl : i = k := by omega); rw [Sp.okH_at hz3, hall2]; simp [Sp.prevId, *])⟩
  intro hc2'
  try simp only [nrm] at hc2'
  refine W_exit (N_K_exit (N_LP_exit (N_B_same (N_K (q2 (mV Z (o_len_slice underlying23 Z Z (o_leq Z Z Z (aG Z (q3 (W_ret (rt1 results53 Z ?_))))))))))))
  exact H.rets (congrArg Value.bool (by rw [Sp.StoreValid, Sp.all_range (fun j hj => hall j oM), Bool.true_and]; rw [Bool.eq_iff_iff]; simp; omega))
theorem l3At_c (w0 : World) (G0 : PH) (hG : PSub G0 w0) (vlist : Value) (list : List (BHeld)) (hlist : RdH G0 vlist list) (id : Int)  :
  Calls Tryz.prog 113 #[vlist, .int .i64 id] w0 (Rets w0 (.int .i64 (Sp.l3At list id))) := by
 obtain ⟨alist, klist, rfl⟩ := hlist.shape
 have hlimlist : list.length ≤ 1099511627776 := hlist.lim
 have H := Hp.init hG
 refine calls_of_W (l := [.slice alist list.length klist, .int .i64 id]) func113 Z ntmps113 Z (q2 (aG Z (q3 (W_seq (q2 (aG Z (q3 (W_block ?_))))))))
 refine W_lp (hf := (Sub.cons (t := 0) Z (Sub.cons (t := 1) Z Sub.nil))) (J := fun M w m => ∃ (k : Nat) (G : PH), M = [(5, .int .i64 (k : Int))] ∧ PLe G0 G ∧ Hp w0 G0 [] w G [] ∧ (k ≤ list.length ∧ (∀ j, j < k → ∀ y, list[j]? = some y → decide (y.id = id) = false)) ∧ m = (list.length - k)) (h0 := ⟨0, _, Z, PLe.refl _, H, ?inv, Z⟩) (round := ?round)
 case inv => exact ⟨by omega, fun j hj => by omega⟩
 case round =>
  rintro _ w1 _ ⟨k, G1, rfl, hle1, H, hinv1, rfl⟩
  have hlist := hlist.up hle1
  obtain ⟨hk, hall⟩ := hinv1
  refine W_seq (q2 (mV Z (mV Z (o_len_slice underlying23 Z Z (o_lss Z Z Z (q3 ?_))))))
  refine W_cond Z ?_ ?_
  ·intro hc2
   try simp only [nrm] at hc2
   refine W_skip (N_K (W_seq (W_block (q2 (mV Z (mV Z (o_index_P k hlist underlying23 sizeOf42 Z Z Z Z aN ?_))))))); intro b3 o3 z3 q3 hz3 hE3 hrow3
   obtain ⟨a3, m3, c3, rfl, hi3, hr3, hj3⟩ := hE3; have hn_hr3 := hr3.len; have hx_hr3 : _ ≤ 1099511627776 := hr3.lim
   refine o_fieldAddr 0 runUnderlying42 Z sizeOf3 Z Z Z (o_load_P H isAgg3 Z Z (hrow3 0 _ Z) (mV Z (o_eql Z Z Z (q3 ?_))))
   refine W_cond Z ?_ ?_
   ·intro hc4
    try simp only [nrm] at hc4
    refine q2 (mV Z (aG Z (q3 (W_ret (N_B_ret (N_K_ret (N_LP_ret (N_B_ret (N_K_ret (rt1 results113 Z ?_))))))))))
    exact H.rets (congrArg (Value.int .i64) (by rw [Sp.l3At, Sp.atH, Sp.find_at hall hz3 (by simp; omega)]; rfl))
   intro hc4'
   try simp only [nrm] at hc4'
   refine W_skip (N_B (N_K (W_region (mV Z (o_add Z Z Z oO (aG Z (R_nil ?_)))))))
   refine N_lp (hJ := ⟨k + 1, _, Z, hle1, H, ?inv, Z⟩) (hm := ?hm)
   case hm => omega
   case inv => exact ⟨by omega, Sp.none_succ hall hz3 (by simp; omega)⟩
  intro hc2'
  try simp only [nrm] at hc2'
  refine W_exit (N_K_exit (N_LP_exit (N_B_same (N_K (q2 (aG Z (q3 (W_ret (rt1 results113 Z ?_)))))))))
  exact H.rets (congrArg (Value.int .i64) (by rw [Sp.l3At, Sp.atH, Sp.find_none hall oM]; rfl))
theorem l3Like_c (w0 : World) (G0 : PH) (hG : PSub G0 w0) (vlist : Value) (list : List (BHeld)) (hlist : RdH G0 vlist list) (vbytes : Value) (bytes : List (Int)) (hbytes : RdI G0 vbytes bytes)  :
  Calls Tryz.prog 203 #[vlist, vbytes] w0 (Rets w0 (.int .i64 (Sp.l3Like list bytes))) := by
 obtain ⟨alist, klist, rfl⟩ := hlist.shape
 have hlimlist : list.length ≤ 1099511627776 := hlist.lim
 obtain ⟨abytes, kbytes, rfl⟩ := hbytes.shape
 have hlimbytes : bytes.length ≤ 1099511627776 := hbytes.lim
 have H := Hp.init hG
 refine calls_of_W (l := [.slice alist list.length klist, .slice abytes bytes.length kbytes]) func203 Z ntmps203 Z (q2 (aG Z (q3 (W_seq (q2 (aG Z (q3 (W_block ?_))))))))
 refine W_lp (hf := (Sub.cons (t := 0) Z (Sub.cons (t := 1) Z Sub.nil))) (J := fun M w m => ∃ (k : Nat) (G : PH), M = [(5, .int .i64 (k : Int))] ∧ PLe G0 G ∧ Hp w0 G0 [] w G [] ∧ (k ≤ list.length ∧ (∀ j, j < k → ∀ y, list[j]? = some y → Sp.l2Same y.bytes bytes = false)) ∧ m = (list.length - k)) (h0 := ⟨0, _, Z, PLe.refl _, H, ?inv, Z⟩) (round := ?round)
 case inv => exact ⟨by omega, fun j hj => by omega⟩
 case round =>
  rintro _ w1 _ ⟨k, G1, rfl, hle1, H, hinv1, rfl⟩
  have hlist := hlist.up hle1
  have hbytes := hbytes.up hle1
  obtain ⟨hk, hall⟩ := hinv1
  refine W_seq (q2 (mV Z (mV Z (o_len_slice underlying23 Z Z (o_lss Z Z Z (q3 ?_))))))
  refine W_cond Z ?_ ?_
  ·intro hc2
   try simp only [nrm] at hc2
   refine W_skip (N_K (W_seq (W_block (q2 (mV Z (mV Z (o_index_P k hlist underlying23 sizeOf42 Z Z Z Z aN ?_))))))); intro b3 o3 z3 q3 hz3 hE3 hrow3
   obtain ⟨a3, m3, c3, rfl, hi3, hr3, hj3⟩ := hE3; have hn_hr3 := hr3.len; have hx_hr3 : _ ≤ 1099511627776 := hr3.lim
   refine o_fieldAddr 1 runUnderlying42 Z sizeOf38 Z Z Z (o_load_P H isAgg38 Z Z (hrow3 1 _ Z) (mV Z (o_call call88 Z Z (l2Same_c _ _ H.sub _ _ hr3 _ _ hbytes ) ?_)))
   rintro _ w4 ⟨rfl, ew4⟩; have H := H.step ew4; refine ⟨_, rfl, ?_⟩
   refine q3 ?_
   refine W_cond Z ?_ ?_
   ·intro hc5
    try simp only [nrm] at hc5
    refine q2 (mV Z (aG Z (q3 (W_ret (N_B_ret (N_K_ret (N_LP_ret (N_B_ret (N_K_ret (rt1 results203 Z ?_))))))))))
    exact H.rets (congrArg (Value.int .i64) (by rw [Sp.l3Like, Sp.like, Sp.find_at hall hz3 hc5]; rfl))
   intro hc5'
   try simp only [nrm] at hc5'
   refine W_skip (N_B (N_K (W_region (mV Z (o_add Z Z Z oO (aG Z (R_nil ?_)))))))
   refine N_lp (hJ := ⟨k + 1, _, Z, hle1, H, ?inv, Z⟩) (hm := ?hm)
   case hm => omega
   case inv => exact ⟨by omega, Sp.none_succ hall hz3 hc5'⟩
  intro hc2'
  try simp only [nrm] at hc2'
  refine W_exit (N_K_exit (N_LP_exit (N_B_same (N_K (q2 (aG Z (q3 (W_ret (rt1 results203 Z ?_)))))))))
  exact H.rets (congrArg (Value.int .i64) (by rw [Sp.l3Like, Sp.like, Sp.find_none hall oM]; rfl))
theorem l3Copy_c (w0 : World) (G0 : PH) (hG : PSub G0 w0) (vlist : Value) (list : List (BHeld)) (hlist : RdH G0 vlist list)  :
  Calls Tryz.prog 79 #[vlist] w0 (RetO w0 G0 (AccOf heldE 3 42 list)) := by
 obtain ⟨alist, klist, rfl⟩ := hlist.shape
 have hlimlist : list.length ≤ 1099511627776 := hlist.lim
 have H := Hp.init hG
 refine calls_of_W (l := [.slice alist list.length klist]) func79 Z ntmps79 Z (q2 (aG Z (q1 (o_buildSlice H underlying23 sizeOf42 (fun w => ⟨_, zeroValue42 w, Z⟩) Z Z Z Z Z Z Z ?_)))); intro b1 w1 hb1 H
 have H := H.blkAcc 3 (k := 0) (n := 0) rfl rfl (by decide)
 refine aG Z (q3 (W_seq (q2 (aG Z (q3 (W_block ?_))))))
 refine W_lp (hf := (Sub.cons (t := 0) Z (Sub.cons (t := 2) Z Sub.nil))) (J := fun M w m => ∃ (v : Value) (n : Nat) (cs : List Value) (xs : List (BHeld)) (k : Nat) (G : PH), M = [(4, .int .i64 (k : Int)), (3, v)] ∧ PLe G0 G ∧ Hp w0 G0 [] w G [acc 42 3 v n cs] ∧ (Chk heldE 3 G cs xs ∧ n = xs.length ∧ k ≤ list.length ∧ xs.length = k ∧ xs = list.take k) ∧ m = (list.length - k)) (h0 := ⟨_, _, _, [], 0, _, Z, PLe.refl _, H, ?inv, Z⟩) (round := ?round)
 case inv => exact ⟨(Chk.nil (E := heldE) (sz := 3) (G := G0)),  by first | rfl | simp | (simp; omega) | omega, (by simp)⟩
 case round =>
  rintro _ w2 _ ⟨v, n, cs, xs, k, G2, rfl, hle2, H, hinv2, rfl⟩
  have hlist := hlist.up hle2
  obtain ⟨hchk2_0, hn2_0, hinv2⟩ := hinv2
  obtain ⟨av2_0, cv2_0, rfl⟩ := H.accShape (k := 0) rfl
  obtain ⟨hk, hxl, hxs⟩ := hinv2
  refine W_seq (q2 (mV Z (mV Z (o_len_slice underlying23 Z Z (o_lss Z Z Z (q3 ?_))))))
  refine W_cond Z ?_ ?_
  ·intro hc3
   try simp only [nrm] at hc3
   refine W_skip (N_K (W_seq (W_block (q2 (mV Z (mV Z (o_index_P k hlist underlying23 sizeOf42 Z Z Z Z aN ?_))))))); intro b4 o4 z4 q4 hz4 hE4 hrow4
   obtain ⟨a4, m4, c4, rfl, hi4, hr4, hj4⟩ := hE4; have hn_hr4 := hr4.len; have hx_hr4 : _ ≤ 1099511627776 := hr4.lim
   refine o_loadagg_P H isAgg42 sizeOf42 Z Z hrow4 Z (o_alloc H zeroValue42 Z Z ?_); intro b5 w5 hb5 H
   refine o_store_B 0 H sizeOf42 Z Z Z Z Z Z Z Z ?_; intro w6 H
   refine q1 (o_buildSlice H underlying38 sizeOf3 (fun w => ⟨_, zeroValue3 w, Z⟩) Z Z Z Z Z Z Z ?_); intro b7 w7 hb7 H
   have H := H.blkAcc 1 (k := 0) (n := 0) rfl rfl (by decide)
   refine o_fieldAddr 1 runUnderlying42 Z sizeOf38 Z Z Z (o_load_B 1 H isAgg38 Z Z Z Z ?_)
   refine o_append_P 0 H hr4 (by intro z cs hz u hu; obtain ⟨rfl, _⟩ := hz; simp at hu; subst hu; rfl) (sz := 1) (bytes := 8) underlying38 typeInfo3 ⟨_, rfl, rfl⟩ rfl rfl rfl rfl rfl rfl rfl oM rfl ?_; intro v8 w8 css8 hcl8 hcs8 H
   have hchk8 : Chk intE 1 G2 ([] ++ css8.flatten) _ := ⟨css8, rfl, hcl8, hcs8⟩
   obtain ⟨av8, cv8, rfl⟩ := H.accShape (k := 0) rfl
   refine o_fieldAddr 1 runUnderlying42 Z sizeOf38 Z Z Z (o_store_B 1 H sizeOf38 Z Z Z Z Z Z Z Z ?_); intro w9 H
   refine q3 (W_region (mV Z (o_loadagg_B 1 H isAgg42 sizeOf42 Z Z Z Z Z (o_buildSlice H underlying23 sizeOf42 (fun w => ⟨_, zeroValue42 w, Z⟩) Z Z Z Z Z Z Z ?_)))); intro b10 w10 hb10 H
   refine o_append1 2 H (sz := 3) (bytes := 40) underlying23 typeInfo42 ⟨_, Z, Z⟩ Z Z Z Z Z Z Z Z Z Z oM Z ?_; intro v11 w11 H
   obtain ⟨G12, H, hsg12, hsr12⟩ := H.shut' (k := 0) rfl hchk8 aN aN
   have hchk2_0 := hchk2_0.up hsg12
   have hle2 := hle2.trans hsg12
   have hchk11 := hchk2_0.snoc (show heldE _ z4 _ from ⟨_, _, _, rfl, ⟨by first | omega | (dsimp only; omega), by first | omega | (dsimp only; omega)⟩, hsr12, ⟨by first | omega | (dsimp only; omega), by first | omega | (dsimp only; omega)⟩⟩) rfl
   obtain ⟨av11, cv11, rfl⟩ := H.accShape (k := 1) rfl
   refine aG Z (R_nil (N_B (N_K (W_region (mV Z (o_add Z Z Z oO (aG Z (R_nil ?_))))))))
   have H := H.del (k := 0) rfl
   refine N_lp (hJ := ⟨_, _, _, (xs ++ [z4]), k + 1, _, Z, hle2, H, ?inv, Z⟩) (hm := ?hm)
   case hm => omega
   case inv => exact ⟨hchk11, aN, (by exact ⟨by omega, by simp [hxl], by rw [Sp.take_succ' hz4, hxs]⟩)⟩
  intro hc3'
  try simp only [nrm] at hc3'
  refine W_exit (N_K_exit (N_LP_exit (N_B_same (N_K (q2 (mV Z (aG Z (q3 (W_ret (rt1 results79 Z ?_))))))))))
  obtain rfl : k = list.length := by omega
  rw [List.take_length] at hxs
  subst hxs
  exact H.retO (k := 0) rfl (AccOf.mk (by assumption) hchk2_0) (acc_nd _ _ _ _ _)
theorem l12At_c (w0 : World) (G0 : PH) (hG : PSub G0 w0) (vlist : Value) (list : List (BSnap)) (hlist : RdSn G0 vlist list) (name : Bs) (hname : name.length ≤ 16777216)  :
  Calls Tryz.prog 40 #[vlist, str name] w0 (Rets w0 (.int .i64 (Sp.l12At list name))) := by
 obtain ⟨alist, klist, rfl⟩ := hlist.shape
 have hlimlist : list.length ≤ 1099511627776 := hlist.lim
 have H := Hp.init hG
 refine calls_of_W (l := [.slice alist list.length klist, str name]) func40 Z ntmps40 Z (q2 (aG Z (q3 (W_seq (q2 (aG Z (q3 (W_block ?_))))))))
 refine W_lp (hf := (Sub.cons (t := 0) Z (Sub.cons (t := 1) Z Sub.nil))) (J := fun M w m => ∃ (k : Nat) (G : PH), M = [(5, .int .i64 (k : Int))] ∧ PLe G0 G ∧ Hp w0 G0 [] w G [] ∧ (k ≤ list.length ∧ (∀ j, j < k → ∀ y, list[j]? = some y → decide (y.name = name) = false)) ∧ m = (list.length - k)) (h0 := ⟨0, _, Z, PLe.refl _, H, ?inv, Z⟩) (round := ?round)
 case inv => exact ⟨by omega, fun j hj => by omega⟩
 case round =>
  rintro _ w1 _ ⟨k, G1, rfl, hle1, H, hinv1, rfl⟩
  have hlist := hlist.up hle1
  obtain ⟨hk, hall⟩ := hinv1
  refine W_seq (q2 (mV Z (mV Z (o_len_slice underlying25 Z Z (o_lss Z Z Z (q3 ?_))))))
  refine W_cond Z ?_ ?_
  ·intro hc2
   try simp only [nrm] at hc2
   refine W_skip (N_K (W_seq (W_block (q2 (mV Z (mV Z (o_index_P k hlist underlying25 sizeOf46 Z Z Z Z aN ?_))))))); intro b3 o3 z3 q3 hz3 hE3 hrow3
   obtain ⟨a3, m3, c3, rfl, hi3, hr3⟩ := hE3; have hy_hi3 : _ ≤ 16777216 := hi3; have hn_hr3 := hr3.len; have hx_hr3 : _ ≤ 1099511627776 := hr3.lim
   refine o_fieldAddr 0 runUnderlying46 Z sizeOf9 Z Z Z (o_load_P H isAgg9 Z Z (hrow3 0 _ Z) (mV Z (o_seql Z Z Z (q3 ?_))))
   refine W_cond Z ?_ ?_
   ·intro hc4
    try simp only [nrm] at hc4
    refine q2 (mV Z (aG Z (q3 (W_ret (N_B_ret (N_K_ret (N_LP_ret (N_B_ret (N_K_ret (rt1 results40 Z ?_))))))))))
    exact H.rets (congrArg (Value.int .i64) (by rw [Sp.l12At, Sp.atS, Sp.find_at hall hz3 (by simp; exact hc4)]; rfl))
   intro hc4'
   try simp only [nrm] at hc4'
   refine W_skip (N_B (N_K (W_region (mV Z (o_add Z Z Z oO (aG Z (R_nil ?_)))))))
   refine N_lp (hJ := ⟨k + 1, _, Z, hle1, H, ?inv, Z⟩) (hm := ?hm)
   case hm => omega
   case inv => exact ⟨by omega, Sp.none_succ hall hz3 (by simp; exact hc4')⟩
  intro hc2'
  try simp only [nrm] at hc2'
  refine W_exit (N_K_exit (N_LP_exit (N_B_same (N_K (q2 (aG Z (q3 (W_ret (rt1 results40 Z ?_)))))))))
  exact H.rets (congrArg (Value.int .i64) (by rw [Sp.l12At, Sp.atS, Sp.find_none hall oM]; rfl))
end Go.Proofs.Tst

namespace Go.Proofs.Tst
open Go Fw Tryz
theorem l5Copy_c (w0 : World) (G0 : PH) (hG : PSub G0 w0) (cx : List Value) (x : BItem) (hx : itemE G0 x cx)  :
  Calls Tryz.prog 81 #[.agg cx.toArray] w0 (RetP w0 G0 (fun G v => ∃ cs, v = .agg cs.toArray ∧ itemE G x cs)) := by
 obtain ⟨a1, m1, c1, rfl, hi1, hr1⟩ := hx; have hy_hi1 : _ ≤ 16777216 := hi1; have hn_hr1 := hr1.len; have hx_hr1 : _ ≤ 1099511627776 := hr1.lim
 have H := Hp.init hG
 refine calls_of_W (l := [_]) func81 Z ntmps81 Z (q2 (o_box H Z Z Z ?_)); intro b2 w2 hb2 H
 refine o_alloc H zeroValue40 Z Z ?_; intro b3 w3 hb3 H
 refine q1 (o_buildSlice H underlying38 sizeOf3 (fun w => ⟨_, zeroValue3 w, Z⟩) Z Z Z Z Z Z Z ?_); intro b4 w4 hb4 H
 have H := H.blkAcc 1 (k := 0) (n := 0) rfl rfl (by decide)
 refine o_fieldAddr 2 runUnderlying40 Z sizeOf38 Z Z Z (o_load_B 2 H isAgg38 Z Z Z Z ?_)
 refine o_append_P 0 H hr1 (by intro z cs hz u hu; obtain ⟨rfl, _⟩ := hz; simp at hu; subst hu; rfl) (sz := 1) (bytes := 8) underlying38 typeInfo3 ⟨_, rfl, rfl⟩ rfl rfl rfl rfl rfl rfl rfl oM rfl ?_; intro v5 w5 css5 hcl5 hcs5 H
 have hchk5 : Chk intE 1 G0 ([] ++ css5.flatten) _ := ⟨css5, rfl, hcl5, hcs5⟩
 obtain ⟨av5, cv5, rfl⟩ := H.accShape (k := 0) rfl
 refine o_fieldAddr 2 runUnderlying40 Z sizeOf38 Z Z Z (o_store_B 2 H sizeOf38 Z Z Z Z Z Z Z Z ?_); intro w6 H
 refine q1 (o_loadagg_B 2 H isAgg40 sizeOf40 Z Z Z Z Z (o_store_B 1 H sizeOf40 Z Z Z Z Z Z Z Z ?_)); intro w7 H
 refine q3 (W_ret (ret_gen (rs := [.cell 2 40]) (vs := [_]) results81 ⟨⟨_, Z, load_blk 1 H isAgg40 sizeOf40 Z Z Z⟩, trivial⟩ ?_))
 obtain ⟨G509, H, hsg509, hsr509⟩ := H.shut' (k := 0) rfl hchk5 aN aN
 exact H.retP ⟨_, Z, ⟨_, _, _, Z, hi1, hsr509⟩⟩
end Go.Proofs.Tst

namespace Go.Proofs.Tst
open Go Fw Tryz
theorem l5All_c (w0 : World) (G0 : PH) (hG : PSub G0 w0) (vlist : Value) (list : List (BItem)) (hlist : RdItems G0 vlist list)  :
  Calls Tryz.prog 43 #[vlist] w0 (RetO w0 G0 (AccOf itemE 3 40 list)) := by
 obtain ⟨alist, klist, rfl⟩ := hlist.shape
 have hlimlist : list.length ≤ 1099511627776 := hlist.lim
 have H := Hp.init hG
 refine calls_of_W (l := [.slice alist list.length klist]) func43 Z ntmps43 Z (q2 (aG Z (q1 (o_buildSlice H underlying24 sizeOf40 (fun w => ⟨_, zeroValue40 w, Z⟩) Z Z Z Z Z Z Z ?_)))); intro b1 w1 hb1 H
 have H := H.blkAcc 3 (k := 0) (n := 0) rfl rfl (by decide)
 refine aG Z (q3 (W_seq (q2 (aG Z (q3 (W_block ?_))))))
 refine W_lp (hf := (Sub.cons (t := 0) Z (Sub.cons (t := 2) Z Sub.nil))) (J := fun M w m => ∃ (v : Value) (n : Nat) (cs : List Value) (xs : List (BItem)) (k : Nat) (G : PH), M = [(4, .int .i64 (k : Int)), (3, v)] ∧ PLe G0 G ∧ Hp w0 G0 [] w G [acc 40 3 v n cs] ∧ (Chk itemE 3 G cs xs ∧ n = xs.length ∧ k ≤ list.length ∧ xs.length = k ∧ xs = list.take k) ∧ m = (list.length - k)) (h0 := ⟨_, _, _, [], 0, _, Z, PLe.refl _, H, ?inv, Z⟩) (round := ?round)
 case inv => exact ⟨(Chk.nil (E := itemE) (sz := 3) (G := G0)),  by first | rfl | simp | (simp; omega) | omega, (by simp)⟩
 case round =>
  rintro _ w2 _ ⟨v, n, cs, xs, k, G2, rfl, hle2, H, hinv2, rfl⟩
  have hlist := hlist.up hle2
  obtain ⟨hchk2_0, hn2_0, hinv2⟩ := hinv2
  obtain ⟨av2_0, cv2_0, rfl⟩ := H.accShape (k := 0) rfl
  obtain ⟨hk, hxl, hxs⟩ := hinv2
  refine W_seq (q2 (mV Z (mV Z (o_len_slice underlying24 Z Z (o_lss Z Z Z (q3 ?_))))))
  refine W_cond Z ?_ ?_
  ·intro hc3
   try simp only [nrm] at hc3
   refine W_skip (N_K (W_seq (W_block (W_region (mV Z (mV Z (mV Z (o_index_P k hlist underlying24 sizeOf40 Z Z Z Z aN ?_)))))))); intro b4 o4 z4 q4 hz4 hE4 hrow4
   obtain ⟨a4, m4, c4, rfl, hi4, hr4⟩ := hE4; have hy_hi4 : _ ≤ 16777216 := hi4; have hn_hr4 := hr4.len; have hx_hr4 : _ ≤ 1099511627776 := hr4.lim
   refine o_loadagg_P H isAgg40 sizeOf40 Z Z hrow4 Z (o_call call81 Z Z (l5Copy_c _ _ H.sub _ _ ⟨_, _, _, Z, hi4, hr4⟩ ) ?_)
   rintro _ w5 ⟨G5, _, g5, rfl, u5_0, rfl, hr5_0⟩
   have H := H.grow g5
   have hchk2_0 := hchk2_0.up g5.le
   have hle2 := hle2.trans g5.le
   obtain ⟨a6, m6, c6, rfl, hi6, hr6⟩ := hr5_0; have hy_hi6 : _ ≤ 16777216 := hi6; have hn_hr6 := hr6.len; have hx_hr6 : _ ≤ 1099511627776 := hr6.lim
   refine ⟨_, Z, ?_⟩
   refine o_buildSlice H underlying24 sizeOf40 (fun w => ⟨_, zeroValue40 w, Z⟩) Z Z Z Z Z Z Z ?_; intro b7 w7 hb7 H
   refine o_append1 0 H (sz := 3) (bytes := 48) underlying24 typeInfo40 ⟨_, Z, Z⟩ Z Z Z Z Z Z Z Z Z Z oM Z ?_; intro v8 w8 H
   have hchk8 := hchk2_0.snoc (show itemE _ z4 _ from ⟨_, _, _, rfl, hi6, hr6⟩) rfl
   obtain ⟨av8, cv8, rfl⟩ := H.accShape (k := 0) rfl
   refine aG Z (R_nil (N_B (N_K (W_region (mV Z (o_add Z Z Z oO (aG Z (R_nil ?_))))))))
   refine N_lp (hJ := ⟨_, _, _, (xs ++ [z4]), k + 1, _, Z, hle2, H, ?inv, Z⟩) (hm := ?hm)
   case hm => omega
   case inv => exact ⟨hchk8, aN, (by exact ⟨by omega, by simp [hxl], by rw [Sp.take_succ' hz4, hxs]⟩)⟩
  intro hc3'
  try simp only [nrm] at hc3'
  refine W_exit (N_K_exit (N_LP_exit (N_B_same (N_K (q2 (mV Z (aG Z (q3 (W_ret (rt1 results43 Z ?_))))))))))
  obtain rfl : k = list.length := by omega
  rw [List.take_length] at hxs
  subst hxs
  exact H.retO (k := 0) rfl (AccOf.mk (by assumption) hchk2_0) (acc_nd _ _ _ _ _)
end Go.Proofs.Tst

namespace Go.Proofs.Tst
open Go Fw Tryz
theorem StoreKeep_c (w0 : World) (G0 : PH) (hG : PSub G0 w0) (vlist : Value) (list : List (BHeld)) (hlist : RdH G0 vlist list) (id : Int)  :
  Calls Tryz.prog 80 #[vlist, .int .i64 id] w0 (RetO w0 G0 (fun G v r => ∃ u, v = .tuple #[u, .bool (Sp.StoreKeep list id).isSome] ∧ AccOf heldE 3 42 ((Sp.StoreKeep list id).getD []) G u r)) := by
 obtain ⟨alist, klist, rfl⟩ := hlist.shape
 have hlimlist : list.length ≤ 1099511627776 := hlist.lim
 have H := Hp.init hG
 refine calls_of_W (l := [.slice alist list.length klist, .int .i64 id]) func80 Z ntmps80 Z (q2 (aG Z (aG Z (q1 (mV Z (mV Z (o_call call113 Z Z (l3At_c _ _ H.sub _ _ hlist _ ) ?_)))))))
 rintro _ w1 ⟨rfl, ew1⟩; have H := H.step ew1; refine ⟨_, rfl, ?_⟩
 refine aG Z (q3 (W_seq (q2 (mV Z (o_call call53 Z Z (StoreValid_c _ _ H.sub _ _ hlist ) ?_)))))
 rintro _ w2 ⟨rfl, ew2⟩; have H := H.step ew2; refine ⟨_, rfl, ?_⟩
 refine o_not Z Z (mV Z ?_)
 refine R_case (t := 14) Z ?_ ?_
 ·intro hc3
  try simp only [nrm] at hc3
  refine rP Z (rP Z (o_pick_t Z Z Z (mV Z (rP Z (rP Z (rP Z (rP Z (rP Z (rP Z (o_pick_t Z Z Z (q3 (W_true Z (q2 (o_buildSlice H underlying23 sizeOf42 (fun w => ⟨_, zeroValue42 w, Z⟩) Z Z Z Z Z Z Z ?_)))))))))))))); intro b4 w4 hb4 H
  have H := H.blkAcc 3 (k := 0) (n := 0) rfl rfl (by decide)
  refine aG Z (aG Z (q3 (W_ret (N_K_ret (rt2 results80 Z Z ?_)))))
  have hN : Sp.StoreKeep list id = none := by simp [Sp.StoreKeep, hc3]
  exact H.retO (k := 0) rfl (by rw [hN]; exact ⟨_, rfl, AccOf.mk aN (Chk.nil (E := heldE) (sz := 3) (G := G0))⟩) (acc_nd _ _ _ _ _)
 intro hc3'
 try simp only [nrm] at hc3'
 refine gR Z (mV Z (gR Z (o_lss Z Z Z (o_pick_f Z Z Z (mV Z ?_)))))
 refine R_case (t := 18) Z ?_ ?_
 ·intro hc5
  try simp only [nrm] at hc5
  refine rP Z (rP Z (rP Z (rP Z (rP Z (rP Z (o_pick_t Z Z Z (q3 (W_true Z (q2 (o_buildSlice H underlying23 sizeOf42 (fun w => ⟨_, zeroValue42 w, Z⟩) Z Z Z Z Z Z Z ?_)))))))))); intro b6 w6 hb6 H
  have H := H.blkAcc 3 (k := 0) (n := 0) rfl rfl (by decide)
  refine aG Z (aG Z (q3 (W_ret (N_K_ret (rt2 results80 Z Z ?_)))))
  have hN : Sp.StoreKeep list id = none := by simp [Sp.StoreKeep, Sp.atH, Sp.at_none hc5]
  exact H.retO (k := 0) rfl (by rw [hN]; exact ⟨_, rfl, AccOf.mk aN (Chk.nil (E := heldE) (sz := 3) (G := G0))⟩) (acc_nd _ _ _ _ _)
 intro hc5'
 try simp only [nrm] at hc5'
 obtain ⟨i, x, hi1, hi2, hi3, hi4, hi5⟩ := Sp.at_nat hc5'
 have hl : Sp.atH list id = some i := hi1
 refine gR Z (mV Z (gR Z (mV Z (gR Z (o_index_P i hlist underlying23 sizeOf42 Z Z Z hi2 aN ?_))))); intro b7 o7 z7 q7 hz7 hE7 hrow7
 obtain ⟨a7, m7, c7, rfl, hi7, hr7, hj7⟩ := hE7; have hn_hr7 := hr7.len; have hx_hr7 : _ ≤ 1099511627776 := hr7.lim
 refine gR Z (o_fieldAddr 2 runUnderlying42 Z sizeOf3 Z Z Z (gR Z (o_load_P H isAgg3 Z Z (hrow7 2 _ Z) (gR Z (o_eql Z Z Z (o_pick_f Z Z Z (q3 ?_)))))))
 refine W_cond Z ?_ ?_
 ·intro hc8
  try simp only [nrm] at hc8
  refine q2 (o_buildSlice H underlying23 sizeOf42 (fun w => ⟨_, zeroValue42 w, Z⟩) Z Z Z Z Z Z Z ?_); intro b9 w9 hb9 H
  have H := H.blkAcc 3 (k := 0) (n := 0) rfl rfl (by decide)
  refine aG Z (aG Z (q3 (W_ret (N_K_ret (rt2 results80 Z Z ?_)))))
  have hN : Sp.StoreKeep list id = none := by simp [Sp.StoreKeep, hl, hz7, hc8]
  exact H.retO (k := 0) rfl (by rw [hN]; exact ⟨_, rfl, AccOf.mk aN (Chk.nil (E := heldE) (sz := 3) (G := G0))⟩) (acc_nd _ _ _ _ _)
 intro hc8'
 try simp only [nrm] at hc8'
 refine W_skip (N_K (q2 (mV Z (o_call call79 Z Z (l3Copy_c _ _ H.sub _ _ hlist ) ?_))))
 rintro _ w10 ⟨G10, v10, _, g10, rfl, ⟨cs10, rfl, hchk10⟩, hp10, hq10, hs10⟩
 have H := H.growO g10 hp10 hq10 hs10; obtain ⟨av10, cv10, rfl⟩ := H.accShape (k := 0) rfl
 refine ⟨_, Z, ?_⟩
 refine aG Z (q1 (mV Z (mV Z (mV Z (mV Z (o_index_A 0 H i Z hchk10 underlying23 sizeOf42 Z Z Z hi2 aN aN ?_)))))); intro ba11 z11 q11 hba11 hz11 hE11 hg11; cases hba11
 obtain ⟨a11, m11, c11, rfl, hi11, hr11, hj11⟩ := hE11; have hn_hr11 := hr11.len; have hx_hr11 : _ ≤ 1099511627776 := hr11.lim
 have hsv := Sp.valid_at hc3' hz11
 refine o_fieldAddr 2 runUnderlying42 Z sizeOf3 Z Z Z (o_load_A 0 H isAgg3 Z Z Z (hg11 2 _ Z) (o_add Z Z Z oO (o_index_A 0 H i Z hchk10 underlying23 sizeOf42 Z Z Z hi2 aN aN ?_))); intro ba13 z13 q13 hba13 hz13 hE13 hg13; cases hba13
 obtain ⟨a13, m13, c13, rfl, hi13, hr13, hj13⟩ := hE13; have hn_hr13 := hr13.len; have hx_hr13 : _ ≤ 1099511627776 := hr13.lim
 have hzz13 : z11 = z13 := Option.some.inj (hz11.symm.trans hz13)
 subst hzz13
 refine o_fieldAddr 2 runUnderlying42 Z sizeOf3 Z Z Z ?_
 have hcl14 := hchk10.length
 refine o_store_A 0 H sizeOf3 Z Z Z Z Z (by simp only [vc, List.length_cons, List.length_nil]; omega) ?_; intro w14 H
 have hchk14 := hchk10.put (x' := ⟨z11.id, z11.bytes, z11.uses + 1⟩) (off := 2) (vs := [_]) hz13 (fun cs hl hE => by obtain ⟨_, _, _, rfl, h1, h2, h3⟩ := hE; exact ⟨_, _, _, rfl, h1, h2, ⟨by first | omega | (dsimp only; omega), by first | omega | (dsimp only; omega)⟩⟩) (by simp only [vc, List.length_cons, List.length_nil]; omega)
 refine q1 (mV Z (aG Z (aG Z (q3 (W_ret (rt2 results80 Z Z ?_))))))
 have hY : Sp.StoreKeep list id = some (list.set i ⟨z11.id, z11.bytes, z11.uses + 1⟩) := by (have hzz : z7 = z11 := Option.some.inj (hz7.symm.trans hz11)); rw [hzz] at hc8'; simp [Sp.StoreKeep, hc3', hl, hz11, hc8', Sp.bump_at hz11]
 exact H.retO (k := 0) rfl (by rw [hY]; exact ⟨_, rfl, AccOf.mk aN hchk14⟩) (acc_nd _ _ _ _ _)
theorem StoreDrop_c (w0 : World) (G0 : PH) (hG : PSub G0 w0) (vlist : Value) (list : List (BHeld)) (hlist : RdH G0 vlist list) (id : Int)  :
  Calls Tryz.prog 191 #[vlist, .int .i64 id] w0 (RetO w0 G0 (fun G v r => ∃ u, v = .tuple #[u, .bool (Sp.StoreDrop list id).isSome] ∧ AccOf heldE 3 42 ((Sp.StoreDrop list id).getD []) G u r)) := by
 obtain ⟨alist, klist, rfl⟩ := hlist.shape
 have hlimlist : list.length ≤ 1099511627776 := hlist.lim
 have H := Hp.init hG
 refine calls_of_W (l := [.slice alist list.length klist, .int .i64 id]) func191 Z ntmps191 Z (q2 (aG Z (aG Z (q1 (mV Z (mV Z (o_call call113 Z Z (l3At_c _ _ H.sub _ _ hlist _ ) ?_)))))))
 rintro _ w1 ⟨rfl, ew1⟩; have H := H.step ew1; refine ⟨_, rfl, ?_⟩
 refine aG Z (q3 (W_seq (q2 (mV Z (o_call call53 Z Z (StoreValid_c _ _ H.sub _ _ hlist ) ?_)))))
 rintro _ w2 ⟨rfl, ew2⟩; have H := H.step ew2; refine ⟨_, rfl, ?_⟩
 refine o_not Z Z (mV Z ?_)
 refine R_case (t := 14) Z ?_ ?_
 ·intro hc3
  try simp only [nrm] at hc3
  refine rP Z (rP Z (o_pick_t Z Z Z (q3 (W_true Z (q2 (o_buildSlice H underlying23 sizeOf42 (fun w => ⟨_, zeroValue42 w, Z⟩) Z Z Z Z Z Z Z ?_)))))); intro b4 w4 hb4 H
  have H := H.blkAcc 3 (k := 0) (n := 0) rfl rfl (by decide)
  refine aG Z (aG Z (q3 (W_ret (N_K_ret (rt2 results191 Z Z ?_)))))
  have hN : Sp.StoreDrop list id = none := by simp [Sp.StoreDrop, hc3]
  exact H.retO (k := 0) rfl (by rw [hN]; exact ⟨_, rfl, AccOf.mk aN (Chk.nil (E := heldE) (sz := 3) (G := G0))⟩) (acc_nd _ _ _ _ _)
 intro hc3'
 try simp only [nrm] at hc3'
 refine gR Z (mV Z (gR Z (o_lss Z Z Z (o_pick_f Z Z Z (q3 ?_)))))
 refine W_cond Z ?_ ?_
 ·intro hc5
  try simp only [nrm] at hc5
  refine q2 (o_buildSlice H underlying23 sizeOf42 (fun w => ⟨_, zeroValue42 w, Z⟩) Z Z Z Z Z Z Z ?_); intro b6 w6 hb6 H
  have H := H.blkAcc 3 (k := 0) (n := 0) rfl rfl (by decide)
  refine aG Z (aG Z (q3 (W_ret (N_K_ret (rt2 results191 Z Z ?_)))))
  have hN : Sp.StoreDrop list id = none := by simp [Sp.StoreDrop, Sp.atH, Sp.at_none hc5]
  exact H.retO (k := 0) rfl (by rw [hN]; exact ⟨_, rfl, AccOf.mk aN (Chk.nil (E := heldE) (sz := 3) (G := G0))⟩) (acc_nd _ _ _ _ _)
 intro hc5'
 try simp only [nrm] at hc5'
 obtain ⟨i, x, hi1, hi2, hi3, hi4, hi5⟩ := Sp.at_nat hc5'
 have hi2 : Sp.l3At list id = (i : Int) := hi2
 have hl : Sp.atH list id = some i := hi1
 refine W_skip (N_K (q2 (mV Z (o_call call79 Z Z (l3Copy_c _ _ H.sub _ _ hlist ) ?_))))
 rintro _ w7 ⟨G7, v7, _, g7, rfl, ⟨cs7, rfl, hchk7⟩, hp7, hq7, hs7⟩
 have H := H.growO g7 hp7 hq7 hs7; obtain ⟨av7, cv7, rfl⟩ := H.accShape (k := 0) rfl
 refine ⟨_, Z, ?_⟩
 refine aG Z (q3 (W_seq (q2 (mV Z (mV Z (o_index_A 0 H i Z hchk7 underlying23 sizeOf42 Z Z Z hi2 aN aN ?_)))))); intro ba8 z8 q8 hba8 hz8 hE8 hg8; cases hba8
 obtain ⟨a8, m8, c8, rfl, hi8, hr8, hj8⟩ := hE8; have hn_hr8 := hr8.len; have hx_hr8 : _ ≤ 1099511627776 := hr8.lim
 have hsv := Sp.valid_at hc3' hz8
 refine o_fieldAddr 2 runUnderlying42 Z sizeOf3 Z Z Z (o_load_A 0 H isAgg3 Z Z Z (hg8 2 _ Z) (o_eql Z Z Z (q3 ?_)))
 refine W_cond Z ?_ ?_
 ·intro hc9
  try simp only [nrm] at hc9
  refine W_seq (W_drawK [] 10 H kR Z ?_); intro w10 H; have hd10 := PLe.refl G7
  refine vM 0 Z Z (vM 1 Z Z ?_)
  have hac11 := H.accCap (k := 0) rfl
  refine RD_t 2 Z kR Z (fun _ hK => v_slice_to (j := i) underlying23 sizeOf42 Z Z hi2 oM) (vM 3 Z Z (vM 4 Z Z (RD_t 5 Z kR Z (fun _ hK => v_add Z Z oO) ?_)))
  have hac13 := H.accCap (k := 0) rfl
  refine RD_t 6 Z kR Z (fun _ hK => v_slice_from (i := (i + 1)) underlying23 sizeOf42 Z Z oM oM) ?_
  refine RD_run [7] kR Z (RDs.cons Z ?_ RDs.nil)
  refine o_append_del 0 H i Z hchk7 (by intro z cs hz u hu; obtain ⟨_, _, _, rfl, _⟩ := hz; simp at hu; rcases hu with rfl | rfl | rfl <;> rfl) underlying23 typeInfo42 rfl rfl rfl rfl oM aN ?_; intro b14 w14 hb14 H hchk14; cases hb14
  refine R_nil (N_DK (Kn.of' H hd10 SubL.nil) (RD_t 8 Z kR Z (fun _ hK => v_assign Z) (RD_t 9 Z kR Z (fun _ hK => v_assign Z) (RD_done kR (N_K (W_ret (N_K_ret (rt2 results191 Z Z ?_))))))))
  have hY : Sp.StoreDrop list id = some (list.take i ++ list.drop (i + 1)) := by simp [Sp.StoreDrop, hc3', hl, hz8, hc9]
  exact H.retO (k := 0) rfl (by rw [hY]; exact ⟨_, rfl, AccOf.mk aN hchk14⟩) (acc_nd _ _ _ _ _)
 intro hc9'
 try simp only [nrm] at hc9'
 refine W_skip (N_K (q2 (mV Z (mV Z (mV Z (mV Z (o_index_A 0 H i Z hchk7 underlying23 sizeOf42 Z Z Z hi2 aN aN ?_))))))); intro ba15 z15 q15 hba15 hz15 hE15 hg15; cases hba15
 obtain ⟨a15, m15, c15, rfl, hi15, hr15, hj15⟩ := hE15; have hn_hr15 := hr15.len; have hx_hr15 : _ ≤ 1099511627776 := hr15.lim
 have hzz15 : z8 = z15 := Option.some.inj (hz8.symm.trans hz15)
 subst hzz15
 refine o_fieldAddr 2 runUnderlying42 Z sizeOf3 Z Z Z (o_load_A 0 H isAgg3 Z Z Z (hg15 2 _ Z) (o_sub Z Z Z oO (o_index_A 0 H i Z hchk7 underlying23 sizeOf42 Z Z Z hi2 aN aN ?_))); intro ba17 z17 q17 hba17 hz17 hE17 hg17; cases hba17
 obtain ⟨a17, m17, c17, rfl, hi17, hr17, hj17⟩ := hE17; have hn_hr17 := hr17.len; have hx_hr17 : _ ≤ 1099511627776 := hr17.lim
 have hzz17 : z8 = z17 := Option.some.inj (hz8.symm.trans hz17)
 subst hzz17
 refine o_fieldAddr 2 runUnderlying42 Z sizeOf3 Z Z Z ?_
 have hcl18 := hchk7.length
 refine o_store_A 0 H sizeOf3 Z Z Z Z Z (by simp only [vc, List.length_cons, List.length_nil]; omega) ?_; intro w18 H
 have hchk18 := hchk7.put (x' := ⟨z8.id, z8.bytes, z8.uses + (-1)⟩) (off := 2) (vs := [_]) hz17 (fun cs hl hE => by obtain ⟨_, _, _, rfl, h1, h2, h3⟩ := hE; exact ⟨_, _, _, rfl, h1, h2, ⟨by first | omega | (dsimp only; omega), by first | omega | (dsimp only; omega)⟩⟩) (by simp only [vc, List.length_cons, List.length_nil]; omega)
 refine q1 (mV Z (aG Z (aG Z (q3 (W_ret (rt2 results191 Z Z ?_))))))
 have hY : Sp.StoreDrop list id = some (list.set i ⟨z8.id, z8.bytes, z8.uses + (-1)⟩) := by simp [Sp.StoreDrop, hc3', hl, hz8, hc9', Sp.bump_at hz8]
 exact H.retO (k := 0) rfl (by rw [hY]; exact ⟨_, rfl, AccOf.mk aN hchk18⟩) (acc_nd _ _ _ _ _)
end Go.Proofs.Tst

namespace Go.Proofs.Tst
open Go Fw Tryz
theorem l12Keep_c (w0 : World) (G0 : PH) (hG : PSub G0 w0) (vstore : Value) (store : List (BHeld)) (hstore : RdH G0 vstore store) (vlist : Value) (list : List (BItem)) (hlist : RdItems G0 vlist list)  :
  Calls Tryz.prog 41 #[vstore, vlist] w0 (RetO w0 G0 (fun G v r => ∃ u, v = .tuple #[u, .bool (Sp.l12Keep store list).isSome] ∧ AccOf heldE 3 42 ((Sp.l12Keep store list).getD []) G u r)) := by
 obtain ⟨astore, kstore, rfl⟩ := hstore.shape
 have hlimstore : store.length ≤ 1099511627776 := hstore.lim
 obtain ⟨alist, klist, rfl⟩ := hlist.shape
 have hlimlist : list.length ≤ 1099511627776 := hlist.lim
 have H := Hp.init hG
 refine calls_of_W (l := [.slice astore store.length kstore, .slice alist list.length klist]) func41 Z ntmps41 Z (q2 (aG Z (aG Z (q1 (mV Z (o_call call79 Z Z (l3Copy_c _ _ H.sub _ _ hstore ) ?_))))))
 rintro _ w1 ⟨G1, v1, _, g1, rfl, ⟨cs1, rfl, hchk1⟩, hp1, hq1, hs1⟩
 have H := H.growO g1 hp1 hq1 hs1; obtain ⟨av1, cv1, rfl⟩ := H.accShape (k := 0) rfl
 have hlist := hlist.up g1.le
 refine ⟨_, Z, ?_⟩
 refine aG Z (q3 (W_seq (q2 (aG Z (q3 (W_block ?_))))))
 refine W_lp (hf := (Sub.cons (t := 1) Z Sub.nil)) (J := fun M w m => ∃ (vo : Value) (no : Nat) (cso : List Value) (xso : List (BHeld)) (k : Nat) (G : PH), M = [(7, .int .i64 (k : Int)), (6, vo)] ∧ PLe G1 G ∧ Hp w0 G0 [] w G [acc 42 3 vo no cso] ∧ (Chk heldE 3 G cso xso ∧ no = xso.length ∧ k ≤ list.length ∧ xso.length = store.length ∧ Sp.foldB Sp.keepT (list.take k) (some store) = some xso) ∧ m = (list.length - k)) (h0 := ⟨_, _, _, store, 0, _, Z, PLe.refl _, H, ?inv, Z⟩) (round := ?round)
 case inv => exact ⟨hchk1,  by first | rfl | simp | (simp; omega) | omega, (by exact ⟨by omega, rfl, by simp [Sp.foldB]⟩)⟩
 case round =>
  rintro _ w2 _ ⟨vo, no, cso, xso, k, G2, rfl, hle2, H, hinv2, rfl⟩
  have hlist := hlist.up hle2
  obtain ⟨hchk2_0, hn2_0, hinv2⟩ := hinv2
  obtain ⟨av2_0, cv2_0, rfl⟩ := H.accShape (k := 0) rfl
  obtain ⟨hk, hxl, hf⟩ := hinv2
  refine W_seq (q2 (mV Z (mV Z (o_len_slice underlying24 Z Z (o_lss Z Z Z (q3 ?_))))))
  refine W_cond Z ?_ ?_
  ·intro hc3
   try simp only [nrm] at hc3
   refine W_skip (N_K (W_seq (W_block (q2 (aG Z (q3 (W_block ?_)))))))
   refine W_lp (hf := (Sub.cons (t := 1) Z (Sub.cons (t := 7) Z Sub.nil))) (J := fun M w m => ∃ (v : Value) (n : Nat) (cs : List Value) (xs : List (BHeld)) (j : Nat) (y : BItem) (G : PH), M = [(8, .int .i64 (j : Int)), (6, v)] ∧ PLe G2 G ∧ Hp w0 G0 [] w G [acc 42 3 v n cs] ∧ (Chk heldE 3 G cs xs ∧ n = xs.length ∧ list[k]? = some y ∧ j ≤ y.ids.length ∧ xs.length = store.length ∧ Sp.foldB Sp.StoreKeep (y.ids.take j) (some xso) = some xs) ∧ m = (y.ids.length - j)) (h0 := ⟨_, _, _, xso, 0, (list[k]'oM), _, Z, PLe.refl _, H, ?inv, Z⟩) (round := ?round)
   case inv => exact ⟨hchk2_0,  by first | rfl | simp | (simp; omega) | omega, (by exact ⟨by simp, by omega, hxl, by simp [Sp.foldB]⟩)⟩
   case round =>
    rintro _ w4 _ ⟨v, n, cs, xs, j, y, G4, rfl, hle4, H, hinv4, rfl⟩
    have hlist := hlist.up hle4
    have hle2 := hle2.trans hle4
    obtain ⟨hchk4_0, hn4_0, hinv4⟩ := hinv4
    obtain ⟨av4_0, cv4_0, rfl⟩ := H.accShape (k := 0) rfl
    obtain ⟨hy, hj, hxl2, hf2⟩ := hinv4
    refine W_seq (q2 (mV Z (mV Z (mV Z (o_index_P k hlist underlying24 sizeOf40 Z Z Z Z aN ?_))))); intro b5 o5 z5 q5 hz5 hE5 hrow5
    obtain ⟨a5, m5, c5, rfl, hi5, hr5⟩ := hE5; have hy_hi5 : _ ≤ 16777216 := hi5; have hn_hr5 := hr5.len; have hx_hr5 : _ ≤ 1099511627776 := hr5.lim
    have hzz5 : y = z5 := Option.some.inj (hy.symm.trans hz5)
    subst hzz5
    refine o_fieldAddr 2 runUnderlying40 Z sizeOf38 Z Z Z (o_load_P H isAgg38 Z Z (hrow5 2 _ Z) (o_len_slice underlying38 Z Z (o_lss Z Z Z (q3 ?_))))
    refine W_cond Z ?_ ?_
    ·intro hc6
     try simp only [nrm] at hc6
     refine W_skip (N_K (W_seq (W_block (q2 (mV Z (mV Z (mV Z (o_index_P k hlist underlying24 sizeOf40 Z Z Z Z aN ?_)))))))); intro b7 o7 z7 q7 hz7 hE7 hrow7
     obtain ⟨a7, m7, c7, rfl, hi7, hr7⟩ := hE7; have hy_hi7 : _ ≤ 16777216 := hi7; have hn_hr7 := hr7.len; have hx_hr7 : _ ≤ 1099511627776 := hr7.lim
     have hzz7 : y = z7 := Option.some.inj (hy.symm.trans hz7)
     subst hzz7
     refine o_fieldAddr 2 runUnderlying40 Z sizeOf38 Z Z Z (o_load_P H isAgg38 Z Z (hrow7 2 _ Z) (mV Z (o_index_P j hr7 underlying38 sizeOf3 Z Z Z Z aN ?_))); intro b8 o8 z8 q8 hz8 hE8 hrow8
     obtain ⟨rfl, hi8⟩ := hE8
     refine o_load_P H isAgg3 Z Z (hrow8 0 _ Z) ?_
     obtain ⟨G10, H, hsg10, hsr10⟩ := H.shut' (k := 0) rfl hchk4_0 aN aN
     have hle4 := hle4.trans hsg10
     refine o_call call80 Z Z (StoreKeep_c _ _ H.sub _ _ hsr10 _ ) ?_
     rintro _ w9 ⟨G9, _, _, g9, rfl, ⟨u9_0, rfl, ⟨cs9, rfl, hchk9⟩⟩, hp9, hq9, hs9⟩
     have H := H.growO g9 hp9 hq9 hs9; obtain ⟨av9, cv9, rfl⟩ := H.accShape (k := 0) rfl
     have hle4 := hle4.trans g9.le
     refine ⟨_, Z, ?_⟩
     refine mV Z (o_extract Z Z Z (o_extract Z Z Z (aG Z (aG Z (q3 (W_seq (q2 (mV Z (o_not Z Z (q3 ?_))))))))))
     refine W_cond Z ?_ ?_
     ·intro hc11
      try simp only [nrm] at hc11
      refine q2 (o_buildSlice H underlying23 sizeOf42 (fun w => ⟨_, zeroValue42 w, Z⟩) Z Z Z Z Z Z Z ?_); intro b12 w12 hb12 H
      have H := H.blkAcc 3 (k := 0) (n := 0) rfl rfl (by decide)
      refine aG Z (aG Z (q3 (W_ret (N_K_ret (N_B_ret (N_K_ret (N_LP_ret (N_B_ret (N_B_ret (N_K_ret (N_LP_ret (N_B_ret (N_K_ret (rt2 results41 Z Z ?_))))))))))))))
      have hN : Sp.l12Keep store list = none := by (have hno : Sp.StoreKeep xs z8 = none := by simpa using hc11); unfold Sp.l12Keep; exact Sp.foldB_stop hf hy (by unfold Sp.keepT; exact Sp.foldB_stop hf2 hz8 hno)
      exact H.retO (k := 0) rfl (by rw [hN]; exact ⟨_, rfl, AccOf.mk aN (Chk.nil (E := heldE) (sz := 3) (G := G9))⟩) (acc_nd _ _ _ _ _)
     intro hc11'
     try simp only [nrm] at hc11'
     obtain ⟨p, hsp⟩ := Option.isSome_iff_exists.1 hc11'
     rw [hsp] at H hchk9 ⊢
     dsimp only [Option.map, Option.getD] at H hchk9
     refine W_skip (N_K (W_region (mV Z (aG Z (R_nil (N_B (N_K (W_region (mV Z (o_add Z Z Z oO (aG Z (R_nil ?_))))))))))))
     refine N_lp (hJ := ⟨_, _, _, p, j + 1, y, _, Z, hle4, H, ?inv, Z⟩) (hm := ?hm)
     case hm => omega
     case inv => exact ⟨hchk9, aN, (by exact ⟨hy, by omega, by rw [Sp.keep_len hsp]; exact hxl2, Sp.foldB_succ hf2 hz8 hsp⟩)⟩
    intro hc6'
    try simp only [nrm] at hc6'
    refine W_exit (N_K_exit (N_LP_exit (N_B_same (N_B (N_K (W_region (mV Z (o_add Z Z Z oO (aG Z (R_nil ?_))))))))))
    refine N_lp (hJ := ⟨_, _, _, xs, k + 1, _, Z, hle2, H, ?inv, Z⟩) (hm := ?hm)
    case hm => omega
    case inv => exact ⟨hchk4_0, aN, (by exact ⟨by omega, hxl2, Sp.foldB_succ hf hy (by unfold Sp.keepT; exact Sp.foldB_all hf2 oM)⟩)⟩
  intro hc3'
  try simp only [nrm] at hc3'
  refine W_exit (N_K_exit (N_LP_exit (N_B_same (N_K (q2 (mV Z (aG Z (aG Z (q3 (W_ret (rt2 results41 Z Z ?_)))))))))))
  have hY : Sp.l12Keep store list = some xso := by unfold Sp.l12Keep; exact Sp.foldB_all hf oM
  exact H.retO (k := 0) rfl (by rw [hY]; exact ⟨_, rfl, AccOf.mk aN hchk2_0⟩) (acc_nd _ _ _ _ _)
end Go.Proofs.Tst

