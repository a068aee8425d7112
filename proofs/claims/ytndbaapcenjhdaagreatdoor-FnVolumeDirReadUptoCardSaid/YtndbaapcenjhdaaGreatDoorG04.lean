/- Part 4 of the proof: the program logic and plain functions. Conditions: none. -/
import Derived.Test.YtndbaapcenjhdaaGreatDoorProg
import Derived.Test.YtndbaapcenjhdaaGreatDoorG00
import Derived.Test.YtndbaapcenjhdaaGreatDoorG01
import Derived.Test.YtndbaapcenjhdaaGreatDoorG03
import Derived.Test.YtndbaapcenjhdaaGreatDoorG02
import Derived.Conc.MuLone
import Derived.KernelRfl
set_option linter.all false
set_option maxRecDepth 100000
set_option maxHeartbeats 1000000
namespace Go.Proofs.Tst
open Go Fw
theorem i_fileIds_c (w0 : World) (G0 : PH) (hG : PSub G0 w0) (mbs : Nat) (ess : Array MapEntry) (cks : Nat) (xss : List (Int × Value)) (Ls : List BHeld) (hbs : MapAt G0 mbs ess cks) (hms : MapIs (Value.int .i64) ess cks xss) (hSs : StR G0 xss Ls) (hVs : Sp.VH Ls) (vids : Value) (ids : List (Int)) (hids : RdI G0 vids ids)  :
  Calls Tryz.prog 128 #[.map (some mbs), vids] w0 (Rets w0 (.bool (Sp.l4Ids Ls ids))) := by
 obtain ⟨aids, kids, rfl⟩ := hids.shape
 have hlimids : ids.length ≤ 1099511627776 := hids.lim
 have H := Hp.init hG
 refine calls_of_W (l := [.map (some mbs), .slice aids ids.length kids]) Tryz.func128 rfl Tryz.ntmps128 rfl ?_
 refine q2 ?_
 refine o_assign rfl rfl ?_
 refine q3 ?_
 refine W_seq ?_
 refine q2 ?_
 refine o_move rfl rfl ?_
 refine o_len_slice Tryz.underlying27 rfl rfl ?_
 refine o_gtr rfl rfl rfl ?_
 refine q3 ?_
 refine W_cond rfl ?_ ?_
 ·intro hc1
  try simp only [nrm] at hc1
  refine q2 ?_
  refine o_assign rfl rfl ?_
  refine q3 ?_
  refine W_ret ?_
  refine N_K_ret ?_
  refine ret_gen (rs := [.tmp 4]) (vs := [_]) Tryz.results128 ⟨rfl, trivial⟩ ?_
  exact H.rets (congrArg Value.bool (by rw [Sp.ids_long (by omega)]))
 intro hc1'
 try simp only [nrm] at hc1'
 refine W_skip ?_
 refine N_K ?_
 refine W_seq ?_
 refine q2 ?_
 refine o_move rfl rfl ?_
 refine o_len_slice Tryz.underlying27 rfl rfl ?_
 refine o_move rfl rfl ?_
 refine q3 ?_
 refine W_block ?_
 refine W_loop (hf := (Sub.cons (t := 0) rfl (Sub.cons (t := 1) rfl (Sub.cons (t := 12) rfl (Sub.cons (t := 13) rfl Sub.nil))))) (J := fun M w m => ∃ (k : Nat) (G : PH), M = [(14, .int .i64 (k : Int))] ∧ PLe G0 G ∧ Hp w0 G0 [] w G [] ∧ (k ≤ ids.length ∧ ∀ j, j < k → Sp.idsOk Ls ids j = true) ∧ m = (ids.length - k)) (h0 := ⟨0, _, rfl, PLe.refl _, H, ?inv, rfl⟩) (hM := ?hM) (round := ?round)
 case hM => (repeat (first | exact Sub.nil | refine Sub.cons rfl ?_))
 case inv => exact ⟨by omega, fun j hj => by omega⟩
 case round =>
  rintro _ w2 _ ⟨k, G2, rfl, hle2, H, hinv2, rfl⟩
  have hSs := hSs.up hle2
  have hbs := hbs.up hle2
  have hids := hids.up hle2
  obtain ⟨hk, hall⟩ := hinv2
  refine q2 ?_
  refine o_lss rfl rfl rfl ?_
  refine q3 ?_
  refine W_seq ?_
  refine W_cond rfl ?_ ?_
  ·intro hc3
   try simp only [nrm] at hc3
   refine W_skip ?_
   refine N_K ?_
   refine W_seq ?_
   refine W_block ?_
   refine q2 ?_
   refine o_move rfl rfl ?_
   refine o_index_P k hids Tryz.underlying27 Tryz.sizeOf3 rfl rfl rfl rfl (by omega) ?_; intro b4 o4 z4 q4 hz4 hE4 hrow4
   obtain ⟨rfl, hi4⟩ := hE4
   refine o_load_P H Tryz.isAgg3 rfl rfl (hrow4 0 _ rfl) ?_
   refine o_assign rfl rfl ?_
   refine o_assign rfl rfl ?_
   refine q1 ?_
   refine o_move rfl rfl ?_
   refine o_move rfl rfl ?_
   refine o_lookS2 (hbs.at H.sub) hms hSs Tryz.underlying66 Tryz.underlying3 Tryz.zeroValue117 rfl rfl rfl ?_; intro q5 hE5
   obtain ⟨a5, m5, c5, rfl, hi5, hr5, hj5⟩ := hE5; have hn_hr5 := hr5.len; have hx_hr5 : _ ≤ 1099511627776 := hr5.lim
   refine o_move rfl rfl ?_
   refine o_extract rfl rfl rfl ?_
   refine o_extract rfl rfl rfl ?_
   refine o_alloc H Tryz.zeroValue117 rfl rfl ?_; intro b6 w6 hb6 H
   refine o_store_B 0 H Tryz.sizeOf117 rfl rfl rfl rfl rfl rfl rfl rfl ?_; intro w7 H
   refine o_assign rfl rfl ?_
   refine q1 ?_
   refine o_move rfl rfl ?_
   refine o_not rfl rfl ?_
   refine o_move rfl rfl ?_
   refine R_case (t := 27) rfl ?_ ?_
   ·intro hc8
    try simp only [nrm] at hc8
    refine R_pass rfl (yl_ne rfl rfl rfl) ?_
    refine R_pass rfl (yl_ne rfl rfl rfl) ?_
    refine R_pass rfl (yl_ne rfl rfl rfl) ?_
    refine R_pass rfl (yl_ne rfl rfl rfl) ?_
    refine R_pass rfl (yl_ne rfl rfl rfl) ?_
    refine R_pass rfl (yl_ne rfl rfl rfl) ?_
    refine R_pass rfl (yl_un rfl rfl) ?_
    refine R_pass rfl (yl_un rfl rfl) ?_
    refine R_pass rfl (yl_un rfl rfl) ?_
    refine R_pass rfl (yl_un rfl rfl) ?_
    refine R_pass rfl (yl_ne rfl rfl rfl) ?_
    refine o_pick_t rfl rfl rfl ?_
    refine q3 ?_
    refine W_true rfl ?_
    refine q2 ?_
    refine o_assign rfl rfl ?_
    refine q3 ?_
    refine W_ret ?_
    refine N_B_ret ?_
    refine N_K_ret ?_
    refine N_LP_ret ?_
    refine N_B_ret ?_
    refine N_K_ret ?_
    refine ret_gen (rs := [.tmp 4]) (vs := [_]) Tryz.results128 ⟨rfl, trivial⟩ ?_
    exact H.rets (congrArg Value.bool (by rw [Sp.ids_false (k := k) (by omega) (by exact Sp.idsOk_no hz4 (by simpa using hc8))]))
   intro hc8'
   try simp only [nrm] at hc8'
   have hfd : (Sp.atH Ls z4).isSome = true := by simpa using hc8'
   have hbl := Sp.bv_len (Sp.get_ok hVs hfd).2.1
   have hio := Sp.idsOk_get hz4 hfd
   refine R_guard (yl rfl rfl) ?_
   refine o_move rfl rfl ?_
   refine R_guard (yl rfl rfl) ?_
   refine o_move rfl rfl ?_
   refine R_guard (yl rfl rfl) ?_
   refine o_len_slice Tryz.underlying27 rfl rfl ?_
   refine R_guard (yl rfl rfl) ?_
   refine o_sub rfl rfl rfl ⟨by omega, by omega⟩ ?_
   refine R_guard (yl rfl rfl) ?_
   refine o_lss rfl rfl rfl ?_
   refine R_guard (yl rfl rfl) ?_
   refine o_move rfl rfl ?_
   refine R_case (t := 33) rfl ?_ ?_
   ·intro hc10
    try simp only [nrm] at hc10
    refine R_guard (yl rfl rfl) ?_
    refine o_fieldAddr 1 Tryz.runUnderlying117 rfl Tryz.sizeOf27 rfl rfl rfl ?_
    refine R_guard (yl rfl rfl) ?_
    refine o_load_B 0 H Tryz.isAgg27 rfl rfl rfl rfl ?_
    refine R_guard (yl rfl rfl) ?_
    refine o_len_slice Tryz.underlying27 rfl rfl ?_
    refine R_guard (yl rfl rfl) ?_
    refine o_neq rfl rfl rfl ?_
    refine R_guard (yl rfl rfl) ?_
    refine o_pick_t rfl rfl rfl ?_
    refine o_pick_f rfl rfl rfl ?_
    refine q3 ?_
    refine W_cond rfl ?_ ?_
    ·intro hc11
     try simp only [nrm] at hc11
     refine q2 ?_
     refine o_assign rfl rfl ?_
     refine q3 ?_
     refine W_ret ?_
     refine N_B_ret ?_
     refine N_K_ret ?_
     refine N_LP_ret ?_
     refine N_B_ret ?_
     refine N_K_ret ?_
     refine ret_gen (rs := [.tmp 4]) (vs := [_]) Tryz.results128 ⟨rfl, trivial⟩ ?_
     exact H.rets (congrArg Value.bool (by rw [Sp.ids_false (k := k) (by omega) (by rw [hio]; simp; omega)]))
    intro hc11'
    try simp only [nrm] at hc11'
    refine W_skip ?_
    refine N_B ?_
    refine N_K ?_
    refine W_region ?_
    refine o_add rfl rfl rfl ⟨by omega, by omega⟩ ?_
    refine o_move rfl rfl ?_
    refine R_nil ?_
    have H := H.del (k := 0) rfl
    refine N_LP (hJ := ⟨k + 1, _, rfl, hle2, H, ?inv, rfl⟩) (hM := ?hM) (hf := ?hf) (hm := ?hm)
    case hM => (repeat (first | exact Sub.nil | refine Sub.cons rfl ?_))
    case hf => (repeat (first | exact Sub.nil | refine Sub.cons rfl ?_))
    case hm => omega
    case inv => exact ⟨by omega, Sp.upto_succ hall (by rw [hio]; simp; omega)⟩
   intro hc10'
   try simp only [nrm] at hc10'
   refine R_pass rfl (yl_ne rfl rfl rfl) ?_
   refine R_pass rfl (yl_ne rfl rfl rfl) ?_
   refine R_pass rfl (yl_ne rfl rfl rfl) ?_
   refine R_pass rfl (yl_ne rfl rfl rfl) ?_
   refine R_guard (yl rfl rfl) ?_
   refine o_pick_f rfl rfl rfl ?_
   refine o_pick_f rfl rfl rfl ?_
   refine q3 ?_
   refine W_false rfl ?_
   refine W_skip ?_
   refine N_B ?_
   refine N_K ?_
   refine W_region ?_
   refine o_add rfl rfl rfl ⟨by omega, by omega⟩ ?_
   refine o_move rfl rfl ?_
   refine R_nil ?_
   have H := H.del (k := 0) rfl
   refine N_LP (hJ := ⟨k + 1, _, rfl, hle2, H, ?inv, rfl⟩) (hM := ?hM) (hf := ?hf) (hm := ?hm)
   case hM => (repeat (first | exact Sub.nil | refine Sub.cons rfl ?_))
   case hf => (repeat (first | exact Sub.nil | refine Sub.cons rfl ?_))
   case hm => omega
   case inv => exact ⟨by omega, Sp.upto_succ hall (by rw [hio]; simp; omega)⟩
  intro hc3'
  try simp only [nrm] at hc3'
  refine W_exit ?_
  refine N_K_exit ?_
  refine N_LP_exit ?_
  refine N_B_same ?_
  refine N_K ?_
  refine q2 ?_
  refine o_assign rfl rfl ?_
  refine q3 ?_
  refine W_ret ?_
  refine ret_gen (rs := [.tmp 4]) (vs := [_]) Tryz.results128 ⟨rfl, trivial⟩ ?_
  exact H.rets (congrArg Value.bool (by rw [Sp.ids_true (fun j hj => hall j (by omega)) (by omega)]))
theorem i_loadFile_c (w0 : World) (G0 : PH) (hG : PSub G0 w0) (mbs : Nat) (ess : Array MapEntry) (cks : Nat) (xss : List (Int × Value)) (Ls : List BHeld) (hbs : MapAt G0 mbs ess cks) (hms : MapIs (Value.int .i64) ess cks xss) (hSs : StR G0 xss Ls) (hVs : Sp.VH Ls) (vids : Value) (ids : List (Int)) (hids : RdI G0 vids ids)  :
  Calls Tryz.prog 93 #[.map (some mbs), vids] w0 (RetN w0 G0 (fun v Bs => ∃ (u : Value) (c : List Value) (xs : List Int), v = .tuple #[u, .bool (Sp.l4Ids Ls ids)] ∧ Bs = [acc 3 1 u xs.length c] ∧ Chk intE 1 (fun _ => none) c xs ∧ xs.length ≤ 1000 ∧ (Sp.l4Ids Ls ids = true → xs = Sp.load Ls ids))) := by
 obtain ⟨aids, kids, rfl⟩ := hids.shape
 have hlimids : ids.length ≤ 1099511627776 := hids.lim
 have H := Hp.init hG
 refine calls_of_W (l := [.map (some mbs), .slice aids ids.length kids]) Tryz.func93 rfl Tryz.ntmps93 rfl ?_
 refine q2 ?_
 refine o_assign rfl rfl ?_
 refine o_assign rfl rfl ?_
 refine q3 ?_
 refine W_seq ?_
 refine q2 ?_
 refine o_move rfl rfl ?_
 refine o_move rfl rfl ?_
 refine o_call Tryz.call128 rfl rfl (i_fileIds_c _ _ H.sub _ _ _ _ _ hbs hms hSs hVs _ _ hids ) ?_
 rintro _ w1 ⟨rfl, ew1⟩; have H := H.step ew1; refine ⟨_, rfl, ?_⟩
 refine o_not rfl rfl ?_
 refine q3 ?_
 refine W_cond rfl ?_ ?_
 ·intro hc2
  try simp only [nrm] at hc2
  refine q2 ?_
  refine o_assign rfl rfl ?_
  refine o_assign rfl rfl ?_
  refine q3 ?_
  refine W_ret ?_
  refine N_K_ret ?_
  refine ret_gen (rs := [.tmp 4, .tmp 5]) (vs := [_, _]) Tryz.results93 ⟨rfl, rfl, trivial⟩ ?_
  have H := H.addNil 3 1
  have H := H.forget hG (by simp)
  exact ⟨_, _, rfl, H, _, _, _, congrArg (fun b => Value.tuple #[_, Value.bool b]) (show _ = Sp.l4Ids Ls ids by rw [hc2]), acc_1 (by first | rfl | assumption | (simp; done) | (simp; omega) | omega), chkI ((Chk.nil (E := intE) (sz := 1) (G := G0))), by simp, fun h => by rw [hc2] at h; cases h⟩
 intro hc2'
 try simp only [nrm] at hc2'
 have hi4 := Sp.ids_le (by simpa using hc2')
 refine W_skip ?_
 refine N_K ?_
 refine q2 ?_
 refine o_assign rfl rfl ?_
 refine q3 ?_
 refine W_seq ?_
 refine q2 ?_
 refine o_move rfl rfl ?_
 refine o_len_slice Tryz.underlying27 rfl rfl ?_
 refine o_move rfl rfl ?_
 refine q3 ?_
 refine W_block ?_
 have H := H.addNil 3 1
 refine W_loop (hf := (Sub.cons (t := 0) rfl (Sub.cons (t := 4) rfl (Sub.cons (t := 5) rfl (Sub.cons (t := 13) rfl (Sub.cons (t := 14) rfl Sub.nil)))))) (J := fun M w m => ∃ (v : Value) (n : Nat) (cs : List Value) (xs : List (Int)) (k : Nat) (G : PH), M = [(15, .int .i64 (k : Int)), (6, v)] ∧ PLe G0 G ∧ Hp w0 G0 [] w G [acc 3 1 v n cs] ∧ (Chk intE 1 G cs xs ∧ n = xs.length ∧ k ≤ ids.length ∧ xs = Sp.load Ls (ids.take k) ∧ xs.length ≤ 8 * k) ∧ m = (ids.length - k)) (h0 := ⟨_, _, _, [], 0, _, rfl, PLe.refl _, H, ?inv, rfl⟩) (hM := ?hM) (round := ?round)
 case hM => (repeat (first | exact Sub.nil | refine Sub.cons rfl ?_))
 case inv => exact ⟨(Chk.nil (E := intE) (sz := 1) (G := G0)),  by first | rfl | simp | (simp; omega) | omega, (by simp [Sp.load])⟩
 case round =>
  rintro _ w4 _ ⟨v, n, cs, xs, k, G4, rfl, hle4, H, hinv4, rfl⟩
  have hSs := hSs.up hle4
  have hbs := hbs.up hle4
  have hids := hids.up hle4
  obtain ⟨hchk4_0, hn4_0, hinv4⟩ := hinv4
  obtain ⟨av4_0, cv4_0, rfl⟩ := H.accShape (k := 0) rfl
  obtain ⟨hk, hxs, hxl⟩ := hinv4
  refine q2 ?_
  refine o_lss rfl rfl rfl ?_
  refine q3 ?_
  refine W_seq ?_
  refine W_cond rfl ?_ ?_
  ·intro hc5
   try simp only [nrm] at hc5
   refine W_skip ?_
   refine N_K ?_
   refine W_seq ?_
   refine W_block ?_
   refine q2 ?_
   refine o_index_P k hids Tryz.underlying27 Tryz.sizeOf3 rfl rfl rfl rfl (by omega) ?_; intro b6 o6 z6 q6 hz6 hE6 hrow6
   obtain ⟨rfl, hi6⟩ := hE6
   refine o_load_P H Tryz.isAgg3 rfl rfl (hrow6 0 _ rfl) ?_
   refine o_assign rfl rfl ?_
   refine q3 ?_
   refine W_region ?_
   refine o_move rfl rfl ?_
   refine o_move rfl rfl ?_
   refine o_move rfl rfl ?_
   refine o_lookS (hbs.at H.sub) hms hSs Tryz.underlying66 Tryz.underlying3 Tryz.zeroValue117 rfl rfl rfl ?_; intro q7 hE7
   obtain ⟨a7, m7, c7, rfl, hi7, hr7, hj7⟩ := hE7; have hn_hr7 := hr7.len; have hx_hr7 : _ ≤ 1099511627776 := hr7.lim
   have hgb := Sp.get_len hVs z6
   refine o_field 1 Tryz.runUnderlying117 rfl rfl rfl Tryz.isAgg27 rfl rfl rfl ?_
   refine o_append_P 0 H hr7 (by intro z cs hz u hu; obtain ⟨rfl, _⟩ := hz; simp at hu; subst hu; rfl) (sz := 1) (bytes := 8) Tryz.underlying27 Tryz.typeInfo3 ⟨_, rfl, rfl⟩ rfl rfl rfl rfl rfl rfl rfl (by omega) rfl ?_; intro v8 w8 css8 hcl8 hcs8 H
   have hchk8 := hchk4_0.app (show Chk _ _ _ _ _ from ⟨css8, rfl, hcl8, hcs8⟩)
   obtain ⟨av8, cv8, rfl⟩ := H.accShape (k := 0) rfl
   refine o_assign rfl rfl ?_
   refine R_nil ?_
   refine N_B ?_
   refine N_K ?_
   refine W_region ?_
   refine o_add rfl rfl rfl ⟨by omega, by omega⟩ ?_
   refine o_move rfl rfl ?_
   refine R_nil ?_
   refine N_LP (hJ := ⟨_, _, _, (xs ++ (getH Ls z6).bytes), k + 1, _, rfl, hle4, H, ?inv, rfl⟩) (hM := ?hM) (hf := ?hf) (hm := ?hm)
   case hM => (repeat (first | exact Sub.nil | refine Sub.cons rfl ?_))
   case hf => (repeat (first | exact Sub.nil | refine Sub.cons rfl ?_))
   case hm => omega
   case inv => exact ⟨hchk8, (by first | assumption | (simp; omega) | omega), (by exact ⟨by omega, by rw [Sp.load_succ hz6, hxs], by have := Sp.load_len hVs (ids.take (k + 1)); rw [Sp.load_succ hz6, ← hxs] at this; simp at this ⊢; omega⟩)⟩
  intro hc5'
  try simp only [nrm] at hc5'
  refine W_exit ?_
  refine N_K_exit ?_
  refine N_LP_exit ?_
  refine N_B_same ?_
  refine N_K ?_
  refine q2 ?_
  refine o_move rfl rfl ?_
  refine o_assign rfl rfl ?_
  refine o_assign rfl rfl ?_
  refine q3 ?_
  refine W_ret ?_
  refine ret_gen (rs := [.tmp 4, .tmp 5]) (vs := [_, _]) Tryz.results93 ⟨rfl, rfl, trivial⟩ ?_
  have H := H.forget hG (by simp)
  exact ⟨_, _, rfl, H, _, _, _, congrArg (fun b => Value.tuple #[_, Value.bool b]) (show _ = Sp.l4Ids Ls ids by rw [hc2']), acc_1 (by first | rfl | assumption | (simp; done) | (simp; omega) | omega), chkI (hchk4_0), by omega, fun _ => by rw [hxs, List.take_of_length_le (by omega)]⟩
theorem i_freeFile_c (w0 : World) (G0 : PH) (hG : PSub G0 w0) (mbs : Nat) (ess : Array MapEntry) (cks : Nat) (xss : List (Int × Value)) (Ls : List BHeld) (hms : MapIs (Value.int .i64) ess cks xss) (hSs : StR G0 xss Ls) (hVs : Sp.VH Ls) (vids : Value) (ids : List (Int)) (hids : RdI G0 vids ids) (hLent : Lent w0 G0 [blk mbs (.map ess cks)])  :
  Calls Tryz.prog 80 #[.map (some mbs), vids] w0 (RetM w0 G0 [mbs] (fun G' v Bs => ∃ (es' : Array MapEntry) (ck' : Nat) (xs' : List (Int × Value)) (L' : List BHeld), v = .bool (Sp.FileFree Ls ids).isSome ∧ Bs = [blk mbs (.map es' ck')] ∧ MapIs (Value.int .i64) es' ck' xs' ∧ StR G' xs' L' ∧ Sp.VH L' ∧ ∀ l, Sp.FileFree Ls ids = some l → L' = l)) := by
 obtain ⟨aids, kids, rfl⟩ := hids.shape
 have hlimids : ids.length ≤ 1099511627776 := hids.lim
 have H : Hp w0 G0 [mbs] w0 G0 [blk mbs (.map ess cks)] := hLent.hp
 refine calls_of_W (l := [.map (some mbs), .slice aids ids.length kids]) Tryz.func80 rfl Tryz.ntmps80 rfl ?_
 refine q2 ?_
 refine o_assign rfl rfl ?_
 refine q3 ?_
 refine W_seq ?_
 refine q2 ?_
 refine o_move rfl rfl ?_
 refine o_move rfl rfl ?_
 refine o_call Tryz.call128 rfl rfl (i_fileIds_c _ _ (H.lendSubL [0]) _ _ _ _ _ (H.lendPredL (k := 0) (ks := [0]) rfl rfl) hms (hSs.up (PPlus.le _ _ _)) hVs _ _ (hids.up (PPlus.le _ _ _)) ) ?_
 rintro _ w1 ⟨rfl, ew1⟩; have H := H.step ew1; refine ⟨_, rfl, ?_⟩
 refine o_not rfl rfl ?_
 refine q3 ?_
 refine W_cond rfl ?_ ?_
 ·intro hc2
  try simp only [nrm] at hc2
  refine q2 ?_
  refine o_assign rfl rfl ?_
  refine q3 ?_
  refine W_ret ?_
  refine N_K_ret ?_
  refine ret_gen (rs := [.tmp 4]) (vs := [_]) Tryz.results80 ⟨rfl, trivial⟩ ?_
  have hno : Sp.FileFree Ls ids = none := by simp [Sp.FileFree, hc2]
  exact H.retM ⟨_, _, _, _, congrArg Value.bool (by rw [hno]; rfl), rfl, hms, hSs, hVs, fun l hl => by rw [hno] at hl; cases hl⟩
 intro hc2'
 try simp only [nrm] at hc2'
 refine W_skip ?_
 refine N_K ?_
 refine W_seq ?_
 refine q2 ?_
 refine o_move rfl rfl ?_
 refine o_len_slice Tryz.underlying27 rfl rfl ?_
 refine o_move rfl rfl ?_
 refine q3 ?_
 refine W_block ?_
 refine W_loop (hf := (Sub.cons (t := 0) rfl (Sub.cons (t := 11) rfl (Sub.cons (t := 12) rfl Sub.nil)))) (J := fun M w m => ∃ (esm0 : Array MapEntry) (ckm0 : Nat) (xsm0 : List (Int × Value)) (Lm0 : List BHeld) (k : Nat) (G : PH), M = [(13, .int .i64 (k : Int))] ∧ PLe G0 G ∧ Hp w0 G0 [mbs] w G [blk mbs (.map esm0 ckm0)] ∧ (MapIs (Value.int .i64) esm0 ckm0 xsm0 ∧ StR G xsm0 Lm0 ∧ Sp.VH Lm0 ∧ k ≤ ids.length ∧ Sp.foldB Sp.StoreDrop (ids.take k) (some Ls) = some Lm0) ∧ m = (ids.length - k)) (h0 := ⟨_, _, xss, Ls, 0, _, rfl, PLe.refl _, H, ?inv, rfl⟩) (hM := ?hM) (round := ?round)
 case hM => (repeat (first | exact Sub.nil | refine Sub.cons rfl ?_))
 case inv => exact ⟨hms, hSs, hVs, (by simp [Sp.foldB])⟩
 case round =>
  rintro _ w3 _ ⟨esm0, ckm0, xsm0, Lm0, k, G3, rfl, hle3, H, hinv3, rfl⟩
  have hSs := hSs.up hle3
  have hids := hids.up hle3
  obtain ⟨hm3_m0, hS3_m0, hV3_m0, hinv3⟩ := hinv3
  obtain ⟨hk, hf⟩ := hinv3
  refine q2 ?_
  refine o_lss rfl rfl rfl ?_
  refine q3 ?_
  refine W_seq ?_
  refine W_cond rfl ?_ ?_
  ·intro hc4
   try simp only [nrm] at hc4
   refine W_skip ?_
   refine N_K ?_
   refine W_seq ?_
   refine W_block ?_
   refine q2 ?_
   refine o_index_P k hids Tryz.underlying27 Tryz.sizeOf3 rfl rfl rfl rfl (by omega) ?_; intro b5 o5 z5 q5 hz5 hE5 hrow5
   obtain ⟨rfl, hi5⟩ := hE5
   refine o_load_P H Tryz.isAgg3 rfl rfl (hrow5 0 _ rfl) ?_
   refine o_assign rfl rfl ?_
   refine q1 ?_
   refine o_move rfl rfl ?_
   refine o_move rfl rfl ?_
   refine o_call Tryz.call134 rfl rfl (i_drop_c _ _ H.sub _ _ _ _ _ hm3_m0 hS3_m0 hV3_m0 _ H.lent1 ) ?_
   rintro _ w6 ⟨G6, _, _, rfl, H6', ⟨es6, ck6, xs6, L6, rfl, rfl, hm6, hS6, hV6, hL6⟩⟩
   have hSs := hSs.up H6'.le
   have hids := hids.up H6'.le
   have hS3_m0 := hS3_m0.up H6'.le
   have hrow5 := hrow5.up H6'.le
   have hle3 := hle3.trans H6'.le
   have H := H.borrow1 H6'
   refine ⟨_, rfl, ?_⟩
   refine o_not rfl rfl ?_
   refine q3 ?_
   refine W_cond rfl ?_ ?_
   ·intro hc7
    try simp only [nrm] at hc7
    refine q2 ?_
    refine o_assign rfl rfl ?_
    refine q3 ?_
    refine W_ret ?_
    refine N_B_ret ?_
    refine N_K_ret ?_
    refine N_LP_ret ?_
    refine N_B_ret ?_
    refine N_K_ret ?_
    refine ret_gen (rs := [.tmp 4]) (vs := [_]) Tryz.results80 ⟨rfl, trivial⟩ ?_
    have hno : Sp.FileFree Ls ids = none := by (have hno : Sp.StoreDrop Lm0 z5 = none := by simpa using hc7); simp only [Sp.FileFree, Sp.valid_iff.2 hVs, hc2', Bool.and_self, if_true]; exact Sp.foldB_stop hf hz5 hno
    exact H.retM ⟨_, _, _, _, congrArg Value.bool (by rw [hno]; rfl), rfl, hm6, hS6, hV6, fun l hl => by rw [hno] at hl; cases hl⟩
   intro hc7'
   try simp only [nrm] at hc7'
   obtain ⟨p, hsp⟩ := Option.isSome_iff_exists.1 hc7'
   have hLp : L6 = p := by rw [hL6, hsp]; rfl
   subst hLp
   refine W_skip ?_
   refine N_B ?_
   refine N_K ?_
   refine W_region ?_
   refine o_add rfl rfl rfl ⟨by omega, by omega⟩ ?_
   refine o_move rfl rfl ?_
   refine R_nil ?_
   refine N_LP (hJ := ⟨_, _, xs6, L6, k + 1, _, rfl, hle3, H, ?inv, rfl⟩) (hM := ?hM) (hf := ?hf) (hm := ?hm)
   case hM => (repeat (first | exact Sub.nil | refine Sub.cons rfl ?_))
   case hf => (repeat (first | exact Sub.nil | refine Sub.cons rfl ?_))
   case hm => omega
   case inv => exact ⟨hm6, hS6, hV6, (by exact ⟨by omega, Sp.foldB_succ hf hz5 hsp⟩)⟩
  intro hc4'
  try simp only [nrm] at hc4'
  refine W_exit ?_
  refine N_K_exit ?_
  refine N_LP_exit ?_
  refine N_B_same ?_
  refine N_K ?_
  refine q2 ?_
  refine o_assign rfl rfl ?_
  refine q3 ?_
  refine W_ret ?_
  refine ret_gen (rs := [.tmp 4]) (vs := [_]) Tryz.results80 ⟨rfl, trivial⟩ ?_
  have hyes : Sp.FileFree Ls ids = some Lm0 := by simp only [Sp.FileFree, Sp.valid_iff.2 hVs, hc2', Bool.and_self, if_true]; exact Sp.foldB_all hf (by omega)
  exact H.retM ⟨_, _, _, _, congrArg Value.bool (by rw [hyes]; rfl), rfl, hm3_m0, hS3_m0, hV3_m0, fun l hl => by rw [hyes] at hl; cases hl; rfl⟩
end Go.Proofs.Tst

namespace Go.Proofs.Tst
open Go Fw
theorem i_next_c (w0 : World) (G0 : PH) (hG : PSub G0 w0) (rb : Nat) (ab : Option Addr) (kb : Nat) (bs : List Int) (p : Nat) (hbs : RdI G0 (.slice ab bs.length kb) bs) (hp : p ≤ bs.length) (hbl : bs.length ≤ 1000000) (hLent : Lent w0 G0 [blk rb (cl [.slice ab bs.length kb, .int .i64 (p : Int)] 179)])  :
  Calls Tryz.prog 130 #[.pointer (some ⟨rb, 0, none⟩)] w0 (RetM w0 G0 [rb] (fun G' v Bs => ∃ (u : Value) (c : List Value) (p' : Nat), v = u ∧ Bs = [acc 3 1 u (Sp.nextC bs p).length c, blk rb (cl [.slice ab bs.length kb, .int .i64 (p' : Int)] 179)] ∧ p' = min (p + 8) bs.length ∧ Chk intE 1 G' c (Sp.nextC bs p))) := by
 have H : Hp w0 G0 [rb] w0 G0 [blk rb (cl [.slice ab bs.length kb, .int .i64 (p : Int)] 179)] := hLent.hp
 refine calls_of_W (l := [.pointer (some ⟨rb, 0, none⟩)]) Tryz.func130 rfl Tryz.ntmps130 rfl ?_
 refine q2 ?_
 refine o_assign rfl rfl ?_
 refine q3 ?_
 refine W_seq ?_
 refine W_drawK [0] 12 H (by kernel_rfl) rfl ?_; intro w1 H; have hd1 := PLe.refl G0
 refine RD_t 0 rfl (by kernel_rfl) rfl (fun _ hK => v_move rfl) ?_
 refine RD_t 1 rfl (by kernel_rfl) rfl (fun _ hK => v_nilCheck rfl) ?_
 refine RD_t 2 rfl (by kernel_rfl) rfl (fun _ hK => v_fieldAddr 1 Tryz.runUnderlying179 rfl Tryz.sizeOf3 rfl rfl) ?_
 refine RD_t 3 rfl (by kernel_rfl) rfl (fun _ hK => v_load_B 0 hK Tryz.isAgg3 rfl rfl rfl) ?_
 refine RD_t 4 rfl (by kernel_rfl) rfl (fun _ hK => v_add rfl rfl ⟨by omega, by omega⟩) ?_
 refine RD_t 5 rfl (by kernel_rfl) rfl (fun _ hK => v_move rfl) ?_
 refine RD_t 6 rfl (by kernel_rfl) rfl (fun _ hK => v_nilCheck rfl) ?_
 refine RD_t 7 rfl (by kernel_rfl) rfl (fun _ hK => v_fieldAddr 0 Tryz.runUnderlying179 rfl Tryz.sizeOf27 rfl rfl) ?_
 refine RD_t 8 rfl (by kernel_rfl) rfl (fun _ hK => v_load_B 0 hK Tryz.isAgg27 rfl rfl rfl) ?_
 refine RD_t 9 rfl (by kernel_rfl) rfl (fun _ hK => v_len_slice Tryz.underlying27 rfl) ?_
 refine RD_t 10 rfl (by kernel_rfl) rfl (fun _ hK => v_min rfl rfl) ?_
 refine RD_t 11 rfl (by kernel_rfl) rfl (fun _ hK => v_assign rfl) ?_
 refine RD_done (by kernel_rfl) ?_
 refine N_K ?_
 refine W_seq ?_
 refine W_drawK [0] 12 H (by kernel_rfl) rfl ?_; intro w3 H; have hd3 := PLe.refl G0
 refine RD_t 0 rfl (by kernel_rfl) rfl (fun _ hK => v_move rfl) ?_
 refine RD_t 1 rfl (by kernel_rfl) rfl (fun _ hK => v_nilCheck rfl) ?_
 refine RD_t 2 rfl (by kernel_rfl) rfl (fun _ hK => v_fieldAddr 0 Tryz.runUnderlying179 rfl Tryz.sizeOf27 rfl rfl) ?_
 refine RD_t 3 rfl (by kernel_rfl) rfl (fun _ hK => v_load_B 0 hK Tryz.isAgg27 rfl rfl rfl) ?_
 refine RD_t 4 rfl (by kernel_rfl) rfl (fun _ hK => v_move rfl) ?_
 refine RD_t 5 rfl (by kernel_rfl) rfl (fun _ hK => v_nilCheck rfl) ?_
 refine RD_t 6 rfl (by kernel_rfl) rfl (fun _ hK => v_fieldAddr 1 Tryz.runUnderlying179 rfl Tryz.sizeOf3 rfl rfl) ?_
 refine RD_t 7 rfl (by kernel_rfl) rfl (fun _ hK => v_load_B 0 hK Tryz.isAgg3 rfl rfl rfl) ?_
 refine RD_t 8 rfl (by kernel_rfl) rfl (fun _ hK => v_move rfl) ?_
 have hcap4 := hbs.cap; try simp only [List.length_set, List.length_append, List.length_take, List.length_drop, List.length_replicate] at hcap4
 have hsl4 := hbs.part (i := p) (j := (min (p + 8) bs.length)) (by omega) (by omega)
 have hsn1 := hsl4.len
 refine RD_t 9 rfl (by kernel_rfl) rfl (fun _ hK => v_slice (i := p) (j := (min (p + 8) bs.length)) Tryz.underlying27 Tryz.sizeOf3 rfl rfl rfl (by omega) (by omega) (by first | omega | (simp; omega)) (by first | omega | (simp; omega))) ?_
 refine RD_run [10] (by kernel_rfl) rfl (RDs.cons rfl ?_ RDs.nil)
 have H := H.addNil 3 1
 refine o_append_P 0 H hsl4 (by intro z cs hz u hu; obtain ⟨rfl, _⟩ := hz; simp at hu; subst hu; rfl) (sz := 1) (bytes := 8) Tryz.underlying27 Tryz.typeInfo3 ⟨_, rfl, rfl⟩ rfl rfl rfl rfl rfl rfl rfl (by omega) rfl ?_; intro v5 w5 css5 hcl5 hcs5 H
 have hchk5 : Chk intE 1 G0 ([] ++ css5.flatten) _ := ⟨css5, rfl, hcl5, hcs5⟩
 obtain ⟨av5, cv5, rfl⟩ := H.accShape (k := 0) rfl
 refine R_nil ?_
 refine N_DK (Kn.of' H hd3 (SubL.cons 1 rfl SubL.nil)) ?_
 refine RD_t 11 rfl (by kernel_rfl) rfl (fun _ hK => v_assign rfl) ?_
 refine RD_done (by kernel_rfl) ?_
 refine N_K ?_
 refine q2 ?_
 refine o_move rfl rfl ?_
 refine o_move rfl rfl ?_
 refine o_nilCheck rfl rfl ?_
 refine o_fieldAddr 1 Tryz.runUnderlying179 rfl Tryz.sizeOf3 rfl rfl rfl ?_
 refine o_store_B 1 H Tryz.sizeOf3 rfl rfl rfl rfl rfl rfl rfl rfl ?_; intro w6 H
 refine q1 ?_
 refine o_move rfl rfl ?_
 refine o_assign rfl rfl ?_
 refine q3 ?_
 refine W_ret ?_
 refine ret_gen (rs := [.tmp 2]) (vs := [_]) Tryz.results130 ⟨rfl, trivial⟩ ?_
 have hcx : (Sp.nextC bs p).length = min (p + 8) bs.length - p := by unfold Sp.nextC; simp; omega
 have hpm : min ((p : Int) + 8) (bs.length : Int) = ((min (p + 8) bs.length : Nat) : Int) := by omega
 exact H.retM ⟨_, _, min (p + 8) bs.length, rfl, by rw [hcx, hpm]; simp only [Nat.zero_add]; rfl, rfl, hchk5⟩
theorem i_storeFile_c (w0 : World) (G0 : PH) (hG : PSub G0 w0) (mbs : Nat) (ess : Array MapEntry) (cks : Nat) (xss : List (Int × Value)) (Ls : List BHeld) (hms : MapIs (Value.int .i64) ess cks xss) (hSs : StR G0 xss Ls) (hVs : Sp.VH Ls) (vbytes : Value) (bytes : List (Int)) (hbytes : RdI G0 vbytes bytes) (hLent : Lent w0 G0 [blk mbs (.map ess cks)]) (hB : Sp.FileValid bytes = true) :
  Calls Tryz.prog 78 #[.map (some mbs), vbytes] w0 (RetM w0 G0 [mbs] (fun G' v Bs => ∃ (es' : Array MapEntry) (ck' : Nat) (xs' : List (Int × Value)) (L' : List BHeld) (u : Value) (c : List Value) (ids : List Int), v = .tuple #[u, .bool (Sp.FileStore Ls bytes).isSome] ∧ Bs = [acc 3 1 u ids.length c, blk mbs (.map es' ck')] ∧ MapIs (Value.int .i64) es' ck' xs' ∧ StR G' xs' L' ∧ Sp.VH L' ∧ (∀ r, Sp.FileStore Ls bytes = some r → r = (L', ids)) ∧ Chk intE 1 G' c ids ∧ ids.length ≤ 1000)) := by
 obtain ⟨abytes, kbytes, rfl⟩ := hbytes.shape
 have hlimbytes : bytes.length ≤ 1099511627776 := hbytes.lim
 have hBl : bytes.length ≤ 32 := by simp [Sp.FileValid] at hB; omega
 have H : Hp w0 G0 [mbs] w0 G0 [blk mbs (.map ess cks)] := hLent.hp
 refine calls_of_W (l := [.map (some mbs), .slice abytes bytes.length kbytes]) Tryz.func78 rfl Tryz.ntmps78 rfl ?_
 refine q2 ?_
 refine o_assign rfl rfl ?_
 refine o_assign rfl rfl ?_
 refine q1 ?_
 refine o_assign rfl rfl ?_
 refine q1 ?_
 refine o_move rfl rfl ?_
 refine o_build bf179 rfl rfl rfl ?_
 refine o_box H rfl rfl rfl ?_; intro b1 w1 hb1 H
 refine o_assign rfl rfl ?_
 refine q3 ?_
 refine W_seq ?_
 refine q2 ?_
 refine o_move rfl rfl ?_
 refine o_call Tryz.call130 rfl rfl (i_next_c _ _ H.sub _ _ _ _ 0 hbytes (by omega) (by omega) H.lent1 ) ?_
 rintro _ w2 ⟨G2, _, _, rfl, H2', ⟨u2, c2, p2, rfl, rfl, hp2, hchk2⟩⟩
 have hSs := hSs.up H2'.le
 have hbytes := hbytes.up H2'.le
 have H := H.borrow1 H2'
 obtain ⟨avr2, cvr2, rfl⟩ := H.accShape (k := 0) rfl
 refine ⟨_, rfl, ?_⟩
 refine o_assign rfl rfl ?_
 refine q3 ?_
 refine W_block ?_
 have H := H.addNil 3 1
 refine W_loop (hf := (Sub.cons (t := 0) rfl (Sub.cons (t := 7) rfl Sub.nil))) (J := fun M w m => ∃ (esm0 : Array MapEntry) (ckm0 : Nat) (xsm0 : List (Int × Value)) (Lm0 : List BHeld) (v : Value) (n : Nat) (cs : List Value) (xs : List (Int)) (v1 : Value) (n1 : Nat) (cs1 : List Value) (xs1 : List (Int)) (k p : Nat) (G : PH), M = [(6, v), (8, v1)] ∧ PLe G2 G ∧ Hp w0 G0 [mbs] w G [acc 3 1 v n cs, acc 3 1 v1 n1 cs1, blk b1 (cl [.slice abytes bytes.length kbytes, .int .i64 (p : Int)] 179), blk mbs (.map esm0 ckm0)] ∧ (MapIs (Value.int .i64) esm0 ckm0 xsm0 ∧ StR G xsm0 Lm0 ∧ Sp.VH Lm0 ∧ Chk intE 1 G cs xs ∧ n = xs.length ∧ Chk intE 1 G cs1 xs1 ∧ n1 = xs1.length ∧ xs1 = Sp.chunk bytes k ∧ p = min (8 * k + 8) bytes.length ∧ xs.length ≤ k ∧ k ≤ 100 ∧ Sp.foldB Sp.put1 ((Sp.l4Cut bytes).take k) (some (Ls, [])) = some (Lm0, xs)) ∧ m = (100 - k)) (h0 := ⟨_, _, xss, Ls, _, _, _, [], _, _, _, (Sp.nextC bytes 0), 0, _, _, rfl, PLe.refl _, H, ?inv, rfl⟩) (hM := ?hM) (round := ?round)
 case hM => (repeat (first | exact Sub.nil | refine Sub.cons rfl ?_))
 case inv => exact ⟨hms, hSs, hVs, (by exact ⟨(Chk.nil (E := intE) (sz := 1) (G := G2)), (by first | rfl | simp | (simp; omega) | omega), hchk2,  by first | rfl | simp | (simp; omega) | omega, (by exact ⟨Sp.next_zero _, by omega, by simp, by omega, by simp [Sp.foldB]⟩)⟩)⟩
 case round =>
  rintro _ w4 _ ⟨esm0, ckm0, xsm0, Lm0, v, n, cs, xs, v1, n1, cs1, xs1, k, p, G4, rfl, hle4, H, hinv4, rfl⟩
  have hSs := hSs.up hle4
  have hbytes := hbytes.up hle4
  have hchk2 := hchk2.up hle4
  obtain ⟨hm4_m0, hS4_m0, hV4_m0, hinv4⟩ := hinv4
  obtain ⟨hchk4_0, hn4_0, hinv4⟩ := hinv4
  obtain ⟨av4_0, cv4_0, rfl⟩ := H.accShape (k := 0) rfl
  obtain ⟨hchk4_1, hn4_1, hinv4⟩ := hinv4
  obtain ⟨av4_1, cv4_1, rfl⟩ := H.accShape (k := 1) rfl
  obtain ⟨rfl, hpk, hxl, hk9, hf⟩ := hinv4; have hcl := Sp.chunk_len bytes k
  refine W_seq ?_
  refine q2 ?_
  refine o_move rfl rfl ?_
  refine o_len_slice Tryz.underlying27 rfl rfl ?_
  refine o_gtr rfl rfl rfl ?_
  refine q3 ?_
  refine W_cond rfl ?_ ?_
  ·intro hc5
   try simp only [nrm] at hc5
   refine W_skip ?_
   refine N_K ?_
   refine W_seq ?_
   refine W_block ?_
   refine q2 ?_
   refine o_move rfl rfl ?_
   refine o_move rfl rfl ?_
   obtain ⟨G7, H, hsg7, hsr7⟩ := H.shutL (k := 1) rfl (H.apart (k := 1) (ks := [3]) rfl rfl (by intro b hb; simpa [fpsAt, nth, blk] using hb)) hchk4_1 (by first | assumption | (simp; done) | (simp; omega) | omega) (by first | assumption | (simp; done) | (simp; omega) | omega)
   have hSs := hSs.up hsg7
   have hbytes := hbytes.up hsg7
   have hchk2 := hchk2.up hsg7
   have hS4_m0 := hS4_m0.up hsg7
   have hchk4_0 := hchk4_0.up hsg7
   have hchk4_1 := hchk4_1.up hsg7
   have hle4 := hle4.trans hsg7
   have H := H.toFront (k := 2) rfl
   refine o_call Tryz.call131 rfl rfl (i_put_c _ _ H.sub _ _ _ _ _ hm4_m0 hS4_m0 hV4_m0 _ _ hsr7 H.lent1 (Sp.chunk_valid hB (by omega))) ?_
   rintro _ w6 ⟨G6, _, _, rfl, H6', ⟨es6, ck6, xs6, L6, i6, rfl, rfl, hm6, hS6, hV6, hL6, hii6, hir6⟩⟩
   have hSs := hSs.up H6'.le
   have hbytes := hbytes.up H6'.le
   have hchk2 := hchk2.up H6'.le
   have hS4_m0 := hS4_m0.up H6'.le
   have hchk4_0 := hchk4_0.up H6'.le
   have hchk4_1 := hchk4_1.up H6'.le
   have hsr7 := hsr7.up H6'.le
   have hle4 := hle4.trans H6'.le
   have H := H.borrow1 H6'
   refine ⟨_, rfl, ?_⟩
   refine o_move rfl rfl ?_
   refine o_extract rfl rfl rfl ?_
   refine o_extract rfl rfl rfl ?_
   refine o_assign rfl rfl ?_
   refine o_assign rfl rfl ?_
   refine q3 ?_
   refine W_seq ?_
   refine q2 ?_
   refine o_move rfl rfl ?_
   refine o_not rfl rfl ?_
   refine q3 ?_
   refine W_cond rfl ?_ ?_
   ·intro hc8
    try simp only [nrm] at hc8
    refine q2 ?_
    refine o_assign rfl rfl ?_
    refine o_assign rfl rfl ?_
    refine q3 ?_
    refine W_ret ?_
    refine N_K_ret ?_
    refine N_B_ret ?_
    refine N_K_ret ?_
    refine N_LP_ret ?_
    refine N_B_ret ?_
    refine N_K_ret ?_
    refine ret_gen (rs := [.tmp 4, .tmp 5]) (vs := [_, _]) Tryz.results78 ⟨rfl, rfl, trivial⟩ ?_
    have hno : Sp.FileStore Ls bytes = none := by (have hno : Sp.StorePut Lm0 (Sp.chunk bytes k) = none := by simpa using hc8); simp only [Sp.FileStore, Sp.valid_iff.2 hVs, hB, Bool.and_self, if_true]; exact Sp.foldB_stop hf (Sp.chunks_at (by omega)) (by simp [Sp.put1, hno])
    have H := H.addNil 3 1
    have H := H.del (k := 2) rfl
    have H := H.del (k := 2) rfl
    have H := H.toFront (k := 1) rfl
    have H := H.toFront (k := 1) rfl
    exact H.retM ⟨_, _, _, _, _, _, _, congrArg (fun b => Value.tuple #[_, Value.bool b]) (show _ = (Sp.FileStore Ls bytes).isSome by rw [hno]; rfl), acc_1 (by first | rfl | assumption | (simp; done) | (simp; omega) | omega), hm6, hS6, hV6, (fun r hr => by rw [hno] at hr; cases hr), (Chk.nil (E := intE) (sz := 1) (G := G6)), by first | omega | (simp; done) | (simp; omega)⟩
   intro hc8'
   try simp only [nrm] at hc8'
   obtain ⟨⟨r1, r2⟩, hsp⟩ := Option.isSome_iff_exists.1 hc8'
   have hLp : L6 = r1 := by rw [hL6, hsp]; rfl
   subst hLp
   obtain rfl : i6 = r2 := (hir6 _ hsp).symm
   refine W_skip ?_
   refine N_K ?_
   refine W_region ?_
   refine o_move rfl rfl ?_
   refine o_move rfl rfl ?_
   refine o_buildSlice H Tryz.underlying27 Tryz.sizeOf3 (fun w => ⟨_, Tryz.zeroValue3 w, rfl⟩) rfl rfl rfl rfl rfl rfl rfl ?_; intro b9 w9 hb9 H
   refine o_append1 1 H (sz := 1) (bytes := 8) Tryz.underlying27 Tryz.typeInfo3 ⟨_, rfl, rfl⟩ rfl rfl rfl rfl rfl rfl rfl rfl rfl rfl (by omega) rfl ?_; intro v10 w10 H
   have hchk10 := hchk4_0.snoc (show intE _ i6 _ from ⟨rfl, ⟨by omega, by omega⟩⟩) rfl
   obtain ⟨av10, cv10, rfl⟩ := H.accShape (k := 1) rfl
   refine o_assign rfl rfl ?_
   refine R_nil ?_
   refine N_B ?_
   refine N_K ?_
   refine W_region ?_
   refine o_move rfl rfl ?_
   have H := H.toFront (k := 2) rfl
   refine o_call Tryz.call130 rfl rfl (i_next_c _ _ H.sub _ _ _ _ p hbytes (by omega) (by omega) H.lent1 ) ?_
   rintro _ w11 ⟨G11, _, _, rfl, H11', ⟨u11, c11, p11, rfl, rfl, hp11, hchk11⟩⟩
   have hSs := hSs.up H11'.le
   have hbytes := hbytes.up H11'.le
   have hchk2 := hchk2.up H11'.le
   have hS4_m0 := hS4_m0.up H11'.le
   have hchk4_0 := hchk4_0.up H11'.le
   have hchk4_1 := hchk4_1.up H11'.le
   have hsr7 := hsr7.up H11'.le
   have hS6 := hS6.up H11'.le
   have hchk10 := hchk10.up H11'.le
   have hle4 := hle4.trans H11'.le
   have H := H.borrow1 H11'
   obtain ⟨avr11, cvr11, rfl⟩ := H.accShape (k := 0) rfl
   refine ⟨_, rfl, ?_⟩
   refine o_assign rfl rfl ?_
   refine R_nil ?_
   have H := H.toFront (k := 2) rfl
   have H := H.toFront (k := 2) rfl
   have H := H.toFront (k := 2) rfl
   have H := H.toFront (k := 3) rfl
   refine N_LP (hJ := ⟨_, _, xs6, L6, _, _, _, (xs ++ [i6]), _, _, _, (Sp.nextC bytes p), k + 1, p11, _, rfl, hle4, H, ?inv, rfl⟩) (hM := ?hM) (hf := ?hf) (hm := ?hm)
   case hM => (repeat (first | exact Sub.nil | refine Sub.cons rfl ?_))
   case hf => (repeat (first | exact Sub.nil | refine Sub.cons rfl ?_))
   case hm => omega
   case inv => exact ⟨hm6, hS6, hV6, (by exact ⟨hchk10, (by first | assumption | (simp; omega) | omega), hchk11, (by first | assumption | (simp; omega) | omega), (by exact ⟨by rw [hpk]; exact Sp.next_chunk _ _, by omega, by simp; omega, by omega, Sp.foldB_succ hf (Sp.chunks_at (by omega)) (by simp [Sp.put1, hsp])⟩)⟩)⟩
  intro hc5'
  try simp only [nrm] at hc5'
  refine W_exit ?_
  refine N_K_exit ?_
  refine N_LP_exit ?_
  refine N_B_same ?_
  refine N_K ?_
  refine q2 ?_
  refine o_move rfl rfl ?_
  refine o_assign rfl rfl ?_
  refine o_assign rfl rfl ?_
  refine q3 ?_
  refine W_ret ?_
  refine ret_gen (rs := [.tmp 4, .tmp 5]) (vs := [_, _]) Tryz.results78 ⟨rfl, rfl, trivial⟩ ?_
  have hyes : Sp.FileStore Ls bytes = some (Lm0, xs) := by simp only [Sp.FileStore, Sp.valid_iff.2 hVs, hB, Bool.and_self, if_true]; exact Sp.foldB_all hf (Sp.chunks_end (by omega))
  have H := H.del (k := 1) rfl
  have H := H.del (k := 1) rfl
  have H := H.toFront (k := 1) rfl
  have H := H.toFront (k := 1) rfl
  exact H.retM ⟨_, _, _, _, _, _, _, congrArg (fun b => Value.tuple #[_, Value.bool b]) (show _ = (Sp.FileStore Ls bytes).isSome by rw [hyes]; rfl), acc_1 (by first | rfl | assumption | (simp; done) | (simp; omega) | omega), hm4_m0, hS4_m0, hV4_m0, (fun r hr => by rw [hyes] at hr; cases hr; rfl), hchk4_0, by first | omega | (simp; done) | (simp; omega)⟩
end Go.Proofs.Tst

namespace Go.Proofs.Tst
open Go Fw
theorem i_openStore_c (w0 : World) (G0 : PH) (hG : PSub G0 w0) (vlist : Value) (list : List (BHeld)) (hlist : RdH G0 vlist list) (hLent : Lent w0 G0 [])  :
  Calls Tryz.prog 127 #[vlist] w0 (RetM w0 G0 [] (fun G' v Bs => (Sp.StoreValid list = false ∧ v = .tuple #[.map none, .bool false] ∧ Bs = []) ∨ (Sp.VH list ∧ ∃ (mb : Nat) (es' : Array MapEntry) (ck' : Nat) (xs' : List (Int × Value)), v = .tuple #[.map (some mb), .bool true] ∧ Bs = [blk mb (.map es' ck')] ∧ MapIs (Value.int .i64) es' ck' xs' ∧ StR G' xs' list))) := by
 obtain ⟨alist, klist, rfl⟩ := hlist.shape
 have hlimlist : list.length ≤ 1099511627776 := hlist.lim
 have H : Hp w0 G0 [] w0 G0 [] := hLent.hp
 refine calls_of_W (l := [.slice alist list.length klist]) Tryz.func127 rfl Tryz.ntmps127 rfl ?_
 refine q2 ?_
 refine o_assign rfl rfl ?_
 refine o_assign rfl rfl ?_
 refine q3 ?_
 refine W_seq ?_
 refine q2 ?_
 refine o_move rfl rfl ?_
 refine o_call Tryz.call158 rfl rfl (i_StoreValid_c _ _ H.sub _ _ hlist ) ?_
 rintro _ w1 ⟨rfl, ew1⟩; have H := H.step ew1; refine ⟨_, rfl, ?_⟩
 refine o_not rfl rfl ?_
 refine q3 ?_
 refine W_cond rfl ?_ ?_
 ·intro hc2
  try simp only [nrm] at hc2
  refine q2 ?_
  refine o_assign rfl rfl ?_
  refine o_assign rfl rfl ?_
  refine q3 ?_
  refine W_ret ?_
  refine N_K_ret ?_
  refine ret_gen (rs := [.tmp 2, .tmp 3]) (vs := [_, _]) Tryz.results127 ⟨rfl, rfl, trivial⟩ ?_
  exact H.retM (.inl ⟨by simpa using hc2, rfl, rfl⟩)
 intro hc2'
 try simp only [nrm] at hc2'
 have hVl := Sp.valid_iff.1 (by simpa using hc2' : Sp.StoreValid list = true)
 refine W_skip ?_
 refine N_K ?_
 refine q2 ?_
 refine o_makeMap H rfl ?_; intro b3 w3 hb3 H
 have hm3 := MapIs.empty (key := Value.int .i64) 0
 have hS3 := StR.nil G0
 refine o_assign rfl rfl ?_
 refine q3 ?_
 refine W_seq ?_
 refine q2 ?_
 refine o_move rfl rfl ?_
 refine o_len_slice Tryz.underlying23 rfl rfl ?_
 refine o_move rfl rfl ?_
 refine q3 ?_
 refine W_block ?_
 refine W_loop (hf := (Sub.cons (t := 2) rfl (Sub.cons (t := 3) rfl (Sub.cons (t := 4) rfl (Sub.cons (t := 11) rfl (Sub.cons (t := 12) rfl Sub.nil)))))) (J := fun M w m => ∃ (esm0 : Array MapEntry) (ckm0 : Nat) (xsm0 : List (Int × Value)) (Lm0 : List BHeld) (k : Nat) (G : PH), M = [(13, .int .i64 (k : Int))] ∧ PLe G0 G ∧ Hp w0 G0 [] w G [blk b3 (.map esm0 ckm0)] ∧ (MapIs (Value.int .i64) esm0 ckm0 xsm0 ∧ StR G xsm0 Lm0 ∧ Sp.VH Lm0 ∧ k ≤ list.length ∧ Lm0 = list.take k) ∧ m = (list.length - k)) (h0 := ⟨_, _, [], [], 0, _, rfl, PLe.refl _, H, ?inv, rfl⟩) (hM := ?hM) (round := ?round)
 case hM => (repeat (first | exact Sub.nil | refine Sub.cons rfl ?_))
 case inv => exact ⟨hm3, hS3, Sp.VH_nil, (by simp)⟩
 case round =>
  rintro _ w4 _ ⟨esm0, ckm0, xsm0, Lm0, k, G4, rfl, hle4, H, hinv4, rfl⟩
  have hlist := hlist.up hle4
  have hS3 := hS3.up hle4
  obtain ⟨hm4_m0, hS4_m0, hV4_m0, hinv4⟩ := hinv4
  obtain ⟨hk, rfl⟩ := hinv4
  refine q2 ?_
  refine o_lss rfl rfl rfl ?_
  refine q3 ?_
  refine W_seq ?_
  refine W_cond rfl ?_ ?_
  ·intro hc5
   try simp only [nrm] at hc5
   refine W_skip ?_
   refine N_K ?_
   refine W_seq ?_
   refine W_block ?_
   refine q2 ?_
   refine o_index_P k hlist Tryz.underlying23 Tryz.sizeOf117 rfl rfl rfl rfl (by first | omega | (simp; omega)) ?_; intro b6 o6 z6 q6 hz6 hE6 hrow6
   obtain ⟨a6, m6, c6, rfl, hi6, hr6, hj6⟩ := hE6; have hn_hr6 := hr6.len; have hx_hr6 : _ ≤ 1099511627776 := hr6.lim
   refine o_loadagg_P H Tryz.isAgg117 Tryz.sizeOf117 rfl rfl hrow6 rfl ?_
   refine o_alloc H Tryz.zeroValue117 rfl rfl ?_; intro b7 w7 hb7 H
   refine o_store_B 0 H Tryz.sizeOf117 rfl rfl rfl rfl rfl rfl rfl rfl ?_; intro w8 H
   refine q3 ?_
   refine W_drawK [0] 12 H (by kernel_rfl) rfl ?_; intro w9 H; have hd9 := PLe.refl G4
   refine RD_t 0 rfl (by kernel_rfl) rfl (fun _ hK => v_move rfl) ?_
   refine RD_t 1 rfl (by kernel_rfl) rfl (fun _ hK => v_fieldAddr 0 Tryz.runUnderlying117 rfl Tryz.sizeOf3 rfl rfl) ?_
   refine RD_t 2 rfl (by kernel_rfl) rfl (fun _ hK => v_load_B 0 hK Tryz.isAgg3 rfl rfl rfl) ?_
   refine RD_t 3 rfl (by kernel_rfl) rfl (fun _ hK => v_fieldAddr 0 Tryz.runUnderlying117 rfl Tryz.sizeOf3 rfl rfl) ?_
   refine RD_t 4 rfl (by kernel_rfl) rfl (fun _ hK => v_load_B 0 hK Tryz.isAgg3 rfl rfl rfl) ?_
   refine RD_t 5 rfl (by kernel_rfl) rfl (fun _ hK => v_fieldAddr 1 Tryz.runUnderlying117 rfl Tryz.sizeOf27 rfl rfl) ?_
   refine RD_t 6 rfl (by kernel_rfl) rfl (fun _ hK => v_load_B 0 hK Tryz.isAgg27 rfl rfl rfl) ?_
   refine RD_t 8 rfl (by kernel_rfl) rfl (fun _ hK => v_fieldAddr 2 Tryz.runUnderlying117 rfl Tryz.sizeOf3 rfl rfl) ?_
   refine RD_t 9 rfl (by kernel_rfl) rfl (fun _ hK => v_load_B 0 hK Tryz.isAgg3 rfl rfl rfl) ?_
   refine RD_run [7] (by kernel_rfl) rfl (RDs.cons rfl ?_ RDs.nil)
   refine o_call Tryz.call133 rfl rfl (l_Clone_c _ _ H.sub _ _ hr6 ) ?_
   rintro _ w10 ⟨G10, v10, _, g10, rfl, ⟨cs10, rfl, hchk10⟩, hp10, hq10, hs10⟩
   have H := H.growO g10 hp10 hq10 hs10; obtain ⟨av10, cv10, rfl⟩ := H.accShape (k := 0) rfl
   have hlist := hlist.up g10.le
   have hS3 := hS3.up g10.le
   have hS4_m0 := hS4_m0.up g10.le
   have hr6 := hr6.up g10.le
   have hrow6 := hrow6.up g10.le
   have hle4 := hle4.trans g10.le
   have hd9 := hd9.trans g10.le
   refine ⟨_, rfl, ?_⟩
   refine R_nil ?_
   refine N_DK (Kn.of' H hd9 (SubL.cons 1 rfl SubL.nil)) ?_
   refine RD_t 10 rfl (by kernel_rfl) rfl (fun _ hK => v_build bf117 rfl rfl) ?_
   refine RD_run [11] (by kernel_rfl) rfl (RDs.cons rfl ?_ RDs.nil)
   obtain ⟨G12, H, hsg12, hsr12⟩ := H.shutL (k := 0) rfl (H.apart (k := 0) (ks := []) rfl rfl (by intro b hb; simpa [fpsAt, nth, blk] using hb)) hchk10 (by first | assumption | (simp; done) | (simp; omega) | omega) (by first | assumption | (simp; done) | (simp; omega) | omega)
   have hlist := hlist.up hsg12
   have hS3 := hS3.up hsg12
   have hS4_m0 := hS4_m0.up hsg12
   have hr6 := hr6.up hsg12
   have hrow6 := hrow6.up hsg12
   have hchk10 := hchk10.up hsg12
   have hle4 := hle4.trans hsg12
   have hd9 := hd9.trans hsg12
   refine o_updS 1 H z6 rfl hm4_m0 hS4_m0 Tryz.underlying66 Tryz.underlying3 rfl rfl rfl (show heldE G12 z6 _ from ⟨_, _, _, rfl, ⟨by first | omega | (dsimp only; omega), by first | omega | (dsimp only; omega)⟩, hsr12, ⟨by first | omega | (dsimp only; omega), by first | omega | (dsimp only; omega)⟩⟩) rfl ?_; intro es11 ck11 xs11 w11 H hm11 hS11
   refine R_nil ?_
   refine N_DKlast (by kernel_rfl) (by kernel_rfl) ?_
   refine N_B ?_
   refine N_K ?_
   refine W_region ?_
   rw [Sp.upd_take hVl hz6] at hS11
   refine o_add rfl rfl rfl ⟨by omega, by omega⟩ ?_
   refine o_move rfl rfl ?_
   refine R_nil ?_
   have H := H.del (k := 0) rfl
   refine N_LP (hJ := ⟨_, _, xs11, (list.take (k + 1)), k + 1, _, rfl, hle4, H, ?inv, rfl⟩) (hM := ?hM) (hf := ?hf) (hm := ?hm)
   case hM => (repeat (first | exact Sub.nil | refine Sub.cons rfl ?_))
   case hf => (repeat (first | exact Sub.nil | refine Sub.cons rfl ?_))
   case hm => omega
   case inv => exact ⟨hm11, hS11, (hVl.take (k + 1)), (by exact ⟨by omega, rfl⟩)⟩
  intro hc5'
  try simp only [nrm] at hc5'
  refine W_exit ?_
  refine N_K_exit ?_
  refine N_LP_exit ?_
  refine N_B_same ?_
  refine N_K ?_
  refine q2 ?_
  refine o_move rfl rfl ?_
  refine o_assign rfl rfl ?_
  refine o_assign rfl rfl ?_
  refine q3 ?_
  refine W_ret ?_
  refine ret_gen (rs := [.tmp 2, .tmp 3]) (vs := [_, _]) Tryz.results127 ⟨rfl, rfl, trivial⟩ ?_
  rw [List.take_of_length_le (by omega)] at hS4_m0
  exact H.retM (.inr ⟨hVl, _, _, _, _, rfl, rfl, hm4_m0, hS4_m0⟩)
theorem i_slist_c (w0 : World) (G0 : PH) (hG : PSub G0 w0) (mbs : Nat) (ess : Array MapEntry) (cks : Nat) (xss : List (Int × Value)) (Ls : List BHeld) (hbs : MapAt G0 mbs ess cks) (hms : MapIs (Value.int .i64) ess cks xss) (hSs : StR G0 xss Ls) (hVs : Sp.VH Ls)  :
  Calls Tryz.prog 81 #[.map (some mbs)] w0 (RetN w0 G0 (fun v Bs => ∃ (F : Fr), Bs = [frag F] ∧ OHs F v Ls)) := by
 have hl16 := hVs.len
 have H := Hp.init hG
 refine calls_of_W (l := [.map (some mbs)]) Tryz.func81 rfl Tryz.ntmps81 rfl ?_
 refine q2 ?_
 refine o_assign rfl rfl ?_
 refine q1 ?_
 refine o_move rfl rfl ?_
 have hml1 := hSs.len
 refine o_lenM (hbs.at H.sub) hms Tryz.underlying66 rfl rfl ?_
 refine o_make0 (c := Ls.length) (sz := 3) (bytes := 40) H Tryz.underlying23 Tryz.typeInfo117 ⟨_, rfl, rfl⟩ rfl rfl rfl rfl rfl rfl (by omega) (by omega) rfl ?_; intro b2 w2 H
 refine o_assign rfl rfl ?_
 refine q3 ?_
 refine W_seq ?_
 refine q2 ?_
 refine o_move rfl rfl ?_
 refine o_call Tryz.call136 rfl rfl (keys_c _ _ H.sub _) ?_; rintro _ w3 ⟨kb3, rfl, hkb3, ek3, hkc3⟩; have H := H.step ek3; refine ⟨_, rfl, ?_⟩
 refine o_call Tryz.call135 rfl rfl (sorted_c _ _ _ hkc3 (hbs.at H.sub) hms hSs hVs) ?_; rintro _ w4 ⟨v4, rfl, ek4, hp4, hf4⟩; have H := H.add ek4 _ hp4 hf4 (acc_nd _ _ _ _ _)
 have hchk4 := chkIds G0 hVs; obtain ⟨av4, cv4, rfl⟩ := H.accShape (k := 0) rfl; refine ⟨_, rfl, ?_⟩
 refine o_len_slice Tryz.underlying27 rfl rfl ?_
 refine o_move rfl rfl ?_
 refine q3 ?_
 refine W_block ?_
 obtain ⟨G5, H, hsg5, hsr5⟩ := H.shut' (k := 0) rfl hchk4 (by first | assumption | (simp; done) | (simp; omega) | omega) (by first | assumption | (simp; done) | (simp; omega) | omega)
 have hSs := hSs.up hsg5
 have hbs := hbs.up hsg5
 have hchk4 := hchk4.up hsg5
 have H := H.addF
 refine W_loop (hf := (Sub.cons (t := 0) rfl (Sub.cons (t := 2) rfl (Sub.cons (t := 12) rfl (Sub.cons (t := 13) rfl Sub.nil))))) (J := fun M w m => ∃ (v : Value) (n : Nat) (cs : List Value) (xs : List (BHeld)) (F : Fr) (k : Nat) (G : PH), M = [(14, .int .i64 (k : Int)), (3, v)] ∧ PLe G5 G ∧ Hp w0 G0 [] w G [frag F, acc 117 3 v n cs] ∧ (ChkF heldO 3 cs xs F ∧ n = xs.length ∧ k ≤ Ls.length ∧ xs = Ls.take k) ∧ m = (Ls.length - k)) (h0 := ⟨_, _, _, [], [], 0, _, rfl, PLe.refl _, H, ?inv, rfl⟩) (hM := ?hM) (round := ?round)
 case hM => (repeat (first | exact Sub.nil | refine Sub.cons rfl ?_))
 case inv => exact ⟨ChkF.nil,  by first | rfl | simp | (simp; omega) | omega, (by simp)⟩
 case round =>
  rintro _ w6 _ ⟨v, n, cs, xs, F, k, G6, rfl, hle6, H, hinv6, rfl⟩
  have hSs := hSs.up hle6
  have hbs := hbs.up hle6
  have hchk4 := hchk4.up hle6
  have hsr5 := hsr5.up hle6
  obtain ⟨hchk6_0, hn6_0, hinv6⟩ := hinv6
  obtain ⟨av6_0, cv6_0, rfl⟩ := H.accShape (k := 1) rfl
  obtain ⟨hk, hxs⟩ := hinv6; have hxl : xs.length ≤ 16 := by rw [hxs]; simp; omega
  refine q2 ?_
  refine o_lss rfl rfl rfl ?_
  refine q3 ?_
  refine W_seq ?_
  refine W_cond rfl ?_ ?_
  ·intro hc7
   try simp only [nrm] at hc7
   refine W_skip ?_
   refine N_K ?_
   refine W_seq ?_
   refine W_block ?_
   refine q2 ?_
   refine o_index_P k hsr5 Tryz.underlying27 Tryz.sizeOf3 rfl rfl rfl rfl (by first | omega | (simp; omega)) ?_; intro b8 o8 z8 q8 hz8 hE8 hrow8
   obtain ⟨rfl, hi8⟩ := hE8
   refine o_load_P H Tryz.isAgg3 rfl rfl (hrow8 0 _ rfl) ?_
   refine o_assign rfl rfl ?_
   refine q1 ?_
   refine o_move rfl rfl ?_
   refine o_move rfl rfl ?_
   refine o_lookS (hbs.at H.sub) hms hSs Tryz.underlying66 Tryz.underlying3 Tryz.zeroValue117 rfl rfl rfl ?_; intro q9 hE9
   obtain ⟨a9, m9, c9, rfl, hi9, hr9, hj9⟩ := hE9; have hn_hr9 := hr9.len; have hx_hr9 : _ ≤ 1099511627776 := hr9.lim
   have hgb := Sp.get_len hVs z8
   have hat := Sp.get_at hVs hz8
   refine o_alloc H Tryz.zeroValue117 rfl rfl ?_; intro b10 w10 hb10 H
   refine o_store_B 0 H Tryz.sizeOf117 rfl rfl rfl rfl rfl rfl rfl rfl ?_; intro w11 H
   refine q3 ?_
   refine W_drawK [0] 11 H (by kernel_rfl) rfl ?_; intro w12 H; have hd12 := PLe.refl G6
   refine RD_t 0 rfl (by kernel_rfl) rfl (fun _ hK => v_move rfl) ?_
   refine RD_t 1 rfl (by kernel_rfl) rfl (fun _ hK => v_move rfl) ?_
   refine RD_t 2 rfl (by kernel_rfl) rfl (fun _ hK => v_fieldAddr 1 Tryz.runUnderlying117 rfl Tryz.sizeOf27 rfl rfl) ?_
   refine RD_t 3 rfl (by kernel_rfl) rfl (fun _ hK => v_load_B 0 hK Tryz.isAgg27 rfl rfl rfl) ?_
   refine RD_t 5 rfl (by kernel_rfl) rfl (fun _ hK => v_fieldAddr 2 Tryz.runUnderlying117 rfl Tryz.sizeOf3 rfl rfl) ?_
   refine RD_t 6 rfl (by kernel_rfl) rfl (fun _ hK => v_load_B 0 hK Tryz.isAgg3 rfl rfl rfl) ?_
   refine RD_run [4] (by kernel_rfl) rfl (RDs.cons rfl ?_ RDs.nil)
   refine o_call Tryz.call133 rfl rfl (l_Clone_c _ _ H.sub _ _ hr9 ) ?_
   rintro _ w13 ⟨G13, v13, _, g13, rfl, ⟨cs13, rfl, hchk13⟩, hp13, hq13, hs13⟩
   have H := H.growO g13 hp13 hq13 hs13; obtain ⟨av13, cv13, rfl⟩ := H.accShape (k := 0) rfl
   have hSs := hSs.up g13.le
   have hbs := hbs.up g13.le
   have hchk4 := hchk4.up g13.le
   have hsr5 := hsr5.up g13.le
   have hrow8 := hrow8.up g13.le
   have hr9 := hr9.up g13.le
   have hle6 := hle6.trans g13.le
   have hd12 := hd12.trans g13.le
   refine ⟨_, rfl, ?_⟩
   refine R_nil ?_
   refine N_DK (Kn.of' H hd12 (SubL.cons 1 rfl SubL.nil)) ?_
   refine RD_t 7 rfl (by kernel_rfl) rfl (fun _ hK => v_build bf117 rfl rfl) ?_
   refine RD_run [8] (by kernel_rfl) rfl (RDs.cons rfl ?_ RDs.nil)
   refine o_buildSlice H Tryz.underlying23 Tryz.sizeOf117 (fun w => ⟨_, Tryz.zeroValue117 w, rfl⟩) rfl rfl rfl rfl rfl rfl rfl ?_; intro b14 w14 hb14 H
   refine R_nil ?_
   refine N_DK (Kn.of' H hd12 (SubL.cons 2 rfl SubL.nil)) ?_
   refine RD_run [9] (by kernel_rfl) rfl (RDs.cons rfl ?_ RDs.nil)
   refine o_append1 3 H (sz := 3) (bytes := 40) Tryz.underlying23 Tryz.typeInfo117 ⟨_, rfl, rfl⟩ rfl rfl rfl rfl rfl rfl rfl rfl rfl rfl (by omega) rfl ?_; intro v15 w15 H
   obtain ⟨Fi2, H, hOI2⟩ := H.ownI (k := 0) rfl hchk13 (by first | assumption | rfl | (simp; done) | (simp; omega) | omega) (by first | assumption | (simp; done) | (simp; omega) | omega)
   have hchk15 := hchk6_0.snoc (show heldO Fi2 ⟨z8, (getH Ls z8).bytes, (getH Ls z8).uses⟩ _ from ⟨_, _, _, rfl, ⟨by first | omega | (dsimp only; omega), by first | omega | (dsimp only; omega)⟩, hOI2, ⟨by first | omega | (dsimp only; omega), by first | omega | (dsimp only; omega)⟩⟩) rfl
   have H := H.toFront (k := 2) rfl
   have H := H.mergeF
   obtain ⟨av15, cv15, rfl⟩ := H.accShape (k := 2) rfl
   refine R_nil ?_
   refine N_DK (Kn.of' H hd12 (SubL.cons 1 rfl SubL.nil)) ?_
   refine RD_t 10 rfl (by kernel_rfl) rfl (fun _ hK => v_assign rfl) ?_
   refine RD_done (by kernel_rfl) ?_
   refine N_B ?_
   refine N_K ?_
   refine W_region ?_
   refine o_add rfl rfl rfl ⟨by omega, by omega⟩ ?_
   refine o_move rfl rfl ?_
   refine R_nil ?_
   have H := H.del (k := 1) rfl
   refine N_LP (hJ := ⟨_, _, _, (xs ++ [⟨z8, (getH Ls z8).bytes, (getH Ls z8).uses⟩]), (F ++ Fi2), k + 1, _, rfl, hle6, H, ?inv, rfl⟩) (hM := ?hM) (hf := ?hf) (hm := ?hm)
   case hM => (repeat (first | exact Sub.nil | refine Sub.cons rfl ?_))
   case hf => (repeat (first | exact Sub.nil | refine Sub.cons rfl ?_))
   case hm => omega
   case inv => exact ⟨hchk15, (by first | assumption | (simp; omega) | omega), (by exact ⟨by omega, by rw [Sp.take_succ' hat, hxs]⟩)⟩
  intro hc7'
  try simp only [nrm] at hc7'
  refine W_exit ?_
  refine N_K_exit ?_
  refine N_LP_exit ?_
  refine N_B_same ?_
  refine N_K ?_
  refine q2 ?_
  refine o_move rfl rfl ?_
  refine o_assign rfl rfl ?_
  refine q3 ?_
  refine W_ret ?_
  refine ret_gen (rs := [.tmp 2]) (vs := [_]) Tryz.results81 ⟨rfl, trivial⟩ ?_
  have H := H.toFront (k := 1) rfl
  obtain ⟨Fo3, H, hOw3⟩ := H.ownF hchk6_0 (by first | assumption | rfl | (simp; done) | (simp; omega) | omega) (by first | assumption | (simp; done) | (simp; omega) | omega)
  have hX : xs = Ls := by rw [hxs, List.take_of_length_le (by omega)]
  have H := H.forget hG (by simp)
  exact ⟨_, _, rfl, H, _, rfl, hX ▸ ⟨_, hOw3⟩⟩
end Go.Proofs.Tst

namespace Go.Proofs.Tst
open Go
end Go.Proofs.Tst

namespace Go.Proofs.Tst
open Go Fw
theorem l_isNaN_c (w0 : World) (x : Bs) (hx : x.length ≤ 16777216)  :
  Calls Tryz.prog 190 #[str x] w0 (Rets w0 (.bool false)) := by
 have H := Hp.init0 w0
 refine calls_of_W (l := [str x]) Tryz.func190 rfl Tryz.ntmps190 rfl ?_
 refine q2 ?_
 refine o_assign rfl rfl ?_
 refine q1 ?_
 refine o_move rfl rfl ?_
 refine o_move rfl rfl ?_
 refine o_sneq rfl rfl rfl ?_
 refine o_assign rfl rfl ?_
 refine q3 ?_
 refine W_ret ?_
 refine ret_gen (rs := [.tmp 2]) (vs := [_]) Tryz.results190 ⟨rfl, trivial⟩ ?_
 exact H.rets (congrArg Value.bool (by simp))
theorem l_Compare_c (w0 : World) (x : Bs) (hx : x.length ≤ 16777216) (y : Bs) (hy : y.length ≤ 16777216)  :
  Calls Tryz.prog 171 #[str x, str y] w0 (Rets w0 (.int .i64 (Sp.cmpB x y))) := by
 have H := Hp.init0 w0
 refine calls_of_W (l := [str x, str y]) Tryz.func171 rfl Tryz.ntmps171 rfl ?_
 refine q2 ?_
 refine o_assign rfl rfl ?_
 refine q1 ?_
 refine o_move rfl rfl ?_
 refine o_call Tryz.call190 rfl rfl (l_isNaN_c _ _ hx ) ?_
 rintro _ w1 ⟨rfl, ew1⟩; have H := H.step ew1; refine ⟨_, rfl, ?_⟩
 refine o_assign rfl rfl ?_
 refine q1 ?_
 refine o_move rfl rfl ?_
 refine o_call Tryz.call190 rfl rfl (l_isNaN_c _ _ hy ) ?_
 rintro _ w2 ⟨rfl, ew2⟩; have H := H.step ew2; refine ⟨_, rfl, ?_⟩
 refine o_assign rfl rfl ?_
 refine q3 ?_
 refine W_seq ?_
 refine q2 ?_
 refine o_move rfl rfl ?_
 refine q3 ?_
 refine W_false rfl ?_
 refine W_skip ?_
 refine N_K ?_
 refine W_seq ?_
 refine q2 ?_
 refine o_move rfl rfl ?_
 refine q3 ?_
 refine W_false rfl ?_
 refine W_skip ?_
 refine N_K ?_
 refine W_seq ?_
 refine q2 ?_
 refine o_move rfl rfl ?_
 refine o_move rfl rfl ?_
 refine o_slss rfl rfl rfl ?_
 refine q3 ?_
 refine W_cond rfl ?_ ?_
 ·intro hc3
  try simp only [nrm] at hc3
  refine q2 ?_
  refine o_assign rfl rfl ?_
  refine q3 ?_
  refine W_ret ?_
  refine N_K_ret ?_
  refine ret_gen (rs := [.tmp 4]) (vs := [_]) Tryz.results171 ⟨rfl, trivial⟩ ?_
  exact H.rets (congrArg (Value.int .i64) (by unfold Sp.cmpB; simp_all))
 intro hc3'
 try simp only [nrm] at hc3'
 refine W_skip ?_
 refine N_K ?_
 refine W_seq ?_
 refine q2 ?_
 refine o_move rfl rfl ?_
 refine o_move rfl rfl ?_
 refine o_sgtr rfl rfl rfl ?_
 refine q3 ?_
 refine W_cond rfl ?_ ?_
 ·intro hc4
  try simp only [nrm] at hc4
  refine q2 ?_
  refine o_assign rfl rfl ?_
  refine q3 ?_
  refine W_ret ?_
  refine N_K_ret ?_
  refine ret_gen (rs := [.tmp 4]) (vs := [_]) Tryz.results171 ⟨rfl, trivial⟩ ?_
  exact H.rets (congrArg (Value.int .i64) (by unfold Sp.cmpB; simp_all))
 intro hc4'
 try simp only [nrm] at hc4'
 refine W_skip ?_
 refine N_K ?_
 refine q2 ?_
 refine o_assign rfl rfl ?_
 refine q3 ?_
 refine W_ret ?_
 refine ret_gen (rs := [.tmp 4]) (vs := [_]) Tryz.results171 ⟨rfl, trivial⟩ ?_
 exact H.rets (congrArg (Value.int .i64) (by unfold Sp.cmpB; simp_all))
theorem i_place1_c (w0 : World) (G0 : PH) (hG : PSub G0 w0) (t : Nd) (hndt : RdN G0 t) (nm : Bs) (hnm : nm.length ≤ 16777216)  :
  Calls Tryz.prog 170 #[.pointer (some ⟨t.b, 0, none⟩), str nm] w0 (Rets w0 (.int .i64 (Sp.cmpB t.name nm))) := by
 obtain ⟨hnlt, nat, nmt, nct, nAt, nMt, nCt, hprt, hrit, hrkt⟩ := hndt.open
 have hn_hrit := hrit.len; have hx_hrit : _ ≤ 1099511627776 := hrit.lim
 have hn_hrkt := hrkt.len; have hx_hrkt : _ ≤ 1099511627776 := hrkt.lim
 have H := Hp.init hG
 refine calls_of_W (l := [.pointer (some ⟨t.b, 0, none⟩), str nm]) Tryz.func170 rfl Tryz.ntmps170 rfl ?_
 refine q2 ?_
 refine o_assign rfl rfl ?_
 refine q1 ?_
 refine o_move rfl rfl ?_
 refine o_nilCheck rfl rfl ?_
 refine o_fieldAddr 0 Tryz.runUnderlying83 rfl Tryz.sizeOf9 rfl rfl rfl ?_
 refine o_load_P H Tryz.isAgg9 rfl rfl (hprt 0 _ rfl) ?_
 refine o_move rfl rfl ?_
 refine o_call Tryz.call171 rfl rfl (l_Compare_c _ _ hnlt _ hnm ) ?_
 rintro _ w1 ⟨rfl, ew1⟩; have H := H.step ew1; refine ⟨_, rfl, ?_⟩
 refine o_assign rfl rfl ?_
 refine q3 ?_
 refine W_ret ?_
 refine ret_gen (rs := [.tmp 4]) (vs := [_]) Tryz.results170 ⟨rfl, trivial⟩ ?_
 exact H.rets (congrArg (Value.int .i64) (by rfl))
theorem l_Search_c (w0 : World) (G0 : PH) (hG : PSub G0 w0) (vkids : Value) (kids : List (Nd)) (hkids : RdNd G0 vkids kids) (nm : Bs) (hnm : nm.length ≤ 16777216) (hsk : Sp.srt kids)  :
  Calls Tryz.prog 169 #[vkids, str nm, .func (.func 170) #[] #[]] w0 (Rets w0 (.tuple #[.int .i64 (Sp.pl kids nm : Nat), .bool (Sp.fd kids nm).isSome])) := by
 obtain ⟨akids, kkids, rfl⟩ := hkids.shape
 have hlimkids : kids.length ≤ 1099511627776 := hkids.lim
 have H := Hp.init hG
 refine calls_of_W (l := [.slice akids kids.length kkids, str nm, .func (.func 170) #[] #[]]) Tryz.func169 rfl Tryz.ntmps169 rfl ?_
 refine q2 ?_
 refine o_assign rfl rfl ?_
 refine o_assign rfl rfl ?_
 refine q1 ?_
 refine o_move rfl rfl ?_
 refine o_len_slice Tryz.underlying81 rfl rfl ?_
 refine o_assign rfl rfl ?_
 refine q1 ?_
 refine o_move rfl rfl ?_
 refine o_assign rfl rfl ?_
 refine o_assign rfl rfl ?_
 refine q3 ?_
 refine W_seq ?_
 refine W_block ?_
 refine W_loop (hf := (Sub.cons (t := 0) rfl (Sub.cons (t := 1) rfl (Sub.cons (t := 2) rfl (Sub.cons (t := 6) rfl (Sub.cons (t := 7) rfl (Sub.cons (t := 8) rfl Sub.nil))))))) (J := fun M w m => ∃ (i j : Nat) (G : PH), M = [(9, .int .i64 (i : Int)), (10, .int .i64 (j : Int))] ∧ PLe G0 G ∧ Hp w0 G0 [] w G [] ∧ (i ≤ j ∧ j ≤ kids.length ∧ (∀ (k : Nat) (x : Nd), k < i → kids[k]? = some x → Sp.lt x.name nm = true) ∧ (∀ (k : Nat) (x : Nd), j ≤ k → kids[k]? = some x → Sp.lt x.name nm = false)) ∧ m = (j - i)) (h0 := ⟨0, kids.length, _, rfl, PLe.refl _, H, ?inv, rfl⟩) (hM := ?hM) (round := ?round)
 case hM => (repeat (first | exact Sub.nil | refine Sub.cons rfl ?_))
 case inv => exact ⟨by omega, by omega, fun k x hk => by omega, fun k x hk hx => by have := (List.getElem?_eq_some_iff.1 hx).1; omega⟩
 case round =>
  rintro _ w1 _ ⟨i, j, G1, rfl, hle1, H, hinv1, rfl⟩
  have hkids := hkids.up hle1
  obtain ⟨hij, hjl, hlo, hhi⟩ := hinv1
  refine W_seq ?_
  refine q2 ?_
  refine o_move rfl rfl ?_
  refine o_move rfl rfl ?_
  refine o_lss rfl rfl rfl ?_
  refine q3 ?_
  refine W_cond rfl ?_ ?_
  ·intro hc2
   try simp only [nrm] at hc2
   refine W_skip ?_
   refine N_K ?_
   refine W_block ?_
   refine q2 ?_
   refine o_move rfl rfl ?_
   refine o_move rfl rfl ?_
   refine o_add rfl rfl rfl ⟨by omega, by omega⟩ ?_
   refine o_conv (by simp [Tryz.underlying3]) Tryz.underlying227 rfl rfl (wrap_u64 ⟨by omega, by omega⟩) ?_
   refine o_shr1 rfl rfl rfl (by decide) ?_
   refine o_conv (by simp [Tryz.underlying227]) Tryz.underlying3 rfl rfl (wrap_i64 ⟨by omega, by omega⟩) ?_
   refine o_assign rfl rfl ?_
   refine q1 ?_
   refine o_move rfl rfl ?_
   refine o_move rfl rfl ?_
   refine o_move rfl rfl ?_
   refine o_index_P ((i + j) / 2) hkids Tryz.underlying81 Tryz.sizeOf67 rfl rfl rfl (by omega) (by first | omega | (simp; omega)) ?_; intro b4 o4 z4 q4 hz4 hE4 hrow4
   obtain ⟨rfl, hnd4⟩ := hE4; obtain ⟨hnl4, na4, nm4, nc4, nA4, nM4, nC4, hpr4, hri4, hrk4⟩ := hnd4.open; have hn_hri4 := hri4.len; have hx_hri4 : _ ≤ 1099511627776 := hri4.lim; have hn_hrk4 := hrk4.len; have hx_hrk4 : _ ≤ 1099511627776 := hrk4.lim
   refine o_load_P H Tryz.isAgg67 rfl rfl (hrow4 0 _ rfl) ?_
   refine o_move rfl rfl ?_
   refine o_callv Tryz.call170 rfl rfl rfl (i_place1_c _ _ H.sub _ hnd4 _ hnm ) ?_
   rintro _ w5 ⟨rfl, ew5⟩; have H := H.step ew5; refine ⟨_, rfl, ?_⟩
   refine o_lss rfl rfl rfl ?_
   refine q3 ?_
   refine W_cond rfl ?_ ?_
   ·intro hc6
    try simp only [nrm] at hc6
    refine W_region ?_
    refine o_move rfl rfl ?_
    refine o_add rfl rfl rfl ⟨by omega, by omega⟩ ?_
    refine o_assign rfl rfl ?_
    refine R_nil ?_
    refine N_B ?_
    refine N_LP (hJ := ⟨((i + j) / 2 + 1), j, _, rfl, hle1, H, ?inv, rfl⟩) (hM := ?hM) (hf := ?hf) (hm := ?hm)
    case hM => (repeat (first | exact Sub.nil | refine Sub.cons rfl ?_))
    case hf => (repeat (first | exact Sub.nil | refine Sub.cons rfl ?_))
    case hm => omega
    case inv => exact ⟨by omega, by omega, Sp.pw_lt hsk hz4 ((Sp.cmpB_lt _ _).1 hc6), hhi⟩
   intro hc6'
   try simp only [nrm] at hc6'
   refine W_region ?_
   refine o_move rfl rfl ?_
   refine o_assign rfl rfl ?_
   refine R_nil ?_
   refine N_B ?_
   refine N_LP (hJ := ⟨i, ((i + j) / 2), _, rfl, hle1, H, ?inv, rfl⟩) (hM := ?hM) (hf := ?hf) (hm := ?hm)
   case hM => (repeat (first | exact Sub.nil | refine Sub.cons rfl ?_))
   case hf => (repeat (first | exact Sub.nil | refine Sub.cons rfl ?_))
   case hm => omega
   case inv => exact ⟨by omega, by omega, hlo, Sp.pw_ge hsk hz4 (by cases hlt : Sp.lt z4.name nm with | false => rfl | true => exact absurd ((Sp.cmpB_lt _ _).2 hlt) (by omega))⟩
  intro hc2'
  try simp only [nrm] at hc2'
  refine W_exit ?_
  refine N_K_exit ?_
  refine N_LP_exit ?_
  refine N_B_same ?_
  refine N_K ?_
  refine q2 ?_
  refine o_move rfl rfl ?_
  refine o_move rfl rfl ?_
  refine o_move rfl rfl ?_
  refine o_lss rfl rfl rfl ?_
  refine o_move rfl rfl ?_
  refine R_case (t := 39) rfl ?_ ?_
  ·intro hc8
   try simp only [nrm] at hc8
   refine R_guard (yl rfl rfl) ?_
   refine o_move rfl rfl ?_
   refine R_guard (yl rfl rfl) ?_
   refine o_move rfl rfl ?_
   refine R_guard (yl rfl rfl) ?_
   refine o_move rfl rfl ?_
   refine R_guard (yl rfl rfl) ?_
   refine o_index_P i hkids Tryz.underlying81 Tryz.sizeOf67 rfl rfl rfl rfl (by first | omega | (simp; omega)) ?_; intro b9 o9 z9 q9 hz9 hE9 hrow9
   obtain ⟨rfl, hnd9⟩ := hE9; obtain ⟨hnl9, na9, nm9, nc9, nA9, nM9, nC9, hpr9, hri9, hrk9⟩ := hnd9.open; have hn_hri9 := hri9.len; have hx_hri9 : _ ≤ 1099511627776 := hri9.lim; have hn_hrk9 := hrk9.len; have hx_hrk9 : _ ≤ 1099511627776 := hrk9.lim
   refine R_guard (yl rfl rfl) ?_
   refine o_load_P H Tryz.isAgg67 rfl rfl (hrow9 0 _ rfl) ?_
   refine R_guard (yl rfl rfl) ?_
   refine o_move rfl rfl ?_
   refine R_guard (yl rfl rfl) ?_
   refine o_callv Tryz.call170 rfl rfl rfl (i_place1_c _ _ H.sub _ hnd9 _ hnm ) ?_
   rintro _ w10 ⟨rfl, ew10⟩; have H := H.step ew10; refine ⟨_, rfl, ?_⟩
   refine R_guard (yl rfl rfl) ?_
   refine o_eql rfl rfl rfl ?_
   refine o_pick_t rfl rfl rfl ?_
   refine o_assign rfl rfl ?_
   refine o_assign rfl rfl ?_
   refine q3 ?_
   refine W_ret ?_
   refine ret_gen (rs := [.tmp 6, .tmp 7]) (vs := [_, _]) Tryz.results169 ⟨rfl, rfl, trivial⟩ ?_
   obtain rfl : i = j := by omega
   have hpl := Sp.pl_of (by omega) hlo hhi
   obtain ⟨hfd, _⟩ := Sp.fd_at hsk hz9 hlo hhi
   exact H.rets (by rw [hpl, hfd]; simp only [Sp.cmpB_eq]; rfl)
  intro hc8'
  try simp only [nrm] at hc8'
  refine R_pass rfl (yl_ne rfl rfl rfl) ?_
  refine R_pass rfl (yl_ne rfl rfl rfl) ?_
  refine R_pass rfl (yl_ne rfl rfl rfl) ?_
  refine R_pass rfl (yl_ne rfl rfl rfl) ?_
  refine R_pass rfl (yl_ne rfl rfl rfl) ?_
  refine R_pass rfl (yl_ne rfl rfl rfl) ?_
  refine R_pass rfl (yl_ne rfl rfl rfl) ?_
  refine R_pass rfl (yl_ne rfl rfl rfl) ?_
  refine o_pick_f rfl rfl rfl ?_
  refine o_assign rfl rfl ?_
  refine o_assign rfl rfl ?_
  refine q3 ?_
  refine W_ret ?_
  refine ret_gen (rs := [.tmp 6, .tmp 7]) (vs := [_, _]) Tryz.results169 ⟨rfl, rfl, trivial⟩ ?_
  obtain rfl : i = j := by omega
  have hpl := Sp.pl_of (by omega) hlo hhi
  have hfd := Sp.fd_end (nm := nm) (ks := kids) (fun k x hk hx => hlo k x (by omega) hx)
  exact H.rets (by rw [hpl, hfd]; rfl)
theorem i_place_c (w0 : World) (G0 : PH) (hG : PSub G0 w0) (t : Nd) (hndt : RdN G0 t) (nm : Bs) (hnm : nm.length ≤ 16777216) (hwt : t.wf) :
  Calls Tryz.prog 145 #[.pointer (some ⟨t.b, 0, none⟩), str nm] w0 (Rets w0 (.tuple #[.int .i64 (Sp.pl t.kids nm : Nat), .bool (Sp.fd t.kids nm).isSome])) := by
 obtain ⟨hnlt, nat, nmt, nct, nAt, nMt, nCt, hprt, hrit, hrkt⟩ := hndt.open
 have hn_hrit := hrit.len; have hx_hrit : _ ≤ 1099511627776 := hrit.lim
 have hn_hrkt := hrkt.len; have hx_hrkt : _ ≤ 1099511627776 := hrkt.lim
 have H := Hp.init hG
 refine calls_of_W (l := [.pointer (some ⟨t.b, 0, none⟩), str nm]) Tryz.func145 rfl Tryz.ntmps145 rfl ?_
 refine q2 ?_
 refine o_assign rfl rfl ?_
 refine o_assign rfl rfl ?_
 refine q1 ?_
 refine o_move rfl rfl ?_
 refine o_nilCheck rfl rfl ?_
 refine o_fieldAddr 3 Tryz.runUnderlying83 rfl Tryz.sizeOf81 rfl rfl rfl ?_
 refine o_load_P H Tryz.isAgg81 rfl rfl (hprt 3 _ rfl) ?_
 refine o_move rfl rfl ?_
 refine o_call Tryz.call169 rfl rfl (l_Search_c _ _ H.sub _ _ hrkt _ hnm ((Nd.wf_iff _).1 hwt).1 ) ?_
 rintro _ w1 ⟨rfl, ew1⟩; have H := H.step ew1; refine ⟨_, rfl, ?_⟩
 refine o_extract rfl rfl rfl ?_
 refine o_extract rfl rfl rfl ?_
 refine o_assign rfl rfl ?_
 refine o_assign rfl rfl ?_
 refine q3 ?_
 refine W_ret ?_
 refine ret_gen (rs := [.tmp 4, .tmp 5]) (vs := [_, _]) Tryz.results145 ⟨rfl, rfl, trivial⟩ ?_
 exact H.rets rfl
theorem i_at_c (w0 : World) (G0 : PH) (hG : PSub G0 w0) (t : Nd) (hndt : RdN G0 t) (vps : Value) (ps : List (Bs)) (hps : RdT G0 vps ps) (hwt : t.wf) :
  Calls Tryz.prog 97 #[.pointer (some ⟨t.b, 0, none⟩), vps] w0 (RetV w0 (fun v => (t.at_ ps = none ∧ v = .pointer none) ∨ (∃ d, t.at_ ps = some d ∧ v = .pointer (some ⟨d.b, 0, none⟩)))) := by
 obtain ⟨hnlt, nat, nmt, nct, nAt, nMt, nCt, hprt, hrit, hrkt⟩ := hndt.open
 have hn_hrit := hrit.len; have hx_hrit : _ ≤ 1099511627776 := hrit.lim
 have hn_hrkt := hrkt.len; have hx_hrkt : _ ≤ 1099511627776 := hrkt.lim
 obtain ⟨aps, kps, rfl⟩ := hps.shape
 have hlimps : ps.length ≤ 1099511627776 := hps.lim
 have H := Hp.init hG
 refine calls_of_W (l := [.pointer (some ⟨t.b, 0, none⟩), .slice aps ps.length kps]) Tryz.func97 rfl Tryz.ntmps97 rfl ?_
 refine q2 ?_
 refine o_assign rfl rfl ?_
 refine q3 ?_
 refine W_seq ?_
 refine q2 ?_
 refine o_move rfl rfl ?_
 refine o_len_slice Tryz.underlying87 rfl rfl ?_
 refine o_move rfl rfl ?_
 refine q3 ?_
 refine W_block ?_
 refine W_loop (hf := (Sub.cons (t := 9) rfl (Sub.cons (t := 10) rfl Sub.nil))) (J := fun M w m => ∃ (k : Nat) (d : Nd) (G : PH), M = [(11, .int .i64 (k : Int)), (0, .pointer (some ⟨d.b, 0, none⟩))] ∧ PLe G0 G ∧ Hp w0 G0 [] w G [] ∧ (k ≤ ps.length ∧ RdN G d ∧ d.wf ∧ t.at_ (ps.take k) = some d) ∧ m = (ps.length - k)) (h0 := ⟨0, t, _, rfl, PLe.refl _, H, ?inv, rfl⟩) (hM := ?hM) (round := ?round)
 case hM => (repeat (first | exact Sub.nil | refine Sub.cons rfl ?_))
 case inv => exact ⟨by omega, hndt, hwt, rfl⟩
 case round =>
  rintro _ w1 _ ⟨k, d, G1, rfl, hle1, H, hinv1, rfl⟩
  have hndt := hndt.up hle1
  have hprt := hprt.up hle1
  have hrit := hrit.up hle1
  have hrkt := hrkt.up hle1
  have hps := hps.up hle1
  obtain ⟨hk, hnd0, hwd, hat⟩ := hinv1; obtain ⟨hnl0, na0, nm0, nc0, nA0, nM0, nC0, hpr0, hri0, hrk0⟩ := hnd0.open; have hn_hrk0 := hrk0.len
  refine q2 ?_
  refine o_lss rfl rfl rfl ?_
  refine q3 ?_
  refine W_seq ?_
  refine W_cond rfl ?_ ?_
  ·intro hc2
   try simp only [nrm] at hc2
   refine W_skip ?_
   refine N_K ?_
   refine W_seq ?_
   refine W_block ?_
   refine q2 ?_
   refine o_index_P k hps Tryz.underlying87 Tryz.sizeOf9 rfl rfl rfl rfl (by first | omega | (simp; omega)) ?_; intro b3 o3 z3 q3 hz3 hE3 hrow3
   obtain ⟨rfl, hi3⟩ := hE3; have hy_hi3 : _ ≤ 16777216 := hi3
   refine o_load_P H Tryz.isAgg9 rfl rfl (hrow3 0 _ rfl) ?_
   refine o_assign rfl rfl ?_
   refine q1 ?_
   refine o_move rfl rfl ?_
   refine o_move rfl rfl ?_
   refine o_call Tryz.call145 rfl rfl (i_place_c _ _ H.sub _ hnd0 _ hi3 hwd) ?_
   rintro _ w4 ⟨rfl, ew4⟩; have H := H.step ew4; refine ⟨_, rfl, ?_⟩
   refine o_move rfl rfl ?_
   refine o_extract rfl rfl rfl ?_
   refine o_extract rfl rfl rfl ?_
   refine o_assign rfl rfl ?_
   refine o_assign rfl rfl ?_
   refine q3 ?_
   refine W_seq ?_
   refine q2 ?_
   refine o_move rfl rfl ?_
   refine o_not rfl rfl ?_
   refine q3 ?_
   refine W_cond rfl ?_ ?_
   ·intro hc5
    try simp only [nrm] at hc5
    refine q2 ?_
    refine o_assign rfl rfl ?_
    refine q3 ?_
    refine W_ret ?_
    refine N_K_ret ?_
    refine N_B_ret ?_
    refine N_K_ret ?_
    refine N_LP_ret ?_
    refine N_B_ret ?_
    refine N_K_ret ?_
    refine ret_gen (rs := [.tmp 4]) (vs := [_]) Tryz.results97 ⟨rfl, trivial⟩ ?_
    exact H.retV (.inl ⟨Nd.at_stop hz3 hat (by simpa [Sp.fd, Nd.kid] using hc5), rfl⟩)
   intro hc5'
   try simp only [nrm] at hc5'
   obtain ⟨q, hq⟩ := Option.isSome_iff_exists.1 hc5'
   have hpl : d.kids[Sp.pl d.kids z3]? = some q := Nd.place_some hwd hq
   have hlt : Sp.pl d.kids z3 < d.kids.length := (List.getElem?_eq_some_iff.1 hpl).1
   refine W_skip ?_
   refine N_K ?_
   refine W_region ?_
   refine o_move rfl rfl ?_
   refine o_nilCheck rfl rfl ?_
   refine o_fieldAddr 3 Tryz.runUnderlying83 rfl Tryz.sizeOf81 rfl rfl rfl ?_
   refine o_load_P H Tryz.isAgg81 rfl rfl (hpr0 3 _ rfl) ?_
   refine o_move rfl rfl ?_
   refine o_index_P (Sp.pl d.kids z3) hrk0 Tryz.underlying81 Tryz.sizeOf67 rfl rfl rfl rfl (by first | omega | (simp; omega)) ?_; intro b6 o6 z6 q6 hz6 hE6 hrow6
   obtain ⟨rfl, hnd6⟩ := hE6; obtain ⟨hnl6, na6, nm6, nc6, nA6, nM6, nC6, hpr6, hri6, hrk6⟩ := hnd6.open; have hn_hri6 := hri6.len; have hx_hri6 : _ ≤ 1099511627776 := hri6.lim; have hn_hrk6 := hrk6.len; have hx_hrk6 : _ ≤ 1099511627776 := hrk6.lim
   have hkid : Nd.kid d z3 = some z6 := by (show Sp.fd _ _ = _); rw [hq]; exact hpl.symm.trans hz6
   refine o_load_P H Tryz.isAgg67 rfl rfl (hrow6 0 _ rfl) ?_
   refine o_assign rfl rfl ?_
   refine R_nil ?_
   refine N_B ?_
   refine N_K ?_
   refine W_region ?_
   refine o_add rfl rfl rfl ⟨by omega, by omega⟩ ?_
   refine o_move rfl rfl ?_
   refine R_nil ?_
   refine N_LP (hJ := ⟨k + 1, z6, _, rfl, hle1, H, ?inv, rfl⟩) (hM := ?hM) (hf := ?hf) (hm := ?hm)
   case hM => (repeat (first | exact Sub.nil | refine Sub.cons rfl ?_))
   case hf => (repeat (first | exact Sub.nil | refine Sub.cons rfl ?_))
   case hm => omega
   case inv => exact ⟨by omega, hnd6, (((Nd.wf_iff _).1 hwd).2 _ (List.mem_of_getElem? hz6)).2, by rw [Nd.at_step hz3 hat]; exact hkid⟩
  intro hc2'
  try simp only [nrm] at hc2'
  refine W_exit ?_
  refine N_K_exit ?_
  refine N_LP_exit ?_
  refine N_B_same ?_
  refine N_K ?_
  refine q2 ?_
  refine o_move rfl rfl ?_
  refine o_assign rfl rfl ?_
  refine q3 ?_
  refine W_ret ?_
  refine ret_gen (rs := [.tmp 4]) (vs := [_]) Tryz.results97 ⟨rfl, trivial⟩ ?_
  exact H.retV (.inr ⟨d, by rw [← hat, List.take_of_length_le (by omega)], rfl⟩)
theorem i_dirOf_c (w0 : World) (G0 : PH) (hG : PSub G0 w0) (t : Nd) (hndt : RdN G0 t) (path : Bs) (hpath : path.length ≤ 16777216) (hwt : t.wf) :
  Calls Tryz.prog 96 #[.pointer (some ⟨t.b, 0, none⟩), str path] w0 (RetV w0 (fun v => (t.dirOf path = none ∧ v = .tuple #[.pointer none, str []]) ∨ (∃ d nm, t.dirOf path = some (d, nm) ∧ v = .tuple #[.pointer (some ⟨d.b, 0, none⟩), str nm]))) := by
 obtain ⟨hnlt, nat, nmt, nct, nAt, nMt, nCt, hprt, hrit, hrkt⟩ := hndt.open
 have hn_hrit := hrit.len; have hx_hrit : _ ≤ 1099511627776 := hrit.lim
 have hn_hrkt := hrkt.len; have hx_hrkt : _ ≤ 1099511627776 := hrkt.lim
 have H := Hp.init hG
 refine calls_of_W (l := [.pointer (some ⟨t.b, 0, none⟩), str path]) Tryz.func96 rfl Tryz.ntmps96 rfl ?_
 refine q2 ?_
 refine o_assign rfl rfl ?_
 refine o_assign rfl rfl ?_
 refine q1 ?_
 refine o_move rfl rfl ?_
 refine o_call Tryz.call147 rfl rfl (i_PathParts_c _ _ H.sub _ hpath ) ?_
 rintro _ w1 ⟨G1, u1_0, g1, rfl, hr1_0⟩
 have H := H.grow g1
 have hndt := hndt.up g1.le
 have hprt := hprt.up g1.le
 have hrit := hrit.up g1.le
 have hrkt := hrkt.up g1.le
 obtain ⟨a1_0, k1_0, rfl⟩ := hr1_0.shape; have hx_hr1_0 : _ ≤ 1099511627776 := hr1_0.lim
 refine ⟨_, rfl, ?_⟩
 refine o_assign rfl rfl ?_
 refine q3 ?_
 refine W_seq ?_
 refine q2 ?_
 refine o_move rfl rfl ?_
 refine o_len_slice Tryz.underlying87 rfl rfl ?_
 refine o_eql rfl rfl rfl ?_
 refine q3 ?_
 refine W_cond rfl ?_ ?_
 ·intro hc2
  try simp only [nrm] at hc2
  refine q2 ?_
  refine o_assign rfl rfl ?_
  refine o_assign rfl rfl ?_
  refine q3 ?_
  refine W_ret ?_
  refine N_K_ret ?_
  refine ret_gen (rs := [.tmp 4, .tmp 5]) (vs := [_, _]) Tryz.results96 ⟨rfl, rfl, trivial⟩ ?_
  exact H.retV (.inl ⟨Nd.dirOf_nil (by omega), rfl⟩)
 intro hc2'
 try simp only [nrm] at hc2'
 refine W_skip ?_
 refine N_K ?_
 refine q2 ?_
 refine o_move rfl rfl ?_
 refine o_len_slice Tryz.underlying87 rfl rfl ?_
 refine o_sub rfl rfl rfl ⟨by omega, by omega⟩ ?_
 refine o_assign rfl rfl ?_
 refine q1 ?_
 refine o_move rfl rfl ?_
 refine o_move rfl rfl ?_
 refine o_move rfl rfl ?_
 have hcap4 := hr1_0.cap; try simp only [List.length_set, List.length_append, List.length_take, List.length_drop, List.length_replicate] at hcap4
 refine o_slice_to (j := ((Sp.parts path).length - 1)) Tryz.underlying87 Tryz.sizeOf9 rfl rfl rfl (by omega) (by omega) ?_
 have hsl4 := hr1_0.take (j := ((Sp.parts path).length - 1)) (by first | omega | (simp; omega))
 have hsn1 := hsl4.len
 refine o_call Tryz.call97 rfl rfl (i_at_c _ _ H.sub _ hndt _ _ hsl4 hwt) ?_
 rintro _ w5 ⟨_, rfl, ew5, ⟨hat5, rfl⟩ | ⟨d5, hat5, rfl⟩⟩
 ·skip
  have H := H.step ew5; refine ⟨_, rfl, ?_⟩
  refine o_assign rfl rfl ?_
  refine q3 ?_
  refine W_seq ?_
  refine q2 ?_
  refine o_move rfl rfl ?_
  refine o_eqnil_ptr Tryz.underlying67 rfl rfl rfl ?_
  refine o_move rfl rfl ?_
  refine R_pass rfl (yl_ne rfl rfl rfl) ?_
  refine R_pass rfl (yl_ne rfl rfl rfl) ?_
  refine R_pass rfl (yl_ne rfl rfl rfl) ?_
  refine R_pass rfl (yl_ne rfl rfl rfl) ?_
  refine R_pass rfl (yl_ne rfl rfl rfl) ?_
  refine o_pick_t rfl rfl rfl ?_
  refine q3 ?_
  refine W_true rfl ?_
  refine q2 ?_
  refine o_assign rfl rfl ?_
  refine o_assign rfl rfl ?_
  refine q3 ?_
  refine W_ret ?_
  refine N_K_ret ?_
  refine ret_gen (rs := [.tmp 4, .tmp 5]) (vs := [_, _]) Tryz.results96 ⟨rfl, rfl, trivial⟩ ?_
  exact H.retV (.inl ⟨Nd.dirOf_no (by omega) hat5, rfl⟩)
 skip
 have H := H.step ew5; refine ⟨_, rfl, ?_⟩
 have hnd5 := hndt.at hat5; obtain ⟨hnl5, na5, nm5, nc5, nA5, nM5, nC5, hpr5, hri5, hrk5⟩ := hnd5.open
 have hn_hri5 := hri5.len; have hx_hri5 : _ ≤ 1099511627776 := hri5.lim
 have hn_hrk5 := hrk5.len; have hx_hrk5 : _ ≤ 1099511627776 := hrk5.lim
 refine o_assign rfl rfl ?_
 refine q3 ?_
 refine W_seq ?_
 refine q2 ?_
 refine o_move rfl rfl ?_
 refine o_eqnil_ptr Tryz.underlying67 rfl rfl rfl ?_
 refine o_move rfl rfl ?_
 refine R_guard (yl rfl rfl) ?_
 refine o_move rfl rfl ?_
 refine R_guard (yl rfl rfl) ?_
 refine o_nilCheck rfl rfl ?_
 refine R_guard (yl rfl rfl) ?_
 refine o_fieldAddr 1 Tryz.runUnderlying83 rfl Tryz.sizeOf4 rfl rfl rfl ?_
 refine R_guard (yl rfl rfl) ?_
 refine o_load_P H Tryz.isAgg4 rfl rfl (hpr5 1 _ rfl) ?_
 refine R_guard (yl rfl rfl) ?_
 refine o_not rfl rfl ?_
 refine o_pick_f rfl rfl rfl ?_
 refine q3 ?_
 refine W_cond rfl ?_ ?_
 ·intro hc6
  try simp only [nrm] at hc6
  refine q2 ?_
  refine o_assign rfl rfl ?_
  refine o_assign rfl rfl ?_
  refine q3 ?_
  refine W_ret ?_
  refine N_K_ret ?_
  refine ret_gen (rs := [.tmp 4, .tmp 5]) (vs := [_, _]) Tryz.results96 ⟨rfl, rfl, trivial⟩ ?_
  exact H.retV (.inl ⟨Nd.dirOf_nodir (by omega) hat5 (by simpa using hc6), rfl⟩)
 intro hc6'
 try simp only [nrm] at hc6'
 refine W_skip ?_
 refine N_K ?_
 refine W_seq ?_
 refine W_drawK [] 7 H (by kernel_rfl) rfl ?_; intro w7 H; have hd7 := PLe.refl G1
 refine RD_t 0 rfl (by kernel_rfl) rfl (fun _ hK => v_move rfl) ?_
 refine RD_t 1 rfl (by kernel_rfl) rfl (fun _ hK => v_move rfl) ?_
 refine RD_t 2 rfl (by kernel_rfl) rfl (fun _ hK => v_move rfl) ?_
 have hl8 := hr1_0.len
 obtain ⟨b8, o8, z8, q8, ha8, hz8, hq8, hE8, hrow8, _⟩ := hr1_0.at (i := ((Sp.parts path).length - 1)) (by omega)
 clear hq8
 obtain ⟨rfl, hi8⟩ := hE8; have hy_hi8 : _ ≤ 16777216 := hi8
 refine RD_t 3 rfl (by kernel_rfl) rfl (fun _ hK => v_index_P (i := ((Sp.parts path).length - 1)) ha8 Tryz.underlying87 Tryz.sizeOf9 rfl rfl (by omega) (by omega)) ?_
 refine RD_t 4 rfl (by kernel_rfl) rfl (fun _ hK => v_load_P hK Tryz.isAgg9 rfl (hrow8 0 _ rfl)) ?_
 refine RD_t 5 rfl (by kernel_rfl) rfl (fun _ hK => v_assign rfl) ?_
 refine RD_t 6 rfl (by kernel_rfl) rfl (fun _ hK => v_assign rfl) ?_
 refine RD_done (by kernel_rfl) ?_
 refine N_K ?_
 refine W_ret ?_
 refine ret_gen (rs := [.tmp 4, .tmp 5]) (vs := [_, _]) Tryz.results96 ⟨rfl, rfl, trivial⟩ ?_
 exact H.retV (.inr ⟨_, _, Nd.dirOf_yes (by omega) hz8 hat5 (by simpa using hc6'), rfl⟩)
theorem i_find_n_c (w0 : World) (G0 : PH) (hG : PSub G0 w0) (t : Nd) (hndt : RdN G0 t) (path : Bs) (hpath : path.length ≤ 16777216) (hwt : t.wf) :
  Calls Tryz.prog 41 #[.pointer (some ⟨t.b, 0, none⟩), str path] w0 (RetV w0 (fun v => (t.find path = none ∧ v = .pointer none) ∨ (∃ d, t.find path = some d ∧ v = .pointer (some ⟨d.b, 0, none⟩)))) := by
 obtain ⟨hnlt, nat, nmt, nct, nAt, nMt, nCt, hprt, hrit, hrkt⟩ := hndt.open
 have hn_hrit := hrit.len; have hx_hrit : _ ≤ 1099511627776 := hrit.lim
 have hn_hrkt := hrkt.len; have hx_hrkt : _ ≤ 1099511627776 := hrkt.lim
 have H := Hp.init hG
 refine calls_of_W (l := [.pointer (some ⟨t.b, 0, none⟩), str path]) Tryz.func41 rfl Tryz.ntmps41 rfl ?_
 refine q2 ?_
 refine o_assign rfl rfl ?_
 refine q1 ?_
 refine o_move rfl rfl ?_
 refine o_move rfl rfl ?_
 refine o_call Tryz.call96 rfl rfl (i_dirOf_c _ _ H.sub _ hndt _ hpath hwt) ?_
 rintro _ w1 ⟨_, rfl, ew1, ⟨hdf1, rfl⟩ | ⟨d1, nm1, hdf1, rfl⟩⟩
 ·skip
  have H := H.step ew1; refine ⟨_, rfl, ?_⟩
  refine o_move rfl rfl ?_
  refine o_extract rfl rfl rfl ?_
  refine o_extract rfl rfl rfl ?_
  refine o_assign rfl rfl ?_
  refine o_assign rfl rfl ?_
  refine q3 ?_
  refine W_seq ?_
  refine q2 ?_
  refine o_move rfl rfl ?_
  refine o_eqnil_ptr Tryz.underlying67 rfl rfl rfl ?_
  refine q3 ?_
  refine W_true rfl ?_
  refine q2 ?_
  refine o_assign rfl rfl ?_
  refine q3 ?_
  refine W_ret ?_
  refine N_K_ret ?_
  refine ret_gen (rs := [.tmp 4]) (vs := [_]) Tryz.results41 ⟨rfl, trivial⟩ ?_
  exact H.retV (.inl ⟨Nd.find_no hdf1, rfl⟩)
 skip
 have H := H.step ew1; refine ⟨_, rfl, ?_⟩
 have hnml1 := Nd.dir_len hdf1
 have hnd1 := hndt.at (Nd.dirOf_some hdf1).2.2.1; obtain ⟨hnl1, na1, nm1, nc1, nA1, nM1, nC1, hpr1, hri1, hrk1⟩ := hnd1.open
 have hn_hri1 := hri1.len; have hx_hri1 : _ ≤ 1099511627776 := hri1.lim
 have hn_hrk1 := hrk1.len; have hx_hrk1 : _ ≤ 1099511627776 := hrk1.lim
 refine o_move rfl rfl ?_
 refine o_extract rfl rfl rfl ?_
 refine o_extract rfl rfl rfl ?_
 refine o_assign rfl rfl ?_
 refine o_assign rfl rfl ?_
 refine q3 ?_
 refine W_seq ?_
 refine q2 ?_
 refine o_move rfl rfl ?_
 refine o_eqnil_ptr Tryz.underlying67 rfl rfl rfl ?_
 refine q3 ?_
 refine W_false rfl ?_
 refine W_skip ?_
 refine N_K ?_
 refine q2 ?_
 refine o_move rfl rfl ?_
 refine o_move rfl rfl ?_
 refine o_buildSlice H Tryz.underlying87 Tryz.sizeOf9 (fun w => ⟨_, Tryz.zeroValue9 w, rfl⟩) rfl rfl rfl rfl rfl rfl rfl ?_; intro b2 w2 hb2 H
 have H := H.blkAcc 1 (k := 0) (n := 1) rfl rfl (by decide)
 have hchk4 := ((Chk.nil (E := strE) (sz := 1) (G := G0)).snoc (show strE _ _ _ from ⟨rfl, hnml1⟩) rfl)
 refine o_call Tryz.call97 rfl rfl (i_at_c _ _ (H.lendSubL [0]) _ (hnd1.up (PPlus.le _ _ _)) _ _ (H.lendRdL (k := 0) (ks := [0]) rfl rfl hchk4 (by first | assumption | rfl | (simp; done) | (simp; omega) | omega) (by first | assumption | (simp; done) | (simp; omega) | omega)) (Nd.dir_wf hwt hdf1)) ?_
 rintro _ w3 ⟨_, rfl, ew3, ⟨hat3, rfl⟩ | ⟨d3, hat3, rfl⟩⟩
 ·skip
  have H := H.step ew3; refine ⟨_, rfl, ?_⟩
  refine o_assign rfl rfl ?_
  refine q3 ?_
  refine W_ret ?_
  refine ret_gen (rs := [.tmp 4]) (vs := [_]) Tryz.results41 ⟨rfl, trivial⟩ ?_
  exact H.retV (.inl ⟨(Nd.find_yes hdf1).trans hat3, rfl⟩)
 skip
 have H := H.step ew3; refine ⟨_, rfl, ?_⟩
 have hnd3 := hnd1.at hat3; obtain ⟨hnl3, na3, nm3, nc3, nA3, nM3, nC3, hpr3, hri3, hrk3⟩ := hnd3.open
 have hn_hri3 := hri3.len; have hx_hri3 : _ ≤ 1099511627776 := hri3.lim
 have hn_hrk3 := hrk3.len; have hx_hrk3 : _ ≤ 1099511627776 := hrk3.lim
 refine o_assign rfl rfl ?_
 refine q3 ?_
 refine W_ret ?_
 refine ret_gen (rs := [.tmp 4]) (vs := [_]) Tryz.results41 ⟨rfl, trivial⟩ ?_
 exact H.retV (.inr ⟨_, (Nd.find_yes hdf1).trans hat3, rfl⟩)
end Go.Proofs.Tst

namespace Go.Proofs.Tst
open Go Fw
theorem l_Insert_c (w0 : World) (G0 : PH) (hG : PSub G0 w0) (vkids : Value) (kids : List Nd) (i : Nat) (hi : i ≤ kids.length) (hkl : kids.length ≤ 1099511627776) (vbk : Nat) (k : Nd) (hLent : Lent w0 G0 [acc 67 1 vkids kids.length (ptrs kids), blk vbk (cl [ptr k.b] 67)])  :
  Calls Tryz.prog 146 #[vkids, .int .i64 (i : Int), .slice (some ⟨vbk, 0, none⟩) 1 1] w0 (RetM w0 G0 (fps [acc 67 1 vkids kids.length (ptrs kids), blk vbk (cl [ptr k.b] 67)]) (fun G' v Bs => ∃ (c : List Value), Bs = [acc 67 1 v (kids.length + 1) c] ∧ c = ptrs (kids.take i ++ k :: kids.drop i))) := by
 have H : Hp w0 G0 (fps [acc 67 1 vkids kids.length (ptrs kids), blk vbk (cl [ptr k.b] 67)]) w0 G0 [acc 67 1 vkids kids.length (ptrs kids), blk vbk (cl [ptr k.b] 67)] := hLent.hp
 obtain ⟨akids, ckids, rfl⟩ := H.accShape (k := 0) rfl
 refine calls_of_W (l := [.slice akids kids.length ckids, .int .i64 (i : Int), .slice (some ⟨vbk, 0, none⟩) 1 1]) Tryz.func146 rfl Tryz.ntmps146 rfl ?_
 refine q2 ?_
 refine o_assign rfl rfl ?_
 refine q1 ?_
 refine o_move rfl rfl ?_
 refine o_move rfl rfl ?_
 have hac1 := H.accCap (k := 0) rfl
 refine o_slice_from (i := i) Tryz.underlying81 Tryz.sizeOf67 rfl rfl rfl rfl (by omega) ?_
 refine q1 ?_
 refine o_move rfl rfl ?_
 refine o_len_slice Tryz.underlying81 rfl rfl ?_
 refine o_assign rfl rfl ?_
 refine q3 ?_
 refine W_seq ?_
 refine q2 ?_
 refine o_move rfl rfl ?_
 refine o_eql rfl rfl rfl ?_
 refine q3 ?_
 refine W_cond rfl ?_ ?_
 ·intro hc2
  try simp only [nrm] at hc2
  exact absurd hc2 (by decide)
 intro hc2'
 try simp only [nrm] at hc2'
 refine W_skip ?_
 refine N_K ?_
 refine q2 ?_
 refine o_move rfl rfl ?_
 refine o_len_slice Tryz.underlying81 rfl rfl ?_
 refine o_assign rfl rfl ?_
 refine q3 ?_
 refine W_seq ?_
 refine q2 ?_
 refine o_move rfl rfl ?_
 refine o_move rfl rfl ?_
 refine o_eql rfl rfl rfl ?_
 refine q3 ?_
 refine W_cond rfl ?_ ?_
 ·intro hc3
  try simp only [nrm] at hc3
  refine q2 ?_
  refine o_move rfl rfl ?_
  refine o_move rfl rfl ?_
  refine o_append 0 H Tryz.underlying81 Tryz.typeInfo67 ⟨_, rfl, rfl⟩ rfl rfl rfl rfl rfl rfl rfl (news := [ptr k.b]) rfl (fun j u hu => by (rw [Nat.zero_add]); exact blk_cell (k := 1) H rfl (by simpa using hu)) (by simp [ptr, Value.oneCell']) (by omega) (by decide) ?_; intro nv w4 H
  refine o_assign rfl rfl ?_
  refine q3 ?_
  refine W_ret ?_
  refine N_K_ret ?_
  refine ret_gen (rs := [.tmp 6]) (vs := [_]) Tryz.results146 ⟨rfl, trivial⟩ ?_
  have H := H.del (k := 1) rfl
  exact H.retM ⟨_, rfl, by (obtain rfl : i = kids.length := by omega); (rw [List.take_length, List.drop_length]); simp [ptrs]⟩
 intro hc3'
 try simp only [nrm] at hc3'
 obtain ⟨b0, c0, C0, hv0, _⟩ := H.accBlk (k := 0) (i := i) rfl (by omega); cases hv0
 have hvk : vbk ≠ b0 := fun e => by subst e; have := H.nd; simp [fps, acc_fp, blk] at this
 have hcc := H.accCap (k := 0) rfl
 have hcm := H.accMax (k := 0) rfl
 refine W_skip ?_
 refine N_K ?_
 refine W_seq ?_
 refine q2 ?_
 refine o_move rfl rfl ?_
 refine o_move rfl rfl ?_
 refine o_add rfl rfl rfl ⟨by omega, by omega⟩ ?_
 refine o_move rfl rfl ?_
 refine o_cap Tryz.underlying81 rfl rfl ?_
 refine o_gtr rfl rfl rfl ?_
 refine q3 ?_
 refine W_cond rfl ?_ ?_
 ·intro hc6
  try simp only [nrm] at hc6
  refine q2 ?_
  refine o_move rfl rfl ?_
  refine o_move rfl rfl ?_
  have hac7 := H.accCap (k := 0) rfl
  refine o_slice_to (j := i) Tryz.underlying81 Tryz.sizeOf67 rfl rfl rfl rfl (by omega) ?_
  refine o_move rfl rfl ?_
  refine o_move rfl rfl ?_
  refine o_add rfl rfl rfl ⟨by omega, by omega⟩ ?_
  refine o_move rfl rfl ?_
  refine o_sub rfl rfl rfl ⟨by omega, by omega⟩ ?_
  refine o_appmk 0 H (kids.length + 1 - i) Tryz.underlying81 Tryz.underlying3 Tryz.typeInfo67 rfl rfl rfl rfl rfl rfl rfl rfl (by omega) rfl (by omega) (by omega) (by omega) (by omega) ?_; intro nb nc w10 H hnb hnc
  refine o_assign rfl rfl ?_
  refine q1 ?_
  refine o_move rfl rfl ?_
  refine o_move rfl rfl ?_
  refine o_slice_from1 (i := i) Tryz.underlying81 Tryz.sizeOf67 rfl rfl rfl (by omega) (by omega) (by omega) ?_
  refine o_move rfl rfl ?_
  refine o_copy 0 H ([ptr k.b]) Tryz.underlying81 Tryz.typeInfo67 rfl rfl rfl rfl rfl (by simp [Nat.min_def] <;> (try split) <;> omega) (fun j v hj => by (rw [Addr.add_lit, Nat.zero_add]); exact blk_cell (k := 2) H rfl (by simpa using hj)) (by intro v hv; first | exact ptrs_one v (List.mem_of_mem_drop hv) | (simp at hv; subst hv; rfl)) (by simp; try omega) ?_; intro w11 H
  refine q3 ?_
  refine W_seq ?_
  refine W_drawK [2] 9 H (by kernel_rfl) rfl ?_; intro w12 H; have hd12 := PLe.refl G0
  refine RD_t 0 rfl (by kernel_rfl) rfl (fun _ hK => v_move rfl) ?_
  refine RD_t 1 rfl (by kernel_rfl) rfl (fun _ hK => v_move rfl) ?_
  refine RD_t 2 rfl (by kernel_rfl) rfl (fun _ hK => v_move rfl) ?_
  refine RD_t 3 rfl (by kernel_rfl) rfl (fun _ hK => v_add rfl rfl ⟨by omega, by omega⟩) ?_
  refine RD_t 4 rfl (by kernel_rfl) rfl (fun _ hK => v_slice_from1 (i := (i + 1)) Tryz.underlying81 Tryz.sizeOf67 rfl rfl (by omega) (by omega) (by omega)) ?_
  refine RD_t 5 rfl (by kernel_rfl) rfl (fun _ hK => v_move rfl) ?_
  refine RD_t 6 rfl (by kernel_rfl) rfl (fun _ hK => v_move rfl) ?_
  refine RD_t 7 rfl (by kernel_rfl) rfl (fun _ hK => v_slice_from1 (i := i) Tryz.underlying81 Tryz.sizeOf67 rfl rfl (by omega) (by omega) (by omega)) ?_
  refine RD_run [8] (by kernel_rfl) rfl (RDs.cons rfl ?_ RDs.nil)
  refine o_copy 0 H ((ptrs kids).drop i) Tryz.underlying81 Tryz.typeInfo67 rfl rfl rfl rfl rfl (by simp [Nat.min_def] <;> (try split) <;> omega) (fun j v hj => by (rw [Addr.add_lit]); (rw [List.getElem?_drop] at hj); exact acc_cell (k := 1) H rfl (by first | exact hj | (rw [List.getElem?_append_left (List.getElem?_eq_some_iff.1 hj).1]; exact hj))) (by intro v hv; first | exact ptrs_one v (List.mem_of_mem_drop hv) | (simp at hv; subst hv; rfl)) (by simp; try omega) ?_; intro w14 H
  refine R_nil ?_
  refine N_DK (Kn.of' H hd12 (SubL.cons 2 rfl SubL.nil)) ?_
  refine RD_done (by kernel_rfl) ?_
  refine N_K ?_
  refine q2 ?_
  refine o_move rfl rfl ?_
  refine o_assign rfl rfl ?_
  refine q3 ?_
  refine W_ret ?_
  refine N_K_ret ?_
  refine ret_gen (rs := [.tmp 6]) (vs := [_]) Tryz.results146 ⟨rfl, trivial⟩ ?_
  have H := H.del (k := 1) rfl
  have H := H.del (k := 1) rfl
  have hcx := (insC2 (x := ptr k.b) (z := .pointer none) (i := i) (r := kids.length + 1 - i) (c := ptrs kids) (by simp; omega) (by simp; omega)).trans (ptrs_ins kids k i)
  exact H.retM ⟨_, acc_1 (by omega), hcx⟩
 intro hc6'
 try simp only [nrm] at hc6'
 refine W_skip ?_
 refine N_K ?_
 refine q2 ?_
 refine o_move rfl rfl ?_
 refine o_move rfl rfl ?_
 refine o_move rfl rfl ?_
 refine o_add rfl rfl rfl ⟨by omega, by omega⟩ ?_
 refine o_slice_to (j := kids.length + 1) Tryz.underlying81 Tryz.sizeOf67 rfl rfl rfl (by omega) (by omega) ?_
 obtain ⟨zz, H⟩ := H.accMore (k := 0) rfl (by omega)
 refine o_assign rfl rfl ?_
 refine q3 ?_
 refine W_seq ?_
 refine q2 ?_
 refine o_move rfl rfl ?_
 refine o_move rfl rfl ?_
 refine o_move rfl rfl ?_
 refine o_move rfl rfl ?_
 refine o_add rfl rfl rfl ⟨by omega, by omega⟩ ?_
 refine o_slice_from1 (i := (i + 1)) Tryz.underlying81 Tryz.sizeOf67 rfl rfl rfl (by omega) (by omega) (by omega) ?_
 refine o_overlaps 0 1 H (fun args w => run_callFunc_extern Tryz.func172 (by kernel_rfl) (by kernel_rfl) (by kernel_rfl) (e := Extern.SlicesOverlaps.overlaps #[81, 81] #[4]) (by kernel_rfl) args w) Tryz.underlying81 Tryz.sizeOf67 rfl rfl rfl rfl hvk (by omega) ?_
 refine o_not rfl rfl ?_
 refine q3 ?_
 refine W_true rfl ?_
 refine W_seq ?_
 refine W_drawK [1] 9 H (by kernel_rfl) rfl ?_; intro w17 H; have hd17 := PLe.refl G0
 refine RD_t 0 rfl (by kernel_rfl) rfl (fun _ hK => v_move rfl) ?_
 refine RD_t 1 rfl (by kernel_rfl) rfl (fun _ hK => v_move rfl) ?_
 refine RD_t 2 rfl (by kernel_rfl) rfl (fun _ hK => v_move rfl) ?_
 refine RD_t 3 rfl (by kernel_rfl) rfl (fun _ hK => v_add rfl rfl ⟨by omega, by omega⟩) ?_
 refine RD_t 4 rfl (by kernel_rfl) rfl (fun _ hK => v_slice_from1 (i := (i + 1)) Tryz.underlying81 Tryz.sizeOf67 rfl rfl (by omega) (by omega) (by omega)) ?_
 refine RD_t 5 rfl (by kernel_rfl) rfl (fun _ hK => v_move rfl) ?_
 refine RD_t 6 rfl (by kernel_rfl) rfl (fun _ hK => v_move rfl) ?_
 refine RD_t 7 rfl (by kernel_rfl) rfl (fun _ hK => v_slice_from1 (i := i) Tryz.underlying81 Tryz.sizeOf67 rfl rfl (by omega) (by omega) (by omega)) ?_
 refine RD_run [8] (by kernel_rfl) rfl (RDs.cons rfl ?_ RDs.nil)
 refine o_copy 0 H ((ptrs kids).drop i) Tryz.underlying81 Tryz.typeInfo67 rfl rfl rfl rfl rfl (by simp [Nat.min_def] <;> (try split) <;> omega) (fun j v hj => by (rw [Addr.add_lit]); (rw [List.getElem?_drop] at hj); exact acc_cell (k := 0) H rfl (by first | exact hj | (rw [List.getElem?_append_left (List.getElem?_eq_some_iff.1 hj).1]; exact hj))) (by intro v hv; first | exact ptrs_one v (List.mem_of_mem_drop hv) | (simp at hv; subst hv; rfl)) (by simp; try omega) ?_; intro w19 H
 refine R_nil ?_
 refine N_DK (Kn.of' H hd17 (SubL.cons 1 rfl SubL.nil)) ?_
 refine RD_done (by kernel_rfl) ?_
 refine N_K ?_
 refine q2 ?_
 refine o_move rfl rfl ?_
 refine o_move rfl rfl ?_
 refine o_slice_from1 (i := i) Tryz.underlying81 Tryz.sizeOf67 rfl rfl rfl (by omega) (by omega) (by omega) ?_
 refine o_move rfl rfl ?_
 refine o_copy 0 H ([ptr k.b]) Tryz.underlying81 Tryz.typeInfo67 rfl rfl rfl rfl rfl (by simp [Nat.min_def] <;> (try split) <;> omega) (fun j v hj => by (rw [Addr.add_lit, Nat.zero_add]); exact blk_cell (k := 1) H rfl (by simpa using hj)) (by intro v hv; first | exact ptrs_one v (List.mem_of_mem_drop hv) | (simp at hv; subst hv; rfl)) (by simp; try omega) ?_; intro w20 H
 refine q1 ?_
 refine o_move rfl rfl ?_
 refine o_assign rfl rfl ?_
 refine q3 ?_
 refine W_ret ?_
 refine N_K_ret ?_
 refine ret_gen (rs := [.tmp 6]) (vs := [_]) Tryz.results146 ⟨rfl, trivial⟩ ?_
 have H := H.del (k := 1) rfl
 exact H.retM ⟨_, rfl, (insC (by simp; omega)).trans (ptrs_ins kids k i)⟩
theorem l_Delete_c (w0 : World) (G0 : PH) (hG : PSub G0 w0) (vkids : Value) (kids : List Nd) (i : Nat) (hi : i < kids.length) (hkl : kids.length ≤ 1099511627776)  (hLent : Lent w0 G0 [acc 67 1 vkids kids.length (ptrs kids)])  :
  Calls Tryz.prog 148 #[vkids, .int .i64 (i : Int), .int .i64 ((i : Int) + 1)] w0 (RetM w0 G0 (fps [acc 67 1 vkids kids.length (ptrs kids)]) (fun G' v Bs => ∃ (c : List Value), Bs = [acc 67 1 v (kids.length - 1) c] ∧ c = ptrs (kids.take i ++ kids.drop (i + 1)))) := by
 have H : Hp w0 G0 (fps [acc 67 1 vkids kids.length (ptrs kids)]) w0 G0 [acc 67 1 vkids kids.length (ptrs kids)] := hLent.hp
 obtain ⟨akids, ckids, rfl⟩ := H.accShape (k := 0) rfl
 refine calls_of_W (l := [.slice akids kids.length ckids, .int .i64 (i : Int), .int .i64 ((i : Int) + 1)]) Tryz.func148 rfl Tryz.ntmps148 rfl ?_
 refine q2 ?_
 refine o_assign rfl rfl ?_
 refine q1 ?_
 refine o_move rfl rfl ?_
 refine o_move rfl rfl ?_
 refine o_move rfl rfl ?_
 refine o_move rfl rfl ?_
 refine o_len_slice Tryz.underlying81 rfl rfl ?_
 have hcc := H.accCap (k := 0) rfl
 refine o_slice3 (i := i) (j := i + 1) (k := kids.length) Tryz.underlying81 Tryz.sizeOf67 rfl rfl rfl rfl rfl rfl (by omega) rfl (by omega) (by omega) (by omega) ?_
 refine q3 ?_
 refine W_seq ?_
 refine q2 ?_
 refine o_move rfl rfl ?_
 refine o_move rfl rfl ?_
 refine o_eql rfl rfl rfl ?_
 refine q3 ?_
 refine W_cond rfl ?_ ?_
 ·intro hc1
  try simp only [nrm] at hc1
  omega
 intro hc1'
 try simp only [nrm] at hc1'
 refine W_skip ?_
 refine N_K ?_
 refine q2 ?_
 refine o_move rfl rfl ?_
 refine o_len_slice Tryz.underlying81 rfl rfl ?_
 refine o_assign rfl rfl ?_
 refine q3 ?_
 refine W_seq ?_
 refine W_drawK [] 8 H (by kernel_rfl) rfl ?_; intro w2 H; have hd2 := PLe.refl G0
 refine RD_t 0 rfl (by kernel_rfl) rfl (fun _ hK => v_move rfl) ?_
 refine RD_t 1 rfl (by kernel_rfl) rfl (fun _ hK => v_move rfl) ?_
 have hac3 := H.accCap (k := 0) rfl
 refine RD_t 2 rfl (by kernel_rfl) rfl (fun _ hK => v_slice_to (j := i) Tryz.underlying81 Tryz.sizeOf67 rfl rfl rfl (by omega)) ?_
 refine RD_t 3 rfl (by kernel_rfl) rfl (fun _ hK => v_move rfl) ?_
 refine RD_t 4 rfl (by kernel_rfl) rfl (fun _ hK => v_move rfl) ?_
 have hac4 := H.accCap (k := 0) rfl
 refine RD_t 5 rfl (by kernel_rfl) rfl (fun _ hK => v_slice_from (i := (i + 1)) Tryz.underlying81 Tryz.sizeOf67 rfl rfl (by omega) (by omega)) ?_
 refine RD_run [6] (by kernel_rfl) rfl (RDs.cons rfl ?_ RDs.nil)
 refine o_append_del 0 H i rfl (chkK kids) (by intro z cs hz u hu; obtain rfl := hz; simp at hu; subst hu; rfl) Tryz.underlying81 Tryz.typeInfo67 rfl rfl rfl rfl (by omega) (by first | rfl | assumption | (simp; done) | (simp; omega) | omega) ?_; intro b5 w5 hb5 H hchk5; cases hb5
 refine R_nil ?_
 refine N_DK (Kn.of' H hd2 SubL.nil) ?_
 refine RD_t 7 rfl (by kernel_rfl) rfl (fun _ hK => v_assign rfl) ?_
 refine RD_done (by kernel_rfl) ?_
 refine N_K ?_
 refine q2 ?_
 refine o_move rfl rfl ?_
 refine o_move rfl rfl ?_
 refine o_len_slice Tryz.underlying81 rfl rfl ?_
 refine o_move rfl rfl ?_
 have hcc2 := H.accCap (k := 0) rfl
 refine o_slice_mid1 (i := i + (kids.length - (i + 1))) (j := kids.length) Tryz.underlying81 Tryz.sizeOf67 rfl rfl rfl rfl rfl rfl (by omega) (by omega) (by omega) ?_
 refine o_clear1 0 H Tryz.underlying81 Tryz.zeroValue67 rfl rfl (show od _ _ = _ from (show od _ _ = some (.slice _ (kids.length - (i + (kids.length - (i + 1)))) _) from rfl).trans (by rw [show kids.length - (i + (kids.length - (i + 1))) = 1 by omega])) rfl (by omega) (by simp; omega) ?_; intro w6 H
 refine q1 ?_
 refine o_move rfl rfl ?_
 refine o_assign rfl rfl ?_
 refine q3 ?_
 refine W_ret ?_
 refine ret_gen (rs := [.tmp 6]) (vs := [_]) Tryz.results148 ⟨rfl, trivial⟩ ?_
 exact H.retM ⟨_, acc_1 (by omega), (by (rw [Nat.mul_one, Nat.mul_one]); exact ptrs_del kids i)⟩
end Go.Proofs.Tst

namespace Go.Proofs.Tst
open Go Fw
theorem i_insert_c (w0 : World) (G0 : PH) (hG : PSub G0 w0) (Ft : Fr) (t : Nd) (hNt : NdO 83 67 G0 t Ft) (cx : List Value) (x : BItem) (hx : itemE G0 x cx) (hLent : Lent w0 G0 [frag Ft]) (hwt : t.wf) (hct : t.cnt ≤ 1000) :
  Calls Tryz.prog 95 #[.pointer (some ⟨t.b, 0, none⟩), .agg cx.toArray] w0 (RetM w0 G0 (fps [frag Ft]) (fun G' v Bs => ∃ (nb : Nat) (F' : Fr) (t' : Nd), v = .bool (t.ins x nb).isSome ∧ Bs = [frag F'] ∧ NdO 83 67 G' t' F' ∧ t'.b = t.b ∧ (t.ins x nb).getD t = t')) := by
 obtain ⟨a1, m1, c1, rfl, hi1, hr1⟩ := hx; have hy_hi1 : _ ≤ 16777216 := hi1; have hn_hr1 := hr1.len; have hx_hr1 : _ ≤ 1099511627776 := hr1.lim
 have H : Hp w0 G0 (fps [frag Ft]) w0 G0 [frag Ft] := hLent.hp
 refine calls_of_W (l := [.pointer (some ⟨t.b, 0, none⟩), _]) Tryz.func95 rfl Tryz.ntmps95 rfl ?_
 refine q2 ?_
 refine o_box H rfl rfl rfl ?_; intro b2 w2 hb2 H
 refine o_assign rfl rfl ?_
 refine q1 ?_
 refine o_move rfl rfl ?_
 refine o_fieldAddr 0 Tryz.runUnderlying39 rfl Tryz.sizeOf9 rfl rfl rfl ?_
 refine o_load_B 0 H Tryz.isAgg9 rfl rfl rfl rfl ?_
 refine o_call Tryz.call96 rfl rfl (i_dirOf_c _ _ (H.lendSubL [1]) _ ((H.lendN (k := 1) (ks := [1]) rfl rfl hNt).at (show Nd.at_ t [] = some t from rfl)) _ hi1 hwt) ?_
 rintro _ w3 ⟨_, rfl, ew3, ⟨hdf3, rfl⟩ | ⟨d3, nm3, hdf3, rfl⟩⟩
 ·skip
  have H := H.step ew3; refine ⟨_, rfl, ?_⟩
  refine o_move rfl rfl ?_
  refine o_extract rfl rfl rfl ?_
  refine o_extract rfl rfl rfl ?_
  refine o_assign rfl rfl ?_
  refine o_assign rfl rfl ?_
  refine q3 ?_
  refine W_seq ?_
  refine q2 ?_
  refine o_move rfl rfl ?_
  refine o_eqnil_ptr Tryz.underlying67 rfl rfl rfl ?_
  refine q3 ?_
  refine W_true rfl ?_
  refine q2 ?_
  refine o_assign rfl rfl ?_
  refine q3 ?_
  refine W_ret ?_
  refine N_K_ret ?_
  refine ret_gen (rs := [.tmp 4]) (vs := [_]) Tryz.results95 ⟨rfl, trivial⟩ ?_
  have H := H.del (k := 0) rfl
  exact H.retM ⟨0, _, _, by (rw [(Nd.ins_no1 hdf3)]; rfl), rfl, hNt, rfl, by (rw [(Nd.ins_no1 hdf3)]; rfl)⟩
 skip
 have H := H.step ew3; refine ⟨_, rfl, ?_⟩
 have hnml3 := Nd.dir_len hdf3
 refine o_move rfl rfl ?_
 refine o_extract rfl rfl rfl ?_
 refine o_extract rfl rfl rfl ?_
 refine o_assign rfl rfl ?_
 refine o_assign rfl rfl ?_
 refine q3 ?_
 refine W_seq ?_
 refine q2 ?_
 refine o_move rfl rfl ?_
 refine o_eqnil_ptr Tryz.underlying67 rfl rfl rfl ?_
 refine q3 ?_
 refine W_false rfl ?_
 refine W_skip ?_
 refine N_K ?_
 refine q2 ?_
 refine o_move rfl rfl ?_
 refine o_move rfl rfl ?_
 refine o_call Tryz.call145 rfl rfl (i_place_c _ _ (H.lendSubL [1]) _ ((H.lendN (k := 1) (ks := [1]) rfl rfl hNt).at (Nd.dirOf_some hdf3).2.2.1) _ hnml3 (Nd.dir_wf hwt hdf3)) ?_
 rintro _ w4 ⟨rfl, ew4⟩; have H := H.step ew4; refine ⟨_, rfl, ?_⟩
 refine o_move rfl rfl ?_
 refine o_extract rfl rfl rfl ?_
 refine o_extract rfl rfl rfl ?_
 refine o_assign rfl rfl ?_
 refine o_assign rfl rfl ?_
 refine q3 ?_
 refine W_seq ?_
 refine q2 ?_
 refine o_move rfl rfl ?_
 refine q3 ?_
 refine W_cond rfl ?_ ?_
 ·intro hc5
  try simp only [nrm] at hc5
  refine q2 ?_
  refine o_assign rfl rfl ?_
  refine q3 ?_
  refine W_ret ?_
  refine N_K_ret ?_
  refine ret_gen (rs := [.tmp 4]) (vs := [_]) Tryz.results95 ⟨rfl, trivial⟩ ?_
  have H := H.del (k := 0) rfl
  exact H.retM ⟨0, _, _, by (rw [(Nd.ins_no2 hdf3 (by simpa using hc5))]; rfl), rfl, hNt, rfl, by (rw [(Nd.ins_no2 hdf3 (by simpa using hc5))]; rfl)⟩
 intro hc5'
 try simp only [nrm] at hc5'
 have H := H.toFront (k := 1) rfl
 obtain ⟨oa, om, oc, okv, oFs, oR, H, ohri, ohNs, ohnl, ohkl, hcov, hclose⟩ := Hp.openNode H hNt (Nd.dirOf_some hdf3).2.2.1
 obtain ⟨oak, ock, rfl⟩ := H.accShape (k := 1) rfl; have hdo := PLe.refl G0; have hn_ohri := ohri.len
 refine W_skip ?_
 refine N_K ?_
 refine W_seq ?_
 refine W_drawK [3] 19 H (by kernel_rfl) rfl ?_; intro w6 H; have hd6 := PLe.refl G0
 refine RD_t 0 rfl (by kernel_rfl) rfl (fun _ hK => v_move rfl) ?_
 refine RD_t 1 rfl (by kernel_rfl) rfl (fun _ hK => v_move rfl) ?_
 refine RD_t 2 rfl (by kernel_rfl) rfl (fun _ hK => v_nilCheck rfl) ?_
 refine RD_t 3 rfl (by kernel_rfl) rfl (fun _ hK => v_fieldAddr 3 Tryz.runUnderlying83 rfl Tryz.sizeOf81 rfl rfl) ?_
 refine RD_t 5 rfl (by kernel_rfl) rfl (fun _ hK => v_move rfl) ?_
 refine RD_t 6 rfl (by kernel_rfl) rfl (fun _ hK => v_move rfl) ?_
 refine RD_t 7 rfl (by kernel_rfl) rfl (fun _ hK => v_fieldAddr 1 Tryz.runUnderlying39 rfl Tryz.sizeOf4 rfl rfl) ?_
 refine RD_t 8 rfl (by kernel_rfl) rfl (fun _ hK => v_load_B 0 hK Tryz.isAgg4 rfl rfl rfl) ?_
 refine RD_t 9 rfl (by kernel_rfl) rfl (fun _ hK => v_fieldAddr 2 Tryz.runUnderlying39 rfl Tryz.sizeOf27 rfl rfl) ?_
 refine RD_t 10 rfl (by kernel_rfl) rfl (fun _ hK => v_load_B 0 hK Tryz.isAgg27 rfl rfl rfl) ?_
 refine RD_run [4, 11] (by kernel_rfl) rfl (RDs.cons rfl ?_ (RDs.cons rfl ?_ RDs.nil))
 ·skip
  refine o_load_B 0 H Tryz.isAgg81 rfl rfl rfl rfl ?_
  refine R_nil ?_
  refine N_DK (Kn.of' H hd6 (SubL.cons 3 rfl SubL.nil)) ?_
  refine RD_run [11] (by kernel_rfl) rfl (RDs.cons rfl ?_ RDs.nil)
  refine o_call Tryz.call133 rfl rfl (l_Clone_c _ _ H.sub _ _ hr1 ) ?_
  rintro _ w7 ⟨G7, v7, _, g7, rfl, ⟨cs7, rfl, hchk7⟩, hp7, hq7, hs7⟩
  have H := H.growO g7 hp7 hq7 hs7; obtain ⟨av7, cv7, rfl⟩ := H.accShape (k := 0) rfl
  have hNt := hNt.up g7.le
  have hr1 := hr1.up g7.le
  have ohri := ohri.up g7.le
  have ohNs := ohNs.up g7.le
  have hdo := hdo.trans g7.le
  have hd6 := hd6.trans g7.le
  refine ⟨_, rfl, ?_⟩
  obtain ⟨G8, H, hsg8, hsr8⟩ := H.shutL (k := 0) rfl (H.apart (k := 0) (ks := [1, 2, 3]) rfl rfl (by intro b hb; rcases hcov b hb with h | h | h; (· exact fpsAt_mem (k := 1) rfl rfl b (by simp [blk, h])); (· exact fpsAt_mem (k := 2) rfl rfl b h); (· exact fpsAt_mem (k := 3) rfl rfl b h))) hchk7 (by first | assumption | (simp; done) | (simp; omega) | omega) (by first | assumption | (simp; done) | (simp; omega) | omega)
  have hNt := hNt.up hsg8
  have hr1 := hr1.up hsg8
  have ohri := ohri.up hsg8
  have ohNs := ohNs.up hsg8
  have hchk7 := hchk7.up hsg8
  have hdo := hdo.trans hsg8
  have hd6 := hd6.trans hsg8
  refine R_nil ?_
  refine N_DK (Kn.of' H hd6 (SubL.cons 3 rfl SubL.nil)) ?_
  refine RD_t 12 rfl (by kernel_rfl) rfl (fun _ hK => v_build bf83 rfl rfl) ?_
  refine RD_run [13] (by kernel_rfl) rfl (RDs.cons rfl ?_ RDs.nil)
  refine o_box H rfl rfl rfl ?_; intro b9 w9 hb9 H
  refine R_nil ?_
  refine N_DK (Kn.of' H hd6 (SubL.cons 4 rfl SubL.nil)) ?_
  refine RD_run [14] (by kernel_rfl) rfl (RDs.cons rfl ?_ RDs.nil)
  refine o_buildSlice H Tryz.underlying81 Tryz.sizeOf67 (fun w => ⟨_, Tryz.zeroValue67 w, rfl⟩) rfl rfl rfl rfl rfl rfl rfl ?_; intro b10 w10 hb10 H
  refine R_nil ?_
  refine N_DK (Kn.of' H hd6 (SubL.cons 5 rfl SubL.nil)) ?_
  refine RD_run [15] (by kernel_rfl) rfl (RDs.cons rfl ?_ RDs.nil)
  have H := H.toFront (k := 3) rfl
  refine o_call Tryz.call146 rfl rfl (l_Insert_c _ _ H.sub _ _ _ (Sp.pl_le d3.kids nm3) (by omega) _ (Nd.mk b9 nm3 x.dir x.ids []) H.lent2 ) ?_
  rintro _ w11 ⟨G11, _, _, rfl, H11', ⟨c11, rfl, rfl⟩⟩
  have hNt := hNt.up H11'.le
  have hr1 := hr1.up H11'.le
  have ohri := ohri.up H11'.le
  have ohNs := ohNs.up H11'.le
  have hchk7 := hchk7.up H11'.le
  have hsr8 := hsr8.up H11'.le
  have hdo := hdo.trans H11'.le
  have hd6 := hd6.trans H11'.le
  have H := H.borrow2 H11'
  obtain ⟨avAk, cvAk, rfl⟩ := H.accShape (k := 0) rfl
  refine ⟨_, rfl, ?_⟩
  refine R_nil ?_
  refine N_DK (Kn.of' H hd6 (SubL.cons 4 rfl SubL.nil)) ?_
  refine RD_t 16 rfl (by kernel_rfl) rfl (fun _ hK => v_nilCheck rfl) ?_
  refine RD_t 17 rfl (by kernel_rfl) rfl (fun _ hK => v_fieldAddr 3 Tryz.runUnderlying83 rfl Tryz.sizeOf81 rfl rfl) ?_
  refine RD_run [18] (by kernel_rfl) rfl (RDs.cons rfl ?_ RDs.nil)
  refine o_store_B 2 H Tryz.sizeOf81 rfl rfl rfl rfl rfl rfl rfl rfl ?_; intro w12 H
  refine R_nil ?_
  refine N_DK (Kn.of' H hd6 (SubL.cons 4 rfl SubL.nil)) ?_
  refine RD_done (by kernel_rfl) ?_
  refine N_K ?_
  refine q2 ?_
  refine o_assign rfl rfl ?_
  refine q3 ?_
  refine W_ret ?_
  refine ret_gen (rs := [.tmp 4]) (vs := [_]) Tryz.results95 ⟨rfl, trivial⟩ ?_
  have H := H.del (k := 4) rfl
  have H := H.toFront (k := 2) rfl
  have H := H.toFront (k := 3) rfl
  have H := H.toFront (k := 3) rfl
  have H := H.inF
  have H := H.toFront (k := 2) rfl
  have H := H.toFront (k := 2) rfl
  obtain ⟨Fs2, hp2, hN2⟩ := NdsO.ins (k := Nd.mk b9 nm3 x.dir x.ids []) (Sp.pl d3.kids nm3) ohNs (NdO.new hnml3 hsr8)
  have hcd := Nd.at_cnt (Nd.dirOf_some hdf3).2.2.1; have hcl := Nd.kids_le d3; have hpl := Sp.pl_le d3.kids nm3
  have hkl : (d3.kids.take (Sp.pl d3.kids nm3) ++ Nd.mk b9 nm3 x.dir x.ids [] :: d3.kids.drop (Sp.pl d3.kids nm3)).length = d3.kids.length + 1 := by (simp; omega)
  obtain ⟨F2, H, hN3, hb3⟩ := hclose (kids' := (d3.kids.take (Sp.pl d3.kids nm3) ++ Nd.mk b9 nm3 x.dir x.ids [] :: d3.kids.drop (Sp.pl d3.kids nm3))) (Fs' := Fs2) (by (rw [hkl]); exact H) (by (refine List.Perm.trans ?_ (List.Perm.append_right oR hp2.symm)); simp) hdo ohri hN2 (by omega)
  have hins := Nd.ins_yes (nb := b9) hdf3 (by simpa using hc5')
  exact H.retM ⟨b9, _, _, by (rw [hins]; rfl), rfl, hN3, hb3, by (rw [hins]; rfl)⟩
 skip
 refine o_call Tryz.call133 rfl rfl (l_Clone_c _ _ H.sub _ _ hr1 ) ?_
 rintro _ w13 ⟨G13, v13, _, g13, rfl, ⟨cs13, rfl, hchk13⟩, hp13, hq13, hs13⟩
 have H := H.growO g13 hp13 hq13 hs13; obtain ⟨av13, cv13, rfl⟩ := H.accShape (k := 0) rfl
 have hNt := hNt.up g13.le
 have hr1 := hr1.up g13.le
 have ohri := ohri.up g13.le
 have ohNs := ohNs.up g13.le
 have hdo := hdo.trans g13.le
 have hd6 := hd6.trans g13.le
 refine ⟨_, rfl, ?_⟩
 obtain ⟨G14, H, hsg14, hsr14⟩ := H.shutL (k := 0) rfl (H.apart (k := 0) (ks := [1, 2, 3]) rfl rfl (by intro b hb; rcases hcov b hb with h | h | h; (· exact fpsAt_mem (k := 1) rfl rfl b (by simp [blk, h])); (· exact fpsAt_mem (k := 2) rfl rfl b h); (· exact fpsAt_mem (k := 3) rfl rfl b h))) hchk13 (by first | assumption | (simp; done) | (simp; omega) | omega) (by first | assumption | (simp; done) | (simp; omega) | omega)
 have hNt := hNt.up hsg14
 have hr1 := hr1.up hsg14
 have ohri := ohri.up hsg14
 have ohNs := ohNs.up hsg14
 have hchk13 := hchk13.up hsg14
 have hdo := hdo.trans hsg14
 have hd6 := hd6.trans hsg14
 refine R_nil ?_
 refine N_DK (Kn.of' H hd6 (SubL.cons 3 rfl SubL.nil)) ?_
 refine RD_t 12 rfl (by kernel_rfl) rfl (fun _ hK => v_build bf83 rfl rfl) ?_
 refine RD_run [4, 13] (by kernel_rfl) rfl (RDs.cons rfl ?_ (RDs.cons rfl ?_ RDs.nil))
 ·skip
  refine o_load_B 0 H Tryz.isAgg81 rfl rfl rfl rfl ?_
  refine R_nil ?_
  refine N_DK (Kn.of' H hd6 (SubL.cons 3 rfl SubL.nil)) ?_
  refine RD_run [13] (by kernel_rfl) rfl (RDs.cons rfl ?_ RDs.nil)
  refine o_box H rfl rfl rfl ?_; intro b15 w15 hb15 H
  refine R_nil ?_
  refine N_DK (Kn.of' H hd6 (SubL.cons 4 rfl SubL.nil)) ?_
  refine RD_run [14] (by kernel_rfl) rfl (RDs.cons rfl ?_ RDs.nil)
  refine o_buildSlice H Tryz.underlying81 Tryz.sizeOf67 (fun w => ⟨_, Tryz.zeroValue67 w, rfl⟩) rfl rfl rfl rfl rfl rfl rfl ?_; intro b16 w16 hb16 H
  refine R_nil ?_
  refine N_DK (Kn.of' H hd6 (SubL.cons 5 rfl SubL.nil)) ?_
  refine RD_run [15] (by kernel_rfl) rfl (RDs.cons rfl ?_ RDs.nil)
  have H := H.toFront (k := 3) rfl
  refine o_call Tryz.call146 rfl rfl (l_Insert_c _ _ H.sub _ _ _ (Sp.pl_le d3.kids nm3) (by omega) _ (Nd.mk b15 nm3 x.dir x.ids []) H.lent2 ) ?_
  rintro _ w17 ⟨G17, _, _, rfl, H17', ⟨c17, rfl, rfl⟩⟩
  have hNt := hNt.up H17'.le
  have hr1 := hr1.up H17'.le
  have ohri := ohri.up H17'.le
  have ohNs := ohNs.up H17'.le
  have hchk13 := hchk13.up H17'.le
  have hsr14 := hsr14.up H17'.le
  have hdo := hdo.trans H17'.le
  have hd6 := hd6.trans H17'.le
  have H := H.borrow2 H17'
  obtain ⟨avAk, cvAk, rfl⟩ := H.accShape (k := 0) rfl
  refine ⟨_, rfl, ?_⟩
  refine R_nil ?_
  refine N_DK (Kn.of' H hd6 (SubL.cons 4 rfl SubL.nil)) ?_
  refine RD_t 16 rfl (by kernel_rfl) rfl (fun _ hK => v_nilCheck rfl) ?_
  refine RD_t 17 rfl (by kernel_rfl) rfl (fun _ hK => v_fieldAddr 3 Tryz.runUnderlying83 rfl Tryz.sizeOf81 rfl rfl) ?_
  refine RD_run [18] (by kernel_rfl) rfl (RDs.cons rfl ?_ RDs.nil)
  refine o_store_B 2 H Tryz.sizeOf81 rfl rfl rfl rfl rfl rfl rfl rfl ?_; intro w18 H
  refine R_nil ?_
  refine N_DK (Kn.of' H hd6 (SubL.cons 4 rfl SubL.nil)) ?_
  refine RD_done (by kernel_rfl) ?_
  refine N_K ?_
  refine q2 ?_
  refine o_assign rfl rfl ?_
  refine q3 ?_
  refine W_ret ?_
  refine ret_gen (rs := [.tmp 4]) (vs := [_]) Tryz.results95 ⟨rfl, trivial⟩ ?_
  have H := H.del (k := 4) rfl
  have H := H.toFront (k := 2) rfl
  have H := H.toFront (k := 3) rfl
  have H := H.toFront (k := 3) rfl
  have H := H.inF
  have H := H.toFront (k := 2) rfl
  have H := H.toFront (k := 2) rfl
  obtain ⟨Fs2, hp2, hN2⟩ := NdsO.ins (k := Nd.mk b15 nm3 x.dir x.ids []) (Sp.pl d3.kids nm3) ohNs (NdO.new hnml3 hsr14)
  have hcd := Nd.at_cnt (Nd.dirOf_some hdf3).2.2.1; have hcl := Nd.kids_le d3; have hpl := Sp.pl_le d3.kids nm3
  have hkl : (d3.kids.take (Sp.pl d3.kids nm3) ++ Nd.mk b15 nm3 x.dir x.ids [] :: d3.kids.drop (Sp.pl d3.kids nm3)).length = d3.kids.length + 1 := by (simp; omega)
  obtain ⟨F2, H, hN3, hb3⟩ := hclose (kids' := (d3.kids.take (Sp.pl d3.kids nm3) ++ Nd.mk b15 nm3 x.dir x.ids [] :: d3.kids.drop (Sp.pl d3.kids nm3))) (Fs' := Fs2) (by (rw [hkl]); exact H) (by (refine List.Perm.trans ?_ (List.Perm.append_right oR hp2.symm)); simp) hdo ohri hN2 (by omega)
  have hins := Nd.ins_yes (nb := b15) hdf3 (by simpa using hc5')
  exact H.retM ⟨b15, _, _, by (rw [hins]; rfl), rfl, hN3, hb3, by (rw [hins]; rfl)⟩
 skip
 refine o_box H rfl rfl rfl ?_; intro b19 w19 hb19 H
 refine R_nil ?_
 refine N_DK (Kn.of' H hd6 (SubL.cons 4 rfl SubL.nil)) ?_
 refine RD_run [4, 14] (by kernel_rfl) rfl (RDs.cons rfl ?_ (RDs.cons rfl ?_ RDs.nil))
 ·skip
  refine o_load_B 1 H Tryz.isAgg81 rfl rfl rfl rfl ?_
  refine R_nil ?_
  refine N_DK (Kn.of' H hd6 (SubL.cons 4 rfl SubL.nil)) ?_
  refine RD_run [14] (by kernel_rfl) rfl (RDs.cons rfl ?_ RDs.nil)
  refine o_buildSlice H Tryz.underlying81 Tryz.sizeOf67 (fun w => ⟨_, Tryz.zeroValue67 w, rfl⟩) rfl rfl rfl rfl rfl rfl rfl ?_; intro b20 w20 hb20 H
  refine R_nil ?_
  refine N_DK (Kn.of' H hd6 (SubL.cons 5 rfl SubL.nil)) ?_
  refine RD_run [15] (by kernel_rfl) rfl (RDs.cons rfl ?_ RDs.nil)
  have H := H.toFront (k := 3) rfl
  refine o_call Tryz.call146 rfl rfl (l_Insert_c _ _ H.sub _ _ _ (Sp.pl_le d3.kids nm3) (by omega) _ (Nd.mk b19 nm3 x.dir x.ids []) H.lent2 ) ?_
  rintro _ w21 ⟨G21, _, _, rfl, H21', ⟨c21, rfl, rfl⟩⟩
  have hNt := hNt.up H21'.le
  have hr1 := hr1.up H21'.le
  have ohri := ohri.up H21'.le
  have ohNs := ohNs.up H21'.le
  have hchk13 := hchk13.up H21'.le
  have hsr14 := hsr14.up H21'.le
  have hdo := hdo.trans H21'.le
  have hd6 := hd6.trans H21'.le
  have H := H.borrow2 H21'
  obtain ⟨avAk, cvAk, rfl⟩ := H.accShape (k := 0) rfl
  refine ⟨_, rfl, ?_⟩
  refine R_nil ?_
  refine N_DK (Kn.of' H hd6 (SubL.cons 4 rfl SubL.nil)) ?_
  refine RD_t 16 rfl (by kernel_rfl) rfl (fun _ hK => v_nilCheck rfl) ?_
  refine RD_t 17 rfl (by kernel_rfl) rfl (fun _ hK => v_fieldAddr 3 Tryz.runUnderlying83 rfl Tryz.sizeOf81 rfl rfl) ?_
  refine RD_run [18] (by kernel_rfl) rfl (RDs.cons rfl ?_ RDs.nil)
  refine o_store_B 2 H Tryz.sizeOf81 rfl rfl rfl rfl rfl rfl rfl rfl ?_; intro w22 H
  refine R_nil ?_
  refine N_DK (Kn.of' H hd6 (SubL.cons 4 rfl SubL.nil)) ?_
  refine RD_done (by kernel_rfl) ?_
  refine N_K ?_
  refine q2 ?_
  refine o_assign rfl rfl ?_
  refine q3 ?_
  refine W_ret ?_
  refine ret_gen (rs := [.tmp 4]) (vs := [_]) Tryz.results95 ⟨rfl, trivial⟩ ?_
  have H := H.del (k := 4) rfl
  have H := H.toFront (k := 2) rfl
  have H := H.toFront (k := 3) rfl
  have H := H.toFront (k := 3) rfl
  have H := H.inF
  have H := H.toFront (k := 2) rfl
  have H := H.toFront (k := 2) rfl
  obtain ⟨Fs2, hp2, hN2⟩ := NdsO.ins (k := Nd.mk b19 nm3 x.dir x.ids []) (Sp.pl d3.kids nm3) ohNs (NdO.new hnml3 hsr14)
  have hcd := Nd.at_cnt (Nd.dirOf_some hdf3).2.2.1; have hcl := Nd.kids_le d3; have hpl := Sp.pl_le d3.kids nm3
  have hkl : (d3.kids.take (Sp.pl d3.kids nm3) ++ Nd.mk b19 nm3 x.dir x.ids [] :: d3.kids.drop (Sp.pl d3.kids nm3)).length = d3.kids.length + 1 := by (simp; omega)
  obtain ⟨F2, H, hN3, hb3⟩ := hclose (kids' := (d3.kids.take (Sp.pl d3.kids nm3) ++ Nd.mk b19 nm3 x.dir x.ids [] :: d3.kids.drop (Sp.pl d3.kids nm3))) (Fs' := Fs2) (by (rw [hkl]); exact H) (by (refine List.Perm.trans ?_ (List.Perm.append_right oR hp2.symm)); simp) hdo ohri hN2 (by omega)
  have hins := Nd.ins_yes (nb := b19) hdf3 (by simpa using hc5')
  exact H.retM ⟨b19, _, _, by (rw [hins]; rfl), rfl, hN3, hb3, by (rw [hins]; rfl)⟩
 skip
 refine o_buildSlice H Tryz.underlying81 Tryz.sizeOf67 (fun w => ⟨_, Tryz.zeroValue67 w, rfl⟩) rfl rfl rfl rfl rfl rfl rfl ?_; intro b23 w23 hb23 H
 refine R_nil ?_
 refine N_DK (Kn.of' H hd6 (SubL.cons 5 rfl SubL.nil)) ?_
 refine RD_run [4] (by kernel_rfl) rfl (RDs.cons rfl ?_ RDs.nil)
 refine o_load_B 2 H Tryz.isAgg81 rfl rfl rfl rfl ?_
 refine R_nil ?_
 refine N_DK (Kn.of' H hd6 (SubL.cons 5 rfl SubL.nil)) ?_
 refine RD_run [15] (by kernel_rfl) rfl (RDs.cons rfl ?_ RDs.nil)
 have H := H.toFront (k := 3) rfl
 refine o_call Tryz.call146 rfl rfl (l_Insert_c _ _ H.sub _ _ _ (Sp.pl_le d3.kids nm3) (by omega) _ (Nd.mk b19 nm3 x.dir x.ids []) H.lent2 ) ?_
 rintro _ w24 ⟨G24, _, _, rfl, H24', ⟨c24, rfl, rfl⟩⟩
 have hNt := hNt.up H24'.le
 have hr1 := hr1.up H24'.le
 have ohri := ohri.up H24'.le
 have ohNs := ohNs.up H24'.le
 have hchk13 := hchk13.up H24'.le
 have hsr14 := hsr14.up H24'.le
 have hdo := hdo.trans H24'.le
 have hd6 := hd6.trans H24'.le
 have H := H.borrow2 H24'
 obtain ⟨avAk, cvAk, rfl⟩ := H.accShape (k := 0) rfl
 refine ⟨_, rfl, ?_⟩
 refine R_nil ?_
 refine N_DK (Kn.of' H hd6 (SubL.cons 4 rfl SubL.nil)) ?_
 refine RD_t 16 rfl (by kernel_rfl) rfl (fun _ hK => v_nilCheck rfl) ?_
 refine RD_t 17 rfl (by kernel_rfl) rfl (fun _ hK => v_fieldAddr 3 Tryz.runUnderlying83 rfl Tryz.sizeOf81 rfl rfl) ?_
 refine RD_run [18] (by kernel_rfl) rfl (RDs.cons rfl ?_ RDs.nil)
 refine o_store_B 2 H Tryz.sizeOf81 rfl rfl rfl rfl rfl rfl rfl rfl ?_; intro w25 H
 refine R_nil ?_
 refine N_DK (Kn.of' H hd6 (SubL.cons 4 rfl SubL.nil)) ?_
 refine RD_done (by kernel_rfl) ?_
 refine N_K ?_
 refine q2 ?_
 refine o_assign rfl rfl ?_
 refine q3 ?_
 refine W_ret ?_
 refine ret_gen (rs := [.tmp 4]) (vs := [_]) Tryz.results95 ⟨rfl, trivial⟩ ?_
 have H := H.del (k := 4) rfl
 have H := H.toFront (k := 2) rfl
 have H := H.toFront (k := 3) rfl
 have H := H.toFront (k := 3) rfl
 have H := H.inF
 have H := H.toFront (k := 2) rfl
 have H := H.toFront (k := 2) rfl
 obtain ⟨Fs2, hp2, hN2⟩ := NdsO.ins (k := Nd.mk b19 nm3 x.dir x.ids []) (Sp.pl d3.kids nm3) ohNs (NdO.new hnml3 hsr14)
 have hcd := Nd.at_cnt (Nd.dirOf_some hdf3).2.2.1; have hcl := Nd.kids_le d3; have hpl := Sp.pl_le d3.kids nm3
 have hkl : (d3.kids.take (Sp.pl d3.kids nm3) ++ Nd.mk b19 nm3 x.dir x.ids [] :: d3.kids.drop (Sp.pl d3.kids nm3)).length = d3.kids.length + 1 := by (simp; omega)
 obtain ⟨F2, H, hN3, hb3⟩ := hclose (kids' := (d3.kids.take (Sp.pl d3.kids nm3) ++ Nd.mk b19 nm3 x.dir x.ids [] :: d3.kids.drop (Sp.pl d3.kids nm3))) (Fs' := Fs2) (by (rw [hkl]); exact H) (by (refine List.Perm.trans ?_ (List.Perm.append_right oR hp2.symm)); simp) hdo ohri hN2 (by omega)
 have hins := Nd.ins_yes (nb := b19) hdf3 (by simpa using hc5')
 exact H.retM ⟨b19, _, _, by (rw [hins]; rfl), rfl, hN3, hb3, by (rw [hins]; rfl)⟩
end Go.Proofs.Tst

namespace Go.Proofs.Tst
open Go Fw
theorem i_count_r : ∀ (N : Nat) (w0 : World) (G0 : PH) (hG : PSub G0 w0) (t : Nd) (hndt : RdN G0 t) (hct : t.cnt ≤ 100000) (hsz : t.size ≤ N),
  Calls Tryz.prog 132 #[.pointer (some ⟨t.b, 0, none⟩)] w0 (Rets w0 (.int .i64 (t.cnt : Nat))) := by
 intro N
 induction N with
 | zero => intro w0 G0 hG t hndt hct hsz; exact absurd (Nd.size_pos t) (by omega)
 | succ N ih =>
 intro w0 G0 hG t hndt hct hsz
 obtain ⟨hnlt, nat, nmt, nct, nAt, nMt, nCt, hprt, hrit, hrkt⟩ := hndt.open
 have hn_hrit := hrit.len; have hx_hrit : _ ≤ 1099511627776 := hrit.lim
 have hn_hrkt := hrkt.len; have hx_hrkt : _ ≤ 1099511627776 := hrkt.lim
 subst hn_hrkt
 have H := Hp.init hG
 refine calls_of_W (l := [.pointer (some ⟨t.b, 0, none⟩)]) Tryz.func132 rfl Tryz.ntmps132 rfl ?_
 refine q2 ?_
 refine o_assign rfl rfl ?_
 refine q1 ?_
 refine o_move rfl rfl ?_
 refine o_nilCheck rfl rfl ?_
 refine o_fieldAddr 3 Tryz.runUnderlying83 rfl Tryz.sizeOf81 rfl rfl rfl ?_
 refine o_load_P H Tryz.isAgg81 rfl rfl (hprt 3 _ rfl) ?_
 refine o_len_slice Tryz.underlying81 rfl rfl ?_
 refine o_assign rfl rfl ?_
 refine q3 ?_
 refine W_seq ?_
 refine q2 ?_
 refine o_move rfl rfl ?_
 refine o_nilCheck rfl rfl ?_
 refine o_fieldAddr 3 Tryz.runUnderlying83 rfl Tryz.sizeOf81 rfl rfl rfl ?_
 refine o_load_P H Tryz.isAgg81 rfl rfl (hprt 3 _ rfl) ?_
 refine o_len_slice Tryz.underlying81 rfl rfl ?_
 refine o_move rfl rfl ?_
 refine q3 ?_
 refine W_block ?_
 refine W_loop (hf := (Sub.cons (t := 2) rfl (Sub.cons (t := 14) rfl (Sub.cons (t := 15) rfl Sub.nil)))) (J := fun M w m => ∃ (k mm : Nat) (G : PH), M = [(16, .int .i64 (k : Int)), (3, .int .i64 (mm : Int))] ∧ PLe G0 G ∧ Hp w0 G0 [] w G [] ∧ (k ≤ t.kids.length ∧ mm = Nd.cnts (t.kids.take k) + (t.kids.length - k)) ∧ m = (t.kids.length - k)) (h0 := ⟨0, t.kids.length, _, rfl, PLe.refl _, H, ?inv, rfl⟩) (hM := ?hM) (round := ?round)
 case hM => (repeat (first | exact Sub.nil | refine Sub.cons rfl ?_))
 case inv => simp [Nd.cnts]
 case round =>
  rintro _ w1 _ ⟨k, mm, G1, rfl, hle1, H, hinv1, rfl⟩
  have hndt := hndt.up hle1
  have hprt := hprt.up hle1
  have hrit := hrit.up hle1
  have hrkt := hrkt.up hle1
  obtain ⟨hk, hm⟩ := hinv1; have hct2 := Nd.cnts_take t.kids k; have hct3 := Nd.cnt_eq t; have hkl := Nd.kids_le t
  refine q2 ?_
  refine o_lss rfl rfl rfl ?_
  refine q3 ?_
  refine W_seq ?_
  refine W_cond rfl ?_ ?_
  ·intro hc2
   try simp only [nrm] at hc2
   refine W_skip ?_
   refine N_K ?_
   refine W_seq ?_
   refine W_block ?_
   refine q2 ?_
   refine o_index_P k hrkt Tryz.underlying81 Tryz.sizeOf67 rfl rfl rfl rfl (by first | omega | (simp; omega)) ?_; intro b3 o3 z3 q3 hz3 hE3 hrow3
   obtain ⟨rfl, hnd3⟩ := hE3; obtain ⟨hnl3, na3, nm3, nc3, nA3, nM3, nC3, hpr3, hri3, hrk3⟩ := hnd3.open; have hn_hri3 := hri3.len; have hx_hri3 : _ ≤ 1099511627776 := hri3.lim; have hn_hrk3 := hrk3.len; have hx_hrk3 : _ ≤ 1099511627776 := hrk3.lim
   have hzm := List.mem_of_getElem? hz3; have hzc := Nd.kid_cnt hzm; have hzs := Nd.size_kid hzm
   refine o_load_P H Tryz.isAgg67 rfl rfl (hrow3 0 _ rfl) ?_
   refine o_assign rfl rfl ?_
   refine q3 ?_
   refine W_region ?_
   refine o_move rfl rfl ?_
   refine o_move rfl rfl ?_
   refine o_call Tryz.call132 rfl rfl (ih _ _ H.sub _ hnd3 (by omega) (by omega)) ?_
   rintro _ w4 ⟨rfl, ew4⟩; have H := H.step ew4; refine ⟨_, rfl, ?_⟩
   refine o_add rfl rfl rfl ⟨by omega, by omega⟩ ?_
   refine o_assign rfl rfl ?_
   refine R_nil ?_
   refine N_B ?_
   refine N_K ?_
   refine W_region ?_
   refine o_add rfl rfl rfl ⟨by omega, by omega⟩ ?_
   refine o_move rfl rfl ?_
   refine R_nil ?_
   refine N_LP (hJ := ⟨k + 1, (mm + z3.cnt), _, rfl, hle1, H, ?inv, rfl⟩) (hM := ?hM) (hf := ?hf) (hm := ?hm)
   case hM => (repeat (first | exact Sub.nil | refine Sub.cons rfl ?_))
   case hf => (repeat (first | exact Sub.nil | refine Sub.cons rfl ?_))
   case hm => omega
   case inv => exact ⟨by omega, by (rw [Nd.cnts_succ hz3]; omega)⟩
  intro hc2'
  try simp only [nrm] at hc2'
  refine W_exit ?_
  refine N_K_exit ?_
  refine N_LP_exit ?_
  refine N_B_same ?_
  refine N_K ?_
  refine q2 ?_
  refine o_move rfl rfl ?_
  refine o_assign rfl rfl ?_
  refine q3 ?_
  refine W_ret ?_
  refine ret_gen (rs := [.tmp 2]) (vs := [_]) Tryz.results132 ⟨rfl, trivial⟩ ?_
  exact H.rets (congrArg (fun j : Nat => Value.int .i64 (j : Int)) (by (rw [hm, List.take_of_length_le (by omega)]); omega))
theorem i_count_c (w0 : World) (G0 : PH) (hG : PSub G0 w0) (t : Nd) (hndt : RdN G0 t) (hct : t.cnt ≤ 100000) :
  Calls Tryz.prog 132 #[.pointer (some ⟨t.b, 0, none⟩)] w0 (Rets w0 (.int .i64 (t.cnt : Nat))) := i_count_r _ w0 G0 hG t hndt hct (Nat.le_refl _)
theorem i_put_n_c (w0 : World) (G0 : PH) (hG : PSub G0 w0) (Ft : Fr) (t : Nd) (hNt : NdO 83 67 G0 t Ft) (cx : List Value) (x : BItem) (hx : itemE G0 x cx) (hLent : Lent w0 G0 [frag Ft]) (hwt : t.wf) (hct : t.cnt ≤ 1000) :
  Calls Tryz.prog 79 #[.pointer (some ⟨t.b, 0, none⟩), .agg cx.toArray] w0 (RetM w0 G0 (fps [frag Ft]) (fun G' v Bs => ∃ (nb : Nat) (F' : Fr) (t' : Nd), v = .bool (t.putN x nb).isSome ∧ Bs = [frag F'] ∧ NdO 83 67 G' t' F' ∧ t'.b = t.b ∧ (t.putN x nb).getD t = t')) := by
 obtain ⟨a1, m1, c1, rfl, hi1, hr1⟩ := hx; have hy_hi1 : _ ≤ 16777216 := hi1; have hn_hr1 := hr1.len; have hx_hr1 : _ ≤ 1099511627776 := hr1.lim
 have H : Hp w0 G0 (fps [frag Ft]) w0 G0 [frag Ft] := hLent.hp
 refine calls_of_W (l := [.pointer (some ⟨t.b, 0, none⟩), _]) Tryz.func79 rfl Tryz.ntmps79 rfl ?_
 refine q2 ?_
 refine o_box H rfl rfl rfl ?_; intro b2 w2 hb2 H
 refine o_assign rfl rfl ?_
 refine q1 ?_
 refine o_move rfl rfl ?_
 refine o_fieldAddr 0 Tryz.runUnderlying39 rfl Tryz.sizeOf9 rfl rfl rfl ?_
 refine o_load_B 0 H Tryz.isAgg9 rfl rfl rfl rfl ?_
 refine o_call Tryz.call41 rfl rfl (i_find_n_c _ _ (H.lendSubL [1]) _ ((H.lendN (k := 1) (ks := [1]) rfl rfl hNt).at (show Nd.at_ t [] = some t from rfl)) _ hi1 hwt) ?_
 rintro _ w3 ⟨_, rfl, ew3, ⟨hfi3, rfl⟩ | ⟨d3, hfi3, rfl⟩⟩
 ·skip
  have H := H.step ew3; refine ⟨_, rfl, ?_⟩
  refine o_assign rfl rfl ?_
  refine q3 ?_
  refine W_seq ?_
  refine q2 ?_
  refine o_move rfl rfl ?_
  refine o_eqnil_ptr Tryz.underlying67 rfl rfl rfl ?_
  refine q3 ?_
  refine W_true rfl ?_
  refine q2 ?_
  refine o_move rfl rfl ?_
  refine o_call Tryz.call132 rfl rfl (i_count_c _ _ (H.lendSubL [1]) _ ((H.lendN (k := 1) (ks := [1]) rfl rfl hNt).at (show Nd.at_ t [] = some t from rfl)) (by omega)) ?_
  rintro _ w4 ⟨rfl, ew4⟩; have H := H.step ew4; refine ⟨_, rfl, ?_⟩
  refine o_lss rfl rfl rfl ?_
  refine o_move rfl rfl ?_
  refine R_case (t := 15) rfl ?_ ?_
  ·intro hc5
   try simp only [nrm] at hc5
   refine R_guard (yl rfl rfl) ?_
   refine o_move rfl rfl ?_
   refine R_guard (yl rfl rfl) ?_
   refine o_loadagg_B 0 H Tryz.isAgg39 Tryz.sizeOf39 rfl rfl rfl rfl rfl ?_
   refine R_guard (yl rfl rfl) ?_
   have H := H.toFront (k := 1) rfl
   refine o_call Tryz.call95 rfl rfl (i_insert_c _ _ H.sub _ _ hNt _ _ ⟨_, _, _, rfl, hi1, hr1⟩ H.lent1 hwt hct) ?_
   rintro _ w6 ⟨G6, _, _, rfl, H6', ⟨nb6, F6, t6, rfl, rfl, hN6, hb6, ht6⟩⟩
   have hNt := hNt.up H6'.le
   have hr1 := hr1.up H6'.le
   have H := H.borrow1 H6'
   try rw [← hb6]
   refine ⟨_, rfl, ?_⟩
   refine o_pick_t rfl rfl rfl ?_
   refine o_assign rfl rfl ?_
   refine q3 ?_
   refine W_ret ?_
   refine N_K_ret ?_
   refine ret_gen (rs := [.tmp 4]) (vs := [_]) Tryz.results79 ⟨rfl, trivial⟩ ?_
   have H := H.del (k := 1) rfl
   have hput := Nd.put_ins (nb := nb6) hfi3 (by omega)
   exact H.retM ⟨nb6, _, _, by (rw [hput]; rfl), rfl, hN6, by (first | exact hb6 | rfl), by (rw [hput]; exact ht6)⟩
  intro hc5'
  try simp only [nrm] at hc5'
  refine R_pass rfl (yl_ne rfl rfl rfl) ?_
  refine R_pass rfl (yl_ne rfl rfl rfl) ?_
  refine R_pass rfl (yl_ne rfl rfl rfl) ?_
  refine o_pick_f rfl rfl rfl ?_
  refine o_assign rfl rfl ?_
  refine q3 ?_
  refine W_ret ?_
  refine N_K_ret ?_
  refine ret_gen (rs := [.tmp 4]) (vs := [_]) Tryz.results79 ⟨rfl, trivial⟩ ?_
  have H := H.del (k := 0) rfl
  have hput := Nd.put_no1 (nb := 0) hfi3 (by omega)
  exact H.retM ⟨0, _, _, by (rw [hput]; rfl), rfl, hNt, rfl, by (rw [hput]; rfl)⟩
 skip
 have H := H.step ew3; refine ⟨_, rfl, ?_⟩
 refine o_assign rfl rfl ?_
 refine q3 ?_
 refine W_seq ?_
 refine q2 ?_
 refine o_move rfl rfl ?_
 refine o_eqnil_ptr Tryz.underlying67 rfl rfl rfl ?_
 refine q3 ?_
 refine W_false rfl ?_
 refine W_skip ?_
 refine N_K ?_
 refine W_seq ?_
 refine q2 ?_
 have H := H.toFront (k := 1) rfl
 obtain ⟨oa, om, oc, okv, oFs, oR, H, ohri, ohNs, ohnl, ohkl, hcov, hclose⟩ := Hp.openNode H hNt (Nd.find_at_ hfi3)
 obtain ⟨oak, ock, rfl⟩ := H.accShape (k := 1) rfl; have hdo := PLe.refl G0; have hn_ohri := ohri.len
 refine o_move rfl rfl ?_
 refine o_nilCheck rfl rfl ?_
 refine o_fieldAddr 1 Tryz.runUnderlying83 rfl Tryz.sizeOf4 rfl rfl rfl ?_
 refine o_load_B 0 H Tryz.isAgg4 rfl rfl rfl rfl ?_
 refine o_move rfl rfl ?_
 refine R_case (t := 24) rfl ?_ ?_
 ·intro hc7
  try simp only [nrm] at hc7
  refine R_pass rfl (yl_ne rfl rfl rfl) ?_
  refine R_pass rfl (yl_ne rfl rfl rfl) ?_
  refine o_pick_t rfl rfl rfl ?_
  refine q3 ?_
  refine W_true rfl ?_
  refine q2 ?_
  refine o_assign rfl rfl ?_
  refine q3 ?_
  refine W_ret ?_
  refine N_K_ret ?_
  refine ret_gen (rs := [.tmp 4]) (vs := [_]) Tryz.results79 ⟨rfl, trivial⟩ ?_
  have H := H.del (k := 3) rfl
  have H := H.toFront (k := 2) rfl
  have H := H.toFront (k := 2) rfl
  have H := H.toFront (k := 2) rfl
  obtain ⟨F2, H, hN2, hb2⟩ := hclose (Fs' := oFs) H (List.Perm.refl _) hdo ohri ohNs (by omega)
  have hN2 := (Nd.upd_same (Nd.find_at_ hfi3)) ▸ hN2
  have hput := Nd.put_no2 (x := x) (nb := 0) hfi3 (by simp_all)
  exact H.retM ⟨0, _, _, by (rw [hput]; rfl), rfl, hN2, rfl, by (rw [hput]; rfl)⟩
 intro hc7'
 try simp only [nrm] at hc7'
 refine R_guard (yl rfl rfl) ?_
 refine o_fieldAddr 1 Tryz.runUnderlying39 rfl Tryz.sizeOf4 rfl rfl rfl ?_
 refine R_guard (yl rfl rfl) ?_
 refine o_load_B 3 H Tryz.isAgg4 rfl rfl rfl rfl ?_
 refine o_pick_f rfl rfl rfl ?_
 refine q3 ?_
 refine W_cond rfl ?_ ?_
 ·intro hc8
  try simp only [nrm] at hc8
  refine q2 ?_
  refine o_assign rfl rfl ?_
  refine q3 ?_
  refine W_ret ?_
  refine N_K_ret ?_
  refine ret_gen (rs := [.tmp 4]) (vs := [_]) Tryz.results79 ⟨rfl, trivial⟩ ?_
  have H := H.del (k := 3) rfl
  have H := H.toFront (k := 2) rfl
  have H := H.toFront (k := 2) rfl
  have H := H.toFront (k := 2) rfl
  obtain ⟨F2, H, hN2, hb2⟩ := hclose (Fs' := oFs) H (List.Perm.refl _) hdo ohri ohNs (by omega)
  have hN2 := (Nd.upd_same (Nd.find_at_ hfi3)) ▸ hN2
  have hput := Nd.put_no2 (x := x) (nb := 0) hfi3 (by simp_all)
  exact H.retM ⟨0, _, _, by (rw [hput]; rfl), rfl, hN2, rfl, by (rw [hput]; rfl)⟩
 intro hc8'
 try simp only [nrm] at hc8'
 refine W_skip ?_
 refine N_K ?_
 refine q2 ?_
 refine o_move rfl rfl ?_
 refine o_fieldAddr 2 Tryz.runUnderlying39 rfl Tryz.sizeOf27 rfl rfl rfl ?_
 refine o_load_B 3 H Tryz.isAgg27 rfl rfl rfl rfl ?_
 refine o_call Tryz.call133 rfl rfl (l_Clone_c _ _ H.sub _ _ hr1 ) ?_
 rintro _ w9 ⟨G9, v9, _, g9, rfl, ⟨cs9, rfl, hchk9⟩, hp9, hq9, hs9⟩
 have H := H.growO g9 hp9 hq9 hs9; obtain ⟨av9, cv9, rfl⟩ := H.accShape (k := 0) rfl
 have hNt := hNt.up g9.le
 have hr1 := hr1.up g9.le
 have ohri := ohri.up g9.le
 have ohNs := ohNs.up g9.le
 have hdo := hdo.trans g9.le
 refine ⟨_, rfl, ?_⟩
 obtain ⟨G10, H, hsg10, hsr10⟩ := H.shutL (k := 0) rfl (H.apart (k := 0) (ks := [1, 2, 3]) rfl rfl (by intro b hb; rcases hcov b hb with h | h | h; (· exact fpsAt_mem (k := 1) rfl rfl b (by simp [blk, h])); (· exact fpsAt_mem (k := 2) rfl rfl b h); (· exact fpsAt_mem (k := 3) rfl rfl b h))) hchk9 (by first | assumption | (simp; done) | (simp; omega) | omega) (by first | assumption | (simp; done) | (simp; omega) | omega)
 have hNt := hNt.up hsg10
 have hr1 := hr1.up hsg10
 have ohri := ohri.up hsg10
 have ohNs := ohNs.up hsg10
 have hchk9 := hchk9.up hsg10
 have hdo := hdo.trans hsg10
 refine o_nilCheck rfl rfl ?_
 refine o_fieldAddr 2 Tryz.runUnderlying83 rfl Tryz.sizeOf27 rfl rfl rfl ?_
 refine o_store_B 0 H Tryz.sizeOf27 rfl rfl rfl rfl rfl rfl rfl rfl ?_; intro w11 H
 refine q1 ?_
 refine o_assign rfl rfl ?_
 refine q3 ?_
 refine W_ret ?_
 refine ret_gen (rs := [.tmp 4]) (vs := [_]) Tryz.results79 ⟨rfl, trivial⟩ ?_
 have H := H.del (k := 3) rfl
 have H := H.toFront (k := 2) rfl
 have H := H.toFront (k := 2) rfl
 have H := H.toFront (k := 2) rfl
 obtain ⟨F2, H, hN2, hb2⟩ := hclose (ids' := x.ids) (Fs' := oFs) H (List.Perm.refl _) hdo hsr10 ohNs (by omega)
 have hput := Nd.put_set (nb := 0) hfi3 (by simp_all)
 exact H.retM ⟨0, _, _, by (rw [hput]; rfl), rfl, hN2, hb2, by (rw [hput]; rfl)⟩
theorem i_drop_n_c (w0 : World) (G0 : PH) (hG : PSub G0 w0) (Ft : Fr) (t : Nd) (hNt : NdO 83 67 G0 t Ft) (path : Bs) (hpath : path.length ≤ 16777216) (hLent : Lent w0 G0 [frag Ft]) (hwt : t.wf) (hct : t.cnt ≤ 1000) :
  Calls Tryz.prog 98 #[.pointer (some ⟨t.b, 0, none⟩), str path] w0 (RetM w0 G0 (fps [frag Ft]) (fun G' v Bs => ∃ (F' Fk : Fr) (t' : Nd), v = .bool (t.dropN path).isSome ∧ Bs = [frag F', frag Fk] ∧ NdO 83 67 G' t' F' ∧ t'.b = t.b ∧ (t.dropN path).getD t = t' ∧ ((t.dropN path).isSome = true → ∃ k, t.find path = some k ∧ NdO 83 67 G' k Fk))) := by
 have H : Hp w0 G0 (fps [frag Ft]) w0 G0 [frag Ft] := hLent.hp
 refine calls_of_W (l := [.pointer (some ⟨t.b, 0, none⟩), str path]) Tryz.func98 rfl Tryz.ntmps98 rfl ?_
 refine q2 ?_
 refine o_assign rfl rfl ?_
 refine q1 ?_
 refine o_move rfl rfl ?_
 refine o_move rfl rfl ?_
 refine o_call Tryz.call96 rfl rfl (i_dirOf_c _ _ (H.lendSubL [0]) _ ((H.lendN (k := 0) (ks := [0]) rfl rfl hNt).at (show Nd.at_ t [] = some t from rfl)) _ hpath hwt) ?_
 rintro _ w1 ⟨_, rfl, ew1, ⟨hdf1, rfl⟩ | ⟨d1, nm1, hdf1, rfl⟩⟩
 ·skip
  have H := H.step ew1; refine ⟨_, rfl, ?_⟩
  refine o_move rfl rfl ?_
  refine o_extract rfl rfl rfl ?_
  refine o_extract rfl rfl rfl ?_
  refine o_assign rfl rfl ?_
  refine o_assign rfl rfl ?_
  refine q3 ?_
  refine W_seq ?_
  refine q2 ?_
  refine o_move rfl rfl ?_
  refine o_eqnil_ptr Tryz.underlying67 rfl rfl rfl ?_
  refine q3 ?_
  refine W_true rfl ?_
  refine q2 ?_
  refine o_assign rfl rfl ?_
  refine q3 ?_
  refine W_ret ?_
  refine N_K_ret ?_
  refine ret_gen (rs := [.tmp 4]) (vs := [_]) Tryz.results98 ⟨rfl, trivial⟩ ?_
  have hdr := Nd.drop_no1 hdf1
  have H := (H.addF).swap0
  exact H.retM ⟨_, [], _, by (rw [hdr]; rfl), rfl, hNt, rfl, by (rw [hdr]; rfl), fun h => by rw [hdr] at h; cases h⟩
 skip
 have H := H.step ew1; refine ⟨_, rfl, ?_⟩
 have hnml1 := Nd.dir_len hdf1
 refine o_move rfl rfl ?_
 refine o_extract rfl rfl rfl ?_
 refine o_extract rfl rfl rfl ?_
 refine o_assign rfl rfl ?_
 refine o_assign rfl rfl ?_
 refine q3 ?_
 refine W_seq ?_
 refine q2 ?_
 refine o_move rfl rfl ?_
 refine o_eqnil_ptr Tryz.underlying67 rfl rfl rfl ?_
 refine q3 ?_
 refine W_false rfl ?_
 refine W_skip ?_
 refine N_K ?_
 refine q2 ?_
 refine o_move rfl rfl ?_
 refine o_move rfl rfl ?_
 refine o_call Tryz.call145 rfl rfl (i_place_c _ _ (H.lendSubL [0]) _ ((H.lendN (k := 0) (ks := [0]) rfl rfl hNt).at (Nd.dirOf_some hdf1).2.2.1) _ hnml1 (Nd.dir_wf hwt hdf1)) ?_
 rintro _ w2 ⟨rfl, ew2⟩; have H := H.step ew2; refine ⟨_, rfl, ?_⟩
 refine o_move rfl rfl ?_
 refine o_extract rfl rfl rfl ?_
 refine o_extract rfl rfl rfl ?_
 refine o_assign rfl rfl ?_
 refine o_assign rfl rfl ?_
 refine q3 ?_
 refine W_seq ?_
 refine q2 ?_
 refine o_move rfl rfl ?_
 refine o_not rfl rfl ?_
 refine o_move rfl rfl ?_
 refine R_case (t := 25) rfl ?_ ?_
 ·intro hc3
  try simp only [nrm] at hc3
  refine R_pass rfl (yl_ne rfl rfl rfl) ?_
  refine R_pass rfl (yl_ne rfl rfl rfl) ?_
  refine R_pass rfl (yl_ne rfl rfl rfl) ?_
  refine R_pass rfl (yl_ne rfl rfl rfl) ?_
  refine R_pass rfl (yl_ne rfl rfl rfl) ?_
  refine R_pass rfl (yl_ne rfl rfl rfl) ?_
  refine R_pass rfl (yl_ne rfl rfl rfl) ?_
  refine R_pass rfl (yl_ne rfl rfl rfl) ?_
  refine R_pass rfl (yl_ne rfl rfl rfl) ?_
  refine R_pass rfl (yl_ne rfl rfl rfl) ?_
  refine R_pass rfl (yl_ne rfl rfl rfl) ?_
  refine R_pass rfl (yl_ne rfl rfl rfl) ?_
  refine o_pick_t rfl rfl rfl ?_
  refine q3 ?_
  refine W_true rfl ?_
  refine q2 ?_
  refine o_assign rfl rfl ?_
  refine q3 ?_
  refine W_ret ?_
  refine N_K_ret ?_
  refine ret_gen (rs := [.tmp 4]) (vs := [_]) Tryz.results98 ⟨rfl, trivial⟩ ?_
  have hdr := Nd.drop_no2 hdf1 (by simpa using hc3)
  have H := (H.addF).swap0
  exact H.retM ⟨_, [], _, by (rw [hdr]; rfl), rfl, hNt, rfl, by (rw [hdr]; rfl), fun h => by rw [hdr] at h; cases h⟩
 intro hc3'
 try simp only [nrm] at hc3'
 obtain ⟨oa, om, oc, okv, oFs, oR, H, ohri, ohNs, ohnl, ohkl, hcov, hclose⟩ := Hp.openNode H hNt (Nd.dirOf_some hdf1).2.2.1
 obtain ⟨oak, ock, rfl⟩ := H.accShape (k := 1) rfl; have hdo := PLe.refl G0; have hn_ohri := ohri.len
 obtain ⟨kk, hq⟩ := Option.isSome_iff_exists.1 hc3'
 have hpl : d1.kids[Sp.pl d1.kids nm1]? = some kk := Nd.place_some (Nd.dir_wf hwt hdf1) hq
 have hplt := (List.getElem?_eq_some_iff.1 hpl).1; have hcd := Nd.at_cnt (Nd.dirOf_some hdf1).2.2.1; have hcl := Nd.kids_le d1
 have H := H.toFront (k := 2) rfl
 obtain ⟨ka, km, kc, ka2, kc2, kFk, kF, H, khri, khN, khNs, khp⟩ := Hp.openKid H ohNs hpl
 have hn_khri := khri.len
 refine R_guard (yl rfl rfl) ?_
 refine o_move rfl rfl ?_
 refine R_guard (yl rfl rfl) ?_
 refine o_nilCheck rfl rfl ?_
 refine R_guard (yl rfl rfl) ?_
 refine o_fieldAddr 3 Tryz.runUnderlying83 rfl Tryz.sizeOf81 rfl rfl rfl ?_
 refine R_guard (yl rfl rfl) ?_
 refine o_load_B 2 H Tryz.isAgg81 rfl rfl rfl rfl ?_
 refine R_guard (yl rfl rfl) ?_
 refine o_move rfl rfl ?_
 refine R_guard (yl rfl rfl) ?_
 refine o_index_A 3 H (Sp.pl d1.kids nm1) rfl (chkK _) Tryz.underlying81 Tryz.sizeOf67 rfl rfl rfl rfl (by first | omega | (simp; omega) | (simp; done)) (by first | rfl | assumption | (simp; done) | (simp; omega) | omega) ?_; intro ba4 z4 q4 hba4 hz4 hE4 hg4; cases hba4
 obtain rfl := hE4
 refine R_guard (yl rfl rfl) ?_
 refine o_load_A 3 H Tryz.isAgg67 rfl rfl rfl (hg4 0 _ rfl) ?_
 have hzk := Option.some.inj (hz4.symm.trans hpl); subst hzk
 refine R_guard (yl rfl rfl) ?_
 refine o_nilCheck rfl rfl ?_
 refine R_guard (yl rfl rfl) ?_
 refine o_fieldAddr 3 Tryz.runUnderlying83 rfl Tryz.sizeOf81 rfl rfl rfl ?_
 refine R_guard (yl rfl rfl) ?_
 refine o_load_B 0 H Tryz.isAgg81 rfl rfl rfl rfl ?_
 refine R_guard (yl rfl rfl) ?_
 refine o_len_slice Tryz.underlying81 rfl rfl ?_
 refine R_guard (yl rfl rfl) ?_
 refine o_gtr rfl rfl rfl ?_
 refine o_pick_f rfl rfl rfl ?_
 refine q3 ?_
 refine W_cond rfl ?_ ?_
 ·intro hc5
  try simp only [nrm] at hc5
  refine q2 ?_
  refine o_assign rfl rfl ?_
  refine q3 ?_
  refine W_ret ?_
  refine N_K_ret ?_
  refine ret_gen (rs := [.tmp 4]) (vs := [_]) Tryz.results98 ⟨rfl, trivial⟩ ?_
  have H := H.toFront (k := 3) rfl
  have H := H.toFront (k := 3) rfl
  have H := H.toFront (k := 3) rfl
  have H := H.toFront (k := 3) rfl
  have H := H.inF
  have H := H.toFront (k := 2) rfl
  have H := H.toFront (k := 2) rfl
  obtain ⟨F2, H, hN2, hb2⟩ := hclose (Fs' := oFs) H (by simpa using List.Perm.append_right oR khp.symm) hdo ohri ohNs (by omega)
  have hN2 := (Nd.upd_same (Nd.dirOf_some hdf1).2.2.1) ▸ hN2
  have hdr := Nd.drop_no3 hdf1 hq (by first | omega | (simp_all; done) | (simp_all; omega))
  have H := (H.addF).swap0
  exact H.retM ⟨_, [], _, by (rw [hdr]; rfl), rfl, hN2, rfl, by (rw [hdr]; rfl), fun h => by rw [hdr] at h; cases h⟩
 intro hc5'
 try simp only [nrm] at hc5'
 refine W_skip ?_
 refine N_K ?_
 refine q2 ?_
 refine o_move rfl rfl ?_
 refine o_move rfl rfl ?_
 refine o_nilCheck rfl rfl ?_
 refine o_fieldAddr 3 Tryz.runUnderlying83 rfl Tryz.sizeOf81 rfl rfl rfl ?_
 refine o_load_B 2 H Tryz.isAgg81 rfl rfl rfl rfl ?_
 refine o_move rfl rfl ?_
 refine o_move rfl rfl ?_
 refine o_add rfl rfl rfl ⟨by omega, by omega⟩ ?_
 have H := H.toFront (k := 3) rfl
 refine o_call Tryz.call148 rfl rfl (l_Delete_c _ _ H.sub _ _ (Sp.pl d1.kids nm1) (by omega) (by omega)  H.lent1 ) ?_
 rintro _ w7 ⟨G7, _, _, rfl, H7', ⟨c7, rfl, rfl⟩⟩
 have hNt := hNt.up H7'.le
 have ohri := ohri.up H7'.le
 have ohNs := ohNs.up H7'.le
 have khri := khri.up H7'.le
 have khN := khN.up H7'.le
 have khNs := khNs.up H7'.le
 have hdo := hdo.trans H7'.le
 have H := H.borrow1 H7'
 obtain ⟨avAk, cvAk, rfl⟩ := H.accShape (k := 0) rfl
 refine ⟨_, rfl, ?_⟩
 refine o_nilCheck rfl rfl ?_
 refine o_fieldAddr 3 Tryz.runUnderlying83 rfl Tryz.sizeOf81 rfl rfl rfl ?_
 refine o_store_B 3 H Tryz.sizeOf81 rfl rfl rfl rfl rfl rfl rfl rfl ?_; intro w8 H
 refine q1 ?_
 refine o_assign rfl rfl ?_
 refine q3 ?_
 refine W_ret ?_
 refine ret_gen (rs := [.tmp 4]) (vs := [_]) Tryz.results98 ⟨rfl, trivial⟩ ?_
 have H := H.toFront (k := 3) rfl
 have H := H.toFront (k := 3) rfl
 have H := H.toFront (k := 3) rfl
 have H := H.inF
 have H := Hp.splitF (F := (_, _) :: kFk) (F' := kF ++ oR) H
 have H := H.toFront (k := 1) rfl
 have H := H.toFront (k := 3) rfl
 have H := H.toFront (k := 3) rfl
 have hkl : (d1.kids.take (Sp.pl d1.kids nm1) ++ d1.kids.drop (Sp.pl d1.kids nm1 + 1)).length = d1.kids.length - 1 := by (simp; omega)
 obtain ⟨F2, H, hN2, hb2⟩ := hclose (kids' := (d1.kids.take (Sp.pl d1.kids nm1) ++ d1.kids.drop (Sp.pl d1.kids nm1 + 1))) (Fs' := kF) (by (rw [hkl]; exact H)) (List.Perm.refl _) hdo ohri khNs (by omega)
 have hdr := Nd.drop_yes hdf1 hq (by first | omega | (simp_all; done) | (simp_all; omega))
 exact H.retM ⟨_, _, _, by (rw [hdr]; rfl), rfl, hN2, hb2, by (rw [hdr]; rfl), fun _ => ⟨_, by (rw [Nd.find_yes hdf1, Nd.at_one]; exact hq), khN⟩⟩
end Go.Proofs.Tst

namespace Go.Proofs.Tst
open Go Fw
theorem i_openTree_c (w0 : World) (G0 : PH) (hG : PSub G0 w0) (vlist : Value) (list : List (BItem)) (hlist : RdItems G0 vlist list) (hLent : Lent w0 G0 [])  :
  Calls Tryz.prog 40 #[vlist] w0 (RetM w0 G0 [] (fun G' v Bs => (v = .tuple #[.pointer none, .bool false] ∧ Bs = [] ∧ Sp.TreeValid list = false) ∨ (∃ (T : Nd) (F : Fr), v = .tuple #[.pointer (some ⟨T.b, 0, none⟩), .bool true] ∧ Bs = [frag F] ∧ NdO 83 67 G' T F ∧ Nd.TOK T list ∧ Sp.TreeValid list = true))) := by
 obtain ⟨alist, klist, rfl⟩ := hlist.shape
 have hlimlist : list.length ≤ 1099511627776 := hlist.lim
 have H : Hp w0 G0 [] w0 G0 [] := hLent.hp
 refine calls_of_W (l := [.slice alist list.length klist]) Tryz.func40 rfl Tryz.ntmps40 rfl ?_
 refine q2 ?_
 refine o_assign rfl rfl ?_
 refine o_assign rfl rfl ?_
 refine q3 ?_
 refine W_seq ?_
 refine q2 ?_
 refine o_move rfl rfl ?_
 refine o_len_slice Tryz.underlying24 rfl rfl ?_
 refine o_gtr rfl rfl rfl ?_
 refine q3 ?_
 refine W_cond rfl ?_ ?_
 ·intro hc1
  try simp only [nrm] at hc1
  refine q2 ?_
  refine o_assign rfl rfl ?_
  refine o_assign rfl rfl ?_
  refine q3 ?_
  refine W_ret ?_
  refine N_K_ret ?_
  refine ret_gen (rs := [.tmp 2, .tmp 3]) (vs := [_, _]) Tryz.results40 ⟨rfl, rfl, trivial⟩ ?_
  exact H.retM (.inl ⟨rfl, rfl, Nd.tv_long (by omega)⟩)
 intro hc1'
 try simp only [nrm] at hc1'
 refine W_skip ?_
 refine N_K ?_
 refine q2 ?_
 refine o_build bf83 rfl rfl rfl ?_
 refine o_box H rfl rfl rfl ?_; intro b2 w2 hb2 H
 refine o_assign rfl rfl ?_
 refine q1 ?_
 refine o_assign rfl rfl ?_
 refine q3 ?_
 refine W_seq ?_
 refine q2 ?_
 refine o_move rfl rfl ?_
 refine o_len_slice Tryz.underlying24 rfl rfl ?_
 refine o_move rfl rfl ?_
 refine q3 ?_
 refine W_block ?_
 have H := H.addF
 have H := H.toFront (k := 1) rfl
 have H := H.inF
 have hN0 : NdO 83 67 G0 (Nd.mk b2 [] true [] []) _ := NdO.new (by simp) (RdS.nil _ _ _)
 refine W_loop (hf := (Sub.cons (t := 13) rfl (Sub.cons (t := 14) rfl Sub.nil))) (J := fun M w m => ∃ (k : Nat) (la : Bs) (T : Nd) (FT : Fr) (G : PH), M = [(15, .int .i64 (k : Int)), (5, str la), (4, .pointer (some ⟨T.b, 0, none⟩))] ∧ PLe G0 G ∧ Hp w0 G0 [] w G [frag FT] ∧ (k ≤ list.length ∧ la = Nd.lastPath list k ∧ la.length ≤ 16777216 ∧ NdO 83 67 G T FT ∧ Nd.TOK T (list.take k)) ∧ m = (list.length - k)) (h0 := ⟨0, [], (Nd.mk b2 [] true [] []), _, _, rfl, PLe.refl _, H, ?inv, rfl⟩) (hM := ?hM) (round := ?round)
 case hM => (repeat (first | exact Sub.nil | refine Sub.cons rfl ?_))
 case inv => exact ⟨by omega, rfl, by simp, hN0, Nd.tok_root _⟩
 case round =>
  rintro _ w3 _ ⟨k, la, T, FT, G3, rfl, hle3, H, hinv3, rfl⟩
  have hlist := hlist.up hle3
  obtain ⟨hk, hla, hlp, hNT, hTok⟩ := hinv3
  refine q2 ?_
  refine o_lss rfl rfl rfl ?_
  refine q3 ?_
  refine W_seq ?_
  refine W_cond rfl ?_ ?_
  ·intro hc4
   try simp only [nrm] at hc4
   refine W_skip ?_
   refine N_K ?_
   refine W_seq ?_
   refine W_block ?_
   refine q2 ?_
   refine o_index_P k hlist Tryz.underlying24 Tryz.sizeOf39 rfl rfl rfl rfl (by first | omega | (simp; omega)) ?_; intro b5 o5 z5 q5 hz5 hE5 hrow5
   obtain ⟨a5, m5, c5, rfl, hi5, hr5⟩ := hE5; have hy_hi5 : _ ≤ 16777216 := hi5; have hn_hr5 := hr5.len; have hx_hr5 : _ ≤ 1099511627776 := hr5.lim
   refine o_loadagg_P H Tryz.isAgg39 Tryz.sizeOf39 rfl rfl hrow5 rfl ?_
   refine o_alloc H Tryz.zeroValue39 rfl rfl ?_; intro b6 w6 hb6 H
   refine o_store_B 0 H Tryz.sizeOf39 rfl rfl rfl rfl rfl rfl rfl rfl ?_; intro w7 H
   refine q3 ?_
   refine W_seq ?_
   refine q2 ?_
   refine o_fieldAddr 0 Tryz.runUnderlying39 rfl Tryz.sizeOf9 rfl rfl rfl ?_
   refine o_load_B 0 H Tryz.isAgg9 rfl rfl rfl rfl ?_
   refine o_move rfl rfl ?_
   refine o_sleq rfl rfl rfl ?_
   refine o_move rfl rfl ?_
   refine R_case (t := 23) rfl ?_ ?_
   ·intro hc8
    try simp only [nrm] at hc8
    refine R_pass rfl (yl_ne rfl rfl rfl) ?_
    refine R_pass rfl (yl_ne rfl rfl rfl) ?_
    refine R_pass rfl (yl_ne rfl rfl rfl) ?_
    refine o_pick_t rfl rfl rfl ?_
    refine o_move rfl rfl ?_
    refine R_pass rfl (yl_ne rfl rfl rfl) ?_
    refine R_pass rfl (yl_ne rfl rfl rfl) ?_
    refine R_pass rfl (yl_ne rfl rfl rfl) ?_
    refine R_pass rfl (yl_ne rfl rfl rfl) ?_
    refine o_pick_t rfl rfl rfl ?_
    refine q3 ?_
    refine W_true rfl ?_
    refine q2 ?_
    refine o_assign rfl rfl ?_
    refine o_assign rfl rfl ?_
    refine q3 ?_
    refine W_ret ?_
    refine N_K_ret ?_
    refine N_B_ret ?_
    refine N_K_ret ?_
    refine N_LP_ret ?_
    refine N_B_ret ?_
    refine N_K_ret ?_
    refine ret_gen (rs := [.tmp 2, .tmp 3]) (vs := [_, _]) Tryz.results40 ⟨rfl, rfl, trivial⟩ ?_
    have H := H.del (k := 0) rfl
    have H := H.del (k := 0) rfl
    exact H.retM (.inl ⟨rfl, rfl, Nd.tv_false 0 hTok hz5 (.inl (by (rw [← hla]); exact Nd.leq_no (by first | simpa using hc8 | (simp at hc8; exact hc8.symm))))⟩)
   intro hc8'
   try simp only [nrm] at hc8'
   refine R_guard (yl rfl rfl) ?_
   refine o_loadagg_B 0 H Tryz.isAgg39 Tryz.sizeOf39 rfl rfl rfl rfl rfl ?_
   refine R_guard (yl rfl rfl) ?_
   refine o_call Tryz.call94 rfl rfl (i_itemValid_c _ _ H.sub _ _ ⟨_, _, _, rfl, hi5, hr5⟩ ) ?_
   rintro _ w9 ⟨rfl, ew9⟩; have H := H.step ew9; refine ⟨_, rfl, ?_⟩
   refine R_guard (yl rfl rfl) ?_
   refine o_not rfl rfl ?_
   refine o_pick_f rfl rfl rfl ?_
   refine o_move rfl rfl ?_
   refine R_case (t := 28) rfl ?_ ?_
   ·intro hc10
    try simp only [nrm] at hc10
    refine R_pass rfl (yl_ne rfl rfl rfl) ?_
    refine R_pass rfl (yl_ne rfl rfl rfl) ?_
    refine R_pass rfl (yl_ne rfl rfl rfl) ?_
    refine R_pass rfl (yl_ne rfl rfl rfl) ?_
    refine o_pick_t rfl rfl rfl ?_
    refine q3 ?_
    refine W_true rfl ?_
    refine q2 ?_
    refine o_assign rfl rfl ?_
    refine o_assign rfl rfl ?_
    refine q3 ?_
    refine W_ret ?_
    refine N_K_ret ?_
    refine N_B_ret ?_
    refine N_K_ret ?_
    refine N_LP_ret ?_
    refine N_B_ret ?_
    refine N_K_ret ?_
    refine ret_gen (rs := [.tmp 2, .tmp 3]) (vs := [_, _]) Tryz.results40 ⟨rfl, rfl, trivial⟩ ?_
    have H := H.del (k := 0) rfl
    have H := H.del (k := 0) rfl
    exact H.retM (.inl ⟨rfl, rfl, Nd.tv_false 0 hTok hz5 (.inr (.inl (by simpa using hc10)))⟩)
   intro hc10'
   try simp only [nrm] at hc10'
   refine R_guard (yl rfl rfl) ?_
   refine o_move rfl rfl ?_
   refine R_guard (yl rfl rfl) ?_
   refine o_loadagg_B 0 H Tryz.isAgg39 Tryz.sizeOf39 rfl rfl rfl rfl rfl ?_
   refine R_guard (yl rfl rfl) ?_
   have H := H.toFront (k := 1) rfl
   refine o_call Tryz.call95 rfl rfl (i_insert_c _ _ H.sub _ _ hNT _ _ ⟨_, _, _, rfl, hi5, hr5⟩ H.lent1 hTok.wf (by have := hTok.cnt; simp at this; omega)) ?_
   rintro _ w11 ⟨G11, _, _, rfl, H11', ⟨nb11, F11, t11, rfl, rfl, hN11, hb11, ht11⟩⟩
   have hlist := hlist.up H11'.le
   have hNT := hNT.up H11'.le
   have hr5 := hr5.up H11'.le
   have hrow5 := hrow5.up H11'.le
   have hle3 := hle3.trans H11'.le
   have H := H.borrow1 H11'
   try rw [← hb11]
   refine ⟨_, rfl, ?_⟩
   refine R_guard (yl rfl rfl) ?_
   refine o_not rfl rfl ?_
   refine o_pick_f rfl rfl rfl ?_
   refine q3 ?_
   refine W_cond rfl ?_ ?_
   ·intro hc12
    try simp only [nrm] at hc12
    refine q2 ?_
    refine o_assign rfl rfl ?_
    refine o_assign rfl rfl ?_
    refine q3 ?_
    refine W_ret ?_
    refine N_K_ret ?_
    refine N_B_ret ?_
    refine N_K_ret ?_
    refine N_LP_ret ?_
    refine N_B_ret ?_
    refine N_K_ret ?_
    refine ret_gen (rs := [.tmp 2, .tmp 3]) (vs := [_, _]) Tryz.results40 ⟨rfl, rfl, trivial⟩ ?_
    have H := H.del (k := 0) rfl
    have H := H.del (k := 0) rfl
    exact H.retM (.inl ⟨rfl, rfl, Nd.tv_false nb11 hTok hz5 (.inr (.inr (by simpa using hc12)))⟩)
   intro hc12'
   try simp only [nrm] at hc12'
   refine W_skip ?_
   refine N_K ?_
   refine W_region ?_
   refine o_fieldAddr 0 Tryz.runUnderlying39 rfl Tryz.sizeOf9 rfl rfl rfl ?_
   refine o_load_B 1 H Tryz.isAgg9 rfl rfl rfl rfl ?_
   refine o_assign rfl rfl ?_
   refine R_nil ?_
   refine N_B ?_
   refine N_K ?_
   refine W_region ?_
   refine o_add rfl rfl rfl ⟨by omega, by omega⟩ ?_
   refine o_move rfl rfl ?_
   refine R_nil ?_
   have H := H.del (k := 1) rfl
   refine N_LP (hJ := ⟨k + 1, z5.path, t11, F11, _, rfl, hle3, H, ?inv, rfl⟩) (hM := ?hM) (hf := ?hf) (hm := ?hm)
   case hM => (repeat (first | exact Sub.nil | refine Sub.cons rfl ?_))
   case hf => (repeat (first | exact Sub.nil | refine Sub.cons rfl ?_))
   case hm => omega
   case inv => exact ⟨by omega, (Nd.lastPath_succ hz5).symm, by assumption, hN11, Nd.open_step hTok hz5 (by omega) (by (rw [← hla]); exact Nd.leq_yes hc8'.1 hc8'.2) (by simpa using hc10') (Nd.getD_some ht11 (by simpa using hc12'))⟩
  intro hc4'
  try simp only [nrm] at hc4'
  refine W_exit ?_
  refine N_K_exit ?_
  refine N_LP_exit ?_
  refine N_B_same ?_
  refine N_K ?_
  refine q2 ?_
  refine o_move rfl rfl ?_
  refine o_assign rfl rfl ?_
  refine o_assign rfl rfl ?_
  refine q3 ?_
  refine W_ret ?_
  refine ret_gen (rs := [.tmp 2, .tmp 3]) (vs := [_, _]) Tryz.results40 ⟨rfl, rfl, trivial⟩ ?_
  have hTl : Nd.TOK T list := by (have h9 := hTok; rw [List.take_of_length_le (by omega)] at h9; exact h9)
  exact H.retM (.inr ⟨T, _, rfl, rfl, hNT, hTl, hTl.valid⟩)
end Go.Proofs.Tst

namespace Go.Proofs.Tst
open Go Fw
theorem i_listIn_r : ∀ (N : Nat) (w0 : World) (G0 : PH) (hG : PSub G0 w0) (t : Nd) (hndt : RdN G0 t) (s : Bs) (hs : s.length ≤ 16777216) (hwt : t.wf) (hsl : s.length + 6 * t.cnt ≤ 100000) (hsz : t.size ≤ N),
  Calls Tryz.prog 137 #[.pointer (some ⟨t.b, 0, none⟩), str s] w0 (RetN w0 G0 (fun v Bs => ∃ (F : Fr), Bs = [frag F] ∧ OIs F v (t.flat s))) := by
 intro N
 induction N with
 | zero => intro w0 G0 hG t hndt s hs hwt hsl hsz; exact absurd (Nd.size_pos t) (by omega)
 | succ N ih =>
 intro w0 G0 hG t hndt s hs hwt hsl hsz
 obtain ⟨hnlt, nat, nmt, nct, nAt, nMt, nCt, hprt, hrit, hrkt⟩ := hndt.open
 have hn_hrit := hrit.len; have hx_hrit : _ ≤ 1099511627776 := hrit.lim
 have hn_hrkt := hrkt.len; have hx_hrkt : _ ≤ 1099511627776 := hrkt.lim
 have H := Hp.init hG
 refine calls_of_W (l := [.pointer (some ⟨t.b, 0, none⟩), str s]) Tryz.func137 rfl Tryz.ntmps137 rfl ?_
 refine q2 ?_
 refine o_assign rfl rfl ?_
 refine q1 ?_
 refine o_assign rfl rfl ?_
 refine q3 ?_
 refine W_seq ?_
 refine q2 ?_
 refine o_move rfl rfl ?_
 refine o_nilCheck rfl rfl ?_
 refine o_fieldAddr 3 Tryz.runUnderlying83 rfl Tryz.sizeOf81 rfl rfl rfl ?_
 refine o_load_P H Tryz.isAgg81 rfl rfl (hprt 3 _ rfl) ?_
 refine o_len_slice Tryz.underlying81 rfl rfl ?_
 refine o_move rfl rfl ?_
 refine q3 ?_
 refine W_block ?_
 have H := H.addNil 39 3
 have H := H.addF
 refine W_loop (hf := (Sub.cons (t := 1) rfl (Sub.cons (t := 4) rfl (Sub.cons (t := 12) rfl (Sub.cons (t := 13) rfl Sub.nil))))) (J := fun M w m => ∃ (v : Value) (n : Nat) (cs : List Value) (xs : List (BItem)) (F : Fr) (k : Nat) (G : PH), M = [(14, .int .i64 (k : Int)), (5, v)] ∧ PLe G0 G ∧ Hp w0 G0 [] w G [frag F, acc 39 3 v n cs] ∧ (ChkF itemO 3 cs xs F ∧ n = xs.length ∧ k ≤ t.kids.length ∧ xs = Nd.flats s (t.kids.take k)) ∧ m = (t.kids.length - k)) (h0 := ⟨_, _, _, [], [], 0, _, rfl, PLe.refl _, H, ?inv, rfl⟩) (hM := ?hM) (round := ?round)
 case hM => (repeat (first | exact Sub.nil | refine Sub.cons rfl ?_))
 case inv => exact ⟨ChkF.nil,  by first | rfl | simp | (simp; omega) | omega, (by simp [Nd.flats])⟩
 case round =>
  rintro _ w2 _ ⟨v, n, cs, xs, F, k, G2, rfl, hle2, H, hinv2, rfl⟩
  have hndt := hndt.up hle2
  have hprt := hprt.up hle2
  have hrit := hrit.up hle2
  have hrkt := hrkt.up hle2
  obtain ⟨hchk2_0, hn2_0, hinv2⟩ := hinv2
  obtain ⟨av2_0, cv2_0, rfl⟩ := H.accShape (k := 1) rfl
  obtain ⟨hk, hxs⟩ := hinv2; have hxl : xs.length ≤ 100000 := by (have := Nd.flats_len s (t.kids.take k); have := Nd.cnts_take t.kids k; have := Nd.cnt_eq t; rw [hxs]; omega)
  refine q2 ?_
  refine o_lss rfl rfl rfl ?_
  refine q3 ?_
  refine W_seq ?_
  refine W_cond rfl ?_ ?_
  ·intro hc3
   try simp only [nrm] at hc3
   refine W_skip ?_
   refine N_K ?_
   refine W_seq ?_
   refine W_block ?_
   refine q2 ?_
   refine o_index_P k hrkt Tryz.underlying81 Tryz.sizeOf67 rfl rfl rfl rfl (by first | omega | (simp; omega)) ?_; intro b4 o4 z4 q4 hz4 hE4 hrow4
   obtain ⟨rfl, hnd4⟩ := hE4; obtain ⟨hnl4, na4, nm4, nc4, nA4, nM4, nC4, hpr4, hri4, hrk4⟩ := hnd4.open; have hn_hri4 := hri4.len; have hx_hri4 : _ ≤ 1099511627776 := hri4.lim; have hn_hrk4 := hrk4.len; have hx_hrk4 : _ ≤ 1099511627776 := hrk4.lim
   have hzm := List.mem_of_getElem? hz4; have hzc := Nd.kid_cnt hzm; have hzs := Nd.size_kid hzm; have hzw := ((Nd.wf_iff _).1 hwt).2 _ hzm; have hzn := Nd.word_le hzw.1; have hzf := Nd.flat_len (s ++ z4.name ++ [47]) z4
   refine o_load_P H Tryz.isAgg67 rfl rfl (hrow4 0 _ rfl) ?_
   refine o_assign rfl rfl ?_
   refine q1 ?_
   refine o_move rfl rfl ?_
   refine o_move rfl rfl ?_
   refine o_nilCheck rfl rfl ?_
   refine o_fieldAddr 0 Tryz.runUnderlying83 rfl Tryz.sizeOf9 rfl rfl rfl ?_
   refine o_load_P H Tryz.isAgg9 rfl rfl (hpr4 0 _ rfl) ?_
   refine o_sadd rfl rfl rfl (by simp only [LIM, List.length_append, List.length_cons, List.length_nil] at *; omega) ?_
   refine o_assign rfl rfl ?_
   refine q3 ?_
   refine W_seq ?_
   refine W_drawK [] 15 H (by kernel_rfl) rfl ?_; intro w5 H; have hd5 := PLe.refl G2
   refine RD_t 0 rfl (by kernel_rfl) rfl (fun _ hK => v_move rfl) ?_
   refine RD_t 1 rfl (by kernel_rfl) rfl (fun _ hK => v_move rfl) ?_
   refine RD_t 2 rfl (by kernel_rfl) rfl (fun _ hK => v_move rfl) ?_
   refine RD_t 3 rfl (by kernel_rfl) rfl (fun _ hK => v_nilCheck rfl) ?_
   refine RD_t 4 rfl (by kernel_rfl) rfl (fun _ hK => v_fieldAddr 1 Tryz.runUnderlying83 rfl Tryz.sizeOf4 rfl rfl) ?_
   refine RD_t 5 rfl (by kernel_rfl) rfl (fun _ hK => v_load_P hK Tryz.isAgg4 rfl (hpr4 1 _ rfl)) ?_
   refine RD_t 6 rfl (by kernel_rfl) rfl (fun _ hK => v_move rfl) ?_
   refine RD_t 7 rfl (by kernel_rfl) rfl (fun _ hK => v_nilCheck rfl) ?_
   refine RD_t 8 rfl (by kernel_rfl) rfl (fun _ hK => v_fieldAddr 2 Tryz.runUnderlying83 rfl Tryz.sizeOf27 rfl rfl) ?_
   refine RD_t 9 rfl (by kernel_rfl) rfl (fun _ hK => v_load_P hK Tryz.isAgg27 rfl (hpr4 2 _ rfl)) ?_
   refine RD_run [10] (by kernel_rfl) rfl (RDs.cons rfl ?_ RDs.nil)
   refine o_call Tryz.call133 rfl rfl (l_Clone_c _ _ H.sub _ _ hri4 ) ?_
   rintro _ w6 ⟨G6, v6, _, g6, rfl, ⟨cs6, rfl, hchk6⟩, hp6, hq6, hs6⟩
   have H := H.growO g6 hp6 hq6 hs6; obtain ⟨av6, cv6, rfl⟩ := H.accShape (k := 0) rfl
   have hndt := hndt.up g6.le
   have hprt := hprt.up g6.le
   have hrit := hrit.up g6.le
   have hrkt := hrkt.up g6.le
   have hnd4 := hnd4.up g6.le
   have hpr4 := hpr4.up g6.le
   have hri4 := hri4.up g6.le
   have hrk4 := hrk4.up g6.le
   have hrow4 := hrow4.up g6.le
   have hle2 := hle2.trans g6.le
   have hd5 := hd5.trans g6.le
   refine ⟨_, rfl, ?_⟩
   refine R_nil ?_
   refine N_DK (Kn.of' H hd5 SubL.nil) ?_
   refine RD_t 11 rfl (by kernel_rfl) rfl (fun _ hK => v_build bf39 rfl rfl) ?_
   refine RD_run [12] (by kernel_rfl) rfl (RDs.cons rfl ?_ RDs.nil)
   refine o_buildSlice H Tryz.underlying24 Tryz.sizeOf39 (fun w => ⟨_, Tryz.zeroValue39 w, rfl⟩) rfl rfl rfl rfl rfl rfl rfl ?_; intro b7 w7 hb7 H
   refine R_nil ?_
   refine N_DK (Kn.of' H hd5 SubL.nil) ?_
   refine RD_run [13] (by kernel_rfl) rfl (RDs.cons rfl ?_ RDs.nil)
   refine o_append1 2 H (sz := 3) (bytes := 48) Tryz.underlying24 Tryz.typeInfo39 ⟨_, rfl, rfl⟩ rfl rfl rfl rfl rfl rfl rfl rfl rfl rfl (by omega) rfl ?_; intro v8 w8 H
   obtain ⟨Fi2, H, hOI2⟩ := H.ownI (k := 0) rfl hchk6 (by first | assumption | rfl | (simp; done) | (simp; omega) | omega) (by first | assumption | (simp; done) | (simp; omega) | omega)
   have hchk8 := hchk2_0.snoc (show itemO Fi2 ⟨s ++ z4.name, z4.dir, z4.ids⟩ _ from ⟨_, _, _, rfl, (by (first | assumption | (refine Sp.l5Parent_lim ?_; assumption) | (simp; done) | (simp; omega) | omega)), hOI2⟩) rfl
   have H := H.toFront (k := 1) rfl
   have H := H.mergeF
   obtain ⟨av8, cv8, rfl⟩ := H.accShape (k := 1) rfl
   refine R_nil ?_
   refine N_DK (Kn.of' H hd5 SubL.nil) ?_
   refine RD_t 14 rfl (by kernel_rfl) rfl (fun _ hK => v_assign rfl) ?_
   refine RD_done (by kernel_rfl) ?_
   refine N_K ?_
   refine W_region ?_
   refine o_move rfl rfl ?_
   refine o_move rfl rfl ?_
   refine o_move rfl rfl ?_
   refine o_sadd rfl rfl rfl (by simp only [LIM, List.length_append, List.length_cons, List.length_nil] at *; omega) ?_
   refine o_call Tryz.call137 rfl rfl (ih _ _ H.sub _ hnd4 _ (by (first | assumption | (refine Sp.l5Parent_lim ?_; assumption) | (simp; done) | (simp; omega) | omega)) hzw.2 (by simp; omega) (by omega)) ?_
   rintro _ w9 ⟨_, _, rfl, H9', ⟨F9, rfl, hO9⟩⟩
   have H := H.readers (fp := []) (by simp) (PLe.refl _) H9'
   obtain ⟨e29, hP9⟩ := hO9
   obtain ⟨sa9, sc9, rfl⟩ := OwnS.shape hP9
   have hO9 := OIs.mk hP9
   refine ⟨_, rfl, ?_⟩
   refine o_append_F 1 H hP9 (by intro F x cs hx u hu; obtain ⟨_, _, _, rfl, _⟩ := hx; simp at hu; rcases hu with rfl | rfl | rfl <;> rfl) (sz := 3) (bytes := 48) Tryz.underlying24 Tryz.typeInfo39 ⟨_, rfl, rfl⟩ rfl rfl rfl rfl rfl rfl rfl (by omega) rfl ?_; intro v10 w10 cs10 F10_ H hck10 hmm10
   have hchk10 := hchk8.app hck10
   have H := H.toFront (k := 1) rfl
   have H := H.mergeF
   obtain ⟨av10, cv10, rfl⟩ := H.accShape (k := 1) rfl
   refine o_assign rfl rfl ?_
   refine R_nil ?_
   refine N_B ?_
   refine N_K ?_
   refine W_region ?_
   refine o_add rfl rfl rfl ⟨by omega, by omega⟩ ?_
   refine o_move rfl rfl ?_
   refine R_nil ?_
   refine N_LP (hJ := ⟨_, _, _, ((xs ++ [⟨s ++ z4.name, z4.dir, z4.ids⟩]) ++ (z4.flat (s ++ z4.name ++ [47]))), ((F ++ Fi2) ++ F10_), k + 1, _, rfl, hle2, H, ?inv, rfl⟩) (hM := ?hM) (hf := ?hf) (hm := ?hm)
   case hM => (repeat (first | exact Sub.nil | refine Sub.cons rfl ?_))
   case hf => (repeat (first | exact Sub.nil | refine Sub.cons rfl ?_))
   case hm => omega
   case inv => exact ⟨hchk10, (by first | assumption | (simp; omega) | omega), (by exact ⟨by omega, by (rw [Nd.flats_succ hz4, hxs]; simp)⟩)⟩
  intro hc3'
  try simp only [nrm] at hc3'
  refine W_exit ?_
  refine N_K_exit ?_
  refine N_LP_exit ?_
  refine N_B_same ?_
  refine N_K ?_
  refine q2 ?_
  refine o_move rfl rfl ?_
  refine o_assign rfl rfl ?_
  refine q3 ?_
  refine W_ret ?_
  refine ret_gen (rs := [.tmp 4]) (vs := [_]) Tryz.results137 ⟨rfl, trivial⟩ ?_
  have H := H.toFront (k := 1) rfl
  obtain ⟨Fo3, H, hOw3⟩ := H.ownF hchk2_0 (by first | assumption | rfl | (simp; done) | (simp; omega) | omega) (by first | assumption | (simp; done) | (simp; omega) | omega)
  have hX : xs = t.flat s := by rw [hxs, List.take_of_length_le (by omega), Nd.flat_eq]
  have H := H.forget hG (by simp)
  exact ⟨_, _, rfl, H, _, rfl, hX ▸ ⟨_, hOw3⟩⟩
theorem i_listIn_c (w0 : World) (G0 : PH) (hG : PSub G0 w0) (t : Nd) (hndt : RdN G0 t) (s : Bs) (hs : s.length ≤ 16777216) (hwt : t.wf) (hsl : s.length + 6 * t.cnt ≤ 100000) :
  Calls Tryz.prog 137 #[.pointer (some ⟨t.b, 0, none⟩), str s] w0 (RetN w0 G0 (fun v Bs => ∃ (F : Fr), Bs = [frag F] ∧ OIs F v (t.flat s))) := i_listIn_r _ w0 G0 hG t hndt s hs hwt hsl (Nat.le_refl _)
theorem i_tlist_c (w0 : World) (G0 : PH) (hG : PSub G0 w0) (t : Nd) (hndt : RdN G0 t) (hwt : t.wf) (hct : t.cnt ≤ 1000) :
  Calls Tryz.prog 82 #[.pointer (some ⟨t.b, 0, none⟩)] w0 (RetN w0 G0 (fun v Bs => ∃ (F : Fr), Bs = [frag F] ∧ OIs F v (t.flat []))) := by
 obtain ⟨hnlt, nat, nmt, nct, nAt, nMt, nCt, hprt, hrit, hrkt⟩ := hndt.open
 have hn_hrit := hrit.len; have hx_hrit : _ ≤ 1099511627776 := hrit.lim
 have hn_hrkt := hrkt.len; have hx_hrkt : _ ≤ 1099511627776 := hrkt.lim
 have H := Hp.init hG
 refine calls_of_W (l := [.pointer (some ⟨t.b, 0, none⟩)]) Tryz.func82 rfl Tryz.ntmps82 rfl ?_
 refine q2 ?_
 refine o_assign rfl rfl ?_
 refine q1 ?_
 refine o_move rfl rfl ?_
 refine o_call Tryz.call137 rfl rfl (i_listIn_c _ _ H.sub _ hndt _ (by (first | assumption | (refine Sp.l5Parent_lim ?_; assumption) | (simp; done) | (simp; omega) | omega)) hwt (by simp; omega)) ?_
 rintro _ w1 ⟨_, _, rfl, H1', ⟨F1, rfl, hO1⟩⟩
 have H := H.readers (fp := []) (by simp) (PLe.refl _) H1'
 obtain ⟨e21, hP1⟩ := hO1
 obtain ⟨sa1, sc1, rfl⟩ := OwnS.shape hP1
 have hO1 := OIs.mk hP1
 refine ⟨_, rfl, ?_⟩
 refine o_assign rfl rfl ?_
 refine q3 ?_
 refine W_ret ?_
 refine ret_gen (rs := [.tmp 2]) (vs := [_]) Tryz.results82 ⟨rfl, trivial⟩ ?_
 have H := H.forget hG (by simp)
 exact ⟨_, _, rfl, H, _, rfl, hO1⟩
end Go.Proofs.Tst

namespace Go.Proofs.Tst
open Go Fw
end Go.Proofs.Tst

namespace Go.Proofs.Tst
open Go Fw
theorem i_usedBy_c (w0 : World) (G0 : PH) (hG : PSub G0 w0) (mbs : Nat) (ess : Array MapEntry) (cks : Nat) (xss : List (Int × Value)) (Ls : List BHeld) (hbs : MapAt G0 mbs ess cks) (hms : MapIs (Value.int .i64) ess cks xss) (hSs : StR G0 xss Ls) (hVs : Sp.VH Ls) (vtrees : Value) (trees : List (Nd)) (htrees : RdNd G0 vtrees trees) (htl : trees.length ≤ 7) (htw : ∀ t, t ∈ trees → t.wf ∧ t.cnt ≤ 12) :
  Calls Tryz.prog 75 #[.map (some mbs), vtrees] w0 (Rets w0 (.bool (trees.all (fun t => (t.flat []).all (fun x => Sp.l4Ids Ls x.ids)) && Ls.all (fun h => decide ((Sp.cntT trees h.id : Int) = h.uses))))) := by
 obtain ⟨atrees, ktrees, rfl⟩ := htrees.shape
 have hlimtrees : trees.length ≤ 1099511627776 := htrees.lim
 have H := Hp.init hG
 refine calls_of_W (l := [.map (some mbs), .slice atrees trees.length ktrees]) Tryz.func75 rfl Tryz.ntmps75 rfl ?_
 refine q2 ?_
 refine o_assign rfl rfl ?_
 refine q1 ?_
 refine o_makeMap H rfl ?_; intro b1 w1 hb1 H
 have hm1 := MapIs.empty (key := Value.int .i64) 0
 have hS1 := UsR.nil
 refine o_assign rfl rfl ?_
 refine q3 ?_
 refine W_seq ?_
 refine q2 ?_
 refine o_move rfl rfl ?_
 refine o_len_slice Tryz.underlying81 rfl rfl ?_
 refine o_move rfl rfl ?_
 refine q3 ?_
 refine W_block ?_
 refine W_loop (hf := (Sub.cons (t := 0) rfl (Sub.cons (t := 5) rfl (Sub.cons (t := 15) rfl (Sub.cons (t := 16) rfl Sub.nil))))) (J := fun M w m => ∃ (esm0 : Array MapEntry) (ckm0 : Nat) (xsm0 : List (Int × Value)) (fm0 : Int → Nat) (i : Nat) (G : PH), M = [(17, .int .i64 (i : Int))] ∧ PLe G0 G ∧ Hp w0 G0 [] w G [blk b1 (.map esm0 ckm0)] ∧ (MapIs (Value.int .i64) esm0 ckm0 xsm0 ∧ UsR xsm0 fm0 ∧ i ≤ trees.length ∧ (∀ a, fm0 a = Sp.cntT (trees.take i) a ∧ fm0 a ≤ 48 * i) ∧ (trees.take i).all (fun t => (t.flat []).all (fun x => Sp.l4Ids Ls x.ids)) = true) ∧ m = (trees.length - i)) (h0 := ⟨_, _, [], (fun _ => 0), 0, _, rfl, PLe.refl _, H, ?inv, rfl⟩) (hM := ?hM) (round := ?round)
 case hM => (repeat (first | exact Sub.nil | refine Sub.cons rfl ?_))
 case inv => exact ⟨hm1, hS1, (by simp [Sp.cntT])⟩
 case round =>
  rintro _ w2 _ ⟨esm0, ckm0, xsm0, fm0, i, G2, rfl, hle2, H, hinv2, rfl⟩
  have hSs := hSs.up hle2
  have hbs := hbs.up hle2
  have htrees := htrees.up hle2
  obtain ⟨hm2_m0, hS2_m0, hinv2⟩ := hinv2
  obtain ⟨hi, hf, hok⟩ := hinv2
  refine q2 ?_
  refine o_lss rfl rfl rfl ?_
  refine q3 ?_
  refine W_seq ?_
  refine W_cond rfl ?_ ?_
  ·intro hc3
   try simp only [nrm] at hc3
   refine W_skip ?_
   refine N_K ?_
   refine W_seq ?_
   refine W_block ?_
   refine q2 ?_
   refine o_index_P i htrees Tryz.underlying81 Tryz.sizeOf67 rfl rfl rfl rfl (by first | omega | (simp; omega)) ?_; intro b4 o4 z4 q4 hz4 hE4 hrow4
   obtain ⟨rfl, hnd4⟩ := hE4; obtain ⟨hnl4, na4, nm4, nc4, nA4, nM4, nC4, hpr4, hri4, hrk4⟩ := hnd4.open; have hn_hri4 := hri4.len; have hx_hri4 : _ ≤ 1099511627776 := hri4.lim; have hn_hrk4 := hrk4.len; have hx_hrk4 : _ ≤ 1099511627776 := hrk4.lim
   try (have hzw := htw z4 (List.mem_of_getElem? hz4); have hzf := Nd.flat_len [] z4)
   refine o_load_P H Tryz.isAgg67 rfl rfl (hrow4 0 _ rfl) ?_
   refine o_assign rfl rfl ?_
   refine q1 ?_
   refine o_move rfl rfl ?_
   refine o_call Tryz.call82 rfl rfl (i_tlist_c _ _ H.sub _ hnd4 hzw.1 (by omega)) ?_
   rintro _ w5 ⟨_, _, rfl, H5', ⟨F5, rfl, hO5⟩⟩
   have H := H.readers (fp := []) (by simp) (PLe.refl _) H5'
   obtain ⟨e25, hP5⟩ := hO5
   obtain ⟨sa5, sc5, rfl⟩ := OwnS.shape hP5
   have hO5 := OIs.mk hP5
   refine ⟨_, rfl, ?_⟩
   have hdm1 := dm_nodup H (k := 0) rfl; obtain ⟨Gk1, H, hkl1, hks1⟩ := H.keepF (k := 0) rfl (fun b _ hb => by simp at hb)
   have hrk1 := hO5.rd hks1 hdm1
   have hSs := hSs.up hkl1
   have hbs := hbs.up hkl1
   have htrees := htrees.up hkl1
   have hnd4 := hnd4.up hkl1
   have hpr4 := hpr4.up hkl1
   have hri4 := hri4.up hkl1
   have hrk4 := hrk4.up hkl1
   have hrow4 := hrow4.up hkl1
   have hle2 := hle2.trans hkl1
   have hn_hrk1 := hrk1.len
   refine o_len_slice Tryz.underlying24 rfl rfl ?_
   refine o_move rfl rfl ?_
   refine q3 ?_
   refine W_block ?_
   refine W_loop (hf := (Sub.cons (t := 0) rfl (Sub.cons (t := 5) rfl (Sub.cons (t := 15) rfl (Sub.cons (t := 16) rfl (Sub.cons (t := 17) rfl (Sub.cons (t := 22) rfl (Sub.cons (t := 23) rfl Sub.nil)))))))) (J := fun M w m => ∃ (esm0 : Array MapEntry) (ckm0 : Nat) (xsm0 : List (Int × Value)) (fm0 : Int → Nat) (jj : Nat) (G : PH), M = [(24, .int .i64 (jj : Int))] ∧ PLe Gk1 G ∧ Hp w0 G0 [] w G [blk b1 (.map esm0 ckm0)] ∧ (MapIs (Value.int .i64) esm0 ckm0 xsm0 ∧ UsR xsm0 fm0 ∧ jj ≤ (z4.flat []).length ∧ (∀ a, fm0 a = Sp.cntT (trees.take i) a + Sp.cntU (z4.flat []) a jj ∧ fm0 a ≤ 48 * i + 4 * jj) ∧ ((z4.flat []).take jj).all (fun x => Sp.l4Ids Ls x.ids) = true) ∧ m = ((z4.flat []).length - jj)) (h0 := ⟨_, _, xsm0, fm0, 0, _, rfl, PLe.refl _, H, ?inv, rfl⟩) (hM := ?hM) (round := ?round)
   case hM => (repeat (first | exact Sub.nil | refine Sub.cons rfl ?_))
   case inv => exact ⟨hm2_m0, hS2_m0, (by exact ⟨by omega, fun a => (by have := hf a; simp [Sp.cntU]; omega), by simp⟩)⟩
   case round =>
    rintro _ w6 _ ⟨esm0, ckm0, xsm0, fm0, jj, G6, rfl, hle6, H, hinv6, rfl⟩
    have hSs := hSs.up hle6
    have hbs := hbs.up hle6
    have htrees := htrees.up hle6
    have hnd4 := hnd4.up hle6
    have hpr4 := hpr4.up hle6
    have hri4 := hri4.up hle6
    have hrk4 := hrk4.up hle6
    have hrow4 := hrow4.up hle6
    have hrk1 := hrk1.up hle6
    have hle2 := hle2.trans hle6
    obtain ⟨hm6_m0, hS6_m0, hinv6⟩ := hinv6
    obtain ⟨hjl, hf2, hok2⟩ := hinv6
    refine q2 ?_
    refine o_lss rfl rfl rfl ?_
    refine q3 ?_
    refine W_seq ?_
    refine W_cond rfl ?_ ?_
    ·intro hc7
     try simp only [nrm] at hc7
     refine W_skip ?_
     refine N_K ?_
     refine W_seq ?_
     refine W_block ?_
     refine q2 ?_
     refine o_index_P jj hrk1 Tryz.underlying24 Tryz.sizeOf39 rfl rfl rfl rfl (by first | omega | (simp; omega)) ?_; intro b8 o8 z8 q8 hz8 hE8 hrow8
     obtain ⟨a8, m8, c8, rfl, hi8, hr8⟩ := hE8; have hy_hi8 : _ ≤ 16777216 := hi8; have hn_hr8 := hr8.len; have hx_hr8 : _ ≤ 1099511627776 := hr8.lim
     try (have hzw := htw z8 (List.mem_of_getElem? hz8); have hzf := Nd.flat_len [] z8)
     refine o_loadagg_P H Tryz.isAgg39 Tryz.sizeOf39 rfl rfl hrow8 rfl ?_
     refine o_alloc H Tryz.zeroValue39 rfl rfl ?_; intro b9 w9 hb9 H
     refine o_store_B 0 H Tryz.sizeOf39 rfl rfl rfl rfl rfl rfl rfl rfl ?_; intro w10 H
     refine q3 ?_
     refine W_seq ?_
     refine q2 ?_
     refine o_move rfl rfl ?_
     refine o_fieldAddr 2 Tryz.runUnderlying39 rfl Tryz.sizeOf27 rfl rfl rfl ?_
     refine o_load_B 0 H Tryz.isAgg27 rfl rfl rfl rfl ?_
     refine o_call Tryz.call128 rfl rfl (i_fileIds_c _ _ H.sub _ _ _ _ _ hbs hms hSs hVs _ _ hr8 ) ?_
     rintro _ w11 ⟨rfl, ew11⟩; have H := H.step ew11; refine ⟨_, rfl, ?_⟩
     refine o_not rfl rfl ?_
     refine q3 ?_
     refine W_cond rfl ?_ ?_
     ·intro hc12
      try simp only [nrm] at hc12
      refine q2 ?_
      refine o_assign rfl rfl ?_
      refine q3 ?_
      refine W_ret ?_
      refine N_K_ret ?_
      refine N_B_ret ?_
      refine N_K_ret ?_
      refine N_LP_ret ?_
      refine N_B_ret ?_
      refine N_B_ret ?_
      refine N_K_ret ?_
      refine N_LP_ret ?_
      refine N_B_ret ?_
      refine N_K_ret ?_
      refine ret_gen (rs := [.tmp 4]) (vs := [_]) Tryz.results75 ⟨rfl, trivial⟩ ?_
      exact H.rets (congrArg Value.bool (by rw [Sp.all_false hz4 (Sp.all_false hz8 (by simpa using hc12)), Bool.false_and]))
     intro hc12'
     try simp only [nrm] at hc12'
     have hio : Sp.l4Ids Ls z8.ids = true := by simpa using hc12'
     have hil := Sp.ids_le hio
     refine W_skip ?_
     refine N_K ?_
     refine q2 ?_
     refine o_fieldAddr 2 Tryz.runUnderlying39 rfl Tryz.sizeOf27 rfl rfl rfl ?_
     refine o_load_B 0 H Tryz.isAgg27 rfl rfl rfl rfl ?_
     refine o_len_slice Tryz.underlying27 rfl rfl ?_
     refine o_move rfl rfl ?_
     refine q3 ?_
     refine W_block ?_
     obtain ⟨ln13, hln13, H⟩ := H.name (k := 0) rfl
     refine W_loop (hf := (Sub.cons (t := 0) rfl (Sub.cons (t := 5) rfl (Sub.cons (t := 15) rfl (Sub.cons (t := 16) rfl (Sub.cons (t := 17) rfl (Sub.cons (t := 22) rfl (Sub.cons (t := 23) rfl (Sub.cons (t := 24) rfl (Sub.cons (t := 34) rfl (Sub.cons (t := 35) rfl Sub.nil))))))))))) (J := fun M w m => ∃ (esm0 : Array MapEntry) (ckm0 : Nat) (xsm0 : List (Int × Value)) (fm0 : Int → Nat) (kk : Nat) (G : PH), M = [(36, .int .i64 (kk : Int))] ∧ PLe G6 G ∧ Hp w0 G0 [] w G [blk b9 (cl ln13 39), blk b1 (.map esm0 ckm0)] ∧ (MapIs (Value.int .i64) esm0 ckm0 xsm0 ∧ UsR xsm0 fm0 ∧ kk ≤ z8.ids.length ∧ (∀ a, fm0 a = Sp.cntT (trees.take i) a + Sp.cntU (z4.flat []) a jj + Sp.cnt1 a (z8.ids.take kk) ∧ fm0 a ≤ 48 * i + 4 * jj + kk)) ∧ m = (z8.ids.length - kk)) (h0 := ⟨_, _, xsm0, fm0, 0, _, rfl, PLe.refl _, H, ?inv, rfl⟩) (hM := ?hM) (round := ?round)
     case hM => (repeat (first | exact Sub.nil | refine Sub.cons rfl ?_))
     case inv => exact ⟨hm6_m0, hS6_m0, (by exact ⟨by omega, fun a => (by have := hf2 a; simp [Sp.cnt1]; omega)⟩)⟩
     case round =>
      rintro _ w14 _ ⟨esm0, ckm0, xsm0, fm0, kk, G14, rfl, hle14, H, hinv14, rfl⟩
      subst hln13
      have hSs := hSs.up hle14
      have hbs := hbs.up hle14
      have htrees := htrees.up hle14
      have hnd4 := hnd4.up hle14
      have hpr4 := hpr4.up hle14
      have hri4 := hri4.up hle14
      have hrk4 := hrk4.up hle14
      have hrow4 := hrow4.up hle14
      have hrk1 := hrk1.up hle14
      have hr8 := hr8.up hle14
      have hrow8 := hrow8.up hle14
      have hle2 := hle2.trans hle14
      have hle6 := hle6.trans hle14
      obtain ⟨hm14_m0, hS14_m0, hinv14⟩ := hinv14
      obtain ⟨hkl, hf3⟩ := hinv14; have hb3 := fun a => (hf3 a).2
      refine q2 ?_
      refine o_lss rfl rfl rfl ?_
      refine q3 ?_
      refine W_seq ?_
      refine W_cond rfl ?_ ?_
      ·intro hc15
       try simp only [nrm] at hc15
       refine W_skip ?_
       refine N_K ?_
       refine W_seq ?_
       refine W_block ?_
       refine q2 ?_
       refine o_index_P kk hr8 Tryz.underlying27 Tryz.sizeOf3 rfl rfl rfl rfl (by first | omega | (simp; omega)) ?_; intro b16 o16 z16 q16 hz16 hE16 hrow16
       obtain ⟨rfl, hi16⟩ := hE16
       refine o_load_P H Tryz.isAgg3 rfl rfl (hrow16 0 _ rfl) ?_
       refine o_assign rfl rfl ?_
       refine q3 ?_
       refine W_region ?_
       refine o_move rfl rfl ?_
       refine o_move rfl rfl ?_
       refine o_lookU (H.at (k := 1) rfl) hm14_m0 hS14_m0 Tryz.underlying174 Tryz.underlying3 Tryz.zeroValue3 rfl rfl rfl ?_
       try (have h7 := hb3 z16)
       refine o_add rfl rfl rfl ⟨by omega, by omega⟩ ?_
       refine o_updU 1 H (fm0 z16 + 1) rfl hm14_m0 hS14_m0 Tryz.underlying174 Tryz.underlying3 rfl rfl rfl (by omega) ?_; intro es19 ck19 xs19 w19 H hm19 hS19
       refine R_nil ?_
       refine N_B ?_
       refine N_K ?_
       refine W_region ?_
       refine o_add rfl rfl rfl ⟨by omega, by omega⟩ ?_
       refine o_move rfl rfl ?_
       refine R_nil ?_
       refine N_LP (hJ := ⟨_, _, xs19, (fun a => if a = z16 then (fm0 z16 + 1) else fm0 a), kk + 1, _, rfl, hle14, H, ?inv, rfl⟩) (hM := ?hM) (hf := ?hf) (hm := ?hm)
       case hM => (repeat (first | exact Sub.nil | refine Sub.cons rfl ?_))
       case hf => (repeat (first | exact Sub.nil | refine Sub.cons rfl ?_))
       case hm => omega
       case inv => exact ⟨hm19, hS19, (by exact ⟨by omega, fun a => (by have h9 := hf3 a; have h7 := hf3 z16; (rw [Sp.cnt1_succ hz16]); by_cases e : a = z16; (· subst e; simp; omega); (· have e2 : ¬ z16 = a := fun h => e h.symm; simp only [e, e2, if_false]; omega))⟩)⟩
      intro hc15'
      try simp only [nrm] at hc15'
      refine W_exit ?_
      refine N_K_exit ?_
      refine N_LP_exit ?_
      refine N_B_same ?_
      refine N_B ?_
      refine N_K ?_
      refine W_region ?_
      refine o_add rfl rfl rfl ⟨by omega, by omega⟩ ?_
      refine o_move rfl rfl ?_
      refine R_nil ?_
      have H := H.del (k := 0) rfl
      refine N_LP (hJ := ⟨_, _, xsm0, fm0, jj + 1, _, rfl, hle6, H, ?inv, rfl⟩) (hM := ?hM) (hf := ?hf) (hm := ?hm)
      case hM => (repeat (first | exact Sub.nil | refine Sub.cons rfl ?_))
      case hf => (repeat (first | exact Sub.nil | refine Sub.cons rfl ?_))
      case hm => omega
      case inv => exact ⟨hm14_m0, hS14_m0, (by exact ⟨by omega, fun a => (by have h9 := hf3 a; (rw [Sp.cntU_succ hz8]); (rw [List.take_of_length_le (l := z8.ids) (by omega)] at h9); omega), Sp.all_take hok2 hz8 hio⟩)⟩
    intro hc7'
    try simp only [nrm] at hc7'
    refine W_exit ?_
    refine N_K_exit ?_
    refine N_LP_exit ?_
    refine N_B_same ?_
    refine N_B ?_
    refine N_K ?_
    refine W_region ?_
    refine o_add rfl rfl rfl ⟨by omega, by omega⟩ ?_
    refine o_move rfl rfl ?_
    refine R_nil ?_
    refine N_LP (hJ := ⟨_, _, xsm0, fm0, i + 1, _, rfl, hle2, H, ?inv, rfl⟩) (hM := ?hM) (hf := ?hf) (hm := ?hm)
    case hM => (repeat (first | exact Sub.nil | refine Sub.cons rfl ?_))
    case hf => (repeat (first | exact Sub.nil | refine Sub.cons rfl ?_))
    case hm => omega
    case inv => exact ⟨hm6_m0, hS6_m0, (by exact ⟨by omega, fun a => (by have h9 := hf2 a; have h10 := Sp.cntT_succ (id := a) hz4; have h8 : (z4.flat []).length = jj := (by omega); (rw [h8] at h10); omega), Sp.all_take hok hz4 (by (rw [List.take_of_length_le (l := z4.flat []) (by omega)] at hok2); exact hok2)⟩)⟩
  intro hc3'
  try simp only [nrm] at hc3'
  refine W_exit ?_
  refine N_K_exit ?_
  refine N_LP_exit ?_
  refine N_B_same ?_
  refine N_K ?_
  refine W_seq ?_
  refine q2 ?_
  refine o_move rfl rfl ?_
  have hmb23 := (hbs.at H.sub); refine o_range H hmb23 Tryz.underlying66 rfl rfl ?_; intro r23 w23 hr23 H _; have hne23 : r23 ≠ mbs := fun e => by have := (Array.getElem?_eq_some_iff.1 hmb23).1; omega
  refine q3 ?_
  refine W_block ?_
  refine W_loop (hf := (Sub.cons (t := 5) rfl (Sub.cons (t := 48) rfl Sub.nil))) (J := fun M w m => ∃  (sn : Array Nat) (G : PH), M = [] ∧ PLe G2 G ∧ Hp w0 G0 [] w G [blk r23 (.mapIter (some mbs) cks sn cks), blk b1 (.map esm0 ckm0)] ∧ (∀ y, y ∈ Ls → seenH ess sn y → (Sp.cntT trees y.id : Int) = y.uses) ∧ m = ((leftOf ess sn).size)) (h0 := ⟨#[], _, rfl, PLe.refl _, H, ?inv, rfl⟩) (hM := ?hM) (round := ?round)
  case hM => (repeat (first | exact Sub.nil | refine Sub.cons rfl ?_))
  case inv => rintro y hy ⟨e, _, _, he⟩; simp at he
  case round =>
   rintro _ w24 _ ⟨sn, G24, rfl, hle24, H, hinv24, rfl⟩
   have hSs := hSs.up hle24
   have hbs := hbs.up hle24
   have htrees := htrees.up hle24
   have hle2 := hle2.trans hle24
   have hsn := hinv24
   refine q2 ?_
   refine o_next 0 H (hbs.at H.sub) hms hSs rfl hne23 rfl rfl ?_ ?_
   ·intro hall25
    refine o_extract rfl rfl rfl ?_
    refine q3 ?_
    refine W_seq ?_
    refine W_false rfl ?_
    refine W_exit ?_
    refine N_K_exit ?_
    refine N_LP_exit ?_
    refine N_B_same ?_
    refine N_K ?_
    refine q2 ?_
    refine o_assign rfl rfl ?_
    refine q3 ?_
    refine W_ret ?_
    refine ret_gen (rs := [.tmp 4]) (vs := [_]) Tryz.results75 ⟨rfl, trivial⟩ ?_
    have hot := hok; rw [List.take_of_length_le (by omega)] at hot
    exact H.rets (congrArg Value.bool (by (rw [hot, Bool.true_and]); symm; (rw [List.all_eq_true]); intro y hy; simp only [decide_eq_true_eq]; exact hsn y hy (hall25 y hy)))
   intro e25 y25 q25 w25 he25 hk25 hv25 hy25 hE25 _ hless25 H
   obtain ⟨a25, m25, c25, rfl, hi25, hr25, hj25⟩ := hE25; have hn_hr25 := hr25.len; have hx_hr25 : _ ≤ 1099511627776 := hr25.lim
   refine o_extract rfl rfl rfl ?_
   refine q3 ?_
   refine W_seq ?_
   refine W_true rfl ?_
   refine W_skip ?_
   refine N_K ?_
   refine W_block ?_
   refine q2 ?_
   refine o_entry 0 H (hbs.at H.sub) hms rfl he25 hk25 hv25 rfl rfl ?_
   refine o_extract rfl rfl rfl ?_
   refine o_extract rfl rfl rfl ?_
   refine o_alloc H Tryz.zeroValue117 rfl rfl ?_; intro b26 w26 hb26 H
   refine o_assign rfl rfl ?_
   refine o_store_B 0 H Tryz.sizeOf117 rfl rfl rfl rfl rfl rfl rfl rfl ?_; intro w27 H
   refine q1 ?_
   refine o_move rfl rfl ?_
   refine o_move rfl rfl ?_
   refine o_lookU (H.at (k := 2) rfl) hm2_m0 hS2_m0 Tryz.underlying174 Tryz.underlying3 Tryz.zeroValue3 rfl rfl rfl ?_
   refine o_fieldAddr 2 Tryz.runUnderlying117 rfl Tryz.sizeOf3 rfl rfl rfl ?_
   refine o_load_B 0 H Tryz.isAgg3 rfl rfl rfl rfl ?_
   refine o_neq rfl rfl rfl ?_
   refine q3 ?_
   refine W_cond rfl ?_ ?_
   ·intro hc29
    try simp only [nrm] at hc29
    refine q2 ?_
    refine o_assign rfl rfl ?_
    refine q3 ?_
    refine W_ret ?_
    refine N_B_ret ?_
    refine N_LP_ret ?_
    refine N_B_ret ?_
    refine N_K_ret ?_
    refine ret_gen (rs := [.tmp 4]) (vs := [_]) Tryz.results75 ⟨rfl, trivial⟩ ?_
    have hft : ∀ a, fm0 a = Sp.cntT trees a := fun a => (by have h9 := (hf a).1; (rw [List.take_of_length_le (by omega)] at h9); exact h9)
    have hot := hok; rw [List.take_of_length_le (by omega)] at hot
    exact H.rets (congrArg Value.bool (by (rw [hot, Bool.true_and]); symm; (rw [List.all_eq_false]); exact ⟨_, hy25, by simp only [decide_eq_true_eq]; (rw [← hft]); first | exact hc29 | (simpa using hc29) | omega⟩))
   intro hc29'
   try simp only [nrm] at hc29'
   refine W_skip ?_
   refine N_B ?_
   have H := H.del (k := 0) rfl
   refine N_LP (hJ := ⟨_, _, rfl, hle24, H, ?inv, rfl⟩) (hM := ?hM) (hf := ?hf) (hm := ?hm)
   case hM => (repeat (first | exact Sub.nil | refine Sub.cons rfl ?_))
   case hf => (repeat (first | exact Sub.nil | refine Sub.cons rfl ?_))
   case hm => exact hless25
   case inv => intro y hy hs; rcases seenH_push hms (hSs.nd hms) he25 hk25 hy25 hy hs with rfl | h; (· (have h9 := (hf y.id).1; (rw [List.take_of_length_le (by omega)] at h9); (rw [← h9]); first | exact hc29' | (simpa using hc29') | omega)); exact hsn y hy h
end Go.Proofs.Tst

namespace Go.Proofs.Tst
open Go Fw
theorem i_newVolume_c (w0 : World) (G0 : PH) (hG : PSub G0 w0) (vstore : Value) (store : List (BHeld)) (hstore : RdH G0 vstore store) (vtree : Value) (tree : List (BItem)) (htree : RdItems G0 vtree tree) (hLent : Lent w0 G0 [])  :
  Calls Tryz.prog 74 #[vstore, vtree] w0 (RetM w0 G0 [] (fun G' v Bs => (v = .tuple #[.agg #[.map none, .pointer none], .bool false] ∧ Bs = [] ∧ (Sp.StoreValid store && Sp.TreeValid tree) = false) ∨ (∃ (mb : Nat) (es : Array MapEntry) (ck : Nat) (xs : List (Int × Value)) (T : Nd) (F : Fr), v = .tuple #[.agg #[.map (some mb), .pointer (some ⟨T.b, 0, none⟩)], .bool true] ∧ Bs = [blk mb (.map es ck), frag F] ∧ MapIs (Value.int .i64) es ck xs ∧ StR G' xs store ∧ Sp.VH store ∧ NdO 83 67 G' T F ∧ Nd.TOK T tree ∧ Sp.TreeValid tree = true))) := by
 obtain ⟨astore, kstore, rfl⟩ := hstore.shape
 have hlimstore : store.length ≤ 1099511627776 := hstore.lim
 obtain ⟨atree, ktree, rfl⟩ := htree.shape
 have hlimtree : tree.length ≤ 1099511627776 := htree.lim
 have H : Hp w0 G0 [] w0 G0 [] := hLent.hp
 refine calls_of_W (l := [.slice astore store.length kstore, .slice atree tree.length ktree]) Tryz.func74 rfl Tryz.ntmps74 rfl ?_
 refine q2 ?_
 refine o_alloc H Tryz.zeroValue69 rfl rfl ?_; intro b1 w1 hb1 H
 refine o_assign rfl rfl ?_
 refine q1 ?_
 refine o_move rfl rfl ?_
 refine o_call Tryz.call127 rfl rfl (i_openStore_c _ _ H.sub _ _ hstore H.lent0 ) ?_
 rintro _ w2 ⟨G2, _, _, rfl, H2', ⟨hnv2, rfl, rfl⟩ | ⟨hV2, mb2, es2, ck2, xs2, rfl, rfl, hm2, hS2⟩⟩
 ·skip
  have hstore := hstore.up H2'.le
  have htree := htree.up H2'.le
  have H := H.borrow0 H2'
  refine ⟨_, rfl, ?_⟩
  refine o_move rfl rfl ?_
  refine o_extract rfl rfl rfl ?_
  refine o_extract rfl rfl rfl ?_
  refine o_assign rfl rfl ?_
  refine o_assign rfl rfl ?_
  refine q3 ?_
  refine W_seq ?_
  refine q2 ?_
  refine o_move rfl rfl ?_
  refine o_not rfl rfl ?_
  refine q3 ?_
  refine W_true rfl ?_
  refine q2 ?_
  refine o_build bf69 rfl rfl rfl ?_
  refine o_store_B 0 H Tryz.sizeOf69 rfl rfl rfl rfl rfl rfl rfl rfl ?_; intro w3 H
  refine o_assign rfl rfl ?_
  refine q3 ?_
  refine W_ret ?_
  refine N_K_ret ?_
  refine ret_gen (rs := [.cell 4 69, .tmp 5]) (vs := [_, _]) Tryz.results74 ⟨⟨_, rfl, load_blk 0 H Tryz.isAgg69 Tryz.sizeOf69 rfl rfl rfl⟩, rfl, trivial⟩ ?_
  have H := H.del (k := 0) rfl
  exact H.retM (.inl ⟨rfl, rfl, by simp_all⟩)
 skip
 have hstore := hstore.up H2'.le
 have htree := htree.up H2'.le
 have H := H.borrow0 H2'
 refine ⟨_, rfl, ?_⟩
 refine o_move rfl rfl ?_
 refine o_extract rfl rfl rfl ?_
 refine o_extract rfl rfl rfl ?_
 refine o_assign rfl rfl ?_
 refine o_assign rfl rfl ?_
 refine q3 ?_
 refine W_seq ?_
 refine q2 ?_
 refine o_move rfl rfl ?_
 refine o_not rfl rfl ?_
 refine q3 ?_
 refine W_false rfl ?_
 refine W_skip ?_
 refine N_K ?_
 refine q2 ?_
 refine o_move rfl rfl ?_
 refine o_call Tryz.call40 rfl rfl (i_openTree_c _ _ H.sub _ _ htree H.lent0 ) ?_
 rintro _ w4 ⟨G4, _, _, rfl, H4', ⟨rfl, rfl, hv4⟩ | ⟨T4, F4, rfl, rfl, hN4, hT4, hv4⟩⟩
 ·skip
  have hstore := hstore.up H4'.le
  have htree := htree.up H4'.le
  have hS2 := hS2.up H4'.le
  have H := H.borrow0 H4'
  refine ⟨_, rfl, ?_⟩
  refine o_move rfl rfl ?_
  refine o_extract rfl rfl rfl ?_
  refine o_extract rfl rfl rfl ?_
  refine o_assign rfl rfl ?_
  refine o_assign rfl rfl ?_
  refine q3 ?_
  refine W_seq ?_
  refine q2 ?_
  refine o_move rfl rfl ?_
  refine o_not rfl rfl ?_
  refine q3 ?_
  refine W_true rfl ?_
  refine q2 ?_
  refine o_build bf69 rfl rfl rfl ?_
  refine o_store_B 1 H Tryz.sizeOf69 rfl rfl rfl rfl rfl rfl rfl rfl ?_; intro w5 H
  refine o_assign rfl rfl ?_
  refine q3 ?_
  refine W_ret ?_
  refine N_K_ret ?_
  refine ret_gen (rs := [.cell 4 69, .tmp 5]) (vs := [_, _]) Tryz.results74 ⟨⟨_, rfl, load_blk 1 H Tryz.isAgg69 Tryz.sizeOf69 rfl rfl rfl⟩, rfl, trivial⟩ ?_
  have H := H.del (k := 0) rfl
  have H := H.del (k := 0) rfl
  exact H.retM (.inl ⟨rfl, rfl, by simp_all⟩)
 skip
 have hstore := hstore.up H4'.le
 have htree := htree.up H4'.le
 have hS2 := hS2.up H4'.le
 have H := H.borrow0 H4'
 refine ⟨_, rfl, ?_⟩
 refine o_move rfl rfl ?_
 refine o_extract rfl rfl rfl ?_
 refine o_extract rfl rfl rfl ?_
 refine o_assign rfl rfl ?_
 refine o_assign rfl rfl ?_
 refine q3 ?_
 refine W_seq ?_
 refine q2 ?_
 refine o_move rfl rfl ?_
 refine o_not rfl rfl ?_
 refine q3 ?_
 refine W_false rfl ?_
 refine W_skip ?_
 refine N_K ?_
 refine q2 ?_
 refine o_move rfl rfl ?_
 refine o_move rfl rfl ?_
 refine o_build bf69 rfl rfl rfl ?_
 refine o_store_B 2 H Tryz.sizeOf69 rfl rfl rfl rfl rfl rfl rfl rfl ?_; intro w6 H
 refine o_assign rfl rfl ?_
 refine q3 ?_
 refine W_ret ?_
 refine ret_gen (rs := [.cell 4 69, .tmp 5]) (vs := [_, _]) Tryz.results74 ⟨⟨_, rfl, load_blk 2 H Tryz.isAgg69 Tryz.sizeOf69 rfl rfl rfl⟩, rfl, trivial⟩ ?_
 have H := H.del (k := 2) rfl
 have H := H.toFront (k := 1) rfl
 exact H.retM (.inr ⟨_, _, _, _, _, _, rfl, rfl, hm2, hS2, hV2, hN4, hT4, hv4⟩)
end Go.Proofs.Tst

namespace Go.Proofs.Tst
open Go Fw
end Go.Proofs.Tst

namespace Go.Proofs.Tst
open Go Fw
end Go.Proofs.Tst

namespace Go.Proofs.Tst
open Go Fw
end Go.Proofs.Tst

namespace Go.Proofs.Tst
open Go Fw
end Go.Proofs.Tst

namespace Go.Proofs.Tst
open Go Fw
end Go.Proofs.Tst

namespace Go.Proofs.Tst
open Go Fw
end Go.Proofs.Tst

namespace Go.Proofs.Tst
open Go Fw
end Go.Proofs.Tst

namespace Go.Proofs.Tst
open Go Fw
end Go.Proofs.Tst

namespace Go.Proofs.Tst
open Go Fw
end Go.Proofs.Tst

namespace Go.Proofs.Tst
open Go Fw
end Go.Proofs.Tst

namespace Go.Proofs.Tst
open Go Fw
end Go.Proofs.Tst

namespace Go.Proofs.Tst
open Go Fw
end Go.Proofs.Tst

namespace Go.Proofs.Tst
open Go Fw
end Go.Proofs.Tst

namespace Go.Proofs.Tst
open Go Fw
end Go.Proofs.Tst

namespace Go.Proofs.Tst
open Go Fw
end Go.Proofs.Tst

namespace Go.Proofs.Tst
open Go Fw
end Go.Proofs.Tst

namespace Fw
open Go
end Fw
namespace Go.Proofs.Tst
open Go Fw
end Go.Proofs.Tst

namespace Go.Proofs.Tst
open Go Fw
end Go.Proofs.Tst

namespace Sp
open Go Fw
theorem getH_mem {L : List BHeld} (nd : (L.map (·.id)).Nodup) {x : BHeld} (h : x ∈ L) : getH L x.id = x := by
  cases e : Sp.atH L x.id with
  | none => exact absurd (List.mem_map_of_mem h) (Fw.atH_none e)
  | some j =>
    obtain ⟨y, hy, hid⟩ := Fw.atH_some e
    rw [getH_some e hy]
    obtain ⟨i, hi⟩ := List.getElem?_of_mem h
    have h1 : (L.map (·.id))[i]? = some x.id := by simp [hi]
    have h2 : (L.map (·.id))[j]? = some x.id := by simp [hy, hid]
    obtain ⟨l1, e1⟩ := List.getElem?_eq_some_iff.1 h1
    obtain ⟨l2, e2⟩ := List.getElem?_eq_some_iff.1 h2
    have : i = j := by
      have hp := List.pairwise_iff_getElem.1 nd
      rcases Nat.lt_trichotomy i j with hlt | heq | hlt
      · exact absurd (e1.trans e2.symm) (hp i j l1 l2 hlt)
      · exact heq
      · exact absurd (e2.trans e1.symm) (hp j i l2 l1 hlt)
    subst this
    rw [hi] at hy
    exact (Option.some.inj hy).symm
theorem at_mem {L : List BHeld} {a : Int} : (Sp.atH L a).isSome = true ↔ a ∈ L.map (·.id) := by
  constructor
  · intro h
    obtain ⟨i, hi⟩ := Option.isSome_iff_exists.1 h
    obtain ⟨y, hy, rfl⟩ := Fw.atH_some hi
    exact List.mem_map_of_mem (List.mem_of_getElem? hy)
  · intro h
    cases e : Sp.atH L a with
    | none => exact absurd h (Fw.atH_none e)
    | some i => rfl
theorem getH_not {L : List BHeld} {a : Int} (h : a ∉ L.map (·.id)) : getH L a = ⟨0, [], 0⟩ := by
  refine get_no ?_
  cases e : (Sp.atH L a).isSome with
  | false => rfl
  | true => exact absurd (at_mem.1 e) h
theorem getH_perm {L L' : List BHeld} (nd : (L.map (·.id)).Nodup) (hp : L.Perm L') (a : Int) : getH L' a = getH L a := by
  have hp2 : (L.map (·.id)).Perm (L'.map (·.id)) := hp.map _
  by_cases h : a ∈ L.map (·.id)
  · obtain ⟨x, hx, rfl⟩ := List.mem_map.1 h
    rw [getH_mem nd hx, getH_mem (hp2.nodup_iff.1 nd) (hp.mem_iff.1 hx)]
  · rw [getH_not h, getH_not (fun h' => h (hp2.mem_iff.2 h'))]
theorem getH_updH {L : List BHeld} (nd : (L.map (·.id)).Nodup) (y : BHeld) (a : Int) : getH (updH L y) a = if a = y.id then y else getH L a := by
  have hp := updH_perm nd y
  have hsub : ∀ x, x ∈ L.filter (fun x => decide (x.id ≠ y.id)) → x ∈ L ∧ x.id ≠ y.id := fun x hx => by simpa using List.mem_filter.1 hx
  have nd2 : ((y :: L.filter (fun x => decide (x.id ≠ y.id))).map (·.id)).Nodup := by
    rw [List.map_cons, List.nodup_cons]
    refine ⟨fun h => ?_, List.Nodup.sublist ((List.filter_sublist).map _) nd⟩
    obtain ⟨x, hx, e⟩ := List.mem_map.1 h
    exact (hsub x hx).2 e
  rw [getH_perm nd2 hp.symm]
  split
  · next e => subst e; exact getH_mem nd2 (by simp)
  · next e =>
    by_cases h : a ∈ L.map (·.id)
    · obtain ⟨x, hx, rfl⟩ := List.mem_map.1 h
      rw [getH_mem nd hx]
      exact getH_mem nd2 (List.mem_cons_of_mem _ (List.mem_filter.2 ⟨hx, by simpa using e⟩))
    · rw [getH_not h]
      refine getH_not (fun h' => ?_)
      simp only [List.map_cons, List.mem_cons] at h'
      rcases h' with h' | h'
      · exact e h'
      · obtain ⟨x, hx, rfl⟩ := List.mem_map.1 h'
        exact h (List.mem_map_of_mem (hsub x hx).1)
theorem getH_delH {L : List BHeld} (nd : (L.map (·.id)).Nodup) (id a : Int) : getH (delH L id) a = if a = id then ⟨0, [], 0⟩ else getH L a := by
  have hp := delH_perm nd id
  have hsub : ∀ x, x ∈ L.filter (fun x => decide (x.id ≠ id)) → x ∈ L ∧ x.id ≠ id := fun x hx => by simpa using List.mem_filter.1 hx
  have nd2 : ((L.filter (fun x => decide (x.id ≠ id))).map (·.id)).Nodup := List.Nodup.sublist ((List.filter_sublist).map _) nd
  rw [getH_perm nd2 hp.symm]
  split
  · next e =>
    subst e
    refine getH_not (fun h' => ?_)
    obtain ⟨x, hx, e⟩ := List.mem_map.1 h'
    exact (hsub x hx).2 e
  · next e =>
    by_cases h : a ∈ L.map (·.id)
    · obtain ⟨x, hx, rfl⟩ := List.mem_map.1 h
      rw [getH_mem nd hx]
      exact getH_mem nd2 (List.mem_filter.2 ⟨hx, by simpa using e⟩)
    · rw [getH_not h]
      refine getH_not (fun h' => ?_)
      obtain ⟨x, hx, rfl⟩ := List.mem_map.1 h'
      exact h (List.mem_map_of_mem (hsub x hx).1)
def us (L : List BHeld) (a : Int) : Int := (getH L a).uses
def by_ (L : List BHeld) (a : Int) : List Int := (getH L a).bytes
theorem us_nonneg {L : List BHeld} (hV : VH L) (a : Int) : 0 ≤ us L a := by
  unfold us
  cases h : (Sp.atH L a).isSome with
  | false => rw [get_no h]; simp
  | true => have := (get_ok hV h).2.2.1; omega
theorem us_pos {L : List BHeld} (hV : VH L) {a : Int} : 0 < us L a ↔ (Sp.atH L a).isSome = true := by
  unfold us
  cases h : (Sp.atH L a).isSome with
  | false => rw [get_no h]; simp
  | true => have := (get_ok hV h).2.2.1; simp; omega
theorem drop_step {L : List BHeld} (hV : VH L) {id : Int} (h : 0 < us L id) :
    ∃ L', StoreDrop L id = some L' ∧ VH L' ∧ ∀ a, us L' a = us L a - (if a = id then 1 else 0) ∧ (0 < us L' a → by_ L' a = by_ L a) := by
  have hs := (us_pos hV).1 h
  have hid := get_id hs
  by_cases hu : (getH L id).uses = 1
  · obtain ⟨h1, h2⟩ := drop_get1 hV hs hu
    refine ⟨_, h1, h2, fun a => ?_⟩
    unfold us by_
    rw [getH_delH hV.nd]
    by_cases e : a = id
    · subst e; simp [hu]
    · simp [e]
  · obtain ⟨h1, h2⟩ := drop_get2 hV hs hu
    refine ⟨_, h1, h2, fun a => ?_⟩
    unfold us by_
    rw [getH_updH hV.nd, ← hid]
    by_cases e : a = id
    · subst e; simp
    · simp [e]
theorem cnt1_cons (a x : Int) (r : List Int) : cnt1 a (x :: r) = (if a = x then 1 else 0) + cnt1 a r := by
  unfold cnt1
  rw [List.countP_cons]
  by_cases e : a = x
  · subst e; simp; omega
  · have : ¬ x = a := fun h => e h.symm
    simp [e, this]
theorem foldB_cons {α β : Type} {f : α → β → Option α} {b : β} {r : List β} {a a' : α} (h : f a b = some a') : foldB f (b :: r) (some a) = foldB f r (some a') := by
  simp [foldB, h]
theorem drops : ∀ (ids : List Int) {L : List BHeld}, VH L → (∀ a, (cnt1 a ids : Int) ≤ us L a) →
    ∃ L', foldB StoreDrop ids (some L) = some L' ∧ VH L' ∧ ∀ a, us L' a = us L a - (cnt1 a ids : Int) ∧ (0 < us L' a → by_ L' a = by_ L a)
  | [], L, hV, _ => ⟨L, rfl, hV, fun a => by simp [cnt1]⟩
  | x :: r, L, hV, h => by
    have hx := h x
    rw [cnt1_cons, if_pos rfl] at hx
    obtain ⟨L1, h1, h2, h3⟩ := drop_step hV (id := x) (by push_cast at hx; omega)
    obtain ⟨L2, g1, g2, g3⟩ := drops r h2 (fun a => by
      have h8 := h a
      rw [cnt1_cons] at h8
      have h4 := (h3 a).1
      by_cases e : a = x
      · rw [if_pos e] at h8 h4; omega
      · rw [if_neg e] at h8 h4; omega)
    refine ⟨L2, by rw [foldB_cons h1]; exact g1, g2, fun a => ?_⟩
    have h4 := h3 a
    have h5 := g3 a
    rw [cnt1_cons]
    refine ⟨?_, fun hp => ?_⟩
    · have h8 := h4.1
      have h9 := h5.1
      by_cases e : a = x
      · rw [if_pos e] at h8 ⊢; omega
      · rw [if_neg e] at h8 ⊢; omega
    · rw [h5.2 hp, h4.2 ?_]
      have := h5.1
      omega
theorem free_ok {L : List BHeld} (hV : VH L) {ids : List Int} (hl : l4Ids L ids = true) (h : ∀ a, (cnt1 a ids : Int) ≤ us L a) :
    ∃ L', FileFree L ids = some L' ∧ VH L' ∧ ∀ a, us L' a = us L a - (cnt1 a ids : Int) ∧ (0 < us L' a → by_ L' a = by_ L a) := by
  obtain ⟨L', h1, h2⟩ := drops ids hV h
  exact ⟨L', by simp [FileFree, valid_iff.2 hV, hl, h1], h2⟩
theorem keep_step {L : List BHeld} (hV : VH L) {id : Int} {L' : List BHeld} (h : StoreKeep L id = some L') : VH L' ∧ 0 < us L id ∧ ∀ a, us L' a = us L a + (if a = id then 1 else 0) ∧ by_ L' a = by_ L a := by
  have hs : (Sp.atH L id).isSome = true := by
    cases e : (Sp.atH L id).isSome with
    | true => rfl
    | false => rw [keep_no hV (.inl e)] at h; cases h
  have hu : (getH L id).uses < 999 := by
    by_cases h1 : (getH L id).uses < 999
    · exact h1
    · rw [keep_no hV (.inr (by omega))] at h; cases h
  obtain ⟨h1, h2⟩ := keep_get hV hs hu
  rw [h1] at h
  cases h
  have hid := get_id hs
  refine ⟨h2, (us_pos hV).2 hs, fun a => ?_⟩
  unfold us by_
  rw [getH_updH hV.nd, ← hid]
  by_cases e : a = id
  · subst e; simp
  · simp [e]
theorem put_step {L : List BHeld} (hV : VH L) {b : List Int} (hb : BlockValid b = true) {L' : List BHeld} {id : Int} (h : StorePut L b = some (L', id)) :
    VH L' ∧ (∀ a, us L' a = us L a + (if a = id then 1 else 0) ∧ (0 < us L a → by_ L' a = by_ L a)) ∧ by_ L' id = b := by
  cases e : like L b with
  | none =>
    by_cases hl : L.length < 16
    · rw [put_new hV hb e hl] at h
      simp only [Option.some.injEq, Prod.mk.injEq] at h
      obtain ⟨rfl, rfl⟩ := h
      have hw := with_valid hV hb e hl
      have hf := (free_lt L).1
      obtain ⟨k, hk⟩ : ∃ k, freeId L = k + 1 := ⟨freeId L - 1, by omega⟩
      have hp := put_perm (L := L) b hk
      have hfi : (freeId L : Int) = (k : Int) + 1 := by omega
      have hg : ∀ a, getH (l3With L b) a = if a = (freeId L : Int) then ⟨(k : Int) + 1, b, 1⟩ else getH L a := fun a => by
        have hnd : ((updH L ⟨(k : Int) + 1, b, 1⟩).map (·.id)).Nodup := (hp.map (·.id)).nodup_iff.2 hw.nd
        rw [getH_perm hnd hp, getH_updH hV.nd, hfi]
      have h0 : getH L (freeId L : Int) = ⟨0, [], 0⟩ := getH_none (free_none L)
      refine ⟨hw, fun a => ?_, ?_⟩
      · unfold us by_
        rw [hg]
        by_cases ea : a = (freeId L : Int)
        · subst ea; simp [h0]
        · simp [ea]
      · unfold by_
        rw [hg, if_pos rfl]
    · rw [put_full e (by omega)] at h; cases h
  | some i =>
    obtain ⟨hi, hp, _⟩ := List.findIdx?_eq_some_iff_getElem.1 e
    have hx : L[i]? = some L[i] := List.getElem?_eq_getElem hi
    rw [put_old hV hb e hx] at h
    obtain ⟨l, h1, h2⟩ := Option.map_eq_some_iff.1 h
    simp only [Prod.mk.injEq] at h2
    obtain ⟨rfl, rfl⟩ := h2
    obtain ⟨k1, k2, k3⟩ := keep_step hV h1
    refine ⟨k1, fun a => ⟨(k3 a).1, fun _ => (k3 a).2⟩, ?_⟩
    rw [(k3 _).2]
    unfold by_
    rw [getH_mem hV.nd (List.getElem_mem hi)]
    simpa [l2Same] using hp
end Sp
namespace Sp
open Go Fw
theorem puts : ∀ (bs : List (List Int)) {L : List BHeld} {acc : List Int} {s : List BHeld} {ids : List Int}, VH L → (∀ b, b ∈ bs → BlockValid b = true) → foldB put1 bs (some (L, acc)) = some (s, ids) →
    VH s ∧ ∃ new, ids = acc ++ new ∧ new.length = bs.length ∧ (∀ a, us s a = us L a + (cnt1 a new : Int) ∧ (0 < us L a → by_ s a = by_ L a)) ∧ ∀ (i : Nat) (id : Int), new[i]? = some id → some (by_ s id) = bs[i]?
  | [], L, acc, s, ids, hV, _, h => by
    simp only [foldB, List.foldl_nil, Option.some.injEq, Prod.mk.injEq] at h
    obtain ⟨rfl, rfl⟩ := h
    exact ⟨hV, [], by simp, rfl, fun a => by simp [cnt1], by simp⟩
  | b :: r, L, acc, s, ids, hV, hb, h => by
    cases e : StorePut L b with
    | none =>
      have : foldB put1 (b :: r) (some (L, acc)) = foldB put1 r none := by simp [foldB, put1, e]
      rw [this, foldB_none] at h
      cases h
    | some q =>
      obtain ⟨L1, id⟩ := q
      rw [foldB_cons (a' := (L1, acc ++ [id])) (by simp [put1, e])] at h
      obtain ⟨k1, k2, k3⟩ := put_step hV (hb b (by simp)) e
      obtain ⟨g1, new, g2, g3, g4, g5⟩ := puts r k1 (fun c hc => hb c (by simp [hc])) h
      refine ⟨g1, id :: new, by rw [g2]; simp, by simp [g3], fun a => ?_, fun i z hz => ?_⟩
      · rw [cnt1_cons]
        have h8 := (k2 a).1
        have h9 := (g4 a).1
        have hn := us_nonneg hV a
        refine ⟨?_, fun hp => ?_⟩
        · by_cases ea : a = id
          · rw [if_pos ea] at h8 ⊢; omega
          · rw [if_neg ea] at h8 ⊢; omega
        · have h7 : us L a ≤ us L1 a := by
            by_cases ea : a = id
            · rw [if_pos ea] at h8; omega
            · rw [if_neg ea] at h8; omega
          rw [(g4 a).2 (by omega), (k2 a).2 hp]
      · cases i with
        | zero =>
          simp only [List.getElem?_cons_zero, Option.some.injEq] at hz
          subst hz
          have h8 := (k2 id).1
          rw [if_pos rfl] at h8
          have hn := us_nonneg hV id
          rw [(g4 id).2 (by omega), k3]
          rfl
        | succ i =>
          simp only [List.getElem?_cons_succ] at hz ⊢
          exact g5 i z hz
theorem chunks_valid {b : List Int} (h : FileValid b = true) : ∀ c, c ∈ l4Cut b → BlockValid c = true := by
  intro c hc
  unfold l4Cut at hc
  obtain ⟨k, hk, rfl⟩ := List.mem_map.1 hc
  refine chunk_valid h ?_
  rw [chunk_len]
  have := List.mem_range.1 hk
  omega
theorem store_ok {L : List BHeld} (hV : VH L) {b : List Int} {s : List BHeld} {ids : List Int} (h : FileStore L b = some (s, ids)) :
    VH s ∧ ids.length = (l4Cut b).length ∧ (∀ a, us s a = us L a + (cnt1 a ids : Int) ∧ (0 < us L a → by_ s a = by_ L a)) ∧ ∀ (i : Nat) (id : Int), ids[i]? = some id → some (by_ s id) = (l4Cut b)[i]? := by
  unfold FileStore at h
  split at h
  · rename_i hc
    simp only [Bool.and_eq_true] at hc
    obtain ⟨g1, new, g2, g3, g4, g5⟩ := puts (l4Cut b) hV (chunks_valid hc.2) h
    rw [List.nil_append] at g2
    subst g2
    exact ⟨g1, g3, g4, g5⟩
  · cases h
theorem ids_stay {L s : List BHeld} (hV : VH L) (hs : VH s) (h : ∀ a, 0 < us L a → 0 < us s a ∧ by_ s a = by_ L a) {ids : List Int} (hl : l4Ids L ids = true) : l4Ids s ids = true := by
  refine ids_true (fun j hj => ?_) (ids_le hl)
  have hz : ids[j]? = some ids[j] := List.getElem?_eq_getElem hj
  have h1 : idsOk L ids j = true := by
    simp only [l4Ids, Bool.and_eq_true] at hl
    exact List.all_eq_true.1 hl.1 j (by simpa using hj)
  have hp : (Sp.atH L ids[j]).isSome = true := by
    cases e : (Sp.atH L ids[j]).isSome with
    | true => rfl
    | false => rw [idsOk_no hz e] at h1; cases h1
  have h2 := h _ ((us_pos hV).2 hp)
  rw [idsOk_get hz ((us_pos hs).1 h2.1)]
  rw [idsOk_get hz hp] at h1
  have h3 : (getH s ids[j]).bytes = (getH L ids[j]).bytes := h2.2
  rw [h3]
  exact h1
theorem ids_in {L : List BHeld} (hV : VH L) {ids : List Int} (hl : l4Ids L ids = true) {a : Int} (ha : a ∈ ids) : 0 < us L a := by
  obtain ⟨j, hz⟩ := List.getElem?_of_mem ha
  have hj := (List.getElem?_eq_some_iff.1 hz).1
  have h1 : idsOk L ids j = true := by
    simp only [l4Ids, Bool.and_eq_true] at hl
    exact List.all_eq_true.1 hl.1 j (by simpa using hj)
  refine (us_pos hV).2 ?_
  cases e : (Sp.atH L a).isSome with
  | true => rfl
  | false => rw [idsOk_no hz e] at h1; cases h1
theorem cnt1_pos {a : Int} {ids : List Int} : 0 < cnt1 a ids ↔ a ∈ ids := by
  unfold cnt1
  rw [List.countP_pos_iff]
  constructor
  · rintro ⟨x, hx, e⟩
    have : x = a := by simpa using e
    exact this ▸ hx
  · intro h
    exact ⟨a, h, by simp⟩
end Sp
namespace Sp
open Go Fw Fw.Nd
def cntL (l : List BItem) (a : Int) : Nat := (l.map (fun x => cnt1 a x.ids)).sum
theorem l11Count_eq (l : List BItem) (a : Int) : l11Count l a = cntL l a := by simp [l11Count, cntU, cntL]
theorem cntL_mem {l : List BItem} {x : BItem} (hx : x ∈ l) (a : Int) : cnt1 a x.ids ≤ cntL l a := by
  induction l with
  | nil => simp at hx
  | cons y r ih =>
    simp only [cntL, List.map_cons, List.sum_cons] at *
    rcases List.mem_cons.1 hx with rfl | hx
    · omega
    · have := ih hx; omega
theorem cntL_perm {l m : List BItem} (h : l.Perm m) (a : Int) : cntL l a = cntL m a := (h.map _).sum_nat
theorem cntL_cons (x : BItem) (l : List BItem) (a : Int) : cntL (x :: l) a = cnt1 a x.ids + cntL l a := by simp [cntL]
theorem cntL_zero {l : List BItem} {a : Int} (h : ∀ x, x ∈ l → a ∉ x.ids) : cntL l a = 0 := by
  induction l with
  | nil => rfl
  | cons y r ih =>
    rw [cntL_cons, ih (fun x hx => h x (by simp [hx]))]
    have := h y (by simp)
    rw [← cnt1_pos] at this
    omega
theorem vv_iff {u : BVol} : VolumeValid u = true ↔ VH u.store ∧ VT u.tree ∧ (∀ x, x ∈ u.tree → l4Ids u.store x.ids = true) ∧ ∀ a, us u.store a = (cntL u.tree a : Int) := by
  simp only [VolumeValid, Bool.and_eq_true, valid_iff, tvalid_iff]
  constructor
  · rintro ⟨h1, ⟨h2, h3⟩, h4⟩
    have h4 : ∀ x, x ∈ u.tree → l4Ids u.store x.ids = true := fun x hx => List.all_eq_true.1 h4 x hx
    refine ⟨h2, h3, h4, fun a => ?_⟩
    by_cases ha : a ∈ u.store.map (·.id)
    · obtain ⟨h, hh, rfl⟩ := List.mem_map.1 ha
      have := List.all_eq_true.1 h1 h hh
      simp only [usesOk, decide_eq_true_eq, l11Count_eq] at this
      rw [this, us, getH_mem h2.nd hh]
    · rw [us, getH_not ha, cntL_zero]
      · rfl
      · intro x hx hax
        have := ids_in h2 (h4 x hx) hax
        rw [us, getH_not ha] at this
        exact absurd this (by simp)
  · rintro ⟨h1, h2, h3, h4⟩
    refine ⟨List.all_eq_true.2 fun h hh => ?_, ⟨h1, h2⟩, List.all_eq_true.2 h3⟩
    simp only [usesOk, decide_eq_true_eq, l11Count_eq]
    rw [← h4, us, getH_mem h1.nd hh]
theorem vv_use {u : BVol} {T : Nd} (hS : StoreValid u.store = true) (hTv : TreeValid u.tree = true) (hT : TOK T u.tree) : VolumeValid u = useOK u.store [T] := by
  have h1 : ∀ a, cntT [T] a = l11Count u.tree a := fun a => by simp [cntT, hT.flat]
  simp only [VolumeValid, useOK, List.all_cons, List.all_nil, Bool.and_true, hS, hTv, hT.flat, Bool.true_and, h1]
  rw [Bool.and_comm]
  rfl
theorem item_file {p : Bs} {ids : List Int} (hp : PathValid p = true) (hl : ids.length ≤ 4) (h : ids.all (idOk false) = true) : l5Item ⟨p, false, ids⟩ = true := by
  simp [l5Item, hp, hl, h]
theorem nodup_paths {l : List BItem} (h : l.Pairwise ltp) : l.Nodup := by
  refine List.Pairwise.imp ?_ h
  intro a b hab e
  subst e
  exact absurd hab (by simp [ltp, lt_irrefl])
theorem put_perm2 {l t : List BItem} {x : BItem} (h : TreePut l x = some t) : VT l ∧ VT t ∧ l5Item x = true ∧ t.Perm (x :: l.filter (fun y => decide (y.path ≠ x.path))) := by
  unfold TreePut at h
  split at h
  · rename_i hc
    simp only [Bool.and_eq_true] at hc
    have hv := tvalid_iff.1 hc.1
    simp at h
    obtain ⟨_, hp, rfl⟩ := h
    have hp := tvalid_iff.1 hp
    refine ⟨hv, hp, hc.2, ?_⟩
    have n1 := nodup_paths hp.asc
    have n2 : (x :: l.filter (fun y => decide (y.path ≠ x.path))).Nodup := by
      rw [List.nodup_cons]
      exact ⟨fun hm => by simpa using (List.mem_filter.1 hm).2, (nodup_paths hv.asc).sublist List.filter_sublist⟩
    rw [List.perm_ext_iff_of_nodup n1 n2]
    intro a
    rw [put_mem, List.mem_cons, List.mem_filter]
    simp
  · cases h
theorem filter_none {l : List BItem} {p : Bs} (h : ∀ y, y ∈ l → y.path ≠ p) : l.filter (fun y => decide (y.path ≠ p)) = l := by
  rw [List.filter_eq_self]
  intro y hy
  simpa using h y hy
theorem filter_one {l : List BItem} (hs : l.Pairwise ltp) {x : BItem} (hx : x ∈ l) : l.Perm (x :: l.filter (fun y => decide (y.path ≠ x.path))) := by
  have n1 := nodup_paths hs
  have n2 : (x :: l.filter (fun y => decide (y.path ≠ x.path))).Nodup := by
    rw [List.nodup_cons]
    exact ⟨fun hm => by simpa using (List.mem_filter.1 hm).2, n1.sublist List.filter_sublist⟩
  rw [List.perm_ext_iff_of_nodup n1 n2]
  intro a
  rw [List.mem_cons, List.mem_filter]
  constructor
  · intro ha
    by_cases e : a.path = x.path
    · left
      obtain ⟨i, h1, h2⟩ := (uniq_at hs (p := x.path)).2.1 _ ha e
      obtain ⟨j, h3, h4⟩ := (uniq_at hs (p := x.path)).2.1 _ hx rfl
      rw [h1] at h3
      cases h3
      rw [h2] at h4
      exact Option.some.inj h4
    · exact .inr ⟨ha, by simpa using e⟩
  · rintro (rfl | ⟨h, _⟩)
    · exact hx
    · exact h
theorem ids_of_l11 {l : List BItem} (hs : l.Pairwise ltp) (p : Bs) : (l11Ids l p = [] ∧ ∀ y, y ∈ l → y.path = p → y.dir = true) ∨ ∃ x, x ∈ l ∧ x.path = p ∧ x.dir = false ∧ l11Ids l p = [x] := by
  unfold l11Ids
  cases e : atI l p with
  | none =>
    left
    refine ⟨rfl, fun y hy hp => ?_⟩
    obtain ⟨i, h1, _⟩ := (uniq_at hs (p := p)).2.1 _ hy hp
    rw [e] at h1; cases h1
  | some i =>
    obtain ⟨y, h1, h2⟩ := (uniq_at hs (p := p)).1 i e
    simp only [h1]
    cases hd : y.dir with
    | true =>
      left
      refine ⟨by simp, fun z hz hp => ?_⟩
      obtain ⟨j, g1, g2⟩ := (uniq_at hs (p := p)).2.1 _ hz hp
      rw [e] at g1
      cases g1
      rw [h1] at g2
      cases g2
      exact hd
    | false => exact .inr ⟨y, List.mem_of_getElem? h1, h2, hd, by simp⟩
theorem put_dir_no {l : List BItem} (hs : l.Pairwise ltp) {x y : BItem} (hy : y ∈ l) (hp : y.path = x.path) (hd : (y.dir || x.dir) = true) : TreePut l x = none := by
  obtain ⟨i, h1, h2⟩ := (uniq_at hs (p := x.path)).2.1 _ hy hp
  simp [TreePut, h1, h2, hd]
structure Hol (L : List BHeld) (t : List BItem) : Prop where
  vh : VH L
  vt : VT t
  ids : ∀ x, x ∈ t → l4Ids L x.ids = true
  le : ∀ a, (cntL t a : Int) ≤ us L a
theorem Hol.of_vol {u : BVol} (h : VolumeValid u = true) : Hol u.store u.tree := by
  obtain ⟨h1, h2, h3, h4⟩ := vv_iff.1 h
  exact ⟨h1, h2, h3, fun a => by rw [h4]; exact Int.le_refl _⟩
theorem Hol.vol {L : List BHeld} {t : List BItem} (h : Hol L t) (he : ∀ a, us L a = (cntL t a : Int)) : VolumeValid ⟨L, t⟩ = true := vv_iff.2 ⟨h.vh, h.vt, h.ids, he⟩
theorem ids_keep {s s' : List BHeld} (hs : VH s) (hs' : VH s') {ids : List Int} (h : ∀ a, a ∈ ids → 0 < us s' a ∧ by_ s' a = by_ s a) (hl : l4Ids s ids = true) : l4Ids s' ids = true := by
  refine ids_true (fun j hj => ?_) (ids_le hl)
  have hz : ids[j]? = some ids[j] := List.getElem?_eq_getElem hj
  have h1 : idsOk s ids j = true := by
    simp only [l4Ids, Bool.and_eq_true] at hl
    exact List.all_eq_true.1 hl.1 j (by simpa using hj)
  have hp : (Sp.atH s ids[j]).isSome = true := by
    cases e : (Sp.atH s ids[j]).isSome with
    | true => rfl
    | false => rw [idsOk_no hz e] at h1; cases h1
  have h2 := h ids[j] (List.getElem_mem hj)
  rw [idsOk_get hz ((us_pos hs').1 h2.1)]
  rw [idsOk_get hz hp] at h1
  have h3 : (getH s' ids[j]).bytes = (getH s ids[j]).bytes := h2.2
  rw [h3]
  exact h1
theorem stored_ids {L s : List BHeld} (hV : VH L) {b : List Int} {ids : List Int} (hst : FileStore L b = some (s, ids)) : l4Ids s ids = true := by
  obtain ⟨hs, hlen, hsu, hsb⟩ := store_ok hV hst
  refine ids_true (fun j hj => ?_) ?_
  · have hz : ids[j]? = some ids[j] := List.getElem?_eq_getElem hj
    have hp : 0 < us s ids[j] := by
      have := (hsu ids[j]).1
      have := us_nonneg hV ids[j]
      have := cnt1_pos.2 (List.getElem_mem hj)
      omega
    rw [idsOk_get hz ((us_pos hs).1 hp)]
    have h5 := hsb j _ hz
    have h6 : (l4Cut b)[j]? = some (chunk b j) := by
      have hj' : j < (l4Cut b).length := by omega
      unfold l4Cut at hj' ⊢
      simp at hj'
      simp [hj']
    rw [h6] at h5
    have h7 : (getH s ids[j]).bytes = chunk b j := Option.some.inj h5
    rw [h7, chunk_len]
    have h8 : ids.length = (b.length + 7) / 8 := by rw [hlen]; simp [l4Cut]
    by_cases hlt : j + 1 < ids.length
    · have : ¬ (min (8 * j + 8) b.length - 8 * j < 8) := by omega
      simp [this]
    · simp [hlt]
  · have : (l4Cut b).length ≤ 4 := by
      unfold FileStore at hst
      split at hst
      · rename_i hc
        simp only [Bool.and_eq_true] at hc
        have := file_len hc.2
        simp [l4Cut]
        omega
      · cases hst
    omega
theorem write_ok {L : List BHeld} {l : List BItem} (hu : Hol L l) {p : Bs} {b : List Int} {s : List BHeld} {ids : List Int} (hst : FileStore L b = some (s, ids)) {t : List BItem} (hpt : TreePut l ⟨p, false, ids⟩ = some t) :
    ∃ s', (∀ o, l11Ids l p = [o] → FileFree s o.ids = some s') ∧ (l11Ids l p = [] → s' = s) ∧ l11Write ⟨L, l⟩ p b = some ⟨s', t⟩ ∧ Hol s' t ∧
      ∀ a, us s' a = us L a + (cntL t a : Int) - (cntL l a : Int) ∧ (0 < us s' a → by_ s' a = by_ s a) := by
  obtain ⟨hs, hlen, hsu, hsb⟩ := store_ok hu.vh hst
  obtain ⟨_, ht, hx, hperm⟩ := put_perm2 hpt
  have hstay : ∀ a, 0 < us L a → 0 < us s a ∧ by_ s a = by_ L a := fun a ha => by
    have := hsu a
    exact ⟨by omega, this.2 ha⟩
  have hids := stored_ids hu.vh hst
  have hold : ∀ x, x ∈ t → l4Ids s x.ids = true := fun x hxt => by
    rcases List.mem_cons.1 (hperm.mem_iff.1 hxt) with rfl | hm
    · exact hids
    · exact ids_stay hu.vh hs hstay (hu.ids x (List.mem_filter.1 hm).1)
  have hall : ∀ s', VH s' → (∀ a, 0 < cntL t a → 0 < us s' a ∧ by_ s' a = by_ s a) → ∀ x, x ∈ t → l4Ids s' x.ids = true := fun s' hs' hk x hxt =>
    ids_keep hs hs' (fun a ha => hk a (Nat.lt_of_lt_of_le (cnt1_pos.2 ha) (cntL_mem hxt a))) (hold x hxt)
  have hcount : ∀ a, cntL t a = cnt1 a ids + cntL (l.filter (fun y => decide (y.path ≠ p))) a := fun a => by rw [cntL_perm hperm, cntL_cons]
  rcases ids_of_l11 hu.vt.asc p with ⟨h0, hno⟩ | ⟨o, ho, hop, hod, h1⟩
  · have hne : ∀ y, y ∈ l → y.path ≠ p := fun y hy hp => by
      have := put_dir_no hu.vt.asc (x := ⟨p, false, ids⟩) hy hp (by simp [hno y hy hp])
      rw [this] at hpt; cases hpt
    have hc2 : ∀ a, us s a = us L a + (cntL t a : Int) - (cntL l a : Int) := fun a => by
      rw [hcount, filter_none hne, (hsu a).1]
      omega
    have hle2 : ∀ a, (cntL t a : Int) ≤ us s a := fun a => by have := hc2 a; have := hu.le a; omega
    refine ⟨s, fun o ho => (by rw [h0] at ho; cases ho), fun _ => rfl, ?_, ⟨hs, ht, hall s hs (fun a ha => ⟨by have := hle2 a; omega, rfl⟩), hle2⟩, fun a => ⟨hc2 a, fun _ => rfl⟩⟩
    simp [l11Write, hst, hpt, h0, freeOld]
  · have hfo := filter_one hu.vt.asc ho
    rw [hop] at hfo
    have hco : ∀ a, cntL l a = cnt1 a o.ids + cntL (l.filter (fun y => decide (y.path ≠ p))) a := fun a => by rw [cntL_perm hfo, cntL_cons]
    have hle : ∀ a, (cnt1 a o.ids : Int) ≤ us s a := fun a => by
      have := (hsu a).1
      have := hu.le a
      have := hco a
      omega
    obtain ⟨s', g1, g2, g3⟩ := free_ok hs (ids_stay hu.vh hs hstay (hu.ids o ho)) hle
    have hc2 : ∀ a, us s' a = us L a + (cntL t a : Int) - (cntL l a : Int) := fun a => by
      have := (hsu a).1
      have := hco a
      have := (g3 a).1
      have := hcount a
      omega
    have hle2 : ∀ a, (cntL t a : Int) ≤ us s' a := fun a => by have := hc2 a; have := hu.le a; omega
    refine ⟨s', fun o' ho' => (by rw [h1] at ho'; cases ho'; exact g1), fun h => (by rw [h1] at h; cases h), ?_, ⟨g2, ht, hall s' g2 (fun a ha => by
        have h5 := hle2 a
        exact ⟨by omega, (g3 a).2 (by omega)⟩), hle2⟩, fun a => ⟨hc2 a, (g3 a).2⟩⟩
    simp [l11Write, hst, hpt, h1, freeOld, g1]
theorem write_valid {u : BVol} (hu : VolumeValid u = true) {p : Bs} {b : List Int} {u' : BVol} (h : l11Write u p b = some u') : VolumeValid u' = true := by
  cases e : FileStore u.store b with
  | none => simp [l11Write, e] at h
  | some r =>
    cases e2 : TreePut u.tree ⟨p, false, r.2⟩ with
    | none => simp [l11Write, e, e2] at h
    | some t =>
      obtain ⟨s', _, _, h3, h4, h5⟩ := write_ok (Hol.of_vol hu) (s := r.1) (ids := r.2) e e2
      rw [h3] at h
      cases h
      refine h4.vol (fun a => ?_)
      have := (h5 a).1
      have := (vv_iff.1 hu).2.2.2 a
      omega
theorem vv_no {u : BVol} (h : (StoreValid u.store && TreeValid u.tree) = false) : VolumeValid u = false := by
  simp only [VolumeValid]
  cases e : u.store.all (usesOk u.tree) <;> simp_all
theorem stored_item {L s : List BHeld} (hV : VH L) {p : Bs} (hp : PathValid p = true) {b : List Int} {ids : List Int} (hst : FileStore L b = some (s, ids)) : l5Item ⟨p, false, ids⟩ = true := by
  have h4 := stored_ids hV hst
  obtain ⟨hs, _⟩ := store_ok hV hst
  refine item_file hp (ids_le h4) (List.all_eq_true.2 fun a ha => ?_)
  have := (get_ok hs ((us_pos hs).1 (ids_in hs h4 ha))).1
  simp [idOk, l6In]
  omega
theorem free_nil {s : List BHeld} (h : VH s) : FileFree s [] = some s := by
  have : l4Ids s [] = true := ids_true (by simp) (by simp)
  simp [FileFree, valid_iff.2 h, this, foldB]
theorem write_fin {L : List BHeld} {l : List BItem} {T : Nd} {p : Bs} {b : List Int} {s : List BHeld} {ids : List Int} {nb : Nat} {T' : Nd} (hH : Hol L l) (hT : TOK T l) (hp : PathValid p = true) (hst : FileStore L b = some (s, ids))
    (hput : T.putN ⟨p, false, ids⟩ nb = some T') {fr : List Int} (hfr : (T.find p = none ∧ fr = []) ∨ ∃ d, T.find p = some d ∧ fr = d.ids) :
    ∃ s' t, FileFree s fr = some s' ∧ l11Write ⟨L, l⟩ p b = some ⟨s', t⟩ ∧ TOK T' t ∧ Hol s' t := by
  have hx := stored_item hH.vh hp hst
  obtain ⟨h1, h2⟩ := put_eq nb hT hx
  rw [hput] at h1
  obtain ⟨t, ht⟩ := Option.isSome_iff_exists.1 h1.symm
  have hT' := h2 T' hput
  rw [ht] at hT'
  obtain ⟨s', g1, g2, g3, g4, _⟩ := write_ok hH hst ht
  refine ⟨s', t, ?_, g3, hT', g4⟩
  have hs := (store_ok hH.vh hst).1
  have hfl := find_list hT p
  rcases hfr with ⟨hn, rfl⟩ | ⟨d, hd, rfl⟩
  · rw [hn] at hfl
    have : l11Ids l p = [] := by
      unfold l11Ids
      cases e : atI l p with
      | none => rfl
      | some i =>
        rw [e] at hfl
        simp only [Option.map_none, Option.bind_some] at hfl
        simp only [← hfl]
    rw [g2 this]
    exact free_nil hs
  · rw [hd] at hfl
    cases e : atI l p with
    | none => rw [e] at hfl; simp at hfl
    | some i =>
      rw [e] at hfl
      simp only [Option.map_some, Option.bind_some] at hfl
      have hl : l11Ids l p = if d.dir then [] else [⟨p, d.dir, d.ids⟩] := by
        unfold l11Ids
        simp only [e, ← hfl]
      cases hdd : d.dir with
      | true =>
        have := put_dir_no hH.vt.asc (x := ⟨p, false, ids⟩) (List.mem_of_getElem? hfl.symm) rfl (by simp [hdd])
        rw [this] at ht; cases ht
      | false =>
        rw [hdd] at hl
        exact g1 _ hl
theorem write_nop {L : List BHeld} {l : List BItem} {p : Bs} {b : List Int} (hp : PathValid p = false) : l11Write ⟨L, l⟩ p b = none := by
  unfold l11Write
  cases FileStore L b with
  | none => rfl
  | some r =>
    have : TreePut l ⟨p, false, r.2⟩ = none := by simp [TreePut, l5Item, hp]
    simp [this]
theorem write_no2 {L : List BHeld} {l : List BItem} {T : Nd} {p : Bs} {b : List Int} {s : List BHeld} {ids : List Int} {nb : Nat} (hH : Hol L l) (hT : TOK T l) (hp : PathValid p = true) (hst : FileStore L b = some (s, ids))
    (hput : (T.putN ⟨p, false, ids⟩ nb).isSome = false) : l11Write ⟨L, l⟩ p b = none := by
  have h1 := (put_eq nb hT (stored_item hH.vh hp hst)).1
  rw [hput] at h1
  have : TreePut l ⟨p, false, ids⟩ = none := by simpa using h1.symm
  simp [l11Write, hst, this]
end Sp
namespace Go.Proofs.Tst
open Go Fw
theorem i_openVol_c (w0 : World) (G0 : PH) (hG : PSub G0 w0) (cu : List Value) (u : BVol) (hu : volE G0 u cu) (hLent : Lent w0 G0 [])  :
  Calls Tryz.prog 30 #[.agg cu.toArray] w0 (RetM w0 G0 [] (fun G' v Bs => (v = .tuple #[.agg #[.map none, .pointer none], .bool false] ∧ Bs = [] ∧ Sp.VolumeValid u = false) ∨ (∃ (mb : Nat) (es : Array MapEntry) (ck : Nat) (xs : List (Int × Value)) (T : Nd) (F : Fr), v = .tuple #[.agg #[.map (some mb), .pointer (some ⟨T.b, 0, none⟩)], .bool true] ∧ Bs = [blk mb (.map es ck), frag F] ∧ MapIs (Value.int .i64) es ck xs ∧ StR G' xs u.store ∧ NdO 83 67 G' T F ∧ Nd.TOK T u.tree ∧ Sp.VolumeValid u = true))) := by
 obtain ⟨a1, m1, c1, a1', m1', c1', rfl, hr1, hr1'⟩ := hu; have hn_hr1 := hr1.len; have hx_hr1 : _ ≤ 1099511627776 := hr1.lim; have hn_hr1q := hr1'.len; have hx_hr1q : _ ≤ 1099511627776 := hr1'.lim
 have H : Hp w0 G0 [] w0 G0 [] := hLent.hp
 refine calls_of_W (l := [_]) Tryz.func30 rfl Tryz.ntmps30 rfl ?_
 refine q2 ?_
 refine o_box H rfl rfl rfl ?_; intro b2 w2 hb2 H
 refine o_alloc H Tryz.zeroValue69 rfl rfl ?_; intro b3 w3 hb3 H
 refine o_assign rfl rfl ?_
 refine q1 ?_
 refine o_fieldAddr 0 Tryz.runUnderlying26 rfl Tryz.sizeOf23 rfl rfl rfl ?_
 refine o_load_B 1 H Tryz.isAgg23 rfl rfl rfl rfl ?_
 refine o_fieldAddr 1 Tryz.runUnderlying26 rfl Tryz.sizeOf24 rfl rfl rfl ?_
 refine o_load_B 1 H Tryz.isAgg24 rfl rfl rfl rfl ?_
 refine o_call Tryz.call74 rfl rfl (i_newVolume_c _ _ H.sub _ _ hr1 _ _ hr1' H.lent0 ) ?_
 rintro _ w4 ⟨G4, _, _, rfl, H4', ⟨rfl, rfl, hnv4⟩ | ⟨mb4, es4, ck4, xs4, T4, F4, rfl, rfl, hm4, hS4, hV4, hN4, hT4, hv4⟩⟩
 ·skip
  have hr1 := hr1.up H4'.le
  have hr1' := hr1'.up H4'.le
  have H := H.borrow0 H4'
  refine ⟨_, rfl, ?_⟩
  refine o_move rfl rfl ?_
  refine o_extract rfl rfl rfl ?_
  refine o_extract rfl rfl rfl ?_
  refine o_alloc H Tryz.zeroValue69 rfl rfl ?_; intro b5 w5 hb5 H
  refine o_store_B 0 H Tryz.sizeOf69 rfl rfl rfl rfl rfl rfl rfl rfl ?_; intro w6 H
  refine o_assign rfl rfl ?_
  refine q3 ?_
  refine W_seq ?_
  refine q2 ?_
  refine o_move rfl rfl ?_
  refine o_not rfl rfl ?_
  refine o_move rfl rfl ?_
  refine R_pass rfl (yl_ne rfl rfl rfl) ?_
  refine R_pass rfl (yl_ne rfl rfl rfl) ?_
  refine R_pass rfl (yl_ne rfl rfl rfl) ?_
  refine R_pass rfl (yl_ne rfl rfl rfl) ?_
  refine R_pass rfl (yl_ne rfl rfl rfl) ?_
  refine R_pass rfl (yl_ne rfl rfl rfl) ?_
  refine R_pass rfl (yl_ne rfl rfl rfl) ?_
  refine o_pick_t rfl rfl rfl ?_
  refine q3 ?_
  refine W_true rfl ?_
  refine q2 ?_
  refine o_build bf69 rfl rfl rfl ?_
  refine o_store_B 1 H Tryz.sizeOf69 rfl rfl rfl rfl rfl rfl rfl rfl ?_; intro w7 H
  refine o_assign rfl rfl ?_
  refine q3 ?_
  refine W_ret ?_
  refine N_K_ret ?_
  refine ret_gen (rs := [.cell 2 69, .tmp 3]) (vs := [_, _]) Tryz.results30 ⟨⟨_, rfl, load_blk 1 H Tryz.isAgg69 Tryz.sizeOf69 rfl rfl rfl⟩, rfl, trivial⟩ ?_
  have H := H.del (k := 0) rfl
  have H := H.del (k := 0) rfl
  have H := H.del (k := 0) rfl
  exact H.retM (.inl ⟨rfl, rfl, (Sp.vv_no (by assumption))⟩)
 skip
 have hr1 := hr1.up H4'.le
 have hr1' := hr1'.up H4'.le
 have H := H.borrow0 H4'
 refine ⟨_, rfl, ?_⟩
 refine o_move rfl rfl ?_
 refine o_extract rfl rfl rfl ?_
 refine o_extract rfl rfl rfl ?_
 refine o_alloc H Tryz.zeroValue69 rfl rfl ?_; intro b8 w8 hb8 H
 refine o_store_B 0 H Tryz.sizeOf69 rfl rfl rfl rfl rfl rfl rfl rfl ?_; intro w9 H
 refine o_assign rfl rfl ?_
 refine q3 ?_
 refine W_seq ?_
 refine q2 ?_
 refine o_move rfl rfl ?_
 refine o_not rfl rfl ?_
 refine o_move rfl rfl ?_
 refine R_guard (yl rfl rfl) ?_
 refine o_fieldAddr 0 Tryz.runUnderlying69 rfl Tryz.sizeOf66 rfl rfl rfl ?_
 refine R_guard (yl rfl rfl) ?_
 refine o_load_B 0 H Tryz.isAgg66 rfl rfl rfl rfl ?_
 refine R_guard (yl rfl rfl) ?_
 refine o_fieldAddr 1 Tryz.runUnderlying69 rfl Tryz.sizeOf67 rfl rfl rfl ?_
 refine R_guard (yl rfl rfl) ?_
 refine o_load_B 0 H Tryz.isAgg67 rfl rfl rfl rfl ?_
 refine R_guard (yl rfl rfl) ?_
 refine o_buildSlice H Tryz.underlying81 Tryz.sizeOf67 (fun w => ⟨_, Tryz.zeroValue67 w, rfl⟩) rfl rfl rfl rfl rfl rfl rfl ?_; intro b10 w10 hb10 H
 have H := H.blkAcc 1 (k := 0) (n := 1) rfl rfl (by decide)
 refine R_guard (yl rfl rfl) ?_
 refine o_call Tryz.call75 rfl rfl (i_usedBy_c _ _ (H.lendSubL [0, 2, 3]) _ _ _ _ _ (H.lendPredL (k := 2) (ks := [0, 2, 3]) rfl rfl) hm4 (hS4.up (PPlus.le _ _ _)) hV4 _ _ (RdS.withN (H.lendRdL (k := 0) (ks := [0, 2, 3]) rfl rfl (chkK [T4]) (by first | assumption | rfl | (simp; done) | (simp; omega) | omega) (by first | assumption | (simp; done) | (simp; omega) | omega)) (fun t ht => by rcases List.mem_singleton.1 ht with rfl; exact H.lendN (k := 3) rfl rfl hN4)) (by simp) (fun t ht => by rcases List.mem_singleton.1 ht with rfl; exact ⟨hT4.wf, by have := hT4.cnt; have := Sp.tree_len hv4; omega⟩)) ?_
 rintro _ w11 ⟨rfl, ew11⟩; have H := H.step ew11; refine ⟨_, rfl, ?_⟩
 refine R_guard (yl rfl rfl) ?_
 refine o_not rfl rfl ?_
 refine o_pick_f rfl rfl rfl ?_
 refine q3 ?_
 refine W_cond rfl ?_ ?_
 ·intro hc12
  try simp only [nrm] at hc12
  refine q2 ?_
  refine o_build bf69 rfl rfl rfl ?_
  refine o_store_B 4 H Tryz.sizeOf69 rfl rfl rfl rfl rfl rfl rfl rfl ?_; intro w13 H
  refine o_assign rfl rfl ?_
  refine q3 ?_
  refine W_ret ?_
  refine N_K_ret ?_
  refine ret_gen (rs := [.cell 2 69, .tmp 3]) (vs := [_, _]) Tryz.results30 ⟨⟨_, rfl, load_blk 4 H Tryz.isAgg69 Tryz.sizeOf69 rfl rfl rfl⟩, rfl, trivial⟩ ?_
  have H := H.del (k := 0) rfl
  have H := H.del (k := 0) rfl
  have H := H.del (k := 0) rfl
  have H := H.del (k := 0) rfl
  have H := H.del (k := 0) rfl
  have H := H.del (k := 0) rfl
  have hvu : Sp.VolumeValid u = _ := Sp.vv_use (Sp.valid_iff.2 hV4) hv4 hT4
  exact H.retM (.inl ⟨rfl, rfl, (by (rw [hvu]; unfold Sp.useOK; rw [Bool.and_eq_false_iff]; exact hc12))⟩)
 intro hc12'
 try simp only [nrm] at hc12'
 refine W_skip ?_
 refine N_K ?_
 refine q2 ?_
 refine o_loadagg_B 1 H Tryz.isAgg69 Tryz.sizeOf69 rfl rfl rfl rfl rfl ?_
 refine o_store_B 4 H Tryz.sizeOf69 rfl rfl rfl rfl rfl rfl rfl rfl ?_; intro w14 H
 refine o_assign rfl rfl ?_
 refine q3 ?_
 refine W_ret ?_
 refine ret_gen (rs := [.cell 2 69, .tmp 3]) (vs := [_, _]) Tryz.results30 ⟨⟨_, rfl, load_blk 4 H Tryz.isAgg69 Tryz.sizeOf69 rfl rfl rfl⟩, rfl, trivial⟩ ?_
 have H := H.del (k := 0) rfl
 have H := H.del (k := 0) rfl
 have H := H.del (k := 2) rfl
 have H := H.del (k := 2) rfl
 have H := H.toFront (k := 1) rfl
 have H := H.toFront (k := 1) rfl
 have hvu : Sp.VolumeValid u = _ := Sp.vv_use (Sp.valid_iff.2 hV4) hv4 hT4
 have hvt : Sp.VolumeValid u = true := by (rw [hvu]; unfold Sp.useOK; simpa using hc12')
 exact H.retM (.inr ⟨_, _, _, _, _, _, rfl, rfl, hm4, hS4, hN4, hT4, hvt⟩)
theorem i_volume_c (w0 : World) (G0 : PH) (hG : PSub G0 w0) (mb : Nat) (es : Array MapEntry) (ck : Nat) (xs : List (Int × Value)) (T : Nd) (L : List BHeld) (hb : MapAt G0 mb es ck) (hm : MapIs (Value.int .i64) es ck xs) (hS : StR G0 xs L) (hV : Sp.VH L) (hnd : RdN G0 T) (hwt : T.wf) (hct : T.cnt ≤ 1000) :
  Calls Tryz.prog 33 #[.agg #[.map (some mb), .pointer (some ⟨T.b, 0, none⟩)]] w0 (RetN w0 G0 (fun v Bs => ∃ (v1 v2 : Value) (F1 F2 : Fr), v = .agg #[v1, v2] ∧ Bs = [frag F1, frag F2] ∧ OHs F1 v1 L ∧ OIs F2 v2 (T.flat []))) := by
 have H := Hp.init hG
 obtain ⟨hnlT, naT, nmT, ncT, nAT, nMT, nCT, hprT, hriT, hrkT⟩ := hnd.open
 refine calls_of_W (l := [_]) Tryz.func33 rfl Tryz.ntmps33 rfl ?_
 refine q2 ?_
 refine o_box H rfl rfl rfl ?_; intro b1 w1 hb1 H
 refine o_alloc H Tryz.zeroValue26 rfl rfl ?_; intro b2 w2 hb2 H
 refine q3 ?_
 refine W_seq ?_
 refine W_drawK [0, 1] 8 H (by kernel_rfl) rfl ?_; intro w3 H; have hd3 := PLe.refl G0
 refine RD_t 0 rfl (by kernel_rfl) rfl (fun _ hK => v_fieldAddr 0 Tryz.runUnderlying69 rfl Tryz.sizeOf66 rfl rfl) ?_
 refine RD_t 1 rfl (by kernel_rfl) rfl (fun _ hK => v_load_B 1 hK Tryz.isAgg66 rfl rfl rfl) ?_
 refine RD_t 3 rfl (by kernel_rfl) rfl (fun _ hK => v_fieldAddr 1 Tryz.runUnderlying69 rfl Tryz.sizeOf67 rfl rfl) ?_
 refine RD_t 4 rfl (by kernel_rfl) rfl (fun _ hK => v_load_B 1 hK Tryz.isAgg67 rfl rfl rfl) ?_
 refine RD_run [2] (by kernel_rfl) rfl (RDs.cons rfl ?_ RDs.nil)
 refine o_call Tryz.call81 rfl rfl (i_slist_c _ _ H.sub _ _ _ _ _ hb hm hS hV ) ?_
 rintro _ w4 ⟨_, _, rfl, H4', ⟨F4, rfl, hO4⟩⟩
 have H := H.readers (fp := []) (by simp) (PLe.refl _) H4'
 obtain ⟨e24, hP4⟩ := hO4
 obtain ⟨sa4, sc4, rfl⟩ := OwnS.shape hP4
 have hO4 := OHs.mk hP4
 refine ⟨_, rfl, ?_⟩
 refine R_nil ?_
 refine N_DK (Kn.of' H hd3 (SubL.cons 1 rfl (SubL.cons 2 rfl SubL.nil))) ?_
 refine RD_run [5] (by kernel_rfl) rfl (RDs.cons rfl ?_ RDs.nil)
 refine o_call Tryz.call82 rfl rfl (i_tlist_c _ _ H.sub _ hnd hwt hct) ?_
 rintro _ w5 ⟨_, _, rfl, H5', ⟨F5, rfl, hO5⟩⟩
 have H := H.readers (fp := []) (by simp) (PLe.refl _) H5'
 obtain ⟨e25, hP5⟩ := hO5
 obtain ⟨sa5, sc5, rfl⟩ := OwnS.shape hP5
 have hO5 := OIs.mk hP5
 refine ⟨_, rfl, ?_⟩
 refine R_nil ?_
 refine N_DK (Kn.of' H hd3 (SubL.cons 2 rfl (SubL.cons 3 rfl SubL.nil))) ?_
 refine RD_t 6 rfl (by kernel_rfl) rfl (fun _ hK => v_build bf26 rfl rfl) ?_
 refine RD_run [7] (by kernel_rfl) rfl (RDs.cons rfl ?_ RDs.nil)
 refine o_store_B 2 H Tryz.sizeOf26 rfl rfl rfl rfl rfl rfl rfl rfl ?_; intro w6 H
 refine R_nil ?_
 refine N_DKlast (by kernel_rfl) (by kernel_rfl) ?_
 refine N_K ?_
 refine W_ret ?_
 refine ret_gen (rs := [.cell 2 26]) (vs := [_]) Tryz.results33 ⟨⟨_, rfl, load_blk 2 H Tryz.isAgg26 Tryz.sizeOf26 rfl rfl rfl⟩, trivial⟩ ?_
 have H := H.del (k := 2) rfl
 have H := H.del (k := 2) rfl
 have H := H.toFront (k := 1) rfl
 have H := H.forget hG (by simp)
 exact ⟨_, _, rfl, H, _, _, _, _, rfl, rfl, hO4, hO5⟩
end Go.Proofs.Tst

