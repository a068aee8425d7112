/- Part 8 of the proof: the program logic and plain functions. Conditions: none. -/
import Derived.Test.YtcnapjpnemcolaaGreatDoorProg
import Derived.Test.YtcnapjpnemcolaaGreatDoorG02
import Derived.Test.YtcnapjpnemcolaaGreatDoorG03
import Derived.Test.YtcnapjpnemcolaaGreatDoorG04
import Derived.Test.YtcnapjpnemcolaaGreatDoorG07
import Derived.Test.YtcnapjpnemcolaaGreatDoorG05
import Derived.WideKeyArgs
import Derived.ChangeArms
import Derived.DataElems
import Derived.ChangeSame
import Derived.Test.YtcnapjpnemcolaaGreatDoorRows
import Derived.LaidHandle
import Derived.LaidLaws
import Derived.ChangeVars
set_option linter.all false
set_option maxRecDepth 100000
set_option maxHeartbeats 1000000
namespace Go.Proofs.Tst
open Go Fw Tryz
theorem lOnly_c (w0 : World) (G0 : PH) (hG : PSub G0 w0) (vcode : Value) (code : List (UInt8)) (hcode : RdU G0 vcode code) (hge : ErrG G0) :
  Calls Tryz.prog 6 #[vcode] w0 (Rets w0 (.bool true)) := by
 obtain ⟨acode, kcode, rfl⟩ := hcode.shape
 have hlimcode : code.length ≤ 1099511627776 := hcode.lim
 have H := Hp.init hG
 refine calls_of_W (l := [.slice acode code.length kcode]) func6 Z ntmps6 Z (q2 (aG Z (q3 (W_seq (q2 (mV Z (o_len_slice underlying22 Z Z (o_gtr Z Z Z (q3 ?_)))))))))
 refine W_cond Z ?_ ?_
 ·intro hc1
  try simp only [nrm] at hc1
  refine q2 (aG Z (q3 (W_ret (N_K_ret (rt1 results6 Z ?_)))))
  exact H.rets (congrArg Value.bool (by first | rfl | (simp only [beq_iff_eq, decide_eq_decide]; exact qc5) | (simp only [decide_eq_true_eq]; omega) | simp_all))
 intro hc1'
 try simp only [nrm] at hc1'
 refine W_skip (N_K (q2 (mV Z (o_call call19 Z Z (DrawCountOnly_c _ _ H.sub _ _ hcode ) ?_))))
 rintro _ w2 ⟨G2, _, g2, rfl, ⟨cV, uV, uP0, rfl, hV, hP0⟩⟩
 have H := H.grow g2
 have hge := hge.up g2.le
 obtain ⟨a2, m2, c2, a2', m2', c2', a2'', m2'', c2'', rfl, hr2, hr2', hr2''⟩ := hV; have hn_hr2 := hr2.len; have hx_hr2 : _ ≤ 1099511627776 := hr2.lim; have hn_hr2q := hr2'.len; have hx_hr2q : _ ≤ 1099511627776 := hr2'.lim; have hn_hr2qq := hr2''.len; have hx_hr2qq : _ ≤ 1099511627776 := hr2''.lim
 refine ⟨_, Z, ?_⟩
 refine mV Z (o_extract Z Z Z (o_extract Z Z Z (o_alloc H zeroValue27 Z Z ?_))); intro b3 w3 hb3 H
 refine o_store_B 0 H sizeOf27 Z Z Z Z Z Z Z Z ?_; intro w4 H
 refine aG Z (q1 (o_loadagg_B 0 H isAgg27 sizeOf27 Z Z Z Z Z (mV Z (o_call call20 Z Z (i_CountOnly_c _ _ H.sub _ uV ⟨_, _, _, _, _, _, _, _, _, Z, hr2, hr2', hr2''⟩ _ hP0 hge) ?_))))
 rintro _ w5 ⟨rfl, ew5⟩; have H := H.step ew5; refine ⟨_, rfl, ?_⟩
 refine aG Z (q1 (o_loadagg_B 0 H isAgg27 sizeOf27 Z Z Z Z Z (mV Z (o_call call21 Z Z (CountOnly_c _ _ H.sub _ uV ⟨_, _, _, _, _, _, _, _, _, Z, hr2, hr2', hr2''⟩ _ hP0 ) ?_))))
 rintro _ w6 ⟨rfl, ew6⟩; have H := H.step ew6; refine ⟨_, rfl, ?_⟩
 refine aG Z (q3 (W_seq (q2 (mV Z (mV Z (o_neq_same Z Z Z (mV Z (gR Z (mV Z (gR Z (o_lss Z Z Z (o_pick_f Z Z Z (q3 ?_)))))))))))))
 refine W_cond Z ?_ ?_
 ·intro hc7
  try simp only [nrm] at hc7
  refine q2 (mV Z (mV Z (o_eql Z Z Z (aG Z (q3 (W_ret (N_K_ret (rt1 results6 Z ?_))))))))
  exact H.rets (congrArg Value.bool (by first | rfl | (simp only [beq_iff_eq, decide_eq_decide]; exact qc5) | (simp only [decide_eq_true_eq]; omega) | simp_all))
 intro hc7'
 try simp only [nrm] at hc7'
 refine W_skip (N_K (q2 ?_))
 obtain ⟨d1, hd1, hd2⟩ := Sp.only_pos (d := uV) (n := uP0) oM
 have hsd : (Sp.SnapDrop uV uP0).isSome = true := by (rw [hd1]; rfl)
 have hgd : (Sp.SnapDrop uV uP0).getD ⟨[], [], []⟩ = d1 := by (rw [hd1]; rfl)
 have hgs : Sp.cStored uV - Sp.cStored ((Sp.SnapDrop uV uP0).getD ⟨[], [], []⟩) = Sp.cOnly uV uP0 := by (rw [hgd]; exact hd2)
 obtain ⟨qc0, qc1, qc2, qc3, qc4, qc5, qc6, qc7, qc8, qc9⟩ := Sp.cnt_law uV
 obtain ⟨p0, p1, p2, p3, p4, _⟩ := Sp.cnt_law ((Sp.SnapDrop uV uP0).getD ⟨[], [], []⟩)
 refine o_loadagg_B 0 H isAgg27 sizeOf27 Z Z Z Z Z (mV Z (o_call call22 Z Z (i_SnapDrop_c _ _ H.sub _ uV ⟨_, _, _, _, _, _, _, _, _, Z, hr2, hr2', hr2''⟩ _ hP0 ) ?_))
 rintro _ w8 ⟨_, _, rfl, H8', ⟨u18, u28, u38, E18, E28, E38, rfl, rfl, ho18, ho28, ho38⟩⟩
 have H := H.readers (fp := []) (by simp) (PLe.refl _) H8'
 obtain ⟨x18, p18⟩ := ho18
 obtain ⟨a18, c18, rfl⟩ := OwnS.shape p18
 obtain ⟨x28, p28⟩ := ho28
 obtain ⟨a28, c28, rfl⟩ := OwnS.shape p28
 obtain ⟨x38, p38⟩ := ho38
 obtain ⟨a38, c38, rfl⟩ := OwnS.shape p38
 refine ⟨_, Z, ?_⟩
 refine mV Z (o_extract Z Z Z (o_extract Z Z Z (o_alloc H zeroValue27 Z Z ?_))); intro b9 w9 hb9 H
 refine o_store_B 0 H sizeOf27 Z Z Z Z Z Z Z Z ?_; intro w10 H
 refine aG Z (q1 (o_loadagg_B 4 H isAgg27 sizeOf27 Z Z Z Z Z (o_call call10 Z Z (i_CountBytes_c _ _ H.sub _ uV ⟨_, _, _, _, _, _, _, _, _, Z, hr2, hr2', hr2''⟩ hge) ?_)))
 rintro _ w11 ⟨rfl, ew11⟩; have H := H.step ew11; refine ⟨_, rfl, ?_⟩
 refine mV Z (o_extract Z Z Z (o_extract Z Z Z (o_extract Z Z Z (aG Z (aG Z (aG Z (q1 (o_loadagg_B 0 H isAgg27 sizeOf27 Z Z Z Z Z (o_call call10 Z Z (i_CountBytes_c _ _ (H.lendSubL [1, 2, 3]) _ ((Sp.SnapDrop uV uP0).getD ⟨[], [], []⟩) ⟨_, _, _, _, _, _, _, _, _, Z, (H.lendOHs (k := 1) (ks := [1, 2, 3]) Z Z ⟨_, p18⟩), (H.lendOIs (k := 2) (ks := [1, 2, 3]) Z Z ⟨_, p28⟩), (H.lendOSn (k := 3) (ks := [1, 2, 3]) Z Z ⟨_, p38⟩)⟩ (hge.up (PPlus.le _ _ _))) ?_)))))))))
 rintro _ w12 ⟨rfl, ew12⟩; have H := H.step ew12; refine ⟨_, rfl, ?_⟩
 refine mV Z (o_extract Z Z Z (o_extract Z Z Z (o_extract Z Z Z (aG Z (aG Z (aG Z (q1 (mV Z (mV Z ?_)))))))))
 refine R_case (t := 58) Z ?_ ?_
 ·intro hc13
  try simp only [nrm] at hc13
  refine gR Z (mV Z (gR Z (mV Z (gR Z (o_sub Z Z Z oO (gR Z (mV Z (gR Z (o_eql Z Z Z (o_pick_t Z Z Z (aG Z (q3 (W_ret (rt1 results6 Z ?_))))))))))))))
  exact H.rets (congrArg Value.bool (by first | rfl | (simp only [beq_iff_eq, decide_eq_decide]; exact qc5) | (simp only [decide_eq_true_eq]; omega) | simp_all))
 intro hc13'
 try simp only [nrm] at hc13'
 exact absurd (show False from by first | omega | simp_all) id
end Go.Proofs.Tst

namespace Go.Proofs.Tst
open Go Fw Tryz
theorem i_take_c (w0 : World) (G0 : PH) (hG : PSub G0 w0) (db mb : Nat) (es : Array MapEntry) (ck : Nat) (xs : List (Int × Value)) (T : Nd) (FT : Fr) (sv : Value) (sn : List (Bs × Nd)) (c : List Value) (FSq : Fr) (d : BDisk) (hm : MapIs (Value.int .i64) es ck xs) (hS : StR G0 xs d.store) (hN : NdO 167 65 G0 T FT) (hT : Nd.TOK T d.tree) (hchk : Chk osE 2 G0 c sn) (hNs : NdsO 167 65 G0 (sn.map (·.2)) FSq) (hSn : SnOK sn d.snaps) (hdv : Sp.DiskValid d = true) (name : Bs) (hname : name.length ≤ 16777216) (hLent : Lent w0 G0 [blk db (cl [.int .i32 0, .int .u32 0, .map (some mb), .pointer (some ⟨T.b, 0, none⟩), sv] 70), blk mb (.map es ck), frag FT, acc 124 2 sv sn.length c, frag FSq])  :
  Calls Tryz.prog 38 #[.pointer (some ⟨db, 0, none⟩), str name] w0 (RetM w0 G0 (fps [blk db (cl [.int .i32 0, .int .u32 0, .map (some mb), .pointer (some ⟨T.b, 0, none⟩), sv] 70), blk mb (.map es ck), frag FT, acc 124 2 sv sn.length c, frag FSq]) (fun G' v Bs => ∃ (es' : Array MapEntry) (ck' : Nat) (xs' : List (Int × Value)) (F' : Fr) (sv' : Value) (sn' : List (Fw.Bs × Nd)) (c' : List Value) (FSq' : Fr) (L' : List BHeld), v = .bool (Sp.SnapTake d name).isSome ∧ Bs = [blk db (cl [.int .i32 0, .int .u32 0, .map (some mb), .pointer (some ⟨T.b, 0, none⟩), sv'] 70), blk mb (.map es' ck'), frag F', acc 124 2 sv' sn'.length c', frag FSq'] ∧ MapIs (Value.int .i64) es' ck' xs' ∧ StR G' xs' L' ∧ Sp.VH L' ∧ NdO 167 65 G' T F' ∧ Chk osE 2 G' c' sn' ∧ NdsO 167 65 G' (sn'.map (·.2)) FSq' ∧ ∀ d', Sp.SnapTake d name = some d' → L' = d'.store ∧ d'.tree = d.tree ∧ SnOK sn' d'.snaps)) := by
 have H : Hp w0 G0 (fps [blk db (cl [.int .i32 0, .int .u32 0, .map (some mb), .pointer (some ⟨T.b, 0, none⟩), sv] 70), blk mb (.map es ck), frag FT, acc 124 2 sv sn.length c, frag FSq]) w0 G0 [blk db (cl [.int .i32 0, .int .u32 0, .map (some mb), .pointer (some ⟨T.b, 0, none⟩), sv] 70), blk mb (.map es ck), frag FT, acc 124 2 sv sn.length c, frag FSq] := hLent.hp
 obtain ⟨adv, cdv, rfl⟩ := H.accShape (k := 3) rfl; have hVd := Sp.valid_iff.1 (Sp.dv_parts.1 hdv).1; have hTv := (Sp.dv_parts.1 hdv).2.1; have hTc := hT.cnt; have hTl := Sp.tree_len hTv; have hsnl := hSn.len; have hsn6 := (Sp.dv_parts.1 hdv).2.2.1
 refine calls_of_WD (l := [.pointer (some ⟨db, 0, none⟩), str name]) func38 Z ntmps38 Z (q2 (aG Z (q1 (mV Z (o_nilCheck Z Z (o_fieldAddr 0 runUnderlying70 Z sizeOf62 Z Z Z (o_lock 0 H muLib Z call72 Z Z Z Z ?_))))))); intro w1 H
 refine q1 (mV Z (o_nilCheck Z Z (o_fieldAddr 0 runUnderlying70 Z sizeOf62 Z Z Z (o_defer Z (q3 (W_seq (q2 (mV Z (o_call call74 Z Z (i_partValid_c _ _ hname ) ?_)))))))))
 rintro _ w2 ⟨rfl, ew2⟩; have H := H.step ew2; refine ⟨_, rfl, ?_⟩
 refine o_not Z Z (mV Z ?_)
 refine R_case (t := 15) Z ?_ ?_
 ·intro hc3
  try simp only [nrm] at hc3
  refine rP Z (rP Z (rP Z (rP Z (o_pick_t Z Z Z (mV Z (rP Z (rP Z (rP Z (rP Z (rP Z (rP Z (o_pick_t Z Z Z (q3 (W_true Z (q2 ?_)))))))))))))))
  refine aG Z (q3 (W_ret (N_K_ret (ret_unlock 0 H muLib Z call73 Z Z (rs := [.tmp 4]) results38 ?_)))); intro wu1 H
  refine ⟨[_], ⟨Z, trivial⟩, ?_⟩
  have H := H.toFront (k := 4) rfl
  have H := H.toFront (k := 4) rfl
  have H := H.toFront (k := 4) rfl
  have H := H.toFront (k := 4) rfl
  have H := H.toFront (k := 4) rfl
  have hno : Sp.SnapTake d name = none := take_no (fun hh => by have := hh.1; simp_all)
  exact H.retM ⟨_, _, _, _, _, sn, _, _, d.store, by (rw [hno]; rfl), rfl, hm, hS, hVd, hN, hchk, hNs, fun d2 h => by rw [hno] at h; cases h⟩
 intro hc3'
 try simp only [nrm] at hc3'
 refine gR Z (mV Z (gR Z (mV Z (gR Z (o_call call75 Z Z (i_snapAt_c _ _ (H.lendSubL [0, 3]) _ _ _ _ _ _ _ (prow_blk (H.lendPredL (k := 0) (ks := [0, 3]) Z Z)) (H.lendRdL (k := 3) (ks := [0, 3]) Z Z hchk aN aN) _ hname ) ?_)))))
 rintro _ w4 ⟨rfl, ew4⟩; have H := H.step ew4; refine ⟨_, rfl, ?_⟩
 refine gR Z (o_geq Z Z Z (o_pick_f Z Z Z (mV Z ?_)))
 refine R_case (t := 21) Z ?_ ?_
 ·intro hc5
  try simp only [nrm] at hc5
  refine rP Z (rP Z (rP Z (rP Z (rP Z (rP Z (o_pick_t Z Z Z (q3 (W_true Z (q2 (aG Z (q3 (W_ret (N_K_ret (ret_unlock 0 H muLib Z call73 Z Z (rs := [.tmp 4]) results38 ?_)))))))))))))); intro wu2 H
  refine ⟨[_], ⟨Z, trivial⟩, ?_⟩
  have H := H.toFront (k := 4) rfl
  have H := H.toFront (k := 4) rfl
  have H := H.toFront (k := 4) rfl
  have H := H.toFront (k := 4) rfl
  have H := H.toFront (k := 4) rfl
  have hno : Sp.SnapTake d name = none := take_no (fun hh => by have h8 := hh.2.1; (rw [← Sp.sn_find hSn, ← optI_neg] at h8); omega)
  exact H.retM ⟨_, _, _, _, _, sn, _, _, d.store, by (rw [hno]; rfl), rfl, hm, hS, hVd, hN, hchk, hNs, fun d2 h => by rw [hno] at h; cases h⟩
 intro hc5'
 try simp only [nrm] at hc5'
 refine gR Z (mV Z (gR Z (o_nilCheck Z Z (gR Z (o_fieldAddr 4 runUnderlying70 Z sizeOf68 Z Z Z (gR Z (o_load_B 0 H isAgg68 Z Z Z Z (gR Z (o_len_slice underlying68 Z Z (gR Z (o_geq Z Z Z (o_pick_f Z Z Z (q3 ?_)))))))))))))
 refine W_cond Z ?_ ?_
 ·intro hc6
  try simp only [nrm] at hc6
  refine q2 (aG Z (q3 (W_ret (N_K_ret (ret_unlock 0 H muLib Z call73 Z Z (rs := [.tmp 4]) results38 ?_))))); intro wu3 H
  refine ⟨[_], ⟨Z, trivial⟩, ?_⟩
  have H := H.toFront (k := 4) rfl
  have H := H.toFront (k := 4) rfl
  have H := H.toFront (k := 4) rfl
  have H := H.toFront (k := 4) rfl
  have H := H.toFront (k := 4) rfl
  have hno : Sp.SnapTake d name = none := take_no (fun hh => by have := hh.2.2; omega)
  exact H.retM ⟨_, _, _, _, _, sn, _, _, d.store, by (rw [hno]; rfl), rfl, hm, hS, hVd, hN, hchk, hNs, fun d2 h => by rw [hno] at h; cases h⟩
 intro hc6'
 try simp only [nrm] at hc6'
 refine W_skip (N_K (W_seq (W_drawK [] 18 H kR Z ?_))); intro w7 H; have hd7 := PLe.refl G0
 refine vM 0 Z Z (vM 1 Z Z (RD_t 2 Z kR Z (fun _ hK => v_nilCheck Z) (RD_t 3 Z kR Z (fun _ hK => v_fieldAddr 4 runUnderlying70 Z sizeOf68 Z Z) (vM 5 Z Z (vM 6 Z Z (RD_t 7 Z kR Z (fun _ hK => v_nilCheck Z) (RD_t 8 Z kR Z (fun _ hK => v_fieldAddr 2 runUnderlying70 Z sizeOf67 Z Z) (RD_t 9 Z kR Z (fun _ hK => v_fieldAddr 1 runUnderlying67 Z sizeOf65 Z Z) ?_))))))))
 refine RD_run [4, 10] kR Z (RDs.cons Z ?_ (RDs.cons Z ?_ RDs.nil))
 ·skip
  refine o_load_B 0 H isAgg68 Z Z Z Z (R_nil (N_DK (Kn.of' H hd7 SubL.nil) ?_))
  refine RD_run [10] kR Z (RDs.cons Z ?_ RDs.nil)
  refine o_load_B 0 H isAgg65 Z Z Z Z (R_nil (N_DK (Kn.of' H hd7 SubL.nil) ?_))
  refine RD_run [11] kR Z (RDs.cons Z ?_ RDs.nil)
  refine o_call call76 Z Z (i_clone_c _ _ (H.lendSubL [2]) _ ((H.lendN (k := 2) (ks := [2]) Z Z hN).at (show Nd.at_ T [] = some T from Z)) oM) ?_
  rintro _ w8 ⟨_, _, rfl, H8', ⟨F8, T8, rfl, rfl, hNC8, hst8⟩⟩
  have H := H.readersL H8'
  refine ⟨_, Z, ?_⟩
  obtain ⟨Gs4, Fc4, H, hsl4, hNc4⟩ := Hp.shareC H hNC8 (H.apart (k := 0) (ks := [1, 2, 3, 4, 5]) rfl rfl (by intro b hb; simp only [fps, List.flatMap_cons, List.flatMap_nil, List.append_nil, List.mem_append] at hb; rcases hb with h | h | h | h | h; (· exact fpsAt_mem (k := 1) rfl rfl b (by exact h)); (· exact fpsAt_mem (k := 2) rfl rfl b (by exact h)); (· exact fpsAt_mem (k := 3) rfl rfl b (by exact h)); (· exact fpsAt_mem (k := 4) rfl rfl b (by exact h)); (· exact fpsAt_mem (k := 5) rfl rfl b (by exact h))))
  have hS := hS.up hsl4
  have hN := hN.up hsl4
  have hchk := hchk.up hsl4
  have hNs := hNs.up hsl4
  have hd7 := hd7.trans hsl4
  refine R_nil (N_DK (Kn.of' H hd7 SubL.nil) (RD_t 12 Z kR Z (fun _ hK => v_build bf124 Z Z) ?_))
  refine RD_run [13] kR Z (RDs.cons Z ?_ RDs.nil)
  refine o_buildSlice H underlying68 sizeOf124 (fun w => ⟨_, zeroValue124 w, Z⟩) Z Z Z Z Z Z Z ?_; intro b9 w9 hb9 H
  refine R_nil (N_DK (Kn.of' H hd7 SubL.nil) ?_)
  refine RD_run [14] kR Z (RDs.cons Z ?_ RDs.nil)
  refine o_append1 4 H (sz := 2) (bytes := 24) underlying68 typeInfo124 ⟨_, Z, Z⟩ Z Z Z Z Z Z Z Z Z Z oM Z ?_; intro v10 w10 H
  have hchk10 := hchk.snoc (show osE _ (name, T8) _ from ⟨rfl, hname⟩) rfl
  obtain ⟨av10, cv10, rfl⟩ := H.accShape (k := 4) rfl
  refine R_nil (N_DK (Kn.of' H hd7 SubL.nil) (RD_t 15 Z kR Z (fun _ hK => v_nilCheck Z) (RD_t 16 Z kR Z (fun _ hK => v_fieldAddr 4 runUnderlying70 Z sizeOf68 Z Z) ?_)))
  refine RD_run [17] kR Z (RDs.cons Z ?_ RDs.nil)
  have H := H.toFront (k := 5) rfl
  have H := H.mergeF
  refine o_store_B 1 H sizeOf68 Z Z Z Z Z Z Z Z ?_; intro w11 H
  refine R_nil (N_DK (Kn.of' H hd7 SubL.nil) (RD_done kR (N_K (W_seq (W_drawK [1] 12 H kR Z ?_))))); intro w12 H; have hd12 := PLe.refl Gs4
  refine vM 0 Z Z (RD_t 1 Z kR Z (fun _ hK => v_nilCheck Z) (RD_t 2 Z kR Z (fun _ hK => v_fieldAddr 2 runUnderlying70 Z sizeOf67 Z Z) (RD_t 3 Z kR Z (fun _ hK => v_fieldAddr 0 runUnderlying67 Z sizeOf64 Z Z) (RD_t 4 Z kR Z (fun _ hK => v_load_B 0 hK isAgg64 Z Z Z) (vM 5 Z Z (RD_t 6 Z kR Z (fun _ hK => v_nilCheck Z) (RD_t 7 Z kR Z (fun _ hK => v_fieldAddr 2 runUnderlying70 Z sizeOf67 Z Z) (RD_t 8 Z kR Z (fun _ hK => v_fieldAddr 1 runUnderlying67 Z sizeOf65 Z Z) (RD_t 9 Z kR Z (fun _ hK => v_load_B 0 hK isAgg65 Z Z Z) ?_)))))))))
  refine RD_run [10] kR Z (RDs.cons Z ?_ RDs.nil)
  have H := H.toFront (k := 3) rfl
  have H := H.toFront (k := 3) rfl
  refine o_call call77 Z Z (i_keepTree_c _ _ H.sub _ _ _ _ _ hm hS hVd _ _ hN H.lent2 hT.wf oM) ?_
  rintro _ w13 ⟨G13, _, _, rfl, H13', ⟨es13, ck13, xs13, L13, rfl, rfl, hm13, hS13, hV13, hL13⟩⟩
  have hN := hN.up H13'.le
  have hNs := hNs.up H13'.le
  have hNc4 := hNc4.up H13'.le
  have hchk10 := hchk10.up H13'.le
  have hd12 := hd12.trans H13'.le
  have H := H.borrow2 H13'
  refine ⟨_, Z, ?_⟩
  refine R_nil (N_DK (Kn.of' H hd12 (SubL.cons 3 Z SubL.nil)) (RD_t 11 Z kR Z (fun _ hK => v_assign Z) (RD_done kR (N_K (W_ret (ret_unlock 3 H muLib Z call73 Z Z (rs := [.tmp 4]) results38 ?_)))))); intro wu5 H
  refine ⟨[_], ⟨Z, trivial⟩, ?_⟩
  have H := H.toFront (k := 2) rfl
  have H := H.toFront (k := 4) rfl
  have H := H.toFront (k := 3) rfl
  have H := H.toFront (k := 3) rfl
  have H := H.toFront (k := 4) rfl
  have htk := take_eq hdv (by simpa using hc3') (optI_neg.1 (by (rw [← Sp.sn_find hSn]; omega))) (by omega : d.snaps.length ≠ 6)
  have hfl := hT.flat
  have hln : sn.length + 1 = (sn ++ [(name, T8)]).length := by simp
  rw [hln] at H
  exact H.retM ⟨_, _, _, _, _, sn ++ [(name, T8)], _, _, L13, congrArg Value.bool (by (rw [htk, hfl, Option.isSome_map])), rfl, hm13, hS13, hV13, hN, hchk10, by (rw [List.map_append]; exact hNs.snoc hNc4), fun d2 h => (by (rw [htk] at h); obtain ⟨s2, h2, rfl⟩ := Option.map_eq_some_iff.1 h; exact ⟨hL13 s2 (by (rw [hfl]; exact h2)), rfl, All2.push hSn rfl (hT.strip hst8) hTv⟩)⟩
 skip
 refine o_load_B 0 H isAgg65 Z Z Z Z (R_nil (N_DK (Kn.of' H hd7 SubL.nil) ?_))
 refine RD_run [4, 11] kR Z (RDs.cons Z ?_ (RDs.cons Z ?_ RDs.nil))
 ·skip
  refine o_load_B 0 H isAgg68 Z Z Z Z (R_nil (N_DK (Kn.of' H hd7 SubL.nil) ?_))
  refine RD_run [11] kR Z (RDs.cons Z ?_ RDs.nil)
  refine o_call call76 Z Z (i_clone_c _ _ (H.lendSubL [2]) _ ((H.lendN (k := 2) (ks := [2]) Z Z hN).at (show Nd.at_ T [] = some T from Z)) oM) ?_
  rintro _ w14 ⟨_, _, rfl, H14', ⟨F14, T14, rfl, rfl, hNC14, hst14⟩⟩
  have H := H.readersL H14'
  refine ⟨_, Z, ?_⟩
  obtain ⟨Gs6, Fc6, H, hsl6, hNc6⟩ := Hp.shareC H hNC14 (H.apart (k := 0) (ks := [1, 2, 3, 4, 5]) rfl rfl (by intro b hb; simp only [fps, List.flatMap_cons, List.flatMap_nil, List.append_nil, List.mem_append] at hb; rcases hb with h | h | h | h | h; (· exact fpsAt_mem (k := 1) rfl rfl b (by exact h)); (· exact fpsAt_mem (k := 2) rfl rfl b (by exact h)); (· exact fpsAt_mem (k := 3) rfl rfl b (by exact h)); (· exact fpsAt_mem (k := 4) rfl rfl b (by exact h)); (· exact fpsAt_mem (k := 5) rfl rfl b (by exact h))))
  have hS := hS.up hsl6
  have hN := hN.up hsl6
  have hchk := hchk.up hsl6
  have hNs := hNs.up hsl6
  have hd7 := hd7.trans hsl6
  refine R_nil (N_DK (Kn.of' H hd7 SubL.nil) (RD_t 12 Z kR Z (fun _ hK => v_build bf124 Z Z) ?_))
  refine RD_run [13] kR Z (RDs.cons Z ?_ RDs.nil)
  refine o_buildSlice H underlying68 sizeOf124 (fun w => ⟨_, zeroValue124 w, Z⟩) Z Z Z Z Z Z Z ?_; intro b15 w15 hb15 H
  refine R_nil (N_DK (Kn.of' H hd7 SubL.nil) ?_)
  refine RD_run [14] kR Z (RDs.cons Z ?_ RDs.nil)
  refine o_append1 4 H (sz := 2) (bytes := 24) underlying68 typeInfo124 ⟨_, Z, Z⟩ Z Z Z Z Z Z Z Z Z Z oM Z ?_; intro v16 w16 H
  have hchk16 := hchk.snoc (show osE _ (name, T14) _ from ⟨rfl, hname⟩) rfl
  obtain ⟨av16, cv16, rfl⟩ := H.accShape (k := 4) rfl
  refine R_nil (N_DK (Kn.of' H hd7 SubL.nil) (RD_t 15 Z kR Z (fun _ hK => v_nilCheck Z) (RD_t 16 Z kR Z (fun _ hK => v_fieldAddr 4 runUnderlying70 Z sizeOf68 Z Z) ?_)))
  refine RD_run [17] kR Z (RDs.cons Z ?_ RDs.nil)
  have H := H.toFront (k := 5) rfl
  have H := H.mergeF
  refine o_store_B 1 H sizeOf68 Z Z Z Z Z Z Z Z ?_; intro w17 H
  refine R_nil (N_DK (Kn.of' H hd7 SubL.nil) (RD_done kR (N_K (W_seq (W_drawK [1] 12 H kR Z ?_))))); intro w18 H; have hd18 := PLe.refl Gs6
  refine vM 0 Z Z (RD_t 1 Z kR Z (fun _ hK => v_nilCheck Z) (RD_t 2 Z kR Z (fun _ hK => v_fieldAddr 2 runUnderlying70 Z sizeOf67 Z Z) (RD_t 3 Z kR Z (fun _ hK => v_fieldAddr 0 runUnderlying67 Z sizeOf64 Z Z) (RD_t 4 Z kR Z (fun _ hK => v_load_B 0 hK isAgg64 Z Z Z) (vM 5 Z Z (RD_t 6 Z kR Z (fun _ hK => v_nilCheck Z) (RD_t 7 Z kR Z (fun _ hK => v_fieldAddr 2 runUnderlying70 Z sizeOf67 Z Z) (RD_t 8 Z kR Z (fun _ hK => v_fieldAddr 1 runUnderlying67 Z sizeOf65 Z Z) (RD_t 9 Z kR Z (fun _ hK => v_load_B 0 hK isAgg65 Z Z Z) ?_)))))))))
  refine RD_run [10] kR Z (RDs.cons Z ?_ RDs.nil)
  have H := H.toFront (k := 3) rfl
  have H := H.toFront (k := 3) rfl
  refine o_call call77 Z Z (i_keepTree_c _ _ H.sub _ _ _ _ _ hm hS hVd _ _ hN H.lent2 hT.wf oM) ?_
  rintro _ w19 ⟨G19, _, _, rfl, H19', ⟨es19, ck19, xs19, L19, rfl, rfl, hm19, hS19, hV19, hL19⟩⟩
  have hN := hN.up H19'.le
  have hNs := hNs.up H19'.le
  have hNc6 := hNc6.up H19'.le
  have hchk16 := hchk16.up H19'.le
  have hd18 := hd18.trans H19'.le
  have H := H.borrow2 H19'
  refine ⟨_, Z, ?_⟩
  refine R_nil (N_DK (Kn.of' H hd18 (SubL.cons 3 Z SubL.nil)) (RD_t 11 Z kR Z (fun _ hK => v_assign Z) (RD_done kR (N_K (W_ret (ret_unlock 3 H muLib Z call73 Z Z (rs := [.tmp 4]) results38 ?_)))))); intro wu7 H
  refine ⟨[_], ⟨Z, trivial⟩, ?_⟩
  have H := H.toFront (k := 2) rfl
  have H := H.toFront (k := 4) rfl
  have H := H.toFront (k := 3) rfl
  have H := H.toFront (k := 3) rfl
  have H := H.toFront (k := 4) rfl
  have htk := take_eq hdv (by simpa using hc3') (optI_neg.1 (by (rw [← Sp.sn_find hSn]; omega))) (by omega : d.snaps.length ≠ 6)
  have hfl := hT.flat
  have hln : sn.length + 1 = (sn ++ [(name, T14)]).length := by simp
  rw [hln] at H
  exact H.retM ⟨_, _, _, _, _, sn ++ [(name, T14)], _, _, L19, congrArg Value.bool (by (rw [htk, hfl, Option.isSome_map])), rfl, hm19, hS19, hV19, hN, hchk16, by (rw [List.map_append]; exact hNs.snoc hNc6), fun d2 h => (by (rw [htk] at h); obtain ⟨s2, h2, rfl⟩ := Option.map_eq_some_iff.1 h; exact ⟨hL19 s2 (by (rw [hfl]; exact h2)), rfl, All2.push hSn rfl (hT.strip hst14) hTv⟩)⟩
 skip
 refine o_call call76 Z Z (i_clone_c _ _ (H.lendSubL [2]) _ ((H.lendN (k := 2) (ks := [2]) Z Z hN).at (show Nd.at_ T [] = some T from Z)) oM) ?_
 rintro _ w20 ⟨_, _, rfl, H20', ⟨F20, T20, rfl, rfl, hNC20, hst20⟩⟩
 have H := H.readersL H20'
 refine ⟨_, Z, ?_⟩
 obtain ⟨Gs8, Fc8, H, hsl8, hNc8⟩ := Hp.shareC H hNC20 (H.apart (k := 0) (ks := [1, 2, 3, 4, 5]) rfl rfl (by intro b hb; simp only [fps, List.flatMap_cons, List.flatMap_nil, List.append_nil, List.mem_append] at hb; rcases hb with h | h | h | h | h; (· exact fpsAt_mem (k := 1) rfl rfl b (by exact h)); (· exact fpsAt_mem (k := 2) rfl rfl b (by exact h)); (· exact fpsAt_mem (k := 3) rfl rfl b (by exact h)); (· exact fpsAt_mem (k := 4) rfl rfl b (by exact h)); (· exact fpsAt_mem (k := 5) rfl rfl b (by exact h))))
 have hS := hS.up hsl8
 have hN := hN.up hsl8
 have hchk := hchk.up hsl8
 have hNs := hNs.up hsl8
 have hd7 := hd7.trans hsl8
 refine R_nil (N_DK (Kn.of' H hd7 SubL.nil) (RD_t 12 Z kR Z (fun _ hK => v_build bf124 Z Z) ?_))
 refine RD_run [4, 13] kR Z (RDs.cons Z ?_ (RDs.cons Z ?_ RDs.nil))
 ·skip
  refine o_load_B 1 H isAgg68 Z Z Z Z (R_nil (N_DK (Kn.of' H hd7 SubL.nil) ?_))
  refine RD_run [13] kR Z (RDs.cons Z ?_ RDs.nil)
  refine o_buildSlice H underlying68 sizeOf124 (fun w => ⟨_, zeroValue124 w, Z⟩) Z Z Z Z Z Z Z ?_; intro b21 w21 hb21 H
  refine R_nil (N_DK (Kn.of' H hd7 SubL.nil) ?_)
  refine RD_run [14] kR Z (RDs.cons Z ?_ RDs.nil)
  refine o_append1 4 H (sz := 2) (bytes := 24) underlying68 typeInfo124 ⟨_, Z, Z⟩ Z Z Z Z Z Z Z Z Z Z oM Z ?_; intro v22 w22 H
  have hchk22 := hchk.snoc (show osE _ (name, T20) _ from ⟨rfl, hname⟩) rfl
  obtain ⟨av22, cv22, rfl⟩ := H.accShape (k := 4) rfl
  refine R_nil (N_DK (Kn.of' H hd7 SubL.nil) (RD_t 15 Z kR Z (fun _ hK => v_nilCheck Z) (RD_t 16 Z kR Z (fun _ hK => v_fieldAddr 4 runUnderlying70 Z sizeOf68 Z Z) ?_)))
  refine RD_run [17] kR Z (RDs.cons Z ?_ RDs.nil)
  have H := H.toFront (k := 5) rfl
  have H := H.mergeF
  refine o_store_B 1 H sizeOf68 Z Z Z Z Z Z Z Z ?_; intro w23 H
  refine R_nil (N_DK (Kn.of' H hd7 SubL.nil) (RD_done kR (N_K (W_seq (W_drawK [1] 12 H kR Z ?_))))); intro w24 H; have hd24 := PLe.refl Gs8
  refine vM 0 Z Z (RD_t 1 Z kR Z (fun _ hK => v_nilCheck Z) (RD_t 2 Z kR Z (fun _ hK => v_fieldAddr 2 runUnderlying70 Z sizeOf67 Z Z) (RD_t 3 Z kR Z (fun _ hK => v_fieldAddr 0 runUnderlying67 Z sizeOf64 Z Z) (RD_t 4 Z kR Z (fun _ hK => v_load_B 0 hK isAgg64 Z Z Z) (vM 5 Z Z (RD_t 6 Z kR Z (fun _ hK => v_nilCheck Z) (RD_t 7 Z kR Z (fun _ hK => v_fieldAddr 2 runUnderlying70 Z sizeOf67 Z Z) (RD_t 8 Z kR Z (fun _ hK => v_fieldAddr 1 runUnderlying67 Z sizeOf65 Z Z) (RD_t 9 Z kR Z (fun _ hK => v_load_B 0 hK isAgg65 Z Z Z) ?_)))))))))
  refine RD_run [10] kR Z (RDs.cons Z ?_ RDs.nil)
  have H := H.toFront (k := 3) rfl
  have H := H.toFront (k := 3) rfl
  refine o_call call77 Z Z (i_keepTree_c _ _ H.sub _ _ _ _ _ hm hS hVd _ _ hN H.lent2 hT.wf oM) ?_
  rintro _ w25 ⟨G25, _, _, rfl, H25', ⟨es25, ck25, xs25, L25, rfl, rfl, hm25, hS25, hV25, hL25⟩⟩
  have hN := hN.up H25'.le
  have hNs := hNs.up H25'.le
  have hNc8 := hNc8.up H25'.le
  have hchk22 := hchk22.up H25'.le
  have hd24 := hd24.trans H25'.le
  have H := H.borrow2 H25'
  refine ⟨_, Z, ?_⟩
  refine R_nil (N_DK (Kn.of' H hd24 (SubL.cons 3 Z SubL.nil)) (RD_t 11 Z kR Z (fun _ hK => v_assign Z) (RD_done kR (N_K (W_ret (ret_unlock 3 H muLib Z call73 Z Z (rs := [.tmp 4]) results38 ?_)))))); intro wu9 H
  refine ⟨[_], ⟨Z, trivial⟩, ?_⟩
  have H := H.toFront (k := 2) rfl
  have H := H.toFront (k := 4) rfl
  have H := H.toFront (k := 3) rfl
  have H := H.toFront (k := 3) rfl
  have H := H.toFront (k := 4) rfl
  have htk := take_eq hdv (by simpa using hc3') (optI_neg.1 (by (rw [← Sp.sn_find hSn]; omega))) (by omega : d.snaps.length ≠ 6)
  have hfl := hT.flat
  have hln : sn.length + 1 = (sn ++ [(name, T20)]).length := by simp
  rw [hln] at H
  exact H.retM ⟨_, _, _, _, _, sn ++ [(name, T20)], _, _, L25, congrArg Value.bool (by (rw [htk, hfl, Option.isSome_map])), rfl, hm25, hS25, hV25, hN, hchk22, by (rw [List.map_append]; exact hNs.snoc hNc8), fun d2 h => (by (rw [htk] at h); obtain ⟨s2, h2, rfl⟩ := Option.map_eq_some_iff.1 h; exact ⟨hL25 s2 (by (rw [hfl]; exact h2)), rfl, All2.push hSn rfl (hT.strip hst20) hTv⟩)⟩
 skip
 refine o_buildSlice H underlying68 sizeOf124 (fun w => ⟨_, zeroValue124 w, Z⟩) Z Z Z Z Z Z Z ?_; intro b26 w26 hb26 H
 refine R_nil (N_DK (Kn.of' H hd7 SubL.nil) ?_)
 refine RD_run [4] kR Z (RDs.cons Z ?_ RDs.nil)
 refine o_load_B 2 H isAgg68 Z Z Z Z (R_nil (N_DK (Kn.of' H hd7 SubL.nil) ?_))
 refine RD_run [14] kR Z (RDs.cons Z ?_ RDs.nil)
 refine o_append1 4 H (sz := 2) (bytes := 24) underlying68 typeInfo124 ⟨_, Z, Z⟩ Z Z Z Z Z Z Z Z Z Z oM Z ?_; intro v27 w27 H
 have hchk27 := hchk.snoc (show osE _ (name, T20) _ from ⟨rfl, hname⟩) rfl
 obtain ⟨av27, cv27, rfl⟩ := H.accShape (k := 4) rfl
 refine R_nil (N_DK (Kn.of' H hd7 SubL.nil) (RD_t 15 Z kR Z (fun _ hK => v_nilCheck Z) (RD_t 16 Z kR Z (fun _ hK => v_fieldAddr 4 runUnderlying70 Z sizeOf68 Z Z) ?_)))
 refine RD_run [17] kR Z (RDs.cons Z ?_ RDs.nil)
 have H := H.toFront (k := 5) rfl
 have H := H.mergeF
 refine o_store_B 1 H sizeOf68 Z Z Z Z Z Z Z Z ?_; intro w28 H
 refine R_nil (N_DK (Kn.of' H hd7 SubL.nil) (RD_done kR (N_K (W_seq (W_drawK [1] 12 H kR Z ?_))))); intro w29 H; have hd29 := PLe.refl Gs8
 refine vM 0 Z Z (RD_t 1 Z kR Z (fun _ hK => v_nilCheck Z) (RD_t 2 Z kR Z (fun _ hK => v_fieldAddr 2 runUnderlying70 Z sizeOf67 Z Z) (RD_t 3 Z kR Z (fun _ hK => v_fieldAddr 0 runUnderlying67 Z sizeOf64 Z Z) (RD_t 4 Z kR Z (fun _ hK => v_load_B 0 hK isAgg64 Z Z Z) (vM 5 Z Z (RD_t 6 Z kR Z (fun _ hK => v_nilCheck Z) (RD_t 7 Z kR Z (fun _ hK => v_fieldAddr 2 runUnderlying70 Z sizeOf67 Z Z) (RD_t 8 Z kR Z (fun _ hK => v_fieldAddr 1 runUnderlying67 Z sizeOf65 Z Z) (RD_t 9 Z kR Z (fun _ hK => v_load_B 0 hK isAgg65 Z Z Z) ?_)))))))))
 refine RD_run [10] kR Z (RDs.cons Z ?_ RDs.nil)
 have H := H.toFront (k := 3) rfl
 have H := H.toFront (k := 3) rfl
 refine o_call call77 Z Z (i_keepTree_c _ _ H.sub _ _ _ _ _ hm hS hVd _ _ hN H.lent2 hT.wf oM) ?_
 rintro _ w30 ⟨G30, _, _, rfl, H30', ⟨es30, ck30, xs30, L30, rfl, rfl, hm30, hS30, hV30, hL30⟩⟩
 have hN := hN.up H30'.le
 have hNs := hNs.up H30'.le
 have hNc8 := hNc8.up H30'.le
 have hchk27 := hchk27.up H30'.le
 have hd29 := hd29.trans H30'.le
 have H := H.borrow2 H30'
 refine ⟨_, Z, ?_⟩
 refine R_nil (N_DK (Kn.of' H hd29 (SubL.cons 3 Z SubL.nil)) (RD_t 11 Z kR Z (fun _ hK => v_assign Z) (RD_done kR (N_K (W_ret (ret_unlock 3 H muLib Z call73 Z Z (rs := [.tmp 4]) results38 ?_)))))); intro wu10 H
 refine ⟨[_], ⟨Z, trivial⟩, ?_⟩
 have H := H.toFront (k := 2) rfl
 have H := H.toFront (k := 4) rfl
 have H := H.toFront (k := 3) rfl
 have H := H.toFront (k := 3) rfl
 have H := H.toFront (k := 4) rfl
 have htk := take_eq hdv (by simpa using hc3') (optI_neg.1 (by (rw [← Sp.sn_find hSn]; omega))) (by omega : d.snaps.length ≠ 6)
 have hfl := hT.flat
 have hln : sn.length + 1 = (sn ++ [(name, T20)]).length := by simp
 rw [hln] at H
 exact H.retM ⟨_, _, _, _, _, sn ++ [(name, T20)], _, _, L30, congrArg Value.bool (by (rw [htk, hfl, Option.isSome_map])), rfl, hm30, hS30, hV30, hN, hchk27, by (rw [List.map_append]; exact hNs.snoc hNc8), fun d2 h => (by (rw [htk] at h); obtain ⟨s2, h2, rfl⟩ := Option.map_eq_some_iff.1 h; exact ⟨hL30 s2 (by (rw [hfl]; exact h2)), rfl, All2.push hSn rfl (hT.strip hst20) hTv⟩)⟩
end Go.Proofs.Tst

namespace Go.Proofs.Tst
open Go Fw Tryz
theorem i_SnapTake1_c (w0 : World) (G0 : PH) (hG : PSub G0 w0) (db mb : Nat) (es : Array MapEntry) (ck : Nat) (xs : List (Int × Value)) (T : Nd) (FT : Fr) (sv : Value) (sn : List (Bs × Nd)) (c : List Value) (FSq : Fr) (d : BDisk) (hm : MapIs (Value.int .i64) es ck xs) (hS : StR G0 xs d.store) (hN : NdO 167 65 G0 T FT) (hT : Nd.TOK T d.tree) (hchk : Chk osE 2 G0 c sn) (hNs : NdsO 167 65 G0 (sn.map (·.2)) FSq) (hSn : SnOK sn d.snaps) (hdv : Sp.DiskValid d = true) (cp : Nat) (name : Bs) (hname : name.length ≤ 16777216) (hcp : PRow G0 cp 0 [str name]) (hLent : Lent w0 G0 [blk db (cl [.int .i32 0, .int .u32 0, .map (some mb), .pointer (some ⟨T.b, 0, none⟩), sv] 70), blk mb (.map es ck), frag FT, acc 124 2 sv sn.length c, frag FSq])  :
  Calls Tryz.prog 37 #[.pointer (some ⟨db, 0, none⟩), .pointer (some ⟨cp, 0, none⟩)] w0 (RetM w0 G0 (fps [blk db (cl [.int .i32 0, .int .u32 0, .map (some mb), .pointer (some ⟨T.b, 0, none⟩), sv] 70), blk mb (.map es ck), frag FT, acc 124 2 sv sn.length c, frag FSq]) (fun G' v Bs => ∃ (es' : Array MapEntry) (ck' : Nat) (xs' : List (Int × Value)) (F' : Fr) (sv' : Value) (sn' : List (Fw.Bs × Nd)) (c' : List Value) (FSq' : Fr) (L' : List BHeld), v = .bool (Sp.SnapTake d name).isSome ∧ Bs = [blk db (cl [.int .i32 0, .int .u32 0, .map (some mb), .pointer (some ⟨T.b, 0, none⟩), sv'] 70), blk mb (.map es' ck'), frag F', acc 124 2 sv' sn'.length c', frag FSq'] ∧ MapIs (Value.int .i64) es' ck' xs' ∧ StR G' xs' L' ∧ Sp.VH L' ∧ NdO 167 65 G' T F' ∧ Chk osE 2 G' c' sn' ∧ NdsO 167 65 G' (sn'.map (·.2)) FSq' ∧ ∀ d', Sp.SnapTake d name = some d' → L' = d'.store ∧ d'.tree = d.tree ∧ SnOK sn' d'.snaps)) := by
 have H : Hp w0 G0 (fps [blk db (cl [.int .i32 0, .int .u32 0, .map (some mb), .pointer (some ⟨T.b, 0, none⟩), sv] 70), blk mb (.map es ck), frag FT, acc 124 2 sv sn.length c, frag FSq]) w0 G0 [blk db (cl [.int .i32 0, .int .u32 0, .map (some mb), .pointer (some ⟨T.b, 0, none⟩), sv] 70), blk mb (.map es ck), frag FT, acc 124 2 sv sn.length c, frag FSq] := hLent.hp
 obtain ⟨adv, cdv, rfl⟩ := H.accShape (k := 3) rfl; have hVd := Sp.valid_iff.1 (Sp.dv_parts.1 hdv).1; have hTv := (Sp.dv_parts.1 hdv).2.1; have hTc := hT.cnt; have hTl := Sp.tree_len hTv; have hsnl := hSn.len; have hsn6 := (Sp.dv_parts.1 hdv).2.2.1
 refine calls_of_W (l := [.pointer (some ⟨db, 0, none⟩), .pointer (some ⟨cp, 0, none⟩)]) func37 Z ntmps37 Z (q2 (aG Z (q1 (mV Z (o_load_P H isAgg9 Z Z (hcp 0 _ Z) ?_)))))
 have H := H.toFront (k := 4) rfl
 have H := H.toFront (k := 4) rfl
 have H := H.toFront (k := 4) rfl
 have H := H.toFront (k := 4) rfl
 have H := H.toFront (k := 4) rfl
 refine o_call call38 Z Z (i_take_c _ _ H.sub _ _ _ _ _ _ _ _ _ _ _ _ hm hS hN hT hchk hNs hSn hdv _ hname H.lent5 ) ?_
 rintro _ w1 ⟨G1, _, _, rfl, H1', ⟨es1, ck1, xs1, F1, sv1, sn1, c1, FS1, L1, rfl, rfl, hm1, hS1, hV1, hN1, hchk1, hNs1, hd1⟩⟩
 have H := H.borrow5 H1'
 obtain ⟨avAd, cvAd, rfl⟩ := H.accShape (k := 3) rfl
 refine ⟨_, Z, ?_⟩
 refine aG Z (q3 (W_ret (rt1 results37 Z ?_)))
 have H := H.toFront (k := 4) rfl
 have H := H.toFront (k := 4) rfl
 have H := H.toFront (k := 4) rfl
 have H := H.toFront (k := 4) rfl
 have H := H.toFront (k := 4) rfl
 exact H.retM ⟨_, _, _, _, _, _, _, _, _, Z, Z, hm1, hS1, hV1, hN1, hchk1, hNs1, hd1⟩
end Go.Proofs.Tst

namespace Go.Proofs.Tst
open Go Fw Tryz
theorem i_changed_take_c (w0 : World) (G0 : PH) (hG : PSub G0 w0) (cd : List Value) (d : BDisk) (hd : diskE G0 d cd) (cp : Nat) (name : Bs) (hname : name.length ≤ 16777216) (hcp : PRow G0 cp 0 [str name])  :
  Calls Tryz.prog 36 #[.agg cd.toArray, .func (.func 37) #[] #[.pointer (some ⟨cp, 0, none⟩)]] w0 (RetN w0 G0 (fun v Bs => ∃ (v1 v2 v3 : Value) (F1 F2 F3 : Fr), v = .tuple #[.agg #[v1, v2, v3], .bool (Sp.SnapTake d name).isSome] ∧ Bs = [frag F1, frag F2, frag F3] ∧ OHs F1 v1 ((Sp.SnapTake d name).getD ⟨[], [], []⟩).store ∧ OIs F2 v2 ((Sp.SnapTake d name).getD ⟨[], [], []⟩).tree ∧ OSn F3 v3 ((Sp.SnapTake d name).getD ⟨[], [], []⟩).snaps)) := by
 obtain ⟨a1, m1, c1, a1', m1', c1', a1'', m1'', c1'', rfl, hr1, hr1', hr1''⟩ := hd; have hn_hr1 := hr1.len; have hx_hr1 : _ ≤ 1099511627776 := hr1.lim; have hn_hr1q := hr1'.len; have hx_hr1q : _ ≤ 1099511627776 := hr1'.lim; have hn_hr1qq := hr1''.len; have hx_hr1qq : _ ≤ 1099511627776 := hr1''.lim
 have H := Hp.init hG
 refine calls_of_W (l := [_, .func (.func 37) #[] #[.pointer (some ⟨cp, 0, none⟩)]]) func36 Z ntmps36 Z (q2 (o_box H Z Z Z ?_)); intro b2 w2 hb2 H
 refine o_alloc H zeroValue27 Z Z ?_; intro b3 w3 hb3 H
 refine aG Z (q1 (o_loadagg_B 1 H isAgg27 sizeOf27 Z Z Z Z Z (o_call call58 Z Z (i_newDisk_c _ _ H.sub _ d ⟨_, _, _, _, _, _, _, _, _, Z, hr1, hr1', hr1''⟩ H.lent0 ) ?_)))
 rintro _ w4 ⟨G4, _, _, rfl, H4', ⟨rfl, rfl, hnd4⟩ | ⟨db4, mb4, es4, ck4, xs4, T4, F4, sv4, sn4, c4, FS4, rfl, rfl, hm4, hS4, hN4, hT4, hchk4, hNs4, hSn4, hdv4⟩⟩
 ·skip
  have H := H.borrow0 H4'
  refine ⟨_, Z, ?_⟩
  refine mV Z (o_extract Z Z Z (o_extract Z Z Z (aG Z (aG Z (q3 (W_seq (q2 (mV Z (o_not Z Z (mV Z (rP Z (rP Z (rP Z (rP Z (o_pick_t Z Z Z ?_)))))))))))))))
  refine q3 (W_true Z (q2 (o_build bf27 Z Z Z (o_store_B 0 H sizeOf27 Z Z Z Z Z Z Z Z ?_)))); intro w5 H
  refine aG Z (q3 (W_ret (N_K_ret (ret_gen (rs := [.cell 4 27, .tmp 5]) (vs := [_, _]) results36 ⟨⟨_, Z, load_blk 0 H isAgg27 sizeOf27 Z Z Z⟩, Z, trivial⟩ ?_))))
  have H := H.del (k := 0) rfl
  have H := H.del (k := 0) rfl
  have hno : Sp.SnapTake d name = none := by simp [Sp.SnapTake, hnd4]
  have H := (((H.addF).addF).addF).forget hG (by simp)
  refine ⟨_, _, Z, H, .slice none 0 0, .slice none 0 0, .slice none 0 0, [], [], [], ?_, Z, ?_, ?_, ?_⟩
  ·(rw [hno]; rfl)
  ·(rw [hno]; exact oh_nil)
  ·(rw [hno]; exact oi_nil)
  (rw [hno]; exact os_nil)
 skip
 have hcp := hcp.up H4'.le
 have H := H.borrow0 H4'
 obtain ⟨avAd, cvAd, rfl⟩ := H.accShape (k := 3) rfl
 refine ⟨_, Z, ?_⟩
 refine mV Z (o_extract Z Z Z (o_extract Z Z Z (aG Z (aG Z (q3 (W_seq (q2 (mV Z (o_not Z Z (mV Z (gR Z (mV Z (gR Z (mV Z (gR Z ?_)))))))))))))))
 have H := H.toFront (k := 4) rfl
 have H := H.toFront (k := 4) rfl
 have H := H.toFront (k := 4) rfl
 have H := H.toFront (k := 4) rfl
 have H := H.toFront (k := 4) rfl
 refine o_callc call37 Z Z Z (i_SnapTake1_c _ _ H.sub _ _ _ _ _ _ _ _ _ _ _ _ hm4 hS4 hN4 hT4 hchk4 hNs4 hSn4 hdv4 _ _ hname hcp H.lent5 ) ?_
 rintro _ w6 ⟨G6, _, _, rfl, H6', ⟨es6, ck6, xs6, F6, sv6, sn6, c6, FS6, L6, rfl, rfl, hm6, hS6, hV6, hN6, hchk6, hNs6, hd6⟩⟩
 have H := H.borrow5 H6'
 obtain ⟨avAd, cvAd, rfl⟩ := H.accShape (k := 3) rfl
 refine ⟨_, Z, ?_⟩
 refine gR Z (o_not Z Z (o_pick_f Z Z Z (q3 ?_)))
 refine W_cond Z ?_ ?_
 ·intro hc7
  try simp only [nrm] at hc7
  refine q2 (o_build bf27 Z Z Z (o_store_B 5 H sizeOf27 Z Z Z Z Z Z Z Z ?_)); intro w8 H
  refine aG Z (q3 (W_ret (N_K_ret (ret_gen (rs := [.cell 4 27, .tmp 5]) (vs := [_, _]) results36 ⟨⟨_, Z, load_blk 5 H isAgg27 sizeOf27 Z Z Z⟩, Z, trivial⟩ ?_))))
  have H := H.del (k := 0) rfl
  have H := H.del (k := 0) rfl
  have H := H.del (k := 0) rfl
  have H := H.del (k := 0) rfl
  have H := H.del (k := 0) rfl
  have H := H.del (k := 0) rfl
  have H := H.del (k := 0) rfl
  have hno : Sp.SnapTake d name = none := by simpa using hc7
  have H := (((H.addF).addF).addF).forget hG (by simp)
  refine ⟨_, _, Z, H, .slice none 0 0, .slice none 0 0, .slice none 0 0, [], [], [], ?_, Z, ?_, ?_, ?_⟩
  ·(rw [hno]; rfl)
  ·(rw [hno]; exact oh_nil)
  ·(rw [hno]; exact oi_nil)
  (rw [hno]; exact os_nil)
 intro hc7'
 try simp only [nrm] at hc7'
 obtain ⟨d2, hd2⟩ := Option.isSome_iff_exists.1 (show (Sp.SnapTake d name).isSome = true by simpa using hc7')
 obtain ⟨hL2, ht2, hsn2⟩ := hd6 d2 hd2; subst hL2
 have hT2 : Nd.TOK T4 d2.tree := by (rw [ht2]; exact hT4)
 refine W_skip (N_K (q2 (mV Z ?_)))
 have H := H.toFront (k := 4) rfl
 have H := H.toFront (k := 4) rfl
 have H := H.toFront (k := 4) rfl
 have H := H.toFront (k := 4) rfl
 have H := H.toFront (k := 4) rfl
 refine o_call call71 Z Z (i_disk_c _ _ H.sub _ _ _ _ _ _ _ _ _ _ _ _ hm6 hS6 hN6 hT2 hchk6 hNs6 hsn2 hV6 (take_len hdv4 hd2) H.lent5 ) ?_
 rintro _ w9 ⟨G9, _, _, rfl, H9', ⟨u19, u29, u39, D19, D29, D39, rfl, rfl, ho19, ho29, ho39⟩⟩
 have H := H.borrow5 H9'
 obtain ⟨x19, p19⟩ := ho19
 obtain ⟨a19, c19, rfl⟩ := OwnS.shape p19
 obtain ⟨x29, p29⟩ := ho29
 obtain ⟨a29, c29, rfl⟩ := OwnS.shape p29
 obtain ⟨x39, p39⟩ := ho39
 obtain ⟨a39, c39, rfl⟩ := OwnS.shape p39
 refine ⟨_, Z, ?_⟩
 refine o_store_B 3 H sizeOf27 Z Z Z Z Z Z Z Z ?_; intro w10 H
 refine aG Z (q3 (W_ret (ret_gen (rs := [.cell 4 27, .tmp 5]) (vs := [_, _]) results36 ⟨⟨_, Z, load_blk 3 H isAgg27 sizeOf27 Z Z Z⟩, Z, trivial⟩ ?_)))
 have H := H.del (k := 3) rfl
 have H := H.del (k := 3) rfl
 have H := H.toFront (k := 2) rfl
 have H := H.toFront (k := 2) rfl
 have H := H.toFront (k := 2) rfl
 have H := H.forget hG (by simp)
 refine ⟨_, _, Z, H, .slice a19 d2.store.length c19, .slice a29 d2.tree.length c29, .slice a39 d2.snaps.length c39, D19, D29, D39, ?_, Z, ?_, ?_, ?_⟩
 ·(rw [hd2]; rfl)
 ·(rw [hd2]; exact ⟨_, p19⟩)
 ·(rw [hd2]; exact ⟨_, p29⟩)
 (rw [hd2]; exact ⟨_, p39⟩)
end Go.Proofs.Tst

namespace Go.Proofs.Tst
open Go Fw Tryz
theorem i_SnapTake_c (w0 : World) (G0 : PH) (hG : PSub G0 w0) (cd : List Value) (d : BDisk) (hd : diskE G0 d cd) (name : Bs) (hname : name.length ≤ 16777216)  :
  Calls Tryz.prog 16 #[.agg cd.toArray, str name] w0 (RetN w0 G0 (fun v Bs => ∃ (v1 v2 v3 : Value) (F1 F2 F3 : Fr), v = .tuple #[.agg #[v1, v2, v3], .bool (Sp.SnapTake d name).isSome] ∧ Bs = [frag F1, frag F2, frag F3] ∧ OHs F1 v1 ((Sp.SnapTake d name).getD ⟨[], [], []⟩).store ∧ OIs F2 v2 ((Sp.SnapTake d name).getD ⟨[], [], []⟩).tree ∧ OSn F3 v3 ((Sp.SnapTake d name).getD ⟨[], [], []⟩).snaps)) := by
 obtain ⟨a1, m1, c1, a1', m1', c1', a1'', m1'', c1'', rfl, hr1, hr1', hr1''⟩ := hd; have hn_hr1 := hr1.len; have hx_hr1 : _ ≤ 1099511627776 := hr1.lim; have hn_hr1q := hr1'.len; have hx_hr1q : _ ≤ 1099511627776 := hr1'.lim; have hn_hr1qq := hr1''.len; have hx_hr1qq : _ ≤ 1099511627776 := hr1''.lim
 have H := Hp.init hG
 refine calls_of_W (l := [_, str name]) func16 Z ntmps16 Z (q2 (o_box H Z Z Z ?_)); intro b2 w2 hb2 H
 refine o_box H Z Z Z ?_; intro b3 w3 hb3 H
 refine o_alloc H zeroValue27 Z Z ?_; intro b4 w4 hb4 H
 refine aG Z (q1 (o_loadagg_B 2 H isAgg27 sizeOf27 Z Z Z Z Z (o_makefn1 Z Z (o_call call36 Z Z (i_changed_take_c _ _ (H.lendSubL [1]) _ d ⟨_, _, _, _, _, _, _, _, _, Z, (hr1.up (PPlus.le _ _ _)), (hr1'.up (PPlus.le _ _ _)), (hr1''.up (PPlus.le _ _ _))⟩ _ _ hname (prow_blk (H.lendPredL (k := 1) (ks := [1]) Z Z)) ) ?_))))
 rintro _ w5 ⟨_, _, rfl, H5', ⟨u15, u25, u35, E15, E25, E35, rfl, rfl, ho15, ho25, ho35⟩⟩
 have H := H.readersL H5'
 obtain ⟨x15, p15⟩ := ho15
 obtain ⟨a15, c15, rfl⟩ := OwnS.shape p15
 obtain ⟨x25, p25⟩ := ho25
 obtain ⟨a25, c25, rfl⟩ := OwnS.shape p25
 obtain ⟨x35, p35⟩ := ho35
 obtain ⟨a35, c35, rfl⟩ := OwnS.shape p35
 refine ⟨_, Z, ?_⟩
 refine o_extract Z Z Z (o_extract Z Z Z (o_store_B 3 H sizeOf27 Z Z Z Z Z Z Z Z ?_)); intro w6 H
 refine aG Z (q3 (W_ret (ret_gen (rs := [.cell 4 27, .tmp 5]) (vs := [_, _]) results16 ⟨⟨_, Z, load_blk 3 H isAgg27 sizeOf27 Z Z Z⟩, Z, trivial⟩ ?_)))
 have H := H.del (k := 3) rfl
 have H := H.del (k := 3) rfl
 have H := H.del (k := 3) rfl
 have H := H.toFront (k := 2) rfl
 have H := H.toFront (k := 2) rfl
 have H := H.toFront (k := 2) rfl
 exact ⟨_, _, Z, H, .slice a15 ((Sp.SnapTake d name).getD ⟨[], [], []⟩).store.length c15, .slice a25 ((Sp.SnapTake d name).getD ⟨[], [], []⟩).tree.length c25, .slice a35 ((Sp.SnapTake d name).getD ⟨[], [], []⟩).snaps.length c35, E15, E25, E35, Z, Z, ⟨_, p15⟩, ⟨_, p25⟩, ⟨_, p35⟩⟩
end Go.Proofs.Tst

namespace Go.Proofs.Tst
open Go Fw Tryz
theorem w_sameInts_c (w0 : World) (G0 : PH) (hG : PSub G0 w0) (va : Value) (a : List (Int)) (ha : RdI G0 va a) (vb : Value) (b : List (Int)) (hb : RdI G0 vb b) (hab : a = b) :
  Calls Tryz.prog 114 #[va, vb] w0 (Rets w0 (.bool true)) := by
 obtain ⟨aa, ka, rfl⟩ := ha.shape
 have hlima : a.length ≤ 1099511627776 := ha.lim
 obtain ⟨ab, kb, rfl⟩ := hb.shape
 have hlimb : b.length ≤ 1099511627776 := hb.lim
 have hle := congrArg List.length hab
 have H := Hp.init hG
 refine calls_of_W (l := [.slice aa a.length ka, .slice ab b.length kb]) func114 Z ntmps114 Z (q2 (aG Z (q3 (W_seq (q2 (mV Z (o_len_slice underlying38 Z Z (mV Z (o_len_slice underlying38 Z Z (o_neq Z Z Z (q3 ?_)))))))))))
 refine W_cond Z ?_ ?_
 ·intro hc1
  try simp only [nrm] at hc1
  refine q2 (aG Z (q3 (W_ret (N_K_ret (rt1 results114 Z ?_)))))
  exact absurd (show False from by omega) id
 intro hc1'
 try simp only [nrm] at hc1'
 refine W_skip (N_K (W_seq (q2 (aG Z (q3 (W_block ?_))))))
 refine W_lp (hf := (Sub.cons (t := 0) Z (Sub.cons (t := 1) Z Sub.nil))) (J := fun M w m => ∃ (k : Nat) (G : PH), M = [(5, .int .i64 (k : Int))] ∧ PLe G0 G ∧ Hp w0 G0 [] w G [] ∧ (k ≤ a.length) ∧ m = (a.length - k)) (h0 := ⟨0, _, Z, PLe.refl _, H, ?inv, Z⟩) (round := ?round)
 case inv => omega
 case round =>
  rintro _ w2 _ ⟨k, G2, rfl, hle2, H, hinv2, rfl⟩
  have ha := ha.up hle2
  have hb := hb.up hle2
  have hk := hinv2
  refine W_seq (q2 (mV Z (mV Z (o_len_slice underlying38 Z Z (o_lss Z Z Z (q3 ?_))))))
  refine W_cond Z ?_ ?_
  ·intro hc3
   try simp only [nrm] at hc3
   refine W_skip (N_K (W_seq (W_block (W_seq (W_drawK [] 9 H kR Z ?_))))); intro w4 H; have hd4 := PLe.refl G2
   refine vM 0 Z Z (vM 1 Z Z ?_)
   have hl5 := ha.len
   obtain ⟨b5, o5, z5, q5, ha5, hz5, hq5, hE5, hrow5, _⟩ := ha.at (i := k) oM
   clear hq5
   obtain ⟨rfl, hi5⟩ := hE5
   refine RD_t 2 Z kR Z (fun _ hK => v_index_P (i := k) ha5 underlying38 sizeOf3 Z Z Z oM) (RD_t 3 Z kR Z (fun _ hK => v_load_P hK isAgg3 Z (hrow5 0 _ Z)) (vM 4 Z Z (vM 5 Z Z ?_)))
   have hl6 := hb.len
   obtain ⟨b6, o6, z6, q6, ha6, hz6, hq6, hE6, hrow6, _⟩ := hb.at (i := k) oM
   clear hq6
   obtain ⟨rfl, hi6⟩ := hE6
   refine RD_t 6 Z kR Z (fun _ hK => v_index_P (i := k) ha6 underlying38 sizeOf3 Z Z Z oM) (RD_t 7 Z kR Z (fun _ hK => v_load_P hK isAgg3 Z (hrow6 0 _ Z)) (RD_t 8 Z kR Z (fun _ hK => v_neq Z Z) (RD_done kR (N_K ?_))))
   refine W_cond Z ?_ ?_
   ·intro hc7
    try simp only [nrm] at hc7
    refine q2 (aG Z (q3 (W_ret (N_B_ret (N_K_ret (N_LP_ret (N_B_ret (N_K_ret (rt1 results114 Z ?_)))))))))
    exact absurd (show False from by first | omega | (exact hc7 (Sp.same_at hab hz5 hz6))) id
   intro hc7'
   try simp only [nrm] at hc7'
   refine W_skip (N_B (N_K (W_region (mV Z (o_add Z Z Z oO (aG Z (R_nil ?_)))))))
   refine N_lp (hJ := ⟨k + 1, _, Z, hle2, H, ?inv, Z⟩) (hm := ?hm)
   case hm => omega
   case inv => omega
  intro hc3'
  try simp only [nrm] at hc3'
  refine W_exit (N_K_exit (N_LP_exit (N_B_same (N_K (q2 (aG Z (q3 (W_ret (rt1 results114 Z ?_)))))))))
  exact H.rets Z
theorem w_sameHeld_c (w0 : World) (G0 : PH) (hG : PSub G0 w0) (ca : List Value) (a : BHeld) (ha : heldE G0 a ca) (cb : List Value) (b : BHeld) (hb : heldE G0 b cb) (hab : a = b) :
  Calls Tryz.prog 82 #[.agg ca.toArray, .agg cb.toArray] w0 (Rets w0 (.bool true)) := by
 obtain ⟨a1, m1, c1, rfl, hi1, hr1, hj1⟩ := ha; have hn_hr1 := hr1.len; have hx_hr1 : _ ≤ 1099511627776 := hr1.lim
 obtain ⟨a2, m2, c2, rfl, hi2, hr2, hj2⟩ := hb; have hn_hr2 := hr2.len; have hx_hr2 : _ ≤ 1099511627776 := hr2.lim
 have H := Hp.init hG
 refine calls_of_W (l := [_, _]) func82 Z ntmps82 Z (q2 (o_box H Z Z Z ?_)); intro b3 w3 hb3 H
 refine o_box H Z Z Z ?_; intro b4 w4 hb4 H
 refine aG Z (q1 (o_fieldAddr 0 runUnderlying42 Z sizeOf3 Z Z Z (o_load_B 1 H isAgg3 Z Z Z Z (o_fieldAddr 0 runUnderlying42 Z sizeOf3 Z Z Z (o_load_B 0 H isAgg3 Z Z Z Z (o_eql Z Z Z (mV Z ?_)))))))
 refine R_case (t := 10) Z ?_ ?_
 ·intro hc5
  try simp only [nrm] at hc5
  refine gR Z (o_fieldAddr 2 runUnderlying42 Z sizeOf3 Z Z Z (gR Z (o_load_B 1 H isAgg3 Z Z Z Z (gR Z (o_fieldAddr 2 runUnderlying42 Z sizeOf3 Z Z Z (gR Z (o_load_B 0 H isAgg3 Z Z Z Z (gR Z (o_eql Z Z Z (o_pick_t Z Z Z (mV Z ?_)))))))))))
  refine R_case (t := 17) Z ?_ ?_
  ·intro hc6
   try simp only [nrm] at hc6
   refine gR Z (o_fieldAddr 1 runUnderlying42 Z sizeOf38 Z Z Z (gR Z (o_load_B 1 H isAgg38 Z Z Z Z (gR Z (o_fieldAddr 1 runUnderlying42 Z sizeOf38 Z Z Z (gR Z (o_load_B 0 H isAgg38 Z Z Z Z (gR Z (o_call call114 Z Z (w_sameInts_c _ _ H.sub _ _ hr1 _ _ hr2 (congrArg BHeld.bytes hab)) ?_)))))))))
   rintro _ w7 ⟨rfl, ew7⟩; have H := H.step ew7; refine ⟨_, rfl, ?_⟩
   refine o_pick_t Z Z Z (aG Z (q3 (W_ret (rt1 results82 Z ?_))))
   exact H.rets Z
  intro hc6'
  try simp only [nrm] at hc6'
  refine rP Z (rP Z (rP Z (rP Z (rP Z (o_pick_f Z Z Z (aG Z (q3 (W_ret (rt1 results82 Z ?_)))))))))
  exact absurd (show False from by simp [hab] at hc6') id
 intro hc5'
 try simp only [nrm] at hc5'
 refine rP Z (rP Z (rP Z (rP Z (rP Z (o_pick_f Z Z Z (mV Z (rP Z (rP Z (rP Z (rP Z (rP Z (o_pick_f Z Z Z (aG Z (q3 (W_ret ?_)))))))))))))))
 refine rt1 results82 Z ?_
 exact absurd (show False from by simp [hab] at hc5') id
theorem w_sameStore_c (w0 : World) (G0 : PH) (hG : PSub G0 w0) (va : Value) (a : List (BHeld)) (ha : RdH G0 va a) (vb : Value) (b : List (BHeld)) (hb : RdH G0 vb b) (hab : a = b) :
  Calls Tryz.prog 44 #[va, vb] w0 (Rets w0 (.bool true)) := by
 obtain ⟨aa, ka, rfl⟩ := ha.shape
 have hlima : a.length ≤ 1099511627776 := ha.lim
 obtain ⟨ab, kb, rfl⟩ := hb.shape
 have hlimb : b.length ≤ 1099511627776 := hb.lim
 have hle := congrArg List.length hab
 have H := Hp.init hG
 refine calls_of_W (l := [.slice aa a.length ka, .slice ab b.length kb]) func44 Z ntmps44 Z (q2 (aG Z (q3 (W_seq (q2 (mV Z (o_len_slice underlying23 Z Z (mV Z (o_len_slice underlying23 Z Z (o_neq Z Z Z (q3 ?_)))))))))))
 refine W_cond Z ?_ ?_
 ·intro hc1
  try simp only [nrm] at hc1
  refine q2 (aG Z (q3 (W_ret (N_K_ret (rt1 results44 Z ?_)))))
  exact absurd (show False from by omega) id
 intro hc1'
 try simp only [nrm] at hc1'
 refine W_skip (N_K (W_seq (q2 (aG Z (q3 (W_block ?_))))))
 refine W_lp (hf := (Sub.cons (t := 0) Z (Sub.cons (t := 1) Z Sub.nil))) (J := fun M w m => ∃ (k : Nat) (G : PH), M = [(5, .int .i64 (k : Int))] ∧ PLe G0 G ∧ Hp w0 G0 [] w G [] ∧ (k ≤ a.length) ∧ m = (a.length - k)) (h0 := ⟨0, _, Z, PLe.refl _, H, ?inv, Z⟩) (round := ?round)
 case inv => omega
 case round =>
  rintro _ w2 _ ⟨k, G2, rfl, hle2, H, hinv2, rfl⟩
  have ha := ha.up hle2
  have hb := hb.up hle2
  have hk := hinv2
  refine W_seq (q2 (mV Z (mV Z (o_len_slice underlying23 Z Z (o_lss Z Z Z (q3 ?_))))))
  refine W_cond Z ?_ ?_
  ·intro hc3
   try simp only [nrm] at hc3
   refine W_skip (N_K (W_seq (W_block (W_seq (W_drawK [] 10 H kR Z ?_))))); intro w4 H; have hd4 := PLe.refl G2
   refine vM 0 Z Z (vM 1 Z Z ?_)
   have hl5 := ha.len
   obtain ⟨b5, o5, z5, q5, ha5, hz5, hq5, hE5, hrow5, _⟩ := ha.at (i := k) oM
   clear hq5
   obtain ⟨a5, m5, c5, rfl, hi5, hr5, hj5⟩ := hE5; have hn_hr5 := hr5.len; have hx_hr5 : _ ≤ 1099511627776 := hr5.lim
   refine RD_t 2 Z kR Z (fun _ hK => v_index_P (i := k) ha5 underlying23 sizeOf42 Z Z Z oM) (RD_t 3 Z kR Z (fun _ hK => v_loadagg_P hK isAgg42 sizeOf42 Z hrow5 Z) (vM 4 Z Z (vM 5 Z Z ?_)))
   have hl6 := hb.len
   obtain ⟨b6, o6, z6, q6, ha6, hz6, hq6, hE6, hrow6, _⟩ := hb.at (i := k) oM
   clear hq6
   obtain ⟨a6, m6, c6, rfl, hi6, hr6, hj6⟩ := hE6; have hn_hr6 := hr6.len; have hx_hr6 : _ ≤ 1099511627776 := hr6.lim
   refine RD_t 6 Z kR Z (fun _ hK => v_index_P (i := k) ha6 underlying23 sizeOf42 Z Z Z oM) (RD_t 7 Z kR Z (fun _ hK => v_loadagg_P hK isAgg42 sizeOf42 Z hrow6 Z) ?_)
   refine RD_run [8] kR Z (RDs.cons Z ?_ RDs.nil)
   refine o_call call82 Z Z (w_sameHeld_c _ _ H.sub _ _ ⟨_, _, _, Z, ⟨by first | omega | (dsimp only; omega), by first | omega | (dsimp only; omega)⟩, hr5, ⟨by first | omega | (dsimp only; omega), by first | omega | (dsimp only; omega)⟩⟩ _ _ ⟨_, _, _, rfl, ⟨by first | omega | (dsimp only; omega), by first | omega | (dsimp only; omega)⟩, hr6, ⟨by first | omega | (dsimp only; omega), by first | omega | (dsimp only; omega)⟩⟩ (Sp.same_at hab hz5 hz6)) ?_
   rintro _ w7 ⟨rfl, ew7⟩; have H := H.step ew7; refine ⟨_, rfl, ?_⟩
   refine R_nil (N_DK (Kn.of' H hd4 SubL.nil) (RD_t 9 Z kR Z (fun _ hK => v_not Z) (RD_done kR (N_K (W_false Z (W_skip (N_B (N_K (W_region (mV Z (o_add Z Z Z oO (aG Z (R_nil ?_)))))))))))))
   refine N_lp (hJ := ⟨k + 1, _, Z, hle2, H, ?inv, Z⟩) (hm := ?hm)
   case hm => omega
   case inv => omega
  intro hc3'
  try simp only [nrm] at hc3'
  refine W_exit (N_K_exit (N_LP_exit (N_B_same (N_K (q2 (aG Z (q3 (W_ret (rt1 results44 Z ?_)))))))))
  exact H.rets Z
theorem w_sameItem_c (w0 : World) (G0 : PH) (hG : PSub G0 w0) (ca : List Value) (a : BItem) (ha : itemE G0 a ca) (cb : List Value) (b : BItem) (hb : itemE G0 b cb) (hab : a = b) :
  Calls Tryz.prog 83 #[.agg ca.toArray, .agg cb.toArray] w0 (Rets w0 (.bool true)) := by
 obtain ⟨a1, m1, c1, rfl, hi1, hr1⟩ := ha; have hy_hi1 : _ ≤ 16777216 := hi1; have hn_hr1 := hr1.len; have hx_hr1 : _ ≤ 1099511627776 := hr1.lim
 obtain ⟨a2, m2, c2, rfl, hi2, hr2⟩ := hb; have hy_hi2 : _ ≤ 16777216 := hi2; have hn_hr2 := hr2.len; have hx_hr2 : _ ≤ 1099511627776 := hr2.lim
 have H := Hp.init hG
 refine calls_of_W (l := [_, _]) func83 Z ntmps83 Z (q2 (o_box H Z Z Z ?_)); intro b3 w3 hb3 H
 refine o_box H Z Z Z ?_; intro b4 w4 hb4 H
 refine aG Z (q1 (o_fieldAddr 0 runUnderlying40 Z sizeOf9 Z Z Z (o_load_B 1 H isAgg9 Z Z Z Z (o_fieldAddr 0 runUnderlying40 Z sizeOf9 Z Z Z (o_load_B 0 H isAgg9 Z Z Z Z (o_seql Z Z Z (mV Z ?_)))))))
 refine R_case (t := 10) Z ?_ ?_
 ·intro hc5
  try simp only [nrm] at hc5
  refine gR Z (o_fieldAddr 1 runUnderlying40 Z sizeOf4 Z Z Z (gR Z (o_load_B 1 H isAgg4 Z Z Z Z (gR Z (o_fieldAddr 1 runUnderlying40 Z sizeOf4 Z Z Z (gR Z (o_load_B 0 H isAgg4 Z Z Z Z (gR Z (o_beql underlying4 Z Z Z (o_pick_t Z Z Z (mV Z ?_)))))))))))
  refine R_case (t := 17) Z ?_ ?_
  ·intro hc6
   try simp only [nrm] at hc6
   refine gR Z (o_fieldAddr 2 runUnderlying40 Z sizeOf38 Z Z Z (gR Z (o_load_B 1 H isAgg38 Z Z Z Z (gR Z (o_fieldAddr 2 runUnderlying40 Z sizeOf38 Z Z Z (gR Z (o_load_B 0 H isAgg38 Z Z Z Z (gR Z (o_call call114 Z Z (w_sameInts_c _ _ H.sub _ _ hr1 _ _ hr2 (congrArg BItem.ids hab)) ?_)))))))))
   rintro _ w7 ⟨rfl, ew7⟩; have H := H.step ew7; refine ⟨_, rfl, ?_⟩
   refine o_pick_t Z Z Z (aG Z (q3 (W_ret (rt1 results83 Z ?_))))
   exact H.rets Z
  intro hc6'
  try simp only [nrm] at hc6'
  refine rP Z (rP Z (rP Z (rP Z (rP Z (o_pick_f Z Z Z (aG Z (q3 (W_ret (rt1 results83 Z ?_)))))))))
  exact absurd (show False from by simp [hab] at hc6') id
 intro hc5'
 try simp only [nrm] at hc5'
 refine rP Z (rP Z (rP Z (rP Z (rP Z (o_pick_f Z Z Z (mV Z (rP Z (rP Z (rP Z (rP Z (rP Z (o_pick_f Z Z Z (aG Z (q3 (W_ret ?_)))))))))))))))
 refine rt1 results83 Z ?_
 exact absurd (show False from by simp [hab] at hc5') id
theorem w_sameTree_c (w0 : World) (G0 : PH) (hG : PSub G0 w0) (va : Value) (a : List (BItem)) (ha : RdItems G0 va a) (vb : Value) (b : List (BItem)) (hb : RdItems G0 vb b) (hab : a = b) :
  Calls Tryz.prog 45 #[va, vb] w0 (Rets w0 (.bool true)) := by
 obtain ⟨aa, ka, rfl⟩ := ha.shape
 have hlima : a.length ≤ 1099511627776 := ha.lim
 obtain ⟨ab, kb, rfl⟩ := hb.shape
 have hlimb : b.length ≤ 1099511627776 := hb.lim
 have hle := congrArg List.length hab
 have H := Hp.init hG
 refine calls_of_W (l := [.slice aa a.length ka, .slice ab b.length kb]) func45 Z ntmps45 Z (q2 (aG Z (q3 (W_seq (q2 (mV Z (o_len_slice underlying24 Z Z (mV Z (o_len_slice underlying24 Z Z (o_neq Z Z Z (q3 ?_)))))))))))
 refine W_cond Z ?_ ?_
 ·intro hc1
  try simp only [nrm] at hc1
  refine q2 (aG Z (q3 (W_ret (N_K_ret (rt1 results45 Z ?_)))))
  exact absurd (show False from by omega) id
 intro hc1'
 try simp only [nrm] at hc1'
 refine W_skip (N_K (W_seq (q2 (aG Z (q3 (W_block ?_))))))
 refine W_lp (hf := (Sub.cons (t := 0) Z (Sub.cons (t := 1) Z Sub.nil))) (J := fun M w m => ∃ (k : Nat) (G : PH), M = [(5, .int .i64 (k : Int))] ∧ PLe G0 G ∧ Hp w0 G0 [] w G [] ∧ (k ≤ a.length) ∧ m = (a.length - k)) (h0 := ⟨0, _, Z, PLe.refl _, H, ?inv, Z⟩) (round := ?round)
 case inv => omega
 case round =>
  rintro _ w2 _ ⟨k, G2, rfl, hle2, H, hinv2, rfl⟩
  have ha := ha.up hle2
  have hb := hb.up hle2
  have hk := hinv2
  refine W_seq (q2 (mV Z (mV Z (o_len_slice underlying24 Z Z (o_lss Z Z Z (q3 ?_))))))
  refine W_cond Z ?_ ?_
  ·intro hc3
   try simp only [nrm] at hc3
   refine W_skip (N_K (W_seq (W_block (W_seq (W_drawK [] 10 H kR Z ?_))))); intro w4 H; have hd4 := PLe.refl G2
   refine vM 0 Z Z (vM 1 Z Z ?_)
   have hl5 := ha.len
   obtain ⟨b5, o5, z5, q5, ha5, hz5, hq5, hE5, hrow5, _⟩ := ha.at (i := k) oM
   clear hq5
   obtain ⟨a5, m5, c5, rfl, hi5, hr5⟩ := hE5; have hy_hi5 : _ ≤ 16777216 := hi5; have hn_hr5 := hr5.len; have hx_hr5 : _ ≤ 1099511627776 := hr5.lim
   refine RD_t 2 Z kR Z (fun _ hK => v_index_P (i := k) ha5 underlying24 sizeOf40 Z Z Z oM) (RD_t 3 Z kR Z (fun _ hK => v_loadagg_P hK isAgg40 sizeOf40 Z hrow5 Z) (vM 4 Z Z (vM 5 Z Z ?_)))
   have hl6 := hb.len
   obtain ⟨b6, o6, z6, q6, ha6, hz6, hq6, hE6, hrow6, _⟩ := hb.at (i := k) oM
   clear hq6
   obtain ⟨a6, m6, c6, rfl, hi6, hr6⟩ := hE6; have hy_hi6 : _ ≤ 16777216 := hi6; have hn_hr6 := hr6.len; have hx_hr6 : _ ≤ 1099511627776 := hr6.lim
   refine RD_t 6 Z kR Z (fun _ hK => v_index_P (i := k) ha6 underlying24 sizeOf40 Z Z Z oM) (RD_t 7 Z kR Z (fun _ hK => v_loadagg_P hK isAgg40 sizeOf40 Z hrow6 Z) ?_)
   refine RD_run [8] kR Z (RDs.cons Z ?_ RDs.nil)
   refine o_call call83 Z Z (w_sameItem_c _ _ H.sub _ _ ⟨_, _, _, Z, hi5, hr5⟩ _ _ ⟨_, _, _, Z, hi6, hr6⟩ (Sp.same_at hab hz5 hz6)) ?_
   rintro _ w7 ⟨rfl, ew7⟩; have H := H.step ew7; refine ⟨_, rfl, ?_⟩
   refine R_nil (N_DK (Kn.of' H hd4 SubL.nil) (RD_t 9 Z kR Z (fun _ hK => v_not Z) (RD_done kR (N_K (W_false Z (W_skip (N_B (N_K (W_region (mV Z (o_add Z Z Z oO (aG Z (R_nil ?_)))))))))))))
   refine N_lp (hJ := ⟨k + 1, _, Z, hle2, H, ?inv, Z⟩) (hm := ?hm)
   case hm => omega
   case inv => omega
  intro hc3'
  try simp only [nrm] at hc3'
  refine W_exit (N_K_exit (N_LP_exit (N_B_same (N_K (q2 (aG Z (q3 (W_ret (rt1 results45 Z ?_)))))))))
  exact H.rets Z
end Go.Proofs.Tst

namespace Go.Proofs.Tst
open Go Fw Tryz
theorem w_sameSnap_c (w0 : World) (G0 : PH) (hG : PSub G0 w0) (ca : List Value) (a : BSnap) (ha : snapE G0 a ca) (cb : List Value) (b : BSnap) (hb : snapE G0 b cb) (hab : a = b) :
  Calls Tryz.prog 84 #[.agg ca.toArray, .agg cb.toArray] w0 (Rets w0 (.bool true)) := by
 obtain ⟨a1, m1, c1, rfl, hi1, hr1⟩ := ha; have hy_hi1 : _ ≤ 16777216 := hi1; have hn_hr1 := hr1.len; have hx_hr1 : _ ≤ 1099511627776 := hr1.lim
 obtain ⟨a2, m2, c2, rfl, hi2, hr2⟩ := hb; have hy_hi2 : _ ≤ 16777216 := hi2; have hn_hr2 := hr2.len; have hx_hr2 : _ ≤ 1099511627776 := hr2.lim
 have H := Hp.init hG
 refine calls_of_W (l := [_, _]) func84 Z ntmps84 Z (q2 (o_box H Z Z Z ?_)); intro b3 w3 hb3 H
 refine o_box H Z Z Z ?_; intro b4 w4 hb4 H
 refine aG Z (q1 (o_fieldAddr 0 runUnderlying46 Z sizeOf9 Z Z Z (o_load_B 1 H isAgg9 Z Z Z Z (o_fieldAddr 0 runUnderlying46 Z sizeOf9 Z Z Z (o_load_B 0 H isAgg9 Z Z Z Z (o_seql Z Z Z (mV Z ?_)))))))
 refine R_case (t := 10) Z ?_ ?_
 ·intro hc5
  try simp only [nrm] at hc5
  refine gR Z (o_fieldAddr 1 runUnderlying46 Z sizeOf24 Z Z Z (gR Z (o_load_B 1 H isAgg24 Z Z Z Z (gR Z (o_fieldAddr 1 runUnderlying46 Z sizeOf24 Z Z Z (gR Z (o_load_B 0 H isAgg24 Z Z Z Z (gR Z (o_call call45 Z Z (w_sameTree_c _ _ H.sub _ _ hr1 _ _ hr2 (congrArg BSnap.tree hab)) ?_)))))))))
  rintro _ w6 ⟨rfl, ew6⟩; have H := H.step ew6; refine ⟨_, rfl, ?_⟩
  refine o_pick_t Z Z Z (aG Z (q3 (W_ret (rt1 results84 Z ?_))))
  exact H.rets Z
 intro hc5'
 try simp only [nrm] at hc5'
 refine rP Z (rP Z (rP Z (rP Z (rP Z (o_pick_f Z Z Z (aG Z (q3 (W_ret (rt1 results84 Z ?_)))))))))
 exact absurd (show False from by simp [hab] at hc5') id
theorem w_sameSnaps_c (w0 : World) (G0 : PH) (hG : PSub G0 w0) (va : Value) (a : List (BSnap)) (ha : RdSn G0 va a) (vb : Value) (b : List (BSnap)) (hb : RdSn G0 vb b) (hab : a = b) :
  Calls Tryz.prog 46 #[va, vb] w0 (Rets w0 (.bool true)) := by
 obtain ⟨aa, ka, rfl⟩ := ha.shape
 have hlima : a.length ≤ 1099511627776 := ha.lim
 obtain ⟨ab, kb, rfl⟩ := hb.shape
 have hlimb : b.length ≤ 1099511627776 := hb.lim
 have hle := congrArg List.length hab
 have H := Hp.init hG
 refine calls_of_W (l := [.slice aa a.length ka, .slice ab b.length kb]) func46 Z ntmps46 Z (q2 (aG Z (q3 (W_seq (q2 (mV Z (o_len_slice underlying25 Z Z (mV Z (o_len_slice underlying25 Z Z (o_neq Z Z Z (q3 ?_)))))))))))
 refine W_cond Z ?_ ?_
 ·intro hc1
  try simp only [nrm] at hc1
  refine q2 (aG Z (q3 (W_ret (N_K_ret (rt1 results46 Z ?_)))))
  exact absurd (show False from by omega) id
 intro hc1'
 try simp only [nrm] at hc1'
 refine W_skip (N_K (W_seq (q2 (aG Z (q3 (W_block ?_))))))
 refine W_lp (hf := (Sub.cons (t := 0) Z (Sub.cons (t := 1) Z Sub.nil))) (J := fun M w m => ∃ (k : Nat) (G : PH), M = [(5, .int .i64 (k : Int))] ∧ PLe G0 G ∧ Hp w0 G0 [] w G [] ∧ (k ≤ a.length) ∧ m = (a.length - k)) (h0 := ⟨0, _, Z, PLe.refl _, H, ?inv, Z⟩) (round := ?round)
 case inv => omega
 case round =>
  rintro _ w2 _ ⟨k, G2, rfl, hle2, H, hinv2, rfl⟩
  have ha := ha.up hle2
  have hb := hb.up hle2
  have hk := hinv2
  refine W_seq (q2 (mV Z (mV Z (o_len_slice underlying25 Z Z (o_lss Z Z Z (q3 ?_))))))
  refine W_cond Z ?_ ?_
  ·intro hc3
   try simp only [nrm] at hc3
   refine W_skip (N_K (W_seq (W_block (W_seq (W_drawK [] 10 H kR Z ?_))))); intro w4 H; have hd4 := PLe.refl G2
   refine vM 0 Z Z (vM 1 Z Z ?_)
   have hl5 := ha.len
   obtain ⟨b5, o5, z5, q5, ha5, hz5, hq5, hE5, hrow5, _⟩ := ha.at (i := k) oM
   clear hq5
   obtain ⟨a5, m5, c5, rfl, hi5, hr5⟩ := hE5; have hy_hi5 : _ ≤ 16777216 := hi5; have hn_hr5 := hr5.len; have hx_hr5 : _ ≤ 1099511627776 := hr5.lim
   refine RD_t 2 Z kR Z (fun _ hK => v_index_P (i := k) ha5 underlying25 sizeOf46 Z Z Z oM) (RD_t 3 Z kR Z (fun _ hK => v_loadagg_P hK isAgg46 sizeOf46 Z hrow5 Z) (vM 4 Z Z (vM 5 Z Z ?_)))
   have hl6 := hb.len
   obtain ⟨b6, o6, z6, q6, ha6, hz6, hq6, hE6, hrow6, _⟩ := hb.at (i := k) oM
   clear hq6
   obtain ⟨a6, m6, c6, rfl, hi6, hr6⟩ := hE6; have hy_hi6 : _ ≤ 16777216 := hi6; have hn_hr6 := hr6.len; have hx_hr6 : _ ≤ 1099511627776 := hr6.lim
   refine RD_t 6 Z kR Z (fun _ hK => v_index_P (i := k) ha6 underlying25 sizeOf46 Z Z Z oM) (RD_t 7 Z kR Z (fun _ hK => v_loadagg_P hK isAgg46 sizeOf46 Z hrow6 Z) ?_)
   refine RD_run [8] kR Z (RDs.cons Z ?_ RDs.nil)
   refine o_call call84 Z Z (w_sameSnap_c _ _ H.sub _ _ ⟨_, _, _, Z, hi5, hr5⟩ _ _ ⟨_, _, _, Z, hi6, hr6⟩ (Sp.same_at hab hz5 hz6)) ?_
   rintro _ w7 ⟨rfl, ew7⟩; have H := H.step ew7; refine ⟨_, rfl, ?_⟩
   refine R_nil (N_DK (Kn.of' H hd4 SubL.nil) (RD_t 9 Z kR Z (fun _ hK => v_not Z) (RD_done kR (N_K (W_false Z (W_skip (N_B (N_K (W_region (mV Z (o_add Z Z Z oO (aG Z (R_nil ?_)))))))))))))
   refine N_lp (hJ := ⟨k + 1, _, Z, hle2, H, ?inv, Z⟩) (hm := ?hm)
   case hm => omega
   case inv => omega
  intro hc3'
  try simp only [nrm] at hc3'
  refine W_exit (N_K_exit (N_LP_exit (N_B_same (N_K (q2 (aG Z (q3 (W_ret (rt1 results46 Z ?_)))))))))
  exact H.rets Z
theorem w_sameDisk_c (w0 : World) (G0 : PH) (hG : PSub G0 w0) (ca : List Value) (a : BDisk) (ha : diskE G0 a ca) (cb : List Value) (b : BDisk) (hb : diskE G0 b cb) (hab : a = b) :
  Calls Tryz.prog 18 #[.agg ca.toArray, .agg cb.toArray] w0 (Rets w0 (.bool true)) := by
 obtain ⟨a1, m1, c1, a1', m1', c1', a1'', m1'', c1'', rfl, hr1, hr1', hr1''⟩ := ha; have hn_hr1 := hr1.len; have hx_hr1 : _ ≤ 1099511627776 := hr1.lim; have hn_hr1q := hr1'.len; have hx_hr1q : _ ≤ 1099511627776 := hr1'.lim; have hn_hr1qq := hr1''.len; have hx_hr1qq : _ ≤ 1099511627776 := hr1''.lim
 obtain ⟨a2, m2, c2, a2', m2', c2', a2'', m2'', c2'', rfl, hr2, hr2', hr2''⟩ := hb; have hn_hr2 := hr2.len; have hx_hr2 : _ ≤ 1099511627776 := hr2.lim; have hn_hr2q := hr2'.len; have hx_hr2q : _ ≤ 1099511627776 := hr2'.lim; have hn_hr2qq := hr2''.len; have hx_hr2qq : _ ≤ 1099511627776 := hr2''.lim
 have H := Hp.init hG
 refine calls_of_W (l := [_, _]) func18 Z ntmps18 Z (q2 (o_box H Z Z Z ?_)); intro b3 w3 hb3 H
 refine o_box H Z Z Z ?_; intro b4 w4 hb4 H
 refine aG Z (q1 (o_fieldAddr 0 runUnderlying27 Z sizeOf23 Z Z Z (o_load_B 1 H isAgg23 Z Z Z Z (o_fieldAddr 0 runUnderlying27 Z sizeOf23 Z Z Z (o_load_B 0 H isAgg23 Z Z Z Z (o_call call44 Z Z (w_sameStore_c _ _ H.sub _ _ hr1 _ _ hr2 (congrArg BDisk.store hab)) ?_))))))
 rintro _ w5 ⟨rfl, ew5⟩; have H := H.step ew5; refine ⟨_, rfl, ?_⟩
 refine mV Z (gR Z (o_fieldAddr 1 runUnderlying27 Z sizeOf24 Z Z Z (gR Z (o_load_B 1 H isAgg24 Z Z Z Z (gR Z (o_fieldAddr 1 runUnderlying27 Z sizeOf24 Z Z Z (gR Z (o_load_B 0 H isAgg24 Z Z Z Z (gR Z (o_call call45 Z Z (w_sameTree_c _ _ H.sub _ _ hr1' _ _ hr2' (congrArg BDisk.tree hab)) ?_))))))))))
 rintro _ w6 ⟨rfl, ew6⟩; have H := H.step ew6; refine ⟨_, rfl, ?_⟩
 refine o_pick_t Z Z Z (mV Z (gR Z (o_fieldAddr 2 runUnderlying27 Z sizeOf25 Z Z Z (gR Z (o_load_B 1 H isAgg25 Z Z Z Z (gR Z (o_fieldAddr 2 runUnderlying27 Z sizeOf25 Z Z Z (gR Z (o_load_B 0 H isAgg25 Z Z Z Z (gR Z (o_call call46 Z Z (w_sameSnaps_c _ _ H.sub _ _ hr1'' _ _ hr2'' (congrArg BDisk.snaps hab)) ?_)))))))))))
 rintro _ w7 ⟨rfl, ew7⟩; have H := H.step ew7; refine ⟨_, rfl, ?_⟩
 refine o_pick_t Z Z Z (aG Z (q3 (W_ret (rt1 results18 Z ?_))))
 exact H.rets Z
end Go.Proofs.Tst

namespace Go.Proofs.Tst
open Go Fw Tryz
theorem lOnlyTake_c (w0 : World) (G0 : PH) (hG : PSub G0 w0) (vcode : Value) (code : List (UInt8)) (hcode : RdU G0 vcode code) (hge : ErrG G0) :
  Calls Tryz.prog 7 #[vcode] w0 (Rets w0 (.bool true)) := by
 obtain ⟨acode, kcode, rfl⟩ := hcode.shape
 have hlimcode : code.length ≤ 1099511627776 := hcode.lim
 have H := Hp.init hG
 refine calls_of_W (l := [.slice acode code.length kcode]) func7 Z ntmps7 Z (q2 (aG Z (q3 (W_seq (q2 (mV Z (o_len_slice underlying22 Z Z (o_gtr Z Z Z (q3 ?_)))))))))
 refine W_cond Z ?_ ?_
 ·intro hc1
  try simp only [nrm] at hc1
  refine q2 (aG Z (q3 (W_ret (N_K_ret (rt1 results7 Z ?_)))))
  exact H.rets (congrArg Value.bool (by first | rfl | simp_all))
 intro hc1'
 try simp only [nrm] at hc1'
 refine W_skip (N_K (q2 (mV Z (o_call call15 Z Z (DrawSnapTake_c _ _ H.sub _ _ hcode ) ?_))))
 rintro _ w2 ⟨G2, _, g2, rfl, ⟨cV, uV, uP0, rfl, hV, hP0⟩⟩
 have H := H.grow g2
 have hge := hge.up g2.le
 obtain ⟨a2, m2, c2, a2', m2', c2', a2'', m2'', c2'', rfl, hr2, hr2', hr2''⟩ := hV; have hn_hr2 := hr2.len; have hx_hr2 : _ ≤ 1099511627776 := hr2.lim; have hn_hr2q := hr2'.len; have hx_hr2q : _ ≤ 1099511627776 := hr2'.lim; have hn_hr2qq := hr2''.len; have hx_hr2qq : _ ≤ 1099511627776 := hr2''.lim
 refine ⟨_, Z, ?_⟩
 refine mV Z (o_extract Z Z Z (o_extract Z Z Z (o_alloc H zeroValue27 Z Z ?_))); intro b3 w3 hb3 H
 refine o_store_B 0 H sizeOf27 Z Z Z Z Z Z Z Z ?_; intro w4 H
 refine aG Z (q1 (o_loadagg_B 0 H isAgg27 sizeOf27 Z Z Z Z Z (mV Z (o_call call16 Z Z (i_SnapTake_c _ _ H.sub _ uV ⟨_, _, _, _, _, _, _, _, _, Z, hr2, hr2', hr2''⟩ _ hP0 ) ?_))))
 rintro _ w5 ⟨_, _, rfl, H5', ⟨u15, u25, u35, E15, E25, E35, rfl, rfl, ho15, ho25, ho35⟩⟩
 have H := H.readers (fp := []) (by simp) (PLe.refl _) H5'
 obtain ⟨x15, p15⟩ := ho15
 obtain ⟨a15, c15, rfl⟩ := OwnS.shape p15
 obtain ⟨x25, p25⟩ := ho25
 obtain ⟨a25, c25, rfl⟩ := OwnS.shape p25
 obtain ⟨x35, p35⟩ := ho35
 obtain ⟨a35, c35, rfl⟩ := OwnS.shape p35
 refine ⟨_, Z, ?_⟩
 refine mV Z (o_extract Z Z Z (o_extract Z Z Z (o_alloc H zeroValue27 Z Z ?_))); intro b6 w6 hb6 H
 refine o_store_B 0 H sizeOf27 Z Z Z Z Z Z Z Z ?_; intro w7 H
 refine aG Z (q1 (o_loadagg_B 4 H isAgg27 sizeOf27 Z Z Z Z Z (mV Z (o_call call17 Z Z (SnapTakeP_c _ _ H.sub _ uV ⟨_, _, _, _, _, _, _, _, _, Z, hr2, hr2', hr2''⟩ _ hP0 ) ?_))))
 rintro _ w8 ⟨G8, _, g8, rfl, u8_0, rfl, hr8_0⟩
 have H := H.grow g8
 have hge := hge.up g8.le
 obtain ⟨a9, m9, c9, a9', m9', c9', a9'', m9'', c9'', rfl, hr9, hr9', hr9''⟩ := hr8_0; have hn_hr9 := hr9.len; have hx_hr9 : _ ≤ 1099511627776 := hr9.lim; have hn_hr9q := hr9'.len; have hx_hr9q : _ ≤ 1099511627776 := hr9'.lim; have hn_hr9qq := hr9''.len; have hx_hr9qq : _ ≤ 1099511627776 := hr9''.lim
 refine ⟨_, Z, ?_⟩
 refine mV Z (o_extract Z Z Z (o_extract Z Z Z (o_alloc H zeroValue27 Z Z ?_))); intro b10 w10 hb10 H
 refine o_store_B 0 H sizeOf27 Z Z Z Z Z Z Z Z ?_; intro w11 H
 refine aG Z (q3 (W_seq (q2 (mV Z (mV Z (o_bneq_same underlying4 Z Z Z (mV Z (gR Z (o_loadagg_B 1 H isAgg27 sizeOf27 Z Z Z Z Z (gR Z (o_loadagg_B 0 H isAgg27 sizeOf27 Z Z Z Z Z (gR Z (o_call call18 Z Z (w_sameDisk_c _ _ (H.lendSubL [2, 3, 4]) _ ((Sp.SnapTake uV uP0).getD ⟨[], [], []⟩) ⟨_, _, _, _, _, _, _, _, _, Z, (H.lendOHs (k := 2) (ks := [2, 3, 4]) Z Z ⟨_, p15⟩), (H.lendOIs (k := 3) (ks := [2, 3, 4]) Z Z ⟨_, p25⟩), (H.lendOSn (k := 4) (ks := [2, 3, 4]) Z Z ⟨_, p35⟩)⟩ _ ((Sp.SnapTake uV uP0).getD ⟨[], [], []⟩) ⟨_, _, _, _, _, _, _, _, _, Z, (hr9.up (PPlus.le _ _ _)), (hr9'.up (PPlus.le _ _ _)), (hr9''.up (PPlus.le _ _ _))⟩ Z) ?_)))))))))))))
 rintro _ w12 ⟨rfl, ew12⟩; have H := H.step ew12; refine ⟨_, rfl, ?_⟩
 refine gR Z (o_not Z Z (o_pick_f Z Z Z (mV Z (gR Z (mV Z (gR Z (o_not Z Z (o_pick_f Z Z Z (q3 ?_)))))))))
 refine W_cond Z ?_ ?_
 ·intro hc13
  try simp only [nrm] at hc13
  refine q2 (mV Z (mV Z (o_beql_same underlying4 Z Z Z (mV Z (gR Z (o_loadagg_B 1 H isAgg27 sizeOf27 Z Z Z Z Z (gR Z (o_loadagg_B 0 H isAgg27 sizeOf27 Z Z Z Z Z (gR Z (o_call call18 Z Z (w_sameDisk_c _ _ (H.lendSubL [2, 3, 4]) _ ((Sp.SnapTake uV uP0).getD ⟨[], [], []⟩) ⟨_, _, _, _, _, _, _, _, _, Z, (H.lendOHs (k := 2) (ks := [2, 3, 4]) Z Z ⟨_, p15⟩), (H.lendOIs (k := 3) (ks := [2, 3, 4]) Z Z ⟨_, p25⟩), (H.lendOSn (k := 4) (ks := [2, 3, 4]) Z Z ⟨_, p35⟩)⟩ _ ((Sp.SnapTake uV uP0).getD ⟨[], [], []⟩) ⟨_, _, _, _, _, _, _, _, _, Z, (hr9.up (PPlus.le _ _ _)), (hr9'.up (PPlus.le _ _ _)), (hr9''.up (PPlus.le _ _ _))⟩ Z) ?_))))))))))
  rintro _ w14 ⟨rfl, ew14⟩; have H := H.step ew14; refine ⟨_, rfl, ?_⟩
  refine o_pick_t Z Z Z (aG Z (q3 (W_ret (N_K_ret (rt1 results7 Z ?_)))))
  exact H.rets (congrArg Value.bool (by first | rfl | simp_all))
 intro hc13'
 try simp only [nrm] at hc13'
 obtain ⟨u2, hu2⟩ := Option.isSome_iff_exists.1 (show (Sp.SnapTake uV uP0).isSome = true by simpa using hc13')
 have hW : (Sp.SnapTake uV uP0).getD ⟨[], [], []⟩ = u2 := by (rw [hu2]; rfl)
 have ho0 : Sp.cOnly ((Sp.SnapTake uV uP0).getD ⟨[], [], []⟩) uP0 = 0 := by (rw [hW]; exact Sp.only_take0 hu2)
 refine W_skip (N_K (q2 (o_loadagg_B 1 H isAgg27 sizeOf27 Z Z Z Z Z (mV Z (o_call call20 Z Z (i_CountOnly_c _ _ (H.lendSubL [2, 3, 4]) _ ((Sp.SnapTake uV uP0).getD ⟨[], [], []⟩) ⟨_, _, _, _, _, _, _, _, _, Z, (H.lendOHs (k := 2) (ks := [2, 3, 4]) Z Z ⟨_, p15⟩), (H.lendOIs (k := 3) (ks := [2, 3, 4]) Z Z ⟨_, p25⟩), (H.lendOSn (k := 4) (ks := [2, 3, 4]) Z Z ⟨_, p35⟩)⟩ _ hP0 (hge.up (PPlus.le _ _ _))) ?_)))))
 rintro _ w15 ⟨rfl, ew15⟩; have H := H.step ew15; refine ⟨_, rfl, ?_⟩
 refine o_eql Z Z Z (aG Z (q3 (W_ret (rt1 results7 Z ?_))))
 exact H.rets (congrArg Value.bool (by first | rfl | simp_all))
end Go.Proofs.Tst

namespace Fw
open Go
section
variable {H : Type} {enc : TypeId × Value → H} {P : Program} {W : World}
structure Bulk (bk : DataW H → Nat) (bka : List (DataW H) → Nat) : Prop where
 slice : ∀ es sp, bk (.slice es sp) = bka es + bka sp + 1
 agg : ∀ ps, bk (.agg ps) = bka ps + 1
 str : ∀ b, bk (.lit (.string b)) = b.length + 1
 nil : bka [] = 0
 cons : ∀ d r, bka (d :: r) = bk d + bka r
 pos : ∀ d, 1 ≤ bk d
variable {bk : DataW H → Nat} {bka : List (DataW H) → Nat}
theorem Bulk.len (hb : Bulk bk bka) : ∀ l, l.length ≤ bka l
 | [] => by simp
 | d :: r => by
  have h1 := hb.len r
  have h2 := hb.pos d
  rw [hb.cons]
  simp; omega
theorem Bulk.mem (hb : Bulk bk bka) {d : DataW H} : ∀ {l : List (DataW H)}, d ∈ l → bk d ≤ bka l
 | [], h => by simp at h
 | e :: r, h => by
  rw [hb.cons]
  rcases List.mem_cons.1 h with rfl | h
  ·omega
  ·have := hb.mem h
   omega
theorem Bulk.memF (hb : Bulk bk bka) {l : List (DataW H × List MemPlace)} {i : Nat} (hi : i < l.length) : bk (l[i]).1 ≤ bka (l.map (fun x => x.1)) :=
 hb.mem (List.mem_map.2 ⟨l[i], List.getElem_mem hi, rfl⟩)
abbrev Reads (enc : TypeId × Value → H) (P : Program) (W : World) (n : Nat) (t : TypeId) (cs : List Value) : Option (DataW H × List MemPlace) := DataW.trod enc P W 0 (fun _ => true) true n t cs
def Elem (enc : TypeId × Value → H) (P : Program) (W : World) (bk : DataW H → Nat) (t : TypeId) (sz : Nat) {α : Type} (E : PH → α → List Value → Prop) : Prop :=
 ∀ n cs x, Reads enc P W n t cs = some x → bk x.1 ≤ 1048576 → ∃ a, cs.length = sz ∧ E (PAll W) a cs
theorem elem_u8 {t : TypeId} (ht : P.underlying t = some (.int .u8)) : Elem enc P W bk t 1 u8E := by
 intro n cs x h _
 obtain ⟨i, rfl, _, hw⟩ := DataW.trod_int ht h
 simp [Lit.wf, IntKind.min, IntKind.max, IntKind.signed, IntKind.bits] at hw
 refine ⟨UInt8.ofNat i.toNat, rfl, ?_⟩
 show [Value.int .u8 i] = [.int .u8 ((UInt8.ofNat i.toNat).toNat : Int)]
 congr 2
 rw [UInt8.toNat_ofNat']
 omega
theorem list_of {α : Type} {Q : Nat → α → Prop} : ∀ n, (∀ i, i < n → ∃ x, Q i x) → ∃ xs : List α, xs.length = n ∧ ∀ i x, xs[i]? = some x → Q i x
 | 0, _ => ⟨[], rfl, by simp⟩
 | n + 1, h => by
  obtain ⟨xs, h1, h2⟩ := list_of n (fun i hi => h i (by omega))
  obtain ⟨x, hx⟩ := h n (by omega)
  refine ⟨xs ++ [x], by simp [h1], fun i y hy => ?_⟩
  by_cases hi : i < n
  ·rw [List.getElem?_append_left (by omega)] at hy
   exact h2 i y hy
  ·rw [List.getElem?_append_right (by omega)] at hy
   have : i = n := by
    have := (List.getElem?_eq_some_iff.1 hy).1
    simp at this
    omega
   subst this
   simp [h1] at hy
   subst hy
   exact hx
theorem mapM_at {α β : Type} {f : α → Option β} : ∀ {l : List α} {r : List β}, l.mapM f = some r → ∀ (i : Nat) (x : α), l[i]? = some x → f x = r[i]?
 | [], r, h, i, x, hx => by simp at hx
 | y :: t, r, h, i, x, hx => by
  simp only [List.mapM_cons, Option.bind_eq_bind, Option.bind_eq_some_iff, Option.pure_def, Option.some.injEq] at h
  obtain ⟨z, h1, u, h2, rfl⟩ := h
  cases i with
  | zero => simp at hx; subst hx; simpa using h1
  | succ i => simp only [List.getElem?_cons_succ] at hx ⊢; exact mapM_at h2 i x hx
theorem pcell_of {b o : Nat} {v : Value} (h : W.cell? ⟨b, o, none⟩ = some v) : PCell (PAll W) b o v := by
 unfold World.cell? at h
 unfold PCell PAll
 split at h
 ·rename_i C e fz hb
  exact ⟨C, e, fz, hb, by simpa using h⟩
 ·cases h
theorem elem_slice {α : Type} {E : PH → α → List Value → Prop} (hb : Bulk bk bka) {t e : TypeId} {sz : Nat} (ht : P.underlying t = some (.slice e)) (hz : P.cellsOf e = sz) (hsz : 0 < sz) (hE : Elem enc P W bk e sz E) :
  ∀ n cs x, Reads enc P W n t cs = some x → bk x.1 ≤ 1048576 → ∃ v xs, cs = [v] ∧ RdS LIM E sz (PAll W) v xs := by
 intro n cs x h hx
 rcases DataW.trod_slice ht h with ⟨rfl, _⟩ | ⟨a, len, cap, elems, rest, m, _, rfl, rfl, _, h2, _, h4, h5, _, _⟩
 ·exact ⟨_, [], rfl, RdS.nil _ _ _⟩
 ·simp only [hb.slice] at hx
  rw [hz] at h5
  have hle := hb.len (elems.map (·.1))
  rw [List.length_map] at hle
  have hel : ∀ i, i < len → ∃ y : α, ∃ cs, cs.length = sz ∧ E (PAll W) y cs ∧ ∀ j v, cs[j]? = some v → W.cell? ((a.add (i * sz)).add j) = some v := by
   intro i hi
   have h6 := h5 i hi
   rw [List.getElem?_eq_getElem (by omega)] at h6
   obtain ⟨cs, k1, k2⟩ := Option.bind_eq_some_iff.1 h6
   obtain ⟨y, k3, k4⟩ := hE m cs _ k2 (Nat.le_trans (hb.memF (by omega)) (by omega))
   refine ⟨y, cs, k3, k4, fun j v hj => ?_⟩
   unfold World.cells? at k1
   split at k1
   ·have hjl := (List.getElem?_eq_some_iff.1 hj).1
    rw [← hj]
    exact mapM_at k1 j j (by rw [List.getElem?_range (by omega)])
   ·cases k1
  obtain ⟨xs, x1, x2⟩ := list_of len hel
  refine ⟨_, xs, rfl, some a, cap, by rw [x1], by omega, by simp only [LIM]; omega, ?_⟩
  by_cases h0 : len = 0
  ·exact .inl (List.eq_nil_of_length_eq_zero (by omega))
  ·right
   have hspot : a.spot = none := by
    obtain ⟨y, cs, y1, _, y2⟩ := hel 0 (by omega)
    have := World.cell?_spot (y2 0 cs[0] (by simp))
    simpa [Addr.add] using this
   obtain ⟨b, o, sp⟩ := a
   simp only at hspot
   subst hspot
   refine ⟨b, o, rfl, fun i y hy => ?_⟩
   obtain ⟨cs, c1, c2, c3⟩ := x2 i y hy
   refine ⟨cs, c1, c2, fun j v hj => pcell_of ?_⟩
   have := c3 j v hj
   rwa [Addr.add_lit, Addr.add_lit] at this
variable {ti ts tb tis : TypeId}
theorem same_of_ext {w w' : World} (h : Ext w w') {p : MemPlace} (hp : p.block < w.heap.size) : w.sameAt w' p := by
 have hb := h.block p.block hp
 cases p with
 | cell b off => simp only [World.sameAt, World.cell?]; simp only [MemPlace.block] at hb; rw [hb]
 | map b => simp only [World.sameAt]; simpa [MemPlace.block] using hb
end
end Fw
namespace Fw
open Go Go.ChangeShapes Go.WideShapes
section
variable {H : Type} {enc : TypeId × Value → H} {P : Program}
theorem trodAll_stays (hl : laidOutB P = true) {W W' : World} {sp' : Nat → Bool} : ∀ {ts : List TypeId} {vs : List Value} {ds : List (DataW H)} {ps : List MemPlace}, (∀ t, t ∈ ts → P.readableRec t = true ∧ t < P.types.size) →
  DataW.TrodAll enc P W 0 (fun _ => true) true ts vs ds ps → (∀ p ∈ ps, W.sameAt W' p) → (∀ p ∈ ps, sp' p.block = true) → DataW.TrodAll enc P W' 0 sp' true ts vs ds ps
 | [], _, _, _, _, h, _, _ => by
  obtain ⟨rfl, rfl, rfl⟩ := trodAll_nil h
  rfl
 | t :: ts, _, _, _, hr, h, hs, hq => by
  obtain ⟨v, vs1, d, ds1, a, b, rfl, rfl, rfl, h1, h2⟩ := trodAll_cons h
  exact ⟨a, b, WideElems.Trod_stays hl (hr t (by simp)).1 (hr t (by simp)).2 h1 (fun p hp => hs p (by simp [hp])) (fun p hp => hq p (by simp [hp])),
   trodAll_stays hl (fun t ht => hr t (by simp [ht])) h2 (fun p hp => hs p (by simp [hp])) (fun p hp => hq p (by simp [hp])), rfl⟩
theorem kept_of_ext {W W' : World} (h : Ext W W') (may : MemPlace → Prop) : W.keptBut W' may := by
 refine ⟨h.os, h.output, fun i hi => ?_⟩
 rw [h.block i hi]
 cases W.heap[i]? with
 | none => simp
 | some o => cases o <;> simp
theorem law_post {f : Func} {s : ChangeSpec} {apart fresh handsOn again : Bool} {W W' : World} {args : Array Value} {ds gs : List (DataW H)} {before : List MemPlace} (hl : laidOutB P = true) (hr : ∀ t, t ∈ f.params.toList → P.readableRec t = true ∧ t < P.types.size)
  (hv : s.vars = []) (hW : DataW.Whole enc P f.params.toList s.vars apart W args.toList ds gs before) (hx : Ext W W') (hfr : (s.fn H (ds ++ gs)).results = [.lit (.bool true)]) (hfa : (s.fn H (ds ++ gs)).args = ds) (hfv : (s.fn H (ds ++ gs)).vars = [])
  (hres : ∀ (b : Nat) (sp : Nat → Bool) (hd : Bool), DataW.TrodAll enc P W' b sp hd f.resultTypes.toList ((Value.bool true).resultList f.resultTypes.size) [.lit (.bool true)] [])
  (hok : ∀ (j : Nat) (t : TypeId) (r : Value), f.resultTypes[j]? = some t → ((Value.bool true).resultList f.resultTypes.size)[j]? = some r → Value.okWide P W' .any 0 t r) :
  s.post enc P f apart fresh handsOn again W args (.bool true) W' := by
 have hW' := hW
 obtain ⟨p, q, hA, hV, rfl, hz, hn⟩ := hW
 rw [hv] at hV
 have hgs : gs = [] ∧ q = [] := by
  cases gs with
  | nil => exact ⟨rfl, hV⟩
  | cons d r => exact hV.elim
 obtain ⟨rfl, rfl⟩ := hgs
 rw [List.append_nil] at hW' hz hn
 have hlt : ∀ m ∈ p, m.block < W.heap.size := fun m hm => hW'.lt m hm
 have hold : ∀ m ∈ p, (fun b => decide (b < W.heap.size)) m.block = true := fun m hm => by simpa using hlt m hm
 have hargs : ∀ sp : Nat → Bool, (∀ m ∈ p, sp m.block = true) → DataW.TrodAll enc P W' 0 sp true f.params.toList args.toList (s.fn H (ds ++ [])).args p := fun sp hsp => by
  rw [hfa]
  exact trodAll_stays hl hr hA (fun m hm => same_of_ext hx (hlt m hm)) hsp
 have hvars : ∀ sp : Nat → Bool, DataW.TrodVars enc P W' sp s.vars (s.fn H (ds ++ [])).vars [] := fun sp => by rw [hv, hfv]; rfl
 have hres' : ∀ (b : Nat) (sp : Nat → Bool) (hd : Bool), DataW.TrodAll enc P W' b sp hd f.resultTypes.toList ((Value.bool true).resultList f.resultTypes.size) (s.fn H (ds ++ [])).results [] := fun b sp hd => by rw [hfr]; exact hres b sp hd
 refine ⟨ds, [], p, [], p, [], hW', hres' _ _ _, hargs _ hold, hvars _, World.keptBut_mono (fun m hm => ⟨hm, Or.inr ?_⟩) (kept_of_ext hx (· ∈ p)), fun _ => ?_⟩
 ·simpa using hm
 ·refine ⟨hok, _, _, ([] ++ p) ++ [], ⟨[] ++ p, [], trodAll_append (hargs _ (fun _ _ => rfl)) (hres' _ _ _), hvars _, rfl, ?_, ?_⟩, ?_⟩
  ·intro b off hp
   have hp' : MemPlace.cell b off ∈ p := by simpa using hp
   have h1 := hz b off hp'
   have h2 := hx.block b (hlt _ hp')
   simp only [World.frozen?] at h1 ⊢
   rw [h2]
   exact h1
  ·intro ha
   simpa using hn ha
  ·intro m hm _
   simpa using hm
end
end Fw
namespace Fw
open Go Go.WideShapes
theorem slice_of {P : Program} {W : World} {b : Nat} {t e : TypeId} {v u : Value} (ht : P.underlying t = some (.slice e)) (h : Value.okWide P W .any b t v) (hu : v.cells.toList = [u]) : v = u := by
 unfold Value.okWide at h
 rw [ht] at h
 unfold Cell.okWide at h
 rw [ht] at h
 cases v <;> simp_all [Value.cells, Cell.ok]
end Fw
namespace Go.Proofs.YtcnapjpnemcolaaGreatDoor
open Go Fw Go.ChangeShapes Go.Proofs.Tst Tryz
theorem hEt : Tryz.prog.globalNamed "errors.errorType" = some 0 := by kernel_rfl
theorem hRow : ((List.range 299).filter fun t => Tryz.prog.rowNamed t [101, 114, 114, 111, 114]) = [52] := by kernel_rfl
theorem hNt : Tryz.prog.types.size = 299 := by kernel_rfl
def errCell : Array Value := #[.iface 180 (.agg #[.pointer (some ⟨4, 52, none⟩)])]
theorem handle_of {W : World} (h : handlesMet Tryz.prog [("errors.errorType", Rows.laid_errors_errorType)] W) : ErrG (PAll W) := by
 obtain ⟨name, u, ty, e1, e2, e3, e4, e5⟩ := h _ (List.mem_singleton.2 rfl)
 have en : name = [101, 114, 114, 111, 114] := (Option.some.inj e1).symm
 subst en
 obtain rfl : u = 180 := Option.some.inj (e2.symm.trans kR)
 have hm : ty ∈ (List.range 299).filter fun t => Tryz.prog.rowNamed t [101, 114, 114, 111, 114] := List.mem_filter.2 ⟨List.mem_range.2 (by rw [← hNt]; exact e3), e4⟩
 rw [hRow] at hm
 obtain rfl := List.mem_singleton.1 hm
 have hh : typeHandle Tryz.prog 52 = .pointer (some ⟨4, 52, none⟩) := by kernel_rfl
 rw [hh] at e5
 exact pcell_of (by simpa using World.var?_cell hEt e5 0)
end Go.Proofs.YtcnapjpnemcolaaGreatDoor

