/- Part 8 of the proof: the program logic and plain functions. Conditions: none. -/
import Derived.Test.YtbhkgogeoafjjaaGreatDoorProg
import Derived.Test.YtbhkgogeoafjjaaGreatDoorG02
import Derived.Test.YtbhkgogeoafjjaaGreatDoorG03
import Derived.Test.YtbhkgogeoafjjaaGreatDoorG04
import Derived.Test.YtbhkgogeoafjjaaGreatDoorG05
import Derived.Test.YtbhkgogeoafjjaaGreatDoorG07
import Derived.Test.YtbhkgogeoafjjaaGreatDoorG06
import Derived.WideKeyArgs
import Derived.ChangeArms
import Derived.DataElems
import Derived.ChangeSame
set_option linter.all false
set_option maxRecDepth 100000
set_option maxHeartbeats 1000000
namespace Go.Proofs.Tst
open Go Fw Tryz
theorem i_take_c (w0 : World) (G0 : PH) (hG : PSub G0 w0) (db mb : Nat) (es : Array MapEntry) (ck : Nat) (xs : List (Int × Value)) (T : Nd) (FT : Fr) (sv : Value) (sn : List (Bs × Nd)) (c : List Value) (FSq : Fr) (d : BDisk) (hm : MapIs (Value.int .i64) es ck xs) (hS : StR G0 xs d.store) (hN : NdO 166 93 G0 T FT) (hT : Nd.TOK T d.tree) (hchk : Chk osE 2 G0 c sn) (hNs : NdsO 166 93 G0 (sn.map (·.2)) FSq) (hSn : SnOK sn d.snaps) (hdv : Sp.DiskValid d = true) (name : Bs) (hname : name.length ≤ 16777216) (hLent : Lent w0 G0 [blk db (cl [.int .i32 0, .int .u32 0, .map (some mb), .pointer (some ⟨T.b, 0, none⟩), sv] 147), blk mb (.map es ck), frag FT, acc 151 2 sv sn.length c, frag FSq])  :
  Calls Tryz.prog 84 #[.pointer (some ⟨db, 0, none⟩), str name] w0 (RetM w0 G0 (fps [blk db (cl [.int .i32 0, .int .u32 0, .map (some mb), .pointer (some ⟨T.b, 0, none⟩), sv] 147), blk mb (.map es ck), frag FT, acc 151 2 sv sn.length c, frag FSq]) (fun G' v Bs => ∃ (es' : Array MapEntry) (ck' : Nat) (xs' : List (Int × Value)) (F' : Fr) (sv' : Value) (sn' : List (Fw.Bs × Nd)) (c' : List Value) (FSq' : Fr) (L' : List BHeld), v = .bool (Sp.SnapTake d name).isSome ∧ Bs = [blk db (cl [.int .i32 0, .int .u32 0, .map (some mb), .pointer (some ⟨T.b, 0, none⟩), sv'] 147), blk mb (.map es' ck'), frag F', acc 151 2 sv' sn'.length c', frag FSq'] ∧ MapIs (Value.int .i64) es' ck' xs' ∧ StR G' xs' L' ∧ Sp.VH L' ∧ NdO 166 93 G' T F' ∧ Chk osE 2 G' c' sn' ∧ NdsO 166 93 G' (sn'.map (·.2)) FSq' ∧ ∀ d', Sp.SnapTake d name = some d' → L' = d'.store ∧ d'.tree = d.tree ∧ SnOK sn' d'.snaps)) := by
 have H : Hp w0 G0 (fps [blk db (cl [.int .i32 0, .int .u32 0, .map (some mb), .pointer (some ⟨T.b, 0, none⟩), sv] 147), blk mb (.map es ck), frag FT, acc 151 2 sv sn.length c, frag FSq]) w0 G0 [blk db (cl [.int .i32 0, .int .u32 0, .map (some mb), .pointer (some ⟨T.b, 0, none⟩), sv] 147), blk mb (.map es ck), frag FT, acc 151 2 sv sn.length c, frag FSq] := hLent.hp
 obtain ⟨adv, cdv, rfl⟩ := H.accShape (k := 3) rfl; have hVd := Sp.valid_iff.1 (Sp.dv_parts.1 hdv).1; have hTv := (Sp.dv_parts.1 hdv).2.1; have hTc := hT.cnt; have hTl := Sp.tree_len hTv; have hsnl := hSn.len; have hsn6 := (Sp.dv_parts.1 hdv).2.2.1
 refine calls_of_WD (l := [.pointer (some ⟨db, 0, none⟩), str name]) func84 Z ntmps84 Z (q2 (aG Z (q1 (mV Z (o_nilCheck Z Z (o_fieldAddr 0 runUnderlying147 Z sizeOf144 Z Z Z (o_lock 0 H muLib Z call115 Z Z Z Z ?_))))))); intro w1 H
 refine q1 (mV Z (o_nilCheck Z Z (o_fieldAddr 0 runUnderlying147 Z sizeOf144 Z Z Z (o_defer Z (q3 (W_seq (q2 (mV Z (o_call call141 Z Z (i_partValid_c _ _ hname ) ?_)))))))))
 rintro _ w2 ⟨rfl, ew2⟩; have H := H.step ew2; refine ⟨_, rfl, ?_⟩
 refine o_not Z Z (mV Z ?_)
 refine R_case (t := 15) Z ?_ ?_
 ·intro hc3
  try simp only [nrm] at hc3
  refine rP Z (rP Z (rP Z (rP Z (o_pick_t Z Z Z (mV Z (rP Z (rP Z (rP Z (rP Z (rP Z (rP Z (o_pick_t Z Z Z (q3 (W_true Z (q2 ?_)))))))))))))))
  refine aG Z (q3 (W_ret (N_K_ret (ret_unlock 0 H muLib Z call116 Z Z (rs := [.tmp 4]) results84 ?_)))); intro wu1 H
  refine ⟨[_], ⟨Z, trivial⟩, ?_⟩
  have H := H.toFront (k := 4) rfl
  have H := H.toFront (k := 4) rfl
  have H := H.toFront (k := 4) rfl
  have H := H.toFront (k := 4) rfl
  have H := H.toFront (k := 4) rfl
  have hno : Sp.SnapTake d name = none := take_no (fun hh => by have := hh.1; simp_all)
  exact H.retM ⟨_, _, _, _, _, sn, _, _, d.store, by (rw [hno]; rfl), rfl, hm, hS, hVd, hN, hchk, hNs, fun d2 h => by rw [hno] at h; cases h⟩
 intro hc3'
 try simp only [nrm] at hc3'
 refine gR Z (mV Z (gR Z (mV Z (gR Z (o_call call117 Z Z (i_snapAt_c _ _ (H.lendSubL [0, 3]) _ _ _ _ _ _ _ (prow_blk (H.lendPredL (k := 0) (ks := [0, 3]) Z Z)) (H.lendRdL (k := 3) (ks := [0, 3]) Z Z hchk aN aN) _ hname ) ?_)))))
 rintro _ w4 ⟨rfl, ew4⟩; have H := H.step ew4; refine ⟨_, rfl, ?_⟩
 refine gR Z (o_geq Z Z Z (o_pick_f Z Z Z (mV Z ?_)))
 refine R_case (t := 21) Z ?_ ?_
 ·intro hc5
  try simp only [nrm] at hc5
  refine rP Z (rP Z (rP Z (rP Z (rP Z (rP Z (o_pick_t Z Z Z (q3 (W_true Z (q2 (aG Z (q3 (W_ret (N_K_ret (ret_unlock 0 H muLib Z call116 Z Z (rs := [.tmp 4]) results84 ?_)))))))))))))); intro wu2 H
  refine ⟨[_], ⟨Z, trivial⟩, ?_⟩
  have H := H.toFront (k := 4) rfl
  have H := H.toFront (k := 4) rfl
  have H := H.toFront (k := 4) rfl
  have H := H.toFront (k := 4) rfl
  have H := H.toFront (k := 4) rfl
  have hno : Sp.SnapTake d name = none := take_no (fun hh => by have h8 := hh.2.1; (rw [← Sp.sn_find hSn, ← optI_neg] at h8); omega)
  exact H.retM ⟨_, _, _, _, _, sn, _, _, d.store, by (rw [hno]; rfl), rfl, hm, hS, hVd, hN, hchk, hNs, fun d2 h => by rw [hno] at h; cases h⟩
 intro hc5'
 try simp only [nrm] at hc5'
 refine gR Z (mV Z (gR Z (o_nilCheck Z Z (gR Z (o_fieldAddr 4 runUnderlying147 Z sizeOf145 Z Z Z (gR Z (o_load_B 0 H isAgg145 Z Z Z Z (gR Z (o_len_slice underlying145 Z Z (gR Z (o_geq Z Z Z (o_pick_f Z Z Z (q3 ?_)))))))))))))
 refine W_cond Z ?_ ?_
 ·intro hc6
  try simp only [nrm] at hc6
  refine q2 (aG Z (q3 (W_ret (N_K_ret (ret_unlock 0 H muLib Z call116 Z Z (rs := [.tmp 4]) results84 ?_))))); intro wu3 H
  refine ⟨[_], ⟨Z, trivial⟩, ?_⟩
  have H := H.toFront (k := 4) rfl
  have H := H.toFront (k := 4) rfl
  have H := H.toFront (k := 4) rfl
  have H := H.toFront (k := 4) rfl
  have H := H.toFront (k := 4) rfl
  have hno : Sp.SnapTake d name = none := take_no (fun hh => by have := hh.2.2; omega)
  exact H.retM ⟨_, _, _, _, _, sn, _, _, d.store, by (rw [hno]; rfl), rfl, hm, hS, hVd, hN, hchk, hNs, fun d2 h => by rw [hno] at h; cases h⟩
 intro hc6'
 try simp only [nrm] at hc6'
 refine W_skip (N_K (W_seq (W_drawK [] 18 H kR Z ?_))); intro w7 H; have hd7 := PLe.refl G0
 refine vM 0 Z Z (vM 1 Z Z (RD_t 2 Z kR Z (fun _ hK => v_nilCheck Z) (RD_t 3 Z kR Z (fun _ hK => v_fieldAddr 4 runUnderlying147 Z sizeOf145 Z Z) (vM 5 Z Z (vM 6 Z Z (RD_t 7 Z kR Z (fun _ hK => v_nilCheck Z) (RD_t 8 Z kR Z (fun _ hK => v_fieldAddr 2 runUnderlying147 Z sizeOf95 Z Z) (RD_t 9 Z kR Z (fun _ hK => v_fieldAddr 1 runUnderlying95 Z sizeOf93 Z Z) ?_))))))))
 refine RD_run [4, 10] kR Z (RDs.cons Z ?_ (RDs.cons Z ?_ RDs.nil))
 ·skip
  refine o_load_B 0 H isAgg145 Z Z Z Z (R_nil (N_DK (Kn.of' H hd7 SubL.nil) ?_))
  refine RD_run [10] kR Z (RDs.cons Z ?_ RDs.nil)
  refine o_load_B 0 H isAgg93 Z Z Z Z (R_nil (N_DK (Kn.of' H hd7 SubL.nil) ?_))
  refine RD_run [11] kR Z (RDs.cons Z ?_ RDs.nil)
  refine o_call call142 Z Z (i_clone_c _ _ (H.lendSubL [2]) _ ((H.lendN (k := 2) (ks := [2]) Z Z hN).at (show Nd.at_ T [] = some T from Z)) oM) ?_
  rintro _ w8 ⟨_, _, rfl, H8', ⟨F8, T8, rfl, rfl, hNC8, hst8⟩⟩
  have H := H.readersL H8'
  refine ⟨_, Z, ?_⟩
  obtain ⟨Gs4, Fc4, H, hsl4, hNc4⟩ := Hp.shareC H hNC8 (H.apart (k := 0) (ks := [1, 2, 3, 4, 5]) rfl rfl (by intro b hb; simp only [fps, List.flatMap_cons, List.flatMap_nil, List.append_nil, List.mem_append] at hb; rcases hb with h | h | h | h | h; (· exact fpsAt_mem (k := 1) rfl rfl b (by exact h)); (· exact fpsAt_mem (k := 2) rfl rfl b (by exact h)); (· exact fpsAt_mem (k := 3) rfl rfl b (by exact h)); (· exact fpsAt_mem (k := 4) rfl rfl b (by exact h)); (· exact fpsAt_mem (k := 5) rfl rfl b (by exact h))))
  have hS := hS.up hsl4
  have hN := hN.up hsl4
  have hchk := hchk.up hsl4
  have hNs := hNs.up hsl4
  have hd7 := hd7.trans hsl4
  refine R_nil (N_DK (Kn.of' H hd7 SubL.nil) (RD_t 12 Z kR Z (fun _ hK => v_build bf151 Z Z) ?_))
  refine RD_run [13] kR Z (RDs.cons Z ?_ RDs.nil)
  refine o_buildSlice H underlying145 sizeOf151 (fun w => ⟨_, zeroValue151 w, Z⟩) Z Z Z Z Z Z Z ?_; intro b9 w9 hb9 H
  refine R_nil (N_DK (Kn.of' H hd7 SubL.nil) ?_)
  refine RD_run [14] kR Z (RDs.cons Z ?_ RDs.nil)
  refine o_append1 4 H (sz := 2) (bytes := 24) underlying145 typeInfo151 ⟨_, Z, Z⟩ Z Z Z Z Z Z Z Z Z Z oM Z ?_; intro v10 w10 H
  have hchk10 := hchk.snoc (show osE _ (name, T8) _ from ⟨rfl, hname⟩) rfl
  obtain ⟨av10, cv10, rfl⟩ := H.accShape (k := 4) rfl
  refine R_nil (N_DK (Kn.of' H hd7 SubL.nil) (RD_t 15 Z kR Z (fun _ hK => v_nilCheck Z) (RD_t 16 Z kR Z (fun _ hK => v_fieldAddr 4 runUnderlying147 Z sizeOf145 Z Z) ?_)))
  refine RD_run [17] kR Z (RDs.cons Z ?_ RDs.nil)
  have H := H.toFront (k := 5) rfl
  have H := H.mergeF
  refine o_store_B 1 H sizeOf145 Z Z Z Z Z Z Z Z ?_; intro w11 H
  refine R_nil (N_DK (Kn.of' H hd7 SubL.nil) (RD_done kR (N_K (W_seq (W_drawK [1] 12 H kR Z ?_))))); intro w12 H; have hd12 := PLe.refl Gs4
  refine vM 0 Z Z (RD_t 1 Z kR Z (fun _ hK => v_nilCheck Z) (RD_t 2 Z kR Z (fun _ hK => v_fieldAddr 2 runUnderlying147 Z sizeOf95 Z Z) (RD_t 3 Z kR Z (fun _ hK => v_fieldAddr 0 runUnderlying95 Z sizeOf92 Z Z) (RD_t 4 Z kR Z (fun _ hK => v_load_B 0 hK isAgg92 Z Z Z) (vM 5 Z Z (RD_t 6 Z kR Z (fun _ hK => v_nilCheck Z) (RD_t 7 Z kR Z (fun _ hK => v_fieldAddr 2 runUnderlying147 Z sizeOf95 Z Z) (RD_t 8 Z kR Z (fun _ hK => v_fieldAddr 1 runUnderlying95 Z sizeOf93 Z Z) (RD_t 9 Z kR Z (fun _ hK => v_load_B 0 hK isAgg93 Z Z Z) ?_)))))))))
  refine RD_run [10] kR Z (RDs.cons Z ?_ RDs.nil)
  have H := H.toFront (k := 3) rfl
  have H := H.toFront (k := 3) rfl
  refine o_call call143 Z Z (i_keepTree_c _ _ H.sub _ _ _ _ _ hm hS hVd _ _ hN H.lent2 hT.wf oM) ?_
  rintro _ w13 ⟨G13, _, _, rfl, H13', ⟨es13, ck13, xs13, L13, rfl, rfl, hm13, hS13, hV13, hL13⟩⟩
  have hN := hN.up H13'.le
  have hNs := hNs.up H13'.le
  have hNc4 := hNc4.up H13'.le
  have hchk10 := hchk10.up H13'.le
  have hd12 := hd12.trans H13'.le
  have H := H.borrow2 H13'
  refine ⟨_, Z, ?_⟩
  refine R_nil (N_DK (Kn.of' H hd12 (SubL.cons 3 Z SubL.nil)) (RD_t 11 Z kR Z (fun _ hK => v_assign Z) (RD_done kR (N_K (W_ret (ret_unlock 3 H muLib Z call116 Z Z (rs := [.tmp 4]) results84 ?_)))))); intro wu5 H
  refine ⟨[_], ⟨Z, trivial⟩, ?_⟩
  have H := H.toFront (k := 2) rfl
  have H := H.toFront (k := 4) rfl
  have H := H.toFront (k := 3) rfl
  have H := H.toFront (k := 3) rfl
  have H := H.toFront (k := 4) rfl
  have htk := take_eq hdv (by simpa using hc3') (optI_neg.1 (by (rw [← Sp.sn_find hSn]; omega))) (by omega : d.snaps.length ≠ 6)
  have hfl := hT.flat
  have hln : sn.length + 1 = (sn ++ [(name, T8)]).length := by simp
  rw [hln] at H
  exact H.retM ⟨_, _, _, _, _, sn ++ [(name, T8)], _, _, L13, congrArg Value.bool (by (rw [htk, hfl, Option.isSome_map])), rfl, hm13, hS13, hV13, hN, hchk10, by (rw [List.map_append]; exact hNs.snoc hNc4), fun d2 h => (by (rw [htk] at h); obtain ⟨s2, h2, rfl⟩ := Option.map_eq_some_iff.1 h; exact ⟨hL13 s2 (by (rw [hfl]; exact h2)), rfl, All2.push hSn rfl (hT.strip hst8) hTv⟩)⟩
 skip
 refine o_load_B 0 H isAgg93 Z Z Z Z (R_nil (N_DK (Kn.of' H hd7 SubL.nil) ?_))
 refine RD_run [4, 11] kR Z (RDs.cons Z ?_ (RDs.cons Z ?_ RDs.nil))
 ·skip
  refine o_load_B 0 H isAgg145 Z Z Z Z (R_nil (N_DK (Kn.of' H hd7 SubL.nil) ?_))
  refine RD_run [11] kR Z (RDs.cons Z ?_ RDs.nil)
  refine o_call call142 Z Z (i_clone_c _ _ (H.lendSubL [2]) _ ((H.lendN (k := 2) (ks := [2]) Z Z hN).at (show Nd.at_ T [] = some T from Z)) oM) ?_
  rintro _ w14 ⟨_, _, rfl, H14', ⟨F14, T14, rfl, rfl, hNC14, hst14⟩⟩
  have H := H.readersL H14'
  refine ⟨_, Z, ?_⟩
  obtain ⟨Gs6, Fc6, H, hsl6, hNc6⟩ := Hp.shareC H hNC14 (H.apart (k := 0) (ks := [1, 2, 3, 4, 5]) rfl rfl (by intro b hb; simp only [fps, List.flatMap_cons, List.flatMap_nil, List.append_nil, List.mem_append] at hb; rcases hb with h | h | h | h | h; (· exact fpsAt_mem (k := 1) rfl rfl b (by exact h)); (· exact fpsAt_mem (k := 2) rfl rfl b (by exact h)); (· exact fpsAt_mem (k := 3) rfl rfl b (by exact h)); (· exact fpsAt_mem (k := 4) rfl rfl b (by exact h)); (· exact fpsAt_mem (k := 5) rfl rfl b (by exact h))))
  have hS := hS.up hsl6
  have hN := hN.up hsl6
  have hchk := hchk.up hsl6
  have hNs := hNs.up hsl6
  have hd7 := hd7.trans hsl6
  refine R_nil (N_DK (Kn.of' H hd7 SubL.nil) (RD_t 12 Z kR Z (fun _ hK => v_build bf151 Z Z) ?_))
  refine RD_run [13] kR Z (RDs.cons Z ?_ RDs.nil)
  refine o_buildSlice H underlying145 sizeOf151 (fun w => ⟨_, zeroValue151 w, Z⟩) Z Z Z Z Z Z Z ?_; intro b15 w15 hb15 H
  refine R_nil (N_DK (Kn.of' H hd7 SubL.nil) ?_)
  refine RD_run [14] kR Z (RDs.cons Z ?_ RDs.nil)
  refine o_append1 4 H (sz := 2) (bytes := 24) underlying145 typeInfo151 ⟨_, Z, Z⟩ Z Z Z Z Z Z Z Z Z Z oM Z ?_; intro v16 w16 H
  have hchk16 := hchk.snoc (show osE _ (name, T14) _ from ⟨rfl, hname⟩) rfl
  obtain ⟨av16, cv16, rfl⟩ := H.accShape (k := 4) rfl
  refine R_nil (N_DK (Kn.of' H hd7 SubL.nil) (RD_t 15 Z kR Z (fun _ hK => v_nilCheck Z) (RD_t 16 Z kR Z (fun _ hK => v_fieldAddr 4 runUnderlying147 Z sizeOf145 Z Z) ?_)))
  refine RD_run [17] kR Z (RDs.cons Z ?_ RDs.nil)
  have H := H.toFront (k := 5) rfl
  have H := H.mergeF
  refine o_store_B 1 H sizeOf145 Z Z Z Z Z Z Z Z ?_; intro w17 H
  refine R_nil (N_DK (Kn.of' H hd7 SubL.nil) (RD_done kR (N_K (W_seq (W_drawK [1] 12 H kR Z ?_))))); intro w18 H; have hd18 := PLe.refl Gs6
  refine vM 0 Z Z (RD_t 1 Z kR Z (fun _ hK => v_nilCheck Z) (RD_t 2 Z kR Z (fun _ hK => v_fieldAddr 2 runUnderlying147 Z sizeOf95 Z Z) (RD_t 3 Z kR Z (fun _ hK => v_fieldAddr 0 runUnderlying95 Z sizeOf92 Z Z) (RD_t 4 Z kR Z (fun _ hK => v_load_B 0 hK isAgg92 Z Z Z) (vM 5 Z Z (RD_t 6 Z kR Z (fun _ hK => v_nilCheck Z) (RD_t 7 Z kR Z (fun _ hK => v_fieldAddr 2 runUnderlying147 Z sizeOf95 Z Z) (RD_t 8 Z kR Z (fun _ hK => v_fieldAddr 1 runUnderlying95 Z sizeOf93 Z Z) (RD_t 9 Z kR Z (fun _ hK => v_load_B 0 hK isAgg93 Z Z Z) ?_)))))))))
  refine RD_run [10] kR Z (RDs.cons Z ?_ RDs.nil)
  have H := H.toFront (k := 3) rfl
  have H := H.toFront (k := 3) rfl
  refine o_call call143 Z Z (i_keepTree_c _ _ H.sub _ _ _ _ _ hm hS hVd _ _ hN H.lent2 hT.wf oM) ?_
  rintro _ w19 ⟨G19, _, _, rfl, H19', ⟨es19, ck19, xs19, L19, rfl, rfl, hm19, hS19, hV19, hL19⟩⟩
  have hN := hN.up H19'.le
  have hNs := hNs.up H19'.le
  have hNc6 := hNc6.up H19'.le
  have hchk16 := hchk16.up H19'.le
  have hd18 := hd18.trans H19'.le
  have H := H.borrow2 H19'
  refine ⟨_, Z, ?_⟩
  refine R_nil (N_DK (Kn.of' H hd18 (SubL.cons 3 Z SubL.nil)) (RD_t 11 Z kR Z (fun _ hK => v_assign Z) (RD_done kR (N_K (W_ret (ret_unlock 3 H muLib Z call116 Z Z (rs := [.tmp 4]) results84 ?_)))))); intro wu7 H
  refine ⟨[_], ⟨Z, trivial⟩, ?_⟩
  have H := H.toFront (k := 2) rfl
  have H := H.toFront (k := 4) rfl
  have H := H.toFront (k := 3) rfl
  have H := H.toFront (k := 3) rfl
  have H := H.toFront (k := 4) rfl
  have htk := take_eq hdv (by simpa using hc3') (optI_neg.1 (by (rw [← Sp.sn_find hSn]; omega))) (by omega : d.snaps.length ≠ 6)
  have hfl := hT.flat
  have hln : sn.length + 1 = (sn ++ [(name, T14)]).length := by simp
  rw [hln] at H
  exact H.retM ⟨_, _, _, _, _, sn ++ [(name, T14)], _, _, L19, congrArg Value.bool (by (rw [htk, hfl, Option.isSome_map])), rfl, hm19, hS19, hV19, hN, hchk16, by (rw [List.map_append]; exact hNs.snoc hNc6), fun d2 h => (by (rw [htk] at h); obtain ⟨s2, h2, rfl⟩ := Option.map_eq_some_iff.1 h; exact ⟨hL19 s2 (by (rw [hfl]; exact h2)), rfl, All2.push hSn rfl (hT.strip hst14) hTv⟩)⟩
 skip
 refine o_call call142 Z Z (i_clone_c _ _ (H.lendSubL [2]) _ ((H.lendN (k := 2) (ks := [2]) Z Z hN).at (show Nd.at_ T [] = some T from Z)) oM) ?_
 rintro _ w20 ⟨_, _, rfl, H20', ⟨F20, T20, rfl, rfl, hNC20, hst20⟩⟩
 have H := H.readersL H20'
 refine ⟨_, Z, ?_⟩
 obtain ⟨Gs8, Fc8, H, hsl8, hNc8⟩ := Hp.shareC H hNC20 (H.apart (k := 0) (ks := [1, 2, 3, 4, 5]) rfl rfl (by intro b hb; simp only [fps, List.flatMap_cons, List.flatMap_nil, List.append_nil, List.mem_append] at hb; rcases hb with h | h | h | h | h; (· exact fpsAt_mem (k := 1) rfl rfl b (by exact h)); (· exact fpsAt_mem (k := 2) rfl rfl b (by exact h)); (· exact fpsAt_mem (k := 3) rfl rfl b (by exact h)); (· exact fpsAt_mem (k := 4) rfl rfl b (by exact h)); (· exact fpsAt_mem (k := 5) rfl rfl b (by exact h))))
 have hS := hS.up hsl8
 have hN := hN.up hsl8
 have hchk := hchk.up hsl8
 have hNs := hNs.up hsl8
 have hd7 := hd7.trans hsl8
 refine R_nil (N_DK (Kn.of' H hd7 SubL.nil) (RD_t 12 Z kR Z (fun _ hK => v_build bf151 Z Z) ?_))
 refine RD_run [4, 13] kR Z (RDs.cons Z ?_ (RDs.cons Z ?_ RDs.nil))
 ·skip
  refine o_load_B 1 H isAgg145 Z Z Z Z (R_nil (N_DK (Kn.of' H hd7 SubL.nil) ?_))
  refine RD_run [13] kR Z (RDs.cons Z ?_ RDs.nil)
  refine o_buildSlice H underlying145 sizeOf151 (fun w => ⟨_, zeroValue151 w, Z⟩) Z Z Z Z Z Z Z ?_; intro b21 w21 hb21 H
  refine R_nil (N_DK (Kn.of' H hd7 SubL.nil) ?_)
  refine RD_run [14] kR Z (RDs.cons Z ?_ RDs.nil)
  refine o_append1 4 H (sz := 2) (bytes := 24) underlying145 typeInfo151 ⟨_, Z, Z⟩ Z Z Z Z Z Z Z Z Z Z oM Z ?_; intro v22 w22 H
  have hchk22 := hchk.snoc (show osE _ (name, T20) _ from ⟨rfl, hname⟩) rfl
  obtain ⟨av22, cv22, rfl⟩ := H.accShape (k := 4) rfl
  refine R_nil (N_DK (Kn.of' H hd7 SubL.nil) (RD_t 15 Z kR Z (fun _ hK => v_nilCheck Z) (RD_t 16 Z kR Z (fun _ hK => v_fieldAddr 4 runUnderlying147 Z sizeOf145 Z Z) ?_)))
  refine RD_run [17] kR Z (RDs.cons Z ?_ RDs.nil)
  have H := H.toFront (k := 5) rfl
  have H := H.mergeF
  refine o_store_B 1 H sizeOf145 Z Z Z Z Z Z Z Z ?_; intro w23 H
  refine R_nil (N_DK (Kn.of' H hd7 SubL.nil) (RD_done kR (N_K (W_seq (W_drawK [1] 12 H kR Z ?_))))); intro w24 H; have hd24 := PLe.refl Gs8
  refine vM 0 Z Z (RD_t 1 Z kR Z (fun _ hK => v_nilCheck Z) (RD_t 2 Z kR Z (fun _ hK => v_fieldAddr 2 runUnderlying147 Z sizeOf95 Z Z) (RD_t 3 Z kR Z (fun _ hK => v_fieldAddr 0 runUnderlying95 Z sizeOf92 Z Z) (RD_t 4 Z kR Z (fun _ hK => v_load_B 0 hK isAgg92 Z Z Z) (vM 5 Z Z (RD_t 6 Z kR Z (fun _ hK => v_nilCheck Z) (RD_t 7 Z kR Z (fun _ hK => v_fieldAddr 2 runUnderlying147 Z sizeOf95 Z Z) (RD_t 8 Z kR Z (fun _ hK => v_fieldAddr 1 runUnderlying95 Z sizeOf93 Z Z) (RD_t 9 Z kR Z (fun _ hK => v_load_B 0 hK isAgg93 Z Z Z) ?_)))))))))
  refine RD_run [10] kR Z (RDs.cons Z ?_ RDs.nil)
  have H := H.toFront (k := 3) rfl
  have H := H.toFront (k := 3) rfl
  refine o_call call143 Z Z (i_keepTree_c _ _ H.sub _ _ _ _ _ hm hS hVd _ _ hN H.lent2 hT.wf oM) ?_
  rintro _ w25 ⟨G25, _, _, rfl, H25', ⟨es25, ck25, xs25, L25, rfl, rfl, hm25, hS25, hV25, hL25⟩⟩
  have hN := hN.up H25'.le
  have hNs := hNs.up H25'.le
  have hNc8 := hNc8.up H25'.le
  have hchk22 := hchk22.up H25'.le
  have hd24 := hd24.trans H25'.le
  have H := H.borrow2 H25'
  refine ⟨_, Z, ?_⟩
  refine R_nil (N_DK (Kn.of' H hd24 (SubL.cons 3 Z SubL.nil)) (RD_t 11 Z kR Z (fun _ hK => v_assign Z) (RD_done kR (N_K (W_ret (ret_unlock 3 H muLib Z call116 Z Z (rs := [.tmp 4]) results84 ?_)))))); intro wu9 H
  refine ⟨[_], ⟨Z, trivial⟩, ?_⟩
  have H := H.toFront (k := 2) rfl
  have H := H.toFront (k := 4) rfl
  have H := H.toFront (k := 3) rfl
  have H := H.toFront (k := 3) rfl
  have H := H.toFront (k := 4) rfl
  have htk := take_eq hdv (by simpa using hc3') (optI_neg.1 (by (rw [← Sp.sn_find hSn]; omega))) (by omega : d.snaps.length ≠ 6)
  have hfl := hT.flat
  have hln : sn.length + 1 = (sn ++ [(name, T20)]).length := by simp
  rw [hln] at H
  exact H.retM ⟨_, _, _, _, _, sn ++ [(name, T20)], _, _, L25, congrArg Value.bool (by (rw [htk, hfl, Option.isSome_map])), rfl, hm25, hS25, hV25, hN, hchk22, by (rw [List.map_append]; exact hNs.snoc hNc8), fun d2 h => (by (rw [htk] at h); obtain ⟨s2, h2, rfl⟩ := Option.map_eq_some_iff.1 h; exact ⟨hL25 s2 (by (rw [hfl]; exact h2)), rfl, All2.push hSn rfl (hT.strip hst20) hTv⟩)⟩
 skip
 refine o_buildSlice H underlying145 sizeOf151 (fun w => ⟨_, zeroValue151 w, Z⟩) Z Z Z Z Z Z Z ?_; intro b26 w26 hb26 H
 refine R_nil (N_DK (Kn.of' H hd7 SubL.nil) ?_)
 refine RD_run [4] kR Z (RDs.cons Z ?_ RDs.nil)
 refine o_load_B 2 H isAgg145 Z Z Z Z (R_nil (N_DK (Kn.of' H hd7 SubL.nil) ?_))
 refine RD_run [14] kR Z (RDs.cons Z ?_ RDs.nil)
 refine o_append1 4 H (sz := 2) (bytes := 24) underlying145 typeInfo151 ⟨_, Z, Z⟩ Z Z Z Z Z Z Z Z Z Z oM Z ?_; intro v27 w27 H
 have hchk27 := hchk.snoc (show osE _ (name, T20) _ from ⟨rfl, hname⟩) rfl
 obtain ⟨av27, cv27, rfl⟩ := H.accShape (k := 4) rfl
 refine R_nil (N_DK (Kn.of' H hd7 SubL.nil) (RD_t 15 Z kR Z (fun _ hK => v_nilCheck Z) (RD_t 16 Z kR Z (fun _ hK => v_fieldAddr 4 runUnderlying147 Z sizeOf145 Z Z) ?_)))
 refine RD_run [17] kR Z (RDs.cons Z ?_ RDs.nil)
 have H := H.toFront (k := 5) rfl
 have H := H.mergeF
 refine o_store_B 1 H sizeOf145 Z Z Z Z Z Z Z Z ?_; intro w28 H
 refine R_nil (N_DK (Kn.of' H hd7 SubL.nil) (RD_done kR (N_K (W_seq (W_drawK [1] 12 H kR Z ?_))))); intro w29 H; have hd29 := PLe.refl Gs8
 refine vM 0 Z Z (RD_t 1 Z kR Z (fun _ hK => v_nilCheck Z) (RD_t 2 Z kR Z (fun _ hK => v_fieldAddr 2 runUnderlying147 Z sizeOf95 Z Z) (RD_t 3 Z kR Z (fun _ hK => v_fieldAddr 0 runUnderlying95 Z sizeOf92 Z Z) (RD_t 4 Z kR Z (fun _ hK => v_load_B 0 hK isAgg92 Z Z Z) (vM 5 Z Z (RD_t 6 Z kR Z (fun _ hK => v_nilCheck Z) (RD_t 7 Z kR Z (fun _ hK => v_fieldAddr 2 runUnderlying147 Z sizeOf95 Z Z) (RD_t 8 Z kR Z (fun _ hK => v_fieldAddr 1 runUnderlying95 Z sizeOf93 Z Z) (RD_t 9 Z kR Z (fun _ hK => v_load_B 0 hK isAgg93 Z Z Z) ?_)))))))))
 refine RD_run [10] kR Z (RDs.cons Z ?_ RDs.nil)
 have H := H.toFront (k := 3) rfl
 have H := H.toFront (k := 3) rfl
 refine o_call call143 Z Z (i_keepTree_c _ _ H.sub _ _ _ _ _ hm hS hVd _ _ hN H.lent2 hT.wf oM) ?_
 rintro _ w30 ⟨G30, _, _, rfl, H30', ⟨es30, ck30, xs30, L30, rfl, rfl, hm30, hS30, hV30, hL30⟩⟩
 have hN := hN.up H30'.le
 have hNs := hNs.up H30'.le
 have hNc8 := hNc8.up H30'.le
 have hchk27 := hchk27.up H30'.le
 have hd29 := hd29.trans H30'.le
 have H := H.borrow2 H30'
 refine ⟨_, Z, ?_⟩
 refine R_nil (N_DK (Kn.of' H hd29 (SubL.cons 3 Z SubL.nil)) (RD_t 11 Z kR Z (fun _ hK => v_assign Z) (RD_done kR (N_K (W_ret (ret_unlock 3 H muLib Z call116 Z Z (rs := [.tmp 4]) results84 ?_)))))); intro wu10 H
 refine ⟨[_], ⟨Z, trivial⟩, ?_⟩
 have H := H.toFront (k := 2) rfl
 have H := H.toFront (k := 4) rfl
 have H := H.toFront (k := 3) rfl
 have H := H.toFront (k := 3) rfl
 have H := H.toFront (k := 4) rfl
 have htk := take_eq hdv (by simpa using hc3') (optI_neg.1 (by (rw [← Sp.sn_find hSn]; omega))) (by omega : d.snaps.length ≠ 6)
 have hfl := hT.flat
 have hln : sn.length + 1 = (sn ++ [(name, T20)]).length := by simp
 rw [hln] at H
 exact H.retM ⟨_, _, _, _, _, sn ++ [(name, T20)], _, _, L30, congrArg Value.bool (by (rw [htk, hfl, Option.isSome_map])), rfl, hm30, hS30, hV30, hN, hchk27, by (rw [List.map_append]; exact hNs.snoc hNc8), fun d2 h => (by (rw [htk] at h); obtain ⟨s2, h2, rfl⟩ := Option.map_eq_some_iff.1 h; exact ⟨hL30 s2 (by (rw [hfl]; exact h2)), rfl, All2.push hSn rfl (hT.strip hst20) hTv⟩)⟩
end Go.Proofs.Tst

namespace Go.Proofs.Tst
open Go Fw Tryz
theorem i_SnapTake1_c (w0 : World) (G0 : PH) (hG : PSub G0 w0) (db mb : Nat) (es : Array MapEntry) (ck : Nat) (xs : List (Int × Value)) (T : Nd) (FT : Fr) (sv : Value) (sn : List (Bs × Nd)) (c : List Value) (FSq : Fr) (d : BDisk) (hm : MapIs (Value.int .i64) es ck xs) (hS : StR G0 xs d.store) (hN : NdO 166 93 G0 T FT) (hT : Nd.TOK T d.tree) (hchk : Chk osE 2 G0 c sn) (hNs : NdsO 166 93 G0 (sn.map (·.2)) FSq) (hSn : SnOK sn d.snaps) (hdv : Sp.DiskValid d = true) (cp : Nat) (name : Bs) (hname : name.length ≤ 16777216) (hcp : PRow G0 cp 0 [str name]) (hLent : Lent w0 G0 [blk db (cl [.int .i32 0, .int .u32 0, .map (some mb), .pointer (some ⟨T.b, 0, none⟩), sv] 147), blk mb (.map es ck), frag FT, acc 151 2 sv sn.length c, frag FSq])  :
  Calls Tryz.prog 83 #[.pointer (some ⟨db, 0, none⟩), .pointer (some ⟨cp, 0, none⟩)] w0 (RetM w0 G0 (fps [blk db (cl [.int .i32 0, .int .u32 0, .map (some mb), .pointer (some ⟨T.b, 0, none⟩), sv] 147), blk mb (.map es ck), frag FT, acc 151 2 sv sn.length c, frag FSq]) (fun G' v Bs => ∃ (es' : Array MapEntry) (ck' : Nat) (xs' : List (Int × Value)) (F' : Fr) (sv' : Value) (sn' : List (Fw.Bs × Nd)) (c' : List Value) (FSq' : Fr) (L' : List BHeld), v = .bool (Sp.SnapTake d name).isSome ∧ Bs = [blk db (cl [.int .i32 0, .int .u32 0, .map (some mb), .pointer (some ⟨T.b, 0, none⟩), sv'] 147), blk mb (.map es' ck'), frag F', acc 151 2 sv' sn'.length c', frag FSq'] ∧ MapIs (Value.int .i64) es' ck' xs' ∧ StR G' xs' L' ∧ Sp.VH L' ∧ NdO 166 93 G' T F' ∧ Chk osE 2 G' c' sn' ∧ NdsO 166 93 G' (sn'.map (·.2)) FSq' ∧ ∀ d', Sp.SnapTake d name = some d' → L' = d'.store ∧ d'.tree = d.tree ∧ SnOK sn' d'.snaps)) := by
 have H : Hp w0 G0 (fps [blk db (cl [.int .i32 0, .int .u32 0, .map (some mb), .pointer (some ⟨T.b, 0, none⟩), sv] 147), blk mb (.map es ck), frag FT, acc 151 2 sv sn.length c, frag FSq]) w0 G0 [blk db (cl [.int .i32 0, .int .u32 0, .map (some mb), .pointer (some ⟨T.b, 0, none⟩), sv] 147), blk mb (.map es ck), frag FT, acc 151 2 sv sn.length c, frag FSq] := hLent.hp
 obtain ⟨adv, cdv, rfl⟩ := H.accShape (k := 3) rfl; have hVd := Sp.valid_iff.1 (Sp.dv_parts.1 hdv).1; have hTv := (Sp.dv_parts.1 hdv).2.1; have hTc := hT.cnt; have hTl := Sp.tree_len hTv; have hsnl := hSn.len; have hsn6 := (Sp.dv_parts.1 hdv).2.2.1
 refine calls_of_W (l := [.pointer (some ⟨db, 0, none⟩), .pointer (some ⟨cp, 0, none⟩)]) func83 Z ntmps83 Z (q2 (aG Z (q1 (mV Z (o_load_P H isAgg9 Z Z (hcp 0 _ Z) ?_)))))
 have H := H.toFront (k := 4) rfl
 have H := H.toFront (k := 4) rfl
 have H := H.toFront (k := 4) rfl
 have H := H.toFront (k := 4) rfl
 have H := H.toFront (k := 4) rfl
 refine o_call call84 Z Z (i_take_c _ _ H.sub _ _ _ _ _ _ _ _ _ _ _ _ hm hS hN hT hchk hNs hSn hdv _ hname H.lent5 ) ?_
 rintro _ w1 ⟨G1, _, _, rfl, H1', ⟨es1, ck1, xs1, F1, sv1, sn1, c1, FS1, L1, rfl, rfl, hm1, hS1, hV1, hN1, hchk1, hNs1, hd1⟩⟩
 have H := H.borrow5 H1'
 obtain ⟨avAd, cvAd, rfl⟩ := H.accShape (k := 3) rfl
 refine ⟨_, Z, ?_⟩
 refine aG Z (q3 (W_ret (rt1 results83 Z ?_)))
 have H := H.toFront (k := 4) rfl
 have H := H.toFront (k := 4) rfl
 have H := H.toFront (k := 4) rfl
 have H := H.toFront (k := 4) rfl
 have H := H.toFront (k := 4) rfl
 exact H.retM ⟨_, _, _, _, _, _, _, _, _, Z, Z, hm1, hS1, hV1, hN1, hchk1, hNs1, hd1⟩
end Go.Proofs.Tst

namespace Go.Proofs.Tst
open Go Fw Tryz
theorem i_changed_take_c (w0 : World) (G0 : PH) (hG : PSub G0 w0) (cd : List Value) (d : BDisk) (hd : diskE G0 d cd) (cp : Nat) (name : Bs) (hname : name.length ≤ 16777216) (hcp : PRow G0 cp 0 [str name])  :
  Calls Tryz.prog 59 #[.agg cd.toArray, .func (.func 83) #[] #[.pointer (some ⟨cp, 0, none⟩)]] w0 (RetN w0 G0 (fun v Bs => ∃ (v1 v2 v3 : Value) (F1 F2 F3 : Fr), v = .tuple #[.agg #[v1, v2, v3], .bool (Sp.SnapTake d name).isSome] ∧ Bs = [frag F1, frag F2, frag F3] ∧ OHs F1 v1 ((Sp.SnapTake d name).getD ⟨[], [], []⟩).store ∧ OIs F2 v2 ((Sp.SnapTake d name).getD ⟨[], [], []⟩).tree ∧ OSn F3 v3 ((Sp.SnapTake d name).getD ⟨[], [], []⟩).snaps)) := by
 obtain ⟨a1, m1, c1, a1', m1', c1', a1'', m1'', c1'', rfl, hr1, hr1', hr1''⟩ := hd; have hn_hr1 := hr1.len; have hx_hr1 : _ ≤ 1099511627776 := hr1.lim; have hn_hr1q := hr1'.len; have hx_hr1q : _ ≤ 1099511627776 := hr1'.lim; have hn_hr1qq := hr1''.len; have hx_hr1qq : _ ≤ 1099511627776 := hr1''.lim
 have H := Hp.init hG
 refine calls_of_W (l := [_, .func (.func 83) #[] #[.pointer (some ⟨cp, 0, none⟩)]]) func59 Z ntmps59 Z (q2 (o_box H Z Z Z ?_)); intro b2 w2 hb2 H
 refine o_alloc H zeroValue32 Z Z ?_; intro b3 w3 hb3 H
 refine aG Z (q1 (o_loadagg_B 1 H isAgg32 sizeOf32 Z Z Z Z Z (o_call call89 Z Z (i_newDisk_c _ _ H.sub _ d ⟨_, _, _, _, _, _, _, _, _, Z, hr1, hr1', hr1''⟩ H.lent0 ) ?_)))
 rintro _ w4 ⟨G4, _, _, rfl, H4', ⟨rfl, rfl, hnd4⟩ | ⟨db4, mb4, es4, ck4, xs4, T4, F4, sv4, sn4, c4, FS4, rfl, rfl, hm4, hS4, hN4, hT4, hchk4, hNs4, hSn4, hdv4⟩⟩
 ·skip
  have H := H.borrow0 H4'
  refine ⟨_, Z, ?_⟩
  refine mV Z (o_extract Z Z Z (o_extract Z Z Z (aG Z (aG Z (q3 (W_seq (q2 (mV Z (o_not Z Z (mV Z (rP Z (rP Z (rP Z (rP Z (o_pick_t Z Z Z ?_)))))))))))))))
  refine q3 (W_true Z (q2 (o_build bf32 Z Z Z (o_store_B 0 H sizeOf32 Z Z Z Z Z Z Z Z ?_)))); intro w5 H
  refine aG Z (q3 (W_ret (N_K_ret (ret_gen (rs := [.cell 4 32, .tmp 5]) (vs := [_, _]) results59 ⟨⟨_, Z, load_blk 0 H isAgg32 sizeOf32 Z Z Z⟩, Z, trivial⟩ ?_))))
  have H := H.del (k := 0) rfl
  have H := H.del (k := 0) rfl
  have hno : Sp.SnapTake d name = none := by simp [Sp.SnapTake, hnd4]
  have H := (((H.addF).addF).addF).forget hG (by simp)
  refine ⟨_, _, Z, H, .slice none 0 0, .slice none 0 0, .slice none 0 0, [], [], [], ?_, Z, ?_, ?_, ?_⟩
  ·(rw [hno]; rfl)
  ·(rw [hno]; exact oh_nil)
  ·(rw [hno]; exact oi_nil)
  (rw [hno]; exact os_nil)
 skip
 have hcp := hcp.up H4'.le
 have H := H.borrow0 H4'
 obtain ⟨avAd, cvAd, rfl⟩ := H.accShape (k := 3) rfl
 refine ⟨_, Z, ?_⟩
 refine mV Z (o_extract Z Z Z (o_extract Z Z Z (aG Z (aG Z (q3 (W_seq (q2 (mV Z (o_not Z Z (mV Z (gR Z (mV Z (gR Z (mV Z (gR Z ?_)))))))))))))))
 have H := H.toFront (k := 4) rfl
 have H := H.toFront (k := 4) rfl
 have H := H.toFront (k := 4) rfl
 have H := H.toFront (k := 4) rfl
 have H := H.toFront (k := 4) rfl
 refine o_callc call83 Z Z Z (i_SnapTake1_c _ _ H.sub _ _ _ _ _ _ _ _ _ _ _ _ hm4 hS4 hN4 hT4 hchk4 hNs4 hSn4 hdv4 _ _ hname hcp H.lent5 ) ?_
 rintro _ w6 ⟨G6, _, _, rfl, H6', ⟨es6, ck6, xs6, F6, sv6, sn6, c6, FS6, L6, rfl, rfl, hm6, hS6, hV6, hN6, hchk6, hNs6, hd6⟩⟩
 have H := H.borrow5 H6'
 obtain ⟨avAd, cvAd, rfl⟩ := H.accShape (k := 3) rfl
 refine ⟨_, Z, ?_⟩
 refine gR Z (o_not Z Z (o_pick_f Z Z Z (q3 ?_)))
 refine W_cond Z ?_ ?_
 ·intro hc7
  try simp only [nrm] at hc7
  refine q2 (o_build bf32 Z Z Z (o_store_B 5 H sizeOf32 Z Z Z Z Z Z Z Z ?_)); intro w8 H
  refine aG Z (q3 (W_ret (N_K_ret (ret_gen (rs := [.cell 4 32, .tmp 5]) (vs := [_, _]) results59 ⟨⟨_, Z, load_blk 5 H isAgg32 sizeOf32 Z Z Z⟩, Z, trivial⟩ ?_))))
  have H := H.del (k := 0) rfl
  have H := H.del (k := 0) rfl
  have H := H.del (k := 0) rfl
  have H := H.del (k := 0) rfl
  have H := H.del (k := 0) rfl
  have H := H.del (k := 0) rfl
  have H := H.del (k := 0) rfl
  have hno : Sp.SnapTake d name = none := by simpa using hc7
  have H := (((H.addF).addF).addF).forget hG (by simp)
  refine ⟨_, _, Z, H, .slice none 0 0, .slice none 0 0, .slice none 0 0, [], [], [], ?_, Z, ?_, ?_, ?_⟩
  ·(rw [hno]; rfl)
  ·(rw [hno]; exact oh_nil)
  ·(rw [hno]; exact oi_nil)
  (rw [hno]; exact os_nil)
 intro hc7'
 try simp only [nrm] at hc7'
 obtain ⟨d2, hd2⟩ := Option.isSome_iff_exists.1 (show (Sp.SnapTake d name).isSome = true by simpa using hc7')
 obtain ⟨hL2, ht2, hsn2⟩ := hd6 d2 hd2; subst hL2
 have hT2 : Nd.TOK T4 d2.tree := by (rw [ht2]; exact hT4)
 refine W_skip (N_K (q2 (mV Z ?_)))
 have H := H.toFront (k := 4) rfl
 have H := H.toFront (k := 4) rfl
 have H := H.toFront (k := 4) rfl
 have H := H.toFront (k := 4) rfl
 have H := H.toFront (k := 4) rfl
 refine o_call call114 Z Z (i_disk_c _ _ H.sub _ _ _ _ _ _ _ _ _ _ _ _ hm6 hS6 hN6 hT2 hchk6 hNs6 hsn2 hV6 (take_len hdv4 hd2) H.lent5 ) ?_
 rintro _ w9 ⟨G9, _, _, rfl, H9', ⟨u19, u29, u39, D19, D29, D39, rfl, rfl, ho19, ho29, ho39⟩⟩
 have H := H.borrow5 H9'
 obtain ⟨x19, p19⟩ := ho19
 obtain ⟨a19, c19, rfl⟩ := OwnS.shape p19
 obtain ⟨x29, p29⟩ := ho29
 obtain ⟨a29, c29, rfl⟩ := OwnS.shape p29
 obtain ⟨x39, p39⟩ := ho39
 obtain ⟨a39, c39, rfl⟩ := OwnS.shape p39
 refine ⟨_, Z, ?_⟩
 refine o_store_B 3 H sizeOf32 Z Z Z Z Z Z Z Z ?_; intro w10 H
 refine aG Z (q3 (W_ret (ret_gen (rs := [.cell 4 32, .tmp 5]) (vs := [_, _]) results59 ⟨⟨_, Z, load_blk 3 H isAgg32 sizeOf32 Z Z Z⟩, Z, trivial⟩ ?_)))
 have H := H.del (k := 3) rfl
 have H := H.del (k := 3) rfl
 have H := H.toFront (k := 2) rfl
 have H := H.toFront (k := 2) rfl
 have H := H.toFront (k := 2) rfl
 have H := H.forget hG (by simp)
 refine ⟨_, _, Z, H, .slice a19 d2.store.length c19, .slice a29 d2.tree.length c29, .slice a39 d2.snaps.length c39, D19, D29, D39, ?_, Z, ?_, ?_, ?_⟩
 ·(rw [hd2]; rfl)
 ·(rw [hd2]; exact ⟨_, p19⟩)
 ·(rw [hd2]; exact ⟨_, p29⟩)
 (rw [hd2]; exact ⟨_, p39⟩)
end Go.Proofs.Tst

namespace Go.Proofs.Tst
open Go Fw Tryz
theorem i_SnapTake_c (w0 : World) (G0 : PH) (hG : PSub G0 w0) (cd : List Value) (d : BDisk) (hd : diskE G0 d cd) (name : Bs) (hname : name.length ≤ 16777216)  :
  Calls Tryz.prog 33 #[.agg cd.toArray, str name] w0 (RetN w0 G0 (fun v Bs => ∃ (v1 v2 v3 : Value) (F1 F2 F3 : Fr), v = .tuple #[.agg #[v1, v2, v3], .bool (Sp.SnapTake d name).isSome] ∧ Bs = [frag F1, frag F2, frag F3] ∧ OHs F1 v1 ((Sp.SnapTake d name).getD ⟨[], [], []⟩).store ∧ OIs F2 v2 ((Sp.SnapTake d name).getD ⟨[], [], []⟩).tree ∧ OSn F3 v3 ((Sp.SnapTake d name).getD ⟨[], [], []⟩).snaps)) := by
 obtain ⟨a1, m1, c1, a1', m1', c1', a1'', m1'', c1'', rfl, hr1, hr1', hr1''⟩ := hd; have hn_hr1 := hr1.len; have hx_hr1 : _ ≤ 1099511627776 := hr1.lim; have hn_hr1q := hr1'.len; have hx_hr1q : _ ≤ 1099511627776 := hr1'.lim; have hn_hr1qq := hr1''.len; have hx_hr1qq : _ ≤ 1099511627776 := hr1''.lim
 have H := Hp.init hG
 refine calls_of_W (l := [_, str name]) func33 Z ntmps33 Z (q2 (o_box H Z Z Z ?_)); intro b2 w2 hb2 H
 refine o_box H Z Z Z ?_; intro b3 w3 hb3 H
 refine o_alloc H zeroValue32 Z Z ?_; intro b4 w4 hb4 H
 refine aG Z (q1 (o_loadagg_B 2 H isAgg32 sizeOf32 Z Z Z Z Z (o_makefn1 Z Z (o_call call59 Z Z (i_changed_take_c _ _ (H.lendSubL [1]) _ d ⟨_, _, _, _, _, _, _, _, _, Z, (hr1.up (PPlus.le _ _ _)), (hr1'.up (PPlus.le _ _ _)), (hr1''.up (PPlus.le _ _ _))⟩ _ _ hname (prow_blk (H.lendPredL (k := 1) (ks := [1]) Z Z)) ) ?_))))
 rintro _ w5 ⟨_, _, rfl, H5', ⟨u15, u25, u35, E15, E25, E35, rfl, rfl, ho15, ho25, ho35⟩⟩
 have H := H.readersL H5'
 obtain ⟨x15, p15⟩ := ho15
 obtain ⟨a15, c15, rfl⟩ := OwnS.shape p15
 obtain ⟨x25, p25⟩ := ho25
 obtain ⟨a25, c25, rfl⟩ := OwnS.shape p25
 obtain ⟨x35, p35⟩ := ho35
 obtain ⟨a35, c35, rfl⟩ := OwnS.shape p35
 refine ⟨_, Z, ?_⟩
 refine o_extract Z Z Z (o_extract Z Z Z (o_store_B 3 H sizeOf32 Z Z Z Z Z Z Z Z ?_)); intro w6 H
 refine aG Z (q3 (W_ret (ret_gen (rs := [.cell 4 32, .tmp 5]) (vs := [_, _]) results33 ⟨⟨_, Z, load_blk 3 H isAgg32 sizeOf32 Z Z Z⟩, Z, trivial⟩ ?_)))
 have H := H.del (k := 3) rfl
 have H := H.del (k := 3) rfl
 have H := H.del (k := 3) rfl
 have H := H.toFront (k := 2) rfl
 have H := H.toFront (k := 2) rfl
 have H := H.toFront (k := 2) rfl
 exact ⟨_, _, Z, H, .slice a15 ((Sp.SnapTake d name).getD ⟨[], [], []⟩).store.length c15, .slice a25 ((Sp.SnapTake d name).getD ⟨[], [], []⟩).tree.length c25, .slice a35 ((Sp.SnapTake d name).getD ⟨[], [], []⟩).snaps.length c35, E15, E25, E35, Z, Z, ⟨_, p15⟩, ⟨_, p25⟩, ⟨_, p35⟩⟩
end Go.Proofs.Tst

namespace Go.Proofs.Tst
open Go Fw Tryz
theorem lBackTake_c (w0 : World) (G0 : PH) (hG : PSub G0 w0) (vcode : Value) (code : List (UInt8)) (hcode : RdU G0 vcode code)  :
  Calls Tryz.prog 9 #[vcode] w0 (Rets w0 (.bool true)) := by
 obtain ⟨acode, kcode, rfl⟩ := hcode.shape
 have hlimcode : code.length ≤ 1099511627776 := hcode.lim
 have H := Hp.init hG
 refine calls_of_W (l := [.slice acode code.length kcode]) func9 Z ntmps9 Z (q2 (aG Z (q3 (W_seq (q2 (mV Z (o_len_slice underlying54 Z Z (o_gtr Z Z Z (q3 ?_)))))))))
 refine W_cond Z ?_ ?_
 ·intro hc1
  try simp only [nrm] at hc1
  refine q2 (aG Z (q3 (W_ret (N_K_ret (rt1 results9 Z ?_)))))
  exact H.rets Z
 intro hc1'
 try simp only [nrm] at hc1'
 refine W_skip (N_K (q2 (mV Z (o_call call32 Z Z (DrawSnapTake_c _ _ H.sub _ _ hcode ) ?_))))
 rintro _ w2 ⟨G2, _, g2, rfl, ⟨cV, uV, uP0, rfl, hV, hP0⟩⟩
 have H := H.grow g2
 obtain ⟨a2, m2, c2, a2', m2', c2', a2'', m2'', c2'', rfl, hr2, hr2', hr2''⟩ := hV; have hn_hr2 := hr2.len; have hx_hr2 : _ ≤ 1099511627776 := hr2.lim; have hn_hr2q := hr2'.len; have hx_hr2q : _ ≤ 1099511627776 := hr2'.lim; have hn_hr2qq := hr2''.len; have hx_hr2qq : _ ≤ 1099511627776 := hr2''.lim
 refine ⟨_, Z, ?_⟩
 refine mV Z (o_extract Z Z Z (o_extract Z Z Z (o_alloc H zeroValue32 Z Z ?_))); intro b3 w3 hb3 H
 refine o_store_B 0 H sizeOf32 Z Z Z Z Z Z Z Z ?_; intro w4 H
 refine aG Z (q1 (o_loadagg_B 0 H isAgg32 sizeOf32 Z Z Z Z Z (mV Z (o_call call33 Z Z (i_SnapTake_c _ _ H.sub _ uV ⟨_, _, _, _, _, _, _, _, _, Z, hr2, hr2', hr2''⟩ _ hP0 ) ?_))))
 rintro _ w5 ⟨_, _, rfl, H5', ⟨u15, u25, u35, E15, E25, E35, rfl, rfl, ho15, ho25, ho35⟩⟩
 have H := H.readers (fp := []) (by simp) (PLe.refl _) H5'
 obtain ⟨x15, p15⟩ := ho15
 obtain ⟨a15, c15, rfl⟩ := OwnS.shape p15
 obtain ⟨x25, p25⟩ := ho25
 obtain ⟨a25, c25, rfl⟩ := OwnS.shape p25
 obtain ⟨x35, p35⟩ := ho35
 obtain ⟨a35, c35, rfl⟩ := OwnS.shape p35
 refine ⟨_, Z, ?_⟩
 refine mV Z (o_extract Z Z Z (o_extract Z Z Z (o_alloc H zeroValue32 Z Z ?_))); intro b6 w6 hb6 H
 refine o_store_B 0 H sizeOf32 Z Z Z Z Z Z Z Z ?_; intro w7 H
 refine aG Z (q1 (o_loadagg_B 4 H isAgg32 sizeOf32 Z Z Z Z Z (mV Z (o_call call34 Z Z (SnapTakeP_c _ _ H.sub _ uV ⟨_, _, _, _, _, _, _, _, _, Z, hr2, hr2', hr2''⟩ _ hP0 ) ?_))))
 rintro _ w8 ⟨G8, _, g8, rfl, u8_0, rfl, hr8_0⟩
 have H := H.grow g8
 obtain ⟨a9, m9, c9, a9', m9', c9', a9'', m9'', c9'', rfl, hr9, hr9', hr9''⟩ := hr8_0; have hn_hr9 := hr9.len; have hx_hr9 : _ ≤ 1099511627776 := hr9.lim; have hn_hr9q := hr9'.len; have hx_hr9q : _ ≤ 1099511627776 := hr9'.lim; have hn_hr9qq := hr9''.len; have hx_hr9qq : _ ≤ 1099511627776 := hr9''.lim
 refine ⟨_, Z, ?_⟩
 refine mV Z (o_extract Z Z Z (o_extract Z Z Z (o_alloc H zeroValue32 Z Z ?_))); intro b10 w10 hb10 H
 refine o_store_B 0 H sizeOf32 Z Z Z Z Z Z Z Z ?_; intro w11 H
 refine aG Z (q3 (W_seq (q2 (mV Z (mV Z (o_bneq_same underlying4 Z Z Z (mV Z (gR Z (o_loadagg_B 1 H isAgg32 sizeOf32 Z Z Z Z Z (gR Z (o_loadagg_B 0 H isAgg32 sizeOf32 Z Z Z Z Z (gR Z (o_call call35 Z Z (w_sameDisk_c _ _ (H.lendSubL [2, 3, 4]) _ ((Sp.SnapTake uV uP0).getD ⟨[], [], []⟩) ⟨_, _, _, _, _, _, _, _, _, Z, (H.lendOHs (k := 2) (ks := [2, 3, 4]) Z Z ⟨_, p15⟩), (H.lendOIs (k := 3) (ks := [2, 3, 4]) Z Z ⟨_, p25⟩), (H.lendOSn (k := 4) (ks := [2, 3, 4]) Z Z ⟨_, p35⟩)⟩ _ ((Sp.SnapTake uV uP0).getD ⟨[], [], []⟩) ⟨_, _, _, _, _, _, _, _, _, Z, (hr9.up (PPlus.le _ _ _)), (hr9'.up (PPlus.le _ _ _)), (hr9''.up (PPlus.le _ _ _))⟩ Z) ?_)))))))))))))
 rintro _ w12 ⟨rfl, ew12⟩; have H := H.step ew12; refine ⟨_, rfl, ?_⟩
 refine gR Z (o_not Z Z (o_pick_f Z Z Z (mV Z (gR Z (mV Z (gR Z (o_not Z Z (o_pick_f Z Z Z (q3 ?_)))))))))
 refine W_cond Z ?_ ?_
 ·intro hc13
  try simp only [nrm] at hc13
  refine q2 (mV Z (mV Z (o_beql_same underlying4 Z Z Z (mV Z (gR Z (o_loadagg_B 1 H isAgg32 sizeOf32 Z Z Z Z Z (gR Z (o_loadagg_B 0 H isAgg32 sizeOf32 Z Z Z Z Z (gR Z (o_call call35 Z Z (w_sameDisk_c _ _ (H.lendSubL [2, 3, 4]) _ ((Sp.SnapTake uV uP0).getD ⟨[], [], []⟩) ⟨_, _, _, _, _, _, _, _, _, Z, (H.lendOHs (k := 2) (ks := [2, 3, 4]) Z Z ⟨_, p15⟩), (H.lendOIs (k := 3) (ks := [2, 3, 4]) Z Z ⟨_, p25⟩), (H.lendOSn (k := 4) (ks := [2, 3, 4]) Z Z ⟨_, p35⟩)⟩ _ ((Sp.SnapTake uV uP0).getD ⟨[], [], []⟩) ⟨_, _, _, _, _, _, _, _, _, Z, (hr9.up (PPlus.le _ _ _)), (hr9'.up (PPlus.le _ _ _)), (hr9''.up (PPlus.le _ _ _))⟩ Z) ?_))))))))))
  rintro _ w14 ⟨rfl, ew14⟩; have H := H.step ew14; refine ⟨_, rfl, ?_⟩
  refine o_pick_t Z Z Z (aG Z (q3 (W_ret (N_K_ret (rt1 results9 Z ?_)))))
  exact H.rets Z
 intro hc13'
 try simp only [nrm] at hc13'
 obtain ⟨u2, hu2⟩ := Option.isSome_iff_exists.1 (show (Sp.SnapTake uV uP0).isSome = true by simpa using hc13')
 have hW : (Sp.SnapTake uV uP0).getD ⟨[], [], []⟩ = u2 := by (rw [hu2]; rfl)
 have hbb : Sp.SnapBack ((Sp.SnapTake uV uP0).getD ⟨[], [], []⟩) uP0 = some ((Sp.SnapTake uV uP0).getD ⟨[], [], []⟩) := by (rw [hW]; exact Sp.take_back hu2)
 refine W_skip (N_K (q2 (o_loadagg_B 1 H isAgg32 sizeOf32 Z Z Z Z Z (mV Z (o_call call40 Z Z (i_SnapBack_c _ _ (H.lendSubL [2, 3, 4]) _ ((Sp.SnapTake uV uP0).getD ⟨[], [], []⟩) ⟨_, _, _, _, _, _, _, _, _, Z, (H.lendOHs (k := 2) (ks := [2, 3, 4]) Z Z ⟨_, p15⟩), (H.lendOIs (k := 3) (ks := [2, 3, 4]) Z Z ⟨_, p25⟩), (H.lendOSn (k := 4) (ks := [2, 3, 4]) Z Z ⟨_, p35⟩)⟩ _ hP0 ) ?_)))))
 rintro _ w15 ⟨_, _, rfl, H15', ⟨u115, u215, u315, E115, E215, E315, rfl, rfl, ho115, ho215, ho315⟩⟩
 have H := H.readersL H15'
 obtain ⟨x115, p115⟩ := ho115
 obtain ⟨a115, c115, rfl⟩ := OwnS.shape p115
 obtain ⟨x215, p215⟩ := ho215
 obtain ⟨a215, c215, rfl⟩ := OwnS.shape p215
 obtain ⟨x315, p315⟩ := ho315
 obtain ⟨a315, c315, rfl⟩ := OwnS.shape p315
 refine ⟨_, Z, ?_⟩
 refine mV Z (o_extract Z Z Z (o_extract Z Z Z (o_alloc H zeroValue32 Z Z ?_))); intro b16 w16 hb16 H
 refine o_store_B 0 H sizeOf32 Z Z Z Z Z Z Z Z ?_; intro w17 H
 refine aG Z (q1 (mV Z (mV Z ?_)))
 refine R_case (t := 59) Z ?_ ?_
 ·intro hc18
  try simp only [nrm] at hc18
  refine gR Z (o_loadagg_B 0 H isAgg32 sizeOf32 Z Z Z Z Z (gR Z (o_loadagg_B 5 H isAgg32 sizeOf32 Z Z Z Z Z (gR Z ?_))))
  refine o_call call35 Z Z (w_sameDisk_c _ _ (H.lendSubL [1, 2, 3, 6, 7, 8]) _ ((Sp.SnapBack ((Sp.SnapTake uV uP0).getD ⟨[], [], []⟩) uP0).getD ⟨[], [], []⟩) ⟨_, _, _, _, _, _, _, _, _, Z, (H.lendOHs (k := 1) (ks := [1, 2, 3, 6, 7, 8]) Z Z ⟨_, p115⟩), (H.lendOIs (k := 2) (ks := [1, 2, 3, 6, 7, 8]) Z Z ⟨_, p215⟩), (H.lendOSn (k := 3) (ks := [1, 2, 3, 6, 7, 8]) Z Z ⟨_, p315⟩)⟩ _ ((Sp.SnapTake uV uP0).getD ⟨[], [], []⟩) ⟨_, _, _, _, _, _, _, _, _, Z, (H.lendOHs (k := 6) (ks := [1, 2, 3, 6, 7, 8]) Z Z ⟨_, p15⟩), (H.lendOIs (k := 7) (ks := [1, 2, 3, 6, 7, 8]) Z Z ⟨_, p25⟩), (H.lendOSn (k := 8) (ks := [1, 2, 3, 6, 7, 8]) Z Z ⟨_, p35⟩)⟩ (by (rw [hbb]; rfl))) ?_
  rintro _ w19 ⟨rfl, ew19⟩; have H := H.step ew19; refine ⟨_, rfl, ?_⟩
  refine o_pick_t Z Z Z (aG Z (q3 (W_ret (rt1 results9 Z ?_))))
  exact H.rets Z
 intro hc18'
 try simp only [nrm] at hc18'
 exact absurd (show False from by simp_all) id
end Go.Proofs.Tst

namespace Go.Proofs.Tst
open Go Fw Tryz
theorem lTakeDrop_c (w0 : World) (G0 : PH) (hG : PSub G0 w0) (vcode : Value) (code : List (UInt8)) (hcode : RdU G0 vcode code)  :
  Calls Tryz.prog 10 #[vcode] w0 (Rets w0 (.bool true)) := by
 obtain ⟨acode, kcode, rfl⟩ := hcode.shape
 have hlimcode : code.length ≤ 1099511627776 := hcode.lim
 have H := Hp.init hG
 refine calls_of_W (l := [.slice acode code.length kcode]) func10 Z ntmps10 Z (q2 (aG Z (q3 (W_seq (q2 (mV Z (o_len_slice underlying54 Z Z (o_gtr Z Z Z (q3 ?_)))))))))
 refine W_cond Z ?_ ?_
 ·intro hc1
  try simp only [nrm] at hc1
  refine q2 (aG Z (q3 (W_ret (N_K_ret (rt1 results10 Z ?_)))))
  first | exact H.rets rfl | exact H.rets (congrArg Value.bool (by (rw [hag]; rfl)))
 intro hc1'
 try simp only [nrm] at hc1'
 refine W_skip (N_K (q2 (mV Z (o_call call32 Z Z (DrawSnapTake_c _ _ H.sub _ _ hcode ) ?_))))
 rintro _ w2 ⟨G2, _, g2, rfl, ⟨cV, uV, uP0, rfl, hV, hP0⟩⟩
 have H := H.grow g2
 obtain ⟨a2, m2, c2, a2', m2', c2', a2'', m2'', c2'', rfl, hr2, hr2', hr2''⟩ := hV; have hn_hr2 := hr2.len; have hx_hr2 : _ ≤ 1099511627776 := hr2.lim; have hn_hr2q := hr2'.len; have hx_hr2q : _ ≤ 1099511627776 := hr2'.lim; have hn_hr2qq := hr2''.len; have hx_hr2qq : _ ≤ 1099511627776 := hr2''.lim
 refine ⟨_, Z, ?_⟩
 refine mV Z (o_extract Z Z Z (o_extract Z Z Z (o_alloc H zeroValue32 Z Z ?_))); intro b3 w3 hb3 H
 refine o_store_B 0 H sizeOf32 Z Z Z Z Z Z Z Z ?_; intro w4 H
 refine aG Z (q1 (o_loadagg_B 0 H isAgg32 sizeOf32 Z Z Z Z Z (mV Z (o_call call33 Z Z (i_SnapTake_c _ _ H.sub _ uV ⟨_, _, _, _, _, _, _, _, _, Z, hr2, hr2', hr2''⟩ _ hP0 ) ?_))))
 rintro _ w5 ⟨_, _, rfl, H5', ⟨u15, u25, u35, E15, E25, E35, rfl, rfl, ho15, ho25, ho35⟩⟩
 have H := H.readers (fp := []) (by simp) (PLe.refl _) H5'
 obtain ⟨x15, p15⟩ := ho15
 obtain ⟨a15, c15, rfl⟩ := OwnS.shape p15
 obtain ⟨x25, p25⟩ := ho25
 obtain ⟨a25, c25, rfl⟩ := OwnS.shape p25
 obtain ⟨x35, p35⟩ := ho35
 obtain ⟨a35, c35, rfl⟩ := OwnS.shape p35
 refine ⟨_, Z, ?_⟩
 refine mV Z (o_extract Z Z Z (o_extract Z Z Z (o_alloc H zeroValue32 Z Z ?_))); intro b6 w6 hb6 H
 refine o_store_B 0 H sizeOf32 Z Z Z Z Z Z Z Z ?_; intro w7 H
 refine aG Z (q1 (o_loadagg_B 4 H isAgg32 sizeOf32 Z Z Z Z Z (mV Z (o_call call34 Z Z (SnapTakeP_c _ _ H.sub _ uV ⟨_, _, _, _, _, _, _, _, _, Z, hr2, hr2', hr2''⟩ _ hP0 ) ?_))))
 rintro _ w8 ⟨G8, _, g8, rfl, u8_0, rfl, hr8_0⟩
 have H := H.grow g8
 have hr2 := hr2.up g8.le
 have hr2' := hr2'.up g8.le
 have hr2'' := hr2''.up g8.le
 obtain ⟨a9, m9, c9, a9', m9', c9', a9'', m9'', c9'', rfl, hr9, hr9', hr9''⟩ := hr8_0; have hn_hr9 := hr9.len; have hx_hr9 : _ ≤ 1099511627776 := hr9.lim; have hn_hr9q := hr9'.len; have hx_hr9q : _ ≤ 1099511627776 := hr9'.lim; have hn_hr9qq := hr9''.len; have hx_hr9qq : _ ≤ 1099511627776 := hr9''.lim
 refine ⟨_, Z, ?_⟩
 refine mV Z (o_extract Z Z Z (o_extract Z Z Z (o_alloc H zeroValue32 Z Z ?_))); intro b10 w10 hb10 H
 refine o_store_B 0 H sizeOf32 Z Z Z Z Z Z Z Z ?_; intro w11 H
 refine aG Z (q3 (W_seq (q2 (mV Z (mV Z (o_bneq_same underlying4 Z Z Z (mV Z (gR Z (o_loadagg_B 1 H isAgg32 sizeOf32 Z Z Z Z Z (gR Z (o_loadagg_B 0 H isAgg32 sizeOf32 Z Z Z Z Z (gR Z (o_call call35 Z Z (w_sameDisk_c _ _ (H.lendSubL [2, 3, 4]) _ ((Sp.SnapTake uV uP0).getD ⟨[], [], []⟩) ⟨_, _, _, _, _, _, _, _, _, Z, (H.lendOHs (k := 2) (ks := [2, 3, 4]) Z Z ⟨_, p15⟩), (H.lendOIs (k := 3) (ks := [2, 3, 4]) Z Z ⟨_, p25⟩), (H.lendOSn (k := 4) (ks := [2, 3, 4]) Z Z ⟨_, p35⟩)⟩ _ ((Sp.SnapTake uV uP0).getD ⟨[], [], []⟩) ⟨_, _, _, _, _, _, _, _, _, Z, (hr9.up (PPlus.le _ _ _)), (hr9'.up (PPlus.le _ _ _)), (hr9''.up (PPlus.le _ _ _))⟩ Z) ?_)))))))))))))
 rintro _ w12 ⟨rfl, ew12⟩; have H := H.step ew12; refine ⟨_, rfl, ?_⟩
 refine gR Z (o_not Z Z (o_pick_f Z Z Z (mV Z (gR Z (mV Z (gR Z (o_not Z Z (o_pick_f Z Z Z (q3 ?_)))))))))
 refine W_cond Z ?_ ?_
 ·intro hc13
  try simp only [nrm] at hc13
  refine q2 (mV Z (mV Z (o_beql_same underlying4 Z Z Z (mV Z (gR Z (o_loadagg_B 1 H isAgg32 sizeOf32 Z Z Z Z Z (gR Z (o_loadagg_B 0 H isAgg32 sizeOf32 Z Z Z Z Z (gR Z (o_call call35 Z Z (w_sameDisk_c _ _ (H.lendSubL [2, 3, 4]) _ ((Sp.SnapTake uV uP0).getD ⟨[], [], []⟩) ⟨_, _, _, _, _, _, _, _, _, Z, (H.lendOHs (k := 2) (ks := [2, 3, 4]) Z Z ⟨_, p15⟩), (H.lendOIs (k := 3) (ks := [2, 3, 4]) Z Z ⟨_, p25⟩), (H.lendOSn (k := 4) (ks := [2, 3, 4]) Z Z ⟨_, p35⟩)⟩ _ ((Sp.SnapTake uV uP0).getD ⟨[], [], []⟩) ⟨_, _, _, _, _, _, _, _, _, Z, (hr9.up (PPlus.le _ _ _)), (hr9'.up (PPlus.le _ _ _)), (hr9''.up (PPlus.le _ _ _))⟩ Z) ?_))))))))))
  rintro _ w14 ⟨rfl, ew14⟩; have H := H.step ew14; refine ⟨_, rfl, ?_⟩
  refine o_pick_t Z Z Z (aG Z (q3 (W_ret (N_K_ret (rt1 results10 Z ?_)))))
  first | exact H.rets rfl | exact H.rets (congrArg Value.bool (by (rw [hag]; rfl)))
 intro hc13'
 try simp only [nrm] at hc13'
 obtain ⟨u2, hu2⟩ := Option.isSome_iff_exists.1 (show (Sp.SnapTake uV uP0).isSome = true by simpa using hc13')
 have hW : (Sp.SnapTake uV uP0).getD ⟨[], [], []⟩ = u2 := by (rw [hu2]; rfl)
 have hbb : Sp.SnapDrop ((Sp.SnapTake uV uP0).getD ⟨[], [], []⟩) uP0 = some uV := by (rw [hW]; exact Sp.take_drop hu2)
 have hag : Sp.SnapTake ((Sp.SnapTake uV uP0).getD ⟨[], [], []⟩) uP0 = none := by (rw [hW]; exact Sp.take_again hu2)
 refine W_skip (N_K (q2 (o_loadagg_B 1 H isAgg32 sizeOf32 Z Z Z Z Z (mV Z (o_call call18 Z Z (i_SnapDrop_c _ _ (H.lendSubL [2, 3, 4]) _ ((Sp.SnapTake uV uP0).getD ⟨[], [], []⟩) ⟨_, _, _, _, _, _, _, _, _, Z, (H.lendOHs (k := 2) (ks := [2, 3, 4]) Z Z ⟨_, p15⟩), (H.lendOIs (k := 3) (ks := [2, 3, 4]) Z Z ⟨_, p25⟩), (H.lendOSn (k := 4) (ks := [2, 3, 4]) Z Z ⟨_, p35⟩)⟩ _ hP0 ) ?_)))))
 rintro _ w15 ⟨_, _, rfl, H15', ⟨u115, u215, u315, E115, E215, E315, rfl, rfl, ho115, ho215, ho315⟩⟩
 have H := H.readersL H15'
 obtain ⟨x115, p115⟩ := ho115
 obtain ⟨a115, c115, rfl⟩ := OwnS.shape p115
 obtain ⟨x215, p215⟩ := ho215
 obtain ⟨a215, c215, rfl⟩ := OwnS.shape p215
 obtain ⟨x315, p315⟩ := ho315
 obtain ⟨a315, c315, rfl⟩ := OwnS.shape p315
 refine ⟨_, Z, ?_⟩
 refine mV Z (o_extract Z Z Z (o_extract Z Z Z (o_alloc H zeroValue32 Z Z ?_))); intro b16 w16 hb16 H
 refine o_store_B 0 H sizeOf32 Z Z Z Z Z Z Z Z ?_; intro w17 H
 refine aG Z (q1 (o_loadagg_B 5 H isAgg32 sizeOf32 Z Z Z Z Z (mV Z (o_call call33 Z Z (i_SnapTake_c _ _ (H.lendSubL [6, 7, 8]) _ ((Sp.SnapTake uV uP0).getD ⟨[], [], []⟩) ⟨_, _, _, _, _, _, _, _, _, Z, (H.lendOHs (k := 6) (ks := [6, 7, 8]) Z Z ⟨_, p15⟩), (H.lendOIs (k := 7) (ks := [6, 7, 8]) Z Z ⟨_, p25⟩), (H.lendOSn (k := 8) (ks := [6, 7, 8]) Z Z ⟨_, p35⟩)⟩ _ hP0 ) ?_))))
 rintro _ w18 ⟨_, _, rfl, H18', ⟨u118, u218, u318, E118, E218, E318, rfl, rfl, ho118, ho218, ho318⟩⟩
 have H := H.readersL H18'
 obtain ⟨x118, p118⟩ := ho118
 obtain ⟨a118, c118, rfl⟩ := OwnS.shape p118
 obtain ⟨x218, p218⟩ := ho218
 obtain ⟨a218, c218, rfl⟩ := OwnS.shape p218
 obtain ⟨x318, p318⟩ := ho318
 obtain ⟨a318, c318, rfl⟩ := OwnS.shape p318
 refine ⟨_, Z, ?_⟩
 refine mV Z (o_extract Z Z Z (o_extract Z Z Z (o_alloc H zeroValue32 Z Z ?_))); intro b19 w19 hb19 H
 refine o_store_B 0 H sizeOf32 Z Z Z Z Z Z Z Z ?_; intro w20 H
 refine aG Z (q1 (mV Z (mV Z ?_)))
 refine R_case (t := 67) Z ?_ ?_
 ·intro hc21
  try simp only [nrm] at hc21
  refine gR Z (o_loadagg_B 4 H isAgg32 sizeOf32 Z Z Z Z Z (gR Z (o_loadagg_B 13 H isAgg32 sizeOf32 Z Z Z Z Z (gR Z ?_))))
  refine o_call call35 Z Z (w_sameDisk_c _ _ (H.lendSubL [5, 6, 7]) _ ((Sp.SnapDrop ((Sp.SnapTake uV uP0).getD ⟨[], [], []⟩) uP0).getD ⟨[], [], []⟩) ⟨_, _, _, _, _, _, _, _, _, Z, (H.lendOHs (k := 5) (ks := [5, 6, 7]) Z Z ⟨_, p115⟩), (H.lendOIs (k := 6) (ks := [5, 6, 7]) Z Z ⟨_, p215⟩), (H.lendOSn (k := 7) (ks := [5, 6, 7]) Z Z ⟨_, p315⟩)⟩ _ uV ⟨_, _, _, _, _, _, _, _, _, Z, (hr2.up (PPlus.le _ _ _)), (hr2'.up (PPlus.le _ _ _)), (hr2''.up (PPlus.le _ _ _))⟩ (by (rw [hbb]; rfl))) ?_
  rintro _ w22 ⟨rfl, ew22⟩; have H := H.step ew22; refine ⟨_, rfl, ?_⟩
  refine o_pick_t Z Z Z (mV Z (gR Z (mV Z (gR Z (o_not Z Z (o_pick_t Z Z Z (aG Z (q3 (W_ret (rt1 results10 Z ?_))))))))))
  first | exact H.rets rfl | exact H.rets (congrArg Value.bool (by (rw [hag]; rfl)))
 intro hc21'
 try simp only [nrm] at hc21'
 exact absurd (show False from by simp_all) id
end Go.Proofs.Tst

namespace Go.Proofs.Tst
open Go Fw Tryz
theorem i_DiskValid_c (w0 : World) (G0 : PH) (hG : PSub G0 w0) (cd : List Value) (d : BDisk) (hd : diskE G0 d cd)  :
  Calls Tryz.prog 36 #[.agg cd.toArray] w0 (Rets w0 (.bool (Sp.DiskValid d))) := by
 obtain ⟨a1, m1, c1, a1', m1', c1', a1'', m1'', c1'', rfl, hr1, hr1', hr1''⟩ := hd; have hn_hr1 := hr1.len; have hx_hr1 : _ ≤ 1099511627776 := hr1.lim; have hn_hr1q := hr1'.len; have hx_hr1q : _ ≤ 1099511627776 := hr1'.lim; have hn_hr1qq := hr1''.len; have hx_hr1qq : _ ≤ 1099511627776 := hr1''.lim
 have H := Hp.init hG
 refine calls_of_W (l := [_]) func36 Z ntmps36 Z (q2 (o_box H Z Z Z ?_)); intro b2 w2 hb2 H
 refine aG Z (q1 (o_loadagg_B 0 H isAgg32 sizeOf32 Z Z Z Z Z (o_call call89 Z Z (i_newDisk_c _ _ H.sub _ d ⟨_, _, _, _, _, _, _, _, _, Z, hr1, hr1', hr1''⟩ H.lent0 ) ?_)))
 rintro _ w3 ⟨G3, _, _, rfl, H3', ⟨rfl, rfl, hnd3⟩ | ⟨db3, mb3, es3, ck3, xs3, T3, F3, sv3, sn3, c3, FS3, rfl, rfl, hm3, hS3, hN3, hT3, hchk3, hNs3, hSn3, hdv3⟩⟩
 ·skip
  have H := H.borrow0 H3'
  refine ⟨_, Z, ?_⟩
  refine mV Z (o_extract Z Z Z (o_extract Z Z Z (aG Z (aG Z (q1 (mV Z (aG Z (q3 (W_ret (rt1 results36 Z ?_))))))))))
  exact H.rets (congrArg Value.bool (by first | (rw [show Sp.DiskValid d = false by assumption]) | (rw [show Sp.DiskValid d = true by assumption])))
 skip
 have H := H.borrow0 H3'
 obtain ⟨avAd, cvAd, rfl⟩ := H.accShape (k := 3) rfl
 refine ⟨_, Z, ?_⟩
 refine mV Z (o_extract Z Z Z (o_extract Z Z Z (aG Z (aG Z (q1 (mV Z (aG Z (q3 (W_ret (rt1 results36 Z ?_))))))))))
 exact H.rets (congrArg Value.bool (by first | (rw [show Sp.DiskValid d = false by assumption]) | (rw [show Sp.DiskValid d = true by assumption])))
end Go.Proofs.Tst

namespace Go.Proofs.Tst
open Go Fw Tryz
theorem lSnapTake_c (w0 : World) (G0 : PH) (hG : PSub G0 w0) (vcode : Value) (code : List (UInt8)) (hcode : RdU G0 vcode code)  :
  Calls Tryz.prog 5 #[vcode] w0 (Rets w0 (.bool true)) := by
 obtain ⟨acode, kcode, rfl⟩ := hcode.shape
 have hlimcode : code.length ≤ 1099511627776 := hcode.lim
 have H := Hp.init hG
 refine calls_of_W (l := [.slice acode code.length kcode]) func5 Z ntmps5 Z (q2 (aG Z (q3 (W_seq (q2 (mV Z (o_len_slice underlying54 Z Z (o_gtr Z Z Z (q3 ?_)))))))))
 refine W_cond Z ?_ ?_
 ·intro hc1
  try simp only [nrm] at hc1
  refine q2 (aG Z (q3 (W_ret (N_K_ret (rt1 results5 Z ?_)))))
  exact H.rets Z
 intro hc1'
 try simp only [nrm] at hc1'
 refine W_skip (N_K (q2 (mV Z (o_call call32 Z Z (DrawSnapTake_c _ _ H.sub _ _ hcode ) ?_))))
 rintro _ w2 ⟨G2, _, g2, rfl, ⟨cV, uV, uP0, rfl, hV, hP0⟩⟩
 have H := H.grow g2
 obtain ⟨a2, m2, c2, a2', m2', c2', a2'', m2'', c2'', rfl, hr2, hr2', hr2''⟩ := hV; have hn_hr2 := hr2.len; have hx_hr2 : _ ≤ 1099511627776 := hr2.lim; have hn_hr2q := hr2'.len; have hx_hr2q : _ ≤ 1099511627776 := hr2'.lim; have hn_hr2qq := hr2''.len; have hx_hr2qq : _ ≤ 1099511627776 := hr2''.lim
 refine ⟨_, Z, ?_⟩
 refine mV Z (o_extract Z Z Z (o_extract Z Z Z (o_alloc H zeroValue32 Z Z ?_))); intro b3 w3 hb3 H
 refine o_store_B 0 H sizeOf32 Z Z Z Z Z Z Z Z ?_; intro w4 H
 refine aG Z (q1 (o_loadagg_B 0 H isAgg32 sizeOf32 Z Z Z Z Z (mV Z (o_call call33 Z Z (i_SnapTake_c _ _ H.sub _ uV ⟨_, _, _, _, _, _, _, _, _, Z, hr2, hr2', hr2''⟩ _ hP0 ) ?_))))
 rintro _ w5 ⟨_, _, rfl, H5', ⟨u15, u25, u35, E15, E25, E35, rfl, rfl, ho15, ho25, ho35⟩⟩
 have H := H.readers (fp := []) (by simp) (PLe.refl _) H5'
 obtain ⟨x15, p15⟩ := ho15
 obtain ⟨a15, c15, rfl⟩ := OwnS.shape p15
 obtain ⟨x25, p25⟩ := ho25
 obtain ⟨a25, c25, rfl⟩ := OwnS.shape p25
 obtain ⟨x35, p35⟩ := ho35
 obtain ⟨a35, c35, rfl⟩ := OwnS.shape p35
 refine ⟨_, Z, ?_⟩
 refine mV Z (o_extract Z Z Z (o_extract Z Z Z (o_alloc H zeroValue32 Z Z ?_))); intro b6 w6 hb6 H
 refine o_store_B 0 H sizeOf32 Z Z Z Z Z Z Z Z ?_; intro w7 H
 refine aG Z (q1 (o_loadagg_B 4 H isAgg32 sizeOf32 Z Z Z Z Z (mV Z (o_call call34 Z Z (SnapTakeP_c _ _ H.sub _ uV ⟨_, _, _, _, _, _, _, _, _, Z, hr2, hr2', hr2''⟩ _ hP0 ) ?_))))
 rintro _ w8 ⟨G8, _, g8, rfl, u8_0, rfl, hr8_0⟩
 have H := H.grow g8
 have hr2' := hr2'.up g8.le
 have hr2'' := hr2''.up g8.le
 obtain ⟨a9, m9, c9, a9', m9', c9', a9'', m9'', c9'', rfl, hr9, hr9', hr9''⟩ := hr8_0; have hn_hr9 := hr9.len; have hx_hr9 : _ ≤ 1099511627776 := hr9.lim; have hn_hr9q := hr9'.len; have hx_hr9q : _ ≤ 1099511627776 := hr9'.lim; have hn_hr9qq := hr9''.len; have hx_hr9qq : _ ≤ 1099511627776 := hr9''.lim
 refine ⟨_, Z, ?_⟩
 refine mV Z (o_extract Z Z Z (o_extract Z Z Z (o_alloc H zeroValue32 Z Z ?_))); intro b10 w10 hb10 H
 refine o_store_B 0 H sizeOf32 Z Z Z Z Z Z Z Z ?_; intro w11 H
 refine aG Z (q3 (W_seq (q2 (mV Z (mV Z (o_bneq_same underlying4 Z Z Z (mV Z (gR Z (o_loadagg_B 1 H isAgg32 sizeOf32 Z Z Z Z Z (gR Z (o_loadagg_B 0 H isAgg32 sizeOf32 Z Z Z Z Z (gR Z (o_call call35 Z Z (w_sameDisk_c _ _ (H.lendSubL [2, 3, 4]) _ ((Sp.SnapTake uV uP0).getD ⟨[], [], []⟩) ⟨_, _, _, _, _, _, _, _, _, Z, (H.lendOHs (k := 2) (ks := [2, 3, 4]) Z Z ⟨_, p15⟩), (H.lendOIs (k := 3) (ks := [2, 3, 4]) Z Z ⟨_, p25⟩), (H.lendOSn (k := 4) (ks := [2, 3, 4]) Z Z ⟨_, p35⟩)⟩ _ ((Sp.SnapTake uV uP0).getD ⟨[], [], []⟩) ⟨_, _, _, _, _, _, _, _, _, Z, (hr9.up (PPlus.le _ _ _)), (hr9'.up (PPlus.le _ _ _)), (hr9''.up (PPlus.le _ _ _))⟩ Z) ?_)))))))))))))
 rintro _ w12 ⟨rfl, ew12⟩; have H := H.step ew12; refine ⟨_, rfl, ?_⟩
 refine gR Z (o_not Z Z (o_pick_f Z Z Z (mV Z (gR Z (mV Z (gR Z (o_not Z Z (o_pick_f Z Z Z (q3 ?_)))))))))
 refine W_cond Z ?_ ?_
 ·intro hc13
  try simp only [nrm] at hc13
  refine q2 (mV Z (mV Z (o_beql_same underlying4 Z Z Z (mV Z (gR Z (o_loadagg_B 1 H isAgg32 sizeOf32 Z Z Z Z Z (gR Z (o_loadagg_B 0 H isAgg32 sizeOf32 Z Z Z Z Z (gR Z (o_call call35 Z Z (w_sameDisk_c _ _ (H.lendSubL [2, 3, 4]) _ ((Sp.SnapTake uV uP0).getD ⟨[], [], []⟩) ⟨_, _, _, _, _, _, _, _, _, Z, (H.lendOHs (k := 2) (ks := [2, 3, 4]) Z Z ⟨_, p15⟩), (H.lendOIs (k := 3) (ks := [2, 3, 4]) Z Z ⟨_, p25⟩), (H.lendOSn (k := 4) (ks := [2, 3, 4]) Z Z ⟨_, p35⟩)⟩ _ ((Sp.SnapTake uV uP0).getD ⟨[], [], []⟩) ⟨_, _, _, _, _, _, _, _, _, Z, (hr9.up (PPlus.le _ _ _)), (hr9'.up (PPlus.le _ _ _)), (hr9''.up (PPlus.le _ _ _))⟩ Z) ?_))))))))))
  rintro _ w14 ⟨rfl, ew14⟩; have H := H.step ew14; refine ⟨_, rfl, ?_⟩
  refine o_pick_t Z Z Z (aG Z (q3 (W_ret (N_K_ret (rt1 results5 Z ?_)))))
  exact H.rets Z
 intro hc13'
 try simp only [nrm] at hc13'
 obtain ⟨u2, hu2⟩ := Option.isSome_iff_exists.1 (show (Sp.SnapTake uV uP0).isSome = true by simpa using hc13')
 have hW : (Sp.SnapTake uV uP0).getD ⟨[], [], []⟩ = u2 := by (rw [hu2]; rfl)
 have hvv : Sp.DiskValid ((Sp.SnapTake uV uP0).getD ⟨[], [], []⟩) = true := by (rw [hW]; exact Sp.take_valid hu2)
 have htr : ((Sp.SnapTake uV uP0).getD ⟨[], [], []⟩).tree = uV.tree := by (rw [hW]; exact Sp.take_tree hu2)
 have hsn : ((Sp.SnapTake uV uP0).getD ⟨[], [], []⟩).snaps = uV.snaps ++ [⟨uP0, uV.tree⟩] := by (rw [hW]; exact Sp.take_snaps hu2)
 have hsl := congrArg List.length hsn; (rw [List.length_append] at hsl); simp only [List.length_cons, List.length_nil] at hsl
 have hst : ((Sp.SnapTake uV uP0).getD ⟨[], [], []⟩).store.length = uV.store.length := by (rw [hW]; exact Sp.take_len2 hu2)
 refine W_skip (N_K (q2 (o_fieldAddr 2 runUnderlying32 Z sizeOf30 Z Z Z (o_load_B 1 H isAgg30 Z Z Z Z (o_fieldAddr 2 runUnderlying32 Z sizeOf30 Z Z Z (o_load_B 1 H isAgg30 Z Z Z Z (o_len_slice underlying30 Z Z (o_sub Z Z Z oO ?_))))))))
 have hnd16 := dm_nodup H (k := 4) rfl; obtain ⟨G16, H, hsg16, hsf16⟩ := H.keepF (k := 4) rfl (by simp); have hsr16 := (show OSn _ _ _ from ⟨_, p35⟩).rd hsf16 hnd16
 have hr2' := hr2'.up hsg16
 have hr2'' := hr2''.up hsg16
 refine o_index_P (((Sp.SnapTake uV uP0).getD ⟨[], [], []⟩).snaps.length - 1) hsr16 underlying30 sizeOf58 Z Z Z oM aN ?_; intro b17 o17 z17 q17 hz17 hE17 hrow17
 obtain ⟨a17, m17, c17, rfl, hi17, hr17⟩ := hE17; have hy_hi17 : _ ≤ 16777216 := hi17; have hn_hr17 := hr17.len; have hx_hr17 : _ ≤ 1099511627776 := hr17.lim
 have hze : z17 = ⟨uP0, uV.tree⟩ := Sp.last_app (hsn ▸ hz17)
 subst hze
 refine o_loadagg_P H isAgg58 sizeOf58 Z Z hrow17 Z (o_alloc H zeroValue58 Z Z ?_); intro b18 w18 hb18 H
 refine o_store_B 0 H sizeOf58 Z Z Z Z Z Z Z Z ?_; intro w19 H
 refine q3 (W_seq (W_drawK [0, 1, 2, 5] 43 H kR Z ?_)); intro w20 H; have hd20 := PLe.refl G16
 refine RD_t 0 Z kR Z (fun _ hK => v_loadagg_B 2 hK isAgg32 sizeOf32 Z Z Z Z) ?_
 refine RD_run [1] kR Z (RDs.cons Z ?_ RDs.nil)
 refine o_call call36 Z Z (i_DiskValid_c _ _ (H.lendSubL [3, 4]) _ ((Sp.SnapTake uV uP0).getD ⟨[], [], []⟩) ⟨_, _, _, _, _, _, _, _, _, Z, (H.lendOHs (k := 3) (ks := [3, 4]) Z Z ⟨_, p15⟩), (H.lendOIs (k := 4) (ks := [3, 4]) Z Z ⟨_, p25⟩), (hsr16.up (PPlus.le _ _ _))⟩ ) ?_
 rintro _ w21 ⟨rfl, ew21⟩; have H := H.step ew21; refine ⟨_, rfl, ?_⟩
 refine R_nil (N_DK (Kn.of' H hd20 (SubL.cons 0 Z (SubL.cons 1 Z (SubL.cons 2 Z (SubL.cons 5 Z SubL.nil))))) (vM 2 Z Z ?_))
 refine RD_case (t := 61) Z ?_ ?_
 ·intro hc22
  try simp only [nrm] at hc22
  refine RD_tg 3 Z kR Z (yl Z Z) (fun _ hK => v_fieldAddr 0 runUnderlying58 Z sizeOf9 Z Z) (RD_tg 4 Z kR Z (yl Z Z) (fun _ hK => v_load_B 0 hK isAgg9 Z Z Z) (RD_tg 5 Z kR Z (yl Z Z) (fun _ hK => v_move Z) (RD_tg 6 Z kR Z (yl Z Z) (fun _ hK => v_seql Z Z) (RD_t 7 Z kR Z (fun _ hK => v_pick_t Z Z) (vM 8 Z Z ?_)))))
  refine RD_case (t := 67) Z ?_ ?_
  ·intro hc23
   try simp only [nrm] at hc23
   refine RD_tg 9 Z kR Z (yl Z Z) (fun _ hK => v_fieldAddr 1 runUnderlying58 Z sizeOf29 Z Z) (RD_tg 10 Z kR Z (yl Z Z) (fun _ hK => v_load_B 0 hK isAgg29 Z Z Z) (RD_tg 11 Z kR Z (yl Z Z) (fun _ hK => v_fieldAddr 1 runUnderlying32 Z sizeOf29 Z Z) (RD_tg 12 Z kR Z (yl Z Z) (fun _ hK => v_load_B 3 hK isAgg29 Z Z Z) ?_)))
   refine RD_run [13] kR Z (RDs.cons Z ?_ RDs.nil)
   refine gR Z (o_call call37 Z Z (w_sameTree_c _ _ H.sub _ _ hr17 _ _ hr2' (by first | rfl | assumption)) ?_)
   rintro _ w24 ⟨rfl, ew24⟩; have H := H.step ew24; refine ⟨_, rfl, ?_⟩
   refine R_nil (N_DK (Kn.of' H hd20 (SubL.cons 0 Z (SubL.cons 1 Z (SubL.cons 2 Z (SubL.cons 5 Z SubL.nil))))) (RD_t 14 Z kR Z (fun _ hK => v_pick_t Z Z) (vM 15 Z Z (RD_tg 16 Z kR Z (yl Z Z) (fun _ hK => v_fieldAddr 1 runUnderlying32 Z sizeOf29 Z Z) (RD_tg 17 Z kR Z (yl Z Z) (fun _ hK => v_load_B 2 hK isAgg29 Z Z Z) (RD_tg 18 Z kR Z (yl Z Z) (fun _ hK => v_fieldAddr 1 runUnderlying32 Z sizeOf29 Z Z) (RD_tg 19 Z kR Z (yl Z Z) (fun _ hK => v_load_B 3 hK isAgg29 Z Z Z) ?_)))))))
   refine RD_run [20] kR Z (RDs.cons Z ?_ RDs.nil)
   refine gR Z (o_call call37 Z Z (w_sameTree_c _ _ (H.lendSubL [4]) _ _ (H.lendOIs (k := 4) (ks := [4]) Z Z ⟨_, p25⟩) _ _ (hr2'.up (PPlus.le _ _ _)) (by first | rfl | assumption)) ?_)
   rintro _ w25 ⟨rfl, ew25⟩; have H := H.step ew25; refine ⟨_, rfl, ?_⟩
   refine R_nil (N_DK (Kn.of' H hd20 (SubL.cons 0 Z (SubL.cons 1 Z (SubL.cons 2 Z (SubL.cons 5 Z SubL.nil))))) (RD_t 21 Z kR Z (fun _ hK => v_pick_t Z Z) (vM 22 Z Z (RD_tg 23 Z kR Z (yl Z Z) (fun _ hK => v_fieldAddr 0 runUnderlying32 Z sizeOf28 Z Z) (RD_tg 24 Z kR Z (yl Z Z) (fun _ hK => v_load_B 2 hK isAgg28 Z Z Z) (RD_tg 25 Z kR Z (yl Z Z) (fun _ hK => v_len_slice underlying28 Z) (RD_tg 26 Z kR Z (yl Z Z) (fun _ hK => v_fieldAddr 0 runUnderlying32 Z sizeOf28 Z Z) (RD_tg 27 Z kR Z (yl Z Z) (fun _ hK => v_load_B 3 hK isAgg28 Z Z Z) (RD_tg 28 Z kR Z (yl Z Z) (fun _ hK => v_len_slice underlying28 Z) (RD_tg 29 Z kR Z (yl Z Z) (fun _ hK => v_eql Z Z) (RD_t 30 Z kR Z (fun _ hK => v_pick_t Z Z) (vM 31 Z Z ?_))))))))))))
   refine RD_case (t := 90) Z ?_ ?_
   ·intro hc26
    try simp only [nrm] at hc26
    refine RD_tg 32 Z kR Z (yl Z Z) (fun _ hK => v_fieldAddr 2 runUnderlying32 Z sizeOf30 Z Z) (RD_tg 33 Z kR Z (yl Z Z) (fun _ hK => v_load_B 2 hK isAgg30 Z Z Z) (RD_tg 34 Z kR Z (yl Z Z) (fun _ hK => v_fieldAddr 2 runUnderlying32 Z sizeOf30 Z Z) (RD_tg 35 Z kR Z (yl Z Z) (fun _ hK => v_load_B 3 hK isAgg30 Z Z Z) (RD_tg 36 Z kR Z (yl Z Z) (fun _ hK => v_len_slice underlying30 Z) ?_))))
    have hcap27 := hsr16.cap; try simp only [List.length_set, List.length_append, List.length_take, List.length_drop, List.length_replicate] at hcap27
    have hsl27 := hsr16.take (j := uV.snaps.length) aN
    have hsn1 := hsl27.len
    refine RD_tg 37 Z kR Z (yl Z Z) (fun _ hK => v_slice_to (j := uV.snaps.length) underlying30 sizeOf58 Z Z oM oM) (RD_tg 38 Z kR Z (yl Z Z) (fun _ hK => v_fieldAddr 2 runUnderlying32 Z sizeOf30 Z Z) (RD_tg 39 Z kR Z (yl Z Z) (fun _ hK => v_load_B 3 hK isAgg30 Z Z Z) ?_))
    refine RD_run [40] kR Z (RDs.cons Z ?_ RDs.nil)
    refine gR Z (o_call call38 Z Z (w_sameSnaps_c _ _ H.sub _ _ hsl27 _ _ hr2'' (by (rw [hsn, List.take_left]))) ?_)
    rintro _ w28 ⟨rfl, ew28⟩; have H := H.step ew28; refine ⟨_, rfl, ?_⟩
    refine R_nil (N_DK (Kn.of' H hd20 (SubL.cons 0 Z (SubL.cons 1 Z (SubL.cons 2 Z (SubL.cons 5 Z SubL.nil))))) (RD_t 41 Z kR Z (fun _ hK => v_pick_t Z Z) (RD_t 42 Z kR Z (fun _ hK => v_assign Z) (RD_done kR (N_K (W_ret (rt1 results5 Z ?_)))))))
    exact H.rets Z
   intro hc26'
   try simp only [nrm] at hc26'
   exact absurd (show False from by simp_all) id
  intro hc23'
  try simp only [nrm] at hc23'
  exact absurd (show False from by simp_all) id
 intro hc22'
 try simp only [nrm] at hc22'
 exact absurd (show False from by simp_all) id
end Go.Proofs.Tst

namespace Go.Proofs.Tst
open Go Fw Tryz
theorem lSnapBack_c (w0 : World) (G0 : PH) (hG : PSub G0 w0) (vcode : Value) (code : List (UInt8)) (hcode : RdU G0 vcode code)  :
  Calls Tryz.prog 8 #[vcode] w0 (Rets w0 (.bool true)) := by
 obtain ⟨acode, kcode, rfl⟩ := hcode.shape
 have hlimcode : code.length ≤ 1099511627776 := hcode.lim
 have H := Hp.init hG
 refine calls_of_W (l := [.slice acode code.length kcode]) func8 Z ntmps8 Z (q2 (aG Z (q3 (W_seq (q2 (mV Z (o_len_slice underlying54 Z Z (o_gtr Z Z Z (q3 ?_)))))))))
 refine W_cond Z ?_ ?_
 ·intro hc1
  try simp only [nrm] at hc1
  refine q2 (aG Z (q3 (W_ret (N_K_ret (rt1 results8 Z ?_)))))
  exact H.rets Z
 intro hc1'
 try simp only [nrm] at hc1'
 refine W_skip (N_K (q2 (mV Z (o_call call41 Z Z (DrawSnapBack_c _ _ H.sub _ _ hcode ) ?_))))
 rintro _ w2 ⟨G2, _, g2, rfl, ⟨cV, uV, uP0, rfl, hV, hP0⟩⟩
 have H := H.grow g2
 obtain ⟨a2, m2, c2, a2', m2', c2', a2'', m2'', c2'', rfl, hr2, hr2', hr2''⟩ := hV; have hn_hr2 := hr2.len; have hx_hr2 : _ ≤ 1099511627776 := hr2.lim; have hn_hr2q := hr2'.len; have hx_hr2q : _ ≤ 1099511627776 := hr2'.lim; have hn_hr2qq := hr2''.len; have hx_hr2qq : _ ≤ 1099511627776 := hr2''.lim
 refine ⟨_, Z, ?_⟩
 refine mV Z (o_extract Z Z Z (o_extract Z Z Z (o_alloc H zeroValue32 Z Z ?_))); intro b3 w3 hb3 H
 refine o_store_B 0 H sizeOf32 Z Z Z Z Z Z Z Z ?_; intro w4 H
 refine aG Z (q1 (o_loadagg_B 0 H isAgg32 sizeOf32 Z Z Z Z Z (mV Z (o_call call40 Z Z (i_SnapBack_c _ _ H.sub _ uV ⟨_, _, _, _, _, _, _, _, _, Z, hr2, hr2', hr2''⟩ _ hP0 ) ?_))))
 rintro _ w5 ⟨_, _, rfl, H5', ⟨u15, u25, u35, E15, E25, E35, rfl, rfl, ho15, ho25, ho35⟩⟩
 have H := H.readers (fp := []) (by simp) (PLe.refl _) H5'
 obtain ⟨x15, p15⟩ := ho15
 obtain ⟨a15, c15, rfl⟩ := OwnS.shape p15
 obtain ⟨x25, p25⟩ := ho25
 obtain ⟨a25, c25, rfl⟩ := OwnS.shape p25
 obtain ⟨x35, p35⟩ := ho35
 obtain ⟨a35, c35, rfl⟩ := OwnS.shape p35
 refine ⟨_, Z, ?_⟩
 refine mV Z (o_extract Z Z Z (o_extract Z Z Z (o_alloc H zeroValue32 Z Z ?_))); intro b6 w6 hb6 H
 refine o_store_B 0 H sizeOf32 Z Z Z Z Z Z Z Z ?_; intro w7 H
 refine aG Z (q1 (o_loadagg_B 4 H isAgg32 sizeOf32 Z Z Z Z Z (mV Z (o_call call39 Z Z (SnapBackP_c _ _ H.sub _ uV ⟨_, _, _, _, _, _, _, _, _, Z, hr2, hr2', hr2''⟩ _ hP0 ) ?_))))
 rintro _ w8 ⟨G8, _, g8, rfl, u8_0, rfl, hr8_0⟩
 have H := H.grow g8
 have hr2'' := hr2''.up g8.le
 obtain ⟨a9, m9, c9, a9', m9', c9', a9'', m9'', c9'', rfl, hr9, hr9', hr9''⟩ := hr8_0; have hn_hr9 := hr9.len; have hx_hr9 : _ ≤ 1099511627776 := hr9.lim; have hn_hr9q := hr9'.len; have hx_hr9q : _ ≤ 1099511627776 := hr9'.lim; have hn_hr9qq := hr9''.len; have hx_hr9qq : _ ≤ 1099511627776 := hr9''.lim
 refine ⟨_, Z, ?_⟩
 refine mV Z (o_extract Z Z Z (o_extract Z Z Z (o_alloc H zeroValue32 Z Z ?_))); intro b10 w10 hb10 H
 refine o_store_B 0 H sizeOf32 Z Z Z Z Z Z Z Z ?_; intro w11 H
 refine aG Z (q3 (W_seq (q2 (mV Z (mV Z (o_bneq_same underlying4 Z Z Z (mV Z (gR Z (o_loadagg_B 1 H isAgg32 sizeOf32 Z Z Z Z Z (gR Z (o_loadagg_B 0 H isAgg32 sizeOf32 Z Z Z Z Z (gR Z (o_call call35 Z Z (w_sameDisk_c _ _ (H.lendSubL [2, 3, 4]) _ ((Sp.SnapBack uV uP0).getD ⟨[], [], []⟩) ⟨_, _, _, _, _, _, _, _, _, Z, (H.lendOHs (k := 2) (ks := [2, 3, 4]) Z Z ⟨_, p15⟩), (H.lendOIs (k := 3) (ks := [2, 3, 4]) Z Z ⟨_, p25⟩), (H.lendOSn (k := 4) (ks := [2, 3, 4]) Z Z ⟨_, p35⟩)⟩ _ ((Sp.SnapBack uV uP0).getD ⟨[], [], []⟩) ⟨_, _, _, _, _, _, _, _, _, Z, (hr9.up (PPlus.le _ _ _)), (hr9'.up (PPlus.le _ _ _)), (hr9''.up (PPlus.le _ _ _))⟩ Z) ?_)))))))))))))
 rintro _ w12 ⟨rfl, ew12⟩; have H := H.step ew12; refine ⟨_, rfl, ?_⟩
 refine gR Z (o_not Z Z (o_pick_f Z Z Z (mV Z (gR Z (mV Z (gR Z (o_not Z Z (o_pick_f Z Z Z (q3 ?_)))))))))
 refine W_cond Z ?_ ?_
 ·intro hc13
  try simp only [nrm] at hc13
  refine q2 (mV Z (mV Z (o_beql_same underlying4 Z Z Z (mV Z (gR Z (o_loadagg_B 1 H isAgg32 sizeOf32 Z Z Z Z Z (gR Z (o_loadagg_B 0 H isAgg32 sizeOf32 Z Z Z Z Z (gR Z (o_call call35 Z Z (w_sameDisk_c _ _ (H.lendSubL [2, 3, 4]) _ ((Sp.SnapBack uV uP0).getD ⟨[], [], []⟩) ⟨_, _, _, _, _, _, _, _, _, Z, (H.lendOHs (k := 2) (ks := [2, 3, 4]) Z Z ⟨_, p15⟩), (H.lendOIs (k := 3) (ks := [2, 3, 4]) Z Z ⟨_, p25⟩), (H.lendOSn (k := 4) (ks := [2, 3, 4]) Z Z ⟨_, p35⟩)⟩ _ ((Sp.SnapBack uV uP0).getD ⟨[], [], []⟩) ⟨_, _, _, _, _, _, _, _, _, Z, (hr9.up (PPlus.le _ _ _)), (hr9'.up (PPlus.le _ _ _)), (hr9''.up (PPlus.le _ _ _))⟩ Z) ?_))))))))))
  rintro _ w14 ⟨rfl, ew14⟩; have H := H.step ew14; refine ⟨_, rfl, ?_⟩
  refine o_pick_t Z Z Z (aG Z (q3 (W_ret (N_K_ret (rt1 results8 Z ?_)))))
  exact H.rets Z
 intro hc13'
 try simp only [nrm] at hc13'
 obtain ⟨u2, hu2⟩ := Option.isSome_iff_exists.1 (show (Sp.SnapBack uV uP0).isSome = true by simpa using hc13')
 have hW : (Sp.SnapBack uV uP0).getD ⟨[], [], []⟩ = u2 := by (rw [hu2]; rfl)
 have hvv : Sp.DiskValid ((Sp.SnapBack uV uP0).getD ⟨[], [], []⟩) = true := by (rw [hW]; exact Sp.back_valid hu2)
 refine W_skip (N_K (W_seq (q2 (aG Z (q3 (W_block ?_))))))
 obtain ⟨ln15, hln15, H⟩ := H.name (k := 0) rfl
 obtain ⟨ln16, hln16, H⟩ := H.name (k := 1) rfl
 obtain ⟨ln17, hln17, H⟩ := H.name (k := 5) rfl
 refine W_lp (hf := (Sub.cons (t := 3) Z (Sub.cons (t := 4) Z (Sub.cons (t := 5) Z Sub.nil)))) (J := fun M w m => ∃ (k : Nat) (G : PH), M = [(9, .int .i64 (k : Int))] ∧ PLe G8 G ∧ Hp w0 G0 [] w G [blk b10 (cl ln15 32), blk b6 (cl ln16 32), frag E15, frag E25, frag E35, blk b3 (cl ln17 32)] ∧ (k ≤ uV.snaps.length ∧ ∀ j s, j < k → uV.snaps[j]? = some s → s.name ≠ uP0) ∧ m = (uV.snaps.length - k)) (h0 := ⟨0, _, Z, PLe.refl _, H, ?inv, Z⟩) (round := ?round)
 case inv => exact ⟨by omega, fun j s hj => by omega⟩
 case round =>
  rintro _ w18 _ ⟨k, G18, rfl, hle18, H, hinv18, rfl⟩
  subst hln15
  subst hln16
  subst hln17
  have hr2'' := hr2''.up hle18
  obtain ⟨hk, hno⟩ := hinv18
  refine W_seq (q2 (mV Z (o_fieldAddr 2 runUnderlying32 Z sizeOf30 Z Z Z (o_load_B 5 H isAgg30 Z Z Z Z (o_len_slice underlying30 Z Z (o_lss Z Z Z (q3 ?_)))))))
  refine W_cond Z ?_ ?_
  ·intro hc19
   try simp only [nrm] at hc19
   refine W_skip (N_K (W_seq (W_block (q2 (o_fieldAddr 2 runUnderlying32 Z sizeOf30 Z Z Z (o_load_B 5 H isAgg30 Z Z Z Z (mV Z (o_index_P k hr2'' underlying30 sizeOf58 Z Z Z Z aN ?_)))))))); intro b20 o20 z20 q20 hz20 hE20 hrow20
   obtain ⟨a20, m20, c20, rfl, hi20, hr20⟩ := hE20; have hy_hi20 : _ ≤ 16777216 := hi20; have hn_hr20 := hr20.len; have hx_hr20 : _ ≤ 1099511627776 := hr20.lim
   refine o_fieldAddr 0 runUnderlying58 Z sizeOf9 Z Z Z (o_load_P H isAgg9 Z Z (hrow20 0 _ Z) (mV Z (o_seql Z Z Z (q3 ?_))))
   refine W_cond Z ?_ ?_
   ·intro hc21
    try simp only [nrm] at hc21
    obtain ⟨hbt, hbs⟩ := Sp.back_find hu2 hno hz20 (by simpa using hc21)
    refine W_seq (W_drawK [0, 1, 5] 21 H kR Z ?_); intro w22 H; have hd22 := PLe.refl G18
    refine RD_t 0 Z kR Z (fun _ hK => v_loadagg_B 1 hK isAgg32 sizeOf32 Z Z Z Z) ?_
    refine RD_run [1] kR Z (RDs.cons Z ?_ RDs.nil)
    refine o_call call36 Z Z (i_DiskValid_c _ _ (H.lendSubL [2, 3, 4]) _ ((Sp.SnapBack uV uP0).getD ⟨[], [], []⟩) ⟨_, _, _, _, _, _, _, _, _, Z, (H.lendOHs (k := 2) (ks := [2, 3, 4]) Z Z ⟨_, p15⟩), (H.lendOIs (k := 3) (ks := [2, 3, 4]) Z Z ⟨_, p25⟩), (H.lendOSn (k := 4) (ks := [2, 3, 4]) Z Z ⟨_, p35⟩)⟩ ) ?_
    rintro _ w23 ⟨rfl, ew23⟩; have H := H.step ew23; refine ⟨_, rfl, ?_⟩
    refine R_nil (N_DK (Kn.of' H hd22 (SubL.cons 0 Z (SubL.cons 1 Z (SubL.cons 5 Z SubL.nil)))) (vM 2 Z Z ?_))
    refine RD_case (t := 68) Z ?_ ?_
    ·intro hc24
     try simp only [nrm] at hc24
     refine RD_tg 3 Z kR Z (yl Z Z) (fun _ hK => v_fieldAddr 1 runUnderlying32 Z sizeOf29 Z Z) (RD_tg 4 Z kR Z (yl Z Z) (fun _ hK => v_load_B 1 hK isAgg29 Z Z Z) (RD_tg 5 Z kR Z (yl Z Z) (fun _ hK => v_fieldAddr 2 runUnderlying32 Z sizeOf30 Z Z) (RD_tg 6 Z kR Z (yl Z Z) (fun _ hK => v_load_B 2 hK isAgg30 Z Z Z) (RD_tg 7 Z kR Z (yl Z Z) (fun _ hK => v_move Z) ?_))))
     have hl25 := hr2''.len
     obtain ⟨b25, o25, z25, q25, ha25, hz25, hq25, hE25, hrow25, _⟩ := hr2''.at (i := k) oM
     clear hq25
     obtain ⟨a25, m25, c25, rfl, hi25, hr25⟩ := hE25; have hy_hi25 : _ ≤ 16777216 := hi25; have hn_hr25 := hr25.len; have hx_hr25 : _ ≤ 1099511627776 := hr25.lim
     have hzz25 : z20 = z25 := Option.some.inj (hz20.symm.trans hz25)
     subst hzz25
     refine RD_tg 8 Z kR Z (yl Z Z) (fun _ hK => v_index_P (i := k) ha25 underlying30 sizeOf58 Z Z Z oM) (RD_tg 9 Z kR Z (yl Z Z) (fun _ hK => v_fieldAddr 1 runUnderlying58 Z sizeOf29 Z Z) (RD_tg 10 Z kR Z (yl Z Z) (fun _ hK => v_load_P hK isAgg29 Z (hrow25 1 _ Z)) ?_))
     refine RD_run [11] kR Z (RDs.cons Z ?_ RDs.nil)
     refine gR Z ?_
     refine o_call call37 Z Z (w_sameTree_c _ _ (H.lendSubL [3]) _ _ (H.lendOIs (k := 3) (ks := [3]) Z Z ⟨_, p25⟩) _ _ (hr25.up (PPlus.le _ _ _)) (by (rw [hW]; exact hbt))) ?_
     rintro _ w26 ⟨rfl, ew26⟩; have H := H.step ew26; refine ⟨_, rfl, ?_⟩
     refine R_nil (N_DK (Kn.of' H hd22 (SubL.cons 0 Z (SubL.cons 1 Z (SubL.cons 5 Z SubL.nil)))) (RD_t 12 Z kR Z (fun _ hK => v_pick_t Z Z) (vM 13 Z Z (RD_tg 14 Z kR Z (yl Z Z) (fun _ hK => v_fieldAddr 2 runUnderlying32 Z sizeOf30 Z Z) (RD_tg 15 Z kR Z (yl Z Z) (fun _ hK => v_load_B 1 hK isAgg30 Z Z Z) (RD_tg 16 Z kR Z (yl Z Z) (fun _ hK => v_fieldAddr 2 runUnderlying32 Z sizeOf30 Z Z) (RD_tg 17 Z kR Z (yl Z Z) (fun _ hK => v_load_B 2 hK isAgg30 Z Z Z) ?_)))))))
     refine RD_run [18] kR Z (RDs.cons Z ?_ RDs.nil)
     refine gR Z ?_
     refine o_call call38 Z Z (w_sameSnaps_c _ _ (H.lendSubL [4]) _ _ (H.lendOSn (k := 4) (ks := [4]) Z Z ⟨_, p35⟩) _ _ (hr2''.up (PPlus.le _ _ _)) (by (rw [hW]; exact hbs))) ?_
     rintro _ w27 ⟨rfl, ew27⟩; have H := H.step ew27; refine ⟨_, rfl, ?_⟩
     refine R_nil (N_DK (Kn.of' H hd22 (SubL.cons 0 Z (SubL.cons 1 Z (SubL.cons 5 Z SubL.nil)))) (RD_t 19 Z kR Z (fun _ hK => v_pick_t Z Z) (RD_t 20 Z kR Z (fun _ hK => v_assign Z) (RD_done kR (N_K (W_ret (N_B_ret (N_K_ret (N_LP_ret (N_B_ret (N_K_ret (rt1 results8 Z ?_))))))))))))
     exact H.rets Z
    intro hc24'
    try simp only [nrm] at hc24'
    exact absurd (show False from by first | omega | simp_all) id
   intro hc21'
   try simp only [nrm] at hc21'
   refine W_skip (N_B (N_K (W_region (mV Z (o_add Z Z Z oO (aG Z (R_nil ?_)))))))
   refine N_lp (hJ := ⟨k + 1, _, Z, hle18, H, ?inv, Z⟩) (hm := ?hm)
   case hm => omega
   case inv => exact ⟨by omega, Sp.names_no hno hz20 (by simpa using hc21')⟩
  intro hc19'
  try simp only [nrm] at hc19'
  refine W_exit (N_K_exit (N_LP_exit (N_B_same (N_K (q2 (aG Z (q3 (W_ret (rt1 results8 Z ?_)))))))))
  exact absurd (Sp.back_none hu2 hno) oM
end Go.Proofs.Tst

namespace Fw
open Go
section
variable {H : Type} {enc : TypeId × Value → H} {P : Program} {W : World}
structure Bulk (bk : DataW H → Nat) (bka : List (DataW H) → Nat) : Prop where
 slice : ∀ es sp, bk (.slice es sp) = bka es + bka sp + 1
 agg : ∀ ps, bk (.agg ps) = bka ps + 1
 str : ∀ b, bk (.lit (.string b)) = b.length + 1
 nil : bka [] = 0
 cons : ∀ d r, bka (d :: r) = bk d + bka r
 pos : ∀ d, 1 ≤ bk d
variable {bk : DataW H → Nat} {bka : List (DataW H) → Nat}
theorem Bulk.len (hb : Bulk bk bka) : ∀ l, l.length ≤ bka l
 | [] => by simp
 | d :: r => by
  have h1 := hb.len r
  have h2 := hb.pos d
  rw [hb.cons]
  simp; omega
theorem Bulk.mem (hb : Bulk bk bka) {d : DataW H} : ∀ {l : List (DataW H)}, d ∈ l → bk d ≤ bka l
 | [], h => by simp at h
 | e :: r, h => by
  rw [hb.cons]
  rcases List.mem_cons.1 h with rfl | h
  ·omega
  ·have := hb.mem h
   omega
theorem Bulk.memF (hb : Bulk bk bka) {l : List (DataW H × List MemPlace)} {i : Nat} (hi : i < l.length) : bk (l[i]).1 ≤ bka (l.map (fun x => x.1)) :=
 hb.mem (List.mem_map.2 ⟨l[i], List.getElem_mem hi, rfl⟩)
abbrev Reads (enc : TypeId × Value → H) (P : Program) (W : World) (n : Nat) (t : TypeId) (cs : List Value) : Option (DataW H × List MemPlace) := DataW.trod enc P W 0 (fun _ => true) true n t cs
def Elem (enc : TypeId × Value → H) (P : Program) (W : World) (bk : DataW H → Nat) (t : TypeId) (sz : Nat) {α : Type} (E : PH → α → List Value → Prop) : Prop :=
 ∀ n cs x, Reads enc P W n t cs = some x → bk x.1 ≤ 1048576 → ∃ a, cs.length = sz ∧ E (PAll W) a cs
theorem elem_u8 {t : TypeId} (ht : P.underlying t = some (.int .u8)) : Elem enc P W bk t 1 u8E := by
 intro n cs x h _
 obtain ⟨i, rfl, _, hw⟩ := DataW.trod_int ht h
 simp [Lit.wf, IntKind.min, IntKind.max, IntKind.signed, IntKind.bits] at hw
 refine ⟨UInt8.ofNat i.toNat, rfl, ?_⟩
 show [Value.int .u8 i] = [.int .u8 ((UInt8.ofNat i.toNat).toNat : Int)]
 congr 2
 rw [UInt8.toNat_ofNat']
 omega
theorem list_of {α : Type} {Q : Nat → α → Prop} : ∀ n, (∀ i, i < n → ∃ x, Q i x) → ∃ xs : List α, xs.length = n ∧ ∀ i x, xs[i]? = some x → Q i x
 | 0, _ => ⟨[], rfl, by simp⟩
 | n + 1, h => by
  obtain ⟨xs, h1, h2⟩ := list_of n (fun i hi => h i (by omega))
  obtain ⟨x, hx⟩ := h n (by omega)
  refine ⟨xs ++ [x], by simp [h1], fun i y hy => ?_⟩
  by_cases hi : i < n
  ·rw [List.getElem?_append_left (by omega)] at hy
   exact h2 i y hy
  ·rw [List.getElem?_append_right (by omega)] at hy
   have : i = n := by
    have := (List.getElem?_eq_some_iff.1 hy).1
    simp at this
    omega
   subst this
   simp [h1] at hy
   subst hy
   exact hx
theorem mapM_at {α β : Type} {f : α → Option β} : ∀ {l : List α} {r : List β}, l.mapM f = some r → ∀ (i : Nat) (x : α), l[i]? = some x → f x = r[i]?
 | [], r, h, i, x, hx => by simp at hx
 | y :: t, r, h, i, x, hx => by
  simp only [List.mapM_cons, Option.bind_eq_bind, Option.bind_eq_some_iff, Option.pure_def, Option.some.injEq] at h
  obtain ⟨z, h1, u, h2, rfl⟩ := h
  cases i with
  | zero => simp at hx; subst hx; simpa using h1
  | succ i => simp only [List.getElem?_cons_succ] at hx ⊢; exact mapM_at h2 i x hx
theorem pcell_of {b o : Nat} {v : Value} (h : W.cell? ⟨b, o, none⟩ = some v) : PCell (PAll W) b o v := by
 unfold World.cell? at h
 unfold PCell PAll
 split at h
 ·rename_i C e fz hb
  exact ⟨C, e, fz, hb, by simpa using h⟩
 ·cases h
theorem elem_slice {α : Type} {E : PH → α → List Value → Prop} (hb : Bulk bk bka) {t e : TypeId} {sz : Nat} (ht : P.underlying t = some (.slice e)) (hz : P.cellsOf e = sz) (hsz : 0 < sz) (hE : Elem enc P W bk e sz E) :
  ∀ n cs x, Reads enc P W n t cs = some x → bk x.1 ≤ 1048576 → ∃ v xs, cs = [v] ∧ RdS LIM E sz (PAll W) v xs := by
 intro n cs x h hx
 rcases DataW.trod_slice ht h with ⟨rfl, _⟩ | ⟨a, len, cap, elems, rest, m, _, rfl, rfl, _, h2, _, h4, h5, _, _⟩
 ·exact ⟨_, [], rfl, RdS.nil _ _ _⟩
 ·simp only [hb.slice] at hx
  rw [hz] at h5
  have hle := hb.len (elems.map (·.1))
  rw [List.length_map] at hle
  have hel : ∀ i, i < len → ∃ y : α, ∃ cs, cs.length = sz ∧ E (PAll W) y cs ∧ ∀ j v, cs[j]? = some v → W.cell? ((a.add (i * sz)).add j) = some v := by
   intro i hi
   have h6 := h5 i hi
   rw [List.getElem?_eq_getElem (by omega)] at h6
   obtain ⟨cs, k1, k2⟩ := Option.bind_eq_some_iff.1 h6
   obtain ⟨y, k3, k4⟩ := hE m cs _ k2 (Nat.le_trans (hb.memF (by omega)) (by omega))
   refine ⟨y, cs, k3, k4, fun j v hj => ?_⟩
   unfold World.cells? at k1
   split at k1
   ·have hjl := (List.getElem?_eq_some_iff.1 hj).1
    rw [← hj]
    exact mapM_at k1 j j (by rw [List.getElem?_range (by omega)])
   ·cases k1
  obtain ⟨xs, x1, x2⟩ := list_of len hel
  refine ⟨_, xs, rfl, some a, cap, by rw [x1], by omega, by simp only [LIM]; omega, ?_⟩
  by_cases h0 : len = 0
  ·exact .inl (List.eq_nil_of_length_eq_zero (by omega))
  ·right
   have hspot : a.spot = none := by
    obtain ⟨y, cs, y1, _, y2⟩ := hel 0 (by omega)
    have := World.cell?_spot (y2 0 cs[0] (by simp))
    simpa [Addr.add] using this
   obtain ⟨b, o, sp⟩ := a
   simp only at hspot
   subst hspot
   refine ⟨b, o, rfl, fun i y hy => ?_⟩
   obtain ⟨cs, c1, c2, c3⟩ := x2 i y hy
   refine ⟨cs, c1, c2, fun j v hj => pcell_of ?_⟩
   have := c3 j v hj
   rwa [Addr.add_lit, Addr.add_lit] at this
variable {ti ts tb tis : TypeId}
theorem same_of_ext {w w' : World} (h : Ext w w') {p : MemPlace} (hp : p.block < w.heap.size) : w.sameAt w' p := by
 have hb := h.block p.block hp
 cases p with
 | cell b off => simp only [World.sameAt, World.cell?]; simp only [MemPlace.block] at hb; rw [hb]
 | map b => simp only [World.sameAt]; simpa [MemPlace.block] using hb
end
end Fw
namespace Fw
open Go Go.ChangeShapes Go.WideShapes
section
variable {H : Type} {enc : TypeId × Value → H} {P : Program}
theorem trodAll_stays (hl : laidOutB P = true) {W W' : World} {sp' : Nat → Bool} : ∀ {ts : List TypeId} {vs : List Value} {ds : List (DataW H)} {ps : List MemPlace}, (∀ t, t ∈ ts → P.readableRec t = true ∧ t < P.types.size) →
  DataW.TrodAll enc P W 0 (fun _ => true) true ts vs ds ps → (∀ p ∈ ps, W.sameAt W' p) → (∀ p ∈ ps, sp' p.block = true) → DataW.TrodAll enc P W' 0 sp' true ts vs ds ps
 | [], _, _, _, _, h, _, _ => by
  obtain ⟨rfl, rfl, rfl⟩ := trodAll_nil h
  rfl
 | t :: ts, _, _, _, hr, h, hs, hq => by
  obtain ⟨v, vs1, d, ds1, a, b, rfl, rfl, rfl, h1, h2⟩ := trodAll_cons h
  exact ⟨a, b, WideElems.Trod_stays hl (hr t (by simp)).1 (hr t (by simp)).2 h1 (fun p hp => hs p (by simp [hp])) (fun p hp => hq p (by simp [hp])),
   trodAll_stays hl (fun t ht => hr t (by simp [ht])) h2 (fun p hp => hs p (by simp [hp])) (fun p hp => hq p (by simp [hp])), rfl⟩
theorem kept_of_ext {W W' : World} (h : Ext W W') (may : MemPlace → Prop) : W.keptBut W' may := by
 refine ⟨h.os, h.output, fun i hi => ?_⟩
 rw [h.block i hi]
 cases W.heap[i]? with
 | none => simp
 | some o => cases o <;> simp
theorem law_post {f : Func} {s : ChangeSpec} {apart fresh handsOn again : Bool} {W W' : World} {args : Array Value} {ds gs : List (DataW H)} {before : List MemPlace} (hl : laidOutB P = true) (hr : ∀ t, t ∈ f.params.toList → P.readableRec t = true ∧ t < P.types.size)
  (hv : s.vars = []) (hW : DataW.Whole enc P f.params.toList s.vars apart W args.toList ds gs before) (hx : Ext W W') (hfr : (s.fn H (ds ++ gs)).results = [.lit (.bool true)]) (hfa : (s.fn H (ds ++ gs)).args = ds) (hfv : (s.fn H (ds ++ gs)).vars = [])
  (hres : ∀ (b : Nat) (sp : Nat → Bool) (hd : Bool), DataW.TrodAll enc P W' b sp hd f.resultTypes.toList ((Value.bool true).resultList f.resultTypes.size) [.lit (.bool true)] [])
  (hok : ∀ (j : Nat) (t : TypeId) (r : Value), f.resultTypes[j]? = some t → ((Value.bool true).resultList f.resultTypes.size)[j]? = some r → Value.okWide P W' .any 0 t r) :
  s.post enc P f apart fresh handsOn again W args (.bool true) W' := by
 have hW' := hW
 obtain ⟨p, q, hA, hV, rfl, hz, hn⟩ := hW
 rw [hv] at hV
 have hgs : gs = [] ∧ q = [] := by
  cases gs with
  | nil => exact ⟨rfl, hV⟩
  | cons d r => exact hV.elim
 obtain ⟨rfl, rfl⟩ := hgs
 rw [List.append_nil] at hW' hz hn
 have hlt : ∀ m ∈ p, m.block < W.heap.size := fun m hm => hW'.lt m hm
 have hold : ∀ m ∈ p, (fun b => decide (b < W.heap.size)) m.block = true := fun m hm => by simpa using hlt m hm
 have hargs : ∀ sp : Nat → Bool, (∀ m ∈ p, sp m.block = true) → DataW.TrodAll enc P W' 0 sp true f.params.toList args.toList (s.fn H (ds ++ [])).args p := fun sp hsp => by
  rw [hfa]
  exact trodAll_stays hl hr hA (fun m hm => same_of_ext hx (hlt m hm)) hsp
 have hvars : ∀ sp : Nat → Bool, DataW.TrodVars enc P W' sp s.vars (s.fn H (ds ++ [])).vars [] := fun sp => by rw [hv, hfv]; rfl
 have hres' : ∀ (b : Nat) (sp : Nat → Bool) (hd : Bool), DataW.TrodAll enc P W' b sp hd f.resultTypes.toList ((Value.bool true).resultList f.resultTypes.size) (s.fn H (ds ++ [])).results [] := fun b sp hd => by rw [hfr]; exact hres b sp hd
 refine ⟨ds, [], p, [], p, [], hW', hres' _ _ _, hargs _ hold, hvars _, World.keptBut_mono (fun m hm => ⟨hm, Or.inr ?_⟩) (kept_of_ext hx (· ∈ p)), fun _ => ?_⟩
 ·simpa using hm
 ·refine ⟨hok, _, _, ([] ++ p) ++ [], ⟨[] ++ p, [], trodAll_append (hargs _ (fun _ _ => rfl)) (hres' _ _ _), hvars _, rfl, ?_, ?_⟩, ?_⟩
  ·intro b off hp
   have hp' : MemPlace.cell b off ∈ p := by simpa using hp
   have h1 := hz b off hp'
   have h2 := hx.block b (hlt _ hp')
   simp only [World.frozen?] at h1 ⊢
   rw [h2]
   exact h1
  ·intro ha
   simpa using hn ha
  ·intro m hm _
   simpa using hm
end
end Fw
namespace Fw
open Go Go.WideShapes
theorem slice_of {P : Program} {W : World} {b : Nat} {t e : TypeId} {v u : Value} (ht : P.underlying t = some (.slice e)) (h : Value.okWide P W .any b t v) (hu : v.cells.toList = [u]) : v = u := by
 unfold Value.okWide at h
 rw [ht] at h
 unfold Cell.okWide at h
 rw [ht] at h
 cases v <;> simp_all [Value.cells, Cell.ok]
end Fw
