/- Part 6 of the proof: contracts of functions of the program. Conditions: none. -/
import Derived.Test.YtcnapjpnemcolaaGreatDoorProg
import Derived.Test.YtcnapjpnemcolaaGreatDoorG02
import Derived.Test.YtcnapjpnemcolaaGreatDoorG03
import Derived.Test.YtcnapjpnemcolaaGreatDoorG04
import Derived.Test.YtcnapjpnemcolaaGreatDoorG05
set_option linter.all false
set_option maxRecDepth 100000
set_option maxHeartbeats 1000000
namespace Go.Proofs.Tst
open Go Fw Tryz
theorem i_changed_back_c (w0 : World) (G0 : PH) (hG : PSub G0 w0) (cd : List Value) (d : BDisk) (hd : diskE G0 d cd) (cp : Nat) (name : Bs) (hname : name.length ≤ 16777216) (hcp : PRow G0 cp 0 [str name])  :
  Calls Tryz.prog 36 #[.agg cd.toArray, .func (.func 61) #[] #[.pointer (some ⟨cp, 0, none⟩)]] w0 (RetN w0 G0 (fun v Bs => ∃ (v1 v2 v3 : Value) (F1 F2 F3 : Fr), v = .tuple #[.agg #[v1, v2, v3], .bool (Sp.SnapBack d name).isSome] ∧ Bs = [frag F1, frag F2, frag F3] ∧ OHs F1 v1 ((Sp.SnapBack d name).getD ⟨[], [], []⟩).store ∧ OIs F2 v2 ((Sp.SnapBack d name).getD ⟨[], [], []⟩).tree ∧ OSn F3 v3 ((Sp.SnapBack d name).getD ⟨[], [], []⟩).snaps)) := by
 obtain ⟨_, _, _, _, _, _, _, _, _, rfl, hr1, hr1', hr1'', ⟨_, _⟩, ⟨_, _⟩, _, _⟩ := ox hd
 have H := Hp.init hG
 refine calls_of_W (l := [_, .func (.func 61) #[] #[.pointer (some ⟨cp, 0, none⟩)]]) func36 Z ntmps36 Z (q2 (o_box H Z Z Z ?_)); intro _ _ _ H
 refine xal H Z ?_; intro _ _ _ H
 refine aG Z (q1 (lA 1 3 H Z4 (xc Z2 (i_newDisk_c _ _ H.sub _ d ⟨_, _, _, _, _, _, _, _, _, Z, hr1, hr1', hr1''⟩ H.lent0 ) ?_)))
 rintro _ _ ⟨_, _, _, rfl, H4', ⟨rfl, rfl, hnd4⟩ | ⟨_, _, _, _, _, _, _, _, _, _, _, rfl, rfl, hm4, hS4, hN4, hT4, hchk4, hNs4, hSn4, hdv4⟩⟩
 ·skip
  have H := H.borrow0 H4'
  refine ⟨_, Z, ?_⟩
  refine pe 5 Z (q3 (W_seq (q2 (pe 8 Z (q3 (W_true Z (q2 (o_build bf27 Z Z Z (xst 0 H Z8 ?_))))))))); intro _ H
  refine aG Z (q3 (W_ret (N_K_ret (ret_gen (rs := [.cell 4 27, .tmp 5]) (vs := [_, _]) results36 ⟨⟨_, Z, load_blk 0 H isAgg27 sizeOf27 Z Z Z⟩, Z, trivial⟩ ?_))))
  have H := H.dl 0
  have H := H.dl 0
  have hno : Sp.SnapBack d name = none := by (cases hh : Sp.SnapBack d name with | none => rfl | some q => (have hx := Sp.back_isv hh; rw [hnd4] at hx; cases hx))
  have H := (((H.addF).addF).addF).forget hG (by simp)
  refine ⟨_, _, Z, H, .slice none 0 0, .slice none 0 0, .slice none 0 0, [], [], [], ?_, Z, ?_, ?_, ?_⟩
  ·(rw [hno]; rfl)
  ·(rw [hno]; exact oh_nil)
  ·(rw [hno]; exact oi_nil)
  (rw [hno]; exact os_nil)
 skip
 have hcp := hcp.up H4'.le
 have H := H.borrow0 H4'
 obtain ⟨avAd, cvAd, rfl⟩ := H.accShape (k := 3) rfl
 refine ⟨_, Z, ?_⟩
 refine pe 5 Z (q3 (W_seq (q2 (pe 5 Z (gR Z ?_)))))
 have H := H.tF 4
 have H := H.tF 4
 have H := H.tF 4
 have H := H.tF 4
 have H := H.tF 4
 refine o_callc call61 Z Z Z (i_SnapBack1_c _ _ H.sub _ _ _ _ _ _ _ _ _ _ _ _ hm4 hS4 hN4 hT4 hchk4 hNs4 hSn4 hdv4 _ _ hname hcp H.lent5 ) ?_
 rintro _ _ ⟨_, _, _, rfl, H6', ⟨_, _, _, _, _, _, _, _, _, _, rfl, rfl, hm6, hS6, hV6, hN6, hchk6, hNs6, hd6⟩⟩
 have H := H.borrow5 H6'
 obtain ⟨avAd, cvAd, rfl⟩ := H.accShape (k := 3) rfl
 refine ⟨_, Z, ?_⟩
 refine pe 2 Z (q3 ?_)
 refine W_cond Z ?_ ?_
 ·intro hc7
  try simp only [nrm] at hc7
  refine q2 (o_build bf27 Z Z Z (xst 5 H Z8 ?_)); intro _ H
  refine aG Z (q3 (W_ret (N_K_ret (ret_gen (rs := [.cell 4 27, .tmp 5]) (vs := [_, _]) results36 ⟨⟨_, Z, load_blk 5 H isAgg27 sizeOf27 Z Z Z⟩, Z, trivial⟩ ?_))))
  have H := H.dl 0
  have H := H.dl 0
  have H := H.dl 0
  have H := H.dl 0
  have H := H.dl 0
  have H := H.dl 0
  have H := H.dl 0
  have hno : Sp.SnapBack d name = none := by simpa using hc7
  have H := (((H.addF).addF).addF).forget hG (by simp)
  refine ⟨_, _, Z, H, .slice none 0 0, .slice none 0 0, .slice none 0 0, [], [], [], ?_, Z, ?_, ?_, ?_⟩
  ·(rw [hno]; rfl)
  ·(rw [hno]; exact oh_nil)
  ·(rw [hno]; exact oi_nil)
  (rw [hno]; exact os_nil)
 intro hc7'
 try simp only [nrm] at hc7'
 obtain ⟨d2, hd2⟩ := Option.isSome_iff_exists.1 (show (Sp.SnapBack d name).isSome = true by simpa using hc7')
 obtain ⟨hL2, hT2, hsn2⟩ := hd6 d2 hd2; subst hL2
 refine W_skip (N_K (q2 (mV Z ?_)))
 have H := H.tF 4
 have H := H.tF 4
 have H := H.tF 4
 have H := H.tF 4
 have H := H.tF 4
 refine xc Z2 (i_disk_c _ _ H.sub _ _ _ _ _ _ _ _ _ _ _ _ hm6 hS6 hN6 hT2 hchk6 hNs6 hsn2 hV6 (Sp.dv_parts.1 (Sp.back_valid hd2)).2.2.1 H.lent5 ) ?_
 rintro _ _ ⟨_, _, _, rfl, H9', ⟨_, _, _, D19, D29, D39, rfl, rfl, ho19, ho29, ho39⟩⟩
 have H := H.borrow5 H9'
 obtain ⟨_, p19⟩ := ho19
 obtain ⟨a19, c19, rfl⟩ := OwnS.shape p19
 obtain ⟨_, p29⟩ := ho29
 obtain ⟨a29, c29, rfl⟩ := OwnS.shape p29
 obtain ⟨_, p39⟩ := ho39
 obtain ⟨a39, c39, rfl⟩ := OwnS.shape p39
 refine ⟨_, Z, ?_⟩
 refine xst 3 H Z8 ?_; intro _ H
 refine aG Z (q3 (W_ret (ret_gen (rs := [.cell 4 27, .tmp 5]) (vs := [_, _]) results36 ⟨⟨_, Z, load_blk 3 H isAgg27 sizeOf27 Z Z Z⟩, Z, trivial⟩ ?_)))
 have H := H.dl 3
 have H := H.dl 3
 have H := H.tF 2
 have H := H.tF 2
 have H := H.tF 2
 have H := H.forget hG (by simp)
 refine ⟨_, _, Z, H, .slice a19 d2.store.length c19, .slice a29 d2.tree.length c29, .slice a39 d2.snaps.length c39, D19, D29, D39, ?_, Z, ?_, ?_, ?_⟩
 ·(rw [hd2]; rfl)
 ·(rw [hd2]; exact ⟨_, p19⟩)
 ·(rw [hd2]; exact ⟨_, p29⟩)
 (rw [hd2]; exact ⟨_, p39⟩)
end Go.Proofs.Tst

namespace Go.Proofs.Tst
open Go Fw Tryz
theorem i_SnapBack_c (w0 : World) (G0 : PH) (hG : PSub G0 w0) (cd : List Value) (d : BDisk) (hd : diskE G0 d cd) (name : Bs) (hname : name.length ≤ 16777216)  :
  Calls Tryz.prog 25 #[.agg cd.toArray, str name] w0 (RetN w0 G0 (fun v Bs => ∃ (v1 v2 v3 : Value) (F1 F2 F3 : Fr), v = .tuple #[.agg #[v1, v2, v3], .bool (Sp.SnapBack d name).isSome] ∧ Bs = [frag F1, frag F2, frag F3] ∧ OHs F1 v1 ((Sp.SnapBack d name).getD ⟨[], [], []⟩).store ∧ OIs F2 v2 ((Sp.SnapBack d name).getD ⟨[], [], []⟩).tree ∧ OSn F3 v3 ((Sp.SnapBack d name).getD ⟨[], [], []⟩).snaps)) := by
 obtain ⟨_, _, _, _, _, _, _, _, _, rfl, hr1, hr1', hr1'', ⟨_, _⟩, ⟨_, _⟩, _, _⟩ := ox hd
 have H := Hp.init hG
 refine calls_of_W (l := [_, str name]) func25 Z ntmps25 Z (q2 (o_box H Z Z Z ?_)); intro _ _ _ H
 refine o_box H Z Z Z ?_; intro _ _ _ H
 refine xal H Z ?_; intro _ _ _ H
 refine aG Z (q1 (lA 2 3 H Z4 (o_makefn1 Z Z (xc Z2 (i_changed_back_c _ _ (H.lendSubL [1]) _ d ⟨_, _, _, _, _, _, _, _, _, Z, (hr1.up (PPlus.le _ _ _)), (hr1'.up (PPlus.le _ _ _)), (hr1''.up (PPlus.le _ _ _))⟩ _ _ hname (prow_blk (H.lendPredL (k := 1) (ks := [1]) Z Z)) ) ?_))))
 rintro _ _ ⟨_, _, rfl, H5', ⟨_, _, _, E15, E25, E35, rfl, rfl, ho15, ho25, ho35⟩⟩
 have H := H.readersL H5'
 obtain ⟨_, p15⟩ := ho15
 obtain ⟨a15, c15, rfl⟩ := OwnS.shape p15
 obtain ⟨_, p25⟩ := ho25
 obtain ⟨a25, c25, rfl⟩ := OwnS.shape p25
 obtain ⟨_, p35⟩ := ho35
 obtain ⟨a35, c35, rfl⟩ := OwnS.shape p35
 refine ⟨_, Z, ?_⟩
 refine pe 2 Z (xst 3 H Z8 ?_); intro _ H
 refine aG Z (q3 (W_ret (ret_gen (rs := [.cell 4 27, .tmp 5]) (vs := [_, _]) results25 ⟨⟨_, Z, load_blk 3 H isAgg27 sizeOf27 Z Z Z⟩, Z, trivial⟩ ?_)))
 have H := H.dl 3
 have H := H.dl 3
 have H := H.dl 3
 have H := H.tF 2
 have H := H.tF 2
 have H := H.tF 2
 exact ⟨_, _, Z, H, .slice a15 ((Sp.SnapBack d name).getD ⟨[], [], []⟩).store.length c15, .slice a25 ((Sp.SnapBack d name).getD ⟨[], [], []⟩).tree.length c25, .slice a35 ((Sp.SnapBack d name).getD ⟨[], [], []⟩).snaps.length c35, E15, E25, E35, Z, Z, ⟨_, p15⟩, ⟨_, p25⟩, ⟨_, p35⟩⟩
end Go.Proofs.Tst

namespace Go.Proofs.Tst
open Go Fw Tryz
theorem i_runsOf_c (w0 : World) (G0 : PH) (hG : PSub G0 w0) (vbytes : Value) (bytes : List (Int)) (hbytes : RdI G0 vbytes bytes) (hB : Sp.BlockValid bytes = true) :
  Calls Tryz.prog 70 #[vbytes] w0 (RetP w0 G0 (fun G v => RunP 120 G v (Sp.rns bytes))) := by
 obtain ⟨abytes, kbytes, rfl⟩ := hbytes.shape
 have hlimbytes : bytes.length ≤ 1099511627776 := hbytes.lim
 have hbl := Sp.bv_len hB
 obtain ⟨_, tl, hbe, hrn⟩ := Sp.rns_pos hB
 have htl : bytes.length = tl.length + 1 := congrArg List.length hbe
 have H := Hp.init hG
 refine calls_of_W (l := [.slice abytes bytes.length kbytes]) func70 Z ntmps70 Z (q2 (aG Z (q1 (mV Z (iP 0 hbytes Z3 Z ?_))))); intro _ _ z1 _ hz1 hE1 hrow1
 obtain ⟨rfl, hi1⟩ := hE1
 refine lP H hrow1 0 Z2 (o_build bf120 Z Z Z (o_box H Z Z Z ?_)); intro b2 _ _ H
 refine aG Z (q1 (pe 2 Z (q3 (W_seq (q2 (mV Z ?_))))))
 have hcap3 := hbytes.cap; try simp only [List.length_set, List.length_append, List.length_take, List.length_drop, List.length_replicate] at hcap3
 refine o_slice_from (i := 1) underlying38 sizeOf3 Z Z Z oM oM ?_
 have hsl3 := hbytes.part (i := 1) (j := _) oM (Nat.le_refl _)
 have hsn1 := hsl3.len
 refine lN Z (mV Z (q3 (W_block ?_)))
 (rw [show (bytes.drop 1).take (bytes.length - 1) = tl from by (rw [hbe]; simp)] at hsl3)
 refine W_lp (hf := (Sub.cons (t := 2) Z (Sub.cons (t := 3) Z (Sub.cons (t := 14) Z (Sub.cons (t := 15) Z Sub.nil))))) (J := fun M w m => ∃ (k : Nat) (lb : Nat) (done : List (Int × Int)) (mr x : Int) (G : PH), M = [(16, .int .i64 (k : Int)), (4, .pointer (some ⟨lb, 0, none⟩))] ∧ PLe G0 G ∧ Hp w0 G0 [] w G [blk lb (cl [.int .i64 mr, .int .i64 x, .pointer none] 120)] ∧ (k ≤ tl.length ∧ RunSeg 120 G (.pointer (some ⟨b2, 0, none⟩)) done (.pointer (some ⟨lb, 0, none⟩)) ∧ (1 ≤ mr ∧ mr ≤ 1 + (k : Int)) ∧ inI x ∧ Sp.rns bytes = Sp.rgo done mr x (tl.drop k)) ∧ m = (tl.length - k)) (h0 := ⟨0, b2, [], 1, z1, _, Z, PLe.refl _, H, ?inv, Z⟩) (round := ?round)
 case inv => exact ⟨by omega, RunSeg.nil _, oO, hi1, (by (rw [hrn, List.drop_zero]); subst hbe; simp at hz1; (rw [hz1]))⟩
 case round =>
  rintro _ _ _ ⟨k, lb, done, mr, x, _, rfl, hle4, H, hinv4, rfl⟩
  have hsl3 := hsl3.up hle4
  obtain ⟨_, hseg, _, hxi, hrg⟩ := hinv4
  refine q2 (pe 1 Z (q3 (W_seq ?_)))
  refine W_cond Z ?_ ?_
  ·intro hc5
   try simp only [nrm] at hc5
   refine W_skip (N_K (W_seq (W_block (q2 (iP k hsl3 Z3 Z ?_))))); intro _ _ z6 _ hz6 hE6 hrow6
   obtain ⟨rfl, hi6⟩ := hE6
   refine lP H hrow6 0 Z2 (aG Z (q3 (W_seq (q2 (pe 3 Z (fA 1 Z (lB 0 H Z3 (pe 1 Z (q3 ?_)))))))))
   refine W_cond Z ?_ ?_
   ·intro hc7
    try simp only [nrm] at hc7
    refine q2 (pe 2 Z (fA 0 Z (lB 0 H Z3 (aD Z2 (pe 1 Z (fA 0 Z (xst 0 H Z8 ?_))))))); intro _ H
    refine q3 (W_exit (N_K_exit (N_B_same (N_K (W_region (aD Z2 (mV Z (R_nil ?_))))))))
    refine N_lp (hJ := ⟨k + 1, lb, done, (mr + 1), x, _, Z, hle4, H, ?inv, Z⟩) (hm := ?hm)
    case hm => omega
    case inv => exact ⟨by omega, hseg, oO, hxi, by (rw [hrg, Sp.rgo_same hz6 oM])⟩
   intro hc7'
   try simp only [nrm] at hc7'
   refine W_skip (N_K (q2 (pe 2 Z (o_build bf120 Z Z Z (o_box H Z Z Z ?_))))); intro b11 _ _ H
   refine pe 1 Z (fA 2 Z (xst 1 H Z8 ?_)); intro _ H
   refine q3 (W_region (pe 2 Z (fA 2 Z (lB 1 H Z3 (aG Z (R_nil (N_B (N_K (W_region (aD Z2 (mV Z (R_nil ?_))))))))))))
   obtain ⟨_, H, hlr3, hbr3⟩ := H.keepB (k := 1) rfl
   have hseg := hseg.up hlr3
   have hle4 := hle4.trans hlr3
   have hsg3 := hseg.snoc hbr3 (by exact oO) hxi
   refine N_lp (hJ := ⟨k + 1, b11, (done ++ [(mr, x)]), 1, z6, _, Z, hle4, H, ?inv, Z⟩) (hm := ?hm)
   case hm => omega
   case inv => exact ⟨by omega, hsg3, oO, hi6, by (rw [hrg, Sp.rgo_next hz6 oM])⟩
  intro hc5'
  try simp only [nrm] at hc5'
  refine W_exit (N_K_exit (N_LP_exit (N_B_same (N_K (q2 (pe 2 Z (q3 (W_ret (rt1 results70 Z ?_)))))))))
  obtain ⟨_, H, hlz, hbz⟩ := H.keepB (k := 0) rfl
  have hsz := (hseg.up hlz).snoc hbz oO hxi
  have hkk : k = tl.length := by first | omega | (simp at *; omega)
  have hre : Sp.rns bytes = done ++ [(mr, x)] := by (rw [hrg, hkk, List.drop_length]; rfl)
  exact H.retP (by (rw [hre]; exact hsz))
theorem i_BlockPack_c (w0 : World) (G0 : PH) (hG : PSub G0 w0) (vbytes : Value) (bytes : List (Int)) (hbytes : RdI G0 vbytes bytes)  :
  Calls Tryz.prog 31 #[vbytes] w0 (RetN w0 G0 (fun v Bs => ∃ (uv : Value) (c : List Value) (xs : List Int), v = .tuple #[uv, .bool (Sp.BlockValid bytes)] ∧ Bs = [acc 3 1 uv xs.length c] ∧ Chk intE 1 (fun _ => none) c xs ∧ xs.length ≤ 16 ∧ (Sp.BlockValid bytes = true → xs.length = 2 * Sp.runs bytes))) := by
 obtain ⟨abytes, kbytes, rfl⟩ := hbytes.shape
 have hlimbytes : bytes.length ≤ 1099511627776 := hbytes.lim
 have H := Hp.init hG
 refine calls_of_W (l := [.slice abytes bytes.length kbytes]) func31 Z ntmps31 Z (q2 (pe 2 Z (q3 (W_seq (q2 (mV Z (xr H Z2 (i_BlockValid_c _ _ H.sub _ _ hbytes ) ?_))))))); intro _ H
 refine pe 1 Z (q3 ?_)
 refine W_cond Z ?_ ?_
 ·intro hc2
  try simp only [nrm] at hc2
  refine q2 (pe 2 Z (q3 (W_ret (N_K_ret (rt2 results31 Z Z ?_)))))
  have H := H.addNil 3 1
  have hno : Sp.BlockValid bytes = false := by simpa using hc2
  have H := H.forget hG (by simp)
  exact ⟨_, _, rfl, H, _, _, [], (by (rw [hno]; rfl)), rfl, (Chk.nil (E := intE) (sz := 1) (G := G0)), by simp, fun h => (by rw [hno] at h; cases h)⟩
 intro hc2'
 try simp only [nrm] at hc2'
 have hB : Sp.BlockValid bytes = true := by simpa using hc2'
 have hbl := Sp.bv_len hB
 have hrb := Sp.runs_le bytes
 have hrl := Sp.rns_len bytes
 refine W_skip (N_K (q2 (aG Z (q3 (W_seq (q2 (mV Z (xc Z2 (i_runsOf_c _ _ H.sub _ _ hbytes hB) ?_))))))))
 rintro _ _ ⟨G3, _, g3, rfl, hrp3⟩
 have H := H.grow g3
 refine ⟨_, Z, ?_⟩
 refine aG Z (q3 (W_block ?_))
 obtain ⟨pq0, rfl⟩ := hrp3.shape
 have H := H.addNil 3 1
 refine W_lp (hf := (Sub.cons (t := 2) Z (Sub.cons (t := 3) Z Sub.nil))) (J := fun M w m => ∃ (v : Value) (n : Nat) (cs : List Value) (xs : List (Int)) (pq : Option Addr) (rq : List (Int × Int)) (G : PH), M = [(5, .pointer pq), (4, v)] ∧ PLe G3 G ∧ Hp w0 G0 [] w G [acc 3 1 v n cs] ∧ (Chk intE 1 G cs xs ∧ n = xs.length ∧ xs.length + 2 * rq.length = 2 * (Sp.rns bytes).length ∧ RunP 120 G (.pointer pq) rq) ∧ m = (rq.length)) (h0 := ⟨_, _, _, [], pq0, (Sp.rns bytes), _, Z, PLe.refl _, H, ?inv, Z⟩) (round := ?round)
 case inv => exact ⟨(Chk.nil (E := intE) (sz := 1) (G := G3)),  by first | rfl | simp | (simp; omega) | omega, (by exact ⟨by simp, hrp3⟩)⟩
 case round =>
  rintro _ _ _ ⟨v, n, cs, xs, pq, rq, G5, rfl, hle5, H, hinv5, rfl⟩
  obtain ⟨hchk5_0, _, hinv5⟩ := hinv5
  obtain ⟨_, _, rfl⟩ := H.accShape (k := 0) rfl
  obtain ⟨hxr, hrun⟩ := hinv5
  refine W_seq (q2 (mV Z (o_nenil_ptr underlying117 Z Z Z (q3 ?_))))
  refine W_cond Z ?_ ?_
  ·intro hc6
   try simp only [nrm] at hc6
   obtain ⟨_, mq, xq, pq2, rq2, rfl, rfl, hrw, _, _, hrun2⟩ := hrun.more (by simpa using hc6)
   refine W_skip (N_K (W_seq (W_block (W_drawK [] 12 H kR Z ?_)))); intro _ H; have hd7 := PLe.refl G5
   refine dE 0 Z2 (dE 1 Z2 (dE 2 Z2 (dF 3 0 Z2 (dP 4 hrw 0 Z3 (dE 5 Z2 (dE 6 Z2 (dF 7 1 Z2 (dP 8 hrw 1 Z3 (r1 9 Z (xbs H Z7 ?_)))))))))); intro _ _ _ H
   refine q4 H hd7 (r1 10 Z (o_append1 0 H (sz := 1) (bytes := 8) underlying38 typeInfo3 ⟨_, Z, Z⟩ Z Z Z Z Z Z Z Z Z Z oM Z ?_)); intro _ _ H
   have hchk9 := hchk5_0.app (((Chk.nil (E := intE) (sz := 1) (G := G5)).snoc (show intE _ (mq) _ from ⟨rfl, oO⟩) rfl).snoc (show intE _ (xq) _ from ⟨rfl, oO⟩) rfl)
   obtain ⟨_, _, rfl⟩ := H.accShape (k := 0) rfl
   refine q4 H hd7 (dE 11 Z2 (rz (N_B (N_K (W_region (pe 2 Z (fA 2 Z (lP H hrw 2 Z2 (aG Z (R_nil ?_))))))))))
   refine N_lp (hJ := ⟨_, _, _, (xs ++ [mq, xq]), pq2, rq2, _, Z, hle5, H, ?inv, Z⟩) (hm := ?hm)
   case hm => simp
   case inv => exact ⟨hchk9, aN, (by exact ⟨(by simp at hxr ⊢; omega), hrun2⟩)⟩
  intro hc6'
  try simp only [nrm] at hc6'
  refine W_exit (N_K_exit (N_LP_exit (N_B_same (N_K (q2 (pe 3 Z (q3 (W_ret (rt2 results31 Z Z ?_)))))))))
  have hrv := hrun.over (by simpa using hc6')
  have H := H.forget hG (by simp)
  exact ⟨_, _, rfl, H, _, _, xs, (by (rw [hB]; rfl)), acc_1 (by assumption), chkI (G := fun _ => none) (hchk5_0), by omega, fun _ => by (have h9 := Sp.rns_len bytes; simp [hrv] at hxr; omega)⟩
end Go.Proofs.Tst

namespace Go.Proofs.Tst
open Go Fw Tryz
theorem i_countDisk_c (w0 : World) (G0 : PH) (hG : PSub G0 w0) (cd : List Value) (d : BDisk) (hd : diskE G0 d cd) (hLent : Lent w0 G0 [])  :
  Calls Tryz.prog 28 #[.agg cd.toArray] w0 (RetM w0 G0 [] (fun G' v Bs => ((∃ s : Fw.Bs, v = .tuple #[.pointer none, .iface 109 (.agg #[str s])]) ∧ Bs = [] ∧ Sp.DiskValid d = false) ∨ (∃ (db mb : Nat) (es : Array MapEntry) (ck : Nat) (xs : List (Int × Value)) (T : Nd) (F : Fr) (sv : Value) (sn : List (Fw.Bs × Nd)) (c : List Value) (FSq : Fr), v = .tuple #[.pointer (some ⟨db, 0, none⟩), .nilIface] ∧ Bs = [blk db (cl [.int .i32 0, .int .u32 0, .map (some mb), .pointer (some ⟨T.b, 0, none⟩), sv] 70), blk mb (.map es ck), frag F, acc 124 2 sv sn.length c, frag FSq] ∧ MapIs (Value.int .i64) es ck xs ∧ StR G' xs d.store ∧ NdO 167 65 G' T F ∧ Nd.TOK T d.tree ∧ Chk osE 2 G' c sn ∧ NdsO 167 65 G' (sn.map (·.2)) FSq ∧ SnOK sn d.snaps ∧ Sp.DiskValid d = true))) := by
 obtain ⟨_, _, _, _, _, _, _, _, _, rfl, hr1, hr1', hr1'', ⟨_, _⟩, ⟨_, _⟩, _, _⟩ := ox hd
 have H : Hp w0 G0 [] w0 G0 [] := hLent.hp
 refine calls_of_W (l := [_]) func28 Z ntmps28 Z (q2 (o_box H Z Z Z ?_)); intro _ _ _ H
 refine pe 2 Z (q1 (lA 0 3 H Z4 (xc Z2 (i_newDisk_c _ _ H.sub _ d ⟨_, _, _, _, _, _, _, _, _, Z, hr1, hr1', hr1''⟩ H.lent0 ) ?_)))
 rintro _ _ ⟨_, _, _, rfl, H3', ⟨rfl, rfl, _⟩ | ⟨_, _, _, _, _, _, _, _, _, _, _, rfl, rfl, hm3, hS3, hN3, hT3, hchk3, hNs3, hSn3, hdv3⟩⟩
 ·skip
  have H := H.borrow0 H3'
  refine ⟨_, Z, ?_⟩
  refine pe 5 Z (q3 (W_seq (q2 (pe 2 Z (q3 (W_true Z (q2 (o_build bf109 Z Z Z (o_iface kR Z Z (pe 2 Z (q3 (W_ret (N_K_ret (rt2 results28 Z Z ?_))))))))))))))
  have H := H.dl 0
  exact H.retM (.inl ⟨⟨_, rfl⟩, rfl, by assumption⟩)
 skip
 have H := H.borrow0 H3'
 obtain ⟨_, _, rfl⟩ := H.accShape (k := 3) rfl
 refine ⟨_, Z, ?_⟩
 refine pe 5 Z (q3 (W_seq (q2 (pe 2 Z (q3 (W_false Z (W_skip (N_K (q2 (pe 3 Z (q3 (W_ret (rt2 results28 Z Z ?_)))))))))))))
 have H := H.dl 5
 have H := H.tF 4
 have H := H.tF 4
 have H := H.tF 4
 have H := H.tF 4
 have H := H.tF 4
 exact H.retM (.inr ⟨_, _, _, _, _, _, _, _, _, _, _, Z, Z, hm3, hS3, hN3, hT3, hchk3, hNs3, hSn3, hdv3⟩)
end Go.Proofs.Tst

namespace Go.Proofs.Tst
open Go Fw Tryz
theorem i_CountBytes_c (w0 : World) (G0 : PH) (hG : PSub G0 w0) (cd : List Value) (d : BDisk) (hd : diskE G0 d cd) (hge : ErrG G0) :
  Calls Tryz.prog 10 #[.agg cd.toArray] w0 (Rets w0 (.tuple #[.int .i64 (Sp.cStored d), .int .i64 (Sp.cShown d), .int .i64 (Sp.cPacked d)])) := by
 obtain ⟨_, _, _, _, _, _, _, _, _, rfl, hr1, hr1', hr1'', ⟨_, _⟩, ⟨_, _⟩, _, _⟩ := ox hd
 have H := Hp.init hG
 refine calls_of_W (l := [_]) func10 Z ntmps10 Z (q2 (o_box H Z Z Z ?_)); intro b2 _ hb2 H
 refine pe 3 Z (q1 (lA 0 3 H Z4 (xc Z2 (i_countDisk_c _ _ H.sub _ d ⟨_, _, _, _, _, _, _, _, _, Z, hr1, hr1', hr1''⟩ H.lent0 ) ?_)))
 rintro _ _ ⟨_, _, _, rfl, H3', ⟨⟨_, rfl⟩, rfl, _⟩ | ⟨_, _, _, _, _, _, _, _, _, _, _, rfl, rfl, hm3, hS3, hN3, hT3, hchk3, hNs3, hSn3, hdv3⟩⟩
 ·skip
  have hge := hge.up H3'.le
  have H := H.borrow0 H3'
  refine ⟨_, Z, ?_⟩
  refine pe 5 Z (q3 (W_seq (q2 (mV Z (xr H Z2 (uncounted_hit _ _ H.sub hge _) ?_))))); intro _ H
  refine q3 (W_true Z (q2 (pe 3 Z (q3 (W_ret (N_K_ret (ret_gen (rs := [.tmp 2, .tmp 3, .tmp 4]) (vs := [_, _, _]) results10 ⟨Z, Z, Z, trivial⟩ ?_)))))))
  have h9 : Sp.DiskValid d = false := by assumption
  exact H.rets (show Value.tuple #[.int .i64 0, .int .i64 0, .int .i64 0] = _ from by simp [Sp.cStored, Sp.cShown, Sp.cPacked, h9])
 skip
 have H := H.borrow0 H3'
 obtain ⟨_, _, rfl⟩ := H.accShape (k := 3) rfl
 have hVx := Sp.valid_iff.1 (Sp.dv_parts.1 hdv3).1; have hNs := hNs3; have hSn := hSn3; have hT := hT3; have hdv := hdv3; have hTc := hT.cnt; have hTl := Sp.tree_len (Sp.dv_parts.1 hdv).2.1; have hs6 := (Sp.dv_parts.1 hdv).2.2.1; have hsnl := hSn.len; have h16 := hVx.len
 refine ⟨_, Z, ?_⟩
 refine pe 5 Z (q3 (W_seq (q2 (mV Z (xr H Z2 (uncounted_nil _ _ H.sub) ?_))))); intro _ H
 refine q3 (W_false Z (W_skip (N_K (q2 (pe 3 Z (q3 (W_seq (q2 (pe 2 Z (fA 2 Z (fA 0 Z (lB 0 H Z3 (xc Z2 (i_slist_c _ _ (H.lendSubL [1]) _ _ _ _ _ (H.lendPredL (k := 1) (ks := [1]) Z Z) hm3 (hS3.up (PPlus.le _ _ _)) hVx ) ?_)))))))))))))
 rintro _ _ ⟨_, _, rfl, H6', ⟨_, rfl, hO6⟩⟩
 have H := H.readersL H6'
 obtain ⟨_, hP6⟩ := hO6
 obtain ⟨_, _, rfl⟩ := OwnS.shape hP6
 have hO6 := OHs.mk hP6
 refine ⟨_, Z, ?_⟩
 have hdm1 := dm_nodup H (k := 0) rfl; obtain ⟨Gk1, H, hkl1, hks1⟩ := H.keepF (k := 0) rfl (fun b _ hb => by simp at hb)
 have hrk1 := hO6.rd hks1 hdm1
 have hn_hrk1 := hrk1.len
 refine lN Z (mV Z (q3 (W_block ?_)))
 have H := H.dl 0
 have H := H.dl 0
 have H := H.dl 0
 have H := H.dl 0
 have H := H.dl 0
 obtain ⟨ln7, hln7, H⟩ := H.name (k := 0) rfl
 refine W_lp (hf := (Sub.cons (t := 2) Z (Sub.cons (t := 3) Z (Sub.cons (t := 4) Z (Sub.cons (t := 26) Z (Sub.cons (t := 27) Z Sub.nil)))))) (J := fun M w m => ∃ (k : Nat) (ma mb mc : Int) (G : PH), M = [(28, .int .i64 (k : Int)), (7, .int .i64 ma), (8, .int .i64 mb), (9, .int .i64 mc)] ∧ PLe Gk1 G ∧ Hp w0 G0 [] w G [blk b2 (cl ln7 27)] ∧ (k ≤ d.store.length ∧ ma = (Sp.stored (d.store.take k) : Int) ∧ mb = Sp.shown (d.store.take k) ∧ mc = (Sp.packed (d.store.take k) : Int)) ∧ m = (d.store.length - k)) (h0 := ⟨0, 0, 0, 0, _, Z, PLe.refl _, H, ?inv, Z⟩) (round := ?round)
 case inv => exact ⟨by omega, rfl, rfl, rfl⟩
 case round =>
  rintro _ _ _ ⟨k, ma, mb, mc, _, rfl, hle8, H, hinv8, rfl⟩
  subst hln7
  have hrk1 := hrk1.up hle8
  obtain ⟨_, hma, hmb, hmc⟩ := hinv8; have hcb := Sp.cnt_bnd hVx k
  refine q2 (pe 1 Z (q3 (W_seq ?_)))
  refine W_cond Z ?_ ?_
  ·intro hc9
   try simp only [nrm] at hc9
   refine W_skip (N_K (W_seq (W_block (q2 (iP k hrk1 Z3 Z ?_))))); intro _ _ z10 _ hz10 hE10 hrow10
   obtain ⟨_, m10, _, rfl, _, hr10, _, hn_hr10, _⟩ := ox hE10
   obtain ⟨hbv, _, hb2, _, _, _, _⟩ := Sp.held_bnd hVx hz10
   have hbc : (m10 : Int) * z10.uses = z10.uses * (z10.bytes.length : Int) := by (rw [hn_hr10]; exact Int.mul_comm _ _)
   refine o_loadagg_P H isAgg42 sizeOf42 Z Z hrow10 Z (xal H Z ?_); intro _ _ _ H
   refine xst 0 H Z8 ?_; intro _ H
   refine q1 (mV Z (fA 1 Z (lB 0 H Z3 (lN Z (aD Z2 (aG Z (q1 (mV Z (fA 1 Z (lB 0 H Z3 (lN Z (fA 2 Z (lB 0 H Z3 (o_mul Z Z Z oO (aD Z2 ?_)))))))))))))))
   refine aG Z (q1 (fA 1 Z (lB 0 H Z3 (xc Z2 (i_BlockPack_c _ _ H.sub _ _ hr10 ) ?_))))
   rintro _ _ ⟨_, _, rfl, H16', ⟨_, _, xs16, rfl, rfl, _, _, hxs16⟩⟩
   have H := H.readers (fp := []) (by simp) (PLe.refl _) H16'
   obtain ⟨_, _, rfl⟩ := H.accShape (k := 0) rfl
   refine ⟨_, Z, ?_⟩
   refine pe 5 Z (q3 (W_region (pe 2 Z (lN Z (aD Z2 (aG Z (R_nil (N_B (N_K (W_region (aD Z2 (mV Z (R_nil ?_)))))))))))))
   have H := H.dl 0
   have H := H.dl 0
   refine N_lp (hJ := ⟨k + 1, (ma + (m10 : Int)), (mb + (m10 : Int) * z10.uses), (mc + (xs16.length : Int)), _, Z, hle8, H, ?inv, Z⟩) (hm := ?hm)
   case hm => omega
   case inv => exact ⟨by omega, by (rw [Sp.stored_succ hz10]; omega), by (rw [Sp.shown_succ hz10]; omega), by (have h9 := hxs16 hbv; rw [Sp.packed_succ hz10]; omega)⟩
  intro hc9'
  try simp only [nrm] at hc9'
  refine W_exit (N_K_exit (N_LP_exit (N_B_same (N_K (q2 (pe 6 Z (q3 (W_ret (ret_gen (rs := [.tmp 2, .tmp 3, .tmp 4]) (vs := [_, _, _]) results10 ⟨Z, Z, Z, trivial⟩ ?_)))))))))
  exact H.rets (Sp.cnt_fin hma hmb hmc (.inr hdv) (fun _ => by omega))
end Go.Proofs.Tst

namespace Go.Proofs.Tst
open Go Fw Tryz
theorem l2Pack_c (w0 : World) (G0 : PH) (hG : PSub G0 w0) (vbytes : Value) (bytes : List (Int)) (hbytes : RdI G0 vbytes bytes) (hB : Sp.BlockValid bytes = true) :
  Calls Tryz.prog 32 #[vbytes] w0 (RetO w0 G0 (AccOf intE 1 3 (Sp.l2Pack bytes))) := by
 obtain ⟨abytes, kbytes, rfl⟩ := hbytes.shape
 have hlimbytes : bytes.length ≤ 1099511627776 := hbytes.lim
 have hbl := Sp.bv_len hB
 have hbb := Sp.bv_byte hB
 have H := Hp.init hG
 refine calls_of_W (l := [.slice abytes bytes.length kbytes]) func32 Z ntmps32 Z (q2 (aG Z (q1 (xbs H Z7 ?_)))); intro _ _ _ H
 have H := H.blkAcc 1 (k := 0) (n := 0) rfl rfl (by decide)
 refine aG Z (q3 (W_seq (q2 (aG Z (q3 (W_block ?_))))))
 refine W_lp (hf := (Sub.cons (t := 0) Z (Sub.cons (t := 2) Z Sub.nil))) (J := fun M w m => ∃ (v : Value) (n : Nat) (cs : List Value) (xs : List (Int)) (k : Nat) (G : PH), M = [(4, .int .i64 (k : Int)), (3, v)] ∧ PLe G0 G ∧ Hp w0 G0 [] w G [acc 3 1 v n cs] ∧ (Chk intE 1 G cs xs ∧ n = xs.length ∧ k ≤ bytes.length ∧ xs = Sp.packN bytes k) ∧ m = (bytes.length - k)) (h0 := ⟨_, _, _, [], 0, _, Z, PLe.refl _, H, ?inv, Z⟩) (round := ?round)
 case inv => exact ⟨(Chk.nil (E := intE) (sz := 1) (G := G0)),  by first | rfl | simp | (simp; omega) | omega, (by exact ⟨by omega, rfl⟩)⟩
 case round =>
  rintro _ _ _ ⟨v, n, cs, xs, k, G2, rfl, hle2, H, hinv2, rfl⟩
  have hbytes := hbytes.up hle2
  obtain ⟨hchk2_0, _, hinv2⟩ := hinv2
  obtain ⟨_, _, rfl⟩ := H.accShape (k := 0) rfl
  obtain ⟨hk, hxs⟩ := hinv2; have hpl : xs.length ≤ 16 := (by have h8 := Sp.packN_len bytes k hk; have h9 := Sp.runs_le (bytes.take k); (rw [← hxs] at h8); (rw [List.length_take] at h9); omega)
  refine W_seq (q2 (pe 2 Z (lN Z (pe 1 Z (q3 ?_)))))
  refine W_cond Z ?_ ?_
  ·intro hc3
   try simp only [nrm] at hc3
   refine W_skip (N_K (W_seq (W_block (W_seq (W_drawK [] 14 H kR Z ?_))))); intro _ H; have hd4 := PLe.refl G2
   refine dE 0 Z2 (dE 1 Z2 (dE 2 Z2 ?_))
   refine RD_case (t := 14) Z ?_ ?_
   ·intro hc5
    try simp only [nrm] at hc5
    refine dE 3 Z2 (dE 4 Z2 ?_)
    have hl6 := hbytes.len
    obtain ⟨_, _, z6, _, ha6, hz6, hq6, hE6, hrow6, _⟩ := hbytes.at (i := k) oM
    clear hq6
    obtain ⟨rfl, _⟩ := hE6
    refine dI 5 1 k ha6 Z3 Z (dP 6 hrow6 0 Z3 (dE 7 Z2 (dE 8 Z2 (RD_tg 9 Z kR Z (yl Z Z) (fun _ hK => v_sub Z Z oO) ?_))))
    have hl8 := hbytes.len
    obtain ⟨_, _, _, _, ha8, hz8, hq8, hE8, hrow8, _⟩ := hbytes.at (i := (k - 1)) oM
    clear hq8
    obtain ⟨rfl, _⟩ := hE8
    refine dI 10 1 (k - 1) ha8 Z3 oM (dP 11 hrow8 0 Z3 (dE 12 Z2 (dE 13 Z2 (rz (N_K ?_)))))
    refine W_cond Z ?_ ?_
    ·intro hc9
     try simp only [nrm] at hc9
     have hp2 := Sp.packN_pos (b := bytes) (k := k) oM hk; (rw [← hxs] at hp2)
     refine W_region (pe 2 Z (lN Z (o_sub Z Z Z oO (pe 2 Z (lN Z (o_sub Z Z Z oO (o_index_A 0 H (xs.length - 2) Z hchk2_0 underlying38 sizeOf3 Z Z Z oM aN aN ?_))))))); intro _ z12 _ hba12 hz12 hE12 hg12; cases hba12
     obtain ⟨rfl, _⟩ := hE12
     have hzb := Sp.packN_in bytes hbb k hk z12 (by (rw [← hxs]); exact List.mem_of_getElem? hz12)
     refine o_load_A 0 H isAgg3 Z Z Z (hg12 0 _ Z) (aD Z2 (o_index_A 0 H (xs.length - 2) Z hchk2_0 underlying38 sizeOf3 Z Z Z oM aN aN ?_)); intro _ z14 _ hba14 hz14 hE14 _; cases hba14
     obtain ⟨rfl, _⟩ := hE14
     have hzz14 : z12 = z14 := Option.some.inj (hz12.symm.trans hz14)
     subst hzz14
     have hcl15 := hchk2_0.length
     refine o_store_A 0 H sizeOf3 Z Z Z Z Z (by simp only [vc, List.length_cons, List.length_nil]; omega) ?_; intro _ H
     have hchk15 := hchk2_0.put (x' := (z12 + 1)) (off := 0) (vs := [_]) hz14 (fun cs hl hE => by obtain ⟨rfl, _⟩ := hE; exact ⟨rfl, oO⟩) (by simp only [vc, List.length_cons, List.length_nil]; omega)
     refine R_nil (N_B (N_K (W_region (mV Z (aD Z2 (aG Z (R_nil ?_)))))))
     refine N_lp (hJ := ⟨_, _, _, (xs.set (xs.length - 2) (z12 + 1)), k + 1, _, Z, hle2, H, ?inv, Z⟩) (hm := ?hm)
     case hm => omega
     case inv => exact ⟨hchk15, aN, (by exact ⟨by omega, by (rw [Sp.packN_succ, ← hxs, Sp.packS_yes oM hz6 hz8 oM hz12])⟩)⟩
    intro hc9'
    try simp only [nrm] at hc9'
    refine W_region (pe 3 Z (iP k hbytes Z3 Z ?_)); intro _ _ z17 _ hz17 hE17 hrow17
    obtain ⟨rfl, _⟩ := hE17
    have hzz17 : z6 = z17 := Option.some.inj (hz6.symm.trans hz17)
    subst hzz17
    refine lP H hrow17 0 Z2 (xbs H Z7 ?_); intro _ _ _ H
    refine o_append1 0 H (sz := 1) (bytes := 8) underlying38 typeInfo3 ⟨_, Z, Z⟩ Z Z Z Z Z Z Z Z Z Z oM Z ?_; intro _ _ H
    have hchk19 := hchk2_0.app (((Chk.nil (E := intE) (sz := 1) (G := G2)).snoc (show intE _ (1) _ from ⟨rfl, oO⟩) rfl).snoc (show intE _ (z6) _ from ⟨rfl, oO⟩) rfl)
    obtain ⟨_, _, rfl⟩ := H.accShape (k := 0) rfl
    refine aG Z (R_nil (N_B (N_K (W_region (mV Z (aD Z2 (aG Z (R_nil ?_))))))))
    refine N_lp (hJ := ⟨_, _, _, (xs ++ [1, z6]), k + 1, _, Z, hle2, H, ?inv, Z⟩) (hm := ?hm)
    case hm => omega
    case inv => exact ⟨hchk19, aN, (by exact ⟨by omega, by (rw [Sp.packN_succ, ← hxs, Sp.packS_no hz6 (fun y _ hy => by (rw [hz8] at hy; cases hy; omega))])⟩)⟩
   intro hc5'
   try simp only [nrm] at hc5'
   refine dE 3 Z2 (dE 4 Z2 (dE 5 Z2 (dE 6 Z2 (dE 7 Z2 (dE 8 Z2 (dE 9 Z2 (dE 10 Z2 (dE 11 Z2 (dE 12 Z2 (dE 13 Z2 (rz (N_K (W_false Z (W_region (pe 3 Z ?_)))))))))))))))
   refine iP k hbytes Z3 Z ?_; intro _ _ z21 _ hz21 hE21 hrow21
   obtain ⟨rfl, _⟩ := hE21
   refine lP H hrow21 0 Z2 (xbs H Z7 ?_); intro _ _ _ H
   refine o_append1 0 H (sz := 1) (bytes := 8) underlying38 typeInfo3 ⟨_, Z, Z⟩ Z Z Z Z Z Z Z Z Z Z oM Z ?_; intro _ _ H
   have hchk23 := hchk2_0.app (((Chk.nil (E := intE) (sz := 1) (G := G2)).snoc (show intE _ (1) _ from ⟨rfl, oO⟩) rfl).snoc (show intE _ (z21) _ from ⟨rfl, oO⟩) rfl)
   obtain ⟨_, _, rfl⟩ := H.accShape (k := 0) rfl
   refine aG Z (R_nil (N_B (N_K (W_region (mV Z (aD Z2 (aG Z (R_nil ?_))))))))
   refine N_lp (hJ := ⟨_, _, _, (xs ++ [1, z21]), k + 1, _, Z, hle2, H, ?inv, Z⟩) (hm := ?hm)
   case hm => omega
   case inv => exact ⟨hchk23, aN, (by exact ⟨by omega, by (rw [Sp.packN_succ, ← hxs, Sp.packS_no hz21 (fun y h0 _ => by omega)])⟩)⟩
  intro hc3'
  try simp only [nrm] at hc3'
  refine W_exit (N_K_exit (N_LP_exit (N_B_same (N_K (q2 (pe 2 Z (q3 (W_ret (rt1 results32 Z ?_)))))))))
  have hkk : k = bytes.length := by omega
  have hxe : xs = Sp.l2Pack bytes := by (rw [hxs, hkk]; rfl)
  subst hxe
  exact H.retO (k := 0) rfl (AccOf.mk (by assumption) hchk2_0) (acc_nd _ _ _ _ _)
theorem CountBytes_c (w0 : World) (G0 : PH) (hG : PSub G0 w0) (cd : List Value) (d : BDisk) (hd : diskE G0 d cd)  :
  Calls Tryz.prog 11 #[.agg cd.toArray] w0 (Rets w0 (.tuple #[.int .i64 (Sp.cStored d), .int .i64 (Sp.cShown d), .int .i64 (Sp.cPacked d)])) := by
 obtain ⟨_, _, _, _, _, _, _, _, _, rfl, hr1, hr1', hr1'', ⟨_, _⟩, ⟨_, _⟩, _, _⟩ := ox hd
 have H := Hp.init hG
 refine calls_of_W (l := [_]) func11 Z ntmps11 Z (q2 (o_box H Z Z Z ?_)); intro b2 _ hb2 H
 refine pe 3 Z (q1 (aG Z (q1 (aG Z (q1 (aG Z (q3 (W_seq (q2 (aG Z (q3 (W_block ?_))))))))))))
 obtain ⟨ln3, hln3, H⟩ := H.name (k := 0) rfl
 refine W_lp (hf := (Sub.cons (t := 1) Z (Sub.cons (t := 2) Z (Sub.cons (t := 3) Z (Sub.cons (t := 4) Z Sub.nil))))) (J := fun M w m => ∃ (k : Nat) (ma mb mc : Int) (G : PH), M = [(8, .int .i64 (k : Int)), (5, .int .i64 ma), (6, .int .i64 mb), (7, .int .i64 mc)] ∧ PLe G0 G ∧ Hp w0 G0 [] w G [blk b2 (cl ln3 27)] ∧ (k ≤ d.store.length ∧ (k = 0 ∨ Sp.DiskValid d = true) ∧ ma = (Sp.stored (d.store.take k) : Int) ∧ mb = Sp.shown (d.store.take k) ∧ mc = (Sp.packed (d.store.take k) : Int)) ∧ m = (d.store.length - k)) (h0 := ⟨0, 0, 0, 0, _, Z, PLe.refl _, H, ?inv, Z⟩) (round := ?round)
 case inv => exact ⟨by omega, .inl rfl, rfl, rfl, rfl⟩
 case round =>
  rintro _ _ _ ⟨k, ma, mb, mc, G4, rfl, hle4, H, hinv4, rfl⟩
  subst hln3
  have hr1 := hr1.up hle4
  have hr1' := hr1'.up hle4
  have hr1'' := hr1''.up hle4
  obtain ⟨_, hor, hma, hmb, hmc⟩ := hinv4
  refine W_seq (q2 (mV Z (fA 0 Z (lB 0 H Z3 (lN Z (pe 2 Z ?_))))))
  refine R_case (t := 14) Z ?_ ?_
  ·intro hc5
   try simp only [nrm] at hc5
   refine gR Z (lA 0 3 H Z4 (gR Z (xr H Z2 (DiskValid_c _ _ H.sub _ d ⟨_, _, _, _, _, _, _, _, _, Z, hr1, hr1', hr1''⟩ ) ?_))); intro _ H
   refine pe 1 Z (q3 ?_)
   refine W_cond Z ?_ ?_
   ·intro hc7
    try simp only [nrm] at hc7
    have hdv : Sp.DiskValid d = true := by simpa using hc7
    have hVx := Sp.valid_iff.1 (Sp.dv_parts.1 hdv).1; have h16 := hVx.len; have hcb := Sp.cnt_bnd hVx k
    refine W_skip (N_K (W_seq (W_block (q2 (mV Z (fA 0 Z (lB 0 H Z3 (mV Z (iP k hr1 Z3 Z ?_))))))))); intro _ _ z8 _ hz8 hE8 hrow8
    obtain ⟨_, m8, _, rfl, _, hr8, _, hn_hr8, _⟩ := ox hE8
    obtain ⟨hbv, hb1, hb2, hb3, hb4, hb5, hb6⟩ := Sp.held_bnd hVx hz8
    have hpk := Sp.pack_len z8.bytes; have hrl := Sp.runs_le z8.bytes
    have hbc8 : z8.uses * (m8 : Int) = z8.uses * (z8.bytes.length : Int) := by (rw [hn_hr8])
    refine fA 1 Z (lP H hrow8 1 Z2 (lN Z (aD Z2 (aG Z (q3 (W_seq (W_drawK [0] 17 H kR Z ?_))))))); intro _ H; have hd10 := PLe.refl G4
    refine dE 0 Z2 (dF 1 0 Z2 (dB 2 0 Z4 (dE 3 Z2 ?_)))
    have hl11 := hr1.len
    obtain ⟨_, _, z11, _, ha11, hz11, hq11, hE11, hrow11, _⟩ := hr1.at (i := k) oM
    clear hq11
    obtain ⟨_, m11, _, rfl, _, hr11, _, hn_hr11, _⟩ := ox hE11
    have hzz11 : z8 = z11 := Option.some.inj (hz8.symm.trans hz11)
    subst hzz11
    obtain ⟨hbv, hb1, hb2, hb3, hb4, hb5, hb6⟩ := Sp.held_bnd hVx hz8
    have hpk := Sp.pack_len z8.bytes; have hrl := Sp.runs_le z8.bytes
    have hbc11 : z8.uses * (m11 : Int) = z8.uses * (z8.bytes.length : Int) := by (rw [hn_hr11])
    refine dI 4 3 k ha11 Z3 Z (dF 5 2 Z2 (dP 6 hrow11 2 Z3 (dF 7 0 Z2 (dB 8 0 Z4 (dE 9 Z2 ?_)))))
    have hl12 := hr1.len
    obtain ⟨_, _, z12, _, ha12, hz12, hq12, hE12, hrow12, _⟩ := hr1.at (i := k) oM
    clear hq12
    obtain ⟨_, m12, _, rfl, _, hr12, _, hn_hr12, _⟩ := ox hE12
    have hzz12 : z8 = z12 := Option.some.inj (hz8.symm.trans hz12)
    subst hzz12
    obtain ⟨hbv, hb1, hb2, hb3, hb4, hb5, hb6⟩ := Sp.held_bnd hVx hz8
    have hpk := Sp.pack_len z8.bytes; have hrl := Sp.runs_le z8.bytes
    have hbc12 : z8.uses * (m12 : Int) = z8.uses * (z8.bytes.length : Int) := by (rw [hn_hr12])
    refine dI 10 3 k ha12 Z3 Z (dF 11 1 Z2 (dP 12 hrow12 1 Z3 (dN 13 Z2 (RD_t 14 Z kR Z (fun _ hK => v_mul Z Z oO) (RD_t 15 Z kR Z (fun _ hK => v_add Z Z oO) (dE 16 Z2 (rz (N_K (W_region (mV Z (fA 0 Z (lB 0 H Z3 (mV Z (iP k hr1 Z3 Z ?_)))))))))))))); intro _ _ z15 _ hz15 hE15 hrow15
    obtain ⟨_, m15, _, rfl, _, hr15, _, hn_hr15, _⟩ := ox hE15
    have hzz15 : z8 = z15 := Option.some.inj (hz8.symm.trans hz15)
    subst hzz15
    obtain ⟨hbv, hb1, hb2, hb3, hb4, hb5, hb6⟩ := Sp.held_bnd hVx hz8
    have hpk := Sp.pack_len z8.bytes; have hrl := Sp.runs_le z8.bytes
    have hbc15 : z8.uses * (m15 : Int) = z8.uses * (z8.bytes.length : Int) := by (rw [hn_hr15])
    refine fA 1 Z (lP H hrow15 1 Z2 (xc Z2 (l2Pack_c _ _ H.sub _ _ hr15 hbv) ?_))
    rintro _ _ ⟨_, _, _, g16, rfl, ⟨_, rfl, _⟩, hp16, hq16, hs16⟩
    have H := H.growO g16 hp16 hq16 hs16; obtain ⟨_, _, rfl⟩ := H.accShape (k := 0) rfl
    have hle4 := hle4.trans g16.le
    refine ⟨_, Z, ?_⟩
    refine lN Z (aD Z2 (aG Z (R_nil (N_B (N_K (W_region (mV Z (aD Z2 (aG Z (R_nil ?_))))))))))
    have H := H.dl 0
    refine N_lp (hJ := ⟨k + 1, (ma + (m8 : Int)), (mb + z8.uses * (m12 : Int)), (mc + ((Sp.l2Pack z8.bytes).length : Int)), _, Z, hle4, H, ?inv, Z⟩) (hm := ?hm)
    case hm => omega
    case inv => exact ⟨by omega, .inr hdv, by (rw [Sp.stored_succ hz8]; omega), by (rw [Sp.shown_succ hz8]; omega), by (rw [Sp.packed_succ hz8, Sp.pack_len]; omega)⟩
   intro hc7'
   try simp only [nrm] at hc7'
   refine W_exit (N_K_exit (N_LP_exit (N_B_same (N_K (q2 (pe 6 Z (q3 (W_ret (ret_gen (rs := [.tmp 2, .tmp 3, .tmp 4]) (vs := [_, _, _]) results11 ⟨Z, Z, Z, trivial⟩ ?_)))))))))
   exact H.rets (Sp.cnt_fin hma hmb hmc hor (fun hv => by first | omega | simp_all))
  intro hc5'
  try simp only [nrm] at hc5'
  refine pe 3 Z (q3 (W_false Z (W_exit (N_K_exit (N_LP_exit (N_B_same (N_K (q2 (pe 6 Z (q3 (W_ret (ret_gen (rs := [.tmp 2, .tmp 3, .tmp 4]) (vs := [_, _, _]) results11 ⟨Z, Z, Z, trivial⟩ ?_))))))))))))
  exact H.rets (Sp.cnt_fin hma hmb hmc hor (fun hv => by first | omega | simp_all))
end Go.Proofs.Tst

namespace Go.Proofs.Tst
open Go Fw Tryz
theorem l_HasPrefix0_c (w0 : World) (s : Bs) (hs : s.length ≤ 16777216) (p : Bs) (hp : p.length ≤ 16777216)  :
  Calls Tryz.prog 189 #[str s, str p] w0 (Rets w0 (.bool (p.isPrefixOf s))) := by
 have H := Hp.init0 w0
 refine calls_of_W (l := [str s, str p]) func189 Z ntmps189 Z (q2 (aG Z (q1 (mV Z (lS Z (mV Z (lS Z (pe 2 Z ?_))))))))
 refine R_case (t := 10) Z ?_ ?_
 ·intro hc1
  try simp only [nrm] at hc1
  refine pe 2 Z (gR Z (lS Z (gR Z (o_slice_str_to underlying9 Z Z Z oM oM (pe 1 Z (gR Z (o_seql Z Z Z (pe 2 Z (q3 (W_ret (rt1 results189 Z ?_)))))))))))
  exact H.rets (congrArg Value.bool (by rw [Sp.pre_eq, Bool.eq_iff_iff]; simp; intros; omega))
 intro hc1'
 try simp only [nrm] at hc1'
 refine pe 8 Z (q3 (W_ret (rt1 results189 Z ?_)))
 exact H.rets (congrArg Value.bool (by rw [Sp.pre_eq, Bool.eq_iff_iff]; simp; intros; omega))
theorem l_HasPrefix_c (w0 : World) (s : Bs) (hs : s.length ≤ 16777216) (p : Bs) (hp : p.length ≤ 16777216)  :
  Calls Tryz.prog 155 #[str s, str p] w0 (Rets w0 (.bool (p.isPrefixOf s))) := by
 have H := Hp.init0 w0
 refine calls_of_W (l := [str s, str p]) func155 Z ntmps155 Z (q2 (aG Z (q1 (pe 2 Z (xr H Z2 (l_HasPrefix0_c _ _ hs _ hp ) ?_))))); intro _ H
 refine aG Z (q3 (W_ret (rt1 results155 Z ?_)))
 exact H.rets Z
theorem i_within_c (w0 : World) (G0 : PH) (hG : PSub G0 w0) (p : Bs) (hp : p.length ≤ 16777216) (dir : Bs) (hdir : dir.length ≤ 16777216)  :
  Calls Tryz.prog 124 #[str p, str dir] w0 (Rets w0 (.bool (Sp.PathWithin p dir))) := by
 have H := Hp.init hG
 refine calls_of_W (l := [str p, str dir]) func124 Z ntmps124 Z (q2 (aG Z (q3 (W_seq (q2 (mV Z (xr H Z2 (i_valid_c _ _ H.sub _ hp ) ?_))))))); intro _ H
 refine pe 1 Z (q3 ?_)
 refine W_cond Z ?_ ?_
 ·intro hc2
  try simp only [nrm] at hc2
  refine q2 (aG Z (q3 (W_ret (N_K_ret (rt1 results124 Z ?_)))))
  exact H.rets (congrArg Value.bool (by simp_all [Sp.PathWithin, Sp.l1Within]))
 intro hc2'
 try simp only [nrm] at hc2'
 refine W_skip (N_K (W_seq (q2 (mV Z (o_seql Z Z Z (mV Z ?_))))))
 refine R_case (t := 10) Z ?_ ?_
 ·intro hc3
  try simp only [nrm] at hc3
  refine pe 4 Z (q3 (W_true Z (q2 (aG Z (q3 (W_ret (N_K_ret (rt1 results124 Z ?_))))))))
  exact H.rets (congrArg Value.bool (by simp_all [Sp.PathWithin, Sp.l1Within]))
 intro hc3'
 try simp only [nrm] at hc3'
 refine pe 2 Z (gR Z (o_seql Z Z Z (pe 1 Z (q3 ?_))))
 refine W_cond Z ?_ ?_
 ·intro hc4
  try simp only [nrm] at hc4
  refine q2 (aG Z (q3 (W_ret (N_K_ret (rt1 results124 Z ?_)))))
  exact H.rets (congrArg Value.bool (by simp_all [Sp.PathWithin, Sp.l1Within]))
 intro hc4'
 try simp only [nrm] at hc4'
 refine W_skip (N_K (q2 (mV Z (xr H Z2 (i_valid_c _ _ H.sub _ hdir ) ?_)))); intro _ H
 refine mV Z ?_
 refine R_case (t := 17) Z ?_ ?_
 ·intro hc6
  try simp only [nrm] at hc6
  have hdl := Sp.path_len hc6
  have hdl2 : (dir ++ [47]).length ≤ 16777216 := by (rw [List.length_append]; simp only [List.length_cons, List.length_nil]; omega)
  refine pe 2 Z (gR Z ?_)
  refine o_sadd Z Z Z (by simp only [List.length_cons, List.length_nil]; omega) ?_
  refine gR Z ?_
  refine xr H Z2 (l_HasPrefix_c _ _ hp _ (by (first | assumption | (refine Sp.l5Parent_lim ?_; assumption) | (simp; done) | (simp; omega) | omega)) ) ?_; intro _ H
  refine pe 2 Z (q3 (W_ret (rt1 results124 Z ?_)))
  exact H.rets (congrArg Value.bool (by simp_all [Sp.PathWithin, Sp.l1Within]))
 intro hc6'
 try simp only [nrm] at hc6'
 refine pe 6 Z (q3 (W_ret (rt1 results124 Z ?_)))
 exact H.rets (congrArg Value.bool (by simp_all [Sp.PathWithin, Sp.l1Within]))
theorem i_PathWithin_c (w0 : World) (G0 : PH) (hG : PSub G0 w0) (p : Bs) (hp : p.length ≤ 16777216) (dir : Bs) (hdir : dir.length ≤ 16777216)  :
  Calls Tryz.prog 96 #[str p, str dir] w0 (Rets w0 (.bool (Sp.PathWithin p dir))) := by
 have H := Hp.init hG
 refine calls_of_W (l := [str p, str dir]) func96 Z ntmps96 Z (q2 (aG Z (q1 (pe 2 Z (xr H Z2 (i_within_c _ _ H.sub _ hp _ hdir ) ?_))))); intro _ H
 refine aG Z (q3 (W_ret (rt1 results96 Z ?_)))
 exact H.rets Z
theorem i_sizeOf_c (w0 : World) (G0 : PH) (hG : PSub G0 w0) (mbs : Nat) (ess : Array MapEntry) (cks : Nat) (xss : List (Int × Value)) (Ls : List BHeld) (hbs : MapAt G0 mbs ess cks) (hms : MapIs (Value.int .i64) ess cks xss) (hSs : StR G0 xss Ls) (hVs : Sp.VH Ls) (vids : Value) (ids : List (Int)) (hids : RdI G0 vids ids)  :
  Calls Tryz.prog 97 #[.map (some mbs), vids] w0 (Rets w0 (.int .i64 ((Sp.load Ls ids).length : Int))) := by
 obtain ⟨aids, kids, rfl⟩ := hids.shape
 have hlimids : ids.length ≤ 1099511627776 := hids.lim
 have H := Hp.init hG
 refine calls_of_W (l := [.map (some mbs), .slice aids ids.length kids]) func97 Z ntmps97 Z (q2 (aG Z (q1 (aG Z (q3 (W_seq (q2 (mV Z (lN Z (mV Z (q3 (W_block ?_))))))))))))
 refine W_lp (hf := (Sub.cons (t := 0) Z (Sub.cons (t := 4) Z (Sub.cons (t := 8) Z (Sub.cons (t := 9) Z Sub.nil))))) (J := fun M w m => ∃ (k : Nat) (mm : Int) (G : PH), M = [(10, .int .i64 (k : Int)), (5, .int .i64 mm)] ∧ PLe G0 G ∧ Hp w0 G0 [] w G [] ∧ (k ≤ ids.length ∧ mm = ((Sp.load Ls (ids.take k)).length : Int)) ∧ m = (ids.length - k)) (h0 := ⟨0, 0, _, Z, PLe.refl _, H, ?inv, Z⟩) (round := ?round)
 case inv => exact ⟨by omega, by simp [Sp.load]⟩
 case round =>
  rintro _ _ _ ⟨k, mm, _, rfl, hle1, H, hinv1, rfl⟩
  have hSs := hSs.up hle1
  have hbs := hbs.up hle1
  have hids := hids.up hle1
  obtain ⟨_, hmm⟩ := hinv1; have hl8 := Sp.load_len8 hVs (ids.take k); (rw [List.length_take] at hl8)
  refine q2 (pe 1 Z (q3 (W_seq ?_)))
  refine W_cond Z ?_ ?_
  ·intro hc2
   try simp only [nrm] at hc2
   refine W_skip (N_K (W_seq (W_block (q2 (iP k hids Z3 Z ?_))))); intro _ _ z3 _ hz3 hE3 hrow3
   obtain ⟨rfl, _⟩ := hE3
   refine lP H hrow3 0 Z2 (aG Z (q3 (W_region (pe 3 Z (o_lookS (hbs.at H.sub) hms hSs underlying64 underlying3 zeroValue42 Z Z Z ?_))))); intro _ hE4
   obtain ⟨_, m4, _, rfl, _, _, _, _, _⟩ := ox hE4
   have hg8 := Sp.get_len hVs z3
   refine o_field 1 runUnderlying42 Z Z Z isAgg38 Z Z Z (lN Z (aD Z2 (aG Z (R_nil (N_B (N_K (W_region (aD Z2 (mV Z (R_nil ?_))))))))))
   refine N_lp (hJ := ⟨k + 1, (mm + (m4 : Int)), _, Z, hle1, H, ?inv, Z⟩) (hm := ?hm)
   case hm => omega
   case inv => exact ⟨by omega, by (rw [Sp.load_succ hz3, List.length_append]; omega)⟩
  intro hc2'
  try simp only [nrm] at hc2'
  refine W_exit (N_K_exit (N_LP_exit (N_B_same (N_K (q2 (pe 2 Z (q3 (W_ret (rt1 results97 Z ?_)))))))))
  have hkk : k = ids.length := by omega
  rw [hkk, List.take_length] at hmm
  exact H.rets (congrArg (Value.int .i64) hmm)
theorem i_used_c (w0 : World) (G0 : PH) (hG : PSub G0 w0) (mb : Nat) (es : Array MapEntry) (ck : Nat) (xs : List (Int × Value)) (T : Nd) (L : List BHeld) (hb : MapAt G0 mb es ck) (hm : MapIs (Value.int .i64) es ck xs) (hS : StR G0 xs L) (hV : Sp.VH L) (hnd : RdN G0 T) (dir : Bs) (hdir : dir.length ≤ 16777216) (tr : List BItem) (hTk : Nd.TOK T tr) (hvt : Sp.TreeValid tr = true) (hdv : Sp.dirValid dir = true) :
  Calls Tryz.prog 60 #[.agg #[.map (some mb), .pointer (some ⟨T.b, 0, none⟩)], str dir] w0 (Rets w0 (.int .i64 (Sp.usedB L tr dir [] : Int))) := by
 have htl := Sp.tree_len hvt; have hwt := hTk.wf; have hct := hTk.cnt; have hfl := hTk.flat; have hfl0 := congrArg List.length hfl
 have H := Hp.init hG
 obtain ⟨_, _, _, _, _, _, _, hprT, hriT, hrkT⟩ := hnd.open
 refine calls_of_W (l := [_, str dir]) func60 Z ntmps60 Z (q2 (o_box H Z Z Z ?_)); intro b1 _ _ H
 refine aG Z (q1 (aG Z (q3 (W_seq (q2 (fA 1 Z (lB 0 H Z3 (xc Z2 (i_tlist_c _ _ H.sub _ hnd hwt oM) ?_))))))))
 rintro _ _ ⟨_, _, rfl, H2', ⟨_, rfl, hO2⟩⟩
 have H := H.readers (fp := []) (by simp) (PLe.refl _) H2'
 obtain ⟨_, hP2⟩ := hO2
 obtain ⟨_, _, rfl⟩ := OwnS.shape hP2
 have hO2 := OIs.mk hP2
 refine ⟨_, Z, ?_⟩
 have hdm1 := dm_nodup H (k := 0) rfl; obtain ⟨Gk1, H, hkl1, hks1⟩ := H.keepF (k := 0) rfl (fun b _ hb => by simp at hb)
 have hrk1 := hO2.rd hks1 hdm1
 have hS := hS.up hkl1
 have hb := hb.up hkl1
 have hn_hrk1 := hrk1.len
 refine lN Z (mV Z (q3 (W_block ?_)))
 obtain ⟨ln3, hln3, H⟩ := H.name (k := 0) rfl
 refine W_lp (hf := (Sub.cons (t := 1) Z (Sub.cons (t := 2) Z (Sub.cons (t := 4) Z (Sub.cons (t := 10) Z (Sub.cons (t := 11) Z Sub.nil)))))) (J := fun M w m => ∃ (k : Nat) (mm : Int) (G : PH), M = [(12, .int .i64 (k : Int)), (5, .int .i64 mm)] ∧ PLe Gk1 G ∧ Hp w0 G0 [] w G [blk b1 (cl ln3 67)] ∧ (k ≤ tr.length ∧ mm = (Sp.usedB L (tr.take k) dir [] : Int)) ∧ m = (tr.length - k)) (h0 := ⟨0, 0, _, Z, PLe.refl _, H, ?inv, Z⟩) (round := ?round)
 case inv => exact ⟨by omega, by simp [Sp.usedB]⟩
 case round =>
  rintro _ _ _ ⟨k, mm, _, rfl, hle4, H, hinv4, rfl⟩
  subst hln3
  have hS := hS.up hle4
  have hb := hb.up hle4
  have hrk1 := hrk1.up hle4
  obtain ⟨hk, hmm⟩ := hinv4; have hub := Sp.used_bnd hV hvt hdv k hk
  refine q2 (pe 1 Z (q3 (W_seq ?_)))
  refine W_cond Z ?_ ?_
  ·intro hc5
   try simp only [nrm] at hc5
   refine W_skip (N_K (W_seq (W_block (q2 (iP k hrk1 Z3 Z ?_))))); intro _ _ z6 _ hz6 hE6 hrow6
   obtain ⟨_, _, _, rfl, hi6, hr6, _, _⟩ := ox hE6
   have hzt : tr[k]? = some z6 := by (rw [← hfl]; exact hz6)
   have hl8 := Sp.load_len8 hV z6.ids; have hl4 := (Sp.tree_at hvt hzt).2
   refine o_loadagg_P H isAgg40 sizeOf40 Z Z hrow6 Z (xal H Z ?_); intro _ _ _ H
   refine xst 0 H Z8 ?_; intro _ H
   refine q1 (fA 0 Z (lB 0 H Z3 (mV Z (xr H Z2 (i_PathWithin_c _ _ H.sub _ hi6 _ hdir ) ?_)))); intro _ H
   refine q3 ?_
   refine W_cond Z ?_ ?_
   ·intro hc10
    try simp only [nrm] at hc10
    refine W_region (mV Z (fA 0 Z (lB 1 H Z3 (fA 2 Z (lB 0 H Z3 (xr H Z2 (i_sizeOf_c _ _ H.sub _ _ _ _ _ hb hm hS hV _ _ hr6 ) ?_)))))); intro _ H
    refine aD Z2 (aG Z (R_nil (N_B (N_K (W_region (aD Z2 (mV Z (R_nil ?_))))))))
    have H := H.dl 0
    refine N_lp (hJ := ⟨k + 1, (mm + ((Sp.load L z6.ids).length : Int)), _, Z, hle4, H, ?inv, Z⟩) (hm := ?hm)
    case hm => omega
    case inv => exact ⟨by omega, by (rw [Sp.used_step hvt hzt hdv, if_pos (by assumption)]; omega)⟩
   intro hc10'
   try simp only [nrm] at hc10'
   refine W_skip (N_B (N_K (W_region (aD Z2 (mV Z (R_nil ?_))))))
   have H := H.dl 0
   refine N_lp (hJ := ⟨k + 1, mm, _, Z, hle4, H, ?inv, Z⟩) (hm := ?hm)
   case hm => omega
   case inv => exact ⟨by omega, by (rw [Sp.used_step hvt hzt hdv, if_neg (by simp_all)]; omega)⟩
  intro hc5'
  try simp only [nrm] at hc5'
  refine W_exit (N_K_exit (N_LP_exit (N_B_same (N_K (q2 (pe 2 Z (q3 (W_ret (rt1 results60 Z ?_)))))))))
  have hkk : k = tr.length := by omega
  rw [hkk, List.take_length] at hmm
  exact H.rets (congrArg (Value.int .i64) hmm)
theorem i_dirValid_c (w0 : World) (G0 : PH) (hG : PSub G0 w0) (dir : Bs) (hdir : dir.length ≤ 16777216)  :
  Calls Tryz.prog 59 #[str dir] w0 (Rets w0 (.bool (Sp.dirValid dir))) := by
 have H := Hp.init hG
 refine calls_of_W (l := [str dir]) func59 Z ntmps59 Z (q2 (aG Z (q1 (mV Z (o_seql Z Z Z (mV Z ?_))))))
 refine R_case (t := 5) Z ?_ ?_
 ·intro hc1
  try simp only [nrm] at hc1
  refine pe 4 Z (q3 (W_ret (rt1 results59 Z ?_)))
  exact H.rets (congrArg Value.bool (by simp_all [Sp.dirValid]))
 intro hc1'
 try simp only [nrm] at hc1'
 refine pe 1 Z (gR Z (xr H Z2 (i_PathValid_c _ _ H.sub _ hdir ) ?_)); intro _ H
 refine pe 2 Z (q3 (W_ret (rt1 results59 Z ?_)))
 exact H.rets (congrArg Value.bool (by simp_all [Sp.dirValid]))
theorem i_QuotaUsed_c (w0 : World) (G0 : PH) (hG : PSub G0 w0) (cd : List Value) (d : BDisk) (hd : diskE G0 d cd) (dir : Bs) (hdir : dir.length ≤ 16777216)  :
  Calls Tryz.prog 24 #[.agg cd.toArray, str dir] w0 (Rets w0 (.int .i64 (Sp.QuotaUsed d dir))) := by
 obtain ⟨_, _, _, _, _, _, _, _, _, rfl, hr1, hr1', hr1'', ⟨_, _⟩, ⟨_, _⟩, _, _⟩ := ox hd
 have H := Hp.init hG
 refine calls_of_W (l := [_, str dir]) func24 Z ntmps24 Z (q2 (o_box H Z Z Z ?_)); intro _ _ _ H
 refine aG Z (q1 (lA 0 3 H Z4 (xc Z2 (i_newDisk_c _ _ H.sub _ d ⟨_, _, _, _, _, _, _, _, _, Z, hr1, hr1', hr1''⟩ H.lent0 ) ?_)))
 rintro _ _ ⟨_, _, _, rfl, H3', ⟨rfl, rfl, _⟩ | ⟨_, _, _, _, _, _, _, _, _, _, _, rfl, rfl, hm3, hS3, hN3, hT3, _, _, _, hdv3⟩⟩
 ·skip
  have H := H.borrow0 H3'
  refine ⟨_, Z, ?_⟩
  try (have hVx := Sp.valid_iff.1 (Sp.dv_parts.1 hdv3).1)
  refine pe 5 Z (q3 (W_seq (q2 (pe 7 Z (q3 (W_true Z (q2 (aG Z (q3 (W_ret (N_K_ret (rt1 results24 Z ?_))))))))))))
  exact H.rets (congrArg (Value.int .i64) (Sp.quota_no (.inl (by assumption))).symm)
 skip
 have H := H.borrow0 H3'
 obtain ⟨_, _, rfl⟩ := H.accShape (k := 3) rfl
 refine ⟨_, Z, ?_⟩
 try (have hVx := Sp.valid_iff.1 (Sp.dv_parts.1 hdv3).1)
 refine pe 5 Z (q3 (W_seq (q2 (pe 4 Z (gR Z (xr H Z2 (i_dirValid_c _ _ H.sub _ hdir ) ?_)))))); intro _ H
 refine pe 2 Z (q3 ?_)
 refine W_cond Z ?_ ?_
 ·intro hc5
  try simp only [nrm] at hc5
  refine q2 (aG Z (q3 (W_ret (N_K_ret (rt1 results24 Z ?_)))))
  first | exact H.rets (congrArg (Value.int .i64) (Sp.quota_no (.inr (by simpa using hc5))).symm) | exact H.rets (congrArg (Value.int .i64) (Sp.quota_yes (by assumption) (by simpa using hc5)).symm)
 intro hc5'
 try simp only [nrm] at hc5'
 refine W_skip (N_K (q2 (pe 2 Z (fA 2 Z (lA 0 2 H Z4 (mV Z (xr H Z2 (i_used_c _ _ (H.lendSubL [1, 1, 2, 2]) _ _ _ _ _ _ (H.lendPredL (k := 1) (ks := [1, 1, 2, 2]) Z Z) hm3 (hS3.up (PPlus.le _ _ _)) hVx (H.lendN (k := 2) (ks := [1, 1, 2, 2]) Z Z hN3) _ hdir _ hT3 (Sp.dv_parts.1 hdv3).2.1 (by simpa using hc5')) ?_))))))); intro _ H
 refine aG Z (q3 (W_ret (rt1 results24 Z ?_)))
 first | exact H.rets (congrArg (Value.int .i64) (Sp.quota_no (.inr (by simpa using hc5'))).symm) | exact H.rets (congrArg (Value.int .i64) (Sp.quota_yes (by assumption) (by simpa using hc5')).symm)
end Go.Proofs.Tst

namespace Go.Proofs.Tst
open Go Fw Tryz
theorem l6Open_c (w0 : World) (G0 : PH) (hG : PSub G0 w0) (vcode : Value) (code : List (UInt8)) (hcode : RdU G0 vcode code)  :
  Calls Tryz.prog 27 #[vcode] w0 (RetO w0 G0 (fun G val r => ∃ (b : Nat) (ab : Option Addr) (mb kb : Nat) (bs : List UInt8), val = .pointer (some ⟨b, 0, none⟩) ∧ r = blk b (cl [.slice ab mb kb, .int .i64 ((0 : Nat) : Int)] 107) ∧ RdU G (.slice ab mb kb) bs)) := by
 obtain ⟨acode, kcode, rfl⟩ := hcode.shape
 have hlimcode : code.length ≤ 1099511627776 := hcode.lim
 have H := Hp.init hG
 refine calls_of_W (l := [.slice acode code.length kcode]) func27 Z ntmps27 Z (q2 (aG Z (q3 (W_seq (q2 (mV Z (lN Z (pe 1 Z (q3 ?_)))))))))
 refine W_cond Z ?_ ?_
 ·intro hc1
  try simp only [nrm] at hc1
  refine W_region (mV Z ?_)
  have hcap2 := hcode.cap; try simp only [List.length_set, List.length_append, List.length_take, List.length_drop, List.length_replicate] at hcap2
  refine o_slice_to (j := 2000) underlying22 sizeOf5 Z Z Z oM oM ?_
  have hsl2 := hcode.take (j := 2000) aN
  have hsn1 := hsl2.len
  refine aG Z (q1 (mV Z (o_build bf107 Z Z Z (o_box H Z Z Z ?_)))); intro _ _ _ H
  refine aG Z (q3 (W_ret (rt1 results27 Z ?_)))
  exact H.retO (k := 0) rfl ⟨_, _, _, _, _, rfl, rfl, hsl2⟩ (by simp [blk])
 intro hc1'
 try simp only [nrm] at hc1'
 refine W_skip (N_K (q2 (mV Z (o_build bf107 Z Z Z (o_box H Z Z Z ?_))))); intro _ _ _ H
 refine aG Z (q3 (W_ret (rt1 results27 Z ?_)))
 exact H.retO (k := 0) rfl ⟨_, _, _, _, _, rfl, rfl, hcode⟩ (by simp [blk])
end Go.Proofs.Tst

namespace Go.Proofs.Tst
open Go Fw Tryz
theorem pick_c (w0 : World) (G0 : PH) (hG : PSub G0 w0) (rb : Nat) (ab : Option Addr) (mb kb : Nat) (bs : List UInt8) (p : Nat) (hbs : RdU G0 (.slice ab mb kb) bs) (hrb : w0.heap[rb]? = some (cl [.slice ab mb kb, .int .i64 (p : Int)] 107)) (hrn : G0 rb = none) (hp : p ≤ 1000000000000) (n : Int) (hn : inI n)  :
  Calls Tryz.prog 33 #[.pointer (some ⟨rb, 0, none⟩), .int .i64 n] w0 (RetM w0 G0 [rb] (fun G val Bs => ∃ (p' : Nat) (x : Nat), p' ≤ p + 1 ∧ val = .int .i64 (x : Int) ∧ ((x : Int) < n ∨ x = 0) ∧ Bs = [blk rb (cl [.slice ab mb kb, .int .i64 (p' : Int)] 107)])) := by
 have hlimbs : bs.length ≤ 1099511627776 := hbs.lim; obtain rfl : mb = bs.length := hbs.len
 have H := Hp.initM hG hrb hrn
 refine calls_of_W (l := [.pointer (some ⟨rb, 0, none⟩), .int .i64 n]) func33 Z ntmps33 Z (q2 (aG Z (q1 (pe 3 Z (fA 1 Z (lB 0 H Z3 (aD Z2 (pe 1 Z (fA 1 Z (xst 0 H Z8 ?_)))))))))); intro _ H
 refine q3 (W_seq (q2 (pe 3 Z ?_)))
 refine R_case (t := 17) Z ?_ ?_
 ·intro hc3
  try simp only [nrm] at hc3
  refine pe 7 Z (q3 (W_true Z (q2 (aG Z (q3 (W_ret (N_K_ret (rt1 results33 Z ?_))))))))
  exact H.retM ⟨p + 1, 0, by omega, rfl, .inr rfl, rfl⟩
 intro hc3'
 try simp only [nrm] at hc3'
 refine pe 2 Z (gR Z (fA 0 Z (gR Z (lB 0 H Z3 (gR Z (lN Z (pe 2 Z (q3 ?_))))))))
 refine W_cond Z ?_ ?_
 ·intro hc4
  try simp only [nrm] at hc4
  refine q2 (aG Z (q3 (W_ret (N_K_ret (rt1 results33 Z ?_)))))
  exact H.retM ⟨p + 1, 0, by omega, rfl, .inr rfl, rfl⟩
 intro hc4'
 try simp only [nrm] at hc4'
 have hm0 : 0 < bs.length := by omega
 have hm1 := Nat.mod_lt p hm0
 have hm2 := Nat.mod_lt (p * 7 + 3) hm0
 have hq1 : 0 ≤ ((p : Int) + 1 - 1) / (bs.length : Int) := Int.ediv_nonneg oM oM
 have hq2 : ((p : Int) + 1 - 1) / (bs.length : Int) ≤ (p : Int) + 1 - 1 := Int.ediv_le_self _ oM
 refine W_skip (N_K (q2 (pe 2 Z (fA 1 Z (lB 0 H Z3 (o_sub Z Z Z oO (aG Z (q3 (W_seq (q2 (pe 3 Z (fA 0 Z (lB 0 H Z3 (lN Z (pe 1 Z ?_)))))))))))))))
 refine q3 ?_
 refine W_cond Z ?_ ?_
 ·intro hc6
  try simp only [nrm] at hc6
  refine q2 (pe 2 Z (fA 0 Z (lB 0 H Z3 (mV Z (iP p hbs Z3 oM ?_))))); intro _ _ z7 _ _ hE7 hrow7
  obtain rfl := hE7
  have hzl7 := z7.toNat_lt
  refine lP H hrow7 0 Z2 (o_conv (by simp [underlying5]) underlying3 Z Z (wrap_i64 oO) (mV Z (o_rem Z Z Z oM oM (aG Z (q3 (W_ret (N_K_ret (rt1 results33 Z ?_))))))))
  exact H.retM ⟨p + 1, _, by omega, congrArg (Value.int .i64) (Int.toNat_of_nonneg (Int.emod_nonneg _ oM)).symm, .inl (by rw [Int.toNat_of_nonneg (Int.emod_nonneg _ oM)]; exact Int.emod_lt_of_pos _ oM), rfl⟩
 intro hc6'
 try simp only [nrm] at hc6'
 refine W_skip (N_K (W_seq (W_drawK [0] 46 H kR Z ?_))); intro _ H; have hd8 := PLe.refl G0
 refine dE 0 Z2 (dE 1 Z2 (dF 2 0 Z2 (dB 3 0 Z4 (dE 4 Z2 (dE 5 Z2 (dE 6 Z2 (dF 7 0 Z2 (dB 8 0 Z4 (dN 9 Z2 (RD_t 10 Z kR Z (fun _ hK => v_rem Z Z oM oM) ?_))))))))))
 have hl9 := hbs.len
 obtain ⟨_, _, z9, _, ha9, _, hq9, hE9, hrow9, _⟩ := hbs.at (i := (p % bs.length)) oM
 clear hq9
 obtain rfl := hE9
 have hzl9 := z9.toNat_lt
 refine RD_t 11 Z kR Z (fun _ hK => v_index_P (i := (p % bs.length)) ha9 underlying22 sizeOf5 Z Z (by rw [Int.add_sub_cancel]; exact (Int.natCast_emod _ _).symm) oM) ?_
 refine dP 12 hrow9 0 Z3 (RD_t 13 Z kR Z (fun _ hK => v_conv (by simp [underlying5]) underlying3 Z (wrap_i64 oO)) (RD_t 14 Z kR Z (fun _ hK => v_mul Z Z oO) (dE 15 Z2 (dE 16 Z2 (dF 17 0 Z2 (dB 18 0 Z4 (dE 19 Z2 (RD_t 20 Z kR Z (fun _ hK => v_mul Z Z oO) (RD_t 21 Z kR Z (fun _ hK => v_add Z Z oO) (dE 22 Z2 (dE 23 Z2 (dF 24 0 Z2 (dB 25 0 Z4 (dN 26 Z2 (RD_t 27 Z kR Z (fun _ hK => v_rem Z Z oM oM) ?_)))))))))))))))
 have hl13 := hbs.len
 obtain ⟨_, _, z13, _, ha13, _, hq13, hE13, hrow13, _⟩ := hbs.at (i := ((p * 7 + 3) % bs.length)) oM
 clear hq13
 obtain rfl := hE13
 have hzl13 := z13.toNat_lt
 refine RD_t 28 Z kR Z (fun _ hK => v_index_P (i := ((p * 7 + 3) % bs.length)) ha13 underlying22 sizeOf5 Z Z (by rw [Int.add_sub_cancel]; exact (Int.natCast_emod _ _).symm) oM) ?_
 refine dP 29 hrow13 0 Z3 (RD_t 30 Z kR Z (fun _ hK => v_conv (by simp [underlying5]) underlying3 Z (wrap_i64 oO)) (RD_t 31 Z kR Z (fun _ hK => v_mul Z Z oO) (RD_t 32 Z kR Z (fun _ hK => v_add Z Z oO) (dE 33 Z2 (RD_t 34 Z kR Z (fun _ hK => v_mul Z Z oO) (RD_t 35 Z kR Z (fun _ hK => v_add Z Z oO) (dE 36 Z2 (dE 37 Z2 (dE 38 Z2 (dF 39 0 Z2 (dB 40 0 Z4 (dN 41 Z2 (RD_t 42 Z kR Z (fun _ hK => v_quo Z Z oM oM oM) (RD_t 43 Z kR Z (fun _ hK => v_mul Z Z oO) (RD_t 44 Z kR Z (fun _ hK => v_add Z Z oO) ?_)))))))))))))))
 refine dE 45 Z2 (rz (N_K (q2 (pe 2 Z (o_quo Z Z Z oM oM oM (o_xor Z Z Z oO oO ?_)))))); intro _ _
 refine aG Z (q1 (pe 2 Z (o_rem Z Z Z oM oM (aG Z (q3 (W_ret (rt1 results33 Z ?_)))))))
 exact H.retM ⟨p + 1, _, by omega, congrArg (Value.int .i64) (Int.toNat_of_nonneg (Int.emod_nonneg _ oM)).symm, .inl (by rw [Int.toNat_of_nonneg (Int.emod_nonneg _ oM)]; exact Int.emod_lt_of_pos _ oM), rfl⟩
end Go.Proofs.Tst

namespace Go.Proofs.Tst
open Go Fw Tryz
theorem l3Free_c (w0 : World) (G0 : PH) (hG : PSub G0 w0) (vlist : Value) (list : List (BHeld)) (hlist : RdH G0 vlist list)  :
  Calls Tryz.prog 204 #[vlist] w0 (Rets w0 (.int .i64 (Sp.freeId list : Int))) := by
 obtain ⟨alist, klist, rfl⟩ := hlist.shape
 have hlimlist : list.length ≤ 1099511627776 := hlist.lim
 have H := Hp.init hG
 refine calls_of_W (l := [.slice alist list.length klist]) func204 Z ntmps204 Z (q2 (aG Z (q1 (aG Z (q3 (W_seq (W_block ?_)))))))
 refine W_lp (hf := (Sub.cons (t := 0) Z (Sub.cons (t := 2) Z Sub.nil))) (J := fun M w m => ∃ (k : Nat) (G : PH), M = [(3, .int .i64 ((k : Int) + 1))] ∧ PLe G0 G ∧ Hp w0 G0 [] w G [] ∧ (∀ j : Nat, j < k → (Sp.atH list ((j : Int) + 1)).isSome = true) ∧ m = (list.length + 1 - k)) (h0 := ⟨0, _, Z, PLe.refl _, H, ?inv, Z⟩) (round := ?round)
 case inv => exact fun j hj => by omega
 case round =>
  rintro _ _ _ ⟨k, _, rfl, hle1, H, hinv1, rfl⟩
  have hlist := hlist.up hle1
  have hall := hinv1; have hkl := Sp.free_le hall
  refine W_seq (q2 (pe 2 Z (xr H Z2 (l3At_c _ _ H.sub _ _ hlist _ ) ?_))); intro _ H
  refine pe 1 Z (q3 ?_)
  refine W_cond Z ?_ ?_
  ·intro hc3
   try simp only [nrm] at hc3
   refine W_skip (N_K (W_block (W_region (mV Z (aD Z2 (aG Z (R_nil (N_B ?_))))))))
   refine N_lp (hJ := ⟨k + 1, _, Z, hle1, H, ?inv, Z⟩) (hm := ?hm)
   case hm => omega
   case inv => exact Sp.upto_succ (p := fun j : Nat => (Sp.atH list ((j : Int) + 1)).isSome) hall (Sp.isSome_of hc3)
  intro hc3'
  try simp only [nrm] at hc3'
  refine W_exit (N_K_exit (N_LP_exit (N_B_same (N_K (q2 (pe 2 Z (q3 (W_ret (rt1 results204 Z ?_)))))))))
  exact H.rets (congrArg (Value.int .i64) (by rw [Sp.free_eq hall (Sp.isNone_of hc3')]; rfl))
end Go.Proofs.Tst

namespace Go.Proofs.Tst
open Go Fw Tryz
theorem l3With_c (w0 : World) (G0 : PH) (hG : PSub G0 w0) (vlist : Value) (list : List (BHeld)) (hlist : RdH G0 vlist list) (vbytes : Value) (bytes : List (Int)) (hbytes : RdI G0 vbytes bytes) (hS : list.length ≤ 1000000) :
  Calls Tryz.prog 205 #[vlist, vbytes] w0 (RetO w0 G0 (AccOf heldE 3 42 (Sp.l3With list bytes))) := by
 obtain ⟨alist, klist, rfl⟩ := hlist.shape
 have hlimlist : list.length ≤ 1099511627776 := hlist.lim
 obtain ⟨abytes, kbytes, rfl⟩ := hbytes.shape
 have hlimbytes : bytes.length ≤ 1099511627776 := hbytes.lim
 have hfr := Sp.free_lt list
 have H := Hp.init hG
 refine calls_of_W (l := [.slice alist list.length klist, .slice abytes bytes.length kbytes]) func205 Z ntmps205 Z (q2 (aG Z (q1 (mV Z (xr H Z2 (l3Free_c _ _ H.sub _ _ hlist ) ?_))))); intro _ H
 refine aG Z (q1 (xbs H Z7 ?_)); intro _ _ _ H
 have H := H.blkAcc 3 (k := 0) (n := 0) rfl rfl (by decide)
 refine aG Z (q1 (aG Z (q1 (mV Z (xbs H Z7 ?_))))); intro _ _ _ H
 have H := H.blkAcc 1 (k := 0) (n := 0) rfl rfl (by decide)
 refine mV Z ?_
 refine o_append_P 0 H hbytes (by intro _ cs hz _ hu; obtain ⟨rfl, _⟩ := hz; simp at hu; subst hu; rfl) (sz := 1) (bytes := 8) underlying38 typeInfo3 ⟨_, rfl, rfl⟩ rfl rfl rfl rfl rfl rfl rfl oM rfl ?_; intro _ _ css4 hcl4 hcs4 H
 have hchk4 : Chk intE 1 G0 ([] ++ css4.flatten) _ := ⟨css4, rfl, hcl4, hcs4⟩
 obtain ⟨_, _, rfl⟩ := H.accShape (k := 0) rfl
 refine o_build bf42 Z Z Z (xal H Z ?_); intro b5 _ _ H
 refine xst 0 H Z8 ?_; intro _ H
 refine q1 (mV Z (xc Z2 (l3Copy_c _ _ H.sub _ _ hlist ) ?_))
 rintro _ _ ⟨_, _, _, g7, rfl, ⟨_, rfl, hchk7⟩, hp7, hq7, hs7⟩
 have H := H.growO g7 hp7 hq7 hs7; obtain ⟨_, _, rfl⟩ := H.accShape (k := 0) rfl
 have hchk4 := hchk4.up g7.le
 refine ⟨_, Z, ?_⟩
 refine aG Z (q3 (W_seq (q2 (aG Z (q3 (W_block ?_))))))
 obtain ⟨_, H, hsg8, hsr8⟩ := H.shut' (k := 2) rfl hchk4 aN aN
 have hchk7 := hchk7.up hsg8
 obtain ⟨G9, H, hsg9, hsr9⟩ := H.shut' (k := 0) rfl hchk7 aN aN
 have hsr8 := hsr8.up hsg9
 obtain ⟨ln10, hln10, H⟩ := H.name (k := 0) rfl
 refine W_lp (hf := (Sub.cons (t := 4) Z (Sub.cons (t := 5) Z (Sub.cons (t := 8) Z (Sub.cons (t := 9) Z Sub.nil))))) (J := fun M w m => ∃ (v : Value) (n : Nat) (cs : List Value) (xs : List (BHeld)) (d : Bool) (k : Nat) (G : PH), M = [(7, .bool d), (10, .int .i64 (k : Int)), (6, v)] ∧ PLe G9 G ∧ Hp w0 G0 [] w G [blk b5 (cl ln10 42), acc 42 3 v n cs] ∧ (Chk heldE 3 G cs xs ∧ n = xs.length ∧ k ≤ list.length ∧ xs.length ≤ k + 1 ∧ (d = false → xs = list.take k ∧ (list.take k).all (Sp.idF list) = true) ∧ (d = true → xs ++ list.drop k = Sp.l3With list bytes)) ∧ m = (list.length - k)) (h0 := ⟨_, _, _, [], false, 0, _, Z, PLe.refl _, H, ?inv, Z⟩) (round := ?round)
 case inv => exact ⟨(Chk.nil (E := heldE) (sz := 3) (G := G9)),  by first | rfl | simp | (simp; omega) | omega, (by simp)⟩
 case round =>
  rintro _ _ _ ⟨v, n, cs, xs, d, k, _, rfl, hle11, H, hinv11, rfl⟩
  subst hln10
  have hsr8 := hsr8.up hle11
  have hsr9 := hsr9.up hle11
  obtain ⟨hchk11_0, _, hinv11⟩ := hinv11
  obtain ⟨_, _, rfl⟩ := H.accShape (k := 1) rfl
  obtain ⟨_, _, hd0, hd1⟩ := hinv11
  refine W_seq (q2 (pe 2 Z (lN Z (pe 1 Z (q3 ?_)))))
  refine W_cond Z ?_ ?_
  ·intro hc12
   try simp only [nrm] at hc12
   refine W_skip (N_K (W_seq (W_block (W_seq (q2 (pe 3 Z ?_))))))
   refine R_case (t := 29) Z ?_ ?_
   ·intro hc13
    try simp only [nrm] at hc13
    refine pe 2 Z (gR Z (iP k hsr9 Z3 Z ?_)); intro _ _ z14 _ hz14 hE14 hrow14
    obtain ⟨_, _, _, rfl, _, _, _, _, _⟩ := ox hE14
    refine gR Z (fA 0 Z (gR Z (lP H hrow14 0 Z2 (pe 3 Z (q3 ?_)))))
    refine W_cond Z ?_ ?_
    ·intro hc15
     try simp only [nrm] at hc15
     refine q2 (mV Z (lA 0 3 H Z4 (xbs H Z7 ?_))); intro _ _ _ H
     refine o_append1 1 H (sz := 3) (bytes := 40) underlying23 typeInfo42 ⟨_, Z, Z⟩ Z Z Z Z Z Z Z Z Z Z oM Z ?_; intro _ _ H
     have hchk17 := hchk11_0.snoc (show heldE _ ⟨(Sp.freeId list : Int), bytes, 1⟩ _ from ⟨_, _, _, rfl, ⟨by first | omega | (dsimp only; omega), by first | omega | (dsimp only; omega)⟩, hsr8, ⟨by first | omega | (dsimp only; omega), by first | omega | (dsimp only; omega)⟩⟩) rfl
     obtain ⟨_, _, rfl⟩ := H.accShape (k := 1) rfl
     refine aG Z (q3 (W_region (aG Z (q3 (W_region (pe 3 Z (iP k hsr9 Z3 Z ?_))))))); intro _ _ z18 _ hz18 hE18 hrow18
     obtain ⟨_, _, _, rfl, _, hr18, _, _, _⟩ := ox hE18
     have hzz18 : z14 = z18 := Option.some.inj (hz14.symm.trans hz18)
     subst hzz18
     refine o_loadagg_P H isAgg42 sizeOf42 Z Z hrow18 Z (xbs H Z7 ?_); intro _ _ _ H
     refine o_append1 1 H (sz := 3) (bytes := 40) underlying23 typeInfo42 ⟨_, Z, Z⟩ Z Z Z Z Z Z Z Z Z Z oM Z ?_; intro _ _ H
     have hchk20 := hchk17.snoc (show heldE _ z14 _ from ⟨_, _, _, rfl, ⟨by first | omega | (dsimp only; omega), by first | omega | (dsimp only; omega)⟩, hr18, ⟨by first | omega | (dsimp only; omega), by first | omega | (dsimp only; omega)⟩⟩) rfl
     obtain ⟨_, _, rfl⟩ := H.accShape (k := 1) rfl
     refine aG Z (R_nil (N_B (N_K (W_region (mV Z (aD Z2 (aG Z (R_nil ?_))))))))
     refine N_lp (hJ := ⟨_, _, _, ((xs ++ [⟨(Sp.freeId list : Int), bytes, 1⟩]) ++ [z14]), true, k + 1, _, Z, hle11, H, ?inv, Z⟩) (hm := ?hm)
     case hm => omega
     case inv => exact ⟨hchk20, aN, (by exact ⟨by omega, by have := congrArg List.length (hd0 (by assumption)).1; simp at this ⊢; omega, by simp, fun _ => Sp.ins_new (F := Sp.idF list) (hd0 (by assumption)) hz14 (by simp [Sp.idF]; omega)⟩)⟩
    intro hc15'
    try simp only [nrm] at hc15'
    refine W_skip (N_K (W_region (pe 3 Z (iP k hsr9 Z3 Z ?_)))); intro _ _ z22 _ hz22 hE22 hrow22
    obtain ⟨_, _, _, rfl, _, hr22, _, _, _⟩ := ox hE22
    have hzz22 : z14 = z22 := Option.some.inj (hz14.symm.trans hz22)
    subst hzz22
    refine o_loadagg_P H isAgg42 sizeOf42 Z Z hrow22 Z (xbs H Z7 ?_); intro _ _ _ H
    refine o_append1 1 H (sz := 3) (bytes := 40) underlying23 typeInfo42 ⟨_, Z, Z⟩ Z Z Z Z Z Z Z Z Z Z oM Z ?_; intro _ _ H
    have hchk24 := hchk11_0.snoc (show heldE _ z14 _ from ⟨_, _, _, rfl, ⟨by first | omega | (dsimp only; omega), by first | omega | (dsimp only; omega)⟩, hr22, ⟨by first | omega | (dsimp only; omega), by first | omega | (dsimp only; omega)⟩⟩) rfl
    obtain ⟨_, _, rfl⟩ := H.accShape (k := 1) rfl
    refine aG Z (R_nil (N_B (N_K (W_region (mV Z (aD Z2 (aG Z (R_nil ?_))))))))
    refine N_lp (hJ := ⟨_, _, _, (xs ++ [z14]), d, k + 1, _, Z, hle11, H, ?inv, Z⟩) (hm := ?hm)
    case hm => omega
    case inv => exact ⟨hchk24, aN, (by first | exact ⟨by omega, by simp; omega, fun h => ⟨by rw [(hd0 h).1, Sp.take_succ' hz14], Sp.all_take (hd0 h).2 hz14 (by simp [Sp.idF]; omega)⟩, fun h => Sp.ins_old (hd1 h) hz14⟩ | exact ⟨by omega, by simp; omega, fun h => absurd h (by simp [*]), fun h => Sp.ins_old (hd1 h) hz14⟩)⟩
   intro hc13'
   try simp only [nrm] at hc13'
   refine pe 8 Z (q3 (W_false Z (W_skip (N_K (W_region (pe 3 Z (iP k hsr9 Z3 Z ?_))))))); intro _ _ z26 _ hz26 hE26 hrow26
   obtain ⟨_, _, _, rfl, _, hr26, _, _, _⟩ := ox hE26
   refine o_loadagg_P H isAgg42 sizeOf42 Z Z hrow26 Z (xbs H Z7 ?_); intro _ _ _ H
   refine o_append1 1 H (sz := 3) (bytes := 40) underlying23 typeInfo42 ⟨_, Z, Z⟩ Z Z Z Z Z Z Z Z Z Z oM Z ?_; intro _ _ H
   have hchk28 := hchk11_0.snoc (show heldE _ z26 _ from ⟨_, _, _, rfl, ⟨by first | omega | (dsimp only; omega), by first | omega | (dsimp only; omega)⟩, hr26, ⟨by first | omega | (dsimp only; omega), by first | omega | (dsimp only; omega)⟩⟩) rfl
   obtain ⟨_, _, rfl⟩ := H.accShape (k := 1) rfl
   refine aG Z (R_nil (N_B (N_K (W_region (mV Z (aD Z2 (aG Z (R_nil ?_))))))))
   refine N_lp (hJ := ⟨_, _, _, (xs ++ [z26]), d, k + 1, _, Z, hle11, H, ?inv, Z⟩) (hm := ?hm)
   case hm => omega
   case inv => exact ⟨hchk28, aN, (by first | exact ⟨by omega, by simp; omega, fun h => ⟨by rw [(hd0 h).1, Sp.take_succ' hz26], Sp.all_take (hd0 h).2 hz26 (by simp [Sp.idF]; omega)⟩, fun h => Sp.ins_old (hd1 h) hz26⟩ | exact ⟨by omega, by simp; omega, fun h => absurd h (by simp [*]), fun h => Sp.ins_old (hd1 h) hz26⟩)⟩
  intro hc12'
  try simp only [nrm] at hc12'
  refine W_exit (N_K_exit (N_LP_exit (N_B_same (N_K (W_seq (q2 (pe 2 Z (q3 ?_))))))))
  refine W_cond Z ?_ ?_
  ·intro hc30
   try simp only [nrm] at hc30
   refine W_region (mV Z (lA 0 3 H Z4 (xbs H Z7 ?_))); intro _ _ _ H
   refine o_append1 1 H (sz := 3) (bytes := 40) underlying23 typeInfo42 ⟨_, Z, Z⟩ Z Z Z Z Z Z Z Z Z Z oM Z ?_; intro _ _ H
   have hchk32 := hchk11_0.snoc (show heldE _ ⟨(Sp.freeId list : Int), bytes, 1⟩ _ from ⟨_, _, _, rfl, ⟨by first | omega | (dsimp only; omega), by first | omega | (dsimp only; omega)⟩, hsr8, ⟨by first | omega | (dsimp only; omega), by first | omega | (dsimp only; omega)⟩⟩) rfl
   obtain ⟨_, _, rfl⟩ := H.accShape (k := 1) rfl
   refine aG Z (q1 (pe 2 Z (q3 (W_ret (rt1 results205 Z ?_)))))
   have hx := hd0 (by assumption)
   rw [List.take_of_length_le oM] at hx
   obtain ⟨rfl, hx2⟩ := hx
   exact H.retO (k := 1) rfl (by rw [Sp.l3With_eq, ← Sp.ins_end _ hx2]; exact AccOf.mk aN hchk32) (acc_nd _ _ _ _ _)
  intro hc30'
  try simp only [nrm] at hc30'
  refine W_skip (N_K (q2 (pe 2 Z (q3 (W_ret (rt1 results205 Z ?_))))))
  have hx := hd1 (by assumption)
  rw [List.drop_of_length_le oM, List.append_nil] at hx
  subst hx
  exact H.retO (k := 1) rfl (by skip; exact AccOf.mk aN hchk11_0) (acc_nd _ _ _ _ _)
end Go.Proofs.Tst

namespace Go.Proofs.Tst
open Go Fw Tryz
theorem StorePut_c (w0 : World) (G0 : PH) (hG : PSub G0 w0) (vlist : Value) (list : List (BHeld)) (hlist : RdH G0 vlist list) (vbytes : Value) (bytes : List (Int)) (hbytes : RdI G0 vbytes bytes) (hS : list.length ≤ 1000000) :
  Calls Tryz.prog 193 #[vlist, vbytes] w0 (RetO w0 G0 (fun G v r => ∃ u, v = .tuple #[u, .int .i64 (((Sp.StorePut list bytes).map (·.2)).getD 0), .bool (Sp.StorePut list bytes).isSome] ∧ AccOf heldE 3 42 (((Sp.StorePut list bytes).map (·.1)).getD []) G u r ∧ inI (((Sp.StorePut list bytes).map (·.2)).getD 0))) := by
 obtain ⟨alist, klist, rfl⟩ := hlist.shape
 have hlimlist : list.length ≤ 1099511627776 := hlist.lim
 obtain ⟨abytes, kbytes, rfl⟩ := hbytes.shape
 have hlimbytes : bytes.length ≤ 1099511627776 := hbytes.lim
 have H := Hp.init hG
 refine calls_of_W (l := [.slice alist list.length klist, .slice abytes bytes.length kbytes]) func193 Z ntmps193 Z (q2 (pe 3 Z (q3 (W_seq (q2 (mV Z (xr H Z2 (StoreValid_c _ _ H.sub _ _ hlist ) ?_))))))); intro _ H
 refine pe 2 Z ?_
 refine R_case (t := 13) Z ?_ ?_
 ·intro hc2
  try simp only [nrm] at hc2
  refine pe 4 Z (q3 (W_true Z (q2 (xbs H Z7 ?_)))); intro _ _ _ H
  have H := H.blkAcc 3 (k := 0) (n := 0) rfl rfl (by decide)
  refine pe 3 Z (q3 (W_ret (N_K_ret (ret_gen (rs := [.tmp 4, .tmp 5, .tmp 6]) (vs := [_, _, _]) results193 ⟨Z, Z, Z, trivial⟩ ?_))))
  have hN : Sp.StorePut list bytes = none := by simp [Sp.StorePut, hc2]
  exact H.retO (k := 0) rfl (by rw [hN]; exact ⟨_, rfl, AccOf.mk aN (Chk.nil (E := heldE) (sz := 3) (G := G0)), (by simp [inI])⟩) (acc_nd _ _ _ _ _)
 intro hc2'
 try simp only [nrm] at hc2'
 refine pe 1 Z (gR Z (xr H Z2 (BlockValid_c _ _ H.sub _ _ hbytes ) ?_)); intro _ H
 refine pe 2 Z (q3 ?_)
 refine W_cond Z ?_ ?_
 ·intro hc5
  try simp only [nrm] at hc5
  refine q2 (xbs H Z7 ?_); intro _ _ _ H
  have H := H.blkAcc 3 (k := 0) (n := 0) rfl rfl (by decide)
  refine pe 3 Z (q3 (W_ret (N_K_ret (ret_gen (rs := [.tmp 4, .tmp 5, .tmp 6]) (vs := [_, _, _]) results193 ⟨Z, Z, Z, trivial⟩ ?_))))
  have hN : Sp.StorePut list bytes = none := by simp [Sp.StorePut, hc5]
  exact H.retO (k := 0) rfl (by rw [hN]; exact ⟨_, rfl, AccOf.mk aN (Chk.nil (E := heldE) (sz := 3) (G := G0)), (by simp [inI])⟩) (acc_nd _ _ _ _ _)
 intro hc5'
 try simp only [nrm] at hc5'
 refine W_skip (N_K (q2 (mV Z (xc Z2 (l3Copy_c _ _ H.sub _ _ hlist ) ?_))))
 rintro _ _ ⟨G7, _, _, g7, rfl, ⟨_, rfl, hchk7⟩, hp7, hq7, hs7⟩
 have H := H.growO g7 hp7 hq7 hs7; obtain ⟨_, _, rfl⟩ := H.accShape (k := 0) rfl
 have hlist := hlist.up g7.le
 have hbytes := hbytes.up g7.le
 refine ⟨_, Z, ?_⟩
 refine aG Z (q1 (pe 2 Z (xr H Z2 (l3Like_c _ _ H.sub _ _ hlist _ _ hbytes ) ?_))); intro _ H
 refine aG Z (q1 (mV Z (xr H Z2 (l3Free_c _ _ H.sub _ _ hlist ) ?_))); intro _ H
 refine aG Z (q3 (W_seq (q2 (pe 2 Z (q3 ?_)))))
 refine W_cond Z ?_ ?_
 ·intro hc10
  try simp only [nrm] at hc10
  obtain ⟨i, _, hi1, hi2, _, _, _⟩ := Sp.at_nat hc10
  refine q2 (pe 4 Z (o_index_A 0 H i Z hchk7 underlying23 sizeOf42 Z Z Z hi2 aN aN ?_)); intro _ z11 _ hba11 hz11 hE11 hg11; cases hba11
  obtain ⟨_, _, _, rfl, _, _, _, _, _⟩ := ox hE11
  have hsv := Sp.valid_at hc2' hz11
  refine fA 2 Z (o_load_A 0 H isAgg3 Z Z Z (hg11 2 _ Z) (aD Z2 (o_index_A 0 H i Z hchk7 underlying23 sizeOf42 Z Z Z hi2 aN aN ?_))); intro _ z13 _ hba13 hz13 hE13 _; cases hba13
  obtain ⟨_, _, _, rfl, _, _, _, _, _⟩ := ox hE13
  have hzz13 : z11 = z13 := Option.some.inj (hz11.symm.trans hz13)
  subst hzz13
  refine fA 2 Z ?_
  have hcl14 := hchk7.length
  refine o_store_A 0 H sizeOf3 Z Z Z Z Z (by simp only [vc, List.length_cons, List.length_nil]; omega) ?_; intro _ H
  have hchk14 := hchk7.put (x' := ⟨z11.id, z11.bytes, z11.uses + 1⟩) (off := 2) (vs := [_]) hz13 (fun cs hl hE => by obtain ⟨_, _, _, rfl, h1, h2, _⟩ := hE; exact ⟨_, _, _, rfl, h1, h2, ⟨by first | omega | (dsimp only; omega), by first | omega | (dsimp only; omega)⟩⟩) (by simp only [vc, List.length_cons, List.length_nil]; omega)
  refine q3 (W_region (pe 2 Z (o_index_A 0 H i Z hchk14 underlying23 sizeOf42 Z Z Z hi2 aN aN ?_))); intro _ _ _ hba15 hz15 hE15 hg15; cases hba15
  obtain ⟨_, _, _, rfl, _, _, _, _, _⟩ := ox hE15
  rw [List.getElem?_set_self oM] at hz15
  simp only [Option.some.injEq] at hz15
  subst hz15
  refine fA 0 Z (o_load_A 0 H isAgg3 Z Z Z (hg15 0 _ Z) (aG Z (q3 (W_seq (q2 (mV Z (xr H Z2 (StoreValid_c _ _ (H.lendSubL [0]) _ _ (H.lendRdL (k := 0) (ks := [0]) Z Z hchk14 aN aN) ) ?_))))))); intro _ H
  refine pe 1 Z (q3 ?_)
  refine W_cond Z ?_ ?_
  ·intro hc17
   try simp only [nrm] at hc17
   refine q2 (xbs H Z7 ?_); intro _ _ _ H
   have H := H.blkAcc 3 (k := 0) (n := 0) rfl rfl (by decide)
   refine pe 3 Z (q3 (W_ret (N_K_ret (ret_gen (rs := [.tmp 4, .tmp 5, .tmp 6]) (vs := [_, _, _]) results193 ⟨Z, Z, Z, trivial⟩ ?_))))
   have hN : Sp.StorePut list bytes = none := by (have hl : Sp.like list bytes = some i := hi1); simp [Sp.StorePut, hl, Sp.bump_at hz11, hc17]
   exact H.retO (k := 0) rfl (by rw [hN]; exact ⟨_, rfl, AccOf.mk aN (Chk.nil (E := heldE) (sz := 3) (G := G7)), (by simp [inI])⟩) (acc_nd _ _ _ _ _)
  intro hc17'
  try simp only [nrm] at hc17'
  refine W_skip (N_K (q2 (pe 5 Z (q3 (W_ret (ret_gen (rs := [.tmp 4, .tmp 5, .tmp 6]) (vs := [_, _, _]) results193 ⟨Z, Z, Z, trivial⟩ ?_))))))
  have hY : Sp.StorePut list bytes = some (list.set i ⟨z11.id, z11.bytes, z11.uses + 1⟩, z11.id) := by (have hl : Sp.like list bytes = some i := hi1); simp [Sp.StorePut, hc2', hc5', hl, Sp.bump_at hz11, hc17', hz11]
  exact H.retO (k := 0) rfl (by rw [hY]; exact ⟨_, rfl, AccOf.mk aN hchk14, ⟨by dsimp only [Option.map, Option.getD]; omega, by dsimp only [Option.map, Option.getD]; omega⟩⟩) (acc_nd _ _ _ _ _)
 intro hc10'
 try simp only [nrm] at hc10'
 refine W_region (pe 2 Z (xc Z2 (l3With_c _ _ H.sub _ _ hlist _ _ hbytes oM) ?_))
 rintro _ _ ⟨G19, _, _, g19, rfl, ⟨_, rfl, hchk19⟩, hp19, hq19, hs19⟩
 have H := H.growO g19 hp19 hq19 hs19; obtain ⟨_, _, rfl⟩ := H.accShape (k := 0) rfl
 refine ⟨_, Z, ?_⟩
 have hwl := Sp.l3With_len list bytes
 have hfr := Sp.free_lt list
 refine aG Z (q3 (W_seq (q2 (mV Z (xr H Z2 (StoreValid_c _ _ (H.lendSubL [0]) _ _ (H.lendRdL (k := 0) (ks := [0]) Z Z hchk19 aN aN) ) ?_))))); intro _ H
 refine pe 1 Z (q3 ?_)
 refine W_cond Z ?_ ?_
 ·intro hc21
  try simp only [nrm] at hc21
  refine q2 (xbs H Z7 ?_); intro _ _ _ H
  have H := H.blkAcc 3 (k := 0) (n := 0) rfl rfl (by decide)
  refine pe 3 Z (q3 (W_ret (N_K_ret (ret_gen (rs := [.tmp 4, .tmp 5, .tmp 6]) (vs := [_, _, _]) results193 ⟨Z, Z, Z, trivial⟩ ?_))))
  have hN : Sp.StorePut list bytes = none := by (have hl : Sp.like list bytes = none := Sp.at_none hc10'); simp [Sp.StorePut, hl, hc21]
  exact H.retO (k := 0) rfl (by rw [hN]; exact ⟨_, rfl, AccOf.mk aN (Chk.nil (E := heldE) (sz := 3) (G := G19)), (by simp [inI])⟩) (acc_nd _ _ _ _ _)
 intro hc21'
 try simp only [nrm] at hc21'
 refine W_skip (N_K (q2 (pe 5 Z (q3 (W_ret (ret_gen (rs := [.tmp 4, .tmp 5, .tmp 6]) (vs := [_, _, _]) results193 ⟨Z, Z, Z, trivial⟩ ?_))))))
 have hY : Sp.StorePut list bytes = some (Sp.l3With list bytes, (Sp.freeId list : Int)) := by (have hl : Sp.like list bytes = none := Sp.at_none hc10'); simp [Sp.StorePut, hc2', hc5', hl, hc21']
 exact H.retO (k := 0) rfl (by rw [hY]; exact ⟨_, rfl, AccOf.mk aN hchk19, ⟨by dsimp only [Option.map, Option.getD]; omega, by dsimp only [Option.map, Option.getD]; omega⟩⟩) (acc_nd _ _ _ _ _)
end Go.Proofs.Tst

namespace Go.Proofs.Tst
open Go Fw Tryz
theorem l4Cut_c (w0 : World) (G0 : PH) (hG : PSub G0 w0) (vbytes : Value) (bytes : List (Int)) (hbytes : RdI G0 vbytes bytes) (hS : bytes.length ≤ 1000000) :
  Calls Tryz.prog 192 #[vbytes] w0 (RetP w0 G0 (fun G v => RdS LIM intsE 1 G v (Sp.l4Cut bytes))) := by
 obtain ⟨abytes, kbytes, rfl⟩ := hbytes.shape
 have hlimbytes : bytes.length ≤ 1099511627776 := hbytes.lim
 have H := Hp.init hG
 refine calls_of_W (l := [.slice abytes bytes.length kbytes]) func192 Z ntmps192 Z (q2 (aG Z (q1 (xbs H Z7 ?_)))); intro _ _ _ H
 have H := H.blkAcc 1 (k := 0) (n := 0) rfl rfl (by decide)
 refine aG Z (q3 (W_seq (q2 (aG Z (q3 (W_block ?_))))))
 refine W_lp (hf := (Sub.cons (t := 0) Z (Sub.cons (t := 2) Z Sub.nil))) (J := fun M w m => ∃ (v : Value) (n : Nat) (cs : List Value) (xs : List (List Int)) (k : Nat) (G : PH), M = [(4, .int .i64 (8 * (k : Int))), (3, v)] ∧ PLe G0 G ∧ Hp w0 G0 [] w G [acc 38 1 v n cs] ∧ (Chk intsE 1 G cs xs ∧ n = xs.length ∧ k ≤ (bytes.length + 7) / 8 ∧ xs.length = k ∧ xs = (List.range k).map (Sp.chunk bytes)) ∧ m = (bytes.length + 8 - 8 * k)) (h0 := ⟨_, _, _, [], 0, _, Z, PLe.refl _, H, ?inv, Z⟩) (round := ?round)
 case inv => exact ⟨(Chk.nil (E := intsE) (sz := 1) (G := G0)),  by first | rfl | simp | (simp; omega) | omega, (by simp)⟩
 case round =>
  rintro _ _ _ ⟨v, n, cs, xs, k, G2, rfl, hle2, H, hinv2, rfl⟩
  have hbytes := hbytes.up hle2
  obtain ⟨hchk2_0, _, hinv2⟩ := hinv2
  obtain ⟨_, _, rfl⟩ := H.accShape (k := 0) rfl
  obtain ⟨_, hxl, hxs⟩ := hinv2
  refine W_seq (q2 (pe 2 Z (lN Z (pe 1 Z (q3 ?_)))))
  refine W_cond Z ?_ ?_
  ·intro hc3
   try simp only [nrm] at hc3
   refine W_skip (N_K (W_seq (W_block (W_region (mV Z (xbs H Z7 ?_)))))); intro _ _ _ H
   have H := H.blkAcc 1 (k := 0) (n := 0) rfl rfl (by decide)
   refine pe 3 Z (aD Z2 (mV Z (lN Z (o_min Z Z Z ?_))))
   have hcap6 := hbytes.cap; try simp only [List.length_set, List.length_append, List.length_take, List.length_drop, List.length_replicate] at hcap6
   refine o_slice (i := (8 * k)) (j := (min (8 * k + 8) bytes.length)) underlying38 sizeOf3 Z Z Z Z oM oM aN aN ?_
   have hsl6 := hbytes.part (i := (8 * k)) (j := (min (8 * k + 8) bytes.length)) oM oM
   have hsn1 := hsl6.len
   refine o_append_P 0 H hsl6 (by intro _ cs hz _ hu; obtain ⟨rfl, _⟩ := hz; simp at hu; subst hu; rfl) (sz := 1) (bytes := 8) underlying38 typeInfo3 ⟨_, rfl, rfl⟩ rfl rfl rfl rfl rfl rfl rfl oM rfl ?_; intro _ _ css7 hcl7 hcs7 H
   have hchk7 : Chk intE 1 G2 ([] ++ css7.flatten) _ := ⟨css7, rfl, hcl7, hcs7⟩
   obtain ⟨_, _, rfl⟩ := H.accShape (k := 0) rfl
   refine xbs H Z7 ?_; intro _ _ _ H
   refine o_append1 1 H (sz := 1) (bytes := 24) underlying242 typeInfo38 ⟨_, Z, Z⟩ Z Z Z Z Z Z Z Z Z Z oM Z ?_; intro _ _ H
   obtain ⟨_, H, hsg10, hsr10⟩ := H.shut' (k := 0) rfl hchk7 aN aN
   have hchk2_0 := hchk2_0.up hsg10
   have hle2 := hle2.trans hsg10
   have hchk9 := hchk2_0.snoc (show intsE _ (Sp.chunk bytes k) _ from ⟨_, _, _, rfl, hsr10⟩) rfl
   obtain ⟨_, _, rfl⟩ := H.accShape (k := 0) rfl
   refine aG Z (R_nil (N_B (N_K (W_region (mV Z (aD Z2 (aG Z (R_nil ?_))))))))
   refine N_lp (hJ := ⟨_, _, _, (xs ++ [(Sp.chunk bytes k)]), k + 1, _, Z, hle2, H, ?inv, Z⟩) (hm := ?hm)
   case hm => omega
   case inv => exact ⟨hchk9, aN, (by exact ⟨by omega, by simp [hxl], by rw [hxs, List.range_succ, List.map_append]; rfl⟩)⟩
  intro hc3'
  try simp only [nrm] at hc3'
  refine W_exit (N_K_exit (N_LP_exit (N_B_same (N_K (q2 (pe 2 Z (q3 (W_ret (rt1 results192 Z ?_)))))))))
  obtain ⟨_, H, hsg512, hsr512⟩ := H.shut' (k := 0) rfl hchk2_0 aN aN
  obtain rfl : k = (bytes.length + 7) / 8 := by omega
  exact H.retP (by rw [Sp.l4Cut, ← hxs]; exact hsr512)
end Go.Proofs.Tst

namespace Go.Proofs.Tst
open Go Fw Tryz
theorem FileStore_c (w0 : World) (G0 : PH) (hG : PSub G0 w0) (vlist : Value) (list : List (BHeld)) (hlist : RdH G0 vlist list) (vbytes : Value) (bytes : List (Int)) (hbytes : RdI G0 vbytes bytes) (hS : bytes.length ≤ 1000000) :
  Calls Tryz.prog 160 #[vlist, vbytes] w0 (RetO w0 G0 (fun G v r => ∃ u u1, v = .tuple #[u, u1, .bool (Sp.FileStore list bytes).isSome] ∧ AccOf heldE 3 42 (((Sp.FileStore list bytes).map (·.1)).getD []) G u r ∧ RdI G u1 (((Sp.FileStore list bytes).map (·.2)).getD []))) := by
 obtain ⟨alist, klist, rfl⟩ := hlist.shape
 have hlimlist : list.length ≤ 1099511627776 := hlist.lim
 obtain ⟨abytes, kbytes, rfl⟩ := hbytes.shape
 have hlimbytes : bytes.length ≤ 1099511627776 := hbytes.lim
 have H := Hp.init hG
 refine calls_of_W (l := [.slice alist list.length klist, .slice abytes bytes.length kbytes]) func160 Z ntmps160 Z (q2 (pe 3 Z (q3 (W_seq (q2 (mV Z (xr H Z2 (StoreValid_c _ _ H.sub _ _ hlist ) ?_))))))); intro _ H
 refine pe 2 Z ?_
 refine R_case (t := 17) Z ?_ ?_
 ·intro hc2
  try simp only [nrm] at hc2
  refine pe 4 Z (q3 (W_true Z (q2 (xbs H Z7 ?_)))); intro _ _ _ H
  have H := H.blkAcc 3 (k := 0) (n := 0) rfl rfl (by decide)
  refine xbs H Z7 ?_; intro _ _ _ H
  have H := H.blkAcc 1 (k := 0) (n := 0) rfl rfl (by decide)
  refine pe 3 Z (q3 (W_ret (N_K_ret (ret_gen (rs := [.tmp 4, .tmp 5, .tmp 6]) (vs := [_, _, _]) results160 ⟨Z, Z, Z, trivial⟩ ?_))))
  obtain ⟨G505, H, hsg505, hsr505⟩ := H.shut' (k := 0) rfl (Chk.nil (E := intE) (sz := 1) (G := G0)) aN aN
  have hY : Sp.FileStore list bytes = none := by simp [Sp.FileStore, hc2]
  exact H.retO (k := 0) rfl (by rw [hY]; exact ⟨_, _, rfl, AccOf.mk aN (Chk.nil (E := heldE) (sz := 3) (G := G505)), hsr505⟩) (acc_nd _ _ _ _ _)
 intro hc2'
 try simp only [nrm] at hc2'
 refine pe 1 Z (gR Z (xr H Z2 (FileValid_c _ _ H.sub _ _ hbytes ) ?_)); intro _ H
 refine pe 2 Z (q3 ?_)
 refine W_cond Z ?_ ?_
 ·intro hc6
  try simp only [nrm] at hc6
  refine q2 (xbs H Z7 ?_); intro _ _ _ H
  have H := H.blkAcc 3 (k := 0) (n := 0) rfl rfl (by decide)
  refine xbs H Z7 ?_; intro _ _ _ H
  have H := H.blkAcc 1 (k := 0) (n := 0) rfl rfl (by decide)
  refine pe 3 Z (q3 (W_ret (N_K_ret (ret_gen (rs := [.tmp 4, .tmp 5, .tmp 6]) (vs := [_, _, _]) results160 ⟨Z, Z, Z, trivial⟩ ?_))))
  obtain ⟨G509, H, hsg509, hsr509⟩ := H.shut' (k := 0) rfl (Chk.nil (E := intE) (sz := 1) (G := G0)) aN aN
  have hY : Sp.FileStore list bytes = none := by simp [Sp.FileStore, hc6]
  exact H.retO (k := 0) rfl (by rw [hY]; exact ⟨_, _, rfl, AccOf.mk aN (Chk.nil (E := heldE) (sz := 3) (G := G509)), hsr509⟩) (acc_nd _ _ _ _ _)
 intro hc6'
 try simp only [nrm] at hc6'
 refine W_skip (N_K (q2 (mV Z (xc Z2 (l3Copy_c _ _ H.sub _ _ hlist ) ?_))))
 rintro _ _ ⟨_, _, _, g9, rfl, ⟨_, rfl, hchk9⟩, hp9, hq9, hs9⟩
 have H := H.growO g9 hp9 hq9 hs9; obtain ⟨_, _, rfl⟩ := H.accShape (k := 0) rfl
 have hbytes := hbytes.up g9.le
 refine ⟨_, Z, ?_⟩
 refine aG Z (q1 (xbs H Z7 ?_)); intro _ _ _ H
 have H := H.blkAcc 1 (k := 0) (n := 0) rfl rfl (by decide)
 refine aG Z (q1 (mV Z (xc Z2 (l4Cut_c _ _ H.sub _ _ hbytes oM) ?_)))
 rintro _ _ ⟨G11, _, g11, rfl, hr11_0⟩
 have H := H.grow g11
 have hchk9 := hchk9.up g11.le
 obtain ⟨_, _, rfl⟩ := hr11_0.shape; have hx_hr11_0 : _ ≤ 1099511627776 := hr11_0.lim
 refine ⟨_, Z, ?_⟩
 refine aG Z (q3 (W_seq (q2 (aG Z (q3 (W_block ?_))))))
 refine W_lp (hf := (Sub.cons (t := 9) Z Sub.nil)) (J := fun M w m => ∃ (v : Value) (n : Nat) (cs : List Value) (xs : List (BHeld)) (v1 : Value) (n1 : Nat) (cs1 : List Value) (xs1 : List (Int)) (k : Nat) (G : PH), M = [(10, .int .i64 (k : Int)), (7, v), (8, v1)] ∧ PLe G11 G ∧ Hp w0 G0 [] w G [acc 3 1 v1 n1 cs1, acc 42 3 v n cs] ∧ (Chk heldE 3 G cs xs ∧ n = xs.length ∧ Chk intE 1 G cs1 xs1 ∧ n1 = xs1.length ∧ k ≤ (Sp.l4Cut bytes).length ∧ xs.length ≤ 1000 ∧ xs1.length ≤ k ∧ Sp.foldB Sp.put1 ((Sp.l4Cut bytes).take k) (some (list, [])) = some (xs, xs1)) ∧ m = ((Sp.l4Cut bytes).length - k)) (h0 := ⟨_, _, _, list, _, _, _, [], 0, _, Z, PLe.refl _, H, ?inv, Z⟩) (round := ?round)
 case inv => exact ⟨hchk9, (by first | rfl | simp | (simp; omega) | omega), (Chk.nil (E := intE) (sz := 1) (G := G11)),  by first | rfl | simp | (simp; omega) | omega, (by exact ⟨by omega, by have := Sp.valid_len hc2'; omega, by simp, by simp [Sp.foldB]⟩)⟩
 case round =>
  rintro _ _ _ ⟨v, n, cs, xs, v1, n1, cs1, xs1, k, _, rfl, hle12, H, hinv12, rfl⟩
  have hr11_0 := hr11_0.up hle12
  obtain ⟨hchk12_0, _, hinv12⟩ := hinv12
  obtain ⟨_, _, rfl⟩ := H.accShape (k := 1) rfl
  obtain ⟨hchk12_1, _, hinv12⟩ := hinv12
  obtain ⟨_, _, rfl⟩ := H.accShape (k := 0) rfl
  obtain ⟨_, _, _, hf⟩ := hinv12
  refine W_seq (q2 (pe 2 Z (lN Z (pe 1 Z (q3 ?_)))))
  refine W_cond Z ?_ ?_
  ·intro hc13
   try simp only [nrm] at hc13
   refine W_skip (N_K (W_seq (W_block (q2 (pe 3 Z (iP k hr11_0 Z3 Z ?_)))))); intro _ _ z14 _ hz14 hE14 hrow14
   obtain ⟨_, _, _, rfl, hr14⟩ := hE14; have hn_hr14 := hr14.len; have hx_hr14 : _ ≤ 1099511627776 := hr14.lim
   refine lP H hrow14 0 Z2 ?_
   obtain ⟨_, H, hsg16, hsr16⟩ := H.shut' (k := 1) rfl hchk12_0 aN aN
   have hchk12_1 := hchk12_1.up hsg16
   have hr14 := hr14.up hsg16
   have hle12 := hle12.trans hsg16
   refine xc Z2 (StorePut_c _ _ H.sub _ _ hsr16 _ _ hr14 oM) ?_
   rintro _ _ ⟨G15, _, _, g15, rfl, ⟨_, rfl, ⟨_, rfl, hchk15⟩, ⟨hfa15, hfb15⟩⟩, hp15, hq15, hs15⟩
   have H := H.growO g15 hp15 hq15 hs15; obtain ⟨_, _, rfl⟩ := H.accShape (k := 0) rfl
   have hchk12_1 := hchk12_1.up g15.le
   have hle12 := hle12.trans g15.le
   refine ⟨_, Z, ?_⟩
   refine pe 7 Z (q3 (W_seq (q2 (pe 2 Z (q3 ?_)))))
   refine W_cond Z ?_ ?_
   ·intro hc17
    try simp only [nrm] at hc17
    refine q2 (xbs H Z7 ?_); intro _ _ _ H
    have H := H.blkAcc 3 (k := 0) (n := 0) rfl rfl (by decide)
    refine xbs H Z7 ?_; intro _ _ _ H
    have H := H.blkAcc 1 (k := 0) (n := 0) rfl rfl (by decide)
    refine pe 3 Z (q3 (W_ret (N_K_ret (N_B_ret (N_K_ret (N_LP_ret (N_B_ret (N_K_ret (ret_gen (rs := [.tmp 4, .tmp 5, .tmp 6]) (vs := [_, _, _]) results160 ⟨Z, Z, Z, trivial⟩ ?_)))))))))
    obtain ⟨G520, H, hsg520, hsr520⟩ := H.shut' (k := 0) rfl (Chk.nil (E := intE) (sz := 1) (G := G15)) aN aN
    have hY : Sp.FileStore list bytes = none := by (have hno : Sp.StorePut xs z14 = none := by simpa using hc17); simp only [Sp.FileStore, hc2', hc6', Bool.and_self, if_true]; exact Sp.foldB_stop hf hz14 (by simp [Sp.put1, hno])
    exact H.retO (k := 0) rfl (by rw [hY]; exact ⟨_, _, rfl, AccOf.mk aN (Chk.nil (E := heldE) (sz := 3) (G := G520)), hsr520⟩) (acc_nd _ _ _ _ _)
   intro hc17'
   try simp only [nrm] at hc17'
   obtain ⟨p, hsp⟩ := Option.isSome_iff_exists.1 hc17'
   rw [hsp] at H hchk15 hfa15 hfb15 ⊢
   dsimp only [Option.map, Option.getD] at H hchk15 hfa15 hfb15
   refine W_skip (N_K (q2 (pe 2 Z (q3 (W_region (pe 2 Z (xbs H Z7 ?_))))))); intro _ _ _ H
   refine o_append1 1 H (sz := 1) (bytes := 8) underlying38 typeInfo3 ⟨_, Z, Z⟩ Z Z Z Z Z Z Z Z Z Z oM Z ?_; intro _ _ H
   have hchk21 := hchk12_1.snoc (show intE _ p.2 _ from ⟨rfl, oO⟩) rfl
   obtain ⟨_, _, rfl⟩ := H.accShape (k := 1) rfl
   refine aG Z (R_nil (N_B (N_K (W_region (mV Z (aD Z2 (aG Z (R_nil ?_))))))))
   have H := H.tF 1
   refine N_lp (hJ := ⟨_, _, _, p.1, _, _, _, (xs1 ++ [p.2]), k + 1, _, Z, hle12, H, ?inv, Z⟩) (hm := ?hm)
   case hm => omega
   case inv => exact ⟨hchk15, aN, hchk21, aN, (by exact ⟨by omega, by have := Sp.put_len hsp; omega, by simp; omega, Sp.foldB_succ hf hz14 (by simp [Sp.put1, hsp])⟩)⟩
  intro hc13'
  try simp only [nrm] at hc13'
  refine W_exit (N_K_exit (N_LP_exit (N_B_same (N_K (q2 (pe 5 Z (q3 (W_ret (ret_gen (rs := [.tmp 4, .tmp 5, .tmp 6]) (vs := [_, _, _]) results160 ⟨Z, Z, Z, trivial⟩ ?_)))))))))
  obtain ⟨_, H, hsg523, hsr523⟩ := H.shut' (k := 0) rfl hchk12_1 aN aN
  have hchk12_0 := hchk12_0.up hsg523
  have hY : Sp.FileStore list bytes = some (xs, xs1) := by simp only [Sp.FileStore, hc2', hc6', Bool.and_self, if_true]; exact Sp.foldB_all hf oM
  exact H.retO (k := 0) rfl (by rw [hY]; exact ⟨_, _, rfl, AccOf.mk aN hchk12_0, hsr523⟩) (acc_nd _ _ _ _ _)
end Go.Proofs.Tst

namespace Go.Proofs.Tst
open Go Fw Tryz
theorem StoreKeep_c (w0 : World) (G0 : PH) (hG : PSub G0 w0) (vlist : Value) (list : List (BHeld)) (hlist : RdH G0 vlist list) (id : Int)  :
  Calls Tryz.prog 80 #[vlist, .int .i64 id] w0 (RetO w0 G0 (fun G v r => ∃ u, v = .tuple #[u, .bool (Sp.StoreKeep list id).isSome] ∧ AccOf heldE 3 42 ((Sp.StoreKeep list id).getD []) G u r)) := by
 obtain ⟨alist, klist, rfl⟩ := hlist.shape
 have hlimlist : list.length ≤ 1099511627776 := hlist.lim
 have H := Hp.init hG
 refine calls_of_W (l := [.slice alist list.length klist, .int .i64 id]) func80 Z ntmps80 Z (q2 (pe 2 Z (q1 (pe 2 Z (xr H Z2 (l3At_c _ _ H.sub _ _ hlist _ ) ?_))))); intro _ H
 refine aG Z (q3 (W_seq (q2 (mV Z (xr H Z2 (StoreValid_c _ _ H.sub _ _ hlist ) ?_))))); intro _ H
 refine pe 2 Z ?_
 refine R_case (t := 14) Z ?_ ?_
 ·intro hc3
  try simp only [nrm] at hc3
  refine pe 11 Z (q3 (W_true Z (q2 (xbs H Z7 ?_)))); intro _ _ _ H
  have H := H.blkAcc 3 (k := 0) (n := 0) rfl rfl (by decide)
  refine pe 2 Z (q3 (W_ret (N_K_ret (rt2 results80 Z Z ?_))))
  have hN : Sp.StoreKeep list id = none := by simp [Sp.StoreKeep, hc3]
  exact H.retO (k := 0) rfl (by rw [hN]; exact ⟨_, rfl, AccOf.mk aN (Chk.nil (E := heldE) (sz := 3) (G := G0))⟩) (acc_nd _ _ _ _ _)
 intro hc3'
 try simp only [nrm] at hc3'
 refine pe 4 Z ?_
 refine R_case (t := 18) Z ?_ ?_
 ·intro hc5
  try simp only [nrm] at hc5
  refine pe 7 Z (q3 (W_true Z (q2 (xbs H Z7 ?_)))); intro _ _ _ H
  have H := H.blkAcc 3 (k := 0) (n := 0) rfl rfl (by decide)
  refine pe 2 Z (q3 (W_ret (N_K_ret (rt2 results80 Z Z ?_))))
  have hN : Sp.StoreKeep list id = none := by simp [Sp.StoreKeep, Sp.atH, Sp.at_none hc5]
  exact H.retO (k := 0) rfl (by rw [hN]; exact ⟨_, rfl, AccOf.mk aN (Chk.nil (E := heldE) (sz := 3) (G := G0))⟩) (acc_nd _ _ _ _ _)
 intro hc5'
 try simp only [nrm] at hc5'
 obtain ⟨i, _, hi1, hi2, _, _, _⟩ := Sp.at_nat hc5'
 have hl : Sp.atH list id = some i := hi1
 refine pe 2 Z (gR Z (iP i hlist Z3 hi2 ?_)); intro _ _ z7 _ hz7 hE7 hrow7
 obtain ⟨_, _, _, rfl, _, hr7, _, _, _⟩ := ox hE7
 refine gR Z (fA 2 Z (gR Z (lP H hrow7 2 Z2 (pe 2 Z (q3 ?_)))))
 refine W_cond Z ?_ ?_
 ·intro hc8
  try simp only [nrm] at hc8
  refine q2 (xbs H Z7 ?_); intro _ _ _ H
  have H := H.blkAcc 3 (k := 0) (n := 0) rfl rfl (by decide)
  refine pe 2 Z (q3 (W_ret (N_K_ret (rt2 results80 Z Z ?_))))
  have hN : Sp.StoreKeep list id = none := by simp [Sp.StoreKeep, hl, hz7, hc8]
  exact H.retO (k := 0) rfl (by rw [hN]; exact ⟨_, rfl, AccOf.mk aN (Chk.nil (E := heldE) (sz := 3) (G := G0))⟩) (acc_nd _ _ _ _ _)
 intro hc8'
 try simp only [nrm] at hc8'
 refine W_skip (N_K (q2 (mV Z (xc Z2 (l3Copy_c _ _ H.sub _ _ hlist ) ?_))))
 rintro _ _ ⟨_, _, _, g10, rfl, ⟨_, rfl, hchk10⟩, hp10, hq10, hs10⟩
 have H := H.growO g10 hp10 hq10 hs10; obtain ⟨_, _, rfl⟩ := H.accShape (k := 0) rfl
 refine ⟨_, Z, ?_⟩
 refine aG Z (q1 (pe 4 Z (o_index_A 0 H i Z hchk10 underlying23 sizeOf42 Z Z Z hi2 aN aN ?_))); intro _ z11 _ hba11 hz11 hE11 hg11; cases hba11
 obtain ⟨_, _, _, rfl, _, _, _, _, _⟩ := ox hE11
 have hsv := Sp.valid_at hc3' hz11
 refine fA 2 Z (o_load_A 0 H isAgg3 Z Z Z (hg11 2 _ Z) (aD Z2 (o_index_A 0 H i Z hchk10 underlying23 sizeOf42 Z Z Z hi2 aN aN ?_))); intro _ z13 _ hba13 hz13 hE13 _; cases hba13
 obtain ⟨_, _, _, rfl, _, _, _, _, _⟩ := ox hE13
 have hzz13 : z11 = z13 := Option.some.inj (hz11.symm.trans hz13)
 subst hzz13
 refine fA 2 Z ?_
 have hcl14 := hchk10.length
 refine o_store_A 0 H sizeOf3 Z Z Z Z Z (by simp only [vc, List.length_cons, List.length_nil]; omega) ?_; intro _ H
 have hchk14 := hchk10.put (x' := ⟨z11.id, z11.bytes, z11.uses + 1⟩) (off := 2) (vs := [_]) hz13 (fun cs hl hE => by obtain ⟨_, _, _, rfl, h1, h2, _⟩ := hE; exact ⟨_, _, _, rfl, h1, h2, ⟨by first | omega | (dsimp only; omega), by first | omega | (dsimp only; omega)⟩⟩) (by simp only [vc, List.length_cons, List.length_nil]; omega)
 refine q1 (pe 3 Z (q3 (W_ret (rt2 results80 Z Z ?_))))
 have hY : Sp.StoreKeep list id = some (list.set i ⟨z11.id, z11.bytes, z11.uses + 1⟩) := by (have hzz : z7 = z11 := Option.some.inj (hz7.symm.trans hz11)); rw [hzz] at hc8'; simp [Sp.StoreKeep, hc3', hl, hz11, hc8', Sp.bump_at hz11]
 exact H.retO (k := 0) rfl (by rw [hY]; exact ⟨_, rfl, AccOf.mk aN hchk14⟩) (acc_nd _ _ _ _ _)
theorem StoreDrop_c (w0 : World) (G0 : PH) (hG : PSub G0 w0) (vlist : Value) (list : List (BHeld)) (hlist : RdH G0 vlist list) (id : Int)  :
  Calls Tryz.prog 191 #[vlist, .int .i64 id] w0 (RetO w0 G0 (fun G v r => ∃ u, v = .tuple #[u, .bool (Sp.StoreDrop list id).isSome] ∧ AccOf heldE 3 42 ((Sp.StoreDrop list id).getD []) G u r)) := by
 obtain ⟨alist, klist, rfl⟩ := hlist.shape
 have hlimlist : list.length ≤ 1099511627776 := hlist.lim
 have H := Hp.init hG
 refine calls_of_W (l := [.slice alist list.length klist, .int .i64 id]) func191 Z ntmps191 Z (q2 (pe 2 Z (q1 (pe 2 Z (xr H Z2 (l3At_c _ _ H.sub _ _ hlist _ ) ?_))))); intro _ H
 refine aG Z (q3 (W_seq (q2 (mV Z (xr H Z2 (StoreValid_c _ _ H.sub _ _ hlist ) ?_))))); intro _ H
 refine pe 2 Z ?_
 refine R_case (t := 14) Z ?_ ?_
 ·intro hc3
  try simp only [nrm] at hc3
  refine pe 3 Z (q3 (W_true Z (q2 (xbs H Z7 ?_)))); intro _ _ _ H
  have H := H.blkAcc 3 (k := 0) (n := 0) rfl rfl (by decide)
  refine pe 2 Z (q3 (W_ret (N_K_ret (rt2 results191 Z Z ?_))))
  have hN : Sp.StoreDrop list id = none := by simp [Sp.StoreDrop, hc3]
  exact H.retO (k := 0) rfl (by rw [hN]; exact ⟨_, rfl, AccOf.mk aN (Chk.nil (E := heldE) (sz := 3) (G := G0))⟩) (acc_nd _ _ _ _ _)
 intro hc3'
 try simp only [nrm] at hc3'
 refine pe 3 Z (q3 ?_)
 refine W_cond Z ?_ ?_
 ·intro hc5
  try simp only [nrm] at hc5
  refine q2 (xbs H Z7 ?_); intro _ _ _ H
  have H := H.blkAcc 3 (k := 0) (n := 0) rfl rfl (by decide)
  refine pe 2 Z (q3 (W_ret (N_K_ret (rt2 results191 Z Z ?_))))
  have hN : Sp.StoreDrop list id = none := by simp [Sp.StoreDrop, Sp.atH, Sp.at_none hc5]
  exact H.retO (k := 0) rfl (by rw [hN]; exact ⟨_, rfl, AccOf.mk aN (Chk.nil (E := heldE) (sz := 3) (G := G0))⟩) (acc_nd _ _ _ _ _)
 intro hc5'
 try simp only [nrm] at hc5'
 obtain ⟨i, _, hi1, hi2, _, _, _⟩ := Sp.at_nat hc5'
 have hi2 : Sp.l3At list id = (i : Int) := hi2
 have hl : Sp.atH list id = some i := hi1
 refine W_skip (N_K (q2 (mV Z (xc Z2 (l3Copy_c _ _ H.sub _ _ hlist ) ?_))))
 rintro _ _ ⟨G7, _, _, g7, rfl, ⟨_, rfl, hchk7⟩, hp7, hq7, hs7⟩
 have H := H.growO g7 hp7 hq7 hs7; obtain ⟨_, _, rfl⟩ := H.accShape (k := 0) rfl
 refine ⟨_, Z, ?_⟩
 refine aG Z (q3 (W_seq (q2 (pe 2 Z (o_index_A 0 H i Z hchk7 underlying23 sizeOf42 Z Z Z hi2 aN aN ?_))))); intro _ z8 _ hba8 hz8 hE8 hg8; cases hba8
 obtain ⟨_, _, _, rfl, _, _, _, _, _⟩ := ox hE8
 have hsv := Sp.valid_at hc3' hz8
 refine fA 2 Z (o_load_A 0 H isAgg3 Z Z Z (hg8 2 _ Z) (pe 1 Z (q3 ?_)))
 refine W_cond Z ?_ ?_
 ·intro hc9
  try simp only [nrm] at hc9
  refine W_seq (W_drawK [] 10 H kR Z ?_); intro _ H; have hd10 := PLe.refl G7
  refine dE 0 Z2 (dE 1 Z2 ?_)
  have hac11 := H.accCap (k := 0) rfl
  refine RD_t 2 Z kR Z (fun _ hK => v_slice_to (j := i) underlying23 sizeOf42 Z Z hi2 oM) (dE 3 Z2 (dE 4 Z2 (RD_t 5 Z kR Z (fun _ hK => v_add Z Z oO) ?_)))
  have hac13 := H.accCap (k := 0) rfl
  refine RD_t 6 Z kR Z (fun _ hK => v_slice_from (i := (i + 1)) underlying23 sizeOf42 Z Z oM oM) (r1 7 Z ?_)
  refine o_append_del 0 H i Z hchk7 (by intro _ cs hz _ hu; obtain ⟨_, _, _, rfl, _⟩ := hz; simp at hu; rcases hu with rfl | rfl | rfl <;> rfl) underlying23 typeInfo42 rfl rfl rfl rfl oM aN ?_; intro _ _ hb14 H hchk14; cases hb14
  refine q4 H hd10 (dE 8 Z2 (dE 9 Z2 (rz (N_K (W_ret (N_K_ret (rt2 results191 Z Z ?_)))))))
  have hY : Sp.StoreDrop list id = some (list.take i ++ list.drop (i + 1)) := by simp [Sp.StoreDrop, hc3', hl, hz8, hc9]
  exact H.retO (k := 0) rfl (by rw [hY]; exact ⟨_, rfl, AccOf.mk aN hchk14⟩) (acc_nd _ _ _ _ _)
 intro hc9'
 try simp only [nrm] at hc9'
 refine W_skip (N_K (q2 (pe 4 Z (o_index_A 0 H i Z hchk7 underlying23 sizeOf42 Z Z Z hi2 aN aN ?_)))); intro _ z15 _ hba15 hz15 hE15 hg15; cases hba15
 obtain ⟨_, _, _, rfl, _, _, _, _, _⟩ := ox hE15
 have hzz15 : z8 = z15 := Option.some.inj (hz8.symm.trans hz15)
 subst hzz15
 refine fA 2 Z (o_load_A 0 H isAgg3 Z Z Z (hg15 2 _ Z) (o_sub Z Z Z oO (o_index_A 0 H i Z hchk7 underlying23 sizeOf42 Z Z Z hi2 aN aN ?_))); intro _ z17 _ hba17 hz17 hE17 _; cases hba17
 obtain ⟨_, _, _, rfl, _, _, _, _, _⟩ := ox hE17
 have hzz17 : z8 = z17 := Option.some.inj (hz8.symm.trans hz17)
 subst hzz17
 refine fA 2 Z ?_
 have hcl18 := hchk7.length
 refine o_store_A 0 H sizeOf3 Z Z Z Z Z (by simp only [vc, List.length_cons, List.length_nil]; omega) ?_; intro _ H
 have hchk18 := hchk7.put (x' := ⟨z8.id, z8.bytes, z8.uses + (-1)⟩) (off := 2) (vs := [_]) hz17 (fun cs hl hE => by obtain ⟨_, _, _, rfl, h1, h2, _⟩ := hE; exact ⟨_, _, _, rfl, h1, h2, ⟨by first | omega | (dsimp only; omega), by first | omega | (dsimp only; omega)⟩⟩) (by simp only [vc, List.length_cons, List.length_nil]; omega)
 refine q1 (pe 3 Z (q3 (W_ret (rt2 results191 Z Z ?_))))
 have hY : Sp.StoreDrop list id = some (list.set i ⟨z8.id, z8.bytes, z8.uses + (-1)⟩) := by simp [Sp.StoreDrop, hc3', hl, hz8, hc9', Sp.bump_at hz8]
 exact H.retO (k := 0) rfl (by rw [hY]; exact ⟨_, rfl, AccOf.mk aN hchk18⟩) (acc_nd _ _ _ _ _)
end Go.Proofs.Tst

namespace Go.Proofs.Tst
open Go Fw Tryz
theorem FileFree_c (w0 : World) (G0 : PH) (hG : PSub G0 w0) (vlist : Value) (list : List (BHeld)) (hlist : RdH G0 vlist list) (vids : Value) (ids : List (Int)) (hids : RdI G0 vids ids)  :
  Calls Tryz.prog 159 #[vlist, vids] w0 (RetO w0 G0 (fun G v r => ∃ u, v = .tuple #[u, .bool (Sp.FileFree list ids).isSome] ∧ AccOf heldE 3 42 ((Sp.FileFree list ids).getD []) G u r)) := by
 obtain ⟨alist, klist, rfl⟩ := hlist.shape
 have hlimlist : list.length ≤ 1099511627776 := hlist.lim
 obtain ⟨aids, kids, rfl⟩ := hids.shape
 have hlimids : ids.length ≤ 1099511627776 := hids.lim
 have H := Hp.init hG
 refine calls_of_W (l := [.slice alist list.length klist, .slice aids ids.length kids]) func159 Z ntmps159 Z (q2 (pe 2 Z (q3 (W_seq (q2 (mV Z (xr H Z2 (StoreValid_c _ _ H.sub _ _ hlist ) ?_))))))); intro _ H
 refine pe 2 Z ?_
 refine R_case (t := 13) Z ?_ ?_
 ·intro hc2
  try simp only [nrm] at hc2
  refine pe 5 Z (q3 (W_true Z (q2 (xbs H Z7 ?_)))); intro _ _ _ H
  have H := H.blkAcc 3 (k := 0) (n := 0) rfl rfl (by decide)
  refine pe 2 Z (q3 (W_ret (N_K_ret (rt2 results159 Z Z ?_))))
  have hN : Sp.FileFree list ids = none := by simp [Sp.FileFree, hc2]
  exact H.retO (k := 0) rfl (by rw [hN]; exact ⟨_, rfl, AccOf.mk aN (Chk.nil (E := heldE) (sz := 3) (G := G0))⟩) (acc_nd _ _ _ _ _)
 intro hc2'
 try simp only [nrm] at hc2'
 refine pe 2 Z (gR Z (xr H Z2 (l4Ids_c _ _ H.sub _ _ hlist _ _ hids ) ?_)); intro _ H
 refine pe 2 Z (q3 ?_)
 refine W_cond Z ?_ ?_
 ·intro hc5
  try simp only [nrm] at hc5
  refine q2 (xbs H Z7 ?_); intro _ _ _ H
  have H := H.blkAcc 3 (k := 0) (n := 0) rfl rfl (by decide)
  refine pe 2 Z (q3 (W_ret (N_K_ret (rt2 results159 Z Z ?_))))
  have hN : Sp.FileFree list ids = none := by simp [Sp.FileFree, hc5]
  exact H.retO (k := 0) rfl (by rw [hN]; exact ⟨_, rfl, AccOf.mk aN (Chk.nil (E := heldE) (sz := 3) (G := G0))⟩) (acc_nd _ _ _ _ _)
 intro hc5'
 try simp only [nrm] at hc5'
 refine W_skip (N_K (q2 (mV Z (xc Z2 (l3Copy_c _ _ H.sub _ _ hlist ) ?_))))
 rintro _ _ ⟨G7, _, _, g7, rfl, ⟨_, rfl, hchk7⟩, hp7, hq7, hs7⟩
 have H := H.growO g7 hp7 hq7 hs7; obtain ⟨_, _, rfl⟩ := H.accShape (k := 0) rfl
 have hids := hids.up g7.le
 refine ⟨_, Z, ?_⟩
 refine aG Z (q3 (W_seq (q2 (aG Z (q3 (W_block ?_))))))
 refine W_lp (hf := (Sub.cons (t := 1) Z Sub.nil)) (J := fun M w m => ∃ (v : Value) (n : Nat) (cs : List Value) (xs : List (BHeld)) (k : Nat) (G : PH), M = [(7, .int .i64 (k : Int)), (6, v)] ∧ PLe G7 G ∧ Hp w0 G0 [] w G [acc 42 3 v n cs] ∧ (Chk heldE 3 G cs xs ∧ n = xs.length ∧ k ≤ ids.length ∧ xs.length ≤ 1000 ∧ Sp.foldB Sp.StoreDrop (ids.take k) (some list) = some xs) ∧ m = (ids.length - k)) (h0 := ⟨_, _, _, list, 0, _, Z, PLe.refl _, H, ?inv, Z⟩) (round := ?round)
 case inv => exact ⟨hchk7,  by first | rfl | simp | (simp; omega) | omega, (by exact ⟨by omega, by have := Sp.valid_len hc2'; omega, by simp [Sp.foldB]⟩)⟩
 case round =>
  rintro _ _ _ ⟨v, n, cs, xs, k, _, rfl, hle8, H, hinv8, rfl⟩
  have hids := hids.up hle8
  obtain ⟨hchk8_0, _, hinv8⟩ := hinv8
  obtain ⟨_, _, rfl⟩ := H.accShape (k := 0) rfl
  obtain ⟨_, _, hf⟩ := hinv8
  refine W_seq (q2 (pe 2 Z (lN Z (pe 1 Z (q3 ?_)))))
  refine W_cond Z ?_ ?_
  ·intro hc9
   try simp only [nrm] at hc9
   refine W_skip (N_K (W_seq (W_block (q2 (pe 3 Z (iP k hids Z3 Z ?_)))))); intro _ _ z10 _ hz10 hE10 hrow10
   obtain ⟨rfl, _⟩ := hE10
   refine lP H hrow10 0 Z2 ?_
   obtain ⟨_, H, hsg12, hsr12⟩ := H.shut' (k := 0) rfl hchk8_0 aN aN
   have hle8 := hle8.trans hsg12
   refine xc Z2 (StoreDrop_c _ _ H.sub _ _ hsr12 _ ) ?_
   rintro _ _ ⟨G11, _, _, g11, rfl, ⟨_, rfl, ⟨_, rfl, hchk11⟩⟩, hp11, hq11, hs11⟩
   have H := H.growO g11 hp11 hq11 hs11; obtain ⟨_, _, rfl⟩ := H.accShape (k := 0) rfl
   have hle8 := hle8.trans g11.le
   refine ⟨_, Z, ?_⟩
   refine pe 5 Z (q3 (W_seq (q2 (pe 2 Z (q3 ?_)))))
   refine W_cond Z ?_ ?_
   ·intro hc13
    try simp only [nrm] at hc13
    refine q2 (xbs H Z7 ?_); intro _ _ _ H
    have H := H.blkAcc 3 (k := 0) (n := 0) rfl rfl (by decide)
    refine pe 2 Z (q3 (W_ret (N_K_ret (N_B_ret (N_K_ret (N_LP_ret (N_B_ret (N_K_ret (rt2 results159 Z Z ?_)))))))))
    have hN : Sp.FileFree list ids = none := by (have hno : Sp.StoreDrop xs z10 = none := by simpa using hc13); simp only [Sp.FileFree, hc2', hc5', Bool.and_self, if_true]; exact Sp.foldB_stop hf hz10 hno
    exact H.retO (k := 0) rfl (by rw [hN]; exact ⟨_, rfl, AccOf.mk aN (Chk.nil (E := heldE) (sz := 3) (G := G11))⟩) (acc_nd _ _ _ _ _)
   intro hc13'
   try simp only [nrm] at hc13'
   obtain ⟨p, hsp⟩ := Option.isSome_iff_exists.1 hc13'
   rw [hsp] at H hchk11 ⊢
   dsimp only [Option.map, Option.getD] at H hchk11
   refine W_skip (N_K (W_region (pe 2 Z (R_nil (N_B (N_K (W_region (mV Z (aD Z2 (aG Z (R_nil ?_)))))))))))
   refine N_lp (hJ := ⟨_, _, _, p, k + 1, _, Z, hle8, H, ?inv, Z⟩) (hm := ?hm)
   case hm => omega
   case inv => exact ⟨hchk11, aN, (by exact ⟨by omega, by have := Sp.drop_len hsp; omega, Sp.foldB_succ hf hz10 hsp⟩)⟩
  intro hc9'
  try simp only [nrm] at hc9'
  refine W_exit (N_K_exit (N_LP_exit (N_B_same (N_K (q2 (pe 3 Z (q3 (W_ret (rt2 results159 Z Z ?_)))))))))
  have hY : Sp.FileFree list ids = some xs := by simp only [Sp.FileFree, hc2', hc5', Bool.and_self, if_true]; exact Sp.foldB_all hf oM
  exact H.retO (k := 0) rfl (by rw [hY]; exact ⟨_, rfl, AccOf.mk aN hchk8_0⟩) (acc_nd _ _ _ _ _)
end Go.Proofs.Tst

namespace Go.Proofs.Tst
open Go Fw Tryz
theorem l5Copy_c (w0 : World) (G0 : PH) (hG : PSub G0 w0) (cx : List Value) (x : BItem) (hx : itemE G0 x cx)  :
  Calls Tryz.prog 81 #[.agg cx.toArray] w0 (RetP w0 G0 (fun G v => ∃ cs, v = .agg cs.toArray ∧ itemE G x cs)) := by
 obtain ⟨_, _, _, rfl, hi1, hr1, _, _⟩ := ox hx
 have H := Hp.init hG
 refine calls_of_W (l := [_]) func81 Z ntmps81 Z (q2 (o_box H Z Z Z ?_)); intro _ _ _ H
 refine xal H Z ?_; intro _ _ _ H
 refine q1 (xbs H Z7 ?_); intro _ _ _ H
 have H := H.blkAcc 1 (k := 0) (n := 0) rfl rfl (by decide)
 refine fA 2 Z (lB 2 H Z3 ?_)
 refine o_append_P 0 H hr1 (by intro _ _ hz _ hu; obtain ⟨rfl, _⟩ := hz; simp at hu; subst hu; rfl) (sz := 1) (bytes := 8) underlying38 typeInfo3 ⟨_, rfl, rfl⟩ rfl rfl rfl rfl rfl rfl rfl oM rfl ?_; intro _ _ css5 hcl5 hcs5 H
 have hchk5 : Chk intE 1 G0 ([] ++ css5.flatten) _ := ⟨css5, rfl, hcl5, hcs5⟩
 obtain ⟨_, _, rfl⟩ := H.accShape (k := 0) rfl
 refine fA 2 Z (xst 2 H Z8 ?_); intro _ H
 refine q1 (lA 2 3 H Z4 (xst 1 H Z8 ?_)); intro _ H
 refine q3 (W_ret (ret_gen (rs := [.cell 2 40]) (vs := [_]) results81 ⟨⟨_, Z, load_blk 1 H isAgg40 sizeOf40 Z Z Z⟩, trivial⟩ ?_))
 obtain ⟨_, H, hsg509, hsr509⟩ := H.shut' (k := 0) rfl hchk5 aN aN
 exact H.retP ⟨_, Z, ⟨_, _, _, Z, hi1, hsr509⟩⟩
end Go.Proofs.Tst

namespace Go.Proofs.Tst
open Go Fw Tryz
theorem l5Put_c (w0 : World) (G0 : PH) (hG : PSub G0 w0) (vlist : Value) (list : List (BItem)) (hlist : RdItems G0 vlist list) (cx : List Value) (x : BItem) (hx : itemE G0 x cx) (hS : list.length ≤ 1000000) :
  Calls Tryz.prog 190 #[vlist, .agg cx.toArray] w0 (RetO w0 G0 (AccOf itemE 3 40 (Sp.l5Put list x))) := by
 obtain ⟨alist, klist, rfl⟩ := hlist.shape
 have hlimlist : list.length ≤ 1099511627776 := hlist.lim
 obtain ⟨_, _, _, rfl, hi1, hr1, _, _⟩ := ox hx
 have H := Hp.init hG
 refine calls_of_W (l := [.slice alist list.length klist, _]) func190 Z ntmps190 Z (q2 (o_box H Z Z Z ?_)); intro b2 _ _ H
 refine aG Z (q1 (xbs H Z7 ?_)); intro _ _ _ H
 have H := H.blkAcc 3 (k := 0) (n := 0) rfl rfl (by decide)
 refine aG Z (q1 (aG Z (q3 (W_seq (q2 (aG Z (q3 (W_block ?_))))))))
 obtain ⟨ln4, hln4, H⟩ := H.name (k := 1) rfl
 refine W_lp (hf := (Sub.cons (t := 0) Z (Sub.cons (t := 3) Z (Sub.cons (t := 4) Z Sub.nil)))) (J := fun M w m => ∃ (v : Value) (n : Nat) (cs : List Value) (xs : List (BItem)) (d : Bool) (k : Nat) (G : PH), M = [(6, .bool d), (7, .int .i64 (k : Int)), (5, v)] ∧ PLe G0 G ∧ Hp w0 G0 [] w G [acc 40 3 v n cs, blk b2 (cl ln4 40)] ∧ (Chk itemE 3 G cs xs ∧ n = xs.length ∧ k ≤ list.length ∧ xs.length ≤ k + 1 ∧ (d = false → xs.length ≤ k) ∧ xs ++ Sp.putGo x d (list.drop k) = Sp.l5Put list x) ∧ m = (list.length - k)) (h0 := ⟨_, _, _, [], false, 0, _, Z, PLe.refl _, H, ?inv, Z⟩) (round := ?round)
 case inv => exact ⟨(Chk.nil (E := itemE) (sz := 3) (G := G0)),  by first | rfl | simp | (simp; omega) | omega, (by simp [Sp.l5Put])⟩
 case round =>
  rintro _ _ _ ⟨v, n, cs, xs, d, k, G5, rfl, hle5, H, hinv5, rfl⟩
  subst hln4
  have hlist := hlist.up hle5
  have hr1 := hr1.up hle5
  obtain ⟨hchk5_0, _, hinv5⟩ := hinv5
  obtain ⟨_, _, rfl⟩ := H.accShape (k := 0) rfl
  obtain ⟨_, _, hxd, hp⟩ := hinv5
  refine W_seq (q2 (pe 2 Z (lN Z (pe 1 Z (q3 ?_)))))
  refine W_cond Z ?_ ?_
  ·intro hc6
   try simp only [nrm] at hc6
   refine W_skip (N_K (W_seq (W_block (W_seq (W_seq (W_drawK [1] 12 H kR Z ?_)))))); intro _ H; have hd7 := PLe.refl G5
   refine dE 0 Z2 (dE 1 Z2 (dE 2 Z2 ?_))
   refine RD_case (t := 17) Z ?_ ?_
   ·intro hc8
    try simp only [nrm] at hc8
    refine dE 3 Z2 (dE 4 Z2 ?_)
    have hl9 := hlist.len
    obtain ⟨_, _, z9, _, ha9, hz9, hq9, hE9, hrow9, _⟩ := hlist.at (i := k) oM
    clear hq9
    obtain ⟨_, _, _, rfl, _, hr9, _, _⟩ := ox hE9
    refine dI 5 3 k ha9 Z3 Z (dF 6 0 Z2 (dP 7 hrow9 0 Z3 (dF 8 0 Z2 (dB 9 0 Z4 (RD_tg 10 Z kR Z (yl Z Z) (fun _ hK => v_sgeq Z Z) (dE 11 Z2 (rz (N_K ?_))))))))
    refine W_cond Z ?_ ?_
    ·intro hc10
     try simp only [nrm] at hc10
     refine q2 (mV Z (lA 1 3 H Z4 (xc Z2 (l5Copy_c _ _ H.sub _ x ⟨_, _, _, Z, hi1, hr1⟩ ) ?_)))
     rintro _ _ ⟨G11, _, g11, rfl, _, rfl, hr11_0⟩
     have H := H.grow g11
     have hlist := hlist.up g11.le
     have hchk5_0 := hchk5_0.up g11.le
     have hle5 := hle5.trans g11.le
     obtain ⟨_, _, _, rfl, hi12, hr12, _, _⟩ := ox hr11_0
     refine ⟨_, Z, ?_⟩
     refine xbs H Z7 ?_; intro _ _ _ H
     refine o_append1 0 H (sz := 3) (bytes := 48) underlying24 typeInfo40 ⟨_, Z, Z⟩ Z Z Z Z Z Z Z Z Z Z oM Z ?_; intro _ _ H
     have hchk14 := hchk5_0.snoc (show itemE _ x _ from ⟨_, _, _, rfl, hi12, hr12⟩) rfl
     obtain ⟨_, _, rfl⟩ := H.accShape (k := 0) rfl
     refine aG Z (q3 (W_region (aG Z (q3 (W_seq (W_drawK [1] 8 H kR Z ?_)))))); intro _ H; have hd15 := PLe.refl G11
     refine dE 0 Z2 (dE 1 Z2 ?_)
     have hl16 := hlist.len
     obtain ⟨_, _, z16, _, ha16, hz16, hq16, hE16, hrow16, _⟩ := hlist.at (i := k) oM
     clear hq16
     obtain ⟨_, _, _, rfl, _, hr16, _, _⟩ := ox hE16
     have hzz16 : z9 = z16 := Option.some.inj (hz9.symm.trans hz16)
     subst hzz16
     refine dI 2 3 k ha16 Z3 Z (dF 3 0 Z2 (dP 4 hrow16 0 Z3 (dF 5 0 Z2 (dB 6 0 Z4 (RD_t 7 Z kR Z (fun _ hK => v_sneq Z Z) (rz (N_K ?_)))))))
     refine W_cond Z ?_ ?_
     ·intro hc17
      try simp only [nrm] at hc17
      refine W_region (pe 3 Z (iP k hlist Z3 Z ?_)); intro _ _ z18 _ hz18 hE18 hrow18
      obtain ⟨_, _, _, rfl, hi18, hr18, _, _⟩ := ox hE18
      have hzz18 : z9 = z18 := Option.some.inj (hz9.symm.trans hz18)
      subst hzz18
      refine o_loadagg_P H isAgg40 sizeOf40 Z Z hrow18 Z (xc Z2 (l5Copy_c _ _ H.sub _ _ ⟨_, _, _, Z, hi18, hr18⟩ ) ?_)
      rintro _ _ ⟨_, _, g19, rfl, _, rfl, hr19_0⟩
      have H := H.grow g19
      have hchk14 := hchk14.up g19.le
      have hle5 := hle5.trans g19.le
      obtain ⟨_, _, _, rfl, hi20, hr20, _, _⟩ := ox hr19_0
      refine ⟨_, Z, ?_⟩
      refine xbs H Z7 ?_; intro _ _ _ H
      refine o_append1 0 H (sz := 3) (bytes := 48) underlying24 typeInfo40 ⟨_, Z, Z⟩ Z Z Z Z Z Z Z Z Z Z oM Z ?_; intro _ _ H
      have hchk22 := hchk14.snoc (show itemE _ z9 _ from ⟨_, _, _, rfl, hi20, hr20⟩) rfl
      obtain ⟨_, _, rfl⟩ := H.accShape (k := 0) rfl
      refine aG Z (R_nil (N_B (N_K (W_region (mV Z (aD Z2 (aG Z (R_nil ?_))))))))
      refine N_lp (hJ := ⟨_, _, _, ((xs ++ [x]) ++ [z9]), true, k + 1, _, Z, hle5, H, ?inv, Z⟩) (hm := ?hm)
      case hm => omega
      case inv => exact ⟨hchk22, aN, (by exact ⟨by omega, by have := hxd (by assumption); simp; omega, by simp, by rw [Sp.drop_at hz9] at hp; rw [← hp]; (first | rw [Sp.putA (by assumption) (by assumption) (by assumption)] | rw [Sp.putB (by assumption) (by assumption) (by assumption)] | rw [Sp.putC (by assumption) (by assumption)] | rw [Sp.putC' (by assumption) (by assumption)] | rw [Sp.putD (by assumption) (by assumption)] | rw [Sp.putD' (by assumption) (by assumption)]) <;> simp⟩)⟩
     intro hc17'
     try simp only [nrm] at hc17'
     refine W_skip (N_B (N_K (W_region (mV Z (aD Z2 (aG Z (R_nil ?_)))))))
     refine N_lp (hJ := ⟨_, _, _, (xs ++ [x]), true, k + 1, _, Z, hle5, H, ?inv, Z⟩) (hm := ?hm)
     case hm => omega
     case inv => exact ⟨hchk14, aN, (by exact ⟨by omega, by have := hxd (by assumption); simp; omega, by simp, by rw [Sp.drop_at hz9] at hp; rw [← hp]; (first | rw [Sp.putA (by assumption) (by assumption) (by assumption)] | rw [Sp.putB (by assumption) (by assumption) (by assumption)] | rw [Sp.putC (by assumption) (by assumption)] | rw [Sp.putC' (by assumption) (by assumption)] | rw [Sp.putD (by assumption) (by assumption)] | rw [Sp.putD' (by assumption) (by assumption)]) <;> simp⟩)⟩
    intro hc10'
    try simp only [nrm] at hc10'
    refine W_skip (N_K (W_seq (W_drawK [1] 8 H kR Z ?_))); intro _ H; have hd25 := PLe.refl G5
    refine dE 0 Z2 (dE 1 Z2 ?_)
    have hl26 := hlist.len
    obtain ⟨_, _, z26, _, ha26, hz26, hq26, hE26, hrow26, _⟩ := hlist.at (i := k) oM
    clear hq26
    obtain ⟨_, _, _, rfl, _, hr26, _, _⟩ := ox hE26
    have hzz26 : z9 = z26 := Option.some.inj (hz9.symm.trans hz26)
    subst hzz26
    refine dI 2 3 k ha26 Z3 Z (dF 3 0 Z2 (dP 4 hrow26 0 Z3 (dF 5 0 Z2 (dB 6 0 Z4 (RD_t 7 Z kR Z (fun _ hK => v_sneq Z Z) (rz (N_K ?_)))))))
    refine W_cond Z ?_ ?_
    ·intro hc27
     try simp only [nrm] at hc27
     refine W_region (pe 3 Z (iP k hlist Z3 Z ?_)); intro _ _ z28 _ hz28 hE28 hrow28
     obtain ⟨_, _, _, rfl, hi28, hr28, _, _⟩ := ox hE28
     have hzz28 : z9 = z28 := Option.some.inj (hz9.symm.trans hz28)
     subst hzz28
     refine o_loadagg_P H isAgg40 sizeOf40 Z Z hrow28 Z (xc Z2 (l5Copy_c _ _ H.sub _ _ ⟨_, _, _, Z, hi28, hr28⟩ ) ?_)
     rintro _ _ ⟨_, _, g29, rfl, _, rfl, hr29_0⟩
     have H := H.grow g29
     have hchk5_0 := hchk5_0.up g29.le
     have hle5 := hle5.trans g29.le
     obtain ⟨_, _, _, rfl, hi30, hr30, _, _⟩ := ox hr29_0
     refine ⟨_, Z, ?_⟩
     refine xbs H Z7 ?_; intro _ _ _ H
     refine o_append1 0 H (sz := 3) (bytes := 48) underlying24 typeInfo40 ⟨_, Z, Z⟩ Z Z Z Z Z Z Z Z Z Z oM Z ?_; intro _ _ H
     have hchk32 := hchk5_0.snoc (show itemE _ z9 _ from ⟨_, _, _, rfl, hi30, hr30⟩) rfl
     obtain ⟨_, _, rfl⟩ := H.accShape (k := 0) rfl
     refine aG Z (R_nil (N_B (N_K (W_region (mV Z (aD Z2 (aG Z (R_nil ?_))))))))
     refine N_lp (hJ := ⟨_, _, _, (xs ++ [z9]), d, k + 1, _, Z, hle5, H, ?inv, Z⟩) (hm := ?hm)
     case hm => omega
     case inv => exact ⟨hchk32, aN, (by exact ⟨by omega, by first | omega | (simp; omega), fun h => by have := hxd h; first | omega | (simp; omega), by rw [Sp.drop_at hz9] at hp; rw [← hp]; (first | rw [Sp.putA (by assumption) (by assumption) (by assumption)] | rw [Sp.putB (by assumption) (by assumption) (by assumption)] | rw [Sp.putC (by assumption) (by assumption)] | rw [Sp.putC' (by assumption) (by assumption)] | rw [Sp.putD (by assumption) (by assumption)] | rw [Sp.putD' (by assumption) (by assumption)]) <;> simp⟩)⟩
    intro hc27'
    try simp only [nrm] at hc27'
    refine W_skip (N_B (N_K (W_region (mV Z (aD Z2 (aG Z (R_nil ?_)))))))
    refine N_lp (hJ := ⟨_, _, _, xs, d, k + 1, _, Z, hle5, H, ?inv, Z⟩) (hm := ?hm)
    case hm => omega
    case inv => exact ⟨hchk5_0, aN, (by exact ⟨by omega, by first | omega | (simp; omega), fun h => by have := hxd h; first | omega | (simp; omega), by rw [Sp.drop_at hz9] at hp; rw [← hp]; (first | rw [Sp.putA (by assumption) (by assumption) (by assumption)] | rw [Sp.putB (by assumption) (by assumption) (by assumption)] | rw [Sp.putC (by assumption) (by assumption)] | rw [Sp.putC' (by assumption) (by assumption)] | rw [Sp.putD (by assumption) (by assumption)] | rw [Sp.putD' (by assumption) (by assumption)]) <;> simp⟩)⟩
   intro hc8'
   try simp only [nrm] at hc8'
   refine dE 3 Z2 (dE 4 Z2 (dE 5 Z2 (dE 6 Z2 (dE 7 Z2 (dE 8 Z2 (dE 9 Z2 (dE 10 Z2 (dE 11 Z2 (rz (N_K (W_false Z (W_skip (N_K (W_seq (W_drawK [1] 8 H kR Z ?_))))))))))))))); intro _ H; have hd35 := PLe.refl G5
   refine dE 0 Z2 (dE 1 Z2 ?_)
   have hl36 := hlist.len
   obtain ⟨_, _, z36, _, ha36, hz36, hq36, hE36, hrow36, _⟩ := hlist.at (i := k) oM
   clear hq36
   obtain ⟨_, _, _, rfl, _, hr36, _, _⟩ := ox hE36
   refine dI 2 3 k ha36 Z3 Z (dF 3 0 Z2 (dP 4 hrow36 0 Z3 (dF 5 0 Z2 (dB 6 0 Z4 (RD_t 7 Z kR Z (fun _ hK => v_sneq Z Z) (rz (N_K ?_)))))))
   refine W_cond Z ?_ ?_
   ·intro hc37
    try simp only [nrm] at hc37
    refine W_region (pe 3 Z (iP k hlist Z3 Z ?_)); intro _ _ z38 _ hz38 hE38 hrow38
    obtain ⟨_, _, _, rfl, hi38, hr38, _, _⟩ := ox hE38
    have hzz38 : z36 = z38 := Option.some.inj (hz36.symm.trans hz38)
    subst hzz38
    refine o_loadagg_P H isAgg40 sizeOf40 Z Z hrow38 Z (xc Z2 (l5Copy_c _ _ H.sub _ _ ⟨_, _, _, Z, hi38, hr38⟩ ) ?_)
    rintro _ _ ⟨_, _, g39, rfl, _, rfl, hr39_0⟩
    have H := H.grow g39
    have hchk5_0 := hchk5_0.up g39.le
    have hle5 := hle5.trans g39.le
    obtain ⟨_, _, _, rfl, hi40, hr40, _, _⟩ := ox hr39_0
    refine ⟨_, Z, ?_⟩
    refine xbs H Z7 ?_; intro _ _ _ H
    refine o_append1 0 H (sz := 3) (bytes := 48) underlying24 typeInfo40 ⟨_, Z, Z⟩ Z Z Z Z Z Z Z Z Z Z oM Z ?_; intro _ _ H
    have hchk42 := hchk5_0.snoc (show itemE _ z36 _ from ⟨_, _, _, rfl, hi40, hr40⟩) rfl
    obtain ⟨_, _, rfl⟩ := H.accShape (k := 0) rfl
    refine aG Z (R_nil (N_B (N_K (W_region (mV Z (aD Z2 (aG Z (R_nil ?_))))))))
    refine N_lp (hJ := ⟨_, _, _, (xs ++ [z36]), d, k + 1, _, Z, hle5, H, ?inv, Z⟩) (hm := ?hm)
    case hm => omega
    case inv => exact ⟨hchk42, aN, (by exact ⟨by omega, by first | omega | (simp; omega), fun h => by have := hxd h; first | omega | (simp; omega), by rw [Sp.drop_at hz36] at hp; rw [← hp]; (first | rw [Sp.putA (by assumption) (by assumption) (by assumption)] | rw [Sp.putB (by assumption) (by assumption) (by assumption)] | rw [Sp.putC (by assumption) (by assumption)] | rw [Sp.putC' (by assumption) (by assumption)] | rw [Sp.putD (by assumption) (by assumption)] | rw [Sp.putD' (by assumption) (by assumption)]) <;> simp⟩)⟩
   intro hc37'
   try simp only [nrm] at hc37'
   refine W_skip (N_B (N_K (W_region (mV Z (aD Z2 (aG Z (R_nil ?_)))))))
   refine N_lp (hJ := ⟨_, _, _, xs, d, k + 1, _, Z, hle5, H, ?inv, Z⟩) (hm := ?hm)
   case hm => omega
   case inv => exact ⟨hchk5_0, aN, (by exact ⟨by omega, by first | omega | (simp; omega), fun h => by have := hxd h; first | omega | (simp; omega), by rw [Sp.drop_at hz36] at hp; rw [← hp]; (first | rw [Sp.putA (by assumption) (by assumption) (by assumption)] | rw [Sp.putB (by assumption) (by assumption) (by assumption)] | rw [Sp.putC (by assumption) (by assumption)] | rw [Sp.putC' (by assumption) (by assumption)] | rw [Sp.putD (by assumption) (by assumption)] | rw [Sp.putD' (by assumption) (by assumption)]) <;> simp⟩)⟩
  intro hc6'
  try simp only [nrm] at hc6'
  refine W_exit (N_K_exit (N_LP_exit (N_B_same (N_K (W_seq (q2 (pe 2 Z (q3 ?_))))))))
  refine W_cond Z ?_ ?_
  ·intro hc45
   try simp only [nrm] at hc45
   refine W_region (mV Z (lA 1 3 H Z4 (xc Z2 (l5Copy_c _ _ H.sub _ x ⟨_, _, _, Z, hi1, hr1⟩ ) ?_)))
   rintro _ _ ⟨_, _, g46, rfl, _, rfl, hr46_0⟩
   have H := H.grow g46
   have hchk5_0 := hchk5_0.up g46.le
   obtain ⟨_, _, _, rfl, hi47, hr47, _, _⟩ := ox hr46_0
   refine ⟨_, Z, ?_⟩
   refine xbs H Z7 ?_; intro _ _ _ H
   refine o_append1 0 H (sz := 3) (bytes := 48) underlying24 typeInfo40 ⟨_, Z, Z⟩ Z Z Z Z Z Z Z Z Z Z oM Z ?_; intro _ _ H
   have hchk49 := hchk5_0.snoc (show itemE _ x _ from ⟨_, _, _, rfl, hi47, hr47⟩) rfl
   obtain ⟨_, _, rfl⟩ := H.accShape (k := 0) rfl
   refine aG Z (q1 (pe 2 Z (q3 (W_ret (rt1 results190 Z ?_)))))
   rw [List.drop_of_length_le oM] at hp
   exact H.retO (k := 0) rfl (by rw [← hp, Sp.putGo, if_neg (by simp [*])]; exact AccOf.mk aN hchk49) (acc_nd _ _ _ _ _)
  intro hc45'
  try simp only [nrm] at hc45'
  refine W_skip (N_K (q2 (pe 2 Z (q3 (W_ret (rt1 results190 Z ?_))))))
  rw [List.drop_of_length_le oM] at hp
  exact H.retO (k := 0) rfl (by rw [← hp, Sp.putGo, if_pos (by assumption), List.append_nil]; exact AccOf.mk aN hchk5_0) (acc_nd _ _ _ _ _)
end Go.Proofs.Tst

namespace Go.Proofs.Tst
open Go Fw Tryz
theorem TreePut_c (w0 : World) (G0 : PH) (hG : PSub G0 w0) (vlist : Value) (list : List (BItem)) (hlist : RdItems G0 vlist list) (cx : List Value) (x : BItem) (hx : itemE G0 x cx)  :
  Calls Tryz.prog 156 #[vlist, .agg cx.toArray] w0 (RetP w0 G0 (fun G v => ∃ u, v = .tuple #[u, .bool (Sp.TreePut list x).isSome] ∧ RdItems G u ((Sp.TreePut list x).getD []))) := by
 obtain ⟨alist, klist, rfl⟩ := hlist.shape
 have hlimlist : list.length ≤ 1099511627776 := hlist.lim
 obtain ⟨_, _, _, rfl, hi1, hr1, _, _⟩ := ox hx
 have H := Hp.init hG
 refine calls_of_W (l := [.slice alist list.length klist, _]) func156 Z ntmps156 Z (q2 (o_box H Z Z Z ?_)); intro _ _ _ H
 refine pe 2 Z (q3 (W_seq (q2 (mV Z (xr H Z2 (TreeValid_c _ _ H.sub _ _ hlist ) ?_))))); intro _ H
 refine pe 2 Z ?_
 refine R_case (t := 11) Z ?_ ?_
 ·intro hc4
  try simp only [nrm] at hc4
  refine pe 4 Z (q3 (W_true Z (q2 (xbs H Z7 ?_)))); intro _ _ _ H
  have H := H.blkAcc 3 (k := 0) (n := 0) rfl rfl (by decide)
  refine pe 2 Z (q3 (W_ret (N_K_ret (rt2 results156 Z Z ?_))))
  obtain ⟨_, H, hsg507, hsr507⟩ := H.shut' (k := 0) rfl (Chk.nil (E := itemE) (sz := 3) (G := G0)) aN aN
  have hY : Sp.TreePut list x = none := by simp [Sp.TreePut, hc4]
  exact H.retP (by rw [hY]; exact ⟨_, rfl, hsr507⟩)
 intro hc4'
 try simp only [nrm] at hc4'
 have htl := Sp.tree_len hc4'
 refine gR Z (lA 0 3 H Z4 (gR Z (xr H Z2 (l5Item_c _ _ H.sub _ x ⟨_, _, _, Z, hi1, hr1⟩ ) ?_))); intro _ H
 refine pe 2 Z (q3 ?_)
 refine W_cond Z ?_ ?_
 ·intro hc7
  try simp only [nrm] at hc7
  refine q2 (xbs H Z7 ?_); intro _ _ _ H
  have H := H.blkAcc 3 (k := 0) (n := 0) rfl rfl (by decide)
  refine pe 2 Z (q3 (W_ret (N_K_ret (rt2 results156 Z Z ?_))))
  obtain ⟨_, H, hsg511, hsr511⟩ := H.shut' (k := 0) rfl (Chk.nil (E := itemE) (sz := 3) (G := G0)) aN aN
  have hY : Sp.TreePut list x = none := by simp [Sp.TreePut, hc7]
  exact H.retP (by rw [hY]; exact ⟨_, rfl, hsr511⟩)
 intro hc7'
 try simp only [nrm] at hc7'
 refine W_skip (N_K (q2 (mV Z (fA 0 Z (lB 0 H Z3 (xr H Z2 (l5At_c _ _ H.sub _ _ hlist _ hi1 ) ?_)))))); intro _ H
 refine aG Z (q3 (W_seq (q2 (pe 3 Z ?_))))
 refine R_case (t := 23) Z ?_ ?_
 ·intro hc10
  try simp only [nrm] at hc10
  obtain ⟨i, _, ia, ib, _, _, _⟩ := Sp.at_nat hc10
  refine pe 2 Z (gR Z (iP i hlist Z3 ib ?_)); intro _ _ _ _ hz11 hE11 hrow11
  obtain ⟨_, _, _, rfl, _, hr11, _, _⟩ := ox hE11
  refine gR Z (fA 1 Z (gR Z (lP H hrow11 1 Z2 (pe 1 Z ?_))))
  refine R_case (t := 29) Z ?_ ?_
  ·intro hc12
   try simp only [nrm] at hc12
   refine pe 4 Z (q3 (W_true Z (q2 (xbs H Z7 ?_)))); intro _ _ _ H
   have H := H.blkAcc 3 (k := 0) (n := 0) rfl rfl (by decide)
   refine pe 2 Z (q3 (W_ret (N_K_ret (rt2 results156 Z Z ?_))))
   obtain ⟨_, H, hsg517, hsr517⟩ := H.shut' (k := 0) rfl (Chk.nil (E := itemE) (sz := 3) (G := G0)) aN aN
   have hY : Sp.TreePut list x = none := by (have hl : Sp.atI list x.path = some i := ia); simp [Sp.TreePut, hl, hz11, hc12]
   exact H.retP (by rw [hY]; exact ⟨_, rfl, hsr517⟩)
  intro hc12'
  try simp only [nrm] at hc12'
  refine gR Z (fA 1 Z (gR Z (lB 0 H Z3 (pe 2 Z (q3 ?_)))))
  refine W_cond Z ?_ ?_
  ·intro hc14
   try simp only [nrm] at hc14
   refine q2 (xbs H Z7 ?_); intro _ _ _ H
   have H := H.blkAcc 3 (k := 0) (n := 0) rfl rfl (by decide)
   refine pe 2 Z (q3 (W_ret (N_K_ret (rt2 results156 Z Z ?_))))
   obtain ⟨_, H, hsg520, hsr520⟩ := H.shut' (k := 0) rfl (Chk.nil (E := itemE) (sz := 3) (G := G0)) aN aN
   have hY : Sp.TreePut list x = none := by (have hl : Sp.atI list x.path = some i := ia); simp [Sp.TreePut, hl, hz11, hc14]
   exact H.retP (by rw [hY]; exact ⟨_, rfl, hsr520⟩)
  intro hc14'
  try simp only [nrm] at hc14'
  refine W_skip (N_K (q2 (mV Z (lA 0 3 H Z4 (xc Z2 (l5Put_c _ _ H.sub _ _ hlist _ x ⟨_, _, _, Z, hi1, hr1⟩ oM) ?_)))))
  rintro _ _ ⟨G16, _, _, g16, rfl, ⟨_, rfl, hchk16⟩, hp16, hq16, hs16⟩
  have H := H.growO g16 hp16 hq16 hs16; obtain ⟨_, _, rfl⟩ := H.accShape (k := 0) rfl
  refine ⟨_, Z, ?_⟩
  have hpl := Sp.l5Put_len list x
  refine aG Z (q3 (W_seq (q2 (mV Z (xr H Z2 (TreeValid_c _ _ (H.lendSubL [0]) _ _ (H.lendRdL (k := 0) (ks := [0]) Z Z hchk16 aN aN) ) ?_))))); intro _ H
  refine pe 1 Z (q3 ?_)
  refine W_cond Z ?_ ?_
  ·intro hc18
   try simp only [nrm] at hc18
   refine q2 (xbs H Z7 ?_); intro _ _ _ H
   have H := H.blkAcc 3 (k := 0) (n := 0) rfl rfl (by decide)
   refine pe 2 Z (q3 (W_ret (N_K_ret (rt2 results156 Z Z ?_))))
   obtain ⟨_, H, hsg525, hsr525⟩ := H.shut' (k := 0) rfl (Chk.nil (E := itemE) (sz := 3) (G := G16)) aN aN
   have hY : Sp.TreePut list x = none := by (have hl : Sp.atI list x.path = some i := ia); simp [Sp.TreePut, hc18]
   exact H.retP (by rw [hY]; exact ⟨_, rfl, hsr525⟩)
  intro hc18'
  try simp only [nrm] at hc18'
  refine W_skip (N_K (q2 (pe 3 Z (q3 (W_ret (rt2 results156 Z Z ?_))))))
  obtain ⟨_, H, hsg526, hsr526⟩ := H.shut' (k := 0) rfl hchk16 aN aN
  have hY : Sp.TreePut list x = some (Sp.l5Put list x) := by (have hl : Sp.atI list x.path = some i := ia); simp [Sp.TreePut, hl, hz11, hc4', hc7', hc12', hc14', hc18']
  exact H.retP (by rw [hY]; exact ⟨_, rfl, hsr526⟩)
 intro hc10'
 try simp only [nrm] at hc10'
 refine pe 6 Z (R_pass Z (yl_un Z Z) (R_pass Z (yl_un Z Z) (pe 2 Z (q3 (W_false Z (W_skip (N_K (q2 (mV Z (lA 0 3 H Z4 (xc Z2 (l5Put_c _ _ H.sub _ _ hlist _ x ⟨_, _, _, Z, hi1, hr1⟩ oM) ?_)))))))))))
 rintro _ _ ⟨G20, _, _, g20, rfl, ⟨_, rfl, hchk20⟩, hp20, hq20, hs20⟩
 have H := H.growO g20 hp20 hq20 hs20; obtain ⟨_, _, rfl⟩ := H.accShape (k := 0) rfl
 refine ⟨_, Z, ?_⟩
 have hpl := Sp.l5Put_len list x
 refine aG Z (q3 (W_seq (q2 (mV Z (xr H Z2 (TreeValid_c _ _ (H.lendSubL [0]) _ _ (H.lendRdL (k := 0) (ks := [0]) Z Z hchk20 aN aN) ) ?_))))); intro _ H
 refine pe 1 Z (q3 ?_)
 refine W_cond Z ?_ ?_
 ·intro hc22
  try simp only [nrm] at hc22
  refine q2 (xbs H Z7 ?_); intro _ _ _ H
  have H := H.blkAcc 3 (k := 0) (n := 0) rfl rfl (by decide)
  refine pe 2 Z (q3 (W_ret (N_K_ret (rt2 results156 Z Z ?_))))
  obtain ⟨_, H, hsg531, hsr531⟩ := H.shut' (k := 0) rfl (Chk.nil (E := itemE) (sz := 3) (G := G20)) aN aN
  have hY : Sp.TreePut list x = none := by simp [Sp.TreePut, hc22]
  exact H.retP (by rw [hY]; exact ⟨_, rfl, hsr531⟩)
 intro hc22'
 try simp only [nrm] at hc22'
 refine W_skip (N_K (q2 (pe 3 Z (q3 (W_ret (rt2 results156 Z Z ?_))))))
 obtain ⟨_, H, hsg532, hsr532⟩ := H.shut' (k := 0) rfl hchk20 aN aN
 have hY : Sp.TreePut list x = some (Sp.l5Put list x) := by (have hl : Sp.atI list x.path = none := Sp.at_none hc10'); simp [Sp.TreePut, hl, hc4', hc7', hc22']
 exact H.retP (by rw [hY]; exact ⟨_, rfl, hsr532⟩)
end Go.Proofs.Tst

namespace Go.Proofs.Tst
open Go Fw Tryz
theorem l5All_c (w0 : World) (G0 : PH) (hG : PSub G0 w0) (vlist : Value) (list : List (BItem)) (hlist : RdItems G0 vlist list)  :
  Calls Tryz.prog 43 #[vlist] w0 (RetO w0 G0 (AccOf itemE 3 40 list)) := by
 obtain ⟨alist, klist, rfl⟩ := hlist.shape
 have hlimlist : list.length ≤ 1099511627776 := hlist.lim
 have H := Hp.init hG
 refine calls_of_W (l := [.slice alist list.length klist]) func43 Z ntmps43 Z (q2 (aG Z (q1 (xbs H Z7 ?_)))); intro _ _ _ H
 have H := H.blkAcc 3 (k := 0) (n := 0) rfl rfl (by decide)
 refine aG Z (q3 (W_seq (q2 (aG Z (q3 (W_block ?_))))))
 refine W_lp (hf := (Sub.cons (t := 0) Z (Sub.cons (t := 2) Z Sub.nil))) (J := fun M w m => ∃ (v : Value) (n : Nat) (cs : List Value) (xs : List (BItem)) (k : Nat) (G : PH), M = [(4, .int .i64 (k : Int)), (3, v)] ∧ PLe G0 G ∧ Hp w0 G0 [] w G [acc 40 3 v n cs] ∧ (Chk itemE 3 G cs xs ∧ n = xs.length ∧ k ≤ list.length ∧ xs.length = k ∧ xs = list.take k) ∧ m = (list.length - k)) (h0 := ⟨_, _, _, [], 0, _, Z, PLe.refl _, H, ?inv, Z⟩) (round := ?round)
 case inv => exact ⟨(Chk.nil (E := itemE) (sz := 3) (G := G0)),  by first | rfl | simp | (simp; omega) | omega, (by simp)⟩
 case round =>
  rintro _ _ _ ⟨v, n, cs, xs, k, _, rfl, hle2, H, hinv2, rfl⟩
  have hlist := hlist.up hle2
  obtain ⟨hchk2_0, _, hinv2⟩ := hinv2
  obtain ⟨_, _, rfl⟩ := H.accShape (k := 0) rfl
  obtain ⟨_, hxl, hxs⟩ := hinv2
  refine W_seq (q2 (pe 2 Z (lN Z (pe 1 Z (q3 ?_)))))
  refine W_cond Z ?_ ?_
  ·intro hc3
   try simp only [nrm] at hc3
   refine W_skip (N_K (W_seq (W_block (W_region (pe 3 Z (iP k hlist Z3 Z ?_)))))); intro _ _ z4 _ hz4 hE4 hrow4
   obtain ⟨_, _, _, rfl, hi4, hr4, _, _⟩ := ox hE4
   refine o_loadagg_P H isAgg40 sizeOf40 Z Z hrow4 Z (xc Z2 (l5Copy_c _ _ H.sub _ _ ⟨_, _, _, Z, hi4, hr4⟩ ) ?_)
   rintro _ _ ⟨_, _, g5, rfl, _, rfl, hr5_0⟩
   have H := H.grow g5
   have hchk2_0 := hchk2_0.up g5.le
   have hle2 := hle2.trans g5.le
   obtain ⟨_, _, _, rfl, hi6, hr6, _, _⟩ := ox hr5_0
   refine ⟨_, Z, ?_⟩
   refine xbs H Z7 ?_; intro _ _ _ H
   refine o_append1 0 H (sz := 3) (bytes := 48) underlying24 typeInfo40 ⟨_, Z, Z⟩ Z Z Z Z Z Z Z Z Z Z oM Z ?_; intro _ _ H
   have hchk8 := hchk2_0.snoc (show itemE _ z4 _ from ⟨_, _, _, rfl, hi6, hr6⟩) rfl
   obtain ⟨_, _, rfl⟩ := H.accShape (k := 0) rfl
   refine aG Z (R_nil (N_B (N_K (W_region (mV Z (aD Z2 (aG Z (R_nil ?_))))))))
   refine N_lp (hJ := ⟨_, _, _, (xs ++ [z4]), k + 1, _, Z, hle2, H, ?inv, Z⟩) (hm := ?hm)
   case hm => omega
   case inv => exact ⟨hchk8, aN, (by exact ⟨by omega, by simp [hxl], by rw [Sp.take_succ' hz4, hxs]⟩)⟩
  intro hc3'
  try simp only [nrm] at hc3'
  refine W_exit (N_K_exit (N_LP_exit (N_B_same (N_K (q2 (pe 2 Z (q3 (W_ret (rt1 results43 Z ?_)))))))))
  obtain rfl : k = list.length := by omega
  rw [List.take_length] at hxs
  subst hxs
  exact H.retO (k := 0) rfl (AccOf.mk (by assumption) hchk2_0) (acc_nd _ _ _ _ _)
end Go.Proofs.Tst

namespace Go.Proofs.Tst
open Go Fw Tryz
theorem TreeDrop_c (w0 : World) (G0 : PH) (hG : PSub G0 w0) (vlist : Value) (list : List (BItem)) (hlist : RdItems G0 vlist list) (path : Bs) (hpath : path.length ≤ 16777216)  :
  Calls Tryz.prog 158 #[vlist, str path] w0 (RetP w0 G0 (fun G v => ∃ u, v = .tuple #[u, .bool (Sp.TreeDrop list path).isSome] ∧ RdItems G u ((Sp.TreeDrop list path).getD []))) := by
 obtain ⟨alist, klist, rfl⟩ := hlist.shape
 have hlimlist : list.length ≤ 1099511627776 := hlist.lim
 have H := Hp.init hG
 refine calls_of_W (l := [.slice alist list.length klist, str path]) func158 Z ntmps158 Z (q2 (pe 2 Z (q1 (pe 2 Z (xr H Z2 (l5At_c _ _ H.sub _ _ hlist _ hpath ) ?_))))); intro _ H
 refine aG Z (q3 (W_seq (q2 (mV Z (xr H Z2 (TreeValid_c _ _ H.sub _ _ hlist ) ?_))))); intro _ H
 refine pe 2 Z ?_
 refine R_case (t := 14) Z ?_ ?_
 ·intro hc3
  try simp only [nrm] at hc3
  refine pe 3 Z (q3 (W_true Z (q2 (xbs H Z7 ?_)))); intro _ _ _ H
  have H := H.blkAcc 3 (k := 0) (n := 0) rfl rfl (by decide)
  refine pe 2 Z (q3 (W_ret (N_K_ret (rt2 results158 Z Z ?_))))
  obtain ⟨_, H, hsg506, hsr506⟩ := H.shut' (k := 0) rfl (Chk.nil (E := itemE) (sz := 3) (G := G0)) aN aN
  have hY : Sp.TreeDrop list path = none := by simp [Sp.TreeDrop, hc3]
  exact H.retP (by rw [hY]; exact ⟨_, rfl, hsr506⟩)
 intro hc3'
 try simp only [nrm] at hc3'
 refine pe 3 Z (q3 ?_)
 refine W_cond Z ?_ ?_
 ·intro hc5
  try simp only [nrm] at hc5
  refine q2 (xbs H Z7 ?_); intro _ _ _ H
  have H := H.blkAcc 3 (k := 0) (n := 0) rfl rfl (by decide)
  refine pe 2 Z (q3 (W_ret (N_K_ret (rt2 results158 Z Z ?_))))
  obtain ⟨_, H, hsg509, hsr509⟩ := H.shut' (k := 0) rfl (Chk.nil (E := itemE) (sz := 3) (G := G0)) aN aN
  have hY : Sp.TreeDrop list path = none := by simp [Sp.TreeDrop, Sp.atI, Sp.at_none hc5]
  exact H.retP (by rw [hY]; exact ⟨_, rfl, hsr509⟩)
 intro hc5'
 try simp only [nrm] at hc5'
 obtain ⟨i, _, hi1, hi2, _, _, _⟩ := Sp.at_nat hc5'
 have hi2 : Sp.l5At list path = (i : Int) := hi2
 have hl : Sp.atI list path = some i := hi1
 have htl := Sp.tree_len hc3'
 refine W_skip (N_K (q2 (mV Z (xc Z2 (l5All_c _ _ H.sub _ _ hlist ) ?_))))
 rintro _ _ ⟨G7, _, _, g7, rfl, ⟨_, rfl, hchk7⟩, hp7, hq7, hs7⟩
 have H := H.growO g7 hp7 hq7 hs7; obtain ⟨_, _, rfl⟩ := H.accShape (k := 0) rfl
 refine ⟨_, Z, ?_⟩
 refine aG Z (q3 (W_seq (W_drawK [] 9 H kR Z ?_))); intro _ H; have hd8 := PLe.refl G7
 refine dE 0 Z2 (dE 1 Z2 ?_)
 have hac9 := H.accCap (k := 0) rfl
 refine RD_t 2 Z kR Z (fun _ hK => v_slice_to (j := i) underlying24 sizeOf40 Z Z hi2 oM) (dE 3 Z2 (dE 4 Z2 (RD_t 5 Z kR Z (fun _ hK => v_add Z Z oO) ?_)))
 have hac11 := H.accCap (k := 0) rfl
 refine RD_t 6 Z kR Z (fun _ hK => v_slice_from (i := (i + 1)) underlying24 sizeOf40 Z Z oM oM) (r1 7 Z ?_)
 refine o_append_del 0 H i Z hchk7 (by intro _ _ hz _ hu; obtain ⟨_, _, _, rfl, _⟩ := hz; simp at hu; rcases hu with rfl | rfl | rfl <;> rfl) underlying24 typeInfo40 rfl rfl rfl rfl oM aN ?_; intro _ _ hb12 H hchk12; cases hb12
 refine q4 H hd8 (dE 8 Z2 (rz (N_K (W_seq (q2 (mV Z (xr H Z2 (TreeValid_c _ _ (H.lendSubL [0]) _ _ (H.lendRdL (k := 0) (ks := [0]) Z Z hchk12 aN aN) ) ?_))))))); intro _ H
 refine pe 1 Z (q3 ?_)
 refine W_cond Z ?_ ?_
 ·intro hc14
  try simp only [nrm] at hc14
  refine q2 (xbs H Z7 ?_); intro _ _ _ H
  have H := H.blkAcc 3 (k := 0) (n := 0) rfl rfl (by decide)
  refine pe 2 Z (q3 (W_ret (N_K_ret (rt2 results158 Z Z ?_))))
  obtain ⟨_, H, hsg519, hsr519⟩ := H.shut' (k := 0) rfl (Chk.nil (E := itemE) (sz := 3) (G := G7)) aN aN
  have hY : Sp.TreeDrop list path = none := by simp [Sp.TreeDrop, hl, hc14]
  exact H.retP (by rw [hY]; exact ⟨_, rfl, hsr519⟩)
 intro hc14'
 try simp only [nrm] at hc14'
 refine W_skip (N_K (q2 (pe 3 Z (q3 (W_ret (rt2 results158 Z Z ?_))))))
 obtain ⟨_, H, hsg520, hsr520⟩ := H.shut' (k := 0) rfl hchk12 aN aN
 have hY : Sp.TreeDrop list path = some (list.take i ++ list.drop (i + 1)) := by simp [Sp.TreeDrop, hl, hc3', hc14']
 exact H.retP (by rw [hY]; exact ⟨_, rfl, hsr520⟩)
end Go.Proofs.Tst

namespace Go.Proofs.Tst
open Go Fw Tryz
theorem VolumeValid_c (w0 : World) (G0 : PH) (hG : PSub G0 w0) (cv : List Value) (v : BVol) (hv : volE G0 v cv)  :
  Calls Tryz.prog 157 #[.agg cv.toArray] w0 (Rets w0 (.bool (Sp.VolumeValid v))) := by
 obtain ⟨_, _, _, _, _, _, rfl, hr1, hr1', ⟨_, _⟩, _, _⟩ := ox hv
 have H := Hp.init hG
 refine calls_of_W (l := [_]) func157 Z ntmps157 Z (q2 (o_box H Z Z Z ?_)); intro b2 _ _ H
 refine aG Z (q3 (W_seq (q2 (fA 0 Z (lB 0 H Z3 (xr H Z2 (StoreValid_c _ _ H.sub _ _ hr1 ) ?_)))))); intro _ H
 refine pe 2 Z ?_
 refine R_case (t := 8) Z ?_ ?_
 ·intro hc4
  try simp only [nrm] at hc4
  refine pe 13 Z (q3 (W_true Z (q2 (aG Z (q3 (W_ret (N_K_ret (rt1 results157 Z ?_))))))))
  exact H.rets (congrArg Value.bool (by simp [Sp.VolumeValid, hc4]))
 intro hc4'
 try simp only [nrm] at hc4'
 refine gR Z (fA 1 Z (gR Z (lB 0 H Z3 (gR Z (xr H Z2 (TreeValid_c _ _ H.sub _ _ hr1' ) ?_))))); intro _ H
 refine pe 3 Z ?_
 refine R_case (t := 14) Z ?_ ?_
 ·intro hc6
  try simp only [nrm] at hc6
  refine pe 7 Z (q3 (W_true Z (q2 (aG Z (q3 (W_ret (N_K_ret (rt1 results157 Z ?_))))))))
  exact H.rets (congrArg Value.bool (by simp [Sp.VolumeValid, hc6]))
 intro hc6'
 try simp only [nrm] at hc6'
 refine gR Z (fA 0 Z (gR Z (lB 0 H Z3 (gR Z (fA 1 Z (gR Z (lB 0 H Z3 (gR Z (xr H Z2 (l11Files_c _ _ H.sub _ _ hr1 _ _ hr1' ) ?_))))))))); intro _ H
 refine pe 2 Z (q3 ?_)
 refine W_cond Z ?_ ?_
 ·intro hc8
  try simp only [nrm] at hc8
  refine q2 (aG Z (q3 (W_ret (N_K_ret (rt1 results157 Z ?_)))))
  exact H.rets (congrArg Value.bool (by simp [Sp.VolumeValid, hc8]))
 intro hc8'
 try simp only [nrm] at hc8'
 refine W_skip (N_K (W_seq (q2 (aG Z (q3 (W_block ?_))))))
 obtain ⟨ln9, hln9, H⟩ := H.name (k := 0) rfl
 refine W_lp (hf := (Sub.cons (t := 1) Z Sub.nil)) (J := fun M w m => ∃ (k : Nat) (G : PH), M = [(3, .int .i64 (k : Int))] ∧ PLe G0 G ∧ Hp w0 G0 [] w G [blk b2 (cl ln9 103)] ∧ (k ≤ v.store.length ∧ (v.store.take k).all (Sp.usesOk v.tree) = true) ∧ m = (v.store.length - k)) (h0 := ⟨0, _, Z, PLe.refl _, H, ?inv, Z⟩) (round := ?round)
 case inv => exact ⟨by omega, by simp⟩
 case round =>
  rintro _ _ _ ⟨k, G10, rfl, hle10, H, hinv10, rfl⟩
  subst hln9
  have hr1 := hr1.up hle10
  have hr1' := hr1'.up hle10
  obtain ⟨_, hall⟩ := hinv10
  refine W_seq (q2 (mV Z (fA 0 Z (lB 0 H Z3 (lN Z (pe 1 Z (q3 ?_)))))))
  refine W_cond Z ?_ ?_
  ·intro hc11
   try simp only [nrm] at hc11
   refine W_skip (N_K (W_seq (W_block (W_seq (W_drawK [0] 16 H kR Z ?_))))); intro _ H; have hd12 := PLe.refl G10
   refine dF 0 1 Z2 (dB 1 0 Z4 (dF 2 0 Z2 (dB 3 0 Z4 (dE 4 Z2 ?_))))
   have hl13 := hr1.len
   obtain ⟨_, _, z13, _, ha13, hz13, hq13, hE13, hrow13, _⟩ := hr1.at (i := k) oM
   clear hq13
   obtain ⟨_, _, _, rfl, _, _, _, _, _⟩ := ox hE13
   refine dI 5 3 k ha13 Z3 Z (dF 6 0 Z2 (dP 7 hrow13 0 Z3 (dF 9 0 Z2 (dB 10 0 Z4 (dE 11 Z2 ?_)))))
   have hl14 := hr1.len
   obtain ⟨_, _, z14, _, ha14, hz14, hq14, hE14, hrow14, _⟩ := hr1.at (i := k) oM
   clear hq14
   obtain ⟨_, _, _, rfl, _, _, _, _, _⟩ := ox hE14
   have hzz14 : z13 = z14 := Option.some.inj (hz13.symm.trans hz14)
   subst hzz14
   refine dI 12 3 k ha14 Z3 Z (dF 13 2 Z2 (dP 14 hrow14 2 Z3 (r1 8 Z (xr H Z2 (l11Count_c _ _ H.sub _ _ hr1' _ hc6') ?_)))); intro _ H
   refine q4 H hd12 (dE 15 Z2 (rz (N_K ?_)))
   refine W_cond Z ?_ ?_
   ·intro hc16
    try simp only [nrm] at hc16
    refine q2 (aG Z (q3 (W_ret (N_B_ret (N_K_ret (N_LP_ret (N_B_ret (N_K_ret (rt1 results157 Z ?_)))))))))
    exact H.rets (congrArg Value.bool (by rw [Sp.VolumeValid, Sp.all_false hz13 (by simp [Sp.usesOk, *])]; rfl))
   intro hc16'
   try simp only [nrm] at hc16'
   refine W_skip (N_B (N_K (W_region (mV Z (aD Z2 (aG Z (R_nil ?_)))))))
   refine N_lp (hJ := ⟨k + 1, _, Z, hle10, H, ?inv, Z⟩) (hm := ?hm)
   case hm => omega
   case inv => exact ⟨by omega, Sp.all_take hall hz13 (by simp [Sp.usesOk, *])⟩
  intro hc11'
  try simp only [nrm] at hc11'
  refine W_exit (N_K_exit (N_LP_exit (N_B_same (N_K (q2 (aG Z (q3 (W_ret (rt1 results157 Z ?_)))))))))
  obtain rfl : k = v.store.length := by omega
  rw [List.take_length] at hall
  exact H.rets (congrArg Value.bool (by simp [Sp.VolumeValid, hall, hc4', hc6', hc8']))
theorem VolumeDir_c (w0 : World) (G0 : PH) (hG : PSub G0 w0) (cv : List Value) (v : BVol) (hv : volE G0 v cv) (path : Bs) (hpath : path.length ≤ 16777216)  :
  Calls Tryz.prog 125 #[.agg cv.toArray, str path] w0 (RetO w0 G0 (fun G val r => ∃ u u1, val = .tuple #[.agg #[u, u1], .bool (Sp.VolumeDir v path).isSome] ∧ AccOf heldE 3 42 (((Sp.VolumeDir v path).map (·.store)).getD []) G u r ∧ RdItems G u1 (((Sp.VolumeDir v path).map (·.tree)).getD []))) := by
 obtain ⟨_, _, _, _, _, _, rfl, hr1, hr1', ⟨_, _⟩, _, _⟩ := ox hv
 have H := Hp.init hG
 refine calls_of_W (l := [_, str path]) func125 Z ntmps125 Z (q2 (o_box H Z Z Z ?_)); intro _ _ _ H
 refine xal H Z ?_; intro _ _ _ H
 refine aG Z (q1 (fA 1 Z (lB 1 H Z3 (mV Z (o_build bf40 Z Z Z (xc Z2 (TreePut_c _ _ H.sub _ _ hr1' _ ⟨path, true, []⟩ ⟨_, _, _, Z, hpath, (RdS.nil _ _ _)⟩ ) ?_))))))
 rintro _ _ ⟨_, _, g4, rfl, _, rfl, hr4_0⟩
 have H := H.grow g4
 have hr1 := hr1.up g4.le
 have hr1' := hr1'.up g4.le
 obtain ⟨_, _, rfl⟩ := hr4_0.shape; have hx_hr4_0 : _ ≤ 1099511627776 := hr4_0.lim
 refine ⟨_, Z, ?_⟩
 refine pe 5 Z (q3 (W_seq (q2 (lA 1 2 H Z4 (xr H Z2 (VolumeValid_c _ _ H.sub _ v ⟨_, _, _, _, _, _, Z, hr1, hr1'⟩ ) ?_))))); intro _ H
 refine pe 2 Z ?_
 refine R_case (t := 19) Z ?_ ?_
 ·intro hc6
  try simp only [nrm] at hc6
  refine pe 3 Z (q3 (W_true Z (q2 (o_build bf103 Z Z Z (xst 0 H Z8 ?_))))); intro _ H
  refine aG Z (q3 (W_ret (N_K_ret (ret_gen (rs := [.cell 4 103, .tmp 5]) (vs := [_, _]) results125 ⟨⟨_, Z, load_blk 0 H isAgg103 sizeOf103 Z Z Z⟩, Z, trivial⟩ ?_))))
  have hN : Sp.VolumeDir v path = none := by simp [Sp.VolumeDir, hc6]
  have H := H.addNil 42 3
  exact H.retO (k := 0) rfl (by rw [hN]; exact ⟨_, _, rfl, AccOf.mk rfl Chk.nil, RdS.nil _ _ _⟩) (acc_nd _ _ _ _ _)
 intro hc6'
 try simp only [nrm] at hc6'
 refine pe 3 Z (q3 ?_)
 refine W_cond Z ?_ ?_
 ·intro hc8
  try simp only [nrm] at hc8
  refine q2 (o_build bf103 Z Z Z (xst 0 H Z8 ?_)); intro _ H
  refine aG Z (q3 (W_ret (N_K_ret (ret_gen (rs := [.cell 4 103, .tmp 5]) (vs := [_, _]) results125 ⟨⟨_, Z, load_blk 0 H isAgg103 sizeOf103 Z Z Z⟩, Z, trivial⟩ ?_))))
  have hN : Sp.VolumeDir v path = none := by (have hno : Sp.TreePut v.tree ⟨path, true, []⟩ = none := by simpa using hc8); simp [Sp.VolumeDir, hno]
  have H := H.addNil 42 3
  exact H.retO (k := 0) rfl (by rw [hN]; exact ⟨_, _, rfl, AccOf.mk rfl Chk.nil, RdS.nil _ _ _⟩) (acc_nd _ _ _ _ _)
 intro hc8'
 try simp only [nrm] at hc8'
 refine W_skip (N_K (q2 (fA 0 Z (lB 1 H Z3 (xc Z2 (l3Copy_c _ _ H.sub _ _ hr1 ) ?_)))))
 rintro _ _ ⟨_, _, _, g10, rfl, ⟨_, rfl, hchk10⟩, hp10, hq10, hs10⟩
 have H := H.growO g10 hp10 hq10 hs10; obtain ⟨_, _, rfl⟩ := H.accShape (k := 0) rfl
 have hr4_0 := hr4_0.up g10.le
 refine ⟨_, Z, ?_⟩
 refine mV Z (o_build bf103 Z Z Z (xst 1 H Z8 ?_)); intro _ H
 refine aG Z (q3 (W_ret (ret_gen (rs := [.cell 4 103, .tmp 5]) (vs := [_, _]) results125 ⟨⟨_, Z, load_blk 1 H isAgg103 sizeOf103 Z Z Z⟩, Z, trivial⟩ ?_)))
 have hY : Sp.VolumeDir v path = some ⟨v.store, (Sp.TreePut v.tree ⟨path, true, []⟩).getD []⟩ := by (obtain ⟨_, hp⟩ := Option.isSome_iff_exists.1 hc8'); simp [Sp.VolumeDir, hp, hc6']
 exact H.retO (k := 0) rfl (by rw [hY]; exact ⟨_, _, rfl, AccOf.mk aN hchk10, hr4_0⟩) (acc_nd _ _ _ _ _)
theorem l11Write_c (w0 : World) (G0 : PH) (hG : PSub G0 w0) (cv : List Value) (v : BVol) (hv : volE G0 v cv) (path : Bs) (hpath : path.length ≤ 16777216) (vbytes : Value) (bytes : List (Int)) (hbytes : RdI G0 vbytes bytes) (hS : bytes.length ≤ 1000000) :
  Calls Tryz.prog 131 #[.agg cv.toArray, str path, vbytes] w0 (RetO w0 G0 (fun G val r => ∃ u u1, val = .tuple #[.agg #[u, u1], .bool (Sp.l11Write v path bytes).isSome] ∧ AccOf heldE 3 42 (((Sp.l11Write v path bytes).map (·.store)).getD []) G u r ∧ RdItems G u1 (((Sp.l11Write v path bytes).map (·.tree)).getD []))) := by
 obtain ⟨_, _, _, _, _, _, rfl, hr1, hr1', ⟨_, _⟩, _, _⟩ := ox hv
 obtain ⟨abytes, kbytes, rfl⟩ := hbytes.shape
 have hlimbytes : bytes.length ≤ 1099511627776 := hbytes.lim
 have H := Hp.init hG
 refine calls_of_W (l := [_, str path, .slice abytes bytes.length kbytes]) func131 Z ntmps131 Z (q2 (o_box H Z Z Z ?_)); intro _ _ _ H
 refine xal H Z ?_; intro _ _ _ H
 refine aG Z (q1 (fA 0 Z (lB 1 H Z3 (mV Z (xc Z2 (FileStore_c _ _ H.sub _ _ hr1 _ _ hbytes oM) ?_)))))
 rintro _ _ ⟨_, _, _, g4, rfl, ⟨_, _, rfl, ⟨_, rfl, hchk4⟩, hr4_1⟩, hp4, hq4, hs4⟩
 have H := H.growO g4 hp4 hq4 hs4; obtain ⟨_, _, rfl⟩ := H.accShape (k := 0) rfl
 have hr1' := hr1'.up g4.le
 obtain ⟨_, _, rfl⟩ := hr4_1.shape; have hx_hr4_1 : _ ≤ 1099511627776 := hr4_1.lim
 refine ⟨_, Z, ?_⟩
 have hfl := Sp.fileStore_len v.store bytes
 refine pe 7 Z (q1 (fA 1 Z (lB 2 H Z3 (pe 2 Z (o_build bf40 Z Z Z (xc Z2 (TreePut_c _ _ H.sub _ _ hr1' _ ⟨path, false, ((Sp.FileStore v.store bytes).map (·.2)).getD []⟩ ⟨_, _, _, Z, hpath, hr4_1⟩ ) ?_))))))
 rintro _ _ ⟨_, _, g5, rfl, _, rfl, hr5_0⟩
 have H := H.grow g5
 have hr1' := hr1'.up g5.le
 have hchk4 := hchk4.up g5.le
 obtain ⟨_, _, rfl⟩ := hr5_0.shape; have hx_hr5_0 : _ ≤ 1099511627776 := hr5_0.lim
 refine ⟨_, Z, ?_⟩
 refine pe 5 Z (q3 (W_seq (q2 (pe 3 Z ?_))))
 refine R_case (t := 35) Z ?_ ?_
 ·intro hc6
  try simp only [nrm] at hc6
  refine pe 3 Z (q3 (W_true Z (q2 (o_build bf103 Z Z Z (xst 1 H Z8 ?_))))); intro _ H
  refine aG Z (q3 (W_ret (N_K_ret (ret_gen (rs := [.cell 6 103, .tmp 7]) (vs := [_, _]) results131 ⟨⟨_, Z, load_blk 1 H isAgg103 sizeOf103 Z Z Z⟩, Z, trivial⟩ ?_))))
  have hN : Sp.l11Write v path bytes = none := by exact Sp.l11Write_1 hc6
  have H := H.addNil 42 3
  exact H.retO (k := 0) rfl (by rw [hN]; exact ⟨_, _, rfl, AccOf.mk rfl Chk.nil, RdS.nil _ _ _⟩) (acc_nd _ _ _ _ _)
 intro hc6'
 try simp only [nrm] at hc6'
 refine pe 3 Z (q3 ?_)
 refine W_cond Z ?_ ?_
 ·intro hc8
  try simp only [nrm] at hc8
  refine q2 (o_build bf103 Z Z Z (xst 1 H Z8 ?_)); intro _ H
  refine aG Z (q3 (W_ret (N_K_ret (ret_gen (rs := [.cell 6 103, .tmp 7]) (vs := [_, _]) results131 ⟨⟨_, Z, load_blk 1 H isAgg103 sizeOf103 Z Z Z⟩, Z, trivial⟩ ?_))))
  have hN : Sp.l11Write v path bytes = none := by exact Sp.l11Write_2 hc8
  have H := H.addNil 42 3
  exact H.retO (k := 0) rfl (by rw [hN]; exact ⟨_, _, rfl, AccOf.mk rfl Chk.nil, RdS.nil _ _ _⟩) (acc_nd _ _ _ _ _)
 intro hc8'
 try simp only [nrm] at hc8'
 refine W_skip (N_K (q2 (fA 1 Z (lB 2 H Z3 (mV Z (xc Z2 (l11Ids_c _ _ H.sub _ _ hr1' _ hpath ) ?_))))))
 rintro _ _ ⟨_, _, g10, rfl, hr10_0⟩
 have H := H.grow g10
 have hchk4 := hchk4.up g10.le
 have hr5_0 := hr5_0.up g10.le
 obtain ⟨_, _, rfl⟩ := hr10_0.shape; have hx_hr10_0 : _ ≤ 1099511627776 := hr10_0.lim
 refine ⟨_, Z, ?_⟩
 refine aG Z (q3 (W_seq (q2 (mV Z (lN Z (pe 1 Z (q3 ?_)))))))
 refine W_cond Z ?_ ?_
 ·intro hc11
  try simp only [nrm] at hc11
  refine q2 (pe 2 Z (iP 0 hr10_0 Z3 Z ?_)); intro _ _ z12 _ hz12 hE12 hrow12
  obtain ⟨_, _, _, rfl, _, hr12, _, _⟩ := ox hE12
  refine fA 2 Z (lP H hrow12 2 Z2 ?_)
  obtain ⟨_, H, hsg14, hsr14⟩ := H.shut' (k := 0) rfl hchk4 aN aN
  have hr5_0 := hr5_0.up hsg14
  have hr12 := hr12.up hsg14
  refine xc Z2 (FileFree_c _ _ H.sub _ _ hsr14 _ _ hr12 ) ?_
  rintro _ _ ⟨_, _, _, g13, rfl, ⟨_, rfl, ⟨_, rfl, hchk13⟩⟩, hp13, hq13, hs13⟩
  have H := H.growO g13 hp13 hq13 hs13; obtain ⟨_, _, rfl⟩ := H.accShape (k := 0) rfl
  have hr5_0 := hr5_0.up g13.le
  refine ⟨_, Z, ?_⟩
  refine pe 5 Z (q3 (W_region (pe 2 Z (q1 (pe 2 Z (o_build bf103 Z Z Z (xst 1 H Z8 ?_))))))); intro _ H
  refine aG Z (q3 (W_ret (ret_gen (rs := [.cell 6 103, .tmp 7]) (vs := [_, _]) results131 ⟨⟨_, Z, load_blk 1 H isAgg103 sizeOf103 Z Z Z⟩, Z, trivial⟩ ?_)))
  have hY : Sp.l11Write v path bytes = some ⟨(Sp.FileFree (((Sp.FileStore v.store bytes).map (·.1)).getD []) z12.ids).getD [], (Sp.TreePut v.tree ⟨path, false, ((Sp.FileStore v.store bytes).map (·.2)).getD []⟩).getD []⟩ := by rw [Sp.l11Write_3 hc6' hc8', Sp.freeOld_at hz12]
  exact H.retO (k := 0) rfl (by rw [hY]; exact ⟨_, _, rfl, AccOf.mk aN hchk13, hr5_0⟩) (acc_nd _ _ _ _ _)
 intro hc11'
 try simp only [nrm] at hc11'
 refine W_skip (N_K (q2 (pe 2 Z (o_build bf103 Z Z Z (xst 1 H Z8 ?_))))); intro _ H
 refine aG Z (q3 (W_ret (ret_gen (rs := [.cell 6 103, .tmp 7]) (vs := [_, _]) results131 ⟨⟨_, Z, load_blk 1 H isAgg103 sizeOf103 Z Z Z⟩, Z, trivial⟩ ?_)))
 have hY : Sp.l11Write v path bytes = some ⟨((Sp.FileStore v.store bytes).map (·.1)).getD [], (Sp.TreePut v.tree ⟨path, false, ((Sp.FileStore v.store bytes).map (·.2)).getD []⟩).getD []⟩ := by rw [Sp.l11Write_3 hc6' hc8', Sp.freeOld_nil oM]
 exact H.retO (k := 0) rfl (by rw [hY]; exact ⟨_, _, rfl, AccOf.mk aN hchk4, hr5_0⟩) (acc_nd _ _ _ _ _)
theorem VolumeWrite_c (w0 : World) (G0 : PH) (hG : PSub G0 w0) (cv : List Value) (v : BVol) (hv : volE G0 v cv) (path : Bs) (hpath : path.length ≤ 16777216) (vbytes : Value) (bytes : List (Int)) (hbytes : RdI G0 vbytes bytes)  :
  Calls Tryz.prog 128 #[.agg cv.toArray, str path, vbytes] w0 (RetO w0 G0 (fun G val r => ∃ u u1, val = .tuple #[.agg #[u, u1], .bool (Sp.VolumeWrite v path bytes).isSome] ∧ AccOf heldE 3 42 (((Sp.VolumeWrite v path bytes).map (·.store)).getD []) G u r ∧ RdItems G u1 (((Sp.VolumeWrite v path bytes).map (·.tree)).getD []))) := by
 obtain ⟨_, _, _, _, _, _, rfl, hr1, hr1', ⟨_, _⟩, _, _⟩ := ox hv
 obtain ⟨abytes, kbytes, rfl⟩ := hbytes.shape
 have hlimbytes : bytes.length ≤ 1099511627776 := hbytes.lim
 have H := Hp.init hG
 refine calls_of_W (l := [_, str path, .slice abytes bytes.length kbytes]) func128 Z ntmps128 Z (q2 (o_box H Z Z Z ?_)); intro _ _ _ H
 refine xal H Z ?_; intro _ _ _ H
 refine aG Z (q3 (W_seq (q2 (lA 1 2 H Z4 (xr H Z2 (VolumeValid_c _ _ H.sub _ v ⟨_, _, _, _, _, _, Z, hr1, hr1'⟩ ) ?_))))); intro _ H
 refine pe 2 Z ?_
 refine R_case (t := 11) Z ?_ ?_
 ·intro hc5
  try simp only [nrm] at hc5
  refine pe 4 Z (q3 (W_true Z (q2 (o_build bf103 Z Z Z (xst 0 H Z8 ?_))))); intro _ H
  refine aG Z (q3 (W_ret (N_K_ret (ret_gen (rs := [.cell 6 103, .tmp 7]) (vs := [_, _]) results128 ⟨⟨_, Z, load_blk 0 H isAgg103 sizeOf103 Z Z Z⟩, Z, trivial⟩ ?_))))
  have hN : Sp.VolumeWrite v path bytes = none := by simp [Sp.VolumeWrite, hc5]
  have H := H.addNil 42 3
  exact H.retO (k := 0) rfl (by rw [hN]; exact ⟨_, _, rfl, AccOf.mk rfl Chk.nil, RdS.nil _ _ _⟩) (acc_nd _ _ _ _ _)
 intro hc5'
 try simp only [nrm] at hc5'
 refine pe 1 Z (gR Z (xr H Z2 (FileValid_c _ _ H.sub _ _ hbytes ) ?_)); intro _ H
 refine pe 2 Z (q3 ?_)
 refine W_cond Z ?_ ?_
 ·intro hc8
  try simp only [nrm] at hc8
  refine q2 (o_build bf103 Z Z Z (xst 0 H Z8 ?_)); intro _ H
  refine aG Z (q3 (W_ret (N_K_ret (ret_gen (rs := [.cell 6 103, .tmp 7]) (vs := [_, _]) results128 ⟨⟨_, Z, load_blk 0 H isAgg103 sizeOf103 Z Z Z⟩, Z, trivial⟩ ?_))))
  have hN : Sp.VolumeWrite v path bytes = none := by simp [Sp.VolumeWrite, hc8]
  have H := H.addNil 42 3
  exact H.retO (k := 0) rfl (by rw [hN]; exact ⟨_, _, rfl, AccOf.mk rfl Chk.nil, RdS.nil _ _ _⟩) (acc_nd _ _ _ _ _)
 intro hc8'
 try simp only [nrm] at hc8'
 have hfl := Sp.file_len hc8'
 refine W_skip (N_K (q2 (lA 1 2 H Z4 (pe 2 Z (xc Z2 (l11Write_c _ _ H.sub _ v ⟨_, _, _, _, _, _, Z, hr1, hr1'⟩ _ hpath _ _ hbytes oM) ?_)))))
 rintro _ _ ⟨_, _, _, g10, rfl, ⟨_, _, rfl, ⟨_, rfl, hchk10⟩, hr10_1⟩, hp10, hq10, hs10⟩
 have H := H.growO g10 hp10 hq10 hs10; obtain ⟨_, _, rfl⟩ := H.accShape (k := 0) rfl
 obtain ⟨_, _, rfl⟩ := hr10_1.shape; have hx_hr10_1 : _ ≤ 1099511627776 := hr10_1.lim
 refine ⟨_, Z, ?_⟩
 refine pe 2 Z (xst 1 H Z8 ?_); intro _ H
 refine aG Z (q3 (W_ret (ret_gen (rs := [.cell 6 103, .tmp 7]) (vs := [_, _]) results128 ⟨⟨_, Z, load_blk 1 H isAgg103 sizeOf103 Z Z Z⟩, Z, trivial⟩ ?_)))
 have hY : Sp.VolumeWrite v path bytes = Sp.l11Write v path bytes := by simp [Sp.VolumeWrite, hc5', hc8']
 exact H.retO (k := 0) rfl (by rw [hY]; exact ⟨_, _, rfl, AccOf.mk aN hchk10, hr10_1⟩) (acc_nd _ _ _ _ _)
theorem VolumeDrop_c (w0 : World) (G0 : PH) (hG : PSub G0 w0) (cv : List Value) (v : BVol) (hv : volE G0 v cv) (path : Bs) (hpath : path.length ≤ 16777216)  :
  Calls Tryz.prog 126 #[.agg cv.toArray, str path] w0 (RetO w0 G0 (fun G val r => ∃ u u1, val = .tuple #[.agg #[u, u1], .bool (Sp.VolumeDrop v path).isSome] ∧ AccOf heldE 3 42 (((Sp.VolumeDrop v path).map (·.store)).getD []) G u r ∧ RdItems G u1 (((Sp.VolumeDrop v path).map (·.tree)).getD []))) := by
 obtain ⟨_, _, _, _, _, _, rfl, hr1, hr1', ⟨_, _⟩, _, _⟩ := ox hv
 have H := Hp.init hG
 refine calls_of_W (l := [_, str path]) func126 Z ntmps126 Z (q2 (o_box H Z Z Z ?_)); intro _ _ _ H
 refine xal H Z ?_; intro _ _ _ H
 refine aG Z (q1 (fA 1 Z (lB 1 H Z3 (mV Z (xc Z2 (TreeDrop_c _ _ H.sub _ _ hr1' _ hpath ) ?_)))))
 rintro _ _ ⟨G4, _, g4, rfl, _, rfl, hr4_0⟩
 have H := H.grow g4
 have hr1 := hr1.up g4.le
 have hr1' := hr1'.up g4.le
 obtain ⟨_, _, rfl⟩ := hr4_0.shape; have hx_hr4_0 : _ ≤ 1099511627776 := hr4_0.lim
 refine ⟨_, Z, ?_⟩
 refine pe 5 Z (q3 (W_seq (q2 (lA 1 2 H Z4 (xr H Z2 (VolumeValid_c _ _ H.sub _ v ⟨_, _, _, _, _, _, Z, hr1, hr1'⟩ ) ?_))))); intro _ H
 refine pe 2 Z ?_
 refine R_case (t := 20) Z ?_ ?_
 ·intro hc6
  try simp only [nrm] at hc6
  refine pe 3 Z (q3 (W_true Z (q2 (o_build bf103 Z Z Z (xst 0 H Z8 ?_))))); intro _ H
  refine aG Z (q3 (W_ret (N_K_ret (ret_gen (rs := [.cell 4 103, .tmp 5]) (vs := [_, _]) results126 ⟨⟨_, Z, load_blk 0 H isAgg103 sizeOf103 Z Z Z⟩, Z, trivial⟩ ?_))))
  have hN : Sp.VolumeDrop v path = none := by simp [Sp.VolumeDrop, hc6]
  have H := H.addNil 42 3
  exact H.retO (k := 0) rfl (by rw [hN]; exact ⟨_, _, rfl, AccOf.mk rfl Chk.nil, RdS.nil _ _ _⟩) (acc_nd _ _ _ _ _)
 intro hc6'
 try simp only [nrm] at hc6'
 refine pe 3 Z (q3 ?_)
 refine W_cond Z ?_ ?_
 ·intro hc8
  try simp only [nrm] at hc8
  refine q2 (o_build bf103 Z Z Z (xst 0 H Z8 ?_)); intro _ H
  refine aG Z (q3 (W_ret (N_K_ret (ret_gen (rs := [.cell 4 103, .tmp 5]) (vs := [_, _]) results126 ⟨⟨_, Z, load_blk 0 H isAgg103 sizeOf103 Z Z Z⟩, Z, trivial⟩ ?_))))
  have hN : Sp.VolumeDrop v path = none := by (have hno : Sp.TreeDrop v.tree path = none := by simpa using hc8); simp [Sp.VolumeDrop, hno]
  have H := H.addNil 42 3
  exact H.retO (k := 0) rfl (by rw [hN]; exact ⟨_, _, rfl, AccOf.mk rfl Chk.nil, RdS.nil _ _ _⟩) (acc_nd _ _ _ _ _)
 intro hc8'
 try simp only [nrm] at hc8'
 obtain ⟨i, _, ia, ib, _, _⟩ := Sp.treeDrop_at hc8'
 refine W_skip (N_K (W_seq (W_drawK [0, 1] 17 H kR Z ?_))); intro _ H; have hd10 := PLe.refl G4
 refine dF 0 0 Z2 (dB 1 1 Z4 (dF 2 1 Z2 (dB 3 1 Z4 (dF 4 1 Z2 (dB 5 1 Z4 (dE 6 Z2 (r1 7 Z (xr H Z2 (l5At_c _ _ H.sub _ _ hr1' _ hpath ) ?_)))))))); intro _ H
 refine q4 H hd10 ?_
 have hl12 := hr1'.len
 obtain ⟨_, _, z12, _, ha12, hz12, hq12, hE12, hrow12, _⟩ := hr1'.at (i := i) oM
 clear hq12
 obtain ⟨_, _, _, rfl, _, hr12, _, _⟩ := ox hE12
 refine dI 8 3 i ha12 Z3 ib (dF 9 2 Z2 (dP 10 hrow12 2 Z3 (r1 11 Z (xc Z2 (FileFree_c _ _ H.sub _ _ hr1 _ _ hr12 ) ?_))))
 rintro _ _ ⟨_, _, _, g13, rfl, ⟨_, rfl, ⟨_, rfl, hchk13⟩⟩, hp13, hq13, hs13⟩
 have H := H.growO g13 hp13 hq13 hs13; obtain ⟨_, _, rfl⟩ := H.accShape (k := 0) rfl
 have hr4_0 := hr4_0.up g13.le
 have hd10 := hd10.trans g13.le
 refine ⟨_, Z, ?_⟩
 refine q4 H hd10 (dE 12 Z2 (dE 13 Z2 (dE 14 Z2 (dE 15 Z2 (dE 16 Z2 (rz (N_K (q2 (pe 2 Z (o_build bf103 Z Z Z (xst 1 H Z8 ?_))))))))))); intro _ H
 refine aG Z (q3 (W_ret (ret_gen (rs := [.cell 4 103, .tmp 5]) (vs := [_, _]) results126 ⟨⟨_, Z, load_blk 1 H isAgg103 sizeOf103 Z Z Z⟩, Z, trivial⟩ ?_)))
 have hY : Sp.VolumeDrop v path = some ⟨(Sp.FileFree v.store z12.ids).getD [], (Sp.TreeDrop v.tree path).getD []⟩ := by (obtain ⟨_, hp⟩ := Option.isSome_iff_exists.1 hc8'); simp [Sp.VolumeDrop, hc6', hp, ia, hz12]
 exact H.retO (k := 0) rfl (by rw [hY]; exact ⟨_, _, rfl, AccOf.mk aN hchk13, hr4_0⟩) (acc_nd _ _ _ _ _)
end Go.Proofs.Tst

namespace Go.Proofs.Tst
open Go Fw Tryz
theorem of_c (w0 : World) (G0 : PH) (hG : PSub G0 w0) (rb : Nat) (ab : Option Addr) (mb kb : Nat) (bs : List UInt8) (p : Nat) (hbs : RdU G0 (.slice ab mb kb) bs) (hrb : w0.heap[rb]? = some (cl [.slice ab mb kb, .int .i64 (p : Int)] 107)) (hrn : G0 rb = none) (hp : p ≤ 100000000000) (vlist : Value) (list : List (Bs)) (hlist : RdT G0 vlist list) (hL : 0 < list.length) :
  Calls Tryz.prog 34 #[.pointer (some ⟨rb, 0, none⟩), vlist] w0 (RetM w0 G0 [rb] (fun G val Bs => ∃ (p' : Nat) (x : Fw.Bs), p' ≤ p + 1 ∧ val = str x ∧ x.length ≤ 16777216 ∧ Bs = [blk rb (cl [.slice ab mb kb, .int .i64 (p' : Int)] 107)])) := by
 have hlimbs : bs.length ≤ 1099511627776 := hbs.lim; obtain rfl : mb = bs.length := hbs.len
 obtain ⟨alist, klist, rfl⟩ := hlist.shape
 have hlimlist : list.length ≤ 1099511627776 := hlist.lim
 have H := Hp.initM hG hrb hrn
 refine calls_of_W (l := [.pointer (some ⟨rb, 0, none⟩), .slice alist list.length klist]) func34 Z ntmps34 Z (q2 (aG Z (q1 (pe 3 Z (lN Z (xc Z2 (pick_c _ _ H.sub _ _ _ _ _ _ hbs (H.blkIs (k := 0) Z).1 (H.blkIs (k := 0) Z).2 oM _ oO ) ?_))))))
 rintro _ _ ⟨_, _, _, rfl, H1', ⟨_, x1, _, rfl, _, rfl⟩⟩
 have hlist := hlist.up H1'.le
 have H := H.borrow (k := 0) rfl H1'
 refine ⟨_, Z, ?_⟩
 refine iP x1 hlist Z3 Z ?_; intro _ _ _ _ _ hE2 hrow2
 obtain ⟨rfl, hi2⟩ := hE2; have hy_hi2 : _ ≤ 16777216 := hi2
 refine lP H hrow2 0 Z2 (aG Z (q3 (W_ret (rt1 results34 Z ?_))))
 exact H.retM ⟨_, _, by omega, rfl, (by assumption), rfl⟩
end Go.Proofs.Tst

namespace Go.Proofs.Tst
open Go Fw Tryz
theorem l91Path_c (w0 : World) (G0 : PH) (hG : PSub G0 w0) (rb : Nat) (ab : Option Addr) (mb kb : Nat) (bs : List UInt8) (p : Nat) (hbs : RdU G0 (.slice ab mb kb) bs) (hrb : w0.heap[rb]? = some (cl [.slice ab mb kb, .int .i64 (p : Int)] 107)) (hrn : G0 rb = none) (hp : p ≤ 10000000000)  :
  Calls Tryz.prog 127 #[.pointer (some ⟨rb, 0, none⟩)] w0 (RetM w0 G0 [rb] (fun G val Bs => ∃ (p' : Nat) (x : Fw.Bs), p' ≤ p + 2 ∧ val = str x ∧ x.length ≤ 16777216 ∧ Bs = [blk rb (cl [.slice ab mb kb, .int .i64 (p' : Int)] 107)])) := by
 have hlimbs : bs.length ≤ 1099511627776 := hbs.lim; obtain rfl : mb = bs.length := hbs.len
 have H := Hp.initM hG hrb hrn
 refine calls_of_W (l := [.pointer (some ⟨rb, 0, none⟩)]) func127 Z ntmps127 Z (q2 (aG Z (q3 (W_seq (q2 (mV Z (xc Z2 (pick_c _ _ H.sub _ _ _ _ _ _ hbs (H.blkIs (k := 0) Z).1 (H.blkIs (k := 0) Z).2 oM _ oO ) ?_)))))))
 rintro _ _ ⟨G1, _, _, rfl, H1', ⟨_, _, _, rfl, _, rfl⟩⟩
 have hbs := hbs.up H1'.le
 have H := H.borrow (k := 0) rfl H1'
 refine ⟨_, Z, ?_⟩
 refine pe 1 Z (q3 ?_)
 refine W_cond Z ?_ ?_
 ·intro hc2
  try simp only [nrm] at hc2
  refine q2 (mV Z (xbs H Z7 ?_)); intro _ _ _ H
  have H := H.blkAcc 1 (k := 0) (n := 8) rfl rfl (by decide)
  have hchk5 := (((((((((Chk.nil (E := strE) (sz := 1) (G := G1)).snoc (show strE _ ([] : Fw.Bs) [str []] from ⟨rfl, by decide⟩) rfl).snoc (show strE _ ([97, 47, 47, 98] : Fw.Bs) [str [97, 47, 47, 98]] from ⟨rfl, by decide⟩) rfl).snoc (show strE _ ([47, 97] : Fw.Bs) [str [47, 97]] from ⟨rfl, by decide⟩) rfl).snoc (show strE _ ([97, 47] : Fw.Bs) [str [97, 47]] from ⟨rfl, by decide⟩) rfl).snoc (show strE _ ([65] : Fw.Bs) [str [65]] from ⟨rfl, by decide⟩) rfl).snoc (show strE _ ([97, 98, 99, 100, 101, 102] : Fw.Bs) [str [97, 98, 99, 100, 101, 102]] from ⟨rfl, by decide⟩) rfl).snoc (show strE _ ([97, 47, 98, 47, 99, 47, 100, 47, 101] : Fw.Bs) [str [97, 47, 98, 47, 99, 47, 100, 47, 101]] from ⟨rfl, by decide⟩) rfl).snoc (show strE _ ([97, 47, 98, 47, 99, 47, 100] : Fw.Bs) [str [97, 47, 98, 47, 99, 47, 100]] from ⟨rfl, by decide⟩) rfl)
  obtain ⟨_, H, hsg6, hsr6⟩ := H.shutM (k := 0) (j := 0) rfl rfl hchk5 aN aN
  have hbs := hbs.up hsg6
  refine xc Z2 (of_c _ _ H.sub _ _ _ _ _ _ hbs (H.blkIs (k := 0) Z).1 (H.blkIs (k := 0) Z).2 oM _ _ hsr6 (by first | decide | (simp; done) | (simp; omega))) ?_
  rintro _ _ ⟨_, _, _, rfl, H4', ⟨_, _, _, rfl, _, rfl⟩⟩
  have H := H.borrow (k := 0) rfl H4'
  refine ⟨_, Z, ?_⟩
  refine aG Z (q3 (W_ret (N_K_ret (rt1 results127 Z ?_))))
  exact H.retM ⟨_, _, by omega, rfl, (by assumption), rfl⟩
 intro hc2'
 try simp only [nrm] at hc2'
 refine W_skip (N_K (q2 (mV Z (xbs H Z7 ?_)))); intro _ _ _ H
 have H := H.blkAcc 1 (k := 0) (n := 8) rfl rfl (by decide)
 have hchk9 := (((((((((Chk.nil (E := strE) (sz := 1) (G := G1)).snoc (show strE _ ([97] : Fw.Bs) [str [97]] from ⟨rfl, by decide⟩) rfl).snoc (show strE _ ([98] : Fw.Bs) [str [98]] from ⟨rfl, by decide⟩) rfl).snoc (show strE _ ([97, 47, 120] : Fw.Bs) [str [97, 47, 120]] from ⟨rfl, by decide⟩) rfl).snoc (show strE _ ([97, 47, 121] : Fw.Bs) [str [97, 47, 121]] from ⟨rfl, by decide⟩) rfl).snoc (show strE _ ([98, 47, 120] : Fw.Bs) [str [98, 47, 120]] from ⟨rfl, by decide⟩) rfl).snoc (show strE _ ([97, 47, 120, 47, 112] : Fw.Bs) [str [97, 47, 120, 47, 112]] from ⟨rfl, by decide⟩) rfl).snoc (show strE _ ([99] : Fw.Bs) [str [99]] from ⟨rfl, by decide⟩) rfl).snoc (show strE _ ([97, 47, 120, 47, 113] : Fw.Bs) [str [97, 47, 120, 47, 113]] from ⟨rfl, by decide⟩) rfl)
 obtain ⟨_, H, hsg10, hsr10⟩ := H.shutM (k := 0) (j := 0) rfl rfl hchk9 aN aN
 have hbs := hbs.up hsg10
 refine xc Z2 (of_c _ _ H.sub _ _ _ _ _ _ hbs (H.blkIs (k := 0) Z).1 (H.blkIs (k := 0) Z).2 oM _ _ hsr10 (by first | decide | (simp; done) | (simp; omega))) ?_
 rintro _ _ ⟨_, _, _, rfl, H8', ⟨_, _, _, rfl, _, rfl⟩⟩
 have H := H.borrow (k := 0) rfl H8'
 refine ⟨_, Z, ?_⟩
 refine aG Z (q3 (W_ret (rt1 results127 Z ?_)))
 exact H.retM ⟨_, _, by omega, rfl, (by assumption), rfl⟩
end Go.Proofs.Tst

namespace Go.Proofs.Tst
open Go Fw Tryz
theorem l91File_c (w0 : World) (G0 : PH) (hG : PSub G0 w0) (rb : Nat) (ab : Option Addr) (mb kb : Nat) (bs : List UInt8) (p : Nat) (hbs : RdU G0 (.slice ab mb kb) bs) (hrb : w0.heap[rb]? = some (cl [.slice ab mb kb, .int .i64 (p : Int)] 107)) (hrn : G0 rb = none) (hp : p ≤ 1000000000)  :
  Calls Tryz.prog 101 #[.pointer (some ⟨rb, 0, none⟩)] w0 (RetM w0 G0 [rb] (fun G val Bs => ∃ (p' : Nat) (x : List Int) (v : Value) (c : List Value), p' ≤ p + 100 ∧ val = v ∧ Chk intE 1 G c x ∧ x.length ≤ 33 ∧ Bs = [acc 3 1 v x.length c, blk rb (cl [.slice ab mb kb, .int .i64 (p' : Int)] 107)])) := by
 have hlimbs : bs.length ≤ 1099511627776 := hbs.lim; obtain rfl : mb = bs.length := hbs.len
 have H := Hp.initM hG hrb hrn
 refine calls_of_W (l := [.pointer (some ⟨rb, 0, none⟩)]) func101 Z ntmps101 Z (q2 (aG Z (q1 (xbs H Z7 ?_)))); intro _ _ _ H
 have H := H.blkAcc 1 (k := 0) (n := 0) rfl rfl (by decide)
 refine aG Z (q1 (xbs H Z7 ?_)); intro _ _ _ H
 refine mV Z (xc Z2 (pick_c _ _ H.sub _ _ _ _ _ _ hbs (H.blkIs (k := 2) Z).1 (H.blkIs (k := 2) Z).2 oM _ oO ) ?_)
 rintro _ _ ⟨G3, _, _, rfl, H3', ⟨_, x3, _, rfl, _, rfl⟩⟩
 have hbs := hbs.up H3'.le
 have H := H.borrow (k := 2) rfl H3'
 refine ⟨_, Z, ?_⟩
 have H := H.blkAcc 1 (k := 1) (n := 8) rfl rfl (by decide)
 have hchk5 := (((((((((Chk.nil (E := intE) (sz := 1) (G := G3)).snoc (show intE _ (0 : Int) [.int .i64 0] from ⟨rfl, by decide⟩) rfl).snoc (show intE _ (1 : Int) [.int .i64 1] from ⟨rfl, by decide⟩) rfl).snoc (show intE _ (7 : Int) [.int .i64 7] from ⟨rfl, by decide⟩) rfl).snoc (show intE _ (8 : Int) [.int .i64 8] from ⟨rfl, by decide⟩) rfl).snoc (show intE _ (9 : Int) [.int .i64 9] from ⟨rfl, by decide⟩) rfl).snoc (show intE _ (16 : Int) [.int .i64 16] from ⟨rfl, by decide⟩) rfl).snoc (show intE _ (17 : Int) [.int .i64 17] from ⟨rfl, by decide⟩) rfl).snoc (show intE _ (32 : Int) [.int .i64 32] from ⟨rfl, by decide⟩) rfl)
 obtain ⟨_, H, hsg6, hsr6⟩ := H.shutM (k := 1) (j := 0) rfl rfl hchk5 aN aN
 have hbs := hbs.up hsg6
 have hl_hsr6 := hsr6.len
 refine iP x3 hsr6 Z3 Z ?_; intro _ _ z4 _ hz4 hE4 hrow4
 obtain ⟨rfl, _⟩ := hE4
 have hzb : 0 ≤ z4 ∧ z4 ≤ 32 := by have := List.mem_of_getElem? hz4; simp at this; omega
 refine lP H hrow4 0 Z2 (aG Z (q3 (W_seq (q2 (mV Z (xc Z2 (pick_c _ _ H.sub _ _ _ _ _ _ hbs (H.blkIs (k := 0) Z).1 (H.blkIs (k := 0) Z).2 oM _ oO ) ?_))))))
 rintro _ _ ⟨_, _, _, rfl, H7', ⟨_, _, _, rfl, _, rfl⟩⟩
 have hbs := hbs.up H7'.le
 have H := H.borrow (k := 0) rfl H7'
 refine ⟨_, Z, ?_⟩
 refine pe 1 Z (q3 ?_)
 refine W_cond Z ?_ ?_
 ·intro hc8
  try simp only [nrm] at hc8
  refine W_region (mV Z (xc Z2 (pick_c _ _ H.sub _ _ _ _ _ _ hbs (H.blkIs (k := 0) Z).1 (H.blkIs (k := 0) Z).2 oM _ oO ) ?_))
  rintro _ _ ⟨_, _, _, rfl, H9', ⟨_, _, _, rfl, _, rfl⟩⟩
  have hbs := hbs.up H9'.le
  have H := H.borrow (k := 0) rfl H9'
  refine ⟨_, Z, ?_⟩
  refine aG Z (q1 (mV Z (xc Z2 (pick_c _ _ H.sub _ _ _ _ _ _ hbs (H.blkIs (k := 0) Z).1 (H.blkIs (k := 0) Z).2 oM _ oO ) ?_)))
  rintro _ _ ⟨G10, _, _, rfl, H10', ⟨p10, x10, _, rfl, _, rfl⟩⟩
  have hbs := hbs.up H10'.le
  have H := H.borrow (k := 0) rfl H10'
  refine ⟨_, Z, ?_⟩
  refine aG Z (q3 (W_seq (q2 (aG Z (q3 (W_block ?_))))))
  refine W_lp (hf := (Sub.cons (t := 0) Z (Sub.cons (t := 2) Z (Sub.cons (t := 4) Z (Sub.cons (t := 5) Z Sub.nil))))) (J := fun M w m => ∃ (v : Value) (n : Nat) (cs : List Value) (xs : List (Int)) (k : Nat) (pp : Nat) (G : PH), M = [(6, .int .i64 (k : Int)), (3, v)] ∧ PLe G10 G ∧ Hp w0 G0 [rb] w G [blk rb (cl [.slice ab bs.length kb, .int .i64 (pp : Int)] 107), acc 3 1 v n cs] ∧ (Chk intE 1 G cs xs ∧ n = xs.length ∧ k ≤ 32 ∧ xs.length = k ∧ pp ≤ p + 10 + 2 * k) ∧ m = (33 - k)) (h0 := ⟨_, _, _, [], 0, p10, _, Z, PLe.refl _, H, ?inv, Z⟩) (round := ?round)
  case inv => exact ⟨(Chk.nil (E := intE) (sz := 1) (G := G10)),  by first | rfl | simp | (simp; omega) | omega, (by exact ⟨by omega, rfl, by omega⟩)⟩
  case round =>
   rintro _ _ _ ⟨v, n, cs, xs, k, pp, _, rfl, hle11, H, hinv11, rfl⟩
   have hbs := hbs.up hle11
   obtain ⟨hchk11_0, _, hinv11⟩ := hinv11
   obtain ⟨_, _, rfl⟩ := H.accShape (k := 1) rfl
   obtain ⟨hk, hxl, hpp⟩ := hinv11
   refine W_seq (q2 (pe 3 Z (q3 ?_)))
   refine W_cond Z ?_ ?_
   ·intro hc12
    try simp only [nrm] at hc12
    refine W_skip (N_K (W_seq (W_block (W_region (pe 3 Z (o_quo Z Z Z oM oM oM (mV Z (xc Z2 (pick_c _ _ H.sub _ _ _ _ _ _ hbs (H.blkIs (k := 0) Z).1 (H.blkIs (k := 0) Z).2 oM _ oO ) ?_))))))))
    rintro _ _ ⟨_, _, _, rfl, H13', ⟨_, x13, _, rfl, _, rfl⟩⟩
    have hbs := hbs.up H13'.le
    have hchk11_0 := hchk11_0.up H13'.le
    have hle11 := hle11.trans H13'.le
    have H := H.borrow (k := 0) rfl H13'
    refine ⟨_, Z, ?_⟩
    have hma13 : 0 ≤ ((k : Int) / 8) * (x13 : Int) := Int.mul_nonneg oM oM
    have hmb13 : ((k : Int) / 8) * (x13 : Int) ≤ 4 * (x13 : Int) := Int.mul_le_mul_of_nonneg_right oM oM
    refine o_mul Z Z Z oO (aD Z2 (mV Z (xc Z2 (pick_c _ _ H.sub _ _ _ _ _ _ hbs (H.blkIs (k := 0) Z).1 (H.blkIs (k := 0) Z).2 oM _ oO ) ?_)))
    rintro _ _ ⟨_, _, _, rfl, H16', ⟨p16, x16, _, rfl, _, rfl⟩⟩
    have hchk11_0 := hchk11_0.up H16'.le
    have hle11 := hle11.trans H16'.le
    have H := H.borrow (k := 0) rfl H16'
    refine ⟨_, Z, ?_⟩
    have hma16 : 0 ≤ ((k : Int) / 8) * (x16 : Int) := Int.mul_nonneg oM oM
    have hmb16 : ((k : Int) / 8) * (x16 : Int) ≤ 4 * (x16 : Int) := Int.mul_le_mul_of_nonneg_right oM oM
    refine o_quo Z Z Z oM oM oM (aD Z2 (xbs H Z7 ?_)); intro _ _ _ H
    refine o_append1 1 H (sz := 1) (bytes := 8) underlying38 typeInfo3 ⟨_, Z, Z⟩ Z Z Z Z Z Z Z Z Z Z oM Z ?_; intro _ _ H
    have hchk19 := hchk11_0.snoc (show intE _ ((x10 : Int) + ((k : Int) / 8) * (x13 : Int) + (x16 : Int) / 5) _ from ⟨rfl, oO⟩) rfl
    obtain ⟨_, _, rfl⟩ := H.accShape (k := 1) rfl
    refine aG Z (R_nil (N_B (N_K (W_region (mV Z (aD Z2 (aG Z (R_nil ?_))))))))
    refine N_lp (hJ := ⟨_, _, _, (xs ++ [((x10 : Int) + ((k : Int) / 8) * (x13 : Int) + (x16 : Int) / 5)]), k + 1, p16, _, Z, hle11, H, ?inv, Z⟩) (hm := ?hm)
    case hm => omega
    case inv => exact ⟨hchk19, aN, (by exact ⟨by omega, by simp [hxl], by omega⟩)⟩
   intro hc12'
   try simp only [nrm] at hc12'
   refine W_exit (N_K_exit (N_LP_exit (N_B_same (N_K (W_seq (q2 (mV Z (xc Z2 (pick_c _ _ H.sub _ _ _ _ _ _ hbs (H.blkIs (k := 0) Z).1 (H.blkIs (k := 0) Z).2 oM _ oO ) ?_))))))))
   rintro _ _ ⟨G21, _, _, rfl, H21', ⟨_, x21, _, rfl, _, rfl⟩⟩
   have hbs := hbs.up H21'.le
   have hchk11_0 := hchk11_0.up H21'.le
   have H := H.borrow (k := 0) rfl H21'
   refine ⟨_, Z, ?_⟩
   have hma21 : 0 ≤ ((k : Int) / 8) * (x21 : Int) := Int.mul_nonneg oM oM
   have hmb21 : ((k : Int) / 8) * (x21 : Int) ≤ 4 * (x21 : Int) := Int.mul_le_mul_of_nonneg_right oM oM
   refine q3 (W_block (q2 (pe 2 Z (q3 ?_))))
   refine W_cond Z ?_ ?_
   ·intro hc22
    try simp only [nrm] at hc22
    refine q2 (pe 2 Z (q3 ?_))
    refine W_cond Z ?_ ?_
    ·intro hc23
     try simp only [nrm] at hc23
     refine W_region (pe 3 Z (xc Z2 (pick_c _ _ H.sub _ _ _ _ _ _ hbs (H.blkIs (k := 0) Z).1 (H.blkIs (k := 0) Z).2 oM _ oO ) ?_))
     rintro _ _ ⟨_, _, _, rfl, H24', ⟨_, x24, _, rfl, _, rfl⟩⟩
     have hchk11_0 := hchk11_0.up H24'.le
     have H := H.borrow (k := 0) rfl H24'
     refine ⟨_, Z, ?_⟩
     have hma24 : 0 ≤ ((k : Int) / 8) * (x24 : Int) := Int.mul_nonneg oM oM
     have hmb24 : ((k : Int) / 8) * (x24 : Int) ≤ 4 * (x24 : Int) := Int.mul_le_mul_of_nonneg_right oM oM
     refine o_index_A 1 H x24 Z hchk11_0 underlying38 sizeOf3 Z Z Z Z aN aN ?_; intro _ _ _ hba25 hz25 hE25 _; cases hba25
     obtain ⟨rfl, _⟩ := hE25
     have hcl26 := hchk11_0.length
     refine o_store_A 1 H sizeOf3 Z Z Z Z Z (by simp only [vc, List.length_cons, List.length_nil]; omega) ?_; intro _ H
     have hchk26 := hchk11_0.put (x' := 256) (off := 0) (vs := [_]) hz25 (fun cs hl hE => by obtain ⟨rfl, _⟩ := hE; exact ⟨rfl, oO⟩) (by simp only [vc, List.length_cons, List.length_nil]; omega)
     refine R_nil (N_B (N_K (q2 (pe 2 Z (q3 (W_ret (rt1 results101 Z ?_)))))))
     have H := H.tF 1
     have hcx := hchk26
     exact H.retM ⟨_, (xs.set x24 256), _, _, oM, rfl, hcx, (by first | (simp; done) | (simp; omega) | (simp at *; omega) | omega), acc_1 aN⟩
    intro hc23'
    try simp only [nrm] at hc23'
    refine W_skip (N_B (N_K (q2 (pe 2 Z (q3 (W_ret (rt1 results101 Z ?_)))))))
    have H := H.tF 1
    have hcx := hchk11_0
    exact H.retM ⟨_, xs, _, _, oM, rfl, hcx, (by first | (simp; done) | (simp; omega) | (simp at *; omega) | omega), acc_1 aN⟩
   intro hc22'
   try simp only [nrm] at hc22'
   refine q2 (pe 2 Z (q3 ?_))
   refine W_cond Z ?_ ?_
   ·intro hc27
    try simp only [nrm] at hc27
    refine q2 (o_makeN (c := 33) (sz := 1) (bytes := 8) H underlying38 typeInfo3 ⟨_, Z, Z⟩ Z Z Z Z Z Z Z Z Z oM Z ?_); intro _ _ H
    have hchk28 := Chk.rep (E := intE) (sz := 1) (G := G21) (x0 := 0) (⟨rfl, by decide⟩) rfl (33)
    refine aG Z (q3 (W_ret (N_B_ret (N_K_ret (rt1 results101 Z ?_)))))
    have H := H.dl 2
    have H := H.tF 1
    have H := H.tF 1
    have hcx := hchk28
    exact H.retM ⟨_, (List.replicate (33) 0), _, _, oM, rfl, hcx, (by first | (simp; done) | (simp; omega) | (simp at *; omega) | omega), acc_1 aN⟩
   intro hc27'
   try simp only [nrm] at hc27'
   refine W_skip (N_B (N_K (q2 (pe 2 Z (q3 (W_ret (rt1 results101 Z ?_)))))))
   have H := H.tF 1
   have hcx := hchk11_0
   exact H.retM ⟨_, xs, _, _, oM, rfl, hcx, (by first | (simp; done) | (simp; omega) | (simp at *; omega) | omega), acc_1 aN⟩
 intro hc8'
 try simp only [nrm] at hc8'
 refine W_skip (N_K (q2 (mV Z (xc Z2 (pick_c _ _ H.sub _ _ _ _ _ _ hbs (H.blkIs (k := 0) Z).1 (H.blkIs (k := 0) Z).2 oM _ oO ) ?_))))
 rintro _ _ ⟨G29, _, _, rfl, H29', ⟨p29, x29, _, rfl, _, rfl⟩⟩
 have hbs := hbs.up H29'.le
 have H := H.borrow (k := 0) rfl H29'
 refine ⟨_, Z, ?_⟩
 refine aG Z (q3 (W_seq (q2 (aG Z (q3 (W_block ?_))))))
 refine W_lp (hf := (Sub.cons (t := 0) Z (Sub.cons (t := 2) Z (Sub.cons (t := 4) Z (Sub.cons (t := 5) Z Sub.nil))))) (J := fun M w m => ∃ (v : Value) (n : Nat) (cs : List Value) (xs : List (Int)) (k : Nat) (pp : Nat) (G : PH), M = [(6, .int .i64 (k : Int)), (3, v)] ∧ PLe G29 G ∧ Hp w0 G0 [rb] w G [blk rb (cl [.slice ab bs.length kb, .int .i64 (pp : Int)] 107), acc 3 1 v n cs] ∧ (Chk intE 1 G cs xs ∧ n = xs.length ∧ k ≤ 32 ∧ xs.length = k ∧ pp ≤ p + 10 + 2 * k) ∧ m = (33 - k)) (h0 := ⟨_, _, _, [], 0, p29, _, Z, PLe.refl _, H, ?inv, Z⟩) (round := ?round)
 case inv => exact ⟨(Chk.nil (E := intE) (sz := 1) (G := G29)),  by first | rfl | simp | (simp; omega) | omega, (by exact ⟨by omega, rfl, by omega⟩)⟩
 case round =>
  rintro _ _ _ ⟨v, n, cs, xs, k, pp, _, rfl, hle30, H, hinv30, rfl⟩
  have hbs := hbs.up hle30
  obtain ⟨hchk30_0, _, hinv30⟩ := hinv30
  obtain ⟨_, _, rfl⟩ := H.accShape (k := 1) rfl
  obtain ⟨hk, hxl, hpp⟩ := hinv30
  refine W_seq (q2 (pe 3 Z (q3 ?_)))
  refine W_cond Z ?_ ?_
  ·intro hc31
   try simp only [nrm] at hc31
   refine W_skip (N_K (W_seq (W_block (W_region (pe 3 Z (o_quo Z Z Z oM oM oM (mV Z (xc Z2 (pick_c _ _ H.sub _ _ _ _ _ _ hbs (H.blkIs (k := 0) Z).1 (H.blkIs (k := 0) Z).2 oM _ oO ) ?_))))))))
   rintro _ _ ⟨_, _, _, rfl, H32', ⟨_, x32, _, rfl, _, rfl⟩⟩
   have hbs := hbs.up H32'.le
   have hchk30_0 := hchk30_0.up H32'.le
   have hle30 := hle30.trans H32'.le
   have H := H.borrow (k := 0) rfl H32'
   refine ⟨_, Z, ?_⟩
   have hma32 : 0 ≤ ((k : Int) / 8) * (x32 : Int) := Int.mul_nonneg oM oM
   have hmb32 : ((k : Int) / 8) * (x32 : Int) ≤ 4 * (x32 : Int) := Int.mul_le_mul_of_nonneg_right oM oM
   refine o_mul Z Z Z oO (aD Z2 (mV Z (xc Z2 (pick_c _ _ H.sub _ _ _ _ _ _ hbs (H.blkIs (k := 0) Z).1 (H.blkIs (k := 0) Z).2 oM _ oO ) ?_)))
   rintro _ _ ⟨_, _, _, rfl, H35', ⟨p35, x35, _, rfl, _, rfl⟩⟩
   have hchk30_0 := hchk30_0.up H35'.le
   have hle30 := hle30.trans H35'.le
   have H := H.borrow (k := 0) rfl H35'
   refine ⟨_, Z, ?_⟩
   have hma35 : 0 ≤ ((k : Int) / 8) * (x35 : Int) := Int.mul_nonneg oM oM
   have hmb35 : ((k : Int) / 8) * (x35 : Int) ≤ 4 * (x35 : Int) := Int.mul_le_mul_of_nonneg_right oM oM
   refine o_quo Z Z Z oM oM oM (aD Z2 (xbs H Z7 ?_)); intro _ _ _ H
   refine o_append1 1 H (sz := 1) (bytes := 8) underlying38 typeInfo3 ⟨_, Z, Z⟩ Z Z Z Z Z Z Z Z Z Z oM Z ?_; intro _ _ H
   have hchk38 := hchk30_0.snoc (show intE _ ((x29 : Int) + ((k : Int) / 8) * (x32 : Int) + (x35 : Int) / 5) _ from ⟨rfl, oO⟩) rfl
   obtain ⟨_, _, rfl⟩ := H.accShape (k := 1) rfl
   refine aG Z (R_nil (N_B (N_K (W_region (mV Z (aD Z2 (aG Z (R_nil ?_))))))))
   refine N_lp (hJ := ⟨_, _, _, (xs ++ [((x29 : Int) + ((k : Int) / 8) * (x32 : Int) + (x35 : Int) / 5)]), k + 1, p35, _, Z, hle30, H, ?inv, Z⟩) (hm := ?hm)
   case hm => omega
   case inv => exact ⟨hchk38, aN, (by exact ⟨by omega, by simp [hxl], by omega⟩)⟩
  intro hc31'
  try simp only [nrm] at hc31'
  refine W_exit (N_K_exit (N_LP_exit (N_B_same (N_K (W_seq (q2 (mV Z (xc Z2 (pick_c _ _ H.sub _ _ _ _ _ _ hbs (H.blkIs (k := 0) Z).1 (H.blkIs (k := 0) Z).2 oM _ oO ) ?_))))))))
  rintro _ _ ⟨G40, _, _, rfl, H40', ⟨_, x40, _, rfl, _, rfl⟩⟩
  have hbs := hbs.up H40'.le
  have hchk30_0 := hchk30_0.up H40'.le
  have H := H.borrow (k := 0) rfl H40'
  refine ⟨_, Z, ?_⟩
  have hma40 : 0 ≤ ((k : Int) / 8) * (x40 : Int) := Int.mul_nonneg oM oM
  have hmb40 : ((k : Int) / 8) * (x40 : Int) ≤ 4 * (x40 : Int) := Int.mul_le_mul_of_nonneg_right oM oM
  refine q3 (W_block (q2 (pe 2 Z (q3 ?_))))
  refine W_cond Z ?_ ?_
  ·intro hc41
   try simp only [nrm] at hc41
   refine q2 (pe 2 Z (q3 ?_))
   refine W_cond Z ?_ ?_
   ·intro hc42
    try simp only [nrm] at hc42
    refine W_region (pe 3 Z (xc Z2 (pick_c _ _ H.sub _ _ _ _ _ _ hbs (H.blkIs (k := 0) Z).1 (H.blkIs (k := 0) Z).2 oM _ oO ) ?_))
    rintro _ _ ⟨_, _, _, rfl, H43', ⟨_, x43, _, rfl, _, rfl⟩⟩
    have hchk30_0 := hchk30_0.up H43'.le
    have H := H.borrow (k := 0) rfl H43'
    refine ⟨_, Z, ?_⟩
    have hma43 : 0 ≤ ((k : Int) / 8) * (x43 : Int) := Int.mul_nonneg oM oM
    have hmb43 : ((k : Int) / 8) * (x43 : Int) ≤ 4 * (x43 : Int) := Int.mul_le_mul_of_nonneg_right oM oM
    refine o_index_A 1 H x43 Z hchk30_0 underlying38 sizeOf3 Z Z Z Z aN aN ?_; intro _ _ _ hba44 hz44 hE44 _; cases hba44
    obtain ⟨rfl, _⟩ := hE44
    have hcl45 := hchk30_0.length
    refine o_store_A 1 H sizeOf3 Z Z Z Z Z (by simp only [vc, List.length_cons, List.length_nil]; omega) ?_; intro _ H
    have hchk45 := hchk30_0.put (x' := 256) (off := 0) (vs := [_]) hz44 (fun cs hl hE => by obtain ⟨rfl, _⟩ := hE; exact ⟨rfl, oO⟩) (by simp only [vc, List.length_cons, List.length_nil]; omega)
    refine R_nil (N_B (N_K (q2 (pe 2 Z (q3 (W_ret (rt1 results101 Z ?_)))))))
    have H := H.tF 1
    have hcx := hchk45
    exact H.retM ⟨_, (xs.set x43 256), _, _, oM, rfl, hcx, (by first | (simp; done) | (simp; omega) | (simp at *; omega) | omega), acc_1 aN⟩
   intro hc42'
   try simp only [nrm] at hc42'
   refine W_skip (N_B (N_K (q2 (pe 2 Z (q3 (W_ret (rt1 results101 Z ?_)))))))
   have H := H.tF 1
   have hcx := hchk30_0
   exact H.retM ⟨_, xs, _, _, oM, rfl, hcx, (by first | (simp; done) | (simp; omega) | (simp at *; omega) | omega), acc_1 aN⟩
  intro hc41'
  try simp only [nrm] at hc41'
  refine q2 (pe 2 Z (q3 ?_))
  refine W_cond Z ?_ ?_
  ·intro hc46
   try simp only [nrm] at hc46
   refine q2 (o_makeN (c := 33) (sz := 1) (bytes := 8) H underlying38 typeInfo3 ⟨_, Z, Z⟩ Z Z Z Z Z Z Z Z Z oM Z ?_); intro _ _ H
   have hchk47 := Chk.rep (E := intE) (sz := 1) (G := G40) (x0 := 0) (⟨rfl, by decide⟩) rfl (33)
   refine aG Z (q3 (W_ret (N_B_ret (N_K_ret (rt1 results101 Z ?_)))))
   have H := H.dl 2
   have H := H.tF 1
   have H := H.tF 1
   have hcx := hchk47
   exact H.retM ⟨_, (List.replicate (33) 0), _, _, oM, rfl, hcx, (by first | (simp; done) | (simp; omega) | (simp at *; omega) | omega), acc_1 aN⟩
  intro hc46'
  try simp only [nrm] at hc46'
  refine W_skip (N_B (N_K (q2 (pe 2 Z (q3 (W_ret (rt1 results101 Z ?_)))))))
  have H := H.tF 1
  have hcx := hchk30_0
  exact H.retM ⟨_, xs, _, _, oM, rfl, hcx, (by first | (simp; done) | (simp; omega) | (simp at *; omega) | omega), acc_1 aN⟩
end Go.Proofs.Tst

namespace Go.Proofs.Tst
open Go Fw Tryz
theorem l91Step_c (w0 : World) (G0 : PH) (hG : PSub G0 w0) (rb : Nat) (ab : Option Addr) (mb kb : Nat) (bs : List UInt8) (p : Nat) (hbs : RdU G0 (.slice ab mb kb) bs) (hrb : w0.heap[rb]? = some (cl [.slice ab mb kb, .int .i64 (p : Int)] 107)) (hrn : G0 rb = none) (hp : p ≤ 100000000) (cu : List Value) (u : BVol) (hu : volE G0 u cu)  :
  Calls Tryz.prog 98 #[.pointer (some ⟨rb, 0, none⟩), .agg cu.toArray] w0 (RetM w0 G0 [rb] (fun G val Bs => ∃ (p' : Nat) (v1 v2 : Value) (st : List BHeld) (tr : List BItem) (b : Bool) (c : List Value), p' ≤ p + 200 ∧ val = .tuple #[.agg #[v1, v2], .bool b] ∧ Chk heldE 3 G c st ∧ st.length ≤ 16 ∧ RdItems G v2 tr ∧ Bs = [acc 42 3 v1 st.length c, blk rb (cl [.slice ab mb kb, .int .i64 (p' : Int)] 107)])) := by
 have hlimbs : bs.length ≤ 1099511627776 := hbs.lim; obtain rfl : mb = bs.length := hbs.len
 obtain ⟨_, _, _, _, _, _, rfl, hr1, hr1', ⟨_, _⟩, _, _⟩ := ox hu
 have H := Hp.initM hG hrb hrn
 refine calls_of_W (l := [.pointer (some ⟨rb, 0, none⟩), _]) func98 Z ntmps98 Z (q2 (o_box H Z Z Z ?_)); intro _ _ _ H
 refine xal H Z ?_; intro _ _ _ H
 refine aG Z (q3 (W_seq (q2 (mV Z (xc Z2 (pick_c _ _ H.sub _ _ _ _ _ _ hbs (H.blkIs (k := 2) Z).1 (H.blkIs (k := 2) Z).2 oM _ oO ) ?_)))))
 rintro _ _ ⟨G4, _, _, rfl, H4', ⟨_, _, _, rfl, _, rfl⟩⟩
 have hbs := hbs.up H4'.le
 have hr1 := hr1.up H4'.le
 have hr1' := hr1'.up H4'.le
 have H := H.borrow (k := 2) rfl H4'
 refine ⟨_, Z, ?_⟩
 refine q3 (W_block (W_seq (q2 (pe 2 Z (q3 ?_)))))
 refine W_cond Z ?_ ?_
 ·intro hc5
  try simp only [nrm] at hc5
  refine W_skip (N_K ?_)
  refine W_cond Z ?_ ?_
  ·intro hc6
   try simp only [nrm] at hc6
   refine W_seq (W_drawK [2] 9 H kR Z ?_); intro _ H; have hd7 := PLe.refl G4
   refine RD_t 0 Z kR Z (fun _ hK => v_loadagg_B 0 hK isAgg103 sizeOf103 Z Z Z Z) (dE 1 Z2 (r1 2 Z (xbs H Z7 ?_))); intro _ _ _ H
   refine q4 H hd7 (r1 3 Z ?_)
   have H := H.blkAcc 1 (k := 0) (n := 3) rfl rfl (by decide)
   have hchk10 := ((((Chk.nil (E := strE) (sz := 1) (G := G4)).snoc (show strE _ ([97] : Fw.Bs) [str [97]] from ⟨rfl, by decide⟩) rfl).snoc (show strE _ ([98] : Fw.Bs) [str [98]] from ⟨rfl, by decide⟩) rfl).snoc (show strE _ ([97, 47, 120] : Fw.Bs) [str [97, 47, 120]] from ⟨rfl, by decide⟩) rfl)
   obtain ⟨_, H, hsg11, hsr11⟩ := H.shutM (k := 0) (j := 0) rfl rfl hchk10 aN aN
   have hbs := hbs.up hsg11
   have hr1 := hr1.up hsg11
   have hr1' := hr1'.up hsg11
   have hd7 := hd7.trans hsg11
   refine xc Z2 (of_c _ _ H.sub _ _ _ _ _ _ hbs (H.blkIs (k := 0) Z).1 (H.blkIs (k := 0) Z).2 oM _ _ hsr11 (by first | decide | (simp; done) | (simp; omega))) ?_
   rintro _ _ ⟨_, _, _, rfl, H9', ⟨_, _, _, rfl, hxs9, rfl⟩⟩
   have hr1 := hr1.up H9'.le
   have hr1' := hr1'.up H9'.le
   have hd7 := hd7.trans H9'.le
   have H := H.borrow (k := 0) rfl H9'
   refine ⟨_, Z, ?_⟩
   refine q4 H hd7 (r1 4 Z (xc Z2 (VolumeDir_c _ _ H.sub _ u ⟨_, _, _, _, _, _, Z, hr1, hr1'⟩ _ hxs9 ) ?_))
   rintro _ _ ⟨_, _, _, g12, rfl, ⟨_, _, rfl, ⟨_, rfl, hchk12⟩, hr12_1⟩, hp12, hq12, hs12⟩
   have H := H.growO g12 hp12 hq12 hs12; obtain ⟨_, _, rfl⟩ := H.accShape (k := 0) rfl
   have hd7 := hd7.trans g12.le
   obtain ⟨_, _, rfl⟩ := hr12_1.shape; have hx_hr12_1 : _ ≤ 1099511627776 := hr12_1.lim
   refine ⟨_, Z, ?_⟩
   refine q4 H hd7 (dE 5 Z2 (dE 6 Z2 (r1 7 Z (xst 2 H Z8 ?_)))); intro _ H
   refine q4 H hd7 (dE 8 Z2 (rz (N_K (W_ret (N_B_ret (N_K_ret (ret_gen (rs := [.cell 4 103, .tmp 5]) (vs := [_, _]) results98 ⟨⟨_, Z, load_blk 2 H isAgg103 sizeOf103 Z Z Z⟩, Z, trivial⟩ ?_)))))))
   have H := H.dl 2
   have H := H.dl 2
   have H := H.tF 1
   have H := H.tF 1
   exact H.retM ⟨_, _, _, _, _, _, _, oM, Z, hchk12, Sp.vol_len (fun u2 h2 => Sp.dir_valid h2), hr12_1, acc_1 Z⟩
  intro hc6'
  try simp only [nrm] at hc6'
  refine q2 (pe 2 Z (q3 ?_))
  refine W_cond Z ?_ ?_
  ·intro hc14
   try simp only [nrm] at hc14
   refine W_seq (W_drawK [2] 8 H kR Z ?_); intro _ H; have hd15 := PLe.refl G4
   refine RD_t 0 Z kR Z (fun _ hK => v_loadagg_B 0 hK isAgg103 sizeOf103 Z Z Z Z) (dE 1 Z2 (r1 2 Z (xc Z2 (l91Path_c _ _ H.sub _ _ _ _ _ _ hbs (H.blkIs (k := 0) Z).1 (H.blkIs (k := 0) Z).2 oM ) ?_)))
   rintro _ _ ⟨_, _, _, rfl, H16', ⟨_, _, _, rfl, hxs16, rfl⟩⟩
   have hr1 := hr1.up H16'.le
   have hr1' := hr1'.up H16'.le
   have hd15 := hd15.trans H16'.le
   have H := H.borrow (k := 0) rfl H16'
   refine ⟨_, Z, ?_⟩
   refine q4 H hd15 (r1 3 Z (xc Z2 (VolumeDrop_c _ _ H.sub _ u ⟨_, _, _, _, _, _, Z, hr1, hr1'⟩ _ hxs16 ) ?_))
   rintro _ _ ⟨_, _, _, g17, rfl, ⟨_, _, rfl, ⟨_, rfl, hchk17⟩, hr17_1⟩, hp17, hq17, hs17⟩
   have H := H.growO g17 hp17 hq17 hs17; obtain ⟨_, _, rfl⟩ := H.accShape (k := 0) rfl
   have hd15 := hd15.trans g17.le
   obtain ⟨_, _, rfl⟩ := hr17_1.shape; have hx_hr17_1 : _ ≤ 1099511627776 := hr17_1.lim
   refine ⟨_, Z, ?_⟩
   refine q4 H hd15 (dE 4 Z2 (dE 5 Z2 (r1 6 Z (xst 2 H Z8 ?_)))); intro _ H
   refine q4 H hd15 (dE 7 Z2 (rz (N_K (W_ret (N_B_ret (N_K_ret (ret_gen (rs := [.cell 4 103, .tmp 5]) (vs := [_, _]) results98 ⟨⟨_, Z, load_blk 2 H isAgg103 sizeOf103 Z Z Z⟩, Z, trivial⟩ ?_)))))))
   have H := H.dl 2
   have H := H.dl 2
   have H := H.tF 1
   have H := H.tF 1
   exact H.retM ⟨_, _, _, _, _, _, _, oM, Z, hchk17, Sp.vol_len (fun u2 h2 => Sp.drop_valid h2), hr17_1, acc_1 Z⟩
  intro hc14'
  try simp only [nrm] at hc14'
  refine W_skip (N_B (N_K (q2 (mV Z (xbs H Z7 ?_))))); intro _ _ _ H
  have H := H.blkAcc 1 (k := 0) (n := 5) rfl rfl (by decide)
  have hchk21 := ((((((Chk.nil (E := strE) (sz := 1) (G := G4)).snoc (show strE _ ([99] : Fw.Bs) [str [99]] from ⟨rfl, by decide⟩) rfl).snoc (show strE _ ([97, 47, 121] : Fw.Bs) [str [97, 47, 121]] from ⟨rfl, by decide⟩) rfl).snoc (show strE _ ([98, 47, 120] : Fw.Bs) [str [98, 47, 120]] from ⟨rfl, by decide⟩) rfl).snoc (show strE _ ([97, 47, 120, 47, 112] : Fw.Bs) [str [97, 47, 120, 47, 112]] from ⟨rfl, by decide⟩) rfl).snoc (show strE _ ([100] : Fw.Bs) [str [100]] from ⟨rfl, by decide⟩) rfl)
  obtain ⟨_, H, hsg22, hsr22⟩ := H.shutM (k := 0) (j := 0) rfl rfl hchk21 aN aN
  have hbs := hbs.up hsg22
  have hr1 := hr1.up hsg22
  have hr1' := hr1'.up hsg22
  refine xc Z2 (of_c _ _ H.sub _ _ _ _ _ _ hbs (H.blkIs (k := 0) Z).1 (H.blkIs (k := 0) Z).2 oM _ _ hsr22 (by first | decide | (simp; done) | (simp; omega))) ?_
  rintro _ _ ⟨G20, _, _, rfl, H20', ⟨_, _, _, rfl, hxs20, rfl⟩⟩
  have hbs := hbs.up H20'.le
  have hr1 := hr1.up H20'.le
  have hr1' := hr1'.up H20'.le
  have H := H.borrow (k := 0) rfl H20'
  refine ⟨_, Z, ?_⟩
  refine aG Z (q3 (W_seq (W_drawK [2] 9 H kR Z ?_))); intro _ H; have hd23 := PLe.refl G20
  refine RD_t 0 Z kR Z (fun _ hK => v_loadagg_B 0 hK isAgg103 sizeOf103 Z Z Z Z) (dE 1 Z2 (dE 2 Z2 (r1 3 Z (xc Z2 (l91File_c _ _ H.sub _ _ _ _ _ _ hbs (H.blkIs (k := 0) Z).1 (H.blkIs (k := 0) Z).2 oM ) ?_))))
  rintro _ _ ⟨_, _, _, rfl, H24', ⟨_, _, _, _, _, rfl, hchk24, _, rfl⟩⟩
  have hr1 := hr1.up H24'.le
  have hr1' := hr1'.up H24'.le
  have hd23 := hd23.trans H24'.le
  have H := H.borrow (k := 0) rfl H24'
  obtain ⟨_, _, rfl⟩ := H.accShape (k := 0) rfl
  refine ⟨_, Z, ?_⟩
  refine q4 H hd23 (r1 4 Z ?_)
  obtain ⟨_, H, hsg26, hsr26⟩ := H.shutM (k := 0) (j := 0) rfl rfl hchk24 aN aN
  have hr1 := hr1.up hsg26
  have hr1' := hr1'.up hsg26
  have hd23 := hd23.trans hsg26
  refine xc Z2 (VolumeWrite_c _ _ H.sub _ u ⟨_, _, _, _, _, _, Z, hr1, hr1'⟩ _ hxs20 _ _ hsr26 ) ?_
  rintro _ _ ⟨_, _, _, g25, rfl, ⟨_, _, rfl, ⟨_, rfl, hchk25⟩, hr25_1⟩, hp25, hq25, hs25⟩
  have H := H.growO g25 hp25 hq25 hs25; obtain ⟨_, _, rfl⟩ := H.accShape (k := 0) rfl
  have hd23 := hd23.trans g25.le
  obtain ⟨_, _, rfl⟩ := hr25_1.shape; have hx_hr25_1 : _ ≤ 1099511627776 := hr25_1.lim
  refine ⟨_, Z, ?_⟩
  refine q4 H hd23 (dE 5 Z2 (dE 6 Z2 (r1 7 Z (xst 2 H Z8 ?_)))); intro _ H
  refine q4 H hd23 (dE 8 Z2 (rz (N_K (W_ret (ret_gen (rs := [.cell 4 103, .tmp 5]) (vs := [_, _]) results98 ⟨⟨_, Z, load_blk 2 H isAgg103 sizeOf103 Z Z Z⟩, Z, trivial⟩ ?_)))))
  have H := H.dl 2
  have H := H.dl 2
  have H := H.tF 1
  have H := H.tF 1
  exact H.retM ⟨_, _, _, _, _, _, _, oM, Z, hchk25, Sp.vol_len (fun u2 h2 => Sp.vwrite_valid h2), hr25_1, acc_1 Z⟩
 intro hc5'
 try simp only [nrm] at hc5'
 refine q2 (pe 2 Z (q3 ?_))
 refine W_cond Z ?_ ?_
 ·intro hc28
  try simp only [nrm] at hc28
  refine W_skip (N_K ?_)
  refine W_cond Z ?_ ?_
  ·intro hc29
   try simp only [nrm] at hc29
   refine W_seq (W_drawK [2] 9 H kR Z ?_); intro _ H; have hd30 := PLe.refl G4
   refine RD_t 0 Z kR Z (fun _ hK => v_loadagg_B 0 hK isAgg103 sizeOf103 Z Z Z Z) (dE 1 Z2 (r1 2 Z (xbs H Z7 ?_))); intro _ _ _ H
   refine q4 H hd30 (r1 3 Z ?_)
   have H := H.blkAcc 1 (k := 0) (n := 3) rfl rfl (by decide)
   have hchk33 := ((((Chk.nil (E := strE) (sz := 1) (G := G4)).snoc (show strE _ ([97] : Fw.Bs) [str [97]] from ⟨rfl, by decide⟩) rfl).snoc (show strE _ ([98] : Fw.Bs) [str [98]] from ⟨rfl, by decide⟩) rfl).snoc (show strE _ ([97, 47, 120] : Fw.Bs) [str [97, 47, 120]] from ⟨rfl, by decide⟩) rfl)
   obtain ⟨_, H, hsg34, hsr34⟩ := H.shutM (k := 0) (j := 0) rfl rfl hchk33 aN aN
   have hbs := hbs.up hsg34
   have hr1 := hr1.up hsg34
   have hr1' := hr1'.up hsg34
   have hd30 := hd30.trans hsg34
   refine xc Z2 (of_c _ _ H.sub _ _ _ _ _ _ hbs (H.blkIs (k := 0) Z).1 (H.blkIs (k := 0) Z).2 oM _ _ hsr34 (by first | decide | (simp; done) | (simp; omega))) ?_
   rintro _ _ ⟨_, _, _, rfl, H32', ⟨_, _, _, rfl, hxs32, rfl⟩⟩
   have hr1 := hr1.up H32'.le
   have hr1' := hr1'.up H32'.le
   have hd30 := hd30.trans H32'.le
   have H := H.borrow (k := 0) rfl H32'
   refine ⟨_, Z, ?_⟩
   refine q4 H hd30 (r1 4 Z (xc Z2 (VolumeDir_c _ _ H.sub _ u ⟨_, _, _, _, _, _, Z, hr1, hr1'⟩ _ hxs32 ) ?_))
   rintro _ _ ⟨_, _, _, g35, rfl, ⟨_, _, rfl, ⟨_, rfl, hchk35⟩, hr35_1⟩, hp35, hq35, hs35⟩
   have H := H.growO g35 hp35 hq35 hs35; obtain ⟨_, _, rfl⟩ := H.accShape (k := 0) rfl
   have hd30 := hd30.trans g35.le
   obtain ⟨_, _, rfl⟩ := hr35_1.shape; have hx_hr35_1 : _ ≤ 1099511627776 := hr35_1.lim
   refine ⟨_, Z, ?_⟩
   refine q4 H hd30 (dE 5 Z2 (dE 6 Z2 (r1 7 Z (xst 2 H Z8 ?_)))); intro _ H
   refine q4 H hd30 (dE 8 Z2 (rz (N_K (W_ret (N_B_ret (N_K_ret (ret_gen (rs := [.cell 4 103, .tmp 5]) (vs := [_, _]) results98 ⟨⟨_, Z, load_blk 2 H isAgg103 sizeOf103 Z Z Z⟩, Z, trivial⟩ ?_)))))))
   have H := H.dl 2
   have H := H.dl 2
   have H := H.tF 1
   have H := H.tF 1
   exact H.retM ⟨_, _, _, _, _, _, _, oM, Z, hchk35, Sp.vol_len (fun u2 h2 => Sp.dir_valid h2), hr35_1, acc_1 Z⟩
  intro hc29'
  try simp only [nrm] at hc29'
  refine q2 (pe 2 Z (q3 ?_))
  refine W_cond Z ?_ ?_
  ·intro hc37
   try simp only [nrm] at hc37
   refine W_seq (W_drawK [2] 8 H kR Z ?_); intro _ H; have hd38 := PLe.refl G4
   refine RD_t 0 Z kR Z (fun _ hK => v_loadagg_B 0 hK isAgg103 sizeOf103 Z Z Z Z) (dE 1 Z2 (r1 2 Z (xc Z2 (l91Path_c _ _ H.sub _ _ _ _ _ _ hbs (H.blkIs (k := 0) Z).1 (H.blkIs (k := 0) Z).2 oM ) ?_)))
   rintro _ _ ⟨_, _, _, rfl, H39', ⟨_, _, _, rfl, hxs39, rfl⟩⟩
   have hr1 := hr1.up H39'.le
   have hr1' := hr1'.up H39'.le
   have hd38 := hd38.trans H39'.le
   have H := H.borrow (k := 0) rfl H39'
   refine ⟨_, Z, ?_⟩
   refine q4 H hd38 (r1 3 Z (xc Z2 (VolumeDrop_c _ _ H.sub _ u ⟨_, _, _, _, _, _, Z, hr1, hr1'⟩ _ hxs39 ) ?_))
   rintro _ _ ⟨_, _, _, g40, rfl, ⟨_, _, rfl, ⟨_, rfl, hchk40⟩, hr40_1⟩, hp40, hq40, hs40⟩
   have H := H.growO g40 hp40 hq40 hs40; obtain ⟨_, _, rfl⟩ := H.accShape (k := 0) rfl
   have hd38 := hd38.trans g40.le
   obtain ⟨_, _, rfl⟩ := hr40_1.shape; have hx_hr40_1 : _ ≤ 1099511627776 := hr40_1.lim
   refine ⟨_, Z, ?_⟩
   refine q4 H hd38 (dE 4 Z2 (dE 5 Z2 (r1 6 Z (xst 2 H Z8 ?_)))); intro _ H
   refine q4 H hd38 (dE 7 Z2 (rz (N_K (W_ret (N_B_ret (N_K_ret (ret_gen (rs := [.cell 4 103, .tmp 5]) (vs := [_, _]) results98 ⟨⟨_, Z, load_blk 2 H isAgg103 sizeOf103 Z Z Z⟩, Z, trivial⟩ ?_)))))))
   have H := H.dl 2
   have H := H.dl 2
   have H := H.tF 1
   have H := H.tF 1
   exact H.retM ⟨_, _, _, _, _, _, _, oM, Z, hchk40, Sp.vol_len (fun u2 h2 => Sp.drop_valid h2), hr40_1, acc_1 Z⟩
  intro hc37'
  try simp only [nrm] at hc37'
  refine W_skip (N_B (N_K (q2 (mV Z (xbs H Z7 ?_))))); intro _ _ _ H
  have H := H.blkAcc 1 (k := 0) (n := 5) rfl rfl (by decide)
  have hchk44 := ((((((Chk.nil (E := strE) (sz := 1) (G := G4)).snoc (show strE _ ([99] : Fw.Bs) [str [99]] from ⟨rfl, by decide⟩) rfl).snoc (show strE _ ([97, 47, 121] : Fw.Bs) [str [97, 47, 121]] from ⟨rfl, by decide⟩) rfl).snoc (show strE _ ([98, 47, 120] : Fw.Bs) [str [98, 47, 120]] from ⟨rfl, by decide⟩) rfl).snoc (show strE _ ([97, 47, 120, 47, 112] : Fw.Bs) [str [97, 47, 120, 47, 112]] from ⟨rfl, by decide⟩) rfl).snoc (show strE _ ([100] : Fw.Bs) [str [100]] from ⟨rfl, by decide⟩) rfl)
  obtain ⟨_, H, hsg45, hsr45⟩ := H.shutM (k := 0) (j := 0) rfl rfl hchk44 aN aN
  have hbs := hbs.up hsg45
  have hr1 := hr1.up hsg45
  have hr1' := hr1'.up hsg45
  refine xc Z2 (of_c _ _ H.sub _ _ _ _ _ _ hbs (H.blkIs (k := 0) Z).1 (H.blkIs (k := 0) Z).2 oM _ _ hsr45 (by first | decide | (simp; done) | (simp; omega))) ?_
  rintro _ _ ⟨G43, _, _, rfl, H43', ⟨_, _, _, rfl, hxs43, rfl⟩⟩
  have hbs := hbs.up H43'.le
  have hr1 := hr1.up H43'.le
  have hr1' := hr1'.up H43'.le
  have H := H.borrow (k := 0) rfl H43'
  refine ⟨_, Z, ?_⟩
  refine aG Z (q3 (W_seq (W_drawK [2] 9 H kR Z ?_))); intro _ H; have hd46 := PLe.refl G43
  refine RD_t 0 Z kR Z (fun _ hK => v_loadagg_B 0 hK isAgg103 sizeOf103 Z Z Z Z) (dE 1 Z2 (dE 2 Z2 (r1 3 Z (xc Z2 (l91File_c _ _ H.sub _ _ _ _ _ _ hbs (H.blkIs (k := 0) Z).1 (H.blkIs (k := 0) Z).2 oM ) ?_))))
  rintro _ _ ⟨_, _, _, rfl, H47', ⟨_, _, _, _, _, rfl, hchk47, _, rfl⟩⟩
  have hr1 := hr1.up H47'.le
  have hr1' := hr1'.up H47'.le
  have hd46 := hd46.trans H47'.le
  have H := H.borrow (k := 0) rfl H47'
  obtain ⟨_, _, rfl⟩ := H.accShape (k := 0) rfl
  refine ⟨_, Z, ?_⟩
  refine q4 H hd46 (r1 4 Z ?_)
  obtain ⟨_, H, hsg49, hsr49⟩ := H.shutM (k := 0) (j := 0) rfl rfl hchk47 aN aN
  have hr1 := hr1.up hsg49
  have hr1' := hr1'.up hsg49
  have hd46 := hd46.trans hsg49
  refine xc Z2 (VolumeWrite_c _ _ H.sub _ u ⟨_, _, _, _, _, _, Z, hr1, hr1'⟩ _ hxs43 _ _ hsr49 ) ?_
  rintro _ _ ⟨_, _, _, g48, rfl, ⟨_, _, rfl, ⟨_, rfl, hchk48⟩, hr48_1⟩, hp48, hq48, hs48⟩
  have H := H.growO g48 hp48 hq48 hs48; obtain ⟨_, _, rfl⟩ := H.accShape (k := 0) rfl
  have hd46 := hd46.trans g48.le
  obtain ⟨_, _, rfl⟩ := hr48_1.shape; have hx_hr48_1 : _ ≤ 1099511627776 := hr48_1.lim
  refine ⟨_, Z, ?_⟩
  refine q4 H hd46 (dE 5 Z2 (dE 6 Z2 (r1 7 Z (xst 2 H Z8 ?_)))); intro _ H
  refine q4 H hd46 (dE 8 Z2 (rz (N_K (W_ret (ret_gen (rs := [.cell 4 103, .tmp 5]) (vs := [_, _]) results98 ⟨⟨_, Z, load_blk 2 H isAgg103 sizeOf103 Z Z Z⟩, Z, trivial⟩ ?_)))))
  have H := H.dl 2
  have H := H.dl 2
  have H := H.tF 1
  have H := H.tF 1
  exact H.retM ⟨_, _, _, _, _, _, _, oM, Z, hchk48, Sp.vol_len (fun u2 h2 => Sp.vwrite_valid h2), hr48_1, acc_1 Z⟩
 intro hc28'
 try simp only [nrm] at hc28'
 refine W_region (pe 2 Z (q3 ?_))
 refine W_cond Z ?_ ?_
 ·intro hc51
  try simp only [nrm] at hc51
  refine W_seq (W_drawK [2] 9 H kR Z ?_); intro _ H; have hd52 := PLe.refl G4
  refine RD_t 0 Z kR Z (fun _ hK => v_loadagg_B 0 hK isAgg103 sizeOf103 Z Z Z Z) (dE 1 Z2 (r1 2 Z (xbs H Z7 ?_))); intro _ _ _ H
  refine q4 H hd52 (r1 3 Z ?_)
  have H := H.blkAcc 1 (k := 0) (n := 3) rfl rfl (by decide)
  have hchk55 := ((((Chk.nil (E := strE) (sz := 1) (G := G4)).snoc (show strE _ ([97] : Fw.Bs) [str [97]] from ⟨rfl, by decide⟩) rfl).snoc (show strE _ ([98] : Fw.Bs) [str [98]] from ⟨rfl, by decide⟩) rfl).snoc (show strE _ ([97, 47, 120] : Fw.Bs) [str [97, 47, 120]] from ⟨rfl, by decide⟩) rfl)
  obtain ⟨_, H, hsg56, hsr56⟩ := H.shutM (k := 0) (j := 0) rfl rfl hchk55 aN aN
  have hbs := hbs.up hsg56
  have hr1 := hr1.up hsg56
  have hr1' := hr1'.up hsg56
  have hd52 := hd52.trans hsg56
  refine xc Z2 (of_c _ _ H.sub _ _ _ _ _ _ hbs (H.blkIs (k := 0) Z).1 (H.blkIs (k := 0) Z).2 oM _ _ hsr56 (by first | decide | (simp; done) | (simp; omega))) ?_
  rintro _ _ ⟨_, _, _, rfl, H54', ⟨_, _, _, rfl, hxs54, rfl⟩⟩
  have hr1 := hr1.up H54'.le
  have hr1' := hr1'.up H54'.le
  have hd52 := hd52.trans H54'.le
  have H := H.borrow (k := 0) rfl H54'
  refine ⟨_, Z, ?_⟩
  refine q4 H hd52 (r1 4 Z (xc Z2 (VolumeDir_c _ _ H.sub _ u ⟨_, _, _, _, _, _, Z, hr1, hr1'⟩ _ hxs54 ) ?_))
  rintro _ _ ⟨_, _, _, g57, rfl, ⟨_, _, rfl, ⟨_, rfl, hchk57⟩, hr57_1⟩, hp57, hq57, hs57⟩
  have H := H.growO g57 hp57 hq57 hs57; obtain ⟨_, _, rfl⟩ := H.accShape (k := 0) rfl
  have hd52 := hd52.trans g57.le
  obtain ⟨_, _, rfl⟩ := hr57_1.shape; have hx_hr57_1 : _ ≤ 1099511627776 := hr57_1.lim
  refine ⟨_, Z, ?_⟩
  refine q4 H hd52 (dE 5 Z2 (dE 6 Z2 (r1 7 Z (xst 2 H Z8 ?_)))); intro _ H
  refine q4 H hd52 (dE 8 Z2 (rz (N_K (W_ret (N_B_ret (N_K_ret (ret_gen (rs := [.cell 4 103, .tmp 5]) (vs := [_, _]) results98 ⟨⟨_, Z, load_blk 2 H isAgg103 sizeOf103 Z Z Z⟩, Z, trivial⟩ ?_)))))))
  have H := H.dl 2
  have H := H.dl 2
  have H := H.tF 1
  have H := H.tF 1
  exact H.retM ⟨_, _, _, _, _, _, _, oM, Z, hchk57, Sp.vol_len (fun u2 h2 => Sp.dir_valid h2), hr57_1, acc_1 Z⟩
 intro hc51'
 try simp only [nrm] at hc51'
 refine q2 (pe 2 Z (q3 ?_))
 refine W_cond Z ?_ ?_
 ·intro hc59
  try simp only [nrm] at hc59
  refine W_seq (W_drawK [2] 8 H kR Z ?_); intro _ H; have hd60 := PLe.refl G4
  refine RD_t 0 Z kR Z (fun _ hK => v_loadagg_B 0 hK isAgg103 sizeOf103 Z Z Z Z) (dE 1 Z2 (r1 2 Z (xc Z2 (l91Path_c _ _ H.sub _ _ _ _ _ _ hbs (H.blkIs (k := 0) Z).1 (H.blkIs (k := 0) Z).2 oM ) ?_)))
  rintro _ _ ⟨_, _, _, rfl, H61', ⟨_, _, _, rfl, hxs61, rfl⟩⟩
  have hr1 := hr1.up H61'.le
  have hr1' := hr1'.up H61'.le
  have hd60 := hd60.trans H61'.le
  have H := H.borrow (k := 0) rfl H61'
  refine ⟨_, Z, ?_⟩
  refine q4 H hd60 (r1 3 Z (xc Z2 (VolumeDrop_c _ _ H.sub _ u ⟨_, _, _, _, _, _, Z, hr1, hr1'⟩ _ hxs61 ) ?_))
  rintro _ _ ⟨_, _, _, g62, rfl, ⟨_, _, rfl, ⟨_, rfl, hchk62⟩, hr62_1⟩, hp62, hq62, hs62⟩
  have H := H.growO g62 hp62 hq62 hs62; obtain ⟨_, _, rfl⟩ := H.accShape (k := 0) rfl
  have hd60 := hd60.trans g62.le
  obtain ⟨_, _, rfl⟩ := hr62_1.shape; have hx_hr62_1 : _ ≤ 1099511627776 := hr62_1.lim
  refine ⟨_, Z, ?_⟩
  refine q4 H hd60 (dE 4 Z2 (dE 5 Z2 (r1 6 Z (xst 2 H Z8 ?_)))); intro _ H
  refine q4 H hd60 (dE 7 Z2 (rz (N_K (W_ret (N_B_ret (N_K_ret (ret_gen (rs := [.cell 4 103, .tmp 5]) (vs := [_, _]) results98 ⟨⟨_, Z, load_blk 2 H isAgg103 sizeOf103 Z Z Z⟩, Z, trivial⟩ ?_)))))))
  have H := H.dl 2
  have H := H.dl 2
  have H := H.tF 1
  have H := H.tF 1
  exact H.retM ⟨_, _, _, _, _, _, _, oM, Z, hchk62, Sp.vol_len (fun u2 h2 => Sp.drop_valid h2), hr62_1, acc_1 Z⟩
 intro hc59'
 try simp only [nrm] at hc59'
 refine W_skip (N_B (N_K (q2 (mV Z (xbs H Z7 ?_))))); intro _ _ _ H
 have H := H.blkAcc 1 (k := 0) (n := 5) rfl rfl (by decide)
 have hchk66 := ((((((Chk.nil (E := strE) (sz := 1) (G := G4)).snoc (show strE _ ([99] : Fw.Bs) [str [99]] from ⟨rfl, by decide⟩) rfl).snoc (show strE _ ([97, 47, 121] : Fw.Bs) [str [97, 47, 121]] from ⟨rfl, by decide⟩) rfl).snoc (show strE _ ([98, 47, 120] : Fw.Bs) [str [98, 47, 120]] from ⟨rfl, by decide⟩) rfl).snoc (show strE _ ([97, 47, 120, 47, 112] : Fw.Bs) [str [97, 47, 120, 47, 112]] from ⟨rfl, by decide⟩) rfl).snoc (show strE _ ([100] : Fw.Bs) [str [100]] from ⟨rfl, by decide⟩) rfl)
 obtain ⟨_, H, hsg67, hsr67⟩ := H.shutM (k := 0) (j := 0) rfl rfl hchk66 aN aN
 have hbs := hbs.up hsg67
 have hr1 := hr1.up hsg67
 have hr1' := hr1'.up hsg67
 refine xc Z2 (of_c _ _ H.sub _ _ _ _ _ _ hbs (H.blkIs (k := 0) Z).1 (H.blkIs (k := 0) Z).2 oM _ _ hsr67 (by first | decide | (simp; done) | (simp; omega))) ?_
 rintro _ _ ⟨G65, _, _, rfl, H65', ⟨_, _, _, rfl, hxs65, rfl⟩⟩
 have hbs := hbs.up H65'.le
 have hr1 := hr1.up H65'.le
 have hr1' := hr1'.up H65'.le
 have H := H.borrow (k := 0) rfl H65'
 refine ⟨_, Z, ?_⟩
 refine aG Z (q3 (W_seq (W_drawK [2] 9 H kR Z ?_))); intro _ H; have hd68 := PLe.refl G65
 refine RD_t 0 Z kR Z (fun _ hK => v_loadagg_B 0 hK isAgg103 sizeOf103 Z Z Z Z) (dE 1 Z2 (dE 2 Z2 (r1 3 Z (xc Z2 (l91File_c _ _ H.sub _ _ _ _ _ _ hbs (H.blkIs (k := 0) Z).1 (H.blkIs (k := 0) Z).2 oM ) ?_))))
 rintro _ _ ⟨_, _, _, rfl, H69', ⟨_, _, _, _, _, rfl, hchk69, _, rfl⟩⟩
 have hr1 := hr1.up H69'.le
 have hr1' := hr1'.up H69'.le
 have hd68 := hd68.trans H69'.le
 have H := H.borrow (k := 0) rfl H69'
 obtain ⟨_, _, rfl⟩ := H.accShape (k := 0) rfl
 refine ⟨_, Z, ?_⟩
 refine q4 H hd68 (r1 4 Z ?_)
 obtain ⟨_, H, hsg71, hsr71⟩ := H.shutM (k := 0) (j := 0) rfl rfl hchk69 aN aN
 have hr1 := hr1.up hsg71
 have hr1' := hr1'.up hsg71
 have hd68 := hd68.trans hsg71
 refine xc Z2 (VolumeWrite_c _ _ H.sub _ u ⟨_, _, _, _, _, _, Z, hr1, hr1'⟩ _ hxs65 _ _ hsr71 ) ?_
 rintro _ _ ⟨_, _, _, g70, rfl, ⟨_, _, rfl, ⟨_, rfl, hchk70⟩, hr70_1⟩, hp70, hq70, hs70⟩
 have H := H.growO g70 hp70 hq70 hs70; obtain ⟨_, _, rfl⟩ := H.accShape (k := 0) rfl
 have hd68 := hd68.trans g70.le
 obtain ⟨_, _, rfl⟩ := hr70_1.shape; have hx_hr70_1 : _ ≤ 1099511627776 := hr70_1.lim
 refine ⟨_, Z, ?_⟩
 refine q4 H hd68 (dE 5 Z2 (dE 6 Z2 (r1 7 Z (xst 2 H Z8 ?_)))); intro _ H
 refine q4 H hd68 (dE 8 Z2 (rz (N_K (W_ret (ret_gen (rs := [.cell 4 103, .tmp 5]) (vs := [_, _]) results98 ⟨⟨_, Z, load_blk 2 H isAgg103 sizeOf103 Z Z Z⟩, Z, trivial⟩ ?_)))))
 have H := H.dl 2
 have H := H.dl 2
 have H := H.tF 1
 have H := H.tF 1
 exact H.retM ⟨_, _, _, _, _, _, _, oM, Z, hchk70, Sp.vol_len (fun u2 h2 => Sp.vwrite_valid h2), hr70_1, acc_1 Z⟩
end Go.Proofs.Tst

namespace Go.Proofs.Tst
open Go Fw Tryz
theorem l91Volume_c (w0 : World) (G0 : PH) (hG : PSub G0 w0) (rb : Nat) (ab : Option Addr) (mb kb : Nat) (bs : List UInt8) (p : Nat) (hbs : RdU G0 (.slice ab mb kb) bs) (hrb : w0.heap[rb]? = some (cl [.slice ab mb kb, .int .i64 (p : Int)] 107)) (hrn : G0 rb = none) (hp : p ≤ 10000000)  :
  Calls Tryz.prog 63 #[.pointer (some ⟨rb, 0, none⟩)] w0 (RetM w0 G0 [rb] (fun G val Bs => ∃ (p' : Nat) (v1 v2 : Value) (st : List BHeld) (tr : List BItem), p' ≤ p + 3000 ∧ val = .agg #[v1, v2] ∧ RdH G v1 st ∧ RdItems G v2 tr ∧ Bs = [blk rb (cl [.slice ab mb kb, .int .i64 (p' : Int)] 107)])) := by
 have hlimbs : bs.length ≤ 1099511627776 := hbs.lim; obtain rfl : mb = bs.length := hbs.len
 have H := Hp.initM hG hrb hrn
 refine calls_of_W (l := [.pointer (some ⟨rb, 0, none⟩)]) func63 Z ntmps63 Z (q2 (xal H Z ?_)); intro b1 _ _ H
 refine q1 (o_build bf103 Z Z Z (xal H Z ?_)); intro b2 _ _ H
 refine xst 0 H Z8 ?_; intro _ H
 refine q1 (mV Z (xc Z2 (pick_c _ _ H.sub _ _ _ _ _ _ hbs (H.blkIs (k := 2) Z).1 (H.blkIs (k := 2) Z).2 oM _ oO ) ?_))
 rintro _ _ ⟨G4, _, _, rfl, H4', ⟨p4, _, _, rfl, _, rfl⟩⟩
 have hbs := hbs.up H4'.le
 have H := H.borrow (k := 2) rfl H4'
 refine ⟨_, Z, ?_⟩
 refine aD Z2 (aG Z (q3 (W_seq (q2 (aG Z (q3 (W_block ?_)))))))
 obtain ⟨ln6, hln6, H⟩ := H.name (k := 2) rfl
 refine W_lp (hf := (Sub.cons (t := 0) Z (Sub.cons (t := 2) Z (Sub.cons (t := 3) Z (Sub.cons (t := 4) Z Sub.nil))))) (J := fun M w m => ∃ (k : Nat) (va vb : Value) (st : List BHeld) (tr : List BItem) (pp : Nat) (G : PH), M = [(5, .int .i64 (k : Int))] ∧ PLe G4 G ∧ Hp w0 G0 [rb] w G [blk rb (cl [.slice ab bs.length kb, .int .i64 (pp : Int)] 107), blk b2 (cl [va, vb] 103), blk b1 (cl ln6 103)] ∧ (k ≤ 8 ∧ pp ≤ p + 100 + 201 * k ∧ RdH G va st ∧ RdItems G vb tr ∧ Mine w0 G va) ∧ m = (8 - k)) (h0 := ⟨0, .slice none 0 0, .slice none 0 0, [], [], p4, _, Z, PLe.refl _, H, ?inv, Z⟩) (round := ?round)
 case inv => exact ⟨by omega, by omega, RdS.nil _ _ _, RdS.nil _ _ _, Mine.nil⟩
 case round =>
  rintro _ _ _ ⟨k, va, vb, st, tr, pp, _, rfl, hle7, H, hinv7, rfl⟩
  subst hln6
  have hbs := hbs.up hle7
  obtain ⟨_, _, hst, htr, hmine⟩ := hinv7; obtain ⟨_, _, rfl⟩ := hst.shape; obtain ⟨_, _, rfl⟩ := htr.shape; have hlst : _ ≤ 1099511627776 := hst.lim; have hltr : _ ≤ 1099511627776 := htr.lim
  refine W_seq (q2 (pe 3 Z (q3 ?_)))
  refine W_cond Z ?_ ?_
  ·intro hc8
   try simp only [nrm] at hc8
   refine W_skip (N_K (W_seq (W_block (q2 (mV Z (lA 1 2 H Z4 (xc Z2 (l91Step_c _ _ H.sub _ _ _ _ _ _ hbs (H.blkIs (k := 0) Z).1 (H.blkIs (k := 0) Z).2 oM _ ⟨st, tr⟩ ⟨_, _, _, _, _, _, Z, hst, htr⟩ ) ?_)))))))
   rintro _ _ ⟨_, _, _, rfl, H9', ⟨p9, _, _, st9, tr9, _, _, _, rfl, hchk9, _, htr9, rfl⟩⟩
   have hst := hst.up H9'.le
   have htr := htr.up H9'.le
   have hmine := hmine.up H9'.le
   have hle7 := hle7.trans H9'.le
   have H := H.borrow (k := 0) rfl H9'
   obtain ⟨_, _, rfl⟩ := H.accShape (k := 0) rfl
   obtain ⟨_, _, rfl⟩ := htr9.shape; have hx_htr9 : _ ≤ 1099511627776 := htr9.lim
   refine ⟨_, Z, ?_⟩
   refine pe 3 Z (xal H Z ?_); intro _ _ _ H
   refine xst 0 H Z8 ?_; intro _ H
   refine aG Z (q1 (mV Z (q3 ?_)))
   refine W_cond Z ?_ ?_
   ·intro hc12
    try simp only [nrm] at hc12
    refine W_region (lA 0 2 H Z4 (xst 3 H Z8 ?_)); intro _ H
    refine R_nil (N_B (N_K (W_region (mV Z (aD Z2 (aG Z (R_nil ?_)))))))
    obtain ⟨_, H, hsg15, hst15, hmine15⟩ := H.shutP (k := 1) (j := 1) rfl rfl hchk9 aN oM
    have htr9 := htr9.up hsg15
    have hle7 := hle7.trans hsg15
    have H := H.dl 0
    refine N_lp (hJ := ⟨k + 1, _, _, st9, tr9, p9, _, Z, hle7, H, ?inv, Z⟩) (hm := ?hm)
    case hm => omega
    case inv => exact ⟨by omega, by omega, hst15, htr9, hmine15⟩
   intro hc12'
   try simp only [nrm] at hc12'
   refine W_skip (N_B (N_K (W_region (mV Z (aD Z2 (aG Z (R_nil ?_)))))))
   have H := H.dl 0
   have H := H.dl 0
   refine N_lp (hJ := ⟨k + 1, _, _, st, tr, p9, _, Z, hle7, H, ?inv, Z⟩) (hm := ?hm)
   case hm => omega
   case inv => exact ⟨by omega, by omega, hst, htr, hmine⟩
  intro hc8'
  try simp only [nrm] at hc8'
  refine W_exit (N_K_exit (N_LP_exit (N_B_same (N_K (W_seq (q2 (fA 0 Z (lB 1 H Z3 (lN Z (pe 2 Z ?_))))))))))
  refine R_case (t := 29) Z ?_ ?_
  ·intro hc17
   try simp only [nrm] at hc17
   refine pe 1 Z (gR Z (xc Z2 (pick_c _ _ H.sub _ _ _ _ _ _ hbs (H.blkIs (k := 0) Z).1 (H.blkIs (k := 0) Z).2 oM _ oO ) ?_))
   rintro _ _ ⟨G18, _, _, rfl, H18', ⟨_, _, _, rfl, _, rfl⟩⟩
   have hbs := hbs.up H18'.le
   have hst := hst.up H18'.le
   have htr := htr.up H18'.le
   have hmine := hmine.up H18'.le
   have H := H.borrow (k := 0) rfl H18'
   refine ⟨_, Z, ?_⟩
   refine pe 2 Z (q3 ?_)
   refine W_cond Z ?_ ?_
   ·intro hc19
    try simp only [nrm] at hc19
    refine W_drawN [1, 2] 10 H kR Z ?_; intro _ H; have hd20 := (PLe.none : PLe _ G18)
    refine dF 0 0 Z2 (dB 1 0 Z4 (dE 2 Z2 (dF 3 0 Z2 (dB 4 0 Z4 (dN 5 Z2 (r1 6 Z (xc Z2 (pick_c _ _ H.sub _ _ _ _ _ _ hbs (H.blkIs (k := 0) Z).1 (H.blkIs (k := 0) Z).2 oM _ oO ) ?_)))))))
    rintro _ _ ⟨_, _, _, rfl, H21', ⟨_, x21, _, rfl, _, rfl⟩⟩
    have hst := hst.up H21'.le
    have htr := htr.up H21'.le
    have hmine := hmine.up H21'.le
    have hd20 := hd20.trans H21'.le
    have H := H.borrow (k := 0) rfl H21'
    refine ⟨_, Z, ?_⟩
    refine q4 H hd20 ?_
    have hl22 := hst.len
    obtain ⟨_, _, _, _, ha22, _, hq22, hE22, hrow22, _⟩ := hst.at (i := x21) oM
    clear hq22
    obtain ⟨_, _, _, rfl, _, _, _, _, _⟩ := ox hE22
    refine dI 7 3 x21 ha22 Z3 Z (dF 8 2 Z2 (r1 9 Z (o_store_mine H hG hmine ha22 sizeOf3 Z Z oO (hrow22 2 _ Z) hrb Z ?_))); intro _ G23 hgr23 H
    obtain ⟨_, _, hst2⟩ := RdS.st hgr23 hst; obtain ⟨_, _, htr2⟩ := RdS.st hgr23 htr
    have hd20 := (PLe.none : PLe (fun _ => none) G23)
    refine q4 H hd20 (rz (N_K (q2 (lA 1 2 H Z4 (xst 2 H Z8 ?_))))); intro _ H
    refine q3 (W_ret (ret_gen (rs := [.cell 2 103]) (vs := [_]) results63 ⟨⟨_, Z, load_blk 2 H isAgg103 sizeOf103 Z Z Z⟩, trivial⟩ ?_))
    have H := H.dl 1
    have H := H.dl 1
    exact H.retM ⟨_, _, _, _, _, oM, Z, hst2, htr2, Z⟩
   intro hc19'
   try simp only [nrm] at hc19'
   refine W_skip (N_K (q2 (lA 1 2 H Z4 (xst 2 H Z8 ?_)))); intro _ H
   refine q3 (W_ret (ret_gen (rs := [.cell 2 103]) (vs := [_]) results63 ⟨⟨_, Z, load_blk 2 H isAgg103 sizeOf103 Z Z Z⟩, trivial⟩ ?_))
   have H := H.dl 1
   have H := H.dl 1
   exact H.retM ⟨_, _, _, _, _, oM, Z, hst, htr, Z⟩
  intro hc17'
  try simp only [nrm] at hc17'
  refine pe 4 Z (q3 (W_false Z (W_skip (N_K (q2 (lA 1 2 H Z4 (xst 2 H Z8 ?_))))))); intro _ H
  refine q3 (W_ret (ret_gen (rs := [.cell 2 103]) (vs := [_]) results63 ⟨⟨_, Z, load_blk 2 H isAgg103 sizeOf103 Z Z Z⟩, trivial⟩ ?_))
  have H := H.dl 1
  have H := H.dl 1
  exact H.retM ⟨_, _, _, _, _, oM, Z, hst, htr, Z⟩
end Go.Proofs.Tst

namespace Go.Proofs.Tst
open Go Fw Tryz
theorem l12Keep_c (w0 : World) (G0 : PH) (hG : PSub G0 w0) (vstore : Value) (store : List (BHeld)) (hstore : RdH G0 vstore store) (vlist : Value) (list : List (BItem)) (hlist : RdItems G0 vlist list)  :
  Calls Tryz.prog 41 #[vstore, vlist] w0 (RetO w0 G0 (fun G v r => ∃ u, v = .tuple #[u, .bool (Sp.l12Keep store list).isSome] ∧ AccOf heldE 3 42 ((Sp.l12Keep store list).getD []) G u r)) := by
 obtain ⟨astore, kstore, rfl⟩ := hstore.shape
 have hlimstore : store.length ≤ 1099511627776 := hstore.lim
 obtain ⟨alist, klist, rfl⟩ := hlist.shape
 have hlimlist : list.length ≤ 1099511627776 := hlist.lim
 have H := Hp.init hG
 refine calls_of_W (l := [.slice astore store.length kstore, .slice alist list.length klist]) func41 Z ntmps41 Z (q2 (pe 2 Z (q1 (mV Z (xc Z2 (l3Copy_c _ _ H.sub _ _ hstore ) ?_)))))
 rintro _ _ ⟨G1, _, _, g1, rfl, ⟨_, rfl, hchk1⟩, hp1, hq1, hs1⟩
 have H := H.growO g1 hp1 hq1 hs1; obtain ⟨_, _, rfl⟩ := H.accShape (k := 0) rfl
 have hlist := hlist.up g1.le
 refine ⟨_, Z, ?_⟩
 refine aG Z (q3 (W_seq (q2 (aG Z (q3 (W_block ?_))))))
 refine W_lp (hf := (Sub.cons (t := 1) Z Sub.nil)) (J := fun M w m => ∃ (vo : Value) (no : Nat) (cso : List Value) (xso : List (BHeld)) (k : Nat) (G : PH), M = [(7, .int .i64 (k : Int)), (6, vo)] ∧ PLe G1 G ∧ Hp w0 G0 [] w G [acc 42 3 vo no cso] ∧ (Chk heldE 3 G cso xso ∧ no = xso.length ∧ k ≤ list.length ∧ xso.length = store.length ∧ Sp.foldB Sp.keepT (list.take k) (some store) = some xso) ∧ m = (list.length - k)) (h0 := ⟨_, _, _, store, 0, _, Z, PLe.refl _, H, ?inv, Z⟩) (round := ?round)
 case inv => exact ⟨hchk1,  by first | rfl | simp | (simp; omega) | omega, (by exact ⟨by omega, rfl, by simp [Sp.foldB]⟩)⟩
 case round =>
  rintro _ _ _ ⟨vo, no, cso, xso, k, G2, rfl, hle2, H, hinv2, rfl⟩
  have hlist := hlist.up hle2
  obtain ⟨hchk2_0, _, hinv2⟩ := hinv2
  obtain ⟨_, _, rfl⟩ := H.accShape (k := 0) rfl
  obtain ⟨_, hxl, hf⟩ := hinv2
  refine W_seq (q2 (pe 2 Z (lN Z (pe 1 Z (q3 ?_)))))
  refine W_cond Z ?_ ?_
  ·intro hc3
   try simp only [nrm] at hc3
   refine W_skip (N_K (W_seq (W_block (q2 (aG Z (q3 (W_block ?_)))))))
   refine W_lp (hf := (Sub.cons (t := 1) Z (Sub.cons (t := 7) Z Sub.nil))) (J := fun M w m => ∃ (v : Value) (n : Nat) (cs : List Value) (xs : List (BHeld)) (j : Nat) (y : BItem) (G : PH), M = [(8, .int .i64 (j : Int)), (6, v)] ∧ PLe G2 G ∧ Hp w0 G0 [] w G [acc 42 3 v n cs] ∧ (Chk heldE 3 G cs xs ∧ n = xs.length ∧ list[k]? = some y ∧ j ≤ y.ids.length ∧ xs.length = store.length ∧ Sp.foldB Sp.StoreKeep (y.ids.take j) (some xso) = some xs) ∧ m = (y.ids.length - j)) (h0 := ⟨_, _, _, xso, 0, (list[k]'oM), _, Z, PLe.refl _, H, ?inv, Z⟩) (round := ?round)
   case inv => exact ⟨hchk2_0,  by first | rfl | simp | (simp; omega) | omega, (by exact ⟨by simp, by omega, hxl, by simp [Sp.foldB]⟩)⟩
   case round =>
    rintro _ _ _ ⟨v, n, cs, xs, j, y, _, rfl, hle4, H, hinv4, rfl⟩
    have hlist := hlist.up hle4
    have hle2 := hle2.trans hle4
    obtain ⟨hchk4_0, _, hinv4⟩ := hinv4
    obtain ⟨_, _, rfl⟩ := H.accShape (k := 0) rfl
    obtain ⟨hy, _, hxl2, hf2⟩ := hinv4
    refine W_seq (q2 (pe 3 Z (iP k hlist Z3 Z ?_))); intro _ _ z5 _ hz5 hE5 hrow5
    obtain ⟨_, _, _, rfl, _, hr5, _, _⟩ := ox hE5
    have hzz5 : y = z5 := Option.some.inj (hy.symm.trans hz5)
    subst hzz5
    refine fA 2 Z (lP H hrow5 2 Z2 (lN Z (pe 1 Z (q3 ?_))))
    refine W_cond Z ?_ ?_
    ·intro hc6
     try simp only [nrm] at hc6
     refine W_skip (N_K (W_seq (W_block (q2 (pe 3 Z (iP k hlist Z3 Z ?_)))))); intro _ _ z7 _ hz7 hE7 hrow7
     obtain ⟨_, _, _, rfl, _, hr7, _, _⟩ := ox hE7
     have hzz7 : y = z7 := Option.some.inj (hy.symm.trans hz7)
     subst hzz7
     refine fA 2 Z (lP H hrow7 2 Z2 (mV Z (iP j hr7 Z3 Z ?_))); intro _ _ z8 _ hz8 hE8 hrow8
     obtain ⟨rfl, _⟩ := hE8
     refine lP H hrow8 0 Z2 ?_
     obtain ⟨_, H, hsg10, hsr10⟩ := H.shut' (k := 0) rfl hchk4_0 aN aN
     have hle4 := hle4.trans hsg10
     refine xc Z2 (StoreKeep_c _ _ H.sub _ _ hsr10 _ ) ?_
     rintro _ _ ⟨G9, _, _, g9, rfl, ⟨_, rfl, ⟨_, rfl, hchk9⟩⟩, hp9, hq9, hs9⟩
     have H := H.growO g9 hp9 hq9 hs9; obtain ⟨_, _, rfl⟩ := H.accShape (k := 0) rfl
     have hle4 := hle4.trans g9.le
     refine ⟨_, Z, ?_⟩
     refine pe 5 Z (q3 (W_seq (q2 (pe 2 Z (q3 ?_)))))
     refine W_cond Z ?_ ?_
     ·intro hc11
      try simp only [nrm] at hc11
      refine q2 (xbs H Z7 ?_); intro _ _ _ H
      have H := H.blkAcc 3 (k := 0) (n := 0) rfl rfl (by decide)
      refine pe 2 Z (q3 (W_ret (N_K_ret (N_B_ret (N_K_ret (N_LP_ret (N_B_ret (N_B_ret (N_K_ret (N_LP_ret (N_B_ret (N_K_ret (rt2 results41 Z Z ?_)))))))))))))
      have hN : Sp.l12Keep store list = none := by (have hno : Sp.StoreKeep xs z8 = none := by simpa using hc11); unfold Sp.l12Keep; exact Sp.foldB_stop hf hy (by unfold Sp.keepT; exact Sp.foldB_stop hf2 hz8 hno)
      exact H.retO (k := 0) rfl (by rw [hN]; exact ⟨_, rfl, AccOf.mk aN (Chk.nil (E := heldE) (sz := 3) (G := G9))⟩) (acc_nd _ _ _ _ _)
     intro hc11'
     try simp only [nrm] at hc11'
     obtain ⟨p, hsp⟩ := Option.isSome_iff_exists.1 hc11'
     rw [hsp] at H hchk9 ⊢
     dsimp only [Option.map, Option.getD] at H hchk9
     refine W_skip (N_K (W_region (pe 2 Z (R_nil (N_B (N_K (W_region (mV Z (aD Z2 (aG Z (R_nil ?_)))))))))))
     refine N_lp (hJ := ⟨_, _, _, p, j + 1, y, _, Z, hle4, H, ?inv, Z⟩) (hm := ?hm)
     case hm => omega
     case inv => exact ⟨hchk9, aN, (by exact ⟨hy, by omega, by rw [Sp.keep_len hsp]; exact hxl2, Sp.foldB_succ hf2 hz8 hsp⟩)⟩
    intro hc6'
    try simp only [nrm] at hc6'
    refine W_exit (N_K_exit (N_LP_exit (N_B_same (N_B (N_K (W_region (mV Z (aD Z2 (aG Z (R_nil ?_))))))))))
    refine N_lp (hJ := ⟨_, _, _, xs, k + 1, _, Z, hle2, H, ?inv, Z⟩) (hm := ?hm)
    case hm => omega
    case inv => exact ⟨hchk4_0, aN, (by exact ⟨by omega, hxl2, Sp.foldB_succ hf hy (by unfold Sp.keepT; exact Sp.foldB_all hf2 oM)⟩)⟩
  intro hc3'
  try simp only [nrm] at hc3'
  refine W_exit (N_K_exit (N_LP_exit (N_B_same (N_K (q2 (pe 3 Z (q3 (W_ret (rt2 results41 Z Z ?_)))))))))
  have hY : Sp.l12Keep store list = some xso := by unfold Sp.l12Keep; exact Sp.foldB_all hf oM
  exact H.retO (k := 0) rfl (by rw [hY]; exact ⟨_, rfl, AccOf.mk aN hchk2_0⟩) (acc_nd _ _ _ _ _)
end Go.Proofs.Tst

