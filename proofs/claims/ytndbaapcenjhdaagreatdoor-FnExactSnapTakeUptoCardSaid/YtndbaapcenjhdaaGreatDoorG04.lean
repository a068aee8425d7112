/- Part 4 of the proof: contracts of functions of the program. Conditions: none. -/
import Derived.Test.YtndbaapcenjhdaaGreatDoorProg
import Derived.Test.YtndbaapcenjhdaaGreatDoorG00
import Derived.Test.YtndbaapcenjhdaaGreatDoorG01
import Derived.Test.YtndbaapcenjhdaaGreatDoorG03
set_option linter.all false
set_option maxRecDepth 100000
set_option maxHeartbeats 1000000
namespace Go.Proofs.Tst
open Go Fw
theorem w_markHeldS_c (w0 : World) (G0 : PH) (hG : PSub G0 w0) (Fa : Fr) (va : Value) (a : List (BHeld)) (hOa : OHs Fa va a) (k : Int) (hLent : Lent w0 G0 [frag Fa]) (hb : 0 ≤ k ∧ k + (cnt cHeld a : Int) ≤ 2199023255552) :
  Calls Tryz.prog 67 #[va, .int .i64 k] w0 (RetM w0 G0 (fps [frag Fa]) (fun G' v Bs => ∃ (F' : Fr), v = .int .i64 (k + (cnt cHeld a : Int)) ∧ Bs = [frag F'] ∧ OHs F' va (mks mHeld cHeld k a))) := by
 obtain ⟨ea, hPa⟩ := hOa; have hlima : a.length ≤ 1099511627776 := hPa.1; obtain ⟨aa, ka, rfl⟩ := OwnS.shape hPa
 have H : Hp w0 G0 (fps [frag Fa]) w0 G0 [frag Fa] := hLent.hp
 obtain ⟨cla, Ra, H, hcka⟩ := H.openF hPa
 refine calls_of_W (l := [.slice aa a.length ka, .int .i64 k]) Tryz.func67 rfl Tryz.ntmps67 rfl ?_
 refine q2 ?_
 refine o_assign rfl rfl ?_
 refine q3 ?_
 refine W_seq ?_
 refine q2 ?_
 refine o_assign rfl rfl ?_
 refine q3 ?_
 refine W_block ?_
 refine W_loop (hf := (Sub.cons (t := 4) rfl Sub.nil)) (J := fun M w m => ∃ (v : Value) (n : Nat) (cs : List Value) (xs : List (BHeld)) (F : Fr) (i : Nat) (kk : Int) (G : PH), M = [(5, .int .i64 (i : Int)), (1, .int .i64 kk), (0, v)] ∧ PLe G0 G ∧ Hp w0 G0 (fps [frag Fa]) w G [acc ea 3 v n cs, frag F] ∧ (ChkF heldO 3 cs xs F ∧ n = xs.length ∧ i ≤ a.length ∧ kk = k + (cnt cHeld (a.take i) : Int) ∧ xs = mks mHeld cHeld k (a.take i) ++ a.drop i ∧ v = .slice aa a.length ka) ∧ m = (a.length - i)) (h0 := ⟨_, _, _, a, Ra, 0, k, _, rfl, PLe.refl _, H, ?inv, rfl⟩) (hM := ?hM) (round := ?round)
 case hM => (repeat (first | exact Sub.nil | refine Sub.cons rfl ?_))
 case inv => exact ⟨hcka,  by first | rfl | simp | (simp; omega) | omega, (by simp [cnt, mks])⟩
 case round =>
  rintro _ w1 _ ⟨v, n, cs, xs, F, i, kk, G1, rfl, hle1, H, hinv1, rfl⟩
  obtain ⟨hchk1_0, hn1_0, hinv1⟩ := hinv1
  obtain ⟨av1_0, cv1_0, rfl⟩ := H.accShape (k := 0) rfl
  obtain ⟨hi, hkk, hxs, hv⟩ := hinv1; have hxl : xs.length = a.length := (by (rw [hxs]; exact half_len hi)); have hctk := cnt_tk (c := cHeld) a i
  refine W_seq ?_
  refine q2 ?_
  refine o_move rfl rfl ?_
  refine o_move rfl rfl ?_
  refine o_len_slice Tryz.underlying23 rfl rfl ?_
  refine o_lss rfl rfl rfl ?_
  refine q3 ?_
  refine W_cond rfl ?_ ?_
  ·intro hc2
   try simp only [nrm] at hc2
   refine W_skip ?_
   refine N_K ?_
   refine W_seq ?_
   refine W_block ?_
   refine q2 ?_
   refine o_move rfl rfl ?_
   refine o_move rfl rfl ?_
   refine o_move rfl rfl ?_
   obtain ⟨z3, hz3⟩ : ∃ z, xs[i]? = some z := ⟨_, List.getElem?_eq_getElem (by first | omega | (simp; omega))⟩
   obtain ⟨q3, P3, Fi3, Q3, hF3, hl3, hE3, hg3, hput3, hpu03⟩ := (hchk1_0).focus hz3
   rw [hF3] at H
   refine o_index_F 0 H i rfl Tryz.underlying23 Tryz.sizeOf117 rfl rfl rfl rfl (by first | omega | (simp; omega) | (simp; done)) ?_; intro ba3 hba3; cases hba3
   obtain ⟨oa3, om3, oc3, rfl, hi3, ho3, hj3⟩ := hE3
   have hbk3 : ChkF heldO 3 _ (xs.set i z3) _ := hpu03 _ z3 (show heldO _ _ _ from ⟨_, _, _, rfl, hi3, ho3, hj3⟩)
   have hsame3 : xs.set i z3 = xs := Fw.set_same hz3; rw [hsame3] at hbk3
   have hat := half_at hxs hz3 hi; have hcl := cnt_le (c := cHeld) hat
   have hch : cHeld z3 = 2 + cnt cI z3.bytes := rfl
   refine o_fieldAddr 0 Tryz.runUnderlying117 rfl Tryz.sizeOf3 rfl rfl rfl ?_
   have hcl4 := (hbk3).length
   have hlt4 : i < xs.length := (List.getElem?_eq_some_iff.1 hz3).1
   try simp only [length_setCs, List.length_set] at hcl4
   try simp only [List.length_set] at hlt4
   refine o_store_A 0 H Tryz.sizeOf3 rfl rfl rfl rfl rfl (by simp only [vc, List.length_cons, List.length_nil, length_setCs]; omega) ?_; intro w4 H
   have hchk4 := hput3 _ ⟨kk, z3.bytes, z3.uses⟩ 0 [_] (by simp) (show heldO _ _ _ from ⟨_, _, _, rfl, ⟨by first | omega | (dsimp only; omega), by first | omega | (dsimp only; omega)⟩, ho3, hj3⟩)
   refine q1 ?_
   refine o_move rfl rfl ?_
   refine o_add rfl rfl rfl ⟨by omega, by omega⟩ ?_
   refine o_assign rfl rfl ?_
   refine q1 ?_
   refine o_move rfl rfl ?_
   refine o_move rfl rfl ?_
   obtain ⟨z6, hz6⟩ : ∃ z, (xs.set i ⟨kk, z3.bytes, z3.uses⟩)[i]? = some z := ⟨_, List.getElem?_eq_getElem (by first | omega | (simp; omega))⟩
   obtain ⟨q6, P6, Fi6, Q6, hF6, hl6, hE6, hg6, hput6, hpu06⟩ := (hchk4).focus hz6
   rw [hF6] at H
   refine o_index_F 0 H i rfl Tryz.underlying23 Tryz.sizeOf117 rfl rfl rfl rfl (by first | omega | (simp; omega) | (simp; done)) ?_; intro ba6 hba6; cases hba6
   obtain ⟨oa6, om6, oc6, rfl, hi6, ho6, hj6⟩ := hE6
   have hbk6 : ChkF heldO 3 _ ((xs.set i ⟨kk, z3.bytes, z3.uses⟩).set i z6) _ := hpu06 _ z6 (show heldO _ _ _ from ⟨_, _, _, rfl, hi6, ho6, hj6⟩)
   have hsame6 : (xs.set i ⟨kk, z3.bytes, z3.uses⟩).set i z6 = (xs.set i ⟨kk, z3.bytes, z3.uses⟩) := Fw.set_same hz6; rw [hsame6] at hbk6
   have hze6 := Fw.set_at hz6
   have hzb6 : z6.bytes = z3.bytes := by simp only [hze6]
   have hzc6 : cnt cI z6.bytes = cnt cI z3.bytes := by rw [hzb6]
   refine o_fieldAddr 1 Tryz.runUnderlying117 rfl Tryz.sizeOf27 rfl rfl rfl ?_
   refine o_load_A 0 H Tryz.isAgg27 rfl rfl rfl (hg6 1 _ rfl) ?_
   refine o_move rfl rfl ?_
   have H := H.toFront (k := 1) rfl
   have H := H.outFi
   refine o_call Tryz.call123 rfl rfl (w_markIntS_c _ _ H.sub _ _ _ ho6 _ H.lent1 ⟨by omega, by omega⟩) ?_
   rintro _ w7 ⟨G7, _, _, rfl, H7', ⟨F7, rfl, rfl, hO7⟩⟩
   have hle1 := hle1.trans H7'.le
   have H := H.borrow1 H7'
   refine ⟨_, rfl, ?_⟩
   have H := H.toFront (k := 2) rfl
   have H := H.toFront (k := 2) rfl
   have H := H.toFront (k := 2) rfl
   have H := H.inFi
   have hcb1 := hpu06 F7 ⟨z6.id, mks mI cI (kk + 1) z6.bytes, z6.uses⟩ (show heldO _ _ _ from ⟨_, _, _, rfl, hi6, hO7, hj6⟩)
   refine o_assign rfl rfl ?_
   refine q1 ?_
   refine o_move rfl rfl ?_
   refine o_move rfl rfl ?_
   refine o_move rfl rfl ?_
   obtain ⟨z8, hz8⟩ : ∃ z, ((xs.set i ⟨kk, z3.bytes, z3.uses⟩).set i ⟨z6.id, mks mI cI (kk + 1) z6.bytes, z6.uses⟩)[i]? = some z := ⟨_, List.getElem?_eq_getElem (by first | omega | (simp; omega))⟩
   obtain ⟨q8, P8, Fi8, Q8, hF8, hl8, hE8, hg8, hput8, hpu08⟩ := (hcb1).focus hz8
   rw [hF8] at H
   refine o_index_F 1 H i rfl Tryz.underlying23 Tryz.sizeOf117 rfl rfl rfl rfl (by first | omega | (simp; omega) | (simp; done)) ?_; intro ba8 hba8; cases hba8
   obtain ⟨oa8, om8, oc8, rfl, hi8, ho8, hj8⟩ := hE8
   have hbk8 : ChkF heldO 3 _ (((xs.set i ⟨kk, z3.bytes, z3.uses⟩).set i ⟨z6.id, mks mI cI (kk + 1) z6.bytes, z6.uses⟩).set i z8) _ := hpu08 _ z8 (show heldO _ _ _ from ⟨_, _, _, rfl, hi8, ho8, hj8⟩)
   have hsame8 : ((xs.set i ⟨kk, z3.bytes, z3.uses⟩).set i ⟨z6.id, mks mI cI (kk + 1) z6.bytes, z6.uses⟩).set i z8 = ((xs.set i ⟨kk, z3.bytes, z3.uses⟩).set i ⟨z6.id, mks mI cI (kk + 1) z6.bytes, z6.uses⟩) := Fw.set_same hz8; rw [hsame8] at hbk8
   have hze8 := Fw.set_at hz8
   refine o_fieldAddr 2 Tryz.runUnderlying117 rfl Tryz.sizeOf3 rfl rfl rfl ?_
   have hcl9 := (hbk8).length
   have hlt9 : i < ((xs.set i ⟨kk, z3.bytes, z3.uses⟩).set i ⟨z6.id, mks mI cI (kk + 1) z6.bytes, z6.uses⟩).length := (List.getElem?_eq_some_iff.1 hz8).1
   try simp only [length_setCs, List.length_set] at hcl9
   try simp only [List.length_set] at hlt9
   refine o_store_A 1 H Tryz.sizeOf3 rfl rfl rfl rfl rfl (by simp only [vc, List.length_cons, List.length_nil, length_setCs]; omega) ?_; intro w9 H
   have hchk9 := hput8 _ ⟨z8.id, z8.bytes, kk + 1 + (cnt cI z6.bytes : Int)⟩ 2 [_] (by simp) (show heldO _ _ _ from ⟨_, _, _, rfl, hi8, ho8, ⟨by first | omega | (dsimp only; omega), by first | omega | (dsimp only; omega)⟩⟩)
   refine q3 ?_
   refine W_region ?_
   refine o_move rfl rfl ?_
   refine o_add rfl rfl rfl ⟨by omega, by omega⟩ ?_
   refine o_assign rfl rfl ?_
   refine R_nil ?_
   refine N_B ?_
   refine N_K ?_
   refine W_region ?_
   refine o_move rfl rfl ?_
   refine o_add rfl rfl rfl ⟨by omega, by omega⟩ ?_
   refine o_assign rfl rfl ?_
   refine R_nil ?_
   have H := H.toFront (k := 1) rfl
   refine N_LP (hJ := ⟨_, _, _, (((xs.set i ⟨kk, z3.bytes, z3.uses⟩).set i ⟨z6.id, mks mI cI (kk + 1) z6.bytes, z6.uses⟩).set i ⟨z8.id, z8.bytes, kk + 1 + (cnt cI z6.bytes : Int)⟩), (P8 ++ (Fi8 ++ Q8)), i + 1, kk + 1 + (cnt cI z6.bytes : Int) + 1, _, rfl, hle1, H, ?inv, rfl⟩) (hM := ?hM) (hf := ?hf) (hm := ?hm)
   case hM => (repeat (first | exact Sub.nil | refine Sub.cons rfl ?_))
   case hf => (repeat (first | exact Sub.nil | refine Sub.cons rfl ?_))
   case hm => omega
   case inv => exact ⟨hchk9, (by first | assumption | (simp; omega) | omega), (by exact ⟨by omega, by (rw [cnt_succ hat]; omega), (by (subst hze8; subst hze6; simp only [List.set_set]; exact half_step hxs hz3 hi (by (rw [← hkk]; rfl)))), hv⟩)⟩
  intro hc2'
  try simp only [nrm] at hc2'
  refine W_exit ?_
  refine N_K_exit ?_
  refine N_LP_exit ?_
  refine N_B_same ?_
  refine N_K ?_
  refine q2 ?_
  refine o_move rfl rfl ?_
  refine o_assign rfl rfl ?_
  refine q3 ?_
  refine W_ret ?_
  refine ret_gen (rs := [.tmp 4]) (vs := [_]) Tryz.results67 ⟨rfl, trivial⟩ ?_
  have hie : i = a.length := by omega
  have hxx : xs = mks mHeld cHeld k a := by (rw [hxs]; exact half_end hie)
  have hce := cnt_end (c := cHeld) hie
  have H := H.toFront (k := 1) rfl
  have H := H.toFront (k := 1) rfl
  obtain ⟨Fo2, H, hOw2⟩ := H.ownF hchk1_0 (by first | assumption | rfl | (simp; done) | (simp; omega) | omega) (by first | assumption | (simp; done) | (simp; omega) | omega)
  exact H.retM ⟨_, congrArg (Value.int .i64) (by (rw [hkk, hce])), rfl, hxx ▸ hv ▸ ⟨_, hOw2⟩⟩
theorem w_markItemS_c (w0 : World) (G0 : PH) (hG : PSub G0 w0) (Fa : Fr) (va : Value) (a : List (BItem)) (hOa : OIs Fa va a) (k : Int) (hLent : Lent w0 G0 [frag Fa]) (hb : 0 ≤ k ∧ k + (cnt cItem a : Int) ≤ 2199023255552) :
  Calls Tryz.prog 68 #[va, .int .i64 k] w0 (RetM w0 G0 (fps [frag Fa]) (fun G' v Bs => ∃ (F' : Fr), v = .int .i64 (k + (cnt cItem a : Int)) ∧ Bs = [frag F'] ∧ OIs F' va (mks mItem cItem k a))) := by
 obtain ⟨ea, hPa⟩ := hOa; have hlima : a.length ≤ 1099511627776 := hPa.1; obtain ⟨aa, ka, rfl⟩ := OwnS.shape hPa
 have H : Hp w0 G0 (fps [frag Fa]) w0 G0 [frag Fa] := hLent.hp
 obtain ⟨cla, Ra, H, hcka⟩ := H.openF hPa
 refine calls_of_W (l := [.slice aa a.length ka, .int .i64 k]) Tryz.func68 rfl Tryz.ntmps68 rfl ?_
 refine q2 ?_
 refine o_assign rfl rfl ?_
 refine q3 ?_
 refine W_seq ?_
 refine q2 ?_
 refine o_assign rfl rfl ?_
 refine q3 ?_
 refine W_block ?_
 refine W_loop (hf := (Sub.cons (t := 4) rfl Sub.nil)) (J := fun M w m => ∃ (v : Value) (n : Nat) (cs : List Value) (xs : List (BItem)) (F : Fr) (i : Nat) (kk : Int) (G : PH), M = [(5, .int .i64 (i : Int)), (1, .int .i64 kk), (0, v)] ∧ PLe G0 G ∧ Hp w0 G0 (fps [frag Fa]) w G [acc ea 3 v n cs, frag F] ∧ (ChkF itemO 3 cs xs F ∧ n = xs.length ∧ i ≤ a.length ∧ kk = k + (cnt cItem (a.take i) : Int) ∧ xs = mks mItem cItem k (a.take i) ++ a.drop i ∧ v = .slice aa a.length ka) ∧ m = (a.length - i)) (h0 := ⟨_, _, _, a, Ra, 0, k, _, rfl, PLe.refl _, H, ?inv, rfl⟩) (hM := ?hM) (round := ?round)
 case hM => (repeat (first | exact Sub.nil | refine Sub.cons rfl ?_))
 case inv => exact ⟨hcka,  by first | rfl | simp | (simp; omega) | omega, (by simp [cnt, mks])⟩
 case round =>
  rintro _ w1 _ ⟨v, n, cs, xs, F, i, kk, G1, rfl, hle1, H, hinv1, rfl⟩
  obtain ⟨hchk1_0, hn1_0, hinv1⟩ := hinv1
  obtain ⟨av1_0, cv1_0, rfl⟩ := H.accShape (k := 0) rfl
  obtain ⟨hi, hkk, hxs, hv⟩ := hinv1; have hxl : xs.length = a.length := (by (rw [hxs]; exact half_len hi)); have hctk := cnt_tk (c := cItem) a i; have hmt : (mtext kk).length ≤ 16777216 := (by have h9 := mtext_len (k := kk) (by omega); omega)
  refine W_seq ?_
  refine q2 ?_
  refine o_move rfl rfl ?_
  refine o_move rfl rfl ?_
  refine o_len_slice Tryz.underlying24 rfl rfl ?_
  refine o_lss rfl rfl rfl ?_
  refine q3 ?_
  refine W_cond rfl ?_ ?_
  ·intro hc2
   try simp only [nrm] at hc2
   refine W_skip ?_
   refine N_K ?_
   refine W_seq ?_
   refine W_block ?_
   refine q2 ?_
   refine o_move rfl rfl ?_
   refine o_move rfl rfl ?_
   refine o_move rfl rfl ?_
   refine o_call Tryz.call124 rfl rfl (w_markText_c _ _ (by omega)) ?_
   rintro _ w3 ⟨rfl, ew3⟩; have H := H.step ew3; refine ⟨_, rfl, ?_⟩
   obtain ⟨z4, hz4⟩ : ∃ z, xs[i]? = some z := ⟨_, List.getElem?_eq_getElem (by first | omega | (simp; omega))⟩
   obtain ⟨q4, P4, Fi4, Q4, hF4, hl4, hE4, hg4, hput4, hpu04⟩ := (hchk1_0).focus hz4
   rw [hF4] at H
   refine o_index_F 0 H i rfl Tryz.underlying24 Tryz.sizeOf39 rfl rfl rfl rfl (by first | omega | (simp; omega) | (simp; done)) ?_; intro ba4 hba4; cases hba4
   obtain ⟨oa4, om4, oc4, rfl, hi4, ho4⟩ := hE4; have hy_hi4 : _ ≤ 16777216 := hi4
   have hbk4 : ChkF itemO 3 _ (xs.set i z4) _ := hpu04 _ z4 (show itemO _ _ _ from ⟨_, _, _, rfl, hi4, ho4⟩)
   have hsame4 : xs.set i z4 = xs := Fw.set_same hz4; rw [hsame4] at hbk4
   have hat := half_at hxs hz4 hi; have hcl := cnt_le (c := cItem) hat
   have hch : cItem z4 = 2 + cnt cI z4.ids := rfl
   refine o_fieldAddr 0 Tryz.runUnderlying39 rfl Tryz.sizeOf9 rfl rfl rfl ?_
   have hcl5 := (hbk4).length
   have hlt5 : i < xs.length := (List.getElem?_eq_some_iff.1 hz4).1
   try simp only [length_setCs, List.length_set] at hcl5
   try simp only [List.length_set] at hlt5
   refine o_store_A 0 H Tryz.sizeOf9 rfl rfl rfl rfl rfl (by simp only [vc, List.length_cons, List.length_nil, length_setCs]; omega) ?_; intro w5 H
   have hchk5 := hput4 _ ⟨mtext kk, z4.dir, z4.ids⟩ 0 [_] (by simp) (show itemO _ _ _ from ⟨_, _, _, rfl, (by (first | assumption | (refine Sp.l5Parent_lim ?_; assumption) | (simp; done) | (simp; omega) | omega)), ho4⟩)
   refine q1 ?_
   refine o_move rfl rfl ?_
   refine o_add rfl rfl rfl ⟨by omega, by omega⟩ ?_
   refine o_assign rfl rfl ?_
   refine q1 ?_
   refine o_move rfl rfl ?_
   refine o_move rfl rfl ?_
   refine o_move rfl rfl ?_
   refine o_rem rfl rfl rfl (by omega) (by omega) ?_
   refine o_eql rfl rfl rfl ?_
   obtain ⟨z7, hz7⟩ : ∃ z, (xs.set i ⟨mtext kk, z4.dir, z4.ids⟩)[i]? = some z := ⟨_, List.getElem?_eq_getElem (by first | omega | (simp; omega))⟩
   obtain ⟨q7, P7, Fi7, Q7, hF7, hl7, hE7, hg7, hput7, hpu07⟩ := (hchk5).focus hz7
   rw [hF7] at H
   refine o_index_F 0 H i rfl Tryz.underlying24 Tryz.sizeOf39 rfl rfl rfl rfl (by first | omega | (simp; omega) | (simp; done)) ?_; intro ba7 hba7; cases hba7
   obtain ⟨oa7, om7, oc7, rfl, hi7, ho7⟩ := hE7; have hy_hi7 : _ ≤ 16777216 := hi7
   have hbk7 : ChkF itemO 3 _ ((xs.set i ⟨mtext kk, z4.dir, z4.ids⟩).set i z7) _ := hpu07 _ z7 (show itemO _ _ _ from ⟨_, _, _, rfl, hi7, ho7⟩)
   have hsame7 : (xs.set i ⟨mtext kk, z4.dir, z4.ids⟩).set i z7 = (xs.set i ⟨mtext kk, z4.dir, z4.ids⟩) := Fw.set_same hz7; rw [hsame7] at hbk7
   have hze7 := Fw.set_at hz7
   have hzb7 : z7.ids = z4.ids := by simp only [hze7]
   have hzc7 : cnt cI z7.ids = cnt cI z4.ids := by rw [hzb7]
   refine o_fieldAddr 1 Tryz.runUnderlying39 rfl Tryz.sizeOf4 rfl rfl rfl ?_
   have hcl8 := (hbk7).length
   have hlt8 : i < (xs.set i ⟨mtext kk, z4.dir, z4.ids⟩).length := (List.getElem?_eq_some_iff.1 hz7).1
   try simp only [length_setCs, List.length_set] at hcl8
   try simp only [List.length_set] at hlt8
   refine o_store_A 0 H Tryz.sizeOf4 rfl rfl rfl rfl rfl (by simp only [vc, List.length_cons, List.length_nil, length_setCs]; omega) ?_; intro w8 H
   have hchk8 := hput7 _ ⟨z7.path, decide ((kk + 1) % 3 = 0), z7.ids⟩ 1 [_] (by simp) (show itemO _ _ _ from ⟨_, _, _, rfl, hi7, ho7⟩)
   refine q1 ?_
   refine o_move rfl rfl ?_
   refine o_add rfl rfl rfl ⟨by omega, by omega⟩ ?_
   refine o_assign rfl rfl ?_
   refine q3 ?_
   refine W_region ?_
   refine o_move rfl rfl ?_
   refine o_move rfl rfl ?_
   obtain ⟨z10, hz10⟩ : ∃ z, ((xs.set i ⟨mtext kk, z4.dir, z4.ids⟩).set i ⟨z7.path, decide ((kk + 1) % 3 = 0), z7.ids⟩)[i]? = some z := ⟨_, List.getElem?_eq_getElem (by first | omega | (simp; omega))⟩
   obtain ⟨q10, P10, Fi10, Q10, hF10, hl10, hE10, hg10, hput10, hpu010⟩ := (hchk8).focus hz10
   rw [hF10] at H
   refine o_index_F 0 H i rfl Tryz.underlying24 Tryz.sizeOf39 rfl rfl rfl rfl (by first | omega | (simp; omega) | (simp; done)) ?_; intro ba10 hba10; cases hba10
   obtain ⟨oa10, om10, oc10, rfl, hi10, ho10⟩ := hE10; have hy_hi10 : _ ≤ 16777216 := hi10
   have hbk10 : ChkF itemO 3 _ (((xs.set i ⟨mtext kk, z4.dir, z4.ids⟩).set i ⟨z7.path, decide ((kk + 1) % 3 = 0), z7.ids⟩).set i z10) _ := hpu010 _ z10 (show itemO _ _ _ from ⟨_, _, _, rfl, hi10, ho10⟩)
   have hsame10 : ((xs.set i ⟨mtext kk, z4.dir, z4.ids⟩).set i ⟨z7.path, decide ((kk + 1) % 3 = 0), z7.ids⟩).set i z10 = ((xs.set i ⟨mtext kk, z4.dir, z4.ids⟩).set i ⟨z7.path, decide ((kk + 1) % 3 = 0), z7.ids⟩) := Fw.set_same hz10; rw [hsame10] at hbk10
   have hze10 := Fw.set_at hz10
   have hzb10 : z10.ids = z4.ids := by simp only [hze10, hze7]
   have hzc10 : cnt cI z10.ids = cnt cI z4.ids := by rw [hzb10]
   refine o_fieldAddr 2 Tryz.runUnderlying39 rfl Tryz.sizeOf27 rfl rfl rfl ?_
   refine o_load_A 0 H Tryz.isAgg27 rfl rfl rfl (hg10 2 _ rfl) ?_
   refine o_move rfl rfl ?_
   have H := H.toFront (k := 1) rfl
   have H := H.outFi
   refine o_call Tryz.call123 rfl rfl (w_markIntS_c _ _ H.sub _ _ _ ho10 _ H.lent1 ⟨by omega, by omega⟩) ?_
   rintro _ w11 ⟨G11, _, _, rfl, H11', ⟨F11, rfl, rfl, hO11⟩⟩
   have hle1 := hle1.trans H11'.le
   have H := H.borrow1 H11'
   refine ⟨_, rfl, ?_⟩
   have H := H.toFront (k := 2) rfl
   have H := H.toFront (k := 2) rfl
   have H := H.toFront (k := 2) rfl
   have H := H.inFi
   have hcb1 := hpu010 F11 ⟨z10.path, z10.dir, mks mI cI (kk + 1 + 1) z10.ids⟩ (show itemO _ _ _ from ⟨_, _, _, rfl, hi10, hO11⟩)
   refine o_assign rfl rfl ?_
   refine R_nil ?_
   refine N_B ?_
   refine N_K ?_
   refine W_region ?_
   refine o_move rfl rfl ?_
   refine o_add rfl rfl rfl ⟨by omega, by omega⟩ ?_
   refine o_assign rfl rfl ?_
   refine R_nil ?_
   have H := H.toFront (k := 1) rfl
   refine N_LP (hJ := ⟨_, _, _, (((xs.set i ⟨mtext kk, z4.dir, z4.ids⟩).set i ⟨z7.path, decide ((kk + 1) % 3 = 0), z7.ids⟩).set i ⟨z10.path, z10.dir, mks mI cI (kk + 1 + 1) z10.ids⟩), (P10 ++ (F11 ++ Q10)), i + 1, kk + 1 + 1 + (cnt cI z10.ids : Int), _, rfl, hle1, H, ?inv, rfl⟩) (hM := ?hM) (hf := ?hf) (hm := ?hm)
   case hM => (repeat (first | exact Sub.nil | refine Sub.cons rfl ?_))
   case hf => (repeat (first | exact Sub.nil | refine Sub.cons rfl ?_))
   case hm => omega
   case inv => exact ⟨hcb1, (by first | assumption | (simp; omega) | omega), (by exact ⟨by omega, by (rw [cnt_succ hat]; omega), (by (subst hze10; subst hze7; simp only [List.set_set]; exact half_step hxs hz4 hi (by (rw [← hkk]; rfl)))), hv⟩)⟩
  intro hc2'
  try simp only [nrm] at hc2'
  refine W_exit ?_
  refine N_K_exit ?_
  refine N_LP_exit ?_
  refine N_B_same ?_
  refine N_K ?_
  refine q2 ?_
  refine o_move rfl rfl ?_
  refine o_assign rfl rfl ?_
  refine q3 ?_
  refine W_ret ?_
  refine ret_gen (rs := [.tmp 4]) (vs := [_]) Tryz.results68 ⟨rfl, trivial⟩ ?_
  have hie : i = a.length := by omega
  have hxx : xs = mks mItem cItem k a := by (rw [hxs]; exact half_end hie)
  have hce := cnt_end (c := cItem) hie
  have H := H.toFront (k := 1) rfl
  have H := H.toFront (k := 1) rfl
  obtain ⟨Fo2, H, hOw2⟩ := H.ownF hchk1_0 (by first | assumption | rfl | (simp; done) | (simp; omega) | omega) (by first | assumption | (simp; done) | (simp; omega) | omega)
  exact H.retM ⟨_, congrArg (Value.int .i64) (by (rw [hkk, hce])), rfl, hxx ▸ hv ▸ ⟨_, hOw2⟩⟩
theorem w_markSnapS_c (w0 : World) (G0 : PH) (hG : PSub G0 w0) (Fa : Fr) (va : Value) (a : List (BSnap)) (hOa : OSn Fa va a) (k : Int) (hLent : Lent w0 G0 [frag Fa]) (hb : 0 ≤ k ∧ k + (cnt cSnap a : Int) ≤ 2199023255552) :
  Calls Tryz.prog 69 #[va, .int .i64 k] w0 (RetM w0 G0 (fps [frag Fa]) (fun G' v Bs => ∃ (F' : Fr), v = .int .i64 (k + (cnt cSnap a : Int)) ∧ Bs = [frag F'] ∧ OSn F' va (mks mSnap cSnap k a))) := by
 obtain ⟨ea, hPa⟩ := hOa; have hlima : a.length ≤ 1099511627776 := hPa.1; obtain ⟨aa, ka, rfl⟩ := OwnS.shape hPa
 have H : Hp w0 G0 (fps [frag Fa]) w0 G0 [frag Fa] := hLent.hp
 obtain ⟨cla, Ra, H, hcka⟩ := H.openF hPa
 refine calls_of_W (l := [.slice aa a.length ka, .int .i64 k]) Tryz.func69 rfl Tryz.ntmps69 rfl ?_
 refine q2 ?_
 refine o_assign rfl rfl ?_
 refine q3 ?_
 refine W_seq ?_
 refine q2 ?_
 refine o_assign rfl rfl ?_
 refine q3 ?_
 refine W_block ?_
 refine W_loop (hf := (Sub.cons (t := 4) rfl Sub.nil)) (J := fun M w m => ∃ (v : Value) (n : Nat) (cs : List Value) (xs : List (BSnap)) (F : Fr) (i : Nat) (kk : Int) (G : PH), M = [(5, .int .i64 (i : Int)), (1, .int .i64 kk), (0, v)] ∧ PLe G0 G ∧ Hp w0 G0 (fps [frag Fa]) w G [acc ea 2 v n cs, frag F] ∧ (ChkF snapO 2 cs xs F ∧ n = xs.length ∧ i ≤ a.length ∧ kk = k + (cnt cSnap (a.take i) : Int) ∧ xs = mks mSnap cSnap k (a.take i) ++ a.drop i ∧ v = .slice aa a.length ka) ∧ m = (a.length - i)) (h0 := ⟨_, _, _, a, Ra, 0, k, _, rfl, PLe.refl _, H, ?inv, rfl⟩) (hM := ?hM) (round := ?round)
 case hM => (repeat (first | exact Sub.nil | refine Sub.cons rfl ?_))
 case inv => exact ⟨hcka,  by first | rfl | simp | (simp; omega) | omega, (by simp [cnt, mks])⟩
 case round =>
  rintro _ w1 _ ⟨v, n, cs, xs, F, i, kk, G1, rfl, hle1, H, hinv1, rfl⟩
  obtain ⟨hchk1_0, hn1_0, hinv1⟩ := hinv1
  obtain ⟨av1_0, cv1_0, rfl⟩ := H.accShape (k := 0) rfl
  obtain ⟨hi, hkk, hxs, hv⟩ := hinv1; have hxl : xs.length = a.length := (by (rw [hxs]; exact half_len hi)); have hctk := cnt_tk (c := cSnap) a i; have hmt : (mtext kk).length ≤ 16777216 := (by have h9 := mtext_len (k := kk) (by omega); omega)
  refine W_seq ?_
  refine q2 ?_
  refine o_move rfl rfl ?_
  refine o_move rfl rfl ?_
  refine o_len_slice Tryz.underlying51 rfl rfl ?_
  refine o_lss rfl rfl rfl ?_
  refine q3 ?_
  refine W_cond rfl ?_ ?_
  ·intro hc2
   try simp only [nrm] at hc2
   refine W_skip ?_
   refine N_K ?_
   refine W_seq ?_
   refine W_block ?_
   refine q2 ?_
   refine o_move rfl rfl ?_
   refine o_move rfl rfl ?_
   refine o_move rfl rfl ?_
   refine o_call Tryz.call124 rfl rfl (w_markText_c _ _ (by omega)) ?_
   rintro _ w3 ⟨rfl, ew3⟩; have H := H.step ew3; refine ⟨_, rfl, ?_⟩
   obtain ⟨z4, hz4⟩ : ∃ z, xs[i]? = some z := ⟨_, List.getElem?_eq_getElem (by first | omega | (simp; omega))⟩
   obtain ⟨q4, P4, Fi4, Q4, hF4, hl4, hE4, hg4, hput4, hpu04⟩ := (hchk1_0).focus hz4
   rw [hF4] at H
   refine o_index_F 0 H i rfl Tryz.underlying51 Tryz.sizeOf102 rfl rfl rfl rfl (by first | omega | (simp; omega) | (simp; done)) ?_; intro ba4 hba4; cases hba4
   obtain ⟨oa4, om4, oc4, rfl, hi4, ho4⟩ := hE4; have hy_hi4 : _ ≤ 16777216 := hi4
   have hbk4 : ChkF snapO 2 _ (xs.set i z4) _ := hpu04 _ z4 (show snapO _ _ _ from ⟨_, _, _, rfl, hi4, ho4⟩)
   have hsame4 : xs.set i z4 = xs := Fw.set_same hz4; rw [hsame4] at hbk4
   have hat := half_at hxs hz4 hi; have hcl := cnt_le (c := cSnap) hat
   have hch : cSnap z4 = 1 + cnt cItem z4.tree := rfl
   refine o_fieldAddr 0 Tryz.runUnderlying102 rfl Tryz.sizeOf9 rfl rfl rfl ?_
   have hcl5 := (hbk4).length
   have hlt5 : i < xs.length := (List.getElem?_eq_some_iff.1 hz4).1
   try simp only [length_setCs, List.length_set] at hcl5
   try simp only [List.length_set] at hlt5
   refine o_store_A 0 H Tryz.sizeOf9 rfl rfl rfl rfl rfl (by simp only [vc, List.length_cons, List.length_nil, length_setCs]; omega) ?_; intro w5 H
   have hchk5 := hput4 _ ⟨mtext kk, z4.tree⟩ 0 [_] (by simp) (show snapO _ _ _ from ⟨_, _, _, rfl, (by (first | assumption | (refine Sp.l5Parent_lim ?_; assumption) | (simp; done) | (simp; omega) | omega)), ho4⟩)
   refine q1 ?_
   refine o_move rfl rfl ?_
   refine o_add rfl rfl rfl ⟨by omega, by omega⟩ ?_
   refine o_assign rfl rfl ?_
   refine q3 ?_
   refine W_region ?_
   refine o_move rfl rfl ?_
   refine o_move rfl rfl ?_
   obtain ⟨z7, hz7⟩ : ∃ z, (xs.set i ⟨mtext kk, z4.tree⟩)[i]? = some z := ⟨_, List.getElem?_eq_getElem (by first | omega | (simp; omega))⟩
   obtain ⟨q7, P7, Fi7, Q7, hF7, hl7, hE7, hg7, hput7, hpu07⟩ := (hchk5).focus hz7
   rw [hF7] at H
   refine o_index_F 0 H i rfl Tryz.underlying51 Tryz.sizeOf102 rfl rfl rfl rfl (by first | omega | (simp; omega) | (simp; done)) ?_; intro ba7 hba7; cases hba7
   obtain ⟨oa7, om7, oc7, rfl, hi7, ho7⟩ := hE7; have hy_hi7 : _ ≤ 16777216 := hi7
   have hbk7 : ChkF snapO 2 _ ((xs.set i ⟨mtext kk, z4.tree⟩).set i z7) _ := hpu07 _ z7 (show snapO _ _ _ from ⟨_, _, _, rfl, hi7, ho7⟩)
   have hsame7 : (xs.set i ⟨mtext kk, z4.tree⟩).set i z7 = (xs.set i ⟨mtext kk, z4.tree⟩) := Fw.set_same hz7; rw [hsame7] at hbk7
   have hze7 := Fw.set_at hz7
   have hzb7 : z7.tree = z4.tree := by simp only [hze7]
   have hzc7 : cnt cItem z7.tree = cnt cItem z4.tree := by rw [hzb7]
   refine o_fieldAddr 1 Tryz.runUnderlying102 rfl Tryz.sizeOf24 rfl rfl rfl ?_
   refine o_load_A 0 H Tryz.isAgg24 rfl rfl rfl (hg7 1 _ rfl) ?_
   refine o_move rfl rfl ?_
   have H := H.toFront (k := 1) rfl
   have H := H.outFi
   refine o_call Tryz.call68 rfl rfl (w_markItemS_c _ _ H.sub _ _ _ ho7 _ H.lent1 ⟨by omega, by omega⟩) ?_
   rintro _ w8 ⟨G8, _, _, rfl, H8', ⟨F8, rfl, rfl, hO8⟩⟩
   have hle1 := hle1.trans H8'.le
   have H := H.borrow1 H8'
   refine ⟨_, rfl, ?_⟩
   have H := H.toFront (k := 2) rfl
   have H := H.toFront (k := 2) rfl
   have H := H.toFront (k := 2) rfl
   have H := H.inFi
   have hcb1 := hpu07 F8 ⟨z7.name, mks mItem cItem (kk + 1) z7.tree⟩ (show snapO _ _ _ from ⟨_, _, _, rfl, hi7, hO8⟩)
   refine o_assign rfl rfl ?_
   refine R_nil ?_
   refine N_B ?_
   refine N_K ?_
   refine W_region ?_
   refine o_move rfl rfl ?_
   refine o_add rfl rfl rfl ⟨by omega, by omega⟩ ?_
   refine o_assign rfl rfl ?_
   refine R_nil ?_
   have H := H.toFront (k := 1) rfl
   refine N_LP (hJ := ⟨_, _, _, ((xs.set i ⟨mtext kk, z4.tree⟩).set i ⟨z7.name, mks mItem cItem (kk + 1) z7.tree⟩), (P7 ++ (F8 ++ Q7)), i + 1, kk + 1 + (cnt cItem z7.tree : Int), _, rfl, hle1, H, ?inv, rfl⟩) (hM := ?hM) (hf := ?hf) (hm := ?hm)
   case hM => (repeat (first | exact Sub.nil | refine Sub.cons rfl ?_))
   case hf => (repeat (first | exact Sub.nil | refine Sub.cons rfl ?_))
   case hm => omega
   case inv => exact ⟨hcb1, (by first | assumption | (simp; omega) | omega), (by exact ⟨by omega, by (rw [cnt_succ hat]; omega), (by (subst hze7; simp only [List.set_set]; exact half_step hxs hz4 hi (by (rw [← hkk]; rfl)))), hv⟩)⟩
  intro hc2'
  try simp only [nrm] at hc2'
  refine W_exit ?_
  refine N_K_exit ?_
  refine N_LP_exit ?_
  refine N_B_same ?_
  refine N_K ?_
  refine q2 ?_
  refine o_move rfl rfl ?_
  refine o_assign rfl rfl ?_
  refine q3 ?_
  refine W_ret ?_
  refine ret_gen (rs := [.tmp 4]) (vs := [_]) Tryz.results69 ⟨rfl, trivial⟩ ?_
  have hie : i = a.length := by omega
  have hxx : xs = mks mSnap cSnap k a := by (rw [hxs]; exact half_end hie)
  have hce := cnt_end (c := cSnap) hie
  have H := H.toFront (k := 1) rfl
  have H := H.toFront (k := 1) rfl
  obtain ⟨Fo2, H, hOw2⟩ := H.ownF hchk1_0 (by first | assumption | rfl | (simp; done) | (simp; omega) | omega) (by first | assumption | (simp; done) | (simp; omega) | omega)
  exact H.retM ⟨_, congrArg (Value.int .i64) (by (rw [hkk, hce])), rfl, hxx ▸ hv ▸ ⟨_, hOw2⟩⟩
end Go.Proofs.Tst

namespace Go.Proofs.Tst
open Go Fw
theorem w_heldIntS_c (w0 : World) (G0 : PH) (hG : PSub G0 w0) (vb : Value) (b : List (Int)) (hb : RdI G0 vb b) (k : Int) (a : List (Int)) (hab : b = mks mI cI k a) (hb2 : 0 ≤ k ∧ k + (cnt cI a : Int) ≤ 2199023255552) :
  Calls Tryz.prog 125 #[vb, .int .i64 k] w0 (Rets w0 (.int .i64 (k + (cnt cI a : Int)))) := by
 obtain ⟨ab, kb, rfl⟩ := hb.shape
 have hlimb : b.length ≤ 1099511627776 := hb.lim
 have hle : b.length = a.length := by (rw [hab]; exact mks_len _ _)
 have H := Hp.init hG
 refine calls_of_W (l := [.slice ab b.length kb, .int .i64 k]) Tryz.func125 rfl Tryz.ntmps125 rfl ?_
 refine q2 ?_
 refine o_assign rfl rfl ?_
 refine q3 ?_
 refine W_seq ?_
 refine q2 ?_
 refine o_assign rfl rfl ?_
 refine q3 ?_
 refine W_block ?_
 refine W_loop (hf := (Sub.cons (t := 0) rfl Sub.nil)) (J := fun M w m => ∃ (i : Nat) (kk : Int) (G : PH), M = [(5, .int .i64 (i : Int)), (1, .int .i64 kk)] ∧ PLe G0 G ∧ Hp w0 G0 [] w G [] ∧ (i ≤ a.length ∧ kk = k + (cnt cI (a.take i) : Int)) ∧ m = (a.length - i)) (h0 := ⟨0, k, _, rfl, PLe.refl _, H, ?inv, rfl⟩) (hM := ?hM) (round := ?round)
 case hM => (repeat (first | exact Sub.nil | refine Sub.cons rfl ?_))
 case inv => simp [cnt]
 case round =>
  rintro _ w1 _ ⟨i, kk, G1, rfl, hle1, H, hinv1, rfl⟩
  have hb := hb.up hle1
  obtain ⟨hi, hkk⟩ := hinv1; have hctk := cnt_tk (c := cI) a i
  refine W_seq ?_
  refine q2 ?_
  refine o_move rfl rfl ?_
  refine o_move rfl rfl ?_
  refine o_len_slice Tryz.underlying27 rfl rfl ?_
  refine o_lss rfl rfl rfl ?_
  refine q3 ?_
  refine W_cond rfl ?_ ?_
  ·intro hc2
   try simp only [nrm] at hc2
   refine W_skip ?_
   refine N_K ?_
   refine W_seq ?_
   refine W_block ?_
   refine W_seq ?_
   refine q2 ?_
   refine o_move rfl rfl ?_
   refine o_move rfl rfl ?_
   refine o_index_P i hb Tryz.underlying27 Tryz.sizeOf3 rfl rfl rfl rfl (by first | omega | (simp; omega)) ?_; intro b3 o3 z3 q3 hz3 hE3 hrow3
   obtain ⟨rfl, hi3⟩ := hE3
   obtain ⟨x, hx⟩ : ∃ x, a[i]? = some x := ⟨_, List.getElem?_eq_getElem (by omega)⟩
   have hzm := mks_get hx (hab ▸ hz3); rw [← hkk] at hzm; have hcl := cnt_le (c := cI) hx
   have hzi : z3 = kk := hzm; have hch : cI x = 1 := rfl
   refine o_load_P H Tryz.isAgg3 rfl rfl (hrow3 0 _ rfl) ?_
   refine o_move rfl rfl ?_
   refine o_neq rfl rfl rfl ?_
   refine q3 ?_
   refine W_cond rfl ?_ ?_
   ·intro hc4
    try simp only [nrm] at hc4
    refine q2 ?_
    refine o_assign rfl rfl ?_
    refine q3 ?_
    refine W_ret ?_
    refine N_K_ret ?_
    refine N_B_ret ?_
    refine N_K_ret ?_
    refine N_LP_ret ?_
    refine N_B_ret ?_
    refine N_K_ret ?_
    refine ret_gen (rs := [.tmp 4]) (vs := [_]) Tryz.results125 ⟨rfl, trivial⟩ ?_
    exact absurd (show False from by first | omega | (exact hc4 (by (rw [hzm]; first | rfl | (rw [← hkk]; rfl)))) | (have h9 := hc4; rw [hzm] at h9; simp [mI] at h9; done)) id
   intro hc4'
   try simp only [nrm] at hc4'
   refine W_skip ?_
   refine N_K ?_
   refine W_region ?_
   refine o_move rfl rfl ?_
   refine o_add rfl rfl rfl ⟨by omega, by omega⟩ ?_
   refine o_assign rfl rfl ?_
   refine R_nil ?_
   refine N_B ?_
   refine N_K ?_
   refine W_region ?_
   refine o_move rfl rfl ?_
   refine o_add rfl rfl rfl ⟨by omega, by omega⟩ ?_
   refine o_assign rfl rfl ?_
   refine R_nil ?_
   refine N_LP (hJ := ⟨i + 1, kk + 1, _, rfl, hle1, H, ?inv, rfl⟩) (hM := ?hM) (hf := ?hf) (hm := ?hm)
   case hM => (repeat (first | exact Sub.nil | refine Sub.cons rfl ?_))
   case hf => (repeat (first | exact Sub.nil | refine Sub.cons rfl ?_))
   case hm => omega
   case inv => exact ⟨by omega, by (rw [cnt_succ hx]; omega)⟩
  intro hc2'
  try simp only [nrm] at hc2'
  refine W_exit ?_
  refine N_K_exit ?_
  refine N_LP_exit ?_
  refine N_B_same ?_
  refine N_K ?_
  refine q2 ?_
  refine o_move rfl rfl ?_
  refine o_assign rfl rfl ?_
  refine q3 ?_
  refine W_ret ?_
  refine ret_gen (rs := [.tmp 4]) (vs := [_]) Tryz.results125 ⟨rfl, trivial⟩ ?_
  have hie : i = a.length := by omega
  have hce := cnt_end (c := cI) hie
  exact H.rets (congrArg (Value.int .i64) (by (rw [hkk, hce])))
theorem w_heldHeldS_c (w0 : World) (G0 : PH) (hG : PSub G0 w0) (vb : Value) (b : List (BHeld)) (hb : RdH G0 vb b) (k : Int) (a : List (BHeld)) (hab : b = mks mHeld cHeld k a) (hb2 : 0 ≤ k ∧ k + (cnt cHeld a : Int) ≤ 2199023255552) :
  Calls Tryz.prog 70 #[vb, .int .i64 k] w0 (Rets w0 (.int .i64 (k + (cnt cHeld a : Int)))) := by
 obtain ⟨ab, kb, rfl⟩ := hb.shape
 have hlimb : b.length ≤ 1099511627776 := hb.lim
 have hle : b.length = a.length := by (rw [hab]; exact mks_len _ _)
 have H := Hp.init hG
 refine calls_of_W (l := [.slice ab b.length kb, .int .i64 k]) Tryz.func70 rfl Tryz.ntmps70 rfl ?_
 refine q2 ?_
 refine o_assign rfl rfl ?_
 refine q3 ?_
 refine W_seq ?_
 refine q2 ?_
 refine o_assign rfl rfl ?_
 refine q3 ?_
 refine W_block ?_
 refine W_loop (hf := (Sub.cons (t := 0) rfl Sub.nil)) (J := fun M w m => ∃ (i : Nat) (kk : Int) (G : PH), M = [(5, .int .i64 (i : Int)), (1, .int .i64 kk)] ∧ PLe G0 G ∧ Hp w0 G0 [] w G [] ∧ (i ≤ a.length ∧ kk = k + (cnt cHeld (a.take i) : Int)) ∧ m = (a.length - i)) (h0 := ⟨0, k, _, rfl, PLe.refl _, H, ?inv, rfl⟩) (hM := ?hM) (round := ?round)
 case hM => (repeat (first | exact Sub.nil | refine Sub.cons rfl ?_))
 case inv => simp [cnt]
 case round =>
  rintro _ w1 _ ⟨i, kk, G1, rfl, hle1, H, hinv1, rfl⟩
  have hb := hb.up hle1
  obtain ⟨hi, hkk⟩ := hinv1; have hctk := cnt_tk (c := cHeld) a i
  refine W_seq ?_
  refine q2 ?_
  refine o_move rfl rfl ?_
  refine o_move rfl rfl ?_
  refine o_len_slice Tryz.underlying23 rfl rfl ?_
  refine o_lss rfl rfl rfl ?_
  refine q3 ?_
  refine W_cond rfl ?_ ?_
  ·intro hc2
   try simp only [nrm] at hc2
   refine W_skip ?_
   refine N_K ?_
   refine W_seq ?_
   refine W_block ?_
   refine W_seq ?_
   refine q2 ?_
   refine o_move rfl rfl ?_
   refine o_move rfl rfl ?_
   refine o_index_P i hb Tryz.underlying23 Tryz.sizeOf117 rfl rfl rfl rfl (by first | omega | (simp; omega)) ?_; intro b3 o3 z3 q3 hz3 hE3 hrow3
   obtain ⟨a3, m3, c3, rfl, hi3, hr3, hj3⟩ := hE3; have hn_hr3 := hr3.len; have hx_hr3 : _ ≤ 1099511627776 := hr3.lim
   obtain ⟨x, hx⟩ : ∃ x, a[i]? = some x := ⟨_, List.getElem?_eq_getElem (by omega)⟩
   have hzm := mks_get hx (hab ▸ hz3); rw [← hkk] at hzm; have hcl := cnt_le (c := cHeld) hx
   have hch : cHeld x = 2 + cnt cI x.bytes := rfl
   have hzi : z3.id = kk := by (rw [hzm]; rfl)
   have hzu : z3.uses = kk + 1 + (cnt cI x.bytes : Int) := by (rw [hzm]; rfl)
   refine o_fieldAddr 0 Tryz.runUnderlying117 rfl Tryz.sizeOf3 rfl rfl rfl ?_
   refine o_load_P H Tryz.isAgg3 rfl rfl (hrow3 0 _ rfl) ?_
   refine o_move rfl rfl ?_
   refine o_neq rfl rfl rfl ?_
   refine q3 ?_
   refine W_cond rfl ?_ ?_
   ·intro hc4
    try simp only [nrm] at hc4
    refine q2 ?_
    refine o_assign rfl rfl ?_
    refine q3 ?_
    refine W_ret ?_
    refine N_K_ret ?_
    refine N_B_ret ?_
    refine N_K_ret ?_
    refine N_LP_ret ?_
    refine N_B_ret ?_
    refine N_K_ret ?_
    refine ret_gen (rs := [.tmp 4]) (vs := [_]) Tryz.results70 ⟨rfl, trivial⟩ ?_
    exact absurd (show False from by first | omega | (exact hc4 (by (rw [hzm]; first | rfl | (rw [← hkk]; rfl)))) | (have h9 := hc4; rw [hzm] at h9; simp [mHeld] at h9; done)) id
   intro hc4'
   try simp only [nrm] at hc4'
   refine W_skip ?_
   refine N_K ?_
   refine q2 ?_
   refine o_move rfl rfl ?_
   refine o_add rfl rfl rfl ⟨by omega, by omega⟩ ?_
   refine o_assign rfl rfl ?_
   refine q1 ?_
   refine o_move rfl rfl ?_
   refine o_move rfl rfl ?_
   refine o_index_P i hb Tryz.underlying23 Tryz.sizeOf117 rfl rfl rfl rfl (by first | omega | (simp; omega)) ?_; intro b6 o6 z6 q6 hz6 hE6 hrow6
   obtain ⟨a6, m6, c6, rfl, hi6, hr6, hj6⟩ := hE6; have hn_hr6 := hr6.len; have hx_hr6 : _ ≤ 1099511627776 := hr6.lim
   have hzz6 : z3 = z6 := Option.some.inj (hz3.symm.trans hz6)
   subst hzz6
   refine o_fieldAddr 1 Tryz.runUnderlying117 rfl Tryz.sizeOf27 rfl rfl rfl ?_
   refine o_load_P H Tryz.isAgg27 rfl rfl (hrow6 1 _ rfl) ?_
   refine o_move rfl rfl ?_
   refine o_call Tryz.call125 rfl rfl (w_heldIntS_c _ _ H.sub _ _ hr6 _ x.bytes (by (rw [hzm]; rfl)) ⟨by omega, by omega⟩) ?_
   rintro _ w7 ⟨rfl, ew7⟩; have H := H.step ew7; refine ⟨_, rfl, ?_⟩
   refine o_assign rfl rfl ?_
   refine q3 ?_
   refine W_seq ?_
   refine q2 ?_
   refine o_move rfl rfl ?_
   refine o_lss rfl rfl rfl ?_
   refine q3 ?_
   refine W_cond rfl ?_ ?_
   ·intro hc8
    try simp only [nrm] at hc8
    refine q2 ?_
    refine o_assign rfl rfl ?_
    refine q3 ?_
    refine W_ret ?_
    refine N_K_ret ?_
    refine N_B_ret ?_
    refine N_K_ret ?_
    refine N_LP_ret ?_
    refine N_B_ret ?_
    refine N_K_ret ?_
    refine ret_gen (rs := [.tmp 4]) (vs := [_]) Tryz.results70 ⟨rfl, trivial⟩ ?_
    exact absurd (show False from by first | omega | (exact hc8 (by (rw [hzm]; first | rfl | (rw [← hkk]; rfl)))) | (have h9 := hc8; rw [hzm] at h9; simp [mHeld] at h9; done)) id
   intro hc8'
   try simp only [nrm] at hc8'
   refine W_skip ?_
   refine N_K ?_
   refine W_seq ?_
   refine q2 ?_
   refine o_move rfl rfl ?_
   refine o_move rfl rfl ?_
   refine o_index_P i hb Tryz.underlying23 Tryz.sizeOf117 rfl rfl rfl rfl (by first | omega | (simp; omega)) ?_; intro b9 o9 z9 q9 hz9 hE9 hrow9
   obtain ⟨a9, m9, c9, rfl, hi9, hr9, hj9⟩ := hE9; have hn_hr9 := hr9.len; have hx_hr9 : _ ≤ 1099511627776 := hr9.lim
   have hzz9 : z3 = z9 := Option.some.inj (hz3.symm.trans hz9)
   subst hzz9
   refine o_fieldAddr 2 Tryz.runUnderlying117 rfl Tryz.sizeOf3 rfl rfl rfl ?_
   refine o_load_P H Tryz.isAgg3 rfl rfl (hrow9 2 _ rfl) ?_
   refine o_move rfl rfl ?_
   refine o_neq rfl rfl rfl ?_
   refine q3 ?_
   refine W_cond rfl ?_ ?_
   ·intro hc10
    try simp only [nrm] at hc10
    refine q2 ?_
    refine o_assign rfl rfl ?_
    refine q3 ?_
    refine W_ret ?_
    refine N_K_ret ?_
    refine N_B_ret ?_
    refine N_K_ret ?_
    refine N_LP_ret ?_
    refine N_B_ret ?_
    refine N_K_ret ?_
    refine ret_gen (rs := [.tmp 4]) (vs := [_]) Tryz.results70 ⟨rfl, trivial⟩ ?_
    exact absurd (show False from by first | omega | (exact hc10 (by (rw [hzm]; first | rfl | (rw [← hkk]; rfl)))) | (have h9 := hc10; rw [hzm] at h9; simp [mHeld] at h9; done)) id
   intro hc10'
   try simp only [nrm] at hc10'
   refine W_skip ?_
   refine N_K ?_
   refine W_region ?_
   refine o_move rfl rfl ?_
   refine o_add rfl rfl rfl ⟨by omega, by omega⟩ ?_
   refine o_assign rfl rfl ?_
   refine R_nil ?_
   refine N_B ?_
   refine N_K ?_
   refine W_region ?_
   refine o_move rfl rfl ?_
   refine o_add rfl rfl rfl ⟨by omega, by omega⟩ ?_
   refine o_assign rfl rfl ?_
   refine R_nil ?_
   refine N_LP (hJ := ⟨i + 1, kk + 1 + (cnt cI x.bytes : Int) + 1, _, rfl, hle1, H, ?inv, rfl⟩) (hM := ?hM) (hf := ?hf) (hm := ?hm)
   case hM => (repeat (first | exact Sub.nil | refine Sub.cons rfl ?_))
   case hf => (repeat (first | exact Sub.nil | refine Sub.cons rfl ?_))
   case hm => omega
   case inv => exact ⟨by omega, by (rw [cnt_succ hx]; omega)⟩
  intro hc2'
  try simp only [nrm] at hc2'
  refine W_exit ?_
  refine N_K_exit ?_
  refine N_LP_exit ?_
  refine N_B_same ?_
  refine N_K ?_
  refine q2 ?_
  refine o_move rfl rfl ?_
  refine o_assign rfl rfl ?_
  refine q3 ?_
  refine W_ret ?_
  refine ret_gen (rs := [.tmp 4]) (vs := [_]) Tryz.results70 ⟨rfl, trivial⟩ ?_
  have hie : i = a.length := by omega
  have hce := cnt_end (c := cHeld) hie
  exact H.rets (congrArg (Value.int .i64) (by (rw [hkk, hce])))
theorem w_heldItemS_c (w0 : World) (G0 : PH) (hG : PSub G0 w0) (vb : Value) (b : List (BItem)) (hb : RdItems G0 vb b) (k : Int) (a : List (BItem)) (hab : b = mks mItem cItem k a) (hb2 : 0 ≤ k ∧ k + (cnt cItem a : Int) ≤ 2199023255552) :
  Calls Tryz.prog 71 #[vb, .int .i64 k] w0 (Rets w0 (.int .i64 (k + (cnt cItem a : Int)))) := by
 obtain ⟨ab, kb, rfl⟩ := hb.shape
 have hlimb : b.length ≤ 1099511627776 := hb.lim
 have hle : b.length = a.length := by (rw [hab]; exact mks_len _ _)
 have H := Hp.init hG
 refine calls_of_W (l := [.slice ab b.length kb, .int .i64 k]) Tryz.func71 rfl Tryz.ntmps71 rfl ?_
 refine q2 ?_
 refine o_assign rfl rfl ?_
 refine q3 ?_
 refine W_seq ?_
 refine q2 ?_
 refine o_assign rfl rfl ?_
 refine q3 ?_
 refine W_block ?_
 refine W_loop (hf := (Sub.cons (t := 0) rfl Sub.nil)) (J := fun M w m => ∃ (i : Nat) (kk : Int) (G : PH), M = [(5, .int .i64 (i : Int)), (1, .int .i64 kk)] ∧ PLe G0 G ∧ Hp w0 G0 [] w G [] ∧ (i ≤ a.length ∧ kk = k + (cnt cItem (a.take i) : Int)) ∧ m = (a.length - i)) (h0 := ⟨0, k, _, rfl, PLe.refl _, H, ?inv, rfl⟩) (hM := ?hM) (round := ?round)
 case hM => (repeat (first | exact Sub.nil | refine Sub.cons rfl ?_))
 case inv => simp [cnt]
 case round =>
  rintro _ w1 _ ⟨i, kk, G1, rfl, hle1, H, hinv1, rfl⟩
  have hb := hb.up hle1
  obtain ⟨hi, hkk⟩ := hinv1; have hctk := cnt_tk (c := cItem) a i
  refine W_seq ?_
  refine q2 ?_
  refine o_move rfl rfl ?_
  refine o_move rfl rfl ?_
  refine o_len_slice Tryz.underlying24 rfl rfl ?_
  refine o_lss rfl rfl rfl ?_
  refine q3 ?_
  refine W_cond rfl ?_ ?_
  ·intro hc2
   try simp only [nrm] at hc2
   refine W_skip ?_
   refine N_K ?_
   refine W_seq ?_
   refine W_block ?_
   refine W_seq ?_
   refine W_seq ?_
   refine W_drawK [] 8 H (by kernel_rfl) rfl ?_; intro w3 H; have hd3 := PLe.refl G1
   refine RD_t 0 rfl (by kernel_rfl) rfl (fun _ hK => v_move rfl) ?_
   refine RD_t 1 rfl (by kernel_rfl) rfl (fun _ hK => v_move rfl) ?_
   have hl4 := hb.len
   obtain ⟨b4, o4, z4, q4, ha4, hz4, hq4, hE4, hrow4, _⟩ := hb.at (i := i) (by omega)
   clear hq4
   obtain ⟨a4, m4, c4, rfl, hi4, hr4⟩ := hE4; have hy_hi4 : _ ≤ 16777216 := hi4; have hn_hr4 := hr4.len; have hx_hr4 : _ ≤ 1099511627776 := hr4.lim
   obtain ⟨x, hx⟩ : ∃ x, a[i]? = some x := ⟨_, List.getElem?_eq_getElem (by omega)⟩
   have hzm := mks_get hx (hab ▸ hz4); rw [← hkk] at hzm; have hcl := cnt_le (c := cItem) hx
   have hch : cItem x = 2 + cnt cI x.ids := rfl
   refine RD_t 2 rfl (by kernel_rfl) rfl (fun _ hK => v_index_P (i := i) ha4 Tryz.underlying24 Tryz.sizeOf39 rfl rfl rfl (by omega)) ?_
   refine RD_t 3 rfl (by kernel_rfl) rfl (fun _ hK => v_fieldAddr 0 Tryz.runUnderlying39 rfl Tryz.sizeOf9 rfl rfl) ?_
   refine RD_t 4 rfl (by kernel_rfl) rfl (fun _ hK => v_load_P hK Tryz.isAgg9 rfl (hrow4 0 _ rfl)) ?_
   refine RD_t 5 rfl (by kernel_rfl) rfl (fun _ hK => v_move rfl) ?_
   refine RD_run [6] (by kernel_rfl) rfl (RDs.cons rfl ?_ RDs.nil)
   refine o_call Tryz.call124 rfl rfl (w_markText_c _ _ (by omega)) ?_
   rintro _ w5 ⟨rfl, ew5⟩; have H := H.step ew5; refine ⟨_, rfl, ?_⟩
   refine R_nil ?_
   refine N_DK (Kn.of' H hd3 SubL.nil) ?_
   refine RD_t 7 rfl (by kernel_rfl) rfl (fun _ hK => v_sneq rfl rfl) ?_
   refine RD_done (by kernel_rfl) ?_
   refine N_K ?_
   refine W_cond rfl ?_ ?_
   ·intro hc6
    try simp only [nrm] at hc6
    refine q2 ?_
    refine o_assign rfl rfl ?_
    refine q3 ?_
    refine W_ret ?_
    refine N_K_ret ?_
    refine N_B_ret ?_
    refine N_K_ret ?_
    refine N_LP_ret ?_
    refine N_B_ret ?_
    refine N_K_ret ?_
    refine ret_gen (rs := [.tmp 4]) (vs := [_]) Tryz.results71 ⟨rfl, trivial⟩ ?_
    exact absurd (show False from by first | omega | (exact hc6 (by (rw [hzm]; first | rfl | (rw [← hkk]; rfl)))) | (have h9 := hc6; rw [hzm] at h9; simp [mItem] at h9; done)) id
   intro hc6'
   try simp only [nrm] at hc6'
   refine W_skip ?_
   refine N_K ?_
   refine q2 ?_
   refine o_move rfl rfl ?_
   refine o_add rfl rfl rfl ⟨by omega, by omega⟩ ?_
   refine o_assign rfl rfl ?_
   refine q3 ?_
   refine W_seq ?_
   refine q2 ?_
   refine o_move rfl rfl ?_
   refine o_move rfl rfl ?_
   refine o_index_P i hb Tryz.underlying24 Tryz.sizeOf39 rfl rfl rfl rfl (by first | omega | (simp; omega)) ?_; intro b8 o8 z8 q8 hz8 hE8 hrow8
   obtain ⟨a8, m8, c8, rfl, hi8, hr8⟩ := hE8; have hy_hi8 : _ ≤ 16777216 := hi8; have hn_hr8 := hr8.len; have hx_hr8 : _ ≤ 1099511627776 := hr8.lim
   have hzz8 : z4 = z8 := Option.some.inj (hz4.symm.trans hz8)
   subst hzz8
   refine o_fieldAddr 1 Tryz.runUnderlying39 rfl Tryz.sizeOf4 rfl rfl rfl ?_
   refine o_load_P H Tryz.isAgg4 rfl rfl (hrow8 1 _ rfl) ?_
   refine o_move rfl rfl ?_
   refine o_rem rfl rfl rfl (by omega) (by omega) ?_
   refine o_eql rfl rfl rfl ?_
   refine o_bneq Tryz.underlying4 rfl rfl rfl ?_
   refine q3 ?_
   refine W_cond rfl ?_ ?_
   ·intro hc9
    try simp only [nrm] at hc9
    refine q2 ?_
    refine o_assign rfl rfl ?_
    refine q3 ?_
    refine W_ret ?_
    refine N_K_ret ?_
    refine N_B_ret ?_
    refine N_K_ret ?_
    refine N_LP_ret ?_
    refine N_B_ret ?_
    refine N_K_ret ?_
    refine ret_gen (rs := [.tmp 4]) (vs := [_]) Tryz.results71 ⟨rfl, trivial⟩ ?_
    exact absurd (show False from by first | omega | (exact hc9 (by (rw [hzm]; first | rfl | (rw [← hkk]; rfl)))) | (have h9 := hc9; rw [hzm] at h9; simp [mItem] at h9; done)) id
   intro hc9'
   try simp only [nrm] at hc9'
   refine W_skip ?_
   refine N_K ?_
   refine q2 ?_
   refine o_move rfl rfl ?_
   refine o_add rfl rfl rfl ⟨by omega, by omega⟩ ?_
   refine o_assign rfl rfl ?_
   refine q1 ?_
   refine o_move rfl rfl ?_
   refine o_move rfl rfl ?_
   refine o_index_P i hb Tryz.underlying24 Tryz.sizeOf39 rfl rfl rfl rfl (by first | omega | (simp; omega)) ?_; intro b11 o11 z11 q11 hz11 hE11 hrow11
   obtain ⟨a11, m11, c11, rfl, hi11, hr11⟩ := hE11; have hy_hi11 : _ ≤ 16777216 := hi11; have hn_hr11 := hr11.len; have hx_hr11 : _ ≤ 1099511627776 := hr11.lim
   have hzz11 : z4 = z11 := Option.some.inj (hz4.symm.trans hz11)
   subst hzz11
   refine o_fieldAddr 2 Tryz.runUnderlying39 rfl Tryz.sizeOf27 rfl rfl rfl ?_
   refine o_load_P H Tryz.isAgg27 rfl rfl (hrow11 2 _ rfl) ?_
   refine o_move rfl rfl ?_
   refine o_call Tryz.call125 rfl rfl (w_heldIntS_c _ _ H.sub _ _ hr11 _ x.ids (by (rw [hzm]; rfl)) ⟨by omega, by omega⟩) ?_
   rintro _ w12 ⟨rfl, ew12⟩; have H := H.step ew12; refine ⟨_, rfl, ?_⟩
   refine o_assign rfl rfl ?_
   refine q1 ?_
   refine o_move rfl rfl ?_
   refine o_lss rfl rfl rfl ?_
   refine q3 ?_
   refine W_cond rfl ?_ ?_
   ·intro hc13
    try simp only [nrm] at hc13
    refine q2 ?_
    refine o_assign rfl rfl ?_
    refine q3 ?_
    refine W_ret ?_
    refine N_B_ret ?_
    refine N_K_ret ?_
    refine N_LP_ret ?_
    refine N_B_ret ?_
    refine N_K_ret ?_
    refine ret_gen (rs := [.tmp 4]) (vs := [_]) Tryz.results71 ⟨rfl, trivial⟩ ?_
    exact absurd (show False from by first | omega | (exact hc13 (by (rw [hzm]; first | rfl | (rw [← hkk]; rfl)))) | (have h9 := hc13; rw [hzm] at h9; simp [mItem] at h9; done)) id
   intro hc13'
   try simp only [nrm] at hc13'
   refine W_skip ?_
   refine N_B ?_
   refine N_K ?_
   refine W_region ?_
   refine o_move rfl rfl ?_
   refine o_add rfl rfl rfl ⟨by omega, by omega⟩ ?_
   refine o_assign rfl rfl ?_
   refine R_nil ?_
   refine N_LP (hJ := ⟨i + 1, kk + 1 + 1 + (cnt cI x.ids : Int), _, rfl, hle1, H, ?inv, rfl⟩) (hM := ?hM) (hf := ?hf) (hm := ?hm)
   case hM => (repeat (first | exact Sub.nil | refine Sub.cons rfl ?_))
   case hf => (repeat (first | exact Sub.nil | refine Sub.cons rfl ?_))
   case hm => omega
   case inv => exact ⟨by omega, by (rw [cnt_succ hx]; omega)⟩
  intro hc2'
  try simp only [nrm] at hc2'
  refine W_exit ?_
  refine N_K_exit ?_
  refine N_LP_exit ?_
  refine N_B_same ?_
  refine N_K ?_
  refine q2 ?_
  refine o_move rfl rfl ?_
  refine o_assign rfl rfl ?_
  refine q3 ?_
  refine W_ret ?_
  refine ret_gen (rs := [.tmp 4]) (vs := [_]) Tryz.results71 ⟨rfl, trivial⟩ ?_
  have hie : i = a.length := by omega
  have hce := cnt_end (c := cItem) hie
  exact H.rets (congrArg (Value.int .i64) (by (rw [hkk, hce])))
theorem w_heldSnapS_c (w0 : World) (G0 : PH) (hG : PSub G0 w0) (vb : Value) (b : List (BSnap)) (hb : RdSn G0 vb b) (k : Int) (a : List (BSnap)) (hab : b = mks mSnap cSnap k a) (hb2 : 0 ≤ k ∧ k + (cnt cSnap a : Int) ≤ 2199023255552) :
  Calls Tryz.prog 72 #[vb, .int .i64 k] w0 (Rets w0 (.int .i64 (k + (cnt cSnap a : Int)))) := by
 obtain ⟨ab, kb, rfl⟩ := hb.shape
 have hlimb : b.length ≤ 1099511627776 := hb.lim
 have hle : b.length = a.length := by (rw [hab]; exact mks_len _ _)
 have H := Hp.init hG
 refine calls_of_W (l := [.slice ab b.length kb, .int .i64 k]) Tryz.func72 rfl Tryz.ntmps72 rfl ?_
 refine q2 ?_
 refine o_assign rfl rfl ?_
 refine q3 ?_
 refine W_seq ?_
 refine q2 ?_
 refine o_assign rfl rfl ?_
 refine q3 ?_
 refine W_block ?_
 refine W_loop (hf := (Sub.cons (t := 0) rfl Sub.nil)) (J := fun M w m => ∃ (i : Nat) (kk : Int) (G : PH), M = [(5, .int .i64 (i : Int)), (1, .int .i64 kk)] ∧ PLe G0 G ∧ Hp w0 G0 [] w G [] ∧ (i ≤ a.length ∧ kk = k + (cnt cSnap (a.take i) : Int)) ∧ m = (a.length - i)) (h0 := ⟨0, k, _, rfl, PLe.refl _, H, ?inv, rfl⟩) (hM := ?hM) (round := ?round)
 case hM => (repeat (first | exact Sub.nil | refine Sub.cons rfl ?_))
 case inv => simp [cnt]
 case round =>
  rintro _ w1 _ ⟨i, kk, G1, rfl, hle1, H, hinv1, rfl⟩
  have hb := hb.up hle1
  obtain ⟨hi, hkk⟩ := hinv1; have hctk := cnt_tk (c := cSnap) a i
  refine W_seq ?_
  refine q2 ?_
  refine o_move rfl rfl ?_
  refine o_move rfl rfl ?_
  refine o_len_slice Tryz.underlying51 rfl rfl ?_
  refine o_lss rfl rfl rfl ?_
  refine q3 ?_
  refine W_cond rfl ?_ ?_
  ·intro hc2
   try simp only [nrm] at hc2
   refine W_skip ?_
   refine N_K ?_
   refine W_seq ?_
   refine W_block ?_
   refine W_seq ?_
   refine W_seq ?_
   refine W_drawK [] 8 H (by kernel_rfl) rfl ?_; intro w3 H; have hd3 := PLe.refl G1
   refine RD_t 0 rfl (by kernel_rfl) rfl (fun _ hK => v_move rfl) ?_
   refine RD_t 1 rfl (by kernel_rfl) rfl (fun _ hK => v_move rfl) ?_
   have hl4 := hb.len
   obtain ⟨b4, o4, z4, q4, ha4, hz4, hq4, hE4, hrow4, _⟩ := hb.at (i := i) (by omega)
   clear hq4
   obtain ⟨a4, m4, c4, rfl, hi4, hr4⟩ := hE4; have hy_hi4 : _ ≤ 16777216 := hi4; have hn_hr4 := hr4.len; have hx_hr4 : _ ≤ 1099511627776 := hr4.lim
   obtain ⟨x, hx⟩ : ∃ x, a[i]? = some x := ⟨_, List.getElem?_eq_getElem (by omega)⟩
   have hzm := mks_get hx (hab ▸ hz4); rw [← hkk] at hzm; have hcl := cnt_le (c := cSnap) hx
   have hch : cSnap x = 1 + cnt cItem x.tree := rfl
   refine RD_t 2 rfl (by kernel_rfl) rfl (fun _ hK => v_index_P (i := i) ha4 Tryz.underlying51 Tryz.sizeOf102 rfl rfl rfl (by omega)) ?_
   refine RD_t 3 rfl (by kernel_rfl) rfl (fun _ hK => v_fieldAddr 0 Tryz.runUnderlying102 rfl Tryz.sizeOf9 rfl rfl) ?_
   refine RD_t 4 rfl (by kernel_rfl) rfl (fun _ hK => v_load_P hK Tryz.isAgg9 rfl (hrow4 0 _ rfl)) ?_
   refine RD_t 5 rfl (by kernel_rfl) rfl (fun _ hK => v_move rfl) ?_
   refine RD_run [6] (by kernel_rfl) rfl (RDs.cons rfl ?_ RDs.nil)
   refine o_call Tryz.call124 rfl rfl (w_markText_c _ _ (by omega)) ?_
   rintro _ w5 ⟨rfl, ew5⟩; have H := H.step ew5; refine ⟨_, rfl, ?_⟩
   refine R_nil ?_
   refine N_DK (Kn.of' H hd3 SubL.nil) ?_
   refine RD_t 7 rfl (by kernel_rfl) rfl (fun _ hK => v_sneq rfl rfl) ?_
   refine RD_done (by kernel_rfl) ?_
   refine N_K ?_
   refine W_cond rfl ?_ ?_
   ·intro hc6
    try simp only [nrm] at hc6
    refine q2 ?_
    refine o_assign rfl rfl ?_
    refine q3 ?_
    refine W_ret ?_
    refine N_K_ret ?_
    refine N_B_ret ?_
    refine N_K_ret ?_
    refine N_LP_ret ?_
    refine N_B_ret ?_
    refine N_K_ret ?_
    refine ret_gen (rs := [.tmp 4]) (vs := [_]) Tryz.results72 ⟨rfl, trivial⟩ ?_
    exact absurd (show False from by first | omega | (exact hc6 (by (rw [hzm]; first | rfl | (rw [← hkk]; rfl)))) | (have h9 := hc6; rw [hzm] at h9; simp [mSnap] at h9; done)) id
   intro hc6'
   try simp only [nrm] at hc6'
   refine W_skip ?_
   refine N_K ?_
   refine q2 ?_
   refine o_move rfl rfl ?_
   refine o_add rfl rfl rfl ⟨by omega, by omega⟩ ?_
   refine o_assign rfl rfl ?_
   refine q1 ?_
   refine o_move rfl rfl ?_
   refine o_move rfl rfl ?_
   refine o_index_P i hb Tryz.underlying51 Tryz.sizeOf102 rfl rfl rfl rfl (by first | omega | (simp; omega)) ?_; intro b8 o8 z8 q8 hz8 hE8 hrow8
   obtain ⟨a8, m8, c8, rfl, hi8, hr8⟩ := hE8; have hy_hi8 : _ ≤ 16777216 := hi8; have hn_hr8 := hr8.len; have hx_hr8 : _ ≤ 1099511627776 := hr8.lim
   have hzz8 : z4 = z8 := Option.some.inj (hz4.symm.trans hz8)
   subst hzz8
   refine o_fieldAddr 1 Tryz.runUnderlying102 rfl Tryz.sizeOf24 rfl rfl rfl ?_
   refine o_load_P H Tryz.isAgg24 rfl rfl (hrow8 1 _ rfl) ?_
   refine o_move rfl rfl ?_
   refine o_call Tryz.call71 rfl rfl (w_heldItemS_c _ _ H.sub _ _ hr8 _ x.tree (by (rw [hzm]; rfl)) ⟨by omega, by omega⟩) ?_
   rintro _ w9 ⟨rfl, ew9⟩; have H := H.step ew9; refine ⟨_, rfl, ?_⟩
   refine o_assign rfl rfl ?_
   refine q1 ?_
   refine o_move rfl rfl ?_
   refine o_lss rfl rfl rfl ?_
   refine q3 ?_
   refine W_cond rfl ?_ ?_
   ·intro hc10
    try simp only [nrm] at hc10
    refine q2 ?_
    refine o_assign rfl rfl ?_
    refine q3 ?_
    refine W_ret ?_
    refine N_B_ret ?_
    refine N_K_ret ?_
    refine N_LP_ret ?_
    refine N_B_ret ?_
    refine N_K_ret ?_
    refine ret_gen (rs := [.tmp 4]) (vs := [_]) Tryz.results72 ⟨rfl, trivial⟩ ?_
    exact absurd (show False from by first | omega | (exact hc10 (by (rw [hzm]; first | rfl | (rw [← hkk]; rfl)))) | (have h9 := hc10; rw [hzm] at h9; simp [mSnap] at h9; done)) id
   intro hc10'
   try simp only [nrm] at hc10'
   refine W_skip ?_
   refine N_B ?_
   refine N_K ?_
   refine W_region ?_
   refine o_move rfl rfl ?_
   refine o_add rfl rfl rfl ⟨by omega, by omega⟩ ?_
   refine o_assign rfl rfl ?_
   refine R_nil ?_
   refine N_LP (hJ := ⟨i + 1, kk + 1 + (cnt cItem x.tree : Int), _, rfl, hle1, H, ?inv, rfl⟩) (hM := ?hM) (hf := ?hf) (hm := ?hm)
   case hM => (repeat (first | exact Sub.nil | refine Sub.cons rfl ?_))
   case hf => (repeat (first | exact Sub.nil | refine Sub.cons rfl ?_))
   case hm => omega
   case inv => exact ⟨by omega, by (rw [cnt_succ hx]; omega)⟩
  intro hc2'
  try simp only [nrm] at hc2'
  refine W_exit ?_
  refine N_K_exit ?_
  refine N_LP_exit ?_
  refine N_B_same ?_
  refine N_K ?_
  refine q2 ?_
  refine o_move rfl rfl ?_
  refine o_assign rfl rfl ?_
  refine q3 ?_
  refine W_ret ?_
  refine ret_gen (rs := [.tmp 4]) (vs := [_]) Tryz.results72 ⟨rfl, trivial⟩ ?_
  have hie : i = a.length := by omega
  have hce := cnt_end (c := cSnap) hie
  exact H.rets (congrArg (Value.int .i64) (by (rw [hkk, hce])))
end Go.Proofs.Tst

namespace Go.Proofs.Tst
open Go Fw
theorem w_heldDisk_c (w0 : World) (G0 : PH) (hG : PSub G0 w0) (cb : List Value) (b : BDisk) (hb : diskE G0 b cb) (k : Int) (a : BDisk) (hab : b = mDisk k a) (hb2 : 0 ≤ k ∧ k + (cDisk a : Int) ≤ 2199023255552) :
  Calls Tryz.prog 25 #[.agg cb.toArray, .int .i64 k] w0 (Rets w0 (.int .i64 (k + (cDisk a : Int)))) := by
 obtain ⟨a1, m1, c1, a1', m1', c1', a1'', m1'', c1'', rfl, hr1, hr1', hr1''⟩ := hb; have hn_hr1 := hr1.len; have hx_hr1 : _ ≤ 1099511627776 := hr1.lim; have hn_hr1q := hr1'.len; have hx_hr1q : _ ≤ 1099511627776 := hr1'.lim; have hn_hr1qq := hr1''.len; have hx_hr1qq : _ ≤ 1099511627776 := hr1''.lim
 have hcd : cDisk a = cnt cHeld a.store + cnt cItem a.tree + cnt cSnap a.snaps := rfl
 have H := Hp.init hG
 refine calls_of_W (l := [_, .int .i64 k]) Tryz.func25 rfl Tryz.ntmps25 rfl ?_
 refine q2 ?_
 refine o_box H rfl rfl rfl ?_; intro b2 w2 hb2 H
 refine o_assign rfl rfl ?_
 refine q1 ?_
 refine o_fieldAddr 0 Tryz.runUnderlying53 rfl Tryz.sizeOf23 rfl rfl rfl ?_
 refine o_load_B 0 H Tryz.isAgg23 rfl rfl rfl rfl ?_
 refine o_move rfl rfl ?_
 refine o_call Tryz.call70 rfl rfl (w_heldHeldS_c _ _ H.sub _ _ hr1 _ a.store (by (rw [hab]; rfl)) ⟨by omega, by omega⟩) ?_
 rintro _ w3 ⟨rfl, ew3⟩; have H := H.step ew3; refine ⟨_, rfl, ?_⟩
 refine o_assign rfl rfl ?_
 refine q3 ?_
 refine W_seq ?_
 refine q2 ?_
 refine o_move rfl rfl ?_
 refine o_lss rfl rfl rfl ?_
 refine q3 ?_
 refine W_cond rfl ?_ ?_
 ·intro hc4
  try simp only [nrm] at hc4
  refine q2 ?_
  refine o_assign rfl rfl ?_
  refine q3 ?_
  refine W_ret ?_
  refine N_K_ret ?_
  refine ret_gen (rs := [.tmp 4]) (vs := [_]) Tryz.results25 ⟨rfl, trivial⟩ ?_
  first | exact H.rets (congrArg (Value.int .i64) (by omega)) | exact absurd (show False from by omega) id
 intro hc4'
 try simp only [nrm] at hc4'
 refine W_skip ?_
 refine N_K ?_
 refine q2 ?_
 refine o_fieldAddr 1 Tryz.runUnderlying53 rfl Tryz.sizeOf24 rfl rfl rfl ?_
 refine o_load_B 0 H Tryz.isAgg24 rfl rfl rfl rfl ?_
 refine o_move rfl rfl ?_
 refine o_call Tryz.call71 rfl rfl (w_heldItemS_c _ _ H.sub _ _ hr1' _ a.tree (by (rw [hab]; rfl)) ⟨by omega, by omega⟩) ?_
 rintro _ w5 ⟨rfl, ew5⟩; have H := H.step ew5; refine ⟨_, rfl, ?_⟩
 refine o_assign rfl rfl ?_
 refine q3 ?_
 refine W_seq ?_
 refine q2 ?_
 refine o_move rfl rfl ?_
 refine o_lss rfl rfl rfl ?_
 refine q3 ?_
 refine W_cond rfl ?_ ?_
 ·intro hc6
  try simp only [nrm] at hc6
  refine q2 ?_
  refine o_assign rfl rfl ?_
  refine q3 ?_
  refine W_ret ?_
  refine N_K_ret ?_
  refine ret_gen (rs := [.tmp 4]) (vs := [_]) Tryz.results25 ⟨rfl, trivial⟩ ?_
  first | exact H.rets (congrArg (Value.int .i64) (by omega)) | exact absurd (show False from by omega) id
 intro hc6'
 try simp only [nrm] at hc6'
 refine W_skip ?_
 refine N_K ?_
 refine q2 ?_
 refine o_fieldAddr 2 Tryz.runUnderlying53 rfl Tryz.sizeOf51 rfl rfl rfl ?_
 refine o_load_B 0 H Tryz.isAgg51 rfl rfl rfl rfl ?_
 refine o_move rfl rfl ?_
 refine o_call Tryz.call72 rfl rfl (w_heldSnapS_c _ _ H.sub _ _ hr1'' _ a.snaps (by (rw [hab]; rfl)) ⟨by omega, by omega⟩) ?_
 rintro _ w7 ⟨rfl, ew7⟩; have H := H.step ew7; refine ⟨_, rfl, ?_⟩
 refine o_assign rfl rfl ?_
 refine q3 ?_
 refine W_seq ?_
 refine q2 ?_
 refine o_move rfl rfl ?_
 refine o_lss rfl rfl rfl ?_
 refine q3 ?_
 refine W_cond rfl ?_ ?_
 ·intro hc8
  try simp only [nrm] at hc8
  refine q2 ?_
  refine o_assign rfl rfl ?_
  refine q3 ?_
  refine W_ret ?_
  refine N_K_ret ?_
  refine ret_gen (rs := [.tmp 4]) (vs := [_]) Tryz.results25 ⟨rfl, trivial⟩ ?_
  first | exact H.rets (congrArg (Value.int .i64) (by omega)) | exact absurd (show False from by omega) id
 intro hc8'
 try simp only [nrm] at hc8'
 refine W_skip ?_
 refine N_K ?_
 refine q2 ?_
 refine o_move rfl rfl ?_
 refine o_assign rfl rfl ?_
 refine q3 ?_
 refine W_ret ?_
 refine ret_gen (rs := [.tmp 4]) (vs := [_]) Tryz.results25 ⟨rfl, trivial⟩ ?_
 first | exact H.rets (congrArg (Value.int .i64) (by omega)) | exact absurd (show False from by omega) id
theorem w_markDisk_c (w0 : World) (G0 : PH) (hG : PSub G0 w0) (Fa1 Fa2 Fa3 : Fr) (va1 va2 va3 : Value) (a : BDisk) (hO1 : OHs Fa1 va1 a.store) (hO2 : OIs Fa2 va2 a.tree) (hO3 : OSn Fa3 va3 a.snaps) (k : Int) (hLent : Lent w0 G0 [frag Fa1, frag Fa2, frag Fa3]) (hb : 0 ≤ k ∧ k + (cDisk a : Int) ≤ 2199023255552) :
  Calls Tryz.prog 24 #[.agg #[va1, va2, va3], .int .i64 k] w0 (RetM w0 G0 (fps [frag Fa1, frag Fa2, frag Fa3]) (fun G' v Bs => ∃ (F1 F2 F3 : Fr), v = .int .i64 (k + (cDisk a : Int)) ∧ Bs = [frag F1, frag F2, frag F3] ∧ OHs F1 va1 (mDisk k a).store ∧ OIs F2 va2 (mDisk k a).tree ∧ OSn F3 va3 (mDisk k a).snaps)) := by
 obtain ⟨x1, p1⟩ := hO1
 obtain ⟨sa1, sc1, rfl⟩ := OwnS.shape p1
 obtain ⟨x2, p2⟩ := hO2
 obtain ⟨sa2, sc2, rfl⟩ := OwnS.shape p2
 obtain ⟨x3, p3⟩ := hO3
 obtain ⟨sa3, sc3, rfl⟩ := OwnS.shape p3
 have hcd : cDisk a = cnt cHeld a.store + cnt cItem a.tree + cnt cSnap a.snaps := rfl
 have H : Hp w0 G0 (fps [frag Fa1, frag Fa2, frag Fa3]) w0 G0 [frag Fa1, frag Fa2, frag Fa3] := hLent.hp
 refine calls_of_W (l := [_, .int .i64 k]) Tryz.func24 rfl Tryz.ntmps24 rfl ?_
 refine q2 ?_
 refine o_box H rfl rfl rfl ?_; intro b1 w1 hb1 H
 refine o_assign rfl rfl ?_
 refine q1 ?_
 refine o_fieldAddr 0 Tryz.runUnderlying53 rfl Tryz.sizeOf23 rfl rfl rfl ?_
 refine o_load_B 0 H Tryz.isAgg23 rfl rfl rfl rfl ?_
 refine o_move rfl rfl ?_
 have H := H.toFront (k := 1) rfl
 refine o_call Tryz.call67 rfl rfl (w_markHeldS_c _ _ H.sub _ _ _ (show OHs Fa1 _ _ from ⟨_, p1⟩) _ H.lent1 ⟨by omega, by omega⟩) ?_
 rintro _ w2 ⟨G2, _, _, rfl, H2', ⟨F2, rfl, rfl, hO2⟩⟩
 have H := H.borrow1 H2'
 refine ⟨_, rfl, ?_⟩
 refine o_assign rfl rfl ?_
 refine q1 ?_
 refine o_fieldAddr 1 Tryz.runUnderlying53 rfl Tryz.sizeOf24 rfl rfl rfl ?_
 refine o_load_B 1 H Tryz.isAgg24 rfl rfl rfl rfl ?_
 refine o_move rfl rfl ?_
 have H := H.toFront (k := 2) rfl
 refine o_call Tryz.call68 rfl rfl (w_markItemS_c _ _ H.sub _ _ _ (show OIs Fa2 _ _ from ⟨_, p2⟩) _ H.lent1 ⟨by omega, by omega⟩) ?_
 rintro _ w3 ⟨G3, _, _, rfl, H3', ⟨F3, rfl, rfl, hO3⟩⟩
 have H := H.borrow1 H3'
 refine ⟨_, rfl, ?_⟩
 refine o_assign rfl rfl ?_
 refine q1 ?_
 refine o_fieldAddr 2 Tryz.runUnderlying53 rfl Tryz.sizeOf51 rfl rfl rfl ?_
 refine o_load_B 2 H Tryz.isAgg51 rfl rfl rfl rfl ?_
 refine o_move rfl rfl ?_
 have H := H.toFront (k := 3) rfl
 refine o_call Tryz.call69 rfl rfl (w_markSnapS_c _ _ H.sub _ _ _ (show OSn Fa3 _ _ from ⟨_, p3⟩) _ H.lent1 ⟨by omega, by omega⟩) ?_
 rintro _ w4 ⟨G4, _, _, rfl, H4', ⟨F4, rfl, rfl, hO4⟩⟩
 have H := H.borrow1 H4'
 refine ⟨_, rfl, ?_⟩
 refine o_assign rfl rfl ?_
 refine q1 ?_
 refine o_move rfl rfl ?_
 refine o_assign rfl rfl ?_
 refine q3 ?_
 refine W_ret ?_
 refine ret_gen (rs := [.tmp 4]) (vs := [_]) Tryz.results24 ⟨rfl, trivial⟩ ?_
 have H := H.del (k := 3) rfl
 have H := H.toFront (k := 1) rfl
 have H := H.toFront (k := 2) rfl
 exact H.retM ⟨_, _, _, congrArg (Value.int .i64) (by omega), rfl, (show _ from hO2), (show _ from hO3), (show _ from hO4)⟩
end Go.Proofs.Tst

namespace Go.Proofs.Tst
open Go Fw
theorem l6In_c (w0 : World) (n : Int) (lo : Int) (hi : Int)  :
  Calls Tryz.prog 87 #[.int .i64 n, .int .i64 lo, .int .i64 hi] w0 (Rets w0 (.bool (Sp.l6In n lo hi))) := by
 have H := Hp.init0 w0
 refine calls_of_W (l := [.int .i64 n, .int .i64 lo, .int .i64 hi]) Tryz.func87 rfl Tryz.ntmps87 rfl ?_
 refine q2 ?_
 refine o_assign rfl rfl ?_
 refine q1 ?_
 refine o_move rfl rfl ?_
 refine o_move rfl rfl ?_
 refine o_geq rfl rfl rfl ?_
 refine o_move rfl rfl ?_
 refine R_case (t := 10) rfl ?_ ?_
 ·intro hc1
  try simp only [nrm] at hc1
  refine R_guard (yl rfl rfl) ?_
  refine o_move rfl rfl ?_
  refine R_guard (yl rfl rfl) ?_
  refine o_move rfl rfl ?_
  refine R_guard (yl rfl rfl) ?_
  refine o_leq rfl rfl rfl ?_
  refine o_pick_t rfl rfl rfl ?_
  refine o_assign rfl rfl ?_
  refine q3 ?_
  refine W_ret ?_
  refine ret_gen (rs := [.tmp 6]) (vs := [_]) Tryz.results87 ⟨rfl, trivial⟩ ?_
  exact H.rets (congrArg Value.bool (by unfold Sp.l6In; rw [Bool.eq_iff_iff]; simp; omega))
 intro hc1'
 try simp only [nrm] at hc1'
 refine R_pass rfl (yl_ne rfl rfl rfl) ?_
 refine R_pass rfl (yl_ne rfl rfl rfl) ?_
 refine R_pass rfl (yl_ne rfl rfl rfl) ?_
 refine o_pick_f rfl rfl rfl ?_
 refine o_assign rfl rfl ?_
 refine q3 ?_
 refine W_ret ?_
 refine ret_gen (rs := [.tmp 6]) (vs := [_]) Tryz.results87 ⟨rfl, trivial⟩ ?_
 exact H.rets (congrArg Value.bool (by unfold Sp.l6In; rw [Bool.eq_iff_iff]; simp; omega))
theorem l1Word_c (w0 : World) (s : Bs) (hs : s.length ≤ 16777216)  :
  Calls Tryz.prog 53 #[str s] w0 (Rets w0 (.bool (Sp.l1Word s))) := by
 have H := Hp.init0 w0
 refine calls_of_W (l := [str s]) Tryz.func53 rfl Tryz.ntmps53 rfl ?_
 refine q2 ?_
 refine o_assign rfl rfl ?_
 refine q3 ?_
 refine W_seq ?_
 refine q2 ?_
 refine o_assign rfl rfl ?_
 refine q3 ?_
 refine W_block ?_
 refine W_loop (hf := (Sub.cons (t := 0) rfl Sub.nil)) (J := fun M w m => ∃ (k : Nat) (G : PH), M = [(3, .int .i64 (k : Int))] ∧ PLe (fun _ => none) G ∧ Hp w0 (fun _ => none) [] w G [] ∧ (k ≤ s.length ∧ (s.take k).all Sp.low = true) ∧ m = (s.length - k)) (h0 := ⟨0, _, rfl, PLe.refl _, H, ?inv, rfl⟩) (hM := ?hM) (round := ?round)
 case hM => (repeat (first | exact Sub.nil | refine Sub.cons rfl ?_))
 case inv => exact ⟨by omega, by simp⟩
 case round =>
  rintro _ w1 _ ⟨k, G1, rfl, hle1, H, hinv1, rfl⟩
  obtain ⟨hk, hall⟩ := hinv1
  refine W_seq ?_
  refine q2 ?_
  refine o_move rfl rfl ?_
  refine o_move rfl rfl ?_
  refine o_len_str Tryz.underlying9 rfl rfl ?_
  refine o_lss rfl rfl rfl ?_
  refine q3 ?_
  refine W_cond rfl ?_ ?_
  ·intro hc2
   try simp only [nrm] at hc2
   refine W_skip ?_
   refine N_K ?_
   refine W_seq ?_
   refine W_block ?_
   refine q2 ?_
   refine o_move rfl rfl ?_
   refine o_move rfl rfl ?_
   refine o_index_str Tryz.underlying9 rfl rfl rfl rfl (by omega) ?_; intro ch3 hch3; have hlt3 := ch3.toNat_lt
   refine o_lss rfl rfl rfl ?_
   refine o_move rfl rfl ?_
   refine R_case (t := 14) rfl ?_ ?_
   ·intro hc4
    try simp only [nrm] at hc4
    refine R_pass rfl (yl_ne rfl rfl rfl) ?_
    refine R_pass rfl (yl_ne rfl rfl rfl) ?_
    refine R_pass rfl (yl_ne rfl rfl rfl) ?_
    refine R_pass rfl (yl_ne rfl rfl rfl) ?_
    refine o_pick_t rfl rfl rfl ?_
    refine q3 ?_
    refine W_true rfl ?_
    refine q2 ?_
    refine o_assign rfl rfl ?_
    refine q3 ?_
    refine W_ret ?_
    refine N_B_ret ?_
    refine N_K_ret ?_
    refine N_LP_ret ?_
    refine N_B_ret ?_
    refine N_K_ret ?_
    refine ret_gen (rs := [.tmp 2]) (vs := [_]) Tryz.results53 ⟨rfl, trivial⟩ ?_
    exact H.rets (congrArg Value.bool (by rw [Sp.l1Word, Sp.all_false hch3 (by simp [Sp.low]; omega)]; rfl))
   intro hc4'
   try simp only [nrm] at hc4'
   refine R_guard (yl rfl rfl) ?_
   refine o_move rfl rfl ?_
   refine R_guard (yl rfl rfl) ?_
   refine o_move rfl rfl ?_
   refine R_guard (yl rfl rfl) ?_
   refine o_index_str Tryz.underlying9 rfl rfl rfl rfl (by omega) ?_; intro ch5 hch5; have hlt5 := ch5.toNat_lt
   obtain rfl : ch5 = ch3 := Option.some.inj (hch5.symm.trans hch3)
   refine R_guard (yl rfl rfl) ?_
   refine o_gtr rfl rfl rfl ?_
   refine o_pick_f rfl rfl rfl ?_
   refine q3 ?_
   refine W_cond rfl ?_ ?_
   ·intro hc6
    try simp only [nrm] at hc6
    refine q2 ?_
    refine o_assign rfl rfl ?_
    refine q3 ?_
    refine W_ret ?_
    refine N_B_ret ?_
    refine N_K_ret ?_
    refine N_LP_ret ?_
    refine N_B_ret ?_
    refine N_K_ret ?_
    refine ret_gen (rs := [.tmp 2]) (vs := [_]) Tryz.results53 ⟨rfl, trivial⟩ ?_
    exact H.rets (congrArg Value.bool (by rw [Sp.l1Word, Sp.all_false hch5 (by simp [Sp.low]; omega)]; rfl))
   intro hc6'
   try simp only [nrm] at hc6'
   refine W_skip ?_
   refine N_B ?_
   refine N_K ?_
   refine W_region ?_
   refine o_move rfl rfl ?_
   refine o_add rfl rfl rfl ⟨by omega, by omega⟩ ?_
   refine o_assign rfl rfl ?_
   refine R_nil ?_
   refine N_LP (hJ := ⟨k + 1, _, rfl, hle1, H, ?inv, rfl⟩) (hM := ?hM) (hf := ?hf) (hm := ?hm)
   case hM => (repeat (first | exact Sub.nil | refine Sub.cons rfl ?_))
   case hf => (repeat (first | exact Sub.nil | refine Sub.cons rfl ?_))
   case hm => omega
   case inv => exact ⟨by omega, Sp.all_take hall hch5 (by simp [Sp.low]; omega)⟩
  intro hc2'
  try simp only [nrm] at hc2'
  refine W_exit ?_
  refine N_K_exit ?_
  refine N_LP_exit ?_
  refine N_B_same ?_
  refine N_K ?_
  refine q2 ?_
  refine o_move rfl rfl ?_
  refine o_len_str Tryz.underlying9 rfl rfl ?_
  refine o_call Tryz.call87 rfl rfl (l6In_c _ _ _ _ ) ?_
  rintro _ w8 ⟨rfl, ew8⟩; have H := H.step ew8; refine ⟨_, rfl, ?_⟩
  refine o_assign rfl rfl ?_
  refine q3 ?_
  refine W_ret ?_
  refine ret_gen (rs := [.tmp 2]) (vs := [_]) Tryz.results53 ⟨rfl, trivial⟩ ?_
  obtain rfl : k = s.length := by omega
  rw [List.take_length] at hall
  exact H.rets (congrArg Value.bool (by simp only [Sp.l1Word, Sp.l6In, hall]; rw [Bool.eq_iff_iff]; simp; omega))
theorem l1Cut_c (w0 : World) (G0 : PH) (hG : PSub G0 w0) (s : Bs) (hs : s.length ≤ 16777216)  :
  Calls Tryz.prog 174 #[str s] w0 (RetP w0 G0 (fun G v => RdT G v (Sp.cut s))) := by
 have H := Hp.init hG
 refine calls_of_W (l := [str s]) Tryz.func174 rfl Tryz.ntmps174 rfl ?_
 refine q2 ?_
 refine o_assign rfl rfl ?_
 refine q1 ?_
 refine o_buildSlice H Tryz.underlying87 Tryz.sizeOf9 (fun w => ⟨_, Tryz.zeroValue9 w, rfl⟩) rfl rfl rfl rfl rfl rfl rfl ?_; intro b1 w1 hb1 H
 have H := H.blkAcc 1 (k := 0) (n := 0) rfl rfl (by decide)
 refine o_assign rfl rfl ?_
 refine q1 ?_
 refine o_assign rfl rfl ?_
 refine q3 ?_
 refine W_seq ?_
 refine q2 ?_
 refine o_assign rfl rfl ?_
 refine q3 ?_
 refine W_block ?_
 refine W_loop (hf := (Sub.cons (t := 0) rfl (Sub.cons (t := 2) rfl Sub.nil))) (J := fun M w m => ∃ (v : Value) (n : Nat) (cs : List Value) (xs : List (Bs)) (f k : Nat) (G : PH), M = [(4, .int .i64 (f : Int)), (5, .int .i64 (k : Int)), (3, v)] ∧ PLe G0 G ∧ Hp w0 G0 [] w G [acc 9 1 v n cs] ∧ (Chk strE 1 G cs xs ∧ n = xs.length ∧ f ≤ k ∧ k ≤ s.length ∧ xs.length ≤ k ∧ xs ++ Sp.cut (s.drop f) = Sp.cut s ∧ ∀ j, f ≤ j → j < k → s[j]? ≠ some 47) ∧ m = (s.length - k)) (h0 := ⟨_, _, _, [], 0, 0, _, rfl, PLe.refl _, H, ?inv, rfl⟩) (hM := ?hM) (round := ?round)
 case hM => (repeat (first | exact Sub.nil | refine Sub.cons rfl ?_))
 case inv => exact ⟨(Chk.nil (E := strE) (sz := 1) (G := G0)),  by first | rfl | simp | (simp; omega) | omega, (by simp)⟩
 case round =>
  rintro _ w2 _ ⟨v, n, cs, xs, f, k, G2, rfl, hle2, H, hinv2, rfl⟩
  obtain ⟨hchk2_0, hn2_0, hinv2⟩ := hinv2
  obtain ⟨av2_0, cv2_0, rfl⟩ := H.accShape (k := 0) rfl
  obtain ⟨h1, h2, h3, h4, h5⟩ := hinv2
  refine W_seq ?_
  refine q2 ?_
  refine o_move rfl rfl ?_
  refine o_move rfl rfl ?_
  refine o_len_str Tryz.underlying9 rfl rfl ?_
  refine o_lss rfl rfl rfl ?_
  refine q3 ?_
  refine W_cond rfl ?_ ?_
  ·intro hc3
   try simp only [nrm] at hc3
   refine W_skip ?_
   refine N_K ?_
   refine W_seq ?_
   refine W_block ?_
   refine q2 ?_
   refine o_move rfl rfl ?_
   refine o_move rfl rfl ?_
   refine o_index_str Tryz.underlying9 rfl rfl rfl rfl (by omega) ?_; intro ch4 hch4; have hlt4 := ch4.toNat_lt
   refine o_eql rfl rfl rfl ?_
   refine q3 ?_
   refine W_cond rfl ?_ ?_
   ·intro hc5
    try simp only [nrm] at hc5
    refine q2 ?_
    refine o_move rfl rfl ?_
    refine o_move rfl rfl ?_
    refine o_move rfl rfl ?_
    refine o_move rfl rfl ?_
    refine o_slice_str Tryz.underlying9 rfl rfl rfl rfl (by omega) (by omega) (by omega) ?_
    refine o_buildSlice H Tryz.underlying87 Tryz.sizeOf9 (fun w => ⟨_, Tryz.zeroValue9 w, rfl⟩) rfl rfl rfl rfl rfl rfl rfl ?_; intro b7 w7 hb7 H
    refine o_append1 0 H (sz := 1) (bytes := 16) Tryz.underlying87 Tryz.typeInfo9 ⟨_, rfl, rfl⟩ rfl rfl rfl rfl rfl rfl rfl rfl rfl rfl (by omega) rfl ?_; intro v8 w8 H
    have hchk8 := hchk2_0.snoc (show strE _ ((s.drop f).take (k - f)) _ from ⟨rfl, (by (first | assumption | (refine Sp.l5Parent_lim ?_; assumption) | (simp; done) | (simp; omega) | omega))⟩) rfl
    obtain ⟨av8, cv8, rfl⟩ := H.accShape (k := 0) rfl
    refine o_assign rfl rfl ?_
    refine q3 ?_
    refine W_region ?_
    refine o_move rfl rfl ?_
    refine o_add rfl rfl rfl ⟨by omega, by omega⟩ ?_
    refine o_assign rfl rfl ?_
    refine R_nil ?_
    refine N_B ?_
    refine N_K ?_
    refine W_region ?_
    refine o_move rfl rfl ?_
    refine o_add rfl rfl rfl ⟨by omega, by omega⟩ ?_
    refine o_assign rfl rfl ?_
    refine R_nil ?_
    refine N_LP (hJ := ⟨_, _, _, (xs ++ [((s.drop f).take (k - f))]), k + 1, k + 1, _, rfl, hle2, H, ?inv, rfl⟩) (hM := ?hM) (hf := ?hf) (hm := ?hm)
    case hM => (repeat (first | exact Sub.nil | refine Sub.cons rfl ?_))
    case hf => (repeat (first | exact Sub.nil | refine Sub.cons rfl ?_))
    case hm => omega
    case inv => exact ⟨hchk8, (by first | assumption | (simp; omega) | omega), (by exact ⟨by omega, by omega, by simp; omega, Sp.cut_step h4 h1 (hch4 ▸ congrArg some (Sp.is47 (by omega))) h5, fun j g1 g2 => by omega⟩)⟩
   intro hc5'
   try simp only [nrm] at hc5'
   refine W_skip ?_
   refine N_B ?_
   refine N_K ?_
   refine W_region ?_
   refine o_move rfl rfl ?_
   refine o_add rfl rfl rfl ⟨by omega, by omega⟩ ?_
   refine o_assign rfl rfl ?_
   refine R_nil ?_
   refine N_LP (hJ := ⟨_, _, _, xs, f, k + 1, _, rfl, hle2, H, ?inv, rfl⟩) (hM := ?hM) (hf := ?hf) (hm := ?hm)
   case hM => (repeat (first | exact Sub.nil | refine Sub.cons rfl ?_))
   case hf => (repeat (first | exact Sub.nil | refine Sub.cons rfl ?_))
   case hm => omega
   case inv => exact ⟨hchk2_0, (by first | assumption | (simp; omega) | omega), (by exact ⟨by omega, by omega, by omega, h4, Sp.noslash_succ h5 (hch4 ▸ Sp.not47 (by omega))⟩)⟩
  intro hc3'
  try simp only [nrm] at hc3'
  refine W_exit ?_
  refine N_K_exit ?_
  refine N_LP_exit ?_
  refine N_B_same ?_
  refine N_K ?_
  refine q2 ?_
  refine o_move rfl rfl ?_
  refine o_move rfl rfl ?_
  refine o_move rfl rfl ?_
  refine o_slice_str_from Tryz.underlying9 rfl rfl rfl (by omega) (by omega) ?_
  refine o_buildSlice H Tryz.underlying87 Tryz.sizeOf9 (fun w => ⟨_, Tryz.zeroValue9 w, rfl⟩) rfl rfl rfl rfl rfl rfl rfl ?_; intro b13 w13 hb13 H
  refine o_append1 0 H (sz := 1) (bytes := 16) Tryz.underlying87 Tryz.typeInfo9 ⟨_, rfl, rfl⟩ rfl rfl rfl rfl rfl rfl rfl rfl rfl rfl (by omega) rfl ?_; intro v14 w14 H
  have hchk14 := hchk2_0.snoc (show strE _ (s.drop f) _ from ⟨rfl, (by (first | assumption | (refine Sp.l5Parent_lim ?_; assumption) | (simp; done) | (simp; omega) | omega))⟩) rfl
  obtain ⟨av14, cv14, rfl⟩ := H.accShape (k := 0) rfl
  refine o_assign rfl rfl ?_
  refine q3 ?_
  refine W_ret ?_
  refine ret_gen (rs := [.tmp 2]) (vs := [_]) Tryz.results174 ⟨rfl, trivial⟩ ?_
  obtain ⟨G15, H, hsg15, hsr15⟩ := H.shut' (k := 0) rfl hchk14 (by first | assumption | (simp; done) | (simp; omega) | omega) (by first | assumption | (simp; done) | (simp; omega) | omega)
  have hchk2_0 := hchk2_0.up hsg15
  have hchk14 := hchk14.up hsg15
  have hle2 := hle2.trans hsg15
  exact H.retP (by rw [← Sp.cut_end h4 h5 (by omega)]; exact hsr15)
theorem PathValid_c (w0 : World) (G0 : PH) (hG : PSub G0 w0) (path : Bs) (hpath : path.length ≤ 16777216)  :
  Calls Tryz.prog 149 #[str path] w0 (Rets w0 (.bool (Sp.PathValid path))) := by
 have H := Hp.init hG
 refine calls_of_W (l := [str path]) Tryz.func149 rfl Tryz.ntmps149 rfl ?_
 refine q2 ?_
 refine o_assign rfl rfl ?_
 refine q1 ?_
 refine o_move rfl rfl ?_
 refine o_call Tryz.call174 rfl rfl (l1Cut_c _ _ H.sub _ hpath ) ?_
 rintro _ w1 ⟨G1, u1_0, g1, rfl, hr1_0⟩
 have H := H.grow g1
 obtain ⟨a1_0, k1_0, rfl⟩ := hr1_0.shape; have hx_hr1_0 : _ ≤ 1099511627776 := hr1_0.lim
 refine ⟨_, rfl, ?_⟩
 refine o_assign rfl rfl ?_
 refine q3 ?_
 refine W_seq ?_
 refine q2 ?_
 refine o_assign rfl rfl ?_
 refine q3 ?_
 refine W_block ?_
 refine W_loop (hf := (Sub.cons (t := 3) rfl Sub.nil)) (J := fun M w m => ∃ (k : Nat) (G : PH), M = [(4, .int .i64 (k : Int))] ∧ PLe G1 G ∧ Hp w0 G0 [] w G [] ∧ (k ≤ (Sp.cut path).length ∧ ((Sp.cut path).take k).all Sp.l1Word = true) ∧ m = ((Sp.cut path).length - k)) (h0 := ⟨0, _, rfl, PLe.refl _, H, ?inv, rfl⟩) (hM := ?hM) (round := ?round)
 case hM => (repeat (first | exact Sub.nil | refine Sub.cons rfl ?_))
 case inv => simp
 case round =>
  rintro _ w2 _ ⟨k, G2, rfl, hle2, H, hinv2, rfl⟩
  have hr1_0 := hr1_0.up hle2
  obtain ⟨hk, hall⟩ := hinv2
  refine W_seq ?_
  refine q2 ?_
  refine o_move rfl rfl ?_
  refine o_move rfl rfl ?_
  refine o_len_slice Tryz.underlying87 rfl rfl ?_
  refine o_lss rfl rfl rfl ?_
  refine q3 ?_
  refine W_cond rfl ?_ ?_
  ·intro hc3
   try simp only [nrm] at hc3
   refine W_skip ?_
   refine N_K ?_
   refine W_seq ?_
   refine W_block ?_
   refine q2 ?_
   refine o_move rfl rfl ?_
   refine o_move rfl rfl ?_
   refine o_index_P _ hr1_0 Tryz.underlying87 Tryz.sizeOf9 rfl rfl rfl rfl (by omega) ?_; intro b4 o4 z4 q4 hz4 hE4 hrow4
   obtain ⟨rfl, hi4⟩ := hE4; have hy_hi4 : _ ≤ 16777216 := hi4
   refine o_load_P H Tryz.isAgg9 rfl rfl (hrow4 0 _ rfl) ?_
   refine o_call Tryz.call53 rfl rfl (l1Word_c _ _ hi4 ) ?_
   rintro _ w5 ⟨rfl, ew5⟩; have H := H.step ew5; refine ⟨_, rfl, ?_⟩
   refine o_not rfl rfl ?_
   refine q3 ?_
   refine W_cond rfl ?_ ?_
   ·intro hc6
    try simp only [nrm] at hc6
    refine q2 ?_
    refine o_assign rfl rfl ?_
    refine q3 ?_
    refine W_ret ?_
    refine N_B_ret ?_
    refine N_K_ret ?_
    refine N_LP_ret ?_
    refine N_B_ret ?_
    refine N_K_ret ?_
    refine ret_gen (rs := [.tmp 2]) (vs := [_]) Tryz.results149 ⟨rfl, trivial⟩ ?_
    exact H.rets (congrArg Value.bool (by rw [Sp.PathValid, Sp.all_false hz4 hc6]; rfl))
   intro hc6'
   try simp only [nrm] at hc6'
   refine W_skip ?_
   refine N_B ?_
   refine N_K ?_
   refine W_region ?_
   refine o_move rfl rfl ?_
   refine o_add rfl rfl rfl ⟨by omega, by omega⟩ ?_
   refine o_assign rfl rfl ?_
   refine R_nil ?_
   refine N_LP (hJ := ⟨k + 1, _, rfl, hle2, H, ?inv, rfl⟩) (hM := ?hM) (hf := ?hf) (hm := ?hm)
   case hM => (repeat (first | exact Sub.nil | refine Sub.cons rfl ?_))
   case hf => (repeat (first | exact Sub.nil | refine Sub.cons rfl ?_))
   case hm => omega
   case inv => exact ⟨by omega, Sp.all_take hall hz4 hc6'⟩
  intro hc3'
  try simp only [nrm] at hc3'
  refine W_exit ?_
  refine N_K_exit ?_
  refine N_LP_exit ?_
  refine N_B_same ?_
  refine N_K ?_
  refine q2 ?_
  refine o_move rfl rfl ?_
  refine o_len_slice Tryz.underlying87 rfl rfl ?_
  refine o_leq rfl rfl rfl ?_
  refine o_assign rfl rfl ?_
  refine q3 ?_
  refine W_ret ?_
  refine ret_gen (rs := [.tmp 2]) (vs := [_]) Tryz.results149 ⟨rfl, trivial⟩ ?_
  obtain rfl : k = (Sp.cut path).length := by omega
  rw [List.take_length] at hall
  exact H.rets (congrArg Value.bool (by simp only [Sp.PathValid, hall, Bool.true_and]; rw [Bool.eq_iff_iff]; simp; omega))
theorem l1Last_c (w0 : World) (path : Bs) (hpath : path.length ≤ 16777216)  :
  Calls Tryz.prog 189 #[str path] w0 (Rets w0 (.int .i64 (Sp.l1Last path))) := by
 have H := Hp.init0 w0
 refine calls_of_W (l := [str path]) Tryz.func189 rfl Tryz.ntmps189 rfl ?_
 refine q2 ?_
 refine o_assign rfl rfl ?_
 refine q1 ?_
 refine o_assign rfl rfl ?_
 refine q3 ?_
 refine W_seq ?_
 refine q2 ?_
 refine o_assign rfl rfl ?_
 refine q3 ?_
 refine W_block ?_
 refine W_loop (hf := (Sub.cons (t := 0) rfl (Sub.cons (t := 2) rfl Sub.nil))) (J := fun M w m => ∃ (k : Nat) (o : Option Nat) (G : PH), M = [(3, .int .i64 (Sp.optI o)), (4, .int .i64 (k : Int))] ∧ PLe (fun _ => none) G ∧ Hp w0 (fun _ => none) [] w G [] ∧ (k ≤ path.length ∧ o = (List.range k).foldl (Sp.lastF path) none) ∧ m = (path.length - k)) (h0 := ⟨0, none, _, rfl, PLe.refl _, H, ?inv, rfl⟩) (hM := ?hM) (round := ?round)
 case hM => (repeat (first | exact Sub.nil | refine Sub.cons rfl ?_))
 case inv => exact ⟨by omega, rfl⟩
 case round =>
  rintro _ w1 _ ⟨k, o, G1, rfl, hle1, H, hinv1, rfl⟩
  obtain ⟨hk, hall⟩ := hinv1
  refine W_seq ?_
  refine q2 ?_
  refine o_move rfl rfl ?_
  refine o_move rfl rfl ?_
  refine o_len_str Tryz.underlying9 rfl rfl ?_
  refine o_lss rfl rfl rfl ?_
  refine q3 ?_
  refine W_cond rfl ?_ ?_
  ·intro hc2
   try simp only [nrm] at hc2
   refine W_skip ?_
   refine N_K ?_
   refine W_seq ?_
   refine W_block ?_
   refine q2 ?_
   refine o_move rfl rfl ?_
   refine o_move rfl rfl ?_
   refine o_index_str Tryz.underlying9 rfl rfl rfl rfl (by omega) ?_; intro ch3 hch3; have hlt3 := ch3.toNat_lt
   refine o_eql rfl rfl rfl ?_
   refine q3 ?_
   refine W_cond rfl ?_ ?_
   ·intro hc4
    try simp only [nrm] at hc4
    refine W_region ?_
    refine o_move rfl rfl ?_
    refine o_assign rfl rfl ?_
    refine R_nil ?_
    refine N_B ?_
    refine N_K ?_
    refine W_region ?_
    refine o_move rfl rfl ?_
    refine o_add rfl rfl rfl ⟨by omega, by omega⟩ ?_
    refine o_assign rfl rfl ?_
    refine R_nil ?_
    refine N_LP (hJ := ⟨k + 1, some k, _, rfl, hle1, H, ?inv, rfl⟩) (hM := ?hM) (hf := ?hf) (hm := ?hm)
    case hM => (repeat (first | exact Sub.nil | refine Sub.cons rfl ?_))
    case hf => (repeat (first | exact Sub.nil | refine Sub.cons rfl ?_))
    case hm => omega
    case inv => exact ⟨by omega, by rw [Sp.last_succ, ← hall, Sp.lastF, hch3, if_pos (congrArg some (Sp.is47 (by omega)))]⟩
   intro hc4'
   try simp only [nrm] at hc4'
   refine W_skip ?_
   refine N_B ?_
   refine N_K ?_
   refine W_region ?_
   refine o_move rfl rfl ?_
   refine o_add rfl rfl rfl ⟨by omega, by omega⟩ ?_
   refine o_assign rfl rfl ?_
   refine R_nil ?_
   refine N_LP (hJ := ⟨k + 1, o, _, rfl, hle1, H, ?inv, rfl⟩) (hM := ?hM) (hf := ?hf) (hm := ?hm)
   case hM => (repeat (first | exact Sub.nil | refine Sub.cons rfl ?_))
   case hf => (repeat (first | exact Sub.nil | refine Sub.cons rfl ?_))
   case hm => omega
   case inv => exact ⟨by omega, by rw [Sp.last_succ, ← hall, Sp.lastF, hch3, if_neg (Sp.not47 (by omega))]⟩
  intro hc2'
  try simp only [nrm] at hc2'
  refine W_exit ?_
  refine N_K_exit ?_
  refine N_LP_exit ?_
  refine N_B_same ?_
  refine N_K ?_
  refine q2 ?_
  refine o_move rfl rfl ?_
  refine o_assign rfl rfl ?_
  refine q3 ?_
  refine W_ret ?_
  refine ret_gen (rs := [.tmp 2]) (vs := [_]) Tryz.results189 ⟨rfl, trivial⟩ ?_
  obtain rfl : k = path.length := by omega
  exact H.rets (congrArg (Value.int .i64) (by rw [hall]; rfl))
theorem l5Parent_c (w0 : World) (path : Bs) (hpath : path.length ≤ 16777216)  :
  Calls Tryz.prog 165 #[str path] w0 (Rets w0 (str (Sp.l5Parent path))) := by
 have hl := Sp.l1Last_le path
 have H := Hp.init0 w0
 refine calls_of_W (l := [str path]) Tryz.func165 rfl Tryz.ntmps165 rfl ?_
 refine q2 ?_
 refine o_assign rfl rfl ?_
 refine q1 ?_
 refine o_move rfl rfl ?_
 refine o_move rfl rfl ?_
 refine o_call Tryz.call189 rfl rfl (l1Last_c _ _ hpath ) ?_
 rintro _ w1 ⟨rfl, ew1⟩; have H := H.step ew1; refine ⟨_, rfl, ?_⟩
 refine o_max rfl rfl rfl ?_
 refine o_slice_str_to Tryz.underlying9 rfl rfl rfl (by omega) (by omega) ?_
 refine o_assign rfl rfl ?_
 refine q3 ?_
 refine W_ret ?_
 refine ret_gen (rs := [.tmp 2]) (vs := [_]) Tryz.results165 ⟨rfl, trivial⟩ ?_
 exact H.rets rfl
theorem l5At_c (w0 : World) (G0 : PH) (hG : PSub G0 w0) (vlist : Value) (list : List (BItem)) (hlist : RdItems G0 vlist list) (path : Bs) (hpath : path.length ≤ 16777216)  :
  Calls Tryz.prog 100 #[vlist, str path] w0 (Rets w0 (.int .i64 (Sp.l5At list path))) := by
 obtain ⟨alist, klist, rfl⟩ := hlist.shape
 have hlimlist : list.length ≤ 1099511627776 := hlist.lim
 have H := Hp.init hG
 refine calls_of_W (l := [.slice alist list.length klist, str path]) Tryz.func100 rfl Tryz.ntmps100 rfl ?_
 refine q2 ?_
 refine o_assign rfl rfl ?_
 refine q3 ?_
 refine W_seq ?_
 refine q2 ?_
 refine o_assign rfl rfl ?_
 refine q3 ?_
 refine W_block ?_
 refine W_loop (hf := (Sub.cons (t := 0) rfl (Sub.cons (t := 1) rfl Sub.nil))) (J := fun M w m => ∃ (k : Nat) (G : PH), M = [(5, .int .i64 (k : Int))] ∧ PLe G0 G ∧ Hp w0 G0 [] w G [] ∧ (k ≤ list.length ∧ (∀ j, j < k → ∀ y, list[j]? = some y → decide (y.path = path) = false)) ∧ m = (list.length - k)) (h0 := ⟨0, _, rfl, PLe.refl _, H, ?inv, rfl⟩) (hM := ?hM) (round := ?round)
 case hM => (repeat (first | exact Sub.nil | refine Sub.cons rfl ?_))
 case inv => exact ⟨by omega, fun j hj => by omega⟩
 case round =>
  rintro _ w1 _ ⟨k, G1, rfl, hle1, H, hinv1, rfl⟩
  have hlist := hlist.up hle1
  obtain ⟨hk, hall⟩ := hinv1
  refine W_seq ?_
  refine q2 ?_
  refine o_move rfl rfl ?_
  refine o_move rfl rfl ?_
  refine o_len_slice Tryz.underlying24 rfl rfl ?_
  refine o_lss rfl rfl rfl ?_
  refine q3 ?_
  refine W_cond rfl ?_ ?_
  ·intro hc2
   try simp only [nrm] at hc2
   refine W_skip ?_
   refine N_K ?_
   refine W_seq ?_
   refine W_block ?_
   refine q2 ?_
   refine o_move rfl rfl ?_
   refine o_move rfl rfl ?_
   refine o_index_P _ hlist Tryz.underlying24 Tryz.sizeOf39 rfl rfl rfl rfl (by omega) ?_; intro b3 o3 z3 q3 hz3 hE3 hrow3
   obtain ⟨a3, m3, c3, rfl, hi3, hr3⟩ := hE3; have hy_hi3 : _ ≤ 16777216 := hi3; have hn_hr3 := hr3.len; have hx_hr3 : _ ≤ 1099511627776 := hr3.lim
   refine o_fieldAddr 0 Tryz.runUnderlying39 rfl Tryz.sizeOf9 rfl rfl rfl ?_
   refine o_load_P H Tryz.isAgg9 rfl rfl (hrow3 0 _ rfl) ?_
   refine o_move rfl rfl ?_
   refine o_seql rfl rfl rfl ?_
   refine q3 ?_
   refine W_cond rfl ?_ ?_
   ·intro hc4
    try simp only [nrm] at hc4
    refine q2 ?_
    refine o_move rfl rfl ?_
    refine o_assign rfl rfl ?_
    refine q3 ?_
    refine W_ret ?_
    refine N_B_ret ?_
    refine N_K_ret ?_
    refine N_LP_ret ?_
    refine N_B_ret ?_
    refine N_K_ret ?_
    refine ret_gen (rs := [.tmp 4]) (vs := [_]) Tryz.results100 ⟨rfl, trivial⟩ ?_
    exact H.rets (congrArg (Value.int .i64) (by rw [Sp.l5At, Sp.atI, Sp.find_at hall hz3 (by simp; exact hc4)]; rfl))
   intro hc4'
   try simp only [nrm] at hc4'
   refine W_skip ?_
   refine N_B ?_
   refine N_K ?_
   refine W_region ?_
   refine o_move rfl rfl ?_
   refine o_add rfl rfl rfl ⟨by omega, by omega⟩ ?_
   refine o_assign rfl rfl ?_
   refine R_nil ?_
   refine N_LP (hJ := ⟨k + 1, _, rfl, hle1, H, ?inv, rfl⟩) (hM := ?hM) (hf := ?hf) (hm := ?hm)
   case hM => (repeat (first | exact Sub.nil | refine Sub.cons rfl ?_))
   case hf => (repeat (first | exact Sub.nil | refine Sub.cons rfl ?_))
   case hm => omega
   case inv => exact ⟨by omega, Sp.none_succ hall hz3 (by simp; exact hc4')⟩
  intro hc2'
  try simp only [nrm] at hc2'
  refine W_exit ?_
  refine N_K_exit ?_
  refine N_LP_exit ?_
  refine N_B_same ?_
  refine N_K ?_
  refine q2 ?_
  refine o_assign rfl rfl ?_
  refine q3 ?_
  refine W_ret ?_
  refine ret_gen (rs := [.tmp 4]) (vs := [_]) Tryz.results100 ⟨rfl, trivial⟩ ?_
  exact H.rets (congrArg (Value.int .i64) (by rw [Sp.l5At, Sp.atI, Sp.find_none hall (by omega)]; rfl))
theorem l5Home_c (w0 : World) (G0 : PH) (hG : PSub G0 w0) (vlist : Value) (list : List (BItem)) (hlist : RdItems G0 vlist list) (path : Bs) (hpath : path.length ≤ 16777216)  :
  Calls Tryz.prog 140 #[vlist, str path] w0 (Rets w0 (.bool (Sp.l5Home list path))) := by
 obtain ⟨alist, klist, rfl⟩ := hlist.shape
 have hlimlist : list.length ≤ 1099511627776 := hlist.lim
 have H := Hp.init hG
 refine calls_of_W (l := [.slice alist list.length klist, str path]) Tryz.func140 rfl Tryz.ntmps140 rfl ?_
 refine q2 ?_
 refine o_assign rfl rfl ?_
 refine q1 ?_
 refine o_move rfl rfl ?_
 refine o_call Tryz.call165 rfl rfl (l5Parent_c _ _ hpath ) ?_
 rintro _ w1 ⟨rfl, ew1⟩; have H := H.step ew1; refine ⟨_, rfl, ?_⟩
 refine o_assign rfl rfl ?_
 refine q1 ?_
 refine o_move rfl rfl ?_
 refine o_move rfl rfl ?_
 refine o_call Tryz.call100 rfl rfl (l5At_c _ _ H.sub _ _ hlist _ (by (first | assumption | (refine Sp.l5Parent_lim ?_; assumption) | (simp; done) | (simp; omega) | omega)) ) ?_
 rintro _ w2 ⟨rfl, ew2⟩; have H := H.step ew2; refine ⟨_, rfl, ?_⟩
 refine o_assign rfl rfl ?_
 refine q1 ?_
 refine o_move rfl rfl ?_
 refine o_seql rfl rfl rfl ?_
 refine o_move rfl rfl ?_
 refine R_case (t := 14) rfl ?_ ?_
 ·intro hc3
  try simp only [nrm] at hc3
  refine R_pass rfl (yl_ne rfl rfl rfl) ?_
  refine R_pass rfl (yl_ne rfl rfl rfl) ?_
  refine R_pass rfl (yl_ne rfl rfl rfl) ?_
  refine R_pass rfl (yl_un rfl rfl) ?_
  refine R_pass rfl (yl_un rfl rfl) ?_
  refine R_pass rfl (yl_un rfl rfl) ?_
  refine R_pass rfl (yl_un rfl rfl) ?_
  refine R_pass rfl (yl_un rfl rfl) ?_
  refine R_pass rfl (yl_ne rfl rfl rfl) ?_
  refine o_pick_t rfl rfl rfl ?_
  refine o_assign rfl rfl ?_
  refine q3 ?_
  refine W_ret ?_
  refine ret_gen (rs := [.tmp 4]) (vs := [_]) Tryz.results140 ⟨rfl, trivial⟩ ?_
  exact H.rets (congrArg Value.bool (by simp [Sp.l5Home, hc3]))
 intro hc3'
 try simp only [nrm] at hc3'
 refine R_guard (yl rfl rfl) ?_
 refine o_move rfl rfl ?_
 refine R_guard (yl rfl rfl) ?_
 refine o_geq rfl rfl rfl ?_
 refine R_guard (yl rfl rfl) ?_
 refine o_move rfl rfl ?_
 refine R_case (t := 17) rfl ?_ ?_
 ·intro hc4
  try simp only [nrm] at hc4
  obtain ⟨i, x, hi1, hi2, hi3, hi4, hi5⟩ := Sp.at_nat hc4
  refine R_guard (yl rfl rfl) ?_
  refine o_move rfl rfl ?_
  refine R_guard (yl rfl rfl) ?_
  refine o_move rfl rfl ?_
  refine R_guard (yl rfl rfl) ?_
  refine o_index_P i hlist Tryz.underlying24 Tryz.sizeOf39 rfl rfl rfl hi2 (by omega) ?_; intro b5 o5 z5 q5 hz5 hE5 hrow5
  obtain ⟨a5, m5, c5, rfl, hi5, hr5⟩ := hE5; have hy_hi5 : _ ≤ 16777216 := hi5; have hn_hr5 := hr5.len; have hx_hr5 : _ ≤ 1099511627776 := hr5.lim
  refine R_guard (yl rfl rfl) ?_
  refine o_fieldAddr 1 Tryz.runUnderlying39 rfl Tryz.sizeOf4 rfl rfl rfl ?_
  refine R_guard (yl rfl rfl) ?_
  refine o_load_P H Tryz.isAgg4 rfl rfl (hrow5 1 _ rfl) ?_
  refine R_guard (yl rfl rfl) ?_
  refine o_pick_t rfl rfl rfl ?_
  refine o_pick_f rfl rfl rfl ?_
  refine o_assign rfl rfl ?_
  refine q3 ?_
  refine W_ret ?_
  refine ret_gen (rs := [.tmp 4]) (vs := [_]) Tryz.results140 ⟨rfl, trivial⟩ ?_
  exact H.rets (congrArg Value.bool (by simp [Sp.l5Home, hc3', Sp.atI, hi1, hz5]))
 intro hc4'
 try simp only [nrm] at hc4'
 refine R_pass rfl (yl_ne rfl rfl rfl) ?_
 refine R_pass rfl (yl_ne rfl rfl rfl) ?_
 refine R_pass rfl (yl_ne rfl rfl rfl) ?_
 refine R_pass rfl (yl_ne rfl rfl rfl) ?_
 refine R_pass rfl (yl_ne rfl rfl rfl) ?_
 refine R_guard (yl rfl rfl) ?_
 refine o_pick_f rfl rfl rfl ?_
 refine o_pick_f rfl rfl rfl ?_
 refine o_assign rfl rfl ?_
 refine q3 ?_
 refine W_ret ?_
 refine ret_gen (rs := [.tmp 4]) (vs := [_]) Tryz.results140 ⟨rfl, trivial⟩ ?_
 exact H.rets (congrArg Value.bool (by simp [Sp.l5Home, hc3', Sp.atI, Sp.at_none hc4']))
theorem l5Item_c (w0 : World) (G0 : PH) (hG : PSub G0 w0) (cx : List Value) (x : BItem) (hx : itemE G0 x cx)  :
  Calls Tryz.prog 99 #[.agg cx.toArray] w0 (Rets w0 (.bool (Sp.l5Item x))) := by
 obtain ⟨a1, m1, c1, rfl, hi1, hr1⟩ := hx; have hy_hi1 : _ ≤ 16777216 := hi1; have hn_hr1 := hr1.len; have hx_hr1 : _ ≤ 1099511627776 := hr1.lim
 have H := Hp.init hG
 refine calls_of_W (l := [_]) Tryz.func99 rfl Tryz.ntmps99 rfl ?_
 refine q2 ?_
 refine o_box H rfl rfl rfl ?_; intro b2 w2 hb2 H
 refine o_assign rfl rfl ?_
 refine q3 ?_
 refine W_seq ?_
 refine q2 ?_
 refine o_assign rfl rfl ?_
 refine q3 ?_
 refine W_block ?_
 obtain ⟨ln3, hln3, H⟩ := H.name (k := 0) rfl
 refine W_loop (hf := (Sub.cons (t := 1) rfl Sub.nil)) (J := fun M w m => ∃ (k : Nat) (G : PH), M = [(3, .int .i64 (k : Int))] ∧ PLe G0 G ∧ Hp w0 G0 [] w G [blk b2 (cl ln3 39)] ∧ (k ≤ x.ids.length ∧ (x.ids.take k).all (Sp.idOk x.dir) = true) ∧ m = (x.ids.length - k)) (h0 := ⟨0, _, rfl, PLe.refl _, H, ?inv, rfl⟩) (hM := ?hM) (round := ?round)
 case hM => (repeat (first | exact Sub.nil | refine Sub.cons rfl ?_))
 case inv => exact ⟨by omega, by simp⟩
 case round =>
  rintro _ w4 _ ⟨k, G4, rfl, hle4, H, hinv4, rfl⟩
  subst hln3
  have hr1 := hr1.up hle4
  obtain ⟨hk, hall⟩ := hinv4
  refine W_seq ?_
  refine q2 ?_
  refine o_move rfl rfl ?_
  refine o_fieldAddr 2 Tryz.runUnderlying39 rfl Tryz.sizeOf27 rfl rfl rfl ?_
  refine o_load_B 0 H Tryz.isAgg27 rfl rfl rfl rfl ?_
  refine o_len_slice Tryz.underlying27 rfl rfl ?_
  refine o_lss rfl rfl rfl ?_
  refine q3 ?_
  refine W_cond rfl ?_ ?_
  ·intro hc5
   try simp only [nrm] at hc5
   refine W_skip ?_
   refine N_K ?_
   refine W_seq ?_
   refine W_block ?_
   refine q2 ?_
   refine o_fieldAddr 1 Tryz.runUnderlying39 rfl Tryz.sizeOf4 rfl rfl rfl ?_
   refine o_load_B 0 H Tryz.isAgg4 rfl rfl rfl rfl ?_
   refine o_move rfl rfl ?_
   refine R_case (t := 13) rfl ?_ ?_
   ·intro hc6
    try simp only [nrm] at hc6
    refine R_pass rfl (yl_ne rfl rfl rfl) ?_
    refine R_pass rfl (yl_ne rfl rfl rfl) ?_
    refine R_pass rfl (yl_ne rfl rfl rfl) ?_
    refine R_pass rfl (yl_ne rfl rfl rfl) ?_
    refine R_pass rfl (yl_ne rfl rfl rfl) ?_
    refine R_pass rfl (yl_ne rfl rfl rfl) ?_
    refine R_pass rfl (yl_ne rfl rfl rfl) ?_
    refine o_pick_t rfl rfl rfl ?_
    refine q3 ?_
    refine W_true rfl ?_
    refine q2 ?_
    refine o_assign rfl rfl ?_
    refine q3 ?_
    refine W_ret ?_
    refine N_B_ret ?_
    refine N_K_ret ?_
    refine N_LP_ret ?_
    refine N_B_ret ?_
    refine N_K_ret ?_
    refine ret_gen (rs := [.tmp 2]) (vs := [_]) Tryz.results99 ⟨rfl, trivial⟩ ?_
    exact H.rets (congrArg Value.bool (by rw [Sp.l5Item, Sp.all_false (c := x.ids[k]) (List.getElem?_eq_getElem (by omega)) (by simp [Sp.idOk, hc6])]; rfl))
   intro hc6'
   try simp only [nrm] at hc6'
   refine R_guard (yl rfl rfl) ?_
   refine o_fieldAddr 2 Tryz.runUnderlying39 rfl Tryz.sizeOf27 rfl rfl rfl ?_
   refine R_guard (yl rfl rfl) ?_
   refine o_load_B 0 H Tryz.isAgg27 rfl rfl rfl rfl ?_
   refine R_guard (yl rfl rfl) ?_
   refine o_move rfl rfl ?_
   refine R_guard (yl rfl rfl) ?_
   refine o_index_P _ hr1 Tryz.underlying27 Tryz.sizeOf3 rfl rfl rfl rfl (by omega) ?_; intro b7 o7 z7 q7 hz7 hE7 hrow7
   obtain ⟨rfl, hi7⟩ := hE7
   refine R_guard (yl rfl rfl) ?_
   refine o_load_P H Tryz.isAgg3 rfl rfl (hrow7 0 _ rfl) ?_
   refine R_guard (yl rfl rfl) ?_
   refine o_call Tryz.call87 rfl rfl (l6In_c _ _ _ _ ) ?_
   rintro _ w8 ⟨rfl, ew8⟩; have H := H.step ew8; refine ⟨_, rfl, ?_⟩
   refine R_guard (yl rfl rfl) ?_
   refine o_not rfl rfl ?_
   refine o_pick_f rfl rfl rfl ?_
   refine q3 ?_
   refine W_cond rfl ?_ ?_
   ·intro hc9
    try simp only [nrm] at hc9
    refine q2 ?_
    refine o_assign rfl rfl ?_
    refine q3 ?_
    refine W_ret ?_
    refine N_B_ret ?_
    refine N_K_ret ?_
    refine N_LP_ret ?_
    refine N_B_ret ?_
    refine N_K_ret ?_
    refine ret_gen (rs := [.tmp 2]) (vs := [_]) Tryz.results99 ⟨rfl, trivial⟩ ?_
    exact H.rets (congrArg Value.bool (by rw [Sp.l5Item, Sp.all_false hz7 (by simp [Sp.idOk, *])]; rfl))
   intro hc9'
   try simp only [nrm] at hc9'
   refine W_skip ?_
   refine N_B ?_
   refine N_K ?_
   refine W_region ?_
   refine o_move rfl rfl ?_
   refine o_add rfl rfl rfl ⟨by omega, by omega⟩ ?_
   refine o_assign rfl rfl ?_
   refine R_nil ?_
   refine N_LP (hJ := ⟨k + 1, _, rfl, hle4, H, ?inv, rfl⟩) (hM := ?hM) (hf := ?hf) (hm := ?hm)
   case hM => (repeat (first | exact Sub.nil | refine Sub.cons rfl ?_))
   case hf => (repeat (first | exact Sub.nil | refine Sub.cons rfl ?_))
   case hm => omega
   case inv => exact ⟨by omega, Sp.all_take hall hz7 (by simp [Sp.idOk, *])⟩
  intro hc5'
  try simp only [nrm] at hc5'
  refine W_exit ?_
  refine N_K_exit ?_
  refine N_LP_exit ?_
  refine N_B_same ?_
  refine N_K ?_
  refine q2 ?_
  refine o_fieldAddr 0 Tryz.runUnderlying39 rfl Tryz.sizeOf9 rfl rfl rfl ?_
  refine o_load_B 0 H Tryz.isAgg9 rfl rfl rfl rfl ?_
  refine o_call Tryz.call149 rfl rfl (PathValid_c _ _ H.sub _ hi1 ) ?_
  rintro _ w11 ⟨rfl, ew11⟩; have H := H.step ew11; refine ⟨_, rfl, ?_⟩
  refine o_move rfl rfl ?_
  refine R_case (t := 25) rfl ?_ ?_
  ·intro hc12
   try simp only [nrm] at hc12
   refine R_guard (yl rfl rfl) ?_
   refine o_fieldAddr 2 Tryz.runUnderlying39 rfl Tryz.sizeOf27 rfl rfl rfl ?_
   refine R_guard (yl rfl rfl) ?_
   refine o_load_B 0 H Tryz.isAgg27 rfl rfl rfl rfl ?_
   refine R_guard (yl rfl rfl) ?_
   refine o_len_slice Tryz.underlying27 rfl rfl ?_
   refine R_guard (yl rfl rfl) ?_
   refine o_leq rfl rfl rfl ?_
   refine o_pick_t rfl rfl rfl ?_
   refine o_assign rfl rfl ?_
   refine q3 ?_
   refine W_ret ?_
   refine ret_gen (rs := [.tmp 2]) (vs := [_]) Tryz.results99 ⟨rfl, trivial⟩ ?_
   obtain rfl : k = x.ids.length := by omega
   rw [List.take_length] at hall
   exact H.rets (congrArg Value.bool (by simp only [Sp.l5Item, hall, hc12, Bool.true_and]; rw [Bool.eq_iff_iff]; simp; omega))
  intro hc12'
  try simp only [nrm] at hc12'
  refine R_pass rfl (yl_ne rfl rfl rfl) ?_
  refine R_pass rfl (yl_ne rfl rfl rfl) ?_
  refine R_pass rfl (yl_ne rfl rfl rfl) ?_
  refine R_pass rfl (yl_ne rfl rfl rfl) ?_
  refine o_pick_f rfl rfl rfl ?_
  refine o_assign rfl rfl ?_
  refine q3 ?_
  refine W_ret ?_
  refine ret_gen (rs := [.tmp 2]) (vs := [_]) Tryz.results99 ⟨rfl, trivial⟩ ?_
  exact H.rets (congrArg Value.bool (by simp [Sp.l5Item, hc12']))
theorem TreeValid_c (w0 : World) (G0 : PH) (hG : PSub G0 w0) (vlist : Value) (list : List (BItem)) (hlist : RdItems G0 vlist list)  :
  Calls Tryz.prog 84 #[vlist] w0 (Rets w0 (.bool (Sp.TreeValid list))) := by
 obtain ⟨alist, klist, rfl⟩ := hlist.shape
 have hlimlist : list.length ≤ 1099511627776 := hlist.lim
 have H := Hp.init hG
 refine calls_of_W (l := [.slice alist list.length klist]) Tryz.func84 rfl Tryz.ntmps84 rfl ?_
 refine q2 ?_
 refine o_assign rfl rfl ?_
 refine q3 ?_
 refine W_seq ?_
 refine q2 ?_
 refine o_assign rfl rfl ?_
 refine q3 ?_
 refine W_block ?_
 refine W_loop (hf := (Sub.cons (t := 0) rfl Sub.nil)) (J := fun M w m => ∃ (k : Nat) (G : PH), M = [(3, .int .i64 (k : Int))] ∧ PLe G0 G ∧ Hp w0 G0 [] w G [] ∧ (k ≤ list.length ∧ ∀ j, j < k → Sp.okT list j = true) ∧ m = (list.length - k)) (h0 := ⟨0, _, rfl, PLe.refl _, H, ?inv, rfl⟩) (hM := ?hM) (round := ?round)
 case hM => (repeat (first | exact Sub.nil | refine Sub.cons rfl ?_))
 case inv => exact ⟨by omega, fun j hj => by omega⟩
 case round =>
  rintro _ w1 _ ⟨k, G1, rfl, hle1, H, hinv1, rfl⟩
  have hlist := hlist.up hle1
  obtain ⟨hk, hall⟩ := hinv1
  refine W_seq ?_
  refine q2 ?_
  refine o_move rfl rfl ?_
  refine o_move rfl rfl ?_
  refine o_len_slice Tryz.underlying24 rfl rfl ?_
  refine o_lss rfl rfl rfl ?_
  refine q3 ?_
  refine W_cond rfl ?_ ?_
  ·intro hc2
   try simp only [nrm] at hc2
   refine W_skip ?_
   refine N_K ?_
   refine W_seq ?_
   refine W_block ?_
   refine W_seq ?_
   refine W_drawK [] 34 H (by kernel_rfl) rfl ?_; intro w3 H; have hd3 := PLe.refl G1
   refine RD_t 0 rfl (by kernel_rfl) rfl (fun _ hK => v_move rfl) ?_
   refine RD_t 1 rfl (by kernel_rfl) rfl (fun _ hK => v_move rfl) ?_
   have hl4 := hlist.len
   obtain ⟨b4, o4, z4, q4, ha4, hz4, hq4, hE4, hrow4, _⟩ := hlist.at (i := k) (by omega)
   clear hq4
   obtain ⟨a4, m4, c4, rfl, hi4, hr4⟩ := hE4; have hy_hi4 : _ ≤ 16777216 := hi4; have hn_hr4 := hr4.len; have hx_hr4 : _ ≤ 1099511627776 := hr4.lim
   refine RD_t 2 rfl (by kernel_rfl) rfl (fun _ hK => v_index_P (i := k) ha4 Tryz.underlying24 Tryz.sizeOf39 rfl rfl rfl (by omega)) ?_
   refine RD_t 3 rfl (by kernel_rfl) rfl (fun _ hK => v_loadagg_P hK Tryz.isAgg39 Tryz.sizeOf39 rfl hrow4 rfl) ?_
   refine RD_run [4] (by kernel_rfl) rfl (RDs.cons rfl ?_ RDs.nil)
   refine o_call Tryz.call99 rfl rfl (l5Item_c _ _ H.sub _ _ ⟨_, _, _, rfl, hi4, hr4⟩ ) ?_
   rintro _ w5 ⟨rfl, ew5⟩; have H := H.step ew5; refine ⟨_, rfl, ?_⟩
   refine R_nil ?_
   refine N_DK (Kn.of' H hd3 SubL.nil) ?_
   refine RD_t 5 rfl (by kernel_rfl) rfl (fun _ hK => v_not rfl) ?_
   refine RD_t 6 rfl (by kernel_rfl) rfl (fun _ hK => v_move rfl) ?_
   refine RD_case (t := 16) rfl ?_ ?_
   ·intro hc6
    try simp only [nrm] at hc6
    refine RD_pass 7 rfl (by kernel_rfl) (by kernel_rfl) (by kernel_rfl) rfl (yl_ne rfl rfl rfl) ?_
    refine RD_pass 8 rfl (by kernel_rfl) (by kernel_rfl) (by kernel_rfl) rfl (yl_ne rfl rfl rfl) ?_
    refine RD_pass 9 rfl (by kernel_rfl) (by kernel_rfl) (by kernel_rfl) rfl (yl_ne rfl rfl rfl) ?_
    refine RD_pass 10 rfl (by kernel_rfl) (by kernel_rfl) (by kernel_rfl) rfl (yl_un rfl rfl) ?_
    refine RD_pass 11 rfl (by kernel_rfl) (by kernel_rfl) (by kernel_rfl) rfl (yl_un rfl rfl) ?_
    refine RD_pass 12 rfl (by kernel_rfl) (by kernel_rfl) (by kernel_rfl) rfl (yl_un rfl rfl) ?_
    refine RD_pass 13 rfl (by kernel_rfl) (by kernel_rfl) (by kernel_rfl) rfl (yl_un rfl rfl) ?_
    refine RD_pass 14 rfl (by kernel_rfl) (by kernel_rfl) (by kernel_rfl) rfl (yl_un rfl rfl) ?_
    refine RD_pass 15 rfl (by kernel_rfl) (by kernel_rfl) (by kernel_rfl) rfl (yl_un rfl rfl) ?_
    refine RD_pass 16 rfl (by kernel_rfl) (by kernel_rfl) (by kernel_rfl) rfl (yl_un rfl rfl) ?_
    refine RD_pass 17 rfl (by kernel_rfl) (by kernel_rfl) (by kernel_rfl) rfl (yl_un rfl rfl) ?_
    refine RD_pass 18 rfl (by kernel_rfl) (by kernel_rfl) (by kernel_rfl) rfl (yl_un rfl rfl) ?_
    refine RD_pass 19 rfl (by kernel_rfl) (by kernel_rfl) (by kernel_rfl) rfl (yl_un rfl rfl) ?_
    refine RD_pass 20 rfl (by kernel_rfl) (by kernel_rfl) (by kernel_rfl) rfl (yl_un rfl rfl) ?_
    refine RD_pass 21 rfl (by kernel_rfl) (by kernel_rfl) (by kernel_rfl) rfl (yl_un rfl rfl) ?_
    refine RD_pass 22 rfl (by kernel_rfl) (by kernel_rfl) (by kernel_rfl) rfl (yl_ne rfl rfl rfl) ?_
    refine RD_t 23 rfl (by kernel_rfl) rfl (fun _ hK => v_pick_t rfl rfl) ?_
    refine RD_t 24 rfl (by kernel_rfl) rfl (fun _ hK => v_move rfl) ?_
    refine RD_pass 25 rfl (by kernel_rfl) (by kernel_rfl) (by kernel_rfl) rfl (yl_ne rfl rfl rfl) ?_
    refine RD_pass 26 rfl (by kernel_rfl) (by kernel_rfl) (by kernel_rfl) rfl (yl_ne rfl rfl rfl) ?_
    refine RD_pass 27 rfl (by kernel_rfl) (by kernel_rfl) (by kernel_rfl) rfl (yl_ne rfl rfl rfl) ?_
    refine RD_pass 28 rfl (by kernel_rfl) (by kernel_rfl) (by kernel_rfl) rfl (yl_ne rfl rfl rfl) ?_
    refine RD_pass 29 rfl (by kernel_rfl) (by kernel_rfl) (by kernel_rfl) rfl (yl_ne rfl rfl rfl) ?_
    refine RD_pass 30 rfl (by kernel_rfl) (by kernel_rfl) (by kernel_rfl) rfl (yl_ne rfl rfl rfl) ?_
    refine RD_pass 31 rfl (by kernel_rfl) (by kernel_rfl) (by kernel_rfl) rfl (yl_ne rfl rfl rfl) ?_
    refine RD_pass 32 rfl (by kernel_rfl) (by kernel_rfl) (by kernel_rfl) rfl (yl_ne rfl rfl rfl) ?_
    refine RD_t 33 rfl (by kernel_rfl) rfl (fun _ hK => v_pick_t rfl rfl) ?_
    refine RD_done (by kernel_rfl) ?_
    refine N_K ?_
    refine W_true rfl ?_
    refine q2 ?_
    refine o_assign rfl rfl ?_
    refine q3 ?_
    refine W_ret ?_
    refine N_B_ret ?_
    refine N_K_ret ?_
    refine N_LP_ret ?_
    refine N_B_ret ?_
    refine N_K_ret ?_
    refine ret_gen (rs := [.tmp 2]) (vs := [_]) Tryz.results84 ⟨rfl, trivial⟩ ?_
    exact H.rets (congrArg Value.bool (by rw [Sp.TreeValid, Sp.not_all_range (k := k) (by omega) (by rw [Sp.okT_at hz4]; simp [Sp.prevLt, *])]; rfl))
   intro hc6'
   try simp only [nrm] at hc6'
   refine RD_tg 7 rfl (by kernel_rfl) rfl (yl rfl rfl) (fun _ hK => v_move rfl) ?_
   refine RD_tg 8 rfl (by kernel_rfl) rfl (yl rfl rfl) (fun _ hK => v_gtr rfl rfl) ?_
   refine RD_tg 9 rfl (by kernel_rfl) rfl (yl rfl rfl) (fun _ hK => v_move rfl) ?_
   refine RD_case (t := 19) rfl ?_ ?_
   ·intro hc7
    try simp only [nrm] at hc7
    have hk0 : k ≠ 0 := by omega
    refine RD_tg 10 rfl (by kernel_rfl) rfl (yl rfl rfl) (fun _ hK => v_move rfl) ?_
    refine RD_tg 11 rfl (by kernel_rfl) rfl (yl rfl rfl) (fun _ hK => v_move rfl) ?_
    refine RD_tg 12 rfl (by kernel_rfl) rfl (yl rfl rfl) (fun _ hK => v_sub rfl rfl ⟨by omega, by omega⟩) ?_
    have hl9 := hlist.len
    obtain ⟨b9, o9, z9, q9, ha9, hz9, hq9, hE9, hrow9, _⟩ := hlist.at (i := (k - 1)) (by omega)
    clear hq9
    obtain ⟨a9, m9, c9, rfl, hi9, hr9⟩ := hE9; have hy_hi9 : _ ≤ 16777216 := hi9; have hn_hr9 := hr9.len; have hx_hr9 : _ ≤ 1099511627776 := hr9.lim
    refine RD_tg 13 rfl (by kernel_rfl) rfl (yl rfl rfl) (fun _ hK => v_index_P (i := (k - 1)) ha9 Tryz.underlying24 Tryz.sizeOf39 rfl rfl (by omega) (by omega)) ?_
    refine RD_tg 14 rfl (by kernel_rfl) rfl (yl rfl rfl) (fun _ hK => v_fieldAddr 0 Tryz.runUnderlying39 rfl Tryz.sizeOf9 rfl rfl) ?_
    refine RD_tg 15 rfl (by kernel_rfl) rfl (yl rfl rfl) (fun _ hK => v_load_P hK Tryz.isAgg9 rfl (hrow9 0 _ rfl)) ?_
    refine RD_tg 16 rfl (by kernel_rfl) rfl (yl rfl rfl) (fun _ hK => v_move rfl) ?_
    refine RD_tg 17 rfl (by kernel_rfl) rfl (yl rfl rfl) (fun _ hK => v_move rfl) ?_
    have hl10 := hlist.len
    obtain ⟨b10, o10, z10, q10, ha10, hz10, hq10, hE10, hrow10, _⟩ := hlist.at (i := k) (by omega)
    clear hq10
    obtain ⟨a10, m10, c10, rfl, hi10, hr10⟩ := hE10; have hy_hi10 : _ ≤ 16777216 := hi10; have hn_hr10 := hr10.len; have hx_hr10 : _ ≤ 1099511627776 := hr10.lim
    have hzz10 : z4 = z10 := Option.some.inj (hz4.symm.trans hz10)
    subst hzz10
    refine RD_tg 18 rfl (by kernel_rfl) rfl (yl rfl rfl) (fun _ hK => v_index_P (i := k) ha10 Tryz.underlying24 Tryz.sizeOf39 rfl rfl rfl (by omega)) ?_
    refine RD_tg 19 rfl (by kernel_rfl) rfl (yl rfl rfl) (fun _ hK => v_fieldAddr 0 Tryz.runUnderlying39 rfl Tryz.sizeOf9 rfl rfl) ?_
    refine RD_tg 20 rfl (by kernel_rfl) rfl (yl rfl rfl) (fun _ hK => v_load_P hK Tryz.isAgg9 rfl (hrow10 0 _ rfl)) ?_
    refine RD_tg 21 rfl (by kernel_rfl) rfl (yl rfl rfl) (fun _ hK => v_sgeq rfl rfl) ?_
    refine RD_tg 22 rfl (by kernel_rfl) rfl (yl rfl rfl) (fun _ hK => v_pick_t rfl rfl) ?_
    refine RD_t 23 rfl (by kernel_rfl) rfl (fun _ hK => v_pick_f rfl rfl) ?_
    refine RD_t 24 rfl (by kernel_rfl) rfl (fun _ hK => v_move rfl) ?_
    refine RD_case (t := 34) rfl ?_ ?_
    ·intro hc11
     try simp only [nrm] at hc11
     refine RD_pass 25 rfl (by kernel_rfl) (by kernel_rfl) (by kernel_rfl) rfl (yl_ne rfl rfl rfl) ?_
     refine RD_pass 26 rfl (by kernel_rfl) (by kernel_rfl) (by kernel_rfl) rfl (yl_ne rfl rfl rfl) ?_
     refine RD_pass 27 rfl (by kernel_rfl) (by kernel_rfl) (by kernel_rfl) rfl (yl_ne rfl rfl rfl) ?_
     refine RD_pass 28 rfl (by kernel_rfl) (by kernel_rfl) (by kernel_rfl) rfl (yl_ne rfl rfl rfl) ?_
     refine RD_pass 29 rfl (by kernel_rfl) (by kernel_rfl) (by kernel_rfl) rfl (yl_ne rfl rfl rfl) ?_
     refine RD_pass 30 rfl (by kernel_rfl) (by kernel_rfl) (by kernel_rfl) rfl (yl_ne rfl rfl rfl) ?_
     refine RD_pass 31 rfl (by kernel_rfl) (by kernel_rfl) (by kernel_rfl) rfl (yl_ne rfl rfl rfl) ?_
     refine RD_pass 32 rfl (by kernel_rfl) (by kernel_rfl) (by kernel_rfl) rfl (yl_ne rfl rfl rfl) ?_
     refine RD_t 33 rfl (by kernel_rfl) rfl (fun _ hK => v_pick_t rfl rfl) ?_
     refine RD_done (by kernel_rfl) ?_
     refine N_K ?_
     refine W_true rfl ?_
     refine q2 ?_
     refine o_assign rfl rfl ?_
     refine q3 ?_
     refine W_ret ?_
     refine N_B_ret ?_
     refine N_K_ret ?_
     refine N_LP_ret ?_
     refine N_B_ret ?_
     refine N_K_ret ?_
     refine ret_gen (rs := [.tmp 2]) (vs := [_]) Tryz.results84 ⟨rfl, trivial⟩ ?_
     exact H.rets (congrArg Value.bool (by rw [Sp.TreeValid, Sp.not_all_range (k := k) (by omega) (by rw [Sp.okT_at hz4]; simp [Sp.prevLt, *])]; rfl))
    intro hc11'
    try simp only [nrm] at hc11'
    refine RD_tg 25 rfl (by kernel_rfl) rfl (yl rfl rfl) (fun _ hK => v_move rfl) ?_
    refine RD_tg 26 rfl (by kernel_rfl) rfl (yl rfl rfl) (fun _ hK => v_move rfl) ?_
    refine RD_tg 27 rfl (by kernel_rfl) rfl (yl rfl rfl) (fun _ hK => v_move rfl) ?_
    have hl12 := hlist.len
    obtain ⟨b12, o12, z12, q12, ha12, hz12, hq12, hE12, hrow12, _⟩ := hlist.at (i := k) (by omega)
    clear hq12
    obtain ⟨a12, m12, c12, rfl, hi12, hr12⟩ := hE12; have hy_hi12 : _ ≤ 16777216 := hi12; have hn_hr12 := hr12.len; have hx_hr12 : _ ≤ 1099511627776 := hr12.lim
    have hzz12 : z4 = z12 := Option.some.inj (hz4.symm.trans hz12)
    subst hzz12
    refine RD_tg 28 rfl (by kernel_rfl) rfl (yl rfl rfl) (fun _ hK => v_index_P (i := k) ha12 Tryz.underlying24 Tryz.sizeOf39 rfl rfl rfl (by omega)) ?_
    refine RD_tg 29 rfl (by kernel_rfl) rfl (yl rfl rfl) (fun _ hK => v_fieldAddr 0 Tryz.runUnderlying39 rfl Tryz.sizeOf9 rfl rfl) ?_
    refine RD_tg 30 rfl (by kernel_rfl) rfl (yl rfl rfl) (fun _ hK => v_load_P hK Tryz.isAgg9 rfl (hrow12 0 _ rfl)) ?_
    refine RD_run [31] (by kernel_rfl) rfl (RDs.cons rfl ?_ RDs.nil)
    refine R_guard (yl rfl rfl) ?_
    refine o_call Tryz.call140 rfl rfl (l5Home_c _ _ H.sub _ _ hlist _ hi12 ) ?_
    rintro _ w13 ⟨rfl, ew13⟩; have H := H.step ew13; refine ⟨_, rfl, ?_⟩
    refine R_nil ?_
    refine N_DK (Kn.of' H hd3 SubL.nil) ?_
    refine RD_tg 32 rfl (by kernel_rfl) rfl (yl rfl rfl) (fun _ hK => v_not rfl) ?_
    refine RD_t 33 rfl (by kernel_rfl) rfl (fun _ hK => v_pick_f rfl rfl) ?_
    refine RD_done (by kernel_rfl) ?_
    refine N_K ?_
    refine W_cond rfl ?_ ?_
    ·intro hc14
     try simp only [nrm] at hc14
     refine q2 ?_
     refine o_assign rfl rfl ?_
     refine q3 ?_
     refine W_ret ?_
     refine N_B_ret ?_
     refine N_K_ret ?_
     refine N_LP_ret ?_
     refine N_B_ret ?_
     refine N_K_ret ?_
     refine ret_gen (rs := [.tmp 2]) (vs := [_]) Tryz.results84 ⟨rfl, trivial⟩ ?_
     exact H.rets (congrArg Value.bool (by rw [Sp.TreeValid, Sp.not_all_range (k := k) (by omega) (by rw [Sp.okT_at hz4]; simp [Sp.prevLt, *])]; rfl))
    intro hc14'
    try simp only [nrm] at hc14'
    refine W_skip ?_
    refine N_B ?_
    refine N_K ?_
    refine W_region ?_
    refine o_move rfl rfl ?_
    refine o_add rfl rfl rfl ⟨by omega, by omega⟩ ?_
    refine o_assign rfl rfl ?_
    refine R_nil ?_
    refine N_LP (hJ := ⟨k + 1, _, rfl, hle1, H, ?inv, rfl⟩) (hM := ?hM) (hf := ?hf) (hm := ?hm)
    case hM => (repeat (first | exact Sub.nil | refine Sub.cons rfl ?_))
    case hf => (repeat (first | exact Sub.nil | refine Sub.cons rfl ?_))
    case hm => omega
    case inv => exact ⟨by omega, Sp.upto_succ hall (by rw [Sp.okT_at hz4]; simp [Sp.prevLt, *])⟩
   intro hc7'
   try simp only [nrm] at hc7'
   have hk0 : k = 0 := by omega
   refine RD_pass 10 rfl (by kernel_rfl) (by kernel_rfl) (by kernel_rfl) rfl (yl_ne rfl rfl rfl) ?_
   refine RD_pass 11 rfl (by kernel_rfl) (by kernel_rfl) (by kernel_rfl) rfl (yl_ne rfl rfl rfl) ?_
   refine RD_pass 12 rfl (by kernel_rfl) (by kernel_rfl) (by kernel_rfl) rfl (yl_ne rfl rfl rfl) ?_
   refine RD_pass 13 rfl (by kernel_rfl) (by kernel_rfl) (by kernel_rfl) rfl (yl_ne rfl rfl rfl) ?_
   refine RD_pass 14 rfl (by kernel_rfl) (by kernel_rfl) (by kernel_rfl) rfl (yl_ne rfl rfl rfl) ?_
   refine RD_pass 15 rfl (by kernel_rfl) (by kernel_rfl) (by kernel_rfl) rfl (yl_ne rfl rfl rfl) ?_
   refine RD_pass 16 rfl (by kernel_rfl) (by kernel_rfl) (by kernel_rfl) rfl (yl_ne rfl rfl rfl) ?_
   refine RD_pass 17 rfl (by kernel_rfl) (by kernel_rfl) (by kernel_rfl) rfl (yl_ne rfl rfl rfl) ?_
   refine RD_pass 18 rfl (by kernel_rfl) (by kernel_rfl) (by kernel_rfl) rfl (yl_ne rfl rfl rfl) ?_
   refine RD_pass 19 rfl (by kernel_rfl) (by kernel_rfl) (by kernel_rfl) rfl (yl_ne rfl rfl rfl) ?_
   refine RD_pass 20 rfl (by kernel_rfl) (by kernel_rfl) (by kernel_rfl) rfl (yl_ne rfl rfl rfl) ?_
   refine RD_pass 21 rfl (by kernel_rfl) (by kernel_rfl) (by kernel_rfl) rfl (yl_ne rfl rfl rfl) ?_
   refine RD_tg 22 rfl (by kernel_rfl) rfl (yl rfl rfl) (fun _ hK => v_pick_f rfl rfl) ?_
   refine RD_t 23 rfl (by kernel_rfl) rfl (fun _ hK => v_pick_f rfl rfl) ?_
   refine RD_t 24 rfl (by kernel_rfl) rfl (fun _ hK => v_move rfl) ?_
   refine RD_tg 25 rfl (by kernel_rfl) rfl (yl rfl rfl) (fun _ hK => v_move rfl) ?_
   refine RD_tg 26 rfl (by kernel_rfl) rfl (yl rfl rfl) (fun _ hK => v_move rfl) ?_
   refine RD_tg 27 rfl (by kernel_rfl) rfl (yl rfl rfl) (fun _ hK => v_move rfl) ?_
   have hl16 := hlist.len
   obtain ⟨b16, o16, z16, q16, ha16, hz16, hq16, hE16, hrow16, _⟩ := hlist.at (i := k) (by omega)
   clear hq16
   obtain ⟨a16, m16, c16, rfl, hi16, hr16⟩ := hE16; have hy_hi16 : _ ≤ 16777216 := hi16; have hn_hr16 := hr16.len; have hx_hr16 : _ ≤ 1099511627776 := hr16.lim
   have hzz16 : z4 = z16 := Option.some.inj (hz4.symm.trans hz16)
   subst hzz16
   refine RD_tg 28 rfl (by kernel_rfl) rfl (yl rfl rfl) (fun _ hK => v_index_P (i := k) ha16 Tryz.underlying24 Tryz.sizeOf39 rfl rfl rfl (by omega)) ?_
   refine RD_tg 29 rfl (by kernel_rfl) rfl (yl rfl rfl) (fun _ hK => v_fieldAddr 0 Tryz.runUnderlying39 rfl Tryz.sizeOf9 rfl rfl) ?_
   refine RD_tg 30 rfl (by kernel_rfl) rfl (yl rfl rfl) (fun _ hK => v_load_P hK Tryz.isAgg9 rfl (hrow16 0 _ rfl)) ?_
   refine RD_run [31] (by kernel_rfl) rfl (RDs.cons rfl ?_ RDs.nil)
   refine R_guard (yl rfl rfl) ?_
   refine o_call Tryz.call140 rfl rfl (l5Home_c _ _ H.sub _ _ hlist _ hi16 ) ?_
   rintro _ w17 ⟨rfl, ew17⟩; have H := H.step ew17; refine ⟨_, rfl, ?_⟩
   refine R_nil ?_
   refine N_DK (Kn.of' H hd3 SubL.nil) ?_
   refine RD_tg 32 rfl (by kernel_rfl) rfl (yl rfl rfl) (fun _ hK => v_not rfl) ?_
   refine RD_t 33 rfl (by kernel_rfl) rfl (fun _ hK => v_pick_f rfl rfl) ?_
   refine RD_done (by kernel_rfl) ?_
   refine N_K ?_
   refine W_cond rfl ?_ ?_
   ·intro hc18
    try simp only [nrm] at hc18
    refine q2 ?_
    refine o_assign rfl rfl ?_
    refine q3 ?_
    refine W_ret ?_
    refine N_B_ret ?_
    refine N_K_ret ?_
    refine N_LP_ret ?_
    refine N_B_ret ?_
    refine N_K_ret ?_
    refine ret_gen (rs := [.tmp 2]) (vs := [_]) Tryz.results84 ⟨rfl, trivial⟩ ?_
    exact H.rets (congrArg Value.bool (by rw [Sp.TreeValid, Sp.not_all_range (k := k) (by omega) (by rw [Sp.okT_at hz4]; simp [Sp.prevLt, *])]; rfl))
   intro hc18'
   try simp only [nrm] at hc18'
   refine W_skip ?_
   refine N_B ?_
   refine N_K ?_
   refine W_region ?_
   refine o_move rfl rfl ?_
   refine o_add rfl rfl rfl ⟨by omega, by omega⟩ ?_
   refine o_assign rfl rfl ?_
   refine R_nil ?_
   refine N_LP (hJ := ⟨k + 1, _, rfl, hle1, H, ?inv, rfl⟩) (hM := ?hM) (hf := ?hf) (hm := ?hm)
   case hM => (repeat (first | exact Sub.nil | refine Sub.cons rfl ?_))
   case hf => (repeat (first | exact Sub.nil | refine Sub.cons rfl ?_))
   case hm => omega
   case inv => exact ⟨by omega, Sp.upto_succ hall (by rw [Sp.okT_at hz4]; simp [Sp.prevLt, *])⟩
  intro hc2'
  try simp only [nrm] at hc2'
  refine W_exit ?_
  refine N_K_exit ?_
  refine N_LP_exit ?_
  refine N_B_same ?_
  refine N_K ?_
  refine q2 ?_
  refine o_move rfl rfl ?_
  refine o_len_slice Tryz.underlying24 rfl rfl ?_
  refine o_leq rfl rfl rfl ?_
  refine o_assign rfl rfl ?_
  refine q3 ?_
  refine W_ret ?_
  refine ret_gen (rs := [.tmp 2]) (vs := [_]) Tryz.results84 ⟨rfl, trivial⟩ ?_
  exact H.rets (congrArg Value.bool (by rw [Sp.TreeValid, Sp.all_range (fun j hj => hall j (by omega)), Bool.true_and]; rw [Bool.eq_iff_iff]; simp; omega))
theorem l2Same_c (w0 : World) (G0 : PH) (hG : PSub G0 w0) (va : Value) (a : List (Int)) (ha : RdI G0 va a) (vb : Value) (b : List (Int)) (hb : RdI G0 vb b)  :
  Calls Tryz.prog 139 #[va, vb] w0 (Rets w0 (.bool (Sp.l2Same a b))) := by
 obtain ⟨aa, ka, rfl⟩ := ha.shape
 have hlima : a.length ≤ 1099511627776 := ha.lim
 obtain ⟨ab, kb, rfl⟩ := hb.shape
 have hlimb : b.length ≤ 1099511627776 := hb.lim
 have H := Hp.init hG
 refine calls_of_W (l := [.slice aa a.length ka, .slice ab b.length kb]) Tryz.func139 rfl Tryz.ntmps139 rfl ?_
 refine q2 ?_
 refine o_assign rfl rfl ?_
 refine q3 ?_
 refine W_seq ?_
 refine q2 ?_
 refine o_move rfl rfl ?_
 refine o_len_slice Tryz.underlying27 rfl rfl ?_
 refine o_move rfl rfl ?_
 refine o_len_slice Tryz.underlying27 rfl rfl ?_
 refine o_neq rfl rfl rfl ?_
 refine q3 ?_
 refine W_cond rfl ?_ ?_
 ·intro hc1
  try simp only [nrm] at hc1
  refine q2 ?_
  refine o_assign rfl rfl ?_
  refine q3 ?_
  refine W_ret ?_
  refine N_K_ret ?_
  refine ret_gen (rs := [.tmp 4]) (vs := [_]) Tryz.results139 ⟨rfl, trivial⟩ ?_
  exact H.rets (congrArg Value.bool (by unfold Sp.l2Same; exact Sp.ne_len (by omega)))
 intro hc1'
 try simp only [nrm] at hc1'
 refine W_skip ?_
 refine N_K ?_
 refine W_seq ?_
 refine q2 ?_
 refine o_assign rfl rfl ?_
 refine q3 ?_
 refine W_block ?_
 refine W_loop (hf := (Sub.cons (t := 0) rfl (Sub.cons (t := 1) rfl Sub.nil))) (J := fun M w m => ∃ (k : Nat) (G : PH), M = [(5, .int .i64 (k : Int))] ∧ PLe G0 G ∧ Hp w0 G0 [] w G [] ∧ (k ≤ a.length ∧ a.take k = b.take k) ∧ m = (a.length - k)) (h0 := ⟨0, _, rfl, PLe.refl _, H, ?inv, rfl⟩) (hM := ?hM) (round := ?round)
 case hM => (repeat (first | exact Sub.nil | refine Sub.cons rfl ?_))
 case inv => exact ⟨by omega, by simp⟩
 case round =>
  rintro _ w2 _ ⟨k, G2, rfl, hle2, H, hinv2, rfl⟩
  have ha := ha.up hle2
  have hb := hb.up hle2
  obtain ⟨hk, hall⟩ := hinv2
  refine W_seq ?_
  refine q2 ?_
  refine o_move rfl rfl ?_
  refine o_move rfl rfl ?_
  refine o_len_slice Tryz.underlying27 rfl rfl ?_
  refine o_lss rfl rfl rfl ?_
  refine q3 ?_
  refine W_cond rfl ?_ ?_
  ·intro hc3
   try simp only [nrm] at hc3
   refine W_skip ?_
   refine N_K ?_
   refine W_seq ?_
   refine W_block ?_
   refine W_seq ?_
   refine W_drawK [] 9 H (by kernel_rfl) rfl ?_; intro w4 H; have hd4 := PLe.refl G2
   refine RD_t 0 rfl (by kernel_rfl) rfl (fun _ hK => v_move rfl) ?_
   refine RD_t 1 rfl (by kernel_rfl) rfl (fun _ hK => v_move rfl) ?_
   have hl5 := ha.len
   obtain ⟨b5, o5, z5, q5, ha5, hz5, hq5, hE5, hrow5, _⟩ := ha.at (i := k) (by omega)
   clear hq5
   obtain ⟨rfl, hi5⟩ := hE5
   refine RD_t 2 rfl (by kernel_rfl) rfl (fun _ hK => v_index_P (i := k) ha5 Tryz.underlying27 Tryz.sizeOf3 rfl rfl rfl (by omega)) ?_
   refine RD_t 3 rfl (by kernel_rfl) rfl (fun _ hK => v_load_P hK Tryz.isAgg3 rfl (hrow5 0 _ rfl)) ?_
   refine RD_t 4 rfl (by kernel_rfl) rfl (fun _ hK => v_move rfl) ?_
   refine RD_t 5 rfl (by kernel_rfl) rfl (fun _ hK => v_move rfl) ?_
   have hl6 := hb.len
   obtain ⟨b6, o6, z6, q6, ha6, hz6, hq6, hE6, hrow6, _⟩ := hb.at (i := k) (by omega)
   clear hq6
   obtain ⟨rfl, hi6⟩ := hE6
   refine RD_t 6 rfl (by kernel_rfl) rfl (fun _ hK => v_index_P (i := k) ha6 Tryz.underlying27 Tryz.sizeOf3 rfl rfl rfl (by omega)) ?_
   refine RD_t 7 rfl (by kernel_rfl) rfl (fun _ hK => v_load_P hK Tryz.isAgg3 rfl (hrow6 0 _ rfl)) ?_
   refine RD_t 8 rfl (by kernel_rfl) rfl (fun _ hK => v_neq rfl rfl) ?_
   refine RD_done (by kernel_rfl) ?_
   refine N_K ?_
   refine W_cond rfl ?_ ?_
   ·intro hc7
    try simp only [nrm] at hc7
    refine q2 ?_
    refine o_assign rfl rfl ?_
    refine q3 ?_
    refine W_ret ?_
    refine N_B_ret ?_
    refine N_K_ret ?_
    refine N_LP_ret ?_
    refine N_B_ret ?_
    refine N_K_ret ?_
    refine ret_gen (rs := [.tmp 4]) (vs := [_]) Tryz.results139 ⟨rfl, trivial⟩ ?_
    exact H.rets (congrArg Value.bool (by unfold Sp.l2Same; exact Sp.ne_at hz5 hz6 (by omega)))
   intro hc7'
   try simp only [nrm] at hc7'
   refine W_skip ?_
   refine N_B ?_
   refine N_K ?_
   refine W_region ?_
   refine o_move rfl rfl ?_
   refine o_add rfl rfl rfl ⟨by omega, by omega⟩ ?_
   refine o_assign rfl rfl ?_
   refine R_nil ?_
   refine N_LP (hJ := ⟨k + 1, _, rfl, hle2, H, ?inv, rfl⟩) (hM := ?hM) (hf := ?hf) (hm := ?hm)
   case hM => (repeat (first | exact Sub.nil | refine Sub.cons rfl ?_))
   case hf => (repeat (first | exact Sub.nil | refine Sub.cons rfl ?_))
   case hm => omega
   case inv => exact ⟨by omega, Sp.take_eq hall hz5 (by rw [hz6]; congr 1; omega)⟩
  intro hc3'
  try simp only [nrm] at hc3'
  refine W_exit ?_
  refine N_K_exit ?_
  refine N_LP_exit ?_
  refine N_B_same ?_
  refine N_K ?_
  refine q2 ?_
  refine o_assign rfl rfl ?_
  refine q3 ?_
  refine W_ret ?_
  refine ret_gen (rs := [.tmp 4]) (vs := [_]) Tryz.results139 ⟨rfl, trivial⟩ ?_
  exact H.rets (congrArg Value.bool (by unfold Sp.l2Same; exact Sp.eq_all hall (by omega) (by omega)))
theorem BlockValid_c (w0 : World) (G0 : PH) (hG : PSub G0 w0) (vbytes : Value) (bytes : List (Int)) (hbytes : RdI G0 vbytes bytes)  :
  Calls Tryz.prog 138 #[vbytes] w0 (Rets w0 (.bool (Sp.BlockValid bytes))) := by
 obtain ⟨abytes, kbytes, rfl⟩ := hbytes.shape
 have hlimbytes : bytes.length ≤ 1099511627776 := hbytes.lim
 have H := Hp.init hG
 refine calls_of_W (l := [.slice abytes bytes.length kbytes]) Tryz.func138 rfl Tryz.ntmps138 rfl ?_
 refine q2 ?_
 refine o_assign rfl rfl ?_
 refine q3 ?_
 refine W_seq ?_
 refine q2 ?_
 refine o_assign rfl rfl ?_
 refine q3 ?_
 refine W_block ?_
 refine W_loop (hf := (Sub.cons (t := 0) rfl Sub.nil)) (J := fun M w m => ∃ (k : Nat) (G : PH), M = [(3, .int .i64 (k : Int))] ∧ PLe G0 G ∧ Hp w0 G0 [] w G [] ∧ (k ≤ bytes.length ∧ (bytes.take k).all Sp.byteOk = true) ∧ m = (bytes.length - k)) (h0 := ⟨0, _, rfl, PLe.refl _, H, ?inv, rfl⟩) (hM := ?hM) (round := ?round)
 case hM => (repeat (first | exact Sub.nil | refine Sub.cons rfl ?_))
 case inv => exact ⟨by omega, by simp⟩
 case round =>
  rintro _ w1 _ ⟨k, G1, rfl, hle1, H, hinv1, rfl⟩
  have hbytes := hbytes.up hle1
  obtain ⟨hk, hall⟩ := hinv1
  refine W_seq ?_
  refine q2 ?_
  refine o_move rfl rfl ?_
  refine o_move rfl rfl ?_
  refine o_len_slice Tryz.underlying27 rfl rfl ?_
  refine o_lss rfl rfl rfl ?_
  refine q3 ?_
  refine W_cond rfl ?_ ?_
  ·intro hc2
   try simp only [nrm] at hc2
   refine W_skip ?_
   refine N_K ?_
   refine W_seq ?_
   refine W_block ?_
   refine q2 ?_
   refine o_move rfl rfl ?_
   refine o_move rfl rfl ?_
   refine o_index_P _ hbytes Tryz.underlying27 Tryz.sizeOf3 rfl rfl rfl rfl (by omega) ?_; intro b3 o3 z3 q3 hz3 hE3 hrow3
   obtain ⟨rfl, hi3⟩ := hE3
   refine o_load_P H Tryz.isAgg3 rfl rfl (hrow3 0 _ rfl) ?_
   refine o_call Tryz.call87 rfl rfl (l6In_c _ _ _ _ ) ?_
   rintro _ w4 ⟨rfl, ew4⟩; have H := H.step ew4; refine ⟨_, rfl, ?_⟩
   refine o_not rfl rfl ?_
   refine q3 ?_
   refine W_cond rfl ?_ ?_
   ·intro hc5
    try simp only [nrm] at hc5
    refine q2 ?_
    refine o_assign rfl rfl ?_
    refine q3 ?_
    refine W_ret ?_
    refine N_B_ret ?_
    refine N_K_ret ?_
    refine N_LP_ret ?_
    refine N_B_ret ?_
    refine N_K_ret ?_
    refine ret_gen (rs := [.tmp 2]) (vs := [_]) Tryz.results138 ⟨rfl, trivial⟩ ?_
    exact H.rets (congrArg Value.bool (by rw [Sp.BlockValid, Sp.all_false hz3 (by simp [Sp.byteOk, *])]; rfl))
   intro hc5'
   try simp only [nrm] at hc5'
   refine W_skip ?_
   refine N_B ?_
   refine N_K ?_
   refine W_region ?_
   refine o_move rfl rfl ?_
   refine o_add rfl rfl rfl ⟨by omega, by omega⟩ ?_
   refine o_assign rfl rfl ?_
   refine R_nil ?_
   refine N_LP (hJ := ⟨k + 1, _, rfl, hle1, H, ?inv, rfl⟩) (hM := ?hM) (hf := ?hf) (hm := ?hm)
   case hM => (repeat (first | exact Sub.nil | refine Sub.cons rfl ?_))
   case hf => (repeat (first | exact Sub.nil | refine Sub.cons rfl ?_))
   case hm => omega
   case inv => exact ⟨by omega, Sp.all_take hall hz3 (by simp [Sp.byteOk, *])⟩
  intro hc2'
  try simp only [nrm] at hc2'
  refine W_exit ?_
  refine N_K_exit ?_
  refine N_LP_exit ?_
  refine N_B_same ?_
  refine N_K ?_
  refine q2 ?_
  refine o_move rfl rfl ?_
  refine o_len_slice Tryz.underlying27 rfl rfl ?_
  refine o_call Tryz.call87 rfl rfl (l6In_c _ _ _ _ ) ?_
  rintro _ w7 ⟨rfl, ew7⟩; have H := H.step ew7; refine ⟨_, rfl, ?_⟩
  refine o_assign rfl rfl ?_
  refine q3 ?_
  refine W_ret ?_
  refine ret_gen (rs := [.tmp 2]) (vs := [_]) Tryz.results138 ⟨rfl, trivial⟩ ?_
  obtain rfl : k = bytes.length := by omega
  rw [List.take_length] at hall
  exact H.rets (congrArg Value.bool (by simp only [Sp.BlockValid, hall, Bool.true_and]))
theorem StoreValid_c (w0 : World) (G0 : PH) (hG : PSub G0 w0) (vlist : Value) (list : List (BHeld)) (hlist : RdH G0 vlist list)  :
  Calls Tryz.prog 83 #[vlist] w0 (Rets w0 (.bool (Sp.StoreValid list))) := by
 obtain ⟨alist, klist, rfl⟩ := hlist.shape
 have hlimlist : list.length ≤ 1099511627776 := hlist.lim
 have H := Hp.init hG
 refine calls_of_W (l := [.slice alist list.length klist]) Tryz.func83 rfl Tryz.ntmps83 rfl ?_
 refine q2 ?_
 refine o_assign rfl rfl ?_
 refine q3 ?_
 refine W_seq ?_
 refine q2 ?_
 refine o_assign rfl rfl ?_
 refine q3 ?_
 refine W_block ?_
 refine W_loop (hf := (Sub.cons (t := 0) rfl Sub.nil)) (J := fun M w m => ∃ (k : Nat) (G : PH), M = [(3, .int .i64 (k : Int))] ∧ PLe G0 G ∧ Hp w0 G0 [] w G [] ∧ (k ≤ list.length ∧ ∀ j, j < k → Sp.okH list j = true) ∧ m = (list.length - k)) (h0 := ⟨0, _, rfl, PLe.refl _, H, ?inv, rfl⟩) (hM := ?hM) (round := ?round)
 case hM => (repeat (first | exact Sub.nil | refine Sub.cons rfl ?_))
 case inv => exact ⟨by omega, fun j hj => by omega⟩
 case round =>
  rintro _ w1 _ ⟨k, G1, rfl, hle1, H, hinv1, rfl⟩
  have hlist := hlist.up hle1
  obtain ⟨hk, hall⟩ := hinv1
  refine W_seq ?_
  refine q2 ?_
  refine o_move rfl rfl ?_
  refine o_move rfl rfl ?_
  refine o_len_slice Tryz.underlying23 rfl rfl ?_
  refine o_lss rfl rfl rfl ?_
  refine q3 ?_
  refine W_cond rfl ?_ ?_
  ·intro hc2
   try simp only [nrm] at hc2
   refine W_skip ?_
   refine N_K ?_
   refine W_seq ?_
   refine W_block ?_
   refine q2 ?_
   refine o_move rfl rfl ?_
   refine o_move rfl rfl ?_
   refine o_index_P _ hlist Tryz.underlying23 Tryz.sizeOf117 rfl rfl rfl rfl (by omega) ?_; intro b3 o3 z3 q3 hz3 hE3 hrow3
   obtain ⟨a3, m3, c3, rfl, hi3, hr3, hj3⟩ := hE3; have hn_hr3 := hr3.len; have hx_hr3 : _ ≤ 1099511627776 := hr3.lim
   refine o_loadagg_P H Tryz.isAgg117 Tryz.sizeOf117 rfl rfl hrow3 rfl ?_
   refine o_alloc H Tryz.zeroValue117 rfl rfl ?_; intro b4 w4 hb4 H
   refine o_store_B 0 H Tryz.sizeOf117 rfl rfl rfl rfl rfl rfl rfl rfl ?_; intro w5 H
   refine q3 ?_
   refine W_seq ?_
   refine W_seq ?_
   refine W_drawK [0] 31 H (by kernel_rfl) rfl ?_; intro w6 H; have hd6 := PLe.refl G1
   refine RD_t 0 rfl (by kernel_rfl) rfl (fun _ hK => v_fieldAddr 0 Tryz.runUnderlying117 rfl Tryz.sizeOf3 rfl rfl) ?_
   refine RD_t 1 rfl (by kernel_rfl) rfl (fun _ hK => v_load_B 0 hK Tryz.isAgg3 rfl rfl rfl) ?_
   refine RD_run [2] (by kernel_rfl) rfl (RDs.cons rfl ?_ RDs.nil)
   refine o_call Tryz.call87 rfl rfl (l6In_c _ _ _ _ ) ?_
   rintro _ w7 ⟨rfl, ew7⟩; have H := H.step ew7; refine ⟨_, rfl, ?_⟩
   refine R_nil ?_
   refine N_DK (Kn.of' H hd6 (SubL.cons 0 rfl SubL.nil)) ?_
   refine RD_t 3 rfl (by kernel_rfl) rfl (fun _ hK => v_not rfl) ?_
   refine RD_t 4 rfl (by kernel_rfl) rfl (fun _ hK => v_move rfl) ?_
   refine RD_case (t := 20) rfl ?_ ?_
   ·intro hc8
    try simp only [nrm] at hc8
    refine RD_pass 5 rfl (by kernel_rfl) (by kernel_rfl) (by kernel_rfl) rfl (yl_ne rfl rfl rfl) ?_
    refine RD_pass 6 rfl (by kernel_rfl) (by kernel_rfl) (by kernel_rfl) rfl (yl_ne rfl rfl rfl) ?_
    refine RD_pass 7 rfl (by kernel_rfl) (by kernel_rfl) (by kernel_rfl) rfl (yl_ne rfl rfl rfl) ?_
    refine RD_pass 8 rfl (by kernel_rfl) (by kernel_rfl) (by kernel_rfl) rfl (yl_ne rfl rfl rfl) ?_
    refine RD_t 9 rfl (by kernel_rfl) rfl (fun _ hK => v_pick_t rfl rfl) ?_
    refine RD_t 10 rfl (by kernel_rfl) rfl (fun _ hK => v_move rfl) ?_
    refine RD_pass 11 rfl (by kernel_rfl) (by kernel_rfl) (by kernel_rfl) rfl (yl_ne rfl rfl rfl) ?_
    refine RD_pass 12 rfl (by kernel_rfl) (by kernel_rfl) (by kernel_rfl) rfl (yl_ne rfl rfl rfl) ?_
    refine RD_pass 13 rfl (by kernel_rfl) (by kernel_rfl) (by kernel_rfl) rfl (yl_ne rfl rfl rfl) ?_
    refine RD_pass 14 rfl (by kernel_rfl) (by kernel_rfl) (by kernel_rfl) rfl (yl_ne rfl rfl rfl) ?_
    refine RD_t 15 rfl (by kernel_rfl) rfl (fun _ hK => v_pick_t rfl rfl) ?_
    refine RD_t 16 rfl (by kernel_rfl) rfl (fun _ hK => v_move rfl) ?_
    refine RD_pass 17 rfl (by kernel_rfl) (by kernel_rfl) (by kernel_rfl) rfl (yl_ne rfl rfl rfl) ?_
    refine RD_pass 18 rfl (by kernel_rfl) (by kernel_rfl) (by kernel_rfl) rfl (yl_ne rfl rfl rfl) ?_
    refine RD_pass 19 rfl (by kernel_rfl) (by kernel_rfl) (by kernel_rfl) rfl (yl_ne rfl rfl rfl) ?_
    refine RD_pass 20 rfl (by kernel_rfl) (by kernel_rfl) (by kernel_rfl) rfl (yl_un rfl rfl) ?_
    refine RD_pass 21 rfl (by kernel_rfl) (by kernel_rfl) (by kernel_rfl) rfl (yl_un rfl rfl) ?_
    refine RD_pass 22 rfl (by kernel_rfl) (by kernel_rfl) (by kernel_rfl) rfl (yl_un rfl rfl) ?_
    refine RD_pass 23 rfl (by kernel_rfl) (by kernel_rfl) (by kernel_rfl) rfl (yl_un rfl rfl) ?_
    refine RD_pass 24 rfl (by kernel_rfl) (by kernel_rfl) (by kernel_rfl) rfl (yl_un rfl rfl) ?_
    refine RD_pass 25 rfl (by kernel_rfl) (by kernel_rfl) (by kernel_rfl) rfl (yl_un rfl rfl) ?_
    refine RD_pass 26 rfl (by kernel_rfl) (by kernel_rfl) (by kernel_rfl) rfl (yl_un rfl rfl) ?_
    refine RD_pass 27 rfl (by kernel_rfl) (by kernel_rfl) (by kernel_rfl) rfl (yl_un rfl rfl) ?_
    refine RD_pass 28 rfl (by kernel_rfl) (by kernel_rfl) (by kernel_rfl) rfl (yl_un rfl rfl) ?_
    refine RD_pass 29 rfl (by kernel_rfl) (by kernel_rfl) (by kernel_rfl) rfl (yl_ne rfl rfl rfl) ?_
    refine RD_t 30 rfl (by kernel_rfl) rfl (fun _ hK => v_pick_t rfl rfl) ?_
    refine RD_done (by kernel_rfl) ?_
    refine N_K ?_
    refine W_true rfl ?_
    refine q2 ?_
    refine o_assign rfl rfl ?_
    refine q3 ?_
    refine W_ret ?_
    refine N_K_ret ?_
    refine N_B_ret ?_
    refine N_K_ret ?_
    refine N_LP_ret ?_
    refine N_B_ret ?_
    refine N_K_ret ?_
    refine ret_gen (rs := [.tmp 2]) (vs := [_]) Tryz.results83 ⟨rfl, trivial⟩ ?_
    exact H.rets (congrArg Value.bool (by rw [Sp.StoreValid, Sp.not_all_range (k := k) (by omega) (by rw [Sp.okH_at hz3]; simp [Sp.prevId, *])]; rfl))
   intro hc8'
   try simp only [nrm] at hc8'
   refine RD_tg 5 rfl (by kernel_rfl) rfl (yl rfl rfl) (fun _ hK => v_fieldAddr 1 Tryz.runUnderlying117 rfl Tryz.sizeOf27 rfl rfl) ?_
   refine RD_tg 6 rfl (by kernel_rfl) rfl (yl rfl rfl) (fun _ hK => v_load_B 0 hK Tryz.isAgg27 rfl rfl rfl) ?_
   refine RD_run [7] (by kernel_rfl) rfl (RDs.cons rfl ?_ RDs.nil)
   refine R_guard (yl rfl rfl) ?_
   refine o_call Tryz.call138 rfl rfl (BlockValid_c _ _ H.sub _ _ hr3 ) ?_
   rintro _ w9 ⟨rfl, ew9⟩; have H := H.step ew9; refine ⟨_, rfl, ?_⟩
   refine R_nil ?_
   refine N_DK (Kn.of' H hd6 (SubL.cons 0 rfl SubL.nil)) ?_
   refine RD_tg 8 rfl (by kernel_rfl) rfl (yl rfl rfl) (fun _ hK => v_not rfl) ?_
   refine RD_t 9 rfl (by kernel_rfl) rfl (fun _ hK => v_pick_f rfl rfl) ?_
   refine RD_t 10 rfl (by kernel_rfl) rfl (fun _ hK => v_move rfl) ?_
   refine RD_case (t := 26) rfl ?_ ?_
   ·intro hc10
    try simp only [nrm] at hc10
    refine RD_pass 11 rfl (by kernel_rfl) (by kernel_rfl) (by kernel_rfl) rfl (yl_ne rfl rfl rfl) ?_
    refine RD_pass 12 rfl (by kernel_rfl) (by kernel_rfl) (by kernel_rfl) rfl (yl_ne rfl rfl rfl) ?_
    refine RD_pass 13 rfl (by kernel_rfl) (by kernel_rfl) (by kernel_rfl) rfl (yl_ne rfl rfl rfl) ?_
    refine RD_pass 14 rfl (by kernel_rfl) (by kernel_rfl) (by kernel_rfl) rfl (yl_ne rfl rfl rfl) ?_
    refine RD_t 15 rfl (by kernel_rfl) rfl (fun _ hK => v_pick_t rfl rfl) ?_
    refine RD_t 16 rfl (by kernel_rfl) rfl (fun _ hK => v_move rfl) ?_
    refine RD_pass 17 rfl (by kernel_rfl) (by kernel_rfl) (by kernel_rfl) rfl (yl_ne rfl rfl rfl) ?_
    refine RD_pass 18 rfl (by kernel_rfl) (by kernel_rfl) (by kernel_rfl) rfl (yl_ne rfl rfl rfl) ?_
    refine RD_pass 19 rfl (by kernel_rfl) (by kernel_rfl) (by kernel_rfl) rfl (yl_ne rfl rfl rfl) ?_
    refine RD_pass 20 rfl (by kernel_rfl) (by kernel_rfl) (by kernel_rfl) rfl (yl_un rfl rfl) ?_
    refine RD_pass 21 rfl (by kernel_rfl) (by kernel_rfl) (by kernel_rfl) rfl (yl_un rfl rfl) ?_
    refine RD_pass 22 rfl (by kernel_rfl) (by kernel_rfl) (by kernel_rfl) rfl (yl_un rfl rfl) ?_
    refine RD_pass 23 rfl (by kernel_rfl) (by kernel_rfl) (by kernel_rfl) rfl (yl_un rfl rfl) ?_
    refine RD_pass 24 rfl (by kernel_rfl) (by kernel_rfl) (by kernel_rfl) rfl (yl_un rfl rfl) ?_
    refine RD_pass 25 rfl (by kernel_rfl) (by kernel_rfl) (by kernel_rfl) rfl (yl_un rfl rfl) ?_
    refine RD_pass 26 rfl (by kernel_rfl) (by kernel_rfl) (by kernel_rfl) rfl (yl_un rfl rfl) ?_
    refine RD_pass 27 rfl (by kernel_rfl) (by kernel_rfl) (by kernel_rfl) rfl (yl_un rfl rfl) ?_
    refine RD_pass 28 rfl (by kernel_rfl) (by kernel_rfl) (by kernel_rfl) rfl (yl_un rfl rfl) ?_
    refine RD_pass 29 rfl (by kernel_rfl) (by kernel_rfl) (by kernel_rfl) rfl (yl_ne rfl rfl rfl) ?_
    refine RD_t 30 rfl (by kernel_rfl) rfl (fun _ hK => v_pick_t rfl rfl) ?_
    refine RD_done (by kernel_rfl) ?_
    refine N_K ?_
    refine W_true rfl ?_
    refine q2 ?_
    refine o_assign rfl rfl ?_
    refine q3 ?_
    refine W_ret ?_
    refine N_K_ret ?_
    refine N_B_ret ?_
    refine N_K_ret ?_
    refine N_LP_ret ?_
    refine N_B_ret ?_
    refine N_K_ret ?_
    refine ret_gen (rs := [.tmp 2]) (vs := [_]) Tryz.results83 ⟨rfl, trivial⟩ ?_
    exact H.rets (congrArg Value.bool (by rw [Sp.StoreValid, Sp.not_all_range (k := k) (by omega) (by rw [Sp.okH_at hz3]; simp [Sp.prevId, *])]; rfl))
   intro hc10'
   try simp only [nrm] at hc10'
   refine RD_tg 11 rfl (by kernel_rfl) rfl (yl rfl rfl) (fun _ hK => v_fieldAddr 2 Tryz.runUnderlying117 rfl Tryz.sizeOf3 rfl rfl) ?_
   refine RD_tg 12 rfl (by kernel_rfl) rfl (yl rfl rfl) (fun _ hK => v_load_B 0 hK Tryz.isAgg3 rfl rfl rfl) ?_
   refine RD_run [13] (by kernel_rfl) rfl (RDs.cons rfl ?_ RDs.nil)
   refine R_guard (yl rfl rfl) ?_
   refine o_call Tryz.call87 rfl rfl (l6In_c _ _ _ _ ) ?_
   rintro _ w11 ⟨rfl, ew11⟩; have H := H.step ew11; refine ⟨_, rfl, ?_⟩
   refine R_nil ?_
   refine N_DK (Kn.of' H hd6 (SubL.cons 0 rfl SubL.nil)) ?_
   refine RD_tg 14 rfl (by kernel_rfl) rfl (yl rfl rfl) (fun _ hK => v_not rfl) ?_
   refine RD_t 15 rfl (by kernel_rfl) rfl (fun _ hK => v_pick_f rfl rfl) ?_
   refine RD_t 16 rfl (by kernel_rfl) rfl (fun _ hK => v_move rfl) ?_
   refine RD_case (t := 32) rfl ?_ ?_
   ·intro hc12
    try simp only [nrm] at hc12
    refine RD_pass 17 rfl (by kernel_rfl) (by kernel_rfl) (by kernel_rfl) rfl (yl_ne rfl rfl rfl) ?_
    refine RD_pass 18 rfl (by kernel_rfl) (by kernel_rfl) (by kernel_rfl) rfl (yl_ne rfl rfl rfl) ?_
    refine RD_pass 19 rfl (by kernel_rfl) (by kernel_rfl) (by kernel_rfl) rfl (yl_ne rfl rfl rfl) ?_
    refine RD_pass 20 rfl (by kernel_rfl) (by kernel_rfl) (by kernel_rfl) rfl (yl_un rfl rfl) ?_
    refine RD_pass 21 rfl (by kernel_rfl) (by kernel_rfl) (by kernel_rfl) rfl (yl_un rfl rfl) ?_
    refine RD_pass 22 rfl (by kernel_rfl) (by kernel_rfl) (by kernel_rfl) rfl (yl_un rfl rfl) ?_
    refine RD_pass 23 rfl (by kernel_rfl) (by kernel_rfl) (by kernel_rfl) rfl (yl_un rfl rfl) ?_
    refine RD_pass 24 rfl (by kernel_rfl) (by kernel_rfl) (by kernel_rfl) rfl (yl_un rfl rfl) ?_
    refine RD_pass 25 rfl (by kernel_rfl) (by kernel_rfl) (by kernel_rfl) rfl (yl_un rfl rfl) ?_
    refine RD_pass 26 rfl (by kernel_rfl) (by kernel_rfl) (by kernel_rfl) rfl (yl_un rfl rfl) ?_
    refine RD_pass 27 rfl (by kernel_rfl) (by kernel_rfl) (by kernel_rfl) rfl (yl_un rfl rfl) ?_
    refine RD_pass 28 rfl (by kernel_rfl) (by kernel_rfl) (by kernel_rfl) rfl (yl_un rfl rfl) ?_
    refine RD_pass 29 rfl (by kernel_rfl) (by kernel_rfl) (by kernel_rfl) rfl (yl_ne rfl rfl rfl) ?_
    refine RD_t 30 rfl (by kernel_rfl) rfl (fun _ hK => v_pick_t rfl rfl) ?_
    refine RD_done (by kernel_rfl) ?_
    refine N_K ?_
    refine W_true rfl ?_
    refine q2 ?_
    refine o_assign rfl rfl ?_
    refine q3 ?_
    refine W_ret ?_
    refine N_K_ret ?_
    refine N_B_ret ?_
    refine N_K_ret ?_
    refine N_LP_ret ?_
    refine N_B_ret ?_
    refine N_K_ret ?_
    refine ret_gen (rs := [.tmp 2]) (vs := [_]) Tryz.results83 ⟨rfl, trivial⟩ ?_
    exact H.rets (congrArg Value.bool (by rw [Sp.StoreValid, Sp.not_all_range (k := k) (by omega) (by rw [Sp.okH_at hz3]; simp [Sp.prevId, *])]; rfl))
   intro hc12'
   try simp only [nrm] at hc12'
   refine RD_tg 17 rfl (by kernel_rfl) rfl (yl rfl rfl) (fun _ hK => v_move rfl) ?_
   refine RD_tg 18 rfl (by kernel_rfl) rfl (yl rfl rfl) (fun _ hK => v_gtr rfl rfl) ?_
   refine RD_tg 19 rfl (by kernel_rfl) rfl (yl rfl rfl) (fun _ hK => v_move rfl) ?_
   refine RD_case (t := 35) rfl ?_ ?_
   ·intro hc13
    try simp only [nrm] at hc13
    have hk0 : k ≠ 0 := by omega
    refine RD_tg 20 rfl (by kernel_rfl) rfl (yl rfl rfl) (fun _ hK => v_move rfl) ?_
    refine RD_tg 21 rfl (by kernel_rfl) rfl (yl rfl rfl) (fun _ hK => v_move rfl) ?_
    refine RD_tg 22 rfl (by kernel_rfl) rfl (yl rfl rfl) (fun _ hK => v_sub rfl rfl ⟨by omega, by omega⟩) ?_
    have hl15 := hlist.len
    obtain ⟨b15, o15, z15, q15, ha15, hz15, hq15, hE15, hrow15, _⟩ := hlist.at (i := (k - 1)) (by omega)
    clear hq15
    obtain ⟨a15, m15, c15, rfl, hi15, hr15, hj15⟩ := hE15; have hn_hr15 := hr15.len; have hx_hr15 : _ ≤ 1099511627776 := hr15.lim
    refine RD_tg 23 rfl (by kernel_rfl) rfl (yl rfl rfl) (fun _ hK => v_index_P (i := (k - 1)) ha15 Tryz.underlying23 Tryz.sizeOf117 rfl rfl (by omega) (by omega)) ?_
    refine RD_tg 24 rfl (by kernel_rfl) rfl (yl rfl rfl) (fun _ hK => v_fieldAddr 0 Tryz.runUnderlying117 rfl Tryz.sizeOf3 rfl rfl) ?_
    refine RD_tg 25 rfl (by kernel_rfl) rfl (yl rfl rfl) (fun _ hK => v_load_P hK Tryz.isAgg3 rfl (hrow15 0 _ rfl)) ?_
    refine RD_tg 26 rfl (by kernel_rfl) rfl (yl rfl rfl) (fun _ hK => v_fieldAddr 0 Tryz.runUnderlying117 rfl Tryz.sizeOf3 rfl rfl) ?_
    refine RD_tg 27 rfl (by kernel_rfl) rfl (yl rfl rfl) (fun _ hK => v_load_B 0 hK Tryz.isAgg3 rfl rfl rfl) ?_
    refine RD_tg 28 rfl (by kernel_rfl) rfl (yl rfl rfl) (fun _ hK => v_geq rfl rfl) ?_
    refine RD_tg 29 rfl (by kernel_rfl) rfl (yl rfl rfl) (fun _ hK => v_pick_t rfl rfl) ?_
    refine RD_t 30 rfl (by kernel_rfl) rfl (fun _ hK => v_pick_f rfl rfl) ?_
    refine RD_done (by kernel_rfl) ?_
    refine N_K ?_
    refine W_cond rfl ?_ ?_
    ·intro hc16
     try simp only [nrm] at hc16
     refine q2 ?_
     refine o_assign rfl rfl ?_
     refine q3 ?_
     refine W_ret ?_
     refine N_K_ret ?_
     refine N_B_ret ?_
     refine N_K_ret ?_
     refine N_LP_ret ?_
     refine N_B_ret ?_
     refine N_K_ret ?_
     refine ret_gen (rs := [.tmp 2]) (vs := [_]) Tryz.results83 ⟨rfl, trivial⟩ ?_
     exact H.rets (congrArg Value.bool (by rw [Sp.StoreValid, Sp.not_all_range (k := k) (by omega) (by rw [Sp.okH_at hz3]; simp [Sp.prevId, *]; intro h; omega)]; rfl))
    intro hc16'
    try simp only [nrm] at hc16'
    refine W_skip ?_
    refine N_K ?_
    refine q2 ?_
    refine o_assign rfl rfl ?_
    refine q3 ?_
    refine W_block ?_
    obtain ⟨ln17, hln17, H⟩ := H.name (k := 0) rfl
    refine W_loop (hf := (Sub.cons (t := 0) rfl (Sub.cons (t := 3) rfl (Sub.cons (t := 4) rfl Sub.nil)))) (J := fun M w m => ∃ (i : Nat) (G : PH), M = [(5, .int .i64 (i : Int))] ∧ PLe G1 G ∧ Hp w0 G0 [] w G [blk b4 (cl ln17 117)] ∧ (i ≤ k ∧ (list.take i).all (fun g => !Sp.l2Same g.bytes z3.bytes) = true) ∧ m = (k - i)) (h0 := ⟨0, _, rfl, PLe.refl _, H, ?inv, rfl⟩) (hM := ?hM) (round := ?round)
    case hM => (repeat (first | exact Sub.nil | refine Sub.cons rfl ?_))
    case inv => exact ⟨by omega, by simp⟩
    case round =>
     rintro _ w18 _ ⟨i, G18, rfl, hle18, H, hinv18, rfl⟩
     subst hln17
     have hlist := hlist.up hle18
     have hr3 := hr3.up hle18
     have hrow3 := hrow3.up hle18
     have hr15 := hr15.up hle18
     have hrow15 := hrow15.up hle18
     have hle1 := hle1.trans hle18
     obtain ⟨hi, hall2⟩ := hinv18
     refine W_seq ?_
     refine q2 ?_
     refine o_move rfl rfl ?_
     refine o_move rfl rfl ?_
     refine o_lss rfl rfl rfl ?_
     refine q3 ?_
     refine W_cond rfl ?_ ?_
     ·intro hc19
      try simp only [nrm] at hc19
      refine W_skip ?_
      refine N_K ?_
      refine W_seq ?_
      refine W_block ?_
      refine W_seq ?_
      refine W_drawK [0] 8 H (by kernel_rfl) rfl ?_; intro w20 H; have hd20 := PLe.refl G18
      refine RD_t 0 rfl (by kernel_rfl) rfl (fun _ hK => v_move rfl) ?_
      refine RD_t 1 rfl (by kernel_rfl) rfl (fun _ hK => v_move rfl) ?_
      have hl21 := hlist.len
      obtain ⟨b21, o21, z21, q21, ha21, hz21, hq21, hE21, hrow21, _⟩ := hlist.at (i := i) (by omega)
      clear hq21
      obtain ⟨a21, m21, c21, rfl, hi21, hr21, hj21⟩ := hE21; have hn_hr21 := hr21.len; have hx_hr21 : _ ≤ 1099511627776 := hr21.lim
      refine RD_t 2 rfl (by kernel_rfl) rfl (fun _ hK => v_index_P (i := i) ha21 Tryz.underlying23 Tryz.sizeOf117 rfl rfl rfl (by omega)) ?_
      refine RD_t 3 rfl (by kernel_rfl) rfl (fun _ hK => v_fieldAddr 1 Tryz.runUnderlying117 rfl Tryz.sizeOf27 rfl rfl) ?_
      refine RD_t 4 rfl (by kernel_rfl) rfl (fun _ hK => v_load_P hK Tryz.isAgg27 rfl (hrow21 1 _ rfl)) ?_
      refine RD_t 5 rfl (by kernel_rfl) rfl (fun _ hK => v_fieldAddr 1 Tryz.runUnderlying117 rfl Tryz.sizeOf27 rfl rfl) ?_
      refine RD_t 6 rfl (by kernel_rfl) rfl (fun _ hK => v_load_B 0 hK Tryz.isAgg27 rfl rfl rfl) ?_
      refine RD_run [7] (by kernel_rfl) rfl (RDs.cons rfl ?_ RDs.nil)
      refine o_call Tryz.call139 rfl rfl (l2Same_c _ _ H.sub _ _ hr21 _ _ hr3 ) ?_
      rintro _ w22 ⟨rfl, ew22⟩; have H := H.step ew22; refine ⟨_, rfl, ?_⟩
      refine R_nil ?_
      refine N_DK (Kn.of' H hd20 (SubL.cons 0 rfl SubL.nil)) ?_
      refine RD_done (by kernel_rfl) ?_
      refine N_K ?_
      refine W_cond rfl ?_ ?_
      ·intro hc23
       try simp only [nrm] at hc23
       refine q2 ?_
       refine o_assign rfl rfl ?_
       refine q3 ?_
       refine W_ret ?_
       refine N_B_ret ?_
       refine N_K_ret ?_
       refine N_LP_ret ?_
       refine N_B_ret ?_
       refine N_B_ret ?_
       refine N_K_ret ?_
       refine N_LP_ret ?_
       refine N_B_ret ?_
       refine N_K_ret ?_
       refine ret_gen (rs := [.tmp 2]) (vs := [_]) Tryz.results83 ⟨rfl, trivial⟩ ?_
       exact H.rets (congrArg Value.bool (by rw [Sp.StoreValid, Sp.not_all_range (k := k) (by omega) (by rw [Sp.okH_at hz3, Sp.all_false (l := list.take k) (k := i) (by rw [List.getElem?_take, if_pos (by omega)]; exact hz21) (by simp [*])]; simp)]; rfl))
      intro hc23'
      try simp only [nrm] at hc23'
      refine W_skip ?_
      refine N_B ?_
      refine N_K ?_
      refine W_region ?_
      refine o_move rfl rfl ?_
      refine o_add rfl rfl rfl ⟨by omega, by omega⟩ ?_
      refine o_assign rfl rfl ?_
      refine R_nil ?_
      refine N_LP (hJ := ⟨i + 1, _, rfl, hle18, H, ?inv, rfl⟩) (hM := ?hM) (hf := ?hf) (hm := ?hm)
      case hM => (repeat (first | exact Sub.nil | refine Sub.cons rfl ?_))
      case hf => (repeat (first | exact Sub.nil | refine Sub.cons rfl ?_))
      case hm => omega
      case inv => exact ⟨by omega, Sp.all_take hall2 hz21 (by simp [*])⟩
     intro hc19'
     try simp only [nrm] at hc19'
     refine W_exit ?_
     refine N_K_exit ?_
     refine N_LP_exit ?_
     refine N_B_same ?_
     refine N_B ?_
     refine N_K ?_
     refine W_region ?_
     refine o_move rfl rfl ?_
     refine o_add rfl rfl rfl ⟨by omega, by omega⟩ ?_
     refine o_assign rfl rfl ?_
     refine R_nil ?_
     have H := H.del (k := 0) rfl
     refine N_LP (hJ := ⟨k + 1, _, rfl, hle1, H, ?inv, rfl⟩) (hM := ?hM) (hf := ?hf) (hm := ?hm)
     case hM => (repeat (first | exact Sub.nil | refine Sub.cons rfl ?_))
     case hf => (repeat (first | exact Sub.nil | refine Sub.cons rfl ?_))
     case hm => omega
     case inv => exact ⟨by omega, Sp.upto_succ hall (by (obtain rfl : i = k := by omega); rw [Sp.okH_at hz3, hall2]; simp [Sp.prevId, *])⟩
   intro hc13'
   try simp only [nrm] at hc13'
   have hk0 : k = 0 := by omega
   refine RD_pass 20 rfl (by kernel_rfl) (by kernel_rfl) (by kernel_rfl) rfl (yl_ne rfl rfl rfl) ?_
   refine RD_pass 21 rfl (by kernel_rfl) (by kernel_rfl) (by kernel_rfl) rfl (yl_ne rfl rfl rfl) ?_
   refine RD_pass 22 rfl (by kernel_rfl) (by kernel_rfl) (by kernel_rfl) rfl (yl_ne rfl rfl rfl) ?_
   refine RD_pass 23 rfl (by kernel_rfl) (by kernel_rfl) (by kernel_rfl) rfl (yl_ne rfl rfl rfl) ?_
   refine RD_pass 24 rfl (by kernel_rfl) (by kernel_rfl) (by kernel_rfl) rfl (yl_ne rfl rfl rfl) ?_
   refine RD_pass 25 rfl (by kernel_rfl) (by kernel_rfl) (by kernel_rfl) rfl (yl_ne rfl rfl rfl) ?_
   refine RD_pass 26 rfl (by kernel_rfl) (by kernel_rfl) (by kernel_rfl) rfl (yl_ne rfl rfl rfl) ?_
   refine RD_pass 27 rfl (by kernel_rfl) (by kernel_rfl) (by kernel_rfl) rfl (yl_ne rfl rfl rfl) ?_
   refine RD_pass 28 rfl (by kernel_rfl) (by kernel_rfl) (by kernel_rfl) rfl (yl_ne rfl rfl rfl) ?_
   refine RD_tg 29 rfl (by kernel_rfl) rfl (yl rfl rfl) (fun _ hK => v_pick_f rfl rfl) ?_
   refine RD_t 30 rfl (by kernel_rfl) rfl (fun _ hK => v_pick_f rfl rfl) ?_
   refine RD_done (by kernel_rfl) ?_
   refine N_K ?_
   refine W_false rfl ?_
   refine W_skip ?_
   refine N_K ?_
   refine q2 ?_
   refine o_assign rfl rfl ?_
   refine q3 ?_
   refine W_block ?_
   obtain ⟨ln26, hln26, H⟩ := H.name (k := 0) rfl
   refine W_loop (hf := (Sub.cons (t := 0) rfl (Sub.cons (t := 3) rfl (Sub.cons (t := 4) rfl Sub.nil)))) (J := fun M w m => ∃ (i : Nat) (G : PH), M = [(5, .int .i64 (i : Int))] ∧ PLe G1 G ∧ Hp w0 G0 [] w G [blk b4 (cl ln26 117)] ∧ (i ≤ k ∧ (list.take i).all (fun g => !Sp.l2Same g.bytes z3.bytes) = true) ∧ m = (k - i)) (h0 := ⟨0, _, rfl, PLe.refl _, H, ?inv, rfl⟩) (hM := ?hM) (round := ?round)
   case hM => (repeat (first | exact Sub.nil | refine Sub.cons rfl ?_))
   case inv => exact ⟨by omega, by simp⟩
   case round =>
    rintro _ w27 _ ⟨i, G27, rfl, hle27, H, hinv27, rfl⟩
    subst hln26
    have hlist := hlist.up hle27
    have hr3 := hr3.up hle27
    have hrow3 := hrow3.up hle27
    have hle1 := hle1.trans hle27
    obtain ⟨hi, hall2⟩ := hinv27
    refine W_seq ?_
    refine q2 ?_
    refine o_move rfl rfl ?_
    refine o_move rfl rfl ?_
    refine o_lss rfl rfl rfl ?_
    refine q3 ?_
    refine W_cond rfl ?_ ?_
    ·intro hc28
     try simp only [nrm] at hc28
     refine W_skip ?_
     refine N_K ?_
     refine W_seq ?_
     refine W_block ?_
     refine W_seq ?_
     refine W_drawK [0] 8 H (by kernel_rfl) rfl ?_; intro w29 H; have hd29 := PLe.refl G27
     refine RD_t 0 rfl (by kernel_rfl) rfl (fun _ hK => v_move rfl) ?_
     refine RD_t 1 rfl (by kernel_rfl) rfl (fun _ hK => v_move rfl) ?_
     have hl30 := hlist.len
     obtain ⟨b30, o30, z30, q30, ha30, hz30, hq30, hE30, hrow30, _⟩ := hlist.at (i := i) (by omega)
     clear hq30
     obtain ⟨a30, m30, c30, rfl, hi30, hr30, hj30⟩ := hE30; have hn_hr30 := hr30.len; have hx_hr30 : _ ≤ 1099511627776 := hr30.lim
     refine RD_t 2 rfl (by kernel_rfl) rfl (fun _ hK => v_index_P (i := i) ha30 Tryz.underlying23 Tryz.sizeOf117 rfl rfl rfl (by omega)) ?_
     refine RD_t 3 rfl (by kernel_rfl) rfl (fun _ hK => v_fieldAddr 1 Tryz.runUnderlying117 rfl Tryz.sizeOf27 rfl rfl) ?_
     refine RD_t 4 rfl (by kernel_rfl) rfl (fun _ hK => v_load_P hK Tryz.isAgg27 rfl (hrow30 1 _ rfl)) ?_
     refine RD_t 5 rfl (by kernel_rfl) rfl (fun _ hK => v_fieldAddr 1 Tryz.runUnderlying117 rfl Tryz.sizeOf27 rfl rfl) ?_
     refine RD_t 6 rfl (by kernel_rfl) rfl (fun _ hK => v_load_B 0 hK Tryz.isAgg27 rfl rfl rfl) ?_
     refine RD_run [7] (by kernel_rfl) rfl (RDs.cons rfl ?_ RDs.nil)
     refine o_call Tryz.call139 rfl rfl (l2Same_c _ _ H.sub _ _ hr30 _ _ hr3 ) ?_
     rintro _ w31 ⟨rfl, ew31⟩; have H := H.step ew31; refine ⟨_, rfl, ?_⟩
     refine R_nil ?_
     refine N_DK (Kn.of' H hd29 (SubL.cons 0 rfl SubL.nil)) ?_
     refine RD_done (by kernel_rfl) ?_
     refine N_K ?_
     refine W_cond rfl ?_ ?_
     ·intro hc32
      try simp only [nrm] at hc32
      refine q2 ?_
      refine o_assign rfl rfl ?_
      refine q3 ?_
      refine W_ret ?_
      refine N_B_ret ?_
      refine N_K_ret ?_
      refine N_LP_ret ?_
      refine N_B_ret ?_
      refine N_B_ret ?_
      refine N_K_ret ?_
      refine N_LP_ret ?_
      refine N_B_ret ?_
      refine N_K_ret ?_
      refine ret_gen (rs := [.tmp 2]) (vs := [_]) Tryz.results83 ⟨rfl, trivial⟩ ?_
      exact H.rets (congrArg Value.bool (by rw [Sp.StoreValid, Sp.not_all_range (k := k) (by omega) (by rw [Sp.okH_at hz3, Sp.all_false (l := list.take k) (k := i) (by rw [List.getElem?_take, if_pos (by omega)]; exact hz30) (by simp [*])]; simp)]; rfl))
     intro hc32'
     try simp only [nrm] at hc32'
     refine W_skip ?_
     refine N_B ?_
     refine N_K ?_
     refine W_region ?_
     refine o_move rfl rfl ?_
     refine o_add rfl rfl rfl ⟨by omega, by omega⟩ ?_
     refine o_assign rfl rfl ?_
     refine R_nil ?_
     refine N_LP (hJ := ⟨i + 1, _, rfl, hle27, H, ?inv, rfl⟩) (hM := ?hM) (hf := ?hf) (hm := ?hm)
     case hM => (repeat (first | exact Sub.nil | refine Sub.cons rfl ?_))
     case hf => (repeat (first | exact Sub.nil | refine Sub.cons rfl ?_))
     case hm => omega
     case inv => exact ⟨by omega, Sp.all_take hall2 hz30 (by simp [*])⟩
    intro hc28'
    try simp only [nrm] at hc28'
    refine W_exit ?_
    refine N_K_exit ?_
    refine N_LP_exit ?_
    refine N_B_same ?_
    refine N_B ?_
    refine N_K ?_
    refine W_region ?_
    refine o_move rfl rfl ?_
    refine o_add rfl rfl rfl ⟨by omega, by omega⟩ ?_
    refine o_assign rfl rfl ?_
    refine R_nil ?_
    have H := H.del (k := 0) rfl
    refine N_LP (hJ := ⟨k + 1, _, rfl, hle1, H, ?inv, rfl⟩) (hM := ?hM) (hf := ?hf) (hm := ?hm)
    case hM => (repeat (first | exact Sub.nil | refine Sub.cons rfl ?_))
    case hf => (repeat (first | exact Sub.nil | refine Sub.cons rfl ?_))
    case hm => omega
    case inv => exact ⟨by omega, Sp.upto_succ hall (by (obtain rfl : i = k := by omega); rw [Sp.okH_at hz3, hall2]; simp [Sp.prevId, *])⟩
  intro hc2'
  try simp only [nrm] at hc2'
  refine W_exit ?_
  refine N_K_exit ?_
  refine N_LP_exit ?_
  refine N_B_same ?_
  refine N_K ?_
  refine q2 ?_
  refine o_move rfl rfl ?_
  refine o_len_slice Tryz.underlying23 rfl rfl ?_
  refine o_leq rfl rfl rfl ?_
  refine o_assign rfl rfl ?_
  refine q3 ?_
  refine W_ret ?_
  refine ret_gen (rs := [.tmp 2]) (vs := [_]) Tryz.results83 ⟨rfl, trivial⟩ ?_
  exact H.rets (congrArg Value.bool (by rw [Sp.StoreValid, Sp.all_range (fun j hj => hall j (by omega)), Bool.true_and]; rw [Bool.eq_iff_iff]; simp; omega))
theorem l3At_c (w0 : World) (G0 : PH) (hG : PSub G0 w0) (vlist : Value) (list : List (BHeld)) (hlist : RdH G0 vlist list) (id : Int)  :
  Calls Tryz.prog 151 #[vlist, .int .i64 id] w0 (Rets w0 (.int .i64 (Sp.l3At list id))) := by
 obtain ⟨alist, klist, rfl⟩ := hlist.shape
 have hlimlist : list.length ≤ 1099511627776 := hlist.lim
 have H := Hp.init hG
 refine calls_of_W (l := [.slice alist list.length klist, .int .i64 id]) Tryz.func151 rfl Tryz.ntmps151 rfl ?_
 refine q2 ?_
 refine o_assign rfl rfl ?_
 refine q3 ?_
 refine W_seq ?_
 refine q2 ?_
 refine o_assign rfl rfl ?_
 refine q3 ?_
 refine W_block ?_
 refine W_loop (hf := (Sub.cons (t := 0) rfl (Sub.cons (t := 1) rfl Sub.nil))) (J := fun M w m => ∃ (k : Nat) (G : PH), M = [(5, .int .i64 (k : Int))] ∧ PLe G0 G ∧ Hp w0 G0 [] w G [] ∧ (k ≤ list.length ∧ (∀ j, j < k → ∀ y, list[j]? = some y → decide (y.id = id) = false)) ∧ m = (list.length - k)) (h0 := ⟨0, _, rfl, PLe.refl _, H, ?inv, rfl⟩) (hM := ?hM) (round := ?round)
 case hM => (repeat (first | exact Sub.nil | refine Sub.cons rfl ?_))
 case inv => exact ⟨by omega, fun j hj => by omega⟩
 case round =>
  rintro _ w1 _ ⟨k, G1, rfl, hle1, H, hinv1, rfl⟩
  have hlist := hlist.up hle1
  obtain ⟨hk, hall⟩ := hinv1
  refine W_seq ?_
  refine q2 ?_
  refine o_move rfl rfl ?_
  refine o_move rfl rfl ?_
  refine o_len_slice Tryz.underlying23 rfl rfl ?_
  refine o_lss rfl rfl rfl ?_
  refine q3 ?_
  refine W_cond rfl ?_ ?_
  ·intro hc2
   try simp only [nrm] at hc2
   refine W_skip ?_
   refine N_K ?_
   refine W_seq ?_
   refine W_block ?_
   refine q2 ?_
   refine o_move rfl rfl ?_
   refine o_move rfl rfl ?_
   refine o_index_P _ hlist Tryz.underlying23 Tryz.sizeOf117 rfl rfl rfl rfl (by omega) ?_; intro b3 o3 z3 q3 hz3 hE3 hrow3
   obtain ⟨a3, m3, c3, rfl, hi3, hr3, hj3⟩ := hE3; have hn_hr3 := hr3.len; have hx_hr3 : _ ≤ 1099511627776 := hr3.lim
   refine o_fieldAddr 0 Tryz.runUnderlying117 rfl Tryz.sizeOf3 rfl rfl rfl ?_
   refine o_load_P H Tryz.isAgg3 rfl rfl (hrow3 0 _ rfl) ?_
   refine o_move rfl rfl ?_
   refine o_eql rfl rfl rfl ?_
   refine q3 ?_
   refine W_cond rfl ?_ ?_
   ·intro hc4
    try simp only [nrm] at hc4
    refine q2 ?_
    refine o_move rfl rfl ?_
    refine o_assign rfl rfl ?_
    refine q3 ?_
    refine W_ret ?_
    refine N_B_ret ?_
    refine N_K_ret ?_
    refine N_LP_ret ?_
    refine N_B_ret ?_
    refine N_K_ret ?_
    refine ret_gen (rs := [.tmp 4]) (vs := [_]) Tryz.results151 ⟨rfl, trivial⟩ ?_
    exact H.rets (congrArg (Value.int .i64) (by rw [Sp.l3At, Sp.atH, Sp.find_at hall hz3 (by simp; omega)]; rfl))
   intro hc4'
   try simp only [nrm] at hc4'
   refine W_skip ?_
   refine N_B ?_
   refine N_K ?_
   refine W_region ?_
   refine o_move rfl rfl ?_
   refine o_add rfl rfl rfl ⟨by omega, by omega⟩ ?_
   refine o_assign rfl rfl ?_
   refine R_nil ?_
   refine N_LP (hJ := ⟨k + 1, _, rfl, hle1, H, ?inv, rfl⟩) (hM := ?hM) (hf := ?hf) (hm := ?hm)
   case hM => (repeat (first | exact Sub.nil | refine Sub.cons rfl ?_))
   case hf => (repeat (first | exact Sub.nil | refine Sub.cons rfl ?_))
   case hm => omega
   case inv => exact ⟨by omega, Sp.none_succ hall hz3 (by simp; omega)⟩
  intro hc2'
  try simp only [nrm] at hc2'
  refine W_exit ?_
  refine N_K_exit ?_
  refine N_LP_exit ?_
  refine N_B_same ?_
  refine N_K ?_
  refine q2 ?_
  refine o_assign rfl rfl ?_
  refine q3 ?_
  refine W_ret ?_
  refine ret_gen (rs := [.tmp 4]) (vs := [_]) Tryz.results151 ⟨rfl, trivial⟩ ?_
  exact H.rets (congrArg (Value.int .i64) (by rw [Sp.l3At, Sp.atH, Sp.find_none hall (by omega)]; rfl))
theorem l3Copy_c (w0 : World) (G0 : PH) (hG : PSub G0 w0) (vlist : Value) (list : List (BHeld)) (hlist : RdH G0 vlist list)  :
  Calls Tryz.prog 48 #[vlist] w0 (RetO w0 G0 (AccOf heldE 3 117 list)) := by
 obtain ⟨alist, klist, rfl⟩ := hlist.shape
 have hlimlist : list.length ≤ 1099511627776 := hlist.lim
 have H := Hp.init hG
 refine calls_of_W (l := [.slice alist list.length klist]) Tryz.func48 rfl Tryz.ntmps48 rfl ?_
 refine q2 ?_
 refine o_assign rfl rfl ?_
 refine q1 ?_
 refine o_buildSlice H Tryz.underlying23 Tryz.sizeOf117 (fun w => ⟨_, Tryz.zeroValue117 w, rfl⟩) rfl rfl rfl rfl rfl rfl rfl ?_; intro b1 w1 hb1 H
 have H := H.blkAcc 3 (k := 0) (n := 0) rfl rfl (by decide)
 refine o_assign rfl rfl ?_
 refine q3 ?_
 refine W_seq ?_
 refine q2 ?_
 refine o_assign rfl rfl ?_
 refine q3 ?_
 refine W_block ?_
 refine W_loop (hf := (Sub.cons (t := 0) rfl (Sub.cons (t := 2) rfl Sub.nil))) (J := fun M w m => ∃ (v : Value) (n : Nat) (cs : List Value) (xs : List (BHeld)) (k : Nat) (G : PH), M = [(4, .int .i64 (k : Int)), (3, v)] ∧ PLe G0 G ∧ Hp w0 G0 [] w G [acc 117 3 v n cs] ∧ (Chk heldE 3 G cs xs ∧ n = xs.length ∧ k ≤ list.length ∧ xs.length = k ∧ xs = list.take k) ∧ m = (list.length - k)) (h0 := ⟨_, _, _, [], 0, _, rfl, PLe.refl _, H, ?inv, rfl⟩) (hM := ?hM) (round := ?round)
 case hM => (repeat (first | exact Sub.nil | refine Sub.cons rfl ?_))
 case inv => exact ⟨(Chk.nil (E := heldE) (sz := 3) (G := G0)),  by first | rfl | simp | (simp; omega) | omega, (by simp)⟩
 case round =>
  rintro _ w2 _ ⟨v, n, cs, xs, k, G2, rfl, hle2, H, hinv2, rfl⟩
  have hlist := hlist.up hle2
  obtain ⟨hchk2_0, hn2_0, hinv2⟩ := hinv2
  obtain ⟨av2_0, cv2_0, rfl⟩ := H.accShape (k := 0) rfl
  obtain ⟨hk, hxl, hxs⟩ := hinv2
  refine W_seq ?_
  refine q2 ?_
  refine o_move rfl rfl ?_
  refine o_move rfl rfl ?_
  refine o_len_slice Tryz.underlying23 rfl rfl ?_
  refine o_lss rfl rfl rfl ?_
  refine q3 ?_
  refine W_cond rfl ?_ ?_
  ·intro hc3
   try simp only [nrm] at hc3
   refine W_skip ?_
   refine N_K ?_
   refine W_seq ?_
   refine W_block ?_
   refine q2 ?_
   refine o_move rfl rfl ?_
   refine o_move rfl rfl ?_
   refine o_index_P _ hlist Tryz.underlying23 Tryz.sizeOf117 rfl rfl rfl rfl (by omega) ?_; intro b4 o4 z4 q4 hz4 hE4 hrow4
   obtain ⟨a4, m4, c4, rfl, hi4, hr4, hj4⟩ := hE4; have hn_hr4 := hr4.len; have hx_hr4 : _ ≤ 1099511627776 := hr4.lim
   refine o_loadagg_P H Tryz.isAgg117 Tryz.sizeOf117 rfl rfl hrow4 rfl ?_
   refine o_alloc H Tryz.zeroValue117 rfl rfl ?_; intro b5 w5 hb5 H
   refine o_store_B 0 H Tryz.sizeOf117 rfl rfl rfl rfl rfl rfl rfl rfl ?_; intro w6 H
   refine q1 ?_
   refine o_buildSlice H Tryz.underlying27 Tryz.sizeOf3 (fun w => ⟨_, Tryz.zeroValue3 w, rfl⟩) rfl rfl rfl rfl rfl rfl rfl ?_; intro b7 w7 hb7 H
   have H := H.blkAcc 1 (k := 0) (n := 0) rfl rfl (by decide)
   refine o_fieldAddr 1 Tryz.runUnderlying117 rfl Tryz.sizeOf27 rfl rfl rfl ?_
   refine o_load_B 1 H Tryz.isAgg27 rfl rfl rfl rfl ?_
   refine o_append_P 0 H hr4 (by intro z cs hz u hu; obtain ⟨rfl, _⟩ := hz; simp at hu; subst hu; rfl) (sz := 1) (bytes := 8) Tryz.underlying27 Tryz.typeInfo3 ⟨_, rfl, rfl⟩ rfl rfl rfl rfl rfl rfl rfl (by omega) rfl ?_; intro v8 w8 css8 hcl8 hcs8 H
   have hchk8 : Chk intE 1 G2 ([] ++ css8.flatten) _ := ⟨css8, rfl, hcl8, hcs8⟩
   obtain ⟨av8, cv8, rfl⟩ := H.accShape (k := 0) rfl
   refine o_fieldAddr 1 Tryz.runUnderlying117 rfl Tryz.sizeOf27 rfl rfl rfl ?_
   refine o_store_B 1 H Tryz.sizeOf27 rfl rfl rfl rfl rfl rfl rfl rfl ?_; intro w9 H
   refine q3 ?_
   refine W_region ?_
   refine o_move rfl rfl ?_
   refine o_loadagg_B 1 H Tryz.isAgg117 Tryz.sizeOf117 rfl rfl rfl rfl rfl ?_
   refine o_buildSlice H Tryz.underlying23 Tryz.sizeOf117 (fun w => ⟨_, Tryz.zeroValue117 w, rfl⟩) rfl rfl rfl rfl rfl rfl rfl ?_; intro b10 w10 hb10 H
   refine o_append1 2 H (sz := 3) (bytes := 40) Tryz.underlying23 Tryz.typeInfo117 ⟨_, rfl, rfl⟩ rfl rfl rfl rfl rfl rfl rfl rfl rfl rfl (by omega) rfl ?_; intro v11 w11 H
   obtain ⟨G12, H, hsg12, hsr12⟩ := H.shut' (k := 0) rfl hchk8 (by first | assumption | (simp; done) | (simp; omega) | omega) (by first | assumption | (simp; done) | (simp; omega) | omega)
   have hlist := hlist.up hsg12
   have hchk2_0 := hchk2_0.up hsg12
   have hr4 := hr4.up hsg12
   have hrow4 := hrow4.up hsg12
   have hchk8 := hchk8.up hsg12
   have hle2 := hle2.trans hsg12
   have hchk11 := hchk2_0.snoc (show heldE _ z4 _ from ⟨_, _, _, rfl, ⟨by omega, by omega⟩, hsr12, ⟨by omega, by omega⟩⟩) rfl
   obtain ⟨av11, cv11, rfl⟩ := H.accShape (k := 1) rfl
   refine o_assign rfl rfl ?_
   refine R_nil ?_
   refine N_B ?_
   refine N_K ?_
   refine W_region ?_
   refine o_move rfl rfl ?_
   refine o_add rfl rfl rfl ⟨by omega, by omega⟩ ?_
   refine o_assign rfl rfl ?_
   refine R_nil ?_
   have H := H.del (k := 0) rfl
   refine N_LP (hJ := ⟨_, _, _, (xs ++ [z4]), k + 1, _, rfl, hle2, H, ?inv, rfl⟩) (hM := ?hM) (hf := ?hf) (hm := ?hm)
   case hM => (repeat (first | exact Sub.nil | refine Sub.cons rfl ?_))
   case hf => (repeat (first | exact Sub.nil | refine Sub.cons rfl ?_))
   case hm => omega
   case inv => exact ⟨hchk11, (by first | assumption | (simp; omega) | omega), (by exact ⟨by omega, by simp [hxl], by rw [Sp.take_succ' hz4, hxs]⟩)⟩
  intro hc3'
  try simp only [nrm] at hc3'
  refine W_exit ?_
  refine N_K_exit ?_
  refine N_LP_exit ?_
  refine N_B_same ?_
  refine N_K ?_
  refine q2 ?_
  refine o_move rfl rfl ?_
  refine o_assign rfl rfl ?_
  refine q3 ?_
  refine W_ret ?_
  refine ret_gen (rs := [.tmp 2]) (vs := [_]) Tryz.results48 ⟨rfl, trivial⟩ ?_
  obtain rfl : k = list.length := by omega
  rw [List.take_length] at hxs
  subst hxs
  exact H.retO (k := 0) rfl (AccOf.mk (by assumption) hchk2_0) (acc_nd _ _ _ _ _)
theorem l12At_c (w0 : World) (G0 : PH) (hG : PSub G0 w0) (vlist : Value) (list : List (BSnap)) (hlist : RdSn G0 vlist list) (name : Bs) (hname : name.length ≤ 16777216)  :
  Calls Tryz.prog 54 #[vlist, str name] w0 (Rets w0 (.int .i64 (Sp.l12At list name))) := by
 obtain ⟨alist, klist, rfl⟩ := hlist.shape
 have hlimlist : list.length ≤ 1099511627776 := hlist.lim
 have H := Hp.init hG
 refine calls_of_W (l := [.slice alist list.length klist, str name]) Tryz.func54 rfl Tryz.ntmps54 rfl ?_
 refine q2 ?_
 refine o_assign rfl rfl ?_
 refine q3 ?_
 refine W_seq ?_
 refine q2 ?_
 refine o_assign rfl rfl ?_
 refine q3 ?_
 refine W_block ?_
 refine W_loop (hf := (Sub.cons (t := 0) rfl (Sub.cons (t := 1) rfl Sub.nil))) (J := fun M w m => ∃ (k : Nat) (G : PH), M = [(5, .int .i64 (k : Int))] ∧ PLe G0 G ∧ Hp w0 G0 [] w G [] ∧ (k ≤ list.length ∧ (∀ j, j < k → ∀ y, list[j]? = some y → decide (y.name = name) = false)) ∧ m = (list.length - k)) (h0 := ⟨0, _, rfl, PLe.refl _, H, ?inv, rfl⟩) (hM := ?hM) (round := ?round)
 case hM => (repeat (first | exact Sub.nil | refine Sub.cons rfl ?_))
 case inv => exact ⟨by omega, fun j hj => by omega⟩
 case round =>
  rintro _ w1 _ ⟨k, G1, rfl, hle1, H, hinv1, rfl⟩
  have hlist := hlist.up hle1
  obtain ⟨hk, hall⟩ := hinv1
  refine W_seq ?_
  refine q2 ?_
  refine o_move rfl rfl ?_
  refine o_move rfl rfl ?_
  refine o_len_slice Tryz.underlying51 rfl rfl ?_
  refine o_lss rfl rfl rfl ?_
  refine q3 ?_
  refine W_cond rfl ?_ ?_
  ·intro hc2
   try simp only [nrm] at hc2
   refine W_skip ?_
   refine N_K ?_
   refine W_seq ?_
   refine W_block ?_
   refine q2 ?_
   refine o_move rfl rfl ?_
   refine o_move rfl rfl ?_
   refine o_index_P _ hlist Tryz.underlying51 Tryz.sizeOf102 rfl rfl rfl rfl (by omega) ?_; intro b3 o3 z3 q3 hz3 hE3 hrow3
   obtain ⟨a3, m3, c3, rfl, hi3, hr3⟩ := hE3; have hy_hi3 : _ ≤ 16777216 := hi3; have hn_hr3 := hr3.len; have hx_hr3 : _ ≤ 1099511627776 := hr3.lim
   refine o_fieldAddr 0 Tryz.runUnderlying102 rfl Tryz.sizeOf9 rfl rfl rfl ?_
   refine o_load_P H Tryz.isAgg9 rfl rfl (hrow3 0 _ rfl) ?_
   refine o_move rfl rfl ?_
   refine o_seql rfl rfl rfl ?_
   refine q3 ?_
   refine W_cond rfl ?_ ?_
   ·intro hc4
    try simp only [nrm] at hc4
    refine q2 ?_
    refine o_move rfl rfl ?_
    refine o_assign rfl rfl ?_
    refine q3 ?_
    refine W_ret ?_
    refine N_B_ret ?_
    refine N_K_ret ?_
    refine N_LP_ret ?_
    refine N_B_ret ?_
    refine N_K_ret ?_
    refine ret_gen (rs := [.tmp 4]) (vs := [_]) Tryz.results54 ⟨rfl, trivial⟩ ?_
    exact H.rets (congrArg (Value.int .i64) (by rw [Sp.l12At, Sp.atS, Sp.find_at hall hz3 (by simp; exact hc4)]; rfl))
   intro hc4'
   try simp only [nrm] at hc4'
   refine W_skip ?_
   refine N_B ?_
   refine N_K ?_
   refine W_region ?_
   refine o_move rfl rfl ?_
   refine o_add rfl rfl rfl ⟨by omega, by omega⟩ ?_
   refine o_assign rfl rfl ?_
   refine R_nil ?_
   refine N_LP (hJ := ⟨k + 1, _, rfl, hle1, H, ?inv, rfl⟩) (hM := ?hM) (hf := ?hf) (hm := ?hm)
   case hM => (repeat (first | exact Sub.nil | refine Sub.cons rfl ?_))
   case hf => (repeat (first | exact Sub.nil | refine Sub.cons rfl ?_))
   case hm => omega
   case inv => exact ⟨by omega, Sp.none_succ hall hz3 (by simp; exact hc4')⟩
  intro hc2'
  try simp only [nrm] at hc2'
  refine W_exit ?_
  refine N_K_exit ?_
  refine N_LP_exit ?_
  refine N_B_same ?_
  refine N_K ?_
  refine q2 ?_
  refine o_assign rfl rfl ?_
  refine q3 ?_
  refine W_ret ?_
  refine ret_gen (rs := [.tmp 4]) (vs := [_]) Tryz.results54 ⟨rfl, trivial⟩ ?_
  exact H.rets (congrArg (Value.int .i64) (by rw [Sp.l12At, Sp.atS, Sp.find_none hall (by omega)]; rfl))
end Go.Proofs.Tst

namespace Go.Proofs.Tst
open Go Fw
theorem l5Copy_c (w0 : World) (G0 : PH) (hG : PSub G0 w0) (cx : List Value) (x : BItem) (hx : itemE G0 x cx)  :
  Calls Tryz.prog 108 #[.agg cx.toArray] w0 (RetP w0 G0 (fun G v => ∃ cs, v = .agg cs.toArray ∧ itemE G x cs)) := by
 obtain ⟨a1, m1, c1, rfl, hi1, hr1⟩ := hx; have hy_hi1 : _ ≤ 16777216 := hi1; have hn_hr1 := hr1.len; have hx_hr1 : _ ≤ 1099511627776 := hr1.lim
 have H := Hp.init hG
 refine calls_of_W (l := [_]) Tryz.func108 rfl Tryz.ntmps108 rfl ?_
 refine q2 ?_
 refine o_box H rfl rfl rfl ?_; intro b2 w2 hb2 H
 refine o_alloc H Tryz.zeroValue39 rfl rfl ?_; intro b3 w3 hb3 H
 refine q1 ?_
 refine o_buildSlice H Tryz.underlying27 Tryz.sizeOf3 (fun w => ⟨_, Tryz.zeroValue3 w, rfl⟩) rfl rfl rfl rfl rfl rfl rfl ?_; intro b4 w4 hb4 H
 have H := H.blkAcc 1 (k := 0) (n := 0) rfl rfl (by decide)
 refine o_fieldAddr 2 Tryz.runUnderlying39 rfl Tryz.sizeOf27 rfl rfl rfl ?_
 refine o_load_B 2 H Tryz.isAgg27 rfl rfl rfl rfl ?_
 refine o_append_P 0 H hr1 (by intro z cs hz u hu; obtain ⟨rfl, _⟩ := hz; simp at hu; subst hu; rfl) (sz := 1) (bytes := 8) Tryz.underlying27 Tryz.typeInfo3 ⟨_, rfl, rfl⟩ rfl rfl rfl rfl rfl rfl rfl (by omega) rfl ?_; intro v5 w5 css5 hcl5 hcs5 H
 have hchk5 : Chk intE 1 G0 ([] ++ css5.flatten) _ := ⟨css5, rfl, hcl5, hcs5⟩
 obtain ⟨av5, cv5, rfl⟩ := H.accShape (k := 0) rfl
 refine o_fieldAddr 2 Tryz.runUnderlying39 rfl Tryz.sizeOf27 rfl rfl rfl ?_
 refine o_store_B 2 H Tryz.sizeOf27 rfl rfl rfl rfl rfl rfl rfl rfl ?_; intro w6 H
 refine q1 ?_
 refine o_loadagg_B 2 H Tryz.isAgg39 Tryz.sizeOf39 rfl rfl rfl rfl rfl ?_
 refine o_store_B 1 H Tryz.sizeOf39 rfl rfl rfl rfl rfl rfl rfl rfl ?_; intro w7 H
 refine q3 ?_
 refine W_ret ?_
 refine ret_gen (rs := [.cell 2 39]) (vs := [_]) Tryz.results108 ⟨⟨_, rfl, load_blk 1 H Tryz.isAgg39 Tryz.sizeOf39 rfl rfl rfl⟩, trivial⟩ ?_
 obtain ⟨G508, H, hsg508, hsr508⟩ := H.shut' (k := 0) rfl hchk5 (by first | assumption | (simp; done) | (simp; omega) | omega) (by first | assumption | (simp; done) | (simp; omega) | omega)
 have hr1 := hr1.up hsg508
 have hchk5 := hchk5.up hsg508
 exact H.retP ⟨_, rfl, ⟨_, _, _, rfl, hi1, hsr508⟩⟩
end Go.Proofs.Tst

namespace Go.Proofs.Tst
open Go Fw
theorem l5All_c (w0 : World) (G0 : PH) (hG : PSub G0 w0) (vlist : Value) (list : List (BItem)) (hlist : RdItems G0 vlist list)  :
  Calls Tryz.prog 57 #[vlist] w0 (RetO w0 G0 (AccOf itemE 3 39 list)) := by
 obtain ⟨alist, klist, rfl⟩ := hlist.shape
 have hlimlist : list.length ≤ 1099511627776 := hlist.lim
 have H := Hp.init hG
 refine calls_of_W (l := [.slice alist list.length klist]) Tryz.func57 rfl Tryz.ntmps57 rfl ?_
 refine q2 ?_
 refine o_assign rfl rfl ?_
 refine q1 ?_
 refine o_buildSlice H Tryz.underlying24 Tryz.sizeOf39 (fun w => ⟨_, Tryz.zeroValue39 w, rfl⟩) rfl rfl rfl rfl rfl rfl rfl ?_; intro b1 w1 hb1 H
 have H := H.blkAcc 3 (k := 0) (n := 0) rfl rfl (by decide)
 refine o_assign rfl rfl ?_
 refine q3 ?_
 refine W_seq ?_
 refine q2 ?_
 refine o_assign rfl rfl ?_
 refine q3 ?_
 refine W_block ?_
 refine W_loop (hf := (Sub.cons (t := 0) rfl (Sub.cons (t := 2) rfl Sub.nil))) (J := fun M w m => ∃ (v : Value) (n : Nat) (cs : List Value) (xs : List (BItem)) (k : Nat) (G : PH), M = [(4, .int .i64 (k : Int)), (3, v)] ∧ PLe G0 G ∧ Hp w0 G0 [] w G [acc 39 3 v n cs] ∧ (Chk itemE 3 G cs xs ∧ n = xs.length ∧ k ≤ list.length ∧ xs.length = k ∧ xs = list.take k) ∧ m = (list.length - k)) (h0 := ⟨_, _, _, [], 0, _, rfl, PLe.refl _, H, ?inv, rfl⟩) (hM := ?hM) (round := ?round)
 case hM => (repeat (first | exact Sub.nil | refine Sub.cons rfl ?_))
 case inv => exact ⟨(Chk.nil (E := itemE) (sz := 3) (G := G0)),  by first | rfl | simp | (simp; omega) | omega, (by simp)⟩
 case round =>
  rintro _ w2 _ ⟨v, n, cs, xs, k, G2, rfl, hle2, H, hinv2, rfl⟩
  have hlist := hlist.up hle2
  obtain ⟨hchk2_0, hn2_0, hinv2⟩ := hinv2
  obtain ⟨av2_0, cv2_0, rfl⟩ := H.accShape (k := 0) rfl
  obtain ⟨hk, hxl, hxs⟩ := hinv2
  refine W_seq ?_
  refine q2 ?_
  refine o_move rfl rfl ?_
  refine o_move rfl rfl ?_
  refine o_len_slice Tryz.underlying24 rfl rfl ?_
  refine o_lss rfl rfl rfl ?_
  refine q3 ?_
  refine W_cond rfl ?_ ?_
  ·intro hc3
   try simp only [nrm] at hc3
   refine W_skip ?_
   refine N_K ?_
   refine W_seq ?_
   refine W_block ?_
   refine W_region ?_
   refine o_move rfl rfl ?_
   refine o_move rfl rfl ?_
   refine o_move rfl rfl ?_
   refine o_index_P _ hlist Tryz.underlying24 Tryz.sizeOf39 rfl rfl rfl rfl (by omega) ?_; intro b4 o4 z4 q4 hz4 hE4 hrow4
   obtain ⟨a4, m4, c4, rfl, hi4, hr4⟩ := hE4; have hy_hi4 : _ ≤ 16777216 := hi4; have hn_hr4 := hr4.len; have hx_hr4 : _ ≤ 1099511627776 := hr4.lim
   refine o_loadagg_P H Tryz.isAgg39 Tryz.sizeOf39 rfl rfl hrow4 rfl ?_
   refine o_call Tryz.call108 rfl rfl (l5Copy_c _ _ H.sub _ _ ⟨_, _, _, rfl, hi4, hr4⟩ ) ?_
   rintro _ w5 ⟨G5, _, g5, rfl, u5_0, rfl, hr5_0⟩
   have H := H.grow g5
   have hlist := hlist.up g5.le
   have hchk2_0 := hchk2_0.up g5.le
   have hr4 := hr4.up g5.le
   have hrow4 := hrow4.up g5.le
   have hle2 := hle2.trans g5.le
   obtain ⟨a6, m6, c6, rfl, hi6, hr6⟩ := hr5_0; have hy_hi6 : _ ≤ 16777216 := hi6; have hn_hr6 := hr6.len; have hx_hr6 : _ ≤ 1099511627776 := hr6.lim
   refine ⟨_, rfl, ?_⟩
   refine o_buildSlice H Tryz.underlying24 Tryz.sizeOf39 (fun w => ⟨_, Tryz.zeroValue39 w, rfl⟩) rfl rfl rfl rfl rfl rfl rfl ?_; intro b7 w7 hb7 H
   refine o_append1 0 H (sz := 3) (bytes := 48) Tryz.underlying24 Tryz.typeInfo39 ⟨_, rfl, rfl⟩ rfl rfl rfl rfl rfl rfl rfl rfl rfl rfl (by omega) rfl ?_; intro v8 w8 H
   have hchk8 := hchk2_0.snoc (show itemE _ z4 _ from ⟨_, _, _, rfl, hi6, hr6⟩) rfl
   obtain ⟨av8, cv8, rfl⟩ := H.accShape (k := 0) rfl
   refine o_assign rfl rfl ?_
   refine R_nil ?_
   refine N_B ?_
   refine N_K ?_
   refine W_region ?_
   refine o_move rfl rfl ?_
   refine o_add rfl rfl rfl ⟨by omega, by omega⟩ ?_
   refine o_assign rfl rfl ?_
   refine R_nil ?_
   refine N_LP (hJ := ⟨_, _, _, (xs ++ [z4]), k + 1, _, rfl, hle2, H, ?inv, rfl⟩) (hM := ?hM) (hf := ?hf) (hm := ?hm)
   case hM => (repeat (first | exact Sub.nil | refine Sub.cons rfl ?_))
   case hf => (repeat (first | exact Sub.nil | refine Sub.cons rfl ?_))
   case hm => omega
   case inv => exact ⟨hchk8, (by first | assumption | (simp; omega) | omega), (by exact ⟨by omega, by simp [hxl], by rw [Sp.take_succ' hz4, hxs]⟩)⟩
  intro hc3'
  try simp only [nrm] at hc3'
  refine W_exit ?_
  refine N_K_exit ?_
  refine N_LP_exit ?_
  refine N_B_same ?_
  refine N_K ?_
  refine q2 ?_
  refine o_move rfl rfl ?_
  refine o_assign rfl rfl ?_
  refine q3 ?_
  refine W_ret ?_
  refine ret_gen (rs := [.tmp 2]) (vs := [_]) Tryz.results57 ⟨rfl, trivial⟩ ?_
  obtain rfl : k = list.length := by omega
  rw [List.take_length] at hxs
  subst hxs
  exact H.retO (k := 0) rfl (AccOf.mk (by assumption) hchk2_0) (acc_nd _ _ _ _ _)
end Go.Proofs.Tst

namespace Go.Proofs.Tst
open Go Fw
theorem StoreKeep_c (w0 : World) (G0 : PH) (hG : PSub G0 w0) (vlist : Value) (list : List (BHeld)) (hlist : RdH G0 vlist list) (id : Int)  :
  Calls Tryz.prog 107 #[vlist, .int .i64 id] w0 (RetO w0 G0 (fun G v r => ∃ u, v = .tuple #[u, .bool (Sp.StoreKeep list id).isSome] ∧ AccOf heldE 3 117 ((Sp.StoreKeep list id).getD []) G u r)) := by
 obtain ⟨alist, klist, rfl⟩ := hlist.shape
 have hlimlist : list.length ≤ 1099511627776 := hlist.lim
 have H := Hp.init hG
 refine calls_of_W (l := [.slice alist list.length klist, .int .i64 id]) Tryz.func107 rfl Tryz.ntmps107 rfl ?_
 refine q2 ?_
 refine o_assign rfl rfl ?_
 refine o_assign rfl rfl ?_
 refine q1 ?_
 refine o_move rfl rfl ?_
 refine o_move rfl rfl ?_
 refine o_call Tryz.call151 rfl rfl (l3At_c _ _ H.sub _ _ hlist _ ) ?_
 rintro _ w1 ⟨rfl, ew1⟩; have H := H.step ew1; refine ⟨_, rfl, ?_⟩
 refine o_assign rfl rfl ?_
 refine q3 ?_
 refine W_seq ?_
 refine q2 ?_
 refine o_move rfl rfl ?_
 refine o_call Tryz.call83 rfl rfl (StoreValid_c _ _ H.sub _ _ hlist ) ?_
 rintro _ w2 ⟨rfl, ew2⟩; have H := H.step ew2; refine ⟨_, rfl, ?_⟩
 refine o_not rfl rfl ?_
 refine o_move rfl rfl ?_
 refine R_case (t := 14) rfl ?_ ?_
 ·intro hc3
  try simp only [nrm] at hc3
  refine R_pass rfl (yl_ne rfl rfl rfl) ?_
  refine R_pass rfl (yl_ne rfl rfl rfl) ?_
  refine o_pick_t rfl rfl rfl ?_
  refine o_move rfl rfl ?_
  refine R_pass rfl (yl_ne rfl rfl rfl) ?_
  refine R_pass rfl (yl_ne rfl rfl rfl) ?_
  refine R_pass rfl (yl_ne rfl rfl rfl) ?_
  refine R_pass rfl (yl_ne rfl rfl rfl) ?_
  refine R_pass rfl (yl_ne rfl rfl rfl) ?_
  refine R_pass rfl (yl_ne rfl rfl rfl) ?_
  refine o_pick_t rfl rfl rfl ?_
  refine q3 ?_
  refine W_true rfl ?_
  refine q2 ?_
  refine o_buildSlice H Tryz.underlying23 Tryz.sizeOf117 (fun w => ⟨_, Tryz.zeroValue117 w, rfl⟩) rfl rfl rfl rfl rfl rfl rfl ?_; intro b4 w4 hb4 H
  have H := H.blkAcc 3 (k := 0) (n := 0) rfl rfl (by decide)
  refine o_assign rfl rfl ?_
  refine o_assign rfl rfl ?_
  refine q3 ?_
  refine W_ret ?_
  refine N_K_ret ?_
  refine ret_gen (rs := [.tmp 4, .tmp 5]) (vs := [_, _]) Tryz.results107 ⟨rfl, rfl, trivial⟩ ?_
  have hN : Sp.StoreKeep list id = none := by simp [Sp.StoreKeep, hc3]
  exact H.retO (k := 0) rfl (by rw [hN]; exact ⟨_, rfl, AccOf.mk (by first | rfl | assumption | (simp; done) | (simp; omega) | omega) (Chk.nil (E := heldE) (sz := 3) (G := G0))⟩) (acc_nd _ _ _ _ _)
 intro hc3'
 try simp only [nrm] at hc3'
 refine R_guard (yl rfl rfl) ?_
 refine o_move rfl rfl ?_
 refine R_guard (yl rfl rfl) ?_
 refine o_lss rfl rfl rfl ?_
 refine o_pick_f rfl rfl rfl ?_
 refine o_move rfl rfl ?_
 refine R_case (t := 18) rfl ?_ ?_
 ·intro hc5
  try simp only [nrm] at hc5
  refine R_pass rfl (yl_ne rfl rfl rfl) ?_
  refine R_pass rfl (yl_ne rfl rfl rfl) ?_
  refine R_pass rfl (yl_ne rfl rfl rfl) ?_
  refine R_pass rfl (yl_ne rfl rfl rfl) ?_
  refine R_pass rfl (yl_ne rfl rfl rfl) ?_
  refine R_pass rfl (yl_ne rfl rfl rfl) ?_
  refine o_pick_t rfl rfl rfl ?_
  refine q3 ?_
  refine W_true rfl ?_
  refine q2 ?_
  refine o_buildSlice H Tryz.underlying23 Tryz.sizeOf117 (fun w => ⟨_, Tryz.zeroValue117 w, rfl⟩) rfl rfl rfl rfl rfl rfl rfl ?_; intro b6 w6 hb6 H
  have H := H.blkAcc 3 (k := 0) (n := 0) rfl rfl (by decide)
  refine o_assign rfl rfl ?_
  refine o_assign rfl rfl ?_
  refine q3 ?_
  refine W_ret ?_
  refine N_K_ret ?_
  refine ret_gen (rs := [.tmp 4, .tmp 5]) (vs := [_, _]) Tryz.results107 ⟨rfl, rfl, trivial⟩ ?_
  have hN : Sp.StoreKeep list id = none := by simp [Sp.StoreKeep, Sp.atH, Sp.at_none hc5]
  exact H.retO (k := 0) rfl (by rw [hN]; exact ⟨_, rfl, AccOf.mk (by first | rfl | assumption | (simp; done) | (simp; omega) | omega) (Chk.nil (E := heldE) (sz := 3) (G := G0))⟩) (acc_nd _ _ _ _ _)
 intro hc5'
 try simp only [nrm] at hc5'
 obtain ⟨i, x, hi1, hi2, hi3, hi4, hi5⟩ := Sp.at_nat hc5'
 have hl : Sp.atH list id = some i := hi1
 refine R_guard (yl rfl rfl) ?_
 refine o_move rfl rfl ?_
 refine R_guard (yl rfl rfl) ?_
 refine o_move rfl rfl ?_
 refine R_guard (yl rfl rfl) ?_
 refine o_index_P i hlist Tryz.underlying23 Tryz.sizeOf117 rfl rfl rfl hi2 (by omega) ?_; intro b7 o7 z7 q7 hz7 hE7 hrow7
 obtain ⟨a7, m7, c7, rfl, hi7, hr7, hj7⟩ := hE7; have hn_hr7 := hr7.len; have hx_hr7 : _ ≤ 1099511627776 := hr7.lim
 refine R_guard (yl rfl rfl) ?_
 refine o_fieldAddr 2 Tryz.runUnderlying117 rfl Tryz.sizeOf3 rfl rfl rfl ?_
 refine R_guard (yl rfl rfl) ?_
 refine o_load_P H Tryz.isAgg3 rfl rfl (hrow7 2 _ rfl) ?_
 refine R_guard (yl rfl rfl) ?_
 refine o_eql rfl rfl rfl ?_
 refine o_pick_f rfl rfl rfl ?_
 refine q3 ?_
 refine W_cond rfl ?_ ?_
 ·intro hc8
  try simp only [nrm] at hc8
  refine q2 ?_
  refine o_buildSlice H Tryz.underlying23 Tryz.sizeOf117 (fun w => ⟨_, Tryz.zeroValue117 w, rfl⟩) rfl rfl rfl rfl rfl rfl rfl ?_; intro b9 w9 hb9 H
  have H := H.blkAcc 3 (k := 0) (n := 0) rfl rfl (by decide)
  refine o_assign rfl rfl ?_
  refine o_assign rfl rfl ?_
  refine q3 ?_
  refine W_ret ?_
  refine N_K_ret ?_
  refine ret_gen (rs := [.tmp 4, .tmp 5]) (vs := [_, _]) Tryz.results107 ⟨rfl, rfl, trivial⟩ ?_
  have hN : Sp.StoreKeep list id = none := by simp [Sp.StoreKeep, hl, hz7, hc8]
  exact H.retO (k := 0) rfl (by rw [hN]; exact ⟨_, rfl, AccOf.mk (by first | rfl | assumption | (simp; done) | (simp; omega) | omega) (Chk.nil (E := heldE) (sz := 3) (G := G0))⟩) (acc_nd _ _ _ _ _)
 intro hc8'
 try simp only [nrm] at hc8'
 refine W_skip ?_
 refine N_K ?_
 refine q2 ?_
 refine o_move rfl rfl ?_
 refine o_call Tryz.call48 rfl rfl (l3Copy_c _ _ H.sub _ _ hlist ) ?_
 rintro _ w10 ⟨G10, v10, _, g10, rfl, ⟨cs10, rfl, hchk10⟩, hp10, hq10, hs10⟩
 have H := H.growO g10 hp10 hq10 hs10; obtain ⟨av10, cv10, rfl⟩ := H.accShape (k := 0) rfl
 have hlist := hlist.up g10.le
 have hr7 := hr7.up g10.le
 have hrow7 := hrow7.up g10.le
 refine ⟨_, rfl, ?_⟩
 refine o_assign rfl rfl ?_
 refine q1 ?_
 refine o_move rfl rfl ?_
 refine o_move rfl rfl ?_
 refine o_move rfl rfl ?_
 refine o_move rfl rfl ?_
 refine o_index_A 0 H i rfl hchk10 Tryz.underlying23 Tryz.sizeOf117 rfl rfl rfl hi2 (by first | omega | (simp; omega) | (simp; done)) (by first | rfl | assumption | (simp; done) | (simp; omega) | omega) ?_; intro ba11 z11 q11 hba11 hz11 hE11 hg11; cases hba11
 obtain ⟨a11, m11, c11, rfl, hi11, hr11, hj11⟩ := hE11; have hn_hr11 := hr11.len; have hx_hr11 : _ ≤ 1099511627776 := hr11.lim
 have hsv := Sp.valid_at hc3' hz11
 refine o_fieldAddr 2 Tryz.runUnderlying117 rfl Tryz.sizeOf3 rfl rfl rfl ?_
 refine o_load_A 0 H Tryz.isAgg3 rfl rfl rfl (hg11 2 _ rfl) ?_
 refine o_add rfl rfl rfl ⟨by omega, by omega⟩ ?_
 refine o_index_A 0 H i rfl hchk10 Tryz.underlying23 Tryz.sizeOf117 rfl rfl rfl hi2 (by first | omega | (simp; omega) | (simp; done)) (by first | rfl | assumption | (simp; done) | (simp; omega) | omega) ?_; intro ba13 z13 q13 hba13 hz13 hE13 hg13; cases hba13
 obtain ⟨a13, m13, c13, rfl, hi13, hr13, hj13⟩ := hE13; have hn_hr13 := hr13.len; have hx_hr13 : _ ≤ 1099511627776 := hr13.lim
 have hzz13 : z11 = z13 := Option.some.inj (hz11.symm.trans hz13)
 subst hzz13
 refine o_fieldAddr 2 Tryz.runUnderlying117 rfl Tryz.sizeOf3 rfl rfl rfl ?_
 have hcl14 := hchk10.length
 refine o_store_A 0 H Tryz.sizeOf3 rfl rfl rfl rfl rfl (by simp only [vc, List.length_cons, List.length_nil]; omega) ?_; intro w14 H
 have hchk14 := hchk10.put (x' := ⟨z11.id, z11.bytes, z11.uses + 1⟩) (off := 2) (vs := [_]) hz13 (fun cs hl hE => by obtain ⟨_, _, _, rfl, h1, h2, h3⟩ := hE; exact ⟨_, _, _, rfl, h1, h2, ⟨by first | omega | (dsimp only; omega), by first | omega | (dsimp only; omega)⟩⟩) (by simp only [vc, List.length_cons, List.length_nil]; omega)
 refine q1 ?_
 refine o_move rfl rfl ?_
 refine o_assign rfl rfl ?_
 refine o_assign rfl rfl ?_
 refine q3 ?_
 refine W_ret ?_
 refine ret_gen (rs := [.tmp 4, .tmp 5]) (vs := [_, _]) Tryz.results107 ⟨rfl, rfl, trivial⟩ ?_
 have hY : Sp.StoreKeep list id = some (list.set i ⟨z11.id, z11.bytes, z11.uses + 1⟩) := by (have hzz : z7 = z11 := Option.some.inj (hz7.symm.trans hz11)); rw [hzz] at hc8'; simp [Sp.StoreKeep, hc3', hl, hz11, hc8', Sp.bump_at hz11]
 exact H.retO (k := 0) rfl (by rw [hY]; exact ⟨_, rfl, AccOf.mk (by first | rfl | assumption | (simp; done) | (simp; omega) | omega) hchk14⟩) (acc_nd _ _ _ _ _)
end Go.Proofs.Tst

namespace Go.Proofs.Tst
open Go Fw
theorem l12Keep_c (w0 : World) (G0 : PH) (hG : PSub G0 w0) (vstore : Value) (store : List (BHeld)) (hstore : RdH G0 vstore store) (vlist : Value) (list : List (BItem)) (hlist : RdItems G0 vlist list)  :
  Calls Tryz.prog 55 #[vstore, vlist] w0 (RetO w0 G0 (fun G v r => ∃ u, v = .tuple #[u, .bool (Sp.l12Keep store list).isSome] ∧ AccOf heldE 3 117 ((Sp.l12Keep store list).getD []) G u r)) := by
 obtain ⟨astore, kstore, rfl⟩ := hstore.shape
 have hlimstore : store.length ≤ 1099511627776 := hstore.lim
 obtain ⟨alist, klist, rfl⟩ := hlist.shape
 have hlimlist : list.length ≤ 1099511627776 := hlist.lim
 have H := Hp.init hG
 refine calls_of_W (l := [.slice astore store.length kstore, .slice alist list.length klist]) Tryz.func55 rfl Tryz.ntmps55 rfl ?_
 refine q2 ?_
 refine o_assign rfl rfl ?_
 refine o_assign rfl rfl ?_
 refine q1 ?_
 refine o_move rfl rfl ?_
 refine o_call Tryz.call48 rfl rfl (l3Copy_c _ _ H.sub _ _ hstore ) ?_
 rintro _ w1 ⟨G1, v1, _, g1, rfl, ⟨cs1, rfl, hchk1⟩, hp1, hq1, hs1⟩
 have H := H.growO g1 hp1 hq1 hs1; obtain ⟨av1, cv1, rfl⟩ := H.accShape (k := 0) rfl
 have hstore := hstore.up g1.le
 have hlist := hlist.up g1.le
 refine ⟨_, rfl, ?_⟩
 refine o_assign rfl rfl ?_
 refine q3 ?_
 refine W_seq ?_
 refine q2 ?_
 refine o_assign rfl rfl ?_
 refine q3 ?_
 refine W_block ?_
 refine W_loop (hf := (Sub.cons (t := 1) rfl Sub.nil)) (J := fun M w m => ∃ (vo : Value) (no : Nat) (cso : List Value) (xso : List (BHeld)) (k : Nat) (G : PH), M = [(7, .int .i64 (k : Int)), (6, vo)] ∧ PLe G1 G ∧ Hp w0 G0 [] w G [acc 117 3 vo no cso] ∧ (Chk heldE 3 G cso xso ∧ no = xso.length ∧ k ≤ list.length ∧ xso.length = store.length ∧ Sp.foldB Sp.keepT (list.take k) (some store) = some xso) ∧ m = (list.length - k)) (h0 := ⟨_, _, _, store, 0, _, rfl, PLe.refl _, H, ?inv, rfl⟩) (hM := ?hM) (round := ?round)
 case hM => (repeat (first | exact Sub.nil | refine Sub.cons rfl ?_))
 case inv => exact ⟨hchk1,  by first | rfl | simp | (simp; omega) | omega, (by exact ⟨by omega, rfl, by simp [Sp.foldB]⟩)⟩
 case round =>
  rintro _ w2 _ ⟨vo, no, cso, xso, k, G2, rfl, hle2, H, hinv2, rfl⟩
  have hstore := hstore.up hle2
  have hlist := hlist.up hle2
  have hchk1 := hchk1.up hle2
  obtain ⟨hchk2_0, hn2_0, hinv2⟩ := hinv2
  obtain ⟨av2_0, cv2_0, rfl⟩ := H.accShape (k := 0) rfl
  obtain ⟨hk, hxl, hf⟩ := hinv2
  refine W_seq ?_
  refine q2 ?_
  refine o_move rfl rfl ?_
  refine o_move rfl rfl ?_
  refine o_len_slice Tryz.underlying24 rfl rfl ?_
  refine o_lss rfl rfl rfl ?_
  refine q3 ?_
  refine W_cond rfl ?_ ?_
  ·intro hc3
   try simp only [nrm] at hc3
   refine W_skip ?_
   refine N_K ?_
   refine W_seq ?_
   refine W_block ?_
   refine q2 ?_
   refine o_assign rfl rfl ?_
   refine q3 ?_
   refine W_block ?_
   refine W_loop (hf := (Sub.cons (t := 1) rfl (Sub.cons (t := 7) rfl Sub.nil))) (J := fun M w m => ∃ (v : Value) (n : Nat) (cs : List Value) (xs : List (BHeld)) (j : Nat) (y : BItem) (G : PH), M = [(8, .int .i64 (j : Int)), (6, v)] ∧ PLe G2 G ∧ Hp w0 G0 [] w G [acc 117 3 v n cs] ∧ (Chk heldE 3 G cs xs ∧ n = xs.length ∧ list[k]? = some y ∧ j ≤ y.ids.length ∧ xs.length = store.length ∧ Sp.foldB Sp.StoreKeep (y.ids.take j) (some xso) = some xs) ∧ m = (y.ids.length - j)) (h0 := ⟨_, _, _, xso, 0, (list[k]'(by omega)), _, rfl, PLe.refl _, H, ?inv, rfl⟩) (hM := ?hM) (round := ?round)
   case hM => (repeat (first | exact Sub.nil | refine Sub.cons rfl ?_))
   case inv => exact ⟨hchk2_0,  by first | rfl | simp | (simp; omega) | omega, (by exact ⟨by simp, by omega, hxl, by simp [Sp.foldB]⟩)⟩
   case round =>
    rintro _ w4 _ ⟨v, n, cs, xs, j, y, G4, rfl, hle4, H, hinv4, rfl⟩
    have hstore := hstore.up hle4
    have hlist := hlist.up hle4
    have hchk1 := hchk1.up hle4
    have hchk2_0 := hchk2_0.up hle4
    have hle2 := hle2.trans hle4
    obtain ⟨hchk4_0, hn4_0, hinv4⟩ := hinv4
    obtain ⟨av4_0, cv4_0, rfl⟩ := H.accShape (k := 0) rfl
    obtain ⟨hy, hj, hxl2, hf2⟩ := hinv4
    refine W_seq ?_
    refine q2 ?_
    refine o_move rfl rfl ?_
    refine o_move rfl rfl ?_
    refine o_move rfl rfl ?_
    refine o_index_P k hlist Tryz.underlying24 Tryz.sizeOf39 rfl rfl rfl rfl (by omega) ?_; intro b5 o5 z5 q5 hz5 hE5 hrow5
    obtain ⟨a5, m5, c5, rfl, hi5, hr5⟩ := hE5; have hy_hi5 : _ ≤ 16777216 := hi5; have hn_hr5 := hr5.len; have hx_hr5 : _ ≤ 1099511627776 := hr5.lim
    have hzz5 : y = z5 := Option.some.inj (hy.symm.trans hz5)
    subst hzz5
    refine o_fieldAddr 2 Tryz.runUnderlying39 rfl Tryz.sizeOf27 rfl rfl rfl ?_
    refine o_load_P H Tryz.isAgg27 rfl rfl (hrow5 2 _ rfl) ?_
    refine o_len_slice Tryz.underlying27 rfl rfl ?_
    refine o_lss rfl rfl rfl ?_
    refine q3 ?_
    refine W_cond rfl ?_ ?_
    ·intro hc6
     try simp only [nrm] at hc6
     refine W_skip ?_
     refine N_K ?_
     refine W_seq ?_
     refine W_block ?_
     refine q2 ?_
     refine o_move rfl rfl ?_
     refine o_move rfl rfl ?_
     refine o_move rfl rfl ?_
     refine o_index_P k hlist Tryz.underlying24 Tryz.sizeOf39 rfl rfl rfl rfl (by omega) ?_; intro b7 o7 z7 q7 hz7 hE7 hrow7
     obtain ⟨a7, m7, c7, rfl, hi7, hr7⟩ := hE7; have hy_hi7 : _ ≤ 16777216 := hi7; have hn_hr7 := hr7.len; have hx_hr7 : _ ≤ 1099511627776 := hr7.lim
     have hzz7 : y = z7 := Option.some.inj (hy.symm.trans hz7)
     subst hzz7
     refine o_fieldAddr 2 Tryz.runUnderlying39 rfl Tryz.sizeOf27 rfl rfl rfl ?_
     refine o_load_P H Tryz.isAgg27 rfl rfl (hrow7 2 _ rfl) ?_
     refine o_move rfl rfl ?_
     refine o_index_P j hr7 Tryz.underlying27 Tryz.sizeOf3 rfl rfl rfl rfl (by omega) ?_; intro b8 o8 z8 q8 hz8 hE8 hrow8
     obtain ⟨rfl, hi8⟩ := hE8
     refine o_load_P H Tryz.isAgg3 rfl rfl (hrow8 0 _ rfl) ?_
     obtain ⟨G10, H, hsg10, hsr10⟩ := H.shut' (k := 0) rfl hchk4_0 (by first | assumption | (simp; done) | (simp; omega) | omega) (by first | assumption | (simp; done) | (simp; omega) | omega)
     have hstore := hstore.up hsg10
     have hlist := hlist.up hsg10
     have hchk1 := hchk1.up hsg10
     have hchk2_0 := hchk2_0.up hsg10
     have hchk4_0 := hchk4_0.up hsg10
     have hr5 := hr5.up hsg10
     have hrow5 := hrow5.up hsg10
     have hr7 := hr7.up hsg10
     have hrow7 := hrow7.up hsg10
     have hrow8 := hrow8.up hsg10
     have hle2 := hle2.trans hsg10
     have hle4 := hle4.trans hsg10
     refine o_call Tryz.call107 rfl rfl (StoreKeep_c _ _ H.sub _ _ hsr10 _ ) ?_
     rintro _ w9 ⟨G9, _, _, g9, rfl, ⟨u9_0, rfl, ⟨cs9, rfl, hchk9⟩⟩, hp9, hq9, hs9⟩
     have H := H.growO g9 hp9 hq9 hs9; obtain ⟨av9, cv9, rfl⟩ := H.accShape (k := 0) rfl
     have hstore := hstore.up g9.le
     have hlist := hlist.up g9.le
     have hchk1 := hchk1.up g9.le
     have hchk2_0 := hchk2_0.up g9.le
     have hchk4_0 := hchk4_0.up g9.le
     have hr5 := hr5.up g9.le
     have hrow5 := hrow5.up g9.le
     have hr7 := hr7.up g9.le
     have hrow7 := hrow7.up g9.le
     have hrow8 := hrow8.up g9.le
     have hsr10 := hsr10.up g9.le
     have hle2 := hle2.trans g9.le
     have hle4 := hle4.trans g9.le
     refine ⟨_, rfl, ?_⟩
     refine o_move rfl rfl ?_
     refine o_extract rfl rfl rfl ?_
     refine o_extract rfl rfl rfl ?_
     refine o_assign rfl rfl ?_
     refine o_assign rfl rfl ?_
     refine q3 ?_
     refine W_seq ?_
     refine q2 ?_
     refine o_move rfl rfl ?_
     refine o_not rfl rfl ?_
     refine q3 ?_
     refine W_cond rfl ?_ ?_
     ·intro hc11
      try simp only [nrm] at hc11
      refine q2 ?_
      refine o_buildSlice H Tryz.underlying23 Tryz.sizeOf117 (fun w => ⟨_, Tryz.zeroValue117 w, rfl⟩) rfl rfl rfl rfl rfl rfl rfl ?_; intro b12 w12 hb12 H
      have H := H.blkAcc 3 (k := 0) (n := 0) rfl rfl (by decide)
      refine o_assign rfl rfl ?_
      refine o_assign rfl rfl ?_
      refine q3 ?_
      refine W_ret ?_
      refine N_K_ret ?_
      refine N_B_ret ?_
      refine N_K_ret ?_
      refine N_LP_ret ?_
      refine N_B_ret ?_
      refine N_B_ret ?_
      refine N_K_ret ?_
      refine N_LP_ret ?_
      refine N_B_ret ?_
      refine N_K_ret ?_
      refine ret_gen (rs := [.tmp 4, .tmp 5]) (vs := [_, _]) Tryz.results55 ⟨rfl, rfl, trivial⟩ ?_
      have hN : Sp.l12Keep store list = none := by (have hno : Sp.StoreKeep xs z8 = none := by simpa using hc11); unfold Sp.l12Keep; exact Sp.foldB_stop hf hy (by unfold Sp.keepT; exact Sp.foldB_stop hf2 hz8 hno)
      exact H.retO (k := 0) rfl (by rw [hN]; exact ⟨_, rfl, AccOf.mk (by first | rfl | assumption | (simp; done) | (simp; omega) | omega) (Chk.nil (E := heldE) (sz := 3) (G := G9))⟩) (acc_nd _ _ _ _ _)
     intro hc11'
     try simp only [nrm] at hc11'
     obtain ⟨p, hsp⟩ := Option.isSome_iff_exists.1 hc11'
     rw [hsp] at H hchk9 ⊢
     dsimp only [Option.map, Option.getD] at H hchk9
     refine W_skip ?_
     refine N_K ?_
     refine W_region ?_
     refine o_move rfl rfl ?_
     refine o_assign rfl rfl ?_
     refine R_nil ?_
     refine N_B ?_
     refine N_K ?_
     refine W_region ?_
     refine o_move rfl rfl ?_
     refine o_add rfl rfl rfl ⟨by omega, by omega⟩ ?_
     refine o_assign rfl rfl ?_
     refine R_nil ?_
     refine N_LP (hJ := ⟨_, _, _, p, j + 1, y, _, rfl, hle4, H, ?inv, rfl⟩) (hM := ?hM) (hf := ?hf) (hm := ?hm)
     case hM => (repeat (first | exact Sub.nil | refine Sub.cons rfl ?_))
     case hf => (repeat (first | exact Sub.nil | refine Sub.cons rfl ?_))
     case hm => omega
     case inv => exact ⟨hchk9, (by first | assumption | (simp; omega) | omega), (by exact ⟨hy, by omega, by rw [Sp.keep_len hsp]; exact hxl2, Sp.foldB_succ hf2 hz8 hsp⟩)⟩
    intro hc6'
    try simp only [nrm] at hc6'
    refine W_exit ?_
    refine N_K_exit ?_
    refine N_LP_exit ?_
    refine N_B_same ?_
    refine N_B ?_
    refine N_K ?_
    refine W_region ?_
    refine o_move rfl rfl ?_
    refine o_add rfl rfl rfl ⟨by omega, by omega⟩ ?_
    refine o_assign rfl rfl ?_
    refine R_nil ?_
    refine N_LP (hJ := ⟨_, _, _, xs, k + 1, _, rfl, hle2, H, ?inv, rfl⟩) (hM := ?hM) (hf := ?hf) (hm := ?hm)
    case hM => (repeat (first | exact Sub.nil | refine Sub.cons rfl ?_))
    case hf => (repeat (first | exact Sub.nil | refine Sub.cons rfl ?_))
    case hm => omega
    case inv => exact ⟨hchk4_0, (by first | assumption | (simp; omega) | omega), (by exact ⟨by omega, hxl2, Sp.foldB_succ hf hy (by unfold Sp.keepT; exact Sp.foldB_all hf2 (by omega))⟩)⟩
  intro hc3'
  try simp only [nrm] at hc3'
  refine W_exit ?_
  refine N_K_exit ?_
  refine N_LP_exit ?_
  refine N_B_same ?_
  refine N_K ?_
  refine q2 ?_
  refine o_move rfl rfl ?_
  refine o_assign rfl rfl ?_
  refine o_assign rfl rfl ?_
  refine q3 ?_
  refine W_ret ?_
  refine ret_gen (rs := [.tmp 4, .tmp 5]) (vs := [_, _]) Tryz.results55 ⟨rfl, rfl, trivial⟩ ?_
  have hY : Sp.l12Keep store list = some xso := by unfold Sp.l12Keep; exact Sp.foldB_all hf (by omega)
  exact H.retO (k := 0) rfl (by rw [hY]; exact ⟨_, rfl, AccOf.mk (by first | rfl | assumption | (simp; done) | (simp; omega) | omega) hchk2_0⟩) (acc_nd _ _ _ _ _)
end Go.Proofs.Tst

namespace Go.Proofs.Tst
open Go Fw
theorem l4Ids_c (w0 : World) (G0 : PH) (hG : PSub G0 w0) (vlist : Value) (list : List (BHeld)) (hlist : RdH G0 vlist list) (vids : Value) (ids : List (Int)) (hids : RdI G0 vids ids)  :
  Calls Tryz.prog 141 #[vlist, vids] w0 (Rets w0 (.bool (Sp.l4Ids list ids))) := by
 obtain ⟨alist, klist, rfl⟩ := hlist.shape
 have hlimlist : list.length ≤ 1099511627776 := hlist.lim
 obtain ⟨aids, kids, rfl⟩ := hids.shape
 have hlimids : ids.length ≤ 1099511627776 := hids.lim
 have H := Hp.init hG
 refine calls_of_W (l := [.slice alist list.length klist, .slice aids ids.length kids]) Tryz.func141 rfl Tryz.ntmps141 rfl ?_
 refine q2 ?_
 refine o_assign rfl rfl ?_
 refine q3 ?_
 refine W_seq ?_
 refine q2 ?_
 refine o_assign rfl rfl ?_
 refine q3 ?_
 refine W_block ?_
 refine W_loop (hf := (Sub.cons (t := 0) rfl (Sub.cons (t := 1) rfl Sub.nil))) (J := fun M w m => ∃ (k : Nat) (G : PH), M = [(5, .int .i64 (k : Int))] ∧ PLe G0 G ∧ Hp w0 G0 [] w G [] ∧ (k ≤ ids.length ∧ ∀ j, j < k → Sp.idsOk list ids j = true) ∧ m = (ids.length - k)) (h0 := ⟨0, _, rfl, PLe.refl _, H, ?inv, rfl⟩) (hM := ?hM) (round := ?round)
 case hM => (repeat (first | exact Sub.nil | refine Sub.cons rfl ?_))
 case inv => exact ⟨by omega, fun j hj => by omega⟩
 case round =>
  rintro _ w1 _ ⟨k, G1, rfl, hle1, H, hinv1, rfl⟩
  have hlist := hlist.up hle1
  have hids := hids.up hle1
  obtain ⟨hk, hall⟩ := hinv1
  refine W_seq ?_
  refine q2 ?_
  refine o_move rfl rfl ?_
  refine o_move rfl rfl ?_
  refine o_len_slice Tryz.underlying27 rfl rfl ?_
  refine o_lss rfl rfl rfl ?_
  refine q3 ?_
  refine W_cond rfl ?_ ?_
  ·intro hc2
   try simp only [nrm] at hc2
   refine W_skip ?_
   refine N_K ?_
   refine W_seq ?_
   refine W_block ?_
   refine q2 ?_
   refine o_move rfl rfl ?_
   refine o_move rfl rfl ?_
   refine o_move rfl rfl ?_
   refine o_index_P _ hids Tryz.underlying27 Tryz.sizeOf3 rfl rfl rfl rfl (by omega) ?_; intro b3 o3 z3 q3 hz3 hE3 hrow3
   obtain ⟨rfl, hi3⟩ := hE3
   refine o_load_P H Tryz.isAgg3 rfl rfl (hrow3 0 _ rfl) ?_
   refine o_call Tryz.call151 rfl rfl (l3At_c _ _ H.sub _ _ hlist _ ) ?_
   rintro _ w4 ⟨rfl, ew4⟩; have H := H.step ew4; refine ⟨_, rfl, ?_⟩
   refine o_assign rfl rfl ?_
   refine q1 ?_
   refine o_move rfl rfl ?_
   refine o_lss rfl rfl rfl ?_
   refine o_move rfl rfl ?_
   refine R_case (t := 21) rfl ?_ ?_
   ·intro hc5
    try simp only [nrm] at hc5
    refine R_pass rfl (yl_ne rfl rfl rfl) ?_
    refine R_pass rfl (yl_ne rfl rfl rfl) ?_
    refine R_pass rfl (yl_ne rfl rfl rfl) ?_
    refine R_pass rfl (yl_ne rfl rfl rfl) ?_
    refine R_pass rfl (yl_ne rfl rfl rfl) ?_
    refine R_pass rfl (yl_ne rfl rfl rfl) ?_
    refine R_pass rfl (yl_un rfl rfl) ?_
    refine R_pass rfl (yl_un rfl rfl) ?_
    refine R_pass rfl (yl_un rfl rfl) ?_
    refine R_pass rfl (yl_un rfl rfl) ?_
    refine R_pass rfl (yl_un rfl rfl) ?_
    refine R_pass rfl (yl_un rfl rfl) ?_
    refine R_pass rfl (yl_un rfl rfl) ?_
    refine R_pass rfl (yl_ne rfl rfl rfl) ?_
    refine o_pick_t rfl rfl rfl ?_
    refine q3 ?_
    refine W_true rfl ?_
    refine q2 ?_
    refine o_assign rfl rfl ?_
    refine q3 ?_
    refine W_ret ?_
    refine N_B_ret ?_
    refine N_K_ret ?_
    refine N_LP_ret ?_
    refine N_B_ret ?_
    refine N_K_ret ?_
    refine ret_gen (rs := [.tmp 4]) (vs := [_]) Tryz.results141 ⟨rfl, trivial⟩ ?_
    exact H.rets (congrArg Value.bool (by rw [Sp.l4Ids, Sp.not_all_range (k := k) (by omega) (by simp [Sp.idsOk, hz3, Sp.atH, Sp.at_none hc5])]; rfl))
   intro hc5'
   try simp only [nrm] at hc5'
   obtain ⟨i, x, hi1, hi2, hi3, hi4, hi5⟩ := Sp.at_nat hc5'
   have hl : Sp.atH list z3 = some i := hi1
   refine R_guard (yl rfl rfl) ?_
   refine o_move rfl rfl ?_
   refine R_guard (yl rfl rfl) ?_
   refine o_add rfl rfl rfl ⟨by omega, by omega⟩ ?_
   refine R_guard (yl rfl rfl) ?_
   refine o_move rfl rfl ?_
   refine R_guard (yl rfl rfl) ?_
   refine o_len_slice Tryz.underlying27 rfl rfl ?_
   refine R_guard (yl rfl rfl) ?_
   refine o_lss rfl rfl rfl ?_
   refine R_guard (yl rfl rfl) ?_
   refine o_move rfl rfl ?_
   refine R_case (t := 27) rfl ?_ ?_
   ·intro hc7
    try simp only [nrm] at hc7
    refine R_guard (yl rfl rfl) ?_
    refine o_move rfl rfl ?_
    refine R_guard (yl rfl rfl) ?_
    refine o_move rfl rfl ?_
    refine R_guard (yl rfl rfl) ?_
    refine o_index_P i hlist Tryz.underlying23 Tryz.sizeOf117 rfl rfl rfl hi2 (by omega) ?_; intro b8 o8 z8 q8 hz8 hE8 hrow8
    obtain ⟨a8, m8, c8, rfl, hi8, hr8, hj8⟩ := hE8; have hn_hr8 := hr8.len; have hx_hr8 : _ ≤ 1099511627776 := hr8.lim
    have hzz : x = z8 := Option.some.inj (hi4.symm.trans hz8)
    subst hzz
    refine R_guard (yl rfl rfl) ?_
    refine o_fieldAddr 1 Tryz.runUnderlying117 rfl Tryz.sizeOf27 rfl rfl rfl ?_
    refine R_guard (yl rfl rfl) ?_
    refine o_load_P H Tryz.isAgg27 rfl rfl (hrow8 1 _ rfl) ?_
    refine R_guard (yl rfl rfl) ?_
    refine o_len_slice Tryz.underlying27 rfl rfl ?_
    refine R_guard (yl rfl rfl) ?_
    refine o_lss rfl rfl rfl ?_
    refine R_guard (yl rfl rfl) ?_
    refine o_pick_t rfl rfl rfl ?_
    refine o_pick_f rfl rfl rfl ?_
    refine q3 ?_
    refine W_cond rfl ?_ ?_
    ·intro hc9
     try simp only [nrm] at hc9
     refine q2 ?_
     refine o_assign rfl rfl ?_
     refine q3 ?_
     refine W_ret ?_
     refine N_B_ret ?_
     refine N_K_ret ?_
     refine N_LP_ret ?_
     refine N_B_ret ?_
     refine N_K_ret ?_
     refine ret_gen (rs := [.tmp 4]) (vs := [_]) Tryz.results141 ⟨rfl, trivial⟩ ?_
     exact H.rets (congrArg Value.bool (by rw [Sp.l4Ids, Sp.not_all_range (k := k) (by omega) (by simp [Sp.idsOk, hz3, hl, hi4]; omega)]; rfl))
    intro hc9'
    try simp only [nrm] at hc9'
    refine W_skip ?_
    refine N_B ?_
    refine N_K ?_
    refine W_region ?_
    refine o_move rfl rfl ?_
    refine o_add rfl rfl rfl ⟨by omega, by omega⟩ ?_
    refine o_assign rfl rfl ?_
    refine R_nil ?_
    refine N_LP (hJ := ⟨k + 1, _, rfl, hle1, H, ?inv, rfl⟩) (hM := ?hM) (hf := ?hf) (hm := ?hm)
    case hM => (repeat (first | exact Sub.nil | refine Sub.cons rfl ?_))
    case hf => (repeat (first | exact Sub.nil | refine Sub.cons rfl ?_))
    case hm => omega
    case inv => exact ⟨by omega, Sp.upto_succ hall (by simp [Sp.idsOk, hz3, hl, hi4]; omega)⟩
   intro hc7'
   try simp only [nrm] at hc7'
   refine R_pass rfl (yl_ne rfl rfl rfl) ?_
   refine R_pass rfl (yl_ne rfl rfl rfl) ?_
   refine R_pass rfl (yl_ne rfl rfl rfl) ?_
   refine R_pass rfl (yl_ne rfl rfl rfl) ?_
   refine R_pass rfl (yl_ne rfl rfl rfl) ?_
   refine R_pass rfl (yl_ne rfl rfl rfl) ?_
   refine R_pass rfl (yl_ne rfl rfl rfl) ?_
   refine R_guard (yl rfl rfl) ?_
   refine o_pick_f rfl rfl rfl ?_
   refine o_pick_f rfl rfl rfl ?_
   refine q3 ?_
   refine W_false rfl ?_
   refine W_skip ?_
   refine N_B ?_
   refine N_K ?_
   refine W_region ?_
   refine o_move rfl rfl ?_
   refine o_add rfl rfl rfl ⟨by omega, by omega⟩ ?_
   refine o_assign rfl rfl ?_
   refine R_nil ?_
   refine N_LP (hJ := ⟨k + 1, _, rfl, hle1, H, ?inv, rfl⟩) (hM := ?hM) (hf := ?hf) (hm := ?hm)
   case hM => (repeat (first | exact Sub.nil | refine Sub.cons rfl ?_))
   case hf => (repeat (first | exact Sub.nil | refine Sub.cons rfl ?_))
   case hm => omega
   case inv => exact ⟨by omega, Sp.upto_succ hall (by simp [Sp.idsOk, hz3, hl, hi4]; omega)⟩
  intro hc2'
  try simp only [nrm] at hc2'
  refine W_exit ?_
  refine N_K_exit ?_
  refine N_LP_exit ?_
  refine N_B_same ?_
  refine N_K ?_
  refine q2 ?_
  refine o_move rfl rfl ?_
  refine o_len_slice Tryz.underlying27 rfl rfl ?_
  refine o_leq rfl rfl rfl ?_
  refine o_assign rfl rfl ?_
  refine q3 ?_
  refine W_ret ?_
  refine ret_gen (rs := [.tmp 4]) (vs := [_]) Tryz.results141 ⟨rfl, trivial⟩ ?_
  exact H.rets (congrArg Value.bool (by rw [Sp.l4Ids, Sp.all_range (fun j hj => hall j (by omega)), Bool.true_and]; rw [Bool.eq_iff_iff]; simp; omega))
end Go.Proofs.Tst

namespace Go.Proofs.Tst
open Go Fw
theorem l11Count_c (w0 : World) (G0 : PH) (hG : PSub G0 w0) (vlist : Value) (list : List (BItem)) (hlist : RdItems G0 vlist list) (id : Int) (hT : Sp.TreeValid list = true) :
  Calls Tryz.prog 86 #[vlist, .int .i64 id] w0 (Rets w0 (.int .i64 (Sp.l11Count list id : Int))) := by
 obtain ⟨alist, klist, rfl⟩ := hlist.shape
 have hlimlist : list.length ≤ 1099511627776 := hlist.lim
 have htl := Sp.tree_len hT
 have H := Hp.init hG
 refine calls_of_W (l := [.slice alist list.length klist, .int .i64 id]) Tryz.func86 rfl Tryz.ntmps86 rfl ?_
 refine q2 ?_
 refine o_assign rfl rfl ?_
 refine q1 ?_
 refine o_assign rfl rfl ?_
 refine q3 ?_
 refine W_seq ?_
 refine q2 ?_
 refine o_assign rfl rfl ?_
 refine q3 ?_
 refine W_block ?_
 refine W_loop (hf := (Sub.cons (t := 0) rfl (Sub.cons (t := 1) rfl (Sub.cons (t := 4) rfl Sub.nil)))) (J := fun M w m => ∃ (c k : Nat) (G : PH), M = [(5, .int .i64 (c : Int)), (6, .int .i64 (k : Int))] ∧ PLe G0 G ∧ Hp w0 G0 [] w G [] ∧ (k ≤ list.length ∧ c = Sp.cntU list id k) ∧ m = (list.length - k)) (h0 := ⟨0, 0, _, rfl, PLe.refl _, H, ?inv, rfl⟩) (hM := ?hM) (round := ?round)
 case hM => (repeat (first | exact Sub.nil | refine Sub.cons rfl ?_))
 case inv => exact ⟨by omega, by simp [Sp.cntU]⟩
 case round =>
  rintro _ w1 _ ⟨c, k, G1, rfl, hle1, H, hinv1, rfl⟩
  have hlist := hlist.up hle1
  obtain ⟨hk, hc⟩ := hinv1; have hcu := Sp.cntU_le hT k hk (id := id)
  refine W_seq ?_
  refine q2 ?_
  refine o_move rfl rfl ?_
  refine o_move rfl rfl ?_
  refine o_len_slice Tryz.underlying24 rfl rfl ?_
  refine o_lss rfl rfl rfl ?_
  refine q3 ?_
  refine W_cond rfl ?_ ?_
  ·intro hc2
   try simp only [nrm] at hc2
   refine W_skip ?_
   refine N_K ?_
   refine W_seq ?_
   refine W_block ?_
   refine q2 ?_
   refine o_assign rfl rfl ?_
   refine q3 ?_
   refine W_block ?_
   refine W_loop (hf := (Sub.cons (t := 0) rfl (Sub.cons (t := 1) rfl (Sub.cons (t := 4) rfl (Sub.cons (t := 6) rfl Sub.nil))))) (J := fun M w m => ∃ (c2 j : Nat) (y : BItem) (G : PH), M = [(5, .int .i64 (c2 : Int)), (7, .int .i64 (j : Int))] ∧ PLe G1 G ∧ Hp w0 G0 [] w G [] ∧ (list[k]? = some y ∧ j ≤ y.ids.length ∧ c2 = Sp.cntU list id k + Sp.cnt1 id (y.ids.take j)) ∧ m = (y.ids.length - j)) (h0 := ⟨c, 0, (list[k]'(by omega)), _, rfl, PLe.refl _, H, ?inv, rfl⟩) (hM := ?hM) (round := ?round)
   case hM => (repeat (first | exact Sub.nil | refine Sub.cons rfl ?_))
   case inv => exact ⟨by simp, by omega, by simp [hc, Sp.cnt1]⟩
   case round =>
    rintro _ w3 _ ⟨c2, j, y, G3, rfl, hle3, H, hinv3, rfl⟩
    have hlist := hlist.up hle3
    have hle1 := hle1.trans hle3
    obtain ⟨hy, hj, hc2⟩ := hinv3; have hc4 := (Sp.tree_at hT hy).2; have hc1 := Sp.cnt1_le id (y.ids.take j); have htk : (y.ids.take j).length ≤ j := by simp; omega
    refine W_seq ?_
    refine q2 ?_
    refine o_move rfl rfl ?_
    refine o_move rfl rfl ?_
    refine o_move rfl rfl ?_
    refine o_index_P _ hlist Tryz.underlying24 Tryz.sizeOf39 rfl rfl rfl rfl (by omega) ?_; intro b4 o4 z4 q4 hz4 hE4 hrow4
    obtain ⟨a4, m4, c4, rfl, hi4, hr4⟩ := hE4; have hy_hi4 : _ ≤ 16777216 := hi4; have hn_hr4 := hr4.len; have hx_hr4 : _ ≤ 1099511627776 := hr4.lim
    have hzz4 : y = z4 := Option.some.inj (hy.symm.trans hz4)
    subst hzz4
    refine o_fieldAddr 2 Tryz.runUnderlying39 rfl Tryz.sizeOf27 rfl rfl rfl ?_
    refine o_load_P H Tryz.isAgg27 rfl rfl (hrow4 2 _ rfl) ?_
    refine o_len_slice Tryz.underlying27 rfl rfl ?_
    refine o_lss rfl rfl rfl ?_
    refine q3 ?_
    refine W_cond rfl ?_ ?_
    ·intro hc5
     try simp only [nrm] at hc5
     refine W_skip ?_
     refine N_K ?_
     refine W_seq ?_
     refine W_block ?_
     refine q2 ?_
     refine o_move rfl rfl ?_
     refine o_move rfl rfl ?_
     refine o_index_P _ hlist Tryz.underlying24 Tryz.sizeOf39 rfl rfl rfl rfl (by omega) ?_; intro b6 o6 z6 q6 hz6 hE6 hrow6
     obtain ⟨a6, m6, c6, rfl, hi6, hr6⟩ := hE6; have hy_hi6 : _ ≤ 16777216 := hi6; have hn_hr6 := hr6.len; have hx_hr6 : _ ≤ 1099511627776 := hr6.lim
     have hzz6 : y = z6 := Option.some.inj (hy.symm.trans hz6)
     subst hzz6
     refine o_fieldAddr 2 Tryz.runUnderlying39 rfl Tryz.sizeOf27 rfl rfl rfl ?_
     refine o_load_P H Tryz.isAgg27 rfl rfl (hrow6 2 _ rfl) ?_
     refine o_move rfl rfl ?_
     refine o_index_P _ hr6 Tryz.underlying27 Tryz.sizeOf3 rfl rfl rfl rfl (by omega) ?_; intro b7 o7 z7 q7 hz7 hE7 hrow7
     obtain ⟨rfl, hi7⟩ := hE7
     refine o_load_P H Tryz.isAgg3 rfl rfl (hrow7 0 _ rfl) ?_
     refine o_move rfl rfl ?_
     refine o_eql rfl rfl rfl ?_
     refine q3 ?_
     refine W_cond rfl ?_ ?_
     ·intro hc8
      try simp only [nrm] at hc8
      refine W_region ?_
      refine o_move rfl rfl ?_
      refine o_add rfl rfl rfl ⟨by omega, by omega⟩ ?_
      refine o_assign rfl rfl ?_
      refine R_nil ?_
      refine N_B ?_
      refine N_K ?_
      refine W_region ?_
      refine o_move rfl rfl ?_
      refine o_add rfl rfl rfl ⟨by omega, by omega⟩ ?_
      refine o_assign rfl rfl ?_
      refine R_nil ?_
      refine N_LP (hJ := ⟨c2 + 1, j + 1, y, _, rfl, hle3, H, ?inv, rfl⟩) (hM := ?hM) (hf := ?hf) (hm := ?hm)
      case hM => (repeat (first | exact Sub.nil | refine Sub.cons rfl ?_))
      case hf => (repeat (first | exact Sub.nil | refine Sub.cons rfl ?_))
      case hm => omega
      case inv => exact ⟨hy, by omega, by rw [Sp.cnt1_succ hz7, if_pos (by omega), hc2]; omega⟩
     intro hc8'
     try simp only [nrm] at hc8'
     refine W_skip ?_
     refine N_B ?_
     refine N_K ?_
     refine W_region ?_
     refine o_move rfl rfl ?_
     refine o_add rfl rfl rfl ⟨by omega, by omega⟩ ?_
     refine o_assign rfl rfl ?_
     refine R_nil ?_
     refine N_LP (hJ := ⟨c2, j + 1, y, _, rfl, hle3, H, ?inv, rfl⟩) (hM := ?hM) (hf := ?hf) (hm := ?hm)
     case hM => (repeat (first | exact Sub.nil | refine Sub.cons rfl ?_))
     case hf => (repeat (first | exact Sub.nil | refine Sub.cons rfl ?_))
     case hm => omega
     case inv => exact ⟨hy, by omega, by rw [Sp.cnt1_succ hz7, if_neg (by omega), hc2]; omega⟩
    intro hc5'
    try simp only [nrm] at hc5'
    refine W_exit ?_
    refine N_K_exit ?_
    refine N_LP_exit ?_
    refine N_B_same ?_
    refine N_B ?_
    refine N_K ?_
    refine W_region ?_
    refine o_move rfl rfl ?_
    refine o_add rfl rfl rfl ⟨by omega, by omega⟩ ?_
    refine o_assign rfl rfl ?_
    refine R_nil ?_
    refine N_LP (hJ := ⟨c2, k + 1, _, rfl, hle1, H, ?inv, rfl⟩) (hM := ?hM) (hf := ?hf) (hm := ?hm)
    case hM => (repeat (first | exact Sub.nil | refine Sub.cons rfl ?_))
    case hf => (repeat (first | exact Sub.nil | refine Sub.cons rfl ?_))
    case hm => omega
    case inv => exact ⟨by omega, by rw [hc2, Sp.cntU_succ hy, List.take_of_length_le (by omega)]⟩
  intro hc2'
  try simp only [nrm] at hc2'
  refine W_exit ?_
  refine N_K_exit ?_
  refine N_LP_exit ?_
  refine N_B_same ?_
  refine N_K ?_
  refine q2 ?_
  refine o_move rfl rfl ?_
  refine o_assign rfl rfl ?_
  refine q3 ?_
  refine W_ret ?_
  refine ret_gen (rs := [.tmp 4]) (vs := [_]) Tryz.results86 ⟨rfl, trivial⟩ ?_
  obtain rfl : k = list.length := by omega
  exact H.rets (congrArg (Value.int .i64) (by rw [hc]; rfl))
theorem l11Files_c (w0 : World) (G0 : PH) (hG : PSub G0 w0) (vstore : Value) (store : List (BHeld)) (hstore : RdH G0 vstore store) (vlist : Value) (list : List (BItem)) (hlist : RdItems G0 vlist list)  :
  Calls Tryz.prog 85 #[vstore, vlist] w0 (Rets w0 (.bool (Sp.l11Files store list))) := by
 obtain ⟨astore, kstore, rfl⟩ := hstore.shape
 have hlimstore : store.length ≤ 1099511627776 := hstore.lim
 obtain ⟨alist, klist, rfl⟩ := hlist.shape
 have hlimlist : list.length ≤ 1099511627776 := hlist.lim
 have H := Hp.init hG
 refine calls_of_W (l := [.slice astore store.length kstore, .slice alist list.length klist]) Tryz.func85 rfl Tryz.ntmps85 rfl ?_
 refine q2 ?_
 refine o_assign rfl rfl ?_
 refine q3 ?_
 refine W_seq ?_
 refine q2 ?_
 refine o_assign rfl rfl ?_
 refine q3 ?_
 refine W_block ?_
 refine W_loop (hf := (Sub.cons (t := 0) rfl (Sub.cons (t := 1) rfl Sub.nil))) (J := fun M w m => ∃ (k : Nat) (G : PH), M = [(5, .int .i64 (k : Int))] ∧ PLe G0 G ∧ Hp w0 G0 [] w G [] ∧ (k ≤ list.length ∧ (list.take k).all (Sp.fileOk store) = true) ∧ m = (list.length - k)) (h0 := ⟨0, _, rfl, PLe.refl _, H, ?inv, rfl⟩) (hM := ?hM) (round := ?round)
 case hM => (repeat (first | exact Sub.nil | refine Sub.cons rfl ?_))
 case inv => exact ⟨by omega, by simp⟩
 case round =>
  rintro _ w1 _ ⟨k, G1, rfl, hle1, H, hinv1, rfl⟩
  have hstore := hstore.up hle1
  have hlist := hlist.up hle1
  obtain ⟨hk, hall⟩ := hinv1
  refine W_seq ?_
  refine q2 ?_
  refine o_move rfl rfl ?_
  refine o_move rfl rfl ?_
  refine o_len_slice Tryz.underlying24 rfl rfl ?_
  refine o_lss rfl rfl rfl ?_
  refine q3 ?_
  refine W_cond rfl ?_ ?_
  ·intro hc2
   try simp only [nrm] at hc2
   refine W_skip ?_
   refine N_K ?_
   refine W_seq ?_
   refine W_block ?_
   refine q2 ?_
   refine o_move rfl rfl ?_
   refine o_move rfl rfl ?_
   refine o_move rfl rfl ?_
   refine o_index_P _ hlist Tryz.underlying24 Tryz.sizeOf39 rfl rfl rfl rfl (by omega) ?_; intro b3 o3 z3 q3 hz3 hE3 hrow3
   obtain ⟨a3, m3, c3, rfl, hi3, hr3⟩ := hE3; have hy_hi3 : _ ≤ 16777216 := hi3; have hn_hr3 := hr3.len; have hx_hr3 : _ ≤ 1099511627776 := hr3.lim
   refine o_fieldAddr 2 Tryz.runUnderlying39 rfl Tryz.sizeOf27 rfl rfl rfl ?_
   refine o_load_P H Tryz.isAgg27 rfl rfl (hrow3 2 _ rfl) ?_
   refine o_call Tryz.call141 rfl rfl (l4Ids_c _ _ H.sub _ _ hstore _ _ hr3 ) ?_
   rintro _ w4 ⟨rfl, ew4⟩; have H := H.step ew4; refine ⟨_, rfl, ?_⟩
   refine o_not rfl rfl ?_
   refine q3 ?_
   refine W_cond rfl ?_ ?_
   ·intro hc5
    try simp only [nrm] at hc5
    refine q2 ?_
    refine o_assign rfl rfl ?_
    refine q3 ?_
    refine W_ret ?_
    refine N_B_ret ?_
    refine N_K_ret ?_
    refine N_LP_ret ?_
    refine N_B_ret ?_
    refine N_K_ret ?_
    refine ret_gen (rs := [.tmp 4]) (vs := [_]) Tryz.results85 ⟨rfl, trivial⟩ ?_
    exact H.rets (congrArg Value.bool (by rw [Sp.l11Files, Sp.all_false hz3 (by simp [Sp.fileOk, *])]))
   intro hc5'
   try simp only [nrm] at hc5'
   refine W_skip ?_
   refine N_B ?_
   refine N_K ?_
   refine W_region ?_
   refine o_move rfl rfl ?_
   refine o_add rfl rfl rfl ⟨by omega, by omega⟩ ?_
   refine o_assign rfl rfl ?_
   refine R_nil ?_
   refine N_LP (hJ := ⟨k + 1, _, rfl, hle1, H, ?inv, rfl⟩) (hM := ?hM) (hf := ?hf) (hm := ?hm)
   case hM => (repeat (first | exact Sub.nil | refine Sub.cons rfl ?_))
   case hf => (repeat (first | exact Sub.nil | refine Sub.cons rfl ?_))
   case hm => omega
   case inv => exact ⟨by omega, Sp.all_take hall hz3 (by simp [Sp.fileOk, *])⟩
  intro hc2'
  try simp only [nrm] at hc2'
  refine W_exit ?_
  refine N_K_exit ?_
  refine N_LP_exit ?_
  refine N_B_same ?_
  refine N_K ?_
  refine q2 ?_
  refine o_assign rfl rfl ?_
  refine q3 ?_
  refine W_ret ?_
  refine ret_gen (rs := [.tmp 4]) (vs := [_]) Tryz.results85 ⟨rfl, trivial⟩ ?_
  obtain rfl : k = list.length := by omega
  rw [List.take_length] at hall
  exact H.rets (congrArg Value.bool (by rw [Sp.l11Files, hall]))
end Go.Proofs.Tst

namespace Go.Proofs.Tst
open Go Fw
theorem l12Count_c (w0 : World) (G0 : PH) (hG : PSub G0 w0) (cd : List Value) (d : BDisk) (hd : diskE G0 d cd) (id : Int) (hT : Sp.TreeValid d.tree = true) (hN : Sp.l12Snaps d = true) :
  Calls Tryz.prog 106 #[.agg cd.toArray, .int .i64 id] w0 (Rets w0 (.int .i64 (Sp.l12Count d id : Int))) := by
 obtain ⟨a1, m1, c1, a1', m1', c1', a1'', m1'', c1'', rfl, hr1, hr1', hr1''⟩ := hd; have hn_hr1 := hr1.len; have hx_hr1 : _ ≤ 1099511627776 := hr1.lim; have hn_hr1q := hr1'.len; have hx_hr1q : _ ≤ 1099511627776 := hr1'.lim; have hn_hr1qq := hr1''.len; have hx_hr1qq : _ ≤ 1099511627776 := hr1''.lim
 obtain ⟨hsl, hst⟩ := Sp.snaps_at hN
 have htc := Sp.l11Count_le hT (id := id)
 have H := Hp.init hG
 refine calls_of_W (l := [_, .int .i64 id]) Tryz.func106 rfl Tryz.ntmps106 rfl ?_
 refine q2 ?_
 refine o_box H rfl rfl rfl ?_; intro b2 w2 hb2 H
 refine o_assign rfl rfl ?_
 refine q1 ?_
 refine o_fieldAddr 1 Tryz.runUnderlying53 rfl Tryz.sizeOf24 rfl rfl rfl ?_
 refine o_load_B 0 H Tryz.isAgg24 rfl rfl rfl rfl ?_
 refine o_move rfl rfl ?_
 refine o_call Tryz.call86 rfl rfl (l11Count_c _ _ H.sub _ _ hr1' _ hT) ?_
 rintro _ w3 ⟨rfl, ew3⟩; have H := H.step ew3; refine ⟨_, rfl, ?_⟩
 refine o_assign rfl rfl ?_
 refine q3 ?_
 refine W_seq ?_
 refine q2 ?_
 refine o_assign rfl rfl ?_
 refine q3 ?_
 refine W_block ?_
 obtain ⟨ln4, hln4, H⟩ := H.name (k := 0) rfl
 refine W_loop (hf := (Sub.cons (t := 1) rfl (Sub.cons (t := 2) rfl (Sub.cons (t := 4) rfl Sub.nil)))) (J := fun M w m => ∃ (c k : Nat) (G : PH), M = [(5, .int .i64 (c : Int)), (6, .int .i64 (k : Int))] ∧ PLe G0 G ∧ Hp w0 G0 [] w G [blk b2 (cl ln4 53)] ∧ (k ≤ d.snaps.length ∧ c = Sp.l11Count d.tree id + Sp.cntS d.snaps id k) ∧ m = (d.snaps.length - k)) (h0 := ⟨(Sp.l11Count d.tree id), 0, _, rfl, PLe.refl _, H, ?inv, rfl⟩) (hM := ?hM) (round := ?round)
 case hM => (repeat (first | exact Sub.nil | refine Sub.cons rfl ?_))
 case inv => exact ⟨by omega, by simp [Sp.cntS]⟩
 case round =>
  rintro _ w5 _ ⟨c, k, G5, rfl, hle5, H, hinv5, rfl⟩
  subst hln4
  have hr1 := hr1.up hle5
  have hr1' := hr1'.up hle5
  have hr1'' := hr1''.up hle5
  obtain ⟨hk, hc⟩ := hinv5; have hcu := Sp.cntS_le hst k hk (id := id)
  refine W_seq ?_
  refine q2 ?_
  refine o_move rfl rfl ?_
  refine o_fieldAddr 2 Tryz.runUnderlying53 rfl Tryz.sizeOf51 rfl rfl rfl ?_
  refine o_load_B 0 H Tryz.isAgg51 rfl rfl rfl rfl ?_
  refine o_len_slice Tryz.underlying51 rfl rfl ?_
  refine o_lss rfl rfl rfl ?_
  refine q3 ?_
  refine W_cond rfl ?_ ?_
  ·intro hc6
   try simp only [nrm] at hc6
   refine W_skip ?_
   refine N_K ?_
   refine W_seq ?_
   refine W_block ?_
   refine W_region ?_
   refine o_move rfl rfl ?_
   refine o_fieldAddr 2 Tryz.runUnderlying53 rfl Tryz.sizeOf51 rfl rfl rfl ?_
   refine o_load_B 0 H Tryz.isAgg51 rfl rfl rfl rfl ?_
   refine o_move rfl rfl ?_
   refine o_index_P k hr1'' Tryz.underlying51 Tryz.sizeOf102 rfl rfl rfl rfl (by omega) ?_; intro b7 o7 z7 q7 hz7 hE7 hrow7
   obtain ⟨a7, m7, c7, rfl, hi7, hr7⟩ := hE7; have hy_hi7 : _ ≤ 16777216 := hi7; have hn_hr7 := hr7.len; have hx_hr7 : _ ≤ 1099511627776 := hr7.lim
   have hlz := Sp.l11Count_le (hst _ (List.mem_of_getElem? hz7)) (id := id)
   refine o_fieldAddr 1 Tryz.runUnderlying102 rfl Tryz.sizeOf24 rfl rfl rfl ?_
   refine o_load_P H Tryz.isAgg24 rfl rfl (hrow7 1 _ rfl) ?_
   refine o_move rfl rfl ?_
   refine o_call Tryz.call86 rfl rfl (l11Count_c _ _ H.sub _ _ hr7 _ (hst _ (List.mem_of_getElem? hz7))) ?_
   rintro _ w8 ⟨rfl, ew8⟩; have H := H.step ew8; refine ⟨_, rfl, ?_⟩
   refine o_add rfl rfl rfl ⟨by omega, by omega⟩ ?_
   refine o_assign rfl rfl ?_
   refine R_nil ?_
   refine N_B ?_
   refine N_K ?_
   refine W_region ?_
   refine o_move rfl rfl ?_
   refine o_add rfl rfl rfl ⟨by omega, by omega⟩ ?_
   refine o_assign rfl rfl ?_
   refine R_nil ?_
   refine N_LP (hJ := ⟨c + Sp.l11Count z7.tree id, k + 1, _, rfl, hle5, H, ?inv, rfl⟩) (hM := ?hM) (hf := ?hf) (hm := ?hm)
   case hM => (repeat (first | exact Sub.nil | refine Sub.cons rfl ?_))
   case hf => (repeat (first | exact Sub.nil | refine Sub.cons rfl ?_))
   case hm => omega
   case inv => exact ⟨by omega, by rw [hc, Sp.cntS_succ hz7]; omega⟩
  intro hc6'
  try simp only [nrm] at hc6'
  refine W_exit ?_
  refine N_K_exit ?_
  refine N_LP_exit ?_
  refine N_B_same ?_
  refine N_K ?_
  refine q2 ?_
  refine o_move rfl rfl ?_
  refine o_assign rfl rfl ?_
  refine q3 ?_
  refine W_ret ?_
  refine ret_gen (rs := [.tmp 4]) (vs := [_]) Tryz.results106 ⟨rfl, trivial⟩ ?_
  obtain rfl : k = d.snaps.length := by omega
  exact H.rets (congrArg (Value.int .i64) (by rw [hc]; rfl))
end Go.Proofs.Tst

namespace Go.Proofs.Tst
open Go Fw
theorem l12Snaps_c (w0 : World) (G0 : PH) (hG : PSub G0 w0) (cd : List Value) (d : BDisk) (hd : diskE G0 d cd)  :
  Calls Tryz.prog 105 #[.agg cd.toArray] w0 (Rets w0 (.bool (Sp.l12Snaps d))) := by
 obtain ⟨a1, m1, c1, a1', m1', c1', a1'', m1'', c1'', rfl, hr1, hr1', hr1''⟩ := hd; have hn_hr1 := hr1.len; have hx_hr1 : _ ≤ 1099511627776 := hr1.lim; have hn_hr1q := hr1'.len; have hx_hr1q : _ ≤ 1099511627776 := hr1'.lim; have hn_hr1qq := hr1''.len; have hx_hr1qq : _ ≤ 1099511627776 := hr1''.lim
 have H := Hp.init hG
 refine calls_of_W (l := [_]) Tryz.func105 rfl Tryz.ntmps105 rfl ?_
 refine q2 ?_
 refine o_box H rfl rfl rfl ?_; intro b2 w2 hb2 H
 refine o_assign rfl rfl ?_
 refine q3 ?_
 refine W_seq ?_
 refine q2 ?_
 refine o_assign rfl rfl ?_
 refine q3 ?_
 refine W_block ?_
 obtain ⟨ln3, hln3, H⟩ := H.name (k := 0) rfl
 refine W_loop (hf := (Sub.cons (t := 1) rfl Sub.nil)) (J := fun M w m => ∃ (k : Nat) (G : PH), M = [(3, .int .i64 (k : Int))] ∧ PLe G0 G ∧ Hp w0 G0 [] w G [blk b2 (cl ln3 53)] ∧ (k ≤ d.snaps.length ∧ ∀ j, j < k → Sp.okS d j = true) ∧ m = (d.snaps.length - k)) (h0 := ⟨0, _, rfl, PLe.refl _, H, ?inv, rfl⟩) (hM := ?hM) (round := ?round)
 case hM => (repeat (first | exact Sub.nil | refine Sub.cons rfl ?_))
 case inv => exact ⟨by omega, fun j hj => by omega⟩
 case round =>
  rintro _ w4 _ ⟨k, G4, rfl, hle4, H, hinv4, rfl⟩
  subst hln3
  have hr1 := hr1.up hle4
  have hr1' := hr1'.up hle4
  have hr1'' := hr1''.up hle4
  obtain ⟨hk, hall⟩ := hinv4
  refine W_seq ?_
  refine q2 ?_
  refine o_move rfl rfl ?_
  refine o_fieldAddr 2 Tryz.runUnderlying53 rfl Tryz.sizeOf51 rfl rfl rfl ?_
  refine o_load_B 0 H Tryz.isAgg51 rfl rfl rfl rfl ?_
  refine o_len_slice Tryz.underlying51 rfl rfl ?_
  refine o_lss rfl rfl rfl ?_
  refine q3 ?_
  refine W_cond rfl ?_ ?_
  ·intro hc5
   try simp only [nrm] at hc5
   refine W_skip ?_
   refine N_K ?_
   refine W_seq ?_
   refine W_block ?_
   refine q2 ?_
   refine o_fieldAddr 2 Tryz.runUnderlying53 rfl Tryz.sizeOf51 rfl rfl rfl ?_
   refine o_load_B 0 H Tryz.isAgg51 rfl rfl rfl rfl ?_
   refine o_move rfl rfl ?_
   refine o_index_P k hr1'' Tryz.underlying51 Tryz.sizeOf102 rfl rfl rfl rfl (by omega) ?_; intro b6 o6 z6 q6 hz6 hE6 hrow6
   obtain ⟨a6, m6, c6, rfl, hi6, hr6⟩ := hE6; have hy_hi6 : _ ≤ 16777216 := hi6; have hn_hr6 := hr6.len; have hx_hr6 : _ ≤ 1099511627776 := hr6.lim
   refine o_loadagg_P H Tryz.isAgg102 Tryz.sizeOf102 rfl rfl hrow6 rfl ?_
   refine o_alloc H Tryz.zeroValue102 rfl rfl ?_; intro b7 w7 hb7 H
   refine o_store_B 0 H Tryz.sizeOf102 rfl rfl rfl rfl rfl rfl rfl rfl ?_; intro w8 H
   refine q1 ?_
   refine o_fieldAddr 0 Tryz.runUnderlying102 rfl Tryz.sizeOf9 rfl rfl rfl ?_
   refine o_load_B 0 H Tryz.isAgg9 rfl rfl rfl rfl ?_
   refine o_call Tryz.call53 rfl rfl (l1Word_c _ _ hi6 ) ?_
   rintro _ w9 ⟨rfl, ew9⟩; have H := H.step ew9; refine ⟨_, rfl, ?_⟩
   refine o_not rfl rfl ?_
   refine o_move rfl rfl ?_
   refine R_case (t := 21) rfl ?_ ?_
   ·intro hc10
    try simp only [nrm] at hc10
    refine R_pass rfl (yl_ne rfl rfl rfl) ?_
    refine R_pass rfl (yl_ne rfl rfl rfl) ?_
    refine R_pass rfl (yl_ne rfl rfl rfl) ?_
    refine R_pass rfl (yl_ne rfl rfl rfl) ?_
    refine R_pass rfl (yl_ne rfl rfl rfl) ?_
    refine R_pass rfl (yl_ne rfl rfl rfl) ?_
    refine R_pass rfl (yl_ne rfl rfl rfl) ?_
    refine o_pick_t rfl rfl rfl ?_
    refine o_move rfl rfl ?_
    refine R_pass rfl (yl_ne rfl rfl rfl) ?_
    refine R_pass rfl (yl_ne rfl rfl rfl) ?_
    refine R_pass rfl (yl_ne rfl rfl rfl) ?_
    refine R_pass rfl (yl_ne rfl rfl rfl) ?_
    refine o_pick_t rfl rfl rfl ?_
    refine o_move rfl rfl ?_
    refine R_pass rfl (yl_ne rfl rfl rfl) ?_
    refine R_pass rfl (yl_ne rfl rfl rfl) ?_
    refine R_pass rfl (yl_ne rfl rfl rfl) ?_
    refine R_pass rfl (yl_ne rfl rfl rfl) ?_
    refine R_pass rfl (yl_ne rfl rfl rfl) ?_
    refine R_pass rfl (yl_ne rfl rfl rfl) ?_
    refine o_pick_t rfl rfl rfl ?_
    refine q3 ?_
    refine W_true rfl ?_
    refine q2 ?_
    refine o_assign rfl rfl ?_
    refine q3 ?_
    refine W_ret ?_
    refine N_B_ret ?_
    refine N_K_ret ?_
    refine N_LP_ret ?_
    refine N_B_ret ?_
    refine N_K_ret ?_
    refine ret_gen (rs := [.tmp 2]) (vs := [_]) Tryz.results105 ⟨rfl, trivial⟩ ?_
    exact H.rets (congrArg Value.bool (by rw [Sp.l12Snaps, Sp.not_all_range (k := k) (by omega) (by rw [Sp.okS_at hz6]; simp [*] <;> (intros; omega))]; rfl))
   intro hc10'
   try simp only [nrm] at hc10'
   refine R_guard (yl rfl rfl) ?_
   refine o_fieldAddr 2 Tryz.runUnderlying53 rfl Tryz.sizeOf51 rfl rfl rfl ?_
   refine R_guard (yl rfl rfl) ?_
   refine o_load_B 1 H Tryz.isAgg51 rfl rfl rfl rfl ?_
   refine R_guard (yl rfl rfl) ?_
   refine o_fieldAddr 0 Tryz.runUnderlying102 rfl Tryz.sizeOf9 rfl rfl rfl ?_
   refine R_guard (yl rfl rfl) ?_
   refine o_load_B 0 H Tryz.isAgg9 rfl rfl rfl rfl ?_
   refine R_guard (yl rfl rfl) ?_
   refine o_call Tryz.call54 rfl rfl (l12At_c _ _ H.sub _ _ hr1'' _ hi6 ) ?_
   rintro _ w11 ⟨rfl, ew11⟩; have H := H.step ew11; refine ⟨_, rfl, ?_⟩
   refine R_guard (yl rfl rfl) ?_
   refine o_move rfl rfl ?_
   refine R_guard (yl rfl rfl) ?_
   refine o_lss rfl rfl rfl ?_
   refine o_pick_f rfl rfl rfl ?_
   refine o_move rfl rfl ?_
   refine R_case (t := 30) rfl ?_ ?_
   ·intro hc12
    try simp only [nrm] at hc12
    refine R_pass rfl (yl_ne rfl rfl rfl) ?_
    refine R_pass rfl (yl_ne rfl rfl rfl) ?_
    refine R_pass rfl (yl_ne rfl rfl rfl) ?_
    refine R_pass rfl (yl_ne rfl rfl rfl) ?_
    refine o_pick_t rfl rfl rfl ?_
    refine o_move rfl rfl ?_
    refine R_pass rfl (yl_ne rfl rfl rfl) ?_
    refine R_pass rfl (yl_ne rfl rfl rfl) ?_
    refine R_pass rfl (yl_ne rfl rfl rfl) ?_
    refine R_pass rfl (yl_ne rfl rfl rfl) ?_
    refine R_pass rfl (yl_ne rfl rfl rfl) ?_
    refine R_pass rfl (yl_ne rfl rfl rfl) ?_
    refine o_pick_t rfl rfl rfl ?_
    refine q3 ?_
    refine W_true rfl ?_
    refine q2 ?_
    refine o_assign rfl rfl ?_
    refine q3 ?_
    refine W_ret ?_
    refine N_B_ret ?_
    refine N_K_ret ?_
    refine N_LP_ret ?_
    refine N_B_ret ?_
    refine N_K_ret ?_
    refine ret_gen (rs := [.tmp 2]) (vs := [_]) Tryz.results105 ⟨rfl, trivial⟩ ?_
    exact H.rets (congrArg Value.bool (by rw [Sp.l12Snaps, Sp.not_all_range (k := k) (by omega) (by rw [Sp.okS_at hz6]; simp [*] <;> (intros; omega))]; rfl))
   intro hc12'
   try simp only [nrm] at hc12'
   refine R_guard (yl rfl rfl) ?_
   refine o_fieldAddr 1 Tryz.runUnderlying102 rfl Tryz.sizeOf24 rfl rfl rfl ?_
   refine R_guard (yl rfl rfl) ?_
   refine o_load_B 0 H Tryz.isAgg24 rfl rfl rfl rfl ?_
   refine R_guard (yl rfl rfl) ?_
   refine o_call Tryz.call84 rfl rfl (TreeValid_c _ _ H.sub _ _ hr6 ) ?_
   rintro _ w13 ⟨rfl, ew13⟩; have H := H.step ew13; refine ⟨_, rfl, ?_⟩
   refine R_guard (yl rfl rfl) ?_
   refine o_not rfl rfl ?_
   refine o_pick_f rfl rfl rfl ?_
   refine o_move rfl rfl ?_
   refine R_case (t := 36) rfl ?_ ?_
   ·intro hc14
    try simp only [nrm] at hc14
    refine R_pass rfl (yl_ne rfl rfl rfl) ?_
    refine R_pass rfl (yl_ne rfl rfl rfl) ?_
    refine R_pass rfl (yl_ne rfl rfl rfl) ?_
    refine R_pass rfl (yl_ne rfl rfl rfl) ?_
    refine R_pass rfl (yl_ne rfl rfl rfl) ?_
    refine R_pass rfl (yl_ne rfl rfl rfl) ?_
    refine o_pick_t rfl rfl rfl ?_
    refine q3 ?_
    refine W_true rfl ?_
    refine q2 ?_
    refine o_assign rfl rfl ?_
    refine q3 ?_
    refine W_ret ?_
    refine N_B_ret ?_
    refine N_K_ret ?_
    refine N_LP_ret ?_
    refine N_B_ret ?_
    refine N_K_ret ?_
    refine ret_gen (rs := [.tmp 2]) (vs := [_]) Tryz.results105 ⟨rfl, trivial⟩ ?_
    exact H.rets (congrArg Value.bool (by rw [Sp.l12Snaps, Sp.not_all_range (k := k) (by omega) (by rw [Sp.okS_at hz6]; simp [*] <;> (intros; omega))]; rfl))
   intro hc14'
   try simp only [nrm] at hc14'
   refine R_guard (yl rfl rfl) ?_
   refine o_fieldAddr 0 Tryz.runUnderlying53 rfl Tryz.sizeOf23 rfl rfl rfl ?_
   refine R_guard (yl rfl rfl) ?_
   refine o_load_B 1 H Tryz.isAgg23 rfl rfl rfl rfl ?_
   refine R_guard (yl rfl rfl) ?_
   refine o_fieldAddr 1 Tryz.runUnderlying102 rfl Tryz.sizeOf24 rfl rfl rfl ?_
   refine R_guard (yl rfl rfl) ?_
   refine o_load_B 0 H Tryz.isAgg24 rfl rfl rfl rfl ?_
   refine R_guard (yl rfl rfl) ?_
   refine o_call Tryz.call85 rfl rfl (l11Files_c _ _ H.sub _ _ hr1 _ _ hr6 ) ?_
   rintro _ w15 ⟨rfl, ew15⟩; have H := H.step ew15; refine ⟨_, rfl, ?_⟩
   refine R_guard (yl rfl rfl) ?_
   refine o_not rfl rfl ?_
   refine o_pick_f rfl rfl rfl ?_
   refine q3 ?_
   refine W_cond rfl ?_ ?_
   ·intro hc16
    try simp only [nrm] at hc16
    refine q2 ?_
    refine o_assign rfl rfl ?_
    refine q3 ?_
    refine W_ret ?_
    refine N_B_ret ?_
    refine N_K_ret ?_
    refine N_LP_ret ?_
    refine N_B_ret ?_
    refine N_K_ret ?_
    refine ret_gen (rs := [.tmp 2]) (vs := [_]) Tryz.results105 ⟨rfl, trivial⟩ ?_
    exact H.rets (congrArg Value.bool (by rw [Sp.l12Snaps, Sp.not_all_range (k := k) (by omega) (by rw [Sp.okS_at hz6]; simp [*] <;> (intros; omega))]; rfl))
   intro hc16'
   try simp only [nrm] at hc16'
   refine W_skip ?_
   refine N_B ?_
   refine N_K ?_
   refine W_region ?_
   refine o_move rfl rfl ?_
   refine o_add rfl rfl rfl ⟨by omega, by omega⟩ ?_
   refine o_assign rfl rfl ?_
   refine R_nil ?_
   have H := H.del (k := 0) rfl
   refine N_LP (hJ := ⟨k + 1, _, rfl, hle4, H, ?inv, rfl⟩) (hM := ?hM) (hf := ?hf) (hm := ?hm)
   case hM => (repeat (first | exact Sub.nil | refine Sub.cons rfl ?_))
   case hf => (repeat (first | exact Sub.nil | refine Sub.cons rfl ?_))
   case hm => omega
   case inv => exact ⟨by omega, Sp.upto_succ hall (by rw [Sp.okS_at hz6]; simp [*])⟩
  intro hc5'
  try simp only [nrm] at hc5'
  refine W_exit ?_
  refine N_K_exit ?_
  refine N_LP_exit ?_
  refine N_B_same ?_
  refine N_K ?_
  refine q2 ?_
  refine o_fieldAddr 2 Tryz.runUnderlying53 rfl Tryz.sizeOf51 rfl rfl rfl ?_
  refine o_load_B 0 H Tryz.isAgg51 rfl rfl rfl rfl ?_
  refine o_len_slice Tryz.underlying51 rfl rfl ?_
  refine o_leq rfl rfl rfl ?_
  refine o_assign rfl rfl ?_
  refine q3 ?_
  refine W_ret ?_
  refine ret_gen (rs := [.tmp 2]) (vs := [_]) Tryz.results105 ⟨rfl, trivial⟩ ?_
  exact H.rets (congrArg Value.bool (by rw [Sp.l12Snaps, Sp.all_range (fun j hj => hall j (by omega)), Bool.true_and]; rw [Bool.eq_iff_iff]; simp; omega))
end Go.Proofs.Tst

