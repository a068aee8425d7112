/- Part 3 of the proof: the program logic and plain functions. Conditions: none. -/
import Derived.Test.YtndbaapcenjhdaaGreatDoorProg
import Derived.Test.YtndbaapcenjhdaaGreatDoorG00
import Derived.Test.YtndbaapcenjhdaaGreatDoorG02
import Derived.Shelf.SlGeneric
import Derived.Shelf.Strings.Search1
import Derived.Shelf.Strings.Search2
import Derived.Shelf.Strings.Count
import Derived.Shelf.SlIterI.Nil
import Derived.Shelf.SortM.Plain
import Derived.Shelf.SortM.SortNone
import Derived.Ground.GgzProg
import Derived.Ground.SlgmProg
import Derived.Test.YtndbaapcenjhdaaGreatDoorG01
set_option linter.all false
set_option maxRecDepth 100000
set_option maxHeartbeats 1000000
namespace Go.Proofs.Tst
open Go Fw
theorem l5Put_c (w0 : World) (G0 : PH) (hG : PSub G0 w0) (vlist : Value) (list : List (BItem)) (hlist : RdItems G0 vlist list) (cx : List Value) (x : BItem) (hx : itemE G0 x cx) (hS : list.length ≤ 1000000) :
  Calls Tryz.prog 101 #[vlist, .agg cx.toArray] w0 (RetO w0 G0 (AccOf itemE 3 39 (Sp.l5Put list x))) := by
 obtain ⟨alist, klist, rfl⟩ := hlist.shape
 have hlimlist : list.length ≤ 1099511627776 := hlist.lim
 obtain ⟨a1, m1, c1, rfl, hi1, hr1⟩ := hx; have hy_hi1 : _ ≤ 16777216 := hi1; have hn_hr1 := hr1.len; have hx_hr1 : _ ≤ 1099511627776 := hr1.lim
 have H := Hp.init hG
 refine calls_of_W (l := [.slice alist list.length klist, _]) Tryz.func101 rfl Tryz.ntmps101 rfl ?_
 refine q2 ?_
 refine o_box H rfl rfl rfl ?_; intro b2 w2 hb2 H
 refine o_assign rfl rfl ?_
 refine q1 ?_
 refine o_buildSlice H Tryz.underlying24 Tryz.sizeOf39 (fun w => ⟨_, Tryz.zeroValue39 w, rfl⟩) rfl rfl rfl rfl rfl rfl rfl ?_; intro b3 w3 hb3 H
 have H := H.blkAcc 3 (k := 0) (n := 0) rfl rfl (by decide)
 refine o_assign rfl rfl ?_
 refine q1 ?_
 refine o_assign rfl rfl ?_
 refine q3 ?_
 refine W_seq ?_
 refine q2 ?_
 refine o_assign rfl rfl ?_
 refine q3 ?_
 refine W_block ?_
 obtain ⟨ln4, hln4, H⟩ := H.name (k := 1) rfl
 refine W_loop (hf := (Sub.cons (t := 0) rfl (Sub.cons (t := 3) rfl (Sub.cons (t := 4) rfl Sub.nil)))) (J := fun M w m => ∃ (v : Value) (n : Nat) (cs : List Value) (xs : List (BItem)) (d : Bool) (k : Nat) (G : PH), M = [(6, .bool d), (7, .int .i64 (k : Int)), (5, v)] ∧ PLe G0 G ∧ Hp w0 G0 [] w G [acc 39 3 v n cs, blk b2 (cl ln4 39)] ∧ (Chk itemE 3 G cs xs ∧ n = xs.length ∧ k ≤ list.length ∧ xs.length ≤ k + 1 ∧ (d = false → xs.length ≤ k) ∧ xs ++ Sp.putGo x d (list.drop k) = Sp.l5Put list x) ∧ m = (list.length - k)) (h0 := ⟨_, _, _, [], false, 0, _, rfl, PLe.refl _, H, ?inv, rfl⟩) (hM := ?hM) (round := ?round)
 case hM => (repeat (first | exact Sub.nil | refine Sub.cons rfl ?_))
 case inv => exact ⟨(Chk.nil (E := itemE) (sz := 3) (G := G0)),  by first | rfl | simp | (simp; omega) | omega, (by simp [Sp.l5Put])⟩
 case round =>
  rintro _ w5 _ ⟨v, n, cs, xs, d, k, G5, rfl, hle5, H, hinv5, rfl⟩
  subst hln4
  have hlist := hlist.up hle5
  have hr1 := hr1.up hle5
  obtain ⟨hchk5_0, hn5_0, hinv5⟩ := hinv5
  obtain ⟨av5_0, cv5_0, rfl⟩ := H.accShape (k := 0) rfl
  obtain ⟨hk, hxl, hxd, hp⟩ := hinv5
  refine W_seq ?_
  refine q2 ?_
  refine o_move rfl rfl ?_
  refine o_move rfl rfl ?_
  refine o_len_slice Tryz.underlying24 rfl rfl ?_
  refine o_lss rfl rfl rfl ?_
  refine q3 ?_
  refine W_cond rfl ?_ ?_
  ·intro hc6
   try simp only [nrm] at hc6
   refine W_skip ?_
   refine N_K ?_
   refine W_seq ?_
   refine W_block ?_
   refine W_seq ?_
   refine W_seq ?_
   refine W_drawK [1] 12 H (by kernel_rfl) rfl ?_; intro w7 H; have hd7 := PLe.refl G5
   refine RD_t 0 rfl (by kernel_rfl) rfl (fun _ hK => v_move rfl) ?_
   refine RD_t 1 rfl (by kernel_rfl) rfl (fun _ hK => v_not rfl) ?_
   refine RD_t 2 rfl (by kernel_rfl) rfl (fun _ hK => v_move rfl) ?_
   refine RD_case (t := 17) rfl ?_ ?_
   ·intro hc8
    try simp only [nrm] at hc8
    refine RD_tg 3 rfl (by kernel_rfl) rfl (yl rfl rfl) (fun _ hK => v_move rfl) ?_
    refine RD_tg 4 rfl (by kernel_rfl) rfl (yl rfl rfl) (fun _ hK => v_move rfl) ?_
    have hl9 := hlist.len
    obtain ⟨b9, o9, z9, q9, ha9, hz9, hq9, hE9, hrow9, _⟩ := hlist.at (i := k) (by omega)
    clear hq9
    obtain ⟨a9, m9, c9, rfl, hi9, hr9⟩ := hE9; have hy_hi9 : _ ≤ 16777216 := hi9; have hn_hr9 := hr9.len; have hx_hr9 : _ ≤ 1099511627776 := hr9.lim
    refine RD_tg 5 rfl (by kernel_rfl) rfl (yl rfl rfl) (fun _ hK => v_index_P (i := k) ha9 Tryz.underlying24 Tryz.sizeOf39 rfl rfl rfl (by omega)) ?_
    refine RD_tg 6 rfl (by kernel_rfl) rfl (yl rfl rfl) (fun _ hK => v_fieldAddr 0 Tryz.runUnderlying39 rfl Tryz.sizeOf9 rfl rfl) ?_
    refine RD_tg 7 rfl (by kernel_rfl) rfl (yl rfl rfl) (fun _ hK => v_load_P hK Tryz.isAgg9 rfl (hrow9 0 _ rfl)) ?_
    refine RD_tg 8 rfl (by kernel_rfl) rfl (yl rfl rfl) (fun _ hK => v_fieldAddr 0 Tryz.runUnderlying39 rfl Tryz.sizeOf9 rfl rfl) ?_
    refine RD_tg 9 rfl (by kernel_rfl) rfl (yl rfl rfl) (fun _ hK => v_load_B 0 hK Tryz.isAgg9 rfl rfl rfl) ?_
    refine RD_tg 10 rfl (by kernel_rfl) rfl (yl rfl rfl) (fun _ hK => v_sgeq rfl rfl) ?_
    refine RD_t 11 rfl (by kernel_rfl) rfl (fun _ hK => v_pick_t rfl rfl) ?_
    refine RD_done (by kernel_rfl) ?_
    refine N_K ?_
    refine W_cond rfl ?_ ?_
    ·intro hc10
     try simp only [nrm] at hc10
     refine q2 ?_
     refine o_move rfl rfl ?_
     refine o_loadagg_B 1 H Tryz.isAgg39 Tryz.sizeOf39 rfl rfl rfl rfl rfl ?_
     refine o_call Tryz.call108 rfl rfl (l5Copy_c _ _ H.sub _ _ ⟨_, _, _, rfl, hi1, hr1⟩ ) ?_
     rintro _ w11 ⟨G11, _, g11, rfl, u11_0, rfl, hr11_0⟩
     have H := H.grow g11
     have hlist := hlist.up g11.le
     have hr1 := hr1.up g11.le
     have hchk5_0 := hchk5_0.up g11.le
     have hr9 := hr9.up g11.le
     have hrow9 := hrow9.up g11.le
     have hle5 := hle5.trans g11.le
     obtain ⟨a12, m12, c12, rfl, hi12, hr12⟩ := hr11_0; have hy_hi12 : _ ≤ 16777216 := hi12; have hn_hr12 := hr12.len; have hx_hr12 : _ ≤ 1099511627776 := hr12.lim
     refine ⟨_, rfl, ?_⟩
     refine o_buildSlice H Tryz.underlying24 Tryz.sizeOf39 (fun w => ⟨_, Tryz.zeroValue39 w, rfl⟩) rfl rfl rfl rfl rfl rfl rfl ?_; intro b13 w13 hb13 H
     refine o_append1 0 H (sz := 3) (bytes := 48) Tryz.underlying24 Tryz.typeInfo39 ⟨_, rfl, rfl⟩ rfl rfl rfl rfl rfl rfl rfl rfl rfl rfl (by omega) rfl ?_; intro v14 w14 H
     have hchk14 := hchk5_0.snoc (show itemE _ x _ from ⟨_, _, _, rfl, hi12, hr12⟩) rfl
     obtain ⟨av14, cv14, rfl⟩ := H.accShape (k := 0) rfl
     refine o_assign rfl rfl ?_
     refine q3 ?_
     refine W_region ?_
     refine o_assign rfl rfl ?_
     refine q3 ?_
     refine W_seq ?_
     refine W_drawK [1] 8 H (by kernel_rfl) rfl ?_; intro w15 H; have hd15 := PLe.refl G11
     refine RD_t 0 rfl (by kernel_rfl) rfl (fun _ hK => v_move rfl) ?_
     refine RD_t 1 rfl (by kernel_rfl) rfl (fun _ hK => v_move rfl) ?_
     have hl16 := hlist.len
     obtain ⟨b16, o16, z16, q16, ha16, hz16, hq16, hE16, hrow16, _⟩ := hlist.at (i := k) (by omega)
     clear hq16
     obtain ⟨a16, m16, c16, rfl, hi16, hr16⟩ := hE16; have hy_hi16 : _ ≤ 16777216 := hi16; have hn_hr16 := hr16.len; have hx_hr16 : _ ≤ 1099511627776 := hr16.lim
     have hzz16 : z9 = z16 := Option.some.inj (hz9.symm.trans hz16)
     subst hzz16
     refine RD_t 2 rfl (by kernel_rfl) rfl (fun _ hK => v_index_P (i := k) ha16 Tryz.underlying24 Tryz.sizeOf39 rfl rfl rfl (by omega)) ?_
     refine RD_t 3 rfl (by kernel_rfl) rfl (fun _ hK => v_fieldAddr 0 Tryz.runUnderlying39 rfl Tryz.sizeOf9 rfl rfl) ?_
     refine RD_t 4 rfl (by kernel_rfl) rfl (fun _ hK => v_load_P hK Tryz.isAgg9 rfl (hrow16 0 _ rfl)) ?_
     refine RD_t 5 rfl (by kernel_rfl) rfl (fun _ hK => v_fieldAddr 0 Tryz.runUnderlying39 rfl Tryz.sizeOf9 rfl rfl) ?_
     refine RD_t 6 rfl (by kernel_rfl) rfl (fun _ hK => v_load_B 0 hK Tryz.isAgg9 rfl rfl rfl) ?_
     refine RD_t 7 rfl (by kernel_rfl) rfl (fun _ hK => v_sneq rfl rfl) ?_
     refine RD_done (by kernel_rfl) ?_
     refine N_K ?_
     refine W_cond rfl ?_ ?_
     ·intro hc17
      try simp only [nrm] at hc17
      refine W_region ?_
      refine o_move rfl rfl ?_
      refine o_move rfl rfl ?_
      refine o_move rfl rfl ?_
      refine o_index_P _ hlist Tryz.underlying24 Tryz.sizeOf39 rfl rfl rfl rfl (by omega) ?_; intro b18 o18 z18 q18 hz18 hE18 hrow18
      obtain ⟨a18, m18, c18, rfl, hi18, hr18⟩ := hE18; have hy_hi18 : _ ≤ 16777216 := hi18; have hn_hr18 := hr18.len; have hx_hr18 : _ ≤ 1099511627776 := hr18.lim
      have hzz18 : z9 = z18 := Option.some.inj (hz9.symm.trans hz18)
      subst hzz18
      refine o_loadagg_P H Tryz.isAgg39 Tryz.sizeOf39 rfl rfl hrow18 rfl ?_
      refine o_call Tryz.call108 rfl rfl (l5Copy_c _ _ H.sub _ _ ⟨_, _, _, rfl, hi18, hr18⟩ ) ?_
      rintro _ w19 ⟨G19, _, g19, rfl, u19_0, rfl, hr19_0⟩
      have H := H.grow g19
      have hlist := hlist.up g19.le
      have hr1 := hr1.up g19.le
      have hchk5_0 := hchk5_0.up g19.le
      have hr9 := hr9.up g19.le
      have hrow9 := hrow9.up g19.le
      have hr12 := hr12.up g19.le
      have hchk14 := hchk14.up g19.le
      have hr16 := hr16.up g19.le
      have hrow16 := hrow16.up g19.le
      have hr18 := hr18.up g19.le
      have hrow18 := hrow18.up g19.le
      have hle5 := hle5.trans g19.le
      obtain ⟨a20, m20, c20, rfl, hi20, hr20⟩ := hr19_0; have hy_hi20 : _ ≤ 16777216 := hi20; have hn_hr20 := hr20.len; have hx_hr20 : _ ≤ 1099511627776 := hr20.lim
      refine ⟨_, rfl, ?_⟩
      refine o_buildSlice H Tryz.underlying24 Tryz.sizeOf39 (fun w => ⟨_, Tryz.zeroValue39 w, rfl⟩) rfl rfl rfl rfl rfl rfl rfl ?_; intro b21 w21 hb21 H
      refine o_append1 0 H (sz := 3) (bytes := 48) Tryz.underlying24 Tryz.typeInfo39 ⟨_, rfl, rfl⟩ rfl rfl rfl rfl rfl rfl rfl rfl rfl rfl (by omega) rfl ?_; intro v22 w22 H
      have hchk22 := hchk14.snoc (show itemE _ z9 _ from ⟨_, _, _, rfl, hi20, hr20⟩) rfl
      obtain ⟨av22, cv22, rfl⟩ := H.accShape (k := 0) rfl
      refine o_assign rfl rfl ?_
      refine R_nil ?_
      refine N_B ?_
      refine N_K ?_
      refine W_region ?_
      refine o_move rfl rfl ?_
      refine o_add rfl rfl rfl ⟨by omega, by omega⟩ ?_
      refine o_assign rfl rfl ?_
      refine R_nil ?_
      refine N_LP (hJ := ⟨_, _, _, ((xs ++ [x]) ++ [z9]), true, k + 1, _, rfl, hle5, H, ?inv, rfl⟩) (hM := ?hM) (hf := ?hf) (hm := ?hm)
      case hM => (repeat (first | exact Sub.nil | refine Sub.cons rfl ?_))
      case hf => (repeat (first | exact Sub.nil | refine Sub.cons rfl ?_))
      case hm => omega
      case inv => exact ⟨hchk22, (by first | assumption | (simp; omega) | omega), (by exact ⟨by omega, by have := hxd (by assumption); simp; omega, by simp, by rw [Sp.drop_at hz9] at hp; rw [← hp]; (first | rw [Sp.putA (by assumption) (by assumption) (by assumption)] | rw [Sp.putB (by assumption) (by assumption) (by assumption)] | rw [Sp.putC (by assumption) (by assumption)] | rw [Sp.putC' (by assumption) (by assumption)] | rw [Sp.putD (by assumption) (by assumption)] | rw [Sp.putD' (by assumption) (by assumption)]) <;> simp⟩)⟩
     intro hc17'
     try simp only [nrm] at hc17'
     refine W_skip ?_
     refine N_B ?_
     refine N_K ?_
     refine W_region ?_
     refine o_move rfl rfl ?_
     refine o_add rfl rfl rfl ⟨by omega, by omega⟩ ?_
     refine o_assign rfl rfl ?_
     refine R_nil ?_
     refine N_LP (hJ := ⟨_, _, _, (xs ++ [x]), true, k + 1, _, rfl, hle5, H, ?inv, rfl⟩) (hM := ?hM) (hf := ?hf) (hm := ?hm)
     case hM => (repeat (first | exact Sub.nil | refine Sub.cons rfl ?_))
     case hf => (repeat (first | exact Sub.nil | refine Sub.cons rfl ?_))
     case hm => omega
     case inv => exact ⟨hchk14, (by first | assumption | (simp; omega) | omega), (by exact ⟨by omega, by have := hxd (by assumption); simp; omega, by simp, by rw [Sp.drop_at hz9] at hp; rw [← hp]; (first | rw [Sp.putA (by assumption) (by assumption) (by assumption)] | rw [Sp.putB (by assumption) (by assumption) (by assumption)] | rw [Sp.putC (by assumption) (by assumption)] | rw [Sp.putC' (by assumption) (by assumption)] | rw [Sp.putD (by assumption) (by assumption)] | rw [Sp.putD' (by assumption) (by assumption)]) <;> simp⟩)⟩
    intro hc10'
    try simp only [nrm] at hc10'
    refine W_skip ?_
    refine N_K ?_
    refine W_seq ?_
    refine W_drawK [1] 8 H (by kernel_rfl) rfl ?_; intro w25 H; have hd25 := PLe.refl G5
    refine RD_t 0 rfl (by kernel_rfl) rfl (fun _ hK => v_move rfl) ?_
    refine RD_t 1 rfl (by kernel_rfl) rfl (fun _ hK => v_move rfl) ?_
    have hl26 := hlist.len
    obtain ⟨b26, o26, z26, q26, ha26, hz26, hq26, hE26, hrow26, _⟩ := hlist.at (i := k) (by omega)
    clear hq26
    obtain ⟨a26, m26, c26, rfl, hi26, hr26⟩ := hE26; have hy_hi26 : _ ≤ 16777216 := hi26; have hn_hr26 := hr26.len; have hx_hr26 : _ ≤ 1099511627776 := hr26.lim
    have hzz26 : z9 = z26 := Option.some.inj (hz9.symm.trans hz26)
    subst hzz26
    refine RD_t 2 rfl (by kernel_rfl) rfl (fun _ hK => v_index_P (i := k) ha26 Tryz.underlying24 Tryz.sizeOf39 rfl rfl rfl (by omega)) ?_
    refine RD_t 3 rfl (by kernel_rfl) rfl (fun _ hK => v_fieldAddr 0 Tryz.runUnderlying39 rfl Tryz.sizeOf9 rfl rfl) ?_
    refine RD_t 4 rfl (by kernel_rfl) rfl (fun _ hK => v_load_P hK Tryz.isAgg9 rfl (hrow26 0 _ rfl)) ?_
    refine RD_t 5 rfl (by kernel_rfl) rfl (fun _ hK => v_fieldAddr 0 Tryz.runUnderlying39 rfl Tryz.sizeOf9 rfl rfl) ?_
    refine RD_t 6 rfl (by kernel_rfl) rfl (fun _ hK => v_load_B 0 hK Tryz.isAgg9 rfl rfl rfl) ?_
    refine RD_t 7 rfl (by kernel_rfl) rfl (fun _ hK => v_sneq rfl rfl) ?_
    refine RD_done (by kernel_rfl) ?_
    refine N_K ?_
    refine W_cond rfl ?_ ?_
    ·intro hc27
     try simp only [nrm] at hc27
     refine W_region ?_
     refine o_move rfl rfl ?_
     refine o_move rfl rfl ?_
     refine o_move rfl rfl ?_
     refine o_index_P _ hlist Tryz.underlying24 Tryz.sizeOf39 rfl rfl rfl rfl (by omega) ?_; intro b28 o28 z28 q28 hz28 hE28 hrow28
     obtain ⟨a28, m28, c28, rfl, hi28, hr28⟩ := hE28; have hy_hi28 : _ ≤ 16777216 := hi28; have hn_hr28 := hr28.len; have hx_hr28 : _ ≤ 1099511627776 := hr28.lim
     have hzz28 : z9 = z28 := Option.some.inj (hz9.symm.trans hz28)
     subst hzz28
     refine o_loadagg_P H Tryz.isAgg39 Tryz.sizeOf39 rfl rfl hrow28 rfl ?_
     refine o_call Tryz.call108 rfl rfl (l5Copy_c _ _ H.sub _ _ ⟨_, _, _, rfl, hi28, hr28⟩ ) ?_
     rintro _ w29 ⟨G29, _, g29, rfl, u29_0, rfl, hr29_0⟩
     have H := H.grow g29
     have hlist := hlist.up g29.le
     have hr1 := hr1.up g29.le
     have hchk5_0 := hchk5_0.up g29.le
     have hr9 := hr9.up g29.le
     have hrow9 := hrow9.up g29.le
     have hr26 := hr26.up g29.le
     have hrow26 := hrow26.up g29.le
     have hr28 := hr28.up g29.le
     have hrow28 := hrow28.up g29.le
     have hle5 := hle5.trans g29.le
     obtain ⟨a30, m30, c30, rfl, hi30, hr30⟩ := hr29_0; have hy_hi30 : _ ≤ 16777216 := hi30; have hn_hr30 := hr30.len; have hx_hr30 : _ ≤ 1099511627776 := hr30.lim
     refine ⟨_, rfl, ?_⟩
     refine o_buildSlice H Tryz.underlying24 Tryz.sizeOf39 (fun w => ⟨_, Tryz.zeroValue39 w, rfl⟩) rfl rfl rfl rfl rfl rfl rfl ?_; intro b31 w31 hb31 H
     refine o_append1 0 H (sz := 3) (bytes := 48) Tryz.underlying24 Tryz.typeInfo39 ⟨_, rfl, rfl⟩ rfl rfl rfl rfl rfl rfl rfl rfl rfl rfl (by omega) rfl ?_; intro v32 w32 H
     have hchk32 := hchk5_0.snoc (show itemE _ z9 _ from ⟨_, _, _, rfl, hi30, hr30⟩) rfl
     obtain ⟨av32, cv32, rfl⟩ := H.accShape (k := 0) rfl
     refine o_assign rfl rfl ?_
     refine R_nil ?_
     refine N_B ?_
     refine N_K ?_
     refine W_region ?_
     refine o_move rfl rfl ?_
     refine o_add rfl rfl rfl ⟨by omega, by omega⟩ ?_
     refine o_assign rfl rfl ?_
     refine R_nil ?_
     refine N_LP (hJ := ⟨_, _, _, (xs ++ [z9]), d, k + 1, _, rfl, hle5, H, ?inv, rfl⟩) (hM := ?hM) (hf := ?hf) (hm := ?hm)
     case hM => (repeat (first | exact Sub.nil | refine Sub.cons rfl ?_))
     case hf => (repeat (first | exact Sub.nil | refine Sub.cons rfl ?_))
     case hm => omega
     case inv => exact ⟨hchk32, (by first | assumption | (simp; omega) | omega), (by exact ⟨by omega, by first | omega | (simp; omega), fun h => by have := hxd h; first | omega | (simp; omega), by rw [Sp.drop_at hz9] at hp; rw [← hp]; (first | rw [Sp.putA (by assumption) (by assumption) (by assumption)] | rw [Sp.putB (by assumption) (by assumption) (by assumption)] | rw [Sp.putC (by assumption) (by assumption)] | rw [Sp.putC' (by assumption) (by assumption)] | rw [Sp.putD (by assumption) (by assumption)] | rw [Sp.putD' (by assumption) (by assumption)]) <;> simp⟩)⟩
    intro hc27'
    try simp only [nrm] at hc27'
    refine W_skip ?_
    refine N_B ?_
    refine N_K ?_
    refine W_region ?_
    refine o_move rfl rfl ?_
    refine o_add rfl rfl rfl ⟨by omega, by omega⟩ ?_
    refine o_assign rfl rfl ?_
    refine R_nil ?_
    refine N_LP (hJ := ⟨_, _, _, xs, d, k + 1, _, rfl, hle5, H, ?inv, rfl⟩) (hM := ?hM) (hf := ?hf) (hm := ?hm)
    case hM => (repeat (first | exact Sub.nil | refine Sub.cons rfl ?_))
    case hf => (repeat (first | exact Sub.nil | refine Sub.cons rfl ?_))
    case hm => omega
    case inv => exact ⟨hchk5_0, (by first | assumption | (simp; omega) | omega), (by exact ⟨by omega, by first | omega | (simp; omega), fun h => by have := hxd h; first | omega | (simp; omega), by rw [Sp.drop_at hz9] at hp; rw [← hp]; (first | rw [Sp.putA (by assumption) (by assumption) (by assumption)] | rw [Sp.putB (by assumption) (by assumption) (by assumption)] | rw [Sp.putC (by assumption) (by assumption)] | rw [Sp.putC' (by assumption) (by assumption)] | rw [Sp.putD (by assumption) (by assumption)] | rw [Sp.putD' (by assumption) (by assumption)]) <;> simp⟩)⟩
   intro hc8'
   try simp only [nrm] at hc8'
   refine RD_pass 3 rfl (by kernel_rfl) (by kernel_rfl) (by kernel_rfl) rfl (yl_ne rfl rfl rfl) ?_
   refine RD_pass 4 rfl (by kernel_rfl) (by kernel_rfl) (by kernel_rfl) rfl (yl_ne rfl rfl rfl) ?_
   refine RD_pass 5 rfl (by kernel_rfl) (by kernel_rfl) (by kernel_rfl) rfl (yl_ne rfl rfl rfl) ?_
   refine RD_pass 6 rfl (by kernel_rfl) (by kernel_rfl) (by kernel_rfl) rfl (yl_ne rfl rfl rfl) ?_
   refine RD_pass 7 rfl (by kernel_rfl) (by kernel_rfl) (by kernel_rfl) rfl (yl_ne rfl rfl rfl) ?_
   refine RD_pass 8 rfl (by kernel_rfl) (by kernel_rfl) (by kernel_rfl) rfl (yl_ne rfl rfl rfl) ?_
   refine RD_pass 9 rfl (by kernel_rfl) (by kernel_rfl) (by kernel_rfl) rfl (yl_ne rfl rfl rfl) ?_
   refine RD_pass 10 rfl (by kernel_rfl) (by kernel_rfl) (by kernel_rfl) rfl (yl_ne rfl rfl rfl) ?_
   refine RD_t 11 rfl (by kernel_rfl) rfl (fun _ hK => v_pick_f rfl rfl) ?_
   refine RD_done (by kernel_rfl) ?_
   refine N_K ?_
   refine W_false rfl ?_
   refine W_skip ?_
   refine N_K ?_
   refine W_seq ?_
   refine W_drawK [1] 8 H (by kernel_rfl) rfl ?_; intro w35 H; have hd35 := PLe.refl G5
   refine RD_t 0 rfl (by kernel_rfl) rfl (fun _ hK => v_move rfl) ?_
   refine RD_t 1 rfl (by kernel_rfl) rfl (fun _ hK => v_move rfl) ?_
   have hl36 := hlist.len
   obtain ⟨b36, o36, z36, q36, ha36, hz36, hq36, hE36, hrow36, _⟩ := hlist.at (i := k) (by omega)
   clear hq36
   obtain ⟨a36, m36, c36, rfl, hi36, hr36⟩ := hE36; have hy_hi36 : _ ≤ 16777216 := hi36; have hn_hr36 := hr36.len; have hx_hr36 : _ ≤ 1099511627776 := hr36.lim
   refine RD_t 2 rfl (by kernel_rfl) rfl (fun _ hK => v_index_P (i := k) ha36 Tryz.underlying24 Tryz.sizeOf39 rfl rfl rfl (by omega)) ?_
   refine RD_t 3 rfl (by kernel_rfl) rfl (fun _ hK => v_fieldAddr 0 Tryz.runUnderlying39 rfl Tryz.sizeOf9 rfl rfl) ?_
   refine RD_t 4 rfl (by kernel_rfl) rfl (fun _ hK => v_load_P hK Tryz.isAgg9 rfl (hrow36 0 _ rfl)) ?_
   refine RD_t 5 rfl (by kernel_rfl) rfl (fun _ hK => v_fieldAddr 0 Tryz.runUnderlying39 rfl Tryz.sizeOf9 rfl rfl) ?_
   refine RD_t 6 rfl (by kernel_rfl) rfl (fun _ hK => v_load_B 0 hK Tryz.isAgg9 rfl rfl rfl) ?_
   refine RD_t 7 rfl (by kernel_rfl) rfl (fun _ hK => v_sneq rfl rfl) ?_
   refine RD_done (by kernel_rfl) ?_
   refine N_K ?_
   refine W_cond rfl ?_ ?_
   ·intro hc37
    try simp only [nrm] at hc37
    refine W_region ?_
    refine o_move rfl rfl ?_
    refine o_move rfl rfl ?_
    refine o_move rfl rfl ?_
    refine o_index_P _ hlist Tryz.underlying24 Tryz.sizeOf39 rfl rfl rfl rfl (by omega) ?_; intro b38 o38 z38 q38 hz38 hE38 hrow38
    obtain ⟨a38, m38, c38, rfl, hi38, hr38⟩ := hE38; have hy_hi38 : _ ≤ 16777216 := hi38; have hn_hr38 := hr38.len; have hx_hr38 : _ ≤ 1099511627776 := hr38.lim
    have hzz38 : z36 = z38 := Option.some.inj (hz36.symm.trans hz38)
    subst hzz38
    refine o_loadagg_P H Tryz.isAgg39 Tryz.sizeOf39 rfl rfl hrow38 rfl ?_
    refine o_call Tryz.call108 rfl rfl (l5Copy_c _ _ H.sub _ _ ⟨_, _, _, rfl, hi38, hr38⟩ ) ?_
    rintro _ w39 ⟨G39, _, g39, rfl, u39_0, rfl, hr39_0⟩
    have H := H.grow g39
    have hlist := hlist.up g39.le
    have hr1 := hr1.up g39.le
    have hchk5_0 := hchk5_0.up g39.le
    have hr36 := hr36.up g39.le
    have hrow36 := hrow36.up g39.le
    have hr38 := hr38.up g39.le
    have hrow38 := hrow38.up g39.le
    have hle5 := hle5.trans g39.le
    obtain ⟨a40, m40, c40, rfl, hi40, hr40⟩ := hr39_0; have hy_hi40 : _ ≤ 16777216 := hi40; have hn_hr40 := hr40.len; have hx_hr40 : _ ≤ 1099511627776 := hr40.lim
    refine ⟨_, rfl, ?_⟩
    refine o_buildSlice H Tryz.underlying24 Tryz.sizeOf39 (fun w => ⟨_, Tryz.zeroValue39 w, rfl⟩) rfl rfl rfl rfl rfl rfl rfl ?_; intro b41 w41 hb41 H
    refine o_append1 0 H (sz := 3) (bytes := 48) Tryz.underlying24 Tryz.typeInfo39 ⟨_, rfl, rfl⟩ rfl rfl rfl rfl rfl rfl rfl rfl rfl rfl (by omega) rfl ?_; intro v42 w42 H
    have hchk42 := hchk5_0.snoc (show itemE _ z36 _ from ⟨_, _, _, rfl, hi40, hr40⟩) rfl
    obtain ⟨av42, cv42, rfl⟩ := H.accShape (k := 0) rfl
    refine o_assign rfl rfl ?_
    refine R_nil ?_
    refine N_B ?_
    refine N_K ?_
    refine W_region ?_
    refine o_move rfl rfl ?_
    refine o_add rfl rfl rfl ⟨by omega, by omega⟩ ?_
    refine o_assign rfl rfl ?_
    refine R_nil ?_
    refine N_LP (hJ := ⟨_, _, _, (xs ++ [z36]), d, k + 1, _, rfl, hle5, H, ?inv, rfl⟩) (hM := ?hM) (hf := ?hf) (hm := ?hm)
    case hM => (repeat (first | exact Sub.nil | refine Sub.cons rfl ?_))
    case hf => (repeat (first | exact Sub.nil | refine Sub.cons rfl ?_))
    case hm => omega
    case inv => exact ⟨hchk42, (by first | assumption | (simp; omega) | omega), (by exact ⟨by omega, by first | omega | (simp; omega), fun h => by have := hxd h; first | omega | (simp; omega), by rw [Sp.drop_at hz36] at hp; rw [← hp]; (first | rw [Sp.putA (by assumption) (by assumption) (by assumption)] | rw [Sp.putB (by assumption) (by assumption) (by assumption)] | rw [Sp.putC (by assumption) (by assumption)] | rw [Sp.putC' (by assumption) (by assumption)] | rw [Sp.putD (by assumption) (by assumption)] | rw [Sp.putD' (by assumption) (by assumption)]) <;> simp⟩)⟩
   intro hc37'
   try simp only [nrm] at hc37'
   refine W_skip ?_
   refine N_B ?_
   refine N_K ?_
   refine W_region ?_
   refine o_move rfl rfl ?_
   refine o_add rfl rfl rfl ⟨by omega, by omega⟩ ?_
   refine o_assign rfl rfl ?_
   refine R_nil ?_
   refine N_LP (hJ := ⟨_, _, _, xs, d, k + 1, _, rfl, hle5, H, ?inv, rfl⟩) (hM := ?hM) (hf := ?hf) (hm := ?hm)
   case hM => (repeat (first | exact Sub.nil | refine Sub.cons rfl ?_))
   case hf => (repeat (first | exact Sub.nil | refine Sub.cons rfl ?_))
   case hm => omega
   case inv => exact ⟨hchk5_0, (by first | assumption | (simp; omega) | omega), (by exact ⟨by omega, by first | omega | (simp; omega), fun h => by have := hxd h; first | omega | (simp; omega), by rw [Sp.drop_at hz36] at hp; rw [← hp]; (first | rw [Sp.putA (by assumption) (by assumption) (by assumption)] | rw [Sp.putB (by assumption) (by assumption) (by assumption)] | rw [Sp.putC (by assumption) (by assumption)] | rw [Sp.putC' (by assumption) (by assumption)] | rw [Sp.putD (by assumption) (by assumption)] | rw [Sp.putD' (by assumption) (by assumption)]) <;> simp⟩)⟩
  intro hc6'
  try simp only [nrm] at hc6'
  refine W_exit ?_
  refine N_K_exit ?_
  refine N_LP_exit ?_
  refine N_B_same ?_
  refine N_K ?_
  refine W_seq ?_
  refine q2 ?_
  refine o_move rfl rfl ?_
  refine o_not rfl rfl ?_
  refine q3 ?_
  refine W_cond rfl ?_ ?_
  ·intro hc45
   try simp only [nrm] at hc45
   refine W_region ?_
   refine o_move rfl rfl ?_
   refine o_loadagg_B 1 H Tryz.isAgg39 Tryz.sizeOf39 rfl rfl rfl rfl rfl ?_
   refine o_call Tryz.call108 rfl rfl (l5Copy_c _ _ H.sub _ _ ⟨_, _, _, rfl, hi1, hr1⟩ ) ?_
   rintro _ w46 ⟨G46, _, g46, rfl, u46_0, rfl, hr46_0⟩
   have H := H.grow g46
   have hlist := hlist.up g46.le
   have hr1 := hr1.up g46.le
   have hchk5_0 := hchk5_0.up g46.le
   have hle5 := hle5.trans g46.le
   obtain ⟨a47, m47, c47, rfl, hi47, hr47⟩ := hr46_0; have hy_hi47 : _ ≤ 16777216 := hi47; have hn_hr47 := hr47.len; have hx_hr47 : _ ≤ 1099511627776 := hr47.lim
   refine ⟨_, rfl, ?_⟩
   refine o_buildSlice H Tryz.underlying24 Tryz.sizeOf39 (fun w => ⟨_, Tryz.zeroValue39 w, rfl⟩) rfl rfl rfl rfl rfl rfl rfl ?_; intro b48 w48 hb48 H
   refine o_append1 0 H (sz := 3) (bytes := 48) Tryz.underlying24 Tryz.typeInfo39 ⟨_, rfl, rfl⟩ rfl rfl rfl rfl rfl rfl rfl rfl rfl rfl (by omega) rfl ?_; intro v49 w49 H
   have hchk49 := hchk5_0.snoc (show itemE _ x _ from ⟨_, _, _, rfl, hi47, hr47⟩) rfl
   obtain ⟨av49, cv49, rfl⟩ := H.accShape (k := 0) rfl
   refine o_assign rfl rfl ?_
   refine q1 ?_
   refine o_move rfl rfl ?_
   refine o_assign rfl rfl ?_
   refine q3 ?_
   refine W_ret ?_
   refine ret_gen (rs := [.tmp 4]) (vs := [_]) Tryz.results101 ⟨rfl, trivial⟩ ?_
   rw [List.drop_of_length_le (by omega)] at hp
   exact H.retO (k := 0) rfl (by rw [← hp, Sp.putGo, if_neg (by simp [*])]; exact AccOf.mk (by first | rfl | assumption | (simp; done) | (simp; omega) | omega) hchk49) (acc_nd _ _ _ _ _)
  intro hc45'
  try simp only [nrm] at hc45'
  refine W_skip ?_
  refine N_K ?_
  refine q2 ?_
  refine o_move rfl rfl ?_
  refine o_assign rfl rfl ?_
  refine q3 ?_
  refine W_ret ?_
  refine ret_gen (rs := [.tmp 4]) (vs := [_]) Tryz.results101 ⟨rfl, trivial⟩ ?_
  rw [List.drop_of_length_le (by omega)] at hp
  exact H.retO (k := 0) rfl (by rw [← hp, Sp.putGo, if_pos (by assumption), List.append_nil]; exact AccOf.mk (by first | rfl | assumption | (simp; done) | (simp; omega) | omega) hchk5_0) (acc_nd _ _ _ _ _)
end Go.Proofs.Tst

namespace Go.Proofs.Tst
open Go Fw
theorem TreePut_c (w0 : World) (G0 : PH) (hG : PSub G0 w0) (vlist : Value) (list : List (BItem)) (hlist : RdItems G0 vlist list) (cx : List Value) (x : BItem) (hx : itemE G0 x cx)  :
  Calls Tryz.prog 47 #[vlist, .agg cx.toArray] w0 (RetP w0 G0 (fun G v => ∃ u, v = .tuple #[u, .bool (Sp.TreePut list x).isSome] ∧ RdItems G u ((Sp.TreePut list x).getD []))) := by
 obtain ⟨alist, klist, rfl⟩ := hlist.shape
 have hlimlist : list.length ≤ 1099511627776 := hlist.lim
 obtain ⟨a1, m1, c1, rfl, hi1, hr1⟩ := hx; have hy_hi1 : _ ≤ 16777216 := hi1; have hn_hr1 := hr1.len; have hx_hr1 : _ ≤ 1099511627776 := hr1.lim
 have H := Hp.init hG
 refine calls_of_W (l := [.slice alist list.length klist, _]) Tryz.func47 rfl Tryz.ntmps47 rfl ?_
 refine q2 ?_
 refine o_box H rfl rfl rfl ?_; intro b2 w2 hb2 H
 refine o_assign rfl rfl ?_
 refine o_assign rfl rfl ?_
 refine q3 ?_
 refine W_seq ?_
 refine q2 ?_
 refine o_move rfl rfl ?_
 refine o_call Tryz.call84 rfl rfl (TreeValid_c _ _ H.sub _ _ hlist ) ?_
 rintro _ w3 ⟨rfl, ew3⟩; have H := H.step ew3; refine ⟨_, rfl, ?_⟩
 refine o_not rfl rfl ?_
 refine o_move rfl rfl ?_
 refine R_case (t := 11) rfl ?_ ?_
 ·intro hc4
  try simp only [nrm] at hc4
  refine R_pass rfl (yl_ne rfl rfl rfl) ?_
  refine R_pass rfl (yl_ne rfl rfl rfl) ?_
  refine R_pass rfl (yl_ne rfl rfl rfl) ?_
  refine o_pick_t rfl rfl rfl ?_
  refine q3 ?_
  refine W_true rfl ?_
  refine q2 ?_
  refine o_buildSlice H Tryz.underlying24 Tryz.sizeOf39 (fun w => ⟨_, Tryz.zeroValue39 w, rfl⟩) rfl rfl rfl rfl rfl rfl rfl ?_; intro b5 w5 hb5 H
  have H := H.blkAcc 3 (k := 0) (n := 0) rfl rfl (by decide)
  refine o_assign rfl rfl ?_
  refine o_assign rfl rfl ?_
  refine q3 ?_
  refine W_ret ?_
  refine N_K_ret ?_
  refine ret_gen (rs := [.tmp 4, .tmp 5]) (vs := [_, _]) Tryz.results47 ⟨rfl, rfl, trivial⟩ ?_
  obtain ⟨G506, H, hsg506, hsr506⟩ := H.shut' (k := 0) rfl (Chk.nil (E := itemE) (sz := 3) (G := G0)) (by first | assumption | (simp; done) | (simp; omega) | omega) (by first | assumption | (simp; done) | (simp; omega) | omega)
  have hlist := hlist.up hsg506
  have hr1 := hr1.up hsg506
  have hY : Sp.TreePut list x = none := by simp [Sp.TreePut, hc4]
  exact H.retP (by rw [hY]; exact ⟨_, rfl, hsr506⟩)
 intro hc4'
 try simp only [nrm] at hc4'
 have htl := Sp.tree_len hc4'
 refine R_guard (yl rfl rfl) ?_
 refine o_loadagg_B 0 H Tryz.isAgg39 Tryz.sizeOf39 rfl rfl rfl rfl rfl ?_
 refine R_guard (yl rfl rfl) ?_
 refine o_call Tryz.call99 rfl rfl (l5Item_c _ _ H.sub _ _ ⟨_, _, _, rfl, hi1, hr1⟩ ) ?_
 rintro _ w6 ⟨rfl, ew6⟩; have H := H.step ew6; refine ⟨_, rfl, ?_⟩
 refine R_guard (yl rfl rfl) ?_
 refine o_not rfl rfl ?_
 refine o_pick_f rfl rfl rfl ?_
 refine q3 ?_
 refine W_cond rfl ?_ ?_
 ·intro hc7
  try simp only [nrm] at hc7
  refine q2 ?_
  refine o_buildSlice H Tryz.underlying24 Tryz.sizeOf39 (fun w => ⟨_, Tryz.zeroValue39 w, rfl⟩) rfl rfl rfl rfl rfl rfl rfl ?_; intro b8 w8 hb8 H
  have H := H.blkAcc 3 (k := 0) (n := 0) rfl rfl (by decide)
  refine o_assign rfl rfl ?_
  refine o_assign rfl rfl ?_
  refine q3 ?_
  refine W_ret ?_
  refine N_K_ret ?_
  refine ret_gen (rs := [.tmp 4, .tmp 5]) (vs := [_, _]) Tryz.results47 ⟨rfl, rfl, trivial⟩ ?_
  obtain ⟨G509, H, hsg509, hsr509⟩ := H.shut' (k := 0) rfl (Chk.nil (E := itemE) (sz := 3) (G := G0)) (by first | assumption | (simp; done) | (simp; omega) | omega) (by first | assumption | (simp; done) | (simp; omega) | omega)
  have hlist := hlist.up hsg509
  have hr1 := hr1.up hsg509
  have hY : Sp.TreePut list x = none := by simp [Sp.TreePut, hc7]
  exact H.retP (by rw [hY]; exact ⟨_, rfl, hsr509⟩)
 intro hc7'
 try simp only [nrm] at hc7'
 refine W_skip ?_
 refine N_K ?_
 refine q2 ?_
 refine o_move rfl rfl ?_
 refine o_fieldAddr 0 Tryz.runUnderlying39 rfl Tryz.sizeOf9 rfl rfl rfl ?_
 refine o_load_B 0 H Tryz.isAgg9 rfl rfl rfl rfl ?_
 refine o_call Tryz.call100 rfl rfl (l5At_c _ _ H.sub _ _ hlist _ hi1 ) ?_
 rintro _ w9 ⟨rfl, ew9⟩; have H := H.step ew9; refine ⟨_, rfl, ?_⟩
 refine o_assign rfl rfl ?_
 refine q3 ?_
 refine W_seq ?_
 refine q2 ?_
 refine o_move rfl rfl ?_
 refine o_geq rfl rfl rfl ?_
 refine o_move rfl rfl ?_
 refine R_case (t := 23) rfl ?_ ?_
 ·intro hc10
  try simp only [nrm] at hc10
  obtain ⟨i, y, ia, ib, ic, ie, ig⟩ := Sp.at_nat hc10
  refine R_guard (yl rfl rfl) ?_
  refine o_move rfl rfl ?_
  refine R_guard (yl rfl rfl) ?_
  refine o_move rfl rfl ?_
  refine R_guard (yl rfl rfl) ?_
  refine o_index_P i hlist Tryz.underlying24 Tryz.sizeOf39 rfl rfl rfl ib (by omega) ?_; intro b11 o11 z11 q11 hz11 hE11 hrow11
  obtain ⟨a11, m11, c11, rfl, hi11, hr11⟩ := hE11; have hy_hi11 : _ ≤ 16777216 := hi11; have hn_hr11 := hr11.len; have hx_hr11 : _ ≤ 1099511627776 := hr11.lim
  refine R_guard (yl rfl rfl) ?_
  refine o_fieldAddr 1 Tryz.runUnderlying39 rfl Tryz.sizeOf4 rfl rfl rfl ?_
  refine R_guard (yl rfl rfl) ?_
  refine o_load_P H Tryz.isAgg4 rfl rfl (hrow11 1 _ rfl) ?_
  refine R_guard (yl rfl rfl) ?_
  refine o_move rfl rfl ?_
  refine R_case (t := 29) rfl ?_ ?_
  ·intro hc12
   try simp only [nrm] at hc12
   refine R_pass rfl (yl_ne rfl rfl rfl) ?_
   refine R_pass rfl (yl_ne rfl rfl rfl) ?_
   refine R_guard (yl rfl rfl) ?_
   refine o_pick_t rfl rfl rfl ?_
   refine o_pick_t rfl rfl rfl ?_
   refine q3 ?_
   refine W_true rfl ?_
   refine q2 ?_
   refine o_buildSlice H Tryz.underlying24 Tryz.sizeOf39 (fun w => ⟨_, Tryz.zeroValue39 w, rfl⟩) rfl rfl rfl rfl rfl rfl rfl ?_; intro b13 w13 hb13 H
   have H := H.blkAcc 3 (k := 0) (n := 0) rfl rfl (by decide)
   refine o_assign rfl rfl ?_
   refine o_assign rfl rfl ?_
   refine q3 ?_
   refine W_ret ?_
   refine N_K_ret ?_
   refine ret_gen (rs := [.tmp 4, .tmp 5]) (vs := [_, _]) Tryz.results47 ⟨rfl, rfl, trivial⟩ ?_
   obtain ⟨G514, H, hsg514, hsr514⟩ := H.shut' (k := 0) rfl (Chk.nil (E := itemE) (sz := 3) (G := G0)) (by first | assumption | (simp; done) | (simp; omega) | omega) (by first | assumption | (simp; done) | (simp; omega) | omega)
   have hlist := hlist.up hsg514
   have hr1 := hr1.up hsg514
   have hr11 := hr11.up hsg514
   have hrow11 := hrow11.up hsg514
   have hY : Sp.TreePut list x = none := by (have hl : Sp.atI list x.path = some i := ia); simp [Sp.TreePut, hl, hz11, hc12]
   exact H.retP (by rw [hY]; exact ⟨_, rfl, hsr514⟩)
  intro hc12'
  try simp only [nrm] at hc12'
  refine R_guard (yl rfl rfl) ?_
  refine o_fieldAddr 1 Tryz.runUnderlying39 rfl Tryz.sizeOf4 rfl rfl rfl ?_
  refine R_guard (yl rfl rfl) ?_
  refine o_load_B 0 H Tryz.isAgg4 rfl rfl rfl rfl ?_
  refine R_guard (yl rfl rfl) ?_
  refine o_pick_f rfl rfl rfl ?_
  refine o_pick_t rfl rfl rfl ?_
  refine q3 ?_
  refine W_cond rfl ?_ ?_
  ·intro hc14
   try simp only [nrm] at hc14
   refine q2 ?_
   refine o_buildSlice H Tryz.underlying24 Tryz.sizeOf39 (fun w => ⟨_, Tryz.zeroValue39 w, rfl⟩) rfl rfl rfl rfl rfl rfl rfl ?_; intro b15 w15 hb15 H
   have H := H.blkAcc 3 (k := 0) (n := 0) rfl rfl (by decide)
   refine o_assign rfl rfl ?_
   refine o_assign rfl rfl ?_
   refine q3 ?_
   refine W_ret ?_
   refine N_K_ret ?_
   refine ret_gen (rs := [.tmp 4, .tmp 5]) (vs := [_, _]) Tryz.results47 ⟨rfl, rfl, trivial⟩ ?_
   obtain ⟨G516, H, hsg516, hsr516⟩ := H.shut' (k := 0) rfl (Chk.nil (E := itemE) (sz := 3) (G := G0)) (by first | assumption | (simp; done) | (simp; omega) | omega) (by first | assumption | (simp; done) | (simp; omega) | omega)
   have hlist := hlist.up hsg516
   have hr1 := hr1.up hsg516
   have hr11 := hr11.up hsg516
   have hrow11 := hrow11.up hsg516
   have hY : Sp.TreePut list x = none := by (have hl : Sp.atI list x.path = some i := ia); simp [Sp.TreePut, hl, hz11, hc14]
   exact H.retP (by rw [hY]; exact ⟨_, rfl, hsr516⟩)
  intro hc14'
  try simp only [nrm] at hc14'
  refine W_skip ?_
  refine N_K ?_
  refine q2 ?_
  refine o_move rfl rfl ?_
  refine o_loadagg_B 0 H Tryz.isAgg39 Tryz.sizeOf39 rfl rfl rfl rfl rfl ?_
  refine o_call Tryz.call101 rfl rfl (l5Put_c _ _ H.sub _ _ hlist _ _ ⟨_, _, _, rfl, hi1, hr1⟩ (by omega)) ?_
  rintro _ w16 ⟨G16, v16, _, g16, rfl, ⟨cs16, rfl, hchk16⟩, hp16, hq16, hs16⟩
  have H := H.growO g16 hp16 hq16 hs16; obtain ⟨av16, cv16, rfl⟩ := H.accShape (k := 0) rfl
  have hlist := hlist.up g16.le
  have hr1 := hr1.up g16.le
  have hr11 := hr11.up g16.le
  have hrow11 := hrow11.up g16.le
  refine ⟨_, rfl, ?_⟩
  have hpl := Sp.l5Put_len list x
  refine o_assign rfl rfl ?_
  refine q3 ?_
  refine W_seq ?_
  refine q2 ?_
  refine o_move rfl rfl ?_
  refine o_call Tryz.call84 rfl rfl (TreeValid_c _ _ (H.lendSub (k := 0) rfl) _ _ (H.lendRd (k := 0) rfl hchk16 (by first | assumption | rfl | (simp; done) | (simp; omega) | omega) (by first | assumption | (simp; done) | (simp; omega) | omega)) ) ?_
  rintro _ w17 ⟨rfl, ew17⟩; have H := H.step ew17; refine ⟨_, rfl, ?_⟩
  refine o_not rfl rfl ?_
  refine q3 ?_
  refine W_cond rfl ?_ ?_
  ·intro hc18
   try simp only [nrm] at hc18
   refine q2 ?_
   refine o_buildSlice H Tryz.underlying24 Tryz.sizeOf39 (fun w => ⟨_, Tryz.zeroValue39 w, rfl⟩) rfl rfl rfl rfl rfl rfl rfl ?_; intro b19 w19 hb19 H
   have H := H.blkAcc 3 (k := 0) (n := 0) rfl rfl (by decide)
   refine o_assign rfl rfl ?_
   refine o_assign rfl rfl ?_
   refine q3 ?_
   refine W_ret ?_
   refine N_K_ret ?_
   refine ret_gen (rs := [.tmp 4, .tmp 5]) (vs := [_, _]) Tryz.results47 ⟨rfl, rfl, trivial⟩ ?_
   obtain ⟨G520, H, hsg520, hsr520⟩ := H.shut' (k := 0) rfl (Chk.nil (E := itemE) (sz := 3) (G := G16)) (by first | assumption | (simp; done) | (simp; omega) | omega) (by first | assumption | (simp; done) | (simp; omega) | omega)
   have hlist := hlist.up hsg520
   have hr1 := hr1.up hsg520
   have hr11 := hr11.up hsg520
   have hrow11 := hrow11.up hsg520
   have hchk16 := hchk16.up hsg520
   have hY : Sp.TreePut list x = none := by (have hl : Sp.atI list x.path = some i := ia); simp [Sp.TreePut, hc18]
   exact H.retP (by rw [hY]; exact ⟨_, rfl, hsr520⟩)
  intro hc18'
  try simp only [nrm] at hc18'
  refine W_skip ?_
  refine N_K ?_
  refine q2 ?_
  refine o_move rfl rfl ?_
  refine o_assign rfl rfl ?_
  refine o_assign rfl rfl ?_
  refine q3 ?_
  refine W_ret ?_
  refine ret_gen (rs := [.tmp 4, .tmp 5]) (vs := [_, _]) Tryz.results47 ⟨rfl, rfl, trivial⟩ ?_
  obtain ⟨G520, H, hsg520, hsr520⟩ := H.shut' (k := 0) rfl hchk16 (by first | assumption | (simp; done) | (simp; omega) | omega) (by first | assumption | (simp; done) | (simp; omega) | omega)
  have hlist := hlist.up hsg520
  have hr1 := hr1.up hsg520
  have hr11 := hr11.up hsg520
  have hrow11 := hrow11.up hsg520
  have hchk16 := hchk16.up hsg520
  have hY : Sp.TreePut list x = some (Sp.l5Put list x) := by (have hl : Sp.atI list x.path = some i := ia); simp [Sp.TreePut, hl, hz11, hc4', hc7', hc12', hc14', hc18']
  exact H.retP (by rw [hY]; exact ⟨_, rfl, hsr520⟩)
 intro hc10'
 try simp only [nrm] at hc10'
 refine R_pass rfl (yl_ne rfl rfl rfl) ?_
 refine R_pass rfl (yl_ne rfl rfl rfl) ?_
 refine R_pass rfl (yl_ne rfl rfl rfl) ?_
 refine R_pass rfl (yl_ne rfl rfl rfl) ?_
 refine R_pass rfl (yl_ne rfl rfl rfl) ?_
 refine R_pass rfl (yl_ne rfl rfl rfl) ?_
 refine R_pass rfl (yl_un rfl rfl) ?_
 refine R_pass rfl (yl_un rfl rfl) ?_
 refine R_pass rfl (yl_ne rfl rfl rfl) ?_
 refine o_pick_f rfl rfl rfl ?_
 refine q3 ?_
 refine W_false rfl ?_
 refine W_skip ?_
 refine N_K ?_
 refine q2 ?_
 refine o_move rfl rfl ?_
 refine o_loadagg_B 0 H Tryz.isAgg39 Tryz.sizeOf39 rfl rfl rfl rfl rfl ?_
 refine o_call Tryz.call101 rfl rfl (l5Put_c _ _ H.sub _ _ hlist _ _ ⟨_, _, _, rfl, hi1, hr1⟩ (by omega)) ?_
 rintro _ w20 ⟨G20, v20, _, g20, rfl, ⟨cs20, rfl, hchk20⟩, hp20, hq20, hs20⟩
 have H := H.growO g20 hp20 hq20 hs20; obtain ⟨av20, cv20, rfl⟩ := H.accShape (k := 0) rfl
 have hlist := hlist.up g20.le
 have hr1 := hr1.up g20.le
 refine ⟨_, rfl, ?_⟩
 have hpl := Sp.l5Put_len list x
 refine o_assign rfl rfl ?_
 refine q3 ?_
 refine W_seq ?_
 refine q2 ?_
 refine o_move rfl rfl ?_
 refine o_call Tryz.call84 rfl rfl (TreeValid_c _ _ (H.lendSub (k := 0) rfl) _ _ (H.lendRd (k := 0) rfl hchk20 (by first | assumption | rfl | (simp; done) | (simp; omega) | omega) (by first | assumption | (simp; done) | (simp; omega) | omega)) ) ?_
 rintro _ w21 ⟨rfl, ew21⟩; have H := H.step ew21; refine ⟨_, rfl, ?_⟩
 refine o_not rfl rfl ?_
 refine q3 ?_
 refine W_cond rfl ?_ ?_
 ·intro hc22
  try simp only [nrm] at hc22
  refine q2 ?_
  refine o_buildSlice H Tryz.underlying24 Tryz.sizeOf39 (fun w => ⟨_, Tryz.zeroValue39 w, rfl⟩) rfl rfl rfl rfl rfl rfl rfl ?_; intro b23 w23 hb23 H
  have H := H.blkAcc 3 (k := 0) (n := 0) rfl rfl (by decide)
  refine o_assign rfl rfl ?_
  refine o_assign rfl rfl ?_
  refine q3 ?_
  refine W_ret ?_
  refine N_K_ret ?_
  refine ret_gen (rs := [.tmp 4, .tmp 5]) (vs := [_, _]) Tryz.results47 ⟨rfl, rfl, trivial⟩ ?_
  obtain ⟨G524, H, hsg524, hsr524⟩ := H.shut' (k := 0) rfl (Chk.nil (E := itemE) (sz := 3) (G := G20)) (by first | assumption | (simp; done) | (simp; omega) | omega) (by first | assumption | (simp; done) | (simp; omega) | omega)
  have hlist := hlist.up hsg524
  have hr1 := hr1.up hsg524
  have hchk20 := hchk20.up hsg524
  have hY : Sp.TreePut list x = none := by simp [Sp.TreePut, hc22]
  exact H.retP (by rw [hY]; exact ⟨_, rfl, hsr524⟩)
 intro hc22'
 try simp only [nrm] at hc22'
 refine W_skip ?_
 refine N_K ?_
 refine q2 ?_
 refine o_move rfl rfl ?_
 refine o_assign rfl rfl ?_
 refine o_assign rfl rfl ?_
 refine q3 ?_
 refine W_ret ?_
 refine ret_gen (rs := [.tmp 4, .tmp 5]) (vs := [_, _]) Tryz.results47 ⟨rfl, rfl, trivial⟩ ?_
 obtain ⟨G524, H, hsg524, hsr524⟩ := H.shut' (k := 0) rfl hchk20 (by first | assumption | (simp; done) | (simp; omega) | omega) (by first | assumption | (simp; done) | (simp; omega) | omega)
 have hlist := hlist.up hsg524
 have hr1 := hr1.up hsg524
 have hchk20 := hchk20.up hsg524
 have hY : Sp.TreePut list x = some (Sp.l5Put list x) := by (have hl : Sp.atI list x.path = none := Sp.at_none hc10'); simp [Sp.TreePut, hl, hc4', hc7', hc22']
 exact H.retP (by rw [hY]; exact ⟨_, rfl, hsr524⟩)
end Go.Proofs.Tst

namespace Go.Proofs.Tst
open Go Fw
theorem TreeDrop_c (w0 : World) (G0 : PH) (hG : PSub G0 w0) (vlist : Value) (list : List (BItem)) (hlist : RdItems G0 vlist list) (path : Bs) (hpath : path.length ≤ 16777216)  :
  Calls Tryz.prog 157 #[vlist, str path] w0 (RetP w0 G0 (fun G v => ∃ u, v = .tuple #[u, .bool (Sp.TreeDrop list path).isSome] ∧ RdItems G u ((Sp.TreeDrop list path).getD []))) := by
 obtain ⟨alist, klist, rfl⟩ := hlist.shape
 have hlimlist : list.length ≤ 1099511627776 := hlist.lim
 have H := Hp.init hG
 refine calls_of_W (l := [.slice alist list.length klist, str path]) Tryz.func157 rfl Tryz.ntmps157 rfl ?_
 refine q2 ?_
 refine o_assign rfl rfl ?_
 refine o_assign rfl rfl ?_
 refine q1 ?_
 refine o_move rfl rfl ?_
 refine o_move rfl rfl ?_
 refine o_call Tryz.call100 rfl rfl (l5At_c _ _ H.sub _ _ hlist _ hpath ) ?_
 rintro _ w1 ⟨rfl, ew1⟩; have H := H.step ew1; refine ⟨_, rfl, ?_⟩
 refine o_assign rfl rfl ?_
 refine q3 ?_
 refine W_seq ?_
 refine q2 ?_
 refine o_move rfl rfl ?_
 refine o_call Tryz.call84 rfl rfl (TreeValid_c _ _ H.sub _ _ hlist ) ?_
 rintro _ w2 ⟨rfl, ew2⟩; have H := H.step ew2; refine ⟨_, rfl, ?_⟩
 refine o_not rfl rfl ?_
 refine o_move rfl rfl ?_
 refine R_case (t := 14) rfl ?_ ?_
 ·intro hc3
  try simp only [nrm] at hc3
  refine R_pass rfl (yl_ne rfl rfl rfl) ?_
  refine R_pass rfl (yl_ne rfl rfl rfl) ?_
  refine o_pick_t rfl rfl rfl ?_
  refine q3 ?_
  refine W_true rfl ?_
  refine q2 ?_
  refine o_buildSlice H Tryz.underlying24 Tryz.sizeOf39 (fun w => ⟨_, Tryz.zeroValue39 w, rfl⟩) rfl rfl rfl rfl rfl rfl rfl ?_; intro b4 w4 hb4 H
  have H := H.blkAcc 3 (k := 0) (n := 0) rfl rfl (by decide)
  refine o_assign rfl rfl ?_
  refine o_assign rfl rfl ?_
  refine q3 ?_
  refine W_ret ?_
  refine N_K_ret ?_
  refine ret_gen (rs := [.tmp 4, .tmp 5]) (vs := [_, _]) Tryz.results157 ⟨rfl, rfl, trivial⟩ ?_
  obtain ⟨G505, H, hsg505, hsr505⟩ := H.shut' (k := 0) rfl (Chk.nil (E := itemE) (sz := 3) (G := G0)) (by first | assumption | (simp; done) | (simp; omega) | omega) (by first | assumption | (simp; done) | (simp; omega) | omega)
  have hlist := hlist.up hsg505
  have hY : Sp.TreeDrop list path = none := by simp [Sp.TreeDrop, hc3]
  exact H.retP (by rw [hY]; exact ⟨_, rfl, hsr505⟩)
 intro hc3'
 try simp only [nrm] at hc3'
 refine R_guard (yl rfl rfl) ?_
 refine o_move rfl rfl ?_
 refine R_guard (yl rfl rfl) ?_
 refine o_lss rfl rfl rfl ?_
 refine o_pick_f rfl rfl rfl ?_
 refine q3 ?_
 refine W_cond rfl ?_ ?_
 ·intro hc5
  try simp only [nrm] at hc5
  refine q2 ?_
  refine o_buildSlice H Tryz.underlying24 Tryz.sizeOf39 (fun w => ⟨_, Tryz.zeroValue39 w, rfl⟩) rfl rfl rfl rfl rfl rfl rfl ?_; intro b6 w6 hb6 H
  have H := H.blkAcc 3 (k := 0) (n := 0) rfl rfl (by decide)
  refine o_assign rfl rfl ?_
  refine o_assign rfl rfl ?_
  refine q3 ?_
  refine W_ret ?_
  refine N_K_ret ?_
  refine ret_gen (rs := [.tmp 4, .tmp 5]) (vs := [_, _]) Tryz.results157 ⟨rfl, rfl, trivial⟩ ?_
  obtain ⟨G507, H, hsg507, hsr507⟩ := H.shut' (k := 0) rfl (Chk.nil (E := itemE) (sz := 3) (G := G0)) (by first | assumption | (simp; done) | (simp; omega) | omega) (by first | assumption | (simp; done) | (simp; omega) | omega)
  have hlist := hlist.up hsg507
  have hY : Sp.TreeDrop list path = none := by simp [Sp.TreeDrop, Sp.atI, Sp.at_none hc5]
  exact H.retP (by rw [hY]; exact ⟨_, rfl, hsr507⟩)
 intro hc5'
 try simp only [nrm] at hc5'
 obtain ⟨i, x, hi1, hi2, hi3, hi4, hi5⟩ := Sp.at_nat hc5'
 have hi2 : Sp.l5At list path = (i : Int) := hi2
 have hl : Sp.atI list path = some i := hi1
 have htl := Sp.tree_len hc3'
 refine W_skip ?_
 refine N_K ?_
 refine q2 ?_
 refine o_move rfl rfl ?_
 refine o_call Tryz.call57 rfl rfl (l5All_c _ _ H.sub _ _ hlist ) ?_
 rintro _ w7 ⟨G7, v7, _, g7, rfl, ⟨cs7, rfl, hchk7⟩, hp7, hq7, hs7⟩
 have H := H.growO g7 hp7 hq7 hs7; obtain ⟨av7, cv7, rfl⟩ := H.accShape (k := 0) rfl
 have hlist := hlist.up g7.le
 refine ⟨_, rfl, ?_⟩
 refine o_assign rfl rfl ?_
 refine q3 ?_
 refine W_seq ?_
 refine W_drawK [] 9 H (by kernel_rfl) rfl ?_; intro w8 H; have hd8 := PLe.refl G7
 refine RD_t 0 rfl (by kernel_rfl) rfl (fun _ hK => v_move rfl) ?_
 refine RD_t 1 rfl (by kernel_rfl) rfl (fun _ hK => v_move rfl) ?_
 have hac9 := H.accCap (k := 0) rfl
 refine RD_t 2 rfl (by kernel_rfl) rfl (fun _ hK => v_slice_to (j := i) Tryz.underlying24 Tryz.sizeOf39 rfl rfl hi2 (by omega)) ?_
 refine RD_t 3 rfl (by kernel_rfl) rfl (fun _ hK => v_move rfl) ?_
 refine RD_t 4 rfl (by kernel_rfl) rfl (fun _ hK => v_move rfl) ?_
 refine RD_t 5 rfl (by kernel_rfl) rfl (fun _ hK => v_add rfl rfl ⟨by omega, by omega⟩) ?_
 have hac11 := H.accCap (k := 0) rfl
 refine RD_t 6 rfl (by kernel_rfl) rfl (fun _ hK => v_slice_from (i := (i + 1)) Tryz.underlying24 Tryz.sizeOf39 rfl rfl (by omega) (by omega)) ?_
 refine RD_run [7] (by kernel_rfl) rfl (RDs.cons rfl ?_ RDs.nil)
 refine o_append_del 0 H i rfl hchk7 (by intro z cs hz u hu; obtain ⟨_, _, _, rfl, _⟩ := hz; simp at hu; rcases hu with rfl | rfl | rfl <;> rfl) Tryz.underlying24 Tryz.typeInfo39 rfl rfl rfl rfl (by omega) (by first | rfl | assumption | (simp; done) | (simp; omega) | omega) ?_; intro b12 w12 hb12 H hchk12; cases hb12
 refine R_nil ?_
 refine N_DK (Kn.of' H hd8 SubL.nil) ?_
 refine RD_t 8 rfl (by kernel_rfl) rfl (fun _ hK => v_assign rfl) ?_
 refine RD_done (by kernel_rfl) ?_
 refine N_K ?_
 refine W_seq ?_
 refine q2 ?_
 refine o_move rfl rfl ?_
 refine o_call Tryz.call84 rfl rfl (TreeValid_c _ _ (H.lendSub (k := 0) rfl) _ _ (H.lendRd (k := 0) rfl hchk12 (by first | assumption | rfl | (simp; done) | (simp; omega) | omega) (by first | assumption | (simp; done) | (simp; omega) | omega)) ) ?_
 rintro _ w13 ⟨rfl, ew13⟩; have H := H.step ew13; refine ⟨_, rfl, ?_⟩
 refine o_not rfl rfl ?_
 refine q3 ?_
 refine W_cond rfl ?_ ?_
 ·intro hc14
  try simp only [nrm] at hc14
  refine q2 ?_
  refine o_buildSlice H Tryz.underlying24 Tryz.sizeOf39 (fun w => ⟨_, Tryz.zeroValue39 w, rfl⟩) rfl rfl rfl rfl rfl rfl rfl ?_; intro b15 w15 hb15 H
  have H := H.blkAcc 3 (k := 0) (n := 0) rfl rfl (by decide)
  refine o_assign rfl rfl ?_
  refine o_assign rfl rfl ?_
  refine q3 ?_
  refine W_ret ?_
  refine N_K_ret ?_
  refine ret_gen (rs := [.tmp 4, .tmp 5]) (vs := [_, _]) Tryz.results157 ⟨rfl, rfl, trivial⟩ ?_
  obtain ⟨G516, H, hsg516, hsr516⟩ := H.shut' (k := 0) rfl (Chk.nil (E := itemE) (sz := 3) (G := G7)) (by first | assumption | (simp; done) | (simp; omega) | omega) (by first | assumption | (simp; done) | (simp; omega) | omega)
  have hlist := hlist.up hsg516
  have hchk7 := hchk7.up hsg516
  have hchk12 := hchk12.up hsg516
  have hY : Sp.TreeDrop list path = none := by simp [Sp.TreeDrop, hl, hc14]
  exact H.retP (by rw [hY]; exact ⟨_, rfl, hsr516⟩)
 intro hc14'
 try simp only [nrm] at hc14'
 refine W_skip ?_
 refine N_K ?_
 refine q2 ?_
 refine o_move rfl rfl ?_
 refine o_assign rfl rfl ?_
 refine o_assign rfl rfl ?_
 refine q3 ?_
 refine W_ret ?_
 refine ret_gen (rs := [.tmp 4, .tmp 5]) (vs := [_, _]) Tryz.results157 ⟨rfl, rfl, trivial⟩ ?_
 obtain ⟨G516, H, hsg516, hsr516⟩ := H.shut' (k := 0) rfl hchk12 (by first | assumption | (simp; done) | (simp; omega) | omega) (by first | assumption | (simp; done) | (simp; omega) | omega)
 have hlist := hlist.up hsg516
 have hchk7 := hchk7.up hsg516
 have hchk12 := hchk12.up hsg516
 have hY : Sp.TreeDrop list path = some (list.take i ++ list.drop (i + 1)) := by simp [Sp.TreeDrop, hl, hc3', hc14']
 exact H.retP (by rw [hY]; exact ⟨_, rfl, hsr516⟩)
end Go.Proofs.Tst

namespace Go.Proofs.Tst
open Go Fw
theorem l11Count_c (w0 : World) (G0 : PH) (hG : PSub G0 w0) (vlist : Value) (list : List (BItem)) (hlist : RdItems G0 vlist list) (id : Int) (hT : Sp.TreeValid list = true) :
  Calls Tryz.prog 86 #[vlist, .int .i64 id] w0 (Rets w0 (.int .i64 (Sp.l11Count list id : Int))) := by
 obtain ⟨alist, klist, rfl⟩ := hlist.shape
 have hlimlist : list.length ≤ 1099511627776 := hlist.lim
 have htl := Sp.tree_len hT
 have H := Hp.init hG
 refine calls_of_W (l := [.slice alist list.length klist, .int .i64 id]) Tryz.func86 rfl Tryz.ntmps86 rfl ?_
 refine q2 ?_
 refine o_assign rfl rfl ?_
 refine q1 ?_
 refine o_assign rfl rfl ?_
 refine q3 ?_
 refine W_seq ?_
 refine q2 ?_
 refine o_assign rfl rfl ?_
 refine q3 ?_
 refine W_block ?_
 refine W_loop (hf := (Sub.cons (t := 0) rfl (Sub.cons (t := 1) rfl (Sub.cons (t := 4) rfl Sub.nil)))) (J := fun M w m => ∃ (c k : Nat) (G : PH), M = [(5, .int .i64 (c : Int)), (6, .int .i64 (k : Int))] ∧ PLe G0 G ∧ Hp w0 G0 [] w G [] ∧ (k ≤ list.length ∧ c = Sp.cntU list id k) ∧ m = (list.length - k)) (h0 := ⟨0, 0, _, rfl, PLe.refl _, H, ?inv, rfl⟩) (hM := ?hM) (round := ?round)
 case hM => (repeat (first | exact Sub.nil | refine Sub.cons rfl ?_))
 case inv => exact ⟨by omega, by simp [Sp.cntU]⟩
 case round =>
  rintro _ w1 _ ⟨c, k, G1, rfl, hle1, H, hinv1, rfl⟩
  have hlist := hlist.up hle1
  obtain ⟨hk, hc⟩ := hinv1; have hcu := Sp.cntU_le hT k hk (id := id)
  refine W_seq ?_
  refine q2 ?_
  refine o_move rfl rfl ?_
  refine o_move rfl rfl ?_
  refine o_len_slice Tryz.underlying24 rfl rfl ?_
  refine o_lss rfl rfl rfl ?_
  refine q3 ?_
  refine W_cond rfl ?_ ?_
  ·intro hc2
   try simp only [nrm] at hc2
   refine W_skip ?_
   refine N_K ?_
   refine W_seq ?_
   refine W_block ?_
   refine q2 ?_
   refine o_assign rfl rfl ?_
   refine q3 ?_
   refine W_block ?_
   refine W_loop (hf := (Sub.cons (t := 0) rfl (Sub.cons (t := 1) rfl (Sub.cons (t := 4) rfl (Sub.cons (t := 6) rfl Sub.nil))))) (J := fun M w m => ∃ (c2 j : Nat) (y : BItem) (G : PH), M = [(5, .int .i64 (c2 : Int)), (7, .int .i64 (j : Int))] ∧ PLe G1 G ∧ Hp w0 G0 [] w G [] ∧ (list[k]? = some y ∧ j ≤ y.ids.length ∧ c2 = Sp.cntU list id k + Sp.cnt1 id (y.ids.take j)) ∧ m = (y.ids.length - j)) (h0 := ⟨c, 0, (list[k]'(by omega)), _, rfl, PLe.refl _, H, ?inv, rfl⟩) (hM := ?hM) (round := ?round)
   case hM => (repeat (first | exact Sub.nil | refine Sub.cons rfl ?_))
   case inv => exact ⟨by simp, by omega, by simp [hc, Sp.cnt1]⟩
   case round =>
    rintro _ w3 _ ⟨c2, j, y, G3, rfl, hle3, H, hinv3, rfl⟩
    have hlist := hlist.up hle3
    have hle1 := hle1.trans hle3
    obtain ⟨hy, hj, hc2⟩ := hinv3; have hc4 := (Sp.tree_at hT hy).2; have hc1 := Sp.cnt1_le id (y.ids.take j); have htk : (y.ids.take j).length ≤ j := by simp; omega
    refine W_seq ?_
    refine q2 ?_
    refine o_move rfl rfl ?_
    refine o_move rfl rfl ?_
    refine o_move rfl rfl ?_
    refine o_index_P _ hlist Tryz.underlying24 Tryz.sizeOf39 rfl rfl rfl rfl (by omega) ?_; intro b4 o4 z4 q4 hz4 hE4 hrow4
    obtain ⟨a4, m4, c4, rfl, hi4, hr4⟩ := hE4; have hy_hi4 : _ ≤ 16777216 := hi4; have hn_hr4 := hr4.len; have hx_hr4 : _ ≤ 1099511627776 := hr4.lim
    have hzz4 : y = z4 := Option.some.inj (hy.symm.trans hz4)
    subst hzz4
    refine o_fieldAddr 2 Tryz.runUnderlying39 rfl Tryz.sizeOf27 rfl rfl rfl ?_
    refine o_load_P H Tryz.isAgg27 rfl rfl (hrow4 2 _ rfl) ?_
    refine o_len_slice Tryz.underlying27 rfl rfl ?_
    refine o_lss rfl rfl rfl ?_
    refine q3 ?_
    refine W_cond rfl ?_ ?_
    ·intro hc5
     try simp only [nrm] at hc5
     refine W_skip ?_
     refine N_K ?_
     refine W_seq ?_
     refine W_block ?_
     refine q2 ?_
     refine o_move rfl rfl ?_
     refine o_move rfl rfl ?_
     refine o_index_P _ hlist Tryz.underlying24 Tryz.sizeOf39 rfl rfl rfl rfl (by omega) ?_; intro b6 o6 z6 q6 hz6 hE6 hrow6
     obtain ⟨a6, m6, c6, rfl, hi6, hr6⟩ := hE6; have hy_hi6 : _ ≤ 16777216 := hi6; have hn_hr6 := hr6.len; have hx_hr6 : _ ≤ 1099511627776 := hr6.lim
     have hzz6 : y = z6 := Option.some.inj (hy.symm.trans hz6)
     subst hzz6
     refine o_fieldAddr 2 Tryz.runUnderlying39 rfl Tryz.sizeOf27 rfl rfl rfl ?_
     refine o_load_P H Tryz.isAgg27 rfl rfl (hrow6 2 _ rfl) ?_
     refine o_move rfl rfl ?_
     refine o_index_P _ hr6 Tryz.underlying27 Tryz.sizeOf3 rfl rfl rfl rfl (by omega) ?_; intro b7 o7 z7 q7 hz7 hE7 hrow7
     obtain ⟨rfl, hi7⟩ := hE7
     refine o_load_P H Tryz.isAgg3 rfl rfl (hrow7 0 _ rfl) ?_
     refine o_move rfl rfl ?_
     refine o_eql rfl rfl rfl ?_
     refine q3 ?_
     refine W_cond rfl ?_ ?_
     ·intro hc8
      try simp only [nrm] at hc8
      refine W_region ?_
      refine o_move rfl rfl ?_
      refine o_add rfl rfl rfl ⟨by omega, by omega⟩ ?_
      refine o_assign rfl rfl ?_
      refine R_nil ?_
      refine N_B ?_
      refine N_K ?_
      refine W_region ?_
      refine o_move rfl rfl ?_
      refine o_add rfl rfl rfl ⟨by omega, by omega⟩ ?_
      refine o_assign rfl rfl ?_
      refine R_nil ?_
      refine N_LP (hJ := ⟨c2 + 1, j + 1, y, _, rfl, hle3, H, ?inv, rfl⟩) (hM := ?hM) (hf := ?hf) (hm := ?hm)
      case hM => (repeat (first | exact Sub.nil | refine Sub.cons rfl ?_))
      case hf => (repeat (first | exact Sub.nil | refine Sub.cons rfl ?_))
      case hm => omega
      case inv => exact ⟨hy, by omega, by rw [Sp.cnt1_succ hz7, if_pos (by omega), hc2]; omega⟩
     intro hc8'
     try simp only [nrm] at hc8'
     refine W_skip ?_
     refine N_B ?_
     refine N_K ?_
     refine W_region ?_
     refine o_move rfl rfl ?_
     refine o_add rfl rfl rfl ⟨by omega, by omega⟩ ?_
     refine o_assign rfl rfl ?_
     refine R_nil ?_
     refine N_LP (hJ := ⟨c2, j + 1, y, _, rfl, hle3, H, ?inv, rfl⟩) (hM := ?hM) (hf := ?hf) (hm := ?hm)
     case hM => (repeat (first | exact Sub.nil | refine Sub.cons rfl ?_))
     case hf => (repeat (first | exact Sub.nil | refine Sub.cons rfl ?_))
     case hm => omega
     case inv => exact ⟨hy, by omega, by rw [Sp.cnt1_succ hz7, if_neg (by omega), hc2]; omega⟩
    intro hc5'
    try simp only [nrm] at hc5'
    refine W_exit ?_
    refine N_K_exit ?_
    refine N_LP_exit ?_
    refine N_B_same ?_
    refine N_B ?_
    refine N_K ?_
    refine W_region ?_
    refine o_move rfl rfl ?_
    refine o_add rfl rfl rfl ⟨by omega, by omega⟩ ?_
    refine o_assign rfl rfl ?_
    refine R_nil ?_
    refine N_LP (hJ := ⟨c2, k + 1, _, rfl, hle1, H, ?inv, rfl⟩) (hM := ?hM) (hf := ?hf) (hm := ?hm)
    case hM => (repeat (first | exact Sub.nil | refine Sub.cons rfl ?_))
    case hf => (repeat (first | exact Sub.nil | refine Sub.cons rfl ?_))
    case hm => omega
    case inv => exact ⟨by omega, by rw [hc2, Sp.cntU_succ hy, List.take_of_length_le (by omega)]⟩
  intro hc2'
  try simp only [nrm] at hc2'
  refine W_exit ?_
  refine N_K_exit ?_
  refine N_LP_exit ?_
  refine N_B_same ?_
  refine N_K ?_
  refine q2 ?_
  refine o_move rfl rfl ?_
  refine o_assign rfl rfl ?_
  refine q3 ?_
  refine W_ret ?_
  refine ret_gen (rs := [.tmp 4]) (vs := [_]) Tryz.results86 ⟨rfl, trivial⟩ ?_
  obtain rfl : k = list.length := by omega
  exact H.rets (congrArg (Value.int .i64) (by rw [hc]; rfl))
theorem l11Files_c (w0 : World) (G0 : PH) (hG : PSub G0 w0) (vstore : Value) (store : List (BHeld)) (hstore : RdH G0 vstore store) (vlist : Value) (list : List (BItem)) (hlist : RdItems G0 vlist list)  :
  Calls Tryz.prog 85 #[vstore, vlist] w0 (Rets w0 (.bool (Sp.l11Files store list))) := by
 obtain ⟨astore, kstore, rfl⟩ := hstore.shape
 have hlimstore : store.length ≤ 1099511627776 := hstore.lim
 obtain ⟨alist, klist, rfl⟩ := hlist.shape
 have hlimlist : list.length ≤ 1099511627776 := hlist.lim
 have H := Hp.init hG
 refine calls_of_W (l := [.slice astore store.length kstore, .slice alist list.length klist]) Tryz.func85 rfl Tryz.ntmps85 rfl ?_
 refine q2 ?_
 refine o_assign rfl rfl ?_
 refine q3 ?_
 refine W_seq ?_
 refine q2 ?_
 refine o_assign rfl rfl ?_
 refine q3 ?_
 refine W_block ?_
 refine W_loop (hf := (Sub.cons (t := 0) rfl (Sub.cons (t := 1) rfl Sub.nil))) (J := fun M w m => ∃ (k : Nat) (G : PH), M = [(5, .int .i64 (k : Int))] ∧ PLe G0 G ∧ Hp w0 G0 [] w G [] ∧ (k ≤ list.length ∧ (list.take k).all (Sp.fileOk store) = true) ∧ m = (list.length - k)) (h0 := ⟨0, _, rfl, PLe.refl _, H, ?inv, rfl⟩) (hM := ?hM) (round := ?round)
 case hM => (repeat (first | exact Sub.nil | refine Sub.cons rfl ?_))
 case inv => exact ⟨by omega, by simp⟩
 case round =>
  rintro _ w1 _ ⟨k, G1, rfl, hle1, H, hinv1, rfl⟩
  have hstore := hstore.up hle1
  have hlist := hlist.up hle1
  obtain ⟨hk, hall⟩ := hinv1
  refine W_seq ?_
  refine q2 ?_
  refine o_move rfl rfl ?_
  refine o_move rfl rfl ?_
  refine o_len_slice Tryz.underlying24 rfl rfl ?_
  refine o_lss rfl rfl rfl ?_
  refine q3 ?_
  refine W_cond rfl ?_ ?_
  ·intro hc2
   try simp only [nrm] at hc2
   refine W_skip ?_
   refine N_K ?_
   refine W_seq ?_
   refine W_block ?_
   refine q2 ?_
   refine o_move rfl rfl ?_
   refine o_move rfl rfl ?_
   refine o_move rfl rfl ?_
   refine o_index_P _ hlist Tryz.underlying24 Tryz.sizeOf39 rfl rfl rfl rfl (by omega) ?_; intro b3 o3 z3 q3 hz3 hE3 hrow3
   obtain ⟨a3, m3, c3, rfl, hi3, hr3⟩ := hE3; have hy_hi3 : _ ≤ 16777216 := hi3; have hn_hr3 := hr3.len; have hx_hr3 : _ ≤ 1099511627776 := hr3.lim
   refine o_fieldAddr 2 Tryz.runUnderlying39 rfl Tryz.sizeOf27 rfl rfl rfl ?_
   refine o_load_P H Tryz.isAgg27 rfl rfl (hrow3 2 _ rfl) ?_
   refine o_call Tryz.call141 rfl rfl (l4Ids_c _ _ H.sub _ _ hstore _ _ hr3 ) ?_
   rintro _ w4 ⟨rfl, ew4⟩; have H := H.step ew4; refine ⟨_, rfl, ?_⟩
   refine o_not rfl rfl ?_
   refine q3 ?_
   refine W_cond rfl ?_ ?_
   ·intro hc5
    try simp only [nrm] at hc5
    refine q2 ?_
    refine o_assign rfl rfl ?_
    refine q3 ?_
    refine W_ret ?_
    refine N_B_ret ?_
    refine N_K_ret ?_
    refine N_LP_ret ?_
    refine N_B_ret ?_
    refine N_K_ret ?_
    refine ret_gen (rs := [.tmp 4]) (vs := [_]) Tryz.results85 ⟨rfl, trivial⟩ ?_
    exact H.rets (congrArg Value.bool (by rw [Sp.l11Files, Sp.all_false hz3 (by simp [Sp.fileOk, *])]))
   intro hc5'
   try simp only [nrm] at hc5'
   refine W_skip ?_
   refine N_B ?_
   refine N_K ?_
   refine W_region ?_
   refine o_move rfl rfl ?_
   refine o_add rfl rfl rfl ⟨by omega, by omega⟩ ?_
   refine o_assign rfl rfl ?_
   refine R_nil ?_
   refine N_LP (hJ := ⟨k + 1, _, rfl, hle1, H, ?inv, rfl⟩) (hM := ?hM) (hf := ?hf) (hm := ?hm)
   case hM => (repeat (first | exact Sub.nil | refine Sub.cons rfl ?_))
   case hf => (repeat (first | exact Sub.nil | refine Sub.cons rfl ?_))
   case hm => omega
   case inv => exact ⟨by omega, Sp.all_take hall hz3 (by simp [Sp.fileOk, *])⟩
  intro hc2'
  try simp only [nrm] at hc2'
  refine W_exit ?_
  refine N_K_exit ?_
  refine N_LP_exit ?_
  refine N_B_same ?_
  refine N_K ?_
  refine q2 ?_
  refine o_assign rfl rfl ?_
  refine q3 ?_
  refine W_ret ?_
  refine ret_gen (rs := [.tmp 4]) (vs := [_]) Tryz.results85 ⟨rfl, trivial⟩ ?_
  obtain rfl : k = list.length := by omega
  rw [List.take_length] at hall
  exact H.rets (congrArg Value.bool (by rw [Sp.l11Files, hall]))
theorem l11Ids_c (w0 : World) (G0 : PH) (hG : PSub G0 w0) (vlist : Value) (list : List (BItem)) (hlist : RdItems G0 vlist list) (path : Bs) (hpath : path.length ≤ 16777216)  :
  Calls Tryz.prog 89 #[vlist, str path] w0 (RetP w0 G0 (fun G v => RdItems G v (Sp.l11Ids list path))) := by
 obtain ⟨alist, klist, rfl⟩ := hlist.shape
 have hlimlist : list.length ≤ 1099511627776 := hlist.lim
 have H := Hp.init hG
 refine calls_of_W (l := [.slice alist list.length klist, str path]) Tryz.func89 rfl Tryz.ntmps89 rfl ?_
 refine q2 ?_
 refine o_assign rfl rfl ?_
 refine q1 ?_
 refine o_move rfl rfl ?_
 refine o_move rfl rfl ?_
 refine o_call Tryz.call100 rfl rfl (l5At_c _ _ H.sub _ _ hlist _ hpath ) ?_
 rintro _ w1 ⟨rfl, ew1⟩; have H := H.step ew1; refine ⟨_, rfl, ?_⟩
 refine o_assign rfl rfl ?_
 refine q3 ?_
 refine W_seq ?_
 refine q2 ?_
 refine o_move rfl rfl ?_
 refine o_lss rfl rfl rfl ?_
 refine o_move rfl rfl ?_
 refine R_case (t := 11) rfl ?_ ?_
 ·intro hc2
  try simp only [nrm] at hc2
  refine R_pass rfl (yl_ne rfl rfl rfl) ?_
  refine R_pass rfl (yl_ne rfl rfl rfl) ?_
  refine R_pass rfl (yl_ne rfl rfl rfl) ?_
  refine R_pass rfl (yl_ne rfl rfl rfl) ?_
  refine R_pass rfl (yl_ne rfl rfl rfl) ?_
  refine o_pick_t rfl rfl rfl ?_
  refine q3 ?_
  refine W_true rfl ?_
  refine q2 ?_
  refine o_buildSlice H Tryz.underlying24 Tryz.sizeOf39 (fun w => ⟨_, Tryz.zeroValue39 w, rfl⟩) rfl rfl rfl rfl rfl rfl rfl ?_; intro b3 w3 hb3 H
  have H := H.blkAcc 3 (k := 0) (n := 0) rfl rfl (by decide)
  refine o_assign rfl rfl ?_
  refine q3 ?_
  refine W_ret ?_
  refine N_K_ret ?_
  refine ret_gen (rs := [.tmp 4]) (vs := [_]) Tryz.results89 ⟨rfl, trivial⟩ ?_
  obtain ⟨G504, H, hsg504, hsr504⟩ := H.shut' (k := 0) rfl (Chk.nil (E := itemE) (sz := 3) (G := G0)) (by first | assumption | (simp; done) | (simp; omega) | omega) (by first | assumption | (simp; done) | (simp; omega) | omega)
  have hlist := hlist.up hsg504
  exact H.retP (by rw [show Sp.l11Ids list path = [] by simp [Sp.l11Ids, Sp.atI, Sp.at_none hc2]]; exact hsr504)
 intro hc2'
 try simp only [nrm] at hc2'
 obtain ⟨i, y, ia, ib, ic, ie, ig⟩ := Sp.at_nat hc2'
 have ib : Sp.l5At list path = (i : Int) := ib
 have hl : Sp.atI list path = some i := ia
 refine R_guard (yl rfl rfl) ?_
 refine o_move rfl rfl ?_
 refine R_guard (yl rfl rfl) ?_
 refine o_move rfl rfl ?_
 refine R_guard (yl rfl rfl) ?_
 refine o_index_P i hlist Tryz.underlying24 Tryz.sizeOf39 rfl rfl rfl ib (by omega) ?_; intro b4 o4 z4 q4 hz4 hE4 hrow4
 obtain ⟨a4, m4, c4, rfl, hi4, hr4⟩ := hE4; have hy_hi4 : _ ≤ 16777216 := hi4; have hn_hr4 := hr4.len; have hx_hr4 : _ ≤ 1099511627776 := hr4.lim
 refine R_guard (yl rfl rfl) ?_
 refine o_fieldAddr 1 Tryz.runUnderlying39 rfl Tryz.sizeOf4 rfl rfl rfl ?_
 refine R_guard (yl rfl rfl) ?_
 refine o_load_P H Tryz.isAgg4 rfl rfl (hrow4 1 _ rfl) ?_
 refine o_pick_f rfl rfl rfl ?_
 refine q3 ?_
 refine W_cond rfl ?_ ?_
 ·intro hc5
  try simp only [nrm] at hc5
  refine q2 ?_
  refine o_buildSlice H Tryz.underlying24 Tryz.sizeOf39 (fun w => ⟨_, Tryz.zeroValue39 w, rfl⟩) rfl rfl rfl rfl rfl rfl rfl ?_; intro b6 w6 hb6 H
  have H := H.blkAcc 3 (k := 0) (n := 0) rfl rfl (by decide)
  refine o_assign rfl rfl ?_
  refine q3 ?_
  refine W_ret ?_
  refine N_K_ret ?_
  refine ret_gen (rs := [.tmp 4]) (vs := [_]) Tryz.results89 ⟨rfl, trivial⟩ ?_
  obtain ⟨G507, H, hsg507, hsr507⟩ := H.shut' (k := 0) rfl (Chk.nil (E := itemE) (sz := 3) (G := G0)) (by first | assumption | (simp; done) | (simp; omega) | omega) (by first | assumption | (simp; done) | (simp; omega) | omega)
  have hlist := hlist.up hsg507
  have hr4 := hr4.up hsg507
  have hrow4 := hrow4.up hsg507
  exact H.retP (by rw [show Sp.l11Ids list path = [] by simp [Sp.l11Ids, hl, hz4, hc5]]; exact hsr507)
 intro hc5'
 try simp only [nrm] at hc5'
 refine W_skip ?_
 refine N_K ?_
 refine q2 ?_
 refine o_move rfl rfl ?_
 refine o_move rfl rfl ?_
 refine o_move rfl rfl ?_
 refine o_add rfl rfl rfl ⟨by omega, by omega⟩ ?_
 have hcap8 := hlist.cap
 refine o_slice (i := i) (j := (i + 1)) Tryz.underlying24 Tryz.sizeOf39 rfl rfl rfl rfl ib (by omega) (by omega) (by omega) ?_
 have hsl8 := hlist.part (i := i) (j := (i + 1)) (by omega) (by omega)
 refine o_assign rfl rfl ?_
 refine q3 ?_
 refine W_ret ?_
 refine ret_gen (rs := [.tmp 4]) (vs := [_]) Tryz.results89 ⟨rfl, trivial⟩ ?_
 exact H.retP (by rw [show Sp.l11Ids list path = (list.drop i).take (i + 1 - i) by simp [Sp.l11Ids, hl, hz4, hc5', Sp.drop_at hz4]]; exact hsl8)
end Go.Proofs.Tst

namespace Go.Proofs.Tst
open Go Fw
theorem VolumeValid_c (w0 : World) (G0 : PH) (hG : PSub G0 w0) (cv : List Value) (v : BVol) (hv : volE G0 v cv)  :
  Calls Tryz.prog 34 #[.agg cv.toArray] w0 (Rets w0 (.bool (Sp.VolumeValid v))) := by
 obtain ⟨a1, m1, c1, a1', m1', c1', rfl, hr1, hr1'⟩ := hv; have hn_hr1 := hr1.len; have hx_hr1 : _ ≤ 1099511627776 := hr1.lim; have hn_hr1q := hr1'.len; have hx_hr1q : _ ≤ 1099511627776 := hr1'.lim
 have H := Hp.init hG
 refine calls_of_W (l := [_]) Tryz.func34 rfl Tryz.ntmps34 rfl ?_
 refine q2 ?_
 refine o_box H rfl rfl rfl ?_; intro b2 w2 hb2 H
 refine o_assign rfl rfl ?_
 refine q3 ?_
 refine W_seq ?_
 refine q2 ?_
 refine o_fieldAddr 0 Tryz.runUnderlying26 rfl Tryz.sizeOf23 rfl rfl rfl ?_
 refine o_load_B 0 H Tryz.isAgg23 rfl rfl rfl rfl ?_
 refine o_call Tryz.call83 rfl rfl (StoreValid_c _ _ H.sub _ _ hr1 ) ?_
 rintro _ w3 ⟨rfl, ew3⟩; have H := H.step ew3; refine ⟨_, rfl, ?_⟩
 refine o_not rfl rfl ?_
 refine o_move rfl rfl ?_
 refine R_case (t := 8) rfl ?_ ?_
 ·intro hc4
  try simp only [nrm] at hc4
  refine R_pass rfl (yl_ne rfl rfl rfl) ?_
  refine R_pass rfl (yl_ne rfl rfl rfl) ?_
  refine R_pass rfl (yl_ne rfl rfl rfl) ?_
  refine R_pass rfl (yl_ne rfl rfl rfl) ?_
  refine o_pick_t rfl rfl rfl ?_
  refine o_move rfl rfl ?_
  refine R_pass rfl (yl_ne rfl rfl rfl) ?_
  refine R_pass rfl (yl_ne rfl rfl rfl) ?_
  refine R_pass rfl (yl_ne rfl rfl rfl) ?_
  refine R_pass rfl (yl_ne rfl rfl rfl) ?_
  refine R_pass rfl (yl_ne rfl rfl rfl) ?_
  refine R_pass rfl (yl_ne rfl rfl rfl) ?_
  refine o_pick_t rfl rfl rfl ?_
  refine q3 ?_
  refine W_true rfl ?_
  refine q2 ?_
  refine o_assign rfl rfl ?_
  refine q3 ?_
  refine W_ret ?_
  refine N_K_ret ?_
  refine ret_gen (rs := [.tmp 2]) (vs := [_]) Tryz.results34 ⟨rfl, trivial⟩ ?_
  exact H.rets (congrArg Value.bool (by simp [Sp.VolumeValid, hc4]))
 intro hc4'
 try simp only [nrm] at hc4'
 refine R_guard (yl rfl rfl) ?_
 refine o_fieldAddr 1 Tryz.runUnderlying26 rfl Tryz.sizeOf24 rfl rfl rfl ?_
 refine R_guard (yl rfl rfl) ?_
 refine o_load_B 0 H Tryz.isAgg24 rfl rfl rfl rfl ?_
 refine R_guard (yl rfl rfl) ?_
 refine o_call Tryz.call84 rfl rfl (TreeValid_c _ _ H.sub _ _ hr1' ) ?_
 rintro _ w5 ⟨rfl, ew5⟩; have H := H.step ew5; refine ⟨_, rfl, ?_⟩
 refine R_guard (yl rfl rfl) ?_
 refine o_not rfl rfl ?_
 refine o_pick_f rfl rfl rfl ?_
 refine o_move rfl rfl ?_
 refine R_case (t := 14) rfl ?_ ?_
 ·intro hc6
  try simp only [nrm] at hc6
  refine R_pass rfl (yl_ne rfl rfl rfl) ?_
  refine R_pass rfl (yl_ne rfl rfl rfl) ?_
  refine R_pass rfl (yl_ne rfl rfl rfl) ?_
  refine R_pass rfl (yl_ne rfl rfl rfl) ?_
  refine R_pass rfl (yl_ne rfl rfl rfl) ?_
  refine R_pass rfl (yl_ne rfl rfl rfl) ?_
  refine o_pick_t rfl rfl rfl ?_
  refine q3 ?_
  refine W_true rfl ?_
  refine q2 ?_
  refine o_assign rfl rfl ?_
  refine q3 ?_
  refine W_ret ?_
  refine N_K_ret ?_
  refine ret_gen (rs := [.tmp 2]) (vs := [_]) Tryz.results34 ⟨rfl, trivial⟩ ?_
  exact H.rets (congrArg Value.bool (by simp [Sp.VolumeValid, hc6]))
 intro hc6'
 try simp only [nrm] at hc6'
 refine R_guard (yl rfl rfl) ?_
 refine o_fieldAddr 0 Tryz.runUnderlying26 rfl Tryz.sizeOf23 rfl rfl rfl ?_
 refine R_guard (yl rfl rfl) ?_
 refine o_load_B 0 H Tryz.isAgg23 rfl rfl rfl rfl ?_
 refine R_guard (yl rfl rfl) ?_
 refine o_fieldAddr 1 Tryz.runUnderlying26 rfl Tryz.sizeOf24 rfl rfl rfl ?_
 refine R_guard (yl rfl rfl) ?_
 refine o_load_B 0 H Tryz.isAgg24 rfl rfl rfl rfl ?_
 refine R_guard (yl rfl rfl) ?_
 refine o_call Tryz.call85 rfl rfl (l11Files_c _ _ H.sub _ _ hr1 _ _ hr1' ) ?_
 rintro _ w7 ⟨rfl, ew7⟩; have H := H.step ew7; refine ⟨_, rfl, ?_⟩
 refine R_guard (yl rfl rfl) ?_
 refine o_not rfl rfl ?_
 refine o_pick_f rfl rfl rfl ?_
 refine q3 ?_
 refine W_cond rfl ?_ ?_
 ·intro hc8
  try simp only [nrm] at hc8
  refine q2 ?_
  refine o_assign rfl rfl ?_
  refine q3 ?_
  refine W_ret ?_
  refine N_K_ret ?_
  refine ret_gen (rs := [.tmp 2]) (vs := [_]) Tryz.results34 ⟨rfl, trivial⟩ ?_
  exact H.rets (congrArg Value.bool (by simp [Sp.VolumeValid, hc8]))
 intro hc8'
 try simp only [nrm] at hc8'
 refine W_skip ?_
 refine N_K ?_
 refine W_seq ?_
 refine q2 ?_
 refine o_assign rfl rfl ?_
 refine q3 ?_
 refine W_block ?_
 obtain ⟨ln9, hln9, H⟩ := H.name (k := 0) rfl
 refine W_loop (hf := (Sub.cons (t := 1) rfl Sub.nil)) (J := fun M w m => ∃ (k : Nat) (G : PH), M = [(3, .int .i64 (k : Int))] ∧ PLe G0 G ∧ Hp w0 G0 [] w G [blk b2 (cl ln9 26)] ∧ (k ≤ v.store.length ∧ (v.store.take k).all (Sp.usesOk v.tree) = true) ∧ m = (v.store.length - k)) (h0 := ⟨0, _, rfl, PLe.refl _, H, ?inv, rfl⟩) (hM := ?hM) (round := ?round)
 case hM => (repeat (first | exact Sub.nil | refine Sub.cons rfl ?_))
 case inv => exact ⟨by omega, by simp⟩
 case round =>
  rintro _ w10 _ ⟨k, G10, rfl, hle10, H, hinv10, rfl⟩
  subst hln9
  have hr1 := hr1.up hle10
  have hr1' := hr1'.up hle10
  obtain ⟨hk, hall⟩ := hinv10
  refine W_seq ?_
  refine q2 ?_
  refine o_move rfl rfl ?_
  refine o_fieldAddr 0 Tryz.runUnderlying26 rfl Tryz.sizeOf23 rfl rfl rfl ?_
  refine o_load_B 0 H Tryz.isAgg23 rfl rfl rfl rfl ?_
  refine o_len_slice Tryz.underlying23 rfl rfl ?_
  refine o_lss rfl rfl rfl ?_
  refine q3 ?_
  refine W_cond rfl ?_ ?_
  ·intro hc11
   try simp only [nrm] at hc11
   refine W_skip ?_
   refine N_K ?_
   refine W_seq ?_
   refine W_block ?_
   refine W_seq ?_
   refine W_drawK [0] 16 H (by kernel_rfl) rfl ?_; intro w12 H; have hd12 := PLe.refl G10
   refine RD_t 0 rfl (by kernel_rfl) rfl (fun _ hK => v_fieldAddr 1 Tryz.runUnderlying26 rfl Tryz.sizeOf24 rfl rfl) ?_
   refine RD_t 1 rfl (by kernel_rfl) rfl (fun _ hK => v_load_B 0 hK Tryz.isAgg24 rfl rfl rfl) ?_
   refine RD_t 2 rfl (by kernel_rfl) rfl (fun _ hK => v_fieldAddr 0 Tryz.runUnderlying26 rfl Tryz.sizeOf23 rfl rfl) ?_
   refine RD_t 3 rfl (by kernel_rfl) rfl (fun _ hK => v_load_B 0 hK Tryz.isAgg23 rfl rfl rfl) ?_
   refine RD_t 4 rfl (by kernel_rfl) rfl (fun _ hK => v_move rfl) ?_
   have hl13 := hr1.len
   obtain ⟨b13, o13, z13, q13, ha13, hz13, hq13, hE13, hrow13, _⟩ := hr1.at (i := k) (by omega)
   clear hq13
   obtain ⟨a13, m13, c13, rfl, hi13, hr13, hj13⟩ := hE13; have hn_hr13 := hr13.len; have hx_hr13 : _ ≤ 1099511627776 := hr13.lim
   refine RD_t 5 rfl (by kernel_rfl) rfl (fun _ hK => v_index_P (i := k) ha13 Tryz.underlying23 Tryz.sizeOf117 rfl rfl rfl (by omega)) ?_
   refine RD_t 6 rfl (by kernel_rfl) rfl (fun _ hK => v_fieldAddr 0 Tryz.runUnderlying117 rfl Tryz.sizeOf3 rfl rfl) ?_
   refine RD_t 7 rfl (by kernel_rfl) rfl (fun _ hK => v_load_P hK Tryz.isAgg3 rfl (hrow13 0 _ rfl)) ?_
   refine RD_t 9 rfl (by kernel_rfl) rfl (fun _ hK => v_fieldAddr 0 Tryz.runUnderlying26 rfl Tryz.sizeOf23 rfl rfl) ?_
   refine RD_t 10 rfl (by kernel_rfl) rfl (fun _ hK => v_load_B 0 hK Tryz.isAgg23 rfl rfl rfl) ?_
   refine RD_t 11 rfl (by kernel_rfl) rfl (fun _ hK => v_move rfl) ?_
   have hl14 := hr1.len
   obtain ⟨b14, o14, z14, q14, ha14, hz14, hq14, hE14, hrow14, _⟩ := hr1.at (i := k) (by omega)
   clear hq14
   obtain ⟨a14, m14, c14, rfl, hi14, hr14, hj14⟩ := hE14; have hn_hr14 := hr14.len; have hx_hr14 : _ ≤ 1099511627776 := hr14.lim
   have hzz14 : z13 = z14 := Option.some.inj (hz13.symm.trans hz14)
   subst hzz14
   refine RD_t 12 rfl (by kernel_rfl) rfl (fun _ hK => v_index_P (i := k) ha14 Tryz.underlying23 Tryz.sizeOf117 rfl rfl rfl (by omega)) ?_
   refine RD_t 13 rfl (by kernel_rfl) rfl (fun _ hK => v_fieldAddr 2 Tryz.runUnderlying117 rfl Tryz.sizeOf3 rfl rfl) ?_
   refine RD_t 14 rfl (by kernel_rfl) rfl (fun _ hK => v_load_P hK Tryz.isAgg3 rfl (hrow14 2 _ rfl)) ?_
   refine RD_run [8] (by kernel_rfl) rfl (RDs.cons rfl ?_ RDs.nil)
   refine o_call Tryz.call86 rfl rfl (l11Count_c _ _ H.sub _ _ hr1' _ hc6') ?_
   rintro _ w15 ⟨rfl, ew15⟩; have H := H.step ew15; refine ⟨_, rfl, ?_⟩
   refine R_nil ?_
   refine N_DK (Kn.of' H hd12 (SubL.cons 0 rfl SubL.nil)) ?_
   refine RD_t 15 rfl (by kernel_rfl) rfl (fun _ hK => v_neq rfl rfl) ?_
   refine RD_done (by kernel_rfl) ?_
   refine N_K ?_
   refine W_cond rfl ?_ ?_
   ·intro hc16
    try simp only [nrm] at hc16
    refine q2 ?_
    refine o_assign rfl rfl ?_
    refine q3 ?_
    refine W_ret ?_
    refine N_B_ret ?_
    refine N_K_ret ?_
    refine N_LP_ret ?_
    refine N_B_ret ?_
    refine N_K_ret ?_
    refine ret_gen (rs := [.tmp 2]) (vs := [_]) Tryz.results34 ⟨rfl, trivial⟩ ?_
    exact H.rets (congrArg Value.bool (by rw [Sp.VolumeValid, Sp.all_false hz13 (by simp [Sp.usesOk, *])]; rfl))
   intro hc16'
   try simp only [nrm] at hc16'
   refine W_skip ?_
   refine N_B ?_
   refine N_K ?_
   refine W_region ?_
   refine o_move rfl rfl ?_
   refine o_add rfl rfl rfl ⟨by omega, by omega⟩ ?_
   refine o_assign rfl rfl ?_
   refine R_nil ?_
   refine N_LP (hJ := ⟨k + 1, _, rfl, hle10, H, ?inv, rfl⟩) (hM := ?hM) (hf := ?hf) (hm := ?hm)
   case hM => (repeat (first | exact Sub.nil | refine Sub.cons rfl ?_))
   case hf => (repeat (first | exact Sub.nil | refine Sub.cons rfl ?_))
   case hm => omega
   case inv => exact ⟨by omega, Sp.all_take hall hz13 (by simp [Sp.usesOk, *])⟩
  intro hc11'
  try simp only [nrm] at hc11'
  refine W_exit ?_
  refine N_K_exit ?_
  refine N_LP_exit ?_
  refine N_B_same ?_
  refine N_K ?_
  refine q2 ?_
  refine o_assign rfl rfl ?_
  refine q3 ?_
  refine W_ret ?_
  refine ret_gen (rs := [.tmp 2]) (vs := [_]) Tryz.results34 ⟨rfl, trivial⟩ ?_
  obtain rfl : k = v.store.length := by omega
  rw [List.take_length] at hall
  exact H.rets (congrArg Value.bool (by simp [Sp.VolumeValid, hall, hc4', hc6', hc8']))
theorem VolumeDir_c (w0 : World) (G0 : PH) (hG : PSub G0 w0) (cv : List Value) (v : BVol) (hv : volE G0 v cv) (path : Bs) (hpath : path.length ≤ 16777216)  :
  Calls Tryz.prog 18 #[.agg cv.toArray, str path] w0 (RetO w0 G0 (fun G val r => ∃ u u1, val = .tuple #[.agg #[u, u1], .bool (Sp.VolumeDir v path).isSome] ∧ AccOf heldE 3 117 (((Sp.VolumeDir v path).map (·.store)).getD []) G u r ∧ RdItems G u1 (((Sp.VolumeDir v path).map (·.tree)).getD []))) := by
 obtain ⟨a1, m1, c1, a1', m1', c1', rfl, hr1, hr1'⟩ := hv; have hn_hr1 := hr1.len; have hx_hr1 : _ ≤ 1099511627776 := hr1.lim; have hn_hr1q := hr1'.len; have hx_hr1q : _ ≤ 1099511627776 := hr1'.lim
 have H := Hp.init hG
 refine calls_of_W (l := [_, str path]) Tryz.func18 rfl Tryz.ntmps18 rfl ?_
 refine q2 ?_
 refine o_box H rfl rfl rfl ?_; intro b2 w2 hb2 H
 refine o_alloc H Tryz.zeroValue26 rfl rfl ?_; intro b3 w3 hb3 H
 refine o_assign rfl rfl ?_
 refine q1 ?_
 refine o_fieldAddr 1 Tryz.runUnderlying26 rfl Tryz.sizeOf24 rfl rfl rfl ?_
 refine o_load_B 1 H Tryz.isAgg24 rfl rfl rfl rfl ?_
 refine o_move rfl rfl ?_
 refine o_build bf39 rfl rfl rfl ?_
 refine o_call Tryz.call47 rfl rfl (TreePut_c _ _ H.sub _ _ hr1' _ ⟨path, true, []⟩ ⟨_, _, _, rfl, hpath, (RdS.nil _ _ _)⟩ ) ?_
 rintro _ w4 ⟨G4, _, g4, rfl, u4_0, rfl, hr4_0⟩
 have H := H.grow g4
 have hr1 := hr1.up g4.le
 have hr1' := hr1'.up g4.le
 obtain ⟨a4_0, k4_0, rfl⟩ := hr4_0.shape; have hx_hr4_0 : _ ≤ 1099511627776 := hr4_0.lim
 refine ⟨_, rfl, ?_⟩
 refine o_move rfl rfl ?_
 refine o_extract rfl rfl rfl ?_
 refine o_extract rfl rfl rfl ?_
 refine o_assign rfl rfl ?_
 refine o_assign rfl rfl ?_
 refine q3 ?_
 refine W_seq ?_
 refine q2 ?_
 refine o_loadagg_B 1 H Tryz.isAgg26 Tryz.sizeOf26 rfl rfl rfl rfl rfl ?_
 refine o_call Tryz.call34 rfl rfl (VolumeValid_c _ _ H.sub _ _ ⟨_, _, _, _, _, _, rfl, hr1, hr1'⟩ ) ?_
 rintro _ w5 ⟨rfl, ew5⟩; have H := H.step ew5; refine ⟨_, rfl, ?_⟩
 refine o_not rfl rfl ?_
 refine o_move rfl rfl ?_
 refine R_case (t := 19) rfl ?_ ?_
 ·intro hc6
  try simp only [nrm] at hc6
  refine R_pass rfl (yl_ne rfl rfl rfl) ?_
  refine R_pass rfl (yl_ne rfl rfl rfl) ?_
  refine o_pick_t rfl rfl rfl ?_
  refine q3 ?_
  refine W_true rfl ?_
  refine q2 ?_
  refine o_build bf26 rfl rfl rfl ?_
  refine o_store_B 0 H Tryz.sizeOf26 rfl rfl rfl rfl rfl rfl rfl rfl ?_; intro w7 H
  refine o_assign rfl rfl ?_
  refine q3 ?_
  refine W_ret ?_
  refine N_K_ret ?_
  refine ret_gen (rs := [.cell 4 26, .tmp 5]) (vs := [_, _]) Tryz.results18 ⟨⟨_, rfl, load_blk 0 H Tryz.isAgg26 Tryz.sizeOf26 rfl rfl rfl⟩, rfl, trivial⟩ ?_
  have hN : Sp.VolumeDir v path = none := by simp [Sp.VolumeDir, hc6]
  have H := H.addNil 117 3
  exact H.retO (k := 0) rfl (by rw [hN]; exact ⟨_, _, rfl, AccOf.mk rfl Chk.nil, RdS.nil _ _ _⟩) (acc_nd _ _ _ _ _)
 intro hc6'
 try simp only [nrm] at hc6'
 refine R_guard (yl rfl rfl) ?_
 refine o_move rfl rfl ?_
 refine R_guard (yl rfl rfl) ?_
 refine o_not rfl rfl ?_
 refine o_pick_f rfl rfl rfl ?_
 refine q3 ?_
 refine W_cond rfl ?_ ?_
 ·intro hc8
  try simp only [nrm] at hc8
  refine q2 ?_
  refine o_build bf26 rfl rfl rfl ?_
  refine o_store_B 0 H Tryz.sizeOf26 rfl rfl rfl rfl rfl rfl rfl rfl ?_; intro w9 H
  refine o_assign rfl rfl ?_
  refine q3 ?_
  refine W_ret ?_
  refine N_K_ret ?_
  refine ret_gen (rs := [.cell 4 26, .tmp 5]) (vs := [_, _]) Tryz.results18 ⟨⟨_, rfl, load_blk 0 H Tryz.isAgg26 Tryz.sizeOf26 rfl rfl rfl⟩, rfl, trivial⟩ ?_
  have hN : Sp.VolumeDir v path = none := by (have hno : Sp.TreePut v.tree ⟨path, true, []⟩ = none := by simpa using hc8); simp [Sp.VolumeDir, hno]
  have H := H.addNil 117 3
  exact H.retO (k := 0) rfl (by rw [hN]; exact ⟨_, _, rfl, AccOf.mk rfl Chk.nil, RdS.nil _ _ _⟩) (acc_nd _ _ _ _ _)
 intro hc8'
 try simp only [nrm] at hc8'
 refine W_skip ?_
 refine N_K ?_
 refine q2 ?_
 refine o_fieldAddr 0 Tryz.runUnderlying26 rfl Tryz.sizeOf23 rfl rfl rfl ?_
 refine o_load_B 1 H Tryz.isAgg23 rfl rfl rfl rfl ?_
 refine o_call Tryz.call48 rfl rfl (l3Copy_c _ _ H.sub _ _ hr1 ) ?_
 rintro _ w10 ⟨G10, v10, _, g10, rfl, ⟨cs10, rfl, hchk10⟩, hp10, hq10, hs10⟩
 have H := H.growO g10 hp10 hq10 hs10; obtain ⟨av10, cv10, rfl⟩ := H.accShape (k := 0) rfl
 have hr1 := hr1.up g10.le
 have hr1' := hr1'.up g10.le
 have hr4_0 := hr4_0.up g10.le
 refine ⟨_, rfl, ?_⟩
 refine o_move rfl rfl ?_
 refine o_build bf26 rfl rfl rfl ?_
 refine o_store_B 1 H Tryz.sizeOf26 rfl rfl rfl rfl rfl rfl rfl rfl ?_; intro w11 H
 refine o_assign rfl rfl ?_
 refine q3 ?_
 refine W_ret ?_
 refine ret_gen (rs := [.cell 4 26, .tmp 5]) (vs := [_, _]) Tryz.results18 ⟨⟨_, rfl, load_blk 1 H Tryz.isAgg26 Tryz.sizeOf26 rfl rfl rfl⟩, rfl, trivial⟩ ?_
 have hY : Sp.VolumeDir v path = some ⟨v.store, (Sp.TreePut v.tree ⟨path, true, []⟩).getD []⟩ := by (obtain ⟨p, hp⟩ := Option.isSome_iff_exists.1 hc8'); simp [Sp.VolumeDir, hp, hc6']
 exact H.retO (k := 0) rfl (by rw [hY]; exact ⟨_, _, rfl, AccOf.mk (by first | rfl | assumption | (simp; done) | (simp; omega) | omega) hchk10, hr4_0⟩) (acc_nd _ _ _ _ _)
theorem l11Write_c (w0 : World) (G0 : PH) (hG : PSub G0 w0) (cv : List Value) (v : BVol) (hv : volE G0 v cv) (path : Bs) (hpath : path.length ≤ 16777216) (vbytes : Value) (bytes : List (Int)) (hbytes : RdI G0 vbytes bytes) (hS : bytes.length ≤ 1000000) :
  Calls Tryz.prog 36 #[.agg cv.toArray, str path, vbytes] w0 (RetO w0 G0 (fun G val r => ∃ u u1, val = .tuple #[.agg #[u, u1], .bool (Sp.l11Write v path bytes).isSome] ∧ AccOf heldE 3 117 (((Sp.l11Write v path bytes).map (·.store)).getD []) G u r ∧ RdItems G u1 (((Sp.l11Write v path bytes).map (·.tree)).getD []))) := by
 obtain ⟨a1, m1, c1, a1', m1', c1', rfl, hr1, hr1'⟩ := hv; have hn_hr1 := hr1.len; have hx_hr1 : _ ≤ 1099511627776 := hr1.lim; have hn_hr1q := hr1'.len; have hx_hr1q : _ ≤ 1099511627776 := hr1'.lim
 obtain ⟨abytes, kbytes, rfl⟩ := hbytes.shape
 have hlimbytes : bytes.length ≤ 1099511627776 := hbytes.lim
 have H := Hp.init hG
 refine calls_of_W (l := [_, str path, .slice abytes bytes.length kbytes]) Tryz.func36 rfl Tryz.ntmps36 rfl ?_
 refine q2 ?_
 refine o_box H rfl rfl rfl ?_; intro b2 w2 hb2 H
 refine o_alloc H Tryz.zeroValue26 rfl rfl ?_; intro b3 w3 hb3 H
 refine o_assign rfl rfl ?_
 refine q1 ?_
 refine o_fieldAddr 0 Tryz.runUnderlying26 rfl Tryz.sizeOf23 rfl rfl rfl ?_
 refine o_load_B 1 H Tryz.isAgg23 rfl rfl rfl rfl ?_
 refine o_move rfl rfl ?_
 refine o_call Tryz.call88 rfl rfl (FileStore_c _ _ H.sub _ _ hr1 _ _ hbytes (by omega)) ?_
 rintro _ w4 ⟨G4, _, _, g4, rfl, ⟨u4_0, u4_1, rfl, ⟨cs4, rfl, hchk4⟩, hr4_1⟩, hp4, hq4, hs4⟩
 have H := H.growO g4 hp4 hq4 hs4; obtain ⟨av4, cv4, rfl⟩ := H.accShape (k := 0) rfl
 have hr1 := hr1.up g4.le
 have hr1' := hr1'.up g4.le
 have hbytes := hbytes.up g4.le
 obtain ⟨a4_1, k4_1, rfl⟩ := hr4_1.shape; have hx_hr4_1 : _ ≤ 1099511627776 := hr4_1.lim
 refine ⟨_, rfl, ?_⟩
 have hfl := Sp.fileStore_len v.store bytes
 refine o_move rfl rfl ?_
 refine o_extract rfl rfl rfl ?_
 refine o_extract rfl rfl rfl ?_
 refine o_extract rfl rfl rfl ?_
 refine o_assign rfl rfl ?_
 refine o_assign rfl rfl ?_
 refine o_assign rfl rfl ?_
 refine q1 ?_
 refine o_fieldAddr 1 Tryz.runUnderlying26 rfl Tryz.sizeOf24 rfl rfl rfl ?_
 refine o_load_B 2 H Tryz.isAgg24 rfl rfl rfl rfl ?_
 refine o_move rfl rfl ?_
 refine o_move rfl rfl ?_
 refine o_build bf39 rfl rfl rfl ?_
 refine o_call Tryz.call47 rfl rfl (TreePut_c _ _ H.sub _ _ hr1' _ ⟨path, false, ((Sp.FileStore v.store bytes).map (·.2)).getD []⟩ ⟨_, _, _, rfl, hpath, hr4_1⟩ ) ?_
 rintro _ w5 ⟨G5, _, g5, rfl, u5_0, rfl, hr5_0⟩
 have H := H.grow g5
 have hr1 := hr1.up g5.le
 have hr1' := hr1'.up g5.le
 have hbytes := hbytes.up g5.le
 have hchk4 := hchk4.up g5.le
 have hr4_1 := hr4_1.up g5.le
 obtain ⟨a5_0, k5_0, rfl⟩ := hr5_0.shape; have hx_hr5_0 : _ ≤ 1099511627776 := hr5_0.lim
 refine ⟨_, rfl, ?_⟩
 refine o_move rfl rfl ?_
 refine o_extract rfl rfl rfl ?_
 refine o_extract rfl rfl rfl ?_
 refine o_assign rfl rfl ?_
 refine o_assign rfl rfl ?_
 refine q3 ?_
 refine W_seq ?_
 refine q2 ?_
 refine o_move rfl rfl ?_
 refine o_not rfl rfl ?_
 refine o_move rfl rfl ?_
 refine R_case (t := 35) rfl ?_ ?_
 ·intro hc6
  try simp only [nrm] at hc6
  refine R_pass rfl (yl_ne rfl rfl rfl) ?_
  refine R_pass rfl (yl_ne rfl rfl rfl) ?_
  refine o_pick_t rfl rfl rfl ?_
  refine q3 ?_
  refine W_true rfl ?_
  refine q2 ?_
  refine o_build bf26 rfl rfl rfl ?_
  refine o_store_B 1 H Tryz.sizeOf26 rfl rfl rfl rfl rfl rfl rfl rfl ?_; intro w7 H
  refine o_assign rfl rfl ?_
  refine q3 ?_
  refine W_ret ?_
  refine N_K_ret ?_
  refine ret_gen (rs := [.cell 6 26, .tmp 7]) (vs := [_, _]) Tryz.results36 ⟨⟨_, rfl, load_blk 1 H Tryz.isAgg26 Tryz.sizeOf26 rfl rfl rfl⟩, rfl, trivial⟩ ?_
  have hN : Sp.l11Write v path bytes = none := by exact Sp.l11Write_1 hc6
  have H := H.addNil 117 3
  exact H.retO (k := 0) rfl (by rw [hN]; exact ⟨_, _, rfl, AccOf.mk rfl Chk.nil, RdS.nil _ _ _⟩) (acc_nd _ _ _ _ _)
 intro hc6'
 try simp only [nrm] at hc6'
 refine R_guard (yl rfl rfl) ?_
 refine o_move rfl rfl ?_
 refine R_guard (yl rfl rfl) ?_
 refine o_not rfl rfl ?_
 refine o_pick_f rfl rfl rfl ?_
 refine q3 ?_
 refine W_cond rfl ?_ ?_
 ·intro hc8
  try simp only [nrm] at hc8
  refine q2 ?_
  refine o_build bf26 rfl rfl rfl ?_
  refine o_store_B 1 H Tryz.sizeOf26 rfl rfl rfl rfl rfl rfl rfl rfl ?_; intro w9 H
  refine o_assign rfl rfl ?_
  refine q3 ?_
  refine W_ret ?_
  refine N_K_ret ?_
  refine ret_gen (rs := [.cell 6 26, .tmp 7]) (vs := [_, _]) Tryz.results36 ⟨⟨_, rfl, load_blk 1 H Tryz.isAgg26 Tryz.sizeOf26 rfl rfl rfl⟩, rfl, trivial⟩ ?_
  have hN : Sp.l11Write v path bytes = none := by exact Sp.l11Write_2 hc8
  have H := H.addNil 117 3
  exact H.retO (k := 0) rfl (by rw [hN]; exact ⟨_, _, rfl, AccOf.mk rfl Chk.nil, RdS.nil _ _ _⟩) (acc_nd _ _ _ _ _)
 intro hc8'
 try simp only [nrm] at hc8'
 refine W_skip ?_
 refine N_K ?_
 refine q2 ?_
 refine o_fieldAddr 1 Tryz.runUnderlying26 rfl Tryz.sizeOf24 rfl rfl rfl ?_
 refine o_load_B 2 H Tryz.isAgg24 rfl rfl rfl rfl ?_
 refine o_move rfl rfl ?_
 refine o_call Tryz.call89 rfl rfl (l11Ids_c _ _ H.sub _ _ hr1' _ hpath ) ?_
 rintro _ w10 ⟨G10, u10_0, g10, rfl, hr10_0⟩
 have H := H.grow g10
 have hr1 := hr1.up g10.le
 have hr1' := hr1'.up g10.le
 have hbytes := hbytes.up g10.le
 have hchk4 := hchk4.up g10.le
 have hr4_1 := hr4_1.up g10.le
 have hr5_0 := hr5_0.up g10.le
 obtain ⟨a10_0, k10_0, rfl⟩ := hr10_0.shape; have hx_hr10_0 : _ ≤ 1099511627776 := hr10_0.lim
 refine ⟨_, rfl, ?_⟩
 refine o_assign rfl rfl ?_
 refine q3 ?_
 refine W_seq ?_
 refine q2 ?_
 refine o_move rfl rfl ?_
 refine o_len_slice Tryz.underlying24 rfl rfl ?_
 refine o_gtr rfl rfl rfl ?_
 refine q3 ?_
 refine W_cond rfl ?_ ?_
 ·intro hc11
  try simp only [nrm] at hc11
  refine q2 ?_
  refine o_move rfl rfl ?_
  refine o_move rfl rfl ?_
  refine o_index_P 0 hr10_0 Tryz.underlying24 Tryz.sizeOf39 rfl rfl rfl rfl (by omega) ?_; intro b12 o12 z12 q12 hz12 hE12 hrow12
  obtain ⟨a12, m12, c12, rfl, hi12, hr12⟩ := hE12; have hy_hi12 : _ ≤ 16777216 := hi12; have hn_hr12 := hr12.len; have hx_hr12 : _ ≤ 1099511627776 := hr12.lim
  refine o_fieldAddr 2 Tryz.runUnderlying39 rfl Tryz.sizeOf27 rfl rfl rfl ?_
  refine o_load_P H Tryz.isAgg27 rfl rfl (hrow12 2 _ rfl) ?_
  obtain ⟨G14, H, hsg14, hsr14⟩ := H.shut' (k := 0) rfl hchk4 (by first | assumption | (simp; done) | (simp; omega) | omega) (by first | assumption | (simp; done) | (simp; omega) | omega)
  have hr1 := hr1.up hsg14
  have hr1' := hr1'.up hsg14
  have hbytes := hbytes.up hsg14
  have hchk4 := hchk4.up hsg14
  have hr4_1 := hr4_1.up hsg14
  have hr5_0 := hr5_0.up hsg14
  have hr10_0 := hr10_0.up hsg14
  have hr12 := hr12.up hsg14
  have hrow12 := hrow12.up hsg14
  refine o_call Tryz.call90 rfl rfl (FileFree_c _ _ H.sub _ _ hsr14 _ _ hr12 ) ?_
  rintro _ w13 ⟨G13, _, _, g13, rfl, ⟨u13_0, rfl, ⟨cs13, rfl, hchk13⟩⟩, hp13, hq13, hs13⟩
  have H := H.growO g13 hp13 hq13 hs13; obtain ⟨av13, cv13, rfl⟩ := H.accShape (k := 0) rfl
  have hr1 := hr1.up g13.le
  have hr1' := hr1'.up g13.le
  have hbytes := hbytes.up g13.le
  have hchk4 := hchk4.up g13.le
  have hr4_1 := hr4_1.up g13.le
  have hr5_0 := hr5_0.up g13.le
  have hr10_0 := hr10_0.up g13.le
  have hr12 := hr12.up g13.le
  have hrow12 := hrow12.up g13.le
  have hsr14 := hsr14.up g13.le
  refine ⟨_, rfl, ?_⟩
  refine o_move rfl rfl ?_
  refine o_extract rfl rfl rfl ?_
  refine o_extract rfl rfl rfl ?_
  refine o_assign rfl rfl ?_
  refine o_assign rfl rfl ?_
  refine q3 ?_
  refine W_region ?_
  refine o_move rfl rfl ?_
  refine o_assign rfl rfl ?_
  refine q1 ?_
  refine o_move rfl rfl ?_
  refine o_move rfl rfl ?_
  refine o_build bf26 rfl rfl rfl ?_
  refine o_store_B 1 H Tryz.sizeOf26 rfl rfl rfl rfl rfl rfl rfl rfl ?_; intro w15 H
  refine o_assign rfl rfl ?_
  refine q3 ?_
  refine W_ret ?_
  refine ret_gen (rs := [.cell 6 26, .tmp 7]) (vs := [_, _]) Tryz.results36 ⟨⟨_, rfl, load_blk 1 H Tryz.isAgg26 Tryz.sizeOf26 rfl rfl rfl⟩, rfl, trivial⟩ ?_
  have hY : Sp.l11Write v path bytes = some ⟨(Sp.FileFree (((Sp.FileStore v.store bytes).map (·.1)).getD []) z12.ids).getD [], (Sp.TreePut v.tree ⟨path, false, ((Sp.FileStore v.store bytes).map (·.2)).getD []⟩).getD []⟩ := by rw [Sp.l11Write_3 hc6' hc8', Sp.freeOld_at hz12]
  exact H.retO (k := 0) rfl (by rw [hY]; exact ⟨_, _, rfl, AccOf.mk (by first | rfl | assumption | (simp; done) | (simp; omega) | omega) hchk13, hr5_0⟩) (acc_nd _ _ _ _ _)
 intro hc11'
 try simp only [nrm] at hc11'
 refine W_skip ?_
 refine N_K ?_
 refine q2 ?_
 refine o_move rfl rfl ?_
 refine o_move rfl rfl ?_
 refine o_build bf26 rfl rfl rfl ?_
 refine o_store_B 1 H Tryz.sizeOf26 rfl rfl rfl rfl rfl rfl rfl rfl ?_; intro w16 H
 refine o_assign rfl rfl ?_
 refine q3 ?_
 refine W_ret ?_
 refine ret_gen (rs := [.cell 6 26, .tmp 7]) (vs := [_, _]) Tryz.results36 ⟨⟨_, rfl, load_blk 1 H Tryz.isAgg26 Tryz.sizeOf26 rfl rfl rfl⟩, rfl, trivial⟩ ?_
 have hY : Sp.l11Write v path bytes = some ⟨((Sp.FileStore v.store bytes).map (·.1)).getD [], (Sp.TreePut v.tree ⟨path, false, ((Sp.FileStore v.store bytes).map (·.2)).getD []⟩).getD []⟩ := by rw [Sp.l11Write_3 hc6' hc8', Sp.freeOld_nil (by omega)]
 exact H.retO (k := 0) rfl (by rw [hY]; exact ⟨_, _, rfl, AccOf.mk (by first | rfl | assumption | (simp; done) | (simp; omega) | omega) hchk4, hr5_0⟩) (acc_nd _ _ _ _ _)
theorem VolumeWrite_c (w0 : World) (G0 : PH) (hG : PSub G0 w0) (cv : List Value) (v : BVol) (hv : volE G0 v cv) (path : Bs) (hpath : path.length ≤ 16777216) (vbytes : Value) (bytes : List (Int)) (hbytes : RdI G0 vbytes bytes)  :
  Calls Tryz.prog 9 #[.agg cv.toArray, str path, vbytes] w0 (RetO w0 G0 (fun G val r => ∃ u u1, val = .tuple #[.agg #[u, u1], .bool (Sp.VolumeWrite v path bytes).isSome] ∧ AccOf heldE 3 117 (((Sp.VolumeWrite v path bytes).map (·.store)).getD []) G u r ∧ RdItems G u1 (((Sp.VolumeWrite v path bytes).map (·.tree)).getD []))) := by
 obtain ⟨a1, m1, c1, a1', m1', c1', rfl, hr1, hr1'⟩ := hv; have hn_hr1 := hr1.len; have hx_hr1 : _ ≤ 1099511627776 := hr1.lim; have hn_hr1q := hr1'.len; have hx_hr1q : _ ≤ 1099511627776 := hr1'.lim
 obtain ⟨abytes, kbytes, rfl⟩ := hbytes.shape
 have hlimbytes : bytes.length ≤ 1099511627776 := hbytes.lim
 have H := Hp.init hG
 refine calls_of_W (l := [_, str path, .slice abytes bytes.length kbytes]) Tryz.func9 rfl Tryz.ntmps9 rfl ?_
 refine q2 ?_
 refine o_box H rfl rfl rfl ?_; intro b2 w2 hb2 H
 refine o_alloc H Tryz.zeroValue26 rfl rfl ?_; intro b3 w3 hb3 H
 refine o_assign rfl rfl ?_
 refine q3 ?_
 refine W_seq ?_
 refine q2 ?_
 refine o_loadagg_B 1 H Tryz.isAgg26 Tryz.sizeOf26 rfl rfl rfl rfl rfl ?_
 refine o_call Tryz.call34 rfl rfl (VolumeValid_c _ _ H.sub _ _ ⟨_, _, _, _, _, _, rfl, hr1, hr1'⟩ ) ?_
 rintro _ w4 ⟨rfl, ew4⟩; have H := H.step ew4; refine ⟨_, rfl, ?_⟩
 refine o_not rfl rfl ?_
 refine o_move rfl rfl ?_
 refine R_case (t := 11) rfl ?_ ?_
 ·intro hc5
  try simp only [nrm] at hc5
  refine R_pass rfl (yl_ne rfl rfl rfl) ?_
  refine R_pass rfl (yl_ne rfl rfl rfl) ?_
  refine R_pass rfl (yl_ne rfl rfl rfl) ?_
  refine o_pick_t rfl rfl rfl ?_
  refine q3 ?_
  refine W_true rfl ?_
  refine q2 ?_
  refine o_build bf26 rfl rfl rfl ?_
  refine o_store_B 0 H Tryz.sizeOf26 rfl rfl rfl rfl rfl rfl rfl rfl ?_; intro w6 H
  refine o_assign rfl rfl ?_
  refine q3 ?_
  refine W_ret ?_
  refine N_K_ret ?_
  refine ret_gen (rs := [.cell 6 26, .tmp 7]) (vs := [_, _]) Tryz.results9 ⟨⟨_, rfl, load_blk 0 H Tryz.isAgg26 Tryz.sizeOf26 rfl rfl rfl⟩, rfl, trivial⟩ ?_
  have hN : Sp.VolumeWrite v path bytes = none := by simp [Sp.VolumeWrite, hc5]
  have H := H.addNil 117 3
  exact H.retO (k := 0) rfl (by rw [hN]; exact ⟨_, _, rfl, AccOf.mk rfl Chk.nil, RdS.nil _ _ _⟩) (acc_nd _ _ _ _ _)
 intro hc5'
 try simp only [nrm] at hc5'
 refine R_guard (yl rfl rfl) ?_
 refine o_move rfl rfl ?_
 refine R_guard (yl rfl rfl) ?_
 refine o_call Tryz.call35 rfl rfl (FileValid_c _ _ H.sub _ _ hbytes ) ?_
 rintro _ w7 ⟨rfl, ew7⟩; have H := H.step ew7; refine ⟨_, rfl, ?_⟩
 refine R_guard (yl rfl rfl) ?_
 refine o_not rfl rfl ?_
 refine o_pick_f rfl rfl rfl ?_
 refine q3 ?_
 refine W_cond rfl ?_ ?_
 ·intro hc8
  try simp only [nrm] at hc8
  refine q2 ?_
  refine o_build bf26 rfl rfl rfl ?_
  refine o_store_B 0 H Tryz.sizeOf26 rfl rfl rfl rfl rfl rfl rfl rfl ?_; intro w9 H
  refine o_assign rfl rfl ?_
  refine q3 ?_
  refine W_ret ?_
  refine N_K_ret ?_
  refine ret_gen (rs := [.cell 6 26, .tmp 7]) (vs := [_, _]) Tryz.results9 ⟨⟨_, rfl, load_blk 0 H Tryz.isAgg26 Tryz.sizeOf26 rfl rfl rfl⟩, rfl, trivial⟩ ?_
  have hN : Sp.VolumeWrite v path bytes = none := by simp [Sp.VolumeWrite, hc8]
  have H := H.addNil 117 3
  exact H.retO (k := 0) rfl (by rw [hN]; exact ⟨_, _, rfl, AccOf.mk rfl Chk.nil, RdS.nil _ _ _⟩) (acc_nd _ _ _ _ _)
 intro hc8'
 try simp only [nrm] at hc8'
 have hfl := Sp.file_len hc8'
 refine W_skip ?_
 refine N_K ?_
 refine q2 ?_
 refine o_loadagg_B 1 H Tryz.isAgg26 Tryz.sizeOf26 rfl rfl rfl rfl rfl ?_
 refine o_move rfl rfl ?_
 refine o_move rfl rfl ?_
 refine o_call Tryz.call36 rfl rfl (l11Write_c _ _ H.sub _ _ ⟨_, _, _, _, _, _, rfl, hr1, hr1'⟩ _ hpath _ _ hbytes (by omega)) ?_
 rintro _ w10 ⟨G10, _, _, g10, rfl, ⟨u10_0, u10_1, rfl, ⟨cs10, rfl, hchk10⟩, hr10_1⟩, hp10, hq10, hs10⟩
 have H := H.growO g10 hp10 hq10 hs10; obtain ⟨av10, cv10, rfl⟩ := H.accShape (k := 0) rfl
 have hr1 := hr1.up g10.le
 have hr1' := hr1'.up g10.le
 have hbytes := hbytes.up g10.le
 obtain ⟨a10_1, k10_1, rfl⟩ := hr10_1.shape; have hx_hr10_1 : _ ≤ 1099511627776 := hr10_1.lim
 refine ⟨_, rfl, ?_⟩
 refine o_extract rfl rfl rfl ?_
 refine o_extract rfl rfl rfl ?_
 refine o_store_B 1 H Tryz.sizeOf26 rfl rfl rfl rfl rfl rfl rfl rfl ?_; intro w11 H
 refine o_assign rfl rfl ?_
 refine q3 ?_
 refine W_ret ?_
 refine ret_gen (rs := [.cell 6 26, .tmp 7]) (vs := [_, _]) Tryz.results9 ⟨⟨_, rfl, load_blk 1 H Tryz.isAgg26 Tryz.sizeOf26 rfl rfl rfl⟩, rfl, trivial⟩ ?_
 have hY : Sp.VolumeWrite v path bytes = Sp.l11Write v path bytes := by simp [Sp.VolumeWrite, hc5', hc8']
 exact H.retO (k := 0) rfl (by rw [hY]; exact ⟨_, _, rfl, AccOf.mk (by first | rfl | assumption | (simp; done) | (simp; omega) | omega) hchk10, hr10_1⟩) (acc_nd _ _ _ _ _)
theorem VolumeDrop_c (w0 : World) (G0 : PH) (hG : PSub G0 w0) (cv : List Value) (v : BVol) (hv : volE G0 v cv) (path : Bs) (hpath : path.length ≤ 16777216)  :
  Calls Tryz.prog 126 #[.agg cv.toArray, str path] w0 (RetO w0 G0 (fun G val r => ∃ u u1, val = .tuple #[.agg #[u, u1], .bool (Sp.VolumeDrop v path).isSome] ∧ AccOf heldE 3 117 (((Sp.VolumeDrop v path).map (·.store)).getD []) G u r ∧ RdItems G u1 (((Sp.VolumeDrop v path).map (·.tree)).getD []))) := by
 obtain ⟨a1, m1, c1, a1', m1', c1', rfl, hr1, hr1'⟩ := hv; have hn_hr1 := hr1.len; have hx_hr1 : _ ≤ 1099511627776 := hr1.lim; have hn_hr1q := hr1'.len; have hx_hr1q : _ ≤ 1099511627776 := hr1'.lim
 have H := Hp.init hG
 refine calls_of_W (l := [_, str path]) Tryz.func126 rfl Tryz.ntmps126 rfl ?_
 refine q2 ?_
 refine o_box H rfl rfl rfl ?_; intro b2 w2 hb2 H
 refine o_alloc H Tryz.zeroValue26 rfl rfl ?_; intro b3 w3 hb3 H
 refine o_assign rfl rfl ?_
 refine q1 ?_
 refine o_fieldAddr 1 Tryz.runUnderlying26 rfl Tryz.sizeOf24 rfl rfl rfl ?_
 refine o_load_B 1 H Tryz.isAgg24 rfl rfl rfl rfl ?_
 refine o_move rfl rfl ?_
 refine o_call Tryz.call157 rfl rfl (TreeDrop_c _ _ H.sub _ _ hr1' _ hpath ) ?_
 rintro _ w4 ⟨G4, _, g4, rfl, u4_0, rfl, hr4_0⟩
 have H := H.grow g4
 have hr1 := hr1.up g4.le
 have hr1' := hr1'.up g4.le
 obtain ⟨a4_0, k4_0, rfl⟩ := hr4_0.shape; have hx_hr4_0 : _ ≤ 1099511627776 := hr4_0.lim
 refine ⟨_, rfl, ?_⟩
 refine o_move rfl rfl ?_
 refine o_extract rfl rfl rfl ?_
 refine o_extract rfl rfl rfl ?_
 refine o_assign rfl rfl ?_
 refine o_assign rfl rfl ?_
 refine q3 ?_
 refine W_seq ?_
 refine q2 ?_
 refine o_loadagg_B 1 H Tryz.isAgg26 Tryz.sizeOf26 rfl rfl rfl rfl rfl ?_
 refine o_call Tryz.call34 rfl rfl (VolumeValid_c _ _ H.sub _ _ ⟨_, _, _, _, _, _, rfl, hr1, hr1'⟩ ) ?_
 rintro _ w5 ⟨rfl, ew5⟩; have H := H.step ew5; refine ⟨_, rfl, ?_⟩
 refine o_not rfl rfl ?_
 refine o_move rfl rfl ?_
 refine R_case (t := 20) rfl ?_ ?_
 ·intro hc6
  try simp only [nrm] at hc6
  refine R_pass rfl (yl_ne rfl rfl rfl) ?_
  refine R_pass rfl (yl_ne rfl rfl rfl) ?_
  refine o_pick_t rfl rfl rfl ?_
  refine q3 ?_
  refine W_true rfl ?_
  refine q2 ?_
  refine o_build bf26 rfl rfl rfl ?_
  refine o_store_B 0 H Tryz.sizeOf26 rfl rfl rfl rfl rfl rfl rfl rfl ?_; intro w7 H
  refine o_assign rfl rfl ?_
  refine q3 ?_
  refine W_ret ?_
  refine N_K_ret ?_
  refine ret_gen (rs := [.cell 4 26, .tmp 5]) (vs := [_, _]) Tryz.results126 ⟨⟨_, rfl, load_blk 0 H Tryz.isAgg26 Tryz.sizeOf26 rfl rfl rfl⟩, rfl, trivial⟩ ?_
  have hN : Sp.VolumeDrop v path = none := by simp [Sp.VolumeDrop, hc6]
  have H := H.addNil 117 3
  exact H.retO (k := 0) rfl (by rw [hN]; exact ⟨_, _, rfl, AccOf.mk rfl Chk.nil, RdS.nil _ _ _⟩) (acc_nd _ _ _ _ _)
 intro hc6'
 try simp only [nrm] at hc6'
 refine R_guard (yl rfl rfl) ?_
 refine o_move rfl rfl ?_
 refine R_guard (yl rfl rfl) ?_
 refine o_not rfl rfl ?_
 refine o_pick_f rfl rfl rfl ?_
 refine q3 ?_
 refine W_cond rfl ?_ ?_
 ·intro hc8
  try simp only [nrm] at hc8
  refine q2 ?_
  refine o_build bf26 rfl rfl rfl ?_
  refine o_store_B 0 H Tryz.sizeOf26 rfl rfl rfl rfl rfl rfl rfl rfl ?_; intro w9 H
  refine o_assign rfl rfl ?_
  refine q3 ?_
  refine W_ret ?_
  refine N_K_ret ?_
  refine ret_gen (rs := [.cell 4 26, .tmp 5]) (vs := [_, _]) Tryz.results126 ⟨⟨_, rfl, load_blk 0 H Tryz.isAgg26 Tryz.sizeOf26 rfl rfl rfl⟩, rfl, trivial⟩ ?_
  have hN : Sp.VolumeDrop v path = none := by (have hno : Sp.TreeDrop v.tree path = none := by simpa using hc8); simp [Sp.VolumeDrop, hno]
  have H := H.addNil 117 3
  exact H.retO (k := 0) rfl (by rw [hN]; exact ⟨_, _, rfl, AccOf.mk rfl Chk.nil, RdS.nil _ _ _⟩) (acc_nd _ _ _ _ _)
 intro hc8'
 try simp only [nrm] at hc8'
 obtain ⟨i, x, ia, ib, ic, ie⟩ := Sp.treeDrop_at hc8'
 refine W_skip ?_
 refine N_K ?_
 refine W_seq ?_
 refine W_drawK [0, 1] 17 H (by kernel_rfl) rfl ?_; intro w10 H; have hd10 := PLe.refl G4
 refine RD_t 0 rfl (by kernel_rfl) rfl (fun _ hK => v_fieldAddr 0 Tryz.runUnderlying26 rfl Tryz.sizeOf23 rfl rfl) ?_
 refine RD_t 1 rfl (by kernel_rfl) rfl (fun _ hK => v_load_B 1 hK Tryz.isAgg23 rfl rfl rfl) ?_
 refine RD_t 2 rfl (by kernel_rfl) rfl (fun _ hK => v_fieldAddr 1 Tryz.runUnderlying26 rfl Tryz.sizeOf24 rfl rfl) ?_
 refine RD_t 3 rfl (by kernel_rfl) rfl (fun _ hK => v_load_B 1 hK Tryz.isAgg24 rfl rfl rfl) ?_
 refine RD_t 4 rfl (by kernel_rfl) rfl (fun _ hK => v_fieldAddr 1 Tryz.runUnderlying26 rfl Tryz.sizeOf24 rfl rfl) ?_
 refine RD_t 5 rfl (by kernel_rfl) rfl (fun _ hK => v_load_B 1 hK Tryz.isAgg24 rfl rfl rfl) ?_
 refine RD_t 6 rfl (by kernel_rfl) rfl (fun _ hK => v_move rfl) ?_
 refine RD_run [7] (by kernel_rfl) rfl (RDs.cons rfl ?_ RDs.nil)
 refine o_call Tryz.call100 rfl rfl (l5At_c _ _ H.sub _ _ hr1' _ hpath ) ?_
 rintro _ w11 ⟨rfl, ew11⟩; have H := H.step ew11; refine ⟨_, rfl, ?_⟩
 refine R_nil ?_
 refine N_DK (Kn.of' H hd10 (SubL.cons 0 rfl (SubL.cons 1 rfl SubL.nil))) ?_
 have hl12 := hr1'.len
 obtain ⟨b12, o12, z12, q12, ha12, hz12, hq12, hE12, hrow12, _⟩ := hr1'.at (i := i) (by omega)
 clear hq12
 obtain ⟨a12, m12, c12, rfl, hi12, hr12⟩ := hE12; have hy_hi12 : _ ≤ 16777216 := hi12; have hn_hr12 := hr12.len; have hx_hr12 : _ ≤ 1099511627776 := hr12.lim
 refine RD_t 8 rfl (by kernel_rfl) rfl (fun _ hK => v_index_P (i := i) ha12 Tryz.underlying24 Tryz.sizeOf39 rfl rfl ib (by omega)) ?_
 refine RD_t 9 rfl (by kernel_rfl) rfl (fun _ hK => v_fieldAddr 2 Tryz.runUnderlying39 rfl Tryz.sizeOf27 rfl rfl) ?_
 refine RD_t 10 rfl (by kernel_rfl) rfl (fun _ hK => v_load_P hK Tryz.isAgg27 rfl (hrow12 2 _ rfl)) ?_
 refine RD_run [11] (by kernel_rfl) rfl (RDs.cons rfl ?_ RDs.nil)
 refine o_call Tryz.call90 rfl rfl (FileFree_c _ _ H.sub _ _ hr1 _ _ hr12 ) ?_
 rintro _ w13 ⟨G13, _, _, g13, rfl, ⟨u13_0, rfl, ⟨cs13, rfl, hchk13⟩⟩, hp13, hq13, hs13⟩
 have H := H.growO g13 hp13 hq13 hs13; obtain ⟨av13, cv13, rfl⟩ := H.accShape (k := 0) rfl
 have hr1 := hr1.up g13.le
 have hr1' := hr1'.up g13.le
 have hr4_0 := hr4_0.up g13.le
 have hr12 := hr12.up g13.le
 have hrow12 := hrow12.up g13.le
 have hd10 := hd10.trans g13.le
 refine ⟨_, rfl, ?_⟩
 refine R_nil ?_
 refine N_DK (Kn.of' H hd10 (SubL.cons 1 rfl (SubL.cons 2 rfl SubL.nil))) ?_
 refine RD_t 12 rfl (by kernel_rfl) rfl (fun _ hK => v_move rfl) ?_
 refine RD_t 13 rfl (by kernel_rfl) rfl (fun _ hK => v_extract rfl rfl) ?_
 refine RD_t 14 rfl (by kernel_rfl) rfl (fun _ hK => v_extract rfl rfl) ?_
 refine RD_t 15 rfl (by kernel_rfl) rfl (fun _ hK => v_assign rfl) ?_
 refine RD_t 16 rfl (by kernel_rfl) rfl (fun _ hK => v_assign rfl) ?_
 refine RD_done (by kernel_rfl) ?_
 refine N_K ?_
 refine q2 ?_
 refine o_move rfl rfl ?_
 refine o_move rfl rfl ?_
 refine o_build bf26 rfl rfl rfl ?_
 refine o_store_B 1 H Tryz.sizeOf26 rfl rfl rfl rfl rfl rfl rfl rfl ?_; intro w14 H
 refine o_assign rfl rfl ?_
 refine q3 ?_
 refine W_ret ?_
 refine ret_gen (rs := [.cell 4 26, .tmp 5]) (vs := [_, _]) Tryz.results126 ⟨⟨_, rfl, load_blk 1 H Tryz.isAgg26 Tryz.sizeOf26 rfl rfl rfl⟩, rfl, trivial⟩ ?_
 have hY : Sp.VolumeDrop v path = some ⟨(Sp.FileFree v.store z12.ids).getD [], (Sp.TreeDrop v.tree path).getD []⟩ := by (obtain ⟨p, hp⟩ := Option.isSome_iff_exists.1 hc8'); simp [Sp.VolumeDrop, hc6', hp, ia, hz12]
 exact H.retO (k := 0) rfl (by rw [hY]; exact ⟨_, _, rfl, AccOf.mk (by first | rfl | assumption | (simp; done) | (simp; omega) | omega) hchk13, hr4_0⟩) (acc_nd _ _ _ _ _)
end Go.Proofs.Tst

namespace Go.Proofs.Tst
open Go Fw
end Go.Proofs.Tst

namespace Go.Proofs.Tst
open Go Fw
end Go.Proofs.Tst

namespace Go.Proofs.Tst
open Go Fw
end Go.Proofs.Tst

namespace Go.Proofs.Tst
open Go Fw
end Go.Proofs.Tst

namespace Go.Proofs.Tst
open Go Fw
end Go.Proofs.Tst

namespace Go.Proofs.Tst
open Go Fw
end Go.Proofs.Tst

namespace Go.Proofs.Tst
open Go Fw
theorem pick_c (w0 : World) (G0 : PH) (hG : PSub G0 w0) (rb : Nat) (ab : Option Addr) (mb kb : Nat) (bs : List UInt8) (p : Nat) (hbs : RdU G0 (.slice ab mb kb) bs) (hrb : w0.heap[rb]? = some (cl [.slice ab mb kb, .int .i64 (p : Int)] 114)) (hrn : G0 rb = none) (hp : p ≤ 1000000000000) (n : Int) (hn : inI n)  :
  Calls Tryz.prog 43 #[.pointer (some ⟨rb, 0, none⟩), .int .i64 n] w0 (RetM w0 G0 [rb] (fun G val Bs => ∃ (p' : Nat) (x : Nat), p' ≤ p + 1 ∧ val = .int .i64 (x : Int) ∧ ((x : Int) < n ∨ x = 0) ∧ Bs = [blk rb (cl [.slice ab mb kb, .int .i64 (p' : Int)] 114)])) := by
 have hlimbs : bs.length ≤ 1099511627776 := hbs.lim; obtain rfl : mb = bs.length := hbs.len
 have H := Hp.initM hG hrb hrn
 refine calls_of_W (l := [.pointer (some ⟨rb, 0, none⟩), .int .i64 n]) Tryz.func43 rfl Tryz.ntmps43 rfl ?_
 refine q2 ?_
 refine o_assign rfl rfl ?_
 refine q1 ?_
 refine o_move rfl rfl ?_
 refine o_move rfl rfl ?_
 refine o_nilCheck rfl rfl ?_
 refine o_fieldAddr 1 Tryz.runUnderlying114 rfl Tryz.sizeOf3 rfl rfl rfl ?_
 refine o_load_B 0 H Tryz.isAgg3 rfl rfl rfl rfl ?_
 refine o_add rfl rfl rfl ⟨by omega, by omega⟩ ?_
 refine o_nilCheck rfl rfl ?_
 refine o_fieldAddr 1 Tryz.runUnderlying114 rfl Tryz.sizeOf3 rfl rfl rfl ?_
 refine o_store_B 0 H Tryz.sizeOf3 rfl rfl rfl rfl rfl rfl rfl rfl ?_; intro w2 H
 refine q3 ?_
 refine W_seq ?_
 refine q2 ?_
 refine o_move rfl rfl ?_
 refine o_lss rfl rfl rfl ?_
 refine o_move rfl rfl ?_
 refine R_case (t := 17) rfl ?_ ?_
 ·intro hc3
  try simp only [nrm] at hc3
  refine R_pass rfl (yl_ne rfl rfl rfl) ?_
  refine R_pass rfl (yl_ne rfl rfl rfl) ?_
  refine R_pass rfl (yl_ne rfl rfl rfl) ?_
  refine R_pass rfl (yl_ne rfl rfl rfl) ?_
  refine R_pass rfl (yl_ne rfl rfl rfl) ?_
  refine R_pass rfl (yl_ne rfl rfl rfl) ?_
  refine o_pick_t rfl rfl rfl ?_
  refine q3 ?_
  refine W_true rfl ?_
  refine q2 ?_
  refine o_assign rfl rfl ?_
  refine q3 ?_
  refine W_ret ?_
  refine N_K_ret ?_
  refine ret_gen (rs := [.tmp 4]) (vs := [_]) Tryz.results43 ⟨rfl, trivial⟩ ?_
  exact H.retM ⟨p + 1, 0, by omega, rfl, .inr rfl, rfl⟩
 intro hc3'
 try simp only [nrm] at hc3'
 refine R_guard (yl rfl rfl) ?_
 refine o_move rfl rfl ?_
 refine R_guard (yl rfl rfl) ?_
 refine o_nilCheck rfl rfl ?_
 refine R_guard (yl rfl rfl) ?_
 refine o_fieldAddr 0 Tryz.runUnderlying114 rfl Tryz.sizeOf22 rfl rfl rfl ?_
 refine R_guard (yl rfl rfl) ?_
 refine o_load_B 0 H Tryz.isAgg22 rfl rfl rfl rfl ?_
 refine R_guard (yl rfl rfl) ?_
 refine o_len_slice Tryz.underlying22 rfl rfl ?_
 refine R_guard (yl rfl rfl) ?_
 refine o_eql rfl rfl rfl ?_
 refine o_pick_f rfl rfl rfl ?_
 refine q3 ?_
 refine W_cond rfl ?_ ?_
 ·intro hc4
  try simp only [nrm] at hc4
  refine q2 ?_
  refine o_assign rfl rfl ?_
  refine q3 ?_
  refine W_ret ?_
  refine N_K_ret ?_
  refine ret_gen (rs := [.tmp 4]) (vs := [_]) Tryz.results43 ⟨rfl, trivial⟩ ?_
  exact H.retM ⟨p + 1, 0, by omega, rfl, .inr rfl, rfl⟩
 intro hc4'
 try simp only [nrm] at hc4'
 have hm0 : 0 < bs.length := by omega
 have hm1 := Nat.mod_lt p hm0
 have hm2 := Nat.mod_lt (p * 7 + 3) hm0
 have hq1 : 0 ≤ ((p : Int) + 1 - 1) / (bs.length : Int) := Int.ediv_nonneg (by omega) (by omega)
 have hq2 : ((p : Int) + 1 - 1) / (bs.length : Int) ≤ (p : Int) + 1 - 1 := Int.ediv_le_self _ (by omega)
 refine W_skip ?_
 refine N_K ?_
 refine q2 ?_
 refine o_move rfl rfl ?_
 refine o_nilCheck rfl rfl ?_
 refine o_fieldAddr 1 Tryz.runUnderlying114 rfl Tryz.sizeOf3 rfl rfl rfl ?_
 refine o_load_B 0 H Tryz.isAgg3 rfl rfl rfl rfl ?_
 refine o_sub rfl rfl rfl ⟨by omega, by omega⟩ ?_
 refine o_assign rfl rfl ?_
 refine q3 ?_
 refine W_seq ?_
 refine q2 ?_
 refine o_move rfl rfl ?_
 refine o_move rfl rfl ?_
 refine o_nilCheck rfl rfl ?_
 refine o_fieldAddr 0 Tryz.runUnderlying114 rfl Tryz.sizeOf22 rfl rfl rfl ?_
 refine o_load_B 0 H Tryz.isAgg22 rfl rfl rfl rfl ?_
 refine o_len_slice Tryz.underlying22 rfl rfl ?_
 refine o_lss rfl rfl rfl ?_
 refine q3 ?_
 refine W_cond rfl ?_ ?_
 ·intro hc6
  try simp only [nrm] at hc6
  refine q2 ?_
  refine o_move rfl rfl ?_
  refine o_nilCheck rfl rfl ?_
  refine o_fieldAddr 0 Tryz.runUnderlying114 rfl Tryz.sizeOf22 rfl rfl rfl ?_
  refine o_load_B 0 H Tryz.isAgg22 rfl rfl rfl rfl ?_
  refine o_move rfl rfl ?_
  refine o_index_P p hbs Tryz.underlying22 Tryz.sizeOf5 rfl rfl rfl (by omega) (by omega) ?_; intro b7 o7 z7 q7 hz7 hE7 hrow7
  obtain rfl := hE7
  have hzl7 := z7.toNat_lt
  refine o_load_P H Tryz.isAgg5 rfl rfl (hrow7 0 _ rfl) ?_
  refine o_conv (by simp [Tryz.underlying5]) Tryz.underlying3 rfl rfl (wrap_i64 ⟨by omega, by omega⟩) ?_
  refine o_move rfl rfl ?_
  refine o_rem rfl rfl rfl (by omega) (by omega) ?_
  refine o_assign rfl rfl ?_
  refine q3 ?_
  refine W_ret ?_
  refine N_K_ret ?_
  refine ret_gen (rs := [.tmp 4]) (vs := [_]) Tryz.results43 ⟨rfl, trivial⟩ ?_
  exact H.retM ⟨p + 1, _, by omega, congrArg (Value.int .i64) (Int.toNat_of_nonneg (Int.emod_nonneg _ (by omega))).symm, .inl (by rw [Int.toNat_of_nonneg (Int.emod_nonneg _ (by omega))]; exact Int.emod_lt_of_pos _ (by omega)), rfl⟩
 intro hc6'
 try simp only [nrm] at hc6'
 refine W_skip ?_
 refine N_K ?_
 refine W_seq ?_
 refine W_drawK [0] 46 H (by kernel_rfl) rfl ?_; intro w8 H; have hd8 := PLe.refl G0
 refine RD_t 0 rfl (by kernel_rfl) rfl (fun _ hK => v_move rfl) ?_
 refine RD_t 1 rfl (by kernel_rfl) rfl (fun _ hK => v_nilCheck rfl) ?_
 refine RD_t 2 rfl (by kernel_rfl) rfl (fun _ hK => v_fieldAddr 0 Tryz.runUnderlying114 rfl Tryz.sizeOf22 rfl rfl) ?_
 refine RD_t 3 rfl (by kernel_rfl) rfl (fun _ hK => v_load_B 0 hK Tryz.isAgg22 rfl rfl rfl) ?_
 refine RD_t 4 rfl (by kernel_rfl) rfl (fun _ hK => v_move rfl) ?_
 refine RD_t 5 rfl (by kernel_rfl) rfl (fun _ hK => v_move rfl) ?_
 refine RD_t 6 rfl (by kernel_rfl) rfl (fun _ hK => v_nilCheck rfl) ?_
 refine RD_t 7 rfl (by kernel_rfl) rfl (fun _ hK => v_fieldAddr 0 Tryz.runUnderlying114 rfl Tryz.sizeOf22 rfl rfl) ?_
 refine RD_t 8 rfl (by kernel_rfl) rfl (fun _ hK => v_load_B 0 hK Tryz.isAgg22 rfl rfl rfl) ?_
 refine RD_t 9 rfl (by kernel_rfl) rfl (fun _ hK => v_len_slice Tryz.underlying22 rfl) ?_
 refine RD_t 10 rfl (by kernel_rfl) rfl (fun _ hK => v_rem rfl rfl (by omega) (by omega)) ?_
 have hl9 := hbs.len
 obtain ⟨b9, o9, z9, q9, ha9, hz9, hq9, hE9, hrow9, _⟩ := hbs.at (i := (p % bs.length)) (by omega)
 clear hq9
 obtain rfl := hE9
 have hzl9 := z9.toNat_lt
 refine RD_t 11 rfl (by kernel_rfl) rfl (fun _ hK => v_index_P (i := (p % bs.length)) ha9 Tryz.underlying22 Tryz.sizeOf5 rfl rfl (by rw [Int.add_sub_cancel]; exact (Int.natCast_emod _ _).symm) (by omega)) ?_
 refine RD_t 12 rfl (by kernel_rfl) rfl (fun _ hK => v_load_P hK Tryz.isAgg5 rfl (hrow9 0 _ rfl)) ?_
 refine RD_t 13 rfl (by kernel_rfl) rfl (fun _ hK => v_conv (by simp [Tryz.underlying5]) Tryz.underlying3 rfl (wrap_i64 ⟨by omega, by omega⟩)) ?_
 refine RD_t 14 rfl (by kernel_rfl) rfl (fun _ hK => v_mul rfl rfl ⟨by omega, by omega⟩) ?_
 refine RD_t 15 rfl (by kernel_rfl) rfl (fun _ hK => v_move rfl) ?_
 refine RD_t 16 rfl (by kernel_rfl) rfl (fun _ hK => v_nilCheck rfl) ?_
 refine RD_t 17 rfl (by kernel_rfl) rfl (fun _ hK => v_fieldAddr 0 Tryz.runUnderlying114 rfl Tryz.sizeOf22 rfl rfl) ?_
 refine RD_t 18 rfl (by kernel_rfl) rfl (fun _ hK => v_load_B 0 hK Tryz.isAgg22 rfl rfl rfl) ?_
 refine RD_t 19 rfl (by kernel_rfl) rfl (fun _ hK => v_move rfl) ?_
 refine RD_t 20 rfl (by kernel_rfl) rfl (fun _ hK => v_mul rfl rfl ⟨by omega, by omega⟩) ?_
 refine RD_t 21 rfl (by kernel_rfl) rfl (fun _ hK => v_add rfl rfl ⟨by omega, by omega⟩) ?_
 refine RD_t 22 rfl (by kernel_rfl) rfl (fun _ hK => v_move rfl) ?_
 refine RD_t 23 rfl (by kernel_rfl) rfl (fun _ hK => v_nilCheck rfl) ?_
 refine RD_t 24 rfl (by kernel_rfl) rfl (fun _ hK => v_fieldAddr 0 Tryz.runUnderlying114 rfl Tryz.sizeOf22 rfl rfl) ?_
 refine RD_t 25 rfl (by kernel_rfl) rfl (fun _ hK => v_load_B 0 hK Tryz.isAgg22 rfl rfl rfl) ?_
 refine RD_t 26 rfl (by kernel_rfl) rfl (fun _ hK => v_len_slice Tryz.underlying22 rfl) ?_
 refine RD_t 27 rfl (by kernel_rfl) rfl (fun _ hK => v_rem rfl rfl (by omega) (by omega)) ?_
 have hl13 := hbs.len
 obtain ⟨b13, o13, z13, q13, ha13, hz13, hq13, hE13, hrow13, _⟩ := hbs.at (i := ((p * 7 + 3) % bs.length)) (by omega)
 clear hq13
 obtain rfl := hE13
 have hzl13 := z13.toNat_lt
 refine RD_t 28 rfl (by kernel_rfl) rfl (fun _ hK => v_index_P (i := ((p * 7 + 3) % bs.length)) ha13 Tryz.underlying22 Tryz.sizeOf5 rfl rfl (by rw [Int.add_sub_cancel]; exact (Int.natCast_emod _ _).symm) (by omega)) ?_
 refine RD_t 29 rfl (by kernel_rfl) rfl (fun _ hK => v_load_P hK Tryz.isAgg5 rfl (hrow13 0 _ rfl)) ?_
 refine RD_t 30 rfl (by kernel_rfl) rfl (fun _ hK => v_conv (by simp [Tryz.underlying5]) Tryz.underlying3 rfl (wrap_i64 ⟨by omega, by omega⟩)) ?_
 refine RD_t 31 rfl (by kernel_rfl) rfl (fun _ hK => v_mul rfl rfl ⟨by omega, by omega⟩) ?_
 refine RD_t 32 rfl (by kernel_rfl) rfl (fun _ hK => v_add rfl rfl ⟨by omega, by omega⟩) ?_
 refine RD_t 33 rfl (by kernel_rfl) rfl (fun _ hK => v_move rfl) ?_
 refine RD_t 34 rfl (by kernel_rfl) rfl (fun _ hK => v_mul rfl rfl ⟨by omega, by omega⟩) ?_
 refine RD_t 35 rfl (by kernel_rfl) rfl (fun _ hK => v_add rfl rfl ⟨by omega, by omega⟩) ?_
 refine RD_t 36 rfl (by kernel_rfl) rfl (fun _ hK => v_move rfl) ?_
 refine RD_t 37 rfl (by kernel_rfl) rfl (fun _ hK => v_move rfl) ?_
 refine RD_t 38 rfl (by kernel_rfl) rfl (fun _ hK => v_nilCheck rfl) ?_
 refine RD_t 39 rfl (by kernel_rfl) rfl (fun _ hK => v_fieldAddr 0 Tryz.runUnderlying114 rfl Tryz.sizeOf22 rfl rfl) ?_
 refine RD_t 40 rfl (by kernel_rfl) rfl (fun _ hK => v_load_B 0 hK Tryz.isAgg22 rfl rfl rfl) ?_
 refine RD_t 41 rfl (by kernel_rfl) rfl (fun _ hK => v_len_slice Tryz.underlying22 rfl) ?_
 refine RD_t 42 rfl (by kernel_rfl) rfl (fun _ hK => v_quo rfl rfl (by omega) (by omega) (by omega)) ?_
 refine RD_t 43 rfl (by kernel_rfl) rfl (fun _ hK => v_mul rfl rfl ⟨by omega, by omega⟩) ?_
 refine RD_t 44 rfl (by kernel_rfl) rfl (fun _ hK => v_add rfl rfl ⟨by omega, by omega⟩) ?_
 refine RD_t 45 rfl (by kernel_rfl) rfl (fun _ hK => v_assign rfl) ?_
 refine RD_done (by kernel_rfl) ?_
 refine N_K ?_
 refine q2 ?_
 refine o_move rfl rfl ?_
 refine o_move rfl rfl ?_
 refine o_quo rfl rfl rfl (by omega) (by omega) (by omega) ?_
 refine o_xor rfl rfl rfl ⟨by omega, by omega⟩ ⟨by omega, by omega⟩ ?_; intro xr20 hxr20
 refine o_assign rfl rfl ?_
 refine q1 ?_
 refine o_move rfl rfl ?_
 refine o_move rfl rfl ?_
 refine o_rem rfl rfl rfl (by omega) (by omega) ?_
 refine o_assign rfl rfl ?_
 refine q3 ?_
 refine W_ret ?_
 refine ret_gen (rs := [.tmp 4]) (vs := [_]) Tryz.results43 ⟨rfl, trivial⟩ ?_
 exact H.retM ⟨p + 1, _, by omega, congrArg (Value.int .i64) (Int.toNat_of_nonneg (Int.emod_nonneg _ (by omega))).symm, .inl (by rw [Int.toNat_of_nonneg (Int.emod_nonneg _ (by omega))]; exact Int.emod_lt_of_pos _ (by omega)), rfl⟩
end Go.Proofs.Tst

namespace Go.Proofs.Tst
open Go Fw
theorem of_c (w0 : World) (G0 : PH) (hG : PSub G0 w0) (rb : Nat) (ab : Option Addr) (mb kb : Nat) (bs : List UInt8) (p : Nat) (hbs : RdU G0 (.slice ab mb kb) bs) (hrb : w0.heap[rb]? = some (cl [.slice ab mb kb, .int .i64 (p : Int)] 114)) (hrn : G0 rb = none) (hp : p ≤ 100000000000) (vlist : Value) (list : List (Bs)) (hlist : RdT G0 vlist list) (hL : 0 < list.length) :
  Calls Tryz.prog 44 #[.pointer (some ⟨rb, 0, none⟩), vlist] w0 (RetM w0 G0 [rb] (fun G val Bs => ∃ (p' : Nat) (x : Fw.Bs), p' ≤ p + 1 ∧ val = str x ∧ x.length ≤ 16777216 ∧ Bs = [blk rb (cl [.slice ab mb kb, .int .i64 (p' : Int)] 114)])) := by
 have hlimbs : bs.length ≤ 1099511627776 := hbs.lim; obtain rfl : mb = bs.length := hbs.len
 obtain ⟨alist, klist, rfl⟩ := hlist.shape
 have hlimlist : list.length ≤ 1099511627776 := hlist.lim
 have H := Hp.initM hG hrb hrn
 refine calls_of_W (l := [.pointer (some ⟨rb, 0, none⟩), .slice alist list.length klist]) Tryz.func44 rfl Tryz.ntmps44 rfl ?_
 refine q2 ?_
 refine o_assign rfl rfl ?_
 refine q1 ?_
 refine o_move rfl rfl ?_
 refine o_move rfl rfl ?_
 refine o_move rfl rfl ?_
 refine o_len_slice Tryz.underlying87 rfl rfl ?_
 refine o_call Tryz.call43 rfl rfl (pick_c _ _ H.sub _ _ _ _ _ _ hbs (H.blkIs (k := 0) rfl).1 (H.blkIs (k := 0) rfl).2 (by omega) _ ⟨by omega, by omega⟩ ) ?_
 rintro _ w1 ⟨G1, _, _, rfl, H1', ⟨p1, x1, hp1, rfl, hxb1, rfl⟩⟩
 have hbs := hbs.up H1'.le
 have hlist := hlist.up H1'.le
 have H := H.borrow (k := 0) rfl H1'
 refine ⟨_, rfl, ?_⟩
 refine o_index_P x1 hlist Tryz.underlying87 Tryz.sizeOf9 rfl rfl rfl rfl (by omega) ?_; intro b2 o2 z2 q2 hz2 hE2 hrow2
 obtain ⟨rfl, hi2⟩ := hE2; have hy_hi2 : _ ≤ 16777216 := hi2
 refine o_load_P H Tryz.isAgg9 rfl rfl (hrow2 0 _ rfl) ?_
 refine o_assign rfl rfl ?_
 refine q3 ?_
 refine W_ret ?_
 refine ret_gen (rs := [.tmp 4]) (vs := [_]) Tryz.results44 ⟨rfl, trivial⟩ ?_
 exact H.retM ⟨_, _, by omega, rfl, (by assumption), rfl⟩
end Go.Proofs.Tst

namespace Go.Proofs.Tst
open Go Fw
theorem l6Open_c (w0 : World) (G0 : PH) (hG : PSub G0 w0) (vcode : Value) (code : List (UInt8)) (hcode : RdU G0 vcode code)  :
  Calls Tryz.prog 26 #[vcode] w0 (RetO w0 G0 (fun G val r => ∃ (b : Nat) (ab : Option Addr) (mb kb : Nat) (bs : List UInt8), val = .pointer (some ⟨b, 0, none⟩) ∧ r = blk b (cl [.slice ab mb kb, .int .i64 ((0 : Nat) : Int)] 114) ∧ RdU G (.slice ab mb kb) bs)) := by
 obtain ⟨acode, kcode, rfl⟩ := hcode.shape
 have hlimcode : code.length ≤ 1099511627776 := hcode.lim
 have H := Hp.init hG
 refine calls_of_W (l := [.slice acode code.length kcode]) Tryz.func26 rfl Tryz.ntmps26 rfl ?_
 refine q2 ?_
 refine o_assign rfl rfl ?_
 refine q3 ?_
 refine W_seq ?_
 refine q2 ?_
 refine o_move rfl rfl ?_
 refine o_len_slice Tryz.underlying22 rfl rfl ?_
 refine o_gtr rfl rfl rfl ?_
 refine q3 ?_
 refine W_cond rfl ?_ ?_
 ·intro hc1
  try simp only [nrm] at hc1
  refine W_region ?_
  refine o_move rfl rfl ?_
  have hcap2 := hcode.cap
  refine o_slice_to (j := 2000) Tryz.underlying22 Tryz.sizeOf5 rfl rfl rfl (by omega) (by omega) ?_
  have hsl2 := hcode.take (j := 2000) (by omega)
  refine o_assign rfl rfl ?_
  refine q1 ?_
  refine o_move rfl rfl ?_
  refine o_build bf114 rfl rfl rfl ?_
  refine o_box H rfl rfl rfl ?_; intro b3 w3 hb3 H
  refine o_assign rfl rfl ?_
  refine q3 ?_
  refine W_ret ?_
  refine ret_gen (rs := [.tmp 2]) (vs := [_]) Tryz.results26 ⟨rfl, trivial⟩ ?_
  exact H.retO (k := 0) rfl ⟨_, _, _, _, _, rfl, rfl, hsl2⟩ (by simp [blk])
 intro hc1'
 try simp only [nrm] at hc1'
 refine W_skip ?_
 refine N_K ?_
 refine q2 ?_
 refine o_move rfl rfl ?_
 refine o_build bf114 rfl rfl rfl ?_
 refine o_box H rfl rfl rfl ?_; intro b4 w4 hb4 H
 refine o_assign rfl rfl ?_
 refine q3 ?_
 refine W_ret ?_
 refine ret_gen (rs := [.tmp 2]) (vs := [_]) Tryz.results26 ⟨rfl, trivial⟩ ?_
 exact H.retO (k := 0) rfl ⟨_, _, _, _, _, rfl, rfl, hcode⟩ (by simp [blk])
end Go.Proofs.Tst

namespace Go.Proofs.Tst
open Go Fw
theorem l91Path_c (w0 : World) (G0 : PH) (hG : PSub G0 w0) (rb : Nat) (ab : Option Addr) (mb kb : Nat) (bs : List UInt8) (p : Nat) (hbs : RdU G0 (.slice ab mb kb) bs) (hrb : w0.heap[rb]? = some (cl [.slice ab mb kb, .int .i64 (p : Int)] 114)) (hrn : G0 rb = none) (hp : p ≤ 10000000000)  :
  Calls Tryz.prog 45 #[.pointer (some ⟨rb, 0, none⟩)] w0 (RetM w0 G0 [rb] (fun G val Bs => ∃ (p' : Nat) (x : Fw.Bs), p' ≤ p + 2 ∧ val = str x ∧ x.length ≤ 16777216 ∧ Bs = [blk rb (cl [.slice ab mb kb, .int .i64 (p' : Int)] 114)])) := by
 have hlimbs : bs.length ≤ 1099511627776 := hbs.lim; obtain rfl : mb = bs.length := hbs.len
 have H := Hp.initM hG hrb hrn
 refine calls_of_W (l := [.pointer (some ⟨rb, 0, none⟩)]) Tryz.func45 rfl Tryz.ntmps45 rfl ?_
 refine q2 ?_
 refine o_assign rfl rfl ?_
 refine q3 ?_
 refine W_seq ?_
 refine q2 ?_
 refine o_move rfl rfl ?_
 refine o_call Tryz.call43 rfl rfl (pick_c _ _ H.sub _ _ _ _ _ _ hbs (H.blkIs (k := 0) rfl).1 (H.blkIs (k := 0) rfl).2 (by omega) _ ⟨by omega, by omega⟩ ) ?_
 rintro _ w1 ⟨G1, _, _, rfl, H1', ⟨p1, x1, hp1, rfl, hxb1, rfl⟩⟩
 have hbs := hbs.up H1'.le
 have H := H.borrow (k := 0) rfl H1'
 refine ⟨_, rfl, ?_⟩
 refine o_eql rfl rfl rfl ?_
 refine q3 ?_
 refine W_cond rfl ?_ ?_
 ·intro hc2
  try simp only [nrm] at hc2
  refine q2 ?_
  refine o_move rfl rfl ?_
  refine o_buildSlice H Tryz.underlying87 Tryz.sizeOf9 (fun w => ⟨_, Tryz.zeroValue9 w, rfl⟩) rfl rfl rfl rfl rfl rfl rfl ?_; intro b3 w3 hb3 H
  have H := H.blkAcc 1 (k := 0) (n := 8) rfl rfl (by decide)
  have hchk5 := (((((((((Chk.nil (E := strE) (sz := 1) (G := G1)).snoc (show strE _ ([] : Fw.Bs) [str []] from ⟨rfl, by decide⟩) rfl).snoc (show strE _ ([97, 47, 47, 98] : Fw.Bs) [str [97, 47, 47, 98]] from ⟨rfl, by decide⟩) rfl).snoc (show strE _ ([47, 97] : Fw.Bs) [str [47, 97]] from ⟨rfl, by decide⟩) rfl).snoc (show strE _ ([97, 47] : Fw.Bs) [str [97, 47]] from ⟨rfl, by decide⟩) rfl).snoc (show strE _ ([65] : Fw.Bs) [str [65]] from ⟨rfl, by decide⟩) rfl).snoc (show strE _ ([97, 98, 99, 100, 101, 102] : Fw.Bs) [str [97, 98, 99, 100, 101, 102]] from ⟨rfl, by decide⟩) rfl).snoc (show strE _ ([97, 47, 98, 47, 99, 47, 100, 47, 101] : Fw.Bs) [str [97, 47, 98, 47, 99, 47, 100, 47, 101]] from ⟨rfl, by decide⟩) rfl).snoc (show strE _ ([97, 47, 98, 47, 99, 47, 100] : Fw.Bs) [str [97, 47, 98, 47, 99, 47, 100]] from ⟨rfl, by decide⟩) rfl)
  obtain ⟨G6, H, hsg6, hsr6⟩ := H.shutM (k := 0) (j := 0) rfl rfl hchk5 (by first | assumption | (simp; done) | (simp; omega) | omega) (by first | assumption | (simp; done) | (simp; omega) | omega)
  have hbs := hbs.up hsg6
  have hchk5 := hchk5.up hsg6
  refine o_call Tryz.call44 rfl rfl (of_c _ _ H.sub _ _ _ _ _ _ hbs (H.blkIs (k := 0) rfl).1 (H.blkIs (k := 0) rfl).2 (by omega) _ _ hsr6 (by first | decide | (simp; done) | (simp; omega))) ?_
  rintro _ w4 ⟨G4, _, _, rfl, H4', ⟨p4, x4, hp4, rfl, hxs4, rfl⟩⟩
  have hbs := hbs.up H4'.le
  have hchk5 := hchk5.up H4'.le
  have hsr6 := hsr6.up H4'.le
  have H := H.borrow (k := 0) rfl H4'
  refine ⟨_, rfl, ?_⟩
  refine o_assign rfl rfl ?_
  refine q3 ?_
  refine W_ret ?_
  refine N_K_ret ?_
  refine ret_gen (rs := [.tmp 2]) (vs := [_]) Tryz.results45 ⟨rfl, trivial⟩ ?_
  exact H.retM ⟨_, _, by omega, rfl, (by assumption), rfl⟩
 intro hc2'
 try simp only [nrm] at hc2'
 refine W_skip ?_
 refine N_K ?_
 refine q2 ?_
 refine o_move rfl rfl ?_
 refine o_buildSlice H Tryz.underlying87 Tryz.sizeOf9 (fun w => ⟨_, Tryz.zeroValue9 w, rfl⟩) rfl rfl rfl rfl rfl rfl rfl ?_; intro b7 w7 hb7 H
 have H := H.blkAcc 1 (k := 0) (n := 8) rfl rfl (by decide)
 have hchk9 := (((((((((Chk.nil (E := strE) (sz := 1) (G := G1)).snoc (show strE _ ([97] : Fw.Bs) [str [97]] from ⟨rfl, by decide⟩) rfl).snoc (show strE _ ([98] : Fw.Bs) [str [98]] from ⟨rfl, by decide⟩) rfl).snoc (show strE _ ([97, 47, 120] : Fw.Bs) [str [97, 47, 120]] from ⟨rfl, by decide⟩) rfl).snoc (show strE _ ([97, 47, 121] : Fw.Bs) [str [97, 47, 121]] from ⟨rfl, by decide⟩) rfl).snoc (show strE _ ([98, 47, 120] : Fw.Bs) [str [98, 47, 120]] from ⟨rfl, by decide⟩) rfl).snoc (show strE _ ([97, 47, 120, 47, 112] : Fw.Bs) [str [97, 47, 120, 47, 112]] from ⟨rfl, by decide⟩) rfl).snoc (show strE _ ([99] : Fw.Bs) [str [99]] from ⟨rfl, by decide⟩) rfl).snoc (show strE _ ([97, 47, 120, 47, 113] : Fw.Bs) [str [97, 47, 120, 47, 113]] from ⟨rfl, by decide⟩) rfl)
 obtain ⟨G10, H, hsg10, hsr10⟩ := H.shutM (k := 0) (j := 0) rfl rfl hchk9 (by first | assumption | (simp; done) | (simp; omega) | omega) (by first | assumption | (simp; done) | (simp; omega) | omega)
 have hbs := hbs.up hsg10
 have hchk9 := hchk9.up hsg10
 refine o_call Tryz.call44 rfl rfl (of_c _ _ H.sub _ _ _ _ _ _ hbs (H.blkIs (k := 0) rfl).1 (H.blkIs (k := 0) rfl).2 (by omega) _ _ hsr10 (by first | decide | (simp; done) | (simp; omega))) ?_
 rintro _ w8 ⟨G8, _, _, rfl, H8', ⟨p8, x8, hp8, rfl, hxs8, rfl⟩⟩
 have hbs := hbs.up H8'.le
 have hchk9 := hchk9.up H8'.le
 have hsr10 := hsr10.up H8'.le
 have H := H.borrow (k := 0) rfl H8'
 refine ⟨_, rfl, ?_⟩
 refine o_assign rfl rfl ?_
 refine q3 ?_
 refine W_ret ?_
 refine ret_gen (rs := [.tmp 2]) (vs := [_]) Tryz.results45 ⟨rfl, trivial⟩ ?_
 exact H.retM ⟨_, _, by omega, rfl, (by assumption), rfl⟩
end Go.Proofs.Tst

namespace Go.Proofs.Tst
open Go Fw
end Go.Proofs.Tst

namespace Go.Proofs
open Go.Shelf
def Tryz.keysA_ren : Go.Shelf.Ren := ⟨fun | 7 => 136 | 10 => 164 | n => n, fun | 23 => 66 | 26 => 3 | 3 => 117 | 28 => 188 | 0 => 0 | 27 => 187 | 33 => 185 | 4 => 4 | n => n, fun | n => n⟩
theorem Tryz.keysA : Go.Proofs.SlLaysZI.n7 Tryz.prog Tryz.keysA_ren := {
  mixed := by kernel_rfl
  f7 := ⟨Tryz.f136.name, by decide, Tryz.func136.trans (congrArg some (by kernel_rfl))⟩
  f10 := ⟨Tryz.f164.name, by decide, Tryz.func164.trans (congrArg some (by kernel_rfl))⟩
  t0 := Tryz.underlying0
  a0 := Tryz.isAgg0
  z0 := Tryz.sizeOf0
  v0 := Tryz.zeroValue0
  t4 := Tryz.underlying4
  a4 := Tryz.isAgg4
  z4 := Tryz.sizeOf4
  v4 := Tryz.zeroValue4
  t23 := Tryz.underlying66
  a23 := Tryz.isAgg66
  z23 := Tryz.sizeOf66
  v23 := Tryz.zeroValue66
  t26 := Tryz.underlying3
  a26 := Tryz.isAgg3
  z26 := Tryz.sizeOf3
  v26 := Tryz.zeroValue3
  t27 := Tryz.underlying187
  a27 := Tryz.isAgg187
  z27 := Tryz.sizeOf187
  v27 := Tryz.zeroValue187
  t28 := Tryz.underlying188
  a28 := Tryz.isAgg188
  z28 := Tryz.sizeOf188
  v28 := Tryz.zeroValue188
  t33 := Tryz.underlying185
  a33 := Tryz.isAgg185
  z33 := Tryz.sizeOf185
  v33 := Tryz.zeroValue185 }
def Tryz.sortedA_ren : Go.Shelf.Ren := ⟨fun | 6 => 135 | 8 => 162 | 9 => 163 | 11 => 186 | 13 => 188 | 12 => 187 | 23 => 209 | 24 => 210 | 14 => 200 | 15 => 201 | 16 => 202 | 17 => 203 | 18 => 204 | 19 => 205 | 20 => 206 | 21 => 207 | 22 => 208 | 25 => 215 | 26 => 216 | 27 => 217 | 28 => 218 | 29 => 219 | 30 => 220 | 31 => 225 | n => n, fun | 26 => 3 | 28 => 188 | 24 => 27 | 0 => 0 | 3 => 3 | 37 => 227 | 48 => 156 | 50 => 243 | 4 => 4 | 40 => 235 | 39 => 234 | 45 => 181 | 5 => 5 | 9 => 9 | 51 => 246 | 55 => 250 | 57 => 255 | 58 => 256 | 33 => 185 | n => n, fun | n => n⟩
theorem Tryz.sortedA : Go.Proofs.SlLaysZI.n6 Tryz.prog Tryz.sortedA_ren := {
  mixed := by kernel_rfl
  f6 := ⟨Tryz.f135.name, by decide, Tryz.func135.trans (congrArg some (by kernel_rfl))⟩
  f8 := ⟨Tryz.f162.name, by decide, Tryz.func162.trans (congrArg some (by kernel_rfl))⟩
  f11 := ⟨Tryz.f186.name, by decide, Tryz.func186.trans (congrArg some (by kernel_rfl))⟩
  t0 := Tryz.underlying0
  a0 := Tryz.isAgg0
  z0 := Tryz.sizeOf0
  v0 := Tryz.zeroValue0
  t24 := Tryz.underlying27
  a24 := Tryz.isAgg27
  z24 := Tryz.sizeOf27
  v24 := Tryz.zeroValue27
  t26 := Tryz.underlying3
  a26 := Tryz.isAgg3
  z26 := Tryz.sizeOf3
  v26 := Tryz.zeroValue3
  t28 := Tryz.underlying188
  a28 := Tryz.isAgg188
  z28 := Tryz.sizeOf188
  v28 := Tryz.zeroValue188
  i26 := by kernel_rfl }
def Tryz.sortA_ren : Go.Shelf.Ren := ⟨fun | 5 => 163 | 8 => 188 | 7 => 187 | 19 => 209 | 20 => 210 | 10 => 200 | 11 => 201 | 12 => 202 | 13 => 203 | 14 => 204 | 15 => 205 | 16 => 206 | 17 => 207 | 18 => 208 | 30 => 215 | 31 => 216 | 32 => 217 | 33 => 218 | 34 => 219 | 35 => 220 | 40 => 225 | n => n, fun | 23 => 27 | 25 => 3 | 3 => 3 | 32 => 227 | 22 => 27 | 0 => 0 | 44 => 156 | 46 => 243 | 4 => 4 | 36 => 235 | 35 => 234 | 41 => 181 | 5 => 5 | 9 => 9 | 53 => 246 | 57 => 250 | 63 => 255 | 64 => 256 | n => n, fun | n => n⟩
theorem Tryz.sortA : Go.Proofs.SlLaysM.n5 Tryz.prog Tryz.sortA_ren := {
  mixed := by kernel_rfl
  f5 := ⟨Tryz.f163.name, by decide, Tryz.func163.trans (congrArg some (by kernel_rfl))⟩
  f7 := ⟨Tryz.f187.name, by decide, Tryz.func187.trans (congrArg some (by kernel_rfl))⟩
  f8 := Tryz.func188.trans (congrArg some (by kernel_rfl))
  f10 := ⟨Tryz.f200.name, by decide, Tryz.func200.trans (congrArg some (by kernel_rfl))⟩
  f11 := ⟨Tryz.f201.name, by decide, Tryz.func201.trans (congrArg some (by kernel_rfl))⟩
  f12 := ⟨Tryz.f202.name, by decide, Tryz.func202.trans (congrArg some (by kernel_rfl))⟩
  f13 := ⟨Tryz.f203.name, by decide, Tryz.func203.trans (congrArg some (by kernel_rfl))⟩
  f14 := ⟨Tryz.f204.name, by decide, Tryz.func204.trans (congrArg some (by kernel_rfl))⟩
  f15 := ⟨Tryz.f205.name, by decide, Tryz.func205.trans (congrArg some (by kernel_rfl))⟩
  f16 := ⟨Tryz.f206.name, by decide, Tryz.func206.trans (congrArg some (by kernel_rfl))⟩
  f17 := ⟨Tryz.f207.name, by decide, Tryz.func207.trans (congrArg some (by kernel_rfl))⟩
  f18 := ⟨Tryz.f208.name, by decide, Tryz.func208.trans (congrArg some (by kernel_rfl))⟩
  f19 := Tryz.func209.trans (congrArg some (by kernel_rfl))
  f20 := Tryz.func210.trans (congrArg some (by kernel_rfl))
  f30 := ⟨Tryz.f215.name, by decide, Tryz.func215.trans (congrArg some (by kernel_rfl))⟩
  f31 := Tryz.func216.trans (congrArg some (by kernel_rfl))
  f32 := Tryz.func217.trans (congrArg some (by kernel_rfl))
  f33 := ⟨Tryz.f218.name, by decide, Tryz.func218.trans (congrArg some (by kernel_rfl))⟩
  f34 := ⟨Tryz.f219.name, by decide, Tryz.func219.trans (congrArg some (by kernel_rfl))⟩
  f35 := ⟨Tryz.f220.name, by decide, Tryz.func220.trans (congrArg some (by kernel_rfl))⟩
  f40 := ⟨Tryz.f225.name, by decide, Tryz.func225.trans (congrArg some (by kernel_rfl))⟩
  t0 := Tryz.underlying0
  a0 := Tryz.isAgg0
  z0 := Tryz.sizeOf0
  v0 := Tryz.zeroValue0
  t3 := Tryz.underlying3
  a3 := Tryz.isAgg3
  z3 := Tryz.sizeOf3
  v3 := Tryz.zeroValue3
  t4 := Tryz.underlying4
  a4 := Tryz.isAgg4
  z4 := Tryz.sizeOf4
  v4 := Tryz.zeroValue4
  t5 := Tryz.underlying5
  a5 := Tryz.isAgg5
  z5 := Tryz.sizeOf5
  v5 := Tryz.zeroValue5
  t9 := Tryz.underlying9
  a9 := Tryz.isAgg9
  z9 := Tryz.sizeOf9
  v9 := Tryz.zeroValue9
  t22 := Tryz.underlying27
  a22 := Tryz.isAgg27
  z22 := Tryz.sizeOf27
  v22 := Tryz.zeroValue27
  t23 := Tryz.underlying27
  a23 := Tryz.isAgg27
  z23 := Tryz.sizeOf27
  v23 := Tryz.zeroValue27
  t25 := Tryz.underlying3
  a25 := Tryz.isAgg3
  z25 := Tryz.sizeOf3
  v25 := Tryz.zeroValue3
  t32 := Tryz.underlying227
  a32 := Tryz.isAgg227
  z32 := Tryz.sizeOf227
  v32 := Tryz.zeroValue227
  t35 := Tryz.underlying234
  a35 := Tryz.isAgg234
  z35 := Tryz.sizeOf234
  v35 := Tryz.zeroValue234
  t36 := Tryz.underlying235
  a36 := Tryz.isAgg235
  z36 := Tryz.sizeOf235
  v36 := Tryz.zeroValue235
  t41 := Tryz.underlying181
  a41 := Tryz.isAgg181
  z41 := Tryz.sizeOf181
  v41 := Tryz.zeroValue181
  t44 := Tryz.underlying156
  a44 := Tryz.isAgg156
  z44 := Tryz.sizeOf156
  v44 := Tryz.zeroValue156
  t46 := Tryz.underlying243
  a46 := Tryz.isAgg243
  z46 := Tryz.sizeOf243
  v46 := Tryz.zeroValue243
  t53 := Tryz.underlying246
  a53 := Tryz.isAgg246
  z53 := Tryz.sizeOf246
  v53 := Tryz.zeroValue246
  t57 := Tryz.underlying250
  a57 := Tryz.isAgg250
  z57 := Tryz.sizeOf250
  v57 := Tryz.zeroValue250
  t63 := Tryz.underlying255
  a63 := Tryz.isAgg255
  z63 := Tryz.sizeOf255
  v63 := Tryz.zeroValue255
  t64 := Tryz.underlying256
  a64 := Tryz.isAgg256
  z64 := Tryz.sizeOf256
  v64 := Tryz.zeroValue256 }
def Tryz.lays143_ren : Go.Shelf.Ren := ⟨fun | 143 => 214 | 219 => 224 | 217 => 227 | 225 => 228 | 224 => 229 | 267 => 230 | 266 => 231 | 314 => 232 | n => n, fun | 9 => 9 | 3 => 3 | 4 => 4 | 5 => 5 | 46 => 227 | 146 => 262 | 51 => 156 | n => n, fun | 1 => 0 | n => n⟩
theorem Tryz.lays143 : Go.Proofs.Lays.n143 Tryz.prog Tryz.lays143_ren := {
  mixed := by kernel_rfl
  f143 := Tryz.func214.trans (congrArg some (by kernel_rfl))
  f217 := Tryz.func227.trans (congrArg some (by kernel_rfl))
  f219 := Tryz.func224.trans (congrArg some (by kernel_rfl))
  f224 := Tryz.func229.trans (congrArg some (by kernel_rfl))
  f225 := Tryz.func228.trans (congrArg some (by kernel_rfl))
  f266 := Tryz.func231.trans (congrArg some (by kernel_rfl))
  f267 := Tryz.func230.trans (congrArg some (by kernel_rfl))
  f314 := Tryz.func232.trans (congrArg some (by kernel_rfl))
  t3 := Tryz.underlying3
  a3 := Tryz.isAgg3
  z3 := Tryz.sizeOf3
  v3 := Tryz.zeroValue3
  t4 := Tryz.underlying4
  a4 := Tryz.isAgg4
  z4 := Tryz.sizeOf4
  v4 := Tryz.zeroValue4
  t5 := Tryz.underlying5
  a5 := Tryz.isAgg5
  z5 := Tryz.sizeOf5
  v5 := Tryz.zeroValue5
  t9 := Tryz.underlying9
  a9 := Tryz.isAgg9
  z9 := Tryz.sizeOf9
  v9 := Tryz.zeroValue9
  t46 := Tryz.underlying227
  a46 := Tryz.isAgg227
  z46 := Tryz.sizeOf227
  v46 := Tryz.zeroValue227
  t51 := Tryz.underlying156
  a51 := Tryz.isAgg156
  z51 := Tryz.sizeOf156
  v51 := Tryz.zeroValue156
  t146 := Tryz.underlying262
  a146 := Tryz.isAgg262
  z146 := Tryz.sizeOf262
  v146 := Tryz.zeroValue262
  g1 := by kernel_rfl }
def Tryz.lays138_ren : Go.Shelf.Ren := ⟨fun | 138 => 213 | 195 => 221 | 218 => 223 | 143 => 214 | 219 => 224 | 217 => 227 | 225 => 228 | 224 => 229 | 267 => 230 | 266 => 231 | 314 => 232 | n => n, fun | 9 => 9 | 3 => 3 | 4 => 4 | 5 => 5 | 0 => 0 | 46 => 227 | 146 => 262 | 51 => 156 | n => n, fun | 1 => 0 | n => n⟩
theorem Tryz.lays138 : Go.Proofs.Lays.n138 Tryz.prog Tryz.lays138_ren := {
  mixed := by kernel_rfl
  f138 := Tryz.func213.trans (congrArg some (by kernel_rfl))
  f143 := Tryz.func214.trans (congrArg some (by kernel_rfl))
  f195 := Tryz.func221.trans (congrArg some (by kernel_rfl))
  f217 := Tryz.func227.trans (congrArg some (by kernel_rfl))
  f218 := Tryz.func223.trans (congrArg some (by kernel_rfl))
  f219 := Tryz.func224.trans (congrArg some (by kernel_rfl))
  f224 := Tryz.func229.trans (congrArg some (by kernel_rfl))
  f225 := Tryz.func228.trans (congrArg some (by kernel_rfl))
  f266 := Tryz.func231.trans (congrArg some (by kernel_rfl))
  f267 := Tryz.func230.trans (congrArg some (by kernel_rfl))
  f314 := Tryz.func232.trans (congrArg some (by kernel_rfl))
  t0 := Tryz.underlying0
  a0 := Tryz.isAgg0
  z0 := Tryz.sizeOf0
  v0 := Tryz.zeroValue0
  t3 := Tryz.underlying3
  a3 := Tryz.isAgg3
  z3 := Tryz.sizeOf3
  v3 := Tryz.zeroValue3
  t4 := Tryz.underlying4
  a4 := Tryz.isAgg4
  z4 := Tryz.sizeOf4
  v4 := Tryz.zeroValue4
  t5 := Tryz.underlying5
  a5 := Tryz.isAgg5
  z5 := Tryz.sizeOf5
  v5 := Tryz.zeroValue5
  t9 := Tryz.underlying9
  a9 := Tryz.isAgg9
  z9 := Tryz.sizeOf9
  v9 := Tryz.zeroValue9
  t46 := Tryz.underlying227
  a46 := Tryz.isAgg227
  z46 := Tryz.sizeOf227
  v46 := Tryz.zeroValue227
  t51 := Tryz.underlying156
  a51 := Tryz.isAgg156
  z51 := Tryz.sizeOf156
  v51 := Tryz.zeroValue156
  t146 := Tryz.underlying262
  a146 := Tryz.isAgg262
  z146 := Tryz.sizeOf262
  v146 := Tryz.zeroValue262
  g1 := by kernel_rfl }
end Go.Proofs
namespace Fw
open Go Go.RowKit Go.Maps Go.Sort Go.Shelf Go.Proofs
open Go.WideElems (Fit rg)
def unitR : Value → Option (DataW Unit × List MemPlace) := fun _ => some (.agg [], [])
theorem owns_of {P : Program} {k : TypeId} {w : World} {b : Nat} {es : Array MapEntry} {clock : Nat} {xs : List (Int × Value)} (hk : P.underlying k = some (.int .i64)) (hb : w.heap[b]? = some (.map es clock)) (hm : MapIs (Value.int .i64) es clock xs) (hw : ∀ x, x ∈ xs → inI x.1) (hl : xs.length ≤ 1000000) :
    ∃ D : DataW Unit, w.ownsMap P k unitR b xs.length D ∧ (intKeys D).Perm (xs.map (·.1)) ∧ Maps.size D = xs.length := by
  have hsz : es.size = xs.length := by have := congrArg List.length hm.kv; simpa using this
  have hkey : ∀ x, x ∈ es.toList → ∃ y, y ∈ xs ∧ x.key = .int .i64 y.1 := by
    intro x hx
    have : (x.key, x.val) ∈ xs.map (fun y => (Value.int .i64 y.1, y.2)) := by rw [← hm.kv]; exact List.mem_map.2 ⟨x, hx, rfl⟩
    obtain ⟨y, h1, h2⟩ := List.mem_map.1 this
    simp only [Prod.mk.injEq] at h2
    exact ⟨y, h1, h2.1.symm⟩
  have hwf : ∀ a : Int, inI a → (Lit.int .i64 a).wf = true := by
    intro a ha
    unfold inI at ha
    have h1 : IntKind.i64.min = -9223372036854775808 := by decide
    have h2 : IntKind.i64.max = 9223372036854775807 := by decide
    simp only [Lit.wf, h1, h2]
    simp
    omega
  have hrd : ∀ x, x ∈ es.toList → ∃ y, y ∈ xs ∧ x.key = .int .i64 y.1 ∧ Go.WideElems.rd P k unitR x = some (.int .i64 y.1, .agg []) := by
    intro x hx
    obtain ⟨y, h1, h2⟩ := hkey x hx
    refine ⟨y, h1, h2, ?_⟩
    simp only [Go.WideElems.rd, h2, keyOf_int_mk hk (hwf _ (hw y h1)), unitR]
    rfl
  refine ⟨.map ((es.toList.map (rg P k unitR)).foldr DataW.insert []), ⟨es, clock, hb, ⟨?_, ⟨hm.lt, hm.born, ?_⟩, ?_⟩, by omega, rfl⟩, ?_, ?_⟩
  · simp only [maxLen]; omega
  · have h1 : es.toList.map (·.key) = xs.map (fun x => Value.int .i64 x.1) := by
      have := congrArg (List.map (·.1)) hm.kv
      rw [List.map_map, List.map_map] at this
      exact this
    rw [h1]
    have : (xs.map (fun x => Value.int .i64 x.1)) = (xs.map (·.1)).map (Value.int .i64) := by simp [List.map_map]
    rw [this, List.nodup_iff_pairwise_ne, List.pairwise_map]
    exact (List.nodup_iff_pairwise_ne.1 hm.nd).imp (fun h e => h (by simpa using e))
  · intro x hx
    obtain ⟨y, _, _, h3⟩ := hrd x hx
    exact ⟨_, h3⟩
  · have hp := (WideShapes.sorted_perm (es.toList.map (rg P k unitR))).map (fun p : Lit × DataW Unit => intOf p.1)
    show List.Perm (List.map (fun p : Lit × DataW Unit => intOf p.1) _) _
    refine hp.trans ?_
    rw [List.map_map]
    have key : ∀ (l : List MapEntry) (ys : List (Int × Value)), (∀ x, x ∈ l → ∃ y, y ∈ xs ∧ x.key = .int .i64 y.1 ∧ Go.WideElems.rd P k unitR x = some (.int .i64 y.1, .agg [])) → l.map (fun e => (e.key, e.val)) = ys.map (fun x => (Value.int .i64 x.1, x.2)) → l.map ((fun p : Lit × DataW Unit => intOf p.1) ∘ rg P k unitR) = ys.map (·.1) := by
      intro l
      induction l with
      | nil => intro ys _ h; cases ys <;> simp at h ⊢
      | cons x r ih =>
        intro ys h1 h2
        cases ys with
        | nil => simp at h2
        | cons y t =>
          simp only [List.map_cons, List.cons.injEq, Prod.mk.injEq] at h2 ⊢
          obtain ⟨z, _, h3, h4⟩ := h1 x (by simp)
          rw [h2.1.1] at h3
          simp only [Value.int.injEq, true_and] at h3
          refine ⟨?_, ih t (fun q hq => h1 q (by simp [hq])) h2.2⟩
          simp only [Function.comp, rg, h4, Option.getD_some, Go.intOf]
          exact h3.symm
    rw [key es.toList xs hrd hm.kv]
  · simp only [Maps.size]
    rw [length_sorted]
    simp [hsz]
theorem sorts_of {G : PH} {xs : List (Int × Value)} {L : List BHeld} (hS : StR G xs L) (hL : Sp.VH L) {ss : List Int} (hp : ss.Perm (xs.map (·.1))) : ss.mergeSort (fun x y => decide (x ≤ y)) = L.map (·.id) := by
  have h1 : (ss.mergeSort (fun x y => decide (x ≤ y))).Perm (L.map (·.id)) := (List.mergeSort_perm _ _).trans (hp.trans hS.keys)
  have h2 : (ss.mergeSort (fun x y => decide (x ≤ y))).Pairwise (fun x y => decide (x ≤ y) = true) := List.pairwise_mergeSort (le := fun x y : Int => decide (x ≤ y)) (fun a b c h1 h2 => by simp at *; omega) (fun a b => by simp; omega) ss
  have h3 : (L.map (·.id)).Pairwise (fun x y => decide (x ≤ y) = true) := by
    rw [List.pairwise_map]
    exact hL.asc.imp (fun h => decide_eq_true (by omega))
  exact h1.eq_of_pairwise (fun a b _ _ h1 h2 => by have := of_decide_eq_true h1; have := of_decide_eq_true h2; omega) h2 h3
theorem owns_acc {w w' : World} {e : TypeId} {v : Value} {n : Nat} {cells : List Value} (h : w'.ownsRow w.heap.size e 1 v n cells) : (acc e 1 v n cells).pred (fun b => w'.heap[b]?) ∧ (∀ b, b ∈ (acc e 1 v n cells).fp → w.heap.size ≤ b) := by
  obtain ⟨h1, h2⟩ := h
  refine ⟨⟨h1, ?_⟩, ?_⟩
  · rcases h2 with h2 | ⟨g, cap, cur, rfl, _, h3, h4, h5, h6, h7⟩
    · exact .inl h2
    · exact .inr ⟨g, cap, cur, rfl, h3, h4, h5, h6, h7⟩
  · rcases h2 with ⟨rfl, _⟩ | ⟨g, cap, cur, rfl, h3, _⟩
    · intro b hb; rw [acc_fp_nil] at hb; cases hb
    · intro b hb; rw [acc_fp, List.mem_singleton] at hb; rw [hb]; exact h3
end Fw
namespace Go.Proofs.Tst
open Go Fw Go.Proofs Go.Sort Go.Maps Go.Shelf Go.RowKit
theorem sorts (m : Nat) : AnyZI.SortsIn Tryz.prog Tryz.sortedA_ren Fence.wide m :=
  ⟨fun blk off cap ss W hH hblk hsz => callsIn_wide.2 (AnyM.slices_Sort_int Tryz.sortA blk off cap ss W hH hblk hsz),
   fun p cap W => callsIn_wide.2 (AnyM.slices_Sort_int_none Tryz.sortA p cap W)⟩
theorem keys_c (w0 : World) (G0 : PH) (hG : PSub G0 w0) (b : Nat) : Calls Tryz.prog 136 #[.map (some b)] w0 (fun e w' => ∃ kb, e = .returned (.func (.func 164) #[] #[.pointer (some ⟨kb, 0, none⟩)]) ∧ w0.heap.size ≤ kb ∧ Ext w0 w' ∧ w'.heap[kb]? = some (cl [.map (some b)] 66)) :=
  (callsIn_wide.1 (AnyZI.keys_in Tryz.keysA Fence.wide 5 trivial rfl (some b) w0)).mono fun e w' ⟨h1, h2⟩ => by
    subst h2
    exact ⟨w0.heap.size, h1, Nat.le_refl _, Ext.alloc _ _, alloc_new _ _⟩
set_option maxHeartbeats 1000000 in
theorem sorted_c (w0 : World) (Bm b : Nat) {es : Array MapEntry} {clock : Nat} {xs : List (Int × Value)} {L : List BHeld} {G : PH} (hB : w0.heap[Bm]? = some (cl [.map (some b)] 66)) (hb : w0.heap[b]? = some (.map es clock)) (hm : MapIs (Value.int .i64) es clock xs) (hS : StR G xs L) (hL : Sp.VH L) :
    Calls Tryz.prog 135 #[.func (.func 164) #[] #[.pointer (some ⟨Bm, 0, none⟩)]] w0 (fun e w' => ∃ v, e = .returned v ∧ Ext w0 w' ∧ (acc 3 1 v L.length (L.map (fun h => Value.int .i64 h.id))).pred (fun b => w'.heap[b]?) ∧ (∀ b, b ∈ (acc 3 1 v L.length (L.map (fun h => Value.int .i64 h.id))).fp → w0.heap.size ≤ b)) := by
  have hlen := hS.len
  have hw : ∀ x, x ∈ xs → inI x.1 := by
    intro x hx
    have := hS.keys.mem_iff.1 (List.mem_map.2 ⟨x, hx, rfl⟩)
    obtain ⟨h, hh, e⟩ := List.mem_map.1 this
    have := (hL.ok h hh).1
    rw [← e]
    unfold inI
    omega
  have hl16 := hL.len
  obtain ⟨D, hown, hp, hsz⟩ := owns_of (P := Tryz.prog) (k := 3) (by exact Tryz.underlying3) hb hm hw (by omega)
  have hBl := (Array.getElem?_eq_some_iff.1 hB).1
  have hseq : SeqGives Fence.wide 2 Tryz.prog 164 #[.pointer (some ⟨Bm, 0, none⟩)] encZ (fun ss => ss.Perm (intKeys D)) (Maps.size D) w0 :=
    AnyZI.keys_gives (ρ := Tryz.keysA_ren) { Tryz.keysA with } Fence.wide _ trivial rfl (by omega) Bm b xs.length D w0 hBl (by simp [World.cell?, hB]) hown
  refine (callsIn_wide.1 (AnyZI.sorted_in Tryz.sortedA Fence.wide 5 trivial trivial trivial trivial rfl (by omega) (sorts _) (enters_of Tryz.func163 (by kernel_rfl) rfl) 164 #[.pointer (some ⟨Bm, 0, none⟩)] trivial (enters_of Tryz.func164 (by kernel_rfl) rfl) _ _ (by simp only [maxLen]; omega) (by omega) _ hseq)).mono ?_
  rintro e w' ⟨v, ss, rfl, hS1, hrow, hnil, hbel⟩
  have hs := sorts_of hS hL (hS1.trans hp)
  have hn : ss.length = L.length := by have := (hS1.trans (hp.trans hS.keys)).length_eq; simpa using this
  rw [hs, hn] at hrow
  have he : (L.map (·.id)).map encZ = L.map (fun h => Value.int .i64 h.id) := by rw [List.map_map]; rfl
  rw [he] at hrow
  obtain ⟨h1, h2⟩ := owns_acc hrow
  exact ⟨v, rfl, Ext.of_below hbel, h1, h2⟩
end Go.Proofs.Tst
namespace Go.Proofs.Tst
open Go Fw Go.Proofs
theorem l_Index_c (w0 : World) (s : Bs) (hs : s.length ≤ 16777216) (c : UInt8) : Calls Tryz.prog 214 #[str s, str [c]] w0 (Rets w0 (.int .i64 (Sp.optI (s.findIdx? (Sp.isC c))))) :=
  (Any.strings_Index_one Tryz.lays143 ⟨s.toArray⟩ c w0).mono fun e w' ⟨h1, h2⟩ => ⟨by rw [h1]; simp [Sp.indexByte_eq], by rw [h2]; exact Ext.refl _⟩
theorem l_Count_c (w0 : World) (s : Bs) (hs : s.length ≤ 16777216) (c : UInt8) : Calls Tryz.prog 213 #[str s, str [c]] w0 (Rets w0 (.int .i64 (s.count c : Int))) :=
  (Any.strings_Count_one Tryz.lays138 ⟨s.toArray⟩ c w0).mono fun e w' ⟨h1, h2⟩ => ⟨by rw [h1]; simp [Lib.countByte], by rw [h2]; exact Ext.refl _⟩
end Go.Proofs.Tst
namespace Go.Proofs.Tst
open Go Fw Go.Proofs
theorem chkIds (G : PH) {L : List BHeld} (h : Sp.VH L) : Chk intE 1 G (L.map (fun h => Value.int .i64 h.id)) (L.map (·.id)) := by
  refine ⟨L.map (fun h => [Value.int .i64 h.id]), ?_, by simp, fun i x hx => ?_⟩
  · clear h
    induction L with
    | nil => rfl
    | cons a r ih => simp only [List.map_cons, List.flatten_cons, ← ih]; rfl
  rw [List.getElem?_map] at hx ⊢
  cases e : L[i]? with
  | none => simp [e] at hx
  | some y =>
    simp only [e, Option.map_some, Option.some.injEq] at hx ⊢
    subst hx
    have := (h.at e).1
    exact ⟨_, rfl, rfl, rfl, by unfold inI; omega⟩
end Go.Proofs.Tst

namespace Go.Proofs.Tst
open Go Fw
theorem l_Equal_c (w0 : World) (G0 : PH) (hG : PSub G0 w0) (va : Value) (a : List (Int)) (ha : RdI G0 va a) (vb : Value) (b : List (Int)) (hb : RdI G0 vb b)  :
  Calls Tryz.prog 184 #[va, vb] w0 (Rets w0 (.bool (Sp.l2Same a b))) := by
 obtain ⟨aa, ka, rfl⟩ := ha.shape
 have hlima : a.length ≤ 1099511627776 := ha.lim
 obtain ⟨ab, kb, rfl⟩ := hb.shape
 have hlimb : b.length ≤ 1099511627776 := hb.lim
 have H := Hp.init hG
 refine calls_of_W (l := [.slice aa a.length ka, .slice ab b.length kb]) Tryz.func184 rfl Tryz.ntmps184 rfl ?_
 refine q2 ?_
 refine o_assign rfl rfl ?_
 refine q3 ?_
 refine W_seq ?_
 refine q2 ?_
 refine o_move rfl rfl ?_
 refine o_len_slice Tryz.underlying27 rfl rfl ?_
 refine o_move rfl rfl ?_
 refine o_len_slice Tryz.underlying27 rfl rfl ?_
 refine o_neq rfl rfl rfl ?_
 refine q3 ?_
 refine W_cond rfl ?_ ?_
 ·intro hc1
  try simp only [nrm] at hc1
  refine q2 ?_
  refine o_assign rfl rfl ?_
  refine q3 ?_
  refine W_ret ?_
  refine N_K_ret ?_
  refine ret_gen (rs := [.tmp 4]) (vs := [_]) Tryz.results184 ⟨rfl, trivial⟩ ?_
  exact H.rets (congrArg Value.bool (by unfold Sp.l2Same; exact Sp.ne_len (by omega)))
 intro hc1'
 try simp only [nrm] at hc1'
 refine W_skip ?_
 refine N_K ?_
 refine W_seq ?_
 refine q2 ?_
 refine o_move rfl rfl ?_
 refine o_len_slice Tryz.underlying27 rfl rfl ?_
 refine o_move rfl rfl ?_
 refine q3 ?_
 refine W_block ?_
 refine W_loop (hf := (Sub.cons (t := 0) rfl (Sub.cons (t := 1) rfl (Sub.cons (t := 12) rfl Sub.nil)))) (J := fun M w m => ∃ (k : Nat) (G : PH), M = [(13, .int .i64 (k : Int))] ∧ PLe G0 G ∧ Hp w0 G0 [] w G [] ∧ (k ≤ a.length ∧ a.take k = b.take k) ∧ m = (a.length - k)) (h0 := ⟨0, _, rfl, PLe.refl _, H, ?inv, rfl⟩) (hM := ?hM) (round := ?round)
 case hM => (repeat (first | exact Sub.nil | refine Sub.cons rfl ?_))
 case inv => exact ⟨by omega, by simp⟩
 case round =>
  rintro _ w2 _ ⟨k, G2, rfl, hle2, H, hinv2, rfl⟩
  have ha := ha.up hle2
  have hb := hb.up hle2
  obtain ⟨hk, hall⟩ := hinv2
  refine q2 ?_
  refine o_lss rfl rfl rfl ?_
  refine q3 ?_
  refine W_seq ?_
  refine W_cond rfl ?_ ?_
  ·intro hc3
   try simp only [nrm] at hc3
   refine W_skip ?_
   refine N_K ?_
   refine W_seq ?_
   refine W_block ?_
   refine q2 ?_
   refine o_move rfl rfl ?_
   refine o_assign rfl rfl ?_
   refine q3 ?_
   refine W_seq ?_
   refine W_drawK [] 9 H (by kernel_rfl) rfl ?_; intro w4 H; have hd4 := PLe.refl G2
   refine RD_t 0 rfl (by kernel_rfl) rfl (fun _ hK => v_move rfl) ?_
   refine RD_t 1 rfl (by kernel_rfl) rfl (fun _ hK => v_move rfl) ?_
   have hl5 := ha.len
   obtain ⟨b5, o5, z5, q5, ha5, hz5, hq5, hE5, hrow5, _⟩ := ha.at (i := k) (by omega)
   clear hq5
   obtain ⟨rfl, hi5⟩ := hE5
   refine RD_t 2 rfl (by kernel_rfl) rfl (fun _ hK => v_index_P (i := k) ha5 Tryz.underlying27 Tryz.sizeOf3 rfl rfl rfl (by omega)) ?_
   refine RD_t 3 rfl (by kernel_rfl) rfl (fun _ hK => v_load_P hK Tryz.isAgg3 rfl (hrow5 0 _ rfl)) ?_
   refine RD_t 4 rfl (by kernel_rfl) rfl (fun _ hK => v_move rfl) ?_
   refine RD_t 5 rfl (by kernel_rfl) rfl (fun _ hK => v_move rfl) ?_
   have hl6 := hb.len
   obtain ⟨b6, o6, z6, q6, ha6, hz6, hq6, hE6, hrow6, _⟩ := hb.at (i := k) (by omega)
   clear hq6
   obtain ⟨rfl, hi6⟩ := hE6
   refine RD_t 6 rfl (by kernel_rfl) rfl (fun _ hK => v_index_P (i := k) ha6 Tryz.underlying27 Tryz.sizeOf3 rfl rfl rfl (by omega)) ?_
   refine RD_t 7 rfl (by kernel_rfl) rfl (fun _ hK => v_load_P hK Tryz.isAgg3 rfl (hrow6 0 _ rfl)) ?_
   refine RD_t 8 rfl (by kernel_rfl) rfl (fun _ hK => v_neq rfl rfl) ?_
   refine RD_done (by kernel_rfl) ?_
   refine N_K ?_
   refine W_cond rfl ?_ ?_
   ·intro hc7
    try simp only [nrm] at hc7
    refine q2 ?_
    refine o_assign rfl rfl ?_
    refine q3 ?_
    refine W_ret ?_
    refine N_B_ret ?_
    refine N_K_ret ?_
    refine N_LP_ret ?_
    refine N_B_ret ?_
    refine N_K_ret ?_
    refine ret_gen (rs := [.tmp 4]) (vs := [_]) Tryz.results184 ⟨rfl, trivial⟩ ?_
    exact H.rets (congrArg Value.bool (by unfold Sp.l2Same; exact Sp.ne_at hz5 hz6 (by omega)))
   intro hc7'
   try simp only [nrm] at hc7'
   refine W_skip ?_
   refine N_B ?_
   refine N_K ?_
   refine W_region ?_
   refine o_add rfl rfl rfl ⟨by omega, by omega⟩ ?_
   refine o_move rfl rfl ?_
   refine R_nil ?_
   refine N_LP (hJ := ⟨k + 1, _, rfl, hle2, H, ?inv, rfl⟩) (hM := ?hM) (hf := ?hf) (hm := ?hm)
   case hM => (repeat (first | exact Sub.nil | refine Sub.cons rfl ?_))
   case hf => (repeat (first | exact Sub.nil | refine Sub.cons rfl ?_))
   case hm => omega
   case inv => exact ⟨by omega, Sp.take_eq hall hz5 (by rw [hz6]; congr 1; omega)⟩
  intro hc3'
  try simp only [nrm] at hc3'
  refine W_exit ?_
  refine N_K_exit ?_
  refine N_LP_exit ?_
  refine N_B_same ?_
  refine N_K ?_
  refine q2 ?_
  refine o_assign rfl rfl ?_
  refine q3 ?_
  refine W_ret ?_
  refine ret_gen (rs := [.tmp 4]) (vs := [_]) Tryz.results184 ⟨rfl, trivial⟩ ?_
  exact H.rets (congrArg Value.bool (by unfold Sp.l2Same; exact Sp.eq_all hall (by omega) (by omega)))
theorem l_Clone_c (w0 : World) (G0 : PH) (hG : PSub G0 w0) (vl : Value) (l : List (Int)) (hl : RdI G0 vl l)  :
  Calls Tryz.prog 133 #[vl] w0 (RetO w0 G0 (AccOf intE 1 3 l)) := by
 obtain ⟨al, kl, rfl⟩ := hl.shape
 have hliml : l.length ≤ 1099511627776 := hl.lim
 have H := Hp.init hG
 refine calls_of_W (l := [.slice al l.length kl]) Tryz.func133 rfl Tryz.ntmps133 rfl ?_
 refine q2 ?_
 refine o_assign rfl rfl ?_
 refine q3 ?_
 refine W_seq ?_
 refine q2 ?_
 refine o_move rfl rfl ?_
 refine o_eqnil_slice Tryz.underlying27 rfl rfl rfl ?_
 refine q3 ?_
 refine W_cond rfl ?_ ?_
 ·intro hc1
  try simp only [nrm] at hc1
  refine q2 ?_
  refine o_assign rfl rfl ?_
  refine q3 ?_
  refine W_ret ?_
  refine N_K_ret ?_
  refine ret_gen (rs := [.tmp 2]) (vs := [_]) Tryz.results133 ⟨rfl, trivial⟩ ?_
  obtain rfl : al = none := by simpa using hc1
  obtain rfl : l = [] := by obtain ⟨_, _, h1, _, _, h2⟩ := hl; rcases h2 with h2 | ⟨b, o, h2, _⟩; (· exact h2); simp only [Value.slice.injEq] at h1; rw [← h1.1] at h2; cases h2
  have H := H.addNil 3 1
  exact H.retO (k := 0) rfl (AccOf.mk rfl Chk.nil) (acc_nd _ _ _ _ _)
 intro hc1'
 try simp only [nrm] at hc1'
 refine W_skip ?_
 refine N_K ?_
 refine q2 ?_
 refine o_buildSlice H Tryz.underlying27 Tryz.sizeOf3 (fun w => ⟨_, Tryz.zeroValue3 w, rfl⟩) rfl rfl rfl rfl rfl rfl rfl ?_; intro b2 w2 hb2 H
 have H := H.blkAcc 1 (k := 0) (n := 0) rfl rfl (by decide)
 refine o_move rfl rfl ?_
 refine o_append_P 0 H hl (by intro z cs hz u hu; obtain ⟨rfl, _⟩ := hz; simp at hu; subst hu; rfl) (sz := 1) (bytes := 8) Tryz.underlying27 Tryz.typeInfo3 ⟨_, rfl, rfl⟩ rfl rfl rfl rfl rfl rfl rfl (by omega) rfl ?_; intro v3 w3 css3 hcl3 hcs3 H
 have hchk3 : Chk intE 1 G0 ([] ++ css3.flatten) _ := ⟨css3, rfl, hcl3, hcs3⟩
 obtain ⟨av3, cv3, rfl⟩ := H.accShape (k := 0) rfl
 refine o_assign rfl rfl ?_
 refine q3 ?_
 refine W_ret ?_
 refine ret_gen (rs := [.tmp 2]) (vs := [_]) Tryz.results133 ⟨rfl, trivial⟩ ?_
 exact H.retO (k := 0) rfl (by skip; exact AccOf.mk (by first | rfl | assumption | (simp; done) | (simp; omega) | omega) hchk3) (acc_nd _ _ _ _ _)
theorem i_bytesValid_c (w0 : World) (G0 : PH) (hG : PSub G0 w0) (vbytes : Value) (bytes : List (Int)) (hbytes : RdI G0 vbytes bytes)  :
  Calls Tryz.prog 76 #[vbytes] w0 (Rets w0 (.bool (bytes.all Sp.byteOk))) := by
 obtain ⟨abytes, kbytes, rfl⟩ := hbytes.shape
 have hlimbytes : bytes.length ≤ 1099511627776 := hbytes.lim
 have H := Hp.init hG
 refine calls_of_W (l := [.slice abytes bytes.length kbytes]) Tryz.func76 rfl Tryz.ntmps76 rfl ?_
 refine q2 ?_
 refine o_assign rfl rfl ?_
 refine q3 ?_
 refine W_seq ?_
 refine q2 ?_
 refine o_move rfl rfl ?_
 refine o_len_slice Tryz.underlying27 rfl rfl ?_
 refine o_move rfl rfl ?_
 refine q3 ?_
 refine W_block ?_
 refine W_loop (hf := (Sub.cons (t := 5) rfl (Sub.cons (t := 6) rfl Sub.nil))) (J := fun M w m => ∃ (k : Nat) (G : PH), M = [(7, .int .i64 (k : Int))] ∧ PLe G0 G ∧ Hp w0 G0 [] w G [] ∧ (k ≤ bytes.length ∧ (bytes.take k).all Sp.byteOk = true) ∧ m = (bytes.length - k)) (h0 := ⟨0, _, rfl, PLe.refl _, H, ?inv, rfl⟩) (hM := ?hM) (round := ?round)
 case hM => (repeat (first | exact Sub.nil | refine Sub.cons rfl ?_))
 case inv => exact ⟨by omega, by simp⟩
 case round =>
  rintro _ w1 _ ⟨k, G1, rfl, hle1, H, hinv1, rfl⟩
  have hbytes := hbytes.up hle1
  obtain ⟨hk, hall⟩ := hinv1
  refine q2 ?_
  refine o_lss rfl rfl rfl ?_
  refine q3 ?_
  refine W_seq ?_
  refine W_cond rfl ?_ ?_
  ·intro hc2
   try simp only [nrm] at hc2
   refine W_skip ?_
   refine N_K ?_
   refine W_seq ?_
   refine W_block ?_
   refine q2 ?_
   refine o_index_P k hbytes Tryz.underlying27 Tryz.sizeOf3 rfl rfl rfl rfl (by omega) ?_; intro b3 o3 z3 q3 hz3 hE3 hrow3
   obtain ⟨rfl, hi3⟩ := hE3
   refine o_load_P H Tryz.isAgg3 rfl rfl (hrow3 0 _ rfl) ?_
   refine o_assign rfl rfl ?_
   refine q1 ?_
   refine o_move rfl rfl ?_
   refine o_lss rfl rfl rfl ?_
   refine o_move rfl rfl ?_
   refine R_case (t := 13) rfl ?_ ?_
   ·intro hc4
    try simp only [nrm] at hc4
    refine R_pass rfl (yl_ne rfl rfl rfl) ?_
    refine R_pass rfl (yl_ne rfl rfl rfl) ?_
    refine o_pick_t rfl rfl rfl ?_
    refine q3 ?_
    refine W_true rfl ?_
    refine q2 ?_
    refine o_assign rfl rfl ?_
    refine q3 ?_
    refine W_ret ?_
    refine N_B_ret ?_
    refine N_K_ret ?_
    refine N_LP_ret ?_
    refine N_B_ret ?_
    refine N_K_ret ?_
    refine ret_gen (rs := [.tmp 2]) (vs := [_]) Tryz.results76 ⟨rfl, trivial⟩ ?_
    exact H.rets (congrArg Value.bool (by rw [Sp.all_false hz3 (by simp [Sp.byteOk, Sp.l6In]; omega)]))
   intro hc4'
   try simp only [nrm] at hc4'
   refine R_guard (yl rfl rfl) ?_
   refine o_move rfl rfl ?_
   refine R_guard (yl rfl rfl) ?_
   refine o_gtr rfl rfl rfl ?_
   refine o_pick_f rfl rfl rfl ?_
   refine q3 ?_
   refine W_cond rfl ?_ ?_
   ·intro hc5
    try simp only [nrm] at hc5
    refine q2 ?_
    refine o_assign rfl rfl ?_
    refine q3 ?_
    refine W_ret ?_
    refine N_B_ret ?_
    refine N_K_ret ?_
    refine N_LP_ret ?_
    refine N_B_ret ?_
    refine N_K_ret ?_
    refine ret_gen (rs := [.tmp 2]) (vs := [_]) Tryz.results76 ⟨rfl, trivial⟩ ?_
    exact H.rets (congrArg Value.bool (by rw [Sp.all_false hz3 (by simp [Sp.byteOk, Sp.l6In]; omega)]))
   intro hc5'
   try simp only [nrm] at hc5'
   refine W_skip ?_
   refine N_B ?_
   refine N_K ?_
   refine W_region ?_
   refine o_add rfl rfl rfl ⟨by omega, by omega⟩ ?_
   refine o_move rfl rfl ?_
   refine R_nil ?_
   refine N_LP (hJ := ⟨k + 1, _, rfl, hle1, H, ?inv, rfl⟩) (hM := ?hM) (hf := ?hf) (hm := ?hm)
   case hM => (repeat (first | exact Sub.nil | refine Sub.cons rfl ?_))
   case hf => (repeat (first | exact Sub.nil | refine Sub.cons rfl ?_))
   case hm => omega
   case inv => exact ⟨by omega, Sp.all_take hall hz3 (by simp [Sp.byteOk, Sp.l6In]; omega)⟩
  intro hc2'
  try simp only [nrm] at hc2'
  refine W_exit ?_
  refine N_K_exit ?_
  refine N_LP_exit ?_
  refine N_B_same ?_
  refine N_K ?_
  refine q2 ?_
  refine o_assign rfl rfl ?_
  refine q3 ?_
  refine W_ret ?_
  refine ret_gen (rs := [.tmp 2]) (vs := [_]) Tryz.results76 ⟨rfl, trivial⟩ ?_
  obtain rfl : k = bytes.length := by omega
  rw [List.take_length] at hall
  exact H.rets (congrArg Value.bool (by rw [hall]))
theorem i_BlockValid_c (w0 : World) (G0 : PH) (hG : PSub G0 w0) (vbytes : Value) (bytes : List (Int)) (hbytes : RdI G0 vbytes bytes)  :
  Calls Tryz.prog 183 #[vbytes] w0 (Rets w0 (.bool (Sp.BlockValid bytes))) := by
 obtain ⟨abytes, kbytes, rfl⟩ := hbytes.shape
 have hlimbytes : bytes.length ≤ 1099511627776 := hbytes.lim
 have H := Hp.init hG
 refine calls_of_W (l := [.slice abytes bytes.length kbytes]) Tryz.func183 rfl Tryz.ntmps183 rfl ?_
 refine q2 ?_
 refine o_assign rfl rfl ?_
 refine q1 ?_
 refine o_move rfl rfl ?_
 refine o_len_slice Tryz.underlying27 rfl rfl ?_
 refine o_geq rfl rfl rfl ?_
 refine o_move rfl rfl ?_
 refine R_case (t := 6) rfl ?_ ?_
 ·intro hc1
  try simp only [nrm] at hc1
  refine R_guard (yl rfl rfl) ?_
  refine o_move rfl rfl ?_
  refine R_guard (yl rfl rfl) ?_
  refine o_len_slice Tryz.underlying27 rfl rfl ?_
  refine R_guard (yl rfl rfl) ?_
  refine o_leq rfl rfl rfl ?_
  refine o_pick_t rfl rfl rfl ?_
  refine o_move rfl rfl ?_
  refine R_case (t := 11) rfl ?_ ?_
  ·intro hc2
   try simp only [nrm] at hc2
   refine R_guard (yl rfl rfl) ?_
   refine o_move rfl rfl ?_
   refine R_guard (yl rfl rfl) ?_
   refine o_call Tryz.call76 rfl rfl (i_bytesValid_c _ _ H.sub _ _ hbytes ) ?_
   rintro _ w3 ⟨rfl, ew3⟩; have H := H.step ew3; refine ⟨_, rfl, ?_⟩
   refine o_pick_t rfl rfl rfl ?_
   refine o_assign rfl rfl ?_
   refine q3 ?_
   refine W_ret ?_
   refine ret_gen (rs := [.tmp 2]) (vs := [_]) Tryz.results183 ⟨rfl, trivial⟩ ?_
   exact H.rets (congrArg Value.bool (by unfold Sp.BlockValid Sp.l6In; rw [Bool.eq_iff_iff]; simp; omega))
  intro hc2'
  try simp only [nrm] at hc2'
  refine R_pass rfl (yl_ne rfl rfl rfl) ?_
  refine R_pass rfl (yl_ne rfl rfl rfl) ?_
  refine o_pick_f rfl rfl rfl ?_
  refine o_assign rfl rfl ?_
  refine q3 ?_
  refine W_ret ?_
  refine ret_gen (rs := [.tmp 2]) (vs := [_]) Tryz.results183 ⟨rfl, trivial⟩ ?_
  exact H.rets (congrArg Value.bool (by unfold Sp.BlockValid Sp.l6In; rw [Bool.eq_iff_iff]; simp; omega))
 intro hc1'
 try simp only [nrm] at hc1'
 refine R_pass rfl (yl_ne rfl rfl rfl) ?_
 refine R_pass rfl (yl_ne rfl rfl rfl) ?_
 refine R_pass rfl (yl_ne rfl rfl rfl) ?_
 refine o_pick_f rfl rfl rfl ?_
 refine o_move rfl rfl ?_
 refine R_pass rfl (yl_ne rfl rfl rfl) ?_
 refine R_pass rfl (yl_ne rfl rfl rfl) ?_
 refine o_pick_f rfl rfl rfl ?_
 refine o_assign rfl rfl ?_
 refine q3 ?_
 refine W_ret ?_
 refine ret_gen (rs := [.tmp 2]) (vs := [_]) Tryz.results183 ⟨rfl, trivial⟩ ?_
 exact H.rets (congrArg Value.bool (by unfold Sp.BlockValid Sp.l6In; rw [Bool.eq_iff_iff]; simp; omega))
theorem i_FileValid_c (w0 : World) (G0 : PH) (hG : PSub G0 w0) (vbytes : Value) (bytes : List (Int)) (hbytes : RdI G0 vbytes bytes)  :
  Calls Tryz.prog 31 #[vbytes] w0 (Rets w0 (.bool (Sp.FileValid bytes))) := by
 obtain ⟨abytes, kbytes, rfl⟩ := hbytes.shape
 have hlimbytes : bytes.length ≤ 1099511627776 := hbytes.lim
 have H := Hp.init hG
 refine calls_of_W (l := [.slice abytes bytes.length kbytes]) Tryz.func31 rfl Tryz.ntmps31 rfl ?_
 refine q2 ?_
 refine o_assign rfl rfl ?_
 refine q1 ?_
 refine o_move rfl rfl ?_
 refine o_len_slice Tryz.underlying27 rfl rfl ?_
 refine o_leq rfl rfl rfl ?_
 refine o_move rfl rfl ?_
 refine R_case (t := 6) rfl ?_ ?_
 ·intro hc1
  try simp only [nrm] at hc1
  refine R_guard (yl rfl rfl) ?_
  refine o_move rfl rfl ?_
  refine R_guard (yl rfl rfl) ?_
  refine o_call Tryz.call76 rfl rfl (i_bytesValid_c _ _ H.sub _ _ hbytes ) ?_
  rintro _ w2 ⟨rfl, ew2⟩; have H := H.step ew2; refine ⟨_, rfl, ?_⟩
  refine o_pick_t rfl rfl rfl ?_
  refine o_assign rfl rfl ?_
  refine q3 ?_
  refine W_ret ?_
  refine ret_gen (rs := [.tmp 2]) (vs := [_]) Tryz.results31 ⟨rfl, trivial⟩ ?_
  exact H.rets (congrArg Value.bool (by unfold Sp.FileValid; rw [Bool.eq_iff_iff]; simp; omega))
 intro hc1'
 try simp only [nrm] at hc1'
 refine R_pass rfl (yl_ne rfl rfl rfl) ?_
 refine R_pass rfl (yl_ne rfl rfl rfl) ?_
 refine o_pick_f rfl rfl rfl ?_
 refine o_assign rfl rfl ?_
 refine q3 ?_
 refine W_ret ?_
 refine ret_gen (rs := [.tmp 2]) (vs := [_]) Tryz.results31 ⟨rfl, trivial⟩ ?_
 exact H.rets (congrArg Value.bool (by unfold Sp.FileValid; rw [Bool.eq_iff_iff]; simp; omega))
theorem i_partValid_c (w0 : World) (s : Bs) (hs : s.length ≤ 16777216)  :
  Calls Tryz.prog 116 #[str s] w0 (Rets w0 (.bool (Sp.l1Word s))) := by
 have H := Hp.init0 w0
 refine calls_of_W (l := [str s]) Tryz.func116 rfl Tryz.ntmps116 rfl ?_
 refine q2 ?_
 refine o_assign rfl rfl ?_
 refine q3 ?_
 refine W_seq ?_
 refine q2 ?_
 refine o_move rfl rfl ?_
 refine o_len_str Tryz.underlying9 rfl rfl ?_
 refine o_lss rfl rfl rfl ?_
 refine o_move rfl rfl ?_
 refine R_case (t := 7) rfl ?_ ?_
 ·intro hc1
  try simp only [nrm] at hc1
  refine R_pass rfl (yl_ne rfl rfl rfl) ?_
  refine R_pass rfl (yl_ne rfl rfl rfl) ?_
  refine R_pass rfl (yl_ne rfl rfl rfl) ?_
  refine o_pick_t rfl rfl rfl ?_
  refine q3 ?_
  refine W_true rfl ?_
  refine q2 ?_
  refine o_assign rfl rfl ?_
  refine q3 ?_
  refine W_ret ?_
  refine N_K_ret ?_
  refine ret_gen (rs := [.tmp 2]) (vs := [_]) Tryz.results116 ⟨rfl, trivial⟩ ?_
  exact H.rets (congrArg Value.bool (by unfold Sp.l1Word; rw [Bool.eq_iff_iff]; simp; omega))
 intro hc1'
 try simp only [nrm] at hc1'
 refine R_guard (yl rfl rfl) ?_
 refine o_move rfl rfl ?_
 refine R_guard (yl rfl rfl) ?_
 refine o_len_str Tryz.underlying9 rfl rfl ?_
 refine R_guard (yl rfl rfl) ?_
 refine o_gtr rfl rfl rfl ?_
 refine o_pick_f rfl rfl rfl ?_
 refine q3 ?_
 refine W_cond rfl ?_ ?_
 ·intro hc2
  try simp only [nrm] at hc2
  refine q2 ?_
  refine o_assign rfl rfl ?_
  refine q3 ?_
  refine W_ret ?_
  refine N_K_ret ?_
  refine ret_gen (rs := [.tmp 2]) (vs := [_]) Tryz.results116 ⟨rfl, trivial⟩ ?_
  exact H.rets (congrArg Value.bool (by unfold Sp.l1Word; rw [Bool.eq_iff_iff]; simp; omega))
 intro hc2'
 try simp only [nrm] at hc2'
 refine W_skip ?_
 refine N_K ?_
 refine W_seq ?_
 refine q2 ?_
 refine o_assign rfl rfl ?_
 refine q3 ?_
 refine W_block ?_
 refine W_loop (hf := (Sub.cons (t := 0) rfl Sub.nil)) (J := fun M w m => ∃ (k : Nat) (G : PH), M = [(3, .int .i64 (k : Int))] ∧ PLe (fun _ => none) G ∧ Hp w0 (fun _ => none) [] w G [] ∧ (k ≤ s.length ∧ (s.take k).all Sp.low = true) ∧ m = (s.length - k)) (h0 := ⟨0, _, rfl, PLe.refl _, H, ?inv, rfl⟩) (hM := ?hM) (round := ?round)
 case hM => (repeat (first | exact Sub.nil | refine Sub.cons rfl ?_))
 case inv => exact ⟨by omega, by simp⟩
 case round =>
  rintro _ w3 _ ⟨k, G3, rfl, hle3, H, hinv3, rfl⟩
  obtain ⟨hk, hall⟩ := hinv3
  refine W_seq ?_
  refine q2 ?_
  refine o_move rfl rfl ?_
  refine o_move rfl rfl ?_
  refine o_len_str Tryz.underlying9 rfl rfl ?_
  refine o_lss rfl rfl rfl ?_
  refine q3 ?_
  refine W_cond rfl ?_ ?_
  ·intro hc4
   try simp only [nrm] at hc4
   refine W_skip ?_
   refine N_K ?_
   refine W_seq ?_
   refine W_block ?_
   refine q2 ?_
   refine o_move rfl rfl ?_
   refine o_move rfl rfl ?_
   refine o_index_str Tryz.underlying9 rfl rfl rfl rfl (by omega) ?_; intro ch5 hch5; have hlt5 := ch5.toNat_lt
   refine o_lss rfl rfl rfl ?_
   refine o_move rfl rfl ?_
   refine R_case (t := 22) rfl ?_ ?_
   ·intro hc6
    try simp only [nrm] at hc6
    refine R_pass rfl (yl_ne rfl rfl rfl) ?_
    refine R_pass rfl (yl_ne rfl rfl rfl) ?_
    refine R_pass rfl (yl_ne rfl rfl rfl) ?_
    refine R_pass rfl (yl_ne rfl rfl rfl) ?_
    refine o_pick_t rfl rfl rfl ?_
    refine q3 ?_
    refine W_true rfl ?_
    refine q2 ?_
    refine o_assign rfl rfl ?_
    refine q3 ?_
    refine W_ret ?_
    refine N_B_ret ?_
    refine N_K_ret ?_
    refine N_LP_ret ?_
    refine N_B_ret ?_
    refine N_K_ret ?_
    refine ret_gen (rs := [.tmp 2]) (vs := [_]) Tryz.results116 ⟨rfl, trivial⟩ ?_
    exact H.rets (congrArg Value.bool (by rw [Sp.l1Word, Sp.all_false hch5 (by simp [Sp.low]; omega)]; rfl))
   intro hc6'
   try simp only [nrm] at hc6'
   refine R_guard (yl rfl rfl) ?_
   refine o_move rfl rfl ?_
   refine R_guard (yl rfl rfl) ?_
   refine o_move rfl rfl ?_
   refine R_guard (yl rfl rfl) ?_
   refine o_index_str Tryz.underlying9 rfl rfl rfl rfl (by omega) ?_; intro ch7 hch7; have hlt7 := ch7.toNat_lt
   obtain rfl : ch7 = ch5 := Option.some.inj (hch7.symm.trans hch5)
   refine R_guard (yl rfl rfl) ?_
   refine o_gtr rfl rfl rfl ?_
   refine o_pick_f rfl rfl rfl ?_
   refine q3 ?_
   refine W_cond rfl ?_ ?_
   ·intro hc8
    try simp only [nrm] at hc8
    refine q2 ?_
    refine o_assign rfl rfl ?_
    refine q3 ?_
    refine W_ret ?_
    refine N_B_ret ?_
    refine N_K_ret ?_
    refine N_LP_ret ?_
    refine N_B_ret ?_
    refine N_K_ret ?_
    refine ret_gen (rs := [.tmp 2]) (vs := [_]) Tryz.results116 ⟨rfl, trivial⟩ ?_
    exact H.rets (congrArg Value.bool (by rw [Sp.l1Word, Sp.all_false hch7 (by simp [Sp.low]; omega)]; rfl))
   intro hc8'
   try simp only [nrm] at hc8'
   refine W_skip ?_
   refine N_B ?_
   refine N_K ?_
   refine W_region ?_
   refine o_move rfl rfl ?_
   refine o_add rfl rfl rfl ⟨by omega, by omega⟩ ?_
   refine o_assign rfl rfl ?_
   refine R_nil ?_
   refine N_LP (hJ := ⟨k + 1, _, rfl, hle3, H, ?inv, rfl⟩) (hM := ?hM) (hf := ?hf) (hm := ?hm)
   case hM => (repeat (first | exact Sub.nil | refine Sub.cons rfl ?_))
   case hf => (repeat (first | exact Sub.nil | refine Sub.cons rfl ?_))
   case hm => omega
   case inv => exact ⟨by omega, Sp.all_take hall hch7 (by simp [Sp.low]; omega)⟩
  intro hc4'
  try simp only [nrm] at hc4'
  refine W_exit ?_
  refine N_K_exit ?_
  refine N_LP_exit ?_
  refine N_B_same ?_
  refine N_K ?_
  refine q2 ?_
  refine o_assign rfl rfl ?_
  refine q3 ?_
  refine W_ret ?_
  refine ret_gen (rs := [.tmp 2]) (vs := [_]) Tryz.results116 ⟨rfl, trivial⟩ ?_
  obtain rfl : k = s.length := by omega
  rw [List.take_length] at hall
  exact H.rets (congrArg Value.bool (by simp only [Sp.l1Word, hall]; rw [Bool.eq_iff_iff]; simp; omega))
end Go.Proofs.Tst

namespace Go.Proofs.Tst
open Go Fw
theorem l_genSplit_c (w0 : World) (G0 : PH) (hG : PSub G0 w0) (s : Bs) (hs : s.length ≤ 16777216) (c : UInt8)    :
  Calls Tryz.prog 199 #[str s, str [c], .int .i64 0, .int .i64 (-1)] w0 (RetP w0 G0 (fun G v => RdT G v (Sp.cutAt c s))) := by
 have hcnt := Sp.cnt_le c s
 have H := Hp.init hG
 refine calls_of_W (l := [str s, str [c], .int .i64 0, .int .i64 (-1)]) Tryz.func199 rfl Tryz.ntmps199 rfl ?_
 refine q2 ?_
 refine o_assign rfl rfl ?_
 refine q3 ?_
 refine W_seq ?_
 refine q2 ?_
 refine o_move rfl rfl ?_
 refine o_eql rfl rfl rfl ?_
 refine q3 ?_
 refine W_cond rfl ?_ ?_
 ·intro hc1
  try simp only [nrm] at hc1
  exact absurd hc1 (by decide)
 intro hc1'
 try simp only [nrm] at hc1'
 refine W_skip ?_
 refine N_K ?_
 refine W_seq ?_
 refine q2 ?_
 refine o_move rfl rfl ?_
 refine o_seql rfl rfl rfl ?_
 refine q3 ?_
 refine W_cond rfl ?_ ?_
 ·intro hc2
  try simp only [nrm] at hc2
  exact absurd hc2 (by simp)
 intro hc2'
 try simp only [nrm] at hc2'
 refine W_skip ?_
 refine N_K ?_
 refine W_seq ?_
 refine q2 ?_
 refine o_move rfl rfl ?_
 refine o_lss rfl rfl rfl ?_
 refine q3 ?_
 refine W_cond rfl ?_ ?_
 ·intro hc3
  try simp only [nrm] at hc3
  refine W_region ?_
  refine o_move rfl rfl ?_
  refine o_move rfl rfl ?_
  refine o_call Tryz.call213 rfl rfl (l_Count_c _ _ hs _ ) ?_
  rintro _ w4 ⟨rfl, ew4⟩; have H := H.step ew4; refine ⟨_, rfl, ?_⟩
  refine o_add rfl rfl rfl ⟨by omega, by omega⟩ ?_
  refine o_assign rfl rfl ?_
  refine q1 ?_
  refine o_move rfl rfl ?_
  refine o_move rfl rfl ?_
  refine o_len_str Tryz.underlying9 rfl rfl ?_
  refine o_add rfl rfl rfl ⟨by omega, by omega⟩ ?_
  refine o_min rfl rfl rfl ?_
  refine o_assign rfl rfl ?_
  refine q1 ?_
  refine o_move rfl rfl ?_
  refine o_makeN (c := (s.count c + 1)) (sz := 1) (bytes := 16) H Tryz.underlying87 Tryz.typeInfo9 ⟨_, rfl, rfl⟩ rfl rfl rfl rfl rfl rfl rfl (by omega) (by omega) (by omega) rfl ?_; intro b7 w7 H
  have hchk7 := Chk.rep (E := strE) (sz := 1) (G := G0) (x0 := []) (⟨rfl, by decide⟩) rfl ((s.count c + 1))
  refine o_assign rfl rfl ?_
  refine q1 ?_
  refine o_move rfl rfl ?_
  refine o_sub rfl rfl rfl ⟨by omega, by omega⟩ ?_
  refine o_assign rfl rfl ?_
  refine q1 ?_
  refine o_assign rfl rfl ?_
  refine q3 ?_
  refine W_seq ?_
  refine W_block ?_
  refine W_loop (hf := (Sub.cons (t := 1) rfl (Sub.cons (t := 2) rfl (Sub.cons (t := 3) rfl (Sub.cons (t := 8) rfl Sub.nil))))) (J := fun M w m => ∃ (v : Value) (n : Nat) (cs : List Value) (xs : List (Bs)) (r : Bs) (i : Nat) (G : PH), M = [(0, str r), (10, .int .i64 (i : Int)), (9, v)] ∧ PLe G0 G ∧ Hp w0 G0 [] w G [acc 9 1 v n cs] ∧ (Chk strE 1 G cs xs ∧ n = xs.length ∧ i ≤ s.count c ∧ xs.length = s.count c + 1 ∧ r.length ≤ 16777216 ∧ xs.take i ++ Sp.cutAt c r = Sp.cutAt c s ∧ r.count c = s.count c - i) ∧ m = (s.count c + 1 - i)) (h0 := ⟨_, _, _, (List.replicate (s.count c + 1) []), s, 0, _, rfl, PLe.refl _, H, ?inv, rfl⟩) (hM := ?hM) (round := ?round)
  case hM => (repeat (first | exact Sub.nil | refine Sub.cons rfl ?_))
  case inv => exact ⟨hchk7,  by first | rfl | simp | (simp; omega) | omega, (by simp [hs])⟩
  case round =>
   rintro _ w9 _ ⟨v, n, cs, xs, r, i, G9, rfl, hle9, H, hinv9, rfl⟩
   have hchk7 := hchk7.up hle9
   obtain ⟨hchk9_0, hn9_0, hinv9⟩ := hinv9
   obtain ⟨av9_0, cv9_0, rfl⟩ := H.accShape (k := 0) rfl
   obtain ⟨hi, hxl, hrl, hcut, hrc⟩ := hinv9
   refine W_seq ?_
   refine q2 ?_
   refine o_move rfl rfl ?_
   refine o_move rfl rfl ?_
   refine o_lss rfl rfl rfl ?_
   refine q3 ?_
   refine W_cond rfl ?_ ?_
   ·intro hc10
    try simp only [nrm] at hc10
    refine W_skip ?_
    refine N_K ?_
    refine W_block ?_
    refine q2 ?_
    refine o_move rfl rfl ?_
    refine o_move rfl rfl ?_
    refine o_call Tryz.call214 rfl rfl (l_Index_c _ _ hrl _ ) ?_
    rintro _ w11 ⟨rfl, ew11⟩; have H := H.step ew11; refine ⟨_, rfl, ?_⟩
    refine o_assign rfl rfl ?_
    refine q3 ?_
    refine W_seq ?_
    refine q2 ?_
    refine o_move rfl rfl ?_
    refine o_lss rfl rfl rfl ?_
    refine q3 ?_
    refine W_cond rfl ?_ ?_
    ·intro hc12
     try simp only [nrm] at hc12
     have hx := Sp.count_none c (Sp.at_none hc12)
     omega
    intro hc12'
    try simp only [nrm] at hc12'
    obtain ⟨m, x, hm1, hm2, hm3, hm4, hm5⟩ := Sp.at_nat hc12'
    have hm6 := Sp.count_some c hm1
    refine W_skip ?_
    refine N_K ?_
    refine q2 ?_
    refine o_move rfl rfl ?_
    refine o_move rfl rfl ?_
    refine o_move rfl rfl ?_
    refine o_move rfl rfl ?_
    refine o_move rfl rfl ?_
    refine o_add rfl rfl rfl ⟨by omega, by omega⟩ ?_
    refine o_slice_str_to Tryz.underlying9 rfl rfl rfl (by omega) (by omega) ?_
    refine o_index_A 0 H i rfl hchk9_0 Tryz.underlying87 Tryz.sizeOf9 rfl rfl rfl rfl (by first | omega | (simp; omega) | (simp; done)) (by first | rfl | assumption | (simp; done) | (simp; omega) | omega) ?_; intro ba15 z15 q15 hba15 hz15 hE15 hg15; cases hba15
    obtain ⟨rfl, hi15⟩ := hE15; have hy_hi15 : _ ≤ 16777216 := hi15
    have hcl16 := hchk9_0.length
    refine o_store_A 0 H Tryz.sizeOf9 rfl rfl rfl rfl rfl (by simp only [vc, List.length_cons, List.length_nil]; omega) ?_; intro w16 H
    have hchk16 := hchk9_0.put (x' := (r.take m)) (off := 0) (vs := [_]) hz15 (fun cs hl hE => by obtain ⟨rfl, _⟩ := hE; exact ⟨congrArg (fun j => [str (List.take j r)]) (show (Sp.optI (List.findIdx? (Sp.isC c) r) + 0).toNat = m by omega), by simp; omega⟩) (by simp only [vc, List.length_cons, List.length_nil]; omega)
    refine q1 ?_
    refine o_move rfl rfl ?_
    refine o_move rfl rfl ?_
    refine o_move rfl rfl ?_
    refine o_len_str Tryz.underlying9 rfl rfl ?_
    have hll1 : ([c] : Fw.Bs).length = 1 := rfl
    refine o_add rfl rfl rfl ⟨by omega, by omega⟩ ?_
    refine o_slice_str_from Tryz.underlying9 rfl rfl rfl (by omega) (by omega) ?_
    refine o_assign rfl rfl ?_
    refine q3 ?_
    refine W_region ?_
    refine o_move rfl rfl ?_
    refine o_add rfl rfl rfl ⟨by omega, by omega⟩ ?_
    refine o_assign rfl rfl ?_
    refine R_nil ?_
    refine N_B ?_
    refine N_LP (hJ := ⟨_, _, _, (xs.set i (r.take m)), (r.drop (Sp.optI (List.findIdx? (Sp.isC c) r) + (([c] : Fw.Bs).length : Int)).toNat), i + 1, _, rfl, hle9, H, ?inv, rfl⟩) (hM := ?hM) (hf := ?hf) (hm := ?hm)
    case hM => (repeat (first | exact Sub.nil | refine Sub.cons rfl ?_))
    case hf => (repeat (first | exact Sub.nil | refine Sub.cons rfl ?_))
    case hm => omega
    case inv => exact ⟨hchk16, (by first | assumption | (simp; omega) | omega), (by refine ⟨by omega, by simp [hxl], by simp; omega, ?_, ?_⟩; (· rw [show (Sp.optI (List.findIdx? (Sp.isC c) r) + (([c] : Fw.Bs).length : Int)).toNat = m + 1 by omega]; exact Sp.cut_round hcut hm1 (by omega) rfl); (· rw [show (Sp.optI (List.findIdx? (Sp.isC c) r) + (([c] : Fw.Bs).length : Int)).toNat = m + 1 by omega]; omega))⟩
   intro hc10'
   try simp only [nrm] at hc10'
   refine W_exit ?_
   refine N_K_exit ?_
   refine N_LP_exit ?_
   refine N_B_same ?_
   refine N_K ?_
   refine q2 ?_
   refine o_move rfl rfl ?_
   refine o_move rfl rfl ?_
   refine o_move rfl rfl ?_
   refine o_index_A 0 H i rfl hchk9_0 Tryz.underlying87 Tryz.sizeOf9 rfl rfl rfl rfl (by first | omega | (simp; omega) | (simp; done)) (by first | rfl | assumption | (simp; done) | (simp; omega) | omega) ?_; intro ba20 z20 q20 hba20 hz20 hE20 hg20; cases hba20
   obtain ⟨rfl, hi20⟩ := hE20; have hy_hi20 : _ ≤ 16777216 := hi20
   have hcl21 := hchk9_0.length
   refine o_store_A 0 H Tryz.sizeOf9 rfl rfl rfl rfl rfl (by simp only [vc, List.length_cons, List.length_nil]; omega) ?_; intro w21 H
   have hchk21 := hchk9_0.put (x' := r) (off := 0) (vs := [_]) hz20 (fun cs hl hE => by obtain ⟨rfl, _⟩ := hE; exact ⟨rfl, hrl⟩) (by simp only [vc, List.length_cons, List.length_nil]; omega)
   refine q1 ?_
   obtain ⟨G22, H, hsg22, hsr22⟩ := H.shut' (k := 0) rfl hchk21 (by first | assumption | (simp; done) | (simp; omega) | omega) (by first | assumption | (simp; done) | (simp; omega) | omega)
   have hchk7 := hchk7.up hsg22
   have hchk9_0 := hchk9_0.up hsg22
   have hchk21 := hchk21.up hsg22
   have hle9 := hle9.trans hsg22
   refine o_move rfl rfl ?_
   refine o_move rfl rfl ?_
   refine o_add rfl rfl rfl ⟨by omega, by omega⟩ ?_
   have hcap24 := hsr22.cap; try simp only [List.length_set, List.length_append, List.length_take, List.length_drop, List.length_replicate] at hcap24
   refine o_slice_to (j := (i + 1)) Tryz.underlying87 Tryz.sizeOf9 rfl rfl rfl (by omega) (by omega) ?_
   have hsl24 := hsr22.take (j := (i + 1)) (by first | omega | (simp; omega))
   refine o_assign rfl rfl ?_
   refine q3 ?_
   refine W_ret ?_
   refine ret_gen (rs := [.tmp 8]) (vs := [_]) Tryz.results199 ⟨rfl, trivial⟩ ?_
   obtain rfl : i = s.count c := by omega
   have hcl := Sp.cut_last hcut (by omega) (by omega)
   exact H.retP (by rw [← hcl]; exact hsl24)
 intro hc3'
 try simp only [nrm] at hc3'
 exact absurd hc3' (by decide)
theorem l_Split_c (w0 : World) (G0 : PH) (hG : PSub G0 w0) (s : Bs) (hs : s.length ≤ 16777216) (c : UInt8)  :
  Calls Tryz.prog 185 #[str s, str [c]] w0 (RetP w0 G0 (fun G v => RdT G v (Sp.cutAt c s))) := by
 have H := Hp.init hG
 refine calls_of_W (l := [str s, str [c]]) Tryz.func185 rfl Tryz.ntmps185 rfl ?_
 refine q2 ?_
 refine o_assign rfl rfl ?_
 refine q1 ?_
 refine o_move rfl rfl ?_
 refine o_move rfl rfl ?_
 refine o_call Tryz.call199 rfl rfl (l_genSplit_c _ _ H.sub _ hs _   ) ?_
 rintro _ w1 ⟨G1, u1_0, g1, rfl, hr1_0⟩
 have H := H.grow g1
 obtain ⟨a1_0, k1_0, rfl⟩ := hr1_0.shape; have hx_hr1_0 : _ ≤ 1099511627776 := hr1_0.lim
 refine ⟨_, rfl, ?_⟩
 refine o_assign rfl rfl ?_
 refine q3 ?_
 refine W_ret ?_
 refine ret_gen (rs := [.tmp 4]) (vs := [_]) Tryz.results185 ⟨rfl, trivial⟩ ?_
 exact H.retP hr1_0
theorem i_parts_c (w0 : World) (G0 : PH) (hG : PSub G0 w0) (p : Bs) (hp : p.length ≤ 16777216)  :
  Calls Tryz.prog 159 #[str p] w0 (RetP w0 G0 (fun G v => RdT G v (Sp.parts p))) := by
 have H := Hp.init hG
 refine calls_of_W (l := [str p]) Tryz.func159 rfl Tryz.ntmps159 rfl ?_
 refine q2 ?_
 refine o_assign rfl rfl ?_
 refine q3 ?_
 refine W_seq ?_
 refine q2 ?_
 refine o_move rfl rfl ?_
 refine o_len_str Tryz.underlying175 rfl rfl ?_
 refine o_gtr rfl rfl rfl ?_
 refine q3 ?_
 refine W_cond rfl ?_ ?_
 ·intro hc1
  try simp only [nrm] at hc1
  refine q2 ?_
  refine o_assign rfl rfl ?_
  refine q3 ?_
  refine W_ret ?_
  refine N_K_ret ?_
  refine ret_gen (rs := [.tmp 2]) (vs := [_]) Tryz.results159 ⟨rfl, trivial⟩ ?_
  exact H.retP (by rw [show Sp.parts p = _ from by exact Sp.parts_long (by omega)]; exact (RdS.nil _ _ _))
 intro hc1'
 try simp only [nrm] at hc1'
 refine W_skip ?_
 refine N_K ?_
 refine q2 ?_
 refine o_move rfl rfl ?_
 refine o_call Tryz.call185 rfl rfl (l_Split_c _ _ H.sub _ hp _ ) ?_
 rintro _ w2 ⟨G2, u2_0, g2, rfl, hr2_0⟩
 have H := H.grow g2
 obtain ⟨a2_0, k2_0, rfl⟩ := hr2_0.shape; have hx_hr2_0 : _ ≤ 1099511627776 := hr2_0.lim
 refine ⟨_, rfl, ?_⟩
 refine o_assign rfl rfl ?_
 refine q3 ?_
 refine W_seq ?_
 refine q2 ?_
 refine o_move rfl rfl ?_
 refine o_len_slice Tryz.underlying87 rfl rfl ?_
 refine o_gtr rfl rfl rfl ?_
 refine q3 ?_
 refine W_cond rfl ?_ ?_
 ·intro hc3
  try simp only [nrm] at hc3
  refine q2 ?_
  refine o_assign rfl rfl ?_
  refine q3 ?_
  refine W_ret ?_
  refine N_K_ret ?_
  refine ret_gen (rs := [.tmp 2]) (vs := [_]) Tryz.results159 ⟨rfl, trivial⟩ ?_
  exact H.retP (by rw [show Sp.parts p = _ from by exact Sp.parts_many (by rw [← Sp.cutAt_47]; omega)]; exact (RdS.nil _ _ _))
 intro hc3'
 try simp only [nrm] at hc3'
 refine W_skip ?_
 refine N_K ?_
 refine W_seq ?_
 refine q2 ?_
 refine o_move rfl rfl ?_
 refine o_len_slice Tryz.underlying87 rfl rfl ?_
 refine o_move rfl rfl ?_
 refine q3 ?_
 refine W_block ?_
 refine W_loop (hf := (Sub.cons (t := 3) rfl (Sub.cons (t := 14) rfl (Sub.cons (t := 15) rfl Sub.nil)))) (J := fun M w m => ∃ (k : Nat) (G : PH), M = [(16, .int .i64 (k : Int))] ∧ PLe G2 G ∧ Hp w0 G0 [] w G [] ∧ (k ≤ (Sp.cutAt 47 p).length ∧ ((Sp.cutAt 47 p).take k).all Sp.l1Word = true) ∧ m = ((Sp.cutAt 47 p).length - k)) (h0 := ⟨0, _, rfl, PLe.refl _, H, ?inv, rfl⟩) (hM := ?hM) (round := ?round)
 case hM => (repeat (first | exact Sub.nil | refine Sub.cons rfl ?_))
 case inv => exact ⟨by omega, by simp⟩
 case round =>
  rintro _ w4 _ ⟨k, G4, rfl, hle4, H, hinv4, rfl⟩
  have hr2_0 := hr2_0.up hle4
  obtain ⟨hk, hall⟩ := hinv4
  refine q2 ?_
  refine o_lss rfl rfl rfl ?_
  refine q3 ?_
  refine W_seq ?_
  refine W_cond rfl ?_ ?_
  ·intro hc5
   try simp only [nrm] at hc5
   refine W_skip ?_
   refine N_K ?_
   refine W_seq ?_
   refine W_block ?_
   refine q2 ?_
   refine o_index_P k hr2_0 Tryz.underlying87 Tryz.sizeOf9 rfl rfl rfl rfl (by omega) ?_; intro b6 o6 z6 q6 hz6 hE6 hrow6
   obtain ⟨rfl, hi6⟩ := hE6; have hy_hi6 : _ ≤ 16777216 := hi6
   refine o_load_P H Tryz.isAgg9 rfl rfl (hrow6 0 _ rfl) ?_
   refine o_assign rfl rfl ?_
   refine q1 ?_
   refine o_move rfl rfl ?_
   refine o_call Tryz.call116 rfl rfl (i_partValid_c _ _ hi6 ) ?_
   rintro _ w7 ⟨rfl, ew7⟩; have H := H.step ew7; refine ⟨_, rfl, ?_⟩
   refine o_not rfl rfl ?_
   refine q3 ?_
   refine W_cond rfl ?_ ?_
   ·intro hc8
    try simp only [nrm] at hc8
    refine q2 ?_
    refine o_assign rfl rfl ?_
    refine q3 ?_
    refine W_ret ?_
    refine N_B_ret ?_
    refine N_K_ret ?_
    refine N_LP_ret ?_
    refine N_B_ret ?_
    refine N_K_ret ?_
    refine ret_gen (rs := [.tmp 2]) (vs := [_]) Tryz.results159 ⟨rfl, trivial⟩ ?_
    exact H.retP (by rw [show Sp.parts p = _ from by exact Sp.parts_bad (by rw [← Sp.cutAt_47]; exact hz6) hc8]; exact (RdS.nil _ _ _))
   intro hc8'
   try simp only [nrm] at hc8'
   refine W_skip ?_
   refine N_B ?_
   refine N_K ?_
   refine W_region ?_
   refine o_add rfl rfl rfl ⟨by omega, by omega⟩ ?_
   refine o_move rfl rfl ?_
   refine R_nil ?_
   refine N_LP (hJ := ⟨k + 1, _, rfl, hle4, H, ?inv, rfl⟩) (hM := ?hM) (hf := ?hf) (hm := ?hm)
   case hM => (repeat (first | exact Sub.nil | refine Sub.cons rfl ?_))
   case hf => (repeat (first | exact Sub.nil | refine Sub.cons rfl ?_))
   case hm => omega
   case inv => exact ⟨by omega, Sp.all_take hall hz6 (by assumption)⟩
  intro hc5'
  try simp only [nrm] at hc5'
  refine W_exit ?_
  refine N_K_exit ?_
  refine N_LP_exit ?_
  refine N_B_same ?_
  refine N_K ?_
  refine q2 ?_
  refine o_move rfl rfl ?_
  refine o_assign rfl rfl ?_
  refine q3 ?_
  refine W_ret ?_
  refine ret_gen (rs := [.tmp 2]) (vs := [_]) Tryz.results159 ⟨rfl, trivial⟩ ?_
  obtain rfl : k = (Sp.cutAt 47 p).length := by omega
  rw [List.take_length] at hall
  have hpo : Sp.parts p = Sp.cutAt 47 p := (Sp.parts_ok (by rw [← Sp.cutAt_47]; exact hall) (by rw [← Sp.cutAt_47]; omega)).trans (Sp.cutAt_47 p).symm
  exact H.retP (by rw [hpo]; exact hr2_0)
theorem i_PathParts_c (w0 : World) (G0 : PH) (hG : PSub G0 w0) (p : Bs) (hp : p.length ≤ 16777216)  :
  Calls Tryz.prog 147 #[str p] w0 (RetP w0 G0 (fun G v => RdT G v (Sp.parts p))) := by
 have H := Hp.init hG
 refine calls_of_W (l := [str p]) Tryz.func147 rfl Tryz.ntmps147 rfl ?_
 refine q2 ?_
 refine o_assign rfl rfl ?_
 refine q1 ?_
 refine o_move rfl rfl ?_
 refine o_call Tryz.call159 rfl rfl (i_parts_c _ _ H.sub _ hp ) ?_
 rintro _ w1 ⟨G1, u1_0, g1, rfl, hr1_0⟩
 have H := H.grow g1
 obtain ⟨a1_0, k1_0, rfl⟩ := hr1_0.shape; have hx_hr1_0 : _ ≤ 1099511627776 := hr1_0.lim
 refine ⟨_, rfl, ?_⟩
 refine o_assign rfl rfl ?_
 refine q3 ?_
 refine W_ret ?_
 refine ret_gen (rs := [.tmp 2]) (vs := [_]) Tryz.results147 ⟨rfl, trivial⟩ ?_
 exact H.retP hr1_0
theorem i_valid_c (w0 : World) (G0 : PH) (hG : PSub G0 w0) (p : Bs) (hp : p.length ≤ 16777216)  :
  Calls Tryz.prog 129 #[str p] w0 (Rets w0 (.bool (Sp.PathValid p))) := by
 have H := Hp.init hG
 refine calls_of_W (l := [str p]) Tryz.func129 rfl Tryz.ntmps129 rfl ?_
 refine q2 ?_
 refine o_assign rfl rfl ?_
 refine q1 ?_
 refine o_move rfl rfl ?_
 refine o_call Tryz.call159 rfl rfl (i_parts_c _ _ H.sub _ hp ) ?_
 rintro _ w1 ⟨G1, u1_0, g1, rfl, hr1_0⟩
 have H := H.grow g1
 obtain ⟨a1_0, k1_0, rfl⟩ := hr1_0.shape; have hx_hr1_0 : _ ≤ 1099511627776 := hr1_0.lim
 refine ⟨_, rfl, ?_⟩
 refine o_len_slice Tryz.underlying87 rfl rfl ?_
 refine o_gtr rfl rfl rfl ?_
 refine o_assign rfl rfl ?_
 refine q3 ?_
 refine W_ret ?_
 refine ret_gen (rs := [.tmp 2]) (vs := [_]) Tryz.results129 ⟨rfl, trivial⟩ ?_
 exact H.rets (congrArg Value.bool (by rw [← Sp.parts_pos, Bool.eq_iff_iff]; simp))
theorem i_PathValid_c (w0 : World) (G0 : PH) (hG : PSub G0 w0) (p : Bs) (hp : p.length ≤ 16777216)  :
  Calls Tryz.prog 77 #[str p] w0 (Rets w0 (.bool (Sp.PathValid p))) := by
 have H := Hp.init hG
 refine calls_of_W (l := [str p]) Tryz.func77 rfl Tryz.ntmps77 rfl ?_
 refine q2 ?_
 refine o_assign rfl rfl ?_
 refine q1 ?_
 refine o_move rfl rfl ?_
 refine o_call Tryz.call129 rfl rfl (i_valid_c _ _ H.sub _ hp ) ?_
 rintro _ w1 ⟨rfl, ew1⟩; have H := H.step ew1; refine ⟨_, rfl, ?_⟩
 refine o_assign rfl rfl ?_
 refine q3 ?_
 refine W_ret ?_
 refine ret_gen (rs := [.tmp 2]) (vs := [_]) Tryz.results77 ⟨rfl, trivial⟩ ?_
 exact H.rets (congrArg Value.bool (by rfl))
theorem i_itemValid_c (w0 : World) (G0 : PH) (hG : PSub G0 w0) (cx : List Value) (x : BItem) (hx : itemE G0 x cx)  :
  Calls Tryz.prog 94 #[.agg cx.toArray] w0 (Rets w0 (.bool (Sp.l5Item x))) := by
 obtain ⟨a1, m1, c1, rfl, hi1, hr1⟩ := hx; have hy_hi1 : _ ≤ 16777216 := hi1; have hn_hr1 := hr1.len; have hx_hr1 : _ ≤ 1099511627776 := hr1.lim
 have H := Hp.init hG
 refine calls_of_W (l := [_]) Tryz.func94 rfl Tryz.ntmps94 rfl ?_
 refine q2 ?_
 refine o_box H rfl rfl rfl ?_; intro b2 w2 hb2 H
 refine o_assign rfl rfl ?_
 refine q3 ?_
 refine W_seq ?_
 refine q2 ?_
 refine o_fieldAddr 0 Tryz.runUnderlying39 rfl Tryz.sizeOf9 rfl rfl rfl ?_
 refine o_load_B 0 H Tryz.isAgg9 rfl rfl rfl rfl ?_
 refine o_call Tryz.call77 rfl rfl (i_PathValid_c _ _ H.sub _ hi1 ) ?_
 rintro _ w3 ⟨rfl, ew3⟩; have H := H.step ew3; refine ⟨_, rfl, ?_⟩
 refine o_not rfl rfl ?_
 refine o_move rfl rfl ?_
 refine R_case (t := 9) rfl ?_ ?_
 ·intro hc4
  try simp only [nrm] at hc4
  refine R_pass rfl (yl_ne rfl rfl rfl) ?_
  refine R_pass rfl (yl_ne rfl rfl rfl) ?_
  refine R_pass rfl (yl_ne rfl rfl rfl) ?_
  refine R_pass rfl (yl_ne rfl rfl rfl) ?_
  refine o_pick_t rfl rfl rfl ?_
  refine o_move rfl rfl ?_
  refine R_pass rfl (yl_ne rfl rfl rfl) ?_
  refine R_pass rfl (yl_ne rfl rfl rfl) ?_
  refine R_pass rfl (yl_ne rfl rfl rfl) ?_
  refine R_pass rfl (yl_un rfl rfl) ?_
  refine R_pass rfl (yl_un rfl rfl) ?_
  refine R_pass rfl (yl_un rfl rfl) ?_
  refine R_pass rfl (yl_un rfl rfl) ?_
  refine R_pass rfl (yl_ne rfl rfl rfl) ?_
  refine o_pick_t rfl rfl rfl ?_
  refine q3 ?_
  refine W_true rfl ?_
  refine q2 ?_
  refine o_assign rfl rfl ?_
  refine q3 ?_
  refine W_ret ?_
  refine N_K_ret ?_
  refine ret_gen (rs := [.tmp 2]) (vs := [_]) Tryz.results94 ⟨rfl, trivial⟩ ?_
  exact H.rets (congrArg Value.bool (by simp [Sp.l5Item, hc4]))
 intro hc4'
 try simp only [nrm] at hc4'
 refine R_guard (yl rfl rfl) ?_
 refine o_fieldAddr 2 Tryz.runUnderlying39 rfl Tryz.sizeOf27 rfl rfl rfl ?_
 refine R_guard (yl rfl rfl) ?_
 refine o_load_B 0 H Tryz.isAgg27 rfl rfl rfl rfl ?_
 refine R_guard (yl rfl rfl) ?_
 refine o_len_slice Tryz.underlying27 rfl rfl ?_
 refine R_guard (yl rfl rfl) ?_
 refine o_gtr rfl rfl rfl ?_
 refine o_pick_f rfl rfl rfl ?_
 refine o_move rfl rfl ?_
 refine R_case (t := 15) rfl ?_ ?_
 ·intro hc5
  try simp only [nrm] at hc5
  refine R_pass rfl (yl_ne rfl rfl rfl) ?_
  refine R_pass rfl (yl_ne rfl rfl rfl) ?_
  refine R_pass rfl (yl_ne rfl rfl rfl) ?_
  refine R_pass rfl (yl_un rfl rfl) ?_
  refine R_pass rfl (yl_un rfl rfl) ?_
  refine R_pass rfl (yl_un rfl rfl) ?_
  refine R_pass rfl (yl_un rfl rfl) ?_
  refine R_pass rfl (yl_ne rfl rfl rfl) ?_
  refine o_pick_t rfl rfl rfl ?_
  refine q3 ?_
  refine W_true rfl ?_
  refine q2 ?_
  refine o_assign rfl rfl ?_
  refine q3 ?_
  refine W_ret ?_
  refine N_K_ret ?_
  refine ret_gen (rs := [.tmp 2]) (vs := [_]) Tryz.results94 ⟨rfl, trivial⟩ ?_
  exact H.rets (congrArg Value.bool (by rw [Sp.l5Item, Bool.eq_iff_iff]; simp; intros; omega))
 intro hc5'
 try simp only [nrm] at hc5'
 refine R_guard (yl rfl rfl) ?_
 refine o_fieldAddr 1 Tryz.runUnderlying39 rfl Tryz.sizeOf4 rfl rfl rfl ?_
 refine R_guard (yl rfl rfl) ?_
 refine o_load_B 0 H Tryz.isAgg4 rfl rfl rfl rfl ?_
 refine R_guard (yl rfl rfl) ?_
 refine o_move rfl rfl ?_
 refine R_case (t := 18) rfl ?_ ?_
 ·intro hc6
  try simp only [nrm] at hc6
  refine R_guard (yl rfl rfl) ?_
  refine o_fieldAddr 2 Tryz.runUnderlying39 rfl Tryz.sizeOf27 rfl rfl rfl ?_
  refine R_guard (yl rfl rfl) ?_
  refine o_load_B 0 H Tryz.isAgg27 rfl rfl rfl rfl ?_
  refine R_guard (yl rfl rfl) ?_
  refine o_len_slice Tryz.underlying27 rfl rfl ?_
  refine R_guard (yl rfl rfl) ?_
  refine o_gtr rfl rfl rfl ?_
  refine R_guard (yl rfl rfl) ?_
  refine o_pick_t rfl rfl rfl ?_
  refine o_pick_f rfl rfl rfl ?_
  refine q3 ?_
  refine W_cond rfl ?_ ?_
  ·intro hc7
   try simp only [nrm] at hc7
   refine q2 ?_
   refine o_assign rfl rfl ?_
   refine q3 ?_
   refine W_ret ?_
   refine N_K_ret ?_
   refine ret_gen (rs := [.tmp 2]) (vs := [_]) Tryz.results94 ⟨rfl, trivial⟩ ?_
   exact H.rets (congrArg Value.bool (by rw [Sp.l5Item, Sp.all_false (c := x.ids[0]) (k := 0) (List.getElem?_eq_getElem (by omega)) (by simp [Sp.idOk, hc6])]; rfl))
  intro hc7'
  try simp only [nrm] at hc7'
  refine W_skip ?_
  refine N_K ?_
  refine W_seq ?_
  refine q2 ?_
  refine o_fieldAddr 2 Tryz.runUnderlying39 rfl Tryz.sizeOf27 rfl rfl rfl ?_
  refine o_load_B 0 H Tryz.isAgg27 rfl rfl rfl rfl ?_
  refine o_len_slice Tryz.underlying27 rfl rfl ?_
  refine o_move rfl rfl ?_
  refine q3 ?_
  refine W_block ?_
  obtain ⟨ln8, hln8, H⟩ := H.name (k := 0) rfl
  refine W_loop (hf := (Sub.cons (t := 26) rfl (Sub.cons (t := 27) rfl Sub.nil))) (J := fun M w m => ∃ (k : Nat) (G : PH), M = [(28, .int .i64 (k : Int))] ∧ PLe G0 G ∧ Hp w0 G0 [] w G [blk b2 (cl ln8 39)] ∧ (k ≤ x.ids.length ∧ (x.ids.take k).all (Sp.idOk x.dir) = true) ∧ m = (x.ids.length - k)) (h0 := ⟨0, _, rfl, PLe.refl _, H, ?inv, rfl⟩) (hM := ?hM) (round := ?round)
  case hM => (repeat (first | exact Sub.nil | refine Sub.cons rfl ?_))
  case inv => exact ⟨by omega, by simp⟩
  case round =>
   rintro _ w9 _ ⟨k, G9, rfl, hle9, H, hinv9, rfl⟩
   subst hln8
   have hr1 := hr1.up hle9
   obtain ⟨hk, hall⟩ := hinv9
   refine q2 ?_
   refine o_lss rfl rfl rfl ?_
   refine q3 ?_
   refine W_seq ?_
   refine W_cond rfl ?_ ?_
   ·intro hc10
    try simp only [nrm] at hc10
    refine W_skip ?_
    refine N_K ?_
    refine W_seq ?_
    refine W_block ?_
    refine q2 ?_
    refine o_index_P k hr1 Tryz.underlying27 Tryz.sizeOf3 rfl rfl rfl rfl (by omega) ?_; intro b11 o11 z11 q11 hz11 hE11 hrow11
    obtain ⟨rfl, hi11⟩ := hE11
    refine o_load_P H Tryz.isAgg3 rfl rfl (hrow11 0 _ rfl) ?_
    refine o_assign rfl rfl ?_
    refine q1 ?_
    refine o_move rfl rfl ?_
    refine o_lss rfl rfl rfl ?_
    refine o_move rfl rfl ?_
    refine R_case (t := 34) rfl ?_ ?_
    ·intro hc12
     try simp only [nrm] at hc12
     refine R_pass rfl (yl_ne rfl rfl rfl) ?_
     refine R_pass rfl (yl_ne rfl rfl rfl) ?_
     refine o_pick_t rfl rfl rfl ?_
     refine q3 ?_
     refine W_true rfl ?_
     refine q2 ?_
     refine o_assign rfl rfl ?_
     refine q3 ?_
     refine W_ret ?_
     refine N_B_ret ?_
     refine N_K_ret ?_
     refine N_LP_ret ?_
     refine N_B_ret ?_
     refine N_K_ret ?_
     refine ret_gen (rs := [.tmp 2]) (vs := [_]) Tryz.results94 ⟨rfl, trivial⟩ ?_
     exact H.rets (congrArg Value.bool (by rw [Sp.l5Item, Sp.all_false hz11 (by first | (exfalso; omega) | (simp [Sp.idOk, Sp.l6In, *]; done) | (simp [Sp.idOk, Sp.l6In, *]; omega))]; rfl))
    intro hc12'
    try simp only [nrm] at hc12'
    refine R_guard (yl rfl rfl) ?_
    refine o_move rfl rfl ?_
    refine R_guard (yl rfl rfl) ?_
    refine o_gtr rfl rfl rfl ?_
    refine o_pick_f rfl rfl rfl ?_
    refine q3 ?_
    refine W_cond rfl ?_ ?_
    ·intro hc13
     try simp only [nrm] at hc13
     refine q2 ?_
     refine o_assign rfl rfl ?_
     refine q3 ?_
     refine W_ret ?_
     refine N_B_ret ?_
     refine N_K_ret ?_
     refine N_LP_ret ?_
     refine N_B_ret ?_
     refine N_K_ret ?_
     refine ret_gen (rs := [.tmp 2]) (vs := [_]) Tryz.results94 ⟨rfl, trivial⟩ ?_
     exact H.rets (congrArg Value.bool (by rw [Sp.l5Item, Sp.all_false hz11 (by first | (exfalso; omega) | (simp [Sp.idOk, Sp.l6In, *]; done) | (simp [Sp.idOk, Sp.l6In, *]; omega))]; rfl))
    intro hc13'
    try simp only [nrm] at hc13'
    refine W_skip ?_
    refine N_B ?_
    refine N_K ?_
    refine W_region ?_
    refine o_add rfl rfl rfl ⟨by omega, by omega⟩ ?_
    refine o_move rfl rfl ?_
    refine R_nil ?_
    refine N_LP (hJ := ⟨k + 1, _, rfl, hle9, H, ?inv, rfl⟩) (hM := ?hM) (hf := ?hf) (hm := ?hm)
    case hM => (repeat (first | exact Sub.nil | refine Sub.cons rfl ?_))
    case hf => (repeat (first | exact Sub.nil | refine Sub.cons rfl ?_))
    case hm => omega
    case inv => exact ⟨by omega, Sp.all_take hall hz11 (by first | (exfalso; omega) | (simp [Sp.idOk, Sp.l6In, *]; done) | (simp [Sp.idOk, Sp.l6In, *]; omega))⟩
   intro hc10'
   try simp only [nrm] at hc10'
   refine W_exit ?_
   refine N_K_exit ?_
   refine N_LP_exit ?_
   refine N_B_same ?_
   refine N_K ?_
   refine q2 ?_
   refine o_assign rfl rfl ?_
   refine q3 ?_
   refine W_ret ?_
   refine ret_gen (rs := [.tmp 2]) (vs := [_]) Tryz.results94 ⟨rfl, trivial⟩ ?_
   obtain rfl : k = x.ids.length := by omega
   rw [List.take_length] at hall
   exact H.rets (congrArg Value.bool (by rw [Sp.l5Item, hall, Bool.eq_iff_iff]; simp [hc4']; omega))
 intro hc6'
 try simp only [nrm] at hc6'
 refine R_pass rfl (yl_ne rfl rfl rfl) ?_
 refine R_pass rfl (yl_ne rfl rfl rfl) ?_
 refine R_pass rfl (yl_ne rfl rfl rfl) ?_
 refine R_pass rfl (yl_ne rfl rfl rfl) ?_
 refine R_guard (yl rfl rfl) ?_
 refine o_pick_f rfl rfl rfl ?_
 refine o_pick_f rfl rfl rfl ?_
 refine q3 ?_
 refine W_false rfl ?_
 refine W_skip ?_
 refine N_K ?_
 refine W_seq ?_
 refine q2 ?_
 refine o_fieldAddr 2 Tryz.runUnderlying39 rfl Tryz.sizeOf27 rfl rfl rfl ?_
 refine o_load_B 0 H Tryz.isAgg27 rfl rfl rfl rfl ?_
 refine o_len_slice Tryz.underlying27 rfl rfl ?_
 refine o_move rfl rfl ?_
 refine q3 ?_
 refine W_block ?_
 obtain ⟨ln15, hln15, H⟩ := H.name (k := 0) rfl
 refine W_loop (hf := (Sub.cons (t := 26) rfl (Sub.cons (t := 27) rfl Sub.nil))) (J := fun M w m => ∃ (k : Nat) (G : PH), M = [(28, .int .i64 (k : Int))] ∧ PLe G0 G ∧ Hp w0 G0 [] w G [blk b2 (cl ln15 39)] ∧ (k ≤ x.ids.length ∧ (x.ids.take k).all (Sp.idOk x.dir) = true) ∧ m = (x.ids.length - k)) (h0 := ⟨0, _, rfl, PLe.refl _, H, ?inv, rfl⟩) (hM := ?hM) (round := ?round)
 case hM => (repeat (first | exact Sub.nil | refine Sub.cons rfl ?_))
 case inv => exact ⟨by omega, by simp⟩
 case round =>
  rintro _ w16 _ ⟨k, G16, rfl, hle16, H, hinv16, rfl⟩
  subst hln15
  have hr1 := hr1.up hle16
  obtain ⟨hk, hall⟩ := hinv16
  refine q2 ?_
  refine o_lss rfl rfl rfl ?_
  refine q3 ?_
  refine W_seq ?_
  refine W_cond rfl ?_ ?_
  ·intro hc17
   try simp only [nrm] at hc17
   refine W_skip ?_
   refine N_K ?_
   refine W_seq ?_
   refine W_block ?_
   refine q2 ?_
   refine o_index_P k hr1 Tryz.underlying27 Tryz.sizeOf3 rfl rfl rfl rfl (by omega) ?_; intro b18 o18 z18 q18 hz18 hE18 hrow18
   obtain ⟨rfl, hi18⟩ := hE18
   refine o_load_P H Tryz.isAgg3 rfl rfl (hrow18 0 _ rfl) ?_
   refine o_assign rfl rfl ?_
   refine q1 ?_
   refine o_move rfl rfl ?_
   refine o_lss rfl rfl rfl ?_
   refine o_move rfl rfl ?_
   refine R_case (t := 34) rfl ?_ ?_
   ·intro hc19
    try simp only [nrm] at hc19
    refine R_pass rfl (yl_ne rfl rfl rfl) ?_
    refine R_pass rfl (yl_ne rfl rfl rfl) ?_
    refine o_pick_t rfl rfl rfl ?_
    refine q3 ?_
    refine W_true rfl ?_
    refine q2 ?_
    refine o_assign rfl rfl ?_
    refine q3 ?_
    refine W_ret ?_
    refine N_B_ret ?_
    refine N_K_ret ?_
    refine N_LP_ret ?_
    refine N_B_ret ?_
    refine N_K_ret ?_
    refine ret_gen (rs := [.tmp 2]) (vs := [_]) Tryz.results94 ⟨rfl, trivial⟩ ?_
    exact H.rets (congrArg Value.bool (by rw [Sp.l5Item, Sp.all_false hz18 (by first | (exfalso; omega) | (simp [Sp.idOk, Sp.l6In, *]; done) | (simp [Sp.idOk, Sp.l6In, *]; omega))]; rfl))
   intro hc19'
   try simp only [nrm] at hc19'
   refine R_guard (yl rfl rfl) ?_
   refine o_move rfl rfl ?_
   refine R_guard (yl rfl rfl) ?_
   refine o_gtr rfl rfl rfl ?_
   refine o_pick_f rfl rfl rfl ?_
   refine q3 ?_
   refine W_cond rfl ?_ ?_
   ·intro hc20
    try simp only [nrm] at hc20
    refine q2 ?_
    refine o_assign rfl rfl ?_
    refine q3 ?_
    refine W_ret ?_
    refine N_B_ret ?_
    refine N_K_ret ?_
    refine N_LP_ret ?_
    refine N_B_ret ?_
    refine N_K_ret ?_
    refine ret_gen (rs := [.tmp 2]) (vs := [_]) Tryz.results94 ⟨rfl, trivial⟩ ?_
    exact H.rets (congrArg Value.bool (by rw [Sp.l5Item, Sp.all_false hz18 (by first | (exfalso; omega) | (simp [Sp.idOk, Sp.l6In, *]; done) | (simp [Sp.idOk, Sp.l6In, *]; omega))]; rfl))
   intro hc20'
   try simp only [nrm] at hc20'
   refine W_skip ?_
   refine N_B ?_
   refine N_K ?_
   refine W_region ?_
   refine o_add rfl rfl rfl ⟨by omega, by omega⟩ ?_
   refine o_move rfl rfl ?_
   refine R_nil ?_
   refine N_LP (hJ := ⟨k + 1, _, rfl, hle16, H, ?inv, rfl⟩) (hM := ?hM) (hf := ?hf) (hm := ?hm)
   case hM => (repeat (first | exact Sub.nil | refine Sub.cons rfl ?_))
   case hf => (repeat (first | exact Sub.nil | refine Sub.cons rfl ?_))
   case hm => omega
   case inv => exact ⟨by omega, Sp.all_take hall hz18 (by first | (exfalso; omega) | (simp [Sp.idOk, Sp.l6In, *]; done) | (simp [Sp.idOk, Sp.l6In, *]; omega))⟩
  intro hc17'
  try simp only [nrm] at hc17'
  refine W_exit ?_
  refine N_K_exit ?_
  refine N_LP_exit ?_
  refine N_B_same ?_
  refine N_K ?_
  refine q2 ?_
  refine o_assign rfl rfl ?_
  refine q3 ?_
  refine W_ret ?_
  refine ret_gen (rs := [.tmp 2]) (vs := [_]) Tryz.results94 ⟨rfl, trivial⟩ ?_
  obtain rfl : k = x.ids.length := by omega
  rw [List.take_length] at hall
  exact H.rets (congrArg Value.bool (by rw [Sp.l5Item, hall, Bool.eq_iff_iff]; simp [hc4']; omega))
end Go.Proofs.Tst

namespace Go.Proofs.Tst
open Go Fw
theorem i_StoreValid_c (w0 : World) (G0 : PH) (hG : PSub G0 w0) (vlist : Value) (list : List (BHeld)) (hlist : RdH G0 vlist list)  :
  Calls Tryz.prog 158 #[vlist] w0 (Rets w0 (.bool (Sp.StoreValid list))) := by
 obtain ⟨alist, klist, rfl⟩ := hlist.shape
 have hlimlist : list.length ≤ 1099511627776 := hlist.lim
 have H := Hp.init hG
 refine calls_of_W (l := [.slice alist list.length klist]) Tryz.func158 rfl Tryz.ntmps158 rfl ?_
 refine q2 ?_
 refine o_assign rfl rfl ?_
 refine q3 ?_
 refine W_seq ?_
 refine q2 ?_
 refine o_move rfl rfl ?_
 refine o_len_slice Tryz.underlying23 rfl rfl ?_
 refine o_gtr rfl rfl rfl ?_
 refine q3 ?_
 refine W_cond rfl ?_ ?_
 ·intro hc1
  try simp only [nrm] at hc1
  refine q2 ?_
  refine o_assign rfl rfl ?_
  refine q3 ?_
  refine W_ret ?_
  refine N_K_ret ?_
  refine ret_gen (rs := [.tmp 2]) (vs := [_]) Tryz.results158 ⟨rfl, trivial⟩ ?_
  exact H.rets (congrArg Value.bool (by rw [Sp.sv_long (by omega)]))
 intro hc1'
 try simp only [nrm] at hc1'
 refine W_skip ?_
 refine N_K ?_
 refine q2 ?_
 refine o_assign rfl rfl ?_
 refine q3 ?_
 refine W_seq ?_
 refine q2 ?_
 refine o_move rfl rfl ?_
 refine o_len_slice Tryz.underlying23 rfl rfl ?_
 refine o_move rfl rfl ?_
 refine q3 ?_
 refine W_block ?_
 refine W_loop (hf := (Sub.cons (t := 0) rfl (Sub.cons (t := 11) rfl (Sub.cons (t := 12) rfl Sub.nil)))) (J := fun M w m => ∃ (k : Nat) (la : Int) (G : PH), M = [(13, .int .i64 (k : Int)), (3, .int .i64 la)] ∧ PLe G0 G ∧ Hp w0 G0 [] w G [] ∧ (k ≤ list.length ∧ la = Sp.lastId list k ∧ (∀ j, j < k → Sp.okH list j = true) ∧ inI la) ∧ m = (list.length - k)) (h0 := ⟨0, 0, _, rfl, PLe.refl _, H, ?inv, rfl⟩) (hM := ?hM) (round := ?round)
 case hM => (repeat (first | exact Sub.nil | refine Sub.cons rfl ?_))
 case inv => exact ⟨by omega, rfl, fun j hj => by omega, by decide⟩
 case round =>
  rintro _ w2 _ ⟨k, la, G2, rfl, hle2, H, hinv2, rfl⟩
  have hlist := hlist.up hle2
  obtain ⟨hk, hla, hall, hlai⟩ := hinv2
  refine q2 ?_
  refine o_lss rfl rfl rfl ?_
  refine q3 ?_
  refine W_seq ?_
  refine W_cond rfl ?_ ?_
  ·intro hc3
   try simp only [nrm] at hc3
   refine W_skip ?_
   refine N_K ?_
   refine W_seq ?_
   refine W_block ?_
   refine q2 ?_
   refine o_move rfl rfl ?_
   refine o_index_P k hlist Tryz.underlying23 Tryz.sizeOf117 rfl rfl rfl rfl (by omega) ?_; intro b4 o4 z4 q4 hz4 hE4 hrow4
   obtain ⟨a4, m4, c4, rfl, hi4, hr4, hj4⟩ := hE4; have hn_hr4 := hr4.len; have hx_hr4 : _ ≤ 1099511627776 := hr4.lim
   refine o_loadagg_P H Tryz.isAgg117 Tryz.sizeOf117 rfl rfl hrow4 rfl ?_
   refine o_alloc H Tryz.zeroValue117 rfl rfl ?_; intro b5 w5 hb5 H
   refine o_assign rfl rfl ?_
   refine o_store_B 0 H Tryz.sizeOf117 rfl rfl rfl rfl rfl rfl rfl rfl ?_; intro w6 H
   refine q3 ?_
   refine W_seq ?_
   refine q2 ?_
   refine o_fieldAddr 0 Tryz.runUnderlying117 rfl Tryz.sizeOf3 rfl rfl rfl ?_
   refine o_load_B 0 H Tryz.isAgg3 rfl rfl rfl rfl ?_
   refine o_move rfl rfl ?_
   refine o_leq rfl rfl rfl ?_
   refine o_move rfl rfl ?_
   refine R_case (t := 22) rfl ?_ ?_
   ·intro hc7
    try simp only [nrm] at hc7
    refine R_pass rfl (yl_ne rfl rfl rfl) ?_
    refine R_pass rfl (yl_ne rfl rfl rfl) ?_
    refine R_pass rfl (yl_ne rfl rfl rfl) ?_
    refine o_pick_t rfl rfl rfl ?_
    refine o_move rfl rfl ?_
    refine R_pass rfl (yl_ne rfl rfl rfl) ?_
    refine R_pass rfl (yl_ne rfl rfl rfl) ?_
    refine R_pass rfl (yl_ne rfl rfl rfl) ?_
    refine o_pick_t rfl rfl rfl ?_
    refine o_move rfl rfl ?_
    refine R_pass rfl (yl_ne rfl rfl rfl) ?_
    refine R_pass rfl (yl_ne rfl rfl rfl) ?_
    refine R_pass rfl (yl_ne rfl rfl rfl) ?_
    refine o_pick_t rfl rfl rfl ?_
    refine o_move rfl rfl ?_
    refine R_pass rfl (yl_ne rfl rfl rfl) ?_
    refine R_pass rfl (yl_ne rfl rfl rfl) ?_
    refine R_pass rfl (yl_ne rfl rfl rfl) ?_
    refine R_pass rfl (yl_ne rfl rfl rfl) ?_
    refine o_pick_t rfl rfl rfl ?_
    refine q3 ?_
    refine W_true rfl ?_
    refine q2 ?_
    refine o_assign rfl rfl ?_
    refine q3 ?_
    refine W_ret ?_
    refine N_K_ret ?_
    refine N_B_ret ?_
    refine N_K_ret ?_
    refine N_LP_ret ?_
    refine N_B_ret ?_
    refine N_K_ret ?_
    refine ret_gen (rs := [.tmp 2]) (vs := [_]) Tryz.results158 ⟨rfl, trivial⟩ ?_
    exact H.rets (congrArg Value.bool (by rw [Sp.sv_false (k := k) (by omega) (Sp.okH_last hz4 (by omega))]))
   intro hc7'
   try simp only [nrm] at hc7'
   refine R_guard (yl rfl rfl) ?_
   refine o_fieldAddr 0 Tryz.runUnderlying117 rfl Tryz.sizeOf3 rfl rfl rfl ?_
   refine R_guard (yl rfl rfl) ?_
   refine o_load_B 0 H Tryz.isAgg3 rfl rfl rfl rfl ?_
   refine R_guard (yl rfl rfl) ?_
   refine o_gtr rfl rfl rfl ?_
   refine o_pick_f rfl rfl rfl ?_
   refine o_move rfl rfl ?_
   refine R_case (t := 27) rfl ?_ ?_
   ·intro hc8
    try simp only [nrm] at hc8
    refine R_pass rfl (yl_ne rfl rfl rfl) ?_
    refine R_pass rfl (yl_ne rfl rfl rfl) ?_
    refine R_pass rfl (yl_ne rfl rfl rfl) ?_
    refine o_pick_t rfl rfl rfl ?_
    refine o_move rfl rfl ?_
    refine R_pass rfl (yl_ne rfl rfl rfl) ?_
    refine R_pass rfl (yl_ne rfl rfl rfl) ?_
    refine R_pass rfl (yl_ne rfl rfl rfl) ?_
    refine o_pick_t rfl rfl rfl ?_
    refine o_move rfl rfl ?_
    refine R_pass rfl (yl_ne rfl rfl rfl) ?_
    refine R_pass rfl (yl_ne rfl rfl rfl) ?_
    refine R_pass rfl (yl_ne rfl rfl rfl) ?_
    refine R_pass rfl (yl_ne rfl rfl rfl) ?_
    refine o_pick_t rfl rfl rfl ?_
    refine q3 ?_
    refine W_true rfl ?_
    refine q2 ?_
    refine o_assign rfl rfl ?_
    refine q3 ?_
    refine W_ret ?_
    refine N_K_ret ?_
    refine N_B_ret ?_
    refine N_K_ret ?_
    refine N_LP_ret ?_
    refine N_B_ret ?_
    refine N_K_ret ?_
    refine ret_gen (rs := [.tmp 2]) (vs := [_]) Tryz.results158 ⟨rfl, trivial⟩ ?_
    exact H.rets (congrArg Value.bool (by rw [Sp.sv_false (k := k) (by omega) (Sp.okH_id hz4 (by omega))]))
   intro hc8'
   try simp only [nrm] at hc8'
   refine R_guard (yl rfl rfl) ?_
   refine o_fieldAddr 2 Tryz.runUnderlying117 rfl Tryz.sizeOf3 rfl rfl rfl ?_
   refine R_guard (yl rfl rfl) ?_
   refine o_load_B 0 H Tryz.isAgg3 rfl rfl rfl rfl ?_
   refine R_guard (yl rfl rfl) ?_
   refine o_lss rfl rfl rfl ?_
   refine o_pick_f rfl rfl rfl ?_
   refine o_move rfl rfl ?_
   refine R_case (t := 32) rfl ?_ ?_
   ·intro hc9
    try simp only [nrm] at hc9
    refine R_pass rfl (yl_ne rfl rfl rfl) ?_
    refine R_pass rfl (yl_ne rfl rfl rfl) ?_
    refine R_pass rfl (yl_ne rfl rfl rfl) ?_
    refine o_pick_t rfl rfl rfl ?_
    refine o_move rfl rfl ?_
    refine R_pass rfl (yl_ne rfl rfl rfl) ?_
    refine R_pass rfl (yl_ne rfl rfl rfl) ?_
    refine R_pass rfl (yl_ne rfl rfl rfl) ?_
    refine R_pass rfl (yl_ne rfl rfl rfl) ?_
    refine o_pick_t rfl rfl rfl ?_
    refine q3 ?_
    refine W_true rfl ?_
    refine q2 ?_
    refine o_assign rfl rfl ?_
    refine q3 ?_
    refine W_ret ?_
    refine N_K_ret ?_
    refine N_B_ret ?_
    refine N_K_ret ?_
    refine N_LP_ret ?_
    refine N_B_ret ?_
    refine N_K_ret ?_
    refine ret_gen (rs := [.tmp 2]) (vs := [_]) Tryz.results158 ⟨rfl, trivial⟩ ?_
    exact H.rets (congrArg Value.bool (by rw [Sp.sv_false (k := k) (by omega) (Sp.okH_id hz4 (by omega))]))
   intro hc9'
   try simp only [nrm] at hc9'
   refine R_guard (yl rfl rfl) ?_
   refine o_fieldAddr 2 Tryz.runUnderlying117 rfl Tryz.sizeOf3 rfl rfl rfl ?_
   refine R_guard (yl rfl rfl) ?_
   refine o_load_B 0 H Tryz.isAgg3 rfl rfl rfl rfl ?_
   refine R_guard (yl rfl rfl) ?_
   refine o_gtr rfl rfl rfl ?_
   refine o_pick_f rfl rfl rfl ?_
   refine o_move rfl rfl ?_
   refine R_case (t := 37) rfl ?_ ?_
   ·intro hc10
    try simp only [nrm] at hc10
    refine R_pass rfl (yl_ne rfl rfl rfl) ?_
    refine R_pass rfl (yl_ne rfl rfl rfl) ?_
    refine R_pass rfl (yl_ne rfl rfl rfl) ?_
    refine R_pass rfl (yl_ne rfl rfl rfl) ?_
    refine o_pick_t rfl rfl rfl ?_
    refine q3 ?_
    refine W_true rfl ?_
    refine q2 ?_
    refine o_assign rfl rfl ?_
    refine q3 ?_
    refine W_ret ?_
    refine N_K_ret ?_
    refine N_B_ret ?_
    refine N_K_ret ?_
    refine N_LP_ret ?_
    refine N_B_ret ?_
    refine N_K_ret ?_
    refine ret_gen (rs := [.tmp 2]) (vs := [_]) Tryz.results158 ⟨rfl, trivial⟩ ?_
    exact H.rets (congrArg Value.bool (by rw [Sp.sv_false (k := k) (by omega) (Sp.okH_id hz4 (by omega))]))
   intro hc10'
   try simp only [nrm] at hc10'
   refine R_guard (yl rfl rfl) ?_
   refine o_fieldAddr 1 Tryz.runUnderlying117 rfl Tryz.sizeOf27 rfl rfl rfl ?_
   refine R_guard (yl rfl rfl) ?_
   refine o_load_B 0 H Tryz.isAgg27 rfl rfl rfl rfl ?_
   refine R_guard (yl rfl rfl) ?_
   refine o_call Tryz.call183 rfl rfl (i_BlockValid_c _ _ H.sub _ _ hr4 ) ?_
   rintro _ w11 ⟨rfl, ew11⟩; have H := H.step ew11; refine ⟨_, rfl, ?_⟩
   refine R_guard (yl rfl rfl) ?_
   refine o_not rfl rfl ?_
   refine o_pick_f rfl rfl rfl ?_
   refine q3 ?_
   refine W_cond rfl ?_ ?_
   ·intro hc12
    try simp only [nrm] at hc12
    refine q2 ?_
    refine o_assign rfl rfl ?_
    refine q3 ?_
    refine W_ret ?_
    refine N_K_ret ?_
    refine N_B_ret ?_
    refine N_K_ret ?_
    refine N_LP_ret ?_
    refine N_B_ret ?_
    refine N_K_ret ?_
    refine ret_gen (rs := [.tmp 2]) (vs := [_]) Tryz.results158 ⟨rfl, trivial⟩ ?_
    exact H.rets (congrArg Value.bool (by rw [Sp.sv_false (k := k) (by omega) (Sp.okH_id hz4 (by exact .inr (.inr (.inr (by simpa using hc12)))))]))
   intro hc12'
   try simp only [nrm] at hc12'
   refine W_skip ?_
   refine N_K ?_
   refine W_seq ?_
   refine q2 ?_
   refine o_move rfl rfl ?_
   refine o_move rfl rfl ?_
   have hcap13 := hlist.cap; try simp only [List.length_set, List.length_append, List.length_take, List.length_drop, List.length_replicate] at hcap13
   refine o_slice_to (j := k) Tryz.underlying23 Tryz.sizeOf117 rfl rfl rfl (by omega) (by omega) ?_
   have hsl13 := hlist.take (j := k) (by first | omega | (simp; omega))
   have hsn1 := hsl13.len
   refine o_len_slice Tryz.underlying23 rfl rfl ?_
   refine o_move rfl rfl ?_
   refine q3 ?_
   refine W_block ?_
   obtain ⟨ln14, hln14, H⟩ := H.name (k := 0) rfl
   refine W_loop (hf := (Sub.cons (t := 0) rfl (Sub.cons (t := 3) rfl (Sub.cons (t := 5) rfl (Sub.cons (t := 11) rfl (Sub.cons (t := 12) rfl (Sub.cons (t := 13) rfl (Sub.cons (t := 45) rfl (Sub.cons (t := 46) rfl Sub.nil))))))))) (J := fun M w m => ∃ (j : Nat) (G : PH), M = [(47, .int .i64 (j : Int))] ∧ PLe G2 G ∧ Hp w0 G0 [] w G [blk b5 (cl ln14 117)] ∧ (j ≤ k ∧ (list.take j).all (fun g => !Sp.l2Same g.bytes z4.bytes) = true) ∧ m = (k - j)) (h0 := ⟨0, _, rfl, PLe.refl _, H, ?inv, rfl⟩) (hM := ?hM) (round := ?round)
   case hM => (repeat (first | exact Sub.nil | refine Sub.cons rfl ?_))
   case inv => exact ⟨by omega, by simp⟩
   case round =>
    rintro _ w15 _ ⟨j, G15, rfl, hle15, H, hinv15, rfl⟩
    subst hln14
    have hlist := hlist.up hle15
    have hr4 := hr4.up hle15
    have hrow4 := hrow4.up hle15
    have hsl13 := hsl13.up hle15
    have hle2 := hle2.trans hle15
    obtain ⟨hj, hall2⟩ := hinv15
    refine q2 ?_
    refine o_lss rfl rfl rfl ?_
    refine q3 ?_
    refine W_seq ?_
    refine W_cond rfl ?_ ?_
    ·intro hc16
     try simp only [nrm] at hc16
     refine W_skip ?_
     refine N_K ?_
     refine W_seq ?_
     refine W_block ?_
     refine q2 ?_
     refine o_index_P j hsl13 Tryz.underlying23 Tryz.sizeOf117 rfl rfl rfl rfl (by omega) ?_; intro b17 o17 z17 q17 hz17 hE17 hrow17
     obtain ⟨a17, m17, c17, rfl, hi17, hr17, hj17⟩ := hE17; have hn_hr17 := hr17.len; have hx_hr17 : _ ≤ 1099511627776 := hr17.lim
     rw [List.getElem?_take, if_pos (by omega)] at hz17
     refine o_loadagg_P H Tryz.isAgg117 Tryz.sizeOf117 rfl rfl hrow17 rfl ?_
     refine o_alloc H Tryz.zeroValue117 rfl rfl ?_; intro b18 w18 hb18 H
     refine o_store_B 0 H Tryz.sizeOf117 rfl rfl rfl rfl rfl rfl rfl rfl ?_; intro w19 H
     refine q1 ?_
     refine o_fieldAddr 1 Tryz.runUnderlying117 rfl Tryz.sizeOf27 rfl rfl rfl ?_
     refine o_load_B 0 H Tryz.isAgg27 rfl rfl rfl rfl ?_
     refine o_fieldAddr 1 Tryz.runUnderlying117 rfl Tryz.sizeOf27 rfl rfl rfl ?_
     refine o_load_B 1 H Tryz.isAgg27 rfl rfl rfl rfl ?_
     refine o_call Tryz.call184 rfl rfl (l_Equal_c _ _ H.sub _ _ hr17 _ _ hr4 ) ?_
     rintro _ w20 ⟨rfl, ew20⟩; have H := H.step ew20; refine ⟨_, rfl, ?_⟩
     refine q3 ?_
     refine W_cond rfl ?_ ?_
     ·intro hc21
      try simp only [nrm] at hc21
      refine q2 ?_
      refine o_assign rfl rfl ?_
      refine q3 ?_
      refine W_ret ?_
      refine N_B_ret ?_
      refine N_K_ret ?_
      refine N_LP_ret ?_
      refine N_B_ret ?_
      refine N_K_ret ?_
      refine N_B_ret ?_
      refine N_K_ret ?_
      refine N_LP_ret ?_
      refine N_B_ret ?_
      refine N_K_ret ?_
      refine ret_gen (rs := [.tmp 2]) (vs := [_]) Tryz.results158 ⟨rfl, trivial⟩ ?_
      exact H.rets (congrArg Value.bool (by rw [Sp.sv_false (k := k) (by omega) (Sp.okH_dup hz4 (by omega) hz17 hc21)]))
     intro hc21'
     try simp only [nrm] at hc21'
     refine W_skip ?_
     refine N_B ?_
     refine N_K ?_
     refine W_region ?_
     refine o_add rfl rfl rfl ⟨by omega, by omega⟩ ?_
     refine o_move rfl rfl ?_
     refine R_nil ?_
     have H := H.del (k := 0) rfl
     refine N_LP (hJ := ⟨j + 1, _, rfl, hle15, H, ?inv, rfl⟩) (hM := ?hM) (hf := ?hf) (hm := ?hm)
     case hM => (repeat (first | exact Sub.nil | refine Sub.cons rfl ?_))
     case hf => (repeat (first | exact Sub.nil | refine Sub.cons rfl ?_))
     case hm => omega
     case inv => exact ⟨by omega, Sp.all_take hall2 hz17 (by simp [hc21'])⟩
    intro hc16'
    try simp only [nrm] at hc16'
    refine W_exit ?_
    refine N_K_exit ?_
    refine N_LP_exit ?_
    refine N_B_same ?_
    refine N_K ?_
    refine W_region ?_
    refine o_fieldAddr 0 Tryz.runUnderlying117 rfl Tryz.sizeOf3 rfl rfl rfl ?_
    refine o_load_B 0 H Tryz.isAgg3 rfl rfl rfl rfl ?_
    refine o_assign rfl rfl ?_
    refine R_nil ?_
    refine N_B ?_
    refine N_K ?_
    refine W_region ?_
    refine o_add rfl rfl rfl ⟨by omega, by omega⟩ ?_
    refine o_move rfl rfl ?_
    refine R_nil ?_
    have H := H.del (k := 0) rfl
    refine N_LP (hJ := ⟨k + 1, z4.id, _, rfl, hle2, H, ?inv, rfl⟩) (hM := ?hM) (hf := ?hf) (hm := ?hm)
    case hM => (repeat (first | exact Sub.nil | refine Sub.cons rfl ?_))
    case hf => (repeat (first | exact Sub.nil | refine Sub.cons rfl ?_))
    case hm => omega
    case inv => (obtain rfl : j = k := by omega); exact ⟨by omega, (Sp.lastId_succ hz4).symm, Sp.upto_succ hall (Sp.okH_mk hz4 hall (by omega) (by omega) (by simpa using hc12') (by omega) hall2), hi4⟩
  intro hc3'
  try simp only [nrm] at hc3'
  refine W_exit ?_
  refine N_K_exit ?_
  refine N_LP_exit ?_
  refine N_B_same ?_
  refine N_K ?_
  refine q2 ?_
  refine o_assign rfl rfl ?_
  refine q3 ?_
  refine W_ret ?_
  refine ret_gen (rs := [.tmp 2]) (vs := [_]) Tryz.results158 ⟨rfl, trivial⟩ ?_
  exact H.rets (congrArg Value.bool (by rw [Sp.sv_true (fun j hj => hall j (by omega)) (by omega)]))
end Go.Proofs.Tst

namespace Go.Proofs.Tst
open Go Fw
theorem i_keep_c (w0 : World) (G0 : PH) (hG : PSub G0 w0) (mbs : Nat) (ess : Array MapEntry) (cks : Nat) (xss : List (Int × Value)) (Ls : List BHeld) (hms : MapIs (Value.int .i64) ess cks xss) (hSs : StR G0 xss Ls) (hVs : Sp.VH Ls) (id : Int) (hLent : Lent w0 G0 [blk mbs (.map ess cks)])  :
  Calls Tryz.prog 161 #[.map (some mbs), .int .i64 id] w0 (RetM w0 G0 [mbs] (fun G' v Bs => ∃ (es' : Array MapEntry) (ck' : Nat) (xs' : List (Int × Value)) (L' : List BHeld), v = .bool (Sp.StoreKeep Ls id).isSome ∧ Bs = [blk mbs (.map es' ck')] ∧ MapIs (Value.int .i64) es' ck' xs' ∧ StR G' xs' L' ∧ Sp.VH L' ∧ L' = (Sp.StoreKeep Ls id).getD Ls)) := by
 have H : Hp w0 G0 [mbs] w0 G0 [blk mbs (.map ess cks)] := hLent.hp
 refine calls_of_W (l := [.map (some mbs), .int .i64 id]) Tryz.func161 rfl Tryz.ntmps161 rfl ?_
 refine q2 ?_
 refine o_assign rfl rfl ?_
 refine q1 ?_
 refine o_move rfl rfl ?_
 refine o_move rfl rfl ?_
 refine o_lookS2 (H.at (k := 0) rfl) hms hSs Tryz.underlying66 Tryz.underlying3 Tryz.zeroValue117 rfl rfl rfl ?_; intro q1 hE1
 obtain ⟨a1, m1, c1, rfl, hi1, hr1, hj1⟩ := hE1; have hn_hr1 := hr1.len; have hx_hr1 : _ ≤ 1099511627776 := hr1.lim
 have hfnd : True := trivial
 refine o_move rfl rfl ?_
 refine o_extract rfl rfl rfl ?_
 refine o_extract rfl rfl rfl ?_
 refine o_alloc H Tryz.zeroValue117 rfl rfl ?_; intro b2 w2 hb2 H
 refine o_store_B 0 H Tryz.sizeOf117 rfl rfl rfl rfl rfl rfl rfl rfl ?_; intro w3 H
 refine o_assign rfl rfl ?_
 refine q3 ?_
 refine W_seq ?_
 refine q2 ?_
 refine o_move rfl rfl ?_
 refine o_not rfl rfl ?_
 refine o_move rfl rfl ?_
 refine R_case (t := 15) rfl ?_ ?_
 ·intro hc4
  try simp only [nrm] at hc4
  refine R_pass rfl (yl_ne rfl rfl rfl) ?_
  refine R_pass rfl (yl_ne rfl rfl rfl) ?_
  refine R_pass rfl (yl_ne rfl rfl rfl) ?_
  refine o_pick_t rfl rfl rfl ?_
  refine q3 ?_
  refine W_true rfl ?_
  refine q2 ?_
  refine o_assign rfl rfl ?_
  refine q3 ?_
  refine W_ret ?_
  refine N_K_ret ?_
  refine ret_gen (rs := [.tmp 4]) (vs := [_]) Tryz.results161 ⟨rfl, trivial⟩ ?_
  have H := H.del (k := 0) rfl
  exact H.retM ⟨_, _, _, _, congrArg Value.bool (by rw [Sp.keep_no hVs (.inl (by simpa using hc4))]; rfl), rfl, hms, hSs, hVs, by rw [Sp.keep_no hVs (.inl (by simpa using hc4))]; rfl⟩
 intro hc4'
 try simp only [nrm] at hc4'
 have hfd : (Sp.atH Ls id).isSome = true := by simpa using hc4'
 have hgo := Sp.get_ok hVs hfd
 refine R_guard (yl rfl rfl) ?_
 refine o_fieldAddr 2 Tryz.runUnderlying117 rfl Tryz.sizeOf3 rfl rfl rfl ?_
 refine R_guard (yl rfl rfl) ?_
 refine o_load_B 0 H Tryz.isAgg3 rfl rfl rfl rfl ?_
 refine R_guard (yl rfl rfl) ?_
 refine o_geq rfl rfl rfl ?_
 refine o_pick_f rfl rfl rfl ?_
 refine q3 ?_
 refine W_cond rfl ?_ ?_
 ·intro hc5
  try simp only [nrm] at hc5
  refine q2 ?_
  refine o_assign rfl rfl ?_
  refine q3 ?_
  refine W_ret ?_
  refine N_K_ret ?_
  refine ret_gen (rs := [.tmp 4]) (vs := [_]) Tryz.results161 ⟨rfl, trivial⟩ ?_
  have H := H.del (k := 0) rfl
  exact H.retM ⟨_, _, _, _, congrArg Value.bool (by rw [Sp.keep_no hVs (.inr (by omega))]; rfl), rfl, hms, hSs, hVs, by rw [Sp.keep_no hVs (.inr (by omega))]; rfl⟩
 intro hc5'
 try simp only [nrm] at hc5'
 have hkg := Sp.keep_get hVs hfd (by omega)
 refine W_skip ?_
 refine N_K ?_
 refine q2 ?_
 refine o_fieldAddr 2 Tryz.runUnderlying117 rfl Tryz.sizeOf3 rfl rfl rfl ?_
 refine o_load_B 0 H Tryz.isAgg3 rfl rfl rfl rfl ?_
 refine o_add rfl rfl rfl ⟨by omega, by omega⟩ ?_
 refine o_fieldAddr 2 Tryz.runUnderlying117 rfl Tryz.sizeOf3 rfl rfl rfl ?_
 refine o_store_B 0 H Tryz.sizeOf3 rfl rfl rfl rfl rfl rfl rfl rfl ?_; intro w7 H
 refine q1 ?_
 refine o_move rfl rfl ?_
 refine o_move rfl rfl ?_
 refine o_loadagg_B 0 H Tryz.isAgg117 Tryz.sizeOf117 rfl rfl rfl rfl rfl ?_
 refine o_updS 1 H ⟨(getH Ls id).id, (getH Ls id).bytes, (getH Ls id).uses + 1⟩ rfl hms hSs Tryz.underlying66 Tryz.underlying3 rfl rfl rfl (show heldE G0 ⟨(getH Ls id).id, (getH Ls id).bytes, (getH Ls id).uses + 1⟩ _ from ⟨_, _, _, rfl, ⟨by first | omega | (dsimp only; omega), by first | omega | (dsimp only; omega)⟩, hr1, ⟨by first | omega | (dsimp only; omega), by first | omega | (dsimp only; omega)⟩⟩) (by exact Sp.get_id hfd) ?_; intro es8 ck8 xs8 w8 H hm8 hS8
 refine q1 ?_
 refine o_assign rfl rfl ?_
 refine q3 ?_
 refine W_ret ?_
 refine ret_gen (rs := [.tmp 4]) (vs := [_]) Tryz.results161 ⟨rfl, trivial⟩ ?_
 have H := H.del (k := 0) rfl
 exact H.retM ⟨_, _, _, _, congrArg Value.bool (by rw [hkg.1]; rfl), rfl, hm8, hS8, hkg.2, by rw [hkg.1]; rfl⟩
theorem i_drop_c (w0 : World) (G0 : PH) (hG : PSub G0 w0) (mbs : Nat) (ess : Array MapEntry) (cks : Nat) (xss : List (Int × Value)) (Ls : List BHeld) (hms : MapIs (Value.int .i64) ess cks xss) (hSs : StR G0 xss Ls) (hVs : Sp.VH Ls) (id : Int) (hLent : Lent w0 G0 [blk mbs (.map ess cks)])  :
  Calls Tryz.prog 134 #[.map (some mbs), .int .i64 id] w0 (RetM w0 G0 [mbs] (fun G' v Bs => ∃ (es' : Array MapEntry) (ck' : Nat) (xs' : List (Int × Value)) (L' : List BHeld), v = .bool (Sp.StoreDrop Ls id).isSome ∧ Bs = [blk mbs (.map es' ck')] ∧ MapIs (Value.int .i64) es' ck' xs' ∧ StR G' xs' L' ∧ Sp.VH L' ∧ L' = (Sp.StoreDrop Ls id).getD Ls)) := by
 have H : Hp w0 G0 [mbs] w0 G0 [blk mbs (.map ess cks)] := hLent.hp
 refine calls_of_W (l := [.map (some mbs), .int .i64 id]) Tryz.func134 rfl Tryz.ntmps134 rfl ?_
 refine q2 ?_
 refine o_assign rfl rfl ?_
 refine q1 ?_
 refine o_move rfl rfl ?_
 refine o_move rfl rfl ?_
 refine o_lookS2 (H.at (k := 0) rfl) hms hSs Tryz.underlying66 Tryz.underlying3 Tryz.zeroValue117 rfl rfl rfl ?_; intro q1 hE1
 obtain ⟨a1, m1, c1, rfl, hi1, hr1, hj1⟩ := hE1; have hn_hr1 := hr1.len; have hx_hr1 : _ ≤ 1099511627776 := hr1.lim
 refine o_move rfl rfl ?_
 refine o_extract rfl rfl rfl ?_
 refine o_extract rfl rfl rfl ?_
 refine o_alloc H Tryz.zeroValue117 rfl rfl ?_; intro b2 w2 hb2 H
 refine o_store_B 0 H Tryz.sizeOf117 rfl rfl rfl rfl rfl rfl rfl rfl ?_; intro w3 H
 refine o_assign rfl rfl ?_
 refine q3 ?_
 refine W_seq ?_
 refine q2 ?_
 refine o_move rfl rfl ?_
 refine o_not rfl rfl ?_
 refine q3 ?_
 refine W_cond rfl ?_ ?_
 ·intro hc4
  try simp only [nrm] at hc4
  refine q2 ?_
  refine o_assign rfl rfl ?_
  refine q3 ?_
  refine W_ret ?_
  refine N_K_ret ?_
  refine ret_gen (rs := [.tmp 4]) (vs := [_]) Tryz.results134 ⟨rfl, trivial⟩ ?_
  have H := H.del (k := 0) rfl
  exact H.retM ⟨_, _, _, _, congrArg Value.bool (by rw [Sp.drop_no (by simpa using hc4)]; rfl), rfl, hms, hSs, hVs, by rw [Sp.drop_no (by simpa using hc4)]; rfl⟩
 intro hc4'
 try simp only [nrm] at hc4'
 have hfd : (Sp.atH Ls id).isSome = true := by simpa using hc4'
 have hgo := Sp.get_ok hVs hfd
 refine W_skip ?_
 refine N_K ?_
 refine W_seq ?_
 refine q2 ?_
 refine o_fieldAddr 2 Tryz.runUnderlying117 rfl Tryz.sizeOf3 rfl rfl rfl ?_
 refine o_load_B 0 H Tryz.isAgg3 rfl rfl rfl rfl ?_
 refine o_eql rfl rfl rfl ?_
 refine q3 ?_
 refine W_cond rfl ?_ ?_
 ·intro hc5
  try simp only [nrm] at hc5
  have hkg := Sp.drop_get1 hVs hfd hc5
  refine q2 ?_
  refine o_move rfl rfl ?_
  refine o_move rfl rfl ?_
  refine o_delS 1 H rfl hms hSs Tryz.underlying66 Tryz.underlying3 rfl rfl ?_; intro es6 ck6 xs6 w6 H hm6 hS6
  refine q1 ?_
  refine o_assign rfl rfl ?_
  refine q3 ?_
  refine W_ret ?_
  refine N_K_ret ?_
  refine ret_gen (rs := [.tmp 4]) (vs := [_]) Tryz.results134 ⟨rfl, trivial⟩ ?_
  have H := H.del (k := 0) rfl
  exact H.retM ⟨_, _, _, _, congrArg Value.bool (by rw [hkg.1]; rfl), rfl, hm6, hS6, hkg.2, by rw [hkg.1]; rfl⟩
 intro hc5'
 try simp only [nrm] at hc5'
 have hkg := Sp.drop_get2 hVs hfd hc5'
 refine W_skip ?_
 refine N_K ?_
 refine q2 ?_
 refine o_fieldAddr 2 Tryz.runUnderlying117 rfl Tryz.sizeOf3 rfl rfl rfl ?_
 refine o_load_B 0 H Tryz.isAgg3 rfl rfl rfl rfl ?_
 refine o_sub rfl rfl rfl ⟨by omega, by omega⟩ ?_
 refine o_fieldAddr 2 Tryz.runUnderlying117 rfl Tryz.sizeOf3 rfl rfl rfl ?_
 refine o_store_B 0 H Tryz.sizeOf3 rfl rfl rfl rfl rfl rfl rfl rfl ?_; intro w8 H
 refine q1 ?_
 refine o_move rfl rfl ?_
 refine o_move rfl rfl ?_
 refine o_loadagg_B 0 H Tryz.isAgg117 Tryz.sizeOf117 rfl rfl rfl rfl rfl ?_
 refine o_updS 1 H ⟨(getH Ls id).id, (getH Ls id).bytes, (getH Ls id).uses - 1⟩ rfl hms hSs Tryz.underlying66 Tryz.underlying3 rfl rfl rfl (show heldE G0 ⟨(getH Ls id).id, (getH Ls id).bytes, (getH Ls id).uses - 1⟩ _ from ⟨_, _, _, rfl, ⟨by first | omega | (dsimp only; omega), by first | omega | (dsimp only; omega)⟩, hr1, ⟨by first | omega | (dsimp only; omega), by first | omega | (dsimp only; omega)⟩⟩) (by exact Sp.get_id hfd) ?_; intro es9 ck9 xs9 w9 H hm9 hS9
 refine q1 ?_
 refine o_assign rfl rfl ?_
 refine q3 ?_
 refine W_ret ?_
 refine ret_gen (rs := [.tmp 4]) (vs := [_]) Tryz.results134 ⟨rfl, trivial⟩ ?_
 have H := H.del (k := 0) rfl
 exact H.retM ⟨_, _, _, _, congrArg Value.bool (by rw [hkg.1]; rfl), rfl, hm9, hS9, hkg.2, by rw [hkg.1]; rfl⟩
theorem i_find_c (w0 : World) (G0 : PH) (hG : PSub G0 w0) (mbs : Nat) (ess : Array MapEntry) (cks : Nat) (xss : List (Int × Value)) (Ls : List BHeld) (hbs : MapAt G0 mbs ess cks) (hms : MapIs (Value.int .i64) ess cks xss) (hSs : StR G0 xss Ls) (hVs : Sp.VH Ls) (vbytes : Value) (bytes : List (Int)) (hbytes : RdI G0 vbytes bytes)  :
  Calls Tryz.prog 160 #[.map (some mbs), vbytes] w0 (Rets w0 (.int .i64 (Sp.findId Ls bytes))) := by
 obtain ⟨abytes, kbytes, rfl⟩ := hbytes.shape
 have hlimbytes : bytes.length ≤ 1099511627776 := hbytes.lim
 have H := Hp.init hG
 refine calls_of_W (l := [.map (some mbs), .slice abytes bytes.length kbytes]) Tryz.func160 rfl Tryz.ntmps160 rfl ?_
 refine q2 ?_
 refine o_assign rfl rfl ?_
 refine q3 ?_
 refine W_seq ?_
 refine q2 ?_
 refine o_move rfl rfl ?_
 have hmb1 := (hbs.at H.sub); refine o_range H hmb1 Tryz.underlying66 rfl rfl ?_; intro r1 w1 hr1 H _; have hne1 : r1 ≠ mbs := fun e => by have := (Array.getElem?_eq_some_iff.1 hmb1).1; omega
 refine q3 ?_
 refine W_block ?_
 refine W_loop (hf := (Sub.cons (t := 1) rfl (Sub.cons (t := 8) rfl Sub.nil))) (J := fun M w m => ∃  (sn : Array Nat) (G : PH), M = [] ∧ PLe G0 G ∧ Hp w0 G0 [] w G [blk r1 (.mapIter (some mbs) cks sn cks)] ∧ (∀ y, y ∈ Ls → seenH ess sn y → Sp.l2Same y.bytes bytes = false) ∧ m = ((leftOf ess sn).size)) (h0 := ⟨#[], _, rfl, PLe.refl _, H, ?inv, rfl⟩) (hM := ?hM) (round := ?round)
 case hM => (repeat (first | exact Sub.nil | refine Sub.cons rfl ?_))
 case inv => rintro y hy ⟨e, _, _, he⟩; simp at he
 case round =>
  rintro _ w2 _ ⟨sn, G2, rfl, hle2, H, hinv2, rfl⟩
  have hSs := hSs.up hle2
  have hbs := hbs.up hle2
  have hbytes := hbytes.up hle2
  have hsn := hinv2
  refine q2 ?_
  refine o_next 0 H (hbs.at H.sub) hms hSs rfl hne1 rfl rfl ?_ ?_
  ·intro hall3
   refine o_extract rfl rfl rfl ?_
   refine q3 ?_
   refine W_seq ?_
   refine W_false rfl ?_
   refine W_exit ?_
   refine N_K_exit ?_
   refine N_LP_exit ?_
   refine N_B_same ?_
   refine N_K ?_
   refine q2 ?_
   refine o_assign rfl rfl ?_
   refine q3 ?_
   refine W_ret ?_
   refine ret_gen (rs := [.tmp 4]) (vs := [_]) Tryz.results160 ⟨rfl, trivial⟩ ?_
   exact H.rets (congrArg (Value.int .i64) (by rw [Sp.findId_none (fun y hy => hsn y hy (hall3 y hy))]))
  intro e3 y3 q3 w3 he3 hk3 hv3 hy3 hE3 _ hless3 H
  obtain ⟨a3, m3, c3, rfl, hi3, hr3, hj3⟩ := hE3; have hn_hr3 := hr3.len; have hx_hr3 : _ ≤ 1099511627776 := hr3.lim
  refine o_extract rfl rfl rfl ?_
  refine q3 ?_
  refine W_seq ?_
  refine W_true rfl ?_
  refine W_skip ?_
  refine N_K ?_
  refine W_block ?_
  refine q2 ?_
  refine o_entry 0 H (hbs.at H.sub) hms rfl he3 hk3 hv3 rfl rfl ?_
  refine o_extract rfl rfl rfl ?_
  refine o_extract rfl rfl rfl ?_
  refine o_alloc H Tryz.zeroValue117 rfl rfl ?_; intro b4 w4 hb4 H
  refine o_assign rfl rfl ?_
  refine o_store_B 0 H Tryz.sizeOf117 rfl rfl rfl rfl rfl rfl rfl rfl ?_; intro w5 H
  refine q1 ?_
  refine o_fieldAddr 1 Tryz.runUnderlying117 rfl Tryz.sizeOf27 rfl rfl rfl ?_
  refine o_load_B 0 H Tryz.isAgg27 rfl rfl rfl rfl ?_
  refine o_move rfl rfl ?_
  refine o_call Tryz.call184 rfl rfl (l_Equal_c _ _ H.sub _ _ hr3 _ _ hbytes ) ?_
  rintro _ w6 ⟨rfl, ew6⟩; have H := H.step ew6; refine ⟨_, rfl, ?_⟩
  refine q3 ?_
  refine W_cond rfl ?_ ?_
  ·intro hc7
   try simp only [nrm] at hc7
   refine q2 ?_
   refine o_move rfl rfl ?_
   refine o_assign rfl rfl ?_
   refine q3 ?_
   refine W_ret ?_
   refine N_B_ret ?_
   refine N_LP_ret ?_
   refine N_B_ret ?_
   refine N_K_ret ?_
   refine ret_gen (rs := [.tmp 4]) (vs := [_]) Tryz.results160 ⟨rfl, trivial⟩ ?_
   exact H.rets (congrArg (Value.int .i64) (by rw [Sp.findId_some hVs hy3 hc7]))
  intro hc7'
  try simp only [nrm] at hc7'
  refine W_skip ?_
  refine N_B ?_
  have H := H.del (k := 0) rfl
  refine N_LP (hJ := ⟨_, _, rfl, hle2, H, ?inv, rfl⟩) (hM := ?hM) (hf := ?hf) (hm := ?hm)
  case hM => (repeat (first | exact Sub.nil | refine Sub.cons rfl ?_))
  case hf => (repeat (first | exact Sub.nil | refine Sub.cons rfl ?_))
  case hm => exact hless3
  case inv => intro y hy hs; rcases seenH_push hms (hSs.nd hms) he3 hk3 hy3 hy hs with rfl | h; (· exact hc7'); exact hsn y hy h
theorem i_put_c (w0 : World) (G0 : PH) (hG : PSub G0 w0) (mbs : Nat) (ess : Array MapEntry) (cks : Nat) (xss : List (Int × Value)) (Ls : List BHeld) (hms : MapIs (Value.int .i64) ess cks xss) (hSs : StR G0 xss Ls) (hVs : Sp.VH Ls) (vbytes : Value) (bytes : List (Int)) (hbytes : RdI G0 vbytes bytes) (hLent : Lent w0 G0 [blk mbs (.map ess cks)]) (hB : Sp.BlockValid bytes = true) :
  Calls Tryz.prog 131 #[.map (some mbs), vbytes] w0 (RetM w0 G0 [mbs] (fun G' v Bs => ∃ (es' : Array MapEntry) (ck' : Nat) (xs' : List (Int × Value)) (L' : List BHeld) (i : Int), v = .tuple #[.int .i64 i, .bool (Sp.StorePut Ls bytes).isSome] ∧ Bs = [blk mbs (.map es' ck')] ∧ MapIs (Value.int .i64) es' ck' xs' ∧ StR G' xs' L' ∧ Sp.VH L' ∧ L' = ((Sp.StorePut Ls bytes).map (·.1)).getD Ls ∧ inI i ∧ ∀ r, Sp.StorePut Ls bytes = some r → r.2 = i)) := by
 obtain ⟨abytes, kbytes, rfl⟩ := hbytes.shape
 have hlimbytes : bytes.length ≤ 1099511627776 := hbytes.lim
 have hfin := Sp.findId_in hVs bytes
 have H : Hp w0 G0 [mbs] w0 G0 [blk mbs (.map ess cks)] := hLent.hp
 refine calls_of_W (l := [.map (some mbs), .slice abytes bytes.length kbytes]) Tryz.func131 rfl Tryz.ntmps131 rfl ?_
 refine q2 ?_
 refine o_assign rfl rfl ?_
 refine o_assign rfl rfl ?_
 refine q3 ?_
 refine W_seq ?_
 refine q2 ?_
 refine o_move rfl rfl ?_
 refine o_move rfl rfl ?_
 refine o_call Tryz.call160 rfl rfl (i_find_c _ _ (H.lendSubL [0]) _ _ _ _ _ (H.lendPredL (k := 0) (ks := [0]) rfl rfl) hms (hSs.up (PPlus.le _ _ _)) hVs _ _ (hbytes.up (PPlus.le _ _ _)) ) ?_
 rintro _ w1 ⟨rfl, ew1⟩; have H := H.step ew1; refine ⟨_, rfl, ?_⟩
 refine o_assign rfl rfl ?_
 refine q1 ?_
 refine o_move rfl rfl ?_
 refine o_neq rfl rfl rfl ?_
 refine q3 ?_
 refine W_cond rfl ?_ ?_
 ·intro hc2
  try simp only [nrm] at hc2
  obtain ⟨pi, px, hp1, hp2, hp3⟩ := Sp.findId_ne hVs hc2
  have hpo := Sp.put_old hVs hB hp1 hp2
  rw [← hp3] at hpo
  refine q2 ?_
  refine o_move rfl rfl ?_
  refine o_move rfl rfl ?_
  refine o_move rfl rfl ?_
  refine o_call Tryz.call161 rfl rfl (i_keep_c _ _ H.sub _ _ _ _ _ hms hSs hVs _ H.lent1 ) ?_
  rintro _ w3 ⟨G3, _, _, rfl, H3', ⟨es3, ck3, xs3, L3, rfl, rfl, hm3, hS3, hV3, hL3⟩⟩
  have hSs := hSs.up H3'.le
  have hbytes := hbytes.up H3'.le
  have H := H.borrow1 H3'
  refine ⟨_, rfl, ?_⟩
  refine o_assign rfl rfl ?_
  refine o_assign rfl rfl ?_
  refine q3 ?_
  refine W_ret ?_
  refine N_K_ret ?_
  refine ret_gen (rs := [.tmp 4, .tmp 5]) (vs := [_, _]) Tryz.results131 ⟨rfl, rfl, trivial⟩ ?_
  exact H.retM ⟨_, _, _, _, Sp.findId Ls bytes, congrArg (fun b => Value.tuple #[Value.int .i64 (Sp.findId Ls bytes), Value.bool b]) (by rw [hpo, Option.isSome_map]), rfl, hm3, hS3, hV3, (by rw [hL3, hpo]; cases Sp.StoreKeep Ls (Sp.findId Ls bytes) <;> rfl), ⟨by omega, by omega⟩, fun r hr => by rw [hpo] at hr; cases hk : Sp.StoreKeep Ls (Sp.findId Ls bytes) with | none => rw [hk] at hr; cases hr | some l => (rw [hk] at hr; cases hr; rfl)⟩
 intro hc2'
 try simp only [nrm] at hc2'
 have hnl := Sp.findId_eq hVs hc2'
 refine W_skip ?_
 refine N_K ?_
 refine W_seq ?_
 refine q2 ?_
 refine o_move rfl rfl ?_
 have hml4 := hSs.len
 refine o_lenM (H.at (k := 0) rfl) hms Tryz.underlying66 rfl rfl ?_
 refine o_geq rfl rfl rfl ?_
 refine q3 ?_
 refine W_cond rfl ?_ ?_
 ·intro hc5
  try simp only [nrm] at hc5
  refine q2 ?_
  refine o_assign rfl rfl ?_
  refine o_assign rfl rfl ?_
  refine q3 ?_
  refine W_ret ?_
  refine N_K_ret ?_
  refine ret_gen (rs := [.tmp 4, .tmp 5]) (vs := [_, _]) Tryz.results131 ⟨rfl, rfl, trivial⟩ ?_
  exact H.retM ⟨_, _, _, _, 0, congrArg (fun b => Value.tuple #[Value.int .i64 (0), Value.bool b]) (by rw [Sp.put_full hnl (by omega)]; rfl), rfl, hms, hSs, hVs, (by rw [Sp.put_full hnl (by omega)]; rfl), by decide, fun r hr => by rw [Sp.put_full hnl (by omega)] at hr; cases hr⟩
 intro hc5'
 try simp only [nrm] at hc5'
 refine W_skip ?_
 refine N_K ?_
 refine q2 ?_
 refine o_assign rfl rfl ?_
 refine q3 ?_
 refine W_seq ?_
 refine W_block ?_
 refine W_loop (hf := (Sub.cons (t := 0) rfl (Sub.cons (t := 1) rfl (Sub.cons (t := 4) rfl (Sub.cons (t := 5) rfl Sub.nil))))) (J := fun M w m => ∃ (k : Nat) (G : PH), M = [(7, .int .i64 ((k : Int) + 1))] ∧ PLe G0 G ∧ Hp w0 G0 [mbs] w G [blk mbs (.map ess cks)] ∧ (∀ j : Nat, j < k → (Sp.atH Ls ((j : Int) + 1)).isSome = true) ∧ m = (Ls.length + 1 - k)) (h0 := ⟨0, _, rfl, PLe.refl _, H, ?inv, rfl⟩) (hM := ?hM) (round := ?round)
 case hM => (repeat (first | exact Sub.nil | refine Sub.cons rfl ?_))
 case inv => exact fun j hj => by omega
 case round =>
  rintro _ w6 _ ⟨k, G6, rfl, hle6, H, hinv6, rfl⟩
  have hSs := hSs.up hle6
  have hbytes := hbytes.up hle6
  have hall := hinv6; have hkl := Sp.free_le hall; have hv16 := hVs.len
  refine W_seq ?_
  refine q2 ?_
  refine o_move rfl rfl ?_
  refine o_move rfl rfl ?_
  refine o_lookS (H.at (k := 0) rfl) hms hSs Tryz.underlying66 Tryz.underlying3 Tryz.zeroValue117 rfl rfl rfl ?_; intro q7 hE7
  obtain ⟨a7, m7, c7, rfl, hi7, hr7, hj7⟩ := hE7; have hn_hr7 := hr7.len; have hx_hr7 : _ ≤ 1099511627776 := hr7.lim
  refine o_field 2 Tryz.runUnderlying117 rfl rfl rfl Tryz.isAgg3 rfl rfl rfl ?_
  refine o_neq rfl rfl rfl ?_
  refine q3 ?_
  refine W_cond rfl ?_ ?_
  ·intro hc8
   try simp only [nrm] at hc8
   refine W_skip ?_
   refine N_K ?_
   refine W_block ?_
   refine W_region ?_
   refine o_move rfl rfl ?_
   refine o_add rfl rfl rfl ⟨by omega, by omega⟩ ?_
   refine o_assign rfl rfl ?_
   refine R_nil ?_
   refine N_B ?_
   refine N_LP (hJ := ⟨k + 1, _, rfl, hle6, H, ?inv, rfl⟩) (hM := ?hM) (hf := ?hf) (hm := ?hm)
   case hM => (repeat (first | exact Sub.nil | refine Sub.cons rfl ?_))
   case hf => (repeat (first | exact Sub.nil | refine Sub.cons rfl ?_))
   case hm => omega
   case inv => exact Sp.upto_succ (p := fun j : Nat => (Sp.atH Ls ((j : Int) + 1)).isSome) hall (Sp.uses_some hc8)
  intro hc8'
  try simp only [nrm] at hc8'
  refine W_exit ?_
  refine N_K_exit ?_
  refine N_LP_exit ?_
  refine N_B_same ?_
  refine N_K ?_
  refine q2 ?_
  refine o_move rfl rfl ?_
  refine o_move rfl rfl ?_
  refine o_move rfl rfl ?_
  refine o_move rfl rfl ?_
  refine o_call Tryz.call133 rfl rfl (l_Clone_c _ _ H.sub _ _ hbytes ) ?_
  rintro _ w10 ⟨G10, v10, _, g10, rfl, ⟨cs10, rfl, hchk10⟩, hp10, hq10, hs10⟩
  have H := H.growO g10 hp10 hq10 hs10; obtain ⟨av10, cv10, rfl⟩ := H.accShape (k := 0) rfl
  have hSs := hSs.up g10.le
  have hbytes := hbytes.up g10.le
  have hr7 := hr7.up g10.le
  have hle6 := hle6.trans g10.le
  refine ⟨_, rfl, ?_⟩
  refine o_build bf117 rfl rfl rfl ?_
  obtain ⟨G12, H, hsg12, hsr12⟩ := H.shutL (k := 0) rfl (H.apart (k := 0) (ks := [1]) rfl rfl (by intro b hb; simpa [fpsAt, nth, blk] using hb)) hchk10 (by first | assumption | (simp; done) | (simp; omega) | omega) (by first | assumption | (simp; done) | (simp; omega) | omega)
  have hSs := hSs.up hsg12
  have hbytes := hbytes.up hsg12
  have hr7 := hr7.up hsg12
  have hchk10 := hchk10.up hsg12
  have hle6 := hle6.trans hsg12
  refine o_updS 0 H ⟨(k : Int) + 1, bytes, 1⟩ rfl hms hSs Tryz.underlying66 Tryz.underlying3 rfl rfl rfl (show heldE G12 ⟨(k : Int) + 1, bytes, 1⟩ _ from ⟨_, _, _, rfl, ⟨by first | omega | (dsimp only; omega), by first | omega | (dsimp only; omega)⟩, hsr12, ⟨by first | omega | (dsimp only; omega), by first | omega | (dsimp only; omega)⟩⟩) rfl ?_; intro es11 ck11 xs11 w11 H hm11 hS11
  refine q1 ?_
  refine o_move rfl rfl ?_
  refine o_assign rfl rfl ?_
  refine o_assign rfl rfl ?_
  refine q3 ?_
  refine W_ret ?_
  refine ret_gen (rs := [.tmp 4, .tmp 5]) (vs := [_, _]) Tryz.results131 ⟨rfl, rfl, trivial⟩ ?_
  have hfe := Sp.free_eq hall (Sp.uses_none hVs (by simpa using hc8'))
  have hpn := Sp.put_new hVs hB hnl (by omega)
  exact H.retM ⟨_, _, _, _, (k : Int) + 1, congrArg (fun b => Value.tuple #[Value.int .i64 ((k : Int) + 1), Value.bool b]) (by rw [hpn]; rfl), rfl, hm11, (hS11.perm (Sp.put_perm bytes hfe)), Sp.with_valid hVs hB hnl (by omega), (by rw [hpn]; rfl), ⟨by omega, by omega⟩, fun r hr => by rw [hpn] at hr; cases hr; simp only []; omega⟩
end Go.Proofs.Tst

