/- Part 7 of the proof: the program logic and plain functions. Conditions: none. -/
import Derived.Test.YtbhkgogeoafjjaaGreatDoorProg
import Derived.Test.YtbhkgogeoafjjaaGreatDoorG02
import Derived.Test.YtbhkgogeoafjjaaGreatDoorG03
import Derived.Test.YtbhkgogeoafjjaaGreatDoorG04
import Derived.Test.YtbhkgogeoafjjaaGreatDoorG06
import Derived.Test.YtbhkgogeoafjjaaGreatDoorG05
import Derived.WideKeyArgs
import Derived.ChangeArms
import Derived.DataElems
import Derived.ChangeSame
set_option linter.all false
set_option maxRecDepth 100000
set_option maxHeartbeats 1000000
namespace Go.Proofs.Tst
open Go Fw Tryz
theorem l12Copy_c (w0 : World) (G0 : PH) (hG : PSub G0 w0) (cd : List Value) (d : BDisk) (hd : diskE G0 d cd)  :
  Calls Tryz.prog 54 #[.agg cd.toArray] w0 (RetO w0 G0 (fun G val r => ∃ u u1 u2, val = .agg #[u, u1, u2] ∧ AccOf snapE 2 58 d.snaps G u2 r ∧ RdH G u d.store ∧ RdItems G u1 d.tree)) := by
 obtain ⟨a1, m1, c1, a1', m1', c1', a1'', m1'', c1'', rfl, hr1, hr1', hr1''⟩ := hd; have hn_hr1 := hr1.len; have hx_hr1 : _ ≤ 1099511627776 := hr1.lim; have hn_hr1q := hr1'.len; have hx_hr1q : _ ≤ 1099511627776 := hr1'.lim; have hn_hr1qq := hr1''.len; have hx_hr1qq : _ ≤ 1099511627776 := hr1''.lim
 have H := Hp.init hG
 refine calls_of_W (l := [_]) func54 Z ntmps54 Z (q2 (o_box H Z Z Z ?_)); intro b2 w2 hb2 H
 refine o_alloc H zeroValue32 Z Z ?_; intro b3 w3 hb3 H
 refine q3 ?_
 obtain ⟨ljb3, hljb3, H⟩ := H.name (k := 0) rfl
 obtain ⟨ljb2, hljb2, H⟩ := H.name (k := 1) rfl
 have hj4 := PLe.refl G0
 refine W_join (hf := (Sub.cons (t := 1) Z (Sub.cons (t := 2) Z Sub.nil))) (J := fun M w => ∃ (jb : Nat) (ja jc : Option Addr) (jm jk jn jl : Nat) (ve : Value) (ce : List Value) (ne : Nat) (G : PH), M = [(3, .pointer (some ⟨jb, 0, none⟩))] ∧ PLe G0 G ∧ Hp w0 G0 [] w G [acc 58 2 ve ne ce, blk jb (cl [.slice ja jm jk, .slice jc jn jl, ve] 32), blk b3 (cl ljb3 32), blk b2 (cl ljb2 32)] ∧ (RdH G (.slice ja jm jk) d.store ∧ RdItems G (.slice jc jn jl) d.tree ∧ Chk snapE 2 G ce ([] : List BSnap) ∧ ne = 0)) (first := ?_) (second := ?_)
 ·skip
  subst hljb3
  subst hljb2
  refine W_drawK [0, 1] 10 H kR Z ?_; intro w5 H; have hd5 := PLe.refl G0
  refine RD_t 0 Z kR Z (fun _ hK => v_fieldAddr 0 runUnderlying32 Z sizeOf28 Z Z) (RD_t 1 Z kR Z (fun _ hK => v_load_B 1 hK isAgg28 Z Z Z) (RD_t 3 Z kR Z (fun _ hK => v_fieldAddr 1 runUnderlying32 Z sizeOf29 Z Z) (RD_t 4 Z kR Z (fun _ hK => v_load_B 1 hK isAgg29 Z Z Z) ?_)))
  refine RD_run [2, 6, 8] kR Z (RDs.cons Z ?_ (RDs.cons Z ?_ (RDs.cons Z ?_ RDs.nil)))
  ·skip
   refine o_call call109 Z Z (l3Copy_c _ _ H.sub _ _ hr1 ) ?_
   rintro _ w6 ⟨G6, v6, _, g6, rfl, ⟨cs6, rfl, hchk6⟩, hp6, hq6, hs6⟩
   have H := H.growO g6 hp6 hq6 hs6; obtain ⟨av6, cv6, rfl⟩ := H.accShape (k := 0) rfl
   have hr1' := hr1'.up g6.le
   have hj4 := hj4.trans g6.le
   have hd5 := hd5.trans g6.le
   refine ⟨_, Z, ?_⟩
   refine R_nil (N_DK (Kn.of' H hd5 (SubL.cons 1 Z (SubL.cons 2 Z SubL.nil))) ?_)
   refine RD_run [5, 6, 8] kR Z (RDs.cons Z ?_ (RDs.cons Z ?_ (RDs.cons Z ?_ RDs.nil)))
   ·skip
    refine o_call call87 Z Z (l5All_c _ _ H.sub _ _ hr1' ) ?_
    rintro _ w7 ⟨G7, v7, _, g7, rfl, ⟨cs7, rfl, hchk7⟩, hp7, hq7, hs7⟩
    have H := H.growO g7 hp7 hq7 hs7; obtain ⟨av7, cv7, rfl⟩ := H.accShape (k := 0) rfl
    have hchk6 := hchk6.up g7.le
    have hj4 := hj4.trans g7.le
    have hd5 := hd5.trans g7.le
    refine ⟨_, Z, ?_⟩
    refine R_nil (N_DK (Kn.of' H hd5 (SubL.cons 2 Z (SubL.cons 3 Z SubL.nil))) ?_)
    refine RD_run [6, 8] kR Z (RDs.cons Z ?_ (RDs.cons Z ?_ RDs.nil))
    ·skip
     refine o_buildSlice H underlying30 sizeOf58 (fun w => ⟨_, zeroValue58 w, Z⟩) Z Z Z Z Z Z Z ?_; intro b8 w8 hb8 H
     have H := H.blkAcc 2 (k := 0) (n := 0) rfl rfl (by decide)
     refine R_nil (N_DK (Kn.of' H hd5 (SubL.cons 3 Z (SubL.cons 4 Z SubL.nil))) (RD_t 7 Z kR Z (fun _ hK => v_build bf32 Z Z) ?_))
     refine RD_run [8] kR Z (RDs.cons Z ?_ RDs.nil)
     refine o_alloc H zeroValue32 Z Z ?_; intro b9 w9 hb9 H
     refine R_nil (N_DK (Kn.of' H hd5 (SubL.cons 4 Z (SubL.cons 5 Z SubL.nil))) ?_)
     refine RD_run [9] kR Z (RDs.cons Z ?_ RDs.nil)
     refine o_store_B 0 H sizeOf32 Z Z Z Z Z Z Z Z ?_; intro w10 H
     refine R_nil (N_DKlast kR kR ?_)
     obtain ⟨G512, H, hsg512, hsr512⟩ := H.shut' (k := 3) rfl hchk6 aN aN
     have hchk7 := hchk7.up hsg512
     have hj4 := hj4.trans hsg512
     obtain ⟨G513, H, hsg513, hsr513⟩ := H.shut' (k := 2) rfl hchk7 aN aN
     have hsr512 := hsr512.up hsg513
     have hj4 := hj4.trans hsg513
     have H := H.toFront (k := 3) rfl
     have H := H.toFront (k := 3) rfl
     have H := H.toFront (k := 2) rfl
     have H := H.toFront (k := 3) rfl
     exact N_J ⟨_, _, _, _, _, _, _, _, _, _, _, Z, hj4, H, ⟨hsr512, hsr513, (Chk.nil (E := snapE) (sz := 2) (G := G513)), Z⟩⟩
    skip
    refine o_alloc H zeroValue32 Z Z ?_; intro b11 w11 hb11 H
    refine R_nil (N_DK (Kn.of' H hd5 (SubL.cons 3 Z (SubL.cons 4 Z SubL.nil))) ?_)
    refine RD_run [6] kR Z (RDs.cons Z ?_ RDs.nil)
    refine o_buildSlice H underlying30 sizeOf58 (fun w => ⟨_, zeroValue58 w, Z⟩) Z Z Z Z Z Z Z ?_; intro b12 w12 hb12 H
    have H := H.blkAcc 2 (k := 0) (n := 0) rfl rfl (by decide)
    refine R_nil (N_DK (Kn.of' H hd5 (SubL.cons 4 Z (SubL.cons 5 Z SubL.nil))) (RD_t 7 Z kR Z (fun _ hK => v_build bf32 Z Z) ?_))
    refine RD_run [9] kR Z (RDs.cons Z ?_ RDs.nil)
    refine o_store_B 1 H sizeOf32 Z Z Z Z Z Z Z Z ?_; intro w13 H
    refine R_nil (N_DKlast kR kR ?_)
    obtain ⟨G517, H, hsg517, hsr517⟩ := H.shut' (k := 3) rfl hchk6 aN aN
    have hchk7 := hchk7.up hsg517
    have hj4 := hj4.trans hsg517
    obtain ⟨G518, H, hsg518, hsr518⟩ := H.shut' (k := 2) rfl hchk7 aN aN
    have hsr517 := hsr517.up hsg518
    have hj4 := hj4.trans hsg518
    have H := H.toFront (k := 3) rfl
    have H := H.toFront (k := 3) rfl
    have H := H.toFront (k := 3) rfl
    have H := H.toFront (k := 3) rfl
    exact N_J ⟨_, _, _, _, _, _, _, _, _, _, _, Z, hj4, H, ⟨hsr517, hsr518, (Chk.nil (E := snapE) (sz := 2) (G := G518)), Z⟩⟩
   ·skip
    refine o_buildSlice H underlying30 sizeOf58 (fun w => ⟨_, zeroValue58 w, Z⟩) Z Z Z Z Z Z Z ?_; intro b14 w14 hb14 H
    have H := H.blkAcc 2 (k := 0) (n := 0) rfl rfl (by decide)
    refine R_nil (N_DK (Kn.of' H hd5 (SubL.cons 2 Z (SubL.cons 3 Z SubL.nil))) ?_)
    refine RD_run [5, 8] kR Z (RDs.cons Z ?_ (RDs.cons Z ?_ RDs.nil))
    ·skip
     refine o_call call87 Z Z (l5All_c _ _ H.sub _ _ hr1' ) ?_
     rintro _ w15 ⟨G15, v15, _, g15, rfl, ⟨cs15, rfl, hchk15⟩, hp15, hq15, hs15⟩
     have H := H.growO g15 hp15 hq15 hs15; obtain ⟨av15, cv15, rfl⟩ := H.accShape (k := 0) rfl
     have hchk6 := hchk6.up g15.le
     have hj4 := hj4.trans g15.le
     have hd5 := hd5.trans g15.le
     refine ⟨_, Z, ?_⟩
     refine R_nil (N_DK (Kn.of' H hd5 (SubL.cons 3 Z (SubL.cons 4 Z SubL.nil))) (RD_t 7 Z kR Z (fun _ hK => v_build bf32 Z Z) ?_))
     refine RD_run [8] kR Z (RDs.cons Z ?_ RDs.nil)
     refine o_alloc H zeroValue32 Z Z ?_; intro b16 w16 hb16 H
     refine R_nil (N_DK (Kn.of' H hd5 (SubL.cons 4 Z (SubL.cons 5 Z SubL.nil))) ?_)
     refine RD_run [9] kR Z (RDs.cons Z ?_ RDs.nil)
     refine o_store_B 0 H sizeOf32 Z Z Z Z Z Z Z Z ?_; intro w17 H
     refine R_nil (N_DKlast kR kR ?_)
     obtain ⟨G523, H, hsg523, hsr523⟩ := H.shut' (k := 3) rfl hchk6 aN aN
     have hchk15 := hchk15.up hsg523
     have hj4 := hj4.trans hsg523
     obtain ⟨G524, H, hsg524, hsr524⟩ := H.shut' (k := 1) rfl hchk15 aN aN
     have hsr523 := hsr523.up hsg524
     have hj4 := hj4.trans hsg524
     have H := H.toFront (k := 3) rfl
     have H := H.toFront (k := 3) rfl
     have H := H.toFront (k := 2) rfl
     have H := H.toFront (k := 3) rfl
     exact N_J ⟨_, _, _, _, _, _, _, _, _, _, _, Z, hj4, H, ⟨hsr523, hsr524, (Chk.nil (E := snapE) (sz := 2) (G := G524)), Z⟩⟩
    skip
    refine o_alloc H zeroValue32 Z Z ?_; intro b18 w18 hb18 H
    refine R_nil (N_DK (Kn.of' H hd5 (SubL.cons 3 Z (SubL.cons 4 Z SubL.nil))) ?_)
    refine RD_run [5] kR Z (RDs.cons Z ?_ RDs.nil)
    refine o_call call87 Z Z (l5All_c _ _ H.sub _ _ hr1' ) ?_
    rintro _ w19 ⟨G19, v19, _, g19, rfl, ⟨cs19, rfl, hchk19⟩, hp19, hq19, hs19⟩
    have H := H.growO g19 hp19 hq19 hs19; obtain ⟨av19, cv19, rfl⟩ := H.accShape (k := 0) rfl
    have hchk6 := hchk6.up g19.le
    have hj4 := hj4.trans g19.le
    have hd5 := hd5.trans g19.le
    refine ⟨_, Z, ?_⟩
    refine R_nil (N_DK (Kn.of' H hd5 (SubL.cons 4 Z (SubL.cons 5 Z SubL.nil))) (RD_t 7 Z kR Z (fun _ hK => v_build bf32 Z Z) ?_))
    refine RD_run [9] kR Z (RDs.cons Z ?_ RDs.nil)
    refine o_store_B 1 H sizeOf32 Z Z Z Z Z Z Z Z ?_; intro w20 H
    refine R_nil (N_DKlast kR kR ?_)
    obtain ⟨G528, H, hsg528, hsr528⟩ := H.shut' (k := 3) rfl hchk6 aN aN
    have hchk19 := hchk19.up hsg528
    have hj4 := hj4.trans hsg528
    obtain ⟨G529, H, hsg529, hsr529⟩ := H.shut' (k := 0) rfl hchk19 aN aN
    have hsr528 := hsr528.up hsg529
    have hj4 := hj4.trans hsg529
    have H := H.toFront (k := 3) rfl
    have H := H.toFront (k := 3) rfl
    have H := H.toFront (k := 2) rfl
    have H := H.toFront (k := 3) rfl
    exact N_J ⟨_, _, _, _, _, _, _, _, _, _, _, Z, hj4, H, ⟨hsr528, hsr529, (Chk.nil (E := snapE) (sz := 2) (G := G529)), Z⟩⟩
   skip
   refine o_alloc H zeroValue32 Z Z ?_; intro b21 w21 hb21 H
   refine R_nil (N_DK (Kn.of' H hd5 (SubL.cons 2 Z (SubL.cons 3 Z SubL.nil))) ?_)
   refine RD_run [5, 6] kR Z (RDs.cons Z ?_ (RDs.cons Z ?_ RDs.nil))
   ·skip
    refine o_call call87 Z Z (l5All_c _ _ H.sub _ _ hr1' ) ?_
    rintro _ w22 ⟨G22, v22, _, g22, rfl, ⟨cs22, rfl, hchk22⟩, hp22, hq22, hs22⟩
    have H := H.growO g22 hp22 hq22 hs22; obtain ⟨av22, cv22, rfl⟩ := H.accShape (k := 0) rfl
    have hchk6 := hchk6.up g22.le
    have hj4 := hj4.trans g22.le
    have hd5 := hd5.trans g22.le
    refine ⟨_, Z, ?_⟩
    refine R_nil (N_DK (Kn.of' H hd5 (SubL.cons 3 Z (SubL.cons 4 Z SubL.nil))) ?_)
    refine RD_run [6] kR Z (RDs.cons Z ?_ RDs.nil)
    refine o_buildSlice H underlying30 sizeOf58 (fun w => ⟨_, zeroValue58 w, Z⟩) Z Z Z Z Z Z Z ?_; intro b23 w23 hb23 H
    have H := H.blkAcc 2 (k := 0) (n := 0) rfl rfl (by decide)
    refine R_nil (N_DK (Kn.of' H hd5 (SubL.cons 4 Z (SubL.cons 5 Z SubL.nil))) (RD_t 7 Z kR Z (fun _ hK => v_build bf32 Z Z) ?_))
    refine RD_run [9] kR Z (RDs.cons Z ?_ RDs.nil)
    refine o_store_B 2 H sizeOf32 Z Z Z Z Z Z Z Z ?_; intro w24 H
    refine R_nil (N_DKlast kR kR ?_)
    obtain ⟨G534, H, hsg534, hsr534⟩ := H.shut' (k := 3) rfl hchk6 aN aN
    have hchk22 := hchk22.up hsg534
    have hj4 := hj4.trans hsg534
    obtain ⟨G535, H, hsg535, hsr535⟩ := H.shut' (k := 1) rfl hchk22 aN aN
    have hsr534 := hsr534.up hsg535
    have hj4 := hj4.trans hsg535
    have H := H.toFront (k := 3) rfl
    have H := H.toFront (k := 3) rfl
    have H := H.toFront (k := 3) rfl
    have H := H.toFront (k := 3) rfl
    exact N_J ⟨_, _, _, _, _, _, _, _, _, _, _, Z, hj4, H, ⟨hsr534, hsr535, (Chk.nil (E := snapE) (sz := 2) (G := G535)), Z⟩⟩
   skip
   refine o_buildSlice H underlying30 sizeOf58 (fun w => ⟨_, zeroValue58 w, Z⟩) Z Z Z Z Z Z Z ?_; intro b25 w25 hb25 H
   have H := H.blkAcc 2 (k := 0) (n := 0) rfl rfl (by decide)
   refine R_nil (N_DK (Kn.of' H hd5 (SubL.cons 3 Z (SubL.cons 4 Z SubL.nil))) ?_)
   refine RD_run [5] kR Z (RDs.cons Z ?_ RDs.nil)
   refine o_call call87 Z Z (l5All_c _ _ H.sub _ _ hr1' ) ?_
   rintro _ w26 ⟨G26, v26, _, g26, rfl, ⟨cs26, rfl, hchk26⟩, hp26, hq26, hs26⟩
   have H := H.growO g26 hp26 hq26 hs26; obtain ⟨av26, cv26, rfl⟩ := H.accShape (k := 0) rfl
   have hchk6 := hchk6.up g26.le
   have hj4 := hj4.trans g26.le
   have hd5 := hd5.trans g26.le
   refine ⟨_, Z, ?_⟩
   refine R_nil (N_DK (Kn.of' H hd5 (SubL.cons 4 Z (SubL.cons 5 Z SubL.nil))) (RD_t 7 Z kR Z (fun _ hK => v_build bf32 Z Z) ?_))
   refine RD_run [9] kR Z (RDs.cons Z ?_ RDs.nil)
   refine o_store_B 2 H sizeOf32 Z Z Z Z Z Z Z Z ?_; intro w27 H
   refine R_nil (N_DKlast kR kR ?_)
   obtain ⟨G539, H, hsg539, hsr539⟩ := H.shut' (k := 3) rfl hchk6 aN aN
   have hchk26 := hchk26.up hsg539
   have hj4 := hj4.trans hsg539
   obtain ⟨G540, H, hsg540, hsr540⟩ := H.shut' (k := 0) rfl hchk26 aN aN
   have hsr539 := hsr539.up hsg540
   have hj4 := hj4.trans hsg540
   have H := H.toFront (k := 3) rfl
   have H := H.toFront (k := 3) rfl
   have H := H.toFront (k := 3) rfl
   have H := H.toFront (k := 3) rfl
   exact N_J ⟨_, _, _, _, _, _, _, _, _, _, _, Z, hj4, H, ⟨hsr539, hsr540, (Chk.nil (E := snapE) (sz := 2) (G := G540)), Z⟩⟩
  ·skip
   refine o_buildSlice H underlying30 sizeOf58 (fun w => ⟨_, zeroValue58 w, Z⟩) Z Z Z Z Z Z Z ?_; intro b28 w28 hb28 H
   have H := H.blkAcc 2 (k := 0) (n := 0) rfl rfl (by decide)
   refine R_nil (N_DK (Kn.of' H hd5 (SubL.cons 1 Z (SubL.cons 2 Z SubL.nil))) ?_)
   refine RD_run [2, 8] kR Z (RDs.cons Z ?_ (RDs.cons Z ?_ RDs.nil))
   ·skip
    refine o_call call109 Z Z (l3Copy_c _ _ H.sub _ _ hr1 ) ?_
    rintro _ w29 ⟨G29, v29, _, g29, rfl, ⟨cs29, rfl, hchk29⟩, hp29, hq29, hs29⟩
    have H := H.growO g29 hp29 hq29 hs29; obtain ⟨av29, cv29, rfl⟩ := H.accShape (k := 0) rfl
    have hr1' := hr1'.up g29.le
    have hj4 := hj4.trans g29.le
    have hd5 := hd5.trans g29.le
    refine ⟨_, Z, ?_⟩
    refine R_nil (N_DK (Kn.of' H hd5 (SubL.cons 2 Z (SubL.cons 3 Z SubL.nil))) ?_)
    refine RD_run [5, 8] kR Z (RDs.cons Z ?_ (RDs.cons Z ?_ RDs.nil))
    ·skip
     refine o_call call87 Z Z (l5All_c _ _ H.sub _ _ hr1' ) ?_
     rintro _ w30 ⟨G30, v30, _, g30, rfl, ⟨cs30, rfl, hchk30⟩, hp30, hq30, hs30⟩
     have H := H.growO g30 hp30 hq30 hs30; obtain ⟨av30, cv30, rfl⟩ := H.accShape (k := 0) rfl
     have hchk29 := hchk29.up g30.le
     have hj4 := hj4.trans g30.le
     have hd5 := hd5.trans g30.le
     refine ⟨_, Z, ?_⟩
     refine R_nil (N_DK (Kn.of' H hd5 (SubL.cons 3 Z (SubL.cons 4 Z SubL.nil))) (RD_t 7 Z kR Z (fun _ hK => v_build bf32 Z Z) ?_))
     refine RD_run [8] kR Z (RDs.cons Z ?_ RDs.nil)
     refine o_alloc H zeroValue32 Z Z ?_; intro b31 w31 hb31 H
     refine R_nil (N_DK (Kn.of' H hd5 (SubL.cons 4 Z (SubL.cons 5 Z SubL.nil))) ?_)
     refine RD_run [9] kR Z (RDs.cons Z ?_ RDs.nil)
     refine o_store_B 0 H sizeOf32 Z Z Z Z Z Z Z Z ?_; intro w32 H
     refine R_nil (N_DKlast kR kR ?_)
     obtain ⟨G546, H, hsg546, hsr546⟩ := H.shut' (k := 2) rfl hchk29 aN aN
     have hchk30 := hchk30.up hsg546
     have hj4 := hj4.trans hsg546
     obtain ⟨G547, H, hsg547, hsr547⟩ := H.shut' (k := 1) rfl hchk30 aN aN
     have hsr546 := hsr546.up hsg547
     have hj4 := hj4.trans hsg547
     have H := H.toFront (k := 3) rfl
     have H := H.toFront (k := 3) rfl
     have H := H.toFront (k := 2) rfl
     have H := H.toFront (k := 3) rfl
     exact N_J ⟨_, _, _, _, _, _, _, _, _, _, _, Z, hj4, H, ⟨hsr546, hsr547, (Chk.nil (E := snapE) (sz := 2) (G := G547)), Z⟩⟩
    skip
    refine o_alloc H zeroValue32 Z Z ?_; intro b33 w33 hb33 H
    refine R_nil (N_DK (Kn.of' H hd5 (SubL.cons 3 Z (SubL.cons 4 Z SubL.nil))) ?_)
    refine RD_run [5] kR Z (RDs.cons Z ?_ RDs.nil)
    refine o_call call87 Z Z (l5All_c _ _ H.sub _ _ hr1' ) ?_
    rintro _ w34 ⟨G34, v34, _, g34, rfl, ⟨cs34, rfl, hchk34⟩, hp34, hq34, hs34⟩
    have H := H.growO g34 hp34 hq34 hs34; obtain ⟨av34, cv34, rfl⟩ := H.accShape (k := 0) rfl
    have hchk29 := hchk29.up g34.le
    have hj4 := hj4.trans g34.le
    have hd5 := hd5.trans g34.le
    refine ⟨_, Z, ?_⟩
    refine R_nil (N_DK (Kn.of' H hd5 (SubL.cons 4 Z (SubL.cons 5 Z SubL.nil))) (RD_t 7 Z kR Z (fun _ hK => v_build bf32 Z Z) ?_))
    refine RD_run [9] kR Z (RDs.cons Z ?_ RDs.nil)
    refine o_store_B 1 H sizeOf32 Z Z Z Z Z Z Z Z ?_; intro w35 H
    refine R_nil (N_DKlast kR kR ?_)
    obtain ⟨G551, H, hsg551, hsr551⟩ := H.shut' (k := 2) rfl hchk29 aN aN
    have hchk34 := hchk34.up hsg551
    have hj4 := hj4.trans hsg551
    obtain ⟨G552, H, hsg552, hsr552⟩ := H.shut' (k := 0) rfl hchk34 aN aN
    have hsr551 := hsr551.up hsg552
    have hj4 := hj4.trans hsg552
    have H := H.toFront (k := 3) rfl
    have H := H.toFront (k := 3) rfl
    have H := H.toFront (k := 2) rfl
    have H := H.toFront (k := 3) rfl
    exact N_J ⟨_, _, _, _, _, _, _, _, _, _, _, Z, hj4, H, ⟨hsr551, hsr552, (Chk.nil (E := snapE) (sz := 2) (G := G552)), Z⟩⟩
   skip
   refine o_alloc H zeroValue32 Z Z ?_; intro b36 w36 hb36 H
   refine R_nil (N_DK (Kn.of' H hd5 (SubL.cons 2 Z (SubL.cons 3 Z SubL.nil))) ?_)
   refine RD_run [2] kR Z (RDs.cons Z ?_ RDs.nil)
   refine o_call call109 Z Z (l3Copy_c _ _ H.sub _ _ hr1 ) ?_
   rintro _ w37 ⟨G37, v37, _, g37, rfl, ⟨cs37, rfl, hchk37⟩, hp37, hq37, hs37⟩
   have H := H.growO g37 hp37 hq37 hs37; obtain ⟨av37, cv37, rfl⟩ := H.accShape (k := 0) rfl
   have hr1' := hr1'.up g37.le
   have hj4 := hj4.trans g37.le
   have hd5 := hd5.trans g37.le
   refine ⟨_, Z, ?_⟩
   refine R_nil (N_DK (Kn.of' H hd5 (SubL.cons 3 Z (SubL.cons 4 Z SubL.nil))) ?_)
   refine RD_run [5] kR Z (RDs.cons Z ?_ RDs.nil)
   refine o_call call87 Z Z (l5All_c _ _ H.sub _ _ hr1' ) ?_
   rintro _ w38 ⟨G38, v38, _, g38, rfl, ⟨cs38, rfl, hchk38⟩, hp38, hq38, hs38⟩
   have H := H.growO g38 hp38 hq38 hs38; obtain ⟨av38, cv38, rfl⟩ := H.accShape (k := 0) rfl
   have hchk37 := hchk37.up g38.le
   have hj4 := hj4.trans g38.le
   have hd5 := hd5.trans g38.le
   refine ⟨_, Z, ?_⟩
   refine R_nil (N_DK (Kn.of' H hd5 (SubL.cons 4 Z (SubL.cons 5 Z SubL.nil))) (RD_t 7 Z kR Z (fun _ hK => v_build bf32 Z Z) ?_))
   refine RD_run [9] kR Z (RDs.cons Z ?_ RDs.nil)
   refine o_store_B 2 H sizeOf32 Z Z Z Z Z Z Z Z ?_; intro w39 H
   refine R_nil (N_DKlast kR kR ?_)
   obtain ⟨G557, H, hsg557, hsr557⟩ := H.shut' (k := 1) rfl hchk37 aN aN
   have hchk38 := hchk38.up hsg557
   have hj4 := hj4.trans hsg557
   obtain ⟨G558, H, hsg558, hsr558⟩ := H.shut' (k := 0) rfl hchk38 aN aN
   have hsr557 := hsr557.up hsg558
   have hj4 := hj4.trans hsg558
   have H := H.toFront (k := 3) rfl
   have H := H.toFront (k := 3) rfl
   have H := H.toFront (k := 2) rfl
   have H := H.toFront (k := 3) rfl
   exact N_J ⟨_, _, _, _, _, _, _, _, _, _, _, Z, hj4, H, ⟨hsr557, hsr558, (Chk.nil (E := snapE) (sz := 2) (G := G558)), Z⟩⟩
  skip
  refine o_alloc H zeroValue32 Z Z ?_; intro b40 w40 hb40 H
  refine R_nil (N_DK (Kn.of' H hd5 (SubL.cons 1 Z (SubL.cons 2 Z SubL.nil))) ?_)
  refine RD_run [2, 6] kR Z (RDs.cons Z ?_ (RDs.cons Z ?_ RDs.nil))
  ·skip
   refine o_call call109 Z Z (l3Copy_c _ _ H.sub _ _ hr1 ) ?_
   rintro _ w41 ⟨G41, v41, _, g41, rfl, ⟨cs41, rfl, hchk41⟩, hp41, hq41, hs41⟩
   have H := H.growO g41 hp41 hq41 hs41; obtain ⟨av41, cv41, rfl⟩ := H.accShape (k := 0) rfl
   have hr1' := hr1'.up g41.le
   have hj4 := hj4.trans g41.le
   have hd5 := hd5.trans g41.le
   refine ⟨_, Z, ?_⟩
   refine R_nil (N_DK (Kn.of' H hd5 (SubL.cons 2 Z (SubL.cons 3 Z SubL.nil))) ?_)
   refine RD_run [5, 6] kR Z (RDs.cons Z ?_ (RDs.cons Z ?_ RDs.nil))
   ·skip
    refine o_call call87 Z Z (l5All_c _ _ H.sub _ _ hr1' ) ?_
    rintro _ w42 ⟨G42, v42, _, g42, rfl, ⟨cs42, rfl, hchk42⟩, hp42, hq42, hs42⟩
    have H := H.growO g42 hp42 hq42 hs42; obtain ⟨av42, cv42, rfl⟩ := H.accShape (k := 0) rfl
    have hchk41 := hchk41.up g42.le
    have hj4 := hj4.trans g42.le
    have hd5 := hd5.trans g42.le
    refine ⟨_, Z, ?_⟩
    refine R_nil (N_DK (Kn.of' H hd5 (SubL.cons 3 Z (SubL.cons 4 Z SubL.nil))) ?_)
    refine RD_run [6] kR Z (RDs.cons Z ?_ RDs.nil)
    refine o_buildSlice H underlying30 sizeOf58 (fun w => ⟨_, zeroValue58 w, Z⟩) Z Z Z Z Z Z Z ?_; intro b43 w43 hb43 H
    have H := H.blkAcc 2 (k := 0) (n := 0) rfl rfl (by decide)
    refine R_nil (N_DK (Kn.of' H hd5 (SubL.cons 4 Z (SubL.cons 5 Z SubL.nil))) (RD_t 7 Z kR Z (fun _ hK => v_build bf32 Z Z) ?_))
    refine RD_run [9] kR Z (RDs.cons Z ?_ RDs.nil)
    refine o_store_B 3 H sizeOf32 Z Z Z Z Z Z Z Z ?_; intro w44 H
    refine R_nil (N_DKlast kR kR ?_)
    obtain ⟨G564, H, hsg564, hsr564⟩ := H.shut' (k := 2) rfl hchk41 aN aN
    have hchk42 := hchk42.up hsg564
    have hj4 := hj4.trans hsg564
    obtain ⟨G565, H, hsg565, hsr565⟩ := H.shut' (k := 1) rfl hchk42 aN aN
    have hsr564 := hsr564.up hsg565
    have hj4 := hj4.trans hsg565
    have H := H.toFront (k := 3) rfl
    have H := H.toFront (k := 3) rfl
    have H := H.toFront (k := 3) rfl
    have H := H.toFront (k := 3) rfl
    exact N_J ⟨_, _, _, _, _, _, _, _, _, _, _, Z, hj4, H, ⟨hsr564, hsr565, (Chk.nil (E := snapE) (sz := 2) (G := G565)), Z⟩⟩
   skip
   refine o_buildSlice H underlying30 sizeOf58 (fun w => ⟨_, zeroValue58 w, Z⟩) Z Z Z Z Z Z Z ?_; intro b45 w45 hb45 H
   have H := H.blkAcc 2 (k := 0) (n := 0) rfl rfl (by decide)
   refine R_nil (N_DK (Kn.of' H hd5 (SubL.cons 3 Z (SubL.cons 4 Z SubL.nil))) ?_)
   refine RD_run [5] kR Z (RDs.cons Z ?_ RDs.nil)
   refine o_call call87 Z Z (l5All_c _ _ H.sub _ _ hr1' ) ?_
   rintro _ w46 ⟨G46, v46, _, g46, rfl, ⟨cs46, rfl, hchk46⟩, hp46, hq46, hs46⟩
   have H := H.growO g46 hp46 hq46 hs46; obtain ⟨av46, cv46, rfl⟩ := H.accShape (k := 0) rfl
   have hchk41 := hchk41.up g46.le
   have hj4 := hj4.trans g46.le
   have hd5 := hd5.trans g46.le
   refine ⟨_, Z, ?_⟩
   refine R_nil (N_DK (Kn.of' H hd5 (SubL.cons 4 Z (SubL.cons 5 Z SubL.nil))) (RD_t 7 Z kR Z (fun _ hK => v_build bf32 Z Z) ?_))
   refine RD_run [9] kR Z (RDs.cons Z ?_ RDs.nil)
   refine o_store_B 3 H sizeOf32 Z Z Z Z Z Z Z Z ?_; intro w47 H
   refine R_nil (N_DKlast kR kR ?_)
   obtain ⟨G569, H, hsg569, hsr569⟩ := H.shut' (k := 2) rfl hchk41 aN aN
   have hchk46 := hchk46.up hsg569
   have hj4 := hj4.trans hsg569
   obtain ⟨G570, H, hsg570, hsr570⟩ := H.shut' (k := 0) rfl hchk46 aN aN
   have hsr569 := hsr569.up hsg570
   have hj4 := hj4.trans hsg570
   have H := H.toFront (k := 3) rfl
   have H := H.toFront (k := 3) rfl
   have H := H.toFront (k := 3) rfl
   have H := H.toFront (k := 3) rfl
   exact N_J ⟨_, _, _, _, _, _, _, _, _, _, _, Z, hj4, H, ⟨hsr569, hsr570, (Chk.nil (E := snapE) (sz := 2) (G := G570)), Z⟩⟩
  skip
  refine o_buildSlice H underlying30 sizeOf58 (fun w => ⟨_, zeroValue58 w, Z⟩) Z Z Z Z Z Z Z ?_; intro b48 w48 hb48 H
  have H := H.blkAcc 2 (k := 0) (n := 0) rfl rfl (by decide)
  refine R_nil (N_DK (Kn.of' H hd5 (SubL.cons 2 Z (SubL.cons 3 Z SubL.nil))) ?_)
  refine RD_run [2] kR Z (RDs.cons Z ?_ RDs.nil)
  refine o_call call109 Z Z (l3Copy_c _ _ H.sub _ _ hr1 ) ?_
  rintro _ w49 ⟨G49, v49, _, g49, rfl, ⟨cs49, rfl, hchk49⟩, hp49, hq49, hs49⟩
  have H := H.growO g49 hp49 hq49 hs49; obtain ⟨av49, cv49, rfl⟩ := H.accShape (k := 0) rfl
  have hr1' := hr1'.up g49.le
  have hj4 := hj4.trans g49.le
  have hd5 := hd5.trans g49.le
  refine ⟨_, Z, ?_⟩
  refine R_nil (N_DK (Kn.of' H hd5 (SubL.cons 3 Z (SubL.cons 4 Z SubL.nil))) ?_)
  refine RD_run [5] kR Z (RDs.cons Z ?_ RDs.nil)
  refine o_call call87 Z Z (l5All_c _ _ H.sub _ _ hr1' ) ?_
  rintro _ w50 ⟨G50, v50, _, g50, rfl, ⟨cs50, rfl, hchk50⟩, hp50, hq50, hs50⟩
  have H := H.growO g50 hp50 hq50 hs50; obtain ⟨av50, cv50, rfl⟩ := H.accShape (k := 0) rfl
  have hchk49 := hchk49.up g50.le
  have hj4 := hj4.trans g50.le
  have hd5 := hd5.trans g50.le
  refine ⟨_, Z, ?_⟩
  refine R_nil (N_DK (Kn.of' H hd5 (SubL.cons 4 Z (SubL.cons 5 Z SubL.nil))) (RD_t 7 Z kR Z (fun _ hK => v_build bf32 Z Z) ?_))
  refine RD_run [9] kR Z (RDs.cons Z ?_ RDs.nil)
  refine o_store_B 3 H sizeOf32 Z Z Z Z Z Z Z Z ?_; intro w51 H
  refine R_nil (N_DKlast kR kR ?_)
  obtain ⟨G575, H, hsg575, hsr575⟩ := H.shut' (k := 1) rfl hchk49 aN aN
  have hchk50 := hchk50.up hsg575
  have hj4 := hj4.trans hsg575
  obtain ⟨G576, H, hsg576, hsr576⟩ := H.shut' (k := 0) rfl hchk50 aN aN
  have hsr575 := hsr575.up hsg576
  have hj4 := hj4.trans hsg576
  have H := H.toFront (k := 3) rfl
  have H := H.toFront (k := 3) rfl
  have H := H.toFront (k := 3) rfl
  have H := H.toFront (k := 3) rfl
  exact N_J ⟨_, _, _, _, _, _, _, _, _, _, _, Z, hj4, H, ⟨hsr575, hsr576, (Chk.nil (E := snapE) (sz := 2) (G := G576)), Z⟩⟩
 rintro _ w4 ⟨jb, ja, jc, jm, jk, jn, jl, ve, ce, ne, G4, rfl, hle4, H, hinv4⟩
 subst hljb3
 subst hljb2
 have hr1'' := hr1''.up hle4
 obtain ⟨hja, hjb, hjc, rfl⟩ := hinv4; obtain ⟨ajx, cjx, rfl⟩ := H.accShape (k := 0) rfl
 refine W_seq (q2 (aG Z (q3 (W_block ?_))))
 obtain ⟨ln52, hln52, H⟩ := H.nameAt (k := 1) (off := 2) rfl rfl
 obtain ⟨ln53, hln53, H⟩ := H.name (k := 2) rfl
 obtain ⟨ln54, hln54, H⟩ := H.name (k := 3) rfl
 refine W_lp (hf := (Sub.cons (t := 1) Z (Sub.cons (t := 2) Z (Sub.cons (t := 3) Z Sub.nil)))) (J := fun M w m => ∃ (v : Value) (n : Nat) (cs : List Value) (xs : List (BSnap)) (k : Nat) (G : PH), M = [(4, .int .i64 (k : Int))] ∧ PLe G4 G ∧ Hp w0 G0 [] w G [acc 58 2 v n cs, blk jb (cl (setN ln52 2 v) 32), blk b3 (cl ln53 32), blk b2 (cl ln54 32)] ∧ (Chk snapE 2 G cs xs ∧ n = xs.length ∧ k ≤ d.snaps.length ∧ xs.length = k ∧ xs = d.snaps.take k) ∧ m = (d.snaps.length - k)) (h0 := ⟨_, _, _, [], 0, _, Z, PLe.refl _, H, ?inv, Z⟩) (round := ?round)
 case inv => exact ⟨hjc,  by first | rfl | simp | (simp; omega) | omega, (by simp)⟩
 case round =>
  rintro _ w55 _ ⟨v, n, cs, xs, k, G55, rfl, hle55, H, hinv55, rfl⟩
  subst hln52
  subst hln53
  subst hln54
  have hr1'' := hr1''.up hle55
  have hja := hja.up hle55
  have hjb := hjb.up hle55
  obtain ⟨hchk55_0, hn55_0, hinv55⟩ := hinv55
  obtain ⟨av55_0, cv55_0, rfl⟩ := H.accShape (k := 0) rfl
  obtain ⟨hk, hxl, hxs⟩ := hinv55
  refine W_seq (q2 (mV Z (o_fieldAddr 2 runUnderlying32 Z sizeOf30 Z Z Z (o_load_B 3 H isAgg30 Z Z Z Z (o_len_slice underlying30 Z Z (o_lss Z Z Z (q3 ?_)))))))
  refine W_cond Z ?_ ?_
  ·intro hc56
   try simp only [nrm] at hc56
   refine W_skip (N_K (W_seq (W_block (W_drawK [1, 2, 3] 20 H kR Z ?_)))); intro w57 H; have hd57 := PLe.refl G55
   refine RD_t 0 Z kR Z (fun _ hK => v_fieldAddr 2 runUnderlying32 Z sizeOf30 Z Z) (RD_t 1 Z kR Z (fun _ hK => v_load_B 0 hK isAgg30 Z Z Z) (RD_t 2 Z kR Z (fun _ hK => v_fieldAddr 2 runUnderlying32 Z sizeOf30 Z Z) (RD_t 3 Z kR Z (fun _ hK => v_load_B 2 hK isAgg30 Z Z Z) (vM 4 Z Z ?_))))
   have hl58 := hr1''.len
   obtain ⟨b58, o58, z58, q58, ha58, hz58, hq58, hE58, hrow58, _⟩ := hr1''.at (i := k) oM
   clear hq58
   obtain ⟨a58, m58, c58, rfl, hi58, hr58⟩ := hE58; have hy_hi58 : _ ≤ 16777216 := hi58; have hn_hr58 := hr58.len; have hx_hr58 : _ ≤ 1099511627776 := hr58.lim
   refine RD_t 5 Z kR Z (fun _ hK => v_index_P (i := k) ha58 underlying30 sizeOf58 Z Z Z oM) (RD_t 6 Z kR Z (fun _ hK => v_fieldAddr 0 runUnderlying58 Z sizeOf9 Z Z) (RD_t 7 Z kR Z (fun _ hK => v_load_P hK isAgg9 Z (hrow58 0 _ Z)) (RD_t 8 Z kR Z (fun _ hK => v_fieldAddr 2 runUnderlying32 Z sizeOf30 Z Z) (RD_t 9 Z kR Z (fun _ hK => v_load_B 2 hK isAgg30 Z Z Z) (vM 10 Z Z ?_)))))
   have hl59 := hr1''.len
   obtain ⟨b59, o59, z59, q59, ha59, hz59, hq59, hE59, hrow59, _⟩ := hr1''.at (i := k) oM
   clear hq59
   obtain ⟨a59, m59, c59, rfl, hi59, hr59⟩ := hE59; have hy_hi59 : _ ≤ 16777216 := hi59; have hn_hr59 := hr59.len; have hx_hr59 : _ ≤ 1099511627776 := hr59.lim
   have hzz59 : z58 = z59 := Option.some.inj (hz58.symm.trans hz59)
   subst hzz59
   refine RD_t 11 Z kR Z (fun _ hK => v_index_P (i := k) ha59 underlying30 sizeOf58 Z Z Z oM) (RD_t 12 Z kR Z (fun _ hK => v_fieldAddr 1 runUnderlying58 Z sizeOf29 Z Z) (RD_t 13 Z kR Z (fun _ hK => v_load_P hK isAgg29 Z (hrow59 1 _ Z)) ?_))
   refine RD_run [14] kR Z (RDs.cons Z ?_ RDs.nil)
   refine o_call call87 Z Z (l5All_c _ _ H.sub _ _ hr59 ) ?_
   rintro _ w60 ⟨G60, v60, _, g60, rfl, ⟨cs60, rfl, hchk60⟩, hp60, hq60, hs60⟩
   have H := H.growO g60 hp60 hq60 hs60; obtain ⟨av60, cv60, rfl⟩ := H.accShape (k := 0) rfl
   have hchk55_0 := hchk55_0.up g60.le
   have hle55 := hle55.trans g60.le
   have hd57 := hd57.trans g60.le
   refine ⟨_, Z, ?_⟩
   refine R_nil (N_DK (Kn.of' H hd57 (SubL.cons 2 Z (SubL.cons 3 Z (SubL.cons 4 Z SubL.nil)))) (RD_t 15 Z kR Z (fun _ hK => v_build bf58 Z Z) ?_))
   refine RD_run [16] kR Z (RDs.cons Z ?_ RDs.nil)
   refine o_buildSlice H underlying30 sizeOf58 (fun w => ⟨_, zeroValue58 w, Z⟩) Z Z Z Z Z Z Z ?_; intro b61 w61 hb61 H
   refine R_nil (N_DK (Kn.of' H hd57 (SubL.cons 3 Z (SubL.cons 4 Z (SubL.cons 5 Z SubL.nil)))) ?_)
   refine RD_run [17] kR Z (RDs.cons Z ?_ RDs.nil)
   refine o_append1 1 H (sz := 2) (bytes := 40) underlying30 typeInfo58 ⟨_, Z, Z⟩ Z Z Z Z Z Z Z Z Z Z oM Z ?_; intro v62 w62 H
   obtain ⟨G63, H, hsg63, hsr63⟩ := H.shut' (k := 0) rfl hchk60 aN aN
   have hchk55_0 := hchk55_0.up hsg63
   have hle55 := hle55.trans hsg63
   have hd57 := hd57.trans hsg63
   have hchk62 := hchk55_0.snoc (show snapE _ ⟨z58.name, z58.tree⟩ _ from ⟨_, _, _, rfl, hi58, hsr63⟩) rfl
   obtain ⟨av62, cv62, rfl⟩ := H.accShape (k := 0) rfl
   refine R_nil (N_DK (Kn.of' H hd57 (SubL.cons 1 Z (SubL.cons 2 Z (SubL.cons 3 Z SubL.nil)))) (RD_t 18 Z kR Z (fun _ hK => v_fieldAddr 2 runUnderlying32 Z sizeOf30 Z Z) ?_))
   refine RD_run [19] kR Z (RDs.cons Z ?_ RDs.nil)
   refine o_store_B 1 H sizeOf30 Z Z Z Z Z Z Z Z ?_; intro w64 H
   refine R_nil (N_DKlast kR kR (N_B (N_K (W_region (mV Z (o_add Z Z Z oO (aG Z (R_nil ?_))))))))
   refine N_lp (hJ := ⟨_, _, _, (xs ++ [⟨z58.name, z58.tree⟩]), k + 1, _, Z, hle55, H, ?inv, Z⟩) (hm := ?hm)
   case hm => omega
   case inv => exact ⟨hchk62, aN, (by exact ⟨by omega, by simp [hxl], by rw [Sp.take_succ' hz58, hxs]⟩)⟩
  intro hc56'
  try simp only [nrm] at hc56'
  refine W_exit (N_K_exit (N_LP_exit (N_B_same (N_K (q2 (o_loadagg_B 1 H isAgg32 sizeOf32 Z Z Z Z Z (o_store_B 2 H sizeOf32 Z Z Z Z Z Z Z Z ?_))))))); intro w66 H
  refine q3 (W_ret (ret_gen (rs := [.cell 2 32]) (vs := [_]) results54 ⟨⟨_, Z, load_blk 2 H isAgg32 sizeOf32 Z Z Z⟩, trivial⟩ ?_))
  obtain rfl : k = d.snaps.length := by omega
  rw [List.take_length] at hxs
  subst hxs
  exact H.retO (k := 0) Z ⟨_, _, _, Z, AccOf.mk aN hchk55_0, hja, hjb⟩ (acc_nd _ _ _ _ _)
end Go.Proofs.Tst

namespace Go.Proofs.Tst
open Go Fw Tryz
theorem DiskWrite_c (w0 : World) (G0 : PH) (hG : PSub G0 w0) (cd : List Value) (d : BDisk) (hd : diskE G0 d cd) (path : Bs) (hpath : path.length ≤ 16777216) (vbytes : Value) (bytes : List (Int)) (hbytes : RdI G0 vbytes bytes)  :
  Calls Tryz.prog 47 #[.agg cd.toArray, str path, vbytes] w0 (RetO w0 G0 (fun G val r => ∃ u u1 u2, val = .tuple #[.agg #[u, u1, u2], .bool (Sp.DiskWrite d path bytes).isSome] ∧ AccOf snapE 2 58 (((Sp.DiskWrite d path bytes).map (·.snaps)).getD []) G u2 r ∧ RdH G u (((Sp.DiskWrite d path bytes).map (·.store)).getD []) ∧ RdItems G u1 (((Sp.DiskWrite d path bytes).map (·.tree)).getD []))) := by
 obtain ⟨a1, m1, c1, a1', m1', c1', a1'', m1'', c1'', rfl, hr1, hr1', hr1''⟩ := hd; have hn_hr1 := hr1.len; have hx_hr1 : _ ≤ 1099511627776 := hr1.lim; have hn_hr1q := hr1'.len; have hx_hr1q : _ ≤ 1099511627776 := hr1'.lim; have hn_hr1qq := hr1''.len; have hx_hr1qq : _ ≤ 1099511627776 := hr1''.lim
 obtain ⟨abytes, kbytes, rfl⟩ := hbytes.shape
 have hlimbytes : bytes.length ≤ 1099511627776 := hbytes.lim
 have H := Hp.init hG
 refine calls_of_W (l := [_, str path, .slice abytes bytes.length kbytes]) func47 Z ntmps47 Z (q2 (o_box H Z Z Z ?_)); intro b2 w2 hb2 H
 refine o_alloc H zeroValue32 Z Z ?_; intro b3 w3 hb3 H
 refine aG Z (q3 (W_seq (q2 (o_loadagg_B 1 H isAgg32 sizeOf32 Z Z Z Z Z (o_call call53 Z Z (DiskValid_c _ _ H.sub _ d ⟨_, _, _, _, _, _, _, _, _, Z, hr1, hr1', hr1''⟩ ) ?_)))))
 rintro _ w4 ⟨rfl, ew4⟩; have H := H.step ew4; refine ⟨_, rfl, ?_⟩
 refine o_not Z Z (mV Z ?_)
 refine R_case (t := 14) Z ?_ ?_
 ·intro hc5
  try simp only [nrm] at hc5
  refine rP Z (rP Z (rP Z (o_pick_t Z Z Z (q3 (W_true Z (q2 (o_build bf32 Z Z Z (o_store_B 0 H sizeOf32 Z Z Z Z Z Z Z Z ?_)))))))); intro w6 H
  refine aG Z (q3 (W_ret (N_K_ret (ret_gen (rs := [.cell 6 32, .tmp 7]) (vs := [_, _]) results47 ⟨⟨_, Z, load_blk 0 H isAgg32 sizeOf32 Z Z Z⟩, Z, trivial⟩ ?_))))
  have hN : Sp.DiskWrite d path bytes = none := by simp [Sp.DiskWrite, hc5]
  have H := H.addNil 58 2
  exact H.retO (k := 0) rfl (by rw [hN]; exact ⟨_, _, _, rfl, AccOf.mk rfl Chk.nil, RdS.nil _ _ _, RdS.nil _ _ _⟩) (acc_nd _ _ _ _ _)
 intro hc5'
 try simp only [nrm] at hc5'
 refine gR Z (mV Z (gR Z (o_call call72 Z Z (FileValid_c _ _ H.sub _ _ hbytes ) ?_)))
 rintro _ w7 ⟨rfl, ew7⟩; have H := H.step ew7; refine ⟨_, rfl, ?_⟩
 refine gR Z (o_not Z Z (o_pick_f Z Z Z (q3 ?_)))
 refine W_cond Z ?_ ?_
 ·intro hc8
  try simp only [nrm] at hc8
  refine q2 (o_build bf32 Z Z Z (o_store_B 0 H sizeOf32 Z Z Z Z Z Z Z Z ?_)); intro w9 H
  refine aG Z (q3 (W_ret (N_K_ret (ret_gen (rs := [.cell 6 32, .tmp 7]) (vs := [_, _]) results47 ⟨⟨_, Z, load_blk 0 H isAgg32 sizeOf32 Z Z Z⟩, Z, trivial⟩ ?_))))
  have hN : Sp.DiskWrite d path bytes = none := by simp [Sp.DiskWrite, hc8]
  have H := H.addNil 58 2
  exact H.retO (k := 0) rfl (by rw [hN]; exact ⟨_, _, _, rfl, AccOf.mk rfl Chk.nil, RdS.nil _ _ _, RdS.nil _ _ _⟩) (acc_nd _ _ _ _ _)
 intro hc8'
 try simp only [nrm] at hc8'
 have hfl := Sp.file_len hc8'
 refine W_skip (N_K (q2 (o_fieldAddr 0 runUnderlying32 Z sizeOf28 Z Z Z (o_load_B 1 H isAgg28 Z Z Z Z (o_fieldAddr 1 runUnderlying32 Z sizeOf29 Z Z Z (o_load_B 1 H isAgg29 Z Z Z Z (o_build bf44 Z Z Z (mV Z (mV Z (o_call call73 Z Z (l11Write_c _ _ H.sub _ ⟨d.store, d.tree⟩ ⟨_, _, _, _, _, _, Z, hr1, hr1'⟩ _ hpath _ _ hbytes oM) ?_))))))))))
 rintro _ w10 ⟨G10, _, _, g10, rfl, ⟨u10_0, u10_1, rfl, ⟨cs10, rfl, hchk10⟩, hr10_1⟩, hp10, hq10, hs10⟩
 have H := H.growO g10 hp10 hq10 hs10; obtain ⟨av10, cv10, rfl⟩ := H.accShape (k := 0) rfl
 have hr1 := hr1.up g10.le
 have hr1' := hr1'.up g10.le
 have hr1'' := hr1''.up g10.le
 obtain ⟨a10_1, k10_1, rfl⟩ := hr10_1.shape; have hx_hr10_1 : _ ≤ 1099511627776 := hr10_1.lim
 refine ⟨_, Z, ?_⟩
 have hwl := Sp.l11Write_slen ⟨d.store, d.tree⟩ path bytes
 refine mV Z (o_extract Z Z Z (o_extract Z Z Z (o_alloc H zeroValue44 Z Z ?_))); intro b11 w11 hb11 H
 refine o_store_B 0 H sizeOf44 Z Z Z Z Z Z Z Z ?_; intro w12 H
 refine aG Z (q3 (W_seq (q2 (mV Z (o_not Z Z (q3 ?_))))))
 refine W_cond Z ?_ ?_
 ·intro hc13
  try simp only [nrm] at hc13
  refine q2 (o_build bf32 Z Z Z (o_store_B 2 H sizeOf32 Z Z Z Z Z Z Z Z ?_)); intro w14 H
  refine aG Z (q3 (W_ret (N_K_ret (ret_gen (rs := [.cell 6 32, .tmp 7]) (vs := [_, _]) results47 ⟨⟨_, Z, load_blk 2 H isAgg32 sizeOf32 Z Z Z⟩, Z, trivial⟩ ?_))))
  have hN : Sp.DiskWrite d path bytes = none := by (have hno : Sp.l11Write ⟨d.store, d.tree⟩ path bytes = none := by simpa using hc13); simp [Sp.DiskWrite, hno]
  have H := H.addNil 58 2
  exact H.retO (k := 0) rfl (by rw [hN]; exact ⟨_, _, _, rfl, AccOf.mk rfl Chk.nil, RdS.nil _ _ _, RdS.nil _ _ _⟩) (acc_nd _ _ _ _ _)
 intro hc13'
 try simp only [nrm] at hc13'
 refine W_skip (N_K (q2 (o_loadagg_B 3 H isAgg32 sizeOf32 Z Z Z Z Z (o_call call54 Z Z (l12Copy_c _ _ H.sub _ d ⟨_, _, _, _, _, _, _, _, _, Z, hr1, hr1', hr1''⟩ ) ?_))))
 rintro _ w15 ⟨G15, _, _, g15, rfl, ⟨u15_0, u15_1, u15_2, rfl, ⟨cs15, rfl, hchk15⟩, hr15_0, hr15_1⟩, hp15, hq15, hs15⟩
 have H := H.growO g15 hp15 hq15 hs15; obtain ⟨av15, cv15, rfl⟩ := H.accShape (k := 0) rfl
 have hchk10 := hchk10.up g15.le
 have hr10_1 := hr10_1.up g15.le
 obtain ⟨a15_0, k15_0, rfl⟩ := hr15_0.shape; have hx_hr15_0 : _ ≤ 1099511627776 := hr15_0.lim
 obtain ⟨a15_1, k15_1, rfl⟩ := hr15_1.shape; have hx_hr15_1 : _ ≤ 1099511627776 := hr15_1.lim
 refine ⟨_, Z, ?_⟩
 refine o_alloc H zeroValue32 Z Z ?_; intro b16 w16 hb16 H
 refine o_store_B 0 H sizeOf32 Z Z Z Z Z Z Z Z ?_; intro w17 H
 refine q1 (o_fieldAddr 0 runUnderlying44 Z sizeOf28 Z Z Z (o_load_B 2 H isAgg28 Z Z Z Z (o_fieldAddr 0 runUnderlying32 Z sizeOf28 Z Z Z (o_store_B 0 H sizeOf28 Z Z Z Z Z Z Z Z ?_)))); intro w18 H
 refine q1 (o_fieldAddr 1 runUnderlying44 Z sizeOf29 Z Z Z (o_load_B 2 H isAgg29 Z Z Z Z (o_fieldAddr 1 runUnderlying32 Z sizeOf29 Z Z Z (o_store_B 0 H sizeOf29 Z Z Z Z Z Z Z Z ?_)))); intro w19 H
 refine q1 (o_loadagg_B 0 H isAgg32 sizeOf32 Z Z Z Z Z (o_store_B 4 H sizeOf32 Z Z Z Z Z Z Z Z ?_)); intro w20 H
 refine aG Z (q3 (W_ret (ret_gen (rs := [.cell 6 32, .tmp 7]) (vs := [_, _]) results47 ⟨⟨_, Z, load_blk 4 H isAgg32 sizeOf32 Z Z Z⟩, Z, trivial⟩ ?_)))
 obtain ⟨G525, H, hsg525, hsr525⟩ := H.shut' (k := 3) rfl hchk10 aN aN
 have hr10_1 := hr10_1.up hsg525
 have hchk15 := hchk15.up hsg525
 have hY : Sp.DiskWrite d path bytes = some ⟨((Sp.l11Write ⟨d.store, d.tree⟩ path bytes).map (·.store)).getD [], ((Sp.l11Write ⟨d.store, d.tree⟩ path bytes).map (·.tree)).getD [], d.snaps⟩ := by (obtain ⟨p, hp⟩ := Option.isSome_iff_exists.1 hc13'); simp [Sp.DiskWrite, hc5', hc8', hp]
 exact H.retO (k := 1) rfl (by rw [hY]; exact ⟨_, _, _, rfl, AccOf.mk aN hchk15, hsr525, hr10_1⟩) (acc_nd _ _ _ _ _)
end Go.Proofs.Tst

namespace Go.Proofs.Tst
open Go Fw Tryz
theorem DiskWriteP_c (w0 : World) (G0 : PH) (hG : PSub G0 w0) (cd : List Value) (d : BDisk) (hd : diskE G0 d cd) (path : Bs) (hpath : path.length ≤ 16777216) (vbytes : Value) (bytes : List Int) (hbytes : RdI G0 vbytes bytes) :
  Calls Tryz.prog 47 #[.agg cd.toArray, str path, vbytes] w0 (RetP w0 G0 (fun G val => ∃ cs, val = .tuple #[.agg cs.toArray, .bool (Sp.DiskWrite d path bytes).isSome] ∧ diskE G ((Sp.DiskWrite d path bytes).getD ⟨[], [], []⟩) cs)) := by
 refine (DiskWrite_c w0 G0 hG cd d hd path hpath vbytes bytes hbytes).mono ?_
 rintro _ w' ⟨G, v, r, g, rfl, ⟨u, u1, u2, rfl, ⟨cells, rfl, hchk⟩, h1, h2⟩, hp, hq, hs⟩
 have H := (Hp.init hG).growO g hp hq hs
 have hb : (((Sp.DiskWrite d path bytes).map (·.snaps)).getD []).length ≤ 6 := Sp.dk_lim (fun d1 h => Sp.dwrite_valid h)
 obtain ⟨G2, H2, hle, hr⟩ := H.shut' (k := 0) rfl hchk rfl oM
 have e1 : ((Sp.DiskWrite d path bytes).map (·.store)).getD [] = ((Sp.DiskWrite d path bytes).getD ⟨[], [], []⟩).store := by cases Sp.DiskWrite d path bytes <;> rfl
 have e2 : ((Sp.DiskWrite d path bytes).map (·.tree)).getD [] = ((Sp.DiskWrite d path bytes).getD ⟨[], [], []⟩).tree := by cases Sp.DiskWrite d path bytes <;> rfl
 have e3 : ((Sp.DiskWrite d path bytes).map (·.snaps)).getD [] = ((Sp.DiskWrite d path bytes).getD ⟨[], [], []⟩).snaps := by cases Sp.DiskWrite d path bytes <;> rfl
 rw [e1] at h1; rw [e2] at h2; rw [e3] at hr
 obtain ⟨a1, c1, rfl⟩ := h1.shape
 obtain ⟨a2, c2, rfl⟩ := h2.shape
 obtain ⟨a3, c3, rfl⟩ := hr.shape
 exact H2.retP ⟨[_, _, _], Z, _, _, _, _, _, _, _, _, _, Z, h1.up hle, h2.up hle, hr⟩
end Go.Proofs.Tst

namespace Go.Proofs.Tst
open Go Fw Tryz
theorem xDiskWrite_c (w0 : World) (G0 : PH) (hG : PSub G0 w0) (caD : List Value) (aD : BDisk) (haD : diskE G0 aD caD) (aPath : Bs) (haPath : aPath.length ≤ 16777216) (vaBytes : Value) (aBytes : List (Int)) (haBytes : RdI G0 vaBytes aBytes)  :
  Calls Tryz.prog 14 #[.agg caD.toArray, str aPath, vaBytes] w0 (Rets w0 (.bool true)) := by
 obtain ⟨a1, m1, c1, a1', m1', c1', a1'', m1'', c1'', rfl, hr1, hr1', hr1''⟩ := haD; have hn_hr1 := hr1.len; have hx_hr1 : _ ≤ 1099511627776 := hr1.lim; have hn_hr1q := hr1'.len; have hx_hr1q : _ ≤ 1099511627776 := hr1'.lim; have hn_hr1qq := hr1''.len; have hx_hr1qq : _ ≤ 1099511627776 := hr1''.lim
 obtain ⟨aaBytes, kaBytes, rfl⟩ := haBytes.shape
 have hlimaBytes : aBytes.length ≤ 1099511627776 := haBytes.lim
 have hcd0 := cDisk_le aD
 have hcD : cDisk ((Sp.DiskWrite aD aPath aBytes).getD ⟨[], [], []⟩) ≤ 700 := dk_cnt (fun d1 h => Sp.dwrite_valid h)
 have hci := cnt_ints aBytes
 have H := Hp.init hG
 refine calls_of_W (l := [_, str aPath, .slice aaBytes aBytes.length kaBytes]) func14 Z ntmps14 Z (q2 (o_box H Z Z Z ?_)); intro b2 w2 hb2 H
 refine aG Z (q3 (W_seq (q2 (mV Z (o_len_str underlying9 Z Z (o_gtr Z Z Z (q3 ?_)))))))
 refine W_cond Z ?_ ?_
 ·intro hc3
  try simp only [nrm] at hc3
  refine q2 (aG Z (q3 (W_ret (N_K_ret (rt1 results14 Z ?_)))))
  exact H.rets Z
 intro hc3'
 try simp only [nrm] at hc3'
 refine W_skip (N_K (W_seq (q2 (mV Z (o_len_slice underlying41 Z Z (o_gtr Z Z Z (q3 ?_)))))))
 refine W_cond Z ?_ ?_
 ·intro hc4
  try simp only [nrm] at hc4
  refine q2 (aG Z (q3 (W_ret (N_K_ret (rt1 results14 Z ?_)))))
  exact H.rets Z
 intro hc4'
 try simp only [nrm] at hc4'
 refine W_skip (N_K (q2 (aG Z (q1 (o_loadagg_B 0 H isAgg26 sizeOf26 Z Z Z Z Z (mV Z (o_call call15 Z Z (w_szDisk_c _ _ H.sub _ aD ⟨_, _, _, _, _, _, _, _, _, Z, hr1, hr1', hr1''⟩ _ oO) ?_)))))))
 rintro _ w5 ⟨_, rfl, ew5, ⟨r5, rfl, hra5⟩⟩
 skip
 have H := H.step ew5; refine ⟨_, rfl, ?_⟩
 refine aG Z (q3 (W_seq (q2 (mV Z (o_lss Z Z Z (q3 ?_))))))
 refine W_cond Z ?_ ?_
 ·intro hc6
  try simp only [nrm] at hc6
  refine q2 (aG Z (q3 (W_ret (N_K_ret (rt1 results14 Z ?_)))))
  exact H.rets Z
 intro hc6'
 try simp only [nrm] at hc6'
 refine W_skip (N_K (q2 (o_loadagg_B 0 H isAgg26 sizeOf26 Z Z Z Z Z (o_call call17 Z Z (w_toDisk_c _ _ H.sub _ aD ⟨_, _, _, _, _, _, _, _, _, Z, hr1, hr1', hr1''⟩ ) ?_))))
 rintro _ w7 ⟨_, _, rfl, H7', ⟨u17, u27, u37, D17, D27, D37, rfl, rfl, ho17, ho27, ho37⟩⟩
 have H := H.readers (fp := []) (by simp) (PLe.refl _) H7'
 obtain ⟨x17, p17⟩ := ho17
 obtain ⟨a17, c17, rfl⟩ := OwnS.shape p17
 obtain ⟨x27, p27⟩ := ho27
 obtain ⟨a27, c27, rfl⟩ := OwnS.shape p27
 obtain ⟨x37, p37⟩ := ho37
 obtain ⟨a37, c37, rfl⟩ := OwnS.shape p37
 refine ⟨_, Z, ?_⟩
 refine mV Z (mV Z (o_call call25 Z Z (w_toIntS_c _ _ H.sub _ _ haBytes ) ?_))
 rintro _ w8 ⟨G8, v8, _, g8, rfl, ⟨cs8, rfl, hchk8⟩, hp8, hq8, hs8⟩
 have H := H.growO g8 hp8 hq8 hs8; obtain ⟨av8, cv8, rfl⟩ := H.accShape (k := 0) rfl
 have hr1 := hr1.up g8.le
 have hr1' := hr1'.up g8.le
 have hr1'' := hr1''.up g8.le
 have haBytes := haBytes.up g8.le
 refine ⟨_, Z, ?_⟩
 have hnd10 := dm_nodup H (k := 1) rfl; obtain ⟨G10, H, hsg10, hsf10⟩ := H.keepF (k := 1) rfl (by simp); have hsr10 := (show OHs _ _ _ from ⟨_, p17⟩).rd hsf10 hnd10
 have hr1 := hr1.up hsg10
 have hr1' := hr1'.up hsg10
 have hr1'' := hr1''.up hsg10
 have haBytes := haBytes.up hsg10
 have hchk8 := hchk8.up hsg10
 have hnd11 := dm_nodup H (k := 1) rfl; obtain ⟨G11, H, hsg11, hsf11⟩ := H.keepF (k := 1) rfl (by simp); have hsr11 := (show OIs _ _ _ from ⟨_, p27⟩).rd hsf11 hnd11
 have hr1 := hr1.up hsg11
 have hr1' := hr1'.up hsg11
 have hr1'' := hr1''.up hsg11
 have haBytes := haBytes.up hsg11
 have hchk8 := hchk8.up hsg11
 have hsr10 := hsr10.up hsg11
 have hnd12 := dm_nodup H (k := 1) rfl; obtain ⟨G12, H, hsg12, hsf12⟩ := H.keepF (k := 1) rfl (by simp); have hsr12 := (show OSn _ _ _ from ⟨_, p37⟩).rd hsf12 hnd12
 have hr1 := hr1.up hsg12
 have hr1' := hr1'.up hsg12
 have hr1'' := hr1''.up hsg12
 have haBytes := haBytes.up hsg12
 have hchk8 := hchk8.up hsg12
 have hsr10 := hsr10.up hsg12
 have hsr11 := hsr11.up hsg12
 obtain ⟨G13, H, hsg13, hsr13⟩ := H.shut' (k := 0) rfl hchk8 aN aN
 have hr1 := hr1.up hsg13
 have hr1' := hr1'.up hsg13
 have hr1'' := hr1''.up hsg13
 have haBytes := haBytes.up hsg13
 have hsr10 := hsr10.up hsg13
 have hsr11 := hsr11.up hsg13
 have hsr12 := hsr12.up hsg13
 refine o_call call47 Z Z (DiskWriteP_c _ _ H.sub _ aD ⟨_, _, _, _, _, _, _, _, _, Z, hsr10, hsr11, hsr12⟩ _ haPath _ _ hsr13 ) ?_
 rintro _ w9 ⟨G9, _, g9, rfl, u9_0, rfl, hr9_0⟩
 have H := H.grow g9
 have hr1 := hr1.up g9.le
 have hr1' := hr1'.up g9.le
 have hr1'' := hr1''.up g9.le
 have haBytes := haBytes.up g9.le
 obtain ⟨a14, m14, c14, a14', m14', c14', a14'', m14'', c14'', rfl, hr14, hr14', hr14''⟩ := hr9_0; have hn_hr14 := hr14.len; have hx_hr14 : _ ≤ 1099511627776 := hr14.lim; have hn_hr14q := hr14'.len; have hx_hr14q : _ ≤ 1099511627776 := hr14'.lim; have hn_hr14qq := hr14''.len; have hx_hr14qq : _ ≤ 1099511627776 := hr14''.lim
 refine ⟨_, Z, ?_⟩
 refine mV Z (o_extract Z Z Z (o_extract Z Z Z (o_alloc H zeroValue32 Z Z ?_))); intro b15 w15 hb15 H
 refine o_store_B 0 H sizeOf32 Z Z Z Z Z Z Z Z ?_; intro w16 H
 refine aG Z (q1 (o_loadagg_B 1 H isAgg26 sizeOf26 Z Z Z Z Z (o_call call17 Z Z (w_toDisk_c _ _ H.sub _ aD ⟨_, _, _, _, _, _, _, _, _, Z, hr1, hr1', hr1''⟩ ) ?_)))
 rintro _ w17 ⟨_, _, rfl, H17', ⟨u117, u217, u317, D117, D217, D317, rfl, rfl, ho117, ho217, ho317⟩⟩
 have H := H.readers (fp := []) (by simp) (PLe.refl _) H17'
 obtain ⟨x117, p117⟩ := ho117
 obtain ⟨a117, c117, rfl⟩ := OwnS.shape p117
 obtain ⟨x217, p217⟩ := ho217
 obtain ⟨a217, c217, rfl⟩ := OwnS.shape p217
 obtain ⟨x317, p317⟩ := ho317
 obtain ⟨a317, c317, rfl⟩ := OwnS.shape p317
 refine ⟨_, Z, ?_⟩
 refine o_alloc H zeroValue32 Z Z ?_; intro b18 w18 hb18 H
 refine o_store_B 0 H sizeOf32 Z Z Z Z Z Z Z Z ?_; intro w19 H
 refine q1 (mV Z (o_call call25 Z Z (w_toIntS_c _ _ H.sub _ _ haBytes ) ?_))
 rintro _ w20 ⟨G20, v20, _, g20, rfl, ⟨cs20, rfl, hchk20⟩, hp20, hq20, hs20⟩
 have H := H.growO g20 hp20 hq20 hs20; obtain ⟨av20, cv20, rfl⟩ := H.accShape (k := 0) rfl
 have hr1 := hr1.up g20.le
 have hr1' := hr1'.up g20.le
 have hr1'' := hr1''.up g20.le
 have haBytes := haBytes.up g20.le
 have hr14 := hr14.up g20.le
 have hr14' := hr14'.up g20.le
 have hr14'' := hr14''.up g20.le
 refine ⟨_, Z, ?_⟩
 refine aG Z (q1 (o_loadagg_B 1 H isAgg32 sizeOf32 Z Z Z Z Z (mV Z (mV Z (o_call call46 Z Z (i_DiskWrite_c _ _ (H.lendSubL [0, 2, 3, 4]) _ aD ⟨_, _, _, _, _, _, _, _, _, Z, (H.lendOHs (k := 2) (ks := [0, 2, 3, 4]) Z Z ⟨_, p117⟩), (H.lendOIs (k := 3) (ks := [0, 2, 3, 4]) Z Z ⟨_, p217⟩), (H.lendOSn (k := 4) (ks := [0, 2, 3, 4]) Z Z ⟨_, p317⟩)⟩ _ haPath _ _ (H.lendRdL (k := 0) (ks := [0, 2, 3, 4]) Z Z hchk20 aN aN) ) ?_)))))
 rintro _ w21 ⟨_, _, rfl, H21', ⟨u121, u221, u321, E121, E221, E321, rfl, rfl, ho121, ho221, ho321⟩⟩
 have H := H.readersL H21'
 obtain ⟨x121, p121⟩ := ho121
 obtain ⟨a121, c121, rfl⟩ := OwnS.shape p121
 obtain ⟨x221, p221⟩ := ho221
 obtain ⟨a221, c221, rfl⟩ := OwnS.shape p221
 obtain ⟨x321, p321⟩ := ho321
 obtain ⟨a321, c321, rfl⟩ := OwnS.shape p321
 refine ⟨_, Z, ?_⟩
 refine mV Z (o_extract Z Z Z (o_extract Z Z Z (o_alloc H zeroValue32 Z Z ?_))); intro b22 w22 hb22 H
 refine o_store_B 0 H sizeOf32 Z Z Z Z Z Z Z Z ?_; intro w23 H
 refine aG Z (q3 (W_seq (q2 (o_loadagg_B 0 H isAgg32 sizeOf32 Z Z Z Z Z (o_loadagg_B 9 H isAgg32 sizeOf32 Z Z Z Z Z (o_call call19 Z Z (w_eqDisk_c _ _ (H.lendSubL [1, 2, 3]) _ ((Sp.DiskWrite aD aPath aBytes).getD ⟨[], [], []⟩) ⟨_, _, _, _, _, _, _, _, _, Z, (H.lendOHs (k := 1) (ks := [1, 2, 3]) Z Z ⟨_, p121⟩), (H.lendOIs (k := 2) (ks := [1, 2, 3]) Z Z ⟨_, p221⟩), (H.lendOSn (k := 3) (ks := [1, 2, 3]) Z Z ⟨_, p321⟩)⟩ _ ((Sp.DiskWrite aD aPath aBytes).getD ⟨[], [], []⟩) ⟨_, _, _, _, _, _, _, _, _, Z, (hr14.up (PPlus.le _ _ _)), (hr14'.up (PPlus.le _ _ _)), (hr14''.up (PPlus.le _ _ _))⟩ Z) ?_))))))
 rintro _ w24 ⟨rfl, ew24⟩; have H := H.step ew24; refine ⟨_, rfl, ?_⟩
 refine o_not Z Z (mV Z (gR Z (mV Z (gR Z (mV Z (gR Z (o_bneq_same underlying4 Z Z Z (o_pick_f Z Z Z (q3 (W_false Z (W_skip (N_K (W_seq (W_seq (W_drawK [0, 5, 9, 10] 5 H kR Z ?_))))))))))))))); intro w25 H; have hd25 := PLe.refl G20
 refine RD_t 0 Z kR Z (fun _ hK => v_loadagg_B 1 hK isAgg32 sizeOf32 Z Z Z Z) (RD_t 1 Z kR Z (fun _ hK => v_loadagg_B 3 hK isAgg26 sizeOf26 Z Z Z Z) ?_)
 refine RD_run [2] kR Z (RDs.cons Z ?_ RDs.nil)
 refine o_call call17 Z Z (w_toDisk_c _ _ H.sub _ aD ⟨_, _, _, _, _, _, _, _, _, Z, hr1, hr1', hr1''⟩ ) ?_
 rintro _ w26 ⟨_, _, rfl, H26', ⟨u126, u226, u326, D126, D226, D326, rfl, rfl, ho126, ho226, ho326⟩⟩
 have H := H.readers (fp := []) (by simp) (PLe.refl _) H26'
 obtain ⟨x126, p126⟩ := ho126
 obtain ⟨a126, c126, rfl⟩ := OwnS.shape p126
 obtain ⟨x226, p226⟩ := ho226
 obtain ⟨a226, c226, rfl⟩ := OwnS.shape p226
 obtain ⟨x326, p326⟩ := ho326
 obtain ⟨a326, c326, rfl⟩ := OwnS.shape p326
 refine ⟨_, Z, ?_⟩
 refine R_nil (N_DK (Kn.of' H hd25 (SubL.cons 3 Z (SubL.cons 8 Z (SubL.cons 12 Z (SubL.cons 13 Z SubL.nil))))) ?_)
 refine RD_run [3] kR Z (RDs.cons Z ?_ RDs.nil)
 refine o_call call19 Z Z (w_eqDisk_c _ _ (H.lendSubL [0, 1, 2, 9, 10, 11]) _ aD ⟨_, _, _, _, _, _, _, _, _, Z, (H.lendOHs (k := 9) (ks := [0, 1, 2, 9, 10, 11]) Z Z ⟨_, p117⟩), (H.lendOIs (k := 10) (ks := [0, 1, 2, 9, 10, 11]) Z Z ⟨_, p217⟩), (H.lendOSn (k := 11) (ks := [0, 1, 2, 9, 10, 11]) Z Z ⟨_, p317⟩)⟩ _ aD ⟨_, _, _, _, _, _, _, _, _, Z, (H.lendOHs (k := 0) (ks := [0, 1, 2, 9, 10, 11]) Z Z ⟨_, p126⟩), (H.lendOIs (k := 1) (ks := [0, 1, 2, 9, 10, 11]) Z Z ⟨_, p226⟩), (H.lendOSn (k := 2) (ks := [0, 1, 2, 9, 10, 11]) Z Z ⟨_, p326⟩)⟩ Z) ?_
 rintro _ w27 ⟨rfl, ew27⟩; have H := H.step ew27; refine ⟨_, rfl, ?_⟩
 refine R_nil (N_DK (Kn.of' H hd25 (SubL.cons 3 Z (SubL.cons 8 Z (SubL.cons 12 Z (SubL.cons 13 Z SubL.nil))))) (RD_t 4 Z kR Z (fun _ hK => v_not Z) (RD_done kR (N_K (W_false Z (W_skip (N_K (W_seq (q2 (mV Z (mV Z (o_call call25 Z Z (w_toIntS_c _ _ H.sub _ _ haBytes ) ?_))))))))))))
 rintro _ w28 ⟨G28, v28, _, g28, rfl, ⟨cs28, rfl, hchk28⟩, hp28, hq28, hs28⟩
 have H := H.growO g28 hp28 hq28 hs28; obtain ⟨av28, cv28, rfl⟩ := H.accShape (k := 0) rfl
 have hr1 := hr1.up g28.le
 have hr1' := hr1'.up g28.le
 have hr1'' := hr1''.up g28.le
 have haBytes := haBytes.up g28.le
 have hr14 := hr14.up g28.le
 have hr14' := hr14'.up g28.le
 have hr14'' := hr14''.up g28.le
 have hchk20 := hchk20.up g28.le
 refine ⟨_, Z, ?_⟩
 refine o_call call28 Z Z (w_eqIntS_c _ _ (H.lendSubL [0, 8]) _ _ (H.lendRdL (k := 8) (ks := [0, 8]) Z Z hchk20 aN aN) _ _ (H.lendRdL (k := 0) (ks := [0, 8]) Z Z hchk28 aN aN) Z) ?_
 rintro _ w29 ⟨rfl, ew29⟩; have H := H.step ew29; refine ⟨_, rfl, ?_⟩
 refine o_not Z Z (q3 (W_false Z (W_skip (N_K (q2 (aG Z (q1 (o_loadagg_B 9 H isAgg32 sizeOf32 Z Z Z Z Z (mV Z ?_)))))))))
 have H := H.toFront (k := 12) rfl
 have H := H.toFront (k := 12) rfl
 have H := H.toFront (k := 12) rfl
 refine o_call call20 Z Z (w_markDisk_c _ _ H.sub _ _ _ _ _ _ aD ⟨_, p117⟩ ⟨_, p217⟩ ⟨_, p317⟩ _ H.lent3 oO) ?_
 rintro _ w30 ⟨G30, _, _, rfl, H30', ⟨K130, K230, K330, rfl, rfl, hK130, hK230, hK330⟩⟩
 have hr1 := hr1.up H30'.le
 have hr1' := hr1'.up H30'.le
 have hr1'' := hr1''.up H30'.le
 have haBytes := haBytes.up H30'.le
 have hr14 := hr14.up H30'.le
 have hr14' := hr14'.up H30'.le
 have hr14'' := hr14''.up H30'.le
 have hchk20 := hchk20.up H30'.le
 have H := H.borrow3 H30'
 refine ⟨_, Z, ?_⟩
 refine aG Z (q1 (mV Z (mV Z ?_)))
 obtain ⟨Fi1, H, hOI1⟩ := H.ownI (k := 11) rfl hchk20 aN aN
 refine o_call call30 Z Z (w_markIntS_c _ _ H.sub _ _ _ hOI1 _ H.lent1 oO) ?_
 rintro _ w31 ⟨G31, _, _, rfl, H31', ⟨F31, rfl, rfl, hO31⟩⟩
 have hr1 := hr1.up H31'.le
 have hr1' := hr1'.up H31'.le
 have hr1'' := hr1''.up H31'.le
 have haBytes := haBytes.up H31'.le
 have hr14 := hr14.up H31'.le
 have hr14' := hr14'.up H31'.le
 have hr14'' := hr14''.up H31'.le
 have H := H.borrow1 H31'
 refine ⟨_, Z, ?_⟩
 refine aG Z (q3 (W_seq (q2 (mV Z (o_lss Z Z Z (mV Z ?_))))))
 refine R_case (t := 77) Z ?_ ?_
 ·intro hc32
  try simp only [nrm] at hc32
  exact absurd (show False from by first | omega | (simp at hc32; done) | exact hc32 rfl) id
 intro hc32'
 try simp only [nrm] at hc32'
 refine gR Z (o_loadagg_B 8 H isAgg32 sizeOf32 Z Z Z Z Z (gR Z (o_loadagg_B 13 H isAgg32 sizeOf32 Z Z Z Z Z (gR Z (o_call call19 Z Z (w_eqDisk_c _ _ (H.lendSubL [9, 10, 11]) _ ((Sp.DiskWrite aD aPath aBytes).getD ⟨[], [], []⟩) ⟨_, _, _, _, _, _, _, _, _, Z, (H.lendOHs (k := 9) (ks := [9, 10, 11]) Z Z ⟨_, p121⟩), (H.lendOIs (k := 10) (ks := [9, 10, 11]) Z Z ⟨_, p221⟩), (H.lendOSn (k := 11) (ks := [9, 10, 11]) Z Z ⟨_, p321⟩)⟩ _ ((Sp.DiskWrite aD aPath aBytes).getD ⟨[], [], []⟩) ⟨_, _, _, _, _, _, _, _, _, Z, (hr14.up (PPlus.le _ _ _)), (hr14'.up (PPlus.le _ _ _)), (hr14''.up (PPlus.le _ _ _))⟩ Z) ?_)))))
 rintro _ w33 ⟨rfl, ew33⟩; have H := H.step ew33; refine ⟨_, rfl, ?_⟩
 refine gR Z (o_not Z Z (o_pick_f Z Z Z (mV Z (gR Z (mV Z (gR Z (mV Z (gR Z (o_bneq_same underlying4 Z Z Z (o_pick_f Z Z Z (q3 (W_false Z (W_skip (N_K (q2 ?_)))))))))))))))
 refine aG Z (q1 (o_loadagg_B 8 H isAgg32 sizeOf32 Z Z Z Z Z (mV Z ?_)))
 have H := H.toFront (k := 11) rfl
 have H := H.toFront (k := 11) rfl
 have H := H.toFront (k := 11) rfl
 refine o_call call20 Z Z (w_markDisk_c _ _ H.sub _ _ _ _ _ _ ((Sp.DiskWrite aD aPath aBytes).getD ⟨[], [], []⟩) ⟨_, p121⟩ ⟨_, p221⟩ ⟨_, p321⟩ _ H.lent3 oO) ?_
 rintro _ w34 ⟨G34, _, _, rfl, H34', ⟨K134, K234, K334, rfl, rfl, hK134, hK234, hK334⟩⟩
 have hr1 := hr1.up H34'.le
 have hr1' := hr1'.up H34'.le
 have hr1'' := hr1''.up H34'.le
 have haBytes := haBytes.up H34'.le
 have hr14 := hr14.up H34'.le
 have hr14' := hr14'.up H34'.le
 have hr14'' := hr14''.up H34'.le
 have H := H.borrow3 H34'
 refine ⟨_, Z, ?_⟩
 refine aG Z (q1 (aG Z (q1 (o_loadagg_B 11 H isAgg32 sizeOf32 Z Z Z Z Z (mV Z (o_call call21 Z Z (w_heldDisk_c _ _ (H.lendSubL [0, 1, 2]) _ (mDisk 1 ((Sp.DiskWrite aD aPath aBytes).getD ⟨[], [], []⟩)) ⟨_, _, _, _, _, _, _, _, _, Z, (H.lendOHs (k := 0) (ks := [0, 1, 2]) Z Z hK134), (H.lendOIs (k := 1) (ks := [0, 1, 2]) Z Z hK234), (H.lendOSn (k := 2) (ks := [0, 1, 2]) Z Z hK334)⟩ _ ((Sp.DiskWrite aD aPath aBytes).getD ⟨[], [], []⟩) Z oO) ?_))))))
 rintro _ w35 ⟨rfl, ew35⟩; have H := H.step ew35; refine ⟨_, rfl, ?_⟩
 refine aG Z (q3 (W_seq (q2 (mV Z (o_lss Z Z Z (q3 ?_))))))
 refine W_cond Z ?_ ?_
 ·intro hc36
  try simp only [nrm] at hc36
  exact absurd (show False from by first | omega | (simp at hc36; done) | exact hc36 rfl) id
 intro hc36'
 try simp only [nrm] at hc36'
 refine W_skip (N_K (W_seq (q2 (mV Z (mV Z (o_neq Z Z Z (q3 ?_)))))))
 refine W_cond Z ?_ ?_
 ·intro hc37
  try simp only [nrm] at hc37
  exact absurd (show False from by first | omega | (simp at hc37; done) | exact hc37 rfl) id
 intro hc37'
 try simp only [nrm] at hc37'
 refine W_skip (N_K (q2 (o_loadagg_B 14 H isAgg26 sizeOf26 Z Z Z Z Z (o_call call17 Z Z (w_toDisk_c _ _ H.sub _ aD ⟨_, _, _, _, _, _, _, _, _, Z, hr1, hr1', hr1''⟩ ) ?_))))
 rintro _ w38 ⟨_, _, rfl, H38', ⟨u138, u238, u338, D138, D238, D338, rfl, rfl, ho138, ho238, ho338⟩⟩
 have H := H.readers (fp := []) (by simp) (PLe.refl _) H38'
 obtain ⟨x138, p138⟩ := ho138
 obtain ⟨a138, c138, rfl⟩ := OwnS.shape p138
 obtain ⟨x238, p238⟩ := ho238
 obtain ⟨a238, c238, rfl⟩ := OwnS.shape p238
 obtain ⟨x338, p338⟩ := ho338
 obtain ⟨a338, c338, rfl⟩ := OwnS.shape p338
 refine ⟨_, Z, ?_⟩
 refine mV Z (mV Z (o_call call25 Z Z (w_toIntS_c _ _ H.sub _ _ haBytes ) ?_))
 rintro _ w39 ⟨G39, v39, _, g39, rfl, ⟨cs39, rfl, hchk39⟩, hp39, hq39, hs39⟩
 have H := H.growO g39 hp39 hq39 hs39; obtain ⟨av39, cv39, rfl⟩ := H.accShape (k := 0) rfl
 have hr14 := hr14.up g39.le
 have hr14' := hr14'.up g39.le
 have hr14'' := hr14''.up g39.le
 refine ⟨_, Z, ?_⟩
 refine o_call call46 Z Z (i_DiskWrite_c _ _ (H.lendSubL [0, 1, 2, 3]) _ aD ⟨_, _, _, _, _, _, _, _, _, Z, (H.lendOHs (k := 1) (ks := [0, 1, 2, 3]) Z Z ⟨_, p138⟩), (H.lendOIs (k := 2) (ks := [0, 1, 2, 3]) Z Z ⟨_, p238⟩), (H.lendOSn (k := 3) (ks := [0, 1, 2, 3]) Z Z ⟨_, p338⟩)⟩ _ haPath _ _ (H.lendRdL (k := 0) (ks := [0, 1, 2, 3]) Z Z hchk39 aN aN) ) ?_
 rintro _ w40 ⟨_, _, rfl, H40', ⟨u140, u240, u340, E140, E240, E340, rfl, rfl, ho140, ho240, ho340⟩⟩
 have H := H.readersL H40'
 obtain ⟨x140, p140⟩ := ho140
 obtain ⟨a140, c140, rfl⟩ := OwnS.shape p140
 obtain ⟨x240, p240⟩ := ho240
 obtain ⟨a240, c240, rfl⟩ := OwnS.shape p240
 obtain ⟨x340, p340⟩ := ho340
 obtain ⟨a340, c340, rfl⟩ := OwnS.shape p340
 refine ⟨_, Z, ?_⟩
 refine mV Z (o_extract Z Z Z (o_extract Z Z Z (o_alloc H zeroValue32 Z Z ?_))); intro b41 w41 hb41 H
 refine o_store_B 0 H sizeOf32 Z Z Z Z Z Z Z Z ?_; intro w42 H
 refine aG Z (q3 (W_seq (q2 (o_loadagg_B 0 H isAgg32 sizeOf32 Z Z Z Z Z (o_loadagg_B 21 H isAgg32 sizeOf32 Z Z Z Z Z (o_call call19 Z Z (w_eqDisk_c _ _ (H.lendSubL [1, 2, 3]) _ ((Sp.DiskWrite aD aPath aBytes).getD ⟨[], [], []⟩) ⟨_, _, _, _, _, _, _, _, _, Z, (H.lendOHs (k := 1) (ks := [1, 2, 3]) Z Z ⟨_, p140⟩), (H.lendOIs (k := 2) (ks := [1, 2, 3]) Z Z ⟨_, p240⟩), (H.lendOSn (k := 3) (ks := [1, 2, 3]) Z Z ⟨_, p340⟩)⟩ _ ((Sp.DiskWrite aD aPath aBytes).getD ⟨[], [], []⟩) ⟨_, _, _, _, _, _, _, _, _, Z, (hr14.up (PPlus.le _ _ _)), (hr14'.up (PPlus.le _ _ _)), (hr14''.up (PPlus.le _ _ _))⟩ Z) ?_))))))
 rintro _ w43 ⟨rfl, ew43⟩; have H := H.step ew43; refine ⟨_, rfl, ?_⟩
 refine o_not Z Z (mV Z (gR Z (mV Z (gR Z (mV Z (gR Z (o_bneq_same underlying4 Z Z Z (o_pick_f Z Z Z (q3 (W_false Z (W_skip (N_K (q2 (aG Z (q1 ?_)))))))))))))))
 refine o_loadagg_B 19 H isAgg32 sizeOf32 Z Z Z Z Z (mV Z (o_call call21 Z Z (w_heldDisk_c _ _ (H.lendSubL [8, 9, 10]) _ (mDisk 1 ((Sp.DiskWrite aD aPath aBytes).getD ⟨[], [], []⟩)) ⟨_, _, _, _, _, _, _, _, _, Z, (H.lendOHs (k := 8) (ks := [8, 9, 10]) Z Z hK134), (H.lendOIs (k := 9) (ks := [8, 9, 10]) Z Z hK234), (H.lendOSn (k := 10) (ks := [8, 9, 10]) Z Z hK334)⟩ _ ((Sp.DiskWrite aD aPath aBytes).getD ⟨[], [], []⟩) Z oO) ?_))
 rintro _ w44 ⟨rfl, ew44⟩; have H := H.step ew44; refine ⟨_, rfl, ?_⟩
 refine aG Z (q3 (W_seq (q2 (mV Z (o_lss Z Z Z (q3 ?_))))))
 refine W_cond Z ?_ ?_
 ·intro hc45
  try simp only [nrm] at hc45
  exact absurd (show False from by first | omega | (simp at hc45; done) | exact hc45 rfl) id
 intro hc45'
 try simp only [nrm] at hc45'
 refine W_skip (N_K (W_seq (q2 (mV Z (mV Z (o_neq Z Z Z (q3 ?_)))))))
 refine W_cond Z ?_ ?_
 ·intro hc46
  try simp only [nrm] at hc46
  exact absurd (show False from by first | omega | (simp at hc46; done) | exact hc46 rfl) id
 intro hc46'
 try simp only [nrm] at hc46'
 refine W_skip (N_K (q2 (aG Z (q3 (W_ret (rt1 results14 Z ?_))))))
 exact H.rets Z
end Go.Proofs.Tst

namespace Go.Proofs.Tst
open Go Fw Tryz
theorem i_openVol_c (w0 : World) (G0 : PH) (hG : PSub G0 w0) (cu : List Value) (u : BVol) (hu : volE G0 u cu) (hLent : Lent w0 G0 [])  :
  Calls Tryz.prog 74 #[.agg cu.toArray] w0 (RetM w0 G0 [] (fun G' v Bs => (v = .tuple #[.agg #[.map none, .pointer none], .bool false] ∧ Bs = [] ∧ Sp.VolumeValid u = false) ∨ (∃ (mb : Nat) (es : Array MapEntry) (ck : Nat) (xs : List (Int × Value)) (T : Nd) (F : Fr), v = .tuple #[.agg #[.map (some mb), .pointer (some ⟨T.b, 0, none⟩)], .bool true] ∧ Bs = [blk mb (.map es ck), frag F] ∧ MapIs (Value.int .i64) es ck xs ∧ StR G' xs u.store ∧ NdO 166 93 G' T F ∧ Nd.TOK T u.tree ∧ Sp.VolumeValid u = true))) := by
 obtain ⟨a1, m1, c1, a1', m1', c1', rfl, hr1, hr1'⟩ := hu; have hn_hr1 := hr1.len; have hx_hr1 : _ ≤ 1099511627776 := hr1.lim; have hn_hr1q := hr1'.len; have hx_hr1q : _ ≤ 1099511627776 := hr1'.lim
 have H : Hp w0 G0 [] w0 G0 [] := hLent.hp
 refine calls_of_W (l := [_]) func74 Z ntmps74 Z (q2 (o_box H Z Z Z ?_)); intro b2 w2 hb2 H
 refine o_alloc H zeroValue95 Z Z ?_; intro b3 w3 hb3 H
 refine aG Z (q1 (o_fieldAddr 0 runUnderlying44 Z sizeOf28 Z Z Z (o_load_B 1 H isAgg28 Z Z Z Z (o_fieldAddr 1 runUnderlying44 Z sizeOf29 Z Z Z (o_load_B 1 H isAgg29 Z Z Z Z (o_call call129 Z Z (i_newVolume_c _ _ H.sub _ _ hr1 _ _ hr1' H.lent0 ) ?_))))))
 rintro _ w4 ⟨G4, _, _, rfl, H4', ⟨rfl, rfl, hnv4⟩ | ⟨mb4, es4, ck4, xs4, T4, F4, rfl, rfl, hm4, hS4, hV4, hN4, hT4, hv4⟩⟩
 ·skip
  have H := H.borrow0 H4'
  refine ⟨_, Z, ?_⟩
  refine mV Z (o_extract Z Z Z (o_extract Z Z Z (o_alloc H zeroValue95 Z Z ?_))); intro b5 w5 hb5 H
  refine o_store_B 0 H sizeOf95 Z Z Z Z Z Z Z Z ?_; intro w6 H
  refine aG Z (q3 (W_seq (q2 (mV Z (o_not Z Z (mV Z (rP Z (rP Z (rP Z (rP Z (rP Z (rP Z (rP Z (o_pick_t Z Z Z (q3 ?_)))))))))))))))
  refine W_true Z (q2 (o_build bf95 Z Z Z (o_store_B 1 H sizeOf95 Z Z Z Z Z Z Z Z ?_))); intro w7 H
  refine aG Z (q3 (W_ret (N_K_ret (ret_gen (rs := [.cell 2 95, .tmp 3]) (vs := [_, _]) results74 ⟨⟨_, Z, load_blk 1 H isAgg95 sizeOf95 Z Z Z⟩, Z, trivial⟩ ?_))))
  have H := H.del (k := 0) rfl
  have H := H.del (k := 0) rfl
  have H := H.del (k := 0) rfl
  exact H.retM (.inl ⟨rfl, rfl, (Sp.vv_no (by assumption))⟩)
 skip
 have H := H.borrow0 H4'
 refine ⟨_, Z, ?_⟩
 refine mV Z (o_extract Z Z Z (o_extract Z Z Z (o_alloc H zeroValue95 Z Z ?_))); intro b8 w8 hb8 H
 refine o_store_B 0 H sizeOf95 Z Z Z Z Z Z Z Z ?_; intro w9 H
 refine aG Z (q3 (W_seq (q2 (mV Z (o_not Z Z (mV Z (gR Z (o_fieldAddr 0 runUnderlying95 Z sizeOf92 Z Z Z (gR Z (o_load_B 0 H isAgg92 Z Z Z Z (gR Z (o_fieldAddr 1 runUnderlying95 Z sizeOf93 Z Z Z (gR Z (o_load_B 0 H isAgg93 Z Z Z Z (gR Z ?_)))))))))))))))
 refine o_buildSlice H underlying162 sizeOf93 (fun w => ⟨_, zeroValue93 w, Z⟩) Z Z Z Z Z Z Z ?_; intro b10 w10 hb10 H
 have H := H.blkAcc 1 (k := 0) (n := 1) rfl rfl (by decide)
 refine gR Z ?_
 refine o_call call130 Z Z (i_usedBy_c _ _ (H.lendSubL [0, 2, 3]) _ _ _ _ _ (H.lendPredL (k := 2) (ks := [0, 2, 3]) Z Z) hm4 (hS4.up (PPlus.le _ _ _)) hV4 _ _ (RdS.withN (H.lendRdL (k := 0) (ks := [0, 2, 3]) Z Z (chkK [T4]) aN aN) (fun t ht => by rcases List.mem_singleton.1 ht with rfl; exact H.lendN (k := 3) rfl rfl hN4)) (by simp) (fun t ht => by rcases List.mem_singleton.1 ht with rfl; exact ⟨hT4.wf, by have := hT4.cnt; have := Sp.tree_len hv4; omega⟩)) ?_
 rintro _ w11 ⟨rfl, ew11⟩; have H := H.step ew11; refine ⟨_, rfl, ?_⟩
 refine gR Z (o_not Z Z (o_pick_f Z Z Z (q3 ?_)))
 refine W_cond Z ?_ ?_
 ·intro hc12
  try simp only [nrm] at hc12
  refine q2 (o_build bf95 Z Z Z (o_store_B 4 H sizeOf95 Z Z Z Z Z Z Z Z ?_)); intro w13 H
  refine aG Z (q3 (W_ret (N_K_ret (ret_gen (rs := [.cell 2 95, .tmp 3]) (vs := [_, _]) results74 ⟨⟨_, Z, load_blk 4 H isAgg95 sizeOf95 Z Z Z⟩, Z, trivial⟩ ?_))))
  have H := H.del (k := 0) rfl
  have H := H.del (k := 0) rfl
  have H := H.del (k := 0) rfl
  have H := H.del (k := 0) rfl
  have H := H.del (k := 0) rfl
  have H := H.del (k := 0) rfl
  have hvu : Sp.VolumeValid u = _ := Sp.vv_use (Sp.valid_iff.2 hV4) hv4 hT4
  exact H.retM (.inl ⟨rfl, rfl, (by (rw [hvu]; unfold Sp.useOK; rw [Bool.and_eq_false_iff]; exact hc12))⟩)
 intro hc12'
 try simp only [nrm] at hc12'
 refine W_skip (N_K (q2 (o_loadagg_B 1 H isAgg95 sizeOf95 Z Z Z Z Z (o_store_B 4 H sizeOf95 Z Z Z Z Z Z Z Z ?_)))); intro w14 H
 refine aG Z (q3 (W_ret (ret_gen (rs := [.cell 2 95, .tmp 3]) (vs := [_, _]) results74 ⟨⟨_, Z, load_blk 4 H isAgg95 sizeOf95 Z Z Z⟩, Z, trivial⟩ ?_)))
 have H := H.del (k := 0) rfl
 have H := H.del (k := 0) rfl
 have H := H.del (k := 2) rfl
 have H := H.del (k := 2) rfl
 have H := H.toFront (k := 1) rfl
 have H := H.toFront (k := 1) rfl
 have hvu : Sp.VolumeValid u = _ := Sp.vv_use (Sp.valid_iff.2 hV4) hv4 hT4
 have hvt : Sp.VolumeValid u = true := by (rw [hvu]; unfold Sp.useOK; simpa using hc12')
 exact H.retM (.inr ⟨_, _, _, _, _, _, Z, Z, hm4, hS4, hN4, hT4, hvt⟩)
theorem i_volume_c (w0 : World) (G0 : PH) (hG : PSub G0 w0) (mb : Nat) (es : Array MapEntry) (ck : Nat) (xs : List (Int × Value)) (T : Nd) (L : List BHeld) (hb : MapAt G0 mb es ck) (hm : MapIs (Value.int .i64) es ck xs) (hS : StR G0 xs L) (hV : Sp.VH L) (hnd : RdN G0 T) (hwt : T.wf) (hct : T.cnt ≤ 1000) :
  Calls Tryz.prog 77 #[.agg #[.map (some mb), .pointer (some ⟨T.b, 0, none⟩)]] w0 (RetN w0 G0 (fun v Bs => ∃ (v1 v2 : Value) (F1 F2 : Fr), v = .agg #[v1, v2] ∧ Bs = [frag F1, frag F2] ∧ OHs F1 v1 L ∧ OIs F2 v2 (T.flat []))) := by
 have H := Hp.init hG
 obtain ⟨hnlT, naT, nmT, ncT, nAT, nMT, nCT, hprT, hriT, hrkT⟩ := hnd.open
 refine calls_of_W (l := [_]) func77 Z ntmps77 Z (q2 (o_box H Z Z Z ?_)); intro b1 w1 hb1 H
 refine o_alloc H zeroValue44 Z Z ?_; intro b2 w2 hb2 H
 refine q3 (W_seq (W_drawK [0, 1] 8 H kR Z ?_)); intro w3 H; have hd3 := PLe.refl G0
 refine RD_t 0 Z kR Z (fun _ hK => v_fieldAddr 0 runUnderlying95 Z sizeOf92 Z Z) (RD_t 1 Z kR Z (fun _ hK => v_load_B 1 hK isAgg92 Z Z Z) (RD_t 3 Z kR Z (fun _ hK => v_fieldAddr 1 runUnderlying95 Z sizeOf93 Z Z) (RD_t 4 Z kR Z (fun _ hK => v_load_B 1 hK isAgg93 Z Z Z) ?_)))
 refine RD_run [2] kR Z (RDs.cons Z ?_ RDs.nil)
 refine o_call call137 Z Z (i_slist_c _ _ H.sub _ _ _ _ _ hb hm hS hV ) ?_
 rintro _ w4 ⟨_, _, rfl, H4', ⟨F4, rfl, hO4⟩⟩
 have H := H.readers (fp := []) (by simp) (PLe.refl _) H4'
 obtain ⟨e24, hP4⟩ := hO4
 obtain ⟨sa4, sc4, rfl⟩ := OwnS.shape hP4
 have hO4 := OHs.mk hP4
 refine ⟨_, Z, ?_⟩
 refine R_nil (N_DK (Kn.of' H hd3 (SubL.cons 1 Z (SubL.cons 2 Z SubL.nil))) ?_)
 refine RD_run [5] kR Z (RDs.cons Z ?_ RDs.nil)
 refine o_call call138 Z Z (i_tlist_c _ _ H.sub _ hnd hwt hct) ?_
 rintro _ w5 ⟨_, _, rfl, H5', ⟨F5, rfl, hO5⟩⟩
 have H := H.readers (fp := []) (by simp) (PLe.refl _) H5'
 obtain ⟨e25, hP5⟩ := hO5
 obtain ⟨sa5, sc5, rfl⟩ := OwnS.shape hP5
 have hO5 := OIs.mk hP5
 refine ⟨_, Z, ?_⟩
 refine R_nil (N_DK (Kn.of' H hd3 (SubL.cons 2 Z (SubL.cons 3 Z SubL.nil))) (RD_t 6 Z kR Z (fun _ hK => v_build bf44 Z Z) ?_))
 refine RD_run [7] kR Z (RDs.cons Z ?_ RDs.nil)
 refine o_store_B 2 H sizeOf44 Z Z Z Z Z Z Z Z ?_; intro w6 H
 refine R_nil (N_DKlast kR kR (N_K (W_ret (ret_gen (rs := [.cell 2 44]) (vs := [_]) results77 ⟨⟨_, Z, load_blk 2 H isAgg44 sizeOf44 Z Z Z⟩, trivial⟩ ?_))))
 have H := H.del (k := 2) rfl
 have H := H.del (k := 2) rfl
 have H := H.toFront (k := 1) rfl
 have H := H.forget hG (by simp)
 exact ⟨_, _, Z, H, _, _, _, _, Z, Z, hO4, hO5⟩
end Go.Proofs.Tst

namespace Go.Proofs.Tst
open Go Fw Tryz
theorem i_VolumeWrite_c (w0 : World) (G0 : PH) (hG : PSub G0 w0) (cu : List Value) (u : BVol) (hu : volE G0 u cu) (path : Bs) (hpath : path.length ≤ 16777216) (vbytes : Value) (bytes : List (Int)) (hbytes : RdI G0 vbytes bytes)  :
  Calls Tryz.prog 26 #[.agg cu.toArray, str path, vbytes] w0 (RetN w0 G0 (fun v Bs => ∃ (v1 v2 : Value) (F1 F2 : Fr), v = .tuple #[.agg #[v1, v2], .bool (Sp.VolumeWrite u path bytes).isSome] ∧ Bs = [frag F1, frag F2] ∧ OHs F1 v1 ((Sp.VolumeWrite u path bytes).getD ⟨[], []⟩).store ∧ OIs F2 v2 ((Sp.VolumeWrite u path bytes).getD ⟨[], []⟩).tree)) := by
 obtain ⟨a1, m1, c1, a1', m1', c1', rfl, hr1, hr1'⟩ := hu; have hn_hr1 := hr1.len; have hx_hr1 : _ ≤ 1099511627776 := hr1.lim; have hn_hr1q := hr1'.len; have hx_hr1q : _ ≤ 1099511627776 := hr1'.lim
 obtain ⟨abytes, kbytes, rfl⟩ := hbytes.shape
 have hlimbytes : bytes.length ≤ 1099511627776 := hbytes.lim
 have H := Hp.init hG
 refine calls_of_W (l := [_, str path, .slice abytes bytes.length kbytes]) func26 Z ntmps26 Z (q2 (o_box H Z Z Z ?_)); intro b2 w2 hb2 H
 refine o_alloc H zeroValue44 Z Z ?_; intro b3 w3 hb3 H
 refine aG Z (q1 (o_loadagg_B 1 H isAgg44 sizeOf44 Z Z Z Z Z (o_call call74 Z Z (i_openVol_c _ _ H.sub _ u ⟨_, _, _, _, _, _, Z, hr1, hr1'⟩ H.lent0 ) ?_)))
 rintro _ w4 ⟨G4, _, _, rfl, H4', ⟨rfl, rfl, hnv4⟩ | ⟨mb4, es4, ck4, xs4, T4, F4, rfl, rfl, hm4, hS4, hN4, hT4, hv4⟩⟩
 ·skip
  have H := H.borrow0 H4'
  refine ⟨_, Z, ?_⟩
  refine mV Z (o_extract Z Z Z (o_extract Z Z Z (o_alloc H zeroValue95 Z Z ?_))); intro b5 w5 hb5 H
  refine o_store_B 0 H sizeOf95 Z Z Z Z Z Z Z Z ?_; intro w6 H
  refine aG Z (q3 (W_seq (q2 (mV Z (o_not Z Z (mV Z (rP Z (rP Z (rP Z (o_pick_t Z Z Z (mV Z (rP Z (rP Z (rP Z (rP Z ?_)))))))))))))))
  refine rP Z (o_pick_t Z Z Z (q3 (W_true Z (q2 (o_build bf44 Z Z Z (o_store_B 1 H sizeOf44 Z Z Z Z Z Z Z Z ?_)))))); intro w7 H
  refine aG Z (q3 (W_ret (N_K_ret (ret_gen (rs := [.cell 6 44, .tmp 7]) (vs := [_, _]) results26 ⟨⟨_, Z, load_blk 1 H isAgg44 sizeOf44 Z Z Z⟩, Z, trivial⟩ ?_))))
  have H := H.del (k := 0) rfl
  have H := H.del (k := 0) rfl
  have H := H.del (k := 0) rfl
  have hno : Sp.VolumeWrite u path bytes = none := (by first | (simp [Sp.VolumeWrite, show Sp.VolumeValid u = false by assumption]; done) | (simp_all [Sp.VolumeWrite]; done))
  have H := ((H.addF).addF).forget hG (by simp)
  refine ⟨_, _, Z, H, .slice none 0 0, .slice none 0 0, [], [], ?_, Z, ?_, ?_⟩
  ·(rw [hno]; rfl)
  ·(rw [hno]; exact oh_nil)
  (rw [hno]; exact oi_nil)
 skip
 have hbytes := hbytes.up H4'.le
 have H := H.borrow0 H4'
 have hH4 := Sp.Hol.of_vol hv4
 have hVs4 := hH4.vh
 refine ⟨_, Z, ?_⟩
 refine mV Z (o_extract Z Z Z (o_extract Z Z Z (o_alloc H zeroValue95 Z Z ?_))); intro b8 w8 hb8 H
 refine o_store_B 0 H sizeOf95 Z Z Z Z Z Z Z Z ?_; intro w9 H
 refine aG Z (q3 (W_seq (q2 (mV Z (o_not Z Z (mV Z (gR Z (mV Z (gR Z (o_call call75 Z Z (i_FileValid_c _ _ H.sub _ _ hbytes ) ?_))))))))))
 rintro _ w10 ⟨rfl, ew10⟩; have H := H.step ew10; refine ⟨_, rfl, ?_⟩
 refine gR Z (o_not Z Z (o_pick_f Z Z Z (mV Z ?_)))
 refine R_case (t := 22) Z ?_ ?_
 ·intro hc11
  try simp only [nrm] at hc11
  refine rP Z (rP Z (rP Z (rP Z (rP Z (o_pick_t Z Z Z (q3 (W_true Z (q2 (o_build bf44 Z Z Z (o_store_B 3 H sizeOf44 Z Z Z Z Z Z Z Z ?_)))))))))); intro w12 H
  refine aG Z (q3 (W_ret (N_K_ret (ret_gen (rs := [.cell 6 44, .tmp 7]) (vs := [_, _]) results26 ⟨⟨_, Z, load_blk 3 H isAgg44 sizeOf44 Z Z Z⟩, Z, trivial⟩ ?_))))
  have H := H.del (k := 0) rfl
  have H := H.del (k := 0) rfl
  have H := H.del (k := 0) rfl
  have H := H.del (k := 0) rfl
  have H := H.del (k := 0) rfl
  have hno : Sp.VolumeWrite u path bytes = none := (by first | (simp [Sp.VolumeWrite, show Sp.VolumeValid u = false by assumption]; done) | (simp_all [Sp.VolumeWrite]; done))
  have H := ((H.addF).addF).forget hG (by simp)
  refine ⟨_, _, Z, H, .slice none 0 0, .slice none 0 0, [], [], ?_, Z, ?_, ?_⟩
  ·(rw [hno]; rfl)
  ·(rw [hno]; exact oh_nil)
  (rw [hno]; exact oi_nil)
 intro hc11'
 try simp only [nrm] at hc11'
 refine gR Z (o_loadagg_B 0 H isAgg95 sizeOf95 Z Z Z Z Z (gR Z (mV Z (gR Z (mV Z (gR Z ?_))))))
 have H := H.toFront (k := 2) rfl
 have H := H.toFront (k := 2) rfl
 have hB : Sp.FileValid bytes = true := by simpa using hc11'
 refine o_call call76 Z Z (i_vwrite_c _ _ H.sub _ _ _ _ _ _ _ _ hm4 hS4 hN4 hT4 hH4 _ hpath _ _ hbytes H.lent2 hB) ?_
 rintro _ w13 ⟨G13, _, _, rfl, H13', ⟨es13, ck13, xs13, F13, T13, L13, rfl, rfl, hm13, hS13, hV13, hN13, hb13, hu13⟩⟩
 have H := H.borrow2 H13'
 try rw [← hb13]
 try rw [← hb13] at H
 refine ⟨_, Z, ?_⟩
 refine gR Z (o_not Z Z (o_pick_f Z Z Z (q3 ?_)))
 refine W_cond Z ?_ ?_
 ·intro hc14
  try simp only [nrm] at hc14
  refine q2 (o_build bf44 Z Z Z (o_store_B 3 H sizeOf44 Z Z Z Z Z Z Z Z ?_)); intro w15 H
  refine aG Z (q3 (W_ret (N_K_ret (ret_gen (rs := [.cell 6 44, .tmp 7]) (vs := [_, _]) results26 ⟨⟨_, Z, load_blk 3 H isAgg44 sizeOf44 Z Z Z⟩, Z, trivial⟩ ?_))))
  have H := H.del (k := 0) rfl
  have H := H.del (k := 0) rfl
  have H := H.del (k := 0) rfl
  have H := H.del (k := 0) rfl
  have H := H.del (k := 0) rfl
  have hno : Sp.VolumeWrite u path bytes = none := (by first | (simp [Sp.VolumeWrite, show Sp.VolumeValid u = false by assumption]; done) | (simp_all [Sp.VolumeWrite]; done))
  have H := ((H.addF).addF).forget hG (by simp)
  refine ⟨_, _, Z, H, .slice none 0 0, .slice none 0 0, [], [], ?_, Z, ?_, ?_⟩
  ·(rw [hno]; rfl)
  ·(rw [hno]; exact oh_nil)
  (rw [hno]; exact oi_nil)
 intro hc14'
 try simp only [nrm] at hc14'
 obtain ⟨u2, hu2⟩ := Option.isSome_iff_exists.1 (show (Sp.l11Write ⟨u.store, u.tree⟩ path bytes).isSome = true by simpa using hc14')
 obtain ⟨hL2, hT2, hH2⟩ := hu13 u2 hu2; subst hL2
 refine W_skip (N_K (q2 (o_loadagg_B 2 H isAgg95 sizeOf95 Z Z Z Z Z ?_)))
 refine o_call call77 Z Z (i_volume_c _ _ (H.lendSubL [0, 0, 1, 1]) _ _ _ _ _ _ (H.lendPredL (k := 0) (ks := [0, 0, 1, 1]) Z Z) hm13 (hS13.up (PPlus.le _ _ _)) hV13 (H.lendN (k := 1) (ks := [0, 0, 1, 1]) Z Z hN13) hT2.wf (by have := hT2.cnt; have := hH2.vt.len; omega)) ?_
 rintro _ w16 ⟨_, _, rfl, H16', ⟨u116, u216, D116, D216, rfl, rfl, ho116, ho216⟩⟩
 have H := H.readersL H16'
 obtain ⟨x116, p116⟩ := ho116
 obtain ⟨a116, c116, rfl⟩ := OwnS.shape p116
 obtain ⟨x216, p216⟩ := ho216
 obtain ⟨a216, c216, rfl⟩ := OwnS.shape p216
 refine ⟨_, Z, ?_⟩
 refine o_store_B 5 H sizeOf44 Z Z Z Z Z Z Z Z ?_; intro w17 H
 refine aG Z (q3 (W_ret (ret_gen (rs := [.cell 6 44, .tmp 7]) (vs := [_, _]) results26 ⟨⟨_, Z, load_blk 5 H isAgg44 sizeOf44 Z Z Z⟩, Z, trivial⟩ ?_)))
 have H := H.del (k := 2) rfl
 have H := H.del (k := 2) rfl
 have H := H.del (k := 2) rfl
 have H := H.del (k := 2) rfl
 have H := H.del (k := 2) rfl
 have H := H.toFront (k := 1) rfl
 have H := H.toFront (k := 1) rfl
 have hyes : Sp.VolumeWrite u path bytes = some u2 := by (simp only [Sp.VolumeWrite, hv4, hB, Bool.and_self, if_true]; exact hu2)
 have hfl := hT2.flat
 have H := H.forget hG (by simp)
 exact ⟨_, _, rfl, H, _, _, _, _, (by (rw [hyes]; rfl)), rfl, (by (rw [hyes]; exact ⟨_, p116⟩)), (by (rw [hyes]; exact (hfl ▸ ⟨_, p216⟩)))⟩
end Go.Proofs.Tst

namespace Go.Proofs.Tst
open Go Fw Tryz
theorem VolumeWriteP_c (w0 : World) (G0 : PH) (hG : PSub G0 w0) (cv : List Value) (v : BVol) (hv : volE G0 v cv) (path : Bs) (hpath : path.length ≤ 16777216) (vbytes : Value) (bytes : List Int) (hbytes : RdI G0 vbytes bytes) :
  Calls Tryz.prog 23 #[.agg cv.toArray, str path, vbytes] w0 (RetP w0 G0 (fun G val => ∃ cs, val = .tuple #[.agg cs.toArray, .bool (Sp.VolumeWrite v path bytes).isSome] ∧ volE G ((Sp.VolumeWrite v path bytes).getD ⟨[], []⟩) cs)) := by
 refine (VolumeWrite_c w0 G0 hG cv v hv path hpath vbytes bytes hbytes).mono ?_
 rintro _ w' ⟨G, v', r, g, rfl, ⟨u, u1, rfl, ⟨cells, rfl, hchk⟩, h1⟩, hp, hq, hs⟩
 have H := (Hp.init hG).growO g hp hq hs
 have hb : (((Sp.VolumeWrite v path bytes).map (·.store)).getD []).length ≤ 16 := Sp.vol_len (fun u2 h2 => Sp.vwrite_valid h2)
 obtain ⟨G2, H2, hle, hr⟩ := H.shut' (k := 0) rfl hchk rfl oM
 have e1 : ((Sp.VolumeWrite v path bytes).map (·.tree)).getD [] = ((Sp.VolumeWrite v path bytes).getD ⟨[], []⟩).tree := by cases Sp.VolumeWrite v path bytes <;> rfl
 have e3 : ((Sp.VolumeWrite v path bytes).map (·.store)).getD [] = ((Sp.VolumeWrite v path bytes).getD ⟨[], []⟩).store := by cases Sp.VolumeWrite v path bytes <;> rfl
 rw [e1] at h1; rw [e3] at hr
 obtain ⟨a1, c1, rfl⟩ := h1.shape
 obtain ⟨a3, c3, rfl⟩ := hr.shape
 exact H2.retP ⟨[_, _], Z, _, _, _, _, _, _, Z, hr, h1.up hle⟩
end Go.Proofs.Tst

namespace Go.Proofs.Tst
open Go Fw Tryz
theorem w_szVolume_c (w0 : World) (G0 : PH) (hG : PSub G0 w0) (ca : List Value) (a : BVol) (ha : volE G0 a ca) (left : Int) (hl : -1 ≤ left ∧ left ≤ 1099511627776) :
  Calls Tryz.prog 22 #[.agg ca.toArray, .int .i64 left] w0 (RetV w0 (fun v => ∃ r : Int, v = .int .i64 r ∧ (r = -1 ∨ (0 ≤ r ∧ r + (wVol a : Int) ≤ left)))) := by
 obtain ⟨a1, m1, c1, a1', m1', c1', rfl, hr1, hr1'⟩ := ha; have hn_hr1 := hr1.len; have hx_hr1 : _ ≤ 1099511627776 := hr1.lim; have hn_hr1q := hr1'.len; have hx_hr1q : _ ≤ 1099511627776 := hr1'.lim
 have H := Hp.init hG
 refine calls_of_W (l := [_, .int .i64 left]) func22 Z ntmps22 Z (q2 (o_box H Z Z Z ?_)); intro b2 w2 hb2 H
 refine aG Z (q1 (o_fieldAddr 0 runUnderlying40 Z sizeOf22 Z Z Z (o_load_B 0 H isAgg22 Z Z Z Z (mV Z (o_call call49 Z Z (w_szHeldS_c _ _ H.sub _ _ hr1 _ oO) ?_)))))
 rintro _ w3 ⟨_, rfl, ew3, ⟨r3, rfl, hra3⟩⟩
 skip
 have H := H.step ew3; refine ⟨_, rfl, ?_⟩
 refine aG Z (q3 (W_seq (q2 (mV Z (o_lss Z Z Z (q3 ?_))))))
 refine W_cond Z ?_ ?_
 ·intro hc4
  try simp only [nrm] at hc4
  refine q2 (aG Z (q3 (W_ret (N_K_ret (rt1 results22 Z ?_)))))
  exact H.retV ⟨_, rfl, by first | omega | (simp only [wHeld, wItem, wHelds, wItems, wVol] at *; omega)⟩
 intro hc4'
 try simp only [nrm] at hc4'
 refine W_skip (N_K (q2 (o_fieldAddr 1 runUnderlying40 Z sizeOf23 Z Z Z (o_load_B 0 H isAgg23 Z Z Z Z (mV Z (o_call call50 Z Z (w_szItemS_c _ _ H.sub _ _ hr1' _ oO) ?_))))))
 rintro _ w5 ⟨_, rfl, ew5, ⟨r5, rfl, hra5⟩⟩
 skip
 have H := H.step ew5; refine ⟨_, rfl, ?_⟩
 refine aG Z (q3 (W_seq (q2 (mV Z (o_lss Z Z Z (q3 ?_))))))
 refine W_cond Z ?_ ?_
 ·intro hc6
  try simp only [nrm] at hc6
  refine q2 (aG Z (q3 (W_ret (N_K_ret (rt1 results22 Z ?_)))))
  exact H.retV ⟨_, rfl, by first | omega | (simp only [wHeld, wItem, wHelds, wItems, wVol] at *; omega)⟩
 intro hc6'
 try simp only [nrm] at hc6'
 refine W_skip (N_K (q2 (mV Z (aG Z (q3 (W_ret (rt1 results22 Z ?_)))))))
 exact H.retV ⟨_, rfl, by first | omega | (simp only [wHeld, wItem, wHelds, wItems, wVol] at *; omega)⟩
theorem w_eqVolume_c (w0 : World) (G0 : PH) (hG : PSub G0 w0) (ca : List Value) (a : BVol) (ha : volE G0 a ca) (cb : List Value) (b : BVol) (hb : volE G0 b cb) (hab : a = b) :
  Calls Tryz.prog 27 #[.agg ca.toArray, .agg cb.toArray] w0 (Rets w0 (.bool true)) := by
 obtain ⟨a1, m1, c1, a1', m1', c1', rfl, hr1, hr1'⟩ := ha; have hn_hr1 := hr1.len; have hx_hr1 : _ ≤ 1099511627776 := hr1.lim; have hn_hr1q := hr1'.len; have hx_hr1q : _ ≤ 1099511627776 := hr1'.lim
 obtain ⟨a2, m2, c2, a2', m2', c2', rfl, hr2, hr2'⟩ := hb; have hn_hr2 := hr2.len; have hx_hr2 : _ ≤ 1099511627776 := hr2.lim; have hn_hr2q := hr2'.len; have hx_hr2q : _ ≤ 1099511627776 := hr2'.lim
 have H := Hp.init hG
 refine calls_of_W (l := [_, _]) func27 Z ntmps27 Z (q2 (o_box H Z Z Z ?_)); intro b3 w3 hb3 H
 refine o_box H Z Z Z ?_; intro b4 w4 hb4 H
 refine aG Z (q3 (W_seq (q2 (o_fieldAddr 0 runUnderlying44 Z sizeOf28 Z Z Z (o_load_B 1 H isAgg28 Z Z Z Z (o_fieldAddr 0 runUnderlying44 Z sizeOf28 Z Z Z (o_load_B 0 H isAgg28 Z Z Z Z (o_call call62 Z Z (w_eqHeldS_c _ _ H.sub _ _ hr1 _ _ hr2 (congrArg BVol.store hab)) ?_))))))))
 rintro _ w5 ⟨rfl, ew5⟩; have H := H.step ew5; refine ⟨_, rfl, ?_⟩
 refine o_not Z Z (q3 (W_false Z (W_skip (N_K (W_seq (q2 (o_fieldAddr 1 runUnderlying44 Z sizeOf29 Z Z Z (o_load_B 1 H isAgg29 Z Z Z Z (o_fieldAddr 1 runUnderlying44 Z sizeOf29 Z Z Z (o_load_B 0 H isAgg29 Z Z Z Z (o_call call63 Z Z (w_eqItemS_c _ _ H.sub _ _ hr1' _ _ hr2' (congrArg BVol.tree hab)) ?_)))))))))))
 rintro _ w6 ⟨rfl, ew6⟩; have H := H.step ew6; refine ⟨_, rfl, ?_⟩
 refine o_not Z Z (q3 (W_false Z (W_skip (N_K (q2 (aG Z (q3 (W_ret (rt1 results27 Z ?_)))))))))
 exact H.rets Z
theorem w_toVolume_c (w0 : World) (G0 : PH) (hG : PSub G0 w0) (ca : List Value) (a : BVol) (ha : volE G0 a ca)  :
  Calls Tryz.prog 24 #[.agg ca.toArray] w0 (RetN w0 G0 (fun v Bs => ∃ (v1 v2 : Value) (F1 F2 : Fr), v = .agg #[v1, v2] ∧ Bs = [frag F1, frag F2] ∧ OHs F1 v1 a.store ∧ OIs F2 v2 a.tree)) := by
 obtain ⟨a1, m1, c1, a1', m1', c1', rfl, hr1, hr1'⟩ := ha; have hn_hr1 := hr1.len; have hx_hr1 : _ ≤ 1099511627776 := hr1.lim; have hn_hr1q := hr1'.len; have hx_hr1q : _ ≤ 1099511627776 := hr1'.lim
 have H := Hp.init hG
 refine calls_of_W (l := [_]) func24 Z ntmps24 Z (q2 (o_box H Z Z Z ?_)); intro b2 w2 hb2 H
 refine o_alloc H zeroValue44 Z Z ?_; intro b3 w3 hb3 H
 refine q1 (o_alloc H zeroValue44 Z Z ?_); intro b4 w4 hb4 H
 refine q1 (o_fieldAddr 0 runUnderlying40 Z sizeOf22 Z Z Z (o_load_B 2 H isAgg22 Z Z Z Z (o_call call56 Z Z (w_toHeldS_c _ _ H.sub _ _ hr1 ) ?_)))
 rintro _ w5 ⟨_, _, rfl, H5', ⟨F5, rfl, hO5⟩⟩
 have H := H.readers (fp := []) (by simp) (PLe.refl _) H5'
 obtain ⟨e25, hP5⟩ := hO5
 obtain ⟨sa5, sc5, rfl⟩ := OwnS.shape hP5
 have hO5 := OHs.mk hP5
 refine ⟨_, Z, ?_⟩
 refine o_fieldAddr 0 runUnderlying44 Z sizeOf28 Z Z Z (o_store_B 1 H sizeOf28 Z Z Z Z Z Z Z Z ?_); intro w6 H
 refine q1 (o_fieldAddr 1 runUnderlying40 Z sizeOf23 Z Z Z (o_load_B 3 H isAgg23 Z Z Z Z (o_call call57 Z Z (w_toItemS_c _ _ H.sub _ _ hr1' ) ?_)))
 rintro _ w7 ⟨_, _, rfl, H7', ⟨F7, rfl, hO7⟩⟩
 have H := H.readers (fp := []) (by simp) (PLe.refl _) H7'
 obtain ⟨e27, hP7⟩ := hO7
 obtain ⟨sa7, sc7, rfl⟩ := OwnS.shape hP7
 have hO7 := OIs.mk hP7
 refine ⟨_, Z, ?_⟩
 refine o_fieldAddr 1 runUnderlying44 Z sizeOf29 Z Z Z (o_store_B 2 H sizeOf29 Z Z Z Z Z Z Z Z ?_); intro w8 H
 refine q1 (o_loadagg_B 2 H isAgg44 sizeOf44 Z Z Z Z Z (o_store_B 3 H sizeOf44 Z Z Z Z Z Z Z Z ?_)); intro w9 H
 refine q3 (W_ret (ret_gen (rs := [.cell 2 44]) (vs := [_]) results24 ⟨⟨_, Z, load_blk 3 H isAgg44 sizeOf44 Z Z Z⟩, trivial⟩ ?_))
 have H := H.del (k := 2) rfl
 have H := H.del (k := 2) rfl
 have H := H.del (k := 2) rfl
 have H := H.toFront (k := 1) rfl
 have H := H.forget hG (by simp)
 exact ⟨_, _, Z, H, _, _, _, _, Z, Z, hO5, hO7⟩
theorem w_heldVolume_c (w0 : World) (G0 : PH) (hG : PSub G0 w0) (cb : List Value) (b : BVol) (hb : volE G0 b cb) (k : Int) (a : BVol) (hab : b = mVol k a) (hb2 : 0 ≤ k ∧ k + (cVol a : Int) ≤ 2199023255552) :
  Calls Tryz.prog 31 #[.agg cb.toArray, .int .i64 k] w0 (Rets w0 (.int .i64 (k + (cVol a : Int)))) := by
 obtain ⟨a1, m1, c1, a1', m1', c1', rfl, hr1, hr1'⟩ := hb; have hn_hr1 := hr1.len; have hx_hr1 : _ ≤ 1099511627776 := hr1.lim; have hn_hr1q := hr1'.len; have hx_hr1q : _ ≤ 1099511627776 := hr1'.lim
 have hcd : cVol a = cnt cHeld a.store + cnt cItem a.tree := rfl
 have H := Hp.init hG
 refine calls_of_W (l := [_, .int .i64 k]) func31 Z ntmps31 Z (q2 (o_box H Z Z Z ?_)); intro b2 w2 hb2 H
 refine aG Z (q1 (o_fieldAddr 0 runUnderlying44 Z sizeOf28 Z Z Z (o_load_B 0 H isAgg28 Z Z Z Z (mV Z ?_))))
 refine o_call call68 Z Z (w_heldHeldS_c _ _ H.sub _ _ hr1 _ a.store (by (rw [hab]; rfl)) oO) ?_
 rintro _ w3 ⟨rfl, ew3⟩; have H := H.step ew3; refine ⟨_, rfl, ?_⟩
 refine aG Z (q3 (W_seq (q2 (mV Z (o_lss Z Z Z (q3 ?_))))))
 refine W_cond Z ?_ ?_
 ·intro hc4
  try simp only [nrm] at hc4
  refine q2 (aG Z (q3 (W_ret (N_K_ret (rt1 results31 Z ?_)))))
  first | exact H.rets (congrArg (Value.int .i64) oM) | exact absurd (show False from by omega) id
 intro hc4'
 try simp only [nrm] at hc4'
 refine W_skip (N_K (q2 (o_fieldAddr 1 runUnderlying44 Z sizeOf29 Z Z Z (o_load_B 0 H isAgg29 Z Z Z Z (mV Z ?_)))))
 refine o_call call69 Z Z (w_heldItemS_c _ _ H.sub _ _ hr1' _ a.tree (by (rw [hab]; rfl)) oO) ?_
 rintro _ w5 ⟨rfl, ew5⟩; have H := H.step ew5; refine ⟨_, rfl, ?_⟩
 refine aG Z (q3 (W_seq (q2 (mV Z (o_lss Z Z Z (q3 ?_))))))
 refine W_cond Z ?_ ?_
 ·intro hc6
  try simp only [nrm] at hc6
  refine q2 (aG Z (q3 (W_ret (N_K_ret (rt1 results31 Z ?_)))))
  first | exact H.rets (congrArg (Value.int .i64) oM) | exact absurd (show False from by omega) id
 intro hc6'
 try simp only [nrm] at hc6'
 refine W_skip (N_K (q2 (mV Z (aG Z (q3 (W_ret (rt1 results31 Z ?_)))))))
 first | exact H.rets (congrArg (Value.int .i64) oM) | exact absurd (show False from by omega) id
theorem w_markVolume_c (w0 : World) (G0 : PH) (hG : PSub G0 w0) (Fa1 Fa2 : Fr) (va1 va2 : Value) (a : BVol) (hO1 : OHs Fa1 va1 a.store) (hO2 : OIs Fa2 va2 a.tree) (k : Int) (hLent : Lent w0 G0 [frag Fa1, frag Fa2]) (hb : 0 ≤ k ∧ k + (cVol a : Int) ≤ 2199023255552) :
  Calls Tryz.prog 29 #[.agg #[va1, va2], .int .i64 k] w0 (RetM w0 G0 (fps [frag Fa1, frag Fa2]) (fun G' v Bs => ∃ (F1 F2 : Fr), v = .int .i64 (k + (cVol a : Int)) ∧ Bs = [frag F1, frag F2] ∧ OHs F1 va1 (mVol k a).store ∧ OIs F2 va2 (mVol k a).tree)) := by
 obtain ⟨x1, p1⟩ := hO1
 obtain ⟨sa1, sc1, rfl⟩ := OwnS.shape p1
 obtain ⟨x2, p2⟩ := hO2
 obtain ⟨sa2, sc2, rfl⟩ := OwnS.shape p2
 have hcd : cVol a = cnt cHeld a.store + cnt cItem a.tree := rfl
 have H : Hp w0 G0 (fps [frag Fa1, frag Fa2]) w0 G0 [frag Fa1, frag Fa2] := hLent.hp
 refine calls_of_W (l := [_, .int .i64 k]) func29 Z ntmps29 Z (q2 (o_box H Z Z Z ?_)); intro b1 w1 hb1 H
 refine aG Z (q1 (o_fieldAddr 0 runUnderlying44 Z sizeOf28 Z Z Z (o_load_B 0 H isAgg28 Z Z Z Z (mV Z ?_))))
 have H := H.toFront (k := 1) rfl
 refine o_call call65 Z Z (w_markHeldS_c _ _ H.sub _ _ _ (show OHs Fa1 _ _ from ⟨_, p1⟩) _ H.lent1 oO) ?_
 rintro _ w2 ⟨G2, _, _, rfl, H2', ⟨F2, rfl, rfl, hO2⟩⟩
 have H := H.borrow1 H2'
 refine ⟨_, Z, ?_⟩
 refine aG Z (q1 (o_fieldAddr 1 runUnderlying44 Z sizeOf29 Z Z Z (o_load_B 1 H isAgg29 Z Z Z Z (mV Z ?_))))
 have H := H.toFront (k := 2) rfl
 refine o_call call66 Z Z (w_markItemS_c _ _ H.sub _ _ _ (show OIs Fa2 _ _ from ⟨_, p2⟩) _ H.lent1 oO) ?_
 rintro _ w3 ⟨G3, _, _, rfl, H3', ⟨F3, rfl, rfl, hO3⟩⟩
 have H := H.borrow1 H3'
 refine ⟨_, Z, ?_⟩
 refine aG Z (q1 (mV Z (aG Z (q3 (W_ret (rt1 results29 Z ?_))))))
 have H := H.del (k := 2) rfl
 have H := H.toFront (k := 1) rfl
 exact H.retM ⟨_, _, congrArg (Value.int .i64) oM, Z, (show _ from hO2), (show _ from hO3)⟩
end Go.Proofs.Tst

namespace Go.Proofs.Tst
open Go Fw Tryz
theorem xVolumeWrite_c (w0 : World) (G0 : PH) (hG : PSub G0 w0) (caV : List Value) (aV : BVol) (haV : volE G0 aV caV) (aPath : Bs) (haPath : aPath.length ≤ 16777216) (vaBytes : Value) (aBytes : List (Int)) (haBytes : RdI G0 vaBytes aBytes)  :
  Calls Tryz.prog 4 #[.agg caV.toArray, str aPath, vaBytes] w0 (Rets w0 (.bool true)) := by
 obtain ⟨a1, m1, c1, a1', m1', c1', rfl, hr1, hr1'⟩ := haV; have hn_hr1 := hr1.len; have hx_hr1 : _ ≤ 1099511627776 := hr1.lim; have hn_hr1q := hr1'.len; have hx_hr1q : _ ≤ 1099511627776 := hr1'.lim
 obtain ⟨aaBytes, kaBytes, rfl⟩ := haBytes.shape
 have hlimaBytes : aBytes.length ≤ 1099511627776 := haBytes.lim
 have hci := cnt_ints aBytes
 have hcd0 := cVol_le aV
 have hcD : cVol ((Sp.VolumeWrite aV aPath aBytes).getD ⟨[], []⟩) ≤ 232 := vol_cnt2 (fun d1 h => Sp.vwrite_valid h)
 have H := Hp.init hG
 refine calls_of_W (l := [_, str aPath, .slice aaBytes aBytes.length kaBytes]) func4 Z ntmps4 Z (q2 (o_box H Z Z Z ?_)); intro b2 w2 hb2 H
 refine aG Z (q3 (W_seq (q2 (mV Z (o_len_str underlying9 Z Z (o_gtr Z Z Z (q3 ?_)))))))
 refine W_cond Z ?_ ?_
 ·intro hc3
  try simp only [nrm] at hc3
  refine q2 (aG Z (q3 (W_ret (N_K_ret (rt1 results4 Z ?_)))))
  exact H.rets Z
 intro hc3'
 try simp only [nrm] at hc3'
 refine W_skip (N_K (W_seq (q2 (mV Z (o_len_slice underlying41 Z Z (o_gtr Z Z Z (q3 ?_)))))))
 refine W_cond Z ?_ ?_
 ·intro hc4
  try simp only [nrm] at hc4
  refine q2 (aG Z (q3 (W_ret (N_K_ret (rt1 results4 Z ?_)))))
  exact H.rets Z
 intro hc4'
 try simp only [nrm] at hc4'
 refine W_skip (N_K (q2 (aG Z (q1 (o_loadagg_B 0 H isAgg40 sizeOf40 Z Z Z Z Z (mV Z (o_call call22 Z Z (w_szVolume_c _ _ H.sub _ aV ⟨_, _, _, _, _, _, Z, hr1, hr1'⟩ _ oO) ?_)))))))
 rintro _ w5 ⟨_, rfl, ew5, ⟨r5, rfl, hra5⟩⟩
 skip
 have H := H.step ew5; refine ⟨_, rfl, ?_⟩
 refine aG Z (q3 (W_seq (q2 (mV Z (o_lss Z Z Z (q3 ?_))))))
 refine W_cond Z ?_ ?_
 ·intro hc6
  try simp only [nrm] at hc6
  refine q2 (aG Z (q3 (W_ret (N_K_ret (rt1 results4 Z ?_)))))
  exact H.rets Z
 intro hc6'
 try simp only [nrm] at hc6'
 refine W_skip (N_K (q2 (o_loadagg_B 0 H isAgg40 sizeOf40 Z Z Z Z Z (o_call call24 Z Z (w_toVolume_c _ _ H.sub _ aV ⟨_, _, _, _, _, _, Z, hr1, hr1'⟩ ) ?_))))
 rintro _ w7 ⟨_, _, rfl, H7', ⟨u17, u27, D17, D27, rfl, rfl, ho17, ho27⟩⟩
 have H := H.readers (fp := []) (by simp) (PLe.refl _) H7'
 obtain ⟨x17, p17⟩ := ho17
 obtain ⟨a17, c17, rfl⟩ := OwnS.shape p17
 obtain ⟨x27, p27⟩ := ho27
 obtain ⟨a27, c27, rfl⟩ := OwnS.shape p27
 refine ⟨_, Z, ?_⟩
 refine mV Z (mV Z (o_call call25 Z Z (w_toIntS_c _ _ H.sub _ _ haBytes ) ?_))
 rintro _ w8 ⟨G8, v8, _, g8, rfl, ⟨cs8, rfl, hchk8⟩, hp8, hq8, hs8⟩
 have H := H.growO g8 hp8 hq8 hs8; obtain ⟨av8, cv8, rfl⟩ := H.accShape (k := 0) rfl
 have hr1 := hr1.up g8.le
 have hr1' := hr1'.up g8.le
 have haBytes := haBytes.up g8.le
 refine ⟨_, Z, ?_⟩
 have hnd10 := dm_nodup H (k := 1) rfl; obtain ⟨G10, H, hsg10, hsf10⟩ := H.keepF (k := 1) rfl (by simp); have hsr10 := (show OHs _ _ _ from ⟨_, p17⟩).rd hsf10 hnd10
 have hr1 := hr1.up hsg10
 have hr1' := hr1'.up hsg10
 have haBytes := haBytes.up hsg10
 have hchk8 := hchk8.up hsg10
 have hnd11 := dm_nodup H (k := 1) rfl; obtain ⟨G11, H, hsg11, hsf11⟩ := H.keepF (k := 1) rfl (by simp); have hsr11 := (show OIs _ _ _ from ⟨_, p27⟩).rd hsf11 hnd11
 have hr1 := hr1.up hsg11
 have hr1' := hr1'.up hsg11
 have haBytes := haBytes.up hsg11
 have hchk8 := hchk8.up hsg11
 have hsr10 := hsr10.up hsg11
 obtain ⟨G12, H, hsg12, hsr12⟩ := H.shut' (k := 0) rfl hchk8 aN aN
 have hr1 := hr1.up hsg12
 have hr1' := hr1'.up hsg12
 have haBytes := haBytes.up hsg12
 have hsr10 := hsr10.up hsg12
 have hsr11 := hsr11.up hsg12
 refine o_call call23 Z Z (VolumeWriteP_c _ _ H.sub _ aV ⟨_, _, _, _, _, _, Z, hsr10, hsr11⟩ _ haPath _ _ hsr12 ) ?_
 rintro _ w9 ⟨G9, _, g9, rfl, u9_0, rfl, hr9_0⟩
 have H := H.grow g9
 have hr1 := hr1.up g9.le
 have hr1' := hr1'.up g9.le
 have haBytes := haBytes.up g9.le
 obtain ⟨a13, m13, c13, a13', m13', c13', rfl, hr13, hr13'⟩ := hr9_0; have hn_hr13 := hr13.len; have hx_hr13 : _ ≤ 1099511627776 := hr13.lim; have hn_hr13q := hr13'.len; have hx_hr13q : _ ≤ 1099511627776 := hr13'.lim
 refine ⟨_, Z, ?_⟩
 refine mV Z (o_extract Z Z Z (o_extract Z Z Z (o_alloc H zeroValue44 Z Z ?_))); intro b14 w14 hb14 H
 refine o_store_B 0 H sizeOf44 Z Z Z Z Z Z Z Z ?_; intro w15 H
 refine aG Z (q1 (o_loadagg_B 1 H isAgg40 sizeOf40 Z Z Z Z Z (o_call call24 Z Z (w_toVolume_c _ _ H.sub _ aV ⟨_, _, _, _, _, _, Z, hr1, hr1'⟩ ) ?_)))
 rintro _ w16 ⟨_, _, rfl, H16', ⟨u116, u216, D116, D216, rfl, rfl, ho116, ho216⟩⟩
 have H := H.readers (fp := []) (by simp) (PLe.refl _) H16'
 obtain ⟨x116, p116⟩ := ho116
 obtain ⟨a116, c116, rfl⟩ := OwnS.shape p116
 obtain ⟨x216, p216⟩ := ho216
 obtain ⟨a216, c216, rfl⟩ := OwnS.shape p216
 refine ⟨_, Z, ?_⟩
 refine o_alloc H zeroValue44 Z Z ?_; intro b17 w17 hb17 H
 refine o_store_B 0 H sizeOf44 Z Z Z Z Z Z Z Z ?_; intro w18 H
 refine q1 (mV Z (o_call call25 Z Z (w_toIntS_c _ _ H.sub _ _ haBytes ) ?_))
 rintro _ w19 ⟨G19, v19, _, g19, rfl, ⟨cs19, rfl, hchk19⟩, hp19, hq19, hs19⟩
 have H := H.growO g19 hp19 hq19 hs19; obtain ⟨av19, cv19, rfl⟩ := H.accShape (k := 0) rfl
 have hr1 := hr1.up g19.le
 have hr1' := hr1'.up g19.le
 have haBytes := haBytes.up g19.le
 have hr13 := hr13.up g19.le
 have hr13' := hr13'.up g19.le
 refine ⟨_, Z, ?_⟩
 refine aG Z (q1 (o_loadagg_B 1 H isAgg44 sizeOf44 Z Z Z Z Z (mV Z (mV Z (o_call call26 Z Z (i_VolumeWrite_c _ _ (H.lendSubL [0, 2, 3]) _ aV ⟨_, _, _, _, _, _, Z, (H.lendOHs (k := 2) (ks := [0, 2, 3]) Z Z ⟨_, p116⟩), (H.lendOIs (k := 3) (ks := [0, 2, 3]) Z Z ⟨_, p216⟩)⟩ _ haPath _ _ (H.lendRdL (k := 0) (ks := [0, 2, 3]) Z Z hchk19 aN aN) ) ?_)))))
 rintro _ w20 ⟨_, _, rfl, H20', ⟨u120, u220, E120, E220, rfl, rfl, ho120, ho220⟩⟩
 have H := H.readersL H20'
 obtain ⟨x120, p120⟩ := ho120
 obtain ⟨a120, c120, rfl⟩ := OwnS.shape p120
 obtain ⟨x220, p220⟩ := ho220
 obtain ⟨a220, c220, rfl⟩ := OwnS.shape p220
 refine ⟨_, Z, ?_⟩
 refine mV Z (o_extract Z Z Z (o_extract Z Z Z (o_alloc H zeroValue44 Z Z ?_))); intro b21 w21 hb21 H
 refine o_store_B 0 H sizeOf44 Z Z Z Z Z Z Z Z ?_; intro w22 H
 refine aG Z (q3 (W_seq (q2 (o_loadagg_B 0 H isAgg44 sizeOf44 Z Z Z Z Z (o_loadagg_B 7 H isAgg44 sizeOf44 Z Z Z Z Z (o_call call27 Z Z (w_eqVolume_c _ _ (H.lendSubL [1, 2]) _ ((Sp.VolumeWrite aV aPath aBytes).getD ⟨[], []⟩) ⟨_, _, _, _, _, _, Z, (H.lendOHs (k := 1) (ks := [1, 2]) Z Z ⟨_, p120⟩), (H.lendOIs (k := 2) (ks := [1, 2]) Z Z ⟨_, p220⟩)⟩ _ ((Sp.VolumeWrite aV aPath aBytes).getD ⟨[], []⟩) ⟨_, _, _, _, _, _, Z, (hr13.up (PPlus.le _ _ _)), (hr13'.up (PPlus.le _ _ _))⟩ Z) ?_))))))
 rintro _ w23 ⟨rfl, ew23⟩; have H := H.step ew23; refine ⟨_, rfl, ?_⟩
 refine o_not Z Z (mV Z (gR Z (mV Z (gR Z (mV Z (gR Z (o_bneq_same underlying4 Z Z Z (o_pick_f Z Z Z (q3 (W_false Z (W_skip (N_K (W_seq (W_seq (W_drawK [0, 4, 7, 8] 5 H kR Z ?_))))))))))))))); intro w24 H; have hd24 := PLe.refl G19
 refine RD_t 0 Z kR Z (fun _ hK => v_loadagg_B 1 hK isAgg44 sizeOf44 Z Z Z Z) (RD_t 1 Z kR Z (fun _ hK => v_loadagg_B 3 hK isAgg40 sizeOf40 Z Z Z Z) ?_)
 refine RD_run [2] kR Z (RDs.cons Z ?_ RDs.nil)
 refine o_call call24 Z Z (w_toVolume_c _ _ H.sub _ aV ⟨_, _, _, _, _, _, Z, hr1, hr1'⟩ ) ?_
 rintro _ w25 ⟨_, _, rfl, H25', ⟨u125, u225, D125, D225, rfl, rfl, ho125, ho225⟩⟩
 have H := H.readers (fp := []) (by simp) (PLe.refl _) H25'
 obtain ⟨x125, p125⟩ := ho125
 obtain ⟨a125, c125, rfl⟩ := OwnS.shape p125
 obtain ⟨x225, p225⟩ := ho225
 obtain ⟨a225, c225, rfl⟩ := OwnS.shape p225
 refine ⟨_, Z, ?_⟩
 refine R_nil (N_DK (Kn.of' H hd24 (SubL.cons 2 Z (SubL.cons 6 Z (SubL.cons 9 Z (SubL.cons 10 Z SubL.nil))))) ?_)
 refine RD_run [3] kR Z (RDs.cons Z ?_ RDs.nil)
 refine o_call call27 Z Z (w_eqVolume_c _ _ (H.lendSubL [0, 1, 7, 8]) _ aV ⟨_, _, _, _, _, _, Z, (H.lendOHs (k := 7) (ks := [0, 1, 7, 8]) Z Z ⟨_, p116⟩), (H.lendOIs (k := 8) (ks := [0, 1, 7, 8]) Z Z ⟨_, p216⟩)⟩ _ aV ⟨_, _, _, _, _, _, Z, (H.lendOHs (k := 0) (ks := [0, 1, 7, 8]) Z Z ⟨_, p125⟩), (H.lendOIs (k := 1) (ks := [0, 1, 7, 8]) Z Z ⟨_, p225⟩)⟩ Z) ?_
 rintro _ w26 ⟨rfl, ew26⟩; have H := H.step ew26; refine ⟨_, rfl, ?_⟩
 refine R_nil (N_DK (Kn.of' H hd24 (SubL.cons 2 Z (SubL.cons 6 Z (SubL.cons 9 Z (SubL.cons 10 Z SubL.nil))))) (RD_t 4 Z kR Z (fun _ hK => v_not Z) (RD_done kR (N_K (W_false Z (W_skip (N_K (W_seq (q2 (mV Z (mV Z (o_call call25 Z Z (w_toIntS_c _ _ H.sub _ _ haBytes ) ?_))))))))))))
 rintro _ w27 ⟨G27, v27, _, g27, rfl, ⟨cs27, rfl, hchk27⟩, hp27, hq27, hs27⟩
 have H := H.growO g27 hp27 hq27 hs27; obtain ⟨av27, cv27, rfl⟩ := H.accShape (k := 0) rfl
 have hr1 := hr1.up g27.le
 have hr1' := hr1'.up g27.le
 have haBytes := haBytes.up g27.le
 have hr13 := hr13.up g27.le
 have hr13' := hr13'.up g27.le
 have hchk19 := hchk19.up g27.le
 refine ⟨_, Z, ?_⟩
 refine o_call call28 Z Z (w_eqIntS_c _ _ (H.lendSubL [0, 6]) _ _ (H.lendRdL (k := 6) (ks := [0, 6]) Z Z hchk19 aN aN) _ _ (H.lendRdL (k := 0) (ks := [0, 6]) Z Z hchk27 aN aN) Z) ?_
 rintro _ w28 ⟨rfl, ew28⟩; have H := H.step ew28; refine ⟨_, rfl, ?_⟩
 refine o_not Z Z (q3 (W_false Z (W_skip (N_K (q2 (aG Z (q1 (o_loadagg_B 7 H isAgg44 sizeOf44 Z Z Z Z Z (mV Z ?_)))))))))
 have H := H.toFront (k := 9) rfl
 have H := H.toFront (k := 9) rfl
 refine o_call call29 Z Z (w_markVolume_c _ _ H.sub _ _ _ _ aV ⟨_, p116⟩ ⟨_, p216⟩ _ H.lent2 oO) ?_
 rintro _ w29 ⟨G29, _, _, rfl, H29', ⟨K129, K229, rfl, rfl, hK129, hK229⟩⟩
 have hr1 := hr1.up H29'.le
 have hr1' := hr1'.up H29'.le
 have haBytes := haBytes.up H29'.le
 have hr13 := hr13.up H29'.le
 have hr13' := hr13'.up H29'.le
 have hchk19 := hchk19.up H29'.le
 have H := H.borrow2 H29'
 refine ⟨_, Z, ?_⟩
 refine aG Z (q1 (mV Z (mV Z ?_)))
 obtain ⟨Fi1, H, hOI1⟩ := H.ownI (k := 8) rfl hchk19 aN aN
 refine o_call call30 Z Z (w_markIntS_c _ _ H.sub _ _ _ hOI1 _ H.lent1 oO) ?_
 rintro _ w30 ⟨G30, _, _, rfl, H30', ⟨F30, rfl, rfl, hO30⟩⟩
 have hr1 := hr1.up H30'.le
 have hr1' := hr1'.up H30'.le
 have haBytes := haBytes.up H30'.le
 have hr13 := hr13.up H30'.le
 have hr13' := hr13'.up H30'.le
 have H := H.borrow1 H30'
 refine ⟨_, Z, ?_⟩
 refine aG Z (q3 (W_seq (q2 (mV Z (o_lss Z Z Z (mV Z ?_))))))
 refine R_case (t := 77) Z ?_ ?_
 ·intro hc31
  try simp only [nrm] at hc31
  exact absurd (show False from by first | omega | (simp at hc31; done) | exact hc31 rfl) id
 intro hc31'
 try simp only [nrm] at hc31'
 refine gR Z (o_loadagg_B 6 H isAgg44 sizeOf44 Z Z Z Z Z (gR Z (o_loadagg_B 10 H isAgg44 sizeOf44 Z Z Z Z Z (gR Z (o_call call27 Z Z (w_eqVolume_c _ _ (H.lendSubL [7, 8]) _ ((Sp.VolumeWrite aV aPath aBytes).getD ⟨[], []⟩) ⟨_, _, _, _, _, _, Z, (H.lendOHs (k := 7) (ks := [7, 8]) Z Z ⟨_, p120⟩), (H.lendOIs (k := 8) (ks := [7, 8]) Z Z ⟨_, p220⟩)⟩ _ ((Sp.VolumeWrite aV aPath aBytes).getD ⟨[], []⟩) ⟨_, _, _, _, _, _, Z, (hr13.up (PPlus.le _ _ _)), (hr13'.up (PPlus.le _ _ _))⟩ Z) ?_)))))
 rintro _ w32 ⟨rfl, ew32⟩; have H := H.step ew32; refine ⟨_, rfl, ?_⟩
 refine gR Z (o_not Z Z (o_pick_f Z Z Z (mV Z (gR Z (mV Z (gR Z (mV Z (gR Z (o_bneq_same underlying4 Z Z Z (o_pick_f Z Z Z (q3 (W_false Z (W_skip (N_K (q2 ?_)))))))))))))))
 refine aG Z (q1 (o_loadagg_B 6 H isAgg44 sizeOf44 Z Z Z Z Z (mV Z ?_)))
 have H := H.toFront (k := 8) rfl
 have H := H.toFront (k := 8) rfl
 refine o_call call29 Z Z (w_markVolume_c _ _ H.sub _ _ _ _ ((Sp.VolumeWrite aV aPath aBytes).getD ⟨[], []⟩) ⟨_, p120⟩ ⟨_, p220⟩ _ H.lent2 oO) ?_
 rintro _ w33 ⟨G33, _, _, rfl, H33', ⟨K133, K233, rfl, rfl, hK133, hK233⟩⟩
 have hr1 := hr1.up H33'.le
 have hr1' := hr1'.up H33'.le
 have haBytes := haBytes.up H33'.le
 have hr13 := hr13.up H33'.le
 have hr13' := hr13'.up H33'.le
 have H := H.borrow2 H33'
 refine ⟨_, Z, ?_⟩
 refine aG Z (q1 (aG Z (q1 (o_loadagg_B 8 H isAgg44 sizeOf44 Z Z Z Z Z (mV Z (o_call call31 Z Z (w_heldVolume_c _ _ (H.lendSubL [0, 1]) _ (mVol 1 ((Sp.VolumeWrite aV aPath aBytes).getD ⟨[], []⟩)) ⟨_, _, _, _, _, _, Z, (H.lendOHs (k := 0) (ks := [0, 1]) Z Z hK133), (H.lendOIs (k := 1) (ks := [0, 1]) Z Z hK233)⟩ _ ((Sp.VolumeWrite aV aPath aBytes).getD ⟨[], []⟩) Z oO) ?_))))))
 rintro _ w34 ⟨rfl, ew34⟩; have H := H.step ew34; refine ⟨_, rfl, ?_⟩
 refine aG Z (q3 (W_seq (q2 (mV Z (o_lss Z Z Z (q3 ?_))))))
 refine W_cond Z ?_ ?_
 ·intro hc35
  try simp only [nrm] at hc35
  exact absurd (show False from by first | omega | (simp at hc35; done) | exact hc35 rfl) id
 intro hc35'
 try simp only [nrm] at hc35'
 refine W_skip (N_K (W_seq (q2 (mV Z (mV Z (o_neq Z Z Z (q3 ?_)))))))
 refine W_cond Z ?_ ?_
 ·intro hc36
  try simp only [nrm] at hc36
  exact absurd (show False from by first | omega | (simp at hc36; done) | exact hc36 rfl) id
 intro hc36'
 try simp only [nrm] at hc36'
 refine W_skip (N_K (q2 (o_loadagg_B 11 H isAgg40 sizeOf40 Z Z Z Z Z (o_call call24 Z Z (w_toVolume_c _ _ H.sub _ aV ⟨_, _, _, _, _, _, Z, hr1, hr1'⟩ ) ?_))))
 rintro _ w37 ⟨_, _, rfl, H37', ⟨u137, u237, D137, D237, rfl, rfl, ho137, ho237⟩⟩
 have H := H.readers (fp := []) (by simp) (PLe.refl _) H37'
 obtain ⟨x137, p137⟩ := ho137
 obtain ⟨a137, c137, rfl⟩ := OwnS.shape p137
 obtain ⟨x237, p237⟩ := ho237
 obtain ⟨a237, c237, rfl⟩ := OwnS.shape p237
 refine ⟨_, Z, ?_⟩
 refine mV Z (mV Z (o_call call25 Z Z (w_toIntS_c _ _ H.sub _ _ haBytes ) ?_))
 rintro _ w38 ⟨G38, v38, _, g38, rfl, ⟨cs38, rfl, hchk38⟩, hp38, hq38, hs38⟩
 have H := H.growO g38 hp38 hq38 hs38; obtain ⟨av38, cv38, rfl⟩ := H.accShape (k := 0) rfl
 have hr13 := hr13.up g38.le
 have hr13' := hr13'.up g38.le
 refine ⟨_, Z, ?_⟩
 refine o_call call26 Z Z (i_VolumeWrite_c _ _ (H.lendSubL [0, 1, 2]) _ aV ⟨_, _, _, _, _, _, Z, (H.lendOHs (k := 1) (ks := [0, 1, 2]) Z Z ⟨_, p137⟩), (H.lendOIs (k := 2) (ks := [0, 1, 2]) Z Z ⟨_, p237⟩)⟩ _ haPath _ _ (H.lendRdL (k := 0) (ks := [0, 1, 2]) Z Z hchk38 aN aN) ) ?_
 rintro _ w39 ⟨_, _, rfl, H39', ⟨u139, u239, E139, E239, rfl, rfl, ho139, ho239⟩⟩
 have H := H.readersL H39'
 obtain ⟨x139, p139⟩ := ho139
 obtain ⟨a139, c139, rfl⟩ := OwnS.shape p139
 obtain ⟨x239, p239⟩ := ho239
 obtain ⟨a239, c239, rfl⟩ := OwnS.shape p239
 refine ⟨_, Z, ?_⟩
 refine mV Z (o_extract Z Z Z (o_extract Z Z Z (o_alloc H zeroValue44 Z Z ?_))); intro b40 w40 hb40 H
 refine o_store_B 0 H sizeOf44 Z Z Z Z Z Z Z Z ?_; intro w41 H
 refine aG Z (q3 (W_seq (q2 (o_loadagg_B 0 H isAgg44 sizeOf44 Z Z Z Z Z (o_loadagg_B 16 H isAgg44 sizeOf44 Z Z Z Z Z (o_call call27 Z Z (w_eqVolume_c _ _ (H.lendSubL [1, 2]) _ ((Sp.VolumeWrite aV aPath aBytes).getD ⟨[], []⟩) ⟨_, _, _, _, _, _, Z, (H.lendOHs (k := 1) (ks := [1, 2]) Z Z ⟨_, p139⟩), (H.lendOIs (k := 2) (ks := [1, 2]) Z Z ⟨_, p239⟩)⟩ _ ((Sp.VolumeWrite aV aPath aBytes).getD ⟨[], []⟩) ⟨_, _, _, _, _, _, Z, (hr13.up (PPlus.le _ _ _)), (hr13'.up (PPlus.le _ _ _))⟩ Z) ?_))))))
 rintro _ w42 ⟨rfl, ew42⟩; have H := H.step ew42; refine ⟨_, rfl, ?_⟩
 refine o_not Z Z (mV Z (gR Z (mV Z (gR Z (mV Z (gR Z (o_bneq_same underlying4 Z Z Z (o_pick_f Z Z Z (q3 (W_false Z (W_skip (N_K (q2 (aG Z (q1 ?_)))))))))))))))
 refine o_loadagg_B 14 H isAgg44 sizeOf44 Z Z Z Z Z (mV Z (o_call call31 Z Z (w_heldVolume_c _ _ (H.lendSubL [6, 7]) _ (mVol 1 ((Sp.VolumeWrite aV aPath aBytes).getD ⟨[], []⟩)) ⟨_, _, _, _, _, _, Z, (H.lendOHs (k := 6) (ks := [6, 7]) Z Z hK133), (H.lendOIs (k := 7) (ks := [6, 7]) Z Z hK233)⟩ _ ((Sp.VolumeWrite aV aPath aBytes).getD ⟨[], []⟩) Z oO) ?_))
 rintro _ w43 ⟨rfl, ew43⟩; have H := H.step ew43; refine ⟨_, rfl, ?_⟩
 refine aG Z (q3 (W_seq (q2 (mV Z (o_lss Z Z Z (q3 ?_))))))
 refine W_cond Z ?_ ?_
 ·intro hc44
  try simp only [nrm] at hc44
  exact absurd (show False from by first | omega | (simp at hc44; done) | exact hc44 rfl) id
 intro hc44'
 try simp only [nrm] at hc44'
 refine W_skip (N_K (W_seq (q2 (mV Z (mV Z (o_neq Z Z Z (q3 ?_)))))))
 refine W_cond Z ?_ ?_
 ·intro hc45
  try simp only [nrm] at hc45
  exact absurd (show False from by first | omega | (simp at hc45; done) | exact hc45 rfl) id
 intro hc45'
 try simp only [nrm] at hc45'
 refine W_skip (N_K (q2 (aG Z (q3 (W_ret (rt1 results4 Z ?_))))))
 exact H.rets Z
end Go.Proofs.Tst

namespace Fw
open Go
section
variable {H : Type} {enc : TypeId × Value → H} {P : Program} {W : World}
structure Bulk (bk : DataW H → Nat) (bka : List (DataW H) → Nat) : Prop where
 slice : ∀ es sp, bk (.slice es sp) = bka es + bka sp + 1
 agg : ∀ ps, bk (.agg ps) = bka ps + 1
 str : ∀ b, bk (.lit (.string b)) = b.length + 1
 nil : bka [] = 0
 cons : ∀ d r, bka (d :: r) = bk d + bka r
 pos : ∀ d, 1 ≤ bk d
variable {bk : DataW H → Nat} {bka : List (DataW H) → Nat}
theorem Bulk.len (hb : Bulk bk bka) : ∀ l, l.length ≤ bka l
 | [] => by simp
 | d :: r => by
  have h1 := hb.len r
  have h2 := hb.pos d
  rw [hb.cons]
  simp; omega
theorem Bulk.mem (hb : Bulk bk bka) {d : DataW H} : ∀ {l : List (DataW H)}, d ∈ l → bk d ≤ bka l
 | [], h => by simp at h
 | e :: r, h => by
  rw [hb.cons]
  rcases List.mem_cons.1 h with rfl | h
  ·omega
  ·have := hb.mem h
   omega
theorem Bulk.memF (hb : Bulk bk bka) {l : List (DataW H × List MemPlace)} {i : Nat} (hi : i < l.length) : bk (l[i]).1 ≤ bka (l.map (fun x => x.1)) :=
 hb.mem (List.mem_map.2 ⟨l[i], List.getElem_mem hi, rfl⟩)
abbrev Reads (enc : TypeId × Value → H) (P : Program) (W : World) (n : Nat) (t : TypeId) (cs : List Value) : Option (DataW H × List MemPlace) := DataW.trod enc P W 0 (fun _ => true) true n t cs
def Elem (enc : TypeId × Value → H) (P : Program) (W : World) (bk : DataW H → Nat) (t : TypeId) (sz : Nat) {α : Type} (E : PH → α → List Value → Prop) : Prop :=
 ∀ n cs x, Reads enc P W n t cs = some x → bk x.1 ≤ 1048576 → ∃ a, cs.length = sz ∧ E (PAll W) a cs
theorem elem_int {t : TypeId} (ht : P.underlying t = some (.int .i64)) : Elem enc P W bk t 1 intE := by
 intro n cs x h _
 obtain ⟨i, rfl, _, hw⟩ := DataW.trod_int ht h
 refine ⟨i, rfl, rfl, ?_⟩
 simp [Lit.wf, IntKind.min, IntKind.max, IntKind.signed, IntKind.bits] at hw
 exact ⟨by omega, by omega⟩
theorem elem_str (hb : Bulk bk bka) {t : TypeId} (ht : P.underlying t = some .string) : Elem enc P W bk t 1 strE := by
 intro n cs x h hx
 obtain ⟨s, rfl, rfl, _⟩ := DataW.trod_string ht h
 simp only [hb.str] at hx
 exact ⟨s.data.toList, rfl, rfl, by omega⟩
theorem elem_bool {t : TypeId} (ht : P.underlying t = some .bool) : Elem enc P W bk t 1 (fun _ (x : Bool) cs => cs = [.bool x]) := by
 intro n cs x h _
 obtain ⟨b, rfl, _⟩ := DataW.trod_bool ht h
 exact ⟨b, rfl, rfl⟩
theorem list_of {α : Type} {Q : Nat → α → Prop} : ∀ n, (∀ i, i < n → ∃ x, Q i x) → ∃ xs : List α, xs.length = n ∧ ∀ i x, xs[i]? = some x → Q i x
 | 0, _ => ⟨[], rfl, by simp⟩
 | n + 1, h => by
  obtain ⟨xs, h1, h2⟩ := list_of n (fun i hi => h i (by omega))
  obtain ⟨x, hx⟩ := h n (by omega)
  refine ⟨xs ++ [x], by simp [h1], fun i y hy => ?_⟩
  by_cases hi : i < n
  ·rw [List.getElem?_append_left (by omega)] at hy
   exact h2 i y hy
  ·rw [List.getElem?_append_right (by omega)] at hy
   have : i = n := by
    have := (List.getElem?_eq_some_iff.1 hy).1
    simp at this
    omega
   subst this
   simp [h1] at hy
   subst hy
   exact hx
theorem mapM_at {α β : Type} {f : α → Option β} : ∀ {l : List α} {r : List β}, l.mapM f = some r → ∀ (i : Nat) (x : α), l[i]? = some x → f x = r[i]?
 | [], r, h, i, x, hx => by simp at hx
 | y :: t, r, h, i, x, hx => by
  simp only [List.mapM_cons, Option.bind_eq_bind, Option.bind_eq_some_iff, Option.pure_def, Option.some.injEq] at h
  obtain ⟨z, h1, u, h2, rfl⟩ := h
  cases i with
  | zero => simp at hx; subst hx; simpa using h1
  | succ i => simp only [List.getElem?_cons_succ] at hx ⊢; exact mapM_at h2 i x hx
theorem pcell_of {b o : Nat} {v : Value} (h : W.cell? ⟨b, o, none⟩ = some v) : PCell (PAll W) b o v := by
 unfold World.cell? at h
 unfold PCell PAll
 split at h
 ·rename_i C e fz hb
  exact ⟨C, e, fz, hb, by simpa using h⟩
 ·cases h
theorem elem_slice {α : Type} {E : PH → α → List Value → Prop} (hb : Bulk bk bka) {t e : TypeId} {sz : Nat} (ht : P.underlying t = some (.slice e)) (hz : P.cellsOf e = sz) (hsz : 0 < sz) (hE : Elem enc P W bk e sz E) :
  ∀ n cs x, Reads enc P W n t cs = some x → bk x.1 ≤ 1048576 → ∃ v xs, cs = [v] ∧ RdS LIM E sz (PAll W) v xs := by
 intro n cs x h hx
 rcases DataW.trod_slice ht h with ⟨rfl, _⟩ | ⟨a, len, cap, elems, rest, m, _, rfl, rfl, _, h2, _, h4, h5, _, _⟩
 ·exact ⟨_, [], rfl, RdS.nil _ _ _⟩
 ·simp only [hb.slice] at hx
  rw [hz] at h5
  have hle := hb.len (elems.map (·.1))
  rw [List.length_map] at hle
  have hel : ∀ i, i < len → ∃ y : α, ∃ cs, cs.length = sz ∧ E (PAll W) y cs ∧ ∀ j v, cs[j]? = some v → W.cell? ((a.add (i * sz)).add j) = some v := by
   intro i hi
   have h6 := h5 i hi
   rw [List.getElem?_eq_getElem (by omega)] at h6
   obtain ⟨cs, k1, k2⟩ := Option.bind_eq_some_iff.1 h6
   obtain ⟨y, k3, k4⟩ := hE m cs _ k2 (Nat.le_trans (hb.memF (by omega)) (by omega))
   refine ⟨y, cs, k3, k4, fun j v hj => ?_⟩
   unfold World.cells? at k1
   split at k1
   ·have hjl := (List.getElem?_eq_some_iff.1 hj).1
    rw [← hj]
    exact mapM_at k1 j j (by rw [List.getElem?_range (by omega)])
   ·cases k1
  obtain ⟨xs, x1, x2⟩ := list_of len hel
  refine ⟨_, xs, rfl, some a, cap, by rw [x1], by omega, by simp only [LIM]; omega, ?_⟩
  by_cases h0 : len = 0
  ·exact .inl (List.eq_nil_of_length_eq_zero (by omega))
  ·right
   have hspot : a.spot = none := by
    obtain ⟨y, cs, y1, _, y2⟩ := hel 0 (by omega)
    have := World.cell?_spot (y2 0 cs[0] (by simp))
    simpa [Addr.add] using this
   obtain ⟨b, o, sp⟩ := a
   simp only at hspot
   subst hspot
   refine ⟨b, o, rfl, fun i y hy => ?_⟩
   obtain ⟨cs, c1, c2, c3⟩ := x2 i y hy
   refine ⟨cs, c1, c2, fun j v hj => pcell_of ?_⟩
   have := c3 j v hj
   rwa [Addr.add_lit, Addr.add_lit] at this
theorem struct_fields (hb : Bulk bk bka) {t : TypeId} {fs : Array Field} {k : Nat} (ht : P.underlying t = some (.struct fs)) (hk : P.cellsOf t = k) (hall : ∀ (i : Nat) (f : Field), fs[i]? = some f → f.offset = i ∧ P.cellsOf f.type = 1) :
  ∀ n cs x, Reads enc P W n t cs = some x → bk x.1 ≤ 1048576 → cs.length = k ∧ ∀ (i : Nat) (f : Field), fs[i]? = some f → i < k → ∃ v y m, cs[i]? = some v ∧ Reads enc P W m f.type [v] = some y ∧ bk y.1 ≤ 1048576 := by
 intro n cs x h hx
 obtain ⟨xs, m, _, rfl, h1, h2, h3⟩ := DataW.trod_struct ht h
 simp only [hb.agg] at hx
 rw [hk] at h1
 refine ⟨h1, fun i f hf hi => ?_⟩
 have hfi := (Array.getElem?_eq_some_iff.1 hf).1
 obtain ⟨ho, hc⟩ := hall i f hf
 have h4 := h3 i f hf
 rw [ho, hc, List.getElem?_eq_getElem (by omega)] at h4
 have e : (cs.drop i).take 1 = [cs[i]'(by omega)] := by
  rw [List.drop_eq_getElem_cons (by omega)]
  rfl
 rw [e] at h4
 exact ⟨_, _, m, List.getElem?_eq_getElem (by omega), h4, Nat.le_trans (hb.memF (by omega)) (by omega)⟩
theorem two_of {cs : List Value} {a b : Value} (h : cs.length = 2) (h0 : cs[0]? = some a) (h1 : cs[1]? = some b) : cs = [a, b] := by
 match cs, h with
 | [x, y], _ => simp at h0 h1; simp [h0, h1]
theorem three_of {cs : List Value} {a b c : Value} (h : cs.length = 3) (h0 : cs[0]? = some a) (h1 : cs[1]? = some b) (h2 : cs[2]? = some c) : cs = [a, b, c] := by
 match cs, h with
 | [x, y, z], _ => simp at h0 h1 h2; simp [h0, h1, h2]
variable {ti ts tb tis : TypeId}
theorem elem_held (hb : Bulk bk bka) {t : TypeId} {f0 f1 f2 : Field} (ht : P.underlying t = some (.struct #[f0, f1, f2])) (hk : P.cellsOf t = 3) (hall : ∀ (i : Nat) (f : Field), #[f0, f1, f2][i]? = some f → f.offset = i ∧ P.cellsOf f.type = 1)
  (e0 : f0.type = ti) (e1 : f1.type = tis) (e2 : f2.type = ti) (hi : P.underlying ti = some (.int .i64)) (his : P.underlying tis = some (.slice ti)) (hz : P.cellsOf ti = 1) : Elem enc P W bk t 3 heldE := by
 intro n cs x h hx
 obtain ⟨hl, hf⟩ := struct_fields hb ht hk hall n cs x h hx
 obtain ⟨v0, y0, m0, a0, b0, c0⟩ := hf 0 f0 rfl (by omega)
 obtain ⟨v1, y1, m1, a1, b1, c1⟩ := hf 1 f1 rfl (by omega)
 obtain ⟨v2, y2, m2, a2, b2, c2⟩ := hf 2 f2 rfl (by omega)
 rw [e0] at b0; rw [e1] at b1; rw [e2] at b2
 obtain ⟨i0, _, g0, g0'⟩ := elem_int (bk := bk) hi m0 _ _ b0 c0
 obtain ⟨i2, _, g2, g2'⟩ := elem_int (bk := bk) hi m2 _ _ b2 c2
 obtain ⟨v, xs, g1, g1'⟩ := elem_slice hb his hz (by omega) (elem_int hi) m1 _ _ b1 c1
 simp only [List.cons.injEq, and_true] at g0 g1 g2
 subst g0 g1 g2
 obtain ⟨a, c, rfl⟩ := g1'.shape
 exact ⟨⟨i0, xs, i2⟩, hl, _, _, _, three_of hl a0 a1 a2, g0', g1', g2'⟩
theorem elem_item (hb : Bulk bk bka) {t : TypeId} {f0 f1 f2 : Field} (ht : P.underlying t = some (.struct #[f0, f1, f2])) (hk : P.cellsOf t = 3) (hall : ∀ (i : Nat) (f : Field), #[f0, f1, f2][i]? = some f → f.offset = i ∧ P.cellsOf f.type = 1)
  (e0 : f0.type = ts) (e1 : f1.type = tb) (e2 : f2.type = tis) (hs : P.underlying ts = some .string) (hbo : P.underlying tb = some .bool) (hi : P.underlying ti = some (.int .i64)) (his : P.underlying tis = some (.slice ti)) (hz : P.cellsOf ti = 1) : Elem enc P W bk t 3 itemE := by
 intro n cs x h hx
 obtain ⟨hl, hf⟩ := struct_fields hb ht hk hall n cs x h hx
 obtain ⟨v0, y0, m0, a0, b0, c0⟩ := hf 0 f0 rfl (by omega)
 obtain ⟨v1, y1, m1, a1, b1, c1⟩ := hf 1 f1 rfl (by omega)
 obtain ⟨v2, y2, m2, a2, b2, c2⟩ := hf 2 f2 rfl (by omega)
 rw [e0] at b0; rw [e1] at b1; rw [e2] at b2
 obtain ⟨i0, _, g0, g0'⟩ := elem_str hb hs m0 _ _ b0 c0
 obtain ⟨i1, _, g1⟩ := elem_bool (bk := bk) hbo m1 _ _ b1 c1
 obtain ⟨v, xs, g2, g2'⟩ := elem_slice hb his hz (by omega) (elem_int hi) m2 _ _ b2 c2
 simp only [List.cons.injEq, and_true] at g0 g1 g2
 subst g0 g1 g2
 obtain ⟨a, c, rfl⟩ := g2'.shape
 exact ⟨⟨i0, i1, xs⟩, hl, _, _, _, three_of hl a0 a1 a2, g0', g2'⟩
theorem elem_vol (hb : Bulk bk bka) {t the thes tit tits : TypeId} {f0 f1 : Field} (ht : P.underlying t = some (.struct #[f0, f1])) (hk : P.cellsOf t = 2) (hall : ∀ (i : Nat) (f : Field), #[f0, f1][i]? = some f → f.offset = i ∧ P.cellsOf f.type = 1)
  (e0 : f0.type = thes) (e1 : f1.type = tits) (h0 : P.underlying thes = some (.slice the)) (h1 : P.underlying tits = some (.slice tit)) (z0 : P.cellsOf the = 3) (z1 : P.cellsOf tit = 3)
  (hh : Elem enc P W bk the 3 heldE) (hit : Elem enc P W bk tit 3 itemE) : Elem enc P W bk t 2 volE := by
 intro n cs x h hx
 obtain ⟨hl, hf⟩ := struct_fields hb ht hk hall n cs x h hx
 obtain ⟨v0, y0, m0, a0, b0, c0⟩ := hf 0 f0 rfl (by omega)
 obtain ⟨v1, y1, m1, a1, b1, c1⟩ := hf 1 f1 rfl (by omega)
 rw [e0] at b0; rw [e1] at b1
 obtain ⟨u0, x0, g0, g0'⟩ := elem_slice hb h0 z0 (by omega) hh m0 _ _ b0 c0
 obtain ⟨u1, x1, g1, g1'⟩ := elem_slice hb h1 z1 (by omega) hit m1 _ _ b1 c1
 simp only [List.cons.injEq, and_true] at g0 g1
 subst g0 g1
 obtain ⟨a, c, rfl⟩ := g0'.shape
 obtain ⟨a', c', rfl⟩ := g1'.shape
 exact ⟨⟨x0, x1⟩, hl, _, _, _, _, _, _, two_of hl a0 a1, g0', g1'⟩
theorem same_of_ext {w w' : World} (h : Ext w w') {p : MemPlace} (hp : p.block < w.heap.size) : w.sameAt w' p := by
 have hb := h.block p.block hp
 cases p with
 | cell b off => simp only [World.sameAt, World.cell?]; simp only [MemPlace.block] at hb; rw [hb]
 | map b => simp only [World.sameAt]; simpa [MemPlace.block] using hb
end
end Fw
namespace Fw
open Go Go.ChangeShapes Go.WideShapes
section
variable {H : Type} {enc : TypeId × Value → H} {P : Program}
theorem trodAll_stays (hl : laidOutB P = true) {W W' : World} {sp' : Nat → Bool} : ∀ {ts : List TypeId} {vs : List Value} {ds : List (DataW H)} {ps : List MemPlace}, (∀ t, t ∈ ts → P.readableRec t = true ∧ t < P.types.size) →
  DataW.TrodAll enc P W 0 (fun _ => true) true ts vs ds ps → (∀ p ∈ ps, W.sameAt W' p) → (∀ p ∈ ps, sp' p.block = true) → DataW.TrodAll enc P W' 0 sp' true ts vs ds ps
 | [], _, _, _, _, h, _, _ => by
  obtain ⟨rfl, rfl, rfl⟩ := trodAll_nil h
  rfl
 | t :: ts, _, _, _, hr, h, hs, hq => by
  obtain ⟨v, vs1, d, ds1, a, b, rfl, rfl, rfl, h1, h2⟩ := trodAll_cons h
  exact ⟨a, b, WideElems.Trod_stays hl (hr t (by simp)).1 (hr t (by simp)).2 h1 (fun p hp => hs p (by simp [hp])) (fun p hp => hq p (by simp [hp])),
   trodAll_stays hl (fun t ht => hr t (by simp [ht])) h2 (fun p hp => hs p (by simp [hp])) (fun p hp => hq p (by simp [hp])), rfl⟩
theorem kept_of_ext {W W' : World} (h : Ext W W') (may : MemPlace → Prop) : W.keptBut W' may := by
 refine ⟨h.os, h.output, fun i hi => ?_⟩
 rw [h.block i hi]
 cases W.heap[i]? with
 | none => simp
 | some o => cases o <;> simp
theorem law_post {f : Func} {s : ChangeSpec} {apart fresh handsOn again : Bool} {W W' : World} {args : Array Value} {ds gs : List (DataW H)} {before : List MemPlace} (hl : laidOutB P = true) (hr : ∀ t, t ∈ f.params.toList → P.readableRec t = true ∧ t < P.types.size)
  (hv : s.vars = []) (hW : DataW.Whole enc P f.params.toList s.vars apart W args.toList ds gs before) (hx : Ext W W') (hfr : (s.fn H (ds ++ gs)).results = [.lit (.bool true)]) (hfa : (s.fn H (ds ++ gs)).args = ds) (hfv : (s.fn H (ds ++ gs)).vars = [])
  (hres : ∀ (b : Nat) (sp : Nat → Bool) (hd : Bool), DataW.TrodAll enc P W' b sp hd f.resultTypes.toList ((Value.bool true).resultList f.resultTypes.size) [.lit (.bool true)] [])
  (hok : ∀ (j : Nat) (t : TypeId) (r : Value), f.resultTypes[j]? = some t → ((Value.bool true).resultList f.resultTypes.size)[j]? = some r → Value.okWide P W' .any 0 t r) :
  s.post enc P f apart fresh handsOn again W args (.bool true) W' := by
 have hW' := hW
 obtain ⟨p, q, hA, hV, rfl, hz, hn⟩ := hW
 rw [hv] at hV
 have hgs : gs = [] ∧ q = [] := by
  cases gs with
  | nil => exact ⟨rfl, hV⟩
  | cons d r => exact hV.elim
 obtain ⟨rfl, rfl⟩ := hgs
 rw [List.append_nil] at hW' hz hn
 have hlt : ∀ m ∈ p, m.block < W.heap.size := fun m hm => hW'.lt m hm
 have hold : ∀ m ∈ p, (fun b => decide (b < W.heap.size)) m.block = true := fun m hm => by simpa using hlt m hm
 have hargs : ∀ sp : Nat → Bool, (∀ m ∈ p, sp m.block = true) → DataW.TrodAll enc P W' 0 sp true f.params.toList args.toList (s.fn H (ds ++ [])).args p := fun sp hsp => by
  rw [hfa]
  exact trodAll_stays hl hr hA (fun m hm => same_of_ext hx (hlt m hm)) hsp
 have hvars : ∀ sp : Nat → Bool, DataW.TrodVars enc P W' sp s.vars (s.fn H (ds ++ [])).vars [] := fun sp => by rw [hv, hfv]; rfl
 have hres' : ∀ (b : Nat) (sp : Nat → Bool) (hd : Bool), DataW.TrodAll enc P W' b sp hd f.resultTypes.toList ((Value.bool true).resultList f.resultTypes.size) (s.fn H (ds ++ [])).results [] := fun b sp hd => by rw [hfr]; exact hres b sp hd
 refine ⟨ds, [], p, [], p, [], hW', hres' _ _ _, hargs _ hold, hvars _, World.keptBut_mono (fun m hm => ⟨hm, Or.inr ?_⟩) (kept_of_ext hx (· ∈ p)), fun _ => ?_⟩
 ·simpa using hm
 ·refine ⟨hok, _, _, ([] ++ p) ++ [], ⟨[] ++ p, [], trodAll_append (hargs _ (fun _ _ => rfl)) (hres' _ _ _), hvars _, rfl, ?_, ?_⟩, ?_⟩
  ·intro b off hp
   have hp' : MemPlace.cell b off ∈ p := by simpa using hp
   have h1 := hz b off hp'
   have h2 := hx.block b (hlt _ hp')
   simp only [World.frozen?] at h1 ⊢
   rw [h2]
   exact h1
  ·intro ha
   simpa using hn ha
  ·intro m hm _
   simpa using hm
end
end Fw
namespace Fw
open Go Go.WideShapes
theorem agg_of {P : Program} {W : World} {b : Nat} {t : TypeId} {fs : Array Field} {v : Value} (ht : P.underlying t = some (.struct fs)) (h : Value.okWide P W .any b t v) : ∃ cs : List Value, v = .agg cs.toArray := by
 unfold Value.okWide at h
 rw [ht] at h
 obtain ⟨cs, rfl, _⟩ := h
 exact ⟨cs.toList, by simp⟩
theorem slice_of {P : Program} {W : World} {b : Nat} {t e : TypeId} {v u : Value} (ht : P.underlying t = some (.slice e)) (h : Value.okWide P W .any b t v) (hu : v.cells.toList = [u]) : v = u := by
 unfold Value.okWide at h
 rw [ht] at h
 unfold Cell.okWide at h
 rw [ht] at h
 cases v <;> simp_all [Value.cells, Cell.ok]
end Fw
