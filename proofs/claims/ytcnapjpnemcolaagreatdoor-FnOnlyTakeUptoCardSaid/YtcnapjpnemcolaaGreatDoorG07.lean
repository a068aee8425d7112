/- Part 7 of the proof: contracts of functions of the program. Conditions: none. -/
import Derived.Test.YtcnapjpnemcolaaGreatDoorProg
import Derived.Test.YtcnapjpnemcolaaGreatDoorG02
import Derived.Test.YtcnapjpnemcolaaGreatDoorG03
import Derived.Test.YtcnapjpnemcolaaGreatDoorG04
import Derived.Test.YtcnapjpnemcolaaGreatDoorG05
import Derived.Test.YtcnapjpnemcolaaGreatDoorG06
import Derived.Conc.MuLone
import Derived.KernelRfl
set_option linter.all false
set_option maxRecDepth 100000
set_option maxHeartbeats 1000000
namespace Go.Proofs.Tst
open Go Fw Tryz
theorem l12Copy_c (w0 : World) (G0 : PH) (hG : PSub G0 w0) (cd : List Value) (d : BDisk) (hd : diskE G0 d cd)  :
  Calls Tryz.prog 42 #[.agg cd.toArray] w0 (RetO w0 G0 (fun G val r => ∃ u u1 u2, val = .agg #[u, u1, u2] ∧ AccOf snapE 2 46 d.snaps G u2 r ∧ RdH G u d.store ∧ RdItems G u1 d.tree)) := by
 obtain ⟨a1, m1, c1, a1', m1', c1', a1'', m1'', c1'', rfl, hr1, hr1', hr1''⟩ := hd; have hn_hr1 := hr1.len; have hx_hr1 : _ ≤ 1099511627776 := hr1.lim; have hn_hr1q := hr1'.len; have hx_hr1q : _ ≤ 1099511627776 := hr1'.lim; have hn_hr1qq := hr1''.len; have hx_hr1qq : _ ≤ 1099511627776 := hr1''.lim
 have H := Hp.init hG
 refine calls_of_W (l := [_]) func42 Z ntmps42 Z (q2 (o_box H Z Z Z ?_)); intro b2 w2 hb2 H
 refine o_alloc H zeroValue27 Z Z ?_; intro b3 w3 hb3 H
 refine q3 ?_
 obtain ⟨ljb3, hljb3, H⟩ := H.name (k := 0) rfl
 obtain ⟨ljb2, hljb2, H⟩ := H.name (k := 1) rfl
 have hj4 := PLe.refl G0
 refine W_join (hf := (Sub.cons (t := 1) Z (Sub.cons (t := 2) Z Sub.nil))) (J := fun M w => ∃ (jb : Nat) (ja jc : Option Addr) (jm jk jn jl : Nat) (ve : Value) (ce : List Value) (ne : Nat) (G : PH), M = [(3, .pointer (some ⟨jb, 0, none⟩))] ∧ PLe G0 G ∧ Hp w0 G0 [] w G [acc 46 2 ve ne ce, blk jb (cl [.slice ja jm jk, .slice jc jn jl, ve] 27), blk b3 (cl ljb3 27), blk b2 (cl ljb2 27)] ∧ (RdH G (.slice ja jm jk) d.store ∧ RdItems G (.slice jc jn jl) d.tree ∧ Chk snapE 2 G ce ([] : List BSnap) ∧ ne = 0)) (first := ?_) (second := ?_)
 ·skip
  subst hljb3
  subst hljb2
  refine W_drawK [0, 1] 10 H kR Z ?_; intro w5 H; have hd5 := PLe.refl G0
  refine RD_t 0 Z kR Z (fun _ hK => v_fieldAddr 0 runUnderlying27 Z sizeOf23 Z Z) (RD_t 1 Z kR Z (fun _ hK => v_load_B 1 hK isAgg23 Z Z Z) (RD_t 3 Z kR Z (fun _ hK => v_fieldAddr 1 runUnderlying27 Z sizeOf24 Z Z) (RD_t 4 Z kR Z (fun _ hK => v_load_B 1 hK isAgg24 Z Z Z) ?_)))
  refine RD_run [2, 6, 8] kR Z (RDs.cons Z ?_ (RDs.cons Z ?_ (RDs.cons Z ?_ RDs.nil)))
  ·skip
   refine o_call call79 Z Z (l3Copy_c _ _ H.sub _ _ hr1 ) ?_
   rintro _ w6 ⟨G6, v6, _, g6, rfl, ⟨cs6, rfl, hchk6⟩, hp6, hq6, hs6⟩
   have H := H.growO g6 hp6 hq6 hs6; obtain ⟨av6, cv6, rfl⟩ := H.accShape (k := 0) rfl
   have hr1' := hr1'.up g6.le
   have hj4 := hj4.trans g6.le
   have hd5 := hd5.trans g6.le
   refine ⟨_, Z, ?_⟩
   refine R_nil (N_DK (Kn.of' H hd5 (SubL.cons 1 Z (SubL.cons 2 Z SubL.nil))) ?_)
   refine RD_run [5, 6, 8] kR Z (RDs.cons Z ?_ (RDs.cons Z ?_ (RDs.cons Z ?_ RDs.nil)))
   ·skip
    refine o_call call43 Z Z (l5All_c _ _ H.sub _ _ hr1' ) ?_
    rintro _ w7 ⟨G7, v7, _, g7, rfl, ⟨cs7, rfl, hchk7⟩, hp7, hq7, hs7⟩
    have H := H.growO g7 hp7 hq7 hs7; obtain ⟨av7, cv7, rfl⟩ := H.accShape (k := 0) rfl
    have hchk6 := hchk6.up g7.le
    have hj4 := hj4.trans g7.le
    have hd5 := hd5.trans g7.le
    refine ⟨_, Z, ?_⟩
    refine R_nil (N_DK (Kn.of' H hd5 (SubL.cons 2 Z (SubL.cons 3 Z SubL.nil))) ?_)
    refine RD_run [6, 8] kR Z (RDs.cons Z ?_ (RDs.cons Z ?_ RDs.nil))
    ·skip
     refine o_buildSlice H underlying25 sizeOf46 (fun w => ⟨_, zeroValue46 w, Z⟩) Z Z Z Z Z Z Z ?_; intro b8 w8 hb8 H
     have H := H.blkAcc 2 (k := 0) (n := 0) rfl rfl (by decide)
     refine R_nil (N_DK (Kn.of' H hd5 (SubL.cons 3 Z (SubL.cons 4 Z SubL.nil))) (RD_t 7 Z kR Z (fun _ hK => v_build bf27 Z Z) ?_))
     refine RD_run [8] kR Z (RDs.cons Z ?_ RDs.nil)
     refine o_alloc H zeroValue27 Z Z ?_; intro b9 w9 hb9 H
     refine R_nil (N_DK (Kn.of' H hd5 (SubL.cons 4 Z (SubL.cons 5 Z SubL.nil))) ?_)
     refine RD_run [9] kR Z (RDs.cons Z ?_ RDs.nil)
     refine o_store_B 0 H sizeOf27 Z Z Z Z Z Z Z Z ?_; intro w10 H
     refine R_nil (N_DKlast kR kR ?_)
     obtain ⟨G512, H, hsg512, hsr512⟩ := H.shut' (k := 3) rfl hchk6 aN aN
     have hchk7 := hchk7.up hsg512
     have hj4 := hj4.trans hsg512
     obtain ⟨G513, H, hsg513, hsr513⟩ := H.shut' (k := 2) rfl hchk7 aN aN
     have hsr512 := hsr512.up hsg513
     have hj4 := hj4.trans hsg513
     have H := H.toFront (k := 3) rfl
     have H := H.toFront (k := 3) rfl
     have H := H.toFront (k := 2) rfl
     have H := H.toFront (k := 3) rfl
     exact N_J ⟨_, _, _, _, _, _, _, _, _, _, _, Z, hj4, H, ⟨hsr512, hsr513, (Chk.nil (E := snapE) (sz := 2) (G := G513)), Z⟩⟩
    skip
    refine o_alloc H zeroValue27 Z Z ?_; intro b11 w11 hb11 H
    refine R_nil (N_DK (Kn.of' H hd5 (SubL.cons 3 Z (SubL.cons 4 Z SubL.nil))) ?_)
    refine RD_run [6] kR Z (RDs.cons Z ?_ RDs.nil)
    refine o_buildSlice H underlying25 sizeOf46 (fun w => ⟨_, zeroValue46 w, Z⟩) Z Z Z Z Z Z Z ?_; intro b12 w12 hb12 H
    have H := H.blkAcc 2 (k := 0) (n := 0) rfl rfl (by decide)
    refine R_nil (N_DK (Kn.of' H hd5 (SubL.cons 4 Z (SubL.cons 5 Z SubL.nil))) (RD_t 7 Z kR Z (fun _ hK => v_build bf27 Z Z) ?_))
    refine RD_run [9] kR Z (RDs.cons Z ?_ RDs.nil)
    refine o_store_B 1 H sizeOf27 Z Z Z Z Z Z Z Z ?_; intro w13 H
    refine R_nil (N_DKlast kR kR ?_)
    obtain ⟨G517, H, hsg517, hsr517⟩ := H.shut' (k := 3) rfl hchk6 aN aN
    have hchk7 := hchk7.up hsg517
    have hj4 := hj4.trans hsg517
    obtain ⟨G518, H, hsg518, hsr518⟩ := H.shut' (k := 2) rfl hchk7 aN aN
    have hsr517 := hsr517.up hsg518
    have hj4 := hj4.trans hsg518
    have H := H.toFront (k := 3) rfl
    have H := H.toFront (k := 3) rfl
    have H := H.toFront (k := 3) rfl
    have H := H.toFront (k := 3) rfl
    exact N_J ⟨_, _, _, _, _, _, _, _, _, _, _, Z, hj4, H, ⟨hsr517, hsr518, (Chk.nil (E := snapE) (sz := 2) (G := G518)), Z⟩⟩
   ·skip
    refine o_buildSlice H underlying25 sizeOf46 (fun w => ⟨_, zeroValue46 w, Z⟩) Z Z Z Z Z Z Z ?_; intro b14 w14 hb14 H
    have H := H.blkAcc 2 (k := 0) (n := 0) rfl rfl (by decide)
    refine R_nil (N_DK (Kn.of' H hd5 (SubL.cons 2 Z (SubL.cons 3 Z SubL.nil))) ?_)
    refine RD_run [5, 8] kR Z (RDs.cons Z ?_ (RDs.cons Z ?_ RDs.nil))
    ·skip
     refine o_call call43 Z Z (l5All_c _ _ H.sub _ _ hr1' ) ?_
     rintro _ w15 ⟨G15, v15, _, g15, rfl, ⟨cs15, rfl, hchk15⟩, hp15, hq15, hs15⟩
     have H := H.growO g15 hp15 hq15 hs15; obtain ⟨av15, cv15, rfl⟩ := H.accShape (k := 0) rfl
     have hchk6 := hchk6.up g15.le
     have hj4 := hj4.trans g15.le
     have hd5 := hd5.trans g15.le
     refine ⟨_, Z, ?_⟩
     refine R_nil (N_DK (Kn.of' H hd5 (SubL.cons 3 Z (SubL.cons 4 Z SubL.nil))) (RD_t 7 Z kR Z (fun _ hK => v_build bf27 Z Z) ?_))
     refine RD_run [8] kR Z (RDs.cons Z ?_ RDs.nil)
     refine o_alloc H zeroValue27 Z Z ?_; intro b16 w16 hb16 H
     refine R_nil (N_DK (Kn.of' H hd5 (SubL.cons 4 Z (SubL.cons 5 Z SubL.nil))) ?_)
     refine RD_run [9] kR Z (RDs.cons Z ?_ RDs.nil)
     refine o_store_B 0 H sizeOf27 Z Z Z Z Z Z Z Z ?_; intro w17 H
     refine R_nil (N_DKlast kR kR ?_)
     obtain ⟨G523, H, hsg523, hsr523⟩ := H.shut' (k := 3) rfl hchk6 aN aN
     have hchk15 := hchk15.up hsg523
     have hj4 := hj4.trans hsg523
     obtain ⟨G524, H, hsg524, hsr524⟩ := H.shut' (k := 1) rfl hchk15 aN aN
     have hsr523 := hsr523.up hsg524
     have hj4 := hj4.trans hsg524
     have H := H.toFront (k := 3) rfl
     have H := H.toFront (k := 3) rfl
     have H := H.toFront (k := 2) rfl
     have H := H.toFront (k := 3) rfl
     exact N_J ⟨_, _, _, _, _, _, _, _, _, _, _, Z, hj4, H, ⟨hsr523, hsr524, (Chk.nil (E := snapE) (sz := 2) (G := G524)), Z⟩⟩
    skip
    refine o_alloc H zeroValue27 Z Z ?_; intro b18 w18 hb18 H
    refine R_nil (N_DK (Kn.of' H hd5 (SubL.cons 3 Z (SubL.cons 4 Z SubL.nil))) ?_)
    refine RD_run [5] kR Z (RDs.cons Z ?_ RDs.nil)
    refine o_call call43 Z Z (l5All_c _ _ H.sub _ _ hr1' ) ?_
    rintro _ w19 ⟨G19, v19, _, g19, rfl, ⟨cs19, rfl, hchk19⟩, hp19, hq19, hs19⟩
    have H := H.growO g19 hp19 hq19 hs19; obtain ⟨av19, cv19, rfl⟩ := H.accShape (k := 0) rfl
    have hchk6 := hchk6.up g19.le
    have hj4 := hj4.trans g19.le
    have hd5 := hd5.trans g19.le
    refine ⟨_, Z, ?_⟩
    refine R_nil (N_DK (Kn.of' H hd5 (SubL.cons 4 Z (SubL.cons 5 Z SubL.nil))) (RD_t 7 Z kR Z (fun _ hK => v_build bf27 Z Z) ?_))
    refine RD_run [9] kR Z (RDs.cons Z ?_ RDs.nil)
    refine o_store_B 1 H sizeOf27 Z Z Z Z Z Z Z Z ?_; intro w20 H
    refine R_nil (N_DKlast kR kR ?_)
    obtain ⟨G528, H, hsg528, hsr528⟩ := H.shut' (k := 3) rfl hchk6 aN aN
    have hchk19 := hchk19.up hsg528
    have hj4 := hj4.trans hsg528
    obtain ⟨G529, H, hsg529, hsr529⟩ := H.shut' (k := 0) rfl hchk19 aN aN
    have hsr528 := hsr528.up hsg529
    have hj4 := hj4.trans hsg529
    have H := H.toFront (k := 3) rfl
    have H := H.toFront (k := 3) rfl
    have H := H.toFront (k := 2) rfl
    have H := H.toFront (k := 3) rfl
    exact N_J ⟨_, _, _, _, _, _, _, _, _, _, _, Z, hj4, H, ⟨hsr528, hsr529, (Chk.nil (E := snapE) (sz := 2) (G := G529)), Z⟩⟩
   skip
   refine o_alloc H zeroValue27 Z Z ?_; intro b21 w21 hb21 H
   refine R_nil (N_DK (Kn.of' H hd5 (SubL.cons 2 Z (SubL.cons 3 Z SubL.nil))) ?_)
   refine RD_run [5, 6] kR Z (RDs.cons Z ?_ (RDs.cons Z ?_ RDs.nil))
   ·skip
    refine o_call call43 Z Z (l5All_c _ _ H.sub _ _ hr1' ) ?_
    rintro _ w22 ⟨G22, v22, _, g22, rfl, ⟨cs22, rfl, hchk22⟩, hp22, hq22, hs22⟩
    have H := H.growO g22 hp22 hq22 hs22; obtain ⟨av22, cv22, rfl⟩ := H.accShape (k := 0) rfl
    have hchk6 := hchk6.up g22.le
    have hj4 := hj4.trans g22.le
    have hd5 := hd5.trans g22.le
    refine ⟨_, Z, ?_⟩
    refine R_nil (N_DK (Kn.of' H hd5 (SubL.cons 3 Z (SubL.cons 4 Z SubL.nil))) ?_)
    refine RD_run [6] kR Z (RDs.cons Z ?_ RDs.nil)
    refine o_buildSlice H underlying25 sizeOf46 (fun w => ⟨_, zeroValue46 w, Z⟩) Z Z Z Z Z Z Z ?_; intro b23 w23 hb23 H
    have H := H.blkAcc 2 (k := 0) (n := 0) rfl rfl (by decide)
    refine R_nil (N_DK (Kn.of' H hd5 (SubL.cons 4 Z (SubL.cons 5 Z SubL.nil))) (RD_t 7 Z kR Z (fun _ hK => v_build bf27 Z Z) ?_))
    refine RD_run [9] kR Z (RDs.cons Z ?_ RDs.nil)
    refine o_store_B 2 H sizeOf27 Z Z Z Z Z Z Z Z ?_; intro w24 H
    refine R_nil (N_DKlast kR kR ?_)
    obtain ⟨G534, H, hsg534, hsr534⟩ := H.shut' (k := 3) rfl hchk6 aN aN
    have hchk22 := hchk22.up hsg534
    have hj4 := hj4.trans hsg534
    obtain ⟨G535, H, hsg535, hsr535⟩ := H.shut' (k := 1) rfl hchk22 aN aN
    have hsr534 := hsr534.up hsg535
    have hj4 := hj4.trans hsg535
    have H := H.toFront (k := 3) rfl
    have H := H.toFront (k := 3) rfl
    have H := H.toFront (k := 3) rfl
    have H := H.toFront (k := 3) rfl
    exact N_J ⟨_, _, _, _, _, _, _, _, _, _, _, Z, hj4, H, ⟨hsr534, hsr535, (Chk.nil (E := snapE) (sz := 2) (G := G535)), Z⟩⟩
   skip
   refine o_buildSlice H underlying25 sizeOf46 (fun w => ⟨_, zeroValue46 w, Z⟩) Z Z Z Z Z Z Z ?_; intro b25 w25 hb25 H
   have H := H.blkAcc 2 (k := 0) (n := 0) rfl rfl (by decide)
   refine R_nil (N_DK (Kn.of' H hd5 (SubL.cons 3 Z (SubL.cons 4 Z SubL.nil))) ?_)
   refine RD_run [5] kR Z (RDs.cons Z ?_ RDs.nil)
   refine o_call call43 Z Z (l5All_c _ _ H.sub _ _ hr1' ) ?_
   rintro _ w26 ⟨G26, v26, _, g26, rfl, ⟨cs26, rfl, hchk26⟩, hp26, hq26, hs26⟩
   have H := H.growO g26 hp26 hq26 hs26; obtain ⟨av26, cv26, rfl⟩ := H.accShape (k := 0) rfl
   have hchk6 := hchk6.up g26.le
   have hj4 := hj4.trans g26.le
   have hd5 := hd5.trans g26.le
   refine ⟨_, Z, ?_⟩
   refine R_nil (N_DK (Kn.of' H hd5 (SubL.cons 4 Z (SubL.cons 5 Z SubL.nil))) (RD_t 7 Z kR Z (fun _ hK => v_build bf27 Z Z) ?_))
   refine RD_run [9] kR Z (RDs.cons Z ?_ RDs.nil)
   refine o_store_B 2 H sizeOf27 Z Z Z Z Z Z Z Z ?_; intro w27 H
   refine R_nil (N_DKlast kR kR ?_)
   obtain ⟨G539, H, hsg539, hsr539⟩ := H.shut' (k := 3) rfl hchk6 aN aN
   have hchk26 := hchk26.up hsg539
   have hj4 := hj4.trans hsg539
   obtain ⟨G540, H, hsg540, hsr540⟩ := H.shut' (k := 0) rfl hchk26 aN aN
   have hsr539 := hsr539.up hsg540
   have hj4 := hj4.trans hsg540
   have H := H.toFront (k := 3) rfl
   have H := H.toFront (k := 3) rfl
   have H := H.toFront (k := 3) rfl
   have H := H.toFront (k := 3) rfl
   exact N_J ⟨_, _, _, _, _, _, _, _, _, _, _, Z, hj4, H, ⟨hsr539, hsr540, (Chk.nil (E := snapE) (sz := 2) (G := G540)), Z⟩⟩
  ·skip
   refine o_buildSlice H underlying25 sizeOf46 (fun w => ⟨_, zeroValue46 w, Z⟩) Z Z Z Z Z Z Z ?_; intro b28 w28 hb28 H
   have H := H.blkAcc 2 (k := 0) (n := 0) rfl rfl (by decide)
   refine R_nil (N_DK (Kn.of' H hd5 (SubL.cons 1 Z (SubL.cons 2 Z SubL.nil))) ?_)
   refine RD_run [2, 8] kR Z (RDs.cons Z ?_ (RDs.cons Z ?_ RDs.nil))
   ·skip
    refine o_call call79 Z Z (l3Copy_c _ _ H.sub _ _ hr1 ) ?_
    rintro _ w29 ⟨G29, v29, _, g29, rfl, ⟨cs29, rfl, hchk29⟩, hp29, hq29, hs29⟩
    have H := H.growO g29 hp29 hq29 hs29; obtain ⟨av29, cv29, rfl⟩ := H.accShape (k := 0) rfl
    have hr1' := hr1'.up g29.le
    have hj4 := hj4.trans g29.le
    have hd5 := hd5.trans g29.le
    refine ⟨_, Z, ?_⟩
    refine R_nil (N_DK (Kn.of' H hd5 (SubL.cons 2 Z (SubL.cons 3 Z SubL.nil))) ?_)
    refine RD_run [5, 8] kR Z (RDs.cons Z ?_ (RDs.cons Z ?_ RDs.nil))
    ·skip
     refine o_call call43 Z Z (l5All_c _ _ H.sub _ _ hr1' ) ?_
     rintro _ w30 ⟨G30, v30, _, g30, rfl, ⟨cs30, rfl, hchk30⟩, hp30, hq30, hs30⟩
     have H := H.growO g30 hp30 hq30 hs30; obtain ⟨av30, cv30, rfl⟩ := H.accShape (k := 0) rfl
     have hchk29 := hchk29.up g30.le
     have hj4 := hj4.trans g30.le
     have hd5 := hd5.trans g30.le
     refine ⟨_, Z, ?_⟩
     refine R_nil (N_DK (Kn.of' H hd5 (SubL.cons 3 Z (SubL.cons 4 Z SubL.nil))) (RD_t 7 Z kR Z (fun _ hK => v_build bf27 Z Z) ?_))
     refine RD_run [8] kR Z (RDs.cons Z ?_ RDs.nil)
     refine o_alloc H zeroValue27 Z Z ?_; intro b31 w31 hb31 H
     refine R_nil (N_DK (Kn.of' H hd5 (SubL.cons 4 Z (SubL.cons 5 Z SubL.nil))) ?_)
     refine RD_run [9] kR Z (RDs.cons Z ?_ RDs.nil)
     refine o_store_B 0 H sizeOf27 Z Z Z Z Z Z Z Z ?_; intro w32 H
     refine R_nil (N_DKlast kR kR ?_)
     obtain ⟨G546, H, hsg546, hsr546⟩ := H.shut' (k := 2) rfl hchk29 aN aN
     have hchk30 := hchk30.up hsg546
     have hj4 := hj4.trans hsg546
     obtain ⟨G547, H, hsg547, hsr547⟩ := H.shut' (k := 1) rfl hchk30 aN aN
     have hsr546 := hsr546.up hsg547
     have hj4 := hj4.trans hsg547
     have H := H.toFront (k := 3) rfl
     have H := H.toFront (k := 3) rfl
     have H := H.toFront (k := 2) rfl
     have H := H.toFront (k := 3) rfl
     exact N_J ⟨_, _, _, _, _, _, _, _, _, _, _, Z, hj4, H, ⟨hsr546, hsr547, (Chk.nil (E := snapE) (sz := 2) (G := G547)), Z⟩⟩
    skip
    refine o_alloc H zeroValue27 Z Z ?_; intro b33 w33 hb33 H
    refine R_nil (N_DK (Kn.of' H hd5 (SubL.cons 3 Z (SubL.cons 4 Z SubL.nil))) ?_)
    refine RD_run [5] kR Z (RDs.cons Z ?_ RDs.nil)
    refine o_call call43 Z Z (l5All_c _ _ H.sub _ _ hr1' ) ?_
    rintro _ w34 ⟨G34, v34, _, g34, rfl, ⟨cs34, rfl, hchk34⟩, hp34, hq34, hs34⟩
    have H := H.growO g34 hp34 hq34 hs34; obtain ⟨av34, cv34, rfl⟩ := H.accShape (k := 0) rfl
    have hchk29 := hchk29.up g34.le
    have hj4 := hj4.trans g34.le
    have hd5 := hd5.trans g34.le
    refine ⟨_, Z, ?_⟩
    refine R_nil (N_DK (Kn.of' H hd5 (SubL.cons 4 Z (SubL.cons 5 Z SubL.nil))) (RD_t 7 Z kR Z (fun _ hK => v_build bf27 Z Z) ?_))
    refine RD_run [9] kR Z (RDs.cons Z ?_ RDs.nil)
    refine o_store_B 1 H sizeOf27 Z Z Z Z Z Z Z Z ?_; intro w35 H
    refine R_nil (N_DKlast kR kR ?_)
    obtain ⟨G551, H, hsg551, hsr551⟩ := H.shut' (k := 2) rfl hchk29 aN aN
    have hchk34 := hchk34.up hsg551
    have hj4 := hj4.trans hsg551
    obtain ⟨G552, H, hsg552, hsr552⟩ := H.shut' (k := 0) rfl hchk34 aN aN
    have hsr551 := hsr551.up hsg552
    have hj4 := hj4.trans hsg552
    have H := H.toFront (k := 3) rfl
    have H := H.toFront (k := 3) rfl
    have H := H.toFront (k := 2) rfl
    have H := H.toFront (k := 3) rfl
    exact N_J ⟨_, _, _, _, _, _, _, _, _, _, _, Z, hj4, H, ⟨hsr551, hsr552, (Chk.nil (E := snapE) (sz := 2) (G := G552)), Z⟩⟩
   skip
   refine o_alloc H zeroValue27 Z Z ?_; intro b36 w36 hb36 H
   refine R_nil (N_DK (Kn.of' H hd5 (SubL.cons 2 Z (SubL.cons 3 Z SubL.nil))) ?_)
   refine RD_run [2] kR Z (RDs.cons Z ?_ RDs.nil)
   refine o_call call79 Z Z (l3Copy_c _ _ H.sub _ _ hr1 ) ?_
   rintro _ w37 ⟨G37, v37, _, g37, rfl, ⟨cs37, rfl, hchk37⟩, hp37, hq37, hs37⟩
   have H := H.growO g37 hp37 hq37 hs37; obtain ⟨av37, cv37, rfl⟩ := H.accShape (k := 0) rfl
   have hr1' := hr1'.up g37.le
   have hj4 := hj4.trans g37.le
   have hd5 := hd5.trans g37.le
   refine ⟨_, Z, ?_⟩
   refine R_nil (N_DK (Kn.of' H hd5 (SubL.cons 3 Z (SubL.cons 4 Z SubL.nil))) ?_)
   refine RD_run [5] kR Z (RDs.cons Z ?_ RDs.nil)
   refine o_call call43 Z Z (l5All_c _ _ H.sub _ _ hr1' ) ?_
   rintro _ w38 ⟨G38, v38, _, g38, rfl, ⟨cs38, rfl, hchk38⟩, hp38, hq38, hs38⟩
   have H := H.growO g38 hp38 hq38 hs38; obtain ⟨av38, cv38, rfl⟩ := H.accShape (k := 0) rfl
   have hchk37 := hchk37.up g38.le
   have hj4 := hj4.trans g38.le
   have hd5 := hd5.trans g38.le
   refine ⟨_, Z, ?_⟩
   refine R_nil (N_DK (Kn.of' H hd5 (SubL.cons 4 Z (SubL.cons 5 Z SubL.nil))) (RD_t 7 Z kR Z (fun _ hK => v_build bf27 Z Z) ?_))
   refine RD_run [9] kR Z (RDs.cons Z ?_ RDs.nil)
   refine o_store_B 2 H sizeOf27 Z Z Z Z Z Z Z Z ?_; intro w39 H
   refine R_nil (N_DKlast kR kR ?_)
   obtain ⟨G557, H, hsg557, hsr557⟩ := H.shut' (k := 1) rfl hchk37 aN aN
   have hchk38 := hchk38.up hsg557
   have hj4 := hj4.trans hsg557
   obtain ⟨G558, H, hsg558, hsr558⟩ := H.shut' (k := 0) rfl hchk38 aN aN
   have hsr557 := hsr557.up hsg558
   have hj4 := hj4.trans hsg558
   have H := H.toFront (k := 3) rfl
   have H := H.toFront (k := 3) rfl
   have H := H.toFront (k := 2) rfl
   have H := H.toFront (k := 3) rfl
   exact N_J ⟨_, _, _, _, _, _, _, _, _, _, _, Z, hj4, H, ⟨hsr557, hsr558, (Chk.nil (E := snapE) (sz := 2) (G := G558)), Z⟩⟩
  skip
  refine o_alloc H zeroValue27 Z Z ?_; intro b40 w40 hb40 H
  refine R_nil (N_DK (Kn.of' H hd5 (SubL.cons 1 Z (SubL.cons 2 Z SubL.nil))) ?_)
  refine RD_run [2, 6] kR Z (RDs.cons Z ?_ (RDs.cons Z ?_ RDs.nil))
  ·skip
   refine o_call call79 Z Z (l3Copy_c _ _ H.sub _ _ hr1 ) ?_
   rintro _ w41 ⟨G41, v41, _, g41, rfl, ⟨cs41, rfl, hchk41⟩, hp41, hq41, hs41⟩
   have H := H.growO g41 hp41 hq41 hs41; obtain ⟨av41, cv41, rfl⟩ := H.accShape (k := 0) rfl
   have hr1' := hr1'.up g41.le
   have hj4 := hj4.trans g41.le
   have hd5 := hd5.trans g41.le
   refine ⟨_, Z, ?_⟩
   refine R_nil (N_DK (Kn.of' H hd5 (SubL.cons 2 Z (SubL.cons 3 Z SubL.nil))) ?_)
   refine RD_run [5, 6] kR Z (RDs.cons Z ?_ (RDs.cons Z ?_ RDs.nil))
   ·skip
    refine o_call call43 Z Z (l5All_c _ _ H.sub _ _ hr1' ) ?_
    rintro _ w42 ⟨G42, v42, _, g42, rfl, ⟨cs42, rfl, hchk42⟩, hp42, hq42, hs42⟩
    have H := H.growO g42 hp42 hq42 hs42; obtain ⟨av42, cv42, rfl⟩ := H.accShape (k := 0) rfl
    have hchk41 := hchk41.up g42.le
    have hj4 := hj4.trans g42.le
    have hd5 := hd5.trans g42.le
    refine ⟨_, Z, ?_⟩
    refine R_nil (N_DK (Kn.of' H hd5 (SubL.cons 3 Z (SubL.cons 4 Z SubL.nil))) ?_)
    refine RD_run [6] kR Z (RDs.cons Z ?_ RDs.nil)
    refine o_buildSlice H underlying25 sizeOf46 (fun w => ⟨_, zeroValue46 w, Z⟩) Z Z Z Z Z Z Z ?_; intro b43 w43 hb43 H
    have H := H.blkAcc 2 (k := 0) (n := 0) rfl rfl (by decide)
    refine R_nil (N_DK (Kn.of' H hd5 (SubL.cons 4 Z (SubL.cons 5 Z SubL.nil))) (RD_t 7 Z kR Z (fun _ hK => v_build bf27 Z Z) ?_))
    refine RD_run [9] kR Z (RDs.cons Z ?_ RDs.nil)
    refine o_store_B 3 H sizeOf27 Z Z Z Z Z Z Z Z ?_; intro w44 H
    refine R_nil (N_DKlast kR kR ?_)
    obtain ⟨G564, H, hsg564, hsr564⟩ := H.shut' (k := 2) rfl hchk41 aN aN
    have hchk42 := hchk42.up hsg564
    have hj4 := hj4.trans hsg564
    obtain ⟨G565, H, hsg565, hsr565⟩ := H.shut' (k := 1) rfl hchk42 aN aN
    have hsr564 := hsr564.up hsg565
    have hj4 := hj4.trans hsg565
    have H := H.toFront (k := 3) rfl
    have H := H.toFront (k := 3) rfl
    have H := H.toFront (k := 3) rfl
    have H := H.toFront (k := 3) rfl
    exact N_J ⟨_, _, _, _, _, _, _, _, _, _, _, Z, hj4, H, ⟨hsr564, hsr565, (Chk.nil (E := snapE) (sz := 2) (G := G565)), Z⟩⟩
   skip
   refine o_buildSlice H underlying25 sizeOf46 (fun w => ⟨_, zeroValue46 w, Z⟩) Z Z Z Z Z Z Z ?_; intro b45 w45 hb45 H
   have H := H.blkAcc 2 (k := 0) (n := 0) rfl rfl (by decide)
   refine R_nil (N_DK (Kn.of' H hd5 (SubL.cons 3 Z (SubL.cons 4 Z SubL.nil))) ?_)
   refine RD_run [5] kR Z (RDs.cons Z ?_ RDs.nil)
   refine o_call call43 Z Z (l5All_c _ _ H.sub _ _ hr1' ) ?_
   rintro _ w46 ⟨G46, v46, _, g46, rfl, ⟨cs46, rfl, hchk46⟩, hp46, hq46, hs46⟩
   have H := H.growO g46 hp46 hq46 hs46; obtain ⟨av46, cv46, rfl⟩ := H.accShape (k := 0) rfl
   have hchk41 := hchk41.up g46.le
   have hj4 := hj4.trans g46.le
   have hd5 := hd5.trans g46.le
   refine ⟨_, Z, ?_⟩
   refine R_nil (N_DK (Kn.of' H hd5 (SubL.cons 4 Z (SubL.cons 5 Z SubL.nil))) (RD_t 7 Z kR Z (fun _ hK => v_build bf27 Z Z) ?_))
   refine RD_run [9] kR Z (RDs.cons Z ?_ RDs.nil)
   refine o_store_B 3 H sizeOf27 Z Z Z Z Z Z Z Z ?_; intro w47 H
   refine R_nil (N_DKlast kR kR ?_)
   obtain ⟨G569, H, hsg569, hsr569⟩ := H.shut' (k := 2) rfl hchk41 aN aN
   have hchk46 := hchk46.up hsg569
   have hj4 := hj4.trans hsg569
   obtain ⟨G570, H, hsg570, hsr570⟩ := H.shut' (k := 0) rfl hchk46 aN aN
   have hsr569 := hsr569.up hsg570
   have hj4 := hj4.trans hsg570
   have H := H.toFront (k := 3) rfl
   have H := H.toFront (k := 3) rfl
   have H := H.toFront (k := 3) rfl
   have H := H.toFront (k := 3) rfl
   exact N_J ⟨_, _, _, _, _, _, _, _, _, _, _, Z, hj4, H, ⟨hsr569, hsr570, (Chk.nil (E := snapE) (sz := 2) (G := G570)), Z⟩⟩
  skip
  refine o_buildSlice H underlying25 sizeOf46 (fun w => ⟨_, zeroValue46 w, Z⟩) Z Z Z Z Z Z Z ?_; intro b48 w48 hb48 H
  have H := H.blkAcc 2 (k := 0) (n := 0) rfl rfl (by decide)
  refine R_nil (N_DK (Kn.of' H hd5 (SubL.cons 2 Z (SubL.cons 3 Z SubL.nil))) ?_)
  refine RD_run [2] kR Z (RDs.cons Z ?_ RDs.nil)
  refine o_call call79 Z Z (l3Copy_c _ _ H.sub _ _ hr1 ) ?_
  rintro _ w49 ⟨G49, v49, _, g49, rfl, ⟨cs49, rfl, hchk49⟩, hp49, hq49, hs49⟩
  have H := H.growO g49 hp49 hq49 hs49; obtain ⟨av49, cv49, rfl⟩ := H.accShape (k := 0) rfl
  have hr1' := hr1'.up g49.le
  have hj4 := hj4.trans g49.le
  have hd5 := hd5.trans g49.le
  refine ⟨_, Z, ?_⟩
  refine R_nil (N_DK (Kn.of' H hd5 (SubL.cons 3 Z (SubL.cons 4 Z SubL.nil))) ?_)
  refine RD_run [5] kR Z (RDs.cons Z ?_ RDs.nil)
  refine o_call call43 Z Z (l5All_c _ _ H.sub _ _ hr1' ) ?_
  rintro _ w50 ⟨G50, v50, _, g50, rfl, ⟨cs50, rfl, hchk50⟩, hp50, hq50, hs50⟩
  have H := H.growO g50 hp50 hq50 hs50; obtain ⟨av50, cv50, rfl⟩ := H.accShape (k := 0) rfl
  have hchk49 := hchk49.up g50.le
  have hj4 := hj4.trans g50.le
  have hd5 := hd5.trans g50.le
  refine ⟨_, Z, ?_⟩
  refine R_nil (N_DK (Kn.of' H hd5 (SubL.cons 4 Z (SubL.cons 5 Z SubL.nil))) (RD_t 7 Z kR Z (fun _ hK => v_build bf27 Z Z) ?_))
  refine RD_run [9] kR Z (RDs.cons Z ?_ RDs.nil)
  refine o_store_B 3 H sizeOf27 Z Z Z Z Z Z Z Z ?_; intro w51 H
  refine R_nil (N_DKlast kR kR ?_)
  obtain ⟨G575, H, hsg575, hsr575⟩ := H.shut' (k := 1) rfl hchk49 aN aN
  have hchk50 := hchk50.up hsg575
  have hj4 := hj4.trans hsg575
  obtain ⟨G576, H, hsg576, hsr576⟩ := H.shut' (k := 0) rfl hchk50 aN aN
  have hsr575 := hsr575.up hsg576
  have hj4 := hj4.trans hsg576
  have H := H.toFront (k := 3) rfl
  have H := H.toFront (k := 3) rfl
  have H := H.toFront (k := 3) rfl
  have H := H.toFront (k := 3) rfl
  exact N_J ⟨_, _, _, _, _, _, _, _, _, _, _, Z, hj4, H, ⟨hsr575, hsr576, (Chk.nil (E := snapE) (sz := 2) (G := G576)), Z⟩⟩
 rintro _ w4 ⟨jb, ja, jc, jm, jk, jn, jl, ve, ce, ne, G4, rfl, hle4, H, hinv4⟩
 subst hljb3
 subst hljb2
 have hr1'' := hr1''.up hle4
 obtain ⟨hja, hjb, hjc, rfl⟩ := hinv4; obtain ⟨ajx, cjx, rfl⟩ := H.accShape (k := 0) rfl
 refine W_seq (q2 (aG Z (q3 (W_block ?_))))
 obtain ⟨ln52, hln52, H⟩ := H.nameAt (k := 1) (off := 2) rfl rfl
 obtain ⟨ln53, hln53, H⟩ := H.name (k := 2) rfl
 obtain ⟨ln54, hln54, H⟩ := H.name (k := 3) rfl
 refine W_lp (hf := (Sub.cons (t := 1) Z (Sub.cons (t := 2) Z (Sub.cons (t := 3) Z Sub.nil)))) (J := fun M w m => ∃ (v : Value) (n : Nat) (cs : List Value) (xs : List (BSnap)) (k : Nat) (G : PH), M = [(4, .int .i64 (k : Int))] ∧ PLe G4 G ∧ Hp w0 G0 [] w G [acc 46 2 v n cs, blk jb (cl (setN ln52 2 v) 27), blk b3 (cl ln53 27), blk b2 (cl ln54 27)] ∧ (Chk snapE 2 G cs xs ∧ n = xs.length ∧ k ≤ d.snaps.length ∧ xs.length = k ∧ xs = d.snaps.take k) ∧ m = (d.snaps.length - k)) (h0 := ⟨_, _, _, [], 0, _, Z, PLe.refl _, H, ?inv, Z⟩) (round := ?round)
 case inv => exact ⟨hjc,  by first | rfl | simp | (simp; omega) | omega, (by simp)⟩
 case round =>
  rintro _ w55 _ ⟨v, n, cs, xs, k, G55, rfl, hle55, H, hinv55, rfl⟩
  subst hln52
  subst hln53
  subst hln54
  have hr1'' := hr1''.up hle55
  have hja := hja.up hle55
  have hjb := hjb.up hle55
  obtain ⟨hchk55_0, hn55_0, hinv55⟩ := hinv55
  obtain ⟨av55_0, cv55_0, rfl⟩ := H.accShape (k := 0) rfl
  obtain ⟨hk, hxl, hxs⟩ := hinv55
  refine W_seq (q2 (mV Z (o_fieldAddr 2 runUnderlying27 Z sizeOf25 Z Z Z (o_load_B 3 H isAgg25 Z Z Z Z (o_len_slice underlying25 Z Z (o_lss Z Z Z (q3 ?_)))))))
  refine W_cond Z ?_ ?_
  ·intro hc56
   try simp only [nrm] at hc56
   refine W_skip (N_K (W_seq (W_block (W_drawK [1, 2, 3] 20 H kR Z ?_)))); intro w57 H; have hd57 := PLe.refl G55
   refine RD_t 0 Z kR Z (fun _ hK => v_fieldAddr 2 runUnderlying27 Z sizeOf25 Z Z) (RD_t 1 Z kR Z (fun _ hK => v_load_B 0 hK isAgg25 Z Z Z) (RD_t 2 Z kR Z (fun _ hK => v_fieldAddr 2 runUnderlying27 Z sizeOf25 Z Z) (RD_t 3 Z kR Z (fun _ hK => v_load_B 2 hK isAgg25 Z Z Z) (vM 4 Z Z ?_))))
   have hl58 := hr1''.len
   obtain ⟨b58, o58, z58, q58, ha58, hz58, hq58, hE58, hrow58, _⟩ := hr1''.at (i := k) oM
   clear hq58
   obtain ⟨a58, m58, c58, rfl, hi58, hr58⟩ := hE58; have hy_hi58 : _ ≤ 16777216 := hi58; have hn_hr58 := hr58.len; have hx_hr58 : _ ≤ 1099511627776 := hr58.lim
   refine RD_t 5 Z kR Z (fun _ hK => v_index_P (i := k) ha58 underlying25 sizeOf46 Z Z Z oM) (RD_t 6 Z kR Z (fun _ hK => v_fieldAddr 0 runUnderlying46 Z sizeOf9 Z Z) (RD_t 7 Z kR Z (fun _ hK => v_load_P hK isAgg9 Z (hrow58 0 _ Z)) (RD_t 8 Z kR Z (fun _ hK => v_fieldAddr 2 runUnderlying27 Z sizeOf25 Z Z) (RD_t 9 Z kR Z (fun _ hK => v_load_B 2 hK isAgg25 Z Z Z) (vM 10 Z Z ?_)))))
   have hl59 := hr1''.len
   obtain ⟨b59, o59, z59, q59, ha59, hz59, hq59, hE59, hrow59, _⟩ := hr1''.at (i := k) oM
   clear hq59
   obtain ⟨a59, m59, c59, rfl, hi59, hr59⟩ := hE59; have hy_hi59 : _ ≤ 16777216 := hi59; have hn_hr59 := hr59.len; have hx_hr59 : _ ≤ 1099511627776 := hr59.lim
   have hzz59 : z58 = z59 := Option.some.inj (hz58.symm.trans hz59)
   subst hzz59
   refine RD_t 11 Z kR Z (fun _ hK => v_index_P (i := k) ha59 underlying25 sizeOf46 Z Z Z oM) (RD_t 12 Z kR Z (fun _ hK => v_fieldAddr 1 runUnderlying46 Z sizeOf24 Z Z) (RD_t 13 Z kR Z (fun _ hK => v_load_P hK isAgg24 Z (hrow59 1 _ Z)) ?_))
   refine RD_run [14] kR Z (RDs.cons Z ?_ RDs.nil)
   refine o_call call43 Z Z (l5All_c _ _ H.sub _ _ hr59 ) ?_
   rintro _ w60 ⟨G60, v60, _, g60, rfl, ⟨cs60, rfl, hchk60⟩, hp60, hq60, hs60⟩
   have H := H.growO g60 hp60 hq60 hs60; obtain ⟨av60, cv60, rfl⟩ := H.accShape (k := 0) rfl
   have hchk55_0 := hchk55_0.up g60.le
   have hle55 := hle55.trans g60.le
   have hd57 := hd57.trans g60.le
   refine ⟨_, Z, ?_⟩
   refine R_nil (N_DK (Kn.of' H hd57 (SubL.cons 2 Z (SubL.cons 3 Z (SubL.cons 4 Z SubL.nil)))) (RD_t 15 Z kR Z (fun _ hK => v_build bf46 Z Z) ?_))
   refine RD_run [16] kR Z (RDs.cons Z ?_ RDs.nil)
   refine o_buildSlice H underlying25 sizeOf46 (fun w => ⟨_, zeroValue46 w, Z⟩) Z Z Z Z Z Z Z ?_; intro b61 w61 hb61 H
   refine R_nil (N_DK (Kn.of' H hd57 (SubL.cons 3 Z (SubL.cons 4 Z (SubL.cons 5 Z SubL.nil)))) ?_)
   refine RD_run [17] kR Z (RDs.cons Z ?_ RDs.nil)
   refine o_append1 1 H (sz := 2) (bytes := 40) underlying25 typeInfo46 ⟨_, Z, Z⟩ Z Z Z Z Z Z Z Z Z Z oM Z ?_; intro v62 w62 H
   obtain ⟨G63, H, hsg63, hsr63⟩ := H.shut' (k := 0) rfl hchk60 aN aN
   have hchk55_0 := hchk55_0.up hsg63
   have hle55 := hle55.trans hsg63
   have hd57 := hd57.trans hsg63
   have hchk62 := hchk55_0.snoc (show snapE _ ⟨z58.name, z58.tree⟩ _ from ⟨_, _, _, rfl, hi58, hsr63⟩) rfl
   obtain ⟨av62, cv62, rfl⟩ := H.accShape (k := 0) rfl
   refine R_nil (N_DK (Kn.of' H hd57 (SubL.cons 1 Z (SubL.cons 2 Z (SubL.cons 3 Z SubL.nil)))) (RD_t 18 Z kR Z (fun _ hK => v_fieldAddr 2 runUnderlying27 Z sizeOf25 Z Z) ?_))
   refine RD_run [19] kR Z (RDs.cons Z ?_ RDs.nil)
   refine o_store_B 1 H sizeOf25 Z Z Z Z Z Z Z Z ?_; intro w64 H
   refine R_nil (N_DKlast kR kR (N_B (N_K (W_region (mV Z (o_add Z Z Z oO (aG Z (R_nil ?_))))))))
   refine N_lp (hJ := ⟨_, _, _, (xs ++ [⟨z58.name, z58.tree⟩]), k + 1, _, Z, hle55, H, ?inv, Z⟩) (hm := ?hm)
   case hm => omega
   case inv => exact ⟨hchk62, aN, (by exact ⟨by omega, by simp [hxl], by rw [Sp.take_succ' hz58, hxs]⟩)⟩
  intro hc56'
  try simp only [nrm] at hc56'
  refine W_exit (N_K_exit (N_LP_exit (N_B_same (N_K (q2 (o_loadagg_B 1 H isAgg27 sizeOf27 Z Z Z Z Z (o_store_B 2 H sizeOf27 Z Z Z Z Z Z Z Z ?_))))))); intro w66 H
  refine q3 (W_ret (ret_gen (rs := [.cell 2 27]) (vs := [_]) results42 ⟨⟨_, Z, load_blk 2 H isAgg27 sizeOf27 Z Z Z⟩, trivial⟩ ?_))
  obtain rfl : k = d.snaps.length := by omega
  rw [List.take_length] at hxs
  subst hxs
  exact H.retO (k := 0) Z ⟨_, _, _, Z, AccOf.mk aN hchk55_0, hja, hjb⟩ (acc_nd _ _ _ _ _)
end Go.Proofs.Tst

namespace Go.Proofs.Tst
open Go Fw Tryz
theorem SnapTake_c (w0 : World) (G0 : PH) (hG : PSub G0 w0) (cd : List Value) (d : BDisk) (hd : diskE G0 d cd) (name : Bs) (hname : name.length ≤ 16777216)  :
  Calls Tryz.prog 17 #[.agg cd.toArray, str name] w0 (RetO w0 G0 (fun G val r => ∃ u u1 u2, val = .tuple #[.agg #[u, u1, u2], .bool (Sp.SnapTake d name).isSome] ∧ AccOf snapE 2 46 (((Sp.SnapTake d name).map (·.snaps)).getD []) G u2 r ∧ RdH G u (((Sp.SnapTake d name).map (·.store)).getD []) ∧ RdItems G u1 (((Sp.SnapTake d name).map (·.tree)).getD []))) := by
 obtain ⟨a1, m1, c1, a1', m1', c1', a1'', m1'', c1'', rfl, hr1, hr1', hr1''⟩ := hd; have hn_hr1 := hr1.len; have hx_hr1 : _ ≤ 1099511627776 := hr1.lim; have hn_hr1q := hr1'.len; have hx_hr1q : _ ≤ 1099511627776 := hr1'.lim; have hn_hr1qq := hr1''.len; have hx_hr1qq : _ ≤ 1099511627776 := hr1''.lim
 have H := Hp.init hG
 refine calls_of_W (l := [_, str name]) func17 Z ntmps17 Z (q2 (o_box H Z Z Z ?_)); intro b2 w2 hb2 H
 refine o_alloc H zeroValue27 Z Z ?_; intro b3 w3 hb3 H
 refine aG Z (q3 (W_seq (q2 (o_loadagg_B 1 H isAgg27 sizeOf27 Z Z Z Z Z (o_call call23 Z Z (DiskValid_c _ _ H.sub _ d ⟨_, _, _, _, _, _, _, _, _, Z, hr1, hr1', hr1''⟩ ) ?_)))))
 rintro _ w4 ⟨rfl, ew4⟩; have H := H.step ew4; refine ⟨_, rfl, ?_⟩
 refine o_not Z Z (mV Z ?_)
 refine R_case (t := 12) Z ?_ ?_
 ·intro hc5
  try simp only [nrm] at hc5
  refine rP Z (rP Z (rP Z (o_pick_t Z Z Z (mV Z (rP Z (rP Z (rP Z (rP Z (rP Z (o_pick_t Z Z Z (mV Z (rP Z (rP Z (rP Z (rP Z ?_)))))))))))))))
  refine o_pick_t Z Z Z (q3 (W_true Z (q2 (o_build bf27 Z Z Z (o_store_B 0 H sizeOf27 Z Z Z Z Z Z Z Z ?_))))); intro w6 H
  refine aG Z (q3 (W_ret (N_K_ret (ret_gen (rs := [.cell 4 27, .tmp 5]) (vs := [_, _]) results17 ⟨⟨_, Z, load_blk 0 H isAgg27 sizeOf27 Z Z Z⟩, Z, trivial⟩ ?_))))
  have hN : Sp.SnapTake d name = none := by simp [Sp.SnapTake, hc5]
  have H := H.addNil 46 2
  exact H.retO (k := 0) rfl (by rw [hN]; exact ⟨_, _, _, rfl, AccOf.mk rfl Chk.nil, RdS.nil _ _ _, RdS.nil _ _ _⟩) (acc_nd _ _ _ _ _)
 intro hc5'
 try simp only [nrm] at hc5'
 refine gR Z (mV Z (gR Z (o_call call39 Z Z (l1Word_c _ _ hname ) ?_)))
 rintro _ w7 ⟨rfl, ew7⟩; have H := H.step ew7; refine ⟨_, rfl, ?_⟩
 refine gR Z (o_not Z Z (o_pick_f Z Z Z (mV Z ?_)))
 refine R_case (t := 17) Z ?_ ?_
 ·intro hc8
  try simp only [nrm] at hc8
  refine rP Z (rP Z (rP Z (rP Z (rP Z (o_pick_t Z Z Z (mV Z (rP Z (rP Z (rP Z (rP Z (o_pick_t Z Z Z (q3 (W_true Z (q2 (o_build bf27 Z Z Z ?_)))))))))))))))
  refine o_store_B 0 H sizeOf27 Z Z Z Z Z Z Z Z ?_; intro w9 H
  refine aG Z (q3 (W_ret (N_K_ret (ret_gen (rs := [.cell 4 27, .tmp 5]) (vs := [_, _]) results17 ⟨⟨_, Z, load_blk 0 H isAgg27 sizeOf27 Z Z Z⟩, Z, trivial⟩ ?_))))
  have hN : Sp.SnapTake d name = none := by simp [Sp.SnapTake, hc8]
  have H := H.addNil 46 2
  exact H.retO (k := 0) rfl (by rw [hN]; exact ⟨_, _, _, rfl, AccOf.mk rfl Chk.nil, RdS.nil _ _ _, RdS.nil _ _ _⟩) (acc_nd _ _ _ _ _)
 intro hc8'
 try simp only [nrm] at hc8'
 refine gR Z (o_fieldAddr 2 runUnderlying27 Z sizeOf25 Z Z Z (gR Z (o_load_B 1 H isAgg25 Z Z Z Z (gR Z (mV Z (gR Z (o_call call40 Z Z (l12At_c _ _ H.sub _ _ hr1'' _ hname ) ?_)))))))
 rintro _ w10 ⟨rfl, ew10⟩; have H := H.step ew10; refine ⟨_, rfl, ?_⟩
 refine gR Z (o_geq Z Z Z (o_pick_f Z Z Z (mV Z ?_)))
 refine R_case (t := 24) Z ?_ ?_
 ·intro hc11
  try simp only [nrm] at hc11
  refine rP Z (rP Z (rP Z (rP Z (o_pick_t Z Z Z (q3 (W_true Z (q2 (o_build bf27 Z Z Z (o_store_B 0 H sizeOf27 Z Z Z Z Z Z Z Z ?_))))))))); intro w12 H
  refine aG Z (q3 (W_ret (N_K_ret (ret_gen (rs := [.cell 4 27, .tmp 5]) (vs := [_, _]) results17 ⟨⟨_, Z, load_blk 0 H isAgg27 sizeOf27 Z Z Z⟩, Z, trivial⟩ ?_))))
  have hN : Sp.SnapTake d name = none := by (obtain ⟨i, x, ia, ib, ic, ie, ig⟩ := Sp.at_nat hc11); simp [Sp.SnapTake, Sp.atS, ia]
  have H := H.addNil 46 2
  exact H.retO (k := 0) rfl (by rw [hN]; exact ⟨_, _, _, rfl, AccOf.mk rfl Chk.nil, RdS.nil _ _ _, RdS.nil _ _ _⟩) (acc_nd _ _ _ _ _)
 intro hc11'
 try simp only [nrm] at hc11'
 refine gR Z (o_fieldAddr 2 runUnderlying27 Z sizeOf25 Z Z Z (gR Z (o_load_B 1 H isAgg25 Z Z Z Z (gR Z (o_len_slice underlying25 Z Z (gR Z (o_eql Z Z Z (o_pick_f Z Z Z (q3 ?_)))))))))
 refine W_cond Z ?_ ?_
 ·intro hc13
  try simp only [nrm] at hc13
  refine q2 (o_build bf27 Z Z Z (o_store_B 0 H sizeOf27 Z Z Z Z Z Z Z Z ?_)); intro w14 H
  refine aG Z (q3 (W_ret (N_K_ret (ret_gen (rs := [.cell 4 27, .tmp 5]) (vs := [_, _]) results17 ⟨⟨_, Z, load_blk 0 H isAgg27 sizeOf27 Z Z Z⟩, Z, trivial⟩ ?_))))
  have hN : Sp.SnapTake d name = none := by simp [Sp.SnapTake, show d.snaps.length = 6 by omega]
  have H := H.addNil 46 2
  exact H.retO (k := 0) rfl (by rw [hN]; exact ⟨_, _, _, rfl, AccOf.mk rfl Chk.nil, RdS.nil _ _ _, RdS.nil _ _ _⟩) (acc_nd _ _ _ _ _)
 intro hc13'
 try simp only [nrm] at hc13'
 refine W_skip (N_K (q2 (o_fieldAddr 0 runUnderlying27 Z sizeOf23 Z Z Z (o_load_B 1 H isAgg23 Z Z Z Z (o_fieldAddr 1 runUnderlying27 Z sizeOf24 Z Z Z (o_load_B 1 H isAgg24 Z Z Z Z (o_call call41 Z Z (l12Keep_c _ _ H.sub _ _ hr1 _ _ hr1' ) ?_)))))))
 rintro _ w15 ⟨G15, _, _, g15, rfl, ⟨u15_0, rfl, ⟨cs15, rfl, hchk15⟩⟩, hp15, hq15, hs15⟩
 have H := H.growO g15 hp15 hq15 hs15; obtain ⟨av15, cv15, rfl⟩ := H.accShape (k := 0) rfl
 have hr1 := hr1.up g15.le
 have hr1' := hr1'.up g15.le
 have hr1'' := hr1''.up g15.le
 refine ⟨_, Z, ?_⟩
 have hkl := Sp.l12Keep_len d.store d.tree
 refine mV Z (o_extract Z Z Z (o_extract Z Z Z (aG Z (aG Z (q3 (W_seq (q2 (mV Z (o_not Z Z (q3 ?_))))))))))
 refine W_cond Z ?_ ?_
 ·intro hc16
  try simp only [nrm] at hc16
  refine q2 (o_build bf27 Z Z Z (o_store_B 1 H sizeOf27 Z Z Z Z Z Z Z Z ?_)); intro w17 H
  refine aG Z (q3 (W_ret (N_K_ret (ret_gen (rs := [.cell 4 27, .tmp 5]) (vs := [_, _]) results17 ⟨⟨_, Z, load_blk 1 H isAgg27 sizeOf27 Z Z Z⟩, Z, trivial⟩ ?_))))
  have hN : Sp.SnapTake d name = none := by (have hno : Sp.l12Keep d.store d.tree = none := by simpa using hc16); simp [Sp.SnapTake, hno]
  have H := H.addNil 46 2
  exact H.retO (k := 0) rfl (by rw [hN]; exact ⟨_, _, _, rfl, AccOf.mk rfl Chk.nil, RdS.nil _ _ _, RdS.nil _ _ _⟩) (acc_nd _ _ _ _ _)
 intro hc16'
 try simp only [nrm] at hc16'
 refine W_skip (N_K (q2 (o_loadagg_B 2 H isAgg27 sizeOf27 Z Z Z Z Z (o_call call42 Z Z (l12Copy_c _ _ H.sub _ d ⟨_, _, _, _, _, _, _, _, _, Z, hr1, hr1', hr1''⟩ ) ?_))))
 rintro _ w18 ⟨G18, _, _, g18, rfl, ⟨u18_0, u18_1, u18_2, rfl, ⟨cs18, rfl, hchk18⟩, hr18_0, hr18_1⟩, hp18, hq18, hs18⟩
 have H := H.growO g18 hp18 hq18 hs18; obtain ⟨av18, cv18, rfl⟩ := H.accShape (k := 0) rfl
 have hr1' := hr1'.up g18.le
 have hchk15 := hchk15.up g18.le
 obtain ⟨a18_0, k18_0, rfl⟩ := hr18_0.shape; have hx_hr18_0 : _ ≤ 1099511627776 := hr18_0.lim
 obtain ⟨a18_1, k18_1, rfl⟩ := hr18_1.shape; have hx_hr18_1 : _ ≤ 1099511627776 := hr18_1.lim
 refine ⟨_, Z, ?_⟩
 refine o_alloc H zeroValue27 Z Z ?_; intro b19 w19 hb19 H
 refine o_store_B 0 H sizeOf27 Z Z Z Z Z Z Z Z ?_; intro w20 H
 refine q1 (mV Z (o_fieldAddr 0 runUnderlying27 Z sizeOf23 Z Z Z (o_store_B 0 H sizeOf23 Z Z Z Z Z Z Z Z ?_))); intro w21 H
 refine q3 (W_seq (W_drawK [0, 3, 4] 11 H kR Z ?_)); intro w22 H; have hd22 := PLe.refl G18
 refine RD_t 0 Z kR Z (fun _ hK => v_fieldAddr 2 runUnderlying27 Z sizeOf25 Z Z) (RD_t 1 Z kR Z (fun _ hK => v_load_B 0 hK isAgg25 Z Z Z) (vM 2 Z Z (RD_t 3 Z kR Z (fun _ hK => v_fieldAddr 1 runUnderlying27 Z sizeOf24 Z Z) (RD_t 4 Z kR Z (fun _ hK => v_load_B 2 hK isAgg24 Z Z Z) ?_))))
 refine RD_run [5] kR Z (RDs.cons Z ?_ RDs.nil)
 refine o_call call43 Z Z (l5All_c _ _ H.sub _ _ hr1' ) ?_
 rintro _ w23 ⟨G23, v23, _, g23, rfl, ⟨cs23, rfl, hchk23⟩, hp23, hq23, hs23⟩
 have H := H.growO g23 hp23 hq23 hs23; obtain ⟨av23, cv23, rfl⟩ := H.accShape (k := 0) rfl
 have hchk15 := hchk15.up g23.le
 have hr18_1 := hr18_1.up g23.le
 have hchk18 := hchk18.up g23.le
 have hd22 := hd22.trans g23.le
 refine ⟨_, Z, ?_⟩
 refine R_nil (N_DK (Kn.of' H hd22 (SubL.cons 1 Z (SubL.cons 4 Z (SubL.cons 5 Z SubL.nil)))) (RD_t 6 Z kR Z (fun _ hK => v_build bf46 Z Z) ?_))
 refine RD_run [7] kR Z (RDs.cons Z ?_ RDs.nil)
 refine o_buildSlice H underlying25 sizeOf46 (fun w => ⟨_, zeroValue46 w, Z⟩) Z Z Z Z Z Z Z ?_; intro b24 w24 hb24 H
 refine R_nil (N_DK (Kn.of' H hd22 (SubL.cons 2 Z (SubL.cons 5 Z (SubL.cons 6 Z SubL.nil)))) ?_)
 refine RD_run [8] kR Z (RDs.cons Z ?_ RDs.nil)
 refine o_append1 2 H (sz := 2) (bytes := 40) underlying25 typeInfo46 ⟨_, Z, Z⟩ Z Z Z Z Z Z Z Z Z Z oM Z ?_; intro v25 w25 H
 obtain ⟨G26, H, hsg26, hsr26⟩ := H.shut' (k := 0) rfl hchk23 aN aN
 have hchk15 := hchk15.up hsg26
 have hr18_1 := hr18_1.up hsg26
 have hchk18 := hchk18.up hsg26
 have hd22 := hd22.trans hsg26
 have hchk25 := hchk18.snoc (show snapE _ ⟨name, d.tree⟩ _ from ⟨_, _, _, rfl, hname, hsr26⟩) rfl
 obtain ⟨av25, cv25, rfl⟩ := H.accShape (k := 1) rfl
 refine R_nil (N_DK (Kn.of' H hd22 (SubL.cons 0 Z (SubL.cons 3 Z (SubL.cons 4 Z SubL.nil)))) (RD_t 9 Z kR Z (fun _ hK => v_fieldAddr 2 runUnderlying27 Z sizeOf25 Z Z) ?_))
 refine RD_run [10] kR Z (RDs.cons Z ?_ RDs.nil)
 refine o_store_B 0 H sizeOf25 Z Z Z Z Z Z Z Z ?_; intro w27 H
 refine R_nil (N_DKlast kR kR (N_K (q2 (o_loadagg_B 0 H isAgg27 sizeOf27 Z Z Z Z Z (o_store_B 3 H sizeOf27 Z Z Z Z Z Z Z Z ?_))))); intro w28 H
 refine aG Z (q3 (W_ret (ret_gen (rs := [.cell 4 27, .tmp 5]) (vs := [_, _]) results17 ⟨⟨_, Z, load_blk 3 H isAgg27 sizeOf27 Z Z Z⟩, Z, trivial⟩ ?_)))
 obtain ⟨G530, H, hsg530, hsr530⟩ := H.shut' (k := 2) rfl hchk15 aN aN
 have hr18_1 := hr18_1.up hsg530
 have hchk25 := hchk25.up hsg530
 have hY : Sp.SnapTake d name = some ⟨(Sp.l12Keep d.store d.tree).getD [], d.tree, d.snaps ++ [⟨name, d.tree⟩]⟩ := by (obtain ⟨p, hp⟩ := Option.isSome_iff_exists.1 hc16'); (have hat : Sp.atS d.snaps name = none := Sp.at_none hc11'); simp [Sp.SnapTake, hc5', hc8', hat, hp, show ¬ d.snaps.length = 6 by omega]
 exact H.retO (k := 1) rfl (by rw [hY]; exact ⟨_, _, _, rfl, AccOf.mk aN hchk25, hsr530, hr18_1⟩) (acc_nd _ _ _ _ _)
end Go.Proofs.Tst

namespace Go.Proofs.Tst
open Go Fw Tryz
theorem SnapTakeP_c (w0 : World) (G0 : PH) (hG : PSub G0 w0) (cd : List Value) (d : BDisk) (hd : diskE G0 d cd) (name : Bs) (hname : name.length ≤ 16777216) :
  Calls Tryz.prog 17 #[.agg cd.toArray, str name] w0 (RetP w0 G0 (fun G val => ∃ cs, val = .tuple #[.agg cs.toArray, .bool (Sp.SnapTake d name).isSome] ∧ diskE G ((Sp.SnapTake d name).getD ⟨[], [], []⟩) cs)) := by
 refine (SnapTake_c w0 G0 hG cd d hd name hname).mono ?_
 rintro _ w' ⟨G, v, r, g, rfl, ⟨u, u1, u2, rfl, ⟨cells, rfl, hchk⟩, h1, h2⟩, hp, hq, hs⟩
 have H := (Hp.init hG).growO g hp hq hs
 have hb : (((Sp.SnapTake d name).map (·.snaps)).getD []).length ≤ 6 := Sp.dk_lim (fun d1 h => Sp.take_valid h)
 obtain ⟨G2, H2, hle, hr⟩ := H.shut' (k := 0) rfl hchk rfl oM
 have e1 : ((Sp.SnapTake d name).map (·.store)).getD [] = ((Sp.SnapTake d name).getD ⟨[], [], []⟩).store := by cases Sp.SnapTake d name <;> rfl
 have e2 : ((Sp.SnapTake d name).map (·.tree)).getD [] = ((Sp.SnapTake d name).getD ⟨[], [], []⟩).tree := by cases Sp.SnapTake d name <;> rfl
 have e3 : ((Sp.SnapTake d name).map (·.snaps)).getD [] = ((Sp.SnapTake d name).getD ⟨[], [], []⟩).snaps := by cases Sp.SnapTake d name <;> rfl
 rw [e1] at h1; rw [e2] at h2; rw [e3] at hr
 obtain ⟨a1, c1, rfl⟩ := h1.shape
 obtain ⟨a2, c2, rfl⟩ := h2.shape
 obtain ⟨a3, c3, rfl⟩ := hr.shape
 exact H2.retP ⟨[_, _, _], Z, _, _, _, _, _, _, _, _, _, Z, h1.up hle, h2.up hle, hr⟩
end Go.Proofs.Tst

namespace Go.Proofs.Tst
open Go Fw Tryz
theorem l12Free_c (w0 : World) (G0 : PH) (hG : PSub G0 w0) (vstore : Value) (store : List (BHeld)) (hstore : RdH G0 vstore store) (vlist : Value) (list : List (BItem)) (hlist : RdItems G0 vlist list)  :
  Calls Tryz.prog 129 #[vstore, vlist] w0 (RetO w0 G0 (AccOf heldE 3 42 (Sp.l12Free store list))) := by
 obtain ⟨astore, kstore, rfl⟩ := hstore.shape
 have hlimstore : store.length ≤ 1099511627776 := hstore.lim
 obtain ⟨alist, klist, rfl⟩ := hlist.shape
 have hlimlist : list.length ≤ 1099511627776 := hlist.lim
 have H := Hp.init hG
 refine calls_of_W (l := [.slice astore store.length kstore, .slice alist list.length klist]) func129 Z ntmps129 Z (q2 (aG Z (q1 (mV Z (o_call call79 Z Z (l3Copy_c _ _ H.sub _ _ hstore ) ?_)))))
 rintro _ w1 ⟨G1, v1, _, g1, rfl, ⟨cs1, rfl, hchk1⟩, hp1, hq1, hs1⟩
 have H := H.growO g1 hp1 hq1 hs1; obtain ⟨av1, cv1, rfl⟩ := H.accShape (k := 0) rfl
 have hlist := hlist.up g1.le
 refine ⟨_, Z, ?_⟩
 refine aG Z (q3 (W_seq (q2 (aG Z (q3 (W_block ?_))))))
 refine W_lp (hf := (Sub.cons (t := 1) Z (Sub.cons (t := 4) Z Sub.nil))) (J := fun M w m => ∃ (v : Value) (n : Nat) (cs : List Value) (xs : List (BHeld)) (k : Nat) (G : PH), M = [(6, .int .i64 (k : Int)), (5, v)] ∧ PLe G1 G ∧ Hp w0 G0 [] w G [acc 42 3 v n cs] ∧ (Chk heldE 3 G cs xs ∧ n = xs.length ∧ k ≤ list.length ∧ xs.length ≤ store.length ∧ xs = Sp.l12Free store (list.take k)) ∧ m = (list.length - k)) (h0 := ⟨_, _, _, store, 0, _, Z, PLe.refl _, H, ?inv, Z⟩) (round := ?round)
 case inv => exact ⟨hchk1,  by first | rfl | simp | (simp; omega) | omega, (by exact ⟨by omega, by omega, rfl⟩)⟩
 case round =>
  rintro _ w2 _ ⟨v, n, cs, xs, k, G2, rfl, hle2, H, hinv2, rfl⟩
  have hlist := hlist.up hle2
  obtain ⟨hchk2_0, hn2_0, hinv2⟩ := hinv2
  obtain ⟨av2_0, cv2_0, rfl⟩ := H.accShape (k := 0) rfl
  obtain ⟨hk, hxl, hxs⟩ := hinv2
  refine W_seq (q2 (mV Z (mV Z (o_len_slice underlying24 Z Z (o_lss Z Z Z (q3 ?_))))))
  refine W_cond Z ?_ ?_
  ·intro hc3
   try simp only [nrm] at hc3
   refine W_skip (N_K (W_seq (W_block (q2 (mV Z (mV Z (mV Z (o_index_P k hlist underlying24 sizeOf40 Z Z Z Z aN ?_)))))))); intro b4 o4 z4 q4 hz4 hE4 hrow4
   obtain ⟨a4, m4, c4, rfl, hi4, hr4⟩ := hE4; have hy_hi4 : _ ≤ 16777216 := hi4; have hn_hr4 := hr4.len; have hx_hr4 : _ ≤ 1099511627776 := hr4.lim
   refine o_fieldAddr 2 runUnderlying40 Z sizeOf38 Z Z Z (o_load_P H isAgg38 Z Z (hrow4 2 _ Z) ?_)
   obtain ⟨G6, H, hsg6, hsr6⟩ := H.shut' (k := 0) rfl hchk2_0 aN aN
   have hr4 := hr4.up hsg6
   have hle2 := hle2.trans hsg6
   refine o_call call159 Z Z (FileFree_c _ _ H.sub _ _ hsr6 _ _ hr4 ) ?_
   rintro _ w5 ⟨G5, _, _, g5, rfl, ⟨u5_0, rfl, ⟨cs5, rfl, hchk5⟩⟩, hp5, hq5, hs5⟩
   have H := H.growO g5 hp5 hq5 hs5; obtain ⟨av5, cv5, rfl⟩ := H.accShape (k := 0) rfl
   have hle2 := hle2.trans g5.le
   refine ⟨_, Z, ?_⟩
   refine mV Z (o_extract Z Z Z (o_extract Z Z Z (aG Z (aG Z (q3 (W_region (mV Z (aG Z (R_nil (N_B (N_K (W_region (mV Z (o_add Z Z Z oO (aG Z ?_)))))))))))))))
   refine R_nil ?_
   refine N_lp (hJ := ⟨_, _, _, ((Sp.FileFree xs z4.ids).getD []), k + 1, _, Z, hle2, H, ?inv, Z⟩) (hm := ?hm)
   case hm => omega
   case inv => exact ⟨hchk5, aN, (by exact ⟨by omega, by (have := Sp.free_len xs z4.ids; omega), by (rw [Sp.l12Free_succ hz4, ← hxs])⟩)⟩
  intro hc3'
  try simp only [nrm] at hc3'
  refine W_exit (N_K_exit (N_LP_exit (N_B_same (N_K (q2 (mV Z (aG Z (q3 (W_ret (rt1 results129 Z ?_))))))))))
  obtain rfl : k = list.length := by omega
  rw [List.take_length] at hxs
  subst hxs
  exact H.retO (k := 0) rfl (AccOf.mk (by assumption) hchk2_0) (acc_nd _ _ _ _ _)
theorem SnapBack_c (w0 : World) (G0 : PH) (hG : PSub G0 w0) (cd : List Value) (d : BDisk) (hd : diskE G0 d cd) (name : Bs) (hname : name.length ≤ 16777216)  :
  Calls Tryz.prog 99 #[.agg cd.toArray, str name] w0 (RetO w0 G0 (fun G val r => ∃ u u1 u2, val = .tuple #[.agg #[u, u1, u2], .bool (Sp.SnapBack d name).isSome] ∧ AccOf snapE 2 46 (((Sp.SnapBack d name).map (·.snaps)).getD []) G u2 r ∧ RdH G u (((Sp.SnapBack d name).map (·.store)).getD []) ∧ RdItems G u1 (((Sp.SnapBack d name).map (·.tree)).getD []))) := by
 obtain ⟨a1, m1, c1, a1', m1', c1', a1'', m1'', c1'', rfl, hr1, hr1', hr1''⟩ := hd; have hn_hr1 := hr1.len; have hx_hr1 : _ ≤ 1099511627776 := hr1.lim; have hn_hr1q := hr1'.len; have hx_hr1q : _ ≤ 1099511627776 := hr1'.lim; have hn_hr1qq := hr1''.len; have hx_hr1qq : _ ≤ 1099511627776 := hr1''.lim
 have H := Hp.init hG
 refine calls_of_W (l := [_, str name]) func99 Z ntmps99 Z (q2 (o_box H Z Z Z ?_)); intro b2 w2 hb2 H
 refine o_alloc H zeroValue27 Z Z ?_; intro b3 w3 hb3 H
 refine aG Z (q1 (o_fieldAddr 2 runUnderlying27 Z sizeOf25 Z Z Z (o_load_B 1 H isAgg25 Z Z Z Z (mV Z (o_call call40 Z Z (l12At_c _ _ H.sub _ _ hr1'' _ hname ) ?_)))))
 rintro _ w4 ⟨rfl, ew4⟩; have H := H.step ew4; refine ⟨_, rfl, ?_⟩
 refine aG Z (q3 (W_seq (q2 (o_loadagg_B 1 H isAgg27 sizeOf27 Z Z Z Z Z (o_call call23 Z Z (DiskValid_c _ _ H.sub _ d ⟨_, _, _, _, _, _, _, _, _, Z, hr1, hr1', hr1''⟩ ) ?_)))))
 rintro _ w5 ⟨rfl, ew5⟩; have H := H.step ew5; refine ⟨_, rfl, ?_⟩
 refine o_not Z Z (mV Z ?_)
 refine R_case (t := 17) Z ?_ ?_
 ·intro hc6
  try simp only [nrm] at hc6
  refine rP Z (rP Z (o_pick_t Z Z Z (q3 (W_true Z (q2 (o_build bf27 Z Z Z (o_store_B 0 H sizeOf27 Z Z Z Z Z Z Z Z ?_))))))); intro w7 H
  refine aG Z (q3 (W_ret (N_K_ret (ret_gen (rs := [.cell 4 27, .tmp 5]) (vs := [_, _]) results99 ⟨⟨_, Z, load_blk 0 H isAgg27 sizeOf27 Z Z Z⟩, Z, trivial⟩ ?_))))
  have hN : Sp.SnapBack d name = none := by exact Sp.back_nov (by simpa using hc6)
  have H := H.addNil 46 2
  exact H.retO (k := 0) rfl (by rw [hN]; exact ⟨_, _, _, rfl, AccOf.mk rfl Chk.nil, RdS.nil _ _ _, RdS.nil _ _ _⟩) (acc_nd _ _ _ _ _)
 intro hc6'
 try simp only [nrm] at hc6'
 refine gR Z (mV Z (gR Z (o_lss Z Z Z (o_pick_f Z Z Z (q3 ?_)))))
 refine W_cond Z ?_ ?_
 ·intro hc8
  try simp only [nrm] at hc8
  refine q2 (o_build bf27 Z Z Z (o_store_B 0 H sizeOf27 Z Z Z Z Z Z Z Z ?_)); intro w9 H
  refine aG Z (q3 (W_ret (N_K_ret (ret_gen (rs := [.cell 4 27, .tmp 5]) (vs := [_, _]) results99 ⟨⟨_, Z, load_blk 0 H isAgg27 sizeOf27 Z Z Z⟩, Z, trivial⟩ ?_))))
  have hN : Sp.SnapBack d name = none := by exact Sp.back_noat (by simpa [Sp.l12At] using hc8)
  have H := H.addNil 46 2
  exact H.retO (k := 0) rfl (by rw [hN]; exact ⟨_, _, _, rfl, AccOf.mk rfl Chk.nil, RdS.nil _ _ _, RdS.nil _ _ _⟩) (acc_nd _ _ _ _ _)
 intro hc8'
 try simp only [nrm] at hc8'
 obtain ⟨i, x, ia, ib, ic, ie, ig⟩ := Sp.at_nat hc8'
 have ib : Sp.l12At d.snaps name = (i : Int) := ib
 have hat : Sp.atS d.snaps name = some i := ia
 refine W_skip (N_K (W_seq (W_drawK [0, 1] 14 H kR Z ?_))); intro w10 H; have hd10 := PLe.refl G0
 refine RD_t 0 Z kR Z (fun _ hK => v_fieldAddr 0 runUnderlying27 Z sizeOf23 Z Z) (RD_t 1 Z kR Z (fun _ hK => v_load_B 1 hK isAgg23 Z Z Z) (RD_t 2 Z kR Z (fun _ hK => v_fieldAddr 2 runUnderlying27 Z sizeOf25 Z Z) (RD_t 3 Z kR Z (fun _ hK => v_load_B 1 hK isAgg25 Z Z Z) (vM 4 Z Z ?_))))
 have hl11 := hr1''.len
 obtain ⟨b11, o11, z11, q11, ha11, hz11, hq11, hE11, hrow11, _⟩ := hr1''.at (i := i) oM
 clear hq11
 obtain ⟨a11, m11, c11, rfl, hi11, hr11⟩ := hE11; have hy_hi11 : _ ≤ 16777216 := hi11; have hn_hr11 := hr11.len; have hx_hr11 : _ ≤ 1099511627776 := hr11.lim
 refine RD_t 5 Z kR Z (fun _ hK => v_index_P (i := i) ha11 underlying25 sizeOf46 Z Z ib oM) (RD_t 6 Z kR Z (fun _ hK => v_fieldAddr 1 runUnderlying46 Z sizeOf24 Z Z) (RD_t 7 Z kR Z (fun _ hK => v_load_P hK isAgg24 Z (hrow11 1 _ Z)) ?_))
 refine RD_run [8] kR Z (RDs.cons Z ?_ RDs.nil)
 refine o_call call41 Z Z (l12Keep_c _ _ H.sub _ _ hr1 _ _ hr11 ) ?_
 rintro _ w12 ⟨G12, _, _, g12, rfl, ⟨u12_0, rfl, ⟨cs12, rfl, hchk12⟩⟩, hp12, hq12, hs12⟩
 have H := H.growO g12 hp12 hq12 hs12; obtain ⟨av12, cv12, rfl⟩ := H.accShape (k := 0) rfl
 have hr1 := hr1.up g12.le
 have hr1' := hr1'.up g12.le
 have hr1'' := hr1''.up g12.le
 have hd10 := hd10.trans g12.le
 refine ⟨_, Z, ?_⟩
 have hkl := Sp.l12Keep_len d.store z11.tree
 refine R_nil (N_DK (Kn.of' H hd10 (SubL.cons 1 Z (SubL.cons 2 Z SubL.nil))) (vM 9 Z Z (RD_t 10 Z kR Z (fun _ hK => v_extract Z Z) (RD_t 11 Z kR Z (fun _ hK => v_extract Z Z) (RD_t 12 Z kR Z (fun _ hK => v_assign Z) (RD_t 13 Z kR Z (fun _ hK => v_assign Z) (RD_done kR (N_K (W_seq (q2 (mV Z (o_not Z Z (q3 ?_)))))))))))))
 refine W_cond Z ?_ ?_
 ·intro hc13
  try simp only [nrm] at hc13
  refine q2 (o_build bf27 Z Z Z (o_store_B 1 H sizeOf27 Z Z Z Z Z Z Z Z ?_)); intro w14 H
  refine aG Z (q3 (W_ret (N_K_ret (ret_gen (rs := [.cell 4 27, .tmp 5]) (vs := [_, _]) results99 ⟨⟨_, Z, load_blk 1 H isAgg27 sizeOf27 Z Z Z⟩, Z, trivial⟩ ?_))))
  have hN : Sp.SnapBack d name = none := by (have hno : Sp.l12Keep d.store z11.tree = none := by simpa using hc13); (rw [Sp.back_eq (by simpa using hc6') hat hz11, hno]; rfl)
  have H := H.addNil 46 2
  exact H.retO (k := 0) rfl (by rw [hN]; exact ⟨_, _, _, rfl, AccOf.mk rfl Chk.nil, RdS.nil _ _ _, RdS.nil _ _ _⟩) (acc_nd _ _ _ _ _)
 intro hc13'
 try simp only [nrm] at hc13'
 refine W_skip (N_K (q2 (o_loadagg_B 2 H isAgg27 sizeOf27 Z Z Z Z Z (o_call call42 Z Z (l12Copy_c _ _ H.sub _ d ⟨_, _, _, _, _, _, _, _, _, Z, hr1, hr1', hr1''⟩ ) ?_))))
 rintro _ w15 ⟨G15, _, _, g15, rfl, ⟨u15_0, u15_1, u15_2, rfl, ⟨cs15, rfl, hchk15⟩, hr15_0, hr15_1⟩, hp15, hq15, hs15⟩
 have H := H.growO g15 hp15 hq15 hs15; obtain ⟨av15, cv15, rfl⟩ := H.accShape (k := 0) rfl
 have hr1' := hr1'.up g15.le
 have hr1'' := hr1''.up g15.le
 have hchk12 := hchk12.up g15.le
 obtain ⟨a15_0, k15_0, rfl⟩ := hr15_0.shape; have hx_hr15_0 : _ ≤ 1099511627776 := hr15_0.lim
 obtain ⟨a15_1, k15_1, rfl⟩ := hr15_1.shape; have hx_hr15_1 : _ ≤ 1099511627776 := hr15_1.lim
 refine ⟨_, Z, ?_⟩
 refine o_alloc H zeroValue27 Z Z ?_; intro b16 w16 hb16 H
 refine o_store_B 0 H sizeOf27 Z Z Z Z Z Z Z Z ?_; intro w17 H
 refine q1 (mV Z (o_fieldAddr 1 runUnderlying27 Z sizeOf24 Z Z Z (o_load_B 4 H isAgg24 Z Z Z Z ?_)))
 obtain ⟨G19, H, hsg19, hsr19⟩ := H.shut' (k := 2) rfl hchk12 aN aN
 have hr1' := hr1'.up hsg19
 have hr1'' := hr1''.up hsg19
 have hchk15 := hchk15.up hsg19
 refine o_call call129 Z Z (l12Free_c _ _ H.sub _ _ hsr19 _ _ hr1' ) ?_
 rintro _ w18 ⟨G18, v18, _, g18, rfl, ⟨cs18, rfl, hchk18⟩, hp18, hq18, hs18⟩
 have H := H.growO g18 hp18 hq18 hs18; obtain ⟨av18, cv18, rfl⟩ := H.accShape (k := 0) rfl
 have hr1'' := hr1''.up g18.le
 have hchk15 := hchk15.up g18.le
 refine ⟨_, Z, ?_⟩
 have hfl2 := Sp.l12Free_len d.tree ((Sp.l12Keep d.store z11.tree).getD [])
 refine o_fieldAddr 0 runUnderlying27 Z sizeOf23 Z Z Z (o_store_B 1 H sizeOf23 Z Z Z Z Z Z Z Z ?_); intro w20 H
 refine q1 (o_fieldAddr 2 runUnderlying27 Z sizeOf25 Z Z Z (o_load_B 4 H isAgg25 Z Z Z Z (mV Z (o_index_P i hr1'' underlying25 sizeOf46 Z Z Z ib aN ?_)))); intro b21 o21 z21 q21 hz21 hE21 hrow21
 obtain ⟨a21, m21, c21, rfl, hi21, hr21⟩ := hE21; have hy_hi21 : _ ≤ 16777216 := hi21; have hn_hr21 := hr21.len; have hx_hr21 : _ ≤ 1099511627776 := hr21.lim
 refine o_fieldAddr 1 runUnderlying46 Z sizeOf24 Z Z Z (o_load_P H isAgg24 Z Z (hrow21 1 _ Z) (o_call call43 Z Z (l5All_c _ _ H.sub _ _ hr21 ) ?_))
 rintro _ w22 ⟨G22, v22, _, g22, rfl, ⟨cs22, rfl, hchk22⟩, hp22, hq22, hs22⟩
 have H := H.growO g22 hp22 hq22 hs22; obtain ⟨av22, cv22, rfl⟩ := H.accShape (k := 0) rfl
 have hchk15 := hchk15.up g22.le
 have hchk18 := hchk18.up g22.le
 refine ⟨_, Z, ?_⟩
 refine o_fieldAddr 1 runUnderlying27 Z sizeOf24 Z Z Z (o_store_B 2 H sizeOf24 Z Z Z Z Z Z Z Z ?_); intro w23 H
 refine q1 (o_loadagg_B 2 H isAgg27 sizeOf27 Z Z Z Z Z (o_store_B 4 H sizeOf27 Z Z Z Z Z Z Z Z ?_)); intro w24 H
 refine aG Z (q3 (W_ret (ret_gen (rs := [.cell 4 27, .tmp 5]) (vs := [_, _]) results99 ⟨⟨_, Z, load_blk 4 H isAgg27 sizeOf27 Z Z Z⟩, Z, trivial⟩ ?_)))
 have hzz := Option.some.inj (hz21.symm.trans hz11); subst hzz
 obtain ⟨G526, H, hsg526, hsr526⟩ := H.shut' (k := 1) rfl hchk18 aN aN
 have hchk15 := hchk15.up hsg526
 have hchk22 := hchk22.up hsg526
 obtain ⟨G527, H, hsg527, hsr527⟩ := H.shut' (k := 0) rfl hchk22 aN aN
 have hchk15 := hchk15.up hsg527
 have hsr526 := hsr526.up hsg527
 have hY : Sp.SnapBack d name = some ⟨Sp.l12Free ((Sp.l12Keep d.store z21.tree).getD []) d.tree, z21.tree, d.snaps⟩ := by (obtain ⟨p, hp⟩ := Option.isSome_iff_exists.1 hc13'); (rw [Sp.back_eq (by simpa using hc6') hat hz21, hp]; rfl)
 exact H.retO (k := 1) rfl (by rw [hY]; exact ⟨_, _, _, rfl, AccOf.mk aN hchk15, hsr526, hsr527⟩) (acc_nd _ _ _ _ _)
theorem DiskWrite_c (w0 : World) (G0 : PH) (hG : PSub G0 w0) (cd : List Value) (d : BDisk) (hd : diskE G0 d cd) (path : Bs) (hpath : path.length ≤ 16777216) (vbytes : Value) (bytes : List (Int)) (hbytes : RdI G0 vbytes bytes)  :
  Calls Tryz.prog 100 #[.agg cd.toArray, str path, vbytes] w0 (RetO w0 G0 (fun G val r => ∃ u u1 u2, val = .tuple #[.agg #[u, u1, u2], .bool (Sp.DiskWrite d path bytes).isSome] ∧ AccOf snapE 2 46 (((Sp.DiskWrite d path bytes).map (·.snaps)).getD []) G u2 r ∧ RdH G u (((Sp.DiskWrite d path bytes).map (·.store)).getD []) ∧ RdItems G u1 (((Sp.DiskWrite d path bytes).map (·.tree)).getD []))) := by
 obtain ⟨a1, m1, c1, a1', m1', c1', a1'', m1'', c1'', rfl, hr1, hr1', hr1''⟩ := hd; have hn_hr1 := hr1.len; have hx_hr1 : _ ≤ 1099511627776 := hr1.lim; have hn_hr1q := hr1'.len; have hx_hr1q : _ ≤ 1099511627776 := hr1'.lim; have hn_hr1qq := hr1''.len; have hx_hr1qq : _ ≤ 1099511627776 := hr1''.lim
 obtain ⟨abytes, kbytes, rfl⟩ := hbytes.shape
 have hlimbytes : bytes.length ≤ 1099511627776 := hbytes.lim
 have H := Hp.init hG
 refine calls_of_W (l := [_, str path, .slice abytes bytes.length kbytes]) func100 Z ntmps100 Z (q2 (o_box H Z Z Z ?_)); intro b2 w2 hb2 H
 refine o_alloc H zeroValue27 Z Z ?_; intro b3 w3 hb3 H
 refine aG Z (q3 (W_seq (q2 (o_loadagg_B 1 H isAgg27 sizeOf27 Z Z Z Z Z (o_call call23 Z Z (DiskValid_c _ _ H.sub _ d ⟨_, _, _, _, _, _, _, _, _, Z, hr1, hr1', hr1''⟩ ) ?_)))))
 rintro _ w4 ⟨rfl, ew4⟩; have H := H.step ew4; refine ⟨_, rfl, ?_⟩
 refine o_not Z Z (mV Z ?_)
 refine R_case (t := 14) Z ?_ ?_
 ·intro hc5
  try simp only [nrm] at hc5
  refine rP Z (rP Z (rP Z (o_pick_t Z Z Z (q3 (W_true Z (q2 (o_build bf27 Z Z Z (o_store_B 0 H sizeOf27 Z Z Z Z Z Z Z Z ?_)))))))); intro w6 H
  refine aG Z (q3 (W_ret (N_K_ret (ret_gen (rs := [.cell 6 27, .tmp 7]) (vs := [_, _]) results100 ⟨⟨_, Z, load_blk 0 H isAgg27 sizeOf27 Z Z Z⟩, Z, trivial⟩ ?_))))
  have hN : Sp.DiskWrite d path bytes = none := by simp [Sp.DiskWrite, hc5]
  have H := H.addNil 46 2
  exact H.retO (k := 0) rfl (by rw [hN]; exact ⟨_, _, _, rfl, AccOf.mk rfl Chk.nil, RdS.nil _ _ _, RdS.nil _ _ _⟩) (acc_nd _ _ _ _ _)
 intro hc5'
 try simp only [nrm] at hc5'
 refine gR Z (mV Z (gR Z (o_call call130 Z Z (FileValid_c _ _ H.sub _ _ hbytes ) ?_)))
 rintro _ w7 ⟨rfl, ew7⟩; have H := H.step ew7; refine ⟨_, rfl, ?_⟩
 refine gR Z (o_not Z Z (o_pick_f Z Z Z (q3 ?_)))
 refine W_cond Z ?_ ?_
 ·intro hc8
  try simp only [nrm] at hc8
  refine q2 (o_build bf27 Z Z Z (o_store_B 0 H sizeOf27 Z Z Z Z Z Z Z Z ?_)); intro w9 H
  refine aG Z (q3 (W_ret (N_K_ret (ret_gen (rs := [.cell 6 27, .tmp 7]) (vs := [_, _]) results100 ⟨⟨_, Z, load_blk 0 H isAgg27 sizeOf27 Z Z Z⟩, Z, trivial⟩ ?_))))
  have hN : Sp.DiskWrite d path bytes = none := by simp [Sp.DiskWrite, hc8]
  have H := H.addNil 46 2
  exact H.retO (k := 0) rfl (by rw [hN]; exact ⟨_, _, _, rfl, AccOf.mk rfl Chk.nil, RdS.nil _ _ _, RdS.nil _ _ _⟩) (acc_nd _ _ _ _ _)
 intro hc8'
 try simp only [nrm] at hc8'
 have hfl := Sp.file_len hc8'
 refine W_skip (N_K (q2 (o_fieldAddr 0 runUnderlying27 Z sizeOf23 Z Z Z (o_load_B 1 H isAgg23 Z Z Z Z (o_fieldAddr 1 runUnderlying27 Z sizeOf24 Z Z Z (o_load_B 1 H isAgg24 Z Z Z Z (o_build bf103 Z Z Z (mV Z (mV Z (o_call call131 Z Z (l11Write_c _ _ H.sub _ ⟨d.store, d.tree⟩ ⟨_, _, _, _, _, _, Z, hr1, hr1'⟩ _ hpath _ _ hbytes oM) ?_))))))))))
 rintro _ w10 ⟨G10, _, _, g10, rfl, ⟨u10_0, u10_1, rfl, ⟨cs10, rfl, hchk10⟩, hr10_1⟩, hp10, hq10, hs10⟩
 have H := H.growO g10 hp10 hq10 hs10; obtain ⟨av10, cv10, rfl⟩ := H.accShape (k := 0) rfl
 have hr1 := hr1.up g10.le
 have hr1' := hr1'.up g10.le
 have hr1'' := hr1''.up g10.le
 obtain ⟨a10_1, k10_1, rfl⟩ := hr10_1.shape; have hx_hr10_1 : _ ≤ 1099511627776 := hr10_1.lim
 refine ⟨_, Z, ?_⟩
 have hwl := Sp.l11Write_slen ⟨d.store, d.tree⟩ path bytes
 refine mV Z (o_extract Z Z Z (o_extract Z Z Z (o_alloc H zeroValue103 Z Z ?_))); intro b11 w11 hb11 H
 refine o_store_B 0 H sizeOf103 Z Z Z Z Z Z Z Z ?_; intro w12 H
 refine aG Z (q3 (W_seq (q2 (mV Z (o_not Z Z (q3 ?_))))))
 refine W_cond Z ?_ ?_
 ·intro hc13
  try simp only [nrm] at hc13
  refine q2 (o_build bf27 Z Z Z (o_store_B 2 H sizeOf27 Z Z Z Z Z Z Z Z ?_)); intro w14 H
  refine aG Z (q3 (W_ret (N_K_ret (ret_gen (rs := [.cell 6 27, .tmp 7]) (vs := [_, _]) results100 ⟨⟨_, Z, load_blk 2 H isAgg27 sizeOf27 Z Z Z⟩, Z, trivial⟩ ?_))))
  have hN : Sp.DiskWrite d path bytes = none := by (have hno : Sp.l11Write ⟨d.store, d.tree⟩ path bytes = none := by simpa using hc13); simp [Sp.DiskWrite, hno]
  have H := H.addNil 46 2
  exact H.retO (k := 0) rfl (by rw [hN]; exact ⟨_, _, _, rfl, AccOf.mk rfl Chk.nil, RdS.nil _ _ _, RdS.nil _ _ _⟩) (acc_nd _ _ _ _ _)
 intro hc13'
 try simp only [nrm] at hc13'
 refine W_skip (N_K (q2 (o_loadagg_B 3 H isAgg27 sizeOf27 Z Z Z Z Z (o_call call42 Z Z (l12Copy_c _ _ H.sub _ d ⟨_, _, _, _, _, _, _, _, _, Z, hr1, hr1', hr1''⟩ ) ?_))))
 rintro _ w15 ⟨G15, _, _, g15, rfl, ⟨u15_0, u15_1, u15_2, rfl, ⟨cs15, rfl, hchk15⟩, hr15_0, hr15_1⟩, hp15, hq15, hs15⟩
 have H := H.growO g15 hp15 hq15 hs15; obtain ⟨av15, cv15, rfl⟩ := H.accShape (k := 0) rfl
 have hchk10 := hchk10.up g15.le
 have hr10_1 := hr10_1.up g15.le
 obtain ⟨a15_0, k15_0, rfl⟩ := hr15_0.shape; have hx_hr15_0 : _ ≤ 1099511627776 := hr15_0.lim
 obtain ⟨a15_1, k15_1, rfl⟩ := hr15_1.shape; have hx_hr15_1 : _ ≤ 1099511627776 := hr15_1.lim
 refine ⟨_, Z, ?_⟩
 refine o_alloc H zeroValue27 Z Z ?_; intro b16 w16 hb16 H
 refine o_store_B 0 H sizeOf27 Z Z Z Z Z Z Z Z ?_; intro w17 H
 refine q1 (o_fieldAddr 0 runUnderlying103 Z sizeOf23 Z Z Z (o_load_B 2 H isAgg23 Z Z Z Z (o_fieldAddr 0 runUnderlying27 Z sizeOf23 Z Z Z (o_store_B 0 H sizeOf23 Z Z Z Z Z Z Z Z ?_)))); intro w18 H
 refine q1 (o_fieldAddr 1 runUnderlying103 Z sizeOf24 Z Z Z (o_load_B 2 H isAgg24 Z Z Z Z (o_fieldAddr 1 runUnderlying27 Z sizeOf24 Z Z Z (o_store_B 0 H sizeOf24 Z Z Z Z Z Z Z Z ?_)))); intro w19 H
 refine q1 (o_loadagg_B 0 H isAgg27 sizeOf27 Z Z Z Z Z (o_store_B 4 H sizeOf27 Z Z Z Z Z Z Z Z ?_)); intro w20 H
 refine aG Z (q3 (W_ret (ret_gen (rs := [.cell 6 27, .tmp 7]) (vs := [_, _]) results100 ⟨⟨_, Z, load_blk 4 H isAgg27 sizeOf27 Z Z Z⟩, Z, trivial⟩ ?_)))
 obtain ⟨G524, H, hsg524, hsr524⟩ := H.shut' (k := 3) rfl hchk10 aN aN
 have hr10_1 := hr10_1.up hsg524
 have hchk15 := hchk15.up hsg524
 have hY : Sp.DiskWrite d path bytes = some ⟨((Sp.l11Write ⟨d.store, d.tree⟩ path bytes).map (·.store)).getD [], ((Sp.l11Write ⟨d.store, d.tree⟩ path bytes).map (·.tree)).getD [], d.snaps⟩ := by (obtain ⟨p, hp⟩ := Option.isSome_iff_exists.1 hc13'); simp [Sp.DiskWrite, hc5', hc8', hp]
 exact H.retO (k := 1) rfl (by rw [hY]; exact ⟨_, _, _, rfl, AccOf.mk aN hchk15, hsr524, hr10_1⟩) (acc_nd _ _ _ _ _)
end Go.Proofs.Tst

namespace Go.Proofs.Tst
open Go Fw Tryz
theorem SnapBackP_c (w0 : World) (G0 : PH) (hG : PSub G0 w0) (cd : List Value) (d : BDisk) (hd : diskE G0 d cd) (name : Bs) (hname : name.length ≤ 16777216) :
  Calls Tryz.prog 99 #[.agg cd.toArray, str name] w0 (RetP w0 G0 (fun G val => ∃ cs, val = .tuple #[.agg cs.toArray, .bool (Sp.SnapBack d name).isSome] ∧ diskE G ((Sp.SnapBack d name).getD ⟨[], [], []⟩) cs)) := by
 refine (SnapBack_c w0 G0 hG cd d hd name hname).mono ?_
 rintro _ w' ⟨G, v, r, g, rfl, ⟨u, u1, u2, rfl, ⟨cells, rfl, hchk⟩, h1, h2⟩, hp, hq, hs⟩
 have H := (Hp.init hG).growO g hp hq hs
 have hb : (((Sp.SnapBack d name).map (·.snaps)).getD []).length ≤ 6 := Sp.dk_lim (fun d1 h => Sp.back_valid h)
 obtain ⟨G2, H2, hle, hr⟩ := H.shut' (k := 0) rfl hchk rfl oM
 have e1 : ((Sp.SnapBack d name).map (·.store)).getD [] = ((Sp.SnapBack d name).getD ⟨[], [], []⟩).store := by cases Sp.SnapBack d name <;> rfl
 have e2 : ((Sp.SnapBack d name).map (·.tree)).getD [] = ((Sp.SnapBack d name).getD ⟨[], [], []⟩).tree := by cases Sp.SnapBack d name <;> rfl
 have e3 : ((Sp.SnapBack d name).map (·.snaps)).getD [] = ((Sp.SnapBack d name).getD ⟨[], [], []⟩).snaps := by cases Sp.SnapBack d name <;> rfl
 rw [e1] at h1; rw [e2] at h2; rw [e3] at hr
 obtain ⟨a1, c1, rfl⟩ := h1.shape
 obtain ⟨a2, c2, rfl⟩ := h2.shape
 obtain ⟨a3, c3, rfl⟩ := hr.shape
 exact H2.retP ⟨[_, _, _], Z, _, _, _, _, _, _, _, _, _, Z, h1.up hle, h2.up hle, hr⟩
theorem DiskWriteP_c (w0 : World) (G0 : PH) (hG : PSub G0 w0) (cd : List Value) (d : BDisk) (hd : diskE G0 d cd) (path : Bs) (hpath : path.length ≤ 16777216) (vbytes : Value) (bytes : List Int) (hbytes : RdI G0 vbytes bytes) :
  Calls Tryz.prog 100 #[.agg cd.toArray, str path, vbytes] w0 (RetP w0 G0 (fun G val => ∃ cs, val = .tuple #[.agg cs.toArray, .bool (Sp.DiskWrite d path bytes).isSome] ∧ diskE G ((Sp.DiskWrite d path bytes).getD ⟨[], [], []⟩) cs)) := by
 refine (DiskWrite_c w0 G0 hG cd d hd path hpath vbytes bytes hbytes).mono ?_
 rintro _ w' ⟨G, v, r, g, rfl, ⟨u, u1, u2, rfl, ⟨cells, rfl, hchk⟩, h1, h2⟩, hp, hq, hs⟩
 have H := (Hp.init hG).growO g hp hq hs
 have hb : (((Sp.DiskWrite d path bytes).map (·.snaps)).getD []).length ≤ 6 := Sp.dk_lim (fun d1 h => Sp.dwrite_valid h)
 obtain ⟨G2, H2, hle, hr⟩ := H.shut' (k := 0) rfl hchk rfl oM
 have e1 : ((Sp.DiskWrite d path bytes).map (·.store)).getD [] = ((Sp.DiskWrite d path bytes).getD ⟨[], [], []⟩).store := by cases Sp.DiskWrite d path bytes <;> rfl
 have e2 : ((Sp.DiskWrite d path bytes).map (·.tree)).getD [] = ((Sp.DiskWrite d path bytes).getD ⟨[], [], []⟩).tree := by cases Sp.DiskWrite d path bytes <;> rfl
 have e3 : ((Sp.DiskWrite d path bytes).map (·.snaps)).getD [] = ((Sp.DiskWrite d path bytes).getD ⟨[], [], []⟩).snaps := by cases Sp.DiskWrite d path bytes <;> rfl
 rw [e1] at h1; rw [e2] at h2; rw [e3] at hr
 obtain ⟨a1, c1, rfl⟩ := h1.shape
 obtain ⟨a2, c2, rfl⟩ := h2.shape
 obtain ⟨a3, c3, rfl⟩ := hr.shape
 exact H2.retP ⟨[_, _, _], Z, _, _, _, _, _, _, _, _, _, Z, h1.up hle, h2.up hle, hr⟩
end Go.Proofs.Tst

namespace Go.Proofs.Tst
open Go Fw Tryz
theorem l91Turn_c (w0 : World) (G0 : PH) (hG : PSub G0 w0) (rb : Nat) (ab : Option Addr) (mb kb : Nat) (bs : List UInt8) (p : Nat) (hbs : RdU G0 (.slice ab mb kb) bs) (hrb : w0.heap[rb]? = some (cl [.slice ab mb kb, .int .i64 (p : Int)] 107)) (hrn : G0 rb = none) (hp : p ≤ 100000000) (cd : List Value) (d : BDisk) (hd : diskE G0 d cd)  :
  Calls Tryz.prog 64 #[.pointer (some ⟨rb, 0, none⟩), .agg cd.toArray] w0 (RetM w0 G0 [rb] (fun G val Bs => ∃ (p' : Nat) (v1 v2 v3 : Value) (st : List BHeld) (tr : List BItem) (sn : List BSnap) (b : Bool), p' ≤ p + 200 ∧ val = .tuple #[.agg #[v1, v2, v3], .bool b] ∧ RdH G v1 st ∧ RdItems G v2 tr ∧ RdSn G v3 sn ∧ Bs = [blk rb (cl [.slice ab mb kb, .int .i64 (p' : Int)] 107)])) := by
 have hlimbs : bs.length ≤ 1099511627776 := hbs.lim; obtain rfl : mb = bs.length := hbs.len
 obtain ⟨a1, m1, c1, a1', m1', c1', a1'', m1'', c1'', rfl, hr1, hr1', hr1''⟩ := hd; have hn_hr1 := hr1.len; have hx_hr1 : _ ≤ 1099511627776 := hr1.lim; have hn_hr1q := hr1'.len; have hx_hr1q : _ ≤ 1099511627776 := hr1'.lim; have hn_hr1qq := hr1''.len; have hx_hr1qq : _ ≤ 1099511627776 := hr1''.lim
 have H := Hp.initM hG hrb hrn
 refine calls_of_W (l := [.pointer (some ⟨rb, 0, none⟩), _]) func64 Z ntmps64 Z (q2 (o_box H Z Z Z ?_)); intro b2 w2 hb2 H
 refine o_alloc H zeroValue27 Z Z ?_; intro b3 w3 hb3 H
 refine aG Z (q3 (W_seq (q2 (mV Z (o_call call33 Z Z (pick_c _ _ H.sub _ _ _ _ _ _ hbs (H.blkIs (k := 2) Z).1 (H.blkIs (k := 2) Z).2 oM _ oO ) ?_)))))
 rintro _ w4 ⟨G4, _, _, rfl, H4', ⟨p4, x4, hp4, rfl, hxb4, rfl⟩⟩
 have hbs := hbs.up H4'.le
 have hr1 := hr1.up H4'.le
 have hr1' := hr1'.up H4'.le
 have hr1'' := hr1''.up H4'.le
 have H := H.borrow (k := 2) rfl H4'
 refine ⟨_, Z, ?_⟩
 refine q3 (W_block (W_seq (q2 (o_eql Z Z Z (aG Z (q3 ?_))))))
 refine W_cond Z ?_ ?_
 ·intro hc5
  try simp only [nrm] at hc5
  refine W_skip (N_K ?_)
  refine W_cond Z ?_ ?_
  ·intro hc6
   try simp only [nrm] at hc6
   refine W_seq (W_drawK [2] 9 H kR Z ?_); intro w7 H; have hd7 := PLe.refl G4
   refine RD_t 0 Z kR Z (fun _ hK => v_loadagg_B 0 hK isAgg27 sizeOf27 Z Z Z Z) (vM 1 Z Z ?_)
   refine RD_run [2] kR Z (RDs.cons Z ?_ RDs.nil)
   refine o_buildSlice H underlying77 sizeOf9 (fun w => ⟨_, zeroValue9 w, Z⟩) Z Z Z Z Z Z Z ?_; intro b8 w8 hb8 H
   refine R_nil (N_DK (Kn.of' H hd7 (SubL.cons 3 Z SubL.nil)) ?_)
   refine RD_run [3] kR Z (RDs.cons Z ?_ RDs.nil)
   have H := H.blkAcc 1 (k := 0) (n := 3) rfl rfl (by decide)
   have hchk10 := ((((Chk.nil (E := strE) (sz := 1) (G := G4)).snoc (show strE _ ([115] : Fw.Bs) [str [115]] from ⟨rfl, by decide⟩) rfl).snoc (show strE _ ([116] : Fw.Bs) [str [116]] from ⟨rfl, by decide⟩) rfl).snoc (show strE _ ([117] : Fw.Bs) [str [117]] from ⟨rfl, by decide⟩) rfl)
   obtain ⟨G11, H, hsg11, hsr11⟩ := H.shutM (k := 0) (j := 0) rfl rfl hchk10 aN aN
   have hbs := hbs.up hsg11
   have hr1 := hr1.up hsg11
   have hr1' := hr1'.up hsg11
   have hr1'' := hr1''.up hsg11
   have hd7 := hd7.trans hsg11
   refine o_call call34 Z Z (of_c _ _ H.sub _ _ _ _ _ _ hbs (H.blkIs (k := 0) Z).1 (H.blkIs (k := 0) Z).2 oM _ _ hsr11 (by first | decide | (simp; done) | (simp; omega))) ?_
   rintro _ w9 ⟨G9, _, _, rfl, H9', ⟨p9, x9, hp9, rfl, hxs9, rfl⟩⟩
   have hr1 := hr1.up H9'.le
   have hr1' := hr1'.up H9'.le
   have hr1'' := hr1''.up H9'.le
   have hd7 := hd7.trans H9'.le
   have H := H.borrow (k := 0) rfl H9'
   refine ⟨_, Z, ?_⟩
   refine R_nil (N_DK (Kn.of' H hd7 (SubL.cons 2 Z SubL.nil)) ?_)
   refine RD_run [4] kR Z (RDs.cons Z ?_ RDs.nil)
   refine o_call call17 Z Z (SnapTakeP_c _ _ H.sub _ d ⟨_, _, _, _, _, _, _, _, _, Z, hr1, hr1', hr1''⟩ _ hxs9 ) ?_
   rintro _ w12 ⟨G12, _, g12, rfl, u12_0, rfl, hr12_0⟩
   have H := H.grow g12
   have hd7 := hd7.trans g12.le
   obtain ⟨a13, m13, c13, a13', m13', c13', a13'', m13'', c13'', rfl, hr13, hr13', hr13''⟩ := hr12_0; have hn_hr13 := hr13.len; have hx_hr13 : _ ≤ 1099511627776 := hr13.lim; have hn_hr13q := hr13'.len; have hx_hr13q : _ ≤ 1099511627776 := hr13'.lim; have hn_hr13qq := hr13''.len; have hx_hr13qq : _ ≤ 1099511627776 := hr13''.lim
   refine ⟨_, Z, ?_⟩
   refine R_nil (N_DK (Kn.of' H hd7 (SubL.cons 2 Z SubL.nil)) (RD_t 5 Z kR Z (fun _ hK => v_extract Z Z) (RD_t 6 Z kR Z (fun _ hK => v_extract Z Z) ?_)))
   refine RD_run [7] kR Z (RDs.cons Z ?_ RDs.nil)
   refine o_store_B 1 H sizeOf27 Z Z Z Z Z Z Z Z ?_; intro w14 H
   refine R_nil (N_DK (Kn.of' H hd7 (SubL.cons 2 Z SubL.nil)) (RD_t 8 Z kR Z (fun _ hK => v_assign Z) (RD_done kR (N_K (W_ret (N_B_ret (N_K_ret (ret_gen (rs := [.cell 4 27, .tmp 5]) (vs := [_, _]) results64 ⟨⟨_, Z, load_blk 1 H isAgg27 sizeOf27 Z Z Z⟩, Z, trivial⟩ ?_))))))))
   have H := H.del (k := 1) rfl
   have H := H.del (k := 1) rfl
   exact H.retM ⟨_, _, _, _, _, _, _, _, oM, Z, hr13, hr13', hr13'', Z⟩
  intro hc6'
  try simp only [nrm] at hc6'
  refine q2 (o_eql Z Z Z (aG Z (q3 ?_)))
  refine W_cond Z ?_ ?_
  ·intro hc15
   try simp only [nrm] at hc15
   refine W_seq (W_drawK [2] 9 H kR Z ?_); intro w16 H; have hd16 := PLe.refl G4
   refine RD_t 0 Z kR Z (fun _ hK => v_loadagg_B 0 hK isAgg27 sizeOf27 Z Z Z Z) (vM 1 Z Z ?_)
   refine RD_run [2] kR Z (RDs.cons Z ?_ RDs.nil)
   refine o_buildSlice H underlying77 sizeOf9 (fun w => ⟨_, zeroValue9 w, Z⟩) Z Z Z Z Z Z Z ?_; intro b17 w17 hb17 H
   refine R_nil (N_DK (Kn.of' H hd16 (SubL.cons 3 Z SubL.nil)) ?_)
   refine RD_run [3] kR Z (RDs.cons Z ?_ RDs.nil)
   have H := H.blkAcc 1 (k := 0) (n := 2) rfl rfl (by decide)
   have hchk19 := (((Chk.nil (E := strE) (sz := 1) (G := G4)).snoc (show strE _ ([115] : Fw.Bs) [str [115]] from ⟨rfl, by decide⟩) rfl).snoc (show strE _ ([116] : Fw.Bs) [str [116]] from ⟨rfl, by decide⟩) rfl)
   obtain ⟨G20, H, hsg20, hsr20⟩ := H.shutM (k := 0) (j := 0) rfl rfl hchk19 aN aN
   have hbs := hbs.up hsg20
   have hr1 := hr1.up hsg20
   have hr1' := hr1'.up hsg20
   have hr1'' := hr1''.up hsg20
   have hd16 := hd16.trans hsg20
   refine o_call call34 Z Z (of_c _ _ H.sub _ _ _ _ _ _ hbs (H.blkIs (k := 0) Z).1 (H.blkIs (k := 0) Z).2 oM _ _ hsr20 (by first | decide | (simp; done) | (simp; omega))) ?_
   rintro _ w18 ⟨G18, _, _, rfl, H18', ⟨p18, x18, hp18, rfl, hxs18, rfl⟩⟩
   have hr1 := hr1.up H18'.le
   have hr1' := hr1'.up H18'.le
   have hr1'' := hr1''.up H18'.le
   have hd16 := hd16.trans H18'.le
   have H := H.borrow (k := 0) rfl H18'
   refine ⟨_, Z, ?_⟩
   refine R_nil (N_DK (Kn.of' H hd16 (SubL.cons 2 Z SubL.nil)) ?_)
   refine RD_run [4] kR Z (RDs.cons Z ?_ RDs.nil)
   refine o_call call99 Z Z (SnapBackP_c _ _ H.sub _ d ⟨_, _, _, _, _, _, _, _, _, Z, hr1, hr1', hr1''⟩ _ hxs18 ) ?_
   rintro _ w21 ⟨G21, _, g21, rfl, u21_0, rfl, hr21_0⟩
   have H := H.grow g21
   have hd16 := hd16.trans g21.le
   obtain ⟨a22, m22, c22, a22', m22', c22', a22'', m22'', c22'', rfl, hr22, hr22', hr22''⟩ := hr21_0; have hn_hr22 := hr22.len; have hx_hr22 : _ ≤ 1099511627776 := hr22.lim; have hn_hr22q := hr22'.len; have hx_hr22q : _ ≤ 1099511627776 := hr22'.lim; have hn_hr22qq := hr22''.len; have hx_hr22qq : _ ≤ 1099511627776 := hr22''.lim
   refine ⟨_, Z, ?_⟩
   refine R_nil (N_DK (Kn.of' H hd16 (SubL.cons 2 Z SubL.nil)) (RD_t 5 Z kR Z (fun _ hK => v_extract Z Z) (RD_t 6 Z kR Z (fun _ hK => v_extract Z Z) ?_)))
   refine RD_run [7] kR Z (RDs.cons Z ?_ RDs.nil)
   refine o_store_B 1 H sizeOf27 Z Z Z Z Z Z Z Z ?_; intro w23 H
   refine R_nil (N_DK (Kn.of' H hd16 (SubL.cons 2 Z SubL.nil)) (RD_t 8 Z kR Z (fun _ hK => v_assign Z) (RD_done kR (N_K (W_ret (N_B_ret (N_K_ret (ret_gen (rs := [.cell 4 27, .tmp 5]) (vs := [_, _]) results64 ⟨⟨_, Z, load_blk 1 H isAgg27 sizeOf27 Z Z Z⟩, Z, trivial⟩ ?_))))))))
   have H := H.del (k := 1) rfl
   have H := H.del (k := 1) rfl
   exact H.retM ⟨_, _, _, _, _, _, _, _, oM, Z, hr22, hr22', hr22'', Z⟩
  intro hc15'
  try simp only [nrm] at hc15'
  refine W_skip (N_B (N_K (q2 (mV Z (o_buildSlice H underlying77 sizeOf9 (fun w => ⟨_, zeroValue9 w, Z⟩) Z Z Z Z Z Z Z ?_))))); intro b24 w24 hb24 H
  have H := H.blkAcc 1 (k := 0) (n := 5) rfl rfl (by decide)
  have hchk26 := ((((((Chk.nil (E := strE) (sz := 1) (G := G4)).snoc (show strE _ ([99] : Fw.Bs) [str [99]] from ⟨rfl, by decide⟩) rfl).snoc (show strE _ ([97, 47, 121] : Fw.Bs) [str [97, 47, 121]] from ⟨rfl, by decide⟩) rfl).snoc (show strE _ ([98, 47, 120] : Fw.Bs) [str [98, 47, 120]] from ⟨rfl, by decide⟩) rfl).snoc (show strE _ ([97, 47, 120, 47, 112] : Fw.Bs) [str [97, 47, 120, 47, 112]] from ⟨rfl, by decide⟩) rfl).snoc (show strE _ ([100] : Fw.Bs) [str [100]] from ⟨rfl, by decide⟩) rfl)
  obtain ⟨G27, H, hsg27, hsr27⟩ := H.shutM (k := 0) (j := 0) rfl rfl hchk26 aN aN
  have hbs := hbs.up hsg27
  have hr1 := hr1.up hsg27
  have hr1' := hr1'.up hsg27
  have hr1'' := hr1''.up hsg27
  refine o_call call34 Z Z (of_c _ _ H.sub _ _ _ _ _ _ hbs (H.blkIs (k := 0) Z).1 (H.blkIs (k := 0) Z).2 oM _ _ hsr27 (by first | decide | (simp; done) | (simp; omega))) ?_
  rintro _ w25 ⟨G25, _, _, rfl, H25', ⟨p25, x25, hp25, rfl, hxs25, rfl⟩⟩
  have hbs := hbs.up H25'.le
  have hr1 := hr1.up H25'.le
  have hr1' := hr1'.up H25'.le
  have hr1'' := hr1''.up H25'.le
  have H := H.borrow (k := 0) rfl H25'
  refine ⟨_, Z, ?_⟩
  refine aG Z (q3 (W_seq (W_drawK [2] 9 H kR Z ?_))); intro w28 H; have hd28 := PLe.refl G25
  refine RD_t 0 Z kR Z (fun _ hK => v_loadagg_B 0 hK isAgg27 sizeOf27 Z Z Z Z) (vM 1 Z Z (vM 2 Z Z ?_))
  refine RD_run [3] kR Z (RDs.cons Z ?_ RDs.nil)
  refine o_call call101 Z Z (l91File_c _ _ H.sub _ _ _ _ _ _ hbs (H.blkIs (k := 0) Z).1 (H.blkIs (k := 0) Z).2 oM ) ?_
  rintro _ w29 ⟨G29, _, _, rfl, H29', ⟨p29, x29, v29, c29, hp29, rfl, hchk29, hxl29, rfl⟩⟩
  have hr1 := hr1.up H29'.le
  have hr1' := hr1'.up H29'.le
  have hr1'' := hr1''.up H29'.le
  have hd28 := hd28.trans H29'.le
  have H := H.borrow (k := 0) rfl H29'
  obtain ⟨av29, cv29, rfl⟩ := H.accShape (k := 0) rfl
  refine ⟨_, Z, ?_⟩
  refine R_nil (N_DK (Kn.of' H hd28 (SubL.cons 3 Z SubL.nil)) ?_)
  refine RD_run [4] kR Z (RDs.cons Z ?_ RDs.nil)
  obtain ⟨G31, H, hsg31, hsr31⟩ := H.shutM (k := 0) (j := 0) rfl rfl hchk29 aN aN
  have hr1 := hr1.up hsg31
  have hr1' := hr1'.up hsg31
  have hr1'' := hr1''.up hsg31
  have hd28 := hd28.trans hsg31
  refine o_call call100 Z Z (DiskWriteP_c _ _ H.sub _ d ⟨_, _, _, _, _, _, _, _, _, Z, hr1, hr1', hr1''⟩ _ hxs25 _ _ hsr31 ) ?_
  rintro _ w30 ⟨G30, _, g30, rfl, u30_0, rfl, hr30_0⟩
  have H := H.grow g30
  have hd28 := hd28.trans g30.le
  obtain ⟨a32, m32, c32, a32', m32', c32', a32'', m32'', c32'', rfl, hr32, hr32', hr32''⟩ := hr30_0; have hn_hr32 := hr32.len; have hx_hr32 : _ ≤ 1099511627776 := hr32.lim; have hn_hr32q := hr32'.len; have hx_hr32q : _ ≤ 1099511627776 := hr32'.lim; have hn_hr32qq := hr32''.len; have hx_hr32qq : _ ≤ 1099511627776 := hr32''.lim
  refine ⟨_, Z, ?_⟩
  refine R_nil (N_DK (Kn.of' H hd28 (SubL.cons 2 Z SubL.nil)) (RD_t 5 Z kR Z (fun _ hK => v_extract Z Z) (RD_t 6 Z kR Z (fun _ hK => v_extract Z Z) ?_)))
  refine RD_run [7] kR Z (RDs.cons Z ?_ RDs.nil)
  refine o_store_B 1 H sizeOf27 Z Z Z Z Z Z Z Z ?_; intro w33 H
  refine R_nil (N_DK (Kn.of' H hd28 (SubL.cons 2 Z SubL.nil)) (RD_t 8 Z kR Z (fun _ hK => v_assign Z) (RD_done kR (N_K (W_ret (ret_gen (rs := [.cell 4 27, .tmp 5]) (vs := [_, _]) results64 ⟨⟨_, Z, load_blk 1 H isAgg27 sizeOf27 Z Z Z⟩, Z, trivial⟩ ?_))))))
  have H := H.del (k := 1) rfl
  have H := H.del (k := 1) rfl
  exact H.retM ⟨_, _, _, _, _, _, _, _, oM, Z, hr32, hr32', hr32'', Z⟩
 intro hc5'
 try simp only [nrm] at hc5'
 refine q2 (o_eql Z Z Z (aG Z (q3 ?_)))
 refine W_cond Z ?_ ?_
 ·intro hc34
  try simp only [nrm] at hc34
  refine W_skip (N_K ?_)
  refine W_cond Z ?_ ?_
  ·intro hc35
   try simp only [nrm] at hc35
   refine W_seq (W_drawK [2] 9 H kR Z ?_); intro w36 H; have hd36 := PLe.refl G4
   refine RD_t 0 Z kR Z (fun _ hK => v_loadagg_B 0 hK isAgg27 sizeOf27 Z Z Z Z) (vM 1 Z Z ?_)
   refine RD_run [2] kR Z (RDs.cons Z ?_ RDs.nil)
   refine o_buildSlice H underlying77 sizeOf9 (fun w => ⟨_, zeroValue9 w, Z⟩) Z Z Z Z Z Z Z ?_; intro b37 w37 hb37 H
   refine R_nil (N_DK (Kn.of' H hd36 (SubL.cons 3 Z SubL.nil)) ?_)
   refine RD_run [3] kR Z (RDs.cons Z ?_ RDs.nil)
   have H := H.blkAcc 1 (k := 0) (n := 3) rfl rfl (by decide)
   have hchk39 := ((((Chk.nil (E := strE) (sz := 1) (G := G4)).snoc (show strE _ ([115] : Fw.Bs) [str [115]] from ⟨rfl, by decide⟩) rfl).snoc (show strE _ ([116] : Fw.Bs) [str [116]] from ⟨rfl, by decide⟩) rfl).snoc (show strE _ ([117] : Fw.Bs) [str [117]] from ⟨rfl, by decide⟩) rfl)
   obtain ⟨G40, H, hsg40, hsr40⟩ := H.shutM (k := 0) (j := 0) rfl rfl hchk39 aN aN
   have hbs := hbs.up hsg40
   have hr1 := hr1.up hsg40
   have hr1' := hr1'.up hsg40
   have hr1'' := hr1''.up hsg40
   have hd36 := hd36.trans hsg40
   refine o_call call34 Z Z (of_c _ _ H.sub _ _ _ _ _ _ hbs (H.blkIs (k := 0) Z).1 (H.blkIs (k := 0) Z).2 oM _ _ hsr40 (by first | decide | (simp; done) | (simp; omega))) ?_
   rintro _ w38 ⟨G38, _, _, rfl, H38', ⟨p38, x38, hp38, rfl, hxs38, rfl⟩⟩
   have hr1 := hr1.up H38'.le
   have hr1' := hr1'.up H38'.le
   have hr1'' := hr1''.up H38'.le
   have hd36 := hd36.trans H38'.le
   have H := H.borrow (k := 0) rfl H38'
   refine ⟨_, Z, ?_⟩
   refine R_nil (N_DK (Kn.of' H hd36 (SubL.cons 2 Z SubL.nil)) ?_)
   refine RD_run [4] kR Z (RDs.cons Z ?_ RDs.nil)
   refine o_call call17 Z Z (SnapTakeP_c _ _ H.sub _ d ⟨_, _, _, _, _, _, _, _, _, Z, hr1, hr1', hr1''⟩ _ hxs38 ) ?_
   rintro _ w41 ⟨G41, _, g41, rfl, u41_0, rfl, hr41_0⟩
   have H := H.grow g41
   have hd36 := hd36.trans g41.le
   obtain ⟨a42, m42, c42, a42', m42', c42', a42'', m42'', c42'', rfl, hr42, hr42', hr42''⟩ := hr41_0; have hn_hr42 := hr42.len; have hx_hr42 : _ ≤ 1099511627776 := hr42.lim; have hn_hr42q := hr42'.len; have hx_hr42q : _ ≤ 1099511627776 := hr42'.lim; have hn_hr42qq := hr42''.len; have hx_hr42qq : _ ≤ 1099511627776 := hr42''.lim
   refine ⟨_, Z, ?_⟩
   refine R_nil (N_DK (Kn.of' H hd36 (SubL.cons 2 Z SubL.nil)) (RD_t 5 Z kR Z (fun _ hK => v_extract Z Z) (RD_t 6 Z kR Z (fun _ hK => v_extract Z Z) ?_)))
   refine RD_run [7] kR Z (RDs.cons Z ?_ RDs.nil)
   refine o_store_B 1 H sizeOf27 Z Z Z Z Z Z Z Z ?_; intro w43 H
   refine R_nil (N_DK (Kn.of' H hd36 (SubL.cons 2 Z SubL.nil)) (RD_t 8 Z kR Z (fun _ hK => v_assign Z) (RD_done kR (N_K (W_ret (N_B_ret (N_K_ret (ret_gen (rs := [.cell 4 27, .tmp 5]) (vs := [_, _]) results64 ⟨⟨_, Z, load_blk 1 H isAgg27 sizeOf27 Z Z Z⟩, Z, trivial⟩ ?_))))))))
   have H := H.del (k := 1) rfl
   have H := H.del (k := 1) rfl
   exact H.retM ⟨_, _, _, _, _, _, _, _, oM, Z, hr42, hr42', hr42'', Z⟩
  intro hc35'
  try simp only [nrm] at hc35'
  refine q2 (o_eql Z Z Z (aG Z (q3 ?_)))
  refine W_cond Z ?_ ?_
  ·intro hc44
   try simp only [nrm] at hc44
   refine W_seq (W_drawK [2] 9 H kR Z ?_); intro w45 H; have hd45 := PLe.refl G4
   refine RD_t 0 Z kR Z (fun _ hK => v_loadagg_B 0 hK isAgg27 sizeOf27 Z Z Z Z) (vM 1 Z Z ?_)
   refine RD_run [2] kR Z (RDs.cons Z ?_ RDs.nil)
   refine o_buildSlice H underlying77 sizeOf9 (fun w => ⟨_, zeroValue9 w, Z⟩) Z Z Z Z Z Z Z ?_; intro b46 w46 hb46 H
   refine R_nil (N_DK (Kn.of' H hd45 (SubL.cons 3 Z SubL.nil)) ?_)
   refine RD_run [3] kR Z (RDs.cons Z ?_ RDs.nil)
   have H := H.blkAcc 1 (k := 0) (n := 2) rfl rfl (by decide)
   have hchk48 := (((Chk.nil (E := strE) (sz := 1) (G := G4)).snoc (show strE _ ([115] : Fw.Bs) [str [115]] from ⟨rfl, by decide⟩) rfl).snoc (show strE _ ([116] : Fw.Bs) [str [116]] from ⟨rfl, by decide⟩) rfl)
   obtain ⟨G49, H, hsg49, hsr49⟩ := H.shutM (k := 0) (j := 0) rfl rfl hchk48 aN aN
   have hbs := hbs.up hsg49
   have hr1 := hr1.up hsg49
   have hr1' := hr1'.up hsg49
   have hr1'' := hr1''.up hsg49
   have hd45 := hd45.trans hsg49
   refine o_call call34 Z Z (of_c _ _ H.sub _ _ _ _ _ _ hbs (H.blkIs (k := 0) Z).1 (H.blkIs (k := 0) Z).2 oM _ _ hsr49 (by first | decide | (simp; done) | (simp; omega))) ?_
   rintro _ w47 ⟨G47, _, _, rfl, H47', ⟨p47, x47, hp47, rfl, hxs47, rfl⟩⟩
   have hr1 := hr1.up H47'.le
   have hr1' := hr1'.up H47'.le
   have hr1'' := hr1''.up H47'.le
   have hd45 := hd45.trans H47'.le
   have H := H.borrow (k := 0) rfl H47'
   refine ⟨_, Z, ?_⟩
   refine R_nil (N_DK (Kn.of' H hd45 (SubL.cons 2 Z SubL.nil)) ?_)
   refine RD_run [4] kR Z (RDs.cons Z ?_ RDs.nil)
   refine o_call call99 Z Z (SnapBackP_c _ _ H.sub _ d ⟨_, _, _, _, _, _, _, _, _, Z, hr1, hr1', hr1''⟩ _ hxs47 ) ?_
   rintro _ w50 ⟨G50, _, g50, rfl, u50_0, rfl, hr50_0⟩
   have H := H.grow g50
   have hd45 := hd45.trans g50.le
   obtain ⟨a51, m51, c51, a51', m51', c51', a51'', m51'', c51'', rfl, hr51, hr51', hr51''⟩ := hr50_0; have hn_hr51 := hr51.len; have hx_hr51 : _ ≤ 1099511627776 := hr51.lim; have hn_hr51q := hr51'.len; have hx_hr51q : _ ≤ 1099511627776 := hr51'.lim; have hn_hr51qq := hr51''.len; have hx_hr51qq : _ ≤ 1099511627776 := hr51''.lim
   refine ⟨_, Z, ?_⟩
   refine R_nil (N_DK (Kn.of' H hd45 (SubL.cons 2 Z SubL.nil)) (RD_t 5 Z kR Z (fun _ hK => v_extract Z Z) (RD_t 6 Z kR Z (fun _ hK => v_extract Z Z) ?_)))
   refine RD_run [7] kR Z (RDs.cons Z ?_ RDs.nil)
   refine o_store_B 1 H sizeOf27 Z Z Z Z Z Z Z Z ?_; intro w52 H
   refine R_nil (N_DK (Kn.of' H hd45 (SubL.cons 2 Z SubL.nil)) (RD_t 8 Z kR Z (fun _ hK => v_assign Z) (RD_done kR (N_K (W_ret (N_B_ret (N_K_ret (ret_gen (rs := [.cell 4 27, .tmp 5]) (vs := [_, _]) results64 ⟨⟨_, Z, load_blk 1 H isAgg27 sizeOf27 Z Z Z⟩, Z, trivial⟩ ?_))))))))
   have H := H.del (k := 1) rfl
   have H := H.del (k := 1) rfl
   exact H.retM ⟨_, _, _, _, _, _, _, _, oM, Z, hr51, hr51', hr51'', Z⟩
  intro hc44'
  try simp only [nrm] at hc44'
  refine W_skip (N_B (N_K (q2 (mV Z (o_buildSlice H underlying77 sizeOf9 (fun w => ⟨_, zeroValue9 w, Z⟩) Z Z Z Z Z Z Z ?_))))); intro b53 w53 hb53 H
  have H := H.blkAcc 1 (k := 0) (n := 5) rfl rfl (by decide)
  have hchk55 := ((((((Chk.nil (E := strE) (sz := 1) (G := G4)).snoc (show strE _ ([99] : Fw.Bs) [str [99]] from ⟨rfl, by decide⟩) rfl).snoc (show strE _ ([97, 47, 121] : Fw.Bs) [str [97, 47, 121]] from ⟨rfl, by decide⟩) rfl).snoc (show strE _ ([98, 47, 120] : Fw.Bs) [str [98, 47, 120]] from ⟨rfl, by decide⟩) rfl).snoc (show strE _ ([97, 47, 120, 47, 112] : Fw.Bs) [str [97, 47, 120, 47, 112]] from ⟨rfl, by decide⟩) rfl).snoc (show strE _ ([100] : Fw.Bs) [str [100]] from ⟨rfl, by decide⟩) rfl)
  obtain ⟨G56, H, hsg56, hsr56⟩ := H.shutM (k := 0) (j := 0) rfl rfl hchk55 aN aN
  have hbs := hbs.up hsg56
  have hr1 := hr1.up hsg56
  have hr1' := hr1'.up hsg56
  have hr1'' := hr1''.up hsg56
  refine o_call call34 Z Z (of_c _ _ H.sub _ _ _ _ _ _ hbs (H.blkIs (k := 0) Z).1 (H.blkIs (k := 0) Z).2 oM _ _ hsr56 (by first | decide | (simp; done) | (simp; omega))) ?_
  rintro _ w54 ⟨G54, _, _, rfl, H54', ⟨p54, x54, hp54, rfl, hxs54, rfl⟩⟩
  have hbs := hbs.up H54'.le
  have hr1 := hr1.up H54'.le
  have hr1' := hr1'.up H54'.le
  have hr1'' := hr1''.up H54'.le
  have H := H.borrow (k := 0) rfl H54'
  refine ⟨_, Z, ?_⟩
  refine aG Z (q3 (W_seq (W_drawK [2] 9 H kR Z ?_))); intro w57 H; have hd57 := PLe.refl G54
  refine RD_t 0 Z kR Z (fun _ hK => v_loadagg_B 0 hK isAgg27 sizeOf27 Z Z Z Z) (vM 1 Z Z (vM 2 Z Z ?_))
  refine RD_run [3] kR Z (RDs.cons Z ?_ RDs.nil)
  refine o_call call101 Z Z (l91File_c _ _ H.sub _ _ _ _ _ _ hbs (H.blkIs (k := 0) Z).1 (H.blkIs (k := 0) Z).2 oM ) ?_
  rintro _ w58 ⟨G58, _, _, rfl, H58', ⟨p58, x58, v58, c58, hp58, rfl, hchk58, hxl58, rfl⟩⟩
  have hr1 := hr1.up H58'.le
  have hr1' := hr1'.up H58'.le
  have hr1'' := hr1''.up H58'.le
  have hd57 := hd57.trans H58'.le
  have H := H.borrow (k := 0) rfl H58'
  obtain ⟨av58, cv58, rfl⟩ := H.accShape (k := 0) rfl
  refine ⟨_, Z, ?_⟩
  refine R_nil (N_DK (Kn.of' H hd57 (SubL.cons 3 Z SubL.nil)) ?_)
  refine RD_run [4] kR Z (RDs.cons Z ?_ RDs.nil)
  obtain ⟨G60, H, hsg60, hsr60⟩ := H.shutM (k := 0) (j := 0) rfl rfl hchk58 aN aN
  have hr1 := hr1.up hsg60
  have hr1' := hr1'.up hsg60
  have hr1'' := hr1''.up hsg60
  have hd57 := hd57.trans hsg60
  refine o_call call100 Z Z (DiskWriteP_c _ _ H.sub _ d ⟨_, _, _, _, _, _, _, _, _, Z, hr1, hr1', hr1''⟩ _ hxs54 _ _ hsr60 ) ?_
  rintro _ w59 ⟨G59, _, g59, rfl, u59_0, rfl, hr59_0⟩
  have H := H.grow g59
  have hd57 := hd57.trans g59.le
  obtain ⟨a61, m61, c61, a61', m61', c61', a61'', m61'', c61'', rfl, hr61, hr61', hr61''⟩ := hr59_0; have hn_hr61 := hr61.len; have hx_hr61 : _ ≤ 1099511627776 := hr61.lim; have hn_hr61q := hr61'.len; have hx_hr61q : _ ≤ 1099511627776 := hr61'.lim; have hn_hr61qq := hr61''.len; have hx_hr61qq : _ ≤ 1099511627776 := hr61''.lim
  refine ⟨_, Z, ?_⟩
  refine R_nil (N_DK (Kn.of' H hd57 (SubL.cons 2 Z SubL.nil)) (RD_t 5 Z kR Z (fun _ hK => v_extract Z Z) (RD_t 6 Z kR Z (fun _ hK => v_extract Z Z) ?_)))
  refine RD_run [7] kR Z (RDs.cons Z ?_ RDs.nil)
  refine o_store_B 1 H sizeOf27 Z Z Z Z Z Z Z Z ?_; intro w62 H
  refine R_nil (N_DK (Kn.of' H hd57 (SubL.cons 2 Z SubL.nil)) (RD_t 8 Z kR Z (fun _ hK => v_assign Z) (RD_done kR (N_K (W_ret (ret_gen (rs := [.cell 4 27, .tmp 5]) (vs := [_, _]) results64 ⟨⟨_, Z, load_blk 1 H isAgg27 sizeOf27 Z Z Z⟩, Z, trivial⟩ ?_))))))
  have H := H.del (k := 1) rfl
  have H := H.del (k := 1) rfl
  exact H.retM ⟨_, _, _, _, _, _, _, _, oM, Z, hr61, hr61', hr61'', Z⟩
 intro hc34'
 try simp only [nrm] at hc34'
 refine W_region (o_eql Z Z Z (aG Z (q3 ?_)))
 refine W_cond Z ?_ ?_
 ·intro hc63
  try simp only [nrm] at hc63
  refine W_seq (W_drawK [2] 9 H kR Z ?_); intro w64 H; have hd64 := PLe.refl G4
  refine RD_t 0 Z kR Z (fun _ hK => v_loadagg_B 0 hK isAgg27 sizeOf27 Z Z Z Z) (vM 1 Z Z ?_)
  refine RD_run [2] kR Z (RDs.cons Z ?_ RDs.nil)
  refine o_buildSlice H underlying77 sizeOf9 (fun w => ⟨_, zeroValue9 w, Z⟩) Z Z Z Z Z Z Z ?_; intro b65 w65 hb65 H
  refine R_nil (N_DK (Kn.of' H hd64 (SubL.cons 3 Z SubL.nil)) ?_)
  refine RD_run [3] kR Z (RDs.cons Z ?_ RDs.nil)
  have H := H.blkAcc 1 (k := 0) (n := 3) rfl rfl (by decide)
  have hchk67 := ((((Chk.nil (E := strE) (sz := 1) (G := G4)).snoc (show strE _ ([115] : Fw.Bs) [str [115]] from ⟨rfl, by decide⟩) rfl).snoc (show strE _ ([116] : Fw.Bs) [str [116]] from ⟨rfl, by decide⟩) rfl).snoc (show strE _ ([117] : Fw.Bs) [str [117]] from ⟨rfl, by decide⟩) rfl)
  obtain ⟨G68, H, hsg68, hsr68⟩ := H.shutM (k := 0) (j := 0) rfl rfl hchk67 aN aN
  have hbs := hbs.up hsg68
  have hr1 := hr1.up hsg68
  have hr1' := hr1'.up hsg68
  have hr1'' := hr1''.up hsg68
  have hd64 := hd64.trans hsg68
  refine o_call call34 Z Z (of_c _ _ H.sub _ _ _ _ _ _ hbs (H.blkIs (k := 0) Z).1 (H.blkIs (k := 0) Z).2 oM _ _ hsr68 (by first | decide | (simp; done) | (simp; omega))) ?_
  rintro _ w66 ⟨G66, _, _, rfl, H66', ⟨p66, x66, hp66, rfl, hxs66, rfl⟩⟩
  have hr1 := hr1.up H66'.le
  have hr1' := hr1'.up H66'.le
  have hr1'' := hr1''.up H66'.le
  have hd64 := hd64.trans H66'.le
  have H := H.borrow (k := 0) rfl H66'
  refine ⟨_, Z, ?_⟩
  refine R_nil (N_DK (Kn.of' H hd64 (SubL.cons 2 Z SubL.nil)) ?_)
  refine RD_run [4] kR Z (RDs.cons Z ?_ RDs.nil)
  refine o_call call17 Z Z (SnapTakeP_c _ _ H.sub _ d ⟨_, _, _, _, _, _, _, _, _, Z, hr1, hr1', hr1''⟩ _ hxs66 ) ?_
  rintro _ w69 ⟨G69, _, g69, rfl, u69_0, rfl, hr69_0⟩
  have H := H.grow g69
  have hd64 := hd64.trans g69.le
  obtain ⟨a70, m70, c70, a70', m70', c70', a70'', m70'', c70'', rfl, hr70, hr70', hr70''⟩ := hr69_0; have hn_hr70 := hr70.len; have hx_hr70 : _ ≤ 1099511627776 := hr70.lim; have hn_hr70q := hr70'.len; have hx_hr70q : _ ≤ 1099511627776 := hr70'.lim; have hn_hr70qq := hr70''.len; have hx_hr70qq : _ ≤ 1099511627776 := hr70''.lim
  refine ⟨_, Z, ?_⟩
  refine R_nil (N_DK (Kn.of' H hd64 (SubL.cons 2 Z SubL.nil)) (RD_t 5 Z kR Z (fun _ hK => v_extract Z Z) (RD_t 6 Z kR Z (fun _ hK => v_extract Z Z) ?_)))
  refine RD_run [7] kR Z (RDs.cons Z ?_ RDs.nil)
  refine o_store_B 1 H sizeOf27 Z Z Z Z Z Z Z Z ?_; intro w71 H
  refine R_nil (N_DK (Kn.of' H hd64 (SubL.cons 2 Z SubL.nil)) (RD_t 8 Z kR Z (fun _ hK => v_assign Z) (RD_done kR (N_K (W_ret (N_B_ret (N_K_ret (ret_gen (rs := [.cell 4 27, .tmp 5]) (vs := [_, _]) results64 ⟨⟨_, Z, load_blk 1 H isAgg27 sizeOf27 Z Z Z⟩, Z, trivial⟩ ?_))))))))
  have H := H.del (k := 1) rfl
  have H := H.del (k := 1) rfl
  exact H.retM ⟨_, _, _, _, _, _, _, _, oM, Z, hr70, hr70', hr70'', Z⟩
 intro hc63'
 try simp only [nrm] at hc63'
 refine q2 (o_eql Z Z Z (aG Z (q3 ?_)))
 refine W_cond Z ?_ ?_
 ·intro hc72
  try simp only [nrm] at hc72
  refine W_seq (W_drawK [2] 9 H kR Z ?_); intro w73 H; have hd73 := PLe.refl G4
  refine RD_t 0 Z kR Z (fun _ hK => v_loadagg_B 0 hK isAgg27 sizeOf27 Z Z Z Z) (vM 1 Z Z ?_)
  refine RD_run [2] kR Z (RDs.cons Z ?_ RDs.nil)
  refine o_buildSlice H underlying77 sizeOf9 (fun w => ⟨_, zeroValue9 w, Z⟩) Z Z Z Z Z Z Z ?_; intro b74 w74 hb74 H
  refine R_nil (N_DK (Kn.of' H hd73 (SubL.cons 3 Z SubL.nil)) ?_)
  refine RD_run [3] kR Z (RDs.cons Z ?_ RDs.nil)
  have H := H.blkAcc 1 (k := 0) (n := 2) rfl rfl (by decide)
  have hchk76 := (((Chk.nil (E := strE) (sz := 1) (G := G4)).snoc (show strE _ ([115] : Fw.Bs) [str [115]] from ⟨rfl, by decide⟩) rfl).snoc (show strE _ ([116] : Fw.Bs) [str [116]] from ⟨rfl, by decide⟩) rfl)
  obtain ⟨G77, H, hsg77, hsr77⟩ := H.shutM (k := 0) (j := 0) rfl rfl hchk76 aN aN
  have hbs := hbs.up hsg77
  have hr1 := hr1.up hsg77
  have hr1' := hr1'.up hsg77
  have hr1'' := hr1''.up hsg77
  have hd73 := hd73.trans hsg77
  refine o_call call34 Z Z (of_c _ _ H.sub _ _ _ _ _ _ hbs (H.blkIs (k := 0) Z).1 (H.blkIs (k := 0) Z).2 oM _ _ hsr77 (by first | decide | (simp; done) | (simp; omega))) ?_
  rintro _ w75 ⟨G75, _, _, rfl, H75', ⟨p75, x75, hp75, rfl, hxs75, rfl⟩⟩
  have hr1 := hr1.up H75'.le
  have hr1' := hr1'.up H75'.le
  have hr1'' := hr1''.up H75'.le
  have hd73 := hd73.trans H75'.le
  have H := H.borrow (k := 0) rfl H75'
  refine ⟨_, Z, ?_⟩
  refine R_nil (N_DK (Kn.of' H hd73 (SubL.cons 2 Z SubL.nil)) ?_)
  refine RD_run [4] kR Z (RDs.cons Z ?_ RDs.nil)
  refine o_call call99 Z Z (SnapBackP_c _ _ H.sub _ d ⟨_, _, _, _, _, _, _, _, _, Z, hr1, hr1', hr1''⟩ _ hxs75 ) ?_
  rintro _ w78 ⟨G78, _, g78, rfl, u78_0, rfl, hr78_0⟩
  have H := H.grow g78
  have hd73 := hd73.trans g78.le
  obtain ⟨a79, m79, c79, a79', m79', c79', a79'', m79'', c79'', rfl, hr79, hr79', hr79''⟩ := hr78_0; have hn_hr79 := hr79.len; have hx_hr79 : _ ≤ 1099511627776 := hr79.lim; have hn_hr79q := hr79'.len; have hx_hr79q : _ ≤ 1099511627776 := hr79'.lim; have hn_hr79qq := hr79''.len; have hx_hr79qq : _ ≤ 1099511627776 := hr79''.lim
  refine ⟨_, Z, ?_⟩
  refine R_nil (N_DK (Kn.of' H hd73 (SubL.cons 2 Z SubL.nil)) (RD_t 5 Z kR Z (fun _ hK => v_extract Z Z) (RD_t 6 Z kR Z (fun _ hK => v_extract Z Z) ?_)))
  refine RD_run [7] kR Z (RDs.cons Z ?_ RDs.nil)
  refine o_store_B 1 H sizeOf27 Z Z Z Z Z Z Z Z ?_; intro w80 H
  refine R_nil (N_DK (Kn.of' H hd73 (SubL.cons 2 Z SubL.nil)) (RD_t 8 Z kR Z (fun _ hK => v_assign Z) (RD_done kR (N_K (W_ret (N_B_ret (N_K_ret (ret_gen (rs := [.cell 4 27, .tmp 5]) (vs := [_, _]) results64 ⟨⟨_, Z, load_blk 1 H isAgg27 sizeOf27 Z Z Z⟩, Z, trivial⟩ ?_))))))))
  have H := H.del (k := 1) rfl
  have H := H.del (k := 1) rfl
  exact H.retM ⟨_, _, _, _, _, _, _, _, oM, Z, hr79, hr79', hr79'', Z⟩
 intro hc72'
 try simp only [nrm] at hc72'
 refine W_skip (N_B (N_K (q2 (mV Z (o_buildSlice H underlying77 sizeOf9 (fun w => ⟨_, zeroValue9 w, Z⟩) Z Z Z Z Z Z Z ?_))))); intro b81 w81 hb81 H
 have H := H.blkAcc 1 (k := 0) (n := 5) rfl rfl (by decide)
 have hchk83 := ((((((Chk.nil (E := strE) (sz := 1) (G := G4)).snoc (show strE _ ([99] : Fw.Bs) [str [99]] from ⟨rfl, by decide⟩) rfl).snoc (show strE _ ([97, 47, 121] : Fw.Bs) [str [97, 47, 121]] from ⟨rfl, by decide⟩) rfl).snoc (show strE _ ([98, 47, 120] : Fw.Bs) [str [98, 47, 120]] from ⟨rfl, by decide⟩) rfl).snoc (show strE _ ([97, 47, 120, 47, 112] : Fw.Bs) [str [97, 47, 120, 47, 112]] from ⟨rfl, by decide⟩) rfl).snoc (show strE _ ([100] : Fw.Bs) [str [100]] from ⟨rfl, by decide⟩) rfl)
 obtain ⟨G84, H, hsg84, hsr84⟩ := H.shutM (k := 0) (j := 0) rfl rfl hchk83 aN aN
 have hbs := hbs.up hsg84
 have hr1 := hr1.up hsg84
 have hr1' := hr1'.up hsg84
 have hr1'' := hr1''.up hsg84
 refine o_call call34 Z Z (of_c _ _ H.sub _ _ _ _ _ _ hbs (H.blkIs (k := 0) Z).1 (H.blkIs (k := 0) Z).2 oM _ _ hsr84 (by first | decide | (simp; done) | (simp; omega))) ?_
 rintro _ w82 ⟨G82, _, _, rfl, H82', ⟨p82, x82, hp82, rfl, hxs82, rfl⟩⟩
 have hbs := hbs.up H82'.le
 have hr1 := hr1.up H82'.le
 have hr1' := hr1'.up H82'.le
 have hr1'' := hr1''.up H82'.le
 have H := H.borrow (k := 0) rfl H82'
 refine ⟨_, Z, ?_⟩
 refine aG Z (q3 (W_seq (W_drawK [2] 9 H kR Z ?_))); intro w85 H; have hd85 := PLe.refl G82
 refine RD_t 0 Z kR Z (fun _ hK => v_loadagg_B 0 hK isAgg27 sizeOf27 Z Z Z Z) (vM 1 Z Z (vM 2 Z Z ?_))
 refine RD_run [3] kR Z (RDs.cons Z ?_ RDs.nil)
 refine o_call call101 Z Z (l91File_c _ _ H.sub _ _ _ _ _ _ hbs (H.blkIs (k := 0) Z).1 (H.blkIs (k := 0) Z).2 oM ) ?_
 rintro _ w86 ⟨G86, _, _, rfl, H86', ⟨p86, x86, v86, c86, hp86, rfl, hchk86, hxl86, rfl⟩⟩
 have hr1 := hr1.up H86'.le
 have hr1' := hr1'.up H86'.le
 have hr1'' := hr1''.up H86'.le
 have hd85 := hd85.trans H86'.le
 have H := H.borrow (k := 0) rfl H86'
 obtain ⟨av86, cv86, rfl⟩ := H.accShape (k := 0) rfl
 refine ⟨_, Z, ?_⟩
 refine R_nil (N_DK (Kn.of' H hd85 (SubL.cons 3 Z SubL.nil)) ?_)
 refine RD_run [4] kR Z (RDs.cons Z ?_ RDs.nil)
 obtain ⟨G88, H, hsg88, hsr88⟩ := H.shutM (k := 0) (j := 0) rfl rfl hchk86 aN aN
 have hr1 := hr1.up hsg88
 have hr1' := hr1'.up hsg88
 have hr1'' := hr1''.up hsg88
 have hd85 := hd85.trans hsg88
 refine o_call call100 Z Z (DiskWriteP_c _ _ H.sub _ d ⟨_, _, _, _, _, _, _, _, _, Z, hr1, hr1', hr1''⟩ _ hxs82 _ _ hsr88 ) ?_
 rintro _ w87 ⟨G87, _, g87, rfl, u87_0, rfl, hr87_0⟩
 have H := H.grow g87
 have hd85 := hd85.trans g87.le
 obtain ⟨a89, m89, c89, a89', m89', c89', a89'', m89'', c89'', rfl, hr89, hr89', hr89''⟩ := hr87_0; have hn_hr89 := hr89.len; have hx_hr89 : _ ≤ 1099511627776 := hr89.lim; have hn_hr89q := hr89'.len; have hx_hr89q : _ ≤ 1099511627776 := hr89'.lim; have hn_hr89qq := hr89''.len; have hx_hr89qq : _ ≤ 1099511627776 := hr89''.lim
 refine ⟨_, Z, ?_⟩
 refine R_nil (N_DK (Kn.of' H hd85 (SubL.cons 2 Z SubL.nil)) (RD_t 5 Z kR Z (fun _ hK => v_extract Z Z) (RD_t 6 Z kR Z (fun _ hK => v_extract Z Z) ?_)))
 refine RD_run [7] kR Z (RDs.cons Z ?_ RDs.nil)
 refine o_store_B 1 H sizeOf27 Z Z Z Z Z Z Z Z ?_; intro w90 H
 refine R_nil (N_DK (Kn.of' H hd85 (SubL.cons 2 Z SubL.nil)) (RD_t 8 Z kR Z (fun _ hK => v_assign Z) (RD_done kR (N_K (W_ret (ret_gen (rs := [.cell 4 27, .tmp 5]) (vs := [_, _]) results64 ⟨⟨_, Z, load_blk 1 H isAgg27 sizeOf27 Z Z Z⟩, Z, trivial⟩ ?_))))))
 have H := H.del (k := 1) rfl
 have H := H.del (k := 1) rfl
 exact H.retM ⟨_, _, _, _, _, _, _, _, oM, Z, hr89, hr89', hr89'', Z⟩
end Go.Proofs.Tst

namespace Go.Proofs.Tst
open Go Fw Tryz
theorem l91Disk_c (w0 : World) (G0 : PH) (hG : PSub G0 w0) (rb : Nat) (ab : Option Addr) (mb kb : Nat) (bs : List UInt8) (p : Nat) (hbs : RdU G0 (.slice ab mb kb) bs) (hrb : w0.heap[rb]? = some (cl [.slice ab mb kb, .int .i64 (p : Int)] 107)) (hrn : G0 rb = none) (hp : p ≤ 5000000)  :
  Calls Tryz.prog 26 #[.pointer (some ⟨rb, 0, none⟩)] w0 (RetM w0 G0 [rb] (fun G val Bs => ∃ (p' : Nat) (v1 v2 v3 : Value) (st : List BHeld) (tr : List BItem) (sn : List BSnap), p' ≤ p + 5000 ∧ val = .agg #[v1, v2, v3] ∧ RdH G v1 st ∧ RdItems G v2 tr ∧ RdSn G v3 sn ∧ Bs = [blk rb (cl [.slice ab mb kb, .int .i64 (p' : Int)] 107)])) := by
 have hlimbs : bs.length ≤ 1099511627776 := hbs.lim; obtain rfl : mb = bs.length := hbs.len
 have H := Hp.initM hG hrb hrn
 refine calls_of_W (l := [.pointer (some ⟨rb, 0, none⟩)]) func26 Z ntmps26 Z (q2 (o_alloc H zeroValue27 Z Z ?_)); intro b1 w1 hb1 H
 refine q1 (mV Z (o_call call63 Z Z (l91Volume_c _ _ H.sub _ _ _ _ _ _ hbs (H.blkIs (k := 1) Z).1 (H.blkIs (k := 1) Z).2 oM ) ?_))
 rintro _ w2 ⟨G2, _, _, rfl, H2', ⟨p2, v12, v22, st2, tr2, hp2, rfl, hst2, htr2, rfl⟩⟩
 have hbs := hbs.up H2'.le
 have H := H.borrow (k := 1) rfl H2'
 obtain ⟨sa2, sc2, rfl⟩ := hst2.shape; obtain ⟨ta2, tc2, rfl⟩ := htr2.shape; have hx_hst2 : _ ≤ 1099511627776 := hst2.lim; have hx_htr2 : _ ≤ 1099511627776 := htr2.lim
 refine ⟨_, Z, ?_⟩
 refine o_alloc H zeroValue103 Z Z ?_; intro b3 w3 hb3 H
 refine o_store_B 0 H sizeOf103 Z Z Z Z Z Z Z Z ?_; intro w4 H
 refine q1 (o_fieldAddr 0 runUnderlying103 Z sizeOf23 Z Z Z (o_load_B 0 H isAgg23 Z Z Z Z (o_fieldAddr 1 runUnderlying103 Z sizeOf24 Z Z Z (o_load_B 0 H isAgg24 Z Z Z Z (o_build bf27 Z Z Z (o_alloc H zeroValue27 Z Z ?_)))))); intro b5 w5 hb5 H
 refine o_store_B 0 H sizeOf27 Z Z Z Z Z Z Z Z ?_; intro w6 H
 refine q1 (mV Z (o_call call33 Z Z (pick_c _ _ H.sub _ _ _ _ _ _ hbs (H.blkIs (k := 2) Z).1 (H.blkIs (k := 2) Z).2 oM _ oO ) ?_))
 rintro _ w7 ⟨G7, _, _, rfl, H7', ⟨p7, x7, hp7, rfl, hxb7, rfl⟩⟩
 have hbs := hbs.up H7'.le
 have hst2 := hst2.up H7'.le
 have htr2 := htr2.up H7'.le
 have H := H.borrow (k := 2) rfl H7'
 refine ⟨_, Z, ?_⟩
 refine aG Z (q3 (W_seq (q2 (aG Z (q3 (W_block ?_))))))
 obtain ⟨ln8, hln8, H⟩ := H.name (k := 2) rfl
 obtain ⟨ln9, hln9, H⟩ := H.name (k := 3) rfl
 refine W_lp (hf := (Sub.cons (t := 0) Z (Sub.cons (t := 2) Z (Sub.cons (t := 4) Z (Sub.cons (t := 5) Z Sub.nil))))) (J := fun M w m => ∃ (k : Nat) (va vb vc : Value) (st : List BHeld) (tr : List BItem) (sn : List BSnap) (pp : Nat) (G : PH), M = [(6, .int .i64 (k : Int))] ∧ PLe G7 G ∧ Hp w0 G0 [rb] w G [blk rb (cl [.slice ab bs.length kb, .int .i64 (pp : Int)] 107), blk b5 (cl [va, vb, vc] 27), blk b3 (cl ln8 103), blk b1 (cl ln9 27)] ∧ (k ≤ 7 ∧ pp ≤ p + 3100 + 201 * k ∧ RdH G va st ∧ RdItems G vb tr ∧ RdSn G vc sn) ∧ m = (8 - k)) (h0 := ⟨0, _, _, _, st2, tr2, [], p7, _, Z, PLe.refl _, H, ?inv, Z⟩) (round := ?round)
 case inv => exact ⟨by omega, by omega, hst2, htr2, (RdS.nil _ _ _)⟩
 case round =>
  rintro _ w10 _ ⟨k, va, vb, vc, st, tr, sn, pp, G10, rfl, hle10, H, hinv10, rfl⟩
  subst hln8
  subst hln9
  have hbs := hbs.up hle10
  obtain ⟨hk, hpp, hst, htr, hsn⟩ := hinv10; obtain ⟨lhsta, lhstc, rfl⟩ := hst.shape; have hlhst : _ ≤ 1099511627776 := hst.lim; obtain ⟨lhtra, lhtrc, rfl⟩ := htr.shape; have hlhtr : _ ≤ 1099511627776 := htr.lim; obtain ⟨lhsna, lhsnc, rfl⟩ := hsn.shape; have hlhsn : _ ≤ 1099511627776 := hsn.lim
  refine W_seq (q2 (mV Z (mV Z (o_lss Z Z Z (q3 ?_)))))
  refine W_cond Z ?_ ?_
  ·intro hc11
   try simp only [nrm] at hc11
   refine W_skip (N_K (W_seq (W_block (q2 (mV Z (o_loadagg_B 1 H isAgg27 sizeOf27 Z Z Z Z Z (o_call call64 Z Z (l91Turn_c _ _ H.sub _ _ _ _ _ _ hbs (H.blkIs (k := 0) Z).1 (H.blkIs (k := 0) Z).2 oM _ ⟨st, tr, sn⟩ ⟨_, _, _, _, _, _, _, _, _, Z, hst, htr, hsn⟩ ) ?_)))))))
   rintro _ w12 ⟨G12, _, _, rfl, H12', ⟨p12, v112, v212, v312, st12, tr12, sn12, b12, hp12, rfl, hst12, htr12, hsn12, rfl⟩⟩
   have hst := hst.up H12'.le
   have htr := htr.up H12'.le
   have hsn := hsn.up H12'.le
   have hle10 := hle10.trans H12'.le
   have H := H.borrow (k := 0) rfl H12'
   obtain ⟨sta12, stc12, rfl⟩ := hst12.shape; have hx_hst12 : _ ≤ 1099511627776 := hst12.lim; obtain ⟨tra12, trc12, rfl⟩ := htr12.shape; have hx_htr12 : _ ≤ 1099511627776 := htr12.lim; obtain ⟨sna12, snc12, rfl⟩ := hsn12.shape; have hx_hsn12 : _ ≤ 1099511627776 := hsn12.lim
   refine ⟨_, Z, ?_⟩
   refine mV Z (o_extract Z Z Z (o_extract Z Z Z (o_alloc H zeroValue27 Z Z ?_))); intro b13 w13 hb13 H
   refine o_store_B 0 H sizeOf27 Z Z Z Z Z Z Z Z ?_; intro w14 H
   refine aG Z (q1 (mV Z (q3 ?_)))
   refine W_cond Z ?_ ?_
   ·intro hc15
    try simp only [nrm] at hc15
    refine W_region (o_loadagg_B 0 H isAgg27 sizeOf27 Z Z Z Z Z (o_store_B 2 H sizeOf27 Z Z Z Z Z Z Z Z ?_)); intro w16 H
    refine R_nil (N_B (N_K (W_region (mV Z (o_add Z Z Z oO (aG Z (R_nil ?_)))))))
    have H := H.del (k := 0) rfl
    refine N_lp (hJ := ⟨k + 1, _, _, _, st12, tr12, sn12, p12, _, Z, hle10, H, ?inv, Z⟩) (hm := ?hm)
    case hm => omega
    case inv => exact ⟨by omega, by omega, hst12, htr12, hsn12⟩
   intro hc15'
   try simp only [nrm] at hc15'
   refine W_skip (N_B (N_K (W_region (mV Z (o_add Z Z Z oO (aG Z (R_nil ?_)))))))
   have H := H.del (k := 0) rfl
   refine N_lp (hJ := ⟨k + 1, _, _, _, st, tr, sn, p12, _, Z, hle10, H, ?inv, Z⟩) (hm := ?hm)
   case hm => omega
   case inv => exact ⟨by omega, by omega, hst, htr, hsn⟩
  intro hc11'
  try simp only [nrm] at hc11'
  refine W_exit (N_K_exit (N_LP_exit (N_B_same (N_K (q2 (o_loadagg_B 1 H isAgg27 sizeOf27 Z Z Z Z Z (o_store_B 3 H sizeOf27 Z Z Z Z Z Z Z Z ?_))))))); intro w19 H
  refine q3 (W_ret (ret_gen (rs := [.cell 2 27]) (vs := [_]) results26 ⟨⟨_, Z, load_blk 3 H isAgg27 sizeOf27 Z Z Z⟩, trivial⟩ ?_))
  have H := H.del (k := 1) rfl
  have H := H.del (k := 1) rfl
  have H := H.del (k := 1) rfl
  exact H.retM ⟨_, _, _, _, _, _, _, oM, Z, hst, htr, hsn, Z⟩
end Go.Proofs.Tst

namespace Go.Proofs.Tst
open Go Fw Tryz
theorem l91Snap_c (w0 : World) (G0 : PH) (hG : PSub G0 w0) (rb : Nat) (ab : Option Addr) (mb kb : Nat) (bs : List UInt8) (p : Nat) (hbs : RdU G0 (.slice ab mb kb) bs) (hrb : w0.heap[rb]? = some (cl [.slice ab mb kb, .int .i64 (p : Int)] 107)) (hrn : G0 rb = none) (hp : p ≤ 1000000000) (cd : List Value) (d : BDisk) (hd : diskE G0 d cd)  :
  Calls Tryz.prog 35 #[.pointer (some ⟨rb, 0, none⟩), .agg cd.toArray] w0 (RetM w0 G0 [rb] (fun G val Bs => ∃ (p' : Nat) (x : Fw.Bs), p' ≤ p + 4 ∧ val = str x ∧ x.length ≤ 16777216 ∧ Bs = [blk rb (cl [.slice ab mb kb, .int .i64 (p' : Int)] 107)])) := by
 have hlimbs : bs.length ≤ 1099511627776 := hbs.lim; obtain rfl : mb = bs.length := hbs.len
 obtain ⟨a1, m1, c1, a1', m1', c1', a1'', m1'', c1'', rfl, hr1, hr1', hr1''⟩ := hd; have hn_hr1 := hr1.len; have hx_hr1 : _ ≤ 1099511627776 := hr1.lim; have hn_hr1q := hr1'.len; have hx_hr1q : _ ≤ 1099511627776 := hr1'.lim; have hn_hr1qq := hr1''.len; have hx_hr1qq : _ ≤ 1099511627776 := hr1''.lim
 have H := Hp.initM hG hrb hrn
 refine calls_of_W (l := [.pointer (some ⟨rb, 0, none⟩), _]) func35 Z ntmps35 Z (q2 (o_box H Z Z Z ?_)); intro b2 w2 hb2 H
 refine aG Z (q3 (W_seq (q2 (o_fieldAddr 2 runUnderlying27 Z sizeOf25 Z Z Z (o_load_B 0 H isAgg25 Z Z Z Z (o_len_slice underlying25 Z Z (o_gtr Z Z Z (mV Z ?_))))))))
 refine R_case (t := 9) Z ?_ ?_
 ·intro hc3
  try simp only [nrm] at hc3
  refine gR Z (mV Z (gR Z (o_call call33 Z Z (pick_c _ _ H.sub _ _ _ _ _ _ hbs (H.blkIs (k := 1) Z).1 (H.blkIs (k := 1) Z).2 oM _ oO ) ?_)))
  rintro _ w4 ⟨G4, _, _, rfl, H4', ⟨p4, x4, hp4, rfl, hxb4, rfl⟩⟩
  have hbs := hbs.up H4'.le
  have hr1'' := hr1''.up H4'.le
  have H := H.borrow (k := 1) rfl H4'
  refine ⟨_, Z, ?_⟩
  refine gR Z (o_gtr Z Z Z (o_pick_t Z Z Z (q3 ?_)))
  refine W_cond Z ?_ ?_
  ·intro hc5
   try simp only [nrm] at hc5
   refine W_seq (W_drawK [1] 11 H kR Z ?_); intro w6 H; have hd6 := PLe.refl G4
   refine RD_t 0 Z kR Z (fun _ hK => v_fieldAddr 2 runUnderlying27 Z sizeOf25 Z Z) (RD_t 1 Z kR Z (fun _ hK => v_load_B 0 hK isAgg25 Z Z Z) (vM 2 Z Z (RD_t 3 Z kR Z (fun _ hK => v_fieldAddr 2 runUnderlying27 Z sizeOf25 Z Z) (RD_t 4 Z kR Z (fun _ hK => v_load_B 0 hK isAgg25 Z Z Z) (RD_t 5 Z kR Z (fun _ hK => v_len_slice underlying25 Z) ?_)))))
   refine RD_run [6] kR Z (RDs.cons Z ?_ RDs.nil)
   refine o_call call33 Z Z (pick_c _ _ H.sub _ _ _ _ _ _ hbs (H.blkIs (k := 0) Z).1 (H.blkIs (k := 0) Z).2 oM _ oO ) ?_
   rintro _ w7 ⟨G7, _, _, rfl, H7', ⟨p7, x7, hp7, rfl, hxb7, rfl⟩⟩
   have hr1'' := hr1''.up H7'.le
   have hd6 := hd6.trans H7'.le
   have H := H.borrow (k := 0) rfl H7'
   refine ⟨_, Z, ?_⟩
   refine R_nil (N_DK (Kn.of' H hd6 (SubL.cons 1 Z SubL.nil)) ?_)
   have hl8 := hr1''.len
   obtain ⟨b8, o8, z8, q8, ha8, hz8, hq8, hE8, hrow8, _⟩ := hr1''.at (i := x7) oM
   clear hq8
   obtain ⟨a8, m8, c8, rfl, hi8, hr8⟩ := hE8; have hy_hi8 : _ ≤ 16777216 := hi8; have hn_hr8 := hr8.len; have hx_hr8 : _ ≤ 1099511627776 := hr8.lim
   refine RD_t 7 Z kR Z (fun _ hK => v_index_P (i := x7) ha8 underlying25 sizeOf46 Z Z Z oM) (RD_t 8 Z kR Z (fun _ hK => v_fieldAddr 0 runUnderlying46 Z sizeOf9 Z Z) ?_)
   refine RD_run [9] kR Z (RDs.cons Z ?_ RDs.nil)
   refine o_load_P H isAgg9 Z Z (hrow8 0 _ Z) (R_nil (N_DK (Kn.of' H hd6 (SubL.cons 1 Z SubL.nil)) (RD_t 10 Z kR Z (fun _ hK => v_assign Z) (RD_done kR (N_K (W_ret (N_K_ret (rt1 results35 Z ?_))))))))
   have H := H.del (k := 1) rfl
   exact H.retM ⟨_, _, by omega, rfl, hi8, rfl⟩
  intro hc5'
  try simp only [nrm] at hc5'
  refine W_skip (N_K (q2 (mV Z (o_buildSlice H underlying77 sizeOf9 (fun w => ⟨_, zeroValue9 w, Z⟩) Z Z Z Z Z Z Z ?_)))); intro b9 w9 hb9 H
  have H := H.blkAcc 1 (k := 0) (n := 5) rfl rfl (by decide)
  have hchk11 := ((((((Chk.nil (E := strE) (sz := 1) (G := G4)).snoc (show strE _ ([115] : Fw.Bs) [str [115]] from ⟨rfl, by decide⟩) rfl).snoc (show strE _ ([118] : Fw.Bs) [str [118]] from ⟨rfl, by decide⟩) rfl).snoc (show strE _ ([119] : Fw.Bs) [str [119]] from ⟨rfl, by decide⟩) rfl).snoc (show strE _ ([66, 97, 100] : Fw.Bs) [str [66, 97, 100]] from ⟨rfl, by decide⟩) rfl).snoc (show strE _ ([] : Fw.Bs) [str []] from ⟨rfl, by decide⟩) rfl)
  obtain ⟨G12, H, hsg12, hsr12⟩ := H.shutM (k := 0) (j := 0) rfl rfl hchk11 aN aN
  have hbs := hbs.up hsg12
  refine o_call call34 Z Z (of_c _ _ H.sub _ _ _ _ _ _ hbs (H.blkIs (k := 0) Z).1 (H.blkIs (k := 0) Z).2 oM _ _ hsr12 (by first | decide | (simp; done) | (simp; omega))) ?_
  rintro _ w10 ⟨G10, _, _, rfl, H10', ⟨p10, x10, hp10, rfl, hxs10, rfl⟩⟩
  have H := H.borrow (k := 0) rfl H10'
  refine ⟨_, Z, ?_⟩
  refine aG Z (q3 (W_ret (rt1 results35 Z ?_)))
  have H := H.del (k := 1) rfl
  exact H.retM ⟨_, _, by omega, rfl, hxs10, rfl⟩
 intro hc3'
 try simp only [nrm] at hc3'
 refine rP Z (rP Z (rP Z (o_pick_f Z Z Z (q3 (W_false Z (W_skip (N_K (q2 (mV Z (o_buildSlice H underlying77 sizeOf9 (fun w => ⟨_, zeroValue9 w, Z⟩) Z Z Z Z Z Z Z ?_)))))))))); intro b13 w13 hb13 H
 have H := H.blkAcc 1 (k := 0) (n := 5) rfl rfl (by decide)
 have hchk15 := ((((((Chk.nil (E := strE) (sz := 1) (G := G0)).snoc (show strE _ ([115] : Fw.Bs) [str [115]] from ⟨rfl, by decide⟩) rfl).snoc (show strE _ ([118] : Fw.Bs) [str [118]] from ⟨rfl, by decide⟩) rfl).snoc (show strE _ ([119] : Fw.Bs) [str [119]] from ⟨rfl, by decide⟩) rfl).snoc (show strE _ ([66, 97, 100] : Fw.Bs) [str [66, 97, 100]] from ⟨rfl, by decide⟩) rfl).snoc (show strE _ ([] : Fw.Bs) [str []] from ⟨rfl, by decide⟩) rfl)
 obtain ⟨G16, H, hsg16, hsr16⟩ := H.shutM (k := 0) (j := 1) rfl rfl hchk15 aN aN
 have hbs := hbs.up hsg16
 refine o_call call34 Z Z (of_c _ _ H.sub _ _ _ _ _ _ hbs (H.blkIs (k := 1) Z).1 (H.blkIs (k := 1) Z).2 oM _ _ hsr16 (by first | decide | (simp; done) | (simp; omega))) ?_
 rintro _ w14 ⟨G14, _, _, rfl, H14', ⟨p14, x14, hp14, rfl, hxs14, rfl⟩⟩
 have H := H.borrow (k := 1) rfl H14'
 refine ⟨_, Z, ?_⟩
 refine aG Z (q3 (W_ret (rt1 results35 Z ?_)))
 have H := H.del (k := 1) rfl
 exact H.retM ⟨_, _, by omega, rfl, hxs14, rfl⟩
end Go.Proofs.Tst

namespace Go.Proofs.Tst
open Go Fw Tryz
theorem DrawSnapTake_c (w0 : World) (G0 : PH) (hG : PSub G0 w0) (vcode : Value) (code : List (UInt8)) (hcode : RdU G0 vcode code)  :
  Calls Tryz.prog 15 #[vcode] w0 (RetP w0 G0 (fun G v => ∃ (cs : List Value) (x : BDisk) (p0 : Bs), v = .tuple #[.agg cs.toArray, str p0] ∧ diskE G x cs ∧ p0.length ≤ 16777216)) := by
 obtain ⟨acode, kcode, rfl⟩ := hcode.shape
 have hlimcode : code.length ≤ 1099511627776 := hcode.lim
 have H := Hp.init hG
 refine calls_of_W (l := [.slice acode code.length kcode]) func15 Z ntmps15 Z (q2 (o_alloc H zeroValue27 Z Z ?_)); intro b1 w1 hb1 H
 refine aG Z (q1 (mV Z (o_call call27 Z Z (l6Open_c _ _ H.sub _ _ hcode ) ?_)))
 rintro _ w2 ⟨G2, _, _, g2, rfl, ⟨rb2, ab2, mb2, kb2, bs2, rfl, rfl, hbs2⟩, hp2, hq2, hs2⟩
 have H := H.growO g2 hp2 hq2 hs2
 refine ⟨_, Z, ?_⟩
 refine aG Z (q1 (mV Z (o_call call26 Z Z (l91Disk_c _ _ H.sub _ _ _ _ _ _ hbs2 (H.blkIs (k := 0) Z).1 (H.blkIs (k := 0) Z).2 oM ) ?_)))
 rintro _ w3 ⟨G3, _, _, rfl, H3', ⟨p3, v13, v23, v33, st3, tr3, sn3, hp3, rfl, hst3, htr3, hsn3, rfl⟩⟩
 have hbs2 := hbs2.up H3'.le
 have H := H.borrow (k := 0) rfl H3'
 obtain ⟨sta3, stc3, rfl⟩ := hst3.shape; have hx_hst3 : _ ≤ 1099511627776 := hst3.lim; obtain ⟨tra3, trc3, rfl⟩ := htr3.shape; have hx_htr3 : _ ≤ 1099511627776 := htr3.lim; obtain ⟨sna3, snc3, rfl⟩ := hsn3.shape; have hx_hsn3 : _ ≤ 1099511627776 := hsn3.lim
 refine ⟨_, Z, ?_⟩
 refine o_alloc H zeroValue27 Z Z ?_; intro b4 w4 hb4 H
 refine o_store_B 0 H sizeOf27 Z Z Z Z Z Z Z Z ?_; intro w5 H
 refine q3 (W_seq (q2 (mV Z (o_call call33 Z Z (pick_c _ _ H.sub _ _ _ _ _ _ hbs2 (H.blkIs (k := 1) Z).1 (H.blkIs (k := 1) Z).2 oM _ oO ) ?_))))
 rintro _ w6 ⟨G6, _, _, rfl, H6', ⟨p6, x6, hp6, rfl, hxb6, rfl⟩⟩
 have hbs2 := hbs2.up H6'.le
 have hst3 := hst3.up H6'.le
 have htr3 := htr3.up H6'.le
 have hsn3 := hsn3.up H6'.le
 have H := H.borrow (k := 1) rfl H6'
 refine ⟨_, Z, ?_⟩
 refine o_gtr Z Z Z (q3 ?_)
 refine W_cond Z ?_ ?_
 ·intro hc7
  try simp only [nrm] at hc7
  refine W_seq (W_drawK [1] 6 H kR Z ?_); intro w8 H; have hd8 := PLe.refl G6
  refine RD_t 0 Z kR Z (fun _ hK => v_loadagg_B 0 hK isAgg27 sizeOf27 Z Z Z Z) (vM 1 Z Z ?_)
  refine RD_run [2] kR Z (RDs.cons Z ?_ RDs.nil)
  refine o_buildSlice H underlying77 sizeOf9 (fun w => ⟨_, zeroValue9 w, Z⟩) Z Z Z Z Z Z Z ?_; intro b9 w9 hb9 H
  refine R_nil (N_DK (Kn.of' H hd8 (SubL.cons 2 Z SubL.nil)) ?_)
  refine RD_run [3] kR Z (RDs.cons Z ?_ RDs.nil)
  have H := H.blkAcc 1 (k := 0) (n := 3) rfl rfl (by decide)
  have hchk11 := ((((Chk.nil (E := strE) (sz := 1) (G := G6)).snoc (show strE _ ([118] : Fw.Bs) [str [118]] from ⟨rfl, by decide⟩) rfl).snoc (show strE _ ([119] : Fw.Bs) [str [119]] from ⟨rfl, by decide⟩) rfl).snoc (show strE _ ([110, 101, 119] : Fw.Bs) [str [110, 101, 119]] from ⟨rfl, by decide⟩) rfl)
  obtain ⟨G12, H, hsg12, hsr12⟩ := H.shut' (k := 0) rfl hchk11 aN aN
  have hbs2 := hbs2.up hsg12
  have hst3 := hst3.up hsg12
  have htr3 := htr3.up hsg12
  have hsn3 := hsn3.up hsg12
  have hd8 := hd8.trans hsg12
  refine o_call call34 Z Z (of_c _ _ H.sub _ _ _ _ _ _ hbs2 (H.blkIs (k := 0) Z).1 (H.blkIs (k := 0) Z).2 oM _ _ hsr12 (by first | decide | (simp; done) | (simp; omega))) ?_
  rintro _ w10 ⟨G10, _, _, rfl, H10', ⟨p10, x10, hp10, rfl, hxs10, rfl⟩⟩
  have hst3 := hst3.up H10'.le
  have htr3 := htr3.up H10'.le
  have hsn3 := hsn3.up H10'.le
  have hd8 := hd8.trans H10'.le
  have H := H.borrow (k := 0) rfl H10'
  refine ⟨_, Z, ?_⟩
  refine R_nil (N_DK (Kn.of' H hd8 (SubL.cons 1 Z SubL.nil)) ?_)
  refine RD_run [4] kR Z (RDs.cons Z ?_ RDs.nil)
  refine o_store_B 2 H sizeOf27 Z Z Z Z Z Z Z Z ?_; intro w13 H
  refine R_nil (N_DK (Kn.of' H hd8 (SubL.cons 1 Z SubL.nil)) (RD_t 5 Z kR Z (fun _ hK => v_assign Z) (RD_done kR (N_K (W_ret (N_K_ret (ret_gen (rs := [.cell 2 27, .tmp 3]) (vs := [_, _]) results15 ⟨⟨_, Z, load_blk 2 H isAgg27 sizeOf27 Z Z Z⟩, Z, trivial⟩ ?_)))))))
  have H := H.del (k := 0) rfl
  have H := H.del (k := 0) rfl
  have H := H.del (k := 0) rfl
  exact H.retP ⟨_, ⟨st3, tr3, sn3⟩, _, Z, ⟨_, _, _, _, _, _, _, _, _, Z, hst3, htr3, hsn3⟩, hxs10⟩
 intro hc7'
 try simp only [nrm] at hc7'
 refine W_skip (N_K (W_seq (W_drawK [1] 6 H kR Z ?_))); intro w14 H; have hd14 := PLe.refl G6
 refine RD_t 0 Z kR Z (fun _ hK => v_loadagg_B 0 hK isAgg27 sizeOf27 Z Z Z Z) (vM 1 Z Z (RD_t 2 Z kR Z (fun _ hK => v_loadagg_B 0 hK isAgg27 sizeOf27 Z Z Z Z) ?_))
 refine RD_run [3] kR Z (RDs.cons Z ?_ RDs.nil)
 refine o_call call35 Z Z (l91Snap_c _ _ H.sub _ _ _ _ _ _ hbs2 (H.blkIs (k := 0) Z).1 (H.blkIs (k := 0) Z).2 oM _ ⟨st3, tr3, sn3⟩ ⟨_, _, _, _, _, _, _, _, _, Z, hst3, htr3, hsn3⟩ ) ?_
 rintro _ w15 ⟨G15, _, _, rfl, H15', ⟨p15, x15, hp15, rfl, hxs15, rfl⟩⟩
 have hst3 := hst3.up H15'.le
 have htr3 := htr3.up H15'.le
 have hsn3 := hsn3.up H15'.le
 have hd14 := hd14.trans H15'.le
 have H := H.borrow (k := 0) rfl H15'
 refine ⟨_, Z, ?_⟩
 refine R_nil (N_DK (Kn.of' H hd14 (SubL.cons 1 Z SubL.nil)) ?_)
 refine RD_run [4] kR Z (RDs.cons Z ?_ RDs.nil)
 refine o_store_B 2 H sizeOf27 Z Z Z Z Z Z Z Z ?_; intro w16 H
 refine R_nil (N_DK (Kn.of' H hd14 (SubL.cons 1 Z SubL.nil)) (RD_t 5 Z kR Z (fun _ hK => v_assign Z) (RD_done kR (N_K (W_ret (ret_gen (rs := [.cell 2 27, .tmp 3]) (vs := [_, _]) results15 ⟨⟨_, Z, load_blk 2 H isAgg27 sizeOf27 Z Z Z⟩, Z, trivial⟩ ?_))))))
 have H := H.del (k := 0) rfl
 have H := H.del (k := 0) rfl
 have H := H.del (k := 0) rfl
 exact H.retP ⟨_, ⟨st3, tr3, sn3⟩, _, Z, ⟨_, _, _, _, _, _, _, _, _, Z, hst3, htr3, hsn3⟩, hxs15⟩
theorem DrawSnapBack_c (w0 : World) (G0 : PH) (hG : PSub G0 w0) (vcode : Value) (code : List (UInt8)) (hcode : RdU G0 vcode code)  :
  Calls Tryz.prog 47 #[vcode] w0 (RetP w0 G0 (fun G v => ∃ (cs : List Value) (x : BDisk) (p0 : Bs), v = .tuple #[.agg cs.toArray, str p0] ∧ diskE G x cs ∧ p0.length ≤ 16777216)) := by
 obtain ⟨acode, kcode, rfl⟩ := hcode.shape
 have hlimcode : code.length ≤ 1099511627776 := hcode.lim
 have H := Hp.init hG
 refine calls_of_W (l := [.slice acode code.length kcode]) func47 Z ntmps47 Z (q2 (o_alloc H zeroValue27 Z Z ?_)); intro b1 w1 hb1 H
 refine aG Z (q1 (mV Z (o_call call27 Z Z (l6Open_c _ _ H.sub _ _ hcode ) ?_)))
 rintro _ w2 ⟨G2, _, _, g2, rfl, ⟨rb2, ab2, mb2, kb2, bs2, rfl, rfl, hbs2⟩, hp2, hq2, hs2⟩
 have H := H.growO g2 hp2 hq2 hs2
 refine ⟨_, Z, ?_⟩
 refine aG Z (q1 (mV Z (o_call call26 Z Z (l91Disk_c _ _ H.sub _ _ _ _ _ _ hbs2 (H.blkIs (k := 0) Z).1 (H.blkIs (k := 0) Z).2 oM ) ?_)))
 rintro _ w3 ⟨G3, _, _, rfl, H3', ⟨p3, v13, v23, v33, st3, tr3, sn3, hp3, rfl, hst3, htr3, hsn3, rfl⟩⟩
 have hbs2 := hbs2.up H3'.le
 have H := H.borrow (k := 0) rfl H3'
 obtain ⟨sta3, stc3, rfl⟩ := hst3.shape; have hx_hst3 : _ ≤ 1099511627776 := hst3.lim; obtain ⟨tra3, trc3, rfl⟩ := htr3.shape; have hx_htr3 : _ ≤ 1099511627776 := htr3.lim; obtain ⟨sna3, snc3, rfl⟩ := hsn3.shape; have hx_hsn3 : _ ≤ 1099511627776 := hsn3.lim
 refine ⟨_, Z, ?_⟩
 refine o_alloc H zeroValue27 Z Z ?_; intro b4 w4 hb4 H
 refine o_store_B 0 H sizeOf27 Z Z Z Z Z Z Z Z ?_; intro w5 H
 refine q3 (W_seq (W_drawK [0] 6 H kR Z ?_)); intro w6 H; have hd6 := PLe.refl G3
 refine RD_t 0 Z kR Z (fun _ hK => v_loadagg_B 0 hK isAgg27 sizeOf27 Z Z Z Z) (vM 1 Z Z (RD_t 2 Z kR Z (fun _ hK => v_loadagg_B 0 hK isAgg27 sizeOf27 Z Z Z Z) ?_))
 refine RD_run [3] kR Z (RDs.cons Z ?_ RDs.nil)
 refine o_call call35 Z Z (l91Snap_c _ _ H.sub _ _ _ _ _ _ hbs2 (H.blkIs (k := 1) Z).1 (H.blkIs (k := 1) Z).2 oM _ ⟨st3, tr3, sn3⟩ ⟨_, _, _, _, _, _, _, _, _, Z, hst3, htr3, hsn3⟩ ) ?_
 rintro _ w7 ⟨G7, _, _, rfl, H7', ⟨p7, x7, hp7, rfl, hxs7, rfl⟩⟩
 have hst3 := hst3.up H7'.le
 have htr3 := htr3.up H7'.le
 have hsn3 := hsn3.up H7'.le
 have hd6 := hd6.trans H7'.le
 have H := H.borrow (k := 1) rfl H7'
 refine ⟨_, Z, ?_⟩
 refine R_nil (N_DK (Kn.of' H hd6 (SubL.cons 1 Z SubL.nil)) ?_)
 refine RD_run [4] kR Z (RDs.cons Z ?_ RDs.nil)
 refine o_store_B 2 H sizeOf27 Z Z Z Z Z Z Z Z ?_; intro w8 H
 refine R_nil (N_DK (Kn.of' H hd6 (SubL.cons 1 Z SubL.nil)) (RD_t 5 Z kR Z (fun _ hK => v_assign Z) (RD_done kR (N_K (W_ret (ret_gen (rs := [.cell 2 27, .tmp 3]) (vs := [_, _]) results47 ⟨⟨_, Z, load_blk 2 H isAgg27 sizeOf27 Z Z Z⟩, Z, trivial⟩ ?_))))))
 have H := H.del (k := 0) rfl
 have H := H.del (k := 0) rfl
 have H := H.del (k := 0) rfl
 exact H.retP ⟨_, ⟨st3, tr3, sn3⟩, _, Z, ⟨_, _, _, _, _, _, _, _, _, Z, hst3, htr3, hsn3⟩, hxs7⟩
end Go.Proofs.Tst

namespace Go.Proofs.Tst
open Go Fw Tryz
theorem DrawCountBytes_c (w0 : World) (G0 : PH) (hG : PSub G0 w0) (vcode : Value) (code : List (UInt8)) (hcode : RdU G0 vcode code)  :
  Calls Tryz.prog 9 #[vcode] w0 (RetP w0 G0 (fun G v => ∃ (cs : List Value) (x : BDisk), v = .agg cs.toArray ∧ diskE G x cs)) := by
 obtain ⟨acode, kcode, rfl⟩ := hcode.shape
 have hlimcode : code.length ≤ 1099511627776 := hcode.lim
 have H := Hp.init hG
 refine calls_of_W (l := [.slice acode code.length kcode]) func9 Z ntmps9 Z (q2 (o_alloc H zeroValue27 Z Z ?_)); intro b1 w1 hb1 H
 refine q1 (mV Z (o_call call27 Z Z (l6Open_c _ _ H.sub _ _ hcode ) ?_))
 rintro _ w2 ⟨G2, _, _, g2, rfl, ⟨rb2, ab2, mb2, kb2, bs2, rfl, rfl, hbs2⟩, hp2, hq2, hs2⟩
 have H := H.growO g2 hp2 hq2 hs2
 refine ⟨_, Z, ?_⟩
 refine o_call call26 Z Z (l91Disk_c _ _ H.sub _ _ _ _ _ _ hbs2 (H.blkIs (k := 0) Z).1 (H.blkIs (k := 0) Z).2 oM ) ?_
 rintro _ w3 ⟨G3, _, _, rfl, H3', ⟨p3, v13, v23, v33, st3, tr3, sn3, hp3, rfl, hst3, htr3, hsn3, rfl⟩⟩
 have H := H.borrow (k := 0) rfl H3'
 obtain ⟨sta3, stc3, rfl⟩ := hst3.shape; have hx_hst3 : _ ≤ 1099511627776 := hst3.lim; obtain ⟨tra3, trc3, rfl⟩ := htr3.shape; have hx_htr3 : _ ≤ 1099511627776 := htr3.lim; obtain ⟨sna3, snc3, rfl⟩ := hsn3.shape; have hx_hsn3 : _ ≤ 1099511627776 := hsn3.lim
 refine ⟨_, Z, ?_⟩
 refine o_store_B 1 H sizeOf27 Z Z Z Z Z Z Z Z ?_; intro w4 H
 refine q3 (W_ret (ret_gen (rs := [.cell 2 27]) (vs := [_]) results9 ⟨⟨_, Z, load_blk 1 H isAgg27 sizeOf27 Z Z Z⟩, trivial⟩ ?_))
 have H := H.del (k := 0) rfl
 have H := H.del (k := 0) rfl
 exact H.retP ⟨_, ⟨st3, tr3, sn3⟩, Z, ⟨_, _, _, _, _, _, _, _, _, Z, hst3, htr3, hsn3⟩⟩
theorem DrawCountShared_c (w0 : World) (G0 : PH) (hG : PSub G0 w0) (vcode : Value) (code : List (UInt8)) (hcode : RdU G0 vcode code)  :
  Calls Tryz.prog 12 #[vcode] w0 (RetP w0 G0 (fun G v => ∃ (cs : List Value) (x : BDisk), v = .agg cs.toArray ∧ diskE G x cs)) := by
 obtain ⟨acode, kcode, rfl⟩ := hcode.shape
 have hlimcode : code.length ≤ 1099511627776 := hcode.lim
 have H := Hp.init hG
 refine calls_of_W (l := [.slice acode code.length kcode]) func12 Z ntmps12 Z (q2 (o_alloc H zeroValue27 Z Z ?_)); intro b1 w1 hb1 H
 refine q1 (mV Z (o_call call27 Z Z (l6Open_c _ _ H.sub _ _ hcode ) ?_))
 rintro _ w2 ⟨G2, _, _, g2, rfl, ⟨rb2, ab2, mb2, kb2, bs2, rfl, rfl, hbs2⟩, hp2, hq2, hs2⟩
 have H := H.growO g2 hp2 hq2 hs2
 refine ⟨_, Z, ?_⟩
 refine o_call call26 Z Z (l91Disk_c _ _ H.sub _ _ _ _ _ _ hbs2 (H.blkIs (k := 0) Z).1 (H.blkIs (k := 0) Z).2 oM ) ?_
 rintro _ w3 ⟨G3, _, _, rfl, H3', ⟨p3, v13, v23, v33, st3, tr3, sn3, hp3, rfl, hst3, htr3, hsn3, rfl⟩⟩
 have H := H.borrow (k := 0) rfl H3'
 obtain ⟨sta3, stc3, rfl⟩ := hst3.shape; have hx_hst3 : _ ≤ 1099511627776 := hst3.lim; obtain ⟨tra3, trc3, rfl⟩ := htr3.shape; have hx_htr3 : _ ≤ 1099511627776 := htr3.lim; obtain ⟨sna3, snc3, rfl⟩ := hsn3.shape; have hx_hsn3 : _ ≤ 1099511627776 := hsn3.lim
 refine ⟨_, Z, ?_⟩
 refine o_store_B 1 H sizeOf27 Z Z Z Z Z Z Z Z ?_; intro w4 H
 refine q3 (W_ret (ret_gen (rs := [.cell 2 27]) (vs := [_]) results12 ⟨⟨_, Z, load_blk 1 H isAgg27 sizeOf27 Z Z Z⟩, trivial⟩ ?_))
 have H := H.del (k := 0) rfl
 have H := H.del (k := 0) rfl
 exact H.retP ⟨_, ⟨st3, tr3, sn3⟩, Z, ⟨_, _, _, _, _, _, _, _, _, Z, hst3, htr3, hsn3⟩⟩
theorem DrawCountOnly_c (w0 : World) (G0 : PH) (hG : PSub G0 w0) (vcode : Value) (code : List (UInt8)) (hcode : RdU G0 vcode code)  :
  Calls Tryz.prog 19 #[vcode] w0 (RetP w0 G0 (fun G v => ∃ (cs : List Value) (x : BDisk) (p0 : Bs), v = .tuple #[.agg cs.toArray, str p0] ∧ diskE G x cs ∧ p0.length ≤ 16777216)) := by
 obtain ⟨acode, kcode, rfl⟩ := hcode.shape
 have hlimcode : code.length ≤ 1099511627776 := hcode.lim
 have H := Hp.init hG
 refine calls_of_W (l := [.slice acode code.length kcode]) func19 Z ntmps19 Z (q2 (o_alloc H zeroValue27 Z Z ?_)); intro b1 w1 hb1 H
 refine aG Z (q1 (mV Z (o_call call47 Z Z (DrawSnapBack_c _ _ H.sub _ _ hcode ) ?_)))
 rintro _ w2 ⟨G2, _, g2, rfl, ⟨cV, uV, uP0, rfl, hV, hP0⟩⟩
 have H := H.grow g2
 obtain ⟨a2, m2, c2, a2', m2', c2', a2'', m2'', c2'', rfl, hr2, hr2', hr2''⟩ := hV; have hn_hr2 := hr2.len; have hx_hr2 : _ ≤ 1099511627776 := hr2.lim; have hn_hr2q := hr2'.len; have hx_hr2q : _ ≤ 1099511627776 := hr2'.lim; have hn_hr2qq := hr2''.len; have hx_hr2qq : _ ≤ 1099511627776 := hr2''.lim
 refine ⟨_, Z, ?_⟩
 refine o_extract Z Z Z (o_extract Z Z Z (o_store_B 0 H sizeOf27 Z Z Z Z Z Z Z Z ?_)); intro w3 H
 refine aG Z (q3 (W_ret (ret_gen (rs := [.cell 2 27, .tmp 3]) (vs := [_, _]) results19 ⟨⟨_, Z, load_blk 0 H isAgg27 sizeOf27 Z Z Z⟩, Z, trivial⟩ ?_)))
 have H := H.del (k := 0) rfl
 exact H.retP ⟨_, uV, _, Z, ⟨_, _, _, _, _, _, _, _, _, Z, hr2, hr2', hr2''⟩, hP0⟩
end Go.Proofs.Tst

namespace Go.Proofs.Tst
open Go Fw Tryz
theorem lBytes_c (w0 : World) (G0 : PH) (hG : PSub G0 w0) (vcode : Value) (code : List (UInt8)) (hcode : RdU G0 vcode code) (hge : ErrG G0) :
  Calls Tryz.prog 3 #[vcode] w0 (Rets w0 (.bool true)) := by
 obtain ⟨acode, kcode, rfl⟩ := hcode.shape
 have hlimcode : code.length ≤ 1099511627776 := hcode.lim
 have H := Hp.init hG
 refine calls_of_W (l := [.slice acode code.length kcode]) func3 Z ntmps3 Z (q2 (aG Z (q3 (W_seq (q2 (mV Z (o_len_slice underlying22 Z Z (o_gtr Z Z Z (q3 ?_)))))))))
 refine W_cond Z ?_ ?_
 ·intro hc1
  try simp only [nrm] at hc1
  refine q2 (aG Z (q3 (W_ret (N_K_ret (rt1 results3 Z ?_)))))
  exact H.rets (congrArg Value.bool (by first | rfl | (simp only [beq_iff_eq, decide_eq_decide]; exact qc5) | (simp only [decide_eq_true_eq]; omega) | simp_all))
 intro hc1'
 try simp only [nrm] at hc1'
 refine W_skip (N_K (q2 (mV Z (o_call call9 Z Z (DrawCountBytes_c _ _ H.sub _ _ hcode ) ?_))))
 rintro _ w2 ⟨G2, _, g2, rfl, ⟨cV, uV, rfl, hV⟩⟩
 have H := H.grow g2
 have hge := hge.up g2.le
 obtain ⟨a2, m2, c2, a2', m2', c2', a2'', m2'', c2'', rfl, hr2, hr2', hr2''⟩ := hV; have hn_hr2 := hr2.len; have hx_hr2 : _ ≤ 1099511627776 := hr2.lim; have hn_hr2q := hr2'.len; have hx_hr2q : _ ≤ 1099511627776 := hr2'.lim; have hn_hr2qq := hr2''.len; have hx_hr2qq : _ ≤ 1099511627776 := hr2''.lim
 refine ⟨_, Z, ?_⟩
 refine o_alloc H zeroValue27 Z Z ?_; intro b3 w3 hb3 H
 refine o_store_B 0 H sizeOf27 Z Z Z Z Z Z Z Z ?_; intro w4 H
 refine q1 ?_
 obtain ⟨qc0, qc1, qc2, qc3, qc4, qc5, qc6, qc7, qc8, qc9⟩ := Sp.cnt_law uV
 refine o_loadagg_B 0 H isAgg27 sizeOf27 Z Z Z Z Z (o_call call10 Z Z (i_CountBytes_c _ _ H.sub _ uV ⟨_, _, _, _, _, _, _, _, _, Z, hr2, hr2', hr2''⟩ hge) ?_)
 rintro _ w5 ⟨rfl, ew5⟩; have H := H.step ew5; refine ⟨_, rfl, ?_⟩
 refine mV Z (o_extract Z Z Z (o_extract Z Z Z (o_extract Z Z Z (aG Z (aG Z (aG Z (q1 (o_loadagg_B 0 H isAgg27 sizeOf27 Z Z Z Z Z (o_call call11 Z Z (CountBytes_c _ _ H.sub _ uV ⟨_, _, _, _, _, _, _, _, _, Z, hr2, hr2', hr2''⟩ ) ?_)))))))))
 rintro _ w6 ⟨rfl, ew6⟩; have H := H.step ew6; refine ⟨_, rfl, ?_⟩
 refine mV Z (o_extract Z Z Z (o_extract Z Z Z (o_extract Z Z Z (aG Z (aG Z (aG Z (q3 (W_seq (q2 (mV Z (mV Z (o_neq_same Z Z Z (mV Z (gR Z (mV Z ?_)))))))))))))))
 refine gR Z (mV Z (gR Z (o_neq_same Z Z Z (o_pick_f Z Z Z (mV Z (gR Z (mV Z (gR Z (mV Z (gR Z (o_neq_same Z Z Z (o_pick_f Z Z Z (q3 (W_false Z (W_skip ?_)))))))))))))))
 refine N_K (q2 (mV Z (mV Z (o_leq Z Z Z (mV Z ?_)))))
 refine R_case (t := 56) Z ?_ ?_
 ·intro hc7
  try simp only [nrm] at hc7
  refine gR Z (mV Z (gR Z (mV Z (gR Z (o_mul Z Z Z oO (gR Z (o_leq Z Z Z (o_pick_t Z Z Z (mV Z ?_)))))))))
  refine R_case (t := 62) Z ?_ ?_
  ·intro hc9
   try simp only [nrm] at hc9
   refine gR Z (mV Z (gR Z (o_eql Z Z Z (gR Z (mV Z (gR Z (o_eql Z Z Z (gR Z (o_beql underlying4 Z Z Z (o_pick_t Z Z Z (aG Z (q3 (W_ret (rt1 results3 Z ?_))))))))))))))
   exact H.rets (congrArg Value.bool (by first | rfl | (simp only [beq_iff_eq, decide_eq_decide]; exact qc5) | (simp only [decide_eq_true_eq]; omega) | simp_all))
  intro hc9'
  try simp only [nrm] at hc9'
  exact absurd (show False from by first | omega | simp_all) id
 intro hc7'
 try simp only [nrm] at hc7'
 exact absurd (show False from by first | omega | simp_all) id
end Go.Proofs.Tst

namespace Go.Proofs.Tst
open Go Fw Tryz
theorem lShared_c (w0 : World) (G0 : PH) (hG : PSub G0 w0) (vcode : Value) (code : List (UInt8)) (hcode : RdU G0 vcode code) (hge : ErrG G0) :
  Calls Tryz.prog 4 #[vcode] w0 (Rets w0 (.bool true)) := by
 obtain ⟨acode, kcode, rfl⟩ := hcode.shape
 have hlimcode : code.length ≤ 1099511627776 := hcode.lim
 have H := Hp.init hG
 refine calls_of_W (l := [.slice acode code.length kcode]) func4 Z ntmps4 Z (q2 (aG Z (q3 (W_seq (q2 (mV Z (o_len_slice underlying22 Z Z (o_gtr Z Z Z (q3 ?_)))))))))
 refine W_cond Z ?_ ?_
 ·intro hc1
  try simp only [nrm] at hc1
  refine q2 (aG Z (q3 (W_ret (N_K_ret (rt1 results4 Z ?_)))))
  exact H.rets (congrArg Value.bool (by first | rfl | (simp only [beq_iff_eq, decide_eq_decide]; exact qc5) | (simp only [decide_eq_true_eq]; omega) | simp_all))
 intro hc1'
 try simp only [nrm] at hc1'
 refine W_skip (N_K (q2 (mV Z (o_call call12 Z Z (DrawCountShared_c _ _ H.sub _ _ hcode ) ?_))))
 rintro _ w2 ⟨G2, _, g2, rfl, ⟨cV, uV, rfl, hV⟩⟩
 have H := H.grow g2
 have hge := hge.up g2.le
 obtain ⟨a2, m2, c2, a2', m2', c2', a2'', m2'', c2'', rfl, hr2, hr2', hr2''⟩ := hV; have hn_hr2 := hr2.len; have hx_hr2 : _ ≤ 1099511627776 := hr2.lim; have hn_hr2q := hr2'.len; have hx_hr2q : _ ≤ 1099511627776 := hr2'.lim; have hn_hr2qq := hr2''.len; have hx_hr2qq : _ ≤ 1099511627776 := hr2''.lim
 refine ⟨_, Z, ?_⟩
 refine o_alloc H zeroValue27 Z Z ?_; intro b3 w3 hb3 H
 refine o_store_B 0 H sizeOf27 Z Z Z Z Z Z Z Z ?_; intro w4 H
 refine q1 (o_loadagg_B 0 H isAgg27 sizeOf27 Z Z Z Z Z (o_call call13 Z Z (i_CountShared_c _ _ H.sub _ uV ⟨_, _, _, _, _, _, _, _, _, Z, hr2, hr2', hr2''⟩ hge) ?_))
 rintro _ w5 ⟨rfl, ew5⟩; have H := H.step ew5; refine ⟨_, rfl, ?_⟩
 refine aG Z (q1 (o_loadagg_B 0 H isAgg27 sizeOf27 Z Z Z Z Z (o_call call14 Z Z (CountShared_c _ _ H.sub _ uV ⟨_, _, _, _, _, _, _, _, _, Z, hr2, hr2', hr2''⟩ ) ?_)))
 rintro _ w6 ⟨rfl, ew6⟩; have H := H.step ew6; refine ⟨_, rfl, ?_⟩
 refine aG Z (q3 (W_seq (q2 (mV Z (mV Z (o_neq_same Z Z Z (mV Z (gR Z (mV Z (gR Z (o_lss Z Z Z (o_pick_f Z Z Z (q3 ?_)))))))))))))
 refine W_cond Z ?_ ?_
 ·intro hc7
  try simp only [nrm] at hc7
  refine q2 (mV Z (mV Z (o_eql Z Z Z (aG Z (q3 (W_ret (N_K_ret (rt1 results4 Z ?_))))))))
  exact H.rets (congrArg Value.bool (by first | rfl | (simp only [beq_iff_eq, decide_eq_decide]; exact qc5) | (simp only [decide_eq_true_eq]; omega) | simp_all))
 intro hc7'
 try simp only [nrm] at hc7'
 refine W_skip (N_K (q2 ?_))
 obtain ⟨qc0, qc1, qc2, qc3, qc4, qc5, qc6, qc7, qc8, qc9⟩ := Sp.cnt_law uV
 have hdv := Sp.shared_pos (d := uV) oM
 have hqq : Sp.cShared uV = 0 ↔ Sp.cStored uV = Sp.cShown uV := ⟨qc6 hdv, qc7 hdv⟩
 refine o_loadagg_B 0 H isAgg27 sizeOf27 Z Z Z Z Z (o_call call10 Z Z (i_CountBytes_c _ _ H.sub _ uV ⟨_, _, _, _, _, _, _, _, _, Z, hr2, hr2', hr2''⟩ hge) ?_)
 rintro _ w8 ⟨rfl, ew8⟩; have H := H.step ew8; refine ⟨_, rfl, ?_⟩
 refine mV Z (o_extract Z Z Z (o_extract Z Z Z (o_extract Z Z Z (aG Z (aG Z (aG Z (q1 (mV Z (o_eql Z Z Z (mV Z (mV Z (o_eql Z Z Z (o_beql underlying4 Z Z Z (mV Z ?_))))))))))))))
 refine R_case (t := 40) Z ?_ ?_
 ·intro hc9
  try simp only [nrm] at hc9
  refine gR Z (mV Z (gR Z (o_fieldAddr 0 runUnderlying27 Z sizeOf23 Z Z Z (gR Z (o_load_B 0 H isAgg23 Z Z Z Z (gR Z (o_len_slice underlying23 Z Z (gR Z (o_leq Z Z Z (o_pick_t Z Z Z (aG Z (q3 (W_ret (rt1 results4 Z ?_))))))))))))))
  exact H.rets (congrArg Value.bool (by first | rfl | (simp only [beq_iff_eq, decide_eq_decide]; exact qc5) | (simp only [decide_eq_true_eq]; omega) | simp_all))
 intro hc9'
 try simp only [nrm] at hc9'
 exact absurd (show False from by first | omega | simp_all | exact hc9' (by (rw [decide_eq_decide]); exact hqq)) id
end Go.Proofs.Tst

namespace Go.Proofs.Tst
open Go
abbrev muLink : Go.Conc.Locks.MuLink := { lock := 72, unlock := 73, ilock := 110, iunlock := 111, lockSlow := 142, unlockSlow := 145, disable := 138, enable := 140, acquire := 141, relMerge := 143, cas32 := 139, add32 := 144, tMutex := 62, tIMutex := 60, tPMutex := 165, tPIMutex := 197, tPI32 := 199, tUP := 150, tNoCopy := 57, tU32 := 58 }
theorem muLib : Go.Conc.Locks.MuLib Tryz.prog muLink where
 f_lock := by kernel_rfl
 f_unlock := by kernel_rfl
 f_ilock := by kernel_rfl
 f_iunlock := by kernel_rfl
 f_disable := by kernel_rfl
 f_enable := by kernel_rfl
 f_acquire := by kernel_rfl
 f_relMerge := by kernel_rfl
 f_cas32 := by kernel_rfl
 f_add32 := by kernel_rfl
 underlying_tIMutex := Tryz.underlying60
 runUnderlying_tIMutex := Tryz.runUnderlying60
 sizeOf_tIMutex := Tryz.sizeOf60
 isAgg_tIMutex := Tryz.isAgg60
 zeroValue_tIMutex := Tryz.zeroValue60
 underlying_tMutex := Tryz.underlying62
 runUnderlying_tMutex := Tryz.runUnderlying62
 sizeOf_tMutex := Tryz.sizeOf62
 isAgg_tMutex := Tryz.isAgg62
 zeroValue_tMutex := Tryz.zeroValue62
 underlying_tPMutex := Tryz.underlying165
 runUnderlying_tPMutex := Tryz.runUnderlying165
 sizeOf_tPMutex := Tryz.sizeOf165
 isAgg_tPMutex := Tryz.isAgg165
 zeroValue_tPMutex := Tryz.zeroValue165
 underlying_tPIMutex := Tryz.underlying197
 runUnderlying_tPIMutex := Tryz.runUnderlying197
 sizeOf_tPIMutex := Tryz.sizeOf197
 isAgg_tPIMutex := Tryz.isAgg197
 zeroValue_tPIMutex := Tryz.zeroValue197
 underlying_tPI32 := Tryz.underlying199
 runUnderlying_tPI32 := Tryz.runUnderlying199
 sizeOf_tPI32 := Tryz.sizeOf199
 isAgg_tPI32 := Tryz.isAgg199
 zeroValue_tPI32 := Tryz.zeroValue199
 underlying_tUP := Tryz.underlying150
 runUnderlying_tUP := Tryz.runUnderlying150
 sizeOf_tUP := Tryz.sizeOf150
 isAgg_tUP := Tryz.isAgg150
 zeroValue_tUP := Tryz.zeroValue150
 underlying_tNoCopy := Tryz.underlying57
 runUnderlying_tNoCopy := Tryz.runUnderlying57
 sizeOf_tNoCopy := Tryz.sizeOf57
 isAgg_tNoCopy := Tryz.isAgg57
 zeroValue_tNoCopy := Tryz.zeroValue57
 underlying_t21 := Tryz.underlying21
 runUnderlying_t21 := Tryz.runUnderlying21
 sizeOf_t21 := Tryz.sizeOf21
 isAgg_t21 := Tryz.isAgg21
 zeroValue_t21 := Tryz.zeroValue21
 room_tIMutex := by kernel_rfl
end Go.Proofs.Tst

namespace Go.Proofs.Tst
open Go Fw Tryz
theorem i_disk_c (w0 : World) (G0 : PH) (hG : PSub G0 w0) (db mb : Nat) (es : Array MapEntry) (ck : Nat) (xs : List (Int × Value)) (T : Nd) (FT : Fr) (sv : Value) (sn : List (Bs × Nd)) (c : List Value) (FSq : Fr) (d : BDisk) (hm : MapIs (Value.int .i64) es ck xs) (hS : StR G0 xs d.store) (hN : NdO 167 65 G0 T FT) (hT : Nd.TOK T d.tree) (hchk : Chk osE 2 G0 c sn) (hNs : NdsO 167 65 G0 (sn.map (·.2)) FSq) (hSn : SnOK sn d.snaps) (hVd : Sp.VH d.store) (hs6 : d.snaps.length ≤ 6) (hLent : Lent w0 G0 [blk db (cl [.int .i32 0, .int .u32 0, .map (some mb), .pointer (some ⟨T.b, 0, none⟩), sv] 70), blk mb (.map es ck), frag FT, acc 124 2 sv sn.length c, frag FSq])  :
  Calls Tryz.prog 71 #[.pointer (some ⟨db, 0, none⟩)] w0 (RetM w0 G0 (fps [blk db (cl [.int .i32 0, .int .u32 0, .map (some mb), .pointer (some ⟨T.b, 0, none⟩), sv] 70), blk mb (.map es ck), frag FT, acc 124 2 sv sn.length c, frag FSq]) (fun G' v Bs => ∃ (v1 v2 v3 : Value) (F1 F2 F3 : Fr), v = .agg #[v1, v2, v3] ∧ Bs = [frag F1, frag F2, frag F3] ∧ OHs F1 v1 d.store ∧ OIs F2 v2 d.tree ∧ OSn F3 v3 d.snaps)) := by
 have H : Hp w0 G0 (fps [blk db (cl [.int .i32 0, .int .u32 0, .map (some mb), .pointer (some ⟨T.b, 0, none⟩), sv] 70), blk mb (.map es ck), frag FT, acc 124 2 sv sn.length c, frag FSq]) w0 G0 [blk db (cl [.int .i32 0, .int .u32 0, .map (some mb), .pointer (some ⟨T.b, 0, none⟩), sv] 70), blk mb (.map es ck), frag FT, acc 124 2 sv sn.length c, frag FSq] := hLent.hp
 obtain ⟨adv, cdv, rfl⟩ := H.accShape (k := 3) rfl; have hTv := hT.valid; have hTc := hT.cnt; have hTl := Sp.tree_len hTv; have hsnl := hSn.len; have hxa := H.accShape (k := 3) rfl
 refine calls_of_WD (l := [.pointer (some ⟨db, 0, none⟩)]) func71 Z ntmps71 Z (q2 (o_alloc H zeroValue27 Z Z ?_)); intro b1 w1 hb1 H
 refine q1 (mV Z (o_nilCheck Z Z (o_fieldAddr 0 runUnderlying70 Z sizeOf62 Z Z Z (o_lock 1 H muLib Z call72 Z Z Z Z ?_)))); intro w2 H
 refine q1 (mV Z (o_nilCheck Z Z (o_fieldAddr 0 runUnderlying70 Z sizeOf62 Z Z Z (o_defer Z (q3 (W_seq (W_drawK [0, 1] 15 H kR Z ?_))))))); intro w3 H; have hd3 := PLe.refl G0
 refine vM 0 Z Z (RD_t 1 Z kR Z (fun _ hK => v_nilCheck Z) (RD_t 2 Z kR Z (fun _ hK => v_fieldAddr 2 runUnderlying70 Z sizeOf67 Z Z) (RD_t 3 Z kR Z (fun _ hK => v_fieldAddr 0 runUnderlying67 Z sizeOf64 Z Z) (RD_t 4 Z kR Z (fun _ hK => v_load_B 1 hK isAgg64 Z Z Z) (vM 6 Z Z (RD_t 7 Z kR Z (fun _ hK => v_nilCheck Z) (RD_t 8 Z kR Z (fun _ hK => v_fieldAddr 2 runUnderlying70 Z sizeOf67 Z Z) (RD_t 9 Z kR Z (fun _ hK => v_fieldAddr 1 runUnderlying67 Z sizeOf65 Z Z) (RD_t 10 Z kR Z (fun _ hK => v_load_B 1 hK isAgg65 Z Z Z) ?_)))))))))
 refine RD_run [5, 13] kR Z (RDs.cons Z ?_ (RDs.cons Z ?_ RDs.nil))
 ·skip
  refine o_call call30 Z Z (i_slist_c _ _ (H.lendSubL [2]) _ _ _ _ _ (H.lendPredL (k := 2) (ks := [2]) Z Z) hm (hS.up (PPlus.le _ _ _)) hVd ) ?_
  rintro _ w4 ⟨_, _, rfl, H4', ⟨F4, rfl, hO4⟩⟩
  have H := H.readersL H4'
  obtain ⟨e24, hP4⟩ := hO4
  obtain ⟨sa4, sc4, rfl⟩ := OwnS.shape hP4
  have hO4 := OHs.mk hP4
  refine ⟨_, Z, ?_⟩
  refine R_nil (N_DK (Kn.of' H hd3 (SubL.cons 1 Z (SubL.cons 2 Z SubL.nil))) ?_)
  refine RD_run [11, 13] kR Z (RDs.cons Z ?_ (RDs.cons Z ?_ RDs.nil))
  ·skip
   refine o_call call49 Z Z (i_tlist_c _ _ (H.lendSubL [4]) _ ((H.lendN (k := 4) (ks := [4]) Z Z hN).at (show Nd.at_ T [] = some T from Z)) hT.wf oM) ?_
   rintro _ w5 ⟨_, _, rfl, H5', ⟨F5, rfl, hO5⟩⟩
   have H := H.readersL H5'
   obtain ⟨e25, hP5⟩ := hO5
   obtain ⟨sa5, sc5, rfl⟩ := OwnS.shape hP5
   have hO5 := OIs.mk hP5
   refine ⟨_, Z, ?_⟩
   refine R_nil (N_DK (Kn.of' H hd3 (SubL.cons 2 Z (SubL.cons 3 Z SubL.nil))) (RD_t 12 Z kR Z (fun _ hK => v_build bf27 Z Z) ?_))
   refine RD_run [13] kR Z (RDs.cons Z ?_ RDs.nil)
   refine o_alloc H zeroValue27 Z Z ?_; intro b6 w6 hb6 H
   refine R_nil (N_DK (Kn.of' H hd3 (SubL.cons 3 Z (SubL.cons 4 Z SubL.nil))) ?_)
   refine RD_run [14] kR Z (RDs.cons Z ?_ RDs.nil)
   refine o_store_B 0 H sizeOf27 Z Z Z Z Z Z Z Z ?_; intro w7 H
   refine R_nil (N_DKlast kR kR (N_K (W_seq (q2 (mV Z (o_nilCheck Z Z (o_fieldAddr 4 runUnderlying70 Z sizeOf68 Z Z Z (o_load_B 4 H isAgg68 Z Z Z Z (o_len_slice underlying68 Z Z (mV Z (q3 (W_block ?_))))))))))))
   have H := H.addNil 46 2
   have H := H.addF
   obtain ⟨ln9, hln9, H⟩ := H.nameAt (k := 2) (off := 2) rfl rfl
   obtain ⟨ln10, hln10, H⟩ := H.name (k := 5) rfl
   obtain ⟨ln11, hln11, H⟩ := H.name (k := 6) rfl
   refine W_lp (hf := (Sub.cons (t := 2) Z (Sub.cons (t := 3) Z (Sub.cons (t := 29) Z (Sub.cons (t := 30) Z Sub.nil))))) (J := fun M w m => ∃ (v : Value) (n : Nat) (cs : List Value) (xs : List (BSnap)) (F : Fr) (k : Nat) (G : PH), M = [(31, .int .i64 (k : Int))] ∧ PLe G0 G ∧ Hp w0 G0 (fps [blk db (cl [.int .i32 0, .int .u32 0, .map (some mb), .pointer (some ⟨T.b, 0, none⟩), .slice adv sn.length cdv] 70), blk mb (.map es ck), frag FT, acc 124 2 (.slice adv sn.length cdv) sn.length c, frag FSq]) w G [frag F, acc 46 2 v n cs, blk b6 (cl (setN ln9 2 v) 27), frag F5, frag F4, blk b1 (cl ln10 27), blk db (cl ln11 70), blk mb (.map es ck), frag FT, acc 124 2 (.slice adv sn.length cdv) sn.length c, frag FSq] ∧ (ChkF snapO 2 cs xs F ∧ n = xs.length ∧ k ≤ sn.length ∧ xs = (sn.take k).map (fun x => (⟨x.1, x.2.flat []⟩ : BSnap))) ∧ m = (sn.length - k)) (h0 := ⟨_, _, _, [], [], 0, _, Z, PLe.refl _, H, ?inv, Z⟩) (round := ?round)
   case inv => exact ⟨ChkF.nil,  by first | rfl | simp | (simp; omega) | omega, (by simp)⟩
   case round =>
    rintro _ w12 _ ⟨v, n, cs, xs, F, k, G12, rfl, hle12, H, hinv12, rfl⟩
    subst hln9
    subst hln10
    subst hln11
    have hchk := hchk.up hle12
    have hNs := hNs.up hle12
    obtain ⟨hchk12_0, hn12_0, hinv12⟩ := hinv12
    obtain ⟨av12_0, cv12_0, rfl⟩ := H.accShape (k := 1) rfl
    obtain ⟨hk, hxs⟩ := hinv12; have hxl6 : xs.length ≤ 6 := by (rw [hxs]; simp; omega)
    refine q2 (o_lss Z Z Z (q3 (W_seq ?_)))
    refine W_cond Z ?_ ?_
    ·intro hc13
     try simp only [nrm] at hc13
     refine W_skip (N_K (W_seq (W_block (q2 (o_index_A 9 H k Z hchk underlying68 sizeOf124 Z Z Z Z aN aN ?_))))); intro ba14 z14 q14 hba14 hz14 hE14 hg14; cases hba14
     obtain ⟨rfl, hi14⟩ := hE14; have hy_hi14 : _ ≤ 16777216 := hi14
     refine o_loadagg_A 9 H isAgg124 sizeOf124 Z Z Z hg14 Z (o_alloc H zeroValue124 Z Z ?_); intro b15 w15 hb15 H
     refine o_store_B 0 H sizeOf124 Z Z Z Z Z Z Z Z ?_; intro w16 H
     refine q3 (W_drawK [0, 3, 6, 7] 12 H kR Z ?_); intro w17 H; have hd17 := PLe.refl G12
     refine RD_t 0 Z kR Z (fun _ hK => v_fieldAddr 2 runUnderlying27 Z sizeOf25 Z Z) (RD_t 1 Z kR Z (fun _ hK => v_load_B 1 hK isAgg25 Z Z Z) (RD_t 2 Z kR Z (fun _ hK => v_fieldAddr 0 runUnderlying124 Z sizeOf9 Z Z) (RD_t 3 Z kR Z (fun _ hK => v_load_B 0 hK isAgg9 Z Z Z) (RD_t 4 Z kR Z (fun _ hK => v_fieldAddr 1 runUnderlying124 Z sizeOf65 Z Z) (RD_t 5 Z kR Z (fun _ hK => v_load_B 0 hK isAgg65 Z Z Z) ?_)))))
     refine RD_run [6] kR Z (RDs.cons Z ?_ RDs.nil)
     refine o_call call49 Z Z (i_tlist_c _ _ (H.lendSubL [11]) _ (H.lendNs (k := 11) (ks := [11]) Z Z hNs z14.2 (List.mem_map_of_mem (List.mem_of_getElem? hz14))) (sn_ok hSn _ (List.mem_map_of_mem (List.mem_of_getElem? hz14))).1 (by have := (sn_ok hSn _ (List.mem_map_of_mem (List.mem_of_getElem? hz14))).2; omega)) ?_
     rintro _ w18 ⟨_, _, rfl, H18', ⟨F18, rfl, hO18⟩⟩
     have H := H.readersL H18'
     obtain ⟨e218, hP18⟩ := hO18
     obtain ⟨sa18, sc18, rfl⟩ := OwnS.shape hP18
     have hO18 := OIs.mk hP18
     refine ⟨_, Z, ?_⟩
     refine R_nil (N_DK (Kn.of' H hd17 (SubL.cons 1 Z (SubL.cons 4 Z (SubL.cons 7 Z (SubL.cons 8 Z SubL.nil))))) (RD_t 7 Z kR Z (fun _ hK => v_build bf46 Z Z) ?_))
     refine RD_run [8] kR Z (RDs.cons Z ?_ RDs.nil)
     refine o_buildSlice H underlying25 sizeOf46 (fun w => ⟨_, zeroValue46 w, Z⟩) Z Z Z Z Z Z Z ?_; intro b19 w19 hb19 H
     refine R_nil (N_DK (Kn.of' H hd17 (SubL.cons 2 Z (SubL.cons 5 Z (SubL.cons 8 Z (SubL.cons 9 Z SubL.nil))))) ?_)
     refine RD_run [9] kR Z (RDs.cons Z ?_ RDs.nil)
     refine o_append1 3 H (sz := 2) (bytes := 40) underlying25 typeInfo46 ⟨_, Z, Z⟩ Z Z Z Z Z Z Z Z Z Z oM Z ?_; intro v20 w20 H
     have hchk20 := hchk12_0.snoc (show snapO F18 ⟨z14.1, z14.2.flat []⟩ _ from ⟨_, _, _, rfl, hi14, hO18⟩) rfl
     have H := H.toFront (k := 2) rfl
     have H := H.mergeF
     obtain ⟨av20, cv20, rfl⟩ := H.accShape (k := 2) rfl
     refine R_nil (N_DK (Kn.of' H hd17 (SubL.cons 1 Z (SubL.cons 3 Z (SubL.cons 6 Z (SubL.cons 7 Z SubL.nil))))) (RD_t 10 Z kR Z (fun _ hK => v_fieldAddr 2 runUnderlying27 Z sizeOf25 Z Z) ?_))
     refine RD_run [11] kR Z (RDs.cons Z ?_ RDs.nil)
     refine o_store_B 3 H sizeOf25 Z Z Z Z Z Z Z Z ?_; intro w21 H
     refine R_nil (N_DKlast kR kR (N_B (N_K (W_region (o_add Z Z Z oO (mV Z (R_nil ?_)))))))
     have H := H.del (k := 1) rfl
     refine N_lp (hJ := ⟨_, _, _, (xs ++ [⟨z14.1, z14.2.flat []⟩]), (F ++ F18), k + 1, _, Z, hle12, H, ?inv, Z⟩) (hm := ?hm)
     case hm => omega
     case inv => exact ⟨hchk20, aN, (by exact ⟨by omega, by (rw [Sp.take_succ' hz14, List.map_append, ← hxs]; rfl)⟩)⟩
    intro hc13'
    try simp only [nrm] at hc13'
    refine W_exit (N_K_exit (N_LP_exit (N_B_same (N_K (q2 (o_loadagg_B 2 H isAgg27 sizeOf27 Z Z Z Z Z (o_store_B 5 H sizeOf27 Z Z Z Z Z Z Z Z ?_))))))); intro w23 H
    refine q3 (W_ret (ret_unlock 6 H muLib Z call73 Z Z (rs := [.cell 2 27]) results71 ?_)); intro wu2 H
    refine ⟨[_], ⟨⟨_, Z, load_blk 5 H isAgg27 sizeOf27 Z Z Z⟩, trivial⟩, ?_⟩
    have H := H.toFront (k := 1) rfl
    obtain ⟨Fo3, H, hOw3⟩ := H.ownF hchk12_0 aN aN
    have H := H.del (k := 1) rfl
    have H := H.del (k := 3) rfl
    have H := H.del (k := 3) rfl
    have H := H.del (k := 3) rfl
    have H := H.del (k := 3) rfl
    have H := H.del (k := 3) rfl
    have H := H.del (k := 3) rfl
    have H := H.toFront (k := 1) rfl
    have H := H.toFront (k := 2) rfl
    have hxs2 : xs = d.snaps := by (rw [hxs, List.take_of_length_le oM]; exact sn_list hSn)
    exact H.retM ⟨_, _, _, _, _, _, rfl, rfl, hO4, (by (rw [← hT.flat]); exact hO5), (by have h9 := (show OSn _ _ _ from ⟨_, hOw3⟩); (rw [hxs2] at h9); exact h9)⟩
  skip
  refine o_alloc H zeroValue27 Z Z ?_; intro b24 w24 hb24 H
  refine R_nil (N_DK (Kn.of' H hd3 (SubL.cons 2 Z (SubL.cons 3 Z SubL.nil))) ?_)
  refine RD_run [11] kR Z (RDs.cons Z ?_ RDs.nil)
  refine o_call call49 Z Z (i_tlist_c _ _ (H.lendSubL [5]) _ ((H.lendN (k := 5) (ks := [5]) Z Z hN).at (show Nd.at_ T [] = some T from Z)) hT.wf oM) ?_
  rintro _ w25 ⟨_, _, rfl, H25', ⟨F25, rfl, hO25⟩⟩
  have H := H.readersL H25'
  obtain ⟨e225, hP25⟩ := hO25
  obtain ⟨sa25, sc25, rfl⟩ := OwnS.shape hP25
  have hO25 := OIs.mk hP25
  refine ⟨_, Z, ?_⟩
  refine R_nil (N_DK (Kn.of' H hd3 (SubL.cons 3 Z (SubL.cons 4 Z SubL.nil))) (RD_t 12 Z kR Z (fun _ hK => v_build bf27 Z Z) ?_))
  refine RD_run [14] kR Z (RDs.cons Z ?_ RDs.nil)
  refine o_store_B 1 H sizeOf27 Z Z Z Z Z Z Z Z ?_; intro w26 H
  refine R_nil (N_DKlast kR kR (N_K (W_seq (q2 (mV Z (o_nilCheck Z Z (o_fieldAddr 4 runUnderlying70 Z sizeOf68 Z Z Z (o_load_B 4 H isAgg68 Z Z Z Z (o_len_slice underlying68 Z Z (mV Z (q3 (W_block ?_))))))))))))
  have H := H.addNil 46 2
  have H := H.addF
  obtain ⟨ln28, hln28, H⟩ := H.nameAt (k := 3) (off := 2) rfl rfl
  obtain ⟨ln29, hln29, H⟩ := H.name (k := 5) rfl
  obtain ⟨ln30, hln30, H⟩ := H.name (k := 6) rfl
  refine W_lp (hf := (Sub.cons (t := 2) Z (Sub.cons (t := 3) Z (Sub.cons (t := 29) Z (Sub.cons (t := 30) Z Sub.nil))))) (J := fun M w m => ∃ (v : Value) (n : Nat) (cs : List Value) (xs : List (BSnap)) (F : Fr) (k : Nat) (G : PH), M = [(31, .int .i64 (k : Int))] ∧ PLe G0 G ∧ Hp w0 G0 (fps [blk db (cl [.int .i32 0, .int .u32 0, .map (some mb), .pointer (some ⟨T.b, 0, none⟩), .slice adv sn.length cdv] 70), blk mb (.map es ck), frag FT, acc 124 2 (.slice adv sn.length cdv) sn.length c, frag FSq]) w G [frag F, acc 46 2 v n cs, frag F25, blk b24 (cl (setN ln28 2 v) 27), frag F4, blk b1 (cl ln29 27), blk db (cl ln30 70), blk mb (.map es ck), frag FT, acc 124 2 (.slice adv sn.length cdv) sn.length c, frag FSq] ∧ (ChkF snapO 2 cs xs F ∧ n = xs.length ∧ k ≤ sn.length ∧ xs = (sn.take k).map (fun x => (⟨x.1, x.2.flat []⟩ : BSnap))) ∧ m = (sn.length - k)) (h0 := ⟨_, _, _, [], [], 0, _, Z, PLe.refl _, H, ?inv, Z⟩) (round := ?round)
  case inv => exact ⟨ChkF.nil,  by first | rfl | simp | (simp; omega) | omega, (by simp)⟩
  case round =>
   rintro _ w31 _ ⟨v, n, cs, xs, F, k, G31, rfl, hle31, H, hinv31, rfl⟩
   subst hln28
   subst hln29
   subst hln30
   have hchk := hchk.up hle31
   have hNs := hNs.up hle31
   obtain ⟨hchk31_0, hn31_0, hinv31⟩ := hinv31
   obtain ⟨av31_0, cv31_0, rfl⟩ := H.accShape (k := 1) rfl
   obtain ⟨hk, hxs⟩ := hinv31; have hxl6 : xs.length ≤ 6 := by (rw [hxs]; simp; omega)
   refine q2 (o_lss Z Z Z (q3 (W_seq ?_)))
   refine W_cond Z ?_ ?_
   ·intro hc32
    try simp only [nrm] at hc32
    refine W_skip (N_K (W_seq (W_block (q2 (o_index_A 9 H k Z hchk underlying68 sizeOf124 Z Z Z Z aN aN ?_))))); intro ba33 z33 q33 hba33 hz33 hE33 hg33; cases hba33
    obtain ⟨rfl, hi33⟩ := hE33; have hy_hi33 : _ ≤ 16777216 := hi33
    refine o_loadagg_A 9 H isAgg124 sizeOf124 Z Z Z hg33 Z (o_alloc H zeroValue124 Z Z ?_); intro b34 w34 hb34 H
    refine o_store_B 0 H sizeOf124 Z Z Z Z Z Z Z Z ?_; intro w35 H
    refine q3 (W_drawK [0, 4, 6, 7] 12 H kR Z ?_); intro w36 H; have hd36 := PLe.refl G31
    refine RD_t 0 Z kR Z (fun _ hK => v_fieldAddr 2 runUnderlying27 Z sizeOf25 Z Z) (RD_t 1 Z kR Z (fun _ hK => v_load_B 1 hK isAgg25 Z Z Z) (RD_t 2 Z kR Z (fun _ hK => v_fieldAddr 0 runUnderlying124 Z sizeOf9 Z Z) (RD_t 3 Z kR Z (fun _ hK => v_load_B 0 hK isAgg9 Z Z Z) (RD_t 4 Z kR Z (fun _ hK => v_fieldAddr 1 runUnderlying124 Z sizeOf65 Z Z) (RD_t 5 Z kR Z (fun _ hK => v_load_B 0 hK isAgg65 Z Z Z) ?_)))))
    refine RD_run [6] kR Z (RDs.cons Z ?_ RDs.nil)
    refine o_call call49 Z Z (i_tlist_c _ _ (H.lendSubL [11]) _ (H.lendNs (k := 11) (ks := [11]) Z Z hNs z33.2 (List.mem_map_of_mem (List.mem_of_getElem? hz33))) (sn_ok hSn _ (List.mem_map_of_mem (List.mem_of_getElem? hz33))).1 (by have := (sn_ok hSn _ (List.mem_map_of_mem (List.mem_of_getElem? hz33))).2; omega)) ?_
    rintro _ w37 ⟨_, _, rfl, H37', ⟨F37, rfl, hO37⟩⟩
    have H := H.readersL H37'
    obtain ⟨e237, hP37⟩ := hO37
    obtain ⟨sa37, sc37, rfl⟩ := OwnS.shape hP37
    have hO37 := OIs.mk hP37
    refine ⟨_, Z, ?_⟩
    refine R_nil (N_DK (Kn.of' H hd36 (SubL.cons 1 Z (SubL.cons 5 Z (SubL.cons 7 Z (SubL.cons 8 Z SubL.nil))))) (RD_t 7 Z kR Z (fun _ hK => v_build bf46 Z Z) ?_))
    refine RD_run [8] kR Z (RDs.cons Z ?_ RDs.nil)
    refine o_buildSlice H underlying25 sizeOf46 (fun w => ⟨_, zeroValue46 w, Z⟩) Z Z Z Z Z Z Z ?_; intro b38 w38 hb38 H
    refine R_nil (N_DK (Kn.of' H hd36 (SubL.cons 2 Z (SubL.cons 6 Z (SubL.cons 8 Z (SubL.cons 9 Z SubL.nil))))) ?_)
    refine RD_run [9] kR Z (RDs.cons Z ?_ RDs.nil)
    refine o_append1 3 H (sz := 2) (bytes := 40) underlying25 typeInfo46 ⟨_, Z, Z⟩ Z Z Z Z Z Z Z Z Z Z oM Z ?_; intro v39 w39 H
    have hchk39 := hchk31_0.snoc (show snapO F37 ⟨z33.1, z33.2.flat []⟩ _ from ⟨_, _, _, rfl, hi33, hO37⟩) rfl
    have H := H.toFront (k := 2) rfl
    have H := H.mergeF
    obtain ⟨av39, cv39, rfl⟩ := H.accShape (k := 2) rfl
    refine R_nil (N_DK (Kn.of' H hd36 (SubL.cons 1 Z (SubL.cons 4 Z (SubL.cons 6 Z (SubL.cons 7 Z SubL.nil))))) (RD_t 10 Z kR Z (fun _ hK => v_fieldAddr 2 runUnderlying27 Z sizeOf25 Z Z) ?_))
    refine RD_run [11] kR Z (RDs.cons Z ?_ RDs.nil)
    refine o_store_B 4 H sizeOf25 Z Z Z Z Z Z Z Z ?_; intro w40 H
    refine R_nil (N_DKlast kR kR (N_B (N_K (W_region (o_add Z Z Z oO (mV Z (R_nil ?_)))))))
    have H := H.del (k := 1) rfl
    refine N_lp (hJ := ⟨_, _, _, (xs ++ [⟨z33.1, z33.2.flat []⟩]), (F ++ F37), k + 1, _, Z, hle31, H, ?inv, Z⟩) (hm := ?hm)
    case hm => omega
    case inv => exact ⟨hchk39, aN, (by exact ⟨by omega, by (rw [Sp.take_succ' hz33, List.map_append, ← hxs]; rfl)⟩)⟩
   intro hc32'
   try simp only [nrm] at hc32'
   refine W_exit (N_K_exit (N_LP_exit (N_B_same (N_K (q2 (o_loadagg_B 3 H isAgg27 sizeOf27 Z Z Z Z Z (o_store_B 5 H sizeOf27 Z Z Z Z Z Z Z Z ?_))))))); intro w42 H
   refine q3 (W_ret (ret_unlock 6 H muLib Z call73 Z Z (rs := [.cell 2 27]) results71 ?_)); intro wu5 H
   refine ⟨[_], ⟨⟨_, Z, load_blk 5 H isAgg27 sizeOf27 Z Z Z⟩, trivial⟩, ?_⟩
   have H := H.toFront (k := 1) rfl
   obtain ⟨Fo6, H, hOw6⟩ := H.ownF hchk31_0 aN aN
   have H := H.del (k := 2) rfl
   have H := H.del (k := 3) rfl
   have H := H.del (k := 3) rfl
   have H := H.del (k := 3) rfl
   have H := H.del (k := 3) rfl
   have H := H.del (k := 3) rfl
   have H := H.del (k := 3) rfl
   have H := H.toFront (k := 1) rfl
   have H := H.toFront (k := 2) rfl
   have hxs2 : xs = d.snaps := by (rw [hxs, List.take_of_length_le oM]; exact sn_list hSn)
   exact H.retM ⟨_, _, _, _, _, _, rfl, rfl, hO4, (by (rw [← hT.flat]); exact hO25), (by have h9 := (show OSn _ _ _ from ⟨_, hOw6⟩); (rw [hxs2] at h9); exact h9)⟩
 skip
 refine o_alloc H zeroValue27 Z Z ?_; intro b43 w43 hb43 H
 refine R_nil (N_DK (Kn.of' H hd3 (SubL.cons 1 Z (SubL.cons 2 Z SubL.nil))) ?_)
 refine RD_run [5] kR Z (RDs.cons Z ?_ RDs.nil)
 refine o_call call30 Z Z (i_slist_c _ _ (H.lendSubL [3]) _ _ _ _ _ (H.lendPredL (k := 3) (ks := [3]) Z Z) hm (hS.up (PPlus.le _ _ _)) hVd ) ?_
 rintro _ w44 ⟨_, _, rfl, H44', ⟨F44, rfl, hO44⟩⟩
 have H := H.readersL H44'
 obtain ⟨e244, hP44⟩ := hO44
 obtain ⟨sa44, sc44, rfl⟩ := OwnS.shape hP44
 have hO44 := OHs.mk hP44
 refine ⟨_, Z, ?_⟩
 refine R_nil (N_DK (Kn.of' H hd3 (SubL.cons 2 Z (SubL.cons 3 Z SubL.nil))) ?_)
 refine RD_run [11] kR Z (RDs.cons Z ?_ RDs.nil)
 refine o_call call49 Z Z (i_tlist_c _ _ (H.lendSubL [5]) _ ((H.lendN (k := 5) (ks := [5]) Z Z hN).at (show Nd.at_ T [] = some T from Z)) hT.wf oM) ?_
 rintro _ w45 ⟨_, _, rfl, H45', ⟨F45, rfl, hO45⟩⟩
 have H := H.readersL H45'
 obtain ⟨e245, hP45⟩ := hO45
 obtain ⟨sa45, sc45, rfl⟩ := OwnS.shape hP45
 have hO45 := OIs.mk hP45
 refine ⟨_, Z, ?_⟩
 refine R_nil (N_DK (Kn.of' H hd3 (SubL.cons 3 Z (SubL.cons 4 Z SubL.nil))) (RD_t 12 Z kR Z (fun _ hK => v_build bf27 Z Z) ?_))
 refine RD_run [14] kR Z (RDs.cons Z ?_ RDs.nil)
 refine o_store_B 2 H sizeOf27 Z Z Z Z Z Z Z Z ?_; intro w46 H
 refine R_nil (N_DKlast kR kR (N_K (W_seq (q2 (mV Z (o_nilCheck Z Z (o_fieldAddr 4 runUnderlying70 Z sizeOf68 Z Z Z (o_load_B 4 H isAgg68 Z Z Z Z (o_len_slice underlying68 Z Z (mV Z (q3 (W_block ?_))))))))))))
 have H := H.addNil 46 2
 have H := H.addF
 obtain ⟨ln48, hln48, H⟩ := H.nameAt (k := 4) (off := 2) rfl rfl
 obtain ⟨ln49, hln49, H⟩ := H.name (k := 5) rfl
 obtain ⟨ln50, hln50, H⟩ := H.name (k := 6) rfl
 refine W_lp (hf := (Sub.cons (t := 2) Z (Sub.cons (t := 3) Z (Sub.cons (t := 29) Z (Sub.cons (t := 30) Z Sub.nil))))) (J := fun M w m => ∃ (v : Value) (n : Nat) (cs : List Value) (xs : List (BSnap)) (F : Fr) (k : Nat) (G : PH), M = [(31, .int .i64 (k : Int))] ∧ PLe G0 G ∧ Hp w0 G0 (fps [blk db (cl [.int .i32 0, .int .u32 0, .map (some mb), .pointer (some ⟨T.b, 0, none⟩), .slice adv sn.length cdv] 70), blk mb (.map es ck), frag FT, acc 124 2 (.slice adv sn.length cdv) sn.length c, frag FSq]) w G [frag F, acc 46 2 v n cs, frag F45, frag F44, blk b43 (cl (setN ln48 2 v) 27), blk b1 (cl ln49 27), blk db (cl ln50 70), blk mb (.map es ck), frag FT, acc 124 2 (.slice adv sn.length cdv) sn.length c, frag FSq] ∧ (ChkF snapO 2 cs xs F ∧ n = xs.length ∧ k ≤ sn.length ∧ xs = (sn.take k).map (fun x => (⟨x.1, x.2.flat []⟩ : BSnap))) ∧ m = (sn.length - k)) (h0 := ⟨_, _, _, [], [], 0, _, Z, PLe.refl _, H, ?inv, Z⟩) (round := ?round)
 case inv => exact ⟨ChkF.nil,  by first | rfl | simp | (simp; omega) | omega, (by simp)⟩
 case round =>
  rintro _ w51 _ ⟨v, n, cs, xs, F, k, G51, rfl, hle51, H, hinv51, rfl⟩
  subst hln48
  subst hln49
  subst hln50
  have hchk := hchk.up hle51
  have hNs := hNs.up hle51
  obtain ⟨hchk51_0, hn51_0, hinv51⟩ := hinv51
  obtain ⟨av51_0, cv51_0, rfl⟩ := H.accShape (k := 1) rfl
  obtain ⟨hk, hxs⟩ := hinv51; have hxl6 : xs.length ≤ 6 := by (rw [hxs]; simp; omega)
  refine q2 (o_lss Z Z Z (q3 (W_seq ?_)))
  refine W_cond Z ?_ ?_
  ·intro hc52
   try simp only [nrm] at hc52
   refine W_skip (N_K (W_seq (W_block (q2 (o_index_A 9 H k Z hchk underlying68 sizeOf124 Z Z Z Z aN aN ?_))))); intro ba53 z53 q53 hba53 hz53 hE53 hg53; cases hba53
   obtain ⟨rfl, hi53⟩ := hE53; have hy_hi53 : _ ≤ 16777216 := hi53
   refine o_loadagg_A 9 H isAgg124 sizeOf124 Z Z Z hg53 Z (o_alloc H zeroValue124 Z Z ?_); intro b54 w54 hb54 H
   refine o_store_B 0 H sizeOf124 Z Z Z Z Z Z Z Z ?_; intro w55 H
   refine q3 (W_drawK [0, 5, 6, 7] 12 H kR Z ?_); intro w56 H; have hd56 := PLe.refl G51
   refine RD_t 0 Z kR Z (fun _ hK => v_fieldAddr 2 runUnderlying27 Z sizeOf25 Z Z) (RD_t 1 Z kR Z (fun _ hK => v_load_B 1 hK isAgg25 Z Z Z) (RD_t 2 Z kR Z (fun _ hK => v_fieldAddr 0 runUnderlying124 Z sizeOf9 Z Z) (RD_t 3 Z kR Z (fun _ hK => v_load_B 0 hK isAgg9 Z Z Z) (RD_t 4 Z kR Z (fun _ hK => v_fieldAddr 1 runUnderlying124 Z sizeOf65 Z Z) (RD_t 5 Z kR Z (fun _ hK => v_load_B 0 hK isAgg65 Z Z Z) ?_)))))
   refine RD_run [6] kR Z (RDs.cons Z ?_ RDs.nil)
   refine o_call call49 Z Z (i_tlist_c _ _ (H.lendSubL [11]) _ (H.lendNs (k := 11) (ks := [11]) Z Z hNs z53.2 (List.mem_map_of_mem (List.mem_of_getElem? hz53))) (sn_ok hSn _ (List.mem_map_of_mem (List.mem_of_getElem? hz53))).1 (by have := (sn_ok hSn _ (List.mem_map_of_mem (List.mem_of_getElem? hz53))).2; omega)) ?_
   rintro _ w57 ⟨_, _, rfl, H57', ⟨F57, rfl, hO57⟩⟩
   have H := H.readersL H57'
   obtain ⟨e257, hP57⟩ := hO57
   obtain ⟨sa57, sc57, rfl⟩ := OwnS.shape hP57
   have hO57 := OIs.mk hP57
   refine ⟨_, Z, ?_⟩
   refine R_nil (N_DK (Kn.of' H hd56 (SubL.cons 1 Z (SubL.cons 6 Z (SubL.cons 7 Z (SubL.cons 8 Z SubL.nil))))) (RD_t 7 Z kR Z (fun _ hK => v_build bf46 Z Z) ?_))
   refine RD_run [8] kR Z (RDs.cons Z ?_ RDs.nil)
   refine o_buildSlice H underlying25 sizeOf46 (fun w => ⟨_, zeroValue46 w, Z⟩) Z Z Z Z Z Z Z ?_; intro b58 w58 hb58 H
   refine R_nil (N_DK (Kn.of' H hd56 (SubL.cons 2 Z (SubL.cons 7 Z (SubL.cons 8 Z (SubL.cons 9 Z SubL.nil))))) ?_)
   refine RD_run [9] kR Z (RDs.cons Z ?_ RDs.nil)
   refine o_append1 3 H (sz := 2) (bytes := 40) underlying25 typeInfo46 ⟨_, Z, Z⟩ Z Z Z Z Z Z Z Z Z Z oM Z ?_; intro v59 w59 H
   have hchk59 := hchk51_0.snoc (show snapO F57 ⟨z53.1, z53.2.flat []⟩ _ from ⟨_, _, _, rfl, hi53, hO57⟩) rfl
   have H := H.toFront (k := 2) rfl
   have H := H.mergeF
   obtain ⟨av59, cv59, rfl⟩ := H.accShape (k := 2) rfl
   refine R_nil (N_DK (Kn.of' H hd56 (SubL.cons 1 Z (SubL.cons 5 Z (SubL.cons 6 Z (SubL.cons 7 Z SubL.nil))))) (RD_t 10 Z kR Z (fun _ hK => v_fieldAddr 2 runUnderlying27 Z sizeOf25 Z Z) ?_))
   refine RD_run [11] kR Z (RDs.cons Z ?_ RDs.nil)
   refine o_store_B 5 H sizeOf25 Z Z Z Z Z Z Z Z ?_; intro w60 H
   refine R_nil (N_DKlast kR kR (N_B (N_K (W_region (o_add Z Z Z oO (mV Z (R_nil ?_)))))))
   have H := H.del (k := 1) rfl
   refine N_lp (hJ := ⟨_, _, _, (xs ++ [⟨z53.1, z53.2.flat []⟩]), (F ++ F57), k + 1, _, Z, hle51, H, ?inv, Z⟩) (hm := ?hm)
   case hm => omega
   case inv => exact ⟨hchk59, aN, (by exact ⟨by omega, by (rw [Sp.take_succ' hz53, List.map_append, ← hxs]; rfl)⟩)⟩
  intro hc52'
  try simp only [nrm] at hc52'
  refine W_exit (N_K_exit (N_LP_exit (N_B_same (N_K (q2 (o_loadagg_B 4 H isAgg27 sizeOf27 Z Z Z Z Z (o_store_B 5 H sizeOf27 Z Z Z Z Z Z Z Z ?_))))))); intro w62 H
  refine q3 (W_ret (ret_unlock 6 H muLib Z call73 Z Z (rs := [.cell 2 27]) results71 ?_)); intro wu8 H
  refine ⟨[_], ⟨⟨_, Z, load_blk 5 H isAgg27 sizeOf27 Z Z Z⟩, trivial⟩, ?_⟩
  have H := H.toFront (k := 1) rfl
  obtain ⟨Fo9, H, hOw9⟩ := H.ownF hchk51_0 aN aN
  have H := H.del (k := 3) rfl
  have H := H.del (k := 3) rfl
  have H := H.del (k := 3) rfl
  have H := H.del (k := 3) rfl
  have H := H.del (k := 3) rfl
  have H := H.del (k := 3) rfl
  have H := H.del (k := 3) rfl
  have H := H.toFront (k := 1) rfl
  have H := H.toFront (k := 2) rfl
  have hxs2 : xs = d.snaps := by (rw [hxs, List.take_of_length_le oM]; exact sn_list hSn)
  exact H.retM ⟨_, _, _, _, _, _, rfl, rfl, hO44, (by (rw [← hT.flat]); exact hO45), (by have h9 := (show OSn _ _ _ from ⟨_, hOw9⟩); (rw [hxs2] at h9); exact h9)⟩
end Go.Proofs.Tst

namespace Go.Proofs.Tst
open Go Fw Tryz
theorem i_clone_r : ∀ (N : Nat) (w0 : World) (G0 : PH) (hG : PSub G0 w0) (t : Nd) (hndt : RdN G0 t) (hct : t.cnt ≤ 1000) (hsz : t.size ≤ N),
  Calls Tryz.prog 76 #[.pointer (some ⟨t.b, 0, none⟩)] w0 (RetN w0 G0 (fun v Bs => ∃ (F : Fr) (T : Nd), v = .pointer (some ⟨T.b, 0, none⟩) ∧ Bs = [frag F] ∧ NdC 167 65 T F ∧ T.strip = t.strip)) := by
 intro N
 induction N with
 | zero => intro w0 G0 hG t hndt hct hsz; exact absurd (Nd.size_pos t) oM
 | succ N ih =>
 intro w0 G0 hG t hndt hct hsz
 obtain ⟨hnlt, nat, nmt, nct, nAt, nMt, nCt, hprt, hrit, hrkt⟩ := hndt.open
 have hn_hrit := hrit.len; have hx_hrit : _ ≤ 1099511627776 := hrit.lim
 have hn_hrkt := hrkt.len; have hx_hrkt : _ ≤ 1099511627776 := hrkt.lim
 have H := Hp.init hG
 refine calls_of_W (l := [.pointer (some ⟨t.b, 0, none⟩)]) func76 Z ntmps76 Z (q2 (aG Z (q3 (W_seq (W_drawK [] 16 H kR Z ?_))))); intro w1 H; have hd1 := PLe.refl G0
 refine vM 0 Z Z (RD_t 1 Z kR Z (fun _ hK => v_nilCheck Z) (RD_t 2 Z kR Z (fun _ hK => v_fieldAddr 0 runUnderlying167 Z sizeOf9 Z Z) (RD_t 3 Z kR Z (fun _ hK => v_load_P hK isAgg9 Z (hprt 0 _ Z)) (vM 4 Z Z (RD_t 5 Z kR Z (fun _ hK => v_nilCheck Z) (RD_t 6 Z kR Z (fun _ hK => v_fieldAddr 1 runUnderlying167 Z sizeOf4 Z Z) (RD_t 7 Z kR Z (fun _ hK => v_load_P hK isAgg4 Z (hprt 1 _ Z)) (vM 8 Z Z (RD_t 9 Z kR Z (fun _ hK => v_nilCheck Z) (RD_t 10 Z kR Z (fun _ hK => v_fieldAddr 2 runUnderlying167 Z sizeOf38 Z Z) (RD_t 11 Z kR Z (fun _ hK => v_load_P hK isAgg38 Z (hprt 2 _ Z)) ?_)))))))))))
 refine RD_run [12] kR Z (RDs.cons Z ?_ RDs.nil)
 refine o_call call68 Z Z (l_Clone_c _ _ H.sub _ _ hrit ) ?_
 rintro _ w2 ⟨G2, v2, _, g2, rfl, ⟨cs2, rfl, hchk2⟩, hp2, hq2, hs2⟩
 have H := H.growO g2 hp2 hq2 hs2; obtain ⟨av2, cv2, rfl⟩ := H.accShape (k := 0) rfl
 have hprt := hprt.up g2.le
 have hrkt := hrkt.up g2.le
 have hd1 := hd1.trans g2.le
 refine ⟨_, Z, ?_⟩
 refine R_nil (N_DK (Kn.of' H hd1 SubL.nil) (RD_t 13 Z kR Z (fun _ hK => v_build bf167 Z Z) ?_))
 refine RD_run [14] kR Z (RDs.cons Z ?_ RDs.nil)
 refine o_box H Z Z Z ?_; intro b3 w3 hb3 H
 refine R_nil (N_DK (Kn.of' H hd1 SubL.nil) (RD_t 15 Z kR Z (fun _ hK => v_assign Z) (RD_done kR (N_K (W_seq (q2 (mV Z (o_nilCheck Z Z (o_fieldAddr 3 runUnderlying167 Z sizeOf140 Z Z Z (o_load_P H isAgg140 Z Z (hprt 3 _ Z) (o_len_slice underlying140 Z Z (mV Z (q3 (W_block ?_))))))))))))))
 obtain ⟨Fi1, H, hOI1⟩ := H.ownI (k := 1) rfl hchk2 aN aN
 have hOIc := hOI1
 have H := H.addF
 have H := H.addNil 65 1
 obtain ⟨ln5, hln5, H⟩ := H.nameAt (k := 3) (off := 3) rfl rfl
 refine W_lp (hf := (Sub.cons (t := 2) Z (Sub.cons (t := 3) Z (Sub.cons (t := 24) Z (Sub.cons (t := 25) Z Sub.nil))))) (J := fun M w m => ∃ (v : Value) (n : Nat) (cs : List Value) (xs : List (Nd)) (k : Nat) (FK : Fr) (G : PH), M = [(26, .int .i64 (k : Int))] ∧ PLe G2 G ∧ Hp w0 G0 [] w G [acc 65 1 v n cs, frag FK, frag Fi1, blk b3 (cl (setN ln5 3 v) 167)] ∧ (Chk kdE 1 G cs xs ∧ n = xs.length ∧ k ≤ t.kids.length ∧ NdsC 167 65 xs FK ∧ xs.map Nd.strip = (t.kids.take k).map Nd.strip) ∧ m = (t.kids.length - k)) (h0 := ⟨_, _, _, [], 0, [], _, Z, PLe.refl _, H, ?inv, Z⟩) (round := ?round)
 case inv => exact ⟨(Chk.nil (E := kdE) (sz := 1) (G := G2)),  by first | rfl | simp | (simp; omega) | omega, (by simp [NdsC])⟩
 case round =>
  rintro _ w6 _ ⟨v, n, cs, xs, k, FK, G6, rfl, hle6, H, hinv6, rfl⟩
  subst hln5
  have hrkt := hrkt.up hle6
  obtain ⟨hchk6_0, hn6_0, hinv6⟩ := hinv6
  obtain ⟨av6_0, cv6_0, rfl⟩ := H.accShape (k := 0) rfl
  obtain ⟨hk, hKs, hst0⟩ := hinv6; have hxl0 := congrArg List.length hst0; simp at hxl0; have hkl0 := Nd.kids_le t
  refine q2 (o_lss Z Z Z (q3 (W_seq ?_)))
  refine W_cond Z ?_ ?_
  ·intro hc7
   try simp only [nrm] at hc7
   refine W_skip (N_K (W_seq (W_block (q2 (o_index_P k hrkt underlying140 sizeOf65 Z Z Z Z aN ?_))))); intro b8 o8 z8 q8 hz8 hE8 hrow8
   obtain ⟨rfl, hnd8⟩ := hE8; obtain ⟨hnl8, na8, nm8, nc8, nA8, nM8, nC8, hpr8, hri8, hrk8⟩ := hnd8.open; have hn_hri8 := hri8.len; have hx_hri8 : _ ≤ 1099511627776 := hri8.lim; have hn_hrk8 := hrk8.len; have hx_hrk8 : _ ≤ 1099511627776 := hrk8.lim
   have hzm := List.mem_of_getElem? hz8; have hzc := Nd.kid_cnt hzm; have hzs := Nd.size_kid hzm
   refine o_load_P H isAgg65 Z Z (hrow8 0 _ Z) (aG Z (q3 (W_drawK [] 12 H kR Z ?_))); intro w9 H; have hd9 := PLe.refl G6
   refine vM 0 Z Z (vM 1 Z Z (RD_t 2 Z kR Z (fun _ hK => v_nilCheck Z) (RD_t 3 Z kR Z (fun _ hK => v_fieldAddr 3 runUnderlying167 Z sizeOf140 Z Z) (vM 5 Z Z ?_))))
   refine RD_run [4, 6] kR Z (RDs.cons Z ?_ (RDs.cons Z ?_ RDs.nil))
   ·skip
    refine o_load_B 3 H isAgg140 Z Z Z Z (R_nil (N_DK (Kn.of' H hd9 SubL.nil) ?_))
    refine RD_run [6] kR Z (RDs.cons Z ?_ RDs.nil)
    refine o_call call76 Z Z (ih _ _ H.sub _ hnd8 oM oM) ?_
    rintro _ w10 ⟨_, _, rfl, H10', ⟨F10, T10, rfl, rfl, hNC10, hst10⟩⟩
    have H := H.readers (fp := []) (by simp) (PLe.refl _) H10'
    refine ⟨_, Z, ?_⟩
    refine R_nil (N_DK (Kn.of' H hd9 SubL.nil) ?_)
    refine RD_run [7] kR Z (RDs.cons Z ?_ RDs.nil)
    refine o_buildSlice H underlying140 sizeOf65 (fun w => ⟨_, zeroValue65 w, Z⟩) Z Z Z Z Z Z Z ?_; intro b11 w11 hb11 H
    refine R_nil (N_DK (Kn.of' H hd9 SubL.nil) ?_)
    refine RD_run [8] kR Z (RDs.cons Z ?_ RDs.nil)
    refine o_append1 1 H (sz := 1) (bytes := 8) underlying140 typeInfo65 ⟨_, Z, Z⟩ Z Z Z Z Z Z Z Z Z Z oM Z ?_; intro v12 w12 H
    have hchk12 := hchk6_0.snoc (show kdE _ T10 _ from rfl) rfl
    obtain ⟨av12, cv12, rfl⟩ := H.accShape (k := 1) rfl
    refine R_nil (N_DK (Kn.of' H hd9 SubL.nil) (RD_t 9 Z kR Z (fun _ hK => v_nilCheck Z) (RD_t 10 Z kR Z (fun _ hK => v_fieldAddr 3 runUnderlying167 Z sizeOf140 Z Z) ?_)))
    refine RD_run [11] kR Z (RDs.cons Z ?_ RDs.nil)
    have H := H.toFront (k := 2) rfl
    have H := H.mergeF
    refine o_store_B 3 H sizeOf140 Z Z Z Z Z Z Z Z ?_; intro w13 H
    refine R_nil (N_DK (Kn.of' H hd9 SubL.nil) (RD_done kR (N_B (N_K (W_region (o_add Z Z Z oO (mV Z (R_nil ?_))))))))
    have H := H.toFront (k := 3) rfl
    have H := H.toFront (k := 3) rfl
    have H := H.toFront (k := 2) rfl
    have H := H.toFront (k := 3) rfl
    refine N_lp (hJ := ⟨_, _, _, (xs ++ [T10]), k + 1, (FK ++ F10), _, Z, hle6, H, ?inv, Z⟩) (hm := ?hm)
    case hm => omega
    case inv => exact ⟨hchk12, aN, (by exact ⟨by omega, hKs.snoc hNC10, Nd.strip_take hz8 hst0 hst10⟩)⟩
   skip
   refine o_call call76 Z Z (ih _ _ H.sub _ hnd8 oM oM) ?_
   rintro _ w15 ⟨_, _, rfl, H15', ⟨F15, T15, rfl, rfl, hNC15, hst15⟩⟩
   have H := H.readers (fp := []) (by simp) (PLe.refl _) H15'
   refine ⟨_, Z, ?_⟩
   refine R_nil (N_DK (Kn.of' H hd9 SubL.nil) ?_)
   refine RD_run [4, 7] kR Z (RDs.cons Z ?_ (RDs.cons Z ?_ RDs.nil))
   ·skip
    refine o_load_B 4 H isAgg140 Z Z Z Z (R_nil (N_DK (Kn.of' H hd9 SubL.nil) ?_))
    refine RD_run [7] kR Z (RDs.cons Z ?_ RDs.nil)
    refine o_buildSlice H underlying140 sizeOf65 (fun w => ⟨_, zeroValue65 w, Z⟩) Z Z Z Z Z Z Z ?_; intro b16 w16 hb16 H
    refine R_nil (N_DK (Kn.of' H hd9 SubL.nil) ?_)
    refine RD_run [8] kR Z (RDs.cons Z ?_ RDs.nil)
    refine o_append1 1 H (sz := 1) (bytes := 8) underlying140 typeInfo65 ⟨_, Z, Z⟩ Z Z Z Z Z Z Z Z Z Z oM Z ?_; intro v17 w17 H
    have hchk17 := hchk6_0.snoc (show kdE _ T15 _ from rfl) rfl
    obtain ⟨av17, cv17, rfl⟩ := H.accShape (k := 1) rfl
    refine R_nil (N_DK (Kn.of' H hd9 SubL.nil) (RD_t 9 Z kR Z (fun _ hK => v_nilCheck Z) (RD_t 10 Z kR Z (fun _ hK => v_fieldAddr 3 runUnderlying167 Z sizeOf140 Z Z) ?_)))
    refine RD_run [11] kR Z (RDs.cons Z ?_ RDs.nil)
    have H := H.toFront (k := 2) rfl
    have H := H.mergeF
    refine o_store_B 3 H sizeOf140 Z Z Z Z Z Z Z Z ?_; intro w18 H
    refine R_nil (N_DK (Kn.of' H hd9 SubL.nil) (RD_done kR (N_B (N_K (W_region (o_add Z Z Z oO (mV Z (R_nil ?_))))))))
    have H := H.toFront (k := 3) rfl
    have H := H.toFront (k := 3) rfl
    have H := H.toFront (k := 2) rfl
    have H := H.toFront (k := 3) rfl
    refine N_lp (hJ := ⟨_, _, _, (xs ++ [T15]), k + 1, (FK ++ F15), _, Z, hle6, H, ?inv, Z⟩) (hm := ?hm)
    case hm => omega
    case inv => exact ⟨hchk17, aN, (by exact ⟨by omega, hKs.snoc hNC15, Nd.strip_take hz8 hst0 hst15⟩)⟩
   skip
   refine o_buildSlice H underlying140 sizeOf65 (fun w => ⟨_, zeroValue65 w, Z⟩) Z Z Z Z Z Z Z ?_; intro b20 w20 hb20 H
   refine R_nil (N_DK (Kn.of' H hd9 SubL.nil) ?_)
   refine RD_run [4] kR Z (RDs.cons Z ?_ RDs.nil)
   refine o_load_B 5 H isAgg140 Z Z Z Z (R_nil (N_DK (Kn.of' H hd9 SubL.nil) ?_))
   refine RD_run [8] kR Z (RDs.cons Z ?_ RDs.nil)
   refine o_append1 1 H (sz := 1) (bytes := 8) underlying140 typeInfo65 ⟨_, Z, Z⟩ Z Z Z Z Z Z Z Z Z Z oM Z ?_; intro v21 w21 H
   have hchk21 := hchk6_0.snoc (show kdE _ T15 _ from rfl) rfl
   obtain ⟨av21, cv21, rfl⟩ := H.accShape (k := 1) rfl
   refine R_nil (N_DK (Kn.of' H hd9 SubL.nil) (RD_t 9 Z kR Z (fun _ hK => v_nilCheck Z) (RD_t 10 Z kR Z (fun _ hK => v_fieldAddr 3 runUnderlying167 Z sizeOf140 Z Z) ?_)))
   refine RD_run [11] kR Z (RDs.cons Z ?_ RDs.nil)
   have H := H.toFront (k := 2) rfl
   have H := H.mergeF
   refine o_store_B 3 H sizeOf140 Z Z Z Z Z Z Z Z ?_; intro w22 H
   refine R_nil (N_DK (Kn.of' H hd9 SubL.nil) (RD_done kR (N_B (N_K (W_region (o_add Z Z Z oO (mV Z (R_nil ?_))))))))
   have H := H.toFront (k := 3) rfl
   have H := H.toFront (k := 3) rfl
   have H := H.toFront (k := 2) rfl
   have H := H.toFront (k := 3) rfl
   refine N_lp (hJ := ⟨_, _, _, (xs ++ [T15]), k + 1, (FK ++ F15), _, Z, hle6, H, ?inv, Z⟩) (hm := ?hm)
   case hm => omega
   case inv => exact ⟨hchk21, aN, (by exact ⟨by omega, hKs.snoc hNC15, Nd.strip_take hz8 hst0 hst15⟩)⟩
  intro hc7'
  try simp only [nrm] at hc7'
  refine W_exit (N_K_exit (N_LP_exit (N_B_same (N_K (q2 (mV Z (aG Z (q3 (W_ret (rt1 results76 Z ?_))))))))))
  have H := H.toFront (k := 2) rfl
  have H := H.toFront (k := 3) rfl
  have H := H.toFront (k := 3) rfl
  have H := H.toFront (k := 3) rfl
  have hst : xs.map Nd.strip = t.kids.map Nd.strip := by (have h9 := hst0; rw [List.take_of_length_le oM] at h9; exact h9)
  have hxl := Nd.strip_len hst; have hkl := Nd.kids_le t
  obtain rfl : n = xs.length := by assumption
  obtain ⟨FT, H, hNC⟩ := Hp.makeC (ks := xs) (by (have hcc := hchk6_0.kd; rw [hcc] at H; exact H)) hnlt oM hOIc hKs
  have H := H.forget hG (by simp)
  exact ⟨_, _, Z, H, FT, _, Z, Z, hNC, Nd.strip_mk hst⟩
theorem i_clone_c (w0 : World) (G0 : PH) (hG : PSub G0 w0) (t : Nd) (hndt : RdN G0 t) (hct : t.cnt ≤ 1000) :
  Calls Tryz.prog 76 #[.pointer (some ⟨t.b, 0, none⟩)] w0 (RetN w0 G0 (fun v Bs => ∃ (F : Fr) (T : Nd), v = .pointer (some ⟨T.b, 0, none⟩) ∧ Bs = [frag F] ∧ NdC 167 65 T F ∧ T.strip = t.strip)) := i_clone_r _ w0 G0 hG t hndt hct (Nat.le_refl _)
end Go.Proofs.Tst

namespace Go.Proofs.Tst
open Go Fw Tryz
theorem i_freeTree_c (w0 : World) (G0 : PH) (hG : PSub G0 w0) (mbs : Nat) (ess : Array MapEntry) (cks : Nat) (xss : List (Int × Value)) (Ls : List BHeld) (hms : MapIs (Value.int .i64) ess cks xss) (hSs : StR G0 xss Ls) (hVs : Sp.VH Ls) (Ft : Fr) (t : Nd) (hNt : NdO 167 65 G0 t Ft) (hLent : Lent w0 G0 [blk mbs (.map ess cks), frag Ft]) (hwt : t.wf) (hct : t.cnt ≤ 1000) :
  Calls Tryz.prog 86 #[.map (some mbs), .pointer (some ⟨t.b, 0, none⟩)] w0 (RetM w0 G0 (fps [blk mbs (.map ess cks), frag Ft]) (fun G' v Bs => ∃ (es' : Array MapEntry) (ck' : Nat) (xs' : List (Int × Value)) (L' : List BHeld), v = .bool (Sp.freeTs Ls (t.flat [])).isSome ∧ Bs = [blk mbs (.map es' ck'), frag Ft] ∧ MapIs (Value.int .i64) es' ck' xs' ∧ StR G' xs' L' ∧ Sp.VH L' ∧ ∀ l, Sp.freeTs Ls (t.flat []) = some l → L' = l)) := by
 have hfl := Nd.flat_len [] t
 have H : Hp w0 G0 (fps [blk mbs (.map ess cks), frag Ft]) w0 G0 [blk mbs (.map ess cks), frag Ft] := hLent.hp
 refine calls_of_W (l := [.map (some mbs), .pointer (some ⟨t.b, 0, none⟩)]) func86 Z ntmps86 Z (q2 (aG Z (q3 (W_seq (q2 (mV Z (o_call call49 Z Z (i_tlist_c _ _ (H.lendSubL [1]) _ ((H.lendN (k := 1) (ks := [1]) Z Z hNt).at (show Nd.at_ t [] = some t from Z)) hwt hct) ?_)))))))
 rintro _ w1 ⟨_, _, rfl, H1', ⟨F1, rfl, hO1⟩⟩
 have H := H.readersL H1'
 obtain ⟨e21, hP1⟩ := hO1
 obtain ⟨sa1, sc1, rfl⟩ := OwnS.shape hP1
 have hO1 := OIs.mk hP1
 refine ⟨_, Z, ?_⟩
 have hdm1 := dm_nodup H (k := 0) rfl; obtain ⟨Gk1, H, hkl1, hks1⟩ := H.keepF (k := 0) rfl (H.apart (k := 0) (ks := [1, 2]) rfl rfl (by intro b hb; simp only [fps, List.flatMap_cons, List.flatMap_nil, List.append_nil, List.mem_append] at hb; rcases hb with h | h; (· exact fpsAt_mem (k := 1) rfl rfl b (by exact h)); (· exact fpsAt_mem (k := 2) rfl rfl b (by exact h))))
 have hrk1 := hO1.rd hks1 hdm1
 have hSs := hSs.up hkl1
 have hn_hrk1 := hrk1.len
 refine o_len_slice underlying24 Z Z (mV Z (q3 (W_block ?_)))
 refine W_lp (hf := (Sub.cons (t := 0) Z (Sub.cons (t := 8) Z (Sub.cons (t := 9) Z Sub.nil)))) (J := fun M w m => ∃ (esm0 : Array MapEntry) (ckm0 : Nat) (xsm0 : List (Int × Value)) (Lm0 : List BHeld) (k : Nat) (G : PH), M = [(10, .int .i64 (k : Int))] ∧ PLe Gk1 G ∧ Hp w0 G0 (fps [blk mbs (.map ess cks), frag Ft]) w G [blk mbs (.map esm0 ckm0), frag Ft] ∧ (MapIs (Value.int .i64) esm0 ckm0 xsm0 ∧ StR G xsm0 Lm0 ∧ Sp.VH Lm0 ∧ k ≤ (t.flat []).length ∧ Sp.foldB Sp.freeF ((t.flat []).take k) (some Ls) = some Lm0) ∧ m = ((t.flat []).length - k)) (h0 := ⟨_, _, xss, Ls, 0, _, Z, PLe.refl _, H, ?inv, Z⟩) (round := ?round)
 case inv => exact ⟨hms, hSs, hVs, (by simp [Sp.foldB])⟩
 case round =>
  rintro _ w2 _ ⟨esm0, ckm0, xsm0, Lm0, k, G2, rfl, hle2, H, hinv2, rfl⟩
  have hrk1 := hrk1.up hle2
  obtain ⟨hm2_m0, hS2_m0, hV2_m0, hinv2⟩ := hinv2
  obtain ⟨hk, hf⟩ := hinv2
  refine q2 (o_lss Z Z Z (q3 (W_seq ?_)))
  refine W_cond Z ?_ ?_
  ·intro hc3
   try simp only [nrm] at hc3
   refine W_skip (N_K (W_seq (W_block (q2 (o_index_P k hrk1 underlying24 sizeOf40 Z Z Z Z aN ?_))))); intro b4 o4 z4 q4 hz4 hE4 hrow4
   obtain ⟨a4, m4, c4, rfl, hi4, hr4⟩ := hE4; have hy_hi4 : _ ≤ 16777216 := hi4; have hn_hr4 := hr4.len; have hx_hr4 : _ ≤ 1099511627776 := hr4.lim
   refine o_loadagg_P H isAgg40 sizeOf40 Z Z hrow4 Z (o_alloc H zeroValue40 Z Z ?_); intro b5 w5 hb5 H
   refine o_store_B 0 H sizeOf40 Z Z Z Z Z Z Z Z ?_; intro w6 H
   refine q1 (mV Z (o_fieldAddr 2 runUnderlying40 Z sizeOf38 Z Z Z (o_load_B 0 H isAgg38 Z Z Z Z ?_)))
   have H := H.toFront (k := 1) rfl
   refine o_call call115 Z Z (i_freeFile_c _ _ H.sub _ _ _ _ _ hm2_m0 hS2_m0 hV2_m0 _ _ hr4 H.lent1 ) ?_
   rintro _ w7 ⟨G7, _, _, rfl, H7', ⟨es7, ck7, xs7, L7, rfl, rfl, hm7, hS7, hV7, hL7⟩⟩
   have hle2 := hle2.trans H7'.le
   have H := H.borrow1 H7'
   refine ⟨_, Z, ?_⟩
   refine o_not Z Z (q3 ?_)
   refine W_cond Z ?_ ?_
   ·intro hc8
    try simp only [nrm] at hc8
    refine q2 (aG Z (q3 (W_ret (N_B_ret (N_K_ret (N_LP_ret (N_B_ret (N_K_ret (rt1 results86 Z ?_)))))))))
    have H := H.del (k := 1) rfl
    have H := H.toFront (k := 1) rfl
    have H := H.toFront (k := 1) rfl
    have hno : Sp.freeTs Ls (t.flat []) = none := by (have hno : Sp.freeF Lm0 z4 = none := (show Sp.FileFree Lm0 z4.ids = none by simpa using hc8)); exact Sp.foldB_stop hf hz4 hno
    exact H.retM ⟨_, _, _, _, congrArg Value.bool (by rw [hno]; rfl), rfl, hm7, hS7, hV7, fun l hl => by rw [hno] at hl; cases hl⟩
   intro hc8'
   try simp only [nrm] at hc8'
   obtain ⟨p, hsp⟩ := Option.isSome_iff_exists.1 (show (Sp.FileFree Lm0 z4.ids).isSome = true by simpa using hc8')
   have hLp := hL7 p hsp; subst hLp
   have hsp : Sp.freeF Lm0 z4 = some L7 := hsp
   refine W_skip (N_B (N_K (W_region (o_add Z Z Z oO (mV Z (R_nil ?_))))))
   have H := H.del (k := 1) rfl
   refine N_lp (hJ := ⟨_, _, xs7, L7, k + 1, _, Z, hle2, H, ?inv, Z⟩) (hm := ?hm)
   case hm => omega
   case inv => exact ⟨hm7, hS7, hV7, (by exact ⟨by omega, Sp.foldB_succ hf hz4 hsp⟩)⟩
  intro hc3'
  try simp only [nrm] at hc3'
  refine W_exit (N_K_exit (N_LP_exit (N_B_same (N_K (q2 (aG Z (q3 (W_ret (rt1 results86 Z ?_)))))))))
  have H := H.toFront (k := 1) rfl
  have H := H.toFront (k := 1) rfl
  have hyes : Sp.freeTs Ls (t.flat []) = some Lm0 := Sp.foldB_all hf oM
  exact H.retM ⟨_, _, _, _, congrArg Value.bool (by rw [hyes]; rfl), rfl, hm2_m0, hS2_m0, hV2_m0, fun l hl => by rw [hyes] at hl; cases hl; rfl⟩
end Go.Proofs.Tst

namespace Go.Proofs.Tst
open Go Fw Tryz
end Go.Proofs.Tst

namespace Go.Proofs.Tst
open Go Fw Tryz
theorem i_dropSnap_c (w0 : World) (G0 : PH) (hG : PSub G0 w0) (db mb : Nat) (es : Array MapEntry) (ck : Nat) (xs : List (Int × Value)) (T : Nd) (FT : Fr) (sv : Value) (sn : List (Bs × Nd)) (c : List Value) (FSq : Fr) (d : BDisk) (hm : MapIs (Value.int .i64) es ck xs) (hS : StR G0 xs d.store) (hN : NdO 167 65 G0 T FT) (hT : Nd.TOK T d.tree) (hchk : Chk osE 2 G0 c sn) (hNs : NdsO 167 65 G0 (sn.map (·.2)) FSq) (hSn : SnOK sn d.snaps) (hdv : Sp.DiskValid d = true) (name : Bs) (hname : name.length ≤ 16777216) (hLent : Lent w0 G0 [blk db (cl [.int .i32 0, .int .u32 0, .map (some mb), .pointer (some ⟨T.b, 0, none⟩), sv] 70), blk mb (.map es ck), frag FT, acc 124 2 sv sn.length c, frag FSq])  :
  Calls Tryz.prog 52 #[.pointer (some ⟨db, 0, none⟩), str name] w0 (RetM w0 G0 (fps [blk db (cl [.int .i32 0, .int .u32 0, .map (some mb), .pointer (some ⟨T.b, 0, none⟩), sv] 70), blk mb (.map es ck), frag FT, acc 124 2 sv sn.length c, frag FSq]) (fun G' v Bs => ∃ (es' : Array MapEntry) (ck' : Nat) (xs' : List (Int × Value)) (F' : Fr) (T' : Nd) (sv' : Value) (sn' : List (Fw.Bs × Nd)) (c' : List Value) (FSq' : Fr) (L' : List BHeld), v = .bool (Sp.SnapDrop d name).isSome ∧ Bs = [blk db (cl [.int .i32 0, .int .u32 0, .map (some mb), .pointer (some ⟨T'.b, 0, none⟩), sv'] 70), blk mb (.map es' ck'), frag F', acc 124 2 sv' sn'.length c', frag FSq'] ∧ MapIs (Value.int .i64) es' ck' xs' ∧ StR G' xs' L' ∧ Sp.VH L' ∧ NdO 167 65 G' T' F' ∧ Chk osE 2 G' c' sn' ∧ NdsO 167 65 G' (sn'.map (·.2)) FSq' ∧ ∀ d', Sp.SnapDrop d name = some d' → L' = d'.store ∧ Nd.TOK T' d'.tree ∧ SnOK sn' d'.snaps)) := by
 have H : Hp w0 G0 (fps [blk db (cl [.int .i32 0, .int .u32 0, .map (some mb), .pointer (some ⟨T.b, 0, none⟩), sv] 70), blk mb (.map es ck), frag FT, acc 124 2 sv sn.length c, frag FSq]) w0 G0 [blk db (cl [.int .i32 0, .int .u32 0, .map (some mb), .pointer (some ⟨T.b, 0, none⟩), sv] 70), blk mb (.map es ck), frag FT, acc 124 2 sv sn.length c, frag FSq] := hLent.hp
 obtain ⟨adv, cdv, rfl⟩ := H.accShape (k := 3) rfl; have hVd := Sp.valid_iff.1 (Sp.dv_parts.1 hdv).1; have hTv := (Sp.dv_parts.1 hdv).2.1; have hTc := hT.cnt; have hTl := Sp.tree_len hTv; have hsnl := hSn.len; have hsn6 := (Sp.dv_parts.1 hdv).2.2.1
 refine calls_of_WD (l := [.pointer (some ⟨db, 0, none⟩), str name]) func52 Z ntmps52 Z (q2 (aG Z (q1 (mV Z (o_nilCheck Z Z (o_fieldAddr 0 runUnderlying70 Z sizeOf62 Z Z Z (o_lock 0 H muLib Z call72 Z Z Z Z ?_))))))); intro w1 H
 refine q1 (mV Z (o_nilCheck Z Z (o_fieldAddr 0 runUnderlying70 Z sizeOf62 Z Z Z (o_defer Z (q1 (mV Z (mV Z (o_call call75 Z Z (i_snapAt_c _ _ (H.lendSubL [0, 3]) _ _ _ _ _ _ _ (prow_blk (H.lendPredL (k := 0) (ks := [0, 3]) Z Z)) (H.lendRdL (k := 3) (ks := [0, 3]) Z Z hchk aN aN) _ hname ) ?_))))))))
 rintro _ w2 ⟨rfl, ew2⟩; have H := H.step ew2; refine ⟨_, rfl, ?_⟩
 refine aG Z (q3 (W_seq (W_seq (W_drawK [0] 19 H kR Z ?_)))); intro w3 H; have hd3 := PLe.refl G0
 refine vM 0 Z Z (RD_t 1 Z kR Z (fun _ hK => v_lss Z Z) (vM 2 Z Z ?_))
 refine RD_case (t := 18) Z ?_ ?_
 ·intro hc4
  try simp only [nrm] at hc4
  refine RD_pass 3 Z kR kR kR Z (yl_ne Z Z Z) (RD_pass 4 Z kR kR kR Z (yl_ne Z Z Z) (RD_pass 5 Z kR kR kR Z (yl_ne Z Z Z) (RD_pass 6 Z kR kR kR Z (yl_ne Z Z Z) (RD_pass 7 Z kR kR kR Z (yl_ne Z Z Z) (RD_pass 8 Z kR kR kR Z (yl_ne Z Z Z) (RD_pass 9 Z kR kR kR Z (yl_ne Z Z Z) (RD_pass 10 Z kR kR kR Z (yl_ne Z Z Z) (RD_pass 11 Z kR kR kR Z (yl_ne Z Z Z) (RD_pass 12 Z kR kR kR Z (yl_ne Z Z Z) (RD_pass 13 Z kR kR kR Z (yl_ne Z Z Z) (RD_pass 14 Z kR kR kR Z (yl_ne Z Z Z) (RD_pass 15 Z kR kR kR Z (yl_ne Z Z Z) (RD_pass 16 Z kR kR kR Z (yl_ne Z Z Z) (RD_pass 17 Z kR kR kR Z (yl_ne Z Z Z) (RD_t 18 Z kR Z (fun _ hK => v_pick_t Z Z) ?_)))))))))))))))
  refine RD_done kR (N_K (W_true Z (q2 (aG Z (q3 (W_ret (N_K_ret (ret_unlock 0 H muLib Z call73 Z Z (rs := [.tmp 4]) results52 ?_)))))))); intro wu1 H
  refine ⟨[_], ⟨Z, trivial⟩, ?_⟩
  have H := H.toFront (k := 4) rfl
  have H := H.toFront (k := 4) rfl
  have H := H.toFront (k := 4) rfl
  have H := H.toFront (k := 4) rfl
  have H := H.toFront (k := 4) rfl
  have hno : Sp.SnapDrop d name = none := Sp.sdrop_noat (by (rw [← Sp.sn_find hSn]; omega))
  exact H.retM ⟨_, _, _, _, T, _, sn, _, _, d.store, congrArg Value.bool (by (rw [hno]; rfl)), rfl, hm, hS, hVd, hN, hchk, hNs, fun d2 h => (by rw [hno] at h; cases h)⟩
 intro hc4'
 try simp only [nrm] at hc4'
 obtain ⟨i, x, s0, hat, hsx, hs0, hai, htx, hix⟩ := sn_at hSn (n := name) oM
 refine RD_tg 3 Z kR Z (yl Z Z) (fun _ hK => v_move Z) (RD_tg 4 Z kR Z (yl Z Z) (fun _ hK => v_nilCheck Z) (RD_tg 5 Z kR Z (yl Z Z) (fun _ hK => v_fieldAddr 2 runUnderlying70 Z sizeOf67 Z Z) (RD_tg 6 Z kR Z (yl Z Z) (fun _ hK => v_fieldAddr 0 runUnderlying67 Z sizeOf64 Z Z) (RD_tg 7 Z kR Z (yl Z Z) (fun _ hK => v_load_B 0 hK isAgg64 Z Z Z) (RD_tg 8 Z kR Z (yl Z Z) (fun _ hK => v_move Z) (RD_tg 9 Z kR Z (yl Z Z) (fun _ hK => v_nilCheck Z) (RD_tg 10 Z kR Z (yl Z Z) (fun _ hK => v_fieldAddr 4 runUnderlying70 Z sizeOf68 Z Z) (RD_tg 11 Z kR Z (yl Z Z) (fun _ hK => v_load_B 0 hK isAgg68 Z Z Z) (RD_tg 12 Z kR Z (yl Z Z) (fun _ hK => v_move Z) ?_)))))))))
 refine RD_run [13] kR Z (RDs.cons Z ?_ RDs.nil)
 refine gR Z (o_index_A 3 H i Z hchk underlying68 sizeOf124 Z Z Z hat aN aN ?_); intro ba5 z5 q5 hba5 hz5 hE5 hg5; cases hba5
 obtain ⟨rfl, hi5⟩ := hE5; have hy_hi5 : _ ≤ 16777216 := hi5
 refine R_nil (N_DK (Kn.of' H hd3 (SubL.cons 0 Z SubL.nil)) (RD_tg 14 Z kR Z (yl Z Z) (fun _ hK => v_fieldAddr 1 runUnderlying124 Z sizeOf65 Z Z) ?_))
 refine RD_run [15] kR Z (RDs.cons Z ?_ RDs.nil)
 refine gR Z (o_load_A 3 H isAgg65 Z Z Z (hg5 1 _ Z) (R_nil (N_DK (Kn.of' H hd3 (SubL.cons 0 Z SubL.nil)) ?_)))
 refine RD_run [16] kR Z (RDs.cons Z ?_ RDs.nil)
 refine gR Z ?_
 have H := H.toFront (k := 4) rfl
 obtain ⟨Fk2, Fr2, hpm2, hNk2, hNr2⟩ := NdsO.del hNs (i := i) (k := z5.2) (by (rw [List.getElem?_map, hz5]; rfl))
 have H := (H.permF hpm2).splitF
 have H := H.toFront (k := 3) rfl
 refine o_call call86 Z Z (i_freeTree_c _ _ H.sub _ _ _ _ _ hm hS hVd _ _ hNk2 H.lent2 (sn_ok hSn _ (List.mem_map_of_mem (List.mem_of_getElem? hz5))).1 (by have := (sn_ok hSn _ (List.mem_map_of_mem (List.mem_of_getElem? hz5))).2; omega)) ?_
 rintro _ w6 ⟨G6, _, _, rfl, H6', ⟨es6, ck6, xs6, L6, rfl, rfl, hm6, hS6, hV6, hL6⟩⟩
 have hN := hN.up H6'.le
 have hchk := hchk.up H6'.le
 have hNr2 := hNr2.up H6'.le
 have hd3 := hd3.trans H6'.le
 have H := H.borrow2 H6'
 refine ⟨_, Z, ?_⟩
 refine R_nil (N_DK (Kn.of' H hd3 (SubL.cons 3 Z SubL.nil)) (RD_tg 17 Z kR Z (yl Z Z) (fun _ hK => v_not Z) (RD_t 18 Z kR Z (fun _ hK => v_pick_f Z Z) (RD_done kR (N_K ?_)))))
 refine W_cond Z ?_ ?_
 ·intro hc7
  try simp only [nrm] at hc7
  refine q2 (aG Z (q3 (W_ret (N_K_ret (ret_unlock 3 H muLib Z call73 Z Z (rs := [.tmp 4]) results52 ?_))))); intro wu3 H
  refine ⟨[_], ⟨Z, trivial⟩, ?_⟩
  obtain rfl : x = z5 := Option.some.inj (hsx.symm.trans hz5)
  have hfr := Sp.sdrop_free hdv hs0
  (rw [← htx.flat] at hfr)
  exact absurd (show (Sp.freeTs d.store (x.2.flat [])).isSome = true by (rw [hfr]; rfl)) (by simpa using hc7)
 intro hc7'
 try simp only [nrm] at hc7'
 refine W_skip (N_K (W_seq (W_drawK [] 19 H kR Z ?_))); intro w8 H; have hd8 := PLe.refl G6
 refine vM 0 Z Z (vM 1 Z Z (RD_t 2 Z kR Z (fun _ hK => v_nilCheck Z) (RD_t 3 Z kR Z (fun _ hK => v_fieldAddr 4 runUnderlying70 Z sizeOf68 Z Z) (vM 5 Z Z (vM 6 Z Z (vM 8 Z Z (RD_t 9 Z kR Z (fun _ hK => v_nilCheck Z) (RD_t 10 Z kR Z (fun _ hK => v_fieldAddr 4 runUnderlying70 Z sizeOf68 Z Z) (vM 12 Z Z (RD_t 13 Z kR Z (fun _ hK => v_add Z Z oO) ?_))))))))))
 refine RD_run [4, 11] kR Z (RDs.cons Z ?_ (RDs.cons Z ?_ RDs.nil))
 ·skip
  refine o_load_B 3 H isAgg68 Z Z Z Z (R_nil (N_DK (Kn.of' H hd8 SubL.nil) ?_))
  refine RD_run [7, 11] kR Z (RDs.cons Z ?_ (RDs.cons Z ?_ RDs.nil))
  ·skip
   have hac10 := H.accCap (k := 5) rfl
   refine o_slice_to3 (j := i) underlying68 sizeOf124 Z Z Z Z hat oM (R_nil (N_DK (Kn.of' H hd8 SubL.nil) ?_))
   refine RD_run [11] kR Z (RDs.cons Z ?_ RDs.nil)
   refine o_load_B 3 H isAgg68 Z Z Z Z (R_nil (N_DK (Kn.of' H hd8 SubL.nil) ?_))
   refine RD_run [14] kR Z (RDs.cons Z ?_ RDs.nil)
   have hac11 := H.accCap (k := 5) rfl
   refine o_slice_from (i := (i + 1)) underlying68 sizeOf124 Z Z Z oM oM (R_nil (N_DK (Kn.of' H hd8 SubL.nil) ?_))
   refine RD_run [15] kR Z (RDs.cons Z ?_ RDs.nil)
   refine o_append_cut 5 H i Z hchk (by intro z cs hz u hu; obtain ⟨rfl, _⟩ := hz; simp at hu; rcases hu with rfl | rfl <;> rfl) underlying68 typeInfo124 ⟨_, rfl, rfl⟩ rfl rfl rfl rfl rfl rfl oM aN oM rfl ?_; intro v12 w12 H hchk12
   obtain ⟨av12, cv12, rfl⟩ := H.accShape (k := 5) rfl
   refine R_nil (N_DK (Kn.of' H hd8 SubL.nil) (RD_t 16 Z kR Z (fun _ hK => v_nilCheck Z) (RD_t 17 Z kR Z (fun _ hK => v_fieldAddr 4 runUnderlying70 Z sizeOf68 Z Z) ?_)))
   refine RD_run [18] kR Z (RDs.cons Z ?_ RDs.nil)
   refine o_store_B 3 H sizeOf68 Z Z Z Z Z Z Z Z ?_; intro w13 H
   refine R_nil (N_DK (Kn.of' H hd8 SubL.nil) (RD_done kR (N_K (q2 (aG Z (q3 (W_ret (ret_unlock 3 H muLib Z call73 Z Z (rs := [.tmp 4]) results52 ?_)))))))); intro wu4 H
   refine ⟨[_], ⟨Z, trivial⟩, ?_⟩
   obtain rfl : x = z5 := Option.some.inj (hsx.symm.trans hz5)
   have H := H.del (k := 1) rfl
   have H := H.toFront (k := 1) rfl
   have H := H.toFront (k := 4) rfl
   have H := H.toFront (k := 4) rfl
   have H := H.toFront (k := 3) rfl
   have H := H.toFront (k := 4) rfl
   have H := H.toFront (k := 4) rfl
   have H := H.toFront (k := 4) rfl
   have H := H.toFront (k := 4) rfl
   have H := H.toFront (k := 4) rfl
   have H := H.toFront (k := 4) rfl
   have hfr := Sp.sdrop_free hdv hs0
   (rw [← htx.flat] at hfr)
   have hyes : Sp.SnapDrop d name = some _ := Sp.sdrop_eq hdv hai hs0
   have hln : i + (sn.length - (i + 1)) = (sn.take i ++ sn.drop (i + 1)).length := by simp; omega
   rw [hln] at H
   have hsd := All2.del hSn i
   exact H.retM ⟨_, _, _, _, T, _, (sn.take i ++ sn.drop (i + 1)), _, _, L6, congrArg Value.bool (by (rw [hyes]; rfl)), rfl, hm6, hS6, hV6, hN, hchk12, (by simpa [List.map_append, List.map_take, List.map_drop] using hNr2), fun d2 h => (by rw [hyes] at h; cases h; exact ⟨hL6 _ (by (rw [← htx.flat]; exact hfr)), hT, hsd⟩)⟩
  skip
  refine o_load_B 3 H isAgg68 Z Z Z Z (R_nil (N_DK (Kn.of' H hd8 SubL.nil) ?_))
  refine RD_run [7, 14] kR Z (RDs.cons Z ?_ (RDs.cons Z ?_ RDs.nil))
  ·skip
   have hac14 := H.accCap (k := 5) rfl
   refine o_slice_to3 (j := i) underlying68 sizeOf124 Z Z Z Z hat oM (R_nil (N_DK (Kn.of' H hd8 SubL.nil) ?_))
   refine RD_run [14] kR Z (RDs.cons Z ?_ RDs.nil)
   have hac15 := H.accCap (k := 5) rfl
   refine o_slice_from (i := (i + 1)) underlying68 sizeOf124 Z Z Z oM oM (R_nil (N_DK (Kn.of' H hd8 SubL.nil) ?_))
   refine RD_run [15] kR Z (RDs.cons Z ?_ RDs.nil)
   refine o_append_cut 5 H i Z hchk (by intro z cs hz u hu; obtain ⟨rfl, _⟩ := hz; simp at hu; rcases hu with rfl | rfl <;> rfl) underlying68 typeInfo124 ⟨_, rfl, rfl⟩ rfl rfl rfl rfl rfl rfl oM aN oM rfl ?_; intro v16 w16 H hchk16
   obtain ⟨av16, cv16, rfl⟩ := H.accShape (k := 5) rfl
   refine R_nil (N_DK (Kn.of' H hd8 SubL.nil) (RD_t 16 Z kR Z (fun _ hK => v_nilCheck Z) (RD_t 17 Z kR Z (fun _ hK => v_fieldAddr 4 runUnderlying70 Z sizeOf68 Z Z) ?_)))
   refine RD_run [18] kR Z (RDs.cons Z ?_ RDs.nil)
   refine o_store_B 3 H sizeOf68 Z Z Z Z Z Z Z Z ?_; intro w17 H
   refine R_nil (N_DK (Kn.of' H hd8 SubL.nil) (RD_done kR (N_K (q2 (aG Z (q3 (W_ret (ret_unlock 3 H muLib Z call73 Z Z (rs := [.tmp 4]) results52 ?_)))))))); intro wu5 H
   refine ⟨[_], ⟨Z, trivial⟩, ?_⟩
   obtain rfl : x = z5 := Option.some.inj (hsx.symm.trans hz5)
   have H := H.del (k := 1) rfl
   have H := H.toFront (k := 1) rfl
   have H := H.toFront (k := 4) rfl
   have H := H.toFront (k := 4) rfl
   have H := H.toFront (k := 3) rfl
   have H := H.toFront (k := 4) rfl
   have H := H.toFront (k := 4) rfl
   have H := H.toFront (k := 4) rfl
   have H := H.toFront (k := 4) rfl
   have H := H.toFront (k := 4) rfl
   have H := H.toFront (k := 4) rfl
   have hfr := Sp.sdrop_free hdv hs0
   (rw [← htx.flat] at hfr)
   have hyes : Sp.SnapDrop d name = some _ := Sp.sdrop_eq hdv hai hs0
   have hln : i + (sn.length - (i + 1)) = (sn.take i ++ sn.drop (i + 1)).length := by simp; omega
   rw [hln] at H
   have hsd := All2.del hSn i
   exact H.retM ⟨_, _, _, _, T, _, (sn.take i ++ sn.drop (i + 1)), _, _, L6, congrArg Value.bool (by (rw [hyes]; rfl)), rfl, hm6, hS6, hV6, hN, hchk16, (by simpa [List.map_append, List.map_take, List.map_drop] using hNr2), fun d2 h => (by rw [hyes] at h; cases h; exact ⟨hL6 _ (by (rw [← htx.flat]; exact hfr)), hT, hsd⟩)⟩
  skip
  have hac18 := H.accCap (k := 5) rfl
  refine o_slice_from (i := (i + 1)) underlying68 sizeOf124 Z Z Z oM oM (R_nil (N_DK (Kn.of' H hd8 SubL.nil) ?_))
  refine RD_run [7] kR Z (RDs.cons Z ?_ RDs.nil)
  have hac19 := H.accCap (k := 5) rfl
  refine o_slice_to3 (j := i) underlying68 sizeOf124 Z Z Z Z hat oM (R_nil (N_DK (Kn.of' H hd8 SubL.nil) ?_))
  refine RD_run [15] kR Z (RDs.cons Z ?_ RDs.nil)
  refine o_append_cut 5 H i Z hchk (by intro z cs hz u hu; obtain ⟨rfl, _⟩ := hz; simp at hu; rcases hu with rfl | rfl <;> rfl) underlying68 typeInfo124 ⟨_, rfl, rfl⟩ rfl rfl rfl rfl rfl rfl oM aN oM rfl ?_; intro v20 w20 H hchk20
  obtain ⟨av20, cv20, rfl⟩ := H.accShape (k := 5) rfl
  refine R_nil (N_DK (Kn.of' H hd8 SubL.nil) (RD_t 16 Z kR Z (fun _ hK => v_nilCheck Z) (RD_t 17 Z kR Z (fun _ hK => v_fieldAddr 4 runUnderlying70 Z sizeOf68 Z Z) ?_)))
  refine RD_run [18] kR Z (RDs.cons Z ?_ RDs.nil)
  refine o_store_B 3 H sizeOf68 Z Z Z Z Z Z Z Z ?_; intro w21 H
  refine R_nil (N_DK (Kn.of' H hd8 SubL.nil) (RD_done kR (N_K (q2 (aG Z (q3 (W_ret (ret_unlock 3 H muLib Z call73 Z Z (rs := [.tmp 4]) results52 ?_)))))))); intro wu6 H
  refine ⟨[_], ⟨Z, trivial⟩, ?_⟩
  obtain rfl : x = z5 := Option.some.inj (hsx.symm.trans hz5)
  have H := H.del (k := 1) rfl
  have H := H.toFront (k := 1) rfl
  have H := H.toFront (k := 4) rfl
  have H := H.toFront (k := 4) rfl
  have H := H.toFront (k := 3) rfl
  have H := H.toFront (k := 4) rfl
  have H := H.toFront (k := 4) rfl
  have H := H.toFront (k := 4) rfl
  have H := H.toFront (k := 4) rfl
  have H := H.toFront (k := 4) rfl
  have H := H.toFront (k := 4) rfl
  have hfr := Sp.sdrop_free hdv hs0
  (rw [← htx.flat] at hfr)
  have hyes : Sp.SnapDrop d name = some _ := Sp.sdrop_eq hdv hai hs0
  have hln : i + (sn.length - (i + 1)) = (sn.take i ++ sn.drop (i + 1)).length := by simp; omega
  rw [hln] at H
  have hsd := All2.del hSn i
  exact H.retM ⟨_, _, _, _, T, _, (sn.take i ++ sn.drop (i + 1)), _, _, L6, congrArg Value.bool (by (rw [hyes]; rfl)), rfl, hm6, hS6, hV6, hN, hchk20, (by simpa [List.map_append, List.map_take, List.map_drop] using hNr2), fun d2 h => (by rw [hyes] at h; cases h; exact ⟨hL6 _ (by (rw [← htx.flat]; exact hfr)), hT, hsd⟩)⟩
 skip
 refine o_load_B 3 H isAgg68 Z Z Z Z (R_nil (N_DK (Kn.of' H hd8 SubL.nil) ?_))
 refine RD_run [4, 14] kR Z (RDs.cons Z ?_ (RDs.cons Z ?_ RDs.nil))
 ·skip
  refine o_load_B 3 H isAgg68 Z Z Z Z (R_nil (N_DK (Kn.of' H hd8 SubL.nil) ?_))
  refine RD_run [7, 14] kR Z (RDs.cons Z ?_ (RDs.cons Z ?_ RDs.nil))
  ·skip
   have hac22 := H.accCap (k := 5) rfl
   refine o_slice_to3 (j := i) underlying68 sizeOf124 Z Z Z Z hat oM (R_nil (N_DK (Kn.of' H hd8 SubL.nil) ?_))
   refine RD_run [14] kR Z (RDs.cons Z ?_ RDs.nil)
   have hac23 := H.accCap (k := 5) rfl
   refine o_slice_from (i := (i + 1)) underlying68 sizeOf124 Z Z Z oM oM (R_nil (N_DK (Kn.of' H hd8 SubL.nil) ?_))
   refine RD_run [15] kR Z (RDs.cons Z ?_ RDs.nil)
   refine o_append_cut 5 H i Z hchk (by intro z cs hz u hu; obtain ⟨rfl, _⟩ := hz; simp at hu; rcases hu with rfl | rfl <;> rfl) underlying68 typeInfo124 ⟨_, rfl, rfl⟩ rfl rfl rfl rfl rfl rfl oM aN oM rfl ?_; intro v24 w24 H hchk24
   obtain ⟨av24, cv24, rfl⟩ := H.accShape (k := 5) rfl
   refine R_nil (N_DK (Kn.of' H hd8 SubL.nil) (RD_t 16 Z kR Z (fun _ hK => v_nilCheck Z) (RD_t 17 Z kR Z (fun _ hK => v_fieldAddr 4 runUnderlying70 Z sizeOf68 Z Z) ?_)))
   refine RD_run [18] kR Z (RDs.cons Z ?_ RDs.nil)
   refine o_store_B 3 H sizeOf68 Z Z Z Z Z Z Z Z ?_; intro w25 H
   refine R_nil (N_DK (Kn.of' H hd8 SubL.nil) (RD_done kR (N_K (q2 (aG Z (q3 (W_ret (ret_unlock 3 H muLib Z call73 Z Z (rs := [.tmp 4]) results52 ?_)))))))); intro wu7 H
   refine ⟨[_], ⟨Z, trivial⟩, ?_⟩
   obtain rfl : x = z5 := Option.some.inj (hsx.symm.trans hz5)
   have H := H.del (k := 1) rfl
   have H := H.toFront (k := 1) rfl
   have H := H.toFront (k := 4) rfl
   have H := H.toFront (k := 4) rfl
   have H := H.toFront (k := 3) rfl
   have H := H.toFront (k := 4) rfl
   have H := H.toFront (k := 4) rfl
   have H := H.toFront (k := 4) rfl
   have H := H.toFront (k := 4) rfl
   have H := H.toFront (k := 4) rfl
   have H := H.toFront (k := 4) rfl
   have hfr := Sp.sdrop_free hdv hs0
   (rw [← htx.flat] at hfr)
   have hyes : Sp.SnapDrop d name = some _ := Sp.sdrop_eq hdv hai hs0
   have hln : i + (sn.length - (i + 1)) = (sn.take i ++ sn.drop (i + 1)).length := by simp; omega
   rw [hln] at H
   have hsd := All2.del hSn i
   exact H.retM ⟨_, _, _, _, T, _, (sn.take i ++ sn.drop (i + 1)), _, _, L6, congrArg Value.bool (by (rw [hyes]; rfl)), rfl, hm6, hS6, hV6, hN, hchk24, (by simpa [List.map_append, List.map_take, List.map_drop] using hNr2), fun d2 h => (by rw [hyes] at h; cases h; exact ⟨hL6 _ (by (rw [← htx.flat]; exact hfr)), hT, hsd⟩)⟩
  skip
  have hac26 := H.accCap (k := 5) rfl
  refine o_slice_from (i := (i + 1)) underlying68 sizeOf124 Z Z Z oM oM (R_nil (N_DK (Kn.of' H hd8 SubL.nil) ?_))
  refine RD_run [7] kR Z (RDs.cons Z ?_ RDs.nil)
  have hac27 := H.accCap (k := 5) rfl
  refine o_slice_to3 (j := i) underlying68 sizeOf124 Z Z Z Z hat oM (R_nil (N_DK (Kn.of' H hd8 SubL.nil) ?_))
  refine RD_run [15] kR Z (RDs.cons Z ?_ RDs.nil)
  refine o_append_cut 5 H i Z hchk (by intro z cs hz u hu; obtain ⟨rfl, _⟩ := hz; simp at hu; rcases hu with rfl | rfl <;> rfl) underlying68 typeInfo124 ⟨_, rfl, rfl⟩ rfl rfl rfl rfl rfl rfl oM aN oM rfl ?_; intro v28 w28 H hchk28
  obtain ⟨av28, cv28, rfl⟩ := H.accShape (k := 5) rfl
  refine R_nil (N_DK (Kn.of' H hd8 SubL.nil) (RD_t 16 Z kR Z (fun _ hK => v_nilCheck Z) (RD_t 17 Z kR Z (fun _ hK => v_fieldAddr 4 runUnderlying70 Z sizeOf68 Z Z) ?_)))
  refine RD_run [18] kR Z (RDs.cons Z ?_ RDs.nil)
  refine o_store_B 3 H sizeOf68 Z Z Z Z Z Z Z Z ?_; intro w29 H
  refine R_nil (N_DK (Kn.of' H hd8 SubL.nil) (RD_done kR (N_K (q2 (aG Z (q3 (W_ret (ret_unlock 3 H muLib Z call73 Z Z (rs := [.tmp 4]) results52 ?_)))))))); intro wu8 H
  refine ⟨[_], ⟨Z, trivial⟩, ?_⟩
  obtain rfl : x = z5 := Option.some.inj (hsx.symm.trans hz5)
  have H := H.del (k := 1) rfl
  have H := H.toFront (k := 1) rfl
  have H := H.toFront (k := 4) rfl
  have H := H.toFront (k := 4) rfl
  have H := H.toFront (k := 3) rfl
  have H := H.toFront (k := 4) rfl
  have H := H.toFront (k := 4) rfl
  have H := H.toFront (k := 4) rfl
  have H := H.toFront (k := 4) rfl
  have H := H.toFront (k := 4) rfl
  have H := H.toFront (k := 4) rfl
  have hfr := Sp.sdrop_free hdv hs0
  (rw [← htx.flat] at hfr)
  have hyes : Sp.SnapDrop d name = some _ := Sp.sdrop_eq hdv hai hs0
  have hln : i + (sn.length - (i + 1)) = (sn.take i ++ sn.drop (i + 1)).length := by simp; omega
  rw [hln] at H
  have hsd := All2.del hSn i
  exact H.retM ⟨_, _, _, _, T, _, (sn.take i ++ sn.drop (i + 1)), _, _, L6, congrArg Value.bool (by (rw [hyes]; rfl)), rfl, hm6, hS6, hV6, hN, hchk28, (by simpa [List.map_append, List.map_take, List.map_drop] using hNr2), fun d2 h => (by rw [hyes] at h; cases h; exact ⟨hL6 _ (by (rw [← htx.flat]; exact hfr)), hT, hsd⟩)⟩
 skip
 have hac30 := H.accCap (k := 5) rfl
 refine o_slice_from (i := (i + 1)) underlying68 sizeOf124 Z Z Z oM oM (R_nil (N_DK (Kn.of' H hd8 SubL.nil) ?_))
 refine RD_run [4] kR Z (RDs.cons Z ?_ RDs.nil)
 refine o_load_B 3 H isAgg68 Z Z Z Z (R_nil (N_DK (Kn.of' H hd8 SubL.nil) ?_))
 refine RD_run [7] kR Z (RDs.cons Z ?_ RDs.nil)
 have hac31 := H.accCap (k := 5) rfl
 refine o_slice_to3 (j := i) underlying68 sizeOf124 Z Z Z Z hat oM (R_nil (N_DK (Kn.of' H hd8 SubL.nil) ?_))
 refine RD_run [15] kR Z (RDs.cons Z ?_ RDs.nil)
 refine o_append_cut 5 H i Z hchk (by intro z cs hz u hu; obtain ⟨rfl, _⟩ := hz; simp at hu; rcases hu with rfl | rfl <;> rfl) underlying68 typeInfo124 ⟨_, rfl, rfl⟩ rfl rfl rfl rfl rfl rfl oM aN oM rfl ?_; intro v32 w32 H hchk32
 obtain ⟨av32, cv32, rfl⟩ := H.accShape (k := 5) rfl
 refine R_nil (N_DK (Kn.of' H hd8 SubL.nil) (RD_t 16 Z kR Z (fun _ hK => v_nilCheck Z) (RD_t 17 Z kR Z (fun _ hK => v_fieldAddr 4 runUnderlying70 Z sizeOf68 Z Z) ?_)))
 refine RD_run [18] kR Z (RDs.cons Z ?_ RDs.nil)
 refine o_store_B 3 H sizeOf68 Z Z Z Z Z Z Z Z ?_; intro w33 H
 refine R_nil (N_DK (Kn.of' H hd8 SubL.nil) (RD_done kR (N_K (q2 (aG Z (q3 (W_ret (ret_unlock 3 H muLib Z call73 Z Z (rs := [.tmp 4]) results52 ?_)))))))); intro wu9 H
 refine ⟨[_], ⟨Z, trivial⟩, ?_⟩
 obtain rfl : x = z5 := Option.some.inj (hsx.symm.trans hz5)
 have H := H.del (k := 1) rfl
 have H := H.toFront (k := 1) rfl
 have H := H.toFront (k := 4) rfl
 have H := H.toFront (k := 4) rfl
 have H := H.toFront (k := 3) rfl
 have H := H.toFront (k := 4) rfl
 have H := H.toFront (k := 4) rfl
 have H := H.toFront (k := 4) rfl
 have H := H.toFront (k := 4) rfl
 have H := H.toFront (k := 4) rfl
 have H := H.toFront (k := 4) rfl
 have hfr := Sp.sdrop_free hdv hs0
 (rw [← htx.flat] at hfr)
 have hyes : Sp.SnapDrop d name = some _ := Sp.sdrop_eq hdv hai hs0
 have hln : i + (sn.length - (i + 1)) = (sn.take i ++ sn.drop (i + 1)).length := by simp; omega
 rw [hln] at H
 have hsd := All2.del hSn i
 exact H.retM ⟨_, _, _, _, T, _, (sn.take i ++ sn.drop (i + 1)), _, _, L6, congrArg Value.bool (by (rw [hyes]; rfl)), rfl, hm6, hS6, hV6, hN, hchk32, (by simpa [List.map_append, List.map_take, List.map_drop] using hNr2), fun d2 h => (by rw [hyes] at h; cases h; exact ⟨hL6 _ (by (rw [← htx.flat]; exact hfr)), hT, hsd⟩)⟩
end Go.Proofs.Tst

namespace Go.Proofs.Tst
open Go Fw Tryz
theorem i_SnapDrop1_c (w0 : World) (G0 : PH) (hG : PSub G0 w0) (db mb : Nat) (es : Array MapEntry) (ck : Nat) (xs : List (Int × Value)) (T : Nd) (FT : Fr) (sv : Value) (sn : List (Bs × Nd)) (c : List Value) (FSq : Fr) (d : BDisk) (hm : MapIs (Value.int .i64) es ck xs) (hS : StR G0 xs d.store) (hN : NdO 167 65 G0 T FT) (hT : Nd.TOK T d.tree) (hchk : Chk osE 2 G0 c sn) (hNs : NdsO 167 65 G0 (sn.map (·.2)) FSq) (hSn : SnOK sn d.snaps) (hdv : Sp.DiskValid d = true) (cp : Nat) (name : Bs) (hname : name.length ≤ 16777216) (hcp : PRow G0 cp 0 [str name]) (hLent : Lent w0 G0 [blk db (cl [.int .i32 0, .int .u32 0, .map (some mb), .pointer (some ⟨T.b, 0, none⟩), sv] 70), blk mb (.map es ck), frag FT, acc 124 2 sv sn.length c, frag FSq])  :
  Calls Tryz.prog 51 #[.pointer (some ⟨db, 0, none⟩), .pointer (some ⟨cp, 0, none⟩)] w0 (RetM w0 G0 (fps [blk db (cl [.int .i32 0, .int .u32 0, .map (some mb), .pointer (some ⟨T.b, 0, none⟩), sv] 70), blk mb (.map es ck), frag FT, acc 124 2 sv sn.length c, frag FSq]) (fun G' v Bs => ∃ (es' : Array MapEntry) (ck' : Nat) (xs' : List (Int × Value)) (F' : Fr) (T' : Nd) (sv' : Value) (sn' : List (Fw.Bs × Nd)) (c' : List Value) (FSq' : Fr) (L' : List BHeld), v = .bool (Sp.SnapDrop d name).isSome ∧ Bs = [blk db (cl [.int .i32 0, .int .u32 0, .map (some mb), .pointer (some ⟨T'.b, 0, none⟩), sv'] 70), blk mb (.map es' ck'), frag F', acc 124 2 sv' sn'.length c', frag FSq'] ∧ MapIs (Value.int .i64) es' ck' xs' ∧ StR G' xs' L' ∧ Sp.VH L' ∧ NdO 167 65 G' T' F' ∧ Chk osE 2 G' c' sn' ∧ NdsO 167 65 G' (sn'.map (·.2)) FSq' ∧ ∀ d', Sp.SnapDrop d name = some d' → L' = d'.store ∧ Nd.TOK T' d'.tree ∧ SnOK sn' d'.snaps)) := by
 have H : Hp w0 G0 (fps [blk db (cl [.int .i32 0, .int .u32 0, .map (some mb), .pointer (some ⟨T.b, 0, none⟩), sv] 70), blk mb (.map es ck), frag FT, acc 124 2 sv sn.length c, frag FSq]) w0 G0 [blk db (cl [.int .i32 0, .int .u32 0, .map (some mb), .pointer (some ⟨T.b, 0, none⟩), sv] 70), blk mb (.map es ck), frag FT, acc 124 2 sv sn.length c, frag FSq] := hLent.hp
 obtain ⟨adv, cdv, rfl⟩ := H.accShape (k := 3) rfl; have hVd := Sp.valid_iff.1 (Sp.dv_parts.1 hdv).1; have hTv := (Sp.dv_parts.1 hdv).2.1; have hTc := hT.cnt; have hTl := Sp.tree_len hTv; have hsnl := hSn.len; have hsn6 := (Sp.dv_parts.1 hdv).2.2.1
 refine calls_of_W (l := [.pointer (some ⟨db, 0, none⟩), .pointer (some ⟨cp, 0, none⟩)]) func51 Z ntmps51 Z (q2 (aG Z (q1 (mV Z (o_load_P H isAgg9 Z Z (hcp 0 _ Z) ?_)))))
 have H := H.toFront (k := 4) rfl
 have H := H.toFront (k := 4) rfl
 have H := H.toFront (k := 4) rfl
 have H := H.toFront (k := 4) rfl
 have H := H.toFront (k := 4) rfl
 refine o_call call52 Z Z (i_dropSnap_c _ _ H.sub _ _ _ _ _ _ _ _ _ _ _ _ hm hS hN hT hchk hNs hSn hdv _ hname H.lent5 ) ?_
 rintro _ w1 ⟨G1, _, _, rfl, H1', ⟨es1, ck1, xs1, F1, T1, sv1, sn1, c1, FS1, L1, rfl, rfl, hm1, hS1, hV1, hN1, hchk1, hNs1, hd1⟩⟩
 have H := H.borrow5 H1'
 obtain ⟨avAd, cvAd, rfl⟩ := H.accShape (k := 3) rfl
 refine ⟨_, Z, ?_⟩
 refine aG Z (q3 (W_ret (rt1 results51 Z ?_)))
 have H := H.toFront (k := 4) rfl
 have H := H.toFront (k := 4) rfl
 have H := H.toFront (k := 4) rfl
 have H := H.toFront (k := 4) rfl
 have H := H.toFront (k := 4) rfl
 exact H.retM ⟨_, _, _, _, _, _, _, _, _, _, Z, Z, hm1, hS1, hV1, hN1, hchk1, hNs1, hd1⟩
end Go.Proofs.Tst

namespace Go.Proofs.Tst
open Go Fw Tryz
theorem i_changed_sdrop_c (w0 : World) (G0 : PH) (hG : PSub G0 w0) (cd : List Value) (d : BDisk) (hd : diskE G0 d cd) (cp : Nat) (name : Bs) (hname : name.length ≤ 16777216) (hcp : PRow G0 cp 0 [str name])  :
  Calls Tryz.prog 36 #[.agg cd.toArray, .func (.func 51) #[] #[.pointer (some ⟨cp, 0, none⟩)]] w0 (RetN w0 G0 (fun v Bs => ∃ (v1 v2 v3 : Value) (F1 F2 F3 : Fr), v = .tuple #[.agg #[v1, v2, v3], .bool (Sp.SnapDrop d name).isSome] ∧ Bs = [frag F1, frag F2, frag F3] ∧ OHs F1 v1 ((Sp.SnapDrop d name).getD ⟨[], [], []⟩).store ∧ OIs F2 v2 ((Sp.SnapDrop d name).getD ⟨[], [], []⟩).tree ∧ OSn F3 v3 ((Sp.SnapDrop d name).getD ⟨[], [], []⟩).snaps)) := by
 obtain ⟨a1, m1, c1, a1', m1', c1', a1'', m1'', c1'', rfl, hr1, hr1', hr1''⟩ := hd; have hn_hr1 := hr1.len; have hx_hr1 : _ ≤ 1099511627776 := hr1.lim; have hn_hr1q := hr1'.len; have hx_hr1q : _ ≤ 1099511627776 := hr1'.lim; have hn_hr1qq := hr1''.len; have hx_hr1qq : _ ≤ 1099511627776 := hr1''.lim
 have H := Hp.init hG
 refine calls_of_W (l := [_, .func (.func 51) #[] #[.pointer (some ⟨cp, 0, none⟩)]]) func36 Z ntmps36 Z (q2 (o_box H Z Z Z ?_)); intro b2 w2 hb2 H
 refine o_alloc H zeroValue27 Z Z ?_; intro b3 w3 hb3 H
 refine aG Z (q1 (o_loadagg_B 1 H isAgg27 sizeOf27 Z Z Z Z Z (o_call call58 Z Z (i_newDisk_c _ _ H.sub _ d ⟨_, _, _, _, _, _, _, _, _, Z, hr1, hr1', hr1''⟩ H.lent0 ) ?_)))
 rintro _ w4 ⟨G4, _, _, rfl, H4', ⟨rfl, rfl, hnd4⟩ | ⟨db4, mb4, es4, ck4, xs4, T4, F4, sv4, sn4, c4, FS4, rfl, rfl, hm4, hS4, hN4, hT4, hchk4, hNs4, hSn4, hdv4⟩⟩
 ·skip
  have H := H.borrow0 H4'
  refine ⟨_, Z, ?_⟩
  refine mV Z (o_extract Z Z Z (o_extract Z Z Z (aG Z (aG Z (q3 (W_seq (q2 (mV Z (o_not Z Z (mV Z (rP Z (rP Z (rP Z (rP Z (o_pick_t Z Z Z ?_)))))))))))))))
  refine q3 (W_true Z (q2 (o_build bf27 Z Z Z (o_store_B 0 H sizeOf27 Z Z Z Z Z Z Z Z ?_)))); intro w5 H
  refine aG Z (q3 (W_ret (N_K_ret (ret_gen (rs := [.cell 4 27, .tmp 5]) (vs := [_, _]) results36 ⟨⟨_, Z, load_blk 0 H isAgg27 sizeOf27 Z Z Z⟩, Z, trivial⟩ ?_))))
  have H := H.del (k := 0) rfl
  have H := H.del (k := 0) rfl
  have hno : Sp.SnapDrop d name = none := by (cases hh : Sp.SnapDrop d name with | none => rfl | some q => (have hx := Sp.sdrop_isv hh; rw [hnd4] at hx; cases hx))
  have H := (((H.addF).addF).addF).forget hG (by simp)
  refine ⟨_, _, Z, H, .slice none 0 0, .slice none 0 0, .slice none 0 0, [], [], [], ?_, Z, ?_, ?_, ?_⟩
  ·(rw [hno]; rfl)
  ·(rw [hno]; exact oh_nil)
  ·(rw [hno]; exact oi_nil)
  (rw [hno]; exact os_nil)
 skip
 have hcp := hcp.up H4'.le
 have H := H.borrow0 H4'
 obtain ⟨avAd, cvAd, rfl⟩ := H.accShape (k := 3) rfl
 refine ⟨_, Z, ?_⟩
 refine mV Z (o_extract Z Z Z (o_extract Z Z Z (aG Z (aG Z (q3 (W_seq (q2 (mV Z (o_not Z Z (mV Z (gR Z (mV Z (gR Z (mV Z (gR Z ?_)))))))))))))))
 have H := H.toFront (k := 4) rfl
 have H := H.toFront (k := 4) rfl
 have H := H.toFront (k := 4) rfl
 have H := H.toFront (k := 4) rfl
 have H := H.toFront (k := 4) rfl
 refine o_callc call51 Z Z Z (i_SnapDrop1_c _ _ H.sub _ _ _ _ _ _ _ _ _ _ _ _ hm4 hS4 hN4 hT4 hchk4 hNs4 hSn4 hdv4 _ _ hname hcp H.lent5 ) ?_
 rintro _ w6 ⟨G6, _, _, rfl, H6', ⟨es6, ck6, xs6, F6, T6, sv6, sn6, c6, FS6, L6, rfl, rfl, hm6, hS6, hV6, hN6, hchk6, hNs6, hd6⟩⟩
 have H := H.borrow5 H6'
 obtain ⟨avAd, cvAd, rfl⟩ := H.accShape (k := 3) rfl
 refine ⟨_, Z, ?_⟩
 refine gR Z (o_not Z Z (o_pick_f Z Z Z (q3 ?_)))
 refine W_cond Z ?_ ?_
 ·intro hc7
  try simp only [nrm] at hc7
  refine q2 (o_build bf27 Z Z Z (o_store_B 5 H sizeOf27 Z Z Z Z Z Z Z Z ?_)); intro w8 H
  refine aG Z (q3 (W_ret (N_K_ret (ret_gen (rs := [.cell 4 27, .tmp 5]) (vs := [_, _]) results36 ⟨⟨_, Z, load_blk 5 H isAgg27 sizeOf27 Z Z Z⟩, Z, trivial⟩ ?_))))
  have H := H.del (k := 0) rfl
  have H := H.del (k := 0) rfl
  have H := H.del (k := 0) rfl
  have H := H.del (k := 0) rfl
  have H := H.del (k := 0) rfl
  have H := H.del (k := 0) rfl
  have H := H.del (k := 0) rfl
  have hno : Sp.SnapDrop d name = none := by simpa using hc7
  have H := (((H.addF).addF).addF).forget hG (by simp)
  refine ⟨_, _, Z, H, .slice none 0 0, .slice none 0 0, .slice none 0 0, [], [], [], ?_, Z, ?_, ?_, ?_⟩
  ·(rw [hno]; rfl)
  ·(rw [hno]; exact oh_nil)
  ·(rw [hno]; exact oi_nil)
  (rw [hno]; exact os_nil)
 intro hc7'
 try simp only [nrm] at hc7'
 obtain ⟨d2, hd2⟩ := Option.isSome_iff_exists.1 (show (Sp.SnapDrop d name).isSome = true by simpa using hc7')
 obtain ⟨hL2, hT2, hsn2⟩ := hd6 d2 hd2; subst hL2
 refine W_skip (N_K (q2 (mV Z ?_)))
 have H := H.toFront (k := 4) rfl
 have H := H.toFront (k := 4) rfl
 have H := H.toFront (k := 4) rfl
 have H := H.toFront (k := 4) rfl
 have H := H.toFront (k := 4) rfl
 refine o_call call71 Z Z (i_disk_c _ _ H.sub _ _ _ _ _ _ _ _ _ _ _ _ hm6 hS6 hN6 hT2 hchk6 hNs6 hsn2 hV6 (Sp.dv_parts.1 (Sp.sdrop_valid hd2)).2.2.1 H.lent5 ) ?_
 rintro _ w9 ⟨G9, _, _, rfl, H9', ⟨u19, u29, u39, D19, D29, D39, rfl, rfl, ho19, ho29, ho39⟩⟩
 have H := H.borrow5 H9'
 obtain ⟨x19, p19⟩ := ho19
 obtain ⟨a19, c19, rfl⟩ := OwnS.shape p19
 obtain ⟨x29, p29⟩ := ho29
 obtain ⟨a29, c29, rfl⟩ := OwnS.shape p29
 obtain ⟨x39, p39⟩ := ho39
 obtain ⟨a39, c39, rfl⟩ := OwnS.shape p39
 refine ⟨_, Z, ?_⟩
 refine o_store_B 3 H sizeOf27 Z Z Z Z Z Z Z Z ?_; intro w10 H
 refine aG Z (q3 (W_ret (ret_gen (rs := [.cell 4 27, .tmp 5]) (vs := [_, _]) results36 ⟨⟨_, Z, load_blk 3 H isAgg27 sizeOf27 Z Z Z⟩, Z, trivial⟩ ?_)))
 have H := H.del (k := 3) rfl
 have H := H.del (k := 3) rfl
 have H := H.toFront (k := 2) rfl
 have H := H.toFront (k := 2) rfl
 have H := H.toFront (k := 2) rfl
 have H := H.forget hG (by simp)
 refine ⟨_, _, Z, H, .slice a19 d2.store.length c19, .slice a29 d2.tree.length c29, .slice a39 d2.snaps.length c39, D19, D29, D39, ?_, Z, ?_, ?_, ?_⟩
 ·(rw [hd2]; rfl)
 ·(rw [hd2]; exact ⟨_, p19⟩)
 ·(rw [hd2]; exact ⟨_, p29⟩)
 (rw [hd2]; exact ⟨_, p39⟩)
end Go.Proofs.Tst

namespace Go.Proofs.Tst
open Go Fw Tryz
theorem i_SnapDrop_c (w0 : World) (G0 : PH) (hG : PSub G0 w0) (cd : List Value) (d : BDisk) (hd : diskE G0 d cd) (name : Bs) (hname : name.length ≤ 16777216)  :
  Calls Tryz.prog 22 #[.agg cd.toArray, str name] w0 (RetN w0 G0 (fun v Bs => ∃ (v1 v2 v3 : Value) (F1 F2 F3 : Fr), v = .tuple #[.agg #[v1, v2, v3], .bool (Sp.SnapDrop d name).isSome] ∧ Bs = [frag F1, frag F2, frag F3] ∧ OHs F1 v1 ((Sp.SnapDrop d name).getD ⟨[], [], []⟩).store ∧ OIs F2 v2 ((Sp.SnapDrop d name).getD ⟨[], [], []⟩).tree ∧ OSn F3 v3 ((Sp.SnapDrop d name).getD ⟨[], [], []⟩).snaps)) := by
 obtain ⟨a1, m1, c1, a1', m1', c1', a1'', m1'', c1'', rfl, hr1, hr1', hr1''⟩ := hd; have hn_hr1 := hr1.len; have hx_hr1 : _ ≤ 1099511627776 := hr1.lim; have hn_hr1q := hr1'.len; have hx_hr1q : _ ≤ 1099511627776 := hr1'.lim; have hn_hr1qq := hr1''.len; have hx_hr1qq : _ ≤ 1099511627776 := hr1''.lim
 have H := Hp.init hG
 refine calls_of_W (l := [_, str name]) func22 Z ntmps22 Z (q2 (o_box H Z Z Z ?_)); intro b2 w2 hb2 H
 refine o_box H Z Z Z ?_; intro b3 w3 hb3 H
 refine o_alloc H zeroValue27 Z Z ?_; intro b4 w4 hb4 H
 refine aG Z (q1 (o_loadagg_B 2 H isAgg27 sizeOf27 Z Z Z Z Z (o_makefn1 Z Z (o_call call36 Z Z (i_changed_sdrop_c _ _ (H.lendSubL [1]) _ d ⟨_, _, _, _, _, _, _, _, _, Z, (hr1.up (PPlus.le _ _ _)), (hr1'.up (PPlus.le _ _ _)), (hr1''.up (PPlus.le _ _ _))⟩ _ _ hname (prow_blk (H.lendPredL (k := 1) (ks := [1]) Z Z)) ) ?_))))
 rintro _ w5 ⟨_, _, rfl, H5', ⟨u15, u25, u35, E15, E25, E35, rfl, rfl, ho15, ho25, ho35⟩⟩
 have H := H.readersL H5'
 obtain ⟨x15, p15⟩ := ho15
 obtain ⟨a15, c15, rfl⟩ := OwnS.shape p15
 obtain ⟨x25, p25⟩ := ho25
 obtain ⟨a25, c25, rfl⟩ := OwnS.shape p25
 obtain ⟨x35, p35⟩ := ho35
 obtain ⟨a35, c35, rfl⟩ := OwnS.shape p35
 refine ⟨_, Z, ?_⟩
 refine o_extract Z Z Z (o_extract Z Z Z (o_store_B 3 H sizeOf27 Z Z Z Z Z Z Z Z ?_)); intro w6 H
 refine aG Z (q3 (W_ret (ret_gen (rs := [.cell 4 27, .tmp 5]) (vs := [_, _]) results22 ⟨⟨_, Z, load_blk 3 H isAgg27 sizeOf27 Z Z Z⟩, Z, trivial⟩ ?_)))
 have H := H.del (k := 3) rfl
 have H := H.del (k := 3) rfl
 have H := H.del (k := 3) rfl
 have H := H.toFront (k := 2) rfl
 have H := H.toFront (k := 2) rfl
 have H := H.toFront (k := 2) rfl
 exact ⟨_, _, Z, H, .slice a15 ((Sp.SnapDrop d name).getD ⟨[], [], []⟩).store.length c15, .slice a25 ((Sp.SnapDrop d name).getD ⟨[], [], []⟩).tree.length c25, .slice a35 ((Sp.SnapDrop d name).getD ⟨[], [], []⟩).snaps.length c35, E15, E25, E35, Z, Z, ⟨_, p15⟩, ⟨_, p25⟩, ⟨_, p35⟩⟩
end Go.Proofs.Tst

namespace Go.Proofs.Tst
open Go Fw Tryz
theorem CountOnly_c (w0 : World) (G0 : PH) (hG : PSub G0 w0) (cd : List Value) (d : BDisk) (hd : diskE G0 d cd) (snap : Bs) (hsnap : snap.length ≤ 16777216)  :
  Calls Tryz.prog 21 #[.agg cd.toArray, str snap] w0 (Rets w0 (.int .i64 (Sp.cOnly d snap))) := by
 obtain ⟨a1, m1, c1, a1', m1', c1', a1'', m1'', c1'', rfl, hr1, hr1', hr1''⟩ := hd; have hn_hr1 := hr1.len; have hx_hr1 : _ ≤ 1099511627776 := hr1.lim; have hn_hr1q := hr1'.len; have hx_hr1q : _ ≤ 1099511627776 := hr1'.lim; have hn_hr1qq := hr1''.len; have hx_hr1qq : _ ≤ 1099511627776 := hr1''.lim
 have H := Hp.init hG
 refine calls_of_W (l := [_, str snap]) func21 Z ntmps21 Z (q2 (o_box H Z Z Z ?_)); intro b2 w2 hb2 H
 refine aG Z (q1 (o_fieldAddr 2 runUnderlying27 Z sizeOf25 Z Z Z (o_load_B 0 H isAgg25 Z Z Z Z (mV Z (o_call call40 Z Z (l12At_c _ _ H.sub _ _ hr1'' _ hsnap ) ?_)))))
 rintro _ w3 ⟨rfl, ew3⟩; have H := H.step ew3; refine ⟨_, rfl, ?_⟩
 refine aG Z (q3 (W_seq (q2 (o_loadagg_B 0 H isAgg27 sizeOf27 Z Z Z Z Z (o_call call23 Z Z (DiskValid_c _ _ H.sub _ d ⟨_, _, _, _, _, _, _, _, _, Z, hr1, hr1', hr1''⟩ ) ?_)))))
 rintro _ w4 ⟨rfl, ew4⟩; have H := H.step ew4; refine ⟨_, rfl, ?_⟩
 refine o_not Z Z (mV Z ?_)
 refine R_case (t := 15) Z ?_ ?_
 ·intro hc5
  try simp only [nrm] at hc5
  refine rP Z (rP Z (o_pick_t Z Z Z (q3 (W_true Z (q2 (aG Z (q3 (W_ret (N_K_ret (rt1 results21 Z ?_))))))))))
  exact H.rets (congrArg (Value.int .i64) (by (rw [Sp.cOnly_nov (by simpa using hc5)])))
 intro hc5'
 try simp only [nrm] at hc5'
 have hdv : Sp.DiskValid d = true := by simpa using hc5'
 have hVx := Sp.valid_iff.1 (Sp.dv_parts.1 hdv).1; have h16 := hVx.len
 refine gR Z (mV Z (gR Z (o_lss Z Z Z (o_pick_f Z Z Z (q3 ?_)))))
 refine W_cond Z ?_ ?_
 ·intro hc6
  try simp only [nrm] at hc6
  refine q2 (aG Z (q3 (W_ret (N_K_ret (rt1 results21 Z ?_)))))
  exact H.rets (congrArg (Value.int .i64) (by (rw [Sp.cOnly_no (Sp.at_none hc6)])))
 intro hc6'
 try simp only [nrm] at hc6'
 obtain ⟨i, sx, ia, ib, ic, ie, ig⟩ := Sp.at_nat hc6'
 have ib : Sp.l12At d.snaps snap = (i : Int) := ib
 have hat : Sp.atS d.snaps snap = some i := ia
 refine W_skip (N_K (q2 (aG Z (q3 (W_seq (q2 (aG Z (q3 (W_block ?_)))))))))
 obtain ⟨ln7, hln7, H⟩ := H.name (k := 0) rfl
 refine W_lp (hf := (Sub.cons (t := 2) Z (Sub.cons (t := 4) Z (Sub.cons (t := 5) Z Sub.nil)))) (J := fun M w m => ∃ (k : Nat) (mm : Int) (G : PH), M = [(7, .int .i64 (k : Int)), (6, .int .i64 mm)] ∧ PLe G0 G ∧ Hp w0 G0 [] w G [blk b2 (cl ln7 27)] ∧ (k ≤ d.store.length ∧ mm = (Sp.onlyN (d.store.take k) sx.tree : Int)) ∧ m = (d.store.length - k)) (h0 := ⟨0, 0, _, Z, PLe.refl _, H, ?inv, Z⟩) (round := ?round)
 case inv => exact ⟨by omega, rfl⟩
 case round =>
  rintro _ w8 _ ⟨k, mm, G8, rfl, hle8, H, hinv8, rfl⟩
  subst hln7
  have hr1 := hr1.up hle8
  have hr1'' := hr1''.up hle8
  obtain ⟨hk, hmm⟩ := hinv8; have hcb := Sp.only_bnd hVx k sx.tree
  refine W_seq (q2 (mV Z (o_fieldAddr 0 runUnderlying27 Z sizeOf23 Z Z Z (o_load_B 0 H isAgg23 Z Z Z Z (o_len_slice underlying23 Z Z (o_lss Z Z Z (q3 ?_)))))))
  refine W_cond Z ?_ ?_
  ·intro hc9
   try simp only [nrm] at hc9
   refine W_skip (N_K (W_seq (W_block (W_seq (W_drawK [0] 20 H kR Z ?_))))); intro w10 H; have hd10 := PLe.refl G8
   refine RD_t 0 Z kR Z (fun _ hK => v_fieldAddr 2 runUnderlying27 Z sizeOf25 Z Z) (RD_t 1 Z kR Z (fun _ hK => v_load_B 0 hK isAgg25 Z Z Z) (vM 2 Z Z ?_))
   have hl11 := hr1''.len
   obtain ⟨b11, o11, z11, q11, ha11, hz11, hq11, hE11, hrow11, _⟩ := hr1''.at (i := i) oM
   clear hq11
   obtain ⟨a11, m11, c11, rfl, hi11, hr11⟩ := hE11; have hy_hi11 : _ ≤ 16777216 := hi11; have hn_hr11 := hr11.len; have hx_hr11 : _ ≤ 1099511627776 := hr11.lim
   have hze : sx = z11 := Option.some.inj (ie.symm.trans hz11); subst hze
   refine RD_t 3 Z kR Z (fun _ hK => v_index_P (i := i) ha11 underlying25 sizeOf46 Z Z ib oM) (RD_t 4 Z kR Z (fun _ hK => v_fieldAddr 1 runUnderlying46 Z sizeOf24 Z Z) (RD_t 5 Z kR Z (fun _ hK => v_load_P hK isAgg24 Z (hrow11 1 _ Z)) (RD_t 6 Z kR Z (fun _ hK => v_fieldAddr 0 runUnderlying27 Z sizeOf23 Z Z) (RD_t 7 Z kR Z (fun _ hK => v_load_B 0 hK isAgg23 Z Z Z) (vM 8 Z Z ?_)))))
   have hl12 := hr1.len
   obtain ⟨b12, o12, z12, q12, ha12, hz12, hq12, hE12, hrow12, _⟩ := hr1.at (i := k) oM
   clear hq12
   obtain ⟨a12, m12, c12, rfl, hi12, hr12, hj12⟩ := hE12; have hn_hr12 := hr12.len; have hx_hr12 : _ ≤ 1099511627776 := hr12.lim
   try (obtain ⟨hbv, hb1, hb2, hb3, hb4, hb5, hb6⟩ := Sp.held_bnd hVx hz12)
   refine RD_t 9 Z kR Z (fun _ hK => v_index_P (i := k) ha12 underlying23 sizeOf42 Z Z Z oM) (RD_t 10 Z kR Z (fun _ hK => v_fieldAddr 0 runUnderlying42 Z sizeOf3 Z Z) (RD_t 11 Z kR Z (fun _ hK => v_load_P hK isAgg3 Z (hrow12 0 _ Z)) (RD_t 13 Z kR Z (fun _ hK => v_fieldAddr 0 runUnderlying27 Z sizeOf23 Z Z) (RD_t 14 Z kR Z (fun _ hK => v_load_B 0 hK isAgg23 Z Z Z) (vM 15 Z Z ?_)))))
   have hl13 := hr1.len
   obtain ⟨b13, o13, z13, q13, ha13, hz13, hq13, hE13, hrow13, _⟩ := hr1.at (i := k) oM
   clear hq13
   obtain ⟨a13, m13, c13, rfl, hi13, hr13, hj13⟩ := hE13; have hn_hr13 := hr13.len; have hx_hr13 : _ ≤ 1099511627776 := hr13.lim
   have hzz13 : z12 = z13 := Option.some.inj (hz12.symm.trans hz13)
   subst hzz13
   try (obtain ⟨hbv, hb1, hb2, hb3, hb4, hb5, hb6⟩ := Sp.held_bnd hVx hz12)
   refine RD_t 16 Z kR Z (fun _ hK => v_index_P (i := k) ha13 underlying23 sizeOf42 Z Z Z oM) (RD_t 17 Z kR Z (fun _ hK => v_fieldAddr 2 runUnderlying42 Z sizeOf3 Z Z) (RD_t 18 Z kR Z (fun _ hK => v_load_P hK isAgg3 Z (hrow13 2 _ Z)) ?_))
   refine RD_run [12] kR Z (RDs.cons Z ?_ RDs.nil)
   refine o_call call50 Z Z (l11Count_c _ _ H.sub _ _ hr11 _ ((Sp.dv_parts.1 hdv).2.2.2.1 i sx ie).2.2) ?_
   rintro _ w14 ⟨rfl, ew14⟩; have H := H.step ew14; refine ⟨_, rfl, ?_⟩
   refine R_nil (N_DK (Kn.of' H hd10 (SubL.cons 0 Z SubL.nil)) (RD_t 19 Z kR Z (fun _ hK => v_eql Z Z) (RD_done kR (N_K ?_))))
   refine W_cond Z ?_ ?_
   ·intro hc15
    try simp only [nrm] at hc15
    refine W_region (mV Z (o_fieldAddr 0 runUnderlying27 Z sizeOf23 Z Z Z (o_load_B 0 H isAgg23 Z Z Z Z (mV Z (o_index_P k hr1 underlying23 sizeOf42 Z Z Z Z aN ?_))))); intro b16 o16 z16 q16 hz16 hE16 hrow16
    obtain ⟨a16, m16, c16, rfl, hi16, hr16, hj16⟩ := hE16; have hn_hr16 := hr16.len; have hx_hr16 : _ ≤ 1099511627776 := hr16.lim
    have hzz16 : z12 = z16 := Option.some.inj (hz12.symm.trans hz16)
    subst hzz16
    try (obtain ⟨hbv, hb1, hb2, hb3, hb4, hb5, hb6⟩ := Sp.held_bnd hVx hz12)
    refine o_fieldAddr 1 runUnderlying42 Z sizeOf38 Z Z Z (o_load_P H isAgg38 Z Z (hrow16 1 _ Z) (o_len_slice underlying38 Z Z (o_add Z Z Z oO (aG Z (R_nil (N_B (N_K (W_region (mV Z (o_add Z Z Z oO (aG Z (R_nil ?_))))))))))))
    refine N_lp (hJ := ⟨k + 1, (mm + (m16 : Int)), _, Z, hle8, H, ?inv, Z⟩) (hm := ?hm)
    case hm => omega
    case inv => exact ⟨by omega, by (rw [Sp.only_yes hz12 (by (rw [← Sp.l11Count_eq]; omega))]; omega)⟩
   intro hc15'
   try simp only [nrm] at hc15'
   refine W_skip (N_B (N_K (W_region (mV Z (o_add Z Z Z oO (aG Z (R_nil ?_)))))))
   refine N_lp (hJ := ⟨k + 1, mm, _, Z, hle8, H, ?inv, Z⟩) (hm := ?hm)
   case hm => omega
   case inv => exact ⟨by omega, by (rw [Sp.only_no hz12 (by (rw [← Sp.l11Count_eq]; omega))]; exact hmm)⟩
  intro hc9'
  try simp only [nrm] at hc9'
  refine W_exit (N_K_exit (N_LP_exit (N_B_same (N_K (q2 (mV Z (aG Z (q3 (W_ret (rt1 results21 Z ?_))))))))))
  have hkk : k = d.store.length := by omega
  rw [hkk, List.take_length] at hmm
  exact H.rets (congrArg (Value.int .i64) (by (rw [Sp.cOnly_at hdv hat ie]; exact hmm)))
end Go.Proofs.Tst

namespace Go.Proofs.Tst
open Go Fw Tryz
theorem i_CountOnly_c (w0 : World) (G0 : PH) (hG : PSub G0 w0) (cd : List Value) (d : BDisk) (hd : diskE G0 d cd) (snap : Bs) (hsnap : snap.length ≤ 16777216) (hge : ErrG G0) :
  Calls Tryz.prog 20 #[.agg cd.toArray, str snap] w0 (Rets w0 (.int .i64 (Sp.cOnly d snap))) := by
 obtain ⟨a1, m1, c1, a1', m1', c1', a1'', m1'', c1'', rfl, hr1, hr1', hr1''⟩ := hd; have hn_hr1 := hr1.len; have hx_hr1 : _ ≤ 1099511627776 := hr1.lim; have hn_hr1q := hr1'.len; have hx_hr1q : _ ≤ 1099511627776 := hr1'.lim; have hn_hr1qq := hr1''.len; have hx_hr1qq : _ ≤ 1099511627776 := hr1''.lim
 have H := Hp.init hG
 refine calls_of_W (l := [_, str snap]) func20 Z ntmps20 Z (q2 (o_box H Z Z Z ?_)); intro b2 w2 hb2 H
 refine aG Z (q1 (o_loadagg_B 0 H isAgg27 sizeOf27 Z Z Z Z Z (o_call call28 Z Z (i_countDisk_c _ _ H.sub _ d ⟨_, _, _, _, _, _, _, _, _, Z, hr1, hr1', hr1''⟩ H.lent0 ) ?_)))
 rintro _ w3 ⟨G3, _, _, rfl, H3', ⟨⟨se3, rfl⟩, rfl, hnd3⟩ | ⟨db3, mb3, es3, ck3, xs3, T3, F3, sv3, sn3, c3, FS3, rfl, rfl, hm3, hS3, hN3, hT3, hchk3, hNs3, hSn3, hdv3⟩⟩
 ·skip
  have hge := hge.up H3'.le
  have H := H.borrow0 H3'
  refine ⟨_, Z, ?_⟩
  refine mV Z (o_extract Z Z Z (o_extract Z Z Z (aG Z (aG Z (q3 (W_seq (q2 (mV Z (o_call call29 Z Z (uncounted_hit _ _ H.sub hge _) ?_)))))))))
  rintro _ w4 ⟨rfl, ew4⟩; have H := H.step ew4; refine ⟨_, rfl, ?_⟩
  refine q3 (W_true Z (q2 (aG Z (q3 (W_ret (N_K_ret (rt1 results20 Z ?_)))))))
  have h9 : Sp.DiskValid d = false := by assumption
  exact H.rets (congrArg (Value.int .i64) (by (rw [Sp.cOnly_nov h9])))
 skip
 have hge := hge.up H3'.le
 have H := H.borrow0 H3'
 obtain ⟨avAd, cvAd, rfl⟩ := H.accShape (k := 3) rfl
 have hVx := Sp.valid_iff.1 (Sp.dv_parts.1 hdv3).1; have hNs := hNs3; have hSn := hSn3; have hT := hT3; have hdv := hdv3; have hTc := hT.cnt; have hTl := Sp.tree_len (Sp.dv_parts.1 hdv).2.1; have hs6 := (Sp.dv_parts.1 hdv).2.2.1; have hsnl := hSn.len; have h16 := hVx.len
 refine ⟨_, Z, ?_⟩
 refine mV Z (o_extract Z Z Z (o_extract Z Z Z (aG Z (aG Z (q3 (W_seq (q2 (mV Z (o_call call29 Z Z (uncounted_nil _ _ H.sub) ?_)))))))))
 rintro _ w5 ⟨rfl, ew5⟩; have H := H.step ew5; refine ⟨_, rfl, ?_⟩
 refine q3 (W_false Z (W_skip (N_K (q2 (mV Z (mV Z (o_call call48 Z Z (i_countSnap_c _ _ (H.lendSubL [0, 3]) _ _ _ _ _ _ _ (prow_blk (H.lendPredL (k := 0) (ks := [0, 3]) Z Z)) (H.lendRdL (k := 3) (ks := [0, 3]) Z Z hchk3 aN aN) _ hsnap ) ?_)))))))
 rintro _ w6 ⟨_, rfl, ew6, ⟨⟨se6, rfl⟩, hnx6⟩ | ⟨ix6, z6, rfl, hz6, hat6⟩⟩
 ·skip
  have H := H.step ew6; refine ⟨_, rfl, ?_⟩
  refine mV Z (o_extract Z Z Z (o_extract Z Z Z (aG Z (aG Z (q3 (W_seq (q2 (mV Z (o_call call29 Z Z (uncounted_hit _ _ H.sub hge _) ?_)))))))))
  rintro _ w7 ⟨rfl, ew7⟩; have H := H.step ew7; refine ⟨_, rfl, ?_⟩
  refine q3 (W_true Z (q2 (aG Z (q3 (W_ret (N_K_ret (rt1 results20 Z ?_)))))))
  exact H.rets (congrArg (Value.int .i64) (by (rw [Sp.cOnly_no (by (rw [← Sp.sn_find hSn snap]; exact Sp.at_none (by assumption)))])))
 skip
 have H := H.step ew6; refine ⟨_, rfl, ?_⟩
 refine mV Z (o_extract Z Z Z (o_extract Z Z Z (aG Z (aG Z (q3 (W_seq (q2 (mV Z (o_call call29 Z Z (uncounted_nil _ _ H.sub) ?_)))))))))
 rintro _ w8 ⟨rfl, ew8⟩; have H := H.step ew8; refine ⟨_, rfl, ?_⟩
 refine q3 (W_false Z (W_skip (N_K (q2 ?_))))
 obtain ⟨i, x, s0, hxa, hsx, hs0, hai, htx, hix⟩ := sn_at hSn (n := snap) oM
 obtain rfl : ix6 = i := by omega
 have hxz : z6 = x := Option.some.inj (hz6.symm.trans hsx); subst hxz
 have hvt := ((Sp.dv_parts.1 hdv).2.2.2.1 _ s0 hs0).2.2; have htl0 := Sp.tree_len hvt; have hfl0 := congrArg List.length htx.flat
 refine o_makeMap H Z ?_; intro b9 w9 hb9 H
 have hm9 := MapIs.empty (key := Value.int .i64) 0
 have hS9 := UsR.nil
 refine aG Z (q3 (W_seq (q2 (mV Z ?_))))
 refine o_call call49 Z Z (i_tlist_c _ _ (H.lendSubL [5]) _ (H.lendNs (k := 5) (ks := [5]) Z Z hNs z6.2 (List.mem_map_of_mem (List.mem_of_getElem? hz6))) (sn_ok hSn _ (List.mem_map_of_mem (List.mem_of_getElem? hz6))).1 (by have := (sn_ok hSn _ (List.mem_map_of_mem (List.mem_of_getElem? hz6))).2; omega)) ?_
 rintro _ w10 ⟨_, _, rfl, H10', ⟨F10, rfl, hO10⟩⟩
 have H := H.readersL H10'
 obtain ⟨e210, hP10⟩ := hO10
 obtain ⟨sa10, sc10, rfl⟩ := OwnS.shape hP10
 have hO10 := OIs.mk hP10
 refine ⟨_, Z, ?_⟩
 have hdm1 := dm_nodup H (k := 0) rfl; obtain ⟨Gk1, H, hkl1, hks1⟩ := H.keepF (k := 0) rfl (fun b _ hb => by simp at hb)
 have hrk1 := hO10.rd hks1 hdm1
 have hS3 := hS3.up hkl1
 have hn_hrk1 := hrk1.len
 refine o_len_slice underlying24 Z Z (mV Z (q3 (W_block ?_)))
 obtain ⟨ln11, hln11, H⟩ := H.name (k := 1) rfl
 obtain ⟨ln12, hln12, H⟩ := H.name (k := 6) rfl
 refine W_lp (hf := (Sub.cons (t := 4) Z (Sub.cons (t := 5) Z (Sub.cons (t := 8) Z (Sub.cons (t := 33) Z (Sub.cons (t := 34) Z Sub.nil)))))) (J := fun M w m => ∃ (esm0 : Array MapEntry) (ckm0 : Nat) (xsm0 : List (Int × Value)) (fm0 : Int → Nat) (jj : Nat) (G : PH), M = [(35, .int .i64 (jj : Int))] ∧ PLe Gk1 G ∧ Hp w0 G0 [] w G [blk b9 (.map esm0 ckm0), blk db3 (cl ln11 70), blk mb3 (.map es3 ck3), frag F3, acc 124 2 (.slice avAd sn3.length cvAd) sn3.length c3, frag FS3, blk b2 (cl ln12 27)] ∧ (MapIs (Value.int .i64) esm0 ckm0 xsm0 ∧ UsR xsm0 fm0 ∧ jj ≤ (z6.2.flat []).length ∧ ∀ a, fm0 a = Sp.cntU (z6.2.flat []) a jj ∧ fm0 a ≤ 4 * jj) ∧ m = ((z6.2.flat []).length - jj)) (h0 := ⟨_, _, [], (fun _ => 0), 0, _, Z, PLe.refl _, H, ?inv, Z⟩) (round := ?round)
 case inv => exact ⟨hm9, hS9, (by exact ⟨by omega, fun a => by simp [Sp.cntU]⟩)⟩
 case round =>
  rintro _ w13 _ ⟨esm0, ckm0, xsm0, fm0, jj, G13, rfl, hle13, H, hinv13, rfl⟩
  subst hln11
  subst hln12
  have hS3 := hS3.up hle13
  have hrk1 := hrk1.up hle13
  obtain ⟨hm13_m0, hS13_m0, hinv13⟩ := hinv13
  obtain ⟨hjl, hf⟩ := hinv13
  refine q2 (o_lss Z Z Z (q3 (W_seq ?_)))
  refine W_cond Z ?_ ?_
  ·intro hc14
   try simp only [nrm] at hc14
   refine W_skip (N_K (W_seq (W_block (q2 (o_index_P jj hrk1 underlying24 sizeOf40 Z Z Z Z aN ?_))))); intro b15 o15 z15 q15 hz15 hE15 hrow15
   obtain ⟨a15, m15, c15, rfl, hi15, hr15⟩ := hE15; have hy_hi15 : _ ≤ 16777216 := hi15; have hn_hr15 := hr15.len; have hx_hr15 : _ ≤ 1099511627776 := hr15.lim
   try (have hil := (Sp.tree_at hvt (by (rw [← htx.flat]; exact hz15))).2)
   try (obtain ⟨hbv, hb1, hb2, hb3, hb4, hb5, hb6⟩ := Sp.held_bnd hVx hz15)
   refine o_loadagg_P H isAgg40 sizeOf40 Z Z hrow15 Z (o_alloc H zeroValue40 Z Z ?_); intro b16 w16 hb16 H
   refine o_store_B 0 H sizeOf40 Z Z Z Z Z Z Z Z ?_; intro w17 H
   refine q1 (o_fieldAddr 2 runUnderlying40 Z sizeOf38 Z Z Z (o_load_B 0 H isAgg38 Z Z Z Z (o_len_slice underlying38 Z Z (mV Z (q3 (W_block ?_))))))
   obtain ⟨ln18, hln18, H⟩ := H.name (k := 0) rfl
   obtain ⟨ln19, hln19, H⟩ := H.name (k := 2) rfl
   obtain ⟨ln20, hln20, H⟩ := H.name (k := 7) rfl
   refine W_lp (hf := (Sub.cons (t := 4) Z (Sub.cons (t := 5) Z (Sub.cons (t := 8) Z (Sub.cons (t := 33) Z (Sub.cons (t := 34) Z (Sub.cons (t := 35) Z (Sub.cons (t := 40) Z (Sub.cons (t := 41) Z Sub.nil))))))))) (J := fun M w m => ∃ (esm0 : Array MapEntry) (ckm0 : Nat) (xsm0 : List (Int × Value)) (fm0 : Int → Nat) (kk : Nat) (G : PH), M = [(42, .int .i64 (kk : Int))] ∧ PLe G13 G ∧ Hp w0 G0 [] w G [blk b16 (cl ln18 40), blk b9 (.map esm0 ckm0), blk db3 (cl ln19 70), blk mb3 (.map es3 ck3), frag F3, acc 124 2 (.slice avAd sn3.length cvAd) sn3.length c3, frag FS3, blk b2 (cl ln20 27)] ∧ (MapIs (Value.int .i64) esm0 ckm0 xsm0 ∧ UsR xsm0 fm0 ∧ kk ≤ z15.ids.length ∧ ∀ a, fm0 a = Sp.cntU (z6.2.flat []) a jj + Sp.cnt1 a (z15.ids.take kk) ∧ fm0 a ≤ 4 * jj + kk) ∧ m = (z15.ids.length - kk)) (h0 := ⟨_, _, xsm0, fm0, 0, _, Z, PLe.refl _, H, ?inv, Z⟩) (round := ?round)
   case inv => exact ⟨hm13_m0, hS13_m0, (by exact ⟨by omega, fun a => (by have := hf a; simp [Sp.cnt1]; omega)⟩)⟩
   case round =>
    rintro _ w21 _ ⟨esm0, ckm0, xsm0, fm0, kk, G21, rfl, hle21, H, hinv21, rfl⟩
    subst hln18
    subst hln19
    subst hln20
    have hr15 := hr15.up hle21
    have hle13 := hle13.trans hle21
    obtain ⟨hm21_m0, hS21_m0, hinv21⟩ := hinv21
    obtain ⟨hkl, hf2⟩ := hinv21; have hb3 := fun a => (hf2 a).2
    refine q2 (o_lss Z Z Z (q3 (W_seq ?_)))
    refine W_cond Z ?_ ?_
    ·intro hc22
     try simp only [nrm] at hc22
     refine W_skip (N_K (W_seq (W_block (q2 (o_index_P kk hr15 underlying38 sizeOf3 Z Z Z Z aN ?_))))); intro b23 o23 z23 q23 hz23 hE23 hrow23
     obtain ⟨rfl, hi23⟩ := hE23
     try (have hil := (Sp.tree_at hvt (by (rw [← htx.flat]; exact hz23))).2)
     try (obtain ⟨hbv, hb1, hb2, hb3, hb4, hb5, hb6⟩ := Sp.held_bnd hVx hz23)
     refine o_load_P H isAgg3 Z Z (hrow23 0 _ Z) (aG Z (q3 (W_region (mV Z (mV Z (o_lookU (H.at (k := 1) Z) hm21_m0 hS21_m0 underlying92 underlying3 zeroValue3 Z Z Z ?_))))))
     try (have h7 := hb3 z23)
     refine o_add Z Z Z oO (o_updU 1 H (fm0 z23 + 1) Z hm21_m0 hS21_m0 underlying92 underlying3 Z Z Z oM ?_); intro es26 ck26 xs26 w26 H hm26 hS26
     refine R_nil (N_B (N_K (W_region (o_add Z Z Z oO (mV Z (R_nil ?_))))))
     refine N_lp (hJ := ⟨_, _, xs26, (fun a => if a = z23 then (fm0 z23 + 1) else fm0 a), kk + 1, _, Z, hle21, H, ?inv, Z⟩) (hm := ?hm)
     case hm => omega
     case inv => exact ⟨hm26, hS26, (by exact ⟨by omega, fun a => (by have h9 := hf2 a; have h7 := hf2 z23; (rw [Sp.cnt1_succ hz23]); by_cases e : a = z23; (· subst e; simp; omega); (· have e2 : ¬ z23 = a := fun h => e h.symm; simp only [e, e2, if_false]; omega))⟩)⟩
    intro hc22'
    try simp only [nrm] at hc22'
    refine W_exit (N_K_exit (N_LP_exit (N_B_same (N_B (N_K (W_region (o_add Z Z Z oO (mV Z (R_nil ?_)))))))))
    have H := H.del (k := 0) rfl
    refine N_lp (hJ := ⟨_, _, xsm0, fm0, jj + 1, _, Z, hle13, H, ?inv, Z⟩) (hm := ?hm)
    case hm => omega
    case inv => exact ⟨hm21_m0, hS21_m0, (by exact ⟨by omega, fun a => (by have h9 := hf2 a; (rw [Sp.cntU_succ hz15]); (rw [List.take_of_length_le (l := z15.ids) oM] at h9); omega)⟩)⟩
  intro hc14'
  try simp only [nrm] at hc14'
  refine W_exit (N_K_exit (N_LP_exit (N_B_same (N_K (q2 ?_)))))
  have hft : ∀ a, fm0 a = Sp.cntL s0.tree a := fun a => by (rw [(hf a).1, show jj = (z6.2.flat []).length from by omega, htx.flat]; exact Sp.l11Count_eq s0.tree a)
  refine aG Z (q3 (W_seq (q2 (mV Z (o_nilCheck Z Z (o_fieldAddr 2 runUnderlying70 Z sizeOf67 Z Z Z (o_fieldAddr 0 runUnderlying67 Z sizeOf64 Z Z Z (o_load_B 1 H isAgg64 Z Z Z Z (o_call call30 Z Z (i_slist_c _ _ (H.lendSubL [2]) _ _ _ _ _ (H.lendPredL (k := 2) (ks := [2]) Z Z) hm3 (hS3.up (PPlus.le _ _ _)) hVx ) ?_)))))))))
  rintro _ w29 ⟨_, _, rfl, H29', ⟨F29, rfl, hO29⟩⟩
  have H := H.readersL H29'
  obtain ⟨e229, hP29⟩ := hO29
  obtain ⟨sa29, sc29, rfl⟩ := OwnS.shape hP29
  have hO29 := OHs.mk hP29
  refine ⟨_, Z, ?_⟩
  have hdm2 := dm_nodup H (k := 0) rfl; obtain ⟨Gk2, H, hkl2, hks2⟩ := H.keepF (k := 0) rfl (fun b _ hb => by simp at hb)
  have hrk2 := hO29.rd hks2 hdm2
  have hn_hrk2 := hrk2.len
  refine o_len_slice underlying23 Z Z (mV Z (q3 (W_block ?_)))
  have H := H.del (k := 1) rfl
  have H := H.del (k := 1) rfl
  have H := H.del (k := 1) rfl
  have H := H.del (k := 1) rfl
  have H := H.del (k := 1) rfl
  obtain ⟨ln30, hln30, H⟩ := H.name (k := 1) rfl
  refine W_lp (hf := (Sub.cons (t := 4) Z (Sub.cons (t := 8) Z (Sub.cons (t := 57) Z (Sub.cons (t := 58) Z Sub.nil))))) (J := fun M w m => ∃ (k : Nat) (mm : Int) (G : PH), M = [(59, .int .i64 (k : Int)), (13, .int .i64 mm)] ∧ PLe Gk2 G ∧ Hp w0 G0 [] w G [blk b9 (.map esm0 ckm0), blk b2 (cl ln30 27)] ∧ (k ≤ d.store.length ∧ mm = (Sp.onlyN (d.store.take k) s0.tree : Int)) ∧ m = (d.store.length - k)) (h0 := ⟨0, 0, _, Z, PLe.refl _, H, ?inv, Z⟩) (round := ?round)
  case inv => exact ⟨by omega, rfl⟩
  case round =>
   rintro _ w31 _ ⟨k, mm, G31, rfl, hle31, H, hinv31, rfl⟩
   subst hln30
   have hrk2 := hrk2.up hle31
   obtain ⟨hk, hmm⟩ := hinv31; have hcb := Sp.only_bnd hVx k s0.tree
   refine q2 (o_lss Z Z Z (q3 (W_seq ?_)))
   refine W_cond Z ?_ ?_
   ·intro hc32
    try simp only [nrm] at hc32
    refine W_skip (N_K (W_seq (W_block (q2 (o_index_P k hrk2 underlying23 sizeOf42 Z Z Z Z aN ?_))))); intro b33 o33 z33 q33 hz33 hE33 hrow33
    obtain ⟨a33, m33, c33, rfl, hi33, hr33, hj33⟩ := hE33; have hn_hr33 := hr33.len; have hx_hr33 : _ ≤ 1099511627776 := hr33.lim
    try (have hil := (Sp.tree_at hvt (by (rw [← htx.flat]; exact hz33))).2)
    try (obtain ⟨hbv, hb1, hb2, hb3, hb4, hb5, hb6⟩ := Sp.held_bnd hVx hz33)
    refine o_loadagg_P H isAgg42 sizeOf42 Z Z hrow33 Z (o_alloc H zeroValue42 Z Z ?_); intro b34 w34 hb34 H
    refine o_store_B 0 H sizeOf42 Z Z Z Z Z Z Z Z ?_; intro w35 H
    refine q1 (mV Z (o_fieldAddr 0 runUnderlying42 Z sizeOf3 Z Z Z (o_load_B 0 H isAgg3 Z Z Z Z (o_lookU (H.at (k := 1) Z) hm13_m0 hS13_m0 underlying92 underlying3 zeroValue3 Z Z Z ?_))))
    try (have h7 := hb3 z33)
    refine o_fieldAddr 2 runUnderlying42 Z sizeOf3 Z Z Z (o_load_B 0 H isAgg3 Z Z Z Z (o_eql Z Z Z (q3 ?_)))
    refine W_cond Z ?_ ?_
    ·intro hc37
     try simp only [nrm] at hc37
     refine W_region (mV Z (o_fieldAddr 1 runUnderlying42 Z sizeOf38 Z Z Z (o_load_B 0 H isAgg38 Z Z Z Z (o_len_slice underlying38 Z Z (o_add Z Z Z oO (aG Z (R_nil (N_B (N_K (W_region (o_add Z Z Z oO (mV Z (R_nil ?_)))))))))))))
     have H := H.del (k := 0) rfl
     refine N_lp (hJ := ⟨k + 1, (mm + (m33 : Int)), _, Z, hle31, H, ?inv, Z⟩) (hm := ?hm)
     case hm => omega
     case inv => exact ⟨by omega, by (rw [Sp.only_yes hz33 (by (rw [← hft]; omega))]; omega)⟩
    intro hc37'
    try simp only [nrm] at hc37'
    refine W_skip (N_B (N_K (W_region (o_add Z Z Z oO (mV Z (R_nil ?_))))))
    have H := H.del (k := 0) rfl
    refine N_lp (hJ := ⟨k + 1, mm, _, Z, hle31, H, ?inv, Z⟩) (hm := ?hm)
    case hm => omega
    case inv => exact ⟨by omega, by (rw [Sp.only_no hz33 (by (rw [← hft]; omega))]; exact hmm)⟩
   intro hc32'
   try simp only [nrm] at hc32'
   refine W_exit (N_K_exit (N_LP_exit (N_B_same (N_K (q2 (mV Z (aG Z (q3 (W_ret (rt1 results20 Z ?_))))))))))
   have hkk : k = d.store.length := by omega
   rw [hkk, List.take_length] at hmm
   exact H.rets (congrArg (Value.int .i64) (by (rw [Sp.cOnly_at hdv hai hs0]; exact hmm)))
end Go.Proofs.Tst

