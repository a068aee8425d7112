/- Part 7 of the proof: the program logic and plain functions. Conditions: none. -/
import Derived.Test.YtejelpcappbmiaaGreatDoorProg
import Derived.Test.YtejelpcappbmiaaGreatDoorG02
import Derived.Test.YtejelpcappbmiaaGreatDoorG03
import Derived.Test.YtejelpcappbmiaaGreatDoorG04
import Derived.Test.YtejelpcappbmiaaGreatDoorG06
import Derived.Test.YtejelpcappbmiaaGreatDoorG05
import Derived.WideKeyArgs
import Derived.ChangeArms
import Derived.DataElems
import Derived.ChangeSame
set_option linter.all false
set_option maxRecDepth 100000
set_option maxHeartbeats 8000000
namespace Go.Proofs.Tst
open Go Fw Tryz
theorem l12Copy_c (w0:World)(G0:PH)(hG:PSub G0 w0)(cd:List Value)(d:BDisk)(hd:diskE G0 d cd) :
  Calls Tryz.prog 66 #[.agg cd.toArray] w0 (RetO w0 G0 (fun G val r=>∃u u1 u2,val= .agg #[u,u1,u2]∧AccOf snapE 2 107 d.snaps G u2 r∧RdH G u d.store∧RdItems G u1 d.tree)):=by
 obtain⟨_,_,_,_,_,_,_,_,_,rfl,hr1,hr1',hr1'',⟨_,_⟩,⟨_,_⟩,_,_⟩:=ox hd
 have H:=Hp.init hG
 refine calls_of_W (l:=[_]) func66 Z ntmps66 Z (q2 (o_box H Z Z Z ?_));intro b2 _ _ H
 refine xal H Z ?_;intro b3 _ _ H
 refine q3 ?_
 obtain⟨ljb3,hljb3,H⟩:=H.name (k:=0) rfl
 obtain⟨ljb2,hljb2,H⟩:=H.name (k:=1) rfl
 have hj4:=PLe.refl G0
 refine W_join (hf:=(Sub.cons (t:=1) Z (Sub.cons (t:=2) Z Sub.nil))) (J:=fun M w=>∃(jb:Nat) (ja jc:Option Addr) (jm jk jn jl:Nat) (ve:Value) (ce:List Value) (ne:Nat) (G:PH),M=[(3,.pointer (some ⟨jb,0,none⟩))]∧PLe G0 G∧Hp w0 G0 [] w G [acc 107 2 ve ne ce,blk jb (cl [.slice ja jm jk,.slice jc jn jl,ve] 27),blk b3 (cl ljb3 27),blk b2 (cl ljb2 27)]∧(RdH G (.slice ja jm jk) d.store∧RdItems G (.slice jc jn jl) d.tree∧Chk snapE 2 G ce ([]:List BSnap)∧ne=0)) (first:=?_) (second:=?_)
 ·skip
  subst hljb3
  subst hljb2
  refine W_drawK [0,1] 10 H kR Z ?_;intro _ H;have hd5:=PLe.refl G0
  refine dF 0 0 Z2 (dB 1 1 Z4 (dF 3 1 Z2 (dB 4 1 Z4 ?_)))
  refine RD_run [2,6,8] kR Z (RDs.cons Z ?_ (RDs.cons Z ?_ (RDs.cons Z ?_ RDs.nil)))
  ·skip
   refine xc Z2 (l3Copy_c _ _ H.sub _ _ hr1) ?_
   rintro _ _ ⟨_,_,_,g6,rfl,⟨_,rfl,hchk6⟩,hp6,hq6,hs6⟩
   have H:=H.growO g6 hp6 hq6 hs6;obtain⟨_,_,rfl⟩:=H.accShape (k:=0) rfl
   have hr1':=hr1'.up g6.le
   have hj4:=hj4.trans g6.le
   have hd5:=hd5.trans g6.le
   refine⟨_,Z,?_⟩
   refine q4 H hd5 ?_
   refine RD_run [5,6,8] kR Z (RDs.cons Z ?_ (RDs.cons Z ?_ (RDs.cons Z ?_ RDs.nil)))
   ·skip
    refine xc Z2 (l5All_c _ _ H.sub _ _ hr1') ?_
    rintro _ _ ⟨_,_,_,g7,rfl,⟨_,rfl,hchk7⟩,hp7,hq7,hs7⟩
    have H:=H.growO g7 hp7 hq7 hs7;obtain⟨_,_,rfl⟩:=H.accShape (k:=0) rfl
    have hchk6:=hchk6.up g7.le
    have hj4:=hj4.trans g7.le
    have hd5:=hd5.trans g7.le
    refine⟨_,Z,?_⟩
    refine q4 H hd5 ?_
    refine r2 6 8 Z2 ?_ ?_
    ·skip
     refine xbs H Z7 ?_;intro _ _ _ H
     have H:=H.blkAcc 2 (k:=0) (n:=0) rfl rfl (by decide)
     refine q4 H hd5 (RD_t 7 Z kR Z (fun _ hK=>v_build bf27 Z Z) (r1 8 Z (xal H Z ?_)));intro _ _ _ H
     refine q4 H hd5 (r1 9 Z (xst 0 H Z8 ?_));intro _ H
     refine R_nil (N_DKlast kR kR ?_)
     obtain⟨_,H,hsg512,hsr512⟩:=H.shut' (k:=3) rfl hchk6 aN aN
     have hchk7:=hchk7.up hsg512
     have hj4:=hj4.trans hsg512
     obtain⟨G513,H,hsg513,hsr513⟩:=H.shut' (k:=2) rfl hchk7 aN aN
     have hsr512:=hsr512.up hsg513
     have hj4:=hj4.trans hsg513
     have H:=H.tF 3
     have H:=H.tF 3
     have H:=H.tF 2
     have H:=H.tF 3
     exact N_J ⟨_,_,_,_,_,_,_,_,_,_,_,Z,hj4,H,⟨hsr512,hsr513,(Chk.nil (E:=snapE) (sz:=2) (G:=G513)),Z⟩⟩
    skip
    refine xal H Z ?_;intro _ _ _ H
    refine q4 H hd5 (r1 6 Z (xbs H Z7 ?_));intro _ _ _ H
    have H:=H.blkAcc 2 (k:=0) (n:=0) rfl rfl (by decide)
    refine q4 H hd5 (RD_t 7 Z kR Z (fun _ hK=>v_build bf27 Z Z) (r1 9 Z (xst 1 H Z8 ?_)));intro _ H
    refine R_nil (N_DKlast kR kR ?_)
    obtain⟨_,H,hsg517,hsr517⟩:=H.shut' (k:=3) rfl hchk6 aN aN
    have hchk7:=hchk7.up hsg517
    have hj4:=hj4.trans hsg517
    obtain⟨G518,H,hsg518,hsr518⟩:=H.shut' (k:=2) rfl hchk7 aN aN
    have hsr517:=hsr517.up hsg518
    have hj4:=hj4.trans hsg518
    have H:=H.tF 3
    have H:=H.tF 3
    have H:=H.tF 3
    have H:=H.tF 3
    exact N_J ⟨_,_,_,_,_,_,_,_,_,_,_,Z,hj4,H,⟨hsr517,hsr518,(Chk.nil (E:=snapE) (sz:=2) (G:=G518)),Z⟩⟩
   ·skip
    refine xbs H Z7 ?_;intro _ _ _ H
    have H:=H.blkAcc 2 (k:=0) (n:=0) rfl rfl (by decide)
    refine q4 H hd5 ?_
    refine r2 5 8 Z2 ?_ ?_
    ·skip
     refine xc Z2 (l5All_c _ _ H.sub _ _ hr1') ?_
     rintro _ _ ⟨_,_,_,g15,rfl,⟨_,rfl,hchk15⟩,hp15,hq15,hs15⟩
     have H:=H.growO g15 hp15 hq15 hs15;obtain⟨_,_,rfl⟩:=H.accShape (k:=0) rfl
     have hchk6:=hchk6.up g15.le
     have hj4:=hj4.trans g15.le
     have hd5:=hd5.trans g15.le
     refine⟨_,Z,?_⟩
     refine q4 H hd5 (RD_t 7 Z kR Z (fun _ hK=>v_build bf27 Z Z) (r1 8 Z (xal H Z ?_)));intro _ _ _ H
     refine q4 H hd5 (r1 9 Z (xst 0 H Z8 ?_));intro _ H
     refine R_nil (N_DKlast kR kR ?_)
     obtain⟨_,H,hsg523,hsr523⟩:=H.shut' (k:=3) rfl hchk6 aN aN
     have hchk15:=hchk15.up hsg523
     have hj4:=hj4.trans hsg523
     obtain⟨G524,H,hsg524,hsr524⟩:=H.shut' (k:=1) rfl hchk15 aN aN
     have hsr523:=hsr523.up hsg524
     have hj4:=hj4.trans hsg524
     have H:=H.tF 3
     have H:=H.tF 3
     have H:=H.tF 2
     have H:=H.tF 3
     exact N_J ⟨_,_,_,_,_,_,_,_,_,_,_,Z,hj4,H,⟨hsr523,hsr524,(Chk.nil (E:=snapE) (sz:=2) (G:=G524)),Z⟩⟩
    skip
    refine xal H Z ?_;intro _ _ _ H
    refine q4 H hd5 (r1 5 Z (xc Z2 (l5All_c _ _ H.sub _ _ hr1') ?_))
    rintro _ _ ⟨_,_,_,g19,rfl,⟨_,rfl,hchk19⟩,hp19,hq19,hs19⟩
    have H:=H.growO g19 hp19 hq19 hs19;obtain⟨_,_,rfl⟩:=H.accShape (k:=0) rfl
    have hchk6:=hchk6.up g19.le
    have hj4:=hj4.trans g19.le
    have hd5:=hd5.trans g19.le
    refine⟨_,Z,?_⟩
    refine q4 H hd5 (RD_t 7 Z kR Z (fun _ hK=>v_build bf27 Z Z) (r1 9 Z (xst 1 H Z8 ?_)));intro _ H
    refine R_nil (N_DKlast kR kR ?_)
    obtain⟨_,H,hsg528,hsr528⟩:=H.shut' (k:=3) rfl hchk6 aN aN
    have hchk19:=hchk19.up hsg528
    have hj4:=hj4.trans hsg528
    obtain⟨G529,H,hsg529,hsr529⟩:=H.shut' (k:=0) rfl hchk19 aN aN
    have hsr528:=hsr528.up hsg529
    have hj4:=hj4.trans hsg529
    have H:=H.tF 3
    have H:=H.tF 3
    have H:=H.tF 2
    have H:=H.tF 3
    exact N_J ⟨_,_,_,_,_,_,_,_,_,_,_,Z,hj4,H,⟨hsr528,hsr529,(Chk.nil (E:=snapE) (sz:=2) (G:=G529)),Z⟩⟩
   skip
   refine xal H Z ?_;intro _ _ _ H
   refine q4 H hd5 ?_
   refine r2 5 6 Z2 ?_ ?_
   ·skip
    refine xc Z2 (l5All_c _ _ H.sub _ _ hr1') ?_
    rintro _ _ ⟨_,_,_,g22,rfl,⟨_,rfl,hchk22⟩,hp22,hq22,hs22⟩
    have H:=H.growO g22 hp22 hq22 hs22;obtain⟨_,_,rfl⟩:=H.accShape (k:=0) rfl
    have hchk6:=hchk6.up g22.le
    have hj4:=hj4.trans g22.le
    have hd5:=hd5.trans g22.le
    refine⟨_,Z,?_⟩
    refine q4 H hd5 (r1 6 Z (xbs H Z7 ?_));intro _ _ _ H
    have H:=H.blkAcc 2 (k:=0) (n:=0) rfl rfl (by decide)
    refine q4 H hd5 (RD_t 7 Z kR Z (fun _ hK=>v_build bf27 Z Z) (r1 9 Z (xst 2 H Z8 ?_)));intro _ H
    refine R_nil (N_DKlast kR kR ?_)
    obtain⟨_,H,hsg534,hsr534⟩:=H.shut' (k:=3) rfl hchk6 aN aN
    have hchk22:=hchk22.up hsg534
    have hj4:=hj4.trans hsg534
    obtain⟨G535,H,hsg535,hsr535⟩:=H.shut' (k:=1) rfl hchk22 aN aN
    have hsr534:=hsr534.up hsg535
    have hj4:=hj4.trans hsg535
    have H:=H.tF 3
    have H:=H.tF 3
    have H:=H.tF 3
    have H:=H.tF 3
    exact N_J ⟨_,_,_,_,_,_,_,_,_,_,_,Z,hj4,H,⟨hsr534,hsr535,(Chk.nil (E:=snapE) (sz:=2) (G:=G535)),Z⟩⟩
   skip
   refine xbs H Z7 ?_;intro _ _ _ H
   have H:=H.blkAcc 2 (k:=0) (n:=0) rfl rfl (by decide)
   refine q4 H hd5 (r1 5 Z (xc Z2 (l5All_c _ _ H.sub _ _ hr1') ?_))
   rintro _ _ ⟨_,_,_,g26,rfl,⟨_,rfl,hchk26⟩,hp26,hq26,hs26⟩
   have H:=H.growO g26 hp26 hq26 hs26;obtain⟨_,_,rfl⟩:=H.accShape (k:=0) rfl
   have hchk6:=hchk6.up g26.le
   have hj4:=hj4.trans g26.le
   have hd5:=hd5.trans g26.le
   refine⟨_,Z,?_⟩
   refine q4 H hd5 (RD_t 7 Z kR Z (fun _ hK=>v_build bf27 Z Z) (r1 9 Z (xst 2 H Z8 ?_)));intro _ H
   refine R_nil (N_DKlast kR kR ?_)
   obtain⟨_,H,hsg539,hsr539⟩:=H.shut' (k:=3) rfl hchk6 aN aN
   have hchk26:=hchk26.up hsg539
   have hj4:=hj4.trans hsg539
   obtain⟨G540,H,hsg540,hsr540⟩:=H.shut' (k:=0) rfl hchk26 aN aN
   have hsr539:=hsr539.up hsg540
   have hj4:=hj4.trans hsg540
   have H:=H.tF 3
   have H:=H.tF 3
   have H:=H.tF 3
   have H:=H.tF 3
   exact N_J ⟨_,_,_,_,_,_,_,_,_,_,_,Z,hj4,H,⟨hsr539,hsr540,(Chk.nil (E:=snapE) (sz:=2) (G:=G540)),Z⟩⟩
  ·skip
   refine xbs H Z7 ?_;intro _ _ _ H
   have H:=H.blkAcc 2 (k:=0) (n:=0) rfl rfl (by decide)
   refine q4 H hd5 ?_
   refine r2 2 8 Z2 ?_ ?_
   ·skip
    refine xc Z2 (l3Copy_c _ _ H.sub _ _ hr1) ?_
    rintro _ _ ⟨_,_,_,g29,rfl,⟨_,rfl,hchk29⟩,hp29,hq29,hs29⟩
    have H:=H.growO g29 hp29 hq29 hs29;obtain⟨_,_,rfl⟩:=H.accShape (k:=0) rfl
    have hr1':=hr1'.up g29.le
    have hj4:=hj4.trans g29.le
    have hd5:=hd5.trans g29.le
    refine⟨_,Z,?_⟩
    refine q4 H hd5 ?_
    refine r2 5 8 Z2 ?_ ?_
    ·skip
     refine xc Z2 (l5All_c _ _ H.sub _ _ hr1') ?_
     rintro _ _ ⟨_,_,_,g30,rfl,⟨_,rfl,hchk30⟩,hp30,hq30,hs30⟩
     have H:=H.growO g30 hp30 hq30 hs30;obtain⟨_,_,rfl⟩:=H.accShape (k:=0) rfl
     have hchk29:=hchk29.up g30.le
     have hj4:=hj4.trans g30.le
     have hd5:=hd5.trans g30.le
     refine⟨_,Z,?_⟩
     refine q4 H hd5 (RD_t 7 Z kR Z (fun _ hK=>v_build bf27 Z Z) (r1 8 Z (xal H Z ?_)));intro _ _ _ H
     refine q4 H hd5 (r1 9 Z (xst 0 H Z8 ?_));intro _ H
     refine R_nil (N_DKlast kR kR ?_)
     obtain⟨_,H,hsg546,hsr546⟩:=H.shut' (k:=2) rfl hchk29 aN aN
     have hchk30:=hchk30.up hsg546
     have hj4:=hj4.trans hsg546
     obtain⟨G547,H,hsg547,hsr547⟩:=H.shut' (k:=1) rfl hchk30 aN aN
     have hsr546:=hsr546.up hsg547
     have hj4:=hj4.trans hsg547
     have H:=H.tF 3
     have H:=H.tF 3
     have H:=H.tF 2
     have H:=H.tF 3
     exact N_J ⟨_,_,_,_,_,_,_,_,_,_,_,Z,hj4,H,⟨hsr546,hsr547,(Chk.nil (E:=snapE) (sz:=2) (G:=G547)),Z⟩⟩
    skip
    refine xal H Z ?_;intro _ _ _ H
    refine q4 H hd5 (r1 5 Z (xc Z2 (l5All_c _ _ H.sub _ _ hr1') ?_))
    rintro _ _ ⟨_,_,_,g34,rfl,⟨_,rfl,hchk34⟩,hp34,hq34,hs34⟩
    have H:=H.growO g34 hp34 hq34 hs34;obtain⟨_,_,rfl⟩:=H.accShape (k:=0) rfl
    have hchk29:=hchk29.up g34.le
    have hj4:=hj4.trans g34.le
    have hd5:=hd5.trans g34.le
    refine⟨_,Z,?_⟩
    refine q4 H hd5 (RD_t 7 Z kR Z (fun _ hK=>v_build bf27 Z Z) (r1 9 Z (xst 1 H Z8 ?_)));intro _ H
    refine R_nil (N_DKlast kR kR ?_)
    obtain⟨_,H,hsg551,hsr551⟩:=H.shut' (k:=2) rfl hchk29 aN aN
    have hchk34:=hchk34.up hsg551
    have hj4:=hj4.trans hsg551
    obtain⟨G552,H,hsg552,hsr552⟩:=H.shut' (k:=0) rfl hchk34 aN aN
    have hsr551:=hsr551.up hsg552
    have hj4:=hj4.trans hsg552
    have H:=H.tF 3
    have H:=H.tF 3
    have H:=H.tF 2
    have H:=H.tF 3
    exact N_J ⟨_,_,_,_,_,_,_,_,_,_,_,Z,hj4,H,⟨hsr551,hsr552,(Chk.nil (E:=snapE) (sz:=2) (G:=G552)),Z⟩⟩
   skip
   refine xal H Z ?_;intro _ _ _ H
   refine q4 H hd5 (r1 2 Z (xc Z2 (l3Copy_c _ _ H.sub _ _ hr1) ?_))
   rintro _ _ ⟨_,_,_,g37,rfl,⟨_,rfl,hchk37⟩,hp37,hq37,hs37⟩
   have H:=H.growO g37 hp37 hq37 hs37;obtain⟨_,_,rfl⟩:=H.accShape (k:=0) rfl
   have hr1':=hr1'.up g37.le
   have hj4:=hj4.trans g37.le
   have hd5:=hd5.trans g37.le
   refine⟨_,Z,?_⟩
   refine q4 H hd5 (r1 5 Z (xc Z2 (l5All_c _ _ H.sub _ _ hr1') ?_))
   rintro _ _ ⟨_,_,_,g38,rfl,⟨_,rfl,hchk38⟩,hp38,hq38,hs38⟩
   have H:=H.growO g38 hp38 hq38 hs38;obtain⟨_,_,rfl⟩:=H.accShape (k:=0) rfl
   have hchk37:=hchk37.up g38.le
   have hj4:=hj4.trans g38.le
   have hd5:=hd5.trans g38.le
   refine⟨_,Z,?_⟩
   refine q4 H hd5 (RD_t 7 Z kR Z (fun _ hK=>v_build bf27 Z Z) (r1 9 Z (xst 2 H Z8 ?_)));intro _ H
   refine R_nil (N_DKlast kR kR ?_)
   obtain⟨_,H,hsg557,hsr557⟩:=H.shut' (k:=1) rfl hchk37 aN aN
   have hchk38:=hchk38.up hsg557
   have hj4:=hj4.trans hsg557
   obtain⟨G558,H,hsg558,hsr558⟩:=H.shut' (k:=0) rfl hchk38 aN aN
   have hsr557:=hsr557.up hsg558
   have hj4:=hj4.trans hsg558
   have H:=H.tF 3
   have H:=H.tF 3
   have H:=H.tF 2
   have H:=H.tF 3
   exact N_J ⟨_,_,_,_,_,_,_,_,_,_,_,Z,hj4,H,⟨hsr557,hsr558,(Chk.nil (E:=snapE) (sz:=2) (G:=G558)),Z⟩⟩
  skip
  refine xal H Z ?_;intro _ _ _ H
  refine q4 H hd5 ?_
  refine r2 2 6 Z2 ?_ ?_
  ·skip
   refine xc Z2 (l3Copy_c _ _ H.sub _ _ hr1) ?_
   rintro _ _ ⟨_,_,_,g41,rfl,⟨_,rfl,hchk41⟩,hp41,hq41,hs41⟩
   have H:=H.growO g41 hp41 hq41 hs41;obtain⟨_,_,rfl⟩:=H.accShape (k:=0) rfl
   have hr1':=hr1'.up g41.le
   have hj4:=hj4.trans g41.le
   have hd5:=hd5.trans g41.le
   refine⟨_,Z,?_⟩
   refine q4 H hd5 ?_
   refine r2 5 6 Z2 ?_ ?_
   ·skip
    refine xc Z2 (l5All_c _ _ H.sub _ _ hr1') ?_
    rintro _ _ ⟨_,_,_,g42,rfl,⟨_,rfl,hchk42⟩,hp42,hq42,hs42⟩
    have H:=H.growO g42 hp42 hq42 hs42;obtain⟨_,_,rfl⟩:=H.accShape (k:=0) rfl
    have hchk41:=hchk41.up g42.le
    have hj4:=hj4.trans g42.le
    have hd5:=hd5.trans g42.le
    refine⟨_,Z,?_⟩
    refine q4 H hd5 (r1 6 Z (xbs H Z7 ?_));intro _ _ _ H
    have H:=H.blkAcc 2 (k:=0) (n:=0) rfl rfl (by decide)
    refine q4 H hd5 (RD_t 7 Z kR Z (fun _ hK=>v_build bf27 Z Z) (r1 9 Z (xst 3 H Z8 ?_)));intro _ H
    refine R_nil (N_DKlast kR kR ?_)
    obtain⟨_,H,hsg564,hsr564⟩:=H.shut' (k:=2) rfl hchk41 aN aN
    have hchk42:=hchk42.up hsg564
    have hj4:=hj4.trans hsg564
    obtain⟨G565,H,hsg565,hsr565⟩:=H.shut' (k:=1) rfl hchk42 aN aN
    have hsr564:=hsr564.up hsg565
    have hj4:=hj4.trans hsg565
    have H:=H.tF 3
    have H:=H.tF 3
    have H:=H.tF 3
    have H:=H.tF 3
    exact N_J ⟨_,_,_,_,_,_,_,_,_,_,_,Z,hj4,H,⟨hsr564,hsr565,(Chk.nil (E:=snapE) (sz:=2) (G:=G565)),Z⟩⟩
   skip
   refine xbs H Z7 ?_;intro _ _ _ H
   have H:=H.blkAcc 2 (k:=0) (n:=0) rfl rfl (by decide)
   refine q4 H hd5 (r1 5 Z (xc Z2 (l5All_c _ _ H.sub _ _ hr1') ?_))
   rintro _ _ ⟨_,_,_,g46,rfl,⟨_,rfl,hchk46⟩,hp46,hq46,hs46⟩
   have H:=H.growO g46 hp46 hq46 hs46;obtain⟨_,_,rfl⟩:=H.accShape (k:=0) rfl
   have hchk41:=hchk41.up g46.le
   have hj4:=hj4.trans g46.le
   have hd5:=hd5.trans g46.le
   refine⟨_,Z,?_⟩
   refine q4 H hd5 (RD_t 7 Z kR Z (fun _ hK=>v_build bf27 Z Z) (r1 9 Z (xst 3 H Z8 ?_)));intro _ H
   refine R_nil (N_DKlast kR kR ?_)
   obtain⟨_,H,hsg569,hsr569⟩:=H.shut' (k:=2) rfl hchk41 aN aN
   have hchk46:=hchk46.up hsg569
   have hj4:=hj4.trans hsg569
   obtain⟨G570,H,hsg570,hsr570⟩:=H.shut' (k:=0) rfl hchk46 aN aN
   have hsr569:=hsr569.up hsg570
   have hj4:=hj4.trans hsg570
   have H:=H.tF 3
   have H:=H.tF 3
   have H:=H.tF 3
   have H:=H.tF 3
   exact N_J ⟨_,_,_,_,_,_,_,_,_,_,_,Z,hj4,H,⟨hsr569,hsr570,(Chk.nil (E:=snapE) (sz:=2) (G:=G570)),Z⟩⟩
  skip
  refine xbs H Z7 ?_;intro _ _ _ H
  have H:=H.blkAcc 2 (k:=0) (n:=0) rfl rfl (by decide)
  refine q4 H hd5 (r1 2 Z (xc Z2 (l3Copy_c _ _ H.sub _ _ hr1) ?_))
  rintro _ _ ⟨_,_,_,g49,rfl,⟨_,rfl,hchk49⟩,hp49,hq49,hs49⟩
  have H:=H.growO g49 hp49 hq49 hs49;obtain⟨_,_,rfl⟩:=H.accShape (k:=0) rfl
  have hr1':=hr1'.up g49.le
  have hj4:=hj4.trans g49.le
  have hd5:=hd5.trans g49.le
  refine⟨_,Z,?_⟩
  refine q4 H hd5 (r1 5 Z (xc Z2 (l5All_c _ _ H.sub _ _ hr1') ?_))
  rintro _ _ ⟨_,_,_,g50,rfl,⟨_,rfl,hchk50⟩,hp50,hq50,hs50⟩
  have H:=H.growO g50 hp50 hq50 hs50;obtain⟨_,_,rfl⟩:=H.accShape (k:=0) rfl
  have hchk49:=hchk49.up g50.le
  have hj4:=hj4.trans g50.le
  have hd5:=hd5.trans g50.le
  refine⟨_,Z,?_⟩
  refine q4 H hd5 (RD_t 7 Z kR Z (fun _ hK=>v_build bf27 Z Z) (r1 9 Z (xst 3 H Z8 ?_)));intro _ H
  refine R_nil (N_DKlast kR kR ?_)
  obtain⟨_,H,hsg575,hsr575⟩:=H.shut' (k:=1) rfl hchk49 aN aN
  have hchk50:=hchk50.up hsg575
  have hj4:=hj4.trans hsg575
  obtain⟨G576,H,hsg576,hsr576⟩:=H.shut' (k:=0) rfl hchk50 aN aN
  have hsr575:=hsr575.up hsg576
  have hj4:=hj4.trans hsg576
  have H:=H.tF 3
  have H:=H.tF 3
  have H:=H.tF 3
  have H:=H.tF 3
  exact N_J ⟨_,_,_,_,_,_,_,_,_,_,_,Z,hj4,H,⟨hsr575,hsr576,(Chk.nil (E:=snapE) (sz:=2) (G:=G576)),Z⟩⟩
 rintro _ _ ⟨jb,ja,jc,jm,jk,jn,jl,ve,ce,ne,G4,rfl,hle4,H,hinv4⟩
 subst hljb3
 subst hljb2
 have hr1'':=hr1''.up hle4
 obtain⟨hja,hjb,hjc,rfl⟩:=hinv4;obtain⟨_,_,rfl⟩:=H.accShape (k:=0) rfl
 refine W_seq (q2 (aG Z (q3 (W_block ?_))))
 obtain⟨ln52,hln52,H⟩:=H.nameAt (k:=1) (off:=2) rfl rfl
 obtain⟨ln53,hln53,H⟩:=H.name (k:=2) rfl
 obtain⟨ln54,hln54,H⟩:=H.name (k:=3) rfl
 refine W_lp (hf:=(Sub.cons (t:=1) Z (Sub.cons (t:=2) Z (Sub.cons (t:=3) Z Sub.nil)))) (J:=fun M w m=>∃(v:Value) (n:Nat) (cs:List Value) (xs:List (BSnap)) (k:Nat) (G:PH),M=[(4,.int .i64 (k:Int))]∧PLe G4 G∧Hp w0 G0 [] w G [acc 107 2 v n cs,blk jb (cl (setN ln52 2 v) 27),blk b3 (cl ln53 27),blk b2 (cl ln54 27)]∧(Chk snapE 2 G cs xs∧n=xs.length∧k≤d.snaps.length∧xs.length=k∧xs=d.snaps.take k)∧m=(d.snaps.length-k)) (h0:=⟨_,_,_,[],0,_,Z,PLe.refl _,H,?inv,Z⟩) (round:=?round)
 case inv=>exact⟨hjc,by first|rfl|simp|(simp;omega)|omega,(by simp)⟩
 case round =>
  rintro _ _ _ ⟨v,n,cs,xs,k,G55,rfl,hle55,H,hinv55,rfl⟩
  subst hln52
  subst hln53
  subst hln54
  have hr1'':=hr1''.up hle55
  have hja:=hja.up hle55
  have hjb:=hjb.up hle55
  obtain⟨hchk55_0,_,hinv55⟩:=hinv55
  obtain⟨_,_,rfl⟩:=H.accShape (k:=0) rfl
  obtain⟨_,hxl,hxs⟩:=hinv55
  refine W_seq (q2 (mV Z (fA 2 Z (lB 3 H Z3 (lN Z (pe 1 Z (q3 ?_)))))))
  refine W_cond Z ?_ ?_
  ·intro hc56
   try simp only[nrm]at hc56
   refine W_skip (N_K (W_seq (W_block (W_drawK [1,2,3] 20 H kR Z ?_))));intro _ H;have hd57:=PLe.refl G55
   refine dF 0 2 Z2 (dB 1 0 Z4 (dF 2 2 Z2 (dB 3 2 Z4 (dE 4 Z2 ?_))))
   have hl58:=hr1''.len
   obtain⟨_,_,z58,_,ha58,hz58,hq58,hE58,hrow58,_⟩:=hr1''.at (i:=k) oM
   clear hq58
   obtain⟨_,_,_,rfl,hi58,hr58,_,_⟩:=ox hE58
   refine dI 5 2 k ha58 Z3 Z (dF 6 0 Z2 (dP 7 hrow58 0 Z3 (dF 8 2 Z2 (dB 9 2 Z4 (dE 10 Z2 ?_)))))
   have hl59:=hr1''.len
   obtain⟨_,_,z59,_,ha59,hz59,hq59,hE59,hrow59,_⟩:=hr1''.at (i:=k) oM
   clear hq59
   obtain⟨_,_,_,rfl,_,hr59,_,_⟩:=ox hE59
   have hzz59:z58=z59:=Option.some.inj (hz58.symm.trans hz59)
   subst hzz59
   refine dI 11 2 k ha59 Z3 Z (dF 12 1 Z2 (dP 13 hrow59 1 Z3 (r1 14 Z (xc Z2 (l5All_c _ _ H.sub _ _ hr59) ?_))))
   rintro _ _ ⟨_,_,_,g60,rfl,⟨_,rfl,hchk60⟩,hp60,hq60,hs60⟩
   have H:=H.growO g60 hp60 hq60 hs60;obtain⟨_,_,rfl⟩:=H.accShape (k:=0) rfl
   have hchk55_0:=hchk55_0.up g60.le
   have hle55:=hle55.trans g60.le
   have hd57:=hd57.trans g60.le
   refine⟨_,Z,?_⟩
   refine q4 H hd57 (RD_t 15 Z kR Z (fun _ hK=>v_build bf107 Z Z) (r1 16 Z (xbs H Z7 ?_)));intro _ _ _ H
   refine q4 H hd57 (r1 17 Z (o_append1 1 H (sz:=2) (bytes:=40) underlying25 typeInfo107 ⟨_,Z,Z⟩ Z Z Z Z Z Z Z Z Z Z oM Z ?_));intro _ _ H
   obtain⟨_,H,hsg63,hsr63⟩:=H.shut' (k:=0) rfl hchk60 aN aN
   have hchk55_0:=hchk55_0.up hsg63
   have hle55:=hle55.trans hsg63
   have hd57:=hd57.trans hsg63
   have hchk62:=hchk55_0.snoc (show snapE _ ⟨z58.name,z58.tree⟩ _ from⟨_,_,_,rfl,hi58,hsr63⟩) rfl
   obtain⟨_,_,rfl⟩:=H.accShape (k:=0) rfl
   refine q4 H hd57 (dF 18 2 Z2 (r1 19 Z (xst 1 H Z8 ?_)));intro _ H
   refine R_nil (N_DKlast kR kR (N_B (N_K (W_region (mV Z (aD Z2 (aG Z (R_nil ?_))))))))
   refine N_lp (hJ:=⟨_,_,_,(xs++[⟨z58.name,z58.tree⟩]),k+1,_,Z,hle55,H,?inv,Z⟩) (hm:=?hm)
   case hm=>omega
   case inv=>exact⟨hchk62,aN,(by exact⟨by omega,by simp[hxl],by rw[Sp.take_succ' hz58,hxs]⟩)⟩
  intro hc56'
  try simp only[nrm]at hc56'
  refine W_exit (N_K_exit (N_LP_exit (N_B_same (N_K (q2 (lA 1 3 H Z4 (xst 2 H Z8 ?_)))))));intro _ H
  refine q3 (W_ret (ret_gen (rs:=[.cell 2 27]) (vs:=[_]) results66 ⟨⟨_,Z,load_blk 2 H isAgg27 sizeOf27 Z Z Z⟩,trivial⟩ ?_))
  obtain rfl:k=d.snaps.length:=by omega
  rw[List.take_length]at hxs
  subst hxs
  exact H.retO (k:=0) Z ⟨_,_,_,Z,AccOf.mk aN hchk55_0,hja,hjb⟩ (acc_nd _ _ _ _ _)
theorem SnapTake_c (w0:World)(G0:PH)(hG:PSub G0 w0)(cd:List Value)(d:BDisk)(hd:diskE G0 d cd)(name:Bs)(hname:name.length≤16777216) :
  Calls Tryz.prog 17 #[.agg cd.toArray,str name] w0 (RetO w0 G0 (fun G val r=>∃u u1 u2,val= .tuple #[.agg #[u,u1,u2],.bool (Sp.SnapTake d name).isSome]∧AccOf snapE 2 107 (((Sp.SnapTake d name).map (·.snaps)).getD []) G u2 r∧RdH G u (((Sp.SnapTake d name).map (·.store)).getD [])∧RdItems G u1 (((Sp.SnapTake d name).map (·.tree)).getD []))):=by
 obtain⟨_,_,_,_,_,_,_,_,_,rfl,hr1,hr1',hr1'',⟨_,_⟩,⟨_,_⟩,_,_⟩:=ox hd
 have H:=Hp.init hG
 refine calls_of_W (l:=[_,str name]) func17 Z ntmps17 Z (q2 (o_box H Z Z Z ?_));intro _ _ _ H
 refine xal H Z ?_;intro _ _ _ H
 refine aG Z (q3 (W_seq (q2 (lA 1 3 H Z4 (xr H Z2 (DiskValid_c _ _ H.sub _ d ⟨_,_,_,_,_,_,_,_,_,Z,hr1,hr1',hr1''⟩) ?_)))));intro _ H
 refine pe 2 Z ?_
 refine R_case (t:=12) Z ?_ ?_
 ·intro hc5
  try simp only[nrm]at hc5
  refine pe 17 Z (q3 (W_true Z (q2 (o_build bf27 Z Z Z (xst 0 H Z8 ?_)))));intro _ H
  refine aG Z (q3 (W_ret (N_K_ret (ret_gen (rs:=[.cell 4 27,.tmp 5]) (vs:=[_,_]) results17 ⟨⟨_,Z,load_blk 0 H isAgg27 sizeOf27 Z Z Z⟩,Z,trivial⟩ ?_))))
  have hN:Sp.SnapTake d name=none:=by simp[Sp.SnapTake,hc5]
  have H:=H.addNil 107 2
  exact H.retO (k:=0) rfl (by rw[hN];exact⟨_,_,_,rfl,AccOf.mk rfl Chk.nil,RdS.nil _ _ _,RdS.nil _ _ _⟩) (acc_nd _ _ _ _ _)
 intro hc5'
 try simp only[nrm]at hc5'
 refine pe 1 Z (gR Z (xr H Z2 (l1Word_c _ _ hname) ?_));intro _ H
 refine pe 3 Z ?_
 refine R_case (t:=17) Z ?_ ?_
 ·intro hc8
  try simp only[nrm]at hc8
  refine pe 12 Z (q3 (W_true Z (q2 (o_build bf27 Z Z Z (xst 0 H Z8 ?_)))));intro _ H
  refine aG Z (q3 (W_ret (N_K_ret (ret_gen (rs:=[.cell 4 27,.tmp 5]) (vs:=[_,_]) results17 ⟨⟨_,Z,load_blk 0 H isAgg27 sizeOf27 Z Z Z⟩,Z,trivial⟩ ?_))))
  have hN:Sp.SnapTake d name=none:=by simp[Sp.SnapTake,hc8]
  have H:=H.addNil 107 2
  exact H.retO (k:=0) rfl (by rw[hN];exact⟨_,_,_,rfl,AccOf.mk rfl Chk.nil,RdS.nil _ _ _,RdS.nil _ _ _⟩) (acc_nd _ _ _ _ _)
 intro hc8'
 try simp only[nrm]at hc8'
 refine gR Z (fA 2 Z (gR Z (lB 1 H Z3 (pe 1 Z (gR Z (xr H Z2 (l12At_c _ _ H.sub _ _ hr1'' _ hname) ?_))))));intro _ H
 refine pe 3 Z ?_
 refine R_case (t:=24) Z ?_ ?_
 ·intro hc11
  try simp only[nrm]at hc11
  refine pe 5 Z (q3 (W_true Z (q2 (o_build bf27 Z Z Z (xst 0 H Z8 ?_)))));intro _ H
  refine aG Z (q3 (W_ret (N_K_ret (ret_gen (rs:=[.cell 4 27,.tmp 5]) (vs:=[_,_]) results17 ⟨⟨_,Z,load_blk 0 H isAgg27 sizeOf27 Z Z Z⟩,Z,trivial⟩ ?_))))
  have hN:Sp.SnapTake d name=none:=by (obtain⟨_,_,ia,_,_,_,_⟩:=Sp.at_nat hc11);simp[Sp.SnapTake,Sp.atS,ia]
  have H:=H.addNil 107 2
  exact H.retO (k:=0) rfl (by rw[hN];exact⟨_,_,_,rfl,AccOf.mk rfl Chk.nil,RdS.nil _ _ _,RdS.nil _ _ _⟩) (acc_nd _ _ _ _ _)
 intro hc11'
 try simp only[nrm]at hc11'
 refine gR Z (fA 2 Z (gR Z (lB 1 H Z3 (gR Z (lN Z (pe 2 Z (q3 ?_)))))))
 refine W_cond Z ?_ ?_
 ·intro hc13
  try simp only[nrm]at hc13
  refine q2 (o_build bf27 Z Z Z (xst 0 H Z8 ?_));intro _ H
  refine aG Z (q3 (W_ret (N_K_ret (ret_gen (rs:=[.cell 4 27,.tmp 5]) (vs:=[_,_]) results17 ⟨⟨_,Z,load_blk 0 H isAgg27 sizeOf27 Z Z Z⟩,Z,trivial⟩ ?_))))
  have hN:Sp.SnapTake d name=none:=by simp[Sp.SnapTake,show d.snaps.length=6 by omega]
  have H:=H.addNil 107 2
  exact H.retO (k:=0) rfl (by rw[hN];exact⟨_,_,_,rfl,AccOf.mk rfl Chk.nil,RdS.nil _ _ _,RdS.nil _ _ _⟩) (acc_nd _ _ _ _ _)
 intro hc13'
 try simp only[nrm]at hc13'
 refine W_skip (N_K (q2 (fA 0 Z (lB 1 H Z3 (fA 1 Z (lB 1 H Z3 (xc Z2 (l12Keep_c _ _ H.sub _ _ hr1 _ _ hr1') ?_)))))))
 rintro _ _ ⟨_,_,_,g15,rfl,⟨_,rfl,⟨_,rfl,hchk15⟩⟩,hp15,hq15,hs15⟩
 have H:=H.growO g15 hp15 hq15 hs15;obtain⟨_,_,rfl⟩:=H.accShape (k:=0) rfl
 have hr1:=hr1.up g15.le
 have hr1':=hr1'.up g15.le
 have hr1'':=hr1''.up g15.le
 refine⟨_,Z,?_⟩
 have hkl:=Sp.l12Keep_len d.store d.tree
 refine pe 5 Z (q3 (W_seq (q2 (pe 2 Z (q3 ?_)))))
 refine W_cond Z ?_ ?_
 ·intro hc16
  try simp only[nrm]at hc16
  refine q2 (o_build bf27 Z Z Z (xst 1 H Z8 ?_));intro _ H
  refine aG Z (q3 (W_ret (N_K_ret (ret_gen (rs:=[.cell 4 27,.tmp 5]) (vs:=[_,_]) results17 ⟨⟨_,Z,load_blk 1 H isAgg27 sizeOf27 Z Z Z⟩,Z,trivial⟩ ?_))))
  have hN:Sp.SnapTake d name=none:=by (have hno:Sp.l12Keep d.store d.tree=none:=by simpa using hc16);simp[Sp.SnapTake,hno]
  have H:=H.addNil 107 2
  exact H.retO (k:=0) rfl (by rw[hN];exact⟨_,_,_,rfl,AccOf.mk rfl Chk.nil,RdS.nil _ _ _,RdS.nil _ _ _⟩) (acc_nd _ _ _ _ _)
 intro hc16'
 try simp only[nrm]at hc16'
 refine W_skip (N_K (q2 (lA 2 3 H Z4 (xc Z2 (l12Copy_c _ _ H.sub _ d ⟨_,_,_,_,_,_,_,_,_,Z,hr1,hr1',hr1''⟩) ?_))))
 rintro _ _ ⟨G18,_,_,g18,rfl,⟨_,_,_,rfl,⟨_,rfl,hchk18⟩,hr18_0,hr18_1⟩,hp18,hq18,hs18⟩
 have H:=H.growO g18 hp18 hq18 hs18;obtain⟨_,_,rfl⟩:=H.accShape (k:=0) rfl
 have hr1':=hr1'.up g18.le
 have hchk15:=hchk15.up g18.le
 obtain⟨_,_,rfl⟩:=hr18_0.shape;have hx_hr18_0:_≤1099511627776:=hr18_0.lim
 obtain⟨_,_,rfl⟩:=hr18_1.shape;have hx_hr18_1:_≤1099511627776:=hr18_1.lim
 refine⟨_,Z,?_⟩
 refine xal H Z ?_;intro _ _ _ H
 refine xst 0 H Z8 ?_;intro _ H
 refine q1 (mV Z (fA 0 Z (xst 0 H Z8 ?_)));intro _ H
 refine q3 (W_seq (W_drawK [0,3,4] 11 H kR Z ?_));intro _ H;have hd22:=PLe.refl G18
 refine dF 0 2 Z2 (dB 1 0 Z4 (dE 2 Z2 (dF 3 1 Z2 (dB 4 2 Z4 (r1 5 Z (xc Z2 (l5All_c _ _ H.sub _ _ hr1') ?_))))))
 rintro _ _ ⟨_,_,_,g23,rfl,⟨_,rfl,hchk23⟩,hp23,hq23,hs23⟩
 have H:=H.growO g23 hp23 hq23 hs23;obtain⟨_,_,rfl⟩:=H.accShape (k:=0) rfl
 have hchk15:=hchk15.up g23.le
 have hr18_1:=hr18_1.up g23.le
 have hchk18:=hchk18.up g23.le
 have hd22:=hd22.trans g23.le
 refine⟨_,Z,?_⟩
 refine q4 H hd22 (RD_t 6 Z kR Z (fun _ hK=>v_build bf107 Z Z) (r1 7 Z (xbs H Z7 ?_)));intro _ _ _ H
 refine q4 H hd22 (r1 8 Z (o_append1 2 H (sz:=2) (bytes:=40) underlying25 typeInfo107 ⟨_,Z,Z⟩ Z Z Z Z Z Z Z Z Z Z oM Z ?_));intro _ _ H
 obtain⟨_,H,hsg26,hsr26⟩:=H.shut' (k:=0) rfl hchk23 aN aN
 have hchk15:=hchk15.up hsg26
 have hr18_1:=hr18_1.up hsg26
 have hchk18:=hchk18.up hsg26
 have hd22:=hd22.trans hsg26
 have hchk25:=hchk18.snoc (show snapE _ ⟨name,d.tree⟩ _ from⟨_,_,_,rfl,hname,hsr26⟩) rfl
 obtain⟨_,_,rfl⟩:=H.accShape (k:=1) rfl
 refine q4 H hd22 (dF 9 2 Z2 (r1 10 Z (xst 0 H Z8 ?_)));intro _ H
 refine R_nil (N_DKlast kR kR (N_K (q2 (lA 0 3 H Z4 (xst 3 H Z8 ?_)))));intro _ H
 refine aG Z (q3 (W_ret (ret_gen (rs:=[.cell 4 27,.tmp 5]) (vs:=[_,_]) results17 ⟨⟨_,Z,load_blk 3 H isAgg27 sizeOf27 Z Z Z⟩,Z,trivial⟩ ?_)))
 obtain⟨_,H,hsg530,hsr530⟩:=H.shut' (k:=2) rfl hchk15 aN aN
 have hr18_1:=hr18_1.up hsg530
 have hchk25:=hchk25.up hsg530
 have hY:Sp.SnapTake d name=some ⟨(Sp.l12Keep d.store d.tree).getD [],d.tree,d.snaps++[⟨name,d.tree⟩]⟩:=by (obtain⟨_,hp⟩:=Option.isSome_iff_exists.1 hc16');(have hat:Sp.atS d.snaps name=none:=Sp.at_none hc11');simp[Sp.SnapTake,hc5',hc8',hat,hp,show¬d.snaps.length=6 by omega]
 exact H.retO (k:=1) rfl (by rw[hY];exact⟨_,_,_,rfl,AccOf.mk aN hchk25,hsr530,hr18_1⟩) (acc_nd _ _ _ _ _)
theorem SnapTakeP_c (w0:World)(G0:PH)(hG:PSub G0 w0)(cd:List Value)(d:BDisk)(hd:diskE G0 d cd)(name:Bs)(hname:name.length≤16777216) :
  Calls Tryz.prog 17 #[.agg cd.toArray,str name] w0 (RetP w0 G0 (fun G val=>∃cs,val= .tuple #[.agg cs.toArray,.bool (Sp.SnapTake d name).isSome]∧diskE G ((Sp.SnapTake d name).getD ⟨[],[],[]⟩) cs)):=by
 refine(SnapTake_c w0 G0 hG cd d hd name hname).mono ?_
 rintro _ _ ⟨_,_,_,g,rfl,⟨_,_,_,rfl,⟨_,rfl,hchk⟩,h1,h2⟩,hp,hq,hs⟩
 have H:=(Hp.init hG).growO g hp hq hs
 have hb:(((Sp.SnapTake d name).map (·.snaps)).getD []).length≤6:=Sp.dk_lim (fun d1 h=>Sp.take_valid h)
 obtain⟨_,H2,hle,hr⟩:=H.shut' (k:=0) rfl hchk rfl oM
 have e1:((Sp.SnapTake d name).map (·.store)).getD []=((Sp.SnapTake d name).getD ⟨[],[],[]⟩).store:=by cases Sp.SnapTake d name<;>rfl
 have e2:((Sp.SnapTake d name).map (·.tree)).getD []=((Sp.SnapTake d name).getD ⟨[],[],[]⟩).tree:=by cases Sp.SnapTake d name<;>rfl
 have e3:((Sp.SnapTake d name).map (·.snaps)).getD []=((Sp.SnapTake d name).getD ⟨[],[],[]⟩).snaps:=by cases Sp.SnapTake d name<;>rfl
 rw[e1]at h1;rw[e2]at h2;rw[e3]at hr
 obtain⟨_,_,rfl⟩:=h1.shape
 obtain⟨_,_,rfl⟩:=h2.shape
 obtain⟨_,_,rfl⟩:=hr.shape
 exact H2.retP ⟨[_,_,_],Z,_,_,_,_,_,_,_,_,_,Z,h1.up hle,h2.up hle,hr⟩
theorem l12Free_c (w0:World)(G0:PH)(hG:PSub G0 w0)(vstore:Value)(store:List (BHeld))(hstore:RdH G0 vstore store)(vlist:Value)(list:List (BItem))(hlist:RdItems G0 vlist list) :
  Calls Tryz.prog 234 #[vstore,vlist] w0 (RetO w0 G0 (AccOf heldE 3 153 (Sp.l12Free store list))):=by
 obtain⟨astore,kstore,rfl⟩:=hstore.shape
 have hlimstore:store.length≤1099511627776:=hstore.lim
 obtain⟨alist,klist,rfl⟩:=hlist.shape
 have hlimlist:list.length≤1099511627776:=hlist.lim
 have H:=Hp.init hG
 refine calls_of_W (l:=[.slice astore store.length kstore,.slice alist list.length klist]) func234 Z ntmps234 Z (q2 (aG Z (q1 (mV Z (xc Z2 (l3Copy_c _ _ H.sub _ _ hstore) ?_)))))
 rintro _ _ ⟨G1,_,_,g1,rfl,⟨_,rfl,hchk1⟩,hp1,hq1,hs1⟩
 have H:=H.growO g1 hp1 hq1 hs1;obtain⟨_,_,rfl⟩:=H.accShape (k:=0) rfl
 have hlist:=hlist.up g1.le
 refine⟨_,Z,?_⟩
 refine aG Z (q3 (W_seq (q2 (aG Z (q3 (W_block ?_))))))
 refine W_lp (hf:=(Sub.cons (t:=1) Z (Sub.cons (t:=4) Z Sub.nil))) (J:=fun M w m=>∃(v:Value) (n:Nat) (cs:List Value) (xs:List (BHeld)) (k:Nat) (G:PH),M=[(6,.int .i64 (k:Int)),(5,v)]∧PLe G1 G∧Hp w0 G0 [] w G [acc 153 3 v n cs]∧(Chk heldE 3 G cs xs∧n=xs.length∧k≤list.length∧xs.length≤store.length∧xs=Sp.l12Free store (list.take k))∧m=(list.length-k)) (h0:=⟨_,_,_,store,0,_,Z,PLe.refl _,H,?inv,Z⟩) (round:=?round)
 case inv=>exact⟨hchk1,by first|rfl|simp|(simp;omega)|omega,(by exact⟨by omega,by omega,rfl⟩)⟩
 case round =>
  rintro _ _ _ ⟨v,n,cs,xs,k,_,rfl,hle2,H,hinv2,rfl⟩
  have hlist:=hlist.up hle2
  obtain⟨hchk2_0,_,hinv2⟩:=hinv2
  obtain⟨_,_,rfl⟩:=H.accShape (k:=0) rfl
  obtain⟨_,_,hxs⟩:=hinv2
  refine W_seq (q2 (pe 2 Z (lN Z (pe 1 Z (q3 ?_)))))
  refine W_cond Z ?_ ?_
  ·intro hc3
   try simp only[nrm]at hc3
   refine W_skip (N_K (W_seq (W_block (q2 (pe 3 Z (iP k hlist Z3 Z ?_))))));intro _ _ z4 _ hz4 hE4 hrow4
   obtain⟨_,_,_,rfl,_,hr4,_,_⟩:=ox hE4
   refine fA 2 Z (lP H hrow4 2 Z2 ?_)
   obtain⟨_,H,hsg6,hsr6⟩:=H.shut' (k:=0) rfl hchk2_0 aN aN
   have hr4:=hr4.up hsg6
   have hle2:=hle2.trans hsg6
   refine xc Z2 (FileFree_c _ _ H.sub _ _ hsr6 _ _ hr4) ?_
   rintro _ _ ⟨_,_,_,g5,rfl,⟨_,rfl,⟨_,rfl,hchk5⟩⟩,hp5,hq5,hs5⟩
   have H:=H.growO g5 hp5 hq5 hs5;obtain⟨_,_,rfl⟩:=H.accShape (k:=0) rfl
   have hle2:=hle2.trans g5.le
   refine⟨_,Z,?_⟩
   refine pe 5 Z (q3 (W_region (pe 2 Z (R_nil (N_B (N_K (W_region (mV Z (aD Z2 (aG Z (R_nil ?_)))))))))))
   refine N_lp (hJ:=⟨_,_,_,((Sp.FileFree xs z4.ids).getD []),k+1,_,Z,hle2,H,?inv,Z⟩) (hm:=?hm)
   case hm=>omega
   case inv=>exact⟨hchk5,aN,(by exact⟨by omega,by (have:=Sp.free_len xs z4.ids;omega),by (rw[Sp.l12Free_succ hz4,←hxs])⟩)⟩
  intro hc3'
  try simp only[nrm]at hc3'
  refine W_exit (N_K_exit (N_LP_exit (N_B_same (N_K (q2 (pe 2 Z (q3 (W_ret (rt1 results234 Z ?_)))))))))
  obtain rfl:k=list.length:=by omega
  rw[List.take_length]at hxs
  subst hxs
  exact H.retO (k:=0) rfl (AccOf.mk (by assumption) hchk2_0) (acc_nd _ _ _ _ _)
theorem SnapBack_c (w0:World)(G0:PH)(hG:PSub G0 w0)(cd:List Value)(d:BDisk)(hd:diskE G0 d cd)(name:Bs)(hname:name.length≤16777216) :
  Calls Tryz.prog 200 #[.agg cd.toArray,str name] w0 (RetO w0 G0 (fun G val r=>∃u u1 u2,val= .tuple #[.agg #[u,u1,u2],.bool (Sp.SnapBack d name).isSome]∧AccOf snapE 2 107 (((Sp.SnapBack d name).map (·.snaps)).getD []) G u2 r∧RdH G u (((Sp.SnapBack d name).map (·.store)).getD [])∧RdItems G u1 (((Sp.SnapBack d name).map (·.tree)).getD []))):=by
 obtain⟨_,_,_,_,_,_,_,_,_,rfl,hr1,hr1',hr1'',⟨_,_⟩,⟨_,_⟩,_,_⟩:=ox hd
 have H:=Hp.init hG
 refine calls_of_W (l:=[_,str name]) func200 Z ntmps200 Z (q2 (o_box H Z Z Z ?_));intro _ _ _ H
 refine xal H Z ?_;intro _ _ _ H
 refine aG Z (q1 (fA 2 Z (lB 1 H Z3 (mV Z (xr H Z2 (l12At_c _ _ H.sub _ _ hr1'' _ hname) ?_)))));intro _ H
 refine aG Z (q3 (W_seq (q2 (lA 1 3 H Z4 (xr H Z2 (DiskValid_c _ _ H.sub _ d ⟨_,_,_,_,_,_,_,_,_,Z,hr1,hr1',hr1''⟩) ?_)))));intro _ H
 refine pe 2 Z ?_
 refine R_case (t:=17) Z ?_ ?_
 ·intro hc6
  try simp only[nrm]at hc6
  refine pe 3 Z (q3 (W_true Z (q2 (o_build bf27 Z Z Z (xst 0 H Z8 ?_)))));intro _ H
  refine aG Z (q3 (W_ret (N_K_ret (ret_gen (rs:=[.cell 4 27,.tmp 5]) (vs:=[_,_]) results200 ⟨⟨_,Z,load_blk 0 H isAgg27 sizeOf27 Z Z Z⟩,Z,trivial⟩ ?_))))
  have hN:Sp.SnapBack d name=none:=by exact Sp.back_nov (by simpa using hc6)
  have H:=H.addNil 107 2
  exact H.retO (k:=0) rfl (by rw[hN];exact⟨_,_,_,rfl,AccOf.mk rfl Chk.nil,RdS.nil _ _ _,RdS.nil _ _ _⟩) (acc_nd _ _ _ _ _)
 intro hc6'
 try simp only[nrm]at hc6'
 refine pe 3 Z (q3 ?_)
 refine W_cond Z ?_ ?_
 ·intro hc8
  try simp only[nrm]at hc8
  refine q2 (o_build bf27 Z Z Z (xst 0 H Z8 ?_));intro _ H
  refine aG Z (q3 (W_ret (N_K_ret (ret_gen (rs:=[.cell 4 27,.tmp 5]) (vs:=[_,_]) results200 ⟨⟨_,Z,load_blk 0 H isAgg27 sizeOf27 Z Z Z⟩,Z,trivial⟩ ?_))))
  have hN:Sp.SnapBack d name=none:=by exact Sp.back_noat (by simpa [Sp.l12At] using hc8)
  have H:=H.addNil 107 2
  exact H.retO (k:=0) rfl (by rw[hN];exact⟨_,_,_,rfl,AccOf.mk rfl Chk.nil,RdS.nil _ _ _,RdS.nil _ _ _⟩) (acc_nd _ _ _ _ _)
 intro hc8'
 try simp only[nrm]at hc8'
 obtain⟨i,_,ia,ib,_,_,_⟩:=Sp.at_nat hc8'
 have ib:Sp.l12At d.snaps name=(i:Int):=ib
 have hat:Sp.atS d.snaps name=some i:=ia
 refine W_skip (N_K (W_seq (W_drawK [0,1] 14 H kR Z ?_)));intro _ H;have hd10:=PLe.refl G0
 refine dF 0 0 Z2 (dB 1 1 Z4 (dF 2 2 Z2 (dB 3 1 Z4 (dE 4 Z2 ?_))))
 have hl11:=hr1''.len
 obtain⟨_,_,z11,_,ha11,hz11,hq11,hE11,hrow11,_⟩:=hr1''.at (i:=i) oM
 clear hq11
 obtain⟨_,_,_,rfl,_,hr11,_,_⟩:=ox hE11
 refine dI 5 2 i ha11 Z3 ib (dF 6 1 Z2 (dP 7 hrow11 1 Z3 (r1 8 Z (xc Z2 (l12Keep_c _ _ H.sub _ _ hr1 _ _ hr11) ?_))))
 rintro _ _ ⟨_,_,_,g12,rfl,⟨_,rfl,⟨_,rfl,hchk12⟩⟩,hp12,hq12,hs12⟩
 have H:=H.growO g12 hp12 hq12 hs12;obtain⟨_,_,rfl⟩:=H.accShape (k:=0) rfl
 have hr1:=hr1.up g12.le
 have hr1':=hr1'.up g12.le
 have hr1'':=hr1''.up g12.le
 have hd10:=hd10.trans g12.le
 refine⟨_,Z,?_⟩
 have hkl:=Sp.l12Keep_len d.store z11.tree
 refine q4 H hd10 (dE 9 Z2 (dE 10 Z2 (dE 11 Z2 (dE 12 Z2 (dE 13 Z2 (rz (N_K (W_seq (q2 (pe 2 Z (q3 ?_)))))))))))
 refine W_cond Z ?_ ?_
 ·intro hc13
  try simp only[nrm]at hc13
  refine q2 (o_build bf27 Z Z Z (xst 1 H Z8 ?_));intro _ H
  refine aG Z (q3 (W_ret (N_K_ret (ret_gen (rs:=[.cell 4 27,.tmp 5]) (vs:=[_,_]) results200 ⟨⟨_,Z,load_blk 1 H isAgg27 sizeOf27 Z Z Z⟩,Z,trivial⟩ ?_))))
  have hN:Sp.SnapBack d name=none:=by (have hno:Sp.l12Keep d.store z11.tree=none:=by simpa using hc13);(rw[Sp.back_eq (by simpa using hc6') hat hz11,hno];rfl)
  have H:=H.addNil 107 2
  exact H.retO (k:=0) rfl (by rw[hN];exact⟨_,_,_,rfl,AccOf.mk rfl Chk.nil,RdS.nil _ _ _,RdS.nil _ _ _⟩) (acc_nd _ _ _ _ _)
 intro hc13'
 try simp only[nrm]at hc13'
 refine W_skip (N_K (q2 (lA 2 3 H Z4 (xc Z2 (l12Copy_c _ _ H.sub _ d ⟨_,_,_,_,_,_,_,_,_,Z,hr1,hr1',hr1''⟩) ?_))))
 rintro _ _ ⟨_,_,_,g15,rfl,⟨_,_,_,rfl,⟨_,rfl,hchk15⟩,hr15_0,hr15_1⟩,hp15,hq15,hs15⟩
 have H:=H.growO g15 hp15 hq15 hs15;obtain⟨_,_,rfl⟩:=H.accShape (k:=0) rfl
 have hr1':=hr1'.up g15.le
 have hr1'':=hr1''.up g15.le
 have hchk12:=hchk12.up g15.le
 obtain⟨_,_,rfl⟩:=hr15_0.shape;have hx_hr15_0:_≤1099511627776:=hr15_0.lim
 obtain⟨_,_,rfl⟩:=hr15_1.shape;have hx_hr15_1:_≤1099511627776:=hr15_1.lim
 refine⟨_,Z,?_⟩
 refine xal H Z ?_;intro _ _ _ H
 refine xst 0 H Z8 ?_;intro _ H
 refine q1 (mV Z (fA 1 Z (lB 4 H Z3 ?_)))
 obtain⟨_,H,hsg19,hsr19⟩:=H.shut' (k:=2) rfl hchk12 aN aN
 have hr1':=hr1'.up hsg19
 have hr1'':=hr1''.up hsg19
 have hchk15:=hchk15.up hsg19
 refine xc Z2 (l12Free_c _ _ H.sub _ _ hsr19 _ _ hr1') ?_
 rintro _ _ ⟨_,_,_,g18,rfl,⟨_,rfl,hchk18⟩,hp18,hq18,hs18⟩
 have H:=H.growO g18 hp18 hq18 hs18;obtain⟨_,_,rfl⟩:=H.accShape (k:=0) rfl
 have hr1'':=hr1''.up g18.le
 have hchk15:=hchk15.up g18.le
 refine⟨_,Z,?_⟩
 have hfl2:=Sp.l12Free_len d.tree ((Sp.l12Keep d.store z11.tree).getD [])
 refine fA 0 Z (xst 1 H Z8 ?_);intro _ H
 refine q1 (fA 2 Z (lB 4 H Z3 (mV Z (iP i hr1'' Z3 ib ?_))));intro _ _ z21 _ hz21 hE21 hrow21
 obtain⟨_,_,_,rfl,_,hr21,_,_⟩:=ox hE21
 refine fA 1 Z (lP H hrow21 1 Z2 (xc Z2 (l5All_c _ _ H.sub _ _ hr21) ?_))
 rintro _ _ ⟨_,_,_,g22,rfl,⟨_,rfl,hchk22⟩,hp22,hq22,hs22⟩
 have H:=H.growO g22 hp22 hq22 hs22;obtain⟨_,_,rfl⟩:=H.accShape (k:=0) rfl
 have hchk15:=hchk15.up g22.le
 have hchk18:=hchk18.up g22.le
 refine⟨_,Z,?_⟩
 refine fA 1 Z (xst 2 H Z8 ?_);intro _ H
 refine q1 (lA 2 3 H Z4 (xst 4 H Z8 ?_));intro _ H
 refine aG Z (q3 (W_ret (ret_gen (rs:=[.cell 4 27,.tmp 5]) (vs:=[_,_]) results200 ⟨⟨_,Z,load_blk 4 H isAgg27 sizeOf27 Z Z Z⟩,Z,trivial⟩ ?_)))
 have hzz:=Option.some.inj (hz21.symm.trans hz11);subst hzz
 obtain⟨_,H,hsg526,hsr526⟩:=H.shut' (k:=1) rfl hchk18 aN aN
 have hchk15:=hchk15.up hsg526
 have hchk22:=hchk22.up hsg526
 obtain⟨_,H,hsg527,hsr527⟩:=H.shut' (k:=0) rfl hchk22 aN aN
 have hchk15:=hchk15.up hsg527
 have hsr526:=hsr526.up hsg527
 have hY:Sp.SnapBack d name=some ⟨Sp.l12Free ((Sp.l12Keep d.store z21.tree).getD []) d.tree,z21.tree,d.snaps⟩:=by (obtain⟨_,hp⟩:=Option.isSome_iff_exists.1 hc13');(rw[Sp.back_eq (by simpa using hc6') hat hz21,hp];rfl)
 exact H.retO (k:=1) rfl (by rw[hY];exact⟨_,_,_,rfl,AccOf.mk aN hchk15,hsr526,hsr527⟩) (acc_nd _ _ _ _ _)
theorem DiskWrite_c (w0:World)(G0:PH)(hG:PSub G0 w0)(cd:List Value)(d:BDisk)(hd:diskE G0 d cd)(path:Bs)(hpath:path.length≤16777216)(vbytes:Value)(bytes:List (Int))(hbytes:RdI G0 vbytes bytes) :
  Calls Tryz.prog 101 #[.agg cd.toArray,str path,vbytes] w0 (RetO w0 G0 (fun G val r=>∃u u1 u2,val= .tuple #[.agg #[u,u1,u2],.bool (Sp.DiskWrite d path bytes).isSome]∧AccOf snapE 2 107 (((Sp.DiskWrite d path bytes).map (·.snaps)).getD []) G u2 r∧RdH G u (((Sp.DiskWrite d path bytes).map (·.store)).getD [])∧RdItems G u1 (((Sp.DiskWrite d path bytes).map (·.tree)).getD []))):=by
 obtain⟨_,_,_,_,_,_,_,_,_,rfl,hr1,hr1',hr1'',⟨_,_⟩,⟨_,_⟩,_,_⟩:=ox hd
 obtain⟨abytes,kbytes,rfl⟩:=hbytes.shape
 have hlimbytes:bytes.length≤1099511627776:=hbytes.lim
 have H:=Hp.init hG
 refine calls_of_W (l:=[_,str path,.slice abytes bytes.length kbytes]) func101 Z ntmps101 Z (q2 (o_box H Z Z Z ?_));intro _ _ _ H
 refine xal H Z ?_;intro _ _ _ H
 refine aG Z (q3 (W_seq (q2 (lA 1 3 H Z4 (xr H Z2 (DiskValid_c _ _ H.sub _ d ⟨_,_,_,_,_,_,_,_,_,Z,hr1,hr1',hr1''⟩) ?_)))));intro _ H
 refine pe 2 Z ?_
 refine R_case (t:=14) Z ?_ ?_
 ·intro hc5
  try simp only[nrm]at hc5
  refine pe 4 Z (q3 (W_true Z (q2 (o_build bf27 Z Z Z (xst 0 H Z8 ?_)))));intro _ H
  refine aG Z (q3 (W_ret (N_K_ret (ret_gen (rs:=[.cell 6 27,.tmp 7]) (vs:=[_,_]) results101 ⟨⟨_,Z,load_blk 0 H isAgg27 sizeOf27 Z Z Z⟩,Z,trivial⟩ ?_))))
  have hN:Sp.DiskWrite d path bytes=none:=by simp[Sp.DiskWrite,hc5]
  have H:=H.addNil 107 2
  exact H.retO (k:=0) rfl (by rw[hN];exact⟨_,_,_,rfl,AccOf.mk rfl Chk.nil,RdS.nil _ _ _,RdS.nil _ _ _⟩) (acc_nd _ _ _ _ _)
 intro hc5'
 try simp only[nrm]at hc5'
 refine pe 1 Z (gR Z (xr H Z2 (FileValid_c _ _ H.sub _ _ hbytes) ?_));intro _ H
 refine pe 2 Z (q3 ?_)
 refine W_cond Z ?_ ?_
 ·intro hc8
  try simp only[nrm]at hc8
  refine q2 (o_build bf27 Z Z Z (xst 0 H Z8 ?_));intro _ H
  refine aG Z (q3 (W_ret (N_K_ret (ret_gen (rs:=[.cell 6 27,.tmp 7]) (vs:=[_,_]) results101 ⟨⟨_,Z,load_blk 0 H isAgg27 sizeOf27 Z Z Z⟩,Z,trivial⟩ ?_))))
  have hN:Sp.DiskWrite d path bytes=none:=by simp[Sp.DiskWrite,hc8]
  have H:=H.addNil 107 2
  exact H.retO (k:=0) rfl (by rw[hN];exact⟨_,_,_,rfl,AccOf.mk rfl Chk.nil,RdS.nil _ _ _,RdS.nil _ _ _⟩) (acc_nd _ _ _ _ _)
 intro hc8'
 try simp only[nrm]at hc8'
 have hfl:=Sp.file_len hc8'
 refine W_skip (N_K (q2 (fA 0 Z (lB 1 H Z3 (fA 1 Z (lB 1 H Z3 (o_build bf194 Z Z Z (pe 2 Z (xc Z2 (l11Write_c _ _ H.sub _ ⟨d.store,d.tree⟩ ⟨_,_,_,_,_,_,Z,hr1,hr1'⟩ _ hpath _ _ hbytes oM) ?_)))))))))
 rintro _ _ ⟨_,_,_,g10,rfl,⟨_,_,rfl,⟨_,rfl,hchk10⟩,hr10_1⟩,hp10,hq10,hs10⟩
 have H:=H.growO g10 hp10 hq10 hs10;obtain⟨_,_,rfl⟩:=H.accShape (k:=0) rfl
 have hr1:=hr1.up g10.le
 have hr1':=hr1'.up g10.le
 have hr1'':=hr1''.up g10.le
 obtain⟨_,_,rfl⟩:=hr10_1.shape;have hx_hr10_1:_≤1099511627776:=hr10_1.lim
 refine⟨_,Z,?_⟩
 have hwl:=Sp.l11Write_slen ⟨d.store,d.tree⟩ path bytes
 refine pe 3 Z (xal H Z ?_);intro _ _ _ H
 refine xst 0 H Z8 ?_;intro _ H
 refine aG Z (q3 (W_seq (q2 (pe 2 Z (q3 ?_)))))
 refine W_cond Z ?_ ?_
 ·intro hc13
  try simp only[nrm]at hc13
  refine q2 (o_build bf27 Z Z Z (xst 2 H Z8 ?_));intro _ H
  refine aG Z (q3 (W_ret (N_K_ret (ret_gen (rs:=[.cell 6 27,.tmp 7]) (vs:=[_,_]) results101 ⟨⟨_,Z,load_blk 2 H isAgg27 sizeOf27 Z Z Z⟩,Z,trivial⟩ ?_))))
  have hN:Sp.DiskWrite d path bytes=none:=by (have hno:Sp.l11Write ⟨d.store,d.tree⟩ path bytes=none:=by simpa using hc13);simp[Sp.DiskWrite,hno]
  have H:=H.addNil 107 2
  exact H.retO (k:=0) rfl (by rw[hN];exact⟨_,_,_,rfl,AccOf.mk rfl Chk.nil,RdS.nil _ _ _,RdS.nil _ _ _⟩) (acc_nd _ _ _ _ _)
 intro hc13'
 try simp only[nrm]at hc13'
 refine W_skip (N_K (q2 (lA 3 3 H Z4 (xc Z2 (l12Copy_c _ _ H.sub _ d ⟨_,_,_,_,_,_,_,_,_,Z,hr1,hr1',hr1''⟩) ?_))))
 rintro _ _ ⟨_,_,_,g15,rfl,⟨_,_,_,rfl,⟨_,rfl,hchk15⟩,hr15_0,hr15_1⟩,hp15,hq15,hs15⟩
 have H:=H.growO g15 hp15 hq15 hs15;obtain⟨_,_,rfl⟩:=H.accShape (k:=0) rfl
 have hchk10:=hchk10.up g15.le
 have hr10_1:=hr10_1.up g15.le
 obtain⟨_,_,rfl⟩:=hr15_0.shape;have hx_hr15_0:_≤1099511627776:=hr15_0.lim
 obtain⟨_,_,rfl⟩:=hr15_1.shape;have hx_hr15_1:_≤1099511627776:=hr15_1.lim
 refine⟨_,Z,?_⟩
 refine xal H Z ?_;intro _ _ _ H
 refine xst 0 H Z8 ?_;intro _ H
 refine q1 (fA 0 Z (lB 2 H Z3 (fA 0 Z (xst 0 H Z8 ?_))));intro _ H
 refine q1 (fA 1 Z (lB 2 H Z3 (fA 1 Z (xst 0 H Z8 ?_))));intro _ H
 refine q1 (lA 0 3 H Z4 (xst 4 H Z8 ?_));intro _ H
 refine aG Z (q3 (W_ret (ret_gen (rs:=[.cell 6 27,.tmp 7]) (vs:=[_,_]) results101 ⟨⟨_,Z,load_blk 4 H isAgg27 sizeOf27 Z Z Z⟩,Z,trivial⟩ ?_)))
 obtain⟨_,H,hsg524,hsr524⟩:=H.shut' (k:=3) rfl hchk10 aN aN
 have hr10_1:=hr10_1.up hsg524
 have hchk15:=hchk15.up hsg524
 have hY:Sp.DiskWrite d path bytes=some ⟨((Sp.l11Write ⟨d.store,d.tree⟩ path bytes).map (·.store)).getD [],((Sp.l11Write ⟨d.store,d.tree⟩ path bytes).map (·.tree)).getD [],d.snaps⟩:=by (obtain⟨_,hp⟩:=Option.isSome_iff_exists.1 hc13');simp[Sp.DiskWrite,hc5',hc8',hp]
 exact H.retO (k:=1) rfl (by rw[hY];exact⟨_,_,_,rfl,AccOf.mk aN hchk15,hsr524,hr10_1⟩) (acc_nd _ _ _ _ _)
theorem SnapBackP_c (w0:World)(G0:PH)(hG:PSub G0 w0)(cd:List Value)(d:BDisk)(hd:diskE G0 d cd)(name:Bs)(hname:name.length≤16777216) :
  Calls Tryz.prog 200 #[.agg cd.toArray,str name] w0 (RetP w0 G0 (fun G val=>∃cs,val= .tuple #[.agg cs.toArray,.bool (Sp.SnapBack d name).isSome]∧diskE G ((Sp.SnapBack d name).getD ⟨[],[],[]⟩) cs)):=by
 refine(SnapBack_c w0 G0 hG cd d hd name hname).mono ?_
 rintro _ _ ⟨_,_,_,g,rfl,⟨_,_,_,rfl,⟨_,rfl,hchk⟩,h1,h2⟩,hp,hq,hs⟩
 have H:=(Hp.init hG).growO g hp hq hs
 have hb:(((Sp.SnapBack d name).map (·.snaps)).getD []).length≤6:=Sp.dk_lim (fun d1 h=>Sp.back_valid h)
 obtain⟨_,H2,hle,hr⟩:=H.shut' (k:=0) rfl hchk rfl oM
 have e1:((Sp.SnapBack d name).map (·.store)).getD []=((Sp.SnapBack d name).getD ⟨[],[],[]⟩).store:=by cases Sp.SnapBack d name<;>rfl
 have e2:((Sp.SnapBack d name).map (·.tree)).getD []=((Sp.SnapBack d name).getD ⟨[],[],[]⟩).tree:=by cases Sp.SnapBack d name<;>rfl
 have e3:((Sp.SnapBack d name).map (·.snaps)).getD []=((Sp.SnapBack d name).getD ⟨[],[],[]⟩).snaps:=by cases Sp.SnapBack d name<;>rfl
 rw[e1]at h1;rw[e2]at h2;rw[e3]at hr
 obtain⟨_,_,rfl⟩:=h1.shape
 obtain⟨_,_,rfl⟩:=h2.shape
 obtain⟨_,_,rfl⟩:=hr.shape
 exact H2.retP ⟨[_,_,_],Z,_,_,_,_,_,_,_,_,_,Z,h1.up hle,h2.up hle,hr⟩
theorem DiskWriteP_c (w0:World)(G0:PH)(hG:PSub G0 w0)(cd:List Value)(d:BDisk)(hd:diskE G0 d cd)(path:Bs)(hpath:path.length≤16777216)(vbytes:Value)(bytes:List Int)(hbytes:RdI G0 vbytes bytes) :
  Calls Tryz.prog 101 #[.agg cd.toArray,str path,vbytes] w0 (RetP w0 G0 (fun G val=>∃cs,val= .tuple #[.agg cs.toArray,.bool (Sp.DiskWrite d path bytes).isSome]∧diskE G ((Sp.DiskWrite d path bytes).getD ⟨[],[],[]⟩) cs)):=by
 refine(DiskWrite_c w0 G0 hG cd d hd path hpath vbytes bytes hbytes).mono ?_
 rintro _ _ ⟨_,_,_,g,rfl,⟨_,_,_,rfl,⟨_,rfl,hchk⟩,h1,h2⟩,hp,hq,hs⟩
 have H:=(Hp.init hG).growO g hp hq hs
 have hb:(((Sp.DiskWrite d path bytes).map (·.snaps)).getD []).length≤6:=Sp.dk_lim (fun d1 h=>Sp.dwrite_valid h)
 obtain⟨_,H2,hle,hr⟩:=H.shut' (k:=0) rfl hchk rfl oM
 have e1:((Sp.DiskWrite d path bytes).map (·.store)).getD []=((Sp.DiskWrite d path bytes).getD ⟨[],[],[]⟩).store:=by cases Sp.DiskWrite d path bytes<;>rfl
 have e2:((Sp.DiskWrite d path bytes).map (·.tree)).getD []=((Sp.DiskWrite d path bytes).getD ⟨[],[],[]⟩).tree:=by cases Sp.DiskWrite d path bytes<;>rfl
 have e3:((Sp.DiskWrite d path bytes).map (·.snaps)).getD []=((Sp.DiskWrite d path bytes).getD ⟨[],[],[]⟩).snaps:=by cases Sp.DiskWrite d path bytes<;>rfl
 rw[e1]at h1;rw[e2]at h2;rw[e3]at hr
 obtain⟨_,_,rfl⟩:=h1.shape
 obtain⟨_,_,rfl⟩:=h2.shape
 obtain⟨_,_,rfl⟩:=hr.shape
 exact H2.retP ⟨[_,_,_],Z,_,_,_,_,_,_,_,_,_,Z,h1.up hle,h2.up hle,hr⟩
theorem l91Turn_c (w0:World)(G0:PH)(hG:PSub G0 w0)(rb:Nat)(ab:Option Addr)(mb kb:Nat)(bs:List UInt8)(p:Nat)(hbs:RdU G0 (.slice ab mb kb) bs)(hrb:w0.heap[rb]? = some (cl [.slice ab mb kb,.int .i64 (p:Int)] 192))(hrn:G0 rb=none)(hp:p≤100000000)(cd:List Value)(d:BDisk)(hd:diskE G0 d cd) :
  Calls Tryz.prog 139 #[.pointer (some ⟨rb,0,none⟩),.agg cd.toArray] w0 (RetM w0 G0 [rb] (fun G val Bs=>∃(p':Nat) (v1 v2 v3:Value) (st:List BHeld) (tr:List BItem) (sn:List BSnap) (b:Bool),p'≤p+200∧val= .tuple #[.agg #[v1,v2,v3],.bool b]∧RdH G v1 st∧RdItems G v2 tr∧RdSn G v3 sn∧Bs=[blk rb (cl [.slice ab mb kb,.int .i64 (p':Int)] 192)])):=by
 have hlimbs:bs.length≤1099511627776:=hbs.lim;obtain rfl:mb=bs.length:=hbs.len
 obtain⟨_,_,_,_,_,_,_,_,_,rfl,hr1,hr1',hr1'',⟨_,_⟩,⟨_,_⟩,_,_⟩:=ox hd
 have H:=Hp.initM hG hrb hrn
 refine calls_of_W (l:=[.pointer (some ⟨rb,0,none⟩),_]) func139 Z ntmps139 Z (q2 (o_box H Z Z Z ?_));intro _ _ _ H
 refine xal H Z ?_;intro _ _ _ H
 refine aG Z (q3 (W_seq (q2 (mV Z (xc Z2 (pick_c _ _ H.sub _ _ _ _ _ _ hbs (H.blkIs (k:=2) Z).1 (H.blkIs (k:=2) Z).2 oM _ oO) ?_)))))
 rintro _ _ ⟨G4,_,_,rfl,H4',⟨_,_,_,rfl,_,rfl⟩⟩
 have hbs:=hbs.up H4'.le
 have hr1:=hr1.up H4'.le
 have hr1':=hr1'.up H4'.le
 have hr1'':=hr1''.up H4'.le
 have H:=H.borrow (k:=2) rfl H4'
 refine⟨_,Z,?_⟩
 refine q3 (W_block (W_seq (q2 (pe 2 Z (q3 ?_)))))
 refine W_cond Z ?_ ?_
 ·intro hc5
  try simp only[nrm]at hc5
  refine W_skip (N_K ?_)
  refine W_cond Z ?_ ?_
  ·intro hc6
   try simp only[nrm]at hc6
   refine W_seq (W_drawK [2] 9 H kR Z ?_);intro _ H;have hd7:=PLe.refl G4
   refine RD_t 0 Z kR Z (fun _ hK=>v_loadagg_B 0 hK isAgg27 sizeOf27 Z Z Z Z) (dE 1 Z2 (r1 2 Z (xbs H Z7 ?_)));intro _ _ _ H
   refine q4 H hd7 (r1 3 Z ?_)
   have H:=H.blkAcc 1 (k:=0) (n:=3) rfl rfl (by decide)
   have hchk10:=((((Chk.nil (E:=strE) (sz:=1) (G:=G4)).snoc (show strE _ ([115]:Fw.Bs) [str [115]] from⟨rfl,by decide⟩) rfl).snoc (show strE _ ([116]:Fw.Bs) [str [116]] from⟨rfl,by decide⟩) rfl).snoc (show strE _ ([117]:Fw.Bs) [str [117]] from⟨rfl,by decide⟩) rfl)
   obtain⟨_,H,hsg11,hsr11⟩:=H.shutM (k:=0) (j:=0) rfl rfl hchk10 aN aN
   have hbs:=hbs.up hsg11
   have hr1:=hr1.up hsg11
   have hr1':=hr1'.up hsg11
   have hr1'':=hr1''.up hsg11
   have hd7:=hd7.trans hsg11
   refine xc Z2 (of_c _ _ H.sub _ _ _ _ _ _ hbs (H.blkIs (k:=0) Z).1 (H.blkIs (k:=0) Z).2 oM _ _ hsr11 (by first|decide|(simp;done)|(simp;omega))) ?_
   rintro _ _ ⟨_,_,_,rfl,H9',⟨_,_,_,rfl,hxs9,rfl⟩⟩
   have hr1:=hr1.up H9'.le
   have hr1':=hr1'.up H9'.le
   have hr1'':=hr1''.up H9'.le
   have hd7:=hd7.trans H9'.le
   have H:=H.borrow (k:=0) rfl H9'
   refine⟨_,Z,?_⟩
   refine q4 H hd7 (r1 4 Z (xc Z2 (SnapTakeP_c _ _ H.sub _ d ⟨_,_,_,_,_,_,_,_,_,Z,hr1,hr1',hr1''⟩ _ hxs9) ?_))
   rintro _ _ ⟨_,_,g12,rfl,_,rfl,hr12_0⟩
   have H:=H.grow g12
   have hd7:=hd7.trans g12.le
   obtain⟨_,_,_,_,_,_,_,_,_,rfl,hr13,hr13',hr13'',⟨_,_⟩,⟨_,_⟩,_,_⟩:=ox hr12_0
   refine⟨_,Z,?_⟩
   refine q4 H hd7 (dE 5 Z2 (dE 6 Z2 (r1 7 Z (xst 1 H Z8 ?_))));intro _ H
   refine q4 H hd7 (dE 8 Z2 (rz (N_K (W_ret (N_B_ret (N_K_ret (ret_gen (rs:=[.cell 4 27,.tmp 5]) (vs:=[_,_]) results139 ⟨⟨_,Z,load_blk 1 H isAgg27 sizeOf27 Z Z Z⟩,Z,trivial⟩ ?_)))))))
   have H:=H.dl 1
   have H:=H.dl 1
   exact H.retM ⟨_,_,_,_,_,_,_,_,oM,Z,hr13,hr13',hr13'',Z⟩
  intro hc6'
  try simp only[nrm]at hc6'
  refine q2 (pe 2 Z (q3 ?_))
  refine W_cond Z ?_ ?_
  ·intro hc15
   try simp only[nrm]at hc15
   refine W_seq (W_drawK [2] 9 H kR Z ?_);intro _ H;have hd16:=PLe.refl G4
   refine RD_t 0 Z kR Z (fun _ hK=>v_loadagg_B 0 hK isAgg27 sizeOf27 Z Z Z Z) (dE 1 Z2 (r1 2 Z (xbs H Z7 ?_)));intro _ _ _ H
   refine q4 H hd16 (r1 3 Z ?_)
   have H:=H.blkAcc 1 (k:=0) (n:=2) rfl rfl (by decide)
   have hchk19:=(((Chk.nil (E:=strE) (sz:=1) (G:=G4)).snoc (show strE _ ([115]:Fw.Bs) [str [115]] from⟨rfl,by decide⟩) rfl).snoc (show strE _ ([116]:Fw.Bs) [str [116]] from⟨rfl,by decide⟩) rfl)
   obtain⟨_,H,hsg20,hsr20⟩:=H.shutM (k:=0) (j:=0) rfl rfl hchk19 aN aN
   have hbs:=hbs.up hsg20
   have hr1:=hr1.up hsg20
   have hr1':=hr1'.up hsg20
   have hr1'':=hr1''.up hsg20
   have hd16:=hd16.trans hsg20
   refine xc Z2 (of_c _ _ H.sub _ _ _ _ _ _ hbs (H.blkIs (k:=0) Z).1 (H.blkIs (k:=0) Z).2 oM _ _ hsr20 (by first|decide|(simp;done)|(simp;omega))) ?_
   rintro _ _ ⟨_,_,_,rfl,H18',⟨_,_,_,rfl,hxs18,rfl⟩⟩
   have hr1:=hr1.up H18'.le
   have hr1':=hr1'.up H18'.le
   have hr1'':=hr1''.up H18'.le
   have hd16:=hd16.trans H18'.le
   have H:=H.borrow (k:=0) rfl H18'
   refine⟨_,Z,?_⟩
   refine q4 H hd16 (r1 4 Z (xc Z2 (SnapBackP_c _ _ H.sub _ d ⟨_,_,_,_,_,_,_,_,_,Z,hr1,hr1',hr1''⟩ _ hxs18) ?_))
   rintro _ _ ⟨_,_,g21,rfl,_,rfl,hr21_0⟩
   have H:=H.grow g21
   have hd16:=hd16.trans g21.le
   obtain⟨_,_,_,_,_,_,_,_,_,rfl,hr22,hr22',hr22'',⟨_,_⟩,⟨_,_⟩,_,_⟩:=ox hr21_0
   refine⟨_,Z,?_⟩
   refine q4 H hd16 (dE 5 Z2 (dE 6 Z2 (r1 7 Z (xst 1 H Z8 ?_))));intro _ H
   refine q4 H hd16 (dE 8 Z2 (rz (N_K (W_ret (N_B_ret (N_K_ret (ret_gen (rs:=[.cell 4 27,.tmp 5]) (vs:=[_,_]) results139 ⟨⟨_,Z,load_blk 1 H isAgg27 sizeOf27 Z Z Z⟩,Z,trivial⟩ ?_)))))))
   have H:=H.dl 1
   have H:=H.dl 1
   exact H.retM ⟨_,_,_,_,_,_,_,_,oM,Z,hr22,hr22',hr22'',Z⟩
  intro hc15'
  try simp only[nrm]at hc15'
  refine W_skip (N_B (N_K (q2 (mV Z (xbs H Z7 ?_)))));intro _ _ _ H
  have H:=H.blkAcc 1 (k:=0) (n:=5) rfl rfl (by decide)
  have hchk26:=((((((Chk.nil (E:=strE) (sz:=1) (G:=G4)).snoc (show strE _ ([99]:Fw.Bs) [str [99]] from⟨rfl,by decide⟩) rfl).snoc (show strE _ ([97,47,121]:Fw.Bs) [str [97,47,121]] from⟨rfl,by decide⟩) rfl).snoc (show strE _ ([98,47,120]:Fw.Bs) [str [98,47,120]] from⟨rfl,by decide⟩) rfl).snoc (show strE _ ([97,47,120,47,112]:Fw.Bs) [str [97,47,120,47,112]] from⟨rfl,by decide⟩) rfl).snoc (show strE _ ([100]:Fw.Bs) [str [100]] from⟨rfl,by decide⟩) rfl)
  obtain⟨_,H,hsg27,hsr27⟩:=H.shutM (k:=0) (j:=0) rfl rfl hchk26 aN aN
  have hbs:=hbs.up hsg27
  have hr1:=hr1.up hsg27
  have hr1':=hr1'.up hsg27
  have hr1'':=hr1''.up hsg27
  refine xc Z2 (of_c _ _ H.sub _ _ _ _ _ _ hbs (H.blkIs (k:=0) Z).1 (H.blkIs (k:=0) Z).2 oM _ _ hsr27 (by first|decide|(simp;done)|(simp;omega))) ?_
  rintro _ _ ⟨G25,_,_,rfl,H25',⟨_,_,_,rfl,hxs25,rfl⟩⟩
  have hbs:=hbs.up H25'.le
  have hr1:=hr1.up H25'.le
  have hr1':=hr1'.up H25'.le
  have hr1'':=hr1''.up H25'.le
  have H:=H.borrow (k:=0) rfl H25'
  refine⟨_,Z,?_⟩
  refine aG Z (q3 (W_seq (W_drawK [2] 9 H kR Z ?_)));intro _ H;have hd28:=PLe.refl G25
  refine RD_t 0 Z kR Z (fun _ hK=>v_loadagg_B 0 hK isAgg27 sizeOf27 Z Z Z Z) (dE 1 Z2 (dE 2 Z2 (r1 3 Z (xc Z2 (l91File_c _ _ H.sub _ _ _ _ _ _ hbs (H.blkIs (k:=0) Z).1 (H.blkIs (k:=0) Z).2 oM) ?_))))
  rintro _ _ ⟨_,_,_,rfl,H29',⟨_,_,_,_,_,rfl,hchk29,_,rfl⟩⟩
  have hr1:=hr1.up H29'.le
  have hr1':=hr1'.up H29'.le
  have hr1'':=hr1''.up H29'.le
  have hd28:=hd28.trans H29'.le
  have H:=H.borrow (k:=0) rfl H29'
  obtain⟨_,_,rfl⟩:=H.accShape (k:=0) rfl
  refine⟨_,Z,?_⟩
  refine q4 H hd28 (r1 4 Z ?_)
  obtain⟨_,H,hsg31,hsr31⟩:=H.shutM (k:=0) (j:=0) rfl rfl hchk29 aN aN
  have hr1:=hr1.up hsg31
  have hr1':=hr1'.up hsg31
  have hr1'':=hr1''.up hsg31
  have hd28:=hd28.trans hsg31
  refine xc Z2 (DiskWriteP_c _ _ H.sub _ d ⟨_,_,_,_,_,_,_,_,_,Z,hr1,hr1',hr1''⟩ _ hxs25 _ _ hsr31) ?_
  rintro _ _ ⟨_,_,g30,rfl,_,rfl,hr30_0⟩
  have H:=H.grow g30
  have hd28:=hd28.trans g30.le
  obtain⟨_,_,_,_,_,_,_,_,_,rfl,hr32,hr32',hr32'',⟨_,_⟩,⟨_,_⟩,_,_⟩:=ox hr30_0
  refine⟨_,Z,?_⟩
  refine q4 H hd28 (dE 5 Z2 (dE 6 Z2 (r1 7 Z (xst 1 H Z8 ?_))));intro _ H
  refine q4 H hd28 (dE 8 Z2 (rz (N_K (W_ret (ret_gen (rs:=[.cell 4 27,.tmp 5]) (vs:=[_,_]) results139 ⟨⟨_,Z,load_blk 1 H isAgg27 sizeOf27 Z Z Z⟩,Z,trivial⟩ ?_)))))
  have H:=H.dl 1
  have H:=H.dl 1
  exact H.retM ⟨_,_,_,_,_,_,_,_,oM,Z,hr32,hr32',hr32'',Z⟩
 intro hc5'
 try simp only[nrm]at hc5'
 refine q2 (pe 2 Z (q3 ?_))
 refine W_cond Z ?_ ?_
 ·intro hc34
  try simp only[nrm]at hc34
  refine W_skip (N_K ?_)
  refine W_cond Z ?_ ?_
  ·intro hc35
   try simp only[nrm]at hc35
   refine W_seq (W_drawK [2] 9 H kR Z ?_);intro _ H;have hd36:=PLe.refl G4
   refine RD_t 0 Z kR Z (fun _ hK=>v_loadagg_B 0 hK isAgg27 sizeOf27 Z Z Z Z) (dE 1 Z2 (r1 2 Z (xbs H Z7 ?_)));intro _ _ _ H
   refine q4 H hd36 (r1 3 Z ?_)
   have H:=H.blkAcc 1 (k:=0) (n:=3) rfl rfl (by decide)
   have hchk39:=((((Chk.nil (E:=strE) (sz:=1) (G:=G4)).snoc (show strE _ ([115]:Fw.Bs) [str [115]] from⟨rfl,by decide⟩) rfl).snoc (show strE _ ([116]:Fw.Bs) [str [116]] from⟨rfl,by decide⟩) rfl).snoc (show strE _ ([117]:Fw.Bs) [str [117]] from⟨rfl,by decide⟩) rfl)
   obtain⟨_,H,hsg40,hsr40⟩:=H.shutM (k:=0) (j:=0) rfl rfl hchk39 aN aN
   have hbs:=hbs.up hsg40
   have hr1:=hr1.up hsg40
   have hr1':=hr1'.up hsg40
   have hr1'':=hr1''.up hsg40
   have hd36:=hd36.trans hsg40
   refine xc Z2 (of_c _ _ H.sub _ _ _ _ _ _ hbs (H.blkIs (k:=0) Z).1 (H.blkIs (k:=0) Z).2 oM _ _ hsr40 (by first|decide|(simp;done)|(simp;omega))) ?_
   rintro _ _ ⟨_,_,_,rfl,H38',⟨_,_,_,rfl,hxs38,rfl⟩⟩
   have hr1:=hr1.up H38'.le
   have hr1':=hr1'.up H38'.le
   have hr1'':=hr1''.up H38'.le
   have hd36:=hd36.trans H38'.le
   have H:=H.borrow (k:=0) rfl H38'
   refine⟨_,Z,?_⟩
   refine q4 H hd36 (r1 4 Z (xc Z2 (SnapTakeP_c _ _ H.sub _ d ⟨_,_,_,_,_,_,_,_,_,Z,hr1,hr1',hr1''⟩ _ hxs38) ?_))
   rintro _ _ ⟨_,_,g41,rfl,_,rfl,hr41_0⟩
   have H:=H.grow g41
   have hd36:=hd36.trans g41.le
   obtain⟨_,_,_,_,_,_,_,_,_,rfl,hr42,hr42',hr42'',⟨_,_⟩,⟨_,_⟩,_,_⟩:=ox hr41_0
   refine⟨_,Z,?_⟩
   refine q4 H hd36 (dE 5 Z2 (dE 6 Z2 (r1 7 Z (xst 1 H Z8 ?_))));intro _ H
   refine q4 H hd36 (dE 8 Z2 (rz (N_K (W_ret (N_B_ret (N_K_ret (ret_gen (rs:=[.cell 4 27,.tmp 5]) (vs:=[_,_]) results139 ⟨⟨_,Z,load_blk 1 H isAgg27 sizeOf27 Z Z Z⟩,Z,trivial⟩ ?_)))))))
   have H:=H.dl 1
   have H:=H.dl 1
   exact H.retM ⟨_,_,_,_,_,_,_,_,oM,Z,hr42,hr42',hr42'',Z⟩
  intro hc35'
  try simp only[nrm]at hc35'
  refine q2 (pe 2 Z (q3 ?_))
  refine W_cond Z ?_ ?_
  ·intro hc44
   try simp only[nrm]at hc44
   refine W_seq (W_drawK [2] 9 H kR Z ?_);intro _ H;have hd45:=PLe.refl G4
   refine RD_t 0 Z kR Z (fun _ hK=>v_loadagg_B 0 hK isAgg27 sizeOf27 Z Z Z Z) (dE 1 Z2 (r1 2 Z (xbs H Z7 ?_)));intro _ _ _ H
   refine q4 H hd45 (r1 3 Z ?_)
   have H:=H.blkAcc 1 (k:=0) (n:=2) rfl rfl (by decide)
   have hchk48:=(((Chk.nil (E:=strE) (sz:=1) (G:=G4)).snoc (show strE _ ([115]:Fw.Bs) [str [115]] from⟨rfl,by decide⟩) rfl).snoc (show strE _ ([116]:Fw.Bs) [str [116]] from⟨rfl,by decide⟩) rfl)
   obtain⟨_,H,hsg49,hsr49⟩:=H.shutM (k:=0) (j:=0) rfl rfl hchk48 aN aN
   have hbs:=hbs.up hsg49
   have hr1:=hr1.up hsg49
   have hr1':=hr1'.up hsg49
   have hr1'':=hr1''.up hsg49
   have hd45:=hd45.trans hsg49
   refine xc Z2 (of_c _ _ H.sub _ _ _ _ _ _ hbs (H.blkIs (k:=0) Z).1 (H.blkIs (k:=0) Z).2 oM _ _ hsr49 (by first|decide|(simp;done)|(simp;omega))) ?_
   rintro _ _ ⟨_,_,_,rfl,H47',⟨_,_,_,rfl,hxs47,rfl⟩⟩
   have hr1:=hr1.up H47'.le
   have hr1':=hr1'.up H47'.le
   have hr1'':=hr1''.up H47'.le
   have hd45:=hd45.trans H47'.le
   have H:=H.borrow (k:=0) rfl H47'
   refine⟨_,Z,?_⟩
   refine q4 H hd45 (r1 4 Z (xc Z2 (SnapBackP_c _ _ H.sub _ d ⟨_,_,_,_,_,_,_,_,_,Z,hr1,hr1',hr1''⟩ _ hxs47) ?_))
   rintro _ _ ⟨_,_,g50,rfl,_,rfl,hr50_0⟩
   have H:=H.grow g50
   have hd45:=hd45.trans g50.le
   obtain⟨_,_,_,_,_,_,_,_,_,rfl,hr51,hr51',hr51'',⟨_,_⟩,⟨_,_⟩,_,_⟩:=ox hr50_0
   refine⟨_,Z,?_⟩
   refine q4 H hd45 (dE 5 Z2 (dE 6 Z2 (r1 7 Z (xst 1 H Z8 ?_))));intro _ H
   refine q4 H hd45 (dE 8 Z2 (rz (N_K (W_ret (N_B_ret (N_K_ret (ret_gen (rs:=[.cell 4 27,.tmp 5]) (vs:=[_,_]) results139 ⟨⟨_,Z,load_blk 1 H isAgg27 sizeOf27 Z Z Z⟩,Z,trivial⟩ ?_)))))))
   have H:=H.dl 1
   have H:=H.dl 1
   exact H.retM ⟨_,_,_,_,_,_,_,_,oM,Z,hr51,hr51',hr51'',Z⟩
  intro hc44'
  try simp only[nrm]at hc44'
  refine W_skip (N_B (N_K (q2 (mV Z (xbs H Z7 ?_)))));intro _ _ _ H
  have H:=H.blkAcc 1 (k:=0) (n:=5) rfl rfl (by decide)
  have hchk55:=((((((Chk.nil (E:=strE) (sz:=1) (G:=G4)).snoc (show strE _ ([99]:Fw.Bs) [str [99]] from⟨rfl,by decide⟩) rfl).snoc (show strE _ ([97,47,121]:Fw.Bs) [str [97,47,121]] from⟨rfl,by decide⟩) rfl).snoc (show strE _ ([98,47,120]:Fw.Bs) [str [98,47,120]] from⟨rfl,by decide⟩) rfl).snoc (show strE _ ([97,47,120,47,112]:Fw.Bs) [str [97,47,120,47,112]] from⟨rfl,by decide⟩) rfl).snoc (show strE _ ([100]:Fw.Bs) [str [100]] from⟨rfl,by decide⟩) rfl)
  obtain⟨_,H,hsg56,hsr56⟩:=H.shutM (k:=0) (j:=0) rfl rfl hchk55 aN aN
  have hbs:=hbs.up hsg56
  have hr1:=hr1.up hsg56
  have hr1':=hr1'.up hsg56
  have hr1'':=hr1''.up hsg56
  refine xc Z2 (of_c _ _ H.sub _ _ _ _ _ _ hbs (H.blkIs (k:=0) Z).1 (H.blkIs (k:=0) Z).2 oM _ _ hsr56 (by first|decide|(simp;done)|(simp;omega))) ?_
  rintro _ _ ⟨G54,_,_,rfl,H54',⟨_,_,_,rfl,hxs54,rfl⟩⟩
  have hbs:=hbs.up H54'.le
  have hr1:=hr1.up H54'.le
  have hr1':=hr1'.up H54'.le
  have hr1'':=hr1''.up H54'.le
  have H:=H.borrow (k:=0) rfl H54'
  refine⟨_,Z,?_⟩
  refine aG Z (q3 (W_seq (W_drawK [2] 9 H kR Z ?_)));intro _ H;have hd57:=PLe.refl G54
  refine RD_t 0 Z kR Z (fun _ hK=>v_loadagg_B 0 hK isAgg27 sizeOf27 Z Z Z Z) (dE 1 Z2 (dE 2 Z2 (r1 3 Z (xc Z2 (l91File_c _ _ H.sub _ _ _ _ _ _ hbs (H.blkIs (k:=0) Z).1 (H.blkIs (k:=0) Z).2 oM) ?_))))
  rintro _ _ ⟨_,_,_,rfl,H58',⟨_,_,_,_,_,rfl,hchk58,_,rfl⟩⟩
  have hr1:=hr1.up H58'.le
  have hr1':=hr1'.up H58'.le
  have hr1'':=hr1''.up H58'.le
  have hd57:=hd57.trans H58'.le
  have H:=H.borrow (k:=0) rfl H58'
  obtain⟨_,_,rfl⟩:=H.accShape (k:=0) rfl
  refine⟨_,Z,?_⟩
  refine q4 H hd57 (r1 4 Z ?_)
  obtain⟨_,H,hsg60,hsr60⟩:=H.shutM (k:=0) (j:=0) rfl rfl hchk58 aN aN
  have hr1:=hr1.up hsg60
  have hr1':=hr1'.up hsg60
  have hr1'':=hr1''.up hsg60
  have hd57:=hd57.trans hsg60
  refine xc Z2 (DiskWriteP_c _ _ H.sub _ d ⟨_,_,_,_,_,_,_,_,_,Z,hr1,hr1',hr1''⟩ _ hxs54 _ _ hsr60) ?_
  rintro _ _ ⟨_,_,g59,rfl,_,rfl,hr59_0⟩
  have H:=H.grow g59
  have hd57:=hd57.trans g59.le
  obtain⟨_,_,_,_,_,_,_,_,_,rfl,hr61,hr61',hr61'',⟨_,_⟩,⟨_,_⟩,_,_⟩:=ox hr59_0
  refine⟨_,Z,?_⟩
  refine q4 H hd57 (dE 5 Z2 (dE 6 Z2 (r1 7 Z (xst 1 H Z8 ?_))));intro _ H
  refine q4 H hd57 (dE 8 Z2 (rz (N_K (W_ret (ret_gen (rs:=[.cell 4 27,.tmp 5]) (vs:=[_,_]) results139 ⟨⟨_,Z,load_blk 1 H isAgg27 sizeOf27 Z Z Z⟩,Z,trivial⟩ ?_)))))
  have H:=H.dl 1
  have H:=H.dl 1
  exact H.retM ⟨_,_,_,_,_,_,_,_,oM,Z,hr61,hr61',hr61'',Z⟩
 intro hc34'
 try simp only[nrm]at hc34'
 refine W_region (pe 2 Z (q3 ?_))
 refine W_cond Z ?_ ?_
 ·intro hc63
  try simp only[nrm]at hc63
  refine W_seq (W_drawK [2] 9 H kR Z ?_);intro _ H;have hd64:=PLe.refl G4
  refine RD_t 0 Z kR Z (fun _ hK=>v_loadagg_B 0 hK isAgg27 sizeOf27 Z Z Z Z) (dE 1 Z2 (r1 2 Z (xbs H Z7 ?_)));intro _ _ _ H
  refine q4 H hd64 (r1 3 Z ?_)
  have H:=H.blkAcc 1 (k:=0) (n:=3) rfl rfl (by decide)
  have hchk67:=((((Chk.nil (E:=strE) (sz:=1) (G:=G4)).snoc (show strE _ ([115]:Fw.Bs) [str [115]] from⟨rfl,by decide⟩) rfl).snoc (show strE _ ([116]:Fw.Bs) [str [116]] from⟨rfl,by decide⟩) rfl).snoc (show strE _ ([117]:Fw.Bs) [str [117]] from⟨rfl,by decide⟩) rfl)
  obtain⟨_,H,hsg68,hsr68⟩:=H.shutM (k:=0) (j:=0) rfl rfl hchk67 aN aN
  have hbs:=hbs.up hsg68
  have hr1:=hr1.up hsg68
  have hr1':=hr1'.up hsg68
  have hr1'':=hr1''.up hsg68
  have hd64:=hd64.trans hsg68
  refine xc Z2 (of_c _ _ H.sub _ _ _ _ _ _ hbs (H.blkIs (k:=0) Z).1 (H.blkIs (k:=0) Z).2 oM _ _ hsr68 (by first|decide|(simp;done)|(simp;omega))) ?_
  rintro _ _ ⟨_,_,_,rfl,H66',⟨_,_,_,rfl,hxs66,rfl⟩⟩
  have hr1:=hr1.up H66'.le
  have hr1':=hr1'.up H66'.le
  have hr1'':=hr1''.up H66'.le
  have hd64:=hd64.trans H66'.le
  have H:=H.borrow (k:=0) rfl H66'
  refine⟨_,Z,?_⟩
  refine q4 H hd64 (r1 4 Z (xc Z2 (SnapTakeP_c _ _ H.sub _ d ⟨_,_,_,_,_,_,_,_,_,Z,hr1,hr1',hr1''⟩ _ hxs66) ?_))
  rintro _ _ ⟨_,_,g69,rfl,_,rfl,hr69_0⟩
  have H:=H.grow g69
  have hd64:=hd64.trans g69.le
  obtain⟨_,_,_,_,_,_,_,_,_,rfl,hr70,hr70',hr70'',⟨_,_⟩,⟨_,_⟩,_,_⟩:=ox hr69_0
  refine⟨_,Z,?_⟩
  refine q4 H hd64 (dE 5 Z2 (dE 6 Z2 (r1 7 Z (xst 1 H Z8 ?_))));intro _ H
  refine q4 H hd64 (dE 8 Z2 (rz (N_K (W_ret (N_B_ret (N_K_ret (ret_gen (rs:=[.cell 4 27,.tmp 5]) (vs:=[_,_]) results139 ⟨⟨_,Z,load_blk 1 H isAgg27 sizeOf27 Z Z Z⟩,Z,trivial⟩ ?_)))))))
  have H:=H.dl 1
  have H:=H.dl 1
  exact H.retM ⟨_,_,_,_,_,_,_,_,oM,Z,hr70,hr70',hr70'',Z⟩
 intro hc63'
 try simp only[nrm]at hc63'
 refine q2 (pe 2 Z (q3 ?_))
 refine W_cond Z ?_ ?_
 ·intro hc72
  try simp only[nrm]at hc72
  refine W_seq (W_drawK [2] 9 H kR Z ?_);intro _ H;have hd73:=PLe.refl G4
  refine RD_t 0 Z kR Z (fun _ hK=>v_loadagg_B 0 hK isAgg27 sizeOf27 Z Z Z Z) (dE 1 Z2 (r1 2 Z (xbs H Z7 ?_)));intro _ _ _ H
  refine q4 H hd73 (r1 3 Z ?_)
  have H:=H.blkAcc 1 (k:=0) (n:=2) rfl rfl (by decide)
  have hchk76:=(((Chk.nil (E:=strE) (sz:=1) (G:=G4)).snoc (show strE _ ([115]:Fw.Bs) [str [115]] from⟨rfl,by decide⟩) rfl).snoc (show strE _ ([116]:Fw.Bs) [str [116]] from⟨rfl,by decide⟩) rfl)
  obtain⟨_,H,hsg77,hsr77⟩:=H.shutM (k:=0) (j:=0) rfl rfl hchk76 aN aN
  have hbs:=hbs.up hsg77
  have hr1:=hr1.up hsg77
  have hr1':=hr1'.up hsg77
  have hr1'':=hr1''.up hsg77
  have hd73:=hd73.trans hsg77
  refine xc Z2 (of_c _ _ H.sub _ _ _ _ _ _ hbs (H.blkIs (k:=0) Z).1 (H.blkIs (k:=0) Z).2 oM _ _ hsr77 (by first|decide|(simp;done)|(simp;omega))) ?_
  rintro _ _ ⟨_,_,_,rfl,H75',⟨_,_,_,rfl,hxs75,rfl⟩⟩
  have hr1:=hr1.up H75'.le
  have hr1':=hr1'.up H75'.le
  have hr1'':=hr1''.up H75'.le
  have hd73:=hd73.trans H75'.le
  have H:=H.borrow (k:=0) rfl H75'
  refine⟨_,Z,?_⟩
  refine q4 H hd73 (r1 4 Z (xc Z2 (SnapBackP_c _ _ H.sub _ d ⟨_,_,_,_,_,_,_,_,_,Z,hr1,hr1',hr1''⟩ _ hxs75) ?_))
  rintro _ _ ⟨_,_,g78,rfl,_,rfl,hr78_0⟩
  have H:=H.grow g78
  have hd73:=hd73.trans g78.le
  obtain⟨_,_,_,_,_,_,_,_,_,rfl,hr79,hr79',hr79'',⟨_,_⟩,⟨_,_⟩,_,_⟩:=ox hr78_0
  refine⟨_,Z,?_⟩
  refine q4 H hd73 (dE 5 Z2 (dE 6 Z2 (r1 7 Z (xst 1 H Z8 ?_))));intro _ H
  refine q4 H hd73 (dE 8 Z2 (rz (N_K (W_ret (N_B_ret (N_K_ret (ret_gen (rs:=[.cell 4 27,.tmp 5]) (vs:=[_,_]) results139 ⟨⟨_,Z,load_blk 1 H isAgg27 sizeOf27 Z Z Z⟩,Z,trivial⟩ ?_)))))))
  have H:=H.dl 1
  have H:=H.dl 1
  exact H.retM ⟨_,_,_,_,_,_,_,_,oM,Z,hr79,hr79',hr79'',Z⟩
 intro hc72'
 try simp only[nrm]at hc72'
 refine W_skip (N_B (N_K (q2 (mV Z (xbs H Z7 ?_)))));intro _ _ _ H
 have H:=H.blkAcc 1 (k:=0) (n:=5) rfl rfl (by decide)
 have hchk83:=((((((Chk.nil (E:=strE) (sz:=1) (G:=G4)).snoc (show strE _ ([99]:Fw.Bs) [str [99]] from⟨rfl,by decide⟩) rfl).snoc (show strE _ ([97,47,121]:Fw.Bs) [str [97,47,121]] from⟨rfl,by decide⟩) rfl).snoc (show strE _ ([98,47,120]:Fw.Bs) [str [98,47,120]] from⟨rfl,by decide⟩) rfl).snoc (show strE _ ([97,47,120,47,112]:Fw.Bs) [str [97,47,120,47,112]] from⟨rfl,by decide⟩) rfl).snoc (show strE _ ([100]:Fw.Bs) [str [100]] from⟨rfl,by decide⟩) rfl)
 obtain⟨_,H,hsg84,hsr84⟩:=H.shutM (k:=0) (j:=0) rfl rfl hchk83 aN aN
 have hbs:=hbs.up hsg84
 have hr1:=hr1.up hsg84
 have hr1':=hr1'.up hsg84
 have hr1'':=hr1''.up hsg84
 refine xc Z2 (of_c _ _ H.sub _ _ _ _ _ _ hbs (H.blkIs (k:=0) Z).1 (H.blkIs (k:=0) Z).2 oM _ _ hsr84 (by first|decide|(simp;done)|(simp;omega))) ?_
 rintro _ _ ⟨G82,_,_,rfl,H82',⟨_,_,_,rfl,hxs82,rfl⟩⟩
 have hbs:=hbs.up H82'.le
 have hr1:=hr1.up H82'.le
 have hr1':=hr1'.up H82'.le
 have hr1'':=hr1''.up H82'.le
 have H:=H.borrow (k:=0) rfl H82'
 refine⟨_,Z,?_⟩
 refine aG Z (q3 (W_seq (W_drawK [2] 9 H kR Z ?_)));intro _ H;have hd85:=PLe.refl G82
 refine RD_t 0 Z kR Z (fun _ hK=>v_loadagg_B 0 hK isAgg27 sizeOf27 Z Z Z Z) (dE 1 Z2 (dE 2 Z2 (r1 3 Z (xc Z2 (l91File_c _ _ H.sub _ _ _ _ _ _ hbs (H.blkIs (k:=0) Z).1 (H.blkIs (k:=0) Z).2 oM) ?_))))
 rintro _ _ ⟨_,_,_,rfl,H86',⟨_,_,_,_,_,rfl,hchk86,_,rfl⟩⟩
 have hr1:=hr1.up H86'.le
 have hr1':=hr1'.up H86'.le
 have hr1'':=hr1''.up H86'.le
 have hd85:=hd85.trans H86'.le
 have H:=H.borrow (k:=0) rfl H86'
 obtain⟨_,_,rfl⟩:=H.accShape (k:=0) rfl
 refine⟨_,Z,?_⟩
 refine q4 H hd85 (r1 4 Z ?_)
 obtain⟨_,H,hsg88,hsr88⟩:=H.shutM (k:=0) (j:=0) rfl rfl hchk86 aN aN
 have hr1:=hr1.up hsg88
 have hr1':=hr1'.up hsg88
 have hr1'':=hr1''.up hsg88
 have hd85:=hd85.trans hsg88
 refine xc Z2 (DiskWriteP_c _ _ H.sub _ d ⟨_,_,_,_,_,_,_,_,_,Z,hr1,hr1',hr1''⟩ _ hxs82 _ _ hsr88) ?_
 rintro _ _ ⟨_,_,g87,rfl,_,rfl,hr87_0⟩
 have H:=H.grow g87
 have hd85:=hd85.trans g87.le
 obtain⟨_,_,_,_,_,_,_,_,_,rfl,hr89,hr89',hr89'',⟨_,_⟩,⟨_,_⟩,_,_⟩:=ox hr87_0
 refine⟨_,Z,?_⟩
 refine q4 H hd85 (dE 5 Z2 (dE 6 Z2 (r1 7 Z (xst 1 H Z8 ?_))));intro _ H
 refine q4 H hd85 (dE 8 Z2 (rz (N_K (W_ret (ret_gen (rs:=[.cell 4 27,.tmp 5]) (vs:=[_,_]) results139 ⟨⟨_,Z,load_blk 1 H isAgg27 sizeOf27 Z Z Z⟩,Z,trivial⟩ ?_)))))
 have H:=H.dl 1
 have H:=H.dl 1
 exact H.retM ⟨_,_,_,_,_,_,_,_,oM,Z,hr89,hr89',hr89'',Z⟩
theorem l91Disk_c (w0:World)(G0:PH)(hG:PSub G0 w0)(rb:Nat)(ab:Option Addr)(mb kb:Nat)(bs:List UInt8)(p:Nat)(hbs:RdU G0 (.slice ab mb kb) bs)(hrb:w0.heap[rb]? = some (cl [.slice ab mb kb,.int .i64 (p:Int)] 192))(hrn:G0 rb=none)(hp:p≤5000000) :
  Calls Tryz.prog 56 #[.pointer (some ⟨rb,0,none⟩)] w0 (RetM w0 G0 [rb] (fun G val Bs=>∃(p':Nat) (v1 v2 v3:Value) (st:List BHeld) (tr:List BItem) (sn:List BSnap),p'≤p+5000∧val= .agg #[v1,v2,v3]∧RdH G v1 st∧RdItems G v2 tr∧RdSn G v3 sn∧Bs=[blk rb (cl [.slice ab mb kb,.int .i64 (p':Int)] 192)])):=by
 have hlimbs:bs.length≤1099511627776:=hbs.lim;obtain rfl:mb=bs.length:=hbs.len
 have H:=Hp.initM hG hrb hrn
 refine calls_of_W (l:=[.pointer (some ⟨rb,0,none⟩)]) func56 Z ntmps56 Z (q2 (xal H Z ?_));intro b1 _ _ H
 refine q1 (mV Z (xc Z2 (l91Volume_c _ _ H.sub _ _ _ _ _ _ hbs (H.blkIs (k:=1) Z).1 (H.blkIs (k:=1) Z).2 oM) ?_))
 rintro _ _ ⟨_,_,_,rfl,H2',⟨_,_,_,st2,tr2,_,rfl,hst2,htr2,rfl⟩⟩
 have hbs:=hbs.up H2'.le
 have H:=H.borrow (k:=1) rfl H2'
 obtain⟨_,_,rfl⟩:=hst2.shape;obtain⟨_,_,rfl⟩:=htr2.shape;have hx_hst2:_≤1099511627776:=hst2.lim;have hx_htr2:_≤1099511627776:=htr2.lim
 refine⟨_,Z,?_⟩
 refine xal H Z ?_;intro b3 _ _ H
 refine xst 0 H Z8 ?_;intro _ H
 refine q1 (fA 0 Z (lB 0 H Z3 (fA 1 Z (lB 0 H Z3 (o_build bf27 Z Z Z (xal H Z ?_))))));intro b5 _ _ H
 refine xst 0 H Z8 ?_;intro _ H
 refine q1 (mV Z (xc Z2 (pick_c _ _ H.sub _ _ _ _ _ _ hbs (H.blkIs (k:=2) Z).1 (H.blkIs (k:=2) Z).2 oM _ oO) ?_))
 rintro _ _ ⟨G7,_,_,rfl,H7',⟨p7,_,_,rfl,_,rfl⟩⟩
 have hbs:=hbs.up H7'.le
 have hst2:=hst2.up H7'.le
 have htr2:=htr2.up H7'.le
 have H:=H.borrow (k:=2) rfl H7'
 refine⟨_,Z,?_⟩
 refine aG Z (q3 (W_seq (q2 (aG Z (q3 (W_block ?_))))))
 obtain⟨ln8,hln8,H⟩:=H.name (k:=2) rfl
 obtain⟨ln9,hln9,H⟩:=H.name (k:=3) rfl
 refine W_lp (hf:=(Sub.cons (t:=0) Z (Sub.cons (t:=2) Z (Sub.cons (t:=4) Z (Sub.cons (t:=5) Z Sub.nil))))) (J:=fun M w m=>∃(k:Nat) (va vb vc:Value) (st:List BHeld) (tr:List BItem) (sn:List BSnap) (pp:Nat) (G:PH),M=[(6,.int .i64 (k:Int))]∧PLe G7 G∧Hp w0 G0 [rb] w G [blk rb (cl [.slice ab bs.length kb,.int .i64 (pp:Int)] 192),blk b5 (cl [va,vb,vc] 27),blk b3 (cl ln8 194),blk b1 (cl ln9 27)]∧(k≤7∧pp≤p+3100+201*k∧RdH G va st∧RdItems G vb tr∧RdSn G vc sn)∧m=(8-k)) (h0:=⟨0,_,_,_,st2,tr2,[],p7,_,Z,PLe.refl _,H,?inv,Z⟩) (round:=?round)
 case inv=>exact⟨by omega,by omega,hst2,htr2,(RdS.nil _ _ _)⟩
 case round =>
  rintro _ _ _ ⟨k,va,vb,vc,st,tr,sn,pp,_,rfl,hle10,H,hinv10,rfl⟩
  subst hln8
  subst hln9
  have hbs:=hbs.up hle10
  obtain⟨_,_,hst,htr,hsn⟩:=hinv10;obtain⟨_,_,rfl⟩:=hst.shape;have hlhst:_≤1099511627776:=hst.lim;obtain⟨_,_,rfl⟩:=htr.shape;have hlhtr:_≤1099511627776:=htr.lim;obtain⟨_,_,rfl⟩:=hsn.shape;have hlhsn:_≤1099511627776:=hsn.lim
  refine W_seq (q2 (pe 3 Z (q3 ?_)))
  refine W_cond Z ?_ ?_
  ·intro hc11
   try simp only[nrm]at hc11
   refine W_skip (N_K (W_seq (W_block (q2 (mV Z (lA 1 3 H Z4 (xc Z2 (l91Turn_c _ _ H.sub _ _ _ _ _ _ hbs (H.blkIs (k:=0) Z).1 (H.blkIs (k:=0) Z).2 oM _ ⟨st,tr,sn⟩ ⟨_,_,_,_,_,_,_,_,_,Z,hst,htr,hsn⟩) ?_)))))))
   rintro _ _ ⟨_,_,_,rfl,H12',⟨p12,_,_,_,st12,tr12,sn12,_,_,rfl,hst12,htr12,hsn12,rfl⟩⟩
   have hst:=hst.up H12'.le
   have htr:=htr.up H12'.le
   have hsn:=hsn.up H12'.le
   have hle10:=hle10.trans H12'.le
   have H:=H.borrow (k:=0) rfl H12'
   obtain⟨_,_,rfl⟩:=hst12.shape;have hx_hst12:_≤1099511627776:=hst12.lim;obtain⟨_,_,rfl⟩:=htr12.shape;have hx_htr12:_≤1099511627776:=htr12.lim;obtain⟨_,_,rfl⟩:=hsn12.shape;have hx_hsn12:_≤1099511627776:=hsn12.lim
   refine⟨_,Z,?_⟩
   refine pe 3 Z (xal H Z ?_);intro _ _ _ H
   refine xst 0 H Z8 ?_;intro _ H
   refine aG Z (q1 (mV Z (q3 ?_)))
   refine W_cond Z ?_ ?_
   ·intro hc15
    try simp only[nrm]at hc15
    refine W_region (lA 0 3 H Z4 (xst 2 H Z8 ?_));intro _ H
    refine R_nil (N_B (N_K (W_region (mV Z (aD Z2 (aG Z (R_nil ?_)))))))
    have H:=H.dl 0
    refine N_lp (hJ:=⟨k+1,_,_,_,st12,tr12,sn12,p12,_,Z,hle10,H,?inv,Z⟩) (hm:=?hm)
    case hm=>omega
    case inv=>exact⟨by omega,by omega,hst12,htr12,hsn12⟩
   intro hc15'
   try simp only[nrm]at hc15'
   refine W_skip (N_B (N_K (W_region (mV Z (aD Z2 (aG Z (R_nil ?_)))))))
   have H:=H.dl 0
   refine N_lp (hJ:=⟨k+1,_,_,_,st,tr,sn,p12,_,Z,hle10,H,?inv,Z⟩) (hm:=?hm)
   case hm=>omega
   case inv=>exact⟨by omega,by omega,hst,htr,hsn⟩
  intro hc11'
  try simp only[nrm]at hc11'
  refine W_exit (N_K_exit (N_LP_exit (N_B_same (N_K (q2 (lA 1 3 H Z4 (xst 3 H Z8 ?_)))))));intro _ H
  refine q3 (W_ret (ret_gen (rs:=[.cell 2 27]) (vs:=[_]) results56 ⟨⟨_,Z,load_blk 3 H isAgg27 sizeOf27 Z Z Z⟩,trivial⟩ ?_))
  have H:=H.dl 1
  have H:=H.dl 1
  have H:=H.dl 1
  exact H.retM ⟨_,_,_,_,_,_,_,oM,Z,hst,htr,hsn,Z⟩
theorem l92Step_c (w0:World)(G0:PH)(hG:PSub G0 w0)(rb:Nat)(ab:Option Addr)(mb kb:Nat)(bs:List UInt8)(p:Nat)(hbs:RdU G0 (.slice ab mb kb) bs)(hrb:w0.heap[rb]? = some (cl [.slice ab mb kb,.int .i64 (p:Int)] 192))(hrn:G0 rb=none)(hp:p≤100000000) :
  Calls Tryz.prog 95 #[.pointer (some ⟨rb,0,none⟩)] w0 (RetM w0 G0 [rb] (fun G val Bs=>∃(p':Nat) (x:BOp) (cs:List Value),p'≤p+300∧val= .agg cs.toArray∧opE G x cs∧Bs=[blk rb (cl [.slice ab mb kb,.int .i64 (p':Int)] 192)])):=by
 have hlimbs:bs.length≤1099511627776:=hbs.lim;obtain rfl:mb=bs.length:=hbs.len
 have H:=Hp.initM hG hrb hrn
 refine calls_of_W (l:=[.pointer (some ⟨rb,0,none⟩)]) func95 Z ntmps95 Z (q2 (xal H Z ?_));intro _ _ _ H
 refine q1 (mV Z (xc Z2 (pick_c _ _ H.sub _ _ _ _ _ _ hbs (H.blkIs (k:=1) Z).1 (H.blkIs (k:=1) Z).2 oM _ oO) ?_))
 rintro _ _ ⟨_,_,_,rfl,H2',⟨_,_,_,rfl,_,rfl⟩⟩
 have hbs:=hbs.up H2'.le
 have H:=H.borrow (k:=1) rfl H2'
 refine⟨_,Z,?_⟩
 refine aD Z2 (mV Z (xc Z2 (l91Path_c _ _ H.sub _ _ _ _ _ _ hbs (H.blkIs (k:=0) Z).1 (H.blkIs (k:=0) Z).2 oM) ?_))
 rintro _ _ ⟨G4,_,_,rfl,H4',⟨_,_,_,rfl,hxs4,rfl⟩⟩
 have hbs:=hbs.up H4'.le
 have H:=H.borrow (k:=0) rfl H4'
 refine⟨_,Z,?_⟩
 refine xbs H Z7 ?_;intro _ _ _ H
 have H:=H.blkAcc 1 (k:=0) (n:=0) rfl rfl (by decide)
 refine o_build bf53 Z Z Z (xal H Z ?_);intro _ _ _ H
 refine xst 0 H Z8 ?_;intro _ H
 refine q3 (W_seq (q2 (fA 0 Z (lB 0 H Z3 (pe 1 Z (q3 ?_))))))
 refine W_cond Z ?_ ?_
 ·intro hc8
  try simp only[nrm]at hc8
  refine W_region (mV Z (xc Z2 (l91File_c _ _ H.sub _ _ _ _ _ _ hbs (H.blkIs (k:=2) Z).1 (H.blkIs (k:=2) Z).2 oM) ?_))
  rintro _ _ ⟨_,_,_,rfl,H9',⟨_,_,_,_,_,rfl,hchk9,_,rfl⟩⟩
  have hbs:=hbs.up H9'.le
  have H:=H.borrow (k:=2) rfl H9'
  obtain⟨_,_,rfl⟩:=H.accShape (k:=0) rfl
  refine⟨_,Z,?_⟩
  refine fA 2 Z (xst 2 H Z8 ?_);intro _ H
  refine q3 (W_seq (q2 (fA 0 Z (lB 2 H Z3 (pe 1 Z (q3 ?_))))))
  refine W_cond Z ?_ ?_
  ·intro hc11
   try simp only[nrm]at hc11
   exact absurd (show False by omega) id
  intro hc11'
  try simp only[nrm]at hc11'
  refine W_skip (N_K (W_seq (q2 (fA 0 Z (lB 2 H Z3 (pe 1 Z (q3 ?_)))))))
  refine W_cond Z ?_ ?_
  ·intro hc12
   try simp only[nrm]at hc12
   exact absurd (show False by omega) id
  intro hc12'
  try simp only[nrm]at hc12'
  refine W_skip (N_K (W_seq (q2 (mV Z (xc Z2 (pick_c _ _ H.sub _ _ _ _ _ _ hbs (H.blkIs (k:=1) Z).1 (H.blkIs (k:=1) Z).2 oM _ oO) ?_)))))
  rintro _ _ ⟨_,_,_,rfl,H13',⟨_,_,_,rfl,_,rfl⟩⟩
  have hbs:=hbs.up H13'.le
  have hchk9:=hchk9.up H13'.le
  have H:=H.borrow (k:=1) rfl H13'
  refine⟨_,Z,?_⟩
  refine pe 1 Z (q3 ?_)
  refine W_cond Z ?_ ?_
  ·intro hc14
   try simp only[nrm]at hc14
   refine W_region (xbs H Z7 ?_);intro _ _ _ H
   refine mV Z (xc Z2 (pick_c _ _ H.sub _ _ _ _ _ _ hbs (H.blkIs (k:=1) Z).1 (H.blkIs (k:=1) Z).2 oM _ oO) ?_)
   rintro _ _ ⟨G16,_,_,rfl,H16',⟨_,x16,_,rfl,_,rfl⟩⟩
   have hchk9:=hchk9.up H16'.le
   have H:=H.borrow (k:=1) rfl H16'
   refine⟨_,Z,?_⟩
   have H:=H.blkAcc 1 (k:=1) (n:=2) rfl rfl (by decide)
   have hchk18:=(((Chk.nil (E:=intE) (sz:=1) (G:=G16)).snoc (show intE _ (0:Int) [.int .i64 0] from⟨rfl,by decide⟩) rfl).snoc (show intE _ (5:Int) [.int .i64 5] from⟨rfl,by decide⟩) rfl)
   obtain⟨_,H,hsg19,hsr19⟩:=H.shutM (k:=1) (j:=0) rfl rfl hchk18 aN aN
   have hchk9:=hchk9.up hsg19
   have hl_hsr19:=hsr19.len
   refine iP x16 hsr19 Z3 Z ?_;intro _ _ _ _ _ hE17 hrow17
   obtain⟨rfl,_⟩:=hE17
   refine lP H hrow17 0 Z2 (fA 0 Z (xst 2 H Z8 ?_));intro _ H
   refine q1 (lA 2 3 H Z4 (xst 4 H Z8 ?_));intro _ H
   refine q3 (W_ret (ret_gen (rs:=[.cell 2 53]) (vs:=[_]) results95 ⟨⟨_,Z,load_blk 4 H isAgg53 sizeOf53 Z Z Z⟩,trivial⟩ ?_))
   obtain⟨_,H,hsg22,hsr22⟩:=H.shutM (k:=1) (j:=0) rfl rfl hchk9 aN aN
   have H:=H.dl 1
   have H:=H.dl 1
   have H:=H.dl 1
   exact H.retM ⟨_,⟨_,_,_⟩,_,oM,rfl,⟨_,_,_,rfl,⟨by first|omega|(dsimp only;omega),by first|omega|(dsimp only;omega)⟩,hxs4,hsr22⟩,rfl⟩
  intro hc14'
  try simp only[nrm]at hc14'
  refine W_skip (N_K (q2 (lA 2 3 H Z4 (xst 4 H Z8 ?_))));intro _ H
  refine q3 (W_ret (ret_gen (rs:=[.cell 2 53]) (vs:=[_]) results95 ⟨⟨_,Z,load_blk 4 H isAgg53 sizeOf53 Z Z Z⟩,trivial⟩ ?_))
  obtain⟨_,H,hsg24,hsr24⟩:=H.shutM (k:=1) (j:=0) rfl rfl hchk9 aN aN
  have H:=H.dl 1
  have H:=H.dl 1
  have H:=H.dl 1
  exact H.retM ⟨_,⟨_,_,_⟩,_,oM,rfl,⟨_,_,_,rfl,⟨by first|omega|(dsimp only;omega),by first|omega|(dsimp only;omega)⟩,hxs4,hsr24⟩,rfl⟩
 intro hc8'
 try simp only[nrm]at hc8'
 refine W_skip (N_K (W_seq (q2 (fA 0 Z (lB 0 H Z3 (pe 1 Z (q3 ?_)))))))
 refine W_cond Z ?_ ?_
 ·intro hc25
  try simp only[nrm]at hc25
  refine W_region (mV Z (xbs H Z7 ?_));intro _ _ _ H
  have H:=H.blkAcc 1 (k:=0) (n:=3) rfl rfl (by decide)
  have hchk28:=((((Chk.nil (E:=strE) (sz:=1) (G:=G4)).snoc (show strE _ ([118]:Fw.Bs) [str [118]] from⟨rfl,by decide⟩) rfl).snoc (show strE _ ([119]:Fw.Bs) [str [119]] from⟨rfl,by decide⟩) rfl).snoc (show strE _ ([115]:Fw.Bs) [str [115]] from⟨rfl,by decide⟩) rfl)
  obtain⟨_,H,hsg29,hsr29⟩:=H.shutM (k:=0) (j:=2) rfl rfl hchk28 aN aN
  have hbs:=hbs.up hsg29
  refine xc Z2 (of_c _ _ H.sub _ _ _ _ _ _ hbs (H.blkIs (k:=2) Z).1 (H.blkIs (k:=2) Z).2 oM _ _ hsr29 (by first|decide|(simp;done)|(simp;omega))) ?_
  rintro _ _ ⟨_,_,_,rfl,H27',⟨_,_,_,rfl,hxs27,rfl⟩⟩
  have hbs:=hbs.up H27'.le
  have H:=H.borrow (k:=2) rfl H27'
  refine⟨_,Z,?_⟩
  refine fA 1 Z (xst 1 H Z8 ?_);intro _ H
  refine q3 (W_seq (q2 (fA 0 Z (lB 1 H Z3 (pe 1 Z (q3 ?_))))))
  refine W_cond Z ?_ ?_
  ·intro hc31
   try simp only[nrm]at hc31
   exact absurd (show False by omega) id
  intro hc31'
  try simp only[nrm]at hc31'
  refine W_skip (N_K (W_seq (q2 (mV Z (xc Z2 (pick_c _ _ H.sub _ _ _ _ _ _ hbs (H.blkIs (k:=0) Z).1 (H.blkIs (k:=0) Z).2 oM _ oO) ?_)))))
  rintro _ _ ⟨G32,_,_,rfl,H32',⟨_,_,_,rfl,_,rfl⟩⟩
  have hbs:=hbs.up H32'.le
  have H:=H.borrow (k:=0) rfl H32'
  refine⟨_,Z,?_⟩
  refine pe 1 Z (q3 ?_)
  refine W_cond Z ?_ ?_
  ·intro hc33
   try simp only[nrm]at hc33
   refine W_region (xbs H Z7 ?_);intro _ _ _ H
   refine mV Z (xc Z2 (pick_c _ _ H.sub _ _ _ _ _ _ hbs (H.blkIs (k:=1) Z).1 (H.blkIs (k:=1) Z).2 oM _ oO) ?_)
   rintro _ _ ⟨G35,_,_,rfl,H35',⟨_,x35,_,rfl,_,rfl⟩⟩
   have H:=H.borrow (k:=1) rfl H35'
   refine⟨_,Z,?_⟩
   have H:=H.blkAcc 1 (k:=1) (n:=2) rfl rfl (by decide)
   have hchk37:=(((Chk.nil (E:=intE) (sz:=1) (G:=G35)).snoc (show intE _ (0:Int) [.int .i64 0] from⟨rfl,by decide⟩) rfl).snoc (show intE _ (5:Int) [.int .i64 5] from⟨rfl,by decide⟩) rfl)
   obtain⟨G38,H,hsg38,hsr38⟩:=H.shutM (k:=1) (j:=0) rfl rfl hchk37 aN aN
   have hl_hsr38:=hsr38.len
   refine iP x35 hsr38 Z3 Z ?_;intro _ _ _ _ _ hE36 hrow36
   obtain⟨rfl,_⟩:=hE36
   refine lP H hrow36 0 Z2 (fA 0 Z (xst 1 H Z8 ?_));intro _ H
   refine q1 (lA 1 3 H Z4 (xst 3 H Z8 ?_));intro _ H
   refine q3 (W_ret (ret_gen (rs:=[.cell 2 53]) (vs:=[_]) results95 ⟨⟨_,Z,load_blk 3 H isAgg53 sizeOf53 Z Z Z⟩,trivial⟩ ?_))
   obtain⟨_,H,hsg41,hsr41⟩:=H.shutM (k:=2) (j:=0) rfl rfl (Chk.nil (E:=intE) (sz:=1) (G:=G38)) aN aN
   have H:=H.dl 1
   have H:=H.dl 1
   exact H.retM ⟨_,⟨_,_,_⟩,_,oM,rfl,⟨_,_,_,rfl,⟨by first|omega|(dsimp only;omega),by first|omega|(dsimp only;omega)⟩,hxs27,hsr41⟩,rfl⟩
  intro hc33'
  try simp only[nrm]at hc33'
  refine W_skip (N_K (q2 (lA 1 3 H Z4 (xst 3 H Z8 ?_))));intro _ H
  refine q3 (W_ret (ret_gen (rs:=[.cell 2 53]) (vs:=[_]) results95 ⟨⟨_,Z,load_blk 3 H isAgg53 sizeOf53 Z Z Z⟩,trivial⟩ ?_))
  obtain⟨_,H,hsg43,hsr43⟩:=H.shutM (k:=2) (j:=0) rfl rfl (Chk.nil (E:=intE) (sz:=1) (G:=G32)) aN aN
  have H:=H.dl 1
  have H:=H.dl 1
  exact H.retM ⟨_,⟨_,_,_⟩,_,oM,rfl,⟨_,_,_,rfl,⟨by first|omega|(dsimp only;omega),by first|omega|(dsimp only;omega)⟩,hxs27,hsr43⟩,rfl⟩
 intro hc25'
 try simp only[nrm]at hc25'
 refine W_skip (N_K (W_seq (q2 (fA 0 Z (lB 0 H Z3 (pe 1 Z (q3 ?_)))))))
 refine W_cond Z ?_ ?_
 ·intro hc44
  try simp only[nrm]at hc44
  refine W_region (mV Z (xbs H Z7 ?_));intro _ _ _ H
  have H:=H.blkAcc 1 (k:=0) (n:=4) rfl rfl (by decide)
  have hchk47:=(((((Chk.nil (E:=strE) (sz:=1) (G:=G4)).snoc (show strE _ ([97]:Fw.Bs) [str [97]] from⟨rfl,by decide⟩) rfl).snoc (show strE _ ([98]:Fw.Bs) [str [98]] from⟨rfl,by decide⟩) rfl).snoc (show strE _ ([97,47,120]:Fw.Bs) [str [97,47,120]] from⟨rfl,by decide⟩) rfl).snoc (show strE _ ([101]:Fw.Bs) [str [101]] from⟨rfl,by decide⟩) rfl)
  obtain⟨_,H,hsg48,hsr48⟩:=H.shutM (k:=0) (j:=2) rfl rfl hchk47 aN aN
  have hbs:=hbs.up hsg48
  refine xc Z2 (of_c _ _ H.sub _ _ _ _ _ _ hbs (H.blkIs (k:=2) Z).1 (H.blkIs (k:=2) Z).2 oM _ _ hsr48 (by first|decide|(simp;done)|(simp;omega))) ?_
  rintro _ _ ⟨_,_,_,rfl,H46',⟨_,_,_,rfl,hxs46,rfl⟩⟩
  have hbs:=hbs.up H46'.le
  have H:=H.borrow (k:=2) rfl H46'
  refine⟨_,Z,?_⟩
  refine fA 1 Z (xst 1 H Z8 ?_);intro _ H
  refine q3 (W_seq (q2 (mV Z (xc Z2 (pick_c _ _ H.sub _ _ _ _ _ _ hbs (H.blkIs (k:=0) Z).1 (H.blkIs (k:=0) Z).2 oM _ oO) ?_))))
  rintro _ _ ⟨G50,_,_,rfl,H50',⟨_,_,_,rfl,_,rfl⟩⟩
  have hbs:=hbs.up H50'.le
  have H:=H.borrow (k:=0) rfl H50'
  refine⟨_,Z,?_⟩
  refine pe 1 Z (q3 ?_)
  refine W_cond Z ?_ ?_
  ·intro hc51
   try simp only[nrm]at hc51
   refine W_region (xbs H Z7 ?_);intro _ _ _ H
   refine mV Z (xc Z2 (pick_c _ _ H.sub _ _ _ _ _ _ hbs (H.blkIs (k:=1) Z).1 (H.blkIs (k:=1) Z).2 oM _ oO) ?_)
   rintro _ _ ⟨G53,_,_,rfl,H53',⟨_,x53,_,rfl,_,rfl⟩⟩
   have H:=H.borrow (k:=1) rfl H53'
   refine⟨_,Z,?_⟩
   have H:=H.blkAcc 1 (k:=1) (n:=2) rfl rfl (by decide)
   have hchk55:=(((Chk.nil (E:=intE) (sz:=1) (G:=G53)).snoc (show intE _ (0:Int) [.int .i64 0] from⟨rfl,by decide⟩) rfl).snoc (show intE _ (5:Int) [.int .i64 5] from⟨rfl,by decide⟩) rfl)
   obtain⟨G56,H,hsg56,hsr56⟩:=H.shutM (k:=1) (j:=0) rfl rfl hchk55 aN aN
   have hl_hsr56:=hsr56.len
   refine iP x53 hsr56 Z3 Z ?_;intro _ _ _ _ _ hE54 hrow54
   obtain⟨rfl,_⟩:=hE54
   refine lP H hrow54 0 Z2 (fA 0 Z (xst 1 H Z8 ?_));intro _ H
   refine q1 (lA 1 3 H Z4 (xst 3 H Z8 ?_));intro _ H
   refine q3 (W_ret (ret_gen (rs:=[.cell 2 53]) (vs:=[_]) results95 ⟨⟨_,Z,load_blk 3 H isAgg53 sizeOf53 Z Z Z⟩,trivial⟩ ?_))
   obtain⟨_,H,hsg59,hsr59⟩:=H.shutM (k:=2) (j:=0) rfl rfl (Chk.nil (E:=intE) (sz:=1) (G:=G56)) aN aN
   have H:=H.dl 1
   have H:=H.dl 1
   exact H.retM ⟨_,⟨_,_,_⟩,_,oM,rfl,⟨_,_,_,rfl,⟨by first|omega|(dsimp only;omega),by first|omega|(dsimp only;omega)⟩,hxs46,hsr59⟩,rfl⟩
  intro hc51'
  try simp only[nrm]at hc51'
  refine W_skip (N_K (q2 (lA 1 3 H Z4 (xst 3 H Z8 ?_))));intro _ H
  refine q3 (W_ret (ret_gen (rs:=[.cell 2 53]) (vs:=[_]) results95 ⟨⟨_,Z,load_blk 3 H isAgg53 sizeOf53 Z Z Z⟩,trivial⟩ ?_))
  obtain⟨_,H,hsg61,hsr61⟩:=H.shutM (k:=2) (j:=0) rfl rfl (Chk.nil (E:=intE) (sz:=1) (G:=G50)) aN aN
  have H:=H.dl 1
  have H:=H.dl 1
  exact H.retM ⟨_,⟨_,_,_⟩,_,oM,rfl,⟨_,_,_,rfl,⟨by first|omega|(dsimp only;omega),by first|omega|(dsimp only;omega)⟩,hxs46,hsr61⟩,rfl⟩
 intro hc44'
 try simp only[nrm]at hc44'
 refine W_skip (N_K (W_seq (q2 (mV Z (xc Z2 (pick_c _ _ H.sub _ _ _ _ _ _ hbs (H.blkIs (k:=2) Z).1 (H.blkIs (k:=2) Z).2 oM _ oO) ?_)))))
 rintro _ _ ⟨G62,_,_,rfl,H62',⟨_,_,_,rfl,_,rfl⟩⟩
 have hbs:=hbs.up H62'.le
 have H:=H.borrow (k:=2) rfl H62'
 refine⟨_,Z,?_⟩
 refine pe 1 Z (q3 ?_)
 refine W_cond Z ?_ ?_
 ·intro hc63
  try simp only[nrm]at hc63
  refine W_region (xbs H Z7 ?_);intro _ _ _ H
  refine mV Z (xc Z2 (pick_c _ _ H.sub _ _ _ _ _ _ hbs (H.blkIs (k:=1) Z).1 (H.blkIs (k:=1) Z).2 oM _ oO) ?_)
  rintro _ _ ⟨G65,_,_,rfl,H65',⟨_,x65,_,rfl,_,rfl⟩⟩
  have H:=H.borrow (k:=1) rfl H65'
  refine⟨_,Z,?_⟩
  have H:=H.blkAcc 1 (k:=1) (n:=2) rfl rfl (by decide)
  have hchk67:=(((Chk.nil (E:=intE) (sz:=1) (G:=G65)).snoc (show intE _ (0:Int) [.int .i64 0] from⟨rfl,by decide⟩) rfl).snoc (show intE _ (5:Int) [.int .i64 5] from⟨rfl,by decide⟩) rfl)
  obtain⟨G68,H,hsg68,hsr68⟩:=H.shutM (k:=1) (j:=0) rfl rfl hchk67 aN aN
  have hl_hsr68:=hsr68.len
  refine iP x65 hsr68 Z3 Z ?_;intro _ _ _ _ _ hE66 hrow66
  obtain⟨rfl,_⟩:=hE66
  refine lP H hrow66 0 Z2 (fA 0 Z (xst 1 H Z8 ?_));intro _ H
  refine q1 (lA 1 3 H Z4 (xst 3 H Z8 ?_));intro _ H
  refine q3 (W_ret (ret_gen (rs:=[.cell 2 53]) (vs:=[_]) results95 ⟨⟨_,Z,load_blk 3 H isAgg53 sizeOf53 Z Z Z⟩,trivial⟩ ?_))
  obtain⟨_,H,hsg71,hsr71⟩:=H.shutM (k:=2) (j:=0) rfl rfl (Chk.nil (E:=intE) (sz:=1) (G:=G68)) aN aN
  have H:=H.dl 1
  have H:=H.dl 1
  exact H.retM ⟨_,⟨_,_,_⟩,_,oM,rfl,⟨_,_,_,rfl,⟨by first|omega|(dsimp only;omega),by first|omega|(dsimp only;omega)⟩,hxs4,hsr71⟩,rfl⟩
 intro hc63'
 try simp only[nrm]at hc63'
 refine W_skip (N_K (q2 (lA 1 3 H Z4 (xst 3 H Z8 ?_))));intro _ H
 refine q3 (W_ret (ret_gen (rs:=[.cell 2 53]) (vs:=[_]) results95 ⟨⟨_,Z,load_blk 3 H isAgg53 sizeOf53 Z Z Z⟩,trivial⟩ ?_))
 obtain⟨_,H,hsg73,hsr73⟩:=H.shutM (k:=2) (j:=0) rfl rfl (Chk.nil (E:=intE) (sz:=1) (G:=G62)) aN aN
 have H:=H.dl 1
 have H:=H.dl 1
 exact H.retM ⟨_,⟨_,_,_⟩,_,oM,rfl,⟨_,_,_,rfl,⟨by first|omega|(dsimp only;omega),by first|omega|(dsimp only;omega)⟩,hxs4,hsr73⟩,rfl⟩
theorem DrawOpRun_c (w0:World)(G0:PH)(hG:PSub G0 w0)(vcode:Value)(code:List (UInt8))(hcode:RdU G0 vcode code) :
  Calls Tryz.prog 29 #[vcode] w0 (RetP w0 G0 (fun G v=>∃(cs:List Value) (x:BDisk) (co:List Value) (o:BOp),v= .tuple #[.agg cs.toArray,.agg co.toArray]∧diskE G x cs∧opE G o co)):=by
 obtain⟨acode,kcode,rfl⟩:=hcode.shape
 have hlimcode:code.length≤1099511627776:=hcode.lim
 have H:=Hp.init hG
 refine calls_of_W (l:=[.slice acode code.length kcode]) func29 Z ntmps29 Z (q2 (xal H Z ?_));intro _ _ _ H
 refine xal H Z ?_;intro _ _ _ H
 refine q1 (mV Z (xc Z2 (l6Open_c _ _ H.sub _ _ hcode) ?_))
 rintro _ _ ⟨_,_,_,g3,rfl,⟨_,_,_,_,_,rfl,rfl,hbs3⟩,hp3,hq3,hs3⟩
 have H:=H.growO g3 hp3 hq3 hs3
 refine⟨_,Z,?_⟩
 refine aG Z (q1 (mV Z (xc Z2 (l91Disk_c _ _ H.sub _ _ _ _ _ _ hbs3 (H.blkIs (k:=0) Z).1 (H.blkIs (k:=0) Z).2 oM) ?_)))
 rintro _ _ ⟨_,_,_,rfl,H4',⟨_,_,_,_,st4,tr4,sn4,_,rfl,hst4,htr4,hsn4,rfl⟩⟩
 have hbs3:=hbs3.up H4'.le
 have H:=H.borrow (k:=0) rfl H4'
 obtain⟨_,_,rfl⟩:=hst4.shape;have hx_hst4:_≤1099511627776:=hst4.lim;obtain⟨_,_,rfl⟩:=htr4.shape;have hx_htr4:_≤1099511627776:=htr4.lim;obtain⟨_,_,rfl⟩:=hsn4.shape;have hx_hsn4:_≤1099511627776:=hsn4.lim
 refine⟨_,Z,?_⟩
 refine xal H Z ?_;intro _ _ _ H
 refine xst 0 H Z8 ?_;intro _ H
 refine q1 (mV Z (xc Z2 (l92Step_c _ _ H.sub _ _ _ _ _ _ hbs3 (H.blkIs (k:=1) Z).1 (H.blkIs (k:=1) Z).2 oM) ?_))
 rintro _ _ ⟨G7,_,_,rfl,H7',⟨_,_,_,_,rfl,hOE7,rfl⟩⟩
 have hbs3:=hbs3.up H7'.le
 have hst4:=hst4.up H7'.le
 have htr4:=htr4.up H7'.le
 have hsn4:=hsn4.up H7'.le
 have H:=H.borrow (k:=1) rfl H7'
 obtain⟨_,_,_,rfl,_,hOp7,hOr7⟩:=hOE7
 have hn_hOr7:=hOr7.len;have hx_hOr7:_≤1099511627776:=hOr7.lim
 refine⟨_,Z,?_⟩
 refine xal H Z ?_;intro _ _ _ H
 refine xst 0 H Z8 ?_;intro _ H
 refine q3 (W_seq (q2 (fA 0 Z (lB 0 H Z3 (pe 1 Z (q3 ?_))))))
 refine W_cond Z ?_ ?_
 ·intro hc10
  try simp only[nrm]at hc10
  refine W_region (mV Z (fA 1 Z (lB 2 H Z3 (xc Z2 (l91At_c _ _ H.sub _ _ _ _ _ _ hbs3 (H.blkIs (k:=1) Z).1 (H.blkIs (k:=1) Z).2 oM _ _ htr4) ?_))))
  rintro _ _ ⟨G11,_,_,rfl,H11',⟨_,_,_,rfl,hxs11,rfl⟩⟩
  have hst4:=hst4.up H11'.le
  have htr4:=htr4.up H11'.le
  have hsn4:=hsn4.up H11'.le
  have hOr7:=hOr7.up H11'.le
  have H:=H.borrow (k:=1) rfl H11'
  refine⟨_,Z,?_⟩
  refine fA 1 Z (xst 1 H Z8 ?_);intro _ H
  refine q3 (W_seq (W_drawK [0,1,2,3] 4 H kR Z ?_));intro _ H;have hd13:=PLe.refl G11
  refine RD_t 0 Z kR Z (fun _ hK=>v_loadagg_B 2 hK isAgg27 sizeOf27 Z Z Z Z) (RD_t 1 Z kR Z (fun _ hK=>v_loadagg_B 1 hK isAgg53 sizeOf53 Z Z Z Z) (r1 2 Z (xst 4 H Z8 ?_)));intro _ H
  refine q4 H hd13 (r1 3 Z (xst 3 H Z8 ?_));intro _ H
  refine R_nil (N_DKlast kR kR (N_K (W_ret (ret_gen (rs:=[.cell 2 27,.cell 3 53]) (vs:=[_,_]) results29 ⟨⟨_,Z,load_blk 4 H isAgg27 sizeOf27 Z Z Z⟩,⟨_,Z,load_blk 3 H isAgg53 sizeOf53 Z Z Z⟩,trivial⟩ ?_))))
  have H:=H.dl 0
  have H:=H.dl 0
  have H:=H.dl 0
  have H:=H.dl 0
  have H:=H.dl 0
  exact H.retP ⟨_,⟨st4,tr4,sn4⟩,_,⟨_,_,_⟩,rfl,⟨_,_,_,_,_,_,_,_,_,rfl,hst4,htr4,hsn4⟩,⟨_,_,_,rfl,(by first|assumption|exact⟨by first|omega|(dsimp only;omega),by first|omega|(dsimp only;omega)⟩),hxs11,hOr7⟩⟩
 intro hc10'
 try simp only[nrm]at hc10'
 refine W_skip (N_K (W_seq (W_drawK [0,1,2,3] 4 H kR Z ?_)));intro _ H;have hd16:=PLe.refl G7
 refine RD_t 0 Z kR Z (fun _ hK=>v_loadagg_B 2 hK isAgg27 sizeOf27 Z Z Z Z) (RD_t 1 Z kR Z (fun _ hK=>v_loadagg_B 0 hK isAgg53 sizeOf53 Z Z Z Z) (r1 2 Z (xst 4 H Z8 ?_)));intro _ H
 refine q4 H hd16 (r1 3 Z (xst 3 H Z8 ?_));intro _ H
 refine R_nil (N_DKlast kR kR (N_K (W_ret (ret_gen (rs:=[.cell 2 27,.cell 3 53]) (vs:=[_,_]) results29 ⟨⟨_,Z,load_blk 4 H isAgg27 sizeOf27 Z Z Z⟩,⟨_,Z,load_blk 3 H isAgg53 sizeOf53 Z Z Z⟩,trivial⟩ ?_))))
 have H:=H.dl 0
 have H:=H.dl 0
 have H:=H.dl 0
 have H:=H.dl 0
 have H:=H.dl 0
 exact H.retP ⟨_,⟨st4,tr4,sn4⟩,_,⟨_,_,_⟩,rfl,⟨_,_,_,_,_,_,_,_,_,rfl,hst4,htr4,hsn4⟩,⟨_,_,_,rfl,(by first|assumption|exact⟨by first|omega|(dsimp only;omega),by first|omega|(dsimp only;omega)⟩),hOp7,hOr7⟩⟩
theorem l22Ok_c (w0:World)(G0:PH)(hG:PSub G0 w0)(cop:List Value)(op:BOp)(hop:opE G0 op cop) :
  Calls Tryz.prog 99 #[.agg cop.toArray] w0 (Rets w0 (.bool (Sp.opOk op))):=by
 obtain⟨_,_,_,rfl,_,hi1,hr1⟩:=hop;have hy_hi1:_≤16777216:=hi1;have hn_hr1:=hr1.len;have hx_hr1:_≤1099511627776:=hr1.lim
 have H:=Hp.init hG
 refine calls_of_W (l:=[_]) func99 Z ntmps99 Z (q2 (o_box H Z Z Z ?_));intro _ _ _ H
 refine aG Z (q3 (W_seq (q2 (fA 0 Z (lB 0 H Z3 (q3 (W_block (W_seq (q2 (pe 2 Z (q3 ?_)))))))))))
 refine W_cond Z ?_ ?_
 ·intro hc3
  try simp only[nrm]at hc3
  refine W_skip (N_K ?_)
  refine W_cond Z ?_ ?_
  ·intro hc4
   try simp only[nrm]at hc4
   refine q2 (fA 1 Z (lB 0 H Z3 (xr H Z2 (PathValid_c _ _ H.sub _ hi1) ?_)));intro _ H
   refine mV Z ?_
   refine R_case (t:=11) Z ?_ ?_
   ·intro hc6
    try simp only[nrm]at hc6
    refine gR Z (fA 2 Z (gR Z (lB 0 H Z3 (gR Z (lN Z (pe 3 Z (q3 (W_ret (N_B_ret (N_K_ret (rt1 results99 Z ?_)))))))))))
    exact H.rets (congrArg Value.bool (by simp_all [Sp.opOk,List.length_eq_zero_iff]))
   intro hc6'
   try simp only[nrm]at hc6'
   refine pe 6 Z (q3 (W_ret (N_B_ret (N_K_ret (rt1 results99 Z ?_)))))
   exact H.rets (congrArg Value.bool (by simp_all [Sp.opOk,List.length_eq_zero_iff]))
  intro hc4'
  try simp only[nrm]at hc4'
  exact absurd hc3 hc4'
 intro hc3'
 try simp only[nrm]at hc3'
 refine W_region (pe 2 Z (q3 ?_))
 refine W_cond Z ?_ ?_
 ·intro hc7
  try simp only[nrm]at hc7
  refine q2 (fA 1 Z (lB 0 H Z3 (xr H Z2 (PathValid_c _ _ H.sub _ hi1) ?_)));intro _ H
  refine mV Z ?_
  refine R_case (t:=11) Z ?_ ?_
  ·intro hc9
   try simp only[nrm]at hc9
   refine gR Z (fA 2 Z (gR Z (lB 0 H Z3 (gR Z (lN Z (pe 3 Z (q3 (W_ret (N_B_ret (N_K_ret (rt1 results99 Z ?_)))))))))))
   exact H.rets (congrArg Value.bool (by simp_all [Sp.opOk,List.length_eq_zero_iff]))
  intro hc9'
  try simp only[nrm]at hc9'
  refine pe 6 Z (q3 (W_ret (N_B_ret (N_K_ret (rt1 results99 Z ?_)))))
  exact H.rets (congrArg Value.bool (by simp_all [Sp.opOk,List.length_eq_zero_iff]))
 intro hc7'
 try simp only[nrm]at hc7'
 refine q2 (pe 2 Z (q3 ?_))
 refine W_cond Z ?_ ?_
 ·intro hc10
  try simp only[nrm]at hc10
  refine q2 (fA 1 Z (lB 0 H Z3 (xr H Z2 (PathValid_c _ _ H.sub _ hi1) ?_)));intro _ H
  refine mV Z ?_
  refine R_case (t:=22) Z ?_ ?_
  ·intro hc12
   try simp only[nrm]at hc12
   refine gR Z (fA 2 Z (gR Z (lB 0 H Z3 (gR Z (xr H Z2 (FileValid_c _ _ H.sub _ _ hr1) ?_)))));intro _ H
   refine pe 2 Z (q3 (W_ret (N_B_ret (N_K_ret (rt1 results99 Z ?_)))))
   exact H.rets (congrArg Value.bool (by simp_all [Sp.opOk,List.length_eq_zero_iff]))
  intro hc12'
  try simp only[nrm]at hc12'
  refine pe 5 Z (q3 (W_ret (N_B_ret (N_K_ret (rt1 results99 Z ?_)))))
  exact H.rets (congrArg Value.bool (by simp_all [Sp.opOk,List.length_eq_zero_iff]))
 intro hc10'
 try simp only[nrm]at hc10'
 refine q2 (pe 2 Z (q3 ?_))
 refine W_cond Z ?_ ?_
 ·intro hc14
  try simp only[nrm]at hc14
  refine q2 (fA 1 Z (lB 0 H Z3 (xr H Z2 (l1Word_c _ _ hi1) ?_)));intro _ H
  refine mV Z ?_
  refine R_case (t:=32) Z ?_ ?_
  ·intro hc16
   try simp only[nrm]at hc16
   refine gR Z (fA 2 Z (gR Z (lB 0 H Z3 (gR Z (lN Z (pe 3 Z (q3 (W_ret (N_B_ret (N_K_ret (rt1 results99 Z ?_)))))))))))
   exact H.rets (congrArg Value.bool (by simp_all [Sp.opOk,List.length_eq_zero_iff]))
  intro hc16'
  try simp only[nrm]at hc16'
  refine pe 6 Z (q3 (W_ret (N_B_ret (N_K_ret (rt1 results99 Z ?_)))))
  exact H.rets (congrArg Value.bool (by simp_all [Sp.opOk,List.length_eq_zero_iff]))
 intro hc14'
 try simp only[nrm]at hc14'
 refine W_skip (N_B (N_K (q2 (aG Z (q3 (W_ret (rt1 results99 Z ?_)))))))
 exact H.rets (congrArg Value.bool (by simp_all [Sp.opOk,List.length_eq_zero_iff]))
theorem l14Drop_c (w0:World)(G0:PH)(hG:PSub G0 w0)(cd:List Value)(d:BDisk)(hd:diskE G0 d cd)(cx:List Value)(x:BPart)(hx:partE G0 x cx)(hdv:Sp.DiskValid d=true)(hxb:x.bytes=[]) :
  Calls Tryz.prog 102 #[.agg cd.toArray,.agg cx.toArray] w0 (RetO w0 G0 (fun G val r=>∃u u1 u2,val= .tuple #[.agg #[u,u1,u2],.bool (Sp.l14Drop d x).isSome]∧AccOf snapE 2 107 (((Sp.l14Drop d x).map (·.snaps)).getD []) G u2 r∧RdH G u (((Sp.l14Drop d x).map (·.store)).getD [])∧RdItems G u1 (((Sp.l14Drop d x).map (·.tree)).getD []))):=by
 obtain⟨_,_,_,_,_,_,_,_,_,rfl,hr1,hr1',hr1'',⟨_,_⟩,⟨_,_⟩,_,_⟩:=ox hd
 obtain⟨_,_,_,rfl,_,hi2,hr2⟩:=hx;have hy_hi2:_≤16777216:=hi2;have hn_hr2:=hr2.len;have hx_hr2:_≤1099511627776:=hr2.lim
 have H:=Hp.init hG
 refine calls_of_W (l:=[_,_]) func102 Z ntmps102 Z (q2 (o_box H Z Z Z ?_));intro _ _ _ H
 refine o_box H Z Z Z ?_;intro _ _ _ H
 refine xal H Z ?_;intro _ _ _ H
 refine aG Z (q1 (fA 1 Z (lB 2 H Z3 (fA 1 Z (lB 1 H Z3 (xr H Z2 (l5At_c _ _ H.sub _ _ hr1' _ hi2) ?_))))));intro _ H
 refine aG Z (q3 (W_seq (W_seq (W_drawK [0,1,2] 13 H kR Z ?_))));intro _ H;have hd7:=PLe.refl G0
 refine dE 0 Z2 (dE 1 Z2 (dE 2 Z2 ?_))
 refine RD_case (t:=19) Z ?_ ?_
 ·intro hc8
  try simp only[nrm]at hc8
  refine dE 3 Z2 (dE 4 Z2 (dE 5 Z2 (dE 6 Z2 (dE 7 Z2 (dE 8 Z2 (dE 9 Z2 (dE 10 Z2 (dE 11 Z2 (dE 12 Z2 (rz (N_K (W_true Z (q2 (o_build bf27 Z Z Z (xst 0 H Z8 ?_)))))))))))))));intro _ H
  refine aG Z (q3 (W_ret (N_K_ret (ret_gen (rs:=[.cell 4 27,.tmp 5]) (vs:=[_,_]) results102 ⟨⟨_,Z,load_blk 0 H isAgg27 sizeOf27 Z Z Z⟩,Z,trivial⟩ ?_))))
  have hN:Sp.l14Drop d x=none:=by exact Sp.sdrop_at (Sp.at_none hc8)
  have H:=H.addNil 107 2
  exact H.retO (k:=0) rfl (by rw[hN];exact⟨_,_,_,rfl,AccOf.mk rfl Chk.nil,RdS.nil _ _ _,RdS.nil _ _ _⟩) (acc_nd _ _ _ _ _)
 intro hc8'
 try simp only[nrm]at hc8'
 obtain⟨i,_,hat,ib,_,_⟩:=Sp.l5_nat (t:=d.tree) (p:=x.path) oM
 refine dF 3 1 Z2 (dB 4 2 Z4 (dE 5 Z2 ?_))
 have hl10:=hr1'.len
 obtain⟨_,_,_,_,ha10,hz10,hq10,hE10,hrow10,_⟩:=hr1'.at (i:=i) oM
 clear hq10
 obtain⟨_,_,_,rfl,_,hr10,_,_⟩:=ox hE10
 refine dI 6 3 i ha10 Z3 ib (dF 7 1 Z2 (dP 8 hrow10 1 Z3 (dF 9 2 Z2 (dB 10 1 Z4 (RD_tg 11 Z kR Z (yl Z Z) (fun _ hK=>v_bneq underlying4 Z Z) (dE 12 Z2 (rz (N_K ?_))))))))
 refine W_cond Z ?_ ?_
 ·intro hc11
  try simp only[nrm]at hc11
  refine q2 (o_build bf27 Z Z Z (xst 0 H Z8 ?_));intro _ H
  refine aG Z (q3 (W_ret (N_K_ret (ret_gen (rs:=[.cell 4 27,.tmp 5]) (vs:=[_,_]) results102 ⟨⟨_,Z,load_blk 0 H isAgg27 sizeOf27 Z Z Z⟩,Z,trivial⟩ ?_))))
  have hN:Sp.l14Drop d x=none:=by exact Sp.sdrop_dir hdv hat hz10 (by simpa using hc11)
  have H:=H.addNil 107 2
  exact H.retO (k:=0) rfl (by rw[hN];exact⟨_,_,_,rfl,AccOf.mk rfl Chk.nil,RdS.nil _ _ _,RdS.nil _ _ _⟩) (acc_nd _ _ _ _ _)
 intro hc11'
 try simp only[nrm]at hc11'
 refine W_skip (N_K (q2 (fA 1 Z (lB 2 H Z3 (fA 1 Z (lB 1 H Z3 (xc Z2 (TreeDrop_c _ _ H.sub _ _ hr1' _ hi2) ?_)))))))
 rintro _ _ ⟨_,_,g13,rfl,_,rfl,hr13_0⟩
 have H:=H.grow g13
 have hr1:=hr1.up g13.le
 have hr1':=hr1'.up g13.le
 have hr1'':=hr1''.up g13.le
 obtain⟨_,_,rfl⟩:=hr13_0.shape;have hx_hr13_0:_≤1099511627776:=hr13_0.lim
 refine⟨_,Z,?_⟩
 refine pe 5 Z (q3 (W_seq (q2 (pe 2 Z (q3 ?_)))))
 refine W_cond Z ?_ ?_
 ·intro hc14
  try simp only[nrm]at hc14
  refine q2 (o_build bf27 Z Z Z (xst 0 H Z8 ?_));intro _ H
  refine aG Z (q3 (W_ret (N_K_ret (ret_gen (rs:=[.cell 4 27,.tmp 5]) (vs:=[_,_]) results102 ⟨⟨_,Z,load_blk 0 H isAgg27 sizeOf27 Z Z Z⟩,Z,trivial⟩ ?_))))
  have hN:Sp.l14Drop d x=none:=by exact Sp.dr_tree hat hz10 (by simp_all) hxb (by simpa using hc14)
  have H:=H.addNil 107 2
  exact H.retO (k:=0) rfl (by rw[hN];exact⟨_,_,_,rfl,AccOf.mk rfl Chk.nil,RdS.nil _ _ _,RdS.nil _ _ _⟩) (acc_nd _ _ _ _ _)
 intro hc14'
 try simp only[nrm]at hc14'
 refine W_skip (N_K (q2 (lA 2 3 H Z4 (xc Z2 (l12Copy_c _ _ H.sub _ d ⟨_,_,_,_,_,_,_,_,_,Z,hr1,hr1',hr1''⟩) ?_))))
 rintro _ _ ⟨G16,_,_,g16,rfl,⟨_,_,_,rfl,⟨_,rfl,hchk16⟩,hr16_0,hr16_1⟩,hp16,hq16,hs16⟩
 have H:=H.growO g16 hp16 hq16 hs16;obtain⟨_,_,rfl⟩:=H.accShape (k:=0) rfl
 have hr1:=hr1.up g16.le
 have hr1':=hr1'.up g16.le
 have hr13_0:=hr13_0.up g16.le
 obtain⟨_,_,rfl⟩:=hr16_0.shape;have hx_hr16_0:_≤1099511627776:=hr16_0.lim
 obtain⟨_,_,rfl⟩:=hr16_1.shape;have hx_hr16_1:_≤1099511627776:=hr16_1.lim
 refine⟨_,Z,?_⟩
 refine xal H Z ?_;intro _ _ _ H
 refine xst 0 H Z8 ?_;intro _ H
 refine q1 (mV Z (fA 1 Z (xst 0 H Z8 ?_)));intro _ H
 refine q3 (W_seq (W_drawK [0,2,3,4] 14 H kR Z ?_));intro _ H;have hd20:=PLe.refl G16
 refine dF 0 0 Z2 (dB 1 3 Z4 (dF 2 1 Z2 (dB 3 3 Z4 (dE 4 Z2 ?_))))
 have hl21:=hr1'.len
 obtain⟨_,_,z21,_,ha21,hz21,hq21,hE21,hrow21,_⟩:=hr1'.at (i:=i) oM
 clear hq21
 obtain⟨_,_,_,rfl,_,hr21,_,_⟩:=ox hE21
 refine dI 5 3 i ha21 Z3 ib (dF 6 2 Z2 (dP 7 hrow21 2 Z3 (r1 8 Z (xc Z2 (FileFree_c _ _ H.sub _ _ hr1 _ _ hr21) ?_))))
 rintro _ _ ⟨_,_,_,g22,rfl,⟨_,rfl,⟨_,rfl,hchk22⟩⟩,hp22,hq22,hs22⟩
 have H:=H.growO g22 hp22 hq22 hs22;obtain⟨_,_,rfl⟩:=H.accShape (k:=0) rfl
 have hr13_0:=hr13_0.up g22.le
 have hchk16:=hchk16.up g22.le
 have hd20:=hd20.trans g22.le
 refine⟨_,Z,?_⟩
 have hfl2:=Sp.free_len d.store z21.ids
 refine q4 H hd20 (dE 9 Z2 (dE 10 Z2 (dE 11 Z2 (dE 12 Z2 (dE 13 Z2 (rz (N_K (q2 (mV Z (fA 0 Z (xst 1 H Z8 ?_)))))))))));intro _ H
 refine q1 (lA 1 3 H Z4 (xst 3 H Z8 ?_));intro _ H
 refine aG Z (q3 (W_ret (ret_gen (rs:=[.cell 4 27,.tmp 5]) (vs:=[_,_]) results102 ⟨⟨_,Z,load_blk 3 H isAgg27 sizeOf27 Z Z Z⟩,Z,trivial⟩ ?_)))
 obtain⟨_,H,hsg526,hsr526⟩:=H.shut' (k:=0) rfl hchk22 aN aN
 have hr13_0:=hr13_0.up hsg526
 have hchk16:=hchk16.up hsg526
 have hY:Sp.l14Drop d x=some ⟨(Sp.FileFree d.store z21.ids).getD [],(Sp.TreeDrop d.tree x.path).getD [],d.snaps⟩:=by exact Sp.dr_yes hat hz21 (by simp_all) hxb (by simpa using hc14')
 exact H.retO (k:=1) rfl (by rw[hY];exact⟨_,_,_,rfl,AccOf.mk aN hchk16,hsr526,hr13_0⟩) (acc_nd _ _ _ _ _)
theorem l14Make_c (w0:World)(G0:PH)(hG:PSub G0 w0)(cd:List Value)(d:BDisk)(hd:diskE G0 d cd)(cx:List Value)(x:BPart)(hx:partE G0 x cx)(hdv:Sp.DiskValid d=true)(hk:x.kind=1∨x.kind=3) :
  Calls Tryz.prog 103 #[.agg cd.toArray,.agg cx.toArray] w0 (RetO w0 G0 (fun G val r=>∃u u1 u2,val= .tuple #[.agg #[u,u1,u2],.bool (Sp.l14Make d x).isSome]∧AccOf snapE 2 107 (((Sp.l14Make d x).map (·.snaps)).getD []) G u2 r∧RdH G u (((Sp.l14Make d x).map (·.store)).getD [])∧RdItems G u1 (((Sp.l14Make d x).map (·.tree)).getD []))):=by
 obtain⟨_,_,_,_,_,_,_,_,_,rfl,hr1,hr1',hr1'',⟨_,_⟩,⟨_,_⟩,_,_⟩:=ox hd
 obtain⟨_,_,_,rfl,_,hi2,hr2⟩:=hx;have hy_hi2:_≤16777216:=hi2;have hn_hr2:=hr2.len;have hx_hr2:_≤1099511627776:=hr2.lim
 have H:=Hp.init hG
 refine calls_of_W (l:=[_,_]) func103 Z ntmps103 Z (q2 (o_box H Z Z Z ?_));intro _ _ _ H
 refine o_box H Z Z Z ?_;intro _ _ _ H
 refine xal H Z ?_;intro _ _ _ H
 refine aG Z (q1 (fA 1 Z (lB 2 H Z3 (fA 1 Z (lB 1 H Z3 (xr H Z2 (l5At_c _ _ H.sub _ _ hr1' _ hi2) ?_))))));intro _ H
 refine aG Z (q3 (W_seq (q2 (pe 2 Z (fA 0 Z (lB 1 H Z3 (pe 1 Z (o_bneq underlying4 Z Z Z (mV Z ?_)))))))))
 refine R_case (t:=21) Z ?_ ?_
 ·intro hc7
  try simp only[nrm]at hc7
  refine pe 4 Z (R_pass Z (yl_un Z Z) (R_pass Z (yl_un Z Z) (R_pass Z (yl_un Z Z) (R_pass Z (yl_un Z Z) (R_pass Z (yl_un Z Z) (R_pass Z (yl_un Z Z) (R_pass Z (yl_un Z Z) (R_pass Z (yl_un Z Z) (R_pass Z (yl_un Z Z) (R_pass Z (yl_un Z Z) (pe 2 Z (q3 (W_true Z (q2 (o_build bf27 Z Z Z ?_)))))))))))))))
  refine xst 0 H Z8 ?_;intro _ H
  refine aG Z (q3 (W_ret (N_K_ret (ret_gen (rs:=[.cell 4 27,.tmp 5]) (vs:=[_,_]) results103 ⟨⟨_,Z,load_blk 0 H isAgg27 sizeOf27 Z Z Z⟩,Z,trivial⟩ ?_))))
  have hN:Sp.l14Make d x=none:=by exact Sp.mk_not hdv hk (by simpa using hc7)
  have H:=H.addNil 107 2
  exact H.retO (k:=0) rfl (by rw[hN];exact⟨_,_,_,rfl,AccOf.mk rfl Chk.nil,RdS.nil _ _ _,RdS.nil _ _ _⟩) (acc_nd _ _ _ _ _)
 intro hc7'
 try simp only[nrm]at hc7'
 have hge14:0≤Sp.l5At d.tree x.path↔x.kind=3:=Sp.mk_ge (by simpa using hc7')
 refine gR Z (fA 0 Z (gR Z (lB 1 H Z3 (pe 2 Z ?_))))
 refine R_case (t:=25) Z ?_ ?_
 ·intro hc9
  try simp only[nrm]at hc9
  refine gR Z (fA 2 Z (gR Z (lB 1 H Z3 (pe 1 Z ?_))))
  refine R_case (t:=28) Z ?_ ?_
  ·intro hc10
   try simp only[nrm]at hc10
   refine pe 9 Z (q3 (W_true Z (q2 (o_build bf27 Z Z Z (xst 0 H Z8 ?_)))));intro _ H
   refine aG Z (q3 (W_ret (N_K_ret (ret_gen (rs:=[.cell 4 27,.tmp 5]) (vs:=[_,_]) results103 ⟨⟨_,Z,load_blk 0 H isAgg27 sizeOf27 Z Z Z⟩,Z,trivial⟩ ?_))))
   have hN:Sp.l14Make d x=none:=by exact Sp.mk_dir1 hc9 (by simpa using hc10)
   have H:=H.addNil 107 2
   exact H.retO (k:=0) rfl (by rw[hN];exact⟨_,_,_,rfl,AccOf.mk rfl Chk.nil,RdS.nil _ _ _,RdS.nil _ _ _⟩) (acc_nd _ _ _ _ _)
  intro hc10'
  try simp only[nrm]at hc10'
  obtain⟨i,_,hat,ib,_,_⟩:=Sp.l5_nat (t:=d.tree) (p:=x.path) (hge14.2 hc9)
  refine gR Z (fA 1 Z (gR Z (lB 2 H Z3 (pe 1 Z (gR Z (iP i hr1' Z3 ib ?_))))));intro _ _ _ _ hz12 hE12 hrow12
  obtain⟨_,_,_,rfl,_,hr12,_,_⟩:=ox hE12
  refine gR Z (fA 1 Z (gR Z (lP H hrow12 1 Z2 (pe 3 Z (q3 ?_)))))
  refine W_cond Z ?_ ?_
  ·intro hc13
   try simp only[nrm]at hc13
   refine q2 (o_build bf27 Z Z Z (xst 0 H Z8 ?_));intro _ H
   refine aG Z (q3 (W_ret (N_K_ret (ret_gen (rs:=[.cell 4 27,.tmp 5]) (vs:=[_,_]) results103 ⟨⟨_,Z,load_blk 0 H isAgg27 sizeOf27 Z Z Z⟩,Z,trivial⟩ ?_))))
   have hN:Sp.l14Make d x=none:=by exact Sp.mk_dir hdv hat hz12 hc9 (.inr (by simpa using hc13))
   have H:=H.addNil 107 2
   exact H.retO (k:=0) rfl (by rw[hN];exact⟨_,_,_,rfl,AccOf.mk rfl Chk.nil,RdS.nil _ _ _,RdS.nil _ _ _⟩) (acc_nd _ _ _ _ _)
  intro hc13'
  try simp only[nrm]at hc13'
  refine W_skip (N_K (W_seq (q2 (fA 2 Z (lB 1 H Z3 (pe 1 Z (q3 ?_)))))))
  refine W_cond Z ?_ ?_
  ·intro hc15
   try simp only[nrm]at hc15
   refine q2 (lA 2 3 H Z4 (fA 1 Z (lB 1 H Z3 (fA 3 Z (lB 1 H Z3 (xc Z2 (DiskWrite_c _ _ H.sub _ d ⟨_,_,_,_,_,_,_,_,_,Z,hr1,hr1',hr1''⟩ _ hi2 _ _ hr2) ?_))))))
   rintro _ _ ⟨_,_,_,g16,rfl,⟨_,_,_,rfl,⟨_,rfl,hchk16⟩,hr16_0,hr16_1⟩,hp16,hq16,hs16⟩
   have H:=H.growO g16 hp16 hq16 hs16;obtain⟨_,_,rfl⟩:=H.accShape (k:=0) rfl
   obtain⟨_,_,rfl⟩:=hr16_0.shape;have hx_hr16_0:_≤1099511627776:=hr16_0.lim
   obtain⟨_,_,rfl⟩:=hr16_1.shape;have hx_hr16_1:_≤1099511627776:=hr16_1.lim
   refine⟨_,Z,?_⟩
   refine pe 2 Z (xst 1 H Z8 ?_);intro _ H
   refine aG Z (q3 (W_ret (N_K_ret (ret_gen (rs:=[.cell 4 27,.tmp 5]) (vs:=[_,_]) results103 ⟨⟨_,Z,load_blk 1 H isAgg27 sizeOf27 Z Z Z⟩,Z,trivial⟩ ?_))))
   have hY:Sp.l14Make d x=Sp.DiskWrite d x.path x.bytes:=by exact Sp.mk_file3 hdv hat hz12 hc9 (by simp_all) (by simp_all)
   exact H.retO (k:=0) rfl (by rw[hY];exact⟨_,_,_,rfl,AccOf.mk aN hchk16,hr16_0,hr16_1⟩) (acc_nd _ _ _ _ _)
  intro hc15'
  try simp only[nrm]at hc15'
  exact absurd (show False by simp_all) id
 intro hc9'
 try simp only[nrm]at hc9'
 refine pe 3 Z (R_pass Z (yl_un Z Z) (R_pass Z (yl_un Z Z) (R_pass Z (yl_un Z Z) (R_pass Z (yl_un Z Z) (R_pass Z (yl_un Z Z) (R_pass Z (yl_un Z Z) (pe 3 Z (q3 (W_false Z (W_skip (N_K (W_seq (q2 (fA 2 Z (lB 1 H Z3 ?_)))))))))))))))
 refine pe 1 Z (q3 ?_)
 refine W_cond Z ?_ ?_
 ·intro hc18
  try simp only[nrm]at hc18
  refine q2 (lA 2 3 H Z4 (fA 1 Z (lB 1 H Z3 (fA 3 Z (lB 1 H Z3 (xc Z2 (DiskWrite_c _ _ H.sub _ d ⟨_,_,_,_,_,_,_,_,_,Z,hr1,hr1',hr1''⟩ _ hi2 _ _ hr2) ?_))))))
  rintro _ _ ⟨_,_,_,g19,rfl,⟨_,_,_,rfl,⟨_,rfl,hchk19⟩,hr19_0,hr19_1⟩,hp19,hq19,hs19⟩
  have H:=H.growO g19 hp19 hq19 hs19;obtain⟨_,_,rfl⟩:=H.accShape (k:=0) rfl
  obtain⟨_,_,rfl⟩:=hr19_0.shape;have hx_hr19_0:_≤1099511627776:=hr19_0.lim
  obtain⟨_,_,rfl⟩:=hr19_1.shape;have hx_hr19_1:_≤1099511627776:=hr19_1.lim
  refine⟨_,Z,?_⟩
  refine pe 2 Z (xst 1 H Z8 ?_);intro _ H
  refine aG Z (q3 (W_ret (N_K_ret (ret_gen (rs:=[.cell 4 27,.tmp 5]) (vs:=[_,_]) results103 ⟨⟨_,Z,load_blk 1 H isAgg27 sizeOf27 Z Z Z⟩,Z,trivial⟩ ?_))))
  have h1:x.kind=1:=hk.resolve_right hc9'
  have ha:¬0≤Sp.l5At d.tree x.path:=fun h=>hc9' (hge14.1 h)
  have hY:Sp.l14Make d x=Sp.DiskWrite d x.path x.bytes:=by exact Sp.mk_file1 h1 ha (by simp_all)
  exact H.retO (k:=0) rfl (by rw[hY];exact⟨_,_,_,rfl,AccOf.mk aN hchk19,hr19_0,hr19_1⟩) (acc_nd _ _ _ _ _)
 intro hc18'
 try simp only[nrm]at hc18'
 refine W_skip (N_K (q2 (fA 1 Z (lB 2 H Z3 (fA 1 Z (lB 1 H Z3 (o_build bf35 Z Z Z (xc Z2 (TreePut_c _ _ H.sub _ _ hr1' _ ⟨x.path,true,[]⟩ ⟨_,_,_,Z,hi2,(RdS.nil _ _ _)⟩) ?_))))))))
 rintro _ _ ⟨_,_,g21,rfl,_,rfl,hr21_0⟩
 have H:=H.grow g21
 have hr1:=hr1.up g21.le
 have hr1':=hr1'.up g21.le
 have hr1'':=hr1''.up g21.le
 obtain⟨_,_,rfl⟩:=hr21_0.shape;have hx_hr21_0:_≤1099511627776:=hr21_0.lim
 refine⟨_,Z,?_⟩
 refine pe 5 Z (q3 (W_seq (q2 (pe 3 Z ?_))))
 refine R_case (t:=61) Z ?_ ?_
 ·intro hc22
  try simp only[nrm]at hc22
  refine pe 5 Z (q3 (W_true Z (q2 (o_build bf27 Z Z Z (xst 0 H Z8 ?_)))));intro _ H
  refine aG Z (q3 (W_ret (N_K_ret (ret_gen (rs:=[.cell 4 27,.tmp 5]) (vs:=[_,_]) results103 ⟨⟨_,Z,load_blk 0 H isAgg27 sizeOf27 Z Z Z⟩,Z,trivial⟩ ?_))))
  have h1:x.kind=1:=hk.resolve_right hc9'
  have ha:¬0≤Sp.l5At d.tree x.path:=fun h=>hc9' (hge14.1 h)
  have hN:Sp.l14Make d x=none:=by (rw[Sp.mk_new h1 ha (by simp_all),show(Sp.TreePut d.tree ⟨x.path,true,[]⟩)=none by simpa using hc22];simp)
  have H:=H.addNil 107 2
  exact H.retO (k:=0) rfl (by rw[hN];exact⟨_,_,_,rfl,AccOf.mk rfl Chk.nil,RdS.nil _ _ _,RdS.nil _ _ _⟩) (acc_nd _ _ _ _ _)
 intro hc22'
 try simp only[nrm]at hc22'
 refine gR Z (fA 3 Z (gR Z (lB 1 H Z3 (gR Z (lN Z (pe 2 Z (q3 ?_)))))))
 refine W_cond Z ?_ ?_
 ·intro hc24
  try simp only[nrm]at hc24
  refine q2 (o_build bf27 Z Z Z (xst 0 H Z8 ?_));intro _ H
  refine aG Z (q3 (W_ret (N_K_ret (ret_gen (rs:=[.cell 4 27,.tmp 5]) (vs:=[_,_]) results103 ⟨⟨_,Z,load_blk 0 H isAgg27 sizeOf27 Z Z Z⟩,Z,trivial⟩ ?_))))
  have h1:x.kind=1:=hk.resolve_right hc9'
  have ha:¬0≤Sp.l5At d.tree x.path:=fun h=>hc9' (hge14.1 h)
  have hN:Sp.l14Make d x=none:=by (rw[Sp.mk_new h1 ha (by simp_all),if_neg (fun e=>by (have h9:x.bytes.length=0:=by (rw[e];rfl));omega)])
  have H:=H.addNil 107 2
  exact H.retO (k:=0) rfl (by rw[hN];exact⟨_,_,_,rfl,AccOf.mk rfl Chk.nil,RdS.nil _ _ _,RdS.nil _ _ _⟩) (acc_nd _ _ _ _ _)
 intro hc24'
 try simp only[nrm]at hc24'
 refine W_skip (N_K (q2 (lA 2 3 H Z4 (xc Z2 (l12Copy_c _ _ H.sub _ d ⟨_,_,_,_,_,_,_,_,_,Z,hr1,hr1',hr1''⟩) ?_))))
 rintro _ _ ⟨_,_,_,g26,rfl,⟨_,_,_,rfl,⟨_,rfl,hchk26⟩,hr26_0,hr26_1⟩,hp26,hq26,hs26⟩
 have H:=H.growO g26 hp26 hq26 hs26;obtain⟨_,_,rfl⟩:=H.accShape (k:=0) rfl
 have hr21_0:=hr21_0.up g26.le
 obtain⟨_,_,rfl⟩:=hr26_0.shape;have hx_hr26_0:_≤1099511627776:=hr26_0.lim
 obtain⟨_,_,rfl⟩:=hr26_1.shape;have hx_hr26_1:_≤1099511627776:=hr26_1.lim
 refine⟨_,Z,?_⟩
 refine xal H Z ?_;intro _ _ _ H
 refine xst 0 H Z8 ?_;intro _ H
 refine q1 (mV Z (fA 1 Z (xst 0 H Z8 ?_)));intro _ H
 refine q1 (lA 0 3 H Z4 (xst 2 H Z8 ?_));intro _ H
 refine aG Z (q3 (W_ret (ret_gen (rs:=[.cell 4 27,.tmp 5]) (vs:=[_,_]) results103 ⟨⟨_,Z,load_blk 2 H isAgg27 sizeOf27 Z Z Z⟩,Z,trivial⟩ ?_)))
 have h1:x.kind=1:=hk.resolve_right hc9'
 have ha:¬0≤Sp.l5At d.tree x.path:=fun h=>hc9' (hge14.1 h)
 have hY:Sp.l14Make d x=some ⟨d.store,(Sp.TreePut d.tree ⟨x.path,true,[]⟩).getD [],d.snaps⟩:=by (rw[Sp.mk_new h1 ha (by simp_all),if_pos (List.length_eq_zero_iff.1 oM)];cases hq:(Sp.TreePut d.tree ⟨x.path,true,[]⟩) with |none=>simp_all|some q=>rfl)
 exact H.retO (k:=1) rfl (by rw[hY];exact⟨_,_,_,rfl,AccOf.mk aN hchk26,hr26_0,hr21_0⟩) (acc_nd _ _ _ _ _)
theorem OpRun_c (w0:World)(G0:PH)(hG:PSub G0 w0)(cd:List Value)(d:BDisk)(hd:diskE G0 d cd)(cop:List Value)(op:BOp)(hop:opE G0 op cop) :
  Calls Tryz.prog 31 #[.agg cd.toArray,.agg cop.toArray] w0 (RetO w0 G0 (fun G val r=>∃u u1 u2,val= .tuple #[.agg #[u,u1,u2],.bool (Sp.OpRun d op).isSome]∧AccOf snapE 2 107 (((Sp.OpRun d op).map (·.snaps)).getD []) G u2 r∧RdH G u (((Sp.OpRun d op).map (·.store)).getD [])∧RdItems G u1 (((Sp.OpRun d op).map (·.tree)).getD []))):=by
 obtain⟨_,_,_,_,_,_,_,_,_,rfl,hr1,hr1',hr1'',⟨_,_⟩,⟨_,_⟩,_,_⟩:=ox hd
 obtain⟨_,_,_,rfl,_,hi2,hr2⟩:=hop;have hy_hi2:_≤16777216:=hi2;have hn_hr2:=hr2.len;have hx_hr2:_≤1099511627776:=hr2.lim
 have H:=Hp.init hG
 refine calls_of_W (l:=[_,_]) func31 Z ntmps31 Z (q2 (o_box H Z Z Z ?_));intro _ _ _ H
 refine o_box H Z Z Z ?_;intro _ _ _ H
 refine xal H Z ?_;intro _ _ _ H
 refine aG Z (q3 (W_seq (q2 (lA 2 3 H Z4 (xr H Z2 (DiskValid_c _ _ H.sub _ d ⟨_,_,_,_,_,_,_,_,_,Z,hr1,hr1',hr1''⟩) ?_)))));intro _ H
 refine pe 2 Z ?_
 refine R_case (t:=10) Z ?_ ?_
 ·intro hc7
  try simp only[nrm]at hc7
  refine pe 4 Z (q3 (W_true Z (q2 (o_build bf27 Z Z Z (xst 0 H Z8 ?_)))));intro _ H
  refine aG Z (q3 (W_ret (N_K_ret (ret_gen (rs:=[.cell 4 27,.tmp 5]) (vs:=[_,_]) results31 ⟨⟨_,Z,load_blk 0 H isAgg27 sizeOf27 Z Z Z⟩,Z,trivial⟩ ?_))))
  have hN:Sp.OpRun d op=none:=by exact Sp.op_nov (by simpa using hc7)
  have H:=H.addNil 107 2
  exact H.retO (k:=0) rfl (by rw[hN];exact⟨_,_,_,rfl,AccOf.mk rfl Chk.nil,RdS.nil _ _ _,RdS.nil _ _ _⟩) (acc_nd _ _ _ _ _)
 intro hc7'
 try simp only[nrm]at hc7'
 have hdv:Sp.DiskValid d=true:=by simpa using hc7'
 refine gR Z (lA 1 3 H Z4 (gR Z ?_))
 refine xr H Z2 (l22Ok_c _ _ H.sub _ op ⟨_,_,_,Z,⟨by first|omega|(dsimp only;omega),by first|omega|(dsimp only;omega)⟩,hi2,hr2⟩) ?_;intro _ H
 refine pe 2 Z (q3 ?_)
 refine W_cond Z ?_ ?_
 ·intro hc10
  try simp only[nrm]at hc10
  refine q2 (o_build bf27 Z Z Z (xst 0 H Z8 ?_));intro _ H
  refine aG Z (q3 (W_ret (N_K_ret (ret_gen (rs:=[.cell 4 27,.tmp 5]) (vs:=[_,_]) results31 ⟨⟨_,Z,load_blk 0 H isAgg27 sizeOf27 Z Z Z⟩,Z,trivial⟩ ?_))))
  have hN:Sp.OpRun d op=none:=by exact Sp.op_bad (by simpa using hc10)
  have H:=H.addNil 107 2
  exact H.retO (k:=0) rfl (by rw[hN];exact⟨_,_,_,rfl,AccOf.mk rfl Chk.nil,RdS.nil _ _ _,RdS.nil _ _ _⟩) (acc_nd _ _ _ _ _)
 intro hc10'
 try simp only[nrm]at hc10'
 have hok:Sp.opOk op=true:=by simpa using hc10'
 refine W_skip (N_K (q2 (fA 1 Z (lB 2 H Z3 (fA 1 Z (lB 1 H Z3 (xr H Z2 (l5At_c _ _ H.sub _ _ hr1' _ hi2) ?_)))))));intro _ H
 refine aG Z (q3 (W_seq (W_block (q2 (fA 0 Z (lB 1 H Z3 (pe 2 Z (q3 ?_))))))))
 refine W_cond Z ?_ ?_
 ·intro hc13
  try simp only[nrm]at hc13
  refine q2 (lA 2 3 H Z4 (fA 1 Z (lB 1 H Z3 (fA 2 Z (lB 1 H Z3 (xc Z2 (DiskWrite_c _ _ H.sub _ d ⟨_,_,_,_,_,_,_,_,_,Z,hr1,hr1',hr1''⟩ _ hi2 _ _ hr2) ?_))))))
  rintro _ _ ⟨_,_,_,g14,rfl,⟨_,_,_,rfl,⟨_,rfl,hchk14⟩,hr14_0,hr14_1⟩,hp14,hq14,hs14⟩
  have H:=H.growO g14 hp14 hq14 hs14;obtain⟨_,_,rfl⟩:=H.accShape (k:=0) rfl
  obtain⟨_,_,rfl⟩:=hr14_0.shape;have hx_hr14_0:_≤1099511627776:=hr14_0.lim
  obtain⟨_,_,rfl⟩:=hr14_1.shape;have hx_hr14_1:_≤1099511627776:=hr14_1.lim
  refine⟨_,Z,?_⟩
  refine pe 2 Z (xst 1 H Z8 ?_);intro _ H
  refine aG Z (q3 (W_ret (N_B_ret (N_K_ret (ret_gen (rs:=[.cell 4 27,.tmp 5]) (vs:=[_,_]) results31 ⟨⟨_,Z,load_blk 1 H isAgg27 sizeOf27 Z Z Z⟩,Z,trivial⟩ ?_)))))
  have hY:Sp.OpRun d op=Sp.DiskWrite d op.path op.bytes:=by exact Sp.op_is2 hok oM hc13
  exact H.retO (k:=0) rfl (by rw[hY];exact⟨_,_,_,rfl,AccOf.mk aN hchk14,hr14_0,hr14_1⟩) (acc_nd _ _ _ _ _)
 intro hc13'
 try simp only[nrm]at hc13'
 refine q2 (fA 0 Z (lB 1 H Z3 (pe 2 Z (q3 ?_))))
 refine W_cond Z ?_ ?_
 ·intro hc16
  try simp only[nrm]at hc16
  refine q2 (lA 2 3 H Z4 (fA 1 Z (lB 1 H Z3 (xc Z2 (SnapTake_c _ _ H.sub _ d ⟨_,_,_,_,_,_,_,_,_,Z,hr1,hr1',hr1''⟩ _ hi2) ?_))))
  rintro _ _ ⟨_,_,_,g17,rfl,⟨_,_,_,rfl,⟨_,rfl,hchk17⟩,hr17_0,hr17_1⟩,hp17,hq17,hs17⟩
  have H:=H.growO g17 hp17 hq17 hs17;obtain⟨_,_,rfl⟩:=H.accShape (k:=0) rfl
  obtain⟨_,_,rfl⟩:=hr17_0.shape;have hx_hr17_0:_≤1099511627776:=hr17_0.lim
  obtain⟨_,_,rfl⟩:=hr17_1.shape;have hx_hr17_1:_≤1099511627776:=hr17_1.lim
  refine⟨_,Z,?_⟩
  refine pe 2 Z (xst 1 H Z8 ?_);intro _ H
  refine aG Z (q3 (W_ret (N_B_ret (N_K_ret (ret_gen (rs:=[.cell 4 27,.tmp 5]) (vs:=[_,_]) results31 ⟨⟨_,Z,load_blk 1 H isAgg27 sizeOf27 Z Z Z⟩,Z,trivial⟩ ?_)))))
  have hY:Sp.OpRun d op=Sp.SnapTake d op.path:=by exact Sp.op_is4 hok oM oM oM
  exact H.retO (k:=0) rfl (by rw[hY];exact⟨_,_,_,rfl,AccOf.mk aN hchk17,hr17_0,hr17_1⟩) (acc_nd _ _ _ _ _)
 intro hc16'
 try simp only[nrm]at hc16'
 refine q2 (fA 0 Z (lB 1 H Z3 (pe 2 Z ?_)))
 refine R_case (t:=47) Z ?_ ?_
 ·intro hc19
  try simp only[nrm]at hc19
  refine pe 4 Z (q3 ?_)
  refine W_cond Z ?_ ?_
  ·intro hc20
   try simp only[nrm]at hc20
   obtain⟨i,y0,hat,ib,ic,ie⟩:=Sp.l5_nat (t:=d.tree) (p:=op.path) oM
   refine W_seq (W_drawK [1,2] 15 H kR Z ?_);intro _ H;have hd21:=PLe.refl G0
   refine RD_t 0 Z kR Z (fun _ hK=>v_loadagg_B 1 hK isAgg27 sizeOf27 Z Z Z Z) (dF 1 1 Z2 (dB 2 0 Z4 (dF 3 1 Z2 (dB 4 1 Z4 (dE 5 Z2 ?_)))))
   have hl22:=hr1'.len
   obtain⟨_,_,z22,_,ha22,hz22,hq22,hE22,hrow22,_⟩:=hr1'.at (i:=i) oM
   clear hq22
   obtain⟨_,_,_,rfl,_,hr22,_,_⟩:=ox hE22
   refine dI 6 3 i ha22 Z3 ib (dF 7 1 Z2 (dP 8 hrow22 1 Z3 (RD_t 9 Z kR Z (fun _ hK=>v_build bf160 Z Z) (r1 10 Z ?_))))
   refine xc Z2 (l14Drop_c _ _ H.sub _ d ⟨_,_,_,_,_,_,_,_,_,Z,hr1,hr1',hr1''⟩ _ ⟨0,op.path,z22.dir,[]⟩ ⟨_,_,_,Z,⟨by first|omega|(dsimp only;omega),by first|omega|(dsimp only;omega)⟩,hi2,(RdS.nil _ _ _)⟩ hdv rfl) ?_
   rintro _ _ ⟨_,_,_,g23,rfl,⟨_,_,_,rfl,⟨_,rfl,hchk23⟩,hr23_0,hr23_1⟩,hp23,hq23,hs23⟩
   have H:=H.growO g23 hp23 hq23 hs23;obtain⟨_,_,rfl⟩:=H.accShape (k:=0) rfl
   have hd21:=hd21.trans g23.le
   obtain⟨_,_,rfl⟩:=hr23_0.shape;have hx_hr23_0:_≤1099511627776:=hr23_0.lim
   obtain⟨_,_,rfl⟩:=hr23_1.shape;have hx_hr23_1:_≤1099511627776:=hr23_1.lim
   refine⟨_,Z,?_⟩
   refine q4 H hd21 (dE 11 Z2 (dE 12 Z2 (r1 13 Z (xst 1 H Z8 ?_))));intro _ H
   refine q4 H hd21 (dE 14 Z2 (rz (N_K (W_ret (N_B_ret (N_K_ret (ret_gen (rs:=[.cell 4 27,.tmp 5]) (vs:=[_,_]) results31 ⟨⟨_,Z,load_blk 1 H isAgg27 sizeOf27 Z Z Z⟩,Z,trivial⟩ ?_)))))))
   have hY:Sp.OpRun d op=Sp.l14Drop d ⟨0,op.path,z22.dir,[]⟩:=by exact(Sp.op_is3 hok oM oM hc19).trans (Sp.drop14 hdv hat hz22 0).symm
   exact H.retO (k:=0) rfl (by rw[hY];exact⟨_,_,_,rfl,AccOf.mk aN hchk23,hr23_0,hr23_1⟩) (acc_nd _ _ _ _ _)
  intro hc20'
  try simp only[nrm]at hc20'
  refine q2 (fA 0 Z (lB 1 H Z3 (pe 2 Z ?_)))
  refine R_case (t:=68) Z ?_ ?_
  ·intro hc25
   try simp only[nrm]at hc25
   exact absurd (show False by omega) id
  intro hc25'
  try simp only[nrm]at hc25'
  refine pe 4 Z (q3 (W_false Z (W_skip (N_B (N_K (q2 (o_build bf27 Z Z Z (xst 0 H Z8 ?_))))))));intro _ H
  refine aG Z (q3 (W_ret (ret_gen (rs:=[.cell 4 27,.tmp 5]) (vs:=[_,_]) results31 ⟨⟨_,Z,load_blk 0 H isAgg27 sizeOf27 Z Z Z⟩,Z,trivial⟩ ?_)))
  have hN:Sp.OpRun d op=none:=by exact(Sp.op_is3 hok oM oM hc19).trans (Sp.drop14_no (Sp.l5_none oM))
  have H:=H.addNil 107 2
  exact H.retO (k:=0) rfl (by rw[hN];exact⟨_,_,_,rfl,AccOf.mk rfl Chk.nil,RdS.nil _ _ _,RdS.nil _ _ _⟩) (acc_nd _ _ _ _ _)
 intro hc19'
 try simp only[nrm]at hc19'
 refine pe 4 Z (q3 (W_false Z (q2 (fA 0 Z (lB 1 H Z3 (pe 2 Z ?_))))))
 refine R_case (t:=68) Z ?_ ?_
 ·intro hc27
  try simp only[nrm]at hc27
  refine pe 4 Z (q3 ?_)
  refine W_cond Z ?_ ?_
  ·intro hc28
   try simp only[nrm]at hc28
   refine q2 (lA 2 3 H Z4 (fA 1 Z (lB 1 H Z3 (o_build bf160 Z Z Z ?_))))
   refine xc Z2 (l14Make_c _ _ H.sub _ d ⟨_,_,_,_,_,_,_,_,_,Z,hr1,hr1',hr1''⟩ _ ⟨1,op.path,true,[]⟩ ⟨_,_,_,Z,⟨by first|omega|(dsimp only;omega),by first|omega|(dsimp only;omega)⟩,hi2,(RdS.nil _ _ _)⟩ hdv (.inl rfl)) ?_
   rintro _ _ ⟨_,_,_,g29,rfl,⟨_,_,_,rfl,⟨_,rfl,hchk29⟩,hr29_0,hr29_1⟩,hp29,hq29,hs29⟩
   have H:=H.growO g29 hp29 hq29 hs29;obtain⟨_,_,rfl⟩:=H.accShape (k:=0) rfl
   obtain⟨_,_,rfl⟩:=hr29_0.shape;have hx_hr29_0:_≤1099511627776:=hr29_0.lim
   obtain⟨_,_,rfl⟩:=hr29_1.shape;have hx_hr29_1:_≤1099511627776:=hr29_1.lim
   refine⟨_,Z,?_⟩
   refine pe 2 Z (xst 1 H Z8 ?_);intro _ H
   refine aG Z (q3 (W_ret (N_B_ret (N_K_ret (ret_gen (rs:=[.cell 4 27,.tmp 5]) (vs:=[_,_]) results31 ⟨⟨_,Z,load_blk 1 H isAgg27 sizeOf27 Z Z Z⟩,Z,trivial⟩ ?_)))))
   have hY:Sp.OpRun d op=Sp.l14Make d ⟨1,op.path,true,[]⟩:=by exact(Sp.op_is1 hok oM).trans (Sp.make14 hdv (Sp.l5_none oM)).symm
   exact H.retO (k:=0) rfl (by rw[hY];exact⟨_,_,_,rfl,AccOf.mk aN hchk29,hr29_0,hr29_1⟩) (acc_nd _ _ _ _ _)
  intro hc28'
  try simp only[nrm]at hc28'
  obtain⟨i,y0,hat,ib,ic,ie⟩:=Sp.l5_nat (t:=d.tree) (p:=op.path) oM
  refine W_skip (N_B (N_K (q2 (o_build bf27 Z Z Z (xst 0 H Z8 ?_)))));intro _ H
  refine aG Z (q3 (W_ret (ret_gen (rs:=[.cell 4 27,.tmp 5]) (vs:=[_,_]) results31 ⟨⟨_,Z,load_blk 0 H isAgg27 sizeOf27 Z Z Z⟩,Z,trivial⟩ ?_)))
  have hN:Sp.OpRun d op=none:=by exact(Sp.op_is1 hok oM).trans (Sp.make14_no hdv hat)
  have H:=H.addNil 107 2
  exact H.retO (k:=0) rfl (by rw[hN];exact⟨_,_,_,rfl,AccOf.mk rfl Chk.nil,RdS.nil _ _ _,RdS.nil _ _ _⟩) (acc_nd _ _ _ _ _)
 intro hc27'
 try simp only[nrm]at hc27'
 refine pe 4 Z (q3 (W_false Z (W_skip (N_B (N_K (q2 (o_build bf27 Z Z Z (xst 0 H Z8 ?_))))))));intro _ H
 refine aG Z (q3 (W_ret (ret_gen (rs:=[.cell 4 27,.tmp 5]) (vs:=[_,_]) results31 ⟨⟨_,Z,load_blk 0 H isAgg27 sizeOf27 Z Z Z⟩,Z,trivial⟩ ?_)))
 have hN:Sp.OpRun d op=none:=by exact absurd (Sp.ok_kind hok) oM
 have H:=H.addNil 107 2
 exact H.retO (k:=0) rfl (by rw[hN];exact⟨_,_,_,rfl,AccOf.mk rfl Chk.nil,RdS.nil _ _ _,RdS.nil _ _ _⟩) (acc_nd _ _ _ _ _)
theorem OpRunP_c (w0:World)(G0:PH)(hG:PSub G0 w0)(cd:List Value)(d:BDisk)(hd:diskE G0 d cd)(co:List Value)(op:BOp)(hop:opE G0 op co) :
  Calls Tryz.prog 31 #[.agg cd.toArray,.agg co.toArray] w0 (RetP w0 G0 (fun G val=>∃cs,val= .tuple #[.agg cs.toArray,.bool (Sp.OpRun d op).isSome]∧diskE G ((Sp.OpRun d op).getD ⟨[],[],[]⟩) cs)):=by
 refine(OpRun_c w0 G0 hG cd d hd co op hop).mono ?_
 rintro _ _ ⟨_,_,_,g,rfl,⟨_,_,_,rfl,⟨_,rfl,hchk⟩,h1,h2⟩,hp,hq,hs⟩
 have H:=(Hp.init hG).growO g hp hq hs
 have hb:(((Sp.OpRun d op).map (·.snaps)).getD []).length≤6:=Sp.dk_lim (fun d1 h=>Sp.op_valid h)
 obtain⟨_,H2,hle,hr⟩:=H.shut' (k:=0) rfl hchk rfl oM
 have e1:((Sp.OpRun d op).map (·.store)).getD []=((Sp.OpRun d op).getD ⟨[],[],[]⟩).store:=by cases Sp.OpRun d op<;>rfl
 have e2:((Sp.OpRun d op).map (·.tree)).getD []=((Sp.OpRun d op).getD ⟨[],[],[]⟩).tree:=by cases Sp.OpRun d op<;>rfl
 have e3:((Sp.OpRun d op).map (·.snaps)).getD []=((Sp.OpRun d op).getD ⟨[],[],[]⟩).snaps:=by cases Sp.OpRun d op<;>rfl
 rw[e1]at h1;rw[e2]at h2;rw[e3]at hr
 obtain⟨_,_,rfl⟩:=h1.shape
 obtain⟨_,_,rfl⟩:=h2.shape
 obtain⟨_,_,rfl⟩:=hr.shape
 exact H2.retP ⟨[_,_,_],Z,_,_,_,_,_,_,_,_,_,Z,h1.up hle,h2.up hle,hr⟩
theorem lOp_c (w0:World)(G0:PH)(hG:PSub G0 w0)(vcode:Value)(code:List (UInt8))(hcode:RdU G0 vcode code) :
  Calls Tryz.prog 6 #[vcode] w0 (Rets w0 (.bool true)):=by
 obtain⟨acode,kcode,rfl⟩:=hcode.shape
 have hlimcode:code.length≤1099511627776:=hcode.lim
 have H:=Hp.init hG
 refine calls_of_W (l:=[.slice acode code.length kcode]) func6 Z ntmps6 Z (q2 (aG Z (q3 (W_seq (q2 (mV Z (lN Z (pe 1 Z (q3 ?_)))))))))
 refine W_cond Z ?_ ?_
 ·intro hc1
  try simp only[nrm]at hc1
  refine q2 (aG Z (q3 (W_ret (N_K_ret (rt1 results6 Z ?_)))))
  exact H.rets Z
 intro hc1'
 try simp only[nrm]at hc1'
 refine W_skip (N_K (q2 (mV Z (xc Z2 (DrawOpRun_c _ _ H.sub _ _ hcode) ?_))))
 rintro _ _ ⟨_,_,g2,rfl,⟨_,uV,_,uO,rfl,hV,hO⟩⟩
 have H:=H.grow g2
 obtain⟨_,_,_,_,_,_,_,_,_,rfl,hr2,hr2',hr2'',⟨_,_⟩,⟨_,_⟩,_,_⟩:=ox hV
 obtain⟨_,_,_,rfl,_,hOs,hOb,_,_⟩:=ox hO
 refine⟨_,Z,?_⟩
 refine pe 3 Z (xal H Z ?_);intro _ _ _ H
 refine xal H Z ?_;intro _ _ _ H
 refine xst 1 H Z8 ?_;intro _ H
 refine xst 0 H Z8 ?_;intro _ H
 refine q1 (lA 1 3 H Z4 (lA 0 3 H Z4 ?_))
 refine xc Z2 (i_OpRun_c _ _ H.sub _ uV ⟨_,_,_,_,_,_,_,_,_,Z,hr2,hr2',hr2''⟩ _ uO ⟨_,_,_,Z,⟨by first|omega|(dsimp only;omega),by first|omega|(dsimp only;omega)⟩,hOs,hOb⟩) ?_
 rintro _ _ ⟨_,_,rfl,H7',⟨_,_,_,_,_,_,rfl,rfl,ho17,ho27,ho37⟩⟩
 have H:=H.readers (fp:=[]) (by simp) (PLe.refl _) H7'
 obtain⟨_,p17⟩:=ho17
 obtain⟨_,_,rfl⟩:=OwnS.shape p17
 obtain⟨_,p27⟩:=ho27
 obtain⟨_,_,rfl⟩:=OwnS.shape p27
 obtain⟨_,p37⟩:=ho37
 obtain⟨_,_,rfl⟩:=OwnS.shape p37
 refine⟨_,Z,?_⟩
 refine pe 3 Z (xal H Z ?_);intro _ _ _ H
 refine xst 0 H Z8 ?_;intro _ H
 refine aG Z (q1 (lA 5 3 H Z4 (lA 4 3 H Z4 ?_)))
 refine xc Z2 (OpRunP_c _ _ H.sub _ uV ⟨_,_,_,_,_,_,_,_,_,Z,hr2,hr2',hr2''⟩ _ uO ⟨_,_,_,Z,⟨by first|omega|(dsimp only;omega),by first|omega|(dsimp only;omega)⟩,hOs,hOb⟩) ?_
 rintro _ _ ⟨G10,_,g10,rfl,_,rfl,hr10_0⟩
 have H:=H.grow g10
 have hr2'':=hr2''.up g10.le
 obtain⟨_,_,_,_,_,_,_,_,_,rfl,hr11,hr11',hr11'',⟨_,_⟩,⟨_,_⟩,_,_⟩:=ox hr10_0
 refine⟨_,Z,?_⟩
 refine pe 3 Z (xal H Z ?_);intro _ _ _ H
 refine xst 0 H Z8 ?_;intro _ H
 refine aG Z (q3 (W_seq (q2 (pe 2 Z (o_bneq_same underlying4 Z Z Z (mV Z (gR Z (lA 1 3 H Z4 (gR Z (lA 0 3 H Z4 (gR Z (xr H Z2 (w_sameDisk_c _ _ (H.lendSubL [2,3,4]) _ ((Sp.OpRun uV uO).getD ⟨[],[],[]⟩) ⟨_,_,_,_,_,_,_,_,_,Z,(H.lendOHs (k:=2) (ks:=[2,3,4]) Z Z ⟨_,p17⟩),(H.lendOIs (k:=3) (ks:=[2,3,4]) Z Z ⟨_,p27⟩),(H.lendOSn (k:=4) (ks:=[2,3,4]) Z Z ⟨_,p37⟩)⟩ _ ((Sp.OpRun uV uO).getD ⟨[],[],[]⟩) ⟨_,_,_,_,_,_,_,_,_,Z,(hr11.up (PPlus.le _ _ _)),(hr11'.up (PPlus.le _ _ _)),(hr11''.up (PPlus.le _ _ _))⟩ Z) ?_))))))))))));intro _ H
 refine pe 6 Z (q3 ?_)
 refine W_cond Z ?_ ?_
 ·intro hc15
  try simp only[nrm]at hc15
  refine q2 (pe 2 Z (o_beql_same underlying4 Z Z Z (mV Z (gR Z (lA 1 3 H Z4 (gR Z (lA 0 3 H Z4 (gR Z (xr H Z2 (w_sameDisk_c _ _ (H.lendSubL [2,3,4]) _ ((Sp.OpRun uV uO).getD ⟨[],[],[]⟩) ⟨_,_,_,_,_,_,_,_,_,Z,(H.lendOHs (k:=2) (ks:=[2,3,4]) Z Z ⟨_,p17⟩),(H.lendOIs (k:=3) (ks:=[2,3,4]) Z Z ⟨_,p27⟩),(H.lendOSn (k:=4) (ks:=[2,3,4]) Z Z ⟨_,p37⟩)⟩ _ ((Sp.OpRun uV uO).getD ⟨[],[],[]⟩) ⟨_,_,_,_,_,_,_,_,_,Z,(hr11.up (PPlus.le _ _ _)),(hr11'.up (PPlus.le _ _ _)),(hr11''.up (PPlus.le _ _ _))⟩ Z) ?_)))))))));intro _ H
  refine pe 2 Z (q3 (W_ret (N_K_ret (rt1 results6 Z ?_))))
  exact H.rets Z
 intro hc15'
 try simp only[nrm]at hc15'
 obtain⟨u2,hu2⟩:=Option.isSome_iff_exists.1 (show(Sp.OpRun uV uO).isSome=true by simpa using hc15')
 have hW:(Sp.OpRun uV uO).getD ⟨[],[],[]⟩=u2:=by (rw[hu2];rfl)
 have hvv:Sp.DiskValid ((Sp.OpRun uV uO).getD ⟨[],[],[]⟩)=true:=by (rw[hW];exact Sp.op_valid hu2)
 obtain⟨hsn4,hsn5⟩:=Sp.op_snaps hu2;(rw[←hW]at hsn4 hsn5)
 refine W_skip (N_K (q2 (fA 2 Z (lB 6 H Z3 (lN Z (aG Z (q3 (W_seq (q2 (fA 0 Z (lB 5 H Z3 (pe 1 Z (q3 ?_)))))))))))))
 refine W_cond Z ?_ ?_
 ·intro hc17
  try simp only[nrm]at hc17
  have hsn:=hsn4 (by simpa using hc17)
  have hsl:=congrArg List.length hsn;(rw[List.length_append]at hsl);simp only[List.length_cons,List.length_nil]at hsl
  refine W_seq (W_drawK [0,1,5,6] 20 H kR Z ?_);intro _ H;have hd18:=PLe.refl G10
  refine RD_t 0 Z kR Z (fun _ hK=>v_loadagg_B 1 hK isAgg27 sizeOf27 Z Z Z Z) (r1 1 Z (xr H Z2 (i_DiskValid_c _ _ (H.lendSubL [2,3,4]) _ ((Sp.OpRun uV uO).getD ⟨[],[],[]⟩) ⟨_,_,_,_,_,_,_,_,_,Z,(H.lendOHs (k:=2) (ks:=[2,3,4]) Z Z ⟨_,p17⟩),(H.lendOIs (k:=3) (ks:=[2,3,4]) Z Z ⟨_,p27⟩),(H.lendOSn (k:=4) (ks:=[2,3,4]) Z Z ⟨_,p37⟩)⟩) ?_));intro _ H
  refine q4 H hd18 (dE 2 Z2 ?_)
  refine RD_case (t:=59) Z ?_ ?_
  ·intro hc20
   try simp only[nrm]at hc20
   refine dF 3 2 Z2 (dB 4 1 Z4 (dN 5 Z2 (dE 6 Z2 (RD_tg 7 Z kR Z (yl Z Z) (fun _ hK=>v_add Z Z oO) (dE 8 Z2 (dE 9 Z2 (dE 10 Z2 ?_)))))))
   refine RD_case (t:=67) Z ?_ ?_
   ·intro hc22
    try simp only[nrm]at hc22
    refine dF 11 2 Z2 (dB 12 1 Z4 (dE 13 Z2 (dF 15 2 Z2 (dB 16 3 Z4 (r1 14 Z (gR Z ?_))))))
    have hnd23:=dm_nodup H (k:=4) rfl;obtain⟨_,H,hsg23,hsf23⟩:=H.keepF (k:=4) rfl (by simp);have hsr23:=(show OSn _ _ _ from⟨_,p37⟩).rd hsf23 hnd23
    have hr2'':=hr2''.up hsg23
    have hd18:=hd18.trans hsg23
    have hcap24:=hsr23.cap;try simp only[List.length_set,List.length_append,List.length_take,List.length_drop,List.length_replicate]at hcap24
    refine o_slice_to (j:=uV.snaps.length) underlying25 sizeOf107 Z Z Z oM oM ?_
    have hsl24:=hsr23.take (j:=uV.snaps.length) aN
    have hsn1:=hsl24.len
    refine q4 H hd18 (r1 17 Z (gR Z (xr H Z2 (w_sameSnaps_c _ _ H.sub _ _ hsl24 _ _ hr2'' (by first|exact hsn|(rw[hsn,List.take_left]))) ?_)));intro _ H
    refine q4 H hd18 (dE 18 Z2 (dE 19 Z2 (rz (N_K (W_ret (N_K_ret (rt1 results6 Z ?_)))))))
    exact H.rets Z
   intro hc22'
   try simp only[nrm]at hc22'
   exact absurd (show False from by first|omega|simp_all) id
  intro hc20'
  try simp only[nrm]at hc20'
  exact absurd (show False from by first|omega|simp_all) id
 intro hc17'
 try simp only[nrm]at hc17'
 have hsn:=hsn5 (by simpa using hc17')
 refine W_skip (N_K (q2 (lA 1 3 H Z4 (xr H Z2 (i_DiskValid_c _ _ (H.lendSubL [2,3,4]) _ ((Sp.OpRun uV uO).getD ⟨[],[],[]⟩) ⟨_,_,_,_,_,_,_,_,_,Z,(H.lendOHs (k:=2) (ks:=[2,3,4]) Z Z ⟨_,p17⟩),(H.lendOIs (k:=3) (ks:=[2,3,4]) Z Z ⟨_,p27⟩),(H.lendOSn (k:=4) (ks:=[2,3,4]) Z Z ⟨_,p37⟩)⟩) ?_))));intro _ H
 refine mV Z ?_
 refine R_case (t:=78) Z ?_ ?_
 ·intro hc27
  try simp only[nrm]at hc27
  refine gR Z (fA 2 Z (gR Z (lB 1 H Z3 (gR Z (fA 2 Z (gR Z (lB 6 H Z3 (gR Z (xr H Z2 (w_sameSnaps_c _ _ (H.lendSubL [4]) _ _ (H.lendOSn (k:=4) (ks:=[4]) Z Z ⟨_,p37⟩) _ _ (hr2''.up (PPlus.le _ _ _)) (by first|exact hsn|(rw[hsn,List.take_left]))) ?_)))))))));intro _ H
  refine pe 2 Z (q3 (W_ret (rt1 results6 Z ?_)))
  exact H.rets Z
 intro hc27'
 try simp only[nrm]at hc27'
 exact absurd (show False from by first|omega|simp_all) id
theorem i_SnapTake1_c (w0:World)(G0:PH)(hG:PSub G0 w0)(db mb:Nat)(es:Array MapEntry)(ck:Nat)(xs:List (Int×Value))(T:Nd)(FT:Fr)(sv:Value)(sn:List (Bs×Nd))(c:List Value)(FSq:Fr)(d:BDisk)(hm:MapIs (Value.int .i64) es ck xs)(hS:StR G0 xs d.store)(hN:NdO 138 119 G0 T FT)(hT:Nd.TOK T d.tree)(hchk:Chk osE 2 G0 c sn)(hNs:NdsO 138 119 G0 (sn.map (·.2)) FSq)(hSn:SnOK sn d.snaps)(hdv:Sp.DiskValid d=true)(cp:Nat)(name:Bs)(hname:name.length≤16777216)(hcp:PRow G0 cp 0 [str name])(hLent:Lent w0 G0 [blk db (cl [.int .i32 0,.int .u32 0,.map (some mb),.pointer (some ⟨T.b,0,none⟩),sv] 133),blk mb (.map es ck),frag FT,acc 199 2 sv sn.length c,frag FSq]) :
  Calls Tryz.prog 61 #[.pointer (some ⟨db,0,none⟩),.pointer (some ⟨cp,0,none⟩)] w0 (RetM w0 G0 (fps [blk db (cl [.int .i32 0,.int .u32 0,.map (some mb),.pointer (some ⟨T.b,0,none⟩),sv] 133),blk mb (.map es ck),frag FT,acc 199 2 sv sn.length c,frag FSq]) (fun G' v Bs=>∃(es':Array MapEntry) (ck':Nat) (xs':List (Int×Value)) (F':Fr) (sv':Value) (sn':List (Fw.Bs×Nd)) (c':List Value) (FSq':Fr) (L':List BHeld),v= .bool (Sp.SnapTake d name).isSome∧Bs=[blk db (cl [.int .i32 0,.int .u32 0,.map (some mb),.pointer (some ⟨T.b,0,none⟩),sv'] 133),blk mb (.map es' ck'),frag F',acc 199 2 sv' sn'.length c',frag FSq']∧MapIs (Value.int .i64) es' ck' xs'∧StR G' xs' L'∧Sp.VH L'∧NdO 138 119 G' T F'∧Chk osE 2 G' c' sn'∧NdsO 138 119 G' (sn'.map (·.2)) FSq'∧∀d',Sp.SnapTake d name=some d'→L'=d'.store∧d'.tree=d.tree∧SnOK sn' d'.snaps)):=by
 have H:Hp w0 G0 (fps [blk db (cl [.int .i32 0,.int .u32 0,.map (some mb),.pointer (some ⟨T.b,0,none⟩),sv] 133),blk mb (.map es ck),frag FT,acc 199 2 sv sn.length c,frag FSq]) w0 G0 [blk db (cl [.int .i32 0,.int .u32 0,.map (some mb),.pointer (some ⟨T.b,0,none⟩),sv] 133),blk mb (.map es ck),frag FT,acc 199 2 sv sn.length c,frag FSq]:=hLent.hp
 obtain⟨_,_,rfl⟩:=H.accShape (k:=3) rfl;have hVd:=Sp.valid_iff.1 (Sp.dv_parts.1 hdv).1;have hTv:=(Sp.dv_parts.1 hdv).2.1;have hTc:=hT.cnt;have hTl:=Sp.tree_len hTv;have hsnl:=hSn.len;have hsn6:=(Sp.dv_parts.1 hdv).2.2.1
 refine calls_of_W (l:=[.pointer (some ⟨db,0,none⟩),.pointer (some ⟨cp,0,none⟩)]) func61 Z ntmps61 Z (q2 (aG Z (q1 (mV Z (lP H hcp 0 Z2 ?_)))))
 have H:=H.tF 4
 have H:=H.tF 4
 have H:=H.tF 4
 have H:=H.tF 4
 have H:=H.tF 4
 refine xc Z2 (i_take_c _ _ H.sub _ _ _ _ _ _ _ _ _ _ _ _ hm hS hN hT hchk hNs hSn hdv _ hname H.lent5) ?_
 rintro _ _ ⟨_,_,_,rfl,H1',⟨_,_,_,_,_,_,_,_,_,rfl,rfl,hm1,hS1,hV1,hN1,hchk1,hNs1,hd1⟩⟩
 have H:=H.borrow5 H1'
 obtain⟨_,_,rfl⟩:=H.accShape (k:=3) rfl
 refine⟨_,Z,?_⟩
 refine aG Z (q3 (W_ret (rt1 results61 Z ?_)))
 have H:=H.tF 4
 have H:=H.tF 4
 have H:=H.tF 4
 have H:=H.tF 4
 have H:=H.tF 4
 exact H.retM ⟨_,_,_,_,_,_,_,_,_,Z,Z,hm1,hS1,hV1,hN1,hchk1,hNs1,hd1⟩
theorem i_changed_take_c (w0:World)(G0:PH)(hG:PSub G0 w0)(cd:List Value)(d:BDisk)(hd:diskE G0 d cd)(cp:Nat)(name:Bs)(hname:name.length≤16777216)(hcp:PRow G0 cp 0 [str name]) :
  Calls Tryz.prog 60 #[.agg cd.toArray,.func (.func 61) #[] #[.pointer (some ⟨cp,0,none⟩)]] w0 (RetN w0 G0 (fun v Bs=>∃(v1 v2 v3:Value) (F1 F2 F3:Fr),v= .tuple #[.agg #[v1,v2,v3],.bool (Sp.SnapTake d name).isSome]∧Bs=[frag F1,frag F2,frag F3]∧OHs F1 v1 ((Sp.SnapTake d name).getD ⟨[],[],[]⟩).store∧OIs F2 v2 ((Sp.SnapTake d name).getD ⟨[],[],[]⟩).tree∧OSn F3 v3 ((Sp.SnapTake d name).getD ⟨[],[],[]⟩).snaps)):=by
 obtain⟨_,_,_,_,_,_,_,_,_,rfl,hr1,hr1',hr1'',⟨_,_⟩,⟨_,_⟩,_,_⟩:=ox hd
 have H:=Hp.init hG
 refine calls_of_W (l:=[_,.func (.func 61) #[] #[.pointer (some ⟨cp,0,none⟩)]]) func60 Z ntmps60 Z (q2 (o_box H Z Z Z ?_));intro _ _ _ H
 refine xal H Z ?_;intro _ _ _ H
 refine aG Z (q1 (lA 1 3 H Z4 (xc Z2 (i_newDisk_c _ _ H.sub _ d ⟨_,_,_,_,_,_,_,_,_,Z,hr1,hr1',hr1''⟩ H.lent0) ?_)))
 rintro _ _ ⟨_,_,_,rfl,H4',⟨rfl,rfl,hnd4⟩|⟨_,_,_,_,_,T4,_,_,_,_,_,rfl,rfl,hm4,hS4,hN4,hT4,hchk4,hNs4,hSn4,hdv4⟩⟩
 ·skip
  have H:=H.borrow0 H4'
  refine⟨_,Z,?_⟩
  refine pe 5 Z (q3 (W_seq (q2 (pe 8 Z (q3 (W_true Z (q2 (o_build bf27 Z Z Z (xst 0 H Z8 ?_)))))))));intro _ H
  refine aG Z (q3 (W_ret (N_K_ret (ret_gen (rs:=[.cell 4 27,.tmp 5]) (vs:=[_,_]) results60 ⟨⟨_,Z,load_blk 0 H isAgg27 sizeOf27 Z Z Z⟩,Z,trivial⟩ ?_))))
  have H:=H.dl 0
  have H:=H.dl 0
  have hno:Sp.SnapTake d name=none:=by simp[Sp.SnapTake,hnd4]
  have H:=(((H.addF).addF).addF).forget hG (by simp)
  refine⟨_,_,Z,H,.slice none 0 0,.slice none 0 0,.slice none 0 0,[],[],[],?_,Z,?_,?_,?_⟩
  ·(rw[hno];rfl)
  ·(rw[hno];exact oh_nil)
  ·(rw[hno];exact oi_nil)
  (rw[hno];exact os_nil)
 skip
 have hcp:=hcp.up H4'.le
 have H:=H.borrow0 H4'
 obtain⟨avAd,cvAd,rfl⟩:=H.accShape (k:=3) rfl
 refine⟨_,Z,?_⟩
 refine pe 5 Z (q3 (W_seq (q2 (pe 5 Z (gR Z ?_)))))
 have H:=H.tF 4
 have H:=H.tF 4
 have H:=H.tF 4
 have H:=H.tF 4
 have H:=H.tF 4
 refine o_callc call61 Z Z Z (i_SnapTake1_c _ _ H.sub _ _ _ _ _ _ _ _ _ _ _ _ hm4 hS4 hN4 hT4 hchk4 hNs4 hSn4 hdv4 _ _ hname hcp H.lent5) ?_
 rintro _ _ ⟨_,_,_,rfl,H6',⟨_,_,_,_,_,_,_,_,_,rfl,rfl,hm6,hS6,hV6,hN6,hchk6,hNs6,hd6⟩⟩
 have H:=H.borrow5 H6'
 obtain⟨avAd,cvAd,rfl⟩:=H.accShape (k:=3) rfl
 refine⟨_,Z,?_⟩
 refine pe 2 Z (q3 ?_)
 refine W_cond Z ?_ ?_
 ·intro hc7
  try simp only[nrm]at hc7
  refine q2 (o_build bf27 Z Z Z (xst 5 H Z8 ?_));intro _ H
  refine aG Z (q3 (W_ret (N_K_ret (ret_gen (rs:=[.cell 4 27,.tmp 5]) (vs:=[_,_]) results60 ⟨⟨_,Z,load_blk 5 H isAgg27 sizeOf27 Z Z Z⟩,Z,trivial⟩ ?_))))
  have H:=H.dl 0
  have H:=H.dl 0
  have H:=H.dl 0
  have H:=H.dl 0
  have H:=H.dl 0
  have H:=H.dl 0
  have H:=H.dl 0
  have hno:Sp.SnapTake d name=none:=by simpa using hc7
  have H:=(((H.addF).addF).addF).forget hG (by simp)
  refine⟨_,_,Z,H,.slice none 0 0,.slice none 0 0,.slice none 0 0,[],[],[],?_,Z,?_,?_,?_⟩
  ·(rw[hno];rfl)
  ·(rw[hno];exact oh_nil)
  ·(rw[hno];exact oi_nil)
  (rw[hno];exact os_nil)
 intro hc7'
 try simp only[nrm]at hc7'
 obtain⟨d2,hd2⟩:=Option.isSome_iff_exists.1 (show(Sp.SnapTake d name).isSome=true by simpa using hc7')
 obtain⟨hL2,ht2,hsn2⟩:=hd6 d2 hd2;subst hL2
 have hT2:Nd.TOK T4 d2.tree:=by (rw[ht2];exact hT4)
 refine W_skip (N_K (q2 (mV Z ?_)))
 have H:=H.tF 4
 have H:=H.tF 4
 have H:=H.tF 4
 have H:=H.tF 4
 have H:=H.tF 4
 refine xc Z2 (i_disk_c _ _ H.sub _ _ _ _ _ _ _ _ _ _ _ _ hm6 hS6 hN6 hT2 hchk6 hNs6 hsn2 hV6 (take_len hdv4 hd2) H.lent5) ?_
 rintro _ _ ⟨_,_,_,rfl,H9',⟨_,_,_,D19,D29,D39,rfl,rfl,ho19,ho29,ho39⟩⟩
 have H:=H.borrow5 H9'
 obtain⟨_,p19⟩:=ho19
 obtain⟨a19,c19,rfl⟩:=OwnS.shape p19
 obtain⟨_,p29⟩:=ho29
 obtain⟨a29,c29,rfl⟩:=OwnS.shape p29
 obtain⟨_,p39⟩:=ho39
 obtain⟨a39,c39,rfl⟩:=OwnS.shape p39
 refine⟨_,Z,?_⟩
 refine xst 3 H Z8 ?_;intro _ H
 refine aG Z (q3 (W_ret (ret_gen (rs:=[.cell 4 27,.tmp 5]) (vs:=[_,_]) results60 ⟨⟨_,Z,load_blk 3 H isAgg27 sizeOf27 Z Z Z⟩,Z,trivial⟩ ?_)))
 have H:=H.dl 3
 have H:=H.dl 3
 have H:=H.tF 2
 have H:=H.tF 2
 have H:=H.tF 2
 have H:=H.forget hG (by simp)
 refine⟨_,_,Z,H,.slice a19 d2.store.length c19,.slice a29 d2.tree.length c29,.slice a39 d2.snaps.length c39,D19,D29,D39,?_,Z,?_,?_,?_⟩
 ·(rw[hd2];rfl)
 ·(rw[hd2];exact⟨_,p19⟩)
 ·(rw[hd2];exact⟨_,p29⟩)
 (rw[hd2];exact⟨_,p39⟩)
theorem i_SnapTake_c (w0:World)(G0:PH)(hG:PSub G0 w0)(cd:List Value)(d:BDisk)(hd:diskE G0 d cd)(name:Bs)(hname:name.length≤16777216) :
  Calls Tryz.prog 16 #[.agg cd.toArray,str name] w0 (RetN w0 G0 (fun v Bs=>∃(v1 v2 v3:Value) (F1 F2 F3:Fr),v= .tuple #[.agg #[v1,v2,v3],.bool (Sp.SnapTake d name).isSome]∧Bs=[frag F1,frag F2,frag F3]∧OHs F1 v1 ((Sp.SnapTake d name).getD ⟨[],[],[]⟩).store∧OIs F2 v2 ((Sp.SnapTake d name).getD ⟨[],[],[]⟩).tree∧OSn F3 v3 ((Sp.SnapTake d name).getD ⟨[],[],[]⟩).snaps)):=by
 obtain⟨_,_,_,_,_,_,_,_,_,rfl,hr1,hr1',hr1'',⟨_,_⟩,⟨_,_⟩,_,_⟩:=ox hd
 have H:=Hp.init hG
 refine calls_of_W (l:=[_,str name]) func16 Z ntmps16 Z (q2 (o_box H Z Z Z ?_));intro _ _ _ H
 refine o_box H Z Z Z ?_;intro _ _ _ H
 refine xal H Z ?_;intro _ _ _ H
 refine aG Z (q1 (lA 2 3 H Z4 (o_makefn1 Z Z (xc Z2 (i_changed_take_c _ _ (H.lendSubL [1]) _ d ⟨_,_,_,_,_,_,_,_,_,Z,(hr1.up (PPlus.le _ _ _)),(hr1'.up (PPlus.le _ _ _)),(hr1''.up (PPlus.le _ _ _))⟩ _ _ hname (prow_blk (H.lendPredL (k:=1) (ks:=[1]) Z Z))) ?_))))
 rintro _ _ ⟨_,_,rfl,H5',⟨_,_,_,E15,E25,E35,rfl,rfl,ho15,ho25,ho35⟩⟩
 have H:=H.readersL H5'
 obtain⟨_,p15⟩:=ho15
 obtain⟨a15,c15,rfl⟩:=OwnS.shape p15
 obtain⟨_,p25⟩:=ho25
 obtain⟨a25,c25,rfl⟩:=OwnS.shape p25
 obtain⟨_,p35⟩:=ho35
 obtain⟨a35,c35,rfl⟩:=OwnS.shape p35
 refine⟨_,Z,?_⟩
 refine pe 2 Z (xst 3 H Z8 ?_);intro _ H
 refine aG Z (q3 (W_ret (ret_gen (rs:=[.cell 4 27,.tmp 5]) (vs:=[_,_]) results16 ⟨⟨_,Z,load_blk 3 H isAgg27 sizeOf27 Z Z Z⟩,Z,trivial⟩ ?_)))
 have H:=H.dl 3
 have H:=H.dl 3
 have H:=H.dl 3
 have H:=H.tF 2
 have H:=H.tF 2
 have H:=H.tF 2
 exact⟨_,_,Z,H,.slice a15 ((Sp.SnapTake d name).getD ⟨[],[],[]⟩).store.length c15,.slice a25 ((Sp.SnapTake d name).getD ⟨[],[],[]⟩).tree.length c25,.slice a35 ((Sp.SnapTake d name).getD ⟨[],[],[]⟩).snaps.length c35,E15,E25,E35,Z,Z,⟨_,p15⟩,⟨_,p25⟩,⟨_,p35⟩⟩
theorem i_DiskWrite1_c (w0:World)(G0:PH)(hG:PSub G0 w0)(db mb:Nat)(es:Array MapEntry)(ck:Nat)(xs:List (Int×Value))(T:Nd)(FT:Fr)(sv:Value)(sn:List (Bs×Nd))(c:List Value)(FSq:Fr)(d:BDisk)(hm:MapIs (Value.int .i64) es ck xs)(hS:StR G0 xs d.store)(hN:NdO 138 119 G0 T FT)(hT:Nd.TOK T d.tree)(hchk:Chk osE 2 G0 c sn)(hNs:NdsO 138 119 G0 (sn.map (·.2)) FSq)(hSn:SnOK sn d.snaps)(hdv:Sp.DiskValid d=true)(cp:Nat)(path:Bs)(hpath:path.length≤16777216)(hcp:PRow G0 cp 0 [str path])(cq:Nat)(abytes:Option Addr)(bytes:List Int)(kbytes:Nat)(hcq:PRow G0 cq 0 [.slice abytes bytes.length kbytes])(hbytes:RdI G0 (.slice abytes bytes.length kbytes) bytes)(hLent:Lent w0 G0 [blk db (cl [.int .i32 0,.int .u32 0,.map (some mb),.pointer (some ⟨T.b,0,none⟩),sv] 133),blk mb (.map es ck),frag FT,acc 199 2 sv sn.length c,frag FSq]) :
  Calls Tryz.prog 85 #[.pointer (some ⟨db,0,none⟩),.pointer (some ⟨cp,0,none⟩),.pointer (some ⟨cq,0,none⟩)] w0 (RetM w0 G0 (fps [blk db (cl [.int .i32 0,.int .u32 0,.map (some mb),.pointer (some ⟨T.b,0,none⟩),sv] 133),blk mb (.map es ck),frag FT,acc 199 2 sv sn.length c,frag FSq]) (fun G' v Bs=>∃(es':Array MapEntry) (ck':Nat) (xs':List (Int×Value)) (F':Fr) (T':Nd) (sv':Value) (sn':List (Fw.Bs×Nd)) (c':List Value) (FSq':Fr) (L':List BHeld),v= .bool (Sp.DiskWrite d path bytes).isSome∧Bs=[blk db (cl [.int .i32 0,.int .u32 0,.map (some mb),.pointer (some ⟨T'.b,0,none⟩),sv'] 133),blk mb (.map es' ck'),frag F',acc 199 2 sv' sn'.length c',frag FSq']∧MapIs (Value.int .i64) es' ck' xs'∧StR G' xs' L'∧Sp.VH L'∧NdO 138 119 G' T' F'∧Chk osE 2 G' c' sn'∧NdsO 138 119 G' (sn'.map (·.2)) FSq'∧∀d',Sp.DiskWrite d path bytes=some d'→L'=d'.store∧Nd.TOK T' d'.tree∧SnOK sn' d'.snaps)):=by
 have hlimbytes:bytes.length≤1099511627776:=hbytes.lim
 have H:Hp w0 G0 (fps [blk db (cl [.int .i32 0,.int .u32 0,.map (some mb),.pointer (some ⟨T.b,0,none⟩),sv] 133),blk mb (.map es ck),frag FT,acc 199 2 sv sn.length c,frag FSq]) w0 G0 [blk db (cl [.int .i32 0,.int .u32 0,.map (some mb),.pointer (some ⟨T.b,0,none⟩),sv] 133),blk mb (.map es ck),frag FT,acc 199 2 sv sn.length c,frag FSq]:=hLent.hp
 obtain⟨_,_,rfl⟩:=H.accShape (k:=3) rfl;have hVd:=Sp.valid_iff.1 (Sp.dv_parts.1 hdv).1;have hTv:=(Sp.dv_parts.1 hdv).2.1;have hTc:=hT.cnt;have hTl:=Sp.tree_len hTv;have hsnl:=hSn.len;have hsn6:=(Sp.dv_parts.1 hdv).2.2.1
 refine calls_of_W (l:=[.pointer (some ⟨db,0,none⟩),.pointer (some ⟨cp,0,none⟩),.pointer (some ⟨cq,0,none⟩)]) func85 Z ntmps85 Z (q2 (aG Z (q1 (mV Z (lP H hcp 0 Z2 (lP H hcq 0 Z2 ?_))))))
 have H:=H.tF 4
 have H:=H.tF 4
 have H:=H.tF 4
 have H:=H.tF 4
 have H:=H.tF 4
 refine xc Z2 (i_dwrite_c _ _ H.sub _ _ _ _ _ _ _ _ _ _ _ _ hm hS hN hT hchk hNs hSn hdv _ hpath _ _ hbytes H.lent5) ?_
 rintro _ _ ⟨_,_,_,rfl,H1',⟨_,_,_,_,_,_,_,_,_,_,rfl,rfl,hm1,hS1,hV1,hN1,hchk1,hNs1,hd1⟩⟩
 have H:=H.borrow5 H1'
 obtain⟨_,_,rfl⟩:=H.accShape (k:=3) rfl
 refine⟨_,Z,?_⟩
 refine aG Z (q3 (W_ret (rt1 results85 Z ?_)))
 have H:=H.tF 4
 have H:=H.tF 4
 have H:=H.tF 4
 have H:=H.tF 4
 have H:=H.tF 4
 exact H.retM ⟨_,_,_,_,_,_,_,_,_,_,Z,Z,hm1,hS1,hV1,hN1,hchk1,hNs1,hd1⟩
theorem i_changed_dwrite_c (w0:World)(G0:PH)(hG:PSub G0 w0)(cd:List Value)(d:BDisk)(hd:diskE G0 d cd)(cp:Nat)(path:Bs)(hpath:path.length≤16777216)(hcp:PRow G0 cp 0 [str path])(cq:Nat)(abytes:Option Addr)(bytes:List Int)(kbytes:Nat)(hcq:PRow G0 cq 0 [.slice abytes bytes.length kbytes])(hbytes:RdI G0 (.slice abytes bytes.length kbytes) bytes) :
  Calls Tryz.prog 60 #[.agg cd.toArray,.func (.func 85) #[] #[.pointer (some ⟨cp,0,none⟩),.pointer (some ⟨cq,0,none⟩)]] w0 (RetN w0 G0 (fun v Bs=>∃(v1 v2 v3:Value) (F1 F2 F3:Fr),v= .tuple #[.agg #[v1,v2,v3],.bool (Sp.DiskWrite d path bytes).isSome]∧Bs=[frag F1,frag F2,frag F3]∧OHs F1 v1 ((Sp.DiskWrite d path bytes).getD ⟨[],[],[]⟩).store∧OIs F2 v2 ((Sp.DiskWrite d path bytes).getD ⟨[],[],[]⟩).tree∧OSn F3 v3 ((Sp.DiskWrite d path bytes).getD ⟨[],[],[]⟩).snaps)):=by
 obtain⟨_,_,_,_,_,_,_,_,_,rfl,hr1,hr1',hr1'',⟨_,_⟩,⟨_,_⟩,_,_⟩:=ox hd
 have hlimbytes:bytes.length≤1099511627776:=hbytes.lim
 have H:=Hp.init hG
 refine calls_of_W (l:=[_,.func (.func 85) #[] #[.pointer (some ⟨cp,0,none⟩),.pointer (some ⟨cq,0,none⟩)]]) func60 Z ntmps60 Z (q2 (o_box H Z Z Z ?_));intro _ _ _ H
 refine xal H Z ?_;intro _ _ _ H
 refine aG Z (q1 (lA 1 3 H Z4 (xc Z2 (i_newDisk_c _ _ H.sub _ d ⟨_,_,_,_,_,_,_,_,_,Z,hr1,hr1',hr1''⟩ H.lent0) ?_)))
 rintro _ _ ⟨_,_,_,rfl,H4',⟨rfl,rfl,hnd4⟩|⟨_,_,_,_,_,_,_,_,_,_,_,rfl,rfl,hm4,hS4,hN4,hT4,hchk4,hNs4,hSn4,hdv4⟩⟩
 ·skip
  have H:=H.borrow0 H4'
  refine⟨_,Z,?_⟩
  refine pe 5 Z (q3 (W_seq (q2 (pe 8 Z (q3 (W_true Z (q2 (o_build bf27 Z Z Z (xst 0 H Z8 ?_)))))))));intro _ H
  refine aG Z (q3 (W_ret (N_K_ret (ret_gen (rs:=[.cell 4 27,.tmp 5]) (vs:=[_,_]) results60 ⟨⟨_,Z,load_blk 0 H isAgg27 sizeOf27 Z Z Z⟩,Z,trivial⟩ ?_))))
  have H:=H.dl 0
  have H:=H.dl 0
  have hno:Sp.DiskWrite d path bytes=none:=by (cases hh:Sp.DiskWrite d path bytes with |none=>rfl|some q=>(have hx:=Sp.dwrite_isv hh;rw[hnd4]at hx;cases hx))
  have H:=(((H.addF).addF).addF).forget hG (by simp)
  refine⟨_,_,Z,H,.slice none 0 0,.slice none 0 0,.slice none 0 0,[],[],[],?_,Z,?_,?_,?_⟩
  ·(rw[hno];rfl)
  ·(rw[hno];exact oh_nil)
  ·(rw[hno];exact oi_nil)
  (rw[hno];exact os_nil)
 skip
 have hcp:=hcp.up H4'.le
 have hcq:=hcq.up H4'.le
 have hbytes:=hbytes.up H4'.le
 have H:=H.borrow0 H4'
 obtain⟨avAd,cvAd,rfl⟩:=H.accShape (k:=3) rfl
 refine⟨_,Z,?_⟩
 refine pe 5 Z (q3 (W_seq (q2 (pe 5 Z (gR Z ?_)))))
 have H:=H.tF 4
 have H:=H.tF 4
 have H:=H.tF 4
 have H:=H.tF 4
 have H:=H.tF 4
 refine o_callc2 call85 Z Z Z (i_DiskWrite1_c _ _ H.sub _ _ _ _ _ _ _ _ _ _ _ _ hm4 hS4 hN4 hT4 hchk4 hNs4 hSn4 hdv4 _ _ hpath hcp _ _ _ _ hcq hbytes H.lent5) ?_
 rintro _ _ ⟨_,_,_,rfl,H6',⟨_,_,_,_,_,_,_,_,_,_,rfl,rfl,hm6,hS6,hV6,hN6,hchk6,hNs6,hd6⟩⟩
 have H:=H.borrow5 H6'
 obtain⟨avAd,cvAd,rfl⟩:=H.accShape (k:=3) rfl
 refine⟨_,Z,?_⟩
 refine pe 2 Z (q3 ?_)
 refine W_cond Z ?_ ?_
 ·intro hc7
  try simp only[nrm]at hc7
  refine q2 (o_build bf27 Z Z Z (xst 5 H Z8 ?_));intro _ H
  refine aG Z (q3 (W_ret (N_K_ret (ret_gen (rs:=[.cell 4 27,.tmp 5]) (vs:=[_,_]) results60 ⟨⟨_,Z,load_blk 5 H isAgg27 sizeOf27 Z Z Z⟩,Z,trivial⟩ ?_))))
  have H:=H.dl 0
  have H:=H.dl 0
  have H:=H.dl 0
  have H:=H.dl 0
  have H:=H.dl 0
  have H:=H.dl 0
  have H:=H.dl 0
  have hno:Sp.DiskWrite d path bytes=none:=by simpa using hc7
  have H:=(((H.addF).addF).addF).forget hG (by simp)
  refine⟨_,_,Z,H,.slice none 0 0,.slice none 0 0,.slice none 0 0,[],[],[],?_,Z,?_,?_,?_⟩
  ·(rw[hno];rfl)
  ·(rw[hno];exact oh_nil)
  ·(rw[hno];exact oi_nil)
  (rw[hno];exact os_nil)
 intro hc7'
 try simp only[nrm]at hc7'
 obtain⟨d2,hd2⟩:=Option.isSome_iff_exists.1 (show(Sp.DiskWrite d path bytes).isSome=true by simpa using hc7')
 obtain⟨hL2,hT2,hsn2⟩:=hd6 d2 hd2;subst hL2
 refine W_skip (N_K (q2 (mV Z ?_)))
 have H:=H.tF 4
 have H:=H.tF 4
 have H:=H.tF 4
 have H:=H.tF 4
 have H:=H.tF 4
 refine xc Z2 (i_disk_c _ _ H.sub _ _ _ _ _ _ _ _ _ _ _ _ hm6 hS6 hN6 hT2 hchk6 hNs6 hsn2 hV6 (Sp.dv_parts.1 (Sp.dwrite_valid hd2)).2.2.1 H.lent5) ?_
 rintro _ _ ⟨_,_,_,rfl,H9',⟨_,_,_,D19,D29,D39,rfl,rfl,ho19,ho29,ho39⟩⟩
 have H:=H.borrow5 H9'
 obtain⟨_,p19⟩:=ho19
 obtain⟨a19,c19,rfl⟩:=OwnS.shape p19
 obtain⟨_,p29⟩:=ho29
 obtain⟨a29,c29,rfl⟩:=OwnS.shape p29
 obtain⟨_,p39⟩:=ho39
 obtain⟨a39,c39,rfl⟩:=OwnS.shape p39
 refine⟨_,Z,?_⟩
 refine xst 3 H Z8 ?_;intro _ H
 refine aG Z (q3 (W_ret (ret_gen (rs:=[.cell 4 27,.tmp 5]) (vs:=[_,_]) results60 ⟨⟨_,Z,load_blk 3 H isAgg27 sizeOf27 Z Z Z⟩,Z,trivial⟩ ?_)))
 have H:=H.dl 3
 have H:=H.dl 3
 have H:=H.tF 2
 have H:=H.tF 2
 have H:=H.tF 2
 have H:=H.forget hG (by simp)
 refine⟨_,_,Z,H,.slice a19 d2.store.length c19,.slice a29 d2.tree.length c29,.slice a39 d2.snaps.length c39,D19,D29,D39,?_,Z,?_,?_,?_⟩
 ·(rw[hd2];rfl)
 ·(rw[hd2];exact⟨_,p19⟩)
 ·(rw[hd2];exact⟨_,p29⟩)
 (rw[hd2];exact⟨_,p39⟩)
theorem i_DiskWrite_c (w0:World)(G0:PH)(hG:PSub G0 w0)(cd:List Value)(d:BDisk)(hd:diskE G0 d cd)(path:Bs)(hpath:path.length≤16777216)(vbytes:Value)(bytes:List (Int))(hbytes:RdI G0 vbytes bytes) :
  Calls Tryz.prog 24 #[.agg cd.toArray,str path,vbytes] w0 (RetN w0 G0 (fun v Bs=>∃(v1 v2 v3:Value) (F1 F2 F3:Fr),v= .tuple #[.agg #[v1,v2,v3],.bool (Sp.DiskWrite d path bytes).isSome]∧Bs=[frag F1,frag F2,frag F3]∧OHs F1 v1 ((Sp.DiskWrite d path bytes).getD ⟨[],[],[]⟩).store∧OIs F2 v2 ((Sp.DiskWrite d path bytes).getD ⟨[],[],[]⟩).tree∧OSn F3 v3 ((Sp.DiskWrite d path bytes).getD ⟨[],[],[]⟩).snaps)):=by
 obtain⟨_,_,_,_,_,_,_,_,_,rfl,hr1,hr1',hr1'',⟨_,_⟩,⟨_,_⟩,_,_⟩:=ox hd
 obtain⟨abytes,kbytes,rfl⟩:=hbytes.shape
 have hlimbytes:bytes.length≤1099511627776:=hbytes.lim
 have H:=Hp.init hG
 refine calls_of_W (l:=[_,str path,.slice abytes bytes.length kbytes]) func24 Z ntmps24 Z (q2 (o_box H Z Z Z ?_));intro _ _ _ H
 refine o_box H Z Z Z ?_;intro _ _ _ H
 refine o_box H Z Z Z ?_;intro _ _ _ H
 refine xal H Z ?_;intro _ _ _ H
 refine aG Z (q1 (lA 3 3 H Z4 (o_makefn2 Z Z Z (xc Z2 (i_changed_dwrite_c _ _ (H.lendSubL [1,2]) _ d ⟨_,_,_,_,_,_,_,_,_,Z,(hr1.up (PPlus.le _ _ _)),(hr1'.up (PPlus.le _ _ _)),(hr1''.up (PPlus.le _ _ _))⟩ _ _ hpath (prow_blk (H.lendPredL (k:=2) (ks:=[1,2]) Z Z)) _ _ _ _ (prow_blk (H.lendPredL (k:=1) (ks:=[1,2]) Z Z)) (hbytes.up (PPlus.le _ _ _))) ?_))))
 rintro _ _ ⟨_,_,rfl,H6',⟨_,_,_,E16,E26,E36,rfl,rfl,ho16,ho26,ho36⟩⟩
 have H:=H.readersL H6'
 obtain⟨_,p16⟩:=ho16
 obtain⟨a16,c16,rfl⟩:=OwnS.shape p16
 obtain⟨_,p26⟩:=ho26
 obtain⟨a26,c26,rfl⟩:=OwnS.shape p26
 obtain⟨_,p36⟩:=ho36
 obtain⟨a36,c36,rfl⟩:=OwnS.shape p36
 refine⟨_,Z,?_⟩
 refine pe 2 Z (xst 3 H Z8 ?_);intro _ H
 refine aG Z (q3 (W_ret (ret_gen (rs:=[.cell 6 27,.tmp 7]) (vs:=[_,_]) results24 ⟨⟨_,Z,load_blk 3 H isAgg27 sizeOf27 Z Z Z⟩,Z,trivial⟩ ?_)))
 have H:=H.dl 3
 have H:=H.dl 3
 have H:=H.dl 3
 have H:=H.dl 3
 have H:=H.tF 2
 have H:=H.tF 2
 have H:=H.tF 2
 exact⟨_,_,Z,H,.slice a16 ((Sp.DiskWrite d path bytes).getD ⟨[],[],[]⟩).store.length c16,.slice a26 ((Sp.DiskWrite d path bytes).getD ⟨[],[],[]⟩).tree.length c26,.slice a36 ((Sp.DiskWrite d path bytes).getD ⟨[],[],[]⟩).snaps.length c36,E16,E26,E36,Z,Z,⟨_,p16⟩,⟨_,p26⟩,⟨_,p36⟩⟩
theorem lOpWrite_c (w0:World)(G0:PH)(hG:PSub G0 w0)(vcode:Value)(code:List (UInt8))(hcode:RdU G0 vcode code) :
  Calls Tryz.prog 7 #[vcode] w0 (Rets w0 (.bool true)):=by
 obtain⟨acode,kcode,rfl⟩:=hcode.shape
 have hlimcode:code.length≤1099511627776:=hcode.lim
 have H:=Hp.init hG
 refine calls_of_W (l:=[.slice acode code.length kcode]) func7 Z ntmps7 Z (q2 (aG Z (q3 (W_seq (q2 (mV Z (lN Z (pe 1 Z (q3 ?_)))))))))
 refine W_cond Z ?_ ?_
 ·intro hc1
  try simp only[nrm]at hc1
  refine q2 (aG Z (q3 (W_ret (N_K_ret (rt1 results7 Z ?_)))))
  exact H.rets Z
 intro hc1'
 try simp only[nrm]at hc1'
 refine W_skip (N_K (q2 (mV Z (xc Z2 (DrawOpRun_c _ _ H.sub _ _ hcode) ?_))))
 rintro _ _ ⟨_,_,g2,rfl,⟨_,uV,_,uO,rfl,hV,hO⟩⟩
 have H:=H.grow g2
 obtain⟨_,_,_,_,_,_,_,_,_,rfl,hr2,hr2',hr2'',⟨_,_⟩,⟨_,_⟩,_,_⟩:=ox hV
 obtain⟨_,_,_,rfl,_,hOs,hOb,_,_⟩:=ox hO
 refine⟨_,Z,?_⟩
 refine pe 3 Z (xal H Z ?_);intro _ _ _ H
 refine xal H Z ?_;intro _ _ _ H
 refine xst 1 H Z8 ?_;intro _ H
 refine xst 0 H Z8 ?_;intro _ H
 refine q1 (lA 1 3 H Z4 (lA 0 3 H Z4 ?_))
 refine xc Z2 (i_OpRun_c _ _ H.sub _ uV ⟨_,_,_,_,_,_,_,_,_,Z,hr2,hr2',hr2''⟩ _ uO ⟨_,_,_,Z,⟨by first|omega|(dsimp only;omega),by first|omega|(dsimp only;omega)⟩,hOs,hOb⟩) ?_
 rintro _ _ ⟨_,_,rfl,H7',⟨_,_,_,_,_,_,rfl,rfl,ho17,ho27,ho37⟩⟩
 have H:=H.readers (fp:=[]) (by simp) (PLe.refl _) H7'
 obtain⟨_,p17⟩:=ho17
 obtain⟨_,_,rfl⟩:=OwnS.shape p17
 obtain⟨_,p27⟩:=ho27
 obtain⟨_,_,rfl⟩:=OwnS.shape p27
 obtain⟨_,p37⟩:=ho37
 obtain⟨_,_,rfl⟩:=OwnS.shape p37
 refine⟨_,Z,?_⟩
 refine pe 3 Z (xal H Z ?_);intro _ _ _ H
 refine xst 0 H Z8 ?_;intro _ H
 refine aG Z (q1 (lA 5 3 H Z4 (lA 4 3 H Z4 ?_)))
 refine xc Z2 (OpRunP_c _ _ H.sub _ uV ⟨_,_,_,_,_,_,_,_,_,Z,hr2,hr2',hr2''⟩ _ uO ⟨_,_,_,Z,⟨by first|omega|(dsimp only;omega),by first|omega|(dsimp only;omega)⟩,hOs,hOb⟩) ?_
 rintro _ _ ⟨_,_,g10,rfl,_,rfl,hr10_0⟩
 have H:=H.grow g10
 have hr2:=hr2.up g10.le
 have hr2':=hr2'.up g10.le
 have hr2'':=hr2''.up g10.le
 have hOb:=hOb.up g10.le
 obtain⟨_,_,_,_,_,_,_,_,_,rfl,hr11,hr11',hr11'',⟨_,_⟩,⟨_,_⟩,_,_⟩:=ox hr10_0
 refine⟨_,Z,?_⟩
 refine pe 3 Z (xal H Z ?_);intro _ _ _ H
 refine xst 0 H Z8 ?_;intro _ H
 refine aG Z (q3 (W_seq (q2 (pe 2 Z (o_bneq_same underlying4 Z Z Z (mV Z (gR Z (lA 1 3 H Z4 (gR Z (lA 0 3 H Z4 (gR Z (xr H Z2 (w_sameDisk_c _ _ (H.lendSubL [2,3,4]) _ ((Sp.OpRun uV uO).getD ⟨[],[],[]⟩) ⟨_,_,_,_,_,_,_,_,_,Z,(H.lendOHs (k:=2) (ks:=[2,3,4]) Z Z ⟨_,p17⟩),(H.lendOIs (k:=3) (ks:=[2,3,4]) Z Z ⟨_,p27⟩),(H.lendOSn (k:=4) (ks:=[2,3,4]) Z Z ⟨_,p37⟩)⟩ _ ((Sp.OpRun uV uO).getD ⟨[],[],[]⟩) ⟨_,_,_,_,_,_,_,_,_,Z,(hr11.up (PPlus.le _ _ _)),(hr11'.up (PPlus.le _ _ _)),(hr11''.up (PPlus.le _ _ _))⟩ Z) ?_))))))))))));intro _ H
 refine pe 7 Z ?_
 refine R_case (t:=46) Z ?_ ?_
 ·intro hc15
  try simp only[nrm]at hc15
  refine pe 4 Z (R_pass Z (yl_un Z Z) (R_pass Z (yl_un Z Z) (R_pass Z (yl_un Z Z) (pe 2 Z (q3 (W_true Z (q2 (pe 2 Z (o_beql_same underlying4 Z Z Z (mV Z (gR Z (lA 1 3 H Z4 (gR Z (lA 0 3 H Z4 (gR Z ?_)))))))))))))))
  refine xr H Z2 (w_sameDisk_c _ _ (H.lendSubL [2,3,4]) _ ((Sp.OpRun uV uO).getD ⟨[],[],[]⟩) ⟨_,_,_,_,_,_,_,_,_,Z,(H.lendOHs (k:=2) (ks:=[2,3,4]) Z Z ⟨_,p17⟩),(H.lendOIs (k:=3) (ks:=[2,3,4]) Z Z ⟨_,p27⟩),(H.lendOSn (k:=4) (ks:=[2,3,4]) Z Z ⟨_,p37⟩)⟩ _ ((Sp.OpRun uV uO).getD ⟨[],[],[]⟩) ⟨_,_,_,_,_,_,_,_,_,Z,(hr11.up (PPlus.le _ _ _)),(hr11'.up (PPlus.le _ _ _)),(hr11''.up (PPlus.le _ _ _))⟩ Z) ?_;intro _ H
  refine pe 2 Z (q3 (W_ret (N_K_ret (rt1 results7 Z ?_))))
  exact H.rets Z
 intro hc15'
 try simp only[nrm]at hc15'
 obtain⟨u2,hu2⟩:=Option.isSome_iff_exists.1 (show(Sp.OpRun uV uO).isSome=true by simpa using hc15')
 have hW:(Sp.OpRun uV uO).getD ⟨[],[],[]⟩=u2:=by (rw[hu2];rfl)
 refine gR Z (fA 0 Z (gR Z (lB 5 H Z3 (pe 2 Z ?_))))
 refine R_case (t:=50) Z ?_ ?_
 ·intro hc17
  try simp only[nrm]at hc17
  refine gR Z (fA 0 Z (gR Z (lB 5 H Z3 (pe 3 Z (q3 ?_)))))
  refine W_cond Z ?_ ?_
  ·intro hc18
   try simp only[nrm]at hc18
   refine q2 (pe 2 Z (o_beql_same underlying4 Z Z Z (mV Z (gR Z (lA 1 3 H Z4 (gR Z (lA 0 3 H Z4 (gR Z (xr H Z2 (w_sameDisk_c _ _ (H.lendSubL [2,3,4]) _ ((Sp.OpRun uV uO).getD ⟨[],[],[]⟩) ⟨_,_,_,_,_,_,_,_,_,Z,(H.lendOHs (k:=2) (ks:=[2,3,4]) Z Z ⟨_,p17⟩),(H.lendOIs (k:=3) (ks:=[2,3,4]) Z Z ⟨_,p27⟩),(H.lendOSn (k:=4) (ks:=[2,3,4]) Z Z ⟨_,p37⟩)⟩ _ ((Sp.OpRun uV uO).getD ⟨[],[],[]⟩) ⟨_,_,_,_,_,_,_,_,_,Z,(hr11.up (PPlus.le _ _ _)),(hr11'.up (PPlus.le _ _ _)),(hr11''.up (PPlus.le _ _ _))⟩ Z) ?_)))))))));intro _ H
   refine pe 2 Z (q3 (W_ret (N_K_ret (rt1 results7 Z ?_))))
   exact H.rets Z
  intro hc18'
  try simp only[nrm]at hc18'
  refine W_skip (N_K (W_seq (q2 (fA 0 Z (lB 5 H Z3 (pe 1 Z (q3 ?_)))))))
  refine W_cond Z ?_ ?_
  ·intro hc20
   try simp only[nrm]at hc20
   refine q2 ?_
   have hk2:uO.kind=2:=by omega
   have hdw:=Sp.op_write hu2 hk2
   have hds:(Sp.DiskWrite uV uO.path uO.bytes).isSome=true:=by (rw[hdw];rfl)
   refine lA 6 3 H Z4 (fA 1 Z (lB 5 H Z3 (fA 2 Z (lB 5 H Z3 (xc Z2 (i_DiskWrite_c _ _ H.sub _ uV ⟨_,_,_,_,_,_,_,_,_,Z,hr2,hr2',hr2''⟩ _ hOs _ _ hOb) ?_)))))
   rintro _ _ ⟨_,_,rfl,H21',⟨_,_,_,_,_,_,rfl,rfl,ho121,ho221,ho321⟩⟩
   have H:=H.readers (fp:=[]) (by simp) (PLe.refl _) H21'
   obtain⟨_,p121⟩:=ho121
   obtain⟨_,_,rfl⟩:=OwnS.shape p121
   obtain⟨_,p221⟩:=ho221
   obtain⟨_,_,rfl⟩:=OwnS.shape p221
   obtain⟨_,p321⟩:=ho321
   obtain⟨_,_,rfl⟩:=OwnS.shape p321
   refine⟨_,Z,?_⟩
   refine pe 3 Z (xal H Z ?_);intro _ _ _ H
   refine xst 0 H Z8 ?_;intro _ H
   refine aG Z (q1 (pe 2 Z ?_))
   refine R_case (t:=77) Z ?_ ?_
   ·intro hc24
    try simp only[nrm]at hc24
    refine gR Z (lA 0 3 H Z4 (gR Z (lA 5 3 H Z4 (gR Z ?_))))
    refine xr H Z2 (w_sameDisk_c _ _ (H.lendSubL [1,2,3,6,7,8]) _ ((Sp.DiskWrite uV uO.path uO.bytes).getD ⟨[],[],[]⟩) ⟨_,_,_,_,_,_,_,_,_,Z,(H.lendOHs (k:=1) (ks:=[1,2,3,6,7,8]) Z Z ⟨_,p121⟩),(H.lendOIs (k:=2) (ks:=[1,2,3,6,7,8]) Z Z ⟨_,p221⟩),(H.lendOSn (k:=3) (ks:=[1,2,3,6,7,8]) Z Z ⟨_,p321⟩)⟩ _ ((Sp.OpRun uV uO).getD ⟨[],[],[]⟩) ⟨_,_,_,_,_,_,_,_,_,Z,(H.lendOHs (k:=6) (ks:=[1,2,3,6,7,8]) Z Z ⟨_,p17⟩),(H.lendOIs (k:=7) (ks:=[1,2,3,6,7,8]) Z Z ⟨_,p27⟩),(H.lendOSn (k:=8) (ks:=[1,2,3,6,7,8]) Z Z ⟨_,p37⟩)⟩ (by (rw[hdw,hW];rfl))) ?_;intro _ H
    refine pe 2 Z (q3 (W_ret (N_K_ret (rt1 results7 Z ?_))))
    exact H.rets Z
   intro hc24'
   try simp only[nrm]at hc24'
   refine pe 5 Z (q3 (W_ret (N_K_ret (rt1 results7 Z ?_))))
   exact absurd (show False from by first|omega|simp_all) id
  intro hc20'
  try simp only[nrm]at hc20'
  refine W_skip (N_K (q2 ?_))
  have hk4:uO.kind=4:=by omega
  have hta:=Sp.op_take hu2 hk4
  have hts:(Sp.SnapTake uV uO.path).isSome=true:=by (rw[hta];rfl)
  refine lA 6 3 H Z4 (fA 1 Z (lB 5 H Z3 (xc Z2 (i_SnapTake_c _ _ H.sub _ uV ⟨_,_,_,_,_,_,_,_,_,Z,hr2,hr2',hr2''⟩ _ hOs) ?_)))
  rintro _ _ ⟨_,_,rfl,H26',⟨_,_,_,_,_,_,rfl,rfl,ho126,ho226,ho326⟩⟩
  have H:=H.readers (fp:=[]) (by simp) (PLe.refl _) H26'
  obtain⟨_,p126⟩:=ho126
  obtain⟨_,_,rfl⟩:=OwnS.shape p126
  obtain⟨_,p226⟩:=ho226
  obtain⟨_,_,rfl⟩:=OwnS.shape p226
  obtain⟨_,p326⟩:=ho326
  obtain⟨_,_,rfl⟩:=OwnS.shape p326
  refine⟨_,Z,?_⟩
  refine pe 3 Z (xal H Z ?_);intro _ _ _ H
  refine xst 0 H Z8 ?_;intro _ H
  refine aG Z (q1 (pe 2 Z ?_))
  refine R_case (t:=90) Z ?_ ?_
  ·intro hc29
   try simp only[nrm]at hc29
   refine gR Z (lA 0 3 H Z4 (gR Z (lA 5 3 H Z4 (gR Z ?_))))
   refine xr H Z2 (w_sameDisk_c _ _ (H.lendSubL [1,2,3,6,7,8]) _ ((Sp.SnapTake uV uO.path).getD ⟨[],[],[]⟩) ⟨_,_,_,_,_,_,_,_,_,Z,(H.lendOHs (k:=1) (ks:=[1,2,3,6,7,8]) Z Z ⟨_,p126⟩),(H.lendOIs (k:=2) (ks:=[1,2,3,6,7,8]) Z Z ⟨_,p226⟩),(H.lendOSn (k:=3) (ks:=[1,2,3,6,7,8]) Z Z ⟨_,p326⟩)⟩ _ ((Sp.OpRun uV uO).getD ⟨[],[],[]⟩) ⟨_,_,_,_,_,_,_,_,_,Z,(H.lendOHs (k:=6) (ks:=[1,2,3,6,7,8]) Z Z ⟨_,p17⟩),(H.lendOIs (k:=7) (ks:=[1,2,3,6,7,8]) Z Z ⟨_,p27⟩),(H.lendOSn (k:=8) (ks:=[1,2,3,6,7,8]) Z Z ⟨_,p37⟩)⟩ (by (rw[hta,hW];rfl))) ?_;intro _ H
   refine pe 2 Z (q3 (W_ret (rt1 results7 Z ?_)))
   exact H.rets Z
  intro hc29'
  try simp only[nrm]at hc29'
  refine pe 5 Z (q3 (W_ret (rt1 results7 Z ?_)))
  exact absurd (show False from by first|omega|simp_all) id
 intro hc17'
 try simp only[nrm]at hc17'
 refine pe 5 Z (q3 (W_false Z (W_skip (N_K (W_seq (q2 (fA 0 Z (lB 5 H Z3 (pe 1 Z (q3 ?_))))))))))
 refine W_cond Z ?_ ?_
 ·intro hc31
  try simp only[nrm]at hc31
  refine q2 ?_
  have hk2:uO.kind=2:=by omega
  have hdw:=Sp.op_write hu2 hk2
  have hds:(Sp.DiskWrite uV uO.path uO.bytes).isSome=true:=by (rw[hdw];rfl)
  refine lA 6 3 H Z4 (fA 1 Z (lB 5 H Z3 (fA 2 Z (lB 5 H Z3 (xc Z2 (i_DiskWrite_c _ _ H.sub _ uV ⟨_,_,_,_,_,_,_,_,_,Z,hr2,hr2',hr2''⟩ _ hOs _ _ hOb) ?_)))))
  rintro _ _ ⟨_,_,rfl,H32',⟨_,_,_,_,_,_,rfl,rfl,ho132,ho232,ho332⟩⟩
  have H:=H.readers (fp:=[]) (by simp) (PLe.refl _) H32'
  obtain⟨_,p132⟩:=ho132
  obtain⟨_,_,rfl⟩:=OwnS.shape p132
  obtain⟨_,p232⟩:=ho232
  obtain⟨_,_,rfl⟩:=OwnS.shape p232
  obtain⟨_,p332⟩:=ho332
  obtain⟨_,_,rfl⟩:=OwnS.shape p332
  refine⟨_,Z,?_⟩
  refine pe 3 Z (xal H Z ?_);intro _ _ _ H
  refine xst 0 H Z8 ?_;intro _ H
  refine aG Z (q1 (pe 2 Z ?_))
  refine R_case (t:=77) Z ?_ ?_
  ·intro hc35
   try simp only[nrm]at hc35
   refine gR Z (lA 0 3 H Z4 (gR Z (lA 5 3 H Z4 (gR Z ?_))))
   refine xr H Z2 (w_sameDisk_c _ _ (H.lendSubL [1,2,3,6,7,8]) _ ((Sp.DiskWrite uV uO.path uO.bytes).getD ⟨[],[],[]⟩) ⟨_,_,_,_,_,_,_,_,_,Z,(H.lendOHs (k:=1) (ks:=[1,2,3,6,7,8]) Z Z ⟨_,p132⟩),(H.lendOIs (k:=2) (ks:=[1,2,3,6,7,8]) Z Z ⟨_,p232⟩),(H.lendOSn (k:=3) (ks:=[1,2,3,6,7,8]) Z Z ⟨_,p332⟩)⟩ _ ((Sp.OpRun uV uO).getD ⟨[],[],[]⟩) ⟨_,_,_,_,_,_,_,_,_,Z,(H.lendOHs (k:=6) (ks:=[1,2,3,6,7,8]) Z Z ⟨_,p17⟩),(H.lendOIs (k:=7) (ks:=[1,2,3,6,7,8]) Z Z ⟨_,p27⟩),(H.lendOSn (k:=8) (ks:=[1,2,3,6,7,8]) Z Z ⟨_,p37⟩)⟩ (by (rw[hdw,hW];rfl))) ?_;intro _ H
   refine pe 2 Z (q3 (W_ret (N_K_ret (rt1 results7 Z ?_))))
   exact H.rets Z
  intro hc35'
  try simp only[nrm]at hc35'
  refine pe 5 Z (q3 (W_ret (N_K_ret (rt1 results7 Z ?_))))
  exact absurd (show False from by first|omega|simp_all) id
 intro hc31'
 try simp only[nrm]at hc31'
 refine W_skip (N_K (q2 ?_))
 have hk4:uO.kind=4:=by omega
 have hta:=Sp.op_take hu2 hk4
 have hts:(Sp.SnapTake uV uO.path).isSome=true:=by (rw[hta];rfl)
 refine lA 6 3 H Z4 (fA 1 Z (lB 5 H Z3 (xc Z2 (i_SnapTake_c _ _ H.sub _ uV ⟨_,_,_,_,_,_,_,_,_,Z,hr2,hr2',hr2''⟩ _ hOs) ?_)))
 rintro _ _ ⟨_,_,rfl,H37',⟨_,_,_,_,_,_,rfl,rfl,ho137,ho237,ho337⟩⟩
 have H:=H.readers (fp:=[]) (by simp) (PLe.refl _) H37'
 obtain⟨_,p137⟩:=ho137
 obtain⟨_,_,rfl⟩:=OwnS.shape p137
 obtain⟨_,p237⟩:=ho237
 obtain⟨_,_,rfl⟩:=OwnS.shape p237
 obtain⟨_,p337⟩:=ho337
 obtain⟨_,_,rfl⟩:=OwnS.shape p337
 refine⟨_,Z,?_⟩
 refine pe 3 Z (xal H Z ?_);intro _ _ _ H
 refine xst 0 H Z8 ?_;intro _ H
 refine aG Z (q1 (pe 2 Z ?_))
 refine R_case (t:=90) Z ?_ ?_
 ·intro hc40
  try simp only[nrm]at hc40
  refine gR Z (lA 0 3 H Z4 (gR Z (lA 5 3 H Z4 (gR Z ?_))))
  refine xr H Z2 (w_sameDisk_c _ _ (H.lendSubL [1,2,3,6,7,8]) _ ((Sp.SnapTake uV uO.path).getD ⟨[],[],[]⟩) ⟨_,_,_,_,_,_,_,_,_,Z,(H.lendOHs (k:=1) (ks:=[1,2,3,6,7,8]) Z Z ⟨_,p137⟩),(H.lendOIs (k:=2) (ks:=[1,2,3,6,7,8]) Z Z ⟨_,p237⟩),(H.lendOSn (k:=3) (ks:=[1,2,3,6,7,8]) Z Z ⟨_,p337⟩)⟩ _ ((Sp.OpRun uV uO).getD ⟨[],[],[]⟩) ⟨_,_,_,_,_,_,_,_,_,Z,(H.lendOHs (k:=6) (ks:=[1,2,3,6,7,8]) Z Z ⟨_,p17⟩),(H.lendOIs (k:=7) (ks:=[1,2,3,6,7,8]) Z Z ⟨_,p27⟩),(H.lendOSn (k:=8) (ks:=[1,2,3,6,7,8]) Z Z ⟨_,p37⟩)⟩ (by (rw[hta,hW];rfl))) ?_;intro _ H
  refine pe 2 Z (q3 (W_ret (rt1 results7 Z ?_)))
  exact H.rets Z
 intro hc40'
 try simp only[nrm]at hc40'
 refine pe 5 Z (q3 (W_ret (rt1 results7 Z ?_)))
 exact absurd (show False from by first|omega|simp_all) id
theorem i_TreeFindI_c (w0:World)(G0:PH)(hG:PSub G0 w0)(vlist:Value)(list:List (BItem))(hlist:RdItems G0 vlist list)(path:Bs)(hpath:path.length≤16777216) :
  Calls Tryz.prog 36 #[vlist,str path] w0 (RetP w0 G0 (fun G v=>∃cs,v= .tuple #[.agg cs.toArray,.bool (Sp.TreeFind list path).isSome]∧itemE G ((Sp.TreeFind list path).getD ⟨[],false,[]⟩) cs)):=by
 obtain⟨alist,klist,rfl⟩:=hlist.shape
 have hlimlist:list.length≤1099511627776:=hlist.lim
 have H:=Hp.init hG
 refine calls_of_W (l:=[.slice alist list.length klist,str path]) func36 Z ntmps36 Z (q2 (xal H Z ?_));intro _ _ _ H
 refine aG Z (q1 (mV Z (xc Z2 (i_openTree_c _ _ H.sub _ _ hlist H.lent0) ?_)))
 rintro _ _ ⟨G2,_,_,rfl,H2',⟨rfl,rfl,hv2⟩|⟨T2,_,rfl,rfl,hN2,hT2,hv2⟩⟩
 ·skip
  have H:=H.borrow0 H2'
  refine⟨_,Z,?_⟩
  refine pe 5 Z (q3 (W_seq (q2 (pe 2 Z (q3 (W_true Z (q2 (o_build bf35 Z Z Z (xst 0 H Z8 ?_)))))))));intro _ H
  refine aG Z (q3 (W_ret (N_K_ret (ret_gen (rs:=[.cell 4 35,.tmp 5]) (vs:=[_,_]) results36 ⟨⟨_,Z,load_blk 0 H isAgg35 sizeOf35 Z Z Z⟩,Z,trivial⟩ ?_))))
  have H:=H.dl 0
  have hp:Sp.TreeFind list path=none:=(by first|exact Sp.tf_bad (by assumption)|exact Sp.tf_no (by assumption) (by assumption))
  exact H.retP ⟨_,(by (rw[hp];rfl)),(by (rw[hp];exact⟨_,_,_,rfl,by decide,RdS.nil _ _ _⟩))⟩
 skip
 have H:=H.borrow0 H2'
 refine⟨_,Z,?_⟩
 refine pe 5 Z (q3 (W_seq (q2 (pe 2 Z (q3 (W_false Z (W_skip (N_K (q2 (pe 2 Z (xc Z2 (i_find_n_c _ _ (H.lendSubL [0]) _ ((H.lendN (k:=0) (ks:=[0]) Z Z hN2).at (show Nd.at_ T2 []=some T2 from Z)) _ hpath hT2.wf) ?_)))))))))))
 rintro _ _ ⟨_,rfl,ew4,⟨hfi4,rfl⟩|⟨d4,hfi4,rfl⟩⟩
 ·skip
  have H:=H.step ew4;refine⟨_,rfl,?_⟩
  refine aG Z (q3 (W_seq (q2 (mV Z (o_eqnil_ptr underlying119 Z Z Z (q3 (W_true Z (q2 (o_build bf35 Z Z Z (xst 1 H Z8 ?_))))))))));intro _ H
  refine aG Z (q3 (W_ret (N_K_ret (ret_gen (rs:=[.cell 4 35,.tmp 5]) (vs:=[_,_]) results36 ⟨⟨_,Z,load_blk 1 H isAgg35 sizeOf35 Z Z Z⟩,Z,trivial⟩ ?_))))
  have H:=H.dl 0
  have H:=H.dl 0
  have hp:Sp.TreeFind list path=none:=(by first|exact Sp.tf_bad (by assumption)|exact Sp.tf_no (by assumption) (by assumption))
  exact H.retP ⟨_,(by (rw[hp];rfl)),(by (rw[hp];exact⟨_,_,_,rfl,by decide,RdS.nil _ _ _⟩))⟩
 skip
 have H:=H.step ew4;refine⟨_,rfl,?_⟩
 refine aG Z (q3 (W_seq (q2 ?_)))
 obtain⟨_,_,_,_,_,_,H,ohri,_,_,_,_,_⟩:=Hp.openNode H hN2 (Nd.find_at_ hfi4)
 obtain⟨_,_,rfl⟩:=H.accShape (k:=1) rfl;have hdo:=PLe.refl G2;have hn_ohri:=ohri.len
 refine mV Z (o_eqnil_ptr underlying119 Z Z Z (q3 (W_false Z (W_skip (N_K (W_seq (W_drawK [0] 12 H kR Z ?_)))))));intro _ H;have hd6:=PLe.refl G2
 refine dE 0 Z2 (dE 1 Z2 (dE 2 Z2 (dF 3 1 Z2 (dB 4 0 Z4 (dE 5 Z2 (dE 6 Z2 (dF 7 2 Z2 (dB 8 0 Z4 (RD_t 9 Z kR Z (fun _ hK=>v_build bf35 Z Z) (r1 10 Z (xst 3 H Z8 ?_)))))))))));intro _ H
 refine q4 H hd6 (dE 11 Z2 (rz (N_K (W_ret (ret_gen (rs:=[.cell 4 35,.tmp 5]) (vs:=[_,_]) results36 ⟨⟨_,Z,load_blk 3 H isAgg35 sizeOf35 Z Z Z⟩,Z,trivial⟩ ?_)))))
 have H:=H.dl 0
 have H:=H.dl 0
 have H:=H.dl 0
 have H:=H.dl 0
 have hp:Sp.TreeFind list path=some ⟨path,d4.dir,d4.ids⟩:=Sp.tf_yes hT2 hfi4
 exact H.retP ⟨_,(by (rw[hp];rfl)),(by (rw[hp];exact⟨_,_,_,rfl,hpath,ohri⟩))⟩
theorem i_FileLoad_c (w0:World)(G0:PH)(hG:PSub G0 w0)(vlist:Value)(list:List (BHeld))(hlist:RdH G0 vlist list)(vids:Value)(ids:List (Int))(hids:RdI G0 vids ids) :
  Calls Tryz.prog 110 #[vlist,vids] w0 (RetN w0 G0 (fun v Bs=>∃(uv:Value) (c:List Value) (xs:List Int),v= .tuple #[uv,.bool (Sp.FileLoad list ids).isSome]∧Bs=[acc 3 1 uv xs.length c]∧Chk intE 1 (fun _=>none) c xs∧xs.length≤1000∧(∀ys,Sp.FileLoad list ids=some ys→xs=ys)∧(Sp.FileLoad list ids=none→xs=[]))):=by
 obtain⟨alist,klist,rfl⟩:=hlist.shape
 have hlimlist:list.length≤1099511627776:=hlist.lim
 obtain⟨aids,kids,rfl⟩:=hids.shape
 have hlimids:ids.length≤1099511627776:=hids.lim
 have H:=Hp.init hG
 refine calls_of_W (l:=[.slice alist list.length klist,.slice aids ids.length kids]) func110 Z ntmps110 Z (q2 (pe 2 Z (q1 (mV Z (xc Z2 (i_openStore_c _ _ H.sub _ _ hlist H.lent0) ?_)))))
 rintro _ _ ⟨G1,_,_,rfl,H1',⟨_,rfl,rfl⟩|⟨hV1,_,_,_,_,rfl,rfl,hm1,hS1⟩⟩
 ·skip
  have H:=H.borrow0 H1'
  refine⟨_,Z,?_⟩
  refine pe 5 Z (q3 (W_seq (q2 (pe 2 Z (q3 (W_true Z (q2 (pe 2 Z (q3 (W_ret (N_K_ret (rt2 results110 Z Z ?_))))))))))))
  have H:=H.addNil 3 1
  have hno:Sp.FileLoad list ids=none:=by (simp[Sp.FileLoad,show Sp.StoreValid list=false by assumption])
  have H:=H.forget hG (by simp)
  exact⟨_,_,rfl,H,_,_,[],(by (rw[hno];rfl)),rfl,(Chk.nil (E:=intE) (sz:=1) (G:=G1)),by simp,fun ys h=>(by rw[hno]at h;cases h),fun _=>rfl⟩
 skip
 have hids:=hids.up H1'.le
 have H:=H.borrow0 H1'
 refine⟨_,Z,?_⟩
 refine pe 5 Z (q3 (W_seq (q2 (pe 2 Z (q3 (W_false Z (W_skip (N_K (q2 (pe 2 Z (xc Z2 (i_loadFile_c _ _ (H.lendSubL [0]) _ _ _ _ _ (H.lendPredL (k:=0) (ks:=[0]) Z Z) hm1 (hS1.up (PPlus.le _ _ _)) hV1 _ _ (hids.up (PPlus.le _ _ _))) ?_)))))))))))
 rintro _ _ ⟨_,_,rfl,H2',⟨_,_,xs2,rfl,rfl,hchk2,hxl2,hxs2,hxn2⟩⟩
 have H:=H.readersL H2'
 obtain⟨_,_,rfl⟩:=H.accShape (k:=0) rfl
 refine⟨_,Z,?_⟩
 refine pe 4 Z (q3 (W_ret (rt2 results110 Z Z ?_)))
 have H:=H.dl 1
 have hd:Sp.FileLoad list ids=if Sp.l4Ids list ids then some (Sp.load list ids) else none:=by (have hq:=Sp.valid_iff.2 hV1;simp[Sp.FileLoad,hq])
 have H:=H.forget hG (by simp)
 exact⟨_,_,rfl,H,_,_,xs2,(by (rw[hd];cases Sp.l4Ids list ids<;>rfl)),acc_1 rfl,chkI (G:=fun _=>none) ((chkI hchk2)),hxl2,fun ys h=>(by (rw[hd]at h;by_cases hq:Sp.l4Ids list ids=true;(· (rw[if_pos hq]at h);cases h;exact hxs2 hq);(· (rw[if_neg hq]at h);cases h))),fun h=>hxn2 (by (rw[hd]at h;by_cases hq:Sp.l4Ids list ids=true;(· (rw[if_pos hq]at h);cases h);(· simpa using hq)))⟩
theorem w_readTree_c (w0:World)(G0:PH)(hG:PSub G0 w0)(cd:List Value)(d:BDisk)(hd:diskE G0 d cd)(path:Bs)(hpath:path.length≤16777216) :
  Calls Tryz.prog 37 #[.agg cd.toArray,str path] w0 (RetN w0 G0 (fun v Bs=>∃(uv:Value) (c:List Value) (xs:List Int),v= .tuple #[uv,.bool (Sp.readT d path).isSome]∧Bs=[acc 3 1 uv xs.length c]∧Chk intE 1 (fun _=>none) c xs∧xs.length≤1000∧(∀ys,Sp.readT d path=some ys→xs=ys)∧(Sp.readT d path=none→xs=[]))):=by
 obtain⟨_,_,_,_,_,_,_,_,_,rfl,hr1,hr1',hr1'',⟨_,_⟩,⟨_,_⟩,_,_⟩:=ox hd
 have H:=Hp.init hG
 refine calls_of_W (l:=[_,str path]) func37 Z ntmps37 Z (q2 (o_box H Z Z Z ?_));intro _ _ _ H
 refine pe 2 Z (q1 (fA 1 Z (lB 0 H Z3 (mV Z (xc Z2 (i_TreeFindI_c _ _ H.sub _ _ hr1' _ hpath) ?_)))))
 rintro _ _ ⟨G3,_,g3,rfl,_,rfl,hr3_0⟩
 have H:=H.grow g3
 have hr1:=hr1.up g3.le
 obtain⟨_,_,_,rfl,_,hr4,_,_⟩:=ox hr3_0
 refine⟨_,Z,?_⟩
 refine pe 3 Z (xal H Z ?_);intro _ _ _ H
 refine xst 0 H Z8 ?_;intro _ H
 refine aG Z (q3 (W_seq (q2 (pe 3 Z ?_))))
 refine R_case (t:=17) Z ?_ ?_
 ·intro hc7
  try simp only[nrm]at hc7
  refine pe 3 Z (q3 (W_true Z (q2 (xbs H Z7 ?_))));intro _ _ _ H
  have H:=H.blkAcc 1 (k:=0) (n:=0) rfl rfl (by decide)
  refine pe 2 Z (q3 (W_ret (N_K_ret (rt2 results37 Z Z ?_))))
  have H:=H.dl 1
  have H:=H.dl 1
  have hno:Sp.readT d path=none:=(by first|exact Sp.readT_no1 (by simpa using hc7)|exact Sp.readT_no2 (by simpa using hc7))
  have H:=H.forget hG (by simp)
  exact⟨_,_,rfl,H,_,_,[],(by (rw[hno];rfl)),rfl,chkI (G:=fun _=>none) ((Chk.nil (E:=intE) (sz:=1) (G:=G3))),by simp,fun ys h=>(by rw[hno]at h;cases h),fun _=>rfl⟩
 intro hc7'
 try simp only[nrm]at hc7'
 refine gR Z (fA 1 Z (gR Z (lB 0 H Z3 (pe 1 Z (q3 ?_)))))
 refine W_cond Z ?_ ?_
 ·intro hc9
  try simp only[nrm]at hc9
  refine q2 (xbs H Z7 ?_);intro _ _ _ H
  have H:=H.blkAcc 1 (k:=0) (n:=0) rfl rfl (by decide)
  refine pe 2 Z (q3 (W_ret (N_K_ret (rt2 results37 Z Z ?_))))
  have H:=H.dl 1
  have H:=H.dl 1
  have hno:Sp.readT d path=none:=(by first|exact Sp.readT_no1 (by simpa using hc9)|exact Sp.readT_no2 (by simpa using hc9))
  have H:=H.forget hG (by simp)
  exact⟨_,_,rfl,H,_,_,[],(by (rw[hno];rfl)),rfl,chkI (G:=fun _=>none) ((Chk.nil (E:=intE) (sz:=1) (G:=G3))),by simp,fun ys h=>(by rw[hno]at h;cases h),fun _=>rfl⟩
 intro hc9'
 try simp only[nrm]at hc9'
 refine W_skip (N_K (q2 (fA 0 Z (lB 1 H Z3 (fA 2 Z (lB 0 H Z3 (xc Z2 (i_FileLoad_c _ _ H.sub _ _ hr1 _ _ hr4) ?_)))))))
 rintro _ _ ⟨_,_,rfl,H11',⟨_,_,xs11,rfl,rfl,hchk11,hxl11,hxs11,hxn11⟩⟩
 have H:=H.readers (fp:=[]) (by simp) (PLe.refl _) H11'
 obtain⟨_,_,rfl⟩:=H.accShape (k:=0) rfl
 refine⟨_,Z,?_⟩
 refine pe 4 Z (q3 (W_ret (rt2 results37 Z Z ?_)))
 have H:=H.dl 1
 have H:=H.dl 1
 have hd:Sp.readT d path=_:=Sp.readT_yes (by simpa using hc7') (by simpa using hc9')
 have H:=H.forget hG (by simp)
 exact⟨_,_,rfl,H,_,_,xs11,(by (rw[hd];rfl)),acc_1 rfl,chkI (G:=fun _=>none) ((chkI hchk11)),hxl11,fun ys h=>hxs11 ys (by (rw[hd]at h;exact h)),fun h=>hxn11 (by (rw[hd]at h;exact h))⟩
theorem lOpKind_c (w0:World)(G0:PH)(hG:PSub G0 w0)(vcode:Value)(code:List (UInt8))(hcode:RdU G0 vcode code) :
  Calls Tryz.prog 9 #[vcode] w0 (Rets w0 (.bool true)):=by
 obtain⟨acode,kcode,rfl⟩:=hcode.shape
 have hlimcode:code.length≤1099511627776:=hcode.lim
 have H:=Hp.init hG
 refine calls_of_W (l:=[.slice acode code.length kcode]) func9 Z ntmps9 Z (q2 (aG Z (q3 (W_seq (q2 (mV Z (lN Z (pe 1 Z (q3 ?_)))))))))
 refine W_cond Z ?_ ?_
 ·intro hc1
  try simp only[nrm]at hc1
  refine q2 (aG Z (q3 (W_ret (N_K_ret (rt1 results9 Z ?_)))))
  exact H.rets (congrArg Value.bool (by first|rfl|(rw[htf];rfl)|simp_all))
 intro hc1'
 try simp only[nrm]at hc1'
 refine W_skip (N_K (q2 (mV Z (xc Z2 (DrawOpRun_c _ _ H.sub _ _ hcode) ?_))))
 rintro _ _ ⟨_,_,g2,rfl,⟨_,uV,_,uO,rfl,hV,hO⟩⟩
 have H:=H.grow g2
 obtain⟨_,_,_,_,_,_,_,_,_,rfl,hr2,hr2',hr2'',⟨_,_⟩,⟨_,_⟩,_,_⟩:=ox hV
 obtain⟨_,_,_,rfl,_,hOs,hOb,_,_⟩:=ox hO
 refine⟨_,Z,?_⟩
 refine pe 3 Z (xal H Z ?_);intro _ _ _ H
 refine xal H Z ?_;intro _ _ _ H
 refine xst 1 H Z8 ?_;intro _ H
 refine xst 0 H Z8 ?_;intro _ H
 refine q1 (lA 1 3 H Z4 (lA 0 3 H Z4 ?_))
 refine xc Z2 (i_OpRun_c _ _ H.sub _ uV ⟨_,_,_,_,_,_,_,_,_,Z,hr2,hr2',hr2''⟩ _ uO ⟨_,_,_,Z,⟨by first|omega|(dsimp only;omega),by first|omega|(dsimp only;omega)⟩,hOs,hOb⟩) ?_
 rintro _ _ ⟨_,_,rfl,H7',⟨_,_,_,_,_,_,rfl,rfl,ho17,ho27,ho37⟩⟩
 have H:=H.readers (fp:=[]) (by simp) (PLe.refl _) H7'
 obtain⟨_,p17⟩:=ho17
 obtain⟨_,_,rfl⟩:=OwnS.shape p17
 obtain⟨_,p27⟩:=ho27
 obtain⟨_,_,rfl⟩:=OwnS.shape p27
 obtain⟨_,p37⟩:=ho37
 obtain⟨_,_,rfl⟩:=OwnS.shape p37
 refine⟨_,Z,?_⟩
 refine pe 3 Z (xal H Z ?_);intro _ _ _ H
 refine xst 0 H Z8 ?_;intro _ H
 refine aG Z (q1 (lA 5 3 H Z4 (lA 4 3 H Z4 ?_)))
 refine xc Z2 (OpRunP_c _ _ H.sub _ uV ⟨_,_,_,_,_,_,_,_,_,Z,hr2,hr2',hr2''⟩ _ uO ⟨_,_,_,Z,⟨by first|omega|(dsimp only;omega),by first|omega|(dsimp only;omega)⟩,hOs,hOb⟩) ?_
 rintro _ _ ⟨_,_,g10,rfl,_,rfl,hr10_0⟩
 have H:=H.grow g10
 have hOb:=hOb.up g10.le
 obtain⟨_,_,_,_,_,_,_,_,_,rfl,hr11,hr11',hr11'',⟨_,_⟩,⟨_,_⟩,_,_⟩:=ox hr10_0
 refine⟨_,Z,?_⟩
 refine pe 3 Z (xal H Z ?_);intro _ _ _ H
 refine xst 0 H Z8 ?_;intro _ H
 refine aG Z (q3 (W_seq (q2 (pe 2 Z (o_bneq_same underlying4 Z Z Z (mV Z (gR Z (lA 1 3 H Z4 (gR Z (lA 0 3 H Z4 (gR Z (xr H Z2 (w_sameDisk_c _ _ (H.lendSubL [2,3,4]) _ ((Sp.OpRun uV uO).getD ⟨[],[],[]⟩) ⟨_,_,_,_,_,_,_,_,_,Z,(H.lendOHs (k:=2) (ks:=[2,3,4]) Z Z ⟨_,p17⟩),(H.lendOIs (k:=3) (ks:=[2,3,4]) Z Z ⟨_,p27⟩),(H.lendOSn (k:=4) (ks:=[2,3,4]) Z Z ⟨_,p37⟩)⟩ _ ((Sp.OpRun uV uO).getD ⟨[],[],[]⟩) ⟨_,_,_,_,_,_,_,_,_,Z,(hr11.up (PPlus.le _ _ _)),(hr11'.up (PPlus.le _ _ _)),(hr11''.up (PPlus.le _ _ _))⟩ Z) ?_))))))))))));intro _ H
 refine pe 6 Z (q3 ?_)
 refine W_cond Z ?_ ?_
 ·intro hc15
  try simp only[nrm]at hc15
  refine q2 (pe 2 Z (o_beql_same underlying4 Z Z Z (mV Z (gR Z (lA 1 3 H Z4 (gR Z (lA 0 3 H Z4 (gR Z (xr H Z2 (w_sameDisk_c _ _ (H.lendSubL [2,3,4]) _ ((Sp.OpRun uV uO).getD ⟨[],[],[]⟩) ⟨_,_,_,_,_,_,_,_,_,Z,(H.lendOHs (k:=2) (ks:=[2,3,4]) Z Z ⟨_,p17⟩),(H.lendOIs (k:=3) (ks:=[2,3,4]) Z Z ⟨_,p27⟩),(H.lendOSn (k:=4) (ks:=[2,3,4]) Z Z ⟨_,p37⟩)⟩ _ ((Sp.OpRun uV uO).getD ⟨[],[],[]⟩) ⟨_,_,_,_,_,_,_,_,_,Z,(hr11.up (PPlus.le _ _ _)),(hr11'.up (PPlus.le _ _ _)),(hr11''.up (PPlus.le _ _ _))⟩ Z) ?_)))))))));intro _ H
  refine pe 2 Z (q3 (W_ret (N_K_ret (rt1 results9 Z ?_))))
  exact H.rets (congrArg Value.bool (by first|rfl|(rw[htf];rfl)|simp_all))
 intro hc15'
 try simp only[nrm]at hc15'
 obtain⟨u2,hu2⟩:=Option.isSome_iff_exists.1 (show(Sp.OpRun uV uO).isSome=true by simpa using hc15')
 have hW:(Sp.OpRun uV uO).getD ⟨[],[],[]⟩=u2:=by (rw[hu2];rfl)
 refine W_skip (N_K (q2 (fA 1 Z (lB 1 H Z3 (fA 1 Z (lB 5 H Z3 ?_))))))
 have hnd18:=dm_nodup H (k:=3) rfl;obtain⟨_,H,hsg18,hsf18⟩:=H.keepF (k:=3) rfl (by simp);have hsr18:=(show OIs _ _ _ from⟨_,p27⟩).rd hsf18 hnd18
 have hOb:=hOb.up hsg18
 refine xc Z2 (i_TreeFindI_c _ _ H.sub _ _ hsr18 _ hOs) ?_
 rintro _ _ ⟨_,_,g17,rfl,_,rfl,hr17_0⟩
 have H:=H.grow g17
 have hOb:=hOb.up g17.le
 have hsr18:=hsr18.up g17.le
 obtain⟨_,_,_,rfl,_,_,_,_⟩:=ox hr17_0
 refine⟨_,Z,?_⟩
 refine pe 3 Z (xal H Z ?_);intro _ _ _ H
 refine xst 0 H Z8 ?_;intro _ H
 refine aG Z (q3 (W_seq (q2 (fA 0 Z (lB 5 H Z3 (q3 (W_block (q2 (pe 2 Z (q3 ?_))))))))))
 refine W_cond Z ?_ ?_
 ·intro hc22
  try simp only[nrm]at hc22
  refine q2 ?_
  have hrd:Sp.readT ((Sp.OpRun uV uO).getD ⟨[],[],[]⟩) uO.path=some uO.bytes:=by (rw[hW];exact Sp.dwrite_read (Sp.op_write hu2 oM))
  refine lA 2 3 H Z4 (fA 1 Z (lB 5 H Z3 (xc Z2 (w_readTree_c _ _ (H.lendSubL [3,4]) _ ((Sp.OpRun uV uO).getD ⟨[],[],[]⟩) ⟨_,_,_,_,_,_,_,_,_,Z,(H.lendOHs (k:=3) (ks:=[3,4]) Z Z ⟨_,p17⟩),(hsr18.up (PPlus.le _ _ _)),(H.lendOSn (k:=4) (ks:=[3,4]) Z Z ⟨_,p37⟩)⟩ _ hOs) ?_)))
  rintro _ _ ⟨_,_,rfl,H23',⟨_,_,_,rfl,rfl,hchk23,_,hxs23,_⟩⟩
  have H:=H.readersL H23'
  obtain⟨_,_,rfl⟩:=H.accShape (k:=0) rfl
  refine⟨_,Z,?_⟩
  refine pe 5 Z (q1 (pe 2 Z ?_))
  refine R_case (t:=74) Z ?_ ?_
  ·intro hc24
   try simp only[nrm]at hc24
   refine pe 1 Z (gR Z (fA 2 Z (gR Z (lB 6 H Z3 (gR Z (xr H Z2 (w_sameInts_c _ _ (H.lendSubL [0]) _ _ (H.lendRdL (k:=0) (ks:=[0]) Z Z (chkI hchk23) aN aN) _ _ (hOb.up (PPlus.le _ _ _)) (hxs23 _ hrd)) ?_))))));intro _ H
   refine pe 2 Z (q3 (W_ret (N_B_ret (N_K_ret (rt1 results9 Z ?_)))))
   exact H.rets (congrArg Value.bool (by first|rfl|(rw[htf];rfl)|simp_all))
  intro hc24'
  try simp only[nrm]at hc24'
  refine pe 6 Z (q3 (W_ret (N_B_ret (N_K_ret (rt1 results9 Z ?_)))))
  exact absurd (show False from by first|omega|simp_all) id
 intro hc22'
 try simp only[nrm]at hc22'
 refine q2 (pe 2 Z (q3 ?_))
 refine W_cond Z ?_ ?_
 ·intro hc26
  try simp only[nrm]at hc26
  refine q2 ?_
  have htf:Sp.TreeFind ((Sp.OpRun uV uO).getD ⟨[],[],[]⟩).tree uO.path=some ⟨uO.path,true,[]⟩:=by (rw[hW];exact Sp.op_dir hu2 oM)
  refine pe 2 Z ?_
  refine R_case (t:=83) Z ?_ ?_
  ·intro hc27
   try simp only[nrm]at hc27
   refine gR Z (fA 1 Z (gR Z (lB 0 H Z3 (pe 2 Z (q3 (W_ret (N_B_ret (N_K_ret (rt1 results9 Z ?_)))))))))
   exact H.rets (congrArg Value.bool (by first|rfl|(rw[htf];rfl)|simp_all))
  intro hc27'
  try simp only[nrm]at hc27'
  refine pe 4 Z (q3 (W_ret (N_B_ret (N_K_ret (rt1 results9 Z ?_)))))
  exact absurd (show False from by first|omega|simp_all) id
 intro hc26'
 try simp only[nrm]at hc26'
 refine q2 (pe 2 Z (q3 ?_))
 refine W_cond Z ?_ ?_
 ·intro hc28
  try simp only[nrm]at hc28
  refine q2 ?_
  have htf:Sp.TreeFind ((Sp.OpRun uV uO).getD ⟨[],[],[]⟩).tree uO.path=none:=by (rw[hW];exact Sp.op_drop hu2 oM)
  refine pe 3 Z (q3 (W_ret (N_B_ret (N_K_ret (rt1 results9 Z ?_)))))
  exact H.rets (congrArg Value.bool (by first|rfl|(rw[htf];rfl)|simp_all))
 intro hc28'
 try simp only[nrm]at hc28'
 refine W_skip (N_B (N_K (q2 (aG Z (q3 (W_ret (rt1 results9 Z ?_)))))))
 exact H.rets (congrArg Value.bool (by first|rfl|(rw[htf];rfl)|simp_all))
end Go.Proofs.Tst
namespace Fw
open Go
section
variable {H:Type} {enc:TypeId×Value→H} {P:Program} {W:World}
structure Bulk (bk:DataW H→Nat) (bka:List (DataW H)→Nat):Prop where
 slice:∀es sp,bk (.slice es sp)=bka es+bka sp+1
 agg:∀ps,bk (.agg ps)=bka ps+1
 str:∀b,bk (.lit (.string b))=b.length+1
 nil:bka []=0
 cons:∀d r,bka (d::r)=bk d+bka r
 pos:∀d,1≤bk d
variable {bk:DataW H→Nat} {bka:List (DataW H)→Nat}
theorem Bulk.len (hb:Bulk bk bka):∀l,l.length≤bka l
 | []=>by simp
 | d :: r => by
  have h1:=hb.len r
  have h2:=hb.pos d
  rw[hb.cons]
  simp;omega
theorem Bulk.mem (hb:Bulk bk bka){d:DataW H}:∀{l:List (DataW H)},d ∈ l→bk d≤bka l
 | [],h=>by simp at h
 | e :: r, h => by
  rw[hb.cons]
  rcases List.mem_cons.1 h with rfl|h
  ·omega
  ·have:=hb.mem h
   omega
theorem Bulk.memF (hb : Bulk bk bka) {l : List (DataW H × List MemPlace)} {i : Nat} (hi : i < l.length) : bk (l[i]).1 ≤ bka (l.map (fun x => x.1)) :=
 hb.mem (List.mem_map.2 ⟨l[i],List.getElem_mem hi,rfl⟩)
abbrev Reads (enc:TypeId×Value→H) (P:Program) (W:World) (n:Nat) (t:TypeId) (cs:List Value):Option (DataW H×List MemPlace):=DataW.trod enc P W 0 (fun _=>true) true n t cs
def Elem (enc:TypeId×Value→H)(P:Program)(W:World)(bk:DataW H→Nat)(t:TypeId)(sz:Nat){α:Type}(E:PH→α→List Value→Prop):Prop :=
 ∀n cs x,Reads enc P W n t cs=some x→bk x.1≤1048576→∃a,cs.length=sz∧E (PAll W) a cs
theorem elem_u8 {t:TypeId}(ht:P.underlying t=some (.int .u8)):Elem enc P W bk t 1 u8E:=by
 intro n cs x h _
 obtain⟨i,rfl,_,hw⟩:=DataW.trod_int ht h
 simp[Lit.wf,IntKind.min,IntKind.max,IntKind.signed,IntKind.bits]at hw
 refine⟨UInt8.ofNat i.toNat,rfl,?_⟩
 show[Value.int .u8 i]=[.int .u8 ((UInt8.ofNat i.toNat).toNat:Int)]
 congr 2
 rw[UInt8.toNat_ofNat']
 omega
theorem list_of {α:Type}{Q:Nat→α→Prop}:∀n,(∀i,i<n→∃x,Q i x)→∃xs:List α,xs.length=n∧∀i x,xs[i]? = some x→Q i x
 | 0,_=>⟨[],rfl,by simp⟩
 | n + 1, h => by
  obtain⟨xs,h1,h2⟩:=list_of n (fun i hi=>h i (by omega))
  obtain⟨x,hx⟩:=h n (by omega)
  refine⟨xs++[x],by simp[h1],fun i y hy=>?_⟩
  by_cases hi:i<n
  ·rw[List.getElem?_append_left (by omega)]at hy
   exact h2 i y hy
  ·rw[List.getElem?_append_right (by omega)]at hy
   have:i=n:=by
    have:=(List.getElem?_eq_some_iff.1 hy).1
    simp at this
    omega
   subst this
   simp[h1]at hy
   subst hy
   exact hx
theorem mapM_at {α β:Type}{f:α→Option β}:∀{l:List α} {r:List β},l.mapM f=some r→∀(i:Nat) (x:α),l[i]? = some x→f x=r[i]?
 | [],r,h,i,x,hx=>by simp at hx
 | y :: t, r, h, i, x, hx => by
  simp only[List.mapM_cons,Option.bind_eq_bind,Option.bind_eq_some_iff,Option.pure_def,Option.some.injEq]at h
  obtain⟨z,h1,u,h2,rfl⟩:=h
  cases i with
  | zero=>simp at hx;subst hx;simpa using h1
  | succ i=>simp only[List.getElem?_cons_succ]at hx ⊢;exact mapM_at h2 i x hx
theorem pcell_of {b o:Nat}{v:Value}(h:W.cell? ⟨b,o,none⟩=some v):PCell (PAll W) b o v:=by
 unfold World.cell? at h
 unfold PCell PAll
 split at h
 ·rename_i C e fz hb
  exact⟨C,e,fz,hb,by simpa using h⟩
 ·cases h
theorem elem_slice {α:Type}{E:PH→α→List Value→Prop}(hb:Bulk bk bka){t e:TypeId}{sz:Nat}(ht:P.underlying t=some (.slice e))(hz:P.cellsOf e=sz)(hsz:0<sz)(hE:Elem enc P W bk e sz E) :
  ∀n cs x,Reads enc P W n t cs=some x→bk x.1≤1048576→∃v xs,cs=[v]∧RdS LIM E sz (PAll W) v xs:=by
 intro n cs x h hx
 rcases DataW.trod_slice ht h with ⟨rfl,_⟩|⟨a,len,cap,elems,rest,m,_,rfl,rfl,_,h2,_,h4,h5,_,_⟩
 ·exact⟨_,[],rfl,RdS.nil _ _ _⟩
 ·simp only[hb.slice]at hx
  rw[hz]at h5
  have hle:=hb.len (elems.map (·.1))
  rw[List.length_map]at hle
  have hel:∀i,i<len→∃y:α,∃cs,cs.length=sz∧E (PAll W) y cs∧∀j v,cs[j]? = some v→W.cell? ((a.add (i*sz)).add j)=some v:=by
   intro i hi
   have h6:=h5 i hi
   rw[List.getElem?_eq_getElem (by omega)]at h6
   obtain⟨cs,k1,k2⟩:=Option.bind_eq_some_iff.1 h6
   obtain⟨y,k3,k4⟩:=hE m cs _ k2 (Nat.le_trans (hb.memF (by omega)) (by omega))
   refine⟨y,cs,k3,k4,fun j v hj=>?_⟩
   unfold World.cells? at k1
   split at k1
   ·have hjl:=(List.getElem?_eq_some_iff.1 hj).1
    rw[←hj]
    exact mapM_at k1 j j (by rw[List.getElem?_range (by omega)])
   ·cases k1
  obtain⟨xs,x1,x2⟩:=list_of len hel
  refine⟨_,xs,rfl,some a,cap,by rw[x1],by omega,by simp only[LIM];omega,?_⟩
  by_cases h0:len=0
  ·exact .inl (List.eq_nil_of_length_eq_zero (by omega))
  ·right
   have hspot:a.spot=none:=by
    obtain⟨y,cs,y1,_,y2⟩:=hel 0 (by omega)
    have:=World.cell?_spot (y2 0 cs[0] (by simp))
    simpa [Addr.add] using this
   obtain⟨b,o,sp⟩:=a
   simp only at hspot
   subst hspot
   refine⟨b,o,rfl,fun i y hy=>?_⟩
   obtain⟨cs,c1,c2,c3⟩:=x2 i y hy
   refine⟨cs,c1,c2,fun j v hj=>pcell_of ?_⟩
   have:=c3 j v hj
   rwa [Addr.add_lit,Addr.add_lit]at this
variable {ti ts tb tis:TypeId}
theorem same_of_ext {w w':World}(h:Ext w w'){p:MemPlace}(hp:p.block<w.heap.size):w.sameAt w' p:=by
 have hb:=h.block p.block hp
 cases p with
 | cell b off=>simp only[World.sameAt,World.cell?];simp only[MemPlace.block]at hb;rw[hb]
 | map b=>simp only[World.sameAt];simpa [MemPlace.block] using hb
end
end Fw
namespace Fw
open Go Go.ChangeShapes Go.WideShapes
section
variable {H:Type} {enc:TypeId×Value→H} {P:Program}
theorem trodAll_stays (hl:laidOutB P=true){W W':World}{sp':Nat→Bool}:∀{ts:List TypeId} {vs:List Value} {ds:List (DataW H)} {ps:List MemPlace},(∀t,t ∈ ts→P.readableRec t=true∧t<P.types.size) →
  DataW.TrodAll enc P W 0 (fun _=>true) true ts vs ds ps→(∀p ∈ ps,W.sameAt W' p)→(∀p ∈ ps,sp' p.block=true)→DataW.TrodAll enc P W' 0 sp' true ts vs ds ps
 | [], _, _, _, _, h, _, _ => by
  obtain⟨rfl,rfl,rfl⟩:=trodAll_nil h
  rfl
 | t :: ts, _, _, _, hr, h, hs, hq => by
  obtain⟨v,vs1,d,ds1,a,b,rfl,rfl,rfl,h1,h2⟩:=trodAll_cons h
  exact ⟨a, b, WideElems.Trod_stays hl (hr t (by simp)).1 (hr t (by simp)).2 h1 (fun p hp => hs p (by simp [hp])) (fun p hp => hq p (by simp [hp])),
   trodAll_stays hl (fun t ht=>hr t (by simp[ht])) h2 (fun p hp=>hs p (by simp[hp])) (fun p hp=>hq p (by simp[hp])),rfl⟩
theorem kept_of_ext {W W':World}(h:Ext W W')(may:MemPlace→Prop):W.keptBut W' may:=by
 refine⟨h.os,h.output,fun i hi=>?_⟩
 rw[h.block i hi]
 cases W.heap[i]? with
 | none=>simp
 | some o=>cases o<;>simp
theorem law_post {f:Func}{s:ChangeSpec}{apart fresh handsOn again:Bool}{W W':World}{args:Array Value}{ds gs:List (DataW H)}{before:List MemPlace}(hl:laidOutB P=true)(hr:∀t,t ∈ f.params.toList→P.readableRec t=true∧t<P.types.size)
  (hv:s.vars=[]) (hW:DataW.Whole enc P f.params.toList s.vars apart W args.toList ds gs before) (hx:Ext W W') (hfr:(s.fn H (ds++gs)).results=[.lit (.bool true)]) (hfa:(s.fn H (ds++gs)).args=ds) (hfv:(s.fn H (ds++gs)).vars=[])
  (hres:∀(b:Nat) (sp:Nat→Bool) (hd:Bool),DataW.TrodAll enc P W' b sp hd f.resultTypes.toList ((Value.bool true).resultList f.resultTypes.size) [.lit (.bool true)] [])
  (hok:∀(j:Nat) (t:TypeId) (r:Value),f.resultTypes[j]? = some t→((Value.bool true).resultList f.resultTypes.size)[j]? = some r→Value.okWide P W' .any 0 t r) :
  s.post enc P f apart fresh handsOn again W args (.bool true) W':=by
 have hW':=hW
 obtain⟨p,q,hA,hV,rfl,hz,hn⟩:=hW
 rw[hv]at hV
 have hgs:gs=[]∧q=[]:=by
  cases gs with
  | nil=>exact⟨rfl,hV⟩
  | cons d r=>exact hV.elim
 obtain⟨rfl,rfl⟩:=hgs
 rw[List.append_nil]at hW' hz hn
 have hlt:∀m ∈ p,m.block<W.heap.size:=fun m hm=>hW'.lt m hm
 have hold:∀m ∈ p,(fun b=>decide (b<W.heap.size)) m.block=true:=fun m hm=>by simpa using hlt m hm
 have hargs : ∀ sp : Nat → Bool, (∀ m ∈ p, sp m.block = true) → DataW.TrodAll enc P W' 0 sp true f.params.toList args.toList (s.fn H (ds ++ [])).args p := fun sp hsp => by
  rw[hfa]
  exact trodAll_stays hl hr hA (fun m hm=>same_of_ext hx (hlt m hm)) hsp
 have hvars:∀sp:Nat→Bool,DataW.TrodVars enc P W' sp s.vars (s.fn H (ds++[])).vars []:=fun sp=>by rw[hv,hfv];rfl
 have hres':∀(b:Nat) (sp:Nat→Bool) (hd:Bool),DataW.TrodAll enc P W' b sp hd f.resultTypes.toList ((Value.bool true).resultList f.resultTypes.size) (s.fn H (ds++[])).results []:=fun b sp hd=>by rw[hfr];exact hres b sp hd
 refine⟨ds,[],p,[],p,[],hW',hres' _ _ _,hargs _ hold,hvars _,World.keptBut_mono (fun m hm=>⟨hm,Or.inr ?_⟩) (kept_of_ext hx (· ∈ p)),fun _=>?_⟩
 ·simpa using hm
 ·refine⟨hok,_,_,([]++p)++[],⟨[]++p,[],trodAll_append (hargs _ (fun _ _=>rfl)) (hres' _ _ _),hvars _,rfl,?_,?_⟩,?_⟩
  ·intro b off hp
   have hp':MemPlace.cell b off ∈ p:=by simpa using hp
   have h1:=hz b off hp'
   have h2:=hx.block b (hlt _ hp')
   simp only[World.frozen?]at h1 ⊢
   rw[h2]
   exact h1
  ·intro ha
   simpa using hn ha
  ·intro m hm _
   simpa using hm
end
end Fw
namespace Fw
open Go Go.WideShapes
theorem slice_of {P:Program}{W:World}{b:Nat}{t e:TypeId}{v u:Value}(ht:P.underlying t=some (.slice e))(h:Value.okWide P W .any b t v)(hu:v.cells.toList=[u]):v=u:=by
 unfold Value.okWide at h
 rw[ht]at h
 unfold Cell.okWide at h
 rw[ht]at h
 cases v<;>simp_all [Value.cells,Cell.ok]
end Fw
