/- Part 7 of the proof: contracts of functions of the program. Conditions: none. -/
import Derived.Test.YthnkmdhbcpjfeaaGreatDoorProg
import Derived.Test.YthnkmdhbcpjfeaaGreatDoorG02
import Derived.Test.YthnkmdhbcpjfeaaGreatDoorG03
import Derived.Test.YthnkmdhbcpjfeaaGreatDoorG04
import Derived.Test.YthnkmdhbcpjfeaaGreatDoorG06
import Derived.Test.YthnkmdhbcpjfeaaGreatDoorG05
set_option linter.all false
set_option maxRecDepth 100000
set_option maxHeartbeats 8000000
namespace Go.Proofs.Tst
open Go Fw Tryz
theorem l12Copy_c (w0:World)(G0:PH)(hG:PSub G0 w0)(cd:List Value)(d:BDisk)(hd:diskE G0 d cd) :
  Calls Tryz.prog 32 #[.agg cd.toArray] w0 (RetO w0 G0 (fun G val r=>∃u u1 u2,val= .agg #[u,u1,u2]∧AccOf snapE 2 91 d.snaps G u2 r∧RdH G u d.store∧RdItems G u1 d.tree)):=by
 obtain⟨_,_,_,_,_,_,_,_,_,rfl,hr1,hr1',hr1'',⟨_,_⟩,⟨_,_⟩,_,_⟩:=ox hd
 have H:=Hp.init hG
 refine calls_of_W (l:=[_]) func32 Z ntmps32 Z (q2 (o_box H Z Z Z ?_));intro b2 _ _ H
 refine xal H Z ?_;intro b3 _ _ H
 refine q3 ?_
 obtain⟨ljb3,hljb3,H⟩:=H.name (k:=0) rfl
 obtain⟨ljb2,hljb2,H⟩:=H.name (k:=1) rfl
 have hj4:=PLe.refl G0
 refine W_join (hf:=(Sub.cons (t:=1) Z (Sub.cons (t:=2) Z Sub.nil))) (J:=fun M w=>∃(jb:Nat) (ja jc:Option Addr) (jm jk jn jl:Nat) (ve:Value) (ce:List Value) (ne:Nat) (G:PH),M=[(3,.pointer (some ⟨jb,0,none⟩))]∧PLe G0 G∧Hp w0 G0 [] w G [acc 91 2 ve ne ce,blk jb (cl [.slice ja jm jk,.slice jc jn jl,ve] 32),blk b3 (cl ljb3 32),blk b2 (cl ljb2 32)]∧(RdH G (.slice ja jm jk) d.store∧RdItems G (.slice jc jn jl) d.tree∧Chk snapE 2 G ce ([]:List BSnap)∧ne=0)) (first:=?_) (second:=?_)
 ·skip
  subst hljb3
  subst hljb2
  refine W_drawK [0,1] 10 H kR Z ?_;intro _ H;have hd5:=PLe.refl G0
  refine dF 0 0 Z2 (dB 1 1 Z4 (dF 3 1 Z2 (dB 4 1 Z4 ?_)))
  refine RD_run [2,6,8] kR Z (RDs.cons Z ?_ (RDs.cons Z ?_ (RDs.cons Z ?_ RDs.nil)))
  ·skip
   refine xc Z2 (l3Copy_c _ _ H.sub _ _ hr1) ?_
   rintro _ _ ⟨_,_,_,g6,rfl,⟨_,rfl,hchk6⟩,hp6,hq6,hs6⟩
   have H:=H.growO g6 hp6 hq6 hs6;obtain⟨_,_,rfl⟩:=H.accShape (k:=0) rfl
   have hr1':=hr1'.up g6.le
   have hj4:=hj4.trans g6.le
   have hd5:=hd5.trans g6.le
   refine⟨_,Z,?_⟩
   refine q4 H hd5 ?_
   refine RD_run [5,6,8] kR Z (RDs.cons Z ?_ (RDs.cons Z ?_ (RDs.cons Z ?_ RDs.nil)))
   ·skip
    refine xc Z2 (l5All_c _ _ H.sub _ _ hr1') ?_
    rintro _ _ ⟨_,_,_,g7,rfl,⟨_,rfl,hchk7⟩,hp7,hq7,hs7⟩
    have H:=H.growO g7 hp7 hq7 hs7;obtain⟨_,_,rfl⟩:=H.accShape (k:=0) rfl
    have hchk6:=hchk6.up g7.le
    have hj4:=hj4.trans g7.le
    have hd5:=hd5.trans g7.le
    refine⟨_,Z,?_⟩
    refine q4 H hd5 ?_
    refine r2 6 8 Z2 ?_ ?_
    ·skip
     refine xbs H Z7 ?_;intro _ _ _ H
     have H:=H.blkAcc 2 (k:=0) (n:=0) rfl rfl (by decide)
     refine q4 H hd5 (RD_t 7 Z kR Z (fun _ hK=>v_build bf32 Z Z) (r1 8 Z (xal H Z ?_)));intro _ _ _ H
     refine q4 H hd5 (r1 9 Z (xst 0 H Z8 ?_));intro _ H
     refine R_nil (N_DKlast kR kR ?_)
     obtain⟨_,H,hsg512,hsr512⟩:=H.shut' (k:=3) rfl hchk6 aN aN
     have hchk7:=hchk7.up hsg512
     have hj4:=hj4.trans hsg512
     obtain⟨G513,H,hsg513,hsr513⟩:=H.shut' (k:=2) rfl hchk7 aN aN
     have hsr512:=hsr512.up hsg513
     have hj4:=hj4.trans hsg513
     have H:=H.tF 3
     have H:=H.tF 3
     have H:=H.tF 2
     have H:=H.tF 3
     exact N_J ⟨_,_,_,_,_,_,_,_,_,_,_,Z,hj4,H,⟨hsr512,hsr513,(Chk.nil (E:=snapE) (sz:=2) (G:=G513)),Z⟩⟩
    skip
    refine xal H Z ?_;intro _ _ _ H
    refine q4 H hd5 (r1 6 Z (xbs H Z7 ?_));intro _ _ _ H
    have H:=H.blkAcc 2 (k:=0) (n:=0) rfl rfl (by decide)
    refine q4 H hd5 (RD_t 7 Z kR Z (fun _ hK=>v_build bf32 Z Z) (r1 9 Z (xst 1 H Z8 ?_)));intro _ H
    refine R_nil (N_DKlast kR kR ?_)
    obtain⟨_,H,hsg517,hsr517⟩:=H.shut' (k:=3) rfl hchk6 aN aN
    have hchk7:=hchk7.up hsg517
    have hj4:=hj4.trans hsg517
    obtain⟨G518,H,hsg518,hsr518⟩:=H.shut' (k:=2) rfl hchk7 aN aN
    have hsr517:=hsr517.up hsg518
    have hj4:=hj4.trans hsg518
    have H:=H.tF 3
    have H:=H.tF 3
    have H:=H.tF 3
    have H:=H.tF 3
    exact N_J ⟨_,_,_,_,_,_,_,_,_,_,_,Z,hj4,H,⟨hsr517,hsr518,(Chk.nil (E:=snapE) (sz:=2) (G:=G518)),Z⟩⟩
   ·skip
    refine xbs H Z7 ?_;intro _ _ _ H
    have H:=H.blkAcc 2 (k:=0) (n:=0) rfl rfl (by decide)
    refine q4 H hd5 ?_
    refine r2 5 8 Z2 ?_ ?_
    ·skip
     refine xc Z2 (l5All_c _ _ H.sub _ _ hr1') ?_
     rintro _ _ ⟨_,_,_,g15,rfl,⟨_,rfl,hchk15⟩,hp15,hq15,hs15⟩
     have H:=H.growO g15 hp15 hq15 hs15;obtain⟨_,_,rfl⟩:=H.accShape (k:=0) rfl
     have hchk6:=hchk6.up g15.le
     have hj4:=hj4.trans g15.le
     have hd5:=hd5.trans g15.le
     refine⟨_,Z,?_⟩
     refine q4 H hd5 (RD_t 7 Z kR Z (fun _ hK=>v_build bf32 Z Z) (r1 8 Z (xal H Z ?_)));intro _ _ _ H
     refine q4 H hd5 (r1 9 Z (xst 0 H Z8 ?_));intro _ H
     refine R_nil (N_DKlast kR kR ?_)
     obtain⟨_,H,hsg523,hsr523⟩:=H.shut' (k:=3) rfl hchk6 aN aN
     have hchk15:=hchk15.up hsg523
     have hj4:=hj4.trans hsg523
     obtain⟨G524,H,hsg524,hsr524⟩:=H.shut' (k:=1) rfl hchk15 aN aN
     have hsr523:=hsr523.up hsg524
     have hj4:=hj4.trans hsg524
     have H:=H.tF 3
     have H:=H.tF 3
     have H:=H.tF 2
     have H:=H.tF 3
     exact N_J ⟨_,_,_,_,_,_,_,_,_,_,_,Z,hj4,H,⟨hsr523,hsr524,(Chk.nil (E:=snapE) (sz:=2) (G:=G524)),Z⟩⟩
    skip
    refine xal H Z ?_;intro _ _ _ H
    refine q4 H hd5 (r1 5 Z (xc Z2 (l5All_c _ _ H.sub _ _ hr1') ?_))
    rintro _ _ ⟨_,_,_,g19,rfl,⟨_,rfl,hchk19⟩,hp19,hq19,hs19⟩
    have H:=H.growO g19 hp19 hq19 hs19;obtain⟨_,_,rfl⟩:=H.accShape (k:=0) rfl
    have hchk6:=hchk6.up g19.le
    have hj4:=hj4.trans g19.le
    have hd5:=hd5.trans g19.le
    refine⟨_,Z,?_⟩
    refine q4 H hd5 (RD_t 7 Z kR Z (fun _ hK=>v_build bf32 Z Z) (r1 9 Z (xst 1 H Z8 ?_)));intro _ H
    refine R_nil (N_DKlast kR kR ?_)
    obtain⟨_,H,hsg528,hsr528⟩:=H.shut' (k:=3) rfl hchk6 aN aN
    have hchk19:=hchk19.up hsg528
    have hj4:=hj4.trans hsg528
    obtain⟨G529,H,hsg529,hsr529⟩:=H.shut' (k:=0) rfl hchk19 aN aN
    have hsr528:=hsr528.up hsg529
    have hj4:=hj4.trans hsg529
    have H:=H.tF 3
    have H:=H.tF 3
    have H:=H.tF 2
    have H:=H.tF 3
    exact N_J ⟨_,_,_,_,_,_,_,_,_,_,_,Z,hj4,H,⟨hsr528,hsr529,(Chk.nil (E:=snapE) (sz:=2) (G:=G529)),Z⟩⟩
   skip
   refine xal H Z ?_;intro _ _ _ H
   refine q4 H hd5 ?_
   refine r2 5 6 Z2 ?_ ?_
   ·skip
    refine xc Z2 (l5All_c _ _ H.sub _ _ hr1') ?_
    rintro _ _ ⟨_,_,_,g22,rfl,⟨_,rfl,hchk22⟩,hp22,hq22,hs22⟩
    have H:=H.growO g22 hp22 hq22 hs22;obtain⟨_,_,rfl⟩:=H.accShape (k:=0) rfl
    have hchk6:=hchk6.up g22.le
    have hj4:=hj4.trans g22.le
    have hd5:=hd5.trans g22.le
    refine⟨_,Z,?_⟩
    refine q4 H hd5 (r1 6 Z (xbs H Z7 ?_));intro _ _ _ H
    have H:=H.blkAcc 2 (k:=0) (n:=0) rfl rfl (by decide)
    refine q4 H hd5 (RD_t 7 Z kR Z (fun _ hK=>v_build bf32 Z Z) (r1 9 Z (xst 2 H Z8 ?_)));intro _ H
    refine R_nil (N_DKlast kR kR ?_)
    obtain⟨_,H,hsg534,hsr534⟩:=H.shut' (k:=3) rfl hchk6 aN aN
    have hchk22:=hchk22.up hsg534
    have hj4:=hj4.trans hsg534
    obtain⟨G535,H,hsg535,hsr535⟩:=H.shut' (k:=1) rfl hchk22 aN aN
    have hsr534:=hsr534.up hsg535
    have hj4:=hj4.trans hsg535
    have H:=H.tF 3
    have H:=H.tF 3
    have H:=H.tF 3
    have H:=H.tF 3
    exact N_J ⟨_,_,_,_,_,_,_,_,_,_,_,Z,hj4,H,⟨hsr534,hsr535,(Chk.nil (E:=snapE) (sz:=2) (G:=G535)),Z⟩⟩
   skip
   refine xbs H Z7 ?_;intro _ _ _ H
   have H:=H.blkAcc 2 (k:=0) (n:=0) rfl rfl (by decide)
   refine q4 H hd5 (r1 5 Z (xc Z2 (l5All_c _ _ H.sub _ _ hr1') ?_))
   rintro _ _ ⟨_,_,_,g26,rfl,⟨_,rfl,hchk26⟩,hp26,hq26,hs26⟩
   have H:=H.growO g26 hp26 hq26 hs26;obtain⟨_,_,rfl⟩:=H.accShape (k:=0) rfl
   have hchk6:=hchk6.up g26.le
   have hj4:=hj4.trans g26.le
   have hd5:=hd5.trans g26.le
   refine⟨_,Z,?_⟩
   refine q4 H hd5 (RD_t 7 Z kR Z (fun _ hK=>v_build bf32 Z Z) (r1 9 Z (xst 2 H Z8 ?_)));intro _ H
   refine R_nil (N_DKlast kR kR ?_)
   obtain⟨_,H,hsg539,hsr539⟩:=H.shut' (k:=3) rfl hchk6 aN aN
   have hchk26:=hchk26.up hsg539
   have hj4:=hj4.trans hsg539
   obtain⟨G540,H,hsg540,hsr540⟩:=H.shut' (k:=0) rfl hchk26 aN aN
   have hsr539:=hsr539.up hsg540
   have hj4:=hj4.trans hsg540
   have H:=H.tF 3
   have H:=H.tF 3
   have H:=H.tF 3
   have H:=H.tF 3
   exact N_J ⟨_,_,_,_,_,_,_,_,_,_,_,Z,hj4,H,⟨hsr539,hsr540,(Chk.nil (E:=snapE) (sz:=2) (G:=G540)),Z⟩⟩
  ·skip
   refine xbs H Z7 ?_;intro _ _ _ H
   have H:=H.blkAcc 2 (k:=0) (n:=0) rfl rfl (by decide)
   refine q4 H hd5 ?_
   refine r2 2 8 Z2 ?_ ?_
   ·skip
    refine xc Z2 (l3Copy_c _ _ H.sub _ _ hr1) ?_
    rintro _ _ ⟨_,_,_,g29,rfl,⟨_,rfl,hchk29⟩,hp29,hq29,hs29⟩
    have H:=H.growO g29 hp29 hq29 hs29;obtain⟨_,_,rfl⟩:=H.accShape (k:=0) rfl
    have hr1':=hr1'.up g29.le
    have hj4:=hj4.trans g29.le
    have hd5:=hd5.trans g29.le
    refine⟨_,Z,?_⟩
    refine q4 H hd5 ?_
    refine r2 5 8 Z2 ?_ ?_
    ·skip
     refine xc Z2 (l5All_c _ _ H.sub _ _ hr1') ?_
     rintro _ _ ⟨_,_,_,g30,rfl,⟨_,rfl,hchk30⟩,hp30,hq30,hs30⟩
     have H:=H.growO g30 hp30 hq30 hs30;obtain⟨_,_,rfl⟩:=H.accShape (k:=0) rfl
     have hchk29:=hchk29.up g30.le
     have hj4:=hj4.trans g30.le
     have hd5:=hd5.trans g30.le
     refine⟨_,Z,?_⟩
     refine q4 H hd5 (RD_t 7 Z kR Z (fun _ hK=>v_build bf32 Z Z) (r1 8 Z (xal H Z ?_)));intro _ _ _ H
     refine q4 H hd5 (r1 9 Z (xst 0 H Z8 ?_));intro _ H
     refine R_nil (N_DKlast kR kR ?_)
     obtain⟨_,H,hsg546,hsr546⟩:=H.shut' (k:=2) rfl hchk29 aN aN
     have hchk30:=hchk30.up hsg546
     have hj4:=hj4.trans hsg546
     obtain⟨G547,H,hsg547,hsr547⟩:=H.shut' (k:=1) rfl hchk30 aN aN
     have hsr546:=hsr546.up hsg547
     have hj4:=hj4.trans hsg547
     have H:=H.tF 3
     have H:=H.tF 3
     have H:=H.tF 2
     have H:=H.tF 3
     exact N_J ⟨_,_,_,_,_,_,_,_,_,_,_,Z,hj4,H,⟨hsr546,hsr547,(Chk.nil (E:=snapE) (sz:=2) (G:=G547)),Z⟩⟩
    skip
    refine xal H Z ?_;intro _ _ _ H
    refine q4 H hd5 (r1 5 Z (xc Z2 (l5All_c _ _ H.sub _ _ hr1') ?_))
    rintro _ _ ⟨_,_,_,g34,rfl,⟨_,rfl,hchk34⟩,hp34,hq34,hs34⟩
    have H:=H.growO g34 hp34 hq34 hs34;obtain⟨_,_,rfl⟩:=H.accShape (k:=0) rfl
    have hchk29:=hchk29.up g34.le
    have hj4:=hj4.trans g34.le
    have hd5:=hd5.trans g34.le
    refine⟨_,Z,?_⟩
    refine q4 H hd5 (RD_t 7 Z kR Z (fun _ hK=>v_build bf32 Z Z) (r1 9 Z (xst 1 H Z8 ?_)));intro _ H
    refine R_nil (N_DKlast kR kR ?_)
    obtain⟨_,H,hsg551,hsr551⟩:=H.shut' (k:=2) rfl hchk29 aN aN
    have hchk34:=hchk34.up hsg551
    have hj4:=hj4.trans hsg551
    obtain⟨G552,H,hsg552,hsr552⟩:=H.shut' (k:=0) rfl hchk34 aN aN
    have hsr551:=hsr551.up hsg552
    have hj4:=hj4.trans hsg552
    have H:=H.tF 3
    have H:=H.tF 3
    have H:=H.tF 2
    have H:=H.tF 3
    exact N_J ⟨_,_,_,_,_,_,_,_,_,_,_,Z,hj4,H,⟨hsr551,hsr552,(Chk.nil (E:=snapE) (sz:=2) (G:=G552)),Z⟩⟩
   skip
   refine xal H Z ?_;intro _ _ _ H
   refine q4 H hd5 (r1 2 Z (xc Z2 (l3Copy_c _ _ H.sub _ _ hr1) ?_))
   rintro _ _ ⟨_,_,_,g37,rfl,⟨_,rfl,hchk37⟩,hp37,hq37,hs37⟩
   have H:=H.growO g37 hp37 hq37 hs37;obtain⟨_,_,rfl⟩:=H.accShape (k:=0) rfl
   have hr1':=hr1'.up g37.le
   have hj4:=hj4.trans g37.le
   have hd5:=hd5.trans g37.le
   refine⟨_,Z,?_⟩
   refine q4 H hd5 (r1 5 Z (xc Z2 (l5All_c _ _ H.sub _ _ hr1') ?_))
   rintro _ _ ⟨_,_,_,g38,rfl,⟨_,rfl,hchk38⟩,hp38,hq38,hs38⟩
   have H:=H.growO g38 hp38 hq38 hs38;obtain⟨_,_,rfl⟩:=H.accShape (k:=0) rfl
   have hchk37:=hchk37.up g38.le
   have hj4:=hj4.trans g38.le
   have hd5:=hd5.trans g38.le
   refine⟨_,Z,?_⟩
   refine q4 H hd5 (RD_t 7 Z kR Z (fun _ hK=>v_build bf32 Z Z) (r1 9 Z (xst 2 H Z8 ?_)));intro _ H
   refine R_nil (N_DKlast kR kR ?_)
   obtain⟨_,H,hsg557,hsr557⟩:=H.shut' (k:=1) rfl hchk37 aN aN
   have hchk38:=hchk38.up hsg557
   have hj4:=hj4.trans hsg557
   obtain⟨G558,H,hsg558,hsr558⟩:=H.shut' (k:=0) rfl hchk38 aN aN
   have hsr557:=hsr557.up hsg558
   have hj4:=hj4.trans hsg558
   have H:=H.tF 3
   have H:=H.tF 3
   have H:=H.tF 2
   have H:=H.tF 3
   exact N_J ⟨_,_,_,_,_,_,_,_,_,_,_,Z,hj4,H,⟨hsr557,hsr558,(Chk.nil (E:=snapE) (sz:=2) (G:=G558)),Z⟩⟩
  skip
  refine xal H Z ?_;intro _ _ _ H
  refine q4 H hd5 ?_
  refine r2 2 6 Z2 ?_ ?_
  ·skip
   refine xc Z2 (l3Copy_c _ _ H.sub _ _ hr1) ?_
   rintro _ _ ⟨_,_,_,g41,rfl,⟨_,rfl,hchk41⟩,hp41,hq41,hs41⟩
   have H:=H.growO g41 hp41 hq41 hs41;obtain⟨_,_,rfl⟩:=H.accShape (k:=0) rfl
   have hr1':=hr1'.up g41.le
   have hj4:=hj4.trans g41.le
   have hd5:=hd5.trans g41.le
   refine⟨_,Z,?_⟩
   refine q4 H hd5 ?_
   refine r2 5 6 Z2 ?_ ?_
   ·skip
    refine xc Z2 (l5All_c _ _ H.sub _ _ hr1') ?_
    rintro _ _ ⟨_,_,_,g42,rfl,⟨_,rfl,hchk42⟩,hp42,hq42,hs42⟩
    have H:=H.growO g42 hp42 hq42 hs42;obtain⟨_,_,rfl⟩:=H.accShape (k:=0) rfl
    have hchk41:=hchk41.up g42.le
    have hj4:=hj4.trans g42.le
    have hd5:=hd5.trans g42.le
    refine⟨_,Z,?_⟩
    refine q4 H hd5 (r1 6 Z (xbs H Z7 ?_));intro _ _ _ H
    have H:=H.blkAcc 2 (k:=0) (n:=0) rfl rfl (by decide)
    refine q4 H hd5 (RD_t 7 Z kR Z (fun _ hK=>v_build bf32 Z Z) (r1 9 Z (xst 3 H Z8 ?_)));intro _ H
    refine R_nil (N_DKlast kR kR ?_)
    obtain⟨_,H,hsg564,hsr564⟩:=H.shut' (k:=2) rfl hchk41 aN aN
    have hchk42:=hchk42.up hsg564
    have hj4:=hj4.trans hsg564
    obtain⟨G565,H,hsg565,hsr565⟩:=H.shut' (k:=1) rfl hchk42 aN aN
    have hsr564:=hsr564.up hsg565
    have hj4:=hj4.trans hsg565
    have H:=H.tF 3
    have H:=H.tF 3
    have H:=H.tF 3
    have H:=H.tF 3
    exact N_J ⟨_,_,_,_,_,_,_,_,_,_,_,Z,hj4,H,⟨hsr564,hsr565,(Chk.nil (E:=snapE) (sz:=2) (G:=G565)),Z⟩⟩
   skip
   refine xbs H Z7 ?_;intro _ _ _ H
   have H:=H.blkAcc 2 (k:=0) (n:=0) rfl rfl (by decide)
   refine q4 H hd5 (r1 5 Z (xc Z2 (l5All_c _ _ H.sub _ _ hr1') ?_))
   rintro _ _ ⟨_,_,_,g46,rfl,⟨_,rfl,hchk46⟩,hp46,hq46,hs46⟩
   have H:=H.growO g46 hp46 hq46 hs46;obtain⟨_,_,rfl⟩:=H.accShape (k:=0) rfl
   have hchk41:=hchk41.up g46.le
   have hj4:=hj4.trans g46.le
   have hd5:=hd5.trans g46.le
   refine⟨_,Z,?_⟩
   refine q4 H hd5 (RD_t 7 Z kR Z (fun _ hK=>v_build bf32 Z Z) (r1 9 Z (xst 3 H Z8 ?_)));intro _ H
   refine R_nil (N_DKlast kR kR ?_)
   obtain⟨_,H,hsg569,hsr569⟩:=H.shut' (k:=2) rfl hchk41 aN aN
   have hchk46:=hchk46.up hsg569
   have hj4:=hj4.trans hsg569
   obtain⟨G570,H,hsg570,hsr570⟩:=H.shut' (k:=0) rfl hchk46 aN aN
   have hsr569:=hsr569.up hsg570
   have hj4:=hj4.trans hsg570
   have H:=H.tF 3
   have H:=H.tF 3
   have H:=H.tF 3
   have H:=H.tF 3
   exact N_J ⟨_,_,_,_,_,_,_,_,_,_,_,Z,hj4,H,⟨hsr569,hsr570,(Chk.nil (E:=snapE) (sz:=2) (G:=G570)),Z⟩⟩
  skip
  refine xbs H Z7 ?_;intro _ _ _ H
  have H:=H.blkAcc 2 (k:=0) (n:=0) rfl rfl (by decide)
  refine q4 H hd5 (r1 2 Z (xc Z2 (l3Copy_c _ _ H.sub _ _ hr1) ?_))
  rintro _ _ ⟨_,_,_,g49,rfl,⟨_,rfl,hchk49⟩,hp49,hq49,hs49⟩
  have H:=H.growO g49 hp49 hq49 hs49;obtain⟨_,_,rfl⟩:=H.accShape (k:=0) rfl
  have hr1':=hr1'.up g49.le
  have hj4:=hj4.trans g49.le
  have hd5:=hd5.trans g49.le
  refine⟨_,Z,?_⟩
  refine q4 H hd5 (r1 5 Z (xc Z2 (l5All_c _ _ H.sub _ _ hr1') ?_))
  rintro _ _ ⟨_,_,_,g50,rfl,⟨_,rfl,hchk50⟩,hp50,hq50,hs50⟩
  have H:=H.growO g50 hp50 hq50 hs50;obtain⟨_,_,rfl⟩:=H.accShape (k:=0) rfl
  have hchk49:=hchk49.up g50.le
  have hj4:=hj4.trans g50.le
  have hd5:=hd5.trans g50.le
  refine⟨_,Z,?_⟩
  refine q4 H hd5 (RD_t 7 Z kR Z (fun _ hK=>v_build bf32 Z Z) (r1 9 Z (xst 3 H Z8 ?_)));intro _ H
  refine R_nil (N_DKlast kR kR ?_)
  obtain⟨_,H,hsg575,hsr575⟩:=H.shut' (k:=1) rfl hchk49 aN aN
  have hchk50:=hchk50.up hsg575
  have hj4:=hj4.trans hsg575
  obtain⟨G576,H,hsg576,hsr576⟩:=H.shut' (k:=0) rfl hchk50 aN aN
  have hsr575:=hsr575.up hsg576
  have hj4:=hj4.trans hsg576
  have H:=H.tF 3
  have H:=H.tF 3
  have H:=H.tF 3
  have H:=H.tF 3
  exact N_J ⟨_,_,_,_,_,_,_,_,_,_,_,Z,hj4,H,⟨hsr575,hsr576,(Chk.nil (E:=snapE) (sz:=2) (G:=G576)),Z⟩⟩
 rintro _ _ ⟨jb,ja,jc,jm,jk,jn,jl,ve,ce,ne,G4,rfl,hle4,H,hinv4⟩
 subst hljb3
 subst hljb2
 have hr1'':=hr1''.up hle4
 obtain⟨hja,hjb,hjc,rfl⟩:=hinv4;obtain⟨_,_,rfl⟩:=H.accShape (k:=0) rfl
 refine W_seq (q2 (aG Z (q3 (W_block ?_))))
 obtain⟨ln52,hln52,H⟩:=H.nameAt (k:=1) (off:=2) rfl rfl
 obtain⟨ln53,hln53,H⟩:=H.name (k:=2) rfl
 obtain⟨ln54,hln54,H⟩:=H.name (k:=3) rfl
 refine W_lp (hf:=(Sub.cons (t:=1) Z (Sub.cons (t:=2) Z (Sub.cons (t:=3) Z Sub.nil)))) (J:=fun M w m=>∃(v:Value) (n:Nat) (cs:List Value) (xs:List (BSnap)) (k:Nat) (G:PH),M=[(4,.int .i64 (k:Int))]∧PLe G4 G∧Hp w0 G0 [] w G [acc 91 2 v n cs,blk jb (cl (setN ln52 2 v) 32),blk b3 (cl ln53 32),blk b2 (cl ln54 32)]∧(Chk snapE 2 G cs xs∧n=xs.length∧k≤d.snaps.length∧xs.length=k∧xs=d.snaps.take k)∧m=(d.snaps.length-k)) (h0:=⟨_,_,_,[],0,_,Z,PLe.refl _,H,?inv,Z⟩) (round:=?round)
 case inv=>exact⟨hjc,by first|rfl|simp|(simp;omega)|omega,(by simp)⟩
 case round =>
  rintro _ _ _ ⟨v,n,cs,xs,k,G55,rfl,hle55,H,hinv55,rfl⟩
  subst hln52
  subst hln53
  subst hln54
  have hr1'':=hr1''.up hle55
  have hja:=hja.up hle55
  have hjb:=hjb.up hle55
  obtain⟨hchk55_0,_,hinv55⟩:=hinv55
  obtain⟨_,_,rfl⟩:=H.accShape (k:=0) rfl
  obtain⟨_,hxl,hxs⟩:=hinv55
  refine W_seq (q2 (mV Z (fA 2 Z (lB 3 H Z3 (lN Z (pe 1 Z (q3 ?_)))))))
  refine W_cond Z ?_ ?_
  ·intro hc56
   try simp only[nrm]at hc56
   refine W_skip (N_K (W_seq (W_block (W_drawK [1,2,3] 20 H kR Z ?_))));intro _ H;have hd57:=PLe.refl G55
   refine dF 0 2 Z2 (dB 1 0 Z4 (dF 2 2 Z2 (dB 3 2 Z4 (dE 4 Z2 ?_))))
   have hl58:=hr1''.len
   obtain⟨_,_,z58,_,ha58,hz58,hq58,hE58,hrow58,_⟩:=hr1''.at (i:=k) oM
   clear hq58
   obtain⟨_,_,_,rfl,hi58,hr58,_,_⟩:=ox hE58
   refine dI 5 2 k ha58 Z3 Z (dF 6 0 Z2 (dP 7 hrow58 0 Z3 (dF 8 2 Z2 (dB 9 2 Z4 (dE 10 Z2 ?_)))))
   have hl59:=hr1''.len
   obtain⟨_,_,z59,_,ha59,hz59,hq59,hE59,hrow59,_⟩:=hr1''.at (i:=k) oM
   clear hq59
   obtain⟨_,_,_,rfl,_,hr59,_,_⟩:=ox hE59
   have hzz59:z58=z59:=Option.some.inj (hz58.symm.trans hz59)
   subst hzz59
   refine dI 11 2 k ha59 Z3 Z (dF 12 1 Z2 (dP 13 hrow59 1 Z3 (r1 14 Z (xc Z2 (l5All_c _ _ H.sub _ _ hr59) ?_))))
   rintro _ _ ⟨_,_,_,g60,rfl,⟨_,rfl,hchk60⟩,hp60,hq60,hs60⟩
   have H:=H.growO g60 hp60 hq60 hs60;obtain⟨_,_,rfl⟩:=H.accShape (k:=0) rfl
   have hchk55_0:=hchk55_0.up g60.le
   have hle55:=hle55.trans g60.le
   have hd57:=hd57.trans g60.le
   refine⟨_,Z,?_⟩
   refine q4 H hd57 (RD_t 15 Z kR Z (fun _ hK=>v_build bf91 Z Z) (r1 16 Z (xbs H Z7 ?_)));intro _ _ _ H
   refine q4 H hd57 (r1 17 Z (o_append1 1 H (sz:=2) (bytes:=40) underlying30 typeInfo91 ⟨_,Z,Z⟩ Z Z Z Z Z Z Z Z Z Z oM Z ?_));intro _ _ H
   obtain⟨_,H,hsg63,hsr63⟩:=H.shut' (k:=0) rfl hchk60 aN aN
   have hchk55_0:=hchk55_0.up hsg63
   have hle55:=hle55.trans hsg63
   have hd57:=hd57.trans hsg63
   have hchk62:=hchk55_0.snoc (show snapE _ ⟨z58.name,z58.tree⟩ _ from⟨_,_,_,rfl,hi58,hsr63⟩) rfl
   obtain⟨_,_,rfl⟩:=H.accShape (k:=0) rfl
   refine q4 H hd57 (dF 18 2 Z2 (r1 19 Z (xst 1 H Z8 ?_)));intro _ H
   refine R_nil (N_DKlast kR kR (N_B (N_K (W_region (mV Z (aD Z2 (aG Z (R_nil ?_))))))))
   refine N_lp (hJ:=⟨_,_,_,(xs++[⟨z58.name,z58.tree⟩]),k+1,_,Z,hle55,H,?inv,Z⟩) (hm:=?hm)
   case hm=>omega
   case inv=>exact⟨hchk62,aN,(by exact⟨by omega,by simp[hxl],by rw[Sp.take_succ' hz58,hxs]⟩)⟩
  intro hc56'
  try simp only[nrm]at hc56'
  refine W_exit (N_K_exit (N_LP_exit (N_B_same (N_K (q2 (lA 1 3 H Z4 (xst 2 H Z8 ?_)))))));intro _ H
  refine q3 (W_ret (ret_gen (rs:=[.cell 2 32]) (vs:=[_]) results32 ⟨⟨_,Z,load_blk 2 H isAgg32 sizeOf32 Z Z Z⟩,trivial⟩ ?_))
  obtain rfl:k=d.snaps.length:=by omega
  rw[List.take_length]at hxs
  subst hxs
  exact H.retO (k:=0) Z ⟨_,_,_,Z,AccOf.mk aN hchk55_0,hja,hjb⟩ (acc_nd _ _ _ _ _)
theorem SnapTake_c (w0:World)(G0:PH)(hG:PSub G0 w0)(cd:List Value)(d:BDisk)(hd:diskE G0 d cd)(name:Bs)(hname:name.length≤16777216) :
  Calls Tryz.prog 140 #[.agg cd.toArray,str name] w0 (RetO w0 G0 (fun G val r=>∃u u1 u2,val= .tuple #[.agg #[u,u1,u2],.bool (Sp.SnapTake d name).isSome]∧AccOf snapE 2 91 (((Sp.SnapTake d name).map (·.snaps)).getD []) G u2 r∧RdH G u (((Sp.SnapTake d name).map (·.store)).getD [])∧RdItems G u1 (((Sp.SnapTake d name).map (·.tree)).getD []))):=by
 obtain⟨_,_,_,_,_,_,_,_,_,rfl,hr1,hr1',hr1'',⟨_,_⟩,⟨_,_⟩,_,_⟩:=ox hd
 have H:=Hp.init hG
 refine calls_of_W (l:=[_,str name]) func140 Z ntmps140 Z (q2 (o_box H Z Z Z ?_));intro _ _ _ H
 refine xal H Z ?_;intro _ _ _ H
 refine aG Z (q3 (W_seq (q2 (lA 1 3 H Z4 (xr H Z2 (DiskValid_c _ _ H.sub _ d ⟨_,_,_,_,_,_,_,_,_,Z,hr1,hr1',hr1''⟩) ?_)))));intro _ H
 refine pe 2 Z ?_
 refine R_case (t:=12) Z ?_ ?_
 ·intro hc5
  try simp only[nrm]at hc5
  refine pe 17 Z (q3 (W_true Z (q2 (o_build bf32 Z Z Z (xst 0 H Z8 ?_)))));intro _ H
  refine aG Z (q3 (W_ret (N_K_ret (ret_gen (rs:=[.cell 4 32,.tmp 5]) (vs:=[_,_]) results140 ⟨⟨_,Z,load_blk 0 H isAgg32 sizeOf32 Z Z Z⟩,Z,trivial⟩ ?_))))
  have hN:Sp.SnapTake d name=none:=by simp[Sp.SnapTake,hc5]
  have H:=H.addNil 91 2
  exact H.retO (k:=0) rfl (by rw[hN];exact⟨_,_,_,rfl,AccOf.mk rfl Chk.nil,RdS.nil _ _ _,RdS.nil _ _ _⟩) (acc_nd _ _ _ _ _)
 intro hc5'
 try simp only[nrm]at hc5'
 refine pe 1 Z (gR Z (xr H Z2 (l1Word_c _ _ hname) ?_));intro _ H
 refine pe 3 Z ?_
 refine R_case (t:=17) Z ?_ ?_
 ·intro hc8
  try simp only[nrm]at hc8
  refine pe 12 Z (q3 (W_true Z (q2 (o_build bf32 Z Z Z (xst 0 H Z8 ?_)))));intro _ H
  refine aG Z (q3 (W_ret (N_K_ret (ret_gen (rs:=[.cell 4 32,.tmp 5]) (vs:=[_,_]) results140 ⟨⟨_,Z,load_blk 0 H isAgg32 sizeOf32 Z Z Z⟩,Z,trivial⟩ ?_))))
  have hN:Sp.SnapTake d name=none:=by simp[Sp.SnapTake,hc8]
  have H:=H.addNil 91 2
  exact H.retO (k:=0) rfl (by rw[hN];exact⟨_,_,_,rfl,AccOf.mk rfl Chk.nil,RdS.nil _ _ _,RdS.nil _ _ _⟩) (acc_nd _ _ _ _ _)
 intro hc8'
 try simp only[nrm]at hc8'
 refine gR Z (fA 2 Z (gR Z (lB 1 H Z3 (pe 1 Z (gR Z (xr H Z2 (l12At_c _ _ H.sub _ _ hr1'' _ hname) ?_))))));intro _ H
 refine pe 3 Z ?_
 refine R_case (t:=24) Z ?_ ?_
 ·intro hc11
  try simp only[nrm]at hc11
  refine pe 5 Z (q3 (W_true Z (q2 (o_build bf32 Z Z Z (xst 0 H Z8 ?_)))));intro _ H
  refine aG Z (q3 (W_ret (N_K_ret (ret_gen (rs:=[.cell 4 32,.tmp 5]) (vs:=[_,_]) results140 ⟨⟨_,Z,load_blk 0 H isAgg32 sizeOf32 Z Z Z⟩,Z,trivial⟩ ?_))))
  have hN:Sp.SnapTake d name=none:=by (obtain⟨_,_,ia,_,_,_,_⟩:=Sp.at_nat hc11);simp[Sp.SnapTake,Sp.atS,ia]
  have H:=H.addNil 91 2
  exact H.retO (k:=0) rfl (by rw[hN];exact⟨_,_,_,rfl,AccOf.mk rfl Chk.nil,RdS.nil _ _ _,RdS.nil _ _ _⟩) (acc_nd _ _ _ _ _)
 intro hc11'
 try simp only[nrm]at hc11'
 refine gR Z (fA 2 Z (gR Z (lB 1 H Z3 (gR Z (lN Z (pe 2 Z (q3 ?_)))))))
 refine W_cond Z ?_ ?_
 ·intro hc13
  try simp only[nrm]at hc13
  refine q2 (o_build bf32 Z Z Z (xst 0 H Z8 ?_));intro _ H
  refine aG Z (q3 (W_ret (N_K_ret (ret_gen (rs:=[.cell 4 32,.tmp 5]) (vs:=[_,_]) results140 ⟨⟨_,Z,load_blk 0 H isAgg32 sizeOf32 Z Z Z⟩,Z,trivial⟩ ?_))))
  have hN:Sp.SnapTake d name=none:=by simp[Sp.SnapTake,show d.snaps.length=6 by omega]
  have H:=H.addNil 91 2
  exact H.retO (k:=0) rfl (by rw[hN];exact⟨_,_,_,rfl,AccOf.mk rfl Chk.nil,RdS.nil _ _ _,RdS.nil _ _ _⟩) (acc_nd _ _ _ _ _)
 intro hc13'
 try simp only[nrm]at hc13'
 refine W_skip (N_K (q2 (fA 0 Z (lB 1 H Z3 (fA 1 Z (lB 1 H Z3 (xc Z2 (l12Keep_c _ _ H.sub _ _ hr1 _ _ hr1') ?_)))))))
 rintro _ _ ⟨_,_,_,g15,rfl,⟨_,rfl,⟨_,rfl,hchk15⟩⟩,hp15,hq15,hs15⟩
 have H:=H.growO g15 hp15 hq15 hs15;obtain⟨_,_,rfl⟩:=H.accShape (k:=0) rfl
 have hr1:=hr1.up g15.le
 have hr1':=hr1'.up g15.le
 have hr1'':=hr1''.up g15.le
 refine⟨_,Z,?_⟩
 have hkl:=Sp.l12Keep_len d.store d.tree
 refine pe 5 Z (q3 (W_seq (q2 (pe 2 Z (q3 ?_)))))
 refine W_cond Z ?_ ?_
 ·intro hc16
  try simp only[nrm]at hc16
  refine q2 (o_build bf32 Z Z Z (xst 1 H Z8 ?_));intro _ H
  refine aG Z (q3 (W_ret (N_K_ret (ret_gen (rs:=[.cell 4 32,.tmp 5]) (vs:=[_,_]) results140 ⟨⟨_,Z,load_blk 1 H isAgg32 sizeOf32 Z Z Z⟩,Z,trivial⟩ ?_))))
  have hN:Sp.SnapTake d name=none:=by (have hno:Sp.l12Keep d.store d.tree=none:=by simpa using hc16);simp[Sp.SnapTake,hno]
  have H:=H.addNil 91 2
  exact H.retO (k:=0) rfl (by rw[hN];exact⟨_,_,_,rfl,AccOf.mk rfl Chk.nil,RdS.nil _ _ _,RdS.nil _ _ _⟩) (acc_nd _ _ _ _ _)
 intro hc16'
 try simp only[nrm]at hc16'
 refine W_skip (N_K (q2 (lA 2 3 H Z4 (xc Z2 (l12Copy_c _ _ H.sub _ d ⟨_,_,_,_,_,_,_,_,_,Z,hr1,hr1',hr1''⟩) ?_))))
 rintro _ _ ⟨G18,_,_,g18,rfl,⟨_,_,_,rfl,⟨_,rfl,hchk18⟩,hr18_0,hr18_1⟩,hp18,hq18,hs18⟩
 have H:=H.growO g18 hp18 hq18 hs18;obtain⟨_,_,rfl⟩:=H.accShape (k:=0) rfl
 have hr1':=hr1'.up g18.le
 have hchk15:=hchk15.up g18.le
 obtain⟨_,_,rfl⟩:=hr18_0.shape;have hx_hr18_0:_≤1099511627776:=hr18_0.lim
 obtain⟨_,_,rfl⟩:=hr18_1.shape;have hx_hr18_1:_≤1099511627776:=hr18_1.lim
 refine⟨_,Z,?_⟩
 refine xal H Z ?_;intro _ _ _ H
 refine xst 0 H Z8 ?_;intro _ H
 refine q1 (mV Z (fA 0 Z (xst 0 H Z8 ?_)));intro _ H
 refine q3 (W_seq (W_drawK [0,3,4] 11 H kR Z ?_));intro _ H;have hd22:=PLe.refl G18
 refine dF 0 2 Z2 (dB 1 0 Z4 (dE 2 Z2 (dF 3 1 Z2 (dB 4 2 Z4 (r1 5 Z (xc Z2 (l5All_c _ _ H.sub _ _ hr1') ?_))))))
 rintro _ _ ⟨_,_,_,g23,rfl,⟨_,rfl,hchk23⟩,hp23,hq23,hs23⟩
 have H:=H.growO g23 hp23 hq23 hs23;obtain⟨_,_,rfl⟩:=H.accShape (k:=0) rfl
 have hchk15:=hchk15.up g23.le
 have hr18_1:=hr18_1.up g23.le
 have hchk18:=hchk18.up g23.le
 have hd22:=hd22.trans g23.le
 refine⟨_,Z,?_⟩
 refine q4 H hd22 (RD_t 6 Z kR Z (fun _ hK=>v_build bf91 Z Z) (r1 7 Z (xbs H Z7 ?_)));intro _ _ _ H
 refine q4 H hd22 (r1 8 Z (o_append1 2 H (sz:=2) (bytes:=40) underlying30 typeInfo91 ⟨_,Z,Z⟩ Z Z Z Z Z Z Z Z Z Z oM Z ?_));intro _ _ H
 obtain⟨_,H,hsg26,hsr26⟩:=H.shut' (k:=0) rfl hchk23 aN aN
 have hchk15:=hchk15.up hsg26
 have hr18_1:=hr18_1.up hsg26
 have hchk18:=hchk18.up hsg26
 have hd22:=hd22.trans hsg26
 have hchk25:=hchk18.snoc (show snapE _ ⟨name,d.tree⟩ _ from⟨_,_,_,rfl,hname,hsr26⟩) rfl
 obtain⟨_,_,rfl⟩:=H.accShape (k:=1) rfl
 refine q4 H hd22 (dF 9 2 Z2 (r1 10 Z (xst 0 H Z8 ?_)));intro _ H
 refine R_nil (N_DKlast kR kR (N_K (q2 (lA 0 3 H Z4 (xst 3 H Z8 ?_)))));intro _ H
 refine aG Z (q3 (W_ret (ret_gen (rs:=[.cell 4 32,.tmp 5]) (vs:=[_,_]) results140 ⟨⟨_,Z,load_blk 3 H isAgg32 sizeOf32 Z Z Z⟩,Z,trivial⟩ ?_)))
 obtain⟨_,H,hsg530,hsr530⟩:=H.shut' (k:=2) rfl hchk15 aN aN
 have hr18_1:=hr18_1.up hsg530
 have hchk25:=hchk25.up hsg530
 have hY:Sp.SnapTake d name=some ⟨(Sp.l12Keep d.store d.tree).getD [],d.tree,d.snaps++[⟨name,d.tree⟩]⟩:=by (obtain⟨_,hp⟩:=Option.isSome_iff_exists.1 hc16');(have hat:Sp.atS d.snaps name=none:=Sp.at_none hc11');simp[Sp.SnapTake,hc5',hc8',hat,hp,show¬d.snaps.length=6 by omega]
 exact H.retO (k:=1) rfl (by rw[hY];exact⟨_,_,_,rfl,AccOf.mk aN hchk25,hsr530,hr18_1⟩) (acc_nd _ _ _ _ _)
theorem SnapTakeP_c (w0:World)(G0:PH)(hG:PSub G0 w0)(cd:List Value)(d:BDisk)(hd:diskE G0 d cd)(name:Bs)(hname:name.length≤16777216) :
  Calls Tryz.prog 140 #[.agg cd.toArray,str name] w0 (RetP w0 G0 (fun G val=>∃cs,val= .tuple #[.agg cs.toArray,.bool (Sp.SnapTake d name).isSome]∧diskE G ((Sp.SnapTake d name).getD ⟨[],[],[]⟩) cs)):=by
 refine(SnapTake_c w0 G0 hG cd d hd name hname).mono ?_
 rintro _ _ ⟨_,_,_,g,rfl,⟨_,_,_,rfl,⟨_,rfl,hchk⟩,h1,h2⟩,hp,hq,hs⟩
 have H:=(Hp.init hG).growO g hp hq hs
 have hb:(((Sp.SnapTake d name).map (·.snaps)).getD []).length≤6:=Sp.dk_lim (fun d1 h=>Sp.take_valid h)
 obtain⟨_,H2,hle,hr⟩:=H.shut' (k:=0) rfl hchk rfl oM
 have e1:((Sp.SnapTake d name).map (·.store)).getD []=((Sp.SnapTake d name).getD ⟨[],[],[]⟩).store:=by cases Sp.SnapTake d name<;>rfl
 have e2:((Sp.SnapTake d name).map (·.tree)).getD []=((Sp.SnapTake d name).getD ⟨[],[],[]⟩).tree:=by cases Sp.SnapTake d name<;>rfl
 have e3:((Sp.SnapTake d name).map (·.snaps)).getD []=((Sp.SnapTake d name).getD ⟨[],[],[]⟩).snaps:=by cases Sp.SnapTake d name<;>rfl
 rw[e1]at h1;rw[e2]at h2;rw[e3]at hr
 obtain⟨_,_,rfl⟩:=h1.shape
 obtain⟨_,_,rfl⟩:=h2.shape
 obtain⟨_,_,rfl⟩:=hr.shape
 exact H2.retP ⟨[_,_,_],Z,_,_,_,_,_,_,_,_,_,Z,h1.up hle,h2.up hle,hr⟩
theorem l12Free_c (w0:World)(G0:PH)(hG:PSub G0 w0)(vstore:Value)(store:List (BHeld))(hstore:RdH G0 vstore store)(vlist:Value)(list:List (BItem))(hlist:RdItems G0 vlist list) :
  Calls Tryz.prog 176 #[vstore,vlist] w0 (RetO w0 G0 (AccOf heldE 3 113 (Sp.l12Free store list))):=by
 obtain⟨astore,kstore,rfl⟩:=hstore.shape
 have hlimstore:store.length≤1099511627776:=hstore.lim
 obtain⟨alist,klist,rfl⟩:=hlist.shape
 have hlimlist:list.length≤1099511627776:=hlist.lim
 have H:=Hp.init hG
 refine calls_of_W (l:=[.slice astore store.length kstore,.slice alist list.length klist]) func176 Z ntmps176 Z (q2 (aG Z (q1 (mV Z (xc Z2 (l3Copy_c _ _ H.sub _ _ hstore) ?_)))))
 rintro _ _ ⟨G1,_,_,g1,rfl,⟨_,rfl,hchk1⟩,hp1,hq1,hs1⟩
 have H:=H.growO g1 hp1 hq1 hs1;obtain⟨_,_,rfl⟩:=H.accShape (k:=0) rfl
 have hlist:=hlist.up g1.le
 refine⟨_,Z,?_⟩
 refine aG Z (q3 (W_seq (q2 (aG Z (q3 (W_block ?_))))))
 refine W_lp (hf:=(Sub.cons (t:=1) Z (Sub.cons (t:=4) Z Sub.nil))) (J:=fun M w m=>∃(v:Value) (n:Nat) (cs:List Value) (xs:List (BHeld)) (k:Nat) (G:PH),M=[(6,.int .i64 (k:Int)),(5,v)]∧PLe G1 G∧Hp w0 G0 [] w G [acc 113 3 v n cs]∧(Chk heldE 3 G cs xs∧n=xs.length∧k≤list.length∧xs.length≤store.length∧xs=Sp.l12Free store (list.take k))∧m=(list.length-k)) (h0:=⟨_,_,_,store,0,_,Z,PLe.refl _,H,?inv,Z⟩) (round:=?round)
 case inv=>exact⟨hchk1,by first|rfl|simp|(simp;omega)|omega,(by exact⟨by omega,by omega,rfl⟩)⟩
 case round =>
  rintro _ _ _ ⟨v,n,cs,xs,k,_,rfl,hle2,H,hinv2,rfl⟩
  have hlist:=hlist.up hle2
  obtain⟨hchk2_0,_,hinv2⟩:=hinv2
  obtain⟨_,_,rfl⟩:=H.accShape (k:=0) rfl
  obtain⟨_,_,hxs⟩:=hinv2
  refine W_seq (q2 (pe 2 Z (lN Z (pe 1 Z (q3 ?_)))))
  refine W_cond Z ?_ ?_
  ·intro hc3
   try simp only[nrm]at hc3
   refine W_skip (N_K (W_seq (W_block (q2 (pe 3 Z (iP k hlist Z3 Z ?_))))));intro _ _ z4 _ hz4 hE4 hrow4
   obtain⟨_,_,_,rfl,_,hr4,_,_⟩:=ox hE4
   refine fA 2 Z (lP H hrow4 2 Z2 ?_)
   obtain⟨_,H,hsg6,hsr6⟩:=H.shut' (k:=0) rfl hchk2_0 aN aN
   have hr4:=hr4.up hsg6
   have hle2:=hle2.trans hsg6
   refine xc Z2 (FileFree_c _ _ H.sub _ _ hsr6 _ _ hr4) ?_
   rintro _ _ ⟨_,_,_,g5,rfl,⟨_,rfl,⟨_,rfl,hchk5⟩⟩,hp5,hq5,hs5⟩
   have H:=H.growO g5 hp5 hq5 hs5;obtain⟨_,_,rfl⟩:=H.accShape (k:=0) rfl
   have hle2:=hle2.trans g5.le
   refine⟨_,Z,?_⟩
   refine pe 5 Z (q3 (W_region (pe 2 Z (R_nil (N_B (N_K (W_region (mV Z (aD Z2 (aG Z (R_nil ?_)))))))))))
   refine N_lp (hJ:=⟨_,_,_,((Sp.FileFree xs z4.ids).getD []),k+1,_,Z,hle2,H,?inv,Z⟩) (hm:=?hm)
   case hm=>omega
   case inv=>exact⟨hchk5,aN,(by exact⟨by omega,by (have:=Sp.free_len xs z4.ids;omega),by (rw[Sp.l12Free_succ hz4,←hxs])⟩)⟩
  intro hc3'
  try simp only[nrm]at hc3'
  refine W_exit (N_K_exit (N_LP_exit (N_B_same (N_K (q2 (pe 2 Z (q3 (W_ret (rt1 results176 Z ?_)))))))))
  obtain rfl:k=list.length:=by omega
  rw[List.take_length]at hxs
  subst hxs
  exact H.retO (k:=0) rfl (AccOf.mk (by assumption) hchk2_0) (acc_nd _ _ _ _ _)
theorem SnapBack_c (w0:World)(G0:PH)(hG:PSub G0 w0)(cd:List Value)(d:BDisk)(hd:diskE G0 d cd)(name:Bs)(hname:name.length≤16777216) :
  Calls Tryz.prog 141 #[.agg cd.toArray,str name] w0 (RetO w0 G0 (fun G val r=>∃u u1 u2,val= .tuple #[.agg #[u,u1,u2],.bool (Sp.SnapBack d name).isSome]∧AccOf snapE 2 91 (((Sp.SnapBack d name).map (·.snaps)).getD []) G u2 r∧RdH G u (((Sp.SnapBack d name).map (·.store)).getD [])∧RdItems G u1 (((Sp.SnapBack d name).map (·.tree)).getD []))):=by
 obtain⟨_,_,_,_,_,_,_,_,_,rfl,hr1,hr1',hr1'',⟨_,_⟩,⟨_,_⟩,_,_⟩:=ox hd
 have H:=Hp.init hG
 refine calls_of_W (l:=[_,str name]) func141 Z ntmps141 Z (q2 (o_box H Z Z Z ?_));intro _ _ _ H
 refine xal H Z ?_;intro _ _ _ H
 refine aG Z (q1 (fA 2 Z (lB 1 H Z3 (mV Z (xr H Z2 (l12At_c _ _ H.sub _ _ hr1'' _ hname) ?_)))));intro _ H
 refine aG Z (q3 (W_seq (q2 (lA 1 3 H Z4 (xr H Z2 (DiskValid_c _ _ H.sub _ d ⟨_,_,_,_,_,_,_,_,_,Z,hr1,hr1',hr1''⟩) ?_)))));intro _ H
 refine pe 2 Z ?_
 refine R_case (t:=17) Z ?_ ?_
 ·intro hc6
  try simp only[nrm]at hc6
  refine pe 3 Z (q3 (W_true Z (q2 (o_build bf32 Z Z Z (xst 0 H Z8 ?_)))));intro _ H
  refine aG Z (q3 (W_ret (N_K_ret (ret_gen (rs:=[.cell 4 32,.tmp 5]) (vs:=[_,_]) results141 ⟨⟨_,Z,load_blk 0 H isAgg32 sizeOf32 Z Z Z⟩,Z,trivial⟩ ?_))))
  have hN:Sp.SnapBack d name=none:=by exact Sp.back_nov (by simpa using hc6)
  have H:=H.addNil 91 2
  exact H.retO (k:=0) rfl (by rw[hN];exact⟨_,_,_,rfl,AccOf.mk rfl Chk.nil,RdS.nil _ _ _,RdS.nil _ _ _⟩) (acc_nd _ _ _ _ _)
 intro hc6'
 try simp only[nrm]at hc6'
 refine pe 3 Z (q3 ?_)
 refine W_cond Z ?_ ?_
 ·intro hc8
  try simp only[nrm]at hc8
  refine q2 (o_build bf32 Z Z Z (xst 0 H Z8 ?_));intro _ H
  refine aG Z (q3 (W_ret (N_K_ret (ret_gen (rs:=[.cell 4 32,.tmp 5]) (vs:=[_,_]) results141 ⟨⟨_,Z,load_blk 0 H isAgg32 sizeOf32 Z Z Z⟩,Z,trivial⟩ ?_))))
  have hN:Sp.SnapBack d name=none:=by exact Sp.back_noat (by simpa [Sp.l12At] using hc8)
  have H:=H.addNil 91 2
  exact H.retO (k:=0) rfl (by rw[hN];exact⟨_,_,_,rfl,AccOf.mk rfl Chk.nil,RdS.nil _ _ _,RdS.nil _ _ _⟩) (acc_nd _ _ _ _ _)
 intro hc8'
 try simp only[nrm]at hc8'
 obtain⟨i,_,ia,ib,_,_,_⟩:=Sp.at_nat hc8'
 have ib:Sp.l12At d.snaps name=(i:Int):=ib
 have hat:Sp.atS d.snaps name=some i:=ia
 refine W_skip (N_K (W_seq (W_drawK [0,1] 14 H kR Z ?_)));intro _ H;have hd10:=PLe.refl G0
 refine dF 0 0 Z2 (dB 1 1 Z4 (dF 2 2 Z2 (dB 3 1 Z4 (dE 4 Z2 ?_))))
 have hl11:=hr1''.len
 obtain⟨_,_,z11,_,ha11,hz11,hq11,hE11,hrow11,_⟩:=hr1''.at (i:=i) oM
 clear hq11
 obtain⟨_,_,_,rfl,_,hr11,_,_⟩:=ox hE11
 refine dI 5 2 i ha11 Z3 ib (dF 6 1 Z2 (dP 7 hrow11 1 Z3 (r1 8 Z (xc Z2 (l12Keep_c _ _ H.sub _ _ hr1 _ _ hr11) ?_))))
 rintro _ _ ⟨_,_,_,g12,rfl,⟨_,rfl,⟨_,rfl,hchk12⟩⟩,hp12,hq12,hs12⟩
 have H:=H.growO g12 hp12 hq12 hs12;obtain⟨_,_,rfl⟩:=H.accShape (k:=0) rfl
 have hr1:=hr1.up g12.le
 have hr1':=hr1'.up g12.le
 have hr1'':=hr1''.up g12.le
 have hd10:=hd10.trans g12.le
 refine⟨_,Z,?_⟩
 have hkl:=Sp.l12Keep_len d.store z11.tree
 refine q4 H hd10 (dE 9 Z2 (dE 10 Z2 (dE 11 Z2 (dE 12 Z2 (dE 13 Z2 (rz (N_K (W_seq (q2 (pe 2 Z (q3 ?_)))))))))))
 refine W_cond Z ?_ ?_
 ·intro hc13
  try simp only[nrm]at hc13
  refine q2 (o_build bf32 Z Z Z (xst 1 H Z8 ?_));intro _ H
  refine aG Z (q3 (W_ret (N_K_ret (ret_gen (rs:=[.cell 4 32,.tmp 5]) (vs:=[_,_]) results141 ⟨⟨_,Z,load_blk 1 H isAgg32 sizeOf32 Z Z Z⟩,Z,trivial⟩ ?_))))
  have hN:Sp.SnapBack d name=none:=by (have hno:Sp.l12Keep d.store z11.tree=none:=by simpa using hc13);(rw[Sp.back_eq (by simpa using hc6') hat hz11,hno];rfl)
  have H:=H.addNil 91 2
  exact H.retO (k:=0) rfl (by rw[hN];exact⟨_,_,_,rfl,AccOf.mk rfl Chk.nil,RdS.nil _ _ _,RdS.nil _ _ _⟩) (acc_nd _ _ _ _ _)
 intro hc13'
 try simp only[nrm]at hc13'
 refine W_skip (N_K (q2 (lA 2 3 H Z4 (xc Z2 (l12Copy_c _ _ H.sub _ d ⟨_,_,_,_,_,_,_,_,_,Z,hr1,hr1',hr1''⟩) ?_))))
 rintro _ _ ⟨_,_,_,g15,rfl,⟨_,_,_,rfl,⟨_,rfl,hchk15⟩,hr15_0,hr15_1⟩,hp15,hq15,hs15⟩
 have H:=H.growO g15 hp15 hq15 hs15;obtain⟨_,_,rfl⟩:=H.accShape (k:=0) rfl
 have hr1':=hr1'.up g15.le
 have hr1'':=hr1''.up g15.le
 have hchk12:=hchk12.up g15.le
 obtain⟨_,_,rfl⟩:=hr15_0.shape;have hx_hr15_0:_≤1099511627776:=hr15_0.lim
 obtain⟨_,_,rfl⟩:=hr15_1.shape;have hx_hr15_1:_≤1099511627776:=hr15_1.lim
 refine⟨_,Z,?_⟩
 refine xal H Z ?_;intro _ _ _ H
 refine xst 0 H Z8 ?_;intro _ H
 refine q1 (mV Z (fA 1 Z (lB 4 H Z3 ?_)))
 obtain⟨_,H,hsg19,hsr19⟩:=H.shut' (k:=2) rfl hchk12 aN aN
 have hr1':=hr1'.up hsg19
 have hr1'':=hr1''.up hsg19
 have hchk15:=hchk15.up hsg19
 refine xc Z2 (l12Free_c _ _ H.sub _ _ hsr19 _ _ hr1') ?_
 rintro _ _ ⟨_,_,_,g18,rfl,⟨_,rfl,hchk18⟩,hp18,hq18,hs18⟩
 have H:=H.growO g18 hp18 hq18 hs18;obtain⟨_,_,rfl⟩:=H.accShape (k:=0) rfl
 have hr1'':=hr1''.up g18.le
 have hchk15:=hchk15.up g18.le
 refine⟨_,Z,?_⟩
 have hfl2:=Sp.l12Free_len d.tree ((Sp.l12Keep d.store z11.tree).getD [])
 refine fA 0 Z (xst 1 H Z8 ?_);intro _ H
 refine q1 (fA 2 Z (lB 4 H Z3 (mV Z (iP i hr1'' Z3 ib ?_))));intro _ _ z21 _ hz21 hE21 hrow21
 obtain⟨_,_,_,rfl,_,hr21,_,_⟩:=ox hE21
 refine fA 1 Z (lP H hrow21 1 Z2 (xc Z2 (l5All_c _ _ H.sub _ _ hr21) ?_))
 rintro _ _ ⟨_,_,_,g22,rfl,⟨_,rfl,hchk22⟩,hp22,hq22,hs22⟩
 have H:=H.growO g22 hp22 hq22 hs22;obtain⟨_,_,rfl⟩:=H.accShape (k:=0) rfl
 have hchk15:=hchk15.up g22.le
 have hchk18:=hchk18.up g22.le
 refine⟨_,Z,?_⟩
 refine fA 1 Z (xst 2 H Z8 ?_);intro _ H
 refine q1 (lA 2 3 H Z4 (xst 4 H Z8 ?_));intro _ H
 refine aG Z (q3 (W_ret (ret_gen (rs:=[.cell 4 32,.tmp 5]) (vs:=[_,_]) results141 ⟨⟨_,Z,load_blk 4 H isAgg32 sizeOf32 Z Z Z⟩,Z,trivial⟩ ?_)))
 have hzz:=Option.some.inj (hz21.symm.trans hz11);subst hzz
 obtain⟨_,H,hsg526,hsr526⟩:=H.shut' (k:=1) rfl hchk18 aN aN
 have hchk15:=hchk15.up hsg526
 have hchk22:=hchk22.up hsg526
 obtain⟨_,H,hsg527,hsr527⟩:=H.shut' (k:=0) rfl hchk22 aN aN
 have hchk15:=hchk15.up hsg527
 have hsr526:=hsr526.up hsg527
 have hY:Sp.SnapBack d name=some ⟨Sp.l12Free ((Sp.l12Keep d.store z21.tree).getD []) d.tree,z21.tree,d.snaps⟩:=by (obtain⟨_,hp⟩:=Option.isSome_iff_exists.1 hc13');(rw[Sp.back_eq (by simpa using hc6') hat hz21,hp];rfl)
 exact H.retO (k:=1) rfl (by rw[hY];exact⟨_,_,_,rfl,AccOf.mk aN hchk15,hsr526,hsr527⟩) (acc_nd _ _ _ _ _)
theorem DiskWrite_c (w0:World)(G0:PH)(hG:PSub G0 w0)(cd:List Value)(d:BDisk)(hd:diskE G0 d cd)(path:Bs)(hpath:path.length≤16777216)(vbytes:Value)(bytes:List (Int))(hbytes:RdI G0 vbytes bytes) :
  Calls Tryz.prog 142 #[.agg cd.toArray,str path,vbytes] w0 (RetO w0 G0 (fun G val r=>∃u u1 u2,val= .tuple #[.agg #[u,u1,u2],.bool (Sp.DiskWrite d path bytes).isSome]∧AccOf snapE 2 91 (((Sp.DiskWrite d path bytes).map (·.snaps)).getD []) G u2 r∧RdH G u (((Sp.DiskWrite d path bytes).map (·.store)).getD [])∧RdItems G u1 (((Sp.DiskWrite d path bytes).map (·.tree)).getD []))):=by
 obtain⟨_,_,_,_,_,_,_,_,_,rfl,hr1,hr1',hr1'',⟨_,_⟩,⟨_,_⟩,_,_⟩:=ox hd
 obtain⟨abytes,kbytes,rfl⟩:=hbytes.shape
 have hlimbytes:bytes.length≤1099511627776:=hbytes.lim
 have H:=Hp.init hG
 refine calls_of_W (l:=[_,str path,.slice abytes bytes.length kbytes]) func142 Z ntmps142 Z (q2 (o_box H Z Z Z ?_));intro _ _ _ H
 refine xal H Z ?_;intro _ _ _ H
 refine aG Z (q3 (W_seq (q2 (lA 1 3 H Z4 (xr H Z2 (DiskValid_c _ _ H.sub _ d ⟨_,_,_,_,_,_,_,_,_,Z,hr1,hr1',hr1''⟩) ?_)))));intro _ H
 refine pe 2 Z ?_
 refine R_case (t:=14) Z ?_ ?_
 ·intro hc5
  try simp only[nrm]at hc5
  refine pe 4 Z (q3 (W_true Z (q2 (o_build bf32 Z Z Z (xst 0 H Z8 ?_)))));intro _ H
  refine aG Z (q3 (W_ret (N_K_ret (ret_gen (rs:=[.cell 6 32,.tmp 7]) (vs:=[_,_]) results142 ⟨⟨_,Z,load_blk 0 H isAgg32 sizeOf32 Z Z Z⟩,Z,trivial⟩ ?_))))
  have hN:Sp.DiskWrite d path bytes=none:=by simp[Sp.DiskWrite,hc5]
  have H:=H.addNil 91 2
  exact H.retO (k:=0) rfl (by rw[hN];exact⟨_,_,_,rfl,AccOf.mk rfl Chk.nil,RdS.nil _ _ _,RdS.nil _ _ _⟩) (acc_nd _ _ _ _ _)
 intro hc5'
 try simp only[nrm]at hc5'
 refine pe 1 Z (gR Z (xr H Z2 (FileValid_c _ _ H.sub _ _ hbytes) ?_));intro _ H
 refine pe 2 Z (q3 ?_)
 refine W_cond Z ?_ ?_
 ·intro hc8
  try simp only[nrm]at hc8
  refine q2 (o_build bf32 Z Z Z (xst 0 H Z8 ?_));intro _ H
  refine aG Z (q3 (W_ret (N_K_ret (ret_gen (rs:=[.cell 6 32,.tmp 7]) (vs:=[_,_]) results142 ⟨⟨_,Z,load_blk 0 H isAgg32 sizeOf32 Z Z Z⟩,Z,trivial⟩ ?_))))
  have hN:Sp.DiskWrite d path bytes=none:=by simp[Sp.DiskWrite,hc8]
  have H:=H.addNil 91 2
  exact H.retO (k:=0) rfl (by rw[hN];exact⟨_,_,_,rfl,AccOf.mk rfl Chk.nil,RdS.nil _ _ _,RdS.nil _ _ _⟩) (acc_nd _ _ _ _ _)
 intro hc8'
 try simp only[nrm]at hc8'
 have hfl:=Sp.file_len hc8'
 refine W_skip (N_K (q2 (fA 0 Z (lB 1 H Z3 (fA 1 Z (lB 1 H Z3 (o_build bf143 Z Z Z (pe 2 Z (xc Z2 (l11Write_c _ _ H.sub _ ⟨d.store,d.tree⟩ ⟨_,_,_,_,_,_,Z,hr1,hr1'⟩ _ hpath _ _ hbytes oM) ?_)))))))))
 rintro _ _ ⟨_,_,_,g10,rfl,⟨_,_,rfl,⟨_,rfl,hchk10⟩,hr10_1⟩,hp10,hq10,hs10⟩
 have H:=H.growO g10 hp10 hq10 hs10;obtain⟨_,_,rfl⟩:=H.accShape (k:=0) rfl
 have hr1:=hr1.up g10.le
 have hr1':=hr1'.up g10.le
 have hr1'':=hr1''.up g10.le
 obtain⟨_,_,rfl⟩:=hr10_1.shape;have hx_hr10_1:_≤1099511627776:=hr10_1.lim
 refine⟨_,Z,?_⟩
 have hwl:=Sp.l11Write_slen ⟨d.store,d.tree⟩ path bytes
 refine pe 3 Z (xal H Z ?_);intro _ _ _ H
 refine xst 0 H Z8 ?_;intro _ H
 refine aG Z (q3 (W_seq (q2 (pe 2 Z (q3 ?_)))))
 refine W_cond Z ?_ ?_
 ·intro hc13
  try simp only[nrm]at hc13
  refine q2 (o_build bf32 Z Z Z (xst 2 H Z8 ?_));intro _ H
  refine aG Z (q3 (W_ret (N_K_ret (ret_gen (rs:=[.cell 6 32,.tmp 7]) (vs:=[_,_]) results142 ⟨⟨_,Z,load_blk 2 H isAgg32 sizeOf32 Z Z Z⟩,Z,trivial⟩ ?_))))
  have hN:Sp.DiskWrite d path bytes=none:=by (have hno:Sp.l11Write ⟨d.store,d.tree⟩ path bytes=none:=by simpa using hc13);simp[Sp.DiskWrite,hno]
  have H:=H.addNil 91 2
  exact H.retO (k:=0) rfl (by rw[hN];exact⟨_,_,_,rfl,AccOf.mk rfl Chk.nil,RdS.nil _ _ _,RdS.nil _ _ _⟩) (acc_nd _ _ _ _ _)
 intro hc13'
 try simp only[nrm]at hc13'
 refine W_skip (N_K (q2 (lA 3 3 H Z4 (xc Z2 (l12Copy_c _ _ H.sub _ d ⟨_,_,_,_,_,_,_,_,_,Z,hr1,hr1',hr1''⟩) ?_))))
 rintro _ _ ⟨_,_,_,g15,rfl,⟨_,_,_,rfl,⟨_,rfl,hchk15⟩,hr15_0,hr15_1⟩,hp15,hq15,hs15⟩
 have H:=H.growO g15 hp15 hq15 hs15;obtain⟨_,_,rfl⟩:=H.accShape (k:=0) rfl
 have hchk10:=hchk10.up g15.le
 have hr10_1:=hr10_1.up g15.le
 obtain⟨_,_,rfl⟩:=hr15_0.shape;have hx_hr15_0:_≤1099511627776:=hr15_0.lim
 obtain⟨_,_,rfl⟩:=hr15_1.shape;have hx_hr15_1:_≤1099511627776:=hr15_1.lim
 refine⟨_,Z,?_⟩
 refine xal H Z ?_;intro _ _ _ H
 refine xst 0 H Z8 ?_;intro _ H
 refine q1 (fA 0 Z (lB 2 H Z3 (fA 0 Z (xst 0 H Z8 ?_))));intro _ H
 refine q1 (fA 1 Z (lB 2 H Z3 (fA 1 Z (xst 0 H Z8 ?_))));intro _ H
 refine q1 (lA 0 3 H Z4 (xst 4 H Z8 ?_));intro _ H
 refine aG Z (q3 (W_ret (ret_gen (rs:=[.cell 6 32,.tmp 7]) (vs:=[_,_]) results142 ⟨⟨_,Z,load_blk 4 H isAgg32 sizeOf32 Z Z Z⟩,Z,trivial⟩ ?_)))
 obtain⟨_,H,hsg524,hsr524⟩:=H.shut' (k:=3) rfl hchk10 aN aN
 have hr10_1:=hr10_1.up hsg524
 have hchk15:=hchk15.up hsg524
 have hY:Sp.DiskWrite d path bytes=some ⟨((Sp.l11Write ⟨d.store,d.tree⟩ path bytes).map (·.store)).getD [],((Sp.l11Write ⟨d.store,d.tree⟩ path bytes).map (·.tree)).getD [],d.snaps⟩:=by (obtain⟨_,hp⟩:=Option.isSome_iff_exists.1 hc13');simp[Sp.DiskWrite,hc5',hc8',hp]
 exact H.retO (k:=1) rfl (by rw[hY];exact⟨_,_,_,rfl,AccOf.mk aN hchk15,hsr524,hr10_1⟩) (acc_nd _ _ _ _ _)
theorem SnapBackP_c (w0:World)(G0:PH)(hG:PSub G0 w0)(cd:List Value)(d:BDisk)(hd:diskE G0 d cd)(name:Bs)(hname:name.length≤16777216) :
  Calls Tryz.prog 141 #[.agg cd.toArray,str name] w0 (RetP w0 G0 (fun G val=>∃cs,val= .tuple #[.agg cs.toArray,.bool (Sp.SnapBack d name).isSome]∧diskE G ((Sp.SnapBack d name).getD ⟨[],[],[]⟩) cs)):=by
 refine(SnapBack_c w0 G0 hG cd d hd name hname).mono ?_
 rintro _ _ ⟨_,_,_,g,rfl,⟨_,_,_,rfl,⟨_,rfl,hchk⟩,h1,h2⟩,hp,hq,hs⟩
 have H:=(Hp.init hG).growO g hp hq hs
 have hb:(((Sp.SnapBack d name).map (·.snaps)).getD []).length≤6:=Sp.dk_lim (fun d1 h=>Sp.back_valid h)
 obtain⟨_,H2,hle,hr⟩:=H.shut' (k:=0) rfl hchk rfl oM
 have e1:((Sp.SnapBack d name).map (·.store)).getD []=((Sp.SnapBack d name).getD ⟨[],[],[]⟩).store:=by cases Sp.SnapBack d name<;>rfl
 have e2:((Sp.SnapBack d name).map (·.tree)).getD []=((Sp.SnapBack d name).getD ⟨[],[],[]⟩).tree:=by cases Sp.SnapBack d name<;>rfl
 have e3:((Sp.SnapBack d name).map (·.snaps)).getD []=((Sp.SnapBack d name).getD ⟨[],[],[]⟩).snaps:=by cases Sp.SnapBack d name<;>rfl
 rw[e1]at h1;rw[e2]at h2;rw[e3]at hr
 obtain⟨_,_,rfl⟩:=h1.shape
 obtain⟨_,_,rfl⟩:=h2.shape
 obtain⟨_,_,rfl⟩:=hr.shape
 exact H2.retP ⟨[_,_,_],Z,_,_,_,_,_,_,_,_,_,Z,h1.up hle,h2.up hle,hr⟩
theorem DiskWriteP_c (w0:World)(G0:PH)(hG:PSub G0 w0)(cd:List Value)(d:BDisk)(hd:diskE G0 d cd)(path:Bs)(hpath:path.length≤16777216)(vbytes:Value)(bytes:List Int)(hbytes:RdI G0 vbytes bytes) :
  Calls Tryz.prog 142 #[.agg cd.toArray,str path,vbytes] w0 (RetP w0 G0 (fun G val=>∃cs,val= .tuple #[.agg cs.toArray,.bool (Sp.DiskWrite d path bytes).isSome]∧diskE G ((Sp.DiskWrite d path bytes).getD ⟨[],[],[]⟩) cs)):=by
 refine(DiskWrite_c w0 G0 hG cd d hd path hpath vbytes bytes hbytes).mono ?_
 rintro _ _ ⟨_,_,_,g,rfl,⟨_,_,_,rfl,⟨_,rfl,hchk⟩,h1,h2⟩,hp,hq,hs⟩
 have H:=(Hp.init hG).growO g hp hq hs
 have hb:(((Sp.DiskWrite d path bytes).map (·.snaps)).getD []).length≤6:=Sp.dk_lim (fun d1 h=>Sp.dwrite_valid h)
 obtain⟨_,H2,hle,hr⟩:=H.shut' (k:=0) rfl hchk rfl oM
 have e1:((Sp.DiskWrite d path bytes).map (·.store)).getD []=((Sp.DiskWrite d path bytes).getD ⟨[],[],[]⟩).store:=by cases Sp.DiskWrite d path bytes<;>rfl
 have e2:((Sp.DiskWrite d path bytes).map (·.tree)).getD []=((Sp.DiskWrite d path bytes).getD ⟨[],[],[]⟩).tree:=by cases Sp.DiskWrite d path bytes<;>rfl
 have e3:((Sp.DiskWrite d path bytes).map (·.snaps)).getD []=((Sp.DiskWrite d path bytes).getD ⟨[],[],[]⟩).snaps:=by cases Sp.DiskWrite d path bytes<;>rfl
 rw[e1]at h1;rw[e2]at h2;rw[e3]at hr
 obtain⟨_,_,rfl⟩:=h1.shape
 obtain⟨_,_,rfl⟩:=h2.shape
 obtain⟨_,_,rfl⟩:=hr.shape
 exact H2.retP ⟨[_,_,_],Z,_,_,_,_,_,_,_,_,_,Z,h1.up hle,h2.up hle,hr⟩
theorem l91Turn_c (w0:World)(G0:PH)(hG:PSub G0 w0)(rb:Nat)(ab:Option Addr)(mb kb:Nat)(bs:List UInt8)(p:Nat)(hbs:RdU G0 (.slice ab mb kb) bs)(hrb:w0.heap[rb]? = some (cl [.slice ab mb kb,.int .i64 (p:Int)] 141))(hrn:G0 rb=none)(hp:p≤100000000)(cd:List Value)(d:BDisk)(hd:diskE G0 d cd) :
  Calls Tryz.prog 97 #[.pointer (some ⟨rb,0,none⟩),.agg cd.toArray] w0 (RetM w0 G0 [rb] (fun G val Bs=>∃(p':Nat) (v1 v2 v3:Value) (st:List BHeld) (tr:List BItem) (sn:List BSnap) (b:Bool),p'≤p+200∧val= .tuple #[.agg #[v1,v2,v3],.bool b]∧RdH G v1 st∧RdItems G v2 tr∧RdSn G v3 sn∧Bs=[blk rb (cl [.slice ab mb kb,.int .i64 (p':Int)] 141)])):=by
 have hlimbs:bs.length≤1099511627776:=hbs.lim;obtain rfl:mb=bs.length:=hbs.len
 obtain⟨_,_,_,_,_,_,_,_,_,rfl,hr1,hr1',hr1'',⟨_,_⟩,⟨_,_⟩,_,_⟩:=ox hd
 have H:=Hp.initM hG hrb hrn
 refine calls_of_W (l:=[.pointer (some ⟨rb,0,none⟩),_]) func97 Z ntmps97 Z (q2 (o_box H Z Z Z ?_));intro _ _ _ H
 refine xal H Z ?_;intro _ _ _ H
 refine aG Z (q3 (W_seq (q2 (mV Z (xc Z2 (pick_c _ _ H.sub _ _ _ _ _ _ hbs (H.blkIs (k:=2) Z).1 (H.blkIs (k:=2) Z).2 oM _ oO) ?_)))))
 rintro _ _ ⟨G4,_,_,rfl,H4',⟨_,_,_,rfl,_,rfl⟩⟩
 have hbs:=hbs.up H4'.le
 have hr1:=hr1.up H4'.le
 have hr1':=hr1'.up H4'.le
 have hr1'':=hr1''.up H4'.le
 have H:=H.borrow (k:=2) rfl H4'
 refine⟨_,Z,?_⟩
 refine q3 (W_block (W_seq (q2 (pe 2 Z (q3 ?_)))))
 refine W_cond Z ?_ ?_
 ·intro hc5
  try simp only[nrm]at hc5
  refine W_skip (N_K ?_)
  refine W_cond Z ?_ ?_
  ·intro hc6
   try simp only[nrm]at hc6
   refine W_seq (W_drawK [2] 9 H kR Z ?_);intro _ H;have hd7:=PLe.refl G4
   refine RD_t 0 Z kR Z (fun _ hK=>v_loadagg_B 0 hK isAgg32 sizeOf32 Z Z Z Z) (dE 1 Z2 (r1 2 Z (xbs H Z7 ?_)));intro _ _ _ H
   refine q4 H hd7 (r1 3 Z ?_)
   have H:=H.blkAcc 1 (k:=0) (n:=3) rfl rfl (by decide)
   have hchk10:=((((Chk.nil (E:=strE) (sz:=1) (G:=G4)).snoc (show strE _ ([115]:Fw.Bs) [str [115]] from⟨rfl,by decide⟩) rfl).snoc (show strE _ ([116]:Fw.Bs) [str [116]] from⟨rfl,by decide⟩) rfl).snoc (show strE _ ([117]:Fw.Bs) [str [117]] from⟨rfl,by decide⟩) rfl)
   obtain⟨_,H,hsg11,hsr11⟩:=H.shutM (k:=0) (j:=0) rfl rfl hchk10 aN aN
   have hbs:=hbs.up hsg11
   have hr1:=hr1.up hsg11
   have hr1':=hr1'.up hsg11
   have hr1'':=hr1''.up hsg11
   have hd7:=hd7.trans hsg11
   refine xc Z2 (of_c _ _ H.sub _ _ _ _ _ _ hbs (H.blkIs (k:=0) Z).1 (H.blkIs (k:=0) Z).2 oM _ _ hsr11 (by first|decide|(simp;done)|(simp;omega))) ?_
   rintro _ _ ⟨_,_,_,rfl,H9',⟨_,_,_,rfl,hxs9,rfl⟩⟩
   have hr1:=hr1.up H9'.le
   have hr1':=hr1'.up H9'.le
   have hr1'':=hr1''.up H9'.le
   have hd7:=hd7.trans H9'.le
   have H:=H.borrow (k:=0) rfl H9'
   refine⟨_,Z,?_⟩
   refine q4 H hd7 (r1 4 Z (xc Z2 (SnapTakeP_c _ _ H.sub _ d ⟨_,_,_,_,_,_,_,_,_,Z,hr1,hr1',hr1''⟩ _ hxs9) ?_))
   rintro _ _ ⟨_,_,g12,rfl,_,rfl,hr12_0⟩
   have H:=H.grow g12
   have hd7:=hd7.trans g12.le
   obtain⟨_,_,_,_,_,_,_,_,_,rfl,hr13,hr13',hr13'',⟨_,_⟩,⟨_,_⟩,_,_⟩:=ox hr12_0
   refine⟨_,Z,?_⟩
   refine q4 H hd7 (dE 5 Z2 (dE 6 Z2 (r1 7 Z (xst 1 H Z8 ?_))));intro _ H
   refine q4 H hd7 (dE 8 Z2 (rz (N_K (W_ret (N_B_ret (N_K_ret (ret_gen (rs:=[.cell 4 32,.tmp 5]) (vs:=[_,_]) results97 ⟨⟨_,Z,load_blk 1 H isAgg32 sizeOf32 Z Z Z⟩,Z,trivial⟩ ?_)))))))
   have H:=H.dl 1
   have H:=H.dl 1
   exact H.retM ⟨_,_,_,_,_,_,_,_,oM,Z,hr13,hr13',hr13'',Z⟩
  intro hc6'
  try simp only[nrm]at hc6'
  refine q2 (pe 2 Z (q3 ?_))
  refine W_cond Z ?_ ?_
  ·intro hc15
   try simp only[nrm]at hc15
   refine W_seq (W_drawK [2] 9 H kR Z ?_);intro _ H;have hd16:=PLe.refl G4
   refine RD_t 0 Z kR Z (fun _ hK=>v_loadagg_B 0 hK isAgg32 sizeOf32 Z Z Z Z) (dE 1 Z2 (r1 2 Z (xbs H Z7 ?_)));intro _ _ _ H
   refine q4 H hd16 (r1 3 Z ?_)
   have H:=H.blkAcc 1 (k:=0) (n:=2) rfl rfl (by decide)
   have hchk19:=(((Chk.nil (E:=strE) (sz:=1) (G:=G4)).snoc (show strE _ ([115]:Fw.Bs) [str [115]] from⟨rfl,by decide⟩) rfl).snoc (show strE _ ([116]:Fw.Bs) [str [116]] from⟨rfl,by decide⟩) rfl)
   obtain⟨_,H,hsg20,hsr20⟩:=H.shutM (k:=0) (j:=0) rfl rfl hchk19 aN aN
   have hbs:=hbs.up hsg20
   have hr1:=hr1.up hsg20
   have hr1':=hr1'.up hsg20
   have hr1'':=hr1''.up hsg20
   have hd16:=hd16.trans hsg20
   refine xc Z2 (of_c _ _ H.sub _ _ _ _ _ _ hbs (H.blkIs (k:=0) Z).1 (H.blkIs (k:=0) Z).2 oM _ _ hsr20 (by first|decide|(simp;done)|(simp;omega))) ?_
   rintro _ _ ⟨_,_,_,rfl,H18',⟨_,_,_,rfl,hxs18,rfl⟩⟩
   have hr1:=hr1.up H18'.le
   have hr1':=hr1'.up H18'.le
   have hr1'':=hr1''.up H18'.le
   have hd16:=hd16.trans H18'.le
   have H:=H.borrow (k:=0) rfl H18'
   refine⟨_,Z,?_⟩
   refine q4 H hd16 (r1 4 Z (xc Z2 (SnapBackP_c _ _ H.sub _ d ⟨_,_,_,_,_,_,_,_,_,Z,hr1,hr1',hr1''⟩ _ hxs18) ?_))
   rintro _ _ ⟨_,_,g21,rfl,_,rfl,hr21_0⟩
   have H:=H.grow g21
   have hd16:=hd16.trans g21.le
   obtain⟨_,_,_,_,_,_,_,_,_,rfl,hr22,hr22',hr22'',⟨_,_⟩,⟨_,_⟩,_,_⟩:=ox hr21_0
   refine⟨_,Z,?_⟩
   refine q4 H hd16 (dE 5 Z2 (dE 6 Z2 (r1 7 Z (xst 1 H Z8 ?_))));intro _ H
   refine q4 H hd16 (dE 8 Z2 (rz (N_K (W_ret (N_B_ret (N_K_ret (ret_gen (rs:=[.cell 4 32,.tmp 5]) (vs:=[_,_]) results97 ⟨⟨_,Z,load_blk 1 H isAgg32 sizeOf32 Z Z Z⟩,Z,trivial⟩ ?_)))))))
   have H:=H.dl 1
   have H:=H.dl 1
   exact H.retM ⟨_,_,_,_,_,_,_,_,oM,Z,hr22,hr22',hr22'',Z⟩
  intro hc15'
  try simp only[nrm]at hc15'
  refine W_skip (N_B (N_K (q2 (mV Z (xbs H Z7 ?_)))));intro _ _ _ H
  have H:=H.blkAcc 1 (k:=0) (n:=5) rfl rfl (by decide)
  have hchk26:=((((((Chk.nil (E:=strE) (sz:=1) (G:=G4)).snoc (show strE _ ([99]:Fw.Bs) [str [99]] from⟨rfl,by decide⟩) rfl).snoc (show strE _ ([97,47,121]:Fw.Bs) [str [97,47,121]] from⟨rfl,by decide⟩) rfl).snoc (show strE _ ([98,47,120]:Fw.Bs) [str [98,47,120]] from⟨rfl,by decide⟩) rfl).snoc (show strE _ ([97,47,120,47,112]:Fw.Bs) [str [97,47,120,47,112]] from⟨rfl,by decide⟩) rfl).snoc (show strE _ ([100]:Fw.Bs) [str [100]] from⟨rfl,by decide⟩) rfl)
  obtain⟨_,H,hsg27,hsr27⟩:=H.shutM (k:=0) (j:=0) rfl rfl hchk26 aN aN
  have hbs:=hbs.up hsg27
  have hr1:=hr1.up hsg27
  have hr1':=hr1'.up hsg27
  have hr1'':=hr1''.up hsg27
  refine xc Z2 (of_c _ _ H.sub _ _ _ _ _ _ hbs (H.blkIs (k:=0) Z).1 (H.blkIs (k:=0) Z).2 oM _ _ hsr27 (by first|decide|(simp;done)|(simp;omega))) ?_
  rintro _ _ ⟨G25,_,_,rfl,H25',⟨_,_,_,rfl,hxs25,rfl⟩⟩
  have hbs:=hbs.up H25'.le
  have hr1:=hr1.up H25'.le
  have hr1':=hr1'.up H25'.le
  have hr1'':=hr1''.up H25'.le
  have H:=H.borrow (k:=0) rfl H25'
  refine⟨_,Z,?_⟩
  refine aG Z (q3 (W_seq (W_drawK [2] 9 H kR Z ?_)));intro _ H;have hd28:=PLe.refl G25
  refine RD_t 0 Z kR Z (fun _ hK=>v_loadagg_B 0 hK isAgg32 sizeOf32 Z Z Z Z) (dE 1 Z2 (dE 2 Z2 (r1 3 Z (xc Z2 (l91File_c _ _ H.sub _ _ _ _ _ _ hbs (H.blkIs (k:=0) Z).1 (H.blkIs (k:=0) Z).2 oM) ?_))))
  rintro _ _ ⟨_,_,_,rfl,H29',⟨_,_,_,_,_,rfl,hchk29,_,rfl⟩⟩
  have hr1:=hr1.up H29'.le
  have hr1':=hr1'.up H29'.le
  have hr1'':=hr1''.up H29'.le
  have hd28:=hd28.trans H29'.le
  have H:=H.borrow (k:=0) rfl H29'
  obtain⟨_,_,rfl⟩:=H.accShape (k:=0) rfl
  refine⟨_,Z,?_⟩
  refine q4 H hd28 (r1 4 Z ?_)
  obtain⟨_,H,hsg31,hsr31⟩:=H.shutM (k:=0) (j:=0) rfl rfl hchk29 aN aN
  have hr1:=hr1.up hsg31
  have hr1':=hr1'.up hsg31
  have hr1'':=hr1''.up hsg31
  have hd28:=hd28.trans hsg31
  refine xc Z2 (DiskWriteP_c _ _ H.sub _ d ⟨_,_,_,_,_,_,_,_,_,Z,hr1,hr1',hr1''⟩ _ hxs25 _ _ hsr31) ?_
  rintro _ _ ⟨_,_,g30,rfl,_,rfl,hr30_0⟩
  have H:=H.grow g30
  have hd28:=hd28.trans g30.le
  obtain⟨_,_,_,_,_,_,_,_,_,rfl,hr32,hr32',hr32'',⟨_,_⟩,⟨_,_⟩,_,_⟩:=ox hr30_0
  refine⟨_,Z,?_⟩
  refine q4 H hd28 (dE 5 Z2 (dE 6 Z2 (r1 7 Z (xst 1 H Z8 ?_))));intro _ H
  refine q4 H hd28 (dE 8 Z2 (rz (N_K (W_ret (ret_gen (rs:=[.cell 4 32,.tmp 5]) (vs:=[_,_]) results97 ⟨⟨_,Z,load_blk 1 H isAgg32 sizeOf32 Z Z Z⟩,Z,trivial⟩ ?_)))))
  have H:=H.dl 1
  have H:=H.dl 1
  exact H.retM ⟨_,_,_,_,_,_,_,_,oM,Z,hr32,hr32',hr32'',Z⟩
 intro hc5'
 try simp only[nrm]at hc5'
 refine q2 (pe 2 Z (q3 ?_))
 refine W_cond Z ?_ ?_
 ·intro hc34
  try simp only[nrm]at hc34
  refine W_skip (N_K ?_)
  refine W_cond Z ?_ ?_
  ·intro hc35
   try simp only[nrm]at hc35
   refine W_seq (W_drawK [2] 9 H kR Z ?_);intro _ H;have hd36:=PLe.refl G4
   refine RD_t 0 Z kR Z (fun _ hK=>v_loadagg_B 0 hK isAgg32 sizeOf32 Z Z Z Z) (dE 1 Z2 (r1 2 Z (xbs H Z7 ?_)));intro _ _ _ H
   refine q4 H hd36 (r1 3 Z ?_)
   have H:=H.blkAcc 1 (k:=0) (n:=3) rfl rfl (by decide)
   have hchk39:=((((Chk.nil (E:=strE) (sz:=1) (G:=G4)).snoc (show strE _ ([115]:Fw.Bs) [str [115]] from⟨rfl,by decide⟩) rfl).snoc (show strE _ ([116]:Fw.Bs) [str [116]] from⟨rfl,by decide⟩) rfl).snoc (show strE _ ([117]:Fw.Bs) [str [117]] from⟨rfl,by decide⟩) rfl)
   obtain⟨_,H,hsg40,hsr40⟩:=H.shutM (k:=0) (j:=0) rfl rfl hchk39 aN aN
   have hbs:=hbs.up hsg40
   have hr1:=hr1.up hsg40
   have hr1':=hr1'.up hsg40
   have hr1'':=hr1''.up hsg40
   have hd36:=hd36.trans hsg40
   refine xc Z2 (of_c _ _ H.sub _ _ _ _ _ _ hbs (H.blkIs (k:=0) Z).1 (H.blkIs (k:=0) Z).2 oM _ _ hsr40 (by first|decide|(simp;done)|(simp;omega))) ?_
   rintro _ _ ⟨_,_,_,rfl,H38',⟨_,_,_,rfl,hxs38,rfl⟩⟩
   have hr1:=hr1.up H38'.le
   have hr1':=hr1'.up H38'.le
   have hr1'':=hr1''.up H38'.le
   have hd36:=hd36.trans H38'.le
   have H:=H.borrow (k:=0) rfl H38'
   refine⟨_,Z,?_⟩
   refine q4 H hd36 (r1 4 Z (xc Z2 (SnapTakeP_c _ _ H.sub _ d ⟨_,_,_,_,_,_,_,_,_,Z,hr1,hr1',hr1''⟩ _ hxs38) ?_))
   rintro _ _ ⟨_,_,g41,rfl,_,rfl,hr41_0⟩
   have H:=H.grow g41
   have hd36:=hd36.trans g41.le
   obtain⟨_,_,_,_,_,_,_,_,_,rfl,hr42,hr42',hr42'',⟨_,_⟩,⟨_,_⟩,_,_⟩:=ox hr41_0
   refine⟨_,Z,?_⟩
   refine q4 H hd36 (dE 5 Z2 (dE 6 Z2 (r1 7 Z (xst 1 H Z8 ?_))));intro _ H
   refine q4 H hd36 (dE 8 Z2 (rz (N_K (W_ret (N_B_ret (N_K_ret (ret_gen (rs:=[.cell 4 32,.tmp 5]) (vs:=[_,_]) results97 ⟨⟨_,Z,load_blk 1 H isAgg32 sizeOf32 Z Z Z⟩,Z,trivial⟩ ?_)))))))
   have H:=H.dl 1
   have H:=H.dl 1
   exact H.retM ⟨_,_,_,_,_,_,_,_,oM,Z,hr42,hr42',hr42'',Z⟩
  intro hc35'
  try simp only[nrm]at hc35'
  refine q2 (pe 2 Z (q3 ?_))
  refine W_cond Z ?_ ?_
  ·intro hc44
   try simp only[nrm]at hc44
   refine W_seq (W_drawK [2] 9 H kR Z ?_);intro _ H;have hd45:=PLe.refl G4
   refine RD_t 0 Z kR Z (fun _ hK=>v_loadagg_B 0 hK isAgg32 sizeOf32 Z Z Z Z) (dE 1 Z2 (r1 2 Z (xbs H Z7 ?_)));intro _ _ _ H
   refine q4 H hd45 (r1 3 Z ?_)
   have H:=H.blkAcc 1 (k:=0) (n:=2) rfl rfl (by decide)
   have hchk48:=(((Chk.nil (E:=strE) (sz:=1) (G:=G4)).snoc (show strE _ ([115]:Fw.Bs) [str [115]] from⟨rfl,by decide⟩) rfl).snoc (show strE _ ([116]:Fw.Bs) [str [116]] from⟨rfl,by decide⟩) rfl)
   obtain⟨_,H,hsg49,hsr49⟩:=H.shutM (k:=0) (j:=0) rfl rfl hchk48 aN aN
   have hbs:=hbs.up hsg49
   have hr1:=hr1.up hsg49
   have hr1':=hr1'.up hsg49
   have hr1'':=hr1''.up hsg49
   have hd45:=hd45.trans hsg49
   refine xc Z2 (of_c _ _ H.sub _ _ _ _ _ _ hbs (H.blkIs (k:=0) Z).1 (H.blkIs (k:=0) Z).2 oM _ _ hsr49 (by first|decide|(simp;done)|(simp;omega))) ?_
   rintro _ _ ⟨_,_,_,rfl,H47',⟨_,_,_,rfl,hxs47,rfl⟩⟩
   have hr1:=hr1.up H47'.le
   have hr1':=hr1'.up H47'.le
   have hr1'':=hr1''.up H47'.le
   have hd45:=hd45.trans H47'.le
   have H:=H.borrow (k:=0) rfl H47'
   refine⟨_,Z,?_⟩
   refine q4 H hd45 (r1 4 Z (xc Z2 (SnapBackP_c _ _ H.sub _ d ⟨_,_,_,_,_,_,_,_,_,Z,hr1,hr1',hr1''⟩ _ hxs47) ?_))
   rintro _ _ ⟨_,_,g50,rfl,_,rfl,hr50_0⟩
   have H:=H.grow g50
   have hd45:=hd45.trans g50.le
   obtain⟨_,_,_,_,_,_,_,_,_,rfl,hr51,hr51',hr51'',⟨_,_⟩,⟨_,_⟩,_,_⟩:=ox hr50_0
   refine⟨_,Z,?_⟩
   refine q4 H hd45 (dE 5 Z2 (dE 6 Z2 (r1 7 Z (xst 1 H Z8 ?_))));intro _ H
   refine q4 H hd45 (dE 8 Z2 (rz (N_K (W_ret (N_B_ret (N_K_ret (ret_gen (rs:=[.cell 4 32,.tmp 5]) (vs:=[_,_]) results97 ⟨⟨_,Z,load_blk 1 H isAgg32 sizeOf32 Z Z Z⟩,Z,trivial⟩ ?_)))))))
   have H:=H.dl 1
   have H:=H.dl 1
   exact H.retM ⟨_,_,_,_,_,_,_,_,oM,Z,hr51,hr51',hr51'',Z⟩
  intro hc44'
  try simp only[nrm]at hc44'
  refine W_skip (N_B (N_K (q2 (mV Z (xbs H Z7 ?_)))));intro _ _ _ H
  have H:=H.blkAcc 1 (k:=0) (n:=5) rfl rfl (by decide)
  have hchk55:=((((((Chk.nil (E:=strE) (sz:=1) (G:=G4)).snoc (show strE _ ([99]:Fw.Bs) [str [99]] from⟨rfl,by decide⟩) rfl).snoc (show strE _ ([97,47,121]:Fw.Bs) [str [97,47,121]] from⟨rfl,by decide⟩) rfl).snoc (show strE _ ([98,47,120]:Fw.Bs) [str [98,47,120]] from⟨rfl,by decide⟩) rfl).snoc (show strE _ ([97,47,120,47,112]:Fw.Bs) [str [97,47,120,47,112]] from⟨rfl,by decide⟩) rfl).snoc (show strE _ ([100]:Fw.Bs) [str [100]] from⟨rfl,by decide⟩) rfl)
  obtain⟨_,H,hsg56,hsr56⟩:=H.shutM (k:=0) (j:=0) rfl rfl hchk55 aN aN
  have hbs:=hbs.up hsg56
  have hr1:=hr1.up hsg56
  have hr1':=hr1'.up hsg56
  have hr1'':=hr1''.up hsg56
  refine xc Z2 (of_c _ _ H.sub _ _ _ _ _ _ hbs (H.blkIs (k:=0) Z).1 (H.blkIs (k:=0) Z).2 oM _ _ hsr56 (by first|decide|(simp;done)|(simp;omega))) ?_
  rintro _ _ ⟨G54,_,_,rfl,H54',⟨_,_,_,rfl,hxs54,rfl⟩⟩
  have hbs:=hbs.up H54'.le
  have hr1:=hr1.up H54'.le
  have hr1':=hr1'.up H54'.le
  have hr1'':=hr1''.up H54'.le
  have H:=H.borrow (k:=0) rfl H54'
  refine⟨_,Z,?_⟩
  refine aG Z (q3 (W_seq (W_drawK [2] 9 H kR Z ?_)));intro _ H;have hd57:=PLe.refl G54
  refine RD_t 0 Z kR Z (fun _ hK=>v_loadagg_B 0 hK isAgg32 sizeOf32 Z Z Z Z) (dE 1 Z2 (dE 2 Z2 (r1 3 Z (xc Z2 (l91File_c _ _ H.sub _ _ _ _ _ _ hbs (H.blkIs (k:=0) Z).1 (H.blkIs (k:=0) Z).2 oM) ?_))))
  rintro _ _ ⟨_,_,_,rfl,H58',⟨_,_,_,_,_,rfl,hchk58,_,rfl⟩⟩
  have hr1:=hr1.up H58'.le
  have hr1':=hr1'.up H58'.le
  have hr1'':=hr1''.up H58'.le
  have hd57:=hd57.trans H58'.le
  have H:=H.borrow (k:=0) rfl H58'
  obtain⟨_,_,rfl⟩:=H.accShape (k:=0) rfl
  refine⟨_,Z,?_⟩
  refine q4 H hd57 (r1 4 Z ?_)
  obtain⟨_,H,hsg60,hsr60⟩:=H.shutM (k:=0) (j:=0) rfl rfl hchk58 aN aN
  have hr1:=hr1.up hsg60
  have hr1':=hr1'.up hsg60
  have hr1'':=hr1''.up hsg60
  have hd57:=hd57.trans hsg60
  refine xc Z2 (DiskWriteP_c _ _ H.sub _ d ⟨_,_,_,_,_,_,_,_,_,Z,hr1,hr1',hr1''⟩ _ hxs54 _ _ hsr60) ?_
  rintro _ _ ⟨_,_,g59,rfl,_,rfl,hr59_0⟩
  have H:=H.grow g59
  have hd57:=hd57.trans g59.le
  obtain⟨_,_,_,_,_,_,_,_,_,rfl,hr61,hr61',hr61'',⟨_,_⟩,⟨_,_⟩,_,_⟩:=ox hr59_0
  refine⟨_,Z,?_⟩
  refine q4 H hd57 (dE 5 Z2 (dE 6 Z2 (r1 7 Z (xst 1 H Z8 ?_))));intro _ H
  refine q4 H hd57 (dE 8 Z2 (rz (N_K (W_ret (ret_gen (rs:=[.cell 4 32,.tmp 5]) (vs:=[_,_]) results97 ⟨⟨_,Z,load_blk 1 H isAgg32 sizeOf32 Z Z Z⟩,Z,trivial⟩ ?_)))))
  have H:=H.dl 1
  have H:=H.dl 1
  exact H.retM ⟨_,_,_,_,_,_,_,_,oM,Z,hr61,hr61',hr61'',Z⟩
 intro hc34'
 try simp only[nrm]at hc34'
 refine W_region (pe 2 Z (q3 ?_))
 refine W_cond Z ?_ ?_
 ·intro hc63
  try simp only[nrm]at hc63
  refine W_seq (W_drawK [2] 9 H kR Z ?_);intro _ H;have hd64:=PLe.refl G4
  refine RD_t 0 Z kR Z (fun _ hK=>v_loadagg_B 0 hK isAgg32 sizeOf32 Z Z Z Z) (dE 1 Z2 (r1 2 Z (xbs H Z7 ?_)));intro _ _ _ H
  refine q4 H hd64 (r1 3 Z ?_)
  have H:=H.blkAcc 1 (k:=0) (n:=3) rfl rfl (by decide)
  have hchk67:=((((Chk.nil (E:=strE) (sz:=1) (G:=G4)).snoc (show strE _ ([115]:Fw.Bs) [str [115]] from⟨rfl,by decide⟩) rfl).snoc (show strE _ ([116]:Fw.Bs) [str [116]] from⟨rfl,by decide⟩) rfl).snoc (show strE _ ([117]:Fw.Bs) [str [117]] from⟨rfl,by decide⟩) rfl)
  obtain⟨_,H,hsg68,hsr68⟩:=H.shutM (k:=0) (j:=0) rfl rfl hchk67 aN aN
  have hbs:=hbs.up hsg68
  have hr1:=hr1.up hsg68
  have hr1':=hr1'.up hsg68
  have hr1'':=hr1''.up hsg68
  have hd64:=hd64.trans hsg68
  refine xc Z2 (of_c _ _ H.sub _ _ _ _ _ _ hbs (H.blkIs (k:=0) Z).1 (H.blkIs (k:=0) Z).2 oM _ _ hsr68 (by first|decide|(simp;done)|(simp;omega))) ?_
  rintro _ _ ⟨_,_,_,rfl,H66',⟨_,_,_,rfl,hxs66,rfl⟩⟩
  have hr1:=hr1.up H66'.le
  have hr1':=hr1'.up H66'.le
  have hr1'':=hr1''.up H66'.le
  have hd64:=hd64.trans H66'.le
  have H:=H.borrow (k:=0) rfl H66'
  refine⟨_,Z,?_⟩
  refine q4 H hd64 (r1 4 Z (xc Z2 (SnapTakeP_c _ _ H.sub _ d ⟨_,_,_,_,_,_,_,_,_,Z,hr1,hr1',hr1''⟩ _ hxs66) ?_))
  rintro _ _ ⟨_,_,g69,rfl,_,rfl,hr69_0⟩
  have H:=H.grow g69
  have hd64:=hd64.trans g69.le
  obtain⟨_,_,_,_,_,_,_,_,_,rfl,hr70,hr70',hr70'',⟨_,_⟩,⟨_,_⟩,_,_⟩:=ox hr69_0
  refine⟨_,Z,?_⟩
  refine q4 H hd64 (dE 5 Z2 (dE 6 Z2 (r1 7 Z (xst 1 H Z8 ?_))));intro _ H
  refine q4 H hd64 (dE 8 Z2 (rz (N_K (W_ret (N_B_ret (N_K_ret (ret_gen (rs:=[.cell 4 32,.tmp 5]) (vs:=[_,_]) results97 ⟨⟨_,Z,load_blk 1 H isAgg32 sizeOf32 Z Z Z⟩,Z,trivial⟩ ?_)))))))
  have H:=H.dl 1
  have H:=H.dl 1
  exact H.retM ⟨_,_,_,_,_,_,_,_,oM,Z,hr70,hr70',hr70'',Z⟩
 intro hc63'
 try simp only[nrm]at hc63'
 refine q2 (pe 2 Z (q3 ?_))
 refine W_cond Z ?_ ?_
 ·intro hc72
  try simp only[nrm]at hc72
  refine W_seq (W_drawK [2] 9 H kR Z ?_);intro _ H;have hd73:=PLe.refl G4
  refine RD_t 0 Z kR Z (fun _ hK=>v_loadagg_B 0 hK isAgg32 sizeOf32 Z Z Z Z) (dE 1 Z2 (r1 2 Z (xbs H Z7 ?_)));intro _ _ _ H
  refine q4 H hd73 (r1 3 Z ?_)
  have H:=H.blkAcc 1 (k:=0) (n:=2) rfl rfl (by decide)
  have hchk76:=(((Chk.nil (E:=strE) (sz:=1) (G:=G4)).snoc (show strE _ ([115]:Fw.Bs) [str [115]] from⟨rfl,by decide⟩) rfl).snoc (show strE _ ([116]:Fw.Bs) [str [116]] from⟨rfl,by decide⟩) rfl)
  obtain⟨_,H,hsg77,hsr77⟩:=H.shutM (k:=0) (j:=0) rfl rfl hchk76 aN aN
  have hbs:=hbs.up hsg77
  have hr1:=hr1.up hsg77
  have hr1':=hr1'.up hsg77
  have hr1'':=hr1''.up hsg77
  have hd73:=hd73.trans hsg77
  refine xc Z2 (of_c _ _ H.sub _ _ _ _ _ _ hbs (H.blkIs (k:=0) Z).1 (H.blkIs (k:=0) Z).2 oM _ _ hsr77 (by first|decide|(simp;done)|(simp;omega))) ?_
  rintro _ _ ⟨_,_,_,rfl,H75',⟨_,_,_,rfl,hxs75,rfl⟩⟩
  have hr1:=hr1.up H75'.le
  have hr1':=hr1'.up H75'.le
  have hr1'':=hr1''.up H75'.le
  have hd73:=hd73.trans H75'.le
  have H:=H.borrow (k:=0) rfl H75'
  refine⟨_,Z,?_⟩
  refine q4 H hd73 (r1 4 Z (xc Z2 (SnapBackP_c _ _ H.sub _ d ⟨_,_,_,_,_,_,_,_,_,Z,hr1,hr1',hr1''⟩ _ hxs75) ?_))
  rintro _ _ ⟨_,_,g78,rfl,_,rfl,hr78_0⟩
  have H:=H.grow g78
  have hd73:=hd73.trans g78.le
  obtain⟨_,_,_,_,_,_,_,_,_,rfl,hr79,hr79',hr79'',⟨_,_⟩,⟨_,_⟩,_,_⟩:=ox hr78_0
  refine⟨_,Z,?_⟩
  refine q4 H hd73 (dE 5 Z2 (dE 6 Z2 (r1 7 Z (xst 1 H Z8 ?_))));intro _ H
  refine q4 H hd73 (dE 8 Z2 (rz (N_K (W_ret (N_B_ret (N_K_ret (ret_gen (rs:=[.cell 4 32,.tmp 5]) (vs:=[_,_]) results97 ⟨⟨_,Z,load_blk 1 H isAgg32 sizeOf32 Z Z Z⟩,Z,trivial⟩ ?_)))))))
  have H:=H.dl 1
  have H:=H.dl 1
  exact H.retM ⟨_,_,_,_,_,_,_,_,oM,Z,hr79,hr79',hr79'',Z⟩
 intro hc72'
 try simp only[nrm]at hc72'
 refine W_skip (N_B (N_K (q2 (mV Z (xbs H Z7 ?_)))));intro _ _ _ H
 have H:=H.blkAcc 1 (k:=0) (n:=5) rfl rfl (by decide)
 have hchk83:=((((((Chk.nil (E:=strE) (sz:=1) (G:=G4)).snoc (show strE _ ([99]:Fw.Bs) [str [99]] from⟨rfl,by decide⟩) rfl).snoc (show strE _ ([97,47,121]:Fw.Bs) [str [97,47,121]] from⟨rfl,by decide⟩) rfl).snoc (show strE _ ([98,47,120]:Fw.Bs) [str [98,47,120]] from⟨rfl,by decide⟩) rfl).snoc (show strE _ ([97,47,120,47,112]:Fw.Bs) [str [97,47,120,47,112]] from⟨rfl,by decide⟩) rfl).snoc (show strE _ ([100]:Fw.Bs) [str [100]] from⟨rfl,by decide⟩) rfl)
 obtain⟨_,H,hsg84,hsr84⟩:=H.shutM (k:=0) (j:=0) rfl rfl hchk83 aN aN
 have hbs:=hbs.up hsg84
 have hr1:=hr1.up hsg84
 have hr1':=hr1'.up hsg84
 have hr1'':=hr1''.up hsg84
 refine xc Z2 (of_c _ _ H.sub _ _ _ _ _ _ hbs (H.blkIs (k:=0) Z).1 (H.blkIs (k:=0) Z).2 oM _ _ hsr84 (by first|decide|(simp;done)|(simp;omega))) ?_
 rintro _ _ ⟨G82,_,_,rfl,H82',⟨_,_,_,rfl,hxs82,rfl⟩⟩
 have hbs:=hbs.up H82'.le
 have hr1:=hr1.up H82'.le
 have hr1':=hr1'.up H82'.le
 have hr1'':=hr1''.up H82'.le
 have H:=H.borrow (k:=0) rfl H82'
 refine⟨_,Z,?_⟩
 refine aG Z (q3 (W_seq (W_drawK [2] 9 H kR Z ?_)));intro _ H;have hd85:=PLe.refl G82
 refine RD_t 0 Z kR Z (fun _ hK=>v_loadagg_B 0 hK isAgg32 sizeOf32 Z Z Z Z) (dE 1 Z2 (dE 2 Z2 (r1 3 Z (xc Z2 (l91File_c _ _ H.sub _ _ _ _ _ _ hbs (H.blkIs (k:=0) Z).1 (H.blkIs (k:=0) Z).2 oM) ?_))))
 rintro _ _ ⟨_,_,_,rfl,H86',⟨_,_,_,_,_,rfl,hchk86,_,rfl⟩⟩
 have hr1:=hr1.up H86'.le
 have hr1':=hr1'.up H86'.le
 have hr1'':=hr1''.up H86'.le
 have hd85:=hd85.trans H86'.le
 have H:=H.borrow (k:=0) rfl H86'
 obtain⟨_,_,rfl⟩:=H.accShape (k:=0) rfl
 refine⟨_,Z,?_⟩
 refine q4 H hd85 (r1 4 Z ?_)
 obtain⟨_,H,hsg88,hsr88⟩:=H.shutM (k:=0) (j:=0) rfl rfl hchk86 aN aN
 have hr1:=hr1.up hsg88
 have hr1':=hr1'.up hsg88
 have hr1'':=hr1''.up hsg88
 have hd85:=hd85.trans hsg88
 refine xc Z2 (DiskWriteP_c _ _ H.sub _ d ⟨_,_,_,_,_,_,_,_,_,Z,hr1,hr1',hr1''⟩ _ hxs82 _ _ hsr88) ?_
 rintro _ _ ⟨_,_,g87,rfl,_,rfl,hr87_0⟩
 have H:=H.grow g87
 have hd85:=hd85.trans g87.le
 obtain⟨_,_,_,_,_,_,_,_,_,rfl,hr89,hr89',hr89'',⟨_,_⟩,⟨_,_⟩,_,_⟩:=ox hr87_0
 refine⟨_,Z,?_⟩
 refine q4 H hd85 (dE 5 Z2 (dE 6 Z2 (r1 7 Z (xst 1 H Z8 ?_))));intro _ H
 refine q4 H hd85 (dE 8 Z2 (rz (N_K (W_ret (ret_gen (rs:=[.cell 4 32,.tmp 5]) (vs:=[_,_]) results97 ⟨⟨_,Z,load_blk 1 H isAgg32 sizeOf32 Z Z Z⟩,Z,trivial⟩ ?_)))))
 have H:=H.dl 1
 have H:=H.dl 1
 exact H.retM ⟨_,_,_,_,_,_,_,_,oM,Z,hr89,hr89',hr89'',Z⟩
theorem l91Disk_c (w0:World)(G0:PH)(hG:PSub G0 w0)(rb:Nat)(ab:Option Addr)(mb kb:Nat)(bs:List UInt8)(p:Nat)(hbs:RdU G0 (.slice ab mb kb) bs)(hrb:w0.heap[rb]? = some (cl [.slice ab mb kb,.int .i64 (p:Int)] 141))(hrn:G0 rb=none)(hp:p≤5000000) :
  Calls Tryz.prog 49 #[.pointer (some ⟨rb,0,none⟩)] w0 (RetM w0 G0 [rb] (fun G val Bs=>∃(p':Nat) (v1 v2 v3:Value) (st:List BHeld) (tr:List BItem) (sn:List BSnap),p'≤p+5000∧val= .agg #[v1,v2,v3]∧RdH G v1 st∧RdItems G v2 tr∧RdSn G v3 sn∧Bs=[blk rb (cl [.slice ab mb kb,.int .i64 (p':Int)] 141)])):=by
 have hlimbs:bs.length≤1099511627776:=hbs.lim;obtain rfl:mb=bs.length:=hbs.len
 have H:=Hp.initM hG hrb hrn
 refine calls_of_W (l:=[.pointer (some ⟨rb,0,none⟩)]) func49 Z ntmps49 Z (q2 (xal H Z ?_));intro b1 _ _ H
 refine q1 (mV Z (xc Z2 (l91Volume_c _ _ H.sub _ _ _ _ _ _ hbs (H.blkIs (k:=1) Z).1 (H.blkIs (k:=1) Z).2 oM) ?_))
 rintro _ _ ⟨_,_,_,rfl,H2',⟨_,_,_,st2,tr2,_,rfl,hst2,htr2,rfl⟩⟩
 have hbs:=hbs.up H2'.le
 have H:=H.borrow (k:=1) rfl H2'
 obtain⟨_,_,rfl⟩:=hst2.shape;obtain⟨_,_,rfl⟩:=htr2.shape;have hx_hst2:_≤1099511627776:=hst2.lim;have hx_htr2:_≤1099511627776:=htr2.lim
 refine⟨_,Z,?_⟩
 refine xal H Z ?_;intro b3 _ _ H
 refine xst 0 H Z8 ?_;intro _ H
 refine q1 (fA 0 Z (lB 0 H Z3 (fA 1 Z (lB 0 H Z3 (o_build bf32 Z Z Z (xal H Z ?_))))));intro b5 _ _ H
 refine xst 0 H Z8 ?_;intro _ H
 refine q1 (mV Z (xc Z2 (pick_c _ _ H.sub _ _ _ _ _ _ hbs (H.blkIs (k:=2) Z).1 (H.blkIs (k:=2) Z).2 oM _ oO) ?_))
 rintro _ _ ⟨G7,_,_,rfl,H7',⟨p7,_,_,rfl,_,rfl⟩⟩
 have hbs:=hbs.up H7'.le
 have hst2:=hst2.up H7'.le
 have htr2:=htr2.up H7'.le
 have H:=H.borrow (k:=2) rfl H7'
 refine⟨_,Z,?_⟩
 refine aG Z (q3 (W_seq (q2 (aG Z (q3 (W_block ?_))))))
 obtain⟨ln8,hln8,H⟩:=H.name (k:=2) rfl
 obtain⟨ln9,hln9,H⟩:=H.name (k:=3) rfl
 refine W_lp (hf:=(Sub.cons (t:=0) Z (Sub.cons (t:=2) Z (Sub.cons (t:=4) Z (Sub.cons (t:=5) Z Sub.nil))))) (J:=fun M w m=>∃(k:Nat) (va vb vc:Value) (st:List BHeld) (tr:List BItem) (sn:List BSnap) (pp:Nat) (G:PH),M=[(6,.int .i64 (k:Int))]∧PLe G7 G∧Hp w0 G0 [rb] w G [blk rb (cl [.slice ab bs.length kb,.int .i64 (pp:Int)] 141),blk b5 (cl [va,vb,vc] 32),blk b3 (cl ln8 143),blk b1 (cl ln9 32)]∧(k≤7∧pp≤p+3100+201*k∧RdH G va st∧RdItems G vb tr∧RdSn G vc sn)∧m=(8-k)) (h0:=⟨0,_,_,_,st2,tr2,[],p7,_,Z,PLe.refl _,H,?inv,Z⟩) (round:=?round)
 case inv=>exact⟨by omega,by omega,hst2,htr2,(RdS.nil _ _ _)⟩
 case round =>
  rintro _ _ _ ⟨k,va,vb,vc,st,tr,sn,pp,_,rfl,hle10,H,hinv10,rfl⟩
  subst hln8
  subst hln9
  have hbs:=hbs.up hle10
  obtain⟨_,_,hst,htr,hsn⟩:=hinv10;obtain⟨_,_,rfl⟩:=hst.shape;have hlhst:_≤1099511627776:=hst.lim;obtain⟨_,_,rfl⟩:=htr.shape;have hlhtr:_≤1099511627776:=htr.lim;obtain⟨_,_,rfl⟩:=hsn.shape;have hlhsn:_≤1099511627776:=hsn.lim
  refine W_seq (q2 (pe 3 Z (q3 ?_)))
  refine W_cond Z ?_ ?_
  ·intro hc11
   try simp only[nrm]at hc11
   refine W_skip (N_K (W_seq (W_block (q2 (mV Z (lA 1 3 H Z4 (xc Z2 (l91Turn_c _ _ H.sub _ _ _ _ _ _ hbs (H.blkIs (k:=0) Z).1 (H.blkIs (k:=0) Z).2 oM _ ⟨st,tr,sn⟩ ⟨_,_,_,_,_,_,_,_,_,Z,hst,htr,hsn⟩) ?_)))))))
   rintro _ _ ⟨_,_,_,rfl,H12',⟨p12,_,_,_,st12,tr12,sn12,_,_,rfl,hst12,htr12,hsn12,rfl⟩⟩
   have hst:=hst.up H12'.le
   have htr:=htr.up H12'.le
   have hsn:=hsn.up H12'.le
   have hle10:=hle10.trans H12'.le
   have H:=H.borrow (k:=0) rfl H12'
   obtain⟨_,_,rfl⟩:=hst12.shape;have hx_hst12:_≤1099511627776:=hst12.lim;obtain⟨_,_,rfl⟩:=htr12.shape;have hx_htr12:_≤1099511627776:=htr12.lim;obtain⟨_,_,rfl⟩:=hsn12.shape;have hx_hsn12:_≤1099511627776:=hsn12.lim
   refine⟨_,Z,?_⟩
   refine pe 3 Z (xal H Z ?_);intro _ _ _ H
   refine xst 0 H Z8 ?_;intro _ H
   refine aG Z (q1 (mV Z (q3 ?_)))
   refine W_cond Z ?_ ?_
   ·intro hc15
    try simp only[nrm]at hc15
    refine W_region (lA 0 3 H Z4 (xst 2 H Z8 ?_));intro _ H
    refine R_nil (N_B (N_K (W_region (mV Z (aD Z2 (aG Z (R_nil ?_)))))))
    have H:=H.sel [1,2,3,4] rfl
    refine N_lp (hJ:=⟨k+1,_,_,_,st12,tr12,sn12,p12,_,Z,hle10,H,?inv,Z⟩) (hm:=?hm)
    case hm=>omega
    case inv=>exact⟨by omega,by omega,hst12,htr12,hsn12⟩
   intro hc15'
   try simp only[nrm]at hc15'
   refine W_skip (N_B (N_K (W_region (mV Z (aD Z2 (aG Z (R_nil ?_)))))))
   have H:=H.sel [1,2,3,4] rfl
   refine N_lp (hJ:=⟨k+1,_,_,_,st,tr,sn,p12,_,Z,hle10,H,?inv,Z⟩) (hm:=?hm)
   case hm=>omega
   case inv=>exact⟨by omega,by omega,hst,htr,hsn⟩
  intro hc11'
  try simp only[nrm]at hc11'
  refine W_exit (N_K_exit (N_LP_exit (N_B_same (N_K (q2 (lA 1 3 H Z4 (xst 3 H Z8 ?_)))))));intro _ H
  refine q3 (W_ret (ret_gen (rs:=[.cell 2 32]) (vs:=[_]) results49 ⟨⟨_,Z,load_blk 3 H isAgg32 sizeOf32 Z Z Z⟩,trivial⟩ ?_))
  have H:=H.dl 1
  have H:=H.dl 1
  have H:=H.dl 1
  exact H.retM ⟨_,_,_,_,_,_,_,oM,Z,hst,htr,hsn,Z⟩
theorem l1Within_c (w0:World)(G0:PH)(hG:PSub G0 w0)(p:Bs)(hp:p.length≤16777216)(dir:Bs)(hdir:dir.length≤16777216) :
  Calls Tryz.prog 76 #[str p,str dir] w0 (Rets w0 (.bool (Sp.l1Within p dir))):=by
 have H:=Hp.init hG
 refine calls_of_W (l:=[str p,str dir]) func76 Z ntmps76 Z (q2 (aG Z (q3 (W_seq (q2 (mV Z (o_seql Z Z Z (mV Z ?_))))))))
 refine R_case (t:=7) Z ?_ ?_
 ·intro hc1
  try simp only[nrm]at hc1
  refine pe 4 Z (q3 (W_true Z (q2 (aG Z (q3 (W_ret (N_K_ret (rt1 results76 Z ?_))))))))
  exact H.rets (congrArg Value.bool (by exact(Sp.within_eqs (.inl (by simpa using hc1))).symm))
 intro hc1'
 try simp only[nrm]at hc1'
 refine pe 2 Z (gR Z (o_seql Z Z Z (pe 1 Z (q3 ?_))))
 refine W_cond Z ?_ ?_
 ·intro hc2
  try simp only[nrm]at hc2
  refine q2 (aG Z (q3 (W_ret (N_K_ret (rt1 results76 Z ?_)))))
  exact H.rets (congrArg Value.bool (by exact(Sp.within_eqs (.inr (by simpa using hc2))).symm))
 intro hc2'
 try simp only[nrm]at hc2'
 refine W_skip (N_K (q2 (mV Z (lS Z (mV Z (lS Z (pe 2 Z ?_)))))))
 refine R_case (t:=17) Z ?_ ?_
 ·intro hc3
  try simp only[nrm]at hc3
  refine pe 2 Z (gR Z (lS Z (gR Z (o_slice_str_to underlying9 Z Z Z oM oM (pe 1 Z (gR Z (o_seql Z Z Z (pe 2 Z ?_))))))))
  refine R_case (t:=25) Z ?_ ?_
  ·intro hc5
   try simp only[nrm]at hc5
   refine pe 2 Z (gR Z (lS Z (gR Z (o_index_str underlying9 Z Z Z Z oM ?_))));intro ch6 hch6;have hlt6:=ch6.toNat_lt
   refine pe 3 Z (q3 (W_ret (rt1 results76 Z ?_)))
   exact H.rets (congrArg Value.bool (by exact(Sp.within_hit hc1' hc2' oM hc5 (by simpa using hch6)).symm))
  intro hc5'
  try simp only[nrm]at hc5'
  refine pe 7 Z (q3 (W_ret (rt1 results76 Z ?_)))
  exact H.rets (congrArg Value.bool (by rw[Sp.within_far hc1' hc2',decide_eq_false (show¬p.take dir.length=dir from hc5')];simp))
 intro hc3'
 try simp only[nrm]at hc3'
 refine pe 15 Z (q3 (W_ret (rt1 results76 Z ?_)))
 exact H.rets (congrArg Value.bool (by rw[Sp.within_far hc1' hc2',decide_eq_false oM];simp))
theorem PathMove_c (w0:World)(G0:PH)(hG:PSub G0 w0)(p:Bs)(hp:p.length≤16777216)(f:Bs)(hf:f.length≤16777216)(t:Bs)(ht:t.length≤16777216) :
  Calls Tryz.prog 77 #[str p,str f,str t] w0 (Rets w0 (.tuple #[str ((Sp.PathMove p f t).getD []),.bool (Sp.PathMove p f t).isSome])):=by
 have H:=Hp.init hG
 refine calls_of_W (l:=[str p,str f,str t]) func77 Z ntmps77 Z (q2 (pe 2 Z (q3 (W_seq (q2 (mV Z (xr H Z2 (PathValid_c _ _ H.sub _ hp) ?_)))))));intro _ H
 refine pe 2 Z ?_
 refine R_case (t:=12) Z ?_ ?_
 ·intro hc2
  try simp only[nrm]at hc2
  refine pe 15 Z (q3 (W_true Z (q2 (pe 2 Z (q3 (W_ret (N_K_ret (rt2 results77 Z Z ?_))))))))
  have hp:Sp.PathMove p f t=none:=Sp.move_no (by simp_all)
  exact H.rets (by rw[hp];rfl)
 intro hc2'
 try simp only[nrm]at hc2'
 refine pe 1 Z (gR Z (xr H Z2 (PathValid_c _ _ H.sub _ hf) ?_));intro _ H
 refine pe 3 Z ?_
 refine R_case (t:=17) Z ?_ ?_
 ·intro hc4
  try simp only[nrm]at hc4
  refine pe 10 Z (q3 (W_true Z (q2 (pe 2 Z (q3 (W_ret (N_K_ret (rt2 results77 Z Z ?_))))))))
  have hp:Sp.PathMove p f t=none:=Sp.move_no (by simp_all)
  exact H.rets (by rw[hp];rfl)
 intro hc4'
 try simp only[nrm]at hc4'
 refine pe 1 Z (gR Z (xr H Z2 (PathValid_c _ _ H.sub _ ht) ?_));intro _ H
 refine pe 3 Z ?_
 refine R_case (t:=22) Z ?_ ?_
 ·intro hc6
  try simp only[nrm]at hc6
  refine pe 5 Z (q3 (W_true Z (q2 (pe 2 Z (q3 (W_ret (N_K_ret (rt2 results77 Z Z ?_))))))))
  have hp:Sp.PathMove p f t=none:=Sp.move_no (by simp_all)
  exact H.rets (by rw[hp];rfl)
 intro hc6'
 try simp only[nrm]at hc6'
 refine pe 2 Z (gR Z (xr H Z2 (l1Within_c _ _ H.sub _ hp _ hf) ?_));intro _ H
 refine pe 2 Z (q3 ?_)
 refine W_cond Z ?_ ?_
 ·intro hc8
  try simp only[nrm]at hc8
  refine q2 (pe 2 Z (q3 (W_ret (N_K_ret (rt2 results77 Z Z ?_)))))
  have hp:Sp.PathMove p f t=none:=Sp.move_no (by simp_all)
  exact H.rets (by rw[hp];rfl)
 intro hc8'
 try simp only[nrm]at hc8'
 refine W_skip (N_K (q2 ?_))
 have hwl:=Sp.within_len (p:=p) (f:=f) (by simp_all)
 have hpt:=Sp.path_len (p:=t) (by simp_all)
 have hpp:=Sp.path_len (p:=p) (by simp_all)
 refine pe 3 Z (lS Z (o_slice_str_from underlying9 Z Z Z oM oM ?_))
 refine o_sadd Z Z Z (by first|(simp only[List.length_drop];omega)|(simp;omega)) ?_
 refine aG Z (q3 (W_seq (q2 (mV Z ?_))))
 refine xr H Z2 (PathValid_c _ _ H.sub _ (by (first|assumption|(refine Sp.l5Parent_lim ?_;assumption)|(simp;done)|(simp;omega)|omega))) ?_;intro _ H
 refine pe 1 Z (q3 ?_)
 refine W_cond Z ?_ ?_
 ·intro hc11
  try simp only[nrm]at hc11
  refine q2 (pe 2 Z (q3 (W_ret (N_K_ret (rt2 results77 Z Z ?_)))))
  have hp:Sp.PathMove p f t=none:=Sp.move_no (by simp_all)
  exact H.rets (by rw[hp];rfl)
 intro hc11'
 try simp only[nrm]at hc11'
 refine W_skip (N_K (q2 (pe 3 Z (q3 (W_ret (rt2 results77 Z Z ?_))))))
 have hp:Sp.PathMove p f t=some _:=Sp.move_yes (by simp_all) (by simp_all) (by simp_all) (by simp_all) (by simp_all)
 exact H.rets (by rw[hp];rfl)
theorem l23Copies_c (w0:World)(G0:PH)(hG:PSub G0 w0)(vlist:Value)(list:List (BItem))(hlist:RdItems G0 vlist list)(f:Bs)(hf:f.length≤16777216)(t:Bs)(ht:t.length≤16777216) :
  Calls Tryz.prog 30 #[vlist,str f,str t] w0 (RetO w0 G0 (fun G v r=>∃u,v= .tuple #[u,.bool (Sp.l23Copies list f t).isSome]∧AccOf itemE 3 51 ((Sp.l23Copies list f t).getD []) G u r)):=by
 obtain⟨alist,klist,rfl⟩:=hlist.shape
 have hlimlist:list.length≤1099511627776:=hlist.lim
 have H:=Hp.init hG
 refine calls_of_W (l:=[.slice alist list.length klist,str f,str t]) func30 Z ntmps30 Z (q2 (pe 2 Z (q1 (xbs H Z7 ?_))));intro _ _ _ H
 have H:=H.blkAcc 3 (k:=0) (n:=0) rfl rfl (by decide)
 refine aG Z (q3 (W_seq (q2 (aG Z (q3 (W_block ?_))))))
 refine W_lp (hf:=(Sub.cons (t:=0) Z (Sub.cons (t:=1) Z (Sub.cons (t:=2) Z Sub.nil)))) (J:=fun M w m=>∃(v:Value) (n:Nat) (cs:List Value) (xs:List (BItem)) (k:Nat) (G:PH),M=[(9,.int .i64 (k:Int)),(8,v)]∧PLe G0 G∧Hp w0 G0 [] w G [acc 51 3 v n cs]∧(Chk itemE 3 G cs xs∧n=xs.length∧k≤list.length∧xs=Sp.copF f t (list.take k)∧Sp.copA f t (list.take k))∧m=(list.length-k)) (h0:=⟨_,_,_,[],0,_,Z,PLe.refl _,H,?inv,Z⟩) (round:=?round)
 case inv=>exact⟨(Chk.nil (E:=itemE) (sz:=3) (G:=G0)),by first|rfl|simp|(simp;omega)|omega,(by exact⟨by omega,rfl,fun x hx=>by simp at hx⟩)⟩
 case round =>
  rintro _ _ _ ⟨v,n,cs,xs,k,G2,rfl,hle2,H,hinv2,rfl⟩
  have hlist:=hlist.up hle2
  obtain⟨hchk2_0,_,hinv2⟩:=hinv2
  obtain⟨_,_,rfl⟩:=H.accShape (k:=0) rfl
  obtain⟨_,hxs,hca⟩:=hinv2;have hxl:xs.length≤k:=by (rw[hxs];have h9:=Sp.copF_len f t (list.take k);(rw[List.length_take]at h9);omega)
  refine W_seq (q2 (pe 2 Z (lN Z (pe 1 Z (q3 ?_)))))
  refine W_cond Z ?_ ?_
  ·intro hc3
   try simp only[nrm]at hc3
   refine W_skip (N_K (W_seq (W_block (q2 (pe 2 Z (iP k hlist Z3 Z ?_))))));intro _ _ z4 _ hz4 hE4 hrow4
   obtain⟨_,_,_,rfl,hi4,hr4,_,_⟩:=ox hE4
   refine fA 0 Z (lP H hrow4 0 Z2 (mV Z (xr H Z2 (l1Within_c _ _ H.sub _ hi4 _ hf) ?_)));intro _ H
   refine q3 ?_
   refine W_cond Z ?_ ?_
   ·intro hc6
    try simp only[nrm]at hc6
    refine q2 (pe 2 Z (iP k hlist Z3 Z ?_));intro _ _ z7 _ hz7 hE7 hrow7
    obtain⟨_,_,_,rfl,hi7,hr7,_,_⟩:=ox hE7
    have hzz7:z4=z7:=Option.some.inj (hz4.symm.trans hz7)
    subst hzz7
    refine fA 0 Z (lP H hrow7 0 Z2 (pe 2 Z (xr H Z2 (PathMove_c _ _ H.sub _ hi7 _ hf _ ht) ?_)));intro _ H
    refine pe 5 Z (q3 (W_seq (q2 (pe 2 Z (q3 ?_)))))
    refine W_cond Z ?_ ?_
    ·intro hc9
     try simp only[nrm]at hc9
     refine q2 (xbs H Z7 ?_);intro _ _ _ H
     have H:=H.blkAcc 3 (k:=0) (n:=0) rfl rfl (by decide)
     refine pe 2 Z (q3 (W_ret (N_K_ret (N_B_ret (N_K_ret (N_LP_ret (N_B_ret (N_K_ret (rt2 results30 Z Z ?_)))))))))
     have hN:Sp.l23Copies list f t=none:=by exact Sp.cop_no hz4 (by simpa using hc6) (by simpa using hc9)
     exact H.retO (k:=0) rfl (by rw[hN];exact⟨_,rfl,AccOf.mk aN (Chk.nil (E:=itemE) (sz:=3) (G:=G2))⟩) (acc_nd _ _ _ _ _)
    intro hc9'
    try simp only[nrm]at hc9'
    refine W_skip (N_K (q2 (pe 2 Z (iP k hlist Z3 Z ?_))));intro _ _ z11 _ hz11 hE11 hrow11
    obtain⟨_,_,_,rfl,hi11,hr11,_,_⟩:=ox hE11
    have hzz11:z4=z11:=Option.some.inj (hz4.symm.trans hz11)
    subst hzz11
    refine o_loadagg_P H isAgg51 sizeOf51 Z Z hrow11 Z (xc Z2 (l5Copy_c _ _ H.sub _ _ ⟨_,_,_,Z,hi11,hr11⟩) ?_)
    rintro _ _ ⟨_,_,g12,rfl,_,rfl,hr12_0⟩
    have H:=H.grow g12
    have hchk2_0:=hchk2_0.up g12.le
    have hle2:=hle2.trans g12.le
    obtain⟨_,_,_,rfl,_,hr13,_,_⟩:=ox hr12_0
    refine⟨_,Z,?_⟩
    refine xal H Z ?_;intro _ _ _ H
    refine xst 0 H Z8 ?_;intro _ H
    refine q1 (mV Z (fA 0 Z (xst 0 H Z8 ?_)));intro _ H
    refine q3 (W_region (mV Z (lA 0 3 H Z4 (xbs H Z7 ?_))));intro _ _ _ H
    refine o_append1 1 H (sz:=3) (bytes:=48) underlying29 typeInfo51 ⟨_,Z,Z⟩ Z Z Z Z Z Z Z Z Z Z oM Z ?_;intro _ _ H
    have hchk18:=hchk2_0.snoc (show itemE _ (Sp.mvI f t z4) _ from⟨_,_,_,rfl,(Sp.move_len _ _ _),hr13⟩) rfl
    obtain⟨_,_,rfl⟩:=H.accShape (k:=1) rfl
    refine aG Z (R_nil (N_B (N_K (W_region (mV Z (aD Z2 (aG Z (R_nil ?_))))))))
    have H:=H.dl 0
    refine N_lp (hJ:=⟨_,_,_,(xs++[(Sp.mvI f t z4)]),k+1,_,Z,hle2,H,?inv,Z⟩) (hm:=?hm)
    case hm=>omega
    case inv=>exact⟨hchk18,aN,(by exact⟨by omega,by (rw[hxs,Sp.copF_in hz4 (by simpa using hc6)]),Sp.copA_in hz4 hca (fun _=>by simpa using hc9')⟩)⟩
   intro hc6'
   try simp only[nrm]at hc6'
   refine W_skip (N_B (N_K (W_region (mV Z (aD Z2 (aG Z (R_nil ?_)))))))
   refine N_lp (hJ:=⟨_,_,_,xs,k+1,_,Z,hle2,H,?inv,Z⟩) (hm:=?hm)
   case hm=>omega
   case inv=>exact⟨hchk2_0,aN,(by exact⟨by omega,by (rw[hxs,Sp.copF_out hz4 (by simpa using hc6')]),Sp.copA_in hz4 hca (fun h9=>absurd h9 (by simpa using hc6'))⟩)⟩
  intro hc3'
  try simp only[nrm]at hc3'
  refine W_exit (N_K_exit (N_LP_exit (N_B_same (N_K (q2 (pe 3 Z (q3 (W_ret (rt2 results30 Z Z ?_)))))))))
  have hY:Sp.l23Copies list f t=some xs:=by (rw[hxs,show k=list.length by omega,List.take_length];exact Sp.cop_yes hca oM)
  exact H.retO (k:=0) rfl (by rw[hY];exact⟨_,rfl,AccOf.mk aN hchk2_0⟩) (acc_nd _ _ _ _ _)
theorem l23Put_c (w0:World)(G0:PH)(hG:PSub G0 w0)(vlist:Value)(list:List (BItem))(hlist:RdItems G0 vlist list)(vc:Value)(c:List (BItem))(hc:RdItems G0 vc c)(hS:list.length+c.length≤1000) :
  Calls Tryz.prog 70 #[vlist,vc] w0 (RetO w0 G0 (fun G v r=>∃u,v= .tuple #[u,.bool (Sp.l23Put list c).isSome]∧AccOf itemE 3 51 ((Sp.l23Put list c).getD []) G u r)):=by
 obtain⟨alist,klist,rfl⟩:=hlist.shape
 have hlimlist:list.length≤1099511627776:=hlist.lim
 obtain⟨ac,kc,rfl⟩:=hc.shape
 have hlimc:c.length≤1099511627776:=hc.lim
 have H:=Hp.init hG
 refine calls_of_W (l:=[.slice alist list.length klist,.slice ac c.length kc]) func70 Z ntmps70 Z (q2 (pe 2 Z (q1 (mV Z (xc Z2 (l5All_c _ _ H.sub _ _ hlist) ?_)))))
 rintro _ _ ⟨G1,_,_,g1,rfl,⟨_,rfl,hchk1⟩,hp1,hq1,hs1⟩
 have H:=H.growO g1 hp1 hq1 hs1;obtain⟨_,_,rfl⟩:=H.accShape (k:=0) rfl
 have hc:=hc.up g1.le
 refine⟨_,Z,?_⟩
 refine aG Z (q3 (W_seq (q2 (aG Z (q3 (W_block ?_))))))
 refine W_lp (hf:=(Sub.cons (t:=1) Z Sub.nil)) (J:=fun M w m=>∃(v:Value) (n:Nat) (cs:List Value) (xs:List (BItem)) (k:Nat) (G:PH),M=[(7,.int .i64 (k:Int)),(6,v)]∧PLe G1 G∧Hp w0 G0 [] w G [acc 51 3 v n cs]∧(Chk itemE 3 G cs xs∧n=xs.length∧k≤c.length∧xs.length≤list.length+k∧Sp.foldB Sp.put23 (c.take k) (some list)=some xs)∧m=(c.length-k)) (h0:=⟨_,_,_,list,0,_,Z,PLe.refl _,H,?inv,Z⟩) (round:=?round)
 case inv=>exact⟨hchk1,by first|rfl|simp|(simp;omega)|omega,(by exact⟨by omega,by omega,by simp[Sp.foldB]⟩)⟩
 case round =>
  rintro _ _ _ ⟨v,n,cs,xs,k,G2,rfl,hle2,H,hinv2,rfl⟩
  have hc:=hc.up hle2
  obtain⟨hchk2_0,_,hinv2⟩:=hinv2
  obtain⟨_,_,rfl⟩:=H.accShape (k:=0) rfl
  obtain⟨_,_,hf⟩:=hinv2
  refine W_seq (q2 (pe 2 Z (lN Z (pe 1 Z (q3 ?_)))))
  refine W_cond Z ?_ ?_
  ·intro hc3
   try simp only[nrm]at hc3
   refine W_skip (N_K (W_seq (W_block (W_seq (q2 (pe 3 Z (iP k hc Z3 Z ?_)))))));intro _ _ z4 _ hz4 hE4 hrow4
   obtain⟨_,_,_,rfl,hi4,hr4,_,_⟩:=ox hE4
   refine fA 0 Z (lP H hrow4 0 Z2 (xr H Z2 (l5At_c _ _ (H.lendSubL [0]) _ _ (H.lendRdL (k:=0) (ks:=[0]) Z Z hchk2_0 aN aN) _ hi4) ?_));intro _ H
   refine pe 1 Z (q3 ?_)
   refine W_cond Z ?_ ?_
   ·intro hc6
    try simp only[nrm]at hc6
    refine q2 (xbs H Z7 ?_);intro _ _ _ H
    have H:=H.blkAcc 3 (k:=0) (n:=0) rfl rfl (by decide)
    refine pe 2 Z (q3 (W_ret (N_K_ret (N_B_ret (N_K_ret (N_LP_ret (N_B_ret (N_K_ret (rt2 results70 Z Z ?_)))))))))
    have hN:Sp.l23Put list c=none:=by (rw[Sp.l23Put,Sp.foldB_stop hf hz4 (Sp.put23_no oM)];rfl)
    exact H.retO (k:=0) rfl (by rw[hN];exact⟨_,rfl,AccOf.mk aN (Chk.nil (E:=itemE) (sz:=3) (G:=G2))⟩) (acc_nd _ _ _ _ _)
   intro hc6'
   try simp only[nrm]at hc6'
   refine W_skip (N_K (W_region (pe 3 Z (iP k hc Z3 Z ?_))));intro _ _ z8 _ hz8 hE8 hrow8
   obtain⟨_,_,_,rfl,hi8,hr8,_,_⟩:=ox hE8
   have hzz8:z4=z8:=Option.some.inj (hz4.symm.trans hz8)
   subst hzz8
   refine o_loadagg_P H isAgg51 sizeOf51 Z Z hrow8 Z ?_
   obtain⟨_,H,hsg10,hsr10⟩:=H.shut' (k:=0) rfl hchk2_0 aN aN
   have hr8:=hr8.up hsg10
   have hle2:=hle2.trans hsg10
   refine xc Z2 (l5Put_c _ _ H.sub _ _ hsr10 _ z4 ⟨_,_,_,Z,hi8,hr8⟩ oM) ?_
   rintro _ _ ⟨_,_,_,g9,rfl,⟨_,rfl,hchk9⟩,hp9,hq9,hs9⟩
   have H:=H.growO g9 hp9 hq9 hs9;obtain⟨_,_,rfl⟩:=H.accShape (k:=0) rfl
   have hle2:=hle2.trans g9.le
   refine⟨_,Z,?_⟩
   refine aG Z (R_nil (N_B (N_K (W_region (mV Z (aD Z2 (aG Z (R_nil ?_))))))))
   refine N_lp (hJ:=⟨_,_,_,(Sp.l5Put xs z4),k+1,_,Z,hle2,H,?inv,Z⟩) (hm:=?hm)
   case hm=>omega
   case inv=>exact⟨hchk9,aN,(by exact⟨by omega,by (have h9:=Sp.l5Put_len xs z4;omega),Sp.foldB_succ hf hz4 (Sp.put23_yes oM)⟩)⟩
  intro hc3'
  try simp only[nrm]at hc3'
  refine W_exit (N_K_exit (N_LP_exit (N_B_same (N_K (W_seq (q2 (mV Z (xr H Z2 (TreeValid_c _ _ (H.lendSubL [0]) _ _ (H.lendRdL (k:=0) (ks:=[0]) Z Z hchk2_0 aN aN)) ?_))))))));intro _ H
  refine pe 1 Z (q3 ?_)
  refine W_cond Z ?_ ?_
  ·intro hc13
   try simp only[nrm]at hc13
   refine q2 (xbs H Z7 ?_);intro _ _ _ H
   have H:=H.blkAcc 3 (k:=0) (n:=0) rfl rfl (by decide)
   refine pe 2 Z (q3 (W_ret (N_K_ret (rt2 results70 Z Z ?_))))
   have hN:Sp.l23Put list c=none:=by (have h9:Sp.TreeValid xs=false:=by simpa using hc13);(rw[Sp.l23Put,Sp.foldB_all hf oM];simp[h9])
   exact H.retO (k:=0) rfl (by rw[hN];exact⟨_,rfl,AccOf.mk aN (Chk.nil (E:=itemE) (sz:=3) (G:=G2))⟩) (acc_nd _ _ _ _ _)
  intro hc13'
  try simp only[nrm]at hc13'
  refine W_skip (N_K (q2 (pe 3 Z (q3 (W_ret (rt2 results70 Z Z ?_))))))
  have hY:Sp.l23Put list c=some xs:=by (have h9:Sp.TreeValid xs=true:=by simpa using hc13');(rw[Sp.l23Put,Sp.foldB_all hf oM];simp[h9])
  exact H.retO (k:=0) rfl (by rw[hY];exact⟨_,rfl,AccOf.mk aN hchk2_0⟩) (acc_nd _ _ _ _ _)
theorem l23Ok_c (w0:World)(G0:PH)(hG:PSub G0 w0)(vlist:Value)(list:List (BItem))(hlist:RdItems G0 vlist list)(f:Bs)(hf:f.length≤16777216)(t:Bs)(ht:t.length≤16777216) :
  Calls Tryz.prog 69 #[vlist,str f,str t] w0 (Rets w0 (.bool (Sp.l23Ok list f t))):=by
 obtain⟨alist,klist,rfl⟩:=hlist.shape
 have hlimlist:list.length≤1099511627776:=hlist.lim
 have H:=Hp.init hG
 refine calls_of_W (l:=[.slice alist list.length klist,str f,str t]) func69 Z ntmps69 Z (q2 (aG Z (q1 (mV Z (xr H Z2 (TreeValid_c _ _ H.sub _ _ hlist) ?_)))));intro _ H
 refine mV Z ?_
 refine R_case (t:=9) Z ?_ ?_
 ·intro hc2
  try simp only[nrm]at hc2
  refine pe 1 Z (gR Z (xr H Z2 (PathValid_c _ _ H.sub _ hf) ?_));intro _ H
  refine pe 2 Z ?_
  refine R_case (t:=13) Z ?_ ?_
  ·intro hc4
   try simp only[nrm]at hc4
   refine pe 1 Z (gR Z (xr H Z2 (PathValid_c _ _ H.sub _ ht) ?_));intro _ H
   refine pe 2 Z ?_
   refine R_case (t:=17) Z ?_ ?_
   ·intro hc6
    try simp only[nrm]at hc6
    refine pe 2 Z (gR Z (xr H Z2 (l5At_c _ _ H.sub _ _ hlist _ hf) ?_));intro _ H
    refine pe 3 Z ?_
    refine R_case (t:=23) Z ?_ ?_
    ·intro hc8
     try simp only[nrm]at hc8
     refine pe 2 Z (gR Z (xr H Z2 (l1Within_c _ _ H.sub _ ht _ hf) ?_));intro _ H
     refine pe 3 Z ?_
     refine R_case (t:=29) Z ?_ ?_
     ·intro hc10
      try simp only[nrm]at hc10
      refine pe 2 Z (gR Z (xr H Z2 (l5At_c _ _ H.sub _ _ hlist _ ht) ?_));intro _ H
      refine pe 3 Z (q3 (W_ret (rt1 results69 Z ?_)))
      have hq1:=Sp.l5_ge (l:=list) (p:=f)
      have hq2:=Sp.l5_lt (l:=list) (p:=t)
      exact H.rets (congrArg Value.bool (by ((by_cases hx:0≤Sp.l5At list f)<;>(simp only[Sp.l23Ok,←hq1,←hq2];first|(simp_all;done)|omega|(simp_all;omega)))))
     intro hc10'
     try simp only[nrm]at hc10'
     refine pe 6 Z (q3 (W_ret (rt1 results69 Z ?_)))
     have hq1:=Sp.l5_ge (l:=list) (p:=f)
     have hq2:=Sp.l5_lt (l:=list) (p:=t)
     exact H.rets (congrArg Value.bool (by ((by_cases hx:0≤Sp.l5At list f)<;>(simp only[Sp.l23Ok,←hq1,←hq2];first|(simp_all;done)|omega|(simp_all;omega)))))
    intro hc8'
    try simp only[nrm]at hc8'
    refine pe 12 Z (q3 (W_ret (rt1 results69 Z ?_)))
    have hq1:=Sp.l5_ge (l:=list) (p:=f)
    have hq2:=Sp.l5_lt (l:=list) (p:=t)
    exact H.rets (congrArg Value.bool (by ((by_cases hx:0≤Sp.l5At list f)<;>(simp only[Sp.l23Ok,←hq1,←hq2];first|(simp_all;done)|omega|(simp_all;omega)))))
   intro hc6'
   try simp only[nrm]at hc6'
   refine pe 18 Z (q3 (W_ret (rt1 results69 Z ?_)))
   have hq1:=Sp.l5_ge (l:=list) (p:=f)
   have hq2:=Sp.l5_lt (l:=list) (p:=t)
   exact H.rets (congrArg Value.bool (by ((by_cases hx:0≤Sp.l5At list f)<;>(simp only[Sp.l23Ok,←hq1,←hq2];first|(simp_all;done)|omega|(simp_all;omega)))))
  intro hc4'
  try simp only[nrm]at hc4'
  refine pe 22 Z (q3 (W_ret (rt1 results69 Z ?_)))
  have hq1:=Sp.l5_ge (l:=list) (p:=f)
  have hq2:=Sp.l5_lt (l:=list) (p:=t)
  exact H.rets (congrArg Value.bool (by ((by_cases hx:0≤Sp.l5At list f)<;>(simp only[Sp.l23Ok,←hq1,←hq2];first|(simp_all;done)|omega|(simp_all;omega)))))
 intro hc2'
 try simp only[nrm]at hc2'
 refine pe 26 Z (q3 (W_ret (rt1 results69 Z ?_)))
 have hq1:=Sp.l5_ge (l:=list) (p:=f)
 have hq2:=Sp.l5_lt (l:=list) (p:=t)
 exact H.rets (congrArg Value.bool (by ((by_cases hx:0≤Sp.l5At list f)<;>(simp only[Sp.l23Ok,←hq1,←hq2];first|(simp_all;done)|omega|(simp_all;omega)))))
theorem TreeClone_c (w0:World)(G0:PH)(hG:PSub G0 w0)(vlist:Value)(list:List (BItem))(hlist:RdItems G0 vlist list)(f:Bs)(hf:f.length≤16777216)(t:Bs)(ht:t.length≤16777216) :
  Calls Tryz.prog 28 #[vlist,str f,str t] w0 (RetP w0 G0 (fun G v=>∃u,v= .tuple #[u,.bool (Sp.TreeClone list f t).isSome]∧RdItems G u ((Sp.TreeClone list f t).getD []))):=by
 obtain⟨alist,klist,rfl⟩:=hlist.shape
 have hlimlist:list.length≤1099511627776:=hlist.lim
 have H:=Hp.init hG
 refine calls_of_W (l:=[.slice alist list.length klist,str f,str t]) func28 Z ntmps28 Z (q2 (pe 2 Z (q3 (W_seq (q2 (pe 3 Z (xr H Z2 (l23Ok_c _ _ H.sub _ _ hlist _ hf _ ht) ?_)))))));intro _ H
 refine pe 1 Z (q3 ?_)
 refine W_cond Z ?_ ?_
 ·intro hc2
  try simp only[nrm]at hc2
  refine q2 (xbs H Z7 ?_);intro _ _ _ H
  have H:=H.blkAcc 3 (k:=0) (n:=0) rfl rfl (by decide)
  refine pe 2 Z (q3 (W_ret (N_K_ret (rt2 results28 Z Z ?_))))
  obtain⟨_,H,hsg505,hsr505⟩:=H.shut' (k:=0) rfl (Chk.nil (E:=itemE) (sz:=3) (G:=G0)) aN aN
  have hY:Sp.TreeClone list f t=none:=by exact Sp.clone_nok (by simpa using hc2)
  exact H.retP (by rw[hY];exact⟨_,rfl,hsr505⟩)
 intro hc2'
 try simp only[nrm]at hc2'
 refine W_skip (N_K (q2 (pe 3 Z (xc Z2 (l23Copies_c _ _ H.sub _ _ hlist _ hf _ ht) ?_))))
 rintro _ _ ⟨G4,_,_,g4,rfl,⟨_,rfl,⟨_,rfl,hchk4⟩⟩,hp4,hq4,hs4⟩
 have H:=H.growO g4 hp4 hq4 hs4;obtain⟨_,_,rfl⟩:=H.accShape (k:=0) rfl
 have hlist:=hlist.up g4.le
 refine⟨_,Z,?_⟩
 refine pe 5 Z (q3 (W_seq (q2 (pe 2 Z (q3 ?_)))))
 refine W_cond Z ?_ ?_
 ·intro hc5
  try simp only[nrm]at hc5
  refine q2 (xbs H Z7 ?_);intro _ _ _ H
  have H:=H.blkAcc 3 (k:=0) (n:=0) rfl rfl (by decide)
  refine pe 2 Z (q3 (W_ret (N_K_ret (rt2 results28 Z Z ?_))))
  obtain⟨_,H,hsg509,hsr509⟩:=H.shut' (k:=0) rfl (Chk.nil (E:=itemE) (sz:=3) (G:=G4)) aN aN
  have hY:Sp.TreeClone list f t=none:=by exact Sp.clone_noc (by simpa using hc5)
  exact H.retP (by rw[hY];exact⟨_,rfl,hsr509⟩)
 intro hc5'
 try simp only[nrm]at hc5'
 refine W_skip (N_K (q2 ?_))
 obtain⟨cc,hcc⟩:=Option.isSome_iff_exists.1 (show(Sp.l23Copies list f t).isSome=true by simpa using hc5')
 have hok:Sp.l23Ok list f t=true:=by simp_all
 have htl:=Sp.tree_len (Sp.ok_valid hok)
 have hcl:=Sp.copies_len hcc
 have hgc:(Sp.l23Copies list f t).getD []=cc:=by (rw[hcc];rfl)
 have hgl:((Sp.l23Copies list f t).getD []).length≤16:=by (rw[hgc];omega)
 refine pe 2 Z ?_
 obtain⟨_,H,hsg8,hsr8⟩:=H.shut' (k:=0) rfl hchk4 aN aN
 have hlist:=hlist.up hsg8
 refine xc Z2 (l23Put_c _ _ H.sub _ _ hlist _ _ hsr8 oM) ?_
 rintro _ _ ⟨_,_,_,g7,rfl,⟨_,rfl,⟨_,rfl,hchk7⟩⟩,hp7,hq7,hs7⟩
 have H:=H.growO g7 hp7 hq7 hs7;obtain⟨_,_,rfl⟩:=H.accShape (k:=0) rfl
 refine⟨_,Z,?_⟩
 have hpl:=Sp.l23Put_len list ((Sp.l23Copies list f t).getD [])
 refine pe 4 Z (q3 (W_ret (rt2 results28 Z Z ?_)))
 obtain⟨_,H,hsg512,hsr512⟩:=H.shut' (k:=0) rfl hchk7 aN aN
 have hY:Sp.TreeClone list f t=Sp.l23Put list ((Sp.l23Copies list f t).getD []):=by (rw[Sp.TreeClone,if_pos hok,hcc];rfl)
 exact H.retP (by rw[hY];exact⟨_,rfl,hsr512⟩)
theorem DiskClone_c (w0:World)(G0:PH)(hG:PSub G0 w0)(cd:List Value)(d:BDisk)(hd:diskE G0 d cd)(f:Bs)(hf:f.length≤16777216)(t:Bs)(ht:t.length≤16777216) :
  Calls Tryz.prog 8 #[.agg cd.toArray,str f,str t] w0 (RetO w0 G0 (fun G val r=>∃u u1 u2,val= .tuple #[.agg #[u,u1,u2],.bool (Sp.DiskClone d f t).isSome]∧AccOf snapE 2 91 (((Sp.DiskClone d f t).map (·.snaps)).getD []) G u2 r∧RdH G u (((Sp.DiskClone d f t).map (·.store)).getD [])∧RdItems G u1 (((Sp.DiskClone d f t).map (·.tree)).getD []))):=by
 obtain⟨_,_,_,_,_,_,_,_,_,rfl,hr1,hr1',hr1'',⟨_,_⟩,⟨_,_⟩,_,_⟩:=ox hd
 have H:=Hp.init hG
 refine calls_of_W (l:=[_,str f,str t]) func8 Z ntmps8 Z (q2 (o_box H Z Z Z ?_));intro _ _ _ H
 refine xal H Z ?_;intro _ _ _ H
 refine aG Z (q1 (fA 1 Z (lB 1 H Z3 (pe 2 Z (xc Z2 (TreeClone_c _ _ H.sub _ _ hr1' _ hf _ ht) ?_)))))
 rintro _ _ ⟨_,_,g4,rfl,_,rfl,hr4_0⟩
 have H:=H.grow g4
 have hr1:=hr1.up g4.le
 have hr1':=hr1'.up g4.le
 have hr1'':=hr1''.up g4.le
 obtain⟨_,_,rfl⟩:=hr4_0.shape;have hx_hr4_0:_≤1099511627776:=hr4_0.lim
 refine⟨_,Z,?_⟩
 refine pe 5 Z (q3 (W_seq (q2 (lA 1 3 H Z4 (xr H Z2 (DiskValid_c _ _ H.sub _ d ⟨_,_,_,_,_,_,_,_,_,Z,hr1,hr1',hr1''⟩) ?_)))));intro _ H
 refine pe 2 Z ?_
 refine R_case (t:=26) Z ?_ ?_
 ·intro hc6
  try simp only[nrm]at hc6
  refine pe 3 Z (q3 (W_true Z (q2 (o_build bf32 Z Z Z (xst 0 H Z8 ?_)))));intro _ H
  refine aG Z (q3 (W_ret (N_K_ret (ret_gen (rs:=[.cell 6 32,.tmp 7]) (vs:=[_,_]) results8 ⟨⟨_,Z,load_blk 0 H isAgg32 sizeOf32 Z Z Z⟩,Z,trivial⟩ ?_))))
  have hN:Sp.DiskClone d f t=none:=by (by_cases hv:Sp.DiskValid d=true;(· (have hno:Sp.TreeClone d.tree f t=none:=by simp_all);simp[Sp.DiskClone,hno]);(· simp[Sp.DiskClone,hv]))
  have H:=H.addNil 91 2
  exact H.retO (k:=0) rfl (by rw[hN];exact⟨_,_,_,rfl,AccOf.mk rfl Chk.nil,RdS.nil _ _ _,RdS.nil _ _ _⟩) (acc_nd _ _ _ _ _)
 intro hc6'
 try simp only[nrm]at hc6'
 refine pe 3 Z (q3 ?_)
 refine W_cond Z ?_ ?_
 ·intro hc8
  try simp only[nrm]at hc8
  refine q2 (o_build bf32 Z Z Z (xst 0 H Z8 ?_));intro _ H
  refine aG Z (q3 (W_ret (N_K_ret (ret_gen (rs:=[.cell 6 32,.tmp 7]) (vs:=[_,_]) results8 ⟨⟨_,Z,load_blk 0 H isAgg32 sizeOf32 Z Z Z⟩,Z,trivial⟩ ?_))))
  have hN:Sp.DiskClone d f t=none:=by (by_cases hv:Sp.DiskValid d=true;(· (have hno:Sp.TreeClone d.tree f t=none:=by simp_all);simp[Sp.DiskClone,hno]);(· simp[Sp.DiskClone,hv]))
  have H:=H.addNil 91 2
  exact H.retO (k:=0) rfl (by rw[hN];exact⟨_,_,_,rfl,AccOf.mk rfl Chk.nil,RdS.nil _ _ _,RdS.nil _ _ _⟩) (acc_nd _ _ _ _ _)
 intro hc8'
 try simp only[nrm]at hc8'
 refine W_skip (N_K (q2 (fA 1 Z (lB 1 H Z3 (pe 2 Z (xc Z2 (l23Copies_c _ _ H.sub _ _ hr1' _ hf _ ht) ?_))))))
 rintro _ _ ⟨_,_,_,g10,rfl,⟨_,rfl,⟨_,rfl,hchk10⟩⟩,hp10,hq10,hs10⟩
 have H:=H.growO g10 hp10 hq10 hs10;obtain⟨_,_,rfl⟩:=H.accShape (k:=0) rfl
 have hr1:=hr1.up g10.le
 have hr1':=hr1'.up g10.le
 have hr1'':=hr1''.up g10.le
 have hr4_0:=hr4_0.up g10.le
 refine⟨_,Z,?_⟩
 have hcl2:=Sp.copies_len2 d.tree f t
 refine pe 5 Z (q1 (fA 0 Z (lB 2 H Z3 (mV Z ?_))))
 obtain⟨_,H,hsg12,hsr12⟩:=H.shut' (k:=0) rfl hchk10 aN aN
 have hr1:=hr1.up hsg12
 have hr1':=hr1'.up hsg12
 have hr1'':=hr1''.up hsg12
 have hr4_0:=hr4_0.up hsg12
 refine xc Z2 (l12Keep_c _ _ H.sub _ _ hr1 _ _ hsr12) ?_
 rintro _ _ ⟨_,_,_,g11,rfl,⟨_,rfl,⟨_,rfl,hchk11⟩⟩,hp11,hq11,hs11⟩
 have H:=H.growO g11 hp11 hq11 hs11;obtain⟨_,_,rfl⟩:=H.accShape (k:=0) rfl
 have hr1:=hr1.up g11.le
 have hr1':=hr1'.up g11.le
 have hr1'':=hr1''.up g11.le
 have hr4_0:=hr4_0.up g11.le
 refine⟨_,Z,?_⟩
 have hkl:=Sp.l12Keep_len d.store ((Sp.l23Copies d.tree f t).getD [])
 refine pe 5 Z (q3 (W_seq (q2 (pe 2 Z (q3 ?_)))))
 refine W_cond Z ?_ ?_
 ·intro hc13
  try simp only[nrm]at hc13
  refine q2 (o_build bf32 Z Z Z (xst 1 H Z8 ?_));intro _ H
  refine aG Z (q3 (W_ret (N_K_ret (ret_gen (rs:=[.cell 6 32,.tmp 7]) (vs:=[_,_]) results8 ⟨⟨_,Z,load_blk 1 H isAgg32 sizeOf32 Z Z Z⟩,Z,trivial⟩ ?_))))
  have hN:Sp.DiskClone d f t=none:=by (have hno:Sp.l12Keep d.store ((Sp.l23Copies d.tree f t).getD [])=none:=by simpa using hc13);simp[Sp.DiskClone,hno]
  have H:=H.addNil 91 2
  exact H.retO (k:=0) rfl (by rw[hN];exact⟨_,_,_,rfl,AccOf.mk rfl Chk.nil,RdS.nil _ _ _,RdS.nil _ _ _⟩) (acc_nd _ _ _ _ _)
 intro hc13'
 try simp only[nrm]at hc13'
 refine W_skip (N_K (q2 (lA 2 3 H Z4 (xc Z2 (l12Copy_c _ _ H.sub _ d ⟨_,_,_,_,_,_,_,_,_,Z,hr1,hr1',hr1''⟩) ?_))))
 rintro _ _ ⟨_,_,_,g15,rfl,⟨_,_,_,rfl,⟨_,rfl,hchk15⟩,hr15_0,hr15_1⟩,hp15,hq15,hs15⟩
 have H:=H.growO g15 hp15 hq15 hs15;obtain⟨_,_,rfl⟩:=H.accShape (k:=0) rfl
 have hr4_0:=hr4_0.up g15.le
 have hchk11:=hchk11.up g15.le
 obtain⟨_,_,rfl⟩:=hr15_0.shape;have hx_hr15_0:_≤1099511627776:=hr15_0.lim
 obtain⟨_,_,rfl⟩:=hr15_1.shape;have hx_hr15_1:_≤1099511627776:=hr15_1.lim
 refine⟨_,Z,?_⟩
 refine xal H Z ?_;intro _ _ _ H
 refine xst 0 H Z8 ?_;intro _ H
 refine q1 (mV Z (fA 0 Z (xst 0 H Z8 ?_)));intro _ H
 refine q1 (mV Z (fA 1 Z (xst 0 H Z8 ?_)));intro _ H
 refine q1 (lA 0 3 H Z4 (xst 3 H Z8 ?_));intro _ H
 refine aG Z (q3 (W_ret (ret_gen (rs:=[.cell 6 32,.tmp 7]) (vs:=[_,_]) results8 ⟨⟨_,Z,load_blk 3 H isAgg32 sizeOf32 Z Z Z⟩,Z,trivial⟩ ?_)))
 obtain⟨_,H,hsg525,hsr525⟩:=H.shut' (k:=2) rfl hchk11 aN aN
 have hr4_0:=hr4_0.up hsg525
 have hchk15:=hchk15.up hsg525
 have hY:Sp.DiskClone d f t=some ⟨(Sp.l12Keep d.store ((Sp.l23Copies d.tree f t).getD [])).getD [],(Sp.TreeClone d.tree f t).getD [],d.snaps⟩:=by (obtain⟨_,_⟩:=Option.isSome_iff_exists.1 (show(Sp.l12Keep d.store ((Sp.l23Copies d.tree f t).getD [])).isSome=true by simpa using hc13'));(obtain⟨_,_⟩:=Option.isSome_iff_exists.1 (show(Sp.TreeClone d.tree f t).isSome=true by simp_all));simp_all [Sp.DiskClone]
 exact H.retO (k:=1) rfl (by rw[hY];exact⟨_,_,_,rfl,AccOf.mk aN hchk15,hsr525,hr4_0⟩) (acc_nd _ _ _ _ _)
theorem DrawDiskClone_c (w0:World)(G0:PH)(hG:PSub G0 w0)(vcode:Value)(code:List (UInt8))(hcode:RdU G0 vcode code) :
  Calls Tryz.prog 14 #[vcode] w0 (RetP w0 G0 (fun G v=>∃(cs:List Value) (x:BDisk) (p0:Bs) (p1:Bs),v= .tuple #[.agg cs.toArray,str p0,str p1]∧diskE G x cs∧p0.length≤16777216∧p1.length≤16777216)):=by
 obtain⟨acode,kcode,rfl⟩:=hcode.shape
 have hlimcode:code.length≤1099511627776:=hcode.lim
 have H:=Hp.init hG
 refine calls_of_W (l:=[.slice acode code.length kcode]) func14 Z ntmps14 Z (q2 (xal H Z ?_));intro _ _ _ H
 refine pe 2 Z (q1 (mV Z (xc Z2 (l6Open_c _ _ H.sub _ _ hcode) ?_)))
 rintro _ _ ⟨_,_,_,g2,rfl,⟨_,_,_,_,_,rfl,rfl,hbs2⟩,hp2,hq2,hs2⟩
 have H:=H.growO g2 hp2 hq2 hs2
 refine⟨_,Z,?_⟩
 refine aG Z (q1 (mV Z (xc Z2 (l91Disk_c _ _ H.sub _ _ _ _ _ _ hbs2 (H.blkIs (k:=0) Z).1 (H.blkIs (k:=0) Z).2 oM) ?_)))
 rintro _ _ ⟨G3,_,_,rfl,H3',⟨_,_,_,_,st3,tr3,sn3,_,rfl,hst3,htr3,hsn3,rfl⟩⟩
 have hbs2:=hbs2.up H3'.le
 have H:=H.borrow (k:=0) rfl H3'
 obtain⟨_,_,rfl⟩:=hst3.shape;have hx_hst3:_≤1099511627776:=hst3.lim;obtain⟨_,_,rfl⟩:=htr3.shape;have hx_htr3:_≤1099511627776:=htr3.lim;obtain⟨_,_,rfl⟩:=hsn3.shape;have hx_hsn3:_≤1099511627776:=hsn3.lim
 refine⟨_,Z,?_⟩
 refine xal H Z ?_;intro _ _ _ H
 refine xst 0 H Z8 ?_;intro _ H
 refine q3 (W_seq (W_drawK [0] 11 H kR Z ?_));intro _ H;have hd6:=PLe.refl G3
 refine RD_t 0 Z kR Z (fun _ hK=>v_loadagg_B 0 hK isAgg32 sizeOf32 Z Z Z Z) (dE 1 Z2 (dF 2 1 Z2 (dB 3 0 Z4 (dE 5 Z2 ?_))))
 refine r2 4 6 Z2 ?_ ?_
 ·skip
  refine xc Z2 (l91At_c _ _ H.sub _ _ _ _ _ _ hbs2 (H.blkIs (k:=1) Z).1 (H.blkIs (k:=1) Z).2 oM _ _ htr3) ?_
  rintro _ _ ⟨G7,_,_,rfl,H7',⟨_,_,_,rfl,hxs7,rfl⟩⟩
  have hbs2:=hbs2.up H7'.le
  have hst3:=hst3.up H7'.le
  have htr3:=htr3.up H7'.le
  have hsn3:=hsn3.up H7'.le
  have hd6:=hd6.trans H7'.le
  have H:=H.borrow (k:=1) rfl H7'
  refine⟨_,Z,?_⟩
  refine q4 H hd6 (r1 6 Z (xbs H Z7 ?_));intro _ _ _ H
  refine q4 H hd6 (r1 7 Z ?_)
  have H:=H.blkAcc 1 (k:=0) (n:=5) rfl rfl (by decide)
  have hchk10:=((((((Chk.nil (E:=strE) (sz:=1) (G:=G7)).snoc (show strE _ ([101]:Fw.Bs) [str [101]] from⟨rfl,by decide⟩) rfl).snoc (show strE _ ([102]:Fw.Bs) [str [102]] from⟨rfl,by decide⟩) rfl).snoc (show strE _ ([98,47,122]:Fw.Bs) [str [98,47,122]] from⟨rfl,by decide⟩) rfl).snoc (show strE _ ([97,47,119]:Fw.Bs) [str [97,47,119]] from⟨rfl,by decide⟩) rfl).snoc (show strE _ ([99]:Fw.Bs) [str [99]] from⟨rfl,by decide⟩) rfl)
  obtain⟨_,H,hsg11,hsr11⟩:=H.shut' (k:=0) rfl hchk10 aN aN
  have hbs2:=hbs2.up hsg11
  have hst3:=hst3.up hsg11
  have htr3:=htr3.up hsg11
  have hsn3:=hsn3.up hsg11
  have hd6:=hd6.trans hsg11
  refine xc Z2 (of_c _ _ H.sub _ _ _ _ _ _ hbs2 (H.blkIs (k:=0) Z).1 (H.blkIs (k:=0) Z).2 oM _ _ hsr11 (by first|decide|(simp;done)|(simp;omega))) ?_
  rintro _ _ ⟨_,_,_,rfl,H9',⟨_,_,_,rfl,hxs9,rfl⟩⟩
  have hst3:=hst3.up H9'.le
  have htr3:=htr3.up H9'.le
  have hsn3:=hsn3.up H9'.le
  have hd6:=hd6.trans H9'.le
  have H:=H.borrow (k:=0) rfl H9'
  refine⟨_,Z,?_⟩
  refine q4 H hd6 (r1 8 Z (xst 2 H Z8 ?_));intro _ H
  refine q4 H hd6 (dE 9 Z2 (dE 10 Z2 (rz (N_K (W_ret (ret_gen (rs:=[.cell 2 32,.tmp 3,.tmp 4]) (vs:=[_,_,_]) results14 ⟨⟨_,Z,load_blk 2 H isAgg32 sizeOf32 Z Z Z⟩,Z,Z,trivial⟩ ?_))))))
  have H:=H.dl 0
  have H:=H.dl 0
  have H:=H.dl 0
  exact H.retP ⟨_,⟨st3,tr3,sn3⟩,_,_,Z,⟨_,_,_,_,_,_,_,_,_,Z,hst3,htr3,hsn3⟩,hxs7,hxs9⟩
 skip
 refine xbs H Z7 ?_;intro _ _ _ H
 refine q4 H hd6 (r1 4 Z (xc Z2 (l91At_c _ _ H.sub _ _ _ _ _ _ hbs2 (H.blkIs (k:=2) Z).1 (H.blkIs (k:=2) Z).2 oM _ _ htr3) ?_))
 rintro _ _ ⟨G14,_,_,rfl,H14',⟨_,_,_,rfl,hxs14,rfl⟩⟩
 have hbs2:=hbs2.up H14'.le
 have hst3:=hst3.up H14'.le
 have htr3:=htr3.up H14'.le
 have hsn3:=hsn3.up H14'.le
 have hd6:=hd6.trans H14'.le
 have H:=H.borrow (k:=2) rfl H14'
 refine⟨_,Z,?_⟩
 refine q4 H hd6 (r1 7 Z ?_)
 have H:=H.blkAcc 1 (k:=1) (n:=5) rfl rfl (by decide)
 have hchk16:=((((((Chk.nil (E:=strE) (sz:=1) (G:=G14)).snoc (show strE _ ([101]:Fw.Bs) [str [101]] from⟨rfl,by decide⟩) rfl).snoc (show strE _ ([102]:Fw.Bs) [str [102]] from⟨rfl,by decide⟩) rfl).snoc (show strE _ ([98,47,122]:Fw.Bs) [str [98,47,122]] from⟨rfl,by decide⟩) rfl).snoc (show strE _ ([97,47,119]:Fw.Bs) [str [97,47,119]] from⟨rfl,by decide⟩) rfl).snoc (show strE _ ([99]:Fw.Bs) [str [99]] from⟨rfl,by decide⟩) rfl)
 obtain⟨_,H,hsg17,hsr17⟩:=H.shut' (k:=1) rfl hchk16 aN aN
 have hbs2:=hbs2.up hsg17
 have hst3:=hst3.up hsg17
 have htr3:=htr3.up hsg17
 have hsn3:=hsn3.up hsg17
 have hd6:=hd6.trans hsg17
 refine xc Z2 (of_c _ _ H.sub _ _ _ _ _ _ hbs2 (H.blkIs (k:=0) Z).1 (H.blkIs (k:=0) Z).2 oM _ _ hsr17 (by first|decide|(simp;done)|(simp;omega))) ?_
 rintro _ _ ⟨_,_,_,rfl,H15',⟨_,_,_,rfl,hxs15,rfl⟩⟩
 have hst3:=hst3.up H15'.le
 have htr3:=htr3.up H15'.le
 have hsn3:=hsn3.up H15'.le
 have hd6:=hd6.trans H15'.le
 have H:=H.borrow (k:=0) rfl H15'
 refine⟨_,Z,?_⟩
 refine q4 H hd6 (r1 8 Z (xst 2 H Z8 ?_));intro _ H
 refine q4 H hd6 (dE 9 Z2 (dE 10 Z2 (rz (N_K (W_ret (ret_gen (rs:=[.cell 2 32,.tmp 3,.tmp 4]) (vs:=[_,_,_]) results14 ⟨⟨_,Z,load_blk 2 H isAgg32 sizeOf32 Z Z Z⟩,Z,Z,trivial⟩ ?_))))))
 have H:=H.dl 0
 have H:=H.dl 0
 have H:=H.dl 0
 exact H.retP ⟨_,⟨st3,tr3,sn3⟩,_,_,Z,⟨_,_,_,_,_,_,_,_,_,Z,hst3,htr3,hsn3⟩,hxs14,hxs15⟩
theorem DiskCloneP_c (w0:World)(G0:PH)(hG:PSub G0 w0)(cd:List Value)(d:BDisk)(hd:diskE G0 d cd)(f:Bs)(hf:f.length≤16777216)(t:Bs)(ht:t.length≤16777216) :
  Calls Tryz.prog 8 #[.agg cd.toArray,str f,str t] w0 (RetP w0 G0 (fun G val=>∃cs,val= .tuple #[.agg cs.toArray,.bool (Sp.DiskClone d f t).isSome]∧diskE G ((Sp.DiskClone d f t).getD ⟨[],[],[]⟩) cs)):=by
 refine(DiskClone_c w0 G0 hG cd d hd f hf t ht).mono ?_
 rintro _ _ ⟨_,_,_,g,rfl,⟨_,_,_,rfl,⟨_,rfl,hchk⟩,h1,h2⟩,hp,hq,hs⟩
 have H:=(Hp.init hG).growO g hp hq hs
 have hb:(((Sp.DiskClone d f t).map (·.snaps)).getD []).length≤6:=Sp.dk_lim (fun d1 h=>Sp.clone_valid h)
 obtain⟨_,H2,hle,hr⟩:=H.shut' (k:=0) rfl hchk rfl oM
 have e1:((Sp.DiskClone d f t).map (·.store)).getD []=((Sp.DiskClone d f t).getD ⟨[],[],[]⟩).store:=by cases Sp.DiskClone d f t<;>rfl
 have e2:((Sp.DiskClone d f t).map (·.tree)).getD []=((Sp.DiskClone d f t).getD ⟨[],[],[]⟩).tree:=by cases Sp.DiskClone d f t<;>rfl
 have e3:((Sp.DiskClone d f t).map (·.snaps)).getD []=((Sp.DiskClone d f t).getD ⟨[],[],[]⟩).snaps:=by cases Sp.DiskClone d f t<;>rfl
 rw[e1]at h1;rw[e2]at h2;rw[e3]at hr
 obtain⟨_,_,rfl⟩:=h1.shape
 obtain⟨_,_,rfl⟩:=h2.shape
 obtain⟨_,_,rfl⟩:=hr.shape
 exact H2.retP ⟨[_,_,_],Z,_,_,_,_,_,_,_,_,_,Z,h1.up hle,h2.up hle,hr⟩
theorem lDiskClone_c (w0:World)(G0:PH)(hG:PSub G0 w0)(vcode:Value)(code:List (UInt8))(hcode:RdU G0 vcode code) :
  Calls Tryz.prog 4 #[vcode] w0 (Rets w0 (.bool true)):=by
 obtain⟨acode,kcode,rfl⟩:=hcode.shape
 have hlimcode:code.length≤1099511627776:=hcode.lim
 have H:=Hp.init hG
 refine calls_of_W (l:=[.slice acode code.length kcode]) func4 Z ntmps4 Z (q2 (aG Z (q3 (W_seq (q2 (mV Z (lN Z (pe 1 Z (q3 ?_)))))))))
 refine W_cond Z ?_ ?_
 ·intro hc1
  try simp only[nrm]at hc1
  refine q2 (aG Z (q3 (W_ret (N_K_ret (rt1 results4 Z ?_)))))
  exact H.rets Z
 intro hc1'
 try simp only[nrm]at hc1'
 refine W_skip (N_K (q2 (mV Z (xc Z2 (DrawDiskClone_c _ _ H.sub _ _ hcode) ?_))))
 rintro _ _ ⟨_,_,g2,rfl,⟨_,uV,uP0,uP1,rfl,hV,hP0,hP1⟩⟩
 have H:=H.grow g2
 obtain⟨_,_,_,_,_,_,_,_,_,rfl,hr2,hr2',hr2'',⟨_,_⟩,⟨_,_⟩,_,_⟩:=ox hV
 refine⟨_,Z,?_⟩
 refine pe 4 Z (xal H Z ?_);intro _ _ _ H
 refine xst 0 H Z8 ?_;intro _ H
 refine pe 2 Z (q1 (lA 0 3 H Z4 (pe 2 Z (xc Z2 (i_DiskClone_c _ _ H.sub _ uV ⟨_,_,_,_,_,_,_,_,_,Z,hr2,hr2',hr2''⟩ _ hP0 _ hP1) ?_))))
 rintro _ _ ⟨_,_,rfl,H5',⟨u15,_,_,_,_,_,rfl,rfl,ho15,ho25,ho35⟩⟩
 have H:=H.readers (fp:=[]) (by simp) (PLe.refl _) H5'
 obtain⟨_,p15⟩:=ho15
 obtain⟨_,_,rfl⟩:=OwnS.shape p15
 obtain⟨_,p25⟩:=ho25
 obtain⟨_,_,rfl⟩:=OwnS.shape p25
 obtain⟨_,p35⟩:=ho35
 obtain⟨_,_,rfl⟩:=OwnS.shape p35
 refine⟨_,Z,?_⟩
 refine pe 3 Z (xal H Z ?_);intro _ _ _ H
 refine xst 0 H Z8 ?_;intro _ H
 refine aG Z (q1 (lA 4 3 H Z4 (pe 2 Z (xc Z2 (DiskCloneP_c _ _ H.sub _ uV ⟨_,_,_,_,_,_,_,_,_,Z,hr2,hr2',hr2''⟩ _ hP0 _ hP1) ?_))))
 rintro _ _ ⟨_,_,g8,rfl,_,rfl,hr8_0⟩
 have H:=H.grow g8
 have hr2':=hr2'.up g8.le
 have hr2'':=hr2''.up g8.le
 obtain⟨_,_,_,_,_,_,_,_,_,rfl,hr9,hr9',hr9'',⟨_,_⟩,⟨_,_⟩,_,_⟩:=ox hr8_0
 refine⟨_,Z,?_⟩
 refine pe 3 Z (xal H Z ?_);intro _ _ _ H
 refine xst 0 H Z8 ?_;intro _ H
 refine aG Z (q3 (W_seq (q2 (pe 2 Z (o_bneq_same underlying4 Z Z Z (mV Z (gR Z (lA 1 3 H Z4 (gR Z (lA 0 3 H Z4 (gR Z (xr H Z2 (w_sameDisk_c _ _ (H.lendSubL [2,3,4]) _ ((Sp.DiskClone uV uP0 uP1).getD ⟨[],[],[]⟩) ⟨_,_,_,_,_,_,_,_,_,Z,(H.lendOHs (k:=2) (ks:=[2,3,4]) Z Z ⟨_,p15⟩),(H.lendOIs (k:=3) (ks:=[2,3,4]) Z Z ⟨_,p25⟩),(H.lendOSn (k:=4) (ks:=[2,3,4]) Z Z ⟨_,p35⟩)⟩ _ ((Sp.DiskClone uV uP0 uP1).getD ⟨[],[],[]⟩) ⟨_,_,_,_,_,_,_,_,_,Z,(hr9.up (PPlus.le _ _ _)),(hr9'.up (PPlus.le _ _ _)),(hr9''.up (PPlus.le _ _ _))⟩ Z) ?_))))))))))));intro _ H
 refine pe 6 Z (q3 ?_)
 refine W_cond Z ?_ ?_
 ·intro hc13
  try simp only[nrm]at hc13
  refine q2 (pe 2 Z (o_beql_same underlying4 Z Z Z (mV Z (gR Z (lA 1 3 H Z4 (gR Z (lA 0 3 H Z4 (gR Z (xr H Z2 (w_sameDisk_c _ _ (H.lendSubL [2,3,4]) _ ((Sp.DiskClone uV uP0 uP1).getD ⟨[],[],[]⟩) ⟨_,_,_,_,_,_,_,_,_,Z,(H.lendOHs (k:=2) (ks:=[2,3,4]) Z Z ⟨_,p15⟩),(H.lendOIs (k:=3) (ks:=[2,3,4]) Z Z ⟨_,p25⟩),(H.lendOSn (k:=4) (ks:=[2,3,4]) Z Z ⟨_,p35⟩)⟩ _ ((Sp.DiskClone uV uP0 uP1).getD ⟨[],[],[]⟩) ⟨_,_,_,_,_,_,_,_,_,Z,(hr9.up (PPlus.le _ _ _)),(hr9'.up (PPlus.le _ _ _)),(hr9''.up (PPlus.le _ _ _))⟩ Z) ?_)))))))));intro _ H
  refine pe 2 Z (q3 (W_ret (N_K_ret (rt1 results4 Z ?_))))
  exact H.rets Z
 intro hc13'
 try simp only[nrm]at hc13'
 obtain⟨u2,hu2⟩:=Option.isSome_iff_exists.1 (show(Sp.DiskClone uV uP0 uP1).isSome=true by simpa using hc13')
 have hW:(Sp.DiskClone uV uP0 uP1).getD ⟨[],[],[]⟩=u2:=by (rw[hu2];rfl)
 have hvv:Sp.DiskValid ((Sp.DiskClone uV uP0 uP1).getD ⟨[],[],[]⟩)=true:=by (rw[hW];exact Sp.clone_valid hu2)
 have hts:Sp.TreeClone uV.tree uP0 uP1=some ((Sp.DiskClone uV uP0 uP1).getD ⟨[],[],[]⟩).tree:=by (rw[hW];exact Sp.clone_is hu2)
 have hln:((Sp.DiskClone uV uP0 uP1).getD ⟨[],[],[]⟩).store.length=uV.store.length:=by (rw[hW];exact Sp.clone_len hu2)
 have hsn:((Sp.DiskClone uV uP0 uP1).getD ⟨[],[],[]⟩).snaps=uV.snaps:=by (rw[hW];exact Sp.clone_snaps hu2)
 refine W_skip (N_K (q2 (fA 1 Z (lB 5 H Z3 (pe 2 Z (xc Z2 (i_TreeClone_c _ _ H.sub _ _ hr2' _ hP0 _ hP1) ?_))))))
 rintro _ _ ⟨_,_,rfl,H15',⟨_,u15,rfl,rfl,hO15⟩⟩
 have H:=H.readers (fp:=[]) (by simp) (PLe.refl _) H15'
 obtain⟨_,hP15⟩:=hO15
 obtain⟨_,_,rfl⟩:=OwnS.shape hP15
 refine⟨_,Z,?_⟩
 refine pe 5 Z (q1 (lA 2 3 H Z4 (xr H Z2 (i_DiskValid_c _ _ (H.lendSubL [3,4,5]) _ ((Sp.DiskClone uV uP0 uP1).getD ⟨[],[],[]⟩) ⟨_,_,_,_,_,_,_,_,_,Z,(H.lendOHs (k:=3) (ks:=[3,4,5]) Z Z ⟨_,p15⟩),(H.lendOIs (k:=4) (ks:=[3,4,5]) Z Z ⟨_,p25⟩),(H.lendOSn (k:=5) (ks:=[3,4,5]) Z Z ⟨_,p35⟩)⟩) ?_)));intro _ H
 refine mV Z ?_
 refine R_case (t:=66) Z ?_ ?_
 ·intro hc17
  try simp only[nrm]at hc17
  refine pe 3 Z ?_
  refine R_case (t:=69) Z ?_ ?_
  ·intro hc18
   try simp only[nrm]at hc18
   refine pe 1 Z (gR Z (fA 1 Z (gR Z (lB 2 H Z3 (gR Z ?_)))))
   refine xr H Z2 (w_sameTree_c _ _ (H.lendSubL [0,4]) _ _ (H.lendOIs (k:=0) (ks:=[0,4]) Z Z (OIs.mk hP15)) _ _ (H.lendOIs (k:=4) (ks:=[0,4]) Z Z ⟨_,p25⟩) (by first|rfl|(rw[hts];rfl))) ?_;intro _ H
   refine pe 2 Z (gR Z (fA 0 Z (gR Z (lB 2 H Z3 (gR Z (lN Z (gR Z (fA 0 Z (gR Z (lB 6 H Z3 (gR Z (lN Z (pe 3 Z ?_)))))))))))))
   refine R_case (t:=84) Z ?_ ?_
   ·intro hc20
    try simp only[nrm]at hc20
    refine gR Z (fA 2 Z (gR Z (lB 2 H Z3 (gR Z (fA 2 Z (gR Z (lB 6 H Z3 (gR Z (xr H Z2 (w_sameSnaps_c _ _ (H.lendSubL [5]) _ _ (H.lendOSn (k:=5) (ks:=[5]) Z Z ⟨_,p35⟩) _ _ (hr2''.up (PPlus.le _ _ _)) hsn) ?_)))))))));intro _ H
    refine pe 2 Z (q3 (W_ret (rt1 results4 Z ?_)))
    exact H.rets Z
   intro hc20'
   try simp only[nrm]at hc20'
   exact absurd (show False from by simp_all) id
  intro hc18'
  try simp only[nrm]at hc18'
  exact absurd (show False from by simp_all) id
 intro hc17'
 try simp only[nrm]at hc17'
 exact absurd (show False from by simp_all) id
theorem i_TreeFindI_c (w0:World)(G0:PH)(hG:PSub G0 w0)(vlist:Value)(list:List (BItem))(hlist:RdItems G0 vlist list)(path:Bs)(hpath:path.length≤16777216) :
  Calls Tryz.prog 62 #[vlist,str path] w0 (RetP w0 G0 (fun G v=>∃cs,v= .tuple #[.agg cs.toArray,.bool (Sp.TreeFind list path).isSome]∧itemE G ((Sp.TreeFind list path).getD ⟨[],false,[]⟩) cs)):=by
 obtain⟨alist,klist,rfl⟩:=hlist.shape
 have hlimlist:list.length≤1099511627776:=hlist.lim
 have H:=Hp.init hG
 refine calls_of_W (l:=[.slice alist list.length klist,str path]) func62 Z ntmps62 Z (q2 (xal H Z ?_));intro _ _ _ H
 refine aG Z (q1 (mV Z (xc Z2 (i_openTree_c _ _ H.sub _ _ hlist H.lent0) ?_)))
 rintro _ _ ⟨G2,_,_,rfl,H2',⟨rfl,rfl,hv2⟩|⟨T2,_,rfl,rfl,hN2,hT2,hv2⟩⟩
 ·skip
  have H:=H.borrow0 H2'
  refine⟨_,Z,?_⟩
  refine pe 5 Z (q3 (W_seq (q2 (pe 2 Z (q3 (W_true Z (q2 (o_build bf51 Z Z Z (xst 0 H Z8 ?_)))))))));intro _ H
  refine aG Z (q3 (W_ret (N_K_ret (ret_gen (rs:=[.cell 4 51,.tmp 5]) (vs:=[_,_]) results62 ⟨⟨_,Z,load_blk 0 H isAgg51 sizeOf51 Z Z Z⟩,Z,trivial⟩ ?_))))
  have H:=H.dl 0
  have hp:Sp.TreeFind list path=none:=(by first|exact Sp.tf_bad (by assumption)|exact Sp.tf_no (by assumption) (by assumption))
  exact H.retP ⟨_,(by (rw[hp];rfl)),(by (rw[hp];exact⟨_,_,_,rfl,by decide,RdS.nil _ _ _⟩))⟩
 skip
 have H:=H.borrow0 H2'
 refine⟨_,Z,?_⟩
 refine pe 5 Z (q3 (W_seq (q2 (pe 2 Z (q3 (W_false Z (W_skip (N_K (q2 (pe 2 Z (xc Z2 (i_find_n_c _ _ (H.lendSubL [0]) _ ((H.lendN (k:=0) (ks:=[0]) Z Z hN2).at (show Nd.at_ T2 []=some T2 from Z)) _ hpath hT2.wf) ?_)))))))))))
 rintro _ _ ⟨_,rfl,ew4,⟨hfi4,rfl⟩|⟨d4,hfi4,rfl⟩⟩
 ·skip
  have H:=H.step ew4;refine⟨_,rfl,?_⟩
  refine aG Z (q3 (W_seq (q2 (mV Z (o_eqnil_ptr underlying80 Z Z Z (q3 (W_true Z (q2 (o_build bf51 Z Z Z (xst 1 H Z8 ?_))))))))));intro _ H
  refine aG Z (q3 (W_ret (N_K_ret (ret_gen (rs:=[.cell 4 51,.tmp 5]) (vs:=[_,_]) results62 ⟨⟨_,Z,load_blk 1 H isAgg51 sizeOf51 Z Z Z⟩,Z,trivial⟩ ?_))))
  have H:=H.dl 0
  have H:=H.dl 0
  have hp:Sp.TreeFind list path=none:=(by first|exact Sp.tf_bad (by assumption)|exact Sp.tf_no (by assumption) (by assumption))
  exact H.retP ⟨_,(by (rw[hp];rfl)),(by (rw[hp];exact⟨_,_,_,rfl,by decide,RdS.nil _ _ _⟩))⟩
 skip
 have H:=H.step ew4;refine⟨_,rfl,?_⟩
 refine aG Z (q3 (W_seq (q2 ?_)))
 obtain⟨_,_,_,_,_,_,H,ohri,_,_,_,_,_⟩:=Hp.openNode H hN2 (Nd.find_at_ hfi4)
 obtain⟨_,_,rfl⟩:=H.accShape (k:=1) rfl;have hdo:=PLe.refl G2;have hn_ohri:=ohri.len
 refine mV Z (o_eqnil_ptr underlying80 Z Z Z (q3 (W_false Z (W_skip (N_K (W_seq (W_drawK [0] 12 H kR Z ?_)))))));intro _ H;have hd6:=PLe.refl G2
 refine dE 0 Z2 (dE 1 Z2 (dE 2 Z2 (dF 3 1 Z2 (dB 4 0 Z4 (dE 5 Z2 (dE 6 Z2 (dF 7 2 Z2 (dB 8 0 Z4 (RD_t 9 Z kR Z (fun _ hK=>v_build bf51 Z Z) (r1 10 Z (xst 3 H Z8 ?_)))))))))));intro _ H
 refine q4 H hd6 (dE 11 Z2 (rz (N_K (W_ret (ret_gen (rs:=[.cell 4 51,.tmp 5]) (vs:=[_,_]) results62 ⟨⟨_,Z,load_blk 3 H isAgg51 sizeOf51 Z Z Z⟩,Z,trivial⟩ ?_)))))
 have H:=H.sel [] rfl
 have hp:Sp.TreeFind list path=some ⟨path,d4.dir,d4.ids⟩:=Sp.tf_yes hT2 hfi4
 exact H.retP ⟨_,(by (rw[hp];rfl)),(by (rw[hp];exact⟨_,_,_,rfl,hpath,ohri⟩))⟩
theorem i_FileLoad_c (w0:World)(G0:PH)(hG:PSub G0 w0)(vlist:Value)(list:List (BHeld))(hlist:RdH G0 vlist list)(vids:Value)(ids:List (Int))(hids:RdI G0 vids ids) :
  Calls Tryz.prog 63 #[vlist,vids] w0 (RetN w0 G0 (fun v Bs=>∃(uv:Value) (c:List Value) (xs:List Int),v= .tuple #[uv,.bool (Sp.FileLoad list ids).isSome]∧Bs=[acc 3 1 uv xs.length c]∧Chk intE 1 (fun _=>none) c xs∧xs.length≤1000∧(∀ys,Sp.FileLoad list ids=some ys→xs=ys)∧(Sp.FileLoad list ids=none→xs=[]))):=by
 obtain⟨alist,klist,rfl⟩:=hlist.shape
 have hlimlist:list.length≤1099511627776:=hlist.lim
 obtain⟨aids,kids,rfl⟩:=hids.shape
 have hlimids:ids.length≤1099511627776:=hids.lim
 have H:=Hp.init hG
 refine calls_of_W (l:=[.slice alist list.length klist,.slice aids ids.length kids]) func63 Z ntmps63 Z (q2 (pe 2 Z (q1 (mV Z (xc Z2 (i_openStore_c _ _ H.sub _ _ hlist H.lent0) ?_)))))
 rintro _ _ ⟨G1,_,_,rfl,H1',⟨_,rfl,rfl⟩|⟨hV1,_,_,_,_,rfl,rfl,hm1,hS1⟩⟩
 ·skip
  have H:=H.borrow0 H1'
  refine⟨_,Z,?_⟩
  refine pe 5 Z (q3 (W_seq (q2 (pe 2 Z (q3 (W_true Z (q2 (pe 2 Z (q3 (W_ret (N_K_ret (rt2 results63 Z Z ?_))))))))))))
  have H:=H.addNil 3 1
  have hno:Sp.FileLoad list ids=none:=by (simp[Sp.FileLoad,show Sp.StoreValid list=false by assumption])
  have H:=H.forget hG (by simp)
  exact⟨_,_,rfl,H,_,_,[],(by (rw[hno];rfl)),rfl,(Chk.nil (E:=intE) (sz:=1) (G:=G1)),by simp,fun ys h=>(by rw[hno]at h;cases h),fun _=>rfl⟩
 skip
 have hids:=hids.up H1'.le
 have H:=H.borrow0 H1'
 refine⟨_,Z,?_⟩
 refine pe 5 Z (q3 (W_seq (q2 (pe 2 Z (q3 (W_false Z (W_skip (N_K (q2 (pe 2 Z (xc Z2 (i_loadFile_c _ _ (H.lendSubL [0]) _ _ _ _ _ (H.lendPredL (k:=0) (ks:=[0]) Z Z) hm1 (hS1.up (PPlus.le _ _ _)) hV1 _ _ (hids.up (PPlus.le _ _ _))) ?_)))))))))))
 rintro _ _ ⟨_,_,rfl,H2',⟨_,_,xs2,rfl,rfl,hchk2,hxl2,hxs2,hxn2⟩⟩
 have H:=H.readersL H2'
 obtain⟨_,_,rfl⟩:=H.accShape (k:=0) rfl
 refine⟨_,Z,?_⟩
 refine pe 4 Z (q3 (W_ret (rt2 results63 Z Z ?_)))
 have H:=H.dl 1
 have hd:Sp.FileLoad list ids=if Sp.l4Ids list ids then some (Sp.load list ids) else none:=by (have hq:=Sp.valid_iff.2 hV1;simp[Sp.FileLoad,hq])
 have H:=H.forget hG (by simp)
 exact⟨_,_,rfl,H,_,_,xs2,(by (rw[hd];cases Sp.l4Ids list ids<;>rfl)),acc_1 rfl,chkI (G:=fun _=>none) ((chkI hchk2)),hxl2,fun ys h=>(by (rw[hd]at h;by_cases hq:Sp.l4Ids list ids=true;(· (rw[if_pos hq]at h);cases h;exact hxs2 hq);(· (rw[if_neg hq]at h);cases h))),fun h=>hxn2 (by (rw[hd]at h;by_cases hq:Sp.l4Ids list ids=true;(· (rw[if_pos hq]at h);cases h);(· simpa using hq)))⟩
theorem w_readTree_c (w0:World)(G0:PH)(hG:PSub G0 w0)(cd:List Value)(d:BDisk)(hd:diskE G0 d cd)(path:Bs)(hpath:path.length≤16777216) :
  Calls Tryz.prog 22 #[.agg cd.toArray,str path] w0 (RetN w0 G0 (fun v Bs=>∃(uv:Value) (c:List Value) (xs:List Int),v= .tuple #[uv,.bool (Sp.readT d path).isSome]∧Bs=[acc 3 1 uv xs.length c]∧Chk intE 1 (fun _=>none) c xs∧xs.length≤1000∧(∀ys,Sp.readT d path=some ys→xs=ys)∧(Sp.readT d path=none→xs=[]))):=by
 obtain⟨_,_,_,_,_,_,_,_,_,rfl,hr1,hr1',hr1'',⟨_,_⟩,⟨_,_⟩,_,_⟩:=ox hd
 have H:=Hp.init hG
 refine calls_of_W (l:=[_,str path]) func22 Z ntmps22 Z (q2 (o_box H Z Z Z ?_));intro _ _ _ H
 refine pe 2 Z (q1 (fA 1 Z (lB 0 H Z3 (mV Z (xc Z2 (i_TreeFindI_c _ _ H.sub _ _ hr1' _ hpath) ?_)))))
 rintro _ _ ⟨G3,_,g3,rfl,_,rfl,hr3_0⟩
 have H:=H.grow g3
 have hr1:=hr1.up g3.le
 obtain⟨_,_,_,rfl,_,hr4,_,_⟩:=ox hr3_0
 refine⟨_,Z,?_⟩
 refine pe 3 Z (xal H Z ?_);intro _ _ _ H
 refine xst 0 H Z8 ?_;intro _ H
 refine aG Z (q3 (W_seq (q2 (pe 3 Z ?_))))
 refine R_case (t:=17) Z ?_ ?_
 ·intro hc7
  try simp only[nrm]at hc7
  refine pe 3 Z (q3 (W_true Z (q2 (xbs H Z7 ?_))));intro _ _ _ H
  have H:=H.blkAcc 1 (k:=0) (n:=0) rfl rfl (by decide)
  refine pe 2 Z (q3 (W_ret (N_K_ret (rt2 results22 Z Z ?_))))
  have H:=H.dl 1
  have H:=H.dl 1
  have hno:Sp.readT d path=none:=(by first|exact Sp.readT_no1 (by simpa using hc7)|exact Sp.readT_no2 (by simpa using hc7))
  have H:=H.forget hG (by simp)
  exact⟨_,_,rfl,H,_,_,[],(by (rw[hno];rfl)),rfl,chkI (G:=fun _=>none) ((Chk.nil (E:=intE) (sz:=1) (G:=G3))),by simp,fun ys h=>(by rw[hno]at h;cases h),fun _=>rfl⟩
 intro hc7'
 try simp only[nrm]at hc7'
 refine gR Z (fA 1 Z (gR Z (lB 0 H Z3 (pe 1 Z (q3 ?_)))))
 refine W_cond Z ?_ ?_
 ·intro hc9
  try simp only[nrm]at hc9
  refine q2 (xbs H Z7 ?_);intro _ _ _ H
  have H:=H.blkAcc 1 (k:=0) (n:=0) rfl rfl (by decide)
  refine pe 2 Z (q3 (W_ret (N_K_ret (rt2 results22 Z Z ?_))))
  have H:=H.dl 1
  have H:=H.dl 1
  have hno:Sp.readT d path=none:=(by first|exact Sp.readT_no1 (by simpa using hc9)|exact Sp.readT_no2 (by simpa using hc9))
  have H:=H.forget hG (by simp)
  exact⟨_,_,rfl,H,_,_,[],(by (rw[hno];rfl)),rfl,chkI (G:=fun _=>none) ((Chk.nil (E:=intE) (sz:=1) (G:=G3))),by simp,fun ys h=>(by rw[hno]at h;cases h),fun _=>rfl⟩
 intro hc9'
 try simp only[nrm]at hc9'
 refine W_skip (N_K (q2 (fA 0 Z (lB 1 H Z3 (fA 2 Z (lB 0 H Z3 (xc Z2 (i_FileLoad_c _ _ H.sub _ _ hr1 _ _ hr4) ?_)))))))
 rintro _ _ ⟨_,_,rfl,H11',⟨_,_,xs11,rfl,rfl,hchk11,hxl11,hxs11,hxn11⟩⟩
 have H:=H.readers (fp:=[]) (by simp) (PLe.refl _) H11'
 obtain⟨_,_,rfl⟩:=H.accShape (k:=0) rfl
 refine⟨_,Z,?_⟩
 refine pe 4 Z (q3 (W_ret (rt2 results22 Z Z ?_)))
 have H:=H.dl 1
 have H:=H.dl 1
 have hd:Sp.readT d path=_:=Sp.readT_yes (by simpa using hc7') (by simpa using hc9')
 have H:=H.forget hG (by simp)
 exact⟨_,_,rfl,H,_,_,xs11,(by (rw[hd];rfl)),acc_1 rfl,chkI (G:=fun _=>none) ((chkI hchk11)),hxl11,fun ys h=>hxs11 ys (by (rw[hd]at h;exact h)),fun h=>hxn11 (by (rw[hd]at h;exact h))⟩
theorem lDiskCloneRead_c (w0:World)(G0:PH)(hG:PSub G0 w0)(vcode:Value)(code:List (UInt8))(hcode:RdU G0 vcode code) :
  Calls Tryz.prog 5 #[vcode] w0 (Rets w0 (.bool true)):=by
 obtain⟨acode,kcode,rfl⟩:=hcode.shape
 have hlimcode:code.length≤1099511627776:=hcode.lim
 have H:=Hp.init hG
 refine calls_of_W (l:=[.slice acode code.length kcode]) func5 Z ntmps5 Z (q2 (aG Z (q3 (W_seq (q2 (mV Z (lN Z (pe 1 Z (q3 ?_)))))))))
 refine W_cond Z ?_ ?_
 ·intro hc1
  try simp only[nrm]at hc1
  refine q2 (aG Z (q3 (W_ret (N_K_ret (rt1 results5 Z ?_)))))
  exact H.rets Z
 intro hc1'
 try simp only[nrm]at hc1'
 refine W_skip (N_K (q2 (mV Z (xc Z2 (DrawDiskClone_c _ _ H.sub _ _ hcode) ?_))))
 rintro _ _ ⟨_,_,g2,rfl,⟨_,uV,uP0,uP1,rfl,hV,hP0,hP1⟩⟩
 have H:=H.grow g2
 obtain⟨_,_,_,_,_,_,_,_,_,rfl,hr2,hr2',hr2'',⟨_,_⟩,⟨_,_⟩,_,_⟩:=ox hV
 refine⟨_,Z,?_⟩
 refine pe 4 Z (xal H Z ?_);intro b3 _ _ H
 refine xst 0 H Z8 ?_;intro _ H
 refine pe 2 Z (q1 (lA 0 3 H Z4 (pe 2 Z (xc Z2 (i_DiskClone_c _ _ H.sub _ uV ⟨_,_,_,_,_,_,_,_,_,Z,hr2,hr2',hr2''⟩ _ hP0 _ hP1) ?_))))
 rintro _ _ ⟨_,_,rfl,H5',⟨_,_,_,E15,E25,E35,rfl,rfl,ho15,ho25,ho35⟩⟩
 have H:=H.readers (fp:=[]) (by simp) (PLe.refl _) H5'
 obtain⟨_,p15⟩:=ho15
 obtain⟨_,_,rfl⟩:=OwnS.shape p15
 obtain⟨_,p25⟩:=ho25
 obtain⟨_,_,rfl⟩:=OwnS.shape p25
 obtain⟨_,p35⟩:=ho35
 obtain⟨_,_,rfl⟩:=OwnS.shape p35
 refine⟨_,Z,?_⟩
 refine pe 3 Z (xal H Z ?_);intro b6 _ _ H
 refine xst 0 H Z8 ?_;intro _ H
 refine aG Z (q1 (lA 4 3 H Z4 (pe 2 Z (xc Z2 (DiskCloneP_c _ _ H.sub _ uV ⟨_,_,_,_,_,_,_,_,_,Z,hr2,hr2',hr2''⟩ _ hP0 _ hP1) ?_))))
 rintro _ _ ⟨G8,_,g8,rfl,_,rfl,hr8_0⟩
 have H:=H.grow g8
 have hr2:=hr2.up g8.le
 have hr2':=hr2'.up g8.le
 have hr2'':=hr2''.up g8.le
 obtain⟨_,_,_,_,_,_,_,_,_,rfl,hr9,hr9',hr9'',⟨_,_⟩,⟨_,_⟩,_,_⟩:=ox hr8_0
 refine⟨_,Z,?_⟩
 refine pe 3 Z (xal H Z ?_);intro b10 _ _ H
 refine xst 0 H Z8 ?_;intro _ H
 refine aG Z (q3 (W_seq (q2 (pe 2 Z (o_bneq_same underlying4 Z Z Z (mV Z (gR Z (lA 1 3 H Z4 (gR Z (lA 0 3 H Z4 (gR Z (xr H Z2 (w_sameDisk_c _ _ (H.lendSubL [2,3,4]) _ ((Sp.DiskClone uV uP0 uP1).getD ⟨[],[],[]⟩) ⟨_,_,_,_,_,_,_,_,_,Z,(H.lendOHs (k:=2) (ks:=[2,3,4]) Z Z ⟨_,p15⟩),(H.lendOIs (k:=3) (ks:=[2,3,4]) Z Z ⟨_,p25⟩),(H.lendOSn (k:=4) (ks:=[2,3,4]) Z Z ⟨_,p35⟩)⟩ _ ((Sp.DiskClone uV uP0 uP1).getD ⟨[],[],[]⟩) ⟨_,_,_,_,_,_,_,_,_,Z,(hr9.up (PPlus.le _ _ _)),(hr9'.up (PPlus.le _ _ _)),(hr9''.up (PPlus.le _ _ _))⟩ Z) ?_))))))))))));intro _ H
 refine pe 6 Z (q3 ?_)
 refine W_cond Z ?_ ?_
 ·intro hc13
  try simp only[nrm]at hc13
  refine q2 (pe 2 Z (o_beql_same underlying4 Z Z Z (mV Z (gR Z (lA 1 3 H Z4 (gR Z (lA 0 3 H Z4 (gR Z (xr H Z2 (w_sameDisk_c _ _ (H.lendSubL [2,3,4]) _ ((Sp.DiskClone uV uP0 uP1).getD ⟨[],[],[]⟩) ⟨_,_,_,_,_,_,_,_,_,Z,(H.lendOHs (k:=2) (ks:=[2,3,4]) Z Z ⟨_,p15⟩),(H.lendOIs (k:=3) (ks:=[2,3,4]) Z Z ⟨_,p25⟩),(H.lendOSn (k:=4) (ks:=[2,3,4]) Z Z ⟨_,p35⟩)⟩ _ ((Sp.DiskClone uV uP0 uP1).getD ⟨[],[],[]⟩) ⟨_,_,_,_,_,_,_,_,_,Z,(hr9.up (PPlus.le _ _ _)),(hr9'.up (PPlus.le _ _ _)),(hr9''.up (PPlus.le _ _ _))⟩ Z) ?_)))))))));intro _ H
  refine pe 2 Z (q3 (W_ret (N_K_ret (rt1 results5 Z ?_))))
  exact H.rets Z
 intro hc13'
 try simp only[nrm]at hc13'
 obtain⟨u2,hu2⟩:=Option.isSome_iff_exists.1 (show(Sp.DiskClone uV uP0 uP1).isSome=true by simpa using hc13')
 have hW:(Sp.DiskClone uV uP0 uP1).getD ⟨[],[],[]⟩=u2:=by (rw[hu2];rfl)
 obtain⟨htv,hpf⟩:=Sp.clone_src hu2
 refine W_skip (N_K (W_seq (q2 (aG Z (q3 (W_block ?_))))))
 obtain⟨ln15,hln15,H⟩:=H.name (k:=0) rfl
 obtain⟨ln16,hln16,H⟩:=H.name (k:=1) rfl
 obtain⟨ln17,hln17,H⟩:=H.name (k:=5) rfl
 refine W_lp (hf:=(Sub.cons (t:=3) Z (Sub.cons (t:=4) Z (Sub.cons (t:=5) Z (Sub.cons (t:=6) Z Sub.nil))))) (J:=fun M w m=>∃(k:Nat) (G:PH),M=[(10,.int .i64 (k:Int))]∧PLe G8 G∧Hp w0 G0 [] w G [blk b10 (cl ln15 32),blk b6 (cl ln16 32),frag E15,frag E25,frag E35,blk b3 (cl ln17 32)]∧(k≤uV.tree.length)∧m=(uV.tree.length-k)) (h0:=⟨0,_,Z,PLe.refl _,H,?inv,Z⟩) (round:=?round)
 case inv=>omega
 case round =>
  rintro _ _ _ ⟨k,G18,rfl,hle18,H,hinv18,rfl⟩
  subst hln15
  subst hln16
  subst hln17
  have hr2:=hr2.up hle18
  have hr2':=hr2'.up hle18
  have hr2'':=hr2''.up hle18
  have hk:=hinv18
  refine W_seq (q2 (mV Z (fA 1 Z (lB 5 H Z3 (lN Z (pe 1 Z (q3 ?_)))))))
  refine W_cond Z ?_ ?_
  ·intro hc19
   try simp only[nrm]at hc19
   refine W_skip (N_K (W_seq (W_block (q2 (fA 1 Z (lB 5 H Z3 (mV Z (iP k hr2' Z3 Z ?_))))))));intro _ _ z20 _ hz20 hE20 hrow20
   obtain⟨_,_,_,rfl,hi20,_,_,_⟩:=ox hE20
   refine fA 0 Z (lP H hrow20 0 Z2 (mV Z (xr H Z2 (i_PathWithin_c _ _ H.sub _ hi20 _ hP0) ?_)));intro _ H
   refine q3 ?_
   refine W_cond Z ?_ ?_
   ·intro hc22
    try simp only[nrm]at hc22
    refine q2 ?_
    have hpw:Sp.l1Within z20.path uP0=true:=by (rw[←Sp.pwithin2 (Sp.item_pv htv hz20) hpf];simpa using hc22)
    obtain⟨_,hpq1,hpq2⟩:=Sp.clone_read hu2 (List.mem_of_getElem? hz20) hpw
    have hrd:Sp.readT ((Sp.DiskClone uV uP0 uP1).getD ⟨[],[],[]⟩) ((Sp.PathMove z20.path uP0 uP1).getD [])=Sp.readT uV z20.path:=by (rw[hW,hpq1];exact hpq2)
    refine fA 1 Z (lB 5 H Z3 (mV Z (iP k hr2' Z3 Z ?_)));intro _ _ z23 _ hz23 hE23 hrow23
    obtain⟨_,_,_,rfl,hi23,_,_,_⟩:=ox hE23
    have hzz23:z20=z23:=Option.some.inj (hz20.symm.trans hz23)
    subst hzz23
    refine fA 0 Z (lP H hrow23 0 Z2 (pe 2 Z (xr H Z2 (i_PathMove_c _ _ H.sub _ hi23 _ hP0 _ hP1) ?_)));intro _ H
    refine pe 5 Z (q3 (W_seq (W_drawK [0,1,5] 13 H kR Z ?_)));intro _ H;have hd25:=PLe.refl G18
    refine RD_t 0 Z kR Z (fun _ hK=>v_loadagg_B 2 hK isAgg32 sizeOf32 Z Z Z Z) (dF 1 1 Z2 (dB 2 2 Z4 (dE 3 Z2 ?_)))
    have hl26:=hr2'.len
    obtain⟨_,_,z26,_,ha26,hz26,hq26,hE26,hrow26,_⟩:=hr2'.at (i:=k) oM
    clear hq26
    obtain⟨_,_,_,rfl,hi26,_,_,_⟩:=ox hE26
    have hzz26:z20=z26:=Option.some.inj (hz20.symm.trans hz26)
    subst hzz26
    refine dI 4 3 k ha26 Z3 Z (dF 5 0 Z2 (dP 6 hrow26 0 Z3 (r1 7 Z (xc Z2 (w_readTree_c _ _ H.sub _ uV ⟨_,_,_,_,_,_,_,_,_,Z,hr2,hr2',hr2''⟩ _ hi26) ?_))))
    rintro _ _ ⟨_,_,rfl,H27',⟨_,_,_,rfl,rfl,hchk27,_,hxs27,hxn27⟩⟩
    have H:=H.readers (fp:=[]) (by simp) (PLe.refl _) H27'
    obtain⟨_,_,rfl⟩:=H.accShape (k:=0) rfl
    refine⟨_,Z,?_⟩
    try rw[hrd]
    try rw[hrd]at hxs27
    try rw[hrd]at hxn27
    refine q4 H hd25 (dE 8 Z2 (dE 9 Z2 (dE 10 Z2 (dE 11 Z2 (dE 12 Z2 (rz (N_K (q2 (lA 2 3 H Z4 (mV Z (xc Z2 (w_readTree_c _ _ (H.lendSubL [3,4,5]) _ ((Sp.DiskClone uV uP0 uP1).getD ⟨[],[],[]⟩) ⟨_,_,_,_,_,_,_,_,_,Z,(H.lendOHs (k:=3) (ks:=[3,4,5]) Z Z ⟨_,p15⟩),(H.lendOIs (k:=4) (ks:=[3,4,5]) Z Z ⟨_,p25⟩),(H.lendOSn (k:=5) (ks:=[3,4,5]) Z Z ⟨_,p35⟩)⟩ _ (Sp.move_len _ _ _)) ?_)))))))))))
    rintro _ _ ⟨_,_,rfl,H28',⟨_,_,_,rfl,rfl,hchk28,_,hxs28,hxn28⟩⟩
    have H:=H.readersL H28'
    obtain⟨_,_,rfl⟩:=H.accShape (k:=0) rfl
    refine⟨_,Z,?_⟩
    try rw[hrd]
    try rw[hrd]at hxs28
    try rw[hrd]at hxn28
    refine pe 5 Z (q1 (pe 2 Z (o_bneq_same underlying4 Z Z Z (pe 3 Z (gR Z (xr H Z2 (w_sameInts_c _ _ (H.lendSubL [0,1]) _ _ (H.lendRdL (k:=1) (ks:=[0,1]) Z Z (chkI hchk27) aN aN) _ _ (H.lendRdL (k:=0) (ks:=[0,1]) Z Z (chkI hchk28) aN aN) (Sp.rd_same hxs27 hxn27 hxs28 hxn28)) ?_))))));intro _ H
    refine pe 2 Z (q3 (W_false Z (W_skip (N_B (N_K (W_region (mV Z (aD Z2 (aG Z (R_nil ?_))))))))))
    have H:=H.sel [2,3,4,5,6,7] rfl
    refine N_lp (hJ:=⟨k+1,_,Z,hle18,H,?inv,Z⟩) (hm:=?hm)
    case hm=>omega
    case inv=>omega
   intro hc22'
   try simp only[nrm]at hc22'
   refine W_skip (N_B (N_K (W_region (mV Z (aD Z2 (aG Z (R_nil ?_)))))))
   refine N_lp (hJ:=⟨k+1,_,Z,hle18,H,?inv,Z⟩) (hm:=?hm)
   case hm=>omega
   case inv=>omega
  intro hc19'
  try simp only[nrm]at hc19'
  refine W_exit (N_K_exit (N_LP_exit (N_B_same (N_K (q2 (aG Z (q3 (W_ret (rt1 results5 Z ?_)))))))))
  exact H.rets Z
theorem i_next_c (w0:World)(G0:PH)(hG:PSub G0 w0)(rb:Nat)(ab:Option Addr)(kb:Nat)(bs:List Int)(p:Nat)(hbs:RdI G0 (.slice ab bs.length kb) bs)(hp:p≤bs.length)(hbl:bs.length≤1000000)(hLent:Lent w0 G0 [blk rb (cl [.slice ab bs.length kb,.int .i64 (p:Int)] 229)]) :
  Calls Tryz.prog 197 #[.pointer (some ⟨rb,0,none⟩)] w0 (RetM w0 G0 [rb] (fun G' v Bs=>∃(u:Value) (c:List Value) (p':Nat),v=u∧Bs=[acc 3 1 u (Sp.nextC bs p).length c,blk rb (cl [.slice ab bs.length kb,.int .i64 (p':Int)] 229)]∧p'=min (p+8) bs.length∧Chk intE 1 G' c (Sp.nextC bs p))):=by
 have H:Hp w0 G0 [rb] w0 G0 [blk rb (cl [.slice ab bs.length kb,.int .i64 (p:Int)] 229)]:=hLent.hp
 refine calls_of_W (l:=[.pointer (some ⟨rb,0,none⟩)]) func197 Z ntmps197 Z (q2 (aG Z (q3 (W_seq (W_drawK [0] 12 H kR Z ?_)))));intro _ H;have hd1:=PLe.refl G0
 refine dE 0 Z2 (dE 1 Z2 (dF 2 1 Z2 (dB 3 0 Z4 (RD_t 4 Z kR Z (fun _ hK=>v_add Z Z oO) (dE 5 Z2 (dE 6 Z2 (dF 7 0 Z2 (dB 8 0 Z4 (dN 9 Z2 (RD_t 10 Z kR Z (fun _ hK=>v_min Z Z) (dE 11 Z2 (rz (N_K (W_seq (W_drawK [0] 12 H kR Z ?_)))))))))))))));intro _ H;have hd3:=PLe.refl G0
 refine dE 0 Z2 (dE 1 Z2 (dF 2 0 Z2 (dB 3 0 Z4 (dE 4 Z2 (dE 5 Z2 (dF 6 1 Z2 (dB 7 0 Z4 (dE 8 Z2 ?_))))))))
 have hcap4:=hbs.cap;try simp only[List.length_set,List.length_append,List.length_take,List.length_drop,List.length_replicate]at hcap4
 have hsl4:=hbs.part (i:=p) (j:=(min (p+8) bs.length)) oM oM
 have hsn1:=hsl4.len
 refine RD_t 9 Z kR Z (fun _ hK=>v_slice (i:=p) (j:=(min (p+8) bs.length)) underlying49 sizeOf3 Z Z Z oM oM aN aN) (r1 10 Z ?_)
 have H:=H.addNil 3 1
 refine o_append_P 0 H hsl4 (by intro _ _ hz _ hu;obtain⟨rfl,_⟩:=hz;simp at hu;subst hu;rfl) (sz:=1) (bytes:=8) underlying49 typeInfo3 ⟨_,rfl,rfl⟩ rfl rfl rfl rfl rfl rfl rfl oM rfl ?_;intro _ _ css5 hcl5 hcs5 H
 have hchk5:Chk intE 1 G0 ([]++css5.flatten) _:=⟨css5,rfl,hcl5,hcs5⟩
 obtain⟨_,_,rfl⟩:=H.accShape (k:=0) rfl
 refine q4 H hd3 (dE 11 Z2 (rz (N_K (q2 (pe 3 Z (fA 1 Z (xst 1 H Z8 ?_)))))));intro _ H
 refine q1 (pe 2 Z (q3 (W_ret (rt1 results197 Z ?_))))
 have hcx:(Sp.nextC bs p).length=min (p+8) bs.length-p:=by unfold Sp.nextC;simp;omega
 have hpm:min ((p:Int)+8) (bs.length:Int)=((min (p+8) bs.length:Nat):Int):=by omega
 exact H.retM ⟨_,_,min (p+8) bs.length,rfl,by rw[hcx,hpm];simp only[Nat.zero_add];rfl,rfl,hchk5⟩
theorem i_storeFile_c (w0:World)(G0:PH)(hG:PSub G0 w0)(mbs:Nat)(ess:Array MapEntry)(cks:Nat)(xss:List (Int×Value))(Ls:List BHeld)(hms:MapIs (Value.int .i64) ess cks xss)(hSs:StR G0 xss Ls)(hVs:Sp.VH Ls)(vbytes:Value)(bytes:List (Int))(hbytes:RdI G0 vbytes bytes)(hLent:Lent w0 G0 [blk mbs (.map ess cks)])(hB:Sp.FileValid bytes=true) :
  Calls Tryz.prog 158 #[.map (some mbs),vbytes] w0 (RetM w0 G0 [mbs] (fun G' v Bs=>∃(es':Array MapEntry) (ck':Nat) (xs':List (Int×Value)) (L':List BHeld) (u:Value) (c:List Value) (ids:List Int),v= .tuple #[u,.bool (Sp.FileStore Ls bytes).isSome]∧Bs=[acc 3 1 u ids.length c,blk mbs (.map es' ck')]∧MapIs (Value.int .i64) es' ck' xs'∧StR G' xs' L'∧Sp.VH L'∧(∀r,Sp.FileStore Ls bytes=some r→r=(L',ids))∧Chk intE 1 G' c ids∧ids.length≤1000)):=by
 obtain⟨abytes,kbytes,rfl⟩:=hbytes.shape
 have hlimbytes:bytes.length≤1099511627776:=hbytes.lim
 have hBl:bytes.length≤32:=by simp[Sp.FileValid]at hB;omega
 have H:Hp w0 G0 [mbs] w0 G0 [blk mbs (.map ess cks)]:=hLent.hp
 refine calls_of_W (l:=[.map (some mbs),.slice abytes bytes.length kbytes]) func158 Z ntmps158 Z (q2 (pe 2 Z (q1 (aG Z (q1 (mV Z (o_build bf229 Z Z Z (o_box H Z Z Z ?_))))))));intro b1 _ _ H
 refine aG Z (q3 (W_seq (q2 (mV Z (xc Z2 (i_next_c _ _ H.sub _ _ _ _ 0 hbytes oM oM H.lent1) ?_)))))
 rintro _ _ ⟨G2,_,_,rfl,H2',⟨_,_,_,rfl,rfl,_,hchk2⟩⟩
 have hSs:=hSs.up H2'.le
 have hbytes:=hbytes.up H2'.le
 have H:=H.borrow1 H2'
 obtain⟨_,_,rfl⟩:=H.accShape (k:=0) rfl
 refine⟨_,Z,?_⟩
 refine aG Z (q3 (W_block ?_))
 have H:=H.addNil 3 1
 refine W_lp (hf:=(Sub.cons (t:=0) Z (Sub.cons (t:=7) Z Sub.nil))) (J:=fun M w m=>∃(esm0:Array MapEntry) (ckm0:Nat) (xsm0:List (Int×Value)) (Lm0:List BHeld) (v:Value) (n:Nat) (cs:List Value) (xs:List (Int)) (v1:Value) (n1:Nat) (cs1:List Value) (xs1:List (Int)) (k p:Nat) (G:PH),M=[(6,v),(8,v1)]∧PLe G2 G∧Hp w0 G0 [mbs] w G [acc 3 1 v n cs,acc 3 1 v1 n1 cs1,blk b1 (cl [.slice abytes bytes.length kbytes,.int .i64 (p:Int)] 229),blk mbs (.map esm0 ckm0)]∧(MapIs (Value.int .i64) esm0 ckm0 xsm0∧StR G xsm0 Lm0∧Sp.VH Lm0∧Chk intE 1 G cs xs∧n=xs.length∧Chk intE 1 G cs1 xs1∧n1=xs1.length∧xs1=Sp.chunk bytes k∧p=min (8*k+8) bytes.length∧xs.length≤k∧k≤100∧Sp.foldB Sp.put1 ((Sp.l4Cut bytes).take k) (some (Ls,[]))=some (Lm0,xs))∧m=(100-k)) (h0:=⟨_,_,xss,Ls,_,_,_,[],_,_,_,(Sp.nextC bytes 0),0,_,_,Z,PLe.refl _,H,?inv,Z⟩) (round:=?round)
 case inv=>exact⟨hms,hSs,hVs,(by exact⟨(Chk.nil (E:=intE) (sz:=1) (G:=G2)),(by first|rfl|simp|(simp;omega)|omega),hchk2,by first|rfl|simp|(simp;omega)|omega,(by exact⟨Sp.next_zero _,by omega,by simp,by omega,by simp[Sp.foldB]⟩)⟩)⟩
 case round =>
  rintro _ _ _ ⟨esm0,ckm0,xsm0,Lm0,v,n,cs,xs,v1,n1,cs1,xs1,k,p,_,rfl,hle4,H,hinv4,rfl⟩
  have hbytes:=hbytes.up hle4
  obtain⟨hm4_m0,hS4_m0,hV4_m0,hinv4⟩:=hinv4
  obtain⟨hchk4_0,_,hinv4⟩:=hinv4
  obtain⟨_,_,rfl⟩:=H.accShape (k:=0) rfl
  obtain⟨hchk4_1,_,hinv4⟩:=hinv4
  obtain⟨_,_,rfl⟩:=H.accShape (k:=1) rfl
  obtain⟨rfl,hpk,_,_,hf⟩:=hinv4;have hcl:=Sp.chunk_len bytes k
  refine W_seq (q2 (mV Z (lN Z (pe 1 Z (q3 ?_)))))
  refine W_cond Z ?_ ?_
  ·intro hc5
   try simp only[nrm]at hc5
   refine W_skip (N_K (W_seq (W_block (q2 (pe 2 Z ?_)))))
   obtain⟨_,H,hsg7,hsr7⟩:=H.shutL (k:=1) rfl (H.apart (k:=1) (ks:=[3]) rfl rfl (by intro b hb;simpa [fpsAt,nth,blk] using hb)) hchk4_1 aN aN
   have hbytes:=hbytes.up hsg7
   have hS4_m0:=hS4_m0.up hsg7
   have hchk4_0:=hchk4_0.up hsg7
   have hle4:=hle4.trans hsg7
   have H:=H.tF 2
   refine xc Z2 (i_put_c _ _ H.sub _ _ _ _ _ hm4_m0 hS4_m0 hV4_m0 _ _ hsr7 H.lent1 (Sp.chunk_valid hB oM)) ?_
   rintro _ _ ⟨G6,_,_,rfl,H6',⟨_,_,xs6,L6,i6,rfl,rfl,hm6,hS6,hV6,hL6,_,hir6⟩⟩
   have hbytes:=hbytes.up H6'.le
   have hchk4_0:=hchk4_0.up H6'.le
   have hle4:=hle4.trans H6'.le
   have H:=H.borrow1 H6'
   refine⟨_,Z,?_⟩
   refine pe 5 Z (q3 (W_seq (q2 (pe 2 Z (q3 ?_)))))
   refine W_cond Z ?_ ?_
   ·intro hc8
    try simp only[nrm]at hc8
    refine q2 (pe 2 Z (q3 (W_ret (N_K_ret (N_B_ret (N_K_ret (N_LP_ret (N_B_ret (N_K_ret (rt2 results158 Z Z ?_))))))))))
    have hno:Sp.FileStore Ls bytes=none:=by (have hno:Sp.StorePut Lm0 (Sp.chunk bytes k)=none:=by simpa using hc8);simp only[Sp.FileStore,Sp.valid_iff.2 hVs,hB,Bool.and_self,if_true];exact Sp.foldB_stop hf (Sp.chunks_at oM) (by simp[Sp.put1,hno])
    have H:=H.addNil 3 1
    have H:=H.dl 2
    have H:=H.dl 2
    have H:=H.tF 1
    have H:=H.tF 1
    exact H.retM ⟨_,_,_,_,_,_,_,congrArg (fun b=>Value.tuple #[_,Value.bool b]) (show _=(Sp.FileStore Ls bytes).isSome by rw[hno];rfl),acc_1 aN,hm6,hS6,hV6,(fun r hr=>by rw[hno]at hr;cases hr),(Chk.nil (E:=intE) (sz:=1) (G:=G6)),by first|omega|(simp;done)|(simp;omega)⟩
   intro hc8'
   try simp only[nrm]at hc8'
   obtain⟨⟨r1,r2⟩,hsp⟩:=Option.isSome_iff_exists.1 hc8'
   have hLp:L6=r1:=by rw[hL6,hsp];rfl
   subst hLp
   obtain rfl:i6=r2:=(hir6 _ hsp).symm
   refine W_skip (N_K (W_region (pe 2 Z (xbs H Z7 ?_))));intro _ _ _ H
   refine o_append1 1 H (sz:=1) (bytes:=8) underlying49 typeInfo3 ⟨_,Z,Z⟩ Z Z Z Z Z Z Z Z Z Z oM Z ?_;intro _ _ H
   have hchk10:=hchk4_0.snoc (show intE _ i6 _ from⟨rfl,oO⟩) rfl
   obtain⟨_,_,rfl⟩:=H.accShape (k:=1) rfl
   refine aG Z (R_nil (N_B (N_K (W_region (mV Z ?_)))))
   have H:=H.tF 2
   refine xc Z2 (i_next_c _ _ H.sub _ _ _ _ p hbytes oM oM H.lent1) ?_
   rintro _ _ ⟨_,_,_,rfl,H11',⟨_,_,p11,rfl,rfl,_,hchk11⟩⟩
   have hS6:=hS6.up H11'.le
   have hchk10:=hchk10.up H11'.le
   have hle4:=hle4.trans H11'.le
   have H:=H.borrow1 H11'
   obtain⟨_,_,rfl⟩:=H.accShape (k:=0) rfl
   refine⟨_,Z,?_⟩
   refine aG Z (R_nil ?_)
   have H:=H.sel [3,0,1,2] rfl
   refine N_lp (hJ:=⟨_,_,xs6,L6,_,_,_,(xs++[i6]),_,_,_,(Sp.nextC bytes p),k+1,p11,_,Z,hle4,H,?inv,Z⟩) (hm:=?hm)
   case hm=>omega
   case inv=>exact⟨hm6,hS6,hV6,(by exact⟨hchk10,aN,hchk11,aN,(by exact⟨by rw[hpk];exact Sp.next_chunk _ _,by omega,by simp;omega,by omega,Sp.foldB_succ hf (Sp.chunks_at oM) (by simp[Sp.put1,hsp])⟩)⟩)⟩
  intro hc5'
  try simp only[nrm]at hc5'
  refine W_exit (N_K_exit (N_LP_exit (N_B_same (N_K (q2 (pe 3 Z (q3 (W_ret (rt2 results158 Z Z ?_)))))))))
  have hyes:Sp.FileStore Ls bytes=some (Lm0,xs):=by simp only[Sp.FileStore,Sp.valid_iff.2 hVs,hB,Bool.and_self,if_true];exact Sp.foldB_all hf (Sp.chunks_end oM)
  have H:=H.dl 1
  have H:=H.dl 1
  have H:=H.tF 1
  have H:=H.tF 1
  exact H.retM ⟨_,_,_,_,_,_,_,congrArg (fun b=>Value.tuple #[_,Value.bool b]) (show _=(Sp.FileStore Ls bytes).isSome by rw[hyes];rfl),acc_1 aN,hm4_m0,hS4_m0,hV4_m0,(fun r hr=>by rw[hyes]at hr;cases hr;rfl),hchk4_0,by first|omega|(simp;done)|(simp;omega)⟩
theorem i_count_r:∀(N:Nat) (w0:World) (G0:PH) (hG:PSub G0 w0) (t:Nd) (hndt:RdN G0 t) (hct:t.cnt≤100000) (hsz:t.size≤N),
  Calls Tryz.prog 199 #[.pointer (some ⟨t.b,0,none⟩)] w0 (Rets w0 (.int .i64 (t.cnt:Nat))):=by
 intro N
 induction N with
 | zero=>intro w0 G0 hG t hndt hct hsz;exact absurd (Nd.size_pos t) oM
 | succ N ih =>
 intro w0 G0 hG t hndt hct hsz
 obtain⟨_,_,_,_,_,_,_,hprt,hrit,hrkt⟩:=hndt.open
 have hn_hrit:=hrit.len;have hx_hrit:_≤1099511627776:=hrit.lim
 have hn_hrkt:=hrkt.len;have hx_hrkt:_≤1099511627776:=hrkt.lim
 subst hn_hrkt
 have H:=Hp.init hG
 refine calls_of_W (l:=[.pointer (some ⟨t.b,0,none⟩)]) func199 Z ntmps199 Z (q2 (aG Z (q1 (pe 2 Z (fA 3 Z (lP H hprt 3 Z2 (lN Z (aG Z (q3 (W_seq (q2 (pe 2 Z (fA 3 Z (lP H hprt 3 Z2 (lN Z ?_)))))))))))))))
 refine mV Z (q3 (W_block ?_))
 refine W_lp (hf:=(Sub.cons (t:=2) Z (Sub.cons (t:=14) Z (Sub.cons (t:=15) Z Sub.nil)))) (J:=fun M w m=>∃(k mm:Nat) (G:PH),M=[(16,.int .i64 (k:Int)),(3,.int .i64 (mm:Int))]∧PLe G0 G∧Hp w0 G0 [] w G []∧(k≤t.kids.length∧mm=Nd.cnts (t.kids.take k)+(t.kids.length-k))∧m=(t.kids.length-k)) (h0:=⟨0,t.kids.length,_,Z,PLe.refl _,H,?inv,Z⟩) (round:=?round)
 case inv=>simp[Nd.cnts]
 case round =>
  rintro _ _ _ ⟨k,mm,_,rfl,hle1,H,hinv1,rfl⟩
  have hrkt:=hrkt.up hle1
  obtain⟨_,hm⟩:=hinv1;have hct2:=Nd.cnts_take t.kids k;have hct3:=Nd.cnt_eq t;have hkl:=Nd.kids_le t
  refine q2 (pe 1 Z (q3 (W_seq ?_)))
  refine W_cond Z ?_ ?_
  ·intro hc2
   try simp only[nrm]at hc2
   refine W_skip (N_K (W_seq (W_block (q2 (iP k hrkt Z3 Z ?_)))));intro _ _ z3 _ hz3 hE3 hrow3
   obtain⟨rfl,hnd3⟩:=hE3;obtain⟨_,_,_,_,_,_,_,_,hri3,hrk3⟩:=hnd3.open;have hn_hri3:=hri3.len;have hx_hri3:_≤1099511627776:=hri3.lim;have hn_hrk3:=hrk3.len;have hx_hrk3:_≤1099511627776:=hrk3.lim
   have hzm:=List.mem_of_getElem? hz3;have hzc:=Nd.kid_cnt hzm;have hzs:=Nd.size_kid hzm
   refine lP H hrow3 0 Z2 (aG Z (q3 (W_region (pe 2 Z (xr H Z2 (ih _ _ H.sub _ hnd3 oM oM) ?_)))));intro _ H
   refine aD Z2 (aG Z (R_nil (N_B (N_K (W_region (aD Z2 (mV Z (R_nil ?_))))))))
   refine N_lp (hJ:=⟨k+1,(mm+z3.cnt),_,Z,hle1,H,?inv,Z⟩) (hm:=?hm)
   case hm=>omega
   case inv=>exact⟨by omega,by (rw[Nd.cnts_succ hz3];omega)⟩
  intro hc2'
  try simp only[nrm]at hc2'
  refine W_exit (N_K_exit (N_LP_exit (N_B_same (N_K (q2 (pe 2 Z (q3 (W_ret (rt1 results199 Z ?_)))))))))
  exact H.rets (congrArg (fun j:Nat=>Value.int .i64 (j:Int)) (by (rw[hm,List.take_of_length_le oM]);omega))
theorem i_count_c (w0:World)(G0:PH)(hG:PSub G0 w0)(t:Nd)(hndt:RdN G0 t)(hct:t.cnt≤100000) :
  Calls Tryz.prog 199 #[.pointer (some ⟨t.b,0,none⟩)] w0 (Rets w0 (.int .i64 (t.cnt:Nat))):=i_count_r _ w0 G0 hG t hndt hct (Nat.le_refl _)
theorem i_put_n_c (w0:World)(G0:PH)(hG:PSub G0 w0)(Ft:Fr)(t:Nd)(hNt:NdO 150 80 G0 t Ft)(cx:List Value)(x:BItem)(hx:itemE G0 x cx)(hLent:Lent w0 G0 [frag Ft])(hwt:t.wf)(hct:t.cnt≤1000) :
  Calls Tryz.prog 159 #[.pointer (some ⟨t.b,0,none⟩),.agg cx.toArray] w0 (RetM w0 G0 (fps [frag Ft]) (fun G' v Bs=>∃(nb:Nat) (F':Fr) (t':Nd),v= .bool (t.putN x nb).isSome∧Bs=[frag F']∧NdO 150 80 G' t' F'∧t'.b=t.b∧(t.putN x nb).getD t=t')):=by
 obtain⟨_,_,_,rfl,hi1,hr1,_,_⟩:=ox hx
 have H:Hp w0 G0 (fps [frag Ft]) w0 G0 [frag Ft]:=hLent.hp
 refine calls_of_W (l:=[.pointer (some ⟨t.b,0,none⟩),_]) func159 Z ntmps159 Z (q2 (o_box H Z Z Z ?_));intro _ _ hb2 H
 refine aG Z (q1 (mV Z (fA 0 Z (lB 0 H Z3 (xc Z2 (i_find_n_c _ _ (H.lendSubL [1]) _ ((H.lendN (k:=1) (ks:=[1]) Z Z hNt).at (show Nd.at_ t []=some t from Z)) _ hi1 hwt) ?_)))))
 rintro _ _ ⟨_,rfl,ew3,⟨hfi3,rfl⟩|⟨_,hfi3,rfl⟩⟩
 ·skip
  have H:=H.step ew3;refine⟨_,rfl,?_⟩
  refine aG Z (q3 (W_seq (q2 (mV Z (o_eqnil_ptr underlying80 Z Z Z (q3 (W_true Z (q2 (mV Z (xr H Z2 (i_count_c _ _ (H.lendSubL [1]) _ ((H.lendN (k:=1) (ks:=[1]) Z Z hNt).at (show Nd.at_ t []=some t from Z)) oM) ?_))))))))));intro _ H
  refine pe 2 Z ?_
  refine R_case (t:=15) Z ?_ ?_
  ·intro hc5
   try simp only[nrm]at hc5
   refine pe 1 Z (gR Z (lA 0 3 H Z4 (gR Z ?_)))
   have H:=H.tF 1
   refine xc Z2 (i_insert_c _ _ H.sub _ _ hNt _ x ⟨_,_,_,Z,hi1,hr1⟩ H.lent1 hwt hct) ?_
   rintro _ _ ⟨_,_,_,rfl,H6',⟨nb6,_,_,rfl,rfl,hN6,hb6,ht6⟩⟩
   have H:=H.borrow1 H6'
   try rw[←hb6]
   refine⟨_,Z,?_⟩
   refine pe 2 Z (q3 (W_ret (N_K_ret (rt1 results159 Z ?_))))
   have H:=H.dl 1
   have hput:=Nd.put_ins (nb:=nb6) hfi3 oM
   exact H.retM ⟨nb6,_,_,by (rw[hput];rfl),rfl,hN6,by (first|exact hb6|rfl),by (rw[hput];exact ht6)⟩
  intro hc5'
  try simp only[nrm]at hc5'
  refine pe 5 Z (q3 (W_ret (N_K_ret (rt1 results159 Z ?_))))
  have H:=H.dl 0
  have hput:=Nd.put_no1 (nb:=0) hfi3 oM
  exact H.retM ⟨0,_,_,by (rw[hput];rfl),rfl,hNt,rfl,by (rw[hput];rfl)⟩
 skip
 have H:=H.step ew3;refine⟨_,rfl,?_⟩
 refine aG Z (q3 (W_seq (q2 (mV Z (o_eqnil_ptr underlying80 Z Z Z (q3 (W_false Z (W_skip (N_K (W_seq (q2 ?_)))))))))))
 have H:=H.tF 1
 obtain⟨_,_,_,_,oFs,_,H,ohri,ohNs,_,_,hcov,hclose⟩:=Hp.openNode H hNt (Nd.find_at_ hfi3)
 obtain⟨_,_,rfl⟩:=H.accShape (k:=1) rfl;have hdo:=PLe.refl G0;have hn_ohri:=ohri.len
 refine pe 2 Z (fA 1 Z (lB 0 H Z3 (mV Z ?_)))
 refine R_case (t:=24) Z ?_ ?_
 ·intro hc7
  try simp only[nrm]at hc7
  refine pe 3 Z (q3 (W_true Z (q2 (aG Z (q3 (W_ret (N_K_ret (rt1 results159 Z ?_))))))))
  have H:=H.sel [0,1,2] rfl
  obtain⟨F2,H,hN2,hb2⟩:=hclose (Fs':=oFs) H (List.Perm.refl _) hdo ohri ohNs oM
  have hN2:=(Nd.upd_same (Nd.find_at_ hfi3))▸hN2
  have hput:=Nd.put_no2 (x:=x) (nb:=0) hfi3 (by simp_all)
  exact H.retM ⟨0,_,_,by (rw[hput];rfl),rfl,hN2,rfl,by (rw[hput];rfl)⟩
 intro hc7'
 try simp only[nrm]at hc7'
 refine gR Z (fA 1 Z (gR Z (lB 3 H Z3 (pe 1 Z (q3 ?_)))))
 refine W_cond Z ?_ ?_
 ·intro hc8
  try simp only[nrm]at hc8
  refine q2 (aG Z (q3 (W_ret (N_K_ret (rt1 results159 Z ?_)))))
  have H:=H.sel [0,1,2] rfl
  obtain⟨F2,H,hN2,hb2⟩:=hclose (Fs':=oFs) H (List.Perm.refl _) hdo ohri ohNs oM
  have hN2:=(Nd.upd_same (Nd.find_at_ hfi3))▸hN2
  have hput:=Nd.put_no2 (x:=x) (nb:=0) hfi3 (by simp_all)
  exact H.retM ⟨0,_,_,by (rw[hput];rfl),rfl,hN2,rfl,by (rw[hput];rfl)⟩
 intro hc8'
 try simp only[nrm]at hc8'
 refine W_skip (N_K (q2 (mV Z (fA 2 Z (lB 3 H Z3 (xc Z2 (l_Clone_c _ _ H.sub _ _ hr1) ?_))))))
 rintro _ _ ⟨_,_,_,g9,rfl,⟨_,rfl,hchk9⟩,hp9,hq9,hs9⟩
 have H:=H.growO g9 hp9 hq9 hs9;obtain⟨_,_,rfl⟩:=H.accShape (k:=0) rfl
 have ohNs:=ohNs.up g9.le
 have hdo:=hdo.trans g9.le
 refine⟨_,Z,?_⟩
 obtain⟨_,H,hsg10,hsr10⟩:=H.shutL (k:=0) rfl (H.apart (k:=0) (ks:=[1,2,3]) rfl rfl (by intro b hb;rcases hcov b hb with h|h|h;(· exact fpsAt_mem (k:=1) rfl rfl b (by simp[blk,h]));(· exact fpsAt_mem (k:=2) rfl rfl b h);(· exact fpsAt_mem (k:=3) rfl rfl b h))) hchk9 aN aN
 have ohNs:=ohNs.up hsg10
 have hdo:=hdo.trans hsg10
 refine pe 1 Z (fA 2 Z (xst 0 H Z8 ?_));intro _ H
 refine q1 (aG Z (q3 (W_ret (rt1 results159 Z ?_))))
 have H:=H.sel [0,1,2] rfl
 obtain⟨F2,H,hN2,hb2⟩:=hclose (ids':=x.ids) (Fs':=oFs) H (List.Perm.refl _) hdo hsr10 ohNs oM
 have hput:=Nd.put_set (nb:=0) hfi3 (by simp_all)
 exact H.retM ⟨0,_,_,by (rw[hput];rfl),rfl,hN2,hb2,by (rw[hput];rfl)⟩
theorem i_vwrite_c (w0:World)(G0:PH)(hG:PSub G0 w0)(mb:Nat)(es:Array MapEntry)(ck:Nat)(xs:List (Int×Value))(T:Nd)(FT:Fr)(L:List BHeld)(l:List BItem)(hm:MapIs (Value.int .i64) es ck xs)(hS:StR G0 xs L)(hN:NdO 150 80 G0 T FT)(hT:Nd.TOK T l)(hH:Sp.Hol L l)(path:Bs)(hpath:path.length≤16777216)(vbytes:Value)(bytes:List (Int))(hbytes:RdI G0 vbytes bytes)(hLent:Lent w0 G0 [blk mb (.map es ck),frag FT])(hB:Sp.FileValid bytes=true) :
  Calls Tryz.prog 118 #[.agg #[.map (some mb),.pointer (some ⟨T.b,0,none⟩)],str path,vbytes] w0 (RetM w0 G0 (fps [blk mb (.map es ck),frag FT]) (fun G' v Bs=>∃(es':Array MapEntry) (ck':Nat) (xs':List (Int×Value)) (F':Fr) (T':Nd) (L':List BHeld),v= .bool ((Sp.l11Write ⟨L,l⟩ path bytes)).isSome∧Bs=[blk mb (.map es' ck'),frag F']∧MapIs (Value.int .i64) es' ck' xs'∧StR G' xs' L'∧Sp.VH L'∧NdO 150 80 G' T' F'∧T'.b=T.b∧∀u',(Sp.l11Write ⟨L,l⟩ path bytes)=some u'→L'=u'.store∧Nd.TOK T' u'.tree∧Sp.Hol u'.store u'.tree)):=by
 obtain⟨abytes,kbytes,rfl⟩:=hbytes.shape
 have hlimbytes:bytes.length≤1099511627776:=hbytes.lim
 have H:Hp w0 G0 (fps [blk mb (.map es ck),frag FT]) w0 G0 [blk mb (.map es ck),frag FT]:=hLent.hp
 have hVd:=hH.vh;have hTc:=hT.cnt;have hTl:=hH.vt.len
 refine calls_of_W (l:=[_,str path,.slice abytes bytes.length kbytes]) func118 Z ntmps118 Z (q2 (o_box H Z Z Z ?_));intro _ _ _ H
 refine aG Z (q3 (W_seq (q2 (mV Z (xr H Z2 (i_PathValid_c _ _ H.sub _ hpath) ?_)))));intro _ H
 refine pe 1 Z (q3 ?_)
 refine W_cond Z ?_ ?_
 ·intro hc3
  try simp only[nrm]at hc3
  refine q2 (aG Z (q3 (W_ret (N_K_ret (rt1 results118 Z ?_)))))
  have H:=H.dl 0
  have H:=H.tF 1
  have H:=H.tF 1
  have hno:Sp.l11Write ⟨L,l⟩ path bytes=none:=Sp.write_nop (by simpa using hc3)
  exact H.retM ⟨_,_,_,_,_,_,congrArg Value.bool (by (rw[hno];rfl)),rfl,hm,hS,hVd,hN,rfl,fun u' h=>(by rw[hno]at h;cases h)⟩
 intro hc3'
 try simp only[nrm]at hc3'
 refine W_skip (N_K (q2 (fA 0 Z (lB 0 H Z3 (mV Z ?_)))))
 have H:=H.tF 1
 refine xc Z2 (i_storeFile_c _ _ H.sub _ _ _ _ _ hm hS hVd _ _ hbytes H.lent1 hB) ?_
 rintro _ _ ⟨_,_,_,rfl,H4',⟨_,_,_,L4,_,_,ids4,rfl,rfl,hm4,hS4,hV4,hL4,hchk4,_⟩⟩
 have hN:=hN.up H4'.le
 have H:=H.borrow1 H4'
 obtain⟨_,_,rfl⟩:=H.accShape (k:=0) rfl
 refine⟨_,Z,?_⟩
 refine pe 5 Z (q3 (W_seq (q2 (pe 2 Z (q3 ?_)))))
 refine W_cond Z ?_ ?_
 ·intro hc5
  try simp only[nrm]at hc5
  refine q2 (aG Z (q3 (W_ret (N_K_ret (rt1 results118 Z ?_)))))
  have H:=H.sel [1,3] rfl
  have hno:Sp.l11Write ⟨L,l⟩ path bytes=none:=Sp.l11Write_1 (v:=⟨L,l⟩) (by simpa using hc5)
  exact H.retM ⟨_,_,_,_,_,_,congrArg Value.bool (by (rw[hno];rfl)),rfl,hm4,hS4,hV4,hN,rfl,fun u' h=>(by rw[hno]at h;cases h)⟩
 intro hc5'
 try simp only[nrm]at hc5'
 refine W_skip (N_K (q2 ?_))
 obtain⟨G6,H,hsg6,hsr6⟩:=H.shutL (k:=0) rfl (H.apart (k:=0) (ks:=[1,3]) rfl rfl (by intro b hb;simp only[fps,List.flatMap_cons,List.flatMap_nil,List.append_nil,List.mem_append]at hb;rcases hb with h|h;(· exact fpsAt_mem (k:=1) rfl rfl b (by exact h));(· exact fpsAt_mem (k:=3) rfl rfl b (by exact h)))) hchk4 aN aN
 have hN:=hN.up hsg6
 have hS4:=hS4.up hsg6
 refine aG Z (q3 (W_seq (q2 (fA 1 Z (lB 1 H Z3 (mV Z (xc Z2 (i_find_n_c _ _ (H.lendSubL [2]) _ ((H.lendN (k:=2) (ks:=[2]) Z Z hN).at (show Nd.at_ T []=some T from Z)) _ hpath hT.wf) ?_)))))))
 rintro _ _ ⟨_,rfl,ew7,⟨hfi7,rfl⟩|⟨d7,hfi7,rfl⟩⟩
 ·skip
  have H:=H.step ew7;refine⟨_,rfl,?_⟩
  refine aG Z (q1 (mV Z (o_nenil_ptr underlying80 Z Z Z (q3 (W_false Z (W_skip (N_K (q2 (fA 1 Z (lB 1 H Z3 (pe 2 Z (o_build bf51 Z Z Z ?_))))))))))))
  have H:=H.tF 2
  refine xc Z2 (i_put_n_c _ _ H.sub _ _ hN _ ⟨path,false,ids4⟩ ⟨_,_,_,Z,hpath,hsr6⟩ H.lent1 hT.wf oM) ?_
  rintro _ _ ⟨_,_,_,rfl,H8',⟨nb8,_,t8,rfl,rfl,hN8,hb8,ht8⟩⟩
  have hS4:=hS4.up H8'.le
  have H:=H.borrow1 H8'
  try rw[←hb8]
  refine⟨_,Z,?_⟩
  refine mV Z ?_
  refine R_case (t:=39) Z ?_ ?_
  ·intro hc9
   try simp only[nrm]at hc9
   refine gR Z (fA 0 Z (gR Z (lB 2 H Z3 (pe 1 Z (gR Z ?_)))))
   have H:=H.tF 1
   refine xc Z2 (i_freeFile_c _ _ H.sub _ _ _ _ _ hm4 hS4 hV4 _ _ (RdS.nil _ _ _) H.lent1) ?_
   rintro _ _ ⟨_,_,_,rfl,H10',⟨_,_,_,_,rfl,rfl,hm10,hS10,hV10,hL10⟩⟩
   have hN8:=hN8.up H10'.le
   have H:=H.borrow1 H10'
   refine⟨_,Z,?_⟩
   refine pe 2 Z (q3 (W_ret (rt1 results118 Z ?_)))
   have H:=H.dl 2
   have H:=H.tF 1
   have H:=H.tF 1
   obtain⟨r,hr⟩:=Option.isSome_iff_exists.1 (show(Sp.FileStore L bytes).isSome=true by simpa using hc5')
   have hst:Sp.FileStore L bytes=some (L4,ids4):=hr.trans (congrArg some (hL4 r hr))
   have hpt:T.putN ⟨path,false,ids4⟩ nb8=some t8:=by (obtain⟨q,hq⟩:=Option.isSome_iff_exists.1 (show(T.putN ⟨path,false,ids4⟩ nb8).isSome=true by simpa using hc9);(rw[←ht8,hq];rfl))
   obtain⟨s',tt,g1,g2,g3,g4⟩:=Sp.write_fin hH hT (show Sp.PathValid path=true by simpa using hc3') hst hpt (.inl ⟨hfi7,rfl⟩)
   exact H.retM ⟨_,_,_,_,_,_,congrArg Value.bool (by (rw[g1,g2];rfl)),rfl,hm10,hS10,hV10,hN8,(by first|rfl|exact hb8),fun u' h=>(by rw[g2]at h;cases h;exact⟨hL10 _ g1,g3,g4⟩)⟩
  intro hc9'
  try simp only[nrm]at hc9'
  refine pe 6 Z (q3 (W_ret (rt1 results118 Z ?_)))
  have H:=H.dl 2
  have H:=H.tF 1
  obtain⟨r,hr⟩:=Option.isSome_iff_exists.1 (show(Sp.FileStore L bytes).isSome=true by simpa using hc5')
  have hst:Sp.FileStore L bytes=some (L4,ids4):=hr.trans (congrArg some (hL4 r hr))
  have hno:Sp.l11Write ⟨L,l⟩ path bytes=none:=Sp.write_no2 (nb:=nb8) hH hT (show Sp.PathValid path=true by simpa using hc3') hst (by simpa using hc9')
  exact H.retM ⟨_,_,_,_,_,_,congrArg Value.bool (by (rw[hno];rfl)),rfl,hm4,hS4,hV4,hN8,(by first|rfl|exact hb8),fun u' h=>(by rw[hno]at h;cases h)⟩
 skip
 have H:=H.step ew7;refine⟨_,rfl,?_⟩
 refine aG Z (q1 (mV Z (o_nenil_ptr underlying80 Z Z Z (q3 (W_true Z (W_region ?_))))))
 have H:=H.tF 2
 obtain⟨_,_,_,_,oFs,_,H,ohri,ohNs,_,_,_,hclose⟩:=Hp.openNode H hN (Nd.find_at_ hfi7)
 obtain⟨_,_,rfl⟩:=H.accShape (k:=1) rfl;have hdo:=PLe.refl G6;have hn_ohri:=ohri.len
 refine pe 2 Z (fA 2 Z (lB 0 H Z3 (aG Z (q1 ?_))))
 have H:=H.sel [0,1,2,3,4] rfl
 obtain⟨_,H,hN2,_⟩:=hclose (Fs':=oFs) H (List.Perm.refl _) hdo ohri ohNs oM
 have hN2:=(Nd.upd_same (Nd.find_at_ hfi7))▸hN2
 refine fA 1 Z (lB 2 H Z3 (pe 2 Z (o_build bf51 Z Z Z (xc Z2 (i_put_n_c _ _ H.sub _ _ hN2 _ ⟨path,false,ids4⟩ ⟨_,_,_,Z,hpath,hsr6⟩ H.lent1 hT.wf oM) ?_))))
 rintro _ _ ⟨_,_,_,rfl,H11',⟨nb11,_,t11,rfl,rfl,hN11,hb11,ht11⟩⟩
 have hS4:=hS4.up H11'.le
 have ohri:=ohri.up H11'.le
 have H:=H.borrow1 H11'
 try rw[←hb11]
 refine⟨_,Z,?_⟩
 refine mV Z ?_
 refine R_case (t:=39) Z ?_ ?_
 ·intro hc12
  try simp only[nrm]at hc12
  refine gR Z (fA 0 Z (gR Z (lB 2 H Z3 (pe 1 Z (gR Z ?_)))))
  have H:=H.tF 1
  refine xc Z2 (i_freeFile_c _ _ H.sub _ _ _ _ _ hm4 hS4 hV4 _ _ ohri H.lent1) ?_
  rintro _ _ ⟨_,_,_,rfl,H13',⟨_,_,_,_,rfl,rfl,hm13,hS13,hV13,hL13⟩⟩
  have hN11:=hN11.up H13'.le
  have H:=H.borrow1 H13'
  refine⟨_,Z,?_⟩
  refine pe 2 Z (q3 (W_ret (rt1 results118 Z ?_)))
  have H:=H.dl 2
  have H:=H.tF 1
  have H:=H.tF 1
  obtain⟨r,hr⟩:=Option.isSome_iff_exists.1 (show(Sp.FileStore L bytes).isSome=true by simpa using hc5')
  have hst:Sp.FileStore L bytes=some (L4,ids4):=hr.trans (congrArg some (hL4 r hr))
  have hpt:T.putN ⟨path,false,ids4⟩ nb11=some t11:=by (obtain⟨q,hq⟩:=Option.isSome_iff_exists.1 (show(T.putN ⟨path,false,ids4⟩ nb11).isSome=true by simpa using hc12);(rw[←ht11,hq];rfl))
  obtain⟨s',tt,g1,g2,g3,g4⟩:=Sp.write_fin hH hT (show Sp.PathValid path=true by simpa using hc3') hst hpt (.inr ⟨d7,hfi7,rfl⟩)
  exact H.retM ⟨_,_,_,_,_,_,congrArg Value.bool (by (rw[g1,g2];rfl)),rfl,hm13,hS13,hV13,hN11,(by first|rfl|exact hb11),fun u' h=>(by rw[g2]at h;cases h;exact⟨hL13 _ g1,g3,g4⟩)⟩
 intro hc12'
 try simp only[nrm]at hc12'
 refine pe 6 Z (q3 (W_ret (rt1 results118 Z ?_)))
 have H:=H.dl 2
 have H:=H.tF 1
 obtain⟨r,hr⟩:=Option.isSome_iff_exists.1 (show(Sp.FileStore L bytes).isSome=true by simpa using hc5')
 have hst:Sp.FileStore L bytes=some (L4,ids4):=hr.trans (congrArg some (hL4 r hr))
 have hno:Sp.l11Write ⟨L,l⟩ path bytes=none:=Sp.write_no2 (nb:=nb11) hH hT (show Sp.PathValid path=true by simpa using hc3') hst (by simpa using hc12')
 exact H.retM ⟨_,_,_,_,_,_,congrArg Value.bool (by (rw[hno];rfl)),rfl,hm4,hS4,hV4,hN11,(by first|rfl|exact hb11),fun u' h=>(by rw[hno]at h;cases h)⟩
theorem i_dwrite_c (w0:World)(G0:PH)(hG:PSub G0 w0)(db mb:Nat)(es:Array MapEntry)(ck:Nat)(xs:List (Int×Value))(T:Nd)(FT:Fr)(sv:Value)(sn:List (Bs×Nd))(c:List Value)(FSq:Fr)(d:BDisk)(hm:MapIs (Value.int .i64) es ck xs)(hS:StR G0 xs d.store)(hN:NdO 150 80 G0 T FT)(hT:Nd.TOK T d.tree)(hchk:Chk osE 2 G0 c sn)(hNs:NdsO 150 80 G0 (sn.map (·.2)) FSq)(hSn:SnOK sn d.snaps)(hdv:Sp.DiskValid d=true)(path:Bs)(hpath:path.length≤16777216)(vbytes:Value)(bytes:List (Int))(hbytes:RdI G0 vbytes bytes)(hLent:Lent w0 G0 [blk db (cl [.int .i32 0,.int .u32 0,.map (some mb),.pointer (some ⟨T.b,0,none⟩),sv] 135),blk mb (.map es ck),frag FT,acc 164 2 sv sn.length c,frag FSq]) :
  Calls Tryz.prog 65 #[.pointer (some ⟨db,0,none⟩),str path,vbytes] w0 (RetM w0 G0 (fps [blk db (cl [.int .i32 0,.int .u32 0,.map (some mb),.pointer (some ⟨T.b,0,none⟩),sv] 135),blk mb (.map es ck),frag FT,acc 164 2 sv sn.length c,frag FSq]) (fun G' v Bs=>∃(es':Array MapEntry) (ck':Nat) (xs':List (Int×Value)) (F':Fr) (T':Nd) (sv':Value) (sn':List (Fw.Bs×Nd)) (c':List Value) (FSq':Fr) (L':List BHeld),v= .bool (Sp.DiskWrite d path bytes).isSome∧Bs=[blk db (cl [.int .i32 0,.int .u32 0,.map (some mb),.pointer (some ⟨T'.b,0,none⟩),sv'] 135),blk mb (.map es' ck'),frag F',acc 164 2 sv' sn'.length c',frag FSq']∧MapIs (Value.int .i64) es' ck' xs'∧StR G' xs' L'∧Sp.VH L'∧NdO 150 80 G' T' F'∧Chk osE 2 G' c' sn'∧NdsO 150 80 G' (sn'.map (·.2)) FSq'∧∀d',Sp.DiskWrite d path bytes=some d'→L'=d'.store∧Nd.TOK T' d'.tree∧SnOK sn' d'.snaps)):=by
 obtain⟨abytes,kbytes,rfl⟩:=hbytes.shape
 have hlimbytes:bytes.length≤1099511627776:=hbytes.lim
 have H:Hp w0 G0 (fps [blk db (cl [.int .i32 0,.int .u32 0,.map (some mb),.pointer (some ⟨T.b,0,none⟩),sv] 135),blk mb (.map es ck),frag FT,acc 164 2 sv sn.length c,frag FSq]) w0 G0 [blk db (cl [.int .i32 0,.int .u32 0,.map (some mb),.pointer (some ⟨T.b,0,none⟩),sv] 135),blk mb (.map es ck),frag FT,acc 164 2 sv sn.length c,frag FSq]:=hLent.hp
 obtain⟨_,_,rfl⟩:=H.accShape (k:=3) rfl;have hVd:=Sp.valid_iff.1 (Sp.dv_parts.1 hdv).1;have hTv:=(Sp.dv_parts.1 hdv).2.1;have hTc:=hT.cnt;have hTl:=Sp.tree_len hTv;have hsnl:=hSn.len;have hsn6:=(Sp.dv_parts.1 hdv).2.2.1
 have hHd:=Sp.DHol.hol (ts:=d.snaps.map (·.tree)) (Sp.dd_iff.1 hdv).2
 refine calls_of_WD (l:=[.pointer (some ⟨db,0,none⟩),str path,.slice abytes bytes.length kbytes]) func65 Z ntmps65 Z (q2 (aG Z (q1 (pe 2 Z (fA 0 Z (o_lock 0 H muLib Z call86 Z Z Z Z ?_))))));intro _ H
 refine q1 (pe 2 Z (fA 0 Z (o_defer Z (q1 (mV Z (xr H Z2 (i_FileValid_c _ _ H.sub _ _ hbytes) ?_))))));intro _ H
 refine mV Z ?_
 refine R_case (t:=16) Z ?_ ?_
 ·intro hc3
  try simp only[nrm]at hc3
  refine pe 2 Z (gR Z (fA 2 Z (gR Z (lA 0 2 H Z4 (pe 2 Z (gR Z ?_))))))
  have H:=H.tF 2
  have H:=H.tF 2
  refine xc Z2 (i_vwrite_c _ _ H.sub _ _ _ _ _ _ _ _ hm hS hN hT hHd _ hpath _ _ hbytes H.lent2 (by assumption)) ?_
  rintro _ _ ⟨_,_,_,rfl,H4',⟨_,_,_,_,T4,L4,rfl,rfl,hm4,hS4,hV4,hN4,hb4,hu4⟩⟩
  have hchk:=hchk.up H4'.le
  have hNs:=hNs.up H4'.le
  have H:=H.borrow2 H4'
  try rw[←hb4]
  try rw[←hb4]at H
  refine⟨_,Z,?_⟩
  refine pe 2 Z (q3 (W_ret (ret_unlock 2 H muLib Z call87 Z Z (rs:=[.tmp 6]) results65 ?_)));intro _ H
  refine⟨[_],⟨Z,trivial⟩,?_⟩
  have H:=H.sel [2,0,1,3,4] rfl
  exact H.retM ⟨_,_,_,_,T4,_,sn,_,_,L4,congrArg Value.bool (by simp[Sp.DiskWrite,hdv,hc3]),rfl,hm4,hS4,hV4,hN4,hchk,hNs,fun d2 h=>(by obtain⟨_,_,v2,h1,rfl⟩:=Sp.dwrite_get h;obtain⟨g1,g2,_⟩:=hu4 v2 h1;exact⟨g1,g2,hSn⟩)⟩
 intro hc3'
 try simp only[nrm]at hc3'
 refine pe 9 Z (q3 (W_ret (ret_unlock 0 H muLib Z call87 Z Z (rs:=[.tmp 6]) results65 ?_)));intro _ H
 refine⟨[_],⟨Z,trivial⟩,?_⟩
 have H:=H.sel [0,1,2,3,4] rfl
 have hno:Sp.DiskWrite d path bytes=none:=by simp[Sp.DiskWrite,hc3']
 exact H.retM ⟨_,_,_,_,T,_,sn,_,_,d.store,congrArg Value.bool (by (rw[hno];rfl)),rfl,hm,hS,hVd,hN,hchk,hNs,fun d2 h=>(by rw[hno]at h;cases h)⟩
theorem i_DiskWrite1_c (w0:World)(G0:PH)(hG:PSub G0 w0)(db mb:Nat)(es:Array MapEntry)(ck:Nat)(xs:List (Int×Value))(T:Nd)(FT:Fr)(sv:Value)(sn:List (Bs×Nd))(c:List Value)(FSq:Fr)(d:BDisk)(hm:MapIs (Value.int .i64) es ck xs)(hS:StR G0 xs d.store)(hN:NdO 150 80 G0 T FT)(hT:Nd.TOK T d.tree)(hchk:Chk osE 2 G0 c sn)(hNs:NdsO 150 80 G0 (sn.map (·.2)) FSq)(hSn:SnOK sn d.snaps)(hdv:Sp.DiskValid d=true)(cp:Nat)(path:Bs)(hpath:path.length≤16777216)(hcp:PRow G0 cp 0 [str path])(cq:Nat)(abytes:Option Addr)(bytes:List Int)(kbytes:Nat)(hcq:PRow G0 cq 0 [.slice abytes bytes.length kbytes])(hbytes:RdI G0 (.slice abytes bytes.length kbytes) bytes)(hLent:Lent w0 G0 [blk db (cl [.int .i32 0,.int .u32 0,.map (some mb),.pointer (some ⟨T.b,0,none⟩),sv] 135),blk mb (.map es ck),frag FT,acc 164 2 sv sn.length c,frag FSq]) :
  Calls Tryz.prog 64 #[.pointer (some ⟨db,0,none⟩),.pointer (some ⟨cp,0,none⟩),.pointer (some ⟨cq,0,none⟩)] w0 (RetM w0 G0 (fps [blk db (cl [.int .i32 0,.int .u32 0,.map (some mb),.pointer (some ⟨T.b,0,none⟩),sv] 135),blk mb (.map es ck),frag FT,acc 164 2 sv sn.length c,frag FSq]) (fun G' v Bs=>∃(es':Array MapEntry) (ck':Nat) (xs':List (Int×Value)) (F':Fr) (T':Nd) (sv':Value) (sn':List (Fw.Bs×Nd)) (c':List Value) (FSq':Fr) (L':List BHeld),v= .bool (Sp.DiskWrite d path bytes).isSome∧Bs=[blk db (cl [.int .i32 0,.int .u32 0,.map (some mb),.pointer (some ⟨T'.b,0,none⟩),sv'] 135),blk mb (.map es' ck'),frag F',acc 164 2 sv' sn'.length c',frag FSq']∧MapIs (Value.int .i64) es' ck' xs'∧StR G' xs' L'∧Sp.VH L'∧NdO 150 80 G' T' F'∧Chk osE 2 G' c' sn'∧NdsO 150 80 G' (sn'.map (·.2)) FSq'∧∀d',Sp.DiskWrite d path bytes=some d'→L'=d'.store∧Nd.TOK T' d'.tree∧SnOK sn' d'.snaps)):=by
 have hlimbytes:bytes.length≤1099511627776:=hbytes.lim
 have H:Hp w0 G0 (fps [blk db (cl [.int .i32 0,.int .u32 0,.map (some mb),.pointer (some ⟨T.b,0,none⟩),sv] 135),blk mb (.map es ck),frag FT,acc 164 2 sv sn.length c,frag FSq]) w0 G0 [blk db (cl [.int .i32 0,.int .u32 0,.map (some mb),.pointer (some ⟨T.b,0,none⟩),sv] 135),blk mb (.map es ck),frag FT,acc 164 2 sv sn.length c,frag FSq]:=hLent.hp
 obtain⟨_,_,rfl⟩:=H.accShape (k:=3) rfl;have hVd:=Sp.valid_iff.1 (Sp.dv_parts.1 hdv).1;have hTv:=(Sp.dv_parts.1 hdv).2.1;have hTc:=hT.cnt;have hTl:=Sp.tree_len hTv;have hsnl:=hSn.len;have hsn6:=(Sp.dv_parts.1 hdv).2.2.1
 refine calls_of_W (l:=[.pointer (some ⟨db,0,none⟩),.pointer (some ⟨cp,0,none⟩),.pointer (some ⟨cq,0,none⟩)]) func64 Z ntmps64 Z (q2 (aG Z (q1 (mV Z (lP H hcp 0 Z2 (lP H hcq 0 Z2 ?_))))))
 have H:=H.tF 4
 have H:=H.tF 4
 have H:=H.tF 4
 have H:=H.tF 4
 have H:=H.tF 4
 refine xc Z2 (i_dwrite_c _ _ H.sub _ _ _ _ _ _ _ _ _ _ _ _ hm hS hN hT hchk hNs hSn hdv _ hpath _ _ hbytes H.lent5) ?_
 rintro _ _ ⟨_,_,_,rfl,H1',⟨_,_,_,_,_,_,_,_,_,_,rfl,rfl,hm1,hS1,hV1,hN1,hchk1,hNs1,hd1⟩⟩
 have H:=H.borrow5 H1'
 obtain⟨_,_,rfl⟩:=H.accShape (k:=3) rfl
 refine⟨_,Z,?_⟩
 refine aG Z (q3 (W_ret (rt1 results64 Z ?_)))
 have H:=H.sel [0,1,2,3,4] rfl
 exact H.retM ⟨_,_,_,_,_,_,_,_,_,_,Z,Z,hm1,hS1,hV1,hN1,hchk1,hNs1,hd1⟩
theorem i_changed_dwrite_c (w0:World)(G0:PH)(hG:PSub G0 w0)(cd:List Value)(d:BDisk)(hd:diskE G0 d cd)(cp:Nat)(path:Bs)(hpath:path.length≤16777216)(hcp:PRow G0 cp 0 [str path])(cq:Nat)(abytes:Option Addr)(bytes:List Int)(kbytes:Nat)(hcq:PRow G0 cq 0 [.slice abytes bytes.length kbytes])(hbytes:RdI G0 (.slice abytes bytes.length kbytes) bytes) :
  Calls Tryz.prog 36 #[.agg cd.toArray,.func (.func 64) #[] #[.pointer (some ⟨cp,0,none⟩),.pointer (some ⟨cq,0,none⟩)]] w0 (RetN w0 G0 (fun v Bs=>∃(v1 v2 v3:Value) (F1 F2 F3:Fr),v= .tuple #[.agg #[v1,v2,v3],.bool (Sp.DiskWrite d path bytes).isSome]∧Bs=[frag F1,frag F2,frag F3]∧OHs F1 v1 ((Sp.DiskWrite d path bytes).getD ⟨[],[],[]⟩).store∧OIs F2 v2 ((Sp.DiskWrite d path bytes).getD ⟨[],[],[]⟩).tree∧OSn F3 v3 ((Sp.DiskWrite d path bytes).getD ⟨[],[],[]⟩).snaps)):=by
 obtain⟨_,_,_,_,_,_,_,_,_,rfl,hr1,hr1',hr1'',⟨_,_⟩,⟨_,_⟩,_,_⟩:=ox hd
 have hlimbytes:bytes.length≤1099511627776:=hbytes.lim
 have H:=Hp.init hG
 refine calls_of_W (l:=[_,.func (.func 64) #[] #[.pointer (some ⟨cp,0,none⟩),.pointer (some ⟨cq,0,none⟩)]]) func36 Z ntmps36 Z (q2 (o_box H Z Z Z ?_));intro _ _ _ H
 refine xal H Z ?_;intro _ _ _ H
 refine aG Z (q1 (lA 1 3 H Z4 (xc Z2 (i_newDisk_c _ _ H.sub _ d ⟨_,_,_,_,_,_,_,_,_,Z,hr1,hr1',hr1''⟩ H.lent0) ?_)))
 rintro _ _ ⟨_,_,_,rfl,H4',⟨rfl,rfl,hnd4⟩|⟨_,_,_,_,_,_,_,_,_,_,_,rfl,rfl,hm4,hS4,hN4,hT4,hchk4,hNs4,hSn4,hdv4⟩⟩
 ·skip
  have H:=H.borrow0 H4'
  refine⟨_,Z,?_⟩
  refine pe 5 Z (q3 (W_seq (q2 (pe 8 Z (q3 (W_true Z (q2 (o_build bf32 Z Z Z (xst 0 H Z8 ?_)))))))));intro _ H
  refine aG Z (q3 (W_ret (N_K_ret (ret_gen (rs:=[.cell 4 32,.tmp 5]) (vs:=[_,_]) results36 ⟨⟨_,Z,load_blk 0 H isAgg32 sizeOf32 Z Z Z⟩,Z,trivial⟩ ?_))))
  have H:=H.dl 0
  have H:=H.dl 0
  have hno:Sp.DiskWrite d path bytes=none:=by (cases hh:Sp.DiskWrite d path bytes with |none=>rfl|some q=>(have hx:=Sp.dwrite_isv hh;rw[hnd4]at hx;cases hx))
  have H:=(((H.addF).addF).addF).forget hG (by simp)
  refine⟨_,_,Z,H,.slice none 0 0,.slice none 0 0,.slice none 0 0,[],[],[],?_,Z,?_,?_,?_⟩
  ·(rw[hno];rfl)
  ·(rw[hno];exact oh_nil)
  ·(rw[hno];exact oi_nil)
  (rw[hno];exact os_nil)
 skip
 have hcp:=hcp.up H4'.le
 have hcq:=hcq.up H4'.le
 have hbytes:=hbytes.up H4'.le
 have H:=H.borrow0 H4'
 obtain⟨avAd,cvAd,rfl⟩:=H.accShape (k:=3) rfl
 refine⟨_,Z,?_⟩
 refine pe 5 Z (q3 (W_seq (q2 (pe 5 Z (gR Z ?_)))))
 have H:=H.tF 4
 have H:=H.tF 4
 have H:=H.tF 4
 have H:=H.tF 4
 have H:=H.tF 4
 refine o_callc2 call64 Z Z Z (i_DiskWrite1_c _ _ H.sub _ _ _ _ _ _ _ _ _ _ _ _ hm4 hS4 hN4 hT4 hchk4 hNs4 hSn4 hdv4 _ _ hpath hcp _ _ _ _ hcq hbytes H.lent5) ?_
 rintro _ _ ⟨_,_,_,rfl,H6',⟨_,_,_,_,_,_,_,_,_,_,rfl,rfl,hm6,hS6,hV6,hN6,hchk6,hNs6,hd6⟩⟩
 have H:=H.borrow5 H6'
 obtain⟨avAd,cvAd,rfl⟩:=H.accShape (k:=3) rfl
 refine⟨_,Z,?_⟩
 refine pe 2 Z (q3 ?_)
 refine W_cond Z ?_ ?_
 ·intro hc7
  try simp only[nrm]at hc7
  refine q2 (o_build bf32 Z Z Z (xst 5 H Z8 ?_));intro _ H
  refine aG Z (q3 (W_ret (N_K_ret (ret_gen (rs:=[.cell 4 32,.tmp 5]) (vs:=[_,_]) results36 ⟨⟨_,Z,load_blk 5 H isAgg32 sizeOf32 Z Z Z⟩,Z,trivial⟩ ?_))))
  have H:=H.sel [] rfl
  have hno:Sp.DiskWrite d path bytes=none:=by simpa using hc7
  have H:=(((H.addF).addF).addF).forget hG (by simp)
  refine⟨_,_,Z,H,.slice none 0 0,.slice none 0 0,.slice none 0 0,[],[],[],?_,Z,?_,?_,?_⟩
  ·(rw[hno];rfl)
  ·(rw[hno];exact oh_nil)
  ·(rw[hno];exact oi_nil)
  (rw[hno];exact os_nil)
 intro hc7'
 try simp only[nrm]at hc7'
 obtain⟨d2,hd2⟩:=Option.isSome_iff_exists.1 (show(Sp.DiskWrite d path bytes).isSome=true by simpa using hc7')
 obtain⟨hL2,hT2,hsn2⟩:=hd6 d2 hd2;subst hL2
 refine W_skip (N_K (q2 (mV Z ?_)))
 have H:=H.tF 4
 have H:=H.tF 4
 have H:=H.tF 4
 have H:=H.tF 4
 have H:=H.tF 4
 refine xc Z2 (i_disk_c _ _ H.sub _ _ _ _ _ _ _ _ _ _ _ _ hm6 hS6 hN6 hT2 hchk6 hNs6 hsn2 hV6 (Sp.dv_parts.1 (Sp.dwrite_valid hd2)).2.2.1 H.lent5) ?_
 rintro _ _ ⟨_,_,_,rfl,H9',⟨_,_,_,D19,D29,D39,rfl,rfl,ho19,ho29,ho39⟩⟩
 have H:=H.borrow5 H9'
 obtain⟨_,p19⟩:=ho19
 obtain⟨a19,c19,rfl⟩:=OwnS.shape p19
 obtain⟨_,p29⟩:=ho29
 obtain⟨a29,c29,rfl⟩:=OwnS.shape p29
 obtain⟨_,p39⟩:=ho39
 obtain⟨a39,c39,rfl⟩:=OwnS.shape p39
 refine⟨_,Z,?_⟩
 refine xst 3 H Z8 ?_;intro _ H
 refine aG Z (q3 (W_ret (ret_gen (rs:=[.cell 4 32,.tmp 5]) (vs:=[_,_]) results36 ⟨⟨_,Z,load_blk 3 H isAgg32 sizeOf32 Z Z Z⟩,Z,trivial⟩ ?_)))
 have H:=H.sel [0,1,2] rfl
 have H:=H.forget hG (by simp)
 refine⟨_,_,Z,H,.slice a19 d2.store.length c19,.slice a29 d2.tree.length c29,.slice a39 d2.snaps.length c39,D19,D29,D39,?_,Z,?_,?_,?_⟩
 ·(rw[hd2];rfl)
 ·(rw[hd2];exact⟨_,p19⟩)
 ·(rw[hd2];exact⟨_,p29⟩)
 (rw[hd2];exact⟨_,p39⟩)
theorem i_DiskWrite_c (w0:World)(G0:PH)(hG:PSub G0 w0)(cd:List Value)(d:BDisk)(hd:diskE G0 d cd)(path:Bs)(hpath:path.length≤16777216)(vbytes:Value)(bytes:List (Int))(hbytes:RdI G0 vbytes bytes) :
  Calls Tryz.prog 24 #[.agg cd.toArray,str path,vbytes] w0 (RetN w0 G0 (fun v Bs=>∃(v1 v2 v3:Value) (F1 F2 F3:Fr),v= .tuple #[.agg #[v1,v2,v3],.bool (Sp.DiskWrite d path bytes).isSome]∧Bs=[frag F1,frag F2,frag F3]∧OHs F1 v1 ((Sp.DiskWrite d path bytes).getD ⟨[],[],[]⟩).store∧OIs F2 v2 ((Sp.DiskWrite d path bytes).getD ⟨[],[],[]⟩).tree∧OSn F3 v3 ((Sp.DiskWrite d path bytes).getD ⟨[],[],[]⟩).snaps)):=by
 obtain⟨_,_,_,_,_,_,_,_,_,rfl,hr1,hr1',hr1'',⟨_,_⟩,⟨_,_⟩,_,_⟩:=ox hd
 obtain⟨abytes,kbytes,rfl⟩:=hbytes.shape
 have hlimbytes:bytes.length≤1099511627776:=hbytes.lim
 have H:=Hp.init hG
 refine calls_of_W (l:=[_,str path,.slice abytes bytes.length kbytes]) func24 Z ntmps24 Z (q2 (o_box H Z Z Z ?_));intro _ _ _ H
 refine o_box H Z Z Z ?_;intro _ _ _ H
 refine o_box H Z Z Z ?_;intro _ _ _ H
 refine xal H Z ?_;intro _ _ _ H
 refine aG Z (q1 (lA 3 3 H Z4 (o_makefn2 Z Z Z (xc Z2 (i_changed_dwrite_c _ _ (H.lendSubL [1,2]) _ d ⟨_,_,_,_,_,_,_,_,_,Z,(hr1.up (PPlus.le _ _ _)),(hr1'.up (PPlus.le _ _ _)),(hr1''.up (PPlus.le _ _ _))⟩ _ _ hpath (prow_blk (H.lendPredL (k:=2) (ks:=[1,2]) Z Z)) _ _ _ _ (prow_blk (H.lendPredL (k:=1) (ks:=[1,2]) Z Z)) (hbytes.up (PPlus.le _ _ _))) ?_))))
 rintro _ _ ⟨_,_,rfl,H6',⟨_,_,_,E16,E26,E36,rfl,rfl,ho16,ho26,ho36⟩⟩
 have H:=H.readersL H6'
 obtain⟨_,p16⟩:=ho16
 obtain⟨a16,c16,rfl⟩:=OwnS.shape p16
 obtain⟨_,p26⟩:=ho26
 obtain⟨a26,c26,rfl⟩:=OwnS.shape p26
 obtain⟨_,p36⟩:=ho36
 obtain⟨a36,c36,rfl⟩:=OwnS.shape p36
 refine⟨_,Z,?_⟩
 refine pe 2 Z (xst 3 H Z8 ?_);intro _ H
 refine aG Z (q3 (W_ret (ret_gen (rs:=[.cell 6 32,.tmp 7]) (vs:=[_,_]) results24 ⟨⟨_,Z,load_blk 3 H isAgg32 sizeOf32 Z Z Z⟩,Z,trivial⟩ ?_)))
 have H:=H.sel [0,1,2] rfl
 exact⟨_,_,Z,H,.slice a16 ((Sp.DiskWrite d path bytes).getD ⟨[],[],[]⟩).store.length c16,.slice a26 ((Sp.DiskWrite d path bytes).getD ⟨[],[],[]⟩).tree.length c26,.slice a36 ((Sp.DiskWrite d path bytes).getD ⟨[],[],[]⟩).snaps.length c36,E16,E26,E36,Z,Z,⟨_,p16⟩,⟨_,p26⟩,⟨_,p36⟩⟩
theorem lDiskCloneWrite_c (w0:World)(G0:PH)(hG:PSub G0 w0)(vcode:Value)(code:List (UInt8))(hcode:RdU G0 vcode code) :
  Calls Tryz.prog 6 #[vcode] w0 (Rets w0 (.bool true)):=by
 obtain⟨acode,kcode,rfl⟩:=hcode.shape
 have hlimcode:code.length≤1099511627776:=hcode.lim
 have H:=Hp.init hG
 refine calls_of_W (l:=[.slice acode code.length kcode]) func6 Z ntmps6 Z (q2 (aG Z (q3 (W_seq (q2 (mV Z (lN Z (pe 1 Z (q3 ?_)))))))))
 refine W_cond Z ?_ ?_
 ·intro hc1
  try simp only[nrm]at hc1
  refine q2 (aG Z (q3 (W_ret (N_K_ret (rt1 results6 Z ?_)))))
  first|exact H.rets rfl|exact H.rets (congrArg Value.bool (by (rw[hrz];rfl)))
 intro hc1'
 try simp only[nrm]at hc1'
 refine W_skip (N_K (q2 (mV Z (xc Z2 (DrawDiskClone_c _ _ H.sub _ _ hcode) ?_))))
 rintro _ _ ⟨_,_,g2,rfl,⟨_,uV,uP0,uP1,rfl,hV,hP0,hP1⟩⟩
 have H:=H.grow g2
 obtain⟨_,_,_,_,_,_,_,_,_,rfl,hr2,hr2',hr2'',⟨_,_⟩,⟨_,_⟩,_,_⟩:=ox hV
 refine⟨_,Z,?_⟩
 refine pe 4 Z (xal H Z ?_);intro _ _ _ H
 refine xst 0 H Z8 ?_;intro _ H
 refine pe 2 Z (q1 (lA 0 3 H Z4 (pe 2 Z (xc Z2 (i_DiskClone_c _ _ H.sub _ uV ⟨_,_,_,_,_,_,_,_,_,Z,hr2,hr2',hr2''⟩ _ hP0 _ hP1) ?_))))
 rintro _ _ ⟨_,_,rfl,H5',⟨u15,_,_,_,_,_,rfl,rfl,ho15,ho25,ho35⟩⟩
 have H:=H.readers (fp:=[]) (by simp) (PLe.refl _) H5'
 obtain⟨_,p15⟩:=ho15
 obtain⟨_,c15,rfl⟩:=OwnS.shape p15
 obtain⟨_,p25⟩:=ho25
 obtain⟨_,_,rfl⟩:=OwnS.shape p25
 obtain⟨_,p35⟩:=ho35
 obtain⟨_,_,rfl⟩:=OwnS.shape p35
 refine⟨_,Z,?_⟩
 refine pe 3 Z (xal H Z ?_);intro _ _ _ H
 refine xst 0 H Z8 ?_;intro _ H
 refine aG Z (q1 (lA 4 3 H Z4 (pe 2 Z (xc Z2 (DiskCloneP_c _ _ H.sub _ uV ⟨_,_,_,_,_,_,_,_,_,Z,hr2,hr2',hr2''⟩ _ hP0 _ hP1) ?_))))
 rintro _ _ ⟨G8,_,g8,rfl,_,rfl,hr8_0⟩
 have H:=H.grow g8
 have hr2:=hr2.up g8.le
 have hr2':=hr2'.up g8.le
 have hr2'':=hr2''.up g8.le
 obtain⟨_,_,_,_,_,_,_,_,_,rfl,hr9,hr9',hr9'',⟨_,_⟩,⟨_,_⟩,_,_⟩:=ox hr8_0
 refine⟨_,Z,?_⟩
 refine pe 3 Z (xal H Z ?_);intro _ _ _ H
 refine xst 0 H Z8 ?_;intro _ H
 refine aG Z (q3 (W_seq (q2 (pe 2 Z (o_bneq_same underlying4 Z Z Z (mV Z (gR Z (lA 1 3 H Z4 (gR Z (lA 0 3 H Z4 (gR Z (xr H Z2 (w_sameDisk_c _ _ (H.lendSubL [2,3,4]) _ ((Sp.DiskClone uV uP0 uP1).getD ⟨[],[],[]⟩) ⟨_,_,_,_,_,_,_,_,_,Z,(H.lendOHs (k:=2) (ks:=[2,3,4]) Z Z ⟨_,p15⟩),(H.lendOIs (k:=3) (ks:=[2,3,4]) Z Z ⟨_,p25⟩),(H.lendOSn (k:=4) (ks:=[2,3,4]) Z Z ⟨_,p35⟩)⟩ _ ((Sp.DiskClone uV uP0 uP1).getD ⟨[],[],[]⟩) ⟨_,_,_,_,_,_,_,_,_,Z,(hr9.up (PPlus.le _ _ _)),(hr9'.up (PPlus.le _ _ _)),(hr9''.up (PPlus.le _ _ _))⟩ Z) ?_))))))))))));intro _ H
 refine pe 6 Z (q3 ?_)
 refine W_cond Z ?_ ?_
 ·intro hc13
  try simp only[nrm]at hc13
  refine q2 (pe 2 Z (o_beql_same underlying4 Z Z Z (mV Z (gR Z (lA 1 3 H Z4 (gR Z (lA 0 3 H Z4 (gR Z (xr H Z2 (w_sameDisk_c _ _ (H.lendSubL [2,3,4]) _ ((Sp.DiskClone uV uP0 uP1).getD ⟨[],[],[]⟩) ⟨_,_,_,_,_,_,_,_,_,Z,(H.lendOHs (k:=2) (ks:=[2,3,4]) Z Z ⟨_,p15⟩),(H.lendOIs (k:=3) (ks:=[2,3,4]) Z Z ⟨_,p25⟩),(H.lendOSn (k:=4) (ks:=[2,3,4]) Z Z ⟨_,p35⟩)⟩ _ ((Sp.DiskClone uV uP0 uP1).getD ⟨[],[],[]⟩) ⟨_,_,_,_,_,_,_,_,_,Z,(hr9.up (PPlus.le _ _ _)),(hr9'.up (PPlus.le _ _ _)),(hr9''.up (PPlus.le _ _ _))⟩ Z) ?_)))))))));intro _ H
  refine pe 2 Z (q3 (W_ret (N_K_ret (rt1 results6 Z ?_))))
  first|exact H.rets rfl|exact H.rets (congrArg Value.bool (by (rw[hrz];rfl)))
 intro hc13'
 try simp only[nrm]at hc13'
 obtain⟨u2,hu2⟩:=Option.isSome_iff_exists.1 (show(Sp.DiskClone uV uP0 uP1).isSome=true by simpa using hc13')
 have hW:(Sp.DiskClone uV uP0 uP1).getD ⟨[],[],[]⟩=u2:=by (rw[hu2];rfl)
 refine W_skip (N_K (q2 (lA 5 3 H Z4 (mV Z (xc Z2 (w_readTree_c _ _ H.sub _ uV ⟨_,_,_,_,_,_,_,_,_,Z,hr2,hr2',hr2''⟩ _ hP0) ?_)))))
 rintro _ _ ⟨_,_,rfl,H15',⟨u15,c15,_,rfl,rfl,hchk15,_,hxs15,_⟩⟩
 have H:=H.readers (fp:=[]) (by simp) (PLe.refl _) H15'
 obtain⟨_,_,rfl⟩:=H.accShape (k:=0) rfl
 refine⟨_,Z,?_⟩
 refine pe 5 Z (q1 (lA 2 3 H Z4 (mV Z (xbs H Z7 ?_))));intro _ _ _ H
 have H:=H.blkAcc 1 (k:=0) (n:=3) rfl rfl (by decide)
 have hchk18:=((((Chk.nil (E:=intE) (sz:=1) (G:=G8)).snoc (show intE _ (1:Int) [.int .i64 1] from⟨rfl,by decide⟩) rfl).snoc (show intE _ (2:Int) [.int .i64 2] from⟨rfl,by decide⟩) rfl).snoc (show intE _ (3:Int) [.int .i64 3] from⟨rfl,by decide⟩) rfl)
 refine xc Z2 (i_DiskWrite_c _ _ (H.lendSubL [0,4,5,6]) _ ((Sp.DiskClone uV uP0 uP1).getD ⟨[],[],[]⟩) ⟨_,_,_,_,_,_,_,_,_,Z,(H.lendOHs (k:=4) (ks:=[0,4,5,6]) Z Z ⟨_,p15⟩),(H.lendOIs (k:=5) (ks:=[0,4,5,6]) Z Z ⟨_,p25⟩),(H.lendOSn (k:=6) (ks:=[0,4,5,6]) Z Z ⟨_,p35⟩)⟩ _ hP1 _ _ (H.lendRdL (k:=0) (ks:=[0,4,5,6]) Z Z hchk18 aN aN)) ?_
 rintro _ _ ⟨_,_,rfl,H17',⟨_,_,_,_,_,_,rfl,rfl,ho117,ho217,ho317⟩⟩
 have H:=H.readersL H17'
 obtain⟨_,p117⟩:=ho117
 obtain⟨_,_,rfl⟩:=OwnS.shape p117
 obtain⟨_,p217⟩:=ho217
 obtain⟨_,_,rfl⟩:=OwnS.shape p217
 obtain⟨_,p317⟩:=ho317
 obtain⟨_,_,rfl⟩:=OwnS.shape p317
 refine⟨_,Z,?_⟩
 refine pe 3 Z (xal H Z ?_);intro _ _ _ H
 refine xst 0 H Z8 ?_;intro _ H
 refine aG Z (q3 (W_seq (q2 (pe 3 Z ?_))))
 refine R_case (t:=75) Z ?_ ?_
 ·intro hc21
  try simp only[nrm]at hc21
  refine pe 3 Z (q3 (W_true Z (q2 (aG Z (q3 (W_ret (N_K_ret (rt1 results6 Z ?_))))))))
  first|exact H.rets rfl|exact H.rets (congrArg Value.bool (by (rw[hrz];rfl)))
 intro hc21'
 try simp only[nrm]at hc21'
 refine pe 3 Z (q3 ?_)
 refine W_cond Z ?_ ?_
 ·intro hc22
  try simp only[nrm]at hc22
  refine q2 (aG Z (q3 (W_ret (N_K_ret (rt1 results6 Z ?_)))))
  first|exact H.rets rfl|exact H.rets (congrArg Value.bool (by (rw[hrz];rfl)))
 intro hc22'
 try simp only[nrm]at hc22'
 refine W_skip (N_K (q2 ?_))
 obtain⟨cq,hcq⟩:=Option.isSome_iff_exists.1 (show(Sp.readT uV uP0).isSome=true by simp_all)
 obtain⟨_,hd2⟩:=Option.isSome_iff_exists.1 (show(Sp.DiskWrite ((Sp.DiskClone uV uP0 uP1).getD ⟨[],[],[]⟩) uP1 [1,2,3]).isSome=true by first|assumption|simp_all)
 have hrz:Sp.readT ((Sp.DiskWrite ((Sp.DiskClone uV uP0 uP1).getD ⟨[],[],[]⟩) uP1 [1,2,3]).getD ⟨[],[],[]⟩) uP0=some cq:=by (rw[hd2];exact Sp.clone_write hu2 (hW▸hd2) hcq)
 refine lA 0 3 H Z4 (mV Z (xc Z2 (w_readTree_c _ _ (H.lendSubL [1,2,3]) _ ((Sp.DiskWrite ((Sp.DiskClone uV uP0 uP1).getD ⟨[],[],[]⟩) uP1 [1,2,3]).getD ⟨[],[],[]⟩) ⟨_,_,_,_,_,_,_,_,_,Z,(H.lendOHs (k:=1) (ks:=[1,2,3]) Z Z ⟨_,p117⟩),(H.lendOIs (k:=2) (ks:=[1,2,3]) Z Z ⟨_,p217⟩),(H.lendOSn (k:=3) (ks:=[1,2,3]) Z Z ⟨_,p317⟩)⟩ _ hP0) ?_))
 rintro _ _ ⟨_,_,rfl,H23',⟨_,_,_,rfl,rfl,hchk23,_,hxs23,_⟩⟩
 have H:=H.readersL H23'
 obtain⟨_,_,rfl⟩:=H.accShape (k:=0) rfl
 refine⟨_,Z,?_⟩
 refine pe 5 Z (q1 (pe 2 Z ?_))
 refine R_case (t:=86) Z ?_ ?_
 ·intro hc24
  try simp only[nrm]at hc24
  refine pe 2 Z (gR Z (xr H Z2 (w_sameInts_c _ _ (H.lendSubL [0,6]) _ _ (H.lendRdL (k:=0) (ks:=[0,6]) Z Z (chkI hchk23) aN aN) _ _ (H.lendRdL (k:=6) (ks:=[0,6]) Z Z (chkI hchk15) aN aN) ((hxs23 _ hrz).trans (hxs15 _ hcq).symm)) ?_));intro _ H
  refine pe 2 Z (q3 (W_ret (rt1 results6 Z ?_)))
  first|exact H.rets rfl|exact H.rets (congrArg Value.bool (by (rw[hrz];rfl)))
 intro hc24'
 try simp only[nrm]at hc24'
 exact absurd (show False from by first|omega|simp_all) id
end Go.Proofs.Tst
