/- Part 7 of the proof: contracts of functions of the program. Conditions: none. -/
import Derived.Test.YteahfcbalmlklaaGreatDoorProg
import Derived.Test.YteahfcbalmlklaaGreatDoorG02
import Derived.Test.YteahfcbalmlklaaGreatDoorG03
import Derived.Test.YteahfcbalmlklaaGreatDoorG04
import Derived.Test.YteahfcbalmlklaaGreatDoorG05
import Derived.Test.YteahfcbalmlklaaGreatDoorG06
set_option linter.all false
set_option maxRecDepth 100000
set_option maxHeartbeats 8000000
namespace Go.Proofs.Tst
open Go Fw Tryz
theorem l91Turn_c (w0:World)(G0:PH)(hG:PSub G0 w0)(rb:Nat)(ab:Option Addr)(mb kb:Nat)(bs:List UInt8)(p:Nat)(hbs:RdU G0 (.slice ab mb kb) bs)(hrb:w0.heap[rb]? = some (cl [.slice ab mb kb,.int .i64 (p:Int)] 117))(hrn:G0 rb=none)(hp:p≤100000000)(cd:List Value)(d:BDisk)(hd:diskE G0 d cd) :
  Calls Tryz.prog 79 #[.pointer (some ⟨rb,0,none⟩),.agg cd.toArray] w0 (RetM w0 G0 [rb] (fun G val Bs=>∃(p':Nat) (v1 v2 v3:Value) (st:List BHeld) (tr:List BItem) (sn:List BSnap) (b:Bool),p'≤p+200∧val= .tuple #[.agg #[v1,v2,v3],.bool b]∧RdH G v1 st∧RdItems G v2 tr∧RdSn G v3 sn∧Bs=[blk rb (cl [.slice ab mb kb,.int .i64 (p':Int)] 117)])):=by
 have hlimbs:bs.length≤1099511627776:=hbs.lim;obtain rfl:mb=bs.length:=hbs.len
 obtain⟨_,_,_,_,_,_,_,_,_,rfl,hr1,hr1',hr1'',⟨_,_⟩,⟨_,_⟩,_,_⟩:=ox hd
 have H:=Hp.initM hG hrb hrn
 refine calls_of_W (l:=[.pointer (some ⟨rb,0,none⟩),_]) func79 Z ntmps79 Z (q2 (o_box H Z Z Z ?_));intro _ _ _ H
 refine xal H Z ?_;intro _ _ _ H
 refine aG Z (q3 (W_seq (q2 (mV Z (xc Z2 (pick_c _ _ H.sub _ _ _ _ _ _ hbs (H.blkIs (k:=2) Z).1 (H.blkIs (k:=2) Z).2 oM _ oO) ?_)))))
 rintro _ _ ⟨G4,_,_,rfl,H4',⟨_,_,_,rfl,_,rfl⟩⟩
 have hbs:=hbs.up H4'.le
 have hr1:=hr1.up H4'.le
 have hr1':=hr1'.up H4'.le
 have hr1'':=hr1''.up H4'.le
 have H:=H.borrow (k:=2) rfl H4'
 refine⟨_,Z,?_⟩
 refine q3 (W_block (W_seq (q2 (pe 2 Z (q3 ?_)))))
 refine W_cond Z ?_ ?_
 ·intro hc5
  try simp only[nrm]at hc5
  refine W_skip (N_K ?_)
  refine W_cond Z ?_ ?_
  ·intro hc6
   try simp only[nrm]at hc6
   refine W_seq (W_drawK [2] 9 H kR Z ?_);intro _ H;have hd7:=PLe.refl G4
   refine RD_t 0 Z kR Z (fun _ hK=>v_loadagg_B 0 hK isAgg34 sizeOf34 Z Z Z Z) (dE 1 Z2 (r1 2 Z (xbs H Z7 ?_)));intro _ _ _ H
   refine q4 H hd7 (r1 3 Z ?_)
   have H:=H.blkAcc 1 (k:=0) (n:=3) rfl rfl (by decide)
   have hchk10:=((((Chk.nil (E:=strE) (sz:=1) (G:=G4)).snoc (show strE _ ([115]:Fw.Bs) [str [115]] from⟨rfl,by decide⟩) rfl).snoc (show strE _ ([116]:Fw.Bs) [str [116]] from⟨rfl,by decide⟩) rfl).snoc (show strE _ ([117]:Fw.Bs) [str [117]] from⟨rfl,by decide⟩) rfl)
   obtain⟨_,H,hsg11,hsr11⟩:=H.shutM (k:=0) (j:=0) rfl rfl hchk10 aN aN
   have hbs:=hbs.up hsg11
   have hr1:=hr1.up hsg11
   have hr1':=hr1'.up hsg11
   have hr1'':=hr1''.up hsg11
   have hd7:=hd7.trans hsg11
   refine xc Z2 (of_c _ _ H.sub _ _ _ _ _ _ hbs (H.blkIs (k:=0) Z).1 (H.blkIs (k:=0) Z).2 oM _ _ hsr11 (by first|decide|(simp;done)|(simp;omega))) ?_
   rintro _ _ ⟨_,_,_,rfl,H9',⟨_,_,_,rfl,hxs9,rfl⟩⟩
   have hr1:=hr1.up H9'.le
   have hr1':=hr1'.up H9'.le
   have hr1'':=hr1''.up H9'.le
   have hd7:=hd7.trans H9'.le
   have H:=H.borrow (k:=0) rfl H9'
   refine⟨_,Z,?_⟩
   refine q4 H hd7 (r1 4 Z (xc Z2 (SnapTakeP_c _ _ H.sub _ d ⟨_,_,_,_,_,_,_,_,_,Z,hr1,hr1',hr1''⟩ _ hxs9) ?_))
   rintro _ _ ⟨_,_,g12,rfl,_,rfl,hr12_0⟩
   have H:=H.grow g12
   have hd7:=hd7.trans g12.le
   obtain⟨_,_,_,_,_,_,_,_,_,rfl,hr13,hr13',hr13'',⟨_,_⟩,⟨_,_⟩,_,_⟩:=ox hr12_0
   refine⟨_,Z,?_⟩
   refine q4 H hd7 (dE 5 Z2 (dE 6 Z2 (r1 7 Z (xst 1 H Z8 ?_))));intro _ H
   refine q4 H hd7 (dE 8 Z2 (rz (N_K (W_ret (N_B_ret (N_K_ret (ret_gen (rs:=[.cell 4 34,.tmp 5]) (vs:=[_,_]) results79 ⟨⟨_,Z,load_blk 1 H isAgg34 sizeOf34 Z Z Z⟩,Z,trivial⟩ ?_)))))))
   have H:=H.dl 1
   have H:=H.dl 1
   exact H.retM ⟨_,_,_,_,_,_,_,_,oM,Z,hr13,hr13',hr13'',Z⟩
  intro hc6'
  try simp only[nrm]at hc6'
  refine q2 (pe 2 Z (q3 ?_))
  refine W_cond Z ?_ ?_
  ·intro hc15
   try simp only[nrm]at hc15
   refine W_seq (W_drawK [2] 9 H kR Z ?_);intro _ H;have hd16:=PLe.refl G4
   refine RD_t 0 Z kR Z (fun _ hK=>v_loadagg_B 0 hK isAgg34 sizeOf34 Z Z Z Z) (dE 1 Z2 (r1 2 Z (xbs H Z7 ?_)));intro _ _ _ H
   refine q4 H hd16 (r1 3 Z ?_)
   have H:=H.blkAcc 1 (k:=0) (n:=2) rfl rfl (by decide)
   have hchk19:=(((Chk.nil (E:=strE) (sz:=1) (G:=G4)).snoc (show strE _ ([115]:Fw.Bs) [str [115]] from⟨rfl,by decide⟩) rfl).snoc (show strE _ ([116]:Fw.Bs) [str [116]] from⟨rfl,by decide⟩) rfl)
   obtain⟨_,H,hsg20,hsr20⟩:=H.shutM (k:=0) (j:=0) rfl rfl hchk19 aN aN
   have hbs:=hbs.up hsg20
   have hr1:=hr1.up hsg20
   have hr1':=hr1'.up hsg20
   have hr1'':=hr1''.up hsg20
   have hd16:=hd16.trans hsg20
   refine xc Z2 (of_c _ _ H.sub _ _ _ _ _ _ hbs (H.blkIs (k:=0) Z).1 (H.blkIs (k:=0) Z).2 oM _ _ hsr20 (by first|decide|(simp;done)|(simp;omega))) ?_
   rintro _ _ ⟨_,_,_,rfl,H18',⟨_,_,_,rfl,hxs18,rfl⟩⟩
   have hr1:=hr1.up H18'.le
   have hr1':=hr1'.up H18'.le
   have hr1'':=hr1''.up H18'.le
   have hd16:=hd16.trans H18'.le
   have H:=H.borrow (k:=0) rfl H18'
   refine⟨_,Z,?_⟩
   refine q4 H hd16 (r1 4 Z (xc Z2 (SnapBackP_c _ _ H.sub _ d ⟨_,_,_,_,_,_,_,_,_,Z,hr1,hr1',hr1''⟩ _ hxs18) ?_))
   rintro _ _ ⟨_,_,g21,rfl,_,rfl,hr21_0⟩
   have H:=H.grow g21
   have hd16:=hd16.trans g21.le
   obtain⟨_,_,_,_,_,_,_,_,_,rfl,hr22,hr22',hr22'',⟨_,_⟩,⟨_,_⟩,_,_⟩:=ox hr21_0
   refine⟨_,Z,?_⟩
   refine q4 H hd16 (dE 5 Z2 (dE 6 Z2 (r1 7 Z (xst 1 H Z8 ?_))));intro _ H
   refine q4 H hd16 (dE 8 Z2 (rz (N_K (W_ret (N_B_ret (N_K_ret (ret_gen (rs:=[.cell 4 34,.tmp 5]) (vs:=[_,_]) results79 ⟨⟨_,Z,load_blk 1 H isAgg34 sizeOf34 Z Z Z⟩,Z,trivial⟩ ?_)))))))
   have H:=H.dl 1
   have H:=H.dl 1
   exact H.retM ⟨_,_,_,_,_,_,_,_,oM,Z,hr22,hr22',hr22'',Z⟩
  intro hc15'
  try simp only[nrm]at hc15'
  refine W_skip (N_B (N_K (q2 (mV Z (xbs H Z7 ?_)))));intro _ _ _ H
  have H:=H.blkAcc 1 (k:=0) (n:=5) rfl rfl (by decide)
  have hchk26:=((((((Chk.nil (E:=strE) (sz:=1) (G:=G4)).snoc (show strE _ ([99]:Fw.Bs) [str [99]] from⟨rfl,by decide⟩) rfl).snoc (show strE _ ([97,47,121]:Fw.Bs) [str [97,47,121]] from⟨rfl,by decide⟩) rfl).snoc (show strE _ ([98,47,120]:Fw.Bs) [str [98,47,120]] from⟨rfl,by decide⟩) rfl).snoc (show strE _ ([97,47,120,47,112]:Fw.Bs) [str [97,47,120,47,112]] from⟨rfl,by decide⟩) rfl).snoc (show strE _ ([100]:Fw.Bs) [str [100]] from⟨rfl,by decide⟩) rfl)
  obtain⟨_,H,hsg27,hsr27⟩:=H.shutM (k:=0) (j:=0) rfl rfl hchk26 aN aN
  have hbs:=hbs.up hsg27
  have hr1:=hr1.up hsg27
  have hr1':=hr1'.up hsg27
  have hr1'':=hr1''.up hsg27
  refine xc Z2 (of_c _ _ H.sub _ _ _ _ _ _ hbs (H.blkIs (k:=0) Z).1 (H.blkIs (k:=0) Z).2 oM _ _ hsr27 (by first|decide|(simp;done)|(simp;omega))) ?_
  rintro _ _ ⟨G25,_,_,rfl,H25',⟨_,_,_,rfl,hxs25,rfl⟩⟩
  have hbs:=hbs.up H25'.le
  have hr1:=hr1.up H25'.le
  have hr1':=hr1'.up H25'.le
  have hr1'':=hr1''.up H25'.le
  have H:=H.borrow (k:=0) rfl H25'
  refine⟨_,Z,?_⟩
  refine aG Z (q3 (W_seq (W_drawK [2] 9 H kR Z ?_)));intro _ H;have hd28:=PLe.refl G25
  refine RD_t 0 Z kR Z (fun _ hK=>v_loadagg_B 0 hK isAgg34 sizeOf34 Z Z Z Z) (dE 1 Z2 (dE 2 Z2 (r1 3 Z (xc Z2 (l91File_c _ _ H.sub _ _ _ _ _ _ hbs (H.blkIs (k:=0) Z).1 (H.blkIs (k:=0) Z).2 oM) ?_))))
  rintro _ _ ⟨_,_,_,rfl,H29',⟨_,_,_,_,_,rfl,hchk29,_,rfl⟩⟩
  have hr1:=hr1.up H29'.le
  have hr1':=hr1'.up H29'.le
  have hr1'':=hr1''.up H29'.le
  have hd28:=hd28.trans H29'.le
  have H:=H.borrow (k:=0) rfl H29'
  obtain⟨_,_,rfl⟩:=H.accShape (k:=0) rfl
  refine⟨_,Z,?_⟩
  refine q4 H hd28 (r1 4 Z ?_)
  obtain⟨_,H,hsg31,hsr31⟩:=H.shutM (k:=0) (j:=0) rfl rfl hchk29 aN aN
  have hr1:=hr1.up hsg31
  have hr1':=hr1'.up hsg31
  have hr1'':=hr1''.up hsg31
  have hd28:=hd28.trans hsg31
  refine xc Z2 (DiskWriteP_c _ _ H.sub _ d ⟨_,_,_,_,_,_,_,_,_,Z,hr1,hr1',hr1''⟩ _ hxs25 _ _ hsr31) ?_
  rintro _ _ ⟨_,_,g30,rfl,_,rfl,hr30_0⟩
  have H:=H.grow g30
  have hd28:=hd28.trans g30.le
  obtain⟨_,_,_,_,_,_,_,_,_,rfl,hr32,hr32',hr32'',⟨_,_⟩,⟨_,_⟩,_,_⟩:=ox hr30_0
  refine⟨_,Z,?_⟩
  refine q4 H hd28 (dE 5 Z2 (dE 6 Z2 (r1 7 Z (xst 1 H Z8 ?_))));intro _ H
  refine q4 H hd28 (dE 8 Z2 (rz (N_K (W_ret (ret_gen (rs:=[.cell 4 34,.tmp 5]) (vs:=[_,_]) results79 ⟨⟨_,Z,load_blk 1 H isAgg34 sizeOf34 Z Z Z⟩,Z,trivial⟩ ?_)))))
  have H:=H.dl 1
  have H:=H.dl 1
  exact H.retM ⟨_,_,_,_,_,_,_,_,oM,Z,hr32,hr32',hr32'',Z⟩
 intro hc5'
 try simp only[nrm]at hc5'
 refine q2 (pe 2 Z (q3 ?_))
 refine W_cond Z ?_ ?_
 ·intro hc34
  try simp only[nrm]at hc34
  refine W_skip (N_K ?_)
  refine W_cond Z ?_ ?_
  ·intro hc35
   try simp only[nrm]at hc35
   refine W_seq (W_drawK [2] 9 H kR Z ?_);intro _ H;have hd36:=PLe.refl G4
   refine RD_t 0 Z kR Z (fun _ hK=>v_loadagg_B 0 hK isAgg34 sizeOf34 Z Z Z Z) (dE 1 Z2 (r1 2 Z (xbs H Z7 ?_)));intro _ _ _ H
   refine q4 H hd36 (r1 3 Z ?_)
   have H:=H.blkAcc 1 (k:=0) (n:=3) rfl rfl (by decide)
   have hchk39:=((((Chk.nil (E:=strE) (sz:=1) (G:=G4)).snoc (show strE _ ([115]:Fw.Bs) [str [115]] from⟨rfl,by decide⟩) rfl).snoc (show strE _ ([116]:Fw.Bs) [str [116]] from⟨rfl,by decide⟩) rfl).snoc (show strE _ ([117]:Fw.Bs) [str [117]] from⟨rfl,by decide⟩) rfl)
   obtain⟨_,H,hsg40,hsr40⟩:=H.shutM (k:=0) (j:=0) rfl rfl hchk39 aN aN
   have hbs:=hbs.up hsg40
   have hr1:=hr1.up hsg40
   have hr1':=hr1'.up hsg40
   have hr1'':=hr1''.up hsg40
   have hd36:=hd36.trans hsg40
   refine xc Z2 (of_c _ _ H.sub _ _ _ _ _ _ hbs (H.blkIs (k:=0) Z).1 (H.blkIs (k:=0) Z).2 oM _ _ hsr40 (by first|decide|(simp;done)|(simp;omega))) ?_
   rintro _ _ ⟨_,_,_,rfl,H38',⟨_,_,_,rfl,hxs38,rfl⟩⟩
   have hr1:=hr1.up H38'.le
   have hr1':=hr1'.up H38'.le
   have hr1'':=hr1''.up H38'.le
   have hd36:=hd36.trans H38'.le
   have H:=H.borrow (k:=0) rfl H38'
   refine⟨_,Z,?_⟩
   refine q4 H hd36 (r1 4 Z (xc Z2 (SnapTakeP_c _ _ H.sub _ d ⟨_,_,_,_,_,_,_,_,_,Z,hr1,hr1',hr1''⟩ _ hxs38) ?_))
   rintro _ _ ⟨_,_,g41,rfl,_,rfl,hr41_0⟩
   have H:=H.grow g41
   have hd36:=hd36.trans g41.le
   obtain⟨_,_,_,_,_,_,_,_,_,rfl,hr42,hr42',hr42'',⟨_,_⟩,⟨_,_⟩,_,_⟩:=ox hr41_0
   refine⟨_,Z,?_⟩
   refine q4 H hd36 (dE 5 Z2 (dE 6 Z2 (r1 7 Z (xst 1 H Z8 ?_))));intro _ H
   refine q4 H hd36 (dE 8 Z2 (rz (N_K (W_ret (N_B_ret (N_K_ret (ret_gen (rs:=[.cell 4 34,.tmp 5]) (vs:=[_,_]) results79 ⟨⟨_,Z,load_blk 1 H isAgg34 sizeOf34 Z Z Z⟩,Z,trivial⟩ ?_)))))))
   have H:=H.dl 1
   have H:=H.dl 1
   exact H.retM ⟨_,_,_,_,_,_,_,_,oM,Z,hr42,hr42',hr42'',Z⟩
  intro hc35'
  try simp only[nrm]at hc35'
  refine q2 (pe 2 Z (q3 ?_))
  refine W_cond Z ?_ ?_
  ·intro hc44
   try simp only[nrm]at hc44
   refine W_seq (W_drawK [2] 9 H kR Z ?_);intro _ H;have hd45:=PLe.refl G4
   refine RD_t 0 Z kR Z (fun _ hK=>v_loadagg_B 0 hK isAgg34 sizeOf34 Z Z Z Z) (dE 1 Z2 (r1 2 Z (xbs H Z7 ?_)));intro _ _ _ H
   refine q4 H hd45 (r1 3 Z ?_)
   have H:=H.blkAcc 1 (k:=0) (n:=2) rfl rfl (by decide)
   have hchk48:=(((Chk.nil (E:=strE) (sz:=1) (G:=G4)).snoc (show strE _ ([115]:Fw.Bs) [str [115]] from⟨rfl,by decide⟩) rfl).snoc (show strE _ ([116]:Fw.Bs) [str [116]] from⟨rfl,by decide⟩) rfl)
   obtain⟨_,H,hsg49,hsr49⟩:=H.shutM (k:=0) (j:=0) rfl rfl hchk48 aN aN
   have hbs:=hbs.up hsg49
   have hr1:=hr1.up hsg49
   have hr1':=hr1'.up hsg49
   have hr1'':=hr1''.up hsg49
   have hd45:=hd45.trans hsg49
   refine xc Z2 (of_c _ _ H.sub _ _ _ _ _ _ hbs (H.blkIs (k:=0) Z).1 (H.blkIs (k:=0) Z).2 oM _ _ hsr49 (by first|decide|(simp;done)|(simp;omega))) ?_
   rintro _ _ ⟨_,_,_,rfl,H47',⟨_,_,_,rfl,hxs47,rfl⟩⟩
   have hr1:=hr1.up H47'.le
   have hr1':=hr1'.up H47'.le
   have hr1'':=hr1''.up H47'.le
   have hd45:=hd45.trans H47'.le
   have H:=H.borrow (k:=0) rfl H47'
   refine⟨_,Z,?_⟩
   refine q4 H hd45 (r1 4 Z (xc Z2 (SnapBackP_c _ _ H.sub _ d ⟨_,_,_,_,_,_,_,_,_,Z,hr1,hr1',hr1''⟩ _ hxs47) ?_))
   rintro _ _ ⟨_,_,g50,rfl,_,rfl,hr50_0⟩
   have H:=H.grow g50
   have hd45:=hd45.trans g50.le
   obtain⟨_,_,_,_,_,_,_,_,_,rfl,hr51,hr51',hr51'',⟨_,_⟩,⟨_,_⟩,_,_⟩:=ox hr50_0
   refine⟨_,Z,?_⟩
   refine q4 H hd45 (dE 5 Z2 (dE 6 Z2 (r1 7 Z (xst 1 H Z8 ?_))));intro _ H
   refine q4 H hd45 (dE 8 Z2 (rz (N_K (W_ret (N_B_ret (N_K_ret (ret_gen (rs:=[.cell 4 34,.tmp 5]) (vs:=[_,_]) results79 ⟨⟨_,Z,load_blk 1 H isAgg34 sizeOf34 Z Z Z⟩,Z,trivial⟩ ?_)))))))
   have H:=H.dl 1
   have H:=H.dl 1
   exact H.retM ⟨_,_,_,_,_,_,_,_,oM,Z,hr51,hr51',hr51'',Z⟩
  intro hc44'
  try simp only[nrm]at hc44'
  refine W_skip (N_B (N_K (q2 (mV Z (xbs H Z7 ?_)))));intro _ _ _ H
  have H:=H.blkAcc 1 (k:=0) (n:=5) rfl rfl (by decide)
  have hchk55:=((((((Chk.nil (E:=strE) (sz:=1) (G:=G4)).snoc (show strE _ ([99]:Fw.Bs) [str [99]] from⟨rfl,by decide⟩) rfl).snoc (show strE _ ([97,47,121]:Fw.Bs) [str [97,47,121]] from⟨rfl,by decide⟩) rfl).snoc (show strE _ ([98,47,120]:Fw.Bs) [str [98,47,120]] from⟨rfl,by decide⟩) rfl).snoc (show strE _ ([97,47,120,47,112]:Fw.Bs) [str [97,47,120,47,112]] from⟨rfl,by decide⟩) rfl).snoc (show strE _ ([100]:Fw.Bs) [str [100]] from⟨rfl,by decide⟩) rfl)
  obtain⟨_,H,hsg56,hsr56⟩:=H.shutM (k:=0) (j:=0) rfl rfl hchk55 aN aN
  have hbs:=hbs.up hsg56
  have hr1:=hr1.up hsg56
  have hr1':=hr1'.up hsg56
  have hr1'':=hr1''.up hsg56
  refine xc Z2 (of_c _ _ H.sub _ _ _ _ _ _ hbs (H.blkIs (k:=0) Z).1 (H.blkIs (k:=0) Z).2 oM _ _ hsr56 (by first|decide|(simp;done)|(simp;omega))) ?_
  rintro _ _ ⟨G54,_,_,rfl,H54',⟨_,_,_,rfl,hxs54,rfl⟩⟩
  have hbs:=hbs.up H54'.le
  have hr1:=hr1.up H54'.le
  have hr1':=hr1'.up H54'.le
  have hr1'':=hr1''.up H54'.le
  have H:=H.borrow (k:=0) rfl H54'
  refine⟨_,Z,?_⟩
  refine aG Z (q3 (W_seq (W_drawK [2] 9 H kR Z ?_)));intro _ H;have hd57:=PLe.refl G54
  refine RD_t 0 Z kR Z (fun _ hK=>v_loadagg_B 0 hK isAgg34 sizeOf34 Z Z Z Z) (dE 1 Z2 (dE 2 Z2 (r1 3 Z (xc Z2 (l91File_c _ _ H.sub _ _ _ _ _ _ hbs (H.blkIs (k:=0) Z).1 (H.blkIs (k:=0) Z).2 oM) ?_))))
  rintro _ _ ⟨_,_,_,rfl,H58',⟨_,_,_,_,_,rfl,hchk58,_,rfl⟩⟩
  have hr1:=hr1.up H58'.le
  have hr1':=hr1'.up H58'.le
  have hr1'':=hr1''.up H58'.le
  have hd57:=hd57.trans H58'.le
  have H:=H.borrow (k:=0) rfl H58'
  obtain⟨_,_,rfl⟩:=H.accShape (k:=0) rfl
  refine⟨_,Z,?_⟩
  refine q4 H hd57 (r1 4 Z ?_)
  obtain⟨_,H,hsg60,hsr60⟩:=H.shutM (k:=0) (j:=0) rfl rfl hchk58 aN aN
  have hr1:=hr1.up hsg60
  have hr1':=hr1'.up hsg60
  have hr1'':=hr1''.up hsg60
  have hd57:=hd57.trans hsg60
  refine xc Z2 (DiskWriteP_c _ _ H.sub _ d ⟨_,_,_,_,_,_,_,_,_,Z,hr1,hr1',hr1''⟩ _ hxs54 _ _ hsr60) ?_
  rintro _ _ ⟨_,_,g59,rfl,_,rfl,hr59_0⟩
  have H:=H.grow g59
  have hd57:=hd57.trans g59.le
  obtain⟨_,_,_,_,_,_,_,_,_,rfl,hr61,hr61',hr61'',⟨_,_⟩,⟨_,_⟩,_,_⟩:=ox hr59_0
  refine⟨_,Z,?_⟩
  refine q4 H hd57 (dE 5 Z2 (dE 6 Z2 (r1 7 Z (xst 1 H Z8 ?_))));intro _ H
  refine q4 H hd57 (dE 8 Z2 (rz (N_K (W_ret (ret_gen (rs:=[.cell 4 34,.tmp 5]) (vs:=[_,_]) results79 ⟨⟨_,Z,load_blk 1 H isAgg34 sizeOf34 Z Z Z⟩,Z,trivial⟩ ?_)))))
  have H:=H.dl 1
  have H:=H.dl 1
  exact H.retM ⟨_,_,_,_,_,_,_,_,oM,Z,hr61,hr61',hr61'',Z⟩
 intro hc34'
 try simp only[nrm]at hc34'
 refine W_region (pe 2 Z (q3 ?_))
 refine W_cond Z ?_ ?_
 ·intro hc63
  try simp only[nrm]at hc63
  refine W_seq (W_drawK [2] 9 H kR Z ?_);intro _ H;have hd64:=PLe.refl G4
  refine RD_t 0 Z kR Z (fun _ hK=>v_loadagg_B 0 hK isAgg34 sizeOf34 Z Z Z Z) (dE 1 Z2 (r1 2 Z (xbs H Z7 ?_)));intro _ _ _ H
  refine q4 H hd64 (r1 3 Z ?_)
  have H:=H.blkAcc 1 (k:=0) (n:=3) rfl rfl (by decide)
  have hchk67:=((((Chk.nil (E:=strE) (sz:=1) (G:=G4)).snoc (show strE _ ([115]:Fw.Bs) [str [115]] from⟨rfl,by decide⟩) rfl).snoc (show strE _ ([116]:Fw.Bs) [str [116]] from⟨rfl,by decide⟩) rfl).snoc (show strE _ ([117]:Fw.Bs) [str [117]] from⟨rfl,by decide⟩) rfl)
  obtain⟨_,H,hsg68,hsr68⟩:=H.shutM (k:=0) (j:=0) rfl rfl hchk67 aN aN
  have hbs:=hbs.up hsg68
  have hr1:=hr1.up hsg68
  have hr1':=hr1'.up hsg68
  have hr1'':=hr1''.up hsg68
  have hd64:=hd64.trans hsg68
  refine xc Z2 (of_c _ _ H.sub _ _ _ _ _ _ hbs (H.blkIs (k:=0) Z).1 (H.blkIs (k:=0) Z).2 oM _ _ hsr68 (by first|decide|(simp;done)|(simp;omega))) ?_
  rintro _ _ ⟨_,_,_,rfl,H66',⟨_,_,_,rfl,hxs66,rfl⟩⟩
  have hr1:=hr1.up H66'.le
  have hr1':=hr1'.up H66'.le
  have hr1'':=hr1''.up H66'.le
  have hd64:=hd64.trans H66'.le
  have H:=H.borrow (k:=0) rfl H66'
  refine⟨_,Z,?_⟩
  refine q4 H hd64 (r1 4 Z (xc Z2 (SnapTakeP_c _ _ H.sub _ d ⟨_,_,_,_,_,_,_,_,_,Z,hr1,hr1',hr1''⟩ _ hxs66) ?_))
  rintro _ _ ⟨_,_,g69,rfl,_,rfl,hr69_0⟩
  have H:=H.grow g69
  have hd64:=hd64.trans g69.le
  obtain⟨_,_,_,_,_,_,_,_,_,rfl,hr70,hr70',hr70'',⟨_,_⟩,⟨_,_⟩,_,_⟩:=ox hr69_0
  refine⟨_,Z,?_⟩
  refine q4 H hd64 (dE 5 Z2 (dE 6 Z2 (r1 7 Z (xst 1 H Z8 ?_))));intro _ H
  refine q4 H hd64 (dE 8 Z2 (rz (N_K (W_ret (N_B_ret (N_K_ret (ret_gen (rs:=[.cell 4 34,.tmp 5]) (vs:=[_,_]) results79 ⟨⟨_,Z,load_blk 1 H isAgg34 sizeOf34 Z Z Z⟩,Z,trivial⟩ ?_)))))))
  have H:=H.dl 1
  have H:=H.dl 1
  exact H.retM ⟨_,_,_,_,_,_,_,_,oM,Z,hr70,hr70',hr70'',Z⟩
 intro hc63'
 try simp only[nrm]at hc63'
 refine q2 (pe 2 Z (q3 ?_))
 refine W_cond Z ?_ ?_
 ·intro hc72
  try simp only[nrm]at hc72
  refine W_seq (W_drawK [2] 9 H kR Z ?_);intro _ H;have hd73:=PLe.refl G4
  refine RD_t 0 Z kR Z (fun _ hK=>v_loadagg_B 0 hK isAgg34 sizeOf34 Z Z Z Z) (dE 1 Z2 (r1 2 Z (xbs H Z7 ?_)));intro _ _ _ H
  refine q4 H hd73 (r1 3 Z ?_)
  have H:=H.blkAcc 1 (k:=0) (n:=2) rfl rfl (by decide)
  have hchk76:=(((Chk.nil (E:=strE) (sz:=1) (G:=G4)).snoc (show strE _ ([115]:Fw.Bs) [str [115]] from⟨rfl,by decide⟩) rfl).snoc (show strE _ ([116]:Fw.Bs) [str [116]] from⟨rfl,by decide⟩) rfl)
  obtain⟨_,H,hsg77,hsr77⟩:=H.shutM (k:=0) (j:=0) rfl rfl hchk76 aN aN
  have hbs:=hbs.up hsg77
  have hr1:=hr1.up hsg77
  have hr1':=hr1'.up hsg77
  have hr1'':=hr1''.up hsg77
  have hd73:=hd73.trans hsg77
  refine xc Z2 (of_c _ _ H.sub _ _ _ _ _ _ hbs (H.blkIs (k:=0) Z).1 (H.blkIs (k:=0) Z).2 oM _ _ hsr77 (by first|decide|(simp;done)|(simp;omega))) ?_
  rintro _ _ ⟨_,_,_,rfl,H75',⟨_,_,_,rfl,hxs75,rfl⟩⟩
  have hr1:=hr1.up H75'.le
  have hr1':=hr1'.up H75'.le
  have hr1'':=hr1''.up H75'.le
  have hd73:=hd73.trans H75'.le
  have H:=H.borrow (k:=0) rfl H75'
  refine⟨_,Z,?_⟩
  refine q4 H hd73 (r1 4 Z (xc Z2 (SnapBackP_c _ _ H.sub _ d ⟨_,_,_,_,_,_,_,_,_,Z,hr1,hr1',hr1''⟩ _ hxs75) ?_))
  rintro _ _ ⟨_,_,g78,rfl,_,rfl,hr78_0⟩
  have H:=H.grow g78
  have hd73:=hd73.trans g78.le
  obtain⟨_,_,_,_,_,_,_,_,_,rfl,hr79,hr79',hr79'',⟨_,_⟩,⟨_,_⟩,_,_⟩:=ox hr78_0
  refine⟨_,Z,?_⟩
  refine q4 H hd73 (dE 5 Z2 (dE 6 Z2 (r1 7 Z (xst 1 H Z8 ?_))));intro _ H
  refine q4 H hd73 (dE 8 Z2 (rz (N_K (W_ret (N_B_ret (N_K_ret (ret_gen (rs:=[.cell 4 34,.tmp 5]) (vs:=[_,_]) results79 ⟨⟨_,Z,load_blk 1 H isAgg34 sizeOf34 Z Z Z⟩,Z,trivial⟩ ?_)))))))
  have H:=H.dl 1
  have H:=H.dl 1
  exact H.retM ⟨_,_,_,_,_,_,_,_,oM,Z,hr79,hr79',hr79'',Z⟩
 intro hc72'
 try simp only[nrm]at hc72'
 refine W_skip (N_B (N_K (q2 (mV Z (xbs H Z7 ?_)))));intro _ _ _ H
 have H:=H.blkAcc 1 (k:=0) (n:=5) rfl rfl (by decide)
 have hchk83:=((((((Chk.nil (E:=strE) (sz:=1) (G:=G4)).snoc (show strE _ ([99]:Fw.Bs) [str [99]] from⟨rfl,by decide⟩) rfl).snoc (show strE _ ([97,47,121]:Fw.Bs) [str [97,47,121]] from⟨rfl,by decide⟩) rfl).snoc (show strE _ ([98,47,120]:Fw.Bs) [str [98,47,120]] from⟨rfl,by decide⟩) rfl).snoc (show strE _ ([97,47,120,47,112]:Fw.Bs) [str [97,47,120,47,112]] from⟨rfl,by decide⟩) rfl).snoc (show strE _ ([100]:Fw.Bs) [str [100]] from⟨rfl,by decide⟩) rfl)
 obtain⟨_,H,hsg84,hsr84⟩:=H.shutM (k:=0) (j:=0) rfl rfl hchk83 aN aN
 have hbs:=hbs.up hsg84
 have hr1:=hr1.up hsg84
 have hr1':=hr1'.up hsg84
 have hr1'':=hr1''.up hsg84
 refine xc Z2 (of_c _ _ H.sub _ _ _ _ _ _ hbs (H.blkIs (k:=0) Z).1 (H.blkIs (k:=0) Z).2 oM _ _ hsr84 (by first|decide|(simp;done)|(simp;omega))) ?_
 rintro _ _ ⟨G82,_,_,rfl,H82',⟨_,_,_,rfl,hxs82,rfl⟩⟩
 have hbs:=hbs.up H82'.le
 have hr1:=hr1.up H82'.le
 have hr1':=hr1'.up H82'.le
 have hr1'':=hr1''.up H82'.le
 have H:=H.borrow (k:=0) rfl H82'
 refine⟨_,Z,?_⟩
 refine aG Z (q3 (W_seq (W_drawK [2] 9 H kR Z ?_)));intro _ H;have hd85:=PLe.refl G82
 refine RD_t 0 Z kR Z (fun _ hK=>v_loadagg_B 0 hK isAgg34 sizeOf34 Z Z Z Z) (dE 1 Z2 (dE 2 Z2 (r1 3 Z (xc Z2 (l91File_c _ _ H.sub _ _ _ _ _ _ hbs (H.blkIs (k:=0) Z).1 (H.blkIs (k:=0) Z).2 oM) ?_))))
 rintro _ _ ⟨_,_,_,rfl,H86',⟨_,_,_,_,_,rfl,hchk86,_,rfl⟩⟩
 have hr1:=hr1.up H86'.le
 have hr1':=hr1'.up H86'.le
 have hr1'':=hr1''.up H86'.le
 have hd85:=hd85.trans H86'.le
 have H:=H.borrow (k:=0) rfl H86'
 obtain⟨_,_,rfl⟩:=H.accShape (k:=0) rfl
 refine⟨_,Z,?_⟩
 refine q4 H hd85 (r1 4 Z ?_)
 obtain⟨_,H,hsg88,hsr88⟩:=H.shutM (k:=0) (j:=0) rfl rfl hchk86 aN aN
 have hr1:=hr1.up hsg88
 have hr1':=hr1'.up hsg88
 have hr1'':=hr1''.up hsg88
 have hd85:=hd85.trans hsg88
 refine xc Z2 (DiskWriteP_c _ _ H.sub _ d ⟨_,_,_,_,_,_,_,_,_,Z,hr1,hr1',hr1''⟩ _ hxs82 _ _ hsr88) ?_
 rintro _ _ ⟨_,_,g87,rfl,_,rfl,hr87_0⟩
 have H:=H.grow g87
 have hd85:=hd85.trans g87.le
 obtain⟨_,_,_,_,_,_,_,_,_,rfl,hr89,hr89',hr89'',⟨_,_⟩,⟨_,_⟩,_,_⟩:=ox hr87_0
 refine⟨_,Z,?_⟩
 refine q4 H hd85 (dE 5 Z2 (dE 6 Z2 (r1 7 Z (xst 1 H Z8 ?_))));intro _ H
 refine q4 H hd85 (dE 8 Z2 (rz (N_K (W_ret (ret_gen (rs:=[.cell 4 34,.tmp 5]) (vs:=[_,_]) results79 ⟨⟨_,Z,load_blk 1 H isAgg34 sizeOf34 Z Z Z⟩,Z,trivial⟩ ?_)))))
 have H:=H.dl 1
 have H:=H.dl 1
 exact H.retM ⟨_,_,_,_,_,_,_,_,oM,Z,hr89,hr89',hr89'',Z⟩
theorem l91Disk_c (w0:World)(G0:PH)(hG:PSub G0 w0)(rb:Nat)(ab:Option Addr)(mb kb:Nat)(bs:List UInt8)(p:Nat)(hbs:RdU G0 (.slice ab mb kb) bs)(hrb:w0.heap[rb]? = some (cl [.slice ab mb kb,.int .i64 (p:Int)] 117))(hrn:G0 rb=none)(hp:p≤5000000) :
  Calls Tryz.prog 46 #[.pointer (some ⟨rb,0,none⟩)] w0 (RetM w0 G0 [rb] (fun G val Bs=>∃(p':Nat) (v1 v2 v3:Value) (st:List BHeld) (tr:List BItem) (sn:List BSnap),p'≤p+5000∧val= .agg #[v1,v2,v3]∧RdH G v1 st∧RdItems G v2 tr∧RdSn G v3 sn∧Bs=[blk rb (cl [.slice ab mb kb,.int .i64 (p':Int)] 117)])):=by
 have hlimbs:bs.length≤1099511627776:=hbs.lim;obtain rfl:mb=bs.length:=hbs.len
 have H:=Hp.initM hG hrb hrn
 refine calls_of_W (l:=[.pointer (some ⟨rb,0,none⟩)]) func46 Z ntmps46 Z (q2 (xal H Z ?_));intro b1 _ _ H
 refine q1 (mV Z (xc Z2 (l91Volume_c _ _ H.sub _ _ _ _ _ _ hbs (H.blkIs (k:=1) Z).1 (H.blkIs (k:=1) Z).2 oM) ?_))
 rintro _ _ ⟨_,_,_,rfl,H2',⟨_,_,_,st2,tr2,_,rfl,hst2,htr2,rfl⟩⟩
 have hbs:=hbs.up H2'.le
 have H:=H.borrow (k:=1) rfl H2'
 obtain⟨_,_,rfl⟩:=hst2.shape;obtain⟨_,_,rfl⟩:=htr2.shape;have hx_hst2:_≤1099511627776:=hst2.lim;have hx_htr2:_≤1099511627776:=htr2.lim
 refine⟨_,Z,?_⟩
 refine xal H Z ?_;intro b3 _ _ H
 refine xst 0 H Z8 ?_;intro _ H
 refine q1 (fA 0 Z (lB 0 H Z3 (fA 1 Z (lB 0 H Z3 (o_build bf34 Z Z Z (xal H Z ?_))))));intro b5 _ _ H
 refine xst 0 H Z8 ?_;intro _ H
 refine q1 (mV Z (xc Z2 (pick_c _ _ H.sub _ _ _ _ _ _ hbs (H.blkIs (k:=2) Z).1 (H.blkIs (k:=2) Z).2 oM _ oO) ?_))
 rintro _ _ ⟨G7,_,_,rfl,H7',⟨p7,_,_,rfl,_,rfl⟩⟩
 have hbs:=hbs.up H7'.le
 have hst2:=hst2.up H7'.le
 have htr2:=htr2.up H7'.le
 have H:=H.borrow (k:=2) rfl H7'
 refine⟨_,Z,?_⟩
 refine aG Z (q3 (W_seq (q2 (aG Z (q3 (W_block ?_))))))
 obtain⟨ln8,hln8,H⟩:=H.name (k:=2) rfl
 obtain⟨ln9,hln9,H⟩:=H.name (k:=3) rfl
 refine W_lp (hf:=(Sub.cons (t:=0) Z (Sub.cons (t:=2) Z (Sub.cons (t:=4) Z (Sub.cons (t:=5) Z Sub.nil))))) (J:=fun M w m=>∃(k:Nat) (va vb vc:Value) (st:List BHeld) (tr:List BItem) (sn:List BSnap) (pp:Nat) (G:PH),M=[(6,.int .i64 (k:Int))]∧PLe G7 G∧Hp w0 G0 [rb] w G [blk rb (cl [.slice ab bs.length kb,.int .i64 (pp:Int)] 117),blk b5 (cl [va,vb,vc] 34),blk b3 (cl ln8 119),blk b1 (cl ln9 34)]∧(k≤7∧pp≤p+3100+201*k∧RdH G va st∧RdItems G vb tr∧RdSn G vc sn)∧m=(8-k)) (h0:=⟨0,_,_,_,st2,tr2,[],p7,_,Z,PLe.refl _,H,?inv,Z⟩) (round:=?round)
 case inv=>exact⟨by omega,by omega,hst2,htr2,(RdS.nil _ _ _)⟩
 case round =>
  rintro _ _ _ ⟨k,va,vb,vc,st,tr,sn,pp,_,rfl,hle10,H,hinv10,rfl⟩
  subst hln8
  subst hln9
  have hbs:=hbs.up hle10
  obtain⟨_,_,hst,htr,hsn⟩:=hinv10;obtain⟨_,_,rfl⟩:=hst.shape;have hlhst:_≤1099511627776:=hst.lim;obtain⟨_,_,rfl⟩:=htr.shape;have hlhtr:_≤1099511627776:=htr.lim;obtain⟨_,_,rfl⟩:=hsn.shape;have hlhsn:_≤1099511627776:=hsn.lim
  refine W_seq (q2 (pe 3 Z (q3 ?_)))
  refine W_cond Z ?_ ?_
  ·intro hc11
   try simp only[nrm]at hc11
   refine W_skip (N_K (W_seq (W_block (q2 (mV Z (lA 1 3 H Z4 (xc Z2 (l91Turn_c _ _ H.sub _ _ _ _ _ _ hbs (H.blkIs (k:=0) Z).1 (H.blkIs (k:=0) Z).2 oM _ ⟨st,tr,sn⟩ ⟨_,_,_,_,_,_,_,_,_,Z,hst,htr,hsn⟩) ?_)))))))
   rintro _ _ ⟨_,_,_,rfl,H12',⟨p12,_,_,_,st12,tr12,sn12,_,_,rfl,hst12,htr12,hsn12,rfl⟩⟩
   have hst:=hst.up H12'.le
   have htr:=htr.up H12'.le
   have hsn:=hsn.up H12'.le
   have hle10:=hle10.trans H12'.le
   have H:=H.borrow (k:=0) rfl H12'
   obtain⟨_,_,rfl⟩:=hst12.shape;have hx_hst12:_≤1099511627776:=hst12.lim;obtain⟨_,_,rfl⟩:=htr12.shape;have hx_htr12:_≤1099511627776:=htr12.lim;obtain⟨_,_,rfl⟩:=hsn12.shape;have hx_hsn12:_≤1099511627776:=hsn12.lim
   refine⟨_,Z,?_⟩
   refine pe 3 Z (xal H Z ?_);intro _ _ _ H
   refine xst 0 H Z8 ?_;intro _ H
   refine aG Z (q1 (mV Z (q3 ?_)))
   refine W_cond Z ?_ ?_
   ·intro hc15
    try simp only[nrm]at hc15
    refine W_region (lA 0 3 H Z4 (xst 2 H Z8 ?_));intro _ H
    refine R_nil (N_B (N_K (W_region (mV Z (aD Z2 (aG Z (R_nil ?_)))))))
    have H:=H.sel [1,2,3,4] rfl
    refine N_lp (hJ:=⟨k+1,_,_,_,st12,tr12,sn12,p12,_,Z,hle10,H,?inv,Z⟩) (hm:=?hm)
    case hm=>omega
    case inv=>exact⟨by omega,by omega,hst12,htr12,hsn12⟩
   intro hc15'
   try simp only[nrm]at hc15'
   refine W_skip (N_B (N_K (W_region (mV Z (aD Z2 (aG Z (R_nil ?_)))))))
   have H:=H.sel [1,2,3,4] rfl
   refine N_lp (hJ:=⟨k+1,_,_,_,st,tr,sn,p12,_,Z,hle10,H,?inv,Z⟩) (hm:=?hm)
   case hm=>omega
   case inv=>exact⟨by omega,by omega,hst,htr,hsn⟩
  intro hc11'
  try simp only[nrm]at hc11'
  refine W_exit (N_K_exit (N_LP_exit (N_B_same (N_K (q2 (lA 1 3 H Z4 (xst 3 H Z8 ?_)))))));intro _ H
  refine q3 (W_ret (ret_gen (rs:=[.cell 2 34]) (vs:=[_]) results46 ⟨⟨_,Z,load_blk 3 H isAgg34 sizeOf34 Z Z Z⟩,trivial⟩ ?_))
  have H:=H.dl 1
  have H:=H.dl 1
  have H:=H.dl 1
  exact H.retM ⟨_,_,_,_,_,_,_,oM,Z,hst,htr,hsn,Z⟩
theorem l91Snap_c (w0:World)(G0:PH)(hG:PSub G0 w0)(rb:Nat)(ab:Option Addr)(mb kb:Nat)(bs:List UInt8)(p:Nat)(hbs:RdU G0 (.slice ab mb kb) bs)(hrb:w0.heap[rb]? = some (cl [.slice ab mb kb,.int .i64 (p:Int)] 117))(hrn:G0 rb=none)(hp:p≤1000000000)(cd:List Value)(d:BDisk)(hd:diskE G0 d cd) :
  Calls Tryz.prog 48 #[.pointer (some ⟨rb,0,none⟩),.agg cd.toArray] w0 (RetM w0 G0 [rb] (fun G val Bs=>∃(p':Nat) (x:Fw.Bs),p'≤p+4∧val=str x∧x.length≤16777216∧Bs=[blk rb (cl [.slice ab mb kb,.int .i64 (p':Int)] 117)])):=by
 have hlimbs:bs.length≤1099511627776:=hbs.lim;obtain rfl:mb=bs.length:=hbs.len
 obtain⟨_,_,_,_,_,_,_,_,_,rfl,hr1,hr1',hr1'',⟨_,_⟩,⟨_,_⟩,_,_⟩:=ox hd
 have H:=Hp.initM hG hrb hrn
 refine calls_of_W (l:=[.pointer (some ⟨rb,0,none⟩),_]) func48 Z ntmps48 Z (q2 (o_box H Z Z Z ?_));intro _ _ _ H
 refine aG Z (q3 (W_seq (q2 (fA 2 Z (lB 0 H Z3 (lN Z (pe 2 Z ?_)))))))
 refine R_case (t:=9) Z ?_ ?_
 ·intro hc3
  try simp only[nrm]at hc3
  refine pe 1 Z (gR Z (xc Z2 (pick_c _ _ H.sub _ _ _ _ _ _ hbs (H.blkIs (k:=1) Z).1 (H.blkIs (k:=1) Z).2 oM _ oO) ?_))
  rintro _ _ ⟨G4,_,_,rfl,H4',⟨_,_,_,rfl,_,rfl⟩⟩
  have hbs:=hbs.up H4'.le
  have hr1'':=hr1''.up H4'.le
  have H:=H.borrow (k:=1) rfl H4'
  refine⟨_,Z,?_⟩
  refine pe 2 Z (q3 ?_)
  refine W_cond Z ?_ ?_
  ·intro hc5
   try simp only[nrm]at hc5
   refine W_seq (W_drawK [1] 11 H kR Z ?_);intro _ H;have hd6:=PLe.refl G4
   refine dF 0 2 Z2 (dB 1 0 Z4 (dE 2 Z2 (dF 3 2 Z2 (dB 4 0 Z4 (dN 5 Z2 (r1 6 Z (xc Z2 (pick_c _ _ H.sub _ _ _ _ _ _ hbs (H.blkIs (k:=0) Z).1 (H.blkIs (k:=0) Z).2 oM _ oO) ?_)))))))
   rintro _ _ ⟨_,_,_,rfl,H7',⟨_,x7,_,rfl,_,rfl⟩⟩
   have hr1'':=hr1''.up H7'.le
   have hd6:=hd6.trans H7'.le
   have H:=H.borrow (k:=0) rfl H7'
   refine⟨_,Z,?_⟩
   refine q4 H hd6 ?_
   have hl8:=hr1''.len
   obtain⟨_,_,_,_,ha8,_,hq8,hE8,hrow8,_⟩:=hr1''.at (i:=x7) oM
   clear hq8
   obtain⟨_,_,_,rfl,hi8,_,_,_⟩:=ox hE8
   refine dI 7 2 x7 ha8 Z3 Z (dF 8 0 Z2 (r1 9 Z (lP H hrow8 0 Z2 (q4 H hd6 (dE 10 Z2 (rz (N_K (W_ret (N_K_ret (rt1 results48 Z ?_))))))))))
   have H:=H.dl 1
   exact H.retM ⟨_,_,by omega,rfl,hi8,rfl⟩
  intro hc5'
  try simp only[nrm]at hc5'
  refine W_skip (N_K (q2 (mV Z (xbs H Z7 ?_))));intro _ _ _ H
  have H:=H.blkAcc 1 (k:=0) (n:=5) rfl rfl (by decide)
  have hchk11:=((((((Chk.nil (E:=strE) (sz:=1) (G:=G4)).snoc (show strE _ ([115]:Fw.Bs) [str [115]] from⟨rfl,by decide⟩) rfl).snoc (show strE _ ([118]:Fw.Bs) [str [118]] from⟨rfl,by decide⟩) rfl).snoc (show strE _ ([119]:Fw.Bs) [str [119]] from⟨rfl,by decide⟩) rfl).snoc (show strE _ ([66,97,100]:Fw.Bs) [str [66,97,100]] from⟨rfl,by decide⟩) rfl).snoc (show strE _ ([]:Fw.Bs) [str []] from⟨rfl,by decide⟩) rfl)
  obtain⟨_,H,hsg12,hsr12⟩:=H.shutM (k:=0) (j:=0) rfl rfl hchk11 aN aN
  have hbs:=hbs.up hsg12
  refine xc Z2 (of_c _ _ H.sub _ _ _ _ _ _ hbs (H.blkIs (k:=0) Z).1 (H.blkIs (k:=0) Z).2 oM _ _ hsr12 (by first|decide|(simp;done)|(simp;omega))) ?_
  rintro _ _ ⟨_,_,_,rfl,H10',⟨_,_,_,rfl,hxs10,rfl⟩⟩
  have H:=H.borrow (k:=0) rfl H10'
  refine⟨_,Z,?_⟩
  refine aG Z (q3 (W_ret (rt1 results48 Z ?_)))
  have H:=H.dl 1
  exact H.retM ⟨_,_,by omega,rfl,hxs10,rfl⟩
 intro hc3'
 try simp only[nrm]at hc3'
 refine pe 4 Z (q3 (W_false Z (W_skip (N_K (q2 (mV Z (xbs H Z7 ?_)))))));intro _ _ _ H
 have H:=H.blkAcc 1 (k:=0) (n:=5) rfl rfl (by decide)
 have hchk15:=((((((Chk.nil (E:=strE) (sz:=1) (G:=G0)).snoc (show strE _ ([115]:Fw.Bs) [str [115]] from⟨rfl,by decide⟩) rfl).snoc (show strE _ ([118]:Fw.Bs) [str [118]] from⟨rfl,by decide⟩) rfl).snoc (show strE _ ([119]:Fw.Bs) [str [119]] from⟨rfl,by decide⟩) rfl).snoc (show strE _ ([66,97,100]:Fw.Bs) [str [66,97,100]] from⟨rfl,by decide⟩) rfl).snoc (show strE _ ([]:Fw.Bs) [str []] from⟨rfl,by decide⟩) rfl)
 obtain⟨_,H,hsg16,hsr16⟩:=H.shutM (k:=0) (j:=1) rfl rfl hchk15 aN aN
 have hbs:=hbs.up hsg16
 refine xc Z2 (of_c _ _ H.sub _ _ _ _ _ _ hbs (H.blkIs (k:=1) Z).1 (H.blkIs (k:=1) Z).2 oM _ _ hsr16 (by first|decide|(simp;done)|(simp;omega))) ?_
 rintro _ _ ⟨_,_,_,rfl,H14',⟨_,_,_,rfl,hxs14,rfl⟩⟩
 have H:=H.borrow (k:=1) rfl H14'
 refine⟨_,Z,?_⟩
 refine aG Z (q3 (W_ret (rt1 results48 Z ?_)))
 have H:=H.dl 1
 exact H.retM ⟨_,_,by omega,rfl,hxs14,rfl⟩
theorem l31Has_c (w0:World)(G0:PH)(hG:PSub G0 w0)(vlist:Value)(list:List (BHold))(hlist:RdS LIM holdE 2 G0 vlist list)(ch:List Value)(h:BHold)(hh:holdE G0 h ch) :
  Calls Tryz.prog 114 #[vlist,.agg ch.toArray] w0 (Rets w0 (.bool (Sp.l31Has list h))):=by
 obtain⟨alist,klist,rfl⟩:=hlist.shape
 have hlimlist:list.length≤1099511627776:=hlist.lim
 obtain⟨rfl,hi1,hj1⟩:=hh;have hy_hi1:_≤16777216:=hi1;have hy_hj1:_≤16777216:=hj1
 have H:=Hp.init hG
 refine calls_of_W (l:=[.slice alist list.length klist,_]) func114 Z ntmps114 Z (q2 (o_box H Z Z Z ?_));intro b2 _ _ H
 refine aG Z (q3 (W_seq (q2 (aG Z (q3 (W_block ?_))))))
 obtain⟨ln3,hln3,H⟩:=H.name (k:=0) rfl
 refine W_lp (hf:=(Sub.cons (t:=0) Z (Sub.cons (t:=3) Z Sub.nil))) (J:=fun M w m=>∃(k:Nat) (G:PH),M=[(5,.int .i64 (k:Int))]∧PLe G0 G∧Hp w0 G0 [] w G [blk b2 (cl ln3 55)]∧(k≤list.length∧∀j,j<k→∀g,list[j]? = some g→g≠h)∧m=(list.length-k)) (h0:=⟨0,_,Z,PLe.refl _,H,?inv,Z⟩) (round:=?round)
 case inv=>exact⟨by omega,fun j hj=>by omega⟩
 case round =>
  rintro _ _ _ ⟨k,G4,rfl,hle4,H,hinv4,rfl⟩
  subst hln3
  have hlist:=hlist.up hle4
  obtain⟨_,hall⟩:=hinv4
  refine W_seq (q2 (pe 2 Z (lN Z (pe 1 Z (q3 ?_)))))
  refine W_cond Z ?_ ?_
  ·intro hc5
   try simp only[nrm]at hc5
   refine W_skip (N_K (W_seq (W_block (W_seq (W_drawK [0] 6 H kR Z ?_)))));intro _ H;have hd6:=PLe.refl G4
   refine dE 0 Z2 (dE 1 Z2 ?_)
   have hl7:=hlist.len
   obtain⟨_,_,z7,_,ha7,hz7,hq7,hE7,hrow7,_⟩:=hlist.at (i:=k) oM
   clear hq7
   obtain⟨rfl,hi7,hj7⟩:=hE7;have hy_hi7:_≤16777216:=hi7;have hy_hj7:_≤16777216:=hj7
   refine dI 2 2 k ha7 Z3 Z (RD_t 3 Z kR Z (fun _ hK=>v_loadagg_P hK isAgg55 sizeOf55 Z hrow7 Z) (RD_t 4 Z kR Z (fun _ hK=>v_loadagg_B 0 hK isAgg55 sizeOf55 Z Z Z Z) (RD_t 5 Z kR Z (fun _ hK=>v_eqH (a:=z7) (b:=h) Z Z) (rz (N_K ?_)))))
   refine W_cond Z ?_ ?_
   ·intro hc8
    try simp only[nrm]at hc8
    refine q2 (aG Z (q3 (W_ret (N_B_ret (N_K_ret (N_LP_ret (N_B_ret (N_K_ret (rt1 results114 Z ?_)))))))))
    exact H.rets (congrArg Value.bool (by (have he:z7=h:=by simpa using hc8);rw[Sp.has_iff.2 (he▸List.mem_of_getElem? hz7)]))
   intro hc8'
   try simp only[nrm]at hc8'
   refine W_skip (N_B (N_K (W_region (mV Z (aD Z2 (aG Z (R_nil ?_)))))))
   refine N_lp (hJ:=⟨k+1,_,Z,hle4,H,?inv,Z⟩) (hm:=?hm)
   case hm=>omega
   case inv=>exact⟨by omega,fun j hj g hg=>by (rcases Nat.lt_or_ge j k with h9|h9;(· exact hall j h9 g hg));(obtain rfl:j=k:=by omega);(rw[hz7]at hg);cases hg;simpa using hc8'⟩
  intro hc5'
  try simp only[nrm]at hc5'
  refine W_exit (N_K_exit (N_LP_exit (N_B_same (N_K (q2 (aG Z (q3 (W_ret (rt1 results114 Z ?_)))))))))
  exact H.rets (congrArg Value.bool (by rw[Sp.hold_none (fun j hj=>hall j oM)]))
theorem HoldPut_c (w0:World)(G0:PH)(hG:PSub G0 w0)(vlist:Value)(list:List (BHold))(hlist:RdS LIM holdE 2 G0 vlist list)(ch:List Value)(h:BHold)(hh:holdE G0 h ch) :
  Calls Tryz.prog 80 #[vlist,.agg ch.toArray] w0 (RetN w0 G0 (fun v Bs=>∃u,v= .tuple #[u,.bool (Sp.HoldPut list h).isSome]∧Bs=[acc 55 2 u ((Sp.HoldPut list h).getD []).length (flatH ((Sp.HoldPut list h).getD []))]∧∀x,x ∈ (Sp.HoldPut list h).getD []→smallH x)):=by
 obtain⟨alist,klist,rfl⟩:=hlist.shape
 have hlimlist:list.length≤1099511627776:=hlist.lim
 obtain⟨rfl,hi1,hj1⟩:=hh;have hy_hi1:_≤16777216:=hi1;have hy_hj1:_≤16777216:=hj1
 have H:=Hp.init hG
 refine calls_of_W (l:=[.slice alist list.length klist,_]) func80 Z ntmps80 Z (q2 (o_box H Z Z Z ?_));intro b2 _ _ H
 refine pe 2 Z (q3 (W_seq (q2 (mV Z (xr H Z2 (HoldsValid_c _ _ H.sub _ _ hlist) ?_)))));intro _ H
 refine pe 2 Z ?_
 refine R_case (t:=12) Z ?_ ?_
 ·intro hc4
  try simp only[nrm]at hc4
  refine pe 14 Z (q3 (W_true Z (q2 (xbs H Z7 ?_))));intro _ _ _ H
  have H:=H.blkAcc 2 (k:=0) (n:=0) rfl rfl (by decide)
  refine pe 2 Z (q3 (W_ret (N_K_ret (rt2 results80 Z Z ?_))))
  have H:=H.dl 1
  have hN:Sp.HoldPut list h=none:=by exact Sp.hput_no (by first|(left;simpa using hc4;done)|(right;left;simpa using hc4;done)|(right;right;left;exact Sp.has_iff.1 (by simpa using hc4))|(right;right;right;omega))
  have H:=H.forget hG (by simp)
  exact⟨_,_,rfl,H,_,(by rw[hN];rfl),(by rw[hN];rfl),(by rw[hN];intro x hx;simp at hx)⟩
 intro hc4'
 try simp only[nrm]at hc4'
 refine gR Z (lA 0 2 H Z4 (gR Z (xr H Z2 (l31Ok_c _ _ H.sub _ h ⟨Z,hi1,hj1⟩) ?_)));intro _ H
 refine pe 3 Z ?_
 refine R_case (t:=17) Z ?_ ?_
 ·intro hc7
  try simp only[nrm]at hc7
  refine pe 9 Z (q3 (W_true Z (q2 (xbs H Z7 ?_))));intro _ _ _ H
  have H:=H.blkAcc 2 (k:=0) (n:=0) rfl rfl (by decide)
  refine pe 2 Z (q3 (W_ret (N_K_ret (rt2 results80 Z Z ?_))))
  have H:=H.dl 1
  have hN:Sp.HoldPut list h=none:=by exact Sp.hput_no (by first|(left;simpa using hc7;done)|(right;left;simpa using hc7;done)|(right;right;left;exact Sp.has_iff.1 (by simpa using hc7))|(right;right;right;omega))
  have H:=H.forget hG (by simp)
  exact⟨_,_,rfl,H,_,(by rw[hN];rfl),(by rw[hN];rfl),(by rw[hN];intro x hx;simp at hx)⟩
 intro hc7'
 try simp only[nrm]at hc7'
 refine pe 1 Z (gR Z (lA 0 2 H Z4 (gR Z (xr H Z2 (l31Has_c _ _ H.sub _ _ hlist _ h ⟨Z,hi1,hj1⟩) ?_))));intro _ H
 refine pe 2 Z ?_
 refine R_case (t:=22) Z ?_ ?_
 ·intro hc10
  try simp only[nrm]at hc10
  refine pe 4 Z (q3 (W_true Z (q2 (xbs H Z7 ?_))));intro _ _ _ H
  have H:=H.blkAcc 2 (k:=0) (n:=0) rfl rfl (by decide)
  refine pe 2 Z (q3 (W_ret (N_K_ret (rt2 results80 Z Z ?_))))
  have H:=H.dl 1
  have hN:Sp.HoldPut list h=none:=by exact Sp.hput_no (by first|(left;simpa using hc10;done)|(right;left;simpa using hc10;done)|(right;right;left;exact Sp.has_iff.1 (by simpa using hc10))|(right;right;right;omega))
  have H:=H.forget hG (by simp)
  exact⟨_,_,rfl,H,_,(by rw[hN];rfl),(by rw[hN];rfl),(by rw[hN];intro x hx;simp at hx)⟩
 intro hc10'
 try simp only[nrm]at hc10'
 refine pe 1 Z (gR Z (lN Z (pe 2 Z (q3 ?_))))
 refine W_cond Z ?_ ?_
 ·intro hc12
  try simp only[nrm]at hc12
  refine q2 (xbs H Z7 ?_);intro _ _ _ H
  have H:=H.blkAcc 2 (k:=0) (n:=0) rfl rfl (by decide)
  refine pe 2 Z (q3 (W_ret (N_K_ret (rt2 results80 Z Z ?_))))
  have H:=H.dl 1
  have hN:Sp.HoldPut list h=none:=by exact Sp.hput_no (by first|(left;simpa using hc12;done)|(right;left;simpa using hc12;done)|(right;right;left;exact Sp.has_iff.1 (by simpa using hc12))|(right;right;right;omega))
  have H:=H.forget hG (by simp)
  exact⟨_,_,rfl,H,_,(by rw[hN];rfl),(by rw[hN];rfl),(by rw[hN];intro x hx;simp at hx)⟩
 intro hc12'
 try simp only[nrm]at hc12'
 refine W_skip (N_K (q2 (xbs H Z7 ?_)));intro _ _ _ H
 have H:=H.blkAcc 2 (k:=0) (n:=0) rfl rfl (by decide)
 refine aG Z (q1 (aG Z (q3 (W_seq (q2 (aG Z (q3 (W_block ?_))))))))
 obtain⟨ln15,hln15,H⟩:=H.name (k:=1) rfl
 refine W_lp (hf:=(Sub.cons (t:=0) Z (Sub.cons (t:=3) Z (Sub.cons (t:=4) Z (Sub.cons (t:=5) Z Sub.nil))))) (J:=fun M w m=>∃(v:Value) (n:Nat) (cs:List Value) (xs:List (BHold)) (k:Nat) (dn:Bool) (G:PH),M=[(8,.int .i64 (k:Int)),(7,.bool dn),(6,v)]∧PLe G0 G∧Hp w0 G0 [] w G [acc 55 2 v n cs,blk b2 (cl ln15 55)]∧(Chk holdE 2 G cs xs∧n=xs.length∧k≤list.length∧dn=(list.take k).any (fun g=>Sp.l31Before h g)∧xs=Sp.putK (list.take k) h)∧m=(list.length-k)) (h0:=⟨_,_,_,[],0,false,_,Z,PLe.refl _,H,?inv,Z⟩) (round:=?round)
 case inv=>exact⟨(Chk.nil (E:=holdE) (sz:=2) (G:=G0)),by first|rfl|simp|(simp;omega)|omega,(by exact⟨by omega,by simp,by simp[Sp.putK]⟩)⟩
 case round =>
  rintro _ _ _ ⟨v,n,cs,xs,k,dn,G16,rfl,hle16,H,hinv16,rfl⟩
  subst hln15
  have hlist:=hlist.up hle16
  obtain⟨hchk16_0,_,hinv16⟩:=hinv16
  obtain⟨_,_,rfl⟩:=H.accShape (k:=0) rfl
  obtain⟨_,hdn,hxs⟩:=hinv16;have hxl:xs.length≤k+1:=by (rw[hxs];have h9:=Sp.putK_len (l:=list.take k) (h:=h);(rw[List.length_take]at h9);omega)
  refine W_seq (q2 (pe 2 Z (lN Z (pe 1 Z (q3 ?_)))))
  refine W_cond Z ?_ ?_
  ·intro hc17
   try simp only[nrm]at hc17
   refine W_skip (N_K (W_seq (W_block (W_seq (W_seq (W_drawK [1] 10 H kR Z ?_))))));intro _ H;have hd18:=PLe.refl G16
   refine dE 0 Z2 (dE 1 Z2 (dE 2 Z2 ?_))
   refine RD_case (t:=37) Z ?_ ?_
   ·intro hc19
    try simp only[nrm]at hc19
    refine RD_tg 3 Z kR Z (yl Z Z) (fun _ hK=>v_loadagg_B 0 hK isAgg55 sizeOf55 Z Z Z Z) (dE 4 Z2 (dE 5 Z2 ?_))
    have hl20:=hlist.len
    obtain⟨_,_,z20,_,ha20,hz20,hq20,hE20,hrow20,_⟩:=hlist.at (i:=k) oM
    clear hq20
    obtain⟨rfl,hi20,hj20⟩:=hE20;have hy_hi20:_≤16777216:=hi20;have hy_hj20:_≤16777216:=hj20
    refine dI 6 2 k ha20 Z3 Z (RD_tg 7 Z kR Z (yl Z Z) (fun _ hK=>v_loadagg_P hK isAgg55 sizeOf55 Z hrow20 Z) (r1 8 Z (gR Z (xr H Z2 (l31Before_c _ _ H.sub _ h ⟨Z,hi1,hj1⟩ _ z20 ⟨Z,hi20,hj20⟩) ?_))));intro _ H
    refine q4 H hd18 (dE 9 Z2 (rz (N_K ?_)))
    refine W_cond Z ?_ ?_
    ·intro hc22
     try simp only[nrm]at hc22
     refine q2 (mV Z (lA 1 2 H Z4 (xbs H Z7 ?_)));intro _ _ _ H
     refine o_append1 0 H (sz:=2) (bytes:=32) underlying38 typeInfo55 ⟨_,Z,Z⟩ Z Z Z Z Z Z Z Z Z Z oM Z ?_;intro _ _ H
     have hchk24:=hchk16_0.snoc (show holdE _ h _ from⟨rfl,hi1,hj1⟩) rfl
     obtain⟨_,_,rfl⟩:=H.accShape (k:=0) rfl
     refine aG Z (q3 (W_region (aG Z (q3 (W_region (pe 3 Z (iP k hlist Z3 Z ?_)))))));intro _ _ z25 _ hz25 hE25 hrow25
     obtain⟨rfl,hi25,hj25⟩:=hE25;have hy_hi25:_≤16777216:=hi25;have hy_hj25:_≤16777216:=hj25
     have hzz25:z20=z25:=Option.some.inj (hz20.symm.trans hz25)
     subst hzz25
     refine o_loadagg_P H isAgg55 sizeOf55 Z Z hrow25 Z (xbs H Z7 ?_);intro _ _ _ H
     refine o_append1 0 H (sz:=2) (bytes:=32) underlying38 typeInfo55 ⟨_,Z,Z⟩ Z Z Z Z Z Z Z Z Z Z oM Z ?_;intro _ _ H
     have hchk27:=hchk24.snoc (show holdE _ z20 _ from⟨rfl,hi25,hj25⟩) rfl
     obtain⟨_,_,rfl⟩:=H.accShape (k:=0) rfl
     refine aG Z (R_nil (N_B (N_K (W_region (mV Z (aD Z2 (aG Z (R_nil ?_))))))))
     refine N_lp (hJ:=⟨_,_,_,((xs++[h])++[z20]),k+1,true,_,Z,hle16,H,?inv,Z⟩) (hm:=?hm)
     case hm=>omega
     case inv=>exact⟨hchk27,aN,(by exact⟨by omega,by (rw[Sp.any_take hz20,←hdn,hc22];cases dn<;>rfl),by (rw[hxs,Sp.putK_now hz20 (by (rw[←hdn];assumption)) (by assumption)])⟩)⟩
    intro hc22'
    try simp only[nrm]at hc22'
    refine W_skip (N_K (W_region (pe 3 Z (iP k hlist Z3 Z ?_))));intro _ _ z29 _ hz29 hE29 hrow29
    obtain⟨rfl,hi29,hj29⟩:=hE29;have hy_hi29:_≤16777216:=hi29;have hy_hj29:_≤16777216:=hj29
    have hzz29:z20=z29:=Option.some.inj (hz20.symm.trans hz29)
    subst hzz29
    refine o_loadagg_P H isAgg55 sizeOf55 Z Z hrow29 Z (xbs H Z7 ?_);intro _ _ _ H
    refine o_append1 0 H (sz:=2) (bytes:=32) underlying38 typeInfo55 ⟨_,Z,Z⟩ Z Z Z Z Z Z Z Z Z Z oM Z ?_;intro _ _ H
    have hchk31:=hchk16_0.snoc (show holdE _ z20 _ from⟨rfl,hi29,hj29⟩) rfl
    obtain⟨_,_,rfl⟩:=H.accShape (k:=0) rfl
    refine aG Z (R_nil (N_B (N_K (W_region (mV Z (aD Z2 (aG Z (R_nil ?_))))))))
    refine N_lp (hJ:=⟨_,_,_,(xs++[z20]),k+1,dn,_,Z,hle16,H,?inv,Z⟩) (hm:=?hm)
    case hm=>omega
    case inv=>exact⟨hchk31,aN,(by exact⟨by omega,by (rw[Sp.any_take hz20,←hdn,hc22'];cases dn<;>rfl),by (rw[hxs,Sp.putK_not hz20 (by (rw[←hdn];assumption)) (by assumption)])⟩)⟩
   intro hc19'
   try simp only[nrm]at hc19'
   refine dE 3 Z2 (dE 4 Z2 (dE 5 Z2 (dE 6 Z2 (dE 7 Z2 (dE 8 Z2 (dE 9 Z2 (rz (N_K (W_false Z (W_skip (N_K (W_region (pe 3 Z (iP k hlist Z3 Z ?_))))))))))))));intro _ _ z33 _ hz33 hE33 hrow33
   obtain⟨rfl,hi33,hj33⟩:=hE33;have hy_hi33:_≤16777216:=hi33;have hy_hj33:_≤16777216:=hj33
   refine o_loadagg_P H isAgg55 sizeOf55 Z Z hrow33 Z (xbs H Z7 ?_);intro _ _ _ H
   refine o_append1 0 H (sz:=2) (bytes:=32) underlying38 typeInfo55 ⟨_,Z,Z⟩ Z Z Z Z Z Z Z Z Z Z oM Z ?_;intro _ _ H
   have hchk35:=hchk16_0.snoc (show holdE _ z33 _ from⟨rfl,hi33,hj33⟩) rfl
   obtain⟨_,_,rfl⟩:=H.accShape (k:=0) rfl
   refine aG Z (R_nil (N_B (N_K (W_region (mV Z (aD Z2 (aG Z (R_nil ?_))))))))
   refine N_lp (hJ:=⟨_,_,_,(xs++[z33]),k+1,dn,_,Z,hle16,H,?inv,Z⟩) (hm:=?hm)
   case hm=>omega
   case inv=>exact⟨hchk35,aN,(by exact⟨by omega,by (rw[Sp.any_take hz33,←hdn,hc19'];rfl),by (rw[hxs,Sp.putK_done hz33 (by (rw[←hdn];assumption))])⟩)⟩
  intro hc17'
  try simp only[nrm]at hc17'
  refine W_exit (N_K_exit (N_LP_exit (N_B_same (N_K (W_seq (q2 (pe 2 Z (q3 ?_))))))))
  refine W_cond Z ?_ ?_
  ·intro hc37
   try simp only[nrm]at hc37
   refine W_region (mV Z (lA 1 2 H Z4 (xbs H Z7 ?_)));intro _ _ _ H
   refine o_append1 0 H (sz:=2) (bytes:=32) underlying38 typeInfo55 ⟨_,Z,Z⟩ Z Z Z Z Z Z Z Z Z Z oM Z ?_;intro _ _ H
   have hchk39:=hchk16_0.snoc (show holdE _ h _ from⟨rfl,hi1,hj1⟩) rfl
   obtain⟨_,_,rfl⟩:=H.accShape (k:=0) rfl
   refine aG Z (q1 (pe 3 Z (q3 (W_ret (rt2 results80 Z Z ?_)))))
   have H:=H.dl 1
   have hY:Sp.HoldPut list h=some (xs++[h]):=by (rw[Sp.hput_yes (by assumption) (by assumption) (fun h9=>(by have h8:=Sp.has_iff.2 h9;simp_all)) oM,hxs,show k=list.length by omega,List.take_length];congr 1;(rw[show k=list.length by omega,List.take_length]at hdn);(rw[Sp.putK_none (by (rw[←hdn];simp_all)),Sp.putH_no (by (rw[←hdn];simp_all))]))
   obtain⟨hn9,hf9,hs9⟩:=H.holdShut hchk39
   have H:=H.forget hG (by simp)
   exact⟨_,_,rfl,H,_,(by rw[hY];rfl),(by rw[hY,hf9,hn9];rfl),(by rw[hY];exact hs9)⟩
  intro hc37'
  try simp only[nrm]at hc37'
  refine W_skip (N_K (q2 (pe 3 Z (q3 (W_ret (rt2 results80 Z Z ?_))))))
  have H:=H.dl 1
  have hY:Sp.HoldPut list h=some (xs):=by (rw[Sp.hput_yes (by assumption) (by assumption) (fun h9=>(by have h8:=Sp.has_iff.2 h9;simp_all)) oM,hxs,show k=list.length by omega,List.take_length];congr 1;(rw[show k=list.length by omega,List.take_length]at hdn);(rw[Sp.putK,if_pos (by (rw[←hdn];simp_all))]))
  obtain⟨hn9,hf9,hs9⟩:=H.holdShut hchk16_0
  have H:=H.forget hG (by simp)
  exact⟨_,_,rfl,H,_,(by rw[hY];rfl),(by rw[hY,hf9,hn9];rfl),(by rw[hY];exact hs9)⟩
theorem HoldTags_c (w0:World)(G0:PH)(hG:PSub G0 w0)(vlist:Value)(list:List (BHold))(hlist:RdS LIM holdE 2 G0 vlist list)(snap:Bs)(hsnap:snap.length≤16777216) :
  Calls Tryz.prog 27 #[vlist,str snap] w0 (RetP w0 G0 (fun G v=>RdT G v (Sp.HoldTags list snap))):=by
 obtain⟨alist,klist,rfl⟩:=hlist.shape
 have hlimlist:list.length≤1099511627776:=hlist.lim
 have H:=Hp.init hG
 refine calls_of_W (l:=[.slice alist list.length klist,str snap]) func27 Z ntmps27 Z (q2 (aG Z (q1 (xbs H Z7 ?_))));intro _ _ _ H
 have H:=H.blkAcc 1 (k:=0) (n:=0) rfl rfl (by decide)
 refine aG Z (q3 (W_seq (q2 (aG Z (q3 (W_block ?_))))))
 refine W_lp (hf:=(Sub.cons (t:=0) Z (Sub.cons (t:=1) Z (Sub.cons (t:=4) Z Sub.nil)))) (J:=fun M w m=>∃(v:Value) (n:Nat) (cs:List Value) (xs:List (Bs)) (k:Nat) (G:PH),M=[(6,.int .i64 (k:Int)),(5,v)]∧PLe G0 G∧Hp w0 G0 [] w G [acc 9 1 v n cs]∧(Chk strE 1 G cs xs∧n=xs.length∧k≤list.length∧(0<k→Sp.HoldsValid list=true)∧xs=((list.take k).filter (fun h=>decide (h.snap=snap))).map (·.tag)∧xs.length≤k)∧m=(list.length-k)) (h0:=⟨_,_,_,[],0,_,Z,PLe.refl _,H,?inv,Z⟩) (round:=?round)
 case inv=>exact⟨(Chk.nil (E:=strE) (sz:=1) (G:=G0)),by first|rfl|simp|(simp;omega)|omega,(by exact⟨by omega,by omega,by simp,by simp⟩)⟩
 case round =>
  rintro _ _ _ ⟨v,n,cs,xs,k,_,rfl,hle2,H,hinv2,rfl⟩
  have hlist:=hlist.up hle2
  obtain⟨hchk2_0,_,hinv2⟩:=hinv2
  obtain⟨_,_,rfl⟩:=H.accShape (k:=0) rfl
  obtain⟨_,hv,hxs,_⟩:=hinv2
  refine W_seq (q2 (pe 2 Z (lN Z (pe 2 Z ?_))))
  refine R_case (t:=12) Z ?_ ?_
  ·intro hc3
   try simp only[nrm]at hc3
   refine pe 1 Z (gR Z (xr H Z2 (HoldsValid_c _ _ H.sub _ _ hlist) ?_));intro _ H
   refine pe 1 Z (q3 ?_)
   refine W_cond Z ?_ ?_
   ·intro hc5
    try simp only[nrm]at hc5
    refine W_skip (N_K (W_seq (W_block (q2 (pe 2 Z (iP k hlist Z3 Z ?_))))));intro _ _ z6 _ hz6 hE6 hrow6
    obtain⟨rfl,hi6,hj6⟩:=hE6;have hy_hi6:_≤16777216:=hi6;have hy_hj6:_≤16777216:=hj6
    refine fA 0 Z (lP H hrow6 0 Z2 (mV Z (o_seql Z Z Z (q3 ?_))))
    refine W_cond Z ?_ ?_
    ·intro hc7
     try simp only[nrm]at hc7
     refine W_region (pe 3 Z (iP k hlist Z3 Z ?_));intro _ _ z8 _ hz8 hE8 hrow8
     obtain⟨rfl,hi8,hj8⟩:=hE8;have hy_hi8:_≤16777216:=hi8;have hy_hj8:_≤16777216:=hj8
     have hzz8:z6=z8:=Option.some.inj (hz6.symm.trans hz8)
     subst hzz8
     refine fA 1 Z (lP H hrow8 1 Z2 (xbs H Z7 ?_));intro _ _ _ H
     refine o_append1 0 H (sz:=1) (bytes:=16) underlying49 typeInfo9 ⟨_,Z,Z⟩ Z Z Z Z Z Z Z Z Z Z oM Z ?_;intro _ _ H
     have hchk10:=hchk2_0.snoc (show strE _ z6.tag _ from⟨rfl,hj8⟩) rfl
     obtain⟨_,_,rfl⟩:=H.accShape (k:=0) rfl
     refine aG Z (R_nil (N_B (N_K (W_region (mV Z (aD Z2 (aG Z (R_nil ?_))))))))
     refine N_lp (hJ:=⟨_,_,_,(xs++[z6.tag]),k+1,_,Z,hle2,H,?inv,Z⟩) (hm:=?hm)
     case hm=>omega
     case inv=>exact⟨hchk10,aN,(by exact⟨by omega,fun _=>by assumption,by (rw[hxs,Sp.tags_yes hz6 (by simpa using hc7)]),by (first|omega|(simp;omega))⟩)⟩
    intro hc7'
    try simp only[nrm]at hc7'
    refine W_skip (N_B (N_K (W_region (mV Z (aD Z2 (aG Z (R_nil ?_)))))))
    refine N_lp (hJ:=⟨_,_,_,xs,k+1,_,Z,hle2,H,?inv,Z⟩) (hm:=?hm)
    case hm=>omega
    case inv=>exact⟨hchk2_0,aN,(by exact⟨by omega,fun _=>by assumption,by (rw[hxs,Sp.tags_not hz6 (by simpa using hc7')]),by (first|omega|(simp;omega))⟩)⟩
   intro hc5'
   try simp only[nrm]at hc5'
   refine W_exit (N_K_exit (N_LP_exit (N_B_same (N_K (q2 (pe 2 Z (q3 (W_ret (rt1 results27 Z ?_)))))))))
   obtain⟨_,H,hsg514,hsr514⟩:=H.shut' (k:=0) rfl hchk2_0 aN aN
   have h9:Sp.HoldTags list snap=xs:=by (rw[Sp.tags_no (by simpa using hc5'),hxs,show k=0 by (rcases Nat.eq_zero_or_pos k with h8|h8;(· exact h8);(· (have h7:=hv h8;simp_all)))];rfl)
   exact H.retP (by (rw[h9];exact hsr514))
  intro hc3'
  try simp only[nrm]at hc3'
  refine pe 3 Z (q3 (W_false Z (W_exit (N_K_exit (N_LP_exit (N_B_same (N_K (q2 (pe 2 Z (q3 (W_ret (rt1 results27 Z ?_))))))))))))
  obtain⟨_,H,hsg515,hsr515⟩:=H.shut' (k:=0) rfl hchk2_0 aN aN
  have h9:Sp.HoldTags list snap=xs:=by (by_cases h8:0<k;(· (rw[Sp.tags_eq (hv h8),hxs,show k=list.length by omega,List.take_length]));(· (have h7:list=[]:=List.eq_nil_of_length_eq_zero oM;subst h7;(rw[hxs]);unfold Sp.HoldTags;simp)))
  exact H.retP (by (rw[h9];exact hsr515))
theorem l92Holds_c (w0:World)(G0:PH)(hG:PSub G0 w0)(rb:Nat)(ab:Option Addr)(mb kb:Nat)(bs:List UInt8)(p:Nat)(hbs:RdU G0 (.slice ab mb kb) bs)(hrb:w0.heap[rb]? = some (cl [.slice ab mb kb,.int .i64 (p:Int)] 117))(hrn:G0 rb=none)(hp:p≤1000000000) :
  Calls Tryz.prog 47 #[.pointer (some ⟨rb,0,none⟩)] w0 (RetM w0 G0 [rb] (fun G val Bs=>∃(p':Nat) (x:List BHold) (v:Value) (c:List Value),p'≤p+200∧val=v∧Chk holdE 2 G c x∧x.length≤8∧Bs=[acc 55 2 v x.length c,blk rb (cl [.slice ab mb kb,.int .i64 (p':Int)] 117)])):=by
 have hlimbs:bs.length≤1099511627776:=hbs.lim;obtain rfl:mb=bs.length:=hbs.len
 have H:=Hp.initM hG hrb hrn
 refine calls_of_W (l:=[.pointer (some ⟨rb,0,none⟩)]) func47 Z ntmps47 Z (q2 (aG Z (q1 (xbs H Z7 ?_))));intro _ _ _ H
 have H:=H.blkAcc 2 (k:=0) (n:=0) rfl rfl (by decide)
 refine aG Z (q1 (mV Z (xc Z2 (pick_c _ _ H.sub _ _ _ _ _ _ hbs (H.blkIs (k:=1) Z).1 (H.blkIs (k:=1) Z).2 oM _ oO) ?_)))
 rintro _ _ ⟨_,_,_,rfl,H2',⟨_,_,_,rfl,_,rfl⟩⟩
 have hbs:=hbs.up H2'.le
 have H:=H.borrow (k:=1) rfl H2'
 refine⟨_,Z,?_⟩
 refine aG Z (q3 (W_seq (q2 (mV Z (xc Z2 (pick_c _ _ H.sub _ _ _ _ _ _ hbs (H.blkIs (k:=0) Z).1 (H.blkIs (k:=0) Z).2 oM _ oO) ?_)))))
 rintro _ _ ⟨G3,_,_,rfl,H3',⟨p3,_,_,rfl,_,rfl⟩⟩
 have hbs:=hbs.up H3'.le
 have H:=H.borrow (k:=0) rfl H3'
 refine⟨_,Z,?_⟩
 refine pe 1 Z (q3 ?_)
 refine W_cond Z ?_ ?_
 ·intro hc4
  try simp only[nrm]at hc4
  refine W_region (aG Z (q3 (W_seq (q2 (aG Z (q3 (W_block ?_)))))))
  refine W_lp (hf:=(Sub.cons (t:=0) Z (Sub.cons (t:=2) Z (Sub.cons (t:=4) Z Sub.nil)))) (J:=fun M w m=>∃(v:Value) (n:Nat) (cs:List Value) (xs:List (BHold)) (k:Nat) (pp:Nat) (G:PH),M=[(5,.int .i64 (k:Int)),(3,v)]∧PLe G3 G∧Hp w0 G0 [rb] w G [blk rb (cl [.slice ab bs.length kb,.int .i64 (pp:Int)] 117),acc 55 2 v n cs]∧(Chk holdE 2 G cs xs∧n=xs.length∧k≤30∧xs.length≤8∧pp≤p+10+2*k)∧m=(31-k)) (h0:=⟨_,_,_,[],0,p3,_,Z,PLe.refl _,H,?inv,Z⟩) (round:=?round)
  case inv=>exact⟨(Chk.nil (E:=holdE) (sz:=2) (G:=G3)),by first|rfl|simp|(simp;omega)|omega,(by exact⟨by omega,by simp,by omega⟩)⟩
  case round =>
   rintro _ _ _ ⟨v,n,cs,xs,k,pp,G5,rfl,hle5,H,hinv5,rfl⟩
   have hbs:=hbs.up hle5
   obtain⟨hchk5_0,_,hinv5⟩:=hinv5
   obtain⟨_,_,rfl⟩:=H.accShape (k:=1) rfl
   obtain⟨hk,hxl,hpp⟩:=hinv5
   refine W_seq (q2 (pe 3 Z (q3 ?_)))
   refine W_cond Z ?_ ?_
   ·intro hc6
    try simp only[nrm]at hc6
    refine W_skip (N_K (W_seq (W_block (q2 (pe 2 Z (xbs H Z7 ?_))))));intro _ _ _ H
    have H:=H.blkAcc 1 (k:=0) (n:=4) rfl rfl (by decide)
    have hchk9:=(((((Chk.nil (E:=strE) (sz:=1) (G:=G5)).snoc (show strE _ ([115]:Fw.Bs) [str [115]] from⟨rfl,by decide⟩) rfl).snoc (show strE _ ([116]:Fw.Bs) [str [116]] from⟨rfl,by decide⟩) rfl).snoc (show strE _ ([117]:Fw.Bs) [str [117]] from⟨rfl,by decide⟩) rfl).snoc (show strE _ ([118]:Fw.Bs) [str [118]] from⟨rfl,by decide⟩) rfl)
    obtain⟨_,H,hsg10,hsr10⟩:=H.shutM (k:=0) (j:=0) rfl rfl hchk9 aN aN
    have hbs:=hbs.up hsg10
    have hchk5_0:=hchk5_0.up hsg10
    have hle5:=hle5.trans hsg10
    refine xc Z2 (of_c _ _ H.sub _ _ _ _ _ _ hbs (H.blkIs (k:=0) Z).1 (H.blkIs (k:=0) Z).2 oM _ _ hsr10 (by first|decide|(simp;done)|(simp;omega))) ?_
    rintro _ _ ⟨G8,_,_,rfl,H8',⟨_,x8,_,rfl,hxs8,rfl⟩⟩
    have hbs:=hbs.up H8'.le
    have hchk5_0:=hchk5_0.up H8'.le
    have hle5:=hle5.trans H8'.le
    have H:=H.borrow (k:=0) rfl H8'
    refine⟨_,Z,?_⟩
    refine mV Z (xbs H Z7 ?_);intro _ _ _ H
    have H:=H.blkAcc 1 (k:=0) (n:=3) rfl rfl (by decide)
    have hchk13:=((((Chk.nil (E:=strE) (sz:=1) (G:=G8)).snoc (show strE _ ([106,111,98]:Fw.Bs) [str [106,111,98]] from⟨rfl,by decide⟩) rfl).snoc (show strE _ ([108,97,119]:Fw.Bs) [str [108,97,119]] from⟨rfl,by decide⟩) rfl).snoc (show strE _ ([116,101,115,116]:Fw.Bs) [str [116,101,115,116]] from⟨rfl,by decide⟩) rfl)
    obtain⟨_,H,hsg14,hsr14⟩:=H.shutM (k:=0) (j:=0) rfl rfl hchk13 aN aN
    have hbs:=hbs.up hsg14
    have hchk5_0:=hchk5_0.up hsg14
    have hle5:=hle5.trans hsg14
    refine xc Z2 (of_c _ _ H.sub _ _ _ _ _ _ hbs (H.blkIs (k:=0) Z).1 (H.blkIs (k:=0) Z).2 oM _ _ hsr14 (by first|decide|(simp;done)|(simp;omega))) ?_
    rintro _ _ ⟨_,_,_,rfl,H12',⟨p12,x12,_,rfl,hxs12,rfl⟩⟩
    have hchk5_0:=hchk5_0.up H12'.le
    have hle5:=hle5.trans H12'.le
    have H:=H.borrow (k:=0) rfl H12'
    refine⟨_,Z,?_⟩
    refine o_build bf55 Z Z Z (xc Z2 (HoldPut_c _ _ (H.lendSubL [1]) _ _ (H.lendRdL (k:=1) (ks:=[1]) Z Z hchk5_0 aN aN) _ ⟨x8,x12⟩ ⟨Z,hxs8,hxs12⟩) ?_)
    rintro _ _ ⟨_,_,rfl,H15',⟨_,rfl,rfl,hsm15⟩⟩
    have H:=H.readersL H15'
    obtain⟨_,_,rfl⟩:=H.accShape (k:=0) rfl
    refine⟨_,Z,?_⟩
    refine pe 5 Z (q1 (mV Z (q3 ?_)))
    refine W_cond Z ?_ ?_
    ·intro hc16
     try simp only[nrm]at hc16
     refine W_region (pe 2 Z (R_nil (N_B (N_K (W_region (mV Z (aD Z2 (aG Z (R_nil ?_)))))))))
     have hpl9:((Sp.HoldPut xs ⟨x8,x12⟩).getD []).length≤8:=(by cases e9:Sp.HoldPut xs ⟨x8,x12⟩ with |none=>simp|some r9=>exact Sp.hput_len e9)
     have H:=H.dl 2
     have H:=H.tF 1
     refine N_lp (hJ:=⟨_,_,_,((Sp.HoldPut xs ⟨x8,x12⟩).getD []),k+1,p12,_,Z,hle5,H,?inv,Z⟩) (hm:=?hm)
     case hm=>omega
     case inv=>exact⟨(chkH_of hsm15),aN,(by exact⟨by omega,by omega,by omega⟩)⟩
    intro hc16'
    try simp only[nrm]at hc16'
    refine W_skip (N_B (N_K (W_region (mV Z (aD Z2 (aG Z (R_nil ?_)))))))
    have hpl9:((Sp.HoldPut xs ⟨x8,x12⟩).getD []).length≤8:=(by cases e9:Sp.HoldPut xs ⟨x8,x12⟩ with |none=>simp|some r9=>exact Sp.hput_len e9)
    have H:=H.dl 0
    refine N_lp (hJ:=⟨_,_,_,xs,k+1,p12,_,Z,hle5,H,?inv,Z⟩) (hm:=?hm)
    case hm=>omega
    case inv=>exact⟨hchk5_0,aN,(by exact⟨by omega,by omega,by omega⟩)⟩
   intro hc6'
   try simp only[nrm]at hc6'
   refine W_exit (N_K_exit (N_LP_exit (N_B_same (N_K (W_seq (q2 (mV Z (lN Z (pe 2 Z ?_)))))))))
   refine R_case (t:=36) Z ?_ ?_
   ·intro hc19
    try simp only[nrm]at hc19
    refine pe 1 Z (gR Z (xc Z2 (pick_c _ _ H.sub _ _ _ _ _ _ hbs (H.blkIs (k:=0) Z).1 (H.blkIs (k:=0) Z).2 oM _ oO) ?_))
    rintro _ _ ⟨_,_,_,rfl,H20',⟨_,_,_,rfl,_,rfl⟩⟩
    have hbs:=hbs.up H20'.le
    have hchk5_0:=hchk5_0.up H20'.le
    have H:=H.borrow (k:=0) rfl H20'
    refine⟨_,Z,?_⟩
    refine pe 2 Z (q3 ?_)
    refine W_cond Z ?_ ?_
    ·intro hc21
     try simp only[nrm]at hc21
     refine W_region (pe 3 Z (lN Z (xc Z2 (pick_c _ _ H.sub _ _ _ _ _ _ hbs (H.blkIs (k:=0) Z).1 (H.blkIs (k:=0) Z).2 oM _ oO) ?_)))
     rintro _ _ ⟨G22,_,_,rfl,H22',⟨_,x22,_,rfl,_,rfl⟩⟩
     have hbs:=hbs.up H22'.le
     have hchk5_0:=hchk5_0.up H22'.le
     have H:=H.borrow (k:=0) rfl H22'
     refine⟨_,Z,?_⟩
     refine mV Z (xbs H Z7 ?_);intro _ _ _ H
     have H:=H.blkAcc 1 (k:=0) (n:=3) rfl rfl (by decide)
     have hchk25:=((((Chk.nil (E:=strE) (sz:=1) (G:=G22)).snoc (show strE _ ([]:Fw.Bs) [str []] from⟨rfl,by decide⟩) rfl).snoc (show strE _ ([122,122,122]:Fw.Bs) [str [122,122,122]] from⟨rfl,by decide⟩) rfl).snoc (show strE _ ([66,97,100]:Fw.Bs) [str [66,97,100]] from⟨rfl,by decide⟩) rfl)
     obtain⟨_,H,hsg26,hsr26⟩:=H.shutM (k:=0) (j:=0) rfl rfl hchk25 aN aN
     have hbs:=hbs.up hsg26
     have hchk5_0:=hchk5_0.up hsg26
     refine xc Z2 (of_c _ _ H.sub _ _ _ _ _ _ hbs (H.blkIs (k:=0) Z).1 (H.blkIs (k:=0) Z).2 oM _ _ hsr26 (by first|decide|(simp;done)|(simp;omega))) ?_
     rintro _ _ ⟨_,_,_,rfl,H24',⟨_,x24,_,rfl,hxs24,rfl⟩⟩
     have hchk5_0:=hchk5_0.up H24'.le
     have H:=H.borrow (k:=0) rfl H24'
     refine⟨_,Z,?_⟩
     refine o_index_A 1 H x22 Z hchk5_0 underlying38 sizeOf55 Z Z Z Z aN aN ?_;intro _ z27 _ hba27 hz27 hE27 _;cases hba27
     obtain⟨rfl,hi27,hj27⟩:=hE27;have hy_hi27:_≤16777216:=hi27;have hy_hj27:_≤16777216:=hj27
     refine fA 1 Z ?_
     have hcl28:=hchk5_0.length
     refine o_store_A 1 H sizeOf9 Z Z Z Z Z (by simp only[vc,List.length_cons,List.length_nil];omega) ?_;intro _ H
     have hchk28:=hchk5_0.put (x':=⟨z27.snap,x24⟩) (off:=1) (vs:=[_]) hz27 (fun cs hl hE=>by obtain⟨rfl,h1,h2⟩:=hE;exact⟨rfl,h1,hxs24⟩) (by simp only[vc,List.length_cons,List.length_nil];omega)
     refine q1 (pe 2 Z (q3 (W_ret (rt1 results47 Z ?_))))
     have H:=H.tF 1
     have hcx:=hchk28
     exact H.retM ⟨_,(xs.set x22 ⟨z27.snap,x24⟩),_,_,oM,rfl,hcx,(by first|(simp;done)|(simp;omega)|(simp at *; omega)|omega),acc_1 aN⟩
    intro hc21'
    try simp only[nrm]at hc21'
    refine W_skip (N_K (q2 (pe 2 Z (q3 (W_ret (rt1 results47 Z ?_))))))
    have H:=H.tF 1
    have hcx:=hchk5_0
    exact H.retM ⟨_,xs,_,_,oM,rfl,hcx,(by first|(simp;done)|(simp;omega)|(simp at *; omega)|omega),acc_1 aN⟩
   intro hc19'
   try simp only[nrm]at hc19'
   refine pe 4 Z (q3 (W_false Z (W_skip (N_K (q2 (pe 2 Z (q3 (W_ret (rt1 results47 Z ?_)))))))))
   have H:=H.tF 1
   have hcx:=hchk5_0
   exact H.retM ⟨_,xs,_,_,oM,rfl,hcx,(by first|(simp;done)|(simp;omega)|(simp at *; omega)|omega),acc_1 aN⟩
 intro hc4'
 try simp only[nrm]at hc4'
 refine W_skip (N_K (W_seq (q2 (aG Z (q3 (W_block ?_))))))
 refine W_lp (hf:=(Sub.cons (t:=0) Z (Sub.cons (t:=2) Z (Sub.cons (t:=4) Z Sub.nil)))) (J:=fun M w m=>∃(v:Value) (n:Nat) (cs:List Value) (xs:List (BHold)) (k:Nat) (pp:Nat) (G:PH),M=[(5,.int .i64 (k:Int)),(3,v)]∧PLe G3 G∧Hp w0 G0 [rb] w G [blk rb (cl [.slice ab bs.length kb,.int .i64 (pp:Int)] 117),acc 55 2 v n cs]∧(Chk holdE 2 G cs xs∧n=xs.length∧k≤30∧xs.length≤8∧pp≤p+10+2*k)∧m=(31-k)) (h0:=⟨_,_,_,[],0,p3,_,Z,PLe.refl _,H,?inv,Z⟩) (round:=?round)
 case inv=>exact⟨(Chk.nil (E:=holdE) (sz:=2) (G:=G3)),by first|rfl|simp|(simp;omega)|omega,(by exact⟨by omega,by simp,by omega⟩)⟩
 case round =>
  rintro _ _ _ ⟨v,n,cs,xs,k,pp,G29,rfl,hle29,H,hinv29,rfl⟩
  have hbs:=hbs.up hle29
  obtain⟨hchk29_0,_,hinv29⟩:=hinv29
  obtain⟨_,_,rfl⟩:=H.accShape (k:=1) rfl
  obtain⟨hk,hxl,hpp⟩:=hinv29
  refine W_seq (q2 (pe 3 Z (q3 ?_)))
  refine W_cond Z ?_ ?_
  ·intro hc30
   try simp only[nrm]at hc30
   refine W_skip (N_K (W_seq (W_block (q2 (pe 2 Z (xbs H Z7 ?_))))));intro _ _ _ H
   have H:=H.blkAcc 1 (k:=0) (n:=4) rfl rfl (by decide)
   have hchk33:=(((((Chk.nil (E:=strE) (sz:=1) (G:=G29)).snoc (show strE _ ([115]:Fw.Bs) [str [115]] from⟨rfl,by decide⟩) rfl).snoc (show strE _ ([116]:Fw.Bs) [str [116]] from⟨rfl,by decide⟩) rfl).snoc (show strE _ ([117]:Fw.Bs) [str [117]] from⟨rfl,by decide⟩) rfl).snoc (show strE _ ([118]:Fw.Bs) [str [118]] from⟨rfl,by decide⟩) rfl)
   obtain⟨_,H,hsg34,hsr34⟩:=H.shutM (k:=0) (j:=0) rfl rfl hchk33 aN aN
   have hbs:=hbs.up hsg34
   have hchk29_0:=hchk29_0.up hsg34
   have hle29:=hle29.trans hsg34
   refine xc Z2 (of_c _ _ H.sub _ _ _ _ _ _ hbs (H.blkIs (k:=0) Z).1 (H.blkIs (k:=0) Z).2 oM _ _ hsr34 (by first|decide|(simp;done)|(simp;omega))) ?_
   rintro _ _ ⟨G32,_,_,rfl,H32',⟨_,x32,_,rfl,hxs32,rfl⟩⟩
   have hbs:=hbs.up H32'.le
   have hchk29_0:=hchk29_0.up H32'.le
   have hle29:=hle29.trans H32'.le
   have H:=H.borrow (k:=0) rfl H32'
   refine⟨_,Z,?_⟩
   refine mV Z (xbs H Z7 ?_);intro _ _ _ H
   have H:=H.blkAcc 1 (k:=0) (n:=3) rfl rfl (by decide)
   have hchk37:=((((Chk.nil (E:=strE) (sz:=1) (G:=G32)).snoc (show strE _ ([106,111,98]:Fw.Bs) [str [106,111,98]] from⟨rfl,by decide⟩) rfl).snoc (show strE _ ([108,97,119]:Fw.Bs) [str [108,97,119]] from⟨rfl,by decide⟩) rfl).snoc (show strE _ ([116,101,115,116]:Fw.Bs) [str [116,101,115,116]] from⟨rfl,by decide⟩) rfl)
   obtain⟨_,H,hsg38,hsr38⟩:=H.shutM (k:=0) (j:=0) rfl rfl hchk37 aN aN
   have hbs:=hbs.up hsg38
   have hchk29_0:=hchk29_0.up hsg38
   have hle29:=hle29.trans hsg38
   refine xc Z2 (of_c _ _ H.sub _ _ _ _ _ _ hbs (H.blkIs (k:=0) Z).1 (H.blkIs (k:=0) Z).2 oM _ _ hsr38 (by first|decide|(simp;done)|(simp;omega))) ?_
   rintro _ _ ⟨_,_,_,rfl,H36',⟨p36,x36,_,rfl,hxs36,rfl⟩⟩
   have hchk29_0:=hchk29_0.up H36'.le
   have hle29:=hle29.trans H36'.le
   have H:=H.borrow (k:=0) rfl H36'
   refine⟨_,Z,?_⟩
   refine o_build bf55 Z Z Z (xc Z2 (HoldPut_c _ _ (H.lendSubL [1]) _ _ (H.lendRdL (k:=1) (ks:=[1]) Z Z hchk29_0 aN aN) _ ⟨x32,x36⟩ ⟨Z,hxs32,hxs36⟩) ?_)
   rintro _ _ ⟨_,_,rfl,H39',⟨_,rfl,rfl,hsm39⟩⟩
   have H:=H.readersL H39'
   obtain⟨_,_,rfl⟩:=H.accShape (k:=0) rfl
   refine⟨_,Z,?_⟩
   refine pe 5 Z (q1 (mV Z (q3 ?_)))
   refine W_cond Z ?_ ?_
   ·intro hc40
    try simp only[nrm]at hc40
    refine W_region (pe 2 Z (R_nil (N_B (N_K (W_region (mV Z (aD Z2 (aG Z (R_nil ?_)))))))))
    have hpl9:((Sp.HoldPut xs ⟨x32,x36⟩).getD []).length≤8:=(by cases e9:Sp.HoldPut xs ⟨x32,x36⟩ with |none=>simp|some r9=>exact Sp.hput_len e9)
    have H:=H.dl 2
    have H:=H.tF 1
    refine N_lp (hJ:=⟨_,_,_,((Sp.HoldPut xs ⟨x32,x36⟩).getD []),k+1,p36,_,Z,hle29,H,?inv,Z⟩) (hm:=?hm)
    case hm=>omega
    case inv=>exact⟨(chkH_of hsm39),aN,(by exact⟨by omega,by omega,by omega⟩)⟩
   intro hc40'
   try simp only[nrm]at hc40'
   refine W_skip (N_B (N_K (W_region (mV Z (aD Z2 (aG Z (R_nil ?_)))))))
   have hpl9:((Sp.HoldPut xs ⟨x32,x36⟩).getD []).length≤8:=(by cases e9:Sp.HoldPut xs ⟨x32,x36⟩ with |none=>simp|some r9=>exact Sp.hput_len e9)
   have H:=H.dl 0
   refine N_lp (hJ:=⟨_,_,_,xs,k+1,p36,_,Z,hle29,H,?inv,Z⟩) (hm:=?hm)
   case hm=>omega
   case inv=>exact⟨hchk29_0,aN,(by exact⟨by omega,by omega,by omega⟩)⟩
  intro hc30'
  try simp only[nrm]at hc30'
  refine W_exit (N_K_exit (N_LP_exit (N_B_same (N_K (W_seq (q2 (mV Z (lN Z (pe 2 Z ?_)))))))))
  refine R_case (t:=36) Z ?_ ?_
  ·intro hc43
   try simp only[nrm]at hc43
   refine pe 1 Z (gR Z (xc Z2 (pick_c _ _ H.sub _ _ _ _ _ _ hbs (H.blkIs (k:=0) Z).1 (H.blkIs (k:=0) Z).2 oM _ oO) ?_))
   rintro _ _ ⟨_,_,_,rfl,H44',⟨_,_,_,rfl,_,rfl⟩⟩
   have hbs:=hbs.up H44'.le
   have hchk29_0:=hchk29_0.up H44'.le
   have H:=H.borrow (k:=0) rfl H44'
   refine⟨_,Z,?_⟩
   refine pe 2 Z (q3 ?_)
   refine W_cond Z ?_ ?_
   ·intro hc45
    try simp only[nrm]at hc45
    refine W_region (pe 3 Z (lN Z (xc Z2 (pick_c _ _ H.sub _ _ _ _ _ _ hbs (H.blkIs (k:=0) Z).1 (H.blkIs (k:=0) Z).2 oM _ oO) ?_)))
    rintro _ _ ⟨G46,_,_,rfl,H46',⟨_,x46,_,rfl,_,rfl⟩⟩
    have hbs:=hbs.up H46'.le
    have hchk29_0:=hchk29_0.up H46'.le
    have H:=H.borrow (k:=0) rfl H46'
    refine⟨_,Z,?_⟩
    refine mV Z (xbs H Z7 ?_);intro _ _ _ H
    have H:=H.blkAcc 1 (k:=0) (n:=3) rfl rfl (by decide)
    have hchk49:=((((Chk.nil (E:=strE) (sz:=1) (G:=G46)).snoc (show strE _ ([]:Fw.Bs) [str []] from⟨rfl,by decide⟩) rfl).snoc (show strE _ ([122,122,122]:Fw.Bs) [str [122,122,122]] from⟨rfl,by decide⟩) rfl).snoc (show strE _ ([66,97,100]:Fw.Bs) [str [66,97,100]] from⟨rfl,by decide⟩) rfl)
    obtain⟨_,H,hsg50,hsr50⟩:=H.shutM (k:=0) (j:=0) rfl rfl hchk49 aN aN
    have hbs:=hbs.up hsg50
    have hchk29_0:=hchk29_0.up hsg50
    refine xc Z2 (of_c _ _ H.sub _ _ _ _ _ _ hbs (H.blkIs (k:=0) Z).1 (H.blkIs (k:=0) Z).2 oM _ _ hsr50 (by first|decide|(simp;done)|(simp;omega))) ?_
    rintro _ _ ⟨_,_,_,rfl,H48',⟨_,x48,_,rfl,hxs48,rfl⟩⟩
    have hchk29_0:=hchk29_0.up H48'.le
    have H:=H.borrow (k:=0) rfl H48'
    refine⟨_,Z,?_⟩
    refine o_index_A 1 H x46 Z hchk29_0 underlying38 sizeOf55 Z Z Z Z aN aN ?_;intro _ z51 _ hba51 hz51 hE51 _;cases hba51
    obtain⟨rfl,hi51,hj51⟩:=hE51;have hy_hi51:_≤16777216:=hi51;have hy_hj51:_≤16777216:=hj51
    refine fA 1 Z ?_
    have hcl52:=hchk29_0.length
    refine o_store_A 1 H sizeOf9 Z Z Z Z Z (by simp only[vc,List.length_cons,List.length_nil];omega) ?_;intro _ H
    have hchk52:=hchk29_0.put (x':=⟨z51.snap,x48⟩) (off:=1) (vs:=[_]) hz51 (fun cs hl hE=>by obtain⟨rfl,h1,h2⟩:=hE;exact⟨rfl,h1,hxs48⟩) (by simp only[vc,List.length_cons,List.length_nil];omega)
    refine q1 (pe 2 Z (q3 (W_ret (rt1 results47 Z ?_))))
    have H:=H.tF 1
    have hcx:=hchk52
    exact H.retM ⟨_,(xs.set x46 ⟨z51.snap,x48⟩),_,_,oM,rfl,hcx,(by first|(simp;done)|(simp;omega)|(simp at *; omega)|omega),acc_1 aN⟩
   intro hc45'
   try simp only[nrm]at hc45'
   refine W_skip (N_K (q2 (pe 2 Z (q3 (W_ret (rt1 results47 Z ?_))))))
   have H:=H.tF 1
   have hcx:=hchk29_0
   exact H.retM ⟨_,xs,_,_,oM,rfl,hcx,(by first|(simp;done)|(simp;omega)|(simp at *; omega)|omega),acc_1 aN⟩
  intro hc43'
  try simp only[nrm]at hc43'
  refine pe 4 Z (q3 (W_false Z (W_skip (N_K (q2 (pe 2 Z (q3 (W_ret (rt1 results47 Z ?_)))))))))
  have H:=H.tF 1
  have hcx:=hchk29_0
  exact H.retM ⟨_,xs,_,_,oM,rfl,hcx,(by first|(simp;done)|(simp;omega)|(simp at *; omega)|omega),acc_1 aN⟩
theorem DrawDropFree_c (w0:World)(G0:PH)(hG:PSub G0 w0)(vcode:Value)(code:List (UInt8))(hcode:RdU G0 vcode code) :
  Calls Tryz.prog 17 #[vcode] w0 (RetP w0 G0 (fun G v=>∃(cs:List Value) (x:BDisk) (va:Value) (qs:List BHold) (p:Bs),v= .tuple #[.agg cs.toArray,va,str p]∧diskE G x cs∧RdS LIM holdE 2 G va qs∧p.length≤16777216)):=by
 obtain⟨acode,kcode,rfl⟩:=hcode.shape
 have hlimcode:code.length≤1099511627776:=hcode.lim
 have H:=Hp.init hG
 refine calls_of_W (l:=[.slice acode code.length kcode]) func17 Z ntmps17 Z (q2 (xal H Z ?_));intro _ _ _ H
 refine pe 2 Z (q1 (mV Z (xc Z2 (l6Open_c _ _ H.sub _ _ hcode) ?_)))
 rintro _ _ ⟨_,_,_,g2,rfl,⟨_,_,_,_,_,rfl,rfl,hbs2⟩,hp2,hq2,hs2⟩
 have H:=H.growO g2 hp2 hq2 hs2
 refine⟨_,Z,?_⟩
 refine aG Z (q1 (mV Z (xc Z2 (l91Disk_c _ _ H.sub _ _ _ _ _ _ hbs2 (H.blkIs (k:=0) Z).1 (H.blkIs (k:=0) Z).2 oM) ?_)))
 rintro _ _ ⟨_,_,_,rfl,H3',⟨_,_,_,_,st3,tr3,sn3,_,rfl,hst3,htr3,hsn3,rfl⟩⟩
 have hbs2:=hbs2.up H3'.le
 have H:=H.borrow (k:=0) rfl H3'
 obtain⟨_,_,rfl⟩:=hst3.shape;have hx_hst3:_≤1099511627776:=hst3.lim;obtain⟨_,_,rfl⟩:=htr3.shape;have hx_htr3:_≤1099511627776:=htr3.lim;obtain⟨_,_,rfl⟩:=hsn3.shape;have hx_hsn3:_≤1099511627776:=hsn3.lim
 refine⟨_,Z,?_⟩
 refine xal H Z ?_;intro _ _ _ H
 refine xst 0 H Z8 ?_;intro _ H
 refine q1 (mV Z (xc Z2 (l92Holds_c _ _ H.sub _ _ _ _ _ _ hbs2 (H.blkIs (k:=1) Z).1 (H.blkIs (k:=1) Z).2 oM) ?_))
 rintro _ _ ⟨G6,_,_,rfl,H6',⟨_,_,_,_,_,rfl,hchk6,_,rfl⟩⟩
 have hbs2:=hbs2.up H6'.le
 have hst3:=hst3.up H6'.le
 have htr3:=htr3.up H6'.le
 have hsn3:=hsn3.up H6'.le
 have H:=H.borrow (k:=1) rfl H6'
 obtain⟨_,_,rfl⟩:=H.accShape (k:=0) rfl
 refine⟨_,Z,?_⟩
 refine aG Z (q3 (W_seq (W_drawK [2] 8 H kR Z ?_)));intro _ H;have hd7:=PLe.refl G6
 refine RD_t 0 Z kR Z (fun _ hK=>v_loadagg_B 0 hK isAgg34 sizeOf34 Z Z Z Z) (dE 1 Z2 (dE 2 Z2 (RD_t 3 Z kR Z (fun _ hK=>v_loadagg_B 0 hK isAgg34 sizeOf34 Z Z Z Z) (r1 4 Z (xc Z2 (l91Snap_c _ _ H.sub _ _ _ _ _ _ hbs2 (H.blkIs (k:=1) Z).1 (H.blkIs (k:=1) Z).2 oM _ ⟨st3,tr3,sn3⟩ ⟨_,_,_,_,_,_,_,_,_,Z,hst3,htr3,hsn3⟩) ?_)))))
 rintro _ _ ⟨_,_,_,rfl,H8',⟨_,_,_,rfl,hxs8,rfl⟩⟩
 have hst3:=hst3.up H8'.le
 have htr3:=htr3.up H8'.le
 have hsn3:=hsn3.up H8'.le
 have hchk6:=hchk6.up H8'.le
 have hd7:=hd7.trans H8'.le
 have H:=H.borrow (k:=1) rfl H8'
 refine⟨_,Z,?_⟩
 refine q4 H hd7 (r1 5 Z (xst 3 H Z8 ?_));intro _ H
 refine q4 H hd7 (dE 6 Z2 (dE 7 Z2 (rz (N_K (W_ret (ret_gen (rs:=[.cell 2 34,.tmp 3,.tmp 4]) (vs:=[_,_,_]) results17 ⟨⟨_,Z,load_blk 3 H isAgg34 sizeOf34 Z Z Z⟩,Z,Z,trivial⟩ ?_))))))
 obtain⟨_,H,hsg10,hsr10⟩:=H.shut' (k:=1) rfl hchk6 aN aN
 have hst3:=hst3.up hsg10
 have htr3:=htr3.up hsg10
 have hsn3:=hsn3.up hsg10
 have H:=H.dl 0
 have H:=H.dl 0
 have H:=H.dl 0
 exact H.retP ⟨_,⟨st3,tr3,sn3⟩,_,_,_,Z,⟨_,_,_,_,_,_,_,_,_,Z,hst3,htr3,hsn3⟩,hsr10,hxs8⟩
theorem DropFree_c (w0:World)(G0:PH)(hG:PSub G0 w0)(cd:List Value)(d:BDisk)(hd:diskE G0 d cd)(vlist:Value)(list:List (BHold))(hlist:RdS LIM holdE 2 G0 vlist list)(snap:Bs)(hsnap:snap.length≤16777216) :
  Calls Tryz.prog 8 #[.agg cd.toArray,vlist,str snap] w0 (RetO w0 G0 (fun G val r=>∃u u1 u2,val= .tuple #[.agg #[u,u1,u2],.bool (Sp.DropFree d list snap).isSome]∧AccOf snapE 2 106 (((Sp.DropFree d list snap).map (·.snaps)).getD []) G u2 r∧RdH G u (((Sp.DropFree d list snap).map (·.store)).getD [])∧RdItems G u1 (((Sp.DropFree d list snap).map (·.tree)).getD []))):=by
 obtain⟨_,_,_,_,_,_,_,_,_,rfl,hr1,hr1',hr1'',⟨_,_⟩,⟨_,_⟩,_,_⟩:=ox hd
 obtain⟨alist,klist,rfl⟩:=hlist.shape
 have hlimlist:list.length≤1099511627776:=hlist.lim
 have H:=Hp.init hG
 refine calls_of_W (l:=[_,.slice alist list.length klist,str snap]) func8 Z ntmps8 Z (q2 (o_box H Z Z Z ?_));intro _ _ _ H
 refine xal H Z ?_;intro _ _ _ H
 refine aG Z (q3 (W_seq (q2 (mV Z (xr H Z2 (HoldsValid_c _ _ H.sub _ _ hlist) ?_)))));intro _ H
 refine pe 2 Z ?_
 refine R_case (t:=11) Z ?_ ?_
 ·intro hc5
  try simp only[nrm]at hc5
  refine pe 6 Z (q3 (W_true Z (q2 (o_build bf34 Z Z Z (xst 0 H Z8 ?_)))));intro _ H
  refine aG Z (q3 (W_ret (N_K_ret (ret_gen (rs:=[.cell 6 34,.tmp 7]) (vs:=[_,_]) results8 ⟨⟨_,Z,load_blk 0 H isAgg34 sizeOf34 Z Z Z⟩,Z,trivial⟩ ?_))))
  have H:=H.dl 0
  have H:=H.dl 0
  have hN:Sp.DropFree d list snap=none:=by exact Sp.free_no (.inl (by simpa using hc5))
  have H:=H.addNil 106 2
  exact H.retO (k:=0) rfl (by rw[hN];exact⟨_,_,_,rfl,AccOf.mk rfl Chk.nil,RdS.nil _ _ _,RdS.nil _ _ _⟩) (acc_nd _ _ _ _ _)
 intro hc5'
 try simp only[nrm]at hc5'
 refine pe 2 Z (gR Z (xc Z2 (HoldTags_c _ _ H.sub _ _ hlist _ hsnap) ?_))
 rintro _ _ ⟨_,_,g7,rfl,hr7_0⟩
 have H:=H.grow g7
 have hr1:=hr1.up g7.le
 have hr1':=hr1'.up g7.le
 have hr1'':=hr1''.up g7.le
 obtain⟨_,_,rfl⟩:=hr7_0.shape;have hx_hr7_0:_≤1099511627776:=hr7_0.lim
 refine⟨_,Z,?_⟩
 refine gR Z (lN Z (pe 2 Z (q3 ?_)))
 refine W_cond Z ?_ ?_
 ·intro hc8
  try simp only[nrm]at hc8
  refine q2 (o_build bf34 Z Z Z (xst 0 H Z8 ?_));intro _ H
  refine aG Z (q3 (W_ret (N_K_ret (ret_gen (rs:=[.cell 6 34,.tmp 7]) (vs:=[_,_]) results8 ⟨⟨_,Z,load_blk 0 H isAgg34 sizeOf34 Z Z Z⟩,Z,trivial⟩ ?_))))
  have H:=H.dl 0
  have H:=H.dl 0
  have hN:Sp.DropFree d list snap=none:=by exact Sp.free_no (.inr (fun h9=>(by have h8:(Sp.HoldTags list snap).length=0:=(by rw[h9];rfl);omega)))
  have H:=H.addNil 106 2
  exact H.retO (k:=0) rfl (by rw[hN];exact⟨_,_,_,rfl,AccOf.mk rfl Chk.nil,RdS.nil _ _ _,RdS.nil _ _ _⟩) (acc_nd _ _ _ _ _)
 intro hc8'
 try simp only[nrm]at hc8'
 refine W_skip (N_K (q2 (lA 1 3 H Z4 (mV Z (xc Z2 (SnapDrop_c _ _ H.sub _ d ⟨_,_,_,_,_,_,_,_,_,Z,hr1,hr1',hr1''⟩ _ hsnap) ?_)))))
 rintro _ _ ⟨_,_,_,g10,rfl,⟨_,_,_,rfl,⟨_,rfl,hchk10⟩,hr10_0,hr10_1⟩,hp10,hq10,hs10⟩
 have H:=H.growO g10 hp10 hq10 hs10;obtain⟨_,_,rfl⟩:=H.accShape (k:=0) rfl
 obtain⟨_,_,rfl⟩:=hr10_0.shape;have hx_hr10_0:_≤1099511627776:=hr10_0.lim
 obtain⟨_,_,rfl⟩:=hr10_1.shape;have hx_hr10_1:_≤1099511627776:=hr10_1.lim
 refine⟨_,Z,?_⟩
 refine pe 2 Z (xst 1 H Z8 ?_);intro _ H
 refine aG Z (q3 (W_ret (ret_gen (rs:=[.cell 6 34,.tmp 7]) (vs:=[_,_]) results8 ⟨⟨_,Z,load_blk 1 H isAgg34 sizeOf34 Z Z Z⟩,Z,trivial⟩ ?_)))
 have hY:Sp.DropFree d list snap=Sp.SnapDrop d snap:=by exact Sp.free_yes (by assumption) (List.eq_nil_of_length_eq_zero oM)
 exact H.retO (k:=0) rfl (by rw[hY];exact⟨_,_,_,rfl,AccOf.mk aN hchk10,hr10_0,hr10_1⟩) (acc_nd _ _ _ _ _)
theorem DropFreeP_c (w0:World)(G0:PH)(hG:PSub G0 w0)(cd:List Value)(d:BDisk)(hd:diskE G0 d cd)(vlist:Value)(list:List BHold)(hlist:RdS LIM holdE 2 G0 vlist list)(snap:Bs)(hsnap:snap.length≤16777216) :
  Calls Tryz.prog 8 #[.agg cd.toArray,vlist,str snap] w0 (RetP w0 G0 (fun G val=>∃cs,val= .tuple #[.agg cs.toArray,.bool (Sp.DropFree d list snap).isSome]∧diskE G ((Sp.DropFree d list snap).getD ⟨[],[],[]⟩) cs)):=by
 refine(DropFree_c w0 G0 hG cd d hd vlist list hlist snap hsnap).mono ?_
 rintro _ _ ⟨_,_,_,g,rfl,⟨_,_,_,rfl,⟨_,rfl,hchk⟩,h1,h2⟩,hp,hq,hs⟩
 have H:=(Hp.init hG).growO g hp hq hs
 have hb:(((Sp.DropFree d list snap).map (·.snaps)).getD []).length≤6:=Sp.dk_lim (fun d1 h=>Sp.free_valid h)
 obtain⟨_,H2,hle,hr⟩:=H.shut' (k:=0) rfl hchk rfl oM
 have e1:((Sp.DropFree d list snap).map (·.store)).getD []=((Sp.DropFree d list snap).getD ⟨[],[],[]⟩).store:=by cases Sp.DropFree d list snap<;>rfl
 have e2:((Sp.DropFree d list snap).map (·.tree)).getD []=((Sp.DropFree d list snap).getD ⟨[],[],[]⟩).tree:=by cases Sp.DropFree d list snap<;>rfl
 have e3:((Sp.DropFree d list snap).map (·.snaps)).getD []=((Sp.DropFree d list snap).getD ⟨[],[],[]⟩).snaps:=by cases Sp.DropFree d list snap<;>rfl
 rw[e1]at h1;rw[e2]at h2;rw[e3]at hr
 obtain⟨_,_,rfl⟩:=h1.shape
 obtain⟨_,_,rfl⟩:=h2.shape
 obtain⟨_,_,rfl⟩:=hr.shape
 exact H2.retP ⟨[_,_,_],Z,_,_,_,_,_,_,_,_,_,Z,h1.up hle,h2.up hle,hr⟩
theorem lDropFree_c (w0:World)(G0:PH)(hG:PSub G0 w0)(vcode:Value)(code:List (UInt8))(hcode:RdU G0 vcode code) :
  Calls Tryz.prog 4 #[vcode] w0 (Rets w0 (.bool true)):=by
 obtain⟨acode,kcode,rfl⟩:=hcode.shape
 have hlimcode:code.length≤1099511627776:=hcode.lim
 have H:=Hp.init hG
 refine calls_of_W (l:=[.slice acode code.length kcode]) func4 Z ntmps4 Z (q2 (aG Z (q3 (W_seq (q2 (mV Z (lN Z (pe 1 Z (q3 ?_)))))))))
 refine W_cond Z ?_ ?_
 ·intro hc1
  try simp only[nrm]at hc1
  refine q2 (aG Z (q3 (W_ret (N_K_ret (rt1 results4 Z ?_)))))
  first|exact H.rets rfl|exact H.rets (congrArg Value.bool (by simp_all))
 intro hc1'
 try simp only[nrm]at hc1'
 refine W_skip (N_K (q2 (mV Z (xc Z2 (DrawDropFree_c _ _ H.sub _ _ hcode) ?_))))
 rintro _ _ ⟨_,_,g2,rfl,⟨_,uV,_,uH,uP,rfl,hV,hH,hP0⟩⟩
 have H:=H.grow g2
 obtain⟨_,_,_,_,_,_,_,_,_,rfl,hr2,hr2',hr2'',⟨_,_⟩,⟨_,_⟩,_,_⟩:=ox hV
 obtain⟨_,_,rfl⟩:=hH.shape;have hx_hH:_≤1099511627776:=hH.lim
 refine⟨_,Z,?_⟩
 refine pe 4 Z (xal H Z ?_);intro _ _ _ H
 refine xst 0 H Z8 ?_;intro _ H
 refine pe 2 Z (q1 (lA 0 3 H Z4 (pe 2 Z (xc Z2 (i_DropFree_c _ _ H.sub _ uV ⟨_,_,_,_,_,_,_,_,_,Z,hr2,hr2',hr2''⟩ _ _ hH _ hP0) ?_))))
 rintro _ _ ⟨_,_,rfl,H5',⟨_,_,_,_,_,_,rfl,rfl,ho15,ho25,ho35⟩⟩
 have H:=H.readers (fp:=[]) (by simp) (PLe.refl _) H5'
 obtain⟨_,p15⟩:=ho15
 obtain⟨_,_,rfl⟩:=OwnS.shape p15
 obtain⟨_,p25⟩:=ho25
 obtain⟨_,_,rfl⟩:=OwnS.shape p25
 obtain⟨_,p35⟩:=ho35
 obtain⟨_,_,rfl⟩:=OwnS.shape p35
 refine⟨_,Z,?_⟩
 refine pe 3 Z (xal H Z ?_);intro _ _ _ H
 refine xst 0 H Z8 ?_;intro _ H
 refine aG Z (q1 (lA 4 3 H Z4 (pe 2 Z (xc Z2 (DropFreeP_c _ _ H.sub _ uV ⟨_,_,_,_,_,_,_,_,_,Z,hr2,hr2',hr2''⟩ _ _ hH _ hP0) ?_))))
 rintro _ _ ⟨_,_,g8,rfl,_,rfl,hr8_0⟩
 have H:=H.grow g8
 have hr2:=hr2.up g8.le
 have hr2':=hr2'.up g8.le
 have hr2'':=hr2''.up g8.le
 have hH:=hH.up g8.le
 obtain⟨_,_,_,_,_,_,_,_,_,rfl,hr9,hr9',hr9'',⟨_,_⟩,⟨_,_⟩,_,_⟩:=ox hr8_0
 refine⟨_,Z,?_⟩
 refine pe 3 Z (xal H Z ?_);intro _ _ _ H
 refine xst 0 H Z8 ?_;intro _ H
 refine aG Z (q3 (W_seq (q2 (pe 2 Z (o_bneq_same underlying4 Z Z Z (mV Z (gR Z (lA 1 3 H Z4 (gR Z (lA 0 3 H Z4 (gR Z (xr H Z2 (w_sameDisk_c _ _ (H.lendSubL [2,3,4]) _ ((Sp.DropFree uV uH uP).getD ⟨[],[],[]⟩) ⟨_,_,_,_,_,_,_,_,_,Z,(H.lendOHs (k:=2) (ks:=[2,3,4]) Z Z ⟨_,p15⟩),(H.lendOIs (k:=3) (ks:=[2,3,4]) Z Z ⟨_,p25⟩),(H.lendOSn (k:=4) (ks:=[2,3,4]) Z Z ⟨_,p35⟩)⟩ _ ((Sp.DropFree uV uH uP).getD ⟨[],[],[]⟩) ⟨_,_,_,_,_,_,_,_,_,Z,(hr9.up (PPlus.le _ _ _)),(hr9'.up (PPlus.le _ _ _)),(hr9''.up (PPlus.le _ _ _))⟩ Z) ?_))))))))))));intro _ H
 refine pe 6 Z (q3 ?_)
 refine W_cond Z ?_ ?_
 ·intro hc13
  try simp only[nrm]at hc13
  refine q2 (pe 2 Z (o_beql_same underlying4 Z Z Z (mV Z (gR Z (lA 1 3 H Z4 (gR Z (lA 0 3 H Z4 (gR Z (xr H Z2 (w_sameDisk_c _ _ (H.lendSubL [2,3,4]) _ ((Sp.DropFree uV uH uP).getD ⟨[],[],[]⟩) ⟨_,_,_,_,_,_,_,_,_,Z,(H.lendOHs (k:=2) (ks:=[2,3,4]) Z Z ⟨_,p15⟩),(H.lendOIs (k:=3) (ks:=[2,3,4]) Z Z ⟨_,p25⟩),(H.lendOSn (k:=4) (ks:=[2,3,4]) Z Z ⟨_,p35⟩)⟩ _ ((Sp.DropFree uV uH uP).getD ⟨[],[],[]⟩) ⟨_,_,_,_,_,_,_,_,_,Z,(hr9.up (PPlus.le _ _ _)),(hr9'.up (PPlus.le _ _ _)),(hr9''.up (PPlus.le _ _ _))⟩ Z) ?_)))))))));intro _ H
  refine pe 2 Z (q3 (W_ret (N_K_ret (rt1 results4 Z ?_))))
  first|exact H.rets rfl|exact H.rets (congrArg Value.bool (by simp_all))
 intro hc13'
 try simp only[nrm]at hc13'
 obtain⟨u2,hu2⟩:=Option.isSome_iff_exists.1 (show(Sp.DropFree uV uH uP).isSome=true by simpa using hc13')
 have hW:(Sp.DropFree uV uH uP).getD ⟨[],[],[]⟩=u2:=by (rw[hu2];rfl)
 obtain⟨_,_,hfs⟩:=Sp.free_get hu2
 have hsd:Sp.SnapDrop uV uP=Sp.DropFree uV uH uP:=(hfs.trans hu2.symm)
 refine W_skip (N_K (q2 (lA 5 3 H Z4 (mV Z (xc Z2 (i_SnapDrop_c _ _ H.sub _ uV ⟨_,_,_,_,_,_,_,_,_,Z,hr2,hr2',hr2''⟩ _ hP0) ?_)))))
 rintro _ _ ⟨_,_,rfl,H15',⟨_,_,_,_,_,_,rfl,rfl,ho115,ho215,ho315⟩⟩
 have H:=H.readers (fp:=[]) (by simp) (PLe.refl _) H15'
 obtain⟨_,p115⟩:=ho115
 obtain⟨_,_,rfl⟩:=OwnS.shape p115
 obtain⟨_,p215⟩:=ho215
 obtain⟨_,_,rfl⟩:=OwnS.shape p215
 obtain⟨_,p315⟩:=ho315
 obtain⟨_,_,rfl⟩:=OwnS.shape p315
 refine⟨_,Z,?_⟩
 refine pe 3 Z (xal H Z ?_);intro _ _ _ H
 refine xst 0 H Z8 ?_;intro _ H
 refine aG Z (q1 (pe 2 Z (xc Z2 (i_HoldTags_c _ _ H.sub _ _ hH _ hP0) ?_)))
 rintro _ _ ⟨_,_,g18,rfl,hr18_0⟩
 have H:=H.grow g18
 obtain⟨_,_,rfl⟩:=hr18_0.shape;have hx_hr18_0:_≤1099511627776:=hr18_0.lim
 refine⟨_,Z,?_⟩
 refine lN Z (pe 2 Z ?_)
 refine R_case (t:=67) Z ?_ ?_
 ·intro hc19
  try simp only[nrm]at hc19
  refine pe 3 Z ?_
  refine R_case (t:=70) Z ?_ ?_
  ·intro hc20
   try simp only[nrm]at hc20
   refine gR Z (lA 0 3 H Z4 (gR Z (lA 5 3 H Z4 (gR Z (xr H Z2 (w_sameDisk_c _ _ (H.lendSubL [1,2,3,6,7,8]) _ ((Sp.SnapDrop uV uP).getD ⟨[],[],[]⟩) ⟨_,_,_,_,_,_,_,_,_,Z,(H.lendOHs (k:=1) (ks:=[1,2,3,6,7,8]) Z Z ⟨_,p115⟩),(H.lendOIs (k:=2) (ks:=[1,2,3,6,7,8]) Z Z ⟨_,p215⟩),(H.lendOSn (k:=3) (ks:=[1,2,3,6,7,8]) Z Z ⟨_,p315⟩)⟩ _ ((Sp.DropFree uV uH uP).getD ⟨[],[],[]⟩) ⟨_,_,_,_,_,_,_,_,_,Z,(H.lendOHs (k:=6) (ks:=[1,2,3,6,7,8]) Z Z ⟨_,p15⟩),(H.lendOIs (k:=7) (ks:=[1,2,3,6,7,8]) Z Z ⟨_,p25⟩),(H.lendOSn (k:=8) (ks:=[1,2,3,6,7,8]) Z Z ⟨_,p35⟩)⟩ (by (rw[hsd]))) ?_)))));intro _ H
   refine pe 2 Z (q3 (W_ret (rt1 results4 Z ?_)))
   first|exact H.rets rfl|exact H.rets (congrArg Value.bool (by simp_all))
  intro hc20'
  try simp only[nrm]at hc20'
  exact absurd (show False from by simp_all) id
 intro hc19'
 try simp only[nrm]at hc19'
 exact absurd (show False from by simp_all) id
theorem i_HoldPut_c (w0:World)(G0:PH)(hG:PSub G0 w0)(vlist:Value)(list:List (BHold))(hlist:RdS LIM holdE 2 G0 vlist list)(ch:List Value)(h:BHold)(hh:holdE G0 h ch) :
  Calls Tryz.prog 21 #[vlist,.agg ch.toArray] w0 (RetO w0 G0 (fun G v r=>∃u,v= .tuple #[u,.bool (Sp.HoldPut list h).isSome]∧AccOf holdE 2 55 ((Sp.HoldPut list h).getD []) G u r)):=by
 obtain⟨alist,klist,rfl⟩:=hlist.shape
 have hlimlist:list.length≤1099511627776:=hlist.lim
 obtain⟨rfl,hi1,hj1⟩:=hh;have hy_hi1:_≤16777216:=hi1;have hy_hj1:_≤16777216:=hj1
 have H:=Hp.init hG
 refine calls_of_W (l:=[.slice alist list.length klist,_]) func21 Z ntmps21 Z (q2 (o_box H Z Z Z ?_));intro _ _ _ H
 refine pe 2 Z (q1 (mV Z (xc Z2 (i_openHolds_c _ _ H.sub _ _ hlist H.lent0) ?_)))
 rintro _ _ ⟨_,_,_,rfl,H3',⟨_,rfl,rfl⟩|⟨_,_,_,_,rfl,rfl,hm3⟩⟩
 ·skip
  have H:=H.borrow0 H3'
  refine⟨_,Z,?_⟩
  refine pe 5 Z (q3 (W_seq (q2 (pe 18 Z (q3 (W_true Z (q2 (pe 2 Z (q3 (W_ret (N_K_ret (rt2 results21 Z Z ?_))))))))))))
  have H:=H.dl 0
  have H:=H.addNil 55 2
  have hN:Sp.HoldPut list h=none:=Sp.hput_no (.inl (by assumption))
  exact H.retO (k:=0) rfl (by rw[hN];exact⟨_,rfl,AccOf.mk rfl Chk.nil⟩) (acc_nd _ _ _ _ _)
 skip
 have H:=H.borrow0 H3'
 refine⟨_,Z,?_⟩
 refine pe 5 Z (q3 (W_seq (q2 (pe 3 Z (gR Z (lA 1 2 H Z4 (gR Z (xr H Z2 (i_hvalid_c _ _ H.sub _ h ⟨Z,hi1,hj1⟩) ?_))))))));intro _ H
 refine pe 3 Z ?_
 refine R_case (t:=20) Z ?_ ?_
 ·intro hc5
  try simp only[nrm]at hc5
  refine pe 10 Z (q3 (W_true Z (q2 (pe 2 Z (q3 (W_ret (N_K_ret (rt2 results21 Z Z ?_))))))))
  have H:=H.dl 0
  have H:=H.dl 0
  have H:=H.addNil 55 2
  have hN:Sp.HoldPut list h=none:=Sp.hput_no (.inr (.inl (by assumption)))
  exact H.retO (k:=0) rfl (by rw[hN];exact⟨_,rfl,AccOf.mk rfl Chk.nil⟩) (acc_nd _ _ _ _ _)
 intro hc5'
 try simp only[nrm]at hc5'
 refine pe 1 Z (gR Z (lA 1 2 H Z4 (gR Z (xc Z2 (i_put_c _ _ H.sub _ _ _ _ hm3 _ h ⟨Z,hi1,hj1⟩ H.lent1) ?_))))
 rintro _ _ ⟨G6,_,_,rfl,H6',⟨_,_,L6,rfl,rfl,hm6,hL6⟩⟩
 have H:=H.borrow1 H6'
 refine⟨_,Z,?_⟩
 refine pe 3 Z ?_
 refine R_case (t:=26) Z ?_ ?_
 ·intro hc7
  try simp only[nrm]at hc7
  refine pe 4 Z (q3 (W_true Z (q2 (pe 2 Z (q3 (W_ret (N_K_ret (rt2 results21 Z Z ?_))))))))
  have H:=H.dl 0
  have H:=H.dl 0
  have H:=H.addNil 55 2
  have hN:Sp.HoldPut list h=none:=Sp.hput_no (.inr (.inr (.inl (by simpa using hc7))))
  exact H.retO (k:=0) rfl (by rw[hN];exact⟨_,rfl,AccOf.mk rfl Chk.nil⟩) (acc_nd _ _ _ _ _)
 intro hc7'
 try simp only[nrm]at hc7'
 have hni:h ∉ list:=by simpa using hc7'
 have hLe:=hL6;rw[if_neg hni]at hLe
 have hvl:Sp.HoldsValid list=true:=by assumption
 have h8l:=(Sp.hvalid_iff.1 hvl).len
 have hok:Sp.l31Ok h=true:=by assumption
 have hll:L6.length=list.length+1:=by (rw[hLe];simp)
 have hsmall:∀x,x ∈ L6→smallH x:=by (rw[hLe];intro x hx;rcases List.mem_append.1 hx with hx|hx;(· exact Sp.list_small hvl x hx);(· (rw[List.mem_singleton.1 hx]);exact Sp.ok_small hok))
 refine pe 1 Z (gR Z ?_)
 have hml8:(L6.map uH).length=L6.length:=List.length_map _
 refine o_lenM (H.at (k:=0) Z) hm6 underlying84 Z Z (pe 2 Z (q3 ?_))
 refine W_cond Z ?_ ?_
 ·intro hc9
  try simp only[nrm]at hc9
  refine q2 (pe 2 Z (q3 (W_ret (N_K_ret (rt2 results21 Z Z ?_)))))
  have H:=H.dl 0
  have H:=H.dl 0
  have H:=H.addNil 55 2
  have hN:Sp.HoldPut list h=none:=Sp.hput_no (.inr (.inr (.inr oM)))
  exact H.retO (k:=0) rfl (by rw[hN];exact⟨_,rfl,AccOf.mk rfl Chk.nil⟩) (acc_nd _ _ _ _ _)
 intro hc9'
 try simp only[nrm]at hc9'
 refine W_skip (N_K (q2 (mV Z (o_call call56 Z Z (sorted_h _ _ _ _ _ (H.at (k:=0) Z) hm6 oM) ?_))));rintro _ w10 ⟨v10,xs10,rfl,ek10,hp10,hf10,hperm10,hsrt10⟩;have H:=H.add ek10 _ hp10 hf10 (acc_nd _ _ _ _ _)
 have hchk10:Chk holdE 2 G6 _ _:=chkH_of (xs:=xs10) (fun x hx=>hsmall x (hperm10.mem_iff.1 hx));obtain⟨_,_,rfl⟩:=H.accShape (k:=0) rfl;refine⟨_,rfl,?_⟩
 refine pe 2 Z (q3 (W_ret (rt2 results21 Z Z ?_)))
 have H:=H.dl 1
 have H:=H.dl 1
 have hY:Sp.HoldPut list h=some xs10:=(by rw[Sp.hput_yes hvl hok hni oM,Sp.put_sorted hvl hni (hLe▸hperm10) hsrt10])
 exact H.retO (k:=0) rfl (by rw[hY];exact⟨_,rfl,AccOf.mk aN hchk10⟩) (acc_nd _ _ _ _ _)
theorem lDropFreeNot_c (w0:World)(G0:PH)(hG:PSub G0 w0)(vcode:Value)(code:List (UInt8))(hcode:RdU G0 vcode code) :
  Calls Tryz.prog 5 #[vcode] w0 (Rets w0 (.bool true)):=by
 obtain⟨acode,kcode,rfl⟩:=hcode.shape
 have hlimcode:code.length≤1099511627776:=hcode.lim
 have H:=Hp.init hG
 refine calls_of_W (l:=[.slice acode code.length kcode]) func5 Z ntmps5 Z (q2 (aG Z (q3 (W_seq (q2 (mV Z (lN Z (pe 1 Z (q3 ?_)))))))))
 refine W_cond Z ?_ ?_
 ·intro hc1
  try simp only[nrm]at hc1
  refine q2 (aG Z (q3 (W_ret (N_K_ret (rt1 results5 Z ?_)))))
  first|exact H.rets rfl|exact H.rets (congrArg Value.bool (by simp_all))
 intro hc1'
 try simp only[nrm]at hc1'
 refine W_skip (N_K (q2 (mV Z (xc Z2 (DrawDropFree_c _ _ H.sub _ _ hcode) ?_))))
 rintro _ _ ⟨_,_,g2,rfl,⟨_,uV,_,uH,uP,rfl,hV,hH,hP0⟩⟩
 have H:=H.grow g2
 obtain⟨_,_,_,_,_,_,_,_,_,rfl,hr2,hr2',hr2'',⟨_,_⟩,⟨_,_⟩,_,_⟩:=ox hV
 obtain⟨_,_,rfl⟩:=hH.shape;have hx_hH:_≤1099511627776:=hH.lim
 refine⟨_,Z,?_⟩
 refine pe 4 Z (xal H Z ?_);intro _ _ _ H
 refine xst 0 H Z8 ?_;intro _ H
 refine pe 2 Z (q1 (lA 0 3 H Z4 (pe 2 Z (xc Z2 (i_DropFree_c _ _ H.sub _ uV ⟨_,_,_,_,_,_,_,_,_,Z,hr2,hr2',hr2''⟩ _ _ hH _ hP0) ?_))))
 rintro _ _ ⟨_,_,rfl,H5',⟨_,_,_,_,_,_,rfl,rfl,ho15,ho25,ho35⟩⟩
 have H:=H.readers (fp:=[]) (by simp) (PLe.refl _) H5'
 obtain⟨_,p15⟩:=ho15
 obtain⟨_,_,rfl⟩:=OwnS.shape p15
 obtain⟨_,p25⟩:=ho25
 obtain⟨_,_,rfl⟩:=OwnS.shape p25
 obtain⟨_,p35⟩:=ho35
 obtain⟨_,_,rfl⟩:=OwnS.shape p35
 refine⟨_,Z,?_⟩
 refine pe 3 Z (xal H Z ?_);intro _ _ _ H
 refine xst 0 H Z8 ?_;intro _ H
 refine aG Z (q1 (lA 4 3 H Z4 (pe 2 Z (xc Z2 (DropFreeP_c _ _ H.sub _ uV ⟨_,_,_,_,_,_,_,_,_,Z,hr2,hr2',hr2''⟩ _ _ hH _ hP0) ?_))))
 rintro _ _ ⟨_,_,g8,rfl,_,rfl,hr8_0⟩
 have H:=H.grow g8
 have hr2:=hr2.up g8.le
 have hr2':=hr2'.up g8.le
 have hr2'':=hr2''.up g8.le
 have hH:=hH.up g8.le
 obtain⟨_,_,_,_,_,_,_,_,_,rfl,hr9,hr9',hr9'',⟨_,_⟩,⟨_,_⟩,_,_⟩:=ox hr8_0
 refine⟨_,Z,?_⟩
 refine pe 3 Z (xal H Z ?_);intro _ _ _ H
 refine xst 0 H Z8 ?_;intro _ H
 refine aG Z (q3 (W_seq (q2 (pe 2 Z (o_bneq_same underlying4 Z Z Z (mV Z (gR Z (lA 1 3 H Z4 (gR Z (lA 0 3 H Z4 (gR Z (xr H Z2 (w_sameDisk_c _ _ (H.lendSubL [2,3,4]) _ ((Sp.DropFree uV uH uP).getD ⟨[],[],[]⟩) ⟨_,_,_,_,_,_,_,_,_,Z,(H.lendOHs (k:=2) (ks:=[2,3,4]) Z Z ⟨_,p15⟩),(H.lendOIs (k:=3) (ks:=[2,3,4]) Z Z ⟨_,p25⟩),(H.lendOSn (k:=4) (ks:=[2,3,4]) Z Z ⟨_,p35⟩)⟩ _ ((Sp.DropFree uV uH uP).getD ⟨[],[],[]⟩) ⟨_,_,_,_,_,_,_,_,_,Z,(hr9.up (PPlus.le _ _ _)),(hr9'.up (PPlus.le _ _ _)),(hr9''.up (PPlus.le _ _ _))⟩ Z) ?_))))))))))));intro _ H
 refine pe 6 Z (q3 ?_)
 refine W_cond Z ?_ ?_
 ·intro hc13
  try simp only[nrm]at hc13
  refine q2 (pe 2 Z (o_beql_same underlying4 Z Z Z (mV Z (gR Z (lA 1 3 H Z4 (gR Z (lA 0 3 H Z4 (gR Z (xr H Z2 (w_sameDisk_c _ _ (H.lendSubL [2,3,4]) _ ((Sp.DropFree uV uH uP).getD ⟨[],[],[]⟩) ⟨_,_,_,_,_,_,_,_,_,Z,(H.lendOHs (k:=2) (ks:=[2,3,4]) Z Z ⟨_,p15⟩),(H.lendOIs (k:=3) (ks:=[2,3,4]) Z Z ⟨_,p25⟩),(H.lendOSn (k:=4) (ks:=[2,3,4]) Z Z ⟨_,p35⟩)⟩ _ ((Sp.DropFree uV uH uP).getD ⟨[],[],[]⟩) ⟨_,_,_,_,_,_,_,_,_,Z,(hr9.up (PPlus.le _ _ _)),(hr9'.up (PPlus.le _ _ _)),(hr9''.up (PPlus.le _ _ _))⟩ Z) ?_)))))))));intro _ H
  refine pe 2 Z (q3 (W_ret (N_K_ret (rt1 results5 Z ?_))))
  first|exact H.rets rfl|exact H.rets (congrArg Value.bool (by simp_all))
 intro hc13'
 try simp only[nrm]at hc13'
 obtain⟨u2,hu2⟩:=Option.isSome_iff_exists.1 (show(Sp.DropFree uV uH uP).isSome=true by simpa using hc13')
 have hW:(Sp.DropFree uV uH uP).getD ⟨[],[],[]⟩=u2:=by (rw[hu2];rfl)
 have hfh:(Sp.HoldPut uH ⟨uP,[107,101,101,112]⟩).isSome=true→(Sp.DropFree uV ((Sp.HoldPut uH ⟨uP,[107,101,101,112]⟩).getD []) uP).isSome=false:=fun h9=>(by obtain⟨r9,hr9⟩:=Option.isSome_iff_exists.1 h9;(rw[hr9]);show(Sp.DropFree uV r9 uP).isSome=false;(rw[Sp.free_held hr9]);rfl)
 refine W_skip (N_K (q2 (pe 2 Z (o_build bf55 Z Z Z ?_))))
 refine xc Z2 (i_HoldPut_c _ _ H.sub _ _ hH _ ⟨uP,[107,101,101,112]⟩ ⟨Z,hP0,(by (first|assumption|(refine Sp.l5Parent_lim ?_;assumption)|(simp;done)|(simp;omega)|omega))⟩) ?_
 rintro _ _ ⟨_,_,_,g15,rfl,⟨_,rfl,⟨_,rfl,hchk15⟩⟩,hp15,hq15,hs15⟩
 have H:=H.growO g15 hp15 hq15 hs15;obtain⟨_,_,rfl⟩:=H.accShape (k:=0) rfl
 have hr2:=hr2.up g15.le
 have hr2':=hr2'.up g15.le
 have hr2'':=hr2''.up g15.le
 refine⟨_,Z,?_⟩
 have hpl9:((Sp.HoldPut uH ⟨uP,[107,101,101,112]⟩).getD []).length≤8:=(by cases e9:Sp.HoldPut uH ⟨uP,[107,101,101,112]⟩ with |none=>simp|some r9=>exact Sp.hput_len e9)
 refine pe 5 Z (q1 (lA 6 3 H Z4 (pe 2 Z (xc Z2 (i_DropFree_c _ _ (H.lendSubL [0]) _ uV ⟨_,_,_,_,_,_,_,_,_,Z,(hr2.up (PPlus.le _ _ _)),(hr2'.up (PPlus.le _ _ _)),(hr2''.up (PPlus.le _ _ _))⟩ _ _ (H.lendRdL (k:=0) (ks:=[0]) Z Z hchk15 aN aN) _ hP0) ?_))))
 rintro _ _ ⟨_,_,rfl,H16',⟨_,_,_,_,_,_,rfl,rfl,ho116,ho216,ho316⟩⟩
 have H:=H.readersL H16'
 obtain⟨_,p116⟩:=ho116
 obtain⟨_,_,rfl⟩:=OwnS.shape p116
 obtain⟨_,p216⟩:=ho216
 obtain⟨_,_,rfl⟩:=OwnS.shape p216
 obtain⟨_,p316⟩:=ho316
 obtain⟨_,_,rfl⟩:=OwnS.shape p316
 refine⟨_,Z,?_⟩
 refine pe 3 Z (xal H Z ?_);intro _ _ _ H
 refine xst 0 H Z8 ?_;intro _ H
 refine aG Z (q1 (pe 3 Z ?_))
 refine R_case (t:=74) Z ?_ ?_
 ·intro hc19
  try simp only[nrm]at hc19
  refine pe 4 Z (q3 (W_ret (rt1 results5 Z ?_)))
  first|exact H.rets rfl|exact H.rets (congrArg Value.bool (by simp_all))
 intro hc19'
 try simp only[nrm]at hc19'
 refine pe 4 Z (q3 (W_ret (rt1 results5 Z ?_)))
 first|exact H.rets rfl|exact H.rets (congrArg Value.bool (by simp_all))
end Go.Proofs.Tst
