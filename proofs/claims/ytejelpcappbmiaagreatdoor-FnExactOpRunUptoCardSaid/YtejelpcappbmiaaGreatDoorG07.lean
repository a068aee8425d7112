/- Part 7 of the proof: contracts of functions of the program. Conditions: none. -/
import Derived.Test.YtejelpcappbmiaaGreatDoorProg
import Derived.Test.YtejelpcappbmiaaGreatDoorG02
import Derived.Test.YtejelpcappbmiaaGreatDoorG03
import Derived.Test.YtejelpcappbmiaaGreatDoorG04
import Derived.Test.YtejelpcappbmiaaGreatDoorG06
set_option linter.all false
set_option maxRecDepth 100000
set_option maxHeartbeats 8000000
namespace Go.Proofs.Tst
open Go Fw Tryz
theorem DiskWrite_c (w0:World)(G0:PH)(hG:PSub G0 w0)(cd:List Value)(d:BDisk)(hd:diskE G0 d cd)(path:Bs)(hpath:path.length≤16777216)(vbytes:Value)(bytes:List (Int))(hbytes:RdI G0 vbytes bytes) :
  Calls Tryz.prog 101 #[.agg cd.toArray,str path,vbytes] w0 (RetO w0 G0 (fun G val r=>∃u u1 u2,val= .tuple #[.agg #[u,u1,u2],.bool (Sp.DiskWrite d path bytes).isSome]∧AccOf snapE 2 107 (((Sp.DiskWrite d path bytes).map (·.snaps)).getD []) G u2 r∧RdH G u (((Sp.DiskWrite d path bytes).map (·.store)).getD [])∧RdItems G u1 (((Sp.DiskWrite d path bytes).map (·.tree)).getD []))):=by
 obtain⟨_,_,_,_,_,_,_,_,_,rfl,hr1,hr1',hr1'',⟨_,_⟩,⟨_,_⟩,_,_⟩:=ox hd
 obtain⟨abytes,kbytes,rfl⟩:=hbytes.shape
 have hlimbytes:bytes.length≤1099511627776:=hbytes.lim
 have H:=Hp.init hG
 refine calls_of_W (l:=[_,str path,.slice abytes bytes.length kbytes]) func101 Z ntmps101 Z (q2 (o_box H Z Z Z ?_));intro _ _ _ H
 refine xal H Z ?_;intro _ _ _ H
 refine aG Z (q3 (W_seq (q2 (lA 1 3 H Z4 (xr H Z2 (DiskValid_c _ _ H.sub _ d ⟨_,_,_,_,_,_,_,_,_,Z,hr1,hr1',hr1''⟩) ?_)))));intro _ H
 refine pe 2 Z ?_
 refine R_case (t:=14) Z ?_ ?_
 ·intro hc5
  try simp only[nrm]at hc5
  refine pe 4 Z (q3 (W_true Z (q2 (o_build bf27 Z Z Z (xst 0 H Z8 ?_)))));intro _ H
  refine aG Z (q3 (W_ret (N_K_ret (ret_gen (rs:=[.cell 6 27,.tmp 7]) (vs:=[_,_]) results101 ⟨⟨_,Z,load_blk 0 H isAgg27 sizeOf27 Z Z Z⟩,Z,trivial⟩ ?_))))
  have hN:Sp.DiskWrite d path bytes=none:=by simp[Sp.DiskWrite,hc5]
  have H:=H.addNil 107 2
  exact H.retO (k:=0) rfl (by rw[hN];exact⟨_,_,_,rfl,AccOf.mk rfl Chk.nil,RdS.nil _ _ _,RdS.nil _ _ _⟩) (acc_nd _ _ _ _ _)
 intro hc5'
 try simp only[nrm]at hc5'
 refine pe 1 Z (gR Z (xr H Z2 (FileValid_c _ _ H.sub _ _ hbytes) ?_));intro _ H
 refine pe 2 Z (q3 ?_)
 refine W_cond Z ?_ ?_
 ·intro hc8
  try simp only[nrm]at hc8
  refine q2 (o_build bf27 Z Z Z (xst 0 H Z8 ?_));intro _ H
  refine aG Z (q3 (W_ret (N_K_ret (ret_gen (rs:=[.cell 6 27,.tmp 7]) (vs:=[_,_]) results101 ⟨⟨_,Z,load_blk 0 H isAgg27 sizeOf27 Z Z Z⟩,Z,trivial⟩ ?_))))
  have hN:Sp.DiskWrite d path bytes=none:=by simp[Sp.DiskWrite,hc8]
  have H:=H.addNil 107 2
  exact H.retO (k:=0) rfl (by rw[hN];exact⟨_,_,_,rfl,AccOf.mk rfl Chk.nil,RdS.nil _ _ _,RdS.nil _ _ _⟩) (acc_nd _ _ _ _ _)
 intro hc8'
 try simp only[nrm]at hc8'
 have hfl:=Sp.file_len hc8'
 refine W_skip (N_K (q2 (fA 0 Z (lB 1 H Z3 (fA 1 Z (lB 1 H Z3 (o_build bf194 Z Z Z (pe 2 Z (xc Z2 (l11Write_c _ _ H.sub _ ⟨d.store,d.tree⟩ ⟨_,_,_,_,_,_,Z,hr1,hr1'⟩ _ hpath _ _ hbytes oM) ?_)))))))))
 rintro _ _ ⟨_,_,_,g10,rfl,⟨_,_,rfl,⟨_,rfl,hchk10⟩,hr10_1⟩,hp10,hq10,hs10⟩
 have H:=H.growO g10 hp10 hq10 hs10;obtain⟨_,_,rfl⟩:=H.accShape (k:=0) rfl
 have hr1:=hr1.up g10.le
 have hr1':=hr1'.up g10.le
 have hr1'':=hr1''.up g10.le
 obtain⟨_,_,rfl⟩:=hr10_1.shape;have hx_hr10_1:_≤1099511627776:=hr10_1.lim
 refine⟨_,Z,?_⟩
 have hwl:=Sp.l11Write_slen ⟨d.store,d.tree⟩ path bytes
 refine pe 3 Z (xal H Z ?_);intro _ _ _ H
 refine xst 0 H Z8 ?_;intro _ H
 refine aG Z (q3 (W_seq (q2 (pe 2 Z (q3 ?_)))))
 refine W_cond Z ?_ ?_
 ·intro hc13
  try simp only[nrm]at hc13
  refine q2 (o_build bf27 Z Z Z (xst 2 H Z8 ?_));intro _ H
  refine aG Z (q3 (W_ret (N_K_ret (ret_gen (rs:=[.cell 6 27,.tmp 7]) (vs:=[_,_]) results101 ⟨⟨_,Z,load_blk 2 H isAgg27 sizeOf27 Z Z Z⟩,Z,trivial⟩ ?_))))
  have hN:Sp.DiskWrite d path bytes=none:=by (have hno:Sp.l11Write ⟨d.store,d.tree⟩ path bytes=none:=by simpa using hc13);simp[Sp.DiskWrite,hno]
  have H:=H.addNil 107 2
  exact H.retO (k:=0) rfl (by rw[hN];exact⟨_,_,_,rfl,AccOf.mk rfl Chk.nil,RdS.nil _ _ _,RdS.nil _ _ _⟩) (acc_nd _ _ _ _ _)
 intro hc13'
 try simp only[nrm]at hc13'
 refine W_skip (N_K (q2 (lA 3 3 H Z4 (xc Z2 (l12Copy_c _ _ H.sub _ d ⟨_,_,_,_,_,_,_,_,_,Z,hr1,hr1',hr1''⟩) ?_))))
 rintro _ _ ⟨_,_,_,g15,rfl,⟨_,_,_,rfl,⟨_,rfl,hchk15⟩,hr15_0,hr15_1⟩,hp15,hq15,hs15⟩
 have H:=H.growO g15 hp15 hq15 hs15;obtain⟨_,_,rfl⟩:=H.accShape (k:=0) rfl
 have hchk10:=hchk10.up g15.le
 have hr10_1:=hr10_1.up g15.le
 obtain⟨_,_,rfl⟩:=hr15_0.shape;have hx_hr15_0:_≤1099511627776:=hr15_0.lim
 obtain⟨_,_,rfl⟩:=hr15_1.shape;have hx_hr15_1:_≤1099511627776:=hr15_1.lim
 refine⟨_,Z,?_⟩
 refine xal H Z ?_;intro _ _ _ H
 refine xst 0 H Z8 ?_;intro _ H
 refine q1 (fA 0 Z (lB 2 H Z3 (fA 0 Z (xst 0 H Z8 ?_))));intro _ H
 refine q1 (fA 1 Z (lB 2 H Z3 (fA 1 Z (xst 0 H Z8 ?_))));intro _ H
 refine q1 (lA 0 3 H Z4 (xst 4 H Z8 ?_));intro _ H
 refine aG Z (q3 (W_ret (ret_gen (rs:=[.cell 6 27,.tmp 7]) (vs:=[_,_]) results101 ⟨⟨_,Z,load_blk 4 H isAgg27 sizeOf27 Z Z Z⟩,Z,trivial⟩ ?_)))
 obtain⟨_,H,hsg524,hsr524⟩:=H.shut' (k:=3) rfl hchk10 aN aN
 have hr10_1:=hr10_1.up hsg524
 have hchk15:=hchk15.up hsg524
 have hY:Sp.DiskWrite d path bytes=some ⟨((Sp.l11Write ⟨d.store,d.tree⟩ path bytes).map (·.store)).getD [],((Sp.l11Write ⟨d.store,d.tree⟩ path bytes).map (·.tree)).getD [],d.snaps⟩:=by (obtain⟨_,hp⟩:=Option.isSome_iff_exists.1 hc13');simp[Sp.DiskWrite,hc5',hc8',hp]
 exact H.retO (k:=1) rfl (by rw[hY];exact⟨_,_,_,rfl,AccOf.mk aN hchk15,hsr524,hr10_1⟩) (acc_nd _ _ _ _ _)
theorem l22Ok_c (w0:World)(G0:PH)(hG:PSub G0 w0)(cop:List Value)(op:BOp)(hop:opE G0 op cop) :
  Calls Tryz.prog 99 #[.agg cop.toArray] w0 (Rets w0 (.bool (Sp.opOk op))):=by
 obtain⟨_,_,_,rfl,_,hi1,hr1⟩:=hop;have hy_hi1:_≤16777216:=hi1;have hn_hr1:=hr1.len;have hx_hr1:_≤1099511627776:=hr1.lim
 have H:=Hp.init hG
 refine calls_of_W (l:=[_]) func99 Z ntmps99 Z (q2 (o_box H Z Z Z ?_));intro _ _ _ H
 refine aG Z (q3 (W_seq (q2 (fA 0 Z (lB 0 H Z3 (q3 (W_block (W_seq (q2 (pe 2 Z (q3 ?_)))))))))))
 refine W_cond Z ?_ ?_
 ·intro hc3
  try simp only[nrm]at hc3
  refine W_skip (N_K ?_)
  refine W_cond Z ?_ ?_
  ·intro hc4
   try simp only[nrm]at hc4
   refine q2 (fA 1 Z (lB 0 H Z3 (xr H Z2 (PathValid_c _ _ H.sub _ hi1) ?_)));intro _ H
   refine mV Z ?_
   refine R_case (t:=11) Z ?_ ?_
   ·intro hc6
    try simp only[nrm]at hc6
    refine gR Z (fA 2 Z (gR Z (lB 0 H Z3 (gR Z (lN Z (pe 3 Z (q3 (W_ret (N_B_ret (N_K_ret (rt1 results99 Z ?_)))))))))))
    exact H.rets (congrArg Value.bool (by simp_all [Sp.opOk,List.length_eq_zero_iff]))
   intro hc6'
   try simp only[nrm]at hc6'
   refine pe 6 Z (q3 (W_ret (N_B_ret (N_K_ret (rt1 results99 Z ?_)))))
   exact H.rets (congrArg Value.bool (by simp_all [Sp.opOk,List.length_eq_zero_iff]))
  intro hc4'
  try simp only[nrm]at hc4'
  exact absurd hc3 hc4'
 intro hc3'
 try simp only[nrm]at hc3'
 refine W_region (pe 2 Z (q3 ?_))
 refine W_cond Z ?_ ?_
 ·intro hc7
  try simp only[nrm]at hc7
  refine q2 (fA 1 Z (lB 0 H Z3 (xr H Z2 (PathValid_c _ _ H.sub _ hi1) ?_)));intro _ H
  refine mV Z ?_
  refine R_case (t:=11) Z ?_ ?_
  ·intro hc9
   try simp only[nrm]at hc9
   refine gR Z (fA 2 Z (gR Z (lB 0 H Z3 (gR Z (lN Z (pe 3 Z (q3 (W_ret (N_B_ret (N_K_ret (rt1 results99 Z ?_)))))))))))
   exact H.rets (congrArg Value.bool (by simp_all [Sp.opOk,List.length_eq_zero_iff]))
  intro hc9'
  try simp only[nrm]at hc9'
  refine pe 6 Z (q3 (W_ret (N_B_ret (N_K_ret (rt1 results99 Z ?_)))))
  exact H.rets (congrArg Value.bool (by simp_all [Sp.opOk,List.length_eq_zero_iff]))
 intro hc7'
 try simp only[nrm]at hc7'
 refine q2 (pe 2 Z (q3 ?_))
 refine W_cond Z ?_ ?_
 ·intro hc10
  try simp only[nrm]at hc10
  refine q2 (fA 1 Z (lB 0 H Z3 (xr H Z2 (PathValid_c _ _ H.sub _ hi1) ?_)));intro _ H
  refine mV Z ?_
  refine R_case (t:=22) Z ?_ ?_
  ·intro hc12
   try simp only[nrm]at hc12
   refine gR Z (fA 2 Z (gR Z (lB 0 H Z3 (gR Z (xr H Z2 (FileValid_c _ _ H.sub _ _ hr1) ?_)))));intro _ H
   refine pe 2 Z (q3 (W_ret (N_B_ret (N_K_ret (rt1 results99 Z ?_)))))
   exact H.rets (congrArg Value.bool (by simp_all [Sp.opOk,List.length_eq_zero_iff]))
  intro hc12'
  try simp only[nrm]at hc12'
  refine pe 5 Z (q3 (W_ret (N_B_ret (N_K_ret (rt1 results99 Z ?_)))))
  exact H.rets (congrArg Value.bool (by simp_all [Sp.opOk,List.length_eq_zero_iff]))
 intro hc10'
 try simp only[nrm]at hc10'
 refine q2 (pe 2 Z (q3 ?_))
 refine W_cond Z ?_ ?_
 ·intro hc14
  try simp only[nrm]at hc14
  refine q2 (fA 1 Z (lB 0 H Z3 (xr H Z2 (l1Word_c _ _ hi1) ?_)));intro _ H
  refine mV Z ?_
  refine R_case (t:=32) Z ?_ ?_
  ·intro hc16
   try simp only[nrm]at hc16
   refine gR Z (fA 2 Z (gR Z (lB 0 H Z3 (gR Z (lN Z (pe 3 Z (q3 (W_ret (N_B_ret (N_K_ret (rt1 results99 Z ?_)))))))))))
   exact H.rets (congrArg Value.bool (by simp_all [Sp.opOk,List.length_eq_zero_iff]))
  intro hc16'
  try simp only[nrm]at hc16'
  refine pe 6 Z (q3 (W_ret (N_B_ret (N_K_ret (rt1 results99 Z ?_)))))
  exact H.rets (congrArg Value.bool (by simp_all [Sp.opOk,List.length_eq_zero_iff]))
 intro hc14'
 try simp only[nrm]at hc14'
 refine W_skip (N_B (N_K (q2 (aG Z (q3 (W_ret (rt1 results99 Z ?_)))))))
 exact H.rets (congrArg Value.bool (by simp_all [Sp.opOk,List.length_eq_zero_iff]))
theorem l14Drop_c (w0:World)(G0:PH)(hG:PSub G0 w0)(cd:List Value)(d:BDisk)(hd:diskE G0 d cd)(cx:List Value)(x:BPart)(hx:partE G0 x cx)(hdv:Sp.DiskValid d=true)(hxb:x.bytes=[]) :
  Calls Tryz.prog 102 #[.agg cd.toArray,.agg cx.toArray] w0 (RetO w0 G0 (fun G val r=>∃u u1 u2,val= .tuple #[.agg #[u,u1,u2],.bool (Sp.l14Drop d x).isSome]∧AccOf snapE 2 107 (((Sp.l14Drop d x).map (·.snaps)).getD []) G u2 r∧RdH G u (((Sp.l14Drop d x).map (·.store)).getD [])∧RdItems G u1 (((Sp.l14Drop d x).map (·.tree)).getD []))):=by
 obtain⟨_,_,_,_,_,_,_,_,_,rfl,hr1,hr1',hr1'',⟨_,_⟩,⟨_,_⟩,_,_⟩:=ox hd
 obtain⟨_,_,_,rfl,_,hi2,hr2⟩:=hx;have hy_hi2:_≤16777216:=hi2;have hn_hr2:=hr2.len;have hx_hr2:_≤1099511627776:=hr2.lim
 have H:=Hp.init hG
 refine calls_of_W (l:=[_,_]) func102 Z ntmps102 Z (q2 (o_box H Z Z Z ?_));intro _ _ _ H
 refine o_box H Z Z Z ?_;intro _ _ _ H
 refine xal H Z ?_;intro _ _ _ H
 refine aG Z (q1 (fA 1 Z (lB 2 H Z3 (fA 1 Z (lB 1 H Z3 (xr H Z2 (l5At_c _ _ H.sub _ _ hr1' _ hi2) ?_))))));intro _ H
 refine aG Z (q3 (W_seq (W_seq (W_drawK [0,1,2] 13 H kR Z ?_))));intro _ H;have hd7:=PLe.refl G0
 refine dE 0 Z2 (dE 1 Z2 (dE 2 Z2 ?_))
 refine RD_case (t:=19) Z ?_ ?_
 ·intro hc8
  try simp only[nrm]at hc8
  refine dE 3 Z2 (dE 4 Z2 (dE 5 Z2 (dE 6 Z2 (dE 7 Z2 (dE 8 Z2 (dE 9 Z2 (dE 10 Z2 (dE 11 Z2 (dE 12 Z2 (rz (N_K (W_true Z (q2 (o_build bf27 Z Z Z (xst 0 H Z8 ?_)))))))))))))));intro _ H
  refine aG Z (q3 (W_ret (N_K_ret (ret_gen (rs:=[.cell 4 27,.tmp 5]) (vs:=[_,_]) results102 ⟨⟨_,Z,load_blk 0 H isAgg27 sizeOf27 Z Z Z⟩,Z,trivial⟩ ?_))))
  have hN:Sp.l14Drop d x=none:=by exact Sp.sdrop_at (Sp.at_none hc8)
  have H:=H.addNil 107 2
  exact H.retO (k:=0) rfl (by rw[hN];exact⟨_,_,_,rfl,AccOf.mk rfl Chk.nil,RdS.nil _ _ _,RdS.nil _ _ _⟩) (acc_nd _ _ _ _ _)
 intro hc8'
 try simp only[nrm]at hc8'
 obtain⟨i,_,hat,ib,_,_⟩:=Sp.l5_nat (t:=d.tree) (p:=x.path) oM
 refine dF 3 1 Z2 (dB 4 2 Z4 (dE 5 Z2 ?_))
 have hl10:=hr1'.len
 obtain⟨_,_,_,_,ha10,hz10,hq10,hE10,hrow10,_⟩:=hr1'.at (i:=i) oM
 clear hq10
 obtain⟨_,_,_,rfl,_,hr10,_,_⟩:=ox hE10
 refine dI 6 3 i ha10 Z3 ib (dF 7 1 Z2 (dP 8 hrow10 1 Z3 (dF 9 2 Z2 (dB 10 1 Z4 (RD_tg 11 Z kR Z (yl Z Z) (fun _ hK=>v_bneq underlying4 Z Z) (dE 12 Z2 (rz (N_K ?_))))))))
 refine W_cond Z ?_ ?_
 ·intro hc11
  try simp only[nrm]at hc11
  refine q2 (o_build bf27 Z Z Z (xst 0 H Z8 ?_));intro _ H
  refine aG Z (q3 (W_ret (N_K_ret (ret_gen (rs:=[.cell 4 27,.tmp 5]) (vs:=[_,_]) results102 ⟨⟨_,Z,load_blk 0 H isAgg27 sizeOf27 Z Z Z⟩,Z,trivial⟩ ?_))))
  have hN:Sp.l14Drop d x=none:=by exact Sp.sdrop_dir hdv hat hz10 (by simpa using hc11)
  have H:=H.addNil 107 2
  exact H.retO (k:=0) rfl (by rw[hN];exact⟨_,_,_,rfl,AccOf.mk rfl Chk.nil,RdS.nil _ _ _,RdS.nil _ _ _⟩) (acc_nd _ _ _ _ _)
 intro hc11'
 try simp only[nrm]at hc11'
 refine W_skip (N_K (q2 (fA 1 Z (lB 2 H Z3 (fA 1 Z (lB 1 H Z3 (xc Z2 (TreeDrop_c _ _ H.sub _ _ hr1' _ hi2) ?_)))))))
 rintro _ _ ⟨_,_,g13,rfl,_,rfl,hr13_0⟩
 have H:=H.grow g13
 have hr1:=hr1.up g13.le
 have hr1':=hr1'.up g13.le
 have hr1'':=hr1''.up g13.le
 obtain⟨_,_,rfl⟩:=hr13_0.shape;have hx_hr13_0:_≤1099511627776:=hr13_0.lim
 refine⟨_,Z,?_⟩
 refine pe 5 Z (q3 (W_seq (q2 (pe 2 Z (q3 ?_)))))
 refine W_cond Z ?_ ?_
 ·intro hc14
  try simp only[nrm]at hc14
  refine q2 (o_build bf27 Z Z Z (xst 0 H Z8 ?_));intro _ H
  refine aG Z (q3 (W_ret (N_K_ret (ret_gen (rs:=[.cell 4 27,.tmp 5]) (vs:=[_,_]) results102 ⟨⟨_,Z,load_blk 0 H isAgg27 sizeOf27 Z Z Z⟩,Z,trivial⟩ ?_))))
  have hN:Sp.l14Drop d x=none:=by exact Sp.dr_tree hat hz10 (by simp_all) hxb (by simpa using hc14)
  have H:=H.addNil 107 2
  exact H.retO (k:=0) rfl (by rw[hN];exact⟨_,_,_,rfl,AccOf.mk rfl Chk.nil,RdS.nil _ _ _,RdS.nil _ _ _⟩) (acc_nd _ _ _ _ _)
 intro hc14'
 try simp only[nrm]at hc14'
 refine W_skip (N_K (q2 (lA 2 3 H Z4 (xc Z2 (l12Copy_c _ _ H.sub _ d ⟨_,_,_,_,_,_,_,_,_,Z,hr1,hr1',hr1''⟩) ?_))))
 rintro _ _ ⟨G16,_,_,g16,rfl,⟨_,_,_,rfl,⟨_,rfl,hchk16⟩,hr16_0,hr16_1⟩,hp16,hq16,hs16⟩
 have H:=H.growO g16 hp16 hq16 hs16;obtain⟨_,_,rfl⟩:=H.accShape (k:=0) rfl
 have hr1:=hr1.up g16.le
 have hr1':=hr1'.up g16.le
 have hr13_0:=hr13_0.up g16.le
 obtain⟨_,_,rfl⟩:=hr16_0.shape;have hx_hr16_0:_≤1099511627776:=hr16_0.lim
 obtain⟨_,_,rfl⟩:=hr16_1.shape;have hx_hr16_1:_≤1099511627776:=hr16_1.lim
 refine⟨_,Z,?_⟩
 refine xal H Z ?_;intro _ _ _ H
 refine xst 0 H Z8 ?_;intro _ H
 refine q1 (mV Z (fA 1 Z (xst 0 H Z8 ?_)));intro _ H
 refine q3 (W_seq (W_drawK [0,2,3,4] 14 H kR Z ?_));intro _ H;have hd20:=PLe.refl G16
 refine dF 0 0 Z2 (dB 1 3 Z4 (dF 2 1 Z2 (dB 3 3 Z4 (dE 4 Z2 ?_))))
 have hl21:=hr1'.len
 obtain⟨_,_,z21,_,ha21,hz21,hq21,hE21,hrow21,_⟩:=hr1'.at (i:=i) oM
 clear hq21
 obtain⟨_,_,_,rfl,_,hr21,_,_⟩:=ox hE21
 refine dI 5 3 i ha21 Z3 ib (dF 6 2 Z2 (dP 7 hrow21 2 Z3 (r1 8 Z (xc Z2 (FileFree_c _ _ H.sub _ _ hr1 _ _ hr21) ?_))))
 rintro _ _ ⟨_,_,_,g22,rfl,⟨_,rfl,⟨_,rfl,hchk22⟩⟩,hp22,hq22,hs22⟩
 have H:=H.growO g22 hp22 hq22 hs22;obtain⟨_,_,rfl⟩:=H.accShape (k:=0) rfl
 have hr13_0:=hr13_0.up g22.le
 have hchk16:=hchk16.up g22.le
 have hd20:=hd20.trans g22.le
 refine⟨_,Z,?_⟩
 have hfl2:=Sp.free_len d.store z21.ids
 refine q4 H hd20 (dE 9 Z2 (dE 10 Z2 (dE 11 Z2 (dE 12 Z2 (dE 13 Z2 (rz (N_K (q2 (mV Z (fA 0 Z (xst 1 H Z8 ?_)))))))))));intro _ H
 refine q1 (lA 1 3 H Z4 (xst 3 H Z8 ?_));intro _ H
 refine aG Z (q3 (W_ret (ret_gen (rs:=[.cell 4 27,.tmp 5]) (vs:=[_,_]) results102 ⟨⟨_,Z,load_blk 3 H isAgg27 sizeOf27 Z Z Z⟩,Z,trivial⟩ ?_)))
 obtain⟨_,H,hsg526,hsr526⟩:=H.shut' (k:=0) rfl hchk22 aN aN
 have hr13_0:=hr13_0.up hsg526
 have hchk16:=hchk16.up hsg526
 have hY:Sp.l14Drop d x=some ⟨(Sp.FileFree d.store z21.ids).getD [],(Sp.TreeDrop d.tree x.path).getD [],d.snaps⟩:=by exact Sp.dr_yes hat hz21 (by simp_all) hxb (by simpa using hc14')
 exact H.retO (k:=1) rfl (by rw[hY];exact⟨_,_,_,rfl,AccOf.mk aN hchk16,hsr526,hr13_0⟩) (acc_nd _ _ _ _ _)
theorem l14Make_c (w0:World)(G0:PH)(hG:PSub G0 w0)(cd:List Value)(d:BDisk)(hd:diskE G0 d cd)(cx:List Value)(x:BPart)(hx:partE G0 x cx)(hdv:Sp.DiskValid d=true)(hk:x.kind=1∨x.kind=3) :
  Calls Tryz.prog 103 #[.agg cd.toArray,.agg cx.toArray] w0 (RetO w0 G0 (fun G val r=>∃u u1 u2,val= .tuple #[.agg #[u,u1,u2],.bool (Sp.l14Make d x).isSome]∧AccOf snapE 2 107 (((Sp.l14Make d x).map (·.snaps)).getD []) G u2 r∧RdH G u (((Sp.l14Make d x).map (·.store)).getD [])∧RdItems G u1 (((Sp.l14Make d x).map (·.tree)).getD []))):=by
 obtain⟨_,_,_,_,_,_,_,_,_,rfl,hr1,hr1',hr1'',⟨_,_⟩,⟨_,_⟩,_,_⟩:=ox hd
 obtain⟨_,_,_,rfl,_,hi2,hr2⟩:=hx;have hy_hi2:_≤16777216:=hi2;have hn_hr2:=hr2.len;have hx_hr2:_≤1099511627776:=hr2.lim
 have H:=Hp.init hG
 refine calls_of_W (l:=[_,_]) func103 Z ntmps103 Z (q2 (o_box H Z Z Z ?_));intro _ _ _ H
 refine o_box H Z Z Z ?_;intro _ _ _ H
 refine xal H Z ?_;intro _ _ _ H
 refine aG Z (q1 (fA 1 Z (lB 2 H Z3 (fA 1 Z (lB 1 H Z3 (xr H Z2 (l5At_c _ _ H.sub _ _ hr1' _ hi2) ?_))))));intro _ H
 refine aG Z (q3 (W_seq (q2 (pe 2 Z (fA 0 Z (lB 1 H Z3 (pe 1 Z (o_bneq underlying4 Z Z Z (mV Z ?_)))))))))
 refine R_case (t:=21) Z ?_ ?_
 ·intro hc7
  try simp only[nrm]at hc7
  refine pe 4 Z (R_pass Z (yl_un Z Z) (R_pass Z (yl_un Z Z) (R_pass Z (yl_un Z Z) (R_pass Z (yl_un Z Z) (R_pass Z (yl_un Z Z) (R_pass Z (yl_un Z Z) (R_pass Z (yl_un Z Z) (R_pass Z (yl_un Z Z) (R_pass Z (yl_un Z Z) (R_pass Z (yl_un Z Z) (pe 2 Z (q3 (W_true Z (q2 (o_build bf27 Z Z Z ?_)))))))))))))))
  refine xst 0 H Z8 ?_;intro _ H
  refine aG Z (q3 (W_ret (N_K_ret (ret_gen (rs:=[.cell 4 27,.tmp 5]) (vs:=[_,_]) results103 ⟨⟨_,Z,load_blk 0 H isAgg27 sizeOf27 Z Z Z⟩,Z,trivial⟩ ?_))))
  have hN:Sp.l14Make d x=none:=by exact Sp.mk_not hdv hk (by simpa using hc7)
  have H:=H.addNil 107 2
  exact H.retO (k:=0) rfl (by rw[hN];exact⟨_,_,_,rfl,AccOf.mk rfl Chk.nil,RdS.nil _ _ _,RdS.nil _ _ _⟩) (acc_nd _ _ _ _ _)
 intro hc7'
 try simp only[nrm]at hc7'
 have hge14:0≤Sp.l5At d.tree x.path↔x.kind=3:=Sp.mk_ge (by simpa using hc7')
 refine gR Z (fA 0 Z (gR Z (lB 1 H Z3 (pe 2 Z ?_))))
 refine R_case (t:=25) Z ?_ ?_
 ·intro hc9
  try simp only[nrm]at hc9
  refine gR Z (fA 2 Z (gR Z (lB 1 H Z3 (pe 1 Z ?_))))
  refine R_case (t:=28) Z ?_ ?_
  ·intro hc10
   try simp only[nrm]at hc10
   refine pe 9 Z (q3 (W_true Z (q2 (o_build bf27 Z Z Z (xst 0 H Z8 ?_)))));intro _ H
   refine aG Z (q3 (W_ret (N_K_ret (ret_gen (rs:=[.cell 4 27,.tmp 5]) (vs:=[_,_]) results103 ⟨⟨_,Z,load_blk 0 H isAgg27 sizeOf27 Z Z Z⟩,Z,trivial⟩ ?_))))
   have hN:Sp.l14Make d x=none:=by exact Sp.mk_dir1 hc9 (by simpa using hc10)
   have H:=H.addNil 107 2
   exact H.retO (k:=0) rfl (by rw[hN];exact⟨_,_,_,rfl,AccOf.mk rfl Chk.nil,RdS.nil _ _ _,RdS.nil _ _ _⟩) (acc_nd _ _ _ _ _)
  intro hc10'
  try simp only[nrm]at hc10'
  obtain⟨i,_,hat,ib,_,_⟩:=Sp.l5_nat (t:=d.tree) (p:=x.path) (hge14.2 hc9)
  refine gR Z (fA 1 Z (gR Z (lB 2 H Z3 (pe 1 Z (gR Z (iP i hr1' Z3 ib ?_))))));intro _ _ _ _ hz12 hE12 hrow12
  obtain⟨_,_,_,rfl,_,hr12,_,_⟩:=ox hE12
  refine gR Z (fA 1 Z (gR Z (lP H hrow12 1 Z2 (pe 3 Z (q3 ?_)))))
  refine W_cond Z ?_ ?_
  ·intro hc13
   try simp only[nrm]at hc13
   refine q2 (o_build bf27 Z Z Z (xst 0 H Z8 ?_));intro _ H
   refine aG Z (q3 (W_ret (N_K_ret (ret_gen (rs:=[.cell 4 27,.tmp 5]) (vs:=[_,_]) results103 ⟨⟨_,Z,load_blk 0 H isAgg27 sizeOf27 Z Z Z⟩,Z,trivial⟩ ?_))))
   have hN:Sp.l14Make d x=none:=by exact Sp.mk_dir hdv hat hz12 hc9 (.inr (by simpa using hc13))
   have H:=H.addNil 107 2
   exact H.retO (k:=0) rfl (by rw[hN];exact⟨_,_,_,rfl,AccOf.mk rfl Chk.nil,RdS.nil _ _ _,RdS.nil _ _ _⟩) (acc_nd _ _ _ _ _)
  intro hc13'
  try simp only[nrm]at hc13'
  refine W_skip (N_K (W_seq (q2 (fA 2 Z (lB 1 H Z3 (pe 1 Z (q3 ?_)))))))
  refine W_cond Z ?_ ?_
  ·intro hc15
   try simp only[nrm]at hc15
   refine q2 (lA 2 3 H Z4 (fA 1 Z (lB 1 H Z3 (fA 3 Z (lB 1 H Z3 (xc Z2 (DiskWrite_c _ _ H.sub _ d ⟨_,_,_,_,_,_,_,_,_,Z,hr1,hr1',hr1''⟩ _ hi2 _ _ hr2) ?_))))))
   rintro _ _ ⟨_,_,_,g16,rfl,⟨_,_,_,rfl,⟨_,rfl,hchk16⟩,hr16_0,hr16_1⟩,hp16,hq16,hs16⟩
   have H:=H.growO g16 hp16 hq16 hs16;obtain⟨_,_,rfl⟩:=H.accShape (k:=0) rfl
   obtain⟨_,_,rfl⟩:=hr16_0.shape;have hx_hr16_0:_≤1099511627776:=hr16_0.lim
   obtain⟨_,_,rfl⟩:=hr16_1.shape;have hx_hr16_1:_≤1099511627776:=hr16_1.lim
   refine⟨_,Z,?_⟩
   refine pe 2 Z (xst 1 H Z8 ?_);intro _ H
   refine aG Z (q3 (W_ret (N_K_ret (ret_gen (rs:=[.cell 4 27,.tmp 5]) (vs:=[_,_]) results103 ⟨⟨_,Z,load_blk 1 H isAgg27 sizeOf27 Z Z Z⟩,Z,trivial⟩ ?_))))
   have hY:Sp.l14Make d x=Sp.DiskWrite d x.path x.bytes:=by exact Sp.mk_file3 hdv hat hz12 hc9 (by simp_all) (by simp_all)
   exact H.retO (k:=0) rfl (by rw[hY];exact⟨_,_,_,rfl,AccOf.mk aN hchk16,hr16_0,hr16_1⟩) (acc_nd _ _ _ _ _)
  intro hc15'
  try simp only[nrm]at hc15'
  exact absurd (show False by simp_all) id
 intro hc9'
 try simp only[nrm]at hc9'
 refine pe 3 Z (R_pass Z (yl_un Z Z) (R_pass Z (yl_un Z Z) (R_pass Z (yl_un Z Z) (R_pass Z (yl_un Z Z) (R_pass Z (yl_un Z Z) (R_pass Z (yl_un Z Z) (pe 3 Z (q3 (W_false Z (W_skip (N_K (W_seq (q2 (fA 2 Z (lB 1 H Z3 ?_)))))))))))))))
 refine pe 1 Z (q3 ?_)
 refine W_cond Z ?_ ?_
 ·intro hc18
  try simp only[nrm]at hc18
  refine q2 (lA 2 3 H Z4 (fA 1 Z (lB 1 H Z3 (fA 3 Z (lB 1 H Z3 (xc Z2 (DiskWrite_c _ _ H.sub _ d ⟨_,_,_,_,_,_,_,_,_,Z,hr1,hr1',hr1''⟩ _ hi2 _ _ hr2) ?_))))))
  rintro _ _ ⟨_,_,_,g19,rfl,⟨_,_,_,rfl,⟨_,rfl,hchk19⟩,hr19_0,hr19_1⟩,hp19,hq19,hs19⟩
  have H:=H.growO g19 hp19 hq19 hs19;obtain⟨_,_,rfl⟩:=H.accShape (k:=0) rfl
  obtain⟨_,_,rfl⟩:=hr19_0.shape;have hx_hr19_0:_≤1099511627776:=hr19_0.lim
  obtain⟨_,_,rfl⟩:=hr19_1.shape;have hx_hr19_1:_≤1099511627776:=hr19_1.lim
  refine⟨_,Z,?_⟩
  refine pe 2 Z (xst 1 H Z8 ?_);intro _ H
  refine aG Z (q3 (W_ret (N_K_ret (ret_gen (rs:=[.cell 4 27,.tmp 5]) (vs:=[_,_]) results103 ⟨⟨_,Z,load_blk 1 H isAgg27 sizeOf27 Z Z Z⟩,Z,trivial⟩ ?_))))
  have h1:x.kind=1:=hk.resolve_right hc9'
  have ha:¬0≤Sp.l5At d.tree x.path:=fun h=>hc9' (hge14.1 h)
  have hY:Sp.l14Make d x=Sp.DiskWrite d x.path x.bytes:=by exact Sp.mk_file1 h1 ha (by simp_all)
  exact H.retO (k:=0) rfl (by rw[hY];exact⟨_,_,_,rfl,AccOf.mk aN hchk19,hr19_0,hr19_1⟩) (acc_nd _ _ _ _ _)
 intro hc18'
 try simp only[nrm]at hc18'
 refine W_skip (N_K (q2 (fA 1 Z (lB 2 H Z3 (fA 1 Z (lB 1 H Z3 (o_build bf35 Z Z Z (xc Z2 (TreePut_c _ _ H.sub _ _ hr1' _ ⟨x.path,true,[]⟩ ⟨_,_,_,Z,hi2,(RdS.nil _ _ _)⟩) ?_))))))))
 rintro _ _ ⟨_,_,g21,rfl,_,rfl,hr21_0⟩
 have H:=H.grow g21
 have hr1:=hr1.up g21.le
 have hr1':=hr1'.up g21.le
 have hr1'':=hr1''.up g21.le
 obtain⟨_,_,rfl⟩:=hr21_0.shape;have hx_hr21_0:_≤1099511627776:=hr21_0.lim
 refine⟨_,Z,?_⟩
 refine pe 5 Z (q3 (W_seq (q2 (pe 3 Z ?_))))
 refine R_case (t:=61) Z ?_ ?_
 ·intro hc22
  try simp only[nrm]at hc22
  refine pe 5 Z (q3 (W_true Z (q2 (o_build bf27 Z Z Z (xst 0 H Z8 ?_)))));intro _ H
  refine aG Z (q3 (W_ret (N_K_ret (ret_gen (rs:=[.cell 4 27,.tmp 5]) (vs:=[_,_]) results103 ⟨⟨_,Z,load_blk 0 H isAgg27 sizeOf27 Z Z Z⟩,Z,trivial⟩ ?_))))
  have h1:x.kind=1:=hk.resolve_right hc9'
  have ha:¬0≤Sp.l5At d.tree x.path:=fun h=>hc9' (hge14.1 h)
  have hN:Sp.l14Make d x=none:=by (rw[Sp.mk_new h1 ha (by simp_all),show(Sp.TreePut d.tree ⟨x.path,true,[]⟩)=none by simpa using hc22];simp)
  have H:=H.addNil 107 2
  exact H.retO (k:=0) rfl (by rw[hN];exact⟨_,_,_,rfl,AccOf.mk rfl Chk.nil,RdS.nil _ _ _,RdS.nil _ _ _⟩) (acc_nd _ _ _ _ _)
 intro hc22'
 try simp only[nrm]at hc22'
 refine gR Z (fA 3 Z (gR Z (lB 1 H Z3 (gR Z (lN Z (pe 2 Z (q3 ?_)))))))
 refine W_cond Z ?_ ?_
 ·intro hc24
  try simp only[nrm]at hc24
  refine q2 (o_build bf27 Z Z Z (xst 0 H Z8 ?_));intro _ H
  refine aG Z (q3 (W_ret (N_K_ret (ret_gen (rs:=[.cell 4 27,.tmp 5]) (vs:=[_,_]) results103 ⟨⟨_,Z,load_blk 0 H isAgg27 sizeOf27 Z Z Z⟩,Z,trivial⟩ ?_))))
  have h1:x.kind=1:=hk.resolve_right hc9'
  have ha:¬0≤Sp.l5At d.tree x.path:=fun h=>hc9' (hge14.1 h)
  have hN:Sp.l14Make d x=none:=by (rw[Sp.mk_new h1 ha (by simp_all),if_neg (fun e=>by (have h9:x.bytes.length=0:=by (rw[e];rfl));omega)])
  have H:=H.addNil 107 2
  exact H.retO (k:=0) rfl (by rw[hN];exact⟨_,_,_,rfl,AccOf.mk rfl Chk.nil,RdS.nil _ _ _,RdS.nil _ _ _⟩) (acc_nd _ _ _ _ _)
 intro hc24'
 try simp only[nrm]at hc24'
 refine W_skip (N_K (q2 (lA 2 3 H Z4 (xc Z2 (l12Copy_c _ _ H.sub _ d ⟨_,_,_,_,_,_,_,_,_,Z,hr1,hr1',hr1''⟩) ?_))))
 rintro _ _ ⟨_,_,_,g26,rfl,⟨_,_,_,rfl,⟨_,rfl,hchk26⟩,hr26_0,hr26_1⟩,hp26,hq26,hs26⟩
 have H:=H.growO g26 hp26 hq26 hs26;obtain⟨_,_,rfl⟩:=H.accShape (k:=0) rfl
 have hr21_0:=hr21_0.up g26.le
 obtain⟨_,_,rfl⟩:=hr26_0.shape;have hx_hr26_0:_≤1099511627776:=hr26_0.lim
 obtain⟨_,_,rfl⟩:=hr26_1.shape;have hx_hr26_1:_≤1099511627776:=hr26_1.lim
 refine⟨_,Z,?_⟩
 refine xal H Z ?_;intro _ _ _ H
 refine xst 0 H Z8 ?_;intro _ H
 refine q1 (mV Z (fA 1 Z (xst 0 H Z8 ?_)));intro _ H
 refine q1 (lA 0 3 H Z4 (xst 2 H Z8 ?_));intro _ H
 refine aG Z (q3 (W_ret (ret_gen (rs:=[.cell 4 27,.tmp 5]) (vs:=[_,_]) results103 ⟨⟨_,Z,load_blk 2 H isAgg27 sizeOf27 Z Z Z⟩,Z,trivial⟩ ?_)))
 have h1:x.kind=1:=hk.resolve_right hc9'
 have ha:¬0≤Sp.l5At d.tree x.path:=fun h=>hc9' (hge14.1 h)
 have hY:Sp.l14Make d x=some ⟨d.store,(Sp.TreePut d.tree ⟨x.path,true,[]⟩).getD [],d.snaps⟩:=by (rw[Sp.mk_new h1 ha (by simp_all),if_pos (List.length_eq_zero_iff.1 oM)];cases hq:(Sp.TreePut d.tree ⟨x.path,true,[]⟩) with |none=>simp_all|some q=>rfl)
 exact H.retO (k:=1) rfl (by rw[hY];exact⟨_,_,_,rfl,AccOf.mk aN hchk26,hr26_0,hr21_0⟩) (acc_nd _ _ _ _ _)
theorem OpRun_c (w0:World)(G0:PH)(hG:PSub G0 w0)(cd:List Value)(d:BDisk)(hd:diskE G0 d cd)(cop:List Value)(op:BOp)(hop:opE G0 op cop) :
  Calls Tryz.prog 31 #[.agg cd.toArray,.agg cop.toArray] w0 (RetO w0 G0 (fun G val r=>∃u u1 u2,val= .tuple #[.agg #[u,u1,u2],.bool (Sp.OpRun d op).isSome]∧AccOf snapE 2 107 (((Sp.OpRun d op).map (·.snaps)).getD []) G u2 r∧RdH G u (((Sp.OpRun d op).map (·.store)).getD [])∧RdItems G u1 (((Sp.OpRun d op).map (·.tree)).getD []))):=by
 obtain⟨_,_,_,_,_,_,_,_,_,rfl,hr1,hr1',hr1'',⟨_,_⟩,⟨_,_⟩,_,_⟩:=ox hd
 obtain⟨_,_,_,rfl,_,hi2,hr2⟩:=hop;have hy_hi2:_≤16777216:=hi2;have hn_hr2:=hr2.len;have hx_hr2:_≤1099511627776:=hr2.lim
 have H:=Hp.init hG
 refine calls_of_W (l:=[_,_]) func31 Z ntmps31 Z (q2 (o_box H Z Z Z ?_));intro _ _ _ H
 refine o_box H Z Z Z ?_;intro _ _ _ H
 refine xal H Z ?_;intro _ _ _ H
 refine aG Z (q3 (W_seq (q2 (lA 2 3 H Z4 (xr H Z2 (DiskValid_c _ _ H.sub _ d ⟨_,_,_,_,_,_,_,_,_,Z,hr1,hr1',hr1''⟩) ?_)))));intro _ H
 refine pe 2 Z ?_
 refine R_case (t:=10) Z ?_ ?_
 ·intro hc7
  try simp only[nrm]at hc7
  refine pe 4 Z (q3 (W_true Z (q2 (o_build bf27 Z Z Z (xst 0 H Z8 ?_)))));intro _ H
  refine aG Z (q3 (W_ret (N_K_ret (ret_gen (rs:=[.cell 4 27,.tmp 5]) (vs:=[_,_]) results31 ⟨⟨_,Z,load_blk 0 H isAgg27 sizeOf27 Z Z Z⟩,Z,trivial⟩ ?_))))
  have hN:Sp.OpRun d op=none:=by exact Sp.op_nov (by simpa using hc7)
  have H:=H.addNil 107 2
  exact H.retO (k:=0) rfl (by rw[hN];exact⟨_,_,_,rfl,AccOf.mk rfl Chk.nil,RdS.nil _ _ _,RdS.nil _ _ _⟩) (acc_nd _ _ _ _ _)
 intro hc7'
 try simp only[nrm]at hc7'
 have hdv:Sp.DiskValid d=true:=by simpa using hc7'
 refine gR Z (lA 1 3 H Z4 (gR Z ?_))
 refine xr H Z2 (l22Ok_c _ _ H.sub _ op ⟨_,_,_,Z,⟨by first|omega|(dsimp only;omega),by first|omega|(dsimp only;omega)⟩,hi2,hr2⟩) ?_;intro _ H
 refine pe 2 Z (q3 ?_)
 refine W_cond Z ?_ ?_
 ·intro hc10
  try simp only[nrm]at hc10
  refine q2 (o_build bf27 Z Z Z (xst 0 H Z8 ?_));intro _ H
  refine aG Z (q3 (W_ret (N_K_ret (ret_gen (rs:=[.cell 4 27,.tmp 5]) (vs:=[_,_]) results31 ⟨⟨_,Z,load_blk 0 H isAgg27 sizeOf27 Z Z Z⟩,Z,trivial⟩ ?_))))
  have hN:Sp.OpRun d op=none:=by exact Sp.op_bad (by simpa using hc10)
  have H:=H.addNil 107 2
  exact H.retO (k:=0) rfl (by rw[hN];exact⟨_,_,_,rfl,AccOf.mk rfl Chk.nil,RdS.nil _ _ _,RdS.nil _ _ _⟩) (acc_nd _ _ _ _ _)
 intro hc10'
 try simp only[nrm]at hc10'
 have hok:Sp.opOk op=true:=by simpa using hc10'
 refine W_skip (N_K (q2 (fA 1 Z (lB 2 H Z3 (fA 1 Z (lB 1 H Z3 (xr H Z2 (l5At_c _ _ H.sub _ _ hr1' _ hi2) ?_)))))));intro _ H
 refine aG Z (q3 (W_seq (W_block (q2 (fA 0 Z (lB 1 H Z3 (pe 2 Z (q3 ?_))))))))
 refine W_cond Z ?_ ?_
 ·intro hc13
  try simp only[nrm]at hc13
  refine q2 (lA 2 3 H Z4 (fA 1 Z (lB 1 H Z3 (fA 2 Z (lB 1 H Z3 (xc Z2 (DiskWrite_c _ _ H.sub _ d ⟨_,_,_,_,_,_,_,_,_,Z,hr1,hr1',hr1''⟩ _ hi2 _ _ hr2) ?_))))))
  rintro _ _ ⟨_,_,_,g14,rfl,⟨_,_,_,rfl,⟨_,rfl,hchk14⟩,hr14_0,hr14_1⟩,hp14,hq14,hs14⟩
  have H:=H.growO g14 hp14 hq14 hs14;obtain⟨_,_,rfl⟩:=H.accShape (k:=0) rfl
  obtain⟨_,_,rfl⟩:=hr14_0.shape;have hx_hr14_0:_≤1099511627776:=hr14_0.lim
  obtain⟨_,_,rfl⟩:=hr14_1.shape;have hx_hr14_1:_≤1099511627776:=hr14_1.lim
  refine⟨_,Z,?_⟩
  refine pe 2 Z (xst 1 H Z8 ?_);intro _ H
  refine aG Z (q3 (W_ret (N_B_ret (N_K_ret (ret_gen (rs:=[.cell 4 27,.tmp 5]) (vs:=[_,_]) results31 ⟨⟨_,Z,load_blk 1 H isAgg27 sizeOf27 Z Z Z⟩,Z,trivial⟩ ?_)))))
  have hY:Sp.OpRun d op=Sp.DiskWrite d op.path op.bytes:=by exact Sp.op_is2 hok oM hc13
  exact H.retO (k:=0) rfl (by rw[hY];exact⟨_,_,_,rfl,AccOf.mk aN hchk14,hr14_0,hr14_1⟩) (acc_nd _ _ _ _ _)
 intro hc13'
 try simp only[nrm]at hc13'
 refine q2 (fA 0 Z (lB 1 H Z3 (pe 2 Z (q3 ?_))))
 refine W_cond Z ?_ ?_
 ·intro hc16
  try simp only[nrm]at hc16
  refine q2 (lA 2 3 H Z4 (fA 1 Z (lB 1 H Z3 (xc Z2 (SnapTake_c _ _ H.sub _ d ⟨_,_,_,_,_,_,_,_,_,Z,hr1,hr1',hr1''⟩ _ hi2) ?_))))
  rintro _ _ ⟨_,_,_,g17,rfl,⟨_,_,_,rfl,⟨_,rfl,hchk17⟩,hr17_0,hr17_1⟩,hp17,hq17,hs17⟩
  have H:=H.growO g17 hp17 hq17 hs17;obtain⟨_,_,rfl⟩:=H.accShape (k:=0) rfl
  obtain⟨_,_,rfl⟩:=hr17_0.shape;have hx_hr17_0:_≤1099511627776:=hr17_0.lim
  obtain⟨_,_,rfl⟩:=hr17_1.shape;have hx_hr17_1:_≤1099511627776:=hr17_1.lim
  refine⟨_,Z,?_⟩
  refine pe 2 Z (xst 1 H Z8 ?_);intro _ H
  refine aG Z (q3 (W_ret (N_B_ret (N_K_ret (ret_gen (rs:=[.cell 4 27,.tmp 5]) (vs:=[_,_]) results31 ⟨⟨_,Z,load_blk 1 H isAgg27 sizeOf27 Z Z Z⟩,Z,trivial⟩ ?_)))))
  have hY:Sp.OpRun d op=Sp.SnapTake d op.path:=by exact Sp.op_is4 hok oM oM oM
  exact H.retO (k:=0) rfl (by rw[hY];exact⟨_,_,_,rfl,AccOf.mk aN hchk17,hr17_0,hr17_1⟩) (acc_nd _ _ _ _ _)
 intro hc16'
 try simp only[nrm]at hc16'
 refine q2 (fA 0 Z (lB 1 H Z3 (pe 2 Z ?_)))
 refine R_case (t:=47) Z ?_ ?_
 ·intro hc19
  try simp only[nrm]at hc19
  refine pe 4 Z (q3 ?_)
  refine W_cond Z ?_ ?_
  ·intro hc20
   try simp only[nrm]at hc20
   obtain⟨i,y0,hat,ib,ic,ie⟩:=Sp.l5_nat (t:=d.tree) (p:=op.path) oM
   refine W_seq (W_drawK [1,2] 15 H kR Z ?_);intro _ H;have hd21:=PLe.refl G0
   refine RD_t 0 Z kR Z (fun _ hK=>v_loadagg_B 1 hK isAgg27 sizeOf27 Z Z Z Z) (dF 1 1 Z2 (dB 2 0 Z4 (dF 3 1 Z2 (dB 4 1 Z4 (dE 5 Z2 ?_)))))
   have hl22:=hr1'.len
   obtain⟨_,_,z22,_,ha22,hz22,hq22,hE22,hrow22,_⟩:=hr1'.at (i:=i) oM
   clear hq22
   obtain⟨_,_,_,rfl,_,hr22,_,_⟩:=ox hE22
   refine dI 6 3 i ha22 Z3 ib (dF 7 1 Z2 (dP 8 hrow22 1 Z3 (RD_t 9 Z kR Z (fun _ hK=>v_build bf160 Z Z) (r1 10 Z ?_))))
   refine xc Z2 (l14Drop_c _ _ H.sub _ d ⟨_,_,_,_,_,_,_,_,_,Z,hr1,hr1',hr1''⟩ _ ⟨0,op.path,z22.dir,[]⟩ ⟨_,_,_,Z,⟨by first|omega|(dsimp only;omega),by first|omega|(dsimp only;omega)⟩,hi2,(RdS.nil _ _ _)⟩ hdv rfl) ?_
   rintro _ _ ⟨_,_,_,g23,rfl,⟨_,_,_,rfl,⟨_,rfl,hchk23⟩,hr23_0,hr23_1⟩,hp23,hq23,hs23⟩
   have H:=H.growO g23 hp23 hq23 hs23;obtain⟨_,_,rfl⟩:=H.accShape (k:=0) rfl
   have hd21:=hd21.trans g23.le
   obtain⟨_,_,rfl⟩:=hr23_0.shape;have hx_hr23_0:_≤1099511627776:=hr23_0.lim
   obtain⟨_,_,rfl⟩:=hr23_1.shape;have hx_hr23_1:_≤1099511627776:=hr23_1.lim
   refine⟨_,Z,?_⟩
   refine q4 H hd21 (dE 11 Z2 (dE 12 Z2 (r1 13 Z (xst 1 H Z8 ?_))));intro _ H
   refine q4 H hd21 (dE 14 Z2 (rz (N_K (W_ret (N_B_ret (N_K_ret (ret_gen (rs:=[.cell 4 27,.tmp 5]) (vs:=[_,_]) results31 ⟨⟨_,Z,load_blk 1 H isAgg27 sizeOf27 Z Z Z⟩,Z,trivial⟩ ?_)))))))
   have hY:Sp.OpRun d op=Sp.l14Drop d ⟨0,op.path,z22.dir,[]⟩:=by exact(Sp.op_is3 hok oM oM hc19).trans (Sp.drop14 hdv hat hz22 0).symm
   exact H.retO (k:=0) rfl (by rw[hY];exact⟨_,_,_,rfl,AccOf.mk aN hchk23,hr23_0,hr23_1⟩) (acc_nd _ _ _ _ _)
  intro hc20'
  try simp only[nrm]at hc20'
  refine q2 (fA 0 Z (lB 1 H Z3 (pe 2 Z ?_)))
  refine R_case (t:=68) Z ?_ ?_
  ·intro hc25
   try simp only[nrm]at hc25
   exact absurd (show False by omega) id
  intro hc25'
  try simp only[nrm]at hc25'
  refine pe 4 Z (q3 (W_false Z (W_skip (N_B (N_K (q2 (o_build bf27 Z Z Z (xst 0 H Z8 ?_))))))));intro _ H
  refine aG Z (q3 (W_ret (ret_gen (rs:=[.cell 4 27,.tmp 5]) (vs:=[_,_]) results31 ⟨⟨_,Z,load_blk 0 H isAgg27 sizeOf27 Z Z Z⟩,Z,trivial⟩ ?_)))
  have hN:Sp.OpRun d op=none:=by exact(Sp.op_is3 hok oM oM hc19).trans (Sp.drop14_no (Sp.l5_none oM))
  have H:=H.addNil 107 2
  exact H.retO (k:=0) rfl (by rw[hN];exact⟨_,_,_,rfl,AccOf.mk rfl Chk.nil,RdS.nil _ _ _,RdS.nil _ _ _⟩) (acc_nd _ _ _ _ _)
 intro hc19'
 try simp only[nrm]at hc19'
 refine pe 4 Z (q3 (W_false Z (q2 (fA 0 Z (lB 1 H Z3 (pe 2 Z ?_))))))
 refine R_case (t:=68) Z ?_ ?_
 ·intro hc27
  try simp only[nrm]at hc27
  refine pe 4 Z (q3 ?_)
  refine W_cond Z ?_ ?_
  ·intro hc28
   try simp only[nrm]at hc28
   refine q2 (lA 2 3 H Z4 (fA 1 Z (lB 1 H Z3 (o_build bf160 Z Z Z ?_))))
   refine xc Z2 (l14Make_c _ _ H.sub _ d ⟨_,_,_,_,_,_,_,_,_,Z,hr1,hr1',hr1''⟩ _ ⟨1,op.path,true,[]⟩ ⟨_,_,_,Z,⟨by first|omega|(dsimp only;omega),by first|omega|(dsimp only;omega)⟩,hi2,(RdS.nil _ _ _)⟩ hdv (.inl rfl)) ?_
   rintro _ _ ⟨_,_,_,g29,rfl,⟨_,_,_,rfl,⟨_,rfl,hchk29⟩,hr29_0,hr29_1⟩,hp29,hq29,hs29⟩
   have H:=H.growO g29 hp29 hq29 hs29;obtain⟨_,_,rfl⟩:=H.accShape (k:=0) rfl
   obtain⟨_,_,rfl⟩:=hr29_0.shape;have hx_hr29_0:_≤1099511627776:=hr29_0.lim
   obtain⟨_,_,rfl⟩:=hr29_1.shape;have hx_hr29_1:_≤1099511627776:=hr29_1.lim
   refine⟨_,Z,?_⟩
   refine pe 2 Z (xst 1 H Z8 ?_);intro _ H
   refine aG Z (q3 (W_ret (N_B_ret (N_K_ret (ret_gen (rs:=[.cell 4 27,.tmp 5]) (vs:=[_,_]) results31 ⟨⟨_,Z,load_blk 1 H isAgg27 sizeOf27 Z Z Z⟩,Z,trivial⟩ ?_)))))
   have hY:Sp.OpRun d op=Sp.l14Make d ⟨1,op.path,true,[]⟩:=by exact(Sp.op_is1 hok oM).trans (Sp.make14 hdv (Sp.l5_none oM)).symm
   exact H.retO (k:=0) rfl (by rw[hY];exact⟨_,_,_,rfl,AccOf.mk aN hchk29,hr29_0,hr29_1⟩) (acc_nd _ _ _ _ _)
  intro hc28'
  try simp only[nrm]at hc28'
  obtain⟨i,y0,hat,ib,ic,ie⟩:=Sp.l5_nat (t:=d.tree) (p:=op.path) oM
  refine W_skip (N_B (N_K (q2 (o_build bf27 Z Z Z (xst 0 H Z8 ?_)))));intro _ H
  refine aG Z (q3 (W_ret (ret_gen (rs:=[.cell 4 27,.tmp 5]) (vs:=[_,_]) results31 ⟨⟨_,Z,load_blk 0 H isAgg27 sizeOf27 Z Z Z⟩,Z,trivial⟩ ?_)))
  have hN:Sp.OpRun d op=none:=by exact(Sp.op_is1 hok oM).trans (Sp.make14_no hdv hat)
  have H:=H.addNil 107 2
  exact H.retO (k:=0) rfl (by rw[hN];exact⟨_,_,_,rfl,AccOf.mk rfl Chk.nil,RdS.nil _ _ _,RdS.nil _ _ _⟩) (acc_nd _ _ _ _ _)
 intro hc27'
 try simp only[nrm]at hc27'
 refine pe 4 Z (q3 (W_false Z (W_skip (N_B (N_K (q2 (o_build bf27 Z Z Z (xst 0 H Z8 ?_))))))));intro _ H
 refine aG Z (q3 (W_ret (ret_gen (rs:=[.cell 4 27,.tmp 5]) (vs:=[_,_]) results31 ⟨⟨_,Z,load_blk 0 H isAgg27 sizeOf27 Z Z Z⟩,Z,trivial⟩ ?_)))
 have hN:Sp.OpRun d op=none:=by exact absurd (Sp.ok_kind hok) oM
 have H:=H.addNil 107 2
 exact H.retO (k:=0) rfl (by rw[hN];exact⟨_,_,_,rfl,AccOf.mk rfl Chk.nil,RdS.nil _ _ _,RdS.nil _ _ _⟩) (acc_nd _ _ _ _ _)
theorem OpRunP_c (w0:World)(G0:PH)(hG:PSub G0 w0)(cd:List Value)(d:BDisk)(hd:diskE G0 d cd)(co:List Value)(op:BOp)(hop:opE G0 op co) :
  Calls Tryz.prog 31 #[.agg cd.toArray,.agg co.toArray] w0 (RetP w0 G0 (fun G val=>∃cs,val= .tuple #[.agg cs.toArray,.bool (Sp.OpRun d op).isSome]∧diskE G ((Sp.OpRun d op).getD ⟨[],[],[]⟩) cs)):=by
 refine(OpRun_c w0 G0 hG cd d hd co op hop).mono ?_
 rintro _ _ ⟨_,_,_,g,rfl,⟨_,_,_,rfl,⟨_,rfl,hchk⟩,h1,h2⟩,hp,hq,hs⟩
 have H:=(Hp.init hG).growO g hp hq hs
 have hb:(((Sp.OpRun d op).map (·.snaps)).getD []).length≤6:=Sp.dk_lim (fun d1 h=>Sp.op_valid h)
 obtain⟨_,H2,hle,hr⟩:=H.shut' (k:=0) rfl hchk rfl oM
 have e1:((Sp.OpRun d op).map (·.store)).getD []=((Sp.OpRun d op).getD ⟨[],[],[]⟩).store:=by cases Sp.OpRun d op<;>rfl
 have e2:((Sp.OpRun d op).map (·.tree)).getD []=((Sp.OpRun d op).getD ⟨[],[],[]⟩).tree:=by cases Sp.OpRun d op<;>rfl
 have e3:((Sp.OpRun d op).map (·.snaps)).getD []=((Sp.OpRun d op).getD ⟨[],[],[]⟩).snaps:=by cases Sp.OpRun d op<;>rfl
 rw[e1]at h1;rw[e2]at h2;rw[e3]at hr
 obtain⟨_,_,rfl⟩:=h1.shape
 obtain⟨_,_,rfl⟩:=h2.shape
 obtain⟨_,_,rfl⟩:=hr.shape
 exact H2.retP ⟨[_,_,_],Z,_,_,_,_,_,_,_,_,_,Z,h1.up hle,h2.up hle,hr⟩
theorem w_szOp_c (w0:World)(G0:PH)(hG:PSub G0 w0)(ca:List Value)(a:BOp)(ha:opE G0 a ca)(left:Int)(hl: -1≤left∧left≤1099511627776) :
  Calls Tryz.prog 43 #[.agg ca.toArray,.int .i64 left] w0 (RetV w0 (fun v=>∃r:Int,v= .int .i64 r∧(r= -1∨(0≤r∧r+(wOp a:Int)≤left)))):=by
 obtain⟨_,_,_,rfl,_,hi1,hr1⟩:=ha;have hy_hi1:_≤16777216:=hi1;have hn_hr1:=hr1.len;have hx_hr1:_≤1099511627776:=hr1.lim
 have H:=Hp.init hG
 refine calls_of_W (l:=[_,.int .i64 left]) func43 Z ntmps43 Z (q2 (o_box H Z Z Z ?_));intro _ _ _ H
 refine aG Z (q1 (mV Z (fA 1 Z (lB 0 H Z3 (lS Z (o_sub Z Z Z oO (aG Z (q3 (W_seq (q2 (pe 2 Z (q3 ?_))))))))))))
 refine W_cond Z ?_ ?_
 ·intro hc4
  try simp only[nrm]at hc4
  refine q2 (aG Z (q3 (W_ret (N_K_ret (rt1 results43 Z ?_)))))
  exact H.retV ⟨_,rfl,by first|omega|(simp only[wOp,wOps]at *; omega)⟩
 intro hc4'
 try simp only[nrm]at hc4'
 refine W_skip (N_K (q2 (fA 2 Z (lB 0 H Z3 (mV Z (xc Z2 (w_szIntS_c _ _ H.sub _ _ hr1 _ oO) ?_))))))
 rintro _ _ ⟨_,rfl,ew5,⟨_,rfl,_⟩⟩
 skip
 have H:=H.step ew5;refine⟨_,rfl,?_⟩
 refine aG Z (q3 (W_seq (q2 (pe 2 Z (q3 ?_)))))
 refine W_cond Z ?_ ?_
 ·intro hc6
  try simp only[nrm]at hc6
  refine q2 (aG Z (q3 (W_ret (N_K_ret (rt1 results43 Z ?_)))))
  exact H.retV ⟨_,rfl,by first|omega|(simp only[wOp,wOps]at *; omega)⟩
 intro hc6'
 try simp only[nrm]at hc6'
 refine W_skip (N_K (q2 (pe 2 Z (q3 (W_ret (rt1 results43 Z ?_))))))
 exact H.retV ⟨_,rfl,by first|omega|(simp only[wOp,wOps]at *; omega)⟩
theorem w_eqOp_c (w0:World)(G0:PH)(hG:PSub G0 w0)(ca:List Value)(a:BOp)(ha:opE G0 a ca)(cb:List Value)(b:BOp)(hb:opE G0 b cb)(hab:a=b) :
  Calls Tryz.prog 47 #[.agg ca.toArray,.agg cb.toArray] w0 (Rets w0 (.bool true)):=by
 obtain⟨_,_,_,rfl,_,hi1,hr1⟩:=ha;have hy_hi1:_≤16777216:=hi1;have hn_hr1:=hr1.len;have hx_hr1:_≤1099511627776:=hr1.lim
 obtain⟨_,_,_,rfl,_,hi2,hr2⟩:=hb;have hy_hi2:_≤16777216:=hi2;have hn_hr2:=hr2.len;have hx_hr2:_≤1099511627776:=hr2.lim
 have H:=Hp.init hG
 refine calls_of_W (l:=[_,_]) func47 Z ntmps47 Z (q2 (o_box H Z Z Z ?_));intro _ _ _ H
 refine o_box H Z Z Z ?_;intro _ _ _ H
 refine aG Z (q3 (W_seq (q2 (fA 0 Z (lB 1 H Z3 (fA 0 Z (lB 0 H Z3 (pe 1 Z (q3 ?_)))))))))
 refine W_cond Z ?_ ?_
 ·intro hc5
  try simp only[nrm]at hc5
  refine q2 (aG Z (q3 (W_ret (N_K_ret (rt1 results47 Z ?_)))))
  exact absurd (show False from by simp[hab]at hc5) id
 intro hc5'
 try simp only[nrm]at hc5'
 refine W_skip (N_K (W_seq (q2 (fA 1 Z (lB 1 H Z3 (fA 1 Z (lB 0 H Z3 (o_sneq Z Z Z (q3 ?_)))))))))
 refine W_cond Z ?_ ?_
 ·intro hc6
  try simp only[nrm]at hc6
  refine q2 (aG Z (q3 (W_ret (N_K_ret (rt1 results47 Z ?_)))))
  exact absurd (show False from by simp[hab]at hc6) id
 intro hc6'
 try simp only[nrm]at hc6'
 refine W_skip (N_K (W_seq (q2 (fA 2 Z (lB 1 H Z3 (fA 2 Z (lB 0 H Z3 (xr H Z2 (w_eqIntS_c _ _ H.sub _ _ hr1 _ _ hr2 (congrArg BOp.bytes hab)) ?_))))))));intro _ H
 refine pe 1 Z (q3 (W_false Z (W_skip (N_K (q2 (aG Z (q3 (W_ret (rt1 results47 Z ?_)))))))))
 exact H.rets Z
theorem w_toOp_c (w0:World)(G0:PH)(hG:PSub G0 w0)(ca:List Value)(a:BOp)(ha:opE G0 a ca) :
  Calls Tryz.prog 45 #[.agg ca.toArray] w0 (RetN w0 G0 (fun v Bs=>∃(F:Fr) (cs:List Value),v= .agg cs.toArray∧Bs=[frag F]∧opO F a cs)):=by
 obtain⟨_,_,_,rfl,_,hi1,hr1⟩:=ha;have hy_hi1:_≤16777216:=hi1;have hn_hr1:=hr1.len;have hx_hr1:_≤1099511627776:=hr1.lim
 have H:=Hp.init hG
 refine calls_of_W (l:=[_]) func45 Z ntmps45 Z (q2 (o_box H Z Z Z ?_));intro _ _ _ H
 refine xal H Z ?_;intro _ _ _ H
 refine q1 (xal H Z ?_);intro _ _ _ H
 refine q1 (fA 0 Z (lB 2 H Z3 (fA 0 Z (xst 0 H Z8 ?_))));intro _ H
 refine q1 (fA 1 Z (lB 2 H Z3 (fA 1 Z (xst 0 H Z8 ?_))));intro _ H
 refine q1 (fA 2 Z (lB 2 H Z3 (xc Z2 (w_toIntS_c _ _ H.sub _ _ hr1) ?_)))
 rintro _ _ ⟨_,_,_,g7,rfl,⟨_,rfl,hchk7⟩,hp7,hq7,hs7⟩
 have H:=H.growO g7 hp7 hq7 hs7;obtain⟨_,_,rfl⟩:=H.accShape (k:=0) rfl
 refine⟨_,Z,?_⟩
 refine fA 2 Z (xst 1 H Z8 ?_);intro _ H
 refine q1 (lA 1 3 H Z4 (xst 2 H Z8 ?_));intro _ H
 refine q3 (W_ret (ret_gen (rs:=[.cell 2 53]) (vs:=[_]) results45 ⟨⟨_,Z,load_blk 2 H isAgg53 sizeOf53 Z Z Z⟩,trivial⟩ ?_))
 obtain⟨_,H,hOI1⟩:=H.ownI (k:=0) rfl hchk7 aN aN
 have H:=H.dl 1
 have H:=H.dl 1
 have H:=H.dl 1
 have H:=H.forget hG (by simp)
 exact⟨_,_,Z,H,_,_,Z,Z,⟨_,_,_,Z,oO,hi1,hOI1⟩⟩
theorem w_markOp_c (w0:World)(G0:PH)(hG:PSub G0 w0)(Fa:Fr)(oa:Option Addr)(om oc:Nat)(a:BOp)(hOa:OI Fa (.slice oa om oc) a.bytes)(k:Int)(hLent:Lent w0 G0 [frag Fa])(hb:0≤k∧k+(cnt cI a.bytes:Int)≤2199023255552) :
  Calls Tryz.prog 49 #[.agg #[.int .i64 a.kind,str a.path,.slice oa om oc],.int .i64 k] w0 (RetM w0 G0 (fps [frag Fa]) (fun G' v Bs=>∃(F1:Fr),v= .int .i64 (k+(cnt cI a.bytes:Int))∧Bs=[frag F1]∧OI F1 (.slice oa om oc) (mks mI cI k a.bytes))):=by
 obtain⟨_,p1⟩:=hOa
 have H:Hp w0 G0 (fps [frag Fa]) w0 G0 [frag Fa]:=hLent.hp
 refine calls_of_W (l:=[_,.int .i64 k]) func49 Z ntmps49 Z (q2 (o_box H Z Z Z ?_));intro _ _ _ H
 refine aG Z (q1 (fA 2 Z (lB 0 H Z3 (mV Z ?_))))
 have H:=H.tF 1
 refine xc Z2 (w_markIntS_c _ _ H.sub _ _ _ (show OI Fa _ _ from⟨_,p1⟩) _ H.lent1 oO) ?_
 rintro _ _ ⟨_,_,_,rfl,H2',⟨_,rfl,rfl,hO2⟩⟩
 have H:=H.borrow1 H2'
 refine⟨_,Z,?_⟩
 refine aG Z (q1 (pe 2 Z (q3 (W_ret (rt1 results49 Z ?_)))))
 have H:=H.dl 1
 exact H.retM ⟨_,congrArg (Value.int .i64) oM,Z,(show _ from hO2)⟩
theorem xOpRun_c (w0:World)(G0:PH)(hG:PSub G0 w0)(caD:List Value)(aD:BDisk)(haD:diskE G0 aD caD)(caOp:List Value)(aOp:BOp)(haOp:opE G0 aOp caOp) :
  Calls Tryz.prog 13 #[.agg caD.toArray,.agg caOp.toArray] w0 (Rets w0 (.bool true)):=by
 obtain⟨_,_,_,_,_,_,_,_,_,rfl,hr1,hr1',hr1'',⟨_,_⟩,⟨_,_⟩,_,_⟩:=ox haD
 obtain⟨_,_,_,rfl,_,hi2,hr2⟩:=haOp;have hy_hi2:_≤16777216:=hi2;have hn_hr2:=hr2.len;have hx_hr2:_≤1099511627776:=hr2.lim
 have hcd0:=cDisk_le aD
 have hcD:cDisk ((Sp.OpRun aD aOp).getD ⟨[],[],[]⟩)≤700:=dk_cnt (fun d1 h=>Sp.op_valid h)
 have hci:=cnt_ints aOp.bytes
 have H:=Hp.init hG
 refine calls_of_W (l:=[_,_]) func13 Z ntmps13 Z (q2 (o_box H Z Z Z ?_));intro b3 _ _ H
 refine o_box H Z Z Z ?_;intro b4 _ _ H
 refine aG Z (q1 (aG Z (q1 (lA 1 3 H Z4 (mV Z (xc Z2 (w_szDisk_c _ _ H.sub _ aD ⟨_,_,_,_,_,_,_,_,_,Z,hr1,hr1',hr1''⟩ _ oO) ?_))))))
 rintro _ _ ⟨_,rfl,ew5,⟨_,rfl,_⟩⟩
 skip
 have H:=H.step ew5;refine⟨_,rfl,?_⟩
 refine aG Z (q3 (W_seq (q2 (pe 2 Z (q3 ?_)))))
 refine W_cond Z ?_ ?_
 ·intro hc6
  try simp only[nrm]at hc6
  refine q2 (aG Z (q3 (W_ret (N_K_ret (rt1 results13 Z ?_)))))
  exact H.rets Z
 intro hc6'
 try simp only[nrm]at hc6'
 refine W_skip (N_K (q2 (lA 0 3 H Z4 (mV Z ?_))))
 refine xc Z2 (w_szOp_c _ _ H.sub _ aOp ⟨_,_,_,Z,⟨by first|omega|(dsimp only;omega),by first|omega|(dsimp only;omega)⟩,hi2,hr2⟩ _ oO) ?_
 rintro _ _ ⟨_,rfl,ew7,⟨_,rfl,_⟩⟩
 skip
 have H:=H.step ew7;refine⟨_,rfl,?_⟩
 refine aG Z (q3 (W_seq (q2 (pe 2 Z (q3 ?_)))))
 refine W_cond Z ?_ ?_
 ·intro hc8
  try simp only[nrm]at hc8
  refine q2 (aG Z (q3 (W_ret (N_K_ret (rt1 results13 Z ?_)))))
  exact H.rets Z
 intro hc8'
 try simp only[nrm]at hc8'
 refine W_skip (N_K ?_)
 obtain⟨ljb3,hljb3,H⟩:=H.name (k:=1) rfl
 obtain⟨ljb4,hljb4,H⟩:=H.name (k:=0) rfl
 have hj9:=PLe.refl G0
 refine W_join (hf:=(Sub.cons (t:=2) Z (Sub.cons (t:=3) Z (Sub.cons (t:=4) Z Sub.nil)))) (J:=fun M w=>∃(bj8:Nat) (ja8 jb8 jc8:Value) (G:PH),M=[(6,.pointer (some ⟨bj8,0,none⟩)),(7,.bool (Sp.OpRun aD aOp).isSome)]∧PLe G0 G∧Hp w0 G0 [] w G [blk bj8 (cl [ja8,jb8,jc8] 27),blk b3 (cl ljb3 74),blk b4 (cl ljb4 75)]∧(RdH G ja8 ((Sp.OpRun aD aOp).getD ⟨[],[],[]⟩).store∧RdItems G jb8 ((Sp.OpRun aD aOp).getD ⟨[],[],[]⟩).tree∧RdSn G jc8 ((Sp.OpRun aD aOp).getD ⟨[],[],[]⟩).snaps)) (first:=?_) (second:=?_)
 ·skip
  subst hljb3
  subst hljb4
  refine W_drawK [0,1] 11 H kR Z ?_;intro _ H;have hd10:=PLe.refl G0
  refine RD_t 0 Z kR Z (fun _ hK=>v_loadagg_B 1 hK isAgg74 sizeOf74 Z Z Z Z) (RD_t 2 Z kR Z (fun _ hK=>v_loadagg_B 0 hK isAgg75 sizeOf75 Z Z Z Z) ?_)
  refine r2 1 8 Z2 ?_ ?_
  ·skip
   refine xc Z2 (w_toDisk_c _ _ H.sub _ aD ⟨_,_,_,_,_,_,_,_,_,Z,hr1,hr1',hr1''⟩) ?_
   rintro _ _ ⟨_,_,rfl,H11',⟨_,_,_,_,_,_,rfl,rfl,ho111,ho211,ho311⟩⟩
   have H:=H.readers (fp:=[]) (by simp) (PLe.refl _) H11'
   obtain⟨_,p111⟩:=ho111
   obtain⟨_,_,rfl⟩:=OwnS.shape p111
   obtain⟨_,p211⟩:=ho211
   obtain⟨_,_,rfl⟩:=OwnS.shape p211
   obtain⟨_,p311⟩:=ho311
   obtain⟨_,_,rfl⟩:=OwnS.shape p311
   refine⟨_,Z,?_⟩
   refine q4 H hd10 ?_
   refine r2 3 8 Z2 ?_ ?_
   ·skip
    refine xc Z2 (w_toOp_c _ _ H.sub _ aOp ⟨_,_,_,Z,⟨by first|omega|(dsimp only;omega),by first|omega|(dsimp only;omega)⟩,hi2,hr2⟩) ?_
    rintro _ _ ⟨_,_,rfl,H12',⟨_,_,rfl,rfl,hO12⟩⟩
    have H:=H.readers (fp:=[]) (by simp) (PLe.refl _) H12'
    obtain⟨_,_,_,rfl,_,hi12,ho12⟩:=hO12
    refine⟨_,Z,?_⟩
    refine q4 H hd10 ?_
    refine r2 4 8 Z2 ?_ ?_
    ·skip
     have hnd14:=dm_nodup H (k:=1) rfl;obtain⟨_,H,hsg14,hsf14⟩:=H.keepF (k:=1) rfl (by simp);have hsr14:=(show OHs _ _ _ from⟨_,p111⟩).rd hsf14 hnd14
     have hj9:=hj9.trans hsg14
     have hd10:=hd10.trans hsg14
     have hnd15:=dm_nodup H (k:=1) rfl;obtain⟨_,H,hsg15,hsf15⟩:=H.keepF (k:=1) rfl (by simp);have hsr15:=(show OIs _ _ _ from⟨_,p211⟩).rd hsf15 hnd15
     have hsr14:=hsr14.up hsg15
     have hj9:=hj9.trans hsg15
     have hd10:=hd10.trans hsg15
     have hnd16:=dm_nodup H (k:=1) rfl;obtain⟨_,H,hsg16,hsf16⟩:=H.keepF (k:=1) rfl (by simp);have hsr16:=(show OSn _ _ _ from⟨_,p311⟩).rd hsf16 hnd16
     have hsr14:=hsr14.up hsg16
     have hsr15:=hsr15.up hsg16
     have hj9:=hj9.trans hsg16
     have hd10:=hd10.trans hsg16
     have hnd17:=dm_nodup H (k:=0) rfl;obtain⟨_,H,hsg17,hsf17⟩:=H.keepF (k:=0) rfl (by simp);have hsr17:=(show OI _ _ _ from ho12).rd hsf17 hnd17
     have hsr14:=hsr14.up hsg17
     have hsr15:=hsr15.up hsg17
     have hsr16:=hsr16.up hsg17
     have hj9:=hj9.trans hsg17
     have hd10:=hd10.trans hsg17
     refine xc Z2 (OpRunP_c _ _ H.sub _ aD ⟨_,_,_,_,_,_,_,_,_,Z,hsr14,hsr15,hsr16⟩ _ _ ⟨_,_,_,Z,⟨by first|omega|(dsimp only;omega),by first|omega|(dsimp only;omega)⟩,hi12,hsr17⟩) ?_
     rintro _ _ ⟨_,_,g13,rfl,_,rfl,hr13_0⟩
     have H:=H.grow g13
     have hj9:=hj9.trans g13.le
     have hd10:=hd10.trans g13.le
     obtain⟨_,_,_,_,_,_,_,_,_,rfl,hr18,hr18',hr18'',⟨_,_⟩,⟨_,_⟩,_,_⟩:=ox hr13_0
     refine⟨_,Z,?_⟩
     refine q4 H hd10 (dE 5 Z2 (dE 6 Z2 (dE 7 Z2 (r1 8 Z (xal H Z ?_)))));intro _ _ _ H
     refine q4 H hd10 (r1 9 Z (xst 0 H Z8 ?_));intro _ H
     refine q4 H hd10 (dE 10 Z2 (rz ?_))
     have H:=H.tF 1
     have H:=H.tF 2
     have H:=H.tF 2
     exact N_J ⟨_,_,_,_,_,Z,hj9,H,⟨hr18,hr18',hr18''⟩⟩
    skip
    refine xal H Z ?_;intro _ _ _ H
    refine q4 H hd10 (r1 4 Z ?_)
    have hnd23:=dm_nodup H (k:=2) rfl;obtain⟨_,H,hsg23,hsf23⟩:=H.keepF (k:=2) rfl (by simp);have hsr23:=(show OHs _ _ _ from⟨_,p111⟩).rd hsf23 hnd23
    have hj9:=hj9.trans hsg23
    have hd10:=hd10.trans hsg23
    have hnd24:=dm_nodup H (k:=2) rfl;obtain⟨_,H,hsg24,hsf24⟩:=H.keepF (k:=2) rfl (by simp);have hsr24:=(show OIs _ _ _ from⟨_,p211⟩).rd hsf24 hnd24
    have hsr23:=hsr23.up hsg24
    have hj9:=hj9.trans hsg24
    have hd10:=hd10.trans hsg24
    have hnd25:=dm_nodup H (k:=2) rfl;obtain⟨_,H,hsg25,hsf25⟩:=H.keepF (k:=2) rfl (by simp);have hsr25:=(show OSn _ _ _ from⟨_,p311⟩).rd hsf25 hnd25
    have hsr23:=hsr23.up hsg25
    have hsr24:=hsr24.up hsg25
    have hj9:=hj9.trans hsg25
    have hd10:=hd10.trans hsg25
    have hnd26:=dm_nodup H (k:=1) rfl;obtain⟨_,H,hsg26,hsf26⟩:=H.keepF (k:=1) rfl (by simp);have hsr26:=(show OI _ _ _ from ho12).rd hsf26 hnd26
    have hsr23:=hsr23.up hsg26
    have hsr24:=hsr24.up hsg26
    have hsr25:=hsr25.up hsg26
    have hj9:=hj9.trans hsg26
    have hd10:=hd10.trans hsg26
    refine xc Z2 (OpRunP_c _ _ H.sub _ aD ⟨_,_,_,_,_,_,_,_,_,Z,hsr23,hsr24,hsr25⟩ _ _ ⟨_,_,_,Z,⟨by first|omega|(dsimp only;omega),by first|omega|(dsimp only;omega)⟩,hi12,hsr26⟩) ?_
    rintro _ _ ⟨_,_,g22,rfl,_,rfl,hr22_0⟩
    have H:=H.grow g22
    have hj9:=hj9.trans g22.le
    have hd10:=hd10.trans g22.le
    obtain⟨_,_,_,_,_,_,_,_,_,rfl,hr27,hr27',hr27'',⟨_,_⟩,⟨_,_⟩,_,_⟩:=ox hr22_0
    refine⟨_,Z,?_⟩
    refine q4 H hd10 (dE 5 Z2 (dE 6 Z2 (dE 7 Z2 (r1 9 Z (xst 0 H Z8 ?_)))));intro _ H
    refine q4 H hd10 (dE 10 Z2 (rz ?_))
    have H:=H.tF 1
    have H:=H.tF 2
    have H:=H.tF 2
    exact N_J ⟨_,_,_,_,_,Z,hj9,H,⟨hr27,hr27',hr27''⟩⟩
   skip
   refine xal H Z ?_;intro _ _ _ H
   refine q4 H hd10 (r1 3 Z ?_)
   refine xc Z2 (w_toOp_c _ _ H.sub _ aOp ⟨_,_,_,Z,⟨by first|omega|(dsimp only;omega),by first|omega|(dsimp only;omega)⟩,hi2,hr2⟩) ?_
   rintro _ _ ⟨_,_,rfl,H30',⟨_,_,rfl,rfl,hO30⟩⟩
   have H:=H.readers (fp:=[]) (by simp) (PLe.refl _) H30'
   obtain⟨_,_,_,rfl,_,hi30,ho30⟩:=hO30
   refine⟨_,Z,?_⟩
   refine q4 H hd10 (r1 4 Z ?_)
   have hnd32:=dm_nodup H (k:=2) rfl;obtain⟨_,H,hsg32,hsf32⟩:=H.keepF (k:=2) rfl (by simp);have hsr32:=(show OHs _ _ _ from⟨_,p111⟩).rd hsf32 hnd32
   have hj9:=hj9.trans hsg32
   have hd10:=hd10.trans hsg32
   have hnd33:=dm_nodup H (k:=2) rfl;obtain⟨_,H,hsg33,hsf33⟩:=H.keepF (k:=2) rfl (by simp);have hsr33:=(show OIs _ _ _ from⟨_,p211⟩).rd hsf33 hnd33
   have hsr32:=hsr32.up hsg33
   have hj9:=hj9.trans hsg33
   have hd10:=hd10.trans hsg33
   have hnd34:=dm_nodup H (k:=2) rfl;obtain⟨_,H,hsg34,hsf34⟩:=H.keepF (k:=2) rfl (by simp);have hsr34:=(show OSn _ _ _ from⟨_,p311⟩).rd hsf34 hnd34
   have hsr32:=hsr32.up hsg34
   have hsr33:=hsr33.up hsg34
   have hj9:=hj9.trans hsg34
   have hd10:=hd10.trans hsg34
   have hnd35:=dm_nodup H (k:=0) rfl;obtain⟨_,H,hsg35,hsf35⟩:=H.keepF (k:=0) rfl (by simp);have hsr35:=(show OI _ _ _ from ho30).rd hsf35 hnd35
   have hsr32:=hsr32.up hsg35
   have hsr33:=hsr33.up hsg35
   have hsr34:=hsr34.up hsg35
   have hj9:=hj9.trans hsg35
   have hd10:=hd10.trans hsg35
   refine xc Z2 (OpRunP_c _ _ H.sub _ aD ⟨_,_,_,_,_,_,_,_,_,Z,hsr32,hsr33,hsr34⟩ _ _ ⟨_,_,_,Z,⟨by first|omega|(dsimp only;omega),by first|omega|(dsimp only;omega)⟩,hi30,hsr35⟩) ?_
   rintro _ _ ⟨_,_,g31,rfl,_,rfl,hr31_0⟩
   have H:=H.grow g31
   have hj9:=hj9.trans g31.le
   have hd10:=hd10.trans g31.le
   obtain⟨_,_,_,_,_,_,_,_,_,rfl,hr36,hr36',hr36'',⟨_,_⟩,⟨_,_⟩,_,_⟩:=ox hr31_0
   refine⟨_,Z,?_⟩
   refine q4 H hd10 (dE 5 Z2 (dE 6 Z2 (dE 7 Z2 (r1 9 Z (xst 0 H Z8 ?_)))));intro _ H
   refine q4 H hd10 (dE 10 Z2 (rz ?_))
   have H:=H.tF 1
   have H:=H.tF 2
   have H:=H.tF 2
   exact N_J ⟨_,_,_,_,_,Z,hj9,H,⟨hr36,hr36',hr36''⟩⟩
  skip
  refine xal H Z ?_;intro _ _ _ H
  refine q4 H hd10 (r1 1 Z (xc Z2 (w_toDisk_c _ _ H.sub _ aD ⟨_,_,_,_,_,_,_,_,_,Z,hr1,hr1',hr1''⟩) ?_))
  rintro _ _ ⟨_,_,rfl,H39',⟨_,_,_,_,_,_,rfl,rfl,ho139,ho239,ho339⟩⟩
  have H:=H.readers (fp:=[]) (by simp) (PLe.refl _) H39'
  obtain⟨_,p139⟩:=ho139
  obtain⟨_,_,rfl⟩:=OwnS.shape p139
  obtain⟨_,p239⟩:=ho239
  obtain⟨_,_,rfl⟩:=OwnS.shape p239
  obtain⟨_,p339⟩:=ho339
  obtain⟨_,_,rfl⟩:=OwnS.shape p339
  refine⟨_,Z,?_⟩
  refine q4 H hd10 (r1 3 Z ?_)
  refine xc Z2 (w_toOp_c _ _ H.sub _ aOp ⟨_,_,_,Z,⟨by first|omega|(dsimp only;omega),by first|omega|(dsimp only;omega)⟩,hi2,hr2⟩) ?_
  rintro _ _ ⟨_,_,rfl,H40',⟨_,_,rfl,rfl,hO40⟩⟩
  have H:=H.readers (fp:=[]) (by simp) (PLe.refl _) H40'
  obtain⟨_,_,_,rfl,_,hi40,ho40⟩:=hO40
  refine⟨_,Z,?_⟩
  refine q4 H hd10 (r1 4 Z ?_)
  have hnd42:=dm_nodup H (k:=1) rfl;obtain⟨_,H,hsg42,hsf42⟩:=H.keepF (k:=1) rfl (by simp);have hsr42:=(show OHs _ _ _ from⟨_,p139⟩).rd hsf42 hnd42
  have hj9:=hj9.trans hsg42
  have hd10:=hd10.trans hsg42
  have hnd43:=dm_nodup H (k:=1) rfl;obtain⟨_,H,hsg43,hsf43⟩:=H.keepF (k:=1) rfl (by simp);have hsr43:=(show OIs _ _ _ from⟨_,p239⟩).rd hsf43 hnd43
  have hsr42:=hsr42.up hsg43
  have hj9:=hj9.trans hsg43
  have hd10:=hd10.trans hsg43
  have hnd44:=dm_nodup H (k:=1) rfl;obtain⟨_,H,hsg44,hsf44⟩:=H.keepF (k:=1) rfl (by simp);have hsr44:=(show OSn _ _ _ from⟨_,p339⟩).rd hsf44 hnd44
  have hsr42:=hsr42.up hsg44
  have hsr43:=hsr43.up hsg44
  have hj9:=hj9.trans hsg44
  have hd10:=hd10.trans hsg44
  have hnd45:=dm_nodup H (k:=0) rfl;obtain⟨_,H,hsg45,hsf45⟩:=H.keepF (k:=0) rfl (by simp);have hsr45:=(show OI _ _ _ from ho40).rd hsf45 hnd45
  have hsr42:=hsr42.up hsg45
  have hsr43:=hsr43.up hsg45
  have hsr44:=hsr44.up hsg45
  have hj9:=hj9.trans hsg45
  have hd10:=hd10.trans hsg45
  refine xc Z2 (OpRunP_c _ _ H.sub _ aD ⟨_,_,_,_,_,_,_,_,_,Z,hsr42,hsr43,hsr44⟩ _ _ ⟨_,_,_,Z,⟨by first|omega|(dsimp only;omega),by first|omega|(dsimp only;omega)⟩,hi40,hsr45⟩) ?_
  rintro _ _ ⟨_,_,g41,rfl,_,rfl,hr41_0⟩
  have H:=H.grow g41
  have hj9:=hj9.trans g41.le
  have hd10:=hd10.trans g41.le
  obtain⟨_,_,_,_,_,_,_,_,_,rfl,hr46,hr46',hr46'',⟨_,_⟩,⟨_,_⟩,_,_⟩:=ox hr41_0
  refine⟨_,Z,?_⟩
  refine q4 H hd10 (dE 5 Z2 (dE 6 Z2 (dE 7 Z2 (r1 9 Z (xst 0 H Z8 ?_)))));intro _ H
  refine q4 H hd10 (dE 10 Z2 (rz ?_))
  have H:=H.tF 1
  have H:=H.tF 2
  have H:=H.tF 2
  exact N_J ⟨_,_,_,_,_,Z,hj9,H,⟨hr46,hr46',hr46''⟩⟩
 rintro _ _ ⟨bj8,ja8,jb8,jc8,G9,rfl,hle9,H,hinv9⟩
 subst hljb3
 subst hljb4
 have hr1:=hr1.up hle9
 have hr1':=hr1'.up hle9
 have hr1'':=hr1''.up hle9
 have hr2:=hr2.up hle9
 obtain⟨hja8,hjb8,hjc8⟩:=hinv9;obtain⟨_,_,rfl⟩:=hja8.shape;obtain⟨_,_,rfl⟩:=hjb8.shape;obtain⟨_,_,rfl⟩:=hjc8.shape
 refine q2 (lA 1 3 H Z4 (xc Z2 (w_toDisk_c _ _ H.sub _ aD ⟨_,_,_,_,_,_,_,_,_,Z,hr1,hr1',hr1''⟩) ?_))
 rintro _ _ ⟨_,_,rfl,H48',⟨_,_,_,_,_,_,rfl,rfl,ho148,ho248,ho348⟩⟩
 have H:=H.readers (fp:=[]) (by simp) (PLe.refl _) H48'
 obtain⟨_,p148⟩:=ho148
 obtain⟨_,_,rfl⟩:=OwnS.shape p148
 obtain⟨_,p248⟩:=ho248
 obtain⟨_,_,rfl⟩:=OwnS.shape p248
 obtain⟨_,p348⟩:=ho348
 obtain⟨_,_,rfl⟩:=OwnS.shape p348
 refine⟨_,Z,?_⟩
 refine xal H Z ?_;intro _ _ _ H
 refine xst 0 H Z8 ?_;intro _ H
 refine q1 (lA 6 3 H Z4 ?_)
 refine xc Z2 (w_toOp_c _ _ H.sub _ aOp ⟨_,_,_,Z,⟨by first|omega|(dsimp only;omega),by first|omega|(dsimp only;omega)⟩,hi2,hr2⟩) ?_
 rintro _ _ ⟨_,_,rfl,H51',⟨_,_,rfl,rfl,hO51⟩⟩
 have H:=H.readers (fp:=[]) (by simp) (PLe.refl _) H51'
 obtain⟨_,_,_,rfl,_,hi51,ho51⟩:=hO51
 refine⟨_,Z,?_⟩
 refine xal H Z ?_;intro _ _ _ H
 refine xst 0 H Z8 ?_;intro _ H
 refine q1 (lA 2 3 H Z4 (lA 0 3 H Z4 ?_))
 refine xc Z2 (i_OpRun_c _ _ (H.lendSubL [1,3,4,5]) _ aD ⟨_,_,_,_,_,_,_,_,_,Z,(H.lendOHs (k:=3) (ks:=[1,3,4,5]) Z Z ⟨_,p148⟩),(H.lendOIs (k:=4) (ks:=[1,3,4,5]) Z Z ⟨_,p248⟩),(H.lendOSn (k:=5) (ks:=[1,3,4,5]) Z Z ⟨_,p348⟩)⟩ _ _ ⟨_,_,_,Z,⟨by first|omega|(dsimp only;omega),by first|omega|(dsimp only;omega)⟩,hi51,(H.lendOI (k:=1) (ks:=[1,3,4,5]) rfl rfl ho51)⟩) ?_
 rintro _ _ ⟨_,_,rfl,H54',⟨_,_,_,_,_,_,rfl,rfl,ho154,ho254,ho354⟩⟩
 have H:=H.readersL H54'
 obtain⟨_,p154⟩:=ho154
 obtain⟨_,_,rfl⟩:=OwnS.shape p154
 obtain⟨_,p254⟩:=ho254
 obtain⟨_,_,rfl⟩:=OwnS.shape p254
 obtain⟨_,p354⟩:=ho354
 obtain⟨_,_,rfl⟩:=OwnS.shape p354
 refine⟨_,Z,?_⟩
 refine pe 3 Z (xal H Z ?_);intro b55 _ _ H
 refine xst 0 H Z8 ?_;intro _ H
 refine aG Z (q3 (W_seq (q2 (lA 0 3 H Z4 (lA 10 3 H Z4 (xr H Z2 (w_eqDisk_c _ _ (H.lendSubL [1,2,3]) _ ((Sp.OpRun aD aOp).getD ⟨[],[],[]⟩) ⟨_,_,_,_,_,_,_,_,_,Z,(H.lendOHs (k:=1) (ks:=[1,2,3]) Z Z ⟨_,p154⟩),(H.lendOIs (k:=2) (ks:=[1,2,3]) Z Z ⟨_,p254⟩),(H.lendOSn (k:=3) (ks:=[1,2,3]) Z Z ⟨_,p354⟩)⟩ _ ((Sp.OpRun aD aOp).getD ⟨[],[],[]⟩) ⟨_,_,_,_,_,_,_,_,_,Z,(hja8.up (PPlus.le _ _ _)),(hjb8.up (PPlus.le _ _ _)),(hjc8.up (PPlus.le _ _ _))⟩ Z) ?_))))));intro _ H
 refine pe 4 Z (gR Z (o_bneq_same underlying4 Z Z Z (pe 1 Z (q3 (W_false Z (W_skip (N_K (W_seq (W_seq (W_drawK [0,4,6,10,11,12] 5 H kR Z ?_))))))))));intro _ H;have hd58:=PLe.refl G9
 refine RD_t 0 Z kR Z (fun _ hK=>v_loadagg_B 2 hK isAgg27 sizeOf27 Z Z Z Z) (RD_t 1 Z kR Z (fun _ hK=>v_loadagg_B 4 hK isAgg74 sizeOf74 Z Z Z Z) (r1 2 Z (xc Z2 (w_toDisk_c _ _ H.sub _ aD ⟨_,_,_,_,_,_,_,_,_,Z,hr1,hr1',hr1''⟩) ?_)))
 rintro _ _ ⟨_,_,rfl,H59',⟨_,_,_,_,_,_,rfl,rfl,ho159,ho259,ho359⟩⟩
 have H:=H.readers (fp:=[]) (by simp) (PLe.refl _) H59'
 obtain⟨_,p159⟩:=ho159
 obtain⟨_,_,rfl⟩:=OwnS.shape p159
 obtain⟨_,p259⟩:=ho259
 obtain⟨_,_,rfl⟩:=OwnS.shape p259
 obtain⟨_,p359⟩:=ho359
 obtain⟨_,_,rfl⟩:=OwnS.shape p359
 refine⟨_,Z,?_⟩
 refine q4 H hd58 (r1 3 Z (xr H Z2 (w_eqDisk_c _ _ (H.lendSubL [0,1,2,10,11,12]) _ aD ⟨_,_,_,_,_,_,_,_,_,Z,(H.lendOHs (k:=10) (ks:=[0,1,2,10,11,12]) Z Z ⟨_,p148⟩),(H.lendOIs (k:=11) (ks:=[0,1,2,10,11,12]) Z Z ⟨_,p248⟩),(H.lendOSn (k:=12) (ks:=[0,1,2,10,11,12]) Z Z ⟨_,p348⟩)⟩ _ aD ⟨_,_,_,_,_,_,_,_,_,Z,(H.lendOHs (k:=0) (ks:=[0,1,2,10,11,12]) Z Z ⟨_,p159⟩),(H.lendOIs (k:=1) (ks:=[0,1,2,10,11,12]) Z Z ⟨_,p259⟩),(H.lendOSn (k:=2) (ks:=[0,1,2,10,11,12]) Z Z ⟨_,p359⟩)⟩ Z) ?_));intro _ H
 refine q4 H hd58 (dE 4 Z2 (rz (N_K (W_false Z (W_skip (N_K (W_seq (W_seq (W_drawK [3,7,9,13,14,15] 5 H kR Z ?_)))))))));intro _ H;have hd61:=PLe.refl G9
 refine RD_t 0 Z kR Z (fun _ hK=>v_loadagg_B 1 hK isAgg53 sizeOf53 Z Z Z Z) (RD_t 1 Z kR Z (fun _ hK=>v_loadagg_B 5 hK isAgg75 sizeOf75 Z Z Z Z) (r1 2 Z ?_))
 refine xc Z2 (w_toOp_c _ _ H.sub _ aOp ⟨_,_,_,Z,⟨by first|omega|(dsimp only;omega),by first|omega|(dsimp only;omega)⟩,hi2,hr2⟩) ?_
 rintro _ _ ⟨_,_,rfl,H62',⟨_,_,rfl,rfl,hO62⟩⟩
 have H:=H.readers (fp:=[]) (by simp) (PLe.refl _) H62'
 obtain⟨_,_,_,rfl,_,hi62,ho62⟩:=hO62
 refine⟨_,Z,?_⟩
 refine q4 H hd61 (r1 3 Z ?_)
 refine xr H Z2 (w_eqOp_c _ _ (H.lendSubL [0,9]) _ _ ⟨_,_,_,Z,⟨by first|omega|(dsimp only;omega),by first|omega|(dsimp only;omega)⟩,hi51,(H.lendOI (k:=9) (ks:=[0,9]) rfl rfl ho51)⟩ _ _ ⟨_,_,_,rfl,⟨by first|omega|(dsimp only;omega),by first|omega|(dsimp only;omega)⟩,hi62,(H.lendOI (k:=0) (ks:=[0,9]) rfl rfl ho62)⟩ rfl) ?_;intro _ H
 refine q4 H hd61 (dE 4 Z2 (rz (N_K (W_false Z (W_skip (N_K (q2 (aG Z (q1 (lA 10 3 H Z4 (mV Z ?_)))))))))))
 have H:=H.tF 13
 have H:=H.tF 13
 have H:=H.tF 13
 refine xc Z2 (w_markDisk_c _ _ H.sub _ _ _ _ _ _ aD ⟨_,p148⟩ ⟨_,p248⟩ ⟨_,p348⟩ _ H.lent3 oO) ?_
 rintro _ _ ⟨_,_,_,rfl,H64',⟨_,_,_,rfl,rfl,_,_,_⟩⟩
 have hr1:=hr1.up H64'.le
 have hr1':=hr1'.up H64'.le
 have hr1'':=hr1''.up H64'.le
 have hr2:=hr2.up H64'.le
 have hja8:=hja8.up H64'.le
 have hjb8:=hjb8.up H64'.le
 have hjc8:=hjc8.up H64'.le
 have H:=H.borrow3 H64'
 refine⟨_,Z,?_⟩
 refine aG Z (q1 (lA 11 3 H Z4 (mV Z ?_)))
 have H:=H.tF 12
 refine xc Z2 (w_markOp_c _ _ H.sub _ _ _ _ _ ho51 _ H.lent1 oO) ?_
 rintro _ _ ⟨_,_,_,rfl,H65',⟨_,rfl,rfl,_⟩⟩
 have hr1:=hr1.up H65'.le
 have hr1':=hr1'.up H65'.le
 have hr1'':=hr1''.up H65'.le
 have hr2:=hr2.up H65'.le
 have hja8:=hja8.up H65'.le
 have hjb8:=hjb8.up H65'.le
 have hjc8:=hjc8.up H65'.le
 have H:=H.borrow1 H65'
 refine⟨_,Z,?_⟩
 refine aG Z (q3 (W_seq (q2 (pe 3 Z ?_))))
 refine R_case (t:=72) Z ?_ ?_
 ·intro hc66
  try simp only[nrm]at hc66
  exact absurd (show False from by first|omega|(simp at hc66;done)|exact hc66 rfl) id
 intro hc66'
 try simp only[nrm]at hc66'
 refine gR Z (lA 8 3 H Z4 (gR Z (lA 14 3 H Z4 (gR Z (xr H Z2 (w_eqDisk_c _ _ (H.lendSubL [9,10,11]) _ ((Sp.OpRun aD aOp).getD ⟨[],[],[]⟩) ⟨_,_,_,_,_,_,_,_,_,Z,(H.lendOHs (k:=9) (ks:=[9,10,11]) Z Z ⟨_,p154⟩),(H.lendOIs (k:=10) (ks:=[9,10,11]) Z Z ⟨_,p254⟩),(H.lendOSn (k:=11) (ks:=[9,10,11]) Z Z ⟨_,p354⟩)⟩ _ ((Sp.OpRun aD aOp).getD ⟨[],[],[]⟩) ⟨_,_,_,_,_,_,_,_,_,Z,(hja8.up (PPlus.le _ _ _)),(hjb8.up (PPlus.le _ _ _)),(hjc8.up (PPlus.le _ _ _))⟩ Z) ?_)))));intro _ H
 refine pe 5 Z (gR Z (o_bneq_same underlying4 Z Z Z (pe 1 Z (q3 (W_false Z (W_skip (N_K (q2 (aG Z (q1 (lA 8 3 H Z4 (mV Z ?_))))))))))))
 have H:=H.tF 11
 have H:=H.tF 11
 have H:=H.tF 11
 refine xc Z2 (w_markDisk_c _ _ H.sub _ _ _ _ _ _ ((Sp.OpRun aD aOp).getD ⟨[],[],[]⟩) ⟨_,p154⟩ ⟨_,p254⟩ ⟨_,p354⟩ _ H.lent3 oO) ?_
 rintro _ _ ⟨G68,_,_,rfl,H68',⟨K168,K268,K368,rfl,rfl,hK168,hK268,hK368⟩⟩
 have hr1:=hr1.up H68'.le
 have hr1':=hr1'.up H68'.le
 have hr1'':=hr1''.up H68'.le
 have hr2:=hr2.up H68'.le
 have hja8:=hja8.up H68'.le
 have hjb8:=hjb8.up H68'.le
 have hjc8:=hjc8.up H68'.le
 have H:=H.borrow3 H68'
 refine⟨_,Z,?_⟩
 refine aG Z (q1 (aG Z (q1 (lA 11 3 H Z4 (mV Z (xr H Z2 (w_heldDisk_c _ _ (H.lendSubL [0,1,2]) _ (mDisk 1 ((Sp.OpRun aD aOp).getD ⟨[],[],[]⟩)) ⟨_,_,_,_,_,_,_,_,_,Z,(H.lendOHs (k:=0) (ks:=[0,1,2]) Z Z hK168),(H.lendOIs (k:=1) (ks:=[0,1,2]) Z Z hK268),(H.lendOSn (k:=2) (ks:=[0,1,2]) Z Z hK368)⟩ _ ((Sp.OpRun aD aOp).getD ⟨[],[],[]⟩) Z oO) ?_))))));intro _ H
 refine aG Z (q3 (W_seq (q2 (pe 2 Z (q3 ?_)))))
 refine W_cond Z ?_ ?_
 ·intro hc70
  try simp only[nrm]at hc70
  exact absurd (show False from by first|omega|(simp at hc70;done)|exact hc70 rfl) id
 intro hc70'
 try simp only[nrm]at hc70'
 refine W_skip (N_K (W_seq (q2 ?_)))
 have H:=H.sel [15,16,14,11,0,1,2] rfl
 refine pe 3 Z (q3 ?_)
 refine W_cond Z ?_ ?_
 ·intro hc71
  try simp only[nrm]at hc71
  exact absurd (show False from by first|omega|(simp at hc71;done)|exact hc71 rfl) id
 intro hc71'
 try simp only[nrm]at hc71'
 refine W_skip (N_K ?_)
 obtain⟨ljbj8,hljbj8,H⟩:=H.name (k:=2) rfl
 obtain⟨ljb55,hljb55,H⟩:=H.name (k:=3) rfl
 have hj72:=PLe.refl G68
 refine W_join (hf:=(Sub.cons (t:=4) Z (Sub.cons (t:=6) Z (Sub.cons (t:=7) Z (Sub.cons (t:=10) Z (Sub.cons (t:=13) Z (Sub.cons (t:=14) Z Sub.nil))))))) (J:=fun M w=>∃(bj31:Nat) (ja31 jb31 jc31:Value) (J131 J231 J331:Fr) (G:PH),M=[(15,.pointer (some ⟨bj31,0,none⟩)),(16,.bool (Sp.OpRun aD aOp).isSome)]∧PLe G68 G∧Hp w0 G0 [] w G [blk bj31 (cl [ja31,jb31,jc31] 27),frag J131,frag J231,frag J331,blk bj8 (cl ljbj8 27),blk b55 (cl ljb55 27),frag K168,frag K268,frag K368]∧(OHs J131 ja31 ((Sp.OpRun aD aOp).getD ⟨[],[],[]⟩).store∧OIs J231 jb31 ((Sp.OpRun aD aOp).getD ⟨[],[],[]⟩).tree∧OSn J331 jc31 ((Sp.OpRun aD aOp).getD ⟨[],[],[]⟩).snaps)) (first:=?_) (second:=?_)
 ·skip
  subst hljbj8
  subst hljb55
  refine W_drawK [0,1,2,3] 11 H kR Z ?_;intro _ H;have hd73:=PLe.refl G68
  refine RD_t 0 Z kR Z (fun _ hK=>v_loadagg_B 0 hK isAgg74 sizeOf74 Z Z Z Z) (RD_t 2 Z kR Z (fun _ hK=>v_loadagg_B 1 hK isAgg75 sizeOf75 Z Z Z Z) ?_)
  refine r2 1 8 Z2 ?_ ?_
  ·skip
   refine xc Z2 (w_toDisk_c _ _ H.sub _ aD ⟨_,_,_,_,_,_,_,_,_,Z,hr1,hr1',hr1''⟩) ?_
   rintro _ _ ⟨_,_,rfl,H74',⟨_,_,_,_,_,_,rfl,rfl,ho174,ho274,ho374⟩⟩
   have H:=H.readers (fp:=[]) (by simp) (PLe.refl _) H74'
   obtain⟨_,p174⟩:=ho174
   obtain⟨_,_,rfl⟩:=OwnS.shape p174
   obtain⟨_,p274⟩:=ho274
   obtain⟨_,_,rfl⟩:=OwnS.shape p274
   obtain⟨_,p374⟩:=ho374
   obtain⟨_,_,rfl⟩:=OwnS.shape p374
   refine⟨_,Z,?_⟩
   refine q4 H hd73 ?_
   refine r2 3 8 Z2 ?_ ?_
   ·skip
    refine xc Z2 (w_toOp_c _ _ H.sub _ aOp ⟨_,_,_,Z,⟨by first|omega|(dsimp only;omega),by first|omega|(dsimp only;omega)⟩,hi2,hr2⟩) ?_
    rintro _ _ ⟨_,_,rfl,H75',⟨_,_,rfl,rfl,hO75⟩⟩
    have H:=H.readers (fp:=[]) (by simp) (PLe.refl _) H75'
    obtain⟨_,_,_,rfl,_,hi75,ho75⟩:=hO75
    refine⟨_,Z,?_⟩
    refine q4 H hd73 ?_
    refine r2 4 8 Z2 ?_ ?_
    ·skip
     refine xc Z2 (i_OpRun_c _ _ (H.lendSubL [0,1,2,3]) _ aD ⟨_,_,_,_,_,_,_,_,_,Z,(H.lendOHs (k:=1) (ks:=[0,1,2,3]) Z Z ⟨_,p174⟩),(H.lendOIs (k:=2) (ks:=[0,1,2,3]) Z Z ⟨_,p274⟩),(H.lendOSn (k:=3) (ks:=[0,1,2,3]) Z Z ⟨_,p374⟩)⟩ _ _ ⟨_,_,_,Z,⟨by first|omega|(dsimp only;omega),by first|omega|(dsimp only;omega)⟩,hi75,(H.lendOI (k:=0) (ks:=[0,1,2,3]) rfl rfl ho75)⟩) ?_
     rintro _ _ ⟨_,_,rfl,H76',⟨_,_,_,_,_,_,rfl,rfl,ho176,ho276,ho376⟩⟩
     have H:=H.readersL H76'
     obtain⟨_,p176⟩:=ho176
     obtain⟨_,_,rfl⟩:=OwnS.shape p176
     obtain⟨_,p276⟩:=ho276
     obtain⟨_,_,rfl⟩:=OwnS.shape p276
     obtain⟨_,p376⟩:=ho376
     obtain⟨_,_,rfl⟩:=OwnS.shape p376
     refine⟨_,Z,?_⟩
     refine q4 H hd73 (dE 5 Z2 (dE 6 Z2 (dE 7 Z2 (r1 8 Z (xal H Z ?_)))));intro _ _ _ H
     refine q4 H hd73 (r1 9 Z (xst 0 H Z8 ?_));intro _ H
     refine q4 H hd73 (dE 10 Z2 (rz ?_))
     have H:=H.sel [0,1,2,3,10,11,12,13,14] rfl
     exact N_J ⟨_,_,_,_,_,_,_,_,Z,hj72,H,⟨⟨_,p176⟩,⟨_,p276⟩,⟨_,p376⟩⟩⟩
    skip
    refine xal H Z ?_;intro _ _ _ H
    refine q4 H hd73 (r1 4 Z ?_)
    refine xc Z2 (i_OpRun_c _ _ (H.lendSubL [1,2,3,4]) _ aD ⟨_,_,_,_,_,_,_,_,_,Z,(H.lendOHs (k:=2) (ks:=[1,2,3,4]) Z Z ⟨_,p174⟩),(H.lendOIs (k:=3) (ks:=[1,2,3,4]) Z Z ⟨_,p274⟩),(H.lendOSn (k:=4) (ks:=[1,2,3,4]) Z Z ⟨_,p374⟩)⟩ _ _ ⟨_,_,_,Z,⟨by first|omega|(dsimp only;omega),by first|omega|(dsimp only;omega)⟩,hi75,(H.lendOI (k:=1) (ks:=[1,2,3,4]) rfl rfl ho75)⟩) ?_
    rintro _ _ ⟨_,_,rfl,H80',⟨_,_,_,_,_,_,rfl,rfl,ho180,ho280,ho380⟩⟩
    have H:=H.readersL H80'
    obtain⟨_,p180⟩:=ho180
    obtain⟨_,_,rfl⟩:=OwnS.shape p180
    obtain⟨_,p280⟩:=ho280
    obtain⟨_,_,rfl⟩:=OwnS.shape p280
    obtain⟨_,p380⟩:=ho380
    obtain⟨_,_,rfl⟩:=OwnS.shape p380
    refine⟨_,Z,?_⟩
    refine q4 H hd73 (dE 5 Z2 (dE 6 Z2 (dE 7 Z2 (r1 9 Z (xst 3 H Z8 ?_)))));intro _ H
    refine q4 H hd73 (dE 10 Z2 (rz ?_))
    have H:=H.sel [3,0,1,2,10,11,12,13,14] rfl
    exact N_J ⟨_,_,_,_,_,_,_,_,Z,hj72,H,⟨⟨_,p180⟩,⟨_,p280⟩,⟨_,p380⟩⟩⟩
   skip
   refine xal H Z ?_;intro _ _ _ H
   refine q4 H hd73 (r1 3 Z ?_)
   refine xc Z2 (w_toOp_c _ _ H.sub _ aOp ⟨_,_,_,Z,⟨by first|omega|(dsimp only;omega),by first|omega|(dsimp only;omega)⟩,hi2,hr2⟩) ?_
   rintro _ _ ⟨_,_,rfl,H83',⟨_,_,rfl,rfl,hO83⟩⟩
   have H:=H.readers (fp:=[]) (by simp) (PLe.refl _) H83'
   obtain⟨_,_,_,rfl,_,hi83,ho83⟩:=hO83
   refine⟨_,Z,?_⟩
   refine q4 H hd73 (r1 4 Z ?_)
   refine xc Z2 (i_OpRun_c _ _ (H.lendSubL [0,2,3,4]) _ aD ⟨_,_,_,_,_,_,_,_,_,Z,(H.lendOHs (k:=2) (ks:=[0,2,3,4]) Z Z ⟨_,p174⟩),(H.lendOIs (k:=3) (ks:=[0,2,3,4]) Z Z ⟨_,p274⟩),(H.lendOSn (k:=4) (ks:=[0,2,3,4]) Z Z ⟨_,p374⟩)⟩ _ _ ⟨_,_,_,Z,⟨by first|omega|(dsimp only;omega),by first|omega|(dsimp only;omega)⟩,hi83,(H.lendOI (k:=0) (ks:=[0,2,3,4]) rfl rfl ho83)⟩) ?_
   rintro _ _ ⟨_,_,rfl,H84',⟨_,_,_,_,_,_,rfl,rfl,ho184,ho284,ho384⟩⟩
   have H:=H.readersL H84'
   obtain⟨_,p184⟩:=ho184
   obtain⟨_,_,rfl⟩:=OwnS.shape p184
   obtain⟨_,p284⟩:=ho284
   obtain⟨_,_,rfl⟩:=OwnS.shape p284
   obtain⟨_,p384⟩:=ho384
   obtain⟨_,_,rfl⟩:=OwnS.shape p384
   refine⟨_,Z,?_⟩
   refine q4 H hd73 (dE 5 Z2 (dE 6 Z2 (dE 7 Z2 (r1 9 Z (xst 4 H Z8 ?_)))));intro _ H
   refine q4 H hd73 (dE 10 Z2 (rz ?_))
   have H:=H.sel [4,0,1,2,10,11,12,13,14] rfl
   exact N_J ⟨_,_,_,_,_,_,_,_,Z,hj72,H,⟨⟨_,p184⟩,⟨_,p284⟩,⟨_,p384⟩⟩⟩
  skip
  refine xal H Z ?_;intro _ _ _ H
  refine q4 H hd73 (r1 1 Z (xc Z2 (w_toDisk_c _ _ H.sub _ aD ⟨_,_,_,_,_,_,_,_,_,Z,hr1,hr1',hr1''⟩) ?_))
  rintro _ _ ⟨_,_,rfl,H87',⟨_,_,_,_,_,_,rfl,rfl,ho187,ho287,ho387⟩⟩
  have H:=H.readers (fp:=[]) (by simp) (PLe.refl _) H87'
  obtain⟨_,p187⟩:=ho187
  obtain⟨_,_,rfl⟩:=OwnS.shape p187
  obtain⟨_,p287⟩:=ho287
  obtain⟨_,_,rfl⟩:=OwnS.shape p287
  obtain⟨_,p387⟩:=ho387
  obtain⟨_,_,rfl⟩:=OwnS.shape p387
  refine⟨_,Z,?_⟩
  refine q4 H hd73 (r1 3 Z ?_)
  refine xc Z2 (w_toOp_c _ _ H.sub _ aOp ⟨_,_,_,Z,⟨by first|omega|(dsimp only;omega),by first|omega|(dsimp only;omega)⟩,hi2,hr2⟩) ?_
  rintro _ _ ⟨_,_,rfl,H88',⟨_,_,rfl,rfl,hO88⟩⟩
  have H:=H.readers (fp:=[]) (by simp) (PLe.refl _) H88'
  obtain⟨_,_,_,rfl,_,hi88,ho88⟩:=hO88
  refine⟨_,Z,?_⟩
  refine q4 H hd73 (r1 4 Z ?_)
  refine xc Z2 (i_OpRun_c _ _ (H.lendSubL [0,1,2,3]) _ aD ⟨_,_,_,_,_,_,_,_,_,Z,(H.lendOHs (k:=1) (ks:=[0,1,2,3]) Z Z ⟨_,p187⟩),(H.lendOIs (k:=2) (ks:=[0,1,2,3]) Z Z ⟨_,p287⟩),(H.lendOSn (k:=3) (ks:=[0,1,2,3]) Z Z ⟨_,p387⟩)⟩ _ _ ⟨_,_,_,Z,⟨by first|omega|(dsimp only;omega),by first|omega|(dsimp only;omega)⟩,hi88,(H.lendOI (k:=0) (ks:=[0,1,2,3]) rfl rfl ho88)⟩) ?_
  rintro _ _ ⟨_,_,rfl,H89',⟨_,_,_,_,_,_,rfl,rfl,ho189,ho289,ho389⟩⟩
  have H:=H.readersL H89'
  obtain⟨_,p189⟩:=ho189
  obtain⟨_,_,rfl⟩:=OwnS.shape p189
  obtain⟨_,p289⟩:=ho289
  obtain⟨_,_,rfl⟩:=OwnS.shape p289
  obtain⟨_,p389⟩:=ho389
  obtain⟨_,_,rfl⟩:=OwnS.shape p389
  refine⟨_,Z,?_⟩
  refine q4 H hd73 (dE 5 Z2 (dE 6 Z2 (dE 7 Z2 (r1 9 Z (xst 7 H Z8 ?_)))));intro _ H
  refine q4 H hd73 (dE 10 Z2 (rz ?_))
  have H:=H.sel [7,0,1,2,10,11,12,13,14] rfl
  exact N_J ⟨_,_,_,_,_,_,_,_,Z,hj72,H,⟨⟨_,p189⟩,⟨_,p289⟩,⟨_,p389⟩⟩⟩
 rintro _ _ ⟨bj31,ja31,jb31,jc31,J131,J231,J331,_,rfl,hle72,H,hinv72⟩
 subst hljbj8
 subst hljb55
 have hja8:=hja8.up hle72
 have hjb8:=hjb8.up hle72
 have hjc8:=hjc8.up hle72
 obtain⟨hja31,hjb31,hjc31⟩:=hinv72;obtain⟨_,pj131⟩:=hja31;obtain⟨_,_,rfl⟩:=OwnS.shape pj131;obtain⟨_,pj231⟩:=hjb31;obtain⟨_,_,rfl⟩:=OwnS.shape pj231;obtain⟨_,pj331⟩:=hjc31;obtain⟨_,_,rfl⟩:=OwnS.shape pj331
 refine W_seq (q2 (lA 0 3 H Z4 (lA 4 3 H Z4 (xr H Z2 (w_eqDisk_c _ _ (H.lendSubL [1,2,3]) _ ((Sp.OpRun aD aOp).getD ⟨[],[],[]⟩) ⟨_,_,_,_,_,_,_,_,_,Z,(H.lendOHs (k:=1) (ks:=[1,2,3]) Z Z ⟨_,pj131⟩),(H.lendOIs (k:=2) (ks:=[1,2,3]) Z Z ⟨_,pj231⟩),(H.lendOSn (k:=3) (ks:=[1,2,3]) Z Z ⟨_,pj331⟩)⟩ _ ((Sp.OpRun aD aOp).getD ⟨[],[],[]⟩) ⟨_,_,_,_,_,_,_,_,_,Z,(hja8.up (PPlus.le _ _ _)),(hjb8.up (PPlus.le _ _ _)),(hjc8.up (PPlus.le _ _ _))⟩ Z) ?_))));intro _ H
 refine pe 4 Z (gR Z (o_bneq_same underlying4 Z Z Z (pe 1 Z (q3 (W_false Z (W_skip (N_K (q2 (aG Z (q1 (lA 5 3 H Z4 (mV Z (xr H Z2 (w_heldDisk_c _ _ (H.lendSubL [6,7,8]) _ (mDisk 1 ((Sp.OpRun aD aOp).getD ⟨[],[],[]⟩)) ⟨_,_,_,_,_,_,_,_,_,Z,(H.lendOHs (k:=6) (ks:=[6,7,8]) Z Z hK168),(H.lendOIs (k:=7) (ks:=[6,7,8]) Z Z hK268),(H.lendOSn (k:=8) (ks:=[6,7,8]) Z Z hK368)⟩ _ ((Sp.OpRun aD aOp).getD ⟨[],[],[]⟩) Z oO) ?_)))))))))))));intro _ H
 refine aG Z (q3 (W_seq (q2 (pe 2 Z (q3 ?_)))))
 refine W_cond Z ?_ ?_
 ·intro hc93
  try simp only[nrm]at hc93
  exact absurd (show False from by first|omega|(simp at hc93;done)|exact hc93 rfl) id
 intro hc93'
 try simp only[nrm]at hc93'
 refine W_skip (N_K (W_seq (q2 (pe 3 Z (q3 ?_)))))
 refine W_cond Z ?_ ?_
 ·intro hc94
  try simp only[nrm]at hc94
  exact absurd (show False from by first|omega|(simp at hc94;done)|exact hc94 rfl) id
 intro hc94'
 try simp only[nrm]at hc94'
 refine W_skip (N_K (q2 (aG Z (q3 (W_ret (rt1 results13 Z ?_))))))
 exact H.rets Z
end Go.Proofs.Tst
