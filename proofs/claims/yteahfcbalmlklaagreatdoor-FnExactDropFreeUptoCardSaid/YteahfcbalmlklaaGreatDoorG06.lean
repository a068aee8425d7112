/- Part 6 of the proof: contracts of functions of the program. Conditions: none. -/
import Derived.Test.YteahfcbalmlklaaGreatDoorProg
import Derived.Test.YteahfcbalmlklaaGreatDoorG02
import Derived.Test.YteahfcbalmlklaaGreatDoorG03
import Derived.Test.YteahfcbalmlklaaGreatDoorG04
import Derived.Test.YteahfcbalmlklaaGreatDoorG05
set_option linter.all false
set_option maxRecDepth 100000
set_option maxHeartbeats 8000000
namespace Go.Proofs.Tst
open Go Fw Tryz
theorem l31Before_c (w0:World)(G0:PH)(hG:PSub G0 w0)(ca:List Value)(a:BHold)(ha:holdE G0 a ca)(cb:List Value)(b:BHold)(hb:holdE G0 b cb) :
  Calls Tryz.prog 64 #[.agg ca.toArray,.agg cb.toArray] w0 (Rets w0 (.bool (Sp.l31Before a b))):=by
 obtain⟨rfl,hi1,hj1⟩:=ha;have hy_hi1:_≤16777216:=hi1;have hy_hj1:_≤16777216:=hj1
 obtain⟨rfl,hi2,hj2⟩:=hb;have hy_hi2:_≤16777216:=hi2;have hy_hj2:_≤16777216:=hj2
 have H:=Hp.init hG
 refine calls_of_W (l:=[_,_]) func64 Z ntmps64 Z (q2 (o_box H Z Z Z ?_));intro _ _ _ H
 refine o_box H Z Z Z ?_;intro _ _ _ H
 refine aG Z (q1 (fA 0 Z (lB 1 H Z3 (fA 0 Z (lB 0 H Z3 (o_slss Z Z Z (mV Z ?_)))))))
 refine R_case (t:=10) Z ?_ ?_
 ·intro hc5
  try simp only[nrm]at hc5
  refine pe 6 Z (R_pass Z (yl_un Z Z) (R_pass Z (yl_un Z Z) (R_pass Z (yl_un Z Z) (R_pass Z (yl_un Z Z) (R_pass Z (yl_un Z Z) (pe 3 Z (q3 (W_ret (rt1 results64 Z ?_)))))))))
  exact H.rets (congrArg Value.bool (by simp_all [Sp.l31Before]))
 intro hc5'
 try simp only[nrm]at hc5'
 refine gR Z (fA 0 Z (gR Z (lB 1 H Z3 (gR Z (fA 0 Z (gR Z (lB 0 H Z3 (gR Z (o_seql Z Z Z (pe 1 Z ?_))))))))))
 refine R_case (t:=16) Z ?_ ?_
 ·intro hc6
  try simp only[nrm]at hc6
  refine gR Z (fA 1 Z (gR Z (lB 1 H Z3 (gR Z (fA 1 Z (gR Z (lB 0 H Z3 (gR Z (o_slss Z Z Z (pe 3 Z (q3 (W_ret (rt1 results64 Z ?_)))))))))))))
  exact H.rets (congrArg Value.bool (by simp_all [Sp.l31Before]))
 intro hc6'
 try simp only[nrm]at hc6'
 refine pe 8 Z (q3 (W_ret (rt1 results64 Z ?_)))
 exact H.rets (congrArg Value.bool (by simp_all [Sp.l31Before]))
theorem l31Ok_c (w0:World)(G0:PH)(hG:PSub G0 w0)(ch:List Value)(h:BHold)(hh:holdE G0 h ch) :
  Calls Tryz.prog 63 #[.agg ch.toArray] w0 (Rets w0 (.bool (Sp.l31Ok h))):=by
 obtain⟨rfl,hi1,hj1⟩:=hh;have hy_hi1:_≤16777216:=hi1;have hy_hj1:_≤16777216:=hj1
 have H:=Hp.init hG
 refine calls_of_W (l:=[_]) func63 Z ntmps63 Z (q2 (o_box H Z Z Z ?_));intro _ _ _ H
 refine aG Z (q1 (fA 0 Z (lB 0 H Z3 (xr H Z2 (l1Word_c _ _ hi1) ?_))));intro _ H
 refine mV Z ?_
 refine R_case (t:=6) Z ?_ ?_
 ·intro hc4
  try simp only[nrm]at hc4
  refine gR Z (fA 1 Z (gR Z (lB 0 H Z3 (gR Z (xr H Z2 (l1Word_c _ _ hj1) ?_)))));intro _ H
  refine pe 2 Z (q3 (W_ret (rt1 results63 Z ?_)))
  exact H.rets (congrArg Value.bool (by simp_all [Sp.l31Ok]))
 intro hc4'
 try simp only[nrm]at hc4'
 refine pe 5 Z (q3 (W_ret (rt1 results63 Z ?_)))
 exact H.rets (congrArg Value.bool (by simp_all [Sp.l31Ok]))
theorem i_hvalid_c (w0:World)(G0:PH)(hG:PSub G0 w0)(ch:List Value)(h:BHold)(hh:holdE G0 h ch) :
  Calls Tryz.prog 58 #[.agg ch.toArray] w0 (Rets w0 (.bool (Sp.l31Ok h))):=by
 obtain⟨rfl,hi1,hj1⟩:=hh;have hy_hi1:_≤16777216:=hi1;have hy_hj1:_≤16777216:=hj1
 have H:=Hp.init hG
 refine calls_of_W (l:=[_]) func58 Z ntmps58 Z (q2 (o_box H Z Z Z ?_));intro _ _ _ H
 refine aG Z (q1 (fA 0 Z (lB 0 H Z3 (xr H Z2 (i_partValid_c _ _ hi1) ?_))));intro _ H
 refine mV Z ?_
 refine R_case (t:=6) Z ?_ ?_
 ·intro hc4
  try simp only[nrm]at hc4
  refine gR Z (fA 1 Z (gR Z (lB 0 H Z3 (gR Z (xr H Z2 (i_partValid_c _ _ hj1) ?_)))));intro _ H
  refine pe 2 Z (q3 (W_ret (rt1 results58 Z ?_)))
  exact H.rets (congrArg Value.bool (by simp_all [Sp.l31Ok]))
 intro hc4'
 try simp only[nrm]at hc4'
 refine pe 5 Z (q3 (W_ret (rt1 results58 Z ?_)))
 exact H.rets (congrArg Value.bool (by simp_all [Sp.l31Ok]))
theorem HoldsValid_c (w0:World)(G0:PH)(hG:PSub G0 w0)(vlist:Value)(list:List (BHold))(hlist:RdS LIM holdE 2 G0 vlist list) :
  Calls Tryz.prog 26 #[vlist] w0 (Rets w0 (.bool (Sp.HoldsValid list))):=by
 obtain⟨alist,klist,rfl⟩:=hlist.shape
 have hlimlist:list.length≤1099511627776:=hlist.lim
 have H:=Hp.init hG
 refine calls_of_W (l:=[.slice alist list.length klist]) func26 Z ntmps26 Z (q2 (aG Z (q3 (W_seq (q2 (aG Z (q3 (W_block ?_))))))))
 refine W_lp (hf:=(Sub.cons (t:=0) Z Sub.nil)) (J:=fun M w m=>∃(k:Nat) (G:PH),M=[(3,.int .i64 (k:Int))]∧PLe G0 G∧Hp w0 G0 [] w G []∧(k≤list.length∧∀j,j<k→Sp.holdOk list j=true)∧m=(list.length-k)) (h0:=⟨0,_,Z,PLe.refl _,H,?inv,Z⟩) (round:=?round)
 case inv=>exact⟨by omega,fun j hj=>by omega⟩
 case round =>
  rintro _ _ _ ⟨k,G1,rfl,hle1,H,hinv1,rfl⟩
  have hlist:=hlist.up hle1
  obtain⟨_,hall⟩:=hinv1
  refine W_seq (q2 (pe 2 Z (lN Z (pe 1 Z (q3 ?_)))))
  refine W_cond Z ?_ ?_
  ·intro hc2
   try simp only[nrm]at hc2
   refine W_skip (N_K (W_seq (W_block (W_seq (W_drawK [] 23 H kR Z ?_)))));intro _ H;have hd3:=PLe.refl G1
   refine dE 0 Z2 (dE 1 Z2 ?_)
   have hl4:=hlist.len
   obtain⟨_,_,z4,q4,ha4,hz4,hq4,hE4,hrow4,_⟩:=hlist.at (i:=k) oM
   clear hq4
   obtain⟨rfl,hi4,hj4⟩:=hE4;have hy_hi4:_≤16777216:=hi4;have hy_hj4:_≤16777216:=hj4
   refine dI 2 2 k ha4 Z3 Z (RD_t 3 Z kR Z (fun _ hK=>v_loadagg_P hK isAgg55 sizeOf55 Z hrow4 Z) (r1 4 Z (xr H Z2 (l31Ok_c _ _ H.sub _ _ ⟨Z,hi4,hj4⟩) ?_)));intro _ H
   refine q4 H hd3 (dE 5 Z2 (dE 6 Z2 ?_))
   refine RD_case (t:=16) Z ?_ ?_
   ·intro hc6
    try simp only[nrm]at hc6
    refine dE 7 Z2 (dE 8 Z2 (dE 9 Z2 (RD_pass 10 Z kR kR kR Z (yl_un Z Z) (RD_pass 11 Z kR kR kR Z (yl_un Z Z) (RD_pass 12 Z kR kR kR Z (yl_un Z Z) (RD_pass 13 Z kR kR kR Z (yl_un Z Z) (RD_pass 14 Z kR kR kR Z (yl_un Z Z) (RD_pass 15 Z kR kR kR Z (yl_un Z Z) (RD_pass 16 Z kR kR kR Z (yl_un Z Z) (RD_pass 17 Z kR kR kR Z (yl_un Z Z) (RD_pass 18 Z kR kR kR Z (yl_un Z Z) (RD_pass 19 Z kR kR kR Z (yl_un Z Z) (RD_pass 20 Z kR kR kR Z (yl_un Z Z) (dE 21 Z2 (dE 22 Z2 ?_)))))))))))))))
    refine rz (N_K (W_true Z (q2 (aG Z (q3 (W_ret (N_B_ret (N_K_ret (N_LP_ret (N_B_ret (N_K_ret (rt1 results26 Z ?_))))))))))))
    exact H.rets (congrArg Value.bool (by rw[Sp.HoldsValid,Sp.not_all_range (k:=k) oM (by rw[Sp.holdOk_at hz4];simp[Sp.prevH, *])];rfl))
   intro hc6'
   try simp only[nrm]at hc6'
   refine dE 7 Z2 (dE 8 Z2 (dE 9 Z2 ?_))
   refine RD_case (t:=19) Z ?_ ?_
   ·intro hc7
    try simp only[nrm]at hc7
    have hk0:k≠0:=by omega
    refine dE 10 Z2 (dE 11 Z2 (RD_tg 12 Z kR Z (yl Z Z) (fun _ hK=>v_sub Z Z oO) ?_))
    have hl9:=hlist.len
    obtain⟨_,_,_,_,ha9,_,hq9,hE9,hrow9,_⟩:=hlist.at (i:=(k-1)) oM
    clear hq9
    obtain⟨rfl,hi9,hj9⟩:=hE9;have hy_hi9:_≤16777216:=hi9;have hy_hj9:_≤16777216:=hj9
    refine dI 13 2 (k-1) ha9 Z3 oM (RD_tg 14 Z kR Z (yl Z Z) (fun _ hK=>v_loadagg_P hK isAgg55 sizeOf55 Z hrow9 Z) (dE 15 Z2 (dE 16 Z2 ?_)))
    have hl10:=hlist.len
    obtain⟨_,_,z10,_,ha10,hz10,hq10,hE10,hrow10,_⟩:=hlist.at (i:=k) oM
    clear hq10
    obtain⟨rfl,hi10,hj10⟩:=hE10;have hy_hi10:_≤16777216:=hi10;have hy_hj10:_≤16777216:=hj10
    have hzz10:z4=z10:=Option.some.inj (hz4.symm.trans hz10)
    subst hzz10
    refine dI 17 2 k ha10 Z3 Z (RD_tg 18 Z kR Z (yl Z Z) (fun _ hK=>v_loadagg_P hK isAgg55 sizeOf55 Z hrow10 Z) (r1 19 Z (gR Z (xr H Z2 (l31Before_c _ _ H.sub _ _ ⟨Z,hi9,hj9⟩ _ _ ⟨Z,hi10,hj10⟩) ?_))));intro _ H
    refine q4 H hd3 (dE 20 Z2 (dE 21 Z2 (dE 22 Z2 (rz (N_K ?_)))))
    refine W_cond Z ?_ ?_
    ·intro hc12
     try simp only[nrm]at hc12
     refine q2 (aG Z (q3 (W_ret (N_B_ret (N_K_ret (N_LP_ret (N_B_ret (N_K_ret (rt1 results26 Z ?_)))))))))
     exact H.rets (congrArg Value.bool (by rw[Sp.HoldsValid,Sp.not_all_range (k:=k) oM (by rw[Sp.holdOk_at hz4];simp[Sp.prevH, *])];rfl))
    intro hc12'
    try simp only[nrm]at hc12'
    refine W_skip (N_B (N_K (W_region (mV Z (aD Z2 (aG Z (R_nil ?_)))))))
    refine N_lp (hJ:=⟨k+1,_,Z,hle1,H,?inv,Z⟩) (hm:=?hm)
    case hm=>omega
    case inv=>exact⟨by omega,Sp.upto_succ hall (by rw[Sp.holdOk_at hz4];simp[Sp.prevH, *])⟩
   intro hc7'
   try simp only[nrm]at hc7'
   have hk0:k=0:=by omega
   refine dE 10 Z2 (dE 11 Z2 (dE 12 Z2 (dE 13 Z2 (dE 14 Z2 (dE 15 Z2 (dE 16 Z2 (dE 17 Z2 (dE 18 Z2 (dE 19 Z2 (dE 20 Z2 (dE 21 Z2 (dE 22 Z2 (rz (N_K (W_false Z ?_)))))))))))))))
   refine W_skip (N_B (N_K (W_region (mV Z (aD Z2 (aG Z (R_nil ?_)))))))
   refine N_lp (hJ:=⟨k+1,_,Z,hle1,H,?inv,Z⟩) (hm:=?hm)
   case hm=>omega
   case inv=>exact⟨by omega,Sp.upto_succ hall (by rw[Sp.holdOk_at hz4];simp[Sp.prevH, *])⟩
  intro hc2'
  try simp only[nrm]at hc2'
  refine W_exit (N_K_exit (N_LP_exit (N_B_same (N_K (q2 (mV Z (lN Z (pe 2 Z (q3 (W_ret (rt1 results26 Z ?_)))))))))))
  exact H.rets (congrArg Value.bool (by rw[Sp.HoldsValid,Sp.all_range (fun j hj=>hall j oM),Bool.true_and];rw[Bool.eq_iff_iff];simp;omega))
theorem i_HoldsValid_c (w0:World)(G0:PH)(hG:PSub G0 w0)(vlist:Value)(list:List (BHold))(hlist:RdS LIM holdE 2 G0 vlist list) :
  Calls Tryz.prog 33 #[vlist] w0 (Rets w0 (.bool (Sp.HoldsValid list))):=by
 obtain⟨alist,klist,rfl⟩:=hlist.shape
 have hlimlist:list.length≤1099511627776:=hlist.lim
 have H:=Hp.init hG
 refine calls_of_W (l:=[.slice alist list.length klist]) func33 Z ntmps33 Z (q2 (aG Z (q3 (W_seq (q2 (mV Z (lN Z (pe 1 Z (q3 ?_)))))))))
 refine W_cond Z ?_ ?_
 ·intro hc1
  try simp only[nrm]at hc1
  refine q2 (aG Z (q3 (W_ret (N_K_ret (rt1 results33 Z ?_)))))
  exact H.rets (congrArg Value.bool (by rw[Sp.HoldsValid,decide_eq_false (show¬list.length≤8 by omega)];simp))
 intro hc1'
 try simp only[nrm]at hc1'
 refine W_skip (N_K (W_seq (q2 (mV Z (lN Z (mV Z (q3 (W_block ?_))))))))
 refine W_lp (hf:=(Sub.cons (t:=0) Z (Sub.cons (t:=8) Z (Sub.cons (t:=9) Z Sub.nil)))) (J:=fun M w m=>∃(k:Nat) (G:PH),M=[(10,.int .i64 (k:Int))]∧PLe G0 G∧Hp w0 G0 [] w G []∧(k≤list.length∧∀j,j<k→Sp.holdOk list j=true)∧m=(list.length-k)) (h0:=⟨0,_,Z,PLe.refl _,H,?inv,Z⟩) (round:=?round)
 case inv=>exact⟨by omega,fun j hj=>by omega⟩
 case round =>
  rintro _ _ _ ⟨k,G2,rfl,hle2,H,hinv2,rfl⟩
  have hlist:=hlist.up hle2
  obtain⟨_,hall⟩:=hinv2
  refine q2 (pe 1 Z (q3 (W_seq ?_)))
  refine W_cond Z ?_ ?_
  ·intro hc3
   try simp only[nrm]at hc3
   refine W_skip (N_K (W_seq (W_block (q2 (mV Z (iP k hlist Z3 Z ?_))))));intro _ _ z4 q4 hz4 hE4 hrow4
   obtain⟨rfl,hi4,hj4⟩:=hE4;have hy_hi4:_≤16777216:=hi4;have hy_hj4:_≤16777216:=hj4
   refine o_loadagg_P H isAgg55 sizeOf55 Z Z hrow4 Z (xal H Z ?_);intro _ _ _ H
   refine aG Z (xst 0 H Z8 ?_);intro _ H
   refine q3 (W_seq (W_drawK [0] 17 H kR Z ?_));intro _ H;have hd7:=PLe.refl G2
   refine RD_t 0 Z kR Z (fun _ hK=>v_loadagg_B 0 hK isAgg55 sizeOf55 Z Z Z Z) (r1 1 Z (xr H Z2 (i_hvalid_c _ _ H.sub _ _ ⟨Z,hi4,hj4⟩) ?_));intro _ H
   refine q4 H hd7 (dE 2 Z2 (dE 3 Z2 ?_))
   refine RD_case (t:=18) Z ?_ ?_
   ·intro hc9
    try simp only[nrm]at hc9
    refine dE 4 Z2 (dE 5 Z2 (dE 6 Z2 (RD_pass 7 Z kR kR kR Z (yl_un Z Z) (RD_pass 8 Z kR kR kR Z (yl_un Z Z) (RD_pass 9 Z kR kR kR Z (yl_un Z Z) (RD_pass 10 Z kR kR kR Z (yl_un Z Z) (RD_pass 11 Z kR kR kR Z (yl_un Z Z) (RD_pass 12 Z kR kR kR Z (yl_un Z Z) (RD_pass 13 Z kR kR kR Z (yl_un Z Z) (RD_pass 14 Z kR kR kR Z (yl_un Z Z) (dE 15 Z2 (dE 16 Z2 (rz (N_K (W_true Z ?_)))))))))))))))
    refine q2 (aG Z (q3 (W_ret (N_B_ret (N_K_ret (N_LP_ret (N_B_ret (N_K_ret (rt1 results33 Z ?_)))))))))
    exact H.rets (congrArg Value.bool (by rw[Sp.HoldsValid,Sp.not_all_range (k:=k) oM (by rw[Sp.holdOk_at hz4];simp[Sp.prevH, *])];rfl))
   intro hc9'
   try simp only[nrm]at hc9'
   refine dE 4 Z2 (dE 5 Z2 (dE 6 Z2 ?_))
   refine RD_case (t:=21) Z ?_ ?_
   ·intro hc10
    try simp only[nrm]at hc10
    have hk0:k≠0:=by omega
    refine dE 7 Z2 (dE 8 Z2 (RD_tg 9 Z kR Z (yl Z Z) (fun _ hK=>v_sub Z Z oO) ?_))
    have hl12:=hlist.len
    obtain⟨_,_,z12,_,ha12,_,hq12,hE12,hrow12,_⟩:=hlist.at (i:=(k-1)) oM
    clear hq12
    obtain⟨rfl,hi12,hj12⟩:=hE12;have hy_hi12:_≤16777216:=hi12;have hy_hj12:_≤16777216:=hj12
    refine dI 10 2 (k-1) ha12 Z3 oM (RD_tg 11 Z kR Z (yl Z Z) (fun _ hK=>v_loadagg_P hK isAgg55 sizeOf55 Z hrow12 Z) (RD_tg 12 Z kR Z (yl Z Z) (fun _ hK=>v_loadagg_B 0 hK isAgg55 sizeOf55 Z Z Z Z) (r1 13 Z (gR Z (xr H Z2 (i_holdOrder_c _ _ H.sub _ _ ⟨Z,hi12,hj12⟩ _ _ ⟨Z,hi4,hj4⟩) ?_)))));intro _ H
    refine q4 H hd7 (dE 14 Z2 (dE 15 Z2 (dE 16 Z2 (rz (N_K ?_)))))
    refine W_cond Z ?_ ?_
    ·intro hc14
     try simp only[nrm]at hc14
     have hb9:Sp.l31Before z12 z4=false:=(by have h9:=cmpH_lt z12 z4;cases e:Sp.l31Before z12 z4 with |false=>rfl|true=>(have:=h9.2 e;omega))
     refine q2 (aG Z (q3 (W_ret (N_B_ret (N_K_ret (N_LP_ret (N_B_ret (N_K_ret (rt1 results33 Z ?_)))))))))
     exact H.rets (congrArg Value.bool (by rw[Sp.HoldsValid,Sp.not_all_range (k:=k) oM (by rw[Sp.holdOk_at hz4];simp[Sp.prevH, *])];rfl))
    intro hc14'
    try simp only[nrm]at hc14'
    have hb9:Sp.l31Before z12 z4=true:=(cmpH_lt z12 z4).1 oM
    refine W_skip (N_B (N_K (W_region (aD Z2 (mV Z (R_nil ?_))))))
    have H:=H.dl 0
    refine N_lp (hJ:=⟨k+1,_,Z,hle2,H,?inv,Z⟩) (hm:=?hm)
    case hm=>omega
    case inv=>exact⟨by omega,Sp.upto_succ hall (by rw[Sp.holdOk_at hz4];simp[Sp.prevH,hk0, *])⟩
   intro hc10'
   try simp only[nrm]at hc10'
   have hk0:k=0:=by omega
   refine dE 7 Z2 (dE 8 Z2 (dE 9 Z2 (dE 10 Z2 (dE 11 Z2 (dE 12 Z2 (dE 13 Z2 (dE 14 Z2 (dE 15 Z2 (dE 16 Z2 (rz (N_K (W_false Z (W_skip (N_B (N_K ?_)))))))))))))))
   refine W_region (aD Z2 (mV Z (R_nil ?_)))
   have H:=H.dl 0
   refine N_lp (hJ:=⟨k+1,_,Z,hle2,H,?inv,Z⟩) (hm:=?hm)
   case hm=>omega
   case inv=>exact⟨by omega,Sp.upto_succ hall (by rw[Sp.holdOk_at hz4];simp[Sp.prevH,hk0, *])⟩
  intro hc3'
  try simp only[nrm]at hc3'
  refine W_exit (N_K_exit (N_LP_exit (N_B_same (N_K (q2 (aG Z (q3 (W_ret (rt1 results33 Z ?_)))))))))
  exact H.rets (congrArg Value.bool (by rw[Sp.HoldsValid,Sp.all_range (fun j hj=>hall j oM),Bool.true_and];rw[Bool.eq_iff_iff];simp;omega))
theorem i_has_c (w0:World)(G0:PH)(hG:PSub G0 w0)(mbs:Nat)(ess:Array MapEntry)(cks:Nat)(Ls:List BHold)(hbs:MapAt G0 mbs ess cks)(hms:IsSet ess cks Ls)(ch:List Value)(h:BHold)(hh:holdE G0 h ch) :
  Calls Tryz.prog 96 #[.map (some mbs),.agg ch.toArray] w0 (Rets w0 (.bool (decide (h ∈ Ls)))):=by
 obtain⟨rfl,hi1,hj1⟩:=hh;have hy_hi1:_≤16777216:=hi1;have hy_hj1:_≤16777216:=hj1
 have H:=Hp.init hG
 refine calls_of_W (l:=[.map (some mbs),_]) func96 Z ntmps96 Z (q2 (o_box H Z Z Z ?_));intro _ _ _ H
 refine aG Z (q1 (mV Z (lA 0 2 H Z4 (o_hasH keyA (hbs.at H.sub) hms underlying84 zeroValue127 Z Z Z (pe 3 Z (xal H Z ?_))))));intro _ _ _ H
 refine xst 0 H Z8 ?_;intro _ H
 refine aG Z (q1 (pe 2 Z (q3 (W_ret (rt1 results96 Z ?_)))))
 exact H.rets Z
theorem i_put_c (w0:World)(G0:PH)(hG:PSub G0 w0)(mbs:Nat)(ess:Array MapEntry)(cks:Nat)(Ls:List BHold)(hms:IsSet ess cks Ls)(ch:List Value)(h:BHold)(hh:holdE G0 h ch)(hLent:Lent w0 G0 [blk mbs (.map ess cks)]) :
  Calls Tryz.prog 59 #[.map (some mbs),.agg ch.toArray] w0 (RetM w0 G0 [mbs] (fun G' v Bs=>∃(es':Array MapEntry) (ck':Nat) (L':List BHold),v= .bool (!decide (h ∈ Ls))∧Bs=[blk mbs (.map es' ck')]∧IsSet es' ck' L'∧L'=if h ∈ Ls then Ls else Ls++[h])):=by
 obtain⟨rfl,hi1,hj1⟩:=hh;have hy_hi1:_≤16777216:=hi1;have hy_hj1:_≤16777216:=hj1
 have H:Hp w0 G0 [mbs] w0 G0 [blk mbs (.map ess cks)]:=hLent.hp
 refine calls_of_W (l:=[.map (some mbs),_]) func59 Z ntmps59 Z (q2 (o_box H Z Z Z ?_));intro _ _ _ H
 refine aG Z (q3 (W_seq (q2 (mV Z (lA 0 2 H Z4 (xr H Z2 (i_has_c _ _ (H.lendSubL [1]) _ _ _ _ (H.lendPredL (k:=1) (ks:=[1]) Z Z) hms _ h ⟨Z,hi1,hj1⟩) ?_))))));intro _ H
 refine q3 ?_
 refine W_cond Z ?_ ?_
 ·intro hc4
  try simp only[nrm]at hc4
  refine q2 (aG Z (q3 (W_ret (N_K_ret (rt1 results59 Z ?_)))))
  have H:=H.dl 0
  exact H.retM ⟨_,_,_,congrArg Value.bool (by simp_all),rfl,hms,(by rw[if_pos (by simpa using hc4)])⟩
 intro hc4'
 try simp only[nrm]at hc4'
 refine W_skip (N_K (q2 (mV Z (lA 0 2 H Z4 (o_build bf127 Z Z Z (o_putH keyA (a:=h) 1 H Z hms underlying84 Z Z Z (by simpa using hc4') ?_))))));intro _ _ _ H hm5
 refine q1 (aG Z (q3 (W_ret (rt1 results59 Z ?_))))
 have H:=H.dl 0
 exact H.retM ⟨_,_,_,congrArg Value.bool (by simp_all),rfl,hm5,(by rw[if_neg (by simpa using hc4')])⟩
theorem i_openHolds_c (w0:World)(G0:PH)(hG:PSub G0 w0)(vlist:Value)(list:List (BHold))(hlist:RdS LIM holdE 2 G0 vlist list)(hLent:Lent w0 G0 []) :
  Calls Tryz.prog 55 #[vlist] w0 (RetM w0 G0 [] (fun G' v Bs=>(Sp.HoldsValid list=false∧v= .tuple #[.map none,.bool false]∧Bs=[])∨(Sp.HoldsValid list=true∧∃(mb:Nat) (es':Array MapEntry) (ck':Nat),v= .tuple #[.map (some mb),.bool true]∧Bs=[blk mb (.map es' ck')]∧IsSet es' ck' list))):=by
 obtain⟨alist,klist,rfl⟩:=hlist.shape
 have hlimlist:list.length≤1099511627776:=hlist.lim
 have H:Hp w0 G0 [] w0 G0 []:=hLent.hp
 refine calls_of_W (l:=[.slice alist list.length klist]) func55 Z ntmps55 Z (q2 (pe 2 Z (q3 (W_seq (q2 (mV Z (xr H Z2 (i_HoldsValid_c _ _ H.sub _ _ hlist) ?_)))))));intro _ H
 refine pe 1 Z (q3 ?_)
 refine W_cond Z ?_ ?_
 ·intro hc2
  try simp only[nrm]at hc2
  refine q2 (pe 2 Z (q3 (W_ret (N_K_ret (rt2 results55 Z Z ?_)))))
  exact H.retM (.inl ⟨by simpa using hc2,rfl,rfl⟩)
 intro hc2'
 try simp only[nrm]at hc2'
 have hvl:Sp.HoldsValid list=true:=by simpa using hc2'
 refine W_skip (N_K (q2 (o_makeMap H Z ?_)));intro b3 _ _ H
 have hm3:=IsSet.empty
 refine aG Z (q3 (W_seq (q2 (mV Z (lN Z (mV Z (q3 (W_block ?_))))))))
 refine W_lp (hf:=(Sub.cons (t:=2) Z (Sub.cons (t:=3) Z (Sub.cons (t:=4) Z (Sub.cons (t:=11) Z (Sub.cons (t:=12) Z Sub.nil)))))) (J:=fun M w m=>∃(esm0:Array MapEntry) (ckm0:Nat) (Lm0:List BHold) (k:Nat) (G:PH),M=[(13,.int .i64 (k:Int))]∧PLe G0 G∧Hp w0 G0 [] w G [blk b3 (.map esm0 ckm0)]∧(IsSet esm0 ckm0 Lm0∧k≤list.length∧Lm0=list.take k)∧m=(list.length-k)) (h0:=⟨_,_,[],0,_,Z,PLe.refl _,H,?inv,Z⟩) (round:=?round)
 case inv=>exact⟨hm3,(by exact⟨by omega,by simp⟩)⟩
 case round =>
  rintro _ _ _ ⟨esm0,ckm0,Lm0,k,_,rfl,hle4,H,hinv4,rfl⟩
  have hlist:=hlist.up hle4
  obtain⟨hm4_m0,hinv4⟩:=hinv4
  obtain⟨_,rfl⟩:=hinv4
  refine q2 (pe 1 Z (q3 (W_seq ?_)))
  refine W_cond Z ?_ ?_
  ·intro hc5
   try simp only[nrm]at hc5
   refine W_skip (N_K (W_seq (W_block (q2 (iP k hlist Z3 Z ?_)))));intro _ _ z6 _ hz6 hE6 hrow6
   obtain⟨rfl,hi6,hj6⟩:=hE6;have hy_hi6:_≤16777216:=hi6;have hy_hj6:_≤16777216:=hj6
   refine o_loadagg_P H isAgg55 sizeOf55 Z Z hrow6 Z (xal H Z ?_);intro _ _ _ H
   refine xst 0 H Z8 ?_;intro _ H
   refine q3 (W_region (mV Z (lA 0 2 H Z4 ?_)))
   have H:=H.tF 1
   refine xc Z2 (i_put_c _ _ H.sub _ _ _ _ hm4_m0 _ z6 ⟨Z,hi6,hj6⟩ H.lent1) ?_
   rintro _ _ ⟨_,_,_,rfl,H9',⟨_,_,L9,rfl,rfl,hm9,hL9⟩⟩
   have hle4:=hle4.trans H9'.le
   have H:=H.borrow1 H9'
   refine⟨_,Z,?_⟩
   refine R_nil (N_B (N_K (W_region (aD Z2 (mV Z (R_nil ?_))))))
   have hnn:=Sp.hv_nd hvl hz6
   have H:=H.dl 1
   refine N_lp (hJ:=⟨_,_,L9,k+1,_,Z,hle4,H,?inv,Z⟩) (hm:=?hm)
   case hm=>omega
   case inv=>exact⟨hm9,(by exact⟨by omega,by (rw[hL9,if_neg hnn,Sp.take_snoc hz6])⟩)⟩
  intro hc5'
  try simp only[nrm]at hc5'
  refine W_exit (N_K_exit (N_LP_exit (N_B_same (N_K (q2 (pe 3 Z (q3 (W_ret (rt2 results55 Z Z ?_)))))))))
  have hm9:=hm4_m0;rw[List.take_of_length_le oM]at hm9
  exact H.retM (.inr ⟨hvl,_,_,_,Z,Z,hm9⟩)
theorem i_HoldTags_c (w0:World)(G0:PH)(hG:PSub G0 w0)(vlist:Value)(list:List (BHold))(hlist:RdS LIM holdE 2 G0 vlist list)(snap:Bs)(hsnap:snap.length≤16777216) :
  Calls Tryz.prog 20 #[vlist,str snap] w0 (RetP w0 G0 (fun G v=>RdT G v (Sp.HoldTags list snap))):=by
 obtain⟨alist,klist,rfl⟩:=hlist.shape
 have hlimlist:list.length≤1099511627776:=hlist.lim
 have H:=Hp.init hG
 refine calls_of_W (l:=[.slice alist list.length klist,str snap]) func20 Z ntmps20 Z (q2 (aG Z (q1 (mV Z (xc Z2 (i_openHolds_c _ _ H.sub _ _ hlist H.lent0) ?_)))))
 rintro _ _ ⟨G1,_,_,rfl,H1',⟨_,rfl,rfl⟩|⟨_,_,_,_,rfl,rfl,hm1⟩⟩
 ·skip
  have H:=H.borrow0 H1'
  refine⟨_,Z,?_⟩
  refine pe 5 Z (q3 (W_seq (q2 (pe 2 Z (q3 (W_true Z (q2 (aG Z (q3 (W_ret (N_K_ret (rt1 results20 Z ?_))))))))))))
  have h9:Sp.HoldTags list snap=[]:=Sp.tags_no (by assumption)
  exact H.retP (by (rw[h9];exact RdS.nil _ _ _))
 skip
 have H:=H.borrow0 H1'
 refine⟨_,Z,?_⟩
 refine pe 5 Z (q3 (W_seq (q2 (pe 2 Z (q3 (W_false Z (W_skip (N_K (q2 (aG Z (q3 (W_seq (q2 ?_)))))))))))))
 have hvl:Sp.HoldsValid list=true:=by assumption
 have h8l:=(Sp.hvalid_iff.1 hvl).len
 refine mV Z (o_call call56 Z Z (sorted_h _ _ _ _ _ (H.at (k:=0) Z) hm1 oM) ?_);rintro _ w2 ⟨v2,xs2,rfl,ek2,hp2,hf2,hperm2,hsrt2⟩;have H:=H.add ek2 _ hp2 hf2 (acc_nd _ _ _ _ _)
 have hchk2:Chk holdE 2 G1 _ _:=chkH_of (xs:=xs2) (fun x hx=>(Sp.list_small hvl) x (hperm2.mem_iff.1 hx));obtain⟨av2,cv2,rfl⟩:=H.accShape (k:=0) rfl;refine⟨_,rfl,?_⟩
 refine lN Z (mV Z (q3 (W_block ?_)))
 obtain rfl:list=xs2:=(Sp.tags_sorted hvl hperm2 hsrt2).symm
 have H:=H.dl 1
 have H:=H.addNil 9 1
 refine W_lp (hf:=(Sub.cons (t:=1) Z (Sub.cons (t:=4) Z (Sub.cons (t:=18) Z (Sub.cons (t:=19) Z Sub.nil))))) (J:=fun M w m=>∃(v:Value) (n:Nat) (cs:List Value) (xs:List (Bs)) (k:Nat) (G:PH),M=[(20,.int .i64 (k:Int)),(7,v)]∧PLe G1 G∧Hp w0 G0 [] w G [acc 9 1 v n cs,acc 55 2 (.slice av2 list.length cv2) list.length (flatH list)]∧(Chk strE 1 G cs xs∧n=xs.length∧k≤list.length∧xs=((list.take k).filter (fun h=>decide (h.snap=snap))).map (·.tag)∧xs.length≤k)∧m=(list.length-k)) (h0:=⟨_,_,_,[],0,_,Z,PLe.refl _,H,?inv,Z⟩) (round:=?round)
 case inv=>exact⟨(Chk.nil (E:=strE) (sz:=1) (G:=G1)),by first|rfl|simp|(simp;omega)|omega,(by exact⟨by omega,by simp,by simp⟩)⟩
 case round =>
  rintro _ _ _ ⟨v,n,cs,xs,k,_,rfl,hle4,H,hinv4,rfl⟩
  have hchk2:=hchk2.up hle4
  obtain⟨hchk4_0,_,hinv4⟩:=hinv4
  obtain⟨_,_,rfl⟩:=H.accShape (k:=0) rfl
  obtain⟨_,hxs,_⟩:=hinv4
  refine q2 (pe 1 Z (q3 (W_seq ?_)))
  refine W_cond Z ?_ ?_
  ·intro hc5
   try simp only[nrm]at hc5
   refine W_skip (N_K (W_seq (W_block (q2 (o_index_A 1 H k Z hchk2 underlying38 sizeOf55 Z Z Z Z aN aN ?_)))));intro _ z6 _ hba6 hz6 hE6 hg6;cases hba6
   obtain⟨rfl,hi6,hj6⟩:=hE6;have hy_hi6:_≤16777216:=hi6;have hy_hj6:_≤16777216:=hj6
   refine o_loadagg_A 1 H isAgg55 sizeOf55 Z Z Z hg6 Z (xal H Z ?_);intro _ _ _ H
   refine xst 0 H Z8 ?_;intro _ H
   refine q1 (fA 0 Z (lB 0 H Z3 (mV Z (o_seql Z Z Z (q3 ?_)))))
   refine W_cond Z ?_ ?_
   ·intro hc9
    try simp only[nrm]at hc9
    refine W_region (mV Z (fA 1 Z (lB 0 H Z3 (xbs H Z7 ?_))));intro _ _ _ H
    refine o_append1 1 H (sz:=1) (bytes:=16) underlying49 typeInfo9 ⟨_,Z,Z⟩ Z Z Z Z Z Z Z Z Z Z oM Z ?_;intro _ _ H
    have hchk11:=hchk4_0.snoc (show strE _ z6.tag _ from⟨rfl,hj6⟩) rfl
    obtain⟨_,_,rfl⟩:=H.accShape (k:=1) rfl
    refine aG Z (R_nil (N_B (N_K (W_region (aD Z2 (mV Z (R_nil ?_)))))))
    have H:=H.dl 0
    refine N_lp (hJ:=⟨_,_,_,(xs++[z6.tag]),k+1,_,Z,hle4,H,?inv,Z⟩) (hm:=?hm)
    case hm=>omega
    case inv=>exact⟨hchk11,aN,(by exact⟨by omega,by (rw[hxs,Sp.tags_yes hz6 (by simpa using hc9)]),by (first|omega|(simp;omega))⟩)⟩
   intro hc9'
   try simp only[nrm]at hc9'
   refine W_skip (N_B (N_K (W_region (aD Z2 (mV Z (R_nil ?_))))))
   have H:=H.dl 0
   refine N_lp (hJ:=⟨_,_,_,xs,k+1,_,Z,hle4,H,?inv,Z⟩) (hm:=?hm)
   case hm=>omega
   case inv=>exact⟨hchk4_0,aN,(by exact⟨by omega,by (rw[hxs,Sp.tags_not hz6 (by simpa using hc9')]),by (first|omega|(simp;omega))⟩)⟩
  intro hc5'
  try simp only[nrm]at hc5'
  refine W_exit (N_K_exit (N_LP_exit (N_B_same (N_K (q2 (pe 2 Z (q3 (W_ret (rt1 results20 Z ?_)))))))))
  obtain⟨_,H,hsg515,hsr515⟩:=H.shut' (k:=0) rfl hchk4_0 aN aN
  have H:=H.dl 0
  have h9:Sp.HoldTags list snap=xs:=by (rw[Sp.tags_eq hvl,hxs,show k=list.length by omega,List.take_length])
  exact H.retP (by (rw[h9];exact hsr515))
theorem i_DropFree_c (w0:World)(G0:PH)(hG:PSub G0 w0)(cd:List Value)(d:BDisk)(hd:diskE G0 d cd)(vlist:Value)(list:List (BHold))(hlist:RdS LIM holdE 2 G0 vlist list)(snap:Bs)(hsnap:snap.length≤16777216) :
  Calls Tryz.prog 11 #[.agg cd.toArray,vlist,str snap] w0 (RetN w0 G0 (fun v Bs=>∃(v1 v2 v3:Value) (F1 F2 F3:Fr),v= .tuple #[.agg #[v1,v2,v3],.bool (Sp.DropFree d list snap).isSome]∧Bs=[frag F1,frag F2,frag F3]∧OHs F1 v1 ((Sp.DropFree d list snap).getD ⟨[],[],[]⟩).store∧OIs F2 v2 ((Sp.DropFree d list snap).getD ⟨[],[],[]⟩).tree∧OSn F3 v3 ((Sp.DropFree d list snap).getD ⟨[],[],[]⟩).snaps)):=by
 obtain⟨_,_,_,_,_,_,_,_,_,rfl,hr1,hr1',hr1'',⟨_,_⟩,⟨_,_⟩,_,_⟩:=ox hd
 obtain⟨alist,klist,rfl⟩:=hlist.shape
 have hlimlist:list.length≤1099511627776:=hlist.lim
 have H:=Hp.init hG
 refine calls_of_W (l:=[_,.slice alist list.length klist,str snap]) func11 Z ntmps11 Z (q2 (o_box H Z Z Z ?_));intro _ _ _ H
 refine xal H Z ?_;intro _ _ _ H
 refine aG Z (q3 (W_seq (q2 (mV Z (xr H Z2 (i_HoldsValid_c _ _ H.sub _ _ hlist) ?_)))));intro _ H
 refine pe 2 Z ?_
 refine R_case (t:=11) Z ?_ ?_
 ·intro hc5
  try simp only[nrm]at hc5
  refine pe 6 Z (q3 (W_true Z (q2 (o_build bf34 Z Z Z (xst 0 H Z8 ?_)))));intro _ H
  refine aG Z (q3 (W_ret (N_K_ret (ret_gen (rs:=[.cell 6 34,.tmp 7]) (vs:=[_,_]) results11 ⟨⟨_,Z,load_blk 0 H isAgg34 sizeOf34 Z Z Z⟩,Z,trivial⟩ ?_))))
  have H:=H.dl 0
  have H:=H.dl 0
  have hno:Sp.DropFree d list snap=none:=Sp.free_no (.inl (by simpa using hc5))
  have H:=(((H.addF).addF).addF).forget hG (by simp)
  refine⟨_,_,Z,H,.slice none 0 0,.slice none 0 0,.slice none 0 0,[],[],[],?_,Z,?_,?_,?_⟩
  ·(rw[hno];rfl)
  ·(rw[hno];exact oh_nil)
  ·(rw[hno];exact oi_nil)
  (rw[hno];exact os_nil)
 intro hc5'
 try simp only[nrm]at hc5'
 refine pe 2 Z (gR Z (xc Z2 (i_HoldTags_c _ _ H.sub _ _ hlist _ hsnap) ?_))
 rintro _ _ ⟨_,_,g7,rfl,hr7_0⟩
 have H:=H.grow g7
 have hr1:=hr1.up g7.le
 have hr1':=hr1'.up g7.le
 have hr1'':=hr1''.up g7.le
 obtain⟨_,_,rfl⟩:=hr7_0.shape;have hx_hr7_0:_≤1099511627776:=hr7_0.lim
 refine⟨_,Z,?_⟩
 refine gR Z (lN Z (pe 2 Z (q3 ?_)))
 refine W_cond Z ?_ ?_
 ·intro hc8
  try simp only[nrm]at hc8
  refine q2 (o_build bf34 Z Z Z (xst 0 H Z8 ?_));intro _ H
  refine aG Z (q3 (W_ret (N_K_ret (ret_gen (rs:=[.cell 6 34,.tmp 7]) (vs:=[_,_]) results11 ⟨⟨_,Z,load_blk 0 H isAgg34 sizeOf34 Z Z Z⟩,Z,trivial⟩ ?_))))
  have H:=H.dl 0
  have H:=H.dl 0
  have hno:Sp.DropFree d list snap=none:=Sp.free_no (.inr (fun h9=>(by have h8:(Sp.HoldTags list snap).length=0:=(by rw[h9];rfl);omega)))
  have H:=(((H.addF).addF).addF).forget hG (by simp)
  refine⟨_,_,Z,H,.slice none 0 0,.slice none 0 0,.slice none 0 0,[],[],[],?_,Z,?_,?_,?_⟩
  ·(rw[hno];rfl)
  ·(rw[hno];exact oh_nil)
  ·(rw[hno];exact oi_nil)
  (rw[hno];exact os_nil)
 intro hc8'
 try simp only[nrm]at hc8'
 refine W_skip (N_K (q2 (lA 1 3 H Z4 (mV Z (xc Z2 (i_SnapDrop_c _ _ H.sub _ d ⟨_,_,_,_,_,_,_,_,_,Z,hr1,hr1',hr1''⟩ _ hsnap) ?_)))))
 rintro _ _ ⟨_,_,rfl,H10',⟨_,_,_,E110,E210,E310,rfl,rfl,ho110,ho210,ho310⟩⟩
 have H:=H.readers (fp:=[]) (by simp) (PLe.refl _) H10'
 obtain⟨_,p110⟩:=ho110
 obtain⟨a110,c110,rfl⟩:=OwnS.shape p110
 obtain⟨_,p210⟩:=ho210
 obtain⟨a210,c210,rfl⟩:=OwnS.shape p210
 obtain⟨_,p310⟩:=ho310
 obtain⟨a310,c310,rfl⟩:=OwnS.shape p310
 refine⟨_,Z,?_⟩
 refine pe 2 Z (xst 3 H Z8 ?_);intro _ H
 refine aG Z (q3 (W_ret (ret_gen (rs:=[.cell 6 34,.tmp 7]) (vs:=[_,_]) results11 ⟨⟨_,Z,load_blk 3 H isAgg34 sizeOf34 Z Z Z⟩,Z,trivial⟩ ?_)))
 have H:=H.sel [0,1,2] rfl
 have hY:Sp.DropFree d list snap=Sp.SnapDrop d snap:=Sp.free_yes (by assumption) (List.eq_nil_of_length_eq_zero oM)
 have H:=H.forget hG (by simp)
 exact⟨_,_,rfl,H,.slice a110 ((Sp.SnapDrop d snap).getD ⟨[],[],[]⟩).store.length c110,.slice a210 ((Sp.SnapDrop d snap).getD ⟨[],[],[]⟩).tree.length c210,.slice a310 ((Sp.SnapDrop d snap).getD ⟨[],[],[]⟩).snaps.length c310,E110,E210,E310,(by rw[hY];rfl),rfl,(by rw[hY];exact⟨_,p110⟩),(by rw[hY];exact⟨_,p210⟩),(by rw[hY];exact⟨_,p310⟩)⟩
theorem w_szHold_c (w0:World)(G0:PH)(hG:PSub G0 w0)(ca:List Value)(a:BHold)(ha:holdE G0 a ca)(left:Int)(hl: -1≤left∧left≤1099511627776) :
  Calls Tryz.prog 25 #[.agg ca.toArray,.int .i64 left] w0 (RetV w0 (fun v=>∃r:Int,v= .int .i64 r∧(r= -1∨(0≤r∧r+(wHold a:Int)≤left)))):=by
 obtain⟨rfl,hi1,hj1⟩:=ha;have hy_hi1:_≤16777216:=hi1;have hy_hj1:_≤16777216:=hj1
 have H:=Hp.init hG
 refine calls_of_W (l:=[_,.int .i64 left]) func25 Z ntmps25 Z (q2 (o_box H Z Z Z ?_));intro _ _ _ H
 refine aG Z (q1 (mV Z (fA 0 Z (lB 0 H Z3 (lS Z (o_sub Z Z Z oO (aG Z (q3 (W_seq (q2 (pe 2 Z (q3 ?_))))))))))))
 refine W_cond Z ?_ ?_
 ·intro hc4
  try simp only[nrm]at hc4
  refine q2 (aG Z (q3 (W_ret (N_K_ret (rt1 results25 Z ?_)))))
  exact H.retV ⟨_,rfl,by first|omega|(simp only[wHold,wHolds]at *; omega)⟩
 intro hc4'
 try simp only[nrm]at hc4'
 refine W_skip (N_K (q2 (mV Z (fA 1 Z (lB 0 H Z3 (lS Z (o_sub Z Z Z oO (aG Z (q3 (W_seq (q2 (pe 2 Z (q3 ?_)))))))))))))
 refine W_cond Z ?_ ?_
 ·intro hc6
  try simp only[nrm]at hc6
  refine q2 (aG Z (q3 (W_ret (N_K_ret (rt1 results25 Z ?_)))))
  exact H.retV ⟨_,rfl,by first|omega|(simp only[wHold,wHolds]at *; omega)⟩
 intro hc6'
 try simp only[nrm]at hc6'
 refine W_skip (N_K (q2 (pe 2 Z (q3 (W_ret (rt1 results25 Z ?_))))))
 exact H.retV ⟨_,rfl,by first|omega|(simp only[wHold,wHolds]at *; omega)⟩
theorem w_szHoldS_c (w0:World)(G0:PH)(hG:PSub G0 w0)(va:Value)(a:List (BHold))(ha:RdS LIM holdE 2 G0 va a)(left:Int)(hl: -1≤left∧left≤1099511627776) :
  Calls Tryz.prog 7 #[va,.int .i64 left] w0 (RetV w0 (fun v=>∃r:Int,v= .int .i64 r∧(r= -1∨(0≤r∧r+(wHolds a:Int)≤left)))):=by
 obtain⟨aa,ka,rfl⟩:=ha.shape
 have hlima:a.length≤1099511627776:=ha.lim
 have H:=Hp.init hG
 refine calls_of_W (l:=[.slice aa a.length ka,.int .i64 left]) func7 Z ntmps7 Z (q2 (aG Z (q1 (pe 2 Z (lN Z (o_sub Z Z Z oO (aG Z (q3 (W_seq (q2 (pe 2 Z (q3 ?_))))))))))))
 refine W_cond Z ?_ ?_
 ·intro hc2
  try simp only[nrm]at hc2
  refine q2 (aG Z (q3 (W_ret (N_K_ret (rt1 results7 Z ?_)))))
  exact H.retV ⟨_,rfl,by first|omega|(simp only[wHold,wHolds]at *; omega)⟩
 intro hc2'
 try simp only[nrm]at hc2'
 refine W_skip (N_K (W_seq (q2 (aG Z (q3 (W_block ?_))))))
 refine W_lp (hf:=(Sub.cons (t:=0) Z Sub.nil)) (J:=fun M w m=>∃(k:Nat) (lf:Int) (G:PH),M=[(5,.int .i64 (k:Int)),(1,.int .i64 lf)]∧PLe G0 G∧Hp w0 G0 [] w G []∧(k≤a.length∧0≤lf∧lf+(a.length:Int)+(cnt wHold (a.take k):Int)≤left)∧m=(a.length-k)) (h0:=⟨0,(left-(a.length:Int)),_,Z,PLe.refl _,H,?inv,Z⟩) (round:=?round)
 case inv=>exact⟨by omega,by omega,by (simp only[List.take_zero,cnt];omega)⟩
 case round =>
  rintro _ _ _ ⟨k,lf,_,rfl,hle3,H,hinv3,rfl⟩
  have ha:=ha.up hle3
  obtain⟨_,_,_⟩:=hinv3
  refine W_seq (q2 (pe 2 Z (lN Z (pe 1 Z (q3 ?_)))))
  refine W_cond Z ?_ ?_
  ·intro hc4
   try simp only[nrm]at hc4
   refine W_skip (N_K (W_seq (W_block (q2 (pe 2 Z (iP k ha Z3 Z ?_))))));intro _ _ _ _ hz5 hE5 hrow5
   obtain⟨rfl,hi5,hj5⟩:=hE5;have hy_hi5:_≤16777216:=hi5;have hy_hj5:_≤16777216:=hj5
   refine o_loadagg_P H isAgg60 sizeOf60 Z Z hrow5 Z (mV Z (xc Z2 (w_szHold_c _ _ H.sub _ _ ⟨Z,hi5,hj5⟩ _ oO) ?_))
   rintro _ _ ⟨_,rfl,ew6,⟨r6,rfl,_⟩⟩
   skip
   have H:=H.step ew6;refine⟨_,rfl,?_⟩
   refine aG Z (q1 (pe 2 Z (q3 ?_)))
   refine W_cond Z ?_ ?_
   ·intro hc7
    try simp only[nrm]at hc7
    refine q2 (aG Z (q3 (W_ret (N_B_ret (N_K_ret (N_LP_ret (N_B_ret (N_K_ret (rt1 results7 Z ?_)))))))))
    exact H.retV ⟨_,rfl,by first|omega|(simp only[wHold,wHolds]at *; omega)⟩
   intro hc7'
   try simp only[nrm]at hc7'
   refine W_skip (N_B (N_K (W_region (mV Z (aD Z2 (aG Z (R_nil ?_)))))))
   refine N_lp (hJ:=⟨k+1,r6,_,Z,hle3,H,?inv,Z⟩) (hm:=?hm)
   case hm=>omega
   case inv=>exact⟨by omega,by omega,by (have hcs:=cnt_succ (c:=wHold) hz5;omega)⟩
  intro hc4'
  try simp only[nrm]at hc4'
  refine W_exit (N_K_exit (N_LP_exit (N_B_same (N_K (q2 (pe 2 Z (q3 (W_ret (rt1 results7 Z ?_)))))))))
  have hce:=cnt_end (c:=wHold) (show k=a.length by omega)
  exact H.retV ⟨_,rfl,by first|omega|(simp only[wHold,wHolds]at *; omega)⟩
theorem w_eqHold_c (w0:World)(G0:PH)(hG:PSub G0 w0)(ca:List Value)(a:BHold)(ha:holdE G0 a ca)(cb:List Value)(b:BHold)(hb:holdE G0 b cb)(hab:a=b) :
  Calls Tryz.prog 37 #[.agg ca.toArray,.agg cb.toArray] w0 (Rets w0 (.bool true)):=by
 obtain⟨rfl,hi1,hj1⟩:=ha;have hy_hi1:_≤16777216:=hi1;have hy_hj1:_≤16777216:=hj1
 obtain⟨rfl,hi2,hj2⟩:=hb;have hy_hi2:_≤16777216:=hi2;have hy_hj2:_≤16777216:=hj2
 have H:=Hp.init hG
 refine calls_of_W (l:=[_,_]) func37 Z ntmps37 Z (q2 (o_box H Z Z Z ?_));intro _ _ _ H
 refine o_box H Z Z Z ?_;intro _ _ _ H
 refine aG Z (q3 (W_seq (q2 (fA 0 Z (lB 1 H Z3 (fA 0 Z (lB 0 H Z3 (o_sneq Z Z Z (q3 ?_)))))))))
 refine W_cond Z ?_ ?_
 ·intro hc5
  try simp only[nrm]at hc5
  refine q2 (aG Z (q3 (W_ret (N_K_ret (rt1 results37 Z ?_)))))
  exact absurd (show False from by simp[hab]at hc5) id
 intro hc5'
 try simp only[nrm]at hc5'
 refine W_skip (N_K (W_seq (q2 (fA 1 Z (lB 1 H Z3 (fA 1 Z (lB 0 H Z3 (o_sneq Z Z Z (q3 ?_)))))))))
 refine W_cond Z ?_ ?_
 ·intro hc6
  try simp only[nrm]at hc6
  refine q2 (aG Z (q3 (W_ret (N_K_ret (rt1 results37 Z ?_)))))
  exact absurd (show False from by simp[hab]at hc6) id
 intro hc6'
 try simp only[nrm]at hc6'
 refine W_skip (N_K (q2 (aG Z (q3 (W_ret (rt1 results37 Z ?_))))))
 exact H.rets Z
theorem w_eqHoldS_c (w0:World)(G0:PH)(hG:PSub G0 w0)(va:Value)(a:List (BHold))(ha:RdS LIM holdE 2 G0 va a)(vb:Value)(b:List (BHold))(hb:RdS LIM holdE 2 G0 vb b)(hab:a=b) :
  Calls Tryz.prog 13 #[va,vb] w0 (Rets w0 (.bool true)):=by
 obtain⟨aa,ka,rfl⟩:=ha.shape
 have hlima:a.length≤1099511627776:=ha.lim
 obtain⟨ab,kb,rfl⟩:=hb.shape
 have hlimb:b.length≤1099511627776:=hb.lim
 have hle:=congrArg List.length hab
 have H:=Hp.init hG
 refine calls_of_W (l:=[.slice aa a.length ka,.slice ab b.length kb]) func13 Z ntmps13 Z (q2 (aG Z (q3 (W_seq (q2 (mV Z (lN Z (mV Z (lN Z (pe 1 Z (q3 ?_)))))))))))
 refine W_cond Z ?_ ?_
 ·intro hc1
  try simp only[nrm]at hc1
  refine q2 (aG Z (q3 (W_ret (N_K_ret (rt1 results13 Z ?_)))))
  exact absurd (show False from by omega) id
 intro hc1'
 try simp only[nrm]at hc1'
 refine W_skip (N_K (W_seq (q2 (aG Z (q3 (W_block ?_))))))
 refine W_lp (hf:=(Sub.cons (t:=0) Z (Sub.cons (t:=1) Z Sub.nil))) (J:=fun M w m=>∃(k:Nat) (G:PH),M=[(5,.int .i64 (k:Int))]∧PLe G0 G∧Hp w0 G0 [] w G []∧(k≤a.length)∧m=(a.length-k)) (h0:=⟨0,_,Z,PLe.refl _,H,?inv,Z⟩) (round:=?round)
 case inv=>omega
 case round =>
  rintro _ _ _ ⟨k,G2,rfl,hle2,H,hinv2,rfl⟩
  have ha:=ha.up hle2
  have hb:=hb.up hle2
  have hk:=hinv2
  refine W_seq (q2 (pe 2 Z (lN Z (pe 1 Z (q3 ?_)))))
  refine W_cond Z ?_ ?_
  ·intro hc3
   try simp only[nrm]at hc3
   refine W_skip (N_K (W_seq (W_block (W_seq (W_drawK [] 10 H kR Z ?_)))));intro _ H;have hd4:=PLe.refl G2
   refine dE 0 Z2 (dE 1 Z2 ?_)
   have hl5:=ha.len
   obtain⟨_,_,_,_,ha5,hz5,hq5,hE5,hrow5,_⟩:=ha.at (i:=k) oM
   clear hq5
   obtain⟨rfl,hi5,hj5⟩:=hE5;have hy_hi5:_≤16777216:=hi5;have hy_hj5:_≤16777216:=hj5
   refine dI 2 2 k ha5 Z3 Z (RD_t 3 Z kR Z (fun _ hK=>v_loadagg_P hK isAgg55 sizeOf55 Z hrow5 Z) (dE 4 Z2 (dE 5 Z2 ?_)))
   have hl6:=hb.len
   obtain⟨_,_,_,_,ha6,hz6,hq6,hE6,hrow6,_⟩:=hb.at (i:=k) oM
   clear hq6
   obtain⟨rfl,hi6,hj6⟩:=hE6;have hy_hi6:_≤16777216:=hi6;have hy_hj6:_≤16777216:=hj6
   refine dI 6 2 k ha6 Z3 Z (RD_t 7 Z kR Z (fun _ hK=>v_loadagg_P hK isAgg55 sizeOf55 Z hrow6 Z) (r1 8 Z (xr H Z2 (w_eqHold_c _ _ H.sub _ _ ⟨Z,hi5,hj5⟩ _ _ ⟨Z,hi6,hj6⟩ (Sp.same_at hab hz5 hz6)) ?_)));intro _ H
   refine q4 H hd4 (dE 9 Z2 (rz (N_K (W_false Z (W_skip (N_B (N_K (W_region (mV Z (aD Z2 (aG Z (R_nil ?_))))))))))))
   refine N_lp (hJ:=⟨k+1,_,Z,hle2,H,?inv,Z⟩) (hm:=?hm)
   case hm=>omega
   case inv=>omega
  intro hc3'
  try simp only[nrm]at hc3'
  refine W_exit (N_K_exit (N_LP_exit (N_B_same (N_K (q2 (aG Z (q3 (W_ret (rt1 results13 Z ?_)))))))))
  exact H.rets Z
theorem w_toHold_c (w0:World)(G0:PH)(hG:PSub G0 w0)(ca:List Value)(a:BHold)(ha:holdE G0 a ca) :
  Calls Tryz.prog 32 #[.agg ca.toArray] w0 (Rets w0 (.agg #[str a.snap,str a.tag])):=by
 obtain⟨rfl,hi1,hj1⟩:=ha;have hy_hi1:_≤16777216:=hi1;have hy_hj1:_≤16777216:=hj1
 have H:=Hp.init hG
 refine calls_of_W (l:=[_]) func32 Z ntmps32 Z (q2 (o_box H Z Z Z ?_));intro _ _ _ H
 refine xal H Z ?_;intro _ _ _ H
 refine q1 (xal H Z ?_);intro _ _ _ H
 refine q1 (fA 0 Z (lB 2 H Z3 (fA 0 Z (xst 0 H Z8 ?_))));intro _ H
 refine q1 (fA 1 Z (lB 2 H Z3 (fA 1 Z (xst 0 H Z8 ?_))));intro _ H
 refine q1 (lA 0 2 H Z4 (xst 1 H Z8 ?_));intro _ H
 refine q3 (W_ret (ret_gen (rs:=[.cell 2 55]) (vs:=[_]) results32 ⟨⟨_,Z,load_blk 1 H isAgg55 sizeOf55 Z Z Z⟩,trivial⟩ ?_))
 exact H.rets Z
theorem w_toHoldS_c (w0:World)(G0:PH)(hG:PSub G0 w0)(va:Value)(a:List (BHold))(ha:RdS LIM holdE 2 G0 va a) :
  Calls Tryz.prog 10 #[va] w0 (RetO w0 G0 (AccOf holdE 2 55 a)):=by
 obtain⟨aa,ka,rfl⟩:=ha.shape
 have hlima:a.length≤1099511627776:=ha.lim
 have H:=Hp.init hG
 refine calls_of_W (l:=[.slice aa a.length ka]) func10 Z ntmps10 Z (q2 (aG Z (q1 (mV Z (lN Z (o_makeN (c:=a.length) (sz:=2) (bytes:=32) H underlying38 typeInfo55 ⟨_,Z,Z⟩ Z Z Z Z Z Z Z Z Z oM Z ?_))))));intro _ _ H
 have hchk1:=Chk.rep (E:=holdE) (sz:=2) (G:=G0) (x0:=⟨[],[]⟩) (zeroHold _) rfl (a.length)
 refine aG Z (q3 (W_seq (q2 (aG Z (q3 (W_block ?_))))))
 refine W_lp (hf:=(Sub.cons (t:=0) Z (Sub.cons (t:=2) Z Sub.nil))) (J:=fun M w m=>∃(v:Value) (n:Nat) (cs:List Value) (xs:List (BHold)) (k:Nat) (G:PH),M=[(4,.int .i64 (k:Int)),(3,v)]∧PLe G0 G∧Hp w0 G0 [] w G [acc 55 2 v n cs]∧(Chk holdE 2 G cs xs∧n=xs.length∧k≤a.length∧xs.length=a.length∧xs.take k=a.take k)∧m=(a.length-k)) (h0:=⟨_,_,_,(List.replicate a.length ⟨[],[]⟩),0,_,Z,PLe.refl _,H,?inv,Z⟩) (round:=?round)
 case inv=>exact⟨hchk1,by first|rfl|simp|(simp;omega)|omega,(by simp)⟩
 case round =>
  rintro _ _ _ ⟨v,n,cs,xs,k,_,rfl,hle2,H,hinv2,rfl⟩
  have ha:=ha.up hle2
  obtain⟨hchk2_0,_,hinv2⟩:=hinv2
  obtain⟨_,_,rfl⟩:=H.accShape (k:=0) rfl
  obtain⟨_,hxl,hxt⟩:=hinv2
  refine W_seq (q2 (pe 2 Z (lN Z (pe 1 Z (q3 ?_)))))
  refine W_cond Z ?_ ?_
  ·intro hc3
   try simp only[nrm]at hc3
   refine W_skip (N_K (W_seq (W_block (W_region (pe 4 Z (iP k ha Z3 Z ?_))))));intro _ _ z4 _ hz4 hE4 hrow4
   obtain⟨rfl,hi4,hj4⟩:=hE4;have hy_hi4:_≤16777216:=hi4;have hy_hj4:_≤16777216:=hj4
   refine o_loadagg_P H isAgg60 sizeOf60 Z Z hrow4 Z (xr H Z2 (w_toHold_c _ _ H.sub _ z4 ⟨Z,hi4,hj4⟩) ?_);intro _ H
   refine o_index_A 0 H k Z hchk2_0 underlying38 sizeOf55 Z Z Z Z aN aN ?_;intro _ _ _ hba6 hz6 hE6 _;cases hba6
   obtain⟨rfl,hi6,hj6⟩:=hE6;have hy_hi6:_≤16777216:=hi6;have hy_hj6:_≤16777216:=hj6
   have hcl7:=hchk2_0.length
   refine o_store_A 0 H sizeOf55 Z Z Z Z Z (by simp only[vc,List.length_cons,List.length_nil];omega) ?_;intro _ H
   have hchk7:=hchk2_0.put (x':=z4) (off:=0) (vs:=[_,_]) hz6 (fun cs hl hE=>by (obtain⟨p,q,rfl⟩:∃p q,cs=[p,q]:=by (match cs,hl with |[p,q],_=>exact⟨p,q,rfl⟩));exact⟨rfl,(by (first|assumption|(refine Sp.l5Parent_lim ?_;assumption)|(simp;done)|(simp;omega)|omega)),(by (first|assumption|(refine Sp.l5Parent_lim ?_;assumption)|(simp;done)|(simp;omega)|omega))⟩) (by simp only[vc,List.length_cons,List.length_nil];omega)
   refine R_nil (N_B (N_K (W_region (mV Z (aD Z2 (aG Z (R_nil ?_)))))))
   refine N_lp (hJ:=⟨_,_,_,(xs.set k z4),k+1,_,Z,hle2,H,?inv,Z⟩) (hm:=?hm)
   case hm=>omega
   case inv=>exact⟨hchk7,aN,(by exact⟨by omega,by simp[hxl],Sp.take_set hxt hxl hz4⟩)⟩
  intro hc3'
  try simp only[nrm]at hc3'
  refine W_exit (N_K_exit (N_LP_exit (N_B_same (N_K (q2 (pe 2 Z (q3 (W_ret (rt1 results10 Z ?_)))))))))
  exact H.retO (k:=0) rfl (by (obtain rfl:k=a.length:=by omega);(have hxx:xs=a:=by (have h9:=hxt;rw[List.take_of_length_le oM,List.take_length]at h9;exact h9));subst hxx;exact AccOf.mk aN hchk2_0) (acc_nd _ _ _ _ _)
theorem w_markHoldS_c (w0:World)(G0:PH)(hG:PSub G0 w0)(va:Value)(a:List BHold)(ca:List Value)(hca:Chk holdE 2 G0 ca a)(k:Int)(hLent:Lent w0 G0 [acc 55 2 va a.length ca])(hb:0≤k∧k+2*(a.length:Int)≤2199023255552)(hal:a.length≤1099511627776) :
  Calls Tryz.prog 15 #[va,.int .i64 k] w0 (RetM w0 G0 (fps [acc 55 2 va a.length ca]) (fun G' v Bs=>∃(c':List Value) (L':List BHold),v= .int .i64 (k+2*(a.length:Int))∧Bs=[acc 55 2 va a.length c']∧Chk holdE 2 G' c' L'∧L'.length=a.length)):=by
 have H:Hp w0 G0 (fps [acc 55 2 va a.length ca]) w0 G0 [acc 55 2 va a.length ca]:=hLent.hp
 obtain⟨av,kv,rfl⟩:=H.accShape (k:=0) rfl
 refine calls_of_W (l:=[.slice av a.length kv,.int .i64 k]) func15 Z ntmps15 Z (q2 (aG Z (q3 (W_seq (q2 (aG Z (q3 (W_block ?_))))))))
 refine W_lp (hf:=(Sub.cons (t:=4) Z Sub.nil)) (J:=fun M w m=>∃(v:Value) (n:Nat) (cs:List Value) (xs:List (BHold)) (i:Nat) (kk:Int) (G:PH),M=[(5,.int .i64 (i:Int)),(1,.int .i64 kk),(0,v)]∧PLe G0 G∧Hp w0 G0 (fps [acc 55 2 (.slice av a.length kv) a.length ca]) w G [acc 55 2 v n cs]∧(Chk holdE 2 G cs xs∧n=xs.length∧i≤a.length∧xs.length=a.length∧kk=k+2*(i:Int)∧v= .slice av a.length kv)∧m=(a.length-i)) (h0:=⟨_,_,_,a,0,k,_,Z,PLe.refl _,H,?inv,Z⟩) (round:=?round)
 case inv=>exact⟨hca,by first|rfl|simp|(simp;omega)|omega,(by simp)⟩
 case round =>
  rintro _ _ _ ⟨v,n,cs,xs,i,kk,_,rfl,hle1,H,hinv1,rfl⟩
  obtain⟨hchk1_0,_,hinv1⟩:=hinv1
  obtain⟨_,_,rfl⟩:=H.accShape (k:=0) rfl
  obtain⟨_,hxl,_,hv⟩:=hinv1;have hmt:(mtext kk).length≤16777216:=(by have h9:=mtext_len (k:=kk) oM;omega);have hmu:(mtext (kk+1)).length≤16777216:=(by have h9:=mtext_len (k:=kk+1) oM;omega)
  refine W_seq (q2 (pe 2 Z (lN Z (pe 1 Z (q3 ?_)))))
  refine W_cond Z ?_ ?_
  ·intro hc2
   try simp only[nrm]at hc2
   refine W_skip (N_K (W_seq (W_block (q2 (pe 3 Z (xr H Z2 (w_markText_c _ _ oM) ?_))))));intro _ H
   refine o_index_A 0 H i Z hchk1_0 underlying38 sizeOf55 Z Z Z Z aN aN ?_;intro _ z4 _ hba4 hz4 hE4 _;cases hba4
   obtain⟨rfl,hi4,hj4⟩:=hE4;have hy_hi4:_≤16777216:=hi4;have hy_hj4:_≤16777216:=hj4
   refine fA 0 Z ?_
   have hcl5:=hchk1_0.length
   refine o_store_A 0 H sizeOf9 Z Z Z Z Z (by simp only[vc,List.length_cons,List.length_nil];omega) ?_;intro _ H
   have hchk5:=hchk1_0.put (x':=⟨mtext kk,z4.tag⟩) (off:=0) (vs:=[_]) hz4 (fun cs hl hE=>by obtain⟨rfl,h1,h2⟩:=hE;exact⟨rfl,(by (first|assumption|(refine Sp.l5Parent_lim ?_;assumption)|(simp;done)|(simp;omega)|omega)),h2⟩) (by simp only[vc,List.length_cons,List.length_nil];omega)
   refine q1 (mV Z (aD Z2 (aG Z (q1 (pe 3 Z (xr H Z2 (w_markText_c _ _ oM) ?_))))));intro _ H
   refine o_index_A 0 H i Z hchk5 underlying38 sizeOf55 Z Z Z Z aN aN ?_;intro _ z8 _ hba8 hz8 hE8 _;cases hba8
   obtain⟨rfl,hi8,hj8⟩:=hE8;have hy_hi8:_≤16777216:=hi8;have hy_hj8:_≤16777216:=hj8
   refine fA 1 Z ?_
   have hcl9:=hchk5.length
   simp only[length_setCs,List.length_set]at hcl9
   refine o_store_A 0 H sizeOf9 Z Z Z Z Z (by simp only[vc,List.length_cons,List.length_nil,length_setCs];omega) ?_;intro _ H
   have hchk9:=hchk5.put (x':=⟨z8.snap,mtext (kk+1)⟩) (off:=1) (vs:=[_]) hz8 (fun cs hl hE=>by obtain⟨rfl,h1,h2⟩:=hE;exact⟨rfl,h1,(by (first|assumption|(refine Sp.l5Parent_lim ?_;assumption)|(simp;done)|(simp;omega)|omega))⟩) (by simp only[vc,List.length_cons,List.length_nil];omega)
   refine q3 (W_region (mV Z (aD Z2 (aG Z (R_nil (N_B (N_K (W_region (mV Z (aD Z2 (aG Z (R_nil ?_))))))))))))
   refine N_lp (hJ:=⟨_,_,_,((xs.set i ⟨mtext kk,z4.tag⟩).set i ⟨z8.snap,mtext (kk+1)⟩),i+1,(kk+1+1),_,Z,hle1,H,?inv,Z⟩) (hm:=?hm)
   case hm=>omega
   case inv=>exact⟨hchk9,aN,(by exact⟨by omega,by simp[hxl],by omega,hv⟩)⟩
  intro hc2'
  try simp only[nrm]at hc2'
  refine W_exit (N_K_exit (N_LP_exit (N_B_same (N_K (q2 (pe 2 Z (q3 (W_ret (rt1 results15 Z ?_)))))))))
  obtain rfl:i=a.length:=by omega
  obtain⟨rfl,rfl,rfl⟩:_=av∧n=a.length∧_=kv:=(by simpa using hv)
  exact H.retM ⟨_,_,congrArg (Value.int .i64) oM,Z,hchk1_0,hxl⟩
theorem StoreDrop_c (w0:World)(G0:PH)(hG:PSub G0 w0)(vlist:Value)(list:List (BHeld))(hlist:RdH G0 vlist list)(id:Int) :
  Calls Tryz.prog 136 #[vlist,.int .i64 id] w0 (RetO w0 G0 (fun G v r=>∃u,v= .tuple #[u,.bool (Sp.StoreDrop list id).isSome]∧AccOf heldE 3 107 ((Sp.StoreDrop list id).getD []) G u r)):=by
 obtain⟨alist,klist,rfl⟩:=hlist.shape
 have hlimlist:list.length≤1099511627776:=hlist.lim
 have H:=Hp.init hG
 refine calls_of_W (l:=[.slice alist list.length klist,.int .i64 id]) func136 Z ntmps136 Z (q2 (pe 2 Z (q1 (pe 2 Z (xr H Z2 (l3At_c _ _ H.sub _ _ hlist _) ?_)))));intro _ H
 refine aG Z (q3 (W_seq (q2 (mV Z (xr H Z2 (StoreValid_c _ _ H.sub _ _ hlist) ?_)))));intro _ H
 refine pe 2 Z ?_
 refine R_case (t:=14) Z ?_ ?_
 ·intro hc3
  try simp only[nrm]at hc3
  refine pe 3 Z (q3 (W_true Z (q2 (xbs H Z7 ?_))));intro _ _ _ H
  have H:=H.blkAcc 3 (k:=0) (n:=0) rfl rfl (by decide)
  refine pe 2 Z (q3 (W_ret (N_K_ret (rt2 results136 Z Z ?_))))
  have hN:Sp.StoreDrop list id=none:=by simp[Sp.StoreDrop,hc3]
  exact H.retO (k:=0) rfl (by rw[hN];exact⟨_,rfl,AccOf.mk aN (Chk.nil (E:=heldE) (sz:=3) (G:=G0))⟩) (acc_nd _ _ _ _ _)
 intro hc3'
 try simp only[nrm]at hc3'
 refine pe 3 Z (q3 ?_)
 refine W_cond Z ?_ ?_
 ·intro hc5
  try simp only[nrm]at hc5
  refine q2 (xbs H Z7 ?_);intro _ _ _ H
  have H:=H.blkAcc 3 (k:=0) (n:=0) rfl rfl (by decide)
  refine pe 2 Z (q3 (W_ret (N_K_ret (rt2 results136 Z Z ?_))))
  have hN:Sp.StoreDrop list id=none:=by simp[Sp.StoreDrop,Sp.atH,Sp.at_none hc5]
  exact H.retO (k:=0) rfl (by rw[hN];exact⟨_,rfl,AccOf.mk aN (Chk.nil (E:=heldE) (sz:=3) (G:=G0))⟩) (acc_nd _ _ _ _ _)
 intro hc5'
 try simp only[nrm]at hc5'
 obtain⟨i,_,hi1,hi2,_,_,_⟩:=Sp.at_nat hc5'
 have hi2:Sp.l3At list id=(i:Int):=hi2
 have hl:Sp.atH list id=some i:=hi1
 refine W_skip (N_K (q2 (mV Z (xc Z2 (l3Copy_c _ _ H.sub _ _ hlist) ?_))))
 rintro _ _ ⟨G7,_,_,g7,rfl,⟨_,rfl,hchk7⟩,hp7,hq7,hs7⟩
 have H:=H.growO g7 hp7 hq7 hs7;obtain⟨_,_,rfl⟩:=H.accShape (k:=0) rfl
 refine⟨_,Z,?_⟩
 refine aG Z (q3 (W_seq (q2 (pe 2 Z (o_index_A 0 H i Z hchk7 underlying30 sizeOf107 Z Z Z hi2 aN aN ?_)))));intro _ z8 _ hba8 hz8 hE8 hg8;cases hba8
 obtain⟨_,_,_,rfl,_,_,_,_,_⟩:=ox hE8
 have hsv:=Sp.valid_at hc3' hz8
 refine fA 2 Z (o_load_A 0 H isAgg3 Z Z Z (hg8 2 _ Z) (pe 1 Z (q3 ?_)))
 refine W_cond Z ?_ ?_
 ·intro hc9
  try simp only[nrm]at hc9
  refine W_seq (W_drawK [] 10 H kR Z ?_);intro _ H;have hd10:=PLe.refl G7
  refine dE 0 Z2 (dE 1 Z2 ?_)
  have hac11:=H.accCap (k:=0) rfl
  refine RD_t 2 Z kR Z (fun _ hK=>v_slice_to (j:=i) underlying30 sizeOf107 Z Z hi2 oM) (dE 3 Z2 (dE 4 Z2 (RD_t 5 Z kR Z (fun _ hK=>v_add Z Z oO) ?_)))
  have hac13:=H.accCap (k:=0) rfl
  refine RD_t 6 Z kR Z (fun _ hK=>v_slice_from (i:=(i+1)) underlying30 sizeOf107 Z Z oM oM) (r1 7 Z ?_)
  refine o_append_del 0 H i Z hchk7 (by intro _ cs hz _ hu;obtain⟨_,_,_,rfl,_⟩:=hz;simp at hu;rcases hu with rfl|rfl|rfl<;>rfl) underlying30 typeInfo107 rfl rfl rfl rfl oM aN ?_;intro _ _ hb14 H hchk14;cases hb14
  refine q4 H hd10 (dE 8 Z2 (dE 9 Z2 (rz (N_K (W_ret (N_K_ret (rt2 results136 Z Z ?_)))))))
  have hY:Sp.StoreDrop list id=some (list.take i++list.drop (i+1)):=by simp[Sp.StoreDrop,hc3',hl,hz8,hc9]
  exact H.retO (k:=0) rfl (by rw[hY];exact⟨_,rfl,AccOf.mk aN hchk14⟩) (acc_nd _ _ _ _ _)
 intro hc9'
 try simp only[nrm]at hc9'
 refine W_skip (N_K (q2 (pe 4 Z (o_index_A 0 H i Z hchk7 underlying30 sizeOf107 Z Z Z hi2 aN aN ?_))));intro _ z15 _ hba15 hz15 hE15 hg15;cases hba15
 obtain⟨_,_,_,rfl,_,_,_,_,_⟩:=ox hE15
 have hzz15:z8=z15:=Option.some.inj (hz8.symm.trans hz15)
 subst hzz15
 refine fA 2 Z (o_load_A 0 H isAgg3 Z Z Z (hg15 2 _ Z) (o_sub Z Z Z oO (o_index_A 0 H i Z hchk7 underlying30 sizeOf107 Z Z Z hi2 aN aN ?_)));intro _ z17 _ hba17 hz17 hE17 _;cases hba17
 obtain⟨_,_,_,rfl,_,_,_,_,_⟩:=ox hE17
 have hzz17:z8=z17:=Option.some.inj (hz8.symm.trans hz17)
 subst hzz17
 refine fA 2 Z ?_
 have hcl18:=hchk7.length
 refine o_store_A 0 H sizeOf3 Z Z Z Z Z (by simp only[vc,List.length_cons,List.length_nil];omega) ?_;intro _ H
 have hchk18:=hchk7.put (x':=⟨z8.id,z8.bytes,z8.uses+(-1)⟩) (off:=2) (vs:=[_]) hz17 (fun cs hl hE=>by obtain⟨_,_,_,rfl,h1,h2,_⟩:=hE;exact⟨_,_,_,rfl,h1,h2,⟨by first|omega|(dsimp only;omega),by first|omega|(dsimp only;omega)⟩⟩) (by simp only[vc,List.length_cons,List.length_nil];omega)
 refine q1 (pe 3 Z (q3 (W_ret (rt2 results136 Z Z ?_))))
 have hY:Sp.StoreDrop list id=some (list.set i ⟨z8.id,z8.bytes,z8.uses+(-1)⟩):=by simp[Sp.StoreDrop,hc3',hl,hz8,hc9',Sp.bump_at hz8]
 exact H.retO (k:=0) rfl (by rw[hY];exact⟨_,rfl,AccOf.mk aN hchk18⟩) (acc_nd _ _ _ _ _)
theorem l4Ids_c (w0:World)(G0:PH)(hG:PSub G0 w0)(vlist:Value)(list:List (BHeld))(hlist:RdH G0 vlist list)(vids:Value)(ids:List (Int))(hids:RdI G0 vids ids) :
  Calls Tryz.prog 133 #[vlist,vids] w0 (Rets w0 (.bool (Sp.l4Ids list ids))):=by
 obtain⟨alist,klist,rfl⟩:=hlist.shape
 have hlimlist:list.length≤1099511627776:=hlist.lim
 obtain⟨aids,kids,rfl⟩:=hids.shape
 have hlimids:ids.length≤1099511627776:=hids.lim
 have H:=Hp.init hG
 refine calls_of_W (l:=[.slice alist list.length klist,.slice aids ids.length kids]) func133 Z ntmps133 Z (q2 (aG Z (q3 (W_seq (q2 (aG Z (q3 (W_block ?_))))))))
 refine W_lp (hf:=(Sub.cons (t:=0) Z (Sub.cons (t:=1) Z Sub.nil))) (J:=fun M w m=>∃(k:Nat) (G:PH),M=[(5,.int .i64 (k:Int))]∧PLe G0 G∧Hp w0 G0 [] w G []∧(k≤ids.length∧∀j,j<k→Sp.idsOk list ids j=true)∧m=(ids.length-k)) (h0:=⟨0,_,Z,PLe.refl _,H,?inv,Z⟩) (round:=?round)
 case inv=>exact⟨by omega,fun j hj=>by omega⟩
 case round =>
  rintro _ _ _ ⟨k,_,rfl,hle1,H,hinv1,rfl⟩
  have hlist:=hlist.up hle1
  have hids:=hids.up hle1
  obtain⟨_,hall⟩:=hinv1
  refine W_seq (q2 (pe 2 Z (lN Z (pe 1 Z (q3 ?_)))))
  refine W_cond Z ?_ ?_
  ·intro hc2
   try simp only[nrm]at hc2
   refine W_skip (N_K (W_seq (W_block (q2 (pe 3 Z (iP k hids Z3 Z ?_))))));intro _ _ z3 _ hz3 hE3 hrow3
   obtain⟨rfl,hi3⟩:=hE3
   refine lP H hrow3 0 Z2 (xr H Z2 (l3At_c _ _ H.sub _ _ hlist _) ?_);intro _ H
   refine aG Z (q1 (pe 3 Z ?_))
   refine R_case (t:=21) Z ?_ ?_
   ·intro hc5
    try simp only[nrm]at hc5
    refine pe 6 Z (R_pass Z (yl_un Z Z) (R_pass Z (yl_un Z Z) (R_pass Z (yl_un Z Z) (R_pass Z (yl_un Z Z) (R_pass Z (yl_un Z Z) (R_pass Z (yl_un Z Z) (R_pass Z (yl_un Z Z) (pe 2 Z (q3 (W_true Z (q2 (aG Z (q3 (W_ret (N_B_ret ?_)))))))))))))))
    refine N_K_ret (N_LP_ret (N_B_ret (N_K_ret (rt1 results133 Z ?_))))
    exact H.rets (congrArg Value.bool (by rw[Sp.l4Ids,Sp.not_all_range (k:=k) oM (by simp[Sp.idsOk,hz3,Sp.atH,Sp.at_none hc5])];rfl))
   intro hc5'
   try simp only[nrm]at hc5'
   obtain⟨i,x,hi1,hi2,hi3,hi4,_⟩:=Sp.at_nat hc5'
   have hl:Sp.atH list z3=some i:=hi1
   refine pe 1 Z (gR Z (aD Z2 (pe 1 Z (gR Z (lN Z (pe 2 Z ?_))))))
   refine R_case (t:=27) Z ?_ ?_
   ·intro hc7
    try simp only[nrm]at hc7
    refine pe 2 Z (gR Z (iP i hlist Z3 hi2 ?_));intro _ _ z8 _ hz8 hE8 hrow8
    obtain⟨_,_,_,rfl,_,_,_,_,_⟩:=ox hE8
    have hzz:x=z8:=Option.some.inj (hi4.symm.trans hz8)
    subst hzz
    refine gR Z (fA 1 Z (gR Z (lP H hrow8 1 Z2 (gR Z (lN Z (pe 3 Z (q3 ?_)))))))
    refine W_cond Z ?_ ?_
    ·intro hc9
     try simp only[nrm]at hc9
     refine q2 (aG Z (q3 (W_ret (N_B_ret (N_K_ret (N_LP_ret (N_B_ret (N_K_ret (rt1 results133 Z ?_)))))))))
     exact H.rets (congrArg Value.bool (by rw[Sp.l4Ids,Sp.not_all_range (k:=k) oM (by simp[Sp.idsOk,hz3,hl,hi4];omega)];rfl))
    intro hc9'
    try simp only[nrm]at hc9'
    refine W_skip (N_B (N_K (W_region (mV Z (aD Z2 (aG Z (R_nil ?_)))))))
    refine N_lp (hJ:=⟨k+1,_,Z,hle1,H,?inv,Z⟩) (hm:=?hm)
    case hm=>omega
    case inv=>exact⟨by omega,Sp.upto_succ hall (by simp[Sp.idsOk,hz3,hl,hi4];omega)⟩
   intro hc7'
   try simp only[nrm]at hc7'
   refine pe 9 Z (q3 (W_false Z (W_skip (N_B (N_K (W_region (mV Z (aD Z2 (aG Z (R_nil ?_))))))))))
   refine N_lp (hJ:=⟨k+1,_,Z,hle1,H,?inv,Z⟩) (hm:=?hm)
   case hm=>omega
   case inv=>exact⟨by omega,Sp.upto_succ hall (by simp[Sp.idsOk,hz3,hl,hi4];omega)⟩
  intro hc2'
  try simp only[nrm]at hc2'
  refine W_exit (N_K_exit (N_LP_exit (N_B_same (N_K (q2 (mV Z (lN Z (pe 2 Z (q3 (W_ret (rt1 results133 Z ?_)))))))))))
  exact H.rets (congrArg Value.bool (by rw[Sp.l4Ids,Sp.all_range (fun j hj=>hall j oM),Bool.true_and];rw[Bool.eq_iff_iff];simp;omega))
theorem FileFree_c (w0:World)(G0:PH)(hG:PSub G0 w0)(vlist:Value)(list:List (BHeld))(hlist:RdH G0 vlist list)(vids:Value)(ids:List (Int))(hids:RdI G0 vids ids) :
  Calls Tryz.prog 106 #[vlist,vids] w0 (RetO w0 G0 (fun G v r=>∃u,v= .tuple #[u,.bool (Sp.FileFree list ids).isSome]∧AccOf heldE 3 107 ((Sp.FileFree list ids).getD []) G u r)):=by
 obtain⟨alist,klist,rfl⟩:=hlist.shape
 have hlimlist:list.length≤1099511627776:=hlist.lim
 obtain⟨aids,kids,rfl⟩:=hids.shape
 have hlimids:ids.length≤1099511627776:=hids.lim
 have H:=Hp.init hG
 refine calls_of_W (l:=[.slice alist list.length klist,.slice aids ids.length kids]) func106 Z ntmps106 Z (q2 (pe 2 Z (q3 (W_seq (q2 (mV Z (xr H Z2 (StoreValid_c _ _ H.sub _ _ hlist) ?_)))))));intro _ H
 refine pe 2 Z ?_
 refine R_case (t:=13) Z ?_ ?_
 ·intro hc2
  try simp only[nrm]at hc2
  refine pe 5 Z (q3 (W_true Z (q2 (xbs H Z7 ?_))));intro _ _ _ H
  have H:=H.blkAcc 3 (k:=0) (n:=0) rfl rfl (by decide)
  refine pe 2 Z (q3 (W_ret (N_K_ret (rt2 results106 Z Z ?_))))
  have hN:Sp.FileFree list ids=none:=by simp[Sp.FileFree,hc2]
  exact H.retO (k:=0) rfl (by rw[hN];exact⟨_,rfl,AccOf.mk aN (Chk.nil (E:=heldE) (sz:=3) (G:=G0))⟩) (acc_nd _ _ _ _ _)
 intro hc2'
 try simp only[nrm]at hc2'
 refine pe 2 Z (gR Z (xr H Z2 (l4Ids_c _ _ H.sub _ _ hlist _ _ hids) ?_));intro _ H
 refine pe 2 Z (q3 ?_)
 refine W_cond Z ?_ ?_
 ·intro hc5
  try simp only[nrm]at hc5
  refine q2 (xbs H Z7 ?_);intro _ _ _ H
  have H:=H.blkAcc 3 (k:=0) (n:=0) rfl rfl (by decide)
  refine pe 2 Z (q3 (W_ret (N_K_ret (rt2 results106 Z Z ?_))))
  have hN:Sp.FileFree list ids=none:=by simp[Sp.FileFree,hc5]
  exact H.retO (k:=0) rfl (by rw[hN];exact⟨_,rfl,AccOf.mk aN (Chk.nil (E:=heldE) (sz:=3) (G:=G0))⟩) (acc_nd _ _ _ _ _)
 intro hc5'
 try simp only[nrm]at hc5'
 refine W_skip (N_K (q2 (mV Z (xc Z2 (l3Copy_c _ _ H.sub _ _ hlist) ?_))))
 rintro _ _ ⟨G7,_,_,g7,rfl,⟨_,rfl,hchk7⟩,hp7,hq7,hs7⟩
 have H:=H.growO g7 hp7 hq7 hs7;obtain⟨_,_,rfl⟩:=H.accShape (k:=0) rfl
 have hids:=hids.up g7.le
 refine⟨_,Z,?_⟩
 refine aG Z (q3 (W_seq (q2 (aG Z (q3 (W_block ?_))))))
 refine W_lp (hf:=(Sub.cons (t:=1) Z Sub.nil)) (J:=fun M w m=>∃(v:Value) (n:Nat) (cs:List Value) (xs:List (BHeld)) (k:Nat) (G:PH),M=[(7,.int .i64 (k:Int)),(6,v)]∧PLe G7 G∧Hp w0 G0 [] w G [acc 107 3 v n cs]∧(Chk heldE 3 G cs xs∧n=xs.length∧k≤ids.length∧xs.length≤1000∧Sp.foldB Sp.StoreDrop (ids.take k) (some list)=some xs)∧m=(ids.length-k)) (h0:=⟨_,_,_,list,0,_,Z,PLe.refl _,H,?inv,Z⟩) (round:=?round)
 case inv=>exact⟨hchk7,by first|rfl|simp|(simp;omega)|omega,(by exact⟨by omega,by have:=Sp.valid_len hc2';omega,by simp[Sp.foldB]⟩)⟩
 case round =>
  rintro _ _ _ ⟨v,n,cs,xs,k,_,rfl,hle8,H,hinv8,rfl⟩
  have hids:=hids.up hle8
  obtain⟨hchk8_0,_,hinv8⟩:=hinv8
  obtain⟨_,_,rfl⟩:=H.accShape (k:=0) rfl
  obtain⟨_,_,hf⟩:=hinv8
  refine W_seq (q2 (pe 2 Z (lN Z (pe 1 Z (q3 ?_)))))
  refine W_cond Z ?_ ?_
  ·intro hc9
   try simp only[nrm]at hc9
   refine W_skip (N_K (W_seq (W_block (q2 (pe 3 Z (iP k hids Z3 Z ?_))))));intro _ _ z10 _ hz10 hE10 hrow10
   obtain⟨rfl,_⟩:=hE10
   refine lP H hrow10 0 Z2 ?_
   obtain⟨_,H,hsg12,hsr12⟩:=H.shut' (k:=0) rfl hchk8_0 aN aN
   have hle8:=hle8.trans hsg12
   refine xc Z2 (StoreDrop_c _ _ H.sub _ _ hsr12 _) ?_
   rintro _ _ ⟨G11,_,_,g11,rfl,⟨_,rfl,⟨_,rfl,hchk11⟩⟩,hp11,hq11,hs11⟩
   have H:=H.growO g11 hp11 hq11 hs11;obtain⟨_,_,rfl⟩:=H.accShape (k:=0) rfl
   have hle8:=hle8.trans g11.le
   refine⟨_,Z,?_⟩
   refine pe 5 Z (q3 (W_seq (q2 (pe 2 Z (q3 ?_)))))
   refine W_cond Z ?_ ?_
   ·intro hc13
    try simp only[nrm]at hc13
    refine q2 (xbs H Z7 ?_);intro _ _ _ H
    have H:=H.blkAcc 3 (k:=0) (n:=0) rfl rfl (by decide)
    refine pe 2 Z (q3 (W_ret (N_K_ret (N_B_ret (N_K_ret (N_LP_ret (N_B_ret (N_K_ret (rt2 results106 Z Z ?_)))))))))
    have hN:Sp.FileFree list ids=none:=by (have hno:Sp.StoreDrop xs z10=none:=by simpa using hc13);simp only[Sp.FileFree,hc2',hc5',Bool.and_self,if_true];exact Sp.foldB_stop hf hz10 hno
    exact H.retO (k:=0) rfl (by rw[hN];exact⟨_,rfl,AccOf.mk aN (Chk.nil (E:=heldE) (sz:=3) (G:=G11))⟩) (acc_nd _ _ _ _ _)
   intro hc13'
   try simp only[nrm]at hc13'
   obtain⟨p,hsp⟩:=Option.isSome_iff_exists.1 hc13'
   rw[hsp]at H hchk11 ⊢
   dsimp only[Option.map,Option.getD]at H hchk11
   refine W_skip (N_K (W_region (pe 2 Z (R_nil (N_B (N_K (W_region (mV Z (aD Z2 (aG Z (R_nil ?_)))))))))))
   refine N_lp (hJ:=⟨_,_,_,p,k+1,_,Z,hle8,H,?inv,Z⟩) (hm:=?hm)
   case hm=>omega
   case inv=>exact⟨hchk11,aN,(by exact⟨by omega,by have:=Sp.drop_len hsp;omega,Sp.foldB_succ hf hz10 hsp⟩)⟩
  intro hc9'
  try simp only[nrm]at hc9'
  refine W_exit (N_K_exit (N_LP_exit (N_B_same (N_K (q2 (pe 3 Z (q3 (W_ret (rt2 results106 Z Z ?_)))))))))
  have hY:Sp.FileFree list ids=some xs:=by simp only[Sp.FileFree,hc2',hc5',Bool.and_self,if_true];exact Sp.foldB_all hf oM
  exact H.retO (k:=0) rfl (by rw[hY];exact⟨_,rfl,AccOf.mk aN hchk8_0⟩) (acc_nd _ _ _ _ _)
theorem l5Copy_c (w0:World)(G0:PH)(hG:PSub G0 w0)(cx:List Value)(x:BItem)(hx:itemE G0 x cx) :
  Calls Tryz.prog 135 #[.agg cx.toArray] w0 (RetP w0 G0 (fun G v=>∃cs,v= .agg cs.toArray∧itemE G x cs)):=by
 obtain⟨_,_,_,rfl,hi1,hr1,_,_⟩:=ox hx
 have H:=Hp.init hG
 refine calls_of_W (l:=[_]) func135 Z ntmps135 Z (q2 (o_box H Z Z Z ?_));intro _ _ _ H
 refine xal H Z ?_;intro _ _ _ H
 refine q1 (xbs H Z7 ?_);intro _ _ _ H
 have H:=H.blkAcc 1 (k:=0) (n:=0) rfl rfl (by decide)
 refine fA 2 Z (lB 2 H Z3 ?_)
 refine o_append_P 0 H hr1 (by intro _ _ hz _ hu;obtain⟨rfl,_⟩:=hz;simp at hu;subst hu;rfl) (sz:=1) (bytes:=8) underlying92 typeInfo3 ⟨_,rfl,rfl⟩ rfl rfl rfl rfl rfl rfl rfl oM rfl ?_;intro _ _ css5 hcl5 hcs5 H
 have hchk5:Chk intE 1 G0 ([]++css5.flatten) _:=⟨css5,rfl,hcl5,hcs5⟩
 obtain⟨_,_,rfl⟩:=H.accShape (k:=0) rfl
 refine fA 2 Z (xst 2 H Z8 ?_);intro _ H
 refine q1 (lA 2 3 H Z4 (xst 1 H Z8 ?_));intro _ H
 refine q3 (W_ret (ret_gen (rs:=[.cell 2 109]) (vs:=[_]) results135 ⟨⟨_,Z,load_blk 1 H isAgg109 sizeOf109 Z Z Z⟩,trivial⟩ ?_))
 obtain⟨_,H,hsg509,hsr509⟩:=H.shut' (k:=0) rfl hchk5 aN aN
 exact H.retP ⟨_,Z,⟨_,_,_,Z,hi1,hsr509⟩⟩
theorem l5All_c (w0:World)(G0:PH)(hG:PSub G0 w0)(vlist:Value)(list:List (BItem))(hlist:RdItems G0 vlist list) :
  Calls Tryz.prog 105 #[vlist] w0 (RetO w0 G0 (AccOf itemE 3 109 list)):=by
 obtain⟨alist,klist,rfl⟩:=hlist.shape
 have hlimlist:list.length≤1099511627776:=hlist.lim
 have H:=Hp.init hG
 refine calls_of_W (l:=[.slice alist list.length klist]) func105 Z ntmps105 Z (q2 (aG Z (q1 (xbs H Z7 ?_))));intro _ _ _ H
 have H:=H.blkAcc 3 (k:=0) (n:=0) rfl rfl (by decide)
 refine aG Z (q3 (W_seq (q2 (aG Z (q3 (W_block ?_))))))
 refine W_lp (hf:=(Sub.cons (t:=0) Z (Sub.cons (t:=2) Z Sub.nil))) (J:=fun M w m=>∃(v:Value) (n:Nat) (cs:List Value) (xs:List (BItem)) (k:Nat) (G:PH),M=[(4,.int .i64 (k:Int)),(3,v)]∧PLe G0 G∧Hp w0 G0 [] w G [acc 109 3 v n cs]∧(Chk itemE 3 G cs xs∧n=xs.length∧k≤list.length∧xs.length=k∧xs=list.take k)∧m=(list.length-k)) (h0:=⟨_,_,_,[],0,_,Z,PLe.refl _,H,?inv,Z⟩) (round:=?round)
 case inv=>exact⟨(Chk.nil (E:=itemE) (sz:=3) (G:=G0)),by first|rfl|simp|(simp;omega)|omega,(by simp)⟩
 case round =>
  rintro _ _ _ ⟨v,n,cs,xs,k,_,rfl,hle2,H,hinv2,rfl⟩
  have hlist:=hlist.up hle2
  obtain⟨hchk2_0,_,hinv2⟩:=hinv2
  obtain⟨_,_,rfl⟩:=H.accShape (k:=0) rfl
  obtain⟨_,hxl,hxs⟩:=hinv2
  refine W_seq (q2 (pe 2 Z (lN Z (pe 1 Z (q3 ?_)))))
  refine W_cond Z ?_ ?_
  ·intro hc3
   try simp only[nrm]at hc3
   refine W_skip (N_K (W_seq (W_block (W_region (pe 3 Z (iP k hlist Z3 Z ?_))))));intro _ _ z4 _ hz4 hE4 hrow4
   obtain⟨_,_,_,rfl,hi4,hr4,_,_⟩:=ox hE4
   refine o_loadagg_P H isAgg109 sizeOf109 Z Z hrow4 Z (xc Z2 (l5Copy_c _ _ H.sub _ _ ⟨_,_,_,Z,hi4,hr4⟩) ?_)
   rintro _ _ ⟨_,_,g5,rfl,_,rfl,hr5_0⟩
   have H:=H.grow g5
   have hchk2_0:=hchk2_0.up g5.le
   have hle2:=hle2.trans g5.le
   obtain⟨_,_,_,rfl,hi6,hr6,_,_⟩:=ox hr5_0
   refine⟨_,Z,?_⟩
   refine xbs H Z7 ?_;intro _ _ _ H
   refine o_append1 0 H (sz:=3) (bytes:=48) underlying31 typeInfo109 ⟨_,Z,Z⟩ Z Z Z Z Z Z Z Z Z Z oM Z ?_;intro _ _ H
   have hchk8:=hchk2_0.snoc (show itemE _ z4 _ from⟨_,_,_,rfl,hi6,hr6⟩) rfl
   obtain⟨_,_,rfl⟩:=H.accShape (k:=0) rfl
   refine aG Z (R_nil (N_B (N_K (W_region (mV Z (aD Z2 (aG Z (R_nil ?_))))))))
   refine N_lp (hJ:=⟨_,_,_,(xs++[z4]),k+1,_,Z,hle2,H,?inv,Z⟩) (hm:=?hm)
   case hm=>omega
   case inv=>exact⟨hchk8,aN,(by exact⟨by omega,by simp[hxl],by rw[Sp.take_succ' hz4,hxs]⟩)⟩
  intro hc3'
  try simp only[nrm]at hc3'
  refine W_exit (N_K_exit (N_LP_exit (N_B_same (N_K (q2 (pe 2 Z (q3 (W_ret (rt1 results105 Z ?_)))))))))
  obtain rfl:k=list.length:=by omega
  rw[List.take_length]at hxs
  subst hxs
  exact H.retO (k:=0) rfl (AccOf.mk (by assumption) hchk2_0) (acc_nd _ _ _ _ _)
theorem l11Count_c (w0:World)(G0:PH)(hG:PSub G0 w0)(vlist:Value)(list:List (BItem))(hlist:RdItems G0 vlist list)(id:Int)(hT:Sp.TreeValid list=true) :
  Calls Tryz.prog 134 #[vlist,.int .i64 id] w0 (Rets w0 (.int .i64 (Sp.l11Count list id:Int))):=by
 obtain⟨alist,klist,rfl⟩:=hlist.shape
 have hlimlist:list.length≤1099511627776:=hlist.lim
 have htl:=Sp.tree_len hT
 have H:=Hp.init hG
 refine calls_of_W (l:=[.slice alist list.length klist,.int .i64 id]) func134 Z ntmps134 Z (q2 (aG Z (q1 (aG Z (q3 (W_seq (q2 (aG Z (q3 (W_block ?_))))))))))
 refine W_lp (hf:=(Sub.cons (t:=0) Z (Sub.cons (t:=1) Z (Sub.cons (t:=4) Z Sub.nil)))) (J:=fun M w m=>∃(c k:Nat) (G:PH),M=[(5,.int .i64 (c:Int)),(6,.int .i64 (k:Int))]∧PLe G0 G∧Hp w0 G0 [] w G []∧(k≤list.length∧c=Sp.cntU list id k)∧m=(list.length-k)) (h0:=⟨0,0,_,Z,PLe.refl _,H,?inv,Z⟩) (round:=?round)
 case inv=>exact⟨by omega,by simp[Sp.cntU]⟩
 case round =>
  rintro _ _ _ ⟨c,k,G1,rfl,hle1,H,hinv1,rfl⟩
  have hlist:=hlist.up hle1
  obtain⟨hk,hc⟩:=hinv1;have hcu:=Sp.cntU_le hT k hk (id:=id)
  refine W_seq (q2 (pe 2 Z (lN Z (pe 1 Z (q3 ?_)))))
  refine W_cond Z ?_ ?_
  ·intro hc2
   try simp only[nrm]at hc2
   refine W_skip (N_K (W_seq (W_block (q2 (aG Z (q3 (W_block ?_)))))))
   refine W_lp (hf:=(Sub.cons (t:=0) Z (Sub.cons (t:=1) Z (Sub.cons (t:=4) Z (Sub.cons (t:=6) Z Sub.nil))))) (J:=fun M w m=>∃(c2 j:Nat) (y:BItem) (G:PH),M=[(5,.int .i64 (c2:Int)),(7,.int .i64 (j:Int))]∧PLe G1 G∧Hp w0 G0 [] w G []∧(list[k]? = some y∧j≤y.ids.length∧c2=Sp.cntU list id k+Sp.cnt1 id (y.ids.take j))∧m=(y.ids.length-j)) (h0:=⟨c,0,(list[k]'oM),_,Z,PLe.refl _,H,?inv,Z⟩) (round:=?round)
   case inv=>exact⟨by simp,by omega,by simp[hc,Sp.cnt1]⟩
   case round =>
    rintro _ _ _ ⟨c2,j,y,_,rfl,hle3,H,hinv3,rfl⟩
    have hlist:=hlist.up hle3
    have hle1:=hle1.trans hle3
    obtain⟨hy,_,hc2⟩:=hinv3;have hc4:=(Sp.tree_at hT hy).2;have hc1:=Sp.cnt1_le id (y.ids.take j);have htk:(y.ids.take j).length≤j:=by simp;omega
    refine W_seq (q2 (pe 3 Z (iP k hlist Z3 Z ?_)));intro _ _ z4 _ hz4 hE4 hrow4
    obtain⟨_,_,_,rfl,_,_,_,_⟩:=ox hE4
    have hzz4:y=z4:=Option.some.inj (hy.symm.trans hz4)
    subst hzz4
    refine fA 2 Z (lP H hrow4 2 Z2 (lN Z (pe 1 Z (q3 ?_))))
    refine W_cond Z ?_ ?_
    ·intro hc5
     try simp only[nrm]at hc5
     refine W_skip (N_K (W_seq (W_block (q2 (pe 2 Z (iP k hlist Z3 Z ?_))))));intro _ _ z6 _ hz6 hE6 hrow6
     obtain⟨_,_,_,rfl,_,hr6,_,_⟩:=ox hE6
     have hzz6:y=z6:=Option.some.inj (hy.symm.trans hz6)
     subst hzz6
     refine fA 2 Z (lP H hrow6 2 Z2 (mV Z (iP j hr6 Z3 Z ?_)));intro _ _ _ _ hz7 hE7 hrow7
     obtain⟨rfl,_⟩:=hE7
     refine lP H hrow7 0 Z2 (pe 2 Z (q3 ?_))
     refine W_cond Z ?_ ?_
     ·intro hc8
      try simp only[nrm]at hc8
      refine W_region (mV Z (aD Z2 (aG Z (R_nil (N_B (N_K (W_region (mV Z (aD Z2 (aG Z (R_nil ?_)))))))))))
      refine N_lp (hJ:=⟨c2+1,j+1,y,_,Z,hle3,H,?inv,Z⟩) (hm:=?hm)
      case hm=>omega
      case inv=>exact⟨hy,by omega,by rw[Sp.cnt1_succ hz7,if_pos oM,hc2];omega⟩
     intro hc8'
     try simp only[nrm]at hc8'
     refine W_skip (N_B (N_K (W_region (mV Z (aD Z2 (aG Z (R_nil ?_)))))))
     refine N_lp (hJ:=⟨c2,j+1,y,_,Z,hle3,H,?inv,Z⟩) (hm:=?hm)
     case hm=>omega
     case inv=>exact⟨hy,by omega,by rw[Sp.cnt1_succ hz7,if_neg oM,hc2];omega⟩
    intro hc5'
    try simp only[nrm]at hc5'
    refine W_exit (N_K_exit (N_LP_exit (N_B_same (N_B (N_K (W_region (mV Z (aD Z2 (aG Z (R_nil ?_))))))))))
    refine N_lp (hJ:=⟨c2,k+1,_,Z,hle1,H,?inv,Z⟩) (hm:=?hm)
    case hm=>omega
    case inv=>exact⟨by omega,by rw[hc2,Sp.cntU_succ hy,List.take_of_length_le oM]⟩
  intro hc2'
  try simp only[nrm]at hc2'
  refine W_exit (N_K_exit (N_LP_exit (N_B_same (N_K (q2 (pe 2 Z (q3 (W_ret (rt1 results134 Z ?_)))))))))
  obtain rfl:k=list.length:=by omega
  exact H.rets (congrArg (Value.int .i64) (by rw[hc];rfl))
theorem l11Files_c (w0:World)(G0:PH)(hG:PSub G0 w0)(vstore:Value)(store:List (BHeld))(hstore:RdH G0 vstore store)(vlist:Value)(list:List (BItem))(hlist:RdItems G0 vlist list) :
  Calls Tryz.prog 101 #[vstore,vlist] w0 (Rets w0 (.bool (Sp.l11Files store list))):=by
 obtain⟨astore,kstore,rfl⟩:=hstore.shape
 have hlimstore:store.length≤1099511627776:=hstore.lim
 obtain⟨alist,klist,rfl⟩:=hlist.shape
 have hlimlist:list.length≤1099511627776:=hlist.lim
 have H:=Hp.init hG
 refine calls_of_W (l:=[.slice astore store.length kstore,.slice alist list.length klist]) func101 Z ntmps101 Z (q2 (aG Z (q3 (W_seq (q2 (aG Z (q3 (W_block ?_))))))))
 refine W_lp (hf:=(Sub.cons (t:=0) Z (Sub.cons (t:=1) Z Sub.nil))) (J:=fun M w m=>∃(k:Nat) (G:PH),M=[(5,.int .i64 (k:Int))]∧PLe G0 G∧Hp w0 G0 [] w G []∧(k≤list.length∧(list.take k).all (Sp.fileOk store)=true)∧m=(list.length-k)) (h0:=⟨0,_,Z,PLe.refl _,H,?inv,Z⟩) (round:=?round)
 case inv=>exact⟨by omega,by simp⟩
 case round =>
  rintro _ _ _ ⟨k,_,rfl,hle1,H,hinv1,rfl⟩
  have hstore:=hstore.up hle1
  have hlist:=hlist.up hle1
  obtain⟨_,hall⟩:=hinv1
  refine W_seq (q2 (pe 2 Z (lN Z (pe 1 Z (q3 ?_)))))
  refine W_cond Z ?_ ?_
  ·intro hc2
   try simp only[nrm]at hc2
   refine W_skip (N_K (W_seq (W_block (q2 (pe 3 Z (iP k hlist Z3 Z ?_))))));intro _ _ _ _ hz3 hE3 hrow3
   obtain⟨_,_,_,rfl,_,hr3,_,_⟩:=ox hE3
   refine fA 2 Z (lP H hrow3 2 Z2 (xr H Z2 (l4Ids_c _ _ H.sub _ _ hstore _ _ hr3) ?_));intro _ H
   refine pe 1 Z (q3 ?_)
   refine W_cond Z ?_ ?_
   ·intro hc5
    try simp only[nrm]at hc5
    refine q2 (aG Z (q3 (W_ret (N_B_ret (N_K_ret (N_LP_ret (N_B_ret (N_K_ret (rt1 results101 Z ?_)))))))))
    exact H.rets (congrArg Value.bool (by rw[Sp.l11Files,Sp.all_false hz3 (by simp[Sp.fileOk, *])]))
   intro hc5'
   try simp only[nrm]at hc5'
   refine W_skip (N_B (N_K (W_region (mV Z (aD Z2 (aG Z (R_nil ?_)))))))
   refine N_lp (hJ:=⟨k+1,_,Z,hle1,H,?inv,Z⟩) (hm:=?hm)
   case hm=>omega
   case inv=>exact⟨by omega,Sp.all_take hall hz3 (by simp[Sp.fileOk, *])⟩
  intro hc2'
  try simp only[nrm]at hc2'
  refine W_exit (N_K_exit (N_LP_exit (N_B_same (N_K (q2 (aG Z (q3 (W_ret (rt1 results101 Z ?_)))))))))
  obtain rfl:k=list.length:=by omega
  rw[List.take_length]at hall
  exact H.rets (congrArg Value.bool (by rw[Sp.l11Files,hall]))
theorem l12Count_c (w0:World)(G0:PH)(hG:PSub G0 w0)(cd:List Value)(d:BDisk)(hd:diskE G0 d cd)(id:Int)(hT:Sp.TreeValid d.tree=true)(hN:Sp.l12Snaps d=true) :
  Calls Tryz.prog 103 #[.agg cd.toArray,.int .i64 id] w0 (Rets w0 (.int .i64 (Sp.l12Count d id:Int))):=by
 obtain⟨_,_,_,_,_,_,_,_,_,rfl,hr1,hr1',hr1'',⟨_,_⟩,⟨_,_⟩,_,_⟩:=ox hd
 obtain⟨_,hst⟩:=Sp.snaps_at hN
 have htc:=Sp.l11Count_le hT (id:=id)
 have H:=Hp.init hG
 refine calls_of_W (l:=[_,.int .i64 id]) func103 Z ntmps103 Z (q2 (o_box H Z Z Z ?_));intro b2 _ _ H
 refine aG Z (q1 (fA 1 Z (lB 0 H Z3 (mV Z (xr H Z2 (l11Count_c _ _ H.sub _ _ hr1' _ hT) ?_)))));intro _ H
 refine aG Z (q3 (W_seq (q2 (aG Z (q3 (W_block ?_))))))
 obtain⟨ln4,hln4,H⟩:=H.name (k:=0) rfl
 refine W_lp (hf:=(Sub.cons (t:=1) Z (Sub.cons (t:=2) Z (Sub.cons (t:=4) Z Sub.nil)))) (J:=fun M w m=>∃(c k:Nat) (G:PH),M=[(5,.int .i64 (c:Int)),(6,.int .i64 (k:Int))]∧PLe G0 G∧Hp w0 G0 [] w G [blk b2 (cl ln4 34)]∧(k≤d.snaps.length∧c=Sp.l11Count d.tree id+Sp.cntS d.snaps id k)∧m=(d.snaps.length-k)) (h0:=⟨(Sp.l11Count d.tree id),0,_,Z,PLe.refl _,H,?inv,Z⟩) (round:=?round)
 case inv=>exact⟨by omega,by simp[Sp.cntS]⟩
 case round =>
  rintro _ _ _ ⟨c,k,_,rfl,hle5,H,hinv5,rfl⟩
  subst hln4
  have hr1'':=hr1''.up hle5
  obtain⟨hk,hc⟩:=hinv5;have hcu:=Sp.cntS_le hst k hk (id:=id)
  refine W_seq (q2 (mV Z (fA 2 Z (lB 0 H Z3 (lN Z (pe 1 Z (q3 ?_)))))))
  refine W_cond Z ?_ ?_
  ·intro hc6
   try simp only[nrm]at hc6
   refine W_skip (N_K (W_seq (W_block (W_region (mV Z (fA 2 Z (lB 0 H Z3 (mV Z (iP k hr1'' Z3 Z ?_)))))))));intro _ _ z7 _ hz7 hE7 hrow7
   obtain⟨_,_,_,rfl,_,hr7,_,_⟩:=ox hE7
   have hlz:=Sp.l11Count_le (hst _ (List.mem_of_getElem? hz7)) (id:=id)
   refine fA 1 Z (lP H hrow7 1 Z2 (mV Z ?_))
   refine xr H Z2 (l11Count_c _ _ H.sub _ _ hr7 _ (hst _ (List.mem_of_getElem? hz7))) ?_;intro _ H
   refine aD Z2 (aG Z (R_nil (N_B (N_K (W_region (mV Z (aD Z2 (aG Z (R_nil ?_)))))))))
   refine N_lp (hJ:=⟨c+Sp.l11Count z7.tree id,k+1,_,Z,hle5,H,?inv,Z⟩) (hm:=?hm)
   case hm=>omega
   case inv=>exact⟨by omega,by rw[hc,Sp.cntS_succ hz7];omega⟩
  intro hc6'
  try simp only[nrm]at hc6'
  refine W_exit (N_K_exit (N_LP_exit (N_B_same (N_K (q2 (pe 2 Z (q3 (W_ret (rt1 results103 Z ?_)))))))))
  obtain rfl:k=d.snaps.length:=by omega
  exact H.rets (congrArg (Value.int .i64) (by rw[hc];rfl))
theorem l12Snaps_c (w0:World)(G0:PH)(hG:PSub G0 w0)(cd:List Value)(d:BDisk)(hd:diskE G0 d cd) :
  Calls Tryz.prog 102 #[.agg cd.toArray] w0 (Rets w0 (.bool (Sp.l12Snaps d))):=by
 obtain⟨_,_,_,_,_,_,_,_,_,rfl,hr1,hr1',hr1'',⟨_,_⟩,⟨_,_⟩,_,_⟩:=ox hd
 have H:=Hp.init hG
 refine calls_of_W (l:=[_]) func102 Z ntmps102 Z (q2 (o_box H Z Z Z ?_));intro b2 _ _ H
 refine aG Z (q3 (W_seq (q2 (aG Z (q3 (W_block ?_))))))
 obtain⟨ln3,hln3,H⟩:=H.name (k:=0) rfl
 refine W_lp (hf:=(Sub.cons (t:=1) Z Sub.nil)) (J:=fun M w m=>∃(k:Nat) (G:PH),M=[(3,.int .i64 (k:Int))]∧PLe G0 G∧Hp w0 G0 [] w G [blk b2 (cl ln3 34)]∧(k≤d.snaps.length∧∀j,j<k→Sp.okS d j=true)∧m=(d.snaps.length-k)) (h0:=⟨0,_,Z,PLe.refl _,H,?inv,Z⟩) (round:=?round)
 case inv=>exact⟨by omega,fun j hj=>by omega⟩
 case round =>
  rintro _ _ _ ⟨k,_,rfl,hle4,H,hinv4,rfl⟩
  subst hln3
  have hr1:=hr1.up hle4
  have hr1'':=hr1''.up hle4
  obtain⟨_,hall⟩:=hinv4
  refine W_seq (q2 (mV Z (fA 2 Z (lB 0 H Z3 (lN Z (pe 1 Z (q3 ?_)))))))
  refine W_cond Z ?_ ?_
  ·intro hc5
   try simp only[nrm]at hc5
   refine W_skip (N_K (W_seq (W_block (q2 (fA 2 Z (lB 0 H Z3 (mV Z (iP k hr1'' Z3 Z ?_))))))));intro _ _ _ _ hz6 hE6 hrow6
   obtain⟨_,_,_,rfl,hi6,hr6,_,_⟩:=ox hE6
   refine o_loadagg_P H isAgg106 sizeOf106 Z Z hrow6 Z (xal H Z ?_);intro _ _ _ H
   refine xst 0 H Z8 ?_;intro _ H
   refine q1 (fA 0 Z (lB 0 H Z3 (xr H Z2 (l1Word_c _ _ hi6) ?_)));intro _ H
   refine pe 2 Z ?_
   refine R_case (t:=21) Z ?_ ?_
   ·intro hc10
    try simp only[nrm]at hc10
    refine pe 22 Z (q3 (W_true Z (q2 (aG Z (q3 (W_ret (N_B_ret (N_K_ret (N_LP_ret (N_B_ret (N_K_ret (rt1 results102 Z ?_))))))))))))
    exact H.rets (congrArg Value.bool (by rw[Sp.l12Snaps,Sp.not_all_range (k:=k) oM (by rw[Sp.okS_at hz6];simp[*]<;>(intros;omega))];rfl))
   intro hc10'
   try simp only[nrm]at hc10'
   refine gR Z (fA 2 Z (gR Z (lB 1 H Z3 (gR Z (fA 0 Z (gR Z (lB 0 H Z3 (gR Z (xr H Z2 (l12At_c _ _ H.sub _ _ hr1'' _ hi6) ?_)))))))));intro _ H
   refine pe 4 Z ?_
   refine R_case (t:=30) Z ?_ ?_
   ·intro hc12
    try simp only[nrm]at hc12
    refine pe 13 Z (q3 (W_true Z (q2 (aG Z (q3 (W_ret (N_B_ret (N_K_ret (N_LP_ret (N_B_ret (N_K_ret (rt1 results102 Z ?_))))))))))))
    exact H.rets (congrArg Value.bool (by rw[Sp.l12Snaps,Sp.not_all_range (k:=k) oM (by rw[Sp.okS_at hz6];simp[*]<;>(intros;omega))];rfl))
   intro hc12'
   try simp only[nrm]at hc12'
   refine gR Z (fA 1 Z (gR Z (lB 0 H Z3 (gR Z (xr H Z2 (TreeValid_c _ _ H.sub _ _ hr6) ?_)))));intro _ H
   refine pe 3 Z ?_
   refine R_case (t:=36) Z ?_ ?_
   ·intro hc14
    try simp only[nrm]at hc14
    refine pe 7 Z (q3 (W_true Z (q2 (aG Z (q3 (W_ret (N_B_ret (N_K_ret (N_LP_ret (N_B_ret (N_K_ret (rt1 results102 Z ?_))))))))))))
    exact H.rets (congrArg Value.bool (by rw[Sp.l12Snaps,Sp.not_all_range (k:=k) oM (by rw[Sp.okS_at hz6];simp[*]<;>(intros;omega))];rfl))
   intro hc14'
   try simp only[nrm]at hc14'
   refine gR Z (fA 0 Z (gR Z (lB 1 H Z3 (gR Z (fA 1 Z (gR Z (lB 0 H Z3 (gR Z (xr H Z2 (l11Files_c _ _ H.sub _ _ hr1 _ _ hr6) ?_)))))))));intro _ H
   refine pe 2 Z (q3 ?_)
   refine W_cond Z ?_ ?_
   ·intro hc16
    try simp only[nrm]at hc16
    refine q2 (aG Z (q3 (W_ret (N_B_ret (N_K_ret (N_LP_ret (N_B_ret (N_K_ret (rt1 results102 Z ?_)))))))))
    exact H.rets (congrArg Value.bool (by rw[Sp.l12Snaps,Sp.not_all_range (k:=k) oM (by rw[Sp.okS_at hz6];simp[*]<;>(intros;omega))];rfl))
   intro hc16'
   try simp only[nrm]at hc16'
   refine W_skip (N_B (N_K (W_region (mV Z (aD Z2 (aG Z (R_nil ?_)))))))
   have H:=H.dl 0
   refine N_lp (hJ:=⟨k+1,_,Z,hle4,H,?inv,Z⟩) (hm:=?hm)
   case hm=>omega
   case inv=>exact⟨by omega,Sp.upto_succ hall (by rw[Sp.okS_at hz6];simp[*])⟩
  intro hc5'
  try simp only[nrm]at hc5'
  refine W_exit (N_K_exit (N_LP_exit (N_B_same (N_K (q2 (fA 2 Z (lB 0 H Z3 (lN Z (pe 2 Z (q3 (W_ret (rt1 results102 Z ?_))))))))))))
  exact H.rets (congrArg Value.bool (by rw[Sp.l12Snaps,Sp.all_range (fun j hj=>hall j oM),Bool.true_and];rw[Bool.eq_iff_iff];simp;omega))
theorem DiskValid_c (w0:World)(G0:PH)(hG:PSub G0 w0)(cd:List Value)(d:BDisk)(hd:diskE G0 d cd) :
  Calls Tryz.prog 66 #[.agg cd.toArray] w0 (Rets w0 (.bool (Sp.DiskValid d))):=by
 obtain⟨_,_,_,_,_,_,_,_,_,rfl,hr1,hr1',hr1'',⟨_,_⟩,⟨_,_⟩,_,_⟩:=ox hd
 have H:=Hp.init hG
 refine calls_of_W (l:=[_]) func66 Z ntmps66 Z (q2 (o_box H Z Z Z ?_));intro b2 _ _ H
 refine aG Z (q3 (W_seq (q2 (fA 0 Z (lB 0 H Z3 (xr H Z2 (StoreValid_c _ _ H.sub _ _ hr1) ?_))))));intro _ H
 refine pe 2 Z ?_
 refine R_case (t:=8) Z ?_ ?_
 ·intro hc4
  try simp only[nrm]at hc4
  refine pe 18 Z (q3 (W_true Z (q2 (aG Z (q3 (W_ret (N_K_ret (rt1 results66 Z ?_))))))))
  exact H.rets (congrArg Value.bool (by simp[Sp.DiskValid,hc4]))
 intro hc4'
 try simp only[nrm]at hc4'
 refine gR Z (fA 1 Z (gR Z (lB 0 H Z3 (gR Z (xr H Z2 (TreeValid_c _ _ H.sub _ _ hr1') ?_)))));intro _ H
 refine pe 3 Z ?_
 refine R_case (t:=14) Z ?_ ?_
 ·intro hc6
  try simp only[nrm]at hc6
  refine pe 12 Z (q3 (W_true Z (q2 (aG Z (q3 (W_ret (N_K_ret (rt1 results66 Z ?_))))))))
  exact H.rets (congrArg Value.bool (by simp[Sp.DiskValid,hc6]))
 intro hc6'
 try simp only[nrm]at hc6'
 refine gR Z (fA 0 Z (gR Z (lB 0 H Z3 (gR Z (fA 1 Z (gR Z (lB 0 H Z3 (gR Z (xr H Z2 (l11Files_c _ _ H.sub _ _ hr1 _ _ hr1') ?_)))))))));intro _ H
 refine pe 3 Z ?_
 refine R_case (t:=22) Z ?_ ?_
 ·intro hc8
  try simp only[nrm]at hc8
  refine pe 4 Z (q3 (W_true Z (q2 (aG Z (q3 (W_ret (N_K_ret (rt1 results66 Z ?_))))))))
  exact H.rets (congrArg Value.bool (by simp[Sp.DiskValid,hc8]))
 intro hc8'
 try simp only[nrm]at hc8'
 refine gR Z (lA 0 3 H Z4 (gR Z (xr H Z2 (l12Snaps_c _ _ H.sub _ d ⟨_,_,_,_,_,_,_,_,_,Z,hr1,hr1',hr1''⟩) ?_)));intro _ H
 refine pe 2 Z (q3 ?_)
 refine W_cond Z ?_ ?_
 ·intro hc10
  try simp only[nrm]at hc10
  refine q2 (aG Z (q3 (W_ret (N_K_ret (rt1 results66 Z ?_)))))
  exact H.rets (congrArg Value.bool (by simp[Sp.DiskValid,hc10]))
 intro hc10'
 try simp only[nrm]at hc10'
 refine W_skip (N_K (W_seq (q2 (aG Z (q3 (W_block ?_))))))
 obtain⟨ln11,hln11,H⟩:=H.name (k:=0) rfl
 refine W_lp (hf:=(Sub.cons (t:=1) Z Sub.nil)) (J:=fun M w m=>∃(k:Nat) (G:PH),M=[(3,.int .i64 (k:Int))]∧PLe G0 G∧Hp w0 G0 [] w G [blk b2 (cl ln11 34)]∧(k≤d.store.length∧(d.store.take k).all (Sp.usesD d)=true)∧m=(d.store.length-k)) (h0:=⟨0,_,Z,PLe.refl _,H,?inv,Z⟩) (round:=?round)
 case inv=>exact⟨by omega,by simp⟩
 case round =>
  rintro _ _ _ ⟨k,G12,rfl,hle12,H,hinv12,rfl⟩
  subst hln11
  have hr1:=hr1.up hle12
  have hr1':=hr1'.up hle12
  have hr1'':=hr1''.up hle12
  obtain⟨_,hall⟩:=hinv12
  refine W_seq (q2 (mV Z (fA 0 Z (lB 0 H Z3 (lN Z (pe 1 Z (q3 ?_)))))))
  refine W_cond Z ?_ ?_
  ·intro hc13
   try simp only[nrm]at hc13
   refine W_skip (N_K (W_seq (W_block (W_seq (W_drawK [0] 15 H kR Z ?_)))));intro _ H;have hd14:=PLe.refl G12
   refine RD_t 0 Z kR Z (fun _ hK=>v_loadagg_B 0 hK isAgg34 sizeOf34 Z Z Z Z) (dF 1 0 Z2 (dB 2 0 Z4 (dE 3 Z2 ?_)))
   have hl15:=hr1.len
   obtain⟨_,_,z15,_,ha15,hz15,hq15,hE15,hrow15,_⟩:=hr1.at (i:=k) oM
   clear hq15
   obtain⟨_,_,_,rfl,_,_,_,_,_⟩:=ox hE15
   refine dI 4 3 k ha15 Z3 Z (dF 5 0 Z2 (dP 6 hrow15 0 Z3 (dF 8 0 Z2 (dB 9 0 Z4 (dE 10 Z2 ?_)))))
   have hl16:=hr1.len
   obtain⟨_,_,z16,_,ha16,hz16,hq16,hE16,hrow16,_⟩:=hr1.at (i:=k) oM
   clear hq16
   obtain⟨_,_,_,rfl,_,_,_,_,_⟩:=ox hE16
   have hzz16:z15=z16:=Option.some.inj (hz15.symm.trans hz16)
   subst hzz16
   refine dI 11 3 k ha16 Z3 Z (dF 12 2 Z2 (dP 13 hrow16 2 Z3 (r1 7 Z (xr H Z2 (l12Count_c _ _ H.sub _ d ⟨_,_,_,_,_,_,_,_,_,Z,hr1,hr1',hr1''⟩ _ hc6' hc10') ?_))));intro _ H
   refine q4 H hd14 (dE 14 Z2 (rz (N_K ?_)))
   refine W_cond Z ?_ ?_
   ·intro hc18
    try simp only[nrm]at hc18
    refine q2 (aG Z (q3 (W_ret (N_B_ret (N_K_ret (N_LP_ret (N_B_ret (N_K_ret (rt1 results66 Z ?_)))))))))
    exact H.rets (congrArg Value.bool (by rw[Sp.DiskValid,Sp.all_false hz15 (by simp[Sp.usesD, *])];rfl))
   intro hc18'
   try simp only[nrm]at hc18'
   refine W_skip (N_B (N_K (W_region (mV Z (aD Z2 (aG Z (R_nil ?_)))))))
   refine N_lp (hJ:=⟨k+1,_,Z,hle12,H,?inv,Z⟩) (hm:=?hm)
   case hm=>omega
   case inv=>exact⟨by omega,Sp.all_take hall hz15 (by simp[Sp.usesD, *])⟩
  intro hc13'
  try simp only[nrm]at hc13'
  refine W_exit (N_K_exit (N_LP_exit (N_B_same (N_K (q2 (aG Z (q3 (W_ret (rt1 results66 Z ?_)))))))))
  obtain rfl:k=d.store.length:=by omega
  rw[List.take_length]at hall
  exact H.rets (congrArg Value.bool (by simp[Sp.DiskValid,hall,hc4',hc6',hc8',hc10']))
theorem l12Copy_c (w0:World)(G0:PH)(hG:PSub G0 w0)(cd:List Value)(d:BDisk)(hd:diskE G0 d cd) :
  Calls Tryz.prog 67 #[.agg cd.toArray] w0 (RetO w0 G0 (fun G val r=>∃u u1 u2,val= .agg #[u,u1,u2]∧AccOf snapE 2 106 d.snaps G u2 r∧RdH G u d.store∧RdItems G u1 d.tree)):=by
 obtain⟨_,_,_,_,_,_,_,_,_,rfl,hr1,hr1',hr1'',⟨_,_⟩,⟨_,_⟩,_,_⟩:=ox hd
 have H:=Hp.init hG
 refine calls_of_W (l:=[_]) func67 Z ntmps67 Z (q2 (o_box H Z Z Z ?_));intro b2 _ _ H
 refine xal H Z ?_;intro b3 _ _ H
 refine q3 ?_
 obtain⟨ljb3,hljb3,H⟩:=H.name (k:=0) rfl
 obtain⟨ljb2,hljb2,H⟩:=H.name (k:=1) rfl
 have hj4:=PLe.refl G0
 refine W_join (hf:=(Sub.cons (t:=1) Z (Sub.cons (t:=2) Z Sub.nil))) (J:=fun M w=>∃(jb:Nat) (ja jc:Option Addr) (jm jk jn jl:Nat) (ve:Value) (ce:List Value) (ne:Nat) (G:PH),M=[(3,.pointer (some ⟨jb,0,none⟩))]∧PLe G0 G∧Hp w0 G0 [] w G [acc 106 2 ve ne ce,blk jb (cl [.slice ja jm jk,.slice jc jn jl,ve] 34),blk b3 (cl ljb3 34),blk b2 (cl ljb2 34)]∧(RdH G (.slice ja jm jk) d.store∧RdItems G (.slice jc jn jl) d.tree∧Chk snapE 2 G ce ([]:List BSnap)∧ne=0)) (first:=?_) (second:=?_)
 ·skip
  subst hljb3
  subst hljb2
  refine W_drawK [0,1] 10 H kR Z ?_;intro _ H;have hd5:=PLe.refl G0
  refine dF 0 0 Z2 (dB 1 1 Z4 (dF 3 1 Z2 (dB 4 1 Z4 ?_)))
  refine RD_run [2,6,8] kR Z (RDs.cons Z ?_ (RDs.cons Z ?_ (RDs.cons Z ?_ RDs.nil)))
  ·skip
   refine xc Z2 (l3Copy_c _ _ H.sub _ _ hr1) ?_
   rintro _ _ ⟨_,_,_,g6,rfl,⟨_,rfl,hchk6⟩,hp6,hq6,hs6⟩
   have H:=H.growO g6 hp6 hq6 hs6;obtain⟨_,_,rfl⟩:=H.accShape (k:=0) rfl
   have hr1':=hr1'.up g6.le
   have hj4:=hj4.trans g6.le
   have hd5:=hd5.trans g6.le
   refine⟨_,Z,?_⟩
   refine q4 H hd5 ?_
   refine RD_run [5,6,8] kR Z (RDs.cons Z ?_ (RDs.cons Z ?_ (RDs.cons Z ?_ RDs.nil)))
   ·skip
    refine xc Z2 (l5All_c _ _ H.sub _ _ hr1') ?_
    rintro _ _ ⟨_,_,_,g7,rfl,⟨_,rfl,hchk7⟩,hp7,hq7,hs7⟩
    have H:=H.growO g7 hp7 hq7 hs7;obtain⟨_,_,rfl⟩:=H.accShape (k:=0) rfl
    have hchk6:=hchk6.up g7.le
    have hj4:=hj4.trans g7.le
    have hd5:=hd5.trans g7.le
    refine⟨_,Z,?_⟩
    refine q4 H hd5 ?_
    refine r2 6 8 Z2 ?_ ?_
    ·skip
     refine xbs H Z7 ?_;intro _ _ _ H
     have H:=H.blkAcc 2 (k:=0) (n:=0) rfl rfl (by decide)
     refine q4 H hd5 (RD_t 7 Z kR Z (fun _ hK=>v_build bf34 Z Z) (r1 8 Z (xal H Z ?_)));intro _ _ _ H
     refine q4 H hd5 (r1 9 Z (xst 0 H Z8 ?_));intro _ H
     refine R_nil (N_DKlast kR kR ?_)
     obtain⟨_,H,hsg512,hsr512⟩:=H.shut' (k:=3) rfl hchk6 aN aN
     have hchk7:=hchk7.up hsg512
     have hj4:=hj4.trans hsg512
     obtain⟨G513,H,hsg513,hsr513⟩:=H.shut' (k:=2) rfl hchk7 aN aN
     have hsr512:=hsr512.up hsg513
     have hj4:=hj4.trans hsg513
     have H:=H.tF 3
     have H:=H.tF 3
     have H:=H.tF 2
     have H:=H.tF 3
     exact N_J ⟨_,_,_,_,_,_,_,_,_,_,_,Z,hj4,H,⟨hsr512,hsr513,(Chk.nil (E:=snapE) (sz:=2) (G:=G513)),Z⟩⟩
    skip
    refine xal H Z ?_;intro _ _ _ H
    refine q4 H hd5 (r1 6 Z (xbs H Z7 ?_));intro _ _ _ H
    have H:=H.blkAcc 2 (k:=0) (n:=0) rfl rfl (by decide)
    refine q4 H hd5 (RD_t 7 Z kR Z (fun _ hK=>v_build bf34 Z Z) (r1 9 Z (xst 1 H Z8 ?_)));intro _ H
    refine R_nil (N_DKlast kR kR ?_)
    obtain⟨_,H,hsg517,hsr517⟩:=H.shut' (k:=3) rfl hchk6 aN aN
    have hchk7:=hchk7.up hsg517
    have hj4:=hj4.trans hsg517
    obtain⟨G518,H,hsg518,hsr518⟩:=H.shut' (k:=2) rfl hchk7 aN aN
    have hsr517:=hsr517.up hsg518
    have hj4:=hj4.trans hsg518
    have H:=H.tF 3
    have H:=H.tF 3
    have H:=H.tF 3
    have H:=H.tF 3
    exact N_J ⟨_,_,_,_,_,_,_,_,_,_,_,Z,hj4,H,⟨hsr517,hsr518,(Chk.nil (E:=snapE) (sz:=2) (G:=G518)),Z⟩⟩
   ·skip
    refine xbs H Z7 ?_;intro _ _ _ H
    have H:=H.blkAcc 2 (k:=0) (n:=0) rfl rfl (by decide)
    refine q4 H hd5 ?_
    refine r2 5 8 Z2 ?_ ?_
    ·skip
     refine xc Z2 (l5All_c _ _ H.sub _ _ hr1') ?_
     rintro _ _ ⟨_,_,_,g15,rfl,⟨_,rfl,hchk15⟩,hp15,hq15,hs15⟩
     have H:=H.growO g15 hp15 hq15 hs15;obtain⟨_,_,rfl⟩:=H.accShape (k:=0) rfl
     have hchk6:=hchk6.up g15.le
     have hj4:=hj4.trans g15.le
     have hd5:=hd5.trans g15.le
     refine⟨_,Z,?_⟩
     refine q4 H hd5 (RD_t 7 Z kR Z (fun _ hK=>v_build bf34 Z Z) (r1 8 Z (xal H Z ?_)));intro _ _ _ H
     refine q4 H hd5 (r1 9 Z (xst 0 H Z8 ?_));intro _ H
     refine R_nil (N_DKlast kR kR ?_)
     obtain⟨_,H,hsg523,hsr523⟩:=H.shut' (k:=3) rfl hchk6 aN aN
     have hchk15:=hchk15.up hsg523
     have hj4:=hj4.trans hsg523
     obtain⟨G524,H,hsg524,hsr524⟩:=H.shut' (k:=1) rfl hchk15 aN aN
     have hsr523:=hsr523.up hsg524
     have hj4:=hj4.trans hsg524
     have H:=H.tF 3
     have H:=H.tF 3
     have H:=H.tF 2
     have H:=H.tF 3
     exact N_J ⟨_,_,_,_,_,_,_,_,_,_,_,Z,hj4,H,⟨hsr523,hsr524,(Chk.nil (E:=snapE) (sz:=2) (G:=G524)),Z⟩⟩
    skip
    refine xal H Z ?_;intro _ _ _ H
    refine q4 H hd5 (r1 5 Z (xc Z2 (l5All_c _ _ H.sub _ _ hr1') ?_))
    rintro _ _ ⟨_,_,_,g19,rfl,⟨_,rfl,hchk19⟩,hp19,hq19,hs19⟩
    have H:=H.growO g19 hp19 hq19 hs19;obtain⟨_,_,rfl⟩:=H.accShape (k:=0) rfl
    have hchk6:=hchk6.up g19.le
    have hj4:=hj4.trans g19.le
    have hd5:=hd5.trans g19.le
    refine⟨_,Z,?_⟩
    refine q4 H hd5 (RD_t 7 Z kR Z (fun _ hK=>v_build bf34 Z Z) (r1 9 Z (xst 1 H Z8 ?_)));intro _ H
    refine R_nil (N_DKlast kR kR ?_)
    obtain⟨_,H,hsg528,hsr528⟩:=H.shut' (k:=3) rfl hchk6 aN aN
    have hchk19:=hchk19.up hsg528
    have hj4:=hj4.trans hsg528
    obtain⟨G529,H,hsg529,hsr529⟩:=H.shut' (k:=0) rfl hchk19 aN aN
    have hsr528:=hsr528.up hsg529
    have hj4:=hj4.trans hsg529
    have H:=H.tF 3
    have H:=H.tF 3
    have H:=H.tF 2
    have H:=H.tF 3
    exact N_J ⟨_,_,_,_,_,_,_,_,_,_,_,Z,hj4,H,⟨hsr528,hsr529,(Chk.nil (E:=snapE) (sz:=2) (G:=G529)),Z⟩⟩
   skip
   refine xal H Z ?_;intro _ _ _ H
   refine q4 H hd5 ?_
   refine r2 5 6 Z2 ?_ ?_
   ·skip
    refine xc Z2 (l5All_c _ _ H.sub _ _ hr1') ?_
    rintro _ _ ⟨_,_,_,g22,rfl,⟨_,rfl,hchk22⟩,hp22,hq22,hs22⟩
    have H:=H.growO g22 hp22 hq22 hs22;obtain⟨_,_,rfl⟩:=H.accShape (k:=0) rfl
    have hchk6:=hchk6.up g22.le
    have hj4:=hj4.trans g22.le
    have hd5:=hd5.trans g22.le
    refine⟨_,Z,?_⟩
    refine q4 H hd5 (r1 6 Z (xbs H Z7 ?_));intro _ _ _ H
    have H:=H.blkAcc 2 (k:=0) (n:=0) rfl rfl (by decide)
    refine q4 H hd5 (RD_t 7 Z kR Z (fun _ hK=>v_build bf34 Z Z) (r1 9 Z (xst 2 H Z8 ?_)));intro _ H
    refine R_nil (N_DKlast kR kR ?_)
    obtain⟨_,H,hsg534,hsr534⟩:=H.shut' (k:=3) rfl hchk6 aN aN
    have hchk22:=hchk22.up hsg534
    have hj4:=hj4.trans hsg534
    obtain⟨G535,H,hsg535,hsr535⟩:=H.shut' (k:=1) rfl hchk22 aN aN
    have hsr534:=hsr534.up hsg535
    have hj4:=hj4.trans hsg535
    have H:=H.tF 3
    have H:=H.tF 3
    have H:=H.tF 3
    have H:=H.tF 3
    exact N_J ⟨_,_,_,_,_,_,_,_,_,_,_,Z,hj4,H,⟨hsr534,hsr535,(Chk.nil (E:=snapE) (sz:=2) (G:=G535)),Z⟩⟩
   skip
   refine xbs H Z7 ?_;intro _ _ _ H
   have H:=H.blkAcc 2 (k:=0) (n:=0) rfl rfl (by decide)
   refine q4 H hd5 (r1 5 Z (xc Z2 (l5All_c _ _ H.sub _ _ hr1') ?_))
   rintro _ _ ⟨_,_,_,g26,rfl,⟨_,rfl,hchk26⟩,hp26,hq26,hs26⟩
   have H:=H.growO g26 hp26 hq26 hs26;obtain⟨_,_,rfl⟩:=H.accShape (k:=0) rfl
   have hchk6:=hchk6.up g26.le
   have hj4:=hj4.trans g26.le
   have hd5:=hd5.trans g26.le
   refine⟨_,Z,?_⟩
   refine q4 H hd5 (RD_t 7 Z kR Z (fun _ hK=>v_build bf34 Z Z) (r1 9 Z (xst 2 H Z8 ?_)));intro _ H
   refine R_nil (N_DKlast kR kR ?_)
   obtain⟨_,H,hsg539,hsr539⟩:=H.shut' (k:=3) rfl hchk6 aN aN
   have hchk26:=hchk26.up hsg539
   have hj4:=hj4.trans hsg539
   obtain⟨G540,H,hsg540,hsr540⟩:=H.shut' (k:=0) rfl hchk26 aN aN
   have hsr539:=hsr539.up hsg540
   have hj4:=hj4.trans hsg540
   have H:=H.tF 3
   have H:=H.tF 3
   have H:=H.tF 3
   have H:=H.tF 3
   exact N_J ⟨_,_,_,_,_,_,_,_,_,_,_,Z,hj4,H,⟨hsr539,hsr540,(Chk.nil (E:=snapE) (sz:=2) (G:=G540)),Z⟩⟩
  ·skip
   refine xbs H Z7 ?_;intro _ _ _ H
   have H:=H.blkAcc 2 (k:=0) (n:=0) rfl rfl (by decide)
   refine q4 H hd5 ?_
   refine r2 2 8 Z2 ?_ ?_
   ·skip
    refine xc Z2 (l3Copy_c _ _ H.sub _ _ hr1) ?_
    rintro _ _ ⟨_,_,_,g29,rfl,⟨_,rfl,hchk29⟩,hp29,hq29,hs29⟩
    have H:=H.growO g29 hp29 hq29 hs29;obtain⟨_,_,rfl⟩:=H.accShape (k:=0) rfl
    have hr1':=hr1'.up g29.le
    have hj4:=hj4.trans g29.le
    have hd5:=hd5.trans g29.le
    refine⟨_,Z,?_⟩
    refine q4 H hd5 ?_
    refine r2 5 8 Z2 ?_ ?_
    ·skip
     refine xc Z2 (l5All_c _ _ H.sub _ _ hr1') ?_
     rintro _ _ ⟨_,_,_,g30,rfl,⟨_,rfl,hchk30⟩,hp30,hq30,hs30⟩
     have H:=H.growO g30 hp30 hq30 hs30;obtain⟨_,_,rfl⟩:=H.accShape (k:=0) rfl
     have hchk29:=hchk29.up g30.le
     have hj4:=hj4.trans g30.le
     have hd5:=hd5.trans g30.le
     refine⟨_,Z,?_⟩
     refine q4 H hd5 (RD_t 7 Z kR Z (fun _ hK=>v_build bf34 Z Z) (r1 8 Z (xal H Z ?_)));intro _ _ _ H
     refine q4 H hd5 (r1 9 Z (xst 0 H Z8 ?_));intro _ H
     refine R_nil (N_DKlast kR kR ?_)
     obtain⟨_,H,hsg546,hsr546⟩:=H.shut' (k:=2) rfl hchk29 aN aN
     have hchk30:=hchk30.up hsg546
     have hj4:=hj4.trans hsg546
     obtain⟨G547,H,hsg547,hsr547⟩:=H.shut' (k:=1) rfl hchk30 aN aN
     have hsr546:=hsr546.up hsg547
     have hj4:=hj4.trans hsg547
     have H:=H.tF 3
     have H:=H.tF 3
     have H:=H.tF 2
     have H:=H.tF 3
     exact N_J ⟨_,_,_,_,_,_,_,_,_,_,_,Z,hj4,H,⟨hsr546,hsr547,(Chk.nil (E:=snapE) (sz:=2) (G:=G547)),Z⟩⟩
    skip
    refine xal H Z ?_;intro _ _ _ H
    refine q4 H hd5 (r1 5 Z (xc Z2 (l5All_c _ _ H.sub _ _ hr1') ?_))
    rintro _ _ ⟨_,_,_,g34,rfl,⟨_,rfl,hchk34⟩,hp34,hq34,hs34⟩
    have H:=H.growO g34 hp34 hq34 hs34;obtain⟨_,_,rfl⟩:=H.accShape (k:=0) rfl
    have hchk29:=hchk29.up g34.le
    have hj4:=hj4.trans g34.le
    have hd5:=hd5.trans g34.le
    refine⟨_,Z,?_⟩
    refine q4 H hd5 (RD_t 7 Z kR Z (fun _ hK=>v_build bf34 Z Z) (r1 9 Z (xst 1 H Z8 ?_)));intro _ H
    refine R_nil (N_DKlast kR kR ?_)
    obtain⟨_,H,hsg551,hsr551⟩:=H.shut' (k:=2) rfl hchk29 aN aN
    have hchk34:=hchk34.up hsg551
    have hj4:=hj4.trans hsg551
    obtain⟨G552,H,hsg552,hsr552⟩:=H.shut' (k:=0) rfl hchk34 aN aN
    have hsr551:=hsr551.up hsg552
    have hj4:=hj4.trans hsg552
    have H:=H.tF 3
    have H:=H.tF 3
    have H:=H.tF 2
    have H:=H.tF 3
    exact N_J ⟨_,_,_,_,_,_,_,_,_,_,_,Z,hj4,H,⟨hsr551,hsr552,(Chk.nil (E:=snapE) (sz:=2) (G:=G552)),Z⟩⟩
   skip
   refine xal H Z ?_;intro _ _ _ H
   refine q4 H hd5 (r1 2 Z (xc Z2 (l3Copy_c _ _ H.sub _ _ hr1) ?_))
   rintro _ _ ⟨_,_,_,g37,rfl,⟨_,rfl,hchk37⟩,hp37,hq37,hs37⟩
   have H:=H.growO g37 hp37 hq37 hs37;obtain⟨_,_,rfl⟩:=H.accShape (k:=0) rfl
   have hr1':=hr1'.up g37.le
   have hj4:=hj4.trans g37.le
   have hd5:=hd5.trans g37.le
   refine⟨_,Z,?_⟩
   refine q4 H hd5 (r1 5 Z (xc Z2 (l5All_c _ _ H.sub _ _ hr1') ?_))
   rintro _ _ ⟨_,_,_,g38,rfl,⟨_,rfl,hchk38⟩,hp38,hq38,hs38⟩
   have H:=H.growO g38 hp38 hq38 hs38;obtain⟨_,_,rfl⟩:=H.accShape (k:=0) rfl
   have hchk37:=hchk37.up g38.le
   have hj4:=hj4.trans g38.le
   have hd5:=hd5.trans g38.le
   refine⟨_,Z,?_⟩
   refine q4 H hd5 (RD_t 7 Z kR Z (fun _ hK=>v_build bf34 Z Z) (r1 9 Z (xst 2 H Z8 ?_)));intro _ H
   refine R_nil (N_DKlast kR kR ?_)
   obtain⟨_,H,hsg557,hsr557⟩:=H.shut' (k:=1) rfl hchk37 aN aN
   have hchk38:=hchk38.up hsg557
   have hj4:=hj4.trans hsg557
   obtain⟨G558,H,hsg558,hsr558⟩:=H.shut' (k:=0) rfl hchk38 aN aN
   have hsr557:=hsr557.up hsg558
   have hj4:=hj4.trans hsg558
   have H:=H.tF 3
   have H:=H.tF 3
   have H:=H.tF 2
   have H:=H.tF 3
   exact N_J ⟨_,_,_,_,_,_,_,_,_,_,_,Z,hj4,H,⟨hsr557,hsr558,(Chk.nil (E:=snapE) (sz:=2) (G:=G558)),Z⟩⟩
  skip
  refine xal H Z ?_;intro _ _ _ H
  refine q4 H hd5 ?_
  refine r2 2 6 Z2 ?_ ?_
  ·skip
   refine xc Z2 (l3Copy_c _ _ H.sub _ _ hr1) ?_
   rintro _ _ ⟨_,_,_,g41,rfl,⟨_,rfl,hchk41⟩,hp41,hq41,hs41⟩
   have H:=H.growO g41 hp41 hq41 hs41;obtain⟨_,_,rfl⟩:=H.accShape (k:=0) rfl
   have hr1':=hr1'.up g41.le
   have hj4:=hj4.trans g41.le
   have hd5:=hd5.trans g41.le
   refine⟨_,Z,?_⟩
   refine q4 H hd5 ?_
   refine r2 5 6 Z2 ?_ ?_
   ·skip
    refine xc Z2 (l5All_c _ _ H.sub _ _ hr1') ?_
    rintro _ _ ⟨_,_,_,g42,rfl,⟨_,rfl,hchk42⟩,hp42,hq42,hs42⟩
    have H:=H.growO g42 hp42 hq42 hs42;obtain⟨_,_,rfl⟩:=H.accShape (k:=0) rfl
    have hchk41:=hchk41.up g42.le
    have hj4:=hj4.trans g42.le
    have hd5:=hd5.trans g42.le
    refine⟨_,Z,?_⟩
    refine q4 H hd5 (r1 6 Z (xbs H Z7 ?_));intro _ _ _ H
    have H:=H.blkAcc 2 (k:=0) (n:=0) rfl rfl (by decide)
    refine q4 H hd5 (RD_t 7 Z kR Z (fun _ hK=>v_build bf34 Z Z) (r1 9 Z (xst 3 H Z8 ?_)));intro _ H
    refine R_nil (N_DKlast kR kR ?_)
    obtain⟨_,H,hsg564,hsr564⟩:=H.shut' (k:=2) rfl hchk41 aN aN
    have hchk42:=hchk42.up hsg564
    have hj4:=hj4.trans hsg564
    obtain⟨G565,H,hsg565,hsr565⟩:=H.shut' (k:=1) rfl hchk42 aN aN
    have hsr564:=hsr564.up hsg565
    have hj4:=hj4.trans hsg565
    have H:=H.tF 3
    have H:=H.tF 3
    have H:=H.tF 3
    have H:=H.tF 3
    exact N_J ⟨_,_,_,_,_,_,_,_,_,_,_,Z,hj4,H,⟨hsr564,hsr565,(Chk.nil (E:=snapE) (sz:=2) (G:=G565)),Z⟩⟩
   skip
   refine xbs H Z7 ?_;intro _ _ _ H
   have H:=H.blkAcc 2 (k:=0) (n:=0) rfl rfl (by decide)
   refine q4 H hd5 (r1 5 Z (xc Z2 (l5All_c _ _ H.sub _ _ hr1') ?_))
   rintro _ _ ⟨_,_,_,g46,rfl,⟨_,rfl,hchk46⟩,hp46,hq46,hs46⟩
   have H:=H.growO g46 hp46 hq46 hs46;obtain⟨_,_,rfl⟩:=H.accShape (k:=0) rfl
   have hchk41:=hchk41.up g46.le
   have hj4:=hj4.trans g46.le
   have hd5:=hd5.trans g46.le
   refine⟨_,Z,?_⟩
   refine q4 H hd5 (RD_t 7 Z kR Z (fun _ hK=>v_build bf34 Z Z) (r1 9 Z (xst 3 H Z8 ?_)));intro _ H
   refine R_nil (N_DKlast kR kR ?_)
   obtain⟨_,H,hsg569,hsr569⟩:=H.shut' (k:=2) rfl hchk41 aN aN
   have hchk46:=hchk46.up hsg569
   have hj4:=hj4.trans hsg569
   obtain⟨G570,H,hsg570,hsr570⟩:=H.shut' (k:=0) rfl hchk46 aN aN
   have hsr569:=hsr569.up hsg570
   have hj4:=hj4.trans hsg570
   have H:=H.tF 3
   have H:=H.tF 3
   have H:=H.tF 3
   have H:=H.tF 3
   exact N_J ⟨_,_,_,_,_,_,_,_,_,_,_,Z,hj4,H,⟨hsr569,hsr570,(Chk.nil (E:=snapE) (sz:=2) (G:=G570)),Z⟩⟩
  skip
  refine xbs H Z7 ?_;intro _ _ _ H
  have H:=H.blkAcc 2 (k:=0) (n:=0) rfl rfl (by decide)
  refine q4 H hd5 (r1 2 Z (xc Z2 (l3Copy_c _ _ H.sub _ _ hr1) ?_))
  rintro _ _ ⟨_,_,_,g49,rfl,⟨_,rfl,hchk49⟩,hp49,hq49,hs49⟩
  have H:=H.growO g49 hp49 hq49 hs49;obtain⟨_,_,rfl⟩:=H.accShape (k:=0) rfl
  have hr1':=hr1'.up g49.le
  have hj4:=hj4.trans g49.le
  have hd5:=hd5.trans g49.le
  refine⟨_,Z,?_⟩
  refine q4 H hd5 (r1 5 Z (xc Z2 (l5All_c _ _ H.sub _ _ hr1') ?_))
  rintro _ _ ⟨_,_,_,g50,rfl,⟨_,rfl,hchk50⟩,hp50,hq50,hs50⟩
  have H:=H.growO g50 hp50 hq50 hs50;obtain⟨_,_,rfl⟩:=H.accShape (k:=0) rfl
  have hchk49:=hchk49.up g50.le
  have hj4:=hj4.trans g50.le
  have hd5:=hd5.trans g50.le
  refine⟨_,Z,?_⟩
  refine q4 H hd5 (RD_t 7 Z kR Z (fun _ hK=>v_build bf34 Z Z) (r1 9 Z (xst 3 H Z8 ?_)));intro _ H
  refine R_nil (N_DKlast kR kR ?_)
  obtain⟨_,H,hsg575,hsr575⟩:=H.shut' (k:=1) rfl hchk49 aN aN
  have hchk50:=hchk50.up hsg575
  have hj4:=hj4.trans hsg575
  obtain⟨G576,H,hsg576,hsr576⟩:=H.shut' (k:=0) rfl hchk50 aN aN
  have hsr575:=hsr575.up hsg576
  have hj4:=hj4.trans hsg576
  have H:=H.tF 3
  have H:=H.tF 3
  have H:=H.tF 3
  have H:=H.tF 3
  exact N_J ⟨_,_,_,_,_,_,_,_,_,_,_,Z,hj4,H,⟨hsr575,hsr576,(Chk.nil (E:=snapE) (sz:=2) (G:=G576)),Z⟩⟩
 rintro _ _ ⟨jb,ja,jc,jm,jk,jn,jl,ve,ce,ne,G4,rfl,hle4,H,hinv4⟩
 subst hljb3
 subst hljb2
 have hr1'':=hr1''.up hle4
 obtain⟨hja,hjb,hjc,rfl⟩:=hinv4;obtain⟨_,_,rfl⟩:=H.accShape (k:=0) rfl
 refine W_seq (q2 (aG Z (q3 (W_block ?_))))
 obtain⟨ln52,hln52,H⟩:=H.nameAt (k:=1) (off:=2) rfl rfl
 obtain⟨ln53,hln53,H⟩:=H.name (k:=2) rfl
 obtain⟨ln54,hln54,H⟩:=H.name (k:=3) rfl
 refine W_lp (hf:=(Sub.cons (t:=1) Z (Sub.cons (t:=2) Z (Sub.cons (t:=3) Z Sub.nil)))) (J:=fun M w m=>∃(v:Value) (n:Nat) (cs:List Value) (xs:List (BSnap)) (k:Nat) (G:PH),M=[(4,.int .i64 (k:Int))]∧PLe G4 G∧Hp w0 G0 [] w G [acc 106 2 v n cs,blk jb (cl (setN ln52 2 v) 34),blk b3 (cl ln53 34),blk b2 (cl ln54 34)]∧(Chk snapE 2 G cs xs∧n=xs.length∧k≤d.snaps.length∧xs.length=k∧xs=d.snaps.take k)∧m=(d.snaps.length-k)) (h0:=⟨_,_,_,[],0,_,Z,PLe.refl _,H,?inv,Z⟩) (round:=?round)
 case inv=>exact⟨hjc,by first|rfl|simp|(simp;omega)|omega,(by simp)⟩
 case round =>
  rintro _ _ _ ⟨v,n,cs,xs,k,G55,rfl,hle55,H,hinv55,rfl⟩
  subst hln52
  subst hln53
  subst hln54
  have hr1'':=hr1''.up hle55
  have hja:=hja.up hle55
  have hjb:=hjb.up hle55
  obtain⟨hchk55_0,_,hinv55⟩:=hinv55
  obtain⟨_,_,rfl⟩:=H.accShape (k:=0) rfl
  obtain⟨_,hxl,hxs⟩:=hinv55
  refine W_seq (q2 (mV Z (fA 2 Z (lB 3 H Z3 (lN Z (pe 1 Z (q3 ?_)))))))
  refine W_cond Z ?_ ?_
  ·intro hc56
   try simp only[nrm]at hc56
   refine W_skip (N_K (W_seq (W_block (W_drawK [1,2,3] 20 H kR Z ?_))));intro _ H;have hd57:=PLe.refl G55
   refine dF 0 2 Z2 (dB 1 0 Z4 (dF 2 2 Z2 (dB 3 2 Z4 (dE 4 Z2 ?_))))
   have hl58:=hr1''.len
   obtain⟨_,_,z58,_,ha58,hz58,hq58,hE58,hrow58,_⟩:=hr1''.at (i:=k) oM
   clear hq58
   obtain⟨_,_,_,rfl,hi58,hr58,_,_⟩:=ox hE58
   refine dI 5 2 k ha58 Z3 Z (dF 6 0 Z2 (dP 7 hrow58 0 Z3 (dF 8 2 Z2 (dB 9 2 Z4 (dE 10 Z2 ?_)))))
   have hl59:=hr1''.len
   obtain⟨_,_,z59,_,ha59,hz59,hq59,hE59,hrow59,_⟩:=hr1''.at (i:=k) oM
   clear hq59
   obtain⟨_,_,_,rfl,_,hr59,_,_⟩:=ox hE59
   have hzz59:z58=z59:=Option.some.inj (hz58.symm.trans hz59)
   subst hzz59
   refine dI 11 2 k ha59 Z3 Z (dF 12 1 Z2 (dP 13 hrow59 1 Z3 (r1 14 Z (xc Z2 (l5All_c _ _ H.sub _ _ hr59) ?_))))
   rintro _ _ ⟨_,_,_,g60,rfl,⟨_,rfl,hchk60⟩,hp60,hq60,hs60⟩
   have H:=H.growO g60 hp60 hq60 hs60;obtain⟨_,_,rfl⟩:=H.accShape (k:=0) rfl
   have hchk55_0:=hchk55_0.up g60.le
   have hle55:=hle55.trans g60.le
   have hd57:=hd57.trans g60.le
   refine⟨_,Z,?_⟩
   refine q4 H hd57 (RD_t 15 Z kR Z (fun _ hK=>v_build bf106 Z Z) (r1 16 Z (xbs H Z7 ?_)));intro _ _ _ H
   refine q4 H hd57 (r1 17 Z (o_append1 1 H (sz:=2) (bytes:=40) underlying32 typeInfo106 ⟨_,Z,Z⟩ Z Z Z Z Z Z Z Z Z Z oM Z ?_));intro _ _ H
   obtain⟨_,H,hsg63,hsr63⟩:=H.shut' (k:=0) rfl hchk60 aN aN
   have hchk55_0:=hchk55_0.up hsg63
   have hle55:=hle55.trans hsg63
   have hd57:=hd57.trans hsg63
   have hchk62:=hchk55_0.snoc (show snapE _ ⟨z58.name,z58.tree⟩ _ from⟨_,_,_,rfl,hi58,hsr63⟩) rfl
   obtain⟨_,_,rfl⟩:=H.accShape (k:=0) rfl
   refine q4 H hd57 (dF 18 2 Z2 (r1 19 Z (xst 1 H Z8 ?_)));intro _ H
   refine R_nil (N_DKlast kR kR (N_B (N_K (W_region (mV Z (aD Z2 (aG Z (R_nil ?_))))))))
   refine N_lp (hJ:=⟨_,_,_,(xs++[⟨z58.name,z58.tree⟩]),k+1,_,Z,hle55,H,?inv,Z⟩) (hm:=?hm)
   case hm=>omega
   case inv=>exact⟨hchk62,aN,(by exact⟨by omega,by simp[hxl],by rw[Sp.take_succ' hz58,hxs]⟩)⟩
  intro hc56'
  try simp only[nrm]at hc56'
  refine W_exit (N_K_exit (N_LP_exit (N_B_same (N_K (q2 (lA 1 3 H Z4 (xst 2 H Z8 ?_)))))));intro _ H
  refine q3 (W_ret (ret_gen (rs:=[.cell 2 34]) (vs:=[_]) results67 ⟨⟨_,Z,load_blk 2 H isAgg34 sizeOf34 Z Z Z⟩,trivial⟩ ?_))
  obtain rfl:k=d.snaps.length:=by omega
  rw[List.take_length]at hxs
  subst hxs
  exact H.retO (k:=0) Z ⟨_,_,_,Z,AccOf.mk aN hchk55_0,hja,hjb⟩ (acc_nd _ _ _ _ _)
theorem l12Free_c (w0:World)(G0:PH)(hG:PSub G0 w0)(vstore:Value)(store:List (BHeld))(hstore:RdH G0 vstore store)(vlist:Value)(list:List (BItem))(hlist:RdItems G0 vlist list) :
  Calls Tryz.prog 68 #[vstore,vlist] w0 (RetO w0 G0 (AccOf heldE 3 107 (Sp.l12Free store list))):=by
 obtain⟨astore,kstore,rfl⟩:=hstore.shape
 have hlimstore:store.length≤1099511627776:=hstore.lim
 obtain⟨alist,klist,rfl⟩:=hlist.shape
 have hlimlist:list.length≤1099511627776:=hlist.lim
 have H:=Hp.init hG
 refine calls_of_W (l:=[.slice astore store.length kstore,.slice alist list.length klist]) func68 Z ntmps68 Z (q2 (aG Z (q1 (mV Z (xc Z2 (l3Copy_c _ _ H.sub _ _ hstore) ?_)))))
 rintro _ _ ⟨G1,_,_,g1,rfl,⟨_,rfl,hchk1⟩,hp1,hq1,hs1⟩
 have H:=H.growO g1 hp1 hq1 hs1;obtain⟨_,_,rfl⟩:=H.accShape (k:=0) rfl
 have hlist:=hlist.up g1.le
 refine⟨_,Z,?_⟩
 refine aG Z (q3 (W_seq (q2 (aG Z (q3 (W_block ?_))))))
 refine W_lp (hf:=(Sub.cons (t:=1) Z (Sub.cons (t:=4) Z Sub.nil))) (J:=fun M w m=>∃(v:Value) (n:Nat) (cs:List Value) (xs:List (BHeld)) (k:Nat) (G:PH),M=[(6,.int .i64 (k:Int)),(5,v)]∧PLe G1 G∧Hp w0 G0 [] w G [acc 107 3 v n cs]∧(Chk heldE 3 G cs xs∧n=xs.length∧k≤list.length∧xs.length≤store.length∧xs=Sp.l12Free store (list.take k))∧m=(list.length-k)) (h0:=⟨_,_,_,store,0,_,Z,PLe.refl _,H,?inv,Z⟩) (round:=?round)
 case inv=>exact⟨hchk1,by first|rfl|simp|(simp;omega)|omega,(by exact⟨by omega,by omega,rfl⟩)⟩
 case round =>
  rintro _ _ _ ⟨v,n,cs,xs,k,_,rfl,hle2,H,hinv2,rfl⟩
  have hlist:=hlist.up hle2
  obtain⟨hchk2_0,_,hinv2⟩:=hinv2
  obtain⟨_,_,rfl⟩:=H.accShape (k:=0) rfl
  obtain⟨_,_,hxs⟩:=hinv2
  refine W_seq (q2 (pe 2 Z (lN Z (pe 1 Z (q3 ?_)))))
  refine W_cond Z ?_ ?_
  ·intro hc3
   try simp only[nrm]at hc3
   refine W_skip (N_K (W_seq (W_block (q2 (pe 3 Z (iP k hlist Z3 Z ?_))))));intro _ _ z4 _ hz4 hE4 hrow4
   obtain⟨_,_,_,rfl,_,hr4,_,_⟩:=ox hE4
   refine fA 2 Z (lP H hrow4 2 Z2 ?_)
   obtain⟨_,H,hsg6,hsr6⟩:=H.shut' (k:=0) rfl hchk2_0 aN aN
   have hr4:=hr4.up hsg6
   have hle2:=hle2.trans hsg6
   refine xc Z2 (FileFree_c _ _ H.sub _ _ hsr6 _ _ hr4) ?_
   rintro _ _ ⟨_,_,_,g5,rfl,⟨_,rfl,⟨_,rfl,hchk5⟩⟩,hp5,hq5,hs5⟩
   have H:=H.growO g5 hp5 hq5 hs5;obtain⟨_,_,rfl⟩:=H.accShape (k:=0) rfl
   have hle2:=hle2.trans g5.le
   refine⟨_,Z,?_⟩
   refine pe 5 Z (q3 (W_region (pe 2 Z (R_nil (N_B (N_K (W_region (mV Z (aD Z2 (aG Z (R_nil ?_)))))))))))
   refine N_lp (hJ:=⟨_,_,_,((Sp.FileFree xs z4.ids).getD []),k+1,_,Z,hle2,H,?inv,Z⟩) (hm:=?hm)
   case hm=>omega
   case inv=>exact⟨hchk5,aN,(by exact⟨by omega,by (have:=Sp.free_len xs z4.ids;omega),by (rw[Sp.l12Free_succ hz4,←hxs])⟩)⟩
  intro hc3'
  try simp only[nrm]at hc3'
  refine W_exit (N_K_exit (N_LP_exit (N_B_same (N_K (q2 (pe 2 Z (q3 (W_ret (rt1 results68 Z ?_)))))))))
  obtain rfl:k=list.length:=by omega
  rw[List.take_length]at hxs
  subst hxs
  exact H.retO (k:=0) rfl (AccOf.mk (by assumption) hchk2_0) (acc_nd _ _ _ _ _)
theorem SnapDrop_c (w0:World)(G0:PH)(hG:PSub G0 w0)(cd:List Value)(d:BDisk)(hd:diskE G0 d cd)(name:Bs)(hname:name.length≤16777216) :
  Calls Tryz.prog 28 #[.agg cd.toArray,str name] w0 (RetO w0 G0 (fun G val r=>∃u u1 u2,val= .tuple #[.agg #[u,u1,u2],.bool (Sp.SnapDrop d name).isSome]∧AccOf snapE 2 106 (((Sp.SnapDrop d name).map (·.snaps)).getD []) G u2 r∧RdH G u (((Sp.SnapDrop d name).map (·.store)).getD [])∧RdItems G u1 (((Sp.SnapDrop d name).map (·.tree)).getD []))):=by
 obtain⟨_,_,_,_,_,_,_,_,_,rfl,hr1,hr1',hr1'',⟨_,_⟩,⟨_,_⟩,_,_⟩:=ox hd
 have H:=Hp.init hG
 refine calls_of_W (l:=[_,str name]) func28 Z ntmps28 Z (q2 (o_box H Z Z Z ?_));intro _ _ _ H
 refine xal H Z ?_;intro _ _ _ H
 refine aG Z (q1 (fA 2 Z (lB 1 H Z3 (mV Z (xr H Z2 (l12At_c _ _ H.sub _ _ hr1'' _ hname) ?_)))));intro _ H
 refine aG Z (q3 (W_seq (q2 (lA 1 3 H Z4 (xr H Z2 (DiskValid_c _ _ H.sub _ d ⟨_,_,_,_,_,_,_,_,_,Z,hr1,hr1',hr1''⟩) ?_)))));intro _ H
 refine pe 2 Z ?_
 refine R_case (t:=15) Z ?_ ?_
 ·intro hc6
  try simp only[nrm]at hc6
  refine pe 3 Z (q3 (W_true Z (q2 (o_build bf34 Z Z Z (xst 0 H Z8 ?_)))));intro _ H
  refine aG Z (q3 (W_ret (N_K_ret (ret_gen (rs:=[.cell 4 34,.tmp 5]) (vs:=[_,_]) results28 ⟨⟨_,Z,load_blk 0 H isAgg34 sizeOf34 Z Z Z⟩,Z,trivial⟩ ?_))))
  have hN:Sp.SnapDrop d name=none:=by exact Sp.sdrop_nov (by simpa using hc6)
  have H:=H.addNil 106 2
  exact H.retO (k:=0) rfl (by rw[hN];exact⟨_,_,_,rfl,AccOf.mk rfl Chk.nil,RdS.nil _ _ _,RdS.nil _ _ _⟩) (acc_nd _ _ _ _ _)
 intro hc6'
 try simp only[nrm]at hc6'
 refine pe 3 Z (q3 ?_)
 refine W_cond Z ?_ ?_
 ·intro hc8
  try simp only[nrm]at hc8
  refine q2 (o_build bf34 Z Z Z (xst 0 H Z8 ?_));intro _ H
  refine aG Z (q3 (W_ret (N_K_ret (ret_gen (rs:=[.cell 4 34,.tmp 5]) (vs:=[_,_]) results28 ⟨⟨_,Z,load_blk 0 H isAgg34 sizeOf34 Z Z Z⟩,Z,trivial⟩ ?_))))
  have hN:Sp.SnapDrop d name=none:=by exact Sp.sdrop_noat (by simpa [Sp.l12At] using hc8)
  have H:=H.addNil 106 2
  exact H.retO (k:=0) rfl (by rw[hN];exact⟨_,_,_,rfl,AccOf.mk rfl Chk.nil,RdS.nil _ _ _,RdS.nil _ _ _⟩) (acc_nd _ _ _ _ _)
 intro hc8'
 try simp only[nrm]at hc8'
 obtain⟨i,_,ia,ib,_,_,_⟩:=Sp.at_nat hc8'
 have ib:Sp.l12At d.snaps name=(i:Int):=ib
 have hat:Sp.atS d.snaps name=some i:=ia
 refine W_skip (N_K (q2 (lA 1 3 H Z4 (xc Z2 (l12Copy_c _ _ H.sub _ d ⟨_,_,_,_,_,_,_,_,_,Z,hr1,hr1',hr1''⟩) ?_))))
 rintro _ _ ⟨G10,_,_,g10,rfl,⟨_,_,_,rfl,⟨_,rfl,hchk10⟩,hr10_0,hr10_1⟩,hp10,hq10,hs10⟩
 have H:=H.growO g10 hp10 hq10 hs10;obtain⟨_,_,rfl⟩:=H.accShape (k:=0) rfl
 have hr1:=hr1.up g10.le
 have hr1'':=hr1''.up g10.le
 obtain⟨_,_,rfl⟩:=hr10_0.shape;have hx_hr10_0:_≤1099511627776:=hr10_0.lim
 obtain⟨_,_,rfl⟩:=hr10_1.shape;have hx_hr10_1:_≤1099511627776:=hr10_1.lim
 refine⟨_,Z,?_⟩
 refine xal H Z ?_;intro _ _ _ H
 refine xst 0 H Z8 ?_;intro _ H
 refine q3 (W_seq (W_drawK [0,2,3] 11 H kR Z ?_));intro _ H;have hd13:=PLe.refl G10
 refine dF 0 0 Z2 (dB 1 2 Z4 (dF 2 2 Z2 (dB 3 2 Z4 (dE 4 Z2 ?_))))
 have hl14:=hr1''.len
 obtain⟨_,_,z14,_,ha14,hz14,hq14,hE14,hrow14,_⟩:=hr1''.at (i:=i) oM
 clear hq14
 obtain⟨_,_,_,rfl,_,hr14,_,_⟩:=ox hE14
 refine dI 5 2 i ha14 Z3 ib (dF 6 1 Z2 (dP 7 hrow14 1 Z3 (r1 8 Z (xc Z2 (l12Free_c _ _ H.sub _ _ hr1 _ _ hr14) ?_))))
 rintro _ _ ⟨G15,_,_,g15,rfl,⟨_,rfl,hchk15⟩,hp15,hq15,hs15⟩
 have H:=H.growO g15 hp15 hq15 hs15;obtain⟨_,_,rfl⟩:=H.accShape (k:=0) rfl
 have hr10_1:=hr10_1.up g15.le
 have hchk10:=hchk10.up g15.le
 have hd13:=hd13.trans g15.le
 refine⟨_,Z,?_⟩
 have hfl2:=Sp.l12Free_len z14.tree d.store
 refine q4 H hd13 (dF 9 0 Z2 (r1 10 Z (xst 1 H Z8 ?_)));intro _ H
 refine R_nil (N_DKlast kR kR (N_K (W_seq (W_drawK [1,3,4] 12 H kR Z ?_))));intro _ H;have hd17:=PLe.refl G15
 refine dF 0 2 Z2 (dB 1 0 Z4 (dE 2 Z2 ?_))
 have hac18:=H.accCap (k:=2) rfl
 refine RD_t 3 Z kR Z (fun _ hK=>v_slice_to (j:=i) underlying32 sizeOf106 Z Z ib oM) (dF 4 2 Z2 (dB 5 0 Z4 (dE 6 Z2 (RD_t 7 Z kR Z (fun _ hK=>v_add Z Z oO) ?_))))
 have hac20:=H.accCap (k:=2) rfl
 refine RD_t 8 Z kR Z (fun _ hK=>v_slice_from (i:=(i+1)) underlying32 sizeOf106 Z Z oM oM) (r1 9 Z ?_)
 refine o_append_del 2 H i Z hchk10 (by intro _ _ hz _ hu;obtain⟨_,_,_,rfl,_⟩:=hz;simp at hu;rcases hu with rfl|rfl<;>rfl) underlying32 typeInfo106 rfl rfl rfl rfl oM aN ?_;intro _ _ hb21 H hchk21;cases hb21
 refine q4 H hd17 (dF 10 2 Z2 (r1 11 Z (xst 1 H Z8 ?_)));intro _ H
 refine R_nil (N_DKlast kR kR (N_K (q2 (lA 1 3 H Z4 (xst 3 H Z8 ?_)))));intro _ H
 refine aG Z (q3 (W_ret (ret_gen (rs:=[.cell 4 34,.tmp 5]) (vs:=[_,_]) results28 ⟨⟨_,Z,load_blk 3 H isAgg34 sizeOf34 Z Z Z⟩,Z,trivial⟩ ?_)))
 obtain⟨_,H,hsg527,hsr527⟩:=H.shut' (k:=0) rfl hchk15 aN aN
 have hr10_1:=hr10_1.up hsg527
 have hchk21:=hchk21.up hsg527
 have hY:Sp.SnapDrop d name=some ⟨Sp.l12Free d.store z14.tree,d.tree,d.snaps.take i++d.snaps.drop (i+1)⟩:=by exact Sp.sdrop_eq (by simpa using hc6') hat hz14
 exact H.retO (k:=1) rfl (by rw[hY];exact⟨_,_,_,rfl,AccOf.mk aN hchk21,hsr527,hr10_1⟩) (acc_nd _ _ _ _ _)
theorem HoldTags_c (w0:World)(G0:PH)(hG:PSub G0 w0)(vlist:Value)(list:List (BHold))(hlist:RdS LIM holdE 2 G0 vlist list)(snap:Bs)(hsnap:snap.length≤16777216) :
  Calls Tryz.prog 27 #[vlist,str snap] w0 (RetP w0 G0 (fun G v=>RdT G v (Sp.HoldTags list snap))):=by
 obtain⟨alist,klist,rfl⟩:=hlist.shape
 have hlimlist:list.length≤1099511627776:=hlist.lim
 have H:=Hp.init hG
 refine calls_of_W (l:=[.slice alist list.length klist,str snap]) func27 Z ntmps27 Z (q2 (aG Z (q1 (xbs H Z7 ?_))));intro _ _ _ H
 have H:=H.blkAcc 1 (k:=0) (n:=0) rfl rfl (by decide)
 refine aG Z (q3 (W_seq (q2 (aG Z (q3 (W_block ?_))))))
 refine W_lp (hf:=(Sub.cons (t:=0) Z (Sub.cons (t:=1) Z (Sub.cons (t:=4) Z Sub.nil)))) (J:=fun M w m=>∃(v:Value) (n:Nat) (cs:List Value) (xs:List (Bs)) (k:Nat) (G:PH),M=[(6,.int .i64 (k:Int)),(5,v)]∧PLe G0 G∧Hp w0 G0 [] w G [acc 9 1 v n cs]∧(Chk strE 1 G cs xs∧n=xs.length∧k≤list.length∧(0<k→Sp.HoldsValid list=true)∧xs=((list.take k).filter (fun h=>decide (h.snap=snap))).map (·.tag)∧xs.length≤k)∧m=(list.length-k)) (h0:=⟨_,_,_,[],0,_,Z,PLe.refl _,H,?inv,Z⟩) (round:=?round)
 case inv=>exact⟨(Chk.nil (E:=strE) (sz:=1) (G:=G0)),by first|rfl|simp|(simp;omega)|omega,(by exact⟨by omega,by omega,by simp,by simp⟩)⟩
 case round =>
  rintro _ _ _ ⟨v,n,cs,xs,k,_,rfl,hle2,H,hinv2,rfl⟩
  have hlist:=hlist.up hle2
  obtain⟨hchk2_0,_,hinv2⟩:=hinv2
  obtain⟨_,_,rfl⟩:=H.accShape (k:=0) rfl
  obtain⟨_,hv,hxs,_⟩:=hinv2
  refine W_seq (q2 (pe 2 Z (lN Z (pe 2 Z ?_))))
  refine R_case (t:=12) Z ?_ ?_
  ·intro hc3
   try simp only[nrm]at hc3
   refine pe 1 Z (gR Z (xr H Z2 (HoldsValid_c _ _ H.sub _ _ hlist) ?_));intro _ H
   refine pe 1 Z (q3 ?_)
   refine W_cond Z ?_ ?_
   ·intro hc5
    try simp only[nrm]at hc5
    refine W_skip (N_K (W_seq (W_block (q2 (pe 2 Z (iP k hlist Z3 Z ?_))))));intro _ _ z6 _ hz6 hE6 hrow6
    obtain⟨rfl,hi6,hj6⟩:=hE6;have hy_hi6:_≤16777216:=hi6;have hy_hj6:_≤16777216:=hj6
    refine fA 0 Z (lP H hrow6 0 Z2 (mV Z (o_seql Z Z Z (q3 ?_))))
    refine W_cond Z ?_ ?_
    ·intro hc7
     try simp only[nrm]at hc7
     refine W_region (pe 3 Z (iP k hlist Z3 Z ?_));intro _ _ z8 _ hz8 hE8 hrow8
     obtain⟨rfl,hi8,hj8⟩:=hE8;have hy_hi8:_≤16777216:=hi8;have hy_hj8:_≤16777216:=hj8
     have hzz8:z6=z8:=Option.some.inj (hz6.symm.trans hz8)
     subst hzz8
     refine fA 1 Z (lP H hrow8 1 Z2 (xbs H Z7 ?_));intro _ _ _ H
     refine o_append1 0 H (sz:=1) (bytes:=16) underlying49 typeInfo9 ⟨_,Z,Z⟩ Z Z Z Z Z Z Z Z Z Z oM Z ?_;intro _ _ H
     have hchk10:=hchk2_0.snoc (show strE _ z6.tag _ from⟨rfl,hj8⟩) rfl
     obtain⟨_,_,rfl⟩:=H.accShape (k:=0) rfl
     refine aG Z (R_nil (N_B (N_K (W_region (mV Z (aD Z2 (aG Z (R_nil ?_))))))))
     refine N_lp (hJ:=⟨_,_,_,(xs++[z6.tag]),k+1,_,Z,hle2,H,?inv,Z⟩) (hm:=?hm)
     case hm=>omega
     case inv=>exact⟨hchk10,aN,(by exact⟨by omega,fun _=>by assumption,by (rw[hxs,Sp.tags_yes hz6 (by simpa using hc7)]),by (first|omega|(simp;omega))⟩)⟩
    intro hc7'
    try simp only[nrm]at hc7'
    refine W_skip (N_B (N_K (W_region (mV Z (aD Z2 (aG Z (R_nil ?_)))))))
    refine N_lp (hJ:=⟨_,_,_,xs,k+1,_,Z,hle2,H,?inv,Z⟩) (hm:=?hm)
    case hm=>omega
    case inv=>exact⟨hchk2_0,aN,(by exact⟨by omega,fun _=>by assumption,by (rw[hxs,Sp.tags_not hz6 (by simpa using hc7')]),by (first|omega|(simp;omega))⟩)⟩
   intro hc5'
   try simp only[nrm]at hc5'
   refine W_exit (N_K_exit (N_LP_exit (N_B_same (N_K (q2 (pe 2 Z (q3 (W_ret (rt1 results27 Z ?_)))))))))
   obtain⟨_,H,hsg514,hsr514⟩:=H.shut' (k:=0) rfl hchk2_0 aN aN
   have h9:Sp.HoldTags list snap=xs:=by (rw[Sp.tags_no (by simpa using hc5'),hxs,show k=0 by (rcases Nat.eq_zero_or_pos k with h8|h8;(· exact h8);(· (have h7:=hv h8;simp_all)))];rfl)
   exact H.retP (by (rw[h9];exact hsr514))
  intro hc3'
  try simp only[nrm]at hc3'
  refine pe 3 Z (q3 (W_false Z (W_exit (N_K_exit (N_LP_exit (N_B_same (N_K (q2 (pe 2 Z (q3 (W_ret (rt1 results27 Z ?_))))))))))))
  obtain⟨_,H,hsg515,hsr515⟩:=H.shut' (k:=0) rfl hchk2_0 aN aN
  have h9:Sp.HoldTags list snap=xs:=by (by_cases h8:0<k;(· (rw[Sp.tags_eq (hv h8),hxs,show k=list.length by omega,List.take_length]));(· (have h7:list=[]:=List.eq_nil_of_length_eq_zero oM;subst h7;(rw[hxs]);unfold Sp.HoldTags;simp)))
  exact H.retP (by (rw[h9];exact hsr515))
theorem DropFree_c (w0:World)(G0:PH)(hG:PSub G0 w0)(cd:List Value)(d:BDisk)(hd:diskE G0 d cd)(vlist:Value)(list:List (BHold))(hlist:RdS LIM holdE 2 G0 vlist list)(snap:Bs)(hsnap:snap.length≤16777216) :
  Calls Tryz.prog 8 #[.agg cd.toArray,vlist,str snap] w0 (RetO w0 G0 (fun G val r=>∃u u1 u2,val= .tuple #[.agg #[u,u1,u2],.bool (Sp.DropFree d list snap).isSome]∧AccOf snapE 2 106 (((Sp.DropFree d list snap).map (·.snaps)).getD []) G u2 r∧RdH G u (((Sp.DropFree d list snap).map (·.store)).getD [])∧RdItems G u1 (((Sp.DropFree d list snap).map (·.tree)).getD []))):=by
 obtain⟨_,_,_,_,_,_,_,_,_,rfl,hr1,hr1',hr1'',⟨_,_⟩,⟨_,_⟩,_,_⟩:=ox hd
 obtain⟨alist,klist,rfl⟩:=hlist.shape
 have hlimlist:list.length≤1099511627776:=hlist.lim
 have H:=Hp.init hG
 refine calls_of_W (l:=[_,.slice alist list.length klist,str snap]) func8 Z ntmps8 Z (q2 (o_box H Z Z Z ?_));intro _ _ _ H
 refine xal H Z ?_;intro _ _ _ H
 refine aG Z (q3 (W_seq (q2 (mV Z (xr H Z2 (HoldsValid_c _ _ H.sub _ _ hlist) ?_)))));intro _ H
 refine pe 2 Z ?_
 refine R_case (t:=11) Z ?_ ?_
 ·intro hc5
  try simp only[nrm]at hc5
  refine pe 6 Z (q3 (W_true Z (q2 (o_build bf34 Z Z Z (xst 0 H Z8 ?_)))));intro _ H
  refine aG Z (q3 (W_ret (N_K_ret (ret_gen (rs:=[.cell 6 34,.tmp 7]) (vs:=[_,_]) results8 ⟨⟨_,Z,load_blk 0 H isAgg34 sizeOf34 Z Z Z⟩,Z,trivial⟩ ?_))))
  have H:=H.dl 0
  have H:=H.dl 0
  have hN:Sp.DropFree d list snap=none:=by exact Sp.free_no (.inl (by simpa using hc5))
  have H:=H.addNil 106 2
  exact H.retO (k:=0) rfl (by rw[hN];exact⟨_,_,_,rfl,AccOf.mk rfl Chk.nil,RdS.nil _ _ _,RdS.nil _ _ _⟩) (acc_nd _ _ _ _ _)
 intro hc5'
 try simp only[nrm]at hc5'
 refine pe 2 Z (gR Z (xc Z2 (HoldTags_c _ _ H.sub _ _ hlist _ hsnap) ?_))
 rintro _ _ ⟨_,_,g7,rfl,hr7_0⟩
 have H:=H.grow g7
 have hr1:=hr1.up g7.le
 have hr1':=hr1'.up g7.le
 have hr1'':=hr1''.up g7.le
 obtain⟨_,_,rfl⟩:=hr7_0.shape;have hx_hr7_0:_≤1099511627776:=hr7_0.lim
 refine⟨_,Z,?_⟩
 refine gR Z (lN Z (pe 2 Z (q3 ?_)))
 refine W_cond Z ?_ ?_
 ·intro hc8
  try simp only[nrm]at hc8
  refine q2 (o_build bf34 Z Z Z (xst 0 H Z8 ?_));intro _ H
  refine aG Z (q3 (W_ret (N_K_ret (ret_gen (rs:=[.cell 6 34,.tmp 7]) (vs:=[_,_]) results8 ⟨⟨_,Z,load_blk 0 H isAgg34 sizeOf34 Z Z Z⟩,Z,trivial⟩ ?_))))
  have H:=H.dl 0
  have H:=H.dl 0
  have hN:Sp.DropFree d list snap=none:=by exact Sp.free_no (.inr (fun h9=>(by have h8:(Sp.HoldTags list snap).length=0:=(by rw[h9];rfl);omega)))
  have H:=H.addNil 106 2
  exact H.retO (k:=0) rfl (by rw[hN];exact⟨_,_,_,rfl,AccOf.mk rfl Chk.nil,RdS.nil _ _ _,RdS.nil _ _ _⟩) (acc_nd _ _ _ _ _)
 intro hc8'
 try simp only[nrm]at hc8'
 refine W_skip (N_K (q2 (lA 1 3 H Z4 (mV Z (xc Z2 (SnapDrop_c _ _ H.sub _ d ⟨_,_,_,_,_,_,_,_,_,Z,hr1,hr1',hr1''⟩ _ hsnap) ?_)))))
 rintro _ _ ⟨_,_,_,g10,rfl,⟨_,_,_,rfl,⟨_,rfl,hchk10⟩,hr10_0,hr10_1⟩,hp10,hq10,hs10⟩
 have H:=H.growO g10 hp10 hq10 hs10;obtain⟨_,_,rfl⟩:=H.accShape (k:=0) rfl
 obtain⟨_,_,rfl⟩:=hr10_0.shape;have hx_hr10_0:_≤1099511627776:=hr10_0.lim
 obtain⟨_,_,rfl⟩:=hr10_1.shape;have hx_hr10_1:_≤1099511627776:=hr10_1.lim
 refine⟨_,Z,?_⟩
 refine pe 2 Z (xst 1 H Z8 ?_);intro _ H
 refine aG Z (q3 (W_ret (ret_gen (rs:=[.cell 6 34,.tmp 7]) (vs:=[_,_]) results8 ⟨⟨_,Z,load_blk 1 H isAgg34 sizeOf34 Z Z Z⟩,Z,trivial⟩ ?_)))
 have hY:Sp.DropFree d list snap=Sp.SnapDrop d snap:=by exact Sp.free_yes (by assumption) (List.eq_nil_of_length_eq_zero oM)
 exact H.retO (k:=0) rfl (by rw[hY];exact⟨_,_,_,rfl,AccOf.mk aN hchk10,hr10_0,hr10_1⟩) (acc_nd _ _ _ _ _)
theorem DropFreeP_c (w0:World)(G0:PH)(hG:PSub G0 w0)(cd:List Value)(d:BDisk)(hd:diskE G0 d cd)(vlist:Value)(list:List BHold)(hlist:RdS LIM holdE 2 G0 vlist list)(snap:Bs)(hsnap:snap.length≤16777216) :
  Calls Tryz.prog 8 #[.agg cd.toArray,vlist,str snap] w0 (RetP w0 G0 (fun G val=>∃cs,val= .tuple #[.agg cs.toArray,.bool (Sp.DropFree d list snap).isSome]∧diskE G ((Sp.DropFree d list snap).getD ⟨[],[],[]⟩) cs)):=by
 refine(DropFree_c w0 G0 hG cd d hd vlist list hlist snap hsnap).mono ?_
 rintro _ _ ⟨_,_,_,g,rfl,⟨_,_,_,rfl,⟨_,rfl,hchk⟩,h1,h2⟩,hp,hq,hs⟩
 have H:=(Hp.init hG).growO g hp hq hs
 have hb:(((Sp.DropFree d list snap).map (·.snaps)).getD []).length≤6:=Sp.dk_lim (fun d1 h=>Sp.free_valid h)
 obtain⟨_,H2,hle,hr⟩:=H.shut' (k:=0) rfl hchk rfl oM
 have e1:((Sp.DropFree d list snap).map (·.store)).getD []=((Sp.DropFree d list snap).getD ⟨[],[],[]⟩).store:=by cases Sp.DropFree d list snap<;>rfl
 have e2:((Sp.DropFree d list snap).map (·.tree)).getD []=((Sp.DropFree d list snap).getD ⟨[],[],[]⟩).tree:=by cases Sp.DropFree d list snap<;>rfl
 have e3:((Sp.DropFree d list snap).map (·.snaps)).getD []=((Sp.DropFree d list snap).getD ⟨[],[],[]⟩).snaps:=by cases Sp.DropFree d list snap<;>rfl
 rw[e1]at h1;rw[e2]at h2;rw[e3]at hr
 obtain⟨_,_,rfl⟩:=h1.shape
 obtain⟨_,_,rfl⟩:=h2.shape
 obtain⟨_,_,rfl⟩:=hr.shape
 exact H2.retP ⟨[_,_,_],Z,_,_,_,_,_,_,_,_,_,Z,h1.up hle,h2.up hle,hr⟩
theorem xDropFree_c (w0:World)(G0:PH)(hG:PSub G0 w0)(caD:List Value)(aD:BDisk)(haD:diskE G0 aD caD)(vaList:Value)(aList:List (BHold))(haList:RdS LIM holdE 2 G0 vaList aList)(aSnap:Bs)(haSnap:aSnap.length≤16777216) :
  Calls Tryz.prog 3 #[.agg caD.toArray,vaList,str aSnap] w0 (Rets w0 (.bool true)):=by
 obtain⟨_,_,_,_,_,_,_,_,_,rfl,hr1,hr1',hr1'',⟨_,_⟩,⟨_,_⟩,_,_⟩:=ox haD
 obtain⟨aaList,kaList,rfl⟩:=haList.shape
 have hlimaList:aList.length≤1099511627776:=haList.lim
 have hcd0:=cDisk_le aD
 have hcD:cDisk ((Sp.DropFree aD aList aSnap).getD ⟨[],[],[]⟩)≤700:=dk_cnt (fun d1 h=>Sp.free_valid h)
 have hwh:aList.length≤wHolds aList:=Nat.le_add_right _ _
 have H:=Hp.init hG
 refine calls_of_W (l:=[_,.slice aaList aList.length kaList,str aSnap]) func3 Z ntmps3 Z (q2 (o_box H Z Z Z ?_));intro _ _ _ H
 refine aG Z (q3 (W_seq (q2 (mV Z (lS Z (pe 1 Z (q3 ?_)))))))
 refine W_cond Z ?_ ?_
 ·intro hc3
  try simp only[nrm]at hc3
  refine q2 (aG Z (q3 (W_ret (N_K_ret (rt1 results3 Z ?_)))))
  exact H.rets Z
 intro hc3'
 try simp only[nrm]at hc3'
 refine W_skip (N_K (q2 (aG Z (q1 (lA 0 3 H Z4 (mV Z (xc Z2 (w_szDisk_c _ _ H.sub _ aD ⟨_,_,_,_,_,_,_,_,_,Z,hr1,hr1',hr1''⟩ _ oO) ?_)))))))
 rintro _ _ ⟨_,rfl,ew4,⟨_,rfl,_⟩⟩
 skip
 have H:=H.step ew4;refine⟨_,rfl,?_⟩
 refine aG Z (q3 (W_seq (q2 (pe 2 Z (q3 ?_)))))
 refine W_cond Z ?_ ?_
 ·intro hc5
  try simp only[nrm]at hc5
  refine q2 (aG Z (q3 (W_ret (N_K_ret (rt1 results3 Z ?_)))))
  exact H.rets Z
 intro hc5'
 try simp only[nrm]at hc5'
 refine W_skip (N_K (q2 (pe 2 Z (xc Z2 (w_szHoldS_c _ _ H.sub _ _ haList _ oO) ?_))))
 rintro _ _ ⟨_,rfl,ew6,⟨_,rfl,_⟩⟩
 skip
 have H:=H.step ew6;refine⟨_,rfl,?_⟩
 refine aG Z (q3 (W_seq (q2 (pe 2 Z (q3 ?_)))))
 refine W_cond Z ?_ ?_
 ·intro hc7
  try simp only[nrm]at hc7
  refine q2 (aG Z (q3 (W_ret (N_K_ret (rt1 results3 Z ?_)))))
  exact H.rets Z
 intro hc7'
 try simp only[nrm]at hc7'
 refine W_skip (N_K (q2 (lA 0 3 H Z4 (xc Z2 (w_toDisk_c _ _ H.sub _ aD ⟨_,_,_,_,_,_,_,_,_,Z,hr1,hr1',hr1''⟩) ?_))))
 rintro _ _ ⟨_,_,rfl,H8',⟨_,_,_,_,_,_,rfl,rfl,ho18,ho28,ho38⟩⟩
 have H:=H.readers (fp:=[]) (by simp) (PLe.refl _) H8'
 obtain⟨_,p18⟩:=ho18
 obtain⟨_,_,rfl⟩:=OwnS.shape p18
 obtain⟨_,p28⟩:=ho28
 obtain⟨_,_,rfl⟩:=OwnS.shape p28
 obtain⟨_,p38⟩:=ho38
 obtain⟨_,_,rfl⟩:=OwnS.shape p38
 refine⟨_,Z,?_⟩
 refine mV Z (xc Z2 (w_toHoldS_c _ _ H.sub _ _ haList) ?_)
 rintro _ _ ⟨_,_,_,g9,rfl,⟨_,rfl,hchk9⟩,hp9,hq9,hs9⟩
 have H:=H.growO g9 hp9 hq9 hs9;obtain⟨_,_,rfl⟩:=H.accShape (k:=0) rfl
 have hr1:=hr1.up g9.le
 have hr1':=hr1'.up g9.le
 have hr1'':=hr1''.up g9.le
 have haList:=haList.up g9.le
 refine⟨_,Z,?_⟩
 refine mV Z ?_
 have hnd11:=dm_nodup H (k:=1) rfl;obtain⟨_,H,hsg11,hsf11⟩:=H.keepF (k:=1) rfl (by simp);have hsr11:=(show OHs _ _ _ from⟨_,p18⟩).rd hsf11 hnd11
 have hr1:=hr1.up hsg11
 have hr1':=hr1'.up hsg11
 have hr1'':=hr1''.up hsg11
 have haList:=haList.up hsg11
 have hchk9:=hchk9.up hsg11
 have hnd12:=dm_nodup H (k:=1) rfl;obtain⟨_,H,hsg12,hsf12⟩:=H.keepF (k:=1) rfl (by simp);have hsr12:=(show OIs _ _ _ from⟨_,p28⟩).rd hsf12 hnd12
 have hr1:=hr1.up hsg12
 have hr1':=hr1'.up hsg12
 have hr1'':=hr1''.up hsg12
 have haList:=haList.up hsg12
 have hchk9:=hchk9.up hsg12
 have hsr11:=hsr11.up hsg12
 have hnd13:=dm_nodup H (k:=1) rfl;obtain⟨_,H,hsg13,hsf13⟩:=H.keepF (k:=1) rfl (by simp);have hsr13:=(show OSn _ _ _ from⟨_,p38⟩).rd hsf13 hnd13
 have hr1:=hr1.up hsg13
 have hr1':=hr1'.up hsg13
 have hr1'':=hr1''.up hsg13
 have haList:=haList.up hsg13
 have hchk9:=hchk9.up hsg13
 have hsr11:=hsr11.up hsg13
 have hsr12:=hsr12.up hsg13
 obtain⟨_,H,hsg14,hsr14⟩:=H.shut' (k:=0) rfl hchk9 aN aN
 have hr1:=hr1.up hsg14
 have hr1':=hr1'.up hsg14
 have hr1'':=hr1''.up hsg14
 have haList:=haList.up hsg14
 have hsr11:=hsr11.up hsg14
 have hsr12:=hsr12.up hsg14
 have hsr13:=hsr13.up hsg14
 refine xc Z2 (DropFreeP_c _ _ H.sub _ aD ⟨_,_,_,_,_,_,_,_,_,Z,hsr11,hsr12,hsr13⟩ _ _ hsr14 _ haSnap) ?_
 rintro _ _ ⟨_,_,g10,rfl,_,rfl,hr10_0⟩
 have H:=H.grow g10
 have hr1:=hr1.up g10.le
 have hr1':=hr1'.up g10.le
 have hr1'':=hr1''.up g10.le
 have haList:=haList.up g10.le
 obtain⟨_,_,_,_,_,_,_,_,_,rfl,hr15,hr15',hr15'',⟨_,_⟩,⟨_,_⟩,_,_⟩:=ox hr10_0
 refine⟨_,Z,?_⟩
 refine pe 3 Z (xal H Z ?_);intro _ _ _ H
 refine xst 0 H Z8 ?_;intro _ H
 refine aG Z (q1 (lA 1 3 H Z4 (xc Z2 (w_toDisk_c _ _ H.sub _ aD ⟨_,_,_,_,_,_,_,_,_,Z,hr1,hr1',hr1''⟩) ?_)))
 rintro _ _ ⟨_,_,rfl,H18',⟨_,_,_,_,_,_,rfl,rfl,ho118,ho218,ho318⟩⟩
 have H:=H.readers (fp:=[]) (by simp) (PLe.refl _) H18'
 obtain⟨_,p118⟩:=ho118
 obtain⟨_,_,rfl⟩:=OwnS.shape p118
 obtain⟨_,p218⟩:=ho218
 obtain⟨_,_,rfl⟩:=OwnS.shape p218
 obtain⟨_,p318⟩:=ho318
 obtain⟨_,_,rfl⟩:=OwnS.shape p318
 refine⟨_,Z,?_⟩
 refine xal H Z ?_;intro _ _ _ H
 refine xst 0 H Z8 ?_;intro _ H
 refine q1 (mV Z (xc Z2 (w_toHoldS_c _ _ H.sub _ _ haList) ?_))
 rintro _ _ ⟨G21,_,_,g21,rfl,⟨_,rfl,hchk21⟩,hp21,hq21,hs21⟩
 have H:=H.growO g21 hp21 hq21 hs21;obtain⟨_,_,rfl⟩:=H.accShape (k:=0) rfl
 have hr1:=hr1.up g21.le
 have hr1':=hr1'.up g21.le
 have hr1'':=hr1''.up g21.le
 have haList:=haList.up g21.le
 have hr15:=hr15.up g21.le
 have hr15':=hr15'.up g21.le
 have hr15'':=hr15''.up g21.le
 refine⟨_,Z,?_⟩
 refine aG Z (q1 (lA 1 3 H Z4 (pe 2 Z (xc Z2 (i_DropFree_c _ _ (H.lendSubL [0,2,3,4]) _ aD ⟨_,_,_,_,_,_,_,_,_,Z,(H.lendOHs (k:=2) (ks:=[0,2,3,4]) Z Z ⟨_,p118⟩),(H.lendOIs (k:=3) (ks:=[0,2,3,4]) Z Z ⟨_,p218⟩),(H.lendOSn (k:=4) (ks:=[0,2,3,4]) Z Z ⟨_,p318⟩)⟩ _ _ (H.lendRdL (k:=0) (ks:=[0,2,3,4]) Z Z hchk21 aN aN) _ haSnap) ?_))))
 rintro _ _ ⟨_,_,rfl,H22',⟨_,_,_,_,_,_,rfl,rfl,ho122,ho222,ho322⟩⟩
 have H:=H.readersL H22'
 obtain⟨_,p122⟩:=ho122
 obtain⟨_,_,rfl⟩:=OwnS.shape p122
 obtain⟨_,p222⟩:=ho222
 obtain⟨_,_,rfl⟩:=OwnS.shape p222
 obtain⟨_,p322⟩:=ho322
 obtain⟨_,_,rfl⟩:=OwnS.shape p322
 refine⟨_,Z,?_⟩
 refine pe 3 Z (xal H Z ?_);intro _ _ _ H
 refine xst 0 H Z8 ?_;intro _ H
 refine aG Z (q3 (W_seq (q2 (lA 0 3 H Z4 (lA 9 3 H Z4 (xr H Z2 (w_eqDisk_c _ _ (H.lendSubL [1,2,3]) _ ((Sp.DropFree aD aList aSnap).getD ⟨[],[],[]⟩) ⟨_,_,_,_,_,_,_,_,_,Z,(H.lendOHs (k:=1) (ks:=[1,2,3]) Z Z ⟨_,p122⟩),(H.lendOIs (k:=2) (ks:=[1,2,3]) Z Z ⟨_,p222⟩),(H.lendOSn (k:=3) (ks:=[1,2,3]) Z Z ⟨_,p322⟩)⟩ _ ((Sp.DropFree aD aList aSnap).getD ⟨[],[],[]⟩) ⟨_,_,_,_,_,_,_,_,_,Z,(hr15.up (PPlus.le _ _ _)),(hr15'.up (PPlus.le _ _ _)),(hr15''.up (PPlus.le _ _ _))⟩ Z) ?_))))));intro _ H
 refine pe 4 Z (gR Z (o_bneq_same underlying4 Z Z Z (pe 1 Z (q3 (W_false Z (W_skip (N_K (W_seq (W_seq (W_drawK [0,5,9,10] 5 H kR Z ?_))))))))));intro _ H;have hd26:=PLe.refl G21
 refine RD_t 0 Z kR Z (fun _ hK=>v_loadagg_B 1 hK isAgg34 sizeOf34 Z Z Z Z) (RD_t 1 Z kR Z (fun _ hK=>v_loadagg_B 3 hK isAgg26 sizeOf26 Z Z Z Z) (r1 2 Z (xc Z2 (w_toDisk_c _ _ H.sub _ aD ⟨_,_,_,_,_,_,_,_,_,Z,hr1,hr1',hr1''⟩) ?_)))
 rintro _ _ ⟨_,_,rfl,H27',⟨_,_,_,_,_,_,rfl,rfl,ho127,ho227,ho327⟩⟩
 have H:=H.readers (fp:=[]) (by simp) (PLe.refl _) H27'
 obtain⟨_,p127⟩:=ho127
 obtain⟨_,_,rfl⟩:=OwnS.shape p127
 obtain⟨_,p227⟩:=ho227
 obtain⟨_,_,rfl⟩:=OwnS.shape p227
 obtain⟨_,p327⟩:=ho327
 obtain⟨_,_,rfl⟩:=OwnS.shape p327
 refine⟨_,Z,?_⟩
 refine q4 H hd26 (r1 3 Z (xr H Z2 (w_eqDisk_c _ _ (H.lendSubL [0,1,2,9,10,11]) _ aD ⟨_,_,_,_,_,_,_,_,_,Z,(H.lendOHs (k:=9) (ks:=[0,1,2,9,10,11]) Z Z ⟨_,p118⟩),(H.lendOIs (k:=10) (ks:=[0,1,2,9,10,11]) Z Z ⟨_,p218⟩),(H.lendOSn (k:=11) (ks:=[0,1,2,9,10,11]) Z Z ⟨_,p318⟩)⟩ _ aD ⟨_,_,_,_,_,_,_,_,_,Z,(H.lendOHs (k:=0) (ks:=[0,1,2,9,10,11]) Z Z ⟨_,p127⟩),(H.lendOIs (k:=1) (ks:=[0,1,2,9,10,11]) Z Z ⟨_,p227⟩),(H.lendOSn (k:=2) (ks:=[0,1,2,9,10,11]) Z Z ⟨_,p327⟩)⟩ Z) ?_));intro _ H
 refine q4 H hd26 (dE 4 Z2 (rz (N_K (W_false Z (W_skip (N_K (W_seq (q2 (pe 2 Z (xc Z2 (w_toHoldS_c _ _ H.sub _ _ haList) ?_))))))))))
 rintro _ _ ⟨_,_,_,g29,rfl,⟨_,rfl,hchk29⟩,hp29,hq29,hs29⟩
 have H:=H.growO g29 hp29 hq29 hs29;obtain⟨_,_,rfl⟩:=H.accShape (k:=0) rfl
 have hr1:=hr1.up g29.le
 have hr1':=hr1'.up g29.le
 have hr1'':=hr1''.up g29.le
 have haList:=haList.up g29.le
 have hr15:=hr15.up g29.le
 have hr15':=hr15'.up g29.le
 have hr15'':=hr15''.up g29.le
 have hchk21:=hchk21.up g29.le
 refine⟨_,Z,?_⟩
 refine xr H Z2 (w_eqHoldS_c _ _ (H.lendSubL [0,8]) _ _ (H.lendRdL (k:=8) (ks:=[0,8]) Z Z hchk21 aN aN) _ _ (H.lendRdL (k:=0) (ks:=[0,8]) Z Z hchk29 aN aN) Z) ?_;intro _ H
 refine pe 1 Z (q3 (W_false Z (W_skip (N_K (q2 (aG Z (q1 (lA 9 3 H Z4 (mV Z ?_)))))))))
 have H:=H.tF 12
 have H:=H.tF 12
 have H:=H.tF 12
 refine xc Z2 (w_markDisk_c _ _ H.sub _ _ _ _ _ _ aD ⟨_,p118⟩ ⟨_,p218⟩ ⟨_,p318⟩ _ H.lent3 oO) ?_
 rintro _ _ ⟨_,_,_,rfl,H31',⟨_,_,_,rfl,rfl,_,_,_⟩⟩
 have hr1:=hr1.up H31'.le
 have hr1':=hr1'.up H31'.le
 have hr1'':=hr1''.up H31'.le
 have haList:=haList.up H31'.le
 have hr15:=hr15.up H31'.le
 have hr15':=hr15'.up H31'.le
 have hr15'':=hr15''.up H31'.le
 have hchk21:=hchk21.up H31'.le
 have H:=H.borrow3 H31'
 refine⟨_,Z,?_⟩
 refine aG Z (q1 (pe 2 Z ?_))
 have H:=H.tF 11
 refine xc Z2 (w_markHoldS_c _ _ H.sub _ _ _ hchk21 _ H.lent1 oO oM) ?_
 rintro _ _ ⟨_,_,_,rfl,H32',⟨_,_,rfl,rfl,hchk32,_⟩⟩
 have hr1:=hr1.up H32'.le
 have hr1':=hr1'.up H32'.le
 have hr1'':=hr1''.up H32'.le
 have haList:=haList.up H32'.le
 have hr15:=hr15.up H32'.le
 have hr15':=hr15'.up H32'.le
 have hr15'':=hr15''.up H32'.le
 have H:=H.borrow1 H32'
 refine⟨_,Z,?_⟩
 refine aG Z (q3 (W_seq (q2 (pe 3 Z ?_))))
 refine R_case (t:=79) Z ?_ ?_
 ·intro hc33
  try simp only[nrm]at hc33
  exact absurd (show False from by first|omega|(simp at hc33;done)|exact hc33 rfl) id
 intro hc33'
 try simp only[nrm]at hc33'
 refine gR Z (lA 8 3 H Z4 (gR Z (lA 13 3 H Z4 (gR Z (xr H Z2 (w_eqDisk_c _ _ (H.lendSubL [9,10,11]) _ ((Sp.DropFree aD aList aSnap).getD ⟨[],[],[]⟩) ⟨_,_,_,_,_,_,_,_,_,Z,(H.lendOHs (k:=9) (ks:=[9,10,11]) Z Z ⟨_,p122⟩),(H.lendOIs (k:=10) (ks:=[9,10,11]) Z Z ⟨_,p222⟩),(H.lendOSn (k:=11) (ks:=[9,10,11]) Z Z ⟨_,p322⟩)⟩ _ ((Sp.DropFree aD aList aSnap).getD ⟨[],[],[]⟩) ⟨_,_,_,_,_,_,_,_,_,Z,(hr15.up (PPlus.le _ _ _)),(hr15'.up (PPlus.le _ _ _)),(hr15''.up (PPlus.le _ _ _))⟩ Z) ?_)))));intro _ H
 refine pe 5 Z (gR Z (o_bneq_same underlying4 Z Z Z (pe 1 Z (q3 (W_false Z (W_skip (N_K (q2 (aG Z (q1 (lA 8 3 H Z4 (mV Z ?_))))))))))))
 have H:=H.tF 11
 have H:=H.tF 11
 have H:=H.tF 11
 refine xc Z2 (w_markDisk_c _ _ H.sub _ _ _ _ _ _ ((Sp.DropFree aD aList aSnap).getD ⟨[],[],[]⟩) ⟨_,p122⟩ ⟨_,p222⟩ ⟨_,p322⟩ _ H.lent3 oO) ?_
 rintro _ _ ⟨_,_,_,rfl,H35',⟨_,_,_,rfl,rfl,hK135,hK235,hK335⟩⟩
 have hr1:=hr1.up H35'.le
 have hr1':=hr1'.up H35'.le
 have hr1'':=hr1''.up H35'.le
 have haList:=haList.up H35'.le
 have hr15:=hr15.up H35'.le
 have hr15':=hr15'.up H35'.le
 have hr15'':=hr15''.up H35'.le
 have H:=H.borrow3 H35'
 refine⟨_,Z,?_⟩
 refine aG Z (q1 (aG Z (q1 (lA 11 3 H Z4 (mV Z (xr H Z2 (w_heldDisk_c _ _ (H.lendSubL [0,1,2]) _ (mDisk 1 ((Sp.DropFree aD aList aSnap).getD ⟨[],[],[]⟩)) ⟨_,_,_,_,_,_,_,_,_,Z,(H.lendOHs (k:=0) (ks:=[0,1,2]) Z Z hK135),(H.lendOIs (k:=1) (ks:=[0,1,2]) Z Z hK235),(H.lendOSn (k:=2) (ks:=[0,1,2]) Z Z hK335)⟩ _ ((Sp.DropFree aD aList aSnap).getD ⟨[],[],[]⟩) Z oO) ?_))))));intro _ H
 refine aG Z (q3 (W_seq (q2 (pe 2 Z (q3 ?_)))))
 refine W_cond Z ?_ ?_
 ·intro hc37
  try simp only[nrm]at hc37
  exact absurd (show False from by first|omega|(simp at hc37;done)|exact hc37 rfl) id
 intro hc37'
 try simp only[nrm]at hc37'
 refine W_skip (N_K (W_seq (q2 (pe 3 Z (q3 ?_)))))
 refine W_cond Z ?_ ?_
 ·intro hc38
  try simp only[nrm]at hc38
  exact absurd (show False from by first|omega|(simp at hc38;done)|exact hc38 rfl) id
 intro hc38'
 try simp only[nrm]at hc38'
 refine W_skip (N_K (q2 (lA 14 3 H Z4 (xc Z2 (w_toDisk_c _ _ H.sub _ aD ⟨_,_,_,_,_,_,_,_,_,Z,hr1,hr1',hr1''⟩) ?_))))
 rintro _ _ ⟨_,_,rfl,H39',⟨_,_,_,_,_,_,rfl,rfl,ho139,ho239,ho339⟩⟩
 have H:=H.readers (fp:=[]) (by simp) (PLe.refl _) H39'
 obtain⟨_,p139⟩:=ho139
 obtain⟨_,_,rfl⟩:=OwnS.shape p139
 obtain⟨_,p239⟩:=ho239
 obtain⟨_,_,rfl⟩:=OwnS.shape p239
 obtain⟨_,p339⟩:=ho339
 obtain⟨_,_,rfl⟩:=OwnS.shape p339
 refine⟨_,Z,?_⟩
 refine mV Z (xc Z2 (w_toHoldS_c _ _ H.sub _ _ haList) ?_)
 rintro _ _ ⟨_,_,_,g40,rfl,⟨_,rfl,hchk40⟩,hp40,hq40,hs40⟩
 have H:=H.growO g40 hp40 hq40 hs40;obtain⟨_,_,rfl⟩:=H.accShape (k:=0) rfl
 have hr15:=hr15.up g40.le
 have hr15':=hr15'.up g40.le
 have hr15'':=hr15''.up g40.le
 refine⟨_,Z,?_⟩
 refine mV Z (xc Z2 (i_DropFree_c _ _ (H.lendSubL [0,1,2,3]) _ aD ⟨_,_,_,_,_,_,_,_,_,Z,(H.lendOHs (k:=1) (ks:=[0,1,2,3]) Z Z ⟨_,p139⟩),(H.lendOIs (k:=2) (ks:=[0,1,2,3]) Z Z ⟨_,p239⟩),(H.lendOSn (k:=3) (ks:=[0,1,2,3]) Z Z ⟨_,p339⟩)⟩ _ _ (H.lendRdL (k:=0) (ks:=[0,1,2,3]) Z Z hchk40 aN aN) _ haSnap) ?_)
 rintro _ _ ⟨_,_,rfl,H41',⟨_,_,_,_,_,_,rfl,rfl,ho141,ho241,ho341⟩⟩
 have H:=H.readersL H41'
 obtain⟨_,p141⟩:=ho141
 obtain⟨_,_,rfl⟩:=OwnS.shape p141
 obtain⟨_,p241⟩:=ho241
 obtain⟨_,_,rfl⟩:=OwnS.shape p241
 obtain⟨_,p341⟩:=ho341
 obtain⟨_,_,rfl⟩:=OwnS.shape p341
 refine⟨_,Z,?_⟩
 refine pe 3 Z (xal H Z ?_);intro _ _ _ H
 refine xst 0 H Z8 ?_;intro _ H
 refine aG Z (q3 (W_seq (q2 (lA 0 3 H Z4 (lA 21 3 H Z4 (xr H Z2 (w_eqDisk_c _ _ (H.lendSubL [1,2,3]) _ ((Sp.DropFree aD aList aSnap).getD ⟨[],[],[]⟩) ⟨_,_,_,_,_,_,_,_,_,Z,(H.lendOHs (k:=1) (ks:=[1,2,3]) Z Z ⟨_,p141⟩),(H.lendOIs (k:=2) (ks:=[1,2,3]) Z Z ⟨_,p241⟩),(H.lendOSn (k:=3) (ks:=[1,2,3]) Z Z ⟨_,p341⟩)⟩ _ ((Sp.DropFree aD aList aSnap).getD ⟨[],[],[]⟩) ⟨_,_,_,_,_,_,_,_,_,Z,(hr15.up (PPlus.le _ _ _)),(hr15'.up (PPlus.le _ _ _)),(hr15''.up (PPlus.le _ _ _))⟩ Z) ?_))))));intro _ H
 refine pe 4 Z (gR Z (o_bneq_same underlying4 Z Z Z (pe 1 Z (q3 (W_false Z (W_skip (N_K (q2 (aG Z (q1 (lA 19 3 H Z4 (mV Z (xr H Z2 (w_heldDisk_c _ _ (H.lendSubL [8,9,10]) _ (mDisk 1 ((Sp.DropFree aD aList aSnap).getD ⟨[],[],[]⟩)) ⟨_,_,_,_,_,_,_,_,_,Z,(H.lendOHs (k:=8) (ks:=[8,9,10]) Z Z hK135),(H.lendOIs (k:=9) (ks:=[8,9,10]) Z Z hK235),(H.lendOSn (k:=10) (ks:=[8,9,10]) Z Z hK335)⟩ _ ((Sp.DropFree aD aList aSnap).getD ⟨[],[],[]⟩) Z oO) ?_)))))))))))));intro _ H
 refine aG Z (q3 (W_seq (q2 (pe 2 Z (q3 ?_)))))
 refine W_cond Z ?_ ?_
 ·intro hc46
  try simp only[nrm]at hc46
  exact absurd (show False from by first|omega|(simp at hc46;done)|exact hc46 rfl) id
 intro hc46'
 try simp only[nrm]at hc46'
 refine W_skip (N_K (W_seq (q2 (pe 3 Z (q3 ?_)))))
 refine W_cond Z ?_ ?_
 ·intro hc47
  try simp only[nrm]at hc47
  exact absurd (show False from by first|omega|(simp at hc47;done)|exact hc47 rfl) id
 intro hc47'
 try simp only[nrm]at hc47'
 refine W_skip (N_K (q2 (aG Z (q3 (W_ret (rt1 results3 Z ?_))))))
 exact H.rets Z
end Go.Proofs.Tst
