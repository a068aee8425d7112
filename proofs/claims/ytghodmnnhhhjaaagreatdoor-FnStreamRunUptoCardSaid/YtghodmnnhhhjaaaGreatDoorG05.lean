/- Part 5 of the proof: contracts of functions of the program. Conditions: none. -/
import Derived.Test.YtghodmnnhhhjaaaGreatDoorProg
import Derived.Test.YtghodmnnhhhjaaaGreatDoorG02
import Derived.Test.YtghodmnnhhhjaaaGreatDoorG03
import Derived.Test.YtghodmnnhhhjaaaGreatDoorG04
set_option linter.all false
set_option maxRecDepth 100000
set_option maxHeartbeats 8000000
namespace Go.Proofs.Tst
open Go Fw Tryz
theorem l_isNaN_c (w0:World)(x:Bs)(hx:x.length≤16777216) :
  Calls Tryz.prog 229 #[str x] w0 (Rets w0 (.bool false)):=by
 have H:=Hp.init0 w0
 refine calls_of_W (l:=[str x]) func229 Z ntmps229 Z (q2 (aG Z (q1 (pe 2 Z (o_sneq Z Z Z (aG Z (q3 (W_ret (rt1 results229 Z ?_)))))))))
 exact H.rets (congrArg Value.bool (by simp))
theorem l_Compare_c (w0:World)(x:Bs)(hx:x.length≤16777216)(y:Bs)(hy:y.length≤16777216) :
  Calls Tryz.prog 203 #[str x,str y] w0 (Rets w0 (.int .i64 (Sp.cmpB x y))):=by
 have H:=Hp.init0 w0
 refine calls_of_W (l:=[str x,str y]) func203 Z ntmps203 Z (q2 (aG Z (q1 (mV Z (xr H Z2 (l_isNaN_c _ _ hx) ?_)))));intro _ H
 refine aG Z (q1 (mV Z (xr H Z2 (l_isNaN_c _ _ hy) ?_)));intro _ H
 refine aG Z (q3 (W_seq (q2 (mV Z (q3 (W_false Z (W_skip (N_K (W_seq (q2 (mV Z (q3 (W_false Z (W_skip (N_K ?_)))))))))))))))
 refine W_seq (q2 (pe 2 Z (o_slss Z Z Z (q3 ?_))))
 refine W_cond Z ?_ ?_
 ·intro hc3
  try simp only[nrm]at hc3
  refine q2 (aG Z (q3 (W_ret (N_K_ret (rt1 results203 Z ?_)))))
  exact H.rets (congrArg (Value.int .i64) (by unfold Sp.cmpB;simp_all))
 intro hc3'
 try simp only[nrm]at hc3'
 refine W_skip (N_K (W_seq (q2 (pe 2 Z (o_sgtr Z Z Z (q3 ?_))))))
 refine W_cond Z ?_ ?_
 ·intro hc4
  try simp only[nrm]at hc4
  refine q2 (aG Z (q3 (W_ret (N_K_ret (rt1 results203 Z ?_)))))
  exact H.rets (congrArg (Value.int .i64) (by unfold Sp.cmpB;simp_all))
 intro hc4'
 try simp only[nrm]at hc4'
 refine W_skip (N_K (q2 (aG Z (q3 (W_ret (rt1 results203 Z ?_))))))
 exact H.rets (congrArg (Value.int .i64) (by unfold Sp.cmpB;simp_all))
theorem i_place1_c (w0:World)(G0:PH)(hG:PSub G0 w0)(t:Nd)(hndt:RdN G0 t)(nm:Bs)(hnm:nm.length≤16777216) :
  Calls Tryz.prog 202 #[.pointer (some ⟨t.b,0,none⟩),str nm] w0 (Rets w0 (.int .i64 (Sp.cmpB t.name nm))):=by
 obtain⟨hnlt,_,_,_,_,_,_,hprt,hrit,hrkt⟩:=hndt.open
 have hn_hrit:=hrit.len;have hx_hrit:_≤1099511627776:=hrit.lim
 have hn_hrkt:=hrkt.len;have hx_hrkt:_≤1099511627776:=hrkt.lim
 have H:=Hp.init hG
 refine calls_of_W (l:=[.pointer (some ⟨t.b,0,none⟩),str nm]) func202 Z ntmps202 Z (q2 (aG Z (q1 (pe 2 Z (fA 0 Z (lP H hprt 0 Z2 (mV Z (xr H Z2 (l_Compare_c _ _ hnlt _ hnm) ?_))))))));intro _ H
 refine aG Z (q3 (W_ret (rt1 results202 Z ?_)))
 exact H.rets (congrArg (Value.int .i64) (by rfl))
theorem l_Search_c (w0:World)(G0:PH)(hG:PSub G0 w0)(vkids:Value)(kids:List (Nd))(hkids:RdNd G0 vkids kids)(nm:Bs)(hnm:nm.length≤16777216)(hsk:Sp.srt kids) :
  Calls Tryz.prog 201 #[vkids,str nm,.func (.func 202) #[] #[]] w0 (Rets w0 (.tuple #[.int .i64 (Sp.pl kids nm:Nat),.bool (Sp.fd kids nm).isSome])):=by
 obtain⟨akids,kkids,rfl⟩:=hkids.shape
 have hlimkids:kids.length≤1099511627776:=hkids.lim
 have H:=Hp.init hG
 refine calls_of_W (l:=[.slice akids kids.length kkids,str nm,.func (.func 202) #[] #[]]) func201 Z ntmps201 Z (q2 (pe 2 Z (q1 (mV Z (lN Z (aG Z (q1 (pe 3 Z (q3 (W_seq (W_block ?_)))))))))))
 refine W_lp (hf:=(Sub.cons (t:=0) Z (Sub.cons (t:=1) Z (Sub.cons (t:=2) Z (Sub.cons (t:=6) Z (Sub.cons (t:=7) Z (Sub.cons (t:=8) Z Sub.nil))))))) (J:=fun M w m=>∃(i j:Nat) (G:PH),M=[(9,.int .i64 (i:Int)),(10,.int .i64 (j:Int))]∧PLe G0 G∧Hp w0 G0 [] w G []∧(i≤j∧j≤kids.length∧(∀(k:Nat) (x:Nd),k<i→kids[k]? = some x→Sp.lt x.name nm=true)∧(∀(k:Nat) (x:Nd),j≤k→kids[k]? = some x→Sp.lt x.name nm=false))∧m=(j-i)) (h0:=⟨0,kids.length,_,Z,PLe.refl _,H,?inv,Z⟩) (round:=?round)
 case inv=>exact⟨by omega,by omega,fun k x hk=>by omega,fun k x hk hx=>by have:=(List.getElem?_eq_some_iff.1 hx).1;omega⟩
 case round =>
  rintro _ _ _ ⟨i,j,_,rfl,hle1,H,hinv1,rfl⟩
  have hkids:=hkids.up hle1
  obtain⟨_,_,hlo,hhi⟩:=hinv1
  refine W_seq (q2 (pe 3 Z (q3 ?_)))
  refine W_cond Z ?_ ?_
  ·intro hc2
   try simp only[nrm]at hc2
   refine W_skip (N_K (W_block (q2 (pe 2 Z (aD Z2 (o_conv (by simp[underlying3]) underlying258 Z Z (wrap_u64 oO) (o_shr1 Z Z Z (by decide) (o_conv (by simp[underlying258]) underlying3 Z Z (wrap_i64 oO) (aG Z (q1 (pe 3 Z (iP ((i+j) / 2) hkids Z3 oM ?_))))))))))));intro _ _ z4 _ hz4 hE4 hrow4
   obtain⟨rfl,hnd4⟩:=hE4;obtain⟨_,_,_,_,_,_,_,_,hri4,hrk4⟩:=hnd4.open;have hn_hri4:=hri4.len;have hx_hri4:_≤1099511627776:=hri4.lim;have hn_hrk4:=hrk4.len;have hx_hrk4:_≤1099511627776:=hrk4.lim
   refine lP H hrow4 0 Z2 (mV Z (o_callv call202 Z Z Z (i_place1_c _ _ H.sub _ hnd4 _ hnm) ?_))
   rintro _ _ ⟨rfl,ew5⟩;have H:=H.step ew5;refine⟨_,rfl,?_⟩
   refine pe 1 Z (q3 ?_)
   refine W_cond Z ?_ ?_
   ·intro hc6
    try simp only[nrm]at hc6
    refine W_region (mV Z (aD Z2 (aG Z (R_nil (N_B ?_)))))
    refine N_lp (hJ:=⟨((i+j) / 2+1),j,_,Z,hle1,H,?inv,Z⟩) (hm:=?hm)
    case hm=>omega
    case inv=>exact⟨by omega,by omega,Sp.pw_lt hsk hz4 ((Sp.cmpB_lt _ _).1 hc6),hhi⟩
   intro hc6'
   try simp only[nrm]at hc6'
   refine W_region (pe 2 Z (R_nil (N_B ?_)))
   refine N_lp (hJ:=⟨i,((i+j) / 2),_,Z,hle1,H,?inv,Z⟩) (hm:=?hm)
   case hm=>omega
   case inv=>exact⟨by omega,by omega,hlo,Sp.pw_ge hsk hz4 (by cases hlt:Sp.lt z4.name nm with |false=>rfl|true=>exact absurd ((Sp.cmpB_lt _ _).2 hlt) oM)⟩
  intro hc2'
  try simp only[nrm]at hc2'
  refine W_exit (N_K_exit (N_LP_exit (N_B_same (N_K (q2 (pe 5 Z ?_))))))
  refine R_case (t:=39) Z ?_ ?_
  ·intro hc8
   try simp only[nrm]at hc8
   refine pe 3 Z (gR Z (iP i hkids Z3 Z ?_));intro _ _ _ _ hz9 hE9 hrow9
   obtain⟨rfl,hnd9⟩:=hE9;obtain⟨_,_,_,_,_,_,_,_,hri9,hrk9⟩:=hnd9.open;have hn_hri9:=hri9.len;have hx_hri9:_≤1099511627776:=hri9.lim;have hn_hrk9:=hrk9.len;have hx_hrk9:_≤1099511627776:=hrk9.lim
   refine gR Z (lP H hrow9 0 Z2 (pe 1 Z (gR Z (o_callv call202 Z Z Z (i_place1_c _ _ H.sub _ hnd9 _ hnm) ?_))))
   rintro _ _ ⟨rfl,ew10⟩;have H:=H.step ew10;refine⟨_,rfl,?_⟩
   refine pe 4 Z (q3 (W_ret (rt2 results201 Z Z ?_)))
   obtain rfl:i=j:=by omega
   have hpl:=Sp.pl_of oM hlo hhi
   obtain⟨hfd,_⟩:=Sp.fd_at hsk hz9 hlo hhi
   exact H.rets (by rw[hpl,hfd];simp only[Sp.cmpB_eq];rfl)
  intro hc8'
  try simp only[nrm]at hc8'
  refine pe 11 Z (q3 (W_ret (rt2 results201 Z Z ?_)))
  obtain rfl:i=j:=by omega
  have hpl:=Sp.pl_of oM hlo hhi
  have hfd:=Sp.fd_end (nm:=nm) (ks:=kids) (fun k x hk hx=>hlo k x oM hx)
  exact H.rets (by rw[hpl,hfd];rfl)
theorem i_place_c (w0:World)(G0:PH)(hG:PSub G0 w0)(t:Nd)(hndt:RdN G0 t)(nm:Bs)(hnm:nm.length≤16777216)(hwt:t.wf) :
  Calls Tryz.prog 171 #[.pointer (some ⟨t.b,0,none⟩),str nm] w0 (Rets w0 (.tuple #[.int .i64 (Sp.pl t.kids nm:Nat),.bool (Sp.fd t.kids nm).isSome])):=by
 obtain⟨_,_,_,_,_,_,_,hprt,hrit,hrkt⟩:=hndt.open
 have hn_hrit:=hrit.len;have hx_hrit:_≤1099511627776:=hrit.lim
 have hn_hrkt:=hrkt.len;have hx_hrkt:_≤1099511627776:=hrkt.lim
 have H:=Hp.init hG
 refine calls_of_W (l:=[.pointer (some ⟨t.b,0,none⟩),str nm]) func171 Z ntmps171 Z (q2 (pe 2 Z (q1 (pe 2 Z (fA 3 Z (lP H hprt 3 Z2 (mV Z (xr H Z2 (l_Search_c _ _ H.sub _ _ hrkt _ hnm ((Nd.wf_iff _).1 hwt).1) ?_))))))));intro _ H
 refine pe 4 Z (q3 (W_ret (rt2 results171 Z Z ?_)))
 exact H.rets Z
theorem i_at_c (w0:World)(G0:PH)(hG:PSub G0 w0)(t:Nd)(hndt:RdN G0 t)(vps:Value)(ps:List (Bs))(hps:RdT G0 vps ps)(hwt:t.wf) :
  Calls Tryz.prog 118 #[.pointer (some ⟨t.b,0,none⟩),vps] w0 (RetV w0 (fun v=>(t.at_ ps=none∧v= .pointer none)∨(∃d,t.at_ ps=some d∧v= .pointer (some ⟨d.b,0,none⟩)))):=by
 obtain⟨_,_,_,_,_,_,_,hprt,hrit,hrkt⟩:=hndt.open
 have hn_hrit:=hrit.len;have hx_hrit:_≤1099511627776:=hrit.lim
 have hn_hrkt:=hrkt.len;have hx_hrkt:_≤1099511627776:=hrkt.lim
 obtain⟨aps,kps,rfl⟩:=hps.shape
 have hlimps:ps.length≤1099511627776:=hps.lim
 have H:=Hp.init hG
 refine calls_of_W (l:=[.pointer (some ⟨t.b,0,none⟩),.slice aps ps.length kps]) func118 Z ntmps118 Z (q2 (aG Z (q3 (W_seq (q2 (mV Z (lN Z (mV Z (q3 (W_block ?_))))))))))
 refine W_lp (hf:=(Sub.cons (t:=9) Z (Sub.cons (t:=10) Z Sub.nil))) (J:=fun M w m=>∃(k:Nat) (d:Nd) (G:PH),M=[(11,.int .i64 (k:Int)),(0,.pointer (some ⟨d.b,0,none⟩))]∧PLe G0 G∧Hp w0 G0 [] w G []∧(k≤ps.length∧RdN G d∧d.wf∧t.at_ (ps.take k)=some d)∧m=(ps.length-k)) (h0:=⟨0,t,_,Z,PLe.refl _,H,?inv,Z⟩) (round:=?round)
 case inv=>exact⟨by omega,hndt,hwt,rfl⟩
 case round =>
  rintro _ _ _ ⟨k,d,_,rfl,hle1,H,hinv1,rfl⟩
  have hps:=hps.up hle1
  obtain⟨_,hnd0,hwd,hat⟩:=hinv1;obtain⟨_,_,_,_,_,_,_,hpr0,_,hrk0⟩:=hnd0.open;have hn_hrk0:=hrk0.len
  refine q2 (pe 1 Z (q3 (W_seq ?_)))
  refine W_cond Z ?_ ?_
  ·intro hc2
   try simp only[nrm]at hc2
   refine W_skip (N_K (W_seq (W_block (q2 (iP k hps Z3 Z ?_)))));intro _ _ z3 _ hz3 hE3 hrow3
   obtain⟨rfl,hi3⟩:=hE3;have hy_hi3:_≤16777216:=hi3
   refine lP H hrow3 0 Z2 (aG Z (q1 (pe 2 Z (xr H Z2 (i_place_c _ _ H.sub _ hnd0 _ hi3 hwd) ?_))));intro _ H
   refine pe 5 Z (q3 (W_seq (q2 (pe 2 Z (q3 ?_)))))
   refine W_cond Z ?_ ?_
   ·intro hc5
    try simp only[nrm]at hc5
    refine q2 (aG Z (q3 (W_ret (N_K_ret (N_B_ret (N_K_ret (N_LP_ret (N_B_ret (N_K_ret (rt1 results118 Z ?_))))))))))
    exact H.retV (.inl ⟨Nd.at_stop hz3 hat (by simpa [Sp.fd,Nd.kid] using hc5),rfl⟩)
   intro hc5'
   try simp only[nrm]at hc5'
   obtain⟨q,hq⟩:=Option.isSome_iff_exists.1 hc5'
   have hpl:d.kids[Sp.pl d.kids z3]? = some q:=Nd.place_some hwd hq
   have hlt:Sp.pl d.kids z3<d.kids.length:=(List.getElem?_eq_some_iff.1 hpl).1
   refine W_skip (N_K (W_region (pe 2 Z (fA 3 Z (lP H hpr0 3 Z2 (mV Z (iP (Sp.pl d.kids z3) hrk0 Z3 Z ?_)))))));intro _ _ z6 _ hz6 hE6 hrow6
   obtain⟨rfl,hnd6⟩:=hE6;obtain⟨_,_,_,_,_,_,_,_,hri6,hrk6⟩:=hnd6.open;have hn_hri6:=hri6.len;have hx_hri6:_≤1099511627776:=hri6.lim;have hn_hrk6:=hrk6.len;have hx_hrk6:_≤1099511627776:=hrk6.lim
   have hkid:Nd.kid d z3=some z6:=by (show Sp.fd _ _=_);rw[hq];exact hpl.symm.trans hz6
   refine lP H hrow6 0 Z2 (aG Z (R_nil (N_B (N_K (W_region (aD Z2 (mV Z (R_nil ?_))))))))
   refine N_lp (hJ:=⟨k+1,z6,_,Z,hle1,H,?inv,Z⟩) (hm:=?hm)
   case hm=>omega
   case inv=>exact⟨by omega,hnd6,(((Nd.wf_iff _).1 hwd).2 _ (List.mem_of_getElem? hz6)).2,by rw[Nd.at_step hz3 hat];exact hkid⟩
  intro hc2'
  try simp only[nrm]at hc2'
  refine W_exit (N_K_exit (N_LP_exit (N_B_same (N_K (q2 (pe 2 Z (q3 (W_ret (rt1 results118 Z ?_)))))))))
  exact H.retV (.inr ⟨d,by rw[←hat,List.take_of_length_le oM],rfl⟩)
theorem i_dirOf_c (w0:World)(G0:PH)(hG:PSub G0 w0)(t:Nd)(hndt:RdN G0 t)(path:Bs)(hpath:path.length≤16777216)(hwt:t.wf) :
  Calls Tryz.prog 117 #[.pointer (some ⟨t.b,0,none⟩),str path] w0 (RetV w0 (fun v=>(t.dirOf path=none∧v= .tuple #[.pointer none,str []])∨(∃d nm,t.dirOf path=some (d,nm)∧v= .tuple #[.pointer (some ⟨d.b,0,none⟩),str nm]))):=by
 obtain⟨_,_,_,_,_,_,_,hprt,hrit,hrkt⟩:=hndt.open
 have hn_hrit:=hrit.len;have hx_hrit:_≤1099511627776:=hrit.lim
 have hn_hrkt:=hrkt.len;have hx_hrkt:_≤1099511627776:=hrkt.lim
 have H:=Hp.init hG
 refine calls_of_W (l:=[.pointer (some ⟨t.b,0,none⟩),str path]) func117 Z ntmps117 Z (q2 (pe 2 Z (q1 (mV Z (xc Z2 (i_PathParts_c _ _ H.sub _ hpath) ?_)))))
 rintro _ _ ⟨G1,_,g1,rfl,hr1_0⟩
 have H:=H.grow g1
 have hndt:=hndt.up g1.le
 obtain⟨_,_,rfl⟩:=hr1_0.shape;have hx_hr1_0:_≤1099511627776:=hr1_0.lim
 refine⟨_,Z,?_⟩
 refine aG Z (q3 (W_seq (q2 (mV Z (lN Z (pe 1 Z (q3 ?_)))))))
 refine W_cond Z ?_ ?_
 ·intro hc2
  try simp only[nrm]at hc2
  refine q2 (pe 2 Z (q3 (W_ret (N_K_ret (rt2 results117 Z Z ?_)))))
  exact H.retV (.inl ⟨Nd.dirOf_nil oM,Z⟩)
 intro hc2'
 try simp only[nrm]at hc2'
 refine W_skip (N_K (q2 (mV Z (lN Z (o_sub Z Z Z oO (aG Z (q1 (pe 3 Z ?_))))))))
 have hcap4:=hr1_0.cap;try simp only[List.length_set,List.length_append,List.length_take,List.length_drop,List.length_replicate]at hcap4
 refine o_slice_to (j:=((Sp.parts path).length-1)) underlying182 sizeOf9 Z Z Z oM oM ?_
 have hsl4:=hr1_0.take (j:=((Sp.parts path).length-1)) aN
 have hsn1:=hsl4.len
 refine xc Z2 (i_at_c _ _ H.sub _ hndt _ _ hsl4 hwt) ?_
 rintro _ _ ⟨_,rfl,ew5,⟨hat5,rfl⟩|⟨_,hat5,rfl⟩⟩
 ·skip
  have H:=H.step ew5;refine⟨_,rfl,?_⟩
  refine aG Z (q3 (W_seq (q2 (mV Z (o_eqnil_ptr underlying84 Z Z Z (pe 7 Z (q3 (W_true Z (q2 (pe 2 Z (q3 (W_ret (N_K_ret (rt2 results117 Z Z ?_))))))))))))))
  exact H.retV (.inl ⟨Nd.dirOf_no oM hat5,Z⟩)
 skip
 have H:=H.step ew5;refine⟨_,rfl,?_⟩
 have hnd5:=hndt.at hat5;obtain⟨_,_,_,_,_,_,_,hpr5,hri5,hrk5⟩:=hnd5.open
 have hn_hri5:=hri5.len;have hx_hri5:_≤1099511627776:=hri5.lim
 have hn_hrk5:=hrk5.len;have hx_hrk5:_≤1099511627776:=hrk5.lim
 refine aG Z (q3 (W_seq (q2 (mV Z (o_eqnil_ptr underlying84 Z Z Z (pe 3 Z (gR Z (fA 1 Z (gR Z (lP H hpr5 1 Z2 (pe 2 Z (q3 ?_))))))))))))
 refine W_cond Z ?_ ?_
 ·intro hc6
  try simp only[nrm]at hc6
  refine q2 (pe 2 Z (q3 (W_ret (N_K_ret (rt2 results117 Z Z ?_)))))
  exact H.retV (.inl ⟨Nd.dirOf_nodir oM hat5 (by simpa using hc6),rfl⟩)
 intro hc6'
 try simp only[nrm]at hc6'
 refine W_skip (N_K (W_seq (W_drawK [] 7 H kR Z ?_)));intro _ H;have hd7:=PLe.refl G1
 refine dE 0 Z2 (dE 1 Z2 (dE 2 Z2 ?_))
 have hl8:=hr1_0.len
 obtain⟨_,_,_,_,ha8,hz8,hq8,hE8,hrow8,_⟩:=hr1_0.at (i:=((Sp.parts path).length-1)) oM
 clear hq8
 obtain⟨rfl,hi8⟩:=hE8;have hy_hi8:_≤16777216:=hi8
 refine dI 3 1 ((Sp.parts path).length-1) ha8 Z3 oM (dP 4 hrow8 0 Z3 (dE 5 Z2 (dE 6 Z2 (rz (N_K (W_ret (rt2 results117 Z Z ?_)))))))
 exact H.retV (.inr ⟨_,_,Nd.dirOf_yes oM hz8 hat5 (by simpa using hc6'),rfl⟩)
theorem i_find_n_c (w0:World)(G0:PH)(hG:PSub G0 w0)(t:Nd)(hndt:RdN G0 t)(path:Bs)(hpath:path.length≤16777216)(hwt:t.wf) :
  Calls Tryz.prog 50 #[.pointer (some ⟨t.b,0,none⟩),str path] w0 (RetV w0 (fun v=>(t.find path=none∧v= .pointer none)∨(∃d,t.find path=some d∧v= .pointer (some ⟨d.b,0,none⟩)))):=by
 obtain⟨_,_,_,_,_,_,_,_,hrit,hrkt⟩:=hndt.open
 have hn_hrit:=hrit.len;have hx_hrit:_≤1099511627776:=hrit.lim
 have hn_hrkt:=hrkt.len;have hx_hrkt:_≤1099511627776:=hrkt.lim
 have H:=Hp.init hG
 refine calls_of_W (l:=[.pointer (some ⟨t.b,0,none⟩),str path]) func50 Z ntmps50 Z (q2 (aG Z (q1 (pe 2 Z (xc Z2 (i_dirOf_c _ _ H.sub _ hndt _ hpath hwt) ?_)))))
 rintro _ _ ⟨_,rfl,ew1,⟨hdf1,rfl⟩|⟨_,nm1,hdf1,rfl⟩⟩
 ·skip
  have H:=H.step ew1;refine⟨_,rfl,?_⟩
  refine pe 5 Z (q3 (W_seq (q2 (mV Z (o_eqnil_ptr underlying84 Z Z Z (q3 (W_true Z (q2 (aG Z (q3 (W_ret (N_K_ret (rt1 results50 Z ?_)))))))))))))
  exact H.retV (.inl ⟨Nd.find_no hdf1,Z⟩)
 skip
 have H:=H.step ew1;refine⟨_,rfl,?_⟩
 have hnml1:=Nd.dir_len hdf1
 have hnd1:=hndt.at (Nd.dirOf_some hdf1).2.2.1;obtain⟨_,_,nm1,_,_,_,_,_,hri1,hrk1⟩:=hnd1.open
 have hn_hri1:=hri1.len;have hx_hri1:_≤1099511627776:=hri1.lim
 have hn_hrk1:=hrk1.len;have hx_hrk1:_≤1099511627776:=hrk1.lim
 refine pe 5 Z (q3 (W_seq (q2 (mV Z (o_eqnil_ptr underlying84 Z Z Z (q3 (W_false Z (W_skip (N_K (q2 (pe 2 Z (xbs H Z7 ?_))))))))))));intro _ _ _ H
 have H:=H.blkAcc 1 (k:=0) (n:=1) rfl rfl (by decide)
 have hchk4:=((Chk.nil (E:=strE) (sz:=1) (G:=G0)).snoc (show strE _ _ _ from⟨rfl,hnml1⟩) rfl)
 refine xc Z2 (i_at_c _ _ (H.lendSubL [0]) _ (hnd1.up (PPlus.le _ _ _)) _ _ (H.lendRdL (k:=0) (ks:=[0]) Z Z hchk4 aN aN) (Nd.dir_wf hwt hdf1)) ?_
 rintro _ _ ⟨_,rfl,ew3,⟨hat3,rfl⟩|⟨_,hat3,rfl⟩⟩
 ·skip
  have H:=H.step ew3;refine⟨_,rfl,?_⟩
  refine aG Z (q3 (W_ret (rt1 results50 Z ?_)))
  exact H.retV (.inl ⟨(Nd.find_yes hdf1).trans hat3,Z⟩)
 skip
 have H:=H.step ew3;refine⟨_,rfl,?_⟩
 have hnd3:=hnd1.at hat3;obtain⟨_,_,_,_,_,_,_,_,hri3,hrk3⟩:=hnd3.open
 have hn_hri3:=hri3.len;have hx_hri3:_≤1099511627776:=hri3.lim
 have hn_hrk3:=hrk3.len;have hx_hrk3:_≤1099511627776:=hrk3.lim
 refine aG Z (q3 (W_ret (rt1 results50 Z ?_)))
 exact H.retV (.inr ⟨_,(Nd.find_yes hdf1).trans hat3,Z⟩)
theorem l_Insert_c (w0:World)(G0:PH)(hG:PSub G0 w0)(vkids:Value)(kids:List Nd)(i:Nat)(hi:i≤kids.length)(hkl:kids.length≤1099511627776)(vbk:Nat)(k:Nd)(hLent:Lent w0 G0 [acc 84 1 vkids kids.length (ptrs kids),blk vbk (cl [ptr k.b] 84)]) :
  Calls Tryz.prog 172 #[vkids,.int .i64 (i:Int),.slice (some ⟨vbk,0,none⟩) 1 1] w0 (RetM w0 G0 (fps [acc 84 1 vkids kids.length (ptrs kids),blk vbk (cl [ptr k.b] 84)]) (fun G' v Bs=>∃(c:List Value),Bs=[acc 84 1 v (kids.length+1) c]∧c=ptrs (kids.take i++k::kids.drop i))):=by
 have H:Hp w0 G0 (fps [acc 84 1 vkids kids.length (ptrs kids),blk vbk (cl [ptr k.b] 84)]) w0 G0 [acc 84 1 vkids kids.length (ptrs kids),blk vbk (cl [ptr k.b] 84)]:=hLent.hp
 obtain⟨akids,ckids,rfl⟩:=H.accShape (k:=0) rfl
 refine calls_of_W (l:=[.slice akids kids.length ckids,.int .i64 (i:Int),.slice (some ⟨vbk,0,none⟩) 1 1]) func172 Z ntmps172 Z (q2 (aG Z (q1 (pe 2 Z ?_))))
 have hac1:=H.accCap (k:=0) rfl
 refine o_slice_from (i:=i) underlying88 sizeOf84 Z Z Z Z oM (q1 (mV Z (lN Z (aG Z (q3 (W_seq (q2 (pe 2 Z (q3 ?_)))))))))
 refine W_cond Z ?_ ?_
 ·intro hc2
  try simp only[nrm]at hc2
  exact absurd hc2 (by decide)
 intro hc2'
 try simp only[nrm]at hc2'
 refine W_skip (N_K (q2 (mV Z (lN Z (aG Z (q3 (W_seq (q2 (pe 3 Z (q3 ?_))))))))))
 refine W_cond Z ?_ ?_
 ·intro hc3
  try simp only[nrm]at hc3
  refine q2 (pe 2 Z ?_)
  refine o_append 0 H underlying88 typeInfo84 ⟨_,Z,Z⟩ Z Z Z Z Z Z Z (news:=[ptr k.b]) Z (fun j u hu=>by (rw[Nat.zero_add]);exact blk_cell (k:=1) H rfl (by simpa using hu)) (by simp[ptr,Value.oneCell']) oM (by decide) ?_;intro _ _ H
  refine aG Z (q3 (W_ret (N_K_ret (rt1 results172 Z ?_))))
  have H:=H.dl 1
  exact H.retM ⟨_,rfl,by (obtain rfl:i=kids.length:=by omega);(rw[List.take_length,List.drop_length]);simp[ptrs]⟩
 intro hc3'
 try simp only[nrm]at hc3'
 obtain⟨b0,_,_,hv0,_⟩:=H.accBlk (k:=0) (i:=i) rfl oM;cases hv0
 have hvk:vbk≠b0:=fun e=>by subst e;have:=H.nd;simp[fps,acc_fp,blk]at this
 have hcc:=H.accCap (k:=0) rfl
 have hcm:=H.accMax (k:=0) rfl
 refine W_skip (N_K (W_seq (q2 (pe 2 Z (aD Z2 (mV Z (o_cap underlying88 Z Z (pe 1 Z (q3 ?_)))))))))
 refine W_cond Z ?_ ?_
 ·intro hc6
  try simp only[nrm]at hc6
  refine q2 (pe 2 Z ?_)
  have hac7:=H.accCap (k:=0) rfl
  refine o_slice_to (j:=i) underlying88 sizeOf84 Z Z Z Z oM (pe 2 Z (aD Z2 (mV Z (o_sub Z Z Z oO (o_appmk 0 H (kids.length+1-i) underlying88 underlying3 typeInfo84 Z Z Z Z Z Z Z Z oM Z oM oM oM oM ?_)))));intro _ _ _ H _ _
  refine aG Z (q1 (pe 2 Z (o_slice_from1 (i:=i) underlying88 sizeOf84 Z Z Z oM oM oM (mV Z ?_))))
  refine o_copy 0 H ([ptr k.b]) underlying88 typeInfo84 Z Z Z Z Z (by simp[Nat.min_def]<;>(try split)<;>omega) (fun j v hj=>by (rw[Addr.add_lit,Nat.zero_add]);exact blk_cell (k:=2) H rfl (by simpa using hj)) (by intro v hv;first|exact ptrs_one v (List.mem_of_mem_drop hv)|(simp at hv;subst hv;rfl)) (by simp;try omega) ?_;intro _ H
  refine q3 (W_seq (W_drawK [2] 9 H kR Z ?_));intro _ H;have hd12:=PLe.refl G0
  refine dE 0 Z2 (dE 1 Z2 (dE 2 Z2 (RD_t 3 Z kR Z (fun _ hK=>v_add Z Z oO) (RD_t 4 Z kR Z (fun _ hK=>v_slice_from1 (i:=(i+1)) underlying88 sizeOf84 Z Z oM oM oM) (dE 5 Z2 (dE 6 Z2 (RD_t 7 Z kR Z (fun _ hK=>v_slice_from1 (i:=i) underlying88 sizeOf84 Z Z oM oM oM) (r1 8 Z ?_))))))))
  refine o_copy 0 H ((ptrs kids).drop i) underlying88 typeInfo84 Z Z Z Z Z (by simp[Nat.min_def]<;>(try split)<;>omega) (fun j v hj=>by (rw[Addr.add_lit]);(rw[List.getElem?_drop]at hj);exact acc_cell (k:=1) H rfl (by first|exact hj|(rw[List.getElem?_append_left (List.getElem?_eq_some_iff.1 hj).1];exact hj))) (by intro v hv;first|exact ptrs_one v (List.mem_of_mem_drop hv)|(simp at hv;subst hv;rfl)) (by simp;try omega) ?_;intro _ H
  refine q4 H hd12 (rz (N_K (q2 (pe 2 Z (q3 (W_ret (N_K_ret (rt1 results172 Z ?_))))))))
  have H:=H.dl 1
  have H:=H.dl 1
  have hcx:=(insC2 (x:=ptr k.b) (z:= .pointer none) (i:=i) (r:=kids.length+1-i) (c:=ptrs kids) (by simp;omega) (by simp;omega)).trans (ptrs_ins kids k i)
  exact H.retM ⟨_,acc_1 oM,hcx⟩
 intro hc6'
 try simp only[nrm]at hc6'
 refine W_skip (N_K (q2 (pe 3 Z (aD Z2 (o_slice_to (j:=kids.length+1) underlying88 sizeOf84 Z Z Z oM oM ?_)))))
 obtain⟨_,H⟩:=H.accMore (k:=0) rfl oM
 refine aG Z (q3 (W_seq (q2 (pe 4 Z (aD Z2 (o_slice_from1 (i:=(i+1)) underlying88 sizeOf84 Z Z Z oM oM oM (o_overlaps 0 1 H (fun args w=>run_callFunc_extern func204 kR kR kR (e:=Extern.SlicesOverlaps.overlaps #[88,88] #[4]) kR args w) underlying88 sizeOf84 Z Z Z Z hvk oM (pe 1 Z (q3 (W_true Z (W_seq (W_drawK [1] 9 H kR Z ?_))))))))))));intro _ H;have hd17:=PLe.refl G0
 refine dE 0 Z2 (dE 1 Z2 (dE 2 Z2 (RD_t 3 Z kR Z (fun _ hK=>v_add Z Z oO) (RD_t 4 Z kR Z (fun _ hK=>v_slice_from1 (i:=(i+1)) underlying88 sizeOf84 Z Z oM oM oM) (dE 5 Z2 (dE 6 Z2 (RD_t 7 Z kR Z (fun _ hK=>v_slice_from1 (i:=i) underlying88 sizeOf84 Z Z oM oM oM) (r1 8 Z ?_))))))))
 refine o_copy 0 H ((ptrs kids).drop i) underlying88 typeInfo84 Z Z Z Z Z (by simp[Nat.min_def]<;>(try split)<;>omega) (fun j v hj=>by (rw[Addr.add_lit]);(rw[List.getElem?_drop]at hj);exact acc_cell (k:=0) H rfl (by first|exact hj|(rw[List.getElem?_append_left (List.getElem?_eq_some_iff.1 hj).1];exact hj))) (by intro v hv;first|exact ptrs_one v (List.mem_of_mem_drop hv)|(simp at hv;subst hv;rfl)) (by simp;try omega) ?_;intro _ H
 refine q4 H hd17 (rz (N_K (q2 (pe 2 Z (o_slice_from1 (i:=i) underlying88 sizeOf84 Z Z Z oM oM oM (mV Z ?_))))))
 refine o_copy 0 H ([ptr k.b]) underlying88 typeInfo84 Z Z Z Z Z (by simp[Nat.min_def]<;>(try split)<;>omega) (fun j v hj=>by (rw[Addr.add_lit,Nat.zero_add]);exact blk_cell (k:=1) H rfl (by simpa using hj)) (by intro v hv;first|exact ptrs_one v (List.mem_of_mem_drop hv)|(simp at hv;subst hv;rfl)) (by simp;try omega) ?_;intro _ H
 refine q1 (pe 2 Z (q3 (W_ret (N_K_ret (rt1 results172 Z ?_)))))
 have H:=H.dl 1
 exact H.retM ⟨_,rfl,(insC (by simp;omega)).trans (ptrs_ins kids k i)⟩
theorem l_Delete_c (w0:World)(G0:PH)(hG:PSub G0 w0)(vkids:Value)(kids:List Nd)(i:Nat)(hi:i<kids.length)(hkl:kids.length≤1099511627776)(hLent:Lent w0 G0 [acc 84 1 vkids kids.length (ptrs kids)]) :
  Calls Tryz.prog 216 #[vkids,.int .i64 (i:Int),.int .i64 ((i:Int)+1)] w0 (RetM w0 G0 (fps [acc 84 1 vkids kids.length (ptrs kids)]) (fun G' v Bs=>∃(c:List Value),Bs=[acc 84 1 v (kids.length-1) c]∧c=ptrs (kids.take i++kids.drop (i+1)))):=by
 have H:Hp w0 G0 (fps [acc 84 1 vkids kids.length (ptrs kids)]) w0 G0 [acc 84 1 vkids kids.length (ptrs kids)]:=hLent.hp
 obtain⟨akids,ckids,rfl⟩:=H.accShape (k:=0) rfl
 refine calls_of_W (l:=[.slice akids kids.length ckids,.int .i64 (i:Int),.int .i64 ((i:Int)+1)]) func216 Z ntmps216 Z (q2 (aG Z (q1 (pe 4 Z (lN Z ?_)))))
 have hcc:=H.accCap (k:=0) rfl
 refine o_slice3 (i:=i) (j:=i+1) (k:=kids.length) underlying88 sizeOf84 Z Z Z Z Z Z oM Z oM oM oM (q3 (W_seq (q2 (pe 3 Z (q3 ?_)))))
 refine W_cond Z ?_ ?_
 ·intro hc1
  try simp only[nrm]at hc1
  omega
 intro hc1'
 try simp only[nrm]at hc1'
 refine W_skip (N_K (q2 (mV Z (lN Z (aG Z (q3 (W_seq (W_drawK [] 8 H kR Z ?_))))))));intro _ H;have hd2:=PLe.refl G0
 refine dE 0 Z2 (dE 1 Z2 ?_)
 have hac3:=H.accCap (k:=0) rfl
 refine RD_t 2 Z kR Z (fun _ hK=>v_slice_to (j:=i) underlying88 sizeOf84 Z Z Z oM) (dE 3 Z2 (dE 4 Z2 ?_))
 have hac4:=H.accCap (k:=0) rfl
 refine RD_t 5 Z kR Z (fun _ hK=>v_slice_from (i:=(i+1)) underlying88 sizeOf84 Z Z oM oM) (r1 6 Z ?_)
 refine o_append_del 0 H i Z (chkK kids) (by intro _ _ hz _ hu;obtain rfl:=hz;simp at hu;subst hu;rfl) underlying88 typeInfo84 rfl rfl rfl rfl oM aN ?_;intro _ _ hb5 H _;cases hb5
 refine q4 H hd2 (dE 7 Z2 (rz (N_K (q2 (pe 2 Z (lN Z (mV Z ?_)))))))
 have hcc2:=H.accCap (k:=0) rfl
 refine o_slice_mid1 (i:=i+(kids.length-(i+1))) (j:=kids.length) underlying88 sizeOf84 Z Z Z Z Z Z oM oM oM ?_
 refine o_clear1 0 H underlying88 zeroValue84 Z Z (show od _ _=_ from(show od _ _=some (.slice _ (kids.length-(i+(kids.length-(i+1)))) _) from Z).trans (by rw[show kids.length-(i+(kids.length-(i+1)))=1 by omega])) Z oM (by simp;omega) ?_;intro _ H
 refine q1 (pe 2 Z (q3 (W_ret (rt1 results216 Z ?_))))
 exact H.retM ⟨_,acc_1 oM,(by (rw[Nat.mul_one,Nat.mul_one]);exact ptrs_del kids i)⟩
theorem i_insert_c (w0:World)(G0:PH)(hG:PSub G0 w0)(Ft:Fr)(t:Nd)(hNt:NdO 90 84 G0 t Ft)(cx:List Value)(x:BItem)(hx:itemE G0 x cx)(hLent:Lent w0 G0 [frag Ft])(hwt:t.wf)(hct:t.cnt≤1000) :
  Calls Tryz.prog 116 #[.pointer (some ⟨t.b,0,none⟩),.agg cx.toArray] w0 (RetM w0 G0 (fps [frag Ft]) (fun G' v Bs=>∃(nb:Nat) (F':Fr) (t':Nd),v= .bool (t.ins x nb).isSome∧Bs=[frag F']∧NdO 90 84 G' t' F'∧t'.b=t.b∧(t.ins x nb).getD t=t')):=by
 obtain⟨_,_,_,rfl,hi1,hr1,_,_⟩:=ox hx
 have H:Hp w0 G0 (fps [frag Ft]) w0 G0 [frag Ft]:=hLent.hp
 refine calls_of_W (l:=[.pointer (some ⟨t.b,0,none⟩),_]) func116 Z ntmps116 Z (q2 (o_box H Z Z Z ?_));intro _ _ _ H
 refine aG Z (q1 (mV Z (fA 0 Z (lB 0 H Z3 (xc Z2 (i_dirOf_c _ _ (H.lendSubL [1]) _ ((H.lendN (k:=1) (ks:=[1]) Z Z hNt).at (show Nd.at_ t []=some t from Z)) _ hi1 hwt) ?_)))))
 rintro _ _ ⟨_,rfl,ew3,⟨hdf3,rfl⟩|⟨d3,nm3,hdf3,rfl⟩⟩
 ·skip
  have H:=H.step ew3;refine⟨_,rfl,?_⟩
  refine pe 5 Z (q3 (W_seq (q2 (mV Z (o_eqnil_ptr underlying84 Z Z Z (q3 (W_true Z (q2 (aG Z (q3 (W_ret (N_K_ret (rt1 results116 Z ?_)))))))))))))
  have H:=H.dl 0
  exact H.retM ⟨0,_,_,by (rw[(Nd.ins_no1 hdf3)];rfl),rfl,hNt,rfl,by (rw[(Nd.ins_no1 hdf3)];rfl)⟩
 skip
 have H:=H.step ew3;refine⟨_,rfl,?_⟩
 have hnml3:=Nd.dir_len hdf3
 refine pe 5 Z (q3 (W_seq (q2 (mV Z (o_eqnil_ptr underlying84 Z Z Z (q3 (W_false Z (W_skip (N_K (q2 (pe 2 Z (xr H Z2 (i_place_c _ _ (H.lendSubL [1]) _ ((H.lendN (k:=1) (ks:=[1]) Z Z hNt).at (Nd.dirOf_some hdf3).2.2.1) _ hnml3 (Nd.dir_wf hwt hdf3)) ?_))))))))))));intro _ H
 refine pe 5 Z (q3 (W_seq (q2 (mV Z (q3 ?_)))))
 refine W_cond Z ?_ ?_
 ·intro hc5
  try simp only[nrm]at hc5
  refine q2 (aG Z (q3 (W_ret (N_K_ret (rt1 results116 Z ?_)))))
  have H:=H.dl 0
  exact H.retM ⟨0,_,_,by (rw[(Nd.ins_no2 hdf3 (by simpa using hc5))];rfl),rfl,hNt,rfl,by (rw[(Nd.ins_no2 hdf3 (by simpa using hc5))];rfl)⟩
 intro hc5'
 try simp only[nrm]at hc5'
 have H:=H.tF 1
 obtain⟨_,_,_,_,_,oR,H,ohri,ohNs,_,_,hcov,hclose⟩:=Hp.openNode H hNt (Nd.dirOf_some hdf3).2.2.1
 obtain⟨_,_,rfl⟩:=H.accShape (k:=1) rfl;have hdo:=PLe.refl G0;have hn_ohri:=ohri.len
 refine W_skip (N_K (W_seq (W_drawK [3] 19 H kR Z ?_)));intro _ H;have hd6:=PLe.refl G0
 refine dE 0 Z2 (dE 1 Z2 (dE 2 Z2 (dF 3 3 Z2 (dE 5 Z2 (dE 6 Z2 (dF 7 1 Z2 (dB 8 0 Z4 (dF 9 2 Z2 (dB 10 0 Z4 ?_)))))))))
 refine r2 4 11 Z2 ?_ ?_
 ·skip
  refine lB 0 H Z3 (q4 H hd6 (r1 11 Z (xc Z2 (l_Clone_c _ _ H.sub _ _ hr1) ?_)))
  rintro _ _ ⟨_,_,_,g7,rfl,⟨_,rfl,hchk7⟩,hp7,hq7,hs7⟩
  have H:=H.growO g7 hp7 hq7 hs7;obtain⟨_,_,rfl⟩:=H.accShape (k:=0) rfl
  have ohri:=ohri.up g7.le
  have ohNs:=ohNs.up g7.le
  have hdo:=hdo.trans g7.le
  have hd6:=hd6.trans g7.le
  refine⟨_,Z,?_⟩
  obtain⟨_,H,hsg8,hsr8⟩:=H.shutL (k:=0) rfl (H.apart (k:=0) (ks:=[1,2,3]) rfl rfl (by intro b hb;rcases hcov b hb with h|h|h;(· exact fpsAt_mem (k:=1) rfl rfl b (by simp[blk,h]));(· exact fpsAt_mem (k:=2) rfl rfl b h);(· exact fpsAt_mem (k:=3) rfl rfl b h))) hchk7 aN aN
  have ohri:=ohri.up hsg8
  have ohNs:=ohNs.up hsg8
  have hdo:=hdo.trans hsg8
  have hd6:=hd6.trans hsg8
  refine q4 H hd6 (RD_t 12 Z kR Z (fun _ hK=>v_build bf90 Z Z) (r1 13 Z (o_box H Z Z Z ?_)));intro b9 _ _ H
  refine q4 H hd6 (r1 14 Z (xbs H Z7 ?_));intro _ _ _ H
  refine q4 H hd6 (r1 15 Z ?_)
  have H:=H.tF 3
  refine xc Z2 (l_Insert_c _ _ H.sub _ _ _ (Sp.pl_le d3.kids nm3) oM _ (Nd.mk b9 nm3 x.dir x.ids []) H.lent2) ?_
  rintro _ _ ⟨_,_,_,rfl,H11',⟨_,rfl,rfl⟩⟩
  have ohri:=ohri.up H11'.le
  have ohNs:=ohNs.up H11'.le
  have hsr8:=hsr8.up H11'.le
  have hdo:=hdo.trans H11'.le
  have hd6:=hd6.trans H11'.le
  have H:=H.borrow2 H11'
  obtain⟨avAk,cvAk,rfl⟩:=H.accShape (k:=0) rfl
  refine⟨_,Z,?_⟩
  refine q4 H hd6 (dE 16 Z2 (dF 17 3 Z2 (r1 18 Z (xst 2 H Z8 ?_))));intro _ H
  refine q4 H hd6 (rz (N_K (q2 (aG Z (q3 (W_ret (rt1 results116 Z ?_)))))))
  have H:=H.sel [1,3,2,0] rfl
  have H:=H.inF
  have H:=H.tF 2
  have H:=H.tF 2
  obtain⟨Fs2,hp2,hN2⟩:=NdsO.ins (k:=Nd.mk b9 nm3 x.dir x.ids []) (Sp.pl d3.kids nm3) ohNs (NdO.new hnml3 hsr8)
  have hcd:=Nd.at_cnt (Nd.dirOf_some hdf3).2.2.1;have hcl:=Nd.kids_le d3;have hpl:=Sp.pl_le d3.kids nm3
  have hkl:(d3.kids.take (Sp.pl d3.kids nm3)++Nd.mk b9 nm3 x.dir x.ids []::d3.kids.drop (Sp.pl d3.kids nm3)).length=d3.kids.length+1:=by (simp;omega)
  obtain⟨F2,H,hN3,hb3⟩:=hclose (kids':=(d3.kids.take (Sp.pl d3.kids nm3)++Nd.mk b9 nm3 x.dir x.ids []::d3.kids.drop (Sp.pl d3.kids nm3))) (Fs':=Fs2) (by (rw[hkl]);exact H) (by (refine List.Perm.trans ?_ (List.Perm.append_right oR hp2.symm));simp) hdo ohri hN2 oM
  have hins:=Nd.ins_yes (nb:=b9) hdf3 (by simpa using hc5')
  exact H.retM ⟨b9,_,_,by (rw[hins];rfl),rfl,hN3,hb3,by (rw[hins];rfl)⟩
 skip
 refine xc Z2 (l_Clone_c _ _ H.sub _ _ hr1) ?_
 rintro _ _ ⟨_,_,_,g13,rfl,⟨_,rfl,hchk13⟩,hp13,hq13,hs13⟩
 have H:=H.growO g13 hp13 hq13 hs13;obtain⟨_,_,rfl⟩:=H.accShape (k:=0) rfl
 have ohri:=ohri.up g13.le
 have ohNs:=ohNs.up g13.le
 have hdo:=hdo.trans g13.le
 have hd6:=hd6.trans g13.le
 refine⟨_,Z,?_⟩
 obtain⟨_,H,hsg14,hsr14⟩:=H.shutL (k:=0) rfl (H.apart (k:=0) (ks:=[1,2,3]) rfl rfl (by intro b hb;rcases hcov b hb with h|h|h;(· exact fpsAt_mem (k:=1) rfl rfl b (by simp[blk,h]));(· exact fpsAt_mem (k:=2) rfl rfl b h);(· exact fpsAt_mem (k:=3) rfl rfl b h))) hchk13 aN aN
 have ohri:=ohri.up hsg14
 have ohNs:=ohNs.up hsg14
 have hdo:=hdo.trans hsg14
 have hd6:=hd6.trans hsg14
 refine q4 H hd6 (RD_t 12 Z kR Z (fun _ hK=>v_build bf90 Z Z) ?_)
 refine r2 4 13 Z2 ?_ ?_
 ·skip
  refine lB 0 H Z3 (q4 H hd6 (r1 13 Z (o_box H Z Z Z ?_)));intro b15 _ _ H
  refine q4 H hd6 (r1 14 Z (xbs H Z7 ?_));intro _ _ _ H
  refine q4 H hd6 (r1 15 Z ?_)
  have H:=H.tF 3
  refine xc Z2 (l_Insert_c _ _ H.sub _ _ _ (Sp.pl_le d3.kids nm3) oM _ (Nd.mk b15 nm3 x.dir x.ids []) H.lent2) ?_
  rintro _ _ ⟨_,_,_,rfl,H17',⟨_,rfl,rfl⟩⟩
  have ohri:=ohri.up H17'.le
  have ohNs:=ohNs.up H17'.le
  have hsr14:=hsr14.up H17'.le
  have hdo:=hdo.trans H17'.le
  have hd6:=hd6.trans H17'.le
  have H:=H.borrow2 H17'
  obtain⟨avAk,cvAk,rfl⟩:=H.accShape (k:=0) rfl
  refine⟨_,Z,?_⟩
  refine q4 H hd6 (dE 16 Z2 (dF 17 3 Z2 (r1 18 Z (xst 2 H Z8 ?_))));intro _ H
  refine q4 H hd6 (rz (N_K (q2 (aG Z (q3 (W_ret (rt1 results116 Z ?_)))))))
  have H:=H.sel [1,3,2,0] rfl
  have H:=H.inF
  have H:=H.tF 2
  have H:=H.tF 2
  obtain⟨Fs2,hp2,hN2⟩:=NdsO.ins (k:=Nd.mk b15 nm3 x.dir x.ids []) (Sp.pl d3.kids nm3) ohNs (NdO.new hnml3 hsr14)
  have hcd:=Nd.at_cnt (Nd.dirOf_some hdf3).2.2.1;have hcl:=Nd.kids_le d3;have hpl:=Sp.pl_le d3.kids nm3
  have hkl:(d3.kids.take (Sp.pl d3.kids nm3)++Nd.mk b15 nm3 x.dir x.ids []::d3.kids.drop (Sp.pl d3.kids nm3)).length=d3.kids.length+1:=by (simp;omega)
  obtain⟨F2,H,hN3,hb3⟩:=hclose (kids':=(d3.kids.take (Sp.pl d3.kids nm3)++Nd.mk b15 nm3 x.dir x.ids []::d3.kids.drop (Sp.pl d3.kids nm3))) (Fs':=Fs2) (by (rw[hkl]);exact H) (by (refine List.Perm.trans ?_ (List.Perm.append_right oR hp2.symm));simp) hdo ohri hN2 oM
  have hins:=Nd.ins_yes (nb:=b15) hdf3 (by simpa using hc5')
  exact H.retM ⟨b15,_,_,by (rw[hins];rfl),rfl,hN3,hb3,by (rw[hins];rfl)⟩
 skip
 refine o_box H Z Z Z ?_;intro b19 _ _ H
 refine q4 H hd6 ?_
 refine r2 4 14 Z2 ?_ ?_
 ·skip
  refine lB 1 H Z3 (q4 H hd6 (r1 14 Z (xbs H Z7 ?_)));intro _ _ _ H
  refine q4 H hd6 (r1 15 Z ?_)
  have H:=H.tF 3
  refine xc Z2 (l_Insert_c _ _ H.sub _ _ _ (Sp.pl_le d3.kids nm3) oM _ (Nd.mk b19 nm3 x.dir x.ids []) H.lent2) ?_
  rintro _ _ ⟨_,_,_,rfl,H21',⟨_,rfl,rfl⟩⟩
  have ohri:=ohri.up H21'.le
  have ohNs:=ohNs.up H21'.le
  have hsr14:=hsr14.up H21'.le
  have hdo:=hdo.trans H21'.le
  have hd6:=hd6.trans H21'.le
  have H:=H.borrow2 H21'
  obtain⟨avAk,cvAk,rfl⟩:=H.accShape (k:=0) rfl
  refine⟨_,Z,?_⟩
  refine q4 H hd6 (dE 16 Z2 (dF 17 3 Z2 (r1 18 Z (xst 2 H Z8 ?_))));intro _ H
  refine q4 H hd6 (rz (N_K (q2 (aG Z (q3 (W_ret (rt1 results116 Z ?_)))))))
  have H:=H.sel [1,3,2,0] rfl
  have H:=H.inF
  have H:=H.tF 2
  have H:=H.tF 2
  obtain⟨Fs2,hp2,hN2⟩:=NdsO.ins (k:=Nd.mk b19 nm3 x.dir x.ids []) (Sp.pl d3.kids nm3) ohNs (NdO.new hnml3 hsr14)
  have hcd:=Nd.at_cnt (Nd.dirOf_some hdf3).2.2.1;have hcl:=Nd.kids_le d3;have hpl:=Sp.pl_le d3.kids nm3
  have hkl:(d3.kids.take (Sp.pl d3.kids nm3)++Nd.mk b19 nm3 x.dir x.ids []::d3.kids.drop (Sp.pl d3.kids nm3)).length=d3.kids.length+1:=by (simp;omega)
  obtain⟨F2,H,hN3,hb3⟩:=hclose (kids':=(d3.kids.take (Sp.pl d3.kids nm3)++Nd.mk b19 nm3 x.dir x.ids []::d3.kids.drop (Sp.pl d3.kids nm3))) (Fs':=Fs2) (by (rw[hkl]);exact H) (by (refine List.Perm.trans ?_ (List.Perm.append_right oR hp2.symm));simp) hdo ohri hN2 oM
  have hins:=Nd.ins_yes (nb:=b19) hdf3 (by simpa using hc5')
  exact H.retM ⟨b19,_,_,by (rw[hins];rfl),rfl,hN3,hb3,by (rw[hins];rfl)⟩
 skip
 refine xbs H Z7 ?_;intro _ _ _ H
 refine q4 H hd6 (r1 4 Z (lB 2 H Z3 (q4 H hd6 (r1 15 Z ?_))))
 have H:=H.tF 3
 refine xc Z2 (l_Insert_c _ _ H.sub _ _ _ (Sp.pl_le d3.kids nm3) oM _ (Nd.mk b19 nm3 x.dir x.ids []) H.lent2) ?_
 rintro _ _ ⟨_,_,_,rfl,H24',⟨_,rfl,rfl⟩⟩
 have ohri:=ohri.up H24'.le
 have ohNs:=ohNs.up H24'.le
 have hsr14:=hsr14.up H24'.le
 have hdo:=hdo.trans H24'.le
 have hd6:=hd6.trans H24'.le
 have H:=H.borrow2 H24'
 obtain⟨avAk,cvAk,rfl⟩:=H.accShape (k:=0) rfl
 refine⟨_,Z,?_⟩
 refine q4 H hd6 (dE 16 Z2 (dF 17 3 Z2 (r1 18 Z (xst 2 H Z8 ?_))));intro _ H
 refine q4 H hd6 (rz (N_K (q2 (aG Z (q3 (W_ret (rt1 results116 Z ?_)))))))
 have H:=H.sel [1,3,2,0] rfl
 have H:=H.inF
 have H:=H.tF 2
 have H:=H.tF 2
 obtain⟨Fs2,hp2,hN2⟩:=NdsO.ins (k:=Nd.mk b19 nm3 x.dir x.ids []) (Sp.pl d3.kids nm3) ohNs (NdO.new hnml3 hsr14)
 have hcd:=Nd.at_cnt (Nd.dirOf_some hdf3).2.2.1;have hcl:=Nd.kids_le d3;have hpl:=Sp.pl_le d3.kids nm3
 have hkl:(d3.kids.take (Sp.pl d3.kids nm3)++Nd.mk b19 nm3 x.dir x.ids []::d3.kids.drop (Sp.pl d3.kids nm3)).length=d3.kids.length+1:=by (simp;omega)
 obtain⟨F2,H,hN3,hb3⟩:=hclose (kids':=(d3.kids.take (Sp.pl d3.kids nm3)++Nd.mk b19 nm3 x.dir x.ids []::d3.kids.drop (Sp.pl d3.kids nm3))) (Fs':=Fs2) (by (rw[hkl]);exact H) (by (refine List.Perm.trans ?_ (List.Perm.append_right oR hp2.symm));simp) hdo ohri hN2 oM
 have hins:=Nd.ins_yes (nb:=b19) hdf3 (by simpa using hc5')
 exact H.retM ⟨b19,_,_,by (rw[hins];rfl),rfl,hN3,hb3,by (rw[hins];rfl)⟩
theorem i_openTree_c (w0:World)(G0:PH)(hG:PSub G0 w0)(vlist:Value)(list:List (BItem))(hlist:RdItems G0 vlist list)(hLent:Lent w0 G0 []) :
  Calls Tryz.prog 49 #[vlist] w0 (RetM w0 G0 [] (fun G' v Bs=>(v= .tuple #[.pointer none,.bool false]∧Bs=[]∧Sp.TreeValid list=false)∨(∃(T:Nd) (F:Fr),v= .tuple #[.pointer (some ⟨T.b,0,none⟩),.bool true]∧Bs=[frag F]∧NdO 90 84 G' T F∧Nd.TOK T list∧Sp.TreeValid list=true))):=by
 obtain⟨alist,klist,rfl⟩:=hlist.shape
 have hlimlist:list.length≤1099511627776:=hlist.lim
 have H:Hp w0 G0 [] w0 G0 []:=hLent.hp
 refine calls_of_W (l:=[.slice alist list.length klist]) func49 Z ntmps49 Z (q2 (pe 2 Z (q3 (W_seq (q2 (mV Z (lN Z (pe 1 Z (q3 ?_)))))))))
 refine W_cond Z ?_ ?_
 ·intro hc1
  try simp only[nrm]at hc1
  refine q2 (pe 2 Z (q3 (W_ret (N_K_ret (rt2 results49 Z Z ?_)))))
  exact H.retM (.inl ⟨Z,Z,Nd.tv_long oM⟩)
 intro hc1'
 try simp only[nrm]at hc1'
 refine W_skip (N_K (q2 (o_build bf90 Z Z Z (o_box H Z Z Z ?_))));intro b2 _ _ H
 refine aG Z (q1 (aG Z (q3 (W_seq (q2 (mV Z (lN Z (mV Z (q3 (W_block ?_))))))))))
 have H:=H.addF
 have H:=H.tF 1
 have H:=H.inF
 have hN0:NdO 90 84 G0 (Nd.mk b2 [] true [] []) _:=NdO.new (by simp) (RdS.nil _ _ _)
 refine W_lp (hf:=(Sub.cons (t:=13) Z (Sub.cons (t:=14) Z Sub.nil))) (J:=fun M w m=>∃(k:Nat) (la:Bs) (T:Nd) (FT:Fr) (G:PH),M=[(15,.int .i64 (k:Int)),(5,str la),(4,.pointer (some ⟨T.b,0,none⟩))]∧PLe G0 G∧Hp w0 G0 [] w G [frag FT]∧(k≤list.length∧la=Nd.lastPath list k∧la.length≤16777216∧NdO 90 84 G T FT∧Nd.TOK T (list.take k))∧m=(list.length-k)) (h0:=⟨0,[],(Nd.mk b2 [] true [] []),_,_,Z,PLe.refl _,H,?inv,Z⟩) (round:=?round)
 case inv=>exact⟨by omega,rfl,by simp,hN0,Nd.tok_root _⟩
 case round =>
  rintro _ _ _ ⟨k,la,T,FT,_,rfl,hle3,H,hinv3,rfl⟩
  have hlist:=hlist.up hle3
  obtain⟨_,hla,_,hNT,hTok⟩:=hinv3
  refine q2 (pe 1 Z (q3 (W_seq ?_)))
  refine W_cond Z ?_ ?_
  ·intro hc4
   try simp only[nrm]at hc4
   refine W_skip (N_K (W_seq (W_block (q2 (iP k hlist Z3 Z ?_)))));intro _ _ z5 _ hz5 hE5 hrow5
   obtain⟨_,_,_,rfl,hi5,hr5,_,_⟩:=ox hE5
   refine o_loadagg_P H isAgg41 sizeOf41 Z Z hrow5 Z (xal H Z ?_);intro _ _ _ H
   refine xst 0 H Z8 ?_;intro _ H
   refine q3 (W_seq (q2 (fA 0 Z (lB 0 H Z3 (mV Z (o_sleq Z Z Z (mV Z ?_)))))))
   refine R_case (t:=23) Z ?_ ?_
   ·intro hc8
    try simp only[nrm]at hc8
    refine pe 10 Z (q3 (W_true Z (q2 (pe 2 Z (q3 (W_ret (N_K_ret (N_B_ret (N_K_ret (N_LP_ret (N_B_ret (N_K_ret (rt2 results49 Z Z ?_)))))))))))))
    have H:=H.dl 0
    have H:=H.dl 0
    exact H.retM (.inl ⟨rfl,rfl,Nd.tv_false 0 hTok hz5 (.inl (by (rw[←hla]);exact Nd.leq_no (by first|simpa using hc8|(simp at hc8;exact hc8.symm))))⟩)
   intro hc8'
   try simp only[nrm]at hc8'
   refine gR Z (lA 0 3 H Z4 (gR Z (xr H Z2 (i_itemValid_c _ _ H.sub _ _ ⟨_,_,_,Z,hi5,hr5⟩) ?_)));intro _ H
   refine pe 3 Z ?_
   refine R_case (t:=28) Z ?_ ?_
   ·intro hc10
    try simp only[nrm]at hc10
    refine pe 5 Z (q3 (W_true Z (q2 (pe 2 Z (q3 (W_ret (N_K_ret (N_B_ret (N_K_ret (N_LP_ret (N_B_ret (N_K_ret (rt2 results49 Z Z ?_)))))))))))))
    have H:=H.dl 0
    have H:=H.dl 0
    exact H.retM (.inl ⟨rfl,rfl,Nd.tv_false 0 hTok hz5 (.inr (.inl (by simpa using hc10)))⟩)
   intro hc10'
   try simp only[nrm]at hc10'
   refine pe 1 Z (gR Z (lA 0 3 H Z4 (gR Z ?_)))
   have H:=H.tF 1
   refine xc Z2 (i_insert_c _ _ H.sub _ _ hNT _ _ ⟨_,_,_,Z,hi5,hr5⟩ H.lent1 hTok.wf (by have:=hTok.cnt;simp at this;omega)) ?_
   rintro _ _ ⟨_,_,_,rfl,H11',⟨nb11,F11,t11,rfl,rfl,hN11,hb11,ht11⟩⟩
   have hle3:=hle3.trans H11'.le
   have H:=H.borrow1 H11'
   try rw[←hb11]
   refine⟨_,Z,?_⟩
   refine pe 2 Z (q3 ?_)
   refine W_cond Z ?_ ?_
   ·intro hc12
    try simp only[nrm]at hc12
    refine q2 (pe 2 Z (q3 (W_ret (N_K_ret (N_B_ret (N_K_ret (N_LP_ret (N_B_ret (N_K_ret (rt2 results49 Z Z ?_))))))))))
    have H:=H.dl 0
    have H:=H.dl 0
    exact H.retM (.inl ⟨rfl,rfl,Nd.tv_false nb11 hTok hz5 (.inr (.inr (by simpa using hc12)))⟩)
   intro hc12'
   try simp only[nrm]at hc12'
   refine W_skip (N_K (W_region (fA 0 Z (lB 1 H Z3 (aG Z (R_nil (N_B (N_K (W_region (aD Z2 (mV Z (R_nil ?_))))))))))))
   have H:=H.dl 1
   refine N_lp (hJ:=⟨k+1,z5.path,t11,F11,_,Z,hle3,H,?inv,Z⟩) (hm:=?hm)
   case hm=>omega
   case inv=>exact⟨by omega,(Nd.lastPath_succ hz5).symm,by assumption,hN11,Nd.open_step hTok hz5 oM (by (rw[←hla]);exact Nd.leq_yes hc8'.1 hc8'.2) (by simpa using hc10') (Nd.getD_some ht11 (by simpa using hc12'))⟩
  intro hc4'
  try simp only[nrm]at hc4'
  refine W_exit (N_K_exit (N_LP_exit (N_B_same (N_K (q2 (pe 3 Z (q3 (W_ret (rt2 results49 Z Z ?_)))))))))
  have hTl:Nd.TOK T list:=by (have h9:=hTok;rw[List.take_of_length_le oM]at h9;exact h9)
  exact H.retM (.inr ⟨T,_,Z,Z,hNT,hTl,hTl.valid⟩)
theorem i_keep_c (w0:World)(G0:PH)(hG:PSub G0 w0)(mbs:Nat)(ess:Array MapEntry)(cks:Nat)(xss:List (Int×Value))(Ls:List BHeld)(hms:MapIs (Value.int .i64) ess cks xss)(hSs:StR G0 xss Ls)(hVs:Sp.VH Ls)(id:Int)(hLent:Lent w0 G0 [blk mbs (.map ess cks)]) :
  Calls Tryz.prog 207 #[.map (some mbs),.int .i64 id] w0 (RetM w0 G0 [mbs] (fun G' v Bs=>∃(es':Array MapEntry) (ck':Nat) (xs':List (Int×Value)) (L':List BHeld),v= .bool (Sp.StoreKeep Ls id).isSome∧Bs=[blk mbs (.map es' ck')]∧MapIs (Value.int .i64) es' ck' xs'∧StR G' xs' L'∧Sp.VH L'∧L'=(Sp.StoreKeep Ls id).getD Ls)):=by
 have H:Hp w0 G0 [mbs] w0 G0 [blk mbs (.map ess cks)]:=hLent.hp
 refine calls_of_W (l:=[.map (some mbs),.int .i64 id]) func207 Z ntmps207 Z (q2 (aG Z (q1 (pe 2 Z (o_lookS2 (H.at (k:=0) Z) hms hSs underlying147 underlying3 zeroValue139 Z Z Z ?_)))));intro _ hE1
 obtain⟨_,_,_,rfl,_,hr1,_,_,_⟩:=ox hE1
 have hfnd:True:=trivial
 refine pe 3 Z (xal H Z ?_);intro _ _ _ H
 refine xst 0 H Z8 ?_;intro _ H
 refine aG Z (q3 (W_seq (q2 (pe 3 Z ?_))))
 refine R_case (t:=15) Z ?_ ?_
 ·intro hc4
  try simp only[nrm]at hc4
  refine pe 4 Z (q3 (W_true Z (q2 (aG Z (q3 (W_ret (N_K_ret (rt1 results207 Z ?_))))))))
  have H:=H.dl 0
  exact H.retM ⟨_,_,_,_,congrArg Value.bool (by rw[Sp.keep_no hVs (.inl (by simpa using hc4))];rfl),rfl,hms,hSs,hVs,by rw[Sp.keep_no hVs (.inl (by simpa using hc4))];rfl⟩
 intro hc4'
 try simp only[nrm]at hc4'
 have hfd:(Sp.atH Ls id).isSome=true:=by simpa using hc4'
 have hgo:=Sp.get_ok hVs hfd
 refine gR Z (fA 2 Z (gR Z (lB 0 H Z3 (pe 2 Z (q3 ?_)))))
 refine W_cond Z ?_ ?_
 ·intro hc5
  try simp only[nrm]at hc5
  refine q2 (aG Z (q3 (W_ret (N_K_ret (rt1 results207 Z ?_)))))
  have H:=H.dl 0
  exact H.retM ⟨_,_,_,_,congrArg Value.bool (by rw[Sp.keep_no hVs (.inr oM)];rfl),rfl,hms,hSs,hVs,by rw[Sp.keep_no hVs (.inr oM)];rfl⟩
 intro hc5'
 try simp only[nrm]at hc5'
 have hkg:=Sp.keep_get hVs hfd oM
 refine W_skip (N_K (q2 (fA 2 Z (lB 0 H Z3 (aD Z2 (fA 2 Z (xst 0 H Z8 ?_)))))));intro _ H
 refine q1 (pe 2 Z (lA 0 3 H Z4 ?_))
 refine o_updS 1 H ⟨(getH Ls id).id,(getH Ls id).bytes,(getH Ls id).uses+1⟩ Z hms hSs underlying147 underlying3 Z Z Z (show heldE G0 ⟨(getH Ls id).id,(getH Ls id).bytes,(getH Ls id).uses+1⟩ _ from⟨_,_,_,Z,⟨by first|omega|(dsimp only;omega),by first|omega|(dsimp only;omega)⟩,hr1,⟨by first|omega|(dsimp only;omega),by first|omega|(dsimp only;omega)⟩⟩) (by exact Sp.get_id hfd) ?_;intro _ _ _ _ H hm8 hS8
 refine q1 (aG Z (q3 (W_ret (rt1 results207 Z ?_))))
 have H:=H.dl 0
 exact H.retM ⟨_,_,_,_,congrArg Value.bool (by rw[hkg.1];rfl),rfl,hm8,hS8,hkg.2,by rw[hkg.1];rfl⟩
theorem i_drop_c (w0:World)(G0:PH)(hG:PSub G0 w0)(mbs:Nat)(ess:Array MapEntry)(cks:Nat)(xss:List (Int×Value))(Ls:List BHeld)(hms:MapIs (Value.int .i64) ess cks xss)(hSs:StR G0 xss Ls)(hVs:Sp.VH Ls)(id:Int)(hLent:Lent w0 G0 [blk mbs (.map ess cks)]) :
  Calls Tryz.prog 208 #[.map (some mbs),.int .i64 id] w0 (RetM w0 G0 [mbs] (fun G' v Bs=>∃(es':Array MapEntry) (ck':Nat) (xs':List (Int×Value)) (L':List BHeld),v= .bool (Sp.StoreDrop Ls id).isSome∧Bs=[blk mbs (.map es' ck')]∧MapIs (Value.int .i64) es' ck' xs'∧StR G' xs' L'∧Sp.VH L'∧L'=(Sp.StoreDrop Ls id).getD Ls)):=by
 have H:Hp w0 G0 [mbs] w0 G0 [blk mbs (.map ess cks)]:=hLent.hp
 refine calls_of_W (l:=[.map (some mbs),.int .i64 id]) func208 Z ntmps208 Z (q2 (aG Z (q1 (pe 2 Z (o_lookS2 (H.at (k:=0) Z) hms hSs underlying147 underlying3 zeroValue139 Z Z Z ?_)))));intro _ hE1
 obtain⟨_,_,_,rfl,_,hr1,_,_,_⟩:=ox hE1
 refine pe 3 Z (xal H Z ?_);intro _ _ _ H
 refine xst 0 H Z8 ?_;intro _ H
 refine aG Z (q3 (W_seq (q2 (pe 2 Z (q3 ?_)))))
 refine W_cond Z ?_ ?_
 ·intro hc4
  try simp only[nrm]at hc4
  refine q2 (aG Z (q3 (W_ret (N_K_ret (rt1 results208 Z ?_)))))
  have H:=H.dl 0
  exact H.retM ⟨_,_,_,_,congrArg Value.bool (by rw[Sp.drop_no (by simpa using hc4)];rfl),rfl,hms,hSs,hVs,by rw[Sp.drop_no (by simpa using hc4)];rfl⟩
 intro hc4'
 try simp only[nrm]at hc4'
 have hfd:(Sp.atH Ls id).isSome=true:=by simpa using hc4'
 have hgo:=Sp.get_ok hVs hfd
 refine W_skip (N_K (W_seq (q2 (fA 2 Z (lB 0 H Z3 (pe 1 Z (q3 ?_)))))))
 refine W_cond Z ?_ ?_
 ·intro hc5
  try simp only[nrm]at hc5
  have hkg:=Sp.drop_get1 hVs hfd hc5
  refine q2 (pe 2 Z (o_delS 1 H Z hms hSs underlying147 underlying3 Z Z ?_));intro _ _ _ _ H hm6 hS6
  refine q1 (aG Z (q3 (W_ret (N_K_ret (rt1 results208 Z ?_)))))
  have H:=H.dl 0
  exact H.retM ⟨_,_,_,_,congrArg Value.bool (by rw[hkg.1];rfl),rfl,hm6,hS6,hkg.2,by rw[hkg.1];rfl⟩
 intro hc5'
 try simp only[nrm]at hc5'
 have hkg:=Sp.drop_get2 hVs hfd hc5'
 refine W_skip (N_K (q2 (fA 2 Z (lB 0 H Z3 (o_sub Z Z Z oO (fA 2 Z (xst 0 H Z8 ?_)))))));intro _ H
 refine q1 (pe 2 Z (lA 0 3 H Z4 ?_))
 refine o_updS 1 H ⟨(getH Ls id).id,(getH Ls id).bytes,(getH Ls id).uses-1⟩ Z hms hSs underlying147 underlying3 Z Z Z (show heldE G0 ⟨(getH Ls id).id,(getH Ls id).bytes,(getH Ls id).uses-1⟩ _ from⟨_,_,_,Z,⟨by first|omega|(dsimp only;omega),by first|omega|(dsimp only;omega)⟩,hr1,⟨by first|omega|(dsimp only;omega),by first|omega|(dsimp only;omega)⟩⟩) (by exact Sp.get_id hfd) ?_;intro _ _ _ _ H hm9 hS9
 refine q1 (aG Z (q3 (W_ret (rt1 results208 Z ?_))))
 have H:=H.dl 0
 exact H.retM ⟨_,_,_,_,congrArg Value.bool (by rw[hkg.1];rfl),rfl,hm9,hS9,hkg.2,by rw[hkg.1];rfl⟩
theorem i_find_c (w0:World)(G0:PH)(hG:PSub G0 w0)(mbs:Nat)(ess:Array MapEntry)(cks:Nat)(xss:List (Int×Value))(Ls:List BHeld)(hbs:MapAt G0 mbs ess cks)(hms:MapIs (Value.int .i64) ess cks xss)(hSs:StR G0 xss Ls)(hVs:Sp.VH Ls)(vbytes:Value)(bytes:List (Int))(hbytes:RdI G0 vbytes bytes) :
  Calls Tryz.prog 232 #[.map (some mbs),vbytes] w0 (Rets w0 (.int .i64 (Sp.findId Ls bytes))):=by
 obtain⟨abytes,kbytes,rfl⟩:=hbytes.shape
 have hlimbytes:bytes.length≤1099511627776:=hbytes.lim
 have H:=Hp.init hG
 refine calls_of_W (l:=[.map (some mbs),.slice abytes bytes.length kbytes]) func232 Z ntmps232 Z (q2 (aG Z (q3 (W_seq (q2 (mV Z ?_))))))
 have hmb1:=(hbs.at H.sub);refine o_range H hmb1 underlying147 rfl rfl ?_;intro r1 _ _ H _;have hne1:r1≠mbs:=fun e=>by have:=(Array.getElem?_eq_some_iff.1 hmb1).1;omega
 refine q3 (W_block ?_)
 refine W_lp (hf:=(Sub.cons (t:=1) Z (Sub.cons (t:=8) Z Sub.nil))) (J:=fun M w m=>∃(sn:Array Nat) (G:PH),M=[]∧PLe G0 G∧Hp w0 G0 [] w G [blk r1 (.mapIter (some mbs) cks sn cks)]∧(∀y,y ∈ Ls→seenH ess sn y→Sp.l2Same y.bytes bytes=false)∧m=((leftOf ess sn).size)) (h0:=⟨#[],_,Z,PLe.refl _,H,?inv,Z⟩) (round:=?round)
 case inv=>rintro y hy ⟨e,_,_,he⟩;simp at he
 case round =>
  rintro _ _ _ ⟨sn,_,rfl,hle2,H,hinv2,rfl⟩
  have hSs:=hSs.up hle2
  have hbs:=hbs.up hle2
  have hbytes:=hbytes.up hle2
  have hsn:=hinv2
  refine q2 ?_
  refine o_next 0 H (hbs.at H.sub) hms hSs Z hne1 Z Z ?_ ?_
  ·intro hall3
   refine pe 1 Z (q3 (W_seq (W_false Z (W_exit (N_K_exit (N_LP_exit (N_B_same (N_K (q2 (aG Z (q3 (W_ret (rt1 results232 Z ?_)))))))))))))
   exact H.rets (congrArg (Value.int .i64) (by rw[Sp.findId_none (fun y hy=>hsn y hy (hall3 y hy))]))
  intro _ _ _ _ he3 hk3 hv3 hy3 hE3 _ hless3 H
  obtain⟨_,_,_,rfl,_,hr3,_,_,_⟩:=ox hE3
  refine pe 1 Z (q3 (W_seq (W_true Z (W_skip (N_K (W_block (q2 (o_entry 0 H (hbs.at H.sub) hms Z he3 hk3 hv3 Z Z (pe 2 Z (xal H Z ?_))))))))));intro _ _ _ H
  refine aG Z (xst 0 H Z8 ?_);intro _ H
  refine q1 (fA 1 Z (lB 0 H Z3 (mV Z (xr H Z2 (l_Equal_c _ _ H.sub _ _ hr3 _ _ hbytes) ?_))));intro _ H
  refine q3 ?_
  refine W_cond Z ?_ ?_
  ·intro hc7
   try simp only[nrm]at hc7
   refine q2 (pe 2 Z (q3 (W_ret (N_B_ret (N_LP_ret (N_B_ret (N_K_ret (rt1 results232 Z ?_))))))))
   exact H.rets (congrArg (Value.int .i64) (by rw[Sp.findId_some hVs hy3 hc7]))
  intro hc7'
  try simp only[nrm]at hc7'
  refine W_skip (N_B ?_)
  have H:=H.dl 0
  refine N_lp (hJ:=⟨_,_,Z,hle2,H,?inv,Z⟩) (hm:=?hm)
  case hm=>exact hless3
  case inv=>intro y hy hs;rcases seenH_push hms (hSs.nd hms) he3 hk3 hy3 hy hs with rfl|h;(· exact hc7');exact hsn y hy h
theorem i_put_c (w0:World)(G0:PH)(hG:PSub G0 w0)(mbs:Nat)(ess:Array MapEntry)(cks:Nat)(xss:List (Int×Value))(Ls:List BHeld)(hms:MapIs (Value.int .i64) ess cks xss)(hSs:StR G0 xss Ls)(hVs:Sp.VH Ls)(vbytes:Value)(bytes:List (Int))(hbytes:RdI G0 vbytes bytes)(hLent:Lent w0 G0 [blk mbs (.map ess cks)])(hB:Sp.BlockValid bytes=true) :
  Calls Tryz.prog 215 #[.map (some mbs),vbytes] w0 (RetM w0 G0 [mbs] (fun G' v Bs=>∃(es':Array MapEntry) (ck':Nat) (xs':List (Int×Value)) (L':List BHeld) (i:Int),v= .tuple #[.int .i64 i,.bool (Sp.StorePut Ls bytes).isSome]∧Bs=[blk mbs (.map es' ck')]∧MapIs (Value.int .i64) es' ck' xs'∧StR G' xs' L'∧Sp.VH L'∧L'=((Sp.StorePut Ls bytes).map (·.1)).getD Ls∧inI i∧∀r,Sp.StorePut Ls bytes=some r→r.2=i)):=by
 obtain⟨abytes,kbytes,rfl⟩:=hbytes.shape
 have hlimbytes:bytes.length≤1099511627776:=hbytes.lim
 have hfin:=Sp.findId_in hVs bytes
 have H:Hp w0 G0 [mbs] w0 G0 [blk mbs (.map ess cks)]:=hLent.hp
 refine calls_of_W (l:=[.map (some mbs),.slice abytes bytes.length kbytes]) func215 Z ntmps215 Z (q2 (pe 2 Z (q3 (W_seq (q2 (pe 2 Z (xr H Z2 (i_find_c _ _ (H.lendSubL [0]) _ _ _ _ _ (H.lendPredL (k:=0) (ks:=[0]) Z Z) hms (hSs.up (PPlus.le _ _ _)) hVs _ _ (hbytes.up (PPlus.le _ _ _))) ?_)))))));intro _ H
 refine aG Z (q1 (pe 2 Z (q3 ?_)))
 refine W_cond Z ?_ ?_
 ·intro hc2
  try simp only[nrm]at hc2
  obtain⟨_,_,hp1,hp2,hp3⟩:=Sp.findId_ne hVs hc2
  have hpo:=Sp.put_old hVs hB hp1 hp2
  rw[←hp3]at hpo
  refine q2 (pe 3 Z (xc Z2 (i_keep_c _ _ H.sub _ _ _ _ _ hms hSs hVs _ H.lent1) ?_))
  rintro _ _ ⟨_,_,_,rfl,H3',⟨_,_,_,_,rfl,rfl,hm3,hS3,hV3,hL3⟩⟩
  have H:=H.borrow1 H3'
  refine⟨_,Z,?_⟩
  refine pe 2 Z (q3 (W_ret (N_K_ret (rt2 results215 Z Z ?_))))
  exact H.retM ⟨_,_,_,_,Sp.findId Ls bytes,congrArg (fun b=>Value.tuple #[Value.int .i64 (Sp.findId Ls bytes),Value.bool b]) (by rw[hpo,Option.isSome_map]),rfl,hm3,hS3,hV3,(by rw[hL3,hpo];cases Sp.StoreKeep Ls (Sp.findId Ls bytes)<;>rfl),oO,fun r hr=>by rw[hpo]at hr;cases hk:Sp.StoreKeep Ls (Sp.findId Ls bytes) with |none=>rw[hk]at hr;cases hr|some l=>(rw[hk]at hr;cases hr;rfl)⟩
 intro hc2'
 try simp only[nrm]at hc2'
 have hnl:=Sp.findId_eq hVs hc2'
 refine W_skip (N_K (W_seq (q2 (mV Z ?_))))
 have hml4:=hSs.len
 refine o_lenM (H.at (k:=0) Z) hms underlying147 Z Z (pe 1 Z (q3 ?_))
 refine W_cond Z ?_ ?_
 ·intro hc5
  try simp only[nrm]at hc5
  refine q2 (pe 2 Z (q3 (W_ret (N_K_ret (rt2 results215 Z Z ?_)))))
  exact H.retM ⟨_,_,_,_,0,congrArg (fun b=>Value.tuple #[Value.int .i64 (0),Value.bool b]) (by rw[Sp.put_full hnl oM];rfl),rfl,hms,hSs,hVs,(by rw[Sp.put_full hnl oM];rfl),by decide,fun r hr=>by rw[Sp.put_full hnl oM]at hr;cases hr⟩
 intro hc5'
 try simp only[nrm]at hc5'
 refine W_skip (N_K (q2 (aG Z (q3 (W_seq (W_block ?_))))))
 refine W_lp (hf:=(Sub.cons (t:=0) Z (Sub.cons (t:=1) Z (Sub.cons (t:=4) Z (Sub.cons (t:=5) Z Sub.nil))))) (J:=fun M w m=>∃(k:Nat) (G:PH),M=[(7,.int .i64 ((k:Int)+1))]∧PLe G0 G∧Hp w0 G0 [mbs] w G [blk mbs (.map ess cks)]∧(∀j:Nat,j<k→(Sp.atH Ls ((j:Int)+1)).isSome=true)∧m=(Ls.length+1-k)) (h0:=⟨0,_,Z,PLe.refl _,H,?inv,Z⟩) (round:=?round)
 case inv=>exact fun j hj=>by omega
 case round =>
  rintro _ _ _ ⟨k,_,rfl,hle6,H,hinv6,rfl⟩
  have hSs:=hSs.up hle6
  have hbytes:=hbytes.up hle6
  have hall:=hinv6;have hkl:=Sp.free_le hall;have hv16:=hVs.len
  refine W_seq (q2 (pe 2 Z (o_lookS (H.at (k:=0) Z) hms hSs underlying147 underlying3 zeroValue139 Z Z Z ?_)));intro _ hE7
  obtain⟨_,_,_,rfl,_,hr7,_,_,_⟩:=ox hE7
  refine o_field 2 runUnderlying139 Z Z Z isAgg3 Z Z Z (pe 1 Z (q3 ?_))
  refine W_cond Z ?_ ?_
  ·intro hc8
   try simp only[nrm]at hc8
   refine W_skip (N_K (W_block (W_region (mV Z (aD Z2 (aG Z (R_nil (N_B ?_))))))))
   refine N_lp (hJ:=⟨k+1,_,Z,hle6,H,?inv,Z⟩) (hm:=?hm)
   case hm=>omega
   case inv=>exact Sp.upto_succ (p:=fun j:Nat=>(Sp.atH Ls ((j:Int)+1)).isSome) hall (Sp.uses_some hc8)
  intro hc8'
  try simp only[nrm]at hc8'
  refine W_exit (N_K_exit (N_LP_exit (N_B_same (N_K (q2 (pe 4 Z (xc Z2 (l_Clone_c _ _ H.sub _ _ hbytes) ?_)))))))
  rintro _ _ ⟨_,_,_,g10,rfl,⟨_,rfl,hchk10⟩,hp10,hq10,hs10⟩
  have H:=H.growO g10 hp10 hq10 hs10;obtain⟨_,_,rfl⟩:=H.accShape (k:=0) rfl
  have hSs:=hSs.up g10.le
  refine⟨_,Z,?_⟩
  refine o_build bf139 Z Z Z ?_
  obtain⟨G12,H,hsg12,hsr12⟩:=H.shutL (k:=0) rfl (H.apart (k:=0) (ks:=[1]) rfl rfl (by intro b hb;simpa [fpsAt,nth,blk] using hb)) hchk10 aN aN
  have hSs:=hSs.up hsg12
  refine o_updS 0 H ⟨(k:Int)+1,bytes,1⟩ Z hms hSs underlying147 underlying3 Z Z Z (show heldE G12 ⟨(k:Int)+1,bytes,1⟩ _ from⟨_,_,_,Z,⟨by first|omega|(dsimp only;omega),by first|omega|(dsimp only;omega)⟩,hsr12,⟨by first|omega|(dsimp only;omega),by first|omega|(dsimp only;omega)⟩⟩) rfl ?_;intro _ _ _ _ H hm11 hS11
  refine q1 (pe 3 Z (q3 (W_ret (rt2 results215 Z Z ?_))))
  have hfe:=Sp.free_eq hall (Sp.uses_none hVs (by simpa using hc8'))
  have hpn:=Sp.put_new hVs hB hnl oM
  exact H.retM ⟨_,_,_,_,(k:Int)+1,congrArg (fun b=>Value.tuple #[Value.int .i64 ((k:Int)+1),Value.bool b]) (by rw[hpn];rfl),rfl,hm11,(hS11.perm (Sp.put_perm bytes hfe)),Sp.with_valid hVs hB hnl oM,(by rw[hpn];rfl),oO,fun r hr=>by rw[hpn]at hr;cases hr;simp only[];omega⟩
theorem i_fileIds_c (w0:World)(G0:PH)(hG:PSub G0 w0)(mbs:Nat)(ess:Array MapEntry)(cks:Nat)(xss:List (Int×Value))(Ls:List BHeld)(hbs:MapAt G0 mbs ess cks)(hms:MapIs (Value.int .i64) ess cks xss)(hSs:StR G0 xss Ls)(hVs:Sp.VH Ls)(vids:Value)(ids:List (Int))(hids:RdI G0 vids ids) :
  Calls Tryz.prog 155 #[.map (some mbs),vids] w0 (Rets w0 (.bool (Sp.l4Ids Ls ids))):=by
 obtain⟨aids,kids,rfl⟩:=hids.shape
 have hlimids:ids.length≤1099511627776:=hids.lim
 have H:=Hp.init hG
 refine calls_of_W (l:=[.map (some mbs),.slice aids ids.length kids]) func155 Z ntmps155 Z (q2 (aG Z (q3 (W_seq (q2 (mV Z (lN Z (pe 1 Z (q3 ?_)))))))))
 refine W_cond Z ?_ ?_
 ·intro hc1
  try simp only[nrm]at hc1
  refine q2 (aG Z (q3 (W_ret (N_K_ret (rt1 results155 Z ?_)))))
  exact H.rets (congrArg Value.bool (by rw[Sp.ids_long oM]))
 intro hc1'
 try simp only[nrm]at hc1'
 refine W_skip (N_K (W_seq (q2 (mV Z (lN Z (mV Z (q3 (W_block ?_))))))))
 refine W_lp (hf:=(Sub.cons (t:=0) Z (Sub.cons (t:=1) Z (Sub.cons (t:=12) Z (Sub.cons (t:=13) Z Sub.nil))))) (J:=fun M w m=>∃(k:Nat) (G:PH),M=[(14,.int .i64 (k:Int))]∧PLe G0 G∧Hp w0 G0 [] w G []∧(k≤ids.length∧∀j,j<k→Sp.idsOk Ls ids j=true)∧m=(ids.length-k)) (h0:=⟨0,_,Z,PLe.refl _,H,?inv,Z⟩) (round:=?round)
 case inv=>exact⟨by omega,fun j hj=>by omega⟩
 case round =>
  rintro _ _ _ ⟨k,_,rfl,hle2,H,hinv2,rfl⟩
  have hSs:=hSs.up hle2
  have hbs:=hbs.up hle2
  have hids:=hids.up hle2
  obtain⟨_,hall⟩:=hinv2
  refine q2 (pe 1 Z (q3 (W_seq ?_)))
  refine W_cond Z ?_ ?_
  ·intro hc3
   try simp only[nrm]at hc3
   refine W_skip (N_K (W_seq (W_block (q2 (mV Z (iP k hids Z3 Z ?_))))));intro _ _ z4 _ hz4 hE4 hrow4
   obtain⟨rfl,_⟩:=hE4
   refine lP H hrow4 0 Z2 (pe 2 Z (q1 (pe 2 Z (o_lookS2 (hbs.at H.sub) hms hSs underlying147 underlying3 zeroValue139 Z Z Z ?_))));intro _ hE5
   obtain⟨_,_,_,rfl,_,_,_,_,_⟩:=ox hE5
   refine pe 3 Z (xal H Z ?_);intro _ _ _ H
   refine xst 0 H Z8 ?_;intro _ H
   refine aG Z (q1 (pe 3 Z ?_))
   refine R_case (t:=27) Z ?_ ?_
   ·intro hc8
    try simp only[nrm]at hc8
    refine pe 6 Z (R_pass Z (yl_un Z Z) (R_pass Z (yl_un Z Z) (R_pass Z (yl_un Z Z) (R_pass Z (yl_un Z Z) (pe 2 Z (q3 (W_true Z (q2 (aG Z (q3 (W_ret (N_B_ret (N_K_ret (N_LP_ret (N_B_ret ?_)))))))))))))))
    refine N_K_ret (rt1 results155 Z ?_)
    exact H.rets (congrArg Value.bool (by rw[Sp.ids_false (k:=k) oM (by exact Sp.idsOk_no hz4 (by simpa using hc8))]))
   intro hc8'
   try simp only[nrm]at hc8'
   have hfd:(Sp.atH Ls z4).isSome=true:=by simpa using hc8'
   have hbl:=Sp.bv_len (Sp.get_ok hVs hfd).2.1
   have hio:=Sp.idsOk_get hz4 hfd
   refine pe 2 Z (gR Z (lN Z (gR Z (o_sub Z Z Z oO (pe 2 Z ?_)))))
   refine R_case (t:=33) Z ?_ ?_
   ·intro hc10
    try simp only[nrm]at hc10
    refine gR Z (fA 1 Z (gR Z (lB 0 H Z3 (gR Z (lN Z (pe 3 Z (q3 ?_)))))))
    refine W_cond Z ?_ ?_
    ·intro hc11
     try simp only[nrm]at hc11
     refine q2 (aG Z (q3 (W_ret (N_B_ret (N_K_ret (N_LP_ret (N_B_ret (N_K_ret (rt1 results155 Z ?_)))))))))
     exact H.rets (congrArg Value.bool (by rw[Sp.ids_false (k:=k) oM (by rw[hio];simp;omega)]))
    intro hc11'
    try simp only[nrm]at hc11'
    refine W_skip (N_B (N_K (W_region (aD Z2 (mV Z (R_nil ?_))))))
    have H:=H.dl 0
    refine N_lp (hJ:=⟨k+1,_,Z,hle2,H,?inv,Z⟩) (hm:=?hm)
    case hm=>omega
    case inv=>exact⟨by omega,Sp.upto_succ hall (by rw[hio];simp;omega)⟩
   intro hc10'
   try simp only[nrm]at hc10'
   refine pe 6 Z (q3 (W_false Z (W_skip (N_B (N_K (W_region (aD Z2 (mV Z (R_nil ?_)))))))))
   have H:=H.dl 0
   refine N_lp (hJ:=⟨k+1,_,Z,hle2,H,?inv,Z⟩) (hm:=?hm)
   case hm=>omega
   case inv=>exact⟨by omega,Sp.upto_succ hall (by rw[hio];simp;omega)⟩
  intro hc3'
  try simp only[nrm]at hc3'
  refine W_exit (N_K_exit (N_LP_exit (N_B_same (N_K (q2 (aG Z (q3 (W_ret (rt1 results155 Z ?_)))))))))
  exact H.rets (congrArg Value.bool (by rw[Sp.ids_true (fun j hj=>hall j oM) oM]))
theorem i_freeFile_c (w0:World)(G0:PH)(hG:PSub G0 w0)(mbs:Nat)(ess:Array MapEntry)(cks:Nat)(xss:List (Int×Value))(Ls:List BHeld)(hms:MapIs (Value.int .i64) ess cks xss)(hSs:StR G0 xss Ls)(hVs:Sp.VH Ls)(vids:Value)(ids:List (Int))(hids:RdI G0 vids ids)(hLent:Lent w0 G0 [blk mbs (.map ess cks)]) :
  Calls Tryz.prog 176 #[.map (some mbs),vids] w0 (RetM w0 G0 [mbs] (fun G' v Bs=>∃(es':Array MapEntry) (ck':Nat) (xs':List (Int×Value)) (L':List BHeld),v= .bool (Sp.FileFree Ls ids).isSome∧Bs=[blk mbs (.map es' ck')]∧MapIs (Value.int .i64) es' ck' xs'∧StR G' xs' L'∧Sp.VH L'∧∀l,Sp.FileFree Ls ids=some l→L'=l)):=by
 obtain⟨aids,kids,rfl⟩:=hids.shape
 have hlimids:ids.length≤1099511627776:=hids.lim
 have H:Hp w0 G0 [mbs] w0 G0 [blk mbs (.map ess cks)]:=hLent.hp
 refine calls_of_W (l:=[.map (some mbs),.slice aids ids.length kids]) func176 Z ntmps176 Z (q2 (aG Z (q3 (W_seq (q2 (pe 2 Z (xr H Z2 (i_fileIds_c _ _ (H.lendSubL [0]) _ _ _ _ _ (H.lendPredL (k:=0) (ks:=[0]) Z Z) hms (hSs.up (PPlus.le _ _ _)) hVs _ _ (hids.up (PPlus.le _ _ _))) ?_)))))));intro _ H
 refine pe 1 Z (q3 ?_)
 refine W_cond Z ?_ ?_
 ·intro hc2
  try simp only[nrm]at hc2
  refine q2 (aG Z (q3 (W_ret (N_K_ret (rt1 results176 Z ?_)))))
  have hno:Sp.FileFree Ls ids=none:=by simp[Sp.FileFree,hc2]
  exact H.retM ⟨_,_,_,_,congrArg Value.bool (by rw[hno];rfl),rfl,hms,hSs,hVs,fun l hl=>by rw[hno]at hl;cases hl⟩
 intro hc2'
 try simp only[nrm]at hc2'
 refine W_skip (N_K (W_seq (q2 (mV Z (lN Z (mV Z (q3 (W_block ?_))))))))
 refine W_lp (hf:=(Sub.cons (t:=0) Z (Sub.cons (t:=11) Z (Sub.cons (t:=12) Z Sub.nil)))) (J:=fun M w m=>∃(esm0:Array MapEntry) (ckm0:Nat) (xsm0:List (Int×Value)) (Lm0:List BHeld) (k:Nat) (G:PH),M=[(13,.int .i64 (k:Int))]∧PLe G0 G∧Hp w0 G0 [mbs] w G [blk mbs (.map esm0 ckm0)]∧(MapIs (Value.int .i64) esm0 ckm0 xsm0∧StR G xsm0 Lm0∧Sp.VH Lm0∧k≤ids.length∧Sp.foldB Sp.StoreDrop (ids.take k) (some Ls)=some Lm0)∧m=(ids.length-k)) (h0:=⟨_,_,xss,Ls,0,_,Z,PLe.refl _,H,?inv,Z⟩) (round:=?round)
 case inv=>exact⟨hms,hSs,hVs,(by simp[Sp.foldB])⟩
 case round =>
  rintro _ _ _ ⟨esm0,ckm0,xsm0,Lm0,k,_,rfl,hle3,H,hinv3,rfl⟩
  have hids:=hids.up hle3
  obtain⟨hm3_m0,hS3_m0,hV3_m0,hinv3⟩:=hinv3
  obtain⟨_,hf⟩:=hinv3
  refine q2 (pe 1 Z (q3 (W_seq ?_)))
  refine W_cond Z ?_ ?_
  ·intro hc4
   try simp only[nrm]at hc4
   refine W_skip (N_K (W_seq (W_block (q2 (iP k hids Z3 Z ?_)))));intro _ _ z5 _ hz5 hE5 hrow5
   obtain⟨rfl,_⟩:=hE5
   refine lP H hrow5 0 Z2 (aG Z (q1 (pe 2 Z (xc Z2 (i_drop_c _ _ H.sub _ _ _ _ _ hm3_m0 hS3_m0 hV3_m0 _ H.lent1) ?_))))
   rintro _ _ ⟨_,_,_,rfl,H6',⟨_,_,xs6,L6,rfl,rfl,hm6,hS6,hV6,hL6⟩⟩
   have hle3:=hle3.trans H6'.le
   have H:=H.borrow1 H6'
   refine⟨_,Z,?_⟩
   refine pe 1 Z (q3 ?_)
   refine W_cond Z ?_ ?_
   ·intro hc7
    try simp only[nrm]at hc7
    refine q2 (aG Z (q3 (W_ret (N_B_ret (N_K_ret (N_LP_ret (N_B_ret (N_K_ret (rt1 results176 Z ?_)))))))))
    have hno:Sp.FileFree Ls ids=none:=by (have hno:Sp.StoreDrop Lm0 z5=none:=by simpa using hc7);simp only[Sp.FileFree,Sp.valid_iff.2 hVs,hc2',Bool.and_self,if_true];exact Sp.foldB_stop hf hz5 hno
    exact H.retM ⟨_,_,_,_,congrArg Value.bool (by rw[hno];rfl),rfl,hm6,hS6,hV6,fun l hl=>by rw[hno]at hl;cases hl⟩
   intro hc7'
   try simp only[nrm]at hc7'
   obtain⟨p,hsp⟩:=Option.isSome_iff_exists.1 hc7'
   have hLp:L6=p:=by rw[hL6,hsp];rfl
   subst hLp
   refine W_skip (N_B (N_K (W_region (aD Z2 (mV Z (R_nil ?_))))))
   refine N_lp (hJ:=⟨_,_,xs6,L6,k+1,_,Z,hle3,H,?inv,Z⟩) (hm:=?hm)
   case hm=>omega
   case inv=>exact⟨hm6,hS6,hV6,(by exact⟨by omega,Sp.foldB_succ hf hz5 hsp⟩)⟩
  intro hc4'
  try simp only[nrm]at hc4'
  refine W_exit (N_K_exit (N_LP_exit (N_B_same (N_K (q2 (aG Z (q3 (W_ret (rt1 results176 Z ?_)))))))))
  have hyes:Sp.FileFree Ls ids=some Lm0:=by simp only[Sp.FileFree,Sp.valid_iff.2 hVs,hc2',Bool.and_self,if_true];exact Sp.foldB_all hf oM
  exact H.retM ⟨_,_,_,_,congrArg Value.bool (by rw[hyes];rfl),rfl,hm3_m0,hS3_m0,hV3_m0,fun l hl=>by rw[hyes]at hl;cases hl;rfl⟩
theorem i_listIn_r:∀(N:Nat) (w0:World) (G0:PH) (hG:PSub G0 w0) (t:Nd) (hndt:RdN G0 t) (s:Bs) (hs:s.length≤16777216) (hwt:t.wf) (hsl:s.length+6*t.cnt≤100000) (hsz:t.size≤N),
  Calls Tryz.prog 165 #[.pointer (some ⟨t.b,0,none⟩),str s] w0 (RetN w0 G0 (fun v Bs=>∃(F:Fr),Bs=[frag F]∧OIs F v (t.flat s))):=by
 intro N
 induction N with
 | zero=>intro w0 G0 hG t hndt s hs hwt hsl hsz;exact absurd (Nd.size_pos t) oM
 | succ N ih =>
 intro w0 G0 hG t hndt s hs hwt hsl hsz
 obtain⟨_,_,_,_,_,_,_,hprt,hrit,hrkt⟩:=hndt.open
 have hn_hrit:=hrit.len;have hx_hrit:_≤1099511627776:=hrit.lim
 have hn_hrkt:=hrkt.len;have hx_hrkt:_≤1099511627776:=hrkt.lim
 have H:=Hp.init hG
 refine calls_of_W (l:=[.pointer (some ⟨t.b,0,none⟩),str s]) func165 Z ntmps165 Z (q2 (aG Z (q1 (aG Z (q3 (W_seq (q2 (pe 2 Z (fA 3 Z (lP H hprt 3 Z2 (lN Z (mV Z (q3 (W_block ?_))))))))))))))
 have H:=H.addNil 41 3
 have H:=H.addF
 refine W_lp (hf:=(Sub.cons (t:=1) Z (Sub.cons (t:=4) Z (Sub.cons (t:=12) Z (Sub.cons (t:=13) Z Sub.nil))))) (J:=fun M w m=>∃(v:Value) (n:Nat) (cs:List Value) (xs:List (BItem)) (F:Fr) (k:Nat) (G:PH),M=[(14,.int .i64 (k:Int)),(5,v)]∧PLe G0 G∧Hp w0 G0 [] w G [frag F,acc 41 3 v n cs]∧(ChkF itemO 3 cs xs F∧n=xs.length∧k≤t.kids.length∧xs=Nd.flats s (t.kids.take k))∧m=(t.kids.length-k)) (h0:=⟨_,_,_,[],[],0,_,Z,PLe.refl _,H,?inv,Z⟩) (round:=?round)
 case inv=>exact⟨ChkF.nil,by first|rfl|simp|(simp;omega)|omega,(by simp[Nd.flats])⟩
 case round =>
  rintro _ _ _ ⟨v,n,cs,xs,F,k,G2,rfl,hle2,H,hinv2,rfl⟩
  have hrkt:=hrkt.up hle2
  obtain⟨hchk2_0,_,hinv2⟩:=hinv2
  obtain⟨_,_,rfl⟩:=H.accShape (k:=1) rfl
  obtain⟨_,hxs⟩:=hinv2;have hxl:xs.length≤100000:=by (have:=Nd.flats_len s (t.kids.take k);have:=Nd.cnts_take t.kids k;have:=Nd.cnt_eq t;rw[hxs];omega)
  refine q2 (pe 1 Z (q3 (W_seq ?_)))
  refine W_cond Z ?_ ?_
  ·intro hc3
   try simp only[nrm]at hc3
   refine W_skip (N_K (W_seq (W_block (q2 (iP k hrkt Z3 Z ?_)))));intro _ _ z4 q4 hz4 hE4 hrow4
   obtain⟨rfl,hnd4⟩:=hE4;obtain⟨_,_,_,_,_,_,_,hpr4,hri4,hrk4⟩:=hnd4.open;have hn_hri4:=hri4.len;have hx_hri4:_≤1099511627776:=hri4.lim;have hn_hrk4:=hrk4.len;have hx_hrk4:_≤1099511627776:=hrk4.lim
   have hzm:=List.mem_of_getElem? hz4;have hzc:=Nd.kid_cnt hzm;have hzs:=Nd.size_kid hzm;have hzw:=((Nd.wf_iff _).1 hwt).2 _ hzm;have hzn:=Nd.word_le hzw.1;have hzf:=Nd.flat_len (s++z4.name++[47]) z4
   refine lP H hrow4 0 Z2 (aG Z (q1 (pe 3 Z (fA 0 Z (lP H hpr4 0 Z2 ?_)))))
   refine o_sadd Z Z Z (by simp only[LIM,List.length_append,List.length_cons,List.length_nil]at *; omega) ?_
   refine aG Z (q3 (W_seq (W_drawK [] 15 H kR Z ?_)));intro _ H;have hd5:=PLe.refl G2
   refine dE 0 Z2 (dE 1 Z2 (dE 2 Z2 (dE 3 Z2 (dF 4 1 Z2 (dP 5 hpr4 1 Z3 (dE 6 Z2 (dE 7 Z2 (dF 8 2 Z2 (dP 9 hpr4 2 Z3 (r1 10 Z (xc Z2 (l_Clone_c _ _ H.sub _ _ hri4) ?_)))))))))))
   rintro _ _ ⟨_,_,_,g6,rfl,⟨_,rfl,hchk6⟩,hp6,hq6,hs6⟩
   have H:=H.growO g6 hp6 hq6 hs6;obtain⟨_,_,rfl⟩:=H.accShape (k:=0) rfl
   have hnd4:=hnd4.up g6.le
   have hle2:=hle2.trans g6.le
   have hd5:=hd5.trans g6.le
   refine⟨_,Z,?_⟩
   refine q4 H hd5 (RD_t 11 Z kR Z (fun _ hK=>v_build bf41 Z Z) (r1 12 Z (xbs H Z7 ?_)));intro _ _ _ H
   refine q4 H hd5 (r1 13 Z (o_append1 2 H (sz:=3) (bytes:=48) underlying24 typeInfo41 ⟨_,Z,Z⟩ Z Z Z Z Z Z Z Z Z Z oM Z ?_));intro _ _ H
   obtain⟨Fi2,H,hOI2⟩:=H.ownI (k:=0) rfl hchk6 aN aN
   have hchk8:=hchk2_0.snoc (show itemO Fi2 ⟨s++z4.name,z4.dir,z4.ids⟩ _ from⟨_,_,_,rfl,(by (first|assumption|(refine Sp.l5Parent_lim ?_;assumption)|(simp;done)|(simp;omega)|omega)),hOI2⟩) rfl
   have H:=H.tF 1
   have H:=H.mergeF
   obtain⟨_,_,rfl⟩:=H.accShape (k:=1) rfl
   refine q4 H hd5 (dE 14 Z2 (rz (N_K (W_region (pe 3 Z ?_)))))
   refine o_sadd Z Z Z (by simp only[LIM,List.length_append,List.length_cons,List.length_nil]at *; omega) ?_
   refine xc Z2 (ih _ _ H.sub _ hnd4 _ (by (first|assumption|(refine Sp.l5Parent_lim ?_;assumption)|(simp;done)|(simp;omega)|omega)) hzw.2 (by simp;omega) oM) ?_
   rintro _ _ ⟨_,_,rfl,H9',⟨_,rfl,hO9⟩⟩
   have H:=H.readers (fp:=[]) (by simp) (PLe.refl _) H9'
   obtain⟨_,hP9⟩:=hO9
   obtain⟨_,_,rfl⟩:=OwnS.shape hP9
   have hO9:=OIs.mk hP9
   refine⟨_,Z,?_⟩
   refine o_append_F 1 H hP9 (by intro F _ cs hx _ hu;obtain⟨_,_,_,rfl,_⟩:=hx;simp at hu;rcases hu with rfl|rfl|rfl<;>rfl) (sz:=3) (bytes:=48) underlying24 typeInfo41 ⟨_,rfl,rfl⟩ rfl rfl rfl rfl rfl rfl rfl oM rfl ?_;intro _ _ _ F10_ H hck10 _
   have hchk10:=hchk8.app hck10
   have H:=H.tF 1
   have H:=H.mergeF
   obtain⟨_,_,rfl⟩:=H.accShape (k:=1) rfl
   refine aG Z (R_nil (N_B (N_K (W_region (aD Z2 (mV Z (R_nil ?_)))))))
   refine N_lp (hJ:=⟨_,_,_,((xs++[⟨s++z4.name,z4.dir,z4.ids⟩])++(z4.flat (s++z4.name++[47]))),((F++Fi2)++F10_),k+1,_,Z,hle2,H,?inv,Z⟩) (hm:=?hm)
   case hm=>omega
   case inv=>exact⟨hchk10,aN,(by exact⟨by omega,by (rw[Nd.flats_succ hz4,hxs];simp)⟩)⟩
  intro hc3'
  try simp only[nrm]at hc3'
  refine W_exit (N_K_exit (N_LP_exit (N_B_same (N_K (q2 (pe 2 Z (q3 (W_ret (rt1 results165 Z ?_)))))))))
  have H:=H.tF 1
  obtain⟨_,H,hOw3⟩:=H.ownF hchk2_0 aN aN
  have hX:xs=t.flat s:=by rw[hxs,List.take_of_length_le oM,Nd.flat_eq]
  have H:=H.forget hG (by simp)
  exact⟨_,_,Z,H,_,Z,hX▸⟨_,hOw3⟩⟩
theorem i_listIn_c (w0:World)(G0:PH)(hG:PSub G0 w0)(t:Nd)(hndt:RdN G0 t)(s:Bs)(hs:s.length≤16777216)(hwt:t.wf)(hsl:s.length+6*t.cnt≤100000) :
  Calls Tryz.prog 165 #[.pointer (some ⟨t.b,0,none⟩),str s] w0 (RetN w0 G0 (fun v Bs=>∃(F:Fr),Bs=[frag F]∧OIs F v (t.flat s))):=i_listIn_r _ w0 G0 hG t hndt s hs hwt hsl (Nat.le_refl _)
theorem i_tlist_c (w0:World)(G0:PH)(hG:PSub G0 w0)(t:Nd)(hndt:RdN G0 t)(hwt:t.wf)(hct:t.cnt≤1000) :
  Calls Tryz.prog 106 #[.pointer (some ⟨t.b,0,none⟩)] w0 (RetN w0 G0 (fun v Bs=>∃(F:Fr),Bs=[frag F]∧OIs F v (t.flat []))):=by
 obtain⟨_,_,_,_,_,_,_,_,hrit,hrkt⟩:=hndt.open
 have hn_hrit:=hrit.len;have hx_hrit:_≤1099511627776:=hrit.lim
 have hn_hrkt:=hrkt.len;have hx_hrkt:_≤1099511627776:=hrkt.lim
 have H:=Hp.init hG
 refine calls_of_W (l:=[.pointer (some ⟨t.b,0,none⟩)]) func106 Z ntmps106 Z (q2 (aG Z (q1 (mV Z ?_))))
 refine xc Z2 (i_listIn_c _ _ H.sub _ hndt _ (by (first|assumption|(refine Sp.l5Parent_lim ?_;assumption)|(simp;done)|(simp;omega)|omega)) hwt (by simp;omega)) ?_
 rintro _ _ ⟨_,_,rfl,H1',⟨_,rfl,hO1⟩⟩
 have H:=H.readers (fp:=[]) (by simp) (PLe.refl _) H1'
 obtain⟨_,hP1⟩:=hO1
 obtain⟨_,_,rfl⟩:=OwnS.shape hP1
 have hO1:=OIs.mk hP1
 refine⟨_,Z,?_⟩
 refine aG Z (q3 (W_ret (rt1 results106 Z ?_)))
 have H:=H.forget hG (by simp)
 exact⟨_,_,Z,H,_,Z,hO1⟩
theorem i_usedBy_c (w0:World)(G0:PH)(hG:PSub G0 w0)(mbs:Nat)(ess:Array MapEntry)(cks:Nat)(xss:List (Int×Value))(Ls:List BHeld)(hbs:MapAt G0 mbs ess cks)(hms:MapIs (Value.int .i64) ess cks xss)(hSs:StR G0 xss Ls)(hVs:Sp.VH Ls)(vtrees:Value)(trees:List (Nd))(htrees:RdNd G0 vtrees trees)(htl:trees.length≤7)(htw:∀t,t ∈ trees→t.wf∧t.cnt≤12) :
  Calls Tryz.prog 99 #[.map (some mbs),vtrees] w0 (Rets w0 (.bool (trees.all (fun t=>(t.flat []).all (fun x=>Sp.l4Ids Ls x.ids))&&Ls.all (fun h=>decide ((Sp.cntT trees h.id:Int)=h.uses))))):=by
 obtain⟨atrees,ktrees,rfl⟩:=htrees.shape
 have hlimtrees:trees.length≤1099511627776:=htrees.lim
 have H:=Hp.init hG
 refine calls_of_W (l:=[.map (some mbs),.slice atrees trees.length ktrees]) func99 Z ntmps99 Z (q2 (aG Z (q1 (o_makeMap H Z ?_))));intro b1 _ _ H
 have hm1:=MapIs.empty (key:=Value.int .i64) 0
 have hS1:=UsR.nil
 refine aG Z (q3 (W_seq (q2 (mV Z (lN Z (mV Z (q3 (W_block ?_))))))))
 refine W_lp (hf:=(Sub.cons (t:=0) Z (Sub.cons (t:=5) Z (Sub.cons (t:=15) Z (Sub.cons (t:=16) Z Sub.nil))))) (J:=fun M w m=>∃(esm0:Array MapEntry) (ckm0:Nat) (xsm0:List (Int×Value)) (fm0:Int→Nat) (i:Nat) (G:PH),M=[(17,.int .i64 (i:Int))]∧PLe G0 G∧Hp w0 G0 [] w G [blk b1 (.map esm0 ckm0)]∧(MapIs (Value.int .i64) esm0 ckm0 xsm0∧UsR xsm0 fm0∧i≤trees.length∧(∀a,fm0 a=Sp.cntT (trees.take i) a∧fm0 a≤48*i)∧(trees.take i).all (fun t=>(t.flat []).all (fun x=>Sp.l4Ids Ls x.ids))=true)∧m=(trees.length-i)) (h0:=⟨_,_,[],(fun _=>0),0,_,Z,PLe.refl _,H,?inv,Z⟩) (round:=?round)
 case inv=>exact⟨hm1,hS1,(by simp[Sp.cntT])⟩
 case round =>
  rintro _ _ _ ⟨esm0,ckm0,xsm0,fm0,i,G2,rfl,hle2,H,hinv2,rfl⟩
  have hSs:=hSs.up hle2
  have hbs:=hbs.up hle2
  have htrees:=htrees.up hle2
  obtain⟨hm2_m0,hS2_m0,hinv2⟩:=hinv2
  obtain⟨_,hf,hok⟩:=hinv2
  refine q2 (pe 1 Z (q3 (W_seq ?_)))
  refine W_cond Z ?_ ?_
  ·intro hc3
   try simp only[nrm]at hc3
   refine W_skip (N_K (W_seq (W_block (q2 (iP i htrees Z3 Z ?_)))));intro _ _ z4 _ hz4 hE4 hrow4
   obtain⟨rfl,hnd4⟩:=hE4;obtain⟨_,_,_,_,_,_,_,hpr4,hri4,hrk4⟩:=hnd4.open;have hn_hri4:=hri4.len;have hx_hri4:_≤1099511627776:=hri4.lim;have hn_hrk4:=hrk4.len;have hx_hrk4:_≤1099511627776:=hrk4.lim
   try (have hzw:=htw z4 (List.mem_of_getElem? hz4);have hzf:=Nd.flat_len [] z4)
   refine lP H hrow4 0 Z2 (aG Z (q1 (mV Z (xc Z2 (i_tlist_c _ _ H.sub _ hnd4 hzw.1 oM) ?_))))
   rintro _ _ ⟨_,_,rfl,H5',⟨_,rfl,hO5⟩⟩
   have H:=H.readers (fp:=[]) (by simp) (PLe.refl _) H5'
   obtain⟨e25,hP5⟩:=hO5
   obtain⟨_,_,rfl⟩:=OwnS.shape hP5
   have hO5:=OIs.mk hP5
   refine⟨_,Z,?_⟩
   have hdm1:=dm_nodup H (k:=0) rfl;obtain⟨Gk1,H,hkl1,hks1⟩:=H.keepF (k:=0) rfl (fun b _ hb=>by simp at hb)
   have hrk1:=hO5.rd hks1 hdm1
   have hSs:=hSs.up hkl1
   have hbs:=hbs.up hkl1
   have hle2:=hle2.trans hkl1
   have hn_hrk1:=hrk1.len
   refine lN Z (mV Z (q3 (W_block ?_)))
   refine W_lp (hf:=(Sub.cons (t:=0) Z (Sub.cons (t:=5) Z (Sub.cons (t:=15) Z (Sub.cons (t:=16) Z (Sub.cons (t:=17) Z (Sub.cons (t:=22) Z (Sub.cons (t:=23) Z Sub.nil)))))))) (J:=fun M w m=>∃(esm0:Array MapEntry) (ckm0:Nat) (xsm0:List (Int×Value)) (fm0:Int→Nat) (jj:Nat) (G:PH),M=[(24,.int .i64 (jj:Int))]∧PLe Gk1 G∧Hp w0 G0 [] w G [blk b1 (.map esm0 ckm0)]∧(MapIs (Value.int .i64) esm0 ckm0 xsm0∧UsR xsm0 fm0∧jj≤(z4.flat []).length∧(∀a,fm0 a=Sp.cntT (trees.take i) a+Sp.cntU (z4.flat []) a jj∧fm0 a≤48*i+4*jj)∧((z4.flat []).take jj).all (fun x=>Sp.l4Ids Ls x.ids)=true)∧m=((z4.flat []).length-jj)) (h0:=⟨_,_,xsm0,fm0,0,_,Z,PLe.refl _,H,?inv,Z⟩) (round:=?round)
   case inv=>exact⟨hm2_m0,hS2_m0,(by exact⟨by omega,fun a=>(by have:=hf a;simp[Sp.cntU];omega),by simp⟩)⟩
   case round =>
    rintro _ _ _ ⟨esm0,ckm0,xsm0,fm0,jj,G6,rfl,hle6,H,hinv6,rfl⟩
    have hSs:=hSs.up hle6
    have hbs:=hbs.up hle6
    have hrk1:=hrk1.up hle6
    have hle2:=hle2.trans hle6
    obtain⟨hm6_m0,hS6_m0,hinv6⟩:=hinv6
    obtain⟨_,hf2,hok2⟩:=hinv6
    refine q2 (pe 1 Z (q3 (W_seq ?_)))
    refine W_cond Z ?_ ?_
    ·intro hc7
     try simp only[nrm]at hc7
     refine W_skip (N_K (W_seq (W_block (q2 (iP jj hrk1 Z3 Z ?_)))));intro _ _ z8 _ hz8 hE8 hrow8
     obtain⟨_,_,_,rfl,_,hr8,_,_⟩:=ox hE8
     try (have hzw:=htw z8 (List.mem_of_getElem? hz8);have hzf:=Nd.flat_len [] z8)
     refine o_loadagg_P H isAgg41 sizeOf41 Z Z hrow8 Z (xal H Z ?_);intro b9 _ _ H
     refine xst 0 H Z8 ?_;intro _ H
     refine q3 (W_seq (q2 (mV Z (fA 2 Z (lB 0 H Z3 (xr H Z2 (i_fileIds_c _ _ H.sub _ _ _ _ _ hbs hms hSs hVs _ _ hr8) ?_))))));intro _ H
     refine pe 1 Z (q3 ?_)
     refine W_cond Z ?_ ?_
     ·intro hc12
      try simp only[nrm]at hc12
      refine q2 (aG Z (q3 (W_ret (N_K_ret (N_B_ret (N_K_ret (N_LP_ret (N_B_ret (N_B_ret (N_K_ret (N_LP_ret (N_B_ret (N_K_ret (rt1 results99 Z ?_))))))))))))))
      exact H.rets (congrArg Value.bool (by rw[Sp.all_false hz4 (Sp.all_false hz8 (by simpa using hc12)),Bool.false_and]))
     intro hc12'
     try simp only[nrm]at hc12'
     have hio:Sp.l4Ids Ls z8.ids=true:=by simpa using hc12'
     have hil:=Sp.ids_le hio
     refine W_skip (N_K (q2 (fA 2 Z (lB 0 H Z3 (lN Z (mV Z (q3 (W_block ?_))))))))
     obtain⟨ln13,hln13,H⟩:=H.name (k:=0) rfl
     refine W_lp (hf:=(Sub.cons (t:=0) Z (Sub.cons (t:=5) Z (Sub.cons (t:=15) Z (Sub.cons (t:=16) Z (Sub.cons (t:=17) Z (Sub.cons (t:=22) Z (Sub.cons (t:=23) Z (Sub.cons (t:=24) Z (Sub.cons (t:=34) Z (Sub.cons (t:=35) Z Sub.nil))))))))))) (J:=fun M w m=>∃(esm0:Array MapEntry) (ckm0:Nat) (xsm0:List (Int×Value)) (fm0:Int→Nat) (kk:Nat) (G:PH),M=[(36,.int .i64 (kk:Int))]∧PLe G6 G∧Hp w0 G0 [] w G [blk b9 (cl ln13 41),blk b1 (.map esm0 ckm0)]∧(MapIs (Value.int .i64) esm0 ckm0 xsm0∧UsR xsm0 fm0∧kk≤z8.ids.length∧(∀a,fm0 a=Sp.cntT (trees.take i) a+Sp.cntU (z4.flat []) a jj+Sp.cnt1 a (z8.ids.take kk)∧fm0 a≤48*i+4*jj+kk))∧m=(z8.ids.length-kk)) (h0:=⟨_,_,xsm0,fm0,0,_,Z,PLe.refl _,H,?inv,Z⟩) (round:=?round)
     case inv=>exact⟨hm6_m0,hS6_m0,(by exact⟨by omega,fun a=>(by have:=hf2 a;simp[Sp.cnt1];omega)⟩)⟩
     case round =>
      rintro _ _ _ ⟨esm0,ckm0,xsm0,fm0,kk,_,rfl,hle14,H,hinv14,rfl⟩
      subst hln13
      have hr8:=hr8.up hle14
      have hle6:=hle6.trans hle14
      obtain⟨hm14_m0,hS14_m0,hinv14⟩:=hinv14
      obtain⟨_,hf3⟩:=hinv14;have hb3:=fun a=>(hf3 a).2
      refine q2 (pe 1 Z (q3 (W_seq ?_)))
      refine W_cond Z ?_ ?_
      ·intro hc15
       try simp only[nrm]at hc15
       refine W_skip (N_K (W_seq (W_block (q2 (iP kk hr8 Z3 Z ?_)))));intro _ _ z16 _ hz16 hE16 hrow16
       obtain⟨rfl,_⟩:=hE16
       refine lP H hrow16 0 Z2 (aG Z (q3 (W_region (pe 2 Z (o_lookU (H.at (k:=1) Z) hm14_m0 hS14_m0 underlying215 underlying3 zeroValue3 Z Z Z ?_)))))
       try (have h7:=hb3 z16)
       refine aD Z2 (o_updU 1 H (fm0 z16+1) Z hm14_m0 hS14_m0 underlying215 underlying3 Z Z Z oM ?_);intro _ _ xs19 _ H hm19 hS19
       refine R_nil (N_B (N_K (W_region (aD Z2 (mV Z (R_nil ?_))))))
       refine N_lp (hJ:=⟨_,_,xs19,(fun a=>if a=z16 then(fm0 z16+1) else fm0 a),kk+1,_,Z,hle14,H,?inv,Z⟩) (hm:=?hm)
       case hm=>omega
       case inv=>exact⟨hm19,hS19,(by exact⟨by omega,fun a=>(by have h9:=hf3 a;have h7:=hf3 z16;(rw[Sp.cnt1_succ hz16]);by_cases e:a=z16;(· subst e;simp;omega);(· have e2:¬z16=a:=fun h=>e h.symm;simp only[e,e2,if_false];omega))⟩)⟩
      intro hc15'
      try simp only[nrm]at hc15'
      refine W_exit (N_K_exit (N_LP_exit (N_B_same (N_B (N_K (W_region (aD Z2 (mV Z (R_nil ?_)))))))))
      have H:=H.dl 0
      refine N_lp (hJ:=⟨_,_,xsm0,fm0,jj+1,_,Z,hle6,H,?inv,Z⟩) (hm:=?hm)
      case hm=>omega
      case inv=>exact⟨hm14_m0,hS14_m0,(by exact⟨by omega,fun a=>(by have h9:=hf3 a;(rw[Sp.cntU_succ hz8]);(rw[List.take_of_length_le (l:=z8.ids) oM]at h9);omega),Sp.all_take hok2 hz8 hio⟩)⟩
    intro hc7'
    try simp only[nrm]at hc7'
    refine W_exit (N_K_exit (N_LP_exit (N_B_same (N_B (N_K (W_region (aD Z2 (mV Z (R_nil ?_)))))))))
    refine N_lp (hJ:=⟨_,_,xsm0,fm0,i+1,_,Z,hle2,H,?inv,Z⟩) (hm:=?hm)
    case hm=>omega
    case inv=>exact⟨hm6_m0,hS6_m0,(by exact⟨by omega,fun a=>(by have h9:=hf2 a;have h10:=Sp.cntT_succ (id:=a) hz4;have h8:(z4.flat []).length=jj:=oM;(rw[h8]at h10);omega),Sp.all_take hok hz4 (by (rw[List.take_of_length_le (l:=z4.flat []) oM]at hok2);exact hok2)⟩)⟩
  intro hc3'
  try simp only[nrm]at hc3'
  refine W_exit (N_K_exit (N_LP_exit (N_B_same (N_K (W_seq (q2 (mV Z ?_)))))))
  have hmb23:=(hbs.at H.sub);refine o_range H hmb23 underlying147 rfl rfl ?_;intro r23 _ _ H _;have hne23:r23≠mbs:=fun e=>by have:=(Array.getElem?_eq_some_iff.1 hmb23).1;omega
  refine q3 (W_block ?_)
  refine W_lp (hf:=(Sub.cons (t:=5) Z (Sub.cons (t:=48) Z Sub.nil))) (J:=fun M w m=>∃(sn:Array Nat) (G:PH),M=[]∧PLe G2 G∧Hp w0 G0 [] w G [blk r23 (.mapIter (some mbs) cks sn cks),blk b1 (.map esm0 ckm0)]∧(∀y,y ∈ Ls→seenH ess sn y→(Sp.cntT trees y.id:Int)=y.uses)∧m=((leftOf ess sn).size)) (h0:=⟨#[],_,Z,PLe.refl _,H,?inv,Z⟩) (round:=?round)
  case inv=>rintro y hy ⟨e,_,_,he⟩;simp at he
  case round =>
   rintro _ _ _ ⟨sn,_,rfl,hle24,H,hinv24,rfl⟩
   have hSs:=hSs.up hle24
   have hbs:=hbs.up hle24
   have hsn:=hinv24
   refine q2 ?_
   refine o_next 0 H (hbs.at H.sub) hms hSs Z hne23 Z Z ?_ ?_
   ·intro hall25
    refine pe 1 Z (q3 (W_seq (W_false Z (W_exit (N_K_exit (N_LP_exit (N_B_same (N_K (q2 (aG Z (q3 (W_ret (rt1 results99 Z ?_)))))))))))))
    have hot:=hok;rw[List.take_of_length_le oM]at hot
    exact H.rets (congrArg Value.bool (by (rw[hot,Bool.true_and]);symm;(rw[List.all_eq_true]);intro y hy;simp only[decide_eq_true_eq];exact hsn y hy (hall25 y hy)))
   intro e25 _ _ _ he25 hk25 hv25 hy25 hE25 _ hless25 H
   obtain⟨_,_,_,rfl,_,_,_,_,_⟩:=ox hE25
   refine pe 1 Z (q3 (W_seq (W_true Z (W_skip (N_K (W_block (q2 (o_entry 0 H (hbs.at H.sub) hms Z he25 hk25 hv25 Z Z (pe 2 Z (xal H Z ?_))))))))));intro _ _ _ H
   refine aG Z (xst 0 H Z8 ?_);intro _ H
   refine q1 (pe 2 Z (o_lookU (H.at (k:=2) Z) hm2_m0 hS2_m0 underlying215 underlying3 zeroValue3 Z Z Z (fA 2 Z (lB 0 H Z3 (pe 1 Z (q3 ?_))))))
   refine W_cond Z ?_ ?_
   ·intro hc29
    try simp only[nrm]at hc29
    refine q2 (aG Z (q3 (W_ret (N_B_ret (N_LP_ret (N_B_ret (N_K_ret (rt1 results99 Z ?_))))))))
    have hft:∀a,fm0 a=Sp.cntT trees a:=fun a=>(by have h9:=(hf a).1;(rw[List.take_of_length_le oM]at h9);exact h9)
    have hot:=hok;rw[List.take_of_length_le oM]at hot
    exact H.rets (congrArg Value.bool (by (rw[hot,Bool.true_and]);symm;(rw[List.all_eq_false]);exact⟨_,hy25,by simp only[decide_eq_true_eq];(rw[←hft]);first|exact hc29|(simpa using hc29)|omega⟩))
   intro hc29'
   try simp only[nrm]at hc29'
   refine W_skip (N_B ?_)
   have H:=H.dl 0
   refine N_lp (hJ:=⟨_,_,Z,hle24,H,?inv,Z⟩) (hm:=?hm)
   case hm=>exact hless25
   case inv=>intro y hy hs;rcases seenH_push hms (hSs.nd hms) he25 hk25 hy25 hy hs with rfl|h;(· (have h9:=(hf y.id).1;(rw[List.take_of_length_le oM]at h9);(rw[←h9]);first|exact hc29'|(simpa using hc29')|omega));exact hsn y hy h
theorem i_StoreValid_c (w0:World)(G0:PH)(hG:PSub G0 w0)(vlist:Value)(list:List (BHeld))(hlist:RdH G0 vlist list) :
  Calls Tryz.prog 182 #[vlist] w0 (Rets w0 (.bool (Sp.StoreValid list))):=by
 obtain⟨alist,klist,rfl⟩:=hlist.shape
 have hlimlist:list.length≤1099511627776:=hlist.lim
 have H:=Hp.init hG
 refine calls_of_W (l:=[.slice alist list.length klist]) func182 Z ntmps182 Z (q2 (aG Z (q3 (W_seq (q2 (mV Z (lN Z (pe 1 Z (q3 ?_)))))))))
 refine W_cond Z ?_ ?_
 ·intro hc1
  try simp only[nrm]at hc1
  refine q2 (aG Z (q3 (W_ret (N_K_ret (rt1 results182 Z ?_)))))
  exact H.rets (congrArg Value.bool (by rw[Sp.sv_long oM]))
 intro hc1'
 try simp only[nrm]at hc1'
 refine W_skip (N_K (q2 (aG Z (q3 (W_seq (q2 (mV Z (lN Z (mV Z (q3 (W_block ?_)))))))))))
 refine W_lp (hf:=(Sub.cons (t:=0) Z (Sub.cons (t:=11) Z (Sub.cons (t:=12) Z Sub.nil)))) (J:=fun M w m=>∃(k:Nat) (la:Int) (G:PH),M=[(13,.int .i64 (k:Int)),(3,.int .i64 la)]∧PLe G0 G∧Hp w0 G0 [] w G []∧(k≤list.length∧la=Sp.lastId list k∧(∀j,j<k→Sp.okH list j=true)∧inI la)∧m=(list.length-k)) (h0:=⟨0,0,_,Z,PLe.refl _,H,?inv,Z⟩) (round:=?round)
 case inv=>exact⟨by omega,rfl,fun j hj=>by omega,by decide⟩
 case round =>
  rintro _ _ _ ⟨k,la,G2,rfl,hle2,H,hinv2,rfl⟩
  have hlist:=hlist.up hle2
  obtain⟨_,_,hall,_⟩:=hinv2
  refine q2 (pe 1 Z (q3 (W_seq ?_)))
  refine W_cond Z ?_ ?_
  ·intro hc3
   try simp only[nrm]at hc3
   refine W_skip (N_K (W_seq (W_block (q2 (mV Z (iP k hlist Z3 Z ?_))))));intro _ _ z4 _ hz4 hE4 hrow4
   obtain⟨_,_,_,rfl,hi4,hr4,_,_,_⟩:=ox hE4
   refine o_loadagg_P H isAgg139 sizeOf139 Z Z hrow4 Z (xal H Z ?_);intro b5 _ _ H
   refine aG Z (xst 0 H Z8 ?_);intro _ H
   refine q3 (W_seq (q2 (fA 0 Z (lB 0 H Z3 (pe 3 Z ?_)))))
   refine R_case (t:=22) Z ?_ ?_
   ·intro hc7
    try simp only[nrm]at hc7
    refine pe 20 Z (q3 (W_true Z (q2 (aG Z (q3 (W_ret (N_K_ret (N_B_ret (N_K_ret (N_LP_ret (N_B_ret (N_K_ret (rt1 results182 Z ?_)))))))))))))
    exact H.rets (congrArg Value.bool (by rw[Sp.sv_false (k:=k) oM (Sp.okH_last hz4 oM)]))
   intro hc7'
   try simp only[nrm]at hc7'
   refine gR Z (fA 0 Z (gR Z (lB 0 H Z3 (pe 3 Z ?_))))
   refine R_case (t:=27) Z ?_ ?_
   ·intro hc8
    try simp only[nrm]at hc8
    refine pe 15 Z (q3 (W_true Z (q2 (aG Z (q3 (W_ret (N_K_ret (N_B_ret (N_K_ret (N_LP_ret (N_B_ret (N_K_ret (rt1 results182 Z ?_)))))))))))))
    exact H.rets (congrArg Value.bool (by rw[Sp.sv_false (k:=k) oM (Sp.okH_id hz4 oM)]))
   intro hc8'
   try simp only[nrm]at hc8'
   refine gR Z (fA 2 Z (gR Z (lB 0 H Z3 (pe 3 Z ?_))))
   refine R_case (t:=32) Z ?_ ?_
   ·intro hc9
    try simp only[nrm]at hc9
    refine pe 10 Z (q3 (W_true Z (q2 (aG Z (q3 (W_ret (N_K_ret (N_B_ret (N_K_ret (N_LP_ret (N_B_ret (N_K_ret (rt1 results182 Z ?_)))))))))))))
    exact H.rets (congrArg Value.bool (by rw[Sp.sv_false (k:=k) oM (Sp.okH_id hz4 oM)]))
   intro hc9'
   try simp only[nrm]at hc9'
   refine gR Z (fA 2 Z (gR Z (lB 0 H Z3 (pe 3 Z ?_))))
   refine R_case (t:=37) Z ?_ ?_
   ·intro hc10
    try simp only[nrm]at hc10
    refine pe 5 Z (q3 (W_true Z (q2 (aG Z (q3 (W_ret (N_K_ret (N_B_ret (N_K_ret (N_LP_ret (N_B_ret (N_K_ret (rt1 results182 Z ?_)))))))))))))
    exact H.rets (congrArg Value.bool (by rw[Sp.sv_false (k:=k) oM (Sp.okH_id hz4 oM)]))
   intro hc10'
   try simp only[nrm]at hc10'
   refine gR Z (fA 1 Z (gR Z (lB 0 H Z3 (gR Z (xr H Z2 (i_BlockValid_c _ _ H.sub _ _ hr4) ?_)))));intro _ H
   refine pe 2 Z (q3 ?_)
   refine W_cond Z ?_ ?_
   ·intro hc12
    try simp only[nrm]at hc12
    refine q2 (aG Z (q3 (W_ret (N_K_ret (N_B_ret (N_K_ret (N_LP_ret (N_B_ret (N_K_ret (rt1 results182 Z ?_))))))))))
    exact H.rets (congrArg Value.bool (by rw[Sp.sv_false (k:=k) oM (Sp.okH_id hz4 (by exact .inr (.inr (.inr (by simpa using hc12)))))]))
   intro hc12'
   try simp only[nrm]at hc12'
   refine W_skip (N_K (W_seq (q2 (pe 2 Z ?_))))
   have hcap13:=hlist.cap;try simp only[List.length_set,List.length_append,List.length_take,List.length_drop,List.length_replicate]at hcap13
   refine o_slice_to (j:=k) underlying23 sizeOf139 Z Z Z oM oM ?_
   have hsl13:=hlist.take (j:=k) aN
   have hsn1:=hsl13.len
   refine lN Z (mV Z (q3 (W_block ?_)))
   obtain⟨ln14,hln14,H⟩:=H.name (k:=0) rfl
   refine W_lp (hf:=(Sub.cons (t:=0) Z (Sub.cons (t:=3) Z (Sub.cons (t:=5) Z (Sub.cons (t:=11) Z (Sub.cons (t:=12) Z (Sub.cons (t:=13) Z (Sub.cons (t:=45) Z (Sub.cons (t:=46) Z Sub.nil))))))))) (J:=fun M w m=>∃(j:Nat) (G:PH),M=[(47,.int .i64 (j:Int))]∧PLe G2 G∧Hp w0 G0 [] w G [blk b5 (cl ln14 139)]∧(j≤k∧(list.take j).all (fun g=> !Sp.l2Same g.bytes z4.bytes)=true)∧m=(k-j)) (h0:=⟨0,_,Z,PLe.refl _,H,?inv,Z⟩) (round:=?round)
   case inv=>exact⟨by omega,by simp⟩
   case round =>
    rintro _ _ _ ⟨j,_,rfl,hle15,H,hinv15,rfl⟩
    subst hln14
    have hr4:=hr4.up hle15
    have hsl13:=hsl13.up hle15
    have hle2:=hle2.trans hle15
    obtain⟨hj,hall2⟩:=hinv15
    refine q2 (pe 1 Z (q3 (W_seq ?_)))
    refine W_cond Z ?_ ?_
    ·intro hc16
     try simp only[nrm]at hc16
     refine W_skip (N_K (W_seq (W_block (q2 (iP j hsl13 Z3 Z ?_)))));intro _ _ _ _ hz17 hE17 hrow17
     obtain⟨_,_,_,rfl,_,hr17,_,_,_⟩:=ox hE17
     rw[List.getElem?_take,if_pos oM]at hz17
     refine o_loadagg_P H isAgg139 sizeOf139 Z Z hrow17 Z (xal H Z ?_);intro _ _ _ H
     refine xst 0 H Z8 ?_;intro _ H
     refine q1 (fA 1 Z (lB 0 H Z3 (fA 1 Z (lB 1 H Z3 (xr H Z2 (l_Equal_c _ _ H.sub _ _ hr17 _ _ hr4) ?_)))));intro _ H
     refine q3 ?_
     refine W_cond Z ?_ ?_
     ·intro hc21
      try simp only[nrm]at hc21
      refine q2 (aG Z (q3 (W_ret (N_B_ret (N_K_ret (N_LP_ret (N_B_ret (N_K_ret (N_B_ret (N_K_ret (N_LP_ret (N_B_ret (N_K_ret (rt1 results182 Z ?_))))))))))))))
      exact H.rets (congrArg Value.bool (by rw[Sp.sv_false (k:=k) oM (Sp.okH_dup hz4 oM hz17 hc21)]))
     intro hc21'
     try simp only[nrm]at hc21'
     refine W_skip (N_B (N_K (W_region (aD Z2 (mV Z (R_nil ?_))))))
     have H:=H.dl 0
     refine N_lp (hJ:=⟨j+1,_,Z,hle15,H,?inv,Z⟩) (hm:=?hm)
     case hm=>omega
     case inv=>exact⟨by omega,Sp.all_take hall2 hz17 (by simp[hc21'])⟩
    intro hc16'
    try simp only[nrm]at hc16'
    refine W_exit (N_K_exit (N_LP_exit (N_B_same (N_K (W_region (fA 0 Z (lB 0 H Z3 (aG Z (R_nil (N_B (N_K (W_region (aD Z2 (mV Z (R_nil ?_)))))))))))))))
    have H:=H.dl 0
    refine N_lp (hJ:=⟨k+1,z4.id,_,Z,hle2,H,?inv,Z⟩) (hm:=?hm)
    case hm=>omega
    case inv=>(obtain rfl:j=k:=by omega);exact⟨by omega,(Sp.lastId_succ hz4).symm,Sp.upto_succ hall (Sp.okH_mk hz4 hall oM oM (by simpa using hc12') oM hall2),hi4⟩
  intro hc3'
  try simp only[nrm]at hc3'
  refine W_exit (N_K_exit (N_LP_exit (N_B_same (N_K (q2 (aG Z (q3 (W_ret (rt1 results182 Z ?_)))))))))
  exact H.rets (congrArg Value.bool (by rw[Sp.sv_true (fun j hj=>hall j oM) oM]))
theorem i_openStore_c (w0:World)(G0:PH)(hG:PSub G0 w0)(vlist:Value)(list:List (BHeld))(hlist:RdH G0 vlist list)(hLent:Lent w0 G0 []) :
  Calls Tryz.prog 154 #[vlist] w0 (RetM w0 G0 [] (fun G' v Bs=>(Sp.StoreValid list=false∧v= .tuple #[.map none,.bool false]∧Bs=[])∨(Sp.VH list∧∃(mb:Nat) (es':Array MapEntry) (ck':Nat) (xs':List (Int×Value)),v= .tuple #[.map (some mb),.bool true]∧Bs=[blk mb (.map es' ck')]∧MapIs (Value.int .i64) es' ck' xs'∧StR G' xs' list))):=by
 obtain⟨alist,klist,rfl⟩:=hlist.shape
 have hlimlist:list.length≤1099511627776:=hlist.lim
 have H:Hp w0 G0 [] w0 G0 []:=hLent.hp
 refine calls_of_W (l:=[.slice alist list.length klist]) func154 Z ntmps154 Z (q2 (pe 2 Z (q3 (W_seq (q2 (mV Z (xr H Z2 (i_StoreValid_c _ _ H.sub _ _ hlist) ?_)))))));intro _ H
 refine pe 1 Z (q3 ?_)
 refine W_cond Z ?_ ?_
 ·intro hc2
  try simp only[nrm]at hc2
  refine q2 (pe 2 Z (q3 (W_ret (N_K_ret (rt2 results154 Z Z ?_)))))
  exact H.retM (.inl ⟨by simpa using hc2,rfl,rfl⟩)
 intro hc2'
 try simp only[nrm]at hc2'
 have hVl:=Sp.valid_iff.1 (by simpa using hc2':Sp.StoreValid list=true)
 refine W_skip (N_K (q2 (o_makeMap H Z ?_)));intro b3 _ _ H
 have hm3:=MapIs.empty (key:=Value.int .i64) 0
 have hS3:=StR.nil G0
 refine aG Z (q3 (W_seq (q2 (mV Z (lN Z (mV Z (q3 (W_block ?_))))))))
 refine W_lp (hf:=(Sub.cons (t:=2) Z (Sub.cons (t:=3) Z (Sub.cons (t:=4) Z (Sub.cons (t:=11) Z (Sub.cons (t:=12) Z Sub.nil)))))) (J:=fun M w m=>∃(esm0:Array MapEntry) (ckm0:Nat) (xsm0:List (Int×Value)) (Lm0:List BHeld) (k:Nat) (G:PH),M=[(13,.int .i64 (k:Int))]∧PLe G0 G∧Hp w0 G0 [] w G [blk b3 (.map esm0 ckm0)]∧(MapIs (Value.int .i64) esm0 ckm0 xsm0∧StR G xsm0 Lm0∧Sp.VH Lm0∧k≤list.length∧Lm0=list.take k)∧m=(list.length-k)) (h0:=⟨_,_,[],[],0,_,Z,PLe.refl _,H,?inv,Z⟩) (round:=?round)
 case inv=>exact⟨hm3,hS3,Sp.VH_nil,(by simp)⟩
 case round =>
  rintro _ _ _ ⟨esm0,ckm0,xsm0,Lm0,k,G4,rfl,hle4,H,hinv4,rfl⟩
  have hlist:=hlist.up hle4
  obtain⟨hm4_m0,hS4_m0,_,hinv4⟩:=hinv4
  obtain⟨_,rfl⟩:=hinv4
  refine q2 (pe 1 Z (q3 (W_seq ?_)))
  refine W_cond Z ?_ ?_
  ·intro hc5
   try simp only[nrm]at hc5
   refine W_skip (N_K (W_seq (W_block (q2 (iP k hlist Z3 Z ?_)))));intro _ _ z6 _ hz6 hE6 hrow6
   obtain⟨_,_,_,rfl,_,hr6,_,_,_⟩:=ox hE6
   refine o_loadagg_P H isAgg139 sizeOf139 Z Z hrow6 Z (xal H Z ?_);intro _ _ _ H
   refine xst 0 H Z8 ?_;intro _ H
   refine q3 (W_drawK [0] 12 H kR Z ?_);intro _ H;have hd9:=PLe.refl G4
   refine dE 0 Z2 (dF 1 0 Z2 (dB 2 0 Z4 (dF 3 0 Z2 (dB 4 0 Z4 (dF 5 1 Z2 (dB 6 0 Z4 (dF 8 2 Z2 (dB 9 0 Z4 (r1 7 Z (xc Z2 (l_Clone_c _ _ H.sub _ _ hr6) ?_))))))))))
   rintro _ _ ⟨_,_,_,g10,rfl,⟨_,rfl,hchk10⟩,hp10,hq10,hs10⟩
   have H:=H.growO g10 hp10 hq10 hs10;obtain⟨_,_,rfl⟩:=H.accShape (k:=0) rfl
   have hS4_m0:=hS4_m0.up g10.le
   have hle4:=hle4.trans g10.le
   have hd9:=hd9.trans g10.le
   refine⟨_,Z,?_⟩
   refine q4 H hd9 (RD_t 10 Z kR Z (fun _ hK=>v_build bf139 Z Z) (r1 11 Z ?_))
   obtain⟨G12,H,hsg12,hsr12⟩:=H.shutL (k:=0) rfl (H.apart (k:=0) (ks:=[]) rfl rfl (by intro _ hb;simpa [fpsAt,nth,blk] using hb)) hchk10 aN aN
   have hS4_m0:=hS4_m0.up hsg12
   have hle4:=hle4.trans hsg12
   refine o_updS 1 H z6 Z hm4_m0 hS4_m0 underlying147 underlying3 Z Z Z (show heldE G12 z6 _ from⟨_,_,_,Z,⟨by first|omega|(dsimp only;omega),by first|omega|(dsimp only;omega)⟩,hsr12,⟨by first|omega|(dsimp only;omega),by first|omega|(dsimp only;omega)⟩⟩) rfl ?_;intro _ _ xs11 _ H hm11 hS11
   refine R_nil (N_DKlast kR kR (N_B (N_K (W_region ?_))))
   rw[Sp.upd_take hVl hz6]at hS11
   refine aD Z2 (mV Z (R_nil ?_))
   have H:=H.dl 0
   refine N_lp (hJ:=⟨_,_,xs11,(list.take (k+1)),k+1,_,Z,hle4,H,?inv,Z⟩) (hm:=?hm)
   case hm=>omega
   case inv=>exact⟨hm11,hS11,(hVl.take (k+1)),(by exact⟨by omega,rfl⟩)⟩
  intro hc5'
  try simp only[nrm]at hc5'
  refine W_exit (N_K_exit (N_LP_exit (N_B_same (N_K (q2 (pe 3 Z (q3 (W_ret (rt2 results154 Z Z ?_)))))))))
  rw[List.take_of_length_le oM]at hS4_m0
  exact H.retM (.inr ⟨hVl,_,_,_,_,Z,Z,hm4_m0,hS4_m0⟩)
theorem i_slist_c (w0:World)(G0:PH)(hG:PSub G0 w0)(mbs:Nat)(ess:Array MapEntry)(cks:Nat)(xss:List (Int×Value))(Ls:List BHeld)(hbs:MapAt G0 mbs ess cks)(hms:MapIs (Value.int .i64) ess cks xss)(hSs:StR G0 xss Ls)(hVs:Sp.VH Ls) :
  Calls Tryz.prog 105 #[.map (some mbs)] w0 (RetN w0 G0 (fun v Bs=>∃(F:Fr),Bs=[frag F]∧OHs F v Ls)):=by
 have hl16:=hVs.len
 have H:=Hp.init hG
 refine calls_of_W (l:=[.map (some mbs)]) func105 Z ntmps105 Z (q2 (aG Z (q1 (mV Z ?_))))
 have hml1:=hSs.len
 refine o_lenM (hbs.at H.sub) hms underlying147 Z Z (o_make0 (c:=Ls.length) (sz:=3) (bytes:=40) H underlying23 typeInfo139 ⟨_,Z,Z⟩ Z Z Z Z Z Z oM oM Z ?_);intro _ _ H
 refine aG Z (q3 (W_seq (q2 (mV Z (o_call call163 Z Z (keys_c _ _ H.sub _) ?_)))));rintro _ w3 ⟨kb3,rfl,hkb3,ek3,hkc3⟩;have H:=H.step ek3;refine⟨_,rfl,?_⟩
 refine o_call call162 Z Z (sorted_c _ _ _ hkc3 (hbs.at H.sub) hms hSs hVs) ?_;rintro _ w4 ⟨v4,rfl,ek4,hp4,hf4⟩;have H:=H.add ek4 _ hp4 hf4 (acc_nd _ _ _ _ _)
 have hchk4:=chkIds G0 hVs;obtain⟨_,_,rfl⟩:=H.accShape (k:=0) rfl;refine⟨_,rfl,?_⟩
 refine lN Z (mV Z (q3 (W_block ?_)))
 obtain⟨G5,H,hsg5,hsr5⟩:=H.shut' (k:=0) rfl hchk4 aN aN
 have hSs:=hSs.up hsg5
 have hbs:=hbs.up hsg5
 have H:=H.addF
 refine W_lp (hf:=(Sub.cons (t:=0) Z (Sub.cons (t:=2) Z (Sub.cons (t:=12) Z (Sub.cons (t:=13) Z Sub.nil))))) (J:=fun M w m=>∃(v:Value) (n:Nat) (cs:List Value) (xs:List (BHeld)) (F:Fr) (k:Nat) (G:PH),M=[(14,.int .i64 (k:Int)),(3,v)]∧PLe G5 G∧Hp w0 G0 [] w G [frag F,acc 139 3 v n cs]∧(ChkF heldO 3 cs xs F∧n=xs.length∧k≤Ls.length∧xs=Ls.take k)∧m=(Ls.length-k)) (h0:=⟨_,_,_,[],[],0,_,Z,PLe.refl _,H,?inv,Z⟩) (round:=?round)
 case inv=>exact⟨ChkF.nil,by first|rfl|simp|(simp;omega)|omega,(by simp)⟩
 case round =>
  rintro _ _ _ ⟨v,n,cs,xs,F,k,G6,rfl,hle6,H,hinv6,rfl⟩
  have hSs:=hSs.up hle6
  have hbs:=hbs.up hle6
  have hsr5:=hsr5.up hle6
  obtain⟨hchk6_0,_,hinv6⟩:=hinv6
  obtain⟨_,_,rfl⟩:=H.accShape (k:=1) rfl
  obtain⟨_,hxs⟩:=hinv6;have hxl:xs.length≤16:=by rw[hxs];simp;omega
  refine q2 (pe 1 Z (q3 (W_seq ?_)))
  refine W_cond Z ?_ ?_
  ·intro hc7
   try simp only[nrm]at hc7
   refine W_skip (N_K (W_seq (W_block (q2 (iP k hsr5 Z3 Z ?_)))));intro _ _ z8 _ hz8 hE8 hrow8
   obtain⟨rfl,_⟩:=hE8
   refine lP H hrow8 0 Z2 (aG Z (q1 (pe 2 Z (o_lookS (hbs.at H.sub) hms hSs underlying147 underlying3 zeroValue139 Z Z Z ?_))));intro _ hE9
   obtain⟨_,_,_,rfl,_,hr9,_,_,_⟩:=ox hE9
   have hgb:=Sp.get_len hVs z8
   have hat:=Sp.get_at hVs hz8
   refine xal H Z ?_;intro _ _ _ H
   refine xst 0 H Z8 ?_;intro _ H
   refine q3 (W_drawK [0] 11 H kR Z ?_);intro _ H;have hd12:=PLe.refl G6
   refine dE 0 Z2 (dE 1 Z2 (dF 2 1 Z2 (dB 3 0 Z4 (dF 5 2 Z2 (dB 6 0 Z4 (r1 4 Z (xc Z2 (l_Clone_c _ _ H.sub _ _ hr9) ?_)))))))
   rintro _ _ ⟨_,_,_,g13,rfl,⟨_,rfl,hchk13⟩,hp13,hq13,hs13⟩
   have H:=H.growO g13 hp13 hq13 hs13;obtain⟨_,_,rfl⟩:=H.accShape (k:=0) rfl
   have hle6:=hle6.trans g13.le
   have hd12:=hd12.trans g13.le
   refine⟨_,Z,?_⟩
   refine q4 H hd12 (RD_t 7 Z kR Z (fun _ hK=>v_build bf139 Z Z) (r1 8 Z (xbs H Z7 ?_)));intro _ _ _ H
   refine q4 H hd12 (r1 9 Z (o_append1 3 H (sz:=3) (bytes:=40) underlying23 typeInfo139 ⟨_,Z,Z⟩ Z Z Z Z Z Z Z Z Z Z oM Z ?_));intro _ _ H
   obtain⟨Fi2,H,hOI2⟩:=H.ownI (k:=0) rfl hchk13 aN aN
   have hchk15:=hchk6_0.snoc (show heldO Fi2 ⟨z8,(getH Ls z8).bytes,(getH Ls z8).uses⟩ _ from⟨_,_,_,rfl,⟨by first|omega|(dsimp only;omega),by first|omega|(dsimp only;omega)⟩,hOI2,⟨by first|omega|(dsimp only;omega),by first|omega|(dsimp only;omega)⟩⟩) rfl
   have H:=H.tF 2
   have H:=H.mergeF
   obtain⟨_,_,rfl⟩:=H.accShape (k:=2) rfl
   refine q4 H hd12 (dE 10 Z2 (rz (N_B (N_K (W_region (aD Z2 (mV Z (R_nil ?_))))))))
   have H:=H.dl 1
   refine N_lp (hJ:=⟨_,_,_,(xs++[⟨z8,(getH Ls z8).bytes,(getH Ls z8).uses⟩]),(F++Fi2),k+1,_,Z,hle6,H,?inv,Z⟩) (hm:=?hm)
   case hm=>omega
   case inv=>exact⟨hchk15,aN,(by exact⟨by omega,by rw[Sp.take_succ' hat,hxs]⟩)⟩
  intro hc7'
  try simp only[nrm]at hc7'
  refine W_exit (N_K_exit (N_LP_exit (N_B_same (N_K (q2 (pe 2 Z (q3 (W_ret (rt1 results105 Z ?_)))))))))
  have H:=H.tF 1
  obtain⟨_,H,hOw3⟩:=H.ownF hchk6_0 aN aN
  have hX:xs=Ls:=by rw[hxs,List.take_of_length_le oM]
  have H:=H.forget hG (by simp)
  exact⟨_,_,Z,H,_,Z,hX▸⟨_,hOw3⟩⟩
theorem i_newVolume_c (w0:World)(G0:PH)(hG:PSub G0 w0)(vstore:Value)(store:List (BHeld))(hstore:RdH G0 vstore store)(vtree:Value)(tree:List (BItem))(htree:RdItems G0 vtree tree)(hLent:Lent w0 G0 []) :
  Calls Tryz.prog 96 #[vstore,vtree] w0 (RetM w0 G0 [] (fun G' v Bs=>(v= .tuple #[.agg #[.map none,.pointer none],.bool false]∧Bs=[]∧(Sp.StoreValid store&&Sp.TreeValid tree)=false)∨(∃(mb:Nat) (es:Array MapEntry) (ck:Nat) (xs:List (Int×Value)) (T:Nd) (F:Fr),v= .tuple #[.agg #[.map (some mb),.pointer (some ⟨T.b,0,none⟩)],.bool true]∧Bs=[blk mb (.map es ck),frag F]∧MapIs (Value.int .i64) es ck xs∧StR G' xs store∧Sp.VH store∧NdO 90 84 G' T F∧Nd.TOK T tree∧Sp.TreeValid tree=true))):=by
 obtain⟨astore,kstore,rfl⟩:=hstore.shape
 have hlimstore:store.length≤1099511627776:=hstore.lim
 obtain⟨atree,ktree,rfl⟩:=htree.shape
 have hlimtree:tree.length≤1099511627776:=htree.lim
 have H:Hp w0 G0 [] w0 G0 []:=hLent.hp
 refine calls_of_W (l:=[.slice astore store.length kstore,.slice atree tree.length ktree]) func96 Z ntmps96 Z (q2 (xal H Z ?_));intro _ _ _ H
 refine aG Z (q1 (mV Z (xc Z2 (i_openStore_c _ _ H.sub _ _ hstore H.lent0) ?_)))
 rintro _ _ ⟨_,_,_,rfl,H2',⟨_,rfl,rfl⟩|⟨hV2,_,_,_,_,rfl,rfl,hm2,hS2⟩⟩
 ·skip
  have H:=H.borrow0 H2'
  refine⟨_,Z,?_⟩
  refine pe 5 Z (q3 (W_seq (q2 (pe 2 Z (q3 (W_true Z (q2 (o_build bf149 Z Z Z (xst 0 H Z8 ?_)))))))));intro _ H
  refine aG Z (q3 (W_ret (N_K_ret (ret_gen (rs:=[.cell 4 149,.tmp 5]) (vs:=[_,_]) results96 ⟨⟨_,Z,load_blk 0 H isAgg149 sizeOf149 Z Z Z⟩,Z,trivial⟩ ?_))))
  have H:=H.dl 0
  exact H.retM (.inl ⟨rfl,rfl,by simp_all⟩)
 skip
 have htree:=htree.up H2'.le
 have H:=H.borrow0 H2'
 refine⟨_,Z,?_⟩
 refine pe 5 Z (q3 (W_seq (q2 (pe 2 Z (q3 (W_false Z (W_skip (N_K (q2 (mV Z (xc Z2 (i_openTree_c _ _ H.sub _ _ htree H.lent0) ?_)))))))))))
 rintro _ _ ⟨_,_,_,rfl,H4',⟨rfl,rfl,hv4⟩|⟨_,_,rfl,rfl,hN4,hT4,hv4⟩⟩
 ·skip
  have H:=H.borrow0 H4'
  refine⟨_,Z,?_⟩
  refine pe 5 Z (q3 (W_seq (q2 (pe 2 Z (q3 (W_true Z (q2 (o_build bf149 Z Z Z (xst 1 H Z8 ?_)))))))));intro _ H
  refine aG Z (q3 (W_ret (N_K_ret (ret_gen (rs:=[.cell 4 149,.tmp 5]) (vs:=[_,_]) results96 ⟨⟨_,Z,load_blk 1 H isAgg149 sizeOf149 Z Z Z⟩,Z,trivial⟩ ?_))))
  have H:=H.dl 0
  have H:=H.dl 0
  exact H.retM (.inl ⟨rfl,rfl,by simp_all⟩)
 skip
 have hS2:=hS2.up H4'.le
 have H:=H.borrow0 H4'
 refine⟨_,Z,?_⟩
 refine pe 5 Z (q3 (W_seq (q2 (pe 2 Z (q3 (W_false Z (W_skip (N_K (q2 (pe 2 Z (o_build bf149 Z Z Z (xst 2 H Z8 ?_))))))))))));intro _ H
 refine aG Z (q3 (W_ret (ret_gen (rs:=[.cell 4 149,.tmp 5]) (vs:=[_,_]) results96 ⟨⟨_,Z,load_blk 2 H isAgg149 sizeOf149 Z Z Z⟩,Z,trivial⟩ ?_)))
 have H:=H.dl 2
 have H:=H.tF 1
 exact H.retM (.inr ⟨_,_,_,_,_,_,Z,Z,hm2,hS2,hV2,hN4,hT4,hv4⟩)
theorem i_snapAt_c (w0:World)(G0:PH)(hG:PSub G0 w0)(db:Nat)(m1 m2 v1 v2 vs:Value)(sn:List (Bs×Nd))(hdk:PRow G0 db 0 [m1,m2,v1,v2,vs])(hsn:RdS LIM osE 2 G0 vs sn)(nm:Bs)(hnm:nm.length≤16777216) :
  Calls Tryz.prog 98 #[.pointer (some ⟨db,0,none⟩),str nm] w0 (Rets w0 (.int .i64 (Sp.optI (sn.findIdx? (fun x=>decide (x.1=nm)))))):=by
 obtain⟨_,_,rfl⟩:=hsn.shape;have hlimsn:sn.length≤1099511627776:=hsn.lim
 have H:=Hp.init hG
 refine calls_of_W (l:=[.pointer (some ⟨db,0,none⟩),str nm]) func98 Z ntmps98 Z (q2 (aG Z (q3 (W_seq (q2 (pe 2 Z (fA 4 Z (lP H hdk 4 Z2 (lN Z (mV Z (q3 (W_block ?_))))))))))))
 refine W_lp (hf:=(Sub.cons (t:=1) Z (Sub.cons (t:=10) Z (Sub.cons (t:=11) Z Sub.nil)))) (J:=fun M w m=>∃(k:Nat) (G:PH),M=[(12,.int .i64 (k:Int))]∧PLe G0 G∧Hp w0 G0 [] w G []∧(k≤sn.length∧∀(j:Nat) (x:Bs×Nd),j<k→sn[j]? = some x→decide (x.1=nm)=false)∧m=(sn.length-k)) (h0:=⟨0,_,Z,PLe.refl _,H,?inv,Z⟩) (round:=?round)
 case inv=>exact⟨by omega,fun j x hj=>by omega⟩
 case round =>
  rintro _ _ _ ⟨k,_,rfl,hle1,H,hinv1,rfl⟩
  have hsn:=hsn.up hle1
  obtain⟨_,hno⟩:=hinv1
  refine q2 (pe 1 Z (q3 (W_seq ?_)))
  refine W_cond Z ?_ ?_
  ·intro hc2
   try simp only[nrm]at hc2
   refine W_skip (N_K (W_seq (W_block (q2 (mV Z (iP k hsn Z3 Z ?_))))));intro _ _ _ _ hz3 hE3 hrow3
   obtain⟨rfl,hi3⟩:=hE3;have hy_hi3:_≤16777216:=hi3
   refine o_loadagg_P H isAgg164 sizeOf164 Z Z hrow3 Z (xal H Z ?_);intro _ _ _ H
   refine aG Z (xst 0 H Z8 ?_);intro _ H
   refine q1 (fA 0 Z (lB 0 H Z3 (mV Z (o_seql Z Z Z (q3 ?_)))))
   refine W_cond Z ?_ ?_
   ·intro hc6
    try simp only[nrm]at hc6
    refine q2 (pe 2 Z (q3 (W_ret (N_B_ret (N_K_ret (N_LP_ret (N_B_ret (N_K_ret (rt1 results98 Z ?_)))))))))
    exact H.rets (congrArg (Value.int .i64) (by rw[Sp.fidx_some (p:=fun x:Bs×Nd=>decide (x.1=nm)) hno hz3 (by simpa using hc6)];rfl))
   intro hc6'
   try simp only[nrm]at hc6'
   refine W_skip (N_B (N_K (W_region (aD Z2 (mV Z (R_nil ?_))))))
   have H:=H.dl 0
   refine N_lp (hJ:=⟨k+1,_,Z,hle1,H,?inv,Z⟩) (hm:=?hm)
   case hm=>omega
   case inv=>exact⟨by omega,Sp.fidx_step hno hz3 (by simpa using hc6')⟩
  intro hc2'
  try simp only[nrm]at hc2'
  refine W_exit (N_K_exit (N_LP_exit (N_B_same (N_K (q2 (aG Z (q3 (W_ret (rt1 results98 Z ?_)))))))))
  exact H.rets (congrArg (Value.int .i64) (by rw[Sp.fidx_none (p:=fun x:Bs×Nd=>decide (x.1=nm)) (fun j x hj=>hno j x oM)];rfl))
theorem i_newDisk_c (w0:World)(G0:PH)(hG:PSub G0 w0)(cd:List Value)(d:BDisk)(hd:diskE G0 d cd)(hLent:Lent w0 G0 []) :
  Calls Tryz.prog 37 #[.agg cd.toArray] w0 (RetM w0 G0 [] (fun G' v Bs=>(v= .tuple #[.pointer none,.bool false]∧Bs=[]∧Sp.DiskValid d=false)∨(∃(db mb:Nat) (es:Array MapEntry) (ck:Nat) (xs:List (Int×Value)) (T:Nd) (F:Fr) (sv:Value) (sn:List (Fw.Bs×Nd)) (c:List Value) (FSq:Fr),v= .tuple #[.pointer (some ⟨db,0,none⟩),.bool true]∧Bs=[blk db (cl [.int .i32 0,.int .u32 0,.map (some mb),.pointer (some ⟨T.b,0,none⟩),sv] 161),blk mb (.map es ck),frag F,acc 164 2 sv sn.length c,frag FSq]∧MapIs (Value.int .i64) es ck xs∧StR G' xs d.store∧NdO 90 84 G' T F∧Nd.TOK T d.tree∧Chk osE 2 G' c sn∧NdsO 90 84 G' (sn.map (·.2)) FSq∧SnOK sn d.snaps∧Sp.DiskValid d=true))):=by
 obtain⟨_,_,_,_,_,_,_,_,_,rfl,hr1,hr1',hr1'',⟨_,_⟩,⟨_,_⟩,_,_⟩:=ox hd
 have H:Hp w0 G0 [] w0 G0 []:=hLent.hp
 refine calls_of_W (l:=[_]) func37 Z ntmps37 Z (q2 (o_box H Z Z Z ?_));intro b2 _ _ H
 refine pe 2 Z (q1 (fA 0 Z (lB 0 H Z3 (fA 1 Z (lB 0 H Z3 (xc Z2 (i_newVolume_c _ _ H.sub _ _ hr1 _ _ hr1' H.lent0) ?_))))))
 rintro _ _ ⟨G3,_,_,rfl,H3',⟨rfl,rfl,hnv3⟩|⟨mb3,es3,ck3,_,T3,F3,rfl,rfl,hm3,hS3,hV3,hN3,hT3,hv3⟩⟩
 ·skip
  have H:=H.borrow0 H3'
  refine⟨_,Z,?_⟩
  refine pe 3 Z (xal H Z ?_);intro _ _ _ H
  refine xst 0 H Z8 ?_;intro _ H
  refine aG Z (q3 (W_seq (q2 (pe 8 Z (q3 (W_true Z (q2 (pe 2 Z (q3 (W_ret (N_K_ret (rt2 results37 Z Z ?_))))))))))))
  have H:=H.dl 0
  have H:=H.dl 0
  exact H.retM (.inl ⟨rfl,rfl,Sp.dv_no (fun hh=>by simp[hh.1,hh.2.1]at hnv3)⟩)
 skip
 have hr1'':=hr1''.up H3'.le
 have H:=H.borrow0 H3'
 refine⟨_,Z,?_⟩
 refine pe 3 Z (xal H Z ?_);intro b6 _ _ H
 refine xst 0 H Z8 ?_;intro _ H
 refine aG Z (q3 (W_seq (q2 (pe 3 Z (gR Z (fA 2 Z (gR Z (lB 3 H Z3 (gR Z (lN Z (pe 2 Z (q3 ?_))))))))))))
 refine W_cond Z ?_ ?_
 ·intro hc8
  try simp only[nrm]at hc8
  refine q2 (pe 2 Z (q3 (W_ret (N_K_ret (rt2 results37 Z Z ?_)))))
  have H:=H.sel [] rfl
  exact H.retM (.inl ⟨rfl,rfl,Sp.dv_no (fun hh=>by have:=hh.2.2.1;omega)⟩)
 intro hc8'
 try simp only[nrm]at hc8'
 refine W_skip (N_K (q2 (lA 0 2 H Z4 (o_build bf161 Z Z Z (o_box H Z Z Z ?_)))));intro b9 _ _ H
 refine aG Z (q1 (fA 1 Z (lB 1 H Z3 (xbs H Z7 ?_))));intro _ _ _ H
 refine aG Z (q3 (W_seq (q2 (fA 2 Z (lB 5 H Z3 (lN Z (mV Z (q3 (W_block ?_)))))))))
 have H:=H.blkAcc 1 (k:=0) (n:=1) rfl rfl (by decide)
 have H:=H.addF
 have H:=H.addNil 164 2
 obtain⟨ln12,hln12,H⟩:=H.nameAt (k:=3) (off:=4) rfl rfl
 obtain⟨ln13,hln13,H⟩:=H.name (k:=4) rfl
 obtain⟨ln14,hln14,H⟩:=H.name (k:=7) rfl
 refine W_lp (hf:=(Sub.cons (t:=4) Z (Sub.cons (t:=6) Z (Sub.cons (t:=35) Z (Sub.cons (t:=36) Z Sub.nil))))) (J:=fun M w m=>∃(v:Value) (n:Nat) (cs:List Value) (xs:List (Bs×Nd)) (v1:Value) (n1:Nat) (cs1:List Value) (xs1:List (Nd)) (k:Nat) (FSq:Fr) (G:PH),M=[(37,.int .i64 (k:Int)),(7,v1)]∧PLe G3 G∧Hp w0 G0 [] w G [acc 164 2 v n cs,frag FSq,acc 84 1 v1 n1 cs1,blk b9 (cl (setN ln12 4 v) 161),blk b6 (cl ln13 149),blk mb3 (.map es3 ck3),frag F3,blk b2 (cl ln14 27)]∧(Chk osE 2 G cs xs∧n=xs.length∧Chk kdE 1 G cs1 xs1∧n1=xs1.length∧k≤d.snaps.length∧xs1=T3::xs.map (·.2)∧NdsO 90 84 G (xs.map (·.2)) FSq∧SnOK xs (d.snaps.take k)∧∀(j:Nat) (s:BSnap),j<k→d.snaps[j]? = some s→Sp.l1Word s.name=true∧(j:Int)≤Sp.l12At d.snaps s.name)∧m=(d.snaps.length-k)) (h0:=⟨_,_,_,[],_,_,_,[T3],0,[],_,Z,PLe.refl _,H,?inv,Z⟩) (round:=?round)
 case inv=>exact⟨(Chk.nil (E:=osE) (sz:=2) (G:=G3)),(by first|rfl|simp|(simp;omega)|omega),(chkK [T3]),by first|rfl|simp|(simp;omega)|omega,(by exact⟨by omega,rfl,by simp[NdsO],.nil,fun j s hj=>by omega⟩)⟩
 case round =>
  rintro _ _ _ ⟨v,n,cs,xs,v1,n1,cs1,xs1,k,FSq,_,rfl,hle15,H,hinv15,rfl⟩
  subst hln12
  subst hln13
  subst hln14
  have hr1'':=hr1''.up hle15
  have hS3:=hS3.up hle15
  have hN3:=hN3.up hle15
  obtain⟨hchk15_0,_,hinv15⟩:=hinv15
  obtain⟨_,_,rfl⟩:=H.accShape (k:=0) rfl
  obtain⟨hchk15_1,_,hinv15⟩:=hinv15
  obtain⟨_,_,rfl⟩:=H.accShape (k:=2) rfl
  obtain⟨_,hx1,hNs,hSn,hw⟩:=hinv15;have hsl:=hSn.len;have hxl6:xs.length≤6:=(by simp at hsl;omega);have hx1l:xs1.length=xs.length+1:=by simp[hx1]
  refine q2 (pe 1 Z (q3 (W_seq ?_)))
  refine W_cond Z ?_ ?_
  ·intro hc16
   try simp only[nrm]at hc16
   refine W_skip (N_K (W_seq (W_block (q2 (iP k hr1'' Z3 Z ?_)))));intro _ _ z17 _ hz17 hE17 hrow17
   obtain⟨_,_,_,rfl,hi17,hr17,_,_⟩:=ox hE17
   refine o_loadagg_P H isAgg67 sizeOf67 Z Z hrow17 Z (xal H Z ?_);intro _ _ _ H
   refine xst 0 H Z8 ?_;intro _ H
   refine q1 (fA 1 Z (lB 0 H Z3 (xc Z2 (i_openTree_c _ _ H.sub _ _ hr17 H.lent0) ?_)))
   rintro _ _ ⟨G20,_,_,rfl,H20',⟨rfl,rfl,hv20⟩|⟨T20,F20,rfl,rfl,hN20,hT20,hv20⟩⟩
   ·skip
    have H:=H.borrow0 H20'
    refine⟨_,Z,?_⟩
    refine pe 5 Z (q3 (W_seq (q2 (pe 15 Z (q3 (W_true Z (q2 (pe 2 Z (q3 (W_ret (N_K_ret (N_B_ret (N_K_ret (N_LP_ret (N_B_ret ?_)))))))))))))))
    refine N_K_ret (rt2 results37 Z Z ?_)
    have H:=H.sel [] rfl
    exact H.retM (.inl ⟨rfl,rfl,Sp.dv_no (fun hh=>by (rw[(hh.2.2.2 k _ hz17).2.2]at hv20);cases hv20)⟩)
   skip
   have hchk15_0:=hchk15_0.up H20'.le
   have hchk15_1:=hchk15_1.up H20'.le
   have hNs:=hNs.up H20'.le
   have hle15:=hle15.trans H20'.le
   have H:=H.borrow0 H20'
   refine⟨_,Z,?_⟩
   refine pe 5 Z (q3 (W_seq (q2 (pe 3 Z (gR Z (fA 0 Z (gR Z (lB 1 H Z3 (gR Z (xr H Z2 (i_partValid_c _ _ hi17) ?_))))))))));intro _ H
   refine pe 3 Z ?_
   refine R_case (t:=55) Z ?_ ?_
   ·intro hc22
    try simp only[nrm]at hc22
    refine pe 6 Z (q3 (W_true Z (q2 (pe 2 Z (q3 (W_ret (N_K_ret (N_B_ret (N_K_ret (N_LP_ret (N_B_ret (N_K_ret (rt2 results37 Z Z ?_)))))))))))))
    have H:=H.sel [] rfl
    exact H.retM (.inl ⟨rfl,rfl,Sp.dv_no (fun hh=>by have h9:=(hh.2.2.2 k _ hz17).1;simp_all)⟩)
   intro hc22'
   try simp only[nrm]at hc22'
   refine pe 1 Z (gR Z (fA 0 Z (gR Z (lB 1 H Z3 (gR Z (xr H Z2 (i_snapAt_c _ _ (H.lendSubL [2,5]) _ _ _ _ _ _ _ (prow_blk (H.lendPredL (k:=5) (ks:=[2,5]) Z Z)) (H.lendRdL (k:=2) (ks:=[2,5]) Z Z hchk15_0 aN aN) _ hi17) ?_))))));intro _ H
   refine pe 2 Z (q3 ?_)
   refine W_cond Z ?_ ?_
   ·intro hc24
    try simp only[nrm]at hc24
    refine q2 (pe 2 Z (q3 (W_ret (N_K_ret (N_B_ret (N_K_ret (N_LP_ret (N_B_ret (N_K_ret (rt2 results37 Z Z ?_))))))))))
    have H:=H.sel [] rfl
    exact H.retM (.inl ⟨rfl,rfl,Sp.dv_no (fun hh=>by have h9:=(Sp.at_take hz17).1 (hh.2.2.2 k _ hz17).2.1;(rw[←Sp.sn_find hSn]at h9);omega)⟩)
   intro hc24'
   try simp only[nrm]at hc24'
   refine W_skip (N_K (W_seq (W_drawK [1,6,9] 14 H kR Z ?_)));intro _ H;have hd25:=PLe.refl G20
   refine dE 0 Z2 (dE 1 Z2 (dE 2 Z2 (dF 3 4 Z2 (dF 5 0 Z2 (dB 6 0 Z4 (dE 7 Z2 (RD_t 8 Z kR Z (fun _ hK=>v_build bf164 Z Z) ?_)))))))
   refine r2 4 9 Z2 ?_ ?_
   ·skip
    refine lB 5 H Z3 (q4 H hd25 (r1 9 Z (xbs H Z7 ?_)));intro _ _ _ H
    refine q4 H hd25 (r1 10 Z (o_append1 2 H (sz:=2) (bytes:=24) underlying159 typeInfo164 ⟨_,Z,Z⟩ Z Z Z Z Z Z Z Z Z Z oM Z ?_));intro _ _ H
    have hchk27:=hchk15_0.snoc (show osE _ (z17.name,T20) _ from⟨rfl,hi17⟩) rfl
    obtain⟨_,_,rfl⟩:=H.accShape (k:=2) rfl
    refine q4 H hd25 (dE 11 Z2 (dF 12 4 Z2 (r1 13 Z ?_)))
    have H:=H.tF 3
    have H:=H.mergeF
    refine xst 4 H Z8 ?_;intro _ H
    refine q4 H hd25 (rz (N_K (W_region (pe 2 Z (xbs H Z7 ?_)))));intro _ _ _ H
    refine o_append1 3 H (sz:=1) (bytes:=8) underlying88 typeInfo84 ⟨_,Z,Z⟩ Z Z Z Z Z Z Z Z Z Z oM Z ?_;intro _ _ H
    have hchk30:=hchk15_1.snoc (show kdE _ T20 _ from rfl) rfl
    obtain⟨_,_,rfl⟩:=H.accShape (k:=3) rfl
    refine aG Z (R_nil (N_B (N_K (W_region (aD Z2 (mV Z (R_nil ?_)))))))
    have H:=H.sel [2,0,3,4,5,6,7,8] rfl
    refine N_lp (hJ:=⟨_,_,_,(xs++[(z17.name,T20)]),_,_,_,(xs1++[T20]),k+1,(FSq++F20),_,Z,hle15,H,?inv,Z⟩) (hm:=?hm)
    case hm=>omega
    case inv=>exact⟨hchk27,aN,hchk30,aN,(by exact⟨by omega,by simp[hx1],by simpa using hNs.snoc hN20,hSn.snoc2 hz17 rfl hT20 hv20,names_step hw hz17 (by simpa using hc22') hSn oM⟩)⟩
   skip
   refine xbs H Z7 ?_;intro _ _ _ H
   refine q4 H hd25 (r1 4 Z (lB 6 H Z3 (q4 H hd25 (r1 10 Z (o_append1 2 H (sz:=2) (bytes:=24) underlying159 typeInfo164 ⟨_,Z,Z⟩ Z Z Z Z Z Z Z Z Z Z oM Z ?_)))));intro _ _ H
   have hchk33:=hchk15_0.snoc (show osE _ (z17.name,T20) _ from⟨rfl,hi17⟩) rfl
   obtain⟨_,_,rfl⟩:=H.accShape (k:=2) rfl
   refine q4 H hd25 (dE 11 Z2 (dF 12 4 Z2 (r1 13 Z ?_)))
   have H:=H.tF 3
   have H:=H.mergeF
   refine xst 4 H Z8 ?_;intro _ H
   refine q4 H hd25 (rz (N_K (W_region (pe 2 Z (xbs H Z7 ?_)))));intro _ _ _ H
   refine o_append1 3 H (sz:=1) (bytes:=8) underlying88 typeInfo84 ⟨_,Z,Z⟩ Z Z Z Z Z Z Z Z Z Z oM Z ?_;intro _ _ H
   have hchk36:=hchk15_1.snoc (show kdE _ T20 _ from rfl) rfl
   obtain⟨_,_,rfl⟩:=H.accShape (k:=3) rfl
   refine aG Z (R_nil (N_B (N_K (W_region (aD Z2 (mV Z (R_nil ?_)))))))
   have H:=H.sel [2,0,3,4,5,6,7,8] rfl
   refine N_lp (hJ:=⟨_,_,_,(xs++[(z17.name,T20)]),_,_,_,(xs1++[T20]),k+1,(FSq++F20),_,Z,hle15,H,?inv,Z⟩) (hm:=?hm)
   case hm=>omega
   case inv=>exact⟨hchk33,aN,hchk36,aN,(by exact⟨by omega,by simp[hx1],by simpa using hNs.snoc hN20,hSn.snoc2 hz17 rfl hT20 hv20,names_step hw hz17 (by simpa using hc22') hSn oM⟩)⟩
  intro hc16'
  try simp only[nrm]at hc16'
  refine W_exit (N_K_exit (N_LP_exit (N_B_same (N_K (W_seq (q2 (fA 0 Z (lB 4 H Z3 (mV Z ?_)))))))))
  refine xr H Z2 (i_usedBy_c _ _ (H.lendSubL [1,2,5,6]) _ _ _ _ _ (H.lendPredL (k:=5) (ks:=[1,2,5,6]) Z Z) hm3 (hS3.up (PPlus.le _ _ _)) hV3 _ _ (RdS.withN (H.lendRdL (k:=2) (ks:=[1,2,5,6]) Z Z hchk15_1 aN aN) (fun t ht=>by (rw[hx1]at ht);rcases List.mem_cons.1 ht with rfl|ht;(· exact H.lendN (k:=6) rfl rfl hN3);(· exact H.lendNs (k:=1) rfl rfl hNs t ht))) oM (fun t ht=>by (rw[hx1]at ht);rcases List.mem_cons.1 ht with rfl|ht;(· exact⟨hT3.wf,by have:=hT3.cnt;have:=Sp.tree_len hv3;omega⟩);(· exact sn_ok hSn t ht))) ?_;intro _ H
  refine pe 1 Z (q3 ?_)
  refine W_cond Z ?_ ?_
  ·intro hc39
   try simp only[nrm]at hc39
   refine q2 (pe 2 Z (q3 (W_ret (N_K_ret (rt2 results37 Z Z ?_)))))
   have H:=H.sel [] rfl
   have hkk:k=d.snaps.length:=by omega
   have hSnf:SnOK xs d.snaps:=by (rw[hkk,List.take_length]at hSn;exact hSn)
   have hwf:∀(j:Nat) (s:BSnap),d.snaps[j]? = some s→Sp.l1Word s.name=true∧(j:Int)≤Sp.l12At d.snaps s.name:=fun j s hs=>hw j s (by have:=(List.getElem?_eq_some_iff.1 hs).1;omega) hs
   exact H.retM (.inl ⟨rfl,rfl,(by (rw[Sp.dv_use (Sp.valid_iff.2 hV3) hT3 oM hSnf hwf,←hx1];unfold Sp.useOK;rw[Bool.and_eq_false_iff];exact hc39))⟩)
  intro hc39'
  try simp only[nrm]at hc39'
  refine W_skip (N_K (q2 (pe 3 Z (q3 (W_ret (rt2 results37 Z Z ?_))))))
  have H:=H.sel [3,5,6,0,1] rfl
  have hkk:k=d.snaps.length:=by omega
  have hSnf:SnOK xs d.snaps:=by (rw[hkk,List.take_length]at hSn;exact hSn)
  have hwf:∀(j:Nat) (s:BSnap),d.snaps[j]? = some s→Sp.l1Word s.name=true∧(j:Int)≤Sp.l12At d.snaps s.name:=fun j s hs=>hw j s (by have:=(List.getElem?_eq_some_iff.1 hs).1;omega) hs
  have hdv:Sp.DiskValid d=true:=by (rw[Sp.dv_use (Sp.valid_iff.2 hV3) hT3 oM hSnf hwf,←hx1];unfold Sp.useOK;simpa using hc39')
  obtain rfl:n=xs.length:=by assumption
  exact H.retM (.inr ⟨_,_,_,_,_,_,_,_,xs,_,_,Z,Z,hm3,hS3,hN3,hT3,hchk15_0,hNs,hSnf,hdv⟩)
theorem i_DiskValid_c (w0:World)(G0:PH)(hG:PSub G0 w0)(cd:List Value)(d:BDisk)(hd:diskE G0 d cd) :
  Calls Tryz.prog 13 #[.agg cd.toArray] w0 (Rets w0 (.bool (Sp.DiskValid d))):=by
 obtain⟨_,_,_,_,_,_,_,_,_,rfl,hr1,hr1',hr1'',⟨_,_⟩,⟨_,_⟩,_,_⟩:=ox hd
 have H:=Hp.init hG
 refine calls_of_W (l:=[_]) func13 Z ntmps13 Z (q2 (o_box H Z Z Z ?_));intro _ _ _ H
 refine aG Z (q1 (lA 0 3 H Z4 (xc Z2 (i_newDisk_c _ _ H.sub _ d ⟨_,_,_,_,_,_,_,_,_,Z,hr1,hr1',hr1''⟩ H.lent0) ?_)))
 rintro _ _ ⟨_,_,_,rfl,H3',⟨rfl,rfl,_⟩|⟨_,_,_,_,_,_,_,_,_,_,_,rfl,rfl,_,_,_,_,_,_,_,_⟩⟩
 ·skip
  have H:=H.borrow0 H3'
  refine⟨_,Z,?_⟩
  refine pe 5 Z (q1 (pe 2 Z (q3 (W_ret (rt1 results13 Z ?_)))))
  exact H.rets (congrArg Value.bool (by first|(rw[show Sp.DiskValid d=false by assumption])|(rw[show Sp.DiskValid d=true by assumption])))
 skip
 have H:=H.borrow0 H3'
 obtain⟨_,_,rfl⟩:=H.accShape (k:=3) rfl
 refine⟨_,Z,?_⟩
 refine pe 5 Z (q1 (pe 2 Z (q3 (W_ret (rt1 results13 Z ?_)))))
 exact H.rets (congrArg Value.bool (by first|(rw[show Sp.DiskValid d=false by assumption])|(rw[show Sp.DiskValid d=true by assumption])))
theorem l6In_c (w0:World)(n:Int)(lo:Int)(hi:Int) :
  Calls Tryz.prog 44 #[.int .i64 n,.int .i64 lo,.int .i64 hi] w0 (Rets w0 (.bool (Sp.l6In n lo hi))):=by
 have H:=Hp.init0 w0
 refine calls_of_W (l:=[.int .i64 n,.int .i64 lo,.int .i64 hi]) func44 Z ntmps44 Z (q2 (aG Z (q1 (pe 4 Z ?_))))
 refine R_case (t:=10) Z ?_ ?_
 ·intro hc1
  try simp only[nrm]at hc1
  refine pe 5 Z (q3 (W_ret (rt1 results44 Z ?_)))
  exact H.rets (congrArg Value.bool (by unfold Sp.l6In;rw[Bool.eq_iff_iff];simp;omega))
 intro hc1'
 try simp only[nrm]at hc1'
 refine pe 5 Z (q3 (W_ret (rt1 results44 Z ?_)))
 exact H.rets (congrArg Value.bool (by unfold Sp.l6In;rw[Bool.eq_iff_iff];simp;omega))
theorem l1Word_c (w0:World)(s:Bs)(hs:s.length≤16777216) :
  Calls Tryz.prog 151 #[str s] w0 (Rets w0 (.bool (Sp.l1Word s))):=by
 have H:=Hp.init0 w0
 refine calls_of_W (l:=[str s]) func151 Z ntmps151 Z (q2 (aG Z (q3 (W_seq (q2 (aG Z (q3 (W_block ?_))))))))
 refine W_lp (hf:=(Sub.cons (t:=0) Z Sub.nil)) (J:=fun M w m=>∃(k:Nat) (G:PH),M=[(3,.int .i64 (k:Int))]∧PLe (fun _=>none) G∧Hp w0 (fun _=>none) [] w G []∧(k≤s.length∧(s.take k).all Sp.low=true)∧m=(s.length-k)) (h0:=⟨0,_,Z,PLe.refl _,H,?inv,Z⟩) (round:=?round)
 case inv=>exact⟨by omega,by simp⟩
 case round =>
  rintro _ _ _ ⟨k,_,rfl,hle1,H,hinv1,rfl⟩
  obtain⟨_,hall⟩:=hinv1
  refine W_seq (q2 (pe 2 Z (lS Z (pe 1 Z (q3 ?_)))))
  refine W_cond Z ?_ ?_
  ·intro hc2
   try simp only[nrm]at hc2
   refine W_skip (N_K (W_seq (W_block (q2 (pe 2 Z (o_index_str underlying9 Z Z Z Z oM ?_))))));intro ch3 hch3;have hlt3:=ch3.toNat_lt
   refine pe 2 Z ?_
   refine R_case (t:=14) Z ?_ ?_
   ·intro hc4
    try simp only[nrm]at hc4
    refine pe 5 Z (q3 (W_true Z (q2 (aG Z (q3 (W_ret (N_B_ret (N_K_ret (N_LP_ret (N_B_ret (N_K_ret (rt1 results151 Z ?_))))))))))))
    exact H.rets (congrArg Value.bool (by rw[Sp.l1Word,Sp.all_false hch3 (by simp[Sp.low];omega)];rfl))
   intro hc4'
   try simp only[nrm]at hc4'
   refine pe 2 Z (gR Z (o_index_str underlying9 Z Z Z Z oM ?_));intro ch5 hch5;have hlt5:=ch5.toNat_lt
   obtain rfl:ch5=ch3:=Option.some.inj (hch5.symm.trans hch3)
   refine pe 2 Z (q3 ?_)
   refine W_cond Z ?_ ?_
   ·intro hc6
    try simp only[nrm]at hc6
    refine q2 (aG Z (q3 (W_ret (N_B_ret (N_K_ret (N_LP_ret (N_B_ret (N_K_ret (rt1 results151 Z ?_)))))))))
    exact H.rets (congrArg Value.bool (by rw[Sp.l1Word,Sp.all_false hch5 (by simp[Sp.low];omega)];rfl))
   intro hc6'
   try simp only[nrm]at hc6'
   refine W_skip (N_B (N_K (W_region (mV Z (aD Z2 (aG Z (R_nil ?_)))))))
   refine N_lp (hJ:=⟨k+1,_,Z,hle1,H,?inv,Z⟩) (hm:=?hm)
   case hm=>omega
   case inv=>exact⟨by omega,Sp.all_take hall hch5 (by simp[Sp.low];omega)⟩
  intro hc2'
  try simp only[nrm]at hc2'
  refine W_exit (N_K_exit (N_LP_exit (N_B_same (N_K (q2 (mV Z (lS Z (xr H Z2 (l6In_c _ _ _ _) ?_))))))));intro _ H
  refine aG Z (q3 (W_ret (rt1 results151 Z ?_)))
  obtain rfl:k=s.length:=by omega
  rw[List.take_length]at hall
  exact H.rets (congrArg Value.bool (by simp only[Sp.l1Word,Sp.l6In,hall];rw[Bool.eq_iff_iff];simp;omega))
theorem l1Cut_c (w0:World)(G0:PH)(hG:PSub G0 w0)(s:Bs)(hs:s.length≤16777216) :
  Calls Tryz.prog 210 #[str s] w0 (RetP w0 G0 (fun G v=>RdT G v (Sp.cut s))):=by
 have H:=Hp.init hG
 refine calls_of_W (l:=[str s]) func210 Z ntmps210 Z (q2 (aG Z (q1 (xbs H Z7 ?_))));intro _ _ _ H
 have H:=H.blkAcc 1 (k:=0) (n:=0) rfl rfl (by decide)
 refine aG Z (q1 (aG Z (q3 (W_seq (q2 (aG Z (q3 (W_block ?_))))))))
 refine W_lp (hf:=(Sub.cons (t:=0) Z (Sub.cons (t:=2) Z Sub.nil))) (J:=fun M w m=>∃(v:Value) (n:Nat) (cs:List Value) (xs:List (Bs)) (f k:Nat) (G:PH),M=[(4,.int .i64 (f:Int)),(5,.int .i64 (k:Int)),(3,v)]∧PLe G0 G∧Hp w0 G0 [] w G [acc 9 1 v n cs]∧(Chk strE 1 G cs xs∧n=xs.length∧f≤k∧k≤s.length∧xs.length≤k∧xs++Sp.cut (s.drop f)=Sp.cut s∧∀j,f≤j→j<k→s[j]? ≠ some 47)∧m=(s.length-k)) (h0:=⟨_,_,_,[],0,0,_,Z,PLe.refl _,H,?inv,Z⟩) (round:=?round)
 case inv=>exact⟨(Chk.nil (E:=strE) (sz:=1) (G:=G0)),by first|rfl|simp|(simp;omega)|omega,(by simp)⟩
 case round =>
  rintro _ _ _ ⟨v,n,cs,xs,f,k,_,rfl,hle2,H,hinv2,rfl⟩
  obtain⟨hchk2_0,_,hinv2⟩:=hinv2
  obtain⟨_,_,rfl⟩:=H.accShape (k:=0) rfl
  obtain⟨h1,_,_,h4,h5⟩:=hinv2
  refine W_seq (q2 (pe 2 Z (lS Z (pe 1 Z (q3 ?_)))))
  refine W_cond Z ?_ ?_
  ·intro hc3
   try simp only[nrm]at hc3
   refine W_skip (N_K (W_seq (W_block (q2 (pe 2 Z (o_index_str underlying9 Z Z Z Z oM ?_))))));intro ch4 hch4;have hlt4:=ch4.toNat_lt
   refine pe 1 Z (q3 ?_)
   refine W_cond Z ?_ ?_
   ·intro hc5
    try simp only[nrm]at hc5
    refine q2 (pe 4 Z (o_slice_str underlying9 Z Z Z Z oM oM oM (xbs H Z7 ?_)));intro _ _ _ H
    refine o_append1 0 H (sz:=1) (bytes:=16) underlying182 typeInfo9 ⟨_,Z,Z⟩ Z Z Z Z Z Z Z Z Z Z oM Z ?_;intro _ _ H
    have hchk8:=hchk2_0.snoc (show strE _ ((s.drop f).take (k-f)) _ from⟨rfl,(by (first|assumption|(refine Sp.l5Parent_lim ?_;assumption)|(simp;done)|(simp;omega)|omega))⟩) rfl
    obtain⟨_,_,rfl⟩:=H.accShape (k:=0) rfl
    refine aG Z (q3 (W_region (mV Z (aD Z2 (aG Z (R_nil (N_B (N_K (W_region (mV Z (aD Z2 (aG Z (R_nil ?_)))))))))))))
    refine N_lp (hJ:=⟨_,_,_,(xs++[((s.drop f).take (k-f))]),k+1,k+1,_,Z,hle2,H,?inv,Z⟩) (hm:=?hm)
    case hm=>omega
    case inv=>exact⟨hchk8,aN,(by exact⟨by omega,by omega,by simp;omega,Sp.cut_step h4 h1 (hch4▸congrArg some (Sp.is47 oM)) h5,fun j g1 g2=>by omega⟩)⟩
   intro hc5'
   try simp only[nrm]at hc5'
   refine W_skip (N_B (N_K (W_region (mV Z (aD Z2 (aG Z (R_nil ?_)))))))
   refine N_lp (hJ:=⟨_,_,_,xs,f,k+1,_,Z,hle2,H,?inv,Z⟩) (hm:=?hm)
   case hm=>omega
   case inv=>exact⟨hchk2_0,aN,(by exact⟨by omega,by omega,by omega,h4,Sp.noslash_succ h5 (hch4▸Sp.not47 oM)⟩)⟩
  intro hc3'
  try simp only[nrm]at hc3'
  refine W_exit (N_K_exit (N_LP_exit (N_B_same (N_K (q2 (pe 3 Z (o_slice_str_from underlying9 Z Z Z oM oM (xbs H Z7 ?_))))))));intro _ _ _ H
  refine o_append1 0 H (sz:=1) (bytes:=16) underlying182 typeInfo9 ⟨_,Z,Z⟩ Z Z Z Z Z Z Z Z Z Z oM Z ?_;intro _ _ H
  have hchk14:=hchk2_0.snoc (show strE _ (s.drop f) _ from⟨rfl,(by (first|assumption|(refine Sp.l5Parent_lim ?_;assumption)|(simp;done)|(simp;omega)|omega))⟩) rfl
  obtain⟨_,_,rfl⟩:=H.accShape (k:=0) rfl
  refine aG Z (q3 (W_ret (rt1 results210 Z ?_)))
  obtain⟨_,H,hsg515,hsr515⟩:=H.shut' (k:=0) rfl hchk14 aN aN
  exact H.retP (by rw[←Sp.cut_end h4 h5 oM];exact hsr515)
theorem PathValid_c (w0:World)(G0:PH)(hG:PSub G0 w0)(path:Bs)(hpath:path.length≤16777216) :
  Calls Tryz.prog 180 #[str path] w0 (Rets w0 (.bool (Sp.PathValid path))):=by
 have H:=Hp.init hG
 refine calls_of_W (l:=[str path]) func180 Z ntmps180 Z (q2 (aG Z (q1 (mV Z (xc Z2 (l1Cut_c _ _ H.sub _ hpath) ?_)))))
 rintro _ _ ⟨G1,_,g1,rfl,hr1_0⟩
 have H:=H.grow g1
 obtain⟨_,_,rfl⟩:=hr1_0.shape;have hx_hr1_0:_≤1099511627776:=hr1_0.lim
 refine⟨_,Z,?_⟩
 refine aG Z (q3 (W_seq (q2 (aG Z (q3 (W_block ?_))))))
 refine W_lp (hf:=(Sub.cons (t:=3) Z Sub.nil)) (J:=fun M w m=>∃(k:Nat) (G:PH),M=[(4,.int .i64 (k:Int))]∧PLe G1 G∧Hp w0 G0 [] w G []∧(k≤(Sp.cut path).length∧((Sp.cut path).take k).all Sp.l1Word=true)∧m=((Sp.cut path).length-k)) (h0:=⟨0,_,Z,PLe.refl _,H,?inv,Z⟩) (round:=?round)
 case inv=>simp
 case round =>
  rintro _ _ _ ⟨k,_,rfl,hle2,H,hinv2,rfl⟩
  have hr1_0:=hr1_0.up hle2
  obtain⟨_,hall⟩:=hinv2
  refine W_seq (q2 (pe 2 Z (lN Z (pe 1 Z (q3 ?_)))))
  refine W_cond Z ?_ ?_
  ·intro hc3
   try simp only[nrm]at hc3
   refine W_skip (N_K (W_seq (W_block (q2 (pe 2 Z (iP k hr1_0 Z3 Z ?_))))));intro _ _ _ _ hz4 hE4 hrow4
   obtain⟨rfl,hi4⟩:=hE4;have hy_hi4:_≤16777216:=hi4
   refine lP H hrow4 0 Z2 (xr H Z2 (l1Word_c _ _ hi4) ?_);intro _ H
   refine pe 1 Z (q3 ?_)
   refine W_cond Z ?_ ?_
   ·intro hc6
    try simp only[nrm]at hc6
    refine q2 (aG Z (q3 (W_ret (N_B_ret (N_K_ret (N_LP_ret (N_B_ret (N_K_ret (rt1 results180 Z ?_)))))))))
    exact H.rets (congrArg Value.bool (by rw[Sp.PathValid,Sp.all_false hz4 hc6];rfl))
   intro hc6'
   try simp only[nrm]at hc6'
   refine W_skip (N_B (N_K (W_region (mV Z (aD Z2 (aG Z (R_nil ?_)))))))
   refine N_lp (hJ:=⟨k+1,_,Z,hle2,H,?inv,Z⟩) (hm:=?hm)
   case hm=>omega
   case inv=>exact⟨by omega,Sp.all_take hall hz4 hc6'⟩
  intro hc3'
  try simp only[nrm]at hc3'
  refine W_exit (N_K_exit (N_LP_exit (N_B_same (N_K (q2 (mV Z (lN Z (pe 2 Z (q3 (W_ret (rt1 results180 Z ?_)))))))))))
  obtain rfl:k=(Sp.cut path).length:=by omega
  rw[List.take_length]at hall
  exact H.rets (congrArg Value.bool (by simp only[Sp.PathValid,hall,Bool.true_and];rw[Bool.eq_iff_iff];simp;omega))
theorem l1Last_c (w0:World)(path:Bs)(hpath:path.length≤16777216) :
  Calls Tryz.prog 211 #[str path] w0 (Rets w0 (.int .i64 (Sp.l1Last path))):=by
 have H:=Hp.init0 w0
 refine calls_of_W (l:=[str path]) func211 Z ntmps211 Z (q2 (aG Z (q1 (aG Z (q3 (W_seq (q2 (aG Z (q3 (W_block ?_))))))))))
 refine W_lp (hf:=(Sub.cons (t:=0) Z (Sub.cons (t:=2) Z Sub.nil))) (J:=fun M w m=>∃(k:Nat) (o:Option Nat) (G:PH),M=[(3,.int .i64 (Sp.optI o)),(4,.int .i64 (k:Int))]∧PLe (fun _=>none) G∧Hp w0 (fun _=>none) [] w G []∧(k≤path.length∧o=(List.range k).foldl (Sp.lastF path) none)∧m=(path.length-k)) (h0:=⟨0,none,_,Z,PLe.refl _,H,?inv,Z⟩) (round:=?round)
 case inv=>exact⟨by omega,rfl⟩
 case round =>
  rintro _ _ _ ⟨k,o,_,rfl,hle1,H,hinv1,rfl⟩
  obtain⟨_,hall⟩:=hinv1
  refine W_seq (q2 (pe 2 Z (lS Z (pe 1 Z (q3 ?_)))))
  refine W_cond Z ?_ ?_
  ·intro hc2
   try simp only[nrm]at hc2
   refine W_skip (N_K (W_seq (W_block (q2 (pe 2 Z (o_index_str underlying9 Z Z Z Z oM ?_))))));intro ch3 hch3;have hlt3:=ch3.toNat_lt
   refine pe 1 Z (q3 ?_)
   refine W_cond Z ?_ ?_
   ·intro hc4
    try simp only[nrm]at hc4
    refine W_region (pe 2 Z (R_nil (N_B (N_K (W_region (mV Z (aD Z2 (aG Z (R_nil ?_)))))))))
    refine N_lp (hJ:=⟨k+1,some k,_,Z,hle1,H,?inv,Z⟩) (hm:=?hm)
    case hm=>omega
    case inv=>exact⟨by omega,by rw[Sp.last_succ,←hall,Sp.lastF,hch3,if_pos (congrArg some (Sp.is47 oM))]⟩
   intro hc4'
   try simp only[nrm]at hc4'
   refine W_skip (N_B (N_K (W_region (mV Z (aD Z2 (aG Z (R_nil ?_)))))))
   refine N_lp (hJ:=⟨k+1,o,_,Z,hle1,H,?inv,Z⟩) (hm:=?hm)
   case hm=>omega
   case inv=>exact⟨by omega,by rw[Sp.last_succ,←hall,Sp.lastF,hch3,if_neg (Sp.not47 oM)]⟩
  intro hc2'
  try simp only[nrm]at hc2'
  refine W_exit (N_K_exit (N_LP_exit (N_B_same (N_K (q2 (pe 2 Z (q3 (W_ret (rt1 results211 Z ?_)))))))))
  obtain rfl:k=path.length:=by omega
  exact H.rets (congrArg (Value.int .i64) (by rw[hall];rfl))
theorem l5Parent_c (w0:World)(path:Bs)(hpath:path.length≤16777216) :
  Calls Tryz.prog 181 #[str path] w0 (Rets w0 (str (Sp.l5Parent path))):=by
 have hl:=Sp.l1Last_le path
 have H:=Hp.init0 w0
 refine calls_of_W (l:=[str path]) func181 Z ntmps181 Z (q2 (aG Z (q1 (pe 2 Z (xr H Z2 (l1Last_c _ _ hpath) ?_)))));intro _ H
 refine o_max Z Z Z (o_slice_str_to underlying9 Z Z Z oM oM (aG Z (q3 (W_ret (rt1 results181 Z ?_)))))
 exact H.rets Z
theorem l5At_c (w0:World)(G0:PH)(hG:PSub G0 w0)(vlist:Value)(list:List (BItem))(hlist:RdItems G0 vlist list)(path:Bs)(hpath:path.length≤16777216) :
  Calls Tryz.prog 108 #[vlist,str path] w0 (Rets w0 (.int .i64 (Sp.l5At list path))):=by
 obtain⟨alist,klist,rfl⟩:=hlist.shape
 have hlimlist:list.length≤1099511627776:=hlist.lim
 have H:=Hp.init hG
 refine calls_of_W (l:=[.slice alist list.length klist,str path]) func108 Z ntmps108 Z (q2 (aG Z (q3 (W_seq (q2 (aG Z (q3 (W_block ?_))))))))
 refine W_lp (hf:=(Sub.cons (t:=0) Z (Sub.cons (t:=1) Z Sub.nil))) (J:=fun M w m=>∃(k:Nat) (G:PH),M=[(5,.int .i64 (k:Int))]∧PLe G0 G∧Hp w0 G0 [] w G []∧(k≤list.length∧(∀j,j<k→∀y,list[j]? = some y→decide (y.path=path)=false))∧m=(list.length-k)) (h0:=⟨0,_,Z,PLe.refl _,H,?inv,Z⟩) (round:=?round)
 case inv=>exact⟨by omega,fun j hj=>by omega⟩
 case round =>
  rintro _ _ _ ⟨k,_,rfl,hle1,H,hinv1,rfl⟩
  have hlist:=hlist.up hle1
  obtain⟨_,hall⟩:=hinv1
  refine W_seq (q2 (pe 2 Z (lN Z (pe 1 Z (q3 ?_)))))
  refine W_cond Z ?_ ?_
  ·intro hc2
   try simp only[nrm]at hc2
   refine W_skip (N_K (W_seq (W_block (q2 (pe 2 Z (iP k hlist Z3 Z ?_))))));intro _ _ _ _ hz3 hE3 hrow3
   obtain⟨_,_,_,rfl,_,_,_,_⟩:=ox hE3
   refine fA 0 Z (lP H hrow3 0 Z2 (mV Z (o_seql Z Z Z (q3 ?_))))
   refine W_cond Z ?_ ?_
   ·intro hc4
    try simp only[nrm]at hc4
    refine q2 (pe 2 Z (q3 (W_ret (N_B_ret (N_K_ret (N_LP_ret (N_B_ret (N_K_ret (rt1 results108 Z ?_)))))))))
    exact H.rets (congrArg (Value.int .i64) (by rw[Sp.l5At,Sp.atI,Sp.find_at hall hz3 (by simp;exact hc4)];rfl))
   intro hc4'
   try simp only[nrm]at hc4'
   refine W_skip (N_B (N_K (W_region (mV Z (aD Z2 (aG Z (R_nil ?_)))))))
   refine N_lp (hJ:=⟨k+1,_,Z,hle1,H,?inv,Z⟩) (hm:=?hm)
   case hm=>omega
   case inv=>exact⟨by omega,Sp.none_succ hall hz3 (by simp;exact hc4')⟩
  intro hc2'
  try simp only[nrm]at hc2'
  refine W_exit (N_K_exit (N_LP_exit (N_B_same (N_K (q2 (aG Z (q3 (W_ret (rt1 results108 Z ?_)))))))))
  exact H.rets (congrArg (Value.int .i64) (by rw[Sp.l5At,Sp.atI,Sp.find_none hall oM];rfl))
theorem l5Home_c (w0:World)(G0:PH)(hG:PSub G0 w0)(vlist:Value)(list:List (BItem))(hlist:RdItems G0 vlist list)(path:Bs)(hpath:path.length≤16777216) :
  Calls Tryz.prog 149 #[vlist,str path] w0 (Rets w0 (.bool (Sp.l5Home list path))):=by
 obtain⟨alist,klist,rfl⟩:=hlist.shape
 have hlimlist:list.length≤1099511627776:=hlist.lim
 have H:=Hp.init hG
 refine calls_of_W (l:=[.slice alist list.length klist,str path]) func149 Z ntmps149 Z (q2 (aG Z (q1 (mV Z (xr H Z2 (l5Parent_c _ _ hpath) ?_)))));intro _ H
 refine aG Z (q1 (pe 2 Z ?_))
 refine xr H Z2 (l5At_c _ _ H.sub _ _ hlist _ (by (first|assumption|(refine Sp.l5Parent_lim ?_;assumption)|(simp;done)|(simp;omega)|omega))) ?_;intro _ H
 refine aG Z (q1 (mV Z (o_seql Z Z Z (mV Z ?_))))
 refine R_case (t:=14) Z ?_ ?_
 ·intro hc3
  try simp only[nrm]at hc3
  refine pe 3 Z (R_pass Z (yl_un Z Z) (R_pass Z (yl_un Z Z) (R_pass Z (yl_un Z Z) (R_pass Z (yl_un Z Z) (R_pass Z (yl_un Z Z) (pe 3 Z (q3 (W_ret (rt1 results149 Z ?_)))))))))
  exact H.rets (congrArg Value.bool (by simp[Sp.l5Home,hc3]))
 intro hc3'
 try simp only[nrm]at hc3'
 refine pe 3 Z ?_
 refine R_case (t:=17) Z ?_ ?_
 ·intro hc4
  try simp only[nrm]at hc4
  obtain⟨i,_,hi1,hi2,_,_,hi5⟩:=Sp.at_nat hc4
  refine pe 2 Z (gR Z (iP i hlist Z3 hi2 ?_));intro _ _ _ _ hz5 hE5 hrow5
  obtain⟨_,_,_,rfl,hi5,_,_,_⟩:=ox hE5
  refine gR Z (fA 1 Z (gR Z (lP H hrow5 1 Z2 (pe 3 Z (q3 (W_ret (rt1 results149 Z ?_)))))))
  exact H.rets (congrArg Value.bool (by simp[Sp.l5Home,hc3',Sp.atI,hi1,hz5]))
 intro hc4'
 try simp only[nrm]at hc4'
 refine pe 8 Z (q3 (W_ret (rt1 results149 Z ?_)))
 exact H.rets (congrArg Value.bool (by simp[Sp.l5Home,hc3',Sp.atI,Sp.at_none hc4']))
theorem l5Item_c (w0:World)(G0:PH)(hG:PSub G0 w0)(cx:List Value)(x:BItem)(hx:itemE G0 x cx) :
  Calls Tryz.prog 148 #[.agg cx.toArray] w0 (Rets w0 (.bool (Sp.l5Item x))):=by
 obtain⟨_,_,_,rfl,hi1,hr1,_,_⟩:=ox hx
 have H:=Hp.init hG
 refine calls_of_W (l:=[_]) func148 Z ntmps148 Z (q2 (o_box H Z Z Z ?_));intro b2 _ _ H
 refine aG Z (q3 (W_seq (q2 (aG Z (q3 (W_block ?_))))))
 obtain⟨ln3,hln3,H⟩:=H.name (k:=0) rfl
 refine W_lp (hf:=(Sub.cons (t:=1) Z Sub.nil)) (J:=fun M w m=>∃(k:Nat) (G:PH),M=[(3,.int .i64 (k:Int))]∧PLe G0 G∧Hp w0 G0 [] w G [blk b2 (cl ln3 41)]∧(k≤x.ids.length∧(x.ids.take k).all (Sp.idOk x.dir)=true)∧m=(x.ids.length-k)) (h0:=⟨0,_,Z,PLe.refl _,H,?inv,Z⟩) (round:=?round)
 case inv=>exact⟨by omega,by simp⟩
 case round =>
  rintro _ _ _ ⟨k,_,rfl,hle4,H,hinv4,rfl⟩
  subst hln3
  have hr1:=hr1.up hle4
  obtain⟨_,hall⟩:=hinv4
  refine W_seq (q2 (mV Z (fA 2 Z (lB 0 H Z3 (lN Z (pe 1 Z (q3 ?_)))))))
  refine W_cond Z ?_ ?_
  ·intro hc5
   try simp only[nrm]at hc5
   refine W_skip (N_K (W_seq (W_block (q2 (fA 1 Z (lB 0 H Z3 (mV Z ?_)))))))
   refine R_case (t:=13) Z ?_ ?_
   ·intro hc6
    try simp only[nrm]at hc6
    refine pe 8 Z (q3 (W_true Z (q2 (aG Z (q3 (W_ret (N_B_ret (N_K_ret (N_LP_ret (N_B_ret (N_K_ret (rt1 results148 Z ?_))))))))))))
    exact H.rets (congrArg Value.bool (by rw[Sp.l5Item,Sp.all_false (c:=x.ids[k]) (List.getElem?_eq_getElem oM) (by simp[Sp.idOk,hc6])];rfl))
   intro hc6'
   try simp only[nrm]at hc6'
   refine gR Z (fA 2 Z (gR Z (lB 0 H Z3 (pe 1 Z (gR Z (iP k hr1 Z3 Z ?_))))));intro _ _ _ _ hz7 hE7 hrow7
   obtain⟨rfl,_⟩:=hE7
   refine gR Z (lP H hrow7 0 Z2 (gR Z (xr H Z2 (l6In_c _ _ _ _) ?_)));intro _ H
   refine pe 2 Z (q3 ?_)
   refine W_cond Z ?_ ?_
   ·intro hc9
    try simp only[nrm]at hc9
    refine q2 (aG Z (q3 (W_ret (N_B_ret (N_K_ret (N_LP_ret (N_B_ret (N_K_ret (rt1 results148 Z ?_)))))))))
    exact H.rets (congrArg Value.bool (by rw[Sp.l5Item,Sp.all_false hz7 (by simp[Sp.idOk, *])];rfl))
   intro hc9'
   try simp only[nrm]at hc9'
   refine W_skip (N_B (N_K (W_region (mV Z (aD Z2 (aG Z (R_nil ?_)))))))
   refine N_lp (hJ:=⟨k+1,_,Z,hle4,H,?inv,Z⟩) (hm:=?hm)
   case hm=>omega
   case inv=>exact⟨by omega,Sp.all_take hall hz7 (by simp[Sp.idOk, *])⟩
  intro hc5'
  try simp only[nrm]at hc5'
  refine W_exit (N_K_exit (N_LP_exit (N_B_same (N_K (q2 (fA 0 Z (lB 0 H Z3 (xr H Z2 (PathValid_c _ _ H.sub _ hi1) ?_))))))));intro _ H
  refine mV Z ?_
  refine R_case (t:=25) Z ?_ ?_
  ·intro hc12
   try simp only[nrm]at hc12
   refine gR Z (fA 2 Z (gR Z (lB 0 H Z3 (gR Z (lN Z (pe 3 Z (q3 (W_ret (rt1 results148 Z ?_)))))))))
   obtain rfl:k=x.ids.length:=by omega
   rw[List.take_length]at hall
   exact H.rets (congrArg Value.bool (by simp only[Sp.l5Item,hall,hc12,Bool.true_and];rw[Bool.eq_iff_iff];simp;omega))
  intro hc12'
  try simp only[nrm]at hc12'
  refine pe 6 Z (q3 (W_ret (rt1 results148 Z ?_)))
  exact H.rets (congrArg Value.bool (by simp[Sp.l5Item,hc12']))
theorem TreeValid_c (w0:World)(G0:PH)(hG:PSub G0 w0)(vlist:Value)(list:List (BItem))(hlist:RdItems G0 vlist list) :
  Calls Tryz.prog 87 #[vlist] w0 (Rets w0 (.bool (Sp.TreeValid list))):=by
 obtain⟨alist,klist,rfl⟩:=hlist.shape
 have hlimlist:list.length≤1099511627776:=hlist.lim
 have H:=Hp.init hG
 refine calls_of_W (l:=[.slice alist list.length klist]) func87 Z ntmps87 Z (q2 (aG Z (q3 (W_seq (q2 (aG Z (q3 (W_block ?_))))))))
 refine W_lp (hf:=(Sub.cons (t:=0) Z Sub.nil)) (J:=fun M w m=>∃(k:Nat) (G:PH),M=[(3,.int .i64 (k:Int))]∧PLe G0 G∧Hp w0 G0 [] w G []∧(k≤list.length∧∀j,j<k→Sp.okT list j=true)∧m=(list.length-k)) (h0:=⟨0,_,Z,PLe.refl _,H,?inv,Z⟩) (round:=?round)
 case inv=>exact⟨by omega,fun j hj=>by omega⟩
 case round =>
  rintro _ _ _ ⟨k,G1,rfl,hle1,H,hinv1,rfl⟩
  have hlist:=hlist.up hle1
  obtain⟨_,hall⟩:=hinv1
  refine W_seq (q2 (pe 2 Z (lN Z (pe 1 Z (q3 ?_)))))
  refine W_cond Z ?_ ?_
  ·intro hc2
   try simp only[nrm]at hc2
   refine W_skip (N_K (W_seq (W_block (W_seq (W_drawK [] 34 H kR Z ?_)))));intro _ H;have hd3:=PLe.refl G1
   refine dE 0 Z2 (dE 1 Z2 ?_)
   have hl4:=hlist.len
   obtain⟨_,_,z4,q4,ha4,hz4,hq4,hE4,hrow4,_⟩:=hlist.at (i:=k) oM
   clear hq4
   obtain⟨_,_,_,rfl,hi4,hr4,_,_⟩:=ox hE4
   refine dI 2 3 k ha4 Z3 Z (RD_t 3 Z kR Z (fun _ hK=>v_loadagg_P hK isAgg41 sizeOf41 Z hrow4 Z) (r1 4 Z (xr H Z2 (l5Item_c _ _ H.sub _ _ ⟨_,_,_,Z,hi4,hr4⟩) ?_)));intro _ H
   refine q4 H hd3 (dE 5 Z2 (dE 6 Z2 ?_))
   refine RD_case (t:=16) Z ?_ ?_
   ·intro hc6
    try simp only[nrm]at hc6
    refine dE 7 Z2 (dE 8 Z2 (dE 9 Z2 (RD_pass 10 Z kR kR kR Z (yl_un Z Z) (RD_pass 11 Z kR kR kR Z (yl_un Z Z) (RD_pass 12 Z kR kR kR Z (yl_un Z Z) (RD_pass 13 Z kR kR kR Z (yl_un Z Z) (RD_pass 14 Z kR kR kR Z (yl_un Z Z) (RD_pass 15 Z kR kR kR Z (yl_un Z Z) (RD_pass 16 Z kR kR kR Z (yl_un Z Z) (RD_pass 17 Z kR kR kR Z (yl_un Z Z) (RD_pass 18 Z kR kR kR Z (yl_un Z Z) (RD_pass 19 Z kR kR kR Z (yl_un Z Z) (RD_pass 20 Z kR kR kR Z (yl_un Z Z) (RD_pass 21 Z kR kR kR Z (yl_un Z Z) (dE 22 Z2 ?_)))))))))))))))
    refine dE 23 Z2 (dE 24 Z2 (dE 25 Z2 (dE 26 Z2 (dE 27 Z2 (dE 28 Z2 (dE 29 Z2 (dE 30 Z2 (dE 31 Z2 (dE 32 Z2 (dE 33 Z2 (rz (N_K (W_true Z (q2 (aG Z ?_)))))))))))))))
    refine q3 (W_ret (N_B_ret (N_K_ret (N_LP_ret (N_B_ret (N_K_ret (rt1 results87 Z ?_)))))))
    exact H.rets (congrArg Value.bool (by rw[Sp.TreeValid,Sp.not_all_range (k:=k) oM (by rw[Sp.okT_at hz4];simp[Sp.prevLt, *])];rfl))
   intro hc6'
   try simp only[nrm]at hc6'
   refine dE 7 Z2 (dE 8 Z2 (dE 9 Z2 ?_))
   refine RD_case (t:=19) Z ?_ ?_
   ·intro hc7
    try simp only[nrm]at hc7
    have hk0:k≠0:=by omega
    refine dE 10 Z2 (dE 11 Z2 (RD_tg 12 Z kR Z (yl Z Z) (fun _ hK=>v_sub Z Z oO) ?_))
    have hl9:=hlist.len
    obtain⟨_,_,_,_,ha9,_,hq9,hE9,hrow9,_⟩:=hlist.at (i:=(k-1)) oM
    clear hq9
    obtain⟨_,_,_,rfl,_,_,_,_⟩:=ox hE9
    refine dI 13 3 (k-1) ha9 Z3 oM (dF 14 0 Z2 (dP 15 hrow9 0 Z3 (dE 16 Z2 (dE 17 Z2 ?_))))
    have hl10:=hlist.len
    obtain⟨_,_,z10,_,ha10,hz10,hq10,hE10,hrow10,_⟩:=hlist.at (i:=k) oM
    clear hq10
    obtain⟨_,_,_,rfl,_,_,_,_⟩:=ox hE10
    have hzz10:z4=z10:=Option.some.inj (hz4.symm.trans hz10)
    subst hzz10
    refine dI 18 3 k ha10 Z3 Z (dF 19 0 Z2 (dP 20 hrow10 0 Z3 (RD_tg 21 Z kR Z (yl Z Z) (fun _ hK=>v_sgeq Z Z) (dE 22 Z2 (dE 23 Z2 (dE 24 Z2 ?_))))))
    refine RD_case (t:=34) Z ?_ ?_
    ·intro hc11
     try simp only[nrm]at hc11
     refine dE 25 Z2 (dE 26 Z2 (dE 27 Z2 (dE 28 Z2 (dE 29 Z2 (dE 30 Z2 (dE 31 Z2 (dE 32 Z2 (dE 33 Z2 (rz (N_K (W_true Z (q2 (aG Z (q3 (W_ret ?_)))))))))))))))
     refine N_B_ret (N_K_ret (N_LP_ret (N_B_ret (N_K_ret (rt1 results87 Z ?_)))))
     exact H.rets (congrArg Value.bool (by rw[Sp.TreeValid,Sp.not_all_range (k:=k) oM (by rw[Sp.okT_at hz4];simp[Sp.prevLt, *])];rfl))
    intro hc11'
    try simp only[nrm]at hc11'
    refine dE 25 Z2 (dE 26 Z2 (dE 27 Z2 ?_))
    have hl12:=hlist.len
    obtain⟨_,_,z12,_,ha12,hz12,hq12,hE12,hrow12,_⟩:=hlist.at (i:=k) oM
    clear hq12
    obtain⟨_,_,_,rfl,hi12,_,_,_⟩:=ox hE12
    have hzz12:z4=z12:=Option.some.inj (hz4.symm.trans hz12)
    subst hzz12
    refine dI 28 3 k ha12 Z3 Z (dF 29 0 Z2 (dP 30 hrow12 0 Z3 (r1 31 Z (gR Z (xr H Z2 (l5Home_c _ _ H.sub _ _ hlist _ hi12) ?_)))));intro _ H
    refine q4 H hd3 (dE 32 Z2 (dE 33 Z2 (rz (N_K ?_))))
    refine W_cond Z ?_ ?_
    ·intro hc14
     try simp only[nrm]at hc14
     refine q2 (aG Z (q3 (W_ret (N_B_ret (N_K_ret (N_LP_ret (N_B_ret (N_K_ret (rt1 results87 Z ?_)))))))))
     exact H.rets (congrArg Value.bool (by rw[Sp.TreeValid,Sp.not_all_range (k:=k) oM (by rw[Sp.okT_at hz4];simp[Sp.prevLt, *])];rfl))
    intro hc14'
    try simp only[nrm]at hc14'
    refine W_skip (N_B (N_K (W_region (mV Z (aD Z2 (aG Z (R_nil ?_)))))))
    refine N_lp (hJ:=⟨k+1,_,Z,hle1,H,?inv,Z⟩) (hm:=?hm)
    case hm=>omega
    case inv=>exact⟨by omega,Sp.upto_succ hall (by rw[Sp.okT_at hz4];simp[Sp.prevLt, *])⟩
   intro hc7'
   try simp only[nrm]at hc7'
   have hk0:k=0:=by omega
   refine dE 10 Z2 (dE 11 Z2 (dE 12 Z2 (dE 13 Z2 (dE 14 Z2 (dE 15 Z2 (dE 16 Z2 (dE 17 Z2 (dE 18 Z2 (dE 19 Z2 (dE 20 Z2 (dE 21 Z2 (dE 22 Z2 (dE 23 Z2 (dE 24 Z2 (dE 25 Z2 ?_)))))))))))))))
   refine dE 26 Z2 (dE 27 Z2 ?_)
   have hl16:=hlist.len
   obtain⟨_,_,z16,_,ha16,hz16,hq16,hE16,hrow16,_⟩:=hlist.at (i:=k) oM
   clear hq16
   obtain⟨_,_,_,rfl,hi16,_,_,_⟩:=ox hE16
   have hzz16:z4=z16:=Option.some.inj (hz4.symm.trans hz16)
   subst hzz16
   refine dI 28 3 k ha16 Z3 Z (dF 29 0 Z2 (dP 30 hrow16 0 Z3 (r1 31 Z (gR Z (xr H Z2 (l5Home_c _ _ H.sub _ _ hlist _ hi16) ?_)))));intro _ H
   refine q4 H hd3 (dE 32 Z2 (dE 33 Z2 (rz (N_K ?_))))
   refine W_cond Z ?_ ?_
   ·intro hc18
    try simp only[nrm]at hc18
    refine q2 (aG Z (q3 (W_ret (N_B_ret (N_K_ret (N_LP_ret (N_B_ret (N_K_ret (rt1 results87 Z ?_)))))))))
    exact H.rets (congrArg Value.bool (by rw[Sp.TreeValid,Sp.not_all_range (k:=k) oM (by rw[Sp.okT_at hz4];simp[Sp.prevLt, *])];rfl))
   intro hc18'
   try simp only[nrm]at hc18'
   refine W_skip (N_B (N_K (W_region (mV Z (aD Z2 (aG Z (R_nil ?_)))))))
   refine N_lp (hJ:=⟨k+1,_,Z,hle1,H,?inv,Z⟩) (hm:=?hm)
   case hm=>omega
   case inv=>exact⟨by omega,Sp.upto_succ hall (by rw[Sp.okT_at hz4];simp[Sp.prevLt, *])⟩
  intro hc2'
  try simp only[nrm]at hc2'
  refine W_exit (N_K_exit (N_LP_exit (N_B_same (N_K (q2 (mV Z (lN Z (pe 2 Z (q3 (W_ret (rt1 results87 Z ?_)))))))))))
  exact H.rets (congrArg Value.bool (by rw[Sp.TreeValid,Sp.all_range (fun j hj=>hall j oM),Bool.true_and];rw[Bool.eq_iff_iff];simp;omega))
theorem l2Same_c (w0:World)(G0:PH)(hG:PSub G0 w0)(va:Value)(a:List (Int))(ha:RdI G0 va a)(vb:Value)(b:List (Int))(hb:RdI G0 vb b) :
  Calls Tryz.prog 147 #[va,vb] w0 (Rets w0 (.bool (Sp.l2Same a b))):=by
 obtain⟨aa,ka,rfl⟩:=ha.shape
 have hlima:a.length≤1099511627776:=ha.lim
 obtain⟨ab,kb,rfl⟩:=hb.shape
 have hlimb:b.length≤1099511627776:=hb.lim
 have H:=Hp.init hG
 refine calls_of_W (l:=[.slice aa a.length ka,.slice ab b.length kb]) func147 Z ntmps147 Z (q2 (aG Z (q3 (W_seq (q2 (mV Z (lN Z (mV Z (lN Z (pe 1 Z (q3 ?_)))))))))))
 refine W_cond Z ?_ ?_
 ·intro hc1
  try simp only[nrm]at hc1
  refine q2 (aG Z (q3 (W_ret (N_K_ret (rt1 results147 Z ?_)))))
  exact H.rets (congrArg Value.bool (by unfold Sp.l2Same;exact Sp.ne_len oM))
 intro hc1'
 try simp only[nrm]at hc1'
 refine W_skip (N_K (W_seq (q2 (aG Z (q3 (W_block ?_))))))
 refine W_lp (hf:=(Sub.cons (t:=0) Z (Sub.cons (t:=1) Z Sub.nil))) (J:=fun M w m=>∃(k:Nat) (G:PH),M=[(5,.int .i64 (k:Int))]∧PLe G0 G∧Hp w0 G0 [] w G []∧(k≤a.length∧a.take k=b.take k)∧m=(a.length-k)) (h0:=⟨0,_,Z,PLe.refl _,H,?inv,Z⟩) (round:=?round)
 case inv=>exact⟨by omega,by simp⟩
 case round =>
  rintro _ _ _ ⟨k,G2,rfl,hle2,H,hinv2,rfl⟩
  have ha:=ha.up hle2
  have hb:=hb.up hle2
  obtain⟨_,hall⟩:=hinv2
  refine W_seq (q2 (pe 2 Z (lN Z (pe 1 Z (q3 ?_)))))
  refine W_cond Z ?_ ?_
  ·intro hc3
   try simp only[nrm]at hc3
   refine W_skip (N_K (W_seq (W_block (W_seq (W_drawK [] 9 H kR Z ?_)))));intro _ H;have hd4:=PLe.refl G2
   refine dE 0 Z2 (dE 1 Z2 ?_)
   have hl5:=ha.len
   obtain⟨_,_,_,_,ha5,hz5,hq5,hE5,hrow5,_⟩:=ha.at (i:=k) oM
   clear hq5
   obtain⟨rfl,_⟩:=hE5
   refine dI 2 1 k ha5 Z3 Z (dP 3 hrow5 0 Z3 (dE 4 Z2 (dE 5 Z2 ?_)))
   have hl6:=hb.len
   obtain⟨_,_,_,_,ha6,hz6,hq6,hE6,hrow6,_⟩:=hb.at (i:=k) oM
   clear hq6
   obtain⟨rfl,_⟩:=hE6
   refine dI 6 1 k ha6 Z3 Z (dP 7 hrow6 0 Z3 (dE 8 Z2 (rz (N_K ?_))))
   refine W_cond Z ?_ ?_
   ·intro hc7
    try simp only[nrm]at hc7
    refine q2 (aG Z (q3 (W_ret (N_B_ret (N_K_ret (N_LP_ret (N_B_ret (N_K_ret (rt1 results147 Z ?_)))))))))
    exact H.rets (congrArg Value.bool (by unfold Sp.l2Same;exact Sp.ne_at hz5 hz6 oM))
   intro hc7'
   try simp only[nrm]at hc7'
   refine W_skip (N_B (N_K (W_region (mV Z (aD Z2 (aG Z (R_nil ?_)))))))
   refine N_lp (hJ:=⟨k+1,_,Z,hle2,H,?inv,Z⟩) (hm:=?hm)
   case hm=>omega
   case inv=>exact⟨by omega,Sp.take_eq hall hz5 (by rw[hz6];congr 1;omega)⟩
  intro hc3'
  try simp only[nrm]at hc3'
  refine W_exit (N_K_exit (N_LP_exit (N_B_same (N_K (q2 (aG Z (q3 (W_ret (rt1 results147 Z ?_)))))))))
  exact H.rets (congrArg Value.bool (by unfold Sp.l2Same;exact Sp.eq_all hall oM oM))
theorem BlockValid_c (w0:World)(G0:PH)(hG:PSub G0 w0)(vbytes:Value)(bytes:List (Int))(hbytes:RdI G0 vbytes bytes) :
  Calls Tryz.prog 146 #[vbytes] w0 (Rets w0 (.bool (Sp.BlockValid bytes))):=by
 obtain⟨abytes,kbytes,rfl⟩:=hbytes.shape
 have hlimbytes:bytes.length≤1099511627776:=hbytes.lim
 have H:=Hp.init hG
 refine calls_of_W (l:=[.slice abytes bytes.length kbytes]) func146 Z ntmps146 Z (q2 (aG Z (q3 (W_seq (q2 (aG Z (q3 (W_block ?_))))))))
 refine W_lp (hf:=(Sub.cons (t:=0) Z Sub.nil)) (J:=fun M w m=>∃(k:Nat) (G:PH),M=[(3,.int .i64 (k:Int))]∧PLe G0 G∧Hp w0 G0 [] w G []∧(k≤bytes.length∧(bytes.take k).all Sp.byteOk=true)∧m=(bytes.length-k)) (h0:=⟨0,_,Z,PLe.refl _,H,?inv,Z⟩) (round:=?round)
 case inv=>exact⟨by omega,by simp⟩
 case round =>
  rintro _ _ _ ⟨k,_,rfl,hle1,H,hinv1,rfl⟩
  have hbytes:=hbytes.up hle1
  obtain⟨_,hall⟩:=hinv1
  refine W_seq (q2 (pe 2 Z (lN Z (pe 1 Z (q3 ?_)))))
  refine W_cond Z ?_ ?_
  ·intro hc2
   try simp only[nrm]at hc2
   refine W_skip (N_K (W_seq (W_block (q2 (pe 2 Z (iP k hbytes Z3 Z ?_))))));intro _ _ _ _ hz3 hE3 hrow3
   obtain⟨rfl,_⟩:=hE3
   refine lP H hrow3 0 Z2 (xr H Z2 (l6In_c _ _ _ _) ?_);intro _ H
   refine pe 1 Z (q3 ?_)
   refine W_cond Z ?_ ?_
   ·intro hc5
    try simp only[nrm]at hc5
    refine q2 (aG Z (q3 (W_ret (N_B_ret (N_K_ret (N_LP_ret (N_B_ret (N_K_ret (rt1 results146 Z ?_)))))))))
    exact H.rets (congrArg Value.bool (by rw[Sp.BlockValid,Sp.all_false hz3 (by simp[Sp.byteOk, *])];rfl))
   intro hc5'
   try simp only[nrm]at hc5'
   refine W_skip (N_B (N_K (W_region (mV Z (aD Z2 (aG Z (R_nil ?_)))))))
   refine N_lp (hJ:=⟨k+1,_,Z,hle1,H,?inv,Z⟩) (hm:=?hm)
   case hm=>omega
   case inv=>exact⟨by omega,Sp.all_take hall hz3 (by simp[Sp.byteOk, *])⟩
  intro hc2'
  try simp only[nrm]at hc2'
  refine W_exit (N_K_exit (N_LP_exit (N_B_same (N_K (q2 (mV Z (lN Z (xr H Z2 (l6In_c _ _ _ _) ?_))))))));intro _ H
  refine aG Z (q3 (W_ret (rt1 results146 Z ?_)))
  obtain rfl:k=bytes.length:=by omega
  rw[List.take_length]at hall
  exact H.rets (congrArg Value.bool (by simp only[Sp.BlockValid,hall,Bool.true_and]))
theorem FileValid_c (w0:World)(G0:PH)(hG:PSub G0 w0)(vbytes:Value)(bytes:List (Int))(hbytes:RdI G0 vbytes bytes) :
  Calls Tryz.prog 167 #[vbytes] w0 (Rets w0 (.bool (Sp.FileValid bytes))):=by
 obtain⟨abytes,kbytes,rfl⟩:=hbytes.shape
 have hlimbytes:bytes.length≤1099511627776:=hbytes.lim
 have H:=Hp.init hG
 refine calls_of_W (l:=[.slice abytes bytes.length kbytes]) func167 Z ntmps167 Z (q2 (aG Z (q3 (W_seq (q2 (aG Z (q3 (W_block ?_))))))))
 refine W_lp (hf:=(Sub.cons (t:=0) Z Sub.nil)) (J:=fun M w m=>∃(k:Nat) (G:PH),M=[(3,.int .i64 (k:Int))]∧PLe G0 G∧Hp w0 G0 [] w G []∧(k≤bytes.length∧(bytes.take k).all Sp.byteOk=true)∧m=(bytes.length-k)) (h0:=⟨0,_,Z,PLe.refl _,H,?inv,Z⟩) (round:=?round)
 case inv=>exact⟨by omega,by simp⟩
 case round =>
  rintro _ _ _ ⟨k,_,rfl,hle1,H,hinv1,rfl⟩
  have hbytes:=hbytes.up hle1
  obtain⟨_,hall⟩:=hinv1
  refine W_seq (q2 (pe 2 Z (lN Z (pe 1 Z (q3 ?_)))))
  refine W_cond Z ?_ ?_
  ·intro hc2
   try simp only[nrm]at hc2
   refine W_skip (N_K (W_seq (W_block (q2 (pe 2 Z (iP k hbytes Z3 Z ?_))))));intro _ _ _ _ hz3 hE3 hrow3
   obtain⟨rfl,_⟩:=hE3
   refine lP H hrow3 0 Z2 (xr H Z2 (l6In_c _ _ _ _) ?_);intro _ H
   refine pe 1 Z (q3 ?_)
   refine W_cond Z ?_ ?_
   ·intro hc5
    try simp only[nrm]at hc5
    refine q2 (aG Z (q3 (W_ret (N_B_ret (N_K_ret (N_LP_ret (N_B_ret (N_K_ret (rt1 results167 Z ?_)))))))))
    exact H.rets (congrArg Value.bool (by rw[Sp.FileValid,Sp.all_false hz3 (by simp[Sp.byteOk, *])];rfl))
   intro hc5'
   try simp only[nrm]at hc5'
   refine W_skip (N_B (N_K (W_region (mV Z (aD Z2 (aG Z (R_nil ?_)))))))
   refine N_lp (hJ:=⟨k+1,_,Z,hle1,H,?inv,Z⟩) (hm:=?hm)
   case hm=>omega
   case inv=>exact⟨by omega,Sp.all_take hall hz3 (by simp[Sp.byteOk, *])⟩
  intro hc2'
  try simp only[nrm]at hc2'
  refine W_exit (N_K_exit (N_LP_exit (N_B_same (N_K (q2 (mV Z (lN Z (pe 2 Z (q3 (W_ret (rt1 results167 Z ?_)))))))))))
  obtain rfl:k=bytes.length:=by omega
  rw[List.take_length]at hall
  exact H.rets (congrArg Value.bool (by simp only[Sp.FileValid,hall,Bool.true_and];rw[Bool.eq_iff_iff];simp;omega))
theorem StoreValid_c (w0:World)(G0:PH)(hG:PSub G0 w0)(vlist:Value)(list:List (BHeld))(hlist:RdH G0 vlist list) :
  Calls Tryz.prog 86 #[vlist] w0 (Rets w0 (.bool (Sp.StoreValid list))):=by
 obtain⟨alist,klist,rfl⟩:=hlist.shape
 have hlimlist:list.length≤1099511627776:=hlist.lim
 have H:=Hp.init hG
 refine calls_of_W (l:=[.slice alist list.length klist]) func86 Z ntmps86 Z (q2 (aG Z (q3 (W_seq (q2 (aG Z (q3 (W_block ?_))))))))
 refine W_lp (hf:=(Sub.cons (t:=0) Z Sub.nil)) (J:=fun M w m=>∃(k:Nat) (G:PH),M=[(3,.int .i64 (k:Int))]∧PLe G0 G∧Hp w0 G0 [] w G []∧(k≤list.length∧∀j,j<k→Sp.okH list j=true)∧m=(list.length-k)) (h0:=⟨0,_,Z,PLe.refl _,H,?inv,Z⟩) (round:=?round)
 case inv=>exact⟨by omega,fun j hj=>by omega⟩
 case round =>
  rintro _ _ _ ⟨k,G1,rfl,hle1,H,hinv1,rfl⟩
  have hlist:=hlist.up hle1
  obtain⟨_,hall⟩:=hinv1
  refine W_seq (q2 (pe 2 Z (lN Z (pe 1 Z (q3 ?_)))))
  refine W_cond Z ?_ ?_
  ·intro hc2
   try simp only[nrm]at hc2
   refine W_skip (N_K (W_seq (W_block (q2 (pe 2 Z (iP k hlist Z3 Z ?_))))));intro _ _ z3 _ hz3 hE3 hrow3
   obtain⟨_,_,_,rfl,_,hr3,_,_,_⟩:=ox hE3
   refine o_loadagg_P H isAgg139 sizeOf139 Z Z hrow3 Z (xal H Z ?_);intro b4 _ _ H
   refine xst 0 H Z8 ?_;intro _ H
   refine q3 (W_seq (W_seq (W_drawK [0] 31 H kR Z ?_)));intro _ H;have hd6:=PLe.refl G1
   refine dF 0 0 Z2 (dB 1 0 Z4 (r1 2 Z (xr H Z2 (l6In_c _ _ _ _) ?_)));intro _ H
   refine q4 H hd6 (dE 3 Z2 (dE 4 Z2 ?_))
   refine RD_case (t:=20) Z ?_ ?_
   ·intro hc8
    try simp only[nrm]at hc8
    refine dE 5 Z2 (dE 6 Z2 (dE 7 Z2 (dE 8 Z2 (dE 9 Z2 (dE 10 Z2 (dE 11 Z2 (dE 12 Z2 (dE 13 Z2 (dE 14 Z2 (dE 15 Z2 (dE 16 Z2 (dE 17 Z2 (dE 18 Z2 (dE 19 Z2 (RD_pass 20 Z kR kR kR Z (yl_un Z Z) ?_)))))))))))))))
    refine RD_pass 21 Z kR kR kR Z (yl_un Z Z) (RD_pass 22 Z kR kR kR Z (yl_un Z Z) (RD_pass 23 Z kR kR kR Z (yl_un Z Z) (RD_pass 24 Z kR kR kR Z (yl_un Z Z) (RD_pass 25 Z kR kR kR Z (yl_un Z Z) (RD_pass 26 Z kR kR kR Z (yl_un Z Z) (RD_pass 27 Z kR kR kR Z (yl_un Z Z) (RD_pass 28 Z kR kR kR Z (yl_un Z Z) (dE 29 Z2 (dE 30 Z2 (rz (N_K (W_true Z (q2 (aG Z (q3 ?_)))))))))))))))
    refine W_ret (N_K_ret (N_B_ret (N_K_ret (N_LP_ret (N_B_ret (N_K_ret (rt1 results86 Z ?_)))))))
    exact H.rets (congrArg Value.bool (by rw[Sp.StoreValid,Sp.not_all_range (k:=k) oM (by rw[Sp.okH_at hz3];simp[Sp.prevId, *])];rfl))
   intro hc8'
   try simp only[nrm]at hc8'
   refine dF 5 1 Z2 (dB 6 0 Z4 (r1 7 Z (gR Z (xr H Z2 (BlockValid_c _ _ H.sub _ _ hr3) ?_))));intro _ H
   refine q4 H hd6 (dE 8 Z2 (dE 9 Z2 (dE 10 Z2 ?_)))
   refine RD_case (t:=26) Z ?_ ?_
   ·intro hc10
    try simp only[nrm]at hc10
    refine dE 11 Z2 (dE 12 Z2 (dE 13 Z2 (dE 14 Z2 (dE 15 Z2 (dE 16 Z2 (dE 17 Z2 (dE 18 Z2 (dE 19 Z2 (RD_pass 20 Z kR kR kR Z (yl_un Z Z) (RD_pass 21 Z kR kR kR Z (yl_un Z Z) (RD_pass 22 Z kR kR kR Z (yl_un Z Z) (RD_pass 23 Z kR kR kR Z (yl_un Z Z) (RD_pass 24 Z kR kR kR Z (yl_un Z Z) (RD_pass 25 Z kR kR kR Z (yl_un Z Z) (RD_pass 26 Z kR kR kR Z (yl_un Z Z) ?_)))))))))))))))
    refine RD_pass 27 Z kR kR kR Z (yl_un Z Z) (RD_pass 28 Z kR kR kR Z (yl_un Z Z) (dE 29 Z2 (dE 30 Z2 (rz (N_K (W_true Z (q2 (aG Z (q3 (W_ret (N_K_ret (N_B_ret (N_K_ret (N_LP_ret (N_B_ret ?_)))))))))))))))
    refine N_K_ret (rt1 results86 Z ?_)
    exact H.rets (congrArg Value.bool (by rw[Sp.StoreValid,Sp.not_all_range (k:=k) oM (by rw[Sp.okH_at hz3];simp[Sp.prevId, *])];rfl))
   intro hc10'
   try simp only[nrm]at hc10'
   refine dF 11 2 Z2 (dB 12 0 Z4 (r1 13 Z (gR Z (xr H Z2 (l6In_c _ _ _ _) ?_))));intro _ H
   refine q4 H hd6 (dE 14 Z2 (dE 15 Z2 (dE 16 Z2 ?_)))
   refine RD_case (t:=32) Z ?_ ?_
   ·intro hc12
    try simp only[nrm]at hc12
    refine dE 17 Z2 (dE 18 Z2 (dE 19 Z2 (RD_pass 20 Z kR kR kR Z (yl_un Z Z) (RD_pass 21 Z kR kR kR Z (yl_un Z Z) (RD_pass 22 Z kR kR kR Z (yl_un Z Z) (RD_pass 23 Z kR kR kR Z (yl_un Z Z) (RD_pass 24 Z kR kR kR Z (yl_un Z Z) (RD_pass 25 Z kR kR kR Z (yl_un Z Z) (RD_pass 26 Z kR kR kR Z (yl_un Z Z) (RD_pass 27 Z kR kR kR Z (yl_un Z Z) (RD_pass 28 Z kR kR kR Z (yl_un Z Z) (dE 29 Z2 (dE 30 Z2 (rz (N_K ?_)))))))))))))))
    refine W_true Z (q2 (aG Z (q3 (W_ret (N_K_ret (N_B_ret (N_K_ret (N_LP_ret (N_B_ret (N_K_ret (rt1 results86 Z ?_)))))))))))
    exact H.rets (congrArg Value.bool (by rw[Sp.StoreValid,Sp.not_all_range (k:=k) oM (by rw[Sp.okH_at hz3];simp[Sp.prevId, *])];rfl))
   intro hc12'
   try simp only[nrm]at hc12'
   refine dE 17 Z2 (dE 18 Z2 (dE 19 Z2 ?_))
   refine RD_case (t:=35) Z ?_ ?_
   ·intro hc13
    try simp only[nrm]at hc13
    have hk0:k≠0:=by omega
    refine dE 20 Z2 (dE 21 Z2 (RD_tg 22 Z kR Z (yl Z Z) (fun _ hK=>v_sub Z Z oO) ?_))
    have hl15:=hlist.len
    obtain⟨_,_,_,_,ha15,_,hq15,hE15,hrow15,_⟩:=hlist.at (i:=(k-1)) oM
    clear hq15
    obtain⟨_,_,_,rfl,_,hr15,_,_,_⟩:=ox hE15
    refine dI 23 3 (k-1) ha15 Z3 oM (dF 24 0 Z2 (dP 25 hrow15 0 Z3 (dF 26 0 Z2 (dB 27 0 Z4 (dE 28 Z2 (dE 29 Z2 (dE 30 Z2 (rz (N_K ?_)))))))))
    refine W_cond Z ?_ ?_
    ·intro hc16
     try simp only[nrm]at hc16
     refine q2 (aG Z (q3 (W_ret (N_K_ret (N_B_ret (N_K_ret (N_LP_ret (N_B_ret (N_K_ret (rt1 results86 Z ?_))))))))))
     exact H.rets (congrArg Value.bool (by rw[Sp.StoreValid,Sp.not_all_range (k:=k) oM (by rw[Sp.okH_at hz3];simp[Sp.prevId, *];intro _;omega)];rfl))
    intro hc16'
    try simp only[nrm]at hc16'
    refine W_skip (N_K (q2 (aG Z (q3 (W_block ?_)))))
    obtain⟨ln17,hln17,H⟩:=H.name (k:=0) rfl
    refine W_lp (hf:=(Sub.cons (t:=0) Z (Sub.cons (t:=3) Z (Sub.cons (t:=4) Z Sub.nil)))) (J:=fun M w m=>∃(i:Nat) (G:PH),M=[(5,.int .i64 (i:Int))]∧PLe G1 G∧Hp w0 G0 [] w G [blk b4 (cl ln17 139)]∧(i≤k∧(list.take i).all (fun g=> !Sp.l2Same g.bytes z3.bytes)=true)∧m=(k-i)) (h0:=⟨0,_,Z,PLe.refl _,H,?inv,Z⟩) (round:=?round)
    case inv=>exact⟨by omega,by simp⟩
    case round =>
     rintro _ _ _ ⟨i,G18,rfl,hle18,H,hinv18,rfl⟩
     subst hln17
     have hlist:=hlist.up hle18
     have hr3:=hr3.up hle18
     have hle1:=hle1.trans hle18
     obtain⟨hi,hall2⟩:=hinv18
     refine W_seq (q2 (pe 3 Z (q3 ?_)))
     refine W_cond Z ?_ ?_
     ·intro hc19
      try simp only[nrm]at hc19
      refine W_skip (N_K (W_seq (W_block (W_seq (W_drawK [0] 8 H kR Z ?_)))));intro _ H;have hd20:=PLe.refl G18
      refine dE 0 Z2 (dE 1 Z2 ?_)
      have hl21:=hlist.len
      obtain⟨_,_,_,_,ha21,hz21,hq21,hE21,hrow21,_⟩:=hlist.at (i:=i) oM
      clear hq21
      obtain⟨_,_,_,rfl,_,hr21,_,_,_⟩:=ox hE21
      refine dI 2 3 i ha21 Z3 Z (dF 3 1 Z2 (dP 4 hrow21 1 Z3 (dF 5 1 Z2 (dB 6 0 Z4 (r1 7 Z (xr H Z2 (l2Same_c _ _ H.sub _ _ hr21 _ _ hr3) ?_))))));intro _ H
      refine q4 H hd20 (rz (N_K ?_))
      refine W_cond Z ?_ ?_
      ·intro hc23
       try simp only[nrm]at hc23
       refine q2 (aG Z (q3 (W_ret (N_B_ret (N_K_ret (N_LP_ret (N_B_ret (N_B_ret (N_K_ret (N_LP_ret (N_B_ret (N_K_ret (rt1 results86 Z ?_)))))))))))))
       exact H.rets (congrArg Value.bool (by rw[Sp.StoreValid,Sp.not_all_range (k:=k) oM (by rw[Sp.okH_at hz3,Sp.all_false (l:=list.take k) (k:=i) (by rw[List.getElem?_take,if_pos oM];exact hz21) (by simp[*])];simp)];rfl))
      intro hc23'
      try simp only[nrm]at hc23'
      refine W_skip (N_B (N_K (W_region (mV Z (aD Z2 (aG Z (R_nil ?_)))))))
      refine N_lp (hJ:=⟨i+1,_,Z,hle18,H,?inv,Z⟩) (hm:=?hm)
      case hm=>omega
      case inv=>exact⟨by omega,Sp.all_take hall2 hz21 (by simp[*])⟩
     intro hc19'
     try simp only[nrm]at hc19'
     refine W_exit (N_K_exit (N_LP_exit (N_B_same (N_B (N_K (W_region (mV Z (aD Z2 (aG Z (R_nil ?_))))))))))
     have H:=H.dl 0
     refine N_lp (hJ:=⟨k+1,_,Z,hle1,H,?inv,Z⟩) (hm:=?hm)
     case hm=>omega
     case inv=>exact⟨by omega,Sp.upto_succ hall (by (obtain rfl:i=k:=by omega);rw[Sp.okH_at hz3,hall2];simp[Sp.prevId, *])⟩
   intro hc13'
   try simp only[nrm]at hc13'
   have hk0:k=0:=by omega
   refine dE 20 Z2 (dE 21 Z2 (dE 22 Z2 (dE 23 Z2 (dE 24 Z2 (dE 25 Z2 (dE 26 Z2 (dE 27 Z2 (dE 28 Z2 (dE 29 Z2 (dE 30 Z2 (rz (N_K (W_false Z (W_skip (N_K ?_)))))))))))))))
   refine q2 (aG Z (q3 (W_block ?_)))
   obtain⟨ln26,hln26,H⟩:=H.name (k:=0) rfl
   refine W_lp (hf:=(Sub.cons (t:=0) Z (Sub.cons (t:=3) Z (Sub.cons (t:=4) Z Sub.nil)))) (J:=fun M w m=>∃(i:Nat) (G:PH),M=[(5,.int .i64 (i:Int))]∧PLe G1 G∧Hp w0 G0 [] w G [blk b4 (cl ln26 139)]∧(i≤k∧(list.take i).all (fun g=> !Sp.l2Same g.bytes z3.bytes)=true)∧m=(k-i)) (h0:=⟨0,_,Z,PLe.refl _,H,?inv,Z⟩) (round:=?round)
   case inv=>exact⟨by omega,by simp⟩
   case round =>
    rintro _ _ _ ⟨i,G27,rfl,hle27,H,hinv27,rfl⟩
    subst hln26
    have hlist:=hlist.up hle27
    have hr3:=hr3.up hle27
    have hle1:=hle1.trans hle27
    obtain⟨hi,hall2⟩:=hinv27
    refine W_seq (q2 (pe 3 Z (q3 ?_)))
    refine W_cond Z ?_ ?_
    ·intro hc28
     try simp only[nrm]at hc28
     refine W_skip (N_K (W_seq (W_block (W_seq (W_drawK [0] 8 H kR Z ?_)))));intro _ H;have hd29:=PLe.refl G27
     refine dE 0 Z2 (dE 1 Z2 ?_)
     have hl30:=hlist.len
     obtain⟨_,_,_,_,ha30,hz30,hq30,hE30,hrow30,_⟩:=hlist.at (i:=i) oM
     clear hq30
     obtain⟨_,_,_,rfl,_,hr30,_,_,_⟩:=ox hE30
     refine dI 2 3 i ha30 Z3 Z (dF 3 1 Z2 (dP 4 hrow30 1 Z3 (dF 5 1 Z2 (dB 6 0 Z4 (r1 7 Z (xr H Z2 (l2Same_c _ _ H.sub _ _ hr30 _ _ hr3) ?_))))));intro _ H
     refine q4 H hd29 (rz (N_K ?_))
     refine W_cond Z ?_ ?_
     ·intro hc32
      try simp only[nrm]at hc32
      refine q2 (aG Z (q3 (W_ret (N_B_ret (N_K_ret (N_LP_ret (N_B_ret (N_B_ret (N_K_ret (N_LP_ret (N_B_ret (N_K_ret (rt1 results86 Z ?_)))))))))))))
      exact H.rets (congrArg Value.bool (by rw[Sp.StoreValid,Sp.not_all_range (k:=k) oM (by rw[Sp.okH_at hz3,Sp.all_false (l:=list.take k) (k:=i) (by rw[List.getElem?_take,if_pos oM];exact hz30) (by simp[*])];simp)];rfl))
     intro hc32'
     try simp only[nrm]at hc32'
     refine W_skip (N_B (N_K (W_region (mV Z (aD Z2 (aG Z (R_nil ?_)))))))
     refine N_lp (hJ:=⟨i+1,_,Z,hle27,H,?inv,Z⟩) (hm:=?hm)
     case hm=>omega
     case inv=>exact⟨by omega,Sp.all_take hall2 hz30 (by simp[*])⟩
    intro hc28'
    try simp only[nrm]at hc28'
    refine W_exit (N_K_exit (N_LP_exit (N_B_same (N_B (N_K (W_region (mV Z (aD Z2 (aG Z (R_nil ?_))))))))))
    have H:=H.dl 0
    refine N_lp (hJ:=⟨k+1,_,Z,hle1,H,?inv,Z⟩) (hm:=?hm)
    case hm=>omega
    case inv=>exact⟨by omega,Sp.upto_succ hall (by (obtain rfl:i=k:=by omega);rw[Sp.okH_at hz3,hall2];simp[Sp.prevId, *])⟩
  intro hc2'
  try simp only[nrm]at hc2'
  refine W_exit (N_K_exit (N_LP_exit (N_B_same (N_K (q2 (mV Z (lN Z (pe 2 Z (q3 (W_ret (rt1 results86 Z ?_)))))))))))
  exact H.rets (congrArg Value.bool (by rw[Sp.StoreValid,Sp.all_range (fun j hj=>hall j oM),Bool.true_and];rw[Bool.eq_iff_iff];simp;omega))
theorem l3At_c (w0:World)(G0:PH)(hG:PSub G0 w0)(vlist:Value)(list:List (BHeld))(hlist:RdH G0 vlist list)(id:Int) :
  Calls Tryz.prog 125 #[vlist,.int .i64 id] w0 (Rets w0 (.int .i64 (Sp.l3At list id))):=by
 obtain⟨alist,klist,rfl⟩:=hlist.shape
 have hlimlist:list.length≤1099511627776:=hlist.lim
 have H:=Hp.init hG
 refine calls_of_W (l:=[.slice alist list.length klist,.int .i64 id]) func125 Z ntmps125 Z (q2 (aG Z (q3 (W_seq (q2 (aG Z (q3 (W_block ?_))))))))
 refine W_lp (hf:=(Sub.cons (t:=0) Z (Sub.cons (t:=1) Z Sub.nil))) (J:=fun M w m=>∃(k:Nat) (G:PH),M=[(5,.int .i64 (k:Int))]∧PLe G0 G∧Hp w0 G0 [] w G []∧(k≤list.length∧(∀j,j<k→∀y,list[j]? = some y→decide (y.id=id)=false))∧m=(list.length-k)) (h0:=⟨0,_,Z,PLe.refl _,H,?inv,Z⟩) (round:=?round)
 case inv=>exact⟨by omega,fun j hj=>by omega⟩
 case round =>
  rintro _ _ _ ⟨k,_,rfl,hle1,H,hinv1,rfl⟩
  have hlist:=hlist.up hle1
  obtain⟨_,hall⟩:=hinv1
  refine W_seq (q2 (pe 2 Z (lN Z (pe 1 Z (q3 ?_)))))
  refine W_cond Z ?_ ?_
  ·intro hc2
   try simp only[nrm]at hc2
   refine W_skip (N_K (W_seq (W_block (q2 (pe 2 Z (iP k hlist Z3 Z ?_))))));intro _ _ _ _ hz3 hE3 hrow3
   obtain⟨_,_,_,rfl,_,_,_,_,_⟩:=ox hE3
   refine fA 0 Z (lP H hrow3 0 Z2 (pe 2 Z (q3 ?_)))
   refine W_cond Z ?_ ?_
   ·intro hc4
    try simp only[nrm]at hc4
    refine q2 (pe 2 Z (q3 (W_ret (N_B_ret (N_K_ret (N_LP_ret (N_B_ret (N_K_ret (rt1 results125 Z ?_)))))))))
    exact H.rets (congrArg (Value.int .i64) (by rw[Sp.l3At,Sp.atH,Sp.find_at hall hz3 (by simp;omega)];rfl))
   intro hc4'
   try simp only[nrm]at hc4'
   refine W_skip (N_B (N_K (W_region (mV Z (aD Z2 (aG Z (R_nil ?_)))))))
   refine N_lp (hJ:=⟨k+1,_,Z,hle1,H,?inv,Z⟩) (hm:=?hm)
   case hm=>omega
   case inv=>exact⟨by omega,Sp.none_succ hall hz3 (by simp;omega)⟩
  intro hc2'
  try simp only[nrm]at hc2'
  refine W_exit (N_K_exit (N_LP_exit (N_B_same (N_K (q2 (aG Z (q3 (W_ret (rt1 results125 Z ?_)))))))))
  exact H.rets (congrArg (Value.int .i64) (by rw[Sp.l3At,Sp.atH,Sp.find_none hall oM];rfl))
theorem l3Like_c (w0:World)(G0:PH)(hG:PSub G0 w0)(vlist:Value)(list:List (BHeld))(hlist:RdH G0 vlist list)(vbytes:Value)(bytes:List (Int))(hbytes:RdI G0 vbytes bytes) :
  Calls Tryz.prog 244 #[vlist,vbytes] w0 (Rets w0 (.int .i64 (Sp.l3Like list bytes))):=by
 obtain⟨alist,klist,rfl⟩:=hlist.shape
 have hlimlist:list.length≤1099511627776:=hlist.lim
 obtain⟨abytes,kbytes,rfl⟩:=hbytes.shape
 have hlimbytes:bytes.length≤1099511627776:=hbytes.lim
 have H:=Hp.init hG
 refine calls_of_W (l:=[.slice alist list.length klist,.slice abytes bytes.length kbytes]) func244 Z ntmps244 Z (q2 (aG Z (q3 (W_seq (q2 (aG Z (q3 (W_block ?_))))))))
 refine W_lp (hf:=(Sub.cons (t:=0) Z (Sub.cons (t:=1) Z Sub.nil))) (J:=fun M w m=>∃(k:Nat) (G:PH),M=[(5,.int .i64 (k:Int))]∧PLe G0 G∧Hp w0 G0 [] w G []∧(k≤list.length∧(∀j,j<k→∀y,list[j]? = some y→Sp.l2Same y.bytes bytes=false))∧m=(list.length-k)) (h0:=⟨0,_,Z,PLe.refl _,H,?inv,Z⟩) (round:=?round)
 case inv=>exact⟨by omega,fun j hj=>by omega⟩
 case round =>
  rintro _ _ _ ⟨k,_,rfl,hle1,H,hinv1,rfl⟩
  have hlist:=hlist.up hle1
  have hbytes:=hbytes.up hle1
  obtain⟨_,hall⟩:=hinv1
  refine W_seq (q2 (pe 2 Z (lN Z (pe 1 Z (q3 ?_)))))
  refine W_cond Z ?_ ?_
  ·intro hc2
   try simp only[nrm]at hc2
   refine W_skip (N_K (W_seq (W_block (q2 (pe 2 Z (iP k hlist Z3 Z ?_))))));intro _ _ _ _ hz3 hE3 hrow3
   obtain⟨_,_,_,rfl,_,hr3,_,_,_⟩:=ox hE3
   refine fA 1 Z (lP H hrow3 1 Z2 (mV Z (xr H Z2 (l2Same_c _ _ H.sub _ _ hr3 _ _ hbytes) ?_)));intro _ H
   refine q3 ?_
   refine W_cond Z ?_ ?_
   ·intro hc5
    try simp only[nrm]at hc5
    refine q2 (pe 2 Z (q3 (W_ret (N_B_ret (N_K_ret (N_LP_ret (N_B_ret (N_K_ret (rt1 results244 Z ?_)))))))))
    exact H.rets (congrArg (Value.int .i64) (by rw[Sp.l3Like,Sp.like,Sp.find_at hall hz3 hc5];rfl))
   intro hc5'
   try simp only[nrm]at hc5'
   refine W_skip (N_B (N_K (W_region (mV Z (aD Z2 (aG Z (R_nil ?_)))))))
   refine N_lp (hJ:=⟨k+1,_,Z,hle1,H,?inv,Z⟩) (hm:=?hm)
   case hm=>omega
   case inv=>exact⟨by omega,Sp.none_succ hall hz3 hc5'⟩
  intro hc2'
  try simp only[nrm]at hc2'
  refine W_exit (N_K_exit (N_LP_exit (N_B_same (N_K (q2 (aG Z (q3 (W_ret (rt1 results244 Z ?_)))))))))
  exact H.rets (congrArg (Value.int .i64) (by rw[Sp.l3Like,Sp.like,Sp.find_none hall oM];rfl))
theorem l3Copy_c (w0:World)(G0:PH)(hG:PSub G0 w0)(vlist:Value)(list:List (BHeld))(hlist:RdH G0 vlist list) :
  Calls Tryz.prog 107 #[vlist] w0 (RetO w0 G0 (AccOf heldE 3 139 list)):=by
 obtain⟨alist,klist,rfl⟩:=hlist.shape
 have hlimlist:list.length≤1099511627776:=hlist.lim
 have H:=Hp.init hG
 refine calls_of_W (l:=[.slice alist list.length klist]) func107 Z ntmps107 Z (q2 (aG Z (q1 (xbs H Z7 ?_))));intro _ _ _ H
 have H:=H.blkAcc 3 (k:=0) (n:=0) rfl rfl (by decide)
 refine aG Z (q3 (W_seq (q2 (aG Z (q3 (W_block ?_))))))
 refine W_lp (hf:=(Sub.cons (t:=0) Z (Sub.cons (t:=2) Z Sub.nil))) (J:=fun M w m=>∃(v:Value) (n:Nat) (cs:List Value) (xs:List (BHeld)) (k:Nat) (G:PH),M=[(4,.int .i64 (k:Int)),(3,v)]∧PLe G0 G∧Hp w0 G0 [] w G [acc 139 3 v n cs]∧(Chk heldE 3 G cs xs∧n=xs.length∧k≤list.length∧xs.length=k∧xs=list.take k)∧m=(list.length-k)) (h0:=⟨_,_,_,[],0,_,Z,PLe.refl _,H,?inv,Z⟩) (round:=?round)
 case inv=>exact⟨(Chk.nil (E:=heldE) (sz:=3) (G:=G0)),by first|rfl|simp|(simp;omega)|omega,(by simp)⟩
 case round =>
  rintro _ _ _ ⟨v,n,cs,xs,k,G2,rfl,hle2,H,hinv2,rfl⟩
  have hlist:=hlist.up hle2
  obtain⟨hchk2_0,_,hinv2⟩:=hinv2
  obtain⟨_,_,rfl⟩:=H.accShape (k:=0) rfl
  obtain⟨_,hxl,hxs⟩:=hinv2
  refine W_seq (q2 (pe 2 Z (lN Z (pe 1 Z (q3 ?_)))))
  refine W_cond Z ?_ ?_
  ·intro hc3
   try simp only[nrm]at hc3
   refine W_skip (N_K (W_seq (W_block (q2 (pe 2 Z (iP k hlist Z3 Z ?_))))));intro _ _ z4 _ hz4 hE4 hrow4
   obtain⟨_,_,_,rfl,_,hr4,_,_,_⟩:=ox hE4
   refine o_loadagg_P H isAgg139 sizeOf139 Z Z hrow4 Z (xal H Z ?_);intro _ _ _ H
   refine xst 0 H Z8 ?_;intro _ H
   refine q1 (xbs H Z7 ?_);intro _ _ _ H
   have H:=H.blkAcc 1 (k:=0) (n:=0) rfl rfl (by decide)
   refine fA 1 Z (lB 1 H Z3 ?_)
   refine o_append_P 0 H hr4 (by intro _ cs hz _ hu;obtain⟨rfl,_⟩:=hz;simp at hu;subst hu;rfl) (sz:=1) (bytes:=8) underlying37 typeInfo3 ⟨_,rfl,rfl⟩ rfl rfl rfl rfl rfl rfl rfl oM rfl ?_;intro _ _ css8 hcl8 hcs8 H
   have hchk8:Chk intE 1 G2 ([]++css8.flatten) _:=⟨css8,rfl,hcl8,hcs8⟩
   obtain⟨_,_,rfl⟩:=H.accShape (k:=0) rfl
   refine fA 1 Z (xst 1 H Z8 ?_);intro _ H
   refine q3 (W_region (mV Z (lA 1 3 H Z4 (xbs H Z7 ?_))));intro _ _ _ H
   refine o_append1 2 H (sz:=3) (bytes:=40) underlying23 typeInfo139 ⟨_,Z,Z⟩ Z Z Z Z Z Z Z Z Z Z oM Z ?_;intro _ _ H
   obtain⟨_,H,hsg12,hsr12⟩:=H.shut' (k:=0) rfl hchk8 aN aN
   have hchk2_0:=hchk2_0.up hsg12
   have hle2:=hle2.trans hsg12
   have hchk11:=hchk2_0.snoc (show heldE _ z4 _ from⟨_,_,_,rfl,⟨by first|omega|(dsimp only;omega),by first|omega|(dsimp only;omega)⟩,hsr12,⟨by first|omega|(dsimp only;omega),by first|omega|(dsimp only;omega)⟩⟩) rfl
   obtain⟨_,_,rfl⟩:=H.accShape (k:=1) rfl
   refine aG Z (R_nil (N_B (N_K (W_region (mV Z (aD Z2 (aG Z (R_nil ?_))))))))
   have H:=H.dl 0
   refine N_lp (hJ:=⟨_,_,_,(xs++[z4]),k+1,_,Z,hle2,H,?inv,Z⟩) (hm:=?hm)
   case hm=>omega
   case inv=>exact⟨hchk11,aN,(by exact⟨by omega,by simp[hxl],by rw[Sp.take_succ' hz4,hxs]⟩)⟩
  intro hc3'
  try simp only[nrm]at hc3'
  refine W_exit (N_K_exit (N_LP_exit (N_B_same (N_K (q2 (pe 2 Z (q3 (W_ret (rt1 results107 Z ?_)))))))))
  obtain rfl:k=list.length:=by omega
  rw[List.take_length]at hxs
  subst hxs
  exact H.retO (k:=0) rfl (AccOf.mk (by assumption) hchk2_0) (acc_nd _ _ _ _ _)
theorem l12At_c (w0:World)(G0:PH)(hG:PSub G0 w0)(vlist:Value)(list:List (BSnap))(hlist:RdSn G0 vlist list)(name:Bs)(hname:name.length≤16777216) :
  Calls Tryz.prog 91 #[vlist,str name] w0 (Rets w0 (.int .i64 (Sp.l12At list name))):=by
 obtain⟨alist,klist,rfl⟩:=hlist.shape
 have hlimlist:list.length≤1099511627776:=hlist.lim
 have H:=Hp.init hG
 refine calls_of_W (l:=[.slice alist list.length klist,str name]) func91 Z ntmps91 Z (q2 (aG Z (q3 (W_seq (q2 (aG Z (q3 (W_block ?_))))))))
 refine W_lp (hf:=(Sub.cons (t:=0) Z (Sub.cons (t:=1) Z Sub.nil))) (J:=fun M w m=>∃(k:Nat) (G:PH),M=[(5,.int .i64 (k:Int))]∧PLe G0 G∧Hp w0 G0 [] w G []∧(k≤list.length∧(∀j,j<k→∀y,list[j]? = some y→decide (y.name=name)=false))∧m=(list.length-k)) (h0:=⟨0,_,Z,PLe.refl _,H,?inv,Z⟩) (round:=?round)
 case inv=>exact⟨by omega,fun j hj=>by omega⟩
 case round =>
  rintro _ _ _ ⟨k,_,rfl,hle1,H,hinv1,rfl⟩
  have hlist:=hlist.up hle1
  obtain⟨_,hall⟩:=hinv1
  refine W_seq (q2 (pe 2 Z (lN Z (pe 1 Z (q3 ?_)))))
  refine W_cond Z ?_ ?_
  ·intro hc2
   try simp only[nrm]at hc2
   refine W_skip (N_K (W_seq (W_block (q2 (pe 2 Z (iP k hlist Z3 Z ?_))))));intro _ _ _ _ hz3 hE3 hrow3
   obtain⟨_,_,_,rfl,_,_,_,_⟩:=ox hE3
   refine fA 0 Z (lP H hrow3 0 Z2 (mV Z (o_seql Z Z Z (q3 ?_))))
   refine W_cond Z ?_ ?_
   ·intro hc4
    try simp only[nrm]at hc4
    refine q2 (pe 2 Z (q3 (W_ret (N_B_ret (N_K_ret (N_LP_ret (N_B_ret (N_K_ret (rt1 results91 Z ?_)))))))))
    exact H.rets (congrArg (Value.int .i64) (by rw[Sp.l12At,Sp.atS,Sp.find_at hall hz3 (by simp;exact hc4)];rfl))
   intro hc4'
   try simp only[nrm]at hc4'
   refine W_skip (N_B (N_K (W_region (mV Z (aD Z2 (aG Z (R_nil ?_)))))))
   refine N_lp (hJ:=⟨k+1,_,Z,hle1,H,?inv,Z⟩) (hm:=?hm)
   case hm=>omega
   case inv=>exact⟨by omega,Sp.none_succ hall hz3 (by simp;exact hc4')⟩
  intro hc2'
  try simp only[nrm]at hc2'
  refine W_exit (N_K_exit (N_LP_exit (N_B_same (N_K (q2 (aG Z (q3 (W_ret (rt1 results91 Z ?_)))))))))
  exact H.rets (congrArg (Value.int .i64) (by rw[Sp.l12At,Sp.atS,Sp.find_none hall oM];rfl))
theorem l4Ids_c (w0:World)(G0:PH)(hG:PSub G0 w0)(vlist:Value)(list:List (BHeld))(hlist:RdH G0 vlist list)(vids:Value)(ids:List (Int))(hids:RdI G0 vids ids) :
  Calls Tryz.prog 150 #[vlist,vids] w0 (Rets w0 (.bool (Sp.l4Ids list ids))):=by
 obtain⟨alist,klist,rfl⟩:=hlist.shape
 have hlimlist:list.length≤1099511627776:=hlist.lim
 obtain⟨aids,kids,rfl⟩:=hids.shape
 have hlimids:ids.length≤1099511627776:=hids.lim
 have H:=Hp.init hG
 refine calls_of_W (l:=[.slice alist list.length klist,.slice aids ids.length kids]) func150 Z ntmps150 Z (q2 (aG Z (q3 (W_seq (q2 (aG Z (q3 (W_block ?_))))))))
 refine W_lp (hf:=(Sub.cons (t:=0) Z (Sub.cons (t:=1) Z Sub.nil))) (J:=fun M w m=>∃(k:Nat) (G:PH),M=[(5,.int .i64 (k:Int))]∧PLe G0 G∧Hp w0 G0 [] w G []∧(k≤ids.length∧∀j,j<k→Sp.idsOk list ids j=true)∧m=(ids.length-k)) (h0:=⟨0,_,Z,PLe.refl _,H,?inv,Z⟩) (round:=?round)
 case inv=>exact⟨by omega,fun j hj=>by omega⟩
 case round =>
  rintro _ _ _ ⟨k,_,rfl,hle1,H,hinv1,rfl⟩
  have hlist:=hlist.up hle1
  have hids:=hids.up hle1
  obtain⟨_,hall⟩:=hinv1
  refine W_seq (q2 (pe 2 Z (lN Z (pe 1 Z (q3 ?_)))))
  refine W_cond Z ?_ ?_
  ·intro hc2
   try simp only[nrm]at hc2
   refine W_skip (N_K (W_seq (W_block (q2 (pe 3 Z (iP k hids Z3 Z ?_))))));intro _ _ z3 _ hz3 hE3 hrow3
   obtain⟨rfl,hi3⟩:=hE3
   refine lP H hrow3 0 Z2 (xr H Z2 (l3At_c _ _ H.sub _ _ hlist _) ?_);intro _ H
   refine aG Z (q1 (pe 3 Z ?_))
   refine R_case (t:=21) Z ?_ ?_
   ·intro hc5
    try simp only[nrm]at hc5
    refine pe 6 Z (R_pass Z (yl_un Z Z) (R_pass Z (yl_un Z Z) (R_pass Z (yl_un Z Z) (R_pass Z (yl_un Z Z) (R_pass Z (yl_un Z Z) (R_pass Z (yl_un Z Z) (R_pass Z (yl_un Z Z) (pe 2 Z (q3 (W_true Z (q2 (aG Z (q3 (W_ret (N_B_ret ?_)))))))))))))))
    refine N_K_ret (N_LP_ret (N_B_ret (N_K_ret (rt1 results150 Z ?_))))
    exact H.rets (congrArg Value.bool (by rw[Sp.l4Ids,Sp.not_all_range (k:=k) oM (by simp[Sp.idsOk,hz3,Sp.atH,Sp.at_none hc5])];rfl))
   intro hc5'
   try simp only[nrm]at hc5'
   obtain⟨i,x,hi1,hi2,hi3,hi4,_⟩:=Sp.at_nat hc5'
   have hl:Sp.atH list z3=some i:=hi1
   refine pe 1 Z (gR Z (aD Z2 (pe 1 Z (gR Z (lN Z (pe 2 Z ?_))))))
   refine R_case (t:=27) Z ?_ ?_
   ·intro hc7
    try simp only[nrm]at hc7
    refine pe 2 Z (gR Z (iP i hlist Z3 hi2 ?_));intro _ _ z8 _ hz8 hE8 hrow8
    obtain⟨_,_,_,rfl,_,_,_,_,_⟩:=ox hE8
    have hzz:x=z8:=Option.some.inj (hi4.symm.trans hz8)
    subst hzz
    refine gR Z (fA 1 Z (gR Z (lP H hrow8 1 Z2 (gR Z (lN Z (pe 3 Z (q3 ?_)))))))
    refine W_cond Z ?_ ?_
    ·intro hc9
     try simp only[nrm]at hc9
     refine q2 (aG Z (q3 (W_ret (N_B_ret (N_K_ret (N_LP_ret (N_B_ret (N_K_ret (rt1 results150 Z ?_)))))))))
     exact H.rets (congrArg Value.bool (by rw[Sp.l4Ids,Sp.not_all_range (k:=k) oM (by simp[Sp.idsOk,hz3,hl,hi4];omega)];rfl))
    intro hc9'
    try simp only[nrm]at hc9'
    refine W_skip (N_B (N_K (W_region (mV Z (aD Z2 (aG Z (R_nil ?_)))))))
    refine N_lp (hJ:=⟨k+1,_,Z,hle1,H,?inv,Z⟩) (hm:=?hm)
    case hm=>omega
    case inv=>exact⟨by omega,Sp.upto_succ hall (by simp[Sp.idsOk,hz3,hl,hi4];omega)⟩
   intro hc7'
   try simp only[nrm]at hc7'
   refine pe 9 Z (q3 (W_false Z (W_skip (N_B (N_K (W_region (mV Z (aD Z2 (aG Z (R_nil ?_))))))))))
   refine N_lp (hJ:=⟨k+1,_,Z,hle1,H,?inv,Z⟩) (hm:=?hm)
   case hm=>omega
   case inv=>exact⟨by omega,Sp.upto_succ hall (by simp[Sp.idsOk,hz3,hl,hi4];omega)⟩
  intro hc2'
  try simp only[nrm]at hc2'
  refine W_exit (N_K_exit (N_LP_exit (N_B_same (N_K (q2 (mV Z (lN Z (pe 2 Z (q3 (W_ret (rt1 results150 Z ?_)))))))))))
  exact H.rets (congrArg Value.bool (by rw[Sp.l4Ids,Sp.all_range (fun j hj=>hall j oM),Bool.true_and];rw[Bool.eq_iff_iff];simp;omega))
theorem l11Count_c (w0:World)(G0:PH)(hG:PSub G0 w0)(vlist:Value)(list:List (BItem))(hlist:RdItems G0 vlist list)(id:Int)(hT:Sp.TreeValid list=true) :
  Calls Tryz.prog 152 #[vlist,.int .i64 id] w0 (Rets w0 (.int .i64 (Sp.l11Count list id:Int))):=by
 obtain⟨alist,klist,rfl⟩:=hlist.shape
 have hlimlist:list.length≤1099511627776:=hlist.lim
 have htl:=Sp.tree_len hT
 have H:=Hp.init hG
 refine calls_of_W (l:=[.slice alist list.length klist,.int .i64 id]) func152 Z ntmps152 Z (q2 (aG Z (q1 (aG Z (q3 (W_seq (q2 (aG Z (q3 (W_block ?_))))))))))
 refine W_lp (hf:=(Sub.cons (t:=0) Z (Sub.cons (t:=1) Z (Sub.cons (t:=4) Z Sub.nil)))) (J:=fun M w m=>∃(c k:Nat) (G:PH),M=[(5,.int .i64 (c:Int)),(6,.int .i64 (k:Int))]∧PLe G0 G∧Hp w0 G0 [] w G []∧(k≤list.length∧c=Sp.cntU list id k)∧m=(list.length-k)) (h0:=⟨0,0,_,Z,PLe.refl _,H,?inv,Z⟩) (round:=?round)
 case inv=>exact⟨by omega,by simp[Sp.cntU]⟩
 case round =>
  rintro _ _ _ ⟨c,k,G1,rfl,hle1,H,hinv1,rfl⟩
  have hlist:=hlist.up hle1
  obtain⟨hk,hc⟩:=hinv1;have hcu:=Sp.cntU_le hT k hk (id:=id)
  refine W_seq (q2 (pe 2 Z (lN Z (pe 1 Z (q3 ?_)))))
  refine W_cond Z ?_ ?_
  ·intro hc2
   try simp only[nrm]at hc2
   refine W_skip (N_K (W_seq (W_block (q2 (aG Z (q3 (W_block ?_)))))))
   refine W_lp (hf:=(Sub.cons (t:=0) Z (Sub.cons (t:=1) Z (Sub.cons (t:=4) Z (Sub.cons (t:=6) Z Sub.nil))))) (J:=fun M w m=>∃(c2 j:Nat) (y:BItem) (G:PH),M=[(5,.int .i64 (c2:Int)),(7,.int .i64 (j:Int))]∧PLe G1 G∧Hp w0 G0 [] w G []∧(list[k]? = some y∧j≤y.ids.length∧c2=Sp.cntU list id k+Sp.cnt1 id (y.ids.take j))∧m=(y.ids.length-j)) (h0:=⟨c,0,(list[k]'oM),_,Z,PLe.refl _,H,?inv,Z⟩) (round:=?round)
   case inv=>exact⟨by simp,by omega,by simp[hc,Sp.cnt1]⟩
   case round =>
    rintro _ _ _ ⟨c2,j,y,_,rfl,hle3,H,hinv3,rfl⟩
    have hlist:=hlist.up hle3
    have hle1:=hle1.trans hle3
    obtain⟨hy,_,hc2⟩:=hinv3;have hc4:=(Sp.tree_at hT hy).2;have hc1:=Sp.cnt1_le id (y.ids.take j);have htk:(y.ids.take j).length≤j:=by simp;omega
    refine W_seq (q2 (pe 3 Z (iP k hlist Z3 Z ?_)));intro _ _ z4 _ hz4 hE4 hrow4
    obtain⟨_,_,_,rfl,_,_,_,_⟩:=ox hE4
    have hzz4:y=z4:=Option.some.inj (hy.symm.trans hz4)
    subst hzz4
    refine fA 2 Z (lP H hrow4 2 Z2 (lN Z (pe 1 Z (q3 ?_))))
    refine W_cond Z ?_ ?_
    ·intro hc5
     try simp only[nrm]at hc5
     refine W_skip (N_K (W_seq (W_block (q2 (pe 2 Z (iP k hlist Z3 Z ?_))))));intro _ _ z6 _ hz6 hE6 hrow6
     obtain⟨_,_,_,rfl,_,hr6,_,_⟩:=ox hE6
     have hzz6:y=z6:=Option.some.inj (hy.symm.trans hz6)
     subst hzz6
     refine fA 2 Z (lP H hrow6 2 Z2 (mV Z (iP j hr6 Z3 Z ?_)));intro _ _ _ _ hz7 hE7 hrow7
     obtain⟨rfl,_⟩:=hE7
     refine lP H hrow7 0 Z2 (pe 2 Z (q3 ?_))
     refine W_cond Z ?_ ?_
     ·intro hc8
      try simp only[nrm]at hc8
      refine W_region (mV Z (aD Z2 (aG Z (R_nil (N_B (N_K (W_region (mV Z (aD Z2 (aG Z (R_nil ?_)))))))))))
      refine N_lp (hJ:=⟨c2+1,j+1,y,_,Z,hle3,H,?inv,Z⟩) (hm:=?hm)
      case hm=>omega
      case inv=>exact⟨hy,by omega,by rw[Sp.cnt1_succ hz7,if_pos oM,hc2];omega⟩
     intro hc8'
     try simp only[nrm]at hc8'
     refine W_skip (N_B (N_K (W_region (mV Z (aD Z2 (aG Z (R_nil ?_)))))))
     refine N_lp (hJ:=⟨c2,j+1,y,_,Z,hle3,H,?inv,Z⟩) (hm:=?hm)
     case hm=>omega
     case inv=>exact⟨hy,by omega,by rw[Sp.cnt1_succ hz7,if_neg oM,hc2];omega⟩
    intro hc5'
    try simp only[nrm]at hc5'
    refine W_exit (N_K_exit (N_LP_exit (N_B_same (N_B (N_K (W_region (mV Z (aD Z2 (aG Z (R_nil ?_))))))))))
    refine N_lp (hJ:=⟨c2,k+1,_,Z,hle1,H,?inv,Z⟩) (hm:=?hm)
    case hm=>omega
    case inv=>exact⟨by omega,by rw[hc2,Sp.cntU_succ hy,List.take_of_length_le oM]⟩
  intro hc2'
  try simp only[nrm]at hc2'
  refine W_exit (N_K_exit (N_LP_exit (N_B_same (N_K (q2 (pe 2 Z (q3 (W_ret (rt1 results152 Z ?_)))))))))
  obtain rfl:k=list.length:=by omega
  exact H.rets (congrArg (Value.int .i64) (by rw[hc];rfl))
theorem l11Files_c (w0:World)(G0:PH)(hG:PSub G0 w0)(vstore:Value)(store:List (BHeld))(hstore:RdH G0 vstore store)(vlist:Value)(list:List (BItem))(hlist:RdItems G0 vlist list) :
  Calls Tryz.prog 88 #[vstore,vlist] w0 (Rets w0 (.bool (Sp.l11Files store list))):=by
 obtain⟨astore,kstore,rfl⟩:=hstore.shape
 have hlimstore:store.length≤1099511627776:=hstore.lim
 obtain⟨alist,klist,rfl⟩:=hlist.shape
 have hlimlist:list.length≤1099511627776:=hlist.lim
 have H:=Hp.init hG
 refine calls_of_W (l:=[.slice astore store.length kstore,.slice alist list.length klist]) func88 Z ntmps88 Z (q2 (aG Z (q3 (W_seq (q2 (aG Z (q3 (W_block ?_))))))))
 refine W_lp (hf:=(Sub.cons (t:=0) Z (Sub.cons (t:=1) Z Sub.nil))) (J:=fun M w m=>∃(k:Nat) (G:PH),M=[(5,.int .i64 (k:Int))]∧PLe G0 G∧Hp w0 G0 [] w G []∧(k≤list.length∧(list.take k).all (Sp.fileOk store)=true)∧m=(list.length-k)) (h0:=⟨0,_,Z,PLe.refl _,H,?inv,Z⟩) (round:=?round)
 case inv=>exact⟨by omega,by simp⟩
 case round =>
  rintro _ _ _ ⟨k,_,rfl,hle1,H,hinv1,rfl⟩
  have hstore:=hstore.up hle1
  have hlist:=hlist.up hle1
  obtain⟨_,hall⟩:=hinv1
  refine W_seq (q2 (pe 2 Z (lN Z (pe 1 Z (q3 ?_)))))
  refine W_cond Z ?_ ?_
  ·intro hc2
   try simp only[nrm]at hc2
   refine W_skip (N_K (W_seq (W_block (q2 (pe 3 Z (iP k hlist Z3 Z ?_))))));intro _ _ _ _ hz3 hE3 hrow3
   obtain⟨_,_,_,rfl,_,hr3,_,_⟩:=ox hE3
   refine fA 2 Z (lP H hrow3 2 Z2 (xr H Z2 (l4Ids_c _ _ H.sub _ _ hstore _ _ hr3) ?_));intro _ H
   refine pe 1 Z (q3 ?_)
   refine W_cond Z ?_ ?_
   ·intro hc5
    try simp only[nrm]at hc5
    refine q2 (aG Z (q3 (W_ret (N_B_ret (N_K_ret (N_LP_ret (N_B_ret (N_K_ret (rt1 results88 Z ?_)))))))))
    exact H.rets (congrArg Value.bool (by rw[Sp.l11Files,Sp.all_false hz3 (by simp[Sp.fileOk, *])]))
   intro hc5'
   try simp only[nrm]at hc5'
   refine W_skip (N_B (N_K (W_region (mV Z (aD Z2 (aG Z (R_nil ?_)))))))
   refine N_lp (hJ:=⟨k+1,_,Z,hle1,H,?inv,Z⟩) (hm:=?hm)
   case hm=>omega
   case inv=>exact⟨by omega,Sp.all_take hall hz3 (by simp[Sp.fileOk, *])⟩
  intro hc2'
  try simp only[nrm]at hc2'
  refine W_exit (N_K_exit (N_LP_exit (N_B_same (N_K (q2 (aG Z (q3 (W_ret (rt1 results88 Z ?_)))))))))
  obtain rfl:k=list.length:=by omega
  rw[List.take_length]at hall
  exact H.rets (congrArg Value.bool (by rw[Sp.l11Files,hall]))
theorem l11Ids_c (w0:World)(G0:PH)(hG:PSub G0 w0)(vlist:Value)(list:List (BItem))(hlist:RdItems G0 vlist list)(path:Bs)(hpath:path.length≤16777216) :
  Calls Tryz.prog 199 #[vlist,str path] w0 (RetP w0 G0 (fun G v=>RdItems G v (Sp.l11Ids list path))):=by
 obtain⟨alist,klist,rfl⟩:=hlist.shape
 have hlimlist:list.length≤1099511627776:=hlist.lim
 have H:=Hp.init hG
 refine calls_of_W (l:=[.slice alist list.length klist,str path]) func199 Z ntmps199 Z (q2 (aG Z (q1 (pe 2 Z (xr H Z2 (l5At_c _ _ H.sub _ _ hlist _ hpath) ?_)))));intro _ H
 refine aG Z (q3 (W_seq (q2 (pe 3 Z ?_))))
 refine R_case (t:=11) Z ?_ ?_
 ·intro hc2
  try simp only[nrm]at hc2
  refine pe 6 Z (q3 (W_true Z (q2 (xbs H Z7 ?_))));intro _ _ _ H
  have H:=H.blkAcc 3 (k:=0) (n:=0) rfl rfl (by decide)
  refine aG Z (q3 (W_ret (N_K_ret (rt1 results199 Z ?_))))
  obtain⟨_,H,hsg504,hsr504⟩:=H.shut' (k:=0) rfl (Chk.nil (E:=itemE) (sz:=3) (G:=G0)) aN aN
  exact H.retP (by rw[show Sp.l11Ids list path=[] by simp[Sp.l11Ids,Sp.atI,Sp.at_none hc2]];exact hsr504)
 intro hc2'
 try simp only[nrm]at hc2'
 obtain⟨i,_,ia,ib,_,_,_⟩:=Sp.at_nat hc2'
 have ib:Sp.l5At list path=(i:Int):=ib
 have hl:Sp.atI list path=some i:=ia
 refine pe 2 Z (gR Z (iP i hlist Z3 ib ?_));intro _ _ _ _ hz4 hE4 hrow4
 obtain⟨_,_,_,rfl,_,hr4,_,_⟩:=ox hE4
 refine gR Z (fA 1 Z (gR Z (lP H hrow4 1 Z2 (pe 1 Z (q3 ?_)))))
 refine W_cond Z ?_ ?_
 ·intro hc5
  try simp only[nrm]at hc5
  refine q2 (xbs H Z7 ?_);intro _ _ _ H
  have H:=H.blkAcc 3 (k:=0) (n:=0) rfl rfl (by decide)
  refine aG Z (q3 (W_ret (N_K_ret (rt1 results199 Z ?_))))
  obtain⟨_,H,hsg507,hsr507⟩:=H.shut' (k:=0) rfl (Chk.nil (E:=itemE) (sz:=3) (G:=G0)) aN aN
  exact H.retP (by rw[show Sp.l11Ids list path=[] by simp[Sp.l11Ids,hl,hz4,hc5]];exact hsr507)
 intro hc5'
 try simp only[nrm]at hc5'
 refine W_skip (N_K (q2 (pe 3 Z (aD Z2 ?_))))
 have hcap8:=hlist.cap;try simp only[List.length_set,List.length_append,List.length_take,List.length_drop,List.length_replicate]at hcap8
 refine o_slice (i:=i) (j:=(i+1)) underlying24 sizeOf41 Z Z Z Z ib oM aN aN ?_
 have hsl8:=hlist.part (i:=i) (j:=(i+1)) oM oM
 have hsn1:=hsl8.len
 refine aG Z (q3 (W_ret (rt1 results199 Z ?_)))
 exact H.retP (by rw[show Sp.l11Ids list path=(list.drop i).take (i+1-i) by simp[Sp.l11Ids,hl,hz4,hc5',Sp.drop_at hz4]];exact hsl8)
theorem l12Count_c (w0:World)(G0:PH)(hG:PSub G0 w0)(cd:List Value)(d:BDisk)(hd:diskE G0 d cd)(id:Int)(hT:Sp.TreeValid d.tree=true)(hN:Sp.l12Snaps d=true) :
  Calls Tryz.prog 90 #[.agg cd.toArray,.int .i64 id] w0 (Rets w0 (.int .i64 (Sp.l12Count d id:Int))):=by
 obtain⟨_,_,_,_,_,_,_,_,_,rfl,hr1,hr1',hr1'',⟨_,_⟩,⟨_,_⟩,_,_⟩:=ox hd
 obtain⟨_,hst⟩:=Sp.snaps_at hN
 have htc:=Sp.l11Count_le hT (id:=id)
 have H:=Hp.init hG
 refine calls_of_W (l:=[_,.int .i64 id]) func90 Z ntmps90 Z (q2 (o_box H Z Z Z ?_));intro b2 _ _ H
 refine aG Z (q1 (fA 1 Z (lB 0 H Z3 (mV Z (xr H Z2 (l11Count_c _ _ H.sub _ _ hr1' _ hT) ?_)))));intro _ H
 refine aG Z (q3 (W_seq (q2 (aG Z (q3 (W_block ?_))))))
 obtain⟨ln4,hln4,H⟩:=H.name (k:=0) rfl
 refine W_lp (hf:=(Sub.cons (t:=1) Z (Sub.cons (t:=2) Z (Sub.cons (t:=4) Z Sub.nil)))) (J:=fun M w m=>∃(c k:Nat) (G:PH),M=[(5,.int .i64 (c:Int)),(6,.int .i64 (k:Int))]∧PLe G0 G∧Hp w0 G0 [] w G [blk b2 (cl ln4 27)]∧(k≤d.snaps.length∧c=Sp.l11Count d.tree id+Sp.cntS d.snaps id k)∧m=(d.snaps.length-k)) (h0:=⟨(Sp.l11Count d.tree id),0,_,Z,PLe.refl _,H,?inv,Z⟩) (round:=?round)
 case inv=>exact⟨by omega,by simp[Sp.cntS]⟩
 case round =>
  rintro _ _ _ ⟨c,k,_,rfl,hle5,H,hinv5,rfl⟩
  subst hln4
  have hr1'':=hr1''.up hle5
  obtain⟨hk,hc⟩:=hinv5;have hcu:=Sp.cntS_le hst k hk (id:=id)
  refine W_seq (q2 (mV Z (fA 2 Z (lB 0 H Z3 (lN Z (pe 1 Z (q3 ?_)))))))
  refine W_cond Z ?_ ?_
  ·intro hc6
   try simp only[nrm]at hc6
   refine W_skip (N_K (W_seq (W_block (W_region (mV Z (fA 2 Z (lB 0 H Z3 (mV Z (iP k hr1'' Z3 Z ?_)))))))));intro _ _ z7 _ hz7 hE7 hrow7
   obtain⟨_,_,_,rfl,_,hr7,_,_⟩:=ox hE7
   have hlz:=Sp.l11Count_le (hst _ (List.mem_of_getElem? hz7)) (id:=id)
   refine fA 1 Z (lP H hrow7 1 Z2 (mV Z ?_))
   refine xr H Z2 (l11Count_c _ _ H.sub _ _ hr7 _ (hst _ (List.mem_of_getElem? hz7))) ?_;intro _ H
   refine aD Z2 (aG Z (R_nil (N_B (N_K (W_region (mV Z (aD Z2 (aG Z (R_nil ?_)))))))))
   refine N_lp (hJ:=⟨c+Sp.l11Count z7.tree id,k+1,_,Z,hle5,H,?inv,Z⟩) (hm:=?hm)
   case hm=>omega
   case inv=>exact⟨by omega,by rw[hc,Sp.cntS_succ hz7];omega⟩
  intro hc6'
  try simp only[nrm]at hc6'
  refine W_exit (N_K_exit (N_LP_exit (N_B_same (N_K (q2 (pe 2 Z (q3 (W_ret (rt1 results90 Z ?_)))))))))
  obtain rfl:k=d.snaps.length:=by omega
  exact H.rets (congrArg (Value.int .i64) (by rw[hc];rfl))
theorem l12Snaps_c (w0:World)(G0:PH)(hG:PSub G0 w0)(cd:List Value)(d:BDisk)(hd:diskE G0 d cd) :
  Calls Tryz.prog 89 #[.agg cd.toArray] w0 (Rets w0 (.bool (Sp.l12Snaps d))):=by
 obtain⟨_,_,_,_,_,_,_,_,_,rfl,hr1,hr1',hr1'',⟨_,_⟩,⟨_,_⟩,_,_⟩:=ox hd
 have H:=Hp.init hG
 refine calls_of_W (l:=[_]) func89 Z ntmps89 Z (q2 (o_box H Z Z Z ?_));intro b2 _ _ H
 refine aG Z (q3 (W_seq (q2 (aG Z (q3 (W_block ?_))))))
 obtain⟨ln3,hln3,H⟩:=H.name (k:=0) rfl
 refine W_lp (hf:=(Sub.cons (t:=1) Z Sub.nil)) (J:=fun M w m=>∃(k:Nat) (G:PH),M=[(3,.int .i64 (k:Int))]∧PLe G0 G∧Hp w0 G0 [] w G [blk b2 (cl ln3 27)]∧(k≤d.snaps.length∧∀j,j<k→Sp.okS d j=true)∧m=(d.snaps.length-k)) (h0:=⟨0,_,Z,PLe.refl _,H,?inv,Z⟩) (round:=?round)
 case inv=>exact⟨by omega,fun j hj=>by omega⟩
 case round =>
  rintro _ _ _ ⟨k,_,rfl,hle4,H,hinv4,rfl⟩
  subst hln3
  have hr1:=hr1.up hle4
  have hr1'':=hr1''.up hle4
  obtain⟨_,hall⟩:=hinv4
  refine W_seq (q2 (mV Z (fA 2 Z (lB 0 H Z3 (lN Z (pe 1 Z (q3 ?_)))))))
  refine W_cond Z ?_ ?_
  ·intro hc5
   try simp only[nrm]at hc5
   refine W_skip (N_K (W_seq (W_block (q2 (fA 2 Z (lB 0 H Z3 (mV Z (iP k hr1'' Z3 Z ?_))))))));intro _ _ _ _ hz6 hE6 hrow6
   obtain⟨_,_,_,rfl,hi6,hr6,_,_⟩:=ox hE6
   refine o_loadagg_P H isAgg67 sizeOf67 Z Z hrow6 Z (xal H Z ?_);intro _ _ _ H
   refine xst 0 H Z8 ?_;intro _ H
   refine q1 (fA 0 Z (lB 0 H Z3 (xr H Z2 (l1Word_c _ _ hi6) ?_)));intro _ H
   refine pe 2 Z ?_
   refine R_case (t:=21) Z ?_ ?_
   ·intro hc10
    try simp only[nrm]at hc10
    refine pe 22 Z (q3 (W_true Z (q2 (aG Z (q3 (W_ret (N_B_ret (N_K_ret (N_LP_ret (N_B_ret (N_K_ret (rt1 results89 Z ?_))))))))))))
    exact H.rets (congrArg Value.bool (by rw[Sp.l12Snaps,Sp.not_all_range (k:=k) oM (by rw[Sp.okS_at hz6];simp[*]<;>(intros;omega))];rfl))
   intro hc10'
   try simp only[nrm]at hc10'
   refine gR Z (fA 2 Z (gR Z (lB 1 H Z3 (gR Z (fA 0 Z (gR Z (lB 0 H Z3 (gR Z (xr H Z2 (l12At_c _ _ H.sub _ _ hr1'' _ hi6) ?_)))))))));intro _ H
   refine pe 4 Z ?_
   refine R_case (t:=30) Z ?_ ?_
   ·intro hc12
    try simp only[nrm]at hc12
    refine pe 13 Z (q3 (W_true Z (q2 (aG Z (q3 (W_ret (N_B_ret (N_K_ret (N_LP_ret (N_B_ret (N_K_ret (rt1 results89 Z ?_))))))))))))
    exact H.rets (congrArg Value.bool (by rw[Sp.l12Snaps,Sp.not_all_range (k:=k) oM (by rw[Sp.okS_at hz6];simp[*]<;>(intros;omega))];rfl))
   intro hc12'
   try simp only[nrm]at hc12'
   refine gR Z (fA 1 Z (gR Z (lB 0 H Z3 (gR Z (xr H Z2 (TreeValid_c _ _ H.sub _ _ hr6) ?_)))));intro _ H
   refine pe 3 Z ?_
   refine R_case (t:=36) Z ?_ ?_
   ·intro hc14
    try simp only[nrm]at hc14
    refine pe 7 Z (q3 (W_true Z (q2 (aG Z (q3 (W_ret (N_B_ret (N_K_ret (N_LP_ret (N_B_ret (N_K_ret (rt1 results89 Z ?_))))))))))))
    exact H.rets (congrArg Value.bool (by rw[Sp.l12Snaps,Sp.not_all_range (k:=k) oM (by rw[Sp.okS_at hz6];simp[*]<;>(intros;omega))];rfl))
   intro hc14'
   try simp only[nrm]at hc14'
   refine gR Z (fA 0 Z (gR Z (lB 1 H Z3 (gR Z (fA 1 Z (gR Z (lB 0 H Z3 (gR Z (xr H Z2 (l11Files_c _ _ H.sub _ _ hr1 _ _ hr6) ?_)))))))));intro _ H
   refine pe 2 Z (q3 ?_)
   refine W_cond Z ?_ ?_
   ·intro hc16
    try simp only[nrm]at hc16
    refine q2 (aG Z (q3 (W_ret (N_B_ret (N_K_ret (N_LP_ret (N_B_ret (N_K_ret (rt1 results89 Z ?_)))))))))
    exact H.rets (congrArg Value.bool (by rw[Sp.l12Snaps,Sp.not_all_range (k:=k) oM (by rw[Sp.okS_at hz6];simp[*]<;>(intros;omega))];rfl))
   intro hc16'
   try simp only[nrm]at hc16'
   refine W_skip (N_B (N_K (W_region (mV Z (aD Z2 (aG Z (R_nil ?_)))))))
   have H:=H.dl 0
   refine N_lp (hJ:=⟨k+1,_,Z,hle4,H,?inv,Z⟩) (hm:=?hm)
   case hm=>omega
   case inv=>exact⟨by omega,Sp.upto_succ hall (by rw[Sp.okS_at hz6];simp[*])⟩
  intro hc5'
  try simp only[nrm]at hc5'
  refine W_exit (N_K_exit (N_LP_exit (N_B_same (N_K (q2 (fA 2 Z (lB 0 H Z3 (lN Z (pe 2 Z (q3 (W_ret (rt1 results89 Z ?_))))))))))))
  exact H.rets (congrArg Value.bool (by rw[Sp.l12Snaps,Sp.all_range (fun j hj=>hall j oM),Bool.true_and];rw[Bool.eq_iff_iff];simp;omega))
theorem DiskValid_c (w0:World)(G0:PH)(hG:PSub G0 w0)(cd:List Value)(d:BDisk)(hd:diskE G0 d cd) :
  Calls Tryz.prog 33 #[.agg cd.toArray] w0 (Rets w0 (.bool (Sp.DiskValid d))):=by
 obtain⟨_,_,_,_,_,_,_,_,_,rfl,hr1,hr1',hr1'',⟨_,_⟩,⟨_,_⟩,_,_⟩:=ox hd
 have H:=Hp.init hG
 refine calls_of_W (l:=[_]) func33 Z ntmps33 Z (q2 (o_box H Z Z Z ?_));intro b2 _ _ H
 refine aG Z (q3 (W_seq (q2 (fA 0 Z (lB 0 H Z3 (xr H Z2 (StoreValid_c _ _ H.sub _ _ hr1) ?_))))));intro _ H
 refine pe 2 Z ?_
 refine R_case (t:=8) Z ?_ ?_
 ·intro hc4
  try simp only[nrm]at hc4
  refine pe 18 Z (q3 (W_true Z (q2 (aG Z (q3 (W_ret (N_K_ret (rt1 results33 Z ?_))))))))
  exact H.rets (congrArg Value.bool (by simp[Sp.DiskValid,hc4]))
 intro hc4'
 try simp only[nrm]at hc4'
 refine gR Z (fA 1 Z (gR Z (lB 0 H Z3 (gR Z (xr H Z2 (TreeValid_c _ _ H.sub _ _ hr1') ?_)))));intro _ H
 refine pe 3 Z ?_
 refine R_case (t:=14) Z ?_ ?_
 ·intro hc6
  try simp only[nrm]at hc6
  refine pe 12 Z (q3 (W_true Z (q2 (aG Z (q3 (W_ret (N_K_ret (rt1 results33 Z ?_))))))))
  exact H.rets (congrArg Value.bool (by simp[Sp.DiskValid,hc6]))
 intro hc6'
 try simp only[nrm]at hc6'
 refine gR Z (fA 0 Z (gR Z (lB 0 H Z3 (gR Z (fA 1 Z (gR Z (lB 0 H Z3 (gR Z (xr H Z2 (l11Files_c _ _ H.sub _ _ hr1 _ _ hr1') ?_)))))))));intro _ H
 refine pe 3 Z ?_
 refine R_case (t:=22) Z ?_ ?_
 ·intro hc8
  try simp only[nrm]at hc8
  refine pe 4 Z (q3 (W_true Z (q2 (aG Z (q3 (W_ret (N_K_ret (rt1 results33 Z ?_))))))))
  exact H.rets (congrArg Value.bool (by simp[Sp.DiskValid,hc8]))
 intro hc8'
 try simp only[nrm]at hc8'
 refine gR Z (lA 0 3 H Z4 (gR Z (xr H Z2 (l12Snaps_c _ _ H.sub _ d ⟨_,_,_,_,_,_,_,_,_,Z,hr1,hr1',hr1''⟩) ?_)));intro _ H
 refine pe 2 Z (q3 ?_)
 refine W_cond Z ?_ ?_
 ·intro hc10
  try simp only[nrm]at hc10
  refine q2 (aG Z (q3 (W_ret (N_K_ret (rt1 results33 Z ?_)))))
  exact H.rets (congrArg Value.bool (by simp[Sp.DiskValid,hc10]))
 intro hc10'
 try simp only[nrm]at hc10'
 refine W_skip (N_K (W_seq (q2 (aG Z (q3 (W_block ?_))))))
 obtain⟨ln11,hln11,H⟩:=H.name (k:=0) rfl
 refine W_lp (hf:=(Sub.cons (t:=1) Z Sub.nil)) (J:=fun M w m=>∃(k:Nat) (G:PH),M=[(3,.int .i64 (k:Int))]∧PLe G0 G∧Hp w0 G0 [] w G [blk b2 (cl ln11 27)]∧(k≤d.store.length∧(d.store.take k).all (Sp.usesD d)=true)∧m=(d.store.length-k)) (h0:=⟨0,_,Z,PLe.refl _,H,?inv,Z⟩) (round:=?round)
 case inv=>exact⟨by omega,by simp⟩
 case round =>
  rintro _ _ _ ⟨k,G12,rfl,hle12,H,hinv12,rfl⟩
  subst hln11
  have hr1:=hr1.up hle12
  have hr1':=hr1'.up hle12
  have hr1'':=hr1''.up hle12
  obtain⟨_,hall⟩:=hinv12
  refine W_seq (q2 (mV Z (fA 0 Z (lB 0 H Z3 (lN Z (pe 1 Z (q3 ?_)))))))
  refine W_cond Z ?_ ?_
  ·intro hc13
   try simp only[nrm]at hc13
   refine W_skip (N_K (W_seq (W_block (W_seq (W_drawK [0] 15 H kR Z ?_)))));intro _ H;have hd14:=PLe.refl G12
   refine RD_t 0 Z kR Z (fun _ hK=>v_loadagg_B 0 hK isAgg27 sizeOf27 Z Z Z Z) (dF 1 0 Z2 (dB 2 0 Z4 (dE 3 Z2 ?_)))
   have hl15:=hr1.len
   obtain⟨_,_,z15,_,ha15,hz15,hq15,hE15,hrow15,_⟩:=hr1.at (i:=k) oM
   clear hq15
   obtain⟨_,_,_,rfl,_,_,_,_,_⟩:=ox hE15
   refine dI 4 3 k ha15 Z3 Z (dF 5 0 Z2 (dP 6 hrow15 0 Z3 (dF 8 0 Z2 (dB 9 0 Z4 (dE 10 Z2 ?_)))))
   have hl16:=hr1.len
   obtain⟨_,_,z16,_,ha16,hz16,hq16,hE16,hrow16,_⟩:=hr1.at (i:=k) oM
   clear hq16
   obtain⟨_,_,_,rfl,_,_,_,_,_⟩:=ox hE16
   have hzz16:z15=z16:=Option.some.inj (hz15.symm.trans hz16)
   subst hzz16
   refine dI 11 3 k ha16 Z3 Z (dF 12 2 Z2 (dP 13 hrow16 2 Z3 (r1 7 Z (xr H Z2 (l12Count_c _ _ H.sub _ d ⟨_,_,_,_,_,_,_,_,_,Z,hr1,hr1',hr1''⟩ _ hc6' hc10') ?_))));intro _ H
   refine q4 H hd14 (dE 14 Z2 (rz (N_K ?_)))
   refine W_cond Z ?_ ?_
   ·intro hc18
    try simp only[nrm]at hc18
    refine q2 (aG Z (q3 (W_ret (N_B_ret (N_K_ret (N_LP_ret (N_B_ret (N_K_ret (rt1 results33 Z ?_)))))))))
    exact H.rets (congrArg Value.bool (by rw[Sp.DiskValid,Sp.all_false hz15 (by simp[Sp.usesD, *])];rfl))
   intro hc18'
   try simp only[nrm]at hc18'
   refine W_skip (N_B (N_K (W_region (mV Z (aD Z2 (aG Z (R_nil ?_)))))))
   refine N_lp (hJ:=⟨k+1,_,Z,hle12,H,?inv,Z⟩) (hm:=?hm)
   case hm=>omega
   case inv=>exact⟨by omega,Sp.all_take hall hz15 (by simp[Sp.usesD, *])⟩
  intro hc13'
  try simp only[nrm]at hc13'
  refine W_exit (N_K_exit (N_LP_exit (N_B_same (N_K (q2 (aG Z (q3 (W_ret (rt1 results33 Z ?_)))))))))
  obtain rfl:k=d.store.length:=by omega
  rw[List.take_length]at hall
  exact H.rets (congrArg Value.bool (by simp[Sp.DiskValid,hall,hc4',hc6',hc8',hc10']))
theorem l5Copy_c (w0:World)(G0:PH)(hG:PSub G0 w0)(cx:List Value)(x:BItem)(hx:itemE G0 x cx) :
  Calls Tryz.prog 123 #[.agg cx.toArray] w0 (RetP w0 G0 (fun G v=>∃cs,v= .agg cs.toArray∧itemE G x cs)):=by
 obtain⟨_,_,_,rfl,hi1,hr1,_,_⟩:=ox hx
 have H:=Hp.init hG
 refine calls_of_W (l:=[_]) func123 Z ntmps123 Z (q2 (o_box H Z Z Z ?_));intro _ _ _ H
 refine xal H Z ?_;intro _ _ _ H
 refine q1 (xbs H Z7 ?_);intro _ _ _ H
 have H:=H.blkAcc 1 (k:=0) (n:=0) rfl rfl (by decide)
 refine fA 2 Z (lB 2 H Z3 ?_)
 refine o_append_P 0 H hr1 (by intro _ _ hz _ hu;obtain⟨rfl,_⟩:=hz;simp at hu;subst hu;rfl) (sz:=1) (bytes:=8) underlying37 typeInfo3 ⟨_,rfl,rfl⟩ rfl rfl rfl rfl rfl rfl rfl oM rfl ?_;intro _ _ css5 hcl5 hcs5 H
 have hchk5:Chk intE 1 G0 ([]++css5.flatten) _:=⟨css5,rfl,hcl5,hcs5⟩
 obtain⟨_,_,rfl⟩:=H.accShape (k:=0) rfl
 refine fA 2 Z (xst 2 H Z8 ?_);intro _ H
 refine q1 (lA 2 3 H Z4 (xst 1 H Z8 ?_));intro _ H
 refine q3 (W_ret (ret_gen (rs:=[.cell 2 41]) (vs:=[_]) results123 ⟨⟨_,Z,load_blk 1 H isAgg41 sizeOf41 Z Z Z⟩,trivial⟩ ?_))
 obtain⟨_,H,hsg509,hsr509⟩:=H.shut' (k:=0) rfl hchk5 aN aN
 exact H.retP ⟨_,Z,⟨_,_,_,Z,hi1,hsr509⟩⟩
theorem l5All_c (w0:World)(G0:PH)(hG:PSub G0 w0)(vlist:Value)(list:List (BItem))(hlist:RdItems G0 vlist list) :
  Calls Tryz.prog 94 #[vlist] w0 (RetO w0 G0 (AccOf itemE 3 41 list)):=by
 obtain⟨alist,klist,rfl⟩:=hlist.shape
 have hlimlist:list.length≤1099511627776:=hlist.lim
 have H:=Hp.init hG
 refine calls_of_W (l:=[.slice alist list.length klist]) func94 Z ntmps94 Z (q2 (aG Z (q1 (xbs H Z7 ?_))));intro _ _ _ H
 have H:=H.blkAcc 3 (k:=0) (n:=0) rfl rfl (by decide)
 refine aG Z (q3 (W_seq (q2 (aG Z (q3 (W_block ?_))))))
 refine W_lp (hf:=(Sub.cons (t:=0) Z (Sub.cons (t:=2) Z Sub.nil))) (J:=fun M w m=>∃(v:Value) (n:Nat) (cs:List Value) (xs:List (BItem)) (k:Nat) (G:PH),M=[(4,.int .i64 (k:Int)),(3,v)]∧PLe G0 G∧Hp w0 G0 [] w G [acc 41 3 v n cs]∧(Chk itemE 3 G cs xs∧n=xs.length∧k≤list.length∧xs.length=k∧xs=list.take k)∧m=(list.length-k)) (h0:=⟨_,_,_,[],0,_,Z,PLe.refl _,H,?inv,Z⟩) (round:=?round)
 case inv=>exact⟨(Chk.nil (E:=itemE) (sz:=3) (G:=G0)),by first|rfl|simp|(simp;omega)|omega,(by simp)⟩
 case round =>
  rintro _ _ _ ⟨v,n,cs,xs,k,_,rfl,hle2,H,hinv2,rfl⟩
  have hlist:=hlist.up hle2
  obtain⟨hchk2_0,_,hinv2⟩:=hinv2
  obtain⟨_,_,rfl⟩:=H.accShape (k:=0) rfl
  obtain⟨_,hxl,hxs⟩:=hinv2
  refine W_seq (q2 (pe 2 Z (lN Z (pe 1 Z (q3 ?_)))))
  refine W_cond Z ?_ ?_
  ·intro hc3
   try simp only[nrm]at hc3
   refine W_skip (N_K (W_seq (W_block (W_region (pe 3 Z (iP k hlist Z3 Z ?_))))));intro _ _ z4 _ hz4 hE4 hrow4
   obtain⟨_,_,_,rfl,hi4,hr4,_,_⟩:=ox hE4
   refine o_loadagg_P H isAgg41 sizeOf41 Z Z hrow4 Z (xc Z2 (l5Copy_c _ _ H.sub _ _ ⟨_,_,_,Z,hi4,hr4⟩) ?_)
   rintro _ _ ⟨_,_,g5,rfl,_,rfl,hr5_0⟩
   have H:=H.grow g5
   have hchk2_0:=hchk2_0.up g5.le
   have hle2:=hle2.trans g5.le
   obtain⟨_,_,_,rfl,hi6,hr6,_,_⟩:=ox hr5_0
   refine⟨_,Z,?_⟩
   refine xbs H Z7 ?_;intro _ _ _ H
   refine o_append1 0 H (sz:=3) (bytes:=48) underlying24 typeInfo41 ⟨_,Z,Z⟩ Z Z Z Z Z Z Z Z Z Z oM Z ?_;intro _ _ H
   have hchk8:=hchk2_0.snoc (show itemE _ z4 _ from⟨_,_,_,rfl,hi6,hr6⟩) rfl
   obtain⟨_,_,rfl⟩:=H.accShape (k:=0) rfl
   refine aG Z (R_nil (N_B (N_K (W_region (mV Z (aD Z2 (aG Z (R_nil ?_))))))))
   refine N_lp (hJ:=⟨_,_,_,(xs++[z4]),k+1,_,Z,hle2,H,?inv,Z⟩) (hm:=?hm)
   case hm=>omega
   case inv=>exact⟨hchk8,aN,(by exact⟨by omega,by simp[hxl],by rw[Sp.take_succ' hz4,hxs]⟩)⟩
  intro hc3'
  try simp only[nrm]at hc3'
  refine W_exit (N_K_exit (N_LP_exit (N_B_same (N_K (q2 (pe 2 Z (q3 (W_ret (rt1 results94 Z ?_)))))))))
  obtain rfl:k=list.length:=by omega
  rw[List.take_length]at hxs
  subst hxs
  exact H.retO (k:=0) rfl (AccOf.mk (by assumption) hchk2_0) (acc_nd _ _ _ _ _)
theorem l12Copy_c (w0:World)(G0:PH)(hG:PSub G0 w0)(cd:List Value)(d:BDisk)(hd:diskE G0 d cd) :
  Calls Tryz.prog 42 #[.agg cd.toArray] w0 (RetO w0 G0 (fun G val r=>∃u u1 u2,val= .agg #[u,u1,u2]∧AccOf snapE 2 67 d.snaps G u2 r∧RdH G u d.store∧RdItems G u1 d.tree)):=by
 obtain⟨_,_,_,_,_,_,_,_,_,rfl,hr1,hr1',hr1'',⟨_,_⟩,⟨_,_⟩,_,_⟩:=ox hd
 have H:=Hp.init hG
 refine calls_of_W (l:=[_]) func42 Z ntmps42 Z (q2 (o_box H Z Z Z ?_));intro b2 _ _ H
 refine xal H Z ?_;intro b3 _ _ H
 refine q3 ?_
 obtain⟨ljb3,hljb3,H⟩:=H.name (k:=0) rfl
 obtain⟨ljb2,hljb2,H⟩:=H.name (k:=1) rfl
 have hj4:=PLe.refl G0
 refine W_join (hf:=(Sub.cons (t:=1) Z (Sub.cons (t:=2) Z Sub.nil))) (J:=fun M w=>∃(jb:Nat) (ja jc:Option Addr) (jm jk jn jl:Nat) (ve:Value) (ce:List Value) (ne:Nat) (G:PH),M=[(3,.pointer (some ⟨jb,0,none⟩))]∧PLe G0 G∧Hp w0 G0 [] w G [acc 67 2 ve ne ce,blk jb (cl [.slice ja jm jk,.slice jc jn jl,ve] 27),blk b3 (cl ljb3 27),blk b2 (cl ljb2 27)]∧(RdH G (.slice ja jm jk) d.store∧RdItems G (.slice jc jn jl) d.tree∧Chk snapE 2 G ce ([]:List BSnap)∧ne=0)) (first:=?_) (second:=?_)
 ·skip
  subst hljb3
  subst hljb2
  refine W_drawK [0,1] 10 H kR Z ?_;intro _ H;have hd5:=PLe.refl G0
  refine dF 0 0 Z2 (dB 1 1 Z4 (dF 3 1 Z2 (dB 4 1 Z4 ?_)))
  refine RD_run [2,6,8] kR Z (RDs.cons Z ?_ (RDs.cons Z ?_ (RDs.cons Z ?_ RDs.nil)))
  ·skip
   refine xc Z2 (l3Copy_c _ _ H.sub _ _ hr1) ?_
   rintro _ _ ⟨_,_,_,g6,rfl,⟨_,rfl,hchk6⟩,hp6,hq6,hs6⟩
   have H:=H.growO g6 hp6 hq6 hs6;obtain⟨_,_,rfl⟩:=H.accShape (k:=0) rfl
   have hr1':=hr1'.up g6.le
   have hj4:=hj4.trans g6.le
   have hd5:=hd5.trans g6.le
   refine⟨_,Z,?_⟩
   refine q4 H hd5 ?_
   refine RD_run [5,6,8] kR Z (RDs.cons Z ?_ (RDs.cons Z ?_ (RDs.cons Z ?_ RDs.nil)))
   ·skip
    refine xc Z2 (l5All_c _ _ H.sub _ _ hr1') ?_
    rintro _ _ ⟨_,_,_,g7,rfl,⟨_,rfl,hchk7⟩,hp7,hq7,hs7⟩
    have H:=H.growO g7 hp7 hq7 hs7;obtain⟨_,_,rfl⟩:=H.accShape (k:=0) rfl
    have hchk6:=hchk6.up g7.le
    have hj4:=hj4.trans g7.le
    have hd5:=hd5.trans g7.le
    refine⟨_,Z,?_⟩
    refine q4 H hd5 ?_
    refine r2 6 8 Z2 ?_ ?_
    ·skip
     refine xbs H Z7 ?_;intro _ _ _ H
     have H:=H.blkAcc 2 (k:=0) (n:=0) rfl rfl (by decide)
     refine q4 H hd5 (RD_t 7 Z kR Z (fun _ hK=>v_build bf27 Z Z) (r1 8 Z (xal H Z ?_)));intro _ _ _ H
     refine q4 H hd5 (r1 9 Z (xst 0 H Z8 ?_));intro _ H
     refine R_nil (N_DKlast kR kR ?_)
     obtain⟨_,H,hsg512,hsr512⟩:=H.shut' (k:=3) rfl hchk6 aN aN
     have hchk7:=hchk7.up hsg512
     have hj4:=hj4.trans hsg512
     obtain⟨G513,H,hsg513,hsr513⟩:=H.shut' (k:=2) rfl hchk7 aN aN
     have hsr512:=hsr512.up hsg513
     have hj4:=hj4.trans hsg513
     have H:=H.tF 3
     have H:=H.tF 3
     have H:=H.tF 2
     have H:=H.tF 3
     exact N_J ⟨_,_,_,_,_,_,_,_,_,_,_,Z,hj4,H,⟨hsr512,hsr513,(Chk.nil (E:=snapE) (sz:=2) (G:=G513)),Z⟩⟩
    skip
    refine xal H Z ?_;intro _ _ _ H
    refine q4 H hd5 (r1 6 Z (xbs H Z7 ?_));intro _ _ _ H
    have H:=H.blkAcc 2 (k:=0) (n:=0) rfl rfl (by decide)
    refine q4 H hd5 (RD_t 7 Z kR Z (fun _ hK=>v_build bf27 Z Z) (r1 9 Z (xst 1 H Z8 ?_)));intro _ H
    refine R_nil (N_DKlast kR kR ?_)
    obtain⟨_,H,hsg517,hsr517⟩:=H.shut' (k:=3) rfl hchk6 aN aN
    have hchk7:=hchk7.up hsg517
    have hj4:=hj4.trans hsg517
    obtain⟨G518,H,hsg518,hsr518⟩:=H.shut' (k:=2) rfl hchk7 aN aN
    have hsr517:=hsr517.up hsg518
    have hj4:=hj4.trans hsg518
    have H:=H.tF 3
    have H:=H.tF 3
    have H:=H.tF 3
    have H:=H.tF 3
    exact N_J ⟨_,_,_,_,_,_,_,_,_,_,_,Z,hj4,H,⟨hsr517,hsr518,(Chk.nil (E:=snapE) (sz:=2) (G:=G518)),Z⟩⟩
   ·skip
    refine xbs H Z7 ?_;intro _ _ _ H
    have H:=H.blkAcc 2 (k:=0) (n:=0) rfl rfl (by decide)
    refine q4 H hd5 ?_
    refine r2 5 8 Z2 ?_ ?_
    ·skip
     refine xc Z2 (l5All_c _ _ H.sub _ _ hr1') ?_
     rintro _ _ ⟨_,_,_,g15,rfl,⟨_,rfl,hchk15⟩,hp15,hq15,hs15⟩
     have H:=H.growO g15 hp15 hq15 hs15;obtain⟨_,_,rfl⟩:=H.accShape (k:=0) rfl
     have hchk6:=hchk6.up g15.le
     have hj4:=hj4.trans g15.le
     have hd5:=hd5.trans g15.le
     refine⟨_,Z,?_⟩
     refine q4 H hd5 (RD_t 7 Z kR Z (fun _ hK=>v_build bf27 Z Z) (r1 8 Z (xal H Z ?_)));intro _ _ _ H
     refine q4 H hd5 (r1 9 Z (xst 0 H Z8 ?_));intro _ H
     refine R_nil (N_DKlast kR kR ?_)
     obtain⟨_,H,hsg523,hsr523⟩:=H.shut' (k:=3) rfl hchk6 aN aN
     have hchk15:=hchk15.up hsg523
     have hj4:=hj4.trans hsg523
     obtain⟨G524,H,hsg524,hsr524⟩:=H.shut' (k:=1) rfl hchk15 aN aN
     have hsr523:=hsr523.up hsg524
     have hj4:=hj4.trans hsg524
     have H:=H.tF 3
     have H:=H.tF 3
     have H:=H.tF 2
     have H:=H.tF 3
     exact N_J ⟨_,_,_,_,_,_,_,_,_,_,_,Z,hj4,H,⟨hsr523,hsr524,(Chk.nil (E:=snapE) (sz:=2) (G:=G524)),Z⟩⟩
    skip
    refine xal H Z ?_;intro _ _ _ H
    refine q4 H hd5 (r1 5 Z (xc Z2 (l5All_c _ _ H.sub _ _ hr1') ?_))
    rintro _ _ ⟨_,_,_,g19,rfl,⟨_,rfl,hchk19⟩,hp19,hq19,hs19⟩
    have H:=H.growO g19 hp19 hq19 hs19;obtain⟨_,_,rfl⟩:=H.accShape (k:=0) rfl
    have hchk6:=hchk6.up g19.le
    have hj4:=hj4.trans g19.le
    have hd5:=hd5.trans g19.le
    refine⟨_,Z,?_⟩
    refine q4 H hd5 (RD_t 7 Z kR Z (fun _ hK=>v_build bf27 Z Z) (r1 9 Z (xst 1 H Z8 ?_)));intro _ H
    refine R_nil (N_DKlast kR kR ?_)
    obtain⟨_,H,hsg528,hsr528⟩:=H.shut' (k:=3) rfl hchk6 aN aN
    have hchk19:=hchk19.up hsg528
    have hj4:=hj4.trans hsg528
    obtain⟨G529,H,hsg529,hsr529⟩:=H.shut' (k:=0) rfl hchk19 aN aN
    have hsr528:=hsr528.up hsg529
    have hj4:=hj4.trans hsg529
    have H:=H.tF 3
    have H:=H.tF 3
    have H:=H.tF 2
    have H:=H.tF 3
    exact N_J ⟨_,_,_,_,_,_,_,_,_,_,_,Z,hj4,H,⟨hsr528,hsr529,(Chk.nil (E:=snapE) (sz:=2) (G:=G529)),Z⟩⟩
   skip
   refine xal H Z ?_;intro _ _ _ H
   refine q4 H hd5 ?_
   refine r2 5 6 Z2 ?_ ?_
   ·skip
    refine xc Z2 (l5All_c _ _ H.sub _ _ hr1') ?_
    rintro _ _ ⟨_,_,_,g22,rfl,⟨_,rfl,hchk22⟩,hp22,hq22,hs22⟩
    have H:=H.growO g22 hp22 hq22 hs22;obtain⟨_,_,rfl⟩:=H.accShape (k:=0) rfl
    have hchk6:=hchk6.up g22.le
    have hj4:=hj4.trans g22.le
    have hd5:=hd5.trans g22.le
    refine⟨_,Z,?_⟩
    refine q4 H hd5 (r1 6 Z (xbs H Z7 ?_));intro _ _ _ H
    have H:=H.blkAcc 2 (k:=0) (n:=0) rfl rfl (by decide)
    refine q4 H hd5 (RD_t 7 Z kR Z (fun _ hK=>v_build bf27 Z Z) (r1 9 Z (xst 2 H Z8 ?_)));intro _ H
    refine R_nil (N_DKlast kR kR ?_)
    obtain⟨_,H,hsg534,hsr534⟩:=H.shut' (k:=3) rfl hchk6 aN aN
    have hchk22:=hchk22.up hsg534
    have hj4:=hj4.trans hsg534
    obtain⟨G535,H,hsg535,hsr535⟩:=H.shut' (k:=1) rfl hchk22 aN aN
    have hsr534:=hsr534.up hsg535
    have hj4:=hj4.trans hsg535
    have H:=H.tF 3
    have H:=H.tF 3
    have H:=H.tF 3
    have H:=H.tF 3
    exact N_J ⟨_,_,_,_,_,_,_,_,_,_,_,Z,hj4,H,⟨hsr534,hsr535,(Chk.nil (E:=snapE) (sz:=2) (G:=G535)),Z⟩⟩
   skip
   refine xbs H Z7 ?_;intro _ _ _ H
   have H:=H.blkAcc 2 (k:=0) (n:=0) rfl rfl (by decide)
   refine q4 H hd5 (r1 5 Z (xc Z2 (l5All_c _ _ H.sub _ _ hr1') ?_))
   rintro _ _ ⟨_,_,_,g26,rfl,⟨_,rfl,hchk26⟩,hp26,hq26,hs26⟩
   have H:=H.growO g26 hp26 hq26 hs26;obtain⟨_,_,rfl⟩:=H.accShape (k:=0) rfl
   have hchk6:=hchk6.up g26.le
   have hj4:=hj4.trans g26.le
   have hd5:=hd5.trans g26.le
   refine⟨_,Z,?_⟩
   refine q4 H hd5 (RD_t 7 Z kR Z (fun _ hK=>v_build bf27 Z Z) (r1 9 Z (xst 2 H Z8 ?_)));intro _ H
   refine R_nil (N_DKlast kR kR ?_)
   obtain⟨_,H,hsg539,hsr539⟩:=H.shut' (k:=3) rfl hchk6 aN aN
   have hchk26:=hchk26.up hsg539
   have hj4:=hj4.trans hsg539
   obtain⟨G540,H,hsg540,hsr540⟩:=H.shut' (k:=0) rfl hchk26 aN aN
   have hsr539:=hsr539.up hsg540
   have hj4:=hj4.trans hsg540
   have H:=H.tF 3
   have H:=H.tF 3
   have H:=H.tF 3
   have H:=H.tF 3
   exact N_J ⟨_,_,_,_,_,_,_,_,_,_,_,Z,hj4,H,⟨hsr539,hsr540,(Chk.nil (E:=snapE) (sz:=2) (G:=G540)),Z⟩⟩
  ·skip
   refine xbs H Z7 ?_;intro _ _ _ H
   have H:=H.blkAcc 2 (k:=0) (n:=0) rfl rfl (by decide)
   refine q4 H hd5 ?_
   refine r2 2 8 Z2 ?_ ?_
   ·skip
    refine xc Z2 (l3Copy_c _ _ H.sub _ _ hr1) ?_
    rintro _ _ ⟨_,_,_,g29,rfl,⟨_,rfl,hchk29⟩,hp29,hq29,hs29⟩
    have H:=H.growO g29 hp29 hq29 hs29;obtain⟨_,_,rfl⟩:=H.accShape (k:=0) rfl
    have hr1':=hr1'.up g29.le
    have hj4:=hj4.trans g29.le
    have hd5:=hd5.trans g29.le
    refine⟨_,Z,?_⟩
    refine q4 H hd5 ?_
    refine r2 5 8 Z2 ?_ ?_
    ·skip
     refine xc Z2 (l5All_c _ _ H.sub _ _ hr1') ?_
     rintro _ _ ⟨_,_,_,g30,rfl,⟨_,rfl,hchk30⟩,hp30,hq30,hs30⟩
     have H:=H.growO g30 hp30 hq30 hs30;obtain⟨_,_,rfl⟩:=H.accShape (k:=0) rfl
     have hchk29:=hchk29.up g30.le
     have hj4:=hj4.trans g30.le
     have hd5:=hd5.trans g30.le
     refine⟨_,Z,?_⟩
     refine q4 H hd5 (RD_t 7 Z kR Z (fun _ hK=>v_build bf27 Z Z) (r1 8 Z (xal H Z ?_)));intro _ _ _ H
     refine q4 H hd5 (r1 9 Z (xst 0 H Z8 ?_));intro _ H
     refine R_nil (N_DKlast kR kR ?_)
     obtain⟨_,H,hsg546,hsr546⟩:=H.shut' (k:=2) rfl hchk29 aN aN
     have hchk30:=hchk30.up hsg546
     have hj4:=hj4.trans hsg546
     obtain⟨G547,H,hsg547,hsr547⟩:=H.shut' (k:=1) rfl hchk30 aN aN
     have hsr546:=hsr546.up hsg547
     have hj4:=hj4.trans hsg547
     have H:=H.tF 3
     have H:=H.tF 3
     have H:=H.tF 2
     have H:=H.tF 3
     exact N_J ⟨_,_,_,_,_,_,_,_,_,_,_,Z,hj4,H,⟨hsr546,hsr547,(Chk.nil (E:=snapE) (sz:=2) (G:=G547)),Z⟩⟩
    skip
    refine xal H Z ?_;intro _ _ _ H
    refine q4 H hd5 (r1 5 Z (xc Z2 (l5All_c _ _ H.sub _ _ hr1') ?_))
    rintro _ _ ⟨_,_,_,g34,rfl,⟨_,rfl,hchk34⟩,hp34,hq34,hs34⟩
    have H:=H.growO g34 hp34 hq34 hs34;obtain⟨_,_,rfl⟩:=H.accShape (k:=0) rfl
    have hchk29:=hchk29.up g34.le
    have hj4:=hj4.trans g34.le
    have hd5:=hd5.trans g34.le
    refine⟨_,Z,?_⟩
    refine q4 H hd5 (RD_t 7 Z kR Z (fun _ hK=>v_build bf27 Z Z) (r1 9 Z (xst 1 H Z8 ?_)));intro _ H
    refine R_nil (N_DKlast kR kR ?_)
    obtain⟨_,H,hsg551,hsr551⟩:=H.shut' (k:=2) rfl hchk29 aN aN
    have hchk34:=hchk34.up hsg551
    have hj4:=hj4.trans hsg551
    obtain⟨G552,H,hsg552,hsr552⟩:=H.shut' (k:=0) rfl hchk34 aN aN
    have hsr551:=hsr551.up hsg552
    have hj4:=hj4.trans hsg552
    have H:=H.tF 3
    have H:=H.tF 3
    have H:=H.tF 2
    have H:=H.tF 3
    exact N_J ⟨_,_,_,_,_,_,_,_,_,_,_,Z,hj4,H,⟨hsr551,hsr552,(Chk.nil (E:=snapE) (sz:=2) (G:=G552)),Z⟩⟩
   skip
   refine xal H Z ?_;intro _ _ _ H
   refine q4 H hd5 (r1 2 Z (xc Z2 (l3Copy_c _ _ H.sub _ _ hr1) ?_))
   rintro _ _ ⟨_,_,_,g37,rfl,⟨_,rfl,hchk37⟩,hp37,hq37,hs37⟩
   have H:=H.growO g37 hp37 hq37 hs37;obtain⟨_,_,rfl⟩:=H.accShape (k:=0) rfl
   have hr1':=hr1'.up g37.le
   have hj4:=hj4.trans g37.le
   have hd5:=hd5.trans g37.le
   refine⟨_,Z,?_⟩
   refine q4 H hd5 (r1 5 Z (xc Z2 (l5All_c _ _ H.sub _ _ hr1') ?_))
   rintro _ _ ⟨_,_,_,g38,rfl,⟨_,rfl,hchk38⟩,hp38,hq38,hs38⟩
   have H:=H.growO g38 hp38 hq38 hs38;obtain⟨_,_,rfl⟩:=H.accShape (k:=0) rfl
   have hchk37:=hchk37.up g38.le
   have hj4:=hj4.trans g38.le
   have hd5:=hd5.trans g38.le
   refine⟨_,Z,?_⟩
   refine q4 H hd5 (RD_t 7 Z kR Z (fun _ hK=>v_build bf27 Z Z) (r1 9 Z (xst 2 H Z8 ?_)));intro _ H
   refine R_nil (N_DKlast kR kR ?_)
   obtain⟨_,H,hsg557,hsr557⟩:=H.shut' (k:=1) rfl hchk37 aN aN
   have hchk38:=hchk38.up hsg557
   have hj4:=hj4.trans hsg557
   obtain⟨G558,H,hsg558,hsr558⟩:=H.shut' (k:=0) rfl hchk38 aN aN
   have hsr557:=hsr557.up hsg558
   have hj4:=hj4.trans hsg558
   have H:=H.tF 3
   have H:=H.tF 3
   have H:=H.tF 2
   have H:=H.tF 3
   exact N_J ⟨_,_,_,_,_,_,_,_,_,_,_,Z,hj4,H,⟨hsr557,hsr558,(Chk.nil (E:=snapE) (sz:=2) (G:=G558)),Z⟩⟩
  skip
  refine xal H Z ?_;intro _ _ _ H
  refine q4 H hd5 ?_
  refine r2 2 6 Z2 ?_ ?_
  ·skip
   refine xc Z2 (l3Copy_c _ _ H.sub _ _ hr1) ?_
   rintro _ _ ⟨_,_,_,g41,rfl,⟨_,rfl,hchk41⟩,hp41,hq41,hs41⟩
   have H:=H.growO g41 hp41 hq41 hs41;obtain⟨_,_,rfl⟩:=H.accShape (k:=0) rfl
   have hr1':=hr1'.up g41.le
   have hj4:=hj4.trans g41.le
   have hd5:=hd5.trans g41.le
   refine⟨_,Z,?_⟩
   refine q4 H hd5 ?_
   refine r2 5 6 Z2 ?_ ?_
   ·skip
    refine xc Z2 (l5All_c _ _ H.sub _ _ hr1') ?_
    rintro _ _ ⟨_,_,_,g42,rfl,⟨_,rfl,hchk42⟩,hp42,hq42,hs42⟩
    have H:=H.growO g42 hp42 hq42 hs42;obtain⟨_,_,rfl⟩:=H.accShape (k:=0) rfl
    have hchk41:=hchk41.up g42.le
    have hj4:=hj4.trans g42.le
    have hd5:=hd5.trans g42.le
    refine⟨_,Z,?_⟩
    refine q4 H hd5 (r1 6 Z (xbs H Z7 ?_));intro _ _ _ H
    have H:=H.blkAcc 2 (k:=0) (n:=0) rfl rfl (by decide)
    refine q4 H hd5 (RD_t 7 Z kR Z (fun _ hK=>v_build bf27 Z Z) (r1 9 Z (xst 3 H Z8 ?_)));intro _ H
    refine R_nil (N_DKlast kR kR ?_)
    obtain⟨_,H,hsg564,hsr564⟩:=H.shut' (k:=2) rfl hchk41 aN aN
    have hchk42:=hchk42.up hsg564
    have hj4:=hj4.trans hsg564
    obtain⟨G565,H,hsg565,hsr565⟩:=H.shut' (k:=1) rfl hchk42 aN aN
    have hsr564:=hsr564.up hsg565
    have hj4:=hj4.trans hsg565
    have H:=H.tF 3
    have H:=H.tF 3
    have H:=H.tF 3
    have H:=H.tF 3
    exact N_J ⟨_,_,_,_,_,_,_,_,_,_,_,Z,hj4,H,⟨hsr564,hsr565,(Chk.nil (E:=snapE) (sz:=2) (G:=G565)),Z⟩⟩
   skip
   refine xbs H Z7 ?_;intro _ _ _ H
   have H:=H.blkAcc 2 (k:=0) (n:=0) rfl rfl (by decide)
   refine q4 H hd5 (r1 5 Z (xc Z2 (l5All_c _ _ H.sub _ _ hr1') ?_))
   rintro _ _ ⟨_,_,_,g46,rfl,⟨_,rfl,hchk46⟩,hp46,hq46,hs46⟩
   have H:=H.growO g46 hp46 hq46 hs46;obtain⟨_,_,rfl⟩:=H.accShape (k:=0) rfl
   have hchk41:=hchk41.up g46.le
   have hj4:=hj4.trans g46.le
   have hd5:=hd5.trans g46.le
   refine⟨_,Z,?_⟩
   refine q4 H hd5 (RD_t 7 Z kR Z (fun _ hK=>v_build bf27 Z Z) (r1 9 Z (xst 3 H Z8 ?_)));intro _ H
   refine R_nil (N_DKlast kR kR ?_)
   obtain⟨_,H,hsg569,hsr569⟩:=H.shut' (k:=2) rfl hchk41 aN aN
   have hchk46:=hchk46.up hsg569
   have hj4:=hj4.trans hsg569
   obtain⟨G570,H,hsg570,hsr570⟩:=H.shut' (k:=0) rfl hchk46 aN aN
   have hsr569:=hsr569.up hsg570
   have hj4:=hj4.trans hsg570
   have H:=H.tF 3
   have H:=H.tF 3
   have H:=H.tF 3
   have H:=H.tF 3
   exact N_J ⟨_,_,_,_,_,_,_,_,_,_,_,Z,hj4,H,⟨hsr569,hsr570,(Chk.nil (E:=snapE) (sz:=2) (G:=G570)),Z⟩⟩
  skip
  refine xbs H Z7 ?_;intro _ _ _ H
  have H:=H.blkAcc 2 (k:=0) (n:=0) rfl rfl (by decide)
  refine q4 H hd5 (r1 2 Z (xc Z2 (l3Copy_c _ _ H.sub _ _ hr1) ?_))
  rintro _ _ ⟨_,_,_,g49,rfl,⟨_,rfl,hchk49⟩,hp49,hq49,hs49⟩
  have H:=H.growO g49 hp49 hq49 hs49;obtain⟨_,_,rfl⟩:=H.accShape (k:=0) rfl
  have hr1':=hr1'.up g49.le
  have hj4:=hj4.trans g49.le
  have hd5:=hd5.trans g49.le
  refine⟨_,Z,?_⟩
  refine q4 H hd5 (r1 5 Z (xc Z2 (l5All_c _ _ H.sub _ _ hr1') ?_))
  rintro _ _ ⟨_,_,_,g50,rfl,⟨_,rfl,hchk50⟩,hp50,hq50,hs50⟩
  have H:=H.growO g50 hp50 hq50 hs50;obtain⟨_,_,rfl⟩:=H.accShape (k:=0) rfl
  have hchk49:=hchk49.up g50.le
  have hj4:=hj4.trans g50.le
  have hd5:=hd5.trans g50.le
  refine⟨_,Z,?_⟩
  refine q4 H hd5 (RD_t 7 Z kR Z (fun _ hK=>v_build bf27 Z Z) (r1 9 Z (xst 3 H Z8 ?_)));intro _ H
  refine R_nil (N_DKlast kR kR ?_)
  obtain⟨_,H,hsg575,hsr575⟩:=H.shut' (k:=1) rfl hchk49 aN aN
  have hchk50:=hchk50.up hsg575
  have hj4:=hj4.trans hsg575
  obtain⟨G576,H,hsg576,hsr576⟩:=H.shut' (k:=0) rfl hchk50 aN aN
  have hsr575:=hsr575.up hsg576
  have hj4:=hj4.trans hsg576
  have H:=H.tF 3
  have H:=H.tF 3
  have H:=H.tF 3
  have H:=H.tF 3
  exact N_J ⟨_,_,_,_,_,_,_,_,_,_,_,Z,hj4,H,⟨hsr575,hsr576,(Chk.nil (E:=snapE) (sz:=2) (G:=G576)),Z⟩⟩
 rintro _ _ ⟨jb,ja,jc,jm,jk,jn,jl,ve,ce,ne,G4,rfl,hle4,H,hinv4⟩
 subst hljb3
 subst hljb2
 have hr1'':=hr1''.up hle4
 obtain⟨hja,hjb,hjc,rfl⟩:=hinv4;obtain⟨_,_,rfl⟩:=H.accShape (k:=0) rfl
 refine W_seq (q2 (aG Z (q3 (W_block ?_))))
 obtain⟨ln52,hln52,H⟩:=H.nameAt (k:=1) (off:=2) rfl rfl
 obtain⟨ln53,hln53,H⟩:=H.name (k:=2) rfl
 obtain⟨ln54,hln54,H⟩:=H.name (k:=3) rfl
 refine W_lp (hf:=(Sub.cons (t:=1) Z (Sub.cons (t:=2) Z (Sub.cons (t:=3) Z Sub.nil)))) (J:=fun M w m=>∃(v:Value) (n:Nat) (cs:List Value) (xs:List (BSnap)) (k:Nat) (G:PH),M=[(4,.int .i64 (k:Int))]∧PLe G4 G∧Hp w0 G0 [] w G [acc 67 2 v n cs,blk jb (cl (setN ln52 2 v) 27),blk b3 (cl ln53 27),blk b2 (cl ln54 27)]∧(Chk snapE 2 G cs xs∧n=xs.length∧k≤d.snaps.length∧xs.length=k∧xs=d.snaps.take k)∧m=(d.snaps.length-k)) (h0:=⟨_,_,_,[],0,_,Z,PLe.refl _,H,?inv,Z⟩) (round:=?round)
 case inv=>exact⟨hjc,by first|rfl|simp|(simp;omega)|omega,(by simp)⟩
 case round =>
  rintro _ _ _ ⟨v,n,cs,xs,k,G55,rfl,hle55,H,hinv55,rfl⟩
  subst hln52
  subst hln53
  subst hln54
  have hr1'':=hr1''.up hle55
  have hja:=hja.up hle55
  have hjb:=hjb.up hle55
  obtain⟨hchk55_0,_,hinv55⟩:=hinv55
  obtain⟨_,_,rfl⟩:=H.accShape (k:=0) rfl
  obtain⟨_,hxl,hxs⟩:=hinv55
  refine W_seq (q2 (mV Z (fA 2 Z (lB 3 H Z3 (lN Z (pe 1 Z (q3 ?_)))))))
  refine W_cond Z ?_ ?_
  ·intro hc56
   try simp only[nrm]at hc56
   refine W_skip (N_K (W_seq (W_block (W_drawK [1,2,3] 20 H kR Z ?_))));intro _ H;have hd57:=PLe.refl G55
   refine dF 0 2 Z2 (dB 1 0 Z4 (dF 2 2 Z2 (dB 3 2 Z4 (dE 4 Z2 ?_))))
   have hl58:=hr1''.len
   obtain⟨_,_,z58,_,ha58,hz58,hq58,hE58,hrow58,_⟩:=hr1''.at (i:=k) oM
   clear hq58
   obtain⟨_,_,_,rfl,hi58,hr58,_,_⟩:=ox hE58
   refine dI 5 2 k ha58 Z3 Z (dF 6 0 Z2 (dP 7 hrow58 0 Z3 (dF 8 2 Z2 (dB 9 2 Z4 (dE 10 Z2 ?_)))))
   have hl59:=hr1''.len
   obtain⟨_,_,z59,_,ha59,hz59,hq59,hE59,hrow59,_⟩:=hr1''.at (i:=k) oM
   clear hq59
   obtain⟨_,_,_,rfl,_,hr59,_,_⟩:=ox hE59
   have hzz59:z58=z59:=Option.some.inj (hz58.symm.trans hz59)
   subst hzz59
   refine dI 11 2 k ha59 Z3 Z (dF 12 1 Z2 (dP 13 hrow59 1 Z3 (r1 14 Z (xc Z2 (l5All_c _ _ H.sub _ _ hr59) ?_))))
   rintro _ _ ⟨_,_,_,g60,rfl,⟨_,rfl,hchk60⟩,hp60,hq60,hs60⟩
   have H:=H.growO g60 hp60 hq60 hs60;obtain⟨_,_,rfl⟩:=H.accShape (k:=0) rfl
   have hchk55_0:=hchk55_0.up g60.le
   have hle55:=hle55.trans g60.le
   have hd57:=hd57.trans g60.le
   refine⟨_,Z,?_⟩
   refine q4 H hd57 (RD_t 15 Z kR Z (fun _ hK=>v_build bf67 Z Z) (r1 16 Z (xbs H Z7 ?_)));intro _ _ _ H
   refine q4 H hd57 (r1 17 Z (o_append1 1 H (sz:=2) (bytes:=40) underlying25 typeInfo67 ⟨_,Z,Z⟩ Z Z Z Z Z Z Z Z Z Z oM Z ?_));intro _ _ H
   obtain⟨_,H,hsg63,hsr63⟩:=H.shut' (k:=0) rfl hchk60 aN aN
   have hchk55_0:=hchk55_0.up hsg63
   have hle55:=hle55.trans hsg63
   have hd57:=hd57.trans hsg63
   have hchk62:=hchk55_0.snoc (show snapE _ ⟨z58.name,z58.tree⟩ _ from⟨_,_,_,rfl,hi58,hsr63⟩) rfl
   obtain⟨_,_,rfl⟩:=H.accShape (k:=0) rfl
   refine q4 H hd57 (dF 18 2 Z2 (r1 19 Z (xst 1 H Z8 ?_)));intro _ H
   refine R_nil (N_DKlast kR kR (N_B (N_K (W_region (mV Z (aD Z2 (aG Z (R_nil ?_))))))))
   refine N_lp (hJ:=⟨_,_,_,(xs++[⟨z58.name,z58.tree⟩]),k+1,_,Z,hle55,H,?inv,Z⟩) (hm:=?hm)
   case hm=>omega
   case inv=>exact⟨hchk62,aN,(by exact⟨by omega,by simp[hxl],by rw[Sp.take_succ' hz58,hxs]⟩)⟩
  intro hc56'
  try simp only[nrm]at hc56'
  refine W_exit (N_K_exit (N_LP_exit (N_B_same (N_K (q2 (lA 1 3 H Z4 (xst 2 H Z8 ?_)))))));intro _ H
  refine q3 (W_ret (ret_gen (rs:=[.cell 2 27]) (vs:=[_]) results42 ⟨⟨_,Z,load_blk 2 H isAgg27 sizeOf27 Z Z Z⟩,trivial⟩ ?_))
  obtain rfl:k=d.snaps.length:=by omega
  rw[List.take_length]at hxs
  subst hxs
  exact H.retO (k:=0) Z ⟨_,_,_,Z,AccOf.mk aN hchk55_0,hja,hjb⟩ (acc_nd _ _ _ _ _)
theorem StoreKeep_c (w0:World)(G0:PH)(hG:PSub G0 w0)(vlist:Value)(list:List (BHeld))(hlist:RdH G0 vlist list)(id:Int) :
  Calls Tryz.prog 153 #[vlist,.int .i64 id] w0 (RetO w0 G0 (fun G v r=>∃u,v= .tuple #[u,.bool (Sp.StoreKeep list id).isSome]∧AccOf heldE 3 139 ((Sp.StoreKeep list id).getD []) G u r)):=by
 obtain⟨alist,klist,rfl⟩:=hlist.shape
 have hlimlist:list.length≤1099511627776:=hlist.lim
 have H:=Hp.init hG
 refine calls_of_W (l:=[.slice alist list.length klist,.int .i64 id]) func153 Z ntmps153 Z (q2 (pe 2 Z (q1 (pe 2 Z (xr H Z2 (l3At_c _ _ H.sub _ _ hlist _) ?_)))));intro _ H
 refine aG Z (q3 (W_seq (q2 (mV Z (xr H Z2 (StoreValid_c _ _ H.sub _ _ hlist) ?_)))));intro _ H
 refine pe 2 Z ?_
 refine R_case (t:=14) Z ?_ ?_
 ·intro hc3
  try simp only[nrm]at hc3
  refine pe 11 Z (q3 (W_true Z (q2 (xbs H Z7 ?_))));intro _ _ _ H
  have H:=H.blkAcc 3 (k:=0) (n:=0) rfl rfl (by decide)
  refine pe 2 Z (q3 (W_ret (N_K_ret (rt2 results153 Z Z ?_))))
  have hN:Sp.StoreKeep list id=none:=by simp[Sp.StoreKeep,hc3]
  exact H.retO (k:=0) rfl (by rw[hN];exact⟨_,rfl,AccOf.mk aN (Chk.nil (E:=heldE) (sz:=3) (G:=G0))⟩) (acc_nd _ _ _ _ _)
 intro hc3'
 try simp only[nrm]at hc3'
 refine pe 4 Z ?_
 refine R_case (t:=18) Z ?_ ?_
 ·intro hc5
  try simp only[nrm]at hc5
  refine pe 7 Z (q3 (W_true Z (q2 (xbs H Z7 ?_))));intro _ _ _ H
  have H:=H.blkAcc 3 (k:=0) (n:=0) rfl rfl (by decide)
  refine pe 2 Z (q3 (W_ret (N_K_ret (rt2 results153 Z Z ?_))))
  have hN:Sp.StoreKeep list id=none:=by simp[Sp.StoreKeep,Sp.atH,Sp.at_none hc5]
  exact H.retO (k:=0) rfl (by rw[hN];exact⟨_,rfl,AccOf.mk aN (Chk.nil (E:=heldE) (sz:=3) (G:=G0))⟩) (acc_nd _ _ _ _ _)
 intro hc5'
 try simp only[nrm]at hc5'
 obtain⟨i,_,hi1,hi2,_,_,_⟩:=Sp.at_nat hc5'
 have hl:Sp.atH list id=some i:=hi1
 refine pe 2 Z (gR Z (iP i hlist Z3 hi2 ?_));intro _ _ z7 _ hz7 hE7 hrow7
 obtain⟨_,_,_,rfl,_,hr7,_,_,_⟩:=ox hE7
 refine gR Z (fA 2 Z (gR Z (lP H hrow7 2 Z2 (pe 2 Z (q3 ?_)))))
 refine W_cond Z ?_ ?_
 ·intro hc8
  try simp only[nrm]at hc8
  refine q2 (xbs H Z7 ?_);intro _ _ _ H
  have H:=H.blkAcc 3 (k:=0) (n:=0) rfl rfl (by decide)
  refine pe 2 Z (q3 (W_ret (N_K_ret (rt2 results153 Z Z ?_))))
  have hN:Sp.StoreKeep list id=none:=by simp[Sp.StoreKeep,hl,hz7,hc8]
  exact H.retO (k:=0) rfl (by rw[hN];exact⟨_,rfl,AccOf.mk aN (Chk.nil (E:=heldE) (sz:=3) (G:=G0))⟩) (acc_nd _ _ _ _ _)
 intro hc8'
 try simp only[nrm]at hc8'
 refine W_skip (N_K (q2 (mV Z (xc Z2 (l3Copy_c _ _ H.sub _ _ hlist) ?_))))
 rintro _ _ ⟨_,_,_,g10,rfl,⟨_,rfl,hchk10⟩,hp10,hq10,hs10⟩
 have H:=H.growO g10 hp10 hq10 hs10;obtain⟨_,_,rfl⟩:=H.accShape (k:=0) rfl
 refine⟨_,Z,?_⟩
 refine aG Z (q1 (pe 4 Z (o_index_A 0 H i Z hchk10 underlying23 sizeOf139 Z Z Z hi2 aN aN ?_)));intro _ z11 _ hba11 hz11 hE11 hg11;cases hba11
 obtain⟨_,_,_,rfl,_,_,_,_,_⟩:=ox hE11
 have hsv:=Sp.valid_at hc3' hz11
 refine fA 2 Z (o_load_A 0 H isAgg3 Z Z Z (hg11 2 _ Z) (aD Z2 (o_index_A 0 H i Z hchk10 underlying23 sizeOf139 Z Z Z hi2 aN aN ?_)));intro _ z13 _ hba13 hz13 hE13 _;cases hba13
 obtain⟨_,_,_,rfl,_,_,_,_,_⟩:=ox hE13
 have hzz13:z11=z13:=Option.some.inj (hz11.symm.trans hz13)
 subst hzz13
 refine fA 2 Z ?_
 have hcl14:=hchk10.length
 refine o_store_A 0 H sizeOf3 Z Z Z Z Z (by simp only[vc,List.length_cons,List.length_nil];omega) ?_;intro _ H
 have hchk14:=hchk10.put (x':=⟨z11.id,z11.bytes,z11.uses+1⟩) (off:=2) (vs:=[_]) hz13 (fun cs hl hE=>by obtain⟨_,_,_,rfl,h1,h2,_⟩:=hE;exact⟨_,_,_,rfl,h1,h2,⟨by first|omega|(dsimp only;omega),by first|omega|(dsimp only;omega)⟩⟩) (by simp only[vc,List.length_cons,List.length_nil];omega)
 refine q1 (pe 3 Z (q3 (W_ret (rt2 results153 Z Z ?_))))
 have hY:Sp.StoreKeep list id=some (list.set i ⟨z11.id,z11.bytes,z11.uses+1⟩):=by (have hzz:z7=z11:=Option.some.inj (hz7.symm.trans hz11));rw[hzz]at hc8';simp[Sp.StoreKeep,hc3',hl,hz11,hc8',Sp.bump_at hz11]
 exact H.retO (k:=0) rfl (by rw[hY];exact⟨_,rfl,AccOf.mk aN hchk14⟩) (acc_nd _ _ _ _ _)
theorem StoreDrop_c (w0:World)(G0:PH)(hG:PSub G0 w0)(vlist:Value)(list:List (BHeld))(hlist:RdH G0 vlist list)(id:Int) :
  Calls Tryz.prog 166 #[vlist,.int .i64 id] w0 (RetO w0 G0 (fun G v r=>∃u,v= .tuple #[u,.bool (Sp.StoreDrop list id).isSome]∧AccOf heldE 3 139 ((Sp.StoreDrop list id).getD []) G u r)):=by
 obtain⟨alist,klist,rfl⟩:=hlist.shape
 have hlimlist:list.length≤1099511627776:=hlist.lim
 have H:=Hp.init hG
 refine calls_of_W (l:=[.slice alist list.length klist,.int .i64 id]) func166 Z ntmps166 Z (q2 (pe 2 Z (q1 (pe 2 Z (xr H Z2 (l3At_c _ _ H.sub _ _ hlist _) ?_)))));intro _ H
 refine aG Z (q3 (W_seq (q2 (mV Z (xr H Z2 (StoreValid_c _ _ H.sub _ _ hlist) ?_)))));intro _ H
 refine pe 2 Z ?_
 refine R_case (t:=14) Z ?_ ?_
 ·intro hc3
  try simp only[nrm]at hc3
  refine pe 3 Z (q3 (W_true Z (q2 (xbs H Z7 ?_))));intro _ _ _ H
  have H:=H.blkAcc 3 (k:=0) (n:=0) rfl rfl (by decide)
  refine pe 2 Z (q3 (W_ret (N_K_ret (rt2 results166 Z Z ?_))))
  have hN:Sp.StoreDrop list id=none:=by simp[Sp.StoreDrop,hc3]
  exact H.retO (k:=0) rfl (by rw[hN];exact⟨_,rfl,AccOf.mk aN (Chk.nil (E:=heldE) (sz:=3) (G:=G0))⟩) (acc_nd _ _ _ _ _)
 intro hc3'
 try simp only[nrm]at hc3'
 refine pe 3 Z (q3 ?_)
 refine W_cond Z ?_ ?_
 ·intro hc5
  try simp only[nrm]at hc5
  refine q2 (xbs H Z7 ?_);intro _ _ _ H
  have H:=H.blkAcc 3 (k:=0) (n:=0) rfl rfl (by decide)
  refine pe 2 Z (q3 (W_ret (N_K_ret (rt2 results166 Z Z ?_))))
  have hN:Sp.StoreDrop list id=none:=by simp[Sp.StoreDrop,Sp.atH,Sp.at_none hc5]
  exact H.retO (k:=0) rfl (by rw[hN];exact⟨_,rfl,AccOf.mk aN (Chk.nil (E:=heldE) (sz:=3) (G:=G0))⟩) (acc_nd _ _ _ _ _)
 intro hc5'
 try simp only[nrm]at hc5'
 obtain⟨i,_,hi1,hi2,_,_,_⟩:=Sp.at_nat hc5'
 have hi2:Sp.l3At list id=(i:Int):=hi2
 have hl:Sp.atH list id=some i:=hi1
 refine W_skip (N_K (q2 (mV Z (xc Z2 (l3Copy_c _ _ H.sub _ _ hlist) ?_))))
 rintro _ _ ⟨G7,_,_,g7,rfl,⟨_,rfl,hchk7⟩,hp7,hq7,hs7⟩
 have H:=H.growO g7 hp7 hq7 hs7;obtain⟨_,_,rfl⟩:=H.accShape (k:=0) rfl
 refine⟨_,Z,?_⟩
 refine aG Z (q3 (W_seq (q2 (pe 2 Z (o_index_A 0 H i Z hchk7 underlying23 sizeOf139 Z Z Z hi2 aN aN ?_)))));intro _ z8 _ hba8 hz8 hE8 hg8;cases hba8
 obtain⟨_,_,_,rfl,_,_,_,_,_⟩:=ox hE8
 have hsv:=Sp.valid_at hc3' hz8
 refine fA 2 Z (o_load_A 0 H isAgg3 Z Z Z (hg8 2 _ Z) (pe 1 Z (q3 ?_)))
 refine W_cond Z ?_ ?_
 ·intro hc9
  try simp only[nrm]at hc9
  refine W_seq (W_drawK [] 10 H kR Z ?_);intro _ H;have hd10:=PLe.refl G7
  refine dE 0 Z2 (dE 1 Z2 ?_)
  have hac11:=H.accCap (k:=0) rfl
  refine RD_t 2 Z kR Z (fun _ hK=>v_slice_to (j:=i) underlying23 sizeOf139 Z Z hi2 oM) (dE 3 Z2 (dE 4 Z2 (RD_t 5 Z kR Z (fun _ hK=>v_add Z Z oO) ?_)))
  have hac13:=H.accCap (k:=0) rfl
  refine RD_t 6 Z kR Z (fun _ hK=>v_slice_from (i:=(i+1)) underlying23 sizeOf139 Z Z oM oM) (r1 7 Z ?_)
  refine o_append_del 0 H i Z hchk7 (by intro _ cs hz _ hu;obtain⟨_,_,_,rfl,_⟩:=hz;simp at hu;rcases hu with rfl|rfl|rfl<;>rfl) underlying23 typeInfo139 rfl rfl rfl rfl oM aN ?_;intro _ _ hb14 H hchk14;cases hb14
  refine q4 H hd10 (dE 8 Z2 (dE 9 Z2 (rz (N_K (W_ret (N_K_ret (rt2 results166 Z Z ?_)))))))
  have hY:Sp.StoreDrop list id=some (list.take i++list.drop (i+1)):=by simp[Sp.StoreDrop,hc3',hl,hz8,hc9]
  exact H.retO (k:=0) rfl (by rw[hY];exact⟨_,rfl,AccOf.mk aN hchk14⟩) (acc_nd _ _ _ _ _)
 intro hc9'
 try simp only[nrm]at hc9'
 refine W_skip (N_K (q2 (pe 4 Z (o_index_A 0 H i Z hchk7 underlying23 sizeOf139 Z Z Z hi2 aN aN ?_))));intro _ z15 _ hba15 hz15 hE15 hg15;cases hba15
 obtain⟨_,_,_,rfl,_,_,_,_,_⟩:=ox hE15
 have hzz15:z8=z15:=Option.some.inj (hz8.symm.trans hz15)
 subst hzz15
 refine fA 2 Z (o_load_A 0 H isAgg3 Z Z Z (hg15 2 _ Z) (o_sub Z Z Z oO (o_index_A 0 H i Z hchk7 underlying23 sizeOf139 Z Z Z hi2 aN aN ?_)));intro _ z17 _ hba17 hz17 hE17 _;cases hba17
 obtain⟨_,_,_,rfl,_,_,_,_,_⟩:=ox hE17
 have hzz17:z8=z17:=Option.some.inj (hz8.symm.trans hz17)
 subst hzz17
 refine fA 2 Z ?_
 have hcl18:=hchk7.length
 refine o_store_A 0 H sizeOf3 Z Z Z Z Z (by simp only[vc,List.length_cons,List.length_nil];omega) ?_;intro _ H
 have hchk18:=hchk7.put (x':=⟨z8.id,z8.bytes,z8.uses+(-1)⟩) (off:=2) (vs:=[_]) hz17 (fun cs hl hE=>by obtain⟨_,_,_,rfl,h1,h2,_⟩:=hE;exact⟨_,_,_,rfl,h1,h2,⟨by first|omega|(dsimp only;omega),by first|omega|(dsimp only;omega)⟩⟩) (by simp only[vc,List.length_cons,List.length_nil];omega)
 refine q1 (pe 3 Z (q3 (W_ret (rt2 results166 Z Z ?_))))
 have hY:Sp.StoreDrop list id=some (list.set i ⟨z8.id,z8.bytes,z8.uses+(-1)⟩):=by simp[Sp.StoreDrop,hc3',hl,hz8,hc9',Sp.bump_at hz8]
 exact H.retO (k:=0) rfl (by rw[hY];exact⟨_,rfl,AccOf.mk aN hchk18⟩) (acc_nd _ _ _ _ _)
theorem FileFree_c (w0:World)(G0:PH)(hG:PSub G0 w0)(vlist:Value)(list:List (BHeld))(hlist:RdH G0 vlist list)(vids:Value)(ids:List (Int))(hids:RdI G0 vids ids) :
  Calls Tryz.prog 110 #[vlist,vids] w0 (RetO w0 G0 (fun G v r=>∃u,v= .tuple #[u,.bool (Sp.FileFree list ids).isSome]∧AccOf heldE 3 139 ((Sp.FileFree list ids).getD []) G u r)):=by
 obtain⟨alist,klist,rfl⟩:=hlist.shape
 have hlimlist:list.length≤1099511627776:=hlist.lim
 obtain⟨aids,kids,rfl⟩:=hids.shape
 have hlimids:ids.length≤1099511627776:=hids.lim
 have H:=Hp.init hG
 refine calls_of_W (l:=[.slice alist list.length klist,.slice aids ids.length kids]) func110 Z ntmps110 Z (q2 (pe 2 Z (q3 (W_seq (q2 (mV Z (xr H Z2 (StoreValid_c _ _ H.sub _ _ hlist) ?_)))))));intro _ H
 refine pe 2 Z ?_
 refine R_case (t:=13) Z ?_ ?_
 ·intro hc2
  try simp only[nrm]at hc2
  refine pe 5 Z (q3 (W_true Z (q2 (xbs H Z7 ?_))));intro _ _ _ H
  have H:=H.blkAcc 3 (k:=0) (n:=0) rfl rfl (by decide)
  refine pe 2 Z (q3 (W_ret (N_K_ret (rt2 results110 Z Z ?_))))
  have hN:Sp.FileFree list ids=none:=by simp[Sp.FileFree,hc2]
  exact H.retO (k:=0) rfl (by rw[hN];exact⟨_,rfl,AccOf.mk aN (Chk.nil (E:=heldE) (sz:=3) (G:=G0))⟩) (acc_nd _ _ _ _ _)
 intro hc2'
 try simp only[nrm]at hc2'
 refine pe 2 Z (gR Z (xr H Z2 (l4Ids_c _ _ H.sub _ _ hlist _ _ hids) ?_));intro _ H
 refine pe 2 Z (q3 ?_)
 refine W_cond Z ?_ ?_
 ·intro hc5
  try simp only[nrm]at hc5
  refine q2 (xbs H Z7 ?_);intro _ _ _ H
  have H:=H.blkAcc 3 (k:=0) (n:=0) rfl rfl (by decide)
  refine pe 2 Z (q3 (W_ret (N_K_ret (rt2 results110 Z Z ?_))))
  have hN:Sp.FileFree list ids=none:=by simp[Sp.FileFree,hc5]
  exact H.retO (k:=0) rfl (by rw[hN];exact⟨_,rfl,AccOf.mk aN (Chk.nil (E:=heldE) (sz:=3) (G:=G0))⟩) (acc_nd _ _ _ _ _)
 intro hc5'
 try simp only[nrm]at hc5'
 refine W_skip (N_K (q2 (mV Z (xc Z2 (l3Copy_c _ _ H.sub _ _ hlist) ?_))))
 rintro _ _ ⟨G7,_,_,g7,rfl,⟨_,rfl,hchk7⟩,hp7,hq7,hs7⟩
 have H:=H.growO g7 hp7 hq7 hs7;obtain⟨_,_,rfl⟩:=H.accShape (k:=0) rfl
 have hids:=hids.up g7.le
 refine⟨_,Z,?_⟩
 refine aG Z (q3 (W_seq (q2 (aG Z (q3 (W_block ?_))))))
 refine W_lp (hf:=(Sub.cons (t:=1) Z Sub.nil)) (J:=fun M w m=>∃(v:Value) (n:Nat) (cs:List Value) (xs:List (BHeld)) (k:Nat) (G:PH),M=[(7,.int .i64 (k:Int)),(6,v)]∧PLe G7 G∧Hp w0 G0 [] w G [acc 139 3 v n cs]∧(Chk heldE 3 G cs xs∧n=xs.length∧k≤ids.length∧xs.length≤1000∧Sp.foldB Sp.StoreDrop (ids.take k) (some list)=some xs)∧m=(ids.length-k)) (h0:=⟨_,_,_,list,0,_,Z,PLe.refl _,H,?inv,Z⟩) (round:=?round)
 case inv=>exact⟨hchk7,by first|rfl|simp|(simp;omega)|omega,(by exact⟨by omega,by have:=Sp.valid_len hc2';omega,by simp[Sp.foldB]⟩)⟩
 case round =>
  rintro _ _ _ ⟨v,n,cs,xs,k,_,rfl,hle8,H,hinv8,rfl⟩
  have hids:=hids.up hle8
  obtain⟨hchk8_0,_,hinv8⟩:=hinv8
  obtain⟨_,_,rfl⟩:=H.accShape (k:=0) rfl
  obtain⟨_,_,hf⟩:=hinv8
  refine W_seq (q2 (pe 2 Z (lN Z (pe 1 Z (q3 ?_)))))
  refine W_cond Z ?_ ?_
  ·intro hc9
   try simp only[nrm]at hc9
   refine W_skip (N_K (W_seq (W_block (q2 (pe 3 Z (iP k hids Z3 Z ?_))))));intro _ _ z10 _ hz10 hE10 hrow10
   obtain⟨rfl,_⟩:=hE10
   refine lP H hrow10 0 Z2 ?_
   obtain⟨_,H,hsg12,hsr12⟩:=H.shut' (k:=0) rfl hchk8_0 aN aN
   have hle8:=hle8.trans hsg12
   refine xc Z2 (StoreDrop_c _ _ H.sub _ _ hsr12 _) ?_
   rintro _ _ ⟨G11,_,_,g11,rfl,⟨_,rfl,⟨_,rfl,hchk11⟩⟩,hp11,hq11,hs11⟩
   have H:=H.growO g11 hp11 hq11 hs11;obtain⟨_,_,rfl⟩:=H.accShape (k:=0) rfl
   have hle8:=hle8.trans g11.le
   refine⟨_,Z,?_⟩
   refine pe 5 Z (q3 (W_seq (q2 (pe 2 Z (q3 ?_)))))
   refine W_cond Z ?_ ?_
   ·intro hc13
    try simp only[nrm]at hc13
    refine q2 (xbs H Z7 ?_);intro _ _ _ H
    have H:=H.blkAcc 3 (k:=0) (n:=0) rfl rfl (by decide)
    refine pe 2 Z (q3 (W_ret (N_K_ret (N_B_ret (N_K_ret (N_LP_ret (N_B_ret (N_K_ret (rt2 results110 Z Z ?_)))))))))
    have hN:Sp.FileFree list ids=none:=by (have hno:Sp.StoreDrop xs z10=none:=by simpa using hc13);simp only[Sp.FileFree,hc2',hc5',Bool.and_self,if_true];exact Sp.foldB_stop hf hz10 hno
    exact H.retO (k:=0) rfl (by rw[hN];exact⟨_,rfl,AccOf.mk aN (Chk.nil (E:=heldE) (sz:=3) (G:=G11))⟩) (acc_nd _ _ _ _ _)
   intro hc13'
   try simp only[nrm]at hc13'
   obtain⟨p,hsp⟩:=Option.isSome_iff_exists.1 hc13'
   rw[hsp]at H hchk11 ⊢
   dsimp only[Option.map,Option.getD]at H hchk11
   refine W_skip (N_K (W_region (pe 2 Z (R_nil (N_B (N_K (W_region (mV Z (aD Z2 (aG Z (R_nil ?_)))))))))))
   refine N_lp (hJ:=⟨_,_,_,p,k+1,_,Z,hle8,H,?inv,Z⟩) (hm:=?hm)
   case hm=>omega
   case inv=>exact⟨hchk11,aN,(by exact⟨by omega,by have:=Sp.drop_len hsp;omega,Sp.foldB_succ hf hz10 hsp⟩)⟩
  intro hc9'
  try simp only[nrm]at hc9'
  refine W_exit (N_K_exit (N_LP_exit (N_B_same (N_K (q2 (pe 3 Z (q3 (W_ret (rt2 results110 Z Z ?_)))))))))
  have hY:Sp.FileFree list ids=some xs:=by simp only[Sp.FileFree,hc2',hc5',Bool.and_self,if_true];exact Sp.foldB_all hf oM
  exact H.retO (k:=0) rfl (by rw[hY];exact⟨_,rfl,AccOf.mk aN hchk8_0⟩) (acc_nd _ _ _ _ _)
theorem TreeDrop_c (w0:World)(G0:PH)(hG:PSub G0 w0)(vlist:Value)(list:List (BItem))(hlist:RdItems G0 vlist list)(path:Bs)(hpath:path.length≤16777216) :
  Calls Tryz.prog 109 #[vlist,str path] w0 (RetP w0 G0 (fun G v=>∃u,v= .tuple #[u,.bool (Sp.TreeDrop list path).isSome]∧RdItems G u ((Sp.TreeDrop list path).getD []))):=by
 obtain⟨alist,klist,rfl⟩:=hlist.shape
 have hlimlist:list.length≤1099511627776:=hlist.lim
 have H:=Hp.init hG
 refine calls_of_W (l:=[.slice alist list.length klist,str path]) func109 Z ntmps109 Z (q2 (pe 2 Z (q1 (pe 2 Z (xr H Z2 (l5At_c _ _ H.sub _ _ hlist _ hpath) ?_)))));intro _ H
 refine aG Z (q3 (W_seq (q2 (mV Z (xr H Z2 (TreeValid_c _ _ H.sub _ _ hlist) ?_)))));intro _ H
 refine pe 2 Z ?_
 refine R_case (t:=14) Z ?_ ?_
 ·intro hc3
  try simp only[nrm]at hc3
  refine pe 3 Z (q3 (W_true Z (q2 (xbs H Z7 ?_))));intro _ _ _ H
  have H:=H.blkAcc 3 (k:=0) (n:=0) rfl rfl (by decide)
  refine pe 2 Z (q3 (W_ret (N_K_ret (rt2 results109 Z Z ?_))))
  obtain⟨_,H,hsg506,hsr506⟩:=H.shut' (k:=0) rfl (Chk.nil (E:=itemE) (sz:=3) (G:=G0)) aN aN
  have hY:Sp.TreeDrop list path=none:=by simp[Sp.TreeDrop,hc3]
  exact H.retP (by rw[hY];exact⟨_,rfl,hsr506⟩)
 intro hc3'
 try simp only[nrm]at hc3'
 refine pe 3 Z (q3 ?_)
 refine W_cond Z ?_ ?_
 ·intro hc5
  try simp only[nrm]at hc5
  refine q2 (xbs H Z7 ?_);intro _ _ _ H
  have H:=H.blkAcc 3 (k:=0) (n:=0) rfl rfl (by decide)
  refine pe 2 Z (q3 (W_ret (N_K_ret (rt2 results109 Z Z ?_))))
  obtain⟨_,H,hsg509,hsr509⟩:=H.shut' (k:=0) rfl (Chk.nil (E:=itemE) (sz:=3) (G:=G0)) aN aN
  have hY:Sp.TreeDrop list path=none:=by simp[Sp.TreeDrop,Sp.atI,Sp.at_none hc5]
  exact H.retP (by rw[hY];exact⟨_,rfl,hsr509⟩)
 intro hc5'
 try simp only[nrm]at hc5'
 obtain⟨i,_,hi1,hi2,_,_,_⟩:=Sp.at_nat hc5'
 have hi2:Sp.l5At list path=(i:Int):=hi2
 have hl:Sp.atI list path=some i:=hi1
 have htl:=Sp.tree_len hc3'
 refine W_skip (N_K (q2 (mV Z (xc Z2 (l5All_c _ _ H.sub _ _ hlist) ?_))))
 rintro _ _ ⟨G7,_,_,g7,rfl,⟨_,rfl,hchk7⟩,hp7,hq7,hs7⟩
 have H:=H.growO g7 hp7 hq7 hs7;obtain⟨_,_,rfl⟩:=H.accShape (k:=0) rfl
 refine⟨_,Z,?_⟩
 refine aG Z (q3 (W_seq (W_drawK [] 9 H kR Z ?_)));intro _ H;have hd8:=PLe.refl G7
 refine dE 0 Z2 (dE 1 Z2 ?_)
 have hac9:=H.accCap (k:=0) rfl
 refine RD_t 2 Z kR Z (fun _ hK=>v_slice_to (j:=i) underlying24 sizeOf41 Z Z hi2 oM) (dE 3 Z2 (dE 4 Z2 (RD_t 5 Z kR Z (fun _ hK=>v_add Z Z oO) ?_)))
 have hac11:=H.accCap (k:=0) rfl
 refine RD_t 6 Z kR Z (fun _ hK=>v_slice_from (i:=(i+1)) underlying24 sizeOf41 Z Z oM oM) (r1 7 Z ?_)
 refine o_append_del 0 H i Z hchk7 (by intro _ _ hz _ hu;obtain⟨_,_,_,rfl,_⟩:=hz;simp at hu;rcases hu with rfl|rfl|rfl<;>rfl) underlying24 typeInfo41 rfl rfl rfl rfl oM aN ?_;intro _ _ hb12 H hchk12;cases hb12
 refine q4 H hd8 (dE 8 Z2 (rz (N_K (W_seq (q2 (mV Z (xr H Z2 (TreeValid_c _ _ (H.lendSubL [0]) _ _ (H.lendRdL (k:=0) (ks:=[0]) Z Z hchk12 aN aN)) ?_)))))));intro _ H
 refine pe 1 Z (q3 ?_)
 refine W_cond Z ?_ ?_
 ·intro hc14
  try simp only[nrm]at hc14
  refine q2 (xbs H Z7 ?_);intro _ _ _ H
  have H:=H.blkAcc 3 (k:=0) (n:=0) rfl rfl (by decide)
  refine pe 2 Z (q3 (W_ret (N_K_ret (rt2 results109 Z Z ?_))))
  obtain⟨_,H,hsg519,hsr519⟩:=H.shut' (k:=0) rfl (Chk.nil (E:=itemE) (sz:=3) (G:=G7)) aN aN
  have hY:Sp.TreeDrop list path=none:=by simp[Sp.TreeDrop,hl,hc14]
  exact H.retP (by rw[hY];exact⟨_,rfl,hsr519⟩)
 intro hc14'
 try simp only[nrm]at hc14'
 refine W_skip (N_K (q2 (pe 3 Z (q3 (W_ret (rt2 results109 Z Z ?_))))))
 obtain⟨_,H,hsg520,hsr520⟩:=H.shut' (k:=0) rfl hchk12 aN aN
 have hY:Sp.TreeDrop list path=some (list.take i++list.drop (i+1)):=by simp[Sp.TreeDrop,hl,hc3',hc14']
 exact H.retP (by rw[hY];exact⟨_,rfl,hsr520⟩)
end Go.Proofs.Tst
