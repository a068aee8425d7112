/- Part 7 of the proof: contracts of functions of the program. Conditions: none. -/
import Derived.Test.YtghodmnnhhhjaaaGreatDoorProg
import Derived.Test.YtghodmnnhhhjaaaGreatDoorG02
import Derived.Test.YtghodmnnhhhjaaaGreatDoorG03
import Derived.Test.YtghodmnnhhhjaaaGreatDoorG04
import Derived.Test.YtghodmnnhhhjaaaGreatDoorG06
import Derived.Test.YtghodmnnhhhjaaaGreatDoorG05
set_option linter.all false
set_option maxRecDepth 100000
set_option maxHeartbeats 8000000
namespace Go.Proofs.Tst
open Go Fw Tryz
theorem i_StreamRun_c (w0:World)(G0:PH)(hG:PSub G0 w0)(cd:List Value)(d:BDisk)(hd:diskE G0 d cd)(vlist:Value)(list:List (BPart))(hlist:RdPart G0 vlist list) :
  Calls Tryz.prog 10 #[.agg cd.toArray,vlist] w0 (RetN w0 G0 (fun v Bs=>∃(v1 v2 v3:Value) (F1 F2 F3:Fr),v= .tuple #[.agg #[v1,v2,v3],.bool (Sp.StreamRun d list).isSome]∧Bs=[frag F1,frag F2,frag F3]∧OHs F1 v1 ((Sp.StreamRun d list).getD ⟨[],[],[]⟩).store∧OIs F2 v2 ((Sp.StreamRun d list).getD ⟨[],[],[]⟩).tree∧OSn F3 v3 ((Sp.StreamRun d list).getD ⟨[],[],[]⟩).snaps)):=by
 obtain⟨_,_,_,_,_,_,_,_,_,rfl,hr1,hr1',hr1'',⟨_,_⟩,⟨_,_⟩,_,_⟩:=ox hd
 obtain⟨alist,klist,rfl⟩:=hlist.shape
 have hlimlist:list.length≤1099511627776:=hlist.lim
 have H:=Hp.init hG
 refine calls_of_W (l:=[_,.slice alist list.length klist]) func10 Z ntmps10 Z (q2 (o_box H Z Z Z ?_));intro b2 _ _ H
 refine xal H Z ?_;intro b3 _ _ H
 refine aG Z (q1 (lA 1 3 H Z4 (xc Z2 (i_newDisk_c _ _ H.sub _ d ⟨_,_,_,_,_,_,_,_,_,Z,hr1,hr1',hr1''⟩ H.lent0) ?_)))
 rintro _ _ ⟨G4,_,_,rfl,H4',⟨rfl,rfl,hnd4⟩|⟨db4,mb4,es4,ck4,xs4,T4,F4,_,sn4,c4,FS4,rfl,rfl,hm4,hS4,hN4,hT4,hchk4,hNs4,hSn4,hdv4⟩⟩
 ·skip
  have H:=H.borrow0 H4'
  refine⟨_,Z,?_⟩
  refine pe 5 Z (q3 (W_seq (q2 (pe 2 Z (q3 (W_true Z (q2 (o_build bf27 Z Z Z (xst 0 H Z8 ?_)))))))));intro _ H
  refine aG Z (q3 (W_ret (N_K_ret (ret_gen (rs:=[.cell 4 27,.tmp 5]) (vs:=[_,_]) results10 ⟨⟨_,Z,load_blk 0 H isAgg27 sizeOf27 Z Z Z⟩,Z,trivial⟩ ?_))))
  have H:=H.dl 0
  have H:=H.dl 0
  have hno:Sp.StreamRun d list=none:=Sp.run_inv hnd4
  have H:=(((H.addF).addF).addF).forget hG (by simp)
  exact⟨_,_,rfl,H,.slice none 0 0,.slice none 0 0,.slice none 0 0,[],[],[],(by rw[hno];rfl),rfl,(by rw[hno];exact oh_nil),(by rw[hno];exact oi_nil),(by rw[hno];exact os_nil)⟩
 skip
 have hlist:=hlist.up H4'.le
 have H:=H.borrow0 H4'
 obtain⟨avAd,cvAd,rfl⟩:=H.accShape (k:=3) rfl
 refine⟨_,Z,?_⟩
 refine pe 5 Z (q3 (W_seq (q2 (pe 2 Z (q3 (W_false Z (W_skip (N_K (W_seq (q2 (mV Z (lN Z (mV Z (q3 (W_block ?_)))))))))))))))
 obtain⟨ln6,hln6,H⟩:=H.name (k:=0) rfl
 obtain⟨ln7,hln7,H⟩:=H.name (k:=5) rfl
 obtain⟨ln8,hln8,H⟩:=H.name (k:=6) rfl
 refine W_lp (hf:=(Sub.cons (t:=1) Z (Sub.cons (t:=4) Z (Sub.cons (t:=6) Z (Sub.cons (t:=19) Z (Sub.cons (t:=20) Z Sub.nil)))))) (J:=fun M w m=>∃(k:Nat) (G:PH),M=[(21,.int .i64 (k:Int))]∧PLe G4 G∧Hp w0 G0 [] w G [blk db4 (cl ln6 161),blk mb4 (.map es4 ck4),frag F4,acc 164 2 (.slice avAd sn4.length cvAd) sn4.length c4,frag FS4,blk b3 (cl ln7 27),blk b2 (cl ln8 27)]∧(k≤list.length∧(list.take k).all Sp.partOk=true)∧m=(list.length-k)) (h0:=⟨0,_,Z,PLe.refl _,H,?inv,Z⟩) (round:=?round)
 case inv=>exact⟨by omega,by simp⟩
 case round =>
  rintro _ _ _ ⟨k,_,rfl,hle9,H,hinv9,rfl⟩
  subst hln6
  subst hln7
  subst hln8
  have hlist:=hlist.up hle9
  have hS4:=hS4.up hle9
  have hN4:=hN4.up hle9
  have hchk4:=hchk4.up hle9
  have hNs4:=hNs4.up hle9
  obtain⟨hk,hall⟩:=hinv9
  refine q2 (pe 1 Z (q3 (W_seq ?_)))
  refine W_cond Z ?_ ?_
  ·intro hc10
   try simp only[nrm]at hc10
   refine W_skip (N_K (W_seq (W_block (q2 (iP k hlist Z3 Z ?_)))));intro _ _ _ _ hz11 hE11 hrow11
   obtain⟨_,_,_,rfl,_,hi11,hr11⟩:=hE11;have hy_hi11:_≤16777216:=hi11;have hn_hr11:=hr11.len;have hx_hr11:_≤1099511627776:=hr11.lim
   refine o_loadagg_P H isAgg39 sizeOf39 Z Z hrow11 Z (xal H Z ?_);intro _ _ _ H
   refine xst 0 H Z8 ?_;intro _ H
   refine q1 (lA 0 4 H Z4 ?_)
   refine xr H Z2 (i_spart_c _ _ H.sub _ _ ⟨_,_,_,Z,⟨by first|omega|(dsimp only;omega),by first|omega|(dsimp only;omega)⟩,hi11,hr11⟩) ?_;intro _ H
   refine pe 1 Z (q3 ?_)
   refine W_cond Z ?_ ?_
   ·intro hc15
    try simp only[nrm]at hc15
    refine q2 (o_build bf27 Z Z Z (xst 6 H Z8 ?_));intro _ H
    refine aG Z (q3 (W_ret (N_B_ret (N_K_ret (N_LP_ret (N_B_ret (N_K_ret (ret_gen (rs:=[.cell 4 27,.tmp 5]) (vs:=[_,_]) results10 ⟨⟨_,Z,load_blk 6 H isAgg27 sizeOf27 Z Z Z⟩,Z,trivial⟩ ?_))))))))
    have H:=H.sel [] rfl
    have hno:Sp.StreamRun d list=none:=Sp.run_bad (List.mem_of_getElem? hz11) (by simpa using hc15)
    have H:=(((H.addF).addF).addF).forget hG (by simp)
    exact⟨_,_,rfl,H,.slice none 0 0,.slice none 0 0,.slice none 0 0,[],[],[],(by rw[hno];rfl),rfl,(by rw[hno];exact oh_nil),(by rw[hno];exact oi_nil),(by rw[hno];exact os_nil)⟩
   intro hc15'
   try simp only[nrm]at hc15'
   refine W_skip (N_B (N_K (W_region (aD Z2 (mV Z (R_nil ?_))))))
   have H:=H.sel [1,2,3,4,5,6,7] rfl
   refine N_lp (hJ:=⟨k+1,_,Z,hle9,H,?inv,Z⟩) (hm:=?hm)
   case hm=>omega
   case inv=>exact⟨by omega,Sp.all_take hall hz11 (by simpa using hc15')⟩
  intro hc10'
  try simp only[nrm]at hc10'
  refine W_exit (N_K_exit (N_LP_exit (N_B_same (N_K (W_seq (q2 (mV Z (o_call call39 Z Z (i_inOrder_c _ _ H.sub _ _ hlist) ?_))))))));rintro _ w18 ⟨G18,_,_,rfl,H18',⟨cq,vq,sq,rfl,rfl,hcv⟩⟩
  have hS4:=hS4.up H18'.le
  have hN4:=hN4.up H18'.le
  have hchk4:=hchk4.up H18'.le
  have hNs4:=hNs4.up H18'.le
  have H:=H.borrow0 H18';refine⟨_,rfl,?_⟩
  refine q3 (W_block ?_)
  have hal:list.all Sp.partOk=true:=(by have h0:k=list.length:=oM;rw[h0,List.take_length]at hall;exact hall)
  have H:=H.sel [0,1,2,3,4,5,6] rfl
  obtain⟨ln19,hln19,H⟩:=H.name (k:=6) rfl
  refine W_lp (hf:=(Sub.cons (t:=4) Z (Sub.cons (t:=6) Z (Sub.cons (t:=31) Z Sub.nil)))) (J:=fun M w m=>∃(k:Nat) (vq:List Value) (sq rq:Nat) (dn:BDisk) (eT:Array MapEntry) (kT:Nat) (xT:List (Int×Value)) (TT:Nd) (FT:Fr) (aT:Option Addr) (qT:Nat) (nT:List (Fw.Bs×Nd)) (cT:List Value) (FSq:Fr) (G:PH),M=[]∧PLe G18 G∧Hp w0 G0 [] w G [chn cq list.length vq true sq rq,blk db4 (cl [.int .i32 0,.int .u32 0,.map (some mb4),.pointer (some ⟨TT.b,0,none⟩),.slice aT nT.length qT] 161),blk mb4 (.map eT kT),frag FT,acc 164 2 (.slice aT nT.length qT) nT.length cT,frag FSq,blk b3 (cl ln19 27)]∧(k≤(Sp.inOrd list).length∧CV partV G vq ((Sp.inOrd list).drop k)∧Sp.foldB Sp.mkPart ((Sp.inOrd list).take k) (some d)=some dn∧MapIs (Value.int .i64) eT kT xT∧StR G xT dn.store∧NdO 90 84 G TT FT∧Nd.TOK TT dn.tree∧Chk osE 2 G cT nT∧NdsO 90 84 G (nT.map (·.2)) FSq∧SnOK nT dn.snaps∧Sp.DiskValid dn=true)∧m=((Sp.inOrd list).length-k)) (h0:=⟨0,vq,sq,0,d,_,_,xs4,T4,_,_,_,sn4,_,_,_,Z,PLe.refl _,H,?inv,Z⟩) (round:=?round)
  case inv=>exact⟨by omega,by simpa using hcv,rfl,hm4,hS4,hN4,hT4,hchk4,hNs4,hSn4,hdv4⟩
  case round =>
   rintro _ _ _ ⟨k,vq,sq,rq,dn,eT,kT,xT,TT,FT,aT,qT,nT,cT,FSq,_,rfl,hle20,H,hinv20,rfl⟩
   subst hln19
   have hcv:=hcv.up hle20
   obtain⟨hk,hcv,hJ,hmL,hSL,hNL,hTL,hchkL,hNsL,hSnL,hdvL⟩:=hinv20
   refine W_seq (W_regionC [0,1] Z ?_)
   rcases vq with _|⟨v21,vs21⟩
   ·skip
    refine c_recvz H 0 Z Z Z Z underlying74 zeroValue39 ?_
    have hend:=hcv.nil_len
    refine RC_l Z (pe 1 Z ?_)
    refine R_nil (N_C ?_)
    refine RC_nil (N_K (W_seq (W_false Z (W_exit (N_K_exit (N_LP_exit (N_B_same (N_K (q2 (mV Z ?_))))))))))
    have H:=H.tF 5
    have H:=H.tF 5
    have H:=H.tF 5
    have H:=H.tF 5
    have H:=H.tF 5
    refine xc Z2 (i_disk_c _ _ H.sub _ _ _ _ _ _ _ _ _ _ _ _ hmL hSL hNL hTL hchkL hNsL hSnL (Sp.valid_iff.1 (Sp.dv_parts.1 hdvL).1) (Sp.dv_parts.1 hdvL).2.2.1 H.lent5) ?_
    rintro _ _ ⟨_,_,_,rfl,H22',⟨_,_,_,_,_,_,rfl,rfl,ho122,ho222,ho322⟩⟩
    have H:=H.borrow5 H22'
    obtain⟨_,p122⟩:=ho122
    obtain⟨a122,c122,rfl⟩:=OwnS.shape p122
    obtain⟨_,p222⟩:=ho222
    obtain⟨a222,c222,rfl⟩:=OwnS.shape p222
    obtain⟨_,p322⟩:=ho322
    obtain⟨a322,c322,rfl⟩:=OwnS.shape p322
    refine⟨_,Z,?_⟩
    refine xst 4 H Z8 ?_;intro _ H
    refine aG Z (q3 (W_ret (ret_gen (rs:=[.cell 4 27,.tmp 5]) (vs:=[_,_]) results10 ⟨⟨_,Z,load_blk 4 H isAgg27 sizeOf27 Z Z Z⟩,Z,trivial⟩ ?_)))
    have H:=H.sel [0,1,2] rfl
    have hyes:Sp.StreamRun d list=some dn:=Sp.ord_all hdv4 hJ hend
    have H:=H.forget hG (by simp)
    exact⟨_,_,rfl,H,.slice a122 dn.store.length c122,.slice a222 dn.tree.length c222,.slice a322 dn.snaps.length c322,_,_,_,(by rw[hyes];rfl),rfl,(by rw[hyes];exact⟨_,p122⟩),(by rw[hyes];exact⟨_,p222⟩),(by rw[hyes];exact⟨_,p322⟩)⟩
   skip
   obtain⟨z21,hz21,hV21,hcw⟩:=hcv.pop;clear hcv;have hcv:=hcw;clear hcw;obtain⟨_,rfl,_,_,_,rfl,_,hi21,hr21⟩:=hV21;have hn_hr21:=hr21.len;have hx_hr21:_≤1099511627776:=hr21.lim;have hoz21:=List.all_eq_true.1 hal _ (Sp.mem_ord' (List.mem_of_getElem? hz21))
   refine c_recv H 0 Z Z Z Z underlying74 zeroValue39 ?_;intro _ H
   refine RC_l Z (pe 1 Z ?_)
   refine R_nil (N_C ?_)
   refine RC_nil (N_K (W_seq (W_true Z (W_skip (N_K (W_block (q2 (pe 1 Z (xal H Z ?_)))))))));intro _ _ _ H
   refine xst 0 H Z8 ?_;intro _ H
   refine q1 (mV Z (lA 0 4 H Z4 ?_))
   have H:=H.tF 6
   have H:=H.tF 6
   have H:=H.tF 6
   have H:=H.tF 6
   have H:=H.tF 6
   refine xc Z2 (i_makePart_c _ _ H.sub _ _ _ _ _ _ _ _ _ _ _ _ hmL hSL hNL hTL hchkL hNsL hSnL hdvL _ z21 ⟨_,_,_,Z,⟨by first|omega|(dsimp only;omega),by first|omega|(dsimp only;omega)⟩,hi21,hr21⟩ H.lent5 hoz21) ?_
   rintro _ _ ⟨_,_,_,rfl,H26',⟨_,_,xs26,_,T26,_,sn26,_,_,_,rfl,rfl,hm26,hS26,_,hN26,hchk26,hNs26,hd26⟩⟩
   have hcv:=hcv.up H26'.le
   have hle20:=hle20.trans H26'.le
   have H:=H.borrow5 H26'
   obtain⟨avAd,cvAd,rfl⟩:=H.accShape (k:=3) rfl
   refine⟨_,Z,?_⟩
   refine pe 1 Z (q3 ?_)
   refine W_cond Z ?_ ?_
   ·intro hc27
    try simp only[nrm]at hc27
    refine q2 (o_build bf27 Z Z Z (xst 7 H Z8 ?_));intro _ H
    refine aG Z (q3 (W_ret (N_B_ret (N_LP_ret (N_B_ret (N_K_ret (ret_gen (rs:=[.cell 4 27,.tmp 5]) (vs:=[_,_]) results10 ⟨⟨_,Z,load_blk 7 H isAgg27 sizeOf27 Z Z Z⟩,Z,trivial⟩ ?_)))))))
    have H:=H.sel [] rfl
    have hno:Sp.StreamRun d list=none:=Sp.ord_no hdv4 hJ hz21 (by simpa using hc27)
    have H:=(((H.addF).addF).addF).forget hG (by simp)
    exact⟨_,_,rfl,H,.slice none 0 0,.slice none 0 0,.slice none 0 0,[],[],[],(by rw[hno];rfl),rfl,(by rw[hno];exact oh_nil),(by rw[hno];exact oi_nil),(by rw[hno];exact os_nil)⟩
   intro hc27'
   try simp only[nrm]at hc27'
   refine W_skip (N_B ?_)
   obtain⟨d2,hd2⟩:=Option.isSome_iff_exists.1 (show(Sp.mkPart dn z21).isSome=true by simpa using hc27')
   obtain⟨hL2,hT2,hsn2⟩:=hd26 d2 hd2;subst hL2
   have H:=H.sel [6,0,1,2,3,4,7] rfl
   refine N_lp (hJ:=⟨k+1,_,_,_,d2,_,_,xs26,T26,_,_,_,sn26,_,_,_,Z,hle20,H,?inv,Z⟩) (hm:=?hm)
   case hm=>have:=(List.getElem?_eq_some_iff.1 hz21).1;omega
   case inv=>exact⟨(by have:=(List.getElem?_eq_some_iff.1 hz21).1;omega),hcv,Sp.foldB_succ hJ hz21 hd2,hm26,hS26,hN26,hT2,hchk26,hNs26,hsn2,(Sp.mk_valid hdvL hd2).1⟩
theorem pick_c (w0:World)(G0:PH)(hG:PSub G0 w0)(rb:Nat)(ab:Option Addr)(mb kb:Nat)(bs:List UInt8)(p:Nat)(hbs:RdU G0 (.slice ab mb kb) bs)(hrb:w0.heap[rb]? = some (cl [.slice ab mb kb,.int .i64 (p:Int)] 130))(hrn:G0 rb=none)(hp:p≤1000000000000)(n:Int)(hn:inI n) :
  Calls Tryz.prog 34 #[.pointer (some ⟨rb,0,none⟩),.int .i64 n] w0 (RetM w0 G0 [rb] (fun G val Bs=>∃(p':Nat) (x:Nat),p'≤p+1∧val= .int .i64 (x:Int)∧((x:Int)<n∨x=0)∧Bs=[blk rb (cl [.slice ab mb kb,.int .i64 (p':Int)] 130)])):=by
 have hlimbs:bs.length≤1099511627776:=hbs.lim;obtain rfl:mb=bs.length:=hbs.len
 have H:=Hp.initM hG hrb hrn
 refine calls_of_W (l:=[.pointer (some ⟨rb,0,none⟩),.int .i64 n]) func34 Z ntmps34 Z (q2 (aG Z (q1 (pe 3 Z (fA 1 Z (lB 0 H Z3 (aD Z2 (pe 1 Z (fA 1 Z (xst 0 H Z8 ?_))))))))));intro _ H
 refine q3 (W_seq (q2 (pe 3 Z ?_)))
 refine R_case (t:=17) Z ?_ ?_
 ·intro hc3
  try simp only[nrm]at hc3
  refine pe 7 Z (q3 (W_true Z (q2 (aG Z (q3 (W_ret (N_K_ret (rt1 results34 Z ?_))))))))
  exact H.retM ⟨p+1,0,by omega,rfl,.inr rfl,rfl⟩
 intro hc3'
 try simp only[nrm]at hc3'
 refine pe 2 Z (gR Z (fA 0 Z (gR Z (lB 0 H Z3 (gR Z (lN Z (pe 2 Z (q3 ?_))))))))
 refine W_cond Z ?_ ?_
 ·intro hc4
  try simp only[nrm]at hc4
  refine q2 (aG Z (q3 (W_ret (N_K_ret (rt1 results34 Z ?_)))))
  exact H.retM ⟨p+1,0,by omega,rfl,.inr rfl,rfl⟩
 intro hc4'
 try simp only[nrm]at hc4'
 have hm0:0<bs.length:=by omega
 have hm1:=Nat.mod_lt p hm0
 have hm2:=Nat.mod_lt (p*7+3) hm0
 have hq1:0≤((p:Int)+1-1) / (bs.length:Int):=Int.ediv_nonneg oM oM
 have hq2:((p:Int)+1-1) / (bs.length:Int)≤(p:Int)+1-1:=Int.ediv_le_self _ oM
 refine W_skip (N_K (q2 (pe 2 Z (fA 1 Z (lB 0 H Z3 (o_sub Z Z Z oO (aG Z (q3 (W_seq (q2 (pe 3 Z (fA 0 Z (lB 0 H Z3 (lN Z (pe 1 Z ?_)))))))))))))))
 refine q3 ?_
 refine W_cond Z ?_ ?_
 ·intro hc6
  try simp only[nrm]at hc6
  refine q2 (pe 2 Z (fA 0 Z (lB 0 H Z3 (mV Z (iP p hbs Z3 oM ?_)))));intro _ _ z7 _ _ hE7 hrow7
  obtain rfl:=hE7
  have hzl7:=z7.toNat_lt
  refine lP H hrow7 0 Z2 (o_conv (by simp[underlying5]) underlying3 Z Z (wrap_i64 oO) (mV Z (o_rem Z Z Z oM oM (aG Z (q3 (W_ret (N_K_ret (rt1 results34 Z ?_))))))))
  exact H.retM ⟨p+1,_,by omega,congrArg (Value.int .i64) (Int.toNat_of_nonneg (Int.emod_nonneg _ oM)).symm,.inl (by rw[Int.toNat_of_nonneg (Int.emod_nonneg _ oM)];exact Int.emod_lt_of_pos _ oM),rfl⟩
 intro hc6'
 try simp only[nrm]at hc6'
 refine W_skip (N_K (W_seq (W_drawK [0] 46 H kR Z ?_)));intro _ H;have hd8:=PLe.refl G0
 refine dE 0 Z2 (dE 1 Z2 (dF 2 0 Z2 (dB 3 0 Z4 (dE 4 Z2 (dE 5 Z2 (dE 6 Z2 (dF 7 0 Z2 (dB 8 0 Z4 (dN 9 Z2 (RD_t 10 Z kR Z (fun _ hK=>v_rem Z Z oM oM) ?_))))))))))
 have hl9:=hbs.len
 obtain⟨_,_,z9,_,ha9,_,hq9,hE9,hrow9,_⟩:=hbs.at (i:=(p % bs.length)) oM
 clear hq9
 obtain rfl:=hE9
 have hzl9:=z9.toNat_lt
 refine RD_t 11 Z kR Z (fun _ hK=>v_index_P (i:=(p % bs.length)) ha9 underlying22 sizeOf5 Z Z (by rw[Int.add_sub_cancel];exact(Int.natCast_emod _ _).symm) oM) ?_
 refine dP 12 hrow9 0 Z3 (RD_t 13 Z kR Z (fun _ hK=>v_conv (by simp[underlying5]) underlying3 Z (wrap_i64 oO)) (RD_t 14 Z kR Z (fun _ hK=>v_mul Z Z oO) (dE 15 Z2 (dE 16 Z2 (dF 17 0 Z2 (dB 18 0 Z4 (dE 19 Z2 (RD_t 20 Z kR Z (fun _ hK=>v_mul Z Z oO) (RD_t 21 Z kR Z (fun _ hK=>v_add Z Z oO) (dE 22 Z2 (dE 23 Z2 (dF 24 0 Z2 (dB 25 0 Z4 (dN 26 Z2 (RD_t 27 Z kR Z (fun _ hK=>v_rem Z Z oM oM) ?_)))))))))))))))
 have hl13:=hbs.len
 obtain⟨_,_,z13,_,ha13,_,hq13,hE13,hrow13,_⟩:=hbs.at (i:=((p*7+3) % bs.length)) oM
 clear hq13
 obtain rfl:=hE13
 have hzl13:=z13.toNat_lt
 refine RD_t 28 Z kR Z (fun _ hK=>v_index_P (i:=((p*7+3) % bs.length)) ha13 underlying22 sizeOf5 Z Z (by rw[Int.add_sub_cancel];exact(Int.natCast_emod _ _).symm) oM) ?_
 refine dP 29 hrow13 0 Z3 (RD_t 30 Z kR Z (fun _ hK=>v_conv (by simp[underlying5]) underlying3 Z (wrap_i64 oO)) (RD_t 31 Z kR Z (fun _ hK=>v_mul Z Z oO) (RD_t 32 Z kR Z (fun _ hK=>v_add Z Z oO) (dE 33 Z2 (RD_t 34 Z kR Z (fun _ hK=>v_mul Z Z oO) (RD_t 35 Z kR Z (fun _ hK=>v_add Z Z oO) (dE 36 Z2 (dE 37 Z2 (dE 38 Z2 (dF 39 0 Z2 (dB 40 0 Z4 (dN 41 Z2 (RD_t 42 Z kR Z (fun _ hK=>v_quo Z Z oM oM oM) (RD_t 43 Z kR Z (fun _ hK=>v_mul Z Z oO) (RD_t 44 Z kR Z (fun _ hK=>v_add Z Z oO) ?_)))))))))))))))
 refine dE 45 Z2 (rz (N_K (q2 (pe 2 Z (o_quo Z Z Z oM oM oM (o_xor Z Z Z oO oO ?_))))));intro _ _
 refine aG Z (q1 (pe 2 Z (o_rem Z Z Z oM oM (aG Z (q3 (W_ret (rt1 results34 Z ?_)))))))
 exact H.retM ⟨p+1,_,by omega,congrArg (Value.int .i64) (Int.toNat_of_nonneg (Int.emod_nonneg _ oM)).symm,.inl (by rw[Int.toNat_of_nonneg (Int.emod_nonneg _ oM)];exact Int.emod_lt_of_pos _ oM),rfl⟩
theorem l6Open_c (w0:World)(G0:PH)(hG:PSub G0 w0)(vcode:Value)(code:List (UInt8))(hcode:RdU G0 vcode code) :
  Calls Tryz.prog 31 #[vcode] w0 (RetO w0 G0 (fun G val r=>∃(b:Nat) (ab:Option Addr) (mb kb:Nat) (bs:List UInt8),val= .pointer (some ⟨b,0,none⟩)∧r=blk b (cl [.slice ab mb kb,.int .i64 ((0:Nat):Int)] 130)∧RdU G (.slice ab mb kb) bs)):=by
 obtain⟨acode,kcode,rfl⟩:=hcode.shape
 have hlimcode:code.length≤1099511627776:=hcode.lim
 have H:=Hp.init hG
 refine calls_of_W (l:=[.slice acode code.length kcode]) func31 Z ntmps31 Z (q2 (aG Z (q3 (W_seq (q2 (mV Z (lN Z (pe 1 Z (q3 ?_)))))))))
 refine W_cond Z ?_ ?_
 ·intro hc1
  try simp only[nrm]at hc1
  refine W_region (mV Z ?_)
  have hcap2:=hcode.cap;try simp only[List.length_set,List.length_append,List.length_take,List.length_drop,List.length_replicate]at hcap2
  refine o_slice_to (j:=2000) underlying22 sizeOf5 Z Z Z oM oM ?_
  have hsl2:=hcode.take (j:=2000) aN
  have hsn1:=hsl2.len
  refine aG Z (q1 (mV Z (o_build bf130 Z Z Z (o_box H Z Z Z ?_))));intro _ _ _ H
  refine aG Z (q3 (W_ret (rt1 results31 Z ?_)))
  exact H.retO (k:=0) rfl ⟨_,_,_,_,_,rfl,rfl,hsl2⟩ (by simp[blk])
 intro hc1'
 try simp only[nrm]at hc1'
 refine W_skip (N_K (q2 (mV Z (o_build bf130 Z Z Z (o_box H Z Z Z ?_)))));intro _ _ _ H
 refine aG Z (q3 (W_ret (rt1 results31 Z ?_)))
 exact H.retO (k:=0) rfl ⟨_,_,_,_,_,rfl,rfl,hcode⟩ (by simp[blk])
theorem of_c (w0:World)(G0:PH)(hG:PSub G0 w0)(rb:Nat)(ab:Option Addr)(mb kb:Nat)(bs:List UInt8)(p:Nat)(hbs:RdU G0 (.slice ab mb kb) bs)(hrb:w0.heap[rb]? = some (cl [.slice ab mb kb,.int .i64 (p:Int)] 130))(hrn:G0 rb=none)(hp:p≤100000000000)(vlist:Value)(list:List (Bs))(hlist:RdT G0 vlist list)(hL:0<list.length) :
  Calls Tryz.prog 119 #[.pointer (some ⟨rb,0,none⟩),vlist] w0 (RetM w0 G0 [rb] (fun G val Bs=>∃(p':Nat) (x:Fw.Bs),p'≤p+1∧val=str x∧x.length≤16777216∧Bs=[blk rb (cl [.slice ab mb kb,.int .i64 (p':Int)] 130)])):=by
 have hlimbs:bs.length≤1099511627776:=hbs.lim;obtain rfl:mb=bs.length:=hbs.len
 obtain⟨alist,klist,rfl⟩:=hlist.shape
 have hlimlist:list.length≤1099511627776:=hlist.lim
 have H:=Hp.initM hG hrb hrn
 refine calls_of_W (l:=[.pointer (some ⟨rb,0,none⟩),.slice alist list.length klist]) func119 Z ntmps119 Z (q2 (aG Z (q1 (pe 3 Z (lN Z (xc Z2 (pick_c _ _ H.sub _ _ _ _ _ _ hbs (H.blkIs (k:=0) Z).1 (H.blkIs (k:=0) Z).2 oM _ oO) ?_))))))
 rintro _ _ ⟨_,_,_,rfl,H1',⟨_,x1,_,rfl,_,rfl⟩⟩
 have hlist:=hlist.up H1'.le
 have H:=H.borrow (k:=0) rfl H1'
 refine⟨_,Z,?_⟩
 refine iP x1 hlist Z3 Z ?_;intro _ _ _ _ _ hE2 hrow2
 obtain⟨rfl,hi2⟩:=hE2;have hy_hi2:_≤16777216:=hi2
 refine lP H hrow2 0 Z2 (aG Z (q3 (W_ret (rt1 results119 Z ?_))))
 exact H.retM ⟨_,_,by omega,rfl,(by assumption),rfl⟩
theorem l91Path_c (w0:World)(G0:PH)(hG:PSub G0 w0)(rb:Nat)(ab:Option Addr)(mb kb:Nat)(bs:List UInt8)(p:Nat)(hbs:RdU G0 (.slice ab mb kb) bs)(hrb:w0.heap[rb]? = some (cl [.slice ab mb kb,.int .i64 (p:Int)] 130))(hrn:G0 rb=none)(hp:p≤10000000000) :
  Calls Tryz.prog 95 #[.pointer (some ⟨rb,0,none⟩)] w0 (RetM w0 G0 [rb] (fun G val Bs=>∃(p':Nat) (x:Fw.Bs),p'≤p+2∧val=str x∧x.length≤16777216∧Bs=[blk rb (cl [.slice ab mb kb,.int .i64 (p':Int)] 130)])):=by
 have hlimbs:bs.length≤1099511627776:=hbs.lim;obtain rfl:mb=bs.length:=hbs.len
 have H:=Hp.initM hG hrb hrn
 refine calls_of_W (l:=[.pointer (some ⟨rb,0,none⟩)]) func95 Z ntmps95 Z (q2 (aG Z (q3 (W_seq (q2 (mV Z (xc Z2 (pick_c _ _ H.sub _ _ _ _ _ _ hbs (H.blkIs (k:=0) Z).1 (H.blkIs (k:=0) Z).2 oM _ oO) ?_)))))))
 rintro _ _ ⟨G1,_,_,rfl,H1',⟨_,_,_,rfl,_,rfl⟩⟩
 have hbs:=hbs.up H1'.le
 have H:=H.borrow (k:=0) rfl H1'
 refine⟨_,Z,?_⟩
 refine pe 1 Z (q3 ?_)
 refine W_cond Z ?_ ?_
 ·intro hc2
  try simp only[nrm]at hc2
  refine q2 (mV Z (xbs H Z7 ?_));intro _ _ _ H
  have H:=H.blkAcc 1 (k:=0) (n:=8) rfl rfl (by decide)
  have hchk5:=(((((((((Chk.nil (E:=strE) (sz:=1) (G:=G1)).snoc (show strE _ ([]:Fw.Bs) [str []] from⟨rfl,by decide⟩) rfl).snoc (show strE _ ([97,47,47,98]:Fw.Bs) [str [97,47,47,98]] from⟨rfl,by decide⟩) rfl).snoc (show strE _ ([47,97]:Fw.Bs) [str [47,97]] from⟨rfl,by decide⟩) rfl).snoc (show strE _ ([97,47]:Fw.Bs) [str [97,47]] from⟨rfl,by decide⟩) rfl).snoc (show strE _ ([65]:Fw.Bs) [str [65]] from⟨rfl,by decide⟩) rfl).snoc (show strE _ ([97,98,99,100,101,102]:Fw.Bs) [str [97,98,99,100,101,102]] from⟨rfl,by decide⟩) rfl).snoc (show strE _ ([97,47,98,47,99,47,100,47,101]:Fw.Bs) [str [97,47,98,47,99,47,100,47,101]] from⟨rfl,by decide⟩) rfl).snoc (show strE _ ([97,47,98,47,99,47,100]:Fw.Bs) [str [97,47,98,47,99,47,100]] from⟨rfl,by decide⟩) rfl)
  obtain⟨_,H,hsg6,hsr6⟩:=H.shutM (k:=0) (j:=0) rfl rfl hchk5 aN aN
  have hbs:=hbs.up hsg6
  refine xc Z2 (of_c _ _ H.sub _ _ _ _ _ _ hbs (H.blkIs (k:=0) Z).1 (H.blkIs (k:=0) Z).2 oM _ _ hsr6 (by first|decide|(simp;done)|(simp;omega))) ?_
  rintro _ _ ⟨_,_,_,rfl,H4',⟨_,_,_,rfl,_,rfl⟩⟩
  have H:=H.borrow (k:=0) rfl H4'
  refine⟨_,Z,?_⟩
  refine aG Z (q3 (W_ret (N_K_ret (rt1 results95 Z ?_))))
  exact H.retM ⟨_,_,by omega,rfl,(by assumption),rfl⟩
 intro hc2'
 try simp only[nrm]at hc2'
 refine W_skip (N_K (q2 (mV Z (xbs H Z7 ?_))));intro _ _ _ H
 have H:=H.blkAcc 1 (k:=0) (n:=8) rfl rfl (by decide)
 have hchk9:=(((((((((Chk.nil (E:=strE) (sz:=1) (G:=G1)).snoc (show strE _ ([97]:Fw.Bs) [str [97]] from⟨rfl,by decide⟩) rfl).snoc (show strE _ ([98]:Fw.Bs) [str [98]] from⟨rfl,by decide⟩) rfl).snoc (show strE _ ([97,47,120]:Fw.Bs) [str [97,47,120]] from⟨rfl,by decide⟩) rfl).snoc (show strE _ ([97,47,121]:Fw.Bs) [str [97,47,121]] from⟨rfl,by decide⟩) rfl).snoc (show strE _ ([98,47,120]:Fw.Bs) [str [98,47,120]] from⟨rfl,by decide⟩) rfl).snoc (show strE _ ([97,47,120,47,112]:Fw.Bs) [str [97,47,120,47,112]] from⟨rfl,by decide⟩) rfl).snoc (show strE _ ([99]:Fw.Bs) [str [99]] from⟨rfl,by decide⟩) rfl).snoc (show strE _ ([97,47,120,47,113]:Fw.Bs) [str [97,47,120,47,113]] from⟨rfl,by decide⟩) rfl)
 obtain⟨_,H,hsg10,hsr10⟩:=H.shutM (k:=0) (j:=0) rfl rfl hchk9 aN aN
 have hbs:=hbs.up hsg10
 refine xc Z2 (of_c _ _ H.sub _ _ _ _ _ _ hbs (H.blkIs (k:=0) Z).1 (H.blkIs (k:=0) Z).2 oM _ _ hsr10 (by first|decide|(simp;done)|(simp;omega))) ?_
 rintro _ _ ⟨_,_,_,rfl,H8',⟨_,_,_,rfl,_,rfl⟩⟩
 have H:=H.borrow (k:=0) rfl H8'
 refine⟨_,Z,?_⟩
 refine aG Z (q3 (W_ret (rt1 results95 Z ?_)))
 exact H.retM ⟨_,_,by omega,rfl,(by assumption),rfl⟩
theorem l91At_c (w0:World)(G0:PH)(hG:PSub G0 w0)(rb:Nat)(ab:Option Addr)(mb kb:Nat)(bs:List UInt8)(p:Nat)(hbs:RdU G0 (.slice ab mb kb) bs)(hrb:w0.heap[rb]? = some (cl [.slice ab mb kb,.int .i64 (p:Int)] 130))(hrn:G0 rb=none)(hp:p≤1000000000)(vlist:Value)(list:List (BItem))(hlist:RdItems G0 vlist list) :
  Calls Tryz.prog 36 #[.pointer (some ⟨rb,0,none⟩),vlist] w0 (RetM w0 G0 [rb] (fun G val Bs=>∃(p':Nat) (x:Fw.Bs),p'≤p+4∧val=str x∧x.length≤16777216∧Bs=[blk rb (cl [.slice ab mb kb,.int .i64 (p':Int)] 130)])):=by
 have hlimbs:bs.length≤1099511627776:=hbs.lim;obtain rfl:mb=bs.length:=hbs.len
 obtain⟨alist,klist,rfl⟩:=hlist.shape
 have hlimlist:list.length≤1099511627776:=hlist.lim
 have H:=Hp.initM hG hrb hrn
 refine calls_of_W (l:=[.pointer (some ⟨rb,0,none⟩),.slice alist list.length klist]) func36 Z ntmps36 Z (q2 (aG Z (q3 (W_seq (q2 (mV Z (lN Z (pe 2 Z ?_))))))))
 refine R_case (t:=8) Z ?_ ?_
 ·intro hc1
  try simp only[nrm]at hc1
  refine pe 1 Z (gR Z (xc Z2 (pick_c _ _ H.sub _ _ _ _ _ _ hbs (H.blkIs (k:=0) Z).1 (H.blkIs (k:=0) Z).2 oM _ oO) ?_))
  rintro _ _ ⟨_,_,_,rfl,H2',⟨_,_,_,rfl,_,rfl⟩⟩
  have hbs:=hbs.up H2'.le
  have hlist:=hlist.up H2'.le
  have H:=H.borrow (k:=0) rfl H2'
  refine⟨_,Z,?_⟩
  refine pe 2 Z (q3 ?_)
  refine W_cond Z ?_ ?_
  ·intro hc3
   try simp only[nrm]at hc3
   refine q2 (pe 3 Z (lN Z (xc Z2 (pick_c _ _ H.sub _ _ _ _ _ _ hbs (H.blkIs (k:=0) Z).1 (H.blkIs (k:=0) Z).2 oM _ oO) ?_)))
   rintro _ _ ⟨_,_,_,rfl,H4',⟨_,x4,_,rfl,_,rfl⟩⟩
   have hlist:=hlist.up H4'.le
   have H:=H.borrow (k:=0) rfl H4'
   refine⟨_,Z,?_⟩
   refine iP x4 hlist Z3 Z ?_;intro _ _ _ _ _ hE5 hrow5
   obtain⟨_,_,_,rfl,_,_,_,_⟩:=ox hE5
   refine fA 0 Z (lP H hrow5 0 Z2 (aG Z (q3 (W_ret (N_K_ret (rt1 results36 Z ?_))))))
   exact H.retM ⟨_,_,by omega,rfl,(by assumption),rfl⟩
  intro hc3'
  try simp only[nrm]at hc3'
  refine W_skip (N_K (q2 (mV Z (xc Z2 (l91Path_c _ _ H.sub _ _ _ _ _ _ hbs (H.blkIs (k:=0) Z).1 (H.blkIs (k:=0) Z).2 oM) ?_))))
  rintro _ _ ⟨_,_,_,rfl,H6',⟨_,_,_,rfl,_,rfl⟩⟩
  have H:=H.borrow (k:=0) rfl H6'
  refine⟨_,Z,?_⟩
  refine aG Z (q3 (W_ret (rt1 results36 Z ?_)))
  exact H.retM ⟨_,_,by omega,rfl,(by assumption),rfl⟩
 intro hc1'
 try simp only[nrm]at hc1'
 refine pe 4 Z (q3 (W_false Z (W_skip (N_K (q2 (mV Z (xc Z2 (l91Path_c _ _ H.sub _ _ _ _ _ _ hbs (H.blkIs (k:=0) Z).1 (H.blkIs (k:=0) Z).2 oM) ?_)))))))
 rintro _ _ ⟨_,_,_,rfl,H7',⟨_,_,_,rfl,_,rfl⟩⟩
 have H:=H.borrow (k:=0) rfl H7'
 refine⟨_,Z,?_⟩
 refine aG Z (q3 (W_ret (rt1 results36 Z ?_)))
 exact H.retM ⟨_,_,by omega,rfl,(by assumption),rfl⟩
theorem SnapBackP_c (w0:World)(G0:PH)(hG:PSub G0 w0)(cd:List Value)(d:BDisk)(hd:diskE G0 d cd)(name:Bs)(hname:name.length≤16777216) :
  Calls Tryz.prog 35 #[.agg cd.toArray,str name] w0 (RetP w0 G0 (fun G val=>∃cs,val= .tuple #[.agg cs.toArray,.bool (Sp.SnapBack d name).isSome]∧diskE G ((Sp.SnapBack d name).getD ⟨[],[],[]⟩) cs)):=by
 refine(SnapBack_c w0 G0 hG cd d hd name hname).mono ?_
 rintro _ _ ⟨_,_,_,g,rfl,⟨_,_,_,rfl,⟨_,rfl,hchk⟩,h1,h2⟩,hp,hq,hs⟩
 have H:=(Hp.init hG).growO g hp hq hs
 have hb:(((Sp.SnapBack d name).map (·.snaps)).getD []).length≤6:=Sp.dk_lim (fun d1 h=>Sp.back_valid h)
 obtain⟨_,H2,hle,hr⟩:=H.shut' (k:=0) rfl hchk rfl oM
 have e1:((Sp.SnapBack d name).map (·.store)).getD []=((Sp.SnapBack d name).getD ⟨[],[],[]⟩).store:=by cases Sp.SnapBack d name<;>rfl
 have e2:((Sp.SnapBack d name).map (·.tree)).getD []=((Sp.SnapBack d name).getD ⟨[],[],[]⟩).tree:=by cases Sp.SnapBack d name<;>rfl
 have e3:((Sp.SnapBack d name).map (·.snaps)).getD []=((Sp.SnapBack d name).getD ⟨[],[],[]⟩).snaps:=by cases Sp.SnapBack d name<;>rfl
 rw[e1]at h1;rw[e2]at h2;rw[e3]at hr
 obtain⟨_,_,rfl⟩:=h1.shape
 obtain⟨_,_,rfl⟩:=h2.shape
 obtain⟨_,_,rfl⟩:=hr.shape
 exact H2.retP ⟨[_,_,_],Z,_,_,_,_,_,_,_,_,_,Z,h1.up hle,h2.up hle,hr⟩
theorem DiskWriteP_c (w0:World)(G0:PH)(hG:PSub G0 w0)(cd:List Value)(d:BDisk)(hd:diskE G0 d cd)(path:Bs)(hpath:path.length≤16777216)(vbytes:Value)(bytes:List Int)(hbytes:RdI G0 vbytes bytes) :
  Calls Tryz.prog 111 #[.agg cd.toArray,str path,vbytes] w0 (RetP w0 G0 (fun G val=>∃cs,val= .tuple #[.agg cs.toArray,.bool (Sp.DiskWrite d path bytes).isSome]∧diskE G ((Sp.DiskWrite d path bytes).getD ⟨[],[],[]⟩) cs)):=by
 refine(DiskWrite_c w0 G0 hG cd d hd path hpath vbytes bytes hbytes).mono ?_
 rintro _ _ ⟨_,_,_,g,rfl,⟨_,_,_,rfl,⟨_,rfl,hchk⟩,h1,h2⟩,hp,hq,hs⟩
 have H:=(Hp.init hG).growO g hp hq hs
 have hb:(((Sp.DiskWrite d path bytes).map (·.snaps)).getD []).length≤6:=Sp.dk_lim (fun d1 h=>Sp.dwrite_valid h)
 obtain⟨_,H2,hle,hr⟩:=H.shut' (k:=0) rfl hchk rfl oM
 have e1:((Sp.DiskWrite d path bytes).map (·.store)).getD []=((Sp.DiskWrite d path bytes).getD ⟨[],[],[]⟩).store:=by cases Sp.DiskWrite d path bytes<;>rfl
 have e2:((Sp.DiskWrite d path bytes).map (·.tree)).getD []=((Sp.DiskWrite d path bytes).getD ⟨[],[],[]⟩).tree:=by cases Sp.DiskWrite d path bytes<;>rfl
 have e3:((Sp.DiskWrite d path bytes).map (·.snaps)).getD []=((Sp.DiskWrite d path bytes).getD ⟨[],[],[]⟩).snaps:=by cases Sp.DiskWrite d path bytes<;>rfl
 rw[e1]at h1;rw[e2]at h2;rw[e3]at hr
 obtain⟨_,_,rfl⟩:=h1.shape
 obtain⟨_,_,rfl⟩:=h2.shape
 obtain⟨_,_,rfl⟩:=hr.shape
 exact H2.retP ⟨[_,_,_],Z,_,_,_,_,_,_,_,_,_,Z,h1.up hle,h2.up hle,hr⟩
theorem l91File_c (w0:World)(G0:PH)(hG:PSub G0 w0)(rb:Nat)(ab:Option Addr)(mb kb:Nat)(bs:List UInt8)(p:Nat)(hbs:RdU G0 (.slice ab mb kb) bs)(hrb:w0.heap[rb]? = some (cl [.slice ab mb kb,.int .i64 (p:Int)] 130))(hrn:G0 rb=none)(hp:p≤1000000000) :
  Calls Tryz.prog 145 #[.pointer (some ⟨rb,0,none⟩)] w0 (RetM w0 G0 [rb] (fun G val Bs=>∃(p':Nat) (x:List Int) (v:Value) (c:List Value),p'≤p+100∧val=v∧Chk intE 1 G c x∧x.length≤33∧Bs=[acc 3 1 v x.length c,blk rb (cl [.slice ab mb kb,.int .i64 (p':Int)] 130)])):=by
 have hlimbs:bs.length≤1099511627776:=hbs.lim;obtain rfl:mb=bs.length:=hbs.len
 have H:=Hp.initM hG hrb hrn
 refine calls_of_W (l:=[.pointer (some ⟨rb,0,none⟩)]) func145 Z ntmps145 Z (q2 (aG Z (q1 (xbs H Z7 ?_))));intro _ _ _ H
 have H:=H.blkAcc 1 (k:=0) (n:=0) rfl rfl (by decide)
 refine aG Z (q1 (xbs H Z7 ?_));intro _ _ _ H
 refine mV Z (xc Z2 (pick_c _ _ H.sub _ _ _ _ _ _ hbs (H.blkIs (k:=2) Z).1 (H.blkIs (k:=2) Z).2 oM _ oO) ?_)
 rintro _ _ ⟨G3,_,_,rfl,H3',⟨_,x3,_,rfl,_,rfl⟩⟩
 have hbs:=hbs.up H3'.le
 have H:=H.borrow (k:=2) rfl H3'
 refine⟨_,Z,?_⟩
 have H:=H.blkAcc 1 (k:=1) (n:=8) rfl rfl (by decide)
 have hchk5:=(((((((((Chk.nil (E:=intE) (sz:=1) (G:=G3)).snoc (show intE _ (0:Int) [.int .i64 0] from⟨rfl,by decide⟩) rfl).snoc (show intE _ (1:Int) [.int .i64 1] from⟨rfl,by decide⟩) rfl).snoc (show intE _ (7:Int) [.int .i64 7] from⟨rfl,by decide⟩) rfl).snoc (show intE _ (8:Int) [.int .i64 8] from⟨rfl,by decide⟩) rfl).snoc (show intE _ (9:Int) [.int .i64 9] from⟨rfl,by decide⟩) rfl).snoc (show intE _ (16:Int) [.int .i64 16] from⟨rfl,by decide⟩) rfl).snoc (show intE _ (17:Int) [.int .i64 17] from⟨rfl,by decide⟩) rfl).snoc (show intE _ (32:Int) [.int .i64 32] from⟨rfl,by decide⟩) rfl)
 obtain⟨_,H,hsg6,hsr6⟩:=H.shutM (k:=1) (j:=0) rfl rfl hchk5 aN aN
 have hbs:=hbs.up hsg6
 have hl_hsr6:=hsr6.len
 refine iP x3 hsr6 Z3 Z ?_;intro _ _ z4 _ hz4 hE4 hrow4
 obtain⟨rfl,_⟩:=hE4
 have hzb:0≤z4∧z4≤32:=by have:=List.mem_of_getElem? hz4;simp at this;omega
 refine lP H hrow4 0 Z2 (aG Z (q3 (W_seq (q2 (mV Z (xc Z2 (pick_c _ _ H.sub _ _ _ _ _ _ hbs (H.blkIs (k:=0) Z).1 (H.blkIs (k:=0) Z).2 oM _ oO) ?_))))))
 rintro _ _ ⟨_,_,_,rfl,H7',⟨_,_,_,rfl,_,rfl⟩⟩
 have hbs:=hbs.up H7'.le
 have H:=H.borrow (k:=0) rfl H7'
 refine⟨_,Z,?_⟩
 refine pe 1 Z (q3 ?_)
 refine W_cond Z ?_ ?_
 ·intro hc8
  try simp only[nrm]at hc8
  refine W_region (mV Z (xc Z2 (pick_c _ _ H.sub _ _ _ _ _ _ hbs (H.blkIs (k:=0) Z).1 (H.blkIs (k:=0) Z).2 oM _ oO) ?_))
  rintro _ _ ⟨_,_,_,rfl,H9',⟨_,_,_,rfl,_,rfl⟩⟩
  have hbs:=hbs.up H9'.le
  have H:=H.borrow (k:=0) rfl H9'
  refine⟨_,Z,?_⟩
  refine aG Z (q1 (mV Z (xc Z2 (pick_c _ _ H.sub _ _ _ _ _ _ hbs (H.blkIs (k:=0) Z).1 (H.blkIs (k:=0) Z).2 oM _ oO) ?_)))
  rintro _ _ ⟨G10,_,_,rfl,H10',⟨p10,x10,_,rfl,_,rfl⟩⟩
  have hbs:=hbs.up H10'.le
  have H:=H.borrow (k:=0) rfl H10'
  refine⟨_,Z,?_⟩
  refine aG Z (q3 (W_seq (q2 (aG Z (q3 (W_block ?_))))))
  refine W_lp (hf:=(Sub.cons (t:=0) Z (Sub.cons (t:=2) Z (Sub.cons (t:=4) Z (Sub.cons (t:=5) Z Sub.nil))))) (J:=fun M w m=>∃(v:Value) (n:Nat) (cs:List Value) (xs:List (Int)) (k:Nat) (pp:Nat) (G:PH),M=[(6,.int .i64 (k:Int)),(3,v)]∧PLe G10 G∧Hp w0 G0 [rb] w G [blk rb (cl [.slice ab bs.length kb,.int .i64 (pp:Int)] 130),acc 3 1 v n cs]∧(Chk intE 1 G cs xs∧n=xs.length∧k≤32∧xs.length=k∧pp≤p+10+2*k)∧m=(33-k)) (h0:=⟨_,_,_,[],0,p10,_,Z,PLe.refl _,H,?inv,Z⟩) (round:=?round)
  case inv=>exact⟨(Chk.nil (E:=intE) (sz:=1) (G:=G10)),by first|rfl|simp|(simp;omega)|omega,(by exact⟨by omega,rfl,by omega⟩)⟩
  case round =>
   rintro _ _ _ ⟨v,n,cs,xs,k,pp,_,rfl,hle11,H,hinv11,rfl⟩
   have hbs:=hbs.up hle11
   obtain⟨hchk11_0,_,hinv11⟩:=hinv11
   obtain⟨_,_,rfl⟩:=H.accShape (k:=1) rfl
   obtain⟨hk,hxl,hpp⟩:=hinv11
   refine W_seq (q2 (pe 3 Z (q3 ?_)))
   refine W_cond Z ?_ ?_
   ·intro hc12
    try simp only[nrm]at hc12
    refine W_skip (N_K (W_seq (W_block (W_region (pe 3 Z (o_quo Z Z Z oM oM oM (mV Z (xc Z2 (pick_c _ _ H.sub _ _ _ _ _ _ hbs (H.blkIs (k:=0) Z).1 (H.blkIs (k:=0) Z).2 oM _ oO) ?_))))))))
    rintro _ _ ⟨_,_,_,rfl,H13',⟨_,x13,_,rfl,_,rfl⟩⟩
    have hbs:=hbs.up H13'.le
    have hchk11_0:=hchk11_0.up H13'.le
    have hle11:=hle11.trans H13'.le
    have H:=H.borrow (k:=0) rfl H13'
    refine⟨_,Z,?_⟩
    have hma13:0≤((k:Int) / 8)*(x13:Int):=Int.mul_nonneg oM oM
    have hmb13:((k:Int) / 8)*(x13:Int)≤4*(x13:Int):=Int.mul_le_mul_of_nonneg_right oM oM
    refine o_mul Z Z Z oO (aD Z2 (mV Z (xc Z2 (pick_c _ _ H.sub _ _ _ _ _ _ hbs (H.blkIs (k:=0) Z).1 (H.blkIs (k:=0) Z).2 oM _ oO) ?_)))
    rintro _ _ ⟨_,_,_,rfl,H16',⟨p16,x16,_,rfl,_,rfl⟩⟩
    have hchk11_0:=hchk11_0.up H16'.le
    have hle11:=hle11.trans H16'.le
    have H:=H.borrow (k:=0) rfl H16'
    refine⟨_,Z,?_⟩
    have hma16:0≤((k:Int) / 8)*(x16:Int):=Int.mul_nonneg oM oM
    have hmb16:((k:Int) / 8)*(x16:Int)≤4*(x16:Int):=Int.mul_le_mul_of_nonneg_right oM oM
    refine o_quo Z Z Z oM oM oM (aD Z2 (xbs H Z7 ?_));intro _ _ _ H
    refine o_append1 1 H (sz:=1) (bytes:=8) underlying37 typeInfo3 ⟨_,Z,Z⟩ Z Z Z Z Z Z Z Z Z Z oM Z ?_;intro _ _ H
    have hchk19:=hchk11_0.snoc (show intE _ ((x10:Int)+((k:Int) / 8)*(x13:Int)+(x16:Int) / 5) _ from⟨rfl,oO⟩) rfl
    obtain⟨_,_,rfl⟩:=H.accShape (k:=1) rfl
    refine aG Z (R_nil (N_B (N_K (W_region (mV Z (aD Z2 (aG Z (R_nil ?_))))))))
    refine N_lp (hJ:=⟨_,_,_,(xs++[((x10:Int)+((k:Int) / 8)*(x13:Int)+(x16:Int) / 5)]),k+1,p16,_,Z,hle11,H,?inv,Z⟩) (hm:=?hm)
    case hm=>omega
    case inv=>exact⟨hchk19,aN,(by exact⟨by omega,by simp[hxl],by omega⟩)⟩
   intro hc12'
   try simp only[nrm]at hc12'
   refine W_exit (N_K_exit (N_LP_exit (N_B_same (N_K (W_seq (q2 (mV Z (xc Z2 (pick_c _ _ H.sub _ _ _ _ _ _ hbs (H.blkIs (k:=0) Z).1 (H.blkIs (k:=0) Z).2 oM _ oO) ?_))))))))
   rintro _ _ ⟨G21,_,_,rfl,H21',⟨_,x21,_,rfl,_,rfl⟩⟩
   have hbs:=hbs.up H21'.le
   have hchk11_0:=hchk11_0.up H21'.le
   have H:=H.borrow (k:=0) rfl H21'
   refine⟨_,Z,?_⟩
   have hma21:0≤((k:Int) / 8)*(x21:Int):=Int.mul_nonneg oM oM
   have hmb21:((k:Int) / 8)*(x21:Int)≤4*(x21:Int):=Int.mul_le_mul_of_nonneg_right oM oM
   refine q3 (W_block (q2 (pe 2 Z (q3 ?_))))
   refine W_cond Z ?_ ?_
   ·intro hc22
    try simp only[nrm]at hc22
    refine q2 (pe 2 Z (q3 ?_))
    refine W_cond Z ?_ ?_
    ·intro hc23
     try simp only[nrm]at hc23
     refine W_region (pe 3 Z (xc Z2 (pick_c _ _ H.sub _ _ _ _ _ _ hbs (H.blkIs (k:=0) Z).1 (H.blkIs (k:=0) Z).2 oM _ oO) ?_))
     rintro _ _ ⟨_,_,_,rfl,H24',⟨_,x24,_,rfl,_,rfl⟩⟩
     have hchk11_0:=hchk11_0.up H24'.le
     have H:=H.borrow (k:=0) rfl H24'
     refine⟨_,Z,?_⟩
     have hma24:0≤((k:Int) / 8)*(x24:Int):=Int.mul_nonneg oM oM
     have hmb24:((k:Int) / 8)*(x24:Int)≤4*(x24:Int):=Int.mul_le_mul_of_nonneg_right oM oM
     refine o_index_A 1 H x24 Z hchk11_0 underlying37 sizeOf3 Z Z Z Z aN aN ?_;intro _ _ _ hba25 hz25 hE25 _;cases hba25
     obtain⟨rfl,_⟩:=hE25
     have hcl26:=hchk11_0.length
     refine o_store_A 1 H sizeOf3 Z Z Z Z Z (by simp only[vc,List.length_cons,List.length_nil];omega) ?_;intro _ H
     have hchk26:=hchk11_0.put (x':=256) (off:=0) (vs:=[_]) hz25 (fun cs hl hE=>by obtain⟨rfl,_⟩:=hE;exact⟨rfl,oO⟩) (by simp only[vc,List.length_cons,List.length_nil];omega)
     refine R_nil (N_B (N_K (q2 (pe 2 Z (q3 (W_ret (rt1 results145 Z ?_)))))))
     have H:=H.tF 1
     have hcx:=hchk26
     exact H.retM ⟨_,(xs.set x24 256),_,_,oM,rfl,hcx,(by first|(simp;done)|(simp;omega)|(simp at *; omega)|omega),acc_1 aN⟩
    intro hc23'
    try simp only[nrm]at hc23'
    refine W_skip (N_B (N_K (q2 (pe 2 Z (q3 (W_ret (rt1 results145 Z ?_)))))))
    have H:=H.tF 1
    have hcx:=hchk11_0
    exact H.retM ⟨_,xs,_,_,oM,rfl,hcx,(by first|(simp;done)|(simp;omega)|(simp at *; omega)|omega),acc_1 aN⟩
   intro hc22'
   try simp only[nrm]at hc22'
   refine q2 (pe 2 Z (q3 ?_))
   refine W_cond Z ?_ ?_
   ·intro hc27
    try simp only[nrm]at hc27
    refine q2 (o_makeN (c:=33) (sz:=1) (bytes:=8) H underlying37 typeInfo3 ⟨_,Z,Z⟩ Z Z Z Z Z Z Z Z Z oM Z ?_);intro _ _ H
    have hchk28:=Chk.rep (E:=intE) (sz:=1) (G:=G21) (x0:=0) (⟨rfl,by decide⟩) rfl (33)
    refine aG Z (q3 (W_ret (N_B_ret (N_K_ret (rt1 results145 Z ?_)))))
    have H:=H.dl 2
    have H:=H.tF 1
    have H:=H.tF 1
    have hcx:=hchk28
    exact H.retM ⟨_,(List.replicate (33) 0),_,_,oM,rfl,hcx,(by first|(simp;done)|(simp;omega)|(simp at *; omega)|omega),acc_1 aN⟩
   intro hc27'
   try simp only[nrm]at hc27'
   refine W_skip (N_B (N_K (q2 (pe 2 Z (q3 (W_ret (rt1 results145 Z ?_)))))))
   have H:=H.tF 1
   have hcx:=hchk11_0
   exact H.retM ⟨_,xs,_,_,oM,rfl,hcx,(by first|(simp;done)|(simp;omega)|(simp at *; omega)|omega),acc_1 aN⟩
 intro hc8'
 try simp only[nrm]at hc8'
 refine W_skip (N_K (q2 (mV Z (xc Z2 (pick_c _ _ H.sub _ _ _ _ _ _ hbs (H.blkIs (k:=0) Z).1 (H.blkIs (k:=0) Z).2 oM _ oO) ?_))))
 rintro _ _ ⟨G29,_,_,rfl,H29',⟨p29,x29,_,rfl,_,rfl⟩⟩
 have hbs:=hbs.up H29'.le
 have H:=H.borrow (k:=0) rfl H29'
 refine⟨_,Z,?_⟩
 refine aG Z (q3 (W_seq (q2 (aG Z (q3 (W_block ?_))))))
 refine W_lp (hf:=(Sub.cons (t:=0) Z (Sub.cons (t:=2) Z (Sub.cons (t:=4) Z (Sub.cons (t:=5) Z Sub.nil))))) (J:=fun M w m=>∃(v:Value) (n:Nat) (cs:List Value) (xs:List (Int)) (k:Nat) (pp:Nat) (G:PH),M=[(6,.int .i64 (k:Int)),(3,v)]∧PLe G29 G∧Hp w0 G0 [rb] w G [blk rb (cl [.slice ab bs.length kb,.int .i64 (pp:Int)] 130),acc 3 1 v n cs]∧(Chk intE 1 G cs xs∧n=xs.length∧k≤32∧xs.length=k∧pp≤p+10+2*k)∧m=(33-k)) (h0:=⟨_,_,_,[],0,p29,_,Z,PLe.refl _,H,?inv,Z⟩) (round:=?round)
 case inv=>exact⟨(Chk.nil (E:=intE) (sz:=1) (G:=G29)),by first|rfl|simp|(simp;omega)|omega,(by exact⟨by omega,rfl,by omega⟩)⟩
 case round =>
  rintro _ _ _ ⟨v,n,cs,xs,k,pp,_,rfl,hle30,H,hinv30,rfl⟩
  have hbs:=hbs.up hle30
  obtain⟨hchk30_0,_,hinv30⟩:=hinv30
  obtain⟨_,_,rfl⟩:=H.accShape (k:=1) rfl
  obtain⟨hk,hxl,hpp⟩:=hinv30
  refine W_seq (q2 (pe 3 Z (q3 ?_)))
  refine W_cond Z ?_ ?_
  ·intro hc31
   try simp only[nrm]at hc31
   refine W_skip (N_K (W_seq (W_block (W_region (pe 3 Z (o_quo Z Z Z oM oM oM (mV Z (xc Z2 (pick_c _ _ H.sub _ _ _ _ _ _ hbs (H.blkIs (k:=0) Z).1 (H.blkIs (k:=0) Z).2 oM _ oO) ?_))))))))
   rintro _ _ ⟨_,_,_,rfl,H32',⟨_,x32,_,rfl,_,rfl⟩⟩
   have hbs:=hbs.up H32'.le
   have hchk30_0:=hchk30_0.up H32'.le
   have hle30:=hle30.trans H32'.le
   have H:=H.borrow (k:=0) rfl H32'
   refine⟨_,Z,?_⟩
   have hma32:0≤((k:Int) / 8)*(x32:Int):=Int.mul_nonneg oM oM
   have hmb32:((k:Int) / 8)*(x32:Int)≤4*(x32:Int):=Int.mul_le_mul_of_nonneg_right oM oM
   refine o_mul Z Z Z oO (aD Z2 (mV Z (xc Z2 (pick_c _ _ H.sub _ _ _ _ _ _ hbs (H.blkIs (k:=0) Z).1 (H.blkIs (k:=0) Z).2 oM _ oO) ?_)))
   rintro _ _ ⟨_,_,_,rfl,H35',⟨p35,x35,_,rfl,_,rfl⟩⟩
   have hchk30_0:=hchk30_0.up H35'.le
   have hle30:=hle30.trans H35'.le
   have H:=H.borrow (k:=0) rfl H35'
   refine⟨_,Z,?_⟩
   have hma35:0≤((k:Int) / 8)*(x35:Int):=Int.mul_nonneg oM oM
   have hmb35:((k:Int) / 8)*(x35:Int)≤4*(x35:Int):=Int.mul_le_mul_of_nonneg_right oM oM
   refine o_quo Z Z Z oM oM oM (aD Z2 (xbs H Z7 ?_));intro _ _ _ H
   refine o_append1 1 H (sz:=1) (bytes:=8) underlying37 typeInfo3 ⟨_,Z,Z⟩ Z Z Z Z Z Z Z Z Z Z oM Z ?_;intro _ _ H
   have hchk38:=hchk30_0.snoc (show intE _ ((x29:Int)+((k:Int) / 8)*(x32:Int)+(x35:Int) / 5) _ from⟨rfl,oO⟩) rfl
   obtain⟨_,_,rfl⟩:=H.accShape (k:=1) rfl
   refine aG Z (R_nil (N_B (N_K (W_region (mV Z (aD Z2 (aG Z (R_nil ?_))))))))
   refine N_lp (hJ:=⟨_,_,_,(xs++[((x29:Int)+((k:Int) / 8)*(x32:Int)+(x35:Int) / 5)]),k+1,p35,_,Z,hle30,H,?inv,Z⟩) (hm:=?hm)
   case hm=>omega
   case inv=>exact⟨hchk38,aN,(by exact⟨by omega,by simp[hxl],by omega⟩)⟩
  intro hc31'
  try simp only[nrm]at hc31'
  refine W_exit (N_K_exit (N_LP_exit (N_B_same (N_K (W_seq (q2 (mV Z (xc Z2 (pick_c _ _ H.sub _ _ _ _ _ _ hbs (H.blkIs (k:=0) Z).1 (H.blkIs (k:=0) Z).2 oM _ oO) ?_))))))))
  rintro _ _ ⟨G40,_,_,rfl,H40',⟨_,x40,_,rfl,_,rfl⟩⟩
  have hbs:=hbs.up H40'.le
  have hchk30_0:=hchk30_0.up H40'.le
  have H:=H.borrow (k:=0) rfl H40'
  refine⟨_,Z,?_⟩
  have hma40:0≤((k:Int) / 8)*(x40:Int):=Int.mul_nonneg oM oM
  have hmb40:((k:Int) / 8)*(x40:Int)≤4*(x40:Int):=Int.mul_le_mul_of_nonneg_right oM oM
  refine q3 (W_block (q2 (pe 2 Z (q3 ?_))))
  refine W_cond Z ?_ ?_
  ·intro hc41
   try simp only[nrm]at hc41
   refine q2 (pe 2 Z (q3 ?_))
   refine W_cond Z ?_ ?_
   ·intro hc42
    try simp only[nrm]at hc42
    refine W_region (pe 3 Z (xc Z2 (pick_c _ _ H.sub _ _ _ _ _ _ hbs (H.blkIs (k:=0) Z).1 (H.blkIs (k:=0) Z).2 oM _ oO) ?_))
    rintro _ _ ⟨_,_,_,rfl,H43',⟨_,x43,_,rfl,_,rfl⟩⟩
    have hchk30_0:=hchk30_0.up H43'.le
    have H:=H.borrow (k:=0) rfl H43'
    refine⟨_,Z,?_⟩
    have hma43:0≤((k:Int) / 8)*(x43:Int):=Int.mul_nonneg oM oM
    have hmb43:((k:Int) / 8)*(x43:Int)≤4*(x43:Int):=Int.mul_le_mul_of_nonneg_right oM oM
    refine o_index_A 1 H x43 Z hchk30_0 underlying37 sizeOf3 Z Z Z Z aN aN ?_;intro _ _ _ hba44 hz44 hE44 _;cases hba44
    obtain⟨rfl,_⟩:=hE44
    have hcl45:=hchk30_0.length
    refine o_store_A 1 H sizeOf3 Z Z Z Z Z (by simp only[vc,List.length_cons,List.length_nil];omega) ?_;intro _ H
    have hchk45:=hchk30_0.put (x':=256) (off:=0) (vs:=[_]) hz44 (fun cs hl hE=>by obtain⟨rfl,_⟩:=hE;exact⟨rfl,oO⟩) (by simp only[vc,List.length_cons,List.length_nil];omega)
    refine R_nil (N_B (N_K (q2 (pe 2 Z (q3 (W_ret (rt1 results145 Z ?_)))))))
    have H:=H.tF 1
    have hcx:=hchk45
    exact H.retM ⟨_,(xs.set x43 256),_,_,oM,rfl,hcx,(by first|(simp;done)|(simp;omega)|(simp at *; omega)|omega),acc_1 aN⟩
   intro hc42'
   try simp only[nrm]at hc42'
   refine W_skip (N_B (N_K (q2 (pe 2 Z (q3 (W_ret (rt1 results145 Z ?_)))))))
   have H:=H.tF 1
   have hcx:=hchk30_0
   exact H.retM ⟨_,xs,_,_,oM,rfl,hcx,(by first|(simp;done)|(simp;omega)|(simp at *; omega)|omega),acc_1 aN⟩
  intro hc41'
  try simp only[nrm]at hc41'
  refine q2 (pe 2 Z (q3 ?_))
  refine W_cond Z ?_ ?_
  ·intro hc46
   try simp only[nrm]at hc46
   refine q2 (o_makeN (c:=33) (sz:=1) (bytes:=8) H underlying37 typeInfo3 ⟨_,Z,Z⟩ Z Z Z Z Z Z Z Z Z oM Z ?_);intro _ _ H
   have hchk47:=Chk.rep (E:=intE) (sz:=1) (G:=G40) (x0:=0) (⟨rfl,by decide⟩) rfl (33)
   refine aG Z (q3 (W_ret (N_B_ret (N_K_ret (rt1 results145 Z ?_)))))
   have H:=H.dl 2
   have H:=H.tF 1
   have H:=H.tF 1
   have hcx:=hchk47
   exact H.retM ⟨_,(List.replicate (33) 0),_,_,oM,rfl,hcx,(by first|(simp;done)|(simp;omega)|(simp at *; omega)|omega),acc_1 aN⟩
  intro hc46'
  try simp only[nrm]at hc46'
  refine W_skip (N_B (N_K (q2 (pe 2 Z (q3 (W_ret (rt1 results145 Z ?_)))))))
  have H:=H.tF 1
  have hcx:=hchk30_0
  exact H.retM ⟨_,xs,_,_,oM,rfl,hcx,(by first|(simp;done)|(simp;omega)|(simp at *; omega)|omega),acc_1 aN⟩
theorem l91Step_c (w0:World)(G0:PH)(hG:PSub G0 w0)(rb:Nat)(ab:Option Addr)(mb kb:Nat)(bs:List UInt8)(p:Nat)(hbs:RdU G0 (.slice ab mb kb) bs)(hrb:w0.heap[rb]? = some (cl [.slice ab mb kb,.int .i64 (p:Int)] 130))(hrn:G0 rb=none)(hp:p≤100000000)(cu:List Value)(u:BVol)(hu:volE G0 u cu) :
  Calls Tryz.prog 143 #[.pointer (some ⟨rb,0,none⟩),.agg cu.toArray] w0 (RetM w0 G0 [rb] (fun G val Bs=>∃(p':Nat) (v1 v2:Value) (st:List BHeld) (tr:List BItem) (b:Bool) (c:List Value),p'≤p+200∧val= .tuple #[.agg #[v1,v2],.bool b]∧Chk heldE 3 G c st∧st.length≤16∧RdItems G v2 tr∧Bs=[acc 139 3 v1 st.length c,blk rb (cl [.slice ab mb kb,.int .i64 (p':Int)] 130)])):=by
 have hlimbs:bs.length≤1099511627776:=hbs.lim;obtain rfl:mb=bs.length:=hbs.len
 obtain⟨_,_,_,_,_,_,rfl,hr1,hr1',⟨_,_⟩,_,_⟩:=ox hu
 have H:=Hp.initM hG hrb hrn
 refine calls_of_W (l:=[.pointer (some ⟨rb,0,none⟩),_]) func143 Z ntmps143 Z (q2 (o_box H Z Z Z ?_));intro _ _ _ H
 refine xal H Z ?_;intro _ _ _ H
 refine aG Z (q3 (W_seq (q2 (mV Z (xc Z2 (pick_c _ _ H.sub _ _ _ _ _ _ hbs (H.blkIs (k:=2) Z).1 (H.blkIs (k:=2) Z).2 oM _ oO) ?_)))))
 rintro _ _ ⟨G4,_,_,rfl,H4',⟨_,_,_,rfl,_,rfl⟩⟩
 have hbs:=hbs.up H4'.le
 have hr1:=hr1.up H4'.le
 have hr1':=hr1'.up H4'.le
 have H:=H.borrow (k:=2) rfl H4'
 refine⟨_,Z,?_⟩
 refine q3 (W_block (W_seq (q2 (pe 2 Z (q3 ?_)))))
 refine W_cond Z ?_ ?_
 ·intro hc5
  try simp only[nrm]at hc5
  refine W_skip (N_K ?_)
  refine W_cond Z ?_ ?_
  ·intro hc6
   try simp only[nrm]at hc6
   refine W_seq (W_drawK [2] 9 H kR Z ?_);intro _ H;have hd7:=PLe.refl G4
   refine RD_t 0 Z kR Z (fun _ hK=>v_loadagg_B 0 hK isAgg132 sizeOf132 Z Z Z Z) (dE 1 Z2 (r1 2 Z (xbs H Z7 ?_)));intro _ _ _ H
   refine q4 H hd7 (r1 3 Z ?_)
   have H:=H.blkAcc 1 (k:=0) (n:=3) rfl rfl (by decide)
   have hchk10:=((((Chk.nil (E:=strE) (sz:=1) (G:=G4)).snoc (show strE _ ([97]:Fw.Bs) [str [97]] from⟨rfl,by decide⟩) rfl).snoc (show strE _ ([98]:Fw.Bs) [str [98]] from⟨rfl,by decide⟩) rfl).snoc (show strE _ ([97,47,120]:Fw.Bs) [str [97,47,120]] from⟨rfl,by decide⟩) rfl)
   obtain⟨_,H,hsg11,hsr11⟩:=H.shutM (k:=0) (j:=0) rfl rfl hchk10 aN aN
   have hbs:=hbs.up hsg11
   have hr1:=hr1.up hsg11
   have hr1':=hr1'.up hsg11
   have hd7:=hd7.trans hsg11
   refine xc Z2 (of_c _ _ H.sub _ _ _ _ _ _ hbs (H.blkIs (k:=0) Z).1 (H.blkIs (k:=0) Z).2 oM _ _ hsr11 (by first|decide|(simp;done)|(simp;omega))) ?_
   rintro _ _ ⟨_,_,_,rfl,H9',⟨_,_,_,rfl,hxs9,rfl⟩⟩
   have hr1:=hr1.up H9'.le
   have hr1':=hr1'.up H9'.le
   have hd7:=hd7.trans H9'.le
   have H:=H.borrow (k:=0) rfl H9'
   refine⟨_,Z,?_⟩
   refine q4 H hd7 (r1 4 Z (xc Z2 (VolumeDir_c _ _ H.sub _ u ⟨_,_,_,_,_,_,Z,hr1,hr1'⟩ _ hxs9) ?_))
   rintro _ _ ⟨_,_,_,g12,rfl,⟨_,_,rfl,⟨_,rfl,hchk12⟩,hr12_1⟩,hp12,hq12,hs12⟩
   have H:=H.growO g12 hp12 hq12 hs12;obtain⟨_,_,rfl⟩:=H.accShape (k:=0) rfl
   have hd7:=hd7.trans g12.le
   obtain⟨_,_,rfl⟩:=hr12_1.shape;have hx_hr12_1:_≤1099511627776:=hr12_1.lim
   refine⟨_,Z,?_⟩
   refine q4 H hd7 (dE 5 Z2 (dE 6 Z2 (r1 7 Z (xst 2 H Z8 ?_))));intro _ H
   refine q4 H hd7 (dE 8 Z2 (rz (N_K (W_ret (N_B_ret (N_K_ret (ret_gen (rs:=[.cell 4 132,.tmp 5]) (vs:=[_,_]) results143 ⟨⟨_,Z,load_blk 2 H isAgg132 sizeOf132 Z Z Z⟩,Z,trivial⟩ ?_)))))))
   have H:=H.sel [0,1] rfl
   exact H.retM ⟨_,_,_,_,_,_,_,oM,Z,hchk12,Sp.vol_len (fun u2 h2=>Sp.dir_valid h2),hr12_1,acc_1 Z⟩
  intro hc6'
  try simp only[nrm]at hc6'
  refine q2 (pe 2 Z (q3 ?_))
  refine W_cond Z ?_ ?_
  ·intro hc14
   try simp only[nrm]at hc14
   refine W_seq (W_drawK [2] 8 H kR Z ?_);intro _ H;have hd15:=PLe.refl G4
   refine RD_t 0 Z kR Z (fun _ hK=>v_loadagg_B 0 hK isAgg132 sizeOf132 Z Z Z Z) (dE 1 Z2 (r1 2 Z (xc Z2 (l91Path_c _ _ H.sub _ _ _ _ _ _ hbs (H.blkIs (k:=0) Z).1 (H.blkIs (k:=0) Z).2 oM) ?_)))
   rintro _ _ ⟨_,_,_,rfl,H16',⟨_,_,_,rfl,hxs16,rfl⟩⟩
   have hr1:=hr1.up H16'.le
   have hr1':=hr1'.up H16'.le
   have hd15:=hd15.trans H16'.le
   have H:=H.borrow (k:=0) rfl H16'
   refine⟨_,Z,?_⟩
   refine q4 H hd15 (r1 3 Z (xc Z2 (VolumeDrop_c _ _ H.sub _ u ⟨_,_,_,_,_,_,Z,hr1,hr1'⟩ _ hxs16) ?_))
   rintro _ _ ⟨_,_,_,g17,rfl,⟨_,_,rfl,⟨_,rfl,hchk17⟩,hr17_1⟩,hp17,hq17,hs17⟩
   have H:=H.growO g17 hp17 hq17 hs17;obtain⟨_,_,rfl⟩:=H.accShape (k:=0) rfl
   have hd15:=hd15.trans g17.le
   obtain⟨_,_,rfl⟩:=hr17_1.shape;have hx_hr17_1:_≤1099511627776:=hr17_1.lim
   refine⟨_,Z,?_⟩
   refine q4 H hd15 (dE 4 Z2 (dE 5 Z2 (r1 6 Z (xst 2 H Z8 ?_))));intro _ H
   refine q4 H hd15 (dE 7 Z2 (rz (N_K (W_ret (N_B_ret (N_K_ret (ret_gen (rs:=[.cell 4 132,.tmp 5]) (vs:=[_,_]) results143 ⟨⟨_,Z,load_blk 2 H isAgg132 sizeOf132 Z Z Z⟩,Z,trivial⟩ ?_)))))))
   have H:=H.sel [0,1] rfl
   exact H.retM ⟨_,_,_,_,_,_,_,oM,Z,hchk17,Sp.vol_len (fun u2 h2=>Sp.drop_valid h2),hr17_1,acc_1 Z⟩
  intro hc14'
  try simp only[nrm]at hc14'
  refine W_skip (N_B (N_K (q2 (mV Z (xbs H Z7 ?_)))));intro _ _ _ H
  have H:=H.blkAcc 1 (k:=0) (n:=5) rfl rfl (by decide)
  have hchk21:=((((((Chk.nil (E:=strE) (sz:=1) (G:=G4)).snoc (show strE _ ([99]:Fw.Bs) [str [99]] from⟨rfl,by decide⟩) rfl).snoc (show strE _ ([97,47,121]:Fw.Bs) [str [97,47,121]] from⟨rfl,by decide⟩) rfl).snoc (show strE _ ([98,47,120]:Fw.Bs) [str [98,47,120]] from⟨rfl,by decide⟩) rfl).snoc (show strE _ ([97,47,120,47,112]:Fw.Bs) [str [97,47,120,47,112]] from⟨rfl,by decide⟩) rfl).snoc (show strE _ ([100]:Fw.Bs) [str [100]] from⟨rfl,by decide⟩) rfl)
  obtain⟨_,H,hsg22,hsr22⟩:=H.shutM (k:=0) (j:=0) rfl rfl hchk21 aN aN
  have hbs:=hbs.up hsg22
  have hr1:=hr1.up hsg22
  have hr1':=hr1'.up hsg22
  refine xc Z2 (of_c _ _ H.sub _ _ _ _ _ _ hbs (H.blkIs (k:=0) Z).1 (H.blkIs (k:=0) Z).2 oM _ _ hsr22 (by first|decide|(simp;done)|(simp;omega))) ?_
  rintro _ _ ⟨G20,_,_,rfl,H20',⟨_,_,_,rfl,hxs20,rfl⟩⟩
  have hbs:=hbs.up H20'.le
  have hr1:=hr1.up H20'.le
  have hr1':=hr1'.up H20'.le
  have H:=H.borrow (k:=0) rfl H20'
  refine⟨_,Z,?_⟩
  refine aG Z (q3 (W_seq (W_drawK [2] 9 H kR Z ?_)));intro _ H;have hd23:=PLe.refl G20
  refine RD_t 0 Z kR Z (fun _ hK=>v_loadagg_B 0 hK isAgg132 sizeOf132 Z Z Z Z) (dE 1 Z2 (dE 2 Z2 (r1 3 Z (xc Z2 (l91File_c _ _ H.sub _ _ _ _ _ _ hbs (H.blkIs (k:=0) Z).1 (H.blkIs (k:=0) Z).2 oM) ?_))))
  rintro _ _ ⟨_,_,_,rfl,H24',⟨_,_,_,_,_,rfl,hchk24,_,rfl⟩⟩
  have hr1:=hr1.up H24'.le
  have hr1':=hr1'.up H24'.le
  have hd23:=hd23.trans H24'.le
  have H:=H.borrow (k:=0) rfl H24'
  obtain⟨_,_,rfl⟩:=H.accShape (k:=0) rfl
  refine⟨_,Z,?_⟩
  refine q4 H hd23 (r1 4 Z ?_)
  obtain⟨_,H,hsg26,hsr26⟩:=H.shutM (k:=0) (j:=0) rfl rfl hchk24 aN aN
  have hr1:=hr1.up hsg26
  have hr1':=hr1'.up hsg26
  have hd23:=hd23.trans hsg26
  refine xc Z2 (VolumeWrite_c _ _ H.sub _ u ⟨_,_,_,_,_,_,Z,hr1,hr1'⟩ _ hxs20 _ _ hsr26) ?_
  rintro _ _ ⟨_,_,_,g25,rfl,⟨_,_,rfl,⟨_,rfl,hchk25⟩,hr25_1⟩,hp25,hq25,hs25⟩
  have H:=H.growO g25 hp25 hq25 hs25;obtain⟨_,_,rfl⟩:=H.accShape (k:=0) rfl
  have hd23:=hd23.trans g25.le
  obtain⟨_,_,rfl⟩:=hr25_1.shape;have hx_hr25_1:_≤1099511627776:=hr25_1.lim
  refine⟨_,Z,?_⟩
  refine q4 H hd23 (dE 5 Z2 (dE 6 Z2 (r1 7 Z (xst 2 H Z8 ?_))));intro _ H
  refine q4 H hd23 (dE 8 Z2 (rz (N_K (W_ret (ret_gen (rs:=[.cell 4 132,.tmp 5]) (vs:=[_,_]) results143 ⟨⟨_,Z,load_blk 2 H isAgg132 sizeOf132 Z Z Z⟩,Z,trivial⟩ ?_)))))
  have H:=H.sel [0,1] rfl
  exact H.retM ⟨_,_,_,_,_,_,_,oM,Z,hchk25,Sp.vol_len (fun u2 h2=>Sp.vwrite_valid h2),hr25_1,acc_1 Z⟩
 intro hc5'
 try simp only[nrm]at hc5'
 refine q2 (pe 2 Z (q3 ?_))
 refine W_cond Z ?_ ?_
 ·intro hc28
  try simp only[nrm]at hc28
  refine W_skip (N_K ?_)
  refine W_cond Z ?_ ?_
  ·intro hc29
   try simp only[nrm]at hc29
   refine W_seq (W_drawK [2] 9 H kR Z ?_);intro _ H;have hd30:=PLe.refl G4
   refine RD_t 0 Z kR Z (fun _ hK=>v_loadagg_B 0 hK isAgg132 sizeOf132 Z Z Z Z) (dE 1 Z2 (r1 2 Z (xbs H Z7 ?_)));intro _ _ _ H
   refine q4 H hd30 (r1 3 Z ?_)
   have H:=H.blkAcc 1 (k:=0) (n:=3) rfl rfl (by decide)
   have hchk33:=((((Chk.nil (E:=strE) (sz:=1) (G:=G4)).snoc (show strE _ ([97]:Fw.Bs) [str [97]] from⟨rfl,by decide⟩) rfl).snoc (show strE _ ([98]:Fw.Bs) [str [98]] from⟨rfl,by decide⟩) rfl).snoc (show strE _ ([97,47,120]:Fw.Bs) [str [97,47,120]] from⟨rfl,by decide⟩) rfl)
   obtain⟨_,H,hsg34,hsr34⟩:=H.shutM (k:=0) (j:=0) rfl rfl hchk33 aN aN
   have hbs:=hbs.up hsg34
   have hr1:=hr1.up hsg34
   have hr1':=hr1'.up hsg34
   have hd30:=hd30.trans hsg34
   refine xc Z2 (of_c _ _ H.sub _ _ _ _ _ _ hbs (H.blkIs (k:=0) Z).1 (H.blkIs (k:=0) Z).2 oM _ _ hsr34 (by first|decide|(simp;done)|(simp;omega))) ?_
   rintro _ _ ⟨_,_,_,rfl,H32',⟨_,_,_,rfl,hxs32,rfl⟩⟩
   have hr1:=hr1.up H32'.le
   have hr1':=hr1'.up H32'.le
   have hd30:=hd30.trans H32'.le
   have H:=H.borrow (k:=0) rfl H32'
   refine⟨_,Z,?_⟩
   refine q4 H hd30 (r1 4 Z (xc Z2 (VolumeDir_c _ _ H.sub _ u ⟨_,_,_,_,_,_,Z,hr1,hr1'⟩ _ hxs32) ?_))
   rintro _ _ ⟨_,_,_,g35,rfl,⟨_,_,rfl,⟨_,rfl,hchk35⟩,hr35_1⟩,hp35,hq35,hs35⟩
   have H:=H.growO g35 hp35 hq35 hs35;obtain⟨_,_,rfl⟩:=H.accShape (k:=0) rfl
   have hd30:=hd30.trans g35.le
   obtain⟨_,_,rfl⟩:=hr35_1.shape;have hx_hr35_1:_≤1099511627776:=hr35_1.lim
   refine⟨_,Z,?_⟩
   refine q4 H hd30 (dE 5 Z2 (dE 6 Z2 (r1 7 Z (xst 2 H Z8 ?_))));intro _ H
   refine q4 H hd30 (dE 8 Z2 (rz (N_K (W_ret (N_B_ret (N_K_ret (ret_gen (rs:=[.cell 4 132,.tmp 5]) (vs:=[_,_]) results143 ⟨⟨_,Z,load_blk 2 H isAgg132 sizeOf132 Z Z Z⟩,Z,trivial⟩ ?_)))))))
   have H:=H.sel [0,1] rfl
   exact H.retM ⟨_,_,_,_,_,_,_,oM,Z,hchk35,Sp.vol_len (fun u2 h2=>Sp.dir_valid h2),hr35_1,acc_1 Z⟩
  intro hc29'
  try simp only[nrm]at hc29'
  refine q2 (pe 2 Z (q3 ?_))
  refine W_cond Z ?_ ?_
  ·intro hc37
   try simp only[nrm]at hc37
   refine W_seq (W_drawK [2] 8 H kR Z ?_);intro _ H;have hd38:=PLe.refl G4
   refine RD_t 0 Z kR Z (fun _ hK=>v_loadagg_B 0 hK isAgg132 sizeOf132 Z Z Z Z) (dE 1 Z2 (r1 2 Z (xc Z2 (l91Path_c _ _ H.sub _ _ _ _ _ _ hbs (H.blkIs (k:=0) Z).1 (H.blkIs (k:=0) Z).2 oM) ?_)))
   rintro _ _ ⟨_,_,_,rfl,H39',⟨_,_,_,rfl,hxs39,rfl⟩⟩
   have hr1:=hr1.up H39'.le
   have hr1':=hr1'.up H39'.le
   have hd38:=hd38.trans H39'.le
   have H:=H.borrow (k:=0) rfl H39'
   refine⟨_,Z,?_⟩
   refine q4 H hd38 (r1 3 Z (xc Z2 (VolumeDrop_c _ _ H.sub _ u ⟨_,_,_,_,_,_,Z,hr1,hr1'⟩ _ hxs39) ?_))
   rintro _ _ ⟨_,_,_,g40,rfl,⟨_,_,rfl,⟨_,rfl,hchk40⟩,hr40_1⟩,hp40,hq40,hs40⟩
   have H:=H.growO g40 hp40 hq40 hs40;obtain⟨_,_,rfl⟩:=H.accShape (k:=0) rfl
   have hd38:=hd38.trans g40.le
   obtain⟨_,_,rfl⟩:=hr40_1.shape;have hx_hr40_1:_≤1099511627776:=hr40_1.lim
   refine⟨_,Z,?_⟩
   refine q4 H hd38 (dE 4 Z2 (dE 5 Z2 (r1 6 Z (xst 2 H Z8 ?_))));intro _ H
   refine q4 H hd38 (dE 7 Z2 (rz (N_K (W_ret (N_B_ret (N_K_ret (ret_gen (rs:=[.cell 4 132,.tmp 5]) (vs:=[_,_]) results143 ⟨⟨_,Z,load_blk 2 H isAgg132 sizeOf132 Z Z Z⟩,Z,trivial⟩ ?_)))))))
   have H:=H.sel [0,1] rfl
   exact H.retM ⟨_,_,_,_,_,_,_,oM,Z,hchk40,Sp.vol_len (fun u2 h2=>Sp.drop_valid h2),hr40_1,acc_1 Z⟩
  intro hc37'
  try simp only[nrm]at hc37'
  refine W_skip (N_B (N_K (q2 (mV Z (xbs H Z7 ?_)))));intro _ _ _ H
  have H:=H.blkAcc 1 (k:=0) (n:=5) rfl rfl (by decide)
  have hchk44:=((((((Chk.nil (E:=strE) (sz:=1) (G:=G4)).snoc (show strE _ ([99]:Fw.Bs) [str [99]] from⟨rfl,by decide⟩) rfl).snoc (show strE _ ([97,47,121]:Fw.Bs) [str [97,47,121]] from⟨rfl,by decide⟩) rfl).snoc (show strE _ ([98,47,120]:Fw.Bs) [str [98,47,120]] from⟨rfl,by decide⟩) rfl).snoc (show strE _ ([97,47,120,47,112]:Fw.Bs) [str [97,47,120,47,112]] from⟨rfl,by decide⟩) rfl).snoc (show strE _ ([100]:Fw.Bs) [str [100]] from⟨rfl,by decide⟩) rfl)
  obtain⟨_,H,hsg45,hsr45⟩:=H.shutM (k:=0) (j:=0) rfl rfl hchk44 aN aN
  have hbs:=hbs.up hsg45
  have hr1:=hr1.up hsg45
  have hr1':=hr1'.up hsg45
  refine xc Z2 (of_c _ _ H.sub _ _ _ _ _ _ hbs (H.blkIs (k:=0) Z).1 (H.blkIs (k:=0) Z).2 oM _ _ hsr45 (by first|decide|(simp;done)|(simp;omega))) ?_
  rintro _ _ ⟨G43,_,_,rfl,H43',⟨_,_,_,rfl,hxs43,rfl⟩⟩
  have hbs:=hbs.up H43'.le
  have hr1:=hr1.up H43'.le
  have hr1':=hr1'.up H43'.le
  have H:=H.borrow (k:=0) rfl H43'
  refine⟨_,Z,?_⟩
  refine aG Z (q3 (W_seq (W_drawK [2] 9 H kR Z ?_)));intro _ H;have hd46:=PLe.refl G43
  refine RD_t 0 Z kR Z (fun _ hK=>v_loadagg_B 0 hK isAgg132 sizeOf132 Z Z Z Z) (dE 1 Z2 (dE 2 Z2 (r1 3 Z (xc Z2 (l91File_c _ _ H.sub _ _ _ _ _ _ hbs (H.blkIs (k:=0) Z).1 (H.blkIs (k:=0) Z).2 oM) ?_))))
  rintro _ _ ⟨_,_,_,rfl,H47',⟨_,_,_,_,_,rfl,hchk47,_,rfl⟩⟩
  have hr1:=hr1.up H47'.le
  have hr1':=hr1'.up H47'.le
  have hd46:=hd46.trans H47'.le
  have H:=H.borrow (k:=0) rfl H47'
  obtain⟨_,_,rfl⟩:=H.accShape (k:=0) rfl
  refine⟨_,Z,?_⟩
  refine q4 H hd46 (r1 4 Z ?_)
  obtain⟨_,H,hsg49,hsr49⟩:=H.shutM (k:=0) (j:=0) rfl rfl hchk47 aN aN
  have hr1:=hr1.up hsg49
  have hr1':=hr1'.up hsg49
  have hd46:=hd46.trans hsg49
  refine xc Z2 (VolumeWrite_c _ _ H.sub _ u ⟨_,_,_,_,_,_,Z,hr1,hr1'⟩ _ hxs43 _ _ hsr49) ?_
  rintro _ _ ⟨_,_,_,g48,rfl,⟨_,_,rfl,⟨_,rfl,hchk48⟩,hr48_1⟩,hp48,hq48,hs48⟩
  have H:=H.growO g48 hp48 hq48 hs48;obtain⟨_,_,rfl⟩:=H.accShape (k:=0) rfl
  have hd46:=hd46.trans g48.le
  obtain⟨_,_,rfl⟩:=hr48_1.shape;have hx_hr48_1:_≤1099511627776:=hr48_1.lim
  refine⟨_,Z,?_⟩
  refine q4 H hd46 (dE 5 Z2 (dE 6 Z2 (r1 7 Z (xst 2 H Z8 ?_))));intro _ H
  refine q4 H hd46 (dE 8 Z2 (rz (N_K (W_ret (ret_gen (rs:=[.cell 4 132,.tmp 5]) (vs:=[_,_]) results143 ⟨⟨_,Z,load_blk 2 H isAgg132 sizeOf132 Z Z Z⟩,Z,trivial⟩ ?_)))))
  have H:=H.sel [0,1] rfl
  exact H.retM ⟨_,_,_,_,_,_,_,oM,Z,hchk48,Sp.vol_len (fun u2 h2=>Sp.vwrite_valid h2),hr48_1,acc_1 Z⟩
 intro hc28'
 try simp only[nrm]at hc28'
 refine W_region (pe 2 Z (q3 ?_))
 refine W_cond Z ?_ ?_
 ·intro hc51
  try simp only[nrm]at hc51
  refine W_seq (W_drawK [2] 9 H kR Z ?_);intro _ H;have hd52:=PLe.refl G4
  refine RD_t 0 Z kR Z (fun _ hK=>v_loadagg_B 0 hK isAgg132 sizeOf132 Z Z Z Z) (dE 1 Z2 (r1 2 Z (xbs H Z7 ?_)));intro _ _ _ H
  refine q4 H hd52 (r1 3 Z ?_)
  have H:=H.blkAcc 1 (k:=0) (n:=3) rfl rfl (by decide)
  have hchk55:=((((Chk.nil (E:=strE) (sz:=1) (G:=G4)).snoc (show strE _ ([97]:Fw.Bs) [str [97]] from⟨rfl,by decide⟩) rfl).snoc (show strE _ ([98]:Fw.Bs) [str [98]] from⟨rfl,by decide⟩) rfl).snoc (show strE _ ([97,47,120]:Fw.Bs) [str [97,47,120]] from⟨rfl,by decide⟩) rfl)
  obtain⟨_,H,hsg56,hsr56⟩:=H.shutM (k:=0) (j:=0) rfl rfl hchk55 aN aN
  have hbs:=hbs.up hsg56
  have hr1:=hr1.up hsg56
  have hr1':=hr1'.up hsg56
  have hd52:=hd52.trans hsg56
  refine xc Z2 (of_c _ _ H.sub _ _ _ _ _ _ hbs (H.blkIs (k:=0) Z).1 (H.blkIs (k:=0) Z).2 oM _ _ hsr56 (by first|decide|(simp;done)|(simp;omega))) ?_
  rintro _ _ ⟨_,_,_,rfl,H54',⟨_,_,_,rfl,hxs54,rfl⟩⟩
  have hr1:=hr1.up H54'.le
  have hr1':=hr1'.up H54'.le
  have hd52:=hd52.trans H54'.le
  have H:=H.borrow (k:=0) rfl H54'
  refine⟨_,Z,?_⟩
  refine q4 H hd52 (r1 4 Z (xc Z2 (VolumeDir_c _ _ H.sub _ u ⟨_,_,_,_,_,_,Z,hr1,hr1'⟩ _ hxs54) ?_))
  rintro _ _ ⟨_,_,_,g57,rfl,⟨_,_,rfl,⟨_,rfl,hchk57⟩,hr57_1⟩,hp57,hq57,hs57⟩
  have H:=H.growO g57 hp57 hq57 hs57;obtain⟨_,_,rfl⟩:=H.accShape (k:=0) rfl
  have hd52:=hd52.trans g57.le
  obtain⟨_,_,rfl⟩:=hr57_1.shape;have hx_hr57_1:_≤1099511627776:=hr57_1.lim
  refine⟨_,Z,?_⟩
  refine q4 H hd52 (dE 5 Z2 (dE 6 Z2 (r1 7 Z (xst 2 H Z8 ?_))));intro _ H
  refine q4 H hd52 (dE 8 Z2 (rz (N_K (W_ret (N_B_ret (N_K_ret (ret_gen (rs:=[.cell 4 132,.tmp 5]) (vs:=[_,_]) results143 ⟨⟨_,Z,load_blk 2 H isAgg132 sizeOf132 Z Z Z⟩,Z,trivial⟩ ?_)))))))
  have H:=H.sel [0,1] rfl
  exact H.retM ⟨_,_,_,_,_,_,_,oM,Z,hchk57,Sp.vol_len (fun u2 h2=>Sp.dir_valid h2),hr57_1,acc_1 Z⟩
 intro hc51'
 try simp only[nrm]at hc51'
 refine q2 (pe 2 Z (q3 ?_))
 refine W_cond Z ?_ ?_
 ·intro hc59
  try simp only[nrm]at hc59
  refine W_seq (W_drawK [2] 8 H kR Z ?_);intro _ H;have hd60:=PLe.refl G4
  refine RD_t 0 Z kR Z (fun _ hK=>v_loadagg_B 0 hK isAgg132 sizeOf132 Z Z Z Z) (dE 1 Z2 (r1 2 Z (xc Z2 (l91Path_c _ _ H.sub _ _ _ _ _ _ hbs (H.blkIs (k:=0) Z).1 (H.blkIs (k:=0) Z).2 oM) ?_)))
  rintro _ _ ⟨_,_,_,rfl,H61',⟨_,_,_,rfl,hxs61,rfl⟩⟩
  have hr1:=hr1.up H61'.le
  have hr1':=hr1'.up H61'.le
  have hd60:=hd60.trans H61'.le
  have H:=H.borrow (k:=0) rfl H61'
  refine⟨_,Z,?_⟩
  refine q4 H hd60 (r1 3 Z (xc Z2 (VolumeDrop_c _ _ H.sub _ u ⟨_,_,_,_,_,_,Z,hr1,hr1'⟩ _ hxs61) ?_))
  rintro _ _ ⟨_,_,_,g62,rfl,⟨_,_,rfl,⟨_,rfl,hchk62⟩,hr62_1⟩,hp62,hq62,hs62⟩
  have H:=H.growO g62 hp62 hq62 hs62;obtain⟨_,_,rfl⟩:=H.accShape (k:=0) rfl
  have hd60:=hd60.trans g62.le
  obtain⟨_,_,rfl⟩:=hr62_1.shape;have hx_hr62_1:_≤1099511627776:=hr62_1.lim
  refine⟨_,Z,?_⟩
  refine q4 H hd60 (dE 4 Z2 (dE 5 Z2 (r1 6 Z (xst 2 H Z8 ?_))));intro _ H
  refine q4 H hd60 (dE 7 Z2 (rz (N_K (W_ret (N_B_ret (N_K_ret (ret_gen (rs:=[.cell 4 132,.tmp 5]) (vs:=[_,_]) results143 ⟨⟨_,Z,load_blk 2 H isAgg132 sizeOf132 Z Z Z⟩,Z,trivial⟩ ?_)))))))
  have H:=H.sel [0,1] rfl
  exact H.retM ⟨_,_,_,_,_,_,_,oM,Z,hchk62,Sp.vol_len (fun u2 h2=>Sp.drop_valid h2),hr62_1,acc_1 Z⟩
 intro hc59'
 try simp only[nrm]at hc59'
 refine W_skip (N_B (N_K (q2 (mV Z (xbs H Z7 ?_)))));intro _ _ _ H
 have H:=H.blkAcc 1 (k:=0) (n:=5) rfl rfl (by decide)
 have hchk66:=((((((Chk.nil (E:=strE) (sz:=1) (G:=G4)).snoc (show strE _ ([99]:Fw.Bs) [str [99]] from⟨rfl,by decide⟩) rfl).snoc (show strE _ ([97,47,121]:Fw.Bs) [str [97,47,121]] from⟨rfl,by decide⟩) rfl).snoc (show strE _ ([98,47,120]:Fw.Bs) [str [98,47,120]] from⟨rfl,by decide⟩) rfl).snoc (show strE _ ([97,47,120,47,112]:Fw.Bs) [str [97,47,120,47,112]] from⟨rfl,by decide⟩) rfl).snoc (show strE _ ([100]:Fw.Bs) [str [100]] from⟨rfl,by decide⟩) rfl)
 obtain⟨_,H,hsg67,hsr67⟩:=H.shutM (k:=0) (j:=0) rfl rfl hchk66 aN aN
 have hbs:=hbs.up hsg67
 have hr1:=hr1.up hsg67
 have hr1':=hr1'.up hsg67
 refine xc Z2 (of_c _ _ H.sub _ _ _ _ _ _ hbs (H.blkIs (k:=0) Z).1 (H.blkIs (k:=0) Z).2 oM _ _ hsr67 (by first|decide|(simp;done)|(simp;omega))) ?_
 rintro _ _ ⟨G65,_,_,rfl,H65',⟨_,_,_,rfl,hxs65,rfl⟩⟩
 have hbs:=hbs.up H65'.le
 have hr1:=hr1.up H65'.le
 have hr1':=hr1'.up H65'.le
 have H:=H.borrow (k:=0) rfl H65'
 refine⟨_,Z,?_⟩
 refine aG Z (q3 (W_seq (W_drawK [2] 9 H kR Z ?_)));intro _ H;have hd68:=PLe.refl G65
 refine RD_t 0 Z kR Z (fun _ hK=>v_loadagg_B 0 hK isAgg132 sizeOf132 Z Z Z Z) (dE 1 Z2 (dE 2 Z2 (r1 3 Z (xc Z2 (l91File_c _ _ H.sub _ _ _ _ _ _ hbs (H.blkIs (k:=0) Z).1 (H.blkIs (k:=0) Z).2 oM) ?_))))
 rintro _ _ ⟨_,_,_,rfl,H69',⟨_,_,_,_,_,rfl,hchk69,_,rfl⟩⟩
 have hr1:=hr1.up H69'.le
 have hr1':=hr1'.up H69'.le
 have hd68:=hd68.trans H69'.le
 have H:=H.borrow (k:=0) rfl H69'
 obtain⟨_,_,rfl⟩:=H.accShape (k:=0) rfl
 refine⟨_,Z,?_⟩
 refine q4 H hd68 (r1 4 Z ?_)
 obtain⟨_,H,hsg71,hsr71⟩:=H.shutM (k:=0) (j:=0) rfl rfl hchk69 aN aN
 have hr1:=hr1.up hsg71
 have hr1':=hr1'.up hsg71
 have hd68:=hd68.trans hsg71
 refine xc Z2 (VolumeWrite_c _ _ H.sub _ u ⟨_,_,_,_,_,_,Z,hr1,hr1'⟩ _ hxs65 _ _ hsr71) ?_
 rintro _ _ ⟨_,_,_,g70,rfl,⟨_,_,rfl,⟨_,rfl,hchk70⟩,hr70_1⟩,hp70,hq70,hs70⟩
 have H:=H.growO g70 hp70 hq70 hs70;obtain⟨_,_,rfl⟩:=H.accShape (k:=0) rfl
 have hd68:=hd68.trans g70.le
 obtain⟨_,_,rfl⟩:=hr70_1.shape;have hx_hr70_1:_≤1099511627776:=hr70_1.lim
 refine⟨_,Z,?_⟩
 refine q4 H hd68 (dE 5 Z2 (dE 6 Z2 (r1 7 Z (xst 2 H Z8 ?_))));intro _ H
 refine q4 H hd68 (dE 8 Z2 (rz (N_K (W_ret (ret_gen (rs:=[.cell 4 132,.tmp 5]) (vs:=[_,_]) results143 ⟨⟨_,Z,load_blk 2 H isAgg132 sizeOf132 Z Z Z⟩,Z,trivial⟩ ?_)))))
 have H:=H.sel [0,1] rfl
 exact H.retM ⟨_,_,_,_,_,_,_,oM,Z,hchk70,Sp.vol_len (fun u2 h2=>Sp.vwrite_valid h2),hr70_1,acc_1 Z⟩
theorem l91Volume_c (w0:World)(G0:PH)(hG:PSub G0 w0)(rb:Nat)(ab:Option Addr)(mb kb:Nat)(bs:List UInt8)(p:Nat)(hbs:RdU G0 (.slice ab mb kb) bs)(hrb:w0.heap[rb]? = some (cl [.slice ab mb kb,.int .i64 (p:Int)] 130))(hrn:G0 rb=none)(hp:p≤10000000) :
  Calls Tryz.prog 84 #[.pointer (some ⟨rb,0,none⟩)] w0 (RetM w0 G0 [rb] (fun G val Bs=>∃(p':Nat) (v1 v2:Value) (st:List BHeld) (tr:List BItem),p'≤p+3000∧val= .agg #[v1,v2]∧RdH G v1 st∧RdItems G v2 tr∧Bs=[blk rb (cl [.slice ab mb kb,.int .i64 (p':Int)] 130)])):=by
 have hlimbs:bs.length≤1099511627776:=hbs.lim;obtain rfl:mb=bs.length:=hbs.len
 have H:=Hp.initM hG hrb hrn
 refine calls_of_W (l:=[.pointer (some ⟨rb,0,none⟩)]) func84 Z ntmps84 Z (q2 (xal H Z ?_));intro b1 _ _ H
 refine q1 (o_build bf132 Z Z Z (xal H Z ?_));intro b2 _ _ H
 refine xst 0 H Z8 ?_;intro _ H
 refine q1 (mV Z (xc Z2 (pick_c _ _ H.sub _ _ _ _ _ _ hbs (H.blkIs (k:=2) Z).1 (H.blkIs (k:=2) Z).2 oM _ oO) ?_))
 rintro _ _ ⟨G4,_,_,rfl,H4',⟨p4,_,_,rfl,_,rfl⟩⟩
 have hbs:=hbs.up H4'.le
 have H:=H.borrow (k:=2) rfl H4'
 refine⟨_,Z,?_⟩
 refine aD Z2 (aG Z (q3 (W_seq (q2 (aG Z (q3 (W_block ?_)))))))
 obtain⟨ln6,hln6,H⟩:=H.name (k:=2) rfl
 refine W_lp (hf:=(Sub.cons (t:=0) Z (Sub.cons (t:=2) Z (Sub.cons (t:=3) Z (Sub.cons (t:=4) Z Sub.nil))))) (J:=fun M w m=>∃(k:Nat) (va vb:Value) (st:List BHeld) (tr:List BItem) (pp:Nat) (G:PH),M=[(5,.int .i64 (k:Int))]∧PLe G4 G∧Hp w0 G0 [rb] w G [blk rb (cl [.slice ab bs.length kb,.int .i64 (pp:Int)] 130),blk b2 (cl [va,vb] 132),blk b1 (cl ln6 132)]∧(k≤8∧pp≤p+100+201*k∧RdH G va st∧RdItems G vb tr∧Mine w0 G va)∧m=(8-k)) (h0:=⟨0,.slice none 0 0,.slice none 0 0,[],[],p4,_,Z,PLe.refl _,H,?inv,Z⟩) (round:=?round)
 case inv=>exact⟨by omega,by omega,RdS.nil _ _ _,RdS.nil _ _ _,Mine.nil⟩
 case round =>
  rintro _ _ _ ⟨k,va,vb,st,tr,pp,_,rfl,hle7,H,hinv7,rfl⟩
  subst hln6
  have hbs:=hbs.up hle7
  obtain⟨_,_,hst,htr,hmine⟩:=hinv7;obtain⟨_,_,rfl⟩:=hst.shape;obtain⟨_,_,rfl⟩:=htr.shape;have hlst:_≤1099511627776:=hst.lim;have hltr:_≤1099511627776:=htr.lim
  refine W_seq (q2 (pe 3 Z (q3 ?_)))
  refine W_cond Z ?_ ?_
  ·intro hc8
   try simp only[nrm]at hc8
   refine W_skip (N_K (W_seq (W_block (q2 (mV Z (lA 1 2 H Z4 (xc Z2 (l91Step_c _ _ H.sub _ _ _ _ _ _ hbs (H.blkIs (k:=0) Z).1 (H.blkIs (k:=0) Z).2 oM _ ⟨st,tr⟩ ⟨_,_,_,_,_,_,Z,hst,htr⟩) ?_)))))))
   rintro _ _ ⟨_,_,_,rfl,H9',⟨p9,_,_,st9,tr9,_,_,_,rfl,hchk9,_,htr9,rfl⟩⟩
   have hst:=hst.up H9'.le
   have htr:=htr.up H9'.le
   have hmine:=hmine.up H9'.le
   have hle7:=hle7.trans H9'.le
   have H:=H.borrow (k:=0) rfl H9'
   obtain⟨_,_,rfl⟩:=H.accShape (k:=0) rfl
   obtain⟨_,_,rfl⟩:=htr9.shape;have hx_htr9:_≤1099511627776:=htr9.lim
   refine⟨_,Z,?_⟩
   refine pe 3 Z (xal H Z ?_);intro _ _ _ H
   refine xst 0 H Z8 ?_;intro _ H
   refine aG Z (q1 (mV Z (q3 ?_)))
   refine W_cond Z ?_ ?_
   ·intro hc12
    try simp only[nrm]at hc12
    refine W_region (lA 0 2 H Z4 (xst 3 H Z8 ?_));intro _ H
    refine R_nil (N_B (N_K (W_region (mV Z (aD Z2 (aG Z (R_nil ?_)))))))
    obtain⟨_,H,hsg15,hst15,hmine15⟩:=H.shutP (k:=1) (j:=1) rfl rfl hchk9 aN oM
    have htr9:=htr9.up hsg15
    have hle7:=hle7.trans hsg15
    have H:=H.sel [1,2,3] rfl
    refine N_lp (hJ:=⟨k+1,_,_,st9,tr9,p9,_,Z,hle7,H,?inv,Z⟩) (hm:=?hm)
    case hm=>omega
    case inv=>exact⟨by omega,by omega,hst15,htr9,hmine15⟩
   intro hc12'
   try simp only[nrm]at hc12'
   refine W_skip (N_B (N_K (W_region (mV Z (aD Z2 (aG Z (R_nil ?_)))))))
   have H:=H.sel [2,3,4] rfl
   refine N_lp (hJ:=⟨k+1,_,_,st,tr,p9,_,Z,hle7,H,?inv,Z⟩) (hm:=?hm)
   case hm=>omega
   case inv=>exact⟨by omega,by omega,hst,htr,hmine⟩
  intro hc8'
  try simp only[nrm]at hc8'
  refine W_exit (N_K_exit (N_LP_exit (N_B_same (N_K (W_seq (q2 (fA 0 Z (lB 1 H Z3 (lN Z (pe 2 Z ?_))))))))))
  refine R_case (t:=29) Z ?_ ?_
  ·intro hc17
   try simp only[nrm]at hc17
   refine pe 1 Z (gR Z (xc Z2 (pick_c _ _ H.sub _ _ _ _ _ _ hbs (H.blkIs (k:=0) Z).1 (H.blkIs (k:=0) Z).2 oM _ oO) ?_))
   rintro _ _ ⟨G18,_,_,rfl,H18',⟨_,_,_,rfl,_,rfl⟩⟩
   have hbs:=hbs.up H18'.le
   have hst:=hst.up H18'.le
   have htr:=htr.up H18'.le
   have hmine:=hmine.up H18'.le
   have H:=H.borrow (k:=0) rfl H18'
   refine⟨_,Z,?_⟩
   refine pe 2 Z (q3 ?_)
   refine W_cond Z ?_ ?_
   ·intro hc19
    try simp only[nrm]at hc19
    refine W_drawN [1,2] 10 H kR Z ?_;intro _ H;have hd20:=(PLe.none:PLe _ G18)
    refine dF 0 0 Z2 (dB 1 0 Z4 (dE 2 Z2 (dF 3 0 Z2 (dB 4 0 Z4 (dN 5 Z2 (r1 6 Z (xc Z2 (pick_c _ _ H.sub _ _ _ _ _ _ hbs (H.blkIs (k:=0) Z).1 (H.blkIs (k:=0) Z).2 oM _ oO) ?_)))))))
    rintro _ _ ⟨_,_,_,rfl,H21',⟨_,x21,_,rfl,_,rfl⟩⟩
    have hst:=hst.up H21'.le
    have htr:=htr.up H21'.le
    have hmine:=hmine.up H21'.le
    have hd20:=hd20.trans H21'.le
    have H:=H.borrow (k:=0) rfl H21'
    refine⟨_,Z,?_⟩
    refine q4 H hd20 ?_
    have hl22:=hst.len
    obtain⟨_,_,_,_,ha22,_,hq22,hE22,hrow22,_⟩:=hst.at (i:=x21) oM
    clear hq22
    obtain⟨_,_,_,rfl,_,_,_,_,_⟩:=ox hE22
    refine dI 7 3 x21 ha22 Z3 Z (dF 8 2 Z2 (r1 9 Z (o_store_mine H hG hmine ha22 sizeOf3 Z Z oO (hrow22 2 _ Z) hrb Z ?_)));intro _ G23 hgr23 H
    obtain⟨_,_,hst2⟩:=RdS.st hgr23 hst;obtain⟨_,_,htr2⟩:=RdS.st hgr23 htr
    have hd20:=(PLe.none:PLe (fun _=>none) G23)
    refine q4 H hd20 (rz (N_K (q2 (lA 1 2 H Z4 (xst 2 H Z8 ?_)))));intro _ H
    refine q3 (W_ret (ret_gen (rs:=[.cell 2 132]) (vs:=[_]) results84 ⟨⟨_,Z,load_blk 2 H isAgg132 sizeOf132 Z Z Z⟩,trivial⟩ ?_))
    have H:=H.dl 1
    have H:=H.dl 1
    exact H.retM ⟨_,_,_,_,_,oM,Z,hst2,htr2,Z⟩
   intro hc19'
   try simp only[nrm]at hc19'
   refine W_skip (N_K (q2 (lA 1 2 H Z4 (xst 2 H Z8 ?_))));intro _ H
   refine q3 (W_ret (ret_gen (rs:=[.cell 2 132]) (vs:=[_]) results84 ⟨⟨_,Z,load_blk 2 H isAgg132 sizeOf132 Z Z Z⟩,trivial⟩ ?_))
   have H:=H.dl 1
   have H:=H.dl 1
   exact H.retM ⟨_,_,_,_,_,oM,Z,hst,htr,Z⟩
  intro hc17'
  try simp only[nrm]at hc17'
  refine pe 4 Z (q3 (W_false Z (W_skip (N_K (q2 (lA 1 2 H Z4 (xst 2 H Z8 ?_)))))));intro _ H
  refine q3 (W_ret (ret_gen (rs:=[.cell 2 132]) (vs:=[_]) results84 ⟨⟨_,Z,load_blk 2 H isAgg132 sizeOf132 Z Z Z⟩,trivial⟩ ?_))
  have H:=H.dl 1
  have H:=H.dl 1
  exact H.retM ⟨_,_,_,_,_,oM,Z,hst,htr,Z⟩
theorem SnapTake_c (w0:World)(G0:PH)(hG:PSub G0 w0)(cd:List Value)(d:BDisk)(hd:diskE G0 d cd)(name:Bs)(hname:name.length≤16777216) :
  Calls Tryz.prog 144 #[.agg cd.toArray,str name] w0 (RetO w0 G0 (fun G val r=>∃u u1 u2,val= .tuple #[.agg #[u,u1,u2],.bool (Sp.SnapTake d name).isSome]∧AccOf snapE 2 67 (((Sp.SnapTake d name).map (·.snaps)).getD []) G u2 r∧RdH G u (((Sp.SnapTake d name).map (·.store)).getD [])∧RdItems G u1 (((Sp.SnapTake d name).map (·.tree)).getD []))):=by
 obtain⟨_,_,_,_,_,_,_,_,_,rfl,hr1,hr1',hr1'',⟨_,_⟩,⟨_,_⟩,_,_⟩:=ox hd
 have H:=Hp.init hG
 refine calls_of_W (l:=[_,str name]) func144 Z ntmps144 Z (q2 (o_box H Z Z Z ?_));intro _ _ _ H
 refine xal H Z ?_;intro _ _ _ H
 refine aG Z (q3 (W_seq (q2 (lA 1 3 H Z4 (xr H Z2 (DiskValid_c _ _ H.sub _ d ⟨_,_,_,_,_,_,_,_,_,Z,hr1,hr1',hr1''⟩) ?_)))));intro _ H
 refine pe 2 Z ?_
 refine R_case (t:=12) Z ?_ ?_
 ·intro hc5
  try simp only[nrm]at hc5
  refine pe 17 Z (q3 (W_true Z (q2 (o_build bf27 Z Z Z (xst 0 H Z8 ?_)))));intro _ H
  refine aG Z (q3 (W_ret (N_K_ret (ret_gen (rs:=[.cell 4 27,.tmp 5]) (vs:=[_,_]) results144 ⟨⟨_,Z,load_blk 0 H isAgg27 sizeOf27 Z Z Z⟩,Z,trivial⟩ ?_))))
  have hN:Sp.SnapTake d name=none:=by simp[Sp.SnapTake,hc5]
  have H:=H.addNil 67 2
  exact H.retO (k:=0) rfl (by rw[hN];exact⟨_,_,_,rfl,AccOf.mk rfl Chk.nil,RdS.nil _ _ _,RdS.nil _ _ _⟩) (acc_nd _ _ _ _ _)
 intro hc5'
 try simp only[nrm]at hc5'
 refine pe 1 Z (gR Z (xr H Z2 (l1Word_c _ _ hname) ?_));intro _ H
 refine pe 3 Z ?_
 refine R_case (t:=17) Z ?_ ?_
 ·intro hc8
  try simp only[nrm]at hc8
  refine pe 12 Z (q3 (W_true Z (q2 (o_build bf27 Z Z Z (xst 0 H Z8 ?_)))));intro _ H
  refine aG Z (q3 (W_ret (N_K_ret (ret_gen (rs:=[.cell 4 27,.tmp 5]) (vs:=[_,_]) results144 ⟨⟨_,Z,load_blk 0 H isAgg27 sizeOf27 Z Z Z⟩,Z,trivial⟩ ?_))))
  have hN:Sp.SnapTake d name=none:=by simp[Sp.SnapTake,hc8]
  have H:=H.addNil 67 2
  exact H.retO (k:=0) rfl (by rw[hN];exact⟨_,_,_,rfl,AccOf.mk rfl Chk.nil,RdS.nil _ _ _,RdS.nil _ _ _⟩) (acc_nd _ _ _ _ _)
 intro hc8'
 try simp only[nrm]at hc8'
 refine gR Z (fA 2 Z (gR Z (lB 1 H Z3 (pe 1 Z (gR Z (xr H Z2 (l12At_c _ _ H.sub _ _ hr1'' _ hname) ?_))))));intro _ H
 refine pe 3 Z ?_
 refine R_case (t:=24) Z ?_ ?_
 ·intro hc11
  try simp only[nrm]at hc11
  refine pe 5 Z (q3 (W_true Z (q2 (o_build bf27 Z Z Z (xst 0 H Z8 ?_)))));intro _ H
  refine aG Z (q3 (W_ret (N_K_ret (ret_gen (rs:=[.cell 4 27,.tmp 5]) (vs:=[_,_]) results144 ⟨⟨_,Z,load_blk 0 H isAgg27 sizeOf27 Z Z Z⟩,Z,trivial⟩ ?_))))
  have hN:Sp.SnapTake d name=none:=by (obtain⟨_,_,ia,_,_,_,_⟩:=Sp.at_nat hc11);simp[Sp.SnapTake,Sp.atS,ia]
  have H:=H.addNil 67 2
  exact H.retO (k:=0) rfl (by rw[hN];exact⟨_,_,_,rfl,AccOf.mk rfl Chk.nil,RdS.nil _ _ _,RdS.nil _ _ _⟩) (acc_nd _ _ _ _ _)
 intro hc11'
 try simp only[nrm]at hc11'
 refine gR Z (fA 2 Z (gR Z (lB 1 H Z3 (gR Z (lN Z (pe 2 Z (q3 ?_)))))))
 refine W_cond Z ?_ ?_
 ·intro hc13
  try simp only[nrm]at hc13
  refine q2 (o_build bf27 Z Z Z (xst 0 H Z8 ?_));intro _ H
  refine aG Z (q3 (W_ret (N_K_ret (ret_gen (rs:=[.cell 4 27,.tmp 5]) (vs:=[_,_]) results144 ⟨⟨_,Z,load_blk 0 H isAgg27 sizeOf27 Z Z Z⟩,Z,trivial⟩ ?_))))
  have hN:Sp.SnapTake d name=none:=by simp[Sp.SnapTake,show d.snaps.length=6 by omega]
  have H:=H.addNil 67 2
  exact H.retO (k:=0) rfl (by rw[hN];exact⟨_,_,_,rfl,AccOf.mk rfl Chk.nil,RdS.nil _ _ _,RdS.nil _ _ _⟩) (acc_nd _ _ _ _ _)
 intro hc13'
 try simp only[nrm]at hc13'
 refine W_skip (N_K (q2 (fA 0 Z (lB 1 H Z3 (fA 1 Z (lB 1 H Z3 (xc Z2 (l12Keep_c _ _ H.sub _ _ hr1 _ _ hr1') ?_)))))))
 rintro _ _ ⟨_,_,_,g15,rfl,⟨_,rfl,⟨_,rfl,hchk15⟩⟩,hp15,hq15,hs15⟩
 have H:=H.growO g15 hp15 hq15 hs15;obtain⟨_,_,rfl⟩:=H.accShape (k:=0) rfl
 have hr1:=hr1.up g15.le
 have hr1':=hr1'.up g15.le
 have hr1'':=hr1''.up g15.le
 refine⟨_,Z,?_⟩
 have hkl:=Sp.l12Keep_len d.store d.tree
 refine pe 5 Z (q3 (W_seq (q2 (pe 2 Z (q3 ?_)))))
 refine W_cond Z ?_ ?_
 ·intro hc16
  try simp only[nrm]at hc16
  refine q2 (o_build bf27 Z Z Z (xst 1 H Z8 ?_));intro _ H
  refine aG Z (q3 (W_ret (N_K_ret (ret_gen (rs:=[.cell 4 27,.tmp 5]) (vs:=[_,_]) results144 ⟨⟨_,Z,load_blk 1 H isAgg27 sizeOf27 Z Z Z⟩,Z,trivial⟩ ?_))))
  have hN:Sp.SnapTake d name=none:=by (have hno:Sp.l12Keep d.store d.tree=none:=by simpa using hc16);simp[Sp.SnapTake,hno]
  have H:=H.addNil 67 2
  exact H.retO (k:=0) rfl (by rw[hN];exact⟨_,_,_,rfl,AccOf.mk rfl Chk.nil,RdS.nil _ _ _,RdS.nil _ _ _⟩) (acc_nd _ _ _ _ _)
 intro hc16'
 try simp only[nrm]at hc16'
 refine W_skip (N_K (q2 (lA 2 3 H Z4 (xc Z2 (l12Copy_c _ _ H.sub _ d ⟨_,_,_,_,_,_,_,_,_,Z,hr1,hr1',hr1''⟩) ?_))))
 rintro _ _ ⟨G18,_,_,g18,rfl,⟨_,_,_,rfl,⟨_,rfl,hchk18⟩,hr18_0,hr18_1⟩,hp18,hq18,hs18⟩
 have H:=H.growO g18 hp18 hq18 hs18;obtain⟨_,_,rfl⟩:=H.accShape (k:=0) rfl
 have hr1':=hr1'.up g18.le
 have hchk15:=hchk15.up g18.le
 obtain⟨_,_,rfl⟩:=hr18_0.shape;have hx_hr18_0:_≤1099511627776:=hr18_0.lim
 obtain⟨_,_,rfl⟩:=hr18_1.shape;have hx_hr18_1:_≤1099511627776:=hr18_1.lim
 refine⟨_,Z,?_⟩
 refine xal H Z ?_;intro _ _ _ H
 refine xst 0 H Z8 ?_;intro _ H
 refine q1 (mV Z (fA 0 Z (xst 0 H Z8 ?_)));intro _ H
 refine q3 (W_seq (W_drawK [0,3,4] 11 H kR Z ?_));intro _ H;have hd22:=PLe.refl G18
 refine dF 0 2 Z2 (dB 1 0 Z4 (dE 2 Z2 (dF 3 1 Z2 (dB 4 2 Z4 (r1 5 Z (xc Z2 (l5All_c _ _ H.sub _ _ hr1') ?_))))))
 rintro _ _ ⟨_,_,_,g23,rfl,⟨_,rfl,hchk23⟩,hp23,hq23,hs23⟩
 have H:=H.growO g23 hp23 hq23 hs23;obtain⟨_,_,rfl⟩:=H.accShape (k:=0) rfl
 have hchk15:=hchk15.up g23.le
 have hr18_1:=hr18_1.up g23.le
 have hchk18:=hchk18.up g23.le
 have hd22:=hd22.trans g23.le
 refine⟨_,Z,?_⟩
 refine q4 H hd22 (RD_t 6 Z kR Z (fun _ hK=>v_build bf67 Z Z) (r1 7 Z (xbs H Z7 ?_)));intro _ _ _ H
 refine q4 H hd22 (r1 8 Z (o_append1 2 H (sz:=2) (bytes:=40) underlying25 typeInfo67 ⟨_,Z,Z⟩ Z Z Z Z Z Z Z Z Z Z oM Z ?_));intro _ _ H
 obtain⟨_,H,hsg26,hsr26⟩:=H.shut' (k:=0) rfl hchk23 aN aN
 have hchk15:=hchk15.up hsg26
 have hr18_1:=hr18_1.up hsg26
 have hchk18:=hchk18.up hsg26
 have hd22:=hd22.trans hsg26
 have hchk25:=hchk18.snoc (show snapE _ ⟨name,d.tree⟩ _ from⟨_,_,_,rfl,hname,hsr26⟩) rfl
 obtain⟨_,_,rfl⟩:=H.accShape (k:=1) rfl
 refine q4 H hd22 (dF 9 2 Z2 (r1 10 Z (xst 0 H Z8 ?_)));intro _ H
 refine R_nil (N_DKlast kR kR (N_K (q2 (lA 0 3 H Z4 (xst 3 H Z8 ?_)))));intro _ H
 refine aG Z (q3 (W_ret (ret_gen (rs:=[.cell 4 27,.tmp 5]) (vs:=[_,_]) results144 ⟨⟨_,Z,load_blk 3 H isAgg27 sizeOf27 Z Z Z⟩,Z,trivial⟩ ?_)))
 obtain⟨_,H,hsg530,hsr530⟩:=H.shut' (k:=2) rfl hchk15 aN aN
 have hr18_1:=hr18_1.up hsg530
 have hchk25:=hchk25.up hsg530
 have hY:Sp.SnapTake d name=some ⟨(Sp.l12Keep d.store d.tree).getD [],d.tree,d.snaps++[⟨name,d.tree⟩]⟩:=by (obtain⟨_,hp⟩:=Option.isSome_iff_exists.1 hc16');(have hat:Sp.atS d.snaps name=none:=Sp.at_none hc11');simp[Sp.SnapTake,hc5',hc8',hat,hp,show¬d.snaps.length=6 by omega]
 exact H.retO (k:=1) rfl (by rw[hY];exact⟨_,_,_,rfl,AccOf.mk aN hchk25,hsr530,hr18_1⟩) (acc_nd _ _ _ _ _)
theorem SnapTakeP_c (w0:World)(G0:PH)(hG:PSub G0 w0)(cd:List Value)(d:BDisk)(hd:diskE G0 d cd)(name:Bs)(hname:name.length≤16777216) :
  Calls Tryz.prog 144 #[.agg cd.toArray,str name] w0 (RetP w0 G0 (fun G val=>∃cs,val= .tuple #[.agg cs.toArray,.bool (Sp.SnapTake d name).isSome]∧diskE G ((Sp.SnapTake d name).getD ⟨[],[],[]⟩) cs)):=by
 refine(SnapTake_c w0 G0 hG cd d hd name hname).mono ?_
 rintro _ _ ⟨_,_,_,g,rfl,⟨_,_,_,rfl,⟨_,rfl,hchk⟩,h1,h2⟩,hp,hq,hs⟩
 have H:=(Hp.init hG).growO g hp hq hs
 have hb:(((Sp.SnapTake d name).map (·.snaps)).getD []).length≤6:=Sp.dk_lim (fun d1 h=>Sp.take_valid h)
 obtain⟨_,H2,hle,hr⟩:=H.shut' (k:=0) rfl hchk rfl oM
 have e1:((Sp.SnapTake d name).map (·.store)).getD []=((Sp.SnapTake d name).getD ⟨[],[],[]⟩).store:=by cases Sp.SnapTake d name<;>rfl
 have e2:((Sp.SnapTake d name).map (·.tree)).getD []=((Sp.SnapTake d name).getD ⟨[],[],[]⟩).tree:=by cases Sp.SnapTake d name<;>rfl
 have e3:((Sp.SnapTake d name).map (·.snaps)).getD []=((Sp.SnapTake d name).getD ⟨[],[],[]⟩).snaps:=by cases Sp.SnapTake d name<;>rfl
 rw[e1]at h1;rw[e2]at h2;rw[e3]at hr
 obtain⟨_,_,rfl⟩:=h1.shape
 obtain⟨_,_,rfl⟩:=h2.shape
 obtain⟨_,_,rfl⟩:=hr.shape
 exact H2.retP ⟨[_,_,_],Z,_,_,_,_,_,_,_,_,_,Z,h1.up hle,h2.up hle,hr⟩
theorem l91Turn_c (w0:World)(G0:PH)(hG:PSub G0 w0)(rb:Nat)(ab:Option Addr)(mb kb:Nat)(bs:List UInt8)(p:Nat)(hbs:RdU G0 (.slice ab mb kb) bs)(hrb:w0.heap[rb]? = some (cl [.slice ab mb kb,.int .i64 (p:Int)] 130))(hrn:G0 rb=none)(hp:p≤100000000)(cd:List Value)(d:BDisk)(hd:diskE G0 d cd) :
  Calls Tryz.prog 85 #[.pointer (some ⟨rb,0,none⟩),.agg cd.toArray] w0 (RetM w0 G0 [rb] (fun G val Bs=>∃(p':Nat) (v1 v2 v3:Value) (st:List BHeld) (tr:List BItem) (sn:List BSnap) (b:Bool),p'≤p+200∧val= .tuple #[.agg #[v1,v2,v3],.bool b]∧RdH G v1 st∧RdItems G v2 tr∧RdSn G v3 sn∧Bs=[blk rb (cl [.slice ab mb kb,.int .i64 (p':Int)] 130)])):=by
 have hlimbs:bs.length≤1099511627776:=hbs.lim;obtain rfl:mb=bs.length:=hbs.len
 obtain⟨_,_,_,_,_,_,_,_,_,rfl,hr1,hr1',hr1'',⟨_,_⟩,⟨_,_⟩,_,_⟩:=ox hd
 have H:=Hp.initM hG hrb hrn
 refine calls_of_W (l:=[.pointer (some ⟨rb,0,none⟩),_]) func85 Z ntmps85 Z (q2 (o_box H Z Z Z ?_));intro _ _ _ H
 refine xal H Z ?_;intro _ _ _ H
 refine aG Z (q3 (W_seq (q2 (mV Z (xc Z2 (pick_c _ _ H.sub _ _ _ _ _ _ hbs (H.blkIs (k:=2) Z).1 (H.blkIs (k:=2) Z).2 oM _ oO) ?_)))))
 rintro _ _ ⟨G4,_,_,rfl,H4',⟨_,_,_,rfl,_,rfl⟩⟩
 have hbs:=hbs.up H4'.le
 have hr1:=hr1.up H4'.le
 have hr1':=hr1'.up H4'.le
 have hr1'':=hr1''.up H4'.le
 have H:=H.borrow (k:=2) rfl H4'
 refine⟨_,Z,?_⟩
 refine q3 (W_block (W_seq (q2 (pe 2 Z (q3 ?_)))))
 refine W_cond Z ?_ ?_
 ·intro hc5
  try simp only[nrm]at hc5
  refine W_skip (N_K ?_)
  refine W_cond Z ?_ ?_
  ·intro hc6
   try simp only[nrm]at hc6
   refine W_seq (W_drawK [2] 9 H kR Z ?_);intro _ H;have hd7:=PLe.refl G4
   refine RD_t 0 Z kR Z (fun _ hK=>v_loadagg_B 0 hK isAgg27 sizeOf27 Z Z Z Z) (dE 1 Z2 (r1 2 Z (xbs H Z7 ?_)));intro _ _ _ H
   refine q4 H hd7 (r1 3 Z ?_)
   have H:=H.blkAcc 1 (k:=0) (n:=3) rfl rfl (by decide)
   have hchk10:=((((Chk.nil (E:=strE) (sz:=1) (G:=G4)).snoc (show strE _ ([115]:Fw.Bs) [str [115]] from⟨rfl,by decide⟩) rfl).snoc (show strE _ ([116]:Fw.Bs) [str [116]] from⟨rfl,by decide⟩) rfl).snoc (show strE _ ([117]:Fw.Bs) [str [117]] from⟨rfl,by decide⟩) rfl)
   obtain⟨_,H,hsg11,hsr11⟩:=H.shutM (k:=0) (j:=0) rfl rfl hchk10 aN aN
   have hbs:=hbs.up hsg11
   have hr1:=hr1.up hsg11
   have hr1':=hr1'.up hsg11
   have hr1'':=hr1''.up hsg11
   have hd7:=hd7.trans hsg11
   refine xc Z2 (of_c _ _ H.sub _ _ _ _ _ _ hbs (H.blkIs (k:=0) Z).1 (H.blkIs (k:=0) Z).2 oM _ _ hsr11 (by first|decide|(simp;done)|(simp;omega))) ?_
   rintro _ _ ⟨_,_,_,rfl,H9',⟨_,_,_,rfl,hxs9,rfl⟩⟩
   have hr1:=hr1.up H9'.le
   have hr1':=hr1'.up H9'.le
   have hr1'':=hr1''.up H9'.le
   have hd7:=hd7.trans H9'.le
   have H:=H.borrow (k:=0) rfl H9'
   refine⟨_,Z,?_⟩
   refine q4 H hd7 (r1 4 Z (xc Z2 (SnapTakeP_c _ _ H.sub _ d ⟨_,_,_,_,_,_,_,_,_,Z,hr1,hr1',hr1''⟩ _ hxs9) ?_))
   rintro _ _ ⟨_,_,g12,rfl,_,rfl,hr12_0⟩
   have H:=H.grow g12
   have hd7:=hd7.trans g12.le
   obtain⟨_,_,_,_,_,_,_,_,_,rfl,hr13,hr13',hr13'',⟨_,_⟩,⟨_,_⟩,_,_⟩:=ox hr12_0
   refine⟨_,Z,?_⟩
   refine q4 H hd7 (dE 5 Z2 (dE 6 Z2 (r1 7 Z (xst 1 H Z8 ?_))));intro _ H
   refine q4 H hd7 (dE 8 Z2 (rz (N_K (W_ret (N_B_ret (N_K_ret (ret_gen (rs:=[.cell 4 27,.tmp 5]) (vs:=[_,_]) results85 ⟨⟨_,Z,load_blk 1 H isAgg27 sizeOf27 Z Z Z⟩,Z,trivial⟩ ?_)))))))
   have H:=H.dl 1
   have H:=H.dl 1
   exact H.retM ⟨_,_,_,_,_,_,_,_,oM,Z,hr13,hr13',hr13'',Z⟩
  intro hc6'
  try simp only[nrm]at hc6'
  refine q2 (pe 2 Z (q3 ?_))
  refine W_cond Z ?_ ?_
  ·intro hc15
   try simp only[nrm]at hc15
   refine W_seq (W_drawK [2] 9 H kR Z ?_);intro _ H;have hd16:=PLe.refl G4
   refine RD_t 0 Z kR Z (fun _ hK=>v_loadagg_B 0 hK isAgg27 sizeOf27 Z Z Z Z) (dE 1 Z2 (r1 2 Z (xbs H Z7 ?_)));intro _ _ _ H
   refine q4 H hd16 (r1 3 Z ?_)
   have H:=H.blkAcc 1 (k:=0) (n:=2) rfl rfl (by decide)
   have hchk19:=(((Chk.nil (E:=strE) (sz:=1) (G:=G4)).snoc (show strE _ ([115]:Fw.Bs) [str [115]] from⟨rfl,by decide⟩) rfl).snoc (show strE _ ([116]:Fw.Bs) [str [116]] from⟨rfl,by decide⟩) rfl)
   obtain⟨_,H,hsg20,hsr20⟩:=H.shutM (k:=0) (j:=0) rfl rfl hchk19 aN aN
   have hbs:=hbs.up hsg20
   have hr1:=hr1.up hsg20
   have hr1':=hr1'.up hsg20
   have hr1'':=hr1''.up hsg20
   have hd16:=hd16.trans hsg20
   refine xc Z2 (of_c _ _ H.sub _ _ _ _ _ _ hbs (H.blkIs (k:=0) Z).1 (H.blkIs (k:=0) Z).2 oM _ _ hsr20 (by first|decide|(simp;done)|(simp;omega))) ?_
   rintro _ _ ⟨_,_,_,rfl,H18',⟨_,_,_,rfl,hxs18,rfl⟩⟩
   have hr1:=hr1.up H18'.le
   have hr1':=hr1'.up H18'.le
   have hr1'':=hr1''.up H18'.le
   have hd16:=hd16.trans H18'.le
   have H:=H.borrow (k:=0) rfl H18'
   refine⟨_,Z,?_⟩
   refine q4 H hd16 (r1 4 Z (xc Z2 (SnapBackP_c _ _ H.sub _ d ⟨_,_,_,_,_,_,_,_,_,Z,hr1,hr1',hr1''⟩ _ hxs18) ?_))
   rintro _ _ ⟨_,_,g21,rfl,_,rfl,hr21_0⟩
   have H:=H.grow g21
   have hd16:=hd16.trans g21.le
   obtain⟨_,_,_,_,_,_,_,_,_,rfl,hr22,hr22',hr22'',⟨_,_⟩,⟨_,_⟩,_,_⟩:=ox hr21_0
   refine⟨_,Z,?_⟩
   refine q4 H hd16 (dE 5 Z2 (dE 6 Z2 (r1 7 Z (xst 1 H Z8 ?_))));intro _ H
   refine q4 H hd16 (dE 8 Z2 (rz (N_K (W_ret (N_B_ret (N_K_ret (ret_gen (rs:=[.cell 4 27,.tmp 5]) (vs:=[_,_]) results85 ⟨⟨_,Z,load_blk 1 H isAgg27 sizeOf27 Z Z Z⟩,Z,trivial⟩ ?_)))))))
   have H:=H.dl 1
   have H:=H.dl 1
   exact H.retM ⟨_,_,_,_,_,_,_,_,oM,Z,hr22,hr22',hr22'',Z⟩
  intro hc15'
  try simp only[nrm]at hc15'
  refine W_skip (N_B (N_K (q2 (mV Z (xbs H Z7 ?_)))));intro _ _ _ H
  have H:=H.blkAcc 1 (k:=0) (n:=5) rfl rfl (by decide)
  have hchk26:=((((((Chk.nil (E:=strE) (sz:=1) (G:=G4)).snoc (show strE _ ([99]:Fw.Bs) [str [99]] from⟨rfl,by decide⟩) rfl).snoc (show strE _ ([97,47,121]:Fw.Bs) [str [97,47,121]] from⟨rfl,by decide⟩) rfl).snoc (show strE _ ([98,47,120]:Fw.Bs) [str [98,47,120]] from⟨rfl,by decide⟩) rfl).snoc (show strE _ ([97,47,120,47,112]:Fw.Bs) [str [97,47,120,47,112]] from⟨rfl,by decide⟩) rfl).snoc (show strE _ ([100]:Fw.Bs) [str [100]] from⟨rfl,by decide⟩) rfl)
  obtain⟨_,H,hsg27,hsr27⟩:=H.shutM (k:=0) (j:=0) rfl rfl hchk26 aN aN
  have hbs:=hbs.up hsg27
  have hr1:=hr1.up hsg27
  have hr1':=hr1'.up hsg27
  have hr1'':=hr1''.up hsg27
  refine xc Z2 (of_c _ _ H.sub _ _ _ _ _ _ hbs (H.blkIs (k:=0) Z).1 (H.blkIs (k:=0) Z).2 oM _ _ hsr27 (by first|decide|(simp;done)|(simp;omega))) ?_
  rintro _ _ ⟨G25,_,_,rfl,H25',⟨_,_,_,rfl,hxs25,rfl⟩⟩
  have hbs:=hbs.up H25'.le
  have hr1:=hr1.up H25'.le
  have hr1':=hr1'.up H25'.le
  have hr1'':=hr1''.up H25'.le
  have H:=H.borrow (k:=0) rfl H25'
  refine⟨_,Z,?_⟩
  refine aG Z (q3 (W_seq (W_drawK [2] 9 H kR Z ?_)));intro _ H;have hd28:=PLe.refl G25
  refine RD_t 0 Z kR Z (fun _ hK=>v_loadagg_B 0 hK isAgg27 sizeOf27 Z Z Z Z) (dE 1 Z2 (dE 2 Z2 (r1 3 Z (xc Z2 (l91File_c _ _ H.sub _ _ _ _ _ _ hbs (H.blkIs (k:=0) Z).1 (H.blkIs (k:=0) Z).2 oM) ?_))))
  rintro _ _ ⟨_,_,_,rfl,H29',⟨_,_,_,_,_,rfl,hchk29,_,rfl⟩⟩
  have hr1:=hr1.up H29'.le
  have hr1':=hr1'.up H29'.le
  have hr1'':=hr1''.up H29'.le
  have hd28:=hd28.trans H29'.le
  have H:=H.borrow (k:=0) rfl H29'
  obtain⟨_,_,rfl⟩:=H.accShape (k:=0) rfl
  refine⟨_,Z,?_⟩
  refine q4 H hd28 (r1 4 Z ?_)
  obtain⟨_,H,hsg31,hsr31⟩:=H.shutM (k:=0) (j:=0) rfl rfl hchk29 aN aN
  have hr1:=hr1.up hsg31
  have hr1':=hr1'.up hsg31
  have hr1'':=hr1''.up hsg31
  have hd28:=hd28.trans hsg31
  refine xc Z2 (DiskWriteP_c _ _ H.sub _ d ⟨_,_,_,_,_,_,_,_,_,Z,hr1,hr1',hr1''⟩ _ hxs25 _ _ hsr31) ?_
  rintro _ _ ⟨_,_,g30,rfl,_,rfl,hr30_0⟩
  have H:=H.grow g30
  have hd28:=hd28.trans g30.le
  obtain⟨_,_,_,_,_,_,_,_,_,rfl,hr32,hr32',hr32'',⟨_,_⟩,⟨_,_⟩,_,_⟩:=ox hr30_0
  refine⟨_,Z,?_⟩
  refine q4 H hd28 (dE 5 Z2 (dE 6 Z2 (r1 7 Z (xst 1 H Z8 ?_))));intro _ H
  refine q4 H hd28 (dE 8 Z2 (rz (N_K (W_ret (ret_gen (rs:=[.cell 4 27,.tmp 5]) (vs:=[_,_]) results85 ⟨⟨_,Z,load_blk 1 H isAgg27 sizeOf27 Z Z Z⟩,Z,trivial⟩ ?_)))))
  have H:=H.dl 1
  have H:=H.dl 1
  exact H.retM ⟨_,_,_,_,_,_,_,_,oM,Z,hr32,hr32',hr32'',Z⟩
 intro hc5'
 try simp only[nrm]at hc5'
 refine q2 (pe 2 Z (q3 ?_))
 refine W_cond Z ?_ ?_
 ·intro hc34
  try simp only[nrm]at hc34
  refine W_skip (N_K ?_)
  refine W_cond Z ?_ ?_
  ·intro hc35
   try simp only[nrm]at hc35
   refine W_seq (W_drawK [2] 9 H kR Z ?_);intro _ H;have hd36:=PLe.refl G4
   refine RD_t 0 Z kR Z (fun _ hK=>v_loadagg_B 0 hK isAgg27 sizeOf27 Z Z Z Z) (dE 1 Z2 (r1 2 Z (xbs H Z7 ?_)));intro _ _ _ H
   refine q4 H hd36 (r1 3 Z ?_)
   have H:=H.blkAcc 1 (k:=0) (n:=3) rfl rfl (by decide)
   have hchk39:=((((Chk.nil (E:=strE) (sz:=1) (G:=G4)).snoc (show strE _ ([115]:Fw.Bs) [str [115]] from⟨rfl,by decide⟩) rfl).snoc (show strE _ ([116]:Fw.Bs) [str [116]] from⟨rfl,by decide⟩) rfl).snoc (show strE _ ([117]:Fw.Bs) [str [117]] from⟨rfl,by decide⟩) rfl)
   obtain⟨_,H,hsg40,hsr40⟩:=H.shutM (k:=0) (j:=0) rfl rfl hchk39 aN aN
   have hbs:=hbs.up hsg40
   have hr1:=hr1.up hsg40
   have hr1':=hr1'.up hsg40
   have hr1'':=hr1''.up hsg40
   have hd36:=hd36.trans hsg40
   refine xc Z2 (of_c _ _ H.sub _ _ _ _ _ _ hbs (H.blkIs (k:=0) Z).1 (H.blkIs (k:=0) Z).2 oM _ _ hsr40 (by first|decide|(simp;done)|(simp;omega))) ?_
   rintro _ _ ⟨_,_,_,rfl,H38',⟨_,_,_,rfl,hxs38,rfl⟩⟩
   have hr1:=hr1.up H38'.le
   have hr1':=hr1'.up H38'.le
   have hr1'':=hr1''.up H38'.le
   have hd36:=hd36.trans H38'.le
   have H:=H.borrow (k:=0) rfl H38'
   refine⟨_,Z,?_⟩
   refine q4 H hd36 (r1 4 Z (xc Z2 (SnapTakeP_c _ _ H.sub _ d ⟨_,_,_,_,_,_,_,_,_,Z,hr1,hr1',hr1''⟩ _ hxs38) ?_))
   rintro _ _ ⟨_,_,g41,rfl,_,rfl,hr41_0⟩
   have H:=H.grow g41
   have hd36:=hd36.trans g41.le
   obtain⟨_,_,_,_,_,_,_,_,_,rfl,hr42,hr42',hr42'',⟨_,_⟩,⟨_,_⟩,_,_⟩:=ox hr41_0
   refine⟨_,Z,?_⟩
   refine q4 H hd36 (dE 5 Z2 (dE 6 Z2 (r1 7 Z (xst 1 H Z8 ?_))));intro _ H
   refine q4 H hd36 (dE 8 Z2 (rz (N_K (W_ret (N_B_ret (N_K_ret (ret_gen (rs:=[.cell 4 27,.tmp 5]) (vs:=[_,_]) results85 ⟨⟨_,Z,load_blk 1 H isAgg27 sizeOf27 Z Z Z⟩,Z,trivial⟩ ?_)))))))
   have H:=H.dl 1
   have H:=H.dl 1
   exact H.retM ⟨_,_,_,_,_,_,_,_,oM,Z,hr42,hr42',hr42'',Z⟩
  intro hc35'
  try simp only[nrm]at hc35'
  refine q2 (pe 2 Z (q3 ?_))
  refine W_cond Z ?_ ?_
  ·intro hc44
   try simp only[nrm]at hc44
   refine W_seq (W_drawK [2] 9 H kR Z ?_);intro _ H;have hd45:=PLe.refl G4
   refine RD_t 0 Z kR Z (fun _ hK=>v_loadagg_B 0 hK isAgg27 sizeOf27 Z Z Z Z) (dE 1 Z2 (r1 2 Z (xbs H Z7 ?_)));intro _ _ _ H
   refine q4 H hd45 (r1 3 Z ?_)
   have H:=H.blkAcc 1 (k:=0) (n:=2) rfl rfl (by decide)
   have hchk48:=(((Chk.nil (E:=strE) (sz:=1) (G:=G4)).snoc (show strE _ ([115]:Fw.Bs) [str [115]] from⟨rfl,by decide⟩) rfl).snoc (show strE _ ([116]:Fw.Bs) [str [116]] from⟨rfl,by decide⟩) rfl)
   obtain⟨_,H,hsg49,hsr49⟩:=H.shutM (k:=0) (j:=0) rfl rfl hchk48 aN aN
   have hbs:=hbs.up hsg49
   have hr1:=hr1.up hsg49
   have hr1':=hr1'.up hsg49
   have hr1'':=hr1''.up hsg49
   have hd45:=hd45.trans hsg49
   refine xc Z2 (of_c _ _ H.sub _ _ _ _ _ _ hbs (H.blkIs (k:=0) Z).1 (H.blkIs (k:=0) Z).2 oM _ _ hsr49 (by first|decide|(simp;done)|(simp;omega))) ?_
   rintro _ _ ⟨_,_,_,rfl,H47',⟨_,_,_,rfl,hxs47,rfl⟩⟩
   have hr1:=hr1.up H47'.le
   have hr1':=hr1'.up H47'.le
   have hr1'':=hr1''.up H47'.le
   have hd45:=hd45.trans H47'.le
   have H:=H.borrow (k:=0) rfl H47'
   refine⟨_,Z,?_⟩
   refine q4 H hd45 (r1 4 Z (xc Z2 (SnapBackP_c _ _ H.sub _ d ⟨_,_,_,_,_,_,_,_,_,Z,hr1,hr1',hr1''⟩ _ hxs47) ?_))
   rintro _ _ ⟨_,_,g50,rfl,_,rfl,hr50_0⟩
   have H:=H.grow g50
   have hd45:=hd45.trans g50.le
   obtain⟨_,_,_,_,_,_,_,_,_,rfl,hr51,hr51',hr51'',⟨_,_⟩,⟨_,_⟩,_,_⟩:=ox hr50_0
   refine⟨_,Z,?_⟩
   refine q4 H hd45 (dE 5 Z2 (dE 6 Z2 (r1 7 Z (xst 1 H Z8 ?_))));intro _ H
   refine q4 H hd45 (dE 8 Z2 (rz (N_K (W_ret (N_B_ret (N_K_ret (ret_gen (rs:=[.cell 4 27,.tmp 5]) (vs:=[_,_]) results85 ⟨⟨_,Z,load_blk 1 H isAgg27 sizeOf27 Z Z Z⟩,Z,trivial⟩ ?_)))))))
   have H:=H.dl 1
   have H:=H.dl 1
   exact H.retM ⟨_,_,_,_,_,_,_,_,oM,Z,hr51,hr51',hr51'',Z⟩
  intro hc44'
  try simp only[nrm]at hc44'
  refine W_skip (N_B (N_K (q2 (mV Z (xbs H Z7 ?_)))));intro _ _ _ H
  have H:=H.blkAcc 1 (k:=0) (n:=5) rfl rfl (by decide)
  have hchk55:=((((((Chk.nil (E:=strE) (sz:=1) (G:=G4)).snoc (show strE _ ([99]:Fw.Bs) [str [99]] from⟨rfl,by decide⟩) rfl).snoc (show strE _ ([97,47,121]:Fw.Bs) [str [97,47,121]] from⟨rfl,by decide⟩) rfl).snoc (show strE _ ([98,47,120]:Fw.Bs) [str [98,47,120]] from⟨rfl,by decide⟩) rfl).snoc (show strE _ ([97,47,120,47,112]:Fw.Bs) [str [97,47,120,47,112]] from⟨rfl,by decide⟩) rfl).snoc (show strE _ ([100]:Fw.Bs) [str [100]] from⟨rfl,by decide⟩) rfl)
  obtain⟨_,H,hsg56,hsr56⟩:=H.shutM (k:=0) (j:=0) rfl rfl hchk55 aN aN
  have hbs:=hbs.up hsg56
  have hr1:=hr1.up hsg56
  have hr1':=hr1'.up hsg56
  have hr1'':=hr1''.up hsg56
  refine xc Z2 (of_c _ _ H.sub _ _ _ _ _ _ hbs (H.blkIs (k:=0) Z).1 (H.blkIs (k:=0) Z).2 oM _ _ hsr56 (by first|decide|(simp;done)|(simp;omega))) ?_
  rintro _ _ ⟨G54,_,_,rfl,H54',⟨_,_,_,rfl,hxs54,rfl⟩⟩
  have hbs:=hbs.up H54'.le
  have hr1:=hr1.up H54'.le
  have hr1':=hr1'.up H54'.le
  have hr1'':=hr1''.up H54'.le
  have H:=H.borrow (k:=0) rfl H54'
  refine⟨_,Z,?_⟩
  refine aG Z (q3 (W_seq (W_drawK [2] 9 H kR Z ?_)));intro _ H;have hd57:=PLe.refl G54
  refine RD_t 0 Z kR Z (fun _ hK=>v_loadagg_B 0 hK isAgg27 sizeOf27 Z Z Z Z) (dE 1 Z2 (dE 2 Z2 (r1 3 Z (xc Z2 (l91File_c _ _ H.sub _ _ _ _ _ _ hbs (H.blkIs (k:=0) Z).1 (H.blkIs (k:=0) Z).2 oM) ?_))))
  rintro _ _ ⟨_,_,_,rfl,H58',⟨_,_,_,_,_,rfl,hchk58,_,rfl⟩⟩
  have hr1:=hr1.up H58'.le
  have hr1':=hr1'.up H58'.le
  have hr1'':=hr1''.up H58'.le
  have hd57:=hd57.trans H58'.le
  have H:=H.borrow (k:=0) rfl H58'
  obtain⟨_,_,rfl⟩:=H.accShape (k:=0) rfl
  refine⟨_,Z,?_⟩
  refine q4 H hd57 (r1 4 Z ?_)
  obtain⟨_,H,hsg60,hsr60⟩:=H.shutM (k:=0) (j:=0) rfl rfl hchk58 aN aN
  have hr1:=hr1.up hsg60
  have hr1':=hr1'.up hsg60
  have hr1'':=hr1''.up hsg60
  have hd57:=hd57.trans hsg60
  refine xc Z2 (DiskWriteP_c _ _ H.sub _ d ⟨_,_,_,_,_,_,_,_,_,Z,hr1,hr1',hr1''⟩ _ hxs54 _ _ hsr60) ?_
  rintro _ _ ⟨_,_,g59,rfl,_,rfl,hr59_0⟩
  have H:=H.grow g59
  have hd57:=hd57.trans g59.le
  obtain⟨_,_,_,_,_,_,_,_,_,rfl,hr61,hr61',hr61'',⟨_,_⟩,⟨_,_⟩,_,_⟩:=ox hr59_0
  refine⟨_,Z,?_⟩
  refine q4 H hd57 (dE 5 Z2 (dE 6 Z2 (r1 7 Z (xst 1 H Z8 ?_))));intro _ H
  refine q4 H hd57 (dE 8 Z2 (rz (N_K (W_ret (ret_gen (rs:=[.cell 4 27,.tmp 5]) (vs:=[_,_]) results85 ⟨⟨_,Z,load_blk 1 H isAgg27 sizeOf27 Z Z Z⟩,Z,trivial⟩ ?_)))))
  have H:=H.dl 1
  have H:=H.dl 1
  exact H.retM ⟨_,_,_,_,_,_,_,_,oM,Z,hr61,hr61',hr61'',Z⟩
 intro hc34'
 try simp only[nrm]at hc34'
 refine W_region (pe 2 Z (q3 ?_))
 refine W_cond Z ?_ ?_
 ·intro hc63
  try simp only[nrm]at hc63
  refine W_seq (W_drawK [2] 9 H kR Z ?_);intro _ H;have hd64:=PLe.refl G4
  refine RD_t 0 Z kR Z (fun _ hK=>v_loadagg_B 0 hK isAgg27 sizeOf27 Z Z Z Z) (dE 1 Z2 (r1 2 Z (xbs H Z7 ?_)));intro _ _ _ H
  refine q4 H hd64 (r1 3 Z ?_)
  have H:=H.blkAcc 1 (k:=0) (n:=3) rfl rfl (by decide)
  have hchk67:=((((Chk.nil (E:=strE) (sz:=1) (G:=G4)).snoc (show strE _ ([115]:Fw.Bs) [str [115]] from⟨rfl,by decide⟩) rfl).snoc (show strE _ ([116]:Fw.Bs) [str [116]] from⟨rfl,by decide⟩) rfl).snoc (show strE _ ([117]:Fw.Bs) [str [117]] from⟨rfl,by decide⟩) rfl)
  obtain⟨_,H,hsg68,hsr68⟩:=H.shutM (k:=0) (j:=0) rfl rfl hchk67 aN aN
  have hbs:=hbs.up hsg68
  have hr1:=hr1.up hsg68
  have hr1':=hr1'.up hsg68
  have hr1'':=hr1''.up hsg68
  have hd64:=hd64.trans hsg68
  refine xc Z2 (of_c _ _ H.sub _ _ _ _ _ _ hbs (H.blkIs (k:=0) Z).1 (H.blkIs (k:=0) Z).2 oM _ _ hsr68 (by first|decide|(simp;done)|(simp;omega))) ?_
  rintro _ _ ⟨_,_,_,rfl,H66',⟨_,_,_,rfl,hxs66,rfl⟩⟩
  have hr1:=hr1.up H66'.le
  have hr1':=hr1'.up H66'.le
  have hr1'':=hr1''.up H66'.le
  have hd64:=hd64.trans H66'.le
  have H:=H.borrow (k:=0) rfl H66'
  refine⟨_,Z,?_⟩
  refine q4 H hd64 (r1 4 Z (xc Z2 (SnapTakeP_c _ _ H.sub _ d ⟨_,_,_,_,_,_,_,_,_,Z,hr1,hr1',hr1''⟩ _ hxs66) ?_))
  rintro _ _ ⟨_,_,g69,rfl,_,rfl,hr69_0⟩
  have H:=H.grow g69
  have hd64:=hd64.trans g69.le
  obtain⟨_,_,_,_,_,_,_,_,_,rfl,hr70,hr70',hr70'',⟨_,_⟩,⟨_,_⟩,_,_⟩:=ox hr69_0
  refine⟨_,Z,?_⟩
  refine q4 H hd64 (dE 5 Z2 (dE 6 Z2 (r1 7 Z (xst 1 H Z8 ?_))));intro _ H
  refine q4 H hd64 (dE 8 Z2 (rz (N_K (W_ret (N_B_ret (N_K_ret (ret_gen (rs:=[.cell 4 27,.tmp 5]) (vs:=[_,_]) results85 ⟨⟨_,Z,load_blk 1 H isAgg27 sizeOf27 Z Z Z⟩,Z,trivial⟩ ?_)))))))
  have H:=H.dl 1
  have H:=H.dl 1
  exact H.retM ⟨_,_,_,_,_,_,_,_,oM,Z,hr70,hr70',hr70'',Z⟩
 intro hc63'
 try simp only[nrm]at hc63'
 refine q2 (pe 2 Z (q3 ?_))
 refine W_cond Z ?_ ?_
 ·intro hc72
  try simp only[nrm]at hc72
  refine W_seq (W_drawK [2] 9 H kR Z ?_);intro _ H;have hd73:=PLe.refl G4
  refine RD_t 0 Z kR Z (fun _ hK=>v_loadagg_B 0 hK isAgg27 sizeOf27 Z Z Z Z) (dE 1 Z2 (r1 2 Z (xbs H Z7 ?_)));intro _ _ _ H
  refine q4 H hd73 (r1 3 Z ?_)
  have H:=H.blkAcc 1 (k:=0) (n:=2) rfl rfl (by decide)
  have hchk76:=(((Chk.nil (E:=strE) (sz:=1) (G:=G4)).snoc (show strE _ ([115]:Fw.Bs) [str [115]] from⟨rfl,by decide⟩) rfl).snoc (show strE _ ([116]:Fw.Bs) [str [116]] from⟨rfl,by decide⟩) rfl)
  obtain⟨_,H,hsg77,hsr77⟩:=H.shutM (k:=0) (j:=0) rfl rfl hchk76 aN aN
  have hbs:=hbs.up hsg77
  have hr1:=hr1.up hsg77
  have hr1':=hr1'.up hsg77
  have hr1'':=hr1''.up hsg77
  have hd73:=hd73.trans hsg77
  refine xc Z2 (of_c _ _ H.sub _ _ _ _ _ _ hbs (H.blkIs (k:=0) Z).1 (H.blkIs (k:=0) Z).2 oM _ _ hsr77 (by first|decide|(simp;done)|(simp;omega))) ?_
  rintro _ _ ⟨_,_,_,rfl,H75',⟨_,_,_,rfl,hxs75,rfl⟩⟩
  have hr1:=hr1.up H75'.le
  have hr1':=hr1'.up H75'.le
  have hr1'':=hr1''.up H75'.le
  have hd73:=hd73.trans H75'.le
  have H:=H.borrow (k:=0) rfl H75'
  refine⟨_,Z,?_⟩
  refine q4 H hd73 (r1 4 Z (xc Z2 (SnapBackP_c _ _ H.sub _ d ⟨_,_,_,_,_,_,_,_,_,Z,hr1,hr1',hr1''⟩ _ hxs75) ?_))
  rintro _ _ ⟨_,_,g78,rfl,_,rfl,hr78_0⟩
  have H:=H.grow g78
  have hd73:=hd73.trans g78.le
  obtain⟨_,_,_,_,_,_,_,_,_,rfl,hr79,hr79',hr79'',⟨_,_⟩,⟨_,_⟩,_,_⟩:=ox hr78_0
  refine⟨_,Z,?_⟩
  refine q4 H hd73 (dE 5 Z2 (dE 6 Z2 (r1 7 Z (xst 1 H Z8 ?_))));intro _ H
  refine q4 H hd73 (dE 8 Z2 (rz (N_K (W_ret (N_B_ret (N_K_ret (ret_gen (rs:=[.cell 4 27,.tmp 5]) (vs:=[_,_]) results85 ⟨⟨_,Z,load_blk 1 H isAgg27 sizeOf27 Z Z Z⟩,Z,trivial⟩ ?_)))))))
  have H:=H.dl 1
  have H:=H.dl 1
  exact H.retM ⟨_,_,_,_,_,_,_,_,oM,Z,hr79,hr79',hr79'',Z⟩
 intro hc72'
 try simp only[nrm]at hc72'
 refine W_skip (N_B (N_K (q2 (mV Z (xbs H Z7 ?_)))));intro _ _ _ H
 have H:=H.blkAcc 1 (k:=0) (n:=5) rfl rfl (by decide)
 have hchk83:=((((((Chk.nil (E:=strE) (sz:=1) (G:=G4)).snoc (show strE _ ([99]:Fw.Bs) [str [99]] from⟨rfl,by decide⟩) rfl).snoc (show strE _ ([97,47,121]:Fw.Bs) [str [97,47,121]] from⟨rfl,by decide⟩) rfl).snoc (show strE _ ([98,47,120]:Fw.Bs) [str [98,47,120]] from⟨rfl,by decide⟩) rfl).snoc (show strE _ ([97,47,120,47,112]:Fw.Bs) [str [97,47,120,47,112]] from⟨rfl,by decide⟩) rfl).snoc (show strE _ ([100]:Fw.Bs) [str [100]] from⟨rfl,by decide⟩) rfl)
 obtain⟨_,H,hsg84,hsr84⟩:=H.shutM (k:=0) (j:=0) rfl rfl hchk83 aN aN
 have hbs:=hbs.up hsg84
 have hr1:=hr1.up hsg84
 have hr1':=hr1'.up hsg84
 have hr1'':=hr1''.up hsg84
 refine xc Z2 (of_c _ _ H.sub _ _ _ _ _ _ hbs (H.blkIs (k:=0) Z).1 (H.blkIs (k:=0) Z).2 oM _ _ hsr84 (by first|decide|(simp;done)|(simp;omega))) ?_
 rintro _ _ ⟨G82,_,_,rfl,H82',⟨_,_,_,rfl,hxs82,rfl⟩⟩
 have hbs:=hbs.up H82'.le
 have hr1:=hr1.up H82'.le
 have hr1':=hr1'.up H82'.le
 have hr1'':=hr1''.up H82'.le
 have H:=H.borrow (k:=0) rfl H82'
 refine⟨_,Z,?_⟩
 refine aG Z (q3 (W_seq (W_drawK [2] 9 H kR Z ?_)));intro _ H;have hd85:=PLe.refl G82
 refine RD_t 0 Z kR Z (fun _ hK=>v_loadagg_B 0 hK isAgg27 sizeOf27 Z Z Z Z) (dE 1 Z2 (dE 2 Z2 (r1 3 Z (xc Z2 (l91File_c _ _ H.sub _ _ _ _ _ _ hbs (H.blkIs (k:=0) Z).1 (H.blkIs (k:=0) Z).2 oM) ?_))))
 rintro _ _ ⟨_,_,_,rfl,H86',⟨_,_,_,_,_,rfl,hchk86,_,rfl⟩⟩
 have hr1:=hr1.up H86'.le
 have hr1':=hr1'.up H86'.le
 have hr1'':=hr1''.up H86'.le
 have hd85:=hd85.trans H86'.le
 have H:=H.borrow (k:=0) rfl H86'
 obtain⟨_,_,rfl⟩:=H.accShape (k:=0) rfl
 refine⟨_,Z,?_⟩
 refine q4 H hd85 (r1 4 Z ?_)
 obtain⟨_,H,hsg88,hsr88⟩:=H.shutM (k:=0) (j:=0) rfl rfl hchk86 aN aN
 have hr1:=hr1.up hsg88
 have hr1':=hr1'.up hsg88
 have hr1'':=hr1''.up hsg88
 have hd85:=hd85.trans hsg88
 refine xc Z2 (DiskWriteP_c _ _ H.sub _ d ⟨_,_,_,_,_,_,_,_,_,Z,hr1,hr1',hr1''⟩ _ hxs82 _ _ hsr88) ?_
 rintro _ _ ⟨_,_,g87,rfl,_,rfl,hr87_0⟩
 have H:=H.grow g87
 have hd85:=hd85.trans g87.le
 obtain⟨_,_,_,_,_,_,_,_,_,rfl,hr89,hr89',hr89'',⟨_,_⟩,⟨_,_⟩,_,_⟩:=ox hr87_0
 refine⟨_,Z,?_⟩
 refine q4 H hd85 (dE 5 Z2 (dE 6 Z2 (r1 7 Z (xst 1 H Z8 ?_))));intro _ H
 refine q4 H hd85 (dE 8 Z2 (rz (N_K (W_ret (ret_gen (rs:=[.cell 4 27,.tmp 5]) (vs:=[_,_]) results85 ⟨⟨_,Z,load_blk 1 H isAgg27 sizeOf27 Z Z Z⟩,Z,trivial⟩ ?_)))))
 have H:=H.dl 1
 have H:=H.dl 1
 exact H.retM ⟨_,_,_,_,_,_,_,_,oM,Z,hr89,hr89',hr89'',Z⟩
theorem l91Disk_c (w0:World)(G0:PH)(hG:PSub G0 w0)(rb:Nat)(ab:Option Addr)(mb kb:Nat)(bs:List UInt8)(p:Nat)(hbs:RdU G0 (.slice ab mb kb) bs)(hrb:w0.heap[rb]? = some (cl [.slice ab mb kb,.int .i64 (p:Int)] 130))(hrn:G0 rb=none)(hp:p≤5000000) :
  Calls Tryz.prog 32 #[.pointer (some ⟨rb,0,none⟩)] w0 (RetM w0 G0 [rb] (fun G val Bs=>∃(p':Nat) (v1 v2 v3:Value) (st:List BHeld) (tr:List BItem) (sn:List BSnap),p'≤p+5000∧val= .agg #[v1,v2,v3]∧RdH G v1 st∧RdItems G v2 tr∧RdSn G v3 sn∧Bs=[blk rb (cl [.slice ab mb kb,.int .i64 (p':Int)] 130)])):=by
 have hlimbs:bs.length≤1099511627776:=hbs.lim;obtain rfl:mb=bs.length:=hbs.len
 have H:=Hp.initM hG hrb hrn
 refine calls_of_W (l:=[.pointer (some ⟨rb,0,none⟩)]) func32 Z ntmps32 Z (q2 (xal H Z ?_));intro b1 _ _ H
 refine q1 (mV Z (xc Z2 (l91Volume_c _ _ H.sub _ _ _ _ _ _ hbs (H.blkIs (k:=1) Z).1 (H.blkIs (k:=1) Z).2 oM) ?_))
 rintro _ _ ⟨_,_,_,rfl,H2',⟨_,_,_,st2,tr2,_,rfl,hst2,htr2,rfl⟩⟩
 have hbs:=hbs.up H2'.le
 have H:=H.borrow (k:=1) rfl H2'
 obtain⟨_,_,rfl⟩:=hst2.shape;obtain⟨_,_,rfl⟩:=htr2.shape;have hx_hst2:_≤1099511627776:=hst2.lim;have hx_htr2:_≤1099511627776:=htr2.lim
 refine⟨_,Z,?_⟩
 refine xal H Z ?_;intro b3 _ _ H
 refine xst 0 H Z8 ?_;intro _ H
 refine q1 (fA 0 Z (lB 0 H Z3 (fA 1 Z (lB 0 H Z3 (o_build bf27 Z Z Z (xal H Z ?_))))));intro b5 _ _ H
 refine xst 0 H Z8 ?_;intro _ H
 refine q1 (mV Z (xc Z2 (pick_c _ _ H.sub _ _ _ _ _ _ hbs (H.blkIs (k:=2) Z).1 (H.blkIs (k:=2) Z).2 oM _ oO) ?_))
 rintro _ _ ⟨G7,_,_,rfl,H7',⟨p7,_,_,rfl,_,rfl⟩⟩
 have hbs:=hbs.up H7'.le
 have hst2:=hst2.up H7'.le
 have htr2:=htr2.up H7'.le
 have H:=H.borrow (k:=2) rfl H7'
 refine⟨_,Z,?_⟩
 refine aG Z (q3 (W_seq (q2 (aG Z (q3 (W_block ?_))))))
 obtain⟨ln8,hln8,H⟩:=H.name (k:=2) rfl
 obtain⟨ln9,hln9,H⟩:=H.name (k:=3) rfl
 refine W_lp (hf:=(Sub.cons (t:=0) Z (Sub.cons (t:=2) Z (Sub.cons (t:=4) Z (Sub.cons (t:=5) Z Sub.nil))))) (J:=fun M w m=>∃(k:Nat) (va vb vc:Value) (st:List BHeld) (tr:List BItem) (sn:List BSnap) (pp:Nat) (G:PH),M=[(6,.int .i64 (k:Int))]∧PLe G7 G∧Hp w0 G0 [rb] w G [blk rb (cl [.slice ab bs.length kb,.int .i64 (pp:Int)] 130),blk b5 (cl [va,vb,vc] 27),blk b3 (cl ln8 132),blk b1 (cl ln9 27)]∧(k≤7∧pp≤p+3100+201*k∧RdH G va st∧RdItems G vb tr∧RdSn G vc sn)∧m=(8-k)) (h0:=⟨0,_,_,_,st2,tr2,[],p7,_,Z,PLe.refl _,H,?inv,Z⟩) (round:=?round)
 case inv=>exact⟨by omega,by omega,hst2,htr2,(RdS.nil _ _ _)⟩
 case round =>
  rintro _ _ _ ⟨k,va,vb,vc,st,tr,sn,pp,_,rfl,hle10,H,hinv10,rfl⟩
  subst hln8
  subst hln9
  have hbs:=hbs.up hle10
  obtain⟨_,_,hst,htr,hsn⟩:=hinv10;obtain⟨_,_,rfl⟩:=hst.shape;have hlhst:_≤1099511627776:=hst.lim;obtain⟨_,_,rfl⟩:=htr.shape;have hlhtr:_≤1099511627776:=htr.lim;obtain⟨_,_,rfl⟩:=hsn.shape;have hlhsn:_≤1099511627776:=hsn.lim
  refine W_seq (q2 (pe 3 Z (q3 ?_)))
  refine W_cond Z ?_ ?_
  ·intro hc11
   try simp only[nrm]at hc11
   refine W_skip (N_K (W_seq (W_block (q2 (mV Z (lA 1 3 H Z4 (xc Z2 (l91Turn_c _ _ H.sub _ _ _ _ _ _ hbs (H.blkIs (k:=0) Z).1 (H.blkIs (k:=0) Z).2 oM _ ⟨st,tr,sn⟩ ⟨_,_,_,_,_,_,_,_,_,Z,hst,htr,hsn⟩) ?_)))))))
   rintro _ _ ⟨_,_,_,rfl,H12',⟨p12,_,_,_,st12,tr12,sn12,_,_,rfl,hst12,htr12,hsn12,rfl⟩⟩
   have hst:=hst.up H12'.le
   have htr:=htr.up H12'.le
   have hsn:=hsn.up H12'.le
   have hle10:=hle10.trans H12'.le
   have H:=H.borrow (k:=0) rfl H12'
   obtain⟨_,_,rfl⟩:=hst12.shape;have hx_hst12:_≤1099511627776:=hst12.lim;obtain⟨_,_,rfl⟩:=htr12.shape;have hx_htr12:_≤1099511627776:=htr12.lim;obtain⟨_,_,rfl⟩:=hsn12.shape;have hx_hsn12:_≤1099511627776:=hsn12.lim
   refine⟨_,Z,?_⟩
   refine pe 3 Z (xal H Z ?_);intro _ _ _ H
   refine xst 0 H Z8 ?_;intro _ H
   refine aG Z (q1 (mV Z (q3 ?_)))
   refine W_cond Z ?_ ?_
   ·intro hc15
    try simp only[nrm]at hc15
    refine W_region (lA 0 3 H Z4 (xst 2 H Z8 ?_));intro _ H
    refine R_nil (N_B (N_K (W_region (mV Z (aD Z2 (aG Z (R_nil ?_)))))))
    have H:=H.sel [1,2,3,4] rfl
    refine N_lp (hJ:=⟨k+1,_,_,_,st12,tr12,sn12,p12,_,Z,hle10,H,?inv,Z⟩) (hm:=?hm)
    case hm=>omega
    case inv=>exact⟨by omega,by omega,hst12,htr12,hsn12⟩
   intro hc15'
   try simp only[nrm]at hc15'
   refine W_skip (N_B (N_K (W_region (mV Z (aD Z2 (aG Z (R_nil ?_)))))))
   have H:=H.sel [1,2,3,4] rfl
   refine N_lp (hJ:=⟨k+1,_,_,_,st,tr,sn,p12,_,Z,hle10,H,?inv,Z⟩) (hm:=?hm)
   case hm=>omega
   case inv=>exact⟨by omega,by omega,hst,htr,hsn⟩
  intro hc11'
  try simp only[nrm]at hc11'
  refine W_exit (N_K_exit (N_LP_exit (N_B_same (N_K (q2 (lA 1 3 H Z4 (xst 3 H Z8 ?_)))))));intro _ H
  refine q3 (W_ret (ret_gen (rs:=[.cell 2 27]) (vs:=[_]) results32 ⟨⟨_,Z,load_blk 3 H isAgg27 sizeOf27 Z Z Z⟩,trivial⟩ ?_))
  have H:=H.dl 1
  have H:=H.dl 1
  have H:=H.dl 1
  exact H.retM ⟨_,_,_,_,_,_,_,oM,Z,hst,htr,hsn,Z⟩
theorem l4Load_c (w0:World)(G0:PH)(hG:PSub G0 w0)(vlist:Value)(list:List (BHeld))(hlist:RdH G0 vlist list)(vids:Value)(ids:List (Int))(hids:RdI G0 vids ids)(hl4:Sp.l4Ids list ids=true)(hSv:Sp.StoreValid list=true) :
  Calls Tryz.prog 57 #[vlist,vids] w0 (RetO w0 G0 (AccOf intE 1 3 (Sp.load list ids))):=by
 obtain⟨alist,klist,rfl⟩:=hlist.shape
 have hlimlist:list.length≤1099511627776:=hlist.lim
 obtain⟨aids,kids,rfl⟩:=hids.shape
 have hlimids:ids.length≤1099511627776:=hids.lim
 have H:=Hp.init hG
 have hil:=Sp.ids_le hl4
 refine calls_of_W (l:=[.slice alist list.length klist,.slice aids ids.length kids]) func57 Z ntmps57 Z (q2 (aG Z (q1 (xbs H Z7 ?_))));intro _ _ _ H
 have H:=H.blkAcc 1 (k:=0) (n:=0) rfl rfl (by decide)
 refine aG Z (q3 (W_seq (q2 (aG Z (q3 (W_block ?_))))))
 refine W_lp (hf:=(Sub.cons (t:=0) Z (Sub.cons (t:=1) Z (Sub.cons (t:=4) Z Sub.nil)))) (J:=fun M w m=>∃(v:Value) (n:Nat) (cs:List Value) (xs:List (Int)) (k:Nat) (G:PH),M=[(6,.int .i64 (k:Int)),(5,v)]∧PLe G0 G∧Hp w0 G0 [] w G [acc 3 1 v n cs]∧(Chk intE 1 G cs xs∧n=xs.length∧k≤ids.length∧xs.length≤8*k∧xs=Sp.load list (ids.take k))∧m=(ids.length-k)) (h0:=⟨_,_,_,[],0,_,Z,PLe.refl _,H,?inv,Z⟩) (round:=?round)
 case inv=>exact⟨(Chk.nil (E:=intE) (sz:=1) (G:=G0)),by first|rfl|simp|(simp;omega)|omega,(by exact⟨by omega,by simp,by simp[Sp.load]⟩)⟩
 case round =>
  rintro _ _ _ ⟨v,n,cs,xs,k,_,rfl,hle2,H,hinv2,rfl⟩
  have hlist:=hlist.up hle2
  have hids:=hids.up hle2
  obtain⟨hchk2_0,_,hinv2⟩:=hinv2
  obtain⟨_,_,rfl⟩:=H.accShape (k:=0) rfl
  obtain⟨_,_,hxs⟩:=hinv2
  refine W_seq (q2 (pe 2 Z (lN Z (pe 1 Z (q3 ?_)))))
  refine W_cond Z ?_ ?_
  ·intro hc3
   try simp only[nrm]at hc3
   refine W_skip (N_K (W_seq (W_block (W_region (pe 5 Z (iP k hids Z3 Z ?_))))));intro _ _ z4 _ hz4 hE4 hrow4
   obtain⟨rfl,_⟩:=hE4
   obtain⟨j,hj1,_,hj3⟩:=Sp.ids_at hSv hl4 hz4
   refine lP H hrow4 0 Z2 (xr H Z2 (l3At_c _ _ H.sub _ _ hlist _) ?_);intro _ H
   refine iP j hlist Z3 hj1 ?_;intro _ _ z6 _ hz6 hE6 hrow6
   obtain⟨_,_,_,rfl,_,hr6,_,_,_⟩:=ox hE6
   have hze:z6=Fw.getH list z4:=Option.some.inj (hz6.symm.trans hj3)
   have hzl:=Sp.get_len (Sp.valid_iff.1 hSv) z4
   (rw[←hze]at hzl)
   refine fA 1 Z (lP H hrow6 1 Z2 ?_)
   refine o_append_P 0 H hr6 (by intro _ cs hz _ hu;obtain⟨rfl,_⟩:=hz;simp at hu;subst hu;rfl) (sz:=1) (bytes:=8) underlying37 typeInfo3 ⟨_,rfl,rfl⟩ rfl rfl rfl rfl rfl rfl rfl oM rfl ?_;intro _ _ css7 hcl7 hcs7 H
   have hchk7:=hchk2_0.app (show Chk _ _ _ _ _ from⟨css7,rfl,hcl7,hcs7⟩)
   obtain⟨_,_,rfl⟩:=H.accShape (k:=0) rfl
   refine aG Z (R_nil (N_B (N_K (W_region (mV Z (aD Z2 (aG Z (R_nil ?_))))))))
   refine N_lp (hJ:=⟨_,_,_,(xs++z6.bytes),k+1,_,Z,hle2,H,?inv,Z⟩) (hm:=?hm)
   case hm=>omega
   case inv=>exact⟨hchk7,aN,(by exact⟨by omega,by (rw[List.length_append];omega),by (rw[Sp.load_succ hz4,hxs,hze])⟩)⟩
  intro hc3'
  try simp only[nrm]at hc3'
  refine W_exit (N_K_exit (N_LP_exit (N_B_same (N_K (q2 (pe 2 Z (q3 (W_ret (rt1 results57 Z ?_)))))))))
  obtain rfl:k=ids.length:=by omega
  rw[List.take_length]at hxs
  subst hxs
  exact H.retO (k:=0) rfl (AccOf.mk (by assumption) hchk2_0) (acc_nd _ _ _ _ _)
theorem l13Same_c (w0:World)(G0:PH)(hG:PSub G0 w0)(ca:List Value)(a:BItem)(ha:itemE G0 a ca)(cb:List Value)(b:BItem)(hb:itemE G0 b cb) :
  Calls Tryz.prog 124 #[.agg ca.toArray,.agg cb.toArray] w0 (Rets w0 (.bool (Sp.l13Same a b))):=by
 obtain⟨_,_,_,rfl,_,hr1,_,_⟩:=ox ha
 obtain⟨_,_,_,rfl,_,hr2,_,_⟩:=ox hb
 have H:=Hp.init hG
 refine calls_of_W (l:=[_,_]) func124 Z ntmps124 Z (q2 (o_box H Z Z Z ?_));intro _ _ _ H
 refine o_box H Z Z Z ?_;intro _ _ _ H
 refine aG Z (q1 (fA 0 Z (lB 1 H Z3 (fA 0 Z (lB 0 H Z3 (o_seql Z Z Z (mV Z ?_)))))))
 refine R_case (t:=10) Z ?_ ?_
 ·intro hc5
  try simp only[nrm]at hc5
  refine gR Z (fA 1 Z (gR Z (lB 1 H Z3 (gR Z (fA 1 Z (gR Z (lB 0 H Z3 (gR Z (o_beql underlying4 Z Z Z (pe 2 Z ?_))))))))))
  refine R_case (t:=17) Z ?_ ?_
  ·intro hc6
   try simp only[nrm]at hc6
   refine gR Z (fA 2 Z (gR Z (lB 1 H Z3 (gR Z (fA 2 Z (gR Z (lB 0 H Z3 (gR Z (xr H Z2 (l2Same_c _ _ H.sub _ _ hr1 _ _ hr2) ?_)))))))));intro _ H
   refine pe 2 Z (q3 (W_ret (rt1 results124 Z ?_)))
   exact H.rets (congrArg Value.bool (by simp_all [Sp.l13Same,Sp.l2Same]))
  intro hc6'
  try simp only[nrm]at hc6'
  refine pe 7 Z (q3 (W_ret (rt1 results124 Z ?_)))
  exact H.rets (congrArg Value.bool (by simp_all [Sp.l13Same,Sp.l2Same]))
 intro hc5'
 try simp only[nrm]at hc5'
 refine pe 14 Z (q3 (W_ret (rt1 results124 Z ?_)))
 exact H.rets (congrArg Value.bool (by simp_all [Sp.l13Same,Sp.l2Same]))
theorem ChangesOf_c (w0:World)(G0:PH)(hG:PSub G0 w0)(va:Value)(a:List (BItem))(ha:RdItems G0 va a)(vb:Value)(b:List (BItem))(hb:RdItems G0 vb b)(hta:Sp.TreeValid a=true)(htb:Sp.TreeValid b=true) :
  Calls Tryz.prog 56 #[va,vb] w0 (RetP w0 G0 (fun G v=>∃u,v= .tuple #[u,.bool true]∧RdPart G u ((Sp.chg a b).map Sp.chP))):=by
 obtain⟨aa,ka,rfl⟩:=ha.shape
 have hlima:a.length≤1099511627776:=ha.lim
 obtain⟨ab,kb,rfl⟩:=hb.shape
 have hlimb:b.length≤1099511627776:=hb.lim
 have hla:=Sp.tree_len hta;have hlb:=Sp.tree_len htb
 have H:=Hp.init hG
 refine calls_of_W (l:=[.slice aa a.length ka,.slice ab b.length kb]) func56 Z ntmps56 Z (q2 (pe 2 Z (q1 (xbs H Z7 ?_))));intro _ _ _ H
 have H:=H.blkAcc 4 (k:=0) (n:=0) rfl rfl (by decide)
 refine aG Z (q3 (W_seq (q2 (mV Z (xr H Z2 (TreeValid_c _ _ H.sub _ _ ha) ?_)))));intro _ H
 refine pe 2 Z ?_
 refine R_case (t:=13) Z ?_ ?_
 ·intro hc3
  try simp only[nrm]at hc3
  refine pe 4 Z (q3 (W_true Z (q2 (pe 3 Z (q3 (W_ret (N_K_ret (rt2 results56 Z Z ?_))))))))
  exact absurd (show False by simp_all) id
 intro hc3'
 try simp only[nrm]at hc3'
 refine pe 1 Z (gR Z (xr H Z2 (TreeValid_c _ _ H.sub _ _ hb) ?_));intro _ H
 refine pe 2 Z (q3 ?_)
 refine W_cond Z ?_ ?_
 ·intro hc5
  try simp only[nrm]at hc5
  refine q2 (pe 3 Z (q3 (W_ret (N_K_ret (rt2 results56 Z Z ?_)))))
  exact absurd (show False by simp_all) id
 intro hc5'
 try simp only[nrm]at hc5'
 refine W_skip (N_K (q2 (aG Z (q1 (aG Z (q3 (W_seq (W_block ?_))))))))
 refine W_lp (hf:=(Sub.cons (t:=0) Z (Sub.cons (t:=1) Z (Sub.cons (t:=4) Z (Sub.cons (t:=5) Z Sub.nil))))) (J:=fun M w m=>∃(v:Value) (n:Nat) (cs:List Value) (xs:List (BPart)) (i k:Nat) (G:PH),M=[(7,.int .i64 (i:Int)),(8,.int .i64 (k:Int)),(6,v)]∧PLe G0 G∧Hp w0 G0 [] w G [acc 106 4 v n cs]∧(Chk partE 4 G cs xs∧n=xs.length∧i≤a.length∧k≤b.length∧Sp.CG a b i k xs∧xs.length≤i+k)∧m=((a.length-i)+(b.length-k))) (h0:=⟨_,_,_,[],0,0,_,Z,PLe.refl _,H,?inv,Z⟩) (round:=?round)
 case inv=>exact⟨(Chk.nil (E:=partE) (sz:=4) (G:=G0)),by first|rfl|simp|(simp;omega)|omega,(by exact⟨by omega,by omega,Sp.CG.zero,by simp⟩)⟩
 case round =>
  rintro _ _ _ ⟨v,n,cs,xs,i,k,G6,rfl,hle6,H,hinv6,rfl⟩
  have ha:=ha.up hle6
  have hb:=hb.up hle6
  obtain⟨hchk6_0,_,hinv6⟩:=hinv6
  obtain⟨av6_0,cv6_0,rfl⟩:=H.accShape (k:=0) rfl
  obtain⟨_,_,hcg,_⟩:=hinv6
  refine W_seq ?_
  have hj7:=PLe.refl G6
  refine W_join (hf:=(Sub.cons (t:=0) Z (Sub.cons (t:=1) Z (Sub.cons (t:=4) Z (Sub.cons (t:=5) Z (Sub.cons (t:=6) Z (Sub.cons (t:=7) Z (Sub.cons (t:=8) Z Sub.nil)))))))) (J:=fun M w=>∃(cc:Bool) (G:PH),M=[(28,.bool cc)]∧PLe G6 G∧Hp w0 G0 [] w G [acc 106 4 (.slice av6_0 n cv6_0) n cs]∧(cc=Sp.moreB a b i k)) (first:=?_) (second:=?_)
  ·skip
   refine W_region (pe 2 Z (lN Z (pe 2 Z ?_)))
   refine R_case (t:=23) Z ?_ ?_
   ·intro hc8
    try simp only[nrm]at hc8
    refine pe 5 Z (R_nil ?_)
    refine N_J ⟨_,_,Z,hj7,H,?jinv⟩
    case jinv=>(unfold Sp.moreB;rw[Bool.eq_iff_iff];simp;omega)
   intro hc8'
   try simp only[nrm]at hc8'
   refine pe 2 Z (gR Z (lN Z (pe 2 Z (R_nil ?_))))
   refine N_J ⟨_,_,Z,hj7,H,?jinv⟩
   case jinv=>(unfold Sp.moreB;rw[Bool.eq_iff_iff];simp;omega)
  rintro _ _ ⟨cc,G7,rfl,hle7,H,hinv7⟩
  have ha:=ha.up hle7
  have hb:=hb.up hle7
  have hchk6_0:=hchk6_0.up hle7
  have hle6:=hle6.trans hle7
  obtain rfl:=hinv7
  refine W_cond Z ?_ ?_
  ·intro hc9
   try simp only[nrm]at hc9
   have hmB:=hc9
   refine W_skip (N_K (W_block (W_block ?_)))
   have hj10:=PLe.refl G7
   refine W_join (hf:=(Sub.cons (t:=0) Z (Sub.cons (t:=1) Z (Sub.cons (t:=4) Z (Sub.cons (t:=5) Z (Sub.cons (t:=6) Z (Sub.cons (t:=7) Z (Sub.cons (t:=8) Z Sub.nil)))))))) (J:=fun M w=>∃(cc:Bool) (G:PH),M=[(78,.bool cc)]∧PLe G7 G∧Hp w0 G0 [] w G [acc 106 4 (.slice av6_0 n cv6_0) n cs]∧(cc=Sp.goneB a b i k)) (first:=?_) (second:=?_)
   ·skip
    refine W_drawK [] 24 H kR Z ?_;intro _ H;have hd11:=PLe.refl G7
    refine dE 0 Z2 (dE 1 Z2 (dN 2 Z2 (dE 3 Z2 (dE 4 Z2 ?_))))
    refine RD_case (t:=83) Z ?_ ?_
    ·intro hc12
     try simp only[nrm]at hc12
     refine dE 5 Z2 (dE 6 Z2 (dE 7 Z2 (dE 8 Z2 (dE 9 Z2 (RD_pass 10 Z kR kR kR Z (yl_un Z Z) (RD_pass 11 Z kR kR kR Z (yl_un Z Z) (RD_pass 12 Z kR kR kR Z (yl_un Z Z) (RD_pass 13 Z kR kR kR Z (yl_un Z Z) (RD_pass 14 Z kR kR kR Z (yl_un Z Z) (RD_pass 15 Z kR kR kR Z (yl_un Z Z) (RD_pass 16 Z kR kR kR Z (yl_un Z Z) (RD_pass 17 Z kR kR kR Z (yl_un Z Z) (RD_pass 18 Z kR kR kR Z (yl_un Z Z) (RD_pass 19 Z kR kR kR Z (yl_un Z Z) (RD_pass 20 Z kR kR kR Z (yl_un Z Z) ?_)))))))))))))))
     refine dE 21 Z2 (dE 22 Z2 (dE 23 Z2 (rz ?_)))
     refine N_J ⟨_,_,Z,hj10,H,?jinv⟩
     case jinv=>first|exact Sp.goneB_t oM|exact Sp.goneB_f oM oM|skip
    intro hc12'
    try simp only[nrm]at hc12'
    refine dE 5 Z2 (dE 6 Z2 (dN 7 Z2 (dE 8 Z2 (dE 9 Z2 ?_))))
    refine RD_case (t:=88) Z ?_ ?_
    ·intro hc13
     try simp only[nrm]at hc13
     refine dE 10 Z2 (dE 11 Z2 ?_)
     have hl14:=ha.len
     obtain⟨_,_,_,_,ha14,hz14,hq14,hE14,hrow14,_⟩:=ha.at (i:=i) oM
     clear hq14
     obtain⟨_,_,_,rfl,_,_,_,_⟩:=ox hE14
     refine dI 12 3 i ha14 Z3 Z (dF 13 0 Z2 (dP 14 hrow14 0 Z3 (dE 15 Z2 (dE 16 Z2 ?_))))
     have hl15:=hb.len
     obtain⟨_,_,_,_,ha15,hz15,hq15,hE15,hrow15,_⟩:=hb.at (i:=k) oM
     clear hq15
     obtain⟨_,_,_,rfl,_,_,_,_⟩:=ox hE15
     refine dI 17 3 k ha15 Z3 Z (dF 18 0 Z2 (dP 19 hrow15 0 Z3 (RD_tg 20 Z kR Z (yl Z Z) (fun _ hK=>v_slss Z Z) (dE 21 Z2 (dE 22 Z2 (dE 23 Z2 (rz ?_)))))))
     refine N_J ⟨_,_,Z,hj10,H,?jinv⟩
     case jinv=>first|exact Sp.goneB_t oM|exact Sp.goneB_f oM oM|exact Sp.goneB_c hz14 hz15 oM|exact Sp.goneB_c hz15 hz14 oM
    intro hc13'
    try simp only[nrm]at hc13'
    refine dE 10 Z2 (dE 11 Z2 (dE 12 Z2 (dE 13 Z2 (dE 14 Z2 (dE 15 Z2 (dE 16 Z2 (dE 17 Z2 (dE 18 Z2 (dE 19 Z2 (dE 20 Z2 (dE 21 Z2 (dE 22 Z2 (dE 23 Z2 (rz ?_))))))))))))))
    refine N_J ⟨_,_,Z,hj10,H,?jinv⟩
    case jinv=>first|exact Sp.goneB_t oM|exact Sp.goneB_f oM oM|skip
   rintro _ _ ⟨cc,G10,rfl,hle10,H,hinv10⟩
   have ha:=ha.up hle10
   have hb:=hb.up hle10
   have hchk6_0:=hchk6_0.up hle10
   have hle6:=hle6.trans hle10
   obtain rfl:=hinv10
   refine W_cond Z ?_ ?_
   ·intro hc16
    try simp only[nrm]at hc16
    have hgB:=hc16
    have hia:=Sp.gone_lt hmB hgB
    refine q2 (pe 3 Z (iP i ha Z3 Z ?_));intro _ _ z17 _ hz17 hE17 hrow17
    obtain⟨_,_,_,rfl,hi17,hr17,_,_⟩:=ox hE17
    refine o_loadagg_P H isAgg41 sizeOf41 Z Z hrow17 Z (xc Z2 (l5Copy_c _ _ H.sub _ _ ⟨_,_,_,Z,hi17,hr17⟩) ?_)
    rintro _ _ ⟨_,_,g18,rfl,_,rfl,hr18_0⟩
    have H:=H.grow g18
    have hchk6_0:=hchk6_0.up g18.le
    have hle6:=hle6.trans g18.le
    obtain⟨_,_,_,rfl,hi19,hr19,_,_⟩:=ox hr18_0
    refine⟨_,Z,?_⟩
    refine o_build bf106 Z Z Z (xbs H Z7 ?_);intro _ _ _ H
    refine o_append1 0 H (sz:=4) (bytes:=56) underlying102 typeInfo106 ⟨_,Z,Z⟩ Z Z Z Z Z Z Z Z Z Z oM Z ?_;intro _ _ H
    have hchk21:=hchk6_0.snoc (show partE _ ⟨2,z17.path,z17.dir,z17.ids⟩ _ from⟨_,_,_,rfl,⟨by first|omega|(dsimp only;omega),by first|omega|(dsimp only;omega)⟩,hi19,hr19⟩) rfl
    obtain⟨_,_,rfl⟩:=H.accShape (k:=0) rfl
    refine aG Z (q3 (W_region (mV Z (aD Z2 (aG Z (R_nil (N_B (N_B ?_))))))))
    refine N_lp (hJ:=⟨_,_,_,(xs++[⟨2,z17.path,z17.dir,z17.ids⟩]),i+1,k,_,Z,hle6,H,?inv,Z⟩) (hm:=?hm)
    case hm=>omega
    case inv=>exact⟨hchk21,aN,(by exact⟨by omega,by omega,hcg.step (c:=[⟨2,z17⟩]) (Sp.chg_goneB hz17 hgB),by (simp;omega)⟩)⟩
   intro hc16'
   try simp only[nrm]at hc16'
   have hgB':=hc16'
   have hkb:=Sp.new_lt hgB'
   have hj23:=PLe.refl G10
   refine W_join (hf:=(Sub.cons (t:=0) Z (Sub.cons (t:=1) Z (Sub.cons (t:=4) Z (Sub.cons (t:=5) Z (Sub.cons (t:=6) Z (Sub.cons (t:=7) Z (Sub.cons (t:=8) Z Sub.nil)))))))) (J:=fun M w=>∃(cc:Bool) (G:PH),M=[(113,.bool cc)]∧PLe G10 G∧Hp w0 G0 [] w G [acc 106 4 (.slice av6_0 n cv6_0) n cs]∧(cc=Sp.newB a b i k)) (first:=?_) (second:=?_)
   ·skip
    refine W_drawK [] 18 H kR Z ?_;intro _ H;have hd24:=PLe.refl G10
    refine dE 0 Z2 (dE 1 Z2 (dN 2 Z2 (dE 3 Z2 (dE 4 Z2 ?_))))
    refine RD_case (t:=118) Z ?_ ?_
    ·intro hc25
     try simp only[nrm]at hc25
     refine dE 5 Z2 (dE 6 Z2 (dE 7 Z2 (dE 8 Z2 (dE 9 Z2 (dE 10 Z2 (dE 11 Z2 (dE 12 Z2 (dE 13 Z2 (dE 14 Z2 (dE 15 Z2 (dE 16 Z2 (dE 17 Z2 (rz ?_)))))))))))))
     refine N_J ⟨_,_,Z,hj23,H,?jinv⟩
     case jinv=>first|exact Sp.newB_t oM|skip
    intro hc25'
    try simp only[nrm]at hc25'
    refine dE 5 Z2 (dE 6 Z2 ?_)
    have hl26:=hb.len
    obtain⟨_,_,_,_,ha26,hz26,hq26,hE26,hrow26,_⟩:=hb.at (i:=k) oM
    clear hq26
    obtain⟨_,_,_,rfl,_,_,_,_⟩:=ox hE26
    refine dI 7 3 k ha26 Z3 Z (dF 8 0 Z2 (dP 9 hrow26 0 Z3 (dE 10 Z2 (dE 11 Z2 ?_))))
    have hl27:=ha.len
    obtain⟨_,_,_,_,ha27,hz27,hq27,hE27,hrow27,_⟩:=ha.at (i:=i) oM
    clear hq27
    obtain⟨_,_,_,rfl,_,_,_,_⟩:=ox hE27
    refine dI 12 3 i ha27 Z3 Z (dF 13 0 Z2 (dP 14 hrow27 0 Z3 (RD_tg 15 Z kR Z (yl Z Z) (fun _ hK=>v_slss Z Z) (dE 16 Z2 (dE 17 Z2 (rz ?_))))))
    refine N_J ⟨_,_,Z,hj23,H,?jinv⟩
    case jinv=>first|exact Sp.newB_t oM|exact Sp.newB_c hz26 hz27 oM|exact Sp.newB_c hz27 hz26 oM
   rintro _ _ ⟨cc,G23,rfl,hle23,H,hinv23⟩
   have ha:=ha.up hle23
   have hb:=hb.up hle23
   have hchk6_0:=hchk6_0.up hle23
   have hle6:=hle6.trans hle23
   obtain rfl:=hinv23
   refine W_cond Z ?_ ?_
   ·intro hc28
    try simp only[nrm]at hc28
    have hnB:=hc28
    refine q2 (pe 3 Z (iP k hb Z3 Z ?_));intro _ _ z29 _ hz29 hE29 hrow29
    obtain⟨_,_,_,rfl,hi29,hr29,_,_⟩:=ox hE29
    refine o_loadagg_P H isAgg41 sizeOf41 Z Z hrow29 Z (xc Z2 (l5Copy_c _ _ H.sub _ _ ⟨_,_,_,Z,hi29,hr29⟩) ?_)
    rintro _ _ ⟨_,_,g30,rfl,_,rfl,hr30_0⟩
    have H:=H.grow g30
    have hchk6_0:=hchk6_0.up g30.le
    have hle6:=hle6.trans g30.le
    obtain⟨_,_,_,rfl,hi31,hr31,_,_⟩:=ox hr30_0
    refine⟨_,Z,?_⟩
    refine o_build bf106 Z Z Z (xbs H Z7 ?_);intro _ _ _ H
    refine o_append1 0 H (sz:=4) (bytes:=56) underlying102 typeInfo106 ⟨_,Z,Z⟩ Z Z Z Z Z Z Z Z Z Z oM Z ?_;intro _ _ H
    have hchk33:=hchk6_0.snoc (show partE _ ⟨1,z29.path,z29.dir,z29.ids⟩ _ from⟨_,_,_,rfl,⟨by first|omega|(dsimp only;omega),by first|omega|(dsimp only;omega)⟩,hi31,hr31⟩) rfl
    obtain⟨_,_,rfl⟩:=H.accShape (k:=0) rfl
    refine aG Z (q3 (W_region (mV Z (aD Z2 (aG Z (R_nil (N_B (N_B ?_))))))))
    refine N_lp (hJ:=⟨_,_,_,(xs++[⟨1,z29.path,z29.dir,z29.ids⟩]),i,k+1,_,Z,hle6,H,?inv,Z⟩) (hm:=?hm)
    case hm=>omega
    case inv=>exact⟨hchk33,aN,(by exact⟨by omega,by omega,hcg.step (c:=[⟨1,z29⟩]) (Sp.chg_newB hz29 hgB' hnB),by (simp;omega)⟩)⟩
   intro hc28'
   try simp only[nrm]at hc28'
   have hnB':=hc28'
   have hia:=Sp.both_lt hnB'
   refine W_seq (W_seq (W_drawK [] 11 H kR Z ?_));intro _ H;have hd35:=PLe.refl G23
   refine dE 0 Z2 (dE 1 Z2 ?_)
   have hl36:=ha.len
   obtain⟨_,_,z36,_,ha36,hz36,hq36,hE36,hrow36,_⟩:=ha.at (i:=i) oM
   clear hq36
   obtain⟨_,_,_,rfl,_,hr36,_,_⟩:=ox hE36
   refine dI 2 3 i ha36 Z3 Z (dF 3 1 Z2 (dP 4 hrow36 1 Z3 (dE 5 Z2 (dE 6 Z2 ?_))))
   have hl37:=hb.len
   obtain⟨_,_,z37,_,ha37,hz37,hq37,hE37,hrow37,_⟩:=hb.at (i:=k) oM
   clear hq37
   obtain⟨_,_,_,rfl,_,hr37,_,_⟩:=ox hE37
   refine dI 7 3 k ha37 Z3 Z (dF 8 1 Z2 (dP 9 hrow37 1 Z3 (RD_t 10 Z kR Z (fun _ hK=>v_bneq underlying4 Z Z) (rz (N_K ?_)))))
   refine W_cond Z ?_ ?_
   ·intro hc38
    try simp only[nrm]at hc38
    refine W_drawK [] 16 H kR Z ?_;intro _ H;have hd39:=PLe.refl G23
    refine dE 0 Z2 (dE 1 Z2 (dE 2 Z2 ?_))
    have hl40:=ha.len
    obtain⟨_,_,z40,_,ha40,hz40,hq40,hE40,hrow40,_⟩:=ha.at (i:=i) oM
    clear hq40
    obtain⟨_,_,_,rfl,hi40,hr40,_,_⟩:=ox hE40
    have hzz40:z36=z40:=Option.some.inj (hz36.symm.trans hz40)
    subst hzz40
    refine dI 3 3 i ha40 Z3 Z (RD_t 4 Z kR Z (fun _ hK=>v_loadagg_P hK isAgg41 sizeOf41 Z hrow40 Z) (dE 7 Z2 (dE 8 Z2 ?_)))
    have hl41:=hb.len
    obtain⟨_,_,z41,_,ha41,hz41,hq41,hE41,hrow41,_⟩:=hb.at (i:=k) oM
    clear hq41
    obtain⟨_,_,_,rfl,hi41,hr41,_,_⟩:=ox hE41
    have hzz41:z37=z41:=Option.some.inj (hz37.symm.trans hz41)
    subst hzz41
    refine dI 9 3 k ha41 Z3 Z (RD_t 10 Z kR Z (fun _ hK=>v_loadagg_P hK isAgg41 sizeOf41 Z hrow41 Z) (r1 5 Z (xc Z2 (l5Copy_c _ _ H.sub _ _ ⟨_,_,_,Z,hi40,hr40⟩) ?_)))
    rintro _ _ ⟨_,_,g42,rfl,_,rfl,hr42_0⟩
    have H:=H.grow g42
    have hchk6_0:=hchk6_0.up g42.le
    have hr41:=hr41.up g42.le
    have hle6:=hle6.trans g42.le
    have hd39:=hd39.trans g42.le
    obtain⟨_,_,_,rfl,hi43,hr43,_,_⟩:=ox hr42_0
    refine⟨_,Z,?_⟩
    refine q4 H hd39 (RD_t 6 Z kR Z (fun _ hK=>v_build bf106 Z Z) (r1 11 Z (xc Z2 (l5Copy_c _ _ H.sub _ _ ⟨_,_,_,Z,hi41,hr41⟩) ?_)))
    rintro _ _ ⟨G44,_,g44,rfl,_,rfl,hr44_0⟩
    have H:=H.grow g44
    have hchk6_0:=hchk6_0.up g44.le
    have hr43:=hr43.up g44.le
    have hle6:=hle6.trans g44.le
    have hd39:=hd39.trans g44.le
    obtain⟨_,_,_,rfl,hi45,hr45,_,_⟩:=ox hr44_0
    refine⟨_,Z,?_⟩
    refine q4 H hd39 (RD_t 12 Z kR Z (fun _ hK=>v_build bf106 Z Z) (r1 13 Z (xbs H Z7 ?_)));intro _ _ _ H
    refine q4 H hd39 (r1 14 Z (o_append1 0 H (sz:=4) (bytes:=56) underlying102 typeInfo106 ⟨_,Z,Z⟩ Z Z Z Z Z Z Z Z Z Z oM Z ?_));intro _ _ H
    have hchk47:=hchk6_0.app (((Chk.nil (E:=partE) (sz:=4) (G:=G44)).snoc (show partE _ (⟨2,z36.path,z36.dir,z36.ids⟩) _ from⟨_,_,_,rfl,⟨by first|omega|(dsimp only;omega),by first|omega|(dsimp only;omega)⟩,hi43,hr43⟩) rfl).snoc (show partE _ (⟨1,z37.path,z37.dir,z37.ids⟩) _ from⟨_,_,_,rfl,⟨by first|omega|(dsimp only;omega),by first|omega|(dsimp only;omega)⟩,hi45,hr45⟩) rfl)
    obtain⟨_,_,rfl⟩:=H.accShape (k:=0) rfl
    refine q4 H hd39 (dE 15 Z2 (rz (N_K (q2 (mV Z (aD Z2 (aG Z (q3 (W_region (mV Z (aD Z2 (aG Z (R_nil (N_B (N_B ?_)))))))))))))))
    refine N_lp (hJ:=⟨_,_,_,(xs++[⟨2,z36.path,z36.dir,z36.ids⟩,⟨1,z37.path,z37.dir,z37.ids⟩]),i+1,k+1,_,Z,hle6,H,?inv,Z⟩) (hm:=?hm)
    case hm=>omega
    case inv=>exact⟨hchk47,aN,(by exact⟨by omega,by omega,hcg.step (c:=[⟨2,z36⟩,⟨1,z37⟩]) (Sp.chg_kind hz36 hz37 (Sp.goneB_no hz36 hz37 hgB') (Sp.newB_no hz36 hz37 hnB') (by simpa using hc38)),by (simp;omega)⟩)⟩
   intro hc38'
   try simp only[nrm]at hc38'
   refine W_seq (W_drawK [] 10 H kR Z ?_);intro _ H;have hd50:=PLe.refl G23
   refine dE 0 Z2 (dE 1 Z2 ?_)
   have hl51:=ha.len
   obtain⟨_,_,z51,_,ha51,hz51,hq51,hE51,hrow51,_⟩:=ha.at (i:=i) oM
   clear hq51
   obtain⟨_,_,_,rfl,hi51,hr51,_,_⟩:=ox hE51
   have hzz51:z36=z51:=Option.some.inj (hz36.symm.trans hz51)
   subst hzz51
   refine dI 2 3 i ha51 Z3 Z (RD_t 3 Z kR Z (fun _ hK=>v_loadagg_P hK isAgg41 sizeOf41 Z hrow51 Z) (dE 4 Z2 (dE 5 Z2 ?_)))
   have hl52:=hb.len
   obtain⟨_,_,z52,_,ha52,hz52,hq52,hE52,hrow52,_⟩:=hb.at (i:=k) oM
   clear hq52
   obtain⟨_,_,_,rfl,hi52,hr52,_,_⟩:=ox hE52
   have hzz52:z37=z52:=Option.some.inj (hz37.symm.trans hz52)
   subst hzz52
   refine dI 6 3 k ha52 Z3 Z (RD_t 7 Z kR Z (fun _ hK=>v_loadagg_P hK isAgg41 sizeOf41 Z hrow52 Z) (r1 8 Z (xr H Z2 (l13Same_c _ _ H.sub _ _ ⟨_,_,_,Z,hi51,hr51⟩ _ _ ⟨_,_,_,Z,hi52,hr52⟩) ?_)));intro _ H
   refine q4 H hd50 (dE 9 Z2 (rz (N_K ?_)))
   refine W_cond Z ?_ ?_
   ·intro hc54
    try simp only[nrm]at hc54
    refine W_region (pe 3 Z (iP k hb Z3 Z ?_));intro _ _ z55 _ hz55 hE55 hrow55
    obtain⟨_,_,_,rfl,hi55,hr55,_,_⟩:=ox hE55
    have hzz55:z37=z55:=Option.some.inj (hz37.symm.trans hz55)
    subst hzz55
    refine o_loadagg_P H isAgg41 sizeOf41 Z Z hrow55 Z (xc Z2 (l5Copy_c _ _ H.sub _ _ ⟨_,_,_,Z,hi55,hr55⟩) ?_)
    rintro _ _ ⟨_,_,g56,rfl,_,rfl,hr56_0⟩
    have H:=H.grow g56
    have hchk6_0:=hchk6_0.up g56.le
    have hle6:=hle6.trans g56.le
    obtain⟨_,_,_,rfl,hi57,hr57,_,_⟩:=ox hr56_0
    refine⟨_,Z,?_⟩
    refine o_build bf106 Z Z Z (xbs H Z7 ?_);intro _ _ _ H
    refine o_append1 0 H (sz:=4) (bytes:=56) underlying102 typeInfo106 ⟨_,Z,Z⟩ Z Z Z Z Z Z Z Z Z Z oM Z ?_;intro _ _ H
    have hchk59:=hchk6_0.snoc (show partE _ ⟨3,z37.path,z37.dir,z37.ids⟩ _ from⟨_,_,_,rfl,⟨by first|omega|(dsimp only;omega),by first|omega|(dsimp only;omega)⟩,hi57,hr57⟩) rfl
    obtain⟨_,_,rfl⟩:=H.accShape (k:=0) rfl
    refine aG Z (q1 (mV Z (aD Z2 (aG Z (q3 (W_region (mV Z (aD Z2 (aG Z (R_nil (N_B (N_B ?_))))))))))))
    refine N_lp (hJ:=⟨_,_,_,(xs++[⟨3,z37.path,z37.dir,z37.ids⟩]),i+1,k+1,_,Z,hle6,H,?inv,Z⟩) (hm:=?hm)
    case hm=>omega
    case inv=>exact⟨hchk59,aN,(by exact⟨by omega,by omega,hcg.step (c:=[⟨3,z37⟩]) (Sp.chg_other hz36 hz37 (Sp.goneB_no hz36 hz37 hgB') (Sp.newB_no hz36 hz37 hnB') (by simpa using hc38') (by simpa using hc54)),by (simp;omega)⟩)⟩
   intro hc54'
   try simp only[nrm]at hc54'
   refine W_skip (N_K (q2 (mV Z (aD Z2 (aG Z (q3 (W_region (mV Z (aD Z2 (aG Z (R_nil (N_B (N_B ?_)))))))))))))
   refine N_lp (hJ:=⟨_,_,_,xs,i+1,k+1,_,Z,hle6,H,?inv,Z⟩) (hm:=?hm)
   case hm=>omega
   case inv=>exact⟨hchk6_0,aN,(by exact⟨by omega,by omega,by (have h9:=hcg.step (c:=[]) (Sp.chg_same hz36 hz37 (Sp.goneB_no hz36 hz37 hgB') (Sp.newB_no hz36 hz37 hnB') (by simpa using hc38') (by simpa using hc54'));simpa using h9),by omega⟩)⟩
  intro hc9'
  try simp only[nrm]at hc9'
  refine W_exit (N_K_exit (N_LP_exit (N_B_same (N_K (q2 (pe 3 Z (q3 (W_ret (rt2 results56 Z Z ?_)))))))))
  obtain⟨_,H,hsg64,hsr64⟩:=H.shut' (k:=0) rfl hchk6_0 aN aN
  obtain⟨h1,h2⟩:=Sp.moreB_no (by simpa using hc9')
  obtain rfl:=hcg.done h1 h2
  exact H.retP ⟨_,Z,hsr64⟩
theorem l14Tree_c (w0:World)(G0:PH)(hG:PSub G0 w0)(cd:List Value)(d:BDisk)(hd:diskE G0 d cd)(name:Bs)(hname:name.length≤16777216) :
  Calls Tryz.prog 55 #[.agg cd.toArray,str name] w0 (RetP w0 G0 (fun G v=>∃u,v= .tuple #[u,.bool (Sp.l14Tree d name).isSome]∧RdItems G u (Sp.ltD d name))):=by
 obtain⟨_,_,_,_,_,_,_,_,_,rfl,hr1,hr1',hr1'',⟨_,_⟩,⟨_,_⟩,_,_⟩:=ox hd
 have H:=Hp.init hG
 refine calls_of_W (l:=[_,str name]) func55 Z ntmps55 Z (q2 (o_box H Z Z Z ?_));intro _ _ _ H
 refine pe 2 Z (q1 (fA 2 Z (lB 0 H Z3 (mV Z (xr H Z2 (l12At_c _ _ H.sub _ _ hr1'' _ hname) ?_)))));intro _ H
 refine aG Z (q3 (W_seq (q2 (mV Z (o_seql Z Z Z (q3 ?_))))))
 refine W_cond Z ?_ ?_
 ·intro hc4
  try simp only[nrm]at hc4
  refine q2 (xbs H Z7 ?_);intro _ _ _ H
  have H:=H.blkAcc 3 (k:=0) (n:=0) rfl rfl (by decide)
  refine pe 2 Z (q3 (W_ret (N_K_ret (rt2 results55 Z Z ?_))))
  obtain⟨_,H,hsg6,hsr6⟩:=H.shut' (k:=0) rfl (Chk.nil (E:=itemE) (sz:=3) (G:=G0)) aN aN
  have H:=H.dl 0
  have hj:Sp.l14Tree d name=some []:=Sp.lt_nil (by simpa using hc4)
  exact H.retP ⟨_,(by rw[hj];rfl),(by rw[Sp.ltD,hj];exact hsr6)⟩
 intro hc4'
 try simp only[nrm]at hc4'
 refine W_skip (N_K (W_seq (q2 (pe 2 Z (q3 ?_)))))
 refine W_cond Z ?_ ?_
 ·intro hc7
  try simp only[nrm]at hc7
  refine q2 (xbs H Z7 ?_);intro _ _ _ H
  have H:=H.blkAcc 3 (k:=0) (n:=0) rfl rfl (by decide)
  refine pe 2 Z (q3 (W_ret (N_K_ret (rt2 results55 Z Z ?_))))
  obtain⟨_,H,hsg9,hsr9⟩:=H.shut' (k:=0) rfl (Chk.nil (E:=itemE) (sz:=3) (G:=G0)) aN aN
  have H:=H.dl 0
  have hj:Sp.l14Tree d name=none:=Sp.lt_no (by simpa using hc4') (Sp.at_none hc7)
  exact H.retP ⟨_,(by rw[hj];rfl),(by rw[Sp.ltD,hj];exact hsr9)⟩
 intro hc7'
 try simp only[nrm]at hc7'
 obtain⟨i,_,ia,ib,_,_,_⟩:=Sp.at_nat hc7'
 have ib:Sp.l12At d.snaps name=(i:Int):=ib
 have hat:Sp.atS d.snaps name=some i:=ia
 refine W_skip (N_K (q2 (fA 2 Z (lB 0 H Z3 (mV Z (iP i hr1'' Z3 ib ?_))))));intro _ _ z10 _ hz10 hE10 hrow10
 obtain⟨_,_,_,rfl,_,hr10,_,_⟩:=ox hE10
 refine fA 1 Z (lP H hrow10 1 Z2 (pe 2 Z (q3 (W_ret (rt2 results55 Z Z ?_)))))
 have H:=H.dl 0
 have hj:Sp.l14Tree d name=some z10.tree:=Sp.lt_yes (by simpa using hc4') hat hz10
 exact H.retP ⟨_,(by rw[hj];rfl),(by rw[Sp.ltD,hj];exact hr10)⟩
theorem StreamOf_c (w0:World)(G0:PH)(hG:PSub G0 w0)(cd:List Value)(d:BDisk)(hd:diskE G0 d cd)(fr:Bs)(hfr:fr.length≤16777216)(tt:Bs)(htt:tt.length≤16777216) :
  Calls Tryz.prog 18 #[.agg cd.toArray,str fr,str tt] w0 (RetO w0 G0 (fun G v r=>∃u,v= .tuple #[u,.bool (Sp.StreamOf d fr tt).isSome]∧AccOf partE 4 39 ((Sp.StreamOf d fr tt).getD []) G u r)):=by
 obtain⟨_,_,_,_,_,_,_,_,_,rfl,hr1,hr1',hr1'',⟨_,_⟩,⟨_,_⟩,_,_⟩:=ox hd
 have H:=Hp.init hG
 refine calls_of_W (l:=[_,str fr,str tt]) func18 Z ntmps18 Z (q2 (o_box H Z Z Z ?_));intro b2 _ _ H
 refine pe 2 Z (q1 (lA 0 3 H Z4 (mV Z (xc Z2 (l14Tree_c _ _ H.sub _ d ⟨_,_,_,_,_,_,_,_,_,Z,hr1,hr1',hr1''⟩ _ hfr) ?_))))
 rintro _ _ ⟨_,_,g3,rfl,_,rfl,hr3_0⟩
 have H:=H.grow g3
 have hr1:=hr1.up g3.le
 have hr1':=hr1'.up g3.le
 have hr1'':=hr1''.up g3.le
 obtain⟨_,_,rfl⟩:=hr3_0.shape;have hx_hr3_0:_≤1099511627776:=hr3_0.lim
 refine⟨_,Z,?_⟩
 refine pe 5 Z (q1 (lA 0 3 H Z4 (mV Z (xc Z2 (l14Tree_c _ _ H.sub _ d ⟨_,_,_,_,_,_,_,_,_,Z,hr1,hr1',hr1''⟩ _ htt) ?_))))
 rintro _ _ ⟨G4,_,g4,rfl,_,rfl,hr4_0⟩
 have H:=H.grow g4
 have hr1:=hr1.up g4.le
 have hr1':=hr1'.up g4.le
 have hr1'':=hr1''.up g4.le
 have hr3_0:=hr3_0.up g4.le
 obtain⟨_,_,rfl⟩:=hr4_0.shape;have hx_hr4_0:_≤1099511627776:=hr4_0.lim
 refine⟨_,Z,?_⟩
 refine pe 5 Z (q3 (W_seq (q2 (lA 0 3 H Z4 (xr H Z2 (DiskValid_c _ _ H.sub _ d ⟨_,_,_,_,_,_,_,_,_,Z,hr1,hr1',hr1''⟩) ?_)))));intro _ H
 refine pe 2 Z ?_
 refine R_case (t:=33) Z ?_ ?_
 ·intro hc6
  try simp only[nrm]at hc6
  refine pe 7 Z (q3 (W_true Z (q2 (xbs H Z7 ?_))));intro _ _ _ H
  have H:=H.blkAcc 4 (k:=0) (n:=0) rfl rfl (by decide)
  refine pe 2 Z (q3 (W_ret (N_K_ret (rt2 results18 Z Z ?_))))
  have hN:Sp.StreamOf d fr tt=none:=Sp.so_nov (by simpa using hc6)
  exact H.retO (k:=0) rfl (by rw[hN];exact⟨_,rfl,AccOf.mk aN (Chk.nil (E:=partE) (sz:=4) (G:=G4))⟩) (acc_nd _ _ _ _ _)
 intro hc6'
 try simp only[nrm]at hc6'
 refine pe 4 Z ?_
 refine R_case (t:=37) Z ?_ ?_
 ·intro hc8
  try simp only[nrm]at hc8
  refine pe 3 Z (q3 (W_true Z (q2 (xbs H Z7 ?_))));intro _ _ _ H
  have H:=H.blkAcc 4 (k:=0) (n:=0) rfl rfl (by decide)
  refine pe 2 Z (q3 (W_ret (N_K_ret (rt2 results18 Z Z ?_))))
  have hN:Sp.StreamOf d fr tt=none:=Sp.so_no1 (by simpa using hc8)
  exact H.retO (k:=0) rfl (by rw[hN];exact⟨_,rfl,AccOf.mk aN (Chk.nil (E:=partE) (sz:=4) (G:=G4))⟩) (acc_nd _ _ _ _ _)
 intro hc8'
 try simp only[nrm]at hc8'
 refine pe 3 Z (q3 ?_)
 refine W_cond Z ?_ ?_
 ·intro hc10
  try simp only[nrm]at hc10
  refine q2 (xbs H Z7 ?_);intro _ _ _ H
  have H:=H.blkAcc 4 (k:=0) (n:=0) rfl rfl (by decide)
  refine pe 2 Z (q3 (W_ret (N_K_ret (rt2 results18 Z Z ?_))))
  have hN:Sp.StreamOf d fr tt=none:=Sp.so_no2 (by simpa using hc10)
  exact H.retO (k:=0) rfl (by rw[hN];exact⟨_,rfl,AccOf.mk aN (Chk.nil (E:=partE) (sz:=4) (G:=G4))⟩) (acc_nd _ _ _ _ _)
 intro hc10'
 try simp only[nrm]at hc10'
 refine W_skip (N_K (q2 ?_))
 have hdv:Sp.DiskValid d=true:=by simp_all
 have hta:=Sp.ltD_valid hdv fr
 have htb:=Sp.ltD_valid hdv tt
 have hso:Sp.StreamOf d fr tt=some (((Sp.chg (Sp.ltD d fr) (Sp.ltD d tt)).map Sp.chP).map (Sp.pcP d.store)):=Sp.so_yes hdv (by simpa using hc8') (by simpa using hc10')
 have hVx:=Sp.valid_iff.1 (Sp.dv_store hdv)
 refine pe 2 Z (xc Z2 (ChangesOf_c _ _ H.sub _ _ hr3_0 _ _ hr4_0 hta htb) ?_)
 rintro _ _ ⟨G12,_,g12,rfl,_,rfl,hr12_0⟩
 have H:=H.grow g12
 have hr1:=hr1.up g12.le
 obtain⟨_,_,rfl⟩:=hr12_0.shape;have hx_hr12_0:_≤1099511627776:=hr12_0.lim
 refine⟨_,Z,?_⟩
 refine pe 5 Z (q1 ?_)
 have hchl:((Sp.chg (Sp.ltD d fr) (Sp.ltD d tt)).map Sp.chP).length≤24:=Sp.chL_len hdv fr tt
 refine xbs H Z7 ?_;intro _ _ _ H
 have H:=H.blkAcc 4 (k:=0) (n:=0) rfl rfl (by decide)
 refine aG Z (q3 (W_seq (q2 (aG Z (q3 (W_block ?_))))))
 obtain⟨ln14,hln14,H⟩:=H.name (k:=1) rfl
 refine W_lp (hf:=(Sub.cons (t:=3) Z (Sub.cons (t:=6) Z (Sub.cons (t:=7) Z (Sub.cons (t:=12) Z Sub.nil))))) (J:=fun M w m=>∃(v:Value) (n:Nat) (cs:List Value) (xs:List (BPart)) (k:Nat) (G:PH),M=[(15,.int .i64 (k:Int)),(14,v)]∧PLe G12 G∧Hp w0 G0 [] w G [acc 39 4 v n cs,blk b2 (cl ln14 27)]∧(Chk partE 4 G cs xs∧n=xs.length∧k≤((Sp.chg (Sp.ltD d fr) (Sp.ltD d tt)).map Sp.chP).length∧xs=(((Sp.chg (Sp.ltD d fr) (Sp.ltD d tt)).map Sp.chP).take k).map (Sp.pcP d.store))∧m=(((Sp.chg (Sp.ltD d fr) (Sp.ltD d tt)).map Sp.chP).length-k)) (h0:=⟨_,_,_,[],0,_,Z,PLe.refl _,H,?inv,Z⟩) (round:=?round)
 case inv=>exact⟨(Chk.nil (E:=partE) (sz:=4) (G:=G12)),by first|rfl|simp|(simp;omega)|omega,(by exact⟨by omega,rfl⟩)⟩
 case round =>
  rintro _ _ _ ⟨v,n,cs,xs,k,G15,rfl,hle15,H,hinv15,rfl⟩
  subst hln14
  have hr1:=hr1.up hle15
  have hr12_0:=hr12_0.up hle15
  obtain⟨hchk15_0,_,hinv15⟩:=hinv15
  obtain⟨_,_,rfl⟩:=H.accShape (k:=0) rfl
  obtain⟨_,hxs⟩:=hinv15;have hxl:xs.length=k:=(by rw[hxs,List.length_map,List.length_take];omega)
  refine W_seq (q2 (pe 2 Z (lN Z (pe 1 Z (q3 ?_)))))
  refine W_cond Z ?_ ?_
  ·intro hc16
   try simp only[nrm]at hc16
   refine W_skip (N_K (W_seq (W_block (q2 (pe 2 Z (iP k hr12_0 Z3 Z ?_))))));intro _ _ z17 _ hz17 hE17 hrow17
   obtain⟨_,_,_,rfl,_,hi17,hr17⟩:=hE17;have hy_hi17:_≤16777216:=hi17;have hn_hr17:=hr17.len;have hx_hr17:_≤1099511627776:=hr17.lim
   refine o_loadagg_P H isAgg106 sizeOf106 Z Z hrow17 Z (xal H Z ?_);intro _ _ _ H
   refine xst 0 H Z8 ?_;intro _ H
   refine q1 (fA 0 Z (lB 0 H Z3 (fA 1 Z (fA 0 Z (lB 0 H Z3 (fA 1 Z (fA 1 Z (lB 0 H Z3 (xbs H Z7 ?_)))))))));intro _ _ _ H
   have H:=H.blkAcc 1 (k:=0) (n:=0) rfl rfl (by decide)
   refine o_build bf39 Z Z Z (xal H Z ?_);intro _ _ _ H
   refine xst 0 H Z8 ?_;intro _ H
   refine q3 (W_seq (q2 (fA 0 Z (lB 2 H Z3 (pe 1 Z (q3 ?_))))))
   refine W_cond Z ?_ ?_
   ·intro hc23
    try simp only[nrm]at hc23
    refine W_region (fA 0 Z (lB 4 H Z3 (fA 1 Z (fA 2 Z (lB 2 H Z3 (xc Z2 (l4Load_c _ _ H.sub _ _ hr1 _ _ hr17 (Sp.ch_ids hdv hz17).1 (Sp.dv_store hdv)) ?_))))))
    rintro _ _ ⟨_,_,_,g24,rfl,⟨_,rfl,hchk24⟩,hp24,hq24,hs24⟩
    have H:=H.growO g24 hp24 hq24 hs24;obtain⟨_,_,rfl⟩:=H.accShape (k:=0) rfl
    have hchk15_0:=hchk15_0.up g24.le
    have hle15:=hle15.trans g24.le
    refine⟨_,Z,?_⟩
    have hl8:=Sp.load_len8 hVx z17.bytes;have hl4:=(Sp.ch_ids hdv hz17).2
    refine fA 3 Z (xst 1 H Z8 ?_);intro _ H
    refine q3 (W_region (mV Z (lA 1 4 H Z4 (xbs H Z7 ?_))));intro _ _ _ H
    refine o_append1 4 H (sz:=4) (bytes:=56) underlying28 typeInfo39 ⟨_,Z,Z⟩ Z Z Z Z Z Z Z Z Z Z oM Z ?_;intro _ _ H
    obtain⟨_,H,hsg28,hsr28⟩:=H.shut' (k:=0) rfl hchk24 aN aN
    have hchk15_0:=hchk15_0.up hsg28
    have hle15:=hle15.trans hsg28
    have hchk27:=hchk15_0.snoc (show partE _ ⟨z17.kind,z17.path,z17.dir,Sp.load d.store z17.bytes⟩ _ from⟨_,_,_,rfl,⟨by first|omega|(dsimp only;omega),by first|omega|(dsimp only;omega)⟩,hi17,hsr28⟩) rfl
    obtain⟨_,_,rfl⟩:=H.accShape (k:=3) rfl
    refine aG Z (R_nil (N_B (N_K (W_region (mV Z (aD Z2 (aG Z (R_nil ?_))))))))
    have H:=H.sel [3,4] rfl
    refine N_lp (hJ:=⟨_,_,_,(xs++[⟨z17.kind,z17.path,z17.dir,Sp.load d.store z17.bytes⟩]),k+1,_,Z,hle15,H,?inv,Z⟩) (hm:=?hm)
    case hm=>omega
    case inv=>exact⟨hchk27,aN,(by exact⟨by omega,by rw[hxs];exact Sp.pc_snoc hz17 (Sp.pcP_n hc23)⟩)⟩
   intro hc23'
   try simp only[nrm]at hc23'
   refine W_skip (N_K (W_region (mV Z (lA 0 4 H Z4 (xbs H Z7 ?_)))));intro _ _ _ H
   refine o_append1 3 H (sz:=4) (bytes:=56) underlying28 typeInfo39 ⟨_,Z,Z⟩ Z Z Z Z Z Z Z Z Z Z oM Z ?_;intro _ _ H
   obtain⟨_,H,hsg32,hsr32⟩:=H.shut' (k:=1) rfl (Chk.nil (E:=intE) (sz:=1) (G:=G15)) aN aN
   have hchk15_0:=hchk15_0.up hsg32
   have hle15:=hle15.trans hsg32
   have hchk31:=hchk15_0.snoc (show partE _ ⟨z17.kind,z17.path,z17.dir,[]⟩ _ from⟨_,_,_,rfl,⟨by first|omega|(dsimp only;omega),by first|omega|(dsimp only;omega)⟩,hi17,hsr32⟩) rfl
   obtain⟨_,_,rfl⟩:=H.accShape (k:=2) rfl
   refine aG Z (R_nil (N_B (N_K (W_region (mV Z (aD Z2 (aG Z (R_nil ?_))))))))
   have H:=H.sel [2,3] rfl
   refine N_lp (hJ:=⟨_,_,_,(xs++[⟨z17.kind,z17.path,z17.dir,[]⟩]),k+1,_,Z,hle15,H,?inv,Z⟩) (hm:=?hm)
   case hm=>omega
   case inv=>exact⟨hchk31,aN,(by exact⟨by omega,by rw[hxs];exact Sp.pc_snoc hz17 (Sp.pcP_2 (by simpa using hc23'))⟩)⟩
  intro hc16'
  try simp only[nrm]at hc16'
  refine W_exit (N_K_exit (N_LP_exit (N_B_same (N_K (q2 (pe 3 Z (q3 (W_ret (rt2 results18 Z Z ?_)))))))))
  obtain rfl:k=((Sp.chg (Sp.ltD d fr) (Sp.ltD d tt)).map Sp.chP).length:=by omega
  rw[List.take_length]at hxs
  have hY:Sp.StreamOf d fr tt=some xs:=by (rw[hxs];exact hso)
  exact H.retO (k:=0) rfl (by rw[hY];exact⟨_,rfl,AccOf.mk aN hchk15_0⟩) (acc_nd _ _ _ _ _)
theorem DrawStreamRun_c (w0:World)(G0:PH)(hG:PSub G0 w0)(vcode:Value)(code:List (UInt8))(hcode:RdU G0 vcode code) :
  Calls Tryz.prog 9 #[vcode] w0 (RetP w0 G0 (fun G v=>∃(cs:List Value) (x:BDisk) (va:Value) (qs:List BPart),v= .tuple #[.agg cs.toArray,va]∧diskE G x cs∧RdPart G va qs)):=by
 obtain⟨acode,kcode,rfl⟩:=hcode.shape
 have hlimcode:code.length≤1099511627776:=hcode.lim
 have H:=Hp.init hG
 refine calls_of_W (l:=[.slice acode code.length kcode]) func9 Z ntmps9 Z (q2 (xal H Z ?_));intro b1 _ _ H
 refine aG Z (q1 (mV Z (xc Z2 (l6Open_c _ _ H.sub _ _ hcode) ?_)))
 rintro _ _ ⟨_,_,_,g2,rfl,⟨rb2,ab2,mb2,kb2,_,rfl,rfl,hbs2⟩,hp2,hq2,hs2⟩
 have H:=H.growO g2 hp2 hq2 hs2
 refine⟨_,Z,?_⟩
 refine aG Z (q1 (mV Z (xc Z2 (l91Disk_c _ _ H.sub _ _ _ _ _ _ hbs2 (H.blkIs (k:=0) Z).1 (H.blkIs (k:=0) Z).2 oM) ?_)))
 rintro _ _ ⟨G3,_,_,rfl,H3',⟨p3,_,_,_,st3,tr3,sn3,_,rfl,hst3,htr3,hsn3,rfl⟩⟩
 have hbs2:=hbs2.up H3'.le
 have H:=H.borrow (k:=0) rfl H3'
 obtain⟨_,_,rfl⟩:=hst3.shape;have hx_hst3:_≤1099511627776:=hst3.lim;obtain⟨_,_,rfl⟩:=htr3.shape;have hx_htr3:_≤1099511627776:=htr3.lim;obtain⟨_,_,rfl⟩:=hsn3.shape;have hx_hsn3:_≤1099511627776:=hsn3.lim
 refine⟨_,Z,?_⟩
 refine xal H Z ?_;intro b4 _ _ H
 refine xst 0 H Z8 ?_;intro _ H
 refine q3 ?_
 obtain⟨ljb4,hljb4,H⟩:=H.name (k:=0) rfl
 obtain⟨ljb1,hljb1,H⟩:=H.name (k:=2) rfl
 have hj6:=PLe.refl G3
 refine W_joinQ (hf:=(Sub.cons (t:=2) Z (Sub.cons (t:=3) Z (Sub.cons (t:=4) Z (Sub.cons (t:=5) Z Sub.nil))))) (J:=fun M w=>∃(pj:Nat) (G:PH),M=[]∧PLe G3 G∧Hp w0 G0 [] w G [blk rb2 (cl [.slice ab2 mb2 kb2,.int .i64 (pj:Int)] 130),blk b4 (cl ljb4 27),blk b1 (cl ljb1 27)]∧(pj≤6000)) (first:=?_) (second:=?_)
 ·skip
  subst hljb4
  subst hljb1
  refine q2 (fA 2 Z (lB 0 H Z3 (lN Z (pe 2 Z ?_))))
  refine R_case (t:=20) Z ?_ ?_
  ·intro hc7
   try simp only[nrm]at hc7
   refine gR Z (lA 0 3 H Z4 (gR Z (xr H Z2 (DiskValid_c _ _ H.sub _ ⟨st3,tr3,sn3⟩ ⟨_,_,_,_,_,_,_,_,_,Z,hst3,htr3,hsn3⟩) ?_)));intro _ H
   refine pe 1 Z (q3 ?_)
   refine W_cond Z ?_ ?_
   ·intro hc9
    try simp only[nrm]at hc9
    refine W_seq (W_drawK [0,2] 11 H kR Z ?_);intro _ H;have hd10:=PLe.refl G3
    refine dF 0 2 Z2 (dB 1 0 Z4 (dE 2 Z2 (dF 3 2 Z2 (dB 4 0 Z4 (dN 5 Z2 (r1 6 Z (xc Z2 (pick_c _ _ H.sub _ _ _ _ _ _ hbs2 (H.blkIs (k:=1) Z).1 (H.blkIs (k:=1) Z).2 oM _ oO) ?_)))))))
    rintro _ _ ⟨G11,_,_,rfl,H11',⟨_,x11,_,rfl,_,rfl⟩⟩
    have hbs2:=hbs2.up H11'.le
    have hst3:=hst3.up H11'.le
    have htr3:=htr3.up H11'.le
    have hsn3:=hsn3.up H11'.le
    have hj6:=hj6.trans H11'.le
    have hd10:=hd10.trans H11'.le
    have H:=H.borrow (k:=1) rfl H11'
    refine⟨_,Z,?_⟩
    refine q4 H hd10 ?_
    have hl12:=hsn3.len
    obtain⟨_,_,z12,_,ha12,_,hq12,hE12,hrow12,_⟩:=hsn3.at (i:=x11) oM
    clear hq12
    obtain⟨_,_,_,rfl,hi12,hr12,_,_⟩:=ox hE12
    refine dI 7 2 x11 ha12 Z3 Z (dF 8 0 Z2 (r1 9 Z (lP H hrow12 0 Z2 (q4 H hd10 (dE 10 Z2 (rz (N_K (W_seq (W_drawK [1,2] 11 H kR Z ?_)))))))));intro _ H;have hd13:=PLe.refl G11
    refine dF 0 2 Z2 (dB 1 0 Z4 (dE 2 Z2 (dF 3 2 Z2 (dB 4 0 Z4 (dN 5 Z2 (r1 6 Z (xc Z2 (pick_c _ _ H.sub _ _ _ _ _ _ hbs2 (H.blkIs (k:=0) Z).1 (H.blkIs (k:=0) Z).2 oM _ oO) ?_)))))))
    rintro _ _ ⟨_,_,_,rfl,H14',⟨p14,x14,_,rfl,_,rfl⟩⟩
    have hbs2:=hbs2.up H14'.le
    have hst3:=hst3.up H14'.le
    have htr3:=htr3.up H14'.le
    have hsn3:=hsn3.up H14'.le
    have hj6:=hj6.trans H14'.le
    have hd13:=hd13.trans H14'.le
    have H:=H.borrow (k:=0) rfl H14'
    refine⟨_,Z,?_⟩
    refine q4 H hd13 ?_
    have hl15:=hsn3.len
    obtain⟨_,_,z15,_,ha15,_,hq15,hE15,hrow15,_⟩:=hsn3.at (i:=x14) oM
    clear hq15
    obtain⟨_,_,_,rfl,hi15,hr15,_,_⟩:=ox hE15
    refine dI 7 2 x14 ha15 Z3 Z (dF 8 0 Z2 (r1 9 Z (lP H hrow15 0 Z2 (q4 H hd13 (dE 10 Z2 (rz (N_K (q2 (lA 1 3 H Z4 (pe 2 Z (xc Z2 (StreamOf_c _ _ H.sub _ ⟨st3,tr3,sn3⟩ ⟨_,_,_,_,_,_,_,_,_,Z,hst3,htr3,hsn3⟩ _ hi12 _ hi15) ?_)))))))))))
    rintro _ _ ⟨_,_,_,g16,rfl,⟨_,rfl,⟨_,rfl,hchk16⟩⟩,hp16,hq16,hs16⟩
    have H:=H.growO g16 hp16 hq16 hs16;obtain⟨_,_,rfl⟩:=H.accShape (k:=0) rfl
    have hbs2:=hbs2.up g16.le
    have hst3:=hst3.up g16.le
    have htr3:=htr3.up g16.le
    have hsn3:=hsn3.up g16.le
    have hj6:=hj6.trans g16.le
    refine⟨_,Z,?_⟩
    have hsl:=Sp.so_len ⟨st3,tr3,sn3⟩ z12.name z15.name
    refine pe 5 Z (q1 (lA 2 3 H Z4 (mV Z (xc Z2 (SnapBackP_c _ _ H.sub _ ⟨st3,tr3,sn3⟩ ⟨_,_,_,_,_,_,_,_,_,Z,hst3,htr3,hsn3⟩ _ hi12) ?_))))
    rintro _ _ ⟨_,_,g17,rfl,_,rfl,hr17_0⟩
    have H:=H.grow g17
    have hbs2:=hbs2.up g17.le
    have hchk16:=hchk16.up g17.le
    have hj6:=hj6.trans g17.le
    obtain⟨_,_,_,_,_,_,_,_,_,rfl,hr18,hr18',hr18'',⟨_,_⟩,⟨_,_⟩,_,_⟩:=ox hr17_0
    refine⟨_,Z,?_⟩
    refine pe 3 Z (xal H Z ?_);intro _ _ _ H
    refine xst 0 H Z8 ?_;intro _ H
    refine aG Z (q1 (pe 2 Z ?_))
    refine R_case (t:=58) Z ?_ ?_
    ·intro hc21
     try simp only[nrm]at hc21
     refine pe 2 Z (q3 ?_)
     refine W_cond Z ?_ ?_
     ·intro hc22
      try simp only[nrm]at hc22
      refine W_seq (q2 (mV Z (lN Z (pe 2 Z ?_))))
      refine R_case (t:=64) Z ?_ ?_
      ·intro hc23
       try simp only[nrm]at hc23
       refine pe 1 Z (gR Z (xc Z2 (pick_c _ _ H.sub _ _ _ _ _ _ hbs2 (H.blkIs (k:=2) Z).1 (H.blkIs (k:=2) Z).2 oM _ oO) ?_))
       rintro _ _ ⟨_,_,_,rfl,H24',⟨_,_,_,rfl,_,rfl⟩⟩
       have hbs2:=hbs2.up H24'.le
       have hchk16:=hchk16.up H24'.le
       have hr18:=hr18.up H24'.le
       have hr18':=hr18'.up H24'.le
       have hr18'':=hr18''.up H24'.le
       have H:=H.borrow (k:=2) rfl H24'
       refine⟨_,Z,?_⟩
       refine pe 2 Z (q3 ?_)
       refine W_cond Z ?_ ?_
       ·intro hc25
        try simp only[nrm]at hc25
        refine W_region (pe 3 Z (lN Z (xc Z2 (pick_c _ _ H.sub _ _ _ _ _ _ hbs2 (H.blkIs (k:=0) Z).1 (H.blkIs (k:=0) Z).2 oM _ oO) ?_)))
        rintro _ _ ⟨_,_,_,rfl,H26',⟨_,x26,_,rfl,_,rfl⟩⟩
        have hbs2:=hbs2.up H26'.le
        have hchk16:=hchk16.up H26'.le
        have hr18:=hr18.up H26'.le
        have hr18':=hr18'.up H26'.le
        have hr18'':=hr18''.up H26'.le
        have H:=H.borrow (k:=0) rfl H26'
        refine⟨_,Z,?_⟩
        refine mV Z (xc Z2 (pick_c _ _ H.sub _ _ _ _ _ _ hbs2 (H.blkIs (k:=0) Z).1 (H.blkIs (k:=0) Z).2 oM _ oO) ?_)
        rintro _ _ ⟨_,_,_,rfl,H27',⟨_,x27,_,rfl,_,rfl⟩⟩
        have hchk16:=hchk16.up H27'.le
        have hr18:=hr18.up H27'.le
        have hr18':=hr18'.up H27'.le
        have hr18'':=hr18''.up H27'.le
        have H:=H.borrow (k:=0) rfl H27'
        refine⟨_,Z,?_⟩
        refine o_index_A 2 H x26 Z hchk16 underlying28 sizeOf39 Z Z Z Z aN aN ?_;intro _ z28 _ hba28 hz28 hE28 _;cases hba28
        obtain⟨_,_,_,rfl,_,hi28,hr28⟩:=hE28;have hy_hi28:_≤16777216:=hi28;have hn_hr28:=hr28.len;have hx_hr28:_≤1099511627776:=hr28.lim
        refine fA 0 Z ?_
        have hcl29:=hchk16.length
        refine o_store_A 2 H sizeOf3 Z Z Z Z Z (by simp only[vc,List.length_cons,List.length_nil];omega) ?_;intro _ H
        have hchk29:=hchk16.put (x':=⟨x27,z28.path,z28.dir,z28.bytes⟩) (off:=0) (vs:=[_]) hz28 (fun cs hl hE=>by obtain⟨_,_,_,rfl,_,h2,h3⟩:=hE;exact⟨_,_,_,rfl,⟨by first|omega|(dsimp only;omega),by first|omega|(dsimp only;omega)⟩,h2,h3⟩) (by simp only[vc,List.length_cons,List.length_nil];omega)
        refine q1 (lA 1 3 H Z4 (mV Z (xst 4 H Z8 ?_)));intro _ H
        refine aG Z (q3 (W_ret (N_JQ_ret (ret_gen (rs:=[.cell 2 27,.tmp 3]) (vs:=[_,_]) results9 ⟨⟨_,Z,load_blk 4 H isAgg27 sizeOf27 Z Z Z⟩,Z,trivial⟩ ?_))))
        obtain⟨_,H,hsg31,hsr31⟩:=H.shut' (k:=2) rfl hchk29 aN aN
        have hr18:=hr18.up hsg31
        have hr18':=hr18'.up hsg31
        have hr18'':=hr18''.up hsg31
        have H:=H.sel [] rfl
        exact H.retP ⟨_,_,_,_,Z,⟨_,_,_,_,_,_,_,_,_,Z,hr18,hr18',hr18''⟩,hsr31⟩
       intro hc25'
       try simp only[nrm]at hc25'
       refine W_skip (N_K (q2 (lA 1 3 H Z4 (mV Z (xst 4 H Z8 ?_)))));intro _ H
       refine aG Z (q3 (W_ret (N_JQ_ret (ret_gen (rs:=[.cell 2 27,.tmp 3]) (vs:=[_,_]) results9 ⟨⟨_,Z,load_blk 4 H isAgg27 sizeOf27 Z Z Z⟩,Z,trivial⟩ ?_))))
       obtain⟨_,H,hsg33,hsr33⟩:=H.shut' (k:=2) rfl hchk16 aN aN
       have hr18:=hr18.up hsg33
       have hr18':=hr18'.up hsg33
       have hr18'':=hr18''.up hsg33
       have H:=H.sel [] rfl
       exact H.retP ⟨_,_,_,_,Z,⟨_,_,_,_,_,_,_,_,_,Z,hr18,hr18',hr18''⟩,hsr33⟩
      intro hc23'
      try simp only[nrm]at hc23'
      refine pe 4 Z (q3 (W_false Z (W_skip (N_K (q2 (lA 0 3 H Z4 (mV Z (xst 4 H Z8 ?_))))))));intro _ H
      refine aG Z (q3 (W_ret (N_JQ_ret (ret_gen (rs:=[.cell 2 27,.tmp 3]) (vs:=[_,_]) results9 ⟨⟨_,Z,load_blk 4 H isAgg27 sizeOf27 Z Z Z⟩,Z,trivial⟩ ?_))))
      obtain⟨_,H,hsg35,hsr35⟩:=H.shut' (k:=1) rfl hchk16 aN aN
      have hr18:=hr18.up hsg35
      have hr18':=hr18'.up hsg35
      have hr18'':=hr18''.up hsg35
      have H:=H.sel [] rfl
      exact H.retP ⟨_,_,_,_,Z,⟨_,_,_,_,_,_,_,_,_,Z,hr18,hr18',hr18''⟩,hsr35⟩
     intro hc22'
     try simp only[nrm]at hc22'
     refine W_skip ?_
     have H:=H.sel [2,3,4] rfl
     exact N_JQ ⟨p14,_,Z,hj6,H,oM⟩
    intro hc21'
    try simp only[nrm]at hc21'
    refine pe 2 Z (q3 (W_false Z (W_skip ?_)))
    have H:=H.sel [2,3,4] rfl
    exact N_JQ ⟨p14,_,Z,hj6,H,oM⟩
   intro hc9'
   try simp only[nrm]at hc9'
   refine W_skip ?_
   have H:=H.tF 2
   have H:=H.tF 1
   have H:=H.tF 2
   exact N_JQ ⟨p3,_,Z,hj6,H,oM⟩
  intro hc7'
  try simp only[nrm]at hc7'
  refine pe 3 Z (q3 (W_false Z (W_skip ?_)))
  have H:=H.tF 2
  have H:=H.tF 1
  have H:=H.tF 2
  exact N_JQ ⟨p3,_,Z,hj6,H,oM⟩
 rintro _ _ ⟨pj,G6,rfl,hle6,H,hinv6⟩
 subst hljb4
 subst hljb1
 have hbs2:=hbs2.up hle6
 have hst3:=hst3.up hle6
 have htr3:=htr3.up hle6
 have hsn3:=hsn3.up hle6
 have hpj:pj≤6000:=hinv6
 refine W_seq (W_drawK [1] 16 H kR Z ?_);intro _ H;have hd36:=PLe.refl G6
 refine RD_t 0 Z kR Z (fun _ hK=>v_loadagg_B 0 hK isAgg27 sizeOf27 Z Z Z Z) (dE 1 Z2 (dE 4 Z2 (dF 5 1 Z2 (dB 6 0 Z4 (dE 8 Z2 ?_)))))
 refine r2 2 11 Z2 ?_ ?_
 ·skip
  refine xc Z2 (pick_c _ _ H.sub _ _ _ _ _ _ hbs2 (H.blkIs (k:=0) Z).1 (H.blkIs (k:=0) Z).2 oM _ oO) ?_
  rintro _ _ ⟨_,_,_,rfl,H37',⟨_,x37,_,rfl,_,rfl⟩⟩
  have hbs2:=hbs2.up H37'.le
  have hst3:=hst3.up H37'.le
  have htr3:=htr3.up H37'.le
  have hsn3:=hsn3.up H37'.le
  have hd36:=hd36.trans H37'.le
  have H:=H.borrow (k:=0) rfl H37'
  refine⟨_,Z,?_⟩
  refine q4 H hd36 (RD_t 3 Z kR Z (fun _ hK=>v_add Z Z oO) ?_)
  refine r2 7 11 Z2 ?_ ?_
  ·skip
   refine xc Z2 (l91At_c _ _ H.sub _ _ _ _ _ _ hbs2 (H.blkIs (k:=0) Z).1 (H.blkIs (k:=0) Z).2 oM _ _ htr3) ?_
   rintro _ _ ⟨_,_,_,rfl,H39',⟨_,x39,_,rfl,hxs39,rfl⟩⟩
   have hbs2:=hbs2.up H39'.le
   have hst3:=hst3.up H39'.le
   have htr3:=htr3.up H39'.le
   have hsn3:=hsn3.up H39'.le
   have hd36:=hd36.trans H39'.le
   have H:=H.borrow (k:=0) rfl H39'
   refine⟨_,Z,?_⟩
   refine q4 H hd36 ?_
   refine r2 9 11 Z2 ?_ ?_
   ·skip
    refine xc Z2 (pick_c _ _ H.sub _ _ _ _ _ _ hbs2 (H.blkIs (k:=0) Z).1 (H.blkIs (k:=0) Z).2 oM _ oO) ?_
    rintro _ _ ⟨G40,_,_,rfl,H40',⟨_,x40,_,rfl,_,rfl⟩⟩
    have hst3:=hst3.up H40'.le
    have htr3:=htr3.up H40'.le
    have hsn3:=hsn3.up H40'.le
    have hd36:=hd36.trans H40'.le
    have H:=H.borrow (k:=0) rfl H40'
    refine⟨_,Z,?_⟩
    refine q4 H hd36 (dE 10 Z2 ?_)
    refine r2 11 14 Z2 ?_ ?_
    ·skip
     refine xbs H Z7 ?_;intro _ _ _ H
     have H:=H.blkAcc 1 (k:=0) (n:=0) rfl rfl (by decide)
     refine q4 H hd36 (RD_t 12 Z kR Z (fun _ hK=>v_build bf39 Z Z) ?_)
     refine r2 13 14 Z2 ?_ ?_
     ·skip
      refine xbs H Z7 ?_;intro _ _ _ H
      refine q4 H hd36 (r1 14 Z (xst 4 H Z8 ?_));intro _ H
      refine q4 H hd36 (dE 15 Z2 (rz (N_K (W_ret (ret_gen (rs:=[.cell 2 27,.tmp 3]) (vs:=[_,_]) results9 ⟨⟨_,Z,load_blk 4 H isAgg27 sizeOf27 Z Z Z⟩,Z,trivial⟩ ?_)))))
      have H:=H.blkAcc 4 (k:=0) (n:=1) rfl rfl (by decide)
      obtain⟨G45,H,hsg45,hsr45⟩:=H.shut' (k:=1) rfl (Chk.nil (E:=intE) (sz:=1) (G:=G40)) aN aN
      have hst3:=hst3.up hsg45
      have htr3:=htr3.up hsg45
      have hsn3:=hsn3.up hsg45
      have hchk44:=((Chk.nil (E:=partE) (sz:=4) (G:=G45)).snoc (show partE _ ⟨1+(x37:Int),x39,decide ((x40:Int)=0),[]⟩ _ from⟨_,_,_,rfl,⟨by first|omega|(dsimp only;omega),by first|omega|(dsimp only;omega)⟩,hxs39,hsr45⟩) rfl)
      obtain⟨_,H,hsg46,hsr46⟩:=H.shut' (k:=0) rfl hchk44 aN aN
      have hst3:=hst3.up hsg46
      have htr3:=htr3.up hsg46
      have hsn3:=hsn3.up hsg46
      have H:=H.dl 0
      have H:=H.dl 0
      have H:=H.dl 0
      exact H.retP ⟨_,⟨st3,tr3,sn3⟩,_,_,Z,⟨_,_,_,_,_,_,_,_,_,Z,hst3,htr3,hsn3⟩,hsr46⟩
     skip
     refine xst 3 H Z8 ?_;intro _ H
     refine q4 H hd36 (r1 13 Z (xbs H Z7 ?_));intro _ _ _ H
     refine q4 H hd36 (dE 15 Z2 (rz (N_K (W_ret (ret_gen (rs:=[.cell 2 27,.tmp 3]) (vs:=[_,_]) results9 ⟨⟨_,Z,load_blk 4 H isAgg27 sizeOf27 Z Z Z⟩,Z,trivial⟩ ?_)))))
     have H:=H.blkAcc 4 (k:=0) (n:=1) rfl rfl (by decide)
     obtain⟨G50,H,hsg50,hsr50⟩:=H.shut' (k:=1) rfl (Chk.nil (E:=intE) (sz:=1) (G:=G40)) aN aN
     have hst3:=hst3.up hsg50
     have htr3:=htr3.up hsg50
     have hsn3:=hsn3.up hsg50
     have hchk49:=((Chk.nil (E:=partE) (sz:=4) (G:=G50)).snoc (show partE _ ⟨1+(x37:Int),x39,decide ((x40:Int)=0),[]⟩ _ from⟨_,_,_,rfl,⟨by first|omega|(dsimp only;omega),by first|omega|(dsimp only;omega)⟩,hxs39,hsr50⟩) rfl)
     obtain⟨_,H,hsg51,hsr51⟩:=H.shut' (k:=0) rfl hchk49 aN aN
     have hst3:=hst3.up hsg51
     have htr3:=htr3.up hsg51
     have hsn3:=hsn3.up hsg51
     have H:=H.dl 0
     have H:=H.dl 0
     have H:=H.dl 0
     exact H.retP ⟨_,⟨st3,tr3,sn3⟩,_,_,Z,⟨_,_,_,_,_,_,_,_,_,Z,hst3,htr3,hsn3⟩,hsr51⟩
    skip
    refine xst 2 H Z8 ?_;intro _ H
    refine q4 H hd36 (r1 11 Z (xbs H Z7 ?_));intro _ _ _ H
    have H:=H.blkAcc 1 (k:=0) (n:=0) rfl rfl (by decide)
    refine q4 H hd36 (RD_t 12 Z kR Z (fun _ hK=>v_build bf39 Z Z) (r1 13 Z (xbs H Z7 ?_)));intro _ _ _ H
    refine q4 H hd36 (dE 15 Z2 (rz (N_K (W_ret (ret_gen (rs:=[.cell 2 27,.tmp 3]) (vs:=[_,_]) results9 ⟨⟨_,Z,load_blk 4 H isAgg27 sizeOf27 Z Z Z⟩,Z,trivial⟩ ?_)))))
    have H:=H.blkAcc 4 (k:=0) (n:=1) rfl rfl (by decide)
    obtain⟨G56,H,hsg56,hsr56⟩:=H.shut' (k:=1) rfl (Chk.nil (E:=intE) (sz:=1) (G:=G40)) aN aN
    have hst3:=hst3.up hsg56
    have htr3:=htr3.up hsg56
    have hsn3:=hsn3.up hsg56
    have hchk55:=((Chk.nil (E:=partE) (sz:=4) (G:=G56)).snoc (show partE _ ⟨1+(x37:Int),x39,decide ((x40:Int)=0),[]⟩ _ from⟨_,_,_,rfl,⟨by first|omega|(dsimp only;omega),by first|omega|(dsimp only;omega)⟩,hxs39,hsr56⟩) rfl)
    obtain⟨_,H,hsg57,hsr57⟩:=H.shut' (k:=0) rfl hchk55 aN aN
    have hst3:=hst3.up hsg57
    have htr3:=htr3.up hsg57
    have hsn3:=hsn3.up hsg57
    have H:=H.dl 0
    have H:=H.dl 0
    have H:=H.dl 0
    exact H.retP ⟨_,⟨st3,tr3,sn3⟩,_,_,Z,⟨_,_,_,_,_,_,_,_,_,Z,hst3,htr3,hsn3⟩,hsr57⟩
   skip
   refine xbs H Z7 ?_;intro _ _ _ H
   have H:=H.blkAcc 1 (k:=0) (n:=0) rfl rfl (by decide)
   refine q4 H hd36 (r1 9 Z (xc Z2 (pick_c _ _ H.sub _ _ _ _ _ _ hbs2 (H.blkIs (k:=1) Z).1 (H.blkIs (k:=1) Z).2 oM _ oO) ?_))
   rintro _ _ ⟨G59,_,_,rfl,H59',⟨_,x59,_,rfl,_,rfl⟩⟩
   have hst3:=hst3.up H59'.le
   have htr3:=htr3.up H59'.le
   have hsn3:=hsn3.up H59'.le
   have hd36:=hd36.trans H59'.le
   have H:=H.borrow (k:=1) rfl H59'
   refine⟨_,Z,?_⟩
   refine q4 H hd36 (dE 10 Z2 (RD_t 12 Z kR Z (fun _ hK=>v_build bf39 Z Z) ?_))
   refine r2 13 14 Z2 ?_ ?_
   ·skip
    refine xbs H Z7 ?_;intro _ _ _ H
    refine q4 H hd36 (r1 14 Z (xst 4 H Z8 ?_));intro _ H
    refine q4 H hd36 (dE 15 Z2 (rz (N_K (W_ret (ret_gen (rs:=[.cell 2 27,.tmp 3]) (vs:=[_,_]) results9 ⟨⟨_,Z,load_blk 4 H isAgg27 sizeOf27 Z Z Z⟩,Z,trivial⟩ ?_)))))
    have H:=H.blkAcc 4 (k:=0) (n:=1) rfl rfl (by decide)
    obtain⟨G63,H,hsg63,hsr63⟩:=H.shut' (k:=2) rfl (Chk.nil (E:=intE) (sz:=1) (G:=G59)) aN aN
    have hst3:=hst3.up hsg63
    have htr3:=htr3.up hsg63
    have hsn3:=hsn3.up hsg63
    have hchk62:=((Chk.nil (E:=partE) (sz:=4) (G:=G63)).snoc (show partE _ ⟨1+(x37:Int),x39,decide ((x59:Int)=0),[]⟩ _ from⟨_,_,_,rfl,⟨by first|omega|(dsimp only;omega),by first|omega|(dsimp only;omega)⟩,hxs39,hsr63⟩) rfl)
    obtain⟨_,H,hsg64,hsr64⟩:=H.shut' (k:=0) rfl hchk62 aN aN
    have hst3:=hst3.up hsg64
    have htr3:=htr3.up hsg64
    have hsn3:=hsn3.up hsg64
    have H:=H.dl 0
    have H:=H.dl 0
    have H:=H.dl 0
    exact H.retP ⟨_,⟨st3,tr3,sn3⟩,_,_,Z,⟨_,_,_,_,_,_,_,_,_,Z,hst3,htr3,hsn3⟩,hsr64⟩
   skip
   refine xst 3 H Z8 ?_;intro _ H
   refine q4 H hd36 (r1 13 Z (xbs H Z7 ?_));intro _ _ _ H
   refine q4 H hd36 (dE 15 Z2 (rz (N_K (W_ret (ret_gen (rs:=[.cell 2 27,.tmp 3]) (vs:=[_,_]) results9 ⟨⟨_,Z,load_blk 4 H isAgg27 sizeOf27 Z Z Z⟩,Z,trivial⟩ ?_)))))
   have H:=H.blkAcc 4 (k:=0) (n:=1) rfl rfl (by decide)
   obtain⟨G68,H,hsg68,hsr68⟩:=H.shut' (k:=2) rfl (Chk.nil (E:=intE) (sz:=1) (G:=G59)) aN aN
   have hst3:=hst3.up hsg68
   have htr3:=htr3.up hsg68
   have hsn3:=hsn3.up hsg68
   have hchk67:=((Chk.nil (E:=partE) (sz:=4) (G:=G68)).snoc (show partE _ ⟨1+(x37:Int),x39,decide ((x59:Int)=0),[]⟩ _ from⟨_,_,_,rfl,⟨by first|omega|(dsimp only;omega),by first|omega|(dsimp only;omega)⟩,hxs39,hsr68⟩) rfl)
   obtain⟨_,H,hsg69,hsr69⟩:=H.shut' (k:=0) rfl hchk67 aN aN
   have hst3:=hst3.up hsg69
   have htr3:=htr3.up hsg69
   have hsn3:=hsn3.up hsg69
   have H:=H.dl 0
   have H:=H.dl 0
   have H:=H.dl 0
   exact H.retP ⟨_,⟨st3,tr3,sn3⟩,_,_,Z,⟨_,_,_,_,_,_,_,_,_,Z,hst3,htr3,hsn3⟩,hsr69⟩
  skip
  refine xbs H Z7 ?_;intro _ _ _ H
  have H:=H.blkAcc 1 (k:=0) (n:=0) rfl rfl (by decide)
  refine q4 H hd36 (r1 7 Z (xc Z2 (l91At_c _ _ H.sub _ _ _ _ _ _ hbs2 (H.blkIs (k:=1) Z).1 (H.blkIs (k:=1) Z).2 oM _ _ htr3) ?_))
  rintro _ _ ⟨_,_,_,rfl,H71',⟨_,x71,_,rfl,hxs71,rfl⟩⟩
  have hbs2:=hbs2.up H71'.le
  have hst3:=hst3.up H71'.le
  have htr3:=htr3.up H71'.le
  have hsn3:=hsn3.up H71'.le
  have hd36:=hd36.trans H71'.le
  have H:=H.borrow (k:=1) rfl H71'
  refine⟨_,Z,?_⟩
  refine q4 H hd36 (r1 9 Z (xc Z2 (pick_c _ _ H.sub _ _ _ _ _ _ hbs2 (H.blkIs (k:=0) Z).1 (H.blkIs (k:=0) Z).2 oM _ oO) ?_))
  rintro _ _ ⟨G72,_,_,rfl,H72',⟨_,x72,_,rfl,_,rfl⟩⟩
  have hst3:=hst3.up H72'.le
  have htr3:=htr3.up H72'.le
  have hsn3:=hsn3.up H72'.le
  have hd36:=hd36.trans H72'.le
  have H:=H.borrow (k:=0) rfl H72'
  refine⟨_,Z,?_⟩
  refine q4 H hd36 (dE 10 Z2 (RD_t 12 Z kR Z (fun _ hK=>v_build bf39 Z Z) ?_))
  refine r2 13 14 Z2 ?_ ?_
  ·skip
   refine xbs H Z7 ?_;intro _ _ _ H
   refine q4 H hd36 (r1 14 Z (xst 4 H Z8 ?_));intro _ H
   refine q4 H hd36 (dE 15 Z2 (rz (N_K (W_ret (ret_gen (rs:=[.cell 2 27,.tmp 3]) (vs:=[_,_]) results9 ⟨⟨_,Z,load_blk 4 H isAgg27 sizeOf27 Z Z Z⟩,Z,trivial⟩ ?_)))))
   have H:=H.blkAcc 4 (k:=0) (n:=1) rfl rfl (by decide)
   obtain⟨G76,H,hsg76,hsr76⟩:=H.shut' (k:=2) rfl (Chk.nil (E:=intE) (sz:=1) (G:=G72)) aN aN
   have hst3:=hst3.up hsg76
   have htr3:=htr3.up hsg76
   have hsn3:=hsn3.up hsg76
   have hchk75:=((Chk.nil (E:=partE) (sz:=4) (G:=G76)).snoc (show partE _ ⟨1+(x37:Int),x71,decide ((x72:Int)=0),[]⟩ _ from⟨_,_,_,rfl,⟨by first|omega|(dsimp only;omega),by first|omega|(dsimp only;omega)⟩,hxs71,hsr76⟩) rfl)
   obtain⟨_,H,hsg77,hsr77⟩:=H.shut' (k:=0) rfl hchk75 aN aN
   have hst3:=hst3.up hsg77
   have htr3:=htr3.up hsg77
   have hsn3:=hsn3.up hsg77
   have H:=H.dl 0
   have H:=H.dl 0
   have H:=H.dl 0
   exact H.retP ⟨_,⟨st3,tr3,sn3⟩,_,_,Z,⟨_,_,_,_,_,_,_,_,_,Z,hst3,htr3,hsn3⟩,hsr77⟩
  skip
  refine xst 3 H Z8 ?_;intro _ H
  refine q4 H hd36 (r1 13 Z (xbs H Z7 ?_));intro _ _ _ H
  refine q4 H hd36 (dE 15 Z2 (rz (N_K (W_ret (ret_gen (rs:=[.cell 2 27,.tmp 3]) (vs:=[_,_]) results9 ⟨⟨_,Z,load_blk 4 H isAgg27 sizeOf27 Z Z Z⟩,Z,trivial⟩ ?_)))))
  have H:=H.blkAcc 4 (k:=0) (n:=1) rfl rfl (by decide)
  obtain⟨G81,H,hsg81,hsr81⟩:=H.shut' (k:=2) rfl (Chk.nil (E:=intE) (sz:=1) (G:=G72)) aN aN
  have hst3:=hst3.up hsg81
  have htr3:=htr3.up hsg81
  have hsn3:=hsn3.up hsg81
  have hchk80:=((Chk.nil (E:=partE) (sz:=4) (G:=G81)).snoc (show partE _ ⟨1+(x37:Int),x71,decide ((x72:Int)=0),[]⟩ _ from⟨_,_,_,rfl,⟨by first|omega|(dsimp only;omega),by first|omega|(dsimp only;omega)⟩,hxs71,hsr81⟩) rfl)
  obtain⟨_,H,hsg82,hsr82⟩:=H.shut' (k:=0) rfl hchk80 aN aN
  have hst3:=hst3.up hsg82
  have htr3:=htr3.up hsg82
  have hsn3:=hsn3.up hsg82
  have H:=H.dl 0
  have H:=H.dl 0
  have H:=H.dl 0
  exact H.retP ⟨_,⟨st3,tr3,sn3⟩,_,_,Z,⟨_,_,_,_,_,_,_,_,_,Z,hst3,htr3,hsn3⟩,hsr82⟩
 skip
 refine xbs H Z7 ?_;intro _ _ _ H
 have H:=H.blkAcc 1 (k:=0) (n:=0) rfl rfl (by decide)
 refine q4 H hd36 (r1 2 Z (xc Z2 (pick_c _ _ H.sub _ _ _ _ _ _ hbs2 (H.blkIs (k:=1) Z).1 (H.blkIs (k:=1) Z).2 oM _ oO) ?_))
 rintro _ _ ⟨_,_,_,rfl,H84',⟨_,x84,_,rfl,_,rfl⟩⟩
 have hbs2:=hbs2.up H84'.le
 have hst3:=hst3.up H84'.le
 have htr3:=htr3.up H84'.le
 have hsn3:=hsn3.up H84'.le
 have hd36:=hd36.trans H84'.le
 have H:=H.borrow (k:=1) rfl H84'
 refine⟨_,Z,?_⟩
 refine q4 H hd36 (RD_t 3 Z kR Z (fun _ hK=>v_add Z Z oO) (r1 7 Z (xc Z2 (l91At_c _ _ H.sub _ _ _ _ _ _ hbs2 (H.blkIs (k:=0) Z).1 (H.blkIs (k:=0) Z).2 oM _ _ htr3) ?_)))
 rintro _ _ ⟨_,_,_,rfl,H86',⟨_,x86,_,rfl,hxs86,rfl⟩⟩
 have hbs2:=hbs2.up H86'.le
 have hst3:=hst3.up H86'.le
 have htr3:=htr3.up H86'.le
 have hsn3:=hsn3.up H86'.le
 have hd36:=hd36.trans H86'.le
 have H:=H.borrow (k:=0) rfl H86'
 refine⟨_,Z,?_⟩
 refine q4 H hd36 (r1 9 Z (xc Z2 (pick_c _ _ H.sub _ _ _ _ _ _ hbs2 (H.blkIs (k:=0) Z).1 (H.blkIs (k:=0) Z).2 oM _ oO) ?_))
 rintro _ _ ⟨G87,_,_,rfl,H87',⟨_,x87,_,rfl,_,rfl⟩⟩
 have hst3:=hst3.up H87'.le
 have htr3:=htr3.up H87'.le
 have hsn3:=hsn3.up H87'.le
 have hd36:=hd36.trans H87'.le
 have H:=H.borrow (k:=0) rfl H87'
 refine⟨_,Z,?_⟩
 refine q4 H hd36 (dE 10 Z2 (RD_t 12 Z kR Z (fun _ hK=>v_build bf39 Z Z) ?_))
 refine r2 13 14 Z2 ?_ ?_
 ·skip
  refine xbs H Z7 ?_;intro _ _ _ H
  refine q4 H hd36 (r1 14 Z (xst 4 H Z8 ?_));intro _ H
  refine q4 H hd36 (dE 15 Z2 (rz (N_K (W_ret (ret_gen (rs:=[.cell 2 27,.tmp 3]) (vs:=[_,_]) results9 ⟨⟨_,Z,load_blk 4 H isAgg27 sizeOf27 Z Z Z⟩,Z,trivial⟩ ?_)))))
  have H:=H.blkAcc 4 (k:=0) (n:=1) rfl rfl (by decide)
  obtain⟨G91,H,hsg91,hsr91⟩:=H.shut' (k:=2) rfl (Chk.nil (E:=intE) (sz:=1) (G:=G87)) aN aN
  have hst3:=hst3.up hsg91
  have htr3:=htr3.up hsg91
  have hsn3:=hsn3.up hsg91
  have hchk90:=((Chk.nil (E:=partE) (sz:=4) (G:=G91)).snoc (show partE _ ⟨1+(x84:Int),x86,decide ((x87:Int)=0),[]⟩ _ from⟨_,_,_,rfl,⟨by first|omega|(dsimp only;omega),by first|omega|(dsimp only;omega)⟩,hxs86,hsr91⟩) rfl)
  obtain⟨_,H,hsg92,hsr92⟩:=H.shut' (k:=0) rfl hchk90 aN aN
  have hst3:=hst3.up hsg92
  have htr3:=htr3.up hsg92
  have hsn3:=hsn3.up hsg92
  have H:=H.dl 0
  have H:=H.dl 0
  have H:=H.dl 0
  exact H.retP ⟨_,⟨st3,tr3,sn3⟩,_,_,Z,⟨_,_,_,_,_,_,_,_,_,Z,hst3,htr3,hsn3⟩,hsr92⟩
 skip
 refine xst 3 H Z8 ?_;intro _ H
 refine q4 H hd36 (r1 13 Z (xbs H Z7 ?_));intro _ _ _ H
 refine q4 H hd36 (dE 15 Z2 (rz (N_K (W_ret (ret_gen (rs:=[.cell 2 27,.tmp 3]) (vs:=[_,_]) results9 ⟨⟨_,Z,load_blk 4 H isAgg27 sizeOf27 Z Z Z⟩,Z,trivial⟩ ?_)))))
 have H:=H.blkAcc 4 (k:=0) (n:=1) rfl rfl (by decide)
 obtain⟨G96,H,hsg96,hsr96⟩:=H.shut' (k:=2) rfl (Chk.nil (E:=intE) (sz:=1) (G:=G87)) aN aN
 have hst3:=hst3.up hsg96
 have htr3:=htr3.up hsg96
 have hsn3:=hsn3.up hsg96
 have hchk95:=((Chk.nil (E:=partE) (sz:=4) (G:=G96)).snoc (show partE _ ⟨1+(x84:Int),x86,decide ((x87:Int)=0),[]⟩ _ from⟨_,_,_,rfl,⟨by first|omega|(dsimp only;omega),by first|omega|(dsimp only;omega)⟩,hxs86,hsr96⟩) rfl)
 obtain⟨_,H,hsg97,hsr97⟩:=H.shut' (k:=0) rfl hchk95 aN aN
 have hst3:=hst3.up hsg97
 have htr3:=htr3.up hsg97
 have hsn3:=hsn3.up hsg97
 have H:=H.dl 0
 have H:=H.dl 0
 have H:=H.dl 0
 exact H.retP ⟨_,⟨st3,tr3,sn3⟩,_,_,Z,⟨_,_,_,_,_,_,_,_,_,Z,hst3,htr3,hsn3⟩,hsr97⟩
theorem i_TreeFind_d_c (w0:World)(G0:PH)(hG:PSub G0 w0)(vlist:Value)(list:List (BItem))(hlist:RdItems G0 vlist list)(path:Bs)(hpath:path.length≤16777216) :
  Calls Tryz.prog 15 #[vlist,str path] w0 (RetN w0 G0 (fun v Bs=>∃(q1:Fw.Bs) (qa:Option Addr) (qm qc:Nat),v= .tuple #[.agg #[str q1,.bool (Sp.tfDir list path),.slice qa qm qc],.bool (Sp.hasP list path)]∧Bs=[])):=by
 obtain⟨alist,klist,rfl⟩:=hlist.shape
 have hlimlist:list.length≤1099511627776:=hlist.lim
 have H:=Hp.init hG
 refine calls_of_W (l:=[.slice alist list.length klist,str path]) func15 Z ntmps15 Z (q2 (xal H Z ?_));intro _ _ _ H
 refine aG Z (q1 (mV Z (xc Z2 (i_openTree_c _ _ H.sub _ _ hlist H.lent0) ?_)))
 rintro _ _ ⟨G2,_,_,rfl,H2',⟨rfl,rfl,hv2⟩|⟨T2,_,rfl,rfl,hN2,hT2,hv2⟩⟩
 ·skip
  have H:=H.borrow0 H2'
  refine⟨_,Z,?_⟩
  refine pe 5 Z (q3 (W_seq (q2 (pe 2 Z (q3 (W_true Z (q2 (o_build bf41 Z Z Z (xst 0 H Z8 ?_)))))))));intro _ H
  refine aG Z (q3 (W_ret (N_K_ret (ret_gen (rs:=[.cell 4 41,.tmp 5]) (vs:=[_,_]) results15 ⟨⟨_,Z,load_blk 0 H isAgg41 sizeOf41 Z Z Z⟩,Z,trivial⟩ ?_))))
  have H:=H.dl 0
  have hp:Sp.hasP list path=false:=(by first|exact Sp.has_bad (by assumption)|exact Sp.has_no (by assumption) (by assumption))
  have hd:Sp.tfDir list path=false:=Sp.tfd_no hp
  have H:=H.forget hG (by simp)
  exact⟨_,_,rfl,H,_,_,_,_,(by (rw[hp,hd];rfl)),rfl⟩
 skip
 have H:=H.borrow0 H2'
 refine⟨_,Z,?_⟩
 refine pe 5 Z (q3 (W_seq (q2 (pe 2 Z (q3 (W_false Z (W_skip (N_K (q2 (pe 2 Z (xc Z2 (i_find_n_c _ _ (H.lendSubL [0]) _ ((H.lendN (k:=0) (ks:=[0]) Z Z hN2).at (show Nd.at_ T2 []=some T2 from Z)) _ hpath hT2.wf) ?_)))))))))))
 rintro _ _ ⟨_,rfl,ew4,⟨hfi4,rfl⟩|⟨d4,hfi4,rfl⟩⟩
 ·skip
  have H:=H.step ew4;refine⟨_,rfl,?_⟩
  refine aG Z (q3 (W_seq (q2 (mV Z (o_eqnil_ptr underlying84 Z Z Z (q3 (W_true Z (q2 (o_build bf41 Z Z Z (xst 1 H Z8 ?_))))))))));intro _ H
  refine aG Z (q3 (W_ret (N_K_ret (ret_gen (rs:=[.cell 4 41,.tmp 5]) (vs:=[_,_]) results15 ⟨⟨_,Z,load_blk 1 H isAgg41 sizeOf41 Z Z Z⟩,Z,trivial⟩ ?_))))
  have H:=H.dl 0
  have H:=H.dl 0
  have hp:Sp.hasP list path=false:=(by first|exact Sp.has_bad (by assumption)|exact Sp.has_no (by assumption) (by assumption))
  have hd:Sp.tfDir list path=false:=Sp.tfd_no hp
  have H:=H.forget hG (by simp)
  exact⟨_,_,rfl,H,_,_,_,_,(by (rw[hp,hd];rfl)),rfl⟩
 skip
 have H:=H.step ew4;refine⟨_,rfl,?_⟩
 refine aG Z (q3 (W_seq (q2 ?_)))
 obtain⟨_,_,_,_,_,_,H,ohri,_,_,_,_,_⟩:=Hp.openNode H hN2 (Nd.find_at_ hfi4)
 obtain⟨_,_,rfl⟩:=H.accShape (k:=1) rfl;have hdo:=PLe.refl G2;have hn_ohri:=ohri.len
 refine mV Z (o_eqnil_ptr underlying84 Z Z Z (q3 (W_false Z (W_skip (N_K (W_seq (W_drawK [0] 12 H kR Z ?_)))))));intro _ H;have hd6:=PLe.refl G2
 refine dE 0 Z2 (dE 1 Z2 (dE 2 Z2 (dF 3 1 Z2 (dB 4 0 Z4 (dE 5 Z2 (dE 6 Z2 (dF 7 2 Z2 (dB 8 0 Z4 (RD_t 9 Z kR Z (fun _ hK=>v_build bf41 Z Z) (r1 10 Z (xst 3 H Z8 ?_)))))))))));intro _ H
 refine q4 H hd6 (dE 11 Z2 (rz (N_K (W_ret (ret_gen (rs:=[.cell 4 41,.tmp 5]) (vs:=[_,_]) results15 ⟨⟨_,Z,load_blk 3 H isAgg41 sizeOf41 Z Z Z⟩,Z,trivial⟩ ?_)))))
 have H:=H.sel [] rfl
 have hp:Sp.hasP list path=true:=Sp.has_yes hT2 hfi4
 have hd:Sp.tfDir list path=d4.dir:=Sp.tfd_yes hT2 hfi4
 have H:=H.forget hG (by simp)
 exact⟨_,_,rfl,H,_,_,_,_,(by (rw[hp,hd];rfl)),rfl⟩
theorem lStreamRunFiles_c (w0:World)(G0:PH)(hG:PSub G0 w0)(vcode:Value)(code:List (UInt8))(hcode:RdU G0 vcode code) :
  Calls Tryz.prog 4 #[vcode] w0 (Rets w0 (.bool true)):=by
 obtain⟨acode,kcode,rfl⟩:=hcode.shape
 have hlimcode:code.length≤1099511627776:=hcode.lim
 have H:=Hp.init hG
 refine calls_of_W (l:=[.slice acode code.length kcode]) func4 Z ntmps4 Z (q2 (aG Z (q3 (W_seq (q2 (mV Z (lN Z (pe 1 Z (q3 ?_)))))))))
 refine W_cond Z ?_ ?_
 ·intro hc1
  try simp only[nrm]at hc1
  refine q2 (aG Z (q3 (W_ret (N_K_ret (rt1 results4 Z ?_)))))
  exact H.rets Z
 intro hc1'
 try simp only[nrm]at hc1'
 refine W_skip (N_K (q2 (mV Z (xc Z2 (DrawStreamRun_c _ _ H.sub _ _ hcode) ?_))))
 rintro _ _ ⟨_,_,g2,rfl,⟨_,uV,_,uK,rfl,hV,hK⟩⟩
 have H:=H.grow g2
 obtain⟨_,_,_,_,_,_,_,_,_,rfl,hr2,hr2',hr2'',⟨_,_⟩,⟨_,_⟩,_,_⟩:=ox hV
 obtain⟨_,_,rfl⟩:=hK.shape;have hx_hK:_≤1099511627776:=hK.lim
 refine⟨_,Z,?_⟩
 refine pe 3 Z (xal H Z ?_);intro b3 _ _ H
 refine xst 0 H Z8 ?_;intro _ H
 refine aG Z (q1 (lA 0 3 H Z4 (mV Z (xc Z2 (i_StreamRun_c _ _ H.sub _ uV ⟨_,_,_,_,_,_,_,_,_,Z,hr2,hr2',hr2''⟩ _ _ hK) ?_))))
 rintro _ _ ⟨_,_,rfl,H5',⟨_,_,_,E15,E25,E35,rfl,rfl,ho15,ho25,ho35⟩⟩
 have H:=H.readers (fp:=[]) (by simp) (PLe.refl _) H5'
 obtain⟨_,p15⟩:=ho15
 obtain⟨_,_,rfl⟩:=OwnS.shape p15
 obtain⟨_,p25⟩:=ho25
 obtain⟨_,_,rfl⟩:=OwnS.shape p25
 obtain⟨_,p35⟩:=ho35
 obtain⟨_,_,rfl⟩:=OwnS.shape p35
 refine⟨_,Z,?_⟩
 refine pe 3 Z (xal H Z ?_);intro b6 _ _ H
 refine xst 0 H Z8 ?_;intro _ H
 refine aG Z (q1 (lA 4 3 H Z4 (mV Z (xc Z2 (StreamRun_c _ _ H.sub _ uV ⟨_,_,_,_,_,_,_,_,_,Z,hr2,hr2',hr2''⟩ _ _ hK) ?_))))
 rintro _ _ ⟨G8,_,g8,rfl,_,rfl,hr8_0⟩
 have H:=H.grow g8
 have hK:=hK.up g8.le
 obtain⟨_,_,_,_,_,_,_,_,_,rfl,hr9,hr9',hr9'',⟨_,_⟩,⟨_,_⟩,_,_⟩:=ox hr8_0
 refine⟨_,Z,?_⟩
 refine pe 3 Z (xal H Z ?_);intro b10 _ _ H
 refine xst 0 H Z8 ?_;intro _ H
 refine aG Z (q3 (W_seq (q2 (pe 2 Z (o_bneq_same underlying4 Z Z Z (mV Z (gR Z (lA 1 3 H Z4 (gR Z (lA 0 3 H Z4 (gR Z (xr H Z2 (w_sameDisk_c _ _ (H.lendSubL [2,3,4]) _ ((Sp.StreamRun uV uK).getD ⟨[],[],[]⟩) ⟨_,_,_,_,_,_,_,_,_,Z,(H.lendOHs (k:=2) (ks:=[2,3,4]) Z Z ⟨_,p15⟩),(H.lendOIs (k:=3) (ks:=[2,3,4]) Z Z ⟨_,p25⟩),(H.lendOSn (k:=4) (ks:=[2,3,4]) Z Z ⟨_,p35⟩)⟩ _ ((Sp.StreamRun uV uK).getD ⟨[],[],[]⟩) ⟨_,_,_,_,_,_,_,_,_,Z,(hr9.up (PPlus.le _ _ _)),(hr9'.up (PPlus.le _ _ _)),(hr9''.up (PPlus.le _ _ _))⟩ Z) ?_))))))))))));intro _ H
 refine pe 6 Z (q3 ?_)
 refine W_cond Z ?_ ?_
 ·intro hc13
  try simp only[nrm]at hc13
  refine q2 (pe 2 Z (o_beql_same underlying4 Z Z Z (mV Z (gR Z (lA 1 3 H Z4 (gR Z (lA 0 3 H Z4 (gR Z (xr H Z2 (w_sameDisk_c _ _ (H.lendSubL [2,3,4]) _ ((Sp.StreamRun uV uK).getD ⟨[],[],[]⟩) ⟨_,_,_,_,_,_,_,_,_,Z,(H.lendOHs (k:=2) (ks:=[2,3,4]) Z Z ⟨_,p15⟩),(H.lendOIs (k:=3) (ks:=[2,3,4]) Z Z ⟨_,p25⟩),(H.lendOSn (k:=4) (ks:=[2,3,4]) Z Z ⟨_,p35⟩)⟩ _ ((Sp.StreamRun uV uK).getD ⟨[],[],[]⟩) ⟨_,_,_,_,_,_,_,_,_,Z,(hr9.up (PPlus.le _ _ _)),(hr9'.up (PPlus.le _ _ _)),(hr9''.up (PPlus.le _ _ _))⟩ Z) ?_)))))))));intro _ H
  refine pe 2 Z (q3 (W_ret (N_K_ret (rt1 results4 Z ?_))))
  exact H.rets Z
 intro hc13'
 try simp only[nrm]at hc13'
 obtain⟨u2,hu2⟩:=Option.isSome_iff_exists.1 (show(Sp.StreamRun uV uK).isSome=true by simpa using hc13')
 have hW:(Sp.StreamRun uV uK).getD ⟨[],[],[]⟩=u2:=by (rw[hu2];rfl)
 have hvv:Sp.DiskValid ((Sp.StreamRun uV uK).getD ⟨[],[],[]⟩)=true:=by (rw[hW];exact(Sp.run_valid hu2).1)
 have hsn:((Sp.StreamRun uV uK).getD ⟨[],[],[]⟩).snaps=uV.snaps:=by (rw[hW];exact(Sp.run_valid hu2).2)
 refine W_skip (N_K (W_seq (q2 (aG Z (q3 (W_block ?_))))))
 obtain⟨ln15,hln15,H⟩:=H.name (k:=0) rfl
 obtain⟨ln16,hln16,H⟩:=H.name (k:=1) rfl
 obtain⟨ln17,hln17,H⟩:=H.name (k:=5) rfl
 refine W_lp (hf:=(Sub.cons (t:=4) Z (Sub.cons (t:=5) Z Sub.nil))) (J:=fun M w m=>∃(i:Nat) (G:PH),M=[(9,.int .i64 (i:Int))]∧PLe G8 G∧Hp w0 G0 [] w G [blk b10 (cl ln15 27),blk b6 (cl ln16 27),frag E15,frag E25,frag E35,blk b3 (cl ln17 27)]∧(i≤uK.length)∧m=(uK.length-i)) (h0:=⟨0,_,Z,PLe.refl _,H,?inv,Z⟩) (round:=?round)
 case inv=>omega
 case round =>
  rintro _ _ _ ⟨i,G18,rfl,hle18,H,hinv18,rfl⟩
  subst hln15
  subst hln16
  subst hln17
  have hK:=hK.up hle18
  have hi:=hinv18
  refine W_seq (q2 (pe 2 Z (lN Z (pe 1 Z (q3 ?_)))))
  refine W_cond Z ?_ ?_
  ·intro hc19
   try simp only[nrm]at hc19
   refine W_skip (N_K (W_seq (W_block (q2 (aG Z (q3 (W_seq (q2 (aG Z (q3 (W_block ?_)))))))))))
   obtain⟨ln20,hln20,H⟩:=H.name (k:=0) rfl
   obtain⟨ln21,hln21,H⟩:=H.name (k:=1) rfl
   obtain⟨ln22,hln22,H⟩:=H.name (k:=5) rfl
   refine W_lp (hf:=(Sub.cons (t:=4) Z (Sub.cons (t:=5) Z (Sub.cons (t:=9) Z Sub.nil)))) (J:=fun M w m=>∃(k nn:Nat) (G:PH),M=[(11,.int .i64 (k:Int)),(10,.int .i64 (nn:Int))]∧PLe G18 G∧Hp w0 G0 [] w G [blk b10 (cl ln20 27),blk b6 (cl ln21 27),frag E15,frag E25,frag E35,blk b3 (cl ln22 27)]∧(k≤uK.length∧nn=Sp.cntP uK i k)∧m=(uK.length-k)) (h0:=⟨0,0,_,Z,PLe.refl _,H,?inv,Z⟩) (round:=?round)
   case inv=>exact⟨by omega,rfl⟩
   case round =>
    rintro _ _ _ ⟨k,nn,G23,rfl,hle23,H,hinv23,rfl⟩
    subst hln20
    subst hln21
    subst hln22
    have hK:=hK.up hle23
    have hle18:=hle18.trans hle23
    obtain⟨hk,hnn⟩:=hinv23;have hnl:=Sp.cntP_le (i:=i) hk
    refine W_seq (q2 (pe 2 Z (lN Z (pe 1 Z (q3 ?_)))))
    refine W_cond Z ?_ ?_
    ·intro hc24
     try simp only[nrm]at hc24
     refine W_skip (N_K (W_seq (W_block (W_seq (W_drawK [0,1,5] 11 H kR Z ?_)))));intro _ H;have hd25:=PLe.refl G23
     refine dE 0 Z2 (dE 1 Z2 ?_)
     have hl26:=hK.len
     obtain⟨_,_,_,_,ha26,hz26,hq26,hE26,hrow26,_⟩:=hK.at (i:=k) oM
     clear hq26
     obtain⟨_,_,_,rfl,_,hi26,hr26⟩:=hE26;have hy_hi26:_≤16777216:=hi26;have hn_hr26:=hr26.len;have hx_hr26:_≤1099511627776:=hr26.lim
     refine dI 2 4 k ha26 Z3 Z (dF 3 1 Z2 (dP 4 hrow26 1 Z3 (dE 5 Z2 (dE 6 Z2 ?_))))
     have hl27:=hK.len
     obtain⟨_,_,_,_,ha27,hz27,hq27,hE27,hrow27,_⟩:=hK.at (i:=i) oM
     clear hq27
     obtain⟨_,_,_,rfl,_,hi27,hr27⟩:=hE27;have hy_hi27:_≤16777216:=hi27;have hn_hr27:=hr27.len;have hx_hr27:_≤1099511627776:=hr27.lim
     refine dI 7 4 i ha27 Z3 Z (dF 8 1 Z2 (dP 9 hrow27 1 Z3 (RD_t 10 Z kR Z (fun _ hK=>v_seql Z Z) (rz (N_K ?_)))))
     refine W_cond Z ?_ ?_
     ·intro hc28
      try simp only[nrm]at hc28
      refine W_region (mV Z (aD Z2 (aG Z (R_nil (N_B (N_K (W_region (mV Z (aD Z2 (aG Z (R_nil ?_)))))))))))
      refine N_lp (hJ:=⟨k+1,nn+1,_,Z,hle23,H,?inv,Z⟩) (hm:=?hm)
      case hm=>omega
      case inv=>exact⟨by omega,by (rw[Sp.cntP_step hz26 hz27,if_pos hc28,←hnn])⟩
     intro hc28'
     try simp only[nrm]at hc28'
     refine W_skip (N_B (N_K (W_region (mV Z (aD Z2 (aG Z (R_nil ?_)))))))
     refine N_lp (hJ:=⟨k+1,nn,_,Z,hle23,H,?inv,Z⟩) (hm:=?hm)
     case hm=>omega
     case inv=>exact⟨by omega,by (rw[Sp.cntP_step hz26 hz27,if_neg (by simpa using hc28'),←hnn];rfl)⟩
    intro hc24'
    try simp only[nrm]at hc24'
    refine W_exit (N_K_exit (N_LP_exit (N_B_same (N_K (W_seq (W_drawK [0,1,5] 14 H kR Z ?_))))));intro _ H;have hd32:=PLe.refl G23
    refine dF 0 1 Z2 (dB 1 1 Z4 (dE 2 Z2 (dE 3 Z2 ?_)))
    have hl33:=hK.len
    obtain⟨_,_,z33,_,ha33,hz33,hq33,hE33,hrow33,_⟩:=hK.at (i:=i) oM
    clear hq33
    obtain⟨_,_,_,rfl,_,hi33,hr33⟩:=hE33;have hy_hi33:_≤16777216:=hi33;have hn_hr33:=hr33.len;have hx_hr33:_≤1099511627776:=hr33.lim
    refine dI 4 4 i ha33 Z3 Z (dF 5 1 Z2 (dP 6 hrow33 1 Z3 ?_))
    refine r2 7 11 Z2 ?_ ?_
    ·skip
     have hrf:=Sp.rf_law hu2 hz33 hnn oM;(rw[←hW]at hrf)
     refine xc Z2 (i_TreeFind_d_c _ _ (H.lendSubL [3]) _ _ (H.lendOIs (k:=3) (ks:=[3]) Z Z ⟨_,p25⟩) _ hi33) ?_
     rintro _ _ ⟨_,_,rfl,H34',⟨_,_,_,_,rfl,rfl⟩⟩
     have H:=H.readersL H34'
     refine⟨_,Z,?_⟩
     refine q4 H hd32 (dE 8 Z2 (dE 9 Z2 (dE 10 Z2 (r1 11 Z (xal H Z ?_)))));intro _ _ _ H
     refine q4 H hd32 (r1 12 Z (xst 0 H Z8 ?_));intro _ H
     refine q4 H hd32 (dE 13 Z2 (rz (N_K (W_seq (W_drawK [0,1,2,6] 29 H kR Z ?_)))));intro _ H;have hd37:=PLe.refl G23
     refine dE 0 Z2 (dE 1 Z2 (dE 2 Z2 ?_))
     refine RD_case (t:=93) Z ?_ ?_
     ·intro hc38
      try simp only[nrm]at hc38
      refine dE 3 Z2 (dE 4 Z2 (dE 5 Z2 ?_))
      have hl39:=hK.len
      obtain⟨_,_,z39,_,ha39,hz39,hq39,hE39,hrow39,_⟩:=hK.at (i:=i) oM
      clear hq39
      obtain⟨_,_,_,rfl,_,hi39,hr39⟩:=hE39;have hy_hi39:_≤16777216:=hi39;have hn_hr39:=hr39.len;have hx_hr39:_≤1099511627776:=hr39.lim
      have hzz39:z33=z39:=Option.some.inj (hz33.symm.trans hz39)
      subst hzz39
      refine dI 6 4 i ha39 Z3 Z (dF 7 0 Z2 (dP 8 hrow39 0 Z3 (dE 9 Z2 (RD_tg 10 Z kR Z (yl Z Z) (fun _ hK=>v_bneq underlying4 Z Z) (dE 11 Z2 (dE 12 Z2 ?_))))))
      refine RD_case (t:=103) Z ?_ ?_
      ·intro hc40
       try simp only[nrm]at hc40
       refine dE 13 Z2 (dE 14 Z2 (dE 15 Z2 (RD_pass 16 Z kR kR kR Z (yl_un Z Z) (dE 17 Z2 (dE 18 Z2 (RD_pass 19 Z kR kR kR Z (yl_un Z Z) (RD_pass 20 Z kR kR kR Z (yl_un Z Z) (RD_pass 21 Z kR kR kR Z (yl_un Z Z) (RD_pass 22 Z kR kR kR Z (yl_un Z Z) (RD_pass 23 Z kR kR kR Z (yl_un Z Z) (RD_pass 24 Z kR kR kR Z (yl_un Z Z) (RD_pass 25 Z kR kR kR Z (yl_un Z Z) (RD_pass 26 Z kR kR kR Z (yl_un Z Z) (dE 27 Z2 (dE 28 Z2 ?_)))))))))))))))
       refine rz (N_K (W_true Z (q2 (aG Z (q3 (W_ret (N_B_ret (N_K_ret (N_LP_ret (N_B_ret (N_K_ret (rt1 results4 Z ?_))))))))))))
       exact absurd (show False by first|(obtain⟨r1,r2⟩:=hrf oM;clear hrf;simp_all;done)|(simp_all;done)) id
      intro hc40'
      try simp only[nrm]at hc40'
      refine dE 13 Z2 (dE 14 Z2 (dE 15 Z2 ?_))
      refine RD_case (t:=106) Z ?_ ?_
      ·intro hc41
       try simp only[nrm]at hc41
       refine dE 16 Z2 (dE 17 Z2 (dE 18 Z2 ?_))
       refine RD_case (t:=109) Z ?_ ?_
       ·intro hc42
        try simp only[nrm]at hc42
        refine dF 19 1 Z2 (dB 20 0 Z4 (dE 21 Z2 (dE 22 Z2 ?_)))
        have hl43:=hK.len
        obtain⟨_,_,z43,_,ha43,hz43,hq43,hE43,hrow43,_⟩:=hK.at (i:=i) oM
        clear hq43
        obtain⟨_,_,_,rfl,_,hi43,hr43⟩:=hE43;have hy_hi43:_≤16777216:=hi43;have hn_hr43:=hr43.len;have hx_hr43:_≤1099511627776:=hr43.lim
        have hzz43:z33=z43:=Option.some.inj (hz33.symm.trans hz43)
        subst hzz43
        refine dI 23 4 i ha43 Z3 Z (dF 24 2 Z2 (dP 25 hrow43 2 Z3 (RD_tg 26 Z kR Z (yl Z Z) (fun _ hK=>v_bneq underlying4 Z Z) (dE 27 Z2 (dE 28 Z2 (rz (N_K ?_)))))))
        refine W_cond Z ?_ ?_
        ·intro hc44
         try simp only[nrm]at hc44
         refine q2 (aG Z (q3 (W_ret (N_B_ret (N_K_ret (N_LP_ret (N_B_ret (N_K_ret (rt1 results4 Z ?_)))))))))
         exact absurd (show False by first|(obtain⟨r1,r2⟩:=hrf oM;clear hrf;simp_all;done)|(simp_all;done)) id
        intro hc44'
        try simp only[nrm]at hc44'
        refine W_skip (N_B (N_K (W_region (mV Z (aD Z2 (aG Z (R_nil ?_)))))))
        have H:=H.sel [1,2,3,4,5,6] rfl
        refine N_lp (hJ:=⟨i+1,_,Z,hle18,H,?inv,Z⟩) (hm:=?hm)
        case hm=>omega
        case inv=>omega
       intro hc42'
       try simp only[nrm]at hc42'
       refine dE 19 Z2 (dE 20 Z2 (dE 21 Z2 (dE 22 Z2 (dE 23 Z2 (dE 24 Z2 (dE 25 Z2 (dE 26 Z2 (dE 27 Z2 (dE 28 Z2 (rz (N_K (W_false Z (W_skip (N_B (N_K ?_)))))))))))))))
       refine W_region (mV Z (aD Z2 (aG Z (R_nil ?_))))
       have H:=H.sel [1,2,3,4,5,6] rfl
       refine N_lp (hJ:=⟨i+1,_,Z,hle18,H,?inv,Z⟩) (hm:=?hm)
       case hm=>omega
       case inv=>omega
      intro hc41'
      try simp only[nrm]at hc41'
      refine dE 16 Z2 (dE 17 Z2 (dE 18 Z2 (dE 19 Z2 (dE 20 Z2 (dE 21 Z2 (dE 22 Z2 (dE 23 Z2 (dE 24 Z2 (dE 25 Z2 (dE 26 Z2 (dE 27 Z2 (dE 28 Z2 (rz (N_K (W_false Z ?_)))))))))))))))
      refine W_skip (N_B (N_K (W_region (mV Z (aD Z2 (aG Z (R_nil ?_)))))))
      have H:=H.sel [1,2,3,4,5,6] rfl
      refine N_lp (hJ:=⟨i+1,_,Z,hle18,H,?inv,Z⟩) (hm:=?hm)
      case hm=>omega
      case inv=>omega
     intro hc38'
     try simp only[nrm]at hc38'
     refine dE 3 Z2 (dE 4 Z2 (dE 5 Z2 (dE 6 Z2 (dE 7 Z2 (dE 8 Z2 (dE 9 Z2 (dE 10 Z2 (dE 11 Z2 (dE 12 Z2 (dE 13 Z2 (dE 14 Z2 (dE 15 Z2 ?_))))))))))))
     refine RD_case (t:=106) Z ?_ ?_
     ·intro hc48
      try simp only[nrm]at hc48
      refine dE 16 Z2 (dE 17 Z2 (dE 18 Z2 ?_))
      refine RD_case (t:=109) Z ?_ ?_
      ·intro hc49
       try simp only[nrm]at hc49
       refine dF 19 1 Z2 (dB 20 0 Z4 (dE 21 Z2 (dE 22 Z2 ?_)))
       have hl50:=hK.len
       obtain⟨_,_,z50,_,ha50,hz50,hq50,hE50,hrow50,_⟩:=hK.at (i:=i) oM
       clear hq50
       obtain⟨_,_,_,rfl,_,hi50,hr50⟩:=hE50;have hy_hi50:_≤16777216:=hi50;have hn_hr50:=hr50.len;have hx_hr50:_≤1099511627776:=hr50.lim
       have hzz50:z33=z50:=Option.some.inj (hz33.symm.trans hz50)
       subst hzz50
       refine dI 23 4 i ha50 Z3 Z (dF 24 2 Z2 (dP 25 hrow50 2 Z3 (RD_tg 26 Z kR Z (yl Z Z) (fun _ hK=>v_bneq underlying4 Z Z) (dE 27 Z2 (dE 28 Z2 (rz (N_K ?_)))))))
       refine W_cond Z ?_ ?_
       ·intro hc51
        try simp only[nrm]at hc51
        refine q2 (aG Z (q3 (W_ret (N_B_ret (N_K_ret (N_LP_ret (N_B_ret (N_K_ret (rt1 results4 Z ?_)))))))))
        exact absurd (show False by first|(obtain⟨r1,r2⟩:=hrf oM;clear hrf;simp_all;done)|(simp_all;done)) id
       intro hc51'
       try simp only[nrm]at hc51'
       refine W_skip (N_B (N_K (W_region (mV Z (aD Z2 (aG Z (R_nil ?_)))))))
       have H:=H.sel [1,2,3,4,5,6] rfl
       refine N_lp (hJ:=⟨i+1,_,Z,hle18,H,?inv,Z⟩) (hm:=?hm)
       case hm=>omega
       case inv=>omega
      intro hc49'
      try simp only[nrm]at hc49'
      refine dE 19 Z2 (dE 20 Z2 (dE 21 Z2 (dE 22 Z2 (dE 23 Z2 (dE 24 Z2 (dE 25 Z2 (dE 26 Z2 (dE 27 Z2 (dE 28 Z2 (rz (N_K (W_false Z (W_skip (N_B (N_K ?_)))))))))))))))
      refine W_region (mV Z (aD Z2 (aG Z (R_nil ?_))))
      have H:=H.sel [1,2,3,4,5,6] rfl
      refine N_lp (hJ:=⟨i+1,_,Z,hle18,H,?inv,Z⟩) (hm:=?hm)
      case hm=>omega
      case inv=>omega
     intro hc48'
     try simp only[nrm]at hc48'
     refine dE 16 Z2 (dE 17 Z2 (dE 18 Z2 (dE 19 Z2 (dE 20 Z2 (dE 21 Z2 (dE 22 Z2 (dE 23 Z2 (dE 24 Z2 (dE 25 Z2 (dE 26 Z2 (dE 27 Z2 (dE 28 Z2 (rz (N_K (W_false Z ?_)))))))))))))))
     refine W_skip (N_B (N_K (W_region (mV Z (aD Z2 (aG Z (R_nil ?_)))))))
     have H:=H.sel [1,2,3,4,5,6] rfl
     refine N_lp (hJ:=⟨i+1,_,Z,hle18,H,?inv,Z⟩) (hm:=?hm)
     case hm=>omega
     case inv=>omega
    skip
    refine xal H Z ?_;intro _ _ _ H
    refine q4 H hd32 (r1 7 Z ?_)
    have hrf:=Sp.rf_law hu2 hz33 hnn oM;(rw[←hW]at hrf)
    refine xc Z2 (i_TreeFind_d_c _ _ (H.lendSubL [4]) _ _ (H.lendOIs (k:=4) (ks:=[4]) Z Z ⟨_,p25⟩) _ hi33) ?_
    rintro _ _ ⟨_,_,rfl,H56',⟨_,_,_,_,rfl,rfl⟩⟩
    have H:=H.readersL H56'
    refine⟨_,Z,?_⟩
    refine q4 H hd32 (dE 8 Z2 (dE 9 Z2 (dE 10 Z2 (r1 12 Z (xst 0 H Z8 ?_)))));intro _ H
    refine q4 H hd32 (dE 13 Z2 (rz (N_K (W_seq (W_drawK [0,1,2,6] 29 H kR Z ?_)))));intro _ H;have hd58:=PLe.refl G23
    refine dE 0 Z2 (dE 1 Z2 (dE 2 Z2 ?_))
    refine RD_case (t:=93) Z ?_ ?_
    ·intro hc59
     try simp only[nrm]at hc59
     refine dE 3 Z2 (dE 4 Z2 (dE 5 Z2 ?_))
     have hl60:=hK.len
     obtain⟨_,_,z60,_,ha60,hz60,hq60,hE60,hrow60,_⟩:=hK.at (i:=i) oM
     clear hq60
     obtain⟨_,_,_,rfl,_,hi60,hr60⟩:=hE60;have hy_hi60:_≤16777216:=hi60;have hn_hr60:=hr60.len;have hx_hr60:_≤1099511627776:=hr60.lim
     have hzz60:z33=z60:=Option.some.inj (hz33.symm.trans hz60)
     subst hzz60
     refine dI 6 4 i ha60 Z3 Z (dF 7 0 Z2 (dP 8 hrow60 0 Z3 (dE 9 Z2 (RD_tg 10 Z kR Z (yl Z Z) (fun _ hK=>v_bneq underlying4 Z Z) (dE 11 Z2 (dE 12 Z2 ?_))))))
     refine RD_case (t:=103) Z ?_ ?_
     ·intro hc61
      try simp only[nrm]at hc61
      refine dE 13 Z2 (dE 14 Z2 (dE 15 Z2 (RD_pass 16 Z kR kR kR Z (yl_un Z Z) (dE 17 Z2 (dE 18 Z2 (RD_pass 19 Z kR kR kR Z (yl_un Z Z) (RD_pass 20 Z kR kR kR Z (yl_un Z Z) (RD_pass 21 Z kR kR kR Z (yl_un Z Z) (RD_pass 22 Z kR kR kR Z (yl_un Z Z) (RD_pass 23 Z kR kR kR Z (yl_un Z Z) (RD_pass 24 Z kR kR kR Z (yl_un Z Z) (RD_pass 25 Z kR kR kR Z (yl_un Z Z) (RD_pass 26 Z kR kR kR Z (yl_un Z Z) (dE 27 Z2 (dE 28 Z2 ?_)))))))))))))))
      refine rz (N_K (W_true Z (q2 (aG Z (q3 (W_ret (N_B_ret (N_K_ret (N_LP_ret (N_B_ret (N_K_ret (rt1 results4 Z ?_))))))))))))
      exact absurd (show False by first|(obtain⟨r1,r2⟩:=hrf oM;clear hrf;simp_all;done)|(simp_all;done)) id
     intro hc61'
     try simp only[nrm]at hc61'
     refine dE 13 Z2 (dE 14 Z2 (dE 15 Z2 ?_))
     refine RD_case (t:=106) Z ?_ ?_
     ·intro hc62
      try simp only[nrm]at hc62
      refine dE 16 Z2 (dE 17 Z2 (dE 18 Z2 ?_))
      refine RD_case (t:=109) Z ?_ ?_
      ·intro hc63
       try simp only[nrm]at hc63
       refine dF 19 1 Z2 (dB 20 0 Z4 (dE 21 Z2 (dE 22 Z2 ?_)))
       have hl64:=hK.len
       obtain⟨_,_,z64,_,ha64,hz64,hq64,hE64,hrow64,_⟩:=hK.at (i:=i) oM
       clear hq64
       obtain⟨_,_,_,rfl,_,hi64,hr64⟩:=hE64;have hy_hi64:_≤16777216:=hi64;have hn_hr64:=hr64.len;have hx_hr64:_≤1099511627776:=hr64.lim
       have hzz64:z33=z64:=Option.some.inj (hz33.symm.trans hz64)
       subst hzz64
       refine dI 23 4 i ha64 Z3 Z (dF 24 2 Z2 (dP 25 hrow64 2 Z3 (RD_tg 26 Z kR Z (yl Z Z) (fun _ hK=>v_bneq underlying4 Z Z) (dE 27 Z2 (dE 28 Z2 (rz (N_K ?_)))))))
       refine W_cond Z ?_ ?_
       ·intro hc65
        try simp only[nrm]at hc65
        refine q2 (aG Z (q3 (W_ret (N_B_ret (N_K_ret (N_LP_ret (N_B_ret (N_K_ret (rt1 results4 Z ?_)))))))))
        exact absurd (show False by first|(obtain⟨r1,r2⟩:=hrf oM;clear hrf;simp_all;done)|(simp_all;done)) id
       intro hc65'
       try simp only[nrm]at hc65'
       refine W_skip (N_B (N_K (W_region (mV Z (aD Z2 (aG Z (R_nil ?_)))))))
       have H:=H.sel [1,2,3,4,5,6] rfl
       refine N_lp (hJ:=⟨i+1,_,Z,hle18,H,?inv,Z⟩) (hm:=?hm)
       case hm=>omega
       case inv=>omega
      intro hc63'
      try simp only[nrm]at hc63'
      refine dE 19 Z2 (dE 20 Z2 (dE 21 Z2 (dE 22 Z2 (dE 23 Z2 (dE 24 Z2 (dE 25 Z2 (dE 26 Z2 (dE 27 Z2 (dE 28 Z2 (rz (N_K (W_false Z (W_skip (N_B (N_K ?_)))))))))))))))
      refine W_region (mV Z (aD Z2 (aG Z (R_nil ?_))))
      have H:=H.sel [1,2,3,4,5,6] rfl
      refine N_lp (hJ:=⟨i+1,_,Z,hle18,H,?inv,Z⟩) (hm:=?hm)
      case hm=>omega
      case inv=>omega
     intro hc62'
     try simp only[nrm]at hc62'
     refine dE 16 Z2 (dE 17 Z2 (dE 18 Z2 (dE 19 Z2 (dE 20 Z2 (dE 21 Z2 (dE 22 Z2 (dE 23 Z2 (dE 24 Z2 (dE 25 Z2 (dE 26 Z2 (dE 27 Z2 (dE 28 Z2 (rz (N_K (W_false Z ?_)))))))))))))))
     refine W_skip (N_B (N_K (W_region (mV Z (aD Z2 (aG Z (R_nil ?_)))))))
     have H:=H.sel [1,2,3,4,5,6] rfl
     refine N_lp (hJ:=⟨i+1,_,Z,hle18,H,?inv,Z⟩) (hm:=?hm)
     case hm=>omega
     case inv=>omega
    intro hc59'
    try simp only[nrm]at hc59'
    refine dE 3 Z2 (dE 4 Z2 (dE 5 Z2 (dE 6 Z2 (dE 7 Z2 (dE 8 Z2 (dE 9 Z2 (dE 10 Z2 (dE 11 Z2 (dE 12 Z2 (dE 13 Z2 (dE 14 Z2 (dE 15 Z2 ?_))))))))))))
    refine RD_case (t:=106) Z ?_ ?_
    ·intro hc69
     try simp only[nrm]at hc69
     refine dE 16 Z2 (dE 17 Z2 (dE 18 Z2 ?_))
     refine RD_case (t:=109) Z ?_ ?_
     ·intro hc70
      try simp only[nrm]at hc70
      refine dF 19 1 Z2 (dB 20 0 Z4 (dE 21 Z2 (dE 22 Z2 ?_)))
      have hl71:=hK.len
      obtain⟨_,_,z71,_,ha71,hz71,hq71,hE71,hrow71,_⟩:=hK.at (i:=i) oM
      clear hq71
      obtain⟨_,_,_,rfl,_,hi71,hr71⟩:=hE71;have hy_hi71:_≤16777216:=hi71;have hn_hr71:=hr71.len;have hx_hr71:_≤1099511627776:=hr71.lim
      have hzz71:z33=z71:=Option.some.inj (hz33.symm.trans hz71)
      subst hzz71
      refine dI 23 4 i ha71 Z3 Z (dF 24 2 Z2 (dP 25 hrow71 2 Z3 (RD_tg 26 Z kR Z (yl Z Z) (fun _ hK=>v_bneq underlying4 Z Z) (dE 27 Z2 (dE 28 Z2 (rz (N_K ?_)))))))
      refine W_cond Z ?_ ?_
      ·intro hc72
       try simp only[nrm]at hc72
       refine q2 (aG Z (q3 (W_ret (N_B_ret (N_K_ret (N_LP_ret (N_B_ret (N_K_ret (rt1 results4 Z ?_)))))))))
       exact absurd (show False by first|(obtain⟨r1,r2⟩:=hrf oM;clear hrf;simp_all;done)|(simp_all;done)) id
      intro hc72'
      try simp only[nrm]at hc72'
      refine W_skip (N_B (N_K (W_region (mV Z (aD Z2 (aG Z (R_nil ?_)))))))
      have H:=H.sel [1,2,3,4,5,6] rfl
      refine N_lp (hJ:=⟨i+1,_,Z,hle18,H,?inv,Z⟩) (hm:=?hm)
      case hm=>omega
      case inv=>omega
     intro hc70'
     try simp only[nrm]at hc70'
     refine dE 19 Z2 (dE 20 Z2 (dE 21 Z2 (dE 22 Z2 (dE 23 Z2 (dE 24 Z2 (dE 25 Z2 (dE 26 Z2 (dE 27 Z2 (dE 28 Z2 (rz (N_K (W_false Z (W_skip (N_B (N_K ?_)))))))))))))))
     refine W_region (mV Z (aD Z2 (aG Z (R_nil ?_))))
     have H:=H.sel [1,2,3,4,5,6] rfl
     refine N_lp (hJ:=⟨i+1,_,Z,hle18,H,?inv,Z⟩) (hm:=?hm)
     case hm=>omega
     case inv=>omega
    intro hc69'
    try simp only[nrm]at hc69'
    refine dE 16 Z2 (dE 17 Z2 (dE 18 Z2 (dE 19 Z2 (dE 20 Z2 (dE 21 Z2 (dE 22 Z2 (dE 23 Z2 (dE 24 Z2 (dE 25 Z2 (dE 26 Z2 (dE 27 Z2 (dE 28 Z2 (rz (N_K (W_false Z ?_)))))))))))))))
    refine W_skip (N_B (N_K (W_region (mV Z (aD Z2 (aG Z (R_nil ?_)))))))
    have H:=H.sel [1,2,3,4,5,6] rfl
    refine N_lp (hJ:=⟨i+1,_,Z,hle18,H,?inv,Z⟩) (hm:=?hm)
    case hm=>omega
    case inv=>omega
  intro hc19'
  try simp only[nrm]at hc19'
  refine W_exit (N_K_exit (N_LP_exit (N_B_same (N_K (q2 (aG Z (q3 (W_ret (rt1 results4 Z ?_)))))))))
  exact H.rets Z
end Go.Proofs.Tst
