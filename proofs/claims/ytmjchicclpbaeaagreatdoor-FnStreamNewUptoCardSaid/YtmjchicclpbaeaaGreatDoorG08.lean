/- Part 8 of the proof: contracts of functions of the program. Conditions: none. -/
import Derived.Test.YtmjchicclpbaeaaGreatDoorProg
import Derived.Test.YtmjchicclpbaeaaGreatDoorG02
import Derived.Test.YtmjchicclpbaeaaGreatDoorG03
import Derived.Test.YtmjchicclpbaeaaGreatDoorG04
import Derived.Test.YtmjchicclpbaeaaGreatDoorG05
import Derived.Test.YtmjchicclpbaeaaGreatDoorG07
import Derived.Test.YtmjchicclpbaeaaGreatDoorG06
set_option linter.all false
set_option maxRecDepth 100000
set_option maxHeartbeats 8000000
namespace Go.Proofs.Tst
open Go Fw Tryz
theorem i_StreamOf_c (w0:World)(G0:PH)(hG:PSub G0 w0)(cd:List Value)(d:BDisk)(hd:diskE G0 d cd)(fr:Bs)(hfr:fr.length≤16777216)(tt:Bs)(htt:tt.length≤16777216) :
  Calls Tryz.prog 7 #[.agg cd.toArray,str fr,str tt] w0 (RetN w0 G0 (fun v Bs=>∃(F:Fr) (pv:Value),v= .tuple #[pv,.bool (Sp.StreamOf d fr tt).isSome]∧Bs=[frag F]∧OPt F pv ((Sp.StreamOf d fr tt).getD []))):=by
 obtain⟨_,_,_,_,_,_,_,_,_,rfl,hr1,hr1',hr1'',⟨_,_⟩,⟨_,_⟩,_,_⟩:=ox hd
 have H:=Hp.init hG
 refine calls_of_W (l:=[_,str fr,str tt]) func7 Z ntmps7 Z (q2 (o_box H Z Z Z ?_));intro b2 _ _ H
 refine pe 2 Z (q1 (lA 0 3 H Z4 (xc Z2 (i_newDisk_c _ _ H.sub _ d ⟨_,_,_,_,_,_,_,_,_,Z,hr1,hr1',hr1''⟩ H.lent0) ?_)))
 rintro _ _ ⟨_,_,_,rfl,H3',⟨rfl,rfl,hnd3⟩|⟨db3,mb3,es3,ck3,_,_,F3,_,sn3,c3,FS3,rfl,rfl,hm3,hS3,hN3,hT3,hchk3,hNs3,hSn3,hdv3⟩⟩
 ·skip
  have H:=H.borrow0 H3'
  refine⟨_,Z,?_⟩
  refine pe 5 Z (q3 (W_seq (q2 (pe 2 Z (q3 (W_true Z (q2 (pe 2 Z (q3 (W_ret (N_K_ret (rt2 results7 Z Z ?_))))))))))))
  have H:=H.dl 0
  have hno:Sp.StreamOf d fr tt=none:=Sp.so_nov (by simpa using hnd3)
  have H:=(H.addF).forget hG (by simp)
  exact⟨_,_,rfl,H,[],.slice none 0 0,(by rw[hno];rfl),rfl,(by rw[hno];exact⟨0,by simp,.inl ⟨rfl,rfl,rfl⟩⟩)⟩
 skip
 have H:=H.borrow0 H3'
 obtain⟨avAd,cvAd,rfl⟩:=H.accShape (k:=3) rfl
 refine⟨_,Z,?_⟩
 refine pe 5 Z (q3 (W_seq (q2 (pe 2 Z (q3 (W_false Z (W_skip (N_K (q2 (pe 2 Z ?_))))))))))
 have H:=H.tF 4
 have H:=H.tF 4
 have H:=H.tF 4
 have H:=H.tF 4
 have H:=H.tF 4
 refine xc Z2 (i_treeOf_c _ _ H.sub _ _ _ _ _ _ _ _ _ _ _ _ hm3 hS3 hN3 hT3 hchk3 hNs3 hSn3 hdv3 _ hfr H.lent5) ?_
 rintro _ _ ⟨_,_,_,rfl,H4',⟨_,_,rfl,rfl,hO4⟩⟩
 have hS3:=hS3.up H4'.le
 have hN3:=hN3.up H4'.le
 have hchk3:=hchk3.up H4'.le
 have hNs3:=hNs3.up H4'.le
 have H:=H.borrow5 H4'
 obtain⟨_,hP4⟩:=hO4
 obtain⟨_,_,rfl⟩:=OwnS.shape hP4
 have hO4:=OIs.mk hP4
 refine⟨_,Z,?_⟩
 refine pe 5 Z (q3 (W_seq (q2 (pe 2 Z (q3 ?_)))))
 refine W_cond Z ?_ ?_
 ·intro hc5
  try simp only[nrm]at hc5
  refine q2 (pe 2 Z (q3 (W_ret (N_K_ret (rt2 results7 Z Z ?_)))))
  have H:=H.sel [] rfl
  have hno:Sp.StreamOf d fr tt=none:=Sp.so_no1 (by simpa using hc5)
  have H:=(H.addF).forget hG (by simp)
  exact⟨_,_,rfl,H,[],.slice none 0 0,(by rw[hno];rfl),rfl,(by rw[hno];exact⟨0,by simp,.inl ⟨rfl,rfl,rfl⟩⟩)⟩
 intro hc5'
 try simp only[nrm]at hc5'
 refine W_skip (N_K (q2 (pe 2 Z ?_)))
 have H:=H.tF 5
 have H:=H.tF 5
 have H:=H.tF 5
 have H:=H.tF 5
 have H:=H.tF 5
 refine xc Z2 (i_treeOf_c _ _ H.sub _ _ _ _ _ _ _ _ _ _ _ _ hm3 hS3 hN3 hT3 hchk3 hNs3 hSn3 hdv3 _ htt H.lent5) ?_
 rintro _ _ ⟨_,_,_,rfl,H6',⟨_,_,rfl,rfl,hO6⟩⟩
 have hS3:=hS3.up H6'.le
 have hN3:=hN3.up H6'.le
 have hchk3:=hchk3.up H6'.le
 have hNs3:=hNs3.up H6'.le
 have H:=H.borrow5 H6'
 obtain⟨_,hP6⟩:=hO6
 obtain⟨_,_,rfl⟩:=OwnS.shape hP6
 have hO6:=OIs.mk hP6
 refine⟨_,Z,?_⟩
 refine pe 5 Z (q3 (W_seq (q2 (pe 2 Z (q3 ?_)))))
 refine W_cond Z ?_ ?_
 ·intro hc7
  try simp only[nrm]at hc7
  refine q2 (pe 2 Z (q3 (W_ret (N_K_ret (rt2 results7 Z Z ?_)))))
  have H:=H.sel [] rfl
  have hno:Sp.StreamOf d fr tt=none:=Sp.so_no2 (by simpa using hc7)
  have H:=(H.addF).forget hG (by simp)
  exact⟨_,_,rfl,H,[],.slice none 0 0,(by rw[hno];rfl),rfl,(by rw[hno];exact⟨0,by simp,.inl ⟨rfl,rfl,rfl⟩⟩)⟩
 intro hc7'
 try simp only[nrm]at hc7'
 refine W_skip (N_K (q2 (pe 2 Z ?_)))
 have hnd9:=dm_nodup H (k:=6) rfl;obtain⟨_,H,hsg9,hsf9⟩:=H.keepF (k:=6) rfl (by simp);have hsr9:=(show OIs _ _ _ from hO4).rd hsf9 hnd9
 have hS3:=hS3.up hsg9
 have hN3:=hN3.up hsg9
 have hchk3:=hchk3.up hsg9
 have hNs3:=hNs3.up hsg9
 have hnd10:=dm_nodup H (k:=0) rfl;obtain⟨_,H,hsg10,hsf10⟩:=H.keepF (k:=0) rfl (by simp);have hsr10:=(show OIs _ _ _ from hO6).rd hsf10 hnd10
 have hS3:=hS3.up hsg10
 have hN3:=hN3.up hsg10
 have hchk3:=hchk3.up hsg10
 have hNs3:=hNs3.up hsg10
 have hsr9:=hsr9.up hsg10
 refine xc Z2 (i_changes_c _ _ H.sub _ _ hsr9 _ _ hsr10 (Sp.tree_len (Sp.ltD_valid hdv3 fr)) (Sp.tree_len (Sp.ltD_valid hdv3 tt))) ?_
 rintro _ _ ⟨G8,_,g8,rfl,hr8_0⟩
 have H:=H.grow g8
 have hS3:=hS3.up g8.le
 have hN3:=hN3.up g8.le
 have hchk3:=hchk3.up g8.le
 have hNs3:=hNs3.up g8.le
 obtain⟨_,_,rfl⟩:=hr8_0.shape;have hx_hr8_0:_≤1099511627776:=hr8_0.lim
 refine⟨_,Z,?_⟩
 have hchl:((Sp.chg (Sp.ltD d fr) (Sp.ltD d tt)).map Sp.chP).length≤24:=Sp.chL_len hdv3 fr tt
 refine aG Z (q1 (mV Z (lN Z ?_)))
 refine o_mkchan H underlying53 typeInfo55 Z Z (by have:Nat.ble 0 1=true:=rfl;show 16*_≤_;omega) oM ?_;intro c11 _ _ H
 refine aG Z (q3 (W_seq (q2 (mV Z (lN Z (mV Z (q3 (W_block ?_))))))))
 obtain⟨ln12,hln12,H⟩:=H.name (k:=1) rfl
 obtain⟨ln13,hln13,H⟩:=H.name (k:=6) rfl
 refine W_lp (hf:=(Sub.cons (t:=6) Z (Sub.cons (t:=7) Z (Sub.cons (t:=8) Z (Sub.cons (t:=13) Z (Sub.cons (t:=49) Z (Sub.cons (t:=50) Z Sub.nil))))))) (J:=fun M w m=>∃(k:Nat) (vs:List Value) (s1:Nat) (G:PH),M=[(51,.int .i64 (k:Int))]∧PLe G8 G∧Hp w0 G0 [] w G [chn c11 ((Sp.chg (Sp.ltD d fr) (Sp.ltD d tt)).map Sp.chP).length vs false s1 0,blk db3 (cl ln12 111),blk mb3 (.map es3 ck3),frag F3,acc 117 2 (.slice avAd sn3.length cvAd) sn3.length c3,frag FS3,blk b2 (cl ln13 27)]∧(k≤((Sp.chg (Sp.ltD d fr) (Sp.ltD d tt)).map Sp.chP).length∧CV chgW G vs (((Sp.chg (Sp.ltD d fr) (Sp.ltD d tt)).map Sp.chP).take k))∧m=(((Sp.chg (Sp.ltD d fr) (Sp.ltD d tt)).map Sp.chP).length-k)) (h0:=⟨0,[],0,_,Z,PLe.refl _,H,?inv,Z⟩) (round:=?round)
 case inv=>exact⟨by omega,.nil⟩
 case round =>
  rintro _ _ _ ⟨k,vs,s1,G14,rfl,hle14,H,hinv14,rfl⟩
  subst hln12
  subst hln13
  have hS3:=hS3.up hle14
  have hN3:=hN3.up hle14
  have hchk3:=hchk3.up hle14
  have hNs3:=hNs3.up hle14
  have hr8_0:=hr8_0.up hle14
  obtain⟨hk,hcv⟩:=hinv14;have hvl:=hcv.len;rw[List.length_take]at hvl
  refine q2 (pe 1 Z (q3 (W_seq ?_)))
  refine W_cond Z ?_ ?_
  ·intro hc15
   try simp only[nrm]at hc15
   refine W_skip (N_K (W_seq (W_block (q2 (iP k hr8_0 Z3 Z ?_)))));intro _ _ _ _ hz16 hE16 hrow16
   obtain⟨_,rfl⟩:=chgE.one hE16
   refine lP H hrow16 0 Z2 (aG Z (q3 (W_regionC [0,1,2] Z (RC_l Z (mV Z ?_)))))
   refine R_nil (N_C ?_)
   refine RC_l Z (mV Z ?_)
   refine R_nil (N_C ?_)
   refine c_send H 0 Z Z Z Z oM ?_;intro _ H
   refine RC_nil (N_B (N_K (W_region (aD Z2 (mV Z (R_nil ?_))))))
   refine N_lp (hJ:=⟨k+1,_,_,_,Z,hle14,H,?inv,Z⟩) (hm:=?hm)
   case hm=>omega
   case inv=>exact⟨by omega,by (rw[Sp.take_snoc' hz16];exact hcv.snoc hE16)⟩
  intro hc15'
  try simp only[nrm]at hc15'
  refine W_exit (N_K_exit (N_LP_exit (N_B_same (N_K (q2 (mV Z (o_close H 0 Z Z ?_)))))));intro _ H
  refine q1 (aG Z (q3 (W_seq (q2 (mV Z (q3 (W_block ?_)))))))
  have hcv0:CV chgW G14 vs ((Sp.chg (Sp.ltD d fr) (Sp.ltD d tt)).map Sp.chP):=(by have h0:k=((Sp.chg (Sp.ltD d fr) (Sp.ltD d tt)).map Sp.chP).length:=oM;rw[h0,List.take_length]at hcv;exact hcv)
  have H:=H.addNil 58 4
  have H:=H.addF
  obtain⟨ln21,hln21,H⟩:=H.name (k:=3) rfl
  obtain⟨ln22,hln22,H⟩:=H.name (k:=8) rfl
  refine W_lp (hf:=(Sub.cons (t:=8) Z (Sub.cons (t:=59) Z Sub.nil))) (J:=fun M w m=>∃(v:Value) (n:Nat) (cs:List Value) (xs:List (BPart)) (F:Fr) (k:Nat) (vq:List Value) (rq:Nat) (G:PH),M=[(16,v)]∧PLe G14 G∧Hp w0 G0 [] w G [frag F,acc 58 4 v n cs,chn c11 ((Sp.chg (Sp.ltD d fr) (Sp.ltD d tt)).map Sp.chP).length vq true s1 rq,blk db3 (cl ln21 111),blk mb3 (.map es3 ck3),frag F3,acc 117 2 (.slice avAd sn3.length cvAd) sn3.length c3,frag FS3,blk b2 (cl ln22 27)]∧(ChkF partO 4 cs xs F∧n=xs.length∧k≤((Sp.chg (Sp.ltD d fr) (Sp.ltD d tt)).map Sp.chP).length∧CV chgW G vq (((Sp.chg (Sp.ltD d fr) (Sp.ltD d tt)).map Sp.chP).drop k)∧xs=(((Sp.chg (Sp.ltD d fr) (Sp.ltD d tt)).map Sp.chP).take k).map (Sp.pcP d.store))∧m=(((Sp.chg (Sp.ltD d fr) (Sp.ltD d tt)).map Sp.chP).length-k)) (h0:=⟨_,_,_,[],[],0,vs,0,_,Z,PLe.refl _,H,?inv,Z⟩) (round:=?round)
  case inv=>exact⟨ChkF.nil,by first|rfl|simp|(simp;omega)|omega,(by exact⟨by omega,(by rw[List.drop_zero];exact hcv0),rfl⟩)⟩
  case round =>
   rintro _ _ _ ⟨v,n,cs,xs,F,k,vq,rq,_,rfl,hle23,H,hinv23,rfl⟩
   subst hln21
   subst hln22
   have hS3:=hS3.up hle23
   have hN3:=hN3.up hle23
   have hchk3:=hchk3.up hle23
   have hNs3:=hNs3.up hle23
   obtain⟨hchk23_0,_,hinv23⟩:=hinv23
   obtain⟨_,_,rfl⟩:=H.accShape (k:=1) rfl
   obtain⟨hk,hcv,hxs⟩:=hinv23;have hxl:xs.length=k:=(by rw[hxs,List.length_map,List.length_take];omega)
   refine W_seq (W_regionC [0,1] Z ?_)
   rcases vq with _|⟨v24,vs24⟩
   ·skip
    refine c_recvz H 2 Z Z Z Z underlying53 zeroValue55 ?_
    have hend:=hcv.nil_len
    refine RC_l Z (pe 1 Z ?_)
    refine R_nil (N_C ?_)
    refine RC_nil (N_K (W_seq (W_false Z (W_exit (N_K_exit (N_LP_exit (N_B_same (N_K (q2 (pe 3 Z (q3 (W_ret (rt2 results7 Z Z ?_)))))))))))))
    have H:=H.tF 1
    obtain⟨_,H,hOw2⟩:=H.ownF hchk23_0 aN aN
    have H:=H.sel [0] rfl
    have hxe:xs=((Sp.chg (Sp.ltD d fr) (Sp.ltD d tt)).map Sp.chP).map (Sp.pcP d.store):=(by rw[hxs,List.take_of_length_le oM])
    have hyes:Sp.StreamOf d fr tt=some xs:=(by rw[hxe];exact Sp.so_yes hdv3 (by simpa using hc5') (by simpa using hc7'))
    have H:=H.forget hG (by simp)
    exact⟨_,_,rfl,H,_,_,(by rw[hyes];rfl),rfl,(by rw[hyes];exact(show OPt _ _ _ from⟨_,hOw2⟩))⟩
   skip
   obtain⟨z24,hz24,hV24,hcw⟩:=hcv.pop;clear hcv;have hcv:=hcw;clear hcw;have hV24:chgX _ z24 [v24]:=hV24;have hck24:=chgE.kind hV24
   refine c_recv H 2 Z Z Z Z underlying53 zeroValue55 ?_;intro _ H
   refine RC_l Z (pe 1 Z ?_)
   refine R_nil (N_C ?_)
   refine RC_nil (N_K (W_seq (W_true Z (W_skip (N_K (W_block (q2 (pe 2 Z (q1 (pe 2 Z ?_))))))))))
   have H:=H.tF 7
   have H:=H.tF 7
   have H:=H.tF 7
   have H:=H.tF 7
   have H:=H.tF 7
   refine xc Z2 (i_partOf_c _ _ H.sub _ _ _ _ _ _ _ _ _ _ _ _ hm3 hS3 hN3 hT3 hchk3 hNs3 hSn3 hdv3 _ _ hV24 H.lent5 (Sp.ch_ids hdv3 hz24).1 (Sp.ch_dir hdv3 hz24)) ?_
   rintro _ _ ⟨_,_,_,rfl,H25',⟨F25,_,rfl,rfl,hO25⟩⟩
   have hcv:=hcv.up H25'.le
   have hle23:=hle23.trans H25'.le
   have H:=H.borrow5 H25'
   obtain⟨_,_,_,rfl,hj25,hi25,ho25⟩:=hO25
   refine⟨_,Z,?_⟩
   refine pe 3 Z (xal H Z ?_);intro _ _ _ H
   refine xst 0 H Z8 ?_;intro _ H
   refine aG Z (q3 (W_seq (q2 (pe 2 Z (q3 (W_false Z (W_skip (N_K (W_region (mV Z (lA 0 4 H Z4 (xbs H Z7 ?_))))))))))));intro _ _ _ H
   refine o_append1 8 H (sz:=4) (bytes:=56) underlying30 typeInfo58 ⟨_,Z,Z⟩ Z Z Z Z Z Z Z Z Z Z oM Z ?_;intro _ _ H
   have hchk29:=hchk23_0.snoc (show partO F25 (Sp.pcP d.store z24) _ from⟨_,_,_,rfl,hj25,hi25,ho25⟩) rfl
   have H:=H.tF 1
   have H:=H.tF 7
   have H:=H.mergeF
   obtain⟨_,_,rfl⟩:=H.accShape (k:=7) rfl
   refine aG Z (R_nil (N_B ?_))
   have H:=H.sel [0,7,8,2,3,4,5,6,9] rfl
   refine N_lp (hJ:=⟨_,_,_,(xs++[(Sp.pcP d.store z24)]),(F++F25),k+1,_,_,_,Z,hle23,H,?inv,Z⟩) (hm:=?hm)
   case hm=>have:=(List.getElem?_eq_some_iff.1 hz24).1;omega
   case inv=>exact⟨hchk29,aN,(by exact⟨(by have:=(List.getElem?_eq_some_iff.1 hz24).1;omega),hcv,by rw[hxs];exact Sp.pc_snoc hz24 rfl⟩)⟩
theorem i_TreeFindI_c (w0:World)(G0:PH)(hG:PSub G0 w0)(vlist:Value)(list:List (BItem))(hlist:RdItems G0 vlist list)(path:Bs)(hpath:path.length≤16777216) :
  Calls Tryz.prog 72 #[vlist,str path] w0 (RetP w0 G0 (fun G v=>∃cs,v= .tuple #[.agg cs.toArray,.bool (Sp.TreeFind list path).isSome]∧itemE G ((Sp.TreeFind list path).getD ⟨[],false,[]⟩) cs)):=by
 obtain⟨alist,klist,rfl⟩:=hlist.shape
 have hlimlist:list.length≤1099511627776:=hlist.lim
 have H:=Hp.init hG
 refine calls_of_W (l:=[.slice alist list.length klist,str path]) func72 Z ntmps72 Z (q2 (xal H Z ?_));intro _ _ _ H
 refine aG Z (q1 (mV Z (xc Z2 (i_openTree_c _ _ H.sub _ _ hlist H.lent0) ?_)))
 rintro _ _ ⟨G2,_,_,rfl,H2',⟨rfl,rfl,hv2⟩|⟨T2,_,rfl,rfl,hN2,hT2,hv2⟩⟩
 ·skip
  have H:=H.borrow0 H2'
  refine⟨_,Z,?_⟩
  refine pe 5 Z (q3 (W_seq (q2 (pe 2 Z (q3 (W_true Z (q2 (o_build bf66 Z Z Z (xst 0 H Z8 ?_)))))))));intro _ H
  refine aG Z (q3 (W_ret (N_K_ret (ret_gen (rs:=[.cell 4 66,.tmp 5]) (vs:=[_,_]) results72 ⟨⟨_,Z,load_blk 0 H isAgg66 sizeOf66 Z Z Z⟩,Z,trivial⟩ ?_))))
  have H:=H.dl 0
  have hp:Sp.TreeFind list path=none:=(by first|exact Sp.tf_bad (by assumption)|exact Sp.tf_no (by assumption) (by assumption))
  exact H.retP ⟨_,(by (rw[hp];rfl)),(by (rw[hp];exact⟨_,_,_,rfl,by decide,RdS.nil _ _ _⟩))⟩
 skip
 have H:=H.borrow0 H2'
 refine⟨_,Z,?_⟩
 refine pe 5 Z (q3 (W_seq (q2 (pe 2 Z (q3 (W_false Z (W_skip (N_K (q2 (pe 2 Z (xc Z2 (i_find_n_c _ _ (H.lendSubL [0]) _ ((H.lendN (k:=0) (ks:=[0]) Z Z hN2).at (show Nd.at_ T2 []=some T2 from Z)) _ hpath hT2.wf) ?_)))))))))))
 rintro _ _ ⟨_,rfl,ew4,⟨hfi4,rfl⟩|⟨d4,hfi4,rfl⟩⟩
 ·skip
  have H:=H.step ew4;refine⟨_,rfl,?_⟩
  refine aG Z (q3 (W_seq (q2 (mV Z (o_eqnil_ptr underlying97 Z Z Z (q3 (W_true Z (q2 (o_build bf66 Z Z Z (xst 1 H Z8 ?_))))))))));intro _ H
  refine aG Z (q3 (W_ret (N_K_ret (ret_gen (rs:=[.cell 4 66,.tmp 5]) (vs:=[_,_]) results72 ⟨⟨_,Z,load_blk 1 H isAgg66 sizeOf66 Z Z Z⟩,Z,trivial⟩ ?_))))
  have H:=H.dl 0
  have H:=H.dl 0
  have hp:Sp.TreeFind list path=none:=(by first|exact Sp.tf_bad (by assumption)|exact Sp.tf_no (by assumption) (by assumption))
  exact H.retP ⟨_,(by (rw[hp];rfl)),(by (rw[hp];exact⟨_,_,_,rfl,by decide,RdS.nil _ _ _⟩))⟩
 skip
 have H:=H.step ew4;refine⟨_,rfl,?_⟩
 refine aG Z (q3 (W_seq (q2 ?_)))
 obtain⟨_,_,_,_,_,_,H,ohri,_,_,_,_,_⟩:=Hp.openNode H hN2 (Nd.find_at_ hfi4)
 obtain⟨_,_,rfl⟩:=H.accShape (k:=1) rfl;have hdo:=PLe.refl G2;have hn_ohri:=ohri.len
 refine mV Z (o_eqnil_ptr underlying97 Z Z Z (q3 (W_false Z (W_skip (N_K (W_seq (W_drawK [0] 12 H kR Z ?_)))))));intro _ H;have hd6:=PLe.refl G2
 refine dE 0 Z2 (dE 1 Z2 (dE 2 Z2 (dF 3 1 Z2 (dB 4 0 Z4 (dE 5 Z2 (dE 6 Z2 (dF 7 2 Z2 (dB 8 0 Z4 (RD_t 9 Z kR Z (fun _ hK=>v_build bf66 Z Z) (r1 10 Z (xst 3 H Z8 ?_)))))))))));intro _ H
 refine q4 H hd6 (dE 11 Z2 (rz (N_K (W_ret (ret_gen (rs:=[.cell 4 66,.tmp 5]) (vs:=[_,_]) results72 ⟨⟨_,Z,load_blk 3 H isAgg66 sizeOf66 Z Z Z⟩,Z,trivial⟩ ?_)))))
 have H:=H.sel [] rfl
 have hp:Sp.TreeFind list path=some ⟨path,d4.dir,d4.ids⟩:=Sp.tf_yes hT2 hfi4
 exact H.retP ⟨_,(by (rw[hp];rfl)),(by (rw[hp];exact⟨_,_,_,rfl,hpath,ohri⟩))⟩
theorem i_FileLoad_c (w0:World)(G0:PH)(hG:PSub G0 w0)(vlist:Value)(list:List (BHeld))(hlist:RdH G0 vlist list)(vids:Value)(ids:List (Int))(hids:RdI G0 vids ids) :
  Calls Tryz.prog 73 #[vlist,vids] w0 (RetN w0 G0 (fun v Bs=>∃(uv:Value) (c:List Value) (xs:List Int),v= .tuple #[uv,.bool (Sp.FileLoad list ids).isSome]∧Bs=[acc 3 1 uv xs.length c]∧Chk intE 1 (fun _=>none) c xs∧xs.length≤1000∧(∀ys,Sp.FileLoad list ids=some ys→xs=ys)∧(Sp.FileLoad list ids=none→xs=[]))):=by
 obtain⟨alist,klist,rfl⟩:=hlist.shape
 have hlimlist:list.length≤1099511627776:=hlist.lim
 obtain⟨aids,kids,rfl⟩:=hids.shape
 have hlimids:ids.length≤1099511627776:=hids.lim
 have H:=Hp.init hG
 refine calls_of_W (l:=[.slice alist list.length klist,.slice aids ids.length kids]) func73 Z ntmps73 Z (q2 (pe 2 Z (q1 (mV Z (xc Z2 (i_openStore_c _ _ H.sub _ _ hlist H.lent0) ?_)))))
 rintro _ _ ⟨G1,_,_,rfl,H1',⟨_,rfl,rfl⟩|⟨hV1,_,_,_,_,rfl,rfl,hm1,hS1⟩⟩
 ·skip
  have H:=H.borrow0 H1'
  refine⟨_,Z,?_⟩
  refine pe 5 Z (q3 (W_seq (q2 (pe 2 Z (q3 (W_true Z (q2 (pe 2 Z (q3 (W_ret (N_K_ret (rt2 results73 Z Z ?_))))))))))))
  have H:=H.addNil 3 1
  have hno:Sp.FileLoad list ids=none:=by (simp[Sp.FileLoad,show Sp.StoreValid list=false by assumption])
  have H:=H.forget hG (by simp)
  exact⟨_,_,rfl,H,_,_,[],(by (rw[hno];rfl)),rfl,(Chk.nil (E:=intE) (sz:=1) (G:=G1)),by simp,fun ys h=>(by rw[hno]at h;cases h),fun _=>rfl⟩
 skip
 have hids:=hids.up H1'.le
 have H:=H.borrow0 H1'
 refine⟨_,Z,?_⟩
 refine pe 5 Z (q3 (W_seq (q2 (pe 2 Z (q3 (W_false Z (W_skip (N_K (q2 (pe 2 Z (xc Z2 (i_loadFile_c _ _ (H.lendSubL [0]) _ _ _ _ _ (H.lendPredL (k:=0) (ks:=[0]) Z Z) hm1 (hS1.up (PPlus.le _ _ _)) hV1 _ _ (hids.up (PPlus.le _ _ _))) ?_)))))))))))
 rintro _ _ ⟨_,_,rfl,H2',⟨_,_,xs2,rfl,rfl,hchk2,hxl2,hxs2,hxn2⟩⟩
 have H:=H.readersL H2'
 obtain⟨_,_,rfl⟩:=H.accShape (k:=0) rfl
 refine⟨_,Z,?_⟩
 refine pe 4 Z (q3 (W_ret (rt2 results73 Z Z ?_)))
 have H:=H.dl 1
 have hd:Sp.FileLoad list ids=if Sp.l4Ids list ids then some (Sp.load list ids) else none:=by (have hq:=Sp.valid_iff.2 hV1;simp[Sp.FileLoad,hq])
 have H:=H.forget hG (by simp)
 exact⟨_,_,rfl,H,_,_,xs2,(by (rw[hd];cases Sp.l4Ids list ids<;>rfl)),acc_1 rfl,chkI (G:=fun _=>none) ((chkI hchk2)),hxl2,fun ys h=>(by (rw[hd]at h;by_cases hq:Sp.l4Ids list ids=true;(· (rw[if_pos hq]at h);cases h;exact hxs2 hq);(· (rw[if_neg hq]at h);cases h))),fun h=>hxn2 (by (rw[hd]at h;by_cases hq:Sp.l4Ids list ids=true;(· (rw[if_pos hq]at h);cases h);(· simpa using hq)))⟩
theorem w_readTree_c (w0:World)(G0:PH)(hG:PSub G0 w0)(cd:List Value)(d:BDisk)(hd:diskE G0 d cd)(path:Bs)(hpath:path.length≤16777216) :
  Calls Tryz.prog 37 #[.agg cd.toArray,str path] w0 (RetN w0 G0 (fun v Bs=>∃(uv:Value) (c:List Value) (xs:List Int),v= .tuple #[uv,.bool (Sp.readT d path).isSome]∧Bs=[acc 3 1 uv xs.length c]∧Chk intE 1 (fun _=>none) c xs∧xs.length≤1000∧(∀ys,Sp.readT d path=some ys→xs=ys)∧(Sp.readT d path=none→xs=[]))):=by
 obtain⟨_,_,_,_,_,_,_,_,_,rfl,hr1,hr1',hr1'',⟨_,_⟩,⟨_,_⟩,_,_⟩:=ox hd
 have H:=Hp.init hG
 refine calls_of_W (l:=[_,str path]) func37 Z ntmps37 Z (q2 (o_box H Z Z Z ?_));intro _ _ _ H
 refine pe 2 Z (q1 (fA 1 Z (lB 0 H Z3 (mV Z (xc Z2 (i_TreeFindI_c _ _ H.sub _ _ hr1' _ hpath) ?_)))))
 rintro _ _ ⟨G3,_,g3,rfl,_,rfl,hr3_0⟩
 have H:=H.grow g3
 have hr1:=hr1.up g3.le
 obtain⟨_,_,_,rfl,_,hr4,_,_⟩:=ox hr3_0
 refine⟨_,Z,?_⟩
 refine pe 3 Z (xal H Z ?_);intro _ _ _ H
 refine xst 0 H Z8 ?_;intro _ H
 refine aG Z (q3 (W_seq (q2 (pe 3 Z ?_))))
 refine R_case (t:=17) Z ?_ ?_
 ·intro hc7
  try simp only[nrm]at hc7
  refine pe 3 Z (q3 (W_true Z (q2 (xbs H Z7 ?_))));intro _ _ _ H
  have H:=H.blkAcc 1 (k:=0) (n:=0) rfl rfl (by decide)
  refine pe 2 Z (q3 (W_ret (N_K_ret (rt2 results37 Z Z ?_))))
  have H:=H.dl 1
  have H:=H.dl 1
  have hno:Sp.readT d path=none:=(by first|exact Sp.readT_no1 (by simpa using hc7)|exact Sp.readT_no2 (by simpa using hc7))
  have H:=H.forget hG (by simp)
  exact⟨_,_,rfl,H,_,_,[],(by (rw[hno];rfl)),rfl,chkI (G:=fun _=>none) ((Chk.nil (E:=intE) (sz:=1) (G:=G3))),by simp,fun ys h=>(by rw[hno]at h;cases h),fun _=>rfl⟩
 intro hc7'
 try simp only[nrm]at hc7'
 refine gR Z (fA 1 Z (gR Z (lB 0 H Z3 (pe 1 Z (q3 ?_)))))
 refine W_cond Z ?_ ?_
 ·intro hc9
  try simp only[nrm]at hc9
  refine q2 (xbs H Z7 ?_);intro _ _ _ H
  have H:=H.blkAcc 1 (k:=0) (n:=0) rfl rfl (by decide)
  refine pe 2 Z (q3 (W_ret (N_K_ret (rt2 results37 Z Z ?_))))
  have H:=H.dl 1
  have H:=H.dl 1
  have hno:Sp.readT d path=none:=(by first|exact Sp.readT_no1 (by simpa using hc9)|exact Sp.readT_no2 (by simpa using hc9))
  have H:=H.forget hG (by simp)
  exact⟨_,_,rfl,H,_,_,[],(by (rw[hno];rfl)),rfl,chkI (G:=fun _=>none) ((Chk.nil (E:=intE) (sz:=1) (G:=G3))),by simp,fun ys h=>(by rw[hno]at h;cases h),fun _=>rfl⟩
 intro hc9'
 try simp only[nrm]at hc9'
 refine W_skip (N_K (q2 (fA 0 Z (lB 1 H Z3 (fA 2 Z (lB 0 H Z3 (xc Z2 (i_FileLoad_c _ _ H.sub _ _ hr1 _ _ hr4) ?_)))))))
 rintro _ _ ⟨_,_,rfl,H11',⟨_,_,xs11,rfl,rfl,hchk11,hxl11,hxs11,hxn11⟩⟩
 have H:=H.readers (fp:=[]) (by simp) (PLe.refl _) H11'
 obtain⟨_,_,rfl⟩:=H.accShape (k:=0) rfl
 refine⟨_,Z,?_⟩
 refine pe 4 Z (q3 (W_ret (rt2 results37 Z Z ?_)))
 have H:=H.dl 1
 have H:=H.dl 1
 have hd:Sp.readT d path=_:=Sp.readT_yes (by simpa using hc7') (by simpa using hc9')
 have H:=H.forget hG (by simp)
 exact⟨_,_,rfl,H,_,_,xs11,(by (rw[hd];rfl)),acc_1 rfl,chkI (G:=fun _=>none) ((chkI hchk11)),hxl11,fun ys h=>hxs11 ys (by (rw[hd]at h;exact h)),fun h=>hxn11 (by (rw[hd]at h;exact h))⟩
theorem w_sameFiles_c (w0 : World) (G0 : PH) (hG : PSub G0 w0) (ca : List Value) (a : BDisk) (ha : diskE G0 a ca) (cb : List Value) (b : BDisk) (hb : diskE G0 b cb) (hpd : a.tree.map (fun z => (z.path, z.dir)) = b.tree.map (fun z => (z.path, z.dir))) (hrd : ∀ p, Sp.readT a p = Sp.readT b p) :
  Calls Tryz.prog 13 #[.agg ca.toArray,.agg cb.toArray] w0 (Rets w0 (.bool true)):=by
 obtain⟨_,_,_,_,_,_,_,_,_,rfl,hr1,hr1',hr1'',⟨_,_⟩,⟨_,_⟩,_,_⟩:=ox ha
 obtain⟨_,_,_,_,_,_,_,_,_,rfl,hr2,hr2',hr2'',⟨_,_⟩,⟨_,_⟩,_,_⟩:=ox hb
 have hlen:a.tree.length=b.tree.length:=by (have h9:=congrArg List.length hpd;simpa using h9)
 have H:=Hp.init hG
 refine calls_of_W (l:=[_,_]) func13 Z ntmps13 Z (q2 (o_box H Z Z Z ?_));intro b3 _ _ H
 refine o_box H Z Z Z ?_;intro b4 _ _ H
 refine aG Z (q3 (W_seq (q2 (fA 1 Z (lB 1 H Z3 (lN Z (fA 1 Z (lB 0 H Z3 (lN Z (pe 1 Z (q3 ?_)))))))))))
 refine W_cond Z ?_ ?_
 ·intro hc5
  try simp only[nrm]at hc5
  refine q2 (aG Z (q3 (W_ret (N_K_ret (rt1 results13 Z ?_)))))
  exact absurd (show False by omega) id
 intro hc5'
 try simp only[nrm]at hc5'
 refine W_skip (N_K (W_seq (q2 (aG Z (q3 (W_block ?_))))))
 obtain⟨ln6,hln6,H⟩:=H.name (k:=0) rfl
 obtain⟨ln7,hln7,H⟩:=H.name (k:=1) rfl
 refine W_lp (hf:=(Sub.cons (t:=2) Z (Sub.cons (t:=3) Z Sub.nil))) (J:=fun M w m=>∃(k:Nat) (G:PH),M=[(5,.int .i64 (k:Int))]∧PLe G0 G∧Hp w0 G0 [] w G [blk b4 (cl ln6 27),blk b3 (cl ln7 27)]∧(k≤a.tree.length)∧m=(a.tree.length-k)) (h0:=⟨0,_,Z,PLe.refl _,H,?inv,Z⟩) (round:=?round)
 case inv=>omega
 case round =>
  rintro _ _ _ ⟨k,G8,rfl,hle8,H,hinv8,rfl⟩
  subst hln6
  subst hln7
  have hr1:=hr1.up hle8
  have hr1':=hr1'.up hle8
  have hr1'':=hr1''.up hle8
  have hr2:=hr2.up hle8
  have hr2':=hr2'.up hle8
  have hr2'':=hr2''.up hle8
  have hk:=hinv8
  refine W_seq (q2 (mV Z (fA 1 Z (lB 1 H Z3 (lN Z (pe 1 Z (q3 ?_)))))))
  refine W_cond Z ?_ ?_
  ·intro hc9
   try simp only[nrm]at hc9
   refine W_skip (N_K (W_seq (W_block (W_seq (W_seq (W_drawK [0,1] 28 H kR Z ?_))))));intro _ H;have hd10:=PLe.refl G8
   refine dF 0 1 Z2 (dB 1 1 Z4 (dE 2 Z2 ?_))
   have hl11:=hr1'.len
   obtain⟨_,_,z11,_,ha11,hz11,hq11,hE11,hrow11,_⟩:=hr1'.at (i:=k) oM
   clear hq11
   obtain⟨_,_,_,rfl,_,_,_,_⟩:=ox hE11
   refine dI 3 3 k ha11 Z3 Z (dF 4 0 Z2 (dP 5 hrow11 0 Z3 (dF 6 1 Z2 (dB 7 0 Z4 (dE 8 Z2 ?_)))))
   have hl12:=hr2'.len
   obtain⟨_,_,z12,_,ha12,hz12,hq12,hE12,hrow12,_⟩:=hr2'.at (i:=k) oM
   clear hq12
   obtain⟨_,_,_,rfl,_,_,_,_⟩:=ox hE12
   refine dI 9 3 k ha12 Z3 Z (dF 10 0 Z2 (dP 11 hrow12 0 Z3 (RD_t 12 Z kR Z (fun _ hK=>v_sneq Z Z) (dE 13 Z2 ?_))))
   refine RD_case (t:=37) Z ?_ ?_
   ·intro hc13
    try simp only[nrm]at hc13
    refine dE 14 Z2 (dE 15 Z2 (dE 16 Z2 (dE 17 Z2 (dE 18 Z2 (dE 19 Z2 (dE 20 Z2 (dE 21 Z2 (dE 22 Z2 (dE 23 Z2 (dE 24 Z2 (dE 25 Z2 (dE 26 Z2 (dE 27 Z2 (rz (N_K ?_)))))))))))))))
    refine W_true Z (q2 (aG Z (q3 (W_ret (N_K_ret (N_B_ret (N_K_ret (N_LP_ret (N_B_ret (N_K_ret (rt1 results13 Z ?_)))))))))))
    obtain⟨e1,e2⟩:=Sp.pd_at hpd hz11 hz12
    exact absurd (show False by first|exact hc13 e1|exact hc13 e2|(simp_all;done)) id
   intro hc13'
   try simp only[nrm]at hc13'
   refine dF 14 1 Z2 (dB 15 1 Z4 (dE 16 Z2 ?_))
   have hl14:=hr1'.len
   obtain⟨_,_,z14,_,ha14,hz14,hq14,hE14,hrow14,_⟩:=hr1'.at (i:=k) oM
   clear hq14
   obtain⟨_,_,_,rfl,_,_,_,_⟩:=ox hE14
   have hzz14:z11=z14:=Option.some.inj (hz11.symm.trans hz14)
   subst hzz14
   refine dI 17 3 k ha14 Z3 Z (dF 18 1 Z2 (dP 19 hrow14 1 Z3 (dF 20 1 Z2 (dB 21 0 Z4 (dE 22 Z2 ?_)))))
   have hl15:=hr2'.len
   obtain⟨_,_,z15,_,ha15,hz15,hq15,hE15,hrow15,_⟩:=hr2'.at (i:=k) oM
   clear hq15
   obtain⟨_,_,_,rfl,_,_,_,_⟩:=ox hE15
   have hzz15:z12=z15:=Option.some.inj (hz12.symm.trans hz15)
   subst hzz15
   refine dI 23 3 k ha15 Z3 Z (dF 24 1 Z2 (dP 25 hrow15 1 Z3 (RD_tg 26 Z kR Z (yl Z Z) (fun _ hK=>v_bneq underlying4 Z Z) (dE 27 Z2 (rz (N_K ?_))))))
   refine W_cond Z ?_ ?_
   ·intro hc16
    try simp only[nrm]at hc16
    refine q2 (aG Z (q3 (W_ret (N_K_ret (N_B_ret (N_K_ret (N_LP_ret (N_B_ret (N_K_ret (rt1 results13 Z ?_))))))))))
    obtain⟨e1,e2⟩:=Sp.pd_at hpd hz11 hz12
    exact absurd (show False by first|exact hc16 e1|exact hc16 e2|(simp_all;done)) id
   intro hc16'
   try simp only[nrm]at hc16'
   refine W_skip (N_K (W_seq (W_drawK [0,1] 13 H kR Z ?_)));intro _ H;have hd17:=PLe.refl G8
   refine RD_t 0 Z kR Z (fun _ hK=>v_loadagg_B 1 hK isAgg27 sizeOf27 Z Z Z Z) (dF 1 1 Z2 (dB 2 1 Z4 (dE 3 Z2 ?_)))
   have hl18:=hr1'.len
   obtain⟨_,_,z18,_,ha18,hz18,hq18,hE18,hrow18,_⟩:=hr1'.at (i:=k) oM
   clear hq18
   obtain⟨_,_,_,rfl,hi18,_,_,_⟩:=ox hE18
   have hzz18:z11=z18:=Option.some.inj (hz11.symm.trans hz18)
   subst hzz18
   refine dI 4 3 k ha18 Z3 Z (dF 5 0 Z2 (dP 6 hrow18 0 Z3 (r1 7 Z (xc Z2 (w_readTree_c _ _ H.sub _ a ⟨_,_,_,_,_,_,_,_,_,Z,hr1,hr1',hr1''⟩ _ hi18) ?_))))
   rintro _ _ ⟨_,_,rfl,H19',⟨_,_,_,rfl,rfl,hchk19,_,hxs19,hxn19⟩⟩
   have H:=H.readers (fp:=[]) (by simp) (PLe.refl _) H19'
   obtain⟨_,_,rfl⟩:=H.accShape (k:=0) rfl
   refine⟨_,Z,?_⟩
   refine q4 H hd17 (dE 8 Z2 (dE 9 Z2 (dE 10 Z2 (dE 11 Z2 (dE 12 Z2 (rz (N_K (W_seq (W_drawK [1,2] 13 H kR Z ?_)))))))));intro _ H;have hd20:=PLe.refl G8
   refine RD_t 0 Z kR Z (fun _ hK=>v_loadagg_B 0 hK isAgg27 sizeOf27 Z Z Z Z) (dF 1 1 Z2 (dB 2 1 Z4 (dE 3 Z2 ?_)))
   have hl21:=hr1'.len
   obtain⟨_,_,z21,_,ha21,hz21,hq21,hE21,hrow21,_⟩:=hr1'.at (i:=k) oM
   clear hq21
   obtain⟨_,_,_,rfl,hi21,_,_,_⟩:=ox hE21
   have hzz21:z11=z21:=Option.some.inj (hz11.symm.trans hz21)
   subst hzz21
   refine dI 4 3 k ha21 Z3 Z (dF 5 0 Z2 (dP 6 hrow21 0 Z3 (r1 7 Z (xc Z2 (w_readTree_c _ _ H.sub _ b ⟨_,_,_,_,_,_,_,_,_,Z,hr2,hr2',hr2''⟩ _ hi21) ?_))))
   rintro _ _ ⟨_,_,rfl,H22',⟨_,_,_,rfl,rfl,hchk22,_,hxs22,hxn22⟩⟩
   have H:=H.readers (fp:=[]) (by simp) (PLe.refl _) H22'
   obtain⟨_,_,rfl⟩:=H.accShape (k:=0) rfl
   refine⟨_,Z,?_⟩
   refine q4 H hd20 (dE 8 Z2 (dE 9 Z2 (dE 10 Z2 (dE 11 Z2 (dE 12 Z2 (rz (N_K (q2 (pe 2 Z (o_bneq underlying4 Z Z Z (mV Z ?_)))))))))))
   refine R_case (t:=77) Z ?_ ?_
   ·intro hc23
    try simp only[nrm]at hc23
    refine pe 5 Z (q3 (W_true Z (q2 (aG Z (q3 (W_ret (N_B_ret (N_K_ret (N_LP_ret (N_B_ret (N_K_ret (rt1 results13 Z ?_))))))))))))
    exact absurd (show False by exact hc23 (by rw[hrd z11.path])) id
   intro hc23'
   try simp only[nrm]at hc23'
   refine pe 2 Z (gR Z (xr H Z2 (w_sameInts_c _ _ (H.lendSubL [0,1]) _ _ (H.lendRdL (k:=1) (ks:=[0,1]) Z Z (chkI hchk19) aN aN) _ _ (H.lendRdL (k:=0) (ks:=[0,1]) Z Z (chkI hchk22) aN aN) (Sp.two_reads (hrd _) hxs19 hxn19 hxs22 hxn22)) ?_));intro _ H
   refine pe 2 Z (q3 (W_false Z (W_skip (N_B (N_K (W_region (mV Z (aD Z2 (aG Z (R_nil ?_))))))))))
   have H:=H.sel [2,3] rfl
   refine N_lp (hJ:=⟨k+1,_,Z,hle8,H,?inv,Z⟩) (hm:=?hm)
   case hm=>omega
   case inv=>omega
  intro hc9'
  try simp only[nrm]at hc9'
  refine W_exit (N_K_exit (N_LP_exit (N_B_same (N_K (q2 (aG Z (q3 (W_ret (rt1 results13 Z ?_)))))))))
  exact H.rets Z
theorem lStreamNew_c (w0:World)(G0:PH)(hG:PSub G0 w0)(vcode:Value)(code:List (UInt8))(hcode:RdU G0 vcode code) :
  Calls Tryz.prog 4 #[vcode] w0 (Rets w0 (.bool true)):=by
 obtain⟨acode,kcode,rfl⟩:=hcode.shape
 have hlimcode:code.length≤1099511627776:=hcode.lim
 have H:=Hp.init hG
 refine calls_of_W (l:=[.slice acode code.length kcode]) func4 Z ntmps4 Z (q2 (aG Z (q3 (W_seq (q2 (mV Z (lN Z (pe 1 Z (q3 ?_)))))))))
 refine W_cond Z ?_ ?_
 ·intro hc1
  try simp only[nrm]at hc1
  refine q2 (aG Z (q3 (W_ret (N_K_ret (rt1 results4 Z ?_)))))
  first|exact H.rets rfl|exact H.rets (congrArg Value.bool (by simp_all))
 intro hc1'
 try simp only[nrm]at hc1'
 refine W_skip (N_K (q2 (mV Z (xc Z2 (DrawStreamOf_c _ _ H.sub _ _ hcode) ?_))))
 rintro _ _ ⟨_,_,g2,rfl,⟨_,uV,uP,uT,rfl,hV,hP0,hT0⟩⟩
 have H:=H.grow g2
 obtain⟨_,_,_,_,_,_,_,_,_,rfl,hr2,hr2',hr2'',⟨_,_⟩,⟨_,_⟩,_,_⟩:=ox hV
 refine⟨_,Z,?_⟩
 refine pe 4 Z (xal H Z ?_);intro _ _ _ H
 refine xst 0 H Z8 ?_;intro _ H
 refine pe 2 Z (q1 (lA 0 3 H Z4 (pe 2 Z (xc Z2 (i_StreamOf_c _ _ H.sub _ uV ⟨_,_,_,_,_,_,_,_,_,Z,hr2,hr2',hr2''⟩ _ hP0 _ hT0) ?_))))
 rintro _ _ ⟨_,_,rfl,H5',⟨_,_,rfl,rfl,hO5⟩⟩
 have H:=H.readers (fp:=[]) (by simp) (PLe.refl _) H5'
 obtain⟨_,hP5⟩:=hO5
 obtain⟨_,_,rfl⟩:=OwnS.shape hP5
 have hO5:=OPt.mk hP5
 refine⟨_,Z,?_⟩
 refine pe 5 Z (q1 (lA 1 3 H Z4 (pe 2 Z (xc Z2 (StreamOf_c _ _ H.sub _ uV ⟨_,_,_,_,_,_,_,_,_,Z,hr2,hr2',hr2''⟩ _ hP0 _ hT0) ?_))))
 rintro _ _ ⟨_,_,_,g6,rfl,⟨_,rfl,⟨_,rfl,hchk6⟩⟩,hp6,hq6,hs6⟩
 have H:=H.growO g6 hp6 hq6 hs6;obtain⟨_,_,rfl⟩:=H.accShape (k:=0) rfl
 have hr2:=hr2.up g6.le
 have hr2':=hr2'.up g6.le
 have hr2'':=hr2''.up g6.le
 refine⟨_,Z,?_⟩
 have hsl:=Sp.so_len uV uP uT
 refine pe 5 Z (q3 (W_seq (q2 (pe 2 Z (o_bneq_same underlying4 Z Z Z (pe 3 Z (gR Z (xr H Z2 (w_sameParts_c _ _ (H.lendSubL [0,1]) _ _ (H.lendOPt (k:=1) (ks:=[0,1]) Z Z hO5) _ _ (H.lendRdL (k:=0) (ks:=[0,1]) Z Z hchk6 aN aN) Z) ?_))))))));intro _ H
 refine pe 7 Z ?_
 refine R_case (t:=50) Z ?_ ?_
 ·intro hc8
  try simp only[nrm]at hc8
  refine pe 7 Z (q3 (W_true Z (q2 (pe 2 Z (o_beql_same underlying4 Z Z Z (pe 3 Z (gR Z (xr H Z2 (w_sameParts_c _ _ (H.lendSubL [0,1]) _ _ (H.lendOPt (k:=1) (ks:=[0,1]) Z Z hO5) _ _ (H.lendRdL (k:=0) (ks:=[0,1]) Z Z hchk6 aN aN) Z) ?_))))))));intro _ H
  refine pe 2 Z (q3 (W_ret (N_K_ret (rt1 results4 Z ?_))))
  first|exact H.rets rfl|exact H.rets (congrArg Value.bool (by simp_all))
 intro hc8'
 try simp only[nrm]at hc8'
 refine pe 1 Z (gR Z (o_sneq Z Z Z (pe 2 Z ?_)))
 refine R_case (t:=54) Z ?_ ?_
 ·intro hc10
  try simp only[nrm]at hc10
  refine pe 3 Z (q3 (W_true Z (q2 (pe 2 Z (o_beql_same underlying4 Z Z Z (pe 3 Z (gR Z (xr H Z2 (w_sameParts_c _ _ (H.lendSubL [0,1]) _ _ (H.lendOPt (k:=1) (ks:=[0,1]) Z Z hO5) _ _ (H.lendRdL (k:=0) (ks:=[0,1]) Z Z hchk6 aN aN) Z) ?_))))))));intro _ H
  refine pe 2 Z (q3 (W_ret (N_K_ret (rt1 results4 Z ?_))))
  first|exact H.rets rfl|exact H.rets (congrArg Value.bool (by simp_all))
 intro hc10'
 try simp only[nrm]at hc10'
 refine pe 1 Z (gR Z (o_seql Z Z Z (pe 1 Z (q3 ?_))))
 refine W_cond Z ?_ ?_
 ·intro hc12
  try simp only[nrm]at hc12
  refine q2 (pe 2 Z (o_beql_same underlying4 Z Z Z (pe 3 Z (gR Z (xr H Z2 (w_sameParts_c _ _ (H.lendSubL [0,1]) _ _ (H.lendOPt (k:=1) (ks:=[0,1]) Z Z hO5) _ _ (H.lendRdL (k:=0) (ks:=[0,1]) Z Z hchk6 aN aN) Z) ?_)))));intro _ H
  refine pe 2 Z (q3 (W_ret (N_K_ret (rt1 results4 Z ?_))))
  first|exact H.rets rfl|exact H.rets (congrArg Value.bool (by simp_all))
 intro hc12'
 try simp only[nrm]at hc12'
 have hf0:uP=[]:=by simpa using hc10'
 obtain⟨u2,hu2⟩:=Option.isSome_iff_exists.1 (show(Sp.StreamOf uV uP uT).isSome=true by simpa using hc8')
 have qX:((Sp.StreamOf uV uP uT).getD [])=u2:=by (rw[hu2];rfl)
 have hne2:uT≠[]:=by simpa using hc12'
 have hu3:Sp.StreamOf uV [] uT=some u2:=by (rw[←hf0];exact hu2)
 obtain⟨qb,qx,qhb,qhr,qv,qp,qr⟩:=Sp.stream_new hu3 hne2
 have qB:((Sp.SnapBack uV uT).getD ⟨[],[],[]⟩)=qb:=by (rw[qhb];rfl)
 have qR:Sp.StreamRun ⟨[],[],[]⟩ ((Sp.StreamOf uV uP uT).getD [])=some qx:=by (rw[qX];exact qhr)
 have qY:((Sp.StreamRun ⟨[],[],[]⟩ ((Sp.StreamOf uV uP uT).getD [])).getD ⟨[],[],[]⟩)=qx:=by (rw[qR];rfl)
 have qh2:(Sp.SnapBack uV uT).isSome=true:=by (rw[qhb];rfl)
 have qh3:(Sp.StreamRun ⟨[],[],[]⟩ ((Sp.StreamOf uV uP uT).getD [])).isSome=true:=by (rw[qR];rfl)
 have qh5:Sp.DiskValid ((Sp.StreamRun ⟨[],[],[]⟩ ((Sp.StreamOf uV uP uT).getD [])).getD ⟨[],[],[]⟩)=true:=by (rw[qY];exact qv)
 refine W_skip (N_K (q2 (lA 2 3 H Z4 (mV Z (xc Z2 (i_SnapBack_c _ _ H.sub _ uV ⟨_,_,_,_,_,_,_,_,_,Z,hr2,hr2',hr2''⟩ _ hT0) ?_)))))
 rintro _ _ ⟨_,_,rfl,H14',⟨_,_,_,_,_,_,rfl,rfl,ho114,ho214,ho314⟩⟩
 have H:=H.readers (fp:=[]) (by simp) (PLe.refl _) H14'
 obtain⟨_,p114⟩:=ho114
 obtain⟨_,_,rfl⟩:=OwnS.shape p114
 obtain⟨_,p214⟩:=ho214
 obtain⟨_,_,rfl⟩:=OwnS.shape p214
 obtain⟨_,p314⟩:=ho314
 obtain⟨_,_,rfl⟩:=OwnS.shape p314
 refine⟨_,Z,?_⟩
 refine pe 3 Z (xal H Z ?_);intro _ _ _ H
 refine xst 0 H Z8 ?_;intro _ H
 refine aG Z (q1 (o_build bf27 Z Z Z (mV Z (xc Z2 (i_StreamRun_c _ _ (H.lendSubL [5]) _ ⟨[],[],[]⟩ ⟨_,_,_,_,_,_,_,_,_,Z,(RdS.nil _ _ _),(RdS.nil _ _ _),(RdS.nil _ _ _)⟩ _ _ (H.lendOPt (k:=5) (ks:=[5]) Z Z hO5)) ?_))))
 rintro _ _ ⟨_,_,rfl,H17',⟨_,_,_,_,_,_,rfl,rfl,ho117,ho217,ho317⟩⟩
 have H:=H.readersL H17'
 obtain⟨_,p117⟩:=ho117
 obtain⟨_,_,rfl⟩:=OwnS.shape p117
 obtain⟨_,p217⟩:=ho217
 obtain⟨_,_,rfl⟩:=OwnS.shape p217
 obtain⟨_,p317⟩:=ho317
 obtain⟨_,_,rfl⟩:=OwnS.shape p317
 refine⟨_,Z,?_⟩
 refine pe 3 Z (xal H Z ?_);intro _ _ _ H
 refine xst 0 H Z8 ?_;intro _ H
 refine aG Z (q1 (pe 3 Z ?_))
 refine R_case (t:=80) Z ?_ ?_
 ·intro hc20
  try simp only[nrm]at hc20
  refine pe 2 Z (R_pass Z (yl_un Z Z) (R_pass Z (yl_un Z Z) (R_pass Z (yl_un Z Z) (pe 2 Z (R_pass Z (yl_un Z Z) (R_pass Z (yl_un Z Z) (pe 3 Z (q3 (W_ret (rt1 results4 Z ?_))))))))))
  first|exact H.rets rfl|exact H.rets (congrArg Value.bool (by simp_all))
 intro hc20'
 try simp only[nrm]at hc20'
 refine pe 2 Z ?_
 refine R_case (t:=82) Z ?_ ?_
 ·intro hc21
  try simp only[nrm]at hc21
  refine gR Z (lA 0 3 H Z4 (gR Z (lA 4 3 H Z4 (gR Z ?_))))
  refine xr H Z2 (w_sameFiles_c _ _ (H.lendSubL [1,2,3,5,6,7]) _ ((Sp.StreamRun ⟨[],[],[]⟩ ((Sp.StreamOf uV uP uT).getD [])).getD ⟨[],[],[]⟩) ⟨_,_,_,_,_,_,_,_,_,Z,(H.lendOHs (k:=1) (ks:=[1,2,3,5,6,7]) Z Z ⟨_,p117⟩),(H.lendOIs (k:=2) (ks:=[1,2,3,5,6,7]) Z Z ⟨_,p217⟩),(H.lendOSn (k:=3) (ks:=[1,2,3,5,6,7]) Z Z ⟨_,p317⟩)⟩ _ ((Sp.SnapBack uV uT).getD ⟨[],[],[]⟩) ⟨_,_,_,_,_,_,_,_,_,Z,(H.lendOHs (k:=5) (ks:=[1,2,3,5,6,7]) Z Z ⟨_,p114⟩),(H.lendOIs (k:=6) (ks:=[1,2,3,5,6,7]) Z Z ⟨_,p214⟩),(H.lendOSn (k:=7) (ks:=[1,2,3,5,6,7]) Z Z ⟨_,p314⟩)⟩ (by rw[qY,qB];exact qp) (fun p=>by rw[qY,qB];exact qr p)) ?_;intro _ H
  refine pe 2 Z (gR Z (lA 0 3 H Z4 (gR Z (xr H Z2 (i_DiskValid_c _ _ (H.lendSubL [1,2,3]) _ ((Sp.StreamRun ⟨[],[],[]⟩ ((Sp.StreamOf uV uP uT).getD [])).getD ⟨[],[],[]⟩) ⟨_,_,_,_,_,_,_,_,_,Z,(H.lendOHs (k:=1) (ks:=[1,2,3]) Z Z ⟨_,p117⟩),(H.lendOIs (k:=2) (ks:=[1,2,3]) Z Z ⟨_,p217⟩),(H.lendOSn (k:=3) (ks:=[1,2,3]) Z Z ⟨_,p317⟩)⟩) ?_))));intro _ H
  refine pe 3 Z (q3 (W_ret (rt1 results4 Z ?_)))
  first|exact H.rets rfl|exact H.rets (congrArg Value.bool (by simp_all))
 intro hc21'
 try simp only[nrm]at hc21'
 refine pe 10 Z (q3 (W_ret (rt1 results4 Z ?_)))
 exact absurd (show False by first|(simp_all;done)|omega) id
end Go.Proofs.Tst
