/- Part 8 of the proof: contracts of functions of the program. Conditions: none. -/
import Derived.Test.YtmjchicclpbaeaaGreatDoorProg
import Derived.Test.YtmjchicclpbaeaaGreatDoorG02
import Derived.Test.YtmjchicclpbaeaaGreatDoorG03
import Derived.Test.YtmjchicclpbaeaaGreatDoorG04
import Derived.Test.YtmjchicclpbaeaaGreatDoorG05
import Derived.Test.YtmjchicclpbaeaaGreatDoorG07
import Derived.Test.YtmjchicclpbaeaaGreatDoorG06
set_option linter.all false
set_option maxRecDepth 100000
set_option maxHeartbeats 8000000
namespace Go.Proofs.Tst
open Go Fw Tryz
theorem i_StreamOf_c (w0:World)(G0:PH)(hG:PSub G0 w0)(cd:List Value)(d:BDisk)(hd:diskE G0 d cd)(fr:Bs)(hfr:fr.length≤16777216)(tt:Bs)(htt:tt.length≤16777216) :
  Calls Tryz.prog 7 #[.agg cd.toArray,str fr,str tt] w0 (RetN w0 G0 (fun v Bs=>∃(F:Fr) (pv:Value),v= .tuple #[pv,.bool (Sp.StreamOf d fr tt).isSome]∧Bs=[frag F]∧OPt F pv ((Sp.StreamOf d fr tt).getD []))):=by
 obtain⟨_,_,_,_,_,_,_,_,_,rfl,hr1,hr1',hr1'',⟨_,_⟩,⟨_,_⟩,_,_⟩:=ox hd
 have H:=Hp.init hG
 refine calls_of_W (l:=[_,str fr,str tt]) func7 Z ntmps7 Z (q2 (o_box H Z Z Z ?_));intro b2 _ _ H
 refine pe 2 Z (q1 (lA 0 3 H Z4 (xc Z2 (i_newDisk_c _ _ H.sub _ d ⟨_,_,_,_,_,_,_,_,_,Z,hr1,hr1',hr1''⟩ H.lent0) ?_)))
 rintro _ _ ⟨_,_,_,rfl,H3',⟨rfl,rfl,hnd3⟩|⟨db3,mb3,es3,ck3,_,_,F3,_,sn3,c3,FS3,rfl,rfl,hm3,hS3,hN3,hT3,hchk3,hNs3,hSn3,hdv3⟩⟩
 ·skip
  have H:=H.borrow0 H3'
  refine⟨_,Z,?_⟩
  refine pe 5 Z (q3 (W_seq (q2 (pe 2 Z (q3 (W_true Z (q2 (pe 2 Z (q3 (W_ret (N_K_ret (rt2 results7 Z Z ?_))))))))))))
  have H:=H.dl 0
  have hno:Sp.StreamOf d fr tt=none:=Sp.so_nov (by simpa using hnd3)
  have H:=(H.addF).forget hG (by simp)
  exact⟨_,_,rfl,H,[],.slice none 0 0,(by rw[hno];rfl),rfl,(by rw[hno];exact⟨0,by simp,.inl ⟨rfl,rfl,rfl⟩⟩)⟩
 skip
 have H:=H.borrow0 H3'
 obtain⟨avAd,cvAd,rfl⟩:=H.accShape (k:=3) rfl
 refine⟨_,Z,?_⟩
 refine pe 5 Z (q3 (W_seq (q2 (pe 2 Z (q3 (W_false Z (W_skip (N_K (q2 (pe 2 Z ?_))))))))))
 have H:=H.tF 4
 have H:=H.tF 4
 have H:=H.tF 4
 have H:=H.tF 4
 have H:=H.tF 4
 refine xc Z2 (i_treeOf_c _ _ H.sub _ _ _ _ _ _ _ _ _ _ _ _ hm3 hS3 hN3 hT3 hchk3 hNs3 hSn3 hdv3 _ hfr H.lent5) ?_
 rintro _ _ ⟨_,_,_,rfl,H4',⟨_,_,rfl,rfl,hO4⟩⟩
 have hS3:=hS3.up H4'.le
 have hN3:=hN3.up H4'.le
 have hchk3:=hchk3.up H4'.le
 have hNs3:=hNs3.up H4'.le
 have H:=H.borrow5 H4'
 obtain⟨_,hP4⟩:=hO4
 obtain⟨_,_,rfl⟩:=OwnS.shape hP4
 have hO4:=OIs.mk hP4
 refine⟨_,Z,?_⟩
 refine pe 5 Z (q3 (W_seq (q2 (pe 2 Z (q3 ?_)))))
 refine W_cond Z ?_ ?_
 ·intro hc5
  try simp only[nrm]at hc5
  refine q2 (pe 2 Z (q3 (W_ret (N_K_ret (rt2 results7 Z Z ?_)))))
  have H:=H.sel [] rfl
  have hno:Sp.StreamOf d fr tt=none:=Sp.so_no1 (by simpa using hc5)
  have H:=(H.addF).forget hG (by simp)
  exact⟨_,_,rfl,H,[],.slice none 0 0,(by rw[hno];rfl),rfl,(by rw[hno];exact⟨0,by simp,.inl ⟨rfl,rfl,rfl⟩⟩)⟩
 intro hc5'
 try simp only[nrm]at hc5'
 refine W_skip (N_K (q2 (pe 2 Z ?_)))
 have H:=H.tF 5
 have H:=H.tF 5
 have H:=H.tF 5
 have H:=H.tF 5
 have H:=H.tF 5
 refine xc Z2 (i_treeOf_c _ _ H.sub _ _ _ _ _ _ _ _ _ _ _ _ hm3 hS3 hN3 hT3 hchk3 hNs3 hSn3 hdv3 _ htt H.lent5) ?_
 rintro _ _ ⟨_,_,_,rfl,H6',⟨_,_,rfl,rfl,hO6⟩⟩
 have hS3:=hS3.up H6'.le
 have hN3:=hN3.up H6'.le
 have hchk3:=hchk3.up H6'.le
 have hNs3:=hNs3.up H6'.le
 have H:=H.borrow5 H6'
 obtain⟨_,hP6⟩:=hO6
 obtain⟨_,_,rfl⟩:=OwnS.shape hP6
 have hO6:=OIs.mk hP6
 refine⟨_,Z,?_⟩
 refine pe 5 Z (q3 (W_seq (q2 (pe 2 Z (q3 ?_)))))
 refine W_cond Z ?_ ?_
 ·intro hc7
  try simp only[nrm]at hc7
  refine q2 (pe 2 Z (q3 (W_ret (N_K_ret (rt2 results7 Z Z ?_)))))
  have H:=H.sel [] rfl
  have hno:Sp.StreamOf d fr tt=none:=Sp.so_no2 (by simpa using hc7)
  have H:=(H.addF).forget hG (by simp)
  exact⟨_,_,rfl,H,[],.slice none 0 0,(by rw[hno];rfl),rfl,(by rw[hno];exact⟨0,by simp,.inl ⟨rfl,rfl,rfl⟩⟩)⟩
 intro hc7'
 try simp only[nrm]at hc7'
 refine W_skip (N_K (q2 (pe 2 Z ?_)))
 have hnd9:=dm_nodup H (k:=6) rfl;obtain⟨_,H,hsg9,hsf9⟩:=H.keepF (k:=6) rfl (by simp);have hsr9:=(show OIs _ _ _ from hO4).rd hsf9 hnd9
 have hS3:=hS3.up hsg9
 have hN3:=hN3.up hsg9
 have hchk3:=hchk3.up hsg9
 have hNs3:=hNs3.up hsg9
 have hnd10:=dm_nodup H (k:=0) rfl;obtain⟨_,H,hsg10,hsf10⟩:=H.keepF (k:=0) rfl (by simp);have hsr10:=(show OIs _ _ _ from hO6).rd hsf10 hnd10
 have hS3:=hS3.up hsg10
 have hN3:=hN3.up hsg10
 have hchk3:=hchk3.up hsg10
 have hNs3:=hNs3.up hsg10
 have hsr9:=hsr9.up hsg10
 refine xc Z2 (i_changes_c _ _ H.sub _ _ hsr9 _ _ hsr10 (Sp.tree_len (Sp.ltD_valid hdv3 fr)) (Sp.tree_len (Sp.ltD_valid hdv3 tt))) ?_
 rintro _ _ ⟨G8,_,g8,rfl,hr8_0⟩
 have H:=H.grow g8
 have hS3:=hS3.up g8.le
 have hN3:=hN3.up g8.le
 have hchk3:=hchk3.up g8.le
 have hNs3:=hNs3.up g8.le
 obtain⟨_,_,rfl⟩:=hr8_0.shape;have hx_hr8_0:_≤1099511627776:=hr8_0.lim
 refine⟨_,Z,?_⟩
 have hchl:((Sp.chg (Sp.ltD d fr) (Sp.ltD d tt)).map Sp.chP).length≤24:=Sp.chL_len hdv3 fr tt
 refine aG Z (q1 (mV Z (lN Z ?_)))
 refine o_mkchan H underlying53 typeInfo55 Z Z (by have:Nat.ble 0 1=true:=rfl;show 16*_≤_;omega) oM ?_;intro c11 _ _ H
 refine aG Z (q3 (W_seq (q2 (mV Z (lN Z (mV Z (q3 (W_block ?_))))))))
 obtain⟨ln12,hln12,H⟩:=H.name (k:=1) rfl
 obtain⟨ln13,hln13,H⟩:=H.name (k:=6) rfl
 refine W_lp (hf:=(Sub.cons (t:=6) Z (Sub.cons (t:=7) Z (Sub.cons (t:=8) Z (Sub.cons (t:=13) Z (Sub.cons (t:=49) Z (Sub.cons (t:=50) Z Sub.nil))))))) (J:=fun M w m=>∃(k:Nat) (vs:List Value) (s1:Nat) (G:PH),M=[(51,.int .i64 (k:Int))]∧PLe G8 G∧Hp w0 G0 [] w G [chn c11 ((Sp.chg (Sp.ltD d fr) (Sp.ltD d tt)).map Sp.chP).length vs false s1 0,blk db3 (cl ln12 111),blk mb3 (.map es3 ck3),frag F3,acc 117 2 (.slice avAd sn3.length cvAd) sn3.length c3,frag FS3,blk b2 (cl ln13 27)]∧(k≤((Sp.chg (Sp.ltD d fr) (Sp.ltD d tt)).map Sp.chP).length∧CV chgW G vs (((Sp.chg (Sp.ltD d fr) (Sp.ltD d tt)).map Sp.chP).take k))∧m=(((Sp.chg (Sp.ltD d fr) (Sp.ltD d tt)).map Sp.chP).length-k)) (h0:=⟨0,[],0,_,Z,PLe.refl _,H,?inv,Z⟩) (round:=?round)
 case inv=>exact⟨by omega,.nil⟩
 case round =>
  rintro _ _ _ ⟨k,vs,s1,G14,rfl,hle14,H,hinv14,rfl⟩
  subst hln12
  subst hln13
  have hS3:=hS3.up hle14
  have hN3:=hN3.up hle14
  have hchk3:=hchk3.up hle14
  have hNs3:=hNs3.up hle14
  have hr8_0:=hr8_0.up hle14
  obtain⟨hk,hcv⟩:=hinv14;have hvl:=hcv.len;rw[List.length_take]at hvl
  refine q2 (pe 1 Z (q3 (W_seq ?_)))
  refine W_cond Z ?_ ?_
  ·intro hc15
   try simp only[nrm]at hc15
   refine W_skip (N_K (W_seq (W_block (q2 (iP k hr8_0 Z3 Z ?_)))));intro _ _ _ _ hz16 hE16 hrow16
   obtain⟨_,rfl⟩:=chgE.one hE16
   refine lP H hrow16 0 Z2 (aG Z (q3 (W_regionC [0,1,2] Z (RC_l Z (mV Z ?_)))))
   refine R_nil (N_C ?_)
   refine RC_l Z (mV Z ?_)
   refine R_nil (N_C ?_)
   refine c_send H 0 Z Z Z Z oM ?_;intro _ H
   refine RC_nil (N_B (N_K (W_region (aD Z2 (mV Z (R_nil ?_))))))
   refine N_lp (hJ:=⟨k+1,_,_,_,Z,hle14,H,?inv,Z⟩) (hm:=?hm)
   case hm=>omega
   case inv=>exact⟨by omega,by (rw[Sp.take_snoc' hz16];exact hcv.snoc hE16)⟩
  intro hc15'
  try simp only[nrm]at hc15'
  refine W_exit (N_K_exit (N_LP_exit (N_B_same (N_K (q2 (mV Z (o_close H 0 Z Z ?_)))))));intro _ H
  refine q1 (aG Z (q3 (W_seq (q2 (mV Z (q3 (W_block ?_)))))))
  have hcv0:CV chgW G14 vs ((Sp.chg (Sp.ltD d fr) (Sp.ltD d tt)).map Sp.chP):=(by have h0:k=((Sp.chg (Sp.ltD d fr) (Sp.ltD d tt)).map Sp.chP).length:=oM;rw[h0,List.take_length]at hcv;exact hcv)
  have H:=H.addNil 58 4
  have H:=H.addF
  obtain⟨ln21,hln21,H⟩:=H.name (k:=3) rfl
  obtain⟨ln22,hln22,H⟩:=H.name (k:=8) rfl
  refine W_lp (hf:=(Sub.cons (t:=8) Z (Sub.cons (t:=59) Z Sub.nil))) (J:=fun M w m=>∃(v:Value) (n:Nat) (cs:List Value) (xs:List (BPart)) (F:Fr) (k:Nat) (vq:List Value) (rq:Nat) (G:PH),M=[(16,v)]∧PLe G14 G∧Hp w0 G0 [] w G [frag F,acc 58 4 v n cs,chn c11 ((Sp.chg (Sp.ltD d fr) (Sp.ltD d tt)).map Sp.chP).length vq true s1 rq,blk db3 (cl ln21 111),blk mb3 (.map es3 ck3),frag F3,acc 117 2 (.slice avAd sn3.length cvAd) sn3.length c3,frag FS3,blk b2 (cl ln22 27)]∧(ChkF partO 4 cs xs F∧n=xs.length∧k≤((Sp.chg (Sp.ltD d fr) (Sp.ltD d tt)).map Sp.chP).length∧CV chgW G vq (((Sp.chg (Sp.ltD d fr) (Sp.ltD d tt)).map Sp.chP).drop k)∧xs=(((Sp.chg (Sp.ltD d fr) (Sp.ltD d tt)).map Sp.chP).take k).map (Sp.pcP d.store))∧m=(((Sp.chg (Sp.ltD d fr) (Sp.ltD d tt)).map Sp.chP).length-k)) (h0:=⟨_,_,_,[],[],0,vs,0,_,Z,PLe.refl _,H,?inv,Z⟩) (round:=?round)
  case inv=>exact⟨ChkF.nil,by first|rfl|simp|(simp;omega)|omega,(by exact⟨by omega,(by rw[List.drop_zero];exact hcv0),rfl⟩)⟩
  case round =>
   rintro _ _ _ ⟨v,n,cs,xs,F,k,vq,rq,_,rfl,hle23,H,hinv23,rfl⟩
   subst hln21
   subst hln22
   have hS3:=hS3.up hle23
   have hN3:=hN3.up hle23
   have hchk3:=hchk3.up hle23
   have hNs3:=hNs3.up hle23
   obtain⟨hchk23_0,_,hinv23⟩:=hinv23
   obtain⟨_,_,rfl⟩:=H.accShape (k:=1) rfl
   obtain⟨hk,hcv,hxs⟩:=hinv23;have hxl:xs.length=k:=(by rw[hxs,List.length_map,List.length_take];omega)
   refine W_seq (W_regionC [0,1] Z ?_)
   rcases vq with _|⟨v24,vs24⟩
   ·skip
    refine c_recvz H 2 Z Z Z Z underlying53 zeroValue55 ?_
    have hend:=hcv.nil_len
    refine RC_l Z (pe 1 Z ?_)
    refine R_nil (N_C ?_)
    refine RC_nil (N_K (W_seq (W_false Z (W_exit (N_K_exit (N_LP_exit (N_B_same (N_K (q2 (pe 3 Z (q3 (W_ret (rt2 results7 Z Z ?_)))))))))))))
    have H:=H.tF 1
    obtain⟨_,H,hOw2⟩:=H.ownF hchk23_0 aN aN
    have H:=H.sel [0] rfl
    have hxe:xs=((Sp.chg (Sp.ltD d fr) (Sp.ltD d tt)).map Sp.chP).map (Sp.pcP d.store):=(by rw[hxs,List.take_of_length_le oM])
    have hyes:Sp.StreamOf d fr tt=some xs:=(by rw[hxe];exact Sp.so_yes hdv3 (by simpa using hc5') (by simpa using hc7'))
    have H:=H.forget hG (by simp)
    exact⟨_,_,rfl,H,_,_,(by rw[hyes];rfl),rfl,(by rw[hyes];exact(show OPt _ _ _ from⟨_,hOw2⟩))⟩
   skip
   obtain⟨z24,hz24,hV24,hcw⟩:=hcv.pop;clear hcv;have hcv:=hcw;clear hcw;have hV24:chgX _ z24 [v24]:=hV24;have hck24:=chgE.kind hV24
   refine c_recv H 2 Z Z Z Z underlying53 zeroValue55 ?_;intro _ H
   refine RC_l Z (pe 1 Z ?_)
   refine R_nil (N_C ?_)
   refine RC_nil (N_K (W_seq (W_true Z (W_skip (N_K (W_block (q2 (pe 2 Z (q1 (pe 2 Z ?_))))))))))
   have H:=H.tF 7
   have H:=H.tF 7
   have H:=H.tF 7
   have H:=H.tF 7
   have H:=H.tF 7
   refine xc Z2 (i_partOf_c _ _ H.sub _ _ _ _ _ _ _ _ _ _ _ _ hm3 hS3 hN3 hT3 hchk3 hNs3 hSn3 hdv3 _ _ hV24 H.lent5 (Sp.ch_ids hdv3 hz24).1 (Sp.ch_dir hdv3 hz24)) ?_
   rintro _ _ ⟨_,_,_,rfl,H25',⟨F25,_,rfl,rfl,hO25⟩⟩
   have hcv:=hcv.up H25'.le
   have hle23:=hle23.trans H25'.le
   have H:=H.borrow5 H25'
   obtain⟨_,_,_,rfl,hj25,hi25,ho25⟩:=hO25
   refine⟨_,Z,?_⟩
   refine pe 3 Z (xal H Z ?_);intro _ _ _ H
   refine xst 0 H Z8 ?_;intro _ H
   refine aG Z (q3 (W_seq (q2 (pe 2 Z (q3 (W_false Z (W_skip (N_K (W_region (mV Z (lA 0 4 H Z4 (xbs H Z7 ?_))))))))))));intro _ _ _ H
   refine o_append1 8 H (sz:=4) (bytes:=56) underlying30 typeInfo58 ⟨_,Z,Z⟩ Z Z Z Z Z Z Z Z Z Z oM Z ?_;intro _ _ H
   have hchk29:=hchk23_0.snoc (show partO F25 (Sp.pcP d.store z24) _ from⟨_,_,_,rfl,hj25,hi25,ho25⟩) rfl
   have H:=H.tF 1
   have H:=H.tF 7
   have H:=H.mergeF
   obtain⟨_,_,rfl⟩:=H.accShape (k:=7) rfl
   refine aG Z (R_nil (N_B ?_))
   have H:=H.sel [0,7,8,2,3,4,5,6,9] rfl
   refine N_lp (hJ:=⟨_,_,_,(xs++[(Sp.pcP d.store z24)]),(F++F25),k+1,_,_,_,Z,hle23,H,?inv,Z⟩) (hm:=?hm)
   case hm=>have:=(List.getElem?_eq_some_iff.1 hz24).1;omega
   case inv=>exact⟨hchk29,aN,(by exact⟨(by have:=(List.getElem?_eq_some_iff.1 hz24).1;omega),hcv,by rw[hxs];exact Sp.pc_snoc hz24 rfl⟩)⟩
theorem lStreamAway_c (w0:World)(G0:PH)(hG:PSub G0 w0)(vcode:Value)(code:List (UInt8))(hcode:RdU G0 vcode code) :
  Calls Tryz.prog 3 #[vcode] w0 (Rets w0 (.bool true)):=by
 obtain⟨acode,kcode,rfl⟩:=hcode.shape
 have hlimcode:code.length≤1099511627776:=hcode.lim
 have H:=Hp.init hG
 refine calls_of_W (l:=[.slice acode code.length kcode]) func3 Z ntmps3 Z (q2 (aG Z (q3 (W_seq (q2 (mV Z (lN Z (pe 1 Z (q3 ?_)))))))))
 refine W_cond Z ?_ ?_
 ·intro hc1
  try simp only[nrm]at hc1
  refine q2 (aG Z (q3 (W_ret (N_K_ret (rt1 results3 Z ?_)))))
  first|exact H.rets rfl|exact H.rets (congrArg Value.bool (by simp_all))
 intro hc1'
 try simp only[nrm]at hc1'
 refine W_skip (N_K (q2 (mV Z (xc Z2 (DrawStreamOf_c _ _ H.sub _ _ hcode) ?_))))
 rintro _ _ ⟨_,_,g2,rfl,⟨_,uV,uP,uT,rfl,hV,hP0,hT0⟩⟩
 have H:=H.grow g2
 obtain⟨_,_,_,_,_,_,_,_,_,rfl,hr2,hr2',hr2'',⟨_,_⟩,⟨_,_⟩,_,_⟩:=ox hV
 refine⟨_,Z,?_⟩
 refine pe 4 Z (xal H Z ?_);intro _ _ _ H
 refine xst 0 H Z8 ?_;intro _ H
 refine pe 2 Z (q1 (lA 0 3 H Z4 (pe 2 Z (xc Z2 (i_StreamOf_c _ _ H.sub _ uV ⟨_,_,_,_,_,_,_,_,_,Z,hr2,hr2',hr2''⟩ _ hP0 _ hT0) ?_))))
 rintro _ _ ⟨_,_,rfl,H5',⟨_,_,rfl,rfl,hO5⟩⟩
 have H:=H.readers (fp:=[]) (by simp) (PLe.refl _) H5'
 obtain⟨_,hP5⟩:=hO5
 obtain⟨_,_,rfl⟩:=OwnS.shape hP5
 have hO5:=OPt.mk hP5
 refine⟨_,Z,?_⟩
 refine pe 5 Z (q1 (lA 1 3 H Z4 (pe 2 Z (xc Z2 (StreamOf_c _ _ H.sub _ uV ⟨_,_,_,_,_,_,_,_,_,Z,hr2,hr2',hr2''⟩ _ hP0 _ hT0) ?_))))
 rintro _ _ ⟨_,_,_,g6,rfl,⟨_,rfl,⟨_,rfl,hchk6⟩⟩,hp6,hq6,hs6⟩
 have H:=H.growO g6 hp6 hq6 hs6;obtain⟨_,_,rfl⟩:=H.accShape (k:=0) rfl
 have hr2:=hr2.up g6.le
 have hr2':=hr2'.up g6.le
 have hr2'':=hr2''.up g6.le
 refine⟨_,Z,?_⟩
 have hsl:=Sp.so_len uV uP uT
 refine pe 5 Z (q3 (W_seq (q2 (pe 2 Z (o_bneq_same underlying4 Z Z Z (pe 3 Z (gR Z (xr H Z2 (w_sameParts_c _ _ (H.lendSubL [0,1]) _ _ (H.lendOPt (k:=1) (ks:=[0,1]) Z Z hO5) _ _ (H.lendRdL (k:=0) (ks:=[0,1]) Z Z hchk6 aN aN) Z) ?_))))))));intro _ H
 refine pe 7 Z ?_
 refine R_case (t:=52) Z ?_ ?_
 ·intro hc8
  try simp only[nrm]at hc8
  refine pe 3 Z (q3 (W_true Z (q2 (pe 2 Z (o_beql_same underlying4 Z Z Z (pe 3 Z (gR Z (xr H Z2 (w_sameParts_c _ _ (H.lendSubL [0,1]) _ _ (H.lendOPt (k:=1) (ks:=[0,1]) Z Z hO5) _ _ (H.lendRdL (k:=0) (ks:=[0,1]) Z Z hchk6 aN aN) Z) ?_))))))));intro _ H
  refine pe 2 Z (q3 (W_ret (N_K_ret (rt1 results3 Z ?_))))
  first|exact H.rets rfl|exact H.rets (congrArg Value.bool (by simp_all))
 intro hc8'
 try simp only[nrm]at hc8'
 refine pe 1 Z (gR Z (o_seql Z Z Z (pe 1 Z (q3 ?_))))
 refine W_cond Z ?_ ?_
 ·intro hc10
  try simp only[nrm]at hc10
  refine q2 (pe 2 Z (o_beql_same underlying4 Z Z Z (pe 3 Z (gR Z (xr H Z2 (w_sameParts_c _ _ (H.lendSubL [0,1]) _ _ (H.lendOPt (k:=1) (ks:=[0,1]) Z Z hO5) _ _ (H.lendRdL (k:=0) (ks:=[0,1]) Z Z hchk6 aN aN) Z) ?_)))));intro _ H
  refine pe 2 Z (q3 (W_ret (N_K_ret (rt1 results3 Z ?_))))
  first|exact H.rets rfl|exact H.rets (congrArg Value.bool (by simp_all))
 intro hc10'
 try simp only[nrm]at hc10'
 have hne:uP≠[]:=by simpa using hc10'
 obtain⟨_,hu2⟩:=Option.isSome_iff_exists.1 (show(Sp.StreamOf uV uP uT).isSome=true by simpa using hc8')
 obtain⟨qa,qx,qy,qha,qhx,qhr,qht,qhs⟩:=Sp.stream_away hu2 hne
 have qA:((Sp.SnapBack uV uP).getD ⟨[],[],[]⟩)=qa:=by (rw[qha];rfl)
 have qX:((Sp.StreamOf uV uP []).getD [])=qx:=by (rw[qhx];rfl)
 have qR:Sp.StreamRun ((Sp.SnapBack uV uP).getD ⟨[],[],[]⟩) ((Sp.StreamOf uV uP []).getD [])=some qy:=by (rw[qA,qX];exact qhr)
 have qY:((Sp.StreamRun ((Sp.SnapBack uV uP).getD ⟨[],[],[]⟩) ((Sp.StreamOf uV uP []).getD [])).getD ⟨[],[],[]⟩)=qy:=by (rw[qR];rfl)
 have qh1:(Sp.SnapBack uV uP).isSome=true:=by (rw[qha];rfl)
 have qh2:(Sp.StreamOf uV uP []).isSome=true:=by (rw[qhx];rfl)
 have qh3:(Sp.StreamRun ((Sp.SnapBack uV uP).getD ⟨[],[],[]⟩) ((Sp.StreamOf uV uP []).getD [])).isSome=true:=by (rw[qR];rfl)
 have qh4:((Sp.StreamRun ((Sp.SnapBack uV uP).getD ⟨[],[],[]⟩) ((Sp.StreamOf uV uP []).getD [])).getD ⟨[],[],[]⟩).tree.length=0:=by (rw[qY,qht];rfl)
 have hsn:((Sp.StreamRun ((Sp.SnapBack uV uP).getD ⟨[],[],[]⟩) ((Sp.StreamOf uV uP []).getD [])).getD ⟨[],[],[]⟩).snaps=uV.snaps:=by (rw[qY];exact qhs)
 refine W_skip (N_K (q2 (lA 2 3 H Z4 (mV Z (xc Z2 (i_SnapBack_c _ _ H.sub _ uV ⟨_,_,_,_,_,_,_,_,_,Z,hr2,hr2',hr2''⟩ _ hP0) ?_)))))
 rintro _ _ ⟨_,_,rfl,H12',⟨_,_,_,_,_,_,rfl,rfl,ho112,ho212,ho312⟩⟩
 have H:=H.readers (fp:=[]) (by simp) (PLe.refl _) H12'
 obtain⟨_,p112⟩:=ho112
 obtain⟨_,_,rfl⟩:=OwnS.shape p112
 obtain⟨_,p212⟩:=ho212
 obtain⟨_,_,rfl⟩:=OwnS.shape p212
 obtain⟨_,p312⟩:=ho312
 obtain⟨_,_,rfl⟩:=OwnS.shape p312
 refine⟨_,Z,?_⟩
 refine pe 3 Z (xal H Z ?_);intro _ _ _ H
 refine xst 0 H Z8 ?_;intro _ H
 refine aG Z (q1 (lA 6 3 H Z4 (mV Z ?_)))
 refine xc Z2 (i_StreamOf_c _ _ H.sub _ uV ⟨_,_,_,_,_,_,_,_,_,Z,hr2,hr2',hr2''⟩ _ hP0 _ (by (first|assumption|(refine Sp.l5Parent_lim ?_;assumption)|(simp;done)|(simp;omega)|omega))) ?_
 rintro _ _ ⟨_,_,rfl,H15',⟨_,_,rfl,rfl,hO15⟩⟩
 have H:=H.readers (fp:=[]) (by simp) (PLe.refl _) H15'
 obtain⟨_,hP15⟩:=hO15
 obtain⟨_,_,rfl⟩:=OwnS.shape hP15
 have hO15:=OPt.mk hP15
 refine⟨_,Z,?_⟩
 refine pe 5 Z (q1 (lA 1 3 H Z4 (mV Z (xc Z2 (i_StreamRun_c _ _ (H.lendSubL [0,2,3,4]) _ ((Sp.SnapBack uV uP).getD ⟨[],[],[]⟩) ⟨_,_,_,_,_,_,_,_,_,Z,(H.lendOHs (k:=2) (ks:=[0,2,3,4]) Z Z ⟨_,p112⟩),(H.lendOIs (k:=3) (ks:=[0,2,3,4]) Z Z ⟨_,p212⟩),(H.lendOSn (k:=4) (ks:=[0,2,3,4]) Z Z ⟨_,p312⟩)⟩ _ _ (H.lendOPt (k:=0) (ks:=[0,2,3,4]) Z Z hO15)) ?_))))
 rintro _ _ ⟨_,_,rfl,H16',⟨_,_,_,_,_,_,rfl,rfl,ho116,ho216,ho316⟩⟩
 have H:=H.readersL H16'
 obtain⟨_,p116⟩:=ho116
 obtain⟨_,_,rfl⟩:=OwnS.shape p116
 obtain⟨_,p216⟩:=ho216
 obtain⟨_,_,rfl⟩:=OwnS.shape p216
 obtain⟨_,p316⟩:=ho316
 obtain⟨_,_,rfl⟩:=OwnS.shape p316
 refine⟨_,Z,?_⟩
 refine pe 3 Z (xal H Z ?_);intro _ _ _ H
 refine xst 0 H Z8 ?_;intro _ H
 refine aG Z (q1 (pe 2 Z ?_))
 refine R_case (t:=83) Z ?_ ?_
 ·intro hc19
  try simp only[nrm]at hc19
  refine pe 3 Z ?_
  refine R_case (t:=86) Z ?_ ?_
  ·intro hc20
   try simp only[nrm]at hc20
   refine pe 3 Z ?_
   refine R_case (t:=89) Z ?_ ?_
   ·intro hc21
    try simp only[nrm]at hc21
    refine gR Z (fA 1 Z (gR Z (lB 0 H Z3 (gR Z (lN Z (pe 3 Z ?_))))))
    refine R_case (t:=95) Z ?_ ?_
    ·intro hc22
     try simp only[nrm]at hc22
     refine gR Z (fA 2 Z (gR Z (lB 0 H Z3 (gR Z (fA 2 Z (gR Z (lB 11 H Z3 (gR Z (xr H Z2 (w_sameSnaps_c _ _ (H.lendSubL [3]) _ _ (H.lendOSn (k:=3) (ks:=[3]) Z Z ⟨_,p316⟩) _ _ (hr2''.up (PPlus.le _ _ _)) hsn) ?_)))))))));intro _ H
     refine pe 2 Z (q3 (W_ret (rt1 results3 Z ?_)))
     first|exact H.rets rfl|exact H.rets (congrArg Value.bool (by simp_all))
    intro hc22'
    try simp only[nrm]at hc22'
    refine pe 7 Z (q3 (W_ret (rt1 results3 Z ?_)))
    exact absurd (show False by first|(simp_all;done)|omega) id
   intro hc21'
   try simp only[nrm]at hc21'
   refine pe 13 Z (q3 (W_ret (rt1 results3 Z ?_)))
   exact absurd (show False by first|(simp_all;done)|omega) id
  intro hc20'
  try simp only[nrm]at hc20'
  refine pe 16 Z (q3 (W_ret (rt1 results3 Z ?_)))
  exact absurd (show False by first|(simp_all;done)|omega) id
 intro hc19'
 try simp only[nrm]at hc19'
 refine pe 19 Z (q3 (W_ret (rt1 results3 Z ?_)))
 exact absurd (show False by first|(simp_all;done)|omega) id
end Go.Proofs.Tst
