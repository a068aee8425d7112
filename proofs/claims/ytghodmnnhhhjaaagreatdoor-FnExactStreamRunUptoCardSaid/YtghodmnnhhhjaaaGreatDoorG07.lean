/- Part 7 of the proof: contracts of functions of the program. Conditions: none. -/
import Derived.Test.YtghodmnnhhhjaaaGreatDoorProg
import Derived.Test.YtghodmnnhhhjaaaGreatDoorG02
import Derived.Test.YtghodmnnhhhjaaaGreatDoorG03
import Derived.Test.YtghodmnnhhhjaaaGreatDoorG04
import Derived.Test.YtghodmnnhhhjaaaGreatDoorG06
import Derived.Test.YtghodmnnhhhjaaaGreatDoorG05
set_option linter.all false
set_option maxRecDepth 100000
set_option maxHeartbeats 8000000
namespace Go.Proofs.Tst
open Go Fw Tryz
theorem i_makePart_c (w0:World)(G0:PH)(hG:PSub G0 w0)(db mb:Nat)(es:Array MapEntry)(ck:Nat)(xs:List (Int×Value))(T:Nd)(FT:Fr)(sv:Value)(sn:List (Bs×Nd))(c:List Value)(FSq:Fr)(d:BDisk)(hm:MapIs (Value.int .i64) es ck xs)(hS:StR G0 xs d.store)(hN:NdO 90 84 G0 T FT)(hT:Nd.TOK T d.tree)(hchk:Chk osE 2 G0 c sn)(hNs:NdsO 90 84 G0 (sn.map (·.2)) FSq)(hSn:SnOK sn d.snaps)(hdv:Sp.DiskValid d=true)(cpart:List Value)(part:BPart)(hpart:partE G0 part cpart)(hLent:Lent w0 G0 [blk db (cl [.int .i32 0,.int .u32 0,.map (some mb),.pointer (some ⟨T.b,0,none⟩),sv] 161),blk mb (.map es ck),frag FT,acc 164 2 sv sn.length c,frag FSq])(hok:Sp.partOk part=true) :
  Calls Tryz.prog 40 #[.pointer (some ⟨db,0,none⟩),.agg cpart.toArray] w0 (RetM w0 G0 (fps [blk db (cl [.int .i32 0,.int .u32 0,.map (some mb),.pointer (some ⟨T.b,0,none⟩),sv] 161),blk mb (.map es ck),frag FT,acc 164 2 sv sn.length c,frag FSq]) (fun G' v Bs=>∃(es':Array MapEntry) (ck':Nat) (xs':List (Int×Value)) (F':Fr) (T':Nd) (sv':Value) (sn':List (Fw.Bs×Nd)) (c':List Value) (FSq':Fr) (L':List BHeld),v= .bool (Sp.mkPart d part).isSome∧Bs=[blk db (cl [.int .i32 0,.int .u32 0,.map (some mb),.pointer (some ⟨T'.b,0,none⟩),sv'] 161),blk mb (.map es' ck'),frag F',acc 164 2 sv' sn'.length c',frag FSq']∧MapIs (Value.int .i64) es' ck' xs'∧StR G' xs' L'∧Sp.VH L'∧NdO 90 84 G' T' F'∧Chk osE 2 G' c' sn'∧NdsO 90 84 G' (sn'.map (·.2)) FSq'∧∀d',Sp.mkPart d part=some d'→L'=d'.store∧Nd.TOK T' d'.tree∧SnOK sn' d'.snaps)):=by
 obtain⟨_,_,_,rfl,_,hi1,hr1⟩:=hpart;have hy_hi1:_≤16777216:=hi1;have hn_hr1:=hr1.len;have hx_hr1:_≤1099511627776:=hr1.lim
 have H:Hp w0 G0 (fps [blk db (cl [.int .i32 0,.int .u32 0,.map (some mb),.pointer (some ⟨T.b,0,none⟩),sv] 161),blk mb (.map es ck),frag FT,acc 164 2 sv sn.length c,frag FSq]) w0 G0 [blk db (cl [.int .i32 0,.int .u32 0,.map (some mb),.pointer (some ⟨T.b,0,none⟩),sv] 161),blk mb (.map es ck),frag FT,acc 164 2 sv sn.length c,frag FSq]:=hLent.hp
 obtain⟨_,_,rfl⟩:=H.accShape (k:=3) rfl;have hVd:=Sp.valid_iff.1 (Sp.dv_parts.1 hdv).1;have hTv:=(Sp.dv_parts.1 hdv).2.1;have hTc:=hT.cnt;have hTl:=Sp.tree_len hTv;have hsnl:=hSn.len;have hsn6:=(Sp.dv_parts.1 hdv).2.2.1
 have hHd:=Sp.DHol.hol (ts:=d.snaps.map (·.tree)) (Sp.dd_iff.1 hdv).2
 refine calls_of_W (l:=[.pointer (some ⟨db,0,none⟩),_]) func40 Z ntmps40 Z (q2 (o_box H Z Z Z ?_));intro _ _ _ H
 refine aG Z (q3 (W_seq (W_drawK [0,1] 9 H kR Z ?_)));intro _ H;have hd3:=PLe.refl G0
 refine dE 0 Z2 (dE 1 Z2 (dF 2 2 Z2 (dF 3 1 Z2 (dB 4 1 Z4 (dF 5 1 Z2 (dB 6 0 Z4 (r1 7 Z (xc Z2 (i_find_n_c _ _ (H.lendSubL [3]) _ ((H.lendN (k:=3) (ks:=[3]) Z Z hN).at (show Nd.at_ T []=some T from Z)) _ hi1 hT.wf) ?_))))))))
 rintro _ _ ⟨_,rfl,ew4,⟨hfi4,rfl⟩|⟨_,hfi4,rfl⟩⟩
 ·skip
  have H:=H.step ew4;refine⟨_,rfl,?_⟩
  refine q4 H hd3 (dE 8 Z2 (rz (N_K (W_seq (q2 (fA 0 Z (lB 0 H Z3 (q3 (W_block (q2 (pe 2 Z (q3 ?_))))))))))))
  refine W_cond Z ?_ ?_
  ·intro hc5
   try simp only[nrm]at hc5
   refine W_seq (q2 (mV Z (o_nenil_ptr underlying84 Z Z Z (q3 (W_false Z (W_skip (N_K (W_seq (q2 (fA 2 Z (lB 0 H Z3 (q3 ?_))))))))))))
   refine W_cond Z ?_ ?_
   ·intro hc6
    try simp only[nrm]at hc6
    refine q2 (mV Z (fA 1 Z (lB 0 H Z3 ?_)))
    have H:=H.tF 5
    have H:=H.tF 5
    have H:=H.tF 5
    have H:=H.tF 5
    have H:=H.tF 5
    refine xc Z2 (i_dmakeDir_c _ _ H.sub _ _ _ _ _ _ _ _ _ _ _ _ hm hS hN hT hchk hNs hSn hdv _ hi1 H.lent5) ?_
    rintro _ _ ⟨_,_,_,rfl,H7',⟨_,_,_,_,_,_,_,_,_,_,rfl,rfl,hm7,hS7,hV7,hN7,hchk7,hNs7,hd7⟩⟩
    have H:=H.borrow5 H7'
    obtain⟨avAd,cvAd,rfl⟩:=H.accShape (k:=3) rfl
    refine⟨_,Z,?_⟩
    refine aG Z (q3 (W_ret (N_K_ret (N_B_ret (N_K_ret (rt1 results40 Z ?_))))))
    have H:=H.sel [0,1,2,3,4] rfl
    have hyes:=Sp.mp1_dir hdv hT hok hc5 hfi4 (by simpa using hc6)
    exact H.retM ⟨_,_,_,_,_,_,_,_,_,_,by (rw[hyes];rfl),rfl,hm7,hS7,hV7,hN7,hchk7,hNs7,(by rw[hyes];exact hd7)⟩
   intro hc6'
   try simp only[nrm]at hc6'
   refine W_skip (N_K (q2 (mV Z (fA 1 Z (lB 0 H Z3 (fA 3 Z (lB 0 H Z3 ?_)))))))
   have H:=H.tF 5
   have H:=H.tF 5
   have H:=H.tF 5
   have H:=H.tF 5
   have H:=H.tF 5
   refine xc Z2 (i_dwrite_c _ _ H.sub _ _ _ _ _ _ _ _ _ _ _ _ hm hS hN hT hchk hNs hSn hdv _ hi1 _ _ hr1 H.lent5) ?_
   rintro _ _ ⟨_,_,_,rfl,H8',⟨_,_,_,_,_,_,_,_,_,_,rfl,rfl,hm8,hS8,hV8,hN8,hchk8,hNs8,hd8⟩⟩
   have H:=H.borrow5 H8'
   obtain⟨avAd,cvAd,rfl⟩:=H.accShape (k:=3) rfl
   refine⟨_,Z,?_⟩
   refine aG Z (q3 (W_ret (N_B_ret (N_K_ret (rt1 results40 Z ?_)))))
   have H:=H.sel [0,1,2,3,4] rfl
   have hyes:=Sp.mp1_file hT hc5 hfi4 (by simpa using hc6')
   exact H.retM ⟨_,_,_,_,_,_,_,_,_,_,by (rw[hyes];rfl),rfl,hm8,hS8,hV8,hN8,hchk8,hNs8,(by rw[hyes];exact hd8)⟩
  intro hc5'
  try simp only[nrm]at hc5'
  refine q2 (pe 2 Z (q3 ?_))
  refine W_cond Z ?_ ?_
  ·intro hc9
   try simp only[nrm]at hc9
   refine W_seq (W_drawK [0] 18 H kR Z ?_);intro _ H;have hd10:=PLe.refl G0
   refine dE 0 Z2 (RD_t 1 Z kR Z (fun _ hK=>v_nenil_ptr underlying84 Z Z) (dE 2 Z2 (dE 3 Z2 (dE 4 Z2 (dE 5 Z2 (dE 6 Z2 (dE 7 Z2 (dE 8 Z2 (dE 9 Z2 (dE 10 Z2 (dE 11 Z2 (dE 12 Z2 (dE 13 Z2 (dE 14 Z2 (dE 15 Z2 ?_)))))))))))))))
   refine dE 16 Z2 (dE 17 Z2 (rz (N_K (W_ret (N_B_ret (N_K_ret (rt1 results40 Z ?_)))))))
   have H:=H.sel [1,2,3,4,5] rfl
   have hno:Sp.mkPart d part=none:=Sp.mp2_no hT hc9 hfi4
   exact H.retM ⟨_,_,_,_,T,_,sn,_,_,d.store,congrArg Value.bool (by (rw[hno];rfl)),rfl,hm,hS,hVd,hN,hchk,hNs,fun d2 h=>(by rw[hno]at h;cases h)⟩
  intro hc9'
  try simp only[nrm]at hc9'
  refine W_skip (N_B (N_K (q2 (mV Z (o_nenil_ptr underlying84 Z Z Z (pe 16 Z (q3 (W_ret (rt1 results40 Z ?_)))))))))
  have H:=H.sel [1,2,3,4,5] rfl
  have hno:Sp.mkPart d part=none:=Sp.mp3_no hT hok hc5' hc9' hfi4
  exact H.retM ⟨_,_,_,_,T,_,sn,_,_,d.store,congrArg Value.bool (by (rw[hno];rfl)),rfl,hm,hS,hVd,hN,hchk,hNs,fun d2 h=>(by rw[hno]at h;cases h)⟩
 skip
 have H:=H.step ew4;refine⟨_,rfl,?_⟩
 refine q4 H hd3 (dE 8 Z2 (rz (N_K (W_seq (q2 (fA 0 Z (lB 0 H Z3 (q3 (W_block (q2 (pe 2 Z (q3 ?_))))))))))))
 refine W_cond Z ?_ ?_
 ·intro hc11
  try simp only[nrm]at hc11
  refine W_seq (q2 (mV Z (o_nenil_ptr underlying84 Z Z Z (q3 (W_true Z (q2 (aG Z (q3 (W_ret (N_K_ret (N_B_ret (N_K_ret (rt1 results40 Z ?_)))))))))))))
  have H:=H.sel [1,2,3,4,5] rfl
  have hno:Sp.mkPart d part=none:=Sp.mp1_no hT hc11 hfi4
  exact H.retM ⟨_,_,_,_,T,_,sn,_,_,d.store,congrArg Value.bool (by (rw[hno];rfl)),rfl,hm,hS,hVd,hN,hchk,hNs,fun d2 h=>(by rw[hno]at h;cases h)⟩
 intro hc11'
 try simp only[nrm]at hc11'
 refine q2 (pe 2 Z (q3 ?_))
 refine W_cond Z ?_ ?_
 ·intro hc12
  try simp only[nrm]at hc12
  refine W_seq (W_drawK [0] 18 H kR Z ?_);intro _ H;have hd13:=PLe.refl G0
  refine dE 0 Z2 (RD_t 1 Z kR Z (fun _ hK=>v_nenil_ptr underlying84 Z Z) (dE 2 Z2 (dE 3 Z2 (dE 4 Z2 (dF 5 1 Z2 (dF 7 2 Z2 (dB 8 0 Z4 (r1 6 Z (gR Z ?_)))))))))
  obtain⟨_,_,_,_,_,_,_,hpr14,_,_⟩:=((H.lendN (k:=3) (ks:=[3]) rfl rfl hN).at (Nd.find_at_ hfi4)).open
  refine o_load_D (H.lendSubL [3]) isAgg4 Z Z (hpr14 1 _ Z) (q4 H hd13 (RD_tg 9 Z kR Z (yl Z Z) (fun _ hK=>v_beql underlying4 Z Z) (dE 10 Z2 (dE 11 Z2 ?_))))
  refine RD_case (t:=45) Z ?_ ?_
  ·intro hc15
   try simp only[nrm]at hc15
   refine dE 12 Z2 (dF 13 1 Z2 (dB 14 0 Z4 (r1 15 Z (gR Z ?_))))
   have H:=H.tF 5
   have H:=H.tF 5
   have H:=H.tF 5
   have H:=H.tF 5
   have H:=H.tF 5
   refine xc Z2 (i_dremove_c _ _ H.sub _ _ _ _ _ _ _ _ _ _ _ _ hm hS hN hT hchk hNs hSn hdv _ hi1 H.lent5) ?_
   rintro _ _ ⟨_,_,_,rfl,H16',⟨_,_,_,_,_,_,_,_,_,_,rfl,rfl,hm16,hS16,hV16,hN16,hchk16,hNs16,hd16⟩⟩
   have hd13:=hd13.trans H16'.le
   have H:=H.borrow5 H16'
   obtain⟨avAd,cvAd,rfl⟩:=H.accShape (k:=3) rfl
   refine⟨_,Z,?_⟩
   refine q4 H hd13 (dE 16 Z2 (dE 17 Z2 (rz (N_K (W_ret (N_B_ret (N_K_ret (rt1 results40 Z ?_))))))))
   have H:=H.sel [0,1,2,3,4] rfl
   have hyes:=Sp.mp2_yes hdv hT hok hc12 hfi4 (by simpa using hc15)
   exact H.retM ⟨_,_,_,_,_,_,_,_,_,_,by (rw[hyes];rfl),rfl,hm16,hS16,hV16,hN16,hchk16,hNs16,(by rw[hyes];exact hd16)⟩
  intro hc15'
  try simp only[nrm]at hc15'
  refine dE 12 Z2 (dE 13 Z2 (dE 14 Z2 (dE 15 Z2 (dE 16 Z2 (dE 17 Z2 (rz (N_K (W_ret (N_B_ret (N_K_ret (rt1 results40 Z ?_)))))))))))
  have H:=H.sel [1,2,3,4,5] rfl
  have hno:Sp.mkPart d part=none:=Sp.mp2_dir hdv hT hc12 hfi4 (by simpa using hc15')
  exact H.retM ⟨_,_,_,_,T,_,sn,_,_,d.store,congrArg Value.bool (by (rw[hno];rfl)),rfl,hm,hS,hVd,hN,hchk,hNs,fun d2 h=>(by rw[hno]at h;cases h)⟩
 intro hc12'
 try simp only[nrm]at hc12'
 refine W_skip (N_B (N_K (q2 (mV Z (o_nenil_ptr underlying84 Z Z Z (pe 3 Z (gR Z (fA 1 Z (gR Z ?_)))))))))
 obtain⟨_,_,_,_,_,_,_,hpr17,_,_⟩:=((H.lendN (k:=3) (ks:=[3]) rfl rfl hN).at (Nd.find_at_ hfi4)).open
 refine o_load_D (H.lendSubL [3]) isAgg4 Z Z (hpr17 1 _ Z) (pe 3 Z ?_)
 refine R_case (t:=60) Z ?_ ?_
 ·intro hc18
  try simp only[nrm]at hc18
  refine pe 1 Z (gR Z (fA 1 Z (gR Z (lB 0 H Z3 (gR Z (fA 3 Z (gR Z (lB 0 H Z3 (gR Z ?_)))))))))
  have H:=H.tF 5
  have H:=H.tF 5
  have H:=H.tF 5
  have H:=H.tF 5
  have H:=H.tF 5
  refine xc Z2 (i_dwrite_c _ _ H.sub _ _ _ _ _ _ _ _ _ _ _ _ hm hS hN hT hchk hNs hSn hdv _ hi1 _ _ hr1 H.lent5) ?_
  rintro _ _ ⟨_,_,_,rfl,H19',⟨_,_,_,_,_,_,_,_,_,_,rfl,rfl,hm19,hS19,hV19,hN19,hchk19,hNs19,hd19⟩⟩
  have H:=H.borrow5 H19'
  obtain⟨avAd,cvAd,rfl⟩:=H.accShape (k:=3) rfl
  refine⟨_,Z,?_⟩
  refine pe 2 Z (q3 (W_ret (rt1 results40 Z ?_)))
  have H:=H.sel [0,1,2,3,4] rfl
  have hyes:=Sp.mp3_file hdv hT hok hc11' hc12' hfi4 (by simpa using hc18)
  exact H.retM ⟨_,_,_,_,_,_,_,_,_,_,by (rw[hyes];rfl),rfl,hm19,hS19,hV19,hN19,hchk19,hNs19,(by rw[hyes];exact hd19)⟩
 intro hc18'
 try simp only[nrm]at hc18'
 refine pe 8 Z (q3 (W_ret (rt1 results40 Z ?_)))
 have H:=H.sel [1,2,3,4,5] rfl
 have hno:Sp.mkPart d part=none:=Sp.mp3_dir hdv hT hok hc11' hc12' hfi4 (by simpa using hc18')
 exact H.retM ⟨_,_,_,_,T,_,sn,_,_,d.store,congrArg Value.bool (by (rw[hno];rfl)),rfl,hm,hS,hVd,hN,hchk,hNs,fun d2 h=>(by rw[hno]at h;cases h)⟩
theorem i_inOrder_c (w0:World)(G0:PH)(hG:PSub G0 w0)(vlist:Value)(list:List (BPart))(hlist:RdPart G0 vlist list) :
  Calls Tryz.prog 39 #[vlist] w0 (RetM w0 G0 [] (fun G v Bs=>∃(c:Nat) (vs:List Value) (s1:Nat),v= .chan (some c)∧Bs=[chn c list.length vs true s1 0]∧CV partV G vs (Sp.inOrd list))):=by
 obtain⟨alist,klist,rfl⟩:=hlist.shape
 have hlimlist:list.length≤1099511627776:=hlist.lim
 have H:=Hp.init hG
 refine calls_of_WC (l:=[.slice alist list.length klist]) func39 Z ntmps39 Z (q2 (aG Z (q1 (mV Z (lN Z ?_)))))
 refine o_mkchan H underlying166 typeInfo39 Z Z (by have:Nat.ble 0 1=true:=rfl;show 56*_≤_;omega) oM ?_;intro c1 _ _ H
 refine aG Z (q1 (mV Z (o_deferclose Z ?_)));intro _
 refine q3 (W_seq (q2 (mV Z (lN Z (o_sub Z Z Z oO (aG Z (q3 (W_block ?_))))))))
 refine W_lp (hf:=(Sub.cons (t:=0) Z (Sub.cons (t:=2) Z (Sub.cons (t:=3) Z Sub.nil)))) (J:=fun M w m=>∃(k:Nat) (i:Int) (vs:List Value) (s1:Nat) (G:PH),M=[(4,.int .i64 i)]∧PLe G0 G∧Hp w0 G0 [] w G [chn c1 list.length vs false s1 0]∧(k≤list.length∧i=(k:Int)-1∧CV partV G vs (Sp.ordA list k))∧m=(2*k)) (h0:=⟨list.length,((list.length:Int)-1),[],0,_,Z,PLe.refl _,H,?inv,Z⟩) (round:=?round)
 case inv=>exact⟨Nat.le_refl _,rfl,(by rw[Sp.ordA_all];exact .nil)⟩
 case round =>
  rintro _ _ _ ⟨k,i,vs,s1,G3,rfl,hle3,H,hinv3,rfl⟩
  have hlist:=hlist.up hle3
  obtain⟨hk,_,hcv⟩:=hinv3;have hvl:=hcv.len
  refine W_seq (q2 (pe 2 Z (q3 ?_)))
  refine W_cond Z ?_ ?_
  ·intro hc4
   try simp only[nrm]at hc4
   refine W_skip (N_K (W_seq (W_block (q2 (pe 2 Z (iP (k-1) hlist Z3 oM ?_))))));intro _ _ z5 _ hz5 hE5 hrow5
   obtain⟨_,_,_,rfl,_,hi5,hr5⟩:=hE5;have hy_hi5:_≤16777216:=hi5;have hn_hr5:=hr5.len;have hx_hr5:_≤1099511627776:=hr5.lim
   refine fA 0 Z (lP H hrow5 0 Z2 (pe 1 Z (q3 ?_)))
   refine W_cond Z ?_ ?_
   ·intro hc6
    try simp only[nrm]at hc6
    refine W_regionC [0,1,2,3,4,5] Z ?_
    have hrm:=Sp.ordA_len hz5 oM
    refine RC_l Z (mV Z ?_)
    refine R_nil (N_C ?_)
    refine RC_l Z (mV Z ?_)
    refine R_nil (N_C ?_)
    refine RC_l Z (mV Z ?_)
    refine R_nil (N_C ?_)
    refine RC_l Z (iP (k-1) hlist Z3 oM ?_);intro _ _ z7 _ hz7 hE7 hrow7
    obtain⟨_,_,_,rfl,hj7,hi7,hr7⟩:=hE7;have hy_hi7:_≤16777216:=hi7;have hn_hr7:=hr7.len;have hx_hr7:_≤1099511627776:=hr7.lim
    have hzz7:z5=z7:=Option.some.inj (hz5.symm.trans hz7)
    subst hzz7
    refine R_nil (N_C ?_)
    refine RC_l Z (o_loadagg_P H isAgg39 sizeOf39 Z Z hrow7 Z ?_)
    refine R_nil (N_C ?_)
    refine c_send H 0 Z Z Z Z oM ?_;intro _ H
    refine RC_nil (N_B (N_K (W_region (mV Z (o_sub Z Z Z oO (aG Z (R_nil ?_)))))))
    refine N_lp (hJ:=⟨(k-1),(i-1),_,_,_,Z,hle3,H,?inv,Z⟩) (hm:=?hm)
    case hm=>omega
    case inv=>exact⟨by omega,by omega,(by rw[Sp.ordA_yes hz5 oM hc6];exact hcv.snoc ⟨_,rfl,_,_,_,rfl,hj7,hi7,hr7⟩)⟩
   intro hc6'
   try simp only[nrm]at hc6'
   refine W_skip (N_B (N_K (W_region (mV Z (o_sub Z Z Z oO (aG Z (R_nil ?_)))))))
   refine N_lp (hJ:=⟨(k-1),(i-1),_,_,_,Z,hle3,H,?inv,Z⟩) (hm:=?hm)
   case hm=>omega
   case inv=>exact⟨by omega,by omega,(by rw[Sp.ordA_no hz5 oM hc6'];exact hcv)⟩
  intro hc4'
  try simp only[nrm]at hc4'
  refine W_exit (N_K_exit (N_LP_exit (N_B_same (N_K (W_seq (q2 (mV Z (lN Z (mV Z (q3 (W_block ?_)))))))))))
  have hcv0:CV partV G3 vs (Sp.ordB list 0):=(by have h0:k=0:=oM;rw[h0]at hcv;rw[Sp.ordB_zero];exact hcv)
  refine W_lp (hf:=(Sub.cons (t:=2) Z (Sub.cons (t:=3) Z (Sub.cons (t:=29) Z (Sub.cons (t:=30) Z Sub.nil))))) (J:=fun M w m=>∃(k:Nat) (vsb:List Value) (sb:Nat) (G:PH),M=[(31,.int .i64 (k:Int))]∧PLe G3 G∧Hp w0 G0 [] w G [chn c1 list.length vsb false sb 0]∧(k≤list.length∧CV partV G vsb (Sp.ordB list k))∧m=(list.length-k)) (h0:=⟨0,vs,s1,_,Z,PLe.refl _,H,?inv,Z⟩) (round:=?round)
  case inv=>exact⟨by omega,hcv0⟩
  case round =>
   rintro _ _ _ ⟨k,vsb,sb,_,rfl,hle11,H,hinv11,rfl⟩
   have hlist:=hlist.up hle11
   obtain⟨hk,hcvb⟩:=hinv11;have hvl:=hcvb.len
   refine q2 (pe 1 Z (q3 (W_seq ?_)))
   refine W_cond Z ?_ ?_
   ·intro hc12
    try simp only[nrm]at hc12
    refine W_skip (N_K (W_seq (W_block (q2 (iP k hlist Z3 Z ?_)))));intro _ _ _ _ hz13 hE13 hrow13
    obtain⟨_,_,_,rfl,hj13,hi13,hr13⟩:=hE13;have hy_hi13:_≤16777216:=hi13;have hn_hr13:=hr13.len;have hx_hr13:_≤1099511627776:=hr13.lim
    refine o_loadagg_P H isAgg39 sizeOf39 Z Z hrow13 Z (xal H Z ?_);intro _ _ _ H
    refine xst 0 H Z8 ?_;intro _ H
    refine q1 (fA 0 Z (lB 0 H Z3 (pe 1 Z (q3 ?_))))
    refine W_cond Z ?_ ?_
    ·intro hc16
     try simp only[nrm]at hc16
     refine W_regionC [0,1,2] Z ?_
     have hrm:=Sp.ordB_len hz13 hc16
     refine RC_l Z (mV Z ?_)
     refine R_nil (N_C ?_)
     refine RC_l Z (lA 0 4 H Z4 ?_)
     refine R_nil (N_C ?_)
     refine c_send H 1 Z Z Z Z oM ?_;intro _ H
     refine RC_nil (N_B (N_K (W_region (aD Z2 (mV Z (R_nil ?_))))))
     have H:=H.dl 0
     refine N_lp (hJ:=⟨k+1,_,_,_,Z,hle11,H,?inv,Z⟩) (hm:=?hm)
     case hm=>omega
     case inv=>exact⟨by omega,(by rw[Sp.ordB_yes hz13 hc16];exact hcvb.snoc ⟨_,rfl,_,_,_,rfl,hj13,hi13,hr13⟩)⟩
    intro hc16'
    try simp only[nrm]at hc16'
    refine W_skip (N_B (N_K (W_region (aD Z2 (mV Z (R_nil ?_))))))
    have H:=H.dl 0
    refine N_lp (hJ:=⟨k+1,_,_,_,Z,hle11,H,?inv,Z⟩) (hm:=?hm)
    case hm=>omega
    case inv=>exact⟨by omega,(by rw[Sp.ordB_no hz13 (by simpa using hc16')];exact hcvb)⟩
   intro hc12'
   try simp only[nrm]at hc12'
   refine W_exit (N_K_exit (N_LP_exit (N_B_same (N_K (q2 (pe 2 Z (q3 (W_ret (ret_close 0 H (rs:=[.tmp 2]) Z results39 ?_)))))))));intro _ H
   refine⟨[_],⟨Z,trivial⟩,?_⟩
   exact H.retM ⟨_,_,_,rfl,rfl,(by rw[←Sp.ordB_end (show list.length≤k by omega)];exact hcvb)⟩
theorem i_StreamRun_c (w0:World)(G0:PH)(hG:PSub G0 w0)(cd:List Value)(d:BDisk)(hd:diskE G0 d cd)(vlist:Value)(list:List (BPart))(hlist:RdPart G0 vlist list) :
  Calls Tryz.prog 10 #[.agg cd.toArray,vlist] w0 (RetN w0 G0 (fun v Bs=>∃(v1 v2 v3:Value) (F1 F2 F3:Fr),v= .tuple #[.agg #[v1,v2,v3],.bool (Sp.StreamRun d list).isSome]∧Bs=[frag F1,frag F2,frag F3]∧OHs F1 v1 ((Sp.StreamRun d list).getD ⟨[],[],[]⟩).store∧OIs F2 v2 ((Sp.StreamRun d list).getD ⟨[],[],[]⟩).tree∧OSn F3 v3 ((Sp.StreamRun d list).getD ⟨[],[],[]⟩).snaps)):=by
 obtain⟨_,_,_,_,_,_,_,_,_,rfl,hr1,hr1',hr1'',⟨_,_⟩,⟨_,_⟩,_,_⟩:=ox hd
 obtain⟨alist,klist,rfl⟩:=hlist.shape
 have hlimlist:list.length≤1099511627776:=hlist.lim
 have H:=Hp.init hG
 refine calls_of_W (l:=[_,.slice alist list.length klist]) func10 Z ntmps10 Z (q2 (o_box H Z Z Z ?_));intro b2 _ _ H
 refine xal H Z ?_;intro b3 _ _ H
 refine aG Z (q1 (lA 1 3 H Z4 (xc Z2 (i_newDisk_c _ _ H.sub _ d ⟨_,_,_,_,_,_,_,_,_,Z,hr1,hr1',hr1''⟩ H.lent0) ?_)))
 rintro _ _ ⟨G4,_,_,rfl,H4',⟨rfl,rfl,hnd4⟩|⟨db4,mb4,es4,ck4,xs4,T4,F4,_,sn4,c4,FS4,rfl,rfl,hm4,hS4,hN4,hT4,hchk4,hNs4,hSn4,hdv4⟩⟩
 ·skip
  have H:=H.borrow0 H4'
  refine⟨_,Z,?_⟩
  refine pe 5 Z (q3 (W_seq (q2 (pe 2 Z (q3 (W_true Z (q2 (o_build bf27 Z Z Z (xst 0 H Z8 ?_)))))))));intro _ H
  refine aG Z (q3 (W_ret (N_K_ret (ret_gen (rs:=[.cell 4 27,.tmp 5]) (vs:=[_,_]) results10 ⟨⟨_,Z,load_blk 0 H isAgg27 sizeOf27 Z Z Z⟩,Z,trivial⟩ ?_))))
  have H:=H.dl 0
  have H:=H.dl 0
  have hno:Sp.StreamRun d list=none:=Sp.run_inv hnd4
  have H:=(((H.addF).addF).addF).forget hG (by simp)
  exact⟨_,_,rfl,H,.slice none 0 0,.slice none 0 0,.slice none 0 0,[],[],[],(by rw[hno];rfl),rfl,(by rw[hno];exact oh_nil),(by rw[hno];exact oi_nil),(by rw[hno];exact os_nil)⟩
 skip
 have hlist:=hlist.up H4'.le
 have H:=H.borrow0 H4'
 obtain⟨avAd,cvAd,rfl⟩:=H.accShape (k:=3) rfl
 refine⟨_,Z,?_⟩
 refine pe 5 Z (q3 (W_seq (q2 (pe 2 Z (q3 (W_false Z (W_skip (N_K (W_seq (q2 (mV Z (lN Z (mV Z (q3 (W_block ?_)))))))))))))))
 obtain⟨ln6,hln6,H⟩:=H.name (k:=0) rfl
 obtain⟨ln7,hln7,H⟩:=H.name (k:=5) rfl
 obtain⟨ln8,hln8,H⟩:=H.name (k:=6) rfl
 refine W_lp (hf:=(Sub.cons (t:=1) Z (Sub.cons (t:=4) Z (Sub.cons (t:=6) Z (Sub.cons (t:=19) Z (Sub.cons (t:=20) Z Sub.nil)))))) (J:=fun M w m=>∃(k:Nat) (G:PH),M=[(21,.int .i64 (k:Int))]∧PLe G4 G∧Hp w0 G0 [] w G [blk db4 (cl ln6 161),blk mb4 (.map es4 ck4),frag F4,acc 164 2 (.slice avAd sn4.length cvAd) sn4.length c4,frag FS4,blk b3 (cl ln7 27),blk b2 (cl ln8 27)]∧(k≤list.length∧(list.take k).all Sp.partOk=true)∧m=(list.length-k)) (h0:=⟨0,_,Z,PLe.refl _,H,?inv,Z⟩) (round:=?round)
 case inv=>exact⟨by omega,by simp⟩
 case round =>
  rintro _ _ _ ⟨k,_,rfl,hle9,H,hinv9,rfl⟩
  subst hln6
  subst hln7
  subst hln8
  have hlist:=hlist.up hle9
  have hS4:=hS4.up hle9
  have hN4:=hN4.up hle9
  have hchk4:=hchk4.up hle9
  have hNs4:=hNs4.up hle9
  obtain⟨hk,hall⟩:=hinv9
  refine q2 (pe 1 Z (q3 (W_seq ?_)))
  refine W_cond Z ?_ ?_
  ·intro hc10
   try simp only[nrm]at hc10
   refine W_skip (N_K (W_seq (W_block (q2 (iP k hlist Z3 Z ?_)))));intro _ _ _ _ hz11 hE11 hrow11
   obtain⟨_,_,_,rfl,_,hi11,hr11⟩:=hE11;have hy_hi11:_≤16777216:=hi11;have hn_hr11:=hr11.len;have hx_hr11:_≤1099511627776:=hr11.lim
   refine o_loadagg_P H isAgg39 sizeOf39 Z Z hrow11 Z (xal H Z ?_);intro _ _ _ H
   refine xst 0 H Z8 ?_;intro _ H
   refine q1 (lA 0 4 H Z4 ?_)
   refine xr H Z2 (i_spart_c _ _ H.sub _ _ ⟨_,_,_,Z,⟨by first|omega|(dsimp only;omega),by first|omega|(dsimp only;omega)⟩,hi11,hr11⟩) ?_;intro _ H
   refine pe 1 Z (q3 ?_)
   refine W_cond Z ?_ ?_
   ·intro hc15
    try simp only[nrm]at hc15
    refine q2 (o_build bf27 Z Z Z (xst 6 H Z8 ?_));intro _ H
    refine aG Z (q3 (W_ret (N_B_ret (N_K_ret (N_LP_ret (N_B_ret (N_K_ret (ret_gen (rs:=[.cell 4 27,.tmp 5]) (vs:=[_,_]) results10 ⟨⟨_,Z,load_blk 6 H isAgg27 sizeOf27 Z Z Z⟩,Z,trivial⟩ ?_))))))))
    have H:=H.sel [] rfl
    have hno:Sp.StreamRun d list=none:=Sp.run_bad (List.mem_of_getElem? hz11) (by simpa using hc15)
    have H:=(((H.addF).addF).addF).forget hG (by simp)
    exact⟨_,_,rfl,H,.slice none 0 0,.slice none 0 0,.slice none 0 0,[],[],[],(by rw[hno];rfl),rfl,(by rw[hno];exact oh_nil),(by rw[hno];exact oi_nil),(by rw[hno];exact os_nil)⟩
   intro hc15'
   try simp only[nrm]at hc15'
   refine W_skip (N_B (N_K (W_region (aD Z2 (mV Z (R_nil ?_))))))
   have H:=H.sel [1,2,3,4,5,6,7] rfl
   refine N_lp (hJ:=⟨k+1,_,Z,hle9,H,?inv,Z⟩) (hm:=?hm)
   case hm=>omega
   case inv=>exact⟨by omega,Sp.all_take hall hz11 (by simpa using hc15')⟩
  intro hc10'
  try simp only[nrm]at hc10'
  refine W_exit (N_K_exit (N_LP_exit (N_B_same (N_K (W_seq (q2 (mV Z (o_call call39 Z Z (i_inOrder_c _ _ H.sub _ _ hlist) ?_))))))));rintro _ w18 ⟨G18,_,_,rfl,H18',⟨cq,vq,sq,rfl,rfl,hcv⟩⟩
  have hS4:=hS4.up H18'.le
  have hN4:=hN4.up H18'.le
  have hchk4:=hchk4.up H18'.le
  have hNs4:=hNs4.up H18'.le
  have H:=H.borrow0 H18';refine⟨_,rfl,?_⟩
  refine q3 (W_block ?_)
  have hal:list.all Sp.partOk=true:=(by have h0:k=list.length:=oM;rw[h0,List.take_length]at hall;exact hall)
  have H:=H.sel [0,1,2,3,4,5,6] rfl
  obtain⟨ln19,hln19,H⟩:=H.name (k:=6) rfl
  refine W_lp (hf:=(Sub.cons (t:=4) Z (Sub.cons (t:=6) Z (Sub.cons (t:=31) Z Sub.nil)))) (J:=fun M w m=>∃(k:Nat) (vq:List Value) (sq rq:Nat) (dn:BDisk) (eT:Array MapEntry) (kT:Nat) (xT:List (Int×Value)) (TT:Nd) (FT:Fr) (aT:Option Addr) (qT:Nat) (nT:List (Fw.Bs×Nd)) (cT:List Value) (FSq:Fr) (G:PH),M=[]∧PLe G18 G∧Hp w0 G0 [] w G [chn cq list.length vq true sq rq,blk db4 (cl [.int .i32 0,.int .u32 0,.map (some mb4),.pointer (some ⟨TT.b,0,none⟩),.slice aT nT.length qT] 161),blk mb4 (.map eT kT),frag FT,acc 164 2 (.slice aT nT.length qT) nT.length cT,frag FSq,blk b3 (cl ln19 27)]∧(k≤(Sp.inOrd list).length∧CV partV G vq ((Sp.inOrd list).drop k)∧Sp.foldB Sp.mkPart ((Sp.inOrd list).take k) (some d)=some dn∧MapIs (Value.int .i64) eT kT xT∧StR G xT dn.store∧NdO 90 84 G TT FT∧Nd.TOK TT dn.tree∧Chk osE 2 G cT nT∧NdsO 90 84 G (nT.map (·.2)) FSq∧SnOK nT dn.snaps∧Sp.DiskValid dn=true)∧m=((Sp.inOrd list).length-k)) (h0:=⟨0,vq,sq,0,d,_,_,xs4,T4,_,_,_,sn4,_,_,_,Z,PLe.refl _,H,?inv,Z⟩) (round:=?round)
  case inv=>exact⟨by omega,by simpa using hcv,rfl,hm4,hS4,hN4,hT4,hchk4,hNs4,hSn4,hdv4⟩
  case round =>
   rintro _ _ _ ⟨k,vq,sq,rq,dn,eT,kT,xT,TT,FT,aT,qT,nT,cT,FSq,_,rfl,hle20,H,hinv20,rfl⟩
   subst hln19
   have hcv:=hcv.up hle20
   obtain⟨hk,hcv,hJ,hmL,hSL,hNL,hTL,hchkL,hNsL,hSnL,hdvL⟩:=hinv20
   refine W_seq (W_regionC [0,1] Z ?_)
   rcases vq with _|⟨v21,vs21⟩
   ·skip
    refine c_recvz H 0 Z Z Z Z underlying74 zeroValue39 ?_
    have hend:=hcv.nil_len
    refine RC_l Z (pe 1 Z ?_)
    refine R_nil (N_C ?_)
    refine RC_nil (N_K (W_seq (W_false Z (W_exit (N_K_exit (N_LP_exit (N_B_same (N_K (q2 (mV Z ?_))))))))))
    have H:=H.tF 5
    have H:=H.tF 5
    have H:=H.tF 5
    have H:=H.tF 5
    have H:=H.tF 5
    refine xc Z2 (i_disk_c _ _ H.sub _ _ _ _ _ _ _ _ _ _ _ _ hmL hSL hNL hTL hchkL hNsL hSnL (Sp.valid_iff.1 (Sp.dv_parts.1 hdvL).1) (Sp.dv_parts.1 hdvL).2.2.1 H.lent5) ?_
    rintro _ _ ⟨_,_,_,rfl,H22',⟨_,_,_,_,_,_,rfl,rfl,ho122,ho222,ho322⟩⟩
    have H:=H.borrow5 H22'
    obtain⟨_,p122⟩:=ho122
    obtain⟨a122,c122,rfl⟩:=OwnS.shape p122
    obtain⟨_,p222⟩:=ho222
    obtain⟨a222,c222,rfl⟩:=OwnS.shape p222
    obtain⟨_,p322⟩:=ho322
    obtain⟨a322,c322,rfl⟩:=OwnS.shape p322
    refine⟨_,Z,?_⟩
    refine xst 4 H Z8 ?_;intro _ H
    refine aG Z (q3 (W_ret (ret_gen (rs:=[.cell 4 27,.tmp 5]) (vs:=[_,_]) results10 ⟨⟨_,Z,load_blk 4 H isAgg27 sizeOf27 Z Z Z⟩,Z,trivial⟩ ?_)))
    have H:=H.sel [0,1,2] rfl
    have hyes:Sp.StreamRun d list=some dn:=Sp.ord_all hdv4 hJ hend
    have H:=H.forget hG (by simp)
    exact⟨_,_,rfl,H,.slice a122 dn.store.length c122,.slice a222 dn.tree.length c222,.slice a322 dn.snaps.length c322,_,_,_,(by rw[hyes];rfl),rfl,(by rw[hyes];exact⟨_,p122⟩),(by rw[hyes];exact⟨_,p222⟩),(by rw[hyes];exact⟨_,p322⟩)⟩
   skip
   obtain⟨z21,hz21,hV21,hcw⟩:=hcv.pop;clear hcv;have hcv:=hcw;clear hcw;obtain⟨_,rfl,_,_,_,rfl,_,hi21,hr21⟩:=hV21;have hn_hr21:=hr21.len;have hx_hr21:_≤1099511627776:=hr21.lim;have hoz21:=List.all_eq_true.1 hal _ (Sp.mem_ord' (List.mem_of_getElem? hz21))
   refine c_recv H 0 Z Z Z Z underlying74 zeroValue39 ?_;intro _ H
   refine RC_l Z (pe 1 Z ?_)
   refine R_nil (N_C ?_)
   refine RC_nil (N_K (W_seq (W_true Z (W_skip (N_K (W_block (q2 (pe 1 Z (xal H Z ?_)))))))));intro _ _ _ H
   refine xst 0 H Z8 ?_;intro _ H
   refine q1 (mV Z (lA 0 4 H Z4 ?_))
   have H:=H.tF 6
   have H:=H.tF 6
   have H:=H.tF 6
   have H:=H.tF 6
   have H:=H.tF 6
   refine xc Z2 (i_makePart_c _ _ H.sub _ _ _ _ _ _ _ _ _ _ _ _ hmL hSL hNL hTL hchkL hNsL hSnL hdvL _ z21 ⟨_,_,_,Z,⟨by first|omega|(dsimp only;omega),by first|omega|(dsimp only;omega)⟩,hi21,hr21⟩ H.lent5 hoz21) ?_
   rintro _ _ ⟨_,_,_,rfl,H26',⟨_,_,xs26,_,T26,_,sn26,_,_,_,rfl,rfl,hm26,hS26,_,hN26,hchk26,hNs26,hd26⟩⟩
   have hcv:=hcv.up H26'.le
   have hle20:=hle20.trans H26'.le
   have H:=H.borrow5 H26'
   obtain⟨avAd,cvAd,rfl⟩:=H.accShape (k:=3) rfl
   refine⟨_,Z,?_⟩
   refine pe 1 Z (q3 ?_)
   refine W_cond Z ?_ ?_
   ·intro hc27
    try simp only[nrm]at hc27
    refine q2 (o_build bf27 Z Z Z (xst 7 H Z8 ?_));intro _ H
    refine aG Z (q3 (W_ret (N_B_ret (N_LP_ret (N_B_ret (N_K_ret (ret_gen (rs:=[.cell 4 27,.tmp 5]) (vs:=[_,_]) results10 ⟨⟨_,Z,load_blk 7 H isAgg27 sizeOf27 Z Z Z⟩,Z,trivial⟩ ?_)))))))
    have H:=H.sel [] rfl
    have hno:Sp.StreamRun d list=none:=Sp.ord_no hdv4 hJ hz21 (by simpa using hc27)
    have H:=(((H.addF).addF).addF).forget hG (by simp)
    exact⟨_,_,rfl,H,.slice none 0 0,.slice none 0 0,.slice none 0 0,[],[],[],(by rw[hno];rfl),rfl,(by rw[hno];exact oh_nil),(by rw[hno];exact oi_nil),(by rw[hno];exact os_nil)⟩
   intro hc27'
   try simp only[nrm]at hc27'
   refine W_skip (N_B ?_)
   obtain⟨d2,hd2⟩:=Option.isSome_iff_exists.1 (show(Sp.mkPart dn z21).isSome=true by simpa using hc27')
   obtain⟨hL2,hT2,hsn2⟩:=hd26 d2 hd2;subst hL2
   have H:=H.sel [6,0,1,2,3,4,7] rfl
   refine N_lp (hJ:=⟨k+1,_,_,_,d2,_,_,xs26,T26,_,_,_,sn26,_,_,_,Z,hle20,H,?inv,Z⟩) (hm:=?hm)
   case hm=>have:=(List.getElem?_eq_some_iff.1 hz21).1;omega
   case inv=>exact⟨(by have:=(List.getElem?_eq_some_iff.1 hz21).1;omega),hcv,Sp.foldB_succ hJ hz21 hd2,hm26,hS26,hN26,hT2,hchk26,hNs26,hsn2,(Sp.mk_valid hdvL hd2).1⟩
theorem w_szPart_c (w0:World)(G0:PH)(hG:PSub G0 w0)(ca:List Value)(a:BPart)(ha:partE G0 a ca)(left:Int)(hl: -1≤left∧left≤1099511627776) :
  Calls Tryz.prog 67 #[.agg ca.toArray,.int .i64 left] w0 (RetV w0 (fun v=>∃r:Int,v= .int .i64 r∧(r= -1∨(0≤r∧r+(wPart a:Int)≤left)))):=by
 obtain⟨_,_,_,rfl,_,hi1,hr1⟩:=ha;have hy_hi1:_≤16777216:=hi1;have hn_hr1:=hr1.len;have hx_hr1:_≤1099511627776:=hr1.lim
 have H:=Hp.init hG
 refine calls_of_W (l:=[_,.int .i64 left]) func67 Z ntmps67 Z (q2 (o_box H Z Z Z ?_));intro _ _ _ H
 refine aG Z (q1 (mV Z (fA 1 Z (lB 0 H Z3 (lS Z (o_sub Z Z Z oO (aG Z (q3 (W_seq (q2 (pe 2 Z (q3 ?_))))))))))))
 refine W_cond Z ?_ ?_
 ·intro hc4
  try simp only[nrm]at hc4
  refine q2 (aG Z (q3 (W_ret (N_K_ret (rt1 results67 Z ?_)))))
  exact H.retV ⟨_,rfl,by first|omega|(simp only[wPart,wParts]at *; omega)⟩
 intro hc4'
 try simp only[nrm]at hc4'
 refine W_skip (N_K (q2 (fA 3 Z (lB 0 H Z3 (mV Z (xc Z2 (w_szIntS_c _ _ H.sub _ _ hr1 _ oO) ?_))))))
 rintro _ _ ⟨_,rfl,ew5,⟨_,rfl,_⟩⟩
 skip
 have H:=H.step ew5;refine⟨_,rfl,?_⟩
 refine aG Z (q3 (W_seq (q2 (pe 2 Z (q3 ?_)))))
 refine W_cond Z ?_ ?_
 ·intro hc6
  try simp only[nrm]at hc6
  refine q2 (aG Z (q3 (W_ret (N_K_ret (rt1 results67 Z ?_)))))
  exact H.retV ⟨_,rfl,by first|omega|(simp only[wPart,wParts]at *; omega)⟩
 intro hc6'
 try simp only[nrm]at hc6'
 refine W_skip (N_K (q2 (pe 2 Z (q3 (W_ret (rt1 results67 Z ?_))))))
 exact H.retV ⟨_,rfl,by first|omega|(simp only[wPart,wParts]at *; omega)⟩
theorem w_szPartS_c (w0:World)(G0:PH)(hG:PSub G0 w0)(va:Value)(a:List (BPart))(ha:RdPart G0 va a)(left:Int)(hl: -1≤left∧left≤1099511627776) :
  Calls Tryz.prog 23 #[va,.int .i64 left] w0 (RetV w0 (fun v=>∃r:Int,v= .int .i64 r∧(r= -1∨(0≤r∧r+(wParts a:Int)≤left)))):=by
 obtain⟨aa,ka,rfl⟩:=ha.shape
 have hlima:a.length≤1099511627776:=ha.lim
 have H:=Hp.init hG
 refine calls_of_W (l:=[.slice aa a.length ka,.int .i64 left]) func23 Z ntmps23 Z (q2 (aG Z (q1 (pe 2 Z (lN Z (o_sub Z Z Z oO (aG Z (q3 (W_seq (q2 (pe 2 Z (q3 ?_))))))))))))
 refine W_cond Z ?_ ?_
 ·intro hc2
  try simp only[nrm]at hc2
  refine q2 (aG Z (q3 (W_ret (N_K_ret (rt1 results23 Z ?_)))))
  exact H.retV ⟨_,rfl,by first|omega|(simp only[wPart,wParts]at *; omega)⟩
 intro hc2'
 try simp only[nrm]at hc2'
 refine W_skip (N_K (W_seq (q2 (aG Z (q3 (W_block ?_))))))
 refine W_lp (hf:=(Sub.cons (t:=0) Z Sub.nil)) (J:=fun M w m=>∃(k:Nat) (lf:Int) (G:PH),M=[(5,.int .i64 (k:Int)),(1,.int .i64 lf)]∧PLe G0 G∧Hp w0 G0 [] w G []∧(k≤a.length∧0≤lf∧lf+(a.length:Int)+(cnt wPart (a.take k):Int)≤left)∧m=(a.length-k)) (h0:=⟨0,(left-(a.length:Int)),_,Z,PLe.refl _,H,?inv,Z⟩) (round:=?round)
 case inv=>exact⟨by omega,by omega,by (simp only[List.take_zero,cnt];omega)⟩
 case round =>
  rintro _ _ _ ⟨k,lf,_,rfl,hle3,H,hinv3,rfl⟩
  have ha:=ha.up hle3
  obtain⟨_,_,_⟩:=hinv3
  refine W_seq (q2 (pe 2 Z (lN Z (pe 1 Z (q3 ?_)))))
  refine W_cond Z ?_ ?_
  ·intro hc4
   try simp only[nrm]at hc4
   refine W_skip (N_K (W_seq (W_block (q2 (pe 2 Z (iP k ha Z3 Z ?_))))));intro _ _ _ _ hz5 hE5 hrow5
   obtain⟨_,_,_,rfl,_,hi5,hr5⟩:=hE5;have hy_hi5:_≤16777216:=hi5;have hn_hr5:=hr5.len;have hx_hr5:_≤1099511627776:=hr5.lim
   refine o_loadagg_P H isAgg119 sizeOf119 Z Z hrow5 Z (mV Z ?_)
   refine xc Z2 (w_szPart_c _ _ H.sub _ _ ⟨_,_,_,Z,⟨by first|omega|(dsimp only;omega),by first|omega|(dsimp only;omega)⟩,hi5,hr5⟩ _ oO) ?_
   rintro _ _ ⟨_,rfl,ew6,⟨r6,rfl,_⟩⟩
   skip
   have H:=H.step ew6;refine⟨_,rfl,?_⟩
   refine aG Z (q1 (pe 2 Z (q3 ?_)))
   refine W_cond Z ?_ ?_
   ·intro hc7
    try simp only[nrm]at hc7
    refine q2 (aG Z (q3 (W_ret (N_B_ret (N_K_ret (N_LP_ret (N_B_ret (N_K_ret (rt1 results23 Z ?_)))))))))
    exact H.retV ⟨_,rfl,by first|omega|(simp only[wPart,wParts]at *; omega)⟩
   intro hc7'
   try simp only[nrm]at hc7'
   refine W_skip (N_B (N_K (W_region (mV Z (aD Z2 (aG Z (R_nil ?_)))))))
   refine N_lp (hJ:=⟨k+1,r6,_,Z,hle3,H,?inv,Z⟩) (hm:=?hm)
   case hm=>omega
   case inv=>exact⟨by omega,by omega,by (have hcs:=cnt_succ (c:=wPart) hz5;omega)⟩
  intro hc4'
  try simp only[nrm]at hc4'
  refine W_exit (N_K_exit (N_LP_exit (N_B_same (N_K (q2 (pe 2 Z (q3 (W_ret (rt1 results23 Z ?_)))))))))
  have hce:=cnt_end (c:=wPart) (show k=a.length by omega)
  exact H.retV ⟨_,rfl,by first|omega|(simp only[wPart,wParts]at *; omega)⟩
theorem w_eqPart_c (w0:World)(G0:PH)(hG:PSub G0 w0)(ca:List Value)(a:BPart)(ha:partE G0 a ca)(cb:List Value)(b:BPart)(hb:partE G0 b cb)(hab:a=b) :
  Calls Tryz.prog 75 #[.agg ca.toArray,.agg cb.toArray] w0 (Rets w0 (.bool true)):=by
 obtain⟨_,_,_,rfl,_,hi1,hr1⟩:=ha;have hy_hi1:_≤16777216:=hi1;have hn_hr1:=hr1.len;have hx_hr1:_≤1099511627776:=hr1.lim
 obtain⟨_,_,_,rfl,_,hi2,hr2⟩:=hb;have hy_hi2:_≤16777216:=hi2;have hn_hr2:=hr2.len;have hx_hr2:_≤1099511627776:=hr2.lim
 have H:=Hp.init hG
 refine calls_of_W (l:=[_,_]) func75 Z ntmps75 Z (q2 (o_box H Z Z Z ?_));intro _ _ _ H
 refine o_box H Z Z Z ?_;intro _ _ _ H
 refine aG Z (q3 (W_seq (q2 (fA 0 Z (lB 1 H Z3 (fA 0 Z (lB 0 H Z3 (pe 1 Z (q3 ?_)))))))))
 refine W_cond Z ?_ ?_
 ·intro hc5
  try simp only[nrm]at hc5
  refine q2 (aG Z (q3 (W_ret (N_K_ret (rt1 results75 Z ?_)))))
  exact absurd (show False from by simp[hab]at hc5) id
 intro hc5'
 try simp only[nrm]at hc5'
 refine W_skip (N_K (W_seq (q2 (fA 1 Z (lB 1 H Z3 (fA 1 Z (lB 0 H Z3 (o_sneq Z Z Z (q3 ?_)))))))))
 refine W_cond Z ?_ ?_
 ·intro hc6
  try simp only[nrm]at hc6
  refine q2 (aG Z (q3 (W_ret (N_K_ret (rt1 results75 Z ?_)))))
  exact absurd (show False from by simp[hab]at hc6) id
 intro hc6'
 try simp only[nrm]at hc6'
 refine W_skip (N_K (W_seq (q2 (fA 2 Z (lB 1 H Z3 (fA 2 Z (lB 0 H Z3 (o_bneq underlying4 Z Z Z (q3 ?_)))))))))
 refine W_cond Z ?_ ?_
 ·intro hc7
  try simp only[nrm]at hc7
  refine q2 (aG Z (q3 (W_ret (N_K_ret (rt1 results75 Z ?_)))))
  exact absurd (show False from by simp[hab]at hc7) id
 intro hc7'
 try simp only[nrm]at hc7'
 refine W_skip (N_K (W_seq (q2 (fA 3 Z (lB 1 H Z3 (fA 3 Z (lB 0 H Z3 (xr H Z2 (w_eqIntS_c _ _ H.sub _ _ hr1 _ _ hr2 (congrArg BPart.bytes hab)) ?_))))))));intro _ H
 refine pe 1 Z (q3 (W_false Z (W_skip (N_K (q2 (aG Z (q3 (W_ret (rt1 results75 Z ?_)))))))))
 exact H.rets Z
theorem w_eqPartS_c (w0:World)(G0:PH)(hG:PSub G0 w0)(va:Value)(a:List (BPart))(ha:RdPart G0 va a)(vb:Value)(b:List (BPart))(hb:RdPart G0 vb b)(hab:a=b) :
  Calls Tryz.prog 27 #[va,vb] w0 (Rets w0 (.bool true)):=by
 obtain⟨aa,ka,rfl⟩:=ha.shape
 have hlima:a.length≤1099511627776:=ha.lim
 obtain⟨ab,kb,rfl⟩:=hb.shape
 have hlimb:b.length≤1099511627776:=hb.lim
 have hle:=congrArg List.length hab
 have H:=Hp.init hG
 refine calls_of_W (l:=[.slice aa a.length ka,.slice ab b.length kb]) func27 Z ntmps27 Z (q2 (aG Z (q3 (W_seq (q2 (mV Z (lN Z (mV Z (lN Z (pe 1 Z (q3 ?_)))))))))))
 refine W_cond Z ?_ ?_
 ·intro hc1
  try simp only[nrm]at hc1
  refine q2 (aG Z (q3 (W_ret (N_K_ret (rt1 results27 Z ?_)))))
  exact absurd (show False from by omega) id
 intro hc1'
 try simp only[nrm]at hc1'
 refine W_skip (N_K (W_seq (q2 (aG Z (q3 (W_block ?_))))))
 refine W_lp (hf:=(Sub.cons (t:=0) Z (Sub.cons (t:=1) Z Sub.nil))) (J:=fun M w m=>∃(k:Nat) (G:PH),M=[(5,.int .i64 (k:Int))]∧PLe G0 G∧Hp w0 G0 [] w G []∧(k≤a.length)∧m=(a.length-k)) (h0:=⟨0,_,Z,PLe.refl _,H,?inv,Z⟩) (round:=?round)
 case inv=>omega
 case round =>
  rintro _ _ _ ⟨k,G2,rfl,hle2,H,hinv2,rfl⟩
  have ha:=ha.up hle2
  have hb:=hb.up hle2
  have hk:=hinv2
  refine W_seq (q2 (pe 2 Z (lN Z (pe 1 Z (q3 ?_)))))
  refine W_cond Z ?_ ?_
  ·intro hc3
   try simp only[nrm]at hc3
   refine W_skip (N_K (W_seq (W_block (W_seq (W_drawK [] 10 H kR Z ?_)))));intro _ H;have hd4:=PLe.refl G2
   refine dE 0 Z2 (dE 1 Z2 ?_)
   have hl5:=ha.len
   obtain⟨_,_,_,_,ha5,hz5,hq5,hE5,hrow5,_⟩:=ha.at (i:=k) oM
   clear hq5
   obtain⟨_,_,_,rfl,_,hi5,hr5⟩:=hE5;have hy_hi5:_≤16777216:=hi5;have hn_hr5:=hr5.len;have hx_hr5:_≤1099511627776:=hr5.lim
   refine dI 2 4 k ha5 Z3 Z (RD_t 3 Z kR Z (fun _ hK=>v_loadagg_P hK isAgg39 sizeOf39 Z hrow5 Z) (dE 4 Z2 (dE 5 Z2 ?_)))
   have hl6:=hb.len
   obtain⟨_,_,_,_,ha6,hz6,hq6,hE6,hrow6,_⟩:=hb.at (i:=k) oM
   clear hq6
   obtain⟨_,_,_,rfl,_,hi6,hr6⟩:=hE6;have hy_hi6:_≤16777216:=hi6;have hn_hr6:=hr6.len;have hx_hr6:_≤1099511627776:=hr6.lim
   refine dI 6 4 k ha6 Z3 Z (RD_t 7 Z kR Z (fun _ hK=>v_loadagg_P hK isAgg39 sizeOf39 Z hrow6 Z) (r1 8 Z ?_))
   refine xr H Z2 (w_eqPart_c _ _ H.sub _ _ ⟨_,_,_,Z,⟨by first|omega|(dsimp only;omega),by first|omega|(dsimp only;omega)⟩,hi5,hr5⟩ _ _ ⟨_,_,_,rfl,⟨by first|omega|(dsimp only;omega),by first|omega|(dsimp only;omega)⟩,hi6,hr6⟩ (Sp.same_at hab hz5 hz6)) ?_;intro _ H
   refine q4 H hd4 (dE 9 Z2 (rz (N_K (W_false Z (W_skip (N_B (N_K (W_region (mV Z (aD Z2 (aG Z (R_nil ?_))))))))))))
   refine N_lp (hJ:=⟨k+1,_,Z,hle2,H,?inv,Z⟩) (hm:=?hm)
   case hm=>omega
   case inv=>omega
  intro hc3'
  try simp only[nrm]at hc3'
  refine W_exit (N_K_exit (N_LP_exit (N_B_same (N_K (q2 (aG Z (q3 (W_ret (rt1 results27 Z ?_)))))))))
  exact H.rets Z
theorem w_toPart_c (w0:World)(G0:PH)(hG:PSub G0 w0)(ca:List Value)(a:BPart)(ha:partE G0 a ca) :
  Calls Tryz.prog 71 #[.agg ca.toArray] w0 (RetN w0 G0 (fun v Bs=>∃(F:Fr) (cs:List Value),v= .agg cs.toArray∧Bs=[frag F]∧partO F a cs)):=by
 obtain⟨_,_,_,rfl,_,hi1,hr1⟩:=ha;have hy_hi1:_≤16777216:=hi1;have hn_hr1:=hr1.len;have hx_hr1:_≤1099511627776:=hr1.lim
 have H:=Hp.init hG
 refine calls_of_W (l:=[_]) func71 Z ntmps71 Z (q2 (o_box H Z Z Z ?_));intro _ _ _ H
 refine xal H Z ?_;intro _ _ _ H
 refine q1 (xal H Z ?_);intro _ _ _ H
 refine q1 (fA 0 Z (lB 2 H Z3 (fA 0 Z (xst 0 H Z8 ?_))));intro _ H
 refine q1 (fA 1 Z (lB 2 H Z3 (fA 1 Z (xst 0 H Z8 ?_))));intro _ H
 refine q1 (fA 2 Z (lB 2 H Z3 (fA 2 Z (xst 0 H Z8 ?_))));intro _ H
 refine q1 (fA 3 Z (lB 2 H Z3 (xc Z2 (w_toIntS_c _ _ H.sub _ _ hr1) ?_)))
 rintro _ _ ⟨_,_,_,g8,rfl,⟨_,rfl,hchk8⟩,hp8,hq8,hs8⟩
 have H:=H.growO g8 hp8 hq8 hs8;obtain⟨_,_,rfl⟩:=H.accShape (k:=0) rfl
 refine⟨_,Z,?_⟩
 refine fA 3 Z (xst 1 H Z8 ?_);intro _ H
 refine q1 (lA 1 4 H Z4 (xst 2 H Z8 ?_));intro _ H
 refine q3 (W_ret (ret_gen (rs:=[.cell 2 39]) (vs:=[_]) results71 ⟨⟨_,Z,load_blk 2 H isAgg39 sizeOf39 Z Z Z⟩,trivial⟩ ?_))
 obtain⟨_,H,hOI1⟩:=H.ownI (k:=0) rfl hchk8 aN aN
 have H:=H.dl 1
 have H:=H.dl 1
 have H:=H.dl 1
 have H:=H.forget hG (by simp)
 exact⟨_,_,Z,H,_,_,Z,Z,⟨_,_,_,Z,oO,hi1,hOI1⟩⟩
theorem w_toPartS_c (w0:World)(G0:PH)(hG:PSub G0 w0)(va:Value)(a:List (BPart))(ha:RdPart G0 va a) :
  Calls Tryz.prog 25 #[va] w0 (RetN w0 G0 (fun v Bs=>∃(F:Fr),Bs=[frag F]∧OPt F v a)):=by
 obtain⟨aa,ka,rfl⟩:=ha.shape
 have hlima:a.length≤1099511627776:=ha.lim
 have H:=Hp.init hG
 refine calls_of_W (l:=[.slice aa a.length ka]) func25 Z ntmps25 Z (q2 (aG Z (q1 (mV Z (lN Z (o_makeN (c:=a.length) (sz:=4) (bytes:=56) H underlying28 typeInfo39 ⟨_,Z,Z⟩ Z Z Z Z Z Z Z Z Z oM Z ?_))))));intro _ _ H
 have hchk1:=Chk.rep (E:=partE) (sz:=4) (G:=G0) (x0:=⟨0,[],false,[]⟩) (zeroPart _) rfl (a.length)
 refine aG Z (q3 (W_seq (q2 (aG Z (q3 (W_block ?_))))))
 have H:=H.addF
 refine W_lp (hf:=(Sub.cons (t:=0) Z (Sub.cons (t:=2) Z Sub.nil))) (J:=fun M w m=>∃(v:Value) (n:Nat) (cs:List Value) (xs:List (BPart)) (F:Fr) (k:Nat) (G:PH),M=[(4,.int .i64 (k:Int)),(3,v)]∧PLe G0 G∧Hp w0 G0 [] w G [frag F,acc 39 4 v n cs]∧(ChkF partO 4 cs xs F∧n=xs.length∧k≤a.length∧xs.length=a.length∧xs.take k=a.take k)∧m=(a.length-k)) (h0:=⟨_,_,_,(List.replicate a.length ⟨0,[],false,[]⟩),[],0,_,Z,PLe.refl _,H,?inv,Z⟩) (round:=?round)
 case inv=>exact⟨(ChkF.rep zeroPartO rfl (a.length)),by first|rfl|simp|(simp;omega)|omega,(by simp)⟩
 case round =>
  rintro _ _ _ ⟨v,n,cs,xs,F,k,_,rfl,hle2,H,hinv2,rfl⟩
  have ha:=ha.up hle2
  obtain⟨hchk2_0,_,hinv2⟩:=hinv2
  obtain⟨_,_,rfl⟩:=H.accShape (k:=1) rfl
  obtain⟨_,hxl,hxt⟩:=hinv2
  refine W_seq (q2 (pe 2 Z (lN Z (pe 1 Z (q3 ?_)))))
  refine W_cond Z ?_ ?_
  ·intro hc3
   try simp only[nrm]at hc3
   refine W_skip (N_K (W_seq (W_block (W_region (pe 4 Z (iP k ha Z3 Z ?_))))));intro _ _ z4 _ hz4 hE4 hrow4
   obtain⟨_,_,_,rfl,_,hi4,hr4⟩:=hE4;have hy_hi4:_≤16777216:=hi4;have hn_hr4:=hr4.len;have hx_hr4:_≤1099511627776:=hr4.lim
   refine o_loadagg_P H isAgg119 sizeOf119 Z Z hrow4 Z ?_
   refine xc Z2 (w_toPart_c _ _ H.sub _ _ ⟨_,_,_,Z,⟨by first|omega|(dsimp only;omega),by first|omega|(dsimp only;omega)⟩,hi4,hr4⟩) ?_
   rintro _ _ ⟨_,_,rfl,H5',⟨F5,_,rfl,rfl,hO5⟩⟩
   have H:=H.readers (fp:=[]) (by simp) (PLe.refl _) H5'
   obtain⟨_,_,_,rfl,_,hi5,ho5⟩:=hO5
   refine⟨_,Z,?_⟩
   obtain⟨z6,hz6⟩:∃z,xs[k]? = some z:=⟨_,List.getElem?_eq_getElem aN⟩
   obtain⟨_,P6,_,Q6,hF6,_,hE6,_,hput6,hpu06⟩:=(hchk2_0).focus hz6
   rw[hF6]at H
   refine o_index_F 2 H k Z underlying28 sizeOf39 Z Z Z Z aN ?_;intro _ hba6;cases hba6
   obtain⟨_,_,_,rfl,hj6,hi6,ho6⟩:=hE6;have hy_hi6:_≤16777216:=hi6
   have hbk6:ChkF partO 4 _ (xs.set k z6) _:=hpu06 _ z6 (show partO _ _ _ from⟨_,_,_,rfl,hj6,hi6,ho6⟩)
   have hsame6:xs.set k z6=xs:=Fw.set_same hz6;rw[hsame6]at hbk6
   have hcl7:=(hbk6).length
   have hlt7:k<xs.length:=(List.getElem?_eq_some_iff.1 hz6).1
   try simp only[length_setCs,List.length_set]at hcl7
   try simp only[List.length_set]at hlt7
   refine o_store_A 2 H sizeOf39 Z Z Z Z Z (by simp only[vc,List.length_cons,List.length_nil,length_setCs];omega) ?_;intro _ H
   have H:=H.tF 1
   have H:=H.outFi;have H:=H.del (k:=0) rfl
   have H:=H.tF 2
   have H:=H.toFront (k:=2) rfl;have H:=H.toFront (k:=2) rfl;have H:=H.toFront (k:=2) rfl
   have H:=H.inFi
   have hchk7:=hput6 F5 z4 0 [_,_,_,_] (by simp) (show partO _ _ _ from⟨_,_,_,rfl,⟨by first|omega|(dsimp only;omega),by first|omega|(dsimp only;omega)⟩,hi5,ho5⟩)
   refine R_nil (N_B (N_K (W_region (mV Z (aD Z2 (aG Z (R_nil ?_)))))))
   refine N_lp (hJ:=⟨_,_,_,(xs.set k z4),(P6++(F5++Q6)),k+1,_,Z,hle2,H,?inv,Z⟩) (hm:=?hm)
   case hm=>omega
   case inv=>exact⟨hchk7,aN,(by exact⟨by omega,by simp[hxl],Sp.take_set hxt hxl hz4⟩)⟩
  intro hc3'
  try simp only[nrm]at hc3'
  refine W_exit (N_K_exit (N_LP_exit (N_B_same (N_K (q2 (pe 2 Z (q3 (W_ret (rt1 results25 Z ?_)))))))))
  have hke:k=a.length:=by omega
  have hxx:xs=a:=by (have h9:=hxt;rw[hke,List.take_of_length_le oM,List.take_length]at h9;exact h9)
  have H:=H.tF 1
  obtain⟨_,H,hOw2⟩:=H.ownF hchk2_0 aN aN
  have H:=H.forget hG (by simp)
  exact⟨_,_,Z,H,_,Z,hxx▸⟨_,hOw2⟩⟩
theorem w_markPartS_c (w0:World)(G0:PH)(hG:PSub G0 w0)(Fa:Fr)(va:Value)(a:List (BPart))(hOa:OPt Fa va a)(k:Int)(hLent:Lent w0 G0 [frag Fa])(hb:0≤k∧k+(cnt cPart a:Int)≤2199023255552) :
  Calls Tryz.prog 29 #[va,.int .i64 k] w0 (RetM w0 G0 (fps [frag Fa]) (fun G' v Bs=>∃(F':Fr),v= .int .i64 (k+(cnt cPart a:Int))∧Bs=[frag F']∧OPt F' va (mks mPart cPart k a))):=by
 obtain⟨ea,hPa⟩:=hOa;have hlima:a.length≤1099511627776:=hPa.1;obtain⟨aa,ka,rfl⟩:=OwnS.shape hPa
 have H:Hp w0 G0 (fps [frag Fa]) w0 G0 [frag Fa]:=hLent.hp
 obtain⟨_,Ra,H,hcka⟩:=H.openF hPa
 refine calls_of_W (l:=[.slice aa a.length ka,.int .i64 k]) func29 Z ntmps29 Z (q2 (aG Z (q3 (W_seq (q2 (aG Z (q3 (W_block ?_))))))))
 refine W_lp (hf:=(Sub.cons (t:=4) Z Sub.nil)) (J:=fun M w m=>∃(v:Value) (n:Nat) (cs:List Value) (xs:List (BPart)) (F:Fr) (i:Nat) (kk:Int) (G:PH),M=[(5,.int .i64 (i:Int)),(1,.int .i64 kk),(0,v)]∧PLe G0 G∧Hp w0 G0 (fps [frag Fa]) w G [acc ea 4 v n cs,frag F]∧(ChkF partO 4 cs xs F∧n=xs.length∧i≤a.length∧kk=k+(cnt cPart (a.take i):Int)∧xs=mks mPart cPart k (a.take i)++a.drop i∧v= .slice aa a.length ka)∧m=(a.length-i)) (h0:=⟨_,_,_,a,Ra,0,k,_,Z,PLe.refl _,H,?inv,Z⟩) (round:=?round)
 case inv=>exact⟨hcka,by first|rfl|simp|(simp;omega)|omega,(by simp[cnt,mks])⟩
 case round =>
  rintro _ _ _ ⟨v,n,cs,xs,F,i,kk,_,rfl,hle1,H,hinv1,rfl⟩
  obtain⟨hchk1_0,_,hinv1⟩:=hinv1
  obtain⟨_,_,rfl⟩:=H.accShape (k:=0) rfl
  obtain⟨hi,hkk,hxs,hv⟩:=hinv1;have hxl:xs.length=a.length:=(by (rw[hxs];exact half_len hi));have hctk:=cnt_tk (c:=cPart) a i;have hmt:(mtext (kk+1)).length≤16777216:=(by have h9:=mtext_len (k:=kk+1) oM;omega)
  refine W_seq (q2 (pe 2 Z (lN Z (pe 1 Z (q3 ?_)))))
  refine W_cond Z ?_ ?_
  ·intro hc2
   try simp only[nrm]at hc2
   refine W_skip (N_K (W_seq (W_block (q2 (pe 3 Z ?_)))))
   obtain⟨z3,hz3⟩:∃z,xs[i]? = some z:=⟨_,List.getElem?_eq_getElem aN⟩
   obtain⟨_,_,_,_,hF3,_,hE3,_,hput3,hpu03⟩:=(hchk1_0).focus hz3
   rw[hF3]at H
   refine o_index_F 0 H i Z underlying28 sizeOf39 Z Z Z Z aN ?_;intro _ hba3;cases hba3
   obtain⟨_,_,_,rfl,hj3,hi3,ho3⟩:=hE3;have hy_hi3:_≤16777216:=hi3
   have hbk3:ChkF partO 4 _ (xs.set i z3) _:=hpu03 _ z3 (show partO _ _ _ from⟨_,_,_,rfl,hj3,hi3,ho3⟩)
   have hsame3:xs.set i z3=xs:=Fw.set_same hz3;rw[hsame3]at hbk3
   have hat:=half_at hxs hz3 hi;have hcl:=cnt_le (c:=cPart) hat
   have hch:cPart z3=3+cnt cI z3.bytes:=rfl
   refine fA 0 Z ?_
   have hcl4:=(hbk3).length
   have hlt4:i<xs.length:=(List.getElem?_eq_some_iff.1 hz3).1
   try simp only[length_setCs,List.length_set]at hcl4
   try simp only[List.length_set]at hlt4
   refine o_store_A 0 H sizeOf3 Z Z Z Z Z (by simp only[vc,List.length_cons,List.length_nil,length_setCs];omega) ?_;intro _ H
   have hchk4:=hput3 _ ⟨kk,z3.path,z3.dir,z3.bytes⟩ 0 [_] (by simp) (show partO _ _ _ from⟨_,_,_,rfl,⟨by first|omega|(dsimp only;omega),by first|omega|(dsimp only;omega)⟩,hi3,ho3⟩)
   refine q1 (mV Z (aD Z2 (aG Z (q1 (pe 3 Z (xr H Z2 (w_markText_c _ _ oM) ?_))))));intro _ H
   obtain⟨z7,hz7⟩:∃z,(xs.set i ⟨kk,z3.path,z3.dir,z3.bytes⟩)[i]? = some z:=⟨_,List.getElem?_eq_getElem aN⟩
   obtain⟨_,_,_,_,hF7,_,hE7,_,hput7,hpu07⟩:=(hchk4).focus hz7
   rw[hF7]at H
   refine o_index_F 0 H i Z underlying28 sizeOf39 Z Z Z Z aN ?_;intro _ hba7;cases hba7
   obtain⟨_,_,_,rfl,hj7,hi7,ho7⟩:=hE7;have hy_hi7:_≤16777216:=hi7
   have hbk7:ChkF partO 4 _ ((xs.set i ⟨kk,z3.path,z3.dir,z3.bytes⟩).set i z7) _:=hpu07 _ z7 (show partO _ _ _ from⟨_,_,_,rfl,hj7,hi7,ho7⟩)
   have hsame7:(xs.set i ⟨kk,z3.path,z3.dir,z3.bytes⟩).set i z7=(xs.set i ⟨kk,z3.path,z3.dir,z3.bytes⟩):=Fw.set_same hz7;rw[hsame7]at hbk7
   have hze7:=Fw.set_at hz7
   have hzb7:z7.bytes=z3.bytes:=by simp only[hze7]
   have hzc7:cnt cI z7.bytes=cnt cI z3.bytes:=by rw[hzb7]
   refine fA 1 Z ?_
   have hcl8:=(hbk7).length
   have hlt8:i<(xs.set i ⟨kk,z3.path,z3.dir,z3.bytes⟩).length:=(List.getElem?_eq_some_iff.1 hz7).1
   try simp only[length_setCs,List.length_set]at hcl8
   try simp only[List.length_set]at hlt8
   refine o_store_A 0 H sizeOf9 Z Z Z Z Z (by simp only[vc,List.length_cons,List.length_nil,length_setCs];omega) ?_;intro _ H
   have hchk8:=hput7 _ ⟨z7.kind,mtext (kk+1),z7.dir,z7.bytes⟩ 1 [_] (by simp) (show partO _ _ _ from⟨_,_,_,rfl,hj7,(by (first|assumption|(refine Sp.l5Parent_lim ?_;assumption)|(simp;done)|(simp;omega)|omega)),ho7⟩)
   refine q1 (mV Z (aD Z2 (aG Z (q1 (pe 3 Z (o_rem Z Z Z oM oM (pe 1 Z ?_)))))))
   obtain⟨z10,hz10⟩:∃z,((xs.set i ⟨kk,z3.path,z3.dir,z3.bytes⟩).set i ⟨z7.kind,mtext (kk+1),z7.dir,z7.bytes⟩)[i]? = some z:=⟨_,List.getElem?_eq_getElem aN⟩
   obtain⟨_,_,_,_,hF10,_,hE10,_,hput10,hpu010⟩:=(hchk8).focus hz10
   rw[hF10]at H
   refine o_index_F 0 H i Z underlying28 sizeOf39 Z Z Z Z aN ?_;intro _ hba10;cases hba10
   obtain⟨_,_,_,rfl,hj10,hi10,ho10⟩:=hE10;have hy_hi10:_≤16777216:=hi10
   have hbk10:ChkF partO 4 _ (((xs.set i ⟨kk,z3.path,z3.dir,z3.bytes⟩).set i ⟨z7.kind,mtext (kk+1),z7.dir,z7.bytes⟩).set i z10) _:=hpu010 _ z10 (show partO _ _ _ from⟨_,_,_,rfl,hj10,hi10,ho10⟩)
   have hsame10:((xs.set i ⟨kk,z3.path,z3.dir,z3.bytes⟩).set i ⟨z7.kind,mtext (kk+1),z7.dir,z7.bytes⟩).set i z10=((xs.set i ⟨kk,z3.path,z3.dir,z3.bytes⟩).set i ⟨z7.kind,mtext (kk+1),z7.dir,z7.bytes⟩):=Fw.set_same hz10;rw[hsame10]at hbk10
   have hze10:=Fw.set_at hz10
   have hzb10:z10.bytes=z3.bytes:=by simp only[hze10,hze7]
   have hzc10:cnt cI z10.bytes=cnt cI z3.bytes:=by rw[hzb10]
   refine fA 2 Z ?_
   have hcl11:=(hbk10).length
   have hlt11:i<((xs.set i ⟨kk,z3.path,z3.dir,z3.bytes⟩).set i ⟨z7.kind,mtext (kk+1),z7.dir,z7.bytes⟩).length:=(List.getElem?_eq_some_iff.1 hz10).1
   try simp only[length_setCs,List.length_set]at hcl11
   try simp only[List.length_set]at hlt11
   refine o_store_A 0 H sizeOf4 Z Z Z Z Z (by simp only[vc,List.length_cons,List.length_nil,length_setCs];omega) ?_;intro _ H
   have hchk11:=hput10 _ ⟨z10.kind,z10.path,decide ((kk+1+1) % 3=0),z10.bytes⟩ 2 [_] (by simp) (show partO _ _ _ from⟨_,_,_,rfl,hj10,hi10,ho10⟩)
   refine q1 (mV Z (aD Z2 (aG Z (q3 (W_region (pe 2 Z ?_))))))
   obtain⟨z13,hz13⟩:∃z,(((xs.set i ⟨kk,z3.path,z3.dir,z3.bytes⟩).set i ⟨z7.kind,mtext (kk+1),z7.dir,z7.bytes⟩).set i ⟨z10.kind,z10.path,decide ((kk+1+1) % 3=0),z10.bytes⟩)[i]? = some z:=⟨_,List.getElem?_eq_getElem aN⟩
   obtain⟨_,P13,_,Q13,hF13,_,hE13,hg13,_,hpu013⟩:=(hchk11).focus hz13
   rw[hF13]at H
   refine o_index_F 0 H i Z underlying28 sizeOf39 Z Z Z Z aN ?_;intro _ hba13;cases hba13
   obtain⟨_,_,_,rfl,hj13,hi13,ho13⟩:=hE13;have hy_hi13:_≤16777216:=hi13
   have hbk13:ChkF partO 4 _ ((((xs.set i ⟨kk,z3.path,z3.dir,z3.bytes⟩).set i ⟨z7.kind,mtext (kk+1),z7.dir,z7.bytes⟩).set i ⟨z10.kind,z10.path,decide ((kk+1+1) % 3=0),z10.bytes⟩).set i z13) _:=hpu013 _ z13 (show partO _ _ _ from⟨_,_,_,rfl,hj13,hi13,ho13⟩)
   have hsame13:(((xs.set i ⟨kk,z3.path,z3.dir,z3.bytes⟩).set i ⟨z7.kind,mtext (kk+1),z7.dir,z7.bytes⟩).set i ⟨z10.kind,z10.path,decide ((kk+1+1) % 3=0),z10.bytes⟩).set i z13=(((xs.set i ⟨kk,z3.path,z3.dir,z3.bytes⟩).set i ⟨z7.kind,mtext (kk+1),z7.dir,z7.bytes⟩).set i ⟨z10.kind,z10.path,decide ((kk+1+1) % 3=0),z10.bytes⟩):=Fw.set_same hz13;rw[hsame13]at hbk13
   have hze13:=Fw.set_at hz13
   have hzb13:z13.bytes=z3.bytes:=by simp only[hze13,hze10,hze7]
   have hzc13:cnt cI z13.bytes=cnt cI z3.bytes:=by rw[hzb13]
   refine fA 3 Z (o_load_A 0 H isAgg37 Z Z Z (hg13 3 _ Z) (mV Z ?_))
   have H:=H.tF 1
   have H:=H.outFi
   refine xc Z2 (w_markIntS_c _ _ H.sub _ _ _ ho13 _ H.lent1 oO) ?_
   rintro _ _ ⟨_,_,_,rfl,H14',⟨F14,rfl,rfl,hO14⟩⟩
   have hle1:=hle1.trans H14'.le
   have H:=H.borrow1 H14'
   refine⟨_,Z,?_⟩
   have H:=H.tF 2
   have H:=H.tF 2
   have H:=H.tF 2
   have H:=H.inFi
   have hcb1:=hpu013 F14 ⟨z13.kind,z13.path,z13.dir,mks mI cI (kk+1+1+1) z13.bytes⟩ (show partO _ _ _ from⟨_,_,_,rfl,hj13,hi13,hO14⟩)
   refine aG Z (R_nil (N_B (N_K (W_region (mV Z (aD Z2 (aG Z (R_nil ?_))))))))
   have H:=H.tF 1
   refine N_lp (hJ:=⟨_,_,_,((((xs.set i ⟨kk,z3.path,z3.dir,z3.bytes⟩).set i ⟨z7.kind,mtext (kk+1),z7.dir,z7.bytes⟩).set i ⟨z10.kind,z10.path,decide ((kk+1+1) % 3=0),z10.bytes⟩).set i ⟨z13.kind,z13.path,z13.dir,mks mI cI (kk+1+1+1) z13.bytes⟩),(P13++(F14++Q13)),i+1,kk+1+1+1+(cnt cI z13.bytes:Int),_,Z,hle1,H,?inv,Z⟩) (hm:=?hm)
   case hm=>omega
   case inv=>exact⟨hcb1,aN,(by exact⟨by omega,by (rw[cnt_succ hat];omega),(by (subst hze13;subst hze10;subst hze7;simp only[List.set_set];exact half_step hxs hz3 hi (by (rw[←hkk];rfl)))),hv⟩)⟩
  intro hc2'
  try simp only[nrm]at hc2'
  refine W_exit (N_K_exit (N_LP_exit (N_B_same (N_K (q2 (pe 2 Z (q3 (W_ret (rt1 results29 Z ?_)))))))))
  have hie:i=a.length:=by omega
  have hxx:xs=mks mPart cPart k a:=by (rw[hxs];exact half_end hie)
  have hce:=cnt_end (c:=cPart) hie
  have H:=H.tF 1
  have H:=H.tF 1
  obtain⟨_,H,hOw2⟩:=H.ownF hchk1_0 aN aN
  exact H.retM ⟨_,congrArg (Value.int .i64) (by (rw[hkk,hce])),rfl,hxx▸hv▸⟨_,hOw2⟩⟩
theorem xStreamRun_c (w0:World)(G0:PH)(hG:PSub G0 w0)(caD:List Value)(aD:BDisk)(haD:diskE G0 aD caD)(vaParts:Value)(aParts:List (BPart))(haParts:RdPart G0 vaParts aParts) :
  Calls Tryz.prog 8 #[.agg caD.toArray,vaParts] w0 (Rets w0 (.bool true)):=by
 obtain⟨_,_,_,_,_,_,_,_,_,rfl,hr1,hr1',hr1'',⟨_,_⟩,⟨_,_⟩,_,_⟩:=ox haD
 obtain⟨aaParts,kaParts,rfl⟩:=haParts.shape
 have hlimaParts:aParts.length≤1099511627776:=haParts.lim
 have hcd0:=cDisk_le aD
 have hcD:cDisk ((Sp.StreamRun aD aParts).getD ⟨[],[],[]⟩)≤700:=dk_cnt (fun d1 h=>Sp.srun_valid h)
 have hci:=cParts_le aParts
 have H:=Hp.init hG
 refine calls_of_W (l:=[_,.slice aaParts aParts.length kaParts]) func8 Z ntmps8 Z (q2 (o_box H Z Z Z ?_));intro _ _ _ H
 refine aG Z (q1 (aG Z (q1 (lA 0 3 H Z4 (mV Z (xc Z2 (w_szDisk_c _ _ H.sub _ aD ⟨_,_,_,_,_,_,_,_,_,Z,hr1,hr1',hr1''⟩ _ oO) ?_))))))
 rintro _ _ ⟨_,rfl,ew3,⟨_,rfl,_⟩⟩
 skip
 have H:=H.step ew3;refine⟨_,rfl,?_⟩
 refine aG Z (q3 (W_seq (q2 (pe 2 Z (q3 ?_)))))
 refine W_cond Z ?_ ?_
 ·intro hc4
  try simp only[nrm]at hc4
  refine q2 (aG Z (q3 (W_ret (N_K_ret (rt1 results8 Z ?_)))))
  exact H.rets Z
 intro hc4'
 try simp only[nrm]at hc4'
 refine W_skip (N_K (q2 (pe 2 Z (xc Z2 (w_szPartS_c _ _ H.sub _ _ haParts _ oO) ?_))))
 rintro _ _ ⟨_,rfl,ew5,⟨_,rfl,_⟩⟩
 skip
 have H:=H.step ew5;refine⟨_,rfl,?_⟩
 refine aG Z (q3 (W_seq (q2 (pe 2 Z (q3 ?_)))))
 refine W_cond Z ?_ ?_
 ·intro hc6
  try simp only[nrm]at hc6
  refine q2 (aG Z (q3 (W_ret (N_K_ret (rt1 results8 Z ?_)))))
  exact H.rets Z
 intro hc6'
 try simp only[nrm]at hc6'
 refine W_skip (N_K (q2 (lA 0 3 H Z4 (xc Z2 (w_toDisk_c _ _ H.sub _ aD ⟨_,_,_,_,_,_,_,_,_,Z,hr1,hr1',hr1''⟩) ?_))))
 rintro _ _ ⟨_,_,rfl,H7',⟨_,_,_,_,_,_,rfl,rfl,ho17,ho27,ho37⟩⟩
 have H:=H.readers (fp:=[]) (by simp) (PLe.refl _) H7'
 obtain⟨_,p17⟩:=ho17
 obtain⟨_,_,rfl⟩:=OwnS.shape p17
 obtain⟨_,p27⟩:=ho27
 obtain⟨_,_,rfl⟩:=OwnS.shape p27
 obtain⟨_,p37⟩:=ho37
 obtain⟨_,_,rfl⟩:=OwnS.shape p37
 refine⟨_,Z,?_⟩
 refine mV Z (xc Z2 (w_toPartS_c _ _ H.sub _ _ haParts) ?_)
 rintro _ _ ⟨_,_,rfl,H8',⟨_,rfl,hO8⟩⟩
 have H:=H.readers (fp:=[]) (by simp) (PLe.refl _) H8'
 obtain⟨_,hP8⟩:=hO8
 obtain⟨_,_,rfl⟩:=OwnS.shape hP8
 have hO8:=OPt.mk hP8
 refine⟨_,Z,?_⟩
 have hnd10:=dm_nodup H (k:=1) rfl;obtain⟨_,H,hsg10,hsf10⟩:=H.keepF (k:=1) rfl (by simp);have hsr10:=(show OHs _ _ _ from⟨_,p17⟩).rd hsf10 hnd10
 have hr1:=hr1.up hsg10
 have hr1':=hr1'.up hsg10
 have hr1'':=hr1''.up hsg10
 have haParts:=haParts.up hsg10
 have hnd11:=dm_nodup H (k:=1) rfl;obtain⟨_,H,hsg11,hsf11⟩:=H.keepF (k:=1) rfl (by simp);have hsr11:=(show OIs _ _ _ from⟨_,p27⟩).rd hsf11 hnd11
 have hr1:=hr1.up hsg11
 have hr1':=hr1'.up hsg11
 have hr1'':=hr1''.up hsg11
 have haParts:=haParts.up hsg11
 have hsr10:=hsr10.up hsg11
 have hnd12:=dm_nodup H (k:=1) rfl;obtain⟨_,H,hsg12,hsf12⟩:=H.keepF (k:=1) rfl (by simp);have hsr12:=(show OSn _ _ _ from⟨_,p37⟩).rd hsf12 hnd12
 have hr1:=hr1.up hsg12
 have hr1':=hr1'.up hsg12
 have hr1'':=hr1''.up hsg12
 have haParts:=haParts.up hsg12
 have hsr10:=hsr10.up hsg12
 have hsr11:=hsr11.up hsg12
 have hnd13:=dm_nodup H (k:=0) rfl;obtain⟨_,H,hsg13,hsf13⟩:=H.keepF (k:=0) rfl (by simp);have hsr13:=(show OPt _ _ _ from hO8).rd hsf13 hnd13
 have hr1:=hr1.up hsg13
 have hr1':=hr1'.up hsg13
 have hr1'':=hr1''.up hsg13
 have haParts:=haParts.up hsg13
 have hsr10:=hsr10.up hsg13
 have hsr11:=hsr11.up hsg13
 have hsr12:=hsr12.up hsg13
 refine xc Z2 (StreamRun_c _ _ H.sub _ aD ⟨_,_,_,_,_,_,_,_,_,Z,hsr10,hsr11,hsr12⟩ _ _ hsr13) ?_
 rintro _ _ ⟨G9,_,g9,rfl,_,rfl,hr9_0⟩
 have H:=H.grow g9
 have hr1:=hr1.up g9.le
 have hr1':=hr1'.up g9.le
 have hr1'':=hr1''.up g9.le
 have haParts:=haParts.up g9.le
 obtain⟨_,_,_,_,_,_,_,_,_,rfl,hr14,hr14',hr14'',⟨_,_⟩,⟨_,_⟩,_,_⟩:=ox hr9_0
 refine⟨_,Z,?_⟩
 refine pe 3 Z (xal H Z ?_);intro _ _ _ H
 refine xst 0 H Z8 ?_;intro _ H
 refine aG Z (q1 (lA 1 3 H Z4 (xc Z2 (w_toDisk_c _ _ H.sub _ aD ⟨_,_,_,_,_,_,_,_,_,Z,hr1,hr1',hr1''⟩) ?_)))
 rintro _ _ ⟨_,_,rfl,H17',⟨_,_,_,_,_,_,rfl,rfl,ho117,ho217,ho317⟩⟩
 have H:=H.readers (fp:=[]) (by simp) (PLe.refl _) H17'
 obtain⟨_,p117⟩:=ho117
 obtain⟨_,_,rfl⟩:=OwnS.shape p117
 obtain⟨_,p217⟩:=ho217
 obtain⟨_,_,rfl⟩:=OwnS.shape p217
 obtain⟨_,p317⟩:=ho317
 obtain⟨_,_,rfl⟩:=OwnS.shape p317
 refine⟨_,Z,?_⟩
 refine xal H Z ?_;intro _ _ _ H
 refine xst 0 H Z8 ?_;intro _ H
 refine q1 (mV Z (xc Z2 (w_toPartS_c _ _ H.sub _ _ haParts) ?_))
 rintro _ _ ⟨_,_,rfl,H20',⟨_,rfl,hO20⟩⟩
 have H:=H.readers (fp:=[]) (by simp) (PLe.refl _) H20'
 obtain⟨_,hP20⟩:=hO20
 obtain⟨_,_,rfl⟩:=OwnS.shape hP20
 have hO20:=OPt.mk hP20
 refine⟨_,Z,?_⟩
 refine aG Z (q1 (lA 1 3 H Z4 (mV Z (xc Z2 (i_StreamRun_c _ _ (H.lendSubL [0,2,3,4]) _ aD ⟨_,_,_,_,_,_,_,_,_,Z,(H.lendOHs (k:=2) (ks:=[0,2,3,4]) Z Z ⟨_,p117⟩),(H.lendOIs (k:=3) (ks:=[0,2,3,4]) Z Z ⟨_,p217⟩),(H.lendOSn (k:=4) (ks:=[0,2,3,4]) Z Z ⟨_,p317⟩)⟩ _ _ (H.lendOPt (k:=0) (ks:=[0,2,3,4]) Z Z hO20)) ?_))))
 rintro _ _ ⟨_,_,rfl,H21',⟨_,_,_,_,_,_,rfl,rfl,ho121,ho221,ho321⟩⟩
 have H:=H.readersL H21'
 obtain⟨_,p121⟩:=ho121
 obtain⟨_,_,rfl⟩:=OwnS.shape p121
 obtain⟨_,p221⟩:=ho221
 obtain⟨_,_,rfl⟩:=OwnS.shape p221
 obtain⟨_,p321⟩:=ho321
 obtain⟨_,_,rfl⟩:=OwnS.shape p321
 refine⟨_,Z,?_⟩
 refine pe 3 Z (xal H Z ?_);intro _ _ _ H
 refine xst 0 H Z8 ?_;intro _ H
 refine aG Z (q3 (W_seq (q2 (lA 0 3 H Z4 (lA 9 3 H Z4 (xr H Z2 (w_eqDisk_c _ _ (H.lendSubL [1,2,3]) _ ((Sp.StreamRun aD aParts).getD ⟨[],[],[]⟩) ⟨_,_,_,_,_,_,_,_,_,Z,(H.lendOHs (k:=1) (ks:=[1,2,3]) Z Z ⟨_,p121⟩),(H.lendOIs (k:=2) (ks:=[1,2,3]) Z Z ⟨_,p221⟩),(H.lendOSn (k:=3) (ks:=[1,2,3]) Z Z ⟨_,p321⟩)⟩ _ ((Sp.StreamRun aD aParts).getD ⟨[],[],[]⟩) ⟨_,_,_,_,_,_,_,_,_,Z,(hr14.up (PPlus.le _ _ _)),(hr14'.up (PPlus.le _ _ _)),(hr14''.up (PPlus.le _ _ _))⟩ Z) ?_))))));intro _ H
 refine pe 4 Z (gR Z (o_bneq_same underlying4 Z Z Z (pe 1 Z (q3 (W_false Z (W_skip (N_K (W_seq (W_seq (W_drawK [0,5,9,10] 5 H kR Z ?_))))))))));intro _ H;have hd25:=PLe.refl G9
 refine RD_t 0 Z kR Z (fun _ hK=>v_loadagg_B 1 hK isAgg27 sizeOf27 Z Z Z Z) (RD_t 1 Z kR Z (fun _ hK=>v_loadagg_B 3 hK isAgg54 sizeOf54 Z Z Z Z) (r1 2 Z (xc Z2 (w_toDisk_c _ _ H.sub _ aD ⟨_,_,_,_,_,_,_,_,_,Z,hr1,hr1',hr1''⟩) ?_)))
 rintro _ _ ⟨_,_,rfl,H26',⟨_,_,_,_,_,_,rfl,rfl,ho126,ho226,ho326⟩⟩
 have H:=H.readers (fp:=[]) (by simp) (PLe.refl _) H26'
 obtain⟨_,p126⟩:=ho126
 obtain⟨_,_,rfl⟩:=OwnS.shape p126
 obtain⟨_,p226⟩:=ho226
 obtain⟨_,_,rfl⟩:=OwnS.shape p226
 obtain⟨_,p326⟩:=ho326
 obtain⟨_,_,rfl⟩:=OwnS.shape p326
 refine⟨_,Z,?_⟩
 refine q4 H hd25 (r1 3 Z (xr H Z2 (w_eqDisk_c _ _ (H.lendSubL [0,1,2,9,10,11]) _ aD ⟨_,_,_,_,_,_,_,_,_,Z,(H.lendOHs (k:=9) (ks:=[0,1,2,9,10,11]) Z Z ⟨_,p117⟩),(H.lendOIs (k:=10) (ks:=[0,1,2,9,10,11]) Z Z ⟨_,p217⟩),(H.lendOSn (k:=11) (ks:=[0,1,2,9,10,11]) Z Z ⟨_,p317⟩)⟩ _ aD ⟨_,_,_,_,_,_,_,_,_,Z,(H.lendOHs (k:=0) (ks:=[0,1,2,9,10,11]) Z Z ⟨_,p126⟩),(H.lendOIs (k:=1) (ks:=[0,1,2,9,10,11]) Z Z ⟨_,p226⟩),(H.lendOSn (k:=2) (ks:=[0,1,2,9,10,11]) Z Z ⟨_,p326⟩)⟩ Z) ?_));intro _ H
 refine q4 H hd25 (dE 4 Z2 (rz (N_K (W_false Z (W_skip (N_K (W_seq (q2 (pe 2 Z (xc Z2 (w_toPartS_c _ _ H.sub _ _ haParts) ?_))))))))))
 rintro _ _ ⟨_,_,rfl,H28',⟨_,rfl,hO28⟩⟩
 have H:=H.readers (fp:=[]) (by simp) (PLe.refl _) H28'
 obtain⟨_,hP28⟩:=hO28
 obtain⟨_,_,rfl⟩:=OwnS.shape hP28
 have hO28:=OPt.mk hP28
 refine⟨_,Z,?_⟩
 refine xr H Z2 (w_eqPartS_c _ _ (H.lendSubL [0,8]) _ _ (H.lendOPt (k:=8) (ks:=[0,8]) Z Z hO20) _ _ (H.lendOPt (k:=0) (ks:=[0,8]) Z Z hO28) Z) ?_;intro _ H
 refine pe 1 Z (q3 (W_false Z (W_skip (N_K (q2 (aG Z (q1 (lA 9 3 H Z4 (mV Z ?_)))))))))
 have H:=H.tF 12
 have H:=H.tF 12
 have H:=H.tF 12
 refine xc Z2 (w_markDisk_c _ _ H.sub _ _ _ _ _ _ aD ⟨_,p117⟩ ⟨_,p217⟩ ⟨_,p317⟩ _ H.lent3 oO) ?_
 rintro _ _ ⟨_,_,_,rfl,H30',⟨_,_,_,rfl,rfl,_,_,_⟩⟩
 have hr1:=hr1.up H30'.le
 have hr1':=hr1'.up H30'.le
 have hr1'':=hr1''.up H30'.le
 have haParts:=haParts.up H30'.le
 have hr14:=hr14.up H30'.le
 have hr14':=hr14'.up H30'.le
 have hr14'':=hr14''.up H30'.le
 have H:=H.borrow3 H30'
 refine⟨_,Z,?_⟩
 refine aG Z (q1 (pe 2 Z ?_))
 have H:=H.tF 11
 refine xc Z2 (w_markPartS_c _ _ H.sub _ _ _ hO20 _ H.lent1 oO) ?_
 rintro _ _ ⟨_,_,_,rfl,H31',⟨_,rfl,rfl,_⟩⟩
 have hr1:=hr1.up H31'.le
 have hr1':=hr1'.up H31'.le
 have hr1'':=hr1''.up H31'.le
 have haParts:=haParts.up H31'.le
 have hr14:=hr14.up H31'.le
 have hr14':=hr14'.up H31'.le
 have hr14'':=hr14''.up H31'.le
 have H:=H.borrow1 H31'
 refine⟨_,Z,?_⟩
 refine aG Z (q3 (W_seq (q2 (pe 3 Z ?_))))
 refine R_case (t:=72) Z ?_ ?_
 ·intro hc32
  try simp only[nrm]at hc32
  exact absurd (show False from by first|omega|(simp at hc32;done)|exact hc32 rfl) id
 intro hc32'
 try simp only[nrm]at hc32'
 refine gR Z (lA 8 3 H Z4 (gR Z (lA 13 3 H Z4 (gR Z (xr H Z2 (w_eqDisk_c _ _ (H.lendSubL [9,10,11]) _ ((Sp.StreamRun aD aParts).getD ⟨[],[],[]⟩) ⟨_,_,_,_,_,_,_,_,_,Z,(H.lendOHs (k:=9) (ks:=[9,10,11]) Z Z ⟨_,p121⟩),(H.lendOIs (k:=10) (ks:=[9,10,11]) Z Z ⟨_,p221⟩),(H.lendOSn (k:=11) (ks:=[9,10,11]) Z Z ⟨_,p321⟩)⟩ _ ((Sp.StreamRun aD aParts).getD ⟨[],[],[]⟩) ⟨_,_,_,_,_,_,_,_,_,Z,(hr14.up (PPlus.le _ _ _)),(hr14'.up (PPlus.le _ _ _)),(hr14''.up (PPlus.le _ _ _))⟩ Z) ?_)))));intro _ H
 refine pe 5 Z (gR Z (o_bneq_same underlying4 Z Z Z (pe 1 Z (q3 (W_false Z (W_skip (N_K (q2 (aG Z (q1 (lA 8 3 H Z4 (mV Z ?_))))))))))))
 have H:=H.tF 11
 have H:=H.tF 11
 have H:=H.tF 11
 refine xc Z2 (w_markDisk_c _ _ H.sub _ _ _ _ _ _ ((Sp.StreamRun aD aParts).getD ⟨[],[],[]⟩) ⟨_,p121⟩ ⟨_,p221⟩ ⟨_,p321⟩ _ H.lent3 oO) ?_
 rintro _ _ ⟨_,_,_,rfl,H34',⟨_,_,_,rfl,rfl,hK134,hK234,hK334⟩⟩
 have hr1:=hr1.up H34'.le
 have hr1':=hr1'.up H34'.le
 have hr1'':=hr1''.up H34'.le
 have haParts:=haParts.up H34'.le
 have hr14:=hr14.up H34'.le
 have hr14':=hr14'.up H34'.le
 have hr14'':=hr14''.up H34'.le
 have H:=H.borrow3 H34'
 refine⟨_,Z,?_⟩
 refine aG Z (q1 (aG Z (q1 (lA 11 3 H Z4 (mV Z (xr H Z2 (w_heldDisk_c _ _ (H.lendSubL [0,1,2]) _ (mDisk 1 ((Sp.StreamRun aD aParts).getD ⟨[],[],[]⟩)) ⟨_,_,_,_,_,_,_,_,_,Z,(H.lendOHs (k:=0) (ks:=[0,1,2]) Z Z hK134),(H.lendOIs (k:=1) (ks:=[0,1,2]) Z Z hK234),(H.lendOSn (k:=2) (ks:=[0,1,2]) Z Z hK334)⟩ _ ((Sp.StreamRun aD aParts).getD ⟨[],[],[]⟩) Z oO) ?_))))));intro _ H
 refine aG Z (q3 (W_seq (q2 (pe 2 Z (q3 ?_)))))
 refine W_cond Z ?_ ?_
 ·intro hc36
  try simp only[nrm]at hc36
  exact absurd (show False from by first|omega|(simp at hc36;done)|exact hc36 rfl) id
 intro hc36'
 try simp only[nrm]at hc36'
 refine W_skip (N_K (W_seq (q2 (pe 3 Z (q3 ?_)))))
 refine W_cond Z ?_ ?_
 ·intro hc37
  try simp only[nrm]at hc37
  exact absurd (show False from by first|omega|(simp at hc37;done)|exact hc37 rfl) id
 intro hc37'
 try simp only[nrm]at hc37'
 refine W_skip (N_K (q2 (lA 14 3 H Z4 (xc Z2 (w_toDisk_c _ _ H.sub _ aD ⟨_,_,_,_,_,_,_,_,_,Z,hr1,hr1',hr1''⟩) ?_))))
 rintro _ _ ⟨_,_,rfl,H38',⟨_,_,_,_,_,_,rfl,rfl,ho138,ho238,ho338⟩⟩
 have H:=H.readers (fp:=[]) (by simp) (PLe.refl _) H38'
 obtain⟨_,p138⟩:=ho138
 obtain⟨_,_,rfl⟩:=OwnS.shape p138
 obtain⟨_,p238⟩:=ho238
 obtain⟨_,_,rfl⟩:=OwnS.shape p238
 obtain⟨_,p338⟩:=ho338
 obtain⟨_,_,rfl⟩:=OwnS.shape p338
 refine⟨_,Z,?_⟩
 refine mV Z (xc Z2 (w_toPartS_c _ _ H.sub _ _ haParts) ?_)
 rintro _ _ ⟨_,_,rfl,H39',⟨_,rfl,hO39⟩⟩
 have H:=H.readers (fp:=[]) (by simp) (PLe.refl _) H39'
 obtain⟨_,hP39⟩:=hO39
 obtain⟨_,_,rfl⟩:=OwnS.shape hP39
 have hO39:=OPt.mk hP39
 refine⟨_,Z,?_⟩
 refine xc Z2 (i_StreamRun_c _ _ (H.lendSubL [0,1,2,3]) _ aD ⟨_,_,_,_,_,_,_,_,_,Z,(H.lendOHs (k:=1) (ks:=[0,1,2,3]) Z Z ⟨_,p138⟩),(H.lendOIs (k:=2) (ks:=[0,1,2,3]) Z Z ⟨_,p238⟩),(H.lendOSn (k:=3) (ks:=[0,1,2,3]) Z Z ⟨_,p338⟩)⟩ _ _ (H.lendOPt (k:=0) (ks:=[0,1,2,3]) Z Z hO39)) ?_
 rintro _ _ ⟨_,_,rfl,H40',⟨_,_,_,_,_,_,rfl,rfl,ho140,ho240,ho340⟩⟩
 have H:=H.readersL H40'
 obtain⟨_,p140⟩:=ho140
 obtain⟨_,_,rfl⟩:=OwnS.shape p140
 obtain⟨_,p240⟩:=ho240
 obtain⟨_,_,rfl⟩:=OwnS.shape p240
 obtain⟨_,p340⟩:=ho340
 obtain⟨_,_,rfl⟩:=OwnS.shape p340
 refine⟨_,Z,?_⟩
 refine pe 3 Z (xal H Z ?_);intro _ _ _ H
 refine xst 0 H Z8 ?_;intro _ H
 refine aG Z (q3 (W_seq (q2 (lA 0 3 H Z4 (lA 21 3 H Z4 (xr H Z2 (w_eqDisk_c _ _ (H.lendSubL [1,2,3]) _ ((Sp.StreamRun aD aParts).getD ⟨[],[],[]⟩) ⟨_,_,_,_,_,_,_,_,_,Z,(H.lendOHs (k:=1) (ks:=[1,2,3]) Z Z ⟨_,p140⟩),(H.lendOIs (k:=2) (ks:=[1,2,3]) Z Z ⟨_,p240⟩),(H.lendOSn (k:=3) (ks:=[1,2,3]) Z Z ⟨_,p340⟩)⟩ _ ((Sp.StreamRun aD aParts).getD ⟨[],[],[]⟩) ⟨_,_,_,_,_,_,_,_,_,Z,(hr14.up (PPlus.le _ _ _)),(hr14'.up (PPlus.le _ _ _)),(hr14''.up (PPlus.le _ _ _))⟩ Z) ?_))))));intro _ H
 refine pe 4 Z (gR Z (o_bneq_same underlying4 Z Z Z (pe 1 Z (q3 (W_false Z (W_skip (N_K (q2 (aG Z (q1 (lA 19 3 H Z4 (mV Z (xr H Z2 (w_heldDisk_c _ _ (H.lendSubL [8,9,10]) _ (mDisk 1 ((Sp.StreamRun aD aParts).getD ⟨[],[],[]⟩)) ⟨_,_,_,_,_,_,_,_,_,Z,(H.lendOHs (k:=8) (ks:=[8,9,10]) Z Z hK134),(H.lendOIs (k:=9) (ks:=[8,9,10]) Z Z hK234),(H.lendOSn (k:=10) (ks:=[8,9,10]) Z Z hK334)⟩ _ ((Sp.StreamRun aD aParts).getD ⟨[],[],[]⟩) Z oO) ?_)))))))))))));intro _ H
 refine aG Z (q3 (W_seq (q2 (pe 2 Z (q3 ?_)))))
 refine W_cond Z ?_ ?_
 ·intro hc45
  try simp only[nrm]at hc45
  exact absurd (show False from by first|omega|(simp at hc45;done)|exact hc45 rfl) id
 intro hc45'
 try simp only[nrm]at hc45'
 refine W_skip (N_K (W_seq (q2 (pe 3 Z (q3 ?_)))))
 refine W_cond Z ?_ ?_
 ·intro hc46
  try simp only[nrm]at hc46
  exact absurd (show False from by first|omega|(simp at hc46;done)|exact hc46 rfl) id
 intro hc46'
 try simp only[nrm]at hc46'
 refine W_skip (N_K (q2 (aG Z (q3 (W_ret (rt1 results8 Z ?_))))))
 exact H.rets Z
end Go.Proofs.Tst
