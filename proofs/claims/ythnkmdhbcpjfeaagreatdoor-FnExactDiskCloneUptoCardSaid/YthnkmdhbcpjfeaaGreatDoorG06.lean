/- Part 6 of the proof: contracts of functions of the program. Conditions: none. -/
import Derived.Test.YthnkmdhbcpjfeaaGreatDoorProg
import Derived.Test.YthnkmdhbcpjfeaaGreatDoorG02
import Derived.Test.YthnkmdhbcpjfeaaGreatDoorG03
import Derived.Test.YthnkmdhbcpjfeaaGreatDoorG04
import Derived.Test.YthnkmdhbcpjfeaaGreatDoorG05
set_option linter.all false
set_option maxRecDepth 100000
set_option maxHeartbeats 8000000
namespace Go.Proofs.Tst
open Go Fw Tryz
theorem l12Keep_c (w0:World)(G0:PH)(hG:PSub G0 w0)(vstore:Value)(store:List (BHeld))(hstore:RdH G0 vstore store)(vlist:Value)(list:List (BItem))(hlist:RdItems G0 vlist list) :
  Calls Tryz.prog 31 #[vstore,vlist] w0 (RetO w0 G0 (fun G v r=>∃u,v= .tuple #[u,.bool (Sp.l12Keep store list).isSome]∧AccOf heldE 3 113 ((Sp.l12Keep store list).getD []) G u r)):=by
 obtain⟨astore,kstore,rfl⟩:=hstore.shape
 have hlimstore:store.length≤1099511627776:=hstore.lim
 obtain⟨alist,klist,rfl⟩:=hlist.shape
 have hlimlist:list.length≤1099511627776:=hlist.lim
 have H:=Hp.init hG
 refine calls_of_W (l:=[.slice astore store.length kstore,.slice alist list.length klist]) func31 Z ntmps31 Z (q2 (pe 2 Z (q1 (mV Z (xc Z2 (l3Copy_c _ _ H.sub _ _ hstore) ?_)))))
 rintro _ _ ⟨G1,_,_,g1,rfl,⟨_,rfl,hchk1⟩,hp1,hq1,hs1⟩
 have H:=H.growO g1 hp1 hq1 hs1;obtain⟨_,_,rfl⟩:=H.accShape (k:=0) rfl
 have hlist:=hlist.up g1.le
 refine⟨_,Z,?_⟩
 refine aG Z (q3 (W_seq (q2 (aG Z (q3 (W_block ?_))))))
 refine W_lp (hf:=(Sub.cons (t:=1) Z Sub.nil)) (J:=fun M w m=>∃(vo:Value) (no:Nat) (cso:List Value) (xso:List (BHeld)) (k:Nat) (G:PH),M=[(7,.int .i64 (k:Int)),(6,vo)]∧PLe G1 G∧Hp w0 G0 [] w G [acc 113 3 vo no cso]∧(Chk heldE 3 G cso xso∧no=xso.length∧k≤list.length∧xso.length=store.length∧Sp.foldB Sp.keepT (list.take k) (some store)=some xso)∧m=(list.length-k)) (h0:=⟨_,_,_,store,0,_,Z,PLe.refl _,H,?inv,Z⟩) (round:=?round)
 case inv=>exact⟨hchk1,by first|rfl|simp|(simp;omega)|omega,(by exact⟨by omega,rfl,by simp[Sp.foldB]⟩)⟩
 case round =>
  rintro _ _ _ ⟨vo,no,cso,xso,k,G2,rfl,hle2,H,hinv2,rfl⟩
  have hlist:=hlist.up hle2
  obtain⟨hchk2_0,_,hinv2⟩:=hinv2
  obtain⟨_,_,rfl⟩:=H.accShape (k:=0) rfl
  obtain⟨_,hxl,hf⟩:=hinv2
  refine W_seq (q2 (pe 2 Z (lN Z (pe 1 Z (q3 ?_)))))
  refine W_cond Z ?_ ?_
  ·intro hc3
   try simp only[nrm]at hc3
   refine W_skip (N_K (W_seq (W_block (q2 (aG Z (q3 (W_block ?_)))))))
   refine W_lp (hf:=(Sub.cons (t:=1) Z (Sub.cons (t:=7) Z Sub.nil))) (J:=fun M w m=>∃(v:Value) (n:Nat) (cs:List Value) (xs:List (BHeld)) (j:Nat) (y:BItem) (G:PH),M=[(8,.int .i64 (j:Int)),(6,v)]∧PLe G2 G∧Hp w0 G0 [] w G [acc 113 3 v n cs]∧(Chk heldE 3 G cs xs∧n=xs.length∧list[k]? = some y∧j≤y.ids.length∧xs.length=store.length∧Sp.foldB Sp.StoreKeep (y.ids.take j) (some xso)=some xs)∧m=(y.ids.length-j)) (h0:=⟨_,_,_,xso,0,(list[k]'oM),_,Z,PLe.refl _,H,?inv,Z⟩) (round:=?round)
   case inv=>exact⟨hchk2_0,by first|rfl|simp|(simp;omega)|omega,(by exact⟨by simp,by omega,hxl,by simp[Sp.foldB]⟩)⟩
   case round =>
    rintro _ _ _ ⟨v,n,cs,xs,j,y,_,rfl,hle4,H,hinv4,rfl⟩
    have hlist:=hlist.up hle4
    have hle2:=hle2.trans hle4
    obtain⟨hchk4_0,_,hinv4⟩:=hinv4
    obtain⟨_,_,rfl⟩:=H.accShape (k:=0) rfl
    obtain⟨hy,_,hxl2,hf2⟩:=hinv4
    refine W_seq (q2 (pe 3 Z (iP k hlist Z3 Z ?_)));intro _ _ z5 _ hz5 hE5 hrow5
    obtain⟨_,_,_,rfl,_,hr5,_,_⟩:=ox hE5
    have hzz5:y=z5:=Option.some.inj (hy.symm.trans hz5)
    subst hzz5
    refine fA 2 Z (lP H hrow5 2 Z2 (lN Z (pe 1 Z (q3 ?_))))
    refine W_cond Z ?_ ?_
    ·intro hc6
     try simp only[nrm]at hc6
     refine W_skip (N_K (W_seq (W_block (q2 (pe 3 Z (iP k hlist Z3 Z ?_))))));intro _ _ z7 _ hz7 hE7 hrow7
     obtain⟨_,_,_,rfl,_,hr7,_,_⟩:=ox hE7
     have hzz7:y=z7:=Option.some.inj (hy.symm.trans hz7)
     subst hzz7
     refine fA 2 Z (lP H hrow7 2 Z2 (mV Z (iP j hr7 Z3 Z ?_)));intro _ _ z8 _ hz8 hE8 hrow8
     obtain⟨rfl,_⟩:=hE8
     refine lP H hrow8 0 Z2 ?_
     obtain⟨_,H,hsg10,hsr10⟩:=H.shut' (k:=0) rfl hchk4_0 aN aN
     have hle4:=hle4.trans hsg10
     refine xc Z2 (StoreKeep_c _ _ H.sub _ _ hsr10 _) ?_
     rintro _ _ ⟨G9,_,_,g9,rfl,⟨_,rfl,⟨_,rfl,hchk9⟩⟩,hp9,hq9,hs9⟩
     have H:=H.growO g9 hp9 hq9 hs9;obtain⟨_,_,rfl⟩:=H.accShape (k:=0) rfl
     have hle4:=hle4.trans g9.le
     refine⟨_,Z,?_⟩
     refine pe 5 Z (q3 (W_seq (q2 (pe 2 Z (q3 ?_)))))
     refine W_cond Z ?_ ?_
     ·intro hc11
      try simp only[nrm]at hc11
      refine q2 (xbs H Z7 ?_);intro _ _ _ H
      have H:=H.blkAcc 3 (k:=0) (n:=0) rfl rfl (by decide)
      refine pe 2 Z (q3 (W_ret (N_K_ret (N_B_ret (N_K_ret (N_LP_ret (N_B_ret (N_B_ret (N_K_ret (N_LP_ret (N_B_ret (N_K_ret (rt2 results31 Z Z ?_)))))))))))))
      have hN:Sp.l12Keep store list=none:=by (have hno:Sp.StoreKeep xs z8=none:=by simpa using hc11);unfold Sp.l12Keep;exact Sp.foldB_stop hf hy (by unfold Sp.keepT;exact Sp.foldB_stop hf2 hz8 hno)
      exact H.retO (k:=0) rfl (by rw[hN];exact⟨_,rfl,AccOf.mk aN (Chk.nil (E:=heldE) (sz:=3) (G:=G9))⟩) (acc_nd _ _ _ _ _)
     intro hc11'
     try simp only[nrm]at hc11'
     obtain⟨p,hsp⟩:=Option.isSome_iff_exists.1 hc11'
     rw[hsp]at H hchk9 ⊢
     dsimp only[Option.map,Option.getD]at H hchk9
     refine W_skip (N_K (W_region (pe 2 Z (R_nil (N_B (N_K (W_region (mV Z (aD Z2 (aG Z (R_nil ?_)))))))))))
     refine N_lp (hJ:=⟨_,_,_,p,j+1,y,_,Z,hle4,H,?inv,Z⟩) (hm:=?hm)
     case hm=>omega
     case inv=>exact⟨hchk9,aN,(by exact⟨hy,by omega,by rw[Sp.keep_len hsp];exact hxl2,Sp.foldB_succ hf2 hz8 hsp⟩)⟩
    intro hc6'
    try simp only[nrm]at hc6'
    refine W_exit (N_K_exit (N_LP_exit (N_B_same (N_B (N_K (W_region (mV Z (aD Z2 (aG Z (R_nil ?_))))))))))
    refine N_lp (hJ:=⟨_,_,_,xs,k+1,_,Z,hle2,H,?inv,Z⟩) (hm:=?hm)
    case hm=>omega
    case inv=>exact⟨hchk4_0,aN,(by exact⟨by omega,hxl2,Sp.foldB_succ hf hy (by unfold Sp.keepT;exact Sp.foldB_all hf2 oM)⟩)⟩
  intro hc3'
  try simp only[nrm]at hc3'
  refine W_exit (N_K_exit (N_LP_exit (N_B_same (N_K (q2 (pe 3 Z (q3 (W_ret (rt2 results31 Z Z ?_)))))))))
  have hY:Sp.l12Keep store list=some xso:=by unfold Sp.l12Keep;exact Sp.foldB_all hf oM
  exact H.retO (k:=0) rfl (by rw[hY];exact⟨_,rfl,AccOf.mk aN hchk2_0⟩) (acc_nd _ _ _ _ _)
theorem l12Count_c (w0:World)(G0:PH)(hG:PSub G0 w0)(cd:List Value)(d:BDisk)(hd:diskE G0 d cd)(id:Int)(hT:Sp.TreeValid d.tree=true)(hN:Sp.l12Snaps d=true) :
  Calls Tryz.prog 75 #[.agg cd.toArray,.int .i64 id] w0 (Rets w0 (.int .i64 (Sp.l12Count d id:Int))):=by
 obtain⟨_,_,_,_,_,_,_,_,_,rfl,hr1,hr1',hr1'',⟨_,_⟩,⟨_,_⟩,_,_⟩:=ox hd
 obtain⟨_,hst⟩:=Sp.snaps_at hN
 have htc:=Sp.l11Count_le hT (id:=id)
 have H:=Hp.init hG
 refine calls_of_W (l:=[_,.int .i64 id]) func75 Z ntmps75 Z (q2 (o_box H Z Z Z ?_));intro b2 _ _ H
 refine aG Z (q1 (fA 1 Z (lB 0 H Z3 (mV Z (xr H Z2 (l11Count_c _ _ H.sub _ _ hr1' _ hT) ?_)))));intro _ H
 refine aG Z (q3 (W_seq (q2 (aG Z (q3 (W_block ?_))))))
 obtain⟨ln4,hln4,H⟩:=H.name (k:=0) rfl
 refine W_lp (hf:=(Sub.cons (t:=1) Z (Sub.cons (t:=2) Z (Sub.cons (t:=4) Z Sub.nil)))) (J:=fun M w m=>∃(c k:Nat) (G:PH),M=[(5,.int .i64 (c:Int)),(6,.int .i64 (k:Int))]∧PLe G0 G∧Hp w0 G0 [] w G [blk b2 (cl ln4 32)]∧(k≤d.snaps.length∧c=Sp.l11Count d.tree id+Sp.cntS d.snaps id k)∧m=(d.snaps.length-k)) (h0:=⟨(Sp.l11Count d.tree id),0,_,Z,PLe.refl _,H,?inv,Z⟩) (round:=?round)
 case inv=>exact⟨by omega,by simp[Sp.cntS]⟩
 case round =>
  rintro _ _ _ ⟨c,k,_,rfl,hle5,H,hinv5,rfl⟩
  subst hln4
  have hr1'':=hr1''.up hle5
  obtain⟨hk,hc⟩:=hinv5;have hcu:=Sp.cntS_le hst k hk (id:=id)
  refine W_seq (q2 (mV Z (fA 2 Z (lB 0 H Z3 (lN Z (pe 1 Z (q3 ?_)))))))
  refine W_cond Z ?_ ?_
  ·intro hc6
   try simp only[nrm]at hc6
   refine W_skip (N_K (W_seq (W_block (W_region (mV Z (fA 2 Z (lB 0 H Z3 (mV Z (iP k hr1'' Z3 Z ?_)))))))));intro _ _ z7 _ hz7 hE7 hrow7
   obtain⟨_,_,_,rfl,_,hr7,_,_⟩:=ox hE7
   have hlz:=Sp.l11Count_le (hst _ (List.mem_of_getElem? hz7)) (id:=id)
   refine fA 1 Z (lP H hrow7 1 Z2 (mV Z ?_))
   refine xr H Z2 (l11Count_c _ _ H.sub _ _ hr7 _ (hst _ (List.mem_of_getElem? hz7))) ?_;intro _ H
   refine aD Z2 (aG Z (R_nil (N_B (N_K (W_region (mV Z (aD Z2 (aG Z (R_nil ?_)))))))))
   refine N_lp (hJ:=⟨c+Sp.l11Count z7.tree id,k+1,_,Z,hle5,H,?inv,Z⟩) (hm:=?hm)
   case hm=>omega
   case inv=>exact⟨by omega,by rw[hc,Sp.cntS_succ hz7];omega⟩
  intro hc6'
  try simp only[nrm]at hc6'
  refine W_exit (N_K_exit (N_LP_exit (N_B_same (N_K (q2 (pe 2 Z (q3 (W_ret (rt1 results75 Z ?_)))))))))
  obtain rfl:k=d.snaps.length:=by omega
  exact H.rets (congrArg (Value.int .i64) (by rw[hc];rfl))
theorem l12Snaps_c (w0:World)(G0:PH)(hG:PSub G0 w0)(cd:List Value)(d:BDisk)(hd:diskE G0 d cd) :
  Calls Tryz.prog 74 #[.agg cd.toArray] w0 (Rets w0 (.bool (Sp.l12Snaps d))):=by
 obtain⟨_,_,_,_,_,_,_,_,_,rfl,hr1,hr1',hr1'',⟨_,_⟩,⟨_,_⟩,_,_⟩:=ox hd
 have H:=Hp.init hG
 refine calls_of_W (l:=[_]) func74 Z ntmps74 Z (q2 (o_box H Z Z Z ?_));intro b2 _ _ H
 refine aG Z (q3 (W_seq (q2 (aG Z (q3 (W_block ?_))))))
 obtain⟨ln3,hln3,H⟩:=H.name (k:=0) rfl
 refine W_lp (hf:=(Sub.cons (t:=1) Z Sub.nil)) (J:=fun M w m=>∃(k:Nat) (G:PH),M=[(3,.int .i64 (k:Int))]∧PLe G0 G∧Hp w0 G0 [] w G [blk b2 (cl ln3 32)]∧(k≤d.snaps.length∧∀j,j<k→Sp.okS d j=true)∧m=(d.snaps.length-k)) (h0:=⟨0,_,Z,PLe.refl _,H,?inv,Z⟩) (round:=?round)
 case inv=>exact⟨by omega,fun j hj=>by omega⟩
 case round =>
  rintro _ _ _ ⟨k,_,rfl,hle4,H,hinv4,rfl⟩
  subst hln3
  have hr1:=hr1.up hle4
  have hr1'':=hr1''.up hle4
  obtain⟨_,hall⟩:=hinv4
  refine W_seq (q2 (mV Z (fA 2 Z (lB 0 H Z3 (lN Z (pe 1 Z (q3 ?_)))))))
  refine W_cond Z ?_ ?_
  ·intro hc5
   try simp only[nrm]at hc5
   refine W_skip (N_K (W_seq (W_block (q2 (fA 2 Z (lB 0 H Z3 (mV Z (iP k hr1'' Z3 Z ?_))))))));intro _ _ _ _ hz6 hE6 hrow6
   obtain⟨_,_,_,rfl,hi6,hr6,_,_⟩:=ox hE6
   refine o_loadagg_P H isAgg91 sizeOf91 Z Z hrow6 Z (xal H Z ?_);intro _ _ _ H
   refine xst 0 H Z8 ?_;intro _ H
   refine q1 (fA 0 Z (lB 0 H Z3 (xr H Z2 (l1Word_c _ _ hi6) ?_)));intro _ H
   refine pe 2 Z ?_
   refine R_case (t:=21) Z ?_ ?_
   ·intro hc10
    try simp only[nrm]at hc10
    refine pe 22 Z (q3 (W_true Z (q2 (aG Z (q3 (W_ret (N_B_ret (N_K_ret (N_LP_ret (N_B_ret (N_K_ret (rt1 results74 Z ?_))))))))))))
    exact H.rets (congrArg Value.bool (by rw[Sp.l12Snaps,Sp.not_all_range (k:=k) oM (by rw[Sp.okS_at hz6];simp[*]<;>(intros;omega))];rfl))
   intro hc10'
   try simp only[nrm]at hc10'
   refine gR Z (fA 2 Z (gR Z (lB 1 H Z3 (gR Z (fA 0 Z (gR Z (lB 0 H Z3 (gR Z (xr H Z2 (l12At_c _ _ H.sub _ _ hr1'' _ hi6) ?_)))))))));intro _ H
   refine pe 4 Z ?_
   refine R_case (t:=30) Z ?_ ?_
   ·intro hc12
    try simp only[nrm]at hc12
    refine pe 13 Z (q3 (W_true Z (q2 (aG Z (q3 (W_ret (N_B_ret (N_K_ret (N_LP_ret (N_B_ret (N_K_ret (rt1 results74 Z ?_))))))))))))
    exact H.rets (congrArg Value.bool (by rw[Sp.l12Snaps,Sp.not_all_range (k:=k) oM (by rw[Sp.okS_at hz6];simp[*]<;>(intros;omega))];rfl))
   intro hc12'
   try simp only[nrm]at hc12'
   refine gR Z (fA 1 Z (gR Z (lB 0 H Z3 (gR Z (xr H Z2 (TreeValid_c _ _ H.sub _ _ hr6) ?_)))));intro _ H
   refine pe 3 Z ?_
   refine R_case (t:=36) Z ?_ ?_
   ·intro hc14
    try simp only[nrm]at hc14
    refine pe 7 Z (q3 (W_true Z (q2 (aG Z (q3 (W_ret (N_B_ret (N_K_ret (N_LP_ret (N_B_ret (N_K_ret (rt1 results74 Z ?_))))))))))))
    exact H.rets (congrArg Value.bool (by rw[Sp.l12Snaps,Sp.not_all_range (k:=k) oM (by rw[Sp.okS_at hz6];simp[*]<;>(intros;omega))];rfl))
   intro hc14'
   try simp only[nrm]at hc14'
   refine gR Z (fA 0 Z (gR Z (lB 1 H Z3 (gR Z (fA 1 Z (gR Z (lB 0 H Z3 (gR Z (xr H Z2 (l11Files_c _ _ H.sub _ _ hr1 _ _ hr6) ?_)))))))));intro _ H
   refine pe 2 Z (q3 ?_)
   refine W_cond Z ?_ ?_
   ·intro hc16
    try simp only[nrm]at hc16
    refine q2 (aG Z (q3 (W_ret (N_B_ret (N_K_ret (N_LP_ret (N_B_ret (N_K_ret (rt1 results74 Z ?_)))))))))
    exact H.rets (congrArg Value.bool (by rw[Sp.l12Snaps,Sp.not_all_range (k:=k) oM (by rw[Sp.okS_at hz6];simp[*]<;>(intros;omega))];rfl))
   intro hc16'
   try simp only[nrm]at hc16'
   refine W_skip (N_B (N_K (W_region (mV Z (aD Z2 (aG Z (R_nil ?_)))))))
   have H:=H.dl 0
   refine N_lp (hJ:=⟨k+1,_,Z,hle4,H,?inv,Z⟩) (hm:=?hm)
   case hm=>omega
   case inv=>exact⟨by omega,Sp.upto_succ hall (by rw[Sp.okS_at hz6];simp[*])⟩
  intro hc5'
  try simp only[nrm]at hc5'
  refine W_exit (N_K_exit (N_LP_exit (N_B_same (N_K (q2 (fA 2 Z (lB 0 H Z3 (lN Z (pe 2 Z (q3 (W_ret (rt1 results74 Z ?_))))))))))))
  exact H.rets (congrArg Value.bool (by rw[Sp.l12Snaps,Sp.all_range (fun j hj=>hall j oM),Bool.true_and];rw[Bool.eq_iff_iff];simp;omega))
theorem DiskValid_c (w0:World)(G0:PH)(hG:PSub G0 w0)(cd:List Value)(d:BDisk)(hd:diskE G0 d cd) :
  Calls Tryz.prog 29 #[.agg cd.toArray] w0 (Rets w0 (.bool (Sp.DiskValid d))):=by
 obtain⟨_,_,_,_,_,_,_,_,_,rfl,hr1,hr1',hr1'',⟨_,_⟩,⟨_,_⟩,_,_⟩:=ox hd
 have H:=Hp.init hG
 refine calls_of_W (l:=[_]) func29 Z ntmps29 Z (q2 (o_box H Z Z Z ?_));intro b2 _ _ H
 refine aG Z (q3 (W_seq (q2 (fA 0 Z (lB 0 H Z3 (xr H Z2 (StoreValid_c _ _ H.sub _ _ hr1) ?_))))));intro _ H
 refine pe 2 Z ?_
 refine R_case (t:=8) Z ?_ ?_
 ·intro hc4
  try simp only[nrm]at hc4
  refine pe 18 Z (q3 (W_true Z (q2 (aG Z (q3 (W_ret (N_K_ret (rt1 results29 Z ?_))))))))
  exact H.rets (congrArg Value.bool (by simp[Sp.DiskValid,hc4]))
 intro hc4'
 try simp only[nrm]at hc4'
 refine gR Z (fA 1 Z (gR Z (lB 0 H Z3 (gR Z (xr H Z2 (TreeValid_c _ _ H.sub _ _ hr1') ?_)))));intro _ H
 refine pe 3 Z ?_
 refine R_case (t:=14) Z ?_ ?_
 ·intro hc6
  try simp only[nrm]at hc6
  refine pe 12 Z (q3 (W_true Z (q2 (aG Z (q3 (W_ret (N_K_ret (rt1 results29 Z ?_))))))))
  exact H.rets (congrArg Value.bool (by simp[Sp.DiskValid,hc6]))
 intro hc6'
 try simp only[nrm]at hc6'
 refine gR Z (fA 0 Z (gR Z (lB 0 H Z3 (gR Z (fA 1 Z (gR Z (lB 0 H Z3 (gR Z (xr H Z2 (l11Files_c _ _ H.sub _ _ hr1 _ _ hr1') ?_)))))))));intro _ H
 refine pe 3 Z ?_
 refine R_case (t:=22) Z ?_ ?_
 ·intro hc8
  try simp only[nrm]at hc8
  refine pe 4 Z (q3 (W_true Z (q2 (aG Z (q3 (W_ret (N_K_ret (rt1 results29 Z ?_))))))))
  exact H.rets (congrArg Value.bool (by simp[Sp.DiskValid,hc8]))
 intro hc8'
 try simp only[nrm]at hc8'
 refine gR Z (lA 0 3 H Z4 (gR Z (xr H Z2 (l12Snaps_c _ _ H.sub _ d ⟨_,_,_,_,_,_,_,_,_,Z,hr1,hr1',hr1''⟩) ?_)));intro _ H
 refine pe 2 Z (q3 ?_)
 refine W_cond Z ?_ ?_
 ·intro hc10
  try simp only[nrm]at hc10
  refine q2 (aG Z (q3 (W_ret (N_K_ret (rt1 results29 Z ?_)))))
  exact H.rets (congrArg Value.bool (by simp[Sp.DiskValid,hc10]))
 intro hc10'
 try simp only[nrm]at hc10'
 refine W_skip (N_K (W_seq (q2 (aG Z (q3 (W_block ?_))))))
 obtain⟨ln11,hln11,H⟩:=H.name (k:=0) rfl
 refine W_lp (hf:=(Sub.cons (t:=1) Z Sub.nil)) (J:=fun M w m=>∃(k:Nat) (G:PH),M=[(3,.int .i64 (k:Int))]∧PLe G0 G∧Hp w0 G0 [] w G [blk b2 (cl ln11 32)]∧(k≤d.store.length∧(d.store.take k).all (Sp.usesD d)=true)∧m=(d.store.length-k)) (h0:=⟨0,_,Z,PLe.refl _,H,?inv,Z⟩) (round:=?round)
 case inv=>exact⟨by omega,by simp⟩
 case round =>
  rintro _ _ _ ⟨k,G12,rfl,hle12,H,hinv12,rfl⟩
  subst hln11
  have hr1:=hr1.up hle12
  have hr1':=hr1'.up hle12
  have hr1'':=hr1''.up hle12
  obtain⟨_,hall⟩:=hinv12
  refine W_seq (q2 (mV Z (fA 0 Z (lB 0 H Z3 (lN Z (pe 1 Z (q3 ?_)))))))
  refine W_cond Z ?_ ?_
  ·intro hc13
   try simp only[nrm]at hc13
   refine W_skip (N_K (W_seq (W_block (W_seq (W_drawK [0] 15 H kR Z ?_)))));intro _ H;have hd14:=PLe.refl G12
   refine RD_t 0 Z kR Z (fun _ hK=>v_loadagg_B 0 hK isAgg32 sizeOf32 Z Z Z Z) (dF 1 0 Z2 (dB 2 0 Z4 (dE 3 Z2 ?_)))
   have hl15:=hr1.len
   obtain⟨_,_,z15,_,ha15,hz15,hq15,hE15,hrow15,_⟩:=hr1.at (i:=k) oM
   clear hq15
   obtain⟨_,_,_,rfl,_,_,_,_,_⟩:=ox hE15
   refine dI 4 3 k ha15 Z3 Z (dF 5 0 Z2 (dP 6 hrow15 0 Z3 (dF 8 0 Z2 (dB 9 0 Z4 (dE 10 Z2 ?_)))))
   have hl16:=hr1.len
   obtain⟨_,_,z16,_,ha16,hz16,hq16,hE16,hrow16,_⟩:=hr1.at (i:=k) oM
   clear hq16
   obtain⟨_,_,_,rfl,_,_,_,_,_⟩:=ox hE16
   have hzz16:z15=z16:=Option.some.inj (hz15.symm.trans hz16)
   subst hzz16
   refine dI 11 3 k ha16 Z3 Z (dF 12 2 Z2 (dP 13 hrow16 2 Z3 (r1 7 Z (xr H Z2 (l12Count_c _ _ H.sub _ d ⟨_,_,_,_,_,_,_,_,_,Z,hr1,hr1',hr1''⟩ _ hc6' hc10') ?_))));intro _ H
   refine q4 H hd14 (dE 14 Z2 (rz (N_K ?_)))
   refine W_cond Z ?_ ?_
   ·intro hc18
    try simp only[nrm]at hc18
    refine q2 (aG Z (q3 (W_ret (N_B_ret (N_K_ret (N_LP_ret (N_B_ret (N_K_ret (rt1 results29 Z ?_)))))))))
    exact H.rets (congrArg Value.bool (by rw[Sp.DiskValid,Sp.all_false hz15 (by simp[Sp.usesD, *])];rfl))
   intro hc18'
   try simp only[nrm]at hc18'
   refine W_skip (N_B (N_K (W_region (mV Z (aD Z2 (aG Z (R_nil ?_)))))))
   refine N_lp (hJ:=⟨k+1,_,Z,hle12,H,?inv,Z⟩) (hm:=?hm)
   case hm=>omega
   case inv=>exact⟨by omega,Sp.all_take hall hz15 (by simp[Sp.usesD, *])⟩
  intro hc13'
  try simp only[nrm]at hc13'
  refine W_exit (N_K_exit (N_LP_exit (N_B_same (N_K (q2 (aG Z (q3 (W_ret (rt1 results29 Z ?_)))))))))
  obtain rfl:k=d.store.length:=by omega
  rw[List.take_length]at hall
  exact H.rets (congrArg Value.bool (by simp[Sp.DiskValid,hall,hc4',hc6',hc8',hc10']))
theorem l12Copy_c (w0:World)(G0:PH)(hG:PSub G0 w0)(cd:List Value)(d:BDisk)(hd:diskE G0 d cd) :
  Calls Tryz.prog 32 #[.agg cd.toArray] w0 (RetO w0 G0 (fun G val r=>∃u u1 u2,val= .agg #[u,u1,u2]∧AccOf snapE 2 91 d.snaps G u2 r∧RdH G u d.store∧RdItems G u1 d.tree)):=by
 obtain⟨_,_,_,_,_,_,_,_,_,rfl,hr1,hr1',hr1'',⟨_,_⟩,⟨_,_⟩,_,_⟩:=ox hd
 have H:=Hp.init hG
 refine calls_of_W (l:=[_]) func32 Z ntmps32 Z (q2 (o_box H Z Z Z ?_));intro b2 _ _ H
 refine xal H Z ?_;intro b3 _ _ H
 refine q3 ?_
 obtain⟨ljb3,hljb3,H⟩:=H.name (k:=0) rfl
 obtain⟨ljb2,hljb2,H⟩:=H.name (k:=1) rfl
 have hj4:=PLe.refl G0
 refine W_join (hf:=(Sub.cons (t:=1) Z (Sub.cons (t:=2) Z Sub.nil))) (J:=fun M w=>∃(jb:Nat) (ja jc:Option Addr) (jm jk jn jl:Nat) (ve:Value) (ce:List Value) (ne:Nat) (G:PH),M=[(3,.pointer (some ⟨jb,0,none⟩))]∧PLe G0 G∧Hp w0 G0 [] w G [acc 91 2 ve ne ce,blk jb (cl [.slice ja jm jk,.slice jc jn jl,ve] 32),blk b3 (cl ljb3 32),blk b2 (cl ljb2 32)]∧(RdH G (.slice ja jm jk) d.store∧RdItems G (.slice jc jn jl) d.tree∧Chk snapE 2 G ce ([]:List BSnap)∧ne=0)) (first:=?_) (second:=?_)
 ·skip
  subst hljb3
  subst hljb2
  refine W_drawK [0,1] 10 H kR Z ?_;intro _ H;have hd5:=PLe.refl G0
  refine dF 0 0 Z2 (dB 1 1 Z4 (dF 3 1 Z2 (dB 4 1 Z4 ?_)))
  refine RD_run [2,6,8] kR Z (RDs.cons Z ?_ (RDs.cons Z ?_ (RDs.cons Z ?_ RDs.nil)))
  ·skip
   refine xc Z2 (l3Copy_c _ _ H.sub _ _ hr1) ?_
   rintro _ _ ⟨_,_,_,g6,rfl,⟨_,rfl,hchk6⟩,hp6,hq6,hs6⟩
   have H:=H.growO g6 hp6 hq6 hs6;obtain⟨_,_,rfl⟩:=H.accShape (k:=0) rfl
   have hr1':=hr1'.up g6.le
   have hj4:=hj4.trans g6.le
   have hd5:=hd5.trans g6.le
   refine⟨_,Z,?_⟩
   refine q4 H hd5 ?_
   refine RD_run [5,6,8] kR Z (RDs.cons Z ?_ (RDs.cons Z ?_ (RDs.cons Z ?_ RDs.nil)))
   ·skip
    refine xc Z2 (l5All_c _ _ H.sub _ _ hr1') ?_
    rintro _ _ ⟨_,_,_,g7,rfl,⟨_,rfl,hchk7⟩,hp7,hq7,hs7⟩
    have H:=H.growO g7 hp7 hq7 hs7;obtain⟨_,_,rfl⟩:=H.accShape (k:=0) rfl
    have hchk6:=hchk6.up g7.le
    have hj4:=hj4.trans g7.le
    have hd5:=hd5.trans g7.le
    refine⟨_,Z,?_⟩
    refine q4 H hd5 ?_
    refine r2 6 8 Z2 ?_ ?_
    ·skip
     refine xbs H Z7 ?_;intro _ _ _ H
     have H:=H.blkAcc 2 (k:=0) (n:=0) rfl rfl (by decide)
     refine q4 H hd5 (RD_t 7 Z kR Z (fun _ hK=>v_build bf32 Z Z) (r1 8 Z (xal H Z ?_)));intro _ _ _ H
     refine q4 H hd5 (r1 9 Z (xst 0 H Z8 ?_));intro _ H
     refine R_nil (N_DKlast kR kR ?_)
     obtain⟨_,H,hsg512,hsr512⟩:=H.shut' (k:=3) rfl hchk6 aN aN
     have hchk7:=hchk7.up hsg512
     have hj4:=hj4.trans hsg512
     obtain⟨G513,H,hsg513,hsr513⟩:=H.shut' (k:=2) rfl hchk7 aN aN
     have hsr512:=hsr512.up hsg513
     have hj4:=hj4.trans hsg513
     have H:=H.tF 3
     have H:=H.tF 3
     have H:=H.tF 2
     have H:=H.tF 3
     exact N_J ⟨_,_,_,_,_,_,_,_,_,_,_,Z,hj4,H,⟨hsr512,hsr513,(Chk.nil (E:=snapE) (sz:=2) (G:=G513)),Z⟩⟩
    skip
    refine xal H Z ?_;intro _ _ _ H
    refine q4 H hd5 (r1 6 Z (xbs H Z7 ?_));intro _ _ _ H
    have H:=H.blkAcc 2 (k:=0) (n:=0) rfl rfl (by decide)
    refine q4 H hd5 (RD_t 7 Z kR Z (fun _ hK=>v_build bf32 Z Z) (r1 9 Z (xst 1 H Z8 ?_)));intro _ H
    refine R_nil (N_DKlast kR kR ?_)
    obtain⟨_,H,hsg517,hsr517⟩:=H.shut' (k:=3) rfl hchk6 aN aN
    have hchk7:=hchk7.up hsg517
    have hj4:=hj4.trans hsg517
    obtain⟨G518,H,hsg518,hsr518⟩:=H.shut' (k:=2) rfl hchk7 aN aN
    have hsr517:=hsr517.up hsg518
    have hj4:=hj4.trans hsg518
    have H:=H.tF 3
    have H:=H.tF 3
    have H:=H.tF 3
    have H:=H.tF 3
    exact N_J ⟨_,_,_,_,_,_,_,_,_,_,_,Z,hj4,H,⟨hsr517,hsr518,(Chk.nil (E:=snapE) (sz:=2) (G:=G518)),Z⟩⟩
   ·skip
    refine xbs H Z7 ?_;intro _ _ _ H
    have H:=H.blkAcc 2 (k:=0) (n:=0) rfl rfl (by decide)
    refine q4 H hd5 ?_
    refine r2 5 8 Z2 ?_ ?_
    ·skip
     refine xc Z2 (l5All_c _ _ H.sub _ _ hr1') ?_
     rintro _ _ ⟨_,_,_,g15,rfl,⟨_,rfl,hchk15⟩,hp15,hq15,hs15⟩
     have H:=H.growO g15 hp15 hq15 hs15;obtain⟨_,_,rfl⟩:=H.accShape (k:=0) rfl
     have hchk6:=hchk6.up g15.le
     have hj4:=hj4.trans g15.le
     have hd5:=hd5.trans g15.le
     refine⟨_,Z,?_⟩
     refine q4 H hd5 (RD_t 7 Z kR Z (fun _ hK=>v_build bf32 Z Z) (r1 8 Z (xal H Z ?_)));intro _ _ _ H
     refine q4 H hd5 (r1 9 Z (xst 0 H Z8 ?_));intro _ H
     refine R_nil (N_DKlast kR kR ?_)
     obtain⟨_,H,hsg523,hsr523⟩:=H.shut' (k:=3) rfl hchk6 aN aN
     have hchk15:=hchk15.up hsg523
     have hj4:=hj4.trans hsg523
     obtain⟨G524,H,hsg524,hsr524⟩:=H.shut' (k:=1) rfl hchk15 aN aN
     have hsr523:=hsr523.up hsg524
     have hj4:=hj4.trans hsg524
     have H:=H.tF 3
     have H:=H.tF 3
     have H:=H.tF 2
     have H:=H.tF 3
     exact N_J ⟨_,_,_,_,_,_,_,_,_,_,_,Z,hj4,H,⟨hsr523,hsr524,(Chk.nil (E:=snapE) (sz:=2) (G:=G524)),Z⟩⟩
    skip
    refine xal H Z ?_;intro _ _ _ H
    refine q4 H hd5 (r1 5 Z (xc Z2 (l5All_c _ _ H.sub _ _ hr1') ?_))
    rintro _ _ ⟨_,_,_,g19,rfl,⟨_,rfl,hchk19⟩,hp19,hq19,hs19⟩
    have H:=H.growO g19 hp19 hq19 hs19;obtain⟨_,_,rfl⟩:=H.accShape (k:=0) rfl
    have hchk6:=hchk6.up g19.le
    have hj4:=hj4.trans g19.le
    have hd5:=hd5.trans g19.le
    refine⟨_,Z,?_⟩
    refine q4 H hd5 (RD_t 7 Z kR Z (fun _ hK=>v_build bf32 Z Z) (r1 9 Z (xst 1 H Z8 ?_)));intro _ H
    refine R_nil (N_DKlast kR kR ?_)
    obtain⟨_,H,hsg528,hsr528⟩:=H.shut' (k:=3) rfl hchk6 aN aN
    have hchk19:=hchk19.up hsg528
    have hj4:=hj4.trans hsg528
    obtain⟨G529,H,hsg529,hsr529⟩:=H.shut' (k:=0) rfl hchk19 aN aN
    have hsr528:=hsr528.up hsg529
    have hj4:=hj4.trans hsg529
    have H:=H.tF 3
    have H:=H.tF 3
    have H:=H.tF 2
    have H:=H.tF 3
    exact N_J ⟨_,_,_,_,_,_,_,_,_,_,_,Z,hj4,H,⟨hsr528,hsr529,(Chk.nil (E:=snapE) (sz:=2) (G:=G529)),Z⟩⟩
   skip
   refine xal H Z ?_;intro _ _ _ H
   refine q4 H hd5 ?_
   refine r2 5 6 Z2 ?_ ?_
   ·skip
    refine xc Z2 (l5All_c _ _ H.sub _ _ hr1') ?_
    rintro _ _ ⟨_,_,_,g22,rfl,⟨_,rfl,hchk22⟩,hp22,hq22,hs22⟩
    have H:=H.growO g22 hp22 hq22 hs22;obtain⟨_,_,rfl⟩:=H.accShape (k:=0) rfl
    have hchk6:=hchk6.up g22.le
    have hj4:=hj4.trans g22.le
    have hd5:=hd5.trans g22.le
    refine⟨_,Z,?_⟩
    refine q4 H hd5 (r1 6 Z (xbs H Z7 ?_));intro _ _ _ H
    have H:=H.blkAcc 2 (k:=0) (n:=0) rfl rfl (by decide)
    refine q4 H hd5 (RD_t 7 Z kR Z (fun _ hK=>v_build bf32 Z Z) (r1 9 Z (xst 2 H Z8 ?_)));intro _ H
    refine R_nil (N_DKlast kR kR ?_)
    obtain⟨_,H,hsg534,hsr534⟩:=H.shut' (k:=3) rfl hchk6 aN aN
    have hchk22:=hchk22.up hsg534
    have hj4:=hj4.trans hsg534
    obtain⟨G535,H,hsg535,hsr535⟩:=H.shut' (k:=1) rfl hchk22 aN aN
    have hsr534:=hsr534.up hsg535
    have hj4:=hj4.trans hsg535
    have H:=H.tF 3
    have H:=H.tF 3
    have H:=H.tF 3
    have H:=H.tF 3
    exact N_J ⟨_,_,_,_,_,_,_,_,_,_,_,Z,hj4,H,⟨hsr534,hsr535,(Chk.nil (E:=snapE) (sz:=2) (G:=G535)),Z⟩⟩
   skip
   refine xbs H Z7 ?_;intro _ _ _ H
   have H:=H.blkAcc 2 (k:=0) (n:=0) rfl rfl (by decide)
   refine q4 H hd5 (r1 5 Z (xc Z2 (l5All_c _ _ H.sub _ _ hr1') ?_))
   rintro _ _ ⟨_,_,_,g26,rfl,⟨_,rfl,hchk26⟩,hp26,hq26,hs26⟩
   have H:=H.growO g26 hp26 hq26 hs26;obtain⟨_,_,rfl⟩:=H.accShape (k:=0) rfl
   have hchk6:=hchk6.up g26.le
   have hj4:=hj4.trans g26.le
   have hd5:=hd5.trans g26.le
   refine⟨_,Z,?_⟩
   refine q4 H hd5 (RD_t 7 Z kR Z (fun _ hK=>v_build bf32 Z Z) (r1 9 Z (xst 2 H Z8 ?_)));intro _ H
   refine R_nil (N_DKlast kR kR ?_)
   obtain⟨_,H,hsg539,hsr539⟩:=H.shut' (k:=3) rfl hchk6 aN aN
   have hchk26:=hchk26.up hsg539
   have hj4:=hj4.trans hsg539
   obtain⟨G540,H,hsg540,hsr540⟩:=H.shut' (k:=0) rfl hchk26 aN aN
   have hsr539:=hsr539.up hsg540
   have hj4:=hj4.trans hsg540
   have H:=H.tF 3
   have H:=H.tF 3
   have H:=H.tF 3
   have H:=H.tF 3
   exact N_J ⟨_,_,_,_,_,_,_,_,_,_,_,Z,hj4,H,⟨hsr539,hsr540,(Chk.nil (E:=snapE) (sz:=2) (G:=G540)),Z⟩⟩
  ·skip
   refine xbs H Z7 ?_;intro _ _ _ H
   have H:=H.blkAcc 2 (k:=0) (n:=0) rfl rfl (by decide)
   refine q4 H hd5 ?_
   refine r2 2 8 Z2 ?_ ?_
   ·skip
    refine xc Z2 (l3Copy_c _ _ H.sub _ _ hr1) ?_
    rintro _ _ ⟨_,_,_,g29,rfl,⟨_,rfl,hchk29⟩,hp29,hq29,hs29⟩
    have H:=H.growO g29 hp29 hq29 hs29;obtain⟨_,_,rfl⟩:=H.accShape (k:=0) rfl
    have hr1':=hr1'.up g29.le
    have hj4:=hj4.trans g29.le
    have hd5:=hd5.trans g29.le
    refine⟨_,Z,?_⟩
    refine q4 H hd5 ?_
    refine r2 5 8 Z2 ?_ ?_
    ·skip
     refine xc Z2 (l5All_c _ _ H.sub _ _ hr1') ?_
     rintro _ _ ⟨_,_,_,g30,rfl,⟨_,rfl,hchk30⟩,hp30,hq30,hs30⟩
     have H:=H.growO g30 hp30 hq30 hs30;obtain⟨_,_,rfl⟩:=H.accShape (k:=0) rfl
     have hchk29:=hchk29.up g30.le
     have hj4:=hj4.trans g30.le
     have hd5:=hd5.trans g30.le
     refine⟨_,Z,?_⟩
     refine q4 H hd5 (RD_t 7 Z kR Z (fun _ hK=>v_build bf32 Z Z) (r1 8 Z (xal H Z ?_)));intro _ _ _ H
     refine q4 H hd5 (r1 9 Z (xst 0 H Z8 ?_));intro _ H
     refine R_nil (N_DKlast kR kR ?_)
     obtain⟨_,H,hsg546,hsr546⟩:=H.shut' (k:=2) rfl hchk29 aN aN
     have hchk30:=hchk30.up hsg546
     have hj4:=hj4.trans hsg546
     obtain⟨G547,H,hsg547,hsr547⟩:=H.shut' (k:=1) rfl hchk30 aN aN
     have hsr546:=hsr546.up hsg547
     have hj4:=hj4.trans hsg547
     have H:=H.tF 3
     have H:=H.tF 3
     have H:=H.tF 2
     have H:=H.tF 3
     exact N_J ⟨_,_,_,_,_,_,_,_,_,_,_,Z,hj4,H,⟨hsr546,hsr547,(Chk.nil (E:=snapE) (sz:=2) (G:=G547)),Z⟩⟩
    skip
    refine xal H Z ?_;intro _ _ _ H
    refine q4 H hd5 (r1 5 Z (xc Z2 (l5All_c _ _ H.sub _ _ hr1') ?_))
    rintro _ _ ⟨_,_,_,g34,rfl,⟨_,rfl,hchk34⟩,hp34,hq34,hs34⟩
    have H:=H.growO g34 hp34 hq34 hs34;obtain⟨_,_,rfl⟩:=H.accShape (k:=0) rfl
    have hchk29:=hchk29.up g34.le
    have hj4:=hj4.trans g34.le
    have hd5:=hd5.trans g34.le
    refine⟨_,Z,?_⟩
    refine q4 H hd5 (RD_t 7 Z kR Z (fun _ hK=>v_build bf32 Z Z) (r1 9 Z (xst 1 H Z8 ?_)));intro _ H
    refine R_nil (N_DKlast kR kR ?_)
    obtain⟨_,H,hsg551,hsr551⟩:=H.shut' (k:=2) rfl hchk29 aN aN
    have hchk34:=hchk34.up hsg551
    have hj4:=hj4.trans hsg551
    obtain⟨G552,H,hsg552,hsr552⟩:=H.shut' (k:=0) rfl hchk34 aN aN
    have hsr551:=hsr551.up hsg552
    have hj4:=hj4.trans hsg552
    have H:=H.tF 3
    have H:=H.tF 3
    have H:=H.tF 2
    have H:=H.tF 3
    exact N_J ⟨_,_,_,_,_,_,_,_,_,_,_,Z,hj4,H,⟨hsr551,hsr552,(Chk.nil (E:=snapE) (sz:=2) (G:=G552)),Z⟩⟩
   skip
   refine xal H Z ?_;intro _ _ _ H
   refine q4 H hd5 (r1 2 Z (xc Z2 (l3Copy_c _ _ H.sub _ _ hr1) ?_))
   rintro _ _ ⟨_,_,_,g37,rfl,⟨_,rfl,hchk37⟩,hp37,hq37,hs37⟩
   have H:=H.growO g37 hp37 hq37 hs37;obtain⟨_,_,rfl⟩:=H.accShape (k:=0) rfl
   have hr1':=hr1'.up g37.le
   have hj4:=hj4.trans g37.le
   have hd5:=hd5.trans g37.le
   refine⟨_,Z,?_⟩
   refine q4 H hd5 (r1 5 Z (xc Z2 (l5All_c _ _ H.sub _ _ hr1') ?_))
   rintro _ _ ⟨_,_,_,g38,rfl,⟨_,rfl,hchk38⟩,hp38,hq38,hs38⟩
   have H:=H.growO g38 hp38 hq38 hs38;obtain⟨_,_,rfl⟩:=H.accShape (k:=0) rfl
   have hchk37:=hchk37.up g38.le
   have hj4:=hj4.trans g38.le
   have hd5:=hd5.trans g38.le
   refine⟨_,Z,?_⟩
   refine q4 H hd5 (RD_t 7 Z kR Z (fun _ hK=>v_build bf32 Z Z) (r1 9 Z (xst 2 H Z8 ?_)));intro _ H
   refine R_nil (N_DKlast kR kR ?_)
   obtain⟨_,H,hsg557,hsr557⟩:=H.shut' (k:=1) rfl hchk37 aN aN
   have hchk38:=hchk38.up hsg557
   have hj4:=hj4.trans hsg557
   obtain⟨G558,H,hsg558,hsr558⟩:=H.shut' (k:=0) rfl hchk38 aN aN
   have hsr557:=hsr557.up hsg558
   have hj4:=hj4.trans hsg558
   have H:=H.tF 3
   have H:=H.tF 3
   have H:=H.tF 2
   have H:=H.tF 3
   exact N_J ⟨_,_,_,_,_,_,_,_,_,_,_,Z,hj4,H,⟨hsr557,hsr558,(Chk.nil (E:=snapE) (sz:=2) (G:=G558)),Z⟩⟩
  skip
  refine xal H Z ?_;intro _ _ _ H
  refine q4 H hd5 ?_
  refine r2 2 6 Z2 ?_ ?_
  ·skip
   refine xc Z2 (l3Copy_c _ _ H.sub _ _ hr1) ?_
   rintro _ _ ⟨_,_,_,g41,rfl,⟨_,rfl,hchk41⟩,hp41,hq41,hs41⟩
   have H:=H.growO g41 hp41 hq41 hs41;obtain⟨_,_,rfl⟩:=H.accShape (k:=0) rfl
   have hr1':=hr1'.up g41.le
   have hj4:=hj4.trans g41.le
   have hd5:=hd5.trans g41.le
   refine⟨_,Z,?_⟩
   refine q4 H hd5 ?_
   refine r2 5 6 Z2 ?_ ?_
   ·skip
    refine xc Z2 (l5All_c _ _ H.sub _ _ hr1') ?_
    rintro _ _ ⟨_,_,_,g42,rfl,⟨_,rfl,hchk42⟩,hp42,hq42,hs42⟩
    have H:=H.growO g42 hp42 hq42 hs42;obtain⟨_,_,rfl⟩:=H.accShape (k:=0) rfl
    have hchk41:=hchk41.up g42.le
    have hj4:=hj4.trans g42.le
    have hd5:=hd5.trans g42.le
    refine⟨_,Z,?_⟩
    refine q4 H hd5 (r1 6 Z (xbs H Z7 ?_));intro _ _ _ H
    have H:=H.blkAcc 2 (k:=0) (n:=0) rfl rfl (by decide)
    refine q4 H hd5 (RD_t 7 Z kR Z (fun _ hK=>v_build bf32 Z Z) (r1 9 Z (xst 3 H Z8 ?_)));intro _ H
    refine R_nil (N_DKlast kR kR ?_)
    obtain⟨_,H,hsg564,hsr564⟩:=H.shut' (k:=2) rfl hchk41 aN aN
    have hchk42:=hchk42.up hsg564
    have hj4:=hj4.trans hsg564
    obtain⟨G565,H,hsg565,hsr565⟩:=H.shut' (k:=1) rfl hchk42 aN aN
    have hsr564:=hsr564.up hsg565
    have hj4:=hj4.trans hsg565
    have H:=H.tF 3
    have H:=H.tF 3
    have H:=H.tF 3
    have H:=H.tF 3
    exact N_J ⟨_,_,_,_,_,_,_,_,_,_,_,Z,hj4,H,⟨hsr564,hsr565,(Chk.nil (E:=snapE) (sz:=2) (G:=G565)),Z⟩⟩
   skip
   refine xbs H Z7 ?_;intro _ _ _ H
   have H:=H.blkAcc 2 (k:=0) (n:=0) rfl rfl (by decide)
   refine q4 H hd5 (r1 5 Z (xc Z2 (l5All_c _ _ H.sub _ _ hr1') ?_))
   rintro _ _ ⟨_,_,_,g46,rfl,⟨_,rfl,hchk46⟩,hp46,hq46,hs46⟩
   have H:=H.growO g46 hp46 hq46 hs46;obtain⟨_,_,rfl⟩:=H.accShape (k:=0) rfl
   have hchk41:=hchk41.up g46.le
   have hj4:=hj4.trans g46.le
   have hd5:=hd5.trans g46.le
   refine⟨_,Z,?_⟩
   refine q4 H hd5 (RD_t 7 Z kR Z (fun _ hK=>v_build bf32 Z Z) (r1 9 Z (xst 3 H Z8 ?_)));intro _ H
   refine R_nil (N_DKlast kR kR ?_)
   obtain⟨_,H,hsg569,hsr569⟩:=H.shut' (k:=2) rfl hchk41 aN aN
   have hchk46:=hchk46.up hsg569
   have hj4:=hj4.trans hsg569
   obtain⟨G570,H,hsg570,hsr570⟩:=H.shut' (k:=0) rfl hchk46 aN aN
   have hsr569:=hsr569.up hsg570
   have hj4:=hj4.trans hsg570
   have H:=H.tF 3
   have H:=H.tF 3
   have H:=H.tF 3
   have H:=H.tF 3
   exact N_J ⟨_,_,_,_,_,_,_,_,_,_,_,Z,hj4,H,⟨hsr569,hsr570,(Chk.nil (E:=snapE) (sz:=2) (G:=G570)),Z⟩⟩
  skip
  refine xbs H Z7 ?_;intro _ _ _ H
  have H:=H.blkAcc 2 (k:=0) (n:=0) rfl rfl (by decide)
  refine q4 H hd5 (r1 2 Z (xc Z2 (l3Copy_c _ _ H.sub _ _ hr1) ?_))
  rintro _ _ ⟨_,_,_,g49,rfl,⟨_,rfl,hchk49⟩,hp49,hq49,hs49⟩
  have H:=H.growO g49 hp49 hq49 hs49;obtain⟨_,_,rfl⟩:=H.accShape (k:=0) rfl
  have hr1':=hr1'.up g49.le
  have hj4:=hj4.trans g49.le
  have hd5:=hd5.trans g49.le
  refine⟨_,Z,?_⟩
  refine q4 H hd5 (r1 5 Z (xc Z2 (l5All_c _ _ H.sub _ _ hr1') ?_))
  rintro _ _ ⟨_,_,_,g50,rfl,⟨_,rfl,hchk50⟩,hp50,hq50,hs50⟩
  have H:=H.growO g50 hp50 hq50 hs50;obtain⟨_,_,rfl⟩:=H.accShape (k:=0) rfl
  have hchk49:=hchk49.up g50.le
  have hj4:=hj4.trans g50.le
  have hd5:=hd5.trans g50.le
  refine⟨_,Z,?_⟩
  refine q4 H hd5 (RD_t 7 Z kR Z (fun _ hK=>v_build bf32 Z Z) (r1 9 Z (xst 3 H Z8 ?_)));intro _ H
  refine R_nil (N_DKlast kR kR ?_)
  obtain⟨_,H,hsg575,hsr575⟩:=H.shut' (k:=1) rfl hchk49 aN aN
  have hchk50:=hchk50.up hsg575
  have hj4:=hj4.trans hsg575
  obtain⟨G576,H,hsg576,hsr576⟩:=H.shut' (k:=0) rfl hchk50 aN aN
  have hsr575:=hsr575.up hsg576
  have hj4:=hj4.trans hsg576
  have H:=H.tF 3
  have H:=H.tF 3
  have H:=H.tF 3
  have H:=H.tF 3
  exact N_J ⟨_,_,_,_,_,_,_,_,_,_,_,Z,hj4,H,⟨hsr575,hsr576,(Chk.nil (E:=snapE) (sz:=2) (G:=G576)),Z⟩⟩
 rintro _ _ ⟨jb,ja,jc,jm,jk,jn,jl,ve,ce,ne,G4,rfl,hle4,H,hinv4⟩
 subst hljb3
 subst hljb2
 have hr1'':=hr1''.up hle4
 obtain⟨hja,hjb,hjc,rfl⟩:=hinv4;obtain⟨_,_,rfl⟩:=H.accShape (k:=0) rfl
 refine W_seq (q2 (aG Z (q3 (W_block ?_))))
 obtain⟨ln52,hln52,H⟩:=H.nameAt (k:=1) (off:=2) rfl rfl
 obtain⟨ln53,hln53,H⟩:=H.name (k:=2) rfl
 obtain⟨ln54,hln54,H⟩:=H.name (k:=3) rfl
 refine W_lp (hf:=(Sub.cons (t:=1) Z (Sub.cons (t:=2) Z (Sub.cons (t:=3) Z Sub.nil)))) (J:=fun M w m=>∃(v:Value) (n:Nat) (cs:List Value) (xs:List (BSnap)) (k:Nat) (G:PH),M=[(4,.int .i64 (k:Int))]∧PLe G4 G∧Hp w0 G0 [] w G [acc 91 2 v n cs,blk jb (cl (setN ln52 2 v) 32),blk b3 (cl ln53 32),blk b2 (cl ln54 32)]∧(Chk snapE 2 G cs xs∧n=xs.length∧k≤d.snaps.length∧xs.length=k∧xs=d.snaps.take k)∧m=(d.snaps.length-k)) (h0:=⟨_,_,_,[],0,_,Z,PLe.refl _,H,?inv,Z⟩) (round:=?round)
 case inv=>exact⟨hjc,by first|rfl|simp|(simp;omega)|omega,(by simp)⟩
 case round =>
  rintro _ _ _ ⟨v,n,cs,xs,k,G55,rfl,hle55,H,hinv55,rfl⟩
  subst hln52
  subst hln53
  subst hln54
  have hr1'':=hr1''.up hle55
  have hja:=hja.up hle55
  have hjb:=hjb.up hle55
  obtain⟨hchk55_0,_,hinv55⟩:=hinv55
  obtain⟨_,_,rfl⟩:=H.accShape (k:=0) rfl
  obtain⟨_,hxl,hxs⟩:=hinv55
  refine W_seq (q2 (mV Z (fA 2 Z (lB 3 H Z3 (lN Z (pe 1 Z (q3 ?_)))))))
  refine W_cond Z ?_ ?_
  ·intro hc56
   try simp only[nrm]at hc56
   refine W_skip (N_K (W_seq (W_block (W_drawK [1,2,3] 20 H kR Z ?_))));intro _ H;have hd57:=PLe.refl G55
   refine dF 0 2 Z2 (dB 1 0 Z4 (dF 2 2 Z2 (dB 3 2 Z4 (dE 4 Z2 ?_))))
   have hl58:=hr1''.len
   obtain⟨_,_,z58,_,ha58,hz58,hq58,hE58,hrow58,_⟩:=hr1''.at (i:=k) oM
   clear hq58
   obtain⟨_,_,_,rfl,hi58,hr58,_,_⟩:=ox hE58
   refine dI 5 2 k ha58 Z3 Z (dF 6 0 Z2 (dP 7 hrow58 0 Z3 (dF 8 2 Z2 (dB 9 2 Z4 (dE 10 Z2 ?_)))))
   have hl59:=hr1''.len
   obtain⟨_,_,z59,_,ha59,hz59,hq59,hE59,hrow59,_⟩:=hr1''.at (i:=k) oM
   clear hq59
   obtain⟨_,_,_,rfl,_,hr59,_,_⟩:=ox hE59
   have hzz59:z58=z59:=Option.some.inj (hz58.symm.trans hz59)
   subst hzz59
   refine dI 11 2 k ha59 Z3 Z (dF 12 1 Z2 (dP 13 hrow59 1 Z3 (r1 14 Z (xc Z2 (l5All_c _ _ H.sub _ _ hr59) ?_))))
   rintro _ _ ⟨_,_,_,g60,rfl,⟨_,rfl,hchk60⟩,hp60,hq60,hs60⟩
   have H:=H.growO g60 hp60 hq60 hs60;obtain⟨_,_,rfl⟩:=H.accShape (k:=0) rfl
   have hchk55_0:=hchk55_0.up g60.le
   have hle55:=hle55.trans g60.le
   have hd57:=hd57.trans g60.le
   refine⟨_,Z,?_⟩
   refine q4 H hd57 (RD_t 15 Z kR Z (fun _ hK=>v_build bf91 Z Z) (r1 16 Z (xbs H Z7 ?_)));intro _ _ _ H
   refine q4 H hd57 (r1 17 Z (o_append1 1 H (sz:=2) (bytes:=40) underlying30 typeInfo91 ⟨_,Z,Z⟩ Z Z Z Z Z Z Z Z Z Z oM Z ?_));intro _ _ H
   obtain⟨_,H,hsg63,hsr63⟩:=H.shut' (k:=0) rfl hchk60 aN aN
   have hchk55_0:=hchk55_0.up hsg63
   have hle55:=hle55.trans hsg63
   have hd57:=hd57.trans hsg63
   have hchk62:=hchk55_0.snoc (show snapE _ ⟨z58.name,z58.tree⟩ _ from⟨_,_,_,rfl,hi58,hsr63⟩) rfl
   obtain⟨_,_,rfl⟩:=H.accShape (k:=0) rfl
   refine q4 H hd57 (dF 18 2 Z2 (r1 19 Z (xst 1 H Z8 ?_)));intro _ H
   refine R_nil (N_DKlast kR kR (N_B (N_K (W_region (mV Z (aD Z2 (aG Z (R_nil ?_))))))))
   refine N_lp (hJ:=⟨_,_,_,(xs++[⟨z58.name,z58.tree⟩]),k+1,_,Z,hle55,H,?inv,Z⟩) (hm:=?hm)
   case hm=>omega
   case inv=>exact⟨hchk62,aN,(by exact⟨by omega,by simp[hxl],by rw[Sp.take_succ' hz58,hxs]⟩)⟩
  intro hc56'
  try simp only[nrm]at hc56'
  refine W_exit (N_K_exit (N_LP_exit (N_B_same (N_K (q2 (lA 1 3 H Z4 (xst 2 H Z8 ?_)))))));intro _ H
  refine q3 (W_ret (ret_gen (rs:=[.cell 2 32]) (vs:=[_]) results32 ⟨⟨_,Z,load_blk 2 H isAgg32 sizeOf32 Z Z Z⟩,trivial⟩ ?_))
  obtain rfl:k=d.snaps.length:=by omega
  rw[List.take_length]at hxs
  subst hxs
  exact H.retO (k:=0) Z ⟨_,_,_,Z,AccOf.mk aN hchk55_0,hja,hjb⟩ (acc_nd _ _ _ _ _)
theorem l1Within_c (w0:World)(G0:PH)(hG:PSub G0 w0)(p:Bs)(hp:p.length≤16777216)(dir:Bs)(hdir:dir.length≤16777216) :
  Calls Tryz.prog 76 #[str p,str dir] w0 (Rets w0 (.bool (Sp.l1Within p dir))):=by
 have H:=Hp.init hG
 refine calls_of_W (l:=[str p,str dir]) func76 Z ntmps76 Z (q2 (aG Z (q3 (W_seq (q2 (mV Z (o_seql Z Z Z (mV Z ?_))))))))
 refine R_case (t:=7) Z ?_ ?_
 ·intro hc1
  try simp only[nrm]at hc1
  refine pe 4 Z (q3 (W_true Z (q2 (aG Z (q3 (W_ret (N_K_ret (rt1 results76 Z ?_))))))))
  exact H.rets (congrArg Value.bool (by exact(Sp.within_eqs (.inl (by simpa using hc1))).symm))
 intro hc1'
 try simp only[nrm]at hc1'
 refine pe 2 Z (gR Z (o_seql Z Z Z (pe 1 Z (q3 ?_))))
 refine W_cond Z ?_ ?_
 ·intro hc2
  try simp only[nrm]at hc2
  refine q2 (aG Z (q3 (W_ret (N_K_ret (rt1 results76 Z ?_)))))
  exact H.rets (congrArg Value.bool (by exact(Sp.within_eqs (.inr (by simpa using hc2))).symm))
 intro hc2'
 try simp only[nrm]at hc2'
 refine W_skip (N_K (q2 (mV Z (lS Z (mV Z (lS Z (pe 2 Z ?_)))))))
 refine R_case (t:=17) Z ?_ ?_
 ·intro hc3
  try simp only[nrm]at hc3
  refine pe 2 Z (gR Z (lS Z (gR Z (o_slice_str_to underlying9 Z Z Z oM oM (pe 1 Z (gR Z (o_seql Z Z Z (pe 2 Z ?_))))))))
  refine R_case (t:=25) Z ?_ ?_
  ·intro hc5
   try simp only[nrm]at hc5
   refine pe 2 Z (gR Z (lS Z (gR Z (o_index_str underlying9 Z Z Z Z oM ?_))));intro ch6 hch6;have hlt6:=ch6.toNat_lt
   refine pe 3 Z (q3 (W_ret (rt1 results76 Z ?_)))
   exact H.rets (congrArg Value.bool (by exact(Sp.within_hit hc1' hc2' oM hc5 (by simpa using hch6)).symm))
  intro hc5'
  try simp only[nrm]at hc5'
  refine pe 7 Z (q3 (W_ret (rt1 results76 Z ?_)))
  exact H.rets (congrArg Value.bool (by rw[Sp.within_far hc1' hc2',decide_eq_false (show¬p.take dir.length=dir from hc5')];simp))
 intro hc3'
 try simp only[nrm]at hc3'
 refine pe 15 Z (q3 (W_ret (rt1 results76 Z ?_)))
 exact H.rets (congrArg Value.bool (by rw[Sp.within_far hc1' hc2',decide_eq_false oM];simp))
theorem PathMove_c (w0:World)(G0:PH)(hG:PSub G0 w0)(p:Bs)(hp:p.length≤16777216)(f:Bs)(hf:f.length≤16777216)(t:Bs)(ht:t.length≤16777216) :
  Calls Tryz.prog 77 #[str p,str f,str t] w0 (Rets w0 (.tuple #[str ((Sp.PathMove p f t).getD []),.bool (Sp.PathMove p f t).isSome])):=by
 have H:=Hp.init hG
 refine calls_of_W (l:=[str p,str f,str t]) func77 Z ntmps77 Z (q2 (pe 2 Z (q3 (W_seq (q2 (mV Z (xr H Z2 (PathValid_c _ _ H.sub _ hp) ?_)))))));intro _ H
 refine pe 2 Z ?_
 refine R_case (t:=12) Z ?_ ?_
 ·intro hc2
  try simp only[nrm]at hc2
  refine pe 15 Z (q3 (W_true Z (q2 (pe 2 Z (q3 (W_ret (N_K_ret (rt2 results77 Z Z ?_))))))))
  have hp:Sp.PathMove p f t=none:=Sp.move_no (by simp_all)
  exact H.rets (by rw[hp];rfl)
 intro hc2'
 try simp only[nrm]at hc2'
 refine pe 1 Z (gR Z (xr H Z2 (PathValid_c _ _ H.sub _ hf) ?_));intro _ H
 refine pe 3 Z ?_
 refine R_case (t:=17) Z ?_ ?_
 ·intro hc4
  try simp only[nrm]at hc4
  refine pe 10 Z (q3 (W_true Z (q2 (pe 2 Z (q3 (W_ret (N_K_ret (rt2 results77 Z Z ?_))))))))
  have hp:Sp.PathMove p f t=none:=Sp.move_no (by simp_all)
  exact H.rets (by rw[hp];rfl)
 intro hc4'
 try simp only[nrm]at hc4'
 refine pe 1 Z (gR Z (xr H Z2 (PathValid_c _ _ H.sub _ ht) ?_));intro _ H
 refine pe 3 Z ?_
 refine R_case (t:=22) Z ?_ ?_
 ·intro hc6
  try simp only[nrm]at hc6
  refine pe 5 Z (q3 (W_true Z (q2 (pe 2 Z (q3 (W_ret (N_K_ret (rt2 results77 Z Z ?_))))))))
  have hp:Sp.PathMove p f t=none:=Sp.move_no (by simp_all)
  exact H.rets (by rw[hp];rfl)
 intro hc6'
 try simp only[nrm]at hc6'
 refine pe 2 Z (gR Z (xr H Z2 (l1Within_c _ _ H.sub _ hp _ hf) ?_));intro _ H
 refine pe 2 Z (q3 ?_)
 refine W_cond Z ?_ ?_
 ·intro hc8
  try simp only[nrm]at hc8
  refine q2 (pe 2 Z (q3 (W_ret (N_K_ret (rt2 results77 Z Z ?_)))))
  have hp:Sp.PathMove p f t=none:=Sp.move_no (by simp_all)
  exact H.rets (by rw[hp];rfl)
 intro hc8'
 try simp only[nrm]at hc8'
 refine W_skip (N_K (q2 ?_))
 have hwl:=Sp.within_len (p:=p) (f:=f) (by simp_all)
 have hpt:=Sp.path_len (p:=t) (by simp_all)
 have hpp:=Sp.path_len (p:=p) (by simp_all)
 refine pe 3 Z (lS Z (o_slice_str_from underlying9 Z Z Z oM oM ?_))
 refine o_sadd Z Z Z (by first|(simp only[List.length_drop];omega)|(simp;omega)) ?_
 refine aG Z (q3 (W_seq (q2 (mV Z ?_))))
 refine xr H Z2 (PathValid_c _ _ H.sub _ (by (first|assumption|(refine Sp.l5Parent_lim ?_;assumption)|(simp;done)|(simp;omega)|omega))) ?_;intro _ H
 refine pe 1 Z (q3 ?_)
 refine W_cond Z ?_ ?_
 ·intro hc11
  try simp only[nrm]at hc11
  refine q2 (pe 2 Z (q3 (W_ret (N_K_ret (rt2 results77 Z Z ?_)))))
  have hp:Sp.PathMove p f t=none:=Sp.move_no (by simp_all)
  exact H.rets (by rw[hp];rfl)
 intro hc11'
 try simp only[nrm]at hc11'
 refine W_skip (N_K (q2 (pe 3 Z (q3 (W_ret (rt2 results77 Z Z ?_))))))
 have hp:Sp.PathMove p f t=some _:=Sp.move_yes (by simp_all) (by simp_all) (by simp_all) (by simp_all) (by simp_all)
 exact H.rets (by rw[hp];rfl)
theorem l23Copies_c (w0:World)(G0:PH)(hG:PSub G0 w0)(vlist:Value)(list:List (BItem))(hlist:RdItems G0 vlist list)(f:Bs)(hf:f.length≤16777216)(t:Bs)(ht:t.length≤16777216) :
  Calls Tryz.prog 30 #[vlist,str f,str t] w0 (RetO w0 G0 (fun G v r=>∃u,v= .tuple #[u,.bool (Sp.l23Copies list f t).isSome]∧AccOf itemE 3 51 ((Sp.l23Copies list f t).getD []) G u r)):=by
 obtain⟨alist,klist,rfl⟩:=hlist.shape
 have hlimlist:list.length≤1099511627776:=hlist.lim
 have H:=Hp.init hG
 refine calls_of_W (l:=[.slice alist list.length klist,str f,str t]) func30 Z ntmps30 Z (q2 (pe 2 Z (q1 (xbs H Z7 ?_))));intro _ _ _ H
 have H:=H.blkAcc 3 (k:=0) (n:=0) rfl rfl (by decide)
 refine aG Z (q3 (W_seq (q2 (aG Z (q3 (W_block ?_))))))
 refine W_lp (hf:=(Sub.cons (t:=0) Z (Sub.cons (t:=1) Z (Sub.cons (t:=2) Z Sub.nil)))) (J:=fun M w m=>∃(v:Value) (n:Nat) (cs:List Value) (xs:List (BItem)) (k:Nat) (G:PH),M=[(9,.int .i64 (k:Int)),(8,v)]∧PLe G0 G∧Hp w0 G0 [] w G [acc 51 3 v n cs]∧(Chk itemE 3 G cs xs∧n=xs.length∧k≤list.length∧xs=Sp.copF f t (list.take k)∧Sp.copA f t (list.take k))∧m=(list.length-k)) (h0:=⟨_,_,_,[],0,_,Z,PLe.refl _,H,?inv,Z⟩) (round:=?round)
 case inv=>exact⟨(Chk.nil (E:=itemE) (sz:=3) (G:=G0)),by first|rfl|simp|(simp;omega)|omega,(by exact⟨by omega,rfl,fun x hx=>by simp at hx⟩)⟩
 case round =>
  rintro _ _ _ ⟨v,n,cs,xs,k,G2,rfl,hle2,H,hinv2,rfl⟩
  have hlist:=hlist.up hle2
  obtain⟨hchk2_0,_,hinv2⟩:=hinv2
  obtain⟨_,_,rfl⟩:=H.accShape (k:=0) rfl
  obtain⟨_,hxs,hca⟩:=hinv2;have hxl:xs.length≤k:=by (rw[hxs];have h9:=Sp.copF_len f t (list.take k);(rw[List.length_take]at h9);omega)
  refine W_seq (q2 (pe 2 Z (lN Z (pe 1 Z (q3 ?_)))))
  refine W_cond Z ?_ ?_
  ·intro hc3
   try simp only[nrm]at hc3
   refine W_skip (N_K (W_seq (W_block (q2 (pe 2 Z (iP k hlist Z3 Z ?_))))));intro _ _ z4 _ hz4 hE4 hrow4
   obtain⟨_,_,_,rfl,hi4,hr4,_,_⟩:=ox hE4
   refine fA 0 Z (lP H hrow4 0 Z2 (mV Z (xr H Z2 (l1Within_c _ _ H.sub _ hi4 _ hf) ?_)));intro _ H
   refine q3 ?_
   refine W_cond Z ?_ ?_
   ·intro hc6
    try simp only[nrm]at hc6
    refine q2 (pe 2 Z (iP k hlist Z3 Z ?_));intro _ _ z7 _ hz7 hE7 hrow7
    obtain⟨_,_,_,rfl,hi7,hr7,_,_⟩:=ox hE7
    have hzz7:z4=z7:=Option.some.inj (hz4.symm.trans hz7)
    subst hzz7
    refine fA 0 Z (lP H hrow7 0 Z2 (pe 2 Z (xr H Z2 (PathMove_c _ _ H.sub _ hi7 _ hf _ ht) ?_)));intro _ H
    refine pe 5 Z (q3 (W_seq (q2 (pe 2 Z (q3 ?_)))))
    refine W_cond Z ?_ ?_
    ·intro hc9
     try simp only[nrm]at hc9
     refine q2 (xbs H Z7 ?_);intro _ _ _ H
     have H:=H.blkAcc 3 (k:=0) (n:=0) rfl rfl (by decide)
     refine pe 2 Z (q3 (W_ret (N_K_ret (N_B_ret (N_K_ret (N_LP_ret (N_B_ret (N_K_ret (rt2 results30 Z Z ?_)))))))))
     have hN:Sp.l23Copies list f t=none:=by exact Sp.cop_no hz4 (by simpa using hc6) (by simpa using hc9)
     exact H.retO (k:=0) rfl (by rw[hN];exact⟨_,rfl,AccOf.mk aN (Chk.nil (E:=itemE) (sz:=3) (G:=G2))⟩) (acc_nd _ _ _ _ _)
    intro hc9'
    try simp only[nrm]at hc9'
    refine W_skip (N_K (q2 (pe 2 Z (iP k hlist Z3 Z ?_))));intro _ _ z11 _ hz11 hE11 hrow11
    obtain⟨_,_,_,rfl,hi11,hr11,_,_⟩:=ox hE11
    have hzz11:z4=z11:=Option.some.inj (hz4.symm.trans hz11)
    subst hzz11
    refine o_loadagg_P H isAgg51 sizeOf51 Z Z hrow11 Z (xc Z2 (l5Copy_c _ _ H.sub _ _ ⟨_,_,_,Z,hi11,hr11⟩) ?_)
    rintro _ _ ⟨_,_,g12,rfl,_,rfl,hr12_0⟩
    have H:=H.grow g12
    have hchk2_0:=hchk2_0.up g12.le
    have hle2:=hle2.trans g12.le
    obtain⟨_,_,_,rfl,_,hr13,_,_⟩:=ox hr12_0
    refine⟨_,Z,?_⟩
    refine xal H Z ?_;intro _ _ _ H
    refine xst 0 H Z8 ?_;intro _ H
    refine q1 (mV Z (fA 0 Z (xst 0 H Z8 ?_)));intro _ H
    refine q3 (W_region (mV Z (lA 0 3 H Z4 (xbs H Z7 ?_))));intro _ _ _ H
    refine o_append1 1 H (sz:=3) (bytes:=48) underlying29 typeInfo51 ⟨_,Z,Z⟩ Z Z Z Z Z Z Z Z Z Z oM Z ?_;intro _ _ H
    have hchk18:=hchk2_0.snoc (show itemE _ (Sp.mvI f t z4) _ from⟨_,_,_,rfl,(Sp.move_len _ _ _),hr13⟩) rfl
    obtain⟨_,_,rfl⟩:=H.accShape (k:=1) rfl
    refine aG Z (R_nil (N_B (N_K (W_region (mV Z (aD Z2 (aG Z (R_nil ?_))))))))
    have H:=H.dl 0
    refine N_lp (hJ:=⟨_,_,_,(xs++[(Sp.mvI f t z4)]),k+1,_,Z,hle2,H,?inv,Z⟩) (hm:=?hm)
    case hm=>omega
    case inv=>exact⟨hchk18,aN,(by exact⟨by omega,by (rw[hxs,Sp.copF_in hz4 (by simpa using hc6)]),Sp.copA_in hz4 hca (fun _=>by simpa using hc9')⟩)⟩
   intro hc6'
   try simp only[nrm]at hc6'
   refine W_skip (N_B (N_K (W_region (mV Z (aD Z2 (aG Z (R_nil ?_)))))))
   refine N_lp (hJ:=⟨_,_,_,xs,k+1,_,Z,hle2,H,?inv,Z⟩) (hm:=?hm)
   case hm=>omega
   case inv=>exact⟨hchk2_0,aN,(by exact⟨by omega,by (rw[hxs,Sp.copF_out hz4 (by simpa using hc6')]),Sp.copA_in hz4 hca (fun h9=>absurd h9 (by simpa using hc6'))⟩)⟩
  intro hc3'
  try simp only[nrm]at hc3'
  refine W_exit (N_K_exit (N_LP_exit (N_B_same (N_K (q2 (pe 3 Z (q3 (W_ret (rt2 results30 Z Z ?_)))))))))
  have hY:Sp.l23Copies list f t=some xs:=by (rw[hxs,show k=list.length by omega,List.take_length];exact Sp.cop_yes hca oM)
  exact H.retO (k:=0) rfl (by rw[hY];exact⟨_,rfl,AccOf.mk aN hchk2_0⟩) (acc_nd _ _ _ _ _)
theorem l23Put_c (w0:World)(G0:PH)(hG:PSub G0 w0)(vlist:Value)(list:List (BItem))(hlist:RdItems G0 vlist list)(vc:Value)(c:List (BItem))(hc:RdItems G0 vc c)(hS:list.length+c.length≤1000) :
  Calls Tryz.prog 70 #[vlist,vc] w0 (RetO w0 G0 (fun G v r=>∃u,v= .tuple #[u,.bool (Sp.l23Put list c).isSome]∧AccOf itemE 3 51 ((Sp.l23Put list c).getD []) G u r)):=by
 obtain⟨alist,klist,rfl⟩:=hlist.shape
 have hlimlist:list.length≤1099511627776:=hlist.lim
 obtain⟨ac,kc,rfl⟩:=hc.shape
 have hlimc:c.length≤1099511627776:=hc.lim
 have H:=Hp.init hG
 refine calls_of_W (l:=[.slice alist list.length klist,.slice ac c.length kc]) func70 Z ntmps70 Z (q2 (pe 2 Z (q1 (mV Z (xc Z2 (l5All_c _ _ H.sub _ _ hlist) ?_)))))
 rintro _ _ ⟨G1,_,_,g1,rfl,⟨_,rfl,hchk1⟩,hp1,hq1,hs1⟩
 have H:=H.growO g1 hp1 hq1 hs1;obtain⟨_,_,rfl⟩:=H.accShape (k:=0) rfl
 have hc:=hc.up g1.le
 refine⟨_,Z,?_⟩
 refine aG Z (q3 (W_seq (q2 (aG Z (q3 (W_block ?_))))))
 refine W_lp (hf:=(Sub.cons (t:=1) Z Sub.nil)) (J:=fun M w m=>∃(v:Value) (n:Nat) (cs:List Value) (xs:List (BItem)) (k:Nat) (G:PH),M=[(7,.int .i64 (k:Int)),(6,v)]∧PLe G1 G∧Hp w0 G0 [] w G [acc 51 3 v n cs]∧(Chk itemE 3 G cs xs∧n=xs.length∧k≤c.length∧xs.length≤list.length+k∧Sp.foldB Sp.put23 (c.take k) (some list)=some xs)∧m=(c.length-k)) (h0:=⟨_,_,_,list,0,_,Z,PLe.refl _,H,?inv,Z⟩) (round:=?round)
 case inv=>exact⟨hchk1,by first|rfl|simp|(simp;omega)|omega,(by exact⟨by omega,by omega,by simp[Sp.foldB]⟩)⟩
 case round =>
  rintro _ _ _ ⟨v,n,cs,xs,k,G2,rfl,hle2,H,hinv2,rfl⟩
  have hc:=hc.up hle2
  obtain⟨hchk2_0,_,hinv2⟩:=hinv2
  obtain⟨_,_,rfl⟩:=H.accShape (k:=0) rfl
  obtain⟨_,_,hf⟩:=hinv2
  refine W_seq (q2 (pe 2 Z (lN Z (pe 1 Z (q3 ?_)))))
  refine W_cond Z ?_ ?_
  ·intro hc3
   try simp only[nrm]at hc3
   refine W_skip (N_K (W_seq (W_block (W_seq (q2 (pe 3 Z (iP k hc Z3 Z ?_)))))));intro _ _ z4 _ hz4 hE4 hrow4
   obtain⟨_,_,_,rfl,hi4,hr4,_,_⟩:=ox hE4
   refine fA 0 Z (lP H hrow4 0 Z2 (xr H Z2 (l5At_c _ _ (H.lendSubL [0]) _ _ (H.lendRdL (k:=0) (ks:=[0]) Z Z hchk2_0 aN aN) _ hi4) ?_));intro _ H
   refine pe 1 Z (q3 ?_)
   refine W_cond Z ?_ ?_
   ·intro hc6
    try simp only[nrm]at hc6
    refine q2 (xbs H Z7 ?_);intro _ _ _ H
    have H:=H.blkAcc 3 (k:=0) (n:=0) rfl rfl (by decide)
    refine pe 2 Z (q3 (W_ret (N_K_ret (N_B_ret (N_K_ret (N_LP_ret (N_B_ret (N_K_ret (rt2 results70 Z Z ?_)))))))))
    have hN:Sp.l23Put list c=none:=by (rw[Sp.l23Put,Sp.foldB_stop hf hz4 (Sp.put23_no oM)];rfl)
    exact H.retO (k:=0) rfl (by rw[hN];exact⟨_,rfl,AccOf.mk aN (Chk.nil (E:=itemE) (sz:=3) (G:=G2))⟩) (acc_nd _ _ _ _ _)
   intro hc6'
   try simp only[nrm]at hc6'
   refine W_skip (N_K (W_region (pe 3 Z (iP k hc Z3 Z ?_))));intro _ _ z8 _ hz8 hE8 hrow8
   obtain⟨_,_,_,rfl,hi8,hr8,_,_⟩:=ox hE8
   have hzz8:z4=z8:=Option.some.inj (hz4.symm.trans hz8)
   subst hzz8
   refine o_loadagg_P H isAgg51 sizeOf51 Z Z hrow8 Z ?_
   obtain⟨_,H,hsg10,hsr10⟩:=H.shut' (k:=0) rfl hchk2_0 aN aN
   have hr8:=hr8.up hsg10
   have hle2:=hle2.trans hsg10
   refine xc Z2 (l5Put_c _ _ H.sub _ _ hsr10 _ z4 ⟨_,_,_,Z,hi8,hr8⟩ oM) ?_
   rintro _ _ ⟨_,_,_,g9,rfl,⟨_,rfl,hchk9⟩,hp9,hq9,hs9⟩
   have H:=H.growO g9 hp9 hq9 hs9;obtain⟨_,_,rfl⟩:=H.accShape (k:=0) rfl
   have hle2:=hle2.trans g9.le
   refine⟨_,Z,?_⟩
   refine aG Z (R_nil (N_B (N_K (W_region (mV Z (aD Z2 (aG Z (R_nil ?_))))))))
   refine N_lp (hJ:=⟨_,_,_,(Sp.l5Put xs z4),k+1,_,Z,hle2,H,?inv,Z⟩) (hm:=?hm)
   case hm=>omega
   case inv=>exact⟨hchk9,aN,(by exact⟨by omega,by (have h9:=Sp.l5Put_len xs z4;omega),Sp.foldB_succ hf hz4 (Sp.put23_yes oM)⟩)⟩
  intro hc3'
  try simp only[nrm]at hc3'
  refine W_exit (N_K_exit (N_LP_exit (N_B_same (N_K (W_seq (q2 (mV Z (xr H Z2 (TreeValid_c _ _ (H.lendSubL [0]) _ _ (H.lendRdL (k:=0) (ks:=[0]) Z Z hchk2_0 aN aN)) ?_))))))));intro _ H
  refine pe 1 Z (q3 ?_)
  refine W_cond Z ?_ ?_
  ·intro hc13
   try simp only[nrm]at hc13
   refine q2 (xbs H Z7 ?_);intro _ _ _ H
   have H:=H.blkAcc 3 (k:=0) (n:=0) rfl rfl (by decide)
   refine pe 2 Z (q3 (W_ret (N_K_ret (rt2 results70 Z Z ?_))))
   have hN:Sp.l23Put list c=none:=by (have h9:Sp.TreeValid xs=false:=by simpa using hc13);(rw[Sp.l23Put,Sp.foldB_all hf oM];simp[h9])
   exact H.retO (k:=0) rfl (by rw[hN];exact⟨_,rfl,AccOf.mk aN (Chk.nil (E:=itemE) (sz:=3) (G:=G2))⟩) (acc_nd _ _ _ _ _)
  intro hc13'
  try simp only[nrm]at hc13'
  refine W_skip (N_K (q2 (pe 3 Z (q3 (W_ret (rt2 results70 Z Z ?_))))))
  have hY:Sp.l23Put list c=some xs:=by (have h9:Sp.TreeValid xs=true:=by simpa using hc13');(rw[Sp.l23Put,Sp.foldB_all hf oM];simp[h9])
  exact H.retO (k:=0) rfl (by rw[hY];exact⟨_,rfl,AccOf.mk aN hchk2_0⟩) (acc_nd _ _ _ _ _)
theorem l23Ok_c (w0:World)(G0:PH)(hG:PSub G0 w0)(vlist:Value)(list:List (BItem))(hlist:RdItems G0 vlist list)(f:Bs)(hf:f.length≤16777216)(t:Bs)(ht:t.length≤16777216) :
  Calls Tryz.prog 69 #[vlist,str f,str t] w0 (Rets w0 (.bool (Sp.l23Ok list f t))):=by
 obtain⟨alist,klist,rfl⟩:=hlist.shape
 have hlimlist:list.length≤1099511627776:=hlist.lim
 have H:=Hp.init hG
 refine calls_of_W (l:=[.slice alist list.length klist,str f,str t]) func69 Z ntmps69 Z (q2 (aG Z (q1 (mV Z (xr H Z2 (TreeValid_c _ _ H.sub _ _ hlist) ?_)))));intro _ H
 refine mV Z ?_
 refine R_case (t:=9) Z ?_ ?_
 ·intro hc2
  try simp only[nrm]at hc2
  refine pe 1 Z (gR Z (xr H Z2 (PathValid_c _ _ H.sub _ hf) ?_));intro _ H
  refine pe 2 Z ?_
  refine R_case (t:=13) Z ?_ ?_
  ·intro hc4
   try simp only[nrm]at hc4
   refine pe 1 Z (gR Z (xr H Z2 (PathValid_c _ _ H.sub _ ht) ?_));intro _ H
   refine pe 2 Z ?_
   refine R_case (t:=17) Z ?_ ?_
   ·intro hc6
    try simp only[nrm]at hc6
    refine pe 2 Z (gR Z (xr H Z2 (l5At_c _ _ H.sub _ _ hlist _ hf) ?_));intro _ H
    refine pe 3 Z ?_
    refine R_case (t:=23) Z ?_ ?_
    ·intro hc8
     try simp only[nrm]at hc8
     refine pe 2 Z (gR Z (xr H Z2 (l1Within_c _ _ H.sub _ ht _ hf) ?_));intro _ H
     refine pe 3 Z ?_
     refine R_case (t:=29) Z ?_ ?_
     ·intro hc10
      try simp only[nrm]at hc10
      refine pe 2 Z (gR Z (xr H Z2 (l5At_c _ _ H.sub _ _ hlist _ ht) ?_));intro _ H
      refine pe 3 Z (q3 (W_ret (rt1 results69 Z ?_)))
      have hq1:=Sp.l5_ge (l:=list) (p:=f)
      have hq2:=Sp.l5_lt (l:=list) (p:=t)
      exact H.rets (congrArg Value.bool (by ((by_cases hx:0≤Sp.l5At list f)<;>(simp only[Sp.l23Ok,←hq1,←hq2];first|(simp_all;done)|omega|(simp_all;omega)))))
     intro hc10'
     try simp only[nrm]at hc10'
     refine pe 6 Z (q3 (W_ret (rt1 results69 Z ?_)))
     have hq1:=Sp.l5_ge (l:=list) (p:=f)
     have hq2:=Sp.l5_lt (l:=list) (p:=t)
     exact H.rets (congrArg Value.bool (by ((by_cases hx:0≤Sp.l5At list f)<;>(simp only[Sp.l23Ok,←hq1,←hq2];first|(simp_all;done)|omega|(simp_all;omega)))))
    intro hc8'
    try simp only[nrm]at hc8'
    refine pe 12 Z (q3 (W_ret (rt1 results69 Z ?_)))
    have hq1:=Sp.l5_ge (l:=list) (p:=f)
    have hq2:=Sp.l5_lt (l:=list) (p:=t)
    exact H.rets (congrArg Value.bool (by ((by_cases hx:0≤Sp.l5At list f)<;>(simp only[Sp.l23Ok,←hq1,←hq2];first|(simp_all;done)|omega|(simp_all;omega)))))
   intro hc6'
   try simp only[nrm]at hc6'
   refine pe 18 Z (q3 (W_ret (rt1 results69 Z ?_)))
   have hq1:=Sp.l5_ge (l:=list) (p:=f)
   have hq2:=Sp.l5_lt (l:=list) (p:=t)
   exact H.rets (congrArg Value.bool (by ((by_cases hx:0≤Sp.l5At list f)<;>(simp only[Sp.l23Ok,←hq1,←hq2];first|(simp_all;done)|omega|(simp_all;omega)))))
  intro hc4'
  try simp only[nrm]at hc4'
  refine pe 22 Z (q3 (W_ret (rt1 results69 Z ?_)))
  have hq1:=Sp.l5_ge (l:=list) (p:=f)
  have hq2:=Sp.l5_lt (l:=list) (p:=t)
  exact H.rets (congrArg Value.bool (by ((by_cases hx:0≤Sp.l5At list f)<;>(simp only[Sp.l23Ok,←hq1,←hq2];first|(simp_all;done)|omega|(simp_all;omega)))))
 intro hc2'
 try simp only[nrm]at hc2'
 refine pe 26 Z (q3 (W_ret (rt1 results69 Z ?_)))
 have hq1:=Sp.l5_ge (l:=list) (p:=f)
 have hq2:=Sp.l5_lt (l:=list) (p:=t)
 exact H.rets (congrArg Value.bool (by ((by_cases hx:0≤Sp.l5At list f)<;>(simp only[Sp.l23Ok,←hq1,←hq2];first|(simp_all;done)|omega|(simp_all;omega)))))
theorem TreeClone_c (w0:World)(G0:PH)(hG:PSub G0 w0)(vlist:Value)(list:List (BItem))(hlist:RdItems G0 vlist list)(f:Bs)(hf:f.length≤16777216)(t:Bs)(ht:t.length≤16777216) :
  Calls Tryz.prog 28 #[vlist,str f,str t] w0 (RetP w0 G0 (fun G v=>∃u,v= .tuple #[u,.bool (Sp.TreeClone list f t).isSome]∧RdItems G u ((Sp.TreeClone list f t).getD []))):=by
 obtain⟨alist,klist,rfl⟩:=hlist.shape
 have hlimlist:list.length≤1099511627776:=hlist.lim
 have H:=Hp.init hG
 refine calls_of_W (l:=[.slice alist list.length klist,str f,str t]) func28 Z ntmps28 Z (q2 (pe 2 Z (q3 (W_seq (q2 (pe 3 Z (xr H Z2 (l23Ok_c _ _ H.sub _ _ hlist _ hf _ ht) ?_)))))));intro _ H
 refine pe 1 Z (q3 ?_)
 refine W_cond Z ?_ ?_
 ·intro hc2
  try simp only[nrm]at hc2
  refine q2 (xbs H Z7 ?_);intro _ _ _ H
  have H:=H.blkAcc 3 (k:=0) (n:=0) rfl rfl (by decide)
  refine pe 2 Z (q3 (W_ret (N_K_ret (rt2 results28 Z Z ?_))))
  obtain⟨_,H,hsg505,hsr505⟩:=H.shut' (k:=0) rfl (Chk.nil (E:=itemE) (sz:=3) (G:=G0)) aN aN
  have hY:Sp.TreeClone list f t=none:=by exact Sp.clone_nok (by simpa using hc2)
  exact H.retP (by rw[hY];exact⟨_,rfl,hsr505⟩)
 intro hc2'
 try simp only[nrm]at hc2'
 refine W_skip (N_K (q2 (pe 3 Z (xc Z2 (l23Copies_c _ _ H.sub _ _ hlist _ hf _ ht) ?_))))
 rintro _ _ ⟨G4,_,_,g4,rfl,⟨_,rfl,⟨_,rfl,hchk4⟩⟩,hp4,hq4,hs4⟩
 have H:=H.growO g4 hp4 hq4 hs4;obtain⟨_,_,rfl⟩:=H.accShape (k:=0) rfl
 have hlist:=hlist.up g4.le
 refine⟨_,Z,?_⟩
 refine pe 5 Z (q3 (W_seq (q2 (pe 2 Z (q3 ?_)))))
 refine W_cond Z ?_ ?_
 ·intro hc5
  try simp only[nrm]at hc5
  refine q2 (xbs H Z7 ?_);intro _ _ _ H
  have H:=H.blkAcc 3 (k:=0) (n:=0) rfl rfl (by decide)
  refine pe 2 Z (q3 (W_ret (N_K_ret (rt2 results28 Z Z ?_))))
  obtain⟨_,H,hsg509,hsr509⟩:=H.shut' (k:=0) rfl (Chk.nil (E:=itemE) (sz:=3) (G:=G4)) aN aN
  have hY:Sp.TreeClone list f t=none:=by exact Sp.clone_noc (by simpa using hc5)
  exact H.retP (by rw[hY];exact⟨_,rfl,hsr509⟩)
 intro hc5'
 try simp only[nrm]at hc5'
 refine W_skip (N_K (q2 ?_))
 obtain⟨cc,hcc⟩:=Option.isSome_iff_exists.1 (show(Sp.l23Copies list f t).isSome=true by simpa using hc5')
 have hok:Sp.l23Ok list f t=true:=by simp_all
 have htl:=Sp.tree_len (Sp.ok_valid hok)
 have hcl:=Sp.copies_len hcc
 have hgc:(Sp.l23Copies list f t).getD []=cc:=by (rw[hcc];rfl)
 have hgl:((Sp.l23Copies list f t).getD []).length≤16:=by (rw[hgc];omega)
 refine pe 2 Z ?_
 obtain⟨_,H,hsg8,hsr8⟩:=H.shut' (k:=0) rfl hchk4 aN aN
 have hlist:=hlist.up hsg8
 refine xc Z2 (l23Put_c _ _ H.sub _ _ hlist _ _ hsr8 oM) ?_
 rintro _ _ ⟨_,_,_,g7,rfl,⟨_,rfl,⟨_,rfl,hchk7⟩⟩,hp7,hq7,hs7⟩
 have H:=H.growO g7 hp7 hq7 hs7;obtain⟨_,_,rfl⟩:=H.accShape (k:=0) rfl
 refine⟨_,Z,?_⟩
 have hpl:=Sp.l23Put_len list ((Sp.l23Copies list f t).getD [])
 refine pe 4 Z (q3 (W_ret (rt2 results28 Z Z ?_)))
 obtain⟨_,H,hsg512,hsr512⟩:=H.shut' (k:=0) rfl hchk7 aN aN
 have hY:Sp.TreeClone list f t=Sp.l23Put list ((Sp.l23Copies list f t).getD []):=by (rw[Sp.TreeClone,if_pos hok,hcc];rfl)
 exact H.retP (by rw[hY];exact⟨_,rfl,hsr512⟩)
theorem DiskClone_c (w0:World)(G0:PH)(hG:PSub G0 w0)(cd:List Value)(d:BDisk)(hd:diskE G0 d cd)(f:Bs)(hf:f.length≤16777216)(t:Bs)(ht:t.length≤16777216) :
  Calls Tryz.prog 8 #[.agg cd.toArray,str f,str t] w0 (RetO w0 G0 (fun G val r=>∃u u1 u2,val= .tuple #[.agg #[u,u1,u2],.bool (Sp.DiskClone d f t).isSome]∧AccOf snapE 2 91 (((Sp.DiskClone d f t).map (·.snaps)).getD []) G u2 r∧RdH G u (((Sp.DiskClone d f t).map (·.store)).getD [])∧RdItems G u1 (((Sp.DiskClone d f t).map (·.tree)).getD []))):=by
 obtain⟨_,_,_,_,_,_,_,_,_,rfl,hr1,hr1',hr1'',⟨_,_⟩,⟨_,_⟩,_,_⟩:=ox hd
 have H:=Hp.init hG
 refine calls_of_W (l:=[_,str f,str t]) func8 Z ntmps8 Z (q2 (o_box H Z Z Z ?_));intro _ _ _ H
 refine xal H Z ?_;intro _ _ _ H
 refine aG Z (q1 (fA 1 Z (lB 1 H Z3 (pe 2 Z (xc Z2 (TreeClone_c _ _ H.sub _ _ hr1' _ hf _ ht) ?_)))))
 rintro _ _ ⟨_,_,g4,rfl,_,rfl,hr4_0⟩
 have H:=H.grow g4
 have hr1:=hr1.up g4.le
 have hr1':=hr1'.up g4.le
 have hr1'':=hr1''.up g4.le
 obtain⟨_,_,rfl⟩:=hr4_0.shape;have hx_hr4_0:_≤1099511627776:=hr4_0.lim
 refine⟨_,Z,?_⟩
 refine pe 5 Z (q3 (W_seq (q2 (lA 1 3 H Z4 (xr H Z2 (DiskValid_c _ _ H.sub _ d ⟨_,_,_,_,_,_,_,_,_,Z,hr1,hr1',hr1''⟩) ?_)))));intro _ H
 refine pe 2 Z ?_
 refine R_case (t:=26) Z ?_ ?_
 ·intro hc6
  try simp only[nrm]at hc6
  refine pe 3 Z (q3 (W_true Z (q2 (o_build bf32 Z Z Z (xst 0 H Z8 ?_)))));intro _ H
  refine aG Z (q3 (W_ret (N_K_ret (ret_gen (rs:=[.cell 6 32,.tmp 7]) (vs:=[_,_]) results8 ⟨⟨_,Z,load_blk 0 H isAgg32 sizeOf32 Z Z Z⟩,Z,trivial⟩ ?_))))
  have hN:Sp.DiskClone d f t=none:=by (by_cases hv:Sp.DiskValid d=true;(· (have hno:Sp.TreeClone d.tree f t=none:=by simp_all);simp[Sp.DiskClone,hno]);(· simp[Sp.DiskClone,hv]))
  have H:=H.addNil 91 2
  exact H.retO (k:=0) rfl (by rw[hN];exact⟨_,_,_,rfl,AccOf.mk rfl Chk.nil,RdS.nil _ _ _,RdS.nil _ _ _⟩) (acc_nd _ _ _ _ _)
 intro hc6'
 try simp only[nrm]at hc6'
 refine pe 3 Z (q3 ?_)
 refine W_cond Z ?_ ?_
 ·intro hc8
  try simp only[nrm]at hc8
  refine q2 (o_build bf32 Z Z Z (xst 0 H Z8 ?_));intro _ H
  refine aG Z (q3 (W_ret (N_K_ret (ret_gen (rs:=[.cell 6 32,.tmp 7]) (vs:=[_,_]) results8 ⟨⟨_,Z,load_blk 0 H isAgg32 sizeOf32 Z Z Z⟩,Z,trivial⟩ ?_))))
  have hN:Sp.DiskClone d f t=none:=by (by_cases hv:Sp.DiskValid d=true;(· (have hno:Sp.TreeClone d.tree f t=none:=by simp_all);simp[Sp.DiskClone,hno]);(· simp[Sp.DiskClone,hv]))
  have H:=H.addNil 91 2
  exact H.retO (k:=0) rfl (by rw[hN];exact⟨_,_,_,rfl,AccOf.mk rfl Chk.nil,RdS.nil _ _ _,RdS.nil _ _ _⟩) (acc_nd _ _ _ _ _)
 intro hc8'
 try simp only[nrm]at hc8'
 refine W_skip (N_K (q2 (fA 1 Z (lB 1 H Z3 (pe 2 Z (xc Z2 (l23Copies_c _ _ H.sub _ _ hr1' _ hf _ ht) ?_))))))
 rintro _ _ ⟨_,_,_,g10,rfl,⟨_,rfl,⟨_,rfl,hchk10⟩⟩,hp10,hq10,hs10⟩
 have H:=H.growO g10 hp10 hq10 hs10;obtain⟨_,_,rfl⟩:=H.accShape (k:=0) rfl
 have hr1:=hr1.up g10.le
 have hr1':=hr1'.up g10.le
 have hr1'':=hr1''.up g10.le
 have hr4_0:=hr4_0.up g10.le
 refine⟨_,Z,?_⟩
 have hcl2:=Sp.copies_len2 d.tree f t
 refine pe 5 Z (q1 (fA 0 Z (lB 2 H Z3 (mV Z ?_))))
 obtain⟨_,H,hsg12,hsr12⟩:=H.shut' (k:=0) rfl hchk10 aN aN
 have hr1:=hr1.up hsg12
 have hr1':=hr1'.up hsg12
 have hr1'':=hr1''.up hsg12
 have hr4_0:=hr4_0.up hsg12
 refine xc Z2 (l12Keep_c _ _ H.sub _ _ hr1 _ _ hsr12) ?_
 rintro _ _ ⟨_,_,_,g11,rfl,⟨_,rfl,⟨_,rfl,hchk11⟩⟩,hp11,hq11,hs11⟩
 have H:=H.growO g11 hp11 hq11 hs11;obtain⟨_,_,rfl⟩:=H.accShape (k:=0) rfl
 have hr1:=hr1.up g11.le
 have hr1':=hr1'.up g11.le
 have hr1'':=hr1''.up g11.le
 have hr4_0:=hr4_0.up g11.le
 refine⟨_,Z,?_⟩
 have hkl:=Sp.l12Keep_len d.store ((Sp.l23Copies d.tree f t).getD [])
 refine pe 5 Z (q3 (W_seq (q2 (pe 2 Z (q3 ?_)))))
 refine W_cond Z ?_ ?_
 ·intro hc13
  try simp only[nrm]at hc13
  refine q2 (o_build bf32 Z Z Z (xst 1 H Z8 ?_));intro _ H
  refine aG Z (q3 (W_ret (N_K_ret (ret_gen (rs:=[.cell 6 32,.tmp 7]) (vs:=[_,_]) results8 ⟨⟨_,Z,load_blk 1 H isAgg32 sizeOf32 Z Z Z⟩,Z,trivial⟩ ?_))))
  have hN:Sp.DiskClone d f t=none:=by (have hno:Sp.l12Keep d.store ((Sp.l23Copies d.tree f t).getD [])=none:=by simpa using hc13);simp[Sp.DiskClone,hno]
  have H:=H.addNil 91 2
  exact H.retO (k:=0) rfl (by rw[hN];exact⟨_,_,_,rfl,AccOf.mk rfl Chk.nil,RdS.nil _ _ _,RdS.nil _ _ _⟩) (acc_nd _ _ _ _ _)
 intro hc13'
 try simp only[nrm]at hc13'
 refine W_skip (N_K (q2 (lA 2 3 H Z4 (xc Z2 (l12Copy_c _ _ H.sub _ d ⟨_,_,_,_,_,_,_,_,_,Z,hr1,hr1',hr1''⟩) ?_))))
 rintro _ _ ⟨_,_,_,g15,rfl,⟨_,_,_,rfl,⟨_,rfl,hchk15⟩,hr15_0,hr15_1⟩,hp15,hq15,hs15⟩
 have H:=H.growO g15 hp15 hq15 hs15;obtain⟨_,_,rfl⟩:=H.accShape (k:=0) rfl
 have hr4_0:=hr4_0.up g15.le
 have hchk11:=hchk11.up g15.le
 obtain⟨_,_,rfl⟩:=hr15_0.shape;have hx_hr15_0:_≤1099511627776:=hr15_0.lim
 obtain⟨_,_,rfl⟩:=hr15_1.shape;have hx_hr15_1:_≤1099511627776:=hr15_1.lim
 refine⟨_,Z,?_⟩
 refine xal H Z ?_;intro _ _ _ H
 refine xst 0 H Z8 ?_;intro _ H
 refine q1 (mV Z (fA 0 Z (xst 0 H Z8 ?_)));intro _ H
 refine q1 (mV Z (fA 1 Z (xst 0 H Z8 ?_)));intro _ H
 refine q1 (lA 0 3 H Z4 (xst 3 H Z8 ?_));intro _ H
 refine aG Z (q3 (W_ret (ret_gen (rs:=[.cell 6 32,.tmp 7]) (vs:=[_,_]) results8 ⟨⟨_,Z,load_blk 3 H isAgg32 sizeOf32 Z Z Z⟩,Z,trivial⟩ ?_)))
 obtain⟨_,H,hsg525,hsr525⟩:=H.shut' (k:=2) rfl hchk11 aN aN
 have hr4_0:=hr4_0.up hsg525
 have hchk15:=hchk15.up hsg525
 have hY:Sp.DiskClone d f t=some ⟨(Sp.l12Keep d.store ((Sp.l23Copies d.tree f t).getD [])).getD [],(Sp.TreeClone d.tree f t).getD [],d.snaps⟩:=by (obtain⟨_,_⟩:=Option.isSome_iff_exists.1 (show(Sp.l12Keep d.store ((Sp.l23Copies d.tree f t).getD [])).isSome=true by simpa using hc13'));(obtain⟨_,_⟩:=Option.isSome_iff_exists.1 (show(Sp.TreeClone d.tree f t).isSome=true by simp_all));simp_all [Sp.DiskClone]
 exact H.retO (k:=1) rfl (by rw[hY];exact⟨_,_,_,rfl,AccOf.mk aN hchk15,hsr525,hr4_0⟩) (acc_nd _ _ _ _ _)
theorem DiskCloneP_c (w0:World)(G0:PH)(hG:PSub G0 w0)(cd:List Value)(d:BDisk)(hd:diskE G0 d cd)(f:Bs)(hf:f.length≤16777216)(t:Bs)(ht:t.length≤16777216) :
  Calls Tryz.prog 8 #[.agg cd.toArray,str f,str t] w0 (RetP w0 G0 (fun G val=>∃cs,val= .tuple #[.agg cs.toArray,.bool (Sp.DiskClone d f t).isSome]∧diskE G ((Sp.DiskClone d f t).getD ⟨[],[],[]⟩) cs)):=by
 refine(DiskClone_c w0 G0 hG cd d hd f hf t ht).mono ?_
 rintro _ _ ⟨_,_,_,g,rfl,⟨_,_,_,rfl,⟨_,rfl,hchk⟩,h1,h2⟩,hp,hq,hs⟩
 have H:=(Hp.init hG).growO g hp hq hs
 have hb:(((Sp.DiskClone d f t).map (·.snaps)).getD []).length≤6:=Sp.dk_lim (fun d1 h=>Sp.clone_valid h)
 obtain⟨_,H2,hle,hr⟩:=H.shut' (k:=0) rfl hchk rfl oM
 have e1:((Sp.DiskClone d f t).map (·.store)).getD []=((Sp.DiskClone d f t).getD ⟨[],[],[]⟩).store:=by cases Sp.DiskClone d f t<;>rfl
 have e2:((Sp.DiskClone d f t).map (·.tree)).getD []=((Sp.DiskClone d f t).getD ⟨[],[],[]⟩).tree:=by cases Sp.DiskClone d f t<;>rfl
 have e3:((Sp.DiskClone d f t).map (·.snaps)).getD []=((Sp.DiskClone d f t).getD ⟨[],[],[]⟩).snaps:=by cases Sp.DiskClone d f t<;>rfl
 rw[e1]at h1;rw[e2]at h2;rw[e3]at hr
 obtain⟨_,_,rfl⟩:=h1.shape
 obtain⟨_,_,rfl⟩:=h2.shape
 obtain⟨_,_,rfl⟩:=hr.shape
 exact H2.retP ⟨[_,_,_],Z,_,_,_,_,_,_,_,_,_,Z,h1.up hle,h2.up hle,hr⟩
theorem xDiskClone_c (w0:World)(G0:PH)(hG:PSub G0 w0)(caD:List Value)(aD:BDisk)(haD:diskE G0 aD caD)(aFrom:Bs)(haFrom:aFrom.length≤16777216)(aTo:Bs)(haTo:aTo.length≤16777216) :
  Calls Tryz.prog 3 #[.agg caD.toArray,str aFrom,str aTo] w0 (Rets w0 (.bool true)):=by
 obtain⟨_,_,_,_,_,_,_,_,_,rfl,hr1,hr1',hr1'',⟨_,_⟩,⟨_,_⟩,_,_⟩:=ox haD
 have hcd0:=cDisk_le aD
 have hcD:cDisk ((Sp.DiskClone aD aFrom aTo).getD ⟨[],[],[]⟩)≤700:=dk_cnt (fun d1 h=>Sp.clone_valid h)
 have H:=Hp.init hG
 refine calls_of_W (l:=[_,str aFrom,str aTo]) func3 Z ntmps3 Z (q2 (o_box H Z Z Z ?_));intro _ _ _ H
 refine aG Z (q3 (W_seq (q2 (mV Z (lS Z (pe 1 Z (q3 ?_)))))))
 refine W_cond Z ?_ ?_
 ·intro hc3
  try simp only[nrm]at hc3
  refine q2 (aG Z (q3 (W_ret (N_K_ret (rt1 results3 Z ?_)))))
  exact H.rets Z
 intro hc3'
 try simp only[nrm]at hc3'
 refine W_skip (N_K (W_seq (q2 (mV Z (lS Z (pe 1 Z (q3 ?_)))))))
 refine W_cond Z ?_ ?_
 ·intro hc4
  try simp only[nrm]at hc4
  refine q2 (aG Z (q3 (W_ret (N_K_ret (rt1 results3 Z ?_)))))
  exact H.rets Z
 intro hc4'
 try simp only[nrm]at hc4'
 refine W_skip (N_K (q2 (aG Z (q1 (lA 0 3 H Z4 (mV Z (xc Z2 (w_szDisk_c _ _ H.sub _ aD ⟨_,_,_,_,_,_,_,_,_,Z,hr1,hr1',hr1''⟩ _ oO) ?_)))))))
 rintro _ _ ⟨_,rfl,ew5,⟨_,rfl,_⟩⟩
 skip
 have H:=H.step ew5;refine⟨_,rfl,?_⟩
 refine aG Z (q3 (W_seq (q2 (pe 2 Z (q3 ?_)))))
 refine W_cond Z ?_ ?_
 ·intro hc6
  try simp only[nrm]at hc6
  refine q2 (aG Z (q3 (W_ret (N_K_ret (rt1 results3 Z ?_)))))
  exact H.rets Z
 intro hc6'
 try simp only[nrm]at hc6'
 refine W_skip (N_K (q2 (lA 0 3 H Z4 (xc Z2 (w_toDisk_c _ _ H.sub _ aD ⟨_,_,_,_,_,_,_,_,_,Z,hr1,hr1',hr1''⟩) ?_))))
 rintro _ _ ⟨_,_,rfl,H7',⟨_,_,_,_,_,_,rfl,rfl,ho17,ho27,ho37⟩⟩
 have H:=H.readers (fp:=[]) (by simp) (PLe.refl _) H7'
 obtain⟨_,p17⟩:=ho17
 obtain⟨_,_,rfl⟩:=OwnS.shape p17
 obtain⟨_,p27⟩:=ho27
 obtain⟨_,_,rfl⟩:=OwnS.shape p27
 obtain⟨_,p37⟩:=ho37
 obtain⟨_,_,rfl⟩:=OwnS.shape p37
 refine⟨_,Z,?_⟩
 refine pe 2 Z ?_
 have hnd9:=dm_nodup H (k:=0) rfl;obtain⟨_,H,hsg9,hsf9⟩:=H.keepF (k:=0) rfl (by simp);have hsr9:=(show OHs _ _ _ from⟨_,p17⟩).rd hsf9 hnd9
 have hr1:=hr1.up hsg9
 have hr1':=hr1'.up hsg9
 have hr1'':=hr1''.up hsg9
 have hnd10:=dm_nodup H (k:=0) rfl;obtain⟨_,H,hsg10,hsf10⟩:=H.keepF (k:=0) rfl (by simp);have hsr10:=(show OIs _ _ _ from⟨_,p27⟩).rd hsf10 hnd10
 have hr1:=hr1.up hsg10
 have hr1':=hr1'.up hsg10
 have hr1'':=hr1''.up hsg10
 have hsr9:=hsr9.up hsg10
 have hnd11:=dm_nodup H (k:=0) rfl;obtain⟨_,H,hsg11,hsf11⟩:=H.keepF (k:=0) rfl (by simp);have hsr11:=(show OSn _ _ _ from⟨_,p37⟩).rd hsf11 hnd11
 have hr1:=hr1.up hsg11
 have hr1':=hr1'.up hsg11
 have hr1'':=hr1''.up hsg11
 have hsr9:=hsr9.up hsg11
 have hsr10:=hsr10.up hsg11
 refine xc Z2 (DiskCloneP_c _ _ H.sub _ aD ⟨_,_,_,_,_,_,_,_,_,Z,hsr9,hsr10,hsr11⟩ _ haFrom _ haTo) ?_
 rintro _ _ ⟨G8,_,g8,rfl,_,rfl,hr8_0⟩
 have H:=H.grow g8
 have hr1:=hr1.up g8.le
 have hr1':=hr1'.up g8.le
 have hr1'':=hr1''.up g8.le
 obtain⟨_,_,_,_,_,_,_,_,_,rfl,hr12,hr12',hr12'',⟨_,_⟩,⟨_,_⟩,_,_⟩:=ox hr8_0
 refine⟨_,Z,?_⟩
 refine pe 3 Z (xal H Z ?_);intro _ _ _ H
 refine xst 0 H Z8 ?_;intro _ H
 refine aG Z (q1 (lA 1 3 H Z4 (xc Z2 (w_toDisk_c _ _ H.sub _ aD ⟨_,_,_,_,_,_,_,_,_,Z,hr1,hr1',hr1''⟩) ?_)))
 rintro _ _ ⟨_,_,rfl,H15',⟨_,_,_,_,_,_,rfl,rfl,ho115,ho215,ho315⟩⟩
 have H:=H.readers (fp:=[]) (by simp) (PLe.refl _) H15'
 obtain⟨_,p115⟩:=ho115
 obtain⟨_,_,rfl⟩:=OwnS.shape p115
 obtain⟨_,p215⟩:=ho215
 obtain⟨_,_,rfl⟩:=OwnS.shape p215
 obtain⟨_,p315⟩:=ho315
 obtain⟨_,_,rfl⟩:=OwnS.shape p315
 refine⟨_,Z,?_⟩
 refine xal H Z ?_;intro _ _ _ H
 refine xst 0 H Z8 ?_;intro _ H
 refine q1 (lA 0 3 H Z4 (pe 2 Z (xc Z2 (i_DiskClone_c _ _ (H.lendSubL [1,2,3]) _ aD ⟨_,_,_,_,_,_,_,_,_,Z,(H.lendOHs (k:=1) (ks:=[1,2,3]) Z Z ⟨_,p115⟩),(H.lendOIs (k:=2) (ks:=[1,2,3]) Z Z ⟨_,p215⟩),(H.lendOSn (k:=3) (ks:=[1,2,3]) Z Z ⟨_,p315⟩)⟩ _ haFrom _ haTo) ?_)))
 rintro _ _ ⟨_,_,rfl,H18',⟨_,_,_,_,_,_,rfl,rfl,ho118,ho218,ho318⟩⟩
 have H:=H.readersL H18'
 obtain⟨_,p118⟩:=ho118
 obtain⟨_,_,rfl⟩:=OwnS.shape p118
 obtain⟨_,p218⟩:=ho218
 obtain⟨_,_,rfl⟩:=OwnS.shape p218
 obtain⟨_,p318⟩:=ho318
 obtain⟨_,_,rfl⟩:=OwnS.shape p318
 refine⟨_,Z,?_⟩
 refine pe 3 Z (xal H Z ?_);intro _ _ _ H
 refine xst 0 H Z8 ?_;intro _ H
 refine aG Z (q3 (W_seq (q2 (lA 0 3 H Z4 (lA 8 3 H Z4 (xr H Z2 (w_eqDisk_c _ _ (H.lendSubL [1,2,3]) _ ((Sp.DiskClone aD aFrom aTo).getD ⟨[],[],[]⟩) ⟨_,_,_,_,_,_,_,_,_,Z,(H.lendOHs (k:=1) (ks:=[1,2,3]) Z Z ⟨_,p118⟩),(H.lendOIs (k:=2) (ks:=[1,2,3]) Z Z ⟨_,p218⟩),(H.lendOSn (k:=3) (ks:=[1,2,3]) Z Z ⟨_,p318⟩)⟩ _ ((Sp.DiskClone aD aFrom aTo).getD ⟨[],[],[]⟩) ⟨_,_,_,_,_,_,_,_,_,Z,(hr12.up (PPlus.le _ _ _)),(hr12'.up (PPlus.le _ _ _)),(hr12''.up (PPlus.le _ _ _))⟩ Z) ?_))))));intro _ H
 refine pe 4 Z (gR Z (o_bneq_same underlying4 Z Z Z (pe 1 Z (q3 (W_false Z (W_skip (N_K (W_seq (W_seq (W_drawK [0,4,8,9] 5 H kR Z ?_))))))))));intro _ H;have hd22:=PLe.refl G8
 refine RD_t 0 Z kR Z (fun _ hK=>v_loadagg_B 1 hK isAgg32 sizeOf32 Z Z Z Z) (RD_t 1 Z kR Z (fun _ hK=>v_loadagg_B 3 hK isAgg26 sizeOf26 Z Z Z Z) (r1 2 Z (xc Z2 (w_toDisk_c _ _ H.sub _ aD ⟨_,_,_,_,_,_,_,_,_,Z,hr1,hr1',hr1''⟩) ?_)))
 rintro _ _ ⟨_,_,rfl,H23',⟨_,_,_,_,_,_,rfl,rfl,ho123,ho223,ho323⟩⟩
 have H:=H.readers (fp:=[]) (by simp) (PLe.refl _) H23'
 obtain⟨_,p123⟩:=ho123
 obtain⟨_,_,rfl⟩:=OwnS.shape p123
 obtain⟨_,p223⟩:=ho223
 obtain⟨_,_,rfl⟩:=OwnS.shape p223
 obtain⟨_,p323⟩:=ho323
 obtain⟨_,_,rfl⟩:=OwnS.shape p323
 refine⟨_,Z,?_⟩
 refine q4 H hd22 (r1 3 Z (xr H Z2 (w_eqDisk_c _ _ (H.lendSubL [0,1,2,8,9,10]) _ aD ⟨_,_,_,_,_,_,_,_,_,Z,(H.lendOHs (k:=8) (ks:=[0,1,2,8,9,10]) Z Z ⟨_,p115⟩),(H.lendOIs (k:=9) (ks:=[0,1,2,8,9,10]) Z Z ⟨_,p215⟩),(H.lendOSn (k:=10) (ks:=[0,1,2,8,9,10]) Z Z ⟨_,p315⟩)⟩ _ aD ⟨_,_,_,_,_,_,_,_,_,Z,(H.lendOHs (k:=0) (ks:=[0,1,2,8,9,10]) Z Z ⟨_,p123⟩),(H.lendOIs (k:=1) (ks:=[0,1,2,8,9,10]) Z Z ⟨_,p223⟩),(H.lendOSn (k:=2) (ks:=[0,1,2,8,9,10]) Z Z ⟨_,p323⟩)⟩ Z) ?_));intro _ H
 refine q4 H hd22 (dE 4 Z2 (rz (N_K (W_false Z (W_skip (N_K (q2 (aG Z (q1 (lA 7 3 H Z4 (mV Z ?_)))))))))))
 have H:=H.tF 10
 have H:=H.tF 10
 have H:=H.tF 10
 refine xc Z2 (w_markDisk_c _ _ H.sub _ _ _ _ _ _ aD ⟨_,p115⟩ ⟨_,p215⟩ ⟨_,p315⟩ _ H.lent3 oO) ?_
 rintro _ _ ⟨_,_,_,rfl,H25',⟨_,_,_,rfl,rfl,_,_,_⟩⟩
 have hr1:=hr1.up H25'.le
 have hr1':=hr1'.up H25'.le
 have hr1'':=hr1''.up H25'.le
 have hr12:=hr12.up H25'.le
 have hr12':=hr12'.up H25'.le
 have hr12'':=hr12''.up H25'.le
 have H:=H.borrow3 H25'
 refine⟨_,Z,?_⟩
 refine aG Z (q3 (W_seq (q2 (pe 3 Z ?_))))
 refine R_case (t:=65) Z ?_ ?_
 ·intro hc26
  try simp only[nrm]at hc26
  exact absurd (show False from by first|omega|(simp at hc26;done)|exact hc26 rfl) id
 intro hc26'
 try simp only[nrm]at hc26'
 refine gR Z (lA 6 3 H Z4 (gR Z (lA 11 3 H Z4 (gR Z (xr H Z2 (w_eqDisk_c _ _ (H.lendSubL [7,8,9]) _ ((Sp.DiskClone aD aFrom aTo).getD ⟨[],[],[]⟩) ⟨_,_,_,_,_,_,_,_,_,Z,(H.lendOHs (k:=7) (ks:=[7,8,9]) Z Z ⟨_,p118⟩),(H.lendOIs (k:=8) (ks:=[7,8,9]) Z Z ⟨_,p218⟩),(H.lendOSn (k:=9) (ks:=[7,8,9]) Z Z ⟨_,p318⟩)⟩ _ ((Sp.DiskClone aD aFrom aTo).getD ⟨[],[],[]⟩) ⟨_,_,_,_,_,_,_,_,_,Z,(hr12.up (PPlus.le _ _ _)),(hr12'.up (PPlus.le _ _ _)),(hr12''.up (PPlus.le _ _ _))⟩ Z) ?_)))));intro _ H
 refine pe 5 Z (gR Z (o_bneq_same underlying4 Z Z Z (pe 1 Z (q3 (W_false Z (W_skip (N_K (q2 (aG Z (q1 (lA 6 3 H Z4 (mV Z ?_))))))))))))
 have H:=H.tF 9
 have H:=H.tF 9
 have H:=H.tF 9
 refine xc Z2 (w_markDisk_c _ _ H.sub _ _ _ _ _ _ ((Sp.DiskClone aD aFrom aTo).getD ⟨[],[],[]⟩) ⟨_,p118⟩ ⟨_,p218⟩ ⟨_,p318⟩ _ H.lent3 oO) ?_
 rintro _ _ ⟨_,_,_,rfl,H28',⟨_,_,_,rfl,rfl,hK128,hK228,hK328⟩⟩
 have hr1:=hr1.up H28'.le
 have hr1':=hr1'.up H28'.le
 have hr1'':=hr1''.up H28'.le
 have hr12:=hr12.up H28'.le
 have hr12':=hr12'.up H28'.le
 have hr12'':=hr12''.up H28'.le
 have H:=H.borrow3 H28'
 refine⟨_,Z,?_⟩
 refine aG Z (q1 (aG Z (q1 (lA 9 3 H Z4 (mV Z (xr H Z2 (w_heldDisk_c _ _ (H.lendSubL [0,1,2]) _ (mDisk 1 ((Sp.DiskClone aD aFrom aTo).getD ⟨[],[],[]⟩)) ⟨_,_,_,_,_,_,_,_,_,Z,(H.lendOHs (k:=0) (ks:=[0,1,2]) Z Z hK128),(H.lendOIs (k:=1) (ks:=[0,1,2]) Z Z hK228),(H.lendOSn (k:=2) (ks:=[0,1,2]) Z Z hK328)⟩ _ ((Sp.DiskClone aD aFrom aTo).getD ⟨[],[],[]⟩) Z oO) ?_))))));intro _ H
 refine aG Z (q3 (W_seq (q2 (pe 2 Z (q3 ?_)))))
 refine W_cond Z ?_ ?_
 ·intro hc30
  try simp only[nrm]at hc30
  exact absurd (show False from by first|omega|(simp at hc30;done)|exact hc30 rfl) id
 intro hc30'
 try simp only[nrm]at hc30'
 refine W_skip (N_K (W_seq (q2 (pe 3 Z (q3 ?_)))))
 refine W_cond Z ?_ ?_
 ·intro hc31
  try simp only[nrm]at hc31
  exact absurd (show False from by first|omega|(simp at hc31;done)|exact hc31 rfl) id
 intro hc31'
 try simp only[nrm]at hc31'
 refine W_skip (N_K (q2 (lA 12 3 H Z4 (xc Z2 (w_toDisk_c _ _ H.sub _ aD ⟨_,_,_,_,_,_,_,_,_,Z,hr1,hr1',hr1''⟩) ?_))))
 rintro _ _ ⟨_,_,rfl,H32',⟨_,_,_,_,_,_,rfl,rfl,ho132,ho232,ho332⟩⟩
 have H:=H.readers (fp:=[]) (by simp) (PLe.refl _) H32'
 obtain⟨_,p132⟩:=ho132
 obtain⟨_,_,rfl⟩:=OwnS.shape p132
 obtain⟨_,p232⟩:=ho232
 obtain⟨_,_,rfl⟩:=OwnS.shape p232
 obtain⟨_,p332⟩:=ho332
 obtain⟨_,_,rfl⟩:=OwnS.shape p332
 refine⟨_,Z,?_⟩
 refine pe 2 Z (xc Z2 (i_DiskClone_c _ _ (H.lendSubL [0,1,2]) _ aD ⟨_,_,_,_,_,_,_,_,_,Z,(H.lendOHs (k:=0) (ks:=[0,1,2]) Z Z ⟨_,p132⟩),(H.lendOIs (k:=1) (ks:=[0,1,2]) Z Z ⟨_,p232⟩),(H.lendOSn (k:=2) (ks:=[0,1,2]) Z Z ⟨_,p332⟩)⟩ _ haFrom _ haTo) ?_)
 rintro _ _ ⟨_,_,rfl,H33',⟨_,_,_,_,_,_,rfl,rfl,ho133,ho233,ho333⟩⟩
 have H:=H.readersL H33'
 obtain⟨_,p133⟩:=ho133
 obtain⟨_,_,rfl⟩:=OwnS.shape p133
 obtain⟨_,p233⟩:=ho233
 obtain⟨_,_,rfl⟩:=OwnS.shape p233
 obtain⟨_,p333⟩:=ho333
 obtain⟨_,_,rfl⟩:=OwnS.shape p333
 refine⟨_,Z,?_⟩
 refine pe 3 Z (xal H Z ?_);intro _ _ _ H
 refine xst 0 H Z8 ?_;intro _ H
 refine aG Z (q3 (W_seq (q2 (lA 0 3 H Z4 (lA 18 3 H Z4 (xr H Z2 (w_eqDisk_c _ _ (H.lendSubL [1,2,3]) _ ((Sp.DiskClone aD aFrom aTo).getD ⟨[],[],[]⟩) ⟨_,_,_,_,_,_,_,_,_,Z,(H.lendOHs (k:=1) (ks:=[1,2,3]) Z Z ⟨_,p133⟩),(H.lendOIs (k:=2) (ks:=[1,2,3]) Z Z ⟨_,p233⟩),(H.lendOSn (k:=3) (ks:=[1,2,3]) Z Z ⟨_,p333⟩)⟩ _ ((Sp.DiskClone aD aFrom aTo).getD ⟨[],[],[]⟩) ⟨_,_,_,_,_,_,_,_,_,Z,(hr12.up (PPlus.le _ _ _)),(hr12'.up (PPlus.le _ _ _)),(hr12''.up (PPlus.le _ _ _))⟩ Z) ?_))))));intro _ H
 refine pe 4 Z (gR Z (o_bneq_same underlying4 Z Z Z (pe 1 Z (q3 (W_false Z (W_skip (N_K (q2 (aG Z (q1 (lA 16 3 H Z4 (mV Z (xr H Z2 (w_heldDisk_c _ _ (H.lendSubL [7,8,9]) _ (mDisk 1 ((Sp.DiskClone aD aFrom aTo).getD ⟨[],[],[]⟩)) ⟨_,_,_,_,_,_,_,_,_,Z,(H.lendOHs (k:=7) (ks:=[7,8,9]) Z Z hK128),(H.lendOIs (k:=8) (ks:=[7,8,9]) Z Z hK228),(H.lendOSn (k:=9) (ks:=[7,8,9]) Z Z hK328)⟩ _ ((Sp.DiskClone aD aFrom aTo).getD ⟨[],[],[]⟩) Z oO) ?_)))))))))))));intro _ H
 refine aG Z (q3 (W_seq (q2 (pe 2 Z (q3 ?_)))))
 refine W_cond Z ?_ ?_
 ·intro hc38
  try simp only[nrm]at hc38
  exact absurd (show False from by first|omega|(simp at hc38;done)|exact hc38 rfl) id
 intro hc38'
 try simp only[nrm]at hc38'
 refine W_skip (N_K (W_seq (q2 (pe 3 Z (q3 ?_)))))
 refine W_cond Z ?_ ?_
 ·intro hc39
  try simp only[nrm]at hc39
  exact absurd (show False from by first|omega|(simp at hc39;done)|exact hc39 rfl) id
 intro hc39'
 try simp only[nrm]at hc39'
 refine W_skip (N_K (q2 (aG Z (q3 (W_ret (rt1 results3 Z ?_))))))
 exact H.rets Z
end Go.Proofs.Tst
