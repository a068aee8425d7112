/- Part 6 of the proof: the program logic and plain functions. Conditions: none. -/
import Derived.Test.YtghodmnnhhhjaaaGreatDoorProg
import Derived.Test.YtghodmnnhhhjaaaGreatDoorG02
import Derived.Test.YtghodmnnhhhjaaaGreatDoorG03
import Derived.Test.YtghodmnnhhhjaaaGreatDoorG04
import Derived.Test.YtghodmnnhhhjaaaGreatDoorG05
import Derived.Conc.LoneCalls
import Derived.Conc.MuLone
import Derived.KernelRfl
set_option linter.all false
set_option maxRecDepth 100000
set_option maxHeartbeats 8000000
namespace Go.Proofs.Tst
open Go Fw Tryz
theorem l12Keep_c (w0:World)(G0:PH)(hG:PSub G0 w0)(vstore:Value)(store:List (BHeld))(hstore:RdH G0 vstore store)(vlist:Value)(list:List (BItem))(hlist:RdItems G0 vlist list) :
  Calls Tryz.prog 92 #[vstore,vlist] w0 (RetO w0 G0 (fun G v r=>∃u,v= .tuple #[u,.bool (Sp.l12Keep store list).isSome]∧AccOf heldE 3 139 ((Sp.l12Keep store list).getD []) G u r)):=by
 obtain⟨astore,kstore,rfl⟩:=hstore.shape
 have hlimstore:store.length≤1099511627776:=hstore.lim
 obtain⟨alist,klist,rfl⟩:=hlist.shape
 have hlimlist:list.length≤1099511627776:=hlist.lim
 have H:=Hp.init hG
 refine calls_of_W (l:=[.slice astore store.length kstore,.slice alist list.length klist]) func92 Z ntmps92 Z (q2 (pe 2 Z (q1 (mV Z (xc Z2 (l3Copy_c _ _ H.sub _ _ hstore) ?_)))))
 rintro _ _ ⟨G1,_,_,g1,rfl,⟨_,rfl,hchk1⟩,hp1,hq1,hs1⟩
 have H:=H.growO g1 hp1 hq1 hs1;obtain⟨_,_,rfl⟩:=H.accShape (k:=0) rfl
 have hlist:=hlist.up g1.le
 refine⟨_,Z,?_⟩
 refine aG Z (q3 (W_seq (q2 (aG Z (q3 (W_block ?_))))))
 refine W_lp (hf:=(Sub.cons (t:=1) Z Sub.nil)) (J:=fun M w m=>∃(vo:Value) (no:Nat) (cso:List Value) (xso:List (BHeld)) (k:Nat) (G:PH),M=[(7,.int .i64 (k:Int)),(6,vo)]∧PLe G1 G∧Hp w0 G0 [] w G [acc 139 3 vo no cso]∧(Chk heldE 3 G cso xso∧no=xso.length∧k≤list.length∧xso.length=store.length∧Sp.foldB Sp.keepT (list.take k) (some store)=some xso)∧m=(list.length-k)) (h0:=⟨_,_,_,store,0,_,Z,PLe.refl _,H,?inv,Z⟩) (round:=?round)
 case inv=>exact⟨hchk1,by first|rfl|simp|(simp;omega)|omega,(by exact⟨by omega,rfl,by simp[Sp.foldB]⟩)⟩
 case round =>
  rintro _ _ _ ⟨vo,no,cso,xso,k,G2,rfl,hle2,H,hinv2,rfl⟩
  have hlist:=hlist.up hle2
  obtain⟨hchk2_0,_,hinv2⟩:=hinv2
  obtain⟨_,_,rfl⟩:=H.accShape (k:=0) rfl
  obtain⟨_,hxl,hf⟩:=hinv2
  refine W_seq (q2 (pe 2 Z (lN Z (pe 1 Z (q3 ?_)))))
  refine W_cond Z ?_ ?_
  ·intro hc3
   try simp only[nrm]at hc3
   refine W_skip (N_K (W_seq (W_block (q2 (aG Z (q3 (W_block ?_)))))))
   refine W_lp (hf:=(Sub.cons (t:=1) Z (Sub.cons (t:=7) Z Sub.nil))) (J:=fun M w m=>∃(v:Value) (n:Nat) (cs:List Value) (xs:List (BHeld)) (j:Nat) (y:BItem) (G:PH),M=[(8,.int .i64 (j:Int)),(6,v)]∧PLe G2 G∧Hp w0 G0 [] w G [acc 139 3 v n cs]∧(Chk heldE 3 G cs xs∧n=xs.length∧list[k]? = some y∧j≤y.ids.length∧xs.length=store.length∧Sp.foldB Sp.StoreKeep (y.ids.take j) (some xso)=some xs)∧m=(y.ids.length-j)) (h0:=⟨_,_,_,xso,0,(list[k]'oM),_,Z,PLe.refl _,H,?inv,Z⟩) (round:=?round)
   case inv=>exact⟨hchk2_0,by first|rfl|simp|(simp;omega)|omega,(by exact⟨by simp,by omega,hxl,by simp[Sp.foldB]⟩)⟩
   case round =>
    rintro _ _ _ ⟨v,n,cs,xs,j,y,_,rfl,hle4,H,hinv4,rfl⟩
    have hlist:=hlist.up hle4
    have hle2:=hle2.trans hle4
    obtain⟨hchk4_0,_,hinv4⟩:=hinv4
    obtain⟨_,_,rfl⟩:=H.accShape (k:=0) rfl
    obtain⟨hy,_,hxl2,hf2⟩:=hinv4
    refine W_seq (q2 (pe 3 Z (iP k hlist Z3 Z ?_)));intro _ _ z5 _ hz5 hE5 hrow5
    obtain⟨_,_,_,rfl,_,hr5,_,_⟩:=ox hE5
    have hzz5:y=z5:=Option.some.inj (hy.symm.trans hz5)
    subst hzz5
    refine fA 2 Z (lP H hrow5 2 Z2 (lN Z (pe 1 Z (q3 ?_))))
    refine W_cond Z ?_ ?_
    ·intro hc6
     try simp only[nrm]at hc6
     refine W_skip (N_K (W_seq (W_block (q2 (pe 3 Z (iP k hlist Z3 Z ?_))))));intro _ _ z7 _ hz7 hE7 hrow7
     obtain⟨_,_,_,rfl,_,hr7,_,_⟩:=ox hE7
     have hzz7:y=z7:=Option.some.inj (hy.symm.trans hz7)
     subst hzz7
     refine fA 2 Z (lP H hrow7 2 Z2 (mV Z (iP j hr7 Z3 Z ?_)));intro _ _ z8 _ hz8 hE8 hrow8
     obtain⟨rfl,_⟩:=hE8
     refine lP H hrow8 0 Z2 ?_
     obtain⟨_,H,hsg10,hsr10⟩:=H.shut' (k:=0) rfl hchk4_0 aN aN
     have hle4:=hle4.trans hsg10
     refine xc Z2 (StoreKeep_c _ _ H.sub _ _ hsr10 _) ?_
     rintro _ _ ⟨G9,_,_,g9,rfl,⟨_,rfl,⟨_,rfl,hchk9⟩⟩,hp9,hq9,hs9⟩
     have H:=H.growO g9 hp9 hq9 hs9;obtain⟨_,_,rfl⟩:=H.accShape (k:=0) rfl
     have hle4:=hle4.trans g9.le
     refine⟨_,Z,?_⟩
     refine pe 5 Z (q3 (W_seq (q2 (pe 2 Z (q3 ?_)))))
     refine W_cond Z ?_ ?_
     ·intro hc11
      try simp only[nrm]at hc11
      refine q2 (xbs H Z7 ?_);intro _ _ _ H
      have H:=H.blkAcc 3 (k:=0) (n:=0) rfl rfl (by decide)
      refine pe 2 Z (q3 (W_ret (N_K_ret (N_B_ret (N_K_ret (N_LP_ret (N_B_ret (N_B_ret (N_K_ret (N_LP_ret (N_B_ret (N_K_ret (rt2 results92 Z Z ?_)))))))))))))
      have hN:Sp.l12Keep store list=none:=by (have hno:Sp.StoreKeep xs z8=none:=by simpa using hc11);unfold Sp.l12Keep;exact Sp.foldB_stop hf hy (by unfold Sp.keepT;exact Sp.foldB_stop hf2 hz8 hno)
      exact H.retO (k:=0) rfl (by rw[hN];exact⟨_,rfl,AccOf.mk aN (Chk.nil (E:=heldE) (sz:=3) (G:=G9))⟩) (acc_nd _ _ _ _ _)
     intro hc11'
     try simp only[nrm]at hc11'
     obtain⟨p,hsp⟩:=Option.isSome_iff_exists.1 hc11'
     rw[hsp]at H hchk9 ⊢
     dsimp only[Option.map,Option.getD]at H hchk9
     refine W_skip (N_K (W_region (pe 2 Z (R_nil (N_B (N_K (W_region (mV Z (aD Z2 (aG Z (R_nil ?_)))))))))))
     refine N_lp (hJ:=⟨_,_,_,p,j+1,y,_,Z,hle4,H,?inv,Z⟩) (hm:=?hm)
     case hm=>omega
     case inv=>exact⟨hchk9,aN,(by exact⟨hy,by omega,by rw[Sp.keep_len hsp];exact hxl2,Sp.foldB_succ hf2 hz8 hsp⟩)⟩
    intro hc6'
    try simp only[nrm]at hc6'
    refine W_exit (N_K_exit (N_LP_exit (N_B_same (N_B (N_K (W_region (mV Z (aD Z2 (aG Z (R_nil ?_))))))))))
    refine N_lp (hJ:=⟨_,_,_,xs,k+1,_,Z,hle2,H,?inv,Z⟩) (hm:=?hm)
    case hm=>omega
    case inv=>exact⟨hchk4_0,aN,(by exact⟨by omega,hxl2,Sp.foldB_succ hf hy (by unfold Sp.keepT;exact Sp.foldB_all hf2 oM)⟩)⟩
  intro hc3'
  try simp only[nrm]at hc3'
  refine W_exit (N_K_exit (N_LP_exit (N_B_same (N_K (q2 (pe 3 Z (q3 (W_ret (rt2 results92 Z Z ?_)))))))))
  have hY:Sp.l12Keep store list=some xso:=by unfold Sp.l12Keep;exact Sp.foldB_all hf oM
  exact H.retO (k:=0) rfl (by rw[hY];exact⟨_,rfl,AccOf.mk aN hchk2_0⟩) (acc_nd _ _ _ _ _)
theorem l12Free_c (w0:World)(G0:PH)(hG:PSub G0 w0)(vstore:Value)(store:List (BHeld))(hstore:RdH G0 vstore store)(vlist:Value)(list:List (BItem))(hlist:RdItems G0 vlist list) :
  Calls Tryz.prog 93 #[vstore,vlist] w0 (RetO w0 G0 (AccOf heldE 3 139 (Sp.l12Free store list))):=by
 obtain⟨astore,kstore,rfl⟩:=hstore.shape
 have hlimstore:store.length≤1099511627776:=hstore.lim
 obtain⟨alist,klist,rfl⟩:=hlist.shape
 have hlimlist:list.length≤1099511627776:=hlist.lim
 have H:=Hp.init hG
 refine calls_of_W (l:=[.slice astore store.length kstore,.slice alist list.length klist]) func93 Z ntmps93 Z (q2 (aG Z (q1 (mV Z (xc Z2 (l3Copy_c _ _ H.sub _ _ hstore) ?_)))))
 rintro _ _ ⟨G1,_,_,g1,rfl,⟨_,rfl,hchk1⟩,hp1,hq1,hs1⟩
 have H:=H.growO g1 hp1 hq1 hs1;obtain⟨_,_,rfl⟩:=H.accShape (k:=0) rfl
 have hlist:=hlist.up g1.le
 refine⟨_,Z,?_⟩
 refine aG Z (q3 (W_seq (q2 (aG Z (q3 (W_block ?_))))))
 refine W_lp (hf:=(Sub.cons (t:=1) Z (Sub.cons (t:=4) Z Sub.nil))) (J:=fun M w m=>∃(v:Value) (n:Nat) (cs:List Value) (xs:List (BHeld)) (k:Nat) (G:PH),M=[(6,.int .i64 (k:Int)),(5,v)]∧PLe G1 G∧Hp w0 G0 [] w G [acc 139 3 v n cs]∧(Chk heldE 3 G cs xs∧n=xs.length∧k≤list.length∧xs.length≤store.length∧xs=Sp.l12Free store (list.take k))∧m=(list.length-k)) (h0:=⟨_,_,_,store,0,_,Z,PLe.refl _,H,?inv,Z⟩) (round:=?round)
 case inv=>exact⟨hchk1,by first|rfl|simp|(simp;omega)|omega,(by exact⟨by omega,by omega,rfl⟩)⟩
 case round =>
  rintro _ _ _ ⟨v,n,cs,xs,k,_,rfl,hle2,H,hinv2,rfl⟩
  have hlist:=hlist.up hle2
  obtain⟨hchk2_0,_,hinv2⟩:=hinv2
  obtain⟨_,_,rfl⟩:=H.accShape (k:=0) rfl
  obtain⟨_,_,hxs⟩:=hinv2
  refine W_seq (q2 (pe 2 Z (lN Z (pe 1 Z (q3 ?_)))))
  refine W_cond Z ?_ ?_
  ·intro hc3
   try simp only[nrm]at hc3
   refine W_skip (N_K (W_seq (W_block (q2 (pe 3 Z (iP k hlist Z3 Z ?_))))));intro _ _ z4 _ hz4 hE4 hrow4
   obtain⟨_,_,_,rfl,_,hr4,_,_⟩:=ox hE4
   refine fA 2 Z (lP H hrow4 2 Z2 ?_)
   obtain⟨_,H,hsg6,hsr6⟩:=H.shut' (k:=0) rfl hchk2_0 aN aN
   have hr4:=hr4.up hsg6
   have hle2:=hle2.trans hsg6
   refine xc Z2 (FileFree_c _ _ H.sub _ _ hsr6 _ _ hr4) ?_
   rintro _ _ ⟨_,_,_,g5,rfl,⟨_,rfl,⟨_,rfl,hchk5⟩⟩,hp5,hq5,hs5⟩
   have H:=H.growO g5 hp5 hq5 hs5;obtain⟨_,_,rfl⟩:=H.accShape (k:=0) rfl
   have hle2:=hle2.trans g5.le
   refine⟨_,Z,?_⟩
   refine pe 5 Z (q3 (W_region (pe 2 Z (R_nil (N_B (N_K (W_region (mV Z (aD Z2 (aG Z (R_nil ?_)))))))))))
   refine N_lp (hJ:=⟨_,_,_,((Sp.FileFree xs z4.ids).getD []),k+1,_,Z,hle2,H,?inv,Z⟩) (hm:=?hm)
   case hm=>omega
   case inv=>exact⟨hchk5,aN,(by exact⟨by omega,by (have:=Sp.free_len xs z4.ids;omega),by (rw[Sp.l12Free_succ hz4,←hxs])⟩)⟩
  intro hc3'
  try simp only[nrm]at hc3'
  refine W_exit (N_K_exit (N_LP_exit (N_B_same (N_K (q2 (pe 2 Z (q3 (W_ret (rt1 results93 Z ?_)))))))))
  obtain rfl:k=list.length:=by omega
  rw[List.take_length]at hxs
  subst hxs
  exact H.retO (k:=0) rfl (AccOf.mk (by assumption) hchk2_0) (acc_nd _ _ _ _ _)
theorem SnapBack_c (w0:World)(G0:PH)(hG:PSub G0 w0)(cd:List Value)(d:BDisk)(hd:diskE G0 d cd)(name:Bs)(hname:name.length≤16777216) :
  Calls Tryz.prog 35 #[.agg cd.toArray,str name] w0 (RetO w0 G0 (fun G val r=>∃u u1 u2,val= .tuple #[.agg #[u,u1,u2],.bool (Sp.SnapBack d name).isSome]∧AccOf snapE 2 67 (((Sp.SnapBack d name).map (·.snaps)).getD []) G u2 r∧RdH G u (((Sp.SnapBack d name).map (·.store)).getD [])∧RdItems G u1 (((Sp.SnapBack d name).map (·.tree)).getD []))):=by
 obtain⟨_,_,_,_,_,_,_,_,_,rfl,hr1,hr1',hr1'',⟨_,_⟩,⟨_,_⟩,_,_⟩:=ox hd
 have H:=Hp.init hG
 refine calls_of_W (l:=[_,str name]) func35 Z ntmps35 Z (q2 (o_box H Z Z Z ?_));intro _ _ _ H
 refine xal H Z ?_;intro _ _ _ H
 refine aG Z (q1 (fA 2 Z (lB 1 H Z3 (mV Z (xr H Z2 (l12At_c _ _ H.sub _ _ hr1'' _ hname) ?_)))));intro _ H
 refine aG Z (q3 (W_seq (q2 (lA 1 3 H Z4 (xr H Z2 (DiskValid_c _ _ H.sub _ d ⟨_,_,_,_,_,_,_,_,_,Z,hr1,hr1',hr1''⟩) ?_)))));intro _ H
 refine pe 2 Z ?_
 refine R_case (t:=17) Z ?_ ?_
 ·intro hc6
  try simp only[nrm]at hc6
  refine pe 3 Z (q3 (W_true Z (q2 (o_build bf27 Z Z Z (xst 0 H Z8 ?_)))));intro _ H
  refine aG Z (q3 (W_ret (N_K_ret (ret_gen (rs:=[.cell 4 27,.tmp 5]) (vs:=[_,_]) results35 ⟨⟨_,Z,load_blk 0 H isAgg27 sizeOf27 Z Z Z⟩,Z,trivial⟩ ?_))))
  have hN:Sp.SnapBack d name=none:=by exact Sp.back_nov (by simpa using hc6)
  have H:=H.addNil 67 2
  exact H.retO (k:=0) rfl (by rw[hN];exact⟨_,_,_,rfl,AccOf.mk rfl Chk.nil,RdS.nil _ _ _,RdS.nil _ _ _⟩) (acc_nd _ _ _ _ _)
 intro hc6'
 try simp only[nrm]at hc6'
 refine pe 3 Z (q3 ?_)
 refine W_cond Z ?_ ?_
 ·intro hc8
  try simp only[nrm]at hc8
  refine q2 (o_build bf27 Z Z Z (xst 0 H Z8 ?_));intro _ H
  refine aG Z (q3 (W_ret (N_K_ret (ret_gen (rs:=[.cell 4 27,.tmp 5]) (vs:=[_,_]) results35 ⟨⟨_,Z,load_blk 0 H isAgg27 sizeOf27 Z Z Z⟩,Z,trivial⟩ ?_))))
  have hN:Sp.SnapBack d name=none:=by exact Sp.back_noat (by simpa [Sp.l12At] using hc8)
  have H:=H.addNil 67 2
  exact H.retO (k:=0) rfl (by rw[hN];exact⟨_,_,_,rfl,AccOf.mk rfl Chk.nil,RdS.nil _ _ _,RdS.nil _ _ _⟩) (acc_nd _ _ _ _ _)
 intro hc8'
 try simp only[nrm]at hc8'
 obtain⟨i,_,ia,ib,_,_,_⟩:=Sp.at_nat hc8'
 have ib:Sp.l12At d.snaps name=(i:Int):=ib
 have hat:Sp.atS d.snaps name=some i:=ia
 refine W_skip (N_K (W_seq (W_drawK [0,1] 14 H kR Z ?_)));intro _ H;have hd10:=PLe.refl G0
 refine dF 0 0 Z2 (dB 1 1 Z4 (dF 2 2 Z2 (dB 3 1 Z4 (dE 4 Z2 ?_))))
 have hl11:=hr1''.len
 obtain⟨_,_,z11,_,ha11,hz11,hq11,hE11,hrow11,_⟩:=hr1''.at (i:=i) oM
 clear hq11
 obtain⟨_,_,_,rfl,_,hr11,_,_⟩:=ox hE11
 refine dI 5 2 i ha11 Z3 ib (dF 6 1 Z2 (dP 7 hrow11 1 Z3 (r1 8 Z (xc Z2 (l12Keep_c _ _ H.sub _ _ hr1 _ _ hr11) ?_))))
 rintro _ _ ⟨_,_,_,g12,rfl,⟨_,rfl,⟨_,rfl,hchk12⟩⟩,hp12,hq12,hs12⟩
 have H:=H.growO g12 hp12 hq12 hs12;obtain⟨_,_,rfl⟩:=H.accShape (k:=0) rfl
 have hr1:=hr1.up g12.le
 have hr1':=hr1'.up g12.le
 have hr1'':=hr1''.up g12.le
 have hd10:=hd10.trans g12.le
 refine⟨_,Z,?_⟩
 have hkl:=Sp.l12Keep_len d.store z11.tree
 refine q4 H hd10 (dE 9 Z2 (dE 10 Z2 (dE 11 Z2 (dE 12 Z2 (dE 13 Z2 (rz (N_K (W_seq (q2 (pe 2 Z (q3 ?_)))))))))))
 refine W_cond Z ?_ ?_
 ·intro hc13
  try simp only[nrm]at hc13
  refine q2 (o_build bf27 Z Z Z (xst 1 H Z8 ?_));intro _ H
  refine aG Z (q3 (W_ret (N_K_ret (ret_gen (rs:=[.cell 4 27,.tmp 5]) (vs:=[_,_]) results35 ⟨⟨_,Z,load_blk 1 H isAgg27 sizeOf27 Z Z Z⟩,Z,trivial⟩ ?_))))
  have hN:Sp.SnapBack d name=none:=by (have hno:Sp.l12Keep d.store z11.tree=none:=by simpa using hc13);(rw[Sp.back_eq (by simpa using hc6') hat hz11,hno];rfl)
  have H:=H.addNil 67 2
  exact H.retO (k:=0) rfl (by rw[hN];exact⟨_,_,_,rfl,AccOf.mk rfl Chk.nil,RdS.nil _ _ _,RdS.nil _ _ _⟩) (acc_nd _ _ _ _ _)
 intro hc13'
 try simp only[nrm]at hc13'
 refine W_skip (N_K (q2 (lA 2 3 H Z4 (xc Z2 (l12Copy_c _ _ H.sub _ d ⟨_,_,_,_,_,_,_,_,_,Z,hr1,hr1',hr1''⟩) ?_))))
 rintro _ _ ⟨_,_,_,g15,rfl,⟨_,_,_,rfl,⟨_,rfl,hchk15⟩,hr15_0,hr15_1⟩,hp15,hq15,hs15⟩
 have H:=H.growO g15 hp15 hq15 hs15;obtain⟨_,_,rfl⟩:=H.accShape (k:=0) rfl
 have hr1':=hr1'.up g15.le
 have hr1'':=hr1''.up g15.le
 have hchk12:=hchk12.up g15.le
 obtain⟨_,_,rfl⟩:=hr15_0.shape;have hx_hr15_0:_≤1099511627776:=hr15_0.lim
 obtain⟨_,_,rfl⟩:=hr15_1.shape;have hx_hr15_1:_≤1099511627776:=hr15_1.lim
 refine⟨_,Z,?_⟩
 refine xal H Z ?_;intro _ _ _ H
 refine xst 0 H Z8 ?_;intro _ H
 refine q1 (mV Z (fA 1 Z (lB 4 H Z3 ?_)))
 obtain⟨_,H,hsg19,hsr19⟩:=H.shut' (k:=2) rfl hchk12 aN aN
 have hr1':=hr1'.up hsg19
 have hr1'':=hr1''.up hsg19
 have hchk15:=hchk15.up hsg19
 refine xc Z2 (l12Free_c _ _ H.sub _ _ hsr19 _ _ hr1') ?_
 rintro _ _ ⟨_,_,_,g18,rfl,⟨_,rfl,hchk18⟩,hp18,hq18,hs18⟩
 have H:=H.growO g18 hp18 hq18 hs18;obtain⟨_,_,rfl⟩:=H.accShape (k:=0) rfl
 have hr1'':=hr1''.up g18.le
 have hchk15:=hchk15.up g18.le
 refine⟨_,Z,?_⟩
 have hfl2:=Sp.l12Free_len d.tree ((Sp.l12Keep d.store z11.tree).getD [])
 refine fA 0 Z (xst 1 H Z8 ?_);intro _ H
 refine q1 (fA 2 Z (lB 4 H Z3 (mV Z (iP i hr1'' Z3 ib ?_))));intro _ _ z21 _ hz21 hE21 hrow21
 obtain⟨_,_,_,rfl,_,hr21,_,_⟩:=ox hE21
 refine fA 1 Z (lP H hrow21 1 Z2 (xc Z2 (l5All_c _ _ H.sub _ _ hr21) ?_))
 rintro _ _ ⟨_,_,_,g22,rfl,⟨_,rfl,hchk22⟩,hp22,hq22,hs22⟩
 have H:=H.growO g22 hp22 hq22 hs22;obtain⟨_,_,rfl⟩:=H.accShape (k:=0) rfl
 have hchk15:=hchk15.up g22.le
 have hchk18:=hchk18.up g22.le
 refine⟨_,Z,?_⟩
 refine fA 1 Z (xst 2 H Z8 ?_);intro _ H
 refine q1 (lA 2 3 H Z4 (xst 4 H Z8 ?_));intro _ H
 refine aG Z (q3 (W_ret (ret_gen (rs:=[.cell 4 27,.tmp 5]) (vs:=[_,_]) results35 ⟨⟨_,Z,load_blk 4 H isAgg27 sizeOf27 Z Z Z⟩,Z,trivial⟩ ?_)))
 have hzz:=Option.some.inj (hz21.symm.trans hz11);subst hzz
 obtain⟨_,H,hsg526,hsr526⟩:=H.shut' (k:=1) rfl hchk18 aN aN
 have hchk15:=hchk15.up hsg526
 have hchk22:=hchk22.up hsg526
 obtain⟨_,H,hsg527,hsr527⟩:=H.shut' (k:=0) rfl hchk22 aN aN
 have hchk15:=hchk15.up hsg527
 have hsr526:=hsr526.up hsg527
 have hY:Sp.SnapBack d name=some ⟨Sp.l12Free ((Sp.l12Keep d.store z21.tree).getD []) d.tree,z21.tree,d.snaps⟩:=by (obtain⟨_,hp⟩:=Option.isSome_iff_exists.1 hc13');(rw[Sp.back_eq (by simpa using hc6') hat hz21,hp];rfl)
 exact H.retO (k:=1) rfl (by rw[hY];exact⟨_,_,_,rfl,AccOf.mk aN hchk15,hsr526,hsr527⟩) (acc_nd _ _ _ _ _)
theorem DiskWrite_c (w0:World)(G0:PH)(hG:PSub G0 w0)(cd:List Value)(d:BDisk)(hd:diskE G0 d cd)(path:Bs)(hpath:path.length≤16777216)(vbytes:Value)(bytes:List (Int))(hbytes:RdI G0 vbytes bytes) :
  Calls Tryz.prog 111 #[.agg cd.toArray,str path,vbytes] w0 (RetO w0 G0 (fun G val r=>∃u u1 u2,val= .tuple #[.agg #[u,u1,u2],.bool (Sp.DiskWrite d path bytes).isSome]∧AccOf snapE 2 67 (((Sp.DiskWrite d path bytes).map (·.snaps)).getD []) G u2 r∧RdH G u (((Sp.DiskWrite d path bytes).map (·.store)).getD [])∧RdItems G u1 (((Sp.DiskWrite d path bytes).map (·.tree)).getD []))):=by
 obtain⟨_,_,_,_,_,_,_,_,_,rfl,hr1,hr1',hr1'',⟨_,_⟩,⟨_,_⟩,_,_⟩:=ox hd
 obtain⟨abytes,kbytes,rfl⟩:=hbytes.shape
 have hlimbytes:bytes.length≤1099511627776:=hbytes.lim
 have H:=Hp.init hG
 refine calls_of_W (l:=[_,str path,.slice abytes bytes.length kbytes]) func111 Z ntmps111 Z (q2 (o_box H Z Z Z ?_));intro _ _ _ H
 refine xal H Z ?_;intro _ _ _ H
 refine aG Z (q3 (W_seq (q2 (lA 1 3 H Z4 (xr H Z2 (DiskValid_c _ _ H.sub _ d ⟨_,_,_,_,_,_,_,_,_,Z,hr1,hr1',hr1''⟩) ?_)))));intro _ H
 refine pe 2 Z ?_
 refine R_case (t:=14) Z ?_ ?_
 ·intro hc5
  try simp only[nrm]at hc5
  refine pe 4 Z (q3 (W_true Z (q2 (o_build bf27 Z Z Z (xst 0 H Z8 ?_)))));intro _ H
  refine aG Z (q3 (W_ret (N_K_ret (ret_gen (rs:=[.cell 6 27,.tmp 7]) (vs:=[_,_]) results111 ⟨⟨_,Z,load_blk 0 H isAgg27 sizeOf27 Z Z Z⟩,Z,trivial⟩ ?_))))
  have hN:Sp.DiskWrite d path bytes=none:=by simp[Sp.DiskWrite,hc5]
  have H:=H.addNil 67 2
  exact H.retO (k:=0) rfl (by rw[hN];exact⟨_,_,_,rfl,AccOf.mk rfl Chk.nil,RdS.nil _ _ _,RdS.nil _ _ _⟩) (acc_nd _ _ _ _ _)
 intro hc5'
 try simp only[nrm]at hc5'
 refine pe 1 Z (gR Z (xr H Z2 (FileValid_c _ _ H.sub _ _ hbytes) ?_));intro _ H
 refine pe 2 Z (q3 ?_)
 refine W_cond Z ?_ ?_
 ·intro hc8
  try simp only[nrm]at hc8
  refine q2 (o_build bf27 Z Z Z (xst 0 H Z8 ?_));intro _ H
  refine aG Z (q3 (W_ret (N_K_ret (ret_gen (rs:=[.cell 6 27,.tmp 7]) (vs:=[_,_]) results111 ⟨⟨_,Z,load_blk 0 H isAgg27 sizeOf27 Z Z Z⟩,Z,trivial⟩ ?_))))
  have hN:Sp.DiskWrite d path bytes=none:=by simp[Sp.DiskWrite,hc8]
  have H:=H.addNil 67 2
  exact H.retO (k:=0) rfl (by rw[hN];exact⟨_,_,_,rfl,AccOf.mk rfl Chk.nil,RdS.nil _ _ _,RdS.nil _ _ _⟩) (acc_nd _ _ _ _ _)
 intro hc8'
 try simp only[nrm]at hc8'
 have hfl:=Sp.file_len hc8'
 refine W_skip (N_K (q2 (fA 0 Z (lB 1 H Z3 (fA 1 Z (lB 1 H Z3 (o_build bf132 Z Z Z (pe 2 Z (xc Z2 (l11Write_c _ _ H.sub _ ⟨d.store,d.tree⟩ ⟨_,_,_,_,_,_,Z,hr1,hr1'⟩ _ hpath _ _ hbytes oM) ?_)))))))))
 rintro _ _ ⟨_,_,_,g10,rfl,⟨_,_,rfl,⟨_,rfl,hchk10⟩,hr10_1⟩,hp10,hq10,hs10⟩
 have H:=H.growO g10 hp10 hq10 hs10;obtain⟨_,_,rfl⟩:=H.accShape (k:=0) rfl
 have hr1:=hr1.up g10.le
 have hr1':=hr1'.up g10.le
 have hr1'':=hr1''.up g10.le
 obtain⟨_,_,rfl⟩:=hr10_1.shape;have hx_hr10_1:_≤1099511627776:=hr10_1.lim
 refine⟨_,Z,?_⟩
 have hwl:=Sp.l11Write_slen ⟨d.store,d.tree⟩ path bytes
 refine pe 3 Z (xal H Z ?_);intro _ _ _ H
 refine xst 0 H Z8 ?_;intro _ H
 refine aG Z (q3 (W_seq (q2 (pe 2 Z (q3 ?_)))))
 refine W_cond Z ?_ ?_
 ·intro hc13
  try simp only[nrm]at hc13
  refine q2 (o_build bf27 Z Z Z (xst 2 H Z8 ?_));intro _ H
  refine aG Z (q3 (W_ret (N_K_ret (ret_gen (rs:=[.cell 6 27,.tmp 7]) (vs:=[_,_]) results111 ⟨⟨_,Z,load_blk 2 H isAgg27 sizeOf27 Z Z Z⟩,Z,trivial⟩ ?_))))
  have hN:Sp.DiskWrite d path bytes=none:=by (have hno:Sp.l11Write ⟨d.store,d.tree⟩ path bytes=none:=by simpa using hc13);simp[Sp.DiskWrite,hno]
  have H:=H.addNil 67 2
  exact H.retO (k:=0) rfl (by rw[hN];exact⟨_,_,_,rfl,AccOf.mk rfl Chk.nil,RdS.nil _ _ _,RdS.nil _ _ _⟩) (acc_nd _ _ _ _ _)
 intro hc13'
 try simp only[nrm]at hc13'
 refine W_skip (N_K (q2 (lA 3 3 H Z4 (xc Z2 (l12Copy_c _ _ H.sub _ d ⟨_,_,_,_,_,_,_,_,_,Z,hr1,hr1',hr1''⟩) ?_))))
 rintro _ _ ⟨_,_,_,g15,rfl,⟨_,_,_,rfl,⟨_,rfl,hchk15⟩,hr15_0,hr15_1⟩,hp15,hq15,hs15⟩
 have H:=H.growO g15 hp15 hq15 hs15;obtain⟨_,_,rfl⟩:=H.accShape (k:=0) rfl
 have hchk10:=hchk10.up g15.le
 have hr10_1:=hr10_1.up g15.le
 obtain⟨_,_,rfl⟩:=hr15_0.shape;have hx_hr15_0:_≤1099511627776:=hr15_0.lim
 obtain⟨_,_,rfl⟩:=hr15_1.shape;have hx_hr15_1:_≤1099511627776:=hr15_1.lim
 refine⟨_,Z,?_⟩
 refine xal H Z ?_;intro _ _ _ H
 refine xst 0 H Z8 ?_;intro _ H
 refine q1 (fA 0 Z (lB 2 H Z3 (fA 0 Z (xst 0 H Z8 ?_))));intro _ H
 refine q1 (fA 1 Z (lB 2 H Z3 (fA 1 Z (xst 0 H Z8 ?_))));intro _ H
 refine q1 (lA 0 3 H Z4 (xst 4 H Z8 ?_));intro _ H
 refine aG Z (q3 (W_ret (ret_gen (rs:=[.cell 6 27,.tmp 7]) (vs:=[_,_]) results111 ⟨⟨_,Z,load_blk 4 H isAgg27 sizeOf27 Z Z Z⟩,Z,trivial⟩ ?_)))
 obtain⟨_,H,hsg524,hsr524⟩:=H.shut' (k:=3) rfl hchk10 aN aN
 have hr10_1:=hr10_1.up hsg524
 have hchk15:=hchk15.up hsg524
 have hY:Sp.DiskWrite d path bytes=some ⟨((Sp.l11Write ⟨d.store,d.tree⟩ path bytes).map (·.store)).getD [],((Sp.l11Write ⟨d.store,d.tree⟩ path bytes).map (·.tree)).getD [],d.snaps⟩:=by (obtain⟨_,hp⟩:=Option.isSome_iff_exists.1 hc13');simp[Sp.DiskWrite,hc5',hc8',hp]
 exact H.retO (k:=1) rfl (by rw[hY];exact⟨_,_,_,rfl,AccOf.mk aN hchk15,hsr524,hr10_1⟩) (acc_nd _ _ _ _ _)
theorem l14Make_c (w0:World)(G0:PH)(hG:PSub G0 w0)(cd:List Value)(d:BDisk)(hd:diskE G0 d cd)(cx:List Value)(x:BPart)(hx:partE G0 x cx)(hdv:Sp.DiskValid d=true)(hk:x.kind=1∨x.kind=3) :
  Calls Tryz.prog 45 #[.agg cd.toArray,.agg cx.toArray] w0 (RetO w0 G0 (fun G val r=>∃u u1 u2,val= .tuple #[.agg #[u,u1,u2],.bool (Sp.l14Make d x).isSome]∧AccOf snapE 2 67 (((Sp.l14Make d x).map (·.snaps)).getD []) G u2 r∧RdH G u (((Sp.l14Make d x).map (·.store)).getD [])∧RdItems G u1 (((Sp.l14Make d x).map (·.tree)).getD []))):=by
 obtain⟨_,_,_,_,_,_,_,_,_,rfl,hr1,hr1',hr1'',⟨_,_⟩,⟨_,_⟩,_,_⟩:=ox hd
 obtain⟨_,_,_,rfl,_,hi2,hr2⟩:=hx;have hy_hi2:_≤16777216:=hi2;have hn_hr2:=hr2.len;have hx_hr2:_≤1099511627776:=hr2.lim
 have H:=Hp.init hG
 refine calls_of_W (l:=[_,_]) func45 Z ntmps45 Z (q2 (o_box H Z Z Z ?_));intro _ _ _ H
 refine o_box H Z Z Z ?_;intro _ _ _ H
 refine xal H Z ?_;intro _ _ _ H
 refine aG Z (q1 (fA 1 Z (lB 2 H Z3 (fA 1 Z (lB 1 H Z3 (xr H Z2 (l5At_c _ _ H.sub _ _ hr1' _ hi2) ?_))))));intro _ H
 refine aG Z (q3 (W_seq (q2 (pe 2 Z (fA 0 Z (lB 1 H Z3 (pe 1 Z (o_bneq underlying4 Z Z Z (mV Z ?_)))))))))
 refine R_case (t:=21) Z ?_ ?_
 ·intro hc7
  try simp only[nrm]at hc7
  refine pe 4 Z (R_pass Z (yl_un Z Z) (R_pass Z (yl_un Z Z) (R_pass Z (yl_un Z Z) (R_pass Z (yl_un Z Z) (R_pass Z (yl_un Z Z) (R_pass Z (yl_un Z Z) (R_pass Z (yl_un Z Z) (R_pass Z (yl_un Z Z) (R_pass Z (yl_un Z Z) (R_pass Z (yl_un Z Z) (pe 2 Z (q3 (W_true Z (q2 (o_build bf27 Z Z Z ?_)))))))))))))))
  refine xst 0 H Z8 ?_;intro _ H
  refine aG Z (q3 (W_ret (N_K_ret (ret_gen (rs:=[.cell 4 27,.tmp 5]) (vs:=[_,_]) results45 ⟨⟨_,Z,load_blk 0 H isAgg27 sizeOf27 Z Z Z⟩,Z,trivial⟩ ?_))))
  have hN:Sp.l14Make d x=none:=by exact Sp.mk_not hdv hk (by simpa using hc7)
  have H:=H.addNil 67 2
  exact H.retO (k:=0) rfl (by rw[hN];exact⟨_,_,_,rfl,AccOf.mk rfl Chk.nil,RdS.nil _ _ _,RdS.nil _ _ _⟩) (acc_nd _ _ _ _ _)
 intro hc7'
 try simp only[nrm]at hc7'
 have hge14:0≤Sp.l5At d.tree x.path↔x.kind=3:=Sp.mk_ge (by simpa using hc7')
 refine gR Z (fA 0 Z (gR Z (lB 1 H Z3 (pe 2 Z ?_))))
 refine R_case (t:=25) Z ?_ ?_
 ·intro hc9
  try simp only[nrm]at hc9
  refine gR Z (fA 2 Z (gR Z (lB 1 H Z3 (pe 1 Z ?_))))
  refine R_case (t:=28) Z ?_ ?_
  ·intro hc10
   try simp only[nrm]at hc10
   refine pe 9 Z (q3 (W_true Z (q2 (o_build bf27 Z Z Z (xst 0 H Z8 ?_)))));intro _ H
   refine aG Z (q3 (W_ret (N_K_ret (ret_gen (rs:=[.cell 4 27,.tmp 5]) (vs:=[_,_]) results45 ⟨⟨_,Z,load_blk 0 H isAgg27 sizeOf27 Z Z Z⟩,Z,trivial⟩ ?_))))
   have hN:Sp.l14Make d x=none:=by exact Sp.mk_dir1 hc9 (by simpa using hc10)
   have H:=H.addNil 67 2
   exact H.retO (k:=0) rfl (by rw[hN];exact⟨_,_,_,rfl,AccOf.mk rfl Chk.nil,RdS.nil _ _ _,RdS.nil _ _ _⟩) (acc_nd _ _ _ _ _)
  intro hc10'
  try simp only[nrm]at hc10'
  obtain⟨i,_,hat,ib,_,_⟩:=Sp.l5_nat (t:=d.tree) (p:=x.path) (hge14.2 hc9)
  refine gR Z (fA 1 Z (gR Z (lB 2 H Z3 (pe 1 Z (gR Z (iP i hr1' Z3 ib ?_))))));intro _ _ _ _ hz12 hE12 hrow12
  obtain⟨_,_,_,rfl,_,hr12,_,_⟩:=ox hE12
  refine gR Z (fA 1 Z (gR Z (lP H hrow12 1 Z2 (pe 3 Z (q3 ?_)))))
  refine W_cond Z ?_ ?_
  ·intro hc13
   try simp only[nrm]at hc13
   refine q2 (o_build bf27 Z Z Z (xst 0 H Z8 ?_));intro _ H
   refine aG Z (q3 (W_ret (N_K_ret (ret_gen (rs:=[.cell 4 27,.tmp 5]) (vs:=[_,_]) results45 ⟨⟨_,Z,load_blk 0 H isAgg27 sizeOf27 Z Z Z⟩,Z,trivial⟩ ?_))))
   have hN:Sp.l14Make d x=none:=by exact Sp.mk_dir hdv hat hz12 hc9 (.inr (by simpa using hc13))
   have H:=H.addNil 67 2
   exact H.retO (k:=0) rfl (by rw[hN];exact⟨_,_,_,rfl,AccOf.mk rfl Chk.nil,RdS.nil _ _ _,RdS.nil _ _ _⟩) (acc_nd _ _ _ _ _)
  intro hc13'
  try simp only[nrm]at hc13'
  refine W_skip (N_K (W_seq (q2 (fA 2 Z (lB 1 H Z3 (pe 1 Z (q3 ?_)))))))
  refine W_cond Z ?_ ?_
  ·intro hc15
   try simp only[nrm]at hc15
   refine q2 (lA 2 3 H Z4 (fA 1 Z (lB 1 H Z3 (fA 3 Z (lB 1 H Z3 (xc Z2 (DiskWrite_c _ _ H.sub _ d ⟨_,_,_,_,_,_,_,_,_,Z,hr1,hr1',hr1''⟩ _ hi2 _ _ hr2) ?_))))))
   rintro _ _ ⟨_,_,_,g16,rfl,⟨_,_,_,rfl,⟨_,rfl,hchk16⟩,hr16_0,hr16_1⟩,hp16,hq16,hs16⟩
   have H:=H.growO g16 hp16 hq16 hs16;obtain⟨_,_,rfl⟩:=H.accShape (k:=0) rfl
   obtain⟨_,_,rfl⟩:=hr16_0.shape;have hx_hr16_0:_≤1099511627776:=hr16_0.lim
   obtain⟨_,_,rfl⟩:=hr16_1.shape;have hx_hr16_1:_≤1099511627776:=hr16_1.lim
   refine⟨_,Z,?_⟩
   refine pe 2 Z (xst 1 H Z8 ?_);intro _ H
   refine aG Z (q3 (W_ret (N_K_ret (ret_gen (rs:=[.cell 4 27,.tmp 5]) (vs:=[_,_]) results45 ⟨⟨_,Z,load_blk 1 H isAgg27 sizeOf27 Z Z Z⟩,Z,trivial⟩ ?_))))
   have hY:Sp.l14Make d x=Sp.DiskWrite d x.path x.bytes:=by exact Sp.mk_file3 hdv hat hz12 hc9 (by simp_all) (by simp_all)
   exact H.retO (k:=0) rfl (by rw[hY];exact⟨_,_,_,rfl,AccOf.mk aN hchk16,hr16_0,hr16_1⟩) (acc_nd _ _ _ _ _)
  intro hc15'
  try simp only[nrm]at hc15'
  exact absurd (show False by simp_all) id
 intro hc9'
 try simp only[nrm]at hc9'
 refine pe 3 Z (R_pass Z (yl_un Z Z) (R_pass Z (yl_un Z Z) (R_pass Z (yl_un Z Z) (R_pass Z (yl_un Z Z) (R_pass Z (yl_un Z Z) (R_pass Z (yl_un Z Z) (pe 3 Z (q3 (W_false Z (W_skip (N_K (W_seq (q2 (fA 2 Z (lB 1 H Z3 ?_)))))))))))))))
 refine pe 1 Z (q3 ?_)
 refine W_cond Z ?_ ?_
 ·intro hc18
  try simp only[nrm]at hc18
  refine q2 (lA 2 3 H Z4 (fA 1 Z (lB 1 H Z3 (fA 3 Z (lB 1 H Z3 (xc Z2 (DiskWrite_c _ _ H.sub _ d ⟨_,_,_,_,_,_,_,_,_,Z,hr1,hr1',hr1''⟩ _ hi2 _ _ hr2) ?_))))))
  rintro _ _ ⟨_,_,_,g19,rfl,⟨_,_,_,rfl,⟨_,rfl,hchk19⟩,hr19_0,hr19_1⟩,hp19,hq19,hs19⟩
  have H:=H.growO g19 hp19 hq19 hs19;obtain⟨_,_,rfl⟩:=H.accShape (k:=0) rfl
  obtain⟨_,_,rfl⟩:=hr19_0.shape;have hx_hr19_0:_≤1099511627776:=hr19_0.lim
  obtain⟨_,_,rfl⟩:=hr19_1.shape;have hx_hr19_1:_≤1099511627776:=hr19_1.lim
  refine⟨_,Z,?_⟩
  refine pe 2 Z (xst 1 H Z8 ?_);intro _ H
  refine aG Z (q3 (W_ret (N_K_ret (ret_gen (rs:=[.cell 4 27,.tmp 5]) (vs:=[_,_]) results45 ⟨⟨_,Z,load_blk 1 H isAgg27 sizeOf27 Z Z Z⟩,Z,trivial⟩ ?_))))
  have h1:x.kind=1:=hk.resolve_right hc9'
  have ha:¬0≤Sp.l5At d.tree x.path:=fun h=>hc9' (hge14.1 h)
  have hY:Sp.l14Make d x=Sp.DiskWrite d x.path x.bytes:=by exact Sp.mk_file1 h1 ha (by simp_all)
  exact H.retO (k:=0) rfl (by rw[hY];exact⟨_,_,_,rfl,AccOf.mk aN hchk19,hr19_0,hr19_1⟩) (acc_nd _ _ _ _ _)
 intro hc18'
 try simp only[nrm]at hc18'
 refine W_skip (N_K (q2 (fA 1 Z (lB 2 H Z3 (fA 1 Z (lB 1 H Z3 (o_build bf41 Z Z Z (xc Z2 (TreePut_c _ _ H.sub _ _ hr1' _ ⟨x.path,true,[]⟩ ⟨_,_,_,Z,hi2,(RdS.nil _ _ _)⟩) ?_))))))))
 rintro _ _ ⟨_,_,g21,rfl,_,rfl,hr21_0⟩
 have H:=H.grow g21
 have hr1:=hr1.up g21.le
 have hr1':=hr1'.up g21.le
 have hr1'':=hr1''.up g21.le
 obtain⟨_,_,rfl⟩:=hr21_0.shape;have hx_hr21_0:_≤1099511627776:=hr21_0.lim
 refine⟨_,Z,?_⟩
 refine pe 5 Z (q3 (W_seq (q2 (pe 3 Z ?_))))
 refine R_case (t:=61) Z ?_ ?_
 ·intro hc22
  try simp only[nrm]at hc22
  refine pe 5 Z (q3 (W_true Z (q2 (o_build bf27 Z Z Z (xst 0 H Z8 ?_)))));intro _ H
  refine aG Z (q3 (W_ret (N_K_ret (ret_gen (rs:=[.cell 4 27,.tmp 5]) (vs:=[_,_]) results45 ⟨⟨_,Z,load_blk 0 H isAgg27 sizeOf27 Z Z Z⟩,Z,trivial⟩ ?_))))
  have h1:x.kind=1:=hk.resolve_right hc9'
  have ha:¬0≤Sp.l5At d.tree x.path:=fun h=>hc9' (hge14.1 h)
  have hN:Sp.l14Make d x=none:=by (rw[Sp.mk_new h1 ha (by simp_all),show(Sp.TreePut d.tree ⟨x.path,true,[]⟩)=none by simpa using hc22];simp)
  have H:=H.addNil 67 2
  exact H.retO (k:=0) rfl (by rw[hN];exact⟨_,_,_,rfl,AccOf.mk rfl Chk.nil,RdS.nil _ _ _,RdS.nil _ _ _⟩) (acc_nd _ _ _ _ _)
 intro hc22'
 try simp only[nrm]at hc22'
 refine gR Z (fA 3 Z (gR Z (lB 1 H Z3 (gR Z (lN Z (pe 2 Z (q3 ?_)))))))
 refine W_cond Z ?_ ?_
 ·intro hc24
  try simp only[nrm]at hc24
  refine q2 (o_build bf27 Z Z Z (xst 0 H Z8 ?_));intro _ H
  refine aG Z (q3 (W_ret (N_K_ret (ret_gen (rs:=[.cell 4 27,.tmp 5]) (vs:=[_,_]) results45 ⟨⟨_,Z,load_blk 0 H isAgg27 sizeOf27 Z Z Z⟩,Z,trivial⟩ ?_))))
  have h1:x.kind=1:=hk.resolve_right hc9'
  have ha:¬0≤Sp.l5At d.tree x.path:=fun h=>hc9' (hge14.1 h)
  have hN:Sp.l14Make d x=none:=by (rw[Sp.mk_new h1 ha (by simp_all),if_neg (fun e=>by (have h9:x.bytes.length=0:=by (rw[e];rfl));omega)])
  have H:=H.addNil 67 2
  exact H.retO (k:=0) rfl (by rw[hN];exact⟨_,_,_,rfl,AccOf.mk rfl Chk.nil,RdS.nil _ _ _,RdS.nil _ _ _⟩) (acc_nd _ _ _ _ _)
 intro hc24'
 try simp only[nrm]at hc24'
 refine W_skip (N_K (q2 (lA 2 3 H Z4 (xc Z2 (l12Copy_c _ _ H.sub _ d ⟨_,_,_,_,_,_,_,_,_,Z,hr1,hr1',hr1''⟩) ?_))))
 rintro _ _ ⟨_,_,_,g26,rfl,⟨_,_,_,rfl,⟨_,rfl,hchk26⟩,hr26_0,hr26_1⟩,hp26,hq26,hs26⟩
 have H:=H.growO g26 hp26 hq26 hs26;obtain⟨_,_,rfl⟩:=H.accShape (k:=0) rfl
 have hr21_0:=hr21_0.up g26.le
 obtain⟨_,_,rfl⟩:=hr26_0.shape;have hx_hr26_0:_≤1099511627776:=hr26_0.lim
 obtain⟨_,_,rfl⟩:=hr26_1.shape;have hx_hr26_1:_≤1099511627776:=hr26_1.lim
 refine⟨_,Z,?_⟩
 refine xal H Z ?_;intro _ _ _ H
 refine xst 0 H Z8 ?_;intro _ H
 refine q1 (mV Z (fA 1 Z (xst 0 H Z8 ?_)));intro _ H
 refine q1 (lA 0 3 H Z4 (xst 2 H Z8 ?_));intro _ H
 refine aG Z (q3 (W_ret (ret_gen (rs:=[.cell 4 27,.tmp 5]) (vs:=[_,_]) results45 ⟨⟨_,Z,load_blk 2 H isAgg27 sizeOf27 Z Z Z⟩,Z,trivial⟩ ?_)))
 have h1:x.kind=1:=hk.resolve_right hc9'
 have ha:¬0≤Sp.l5At d.tree x.path:=fun h=>hc9' (hge14.1 h)
 have hY:Sp.l14Make d x=some ⟨d.store,(Sp.TreePut d.tree ⟨x.path,true,[]⟩).getD [],d.snaps⟩:=by (rw[Sp.mk_new h1 ha (by simp_all),if_pos (List.length_eq_zero_iff.1 oM)];cases hq:(Sp.TreePut d.tree ⟨x.path,true,[]⟩) with |none=>simp_all|some q=>rfl)
 exact H.retO (k:=1) rfl (by rw[hY];exact⟨_,_,_,rfl,AccOf.mk aN hchk26,hr26_0,hr21_0⟩) (acc_nd _ _ _ _ _)
theorem l14DropP_c (w0:World)(G0:PH)(hG:PSub G0 w0)(cd:List Value)(d:BDisk)(hd:diskE G0 d cd)(cx:List Value)(x:BPart)(hx:partE G0 x cx)(hdv:Sp.DiskValid d=true) :
  Calls Tryz.prog 43 #[.agg cd.toArray,.agg cx.toArray] w0 (RetP w0 G0 (fun G val=>∃cs,val= .tuple #[.agg cs.toArray,.bool (Sp.l14Drop d (Sp.bare x)).isSome]∧diskE G ((Sp.l14Drop d (Sp.bare x)).getD ⟨[],[],[]⟩) cs)):=by
 refine(l14Drop_c w0 G0 hG cd d hd cx x hx hdv).mono ?_
 rintro _ _ ⟨_,_,_,g,rfl,⟨_,_,_,rfl,⟨_,rfl,hchk⟩,h1,h2⟩,hp,hq,hs⟩
 have H:=(Hp.init hG).growO g hp hq hs
 have hb:(((Sp.l14Drop d (Sp.bare x)).map (·.snaps)).getD []).length≤6:=Sp.dk_lim (fun d1 h=>Sp.bare_valid hdv h)
 obtain⟨_,H2,hle,hr⟩:=H.shut' (k:=0) rfl hchk rfl oM
 have e1:((Sp.l14Drop d (Sp.bare x)).map (·.store)).getD []=((Sp.l14Drop d (Sp.bare x)).getD ⟨[],[],[]⟩).store:=by cases Sp.l14Drop d (Sp.bare x)<;>rfl
 have e2:((Sp.l14Drop d (Sp.bare x)).map (·.tree)).getD []=((Sp.l14Drop d (Sp.bare x)).getD ⟨[],[],[]⟩).tree:=by cases Sp.l14Drop d (Sp.bare x)<;>rfl
 have e3:((Sp.l14Drop d (Sp.bare x)).map (·.snaps)).getD []=((Sp.l14Drop d (Sp.bare x)).getD ⟨[],[],[]⟩).snaps:=by cases Sp.l14Drop d (Sp.bare x)<;>rfl
 rw[e1]at h1;rw[e2]at h2;rw[e3]at hr
 obtain⟨_,_,rfl⟩:=h1.shape
 obtain⟨_,_,rfl⟩:=h2.shape
 obtain⟨_,_,rfl⟩:=hr.shape
 exact H2.retP ⟨[_,_,_],Z,_,_,_,_,_,_,_,_,_,Z,h1.up hle,h2.up hle,hr⟩
theorem l14MakeP_c (w0:World)(G0:PH)(hG:PSub G0 w0)(cd:List Value)(d:BDisk)(hd:diskE G0 d cd)(cx:List Value)(x:BPart)(hx:partE G0 x cx)(hdv:Sp.DiskValid d=true)(hk:x.kind=1∨x.kind=3) :
  Calls Tryz.prog 45 #[.agg cd.toArray,.agg cx.toArray] w0 (RetP w0 G0 (fun G val=>∃cs,val= .tuple #[.agg cs.toArray,.bool (Sp.l14Make d x).isSome]∧diskE G ((Sp.l14Make d x).getD ⟨[],[],[]⟩) cs)):=by
 refine(l14Make_c w0 G0 hG cd d hd cx x hx hdv hk).mono ?_
 rintro _ _ ⟨_,_,_,g,rfl,⟨_,_,_,rfl,⟨_,rfl,hchk⟩,h1,h2⟩,hp,hq,hs⟩
 have H:=(Hp.init hG).growO g hp hq hs
 have hb:(((Sp.l14Make d x).map (·.snaps)).getD []).length≤6:=Sp.dk_lim (fun d1 h=>Sp.make_valid hdv h)
 obtain⟨_,H2,hle,hr⟩:=H.shut' (k:=0) rfl hchk rfl oM
 have e1:((Sp.l14Make d x).map (·.store)).getD []=((Sp.l14Make d x).getD ⟨[],[],[]⟩).store:=by cases Sp.l14Make d x<;>rfl
 have e2:((Sp.l14Make d x).map (·.tree)).getD []=((Sp.l14Make d x).getD ⟨[],[],[]⟩).tree:=by cases Sp.l14Make d x<;>rfl
 have e3:((Sp.l14Make d x).map (·.snaps)).getD []=((Sp.l14Make d x).getD ⟨[],[],[]⟩).snaps:=by cases Sp.l14Make d x<;>rfl
 rw[e1]at h1;rw[e2]at h2;rw[e3]at hr
 obtain⟨_,_,rfl⟩:=h1.shape
 obtain⟨_,_,rfl⟩:=h2.shape
 obtain⟨_,_,rfl⟩:=hr.shape
 exact H2.retP ⟨[_,_,_],Z,_,_,_,_,_,_,_,_,_,Z,h1.up hle,h2.up hle,hr⟩
theorem StreamRun_c (w0:World)(G0:PH)(hG:PSub G0 w0)(cd:List Value)(d:BDisk)(hd:diskE G0 d cd)(vlist:Value)(list:List (BPart))(hlist:RdPart G0 vlist list) :
  Calls Tryz.prog 11 #[.agg cd.toArray,vlist] w0 (RetP w0 G0 (fun G v=>∃cs,v= .tuple #[.agg cs.toArray,.bool (Sp.StreamRun d list).isSome]∧diskE G ((Sp.StreamRun d list).getD ⟨[],[],[]⟩) cs)):=by
 obtain⟨_,_,_,_,_,_,_,_,_,rfl,hr1,hr1',hr1'',⟨_,_⟩,⟨_,_⟩,_,_⟩:=ox hd
 obtain⟨alist,klist,rfl⟩:=hlist.shape
 have hlimlist:list.length≤1099511627776:=hlist.lim
 have H:=Hp.init hG
 refine calls_of_W (l:=[_,.slice alist list.length klist]) func11 Z ntmps11 Z (q2 (o_box H Z Z Z ?_));intro b2 _ _ H
 refine xal H Z ?_;intro b3 _ _ H
 refine aG Z (q3 (W_seq (q2 (lA 1 3 H Z4 (xr H Z2 (DiskValid_c _ _ H.sub _ d ⟨_,_,_,_,_,_,_,_,_,Z,hr1,hr1',hr1''⟩) ?_)))));intro _ H
 refine pe 1 Z (q3 ?_)
 refine W_cond Z ?_ ?_
 ·intro hc5
  try simp only[nrm]at hc5
  refine q2 (o_build bf27 Z Z Z (xst 0 H Z8 ?_));intro _ H
  refine aG Z (q3 (W_ret (N_K_ret (ret_gen (rs:=[.cell 4 27,.tmp 5]) (vs:=[_,_]) results11 ⟨⟨_,Z,load_blk 0 H isAgg27 sizeOf27 Z Z Z⟩,Z,trivial⟩ ?_))))
  have H:=H.dl 0
  have H:=H.dl 0
  have hj:Sp.StreamRun d list=none:=Sp.run_inv (by simpa using hc5)
  exact H.retP ⟨[_,_,_],(by rw[hj];rfl),(by rw[hj];exact⟨_,_,_,_,_,_,_,_,_,rfl,(RdS.nil _ _ _),(RdS.nil _ _ _),(RdS.nil _ _ _)⟩)⟩
 intro hc5'
 try simp only[nrm]at hc5'
 refine W_skip (N_K (q2 ?_))
 have hdv:Sp.DiskValid d=true:=by first|assumption|simp_all
 refine lA 1 3 H Z4 (xc Z2 (l12Copy_c _ _ H.sub _ d ⟨_,_,_,_,_,_,_,_,_,Z,hr1,hr1',hr1''⟩) ?_)
 rintro _ _ ⟨_,_,_,g7,rfl,⟨_,_,_,rfl,⟨_,rfl,hchk7⟩,hr7_0,hr7_1⟩,hp7,hq7,hs7⟩
 have H:=H.growO g7 hp7 hq7 hs7;obtain⟨_,_,rfl⟩:=H.accShape (k:=0) rfl
 have hlist:=hlist.up g7.le
 obtain⟨_,_,rfl⟩:=hr7_0.shape;have hx_hr7_0:_≤1099511627776:=hr7_0.lim
 obtain⟨_,_,rfl⟩:=hr7_1.shape;have hx_hr7_1:_≤1099511627776:=hr7_1.lim
 refine⟨_,Z,?_⟩
 refine xal H Z ?_;intro b8 _ _ H
 refine xst 0 H Z8 ?_;intro _ H
 refine q3 (W_seq (q2 (mV Z (lN Z (o_sub Z Z Z oO (aG Z (q3 (W_block ?_))))))))
 obtain⟨G11,H,hsg11,hsr11⟩:=H.shut' (k:=1) rfl hchk7 aN aN
 have hlist:=hlist.up hsg11
 have hr7_0:=hr7_0.up hsg11
 have hr7_1:=hr7_1.up hsg11
 obtain⟨ln12,hln12,H⟩:=H.name (k:=1) rfl
 obtain⟨ln13,hln13,H⟩:=H.name (k:=2) rfl
 refine W_lp (hf:=(Sub.cons (t:=1) Z (Sub.cons (t:=4) Z (Sub.cons (t:=6) Z Sub.nil)))) (J:=fun M w m=>∃(k:Nat) (i:Int) (va vb vc:Value) (st:List BHeld) (tr:List BItem) (sn:List BSnap) (G:PH),M=[(7,.int .i64 i)]∧PLe G11 G∧Hp w0 G0 [] w G [blk b8 (cl [va,vb,vc] 27),blk b3 (cl ln12 27),blk b2 (cl ln13 27)]∧(k≤list.length∧i=(k:Int)-1∧Sp.runD d (list.drop k)=some ⟨st,tr,sn⟩∧RdH G va st∧RdItems G vb tr∧RdSn G vc sn)∧m=(2*k)) (h0:=⟨list.length,((list.length:Int)-1),_,_,_,d.store,d.tree,d.snaps,_,Z,PLe.refl _,H,?inv,Z⟩) (round:=?round)
 case inv=>exact⟨Nat.le_refl _,rfl,(by rw[List.drop_length];rfl),hr7_0,hr7_1,hsr11⟩
 case round =>
  rintro _ _ _ ⟨k,i,va,vb,vc,st,tr,sn,G14,rfl,hle14,H,hinv14,rfl⟩
  subst hln12
  subst hln13
  have hlist:=hlist.up hle14
  obtain⟨hk,_,hJ,hst,htr,hsn⟩:=hinv14;have hvn:=Sp.runD_valid hdv hJ;obtain⟨_,_,rfl⟩:=hst.shape;have hlhst:_≤1099511627776:=hst.lim;obtain⟨_,_,rfl⟩:=htr.shape;have hlhtr:_≤1099511627776:=htr.lim;obtain⟨_,_,rfl⟩:=hsn.shape;have hlhsn:_≤1099511627776:=hsn.lim
  refine W_seq (q2 (pe 2 Z (q3 ?_)))
  refine W_cond Z ?_ ?_
  ·intro hc15
   try simp only[nrm]at hc15
   refine W_skip (N_K (W_seq (W_block (q2 ?_))))
   have hJ1:Sp.runD d (list.drop (k-1+1))=some ⟨st,tr,sn⟩:=(by rw[show k-1+1=k by omega];exact hJ)
   refine pe 2 Z (iP (k-1) hlist Z3 oM ?_);intro _ _ z16 _ hz16 hE16 hrow16
   obtain⟨_,_,_,rfl,_,hi16,hr16⟩:=hE16;have hy_hi16:_≤16777216:=hi16;have hn_hr16:=hr16.len;have hx_hr16:_≤1099511627776:=hr16.lim
   refine fA 0 Z (lP H hrow16 0 Z2 (pe 1 Z (q3 ?_)))
   refine W_cond Z ?_ ?_
   ·intro hc17
    try simp only[nrm]at hc17
    refine W_seq (W_drawK [0,1,2] 12 H kR Z ?_);intro _ H;have hd18:=PLe.refl G14
    refine RD_t 0 Z kR Z (fun _ hK=>v_loadagg_B 0 hK isAgg27 sizeOf27 Z Z Z Z) (dE 1 Z2 (dE 2 Z2 ?_))
    have hl19:=hlist.len
    obtain⟨_,_,z19,_,ha19,hz19,hq19,hE19,hrow19,_⟩:=hlist.at (i:=(k-1)) oM
    clear hq19
    obtain⟨_,_,_,rfl,_,hi19,hr19⟩:=hE19;have hy_hi19:_≤16777216:=hi19;have hn_hr19:=hr19.len;have hx_hr19:_≤1099511627776:=hr19.lim
    have hzz19:z16=z19:=Option.some.inj (hz16.symm.trans hz19)
    subst hzz19
    refine dI 3 4 (k-1) ha19 Z3 oM (RD_t 4 Z kR Z (fun _ hK=>v_loadagg_P hK isAgg39 sizeOf39 Z hrow19 Z) ?_)
    refine r2 5 9 Z2 ?_ ?_
    ·skip
     refine xc Z2 (l14DropP_c _ _ H.sub _ ⟨st,tr,sn⟩ ⟨_,_,_,_,_,_,_,_,_,Z,hst,htr,hsn⟩ _ z16 ⟨_,_,_,Z,⟨by first|omega|(dsimp only;omega),by first|omega|(dsimp only;omega)⟩,hi19,hr19⟩ hvn) ?_
     rintro _ _ ⟨_,_,g20,rfl,_,rfl,hr20_0⟩
     have H:=H.grow g20
     have hlist:=hlist.up g20.le
     have hle14:=hle14.trans g20.le
     have hd18:=hd18.trans g20.le
     obtain⟨_,_,_,_,_,_,_,_,_,rfl,hr21,hr21',hr21'',⟨_,_⟩,⟨_,_⟩,_,_⟩:=ox hr20_0
     refine⟨_,Z,?_⟩
     refine q4 H hd18 (dE 6 Z2 (dE 7 Z2 (dE 8 Z2 (r1 9 Z (xal H Z ?_)))));intro _ _ _ H
     refine q4 H hd18 (r1 10 Z (xst 0 H Z8 ?_));intro _ H
     refine q4 H hd18 (dE 11 Z2 (rz (N_K (W_seq (q2 (pe 3 Z ?_))))))
     refine R_case (t:=43) Z ?_ ?_
     ·intro hc24
      try simp only[nrm]at hc24
      refine pe 8 Z (q3 (W_true Z (q2 (o_build bf27 Z Z Z (xst 2 H Z8 ?_)))));intro _ H
      refine aG Z (q3 (W_ret (N_K_ret (N_B_ret (N_K_ret (N_LP_ret (N_B_ret (N_K_ret (ret_gen (rs:=[.cell 4 27,.tmp 5]) (vs:=[_,_]) results11 ⟨⟨_,Z,load_blk 2 H isAgg27 sizeOf27 Z Z Z⟩,Z,trivial⟩ ?_)))))))))
      have H:=H.sel [] rfl
      have hj:Sp.StreamRun d list=none:=Sp.run_dno hz16 hJ1 hc17 (Sp.pdrop_none (by simpa using hc24))
      exact H.retP ⟨[_,_,_],(by rw[hj];rfl),(by rw[hj];exact⟨_,_,_,_,_,_,_,_,_,rfl,(RdS.nil _ _ _),(RdS.nil _ _ _),(RdS.nil _ _ _)⟩)⟩
     intro hc24'
     try simp only[nrm]at hc24'
     refine pe 2 Z (gR Z (iP (k-1) hlist Z3 oM ?_));intro _ _ z26 _ hz26 hE26 hrow26
     obtain⟨_,_,_,rfl,_,hi26,hr26⟩:=hE26;have hy_hi26:_≤16777216:=hi26;have hn_hr26:=hr26.len;have hx_hr26:_≤1099511627776:=hr26.lim
     have hzz26:z16=z26:=Option.some.inj (hz16.symm.trans hz26)
     subst hzz26
     refine gR Z (fA 3 Z (gR Z (lP H hrow26 3 Z2 (gR Z (lN Z (pe 2 Z (q3 ?_)))))))
     refine W_cond Z ?_ ?_
     ·intro hc27
      try simp only[nrm]at hc27
      refine q2 (o_build bf27 Z Z Z (xst 2 H Z8 ?_));intro _ H
      refine aG Z (q3 (W_ret (N_K_ret (N_B_ret (N_K_ret (N_LP_ret (N_B_ret (N_K_ret (ret_gen (rs:=[.cell 4 27,.tmp 5]) (vs:=[_,_]) results11 ⟨⟨_,Z,load_blk 2 H isAgg27 sizeOf27 Z Z Z⟩,Z,trivial⟩ ?_)))))))))
      have H:=H.sel [] rfl
      have hj:Sp.StreamRun d list=none:=Sp.run_dno hz16 hJ1 hc17 (Sp.pdrop_bytes oM)
      exact H.retP ⟨[_,_,_],(by rw[hj];rfl),(by rw[hj];exact⟨_,_,_,_,_,_,_,_,_,rfl,(RdS.nil _ _ _),(RdS.nil _ _ _),(RdS.nil _ _ _)⟩)⟩
     intro hc27'
     try simp only[nrm]at hc27'
     refine W_skip (N_K (W_region (lA 0 3 H Z4 (xst 1 H Z8 ?_))));intro _ H
     refine R_nil (N_B (N_K (W_region (mV Z (o_sub Z Z Z oO (aG Z (R_nil ?_)))))))
     have H:=H.sel [1,2,3] rfl
     refine N_lp (hJ:=⟨k-1,(i-1),_,_,_,((Sp.l14Drop ⟨st,tr,sn⟩ (Sp.bare z16)).getD ⟨[],[],[]⟩).store,((Sp.l14Drop ⟨st,tr,sn⟩ (Sp.bare z16)).getD ⟨[],[],[]⟩).tree,((Sp.l14Drop ⟨st,tr,sn⟩ (Sp.bare z16)).getD ⟨[],[],[]⟩).snaps,_,Z,hle14,H,?inv,Z⟩) (hm:=?hm)
     case hm=>omega
     case inv=>exact⟨by omega,by omega,Sp.dgo hz16 hJ1 hc17 (by simpa using hc24') oM,hr21,hr21',hr21''⟩
    skip
    refine xal H Z ?_;intro _ _ _ H
    refine q4 H hd18 (r1 5 Z ?_)
    refine xc Z2 (l14DropP_c _ _ H.sub _ ⟨st,tr,sn⟩ ⟨_,_,_,_,_,_,_,_,_,Z,hst,htr,hsn⟩ _ z16 ⟨_,_,_,Z,⟨by first|omega|(dsimp only;omega),by first|omega|(dsimp only;omega)⟩,hi19,hr19⟩ hvn) ?_
    rintro _ _ ⟨_,_,g32,rfl,_,rfl,hr32_0⟩
    have H:=H.grow g32
    have hlist:=hlist.up g32.le
    have hle14:=hle14.trans g32.le
    have hd18:=hd18.trans g32.le
    obtain⟨_,_,_,_,_,_,_,_,_,rfl,hr33,hr33',hr33'',⟨_,_⟩,⟨_,_⟩,_,_⟩:=ox hr32_0
    refine⟨_,Z,?_⟩
    refine q4 H hd18 (dE 6 Z2 (dE 7 Z2 (dE 8 Z2 (r1 10 Z (xst 0 H Z8 ?_)))));intro _ H
    refine q4 H hd18 (dE 11 Z2 (rz (N_K (W_seq (q2 (pe 3 Z ?_))))))
    refine R_case (t:=43) Z ?_ ?_
    ·intro hc35
     try simp only[nrm]at hc35
     refine pe 8 Z (q3 (W_true Z (q2 (o_build bf27 Z Z Z (xst 2 H Z8 ?_)))));intro _ H
     refine aG Z (q3 (W_ret (N_K_ret (N_B_ret (N_K_ret (N_LP_ret (N_B_ret (N_K_ret (ret_gen (rs:=[.cell 4 27,.tmp 5]) (vs:=[_,_]) results11 ⟨⟨_,Z,load_blk 2 H isAgg27 sizeOf27 Z Z Z⟩,Z,trivial⟩ ?_)))))))))
     have H:=H.sel [] rfl
     have hj:Sp.StreamRun d list=none:=Sp.run_dno hz16 hJ1 hc17 (Sp.pdrop_none (by simpa using hc35))
     exact H.retP ⟨[_,_,_],(by rw[hj];rfl),(by rw[hj];exact⟨_,_,_,_,_,_,_,_,_,rfl,(RdS.nil _ _ _),(RdS.nil _ _ _),(RdS.nil _ _ _)⟩)⟩
    intro hc35'
    try simp only[nrm]at hc35'
    refine pe 2 Z (gR Z (iP (k-1) hlist Z3 oM ?_));intro _ _ z37 _ hz37 hE37 hrow37
    obtain⟨_,_,_,rfl,_,hi37,hr37⟩:=hE37;have hy_hi37:_≤16777216:=hi37;have hn_hr37:=hr37.len;have hx_hr37:_≤1099511627776:=hr37.lim
    have hzz37:z16=z37:=Option.some.inj (hz16.symm.trans hz37)
    subst hzz37
    refine gR Z (fA 3 Z (gR Z (lP H hrow37 3 Z2 (gR Z (lN Z (pe 2 Z (q3 ?_)))))))
    refine W_cond Z ?_ ?_
    ·intro hc38
     try simp only[nrm]at hc38
     refine q2 (o_build bf27 Z Z Z (xst 2 H Z8 ?_));intro _ H
     refine aG Z (q3 (W_ret (N_K_ret (N_B_ret (N_K_ret (N_LP_ret (N_B_ret (N_K_ret (ret_gen (rs:=[.cell 4 27,.tmp 5]) (vs:=[_,_]) results11 ⟨⟨_,Z,load_blk 2 H isAgg27 sizeOf27 Z Z Z⟩,Z,trivial⟩ ?_)))))))))
     have H:=H.sel [] rfl
     have hj:Sp.StreamRun d list=none:=Sp.run_dno hz16 hJ1 hc17 (Sp.pdrop_bytes oM)
     exact H.retP ⟨[_,_,_],(by rw[hj];rfl),(by rw[hj];exact⟨_,_,_,_,_,_,_,_,_,rfl,(RdS.nil _ _ _),(RdS.nil _ _ _),(RdS.nil _ _ _)⟩)⟩
    intro hc38'
    try simp only[nrm]at hc38'
    refine W_skip (N_K (W_region (lA 0 3 H Z4 (xst 1 H Z8 ?_))));intro _ H
    refine R_nil (N_B (N_K (W_region (mV Z (o_sub Z Z Z oO (aG Z (R_nil ?_)))))))
    have H:=H.sel [1,2,3] rfl
    refine N_lp (hJ:=⟨k-1,(i-1),_,_,_,((Sp.l14Drop ⟨st,tr,sn⟩ (Sp.bare z16)).getD ⟨[],[],[]⟩).store,((Sp.l14Drop ⟨st,tr,sn⟩ (Sp.bare z16)).getD ⟨[],[],[]⟩).tree,((Sp.l14Drop ⟨st,tr,sn⟩ (Sp.bare z16)).getD ⟨[],[],[]⟩).snaps,_,Z,hle14,H,?inv,Z⟩) (hm:=?hm)
    case hm=>omega
    case inv=>exact⟨by omega,by omega,Sp.dgo hz16 hJ1 hc17 (by simpa using hc35') oM,hr33,hr33',hr33''⟩
   intro hc17'
   try simp only[nrm]at hc17'
   refine W_skip (N_B (N_K (W_region (mV Z (o_sub Z Z Z oO (aG Z (R_nil ?_)))))))
   refine N_lp (hJ:=⟨k-1,(i-1),_,_,_,st,tr,sn,_,Z,hle14,H,?inv,Z⟩) (hm:=?hm)
   case hm=>omega
   case inv=>exact⟨by omega,by omega,Sp.dskip hz16 hJ1 hc17',hst,htr,hsn⟩
  intro hc15'
  try simp only[nrm]at hc15'
  refine W_exit (N_K_exit (N_LP_exit (N_B_same (N_K (W_seq (q2 (aG Z (q3 (W_block ?_)))))))))
  have hJd:Sp.runD d list=some ⟨st,tr,sn⟩:=(by have h0:k=0:=oM;rw[h0,List.drop_zero]at hJ;exact hJ)
  obtain⟨ln43,hln43,H⟩:=H.name (k:=1) rfl
  obtain⟨ln44,hln44,H⟩:=H.name (k:=2) rfl
  refine W_lp (hf:=(Sub.cons (t:=1) Z (Sub.cons (t:=4) Z (Sub.cons (t:=6) Z Sub.nil)))) (J:=fun M w m=>∃(k:Nat) (va vb vc:Value) (sta:List BHeld) (tra:List BItem) (sna:List BSnap) (G:PH),M=[(10,.int .i64 (k:Int))]∧PLe G14 G∧Hp w0 G0 [] w G [blk b8 (cl [va,vb,vc] 27),blk b3 (cl ln43 27),blk b2 (cl ln44 27)]∧(k≤list.length∧Sp.runM (Sp.runD d list) (list.take k)=some ⟨sta,tra,sna⟩∧RdH G va sta∧RdItems G vb tra∧RdSn G vc sna)∧m=(list.length-k)) (h0:=⟨0,_,_,_,st,tr,sn,_,Z,PLe.refl _,H,?inv,Z⟩) (round:=?round)
  case inv=>exact⟨by omega,hJd,hst,htr,hsn⟩
  case round =>
   rintro _ _ _ ⟨k,va,vb,vc,sta,tra,sna,G45,rfl,hle45,H,hinv45,rfl⟩
   subst hln43
   subst hln44
   have hlist:=hlist.up hle45
   obtain⟨hk,hJ,hsta,htra,hsna⟩:=hinv45;have hvn:=Sp.runM_valid (Sp.runD_valid hdv hJd) (by (rw[hJd]at hJ;exact hJ));obtain⟨_,_,rfl⟩:=hsta.shape;have hlhsta:_≤1099511627776:=hsta.lim;obtain⟨_,_,rfl⟩:=htra.shape;have hlhtra:_≤1099511627776:=htra.lim;obtain⟨_,_,rfl⟩:=hsna.shape;have hlhsna:_≤1099511627776:=hsna.lim
   refine W_seq (q2 (pe 2 Z (lN Z (pe 1 Z (q3 ?_)))))
   refine W_cond Z ?_ ?_
   ·intro hc46
    try simp only[nrm]at hc46
    refine W_skip (N_K (W_seq (W_block (q2 (pe 2 Z (iP k hlist Z3 Z ?_))))));intro _ _ z47 _ hz47 hE47 hrow47
    obtain⟨_,_,_,rfl,_,hi47,hr47⟩:=hE47;have hy_hi47:_≤16777216:=hi47;have hn_hr47:=hr47.len;have hx_hr47:_≤1099511627776:=hr47.lim
    refine fA 0 Z (lP H hrow47 0 Z2 (pe 1 Z (q3 ?_)))
    refine W_cond Z ?_ ?_
    ·intro hc48
     try simp only[nrm]at hc48
     refine W_seq (q2 (pe 2 Z (iP k hlist Z3 Z ?_)));intro _ _ z49 _ hz49 hE49 hrow49
     obtain⟨_,_,_,rfl,_,hi49,hr49⟩:=hE49;have hy_hi49:_≤16777216:=hi49;have hn_hr49:=hr49.len;have hx_hr49:_≤1099511627776:=hr49.lim
     have hzz49:z47=z49:=Option.some.inj (hz47.symm.trans hz49)
     subst hzz49
     refine fA 0 Z (lP H hrow49 0 Z2 (xr H Z2 (l6In_c _ _ _ _) ?_));intro _ H
     refine pe 1 Z (q3 ?_)
     refine W_cond Z ?_ ?_
     ·intro hc51
      try simp only[nrm]at hc51
      refine q2 (o_build bf27 Z Z Z (xst 1 H Z8 ?_));intro _ H
      refine aG Z (q3 (W_ret (N_K_ret (N_B_ret (N_K_ret (N_LP_ret (N_B_ret (N_K_ret (ret_gen (rs:=[.cell 4 27,.tmp 5]) (vs:=[_,_]) results11 ⟨⟨_,Z,load_blk 1 H isAgg27 sizeOf27 Z Z Z⟩,Z,trivial⟩ ?_)))))))))
      have H:=H.dl 0
      have H:=H.dl 0
      have H:=H.dl 0
      have hj:Sp.StreamRun d list=none:=Sp.mkind hz47 hJ hc48 (by simpa using hc51)
      exact H.retP ⟨[_,_,_],(by rw[hj];rfl),(by rw[hj];exact⟨_,_,_,_,_,_,_,_,_,rfl,(RdS.nil _ _ _),(RdS.nil _ _ _),(RdS.nil _ _ _)⟩)⟩
     intro hc51'
     try simp only[nrm]at hc51'
     refine W_skip (N_K (W_seq (W_drawK [0,1,2] 12 H kR Z ?_)));intro _ H;have hd53:=PLe.refl G45
     refine RD_t 0 Z kR Z (fun _ hK=>v_loadagg_B 0 hK isAgg27 sizeOf27 Z Z Z Z) (dE 1 Z2 (dE 2 Z2 ?_))
     have hl54:=hlist.len
     obtain⟨_,_,z54,_,ha54,hz54,hq54,hE54,hrow54,_⟩:=hlist.at (i:=k) oM
     clear hq54
     obtain⟨_,_,_,rfl,_,hi54,hr54⟩:=hE54;have hy_hi54:_≤16777216:=hi54;have hn_hr54:=hr54.len;have hx_hr54:_≤1099511627776:=hr54.lim
     have hzz54:z47=z54:=Option.some.inj (hz47.symm.trans hz54)
     subst hzz54
     refine dI 3 4 k ha54 Z3 Z (RD_t 4 Z kR Z (fun _ hK=>v_loadagg_P hK isAgg39 sizeOf39 Z hrow54 Z) ?_)
     refine r2 5 9 Z2 ?_ ?_
     ·skip
      refine xc Z2 (l14MakeP_c _ _ H.sub _ ⟨sta,tra,sna⟩ ⟨_,_,_,_,_,_,_,_,_,Z,hsta,htra,hsna⟩ _ z47 ⟨_,_,_,Z,⟨by first|omega|(dsimp only;omega),by first|omega|(dsimp only;omega)⟩,hi54,hr54⟩ hvn (Sp.kind13 hc48 (by simpa using hc51'))) ?_
      rintro _ _ ⟨_,_,g55,rfl,_,rfl,hr55_0⟩
      have H:=H.grow g55
      have hle45:=hle45.trans g55.le
      have hd53:=hd53.trans g55.le
      obtain⟨_,_,_,_,_,_,_,_,_,rfl,hr56,hr56',hr56'',⟨_,_⟩,⟨_,_⟩,_,_⟩:=ox hr55_0
      refine⟨_,Z,?_⟩
      refine q4 H hd53 (dE 6 Z2 (dE 7 Z2 (dE 8 Z2 (r1 9 Z (xal H Z ?_)))));intro _ _ _ H
      refine q4 H hd53 (r1 10 Z (xst 0 H Z8 ?_));intro _ H
      refine q4 H hd53 (dE 11 Z2 (rz (N_K (W_seq (q2 (pe 2 Z (q3 ?_)))))))
      refine W_cond Z ?_ ?_
      ·intro hc59
       try simp only[nrm]at hc59
       refine q2 (o_build bf27 Z Z Z (xst 2 H Z8 ?_));intro _ H
       refine aG Z (q3 (W_ret (N_K_ret (N_B_ret (N_K_ret (N_LP_ret (N_B_ret (N_K_ret (ret_gen (rs:=[.cell 4 27,.tmp 5]) (vs:=[_,_]) results11 ⟨⟨_,Z,load_blk 2 H isAgg27 sizeOf27 Z Z Z⟩,Z,trivial⟩ ?_)))))))))
       have H:=H.sel [] rfl
       have hj:Sp.StreamRun d list=none:=Sp.run_mno hz47 hJ hc48 (by simpa using hc59)
       exact H.retP ⟨[_,_,_],(by rw[hj];rfl),(by rw[hj];exact⟨_,_,_,_,_,_,_,_,_,rfl,(RdS.nil _ _ _),(RdS.nil _ _ _),(RdS.nil _ _ _)⟩)⟩
      intro hc59'
      try simp only[nrm]at hc59'
      refine W_skip (N_K (W_region (lA 0 3 H Z4 (xst 1 H Z8 ?_))));intro _ H
      refine R_nil (N_B (N_K (W_region (mV Z (aD Z2 (aG Z (R_nil ?_)))))))
      have H:=H.sel [1,2,3] rfl
      refine N_lp (hJ:=⟨k+1,_,_,_,((Sp.l14Make ⟨sta,tra,sna⟩ z47).getD ⟨[],[],[]⟩).store,((Sp.l14Make ⟨sta,tra,sna⟩ z47).getD ⟨[],[],[]⟩).tree,((Sp.l14Make ⟨sta,tra,sna⟩ z47).getD ⟨[],[],[]⟩).snaps,_,Z,hle45,H,?inv,Z⟩) (hm:=?hm)
      case hm=>omega
      case inv=>exact⟨by omega,Sp.mgo hz47 hJ hc48 (by simpa using hc59'),hr56,hr56',hr56''⟩
     skip
     refine xal H Z ?_;intro _ _ _ H
     refine q4 H hd53 (r1 5 Z ?_)
     refine xc Z2 (l14MakeP_c _ _ H.sub _ ⟨sta,tra,sna⟩ ⟨_,_,_,_,_,_,_,_,_,Z,hsta,htra,hsna⟩ _ z47 ⟨_,_,_,Z,⟨by first|omega|(dsimp only;omega),by first|omega|(dsimp only;omega)⟩,hi54,hr54⟩ hvn (Sp.kind13 hc48 (by simpa using hc51'))) ?_
     rintro _ _ ⟨_,_,g64,rfl,_,rfl,hr64_0⟩
     have H:=H.grow g64
     have hle45:=hle45.trans g64.le
     have hd53:=hd53.trans g64.le
     obtain⟨_,_,_,_,_,_,_,_,_,rfl,hr65,hr65',hr65'',⟨_,_⟩,⟨_,_⟩,_,_⟩:=ox hr64_0
     refine⟨_,Z,?_⟩
     refine q4 H hd53 (dE 6 Z2 (dE 7 Z2 (dE 8 Z2 (r1 10 Z (xst 0 H Z8 ?_)))));intro _ H
     refine q4 H hd53 (dE 11 Z2 (rz (N_K (W_seq (q2 (pe 2 Z (q3 ?_)))))))
     refine W_cond Z ?_ ?_
     ·intro hc67
      try simp only[nrm]at hc67
      refine q2 (o_build bf27 Z Z Z (xst 2 H Z8 ?_));intro _ H
      refine aG Z (q3 (W_ret (N_K_ret (N_B_ret (N_K_ret (N_LP_ret (N_B_ret (N_K_ret (ret_gen (rs:=[.cell 4 27,.tmp 5]) (vs:=[_,_]) results11 ⟨⟨_,Z,load_blk 2 H isAgg27 sizeOf27 Z Z Z⟩,Z,trivial⟩ ?_)))))))))
      have H:=H.sel [] rfl
      have hj:Sp.StreamRun d list=none:=Sp.run_mno hz47 hJ hc48 (by simpa using hc67)
      exact H.retP ⟨[_,_,_],(by rw[hj];rfl),(by rw[hj];exact⟨_,_,_,_,_,_,_,_,_,rfl,(RdS.nil _ _ _),(RdS.nil _ _ _),(RdS.nil _ _ _)⟩)⟩
     intro hc67'
     try simp only[nrm]at hc67'
     refine W_skip (N_K (W_region (lA 0 3 H Z4 (xst 1 H Z8 ?_))));intro _ H
     refine R_nil (N_B (N_K (W_region (mV Z (aD Z2 (aG Z (R_nil ?_)))))))
     have H:=H.sel [1,2,3] rfl
     refine N_lp (hJ:=⟨k+1,_,_,_,((Sp.l14Make ⟨sta,tra,sna⟩ z47).getD ⟨[],[],[]⟩).store,((Sp.l14Make ⟨sta,tra,sna⟩ z47).getD ⟨[],[],[]⟩).tree,((Sp.l14Make ⟨sta,tra,sna⟩ z47).getD ⟨[],[],[]⟩).snaps,_,Z,hle45,H,?inv,Z⟩) (hm:=?hm)
     case hm=>omega
     case inv=>exact⟨by omega,Sp.mgo hz47 hJ hc48 (by simpa using hc67'),hr65,hr65',hr65''⟩
    intro hc48'
    try simp only[nrm]at hc48'
    refine W_skip (N_B (N_K (W_region (mV Z (aD Z2 (aG Z (R_nil ?_)))))))
    refine N_lp (hJ:=⟨k+1,_,_,_,sta,tra,sna,_,Z,hle45,H,?inv,Z⟩) (hm:=?hm)
    case hm=>omega
    case inv=>exact⟨by omega,Sp.mskip hz47 hJ (by simpa using hc48'),hsta,htra,hsna⟩
   intro hc46'
   try simp only[nrm]at hc46'
   refine W_exit (N_K_exit (N_LP_exit (N_B_same (N_K (q2 (lA 0 3 H Z4 (xst 1 H Z8 ?_)))))));intro _ H
   refine aG Z (q3 (W_ret (ret_gen (rs:=[.cell 4 27,.tmp 5]) (vs:=[_,_]) results11 ⟨⟨_,Z,load_blk 1 H isAgg27 sizeOf27 Z Z Z⟩,Z,trivial⟩ ?_)))
   have H:=H.dl 0
   have H:=H.dl 0
   have H:=H.dl 0
   have hj:Sp.StreamRun d list=some ⟨sta,tra,sna⟩:=Sp.run_done hdv hJ oM
   exact H.retP ⟨[_,_,_],(by rw[hj];rfl),(by rw[hj];exact⟨_,_,_,_,_,_,_,_,_,rfl,hsta,htra,hsna⟩)⟩
end Go.Proofs.Tst
namespace Fw
open Go Go.Conc
def RC (P:Program)(n:Nat)(ops:Array Oper)(Q:Post)(l:List Nat)(L:Slots)(ds:List Deferred)(w:World):Prop :=
 ∀a,FrL n L ds a→∀(b:Frame) (k:List Item) (cs:List Frame),∃e a' w',Q e a' w'∧Arrives P (lone (b.at a (.inRegion ops l::k)) cs w) b k cs e a' w'
section
variable {P:Program} {n:Nat} {Q:Post} {L:Slots} {ds:List Deferred} {w:World} {l:List Oper}
theorem W_regionC {id:Nat}(rs:List Nat)(hr:List.range l.length=rs)(h:RC P n l.toArray Q rs L ds w):W P n Q (.region id l.toArray false) L ds w:=by
 intro a ha b k cs
 obtain⟨e,a',w',q,r⟩:=h a ha b k cs
 refine⟨e,a',w',q,.of_steps (.one step_region) ?_⟩
 have:List.range l.toArray.size=rs:=by simpa using hr
 rw[this];exact r
theorem RC_nil {ops:Array Oper}(h:N n Q .normal L ds w):RC P n ops Q [] L ds w:=fun a ha _ _ _=>⟨.normal,a,w,h a ha,.one step_region_end⟩
variable {ty:TypeId} {ps:String} {af:Array Edge} {rest:List Nat} {i:Nat}
theorem RC_send {x y:Operand}{v:Value}{c cap s r:Nat}{buf:Array Value}{tm:Bool}(hi:nth l i=some ⟨none,.send x y,ty,ps,af,none⟩)
  (hx:od L x=some (.chan (some c))) (hy:od L y=some v) (hc:w.heap[c]? = some (.chan cap buf false s r tm)) (hroom:buf.size<cap)
  (h:RC P n l.toArray Q rest L ds (w.setChan c cap (buf.push v) false (s+1) r tm)):RC P n l.toArray Q (i::rest) L ds w:=by
 intro a ha b k cs
 have ho:l.toArray[i]? = some ⟨none,.send x y,ty,ps,af,none⟩:=by rw[nth_eq]at hi;simpa using hi
 obtain⟨e,a',w'',q,r'⟩:=h a ha b k cs
 refine⟨e,a',w'',q,.of_steps (.one ?_) r'⟩
 have hg:=stepG_op (P:=P) (b:=b) (a:=a) (k:=k) (cs:=cs) (w:=w) (rest:=rest) ho (by simp[Region.wanted])
 have hfin:(b.at a (.inRegion l.toArray (i::rest)::k)).finish undef=b.at a (.inRegion l.toArray rest::k):=by
  rw[Frame.finish_at,ho];rfl
 have hst:=step_lone_send_room (P:=P) (fr:=b.at a (.inRegion l.toArray (i::rest)::k)) (cs:=cs) (w:=w) (w₁:=w) (c:=c) (cap:=cap) (s:=s) (r:=r) (buf:=buf) (v:=v) (z':= .tuple #[]) (tm:=tm)
  (by unfold G;rw[hg];simp[stepG.apply,execOp,scase,ha.eval hx,ha.eval hy];rfl) hc hroom
 rw[hfin]at hst
 exact hst
def QC (P:Program)(ops:Array Oper)(Q:Post)(rest:List Nat):Post
 | .normal,a,w=>∀(b:Frame) (k:List Item) (cs:List Frame),∃e a' w',Q e a' w'∧Arrives P (lone (b.at a (.inRegion ops rest::k)) cs w) b k cs e a' w'
 | e,a,w=>Q e a w
theorem N_C {rest:List Nat}{ops:Array Oper}(h:RC P n ops Q rest L ds w):N n (QC P ops Q rest) .normal L ds w:=h
theorem RC_l {o:Oper}{i:Nat}{rest:List Nat}(hi:nth l i=some o)(h:R P n l.toArray (QC P l.toArray Q rest) [o] L ds w):RC P n l.toArray Q (i::rest) L ds w:=by
 intro a ha b k cs
 have ho:l.toArray[i]? = some o:=by rw[nth_eq]at hi;simpa using hi
 have h1:=h a ha
 unfold wpList at h1
 have fin:∀v,(b.at a (.inRegion l.toArray (i::rest)::k)).finish v=b.at (a.put o.dst v) (.inRegion l.toArray rest::k):=fun v=>by rw[Frame.finish_at,ho];rfl
 have on:∀{a1 w1},wpList P l.toArray (QC P l.toArray Q rest) [] a1 w1→step P (lone (b.at a (.inRegion l.toArray (i::rest)::k)) cs w)= .next (lone (b.at a1 (.inRegion l.toArray rest::k)) cs w1) →
   ∃e a' w',Q e a' w'∧Arrives P (lone (b.at a (.inRegion l.toArray (i::rest)::k)) cs w) b k cs e a' w':=by
  intro a1 w1 h2 hs
  unfold wpList at h2
  obtain⟨e,a',w',q,r⟩:=h2 b k cs
  exact⟨e,a',w',q,.of_steps (.one hs) r⟩
 by_cases hw:Region.wanted o (yielded l.toArray a.tmps)=true
 ·rw[if_pos hw]at h1
  have hg:=stepG_op (P:=P) (b:=b) (a:=a) (k:=k) (cs:=cs) (w:=w) (rest:=rest) ho hw
  rcases h1 with h1|⟨hasks,a0,w0,q⟩
  ·unfold Oper.wp at h1
   cases hr:(execOp a.eval o).run P w with
   | ok x w1 =>
    rw[hr]at h1
    cases x with
    | value v=>exact on h1 (step_lone_go (by rw[hg,←fin];simp[stepG.apply,hr]))
    | skip=>exact on h1 (step_lone_go (by rw[hg,←fin];simp[stepG.apply,hr]))
    | enter f args =>
     obtain⟨e,w2,fr,hR,hs,_,hl⟩:=h1 (b.at a (.inRegion l.toArray (i::rest)::k)::cs)
     have he:step P (lone (b.at a (.inRegion l.toArray (i::rest)::k)) cs w)= .next (lone (Frame.enter P f args .normal) (b.at a (.inRegion l.toArray (i::rest)::k)::cs) w1) :=
      step_lone_go (by rw[hg];simp[stepG.apply,hr,Frame.at])
     cases e with
     | returned v =>
      unfold wpList at hR
      obtain⟨e,a',w',q,r⟩:=hR b k cs
      refine⟨e,a',w',q,.of_steps (.head he (hs.trans (.one ?_))) r⟩
      rw[←fin];exact step_leave_returned hl
     | panicked chain =>
      refine⟨.panic chain,a,w2,hR,.inRegion l.toArray (i::rest)::k,.head he (hs.trans (.one ?_))⟩
      rw[←Frame.raise_at];exact step_leave_panicked hl
     | outgrown =>
      obtain⟨a0,w0,q⟩:=hR
      exact⟨.outgrown,a0,w0,q,.inr (Outgrown.of_steps (.one he) hs)⟩
    | row row args =>
     obtain⟨v,w2,hR,hs⟩:=h1 (b.at a (.inRegion l.toArray (i::rest)::k)) cs
     have he:step P (lone (b.at a (.inRegion l.toArray (i::rest)::k)) cs w)= .next (lone (Frame.ofRow P row args .normal) (b.at a (.inRegion l.toArray (i::rest)::k)::cs) w1) :=
      step_lone_go (by rw[hg];simp[stepG.apply,hr,Frame.at])
     unfold wpList at hR
     obtain⟨e,a',w',q,r⟩:=hR b k cs
     refine⟨e,a',w',q,.of_steps (.head he ?_) r⟩
     rw[←fin];exact hs
    | defer d =>
     refine on h1 (step_lone_go ?_)
     have hf:=Frame.finish_at b {a with defers:=d::a.defers} l.toArray i rest k undef
     rw[ho]at hf
     rw[hg];simp only[stepG.apply,Sem.runT_eq,hr,GStep.bare_after]
     exact congrArg (fun fr=>GStep.go {frame:=fr,callers:=cs,status:= .running,dying:=none} w1) hf
    | _=>exact h1.elim
   | halt x w1 =>
    rw[hr]at h1
    cases x with
    | panic v =>
     refine⟨_,a,w1,h1,.inRegion l.toArray (i::rest)::k,.one (step_lone_go ?_)⟩
     rw[hg,←Frame.raise_at];simp[stepG.apply,hr]
    | _=>exact h1.elim
  ·by_cases hk:b.kind= .early
   ·exact⟨.outgrown,a0,w0,q,.inl hk⟩
   ·exact⟨.outgrown,a0,w0,q,.inr (asks_outgrown ho hw hk hasks)⟩
 ·rw[if_neg hw]at h1
  refine on h1 ?_
  have hs:=step_op_skip (P:=P) (b:=b) (a:=a) (k:=k) (cs:=cs) (w:=w) (ops:=l.toArray) (i:=i) (rest:=rest) (by simp[ho];simpa using hw)
  simpa only[ho,Option.bind_some] using hs
def rgot (ok:Bool)(v:Value)(o:Bool):Value:=if ok then .tuple #[v,.bool o] else v
theorem recv_step {d t:Nat}{x:Operand}{v z:Value}{c:Nat}{ok:Bool}{w1:World}(hi:nth l i=some ⟨some d,.recv t x ok,ty,ps,af,none⟩)(hd:Nat.blt d n=true)
  (hx:od L x=some (.chan (some c))) {dir:ChanDir} {el:TypeId} (ht:P.underlying t=some (.chan dir el)) (hz:(zeroValue el).run P w= .ok z w)
  (hs:∀(fr:Frame) (cs:List Frame) (es:Array Event),stepG P true (Go.Conc.G fr cs) w= .comm (Go.Conc.G fr cs) #[rcase c z] true (.recv ok) w es→step P (solo (Go.Conc.G fr cs) w)= .next (solo (Go.Conc.G (fr.finish v) cs) w1))
  (h:RC P n l.toArray Q rest ((d,v)::L) ds w1):RC P n l.toArray Q (i::rest) L ds w:=by
 intro a ha b k cs
 have ho:l.toArray[i]? = some ⟨some d,.recv t x ok,ty,ps,af,none⟩:=by rw[nth_eq]at hi;simpa using hi
 obtain⟨e,a',w'',q,r'⟩:=h _ (ha.put hd v) b k cs
 refine⟨e,a',w'',q,.of_steps (.one ?_) r'⟩
 have hg:=stepG_op (P:=P) (b:=b) (a:=a) (k:=k) (cs:=cs) (w:=w) (rest:=rest) ho (by simp[Region.wanted])
 have hfin:(b.at a (.inRegion l.toArray (i::rest)::k)).finish v=b.at (a.put (some d) v) (.inRegion l.toArray rest::k):=by
  rw[Frame.finish_at,ho];rfl
 have hst:=hs (b.at a (.inRegion l.toArray (i::rest)::k)) cs _ (by unfold Go.Conc.G;rw[hg];simp[stepG.apply,execOp,rcase,ha.eval hx,run_underlying ht,hz];rfl)
 rw[hfin]at hst
 exact hst
theorem RC_recv {d t:Nat}{x:Operand}{v z:Value}{c cap s r:Nat}{buf:Array Value}{cl tm ok:Bool}(hi:nth l i=some ⟨some d,.recv t x ok,ty,ps,af,none⟩)(hd:Nat.blt d n=true)
  (hx:od L x=some (.chan (some c))) {dir:ChanDir} {el:TypeId} (ht:P.underlying t=some (.chan dir el)) (hz:(zeroValue el).run P w= .ok z w)
  (hc:w.heap[c]? = some (.chan cap buf cl s r tm)) (hv:buf[0]? = some v)
  (h:RC P n l.toArray Q rest ((d,rgot ok v true)::L) ds (w.setChan c cap (buf.extract 1 buf.size) cl s (r+1) tm)):RC P n l.toArray Q (i::rest) L ds w:=by
 have hp:0<buf.size:=(Array.getElem?_eq_some_iff.1 hv).1
 have hb:buf.getD 0 undef=v:=by simp[Array.getD_eq_getD_getElem?,hv]
 refine recv_step hi hd hx ht hz (fun fr cs es hs=>?_) h
 have:=step_lone_recv_buf ok hs hc hp
 rw[hb]at this
 exact this
theorem RC_recvz {d t:Nat}{x:Operand}{z:Value}{c cap s r:Nat}{tm ok:Bool}(hi:nth l i=some ⟨some d,.recv t x ok,ty,ps,af,none⟩)(hd:Nat.blt d n=true)
  (hx:od L x=some (.chan (some c))) {dir:ChanDir} {el:TypeId} (ht:P.underlying t=some (.chan dir el)) (hz:(zeroValue el).run P w= .ok z w)
  (hc:w.heap[c]? = some (.chan cap #[] true s r tm))
  (h:RC P n l.toArray Q rest ((d,rgot ok z false)::L) ds w):RC P n l.toArray Q (i::rest) L ds w :=
 recv_step hi hd hx ht hz (fun _ _ _ hs=>step_lone_recv_shut ok hs hc) h
end
def chn (c cap:Nat)(vs:List Value)(cl:Bool)(s r:Nat):Res:=blk c (.chan cap vs.toArray cl s r false)
section
variable {w0 w:World} {G0 G:PH} {S:List Nat} {B:List Res}
theorem Hp.chAt (H:Hp w0 G0 S w G B){k c cap s r:Nat}{vs:List Value}{cl:Bool}(hk:nth B k=some (chn c cap vs cl s r)):w.heap[c]? = some (.chan cap vs.toArray cl s r false):=H.at hk
theorem Hp.chSet (H:Hp w0 G0 S w G B){k c cap s r:Nat}{vs:List Value}{cl:Bool}(hk:nth B k=some (chn c cap vs cl s r))(cap':Nat)(vs':List Value)(cl':Bool)(s' r':Nat){w':World}
  (hw:w'={w with heap:=w.heap.setIfInBounds c (.chan cap' vs'.toArray cl' s' r' false)}):Hp w0 G0 S w' G (setN B k (chn c cap' vs' cl' s' r')):=by
 subst hw
 have hc:=H.chAt hk
 have hlt:c<w.heap.size:=(Array.getElem?_eq_some_iff.1 hc).1
 refine H.upd (w':={w with heap:=w.heap.setIfInBounds c (.chan cap' vs'.toArray cl' s' r' false)}) hk rfl rfl rfl (by simp) (fun b hb hn=>?_) (chn c cap' vs' cl' s' r') ?_ (fun b hb=> .inl hb) (by simp[chn,blk])
 ·have:b≠c:=fun e=>hn (by simp[chn,blk,e])
  show(w.heap.setIfInBounds c _)[b]? = _
  rw[Array.getElem?_setIfInBounds_ne (Ne.symm this)]
 ·show(w.heap.setIfInBounds c _)[c]? = some _
  simp[hlt]
variable {P:Program} {n:Nat} {Q:Post} {L:Slots} {ds:List Deferred} {l:List Oper} {ty:TypeId} {ps:String} {af:Array Edge} {rest:List Nat} {i:Nat}
theorem o_mkchan (H:Hp w0 G0 S w G B){ops:Array Oper}{rest:List Oper}{d m:Nat}{t el:TypeId}{x:Operand}{dir:ChanDir}{inf:TypeInfo}(ht:P.underlying t=some (.chan dir el))(hi:∀w,(typeInfo el).run P w= .ok inf w)(hd:Nat.blt d n=true)(hx:od L x=some (.int .i64 m))
  (hm:inf.bytes*m≤281474976710544) (h63:m≤1099511627776)
  (next:∀c w',w.heap.size≤c→Hp w0 G0 S w' G (chn c m [] false 0 0::B)→R P n ops Q rest ((d,.chan (some c))::L) ds w'):R P n ops Q (⟨some d,.makeChan t x,ty,ps,af,none⟩::rest) L ds w :=
 R_run (w' := w.alloc (.chan m #[] false 0 0 false)) hd (fun a ha => by
  have h3:((inf.bytes*m:Nat):Int)≤281474976710544:=by omega
  rw[Int.natCast_mul]at h3
  have n1:¬((m:Int)<0):=by omega
  have n2:¬(9223372036854775807<(m:Int)):=by omega
  have n3:¬(281474976710544<(inf.bytes:Int)*m):=by omega
  simp[execOp,ha.eval hx,Instr.makeChan,asInt,asIntOf,run_underlying ht,hi,n1,n2,n3,IntKind.max,IntKind.bits,IntKind.signed]) (next w.heap.size _ (Nat.le_refl _) (H.add (Ext.alloc w _) (chn w.heap.size m [] false 0 0) (alloc_new w _) (by simp[chn,blk]) (by simp[chn,blk])))
theorem c_send (H:Hp w0 G0 S w G B)(k:Nat){x y:Operand}{v:Value}{c cap s r:Nat}{vs:List Value}(hi:nth l i=some ⟨none,.send x y,ty,ps,af,none⟩)
  (hk:nth B k=some (chn c cap vs false s r)) (hx:od L x=some (.chan (some c))) (hy:od L y=some v) (hroom:vs.length<cap)
  (next:∀w',Hp w0 G0 S w' G (setN B k (chn c cap (vs++[v]) false (s+1) r))→RC P n l.toArray Q rest L ds w'):RC P n l.toArray Q (i::rest) L ds w :=
 RC_send hi hx hy (H.chAt hk) (by simpa using hroom) (next _ (H.chSet hk cap (vs++[v]) false (s+1) r (by simp[World.setChan])))
theorem c_recv (H:Hp w0 G0 S w G B)(k:Nat){d t:Nat}{x:Operand}{v z:Value}{c cap s r:Nat}{vs:List Value}{cl:Bool}(hi:nth l i=some ⟨some d,.recv t x true,ty,ps,af,none⟩)(hd:Nat.blt d n=true)
  (hk:nth B k=some (chn c cap (v::vs) cl s r)) (hx:od L x=some (.chan (some c))) {dir:ChanDir} {el:TypeId} (ht:P.underlying t=some (.chan dir el)) (hz:∀w,(zeroValue el).run P w= .ok z w)
  (next:∀w',Hp w0 G0 S w' G (setN B k (chn c cap vs cl s (r+1)))→RC P n l.toArray Q rest ((d,.tuple #[v,.bool true])::L) ds w'):RC P n l.toArray Q (i::rest) L ds w :=
 RC_recv hi hd hx ht (hz w) (H.chAt hk) (by simp) (next _ (H.chSet hk cap vs cl s (r + 1) (by
  simp only[World.setChan]
  congr 2
  simp)))
theorem c_recvz (H:Hp w0 G0 S w G B)(k:Nat){d t:Nat}{x:Operand}{z:Value}{c cap s r:Nat}(hi:nth l i=some ⟨some d,.recv t x true,ty,ps,af,none⟩)(hd:Nat.blt d n=true)
  (hk:nth B k=some (chn c cap [] true s r)) (hx:od L x=some (.chan (some c))) {dir:ChanDir} {el:TypeId} (ht:P.underlying t=some (.chan dir el)) (hz:∀w,(zeroValue el).run P w= .ok z w)
  (h:RC P n l.toArray Q rest ((d,.tuple #[z,.bool false])::L) ds w):RC P n l.toArray Q (i::rest) L ds w :=
 RC_recvz hi hd hx ht (hz w) (H.chAt hk) h
theorem o_load_D {X:PH}(hs:PSub X w){ops:Array Oper}{rest:List Oper}{d:Nat}{t:TypeId}{x:Operand}{b o:Nat}{v:Value}(hA:∀w,(isAgg t).run P w= .ok false w)(hd:Nat.blt d n=true)(hx:od L x=some (.pointer (some ⟨b,o,none⟩)))(hc:PCell X b o v)
  (next:R P n ops Q rest ((d,v)::L) ds w):R P n ops Q (⟨some d,.load t x,ty,ps,af,none⟩::rest) L ds w :=
 R_run hd (fun a ha => by
  have:=hc.cell hs
  simp[execOp,Instr.loadAt,ha.eval hx,Instr.sureAddr,loadVar,hA,this]) next
end
def bodyPostC (P:Program)(fn:Func)(R:Ending→World→Prop):Post
 | .ret, a, w => ∃ ats ty cst c cap s r, ∃ buf : Array Value, a.defers = [⟨.builtin .close ats ty cst, #[.chan (some c)]⟩] ∧ w.heap[c]? = some (.chan cap buf false s r false) ∧
   ∃ v, (results fn a.tmps).run P { w with heap := w.heap.setIfInBounds c (.chan cap buf true s r false) } = .ok v { w with heap := w.heap.setIfInBounds c (.chan cap buf true s r false) } ∧
    R (.returned v) {w with heap:=w.heap.setIfInBounds c (.chan cap buf true s r false)}
 | .outgrown,_,w=>R .outgrown w
 | _,_,_=>False
theorem calls_of_WC {P:Program}{f:FuncId}{fn:Func}{c:Code}{l:List Value}{w:World}{R:Ending→World→Prop}{n:Nat}
  (hf:P.funcs[f]? = some fn) (hb:fn.body=some c) (hn:fn.ntmps=n) (hl:Nat.ble l.length n=true)
  (h:W P n (bodyPostC P fn R) c (initL 0 l) [] w):Calls P f l.toArray w R:=by
 intro cs
 let b:Frame:={(default:Frame) with fn:=f,kind:= .normal}
 have henter : Frame.enter P f l.toArray .normal = b.at { tmps := l.toArray ++ Array.replicate (fn.ntmps - l.toArray.size) undef, defers := [] } [.code c] := by
  simp[Frame.enter,Frame.at,hf,hb,b]
 have h0 : FrL n (initL 0 l) [] { tmps := l.toArray ++ Array.replicate (fn.ntmps - l.toArray.size) undef, defers := [] } := by
  refine⟨?_,?_,rfl⟩
  ·have:l.length≤n:=by simpa using hl
   simp[hn];omega
  ·intro t v hv
   obtain⟨_,h2⟩:=lk_initL l 0 t v hv
   have hlt:t<l.length:=by
    have:=List.getElem?_eq_some_iff.1 h2
    obtain⟨h,_⟩:=this
    simpa using h
   simp only[Nat.sub_zero]at h2
   rw[Array.getElem?_append_left (by simpa using hlt)]
   simpa using h2
 obtain⟨e,a',w',hq,harr⟩:=h _ h0 b [] cs
 rw[←henter]at harr
 cases e with
 | ret =>
  obtain⟨ats,ty,cst,c,cap,s,r,buf,hd,hc,v,hr,hR⟩:=hq
  obtain⟨todo,hs⟩:=harr
  refine⟨.returned v,_,{b.at a' todo with mode:= .returning,defers:=[]},hR,Steps.trans hs (.one (step_lone_go ?_)),rfl,rfl,rfl,rfl,fn,hf,hr⟩
  have:=run_close_open (P:=P) (w:=w') ats ty hc
  simp[stepG,unwind,callDeferred,Frame.at,hd,invoke,builtin,this]
 | normal=>exact hq.elim
 | panic chain=>exact hq.elim
 | exit id=>exact hq.elim
 | goto l=>exact hq.elim
 | outgrown=>exact⟨.outgrown,w',b,hq,harr.resolve_left (by simp[b]),rfl,trivial⟩
section
variable {P:Program} {n:Nat} {ops:Array Oper} {Q:Post} {rest:List Oper} {L:Slots} {ds:List Deferred} {w w0:World} {G0:PH} {S:List Nat} {G:PH} {B:List Res}
variable {ty:TypeId} {ps:String} {af:Array Edge}
theorem o_deferclose {x:Operand}{v:Value}{ts:Array TypeId}(hx:od L x=some v)
  (next:∀cst,R P n ops Q rest L (⟨.builtin .close ts ty cst,#[v]⟩::ds) w):R P n ops Q (⟨none,.defer ⟨.builtin .close,#[x],ts⟩,ty,ps,af,none⟩::rest) L ds w:=by
 intro a ha
 refine wpList_plain rfl fun K hK=>?_
 obtain⟨cst,hr⟩:∃cst,(execOp a.eval ⟨none,.defer ⟨.builtin .close,#[x],ts⟩,ty,ps,af,none⟩).run P w= .ok (.defer ⟨.builtin .close ts ty cst,#[v]⟩) w :=
  ⟨_,by simp[execOp,resolve,ha.eval hx];rfl⟩
 unfold Oper.wp
 rw[hr,Oper.upon_defer]
 exact hK _ _ (next cst _ ⟨ha.size,ha.get,by simp[Act.put,ha.defers]⟩)
theorem ret_close (k:Nat)(H:Hp w0 G0 S w G B){fn:Func}{C:Ending→World→Prop}{c cap s r:Nat}{vs:List Value}{ats:Array TypeId}{cst:Array Bool}{rs:List ResultVar}(hk:nth B k=some (chn c cap vs false s r))(hr:fn.results=rs.toArray)
  (next:∀w',Hp w0 G0 S w' G (setN B k (chn c cap vs true s r))→∃us,RV P w' L rs us∧C (.returned (tupleOf us)) w') :
  N n (bodyPostC P fn C) .ret L [⟨.builtin .close ats ty cst,#[.chan (some c)]⟩] w:=by
 intro a ha
 have H':=H.chSet hk cap vs true s r rfl
 obtain⟨us,h1,h2⟩:=next _ H'
 exact⟨ats,ty,cst,c,cap,s,r,vs.toArray,ha.defers,H.chAt hk,_,run_results' hr ⟨ha.size,ha.get,rfl⟩ h1,h2⟩
end
def CV {α:Type}(V:PH→α→Value→Prop)(G:PH)(vs:List Value)(xs:List α):Prop:=All2 (fun v x=>V G x v) vs xs
section
variable {α:Type} {V:PH→α→Value→Prop} {G G':PH} {vs:List Value} {l:List α} {k:Nat} {v:Value} {x:α}
theorem CV.len (h:CV V G vs l):vs.length=l.length:=All2.len h
theorem CV.snoc (h:CV V G vs l)(hx:V G x v):CV V G (vs++[v]) (l++[x]):=All2.snoc h hx
theorem CV.nil_len (h:CV V G [] (l.drop k)):l.length≤k:=by
 have:=h.len
 simp only[List.length_nil,List.length_drop]at this
 omega
theorem CV.pop (h:CV V G (v::vs) (l.drop k)):∃x,l[k]? = some x∧V G x v∧CV V G vs (l.drop (k+1)):=by
 generalize e:l.drop k=m at h
 cases h with
 | cons hx hr =>
  rename_i x r
  have hk:k<l.length:=by
   rcases Nat.lt_or_ge k l.length with h|h
   ·exact h
   ·rw[List.drop_eq_nil_of_le h]at e;cases e
  rw[List.drop_eq_getElem_cons hk]at e
  injection e with e1 e2
  exact⟨x,by rw[List.getElem?_eq_getElem hk,e1],hx,by rw[e2];exact hr⟩
theorem CV.mono (hm:∀x v,V G x v→V G' x v)(h:CV V G vs l):CV V G' vs l:=by
 induction h with
 | nil=>exact .nil
 | cons h _ ih=>exact .cons (hm _ _ h) ih
end
def partV:PH→BPart→Value→Prop:=fun G x v=>∃cs,v= .agg cs.toArray∧partE G x cs
theorem CV.up {G G':PH}{vs:List Value}{l:List BPart}(h:CV partV G vs l)(hle:PLe G G'):CV partV G' vs l:=h.mono (fun _ _ ⟨cs,e,hE⟩=>⟨cs,e,MonoE.up (E:=partE) hle hE⟩)
def JPQ (n:Nat)(ds:List Deferred)(Lf:Slots)(J:Slots→World→Prop)(Q:Post):Post
 | .normal,a,w=>∃M,FrL n (M++Lf) ds a∧J M w
 | e,a,w=>Q e a w
theorem W_joinQ {P:Program}{n:Nat}{Q:Post}{L:Slots}{ds:List Deferred}{w:World}{x y:Code}(Lf:Slots)(J:Slots→World→Prop)(hf:Sub Lf L)(first:W P n (JPQ n ds Lf J Q) x L ds w)(second:∀M w,J M w→W P n Q y (M++Lf) ds w):W P n Q (.seq x y) L ds w :=
 W_seq (fun a ha => have _ := hf; wp_mono (first a ha) (fun e a' w' hq => by
  cases e with
  | normal=>obtain⟨M,hF,hJ⟩:=hq;exact second M w' hJ a' hF
  | _=>exact hq))
theorem N_JQ {n : Nat} {Q : Post} {L : Slots} {ds : List Deferred} {w : World} {Lf : Slots} {J : Slots → World → Prop} {M : Slots} (hJ : J M w) (hM : Sub M L := by (repeat (first | exact Sub.nil | refine Sub.cons rfl ?_))) (hf : Sub Lf L := by (repeat (first | exact Sub.nil | refine Sub.cons rfl ?_))) : N n (JPQ n ds Lf J Q) .normal L ds w :=
 fun _ ha=>⟨M,ha.sub (hM.app hf),hJ⟩
theorem N_JQ_ret {n:Nat}{Q:Post}{L:Slots}{ds:List Deferred}{w:World}{Lf:Slots}{J:Slots→World→Prop}(h:N n Q .ret L ds w):N n (JPQ n ds Lf J Q) .ret L ds w:=h
end Fw
namespace Go.Proofs.Tst
open Go Fw Tryz
theorem i_keep_c (w0:World)(G0:PH)(hG:PSub G0 w0)(mbs:Nat)(ess:Array MapEntry)(cks:Nat)(xss:List (Int×Value))(Ls:List BHeld)(hms:MapIs (Value.int .i64) ess cks xss)(hSs:StR G0 xss Ls)(hVs:Sp.VH Ls)(id:Int)(hLent:Lent w0 G0 [blk mbs (.map ess cks)]) :
  Calls Tryz.prog 207 #[.map (some mbs),.int .i64 id] w0 (RetM w0 G0 [mbs] (fun G' v Bs=>∃(es':Array MapEntry) (ck':Nat) (xs':List (Int×Value)) (L':List BHeld),v= .bool (Sp.StoreKeep Ls id).isSome∧Bs=[blk mbs (.map es' ck')]∧MapIs (Value.int .i64) es' ck' xs'∧StR G' xs' L'∧Sp.VH L'∧L'=(Sp.StoreKeep Ls id).getD Ls)):=by
 have H:Hp w0 G0 [mbs] w0 G0 [blk mbs (.map ess cks)]:=hLent.hp
 refine calls_of_W (l:=[.map (some mbs),.int .i64 id]) func207 Z ntmps207 Z (q2 (aG Z (q1 (pe 2 Z (o_lookS2 (H.at (k:=0) Z) hms hSs underlying147 underlying3 zeroValue139 Z Z Z ?_)))));intro _ hE1
 obtain⟨_,_,_,rfl,_,hr1,_,_,_⟩:=ox hE1
 have hfnd:True:=trivial
 refine pe 3 Z (xal H Z ?_);intro _ _ _ H
 refine xst 0 H Z8 ?_;intro _ H
 refine aG Z (q3 (W_seq (q2 (pe 3 Z ?_))))
 refine R_case (t:=15) Z ?_ ?_
 ·intro hc4
  try simp only[nrm]at hc4
  refine pe 4 Z (q3 (W_true Z (q2 (aG Z (q3 (W_ret (N_K_ret (rt1 results207 Z ?_))))))))
  have H:=H.dl 0
  exact H.retM ⟨_,_,_,_,congrArg Value.bool (by rw[Sp.keep_no hVs (.inl (by simpa using hc4))];rfl),rfl,hms,hSs,hVs,by rw[Sp.keep_no hVs (.inl (by simpa using hc4))];rfl⟩
 intro hc4'
 try simp only[nrm]at hc4'
 have hfd:(Sp.atH Ls id).isSome=true:=by simpa using hc4'
 have hgo:=Sp.get_ok hVs hfd
 refine gR Z (fA 2 Z (gR Z (lB 0 H Z3 (pe 2 Z (q3 ?_)))))
 refine W_cond Z ?_ ?_
 ·intro hc5
  try simp only[nrm]at hc5
  refine q2 (aG Z (q3 (W_ret (N_K_ret (rt1 results207 Z ?_)))))
  have H:=H.dl 0
  exact H.retM ⟨_,_,_,_,congrArg Value.bool (by rw[Sp.keep_no hVs (.inr oM)];rfl),rfl,hms,hSs,hVs,by rw[Sp.keep_no hVs (.inr oM)];rfl⟩
 intro hc5'
 try simp only[nrm]at hc5'
 have hkg:=Sp.keep_get hVs hfd oM
 refine W_skip (N_K (q2 (fA 2 Z (lB 0 H Z3 (aD Z2 (fA 2 Z (xst 0 H Z8 ?_)))))));intro _ H
 refine q1 (pe 2 Z (lA 0 3 H Z4 ?_))
 refine o_updS 1 H ⟨(getH Ls id).id,(getH Ls id).bytes,(getH Ls id).uses+1⟩ Z hms hSs underlying147 underlying3 Z Z Z (show heldE G0 ⟨(getH Ls id).id,(getH Ls id).bytes,(getH Ls id).uses+1⟩ _ from⟨_,_,_,Z,⟨by first|omega|(dsimp only;omega),by first|omega|(dsimp only;omega)⟩,hr1,⟨by first|omega|(dsimp only;omega),by first|omega|(dsimp only;omega)⟩⟩) (by exact Sp.get_id hfd) ?_;intro _ _ _ _ H hm8 hS8
 refine q1 (aG Z (q3 (W_ret (rt1 results207 Z ?_))))
 have H:=H.dl 0
 exact H.retM ⟨_,_,_,_,congrArg Value.bool (by rw[hkg.1];rfl),rfl,hm8,hS8,hkg.2,by rw[hkg.1];rfl⟩
theorem i_drop_c (w0:World)(G0:PH)(hG:PSub G0 w0)(mbs:Nat)(ess:Array MapEntry)(cks:Nat)(xss:List (Int×Value))(Ls:List BHeld)(hms:MapIs (Value.int .i64) ess cks xss)(hSs:StR G0 xss Ls)(hVs:Sp.VH Ls)(id:Int)(hLent:Lent w0 G0 [blk mbs (.map ess cks)]) :
  Calls Tryz.prog 208 #[.map (some mbs),.int .i64 id] w0 (RetM w0 G0 [mbs] (fun G' v Bs=>∃(es':Array MapEntry) (ck':Nat) (xs':List (Int×Value)) (L':List BHeld),v= .bool (Sp.StoreDrop Ls id).isSome∧Bs=[blk mbs (.map es' ck')]∧MapIs (Value.int .i64) es' ck' xs'∧StR G' xs' L'∧Sp.VH L'∧L'=(Sp.StoreDrop Ls id).getD Ls)):=by
 have H:Hp w0 G0 [mbs] w0 G0 [blk mbs (.map ess cks)]:=hLent.hp
 refine calls_of_W (l:=[.map (some mbs),.int .i64 id]) func208 Z ntmps208 Z (q2 (aG Z (q1 (pe 2 Z (o_lookS2 (H.at (k:=0) Z) hms hSs underlying147 underlying3 zeroValue139 Z Z Z ?_)))));intro _ hE1
 obtain⟨_,_,_,rfl,_,hr1,_,_,_⟩:=ox hE1
 refine pe 3 Z (xal H Z ?_);intro _ _ _ H
 refine xst 0 H Z8 ?_;intro _ H
 refine aG Z (q3 (W_seq (q2 (pe 2 Z (q3 ?_)))))
 refine W_cond Z ?_ ?_
 ·intro hc4
  try simp only[nrm]at hc4
  refine q2 (aG Z (q3 (W_ret (N_K_ret (rt1 results208 Z ?_)))))
  have H:=H.dl 0
  exact H.retM ⟨_,_,_,_,congrArg Value.bool (by rw[Sp.drop_no (by simpa using hc4)];rfl),rfl,hms,hSs,hVs,by rw[Sp.drop_no (by simpa using hc4)];rfl⟩
 intro hc4'
 try simp only[nrm]at hc4'
 have hfd:(Sp.atH Ls id).isSome=true:=by simpa using hc4'
 have hgo:=Sp.get_ok hVs hfd
 refine W_skip (N_K (W_seq (q2 (fA 2 Z (lB 0 H Z3 (pe 1 Z (q3 ?_)))))))
 refine W_cond Z ?_ ?_
 ·intro hc5
  try simp only[nrm]at hc5
  have hkg:=Sp.drop_get1 hVs hfd hc5
  refine q2 (pe 2 Z (o_delS 1 H Z hms hSs underlying147 underlying3 Z Z ?_));intro _ _ _ _ H hm6 hS6
  refine q1 (aG Z (q3 (W_ret (N_K_ret (rt1 results208 Z ?_)))))
  have H:=H.dl 0
  exact H.retM ⟨_,_,_,_,congrArg Value.bool (by rw[hkg.1];rfl),rfl,hm6,hS6,hkg.2,by rw[hkg.1];rfl⟩
 intro hc5'
 try simp only[nrm]at hc5'
 have hkg:=Sp.drop_get2 hVs hfd hc5'
 refine W_skip (N_K (q2 (fA 2 Z (lB 0 H Z3 (o_sub Z Z Z oO (fA 2 Z (xst 0 H Z8 ?_)))))));intro _ H
 refine q1 (pe 2 Z (lA 0 3 H Z4 ?_))
 refine o_updS 1 H ⟨(getH Ls id).id,(getH Ls id).bytes,(getH Ls id).uses-1⟩ Z hms hSs underlying147 underlying3 Z Z Z (show heldE G0 ⟨(getH Ls id).id,(getH Ls id).bytes,(getH Ls id).uses-1⟩ _ from⟨_,_,_,Z,⟨by first|omega|(dsimp only;omega),by first|omega|(dsimp only;omega)⟩,hr1,⟨by first|omega|(dsimp only;omega),by first|omega|(dsimp only;omega)⟩⟩) (by exact Sp.get_id hfd) ?_;intro _ _ _ _ H hm9 hS9
 refine q1 (aG Z (q3 (W_ret (rt1 results208 Z ?_))))
 have H:=H.dl 0
 exact H.retM ⟨_,_,_,_,congrArg Value.bool (by rw[hkg.1];rfl),rfl,hm9,hS9,hkg.2,by rw[hkg.1];rfl⟩
theorem i_find_c (w0:World)(G0:PH)(hG:PSub G0 w0)(mbs:Nat)(ess:Array MapEntry)(cks:Nat)(xss:List (Int×Value))(Ls:List BHeld)(hbs:MapAt G0 mbs ess cks)(hms:MapIs (Value.int .i64) ess cks xss)(hSs:StR G0 xss Ls)(hVs:Sp.VH Ls)(vbytes:Value)(bytes:List (Int))(hbytes:RdI G0 vbytes bytes) :
  Calls Tryz.prog 232 #[.map (some mbs),vbytes] w0 (Rets w0 (.int .i64 (Sp.findId Ls bytes))):=by
 obtain⟨abytes,kbytes,rfl⟩:=hbytes.shape
 have hlimbytes:bytes.length≤1099511627776:=hbytes.lim
 have H:=Hp.init hG
 refine calls_of_W (l:=[.map (some mbs),.slice abytes bytes.length kbytes]) func232 Z ntmps232 Z (q2 (aG Z (q3 (W_seq (q2 (mV Z ?_))))))
 have hmb1:=(hbs.at H.sub);refine o_range H hmb1 underlying147 rfl rfl ?_;intro r1 _ _ H _;have hne1:r1≠mbs:=fun e=>by have:=(Array.getElem?_eq_some_iff.1 hmb1).1;omega
 refine q3 (W_block ?_)
 refine W_lp (hf:=(Sub.cons (t:=1) Z (Sub.cons (t:=8) Z Sub.nil))) (J:=fun M w m=>∃(sn:Array Nat) (G:PH),M=[]∧PLe G0 G∧Hp w0 G0 [] w G [blk r1 (.mapIter (some mbs) cks sn cks)]∧(∀y,y ∈ Ls→seenH ess sn y→Sp.l2Same y.bytes bytes=false)∧m=((leftOf ess sn).size)) (h0:=⟨#[],_,Z,PLe.refl _,H,?inv,Z⟩) (round:=?round)
 case inv=>rintro y hy ⟨e,_,_,he⟩;simp at he
 case round =>
  rintro _ _ _ ⟨sn,_,rfl,hle2,H,hinv2,rfl⟩
  have hSs:=hSs.up hle2
  have hbs:=hbs.up hle2
  have hbytes:=hbytes.up hle2
  have hsn:=hinv2
  refine q2 ?_
  refine o_next 0 H (hbs.at H.sub) hms hSs Z hne1 Z Z ?_ ?_
  ·intro hall3
   refine pe 1 Z (q3 (W_seq (W_false Z (W_exit (N_K_exit (N_LP_exit (N_B_same (N_K (q2 (aG Z (q3 (W_ret (rt1 results232 Z ?_)))))))))))))
   exact H.rets (congrArg (Value.int .i64) (by rw[Sp.findId_none (fun y hy=>hsn y hy (hall3 y hy))]))
  intro _ _ _ _ he3 hk3 hv3 hy3 hE3 _ hless3 H
  obtain⟨_,_,_,rfl,_,hr3,_,_,_⟩:=ox hE3
  refine pe 1 Z (q3 (W_seq (W_true Z (W_skip (N_K (W_block (q2 (o_entry 0 H (hbs.at H.sub) hms Z he3 hk3 hv3 Z Z (pe 2 Z (xal H Z ?_))))))))));intro _ _ _ H
  refine aG Z (xst 0 H Z8 ?_);intro _ H
  refine q1 (fA 1 Z (lB 0 H Z3 (mV Z (xr H Z2 (l_Equal_c _ _ H.sub _ _ hr3 _ _ hbytes) ?_))));intro _ H
  refine q3 ?_
  refine W_cond Z ?_ ?_
  ·intro hc7
   try simp only[nrm]at hc7
   refine q2 (pe 2 Z (q3 (W_ret (N_B_ret (N_LP_ret (N_B_ret (N_K_ret (rt1 results232 Z ?_))))))))
   exact H.rets (congrArg (Value.int .i64) (by rw[Sp.findId_some hVs hy3 hc7]))
  intro hc7'
  try simp only[nrm]at hc7'
  refine W_skip (N_B ?_)
  have H:=H.dl 0
  refine N_lp (hJ:=⟨_,_,Z,hle2,H,?inv,Z⟩) (hm:=?hm)
  case hm=>exact hless3
  case inv=>intro y hy hs;rcases seenH_push hms (hSs.nd hms) he3 hk3 hy3 hy hs with rfl|h;(· exact hc7');exact hsn y hy h
theorem i_put_c (w0:World)(G0:PH)(hG:PSub G0 w0)(mbs:Nat)(ess:Array MapEntry)(cks:Nat)(xss:List (Int×Value))(Ls:List BHeld)(hms:MapIs (Value.int .i64) ess cks xss)(hSs:StR G0 xss Ls)(hVs:Sp.VH Ls)(vbytes:Value)(bytes:List (Int))(hbytes:RdI G0 vbytes bytes)(hLent:Lent w0 G0 [blk mbs (.map ess cks)])(hB:Sp.BlockValid bytes=true) :
  Calls Tryz.prog 215 #[.map (some mbs),vbytes] w0 (RetM w0 G0 [mbs] (fun G' v Bs=>∃(es':Array MapEntry) (ck':Nat) (xs':List (Int×Value)) (L':List BHeld) (i:Int),v= .tuple #[.int .i64 i,.bool (Sp.StorePut Ls bytes).isSome]∧Bs=[blk mbs (.map es' ck')]∧MapIs (Value.int .i64) es' ck' xs'∧StR G' xs' L'∧Sp.VH L'∧L'=((Sp.StorePut Ls bytes).map (·.1)).getD Ls∧inI i∧∀r,Sp.StorePut Ls bytes=some r→r.2=i)):=by
 obtain⟨abytes,kbytes,rfl⟩:=hbytes.shape
 have hlimbytes:bytes.length≤1099511627776:=hbytes.lim
 have hfin:=Sp.findId_in hVs bytes
 have H:Hp w0 G0 [mbs] w0 G0 [blk mbs (.map ess cks)]:=hLent.hp
 refine calls_of_W (l:=[.map (some mbs),.slice abytes bytes.length kbytes]) func215 Z ntmps215 Z (q2 (pe 2 Z (q3 (W_seq (q2 (pe 2 Z (xr H Z2 (i_find_c _ _ (H.lendSubL [0]) _ _ _ _ _ (H.lendPredL (k:=0) (ks:=[0]) Z Z) hms (hSs.up (PPlus.le _ _ _)) hVs _ _ (hbytes.up (PPlus.le _ _ _))) ?_)))))));intro _ H
 refine aG Z (q1 (pe 2 Z (q3 ?_)))
 refine W_cond Z ?_ ?_
 ·intro hc2
  try simp only[nrm]at hc2
  obtain⟨_,_,hp1,hp2,hp3⟩:=Sp.findId_ne hVs hc2
  have hpo:=Sp.put_old hVs hB hp1 hp2
  rw[←hp3]at hpo
  refine q2 (pe 3 Z (xc Z2 (i_keep_c _ _ H.sub _ _ _ _ _ hms hSs hVs _ H.lent1) ?_))
  rintro _ _ ⟨_,_,_,rfl,H3',⟨_,_,_,_,rfl,rfl,hm3,hS3,hV3,hL3⟩⟩
  have H:=H.borrow1 H3'
  refine⟨_,Z,?_⟩
  refine pe 2 Z (q3 (W_ret (N_K_ret (rt2 results215 Z Z ?_))))
  exact H.retM ⟨_,_,_,_,Sp.findId Ls bytes,congrArg (fun b=>Value.tuple #[Value.int .i64 (Sp.findId Ls bytes),Value.bool b]) (by rw[hpo,Option.isSome_map]),rfl,hm3,hS3,hV3,(by rw[hL3,hpo];cases Sp.StoreKeep Ls (Sp.findId Ls bytes)<;>rfl),oO,fun r hr=>by rw[hpo]at hr;cases hk:Sp.StoreKeep Ls (Sp.findId Ls bytes) with |none=>rw[hk]at hr;cases hr|some l=>(rw[hk]at hr;cases hr;rfl)⟩
 intro hc2'
 try simp only[nrm]at hc2'
 have hnl:=Sp.findId_eq hVs hc2'
 refine W_skip (N_K (W_seq (q2 (mV Z ?_))))
 have hml4:=hSs.len
 refine o_lenM (H.at (k:=0) Z) hms underlying147 Z Z (pe 1 Z (q3 ?_))
 refine W_cond Z ?_ ?_
 ·intro hc5
  try simp only[nrm]at hc5
  refine q2 (pe 2 Z (q3 (W_ret (N_K_ret (rt2 results215 Z Z ?_)))))
  exact H.retM ⟨_,_,_,_,0,congrArg (fun b=>Value.tuple #[Value.int .i64 (0),Value.bool b]) (by rw[Sp.put_full hnl oM];rfl),rfl,hms,hSs,hVs,(by rw[Sp.put_full hnl oM];rfl),by decide,fun r hr=>by rw[Sp.put_full hnl oM]at hr;cases hr⟩
 intro hc5'
 try simp only[nrm]at hc5'
 refine W_skip (N_K (q2 (aG Z (q3 (W_seq (W_block ?_))))))
 refine W_lp (hf:=(Sub.cons (t:=0) Z (Sub.cons (t:=1) Z (Sub.cons (t:=4) Z (Sub.cons (t:=5) Z Sub.nil))))) (J:=fun M w m=>∃(k:Nat) (G:PH),M=[(7,.int .i64 ((k:Int)+1))]∧PLe G0 G∧Hp w0 G0 [mbs] w G [blk mbs (.map ess cks)]∧(∀j:Nat,j<k→(Sp.atH Ls ((j:Int)+1)).isSome=true)∧m=(Ls.length+1-k)) (h0:=⟨0,_,Z,PLe.refl _,H,?inv,Z⟩) (round:=?round)
 case inv=>exact fun j hj=>by omega
 case round =>
  rintro _ _ _ ⟨k,_,rfl,hle6,H,hinv6,rfl⟩
  have hSs:=hSs.up hle6
  have hbytes:=hbytes.up hle6
  have hall:=hinv6;have hkl:=Sp.free_le hall;have hv16:=hVs.len
  refine W_seq (q2 (pe 2 Z (o_lookS (H.at (k:=0) Z) hms hSs underlying147 underlying3 zeroValue139 Z Z Z ?_)));intro _ hE7
  obtain⟨_,_,_,rfl,_,hr7,_,_,_⟩:=ox hE7
  refine o_field 2 runUnderlying139 Z Z Z isAgg3 Z Z Z (pe 1 Z (q3 ?_))
  refine W_cond Z ?_ ?_
  ·intro hc8
   try simp only[nrm]at hc8
   refine W_skip (N_K (W_block (W_region (mV Z (aD Z2 (aG Z (R_nil (N_B ?_))))))))
   refine N_lp (hJ:=⟨k+1,_,Z,hle6,H,?inv,Z⟩) (hm:=?hm)
   case hm=>omega
   case inv=>exact Sp.upto_succ (p:=fun j:Nat=>(Sp.atH Ls ((j:Int)+1)).isSome) hall (Sp.uses_some hc8)
  intro hc8'
  try simp only[nrm]at hc8'
  refine W_exit (N_K_exit (N_LP_exit (N_B_same (N_K (q2 (pe 4 Z (xc Z2 (l_Clone_c _ _ H.sub _ _ hbytes) ?_)))))))
  rintro _ _ ⟨_,_,_,g10,rfl,⟨_,rfl,hchk10⟩,hp10,hq10,hs10⟩
  have H:=H.growO g10 hp10 hq10 hs10;obtain⟨_,_,rfl⟩:=H.accShape (k:=0) rfl
  have hSs:=hSs.up g10.le
  refine⟨_,Z,?_⟩
  refine o_build bf139 Z Z Z ?_
  obtain⟨G12,H,hsg12,hsr12⟩:=H.shutL (k:=0) rfl (H.apart (k:=0) (ks:=[1]) rfl rfl (by intro b hb;simpa [fpsAt,nth,blk] using hb)) hchk10 aN aN
  have hSs:=hSs.up hsg12
  refine o_updS 0 H ⟨(k:Int)+1,bytes,1⟩ Z hms hSs underlying147 underlying3 Z Z Z (show heldE G12 ⟨(k:Int)+1,bytes,1⟩ _ from⟨_,_,_,Z,⟨by first|omega|(dsimp only;omega),by first|omega|(dsimp only;omega)⟩,hsr12,⟨by first|omega|(dsimp only;omega),by first|omega|(dsimp only;omega)⟩⟩) rfl ?_;intro _ _ _ _ H hm11 hS11
  refine q1 (pe 3 Z (q3 (W_ret (rt2 results215 Z Z ?_))))
  have hfe:=Sp.free_eq hall (Sp.uses_none hVs (by simpa using hc8'))
  have hpn:=Sp.put_new hVs hB hnl oM
  exact H.retM ⟨_,_,_,_,(k:Int)+1,congrArg (fun b=>Value.tuple #[Value.int .i64 ((k:Int)+1),Value.bool b]) (by rw[hpn];rfl),rfl,hm11,(hS11.perm (Sp.put_perm bytes hfe)),Sp.with_valid hVs hB hnl oM,(by rw[hpn];rfl),oO,fun r hr=>by rw[hpn]at hr;cases hr;simp only[];omega⟩
theorem i_fileIds_c (w0:World)(G0:PH)(hG:PSub G0 w0)(mbs:Nat)(ess:Array MapEntry)(cks:Nat)(xss:List (Int×Value))(Ls:List BHeld)(hbs:MapAt G0 mbs ess cks)(hms:MapIs (Value.int .i64) ess cks xss)(hSs:StR G0 xss Ls)(hVs:Sp.VH Ls)(vids:Value)(ids:List (Int))(hids:RdI G0 vids ids) :
  Calls Tryz.prog 155 #[.map (some mbs),vids] w0 (Rets w0 (.bool (Sp.l4Ids Ls ids))):=by
 obtain⟨aids,kids,rfl⟩:=hids.shape
 have hlimids:ids.length≤1099511627776:=hids.lim
 have H:=Hp.init hG
 refine calls_of_W (l:=[.map (some mbs),.slice aids ids.length kids]) func155 Z ntmps155 Z (q2 (aG Z (q3 (W_seq (q2 (mV Z (lN Z (pe 1 Z (q3 ?_)))))))))
 refine W_cond Z ?_ ?_
 ·intro hc1
  try simp only[nrm]at hc1
  refine q2 (aG Z (q3 (W_ret (N_K_ret (rt1 results155 Z ?_)))))
  exact H.rets (congrArg Value.bool (by rw[Sp.ids_long oM]))
 intro hc1'
 try simp only[nrm]at hc1'
 refine W_skip (N_K (W_seq (q2 (mV Z (lN Z (mV Z (q3 (W_block ?_))))))))
 refine W_lp (hf:=(Sub.cons (t:=0) Z (Sub.cons (t:=1) Z (Sub.cons (t:=12) Z (Sub.cons (t:=13) Z Sub.nil))))) (J:=fun M w m=>∃(k:Nat) (G:PH),M=[(14,.int .i64 (k:Int))]∧PLe G0 G∧Hp w0 G0 [] w G []∧(k≤ids.length∧∀j,j<k→Sp.idsOk Ls ids j=true)∧m=(ids.length-k)) (h0:=⟨0,_,Z,PLe.refl _,H,?inv,Z⟩) (round:=?round)
 case inv=>exact⟨by omega,fun j hj=>by omega⟩
 case round =>
  rintro _ _ _ ⟨k,_,rfl,hle2,H,hinv2,rfl⟩
  have hSs:=hSs.up hle2
  have hbs:=hbs.up hle2
  have hids:=hids.up hle2
  obtain⟨_,hall⟩:=hinv2
  refine q2 (pe 1 Z (q3 (W_seq ?_)))
  refine W_cond Z ?_ ?_
  ·intro hc3
   try simp only[nrm]at hc3
   refine W_skip (N_K (W_seq (W_block (q2 (mV Z (iP k hids Z3 Z ?_))))));intro _ _ z4 _ hz4 hE4 hrow4
   obtain⟨rfl,_⟩:=hE4
   refine lP H hrow4 0 Z2 (pe 2 Z (q1 (pe 2 Z (o_lookS2 (hbs.at H.sub) hms hSs underlying147 underlying3 zeroValue139 Z Z Z ?_))));intro _ hE5
   obtain⟨_,_,_,rfl,_,_,_,_,_⟩:=ox hE5
   refine pe 3 Z (xal H Z ?_);intro _ _ _ H
   refine xst 0 H Z8 ?_;intro _ H
   refine aG Z (q1 (pe 3 Z ?_))
   refine R_case (t:=27) Z ?_ ?_
   ·intro hc8
    try simp only[nrm]at hc8
    refine pe 6 Z (R_pass Z (yl_un Z Z) (R_pass Z (yl_un Z Z) (R_pass Z (yl_un Z Z) (R_pass Z (yl_un Z Z) (pe 2 Z (q3 (W_true Z (q2 (aG Z (q3 (W_ret (N_B_ret (N_K_ret (N_LP_ret (N_B_ret ?_)))))))))))))))
    refine N_K_ret (rt1 results155 Z ?_)
    exact H.rets (congrArg Value.bool (by rw[Sp.ids_false (k:=k) oM (by exact Sp.idsOk_no hz4 (by simpa using hc8))]))
   intro hc8'
   try simp only[nrm]at hc8'
   have hfd:(Sp.atH Ls z4).isSome=true:=by simpa using hc8'
   have hbl:=Sp.bv_len (Sp.get_ok hVs hfd).2.1
   have hio:=Sp.idsOk_get hz4 hfd
   refine pe 2 Z (gR Z (lN Z (gR Z (o_sub Z Z Z oO (pe 2 Z ?_)))))
   refine R_case (t:=33) Z ?_ ?_
   ·intro hc10
    try simp only[nrm]at hc10
    refine gR Z (fA 1 Z (gR Z (lB 0 H Z3 (gR Z (lN Z (pe 3 Z (q3 ?_)))))))
    refine W_cond Z ?_ ?_
    ·intro hc11
     try simp only[nrm]at hc11
     refine q2 (aG Z (q3 (W_ret (N_B_ret (N_K_ret (N_LP_ret (N_B_ret (N_K_ret (rt1 results155 Z ?_)))))))))
     exact H.rets (congrArg Value.bool (by rw[Sp.ids_false (k:=k) oM (by rw[hio];simp;omega)]))
    intro hc11'
    try simp only[nrm]at hc11'
    refine W_skip (N_B (N_K (W_region (aD Z2 (mV Z (R_nil ?_))))))
    have H:=H.dl 0
    refine N_lp (hJ:=⟨k+1,_,Z,hle2,H,?inv,Z⟩) (hm:=?hm)
    case hm=>omega
    case inv=>exact⟨by omega,Sp.upto_succ hall (by rw[hio];simp;omega)⟩
   intro hc10'
   try simp only[nrm]at hc10'
   refine pe 6 Z (q3 (W_false Z (W_skip (N_B (N_K (W_region (aD Z2 (mV Z (R_nil ?_)))))))))
   have H:=H.dl 0
   refine N_lp (hJ:=⟨k+1,_,Z,hle2,H,?inv,Z⟩) (hm:=?hm)
   case hm=>omega
   case inv=>exact⟨by omega,Sp.upto_succ hall (by rw[hio];simp;omega)⟩
  intro hc3'
  try simp only[nrm]at hc3'
  refine W_exit (N_K_exit (N_LP_exit (N_B_same (N_K (q2 (aG Z (q3 (W_ret (rt1 results155 Z ?_)))))))))
  exact H.rets (congrArg Value.bool (by rw[Sp.ids_true (fun j hj=>hall j oM) oM]))
theorem i_freeFile_c (w0:World)(G0:PH)(hG:PSub G0 w0)(mbs:Nat)(ess:Array MapEntry)(cks:Nat)(xss:List (Int×Value))(Ls:List BHeld)(hms:MapIs (Value.int .i64) ess cks xss)(hSs:StR G0 xss Ls)(hVs:Sp.VH Ls)(vids:Value)(ids:List (Int))(hids:RdI G0 vids ids)(hLent:Lent w0 G0 [blk mbs (.map ess cks)]) :
  Calls Tryz.prog 176 #[.map (some mbs),vids] w0 (RetM w0 G0 [mbs] (fun G' v Bs=>∃(es':Array MapEntry) (ck':Nat) (xs':List (Int×Value)) (L':List BHeld),v= .bool (Sp.FileFree Ls ids).isSome∧Bs=[blk mbs (.map es' ck')]∧MapIs (Value.int .i64) es' ck' xs'∧StR G' xs' L'∧Sp.VH L'∧∀l,Sp.FileFree Ls ids=some l→L'=l)):=by
 obtain⟨aids,kids,rfl⟩:=hids.shape
 have hlimids:ids.length≤1099511627776:=hids.lim
 have H:Hp w0 G0 [mbs] w0 G0 [blk mbs (.map ess cks)]:=hLent.hp
 refine calls_of_W (l:=[.map (some mbs),.slice aids ids.length kids]) func176 Z ntmps176 Z (q2 (aG Z (q3 (W_seq (q2 (pe 2 Z (xr H Z2 (i_fileIds_c _ _ (H.lendSubL [0]) _ _ _ _ _ (H.lendPredL (k:=0) (ks:=[0]) Z Z) hms (hSs.up (PPlus.le _ _ _)) hVs _ _ (hids.up (PPlus.le _ _ _))) ?_)))))));intro _ H
 refine pe 1 Z (q3 ?_)
 refine W_cond Z ?_ ?_
 ·intro hc2
  try simp only[nrm]at hc2
  refine q2 (aG Z (q3 (W_ret (N_K_ret (rt1 results176 Z ?_)))))
  have hno:Sp.FileFree Ls ids=none:=by simp[Sp.FileFree,hc2]
  exact H.retM ⟨_,_,_,_,congrArg Value.bool (by rw[hno];rfl),rfl,hms,hSs,hVs,fun l hl=>by rw[hno]at hl;cases hl⟩
 intro hc2'
 try simp only[nrm]at hc2'
 refine W_skip (N_K (W_seq (q2 (mV Z (lN Z (mV Z (q3 (W_block ?_))))))))
 refine W_lp (hf:=(Sub.cons (t:=0) Z (Sub.cons (t:=11) Z (Sub.cons (t:=12) Z Sub.nil)))) (J:=fun M w m=>∃(esm0:Array MapEntry) (ckm0:Nat) (xsm0:List (Int×Value)) (Lm0:List BHeld) (k:Nat) (G:PH),M=[(13,.int .i64 (k:Int))]∧PLe G0 G∧Hp w0 G0 [mbs] w G [blk mbs (.map esm0 ckm0)]∧(MapIs (Value.int .i64) esm0 ckm0 xsm0∧StR G xsm0 Lm0∧Sp.VH Lm0∧k≤ids.length∧Sp.foldB Sp.StoreDrop (ids.take k) (some Ls)=some Lm0)∧m=(ids.length-k)) (h0:=⟨_,_,xss,Ls,0,_,Z,PLe.refl _,H,?inv,Z⟩) (round:=?round)
 case inv=>exact⟨hms,hSs,hVs,(by simp[Sp.foldB])⟩
 case round =>
  rintro _ _ _ ⟨esm0,ckm0,xsm0,Lm0,k,_,rfl,hle3,H,hinv3,rfl⟩
  have hids:=hids.up hle3
  obtain⟨hm3_m0,hS3_m0,hV3_m0,hinv3⟩:=hinv3
  obtain⟨_,hf⟩:=hinv3
  refine q2 (pe 1 Z (q3 (W_seq ?_)))
  refine W_cond Z ?_ ?_
  ·intro hc4
   try simp only[nrm]at hc4
   refine W_skip (N_K (W_seq (W_block (q2 (iP k hids Z3 Z ?_)))));intro _ _ z5 _ hz5 hE5 hrow5
   obtain⟨rfl,_⟩:=hE5
   refine lP H hrow5 0 Z2 (aG Z (q1 (pe 2 Z (xc Z2 (i_drop_c _ _ H.sub _ _ _ _ _ hm3_m0 hS3_m0 hV3_m0 _ H.lent1) ?_))))
   rintro _ _ ⟨_,_,_,rfl,H6',⟨_,_,xs6,L6,rfl,rfl,hm6,hS6,hV6,hL6⟩⟩
   have hle3:=hle3.trans H6'.le
   have H:=H.borrow1 H6'
   refine⟨_,Z,?_⟩
   refine pe 1 Z (q3 ?_)
   refine W_cond Z ?_ ?_
   ·intro hc7
    try simp only[nrm]at hc7
    refine q2 (aG Z (q3 (W_ret (N_B_ret (N_K_ret (N_LP_ret (N_B_ret (N_K_ret (rt1 results176 Z ?_)))))))))
    have hno:Sp.FileFree Ls ids=none:=by (have hno:Sp.StoreDrop Lm0 z5=none:=by simpa using hc7);simp only[Sp.FileFree,Sp.valid_iff.2 hVs,hc2',Bool.and_self,if_true];exact Sp.foldB_stop hf hz5 hno
    exact H.retM ⟨_,_,_,_,congrArg Value.bool (by rw[hno];rfl),rfl,hm6,hS6,hV6,fun l hl=>by rw[hno]at hl;cases hl⟩
   intro hc7'
   try simp only[nrm]at hc7'
   obtain⟨p,hsp⟩:=Option.isSome_iff_exists.1 hc7'
   have hLp:L6=p:=by rw[hL6,hsp];rfl
   subst hLp
   refine W_skip (N_B (N_K (W_region (aD Z2 (mV Z (R_nil ?_))))))
   refine N_lp (hJ:=⟨_,_,xs6,L6,k+1,_,Z,hle3,H,?inv,Z⟩) (hm:=?hm)
   case hm=>omega
   case inv=>exact⟨hm6,hS6,hV6,(by exact⟨by omega,Sp.foldB_succ hf hz5 hsp⟩)⟩
  intro hc4'
  try simp only[nrm]at hc4'
  refine W_exit (N_K_exit (N_LP_exit (N_B_same (N_K (q2 (aG Z (q3 (W_ret (rt1 results176 Z ?_)))))))))
  have hyes:Sp.FileFree Ls ids=some Lm0:=by simp only[Sp.FileFree,Sp.valid_iff.2 hVs,hc2',Bool.and_self,if_true];exact Sp.foldB_all hf oM
  exact H.retM ⟨_,_,_,_,congrArg Value.bool (by rw[hyes];rfl),rfl,hm3_m0,hS3_m0,hV3_m0,fun l hl=>by rw[hyes]at hl;cases hl;rfl⟩
theorem i_listIn_r:∀(N:Nat) (w0:World) (G0:PH) (hG:PSub G0 w0) (t:Nd) (hndt:RdN G0 t) (s:Bs) (hs:s.length≤16777216) (hwt:t.wf) (hsl:s.length+6*t.cnt≤100000) (hsz:t.size≤N),
  Calls Tryz.prog 165 #[.pointer (some ⟨t.b,0,none⟩),str s] w0 (RetN w0 G0 (fun v Bs=>∃(F:Fr),Bs=[frag F]∧OIs F v (t.flat s))):=by
 intro N
 induction N with
 | zero=>intro w0 G0 hG t hndt s hs hwt hsl hsz;exact absurd (Nd.size_pos t) oM
 | succ N ih =>
 intro w0 G0 hG t hndt s hs hwt hsl hsz
 obtain⟨_,_,_,_,_,_,_,hprt,hrit,hrkt⟩:=hndt.open
 have hn_hrit:=hrit.len;have hx_hrit:_≤1099511627776:=hrit.lim
 have hn_hrkt:=hrkt.len;have hx_hrkt:_≤1099511627776:=hrkt.lim
 have H:=Hp.init hG
 refine calls_of_W (l:=[.pointer (some ⟨t.b,0,none⟩),str s]) func165 Z ntmps165 Z (q2 (aG Z (q1 (aG Z (q3 (W_seq (q2 (pe 2 Z (fA 3 Z (lP H hprt 3 Z2 (lN Z (mV Z (q3 (W_block ?_))))))))))))))
 have H:=H.addNil 41 3
 have H:=H.addF
 refine W_lp (hf:=(Sub.cons (t:=1) Z (Sub.cons (t:=4) Z (Sub.cons (t:=12) Z (Sub.cons (t:=13) Z Sub.nil))))) (J:=fun M w m=>∃(v:Value) (n:Nat) (cs:List Value) (xs:List (BItem)) (F:Fr) (k:Nat) (G:PH),M=[(14,.int .i64 (k:Int)),(5,v)]∧PLe G0 G∧Hp w0 G0 [] w G [frag F,acc 41 3 v n cs]∧(ChkF itemO 3 cs xs F∧n=xs.length∧k≤t.kids.length∧xs=Nd.flats s (t.kids.take k))∧m=(t.kids.length-k)) (h0:=⟨_,_,_,[],[],0,_,Z,PLe.refl _,H,?inv,Z⟩) (round:=?round)
 case inv=>exact⟨ChkF.nil,by first|rfl|simp|(simp;omega)|omega,(by simp[Nd.flats])⟩
 case round =>
  rintro _ _ _ ⟨v,n,cs,xs,F,k,G2,rfl,hle2,H,hinv2,rfl⟩
  have hrkt:=hrkt.up hle2
  obtain⟨hchk2_0,_,hinv2⟩:=hinv2
  obtain⟨_,_,rfl⟩:=H.accShape (k:=1) rfl
  obtain⟨_,hxs⟩:=hinv2;have hxl:xs.length≤100000:=by (have:=Nd.flats_len s (t.kids.take k);have:=Nd.cnts_take t.kids k;have:=Nd.cnt_eq t;rw[hxs];omega)
  refine q2 (pe 1 Z (q3 (W_seq ?_)))
  refine W_cond Z ?_ ?_
  ·intro hc3
   try simp only[nrm]at hc3
   refine W_skip (N_K (W_seq (W_block (q2 (iP k hrkt Z3 Z ?_)))));intro _ _ z4 q4 hz4 hE4 hrow4
   obtain⟨rfl,hnd4⟩:=hE4;obtain⟨_,_,_,_,_,_,_,hpr4,hri4,hrk4⟩:=hnd4.open;have hn_hri4:=hri4.len;have hx_hri4:_≤1099511627776:=hri4.lim;have hn_hrk4:=hrk4.len;have hx_hrk4:_≤1099511627776:=hrk4.lim
   have hzm:=List.mem_of_getElem? hz4;have hzc:=Nd.kid_cnt hzm;have hzs:=Nd.size_kid hzm;have hzw:=((Nd.wf_iff _).1 hwt).2 _ hzm;have hzn:=Nd.word_le hzw.1;have hzf:=Nd.flat_len (s++z4.name++[47]) z4
   refine lP H hrow4 0 Z2 (aG Z (q1 (pe 3 Z (fA 0 Z (lP H hpr4 0 Z2 ?_)))))
   refine o_sadd Z Z Z (by simp only[LIM,List.length_append,List.length_cons,List.length_nil]at *; omega) ?_
   refine aG Z (q3 (W_seq (W_drawK [] 15 H kR Z ?_)));intro _ H;have hd5:=PLe.refl G2
   refine dE 0 Z2 (dE 1 Z2 (dE 2 Z2 (dE 3 Z2 (dF 4 1 Z2 (dP 5 hpr4 1 Z3 (dE 6 Z2 (dE 7 Z2 (dF 8 2 Z2 (dP 9 hpr4 2 Z3 (r1 10 Z (xc Z2 (l_Clone_c _ _ H.sub _ _ hri4) ?_)))))))))))
   rintro _ _ ⟨_,_,_,g6,rfl,⟨_,rfl,hchk6⟩,hp6,hq6,hs6⟩
   have H:=H.growO g6 hp6 hq6 hs6;obtain⟨_,_,rfl⟩:=H.accShape (k:=0) rfl
   have hnd4:=hnd4.up g6.le
   have hle2:=hle2.trans g6.le
   have hd5:=hd5.trans g6.le
   refine⟨_,Z,?_⟩
   refine q4 H hd5 (RD_t 11 Z kR Z (fun _ hK=>v_build bf41 Z Z) (r1 12 Z (xbs H Z7 ?_)));intro _ _ _ H
   refine q4 H hd5 (r1 13 Z (o_append1 2 H (sz:=3) (bytes:=48) underlying24 typeInfo41 ⟨_,Z,Z⟩ Z Z Z Z Z Z Z Z Z Z oM Z ?_));intro _ _ H
   obtain⟨Fi2,H,hOI2⟩:=H.ownI (k:=0) rfl hchk6 aN aN
   have hchk8:=hchk2_0.snoc (show itemO Fi2 ⟨s++z4.name,z4.dir,z4.ids⟩ _ from⟨_,_,_,rfl,(by (first|assumption|(refine Sp.l5Parent_lim ?_;assumption)|(simp;done)|(simp;omega)|omega)),hOI2⟩) rfl
   have H:=H.tF 1
   have H:=H.mergeF
   obtain⟨_,_,rfl⟩:=H.accShape (k:=1) rfl
   refine q4 H hd5 (dE 14 Z2 (rz (N_K (W_region (pe 3 Z ?_)))))
   refine o_sadd Z Z Z (by simp only[LIM,List.length_append,List.length_cons,List.length_nil]at *; omega) ?_
   refine xc Z2 (ih _ _ H.sub _ hnd4 _ (by (first|assumption|(refine Sp.l5Parent_lim ?_;assumption)|(simp;done)|(simp;omega)|omega)) hzw.2 (by simp;omega) oM) ?_
   rintro _ _ ⟨_,_,rfl,H9',⟨_,rfl,hO9⟩⟩
   have H:=H.readers (fp:=[]) (by simp) (PLe.refl _) H9'
   obtain⟨_,hP9⟩:=hO9
   obtain⟨_,_,rfl⟩:=OwnS.shape hP9
   have hO9:=OIs.mk hP9
   refine⟨_,Z,?_⟩
   refine o_append_F 1 H hP9 (by intro F _ cs hx _ hu;obtain⟨_,_,_,rfl,_⟩:=hx;simp at hu;rcases hu with rfl|rfl|rfl<;>rfl) (sz:=3) (bytes:=48) underlying24 typeInfo41 ⟨_,rfl,rfl⟩ rfl rfl rfl rfl rfl rfl rfl oM rfl ?_;intro _ _ _ F10_ H hck10 _
   have hchk10:=hchk8.app hck10
   have H:=H.tF 1
   have H:=H.mergeF
   obtain⟨_,_,rfl⟩:=H.accShape (k:=1) rfl
   refine aG Z (R_nil (N_B (N_K (W_region (aD Z2 (mV Z (R_nil ?_)))))))
   refine N_lp (hJ:=⟨_,_,_,((xs++[⟨s++z4.name,z4.dir,z4.ids⟩])++(z4.flat (s++z4.name++[47]))),((F++Fi2)++F10_),k+1,_,Z,hle2,H,?inv,Z⟩) (hm:=?hm)
   case hm=>omega
   case inv=>exact⟨hchk10,aN,(by exact⟨by omega,by (rw[Nd.flats_succ hz4,hxs];simp)⟩)⟩
  intro hc3'
  try simp only[nrm]at hc3'
  refine W_exit (N_K_exit (N_LP_exit (N_B_same (N_K (q2 (pe 2 Z (q3 (W_ret (rt1 results165 Z ?_)))))))))
  have H:=H.tF 1
  obtain⟨_,H,hOw3⟩:=H.ownF hchk2_0 aN aN
  have hX:xs=t.flat s:=by rw[hxs,List.take_of_length_le oM,Nd.flat_eq]
  have H:=H.forget hG (by simp)
  exact⟨_,_,Z,H,_,Z,hX▸⟨_,hOw3⟩⟩
theorem i_listIn_c (w0:World)(G0:PH)(hG:PSub G0 w0)(t:Nd)(hndt:RdN G0 t)(s:Bs)(hs:s.length≤16777216)(hwt:t.wf)(hsl:s.length+6*t.cnt≤100000) :
  Calls Tryz.prog 165 #[.pointer (some ⟨t.b,0,none⟩),str s] w0 (RetN w0 G0 (fun v Bs=>∃(F:Fr),Bs=[frag F]∧OIs F v (t.flat s))):=i_listIn_r _ w0 G0 hG t hndt s hs hwt hsl (Nat.le_refl _)
theorem i_tlist_c (w0:World)(G0:PH)(hG:PSub G0 w0)(t:Nd)(hndt:RdN G0 t)(hwt:t.wf)(hct:t.cnt≤1000) :
  Calls Tryz.prog 106 #[.pointer (some ⟨t.b,0,none⟩)] w0 (RetN w0 G0 (fun v Bs=>∃(F:Fr),Bs=[frag F]∧OIs F v (t.flat []))):=by
 obtain⟨_,_,_,_,_,_,_,_,hrit,hrkt⟩:=hndt.open
 have hn_hrit:=hrit.len;have hx_hrit:_≤1099511627776:=hrit.lim
 have hn_hrkt:=hrkt.len;have hx_hrkt:_≤1099511627776:=hrkt.lim
 have H:=Hp.init hG
 refine calls_of_W (l:=[.pointer (some ⟨t.b,0,none⟩)]) func106 Z ntmps106 Z (q2 (aG Z (q1 (mV Z ?_))))
 refine xc Z2 (i_listIn_c _ _ H.sub _ hndt _ (by (first|assumption|(refine Sp.l5Parent_lim ?_;assumption)|(simp;done)|(simp;omega)|omega)) hwt (by simp;omega)) ?_
 rintro _ _ ⟨_,_,rfl,H1',⟨_,rfl,hO1⟩⟩
 have H:=H.readers (fp:=[]) (by simp) (PLe.refl _) H1'
 obtain⟨_,hP1⟩:=hO1
 obtain⟨_,_,rfl⟩:=OwnS.shape hP1
 have hO1:=OIs.mk hP1
 refine⟨_,Z,?_⟩
 refine aG Z (q3 (W_ret (rt1 results106 Z ?_)))
 have H:=H.forget hG (by simp)
 exact⟨_,_,Z,H,_,Z,hO1⟩
theorem i_usedBy_c (w0:World)(G0:PH)(hG:PSub G0 w0)(mbs:Nat)(ess:Array MapEntry)(cks:Nat)(xss:List (Int×Value))(Ls:List BHeld)(hbs:MapAt G0 mbs ess cks)(hms:MapIs (Value.int .i64) ess cks xss)(hSs:StR G0 xss Ls)(hVs:Sp.VH Ls)(vtrees:Value)(trees:List (Nd))(htrees:RdNd G0 vtrees trees)(htl:trees.length≤7)(htw:∀t,t ∈ trees→t.wf∧t.cnt≤12) :
  Calls Tryz.prog 99 #[.map (some mbs),vtrees] w0 (Rets w0 (.bool (trees.all (fun t=>(t.flat []).all (fun x=>Sp.l4Ids Ls x.ids))&&Ls.all (fun h=>decide ((Sp.cntT trees h.id:Int)=h.uses))))):=by
 obtain⟨atrees,ktrees,rfl⟩:=htrees.shape
 have hlimtrees:trees.length≤1099511627776:=htrees.lim
 have H:=Hp.init hG
 refine calls_of_W (l:=[.map (some mbs),.slice atrees trees.length ktrees]) func99 Z ntmps99 Z (q2 (aG Z (q1 (o_makeMap H Z ?_))));intro b1 _ _ H
 have hm1:=MapIs.empty (key:=Value.int .i64) 0
 have hS1:=UsR.nil
 refine aG Z (q3 (W_seq (q2 (mV Z (lN Z (mV Z (q3 (W_block ?_))))))))
 refine W_lp (hf:=(Sub.cons (t:=0) Z (Sub.cons (t:=5) Z (Sub.cons (t:=15) Z (Sub.cons (t:=16) Z Sub.nil))))) (J:=fun M w m=>∃(esm0:Array MapEntry) (ckm0:Nat) (xsm0:List (Int×Value)) (fm0:Int→Nat) (i:Nat) (G:PH),M=[(17,.int .i64 (i:Int))]∧PLe G0 G∧Hp w0 G0 [] w G [blk b1 (.map esm0 ckm0)]∧(MapIs (Value.int .i64) esm0 ckm0 xsm0∧UsR xsm0 fm0∧i≤trees.length∧(∀a,fm0 a=Sp.cntT (trees.take i) a∧fm0 a≤48*i)∧(trees.take i).all (fun t=>(t.flat []).all (fun x=>Sp.l4Ids Ls x.ids))=true)∧m=(trees.length-i)) (h0:=⟨_,_,[],(fun _=>0),0,_,Z,PLe.refl _,H,?inv,Z⟩) (round:=?round)
 case inv=>exact⟨hm1,hS1,(by simp[Sp.cntT])⟩
 case round =>
  rintro _ _ _ ⟨esm0,ckm0,xsm0,fm0,i,G2,rfl,hle2,H,hinv2,rfl⟩
  have hSs:=hSs.up hle2
  have hbs:=hbs.up hle2
  have htrees:=htrees.up hle2
  obtain⟨hm2_m0,hS2_m0,hinv2⟩:=hinv2
  obtain⟨_,hf,hok⟩:=hinv2
  refine q2 (pe 1 Z (q3 (W_seq ?_)))
  refine W_cond Z ?_ ?_
  ·intro hc3
   try simp only[nrm]at hc3
   refine W_skip (N_K (W_seq (W_block (q2 (iP i htrees Z3 Z ?_)))));intro _ _ z4 _ hz4 hE4 hrow4
   obtain⟨rfl,hnd4⟩:=hE4;obtain⟨_,_,_,_,_,_,_,hpr4,hri4,hrk4⟩:=hnd4.open;have hn_hri4:=hri4.len;have hx_hri4:_≤1099511627776:=hri4.lim;have hn_hrk4:=hrk4.len;have hx_hrk4:_≤1099511627776:=hrk4.lim
   try (have hzw:=htw z4 (List.mem_of_getElem? hz4);have hzf:=Nd.flat_len [] z4)
   refine lP H hrow4 0 Z2 (aG Z (q1 (mV Z (xc Z2 (i_tlist_c _ _ H.sub _ hnd4 hzw.1 oM) ?_))))
   rintro _ _ ⟨_,_,rfl,H5',⟨_,rfl,hO5⟩⟩
   have H:=H.readers (fp:=[]) (by simp) (PLe.refl _) H5'
   obtain⟨e25,hP5⟩:=hO5
   obtain⟨_,_,rfl⟩:=OwnS.shape hP5
   have hO5:=OIs.mk hP5
   refine⟨_,Z,?_⟩
   have hdm1:=dm_nodup H (k:=0) rfl;obtain⟨Gk1,H,hkl1,hks1⟩:=H.keepF (k:=0) rfl (fun b _ hb=>by simp at hb)
   have hrk1:=hO5.rd hks1 hdm1
   have hSs:=hSs.up hkl1
   have hbs:=hbs.up hkl1
   have hle2:=hle2.trans hkl1
   have hn_hrk1:=hrk1.len
   refine lN Z (mV Z (q3 (W_block ?_)))
   refine W_lp (hf:=(Sub.cons (t:=0) Z (Sub.cons (t:=5) Z (Sub.cons (t:=15) Z (Sub.cons (t:=16) Z (Sub.cons (t:=17) Z (Sub.cons (t:=22) Z (Sub.cons (t:=23) Z Sub.nil)))))))) (J:=fun M w m=>∃(esm0:Array MapEntry) (ckm0:Nat) (xsm0:List (Int×Value)) (fm0:Int→Nat) (jj:Nat) (G:PH),M=[(24,.int .i64 (jj:Int))]∧PLe Gk1 G∧Hp w0 G0 [] w G [blk b1 (.map esm0 ckm0)]∧(MapIs (Value.int .i64) esm0 ckm0 xsm0∧UsR xsm0 fm0∧jj≤(z4.flat []).length∧(∀a,fm0 a=Sp.cntT (trees.take i) a+Sp.cntU (z4.flat []) a jj∧fm0 a≤48*i+4*jj)∧((z4.flat []).take jj).all (fun x=>Sp.l4Ids Ls x.ids)=true)∧m=((z4.flat []).length-jj)) (h0:=⟨_,_,xsm0,fm0,0,_,Z,PLe.refl _,H,?inv,Z⟩) (round:=?round)
   case inv=>exact⟨hm2_m0,hS2_m0,(by exact⟨by omega,fun a=>(by have:=hf a;simp[Sp.cntU];omega),by simp⟩)⟩
   case round =>
    rintro _ _ _ ⟨esm0,ckm0,xsm0,fm0,jj,G6,rfl,hle6,H,hinv6,rfl⟩
    have hSs:=hSs.up hle6
    have hbs:=hbs.up hle6
    have hrk1:=hrk1.up hle6
    have hle2:=hle2.trans hle6
    obtain⟨hm6_m0,hS6_m0,hinv6⟩:=hinv6
    obtain⟨_,hf2,hok2⟩:=hinv6
    refine q2 (pe 1 Z (q3 (W_seq ?_)))
    refine W_cond Z ?_ ?_
    ·intro hc7
     try simp only[nrm]at hc7
     refine W_skip (N_K (W_seq (W_block (q2 (iP jj hrk1 Z3 Z ?_)))));intro _ _ z8 _ hz8 hE8 hrow8
     obtain⟨_,_,_,rfl,_,hr8,_,_⟩:=ox hE8
     try (have hzw:=htw z8 (List.mem_of_getElem? hz8);have hzf:=Nd.flat_len [] z8)
     refine o_loadagg_P H isAgg41 sizeOf41 Z Z hrow8 Z (xal H Z ?_);intro b9 _ _ H
     refine xst 0 H Z8 ?_;intro _ H
     refine q3 (W_seq (q2 (mV Z (fA 2 Z (lB 0 H Z3 (xr H Z2 (i_fileIds_c _ _ H.sub _ _ _ _ _ hbs hms hSs hVs _ _ hr8) ?_))))));intro _ H
     refine pe 1 Z (q3 ?_)
     refine W_cond Z ?_ ?_
     ·intro hc12
      try simp only[nrm]at hc12
      refine q2 (aG Z (q3 (W_ret (N_K_ret (N_B_ret (N_K_ret (N_LP_ret (N_B_ret (N_B_ret (N_K_ret (N_LP_ret (N_B_ret (N_K_ret (rt1 results99 Z ?_))))))))))))))
      exact H.rets (congrArg Value.bool (by rw[Sp.all_false hz4 (Sp.all_false hz8 (by simpa using hc12)),Bool.false_and]))
     intro hc12'
     try simp only[nrm]at hc12'
     have hio:Sp.l4Ids Ls z8.ids=true:=by simpa using hc12'
     have hil:=Sp.ids_le hio
     refine W_skip (N_K (q2 (fA 2 Z (lB 0 H Z3 (lN Z (mV Z (q3 (W_block ?_))))))))
     obtain⟨ln13,hln13,H⟩:=H.name (k:=0) rfl
     refine W_lp (hf:=(Sub.cons (t:=0) Z (Sub.cons (t:=5) Z (Sub.cons (t:=15) Z (Sub.cons (t:=16) Z (Sub.cons (t:=17) Z (Sub.cons (t:=22) Z (Sub.cons (t:=23) Z (Sub.cons (t:=24) Z (Sub.cons (t:=34) Z (Sub.cons (t:=35) Z Sub.nil))))))))))) (J:=fun M w m=>∃(esm0:Array MapEntry) (ckm0:Nat) (xsm0:List (Int×Value)) (fm0:Int→Nat) (kk:Nat) (G:PH),M=[(36,.int .i64 (kk:Int))]∧PLe G6 G∧Hp w0 G0 [] w G [blk b9 (cl ln13 41),blk b1 (.map esm0 ckm0)]∧(MapIs (Value.int .i64) esm0 ckm0 xsm0∧UsR xsm0 fm0∧kk≤z8.ids.length∧(∀a,fm0 a=Sp.cntT (trees.take i) a+Sp.cntU (z4.flat []) a jj+Sp.cnt1 a (z8.ids.take kk)∧fm0 a≤48*i+4*jj+kk))∧m=(z8.ids.length-kk)) (h0:=⟨_,_,xsm0,fm0,0,_,Z,PLe.refl _,H,?inv,Z⟩) (round:=?round)
     case inv=>exact⟨hm6_m0,hS6_m0,(by exact⟨by omega,fun a=>(by have:=hf2 a;simp[Sp.cnt1];omega)⟩)⟩
     case round =>
      rintro _ _ _ ⟨esm0,ckm0,xsm0,fm0,kk,_,rfl,hle14,H,hinv14,rfl⟩
      subst hln13
      have hr8:=hr8.up hle14
      have hle6:=hle6.trans hle14
      obtain⟨hm14_m0,hS14_m0,hinv14⟩:=hinv14
      obtain⟨_,hf3⟩:=hinv14;have hb3:=fun a=>(hf3 a).2
      refine q2 (pe 1 Z (q3 (W_seq ?_)))
      refine W_cond Z ?_ ?_
      ·intro hc15
       try simp only[nrm]at hc15
       refine W_skip (N_K (W_seq (W_block (q2 (iP kk hr8 Z3 Z ?_)))));intro _ _ z16 _ hz16 hE16 hrow16
       obtain⟨rfl,_⟩:=hE16
       refine lP H hrow16 0 Z2 (aG Z (q3 (W_region (pe 2 Z (o_lookU (H.at (k:=1) Z) hm14_m0 hS14_m0 underlying215 underlying3 zeroValue3 Z Z Z ?_)))))
       try (have h7:=hb3 z16)
       refine aD Z2 (o_updU 1 H (fm0 z16+1) Z hm14_m0 hS14_m0 underlying215 underlying3 Z Z Z oM ?_);intro _ _ xs19 _ H hm19 hS19
       refine R_nil (N_B (N_K (W_region (aD Z2 (mV Z (R_nil ?_))))))
       refine N_lp (hJ:=⟨_,_,xs19,(fun a=>if a=z16 then(fm0 z16+1) else fm0 a),kk+1,_,Z,hle14,H,?inv,Z⟩) (hm:=?hm)
       case hm=>omega
       case inv=>exact⟨hm19,hS19,(by exact⟨by omega,fun a=>(by have h9:=hf3 a;have h7:=hf3 z16;(rw[Sp.cnt1_succ hz16]);by_cases e:a=z16;(· subst e;simp;omega);(· have e2:¬z16=a:=fun h=>e h.symm;simp only[e,e2,if_false];omega))⟩)⟩
      intro hc15'
      try simp only[nrm]at hc15'
      refine W_exit (N_K_exit (N_LP_exit (N_B_same (N_B (N_K (W_region (aD Z2 (mV Z (R_nil ?_)))))))))
      have H:=H.dl 0
      refine N_lp (hJ:=⟨_,_,xsm0,fm0,jj+1,_,Z,hle6,H,?inv,Z⟩) (hm:=?hm)
      case hm=>omega
      case inv=>exact⟨hm14_m0,hS14_m0,(by exact⟨by omega,fun a=>(by have h9:=hf3 a;(rw[Sp.cntU_succ hz8]);(rw[List.take_of_length_le (l:=z8.ids) oM]at h9);omega),Sp.all_take hok2 hz8 hio⟩)⟩
    intro hc7'
    try simp only[nrm]at hc7'
    refine W_exit (N_K_exit (N_LP_exit (N_B_same (N_B (N_K (W_region (aD Z2 (mV Z (R_nil ?_)))))))))
    refine N_lp (hJ:=⟨_,_,xsm0,fm0,i+1,_,Z,hle2,H,?inv,Z⟩) (hm:=?hm)
    case hm=>omega
    case inv=>exact⟨hm6_m0,hS6_m0,(by exact⟨by omega,fun a=>(by have h9:=hf2 a;have h10:=Sp.cntT_succ (id:=a) hz4;have h8:(z4.flat []).length=jj:=oM;(rw[h8]at h10);omega),Sp.all_take hok hz4 (by (rw[List.take_of_length_le (l:=z4.flat []) oM]at hok2);exact hok2)⟩)⟩
  intro hc3'
  try simp only[nrm]at hc3'
  refine W_exit (N_K_exit (N_LP_exit (N_B_same (N_K (W_seq (q2 (mV Z ?_)))))))
  have hmb23:=(hbs.at H.sub);refine o_range H hmb23 underlying147 rfl rfl ?_;intro r23 _ _ H _;have hne23:r23≠mbs:=fun e=>by have:=(Array.getElem?_eq_some_iff.1 hmb23).1;omega
  refine q3 (W_block ?_)
  refine W_lp (hf:=(Sub.cons (t:=5) Z (Sub.cons (t:=48) Z Sub.nil))) (J:=fun M w m=>∃(sn:Array Nat) (G:PH),M=[]∧PLe G2 G∧Hp w0 G0 [] w G [blk r23 (.mapIter (some mbs) cks sn cks),blk b1 (.map esm0 ckm0)]∧(∀y,y ∈ Ls→seenH ess sn y→(Sp.cntT trees y.id:Int)=y.uses)∧m=((leftOf ess sn).size)) (h0:=⟨#[],_,Z,PLe.refl _,H,?inv,Z⟩) (round:=?round)
  case inv=>rintro y hy ⟨e,_,_,he⟩;simp at he
  case round =>
   rintro _ _ _ ⟨sn,_,rfl,hle24,H,hinv24,rfl⟩
   have hSs:=hSs.up hle24
   have hbs:=hbs.up hle24
   have hsn:=hinv24
   refine q2 ?_
   refine o_next 0 H (hbs.at H.sub) hms hSs Z hne23 Z Z ?_ ?_
   ·intro hall25
    refine pe 1 Z (q3 (W_seq (W_false Z (W_exit (N_K_exit (N_LP_exit (N_B_same (N_K (q2 (aG Z (q3 (W_ret (rt1 results99 Z ?_)))))))))))))
    have hot:=hok;rw[List.take_of_length_le oM]at hot
    exact H.rets (congrArg Value.bool (by (rw[hot,Bool.true_and]);symm;(rw[List.all_eq_true]);intro y hy;simp only[decide_eq_true_eq];exact hsn y hy (hall25 y hy)))
   intro e25 _ _ _ he25 hk25 hv25 hy25 hE25 _ hless25 H
   obtain⟨_,_,_,rfl,_,_,_,_,_⟩:=ox hE25
   refine pe 1 Z (q3 (W_seq (W_true Z (W_skip (N_K (W_block (q2 (o_entry 0 H (hbs.at H.sub) hms Z he25 hk25 hv25 Z Z (pe 2 Z (xal H Z ?_))))))))));intro _ _ _ H
   refine aG Z (xst 0 H Z8 ?_);intro _ H
   refine q1 (pe 2 Z (o_lookU (H.at (k:=2) Z) hm2_m0 hS2_m0 underlying215 underlying3 zeroValue3 Z Z Z (fA 2 Z (lB 0 H Z3 (pe 1 Z (q3 ?_))))))
   refine W_cond Z ?_ ?_
   ·intro hc29
    try simp only[nrm]at hc29
    refine q2 (aG Z (q3 (W_ret (N_B_ret (N_LP_ret (N_B_ret (N_K_ret (rt1 results99 Z ?_))))))))
    have hft:∀a,fm0 a=Sp.cntT trees a:=fun a=>(by have h9:=(hf a).1;(rw[List.take_of_length_le oM]at h9);exact h9)
    have hot:=hok;rw[List.take_of_length_le oM]at hot
    exact H.rets (congrArg Value.bool (by (rw[hot,Bool.true_and]);symm;(rw[List.all_eq_false]);exact⟨_,hy25,by simp only[decide_eq_true_eq];(rw[←hft]);first|exact hc29|(simpa using hc29)|omega⟩))
   intro hc29'
   try simp only[nrm]at hc29'
   refine W_skip (N_B ?_)
   have H:=H.dl 0
   refine N_lp (hJ:=⟨_,_,Z,hle24,H,?inv,Z⟩) (hm:=?hm)
   case hm=>exact hless25
   case inv=>intro y hy hs;rcases seenH_push hms (hSs.nd hms) he25 hk25 hy25 hy hs with rfl|h;(· (have h9:=(hf y.id).1;(rw[List.take_of_length_le oM]at h9);(rw[←h9]);first|exact hc29'|(simpa using hc29')|omega));exact hsn y hy h
theorem i_StoreValid_c (w0:World)(G0:PH)(hG:PSub G0 w0)(vlist:Value)(list:List (BHeld))(hlist:RdH G0 vlist list) :
  Calls Tryz.prog 182 #[vlist] w0 (Rets w0 (.bool (Sp.StoreValid list))):=by
 obtain⟨alist,klist,rfl⟩:=hlist.shape
 have hlimlist:list.length≤1099511627776:=hlist.lim
 have H:=Hp.init hG
 refine calls_of_W (l:=[.slice alist list.length klist]) func182 Z ntmps182 Z (q2 (aG Z (q3 (W_seq (q2 (mV Z (lN Z (pe 1 Z (q3 ?_)))))))))
 refine W_cond Z ?_ ?_
 ·intro hc1
  try simp only[nrm]at hc1
  refine q2 (aG Z (q3 (W_ret (N_K_ret (rt1 results182 Z ?_)))))
  exact H.rets (congrArg Value.bool (by rw[Sp.sv_long oM]))
 intro hc1'
 try simp only[nrm]at hc1'
 refine W_skip (N_K (q2 (aG Z (q3 (W_seq (q2 (mV Z (lN Z (mV Z (q3 (W_block ?_)))))))))))
 refine W_lp (hf:=(Sub.cons (t:=0) Z (Sub.cons (t:=11) Z (Sub.cons (t:=12) Z Sub.nil)))) (J:=fun M w m=>∃(k:Nat) (la:Int) (G:PH),M=[(13,.int .i64 (k:Int)),(3,.int .i64 la)]∧PLe G0 G∧Hp w0 G0 [] w G []∧(k≤list.length∧la=Sp.lastId list k∧(∀j,j<k→Sp.okH list j=true)∧inI la)∧m=(list.length-k)) (h0:=⟨0,0,_,Z,PLe.refl _,H,?inv,Z⟩) (round:=?round)
 case inv=>exact⟨by omega,rfl,fun j hj=>by omega,by decide⟩
 case round =>
  rintro _ _ _ ⟨k,la,G2,rfl,hle2,H,hinv2,rfl⟩
  have hlist:=hlist.up hle2
  obtain⟨_,_,hall,_⟩:=hinv2
  refine q2 (pe 1 Z (q3 (W_seq ?_)))
  refine W_cond Z ?_ ?_
  ·intro hc3
   try simp only[nrm]at hc3
   refine W_skip (N_K (W_seq (W_block (q2 (mV Z (iP k hlist Z3 Z ?_))))));intro _ _ z4 _ hz4 hE4 hrow4
   obtain⟨_,_,_,rfl,hi4,hr4,_,_,_⟩:=ox hE4
   refine o_loadagg_P H isAgg139 sizeOf139 Z Z hrow4 Z (xal H Z ?_);intro b5 _ _ H
   refine aG Z (xst 0 H Z8 ?_);intro _ H
   refine q3 (W_seq (q2 (fA 0 Z (lB 0 H Z3 (pe 3 Z ?_)))))
   refine R_case (t:=22) Z ?_ ?_
   ·intro hc7
    try simp only[nrm]at hc7
    refine pe 20 Z (q3 (W_true Z (q2 (aG Z (q3 (W_ret (N_K_ret (N_B_ret (N_K_ret (N_LP_ret (N_B_ret (N_K_ret (rt1 results182 Z ?_)))))))))))))
    exact H.rets (congrArg Value.bool (by rw[Sp.sv_false (k:=k) oM (Sp.okH_last hz4 oM)]))
   intro hc7'
   try simp only[nrm]at hc7'
   refine gR Z (fA 0 Z (gR Z (lB 0 H Z3 (pe 3 Z ?_))))
   refine R_case (t:=27) Z ?_ ?_
   ·intro hc8
    try simp only[nrm]at hc8
    refine pe 15 Z (q3 (W_true Z (q2 (aG Z (q3 (W_ret (N_K_ret (N_B_ret (N_K_ret (N_LP_ret (N_B_ret (N_K_ret (rt1 results182 Z ?_)))))))))))))
    exact H.rets (congrArg Value.bool (by rw[Sp.sv_false (k:=k) oM (Sp.okH_id hz4 oM)]))
   intro hc8'
   try simp only[nrm]at hc8'
   refine gR Z (fA 2 Z (gR Z (lB 0 H Z3 (pe 3 Z ?_))))
   refine R_case (t:=32) Z ?_ ?_
   ·intro hc9
    try simp only[nrm]at hc9
    refine pe 10 Z (q3 (W_true Z (q2 (aG Z (q3 (W_ret (N_K_ret (N_B_ret (N_K_ret (N_LP_ret (N_B_ret (N_K_ret (rt1 results182 Z ?_)))))))))))))
    exact H.rets (congrArg Value.bool (by rw[Sp.sv_false (k:=k) oM (Sp.okH_id hz4 oM)]))
   intro hc9'
   try simp only[nrm]at hc9'
   refine gR Z (fA 2 Z (gR Z (lB 0 H Z3 (pe 3 Z ?_))))
   refine R_case (t:=37) Z ?_ ?_
   ·intro hc10
    try simp only[nrm]at hc10
    refine pe 5 Z (q3 (W_true Z (q2 (aG Z (q3 (W_ret (N_K_ret (N_B_ret (N_K_ret (N_LP_ret (N_B_ret (N_K_ret (rt1 results182 Z ?_)))))))))))))
    exact H.rets (congrArg Value.bool (by rw[Sp.sv_false (k:=k) oM (Sp.okH_id hz4 oM)]))
   intro hc10'
   try simp only[nrm]at hc10'
   refine gR Z (fA 1 Z (gR Z (lB 0 H Z3 (gR Z (xr H Z2 (i_BlockValid_c _ _ H.sub _ _ hr4) ?_)))));intro _ H
   refine pe 2 Z (q3 ?_)
   refine W_cond Z ?_ ?_
   ·intro hc12
    try simp only[nrm]at hc12
    refine q2 (aG Z (q3 (W_ret (N_K_ret (N_B_ret (N_K_ret (N_LP_ret (N_B_ret (N_K_ret (rt1 results182 Z ?_))))))))))
    exact H.rets (congrArg Value.bool (by rw[Sp.sv_false (k:=k) oM (Sp.okH_id hz4 (by exact .inr (.inr (.inr (by simpa using hc12)))))]))
   intro hc12'
   try simp only[nrm]at hc12'
   refine W_skip (N_K (W_seq (q2 (pe 2 Z ?_))))
   have hcap13:=hlist.cap;try simp only[List.length_set,List.length_append,List.length_take,List.length_drop,List.length_replicate]at hcap13
   refine o_slice_to (j:=k) underlying23 sizeOf139 Z Z Z oM oM ?_
   have hsl13:=hlist.take (j:=k) aN
   have hsn1:=hsl13.len
   refine lN Z (mV Z (q3 (W_block ?_)))
   obtain⟨ln14,hln14,H⟩:=H.name (k:=0) rfl
   refine W_lp (hf:=(Sub.cons (t:=0) Z (Sub.cons (t:=3) Z (Sub.cons (t:=5) Z (Sub.cons (t:=11) Z (Sub.cons (t:=12) Z (Sub.cons (t:=13) Z (Sub.cons (t:=45) Z (Sub.cons (t:=46) Z Sub.nil))))))))) (J:=fun M w m=>∃(j:Nat) (G:PH),M=[(47,.int .i64 (j:Int))]∧PLe G2 G∧Hp w0 G0 [] w G [blk b5 (cl ln14 139)]∧(j≤k∧(list.take j).all (fun g=> !Sp.l2Same g.bytes z4.bytes)=true)∧m=(k-j)) (h0:=⟨0,_,Z,PLe.refl _,H,?inv,Z⟩) (round:=?round)
   case inv=>exact⟨by omega,by simp⟩
   case round =>
    rintro _ _ _ ⟨j,_,rfl,hle15,H,hinv15,rfl⟩
    subst hln14
    have hr4:=hr4.up hle15
    have hsl13:=hsl13.up hle15
    have hle2:=hle2.trans hle15
    obtain⟨hj,hall2⟩:=hinv15
    refine q2 (pe 1 Z (q3 (W_seq ?_)))
    refine W_cond Z ?_ ?_
    ·intro hc16
     try simp only[nrm]at hc16
     refine W_skip (N_K (W_seq (W_block (q2 (iP j hsl13 Z3 Z ?_)))));intro _ _ _ _ hz17 hE17 hrow17
     obtain⟨_,_,_,rfl,_,hr17,_,_,_⟩:=ox hE17
     rw[List.getElem?_take,if_pos oM]at hz17
     refine o_loadagg_P H isAgg139 sizeOf139 Z Z hrow17 Z (xal H Z ?_);intro _ _ _ H
     refine xst 0 H Z8 ?_;intro _ H
     refine q1 (fA 1 Z (lB 0 H Z3 (fA 1 Z (lB 1 H Z3 (xr H Z2 (l_Equal_c _ _ H.sub _ _ hr17 _ _ hr4) ?_)))));intro _ H
     refine q3 ?_
     refine W_cond Z ?_ ?_
     ·intro hc21
      try simp only[nrm]at hc21
      refine q2 (aG Z (q3 (W_ret (N_B_ret (N_K_ret (N_LP_ret (N_B_ret (N_K_ret (N_B_ret (N_K_ret (N_LP_ret (N_B_ret (N_K_ret (rt1 results182 Z ?_))))))))))))))
      exact H.rets (congrArg Value.bool (by rw[Sp.sv_false (k:=k) oM (Sp.okH_dup hz4 oM hz17 hc21)]))
     intro hc21'
     try simp only[nrm]at hc21'
     refine W_skip (N_B (N_K (W_region (aD Z2 (mV Z (R_nil ?_))))))
     have H:=H.dl 0
     refine N_lp (hJ:=⟨j+1,_,Z,hle15,H,?inv,Z⟩) (hm:=?hm)
     case hm=>omega
     case inv=>exact⟨by omega,Sp.all_take hall2 hz17 (by simp[hc21'])⟩
    intro hc16'
    try simp only[nrm]at hc16'
    refine W_exit (N_K_exit (N_LP_exit (N_B_same (N_K (W_region (fA 0 Z (lB 0 H Z3 (aG Z (R_nil (N_B (N_K (W_region (aD Z2 (mV Z (R_nil ?_)))))))))))))))
    have H:=H.dl 0
    refine N_lp (hJ:=⟨k+1,z4.id,_,Z,hle2,H,?inv,Z⟩) (hm:=?hm)
    case hm=>omega
    case inv=>(obtain rfl:j=k:=by omega);exact⟨by omega,(Sp.lastId_succ hz4).symm,Sp.upto_succ hall (Sp.okH_mk hz4 hall oM oM (by simpa using hc12') oM hall2),hi4⟩
  intro hc3'
  try simp only[nrm]at hc3'
  refine W_exit (N_K_exit (N_LP_exit (N_B_same (N_K (q2 (aG Z (q3 (W_ret (rt1 results182 Z ?_)))))))))
  exact H.rets (congrArg Value.bool (by rw[Sp.sv_true (fun j hj=>hall j oM) oM]))
theorem i_openStore_c (w0:World)(G0:PH)(hG:PSub G0 w0)(vlist:Value)(list:List (BHeld))(hlist:RdH G0 vlist list)(hLent:Lent w0 G0 []) :
  Calls Tryz.prog 154 #[vlist] w0 (RetM w0 G0 [] (fun G' v Bs=>(Sp.StoreValid list=false∧v= .tuple #[.map none,.bool false]∧Bs=[])∨(Sp.VH list∧∃(mb:Nat) (es':Array MapEntry) (ck':Nat) (xs':List (Int×Value)),v= .tuple #[.map (some mb),.bool true]∧Bs=[blk mb (.map es' ck')]∧MapIs (Value.int .i64) es' ck' xs'∧StR G' xs' list))):=by
 obtain⟨alist,klist,rfl⟩:=hlist.shape
 have hlimlist:list.length≤1099511627776:=hlist.lim
 have H:Hp w0 G0 [] w0 G0 []:=hLent.hp
 refine calls_of_W (l:=[.slice alist list.length klist]) func154 Z ntmps154 Z (q2 (pe 2 Z (q3 (W_seq (q2 (mV Z (xr H Z2 (i_StoreValid_c _ _ H.sub _ _ hlist) ?_)))))));intro _ H
 refine pe 1 Z (q3 ?_)
 refine W_cond Z ?_ ?_
 ·intro hc2
  try simp only[nrm]at hc2
  refine q2 (pe 2 Z (q3 (W_ret (N_K_ret (rt2 results154 Z Z ?_)))))
  exact H.retM (.inl ⟨by simpa using hc2,rfl,rfl⟩)
 intro hc2'
 try simp only[nrm]at hc2'
 have hVl:=Sp.valid_iff.1 (by simpa using hc2':Sp.StoreValid list=true)
 refine W_skip (N_K (q2 (o_makeMap H Z ?_)));intro b3 _ _ H
 have hm3:=MapIs.empty (key:=Value.int .i64) 0
 have hS3:=StR.nil G0
 refine aG Z (q3 (W_seq (q2 (mV Z (lN Z (mV Z (q3 (W_block ?_))))))))
 refine W_lp (hf:=(Sub.cons (t:=2) Z (Sub.cons (t:=3) Z (Sub.cons (t:=4) Z (Sub.cons (t:=11) Z (Sub.cons (t:=12) Z Sub.nil)))))) (J:=fun M w m=>∃(esm0:Array MapEntry) (ckm0:Nat) (xsm0:List (Int×Value)) (Lm0:List BHeld) (k:Nat) (G:PH),M=[(13,.int .i64 (k:Int))]∧PLe G0 G∧Hp w0 G0 [] w G [blk b3 (.map esm0 ckm0)]∧(MapIs (Value.int .i64) esm0 ckm0 xsm0∧StR G xsm0 Lm0∧Sp.VH Lm0∧k≤list.length∧Lm0=list.take k)∧m=(list.length-k)) (h0:=⟨_,_,[],[],0,_,Z,PLe.refl _,H,?inv,Z⟩) (round:=?round)
 case inv=>exact⟨hm3,hS3,Sp.VH_nil,(by simp)⟩
 case round =>
  rintro _ _ _ ⟨esm0,ckm0,xsm0,Lm0,k,G4,rfl,hle4,H,hinv4,rfl⟩
  have hlist:=hlist.up hle4
  obtain⟨hm4_m0,hS4_m0,_,hinv4⟩:=hinv4
  obtain⟨_,rfl⟩:=hinv4
  refine q2 (pe 1 Z (q3 (W_seq ?_)))
  refine W_cond Z ?_ ?_
  ·intro hc5
   try simp only[nrm]at hc5
   refine W_skip (N_K (W_seq (W_block (q2 (iP k hlist Z3 Z ?_)))));intro _ _ z6 _ hz6 hE6 hrow6
   obtain⟨_,_,_,rfl,_,hr6,_,_,_⟩:=ox hE6
   refine o_loadagg_P H isAgg139 sizeOf139 Z Z hrow6 Z (xal H Z ?_);intro _ _ _ H
   refine xst 0 H Z8 ?_;intro _ H
   refine q3 (W_drawK [0] 12 H kR Z ?_);intro _ H;have hd9:=PLe.refl G4
   refine dE 0 Z2 (dF 1 0 Z2 (dB 2 0 Z4 (dF 3 0 Z2 (dB 4 0 Z4 (dF 5 1 Z2 (dB 6 0 Z4 (dF 8 2 Z2 (dB 9 0 Z4 (r1 7 Z (xc Z2 (l_Clone_c _ _ H.sub _ _ hr6) ?_))))))))))
   rintro _ _ ⟨_,_,_,g10,rfl,⟨_,rfl,hchk10⟩,hp10,hq10,hs10⟩
   have H:=H.growO g10 hp10 hq10 hs10;obtain⟨_,_,rfl⟩:=H.accShape (k:=0) rfl
   have hS4_m0:=hS4_m0.up g10.le
   have hle4:=hle4.trans g10.le
   have hd9:=hd9.trans g10.le
   refine⟨_,Z,?_⟩
   refine q4 H hd9 (RD_t 10 Z kR Z (fun _ hK=>v_build bf139 Z Z) (r1 11 Z ?_))
   obtain⟨G12,H,hsg12,hsr12⟩:=H.shutL (k:=0) rfl (H.apart (k:=0) (ks:=[]) rfl rfl (by intro _ hb;simpa [fpsAt,nth,blk] using hb)) hchk10 aN aN
   have hS4_m0:=hS4_m0.up hsg12
   have hle4:=hle4.trans hsg12
   refine o_updS 1 H z6 Z hm4_m0 hS4_m0 underlying147 underlying3 Z Z Z (show heldE G12 z6 _ from⟨_,_,_,Z,⟨by first|omega|(dsimp only;omega),by first|omega|(dsimp only;omega)⟩,hsr12,⟨by first|omega|(dsimp only;omega),by first|omega|(dsimp only;omega)⟩⟩) rfl ?_;intro _ _ xs11 _ H hm11 hS11
   refine R_nil (N_DKlast kR kR (N_B (N_K (W_region ?_))))
   rw[Sp.upd_take hVl hz6]at hS11
   refine aD Z2 (mV Z (R_nil ?_))
   have H:=H.dl 0
   refine N_lp (hJ:=⟨_,_,xs11,(list.take (k+1)),k+1,_,Z,hle4,H,?inv,Z⟩) (hm:=?hm)
   case hm=>omega
   case inv=>exact⟨hm11,hS11,(hVl.take (k+1)),(by exact⟨by omega,rfl⟩)⟩
  intro hc5'
  try simp only[nrm]at hc5'
  refine W_exit (N_K_exit (N_LP_exit (N_B_same (N_K (q2 (pe 3 Z (q3 (W_ret (rt2 results154 Z Z ?_)))))))))
  rw[List.take_of_length_le oM]at hS4_m0
  exact H.retM (.inr ⟨hVl,_,_,_,_,Z,Z,hm4_m0,hS4_m0⟩)
theorem i_slist_c (w0:World)(G0:PH)(hG:PSub G0 w0)(mbs:Nat)(ess:Array MapEntry)(cks:Nat)(xss:List (Int×Value))(Ls:List BHeld)(hbs:MapAt G0 mbs ess cks)(hms:MapIs (Value.int .i64) ess cks xss)(hSs:StR G0 xss Ls)(hVs:Sp.VH Ls) :
  Calls Tryz.prog 105 #[.map (some mbs)] w0 (RetN w0 G0 (fun v Bs=>∃(F:Fr),Bs=[frag F]∧OHs F v Ls)):=by
 have hl16:=hVs.len
 have H:=Hp.init hG
 refine calls_of_W (l:=[.map (some mbs)]) func105 Z ntmps105 Z (q2 (aG Z (q1 (mV Z ?_))))
 have hml1:=hSs.len
 refine o_lenM (hbs.at H.sub) hms underlying147 Z Z (o_make0 (c:=Ls.length) (sz:=3) (bytes:=40) H underlying23 typeInfo139 ⟨_,Z,Z⟩ Z Z Z Z Z Z oM oM Z ?_);intro _ _ H
 refine aG Z (q3 (W_seq (q2 (mV Z (o_call call163 Z Z (keys_c _ _ H.sub _) ?_)))));rintro _ w3 ⟨kb3,rfl,hkb3,ek3,hkc3⟩;have H:=H.step ek3;refine⟨_,rfl,?_⟩
 refine o_call call162 Z Z (sorted_c _ _ _ hkc3 (hbs.at H.sub) hms hSs hVs) ?_;rintro _ w4 ⟨v4,rfl,ek4,hp4,hf4⟩;have H:=H.add ek4 _ hp4 hf4 (acc_nd _ _ _ _ _)
 have hchk4:=chkIds G0 hVs;obtain⟨_,_,rfl⟩:=H.accShape (k:=0) rfl;refine⟨_,rfl,?_⟩
 refine lN Z (mV Z (q3 (W_block ?_)))
 obtain⟨G5,H,hsg5,hsr5⟩:=H.shut' (k:=0) rfl hchk4 aN aN
 have hSs:=hSs.up hsg5
 have hbs:=hbs.up hsg5
 have H:=H.addF
 refine W_lp (hf:=(Sub.cons (t:=0) Z (Sub.cons (t:=2) Z (Sub.cons (t:=12) Z (Sub.cons (t:=13) Z Sub.nil))))) (J:=fun M w m=>∃(v:Value) (n:Nat) (cs:List Value) (xs:List (BHeld)) (F:Fr) (k:Nat) (G:PH),M=[(14,.int .i64 (k:Int)),(3,v)]∧PLe G5 G∧Hp w0 G0 [] w G [frag F,acc 139 3 v n cs]∧(ChkF heldO 3 cs xs F∧n=xs.length∧k≤Ls.length∧xs=Ls.take k)∧m=(Ls.length-k)) (h0:=⟨_,_,_,[],[],0,_,Z,PLe.refl _,H,?inv,Z⟩) (round:=?round)
 case inv=>exact⟨ChkF.nil,by first|rfl|simp|(simp;omega)|omega,(by simp)⟩
 case round =>
  rintro _ _ _ ⟨v,n,cs,xs,F,k,G6,rfl,hle6,H,hinv6,rfl⟩
  have hSs:=hSs.up hle6
  have hbs:=hbs.up hle6
  have hsr5:=hsr5.up hle6
  obtain⟨hchk6_0,_,hinv6⟩:=hinv6
  obtain⟨_,_,rfl⟩:=H.accShape (k:=1) rfl
  obtain⟨_,hxs⟩:=hinv6;have hxl:xs.length≤16:=by rw[hxs];simp;omega
  refine q2 (pe 1 Z (q3 (W_seq ?_)))
  refine W_cond Z ?_ ?_
  ·intro hc7
   try simp only[nrm]at hc7
   refine W_skip (N_K (W_seq (W_block (q2 (iP k hsr5 Z3 Z ?_)))));intro _ _ z8 _ hz8 hE8 hrow8
   obtain⟨rfl,_⟩:=hE8
   refine lP H hrow8 0 Z2 (aG Z (q1 (pe 2 Z (o_lookS (hbs.at H.sub) hms hSs underlying147 underlying3 zeroValue139 Z Z Z ?_))));intro _ hE9
   obtain⟨_,_,_,rfl,_,hr9,_,_,_⟩:=ox hE9
   have hgb:=Sp.get_len hVs z8
   have hat:=Sp.get_at hVs hz8
   refine xal H Z ?_;intro _ _ _ H
   refine xst 0 H Z8 ?_;intro _ H
   refine q3 (W_drawK [0] 11 H kR Z ?_);intro _ H;have hd12:=PLe.refl G6
   refine dE 0 Z2 (dE 1 Z2 (dF 2 1 Z2 (dB 3 0 Z4 (dF 5 2 Z2 (dB 6 0 Z4 (r1 4 Z (xc Z2 (l_Clone_c _ _ H.sub _ _ hr9) ?_)))))))
   rintro _ _ ⟨_,_,_,g13,rfl,⟨_,rfl,hchk13⟩,hp13,hq13,hs13⟩
   have H:=H.growO g13 hp13 hq13 hs13;obtain⟨_,_,rfl⟩:=H.accShape (k:=0) rfl
   have hle6:=hle6.trans g13.le
   have hd12:=hd12.trans g13.le
   refine⟨_,Z,?_⟩
   refine q4 H hd12 (RD_t 7 Z kR Z (fun _ hK=>v_build bf139 Z Z) (r1 8 Z (xbs H Z7 ?_)));intro _ _ _ H
   refine q4 H hd12 (r1 9 Z (o_append1 3 H (sz:=3) (bytes:=40) underlying23 typeInfo139 ⟨_,Z,Z⟩ Z Z Z Z Z Z Z Z Z Z oM Z ?_));intro _ _ H
   obtain⟨Fi2,H,hOI2⟩:=H.ownI (k:=0) rfl hchk13 aN aN
   have hchk15:=hchk6_0.snoc (show heldO Fi2 ⟨z8,(getH Ls z8).bytes,(getH Ls z8).uses⟩ _ from⟨_,_,_,rfl,⟨by first|omega|(dsimp only;omega),by first|omega|(dsimp only;omega)⟩,hOI2,⟨by first|omega|(dsimp only;omega),by first|omega|(dsimp only;omega)⟩⟩) rfl
   have H:=H.tF 2
   have H:=H.mergeF
   obtain⟨_,_,rfl⟩:=H.accShape (k:=2) rfl
   refine q4 H hd12 (dE 10 Z2 (rz (N_B (N_K (W_region (aD Z2 (mV Z (R_nil ?_))))))))
   have H:=H.dl 1
   refine N_lp (hJ:=⟨_,_,_,(xs++[⟨z8,(getH Ls z8).bytes,(getH Ls z8).uses⟩]),(F++Fi2),k+1,_,Z,hle6,H,?inv,Z⟩) (hm:=?hm)
   case hm=>omega
   case inv=>exact⟨hchk15,aN,(by exact⟨by omega,by rw[Sp.take_succ' hat,hxs]⟩)⟩
  intro hc7'
  try simp only[nrm]at hc7'
  refine W_exit (N_K_exit (N_LP_exit (N_B_same (N_K (q2 (pe 2 Z (q3 (W_ret (rt1 results105 Z ?_)))))))))
  have H:=H.tF 1
  obtain⟨_,H,hOw3⟩:=H.ownF hchk6_0 aN aN
  have hX:xs=Ls:=by rw[hxs,List.take_of_length_le oM]
  have H:=H.forget hG (by simp)
  exact⟨_,_,Z,H,_,Z,hX▸⟨_,hOw3⟩⟩
theorem i_newVolume_c (w0:World)(G0:PH)(hG:PSub G0 w0)(vstore:Value)(store:List (BHeld))(hstore:RdH G0 vstore store)(vtree:Value)(tree:List (BItem))(htree:RdItems G0 vtree tree)(hLent:Lent w0 G0 []) :
  Calls Tryz.prog 96 #[vstore,vtree] w0 (RetM w0 G0 [] (fun G' v Bs=>(v= .tuple #[.agg #[.map none,.pointer none],.bool false]∧Bs=[]∧(Sp.StoreValid store&&Sp.TreeValid tree)=false)∨(∃(mb:Nat) (es:Array MapEntry) (ck:Nat) (xs:List (Int×Value)) (T:Nd) (F:Fr),v= .tuple #[.agg #[.map (some mb),.pointer (some ⟨T.b,0,none⟩)],.bool true]∧Bs=[blk mb (.map es ck),frag F]∧MapIs (Value.int .i64) es ck xs∧StR G' xs store∧Sp.VH store∧NdO 90 84 G' T F∧Nd.TOK T tree∧Sp.TreeValid tree=true))):=by
 obtain⟨astore,kstore,rfl⟩:=hstore.shape
 have hlimstore:store.length≤1099511627776:=hstore.lim
 obtain⟨atree,ktree,rfl⟩:=htree.shape
 have hlimtree:tree.length≤1099511627776:=htree.lim
 have H:Hp w0 G0 [] w0 G0 []:=hLent.hp
 refine calls_of_W (l:=[.slice astore store.length kstore,.slice atree tree.length ktree]) func96 Z ntmps96 Z (q2 (xal H Z ?_));intro _ _ _ H
 refine aG Z (q1 (mV Z (xc Z2 (i_openStore_c _ _ H.sub _ _ hstore H.lent0) ?_)))
 rintro _ _ ⟨_,_,_,rfl,H2',⟨_,rfl,rfl⟩|⟨hV2,_,_,_,_,rfl,rfl,hm2,hS2⟩⟩
 ·skip
  have H:=H.borrow0 H2'
  refine⟨_,Z,?_⟩
  refine pe 5 Z (q3 (W_seq (q2 (pe 2 Z (q3 (W_true Z (q2 (o_build bf149 Z Z Z (xst 0 H Z8 ?_)))))))));intro _ H
  refine aG Z (q3 (W_ret (N_K_ret (ret_gen (rs:=[.cell 4 149,.tmp 5]) (vs:=[_,_]) results96 ⟨⟨_,Z,load_blk 0 H isAgg149 sizeOf149 Z Z Z⟩,Z,trivial⟩ ?_))))
  have H:=H.dl 0
  exact H.retM (.inl ⟨rfl,rfl,by simp_all⟩)
 skip
 have htree:=htree.up H2'.le
 have H:=H.borrow0 H2'
 refine⟨_,Z,?_⟩
 refine pe 5 Z (q3 (W_seq (q2 (pe 2 Z (q3 (W_false Z (W_skip (N_K (q2 (mV Z (xc Z2 (i_openTree_c _ _ H.sub _ _ htree H.lent0) ?_)))))))))))
 rintro _ _ ⟨_,_,_,rfl,H4',⟨rfl,rfl,hv4⟩|⟨_,_,rfl,rfl,hN4,hT4,hv4⟩⟩
 ·skip
  have H:=H.borrow0 H4'
  refine⟨_,Z,?_⟩
  refine pe 5 Z (q3 (W_seq (q2 (pe 2 Z (q3 (W_true Z (q2 (o_build bf149 Z Z Z (xst 1 H Z8 ?_)))))))));intro _ H
  refine aG Z (q3 (W_ret (N_K_ret (ret_gen (rs:=[.cell 4 149,.tmp 5]) (vs:=[_,_]) results96 ⟨⟨_,Z,load_blk 1 H isAgg149 sizeOf149 Z Z Z⟩,Z,trivial⟩ ?_))))
  have H:=H.dl 0
  have H:=H.dl 0
  exact H.retM (.inl ⟨rfl,rfl,by simp_all⟩)
 skip
 have hS2:=hS2.up H4'.le
 have H:=H.borrow0 H4'
 refine⟨_,Z,?_⟩
 refine pe 5 Z (q3 (W_seq (q2 (pe 2 Z (q3 (W_false Z (W_skip (N_K (q2 (pe 2 Z (o_build bf149 Z Z Z (xst 2 H Z8 ?_))))))))))));intro _ H
 refine aG Z (q3 (W_ret (ret_gen (rs:=[.cell 4 149,.tmp 5]) (vs:=[_,_]) results96 ⟨⟨_,Z,load_blk 2 H isAgg149 sizeOf149 Z Z Z⟩,Z,trivial⟩ ?_)))
 have H:=H.dl 2
 have H:=H.tF 1
 exact H.retM (.inr ⟨_,_,_,_,_,_,Z,Z,hm2,hS2,hV2,hN4,hT4,hv4⟩)
theorem i_snapAt_c (w0:World)(G0:PH)(hG:PSub G0 w0)(db:Nat)(m1 m2 v1 v2 vs:Value)(sn:List (Bs×Nd))(hdk:PRow G0 db 0 [m1,m2,v1,v2,vs])(hsn:RdS LIM osE 2 G0 vs sn)(nm:Bs)(hnm:nm.length≤16777216) :
  Calls Tryz.prog 98 #[.pointer (some ⟨db,0,none⟩),str nm] w0 (Rets w0 (.int .i64 (Sp.optI (sn.findIdx? (fun x=>decide (x.1=nm)))))):=by
 obtain⟨_,_,rfl⟩:=hsn.shape;have hlimsn:sn.length≤1099511627776:=hsn.lim
 have H:=Hp.init hG
 refine calls_of_W (l:=[.pointer (some ⟨db,0,none⟩),str nm]) func98 Z ntmps98 Z (q2 (aG Z (q3 (W_seq (q2 (pe 2 Z (fA 4 Z (lP H hdk 4 Z2 (lN Z (mV Z (q3 (W_block ?_))))))))))))
 refine W_lp (hf:=(Sub.cons (t:=1) Z (Sub.cons (t:=10) Z (Sub.cons (t:=11) Z Sub.nil)))) (J:=fun M w m=>∃(k:Nat) (G:PH),M=[(12,.int .i64 (k:Int))]∧PLe G0 G∧Hp w0 G0 [] w G []∧(k≤sn.length∧∀(j:Nat) (x:Bs×Nd),j<k→sn[j]? = some x→decide (x.1=nm)=false)∧m=(sn.length-k)) (h0:=⟨0,_,Z,PLe.refl _,H,?inv,Z⟩) (round:=?round)
 case inv=>exact⟨by omega,fun j x hj=>by omega⟩
 case round =>
  rintro _ _ _ ⟨k,_,rfl,hle1,H,hinv1,rfl⟩
  have hsn:=hsn.up hle1
  obtain⟨_,hno⟩:=hinv1
  refine q2 (pe 1 Z (q3 (W_seq ?_)))
  refine W_cond Z ?_ ?_
  ·intro hc2
   try simp only[nrm]at hc2
   refine W_skip (N_K (W_seq (W_block (q2 (mV Z (iP k hsn Z3 Z ?_))))));intro _ _ _ _ hz3 hE3 hrow3
   obtain⟨rfl,hi3⟩:=hE3;have hy_hi3:_≤16777216:=hi3
   refine o_loadagg_P H isAgg164 sizeOf164 Z Z hrow3 Z (xal H Z ?_);intro _ _ _ H
   refine aG Z (xst 0 H Z8 ?_);intro _ H
   refine q1 (fA 0 Z (lB 0 H Z3 (mV Z (o_seql Z Z Z (q3 ?_)))))
   refine W_cond Z ?_ ?_
   ·intro hc6
    try simp only[nrm]at hc6
    refine q2 (pe 2 Z (q3 (W_ret (N_B_ret (N_K_ret (N_LP_ret (N_B_ret (N_K_ret (rt1 results98 Z ?_)))))))))
    exact H.rets (congrArg (Value.int .i64) (by rw[Sp.fidx_some (p:=fun x:Bs×Nd=>decide (x.1=nm)) hno hz3 (by simpa using hc6)];rfl))
   intro hc6'
   try simp only[nrm]at hc6'
   refine W_skip (N_B (N_K (W_region (aD Z2 (mV Z (R_nil ?_))))))
   have H:=H.dl 0
   refine N_lp (hJ:=⟨k+1,_,Z,hle1,H,?inv,Z⟩) (hm:=?hm)
   case hm=>omega
   case inv=>exact⟨by omega,Sp.fidx_step hno hz3 (by simpa using hc6')⟩
  intro hc2'
  try simp only[nrm]at hc2'
  refine W_exit (N_K_exit (N_LP_exit (N_B_same (N_K (q2 (aG Z (q3 (W_ret (rt1 results98 Z ?_)))))))))
  exact H.rets (congrArg (Value.int .i64) (by rw[Sp.fidx_none (p:=fun x:Bs×Nd=>decide (x.1=nm)) (fun j x hj=>hno j x oM)];rfl))
theorem i_newDisk_c (w0:World)(G0:PH)(hG:PSub G0 w0)(cd:List Value)(d:BDisk)(hd:diskE G0 d cd)(hLent:Lent w0 G0 []) :
  Calls Tryz.prog 37 #[.agg cd.toArray] w0 (RetM w0 G0 [] (fun G' v Bs=>(v= .tuple #[.pointer none,.bool false]∧Bs=[]∧Sp.DiskValid d=false)∨(∃(db mb:Nat) (es:Array MapEntry) (ck:Nat) (xs:List (Int×Value)) (T:Nd) (F:Fr) (sv:Value) (sn:List (Fw.Bs×Nd)) (c:List Value) (FSq:Fr),v= .tuple #[.pointer (some ⟨db,0,none⟩),.bool true]∧Bs=[blk db (cl [.int .i32 0,.int .u32 0,.map (some mb),.pointer (some ⟨T.b,0,none⟩),sv] 161),blk mb (.map es ck),frag F,acc 164 2 sv sn.length c,frag FSq]∧MapIs (Value.int .i64) es ck xs∧StR G' xs d.store∧NdO 90 84 G' T F∧Nd.TOK T d.tree∧Chk osE 2 G' c sn∧NdsO 90 84 G' (sn.map (·.2)) FSq∧SnOK sn d.snaps∧Sp.DiskValid d=true))):=by
 obtain⟨_,_,_,_,_,_,_,_,_,rfl,hr1,hr1',hr1'',⟨_,_⟩,⟨_,_⟩,_,_⟩:=ox hd
 have H:Hp w0 G0 [] w0 G0 []:=hLent.hp
 refine calls_of_W (l:=[_]) func37 Z ntmps37 Z (q2 (o_box H Z Z Z ?_));intro b2 _ _ H
 refine pe 2 Z (q1 (fA 0 Z (lB 0 H Z3 (fA 1 Z (lB 0 H Z3 (xc Z2 (i_newVolume_c _ _ H.sub _ _ hr1 _ _ hr1' H.lent0) ?_))))))
 rintro _ _ ⟨G3,_,_,rfl,H3',⟨rfl,rfl,hnv3⟩|⟨mb3,es3,ck3,_,T3,F3,rfl,rfl,hm3,hS3,hV3,hN3,hT3,hv3⟩⟩
 ·skip
  have H:=H.borrow0 H3'
  refine⟨_,Z,?_⟩
  refine pe 3 Z (xal H Z ?_);intro _ _ _ H
  refine xst 0 H Z8 ?_;intro _ H
  refine aG Z (q3 (W_seq (q2 (pe 8 Z (q3 (W_true Z (q2 (pe 2 Z (q3 (W_ret (N_K_ret (rt2 results37 Z Z ?_))))))))))))
  have H:=H.dl 0
  have H:=H.dl 0
  exact H.retM (.inl ⟨rfl,rfl,Sp.dv_no (fun hh=>by simp[hh.1,hh.2.1]at hnv3)⟩)
 skip
 have hr1'':=hr1''.up H3'.le
 have H:=H.borrow0 H3'
 refine⟨_,Z,?_⟩
 refine pe 3 Z (xal H Z ?_);intro b6 _ _ H
 refine xst 0 H Z8 ?_;intro _ H
 refine aG Z (q3 (W_seq (q2 (pe 3 Z (gR Z (fA 2 Z (gR Z (lB 3 H Z3 (gR Z (lN Z (pe 2 Z (q3 ?_))))))))))))
 refine W_cond Z ?_ ?_
 ·intro hc8
  try simp only[nrm]at hc8
  refine q2 (pe 2 Z (q3 (W_ret (N_K_ret (rt2 results37 Z Z ?_)))))
  have H:=H.sel [] rfl
  exact H.retM (.inl ⟨rfl,rfl,Sp.dv_no (fun hh=>by have:=hh.2.2.1;omega)⟩)
 intro hc8'
 try simp only[nrm]at hc8'
 refine W_skip (N_K (q2 (lA 0 2 H Z4 (o_build bf161 Z Z Z (o_box H Z Z Z ?_)))));intro b9 _ _ H
 refine aG Z (q1 (fA 1 Z (lB 1 H Z3 (xbs H Z7 ?_))));intro _ _ _ H
 refine aG Z (q3 (W_seq (q2 (fA 2 Z (lB 5 H Z3 (lN Z (mV Z (q3 (W_block ?_)))))))))
 have H:=H.blkAcc 1 (k:=0) (n:=1) rfl rfl (by decide)
 have H:=H.addF
 have H:=H.addNil 164 2
 obtain⟨ln12,hln12,H⟩:=H.nameAt (k:=3) (off:=4) rfl rfl
 obtain⟨ln13,hln13,H⟩:=H.name (k:=4) rfl
 obtain⟨ln14,hln14,H⟩:=H.name (k:=7) rfl
 refine W_lp (hf:=(Sub.cons (t:=4) Z (Sub.cons (t:=6) Z (Sub.cons (t:=35) Z (Sub.cons (t:=36) Z Sub.nil))))) (J:=fun M w m=>∃(v:Value) (n:Nat) (cs:List Value) (xs:List (Bs×Nd)) (v1:Value) (n1:Nat) (cs1:List Value) (xs1:List (Nd)) (k:Nat) (FSq:Fr) (G:PH),M=[(37,.int .i64 (k:Int)),(7,v1)]∧PLe G3 G∧Hp w0 G0 [] w G [acc 164 2 v n cs,frag FSq,acc 84 1 v1 n1 cs1,blk b9 (cl (setN ln12 4 v) 161),blk b6 (cl ln13 149),blk mb3 (.map es3 ck3),frag F3,blk b2 (cl ln14 27)]∧(Chk osE 2 G cs xs∧n=xs.length∧Chk kdE 1 G cs1 xs1∧n1=xs1.length∧k≤d.snaps.length∧xs1=T3::xs.map (·.2)∧NdsO 90 84 G (xs.map (·.2)) FSq∧SnOK xs (d.snaps.take k)∧∀(j:Nat) (s:BSnap),j<k→d.snaps[j]? = some s→Sp.l1Word s.name=true∧(j:Int)≤Sp.l12At d.snaps s.name)∧m=(d.snaps.length-k)) (h0:=⟨_,_,_,[],_,_,_,[T3],0,[],_,Z,PLe.refl _,H,?inv,Z⟩) (round:=?round)
 case inv=>exact⟨(Chk.nil (E:=osE) (sz:=2) (G:=G3)),(by first|rfl|simp|(simp;omega)|omega),(chkK [T3]),by first|rfl|simp|(simp;omega)|omega,(by exact⟨by omega,rfl,by simp[NdsO],.nil,fun j s hj=>by omega⟩)⟩
 case round =>
  rintro _ _ _ ⟨v,n,cs,xs,v1,n1,cs1,xs1,k,FSq,_,rfl,hle15,H,hinv15,rfl⟩
  subst hln12
  subst hln13
  subst hln14
  have hr1'':=hr1''.up hle15
  have hS3:=hS3.up hle15
  have hN3:=hN3.up hle15
  obtain⟨hchk15_0,_,hinv15⟩:=hinv15
  obtain⟨_,_,rfl⟩:=H.accShape (k:=0) rfl
  obtain⟨hchk15_1,_,hinv15⟩:=hinv15
  obtain⟨_,_,rfl⟩:=H.accShape (k:=2) rfl
  obtain⟨_,hx1,hNs,hSn,hw⟩:=hinv15;have hsl:=hSn.len;have hxl6:xs.length≤6:=(by simp at hsl;omega);have hx1l:xs1.length=xs.length+1:=by simp[hx1]
  refine q2 (pe 1 Z (q3 (W_seq ?_)))
  refine W_cond Z ?_ ?_
  ·intro hc16
   try simp only[nrm]at hc16
   refine W_skip (N_K (W_seq (W_block (q2 (iP k hr1'' Z3 Z ?_)))));intro _ _ z17 _ hz17 hE17 hrow17
   obtain⟨_,_,_,rfl,hi17,hr17,_,_⟩:=ox hE17
   refine o_loadagg_P H isAgg67 sizeOf67 Z Z hrow17 Z (xal H Z ?_);intro _ _ _ H
   refine xst 0 H Z8 ?_;intro _ H
   refine q1 (fA 1 Z (lB 0 H Z3 (xc Z2 (i_openTree_c _ _ H.sub _ _ hr17 H.lent0) ?_)))
   rintro _ _ ⟨G20,_,_,rfl,H20',⟨rfl,rfl,hv20⟩|⟨T20,F20,rfl,rfl,hN20,hT20,hv20⟩⟩
   ·skip
    have H:=H.borrow0 H20'
    refine⟨_,Z,?_⟩
    refine pe 5 Z (q3 (W_seq (q2 (pe 15 Z (q3 (W_true Z (q2 (pe 2 Z (q3 (W_ret (N_K_ret (N_B_ret (N_K_ret (N_LP_ret (N_B_ret ?_)))))))))))))))
    refine N_K_ret (rt2 results37 Z Z ?_)
    have H:=H.sel [] rfl
    exact H.retM (.inl ⟨rfl,rfl,Sp.dv_no (fun hh=>by (rw[(hh.2.2.2 k _ hz17).2.2]at hv20);cases hv20)⟩)
   skip
   have hchk15_0:=hchk15_0.up H20'.le
   have hchk15_1:=hchk15_1.up H20'.le
   have hNs:=hNs.up H20'.le
   have hle15:=hle15.trans H20'.le
   have H:=H.borrow0 H20'
   refine⟨_,Z,?_⟩
   refine pe 5 Z (q3 (W_seq (q2 (pe 3 Z (gR Z (fA 0 Z (gR Z (lB 1 H Z3 (gR Z (xr H Z2 (i_partValid_c _ _ hi17) ?_))))))))));intro _ H
   refine pe 3 Z ?_
   refine R_case (t:=55) Z ?_ ?_
   ·intro hc22
    try simp only[nrm]at hc22
    refine pe 6 Z (q3 (W_true Z (q2 (pe 2 Z (q3 (W_ret (N_K_ret (N_B_ret (N_K_ret (N_LP_ret (N_B_ret (N_K_ret (rt2 results37 Z Z ?_)))))))))))))
    have H:=H.sel [] rfl
    exact H.retM (.inl ⟨rfl,rfl,Sp.dv_no (fun hh=>by have h9:=(hh.2.2.2 k _ hz17).1;simp_all)⟩)
   intro hc22'
   try simp only[nrm]at hc22'
   refine pe 1 Z (gR Z (fA 0 Z (gR Z (lB 1 H Z3 (gR Z (xr H Z2 (i_snapAt_c _ _ (H.lendSubL [2,5]) _ _ _ _ _ _ _ (prow_blk (H.lendPredL (k:=5) (ks:=[2,5]) Z Z)) (H.lendRdL (k:=2) (ks:=[2,5]) Z Z hchk15_0 aN aN) _ hi17) ?_))))));intro _ H
   refine pe 2 Z (q3 ?_)
   refine W_cond Z ?_ ?_
   ·intro hc24
    try simp only[nrm]at hc24
    refine q2 (pe 2 Z (q3 (W_ret (N_K_ret (N_B_ret (N_K_ret (N_LP_ret (N_B_ret (N_K_ret (rt2 results37 Z Z ?_))))))))))
    have H:=H.sel [] rfl
    exact H.retM (.inl ⟨rfl,rfl,Sp.dv_no (fun hh=>by have h9:=(Sp.at_take hz17).1 (hh.2.2.2 k _ hz17).2.1;(rw[←Sp.sn_find hSn]at h9);omega)⟩)
   intro hc24'
   try simp only[nrm]at hc24'
   refine W_skip (N_K (W_seq (W_drawK [1,6,9] 14 H kR Z ?_)));intro _ H;have hd25:=PLe.refl G20
   refine dE 0 Z2 (dE 1 Z2 (dE 2 Z2 (dF 3 4 Z2 (dF 5 0 Z2 (dB 6 0 Z4 (dE 7 Z2 (RD_t 8 Z kR Z (fun _ hK=>v_build bf164 Z Z) ?_)))))))
   refine r2 4 9 Z2 ?_ ?_
   ·skip
    refine lB 5 H Z3 (q4 H hd25 (r1 9 Z (xbs H Z7 ?_)));intro _ _ _ H
    refine q4 H hd25 (r1 10 Z (o_append1 2 H (sz:=2) (bytes:=24) underlying159 typeInfo164 ⟨_,Z,Z⟩ Z Z Z Z Z Z Z Z Z Z oM Z ?_));intro _ _ H
    have hchk27:=hchk15_0.snoc (show osE _ (z17.name,T20) _ from⟨rfl,hi17⟩) rfl
    obtain⟨_,_,rfl⟩:=H.accShape (k:=2) rfl
    refine q4 H hd25 (dE 11 Z2 (dF 12 4 Z2 (r1 13 Z ?_)))
    have H:=H.tF 3
    have H:=H.mergeF
    refine xst 4 H Z8 ?_;intro _ H
    refine q4 H hd25 (rz (N_K (W_region (pe 2 Z (xbs H Z7 ?_)))));intro _ _ _ H
    refine o_append1 3 H (sz:=1) (bytes:=8) underlying88 typeInfo84 ⟨_,Z,Z⟩ Z Z Z Z Z Z Z Z Z Z oM Z ?_;intro _ _ H
    have hchk30:=hchk15_1.snoc (show kdE _ T20 _ from rfl) rfl
    obtain⟨_,_,rfl⟩:=H.accShape (k:=3) rfl
    refine aG Z (R_nil (N_B (N_K (W_region (aD Z2 (mV Z (R_nil ?_)))))))
    have H:=H.sel [2,0,3,4,5,6,7,8] rfl
    refine N_lp (hJ:=⟨_,_,_,(xs++[(z17.name,T20)]),_,_,_,(xs1++[T20]),k+1,(FSq++F20),_,Z,hle15,H,?inv,Z⟩) (hm:=?hm)
    case hm=>omega
    case inv=>exact⟨hchk27,aN,hchk30,aN,(by exact⟨by omega,by simp[hx1],by simpa using hNs.snoc hN20,hSn.snoc2 hz17 rfl hT20 hv20,names_step hw hz17 (by simpa using hc22') hSn oM⟩)⟩
   skip
   refine xbs H Z7 ?_;intro _ _ _ H
   refine q4 H hd25 (r1 4 Z (lB 6 H Z3 (q4 H hd25 (r1 10 Z (o_append1 2 H (sz:=2) (bytes:=24) underlying159 typeInfo164 ⟨_,Z,Z⟩ Z Z Z Z Z Z Z Z Z Z oM Z ?_)))));intro _ _ H
   have hchk33:=hchk15_0.snoc (show osE _ (z17.name,T20) _ from⟨rfl,hi17⟩) rfl
   obtain⟨_,_,rfl⟩:=H.accShape (k:=2) rfl
   refine q4 H hd25 (dE 11 Z2 (dF 12 4 Z2 (r1 13 Z ?_)))
   have H:=H.tF 3
   have H:=H.mergeF
   refine xst 4 H Z8 ?_;intro _ H
   refine q4 H hd25 (rz (N_K (W_region (pe 2 Z (xbs H Z7 ?_)))));intro _ _ _ H
   refine o_append1 3 H (sz:=1) (bytes:=8) underlying88 typeInfo84 ⟨_,Z,Z⟩ Z Z Z Z Z Z Z Z Z Z oM Z ?_;intro _ _ H
   have hchk36:=hchk15_1.snoc (show kdE _ T20 _ from rfl) rfl
   obtain⟨_,_,rfl⟩:=H.accShape (k:=3) rfl
   refine aG Z (R_nil (N_B (N_K (W_region (aD Z2 (mV Z (R_nil ?_)))))))
   have H:=H.sel [2,0,3,4,5,6,7,8] rfl
   refine N_lp (hJ:=⟨_,_,_,(xs++[(z17.name,T20)]),_,_,_,(xs1++[T20]),k+1,(FSq++F20),_,Z,hle15,H,?inv,Z⟩) (hm:=?hm)
   case hm=>omega
   case inv=>exact⟨hchk33,aN,hchk36,aN,(by exact⟨by omega,by simp[hx1],by simpa using hNs.snoc hN20,hSn.snoc2 hz17 rfl hT20 hv20,names_step hw hz17 (by simpa using hc22') hSn oM⟩)⟩
  intro hc16'
  try simp only[nrm]at hc16'
  refine W_exit (N_K_exit (N_LP_exit (N_B_same (N_K (W_seq (q2 (fA 0 Z (lB 4 H Z3 (mV Z ?_)))))))))
  refine xr H Z2 (i_usedBy_c _ _ (H.lendSubL [1,2,5,6]) _ _ _ _ _ (H.lendPredL (k:=5) (ks:=[1,2,5,6]) Z Z) hm3 (hS3.up (PPlus.le _ _ _)) hV3 _ _ (RdS.withN (H.lendRdL (k:=2) (ks:=[1,2,5,6]) Z Z hchk15_1 aN aN) (fun t ht=>by (rw[hx1]at ht);rcases List.mem_cons.1 ht with rfl|ht;(· exact H.lendN (k:=6) rfl rfl hN3);(· exact H.lendNs (k:=1) rfl rfl hNs t ht))) oM (fun t ht=>by (rw[hx1]at ht);rcases List.mem_cons.1 ht with rfl|ht;(· exact⟨hT3.wf,by have:=hT3.cnt;have:=Sp.tree_len hv3;omega⟩);(· exact sn_ok hSn t ht))) ?_;intro _ H
  refine pe 1 Z (q3 ?_)
  refine W_cond Z ?_ ?_
  ·intro hc39
   try simp only[nrm]at hc39
   refine q2 (pe 2 Z (q3 (W_ret (N_K_ret (rt2 results37 Z Z ?_)))))
   have H:=H.sel [] rfl
   have hkk:k=d.snaps.length:=by omega
   have hSnf:SnOK xs d.snaps:=by (rw[hkk,List.take_length]at hSn;exact hSn)
   have hwf:∀(j:Nat) (s:BSnap),d.snaps[j]? = some s→Sp.l1Word s.name=true∧(j:Int)≤Sp.l12At d.snaps s.name:=fun j s hs=>hw j s (by have:=(List.getElem?_eq_some_iff.1 hs).1;omega) hs
   exact H.retM (.inl ⟨rfl,rfl,(by (rw[Sp.dv_use (Sp.valid_iff.2 hV3) hT3 oM hSnf hwf,←hx1];unfold Sp.useOK;rw[Bool.and_eq_false_iff];exact hc39))⟩)
  intro hc39'
  try simp only[nrm]at hc39'
  refine W_skip (N_K (q2 (pe 3 Z (q3 (W_ret (rt2 results37 Z Z ?_))))))
  have H:=H.sel [3,5,6,0,1] rfl
  have hkk:k=d.snaps.length:=by omega
  have hSnf:SnOK xs d.snaps:=by (rw[hkk,List.take_length]at hSn;exact hSn)
  have hwf:∀(j:Nat) (s:BSnap),d.snaps[j]? = some s→Sp.l1Word s.name=true∧(j:Int)≤Sp.l12At d.snaps s.name:=fun j s hs=>hw j s (by have:=(List.getElem?_eq_some_iff.1 hs).1;omega) hs
  have hdv:Sp.DiskValid d=true:=by (rw[Sp.dv_use (Sp.valid_iff.2 hV3) hT3 oM hSnf hwf,←hx1];unfold Sp.useOK;simpa using hc39')
  obtain rfl:n=xs.length:=by assumption
  exact H.retM (.inr ⟨_,_,_,_,_,_,_,_,xs,_,_,Z,Z,hm3,hS3,hN3,hT3,hchk15_0,hNs,hSnf,hdv⟩)
end Go.Proofs.Tst
namespace Go.Proofs.Tst
open Go
abbrev muLink:Go.Conc.Locks.MuLink:={lock:=103,unlock:=104,ilock:=160,iunlock:=161,lockSlow:=191,unlockSlow:=194,disable:=187,enable:=189,acquire:=190,relMerge:=192,cas32:=188,add32:=193,tMutex:=158,tIMutex:=156,tPMutex:=216,tPIMutex:=231,tPI32:=233,tUP:=235,tNoCopy:=153,tU32:=154}
theorem muLib:Go.Conc.Locks.MuLib Tryz.prog muLink where
 f_lock:=by kernel_rfl
 f_unlock:=by kernel_rfl
 f_ilock:=by kernel_rfl
 f_iunlock:=by kernel_rfl
 f_disable:=by kernel_rfl
 f_enable:=by kernel_rfl
 f_acquire:=by kernel_rfl
 f_relMerge:=by kernel_rfl
 f_cas32:=by kernel_rfl
 f_add32:=by kernel_rfl
 underlying_tIMutex:=Tryz.underlying156
 runUnderlying_tIMutex:=Tryz.runUnderlying156
 sizeOf_tIMutex:=Tryz.sizeOf156
 isAgg_tIMutex:=Tryz.isAgg156
 zeroValue_tIMutex:=Tryz.zeroValue156
 underlying_tMutex:=Tryz.underlying158
 runUnderlying_tMutex:=Tryz.runUnderlying158
 sizeOf_tMutex:=Tryz.sizeOf158
 isAgg_tMutex:=Tryz.isAgg158
 zeroValue_tMutex:=Tryz.zeroValue158
 underlying_tPMutex:=Tryz.underlying216
 runUnderlying_tPMutex:=Tryz.runUnderlying216
 sizeOf_tPMutex:=Tryz.sizeOf216
 isAgg_tPMutex:=Tryz.isAgg216
 zeroValue_tPMutex:=Tryz.zeroValue216
 underlying_tPIMutex:=Tryz.underlying231
 runUnderlying_tPIMutex:=Tryz.runUnderlying231
 sizeOf_tPIMutex:=Tryz.sizeOf231
 isAgg_tPIMutex:=Tryz.isAgg231
 zeroValue_tPIMutex:=Tryz.zeroValue231
 underlying_tPI32:=Tryz.underlying233
 runUnderlying_tPI32:=Tryz.runUnderlying233
 sizeOf_tPI32:=Tryz.sizeOf233
 isAgg_tPI32:=Tryz.isAgg233
 zeroValue_tPI32:=Tryz.zeroValue233
 underlying_tUP:=Tryz.underlying235
 runUnderlying_tUP:=Tryz.runUnderlying235
 sizeOf_tUP:=Tryz.sizeOf235
 isAgg_tUP:=Tryz.isAgg235
 zeroValue_tUP:=Tryz.zeroValue235
 underlying_tNoCopy:=Tryz.underlying153
 runUnderlying_tNoCopy:=Tryz.runUnderlying153
 sizeOf_tNoCopy:=Tryz.sizeOf153
 isAgg_tNoCopy:=Tryz.isAgg153
 zeroValue_tNoCopy:=Tryz.zeroValue153
 underlying_t21:=Tryz.underlying21
 runUnderlying_t21:=Tryz.runUnderlying21
 sizeOf_t21:=Tryz.sizeOf21
 isAgg_t21:=Tryz.isAgg21
 zeroValue_t21:=Tryz.zeroValue21
 room_tIMutex:=by kernel_rfl
end Go.Proofs.Tst
namespace Go.Proofs.Tst
open Go Fw Tryz
theorem i_disk_c (w0:World)(G0:PH)(hG:PSub G0 w0)(db mb:Nat)(es:Array MapEntry)(ck:Nat)(xs:List (Int×Value))(T:Nd)(FT:Fr)(sv:Value)(sn:List (Bs×Nd))(c:List Value)(FSq:Fr)(d:BDisk)(hm:MapIs (Value.int .i64) es ck xs)(hS:StR G0 xs d.store)(hN:NdO 90 84 G0 T FT)(hT:Nd.TOK T d.tree)(hchk:Chk osE 2 G0 c sn)(hNs:NdsO 90 84 G0 (sn.map (·.2)) FSq)(hSn:SnOK sn d.snaps)(hVd:Sp.VH d.store)(hs6:d.snaps.length≤6)(hLent:Lent w0 G0 [blk db (cl [.int .i32 0,.int .u32 0,.map (some mb),.pointer (some ⟨T.b,0,none⟩),sv] 161),blk mb (.map es ck),frag FT,acc 164 2 sv sn.length c,frag FSq]) :
  Calls Tryz.prog 41 #[.pointer (some ⟨db,0,none⟩)] w0 (RetM w0 G0 (fps [blk db (cl [.int .i32 0,.int .u32 0,.map (some mb),.pointer (some ⟨T.b,0,none⟩),sv] 161),blk mb (.map es ck),frag FT,acc 164 2 sv sn.length c,frag FSq]) (fun G' v Bs=>∃(v1 v2 v3:Value) (F1 F2 F3:Fr),v= .agg #[v1,v2,v3]∧Bs=[frag F1,frag F2,frag F3]∧OHs F1 v1 d.store∧OIs F2 v2 d.tree∧OSn F3 v3 d.snaps)):=by
 have H:Hp w0 G0 (fps [blk db (cl [.int .i32 0,.int .u32 0,.map (some mb),.pointer (some ⟨T.b,0,none⟩),sv] 161),blk mb (.map es ck),frag FT,acc 164 2 sv sn.length c,frag FSq]) w0 G0 [blk db (cl [.int .i32 0,.int .u32 0,.map (some mb),.pointer (some ⟨T.b,0,none⟩),sv] 161),blk mb (.map es ck),frag FT,acc 164 2 sv sn.length c,frag FSq]:=hLent.hp
 obtain⟨adv,cdv,rfl⟩:=H.accShape (k:=3) rfl;have hTv:=hT.valid;have hTc:=hT.cnt;have hTl:=Sp.tree_len hTv;have hsnl:=hSn.len;have hxa:=H.accShape (k:=3) rfl
 refine calls_of_WD (l:=[.pointer (some ⟨db,0,none⟩)]) func41 Z ntmps41 Z (q2 (xal H Z ?_));intro b1 _ _ H
 refine q1 (pe 2 Z (fA 0 Z (o_lock 1 H muLib Z call103 Z Z Z Z ?_)));intro _ H
 refine q1 (pe 2 Z (fA 0 Z (o_defer Z (q3 (W_seq (W_drawK [0,1] 15 H kR Z ?_))))));intro _ H;have hd3:=PLe.refl G0
 refine dE 0 Z2 (dE 1 Z2 (dF 2 2 Z2 (dF 3 0 Z2 (dB 4 1 Z4 (dE 6 Z2 (dE 7 Z2 (dF 8 2 Z2 (dF 9 1 Z2 (dB 10 1 Z4 ?_)))))))))
 refine r2 5 13 Z2 ?_ ?_
 ·skip
  refine xc Z2 (i_slist_c _ _ (H.lendSubL [2]) _ _ _ _ _ (H.lendPredL (k:=2) (ks:=[2]) Z Z) hm (hS.up (PPlus.le _ _ _)) hVd) ?_
  rintro _ _ ⟨_,_,rfl,H4',⟨F4,rfl,hO4⟩⟩
  have H:=H.readersL H4'
  obtain⟨_,hP4⟩:=hO4
  obtain⟨_,_,rfl⟩:=OwnS.shape hP4
  have hO4:=OHs.mk hP4
  refine⟨_,Z,?_⟩
  refine q4 H hd3 ?_
  refine r2 11 13 Z2 ?_ ?_
  ·skip
   refine xc Z2 (i_tlist_c _ _ (H.lendSubL [4]) _ ((H.lendN (k:=4) (ks:=[4]) Z Z hN).at (show Nd.at_ T []=some T from Z)) hT.wf oM) ?_
   rintro _ _ ⟨_,_,rfl,H5',⟨F5,rfl,hO5⟩⟩
   have H:=H.readersL H5'
   obtain⟨_,hP5⟩:=hO5
   obtain⟨_,_,rfl⟩:=OwnS.shape hP5
   have hO5:=OIs.mk hP5
   refine⟨_,Z,?_⟩
   refine q4 H hd3 (RD_t 12 Z kR Z (fun _ hK=>v_build bf27 Z Z) (r1 13 Z (xal H Z ?_)));intro b6 _ _ H
   refine q4 H hd3 (r1 14 Z (xst 0 H Z8 ?_));intro _ H
   refine R_nil (N_DKlast kR kR (N_K (W_seq (q2 (pe 2 Z (fA 4 Z (lB 4 H Z3 (lN Z (mV Z (q3 (W_block ?_)))))))))))
   have H:=H.addNil 67 2
   have H:=H.addF
   obtain⟨ln9,hln9,H⟩:=H.nameAt (k:=2) (off:=2) rfl rfl
   obtain⟨ln10,hln10,H⟩:=H.name (k:=5) rfl
   obtain⟨ln11,hln11,H⟩:=H.name (k:=6) rfl
   refine W_lp (hf:=(Sub.cons (t:=2) Z (Sub.cons (t:=3) Z (Sub.cons (t:=29) Z (Sub.cons (t:=30) Z Sub.nil))))) (J:=fun M w m=>∃(v:Value) (n:Nat) (cs:List Value) (xs:List (BSnap)) (F:Fr) (k:Nat) (G:PH),M=[(31,.int .i64 (k:Int))]∧PLe G0 G∧Hp w0 G0 (fps [blk db (cl [.int .i32 0,.int .u32 0,.map (some mb),.pointer (some ⟨T.b,0,none⟩),.slice adv sn.length cdv] 161),blk mb (.map es ck),frag FT,acc 164 2 (.slice adv sn.length cdv) sn.length c,frag FSq]) w G [frag F,acc 67 2 v n cs,blk b6 (cl (setN ln9 2 v) 27),frag F5,frag F4,blk b1 (cl ln10 27),blk db (cl ln11 161),blk mb (.map es ck),frag FT,acc 164 2 (.slice adv sn.length cdv) sn.length c,frag FSq]∧(ChkF snapO 2 cs xs F∧n=xs.length∧k≤sn.length∧xs=(sn.take k).map (fun x=>(⟨x.1,x.2.flat []⟩:BSnap)))∧m=(sn.length-k)) (h0:=⟨_,_,_,[],[],0,_,Z,PLe.refl _,H,?inv,Z⟩) (round:=?round)
   case inv=>exact⟨ChkF.nil,by first|rfl|simp|(simp;omega)|omega,(by simp)⟩
   case round =>
    rintro _ _ _ ⟨v,n,cs,xs,F,k,G12,rfl,hle12,H,hinv12,rfl⟩
    subst hln9
    subst hln10
    subst hln11
    have hchk:=hchk.up hle12
    have hNs:=hNs.up hle12
    obtain⟨hchk12_0,_,hinv12⟩:=hinv12
    obtain⟨_,_,rfl⟩:=H.accShape (k:=1) rfl
    obtain⟨hk,hxs⟩:=hinv12;have hxl6:xs.length≤6:=by (rw[hxs];simp;omega)
    refine q2 (pe 1 Z (q3 (W_seq ?_)))
    refine W_cond Z ?_ ?_
    ·intro hc13
     try simp only[nrm]at hc13
     refine W_skip (N_K (W_seq (W_block (q2 (o_index_A 9 H k Z hchk underlying159 sizeOf164 Z Z Z Z aN aN ?_)))));intro _ z14 _ hba14 hz14 hE14 hg14;cases hba14
     obtain⟨rfl,hi14⟩:=hE14;have hy_hi14:_≤16777216:=hi14
     refine o_loadagg_A 9 H isAgg164 sizeOf164 Z Z Z hg14 Z (xal H Z ?_);intro _ _ _ H
     refine xst 0 H Z8 ?_;intro _ H
     refine q3 (W_drawK [0,3,6,7] 12 H kR Z ?_);intro _ H;have hd17:=PLe.refl G12
     refine dF 0 2 Z2 (dB 1 1 Z4 (dF 2 0 Z2 (dB 3 0 Z4 (dF 4 1 Z2 (dB 5 0 Z4 (r1 6 Z ?_))))))
     refine xc Z2 (i_tlist_c _ _ (H.lendSubL [11]) _ (H.lendNs (k:=11) (ks:=[11]) Z Z hNs z14.2 (List.mem_map_of_mem (List.mem_of_getElem? hz14))) (sn_ok hSn _ (List.mem_map_of_mem (List.mem_of_getElem? hz14))).1 (by have:=(sn_ok hSn _ (List.mem_map_of_mem (List.mem_of_getElem? hz14))).2;omega)) ?_
     rintro _ _ ⟨_,_,rfl,H18',⟨F18,rfl,hO18⟩⟩
     have H:=H.readersL H18'
     obtain⟨_,hP18⟩:=hO18
     obtain⟨_,_,rfl⟩:=OwnS.shape hP18
     have hO18:=OIs.mk hP18
     refine⟨_,Z,?_⟩
     refine q4 H hd17 (RD_t 7 Z kR Z (fun _ hK=>v_build bf67 Z Z) (r1 8 Z (xbs H Z7 ?_)));intro _ _ _ H
     refine q4 H hd17 (r1 9 Z (o_append1 3 H (sz:=2) (bytes:=40) underlying25 typeInfo67 ⟨_,Z,Z⟩ Z Z Z Z Z Z Z Z Z Z oM Z ?_));intro _ _ H
     have hchk20:=hchk12_0.snoc (show snapO F18 ⟨z14.1,z14.2.flat []⟩ _ from⟨_,_,_,rfl,hi14,hO18⟩) rfl
     have H:=H.tF 2
     have H:=H.mergeF
     obtain⟨_,_,rfl⟩:=H.accShape (k:=2) rfl
     refine q4 H hd17 (dF 10 2 Z2 (r1 11 Z (xst 3 H Z8 ?_)));intro _ H
     refine R_nil (N_DKlast kR kR (N_B (N_K (W_region (aD Z2 (mV Z (R_nil ?_)))))))
     have H:=H.sel [0,2,3,4,5,6,7,8,9,10,11] rfl
     refine N_lp (hJ:=⟨_,_,_,(xs++[⟨z14.1,z14.2.flat []⟩]),(F++F18),k+1,_,Z,hle12,H,?inv,Z⟩) (hm:=?hm)
     case hm=>omega
     case inv=>exact⟨hchk20,aN,(by exact⟨by omega,by (rw[Sp.take_succ' hz14,List.map_append,←hxs];rfl)⟩)⟩
    intro hc13'
    try simp only[nrm]at hc13'
    refine W_exit (N_K_exit (N_LP_exit (N_B_same (N_K (q2 (lA 2 3 H Z4 (xst 5 H Z8 ?_)))))));intro _ H
    refine q3 (W_ret (ret_unlock 6 H muLib Z call104 Z Z (rs:=[.cell 2 27]) results41 ?_));intro _ H
    refine⟨[_],⟨⟨_,Z,load_blk 5 H isAgg27 sizeOf27 Z Z Z⟩,trivial⟩,?_⟩
    have H:=H.tF 1
    obtain⟨_,H,hOw3⟩:=H.ownF hchk12_0 aN aN
    have H:=H.sel [3,2,0] rfl
    have hxs2:xs=d.snaps:=by (rw[hxs,List.take_of_length_le oM];exact sn_list hSn)
    exact H.retM ⟨_,_,_,_,_,_,rfl,rfl,hO4,(by (rw[←hT.flat]);exact hO5),(by have h9:=(show OSn _ _ _ from⟨_,hOw3⟩);(rw[hxs2]at h9);exact h9)⟩
  skip
  refine xal H Z ?_;intro b24 _ _ H
  refine q4 H hd3 (r1 11 Z (xc Z2 (i_tlist_c _ _ (H.lendSubL [5]) _ ((H.lendN (k:=5) (ks:=[5]) Z Z hN).at (show Nd.at_ T []=some T from Z)) hT.wf oM) ?_))
  rintro _ _ ⟨_,_,rfl,H25',⟨F25,rfl,hO25⟩⟩
  have H:=H.readersL H25'
  obtain⟨_,hP25⟩:=hO25
  obtain⟨_,_,rfl⟩:=OwnS.shape hP25
  have hO25:=OIs.mk hP25
  refine⟨_,Z,?_⟩
  refine q4 H hd3 (RD_t 12 Z kR Z (fun _ hK=>v_build bf27 Z Z) (r1 14 Z (xst 1 H Z8 ?_)));intro _ H
  refine R_nil (N_DKlast kR kR (N_K (W_seq (q2 (pe 2 Z (fA 4 Z (lB 4 H Z3 (lN Z (mV Z (q3 (W_block ?_)))))))))))
  have H:=H.addNil 67 2
  have H:=H.addF
  obtain⟨ln28,hln28,H⟩:=H.nameAt (k:=3) (off:=2) rfl rfl
  obtain⟨ln29,hln29,H⟩:=H.name (k:=5) rfl
  obtain⟨ln30,hln30,H⟩:=H.name (k:=6) rfl
  refine W_lp (hf:=(Sub.cons (t:=2) Z (Sub.cons (t:=3) Z (Sub.cons (t:=29) Z (Sub.cons (t:=30) Z Sub.nil))))) (J:=fun M w m=>∃(v:Value) (n:Nat) (cs:List Value) (xs:List (BSnap)) (F:Fr) (k:Nat) (G:PH),M=[(31,.int .i64 (k:Int))]∧PLe G0 G∧Hp w0 G0 (fps [blk db (cl [.int .i32 0,.int .u32 0,.map (some mb),.pointer (some ⟨T.b,0,none⟩),.slice adv sn.length cdv] 161),blk mb (.map es ck),frag FT,acc 164 2 (.slice adv sn.length cdv) sn.length c,frag FSq]) w G [frag F,acc 67 2 v n cs,frag F25,blk b24 (cl (setN ln28 2 v) 27),frag F4,blk b1 (cl ln29 27),blk db (cl ln30 161),blk mb (.map es ck),frag FT,acc 164 2 (.slice adv sn.length cdv) sn.length c,frag FSq]∧(ChkF snapO 2 cs xs F∧n=xs.length∧k≤sn.length∧xs=(sn.take k).map (fun x=>(⟨x.1,x.2.flat []⟩:BSnap)))∧m=(sn.length-k)) (h0:=⟨_,_,_,[],[],0,_,Z,PLe.refl _,H,?inv,Z⟩) (round:=?round)
  case inv=>exact⟨ChkF.nil,by first|rfl|simp|(simp;omega)|omega,(by simp)⟩
  case round =>
   rintro _ _ _ ⟨v,n,cs,xs,F,k,G31,rfl,hle31,H,hinv31,rfl⟩
   subst hln28
   subst hln29
   subst hln30
   have hchk:=hchk.up hle31
   have hNs:=hNs.up hle31
   obtain⟨hchk31_0,_,hinv31⟩:=hinv31
   obtain⟨_,_,rfl⟩:=H.accShape (k:=1) rfl
   obtain⟨hk,hxs⟩:=hinv31;have hxl6:xs.length≤6:=by (rw[hxs];simp;omega)
   refine q2 (pe 1 Z (q3 (W_seq ?_)))
   refine W_cond Z ?_ ?_
   ·intro hc32
    try simp only[nrm]at hc32
    refine W_skip (N_K (W_seq (W_block (q2 (o_index_A 9 H k Z hchk underlying159 sizeOf164 Z Z Z Z aN aN ?_)))));intro _ z33 _ hba33 hz33 hE33 hg33;cases hba33
    obtain⟨rfl,hi33⟩:=hE33;have hy_hi33:_≤16777216:=hi33
    refine o_loadagg_A 9 H isAgg164 sizeOf164 Z Z Z hg33 Z (xal H Z ?_);intro _ _ _ H
    refine xst 0 H Z8 ?_;intro _ H
    refine q3 (W_drawK [0,4,6,7] 12 H kR Z ?_);intro _ H;have hd36:=PLe.refl G31
    refine dF 0 2 Z2 (dB 1 1 Z4 (dF 2 0 Z2 (dB 3 0 Z4 (dF 4 1 Z2 (dB 5 0 Z4 (r1 6 Z ?_))))))
    refine xc Z2 (i_tlist_c _ _ (H.lendSubL [11]) _ (H.lendNs (k:=11) (ks:=[11]) Z Z hNs z33.2 (List.mem_map_of_mem (List.mem_of_getElem? hz33))) (sn_ok hSn _ (List.mem_map_of_mem (List.mem_of_getElem? hz33))).1 (by have:=(sn_ok hSn _ (List.mem_map_of_mem (List.mem_of_getElem? hz33))).2;omega)) ?_
    rintro _ _ ⟨_,_,rfl,H37',⟨F37,rfl,hO37⟩⟩
    have H:=H.readersL H37'
    obtain⟨_,hP37⟩:=hO37
    obtain⟨_,_,rfl⟩:=OwnS.shape hP37
    have hO37:=OIs.mk hP37
    refine⟨_,Z,?_⟩
    refine q4 H hd36 (RD_t 7 Z kR Z (fun _ hK=>v_build bf67 Z Z) (r1 8 Z (xbs H Z7 ?_)));intro _ _ _ H
    refine q4 H hd36 (r1 9 Z (o_append1 3 H (sz:=2) (bytes:=40) underlying25 typeInfo67 ⟨_,Z,Z⟩ Z Z Z Z Z Z Z Z Z Z oM Z ?_));intro _ _ H
    have hchk39:=hchk31_0.snoc (show snapO F37 ⟨z33.1,z33.2.flat []⟩ _ from⟨_,_,_,rfl,hi33,hO37⟩) rfl
    have H:=H.tF 2
    have H:=H.mergeF
    obtain⟨_,_,rfl⟩:=H.accShape (k:=2) rfl
    refine q4 H hd36 (dF 10 2 Z2 (r1 11 Z (xst 4 H Z8 ?_)));intro _ H
    refine R_nil (N_DKlast kR kR (N_B (N_K (W_region (aD Z2 (mV Z (R_nil ?_)))))))
    have H:=H.sel [0,2,3,4,5,6,7,8,9,10,11] rfl
    refine N_lp (hJ:=⟨_,_,_,(xs++[⟨z33.1,z33.2.flat []⟩]),(F++F37),k+1,_,Z,hle31,H,?inv,Z⟩) (hm:=?hm)
    case hm=>omega
    case inv=>exact⟨hchk39,aN,(by exact⟨by omega,by (rw[Sp.take_succ' hz33,List.map_append,←hxs];rfl)⟩)⟩
   intro hc32'
   try simp only[nrm]at hc32'
   refine W_exit (N_K_exit (N_LP_exit (N_B_same (N_K (q2 (lA 3 3 H Z4 (xst 5 H Z8 ?_)))))));intro _ H
   refine q3 (W_ret (ret_unlock 6 H muLib Z call104 Z Z (rs:=[.cell 2 27]) results41 ?_));intro _ H
   refine⟨[_],⟨⟨_,Z,load_blk 5 H isAgg27 sizeOf27 Z Z Z⟩,trivial⟩,?_⟩
   have H:=H.tF 1
   obtain⟨_,H,hOw6⟩:=H.ownF hchk31_0 aN aN
   have H:=H.sel [3,1,0] rfl
   have hxs2:xs=d.snaps:=by (rw[hxs,List.take_of_length_le oM];exact sn_list hSn)
   exact H.retM ⟨_,_,_,_,_,_,rfl,rfl,hO4,(by (rw[←hT.flat]);exact hO25),(by have h9:=(show OSn _ _ _ from⟨_,hOw6⟩);(rw[hxs2]at h9);exact h9)⟩
 skip
 refine xal H Z ?_;intro b43 _ _ H
 refine q4 H hd3 (r1 5 Z (xc Z2 (i_slist_c _ _ (H.lendSubL [3]) _ _ _ _ _ (H.lendPredL (k:=3) (ks:=[3]) Z Z) hm (hS.up (PPlus.le _ _ _)) hVd) ?_))
 rintro _ _ ⟨_,_,rfl,H44',⟨F44,rfl,hO44⟩⟩
 have H:=H.readersL H44'
 obtain⟨_,hP44⟩:=hO44
 obtain⟨_,_,rfl⟩:=OwnS.shape hP44
 have hO44:=OHs.mk hP44
 refine⟨_,Z,?_⟩
 refine q4 H hd3 (r1 11 Z (xc Z2 (i_tlist_c _ _ (H.lendSubL [5]) _ ((H.lendN (k:=5) (ks:=[5]) Z Z hN).at (show Nd.at_ T []=some T from Z)) hT.wf oM) ?_))
 rintro _ _ ⟨_,_,rfl,H45',⟨F45,rfl,hO45⟩⟩
 have H:=H.readersL H45'
 obtain⟨_,hP45⟩:=hO45
 obtain⟨_,_,rfl⟩:=OwnS.shape hP45
 have hO45:=OIs.mk hP45
 refine⟨_,Z,?_⟩
 refine q4 H hd3 (RD_t 12 Z kR Z (fun _ hK=>v_build bf27 Z Z) (r1 14 Z (xst 2 H Z8 ?_)));intro _ H
 refine R_nil (N_DKlast kR kR (N_K (W_seq (q2 (pe 2 Z (fA 4 Z (lB 4 H Z3 (lN Z (mV Z (q3 (W_block ?_)))))))))))
 have H:=H.addNil 67 2
 have H:=H.addF
 obtain⟨ln48,hln48,H⟩:=H.nameAt (k:=4) (off:=2) rfl rfl
 obtain⟨ln49,hln49,H⟩:=H.name (k:=5) rfl
 obtain⟨ln50,hln50,H⟩:=H.name (k:=6) rfl
 refine W_lp (hf:=(Sub.cons (t:=2) Z (Sub.cons (t:=3) Z (Sub.cons (t:=29) Z (Sub.cons (t:=30) Z Sub.nil))))) (J:=fun M w m=>∃(v:Value) (n:Nat) (cs:List Value) (xs:List (BSnap)) (F:Fr) (k:Nat) (G:PH),M=[(31,.int .i64 (k:Int))]∧PLe G0 G∧Hp w0 G0 (fps [blk db (cl [.int .i32 0,.int .u32 0,.map (some mb),.pointer (some ⟨T.b,0,none⟩),.slice adv sn.length cdv] 161),blk mb (.map es ck),frag FT,acc 164 2 (.slice adv sn.length cdv) sn.length c,frag FSq]) w G [frag F,acc 67 2 v n cs,frag F45,frag F44,blk b43 (cl (setN ln48 2 v) 27),blk b1 (cl ln49 27),blk db (cl ln50 161),blk mb (.map es ck),frag FT,acc 164 2 (.slice adv sn.length cdv) sn.length c,frag FSq]∧(ChkF snapO 2 cs xs F∧n=xs.length∧k≤sn.length∧xs=(sn.take k).map (fun x=>(⟨x.1,x.2.flat []⟩:BSnap)))∧m=(sn.length-k)) (h0:=⟨_,_,_,[],[],0,_,Z,PLe.refl _,H,?inv,Z⟩) (round:=?round)
 case inv=>exact⟨ChkF.nil,by first|rfl|simp|(simp;omega)|omega,(by simp)⟩
 case round =>
  rintro _ _ _ ⟨v,n,cs,xs,F,k,G51,rfl,hle51,H,hinv51,rfl⟩
  subst hln48
  subst hln49
  subst hln50
  have hchk:=hchk.up hle51
  have hNs:=hNs.up hle51
  obtain⟨hchk51_0,_,hinv51⟩:=hinv51
  obtain⟨_,_,rfl⟩:=H.accShape (k:=1) rfl
  obtain⟨hk,hxs⟩:=hinv51;have hxl6:xs.length≤6:=by (rw[hxs];simp;omega)
  refine q2 (pe 1 Z (q3 (W_seq ?_)))
  refine W_cond Z ?_ ?_
  ·intro hc52
   try simp only[nrm]at hc52
   refine W_skip (N_K (W_seq (W_block (q2 (o_index_A 9 H k Z hchk underlying159 sizeOf164 Z Z Z Z aN aN ?_)))));intro _ z53 _ hba53 hz53 hE53 hg53;cases hba53
   obtain⟨rfl,hi53⟩:=hE53;have hy_hi53:_≤16777216:=hi53
   refine o_loadagg_A 9 H isAgg164 sizeOf164 Z Z Z hg53 Z (xal H Z ?_);intro _ _ _ H
   refine xst 0 H Z8 ?_;intro _ H
   refine q3 (W_drawK [0,5,6,7] 12 H kR Z ?_);intro _ H;have hd56:=PLe.refl G51
   refine dF 0 2 Z2 (dB 1 1 Z4 (dF 2 0 Z2 (dB 3 0 Z4 (dF 4 1 Z2 (dB 5 0 Z4 (r1 6 Z ?_))))))
   refine xc Z2 (i_tlist_c _ _ (H.lendSubL [11]) _ (H.lendNs (k:=11) (ks:=[11]) Z Z hNs z53.2 (List.mem_map_of_mem (List.mem_of_getElem? hz53))) (sn_ok hSn _ (List.mem_map_of_mem (List.mem_of_getElem? hz53))).1 (by have:=(sn_ok hSn _ (List.mem_map_of_mem (List.mem_of_getElem? hz53))).2;omega)) ?_
   rintro _ _ ⟨_,_,rfl,H57',⟨F57,rfl,hO57⟩⟩
   have H:=H.readersL H57'
   obtain⟨_,hP57⟩:=hO57
   obtain⟨_,_,rfl⟩:=OwnS.shape hP57
   have hO57:=OIs.mk hP57
   refine⟨_,Z,?_⟩
   refine q4 H hd56 (RD_t 7 Z kR Z (fun _ hK=>v_build bf67 Z Z) (r1 8 Z (xbs H Z7 ?_)));intro _ _ _ H
   refine q4 H hd56 (r1 9 Z (o_append1 3 H (sz:=2) (bytes:=40) underlying25 typeInfo67 ⟨_,Z,Z⟩ Z Z Z Z Z Z Z Z Z Z oM Z ?_));intro _ _ H
   have hchk59:=hchk51_0.snoc (show snapO F57 ⟨z53.1,z53.2.flat []⟩ _ from⟨_,_,_,rfl,hi53,hO57⟩) rfl
   have H:=H.tF 2
   have H:=H.mergeF
   obtain⟨_,_,rfl⟩:=H.accShape (k:=2) rfl
   refine q4 H hd56 (dF 10 2 Z2 (r1 11 Z (xst 5 H Z8 ?_)));intro _ H
   refine R_nil (N_DKlast kR kR (N_B (N_K (W_region (aD Z2 (mV Z (R_nil ?_)))))))
   have H:=H.sel [0,2,3,4,5,6,7,8,9,10,11] rfl
   refine N_lp (hJ:=⟨_,_,_,(xs++[⟨z53.1,z53.2.flat []⟩]),(F++F57),k+1,_,Z,hle51,H,?inv,Z⟩) (hm:=?hm)
   case hm=>omega
   case inv=>exact⟨hchk59,aN,(by exact⟨by omega,by (rw[Sp.take_succ' hz53,List.map_append,←hxs];rfl)⟩)⟩
  intro hc52'
  try simp only[nrm]at hc52'
  refine W_exit (N_K_exit (N_LP_exit (N_B_same (N_K (q2 (lA 4 3 H Z4 (xst 5 H Z8 ?_)))))));intro _ H
  refine q3 (W_ret (ret_unlock 6 H muLib Z call104 Z Z (rs:=[.cell 2 27]) results41 ?_));intro _ H
  refine⟨[_],⟨⟨_,Z,load_blk 5 H isAgg27 sizeOf27 Z Z Z⟩,trivial⟩,?_⟩
  have H:=H.tF 1
  obtain⟨_,H,hOw9⟩:=H.ownF hchk51_0 aN aN
  have H:=H.sel [2,1,0] rfl
  have hxs2:xs=d.snaps:=by (rw[hxs,List.take_of_length_le oM];exact sn_list hSn)
  exact H.retM ⟨_,_,_,_,_,_,rfl,rfl,hO44,(by (rw[←hT.flat]);exact hO45),(by have h9:=(show OSn _ _ _ from⟨_,hOw9⟩);(rw[hxs2]at h9);exact h9)⟩
theorem i_spart_c (w0:World)(G0:PH)(hG:PSub G0 w0)(cpart:List Value)(part:BPart)(hpart:partE G0 part cpart) :
  Calls Tryz.prog 38 #[.agg cpart.toArray] w0 (Rets w0 (.bool (Sp.partOk part))):=by
 obtain⟨_,_,_,rfl,_,hi1,hr1⟩:=hpart;have hy_hi1:_≤16777216:=hi1;have hn_hr1:=hr1.len;have hx_hr1:_≤1099511627776:=hr1.lim
 have H:=Hp.init hG
 refine calls_of_W (l:=[_]) func38 Z ntmps38 Z (q2 (o_box H Z Z Z ?_));intro _ _ _ H
 refine aG Z (q3 (W_seq (q2 (fA 0 Z (lB 0 H Z3 (q3 (W_block (q2 (pe 2 Z (q3 ?_))))))))))
 refine W_cond Z ?_ ?_
 ·intro hc3
  try simp only[nrm]at hc3
  refine q2 (fA 2 Z (lB 0 H Z3 (pe 2 Z ?_)))
  refine R_case (t:=10) Z ?_ ?_
  ·intro hc4
   try simp only[nrm]at hc4
   refine pe 6 Z (q3 (W_ret (N_B_ret (N_K_ret (rt1 results38 Z ?_)))))
   exact H.rets (congrArg Value.bool (by simp_all [Sp.partOk,List.length_eq_zero_iff]))
  intro hc4'
  try simp only[nrm]at hc4'
  refine gR Z (fA 3 Z (gR Z (lB 0 H Z3 (gR Z (lN Z (pe 3 Z (q3 (W_ret (N_B_ret (N_K_ret (rt1 results38 Z ?_)))))))))))
  exact H.rets (congrArg Value.bool (by simp_all [Sp.partOk,List.length_eq_zero_iff]))
 intro hc3'
 try simp only[nrm]at hc3'
 refine q2 (pe 2 Z (q3 ?_))
 refine W_cond Z ?_ ?_
 ·intro hc5
  try simp only[nrm]at hc5
  refine q2 (fA 3 Z (lB 0 H Z3 (lN Z (pe 2 Z (q3 (W_ret (N_B_ret (N_K_ret (rt1 results38 Z ?_)))))))))
  exact H.rets (congrArg Value.bool (by simp_all [Sp.partOk,List.length_eq_zero_iff]))
 intro hc5'
 try simp only[nrm]at hc5'
 refine q2 (pe 2 Z (q3 ?_))
 refine W_cond Z ?_ ?_
 ·intro hc6
  try simp only[nrm]at hc6
  refine q2 (fA 2 Z (lB 0 H Z3 (pe 2 Z (q3 (W_ret (N_B_ret (N_K_ret (rt1 results38 Z ?_))))))))
  exact H.rets (congrArg Value.bool (by simp_all [Sp.partOk,List.length_eq_zero_iff]))
 intro hc6'
 try simp only[nrm]at hc6'
 refine W_skip (N_B (N_K (q2 (aG Z (q3 (W_ret (rt1 results38 Z ?_)))))))
 exact H.rets (congrArg Value.bool (by simp_all [Sp.partOk,List.length_eq_zero_iff]))
theorem i_next_c (w0:World)(G0:PH)(hG:PSub G0 w0)(rb:Nat)(ab:Option Addr)(kb:Nat)(bs:List Int)(p:Nat)(hbs:RdI G0 (.slice ab bs.length kb) bs)(hp:p≤bs.length)(hbl:bs.length≤1000000)(hLent:Lent w0 G0 [blk rb (cl [.slice ab bs.length kb,.int .i64 (p:Int)] 254)]) :
  Calls Tryz.prog 214 #[.pointer (some ⟨rb,0,none⟩)] w0 (RetM w0 G0 [rb] (fun G' v Bs=>∃(u:Value) (c:List Value) (p':Nat),v=u∧Bs=[acc 3 1 u (Sp.nextC bs p).length c,blk rb (cl [.slice ab bs.length kb,.int .i64 (p':Int)] 254)]∧p'=min (p+8) bs.length∧Chk intE 1 G' c (Sp.nextC bs p))):=by
 have H:Hp w0 G0 [rb] w0 G0 [blk rb (cl [.slice ab bs.length kb,.int .i64 (p:Int)] 254)]:=hLent.hp
 refine calls_of_W (l:=[.pointer (some ⟨rb,0,none⟩)]) func214 Z ntmps214 Z (q2 (aG Z (q3 (W_seq (W_drawK [0] 12 H kR Z ?_)))));intro _ H;have hd1:=PLe.refl G0
 refine dE 0 Z2 (dE 1 Z2 (dF 2 1 Z2 (dB 3 0 Z4 (RD_t 4 Z kR Z (fun _ hK=>v_add Z Z oO) (dE 5 Z2 (dE 6 Z2 (dF 7 0 Z2 (dB 8 0 Z4 (dN 9 Z2 (RD_t 10 Z kR Z (fun _ hK=>v_min Z Z) (dE 11 Z2 (rz (N_K (W_seq (W_drawK [0] 12 H kR Z ?_)))))))))))))));intro _ H;have hd3:=PLe.refl G0
 refine dE 0 Z2 (dE 1 Z2 (dF 2 0 Z2 (dB 3 0 Z4 (dE 4 Z2 (dE 5 Z2 (dF 6 1 Z2 (dB 7 0 Z4 (dE 8 Z2 ?_))))))))
 have hcap4:=hbs.cap;try simp only[List.length_set,List.length_append,List.length_take,List.length_drop,List.length_replicate]at hcap4
 have hsl4:=hbs.part (i:=p) (j:=(min (p+8) bs.length)) oM oM
 have hsn1:=hsl4.len
 refine RD_t 9 Z kR Z (fun _ hK=>v_slice (i:=p) (j:=(min (p+8) bs.length)) underlying37 sizeOf3 Z Z Z oM oM aN aN) (r1 10 Z ?_)
 have H:=H.addNil 3 1
 refine o_append_P 0 H hsl4 (by intro _ _ hz _ hu;obtain⟨rfl,_⟩:=hz;simp at hu;subst hu;rfl) (sz:=1) (bytes:=8) underlying37 typeInfo3 ⟨_,rfl,rfl⟩ rfl rfl rfl rfl rfl rfl rfl oM rfl ?_;intro _ _ css5 hcl5 hcs5 H
 have hchk5:Chk intE 1 G0 ([]++css5.flatten) _:=⟨css5,rfl,hcl5,hcs5⟩
 obtain⟨_,_,rfl⟩:=H.accShape (k:=0) rfl
 refine q4 H hd3 (dE 11 Z2 (rz (N_K (q2 (pe 3 Z (fA 1 Z (xst 1 H Z8 ?_)))))));intro _ H
 refine q1 (pe 2 Z (q3 (W_ret (rt1 results214 Z ?_))))
 have hcx:(Sp.nextC bs p).length=min (p+8) bs.length-p:=by unfold Sp.nextC;simp;omega
 have hpm:min ((p:Int)+8) (bs.length:Int)=((min (p+8) bs.length:Nat):Int):=by omega
 exact H.retM ⟨_,_,min (p+8) bs.length,rfl,by rw[hcx,hpm];simp only[Nat.zero_add];rfl,rfl,hchk5⟩
theorem i_storeFile_c (w0:World)(G0:PH)(hG:PSub G0 w0)(mbs:Nat)(ess:Array MapEntry)(cks:Nat)(xss:List (Int×Value))(Ls:List BHeld)(hms:MapIs (Value.int .i64) ess cks xss)(hSs:StR G0 xss Ls)(hVs:Sp.VH Ls)(vbytes:Value)(bytes:List (Int))(hbytes:RdI G0 vbytes bytes)(hLent:Lent w0 G0 [blk mbs (.map ess cks)])(hB:Sp.FileValid bytes=true) :
  Calls Tryz.prog 185 #[.map (some mbs),vbytes] w0 (RetM w0 G0 [mbs] (fun G' v Bs=>∃(es':Array MapEntry) (ck':Nat) (xs':List (Int×Value)) (L':List BHeld) (u:Value) (c:List Value) (ids:List Int),v= .tuple #[u,.bool (Sp.FileStore Ls bytes).isSome]∧Bs=[acc 3 1 u ids.length c,blk mbs (.map es' ck')]∧MapIs (Value.int .i64) es' ck' xs'∧StR G' xs' L'∧Sp.VH L'∧(∀r,Sp.FileStore Ls bytes=some r→r=(L',ids))∧Chk intE 1 G' c ids∧ids.length≤1000)):=by
 obtain⟨abytes,kbytes,rfl⟩:=hbytes.shape
 have hlimbytes:bytes.length≤1099511627776:=hbytes.lim
 have hBl:bytes.length≤32:=by simp[Sp.FileValid]at hB;omega
 have H:Hp w0 G0 [mbs] w0 G0 [blk mbs (.map ess cks)]:=hLent.hp
 refine calls_of_W (l:=[.map (some mbs),.slice abytes bytes.length kbytes]) func185 Z ntmps185 Z (q2 (pe 2 Z (q1 (aG Z (q1 (mV Z (o_build bf254 Z Z Z (o_box H Z Z Z ?_))))))));intro b1 _ _ H
 refine aG Z (q3 (W_seq (q2 (mV Z (xc Z2 (i_next_c _ _ H.sub _ _ _ _ 0 hbytes oM oM H.lent1) ?_)))))
 rintro _ _ ⟨G2,_,_,rfl,H2',⟨_,_,_,rfl,rfl,_,hchk2⟩⟩
 have hSs:=hSs.up H2'.le
 have hbytes:=hbytes.up H2'.le
 have H:=H.borrow1 H2'
 obtain⟨_,_,rfl⟩:=H.accShape (k:=0) rfl
 refine⟨_,Z,?_⟩
 refine aG Z (q3 (W_block ?_))
 have H:=H.addNil 3 1
 refine W_lp (hf:=(Sub.cons (t:=0) Z (Sub.cons (t:=7) Z Sub.nil))) (J:=fun M w m=>∃(esm0:Array MapEntry) (ckm0:Nat) (xsm0:List (Int×Value)) (Lm0:List BHeld) (v:Value) (n:Nat) (cs:List Value) (xs:List (Int)) (v1:Value) (n1:Nat) (cs1:List Value) (xs1:List (Int)) (k p:Nat) (G:PH),M=[(6,v),(8,v1)]∧PLe G2 G∧Hp w0 G0 [mbs] w G [acc 3 1 v n cs,acc 3 1 v1 n1 cs1,blk b1 (cl [.slice abytes bytes.length kbytes,.int .i64 (p:Int)] 254),blk mbs (.map esm0 ckm0)]∧(MapIs (Value.int .i64) esm0 ckm0 xsm0∧StR G xsm0 Lm0∧Sp.VH Lm0∧Chk intE 1 G cs xs∧n=xs.length∧Chk intE 1 G cs1 xs1∧n1=xs1.length∧xs1=Sp.chunk bytes k∧p=min (8*k+8) bytes.length∧xs.length≤k∧k≤100∧Sp.foldB Sp.put1 ((Sp.l4Cut bytes).take k) (some (Ls,[]))=some (Lm0,xs))∧m=(100-k)) (h0:=⟨_,_,xss,Ls,_,_,_,[],_,_,_,(Sp.nextC bytes 0),0,_,_,Z,PLe.refl _,H,?inv,Z⟩) (round:=?round)
 case inv=>exact⟨hms,hSs,hVs,(by exact⟨(Chk.nil (E:=intE) (sz:=1) (G:=G2)),(by first|rfl|simp|(simp;omega)|omega),hchk2,by first|rfl|simp|(simp;omega)|omega,(by exact⟨Sp.next_zero _,by omega,by simp,by omega,by simp[Sp.foldB]⟩)⟩)⟩
 case round =>
  rintro _ _ _ ⟨esm0,ckm0,xsm0,Lm0,v,n,cs,xs,v1,n1,cs1,xs1,k,p,_,rfl,hle4,H,hinv4,rfl⟩
  have hbytes:=hbytes.up hle4
  obtain⟨hm4_m0,hS4_m0,hV4_m0,hinv4⟩:=hinv4
  obtain⟨hchk4_0,_,hinv4⟩:=hinv4
  obtain⟨_,_,rfl⟩:=H.accShape (k:=0) rfl
  obtain⟨hchk4_1,_,hinv4⟩:=hinv4
  obtain⟨_,_,rfl⟩:=H.accShape (k:=1) rfl
  obtain⟨rfl,hpk,_,_,hf⟩:=hinv4;have hcl:=Sp.chunk_len bytes k
  refine W_seq (q2 (mV Z (lN Z (pe 1 Z (q3 ?_)))))
  refine W_cond Z ?_ ?_
  ·intro hc5
   try simp only[nrm]at hc5
   refine W_skip (N_K (W_seq (W_block (q2 (pe 2 Z ?_)))))
   obtain⟨_,H,hsg7,hsr7⟩:=H.shutL (k:=1) rfl (H.apart (k:=1) (ks:=[3]) rfl rfl (by intro b hb;simpa [fpsAt,nth,blk] using hb)) hchk4_1 aN aN
   have hbytes:=hbytes.up hsg7
   have hS4_m0:=hS4_m0.up hsg7
   have hchk4_0:=hchk4_0.up hsg7
   have hle4:=hle4.trans hsg7
   have H:=H.tF 2
   refine xc Z2 (i_put_c _ _ H.sub _ _ _ _ _ hm4_m0 hS4_m0 hV4_m0 _ _ hsr7 H.lent1 (Sp.chunk_valid hB oM)) ?_
   rintro _ _ ⟨G6,_,_,rfl,H6',⟨_,_,xs6,L6,i6,rfl,rfl,hm6,hS6,hV6,hL6,_,hir6⟩⟩
   have hbytes:=hbytes.up H6'.le
   have hchk4_0:=hchk4_0.up H6'.le
   have hle4:=hle4.trans H6'.le
   have H:=H.borrow1 H6'
   refine⟨_,Z,?_⟩
   refine pe 5 Z (q3 (W_seq (q2 (pe 2 Z (q3 ?_)))))
   refine W_cond Z ?_ ?_
   ·intro hc8
    try simp only[nrm]at hc8
    refine q2 (pe 2 Z (q3 (W_ret (N_K_ret (N_B_ret (N_K_ret (N_LP_ret (N_B_ret (N_K_ret (rt2 results185 Z Z ?_))))))))))
    have hno:Sp.FileStore Ls bytes=none:=by (have hno:Sp.StorePut Lm0 (Sp.chunk bytes k)=none:=by simpa using hc8);simp only[Sp.FileStore,Sp.valid_iff.2 hVs,hB,Bool.and_self,if_true];exact Sp.foldB_stop hf (Sp.chunks_at oM) (by simp[Sp.put1,hno])
    have H:=H.addNil 3 1
    have H:=H.dl 2
    have H:=H.dl 2
    have H:=H.tF 1
    have H:=H.tF 1
    exact H.retM ⟨_,_,_,_,_,_,_,congrArg (fun b=>Value.tuple #[_,Value.bool b]) (show _=(Sp.FileStore Ls bytes).isSome by rw[hno];rfl),acc_1 aN,hm6,hS6,hV6,(fun r hr=>by rw[hno]at hr;cases hr),(Chk.nil (E:=intE) (sz:=1) (G:=G6)),by first|omega|(simp;done)|(simp;omega)⟩
   intro hc8'
   try simp only[nrm]at hc8'
   obtain⟨⟨r1,r2⟩,hsp⟩:=Option.isSome_iff_exists.1 hc8'
   have hLp:L6=r1:=by rw[hL6,hsp];rfl
   subst hLp
   obtain rfl:i6=r2:=(hir6 _ hsp).symm
   refine W_skip (N_K (W_region (pe 2 Z (xbs H Z7 ?_))));intro _ _ _ H
   refine o_append1 1 H (sz:=1) (bytes:=8) underlying37 typeInfo3 ⟨_,Z,Z⟩ Z Z Z Z Z Z Z Z Z Z oM Z ?_;intro _ _ H
   have hchk10:=hchk4_0.snoc (show intE _ i6 _ from⟨rfl,oO⟩) rfl
   obtain⟨_,_,rfl⟩:=H.accShape (k:=1) rfl
   refine aG Z (R_nil (N_B (N_K (W_region (mV Z ?_)))))
   have H:=H.tF 2
   refine xc Z2 (i_next_c _ _ H.sub _ _ _ _ p hbytes oM oM H.lent1) ?_
   rintro _ _ ⟨_,_,_,rfl,H11',⟨_,_,p11,rfl,rfl,_,hchk11⟩⟩
   have hS6:=hS6.up H11'.le
   have hchk10:=hchk10.up H11'.le
   have hle4:=hle4.trans H11'.le
   have H:=H.borrow1 H11'
   obtain⟨_,_,rfl⟩:=H.accShape (k:=0) rfl
   refine⟨_,Z,?_⟩
   refine aG Z (R_nil ?_)
   have H:=H.sel [3,0,1,2] rfl
   refine N_lp (hJ:=⟨_,_,xs6,L6,_,_,_,(xs++[i6]),_,_,_,(Sp.nextC bytes p),k+1,p11,_,Z,hle4,H,?inv,Z⟩) (hm:=?hm)
   case hm=>omega
   case inv=>exact⟨hm6,hS6,hV6,(by exact⟨hchk10,aN,hchk11,aN,(by exact⟨by rw[hpk];exact Sp.next_chunk _ _,by omega,by simp;omega,by omega,Sp.foldB_succ hf (Sp.chunks_at oM) (by simp[Sp.put1,hsp])⟩)⟩)⟩
  intro hc5'
  try simp only[nrm]at hc5'
  refine W_exit (N_K_exit (N_LP_exit (N_B_same (N_K (q2 (pe 3 Z (q3 (W_ret (rt2 results185 Z Z ?_)))))))))
  have hyes:Sp.FileStore Ls bytes=some (Lm0,xs):=by simp only[Sp.FileStore,Sp.valid_iff.2 hVs,hB,Bool.and_self,if_true];exact Sp.foldB_all hf (Sp.chunks_end oM)
  have H:=H.dl 1
  have H:=H.dl 1
  have H:=H.tF 1
  have H:=H.tF 1
  exact H.retM ⟨_,_,_,_,_,_,_,congrArg (fun b=>Value.tuple #[_,Value.bool b]) (show _=(Sp.FileStore Ls bytes).isSome by rw[hyes];rfl),acc_1 aN,hm4_m0,hS4_m0,hV4_m0,(fun r hr=>by rw[hyes]at hr;cases hr;rfl),hchk4_0,by first|omega|(simp;done)|(simp;omega)⟩
theorem i_count_r:∀(N:Nat) (w0:World) (G0:PH) (hG:PSub G0 w0) (t:Nd) (hndt:RdN G0 t) (hct:t.cnt≤100000) (hsz:t.size≤N),
  Calls Tryz.prog 213 #[.pointer (some ⟨t.b,0,none⟩)] w0 (Rets w0 (.int .i64 (t.cnt:Nat))):=by
 intro N
 induction N with
 | zero=>intro w0 G0 hG t hndt hct hsz;exact absurd (Nd.size_pos t) oM
 | succ N ih =>
 intro w0 G0 hG t hndt hct hsz
 obtain⟨_,_,_,_,_,_,_,hprt,hrit,hrkt⟩:=hndt.open
 have hn_hrit:=hrit.len;have hx_hrit:_≤1099511627776:=hrit.lim
 have hn_hrkt:=hrkt.len;have hx_hrkt:_≤1099511627776:=hrkt.lim
 subst hn_hrkt
 have H:=Hp.init hG
 refine calls_of_W (l:=[.pointer (some ⟨t.b,0,none⟩)]) func213 Z ntmps213 Z (q2 (aG Z (q1 (pe 2 Z (fA 3 Z (lP H hprt 3 Z2 (lN Z (aG Z (q3 (W_seq (q2 (pe 2 Z (fA 3 Z (lP H hprt 3 Z2 (lN Z ?_)))))))))))))))
 refine mV Z (q3 (W_block ?_))
 refine W_lp (hf:=(Sub.cons (t:=2) Z (Sub.cons (t:=14) Z (Sub.cons (t:=15) Z Sub.nil)))) (J:=fun M w m=>∃(k mm:Nat) (G:PH),M=[(16,.int .i64 (k:Int)),(3,.int .i64 (mm:Int))]∧PLe G0 G∧Hp w0 G0 [] w G []∧(k≤t.kids.length∧mm=Nd.cnts (t.kids.take k)+(t.kids.length-k))∧m=(t.kids.length-k)) (h0:=⟨0,t.kids.length,_,Z,PLe.refl _,H,?inv,Z⟩) (round:=?round)
 case inv=>simp[Nd.cnts]
 case round =>
  rintro _ _ _ ⟨k,mm,_,rfl,hle1,H,hinv1,rfl⟩
  have hrkt:=hrkt.up hle1
  obtain⟨_,hm⟩:=hinv1;have hct2:=Nd.cnts_take t.kids k;have hct3:=Nd.cnt_eq t;have hkl:=Nd.kids_le t
  refine q2 (pe 1 Z (q3 (W_seq ?_)))
  refine W_cond Z ?_ ?_
  ·intro hc2
   try simp only[nrm]at hc2
   refine W_skip (N_K (W_seq (W_block (q2 (iP k hrkt Z3 Z ?_)))));intro _ _ z3 _ hz3 hE3 hrow3
   obtain⟨rfl,hnd3⟩:=hE3;obtain⟨_,_,_,_,_,_,_,_,hri3,hrk3⟩:=hnd3.open;have hn_hri3:=hri3.len;have hx_hri3:_≤1099511627776:=hri3.lim;have hn_hrk3:=hrk3.len;have hx_hrk3:_≤1099511627776:=hrk3.lim
   have hzm:=List.mem_of_getElem? hz3;have hzc:=Nd.kid_cnt hzm;have hzs:=Nd.size_kid hzm
   refine lP H hrow3 0 Z2 (aG Z (q3 (W_region (pe 2 Z (xr H Z2 (ih _ _ H.sub _ hnd3 oM oM) ?_)))));intro _ H
   refine aD Z2 (aG Z (R_nil (N_B (N_K (W_region (aD Z2 (mV Z (R_nil ?_))))))))
   refine N_lp (hJ:=⟨k+1,(mm+z3.cnt),_,Z,hle1,H,?inv,Z⟩) (hm:=?hm)
   case hm=>omega
   case inv=>exact⟨by omega,by (rw[Nd.cnts_succ hz3];omega)⟩
  intro hc2'
  try simp only[nrm]at hc2'
  refine W_exit (N_K_exit (N_LP_exit (N_B_same (N_K (q2 (pe 2 Z (q3 (W_ret (rt1 results213 Z ?_)))))))))
  exact H.rets (congrArg (fun j:Nat=>Value.int .i64 (j:Int)) (by (rw[hm,List.take_of_length_le oM]);omega))
theorem i_count_c (w0:World)(G0:PH)(hG:PSub G0 w0)(t:Nd)(hndt:RdN G0 t)(hct:t.cnt≤100000) :
  Calls Tryz.prog 213 #[.pointer (some ⟨t.b,0,none⟩)] w0 (Rets w0 (.int .i64 (t.cnt:Nat))):=i_count_r _ w0 G0 hG t hndt hct (Nat.le_refl _)
theorem i_put_n_c (w0:World)(G0:PH)(hG:PSub G0 w0)(Ft:Fr)(t:Nd)(hNt:NdO 90 84 G0 t Ft)(cx:List Value)(x:BItem)(hx:itemE G0 x cx)(hLent:Lent w0 G0 [frag Ft])(hwt:t.wf)(hct:t.cnt≤1000) :
  Calls Tryz.prog 183 #[.pointer (some ⟨t.b,0,none⟩),.agg cx.toArray] w0 (RetM w0 G0 (fps [frag Ft]) (fun G' v Bs=>∃(nb:Nat) (F':Fr) (t':Nd),v= .bool (t.putN x nb).isSome∧Bs=[frag F']∧NdO 90 84 G' t' F'∧t'.b=t.b∧(t.putN x nb).getD t=t')):=by
 obtain⟨_,_,_,rfl,hi1,hr1,_,_⟩:=ox hx
 have H:Hp w0 G0 (fps [frag Ft]) w0 G0 [frag Ft]:=hLent.hp
 refine calls_of_W (l:=[.pointer (some ⟨t.b,0,none⟩),_]) func183 Z ntmps183 Z (q2 (o_box H Z Z Z ?_));intro _ _ hb2 H
 refine aG Z (q1 (mV Z (fA 0 Z (lB 0 H Z3 (xc Z2 (i_find_n_c _ _ (H.lendSubL [1]) _ ((H.lendN (k:=1) (ks:=[1]) Z Z hNt).at (show Nd.at_ t []=some t from Z)) _ hi1 hwt) ?_)))))
 rintro _ _ ⟨_,rfl,ew3,⟨hfi3,rfl⟩|⟨_,hfi3,rfl⟩⟩
 ·skip
  have H:=H.step ew3;refine⟨_,rfl,?_⟩
  refine aG Z (q3 (W_seq (q2 (mV Z (o_eqnil_ptr underlying84 Z Z Z (q3 (W_true Z (q2 (mV Z (xr H Z2 (i_count_c _ _ (H.lendSubL [1]) _ ((H.lendN (k:=1) (ks:=[1]) Z Z hNt).at (show Nd.at_ t []=some t from Z)) oM) ?_))))))))));intro _ H
  refine pe 2 Z ?_
  refine R_case (t:=15) Z ?_ ?_
  ·intro hc5
   try simp only[nrm]at hc5
   refine pe 1 Z (gR Z (lA 0 3 H Z4 (gR Z ?_)))
   have H:=H.tF 1
   refine xc Z2 (i_insert_c _ _ H.sub _ _ hNt _ x ⟨_,_,_,Z,hi1,hr1⟩ H.lent1 hwt hct) ?_
   rintro _ _ ⟨_,_,_,rfl,H6',⟨nb6,_,_,rfl,rfl,hN6,hb6,ht6⟩⟩
   have H:=H.borrow1 H6'
   try rw[←hb6]
   refine⟨_,Z,?_⟩
   refine pe 2 Z (q3 (W_ret (N_K_ret (rt1 results183 Z ?_))))
   have H:=H.dl 1
   have hput:=Nd.put_ins (nb:=nb6) hfi3 oM
   exact H.retM ⟨nb6,_,_,by (rw[hput];rfl),rfl,hN6,by (first|exact hb6|rfl),by (rw[hput];exact ht6)⟩
  intro hc5'
  try simp only[nrm]at hc5'
  refine pe 5 Z (q3 (W_ret (N_K_ret (rt1 results183 Z ?_))))
  have H:=H.dl 0
  have hput:=Nd.put_no1 (nb:=0) hfi3 oM
  exact H.retM ⟨0,_,_,by (rw[hput];rfl),rfl,hNt,rfl,by (rw[hput];rfl)⟩
 skip
 have H:=H.step ew3;refine⟨_,rfl,?_⟩
 refine aG Z (q3 (W_seq (q2 (mV Z (o_eqnil_ptr underlying84 Z Z Z (q3 (W_false Z (W_skip (N_K (W_seq (q2 ?_)))))))))))
 have H:=H.tF 1
 obtain⟨_,_,_,_,oFs,_,H,ohri,ohNs,_,_,hcov,hclose⟩:=Hp.openNode H hNt (Nd.find_at_ hfi3)
 obtain⟨_,_,rfl⟩:=H.accShape (k:=1) rfl;have hdo:=PLe.refl G0;have hn_ohri:=ohri.len
 refine pe 2 Z (fA 1 Z (lB 0 H Z3 (mV Z ?_)))
 refine R_case (t:=24) Z ?_ ?_
 ·intro hc7
  try simp only[nrm]at hc7
  refine pe 3 Z (q3 (W_true Z (q2 (aG Z (q3 (W_ret (N_K_ret (rt1 results183 Z ?_))))))))
  have H:=H.sel [0,1,2] rfl
  obtain⟨F2,H,hN2,hb2⟩:=hclose (Fs':=oFs) H (List.Perm.refl _) hdo ohri ohNs oM
  have hN2:=(Nd.upd_same (Nd.find_at_ hfi3))▸hN2
  have hput:=Nd.put_no2 (x:=x) (nb:=0) hfi3 (by simp_all)
  exact H.retM ⟨0,_,_,by (rw[hput];rfl),rfl,hN2,rfl,by (rw[hput];rfl)⟩
 intro hc7'
 try simp only[nrm]at hc7'
 refine gR Z (fA 1 Z (gR Z (lB 3 H Z3 (pe 1 Z (q3 ?_)))))
 refine W_cond Z ?_ ?_
 ·intro hc8
  try simp only[nrm]at hc8
  refine q2 (aG Z (q3 (W_ret (N_K_ret (rt1 results183 Z ?_)))))
  have H:=H.sel [0,1,2] rfl
  obtain⟨F2,H,hN2,hb2⟩:=hclose (Fs':=oFs) H (List.Perm.refl _) hdo ohri ohNs oM
  have hN2:=(Nd.upd_same (Nd.find_at_ hfi3))▸hN2
  have hput:=Nd.put_no2 (x:=x) (nb:=0) hfi3 (by simp_all)
  exact H.retM ⟨0,_,_,by (rw[hput];rfl),rfl,hN2,rfl,by (rw[hput];rfl)⟩
 intro hc8'
 try simp only[nrm]at hc8'
 refine W_skip (N_K (q2 (mV Z (fA 2 Z (lB 3 H Z3 (xc Z2 (l_Clone_c _ _ H.sub _ _ hr1) ?_))))))
 rintro _ _ ⟨_,_,_,g9,rfl,⟨_,rfl,hchk9⟩,hp9,hq9,hs9⟩
 have H:=H.growO g9 hp9 hq9 hs9;obtain⟨_,_,rfl⟩:=H.accShape (k:=0) rfl
 have ohNs:=ohNs.up g9.le
 have hdo:=hdo.trans g9.le
 refine⟨_,Z,?_⟩
 obtain⟨_,H,hsg10,hsr10⟩:=H.shutL (k:=0) rfl (H.apart (k:=0) (ks:=[1,2,3]) rfl rfl (by intro b hb;rcases hcov b hb with h|h|h;(· exact fpsAt_mem (k:=1) rfl rfl b (by simp[blk,h]));(· exact fpsAt_mem (k:=2) rfl rfl b h);(· exact fpsAt_mem (k:=3) rfl rfl b h))) hchk9 aN aN
 have ohNs:=ohNs.up hsg10
 have hdo:=hdo.trans hsg10
 refine pe 1 Z (fA 2 Z (xst 0 H Z8 ?_));intro _ H
 refine q1 (aG Z (q3 (W_ret (rt1 results183 Z ?_))))
 have H:=H.sel [0,1,2] rfl
 obtain⟨F2,H,hN2,hb2⟩:=hclose (ids':=x.ids) (Fs':=oFs) H (List.Perm.refl _) hdo hsr10 ohNs oM
 have hput:=Nd.put_set (nb:=0) hfi3 (by simp_all)
 exact H.retM ⟨0,_,_,by (rw[hput];rfl),rfl,hN2,hb2,by (rw[hput];rfl)⟩
theorem i_drop_n_c (w0:World)(G0:PH)(hG:PSub G0 w0)(Ft:Fr)(t:Nd)(hNt:NdO 90 84 G0 t Ft)(path:Bs)(hpath:path.length≤16777216)(hLent:Lent w0 G0 [frag Ft])(hwt:t.wf)(hct:t.cnt≤1000) :
  Calls Tryz.prog 186 #[.pointer (some ⟨t.b,0,none⟩),str path] w0 (RetM w0 G0 (fps [frag Ft]) (fun G' v Bs=>∃(F' Fk:Fr) (t':Nd),v= .bool (t.dropN path).isSome∧Bs=[frag F',frag Fk]∧NdO 90 84 G' t' F'∧t'.b=t.b∧(t.dropN path).getD t=t'∧((t.dropN path).isSome=true→∃k,t.find path=some k∧NdO 90 84 G' k Fk))):=by
 have H:Hp w0 G0 (fps [frag Ft]) w0 G0 [frag Ft]:=hLent.hp
 refine calls_of_W (l:=[.pointer (some ⟨t.b,0,none⟩),str path]) func186 Z ntmps186 Z (q2 (aG Z (q1 (pe 2 Z (xc Z2 (i_dirOf_c _ _ (H.lendSubL [0]) _ ((H.lendN (k:=0) (ks:=[0]) Z Z hNt).at (show Nd.at_ t []=some t from Z)) _ hpath hwt) ?_)))))
 rintro _ _ ⟨_,rfl,ew1,⟨hdf1,rfl⟩|⟨d1,nm1,hdf1,rfl⟩⟩
 ·skip
  have H:=H.step ew1;refine⟨_,rfl,?_⟩
  refine pe 5 Z (q3 (W_seq (q2 (mV Z (o_eqnil_ptr underlying84 Z Z Z (q3 (W_true Z (q2 (aG Z (q3 (W_ret (N_K_ret (rt1 results186 Z ?_)))))))))))))
  have hdr:=Nd.drop_no1 hdf1
  have H:=(H.addF).swap0
  exact H.retM ⟨_,[],_,by (rw[hdr];rfl),rfl,hNt,rfl,by (rw[hdr];rfl),fun h=>by rw[hdr]at h;cases h⟩
 skip
 have H:=H.step ew1;refine⟨_,rfl,?_⟩
 have hnml1:=Nd.dir_len hdf1
 refine pe 5 Z (q3 (W_seq (q2 (mV Z (o_eqnil_ptr underlying84 Z Z Z (q3 (W_false Z (W_skip (N_K (q2 (pe 2 Z (xr H Z2 (i_place_c _ _ (H.lendSubL [0]) _ ((H.lendN (k:=0) (ks:=[0]) Z Z hNt).at (Nd.dirOf_some hdf1).2.2.1) _ hnml1 (Nd.dir_wf hwt hdf1)) ?_))))))))))));intro _ H
 refine pe 5 Z (q3 (W_seq (q2 (pe 3 Z ?_))))
 refine R_case (t:=25) Z ?_ ?_
 ·intro hc3
  try simp only[nrm]at hc3
  refine pe 13 Z (q3 (W_true Z (q2 (aG Z (q3 (W_ret (N_K_ret (rt1 results186 Z ?_))))))))
  have hdr:=Nd.drop_no2 hdf1 (by simpa using hc3)
  have H:=(H.addF).swap0
  exact H.retM ⟨_,[],_,by (rw[hdr];rfl),rfl,hNt,rfl,by (rw[hdr];rfl),fun h=>by rw[hdr]at h;cases h⟩
 intro hc3'
 try simp only[nrm]at hc3'
 obtain⟨_,_,_,_,oFs,oR,H,ohri,ohNs,_,_,_,hclose⟩:=Hp.openNode H hNt (Nd.dirOf_some hdf1).2.2.1
 obtain⟨_,_,rfl⟩:=H.accShape (k:=1) rfl;have hdo:=PLe.refl G0;have hn_ohri:=ohri.len
 obtain⟨kk,hq⟩:=Option.isSome_iff_exists.1 hc3'
 have hpl:d1.kids[Sp.pl d1.kids nm1]? = some kk:=Nd.place_some (Nd.dir_wf hwt hdf1) hq
 have hplt:=(List.getElem?_eq_some_iff.1 hpl).1;have hcd:=Nd.at_cnt (Nd.dirOf_some hdf1).2.2.1;have hcl:=Nd.kids_le d1
 have H:=H.tF 2
 obtain⟨_,_,_,_,_,kFk,kF,H,khri,khN,khNs,khp⟩:=Hp.openKid H ohNs hpl
 have hn_khri:=khri.len
 refine pe 2 Z (gR Z (fA 3 Z (gR Z (lB 2 H Z3 (pe 1 Z (gR Z (o_index_A 3 H (Sp.pl d1.kids nm1) Z (chkK _) underlying88 sizeOf84 Z Z Z Z aN aN ?_)))))));intro _ _ _ hba4 hz4 hE4 hg4;cases hba4
 obtain rfl:=hE4
 refine gR Z (o_load_A 3 H isAgg84 Z Z Z (hg4 0 _ Z) ?_)
 have hzk:=Option.some.inj (hz4.symm.trans hpl);subst hzk
 refine pe 1 Z (gR Z (fA 3 Z (gR Z (lB 0 H Z3 (gR Z (lN Z (pe 2 Z (q3 ?_))))))))
 refine W_cond Z ?_ ?_
 ·intro hc5
  try simp only[nrm]at hc5
  refine q2 (aG Z (q3 (W_ret (N_K_ret (rt1 results186 Z ?_)))))
  have H:=H.sel [0,1,2,3] rfl
  have H:=H.inF
  have H:=H.tF 2
  have H:=H.tF 2
  obtain⟨F2,H,hN2,hb2⟩:=hclose (Fs':=oFs) H (by simpa using List.Perm.append_right oR khp.symm) hdo ohri ohNs oM
  have hN2:=(Nd.upd_same (Nd.dirOf_some hdf1).2.2.1)▸hN2
  have hdr:=Nd.drop_no3 hdf1 hq (by first|omega|(simp_all;done)|(simp_all;omega))
  have H:=(H.addF).swap0
  exact H.retM ⟨_,[],_,by (rw[hdr];rfl),rfl,hN2,rfl,by (rw[hdr];rfl),fun h=>by rw[hdr]at h;cases h⟩
 intro hc5'
 try simp only[nrm]at hc5'
 refine W_skip (N_K (q2 (pe 3 Z (fA 3 Z (lB 2 H Z3 (pe 2 Z (aD Z2 ?_)))))))
 have H:=H.tF 3
 refine xc Z2 (l_Delete_c _ _ H.sub _ _ (Sp.pl d1.kids nm1) oM oM H.lent1) ?_
 rintro _ _ ⟨_,_,_,rfl,H7',⟨_,rfl,rfl⟩⟩
 have ohri:=ohri.up H7'.le
 have khN:=khN.up H7'.le
 have khNs:=khNs.up H7'.le
 have hdo:=hdo.trans H7'.le
 have H:=H.borrow1 H7'
 obtain⟨_,_,rfl⟩:=H.accShape (k:=0) rfl
 refine⟨_,Z,?_⟩
 refine pe 1 Z (fA 3 Z (xst 3 H Z8 ?_));intro _ H
 refine q1 (aG Z (q3 (W_ret (rt1 results186 Z ?_))))
 have H:=H.tF 3
 have H:=H.tF 3
 have H:=H.tF 3
 have H:=H.inF
 have H:=Hp.splitF (F:=(_,_)::kFk) (F':=kF++oR) H
 have H:=H.tF 1
 have H:=H.tF 3
 have H:=H.tF 3
 have hkl:(d1.kids.take (Sp.pl d1.kids nm1)++d1.kids.drop (Sp.pl d1.kids nm1+1)).length=d1.kids.length-1:=by (simp;omega)
 obtain⟨F2,H,hN2,hb2⟩:=hclose (kids':=(d1.kids.take (Sp.pl d1.kids nm1)++d1.kids.drop (Sp.pl d1.kids nm1+1))) (Fs':=kF) (by (rw[hkl];exact H)) (List.Perm.refl _) hdo ohri khNs oM
 have hdr:=Nd.drop_yes hdf1 hq (by first|omega|(simp_all;done)|(simp_all;omega))
 exact H.retM ⟨_,_,_,by (rw[hdr];rfl),rfl,hN2,hb2,by (rw[hdr];rfl),fun _=>⟨_,by (rw[Nd.find_yes hdf1,Nd.at_one];exact hq),khN⟩⟩
theorem i_vwrite_c (w0:World)(G0:PH)(hG:PSub G0 w0)(mb:Nat)(es:Array MapEntry)(ck:Nat)(xs:List (Int×Value))(T:Nd)(FT:Fr)(L:List BHeld)(l:List BItem)(hm:MapIs (Value.int .i64) es ck xs)(hS:StR G0 xs L)(hN:NdO 90 84 G0 T FT)(hT:Nd.TOK T l)(hH:Sp.Hol L l)(path:Bs)(hpath:path.length≤16777216)(vbytes:Value)(bytes:List (Int))(hbytes:RdI G0 vbytes bytes)(hLent:Lent w0 G0 [blk mb (.map es ck),frag FT])(hB:Sp.FileValid bytes=true) :
  Calls Tryz.prog 158 #[.agg #[.map (some mb),.pointer (some ⟨T.b,0,none⟩)],str path,vbytes] w0 (RetM w0 G0 (fps [blk mb (.map es ck),frag FT]) (fun G' v Bs=>∃(es':Array MapEntry) (ck':Nat) (xs':List (Int×Value)) (F':Fr) (T':Nd) (L':List BHeld),v= .bool ((Sp.l11Write ⟨L,l⟩ path bytes)).isSome∧Bs=[blk mb (.map es' ck'),frag F']∧MapIs (Value.int .i64) es' ck' xs'∧StR G' xs' L'∧Sp.VH L'∧NdO 90 84 G' T' F'∧T'.b=T.b∧∀u',(Sp.l11Write ⟨L,l⟩ path bytes)=some u'→L'=u'.store∧Nd.TOK T' u'.tree∧Sp.Hol u'.store u'.tree)):=by
 obtain⟨abytes,kbytes,rfl⟩:=hbytes.shape
 have hlimbytes:bytes.length≤1099511627776:=hbytes.lim
 have H:Hp w0 G0 (fps [blk mb (.map es ck),frag FT]) w0 G0 [blk mb (.map es ck),frag FT]:=hLent.hp
 have hVd:=hH.vh;have hTc:=hT.cnt;have hTl:=hH.vt.len
 refine calls_of_W (l:=[_,str path,.slice abytes bytes.length kbytes]) func158 Z ntmps158 Z (q2 (o_box H Z Z Z ?_));intro _ _ _ H
 refine aG Z (q3 (W_seq (q2 (mV Z (xr H Z2 (i_PathValid_c _ _ H.sub _ hpath) ?_)))));intro _ H
 refine pe 1 Z (q3 ?_)
 refine W_cond Z ?_ ?_
 ·intro hc3
  try simp only[nrm]at hc3
  refine q2 (aG Z (q3 (W_ret (N_K_ret (rt1 results158 Z ?_)))))
  have H:=H.dl 0
  have H:=H.tF 1
  have H:=H.tF 1
  have hno:Sp.l11Write ⟨L,l⟩ path bytes=none:=Sp.write_nop (by simpa using hc3)
  exact H.retM ⟨_,_,_,_,_,_,congrArg Value.bool (by (rw[hno];rfl)),rfl,hm,hS,hVd,hN,rfl,fun u' h=>(by rw[hno]at h;cases h)⟩
 intro hc3'
 try simp only[nrm]at hc3'
 refine W_skip (N_K (q2 (fA 0 Z (lB 0 H Z3 (mV Z ?_)))))
 have H:=H.tF 1
 refine xc Z2 (i_storeFile_c _ _ H.sub _ _ _ _ _ hm hS hVd _ _ hbytes H.lent1 hB) ?_
 rintro _ _ ⟨_,_,_,rfl,H4',⟨_,_,_,L4,_,_,ids4,rfl,rfl,hm4,hS4,hV4,hL4,hchk4,_⟩⟩
 have hN:=hN.up H4'.le
 have H:=H.borrow1 H4'
 obtain⟨_,_,rfl⟩:=H.accShape (k:=0) rfl
 refine⟨_,Z,?_⟩
 refine pe 5 Z (q3 (W_seq (q2 (pe 2 Z (q3 ?_)))))
 refine W_cond Z ?_ ?_
 ·intro hc5
  try simp only[nrm]at hc5
  refine q2 (aG Z (q3 (W_ret (N_K_ret (rt1 results158 Z ?_)))))
  have H:=H.sel [1,3] rfl
  have hno:Sp.l11Write ⟨L,l⟩ path bytes=none:=Sp.l11Write_1 (v:=⟨L,l⟩) (by simpa using hc5)
  exact H.retM ⟨_,_,_,_,_,_,congrArg Value.bool (by (rw[hno];rfl)),rfl,hm4,hS4,hV4,hN,rfl,fun u' h=>(by rw[hno]at h;cases h)⟩
 intro hc5'
 try simp only[nrm]at hc5'
 refine W_skip (N_K (q2 ?_))
 obtain⟨G6,H,hsg6,hsr6⟩:=H.shutL (k:=0) rfl (H.apart (k:=0) (ks:=[1,3]) rfl rfl (by intro b hb;simp only[fps,List.flatMap_cons,List.flatMap_nil,List.append_nil,List.mem_append]at hb;rcases hb with h|h;(· exact fpsAt_mem (k:=1) rfl rfl b (by exact h));(· exact fpsAt_mem (k:=3) rfl rfl b (by exact h)))) hchk4 aN aN
 have hN:=hN.up hsg6
 have hS4:=hS4.up hsg6
 refine aG Z (q3 (W_seq (q2 (fA 1 Z (lB 1 H Z3 (mV Z (xc Z2 (i_find_n_c _ _ (H.lendSubL [2]) _ ((H.lendN (k:=2) (ks:=[2]) Z Z hN).at (show Nd.at_ T []=some T from Z)) _ hpath hT.wf) ?_)))))))
 rintro _ _ ⟨_,rfl,ew7,⟨hfi7,rfl⟩|⟨d7,hfi7,rfl⟩⟩
 ·skip
  have H:=H.step ew7;refine⟨_,rfl,?_⟩
  refine aG Z (q1 (mV Z (o_nenil_ptr underlying84 Z Z Z (q3 (W_false Z (W_skip (N_K (q2 (fA 1 Z (lB 1 H Z3 (pe 2 Z (o_build bf41 Z Z Z ?_))))))))))))
  have H:=H.tF 2
  refine xc Z2 (i_put_n_c _ _ H.sub _ _ hN _ ⟨path,false,ids4⟩ ⟨_,_,_,Z,hpath,hsr6⟩ H.lent1 hT.wf oM) ?_
  rintro _ _ ⟨_,_,_,rfl,H8',⟨nb8,_,t8,rfl,rfl,hN8,hb8,ht8⟩⟩
  have hS4:=hS4.up H8'.le
  have H:=H.borrow1 H8'
  try rw[←hb8]
  refine⟨_,Z,?_⟩
  refine mV Z ?_
  refine R_case (t:=39) Z ?_ ?_
  ·intro hc9
   try simp only[nrm]at hc9
   refine gR Z (fA 0 Z (gR Z (lB 2 H Z3 (pe 1 Z (gR Z ?_)))))
   have H:=H.tF 1
   refine xc Z2 (i_freeFile_c _ _ H.sub _ _ _ _ _ hm4 hS4 hV4 _ _ (RdS.nil _ _ _) H.lent1) ?_
   rintro _ _ ⟨_,_,_,rfl,H10',⟨_,_,_,_,rfl,rfl,hm10,hS10,hV10,hL10⟩⟩
   have hN8:=hN8.up H10'.le
   have H:=H.borrow1 H10'
   refine⟨_,Z,?_⟩
   refine pe 2 Z (q3 (W_ret (rt1 results158 Z ?_)))
   have H:=H.dl 2
   have H:=H.tF 1
   have H:=H.tF 1
   obtain⟨r,hr⟩:=Option.isSome_iff_exists.1 (show(Sp.FileStore L bytes).isSome=true by simpa using hc5')
   have hst:Sp.FileStore L bytes=some (L4,ids4):=hr.trans (congrArg some (hL4 r hr))
   have hpt:T.putN ⟨path,false,ids4⟩ nb8=some t8:=by (obtain⟨q,hq⟩:=Option.isSome_iff_exists.1 (show(T.putN ⟨path,false,ids4⟩ nb8).isSome=true by simpa using hc9);(rw[←ht8,hq];rfl))
   obtain⟨s',tt,g1,g2,g3,g4⟩:=Sp.write_fin hH hT (show Sp.PathValid path=true by simpa using hc3') hst hpt (.inl ⟨hfi7,rfl⟩)
   exact H.retM ⟨_,_,_,_,_,_,congrArg Value.bool (by (rw[g1,g2];rfl)),rfl,hm10,hS10,hV10,hN8,(by first|rfl|exact hb8),fun u' h=>(by rw[g2]at h;cases h;exact⟨hL10 _ g1,g3,g4⟩)⟩
  intro hc9'
  try simp only[nrm]at hc9'
  refine pe 6 Z (q3 (W_ret (rt1 results158 Z ?_)))
  have H:=H.dl 2
  have H:=H.tF 1
  obtain⟨r,hr⟩:=Option.isSome_iff_exists.1 (show(Sp.FileStore L bytes).isSome=true by simpa using hc5')
  have hst:Sp.FileStore L bytes=some (L4,ids4):=hr.trans (congrArg some (hL4 r hr))
  have hno:Sp.l11Write ⟨L,l⟩ path bytes=none:=Sp.write_no2 (nb:=nb8) hH hT (show Sp.PathValid path=true by simpa using hc3') hst (by simpa using hc9')
  exact H.retM ⟨_,_,_,_,_,_,congrArg Value.bool (by (rw[hno];rfl)),rfl,hm4,hS4,hV4,hN8,(by first|rfl|exact hb8),fun u' h=>(by rw[hno]at h;cases h)⟩
 skip
 have H:=H.step ew7;refine⟨_,rfl,?_⟩
 refine aG Z (q1 (mV Z (o_nenil_ptr underlying84 Z Z Z (q3 (W_true Z (W_region ?_))))))
 have H:=H.tF 2
 obtain⟨_,_,_,_,oFs,_,H,ohri,ohNs,_,_,_,hclose⟩:=Hp.openNode H hN (Nd.find_at_ hfi7)
 obtain⟨_,_,rfl⟩:=H.accShape (k:=1) rfl;have hdo:=PLe.refl G6;have hn_ohri:=ohri.len
 refine pe 2 Z (fA 2 Z (lB 0 H Z3 (aG Z (q1 ?_))))
 have H:=H.sel [0,1,2,3,4] rfl
 obtain⟨_,H,hN2,_⟩:=hclose (Fs':=oFs) H (List.Perm.refl _) hdo ohri ohNs oM
 have hN2:=(Nd.upd_same (Nd.find_at_ hfi7))▸hN2
 refine fA 1 Z (lB 2 H Z3 (pe 2 Z (o_build bf41 Z Z Z (xc Z2 (i_put_n_c _ _ H.sub _ _ hN2 _ ⟨path,false,ids4⟩ ⟨_,_,_,Z,hpath,hsr6⟩ H.lent1 hT.wf oM) ?_))))
 rintro _ _ ⟨_,_,_,rfl,H11',⟨nb11,_,t11,rfl,rfl,hN11,hb11,ht11⟩⟩
 have hS4:=hS4.up H11'.le
 have ohri:=ohri.up H11'.le
 have H:=H.borrow1 H11'
 try rw[←hb11]
 refine⟨_,Z,?_⟩
 refine mV Z ?_
 refine R_case (t:=39) Z ?_ ?_
 ·intro hc12
  try simp only[nrm]at hc12
  refine gR Z (fA 0 Z (gR Z (lB 2 H Z3 (pe 1 Z (gR Z ?_)))))
  have H:=H.tF 1
  refine xc Z2 (i_freeFile_c _ _ H.sub _ _ _ _ _ hm4 hS4 hV4 _ _ ohri H.lent1) ?_
  rintro _ _ ⟨_,_,_,rfl,H13',⟨_,_,_,_,rfl,rfl,hm13,hS13,hV13,hL13⟩⟩
  have hN11:=hN11.up H13'.le
  have H:=H.borrow1 H13'
  refine⟨_,Z,?_⟩
  refine pe 2 Z (q3 (W_ret (rt1 results158 Z ?_)))
  have H:=H.dl 2
  have H:=H.tF 1
  have H:=H.tF 1
  obtain⟨r,hr⟩:=Option.isSome_iff_exists.1 (show(Sp.FileStore L bytes).isSome=true by simpa using hc5')
  have hst:Sp.FileStore L bytes=some (L4,ids4):=hr.trans (congrArg some (hL4 r hr))
  have hpt:T.putN ⟨path,false,ids4⟩ nb11=some t11:=by (obtain⟨q,hq⟩:=Option.isSome_iff_exists.1 (show(T.putN ⟨path,false,ids4⟩ nb11).isSome=true by simpa using hc12);(rw[←ht11,hq];rfl))
  obtain⟨s',tt,g1,g2,g3,g4⟩:=Sp.write_fin hH hT (show Sp.PathValid path=true by simpa using hc3') hst hpt (.inr ⟨d7,hfi7,rfl⟩)
  exact H.retM ⟨_,_,_,_,_,_,congrArg Value.bool (by (rw[g1,g2];rfl)),rfl,hm13,hS13,hV13,hN11,(by first|rfl|exact hb11),fun u' h=>(by rw[g2]at h;cases h;exact⟨hL13 _ g1,g3,g4⟩)⟩
 intro hc12'
 try simp only[nrm]at hc12'
 refine pe 6 Z (q3 (W_ret (rt1 results158 Z ?_)))
 have H:=H.dl 2
 have H:=H.tF 1
 obtain⟨r,hr⟩:=Option.isSome_iff_exists.1 (show(Sp.FileStore L bytes).isSome=true by simpa using hc5')
 have hst:Sp.FileStore L bytes=some (L4,ids4):=hr.trans (congrArg some (hL4 r hr))
 have hno:Sp.l11Write ⟨L,l⟩ path bytes=none:=Sp.write_no2 (nb:=nb11) hH hT (show Sp.PathValid path=true by simpa using hc3') hst (by simpa using hc12')
 exact H.retM ⟨_,_,_,_,_,_,congrArg Value.bool (by (rw[hno];rfl)),rfl,hm4,hS4,hV4,hN11,(by first|rfl|exact hb11),fun u' h=>(by rw[hno]at h;cases h)⟩
theorem i_dwrite_c (w0:World)(G0:PH)(hG:PSub G0 w0)(db mb:Nat)(es:Array MapEntry)(ck:Nat)(xs:List (Int×Value))(T:Nd)(FT:Fr)(sv:Value)(sn:List (Bs×Nd))(c:List Value)(FSq:Fr)(d:BDisk)(hm:MapIs (Value.int .i64) es ck xs)(hS:StR G0 xs d.store)(hN:NdO 90 84 G0 T FT)(hT:Nd.TOK T d.tree)(hchk:Chk osE 2 G0 c sn)(hNs:NdsO 90 84 G0 (sn.map (·.2)) FSq)(hSn:SnOK sn d.snaps)(hdv:Sp.DiskValid d=true)(path:Bs)(hpath:path.length≤16777216)(vbytes:Value)(bytes:List (Int))(hbytes:RdI G0 vbytes bytes)(hLent:Lent w0 G0 [blk db (cl [.int .i32 0,.int .u32 0,.map (some mb),.pointer (some ⟨T.b,0,none⟩),sv] 161),blk mb (.map es ck),frag FT,acc 164 2 sv sn.length c,frag FSq]) :
  Calls Tryz.prog 101 #[.pointer (some ⟨db,0,none⟩),str path,vbytes] w0 (RetM w0 G0 (fps [blk db (cl [.int .i32 0,.int .u32 0,.map (some mb),.pointer (some ⟨T.b,0,none⟩),sv] 161),blk mb (.map es ck),frag FT,acc 164 2 sv sn.length c,frag FSq]) (fun G' v Bs=>∃(es':Array MapEntry) (ck':Nat) (xs':List (Int×Value)) (F':Fr) (T':Nd) (sv':Value) (sn':List (Fw.Bs×Nd)) (c':List Value) (FSq':Fr) (L':List BHeld),v= .bool (Sp.DiskWrite d path bytes).isSome∧Bs=[blk db (cl [.int .i32 0,.int .u32 0,.map (some mb),.pointer (some ⟨T'.b,0,none⟩),sv'] 161),blk mb (.map es' ck'),frag F',acc 164 2 sv' sn'.length c',frag FSq']∧MapIs (Value.int .i64) es' ck' xs'∧StR G' xs' L'∧Sp.VH L'∧NdO 90 84 G' T' F'∧Chk osE 2 G' c' sn'∧NdsO 90 84 G' (sn'.map (·.2)) FSq'∧∀d',Sp.DiskWrite d path bytes=some d'→L'=d'.store∧Nd.TOK T' d'.tree∧SnOK sn' d'.snaps)):=by
 obtain⟨abytes,kbytes,rfl⟩:=hbytes.shape
 have hlimbytes:bytes.length≤1099511627776:=hbytes.lim
 have H:Hp w0 G0 (fps [blk db (cl [.int .i32 0,.int .u32 0,.map (some mb),.pointer (some ⟨T.b,0,none⟩),sv] 161),blk mb (.map es ck),frag FT,acc 164 2 sv sn.length c,frag FSq]) w0 G0 [blk db (cl [.int .i32 0,.int .u32 0,.map (some mb),.pointer (some ⟨T.b,0,none⟩),sv] 161),blk mb (.map es ck),frag FT,acc 164 2 sv sn.length c,frag FSq]:=hLent.hp
 obtain⟨_,_,rfl⟩:=H.accShape (k:=3) rfl;have hVd:=Sp.valid_iff.1 (Sp.dv_parts.1 hdv).1;have hTv:=(Sp.dv_parts.1 hdv).2.1;have hTc:=hT.cnt;have hTl:=Sp.tree_len hTv;have hsnl:=hSn.len;have hsn6:=(Sp.dv_parts.1 hdv).2.2.1
 have hHd:=Sp.DHol.hol (ts:=d.snaps.map (·.tree)) (Sp.dd_iff.1 hdv).2
 refine calls_of_WD (l:=[.pointer (some ⟨db,0,none⟩),str path,.slice abytes bytes.length kbytes]) func101 Z ntmps101 Z (q2 (aG Z (q1 (pe 2 Z (fA 0 Z (o_lock 0 H muLib Z call103 Z Z Z Z ?_))))));intro _ H
 refine q1 (pe 2 Z (fA 0 Z (o_defer Z (q1 (mV Z (xr H Z2 (i_FileValid_c _ _ H.sub _ _ hbytes) ?_))))));intro _ H
 refine mV Z ?_
 refine R_case (t:=16) Z ?_ ?_
 ·intro hc3
  try simp only[nrm]at hc3
  refine pe 2 Z (gR Z (fA 2 Z (gR Z (lA 0 2 H Z4 (pe 2 Z (gR Z ?_))))))
  have H:=H.tF 2
  have H:=H.tF 2
  refine xc Z2 (i_vwrite_c _ _ H.sub _ _ _ _ _ _ _ _ hm hS hN hT hHd _ hpath _ _ hbytes H.lent2 (by assumption)) ?_
  rintro _ _ ⟨_,_,_,rfl,H4',⟨_,_,_,_,T4,L4,rfl,rfl,hm4,hS4,hV4,hN4,hb4,hu4⟩⟩
  have hchk:=hchk.up H4'.le
  have hNs:=hNs.up H4'.le
  have H:=H.borrow2 H4'
  try rw[←hb4]
  try rw[←hb4]at H
  refine⟨_,Z,?_⟩
  refine pe 2 Z (q3 (W_ret (ret_unlock 2 H muLib Z call104 Z Z (rs:=[.tmp 6]) results101 ?_)));intro _ H
  refine⟨[_],⟨Z,trivial⟩,?_⟩
  have H:=H.sel [2,0,1,3,4] rfl
  exact H.retM ⟨_,_,_,_,T4,_,sn,_,_,L4,congrArg Value.bool (by simp[Sp.DiskWrite,hdv,hc3]),rfl,hm4,hS4,hV4,hN4,hchk,hNs,fun d2 h=>(by obtain⟨_,_,v2,h1,rfl⟩:=Sp.dwrite_get h;obtain⟨g1,g2,_⟩:=hu4 v2 h1;exact⟨g1,g2,hSn⟩)⟩
 intro hc3'
 try simp only[nrm]at hc3'
 refine pe 9 Z (q3 (W_ret (ret_unlock 0 H muLib Z call104 Z Z (rs:=[.tmp 6]) results101 ?_)));intro _ H
 refine⟨[_],⟨Z,trivial⟩,?_⟩
 have H:=H.sel [0,1,2,3,4] rfl
 have hno:Sp.DiskWrite d path bytes=none:=by simp[Sp.DiskWrite,hc3']
 exact H.retM ⟨_,_,_,_,T,_,sn,_,_,d.store,congrArg Value.bool (by (rw[hno];rfl)),rfl,hm,hS,hVd,hN,hchk,hNs,fun d2 h=>(by rw[hno]at h;cases h)⟩
theorem i_vdir_c (w0:World)(G0:PH)(hG:PSub G0 w0)(mb:Nat)(es:Array MapEntry)(ck:Nat)(xs:List (Int×Value))(T:Nd)(FT:Fr)(L:List BHeld)(l:List BItem)(hm:MapIs (Value.int .i64) es ck xs)(hS:StR G0 xs L)(hN:NdO 90 84 G0 T FT)(hT:Nd.TOK T l)(hH:Sp.Hol L l)(path:Bs)(hpath:path.length≤16777216)(hLent:Lent w0 G0 [blk mb (.map es ck),frag FT]) :
    Calls Tryz.prog 156 #[.agg #[.map (some mb),.pointer (some ⟨T.b,0,none⟩)],str path] w0 (RetM w0 G0 (fps [blk mb (.map es ck),frag FT]) (fun G' v Bs=>∃(es':Array MapEntry) (ck':Nat) (xs':List (Int×Value)) (F':Fr) (T':Nd) (L':List BHeld),v= .bool ((Sp.l11Dir L l path)).isSome∧Bs=[blk mb (.map es' ck'),frag F']∧MapIs (Value.int .i64) es' ck' xs'∧StR G' xs' L'∧Sp.VH L'∧NdO 90 84 G' T' F'∧T'.b=T.b∧∀u',(Sp.l11Dir L l path)=some u'→L'=u'.store∧Nd.TOK T' u'.tree∧Sp.Hol u'.store u'.tree)):=by
  have H:Hp w0 G0 (fps [blk mb (.map es ck),frag FT]) w0 G0 [blk mb (.map es ck),frag FT]:=hLent.hp
  have hVd:=hH.vh;have hTc:=hT.cnt;have hTl:=hH.vt.len
  refine calls_of_W (l:=[_,str path]) func156 Z ntmps156 Z (q2 (o_box H Z Z Z ?_));intro _ _ _ H
  refine aG Z (q1 (mV Z (xr H Z2 (i_PathValid_c _ _ H.sub _ hpath) ?_)));intro _ H
  refine mV Z ?_
  refine R_case (t:=7) Z ?_ ?_
  · intro hc3
    try simp only[nrm]at hc3
    refine gR Z (fA 1 Z (gR Z (lB 0 H Z3 (pe 1 Z (gR Z (o_build bf41 Z Z Z (gR Z ?_)))))))
    have H:=H.tF 2
    refine xc Z2 (i_put_n_c _ _ H.sub _ _ hN _ ⟨path,true,[]⟩ ⟨_,_,_,Z,hpath,(RdS.nil _ _ _)⟩ H.lent1 hT.wf oM) ?_
    rintro _ _ ⟨_,_,_,rfl,H4',⟨nb4,_,t4,rfl,rfl,hN4,hb4,ht4⟩⟩
    have hS:=hS.up H4'.le
    have H:=H.borrow1 H4'
    try rw[←hb4]
    refine⟨_,Z,?_⟩
    refine pe 2 Z (q3 (W_ret (rt1 results156 Z ?_)))
    have H:=H.dl 1
    have H:=H.tF 1
    have hpv:Sp.PathValid path=true:=by simpa using hc3
    cases hpt:T.putN ⟨path,true,[]⟩ nb4 with
    | none => have hno : Sp.l11Dir L l path = none := by (unfold Sp.l11Dir; (rw [Sp.dir_no2 (nb := nb4) hT hpv (by (rw [hpt]; rfl))]; rfl))
              exact H.retM ⟨_,_,_,_,_,_,congrArg Value.bool (by (rw[hno];rfl)),rfl,hm,hS,hVd,hN4,(by first|rfl|exact hb4),fun u' h=>(by rw[hno]at h;cases h)⟩
    | some T2 => obtain ⟨tt, g1, g3, g4⟩ := Sp.dir_fin hH hT hpv hpt
                 have g2:Sp.l11Dir L l path=some ⟨L,tt⟩:=by (unfold Sp.l11Dir;(rw[g1];rfl))
                 have hT2:t4=T2:=by (rw[←ht4,hpt];rfl)
                 exact H.retM ⟨_,_,_,_,_,_,congrArg Value.bool (by (rw[g2];rfl)),rfl,hm,hS,hVd,hN4,(by first|rfl|exact hb4),fun u' h=>(by rw[g2]at h;cases h;exact⟨rfl,hT2▸g3,g4⟩)⟩
  intro hc3'
  try simp only[nrm]at hc3'
  refine pe 7 Z (q3 (W_ret (rt1 results156 Z ?_)))
  have H:=H.dl 0
  have H:=H.tF 1
  have H:=H.tF 1
  have hno:Sp.l11Dir L l path=none:=by (unfold Sp.l11Dir;(rw[Sp.dir_nop (by simpa using hc3')];rfl))
  exact H.retM ⟨_,_,_,_,_,_,congrArg Value.bool (by (rw[hno];rfl)),rfl,hm,hS,hVd,hN,rfl,fun u' h=>(by rw[hno]at h;cases h)⟩
theorem i_vremove_c (w0:World)(G0:PH)(hG:PSub G0 w0)(mb:Nat)(es:Array MapEntry)(ck:Nat)(xs:List (Int×Value))(T:Nd)(FT:Fr)(L:List BHeld)(l:List BItem)(hm:MapIs (Value.int .i64) es ck xs)(hS:StR G0 xs L)(hN:NdO 90 84 G0 T FT)(hT:Nd.TOK T l)(hH:Sp.Hol L l)(path:Bs)(hpath:path.length≤16777216)(hLent:Lent w0 G0 [blk mb (.map es ck),frag FT]) :
  Calls Tryz.prog 159 #[.agg #[.map (some mb),.pointer (some ⟨T.b,0,none⟩)],str path] w0 (RetM w0 G0 (fps [blk mb (.map es ck),frag FT]) (fun G' v Bs=>∃(es':Array MapEntry) (ck':Nat) (xs':List (Int×Value)) (F':Fr) (T':Nd) (L':List BHeld),v= .bool ((Sp.l11Drop L l path)).isSome∧Bs=[blk mb (.map es' ck'),frag F']∧MapIs (Value.int .i64) es' ck' xs'∧StR G' xs' L'∧Sp.VH L'∧NdO 90 84 G' T' F'∧T'.b=T.b∧∀u',(Sp.l11Drop L l path)=some u'→L'=u'.store∧Nd.TOK T' u'.tree∧Sp.Hol u'.store u'.tree)):=by
 have H:Hp w0 G0 (fps [blk mb (.map es ck),frag FT]) w0 G0 [blk mb (.map es ck),frag FT]:=hLent.hp
 have hVd:=hH.vh;have hTc:=hT.cnt;have hTl:=hH.vt.len
 refine calls_of_W (l:=[_,str path]) func159 Z ntmps159 Z (q2 (o_box H Z Z Z ?_));intro _ _ _ H
 refine aG Z (q1 (fA 1 Z (lB 0 H Z3 (mV Z (xc Z2 (i_find_n_c _ _ (H.lendSubL [2]) _ ((H.lendN (k:=2) (ks:=[2]) Z Z hN).at (show Nd.at_ T []=some T from Z)) _ hpath hT.wf) ?_)))))
 rintro _ _ ⟨_,rfl,ew2,⟨hfi2,rfl⟩|⟨d2,hfi2,rfl⟩⟩
 ·skip
  have H:=H.step ew2;refine⟨_,rfl,?_⟩
  refine aG Z (q3 (W_seq (W_drawK [0] 18 H kR Z ?_)));intro _ H;have hd3:=PLe.refl G0
  refine dE 0 Z2 (RD_t 1 Z kR Z (fun _ hK=>v_nenil_ptr underlying84 Z Z) (dE 2 Z2 (dE 3 Z2 (dE 4 Z2 (dE 5 Z2 (dE 6 Z2 (dE 7 Z2 (dE 8 Z2 (dE 9 Z2 (dE 10 Z2 (dE 11 Z2 (dE 12 Z2 (dE 13 Z2 (dE 14 Z2 (dE 15 Z2 ?_)))))))))))))))
  refine dE 16 Z2 (dE 17 Z2 (rz (N_K (W_ret (rt1 results159 Z ?_)))))
  have H:=H.dl 0
  have H:=H.tF 1
  have H:=H.tF 1
  have hno:Sp.l11Drop L l path=none:=Sp.drop_no1 hT (by assumption)
  exact H.retM ⟨_,_,_,_,_,_,congrArg Value.bool (by (rw[hno];rfl)),rfl,hm,hS,hVd,hN,rfl,fun u' h=>(by rw[hno]at h;cases h)⟩
 skip
 have H:=H.step ew2;refine⟨_,rfl,?_⟩
 refine aG Z (q3 (W_seq (W_drawK [0] 18 H kR Z ?_)));intro _ H;have hd4:=PLe.refl G0
 refine dE 0 Z2 (RD_t 1 Z kR Z (fun _ hK=>v_nenil_ptr underlying84 Z Z) (dE 2 Z2 (dF 3 1 Z2 (dB 4 0 Z4 (dE 5 Z2 (r1 6 Z (gR Z ?_)))))))
 have H:=H.tF 2
 refine xc Z2 (i_drop_n_c _ _ H.sub _ _ hN _ hpath H.lent1 hT.wf oM) ?_
 rintro _ _ ⟨G5,_,_,rfl,H5',⟨_,_,t5,rfl,rfl,hN5,hb5,ht5,hk5⟩⟩
 have hS:=hS.up H5'.le
 have hd4:=hd4.trans H5'.le
 have H:=H.borrow1 H5'
 try rw[←hb5]
 try rw[←hb5]at H
 refine⟨_,Z,?_⟩
 refine q4 H hd4 (dE 7 Z2 (dE 8 Z2 ?_))
 refine RD_case (t:=18) Z ?_ ?_
 ·intro hc6
  try simp only[nrm]at hc6
  obtain⟨k2,hk2,hNk⟩:=hk5 (by simpa using hc6)
  obtain rfl:k2=d2:=Option.some.inj (hk2.symm.trans hfi2)
  have H:=H.tF 1
  obtain⟨_,_,_,_,_,_,H,ohri,ohNs,_,_,_,_⟩:=Hp.openNode H hNk (show Nd.at_ k2 []=some k2 from rfl)
  obtain⟨_,_,rfl⟩:=H.accShape (k:=1) rfl;have hdo:=PLe.refl G5;have hn_ohri:=ohri.len
  refine dF 9 0 Z2 (dB 10 0 Z4 (dE 11 Z2 (dE 12 Z2 (dF 13 2 Z2 (r1 14 Z (gR Z (lB 0 H Z3 (q4 H hd4 (r1 15 Z (gR Z ?_))))))))))
  have H:=H.tF 5
  refine xc Z2 (i_freeFile_c _ _ H.sub _ _ _ _ _ hm hS hVd _ _ ohri H.lent1) ?_
  rintro _ _ ⟨_,_,_,rfl,H7',⟨_,_,_,_,rfl,rfl,hm7,hS7,hV7,hL7⟩⟩
  have hN5:=hN5.up H7'.le
  have hd4:=hd4.trans H7'.le
  have H:=H.borrow1 H7'
  refine⟨_,Z,?_⟩
  refine q4 H hd4 (dE 16 Z2 (dE 17 Z2 (rz (N_K (W_ret (rt1 results159 Z ?_))))))
  have H:=H.sel [0,4] rfl
  have hpt:T.dropN path=some t5:=by (obtain⟨_,hq⟩:=Option.isSome_iff_exists.1 (show(T.dropN path).isSome=true by simpa using hc6);(rw[←ht5,hq];rfl))
  obtain⟨_,_,g1,g2,g3,g4⟩:=Sp.drop_fin hH hT hk2 hpt
  exact H.retM ⟨_,_,_,_,_,_,congrArg Value.bool (by (rw[g1,g2];rfl)),rfl,hm7,hS7,hV7,hN5,(by first|rfl|exact hb5),fun u' h=>(by rw[g2]at h;cases h;exact⟨hL7 _ g1,g3,g4⟩)⟩
 intro hc6'
 try simp only[nrm]at hc6'
 refine dE 9 Z2 (dE 10 Z2 (dE 11 Z2 (dE 12 Z2 (dE 13 Z2 (dE 14 Z2 (dE 15 Z2 (dE 16 Z2 (dE 17 Z2 (rz (N_K (W_ret (rt1 results159 Z ?_))))))))))))
 have H:=H.dl 1
 have H:=H.dl 1
 have H:=H.tF 1
 have hno:Sp.l11Drop L l path=none:=Sp.drop_no2 hT (by simpa using hc6')
 exact H.retM ⟨_,_,_,_,_,_,congrArg Value.bool (by (rw[hno];rfl)),rfl,hm,hS,hVd,hN5,(by first|rfl|exact hb5),fun u' h=>(by rw[hno]at h;cases h)⟩
theorem i_dmakeDir_c (w0:World)(G0:PH)(hG:PSub G0 w0)(db mb:Nat)(es:Array MapEntry)(ck:Nat)(xs:List (Int×Value))(T:Nd)(FT:Fr)(sv:Value)(sn:List (Bs×Nd))(c:List Value)(FSq:Fr)(d:BDisk)(hm:MapIs (Value.int .i64) es ck xs)(hS:StR G0 xs d.store)(hN:NdO 90 84 G0 T FT)(hT:Nd.TOK T d.tree)(hchk:Chk osE 2 G0 c sn)(hNs:NdsO 90 84 G0 (sn.map (·.2)) FSq)(hSn:SnOK sn d.snaps)(hdv:Sp.DiskValid d=true)(path:Bs)(hpath:path.length≤16777216)(hLent:Lent w0 G0 [blk db (cl [.int .i32 0,.int .u32 0,.map (some mb),.pointer (some ⟨T.b,0,none⟩),sv] 161),blk mb (.map es ck),frag FT,acc 164 2 sv sn.length c,frag FSq]) :
  Calls Tryz.prog 100 #[.pointer (some ⟨db,0,none⟩),str path] w0 (RetM w0 G0 (fps [blk db (cl [.int .i32 0,.int .u32 0,.map (some mb),.pointer (some ⟨T.b,0,none⟩),sv] 161),blk mb (.map es ck),frag FT,acc 164 2 sv sn.length c,frag FSq]) (fun G' v Bs=>∃(es':Array MapEntry) (ck':Nat) (xs':List (Int×Value)) (F':Fr) (T':Nd) (sv':Value) (sn':List (Fw.Bs×Nd)) (c':List Value) (FSq':Fr) (L':List BHeld),v= .bool (Sp.DiskDir d path).isSome∧Bs=[blk db (cl [.int .i32 0,.int .u32 0,.map (some mb),.pointer (some ⟨T'.b,0,none⟩),sv'] 161),blk mb (.map es' ck'),frag F',acc 164 2 sv' sn'.length c',frag FSq']∧MapIs (Value.int .i64) es' ck' xs'∧StR G' xs' L'∧Sp.VH L'∧NdO 90 84 G' T' F'∧Chk osE 2 G' c' sn'∧NdsO 90 84 G' (sn'.map (·.2)) FSq'∧∀d',Sp.DiskDir d path=some d'→L'=d'.store∧Nd.TOK T' d'.tree∧SnOK sn' d'.snaps)):=by
 have H:Hp w0 G0 (fps [blk db (cl [.int .i32 0,.int .u32 0,.map (some mb),.pointer (some ⟨T.b,0,none⟩),sv] 161),blk mb (.map es ck),frag FT,acc 164 2 sv sn.length c,frag FSq]) w0 G0 [blk db (cl [.int .i32 0,.int .u32 0,.map (some mb),.pointer (some ⟨T.b,0,none⟩),sv] 161),blk mb (.map es ck),frag FT,acc 164 2 sv sn.length c,frag FSq]:=hLent.hp
 obtain⟨_,_,rfl⟩:=H.accShape (k:=3) rfl;have hVd:=Sp.valid_iff.1 (Sp.dv_parts.1 hdv).1;have hTv:=(Sp.dv_parts.1 hdv).2.1;have hTc:=hT.cnt;have hTl:=Sp.tree_len hTv;have hsnl:=hSn.len;have hsn6:=(Sp.dv_parts.1 hdv).2.2.1
 have hHd:=Sp.DHol.hol (ts:=d.snaps.map (·.tree)) (Sp.dd_iff.1 hdv).2
 refine calls_of_WD (l:=[.pointer (some ⟨db,0,none⟩),str path]) func100 Z ntmps100 Z (q2 (aG Z (q1 (pe 2 Z (fA 0 Z (o_lock 0 H muLib Z call103 Z Z Z Z ?_))))));intro _ H
 refine q1 (pe 2 Z (fA 0 Z (o_defer Z (q1 (pe 2 Z (fA 2 Z (lA 0 2 H Z4 (mV Z ?_))))))))
 have H:=H.tF 2
 have H:=H.tF 2
 refine xc Z2 (i_vdir_c _ _ H.sub _ _ _ _ _ _ _ _ hm hS hN hT hHd _ hpath H.lent2) ?_
 rintro _ _ ⟨_,_,_,rfl,H2',⟨_,_,_,_,T2,L2,rfl,rfl,hm2,hS2,hV2,hN2,hb2,hu2⟩⟩
 have hchk:=hchk.up H2'.le
 have hNs:=hNs.up H2'.le
 have H:=H.borrow2 H2'
 try rw[←hb2]
 try rw[←hb2]at H
 refine⟨_,Z,?_⟩
 refine aG Z (q3 (W_ret (ret_unlock 2 H muLib Z call104 Z Z (rs:=[.tmp 4]) results100 ?_)));intro _ H
 refine⟨[_],⟨Z,trivial⟩,?_⟩
 have H:=H.sel [2,0,1,3,4] rfl
 exact H.retM ⟨_,_,_,_,T2,_,sn,_,_,L2,congrArg Value.bool (by simp[Sp.DiskDir,hdv]),rfl,hm2,hS2,hV2,hN2,hchk,hNs,fun d2 h=>(by obtain⟨v2,h1,rfl⟩:=Sp.ddir_vol h;obtain⟨g1,g2,_⟩:=hu2 v2 h1;exact⟨g1,g2,hSn⟩)⟩
theorem i_dremove_c (w0:World)(G0:PH)(hG:PSub G0 w0)(db mb:Nat)(es:Array MapEntry)(ck:Nat)(xs:List (Int×Value))(T:Nd)(FT:Fr)(sv:Value)(sn:List (Bs×Nd))(c:List Value)(FSq:Fr)(d:BDisk)(hm:MapIs (Value.int .i64) es ck xs)(hS:StR G0 xs d.store)(hN:NdO 90 84 G0 T FT)(hT:Nd.TOK T d.tree)(hchk:Chk osE 2 G0 c sn)(hNs:NdsO 90 84 G0 (sn.map (·.2)) FSq)(hSn:SnOK sn d.snaps)(hdv:Sp.DiskValid d=true)(path:Bs)(hpath:path.length≤16777216)(hLent:Lent w0 G0 [blk db (cl [.int .i32 0,.int .u32 0,.map (some mb),.pointer (some ⟨T.b,0,none⟩),sv] 161),blk mb (.map es ck),frag FT,acc 164 2 sv sn.length c,frag FSq]) :
  Calls Tryz.prog 102 #[.pointer (some ⟨db,0,none⟩),str path] w0 (RetM w0 G0 (fps [blk db (cl [.int .i32 0,.int .u32 0,.map (some mb),.pointer (some ⟨T.b,0,none⟩),sv] 161),blk mb (.map es ck),frag FT,acc 164 2 sv sn.length c,frag FSq]) (fun G' v Bs=>∃(es':Array MapEntry) (ck':Nat) (xs':List (Int×Value)) (F':Fr) (T':Nd) (sv':Value) (sn':List (Fw.Bs×Nd)) (c':List Value) (FSq':Fr) (L':List BHeld),v= .bool (Sp.DiskDrop d path).isSome∧Bs=[blk db (cl [.int .i32 0,.int .u32 0,.map (some mb),.pointer (some ⟨T'.b,0,none⟩),sv'] 161),blk mb (.map es' ck'),frag F',acc 164 2 sv' sn'.length c',frag FSq']∧MapIs (Value.int .i64) es' ck' xs'∧StR G' xs' L'∧Sp.VH L'∧NdO 90 84 G' T' F'∧Chk osE 2 G' c' sn'∧NdsO 90 84 G' (sn'.map (·.2)) FSq'∧∀d',Sp.DiskDrop d path=some d'→L'=d'.store∧Nd.TOK T' d'.tree∧SnOK sn' d'.snaps)):=by
 have H:Hp w0 G0 (fps [blk db (cl [.int .i32 0,.int .u32 0,.map (some mb),.pointer (some ⟨T.b,0,none⟩),sv] 161),blk mb (.map es ck),frag FT,acc 164 2 sv sn.length c,frag FSq]) w0 G0 [blk db (cl [.int .i32 0,.int .u32 0,.map (some mb),.pointer (some ⟨T.b,0,none⟩),sv] 161),blk mb (.map es ck),frag FT,acc 164 2 sv sn.length c,frag FSq]:=hLent.hp
 obtain⟨_,_,rfl⟩:=H.accShape (k:=3) rfl;have hVd:=Sp.valid_iff.1 (Sp.dv_parts.1 hdv).1;have hTv:=(Sp.dv_parts.1 hdv).2.1;have hTc:=hT.cnt;have hTl:=Sp.tree_len hTv;have hsnl:=hSn.len;have hsn6:=(Sp.dv_parts.1 hdv).2.2.1
 have hHd:=Sp.DHol.hol (ts:=d.snaps.map (·.tree)) (Sp.dd_iff.1 hdv).2
 refine calls_of_WD (l:=[.pointer (some ⟨db,0,none⟩),str path]) func102 Z ntmps102 Z (q2 (aG Z (q1 (pe 2 Z (fA 0 Z (o_lock 0 H muLib Z call103 Z Z Z Z ?_))))));intro _ H
 refine q1 (pe 2 Z (fA 0 Z (o_defer Z (q1 (pe 2 Z (fA 2 Z (lA 0 2 H Z4 (mV Z ?_))))))))
 have H:=H.tF 2
 have H:=H.tF 2
 refine xc Z2 (i_vremove_c _ _ H.sub _ _ _ _ _ _ _ _ hm hS hN hT hHd _ hpath H.lent2) ?_
 rintro _ _ ⟨_,_,_,rfl,H2',⟨_,_,_,_,T2,L2,rfl,rfl,hm2,hS2,hV2,hN2,hb2,hu2⟩⟩
 have hchk:=hchk.up H2'.le
 have hNs:=hNs.up H2'.le
 have H:=H.borrow2 H2'
 try rw[←hb2]
 try rw[←hb2]at H
 refine⟨_,Z,?_⟩
 refine aG Z (q3 (W_ret (ret_unlock 2 H muLib Z call104 Z Z (rs:=[.tmp 4]) results102 ?_)));intro _ H
 refine⟨[_],⟨Z,trivial⟩,?_⟩
 have H:=H.sel [2,0,1,3,4] rfl
 exact H.retM ⟨_,_,_,_,T2,_,sn,_,_,L2,congrArg Value.bool (by simp[Sp.DiskDrop,hdv]),rfl,hm2,hS2,hV2,hN2,hchk,hNs,fun d2 h=>(by obtain⟨v2,h1,rfl⟩:=Sp.ddrop_vol h;obtain⟨g1,g2,_⟩:=hu2 v2 h1;exact⟨g1,g2,hSn⟩)⟩
theorem i_makePart_c (w0:World)(G0:PH)(hG:PSub G0 w0)(db mb:Nat)(es:Array MapEntry)(ck:Nat)(xs:List (Int×Value))(T:Nd)(FT:Fr)(sv:Value)(sn:List (Bs×Nd))(c:List Value)(FSq:Fr)(d:BDisk)(hm:MapIs (Value.int .i64) es ck xs)(hS:StR G0 xs d.store)(hN:NdO 90 84 G0 T FT)(hT:Nd.TOK T d.tree)(hchk:Chk osE 2 G0 c sn)(hNs:NdsO 90 84 G0 (sn.map (·.2)) FSq)(hSn:SnOK sn d.snaps)(hdv:Sp.DiskValid d=true)(cpart:List Value)(part:BPart)(hpart:partE G0 part cpart)(hLent:Lent w0 G0 [blk db (cl [.int .i32 0,.int .u32 0,.map (some mb),.pointer (some ⟨T.b,0,none⟩),sv] 161),blk mb (.map es ck),frag FT,acc 164 2 sv sn.length c,frag FSq])(hok:Sp.partOk part=true) :
  Calls Tryz.prog 40 #[.pointer (some ⟨db,0,none⟩),.agg cpart.toArray] w0 (RetM w0 G0 (fps [blk db (cl [.int .i32 0,.int .u32 0,.map (some mb),.pointer (some ⟨T.b,0,none⟩),sv] 161),blk mb (.map es ck),frag FT,acc 164 2 sv sn.length c,frag FSq]) (fun G' v Bs=>∃(es':Array MapEntry) (ck':Nat) (xs':List (Int×Value)) (F':Fr) (T':Nd) (sv':Value) (sn':List (Fw.Bs×Nd)) (c':List Value) (FSq':Fr) (L':List BHeld),v= .bool (Sp.mkPart d part).isSome∧Bs=[blk db (cl [.int .i32 0,.int .u32 0,.map (some mb),.pointer (some ⟨T'.b,0,none⟩),sv'] 161),blk mb (.map es' ck'),frag F',acc 164 2 sv' sn'.length c',frag FSq']∧MapIs (Value.int .i64) es' ck' xs'∧StR G' xs' L'∧Sp.VH L'∧NdO 90 84 G' T' F'∧Chk osE 2 G' c' sn'∧NdsO 90 84 G' (sn'.map (·.2)) FSq'∧∀d',Sp.mkPart d part=some d'→L'=d'.store∧Nd.TOK T' d'.tree∧SnOK sn' d'.snaps)):=by
 obtain⟨_,_,_,rfl,_,hi1,hr1⟩:=hpart;have hy_hi1:_≤16777216:=hi1;have hn_hr1:=hr1.len;have hx_hr1:_≤1099511627776:=hr1.lim
 have H:Hp w0 G0 (fps [blk db (cl [.int .i32 0,.int .u32 0,.map (some mb),.pointer (some ⟨T.b,0,none⟩),sv] 161),blk mb (.map es ck),frag FT,acc 164 2 sv sn.length c,frag FSq]) w0 G0 [blk db (cl [.int .i32 0,.int .u32 0,.map (some mb),.pointer (some ⟨T.b,0,none⟩),sv] 161),blk mb (.map es ck),frag FT,acc 164 2 sv sn.length c,frag FSq]:=hLent.hp
 obtain⟨_,_,rfl⟩:=H.accShape (k:=3) rfl;have hVd:=Sp.valid_iff.1 (Sp.dv_parts.1 hdv).1;have hTv:=(Sp.dv_parts.1 hdv).2.1;have hTc:=hT.cnt;have hTl:=Sp.tree_len hTv;have hsnl:=hSn.len;have hsn6:=(Sp.dv_parts.1 hdv).2.2.1
 have hHd:=Sp.DHol.hol (ts:=d.snaps.map (·.tree)) (Sp.dd_iff.1 hdv).2
 refine calls_of_W (l:=[.pointer (some ⟨db,0,none⟩),_]) func40 Z ntmps40 Z (q2 (o_box H Z Z Z ?_));intro _ _ _ H
 refine aG Z (q3 (W_seq (W_drawK [0,1] 9 H kR Z ?_)));intro _ H;have hd3:=PLe.refl G0
 refine dE 0 Z2 (dE 1 Z2 (dF 2 2 Z2 (dF 3 1 Z2 (dB 4 1 Z4 (dF 5 1 Z2 (dB 6 0 Z4 (r1 7 Z (xc Z2 (i_find_n_c _ _ (H.lendSubL [3]) _ ((H.lendN (k:=3) (ks:=[3]) Z Z hN).at (show Nd.at_ T []=some T from Z)) _ hi1 hT.wf) ?_))))))))
 rintro _ _ ⟨_,rfl,ew4,⟨hfi4,rfl⟩|⟨_,hfi4,rfl⟩⟩
 ·skip
  have H:=H.step ew4;refine⟨_,rfl,?_⟩
  refine q4 H hd3 (dE 8 Z2 (rz (N_K (W_seq (q2 (fA 0 Z (lB 0 H Z3 (q3 (W_block (q2 (pe 2 Z (q3 ?_))))))))))))
  refine W_cond Z ?_ ?_
  ·intro hc5
   try simp only[nrm]at hc5
   refine W_seq (q2 (mV Z (o_nenil_ptr underlying84 Z Z Z (q3 (W_false Z (W_skip (N_K (W_seq (q2 (fA 2 Z (lB 0 H Z3 (q3 ?_))))))))))))
   refine W_cond Z ?_ ?_
   ·intro hc6
    try simp only[nrm]at hc6
    refine q2 (mV Z (fA 1 Z (lB 0 H Z3 ?_)))
    have H:=H.tF 5
    have H:=H.tF 5
    have H:=H.tF 5
    have H:=H.tF 5
    have H:=H.tF 5
    refine xc Z2 (i_dmakeDir_c _ _ H.sub _ _ _ _ _ _ _ _ _ _ _ _ hm hS hN hT hchk hNs hSn hdv _ hi1 H.lent5) ?_
    rintro _ _ ⟨_,_,_,rfl,H7',⟨_,_,_,_,_,_,_,_,_,_,rfl,rfl,hm7,hS7,hV7,hN7,hchk7,hNs7,hd7⟩⟩
    have H:=H.borrow5 H7'
    obtain⟨avAd,cvAd,rfl⟩:=H.accShape (k:=3) rfl
    refine⟨_,Z,?_⟩
    refine aG Z (q3 (W_ret (N_K_ret (N_B_ret (N_K_ret (rt1 results40 Z ?_))))))
    have H:=H.sel [0,1,2,3,4] rfl
    have hyes:=Sp.mp1_dir hdv hT hok hc5 hfi4 (by simpa using hc6)
    exact H.retM ⟨_,_,_,_,_,_,_,_,_,_,by (rw[hyes];rfl),rfl,hm7,hS7,hV7,hN7,hchk7,hNs7,(by rw[hyes];exact hd7)⟩
   intro hc6'
   try simp only[nrm]at hc6'
   refine W_skip (N_K (q2 (mV Z (fA 1 Z (lB 0 H Z3 (fA 3 Z (lB 0 H Z3 ?_)))))))
   have H:=H.tF 5
   have H:=H.tF 5
   have H:=H.tF 5
   have H:=H.tF 5
   have H:=H.tF 5
   refine xc Z2 (i_dwrite_c _ _ H.sub _ _ _ _ _ _ _ _ _ _ _ _ hm hS hN hT hchk hNs hSn hdv _ hi1 _ _ hr1 H.lent5) ?_
   rintro _ _ ⟨_,_,_,rfl,H8',⟨_,_,_,_,_,_,_,_,_,_,rfl,rfl,hm8,hS8,hV8,hN8,hchk8,hNs8,hd8⟩⟩
   have H:=H.borrow5 H8'
   obtain⟨avAd,cvAd,rfl⟩:=H.accShape (k:=3) rfl
   refine⟨_,Z,?_⟩
   refine aG Z (q3 (W_ret (N_B_ret (N_K_ret (rt1 results40 Z ?_)))))
   have H:=H.sel [0,1,2,3,4] rfl
   have hyes:=Sp.mp1_file hT hc5 hfi4 (by simpa using hc6')
   exact H.retM ⟨_,_,_,_,_,_,_,_,_,_,by (rw[hyes];rfl),rfl,hm8,hS8,hV8,hN8,hchk8,hNs8,(by rw[hyes];exact hd8)⟩
  intro hc5'
  try simp only[nrm]at hc5'
  refine q2 (pe 2 Z (q3 ?_))
  refine W_cond Z ?_ ?_
  ·intro hc9
   try simp only[nrm]at hc9
   refine W_seq (W_drawK [0] 18 H kR Z ?_);intro _ H;have hd10:=PLe.refl G0
   refine dE 0 Z2 (RD_t 1 Z kR Z (fun _ hK=>v_nenil_ptr underlying84 Z Z) (dE 2 Z2 (dE 3 Z2 (dE 4 Z2 (dE 5 Z2 (dE 6 Z2 (dE 7 Z2 (dE 8 Z2 (dE 9 Z2 (dE 10 Z2 (dE 11 Z2 (dE 12 Z2 (dE 13 Z2 (dE 14 Z2 (dE 15 Z2 ?_)))))))))))))))
   refine dE 16 Z2 (dE 17 Z2 (rz (N_K (W_ret (N_B_ret (N_K_ret (rt1 results40 Z ?_)))))))
   have H:=H.sel [1,2,3,4,5] rfl
   have hno:Sp.mkPart d part=none:=Sp.mp2_no hT hc9 hfi4
   exact H.retM ⟨_,_,_,_,T,_,sn,_,_,d.store,congrArg Value.bool (by (rw[hno];rfl)),rfl,hm,hS,hVd,hN,hchk,hNs,fun d2 h=>(by rw[hno]at h;cases h)⟩
  intro hc9'
  try simp only[nrm]at hc9'
  refine W_skip (N_B (N_K (q2 (mV Z (o_nenil_ptr underlying84 Z Z Z (pe 16 Z (q3 (W_ret (rt1 results40 Z ?_)))))))))
  have H:=H.sel [1,2,3,4,5] rfl
  have hno:Sp.mkPart d part=none:=Sp.mp3_no hT hok hc5' hc9' hfi4
  exact H.retM ⟨_,_,_,_,T,_,sn,_,_,d.store,congrArg Value.bool (by (rw[hno];rfl)),rfl,hm,hS,hVd,hN,hchk,hNs,fun d2 h=>(by rw[hno]at h;cases h)⟩
 skip
 have H:=H.step ew4;refine⟨_,rfl,?_⟩
 refine q4 H hd3 (dE 8 Z2 (rz (N_K (W_seq (q2 (fA 0 Z (lB 0 H Z3 (q3 (W_block (q2 (pe 2 Z (q3 ?_))))))))))))
 refine W_cond Z ?_ ?_
 ·intro hc11
  try simp only[nrm]at hc11
  refine W_seq (q2 (mV Z (o_nenil_ptr underlying84 Z Z Z (q3 (W_true Z (q2 (aG Z (q3 (W_ret (N_K_ret (N_B_ret (N_K_ret (rt1 results40 Z ?_)))))))))))))
  have H:=H.sel [1,2,3,4,5] rfl
  have hno:Sp.mkPart d part=none:=Sp.mp1_no hT hc11 hfi4
  exact H.retM ⟨_,_,_,_,T,_,sn,_,_,d.store,congrArg Value.bool (by (rw[hno];rfl)),rfl,hm,hS,hVd,hN,hchk,hNs,fun d2 h=>(by rw[hno]at h;cases h)⟩
 intro hc11'
 try simp only[nrm]at hc11'
 refine q2 (pe 2 Z (q3 ?_))
 refine W_cond Z ?_ ?_
 ·intro hc12
  try simp only[nrm]at hc12
  refine W_seq (W_drawK [0] 18 H kR Z ?_);intro _ H;have hd13:=PLe.refl G0
  refine dE 0 Z2 (RD_t 1 Z kR Z (fun _ hK=>v_nenil_ptr underlying84 Z Z) (dE 2 Z2 (dE 3 Z2 (dE 4 Z2 (dF 5 1 Z2 (dF 7 2 Z2 (dB 8 0 Z4 (r1 6 Z (gR Z ?_)))))))))
  obtain⟨_,_,_,_,_,_,_,hpr14,_,_⟩:=((H.lendN (k:=3) (ks:=[3]) rfl rfl hN).at (Nd.find_at_ hfi4)).open
  refine o_load_D (H.lendSubL [3]) isAgg4 Z Z (hpr14 1 _ Z) (q4 H hd13 (RD_tg 9 Z kR Z (yl Z Z) (fun _ hK=>v_beql underlying4 Z Z) (dE 10 Z2 (dE 11 Z2 ?_))))
  refine RD_case (t:=45) Z ?_ ?_
  ·intro hc15
   try simp only[nrm]at hc15
   refine dE 12 Z2 (dF 13 1 Z2 (dB 14 0 Z4 (r1 15 Z (gR Z ?_))))
   have H:=H.tF 5
   have H:=H.tF 5
   have H:=H.tF 5
   have H:=H.tF 5
   have H:=H.tF 5
   refine xc Z2 (i_dremove_c _ _ H.sub _ _ _ _ _ _ _ _ _ _ _ _ hm hS hN hT hchk hNs hSn hdv _ hi1 H.lent5) ?_
   rintro _ _ ⟨_,_,_,rfl,H16',⟨_,_,_,_,_,_,_,_,_,_,rfl,rfl,hm16,hS16,hV16,hN16,hchk16,hNs16,hd16⟩⟩
   have hd13:=hd13.trans H16'.le
   have H:=H.borrow5 H16'
   obtain⟨avAd,cvAd,rfl⟩:=H.accShape (k:=3) rfl
   refine⟨_,Z,?_⟩
   refine q4 H hd13 (dE 16 Z2 (dE 17 Z2 (rz (N_K (W_ret (N_B_ret (N_K_ret (rt1 results40 Z ?_))))))))
   have H:=H.sel [0,1,2,3,4] rfl
   have hyes:=Sp.mp2_yes hdv hT hok hc12 hfi4 (by simpa using hc15)
   exact H.retM ⟨_,_,_,_,_,_,_,_,_,_,by (rw[hyes];rfl),rfl,hm16,hS16,hV16,hN16,hchk16,hNs16,(by rw[hyes];exact hd16)⟩
  intro hc15'
  try simp only[nrm]at hc15'
  refine dE 12 Z2 (dE 13 Z2 (dE 14 Z2 (dE 15 Z2 (dE 16 Z2 (dE 17 Z2 (rz (N_K (W_ret (N_B_ret (N_K_ret (rt1 results40 Z ?_)))))))))))
  have H:=H.sel [1,2,3,4,5] rfl
  have hno:Sp.mkPart d part=none:=Sp.mp2_dir hdv hT hc12 hfi4 (by simpa using hc15')
  exact H.retM ⟨_,_,_,_,T,_,sn,_,_,d.store,congrArg Value.bool (by (rw[hno];rfl)),rfl,hm,hS,hVd,hN,hchk,hNs,fun d2 h=>(by rw[hno]at h;cases h)⟩
 intro hc12'
 try simp only[nrm]at hc12'
 refine W_skip (N_B (N_K (q2 (mV Z (o_nenil_ptr underlying84 Z Z Z (pe 3 Z (gR Z (fA 1 Z (gR Z ?_)))))))))
 obtain⟨_,_,_,_,_,_,_,hpr17,_,_⟩:=((H.lendN (k:=3) (ks:=[3]) rfl rfl hN).at (Nd.find_at_ hfi4)).open
 refine o_load_D (H.lendSubL [3]) isAgg4 Z Z (hpr17 1 _ Z) (pe 3 Z ?_)
 refine R_case (t:=60) Z ?_ ?_
 ·intro hc18
  try simp only[nrm]at hc18
  refine pe 1 Z (gR Z (fA 1 Z (gR Z (lB 0 H Z3 (gR Z (fA 3 Z (gR Z (lB 0 H Z3 (gR Z ?_)))))))))
  have H:=H.tF 5
  have H:=H.tF 5
  have H:=H.tF 5
  have H:=H.tF 5
  have H:=H.tF 5
  refine xc Z2 (i_dwrite_c _ _ H.sub _ _ _ _ _ _ _ _ _ _ _ _ hm hS hN hT hchk hNs hSn hdv _ hi1 _ _ hr1 H.lent5) ?_
  rintro _ _ ⟨_,_,_,rfl,H19',⟨_,_,_,_,_,_,_,_,_,_,rfl,rfl,hm19,hS19,hV19,hN19,hchk19,hNs19,hd19⟩⟩
  have H:=H.borrow5 H19'
  obtain⟨avAd,cvAd,rfl⟩:=H.accShape (k:=3) rfl
  refine⟨_,Z,?_⟩
  refine pe 2 Z (q3 (W_ret (rt1 results40 Z ?_)))
  have H:=H.sel [0,1,2,3,4] rfl
  have hyes:=Sp.mp3_file hdv hT hok hc11' hc12' hfi4 (by simpa using hc18)
  exact H.retM ⟨_,_,_,_,_,_,_,_,_,_,by (rw[hyes];rfl),rfl,hm19,hS19,hV19,hN19,hchk19,hNs19,(by rw[hyes];exact hd19)⟩
 intro hc18'
 try simp only[nrm]at hc18'
 refine pe 8 Z (q3 (W_ret (rt1 results40 Z ?_)))
 have H:=H.sel [1,2,3,4,5] rfl
 have hno:Sp.mkPart d part=none:=Sp.mp3_dir hdv hT hok hc11' hc12' hfi4 (by simpa using hc18')
 exact H.retM ⟨_,_,_,_,T,_,sn,_,_,d.store,congrArg Value.bool (by (rw[hno];rfl)),rfl,hm,hS,hVd,hN,hchk,hNs,fun d2 h=>(by rw[hno]at h;cases h)⟩
theorem i_inOrder_c (w0:World)(G0:PH)(hG:PSub G0 w0)(vlist:Value)(list:List (BPart))(hlist:RdPart G0 vlist list) :
  Calls Tryz.prog 39 #[vlist] w0 (RetM w0 G0 [] (fun G v Bs=>∃(c:Nat) (vs:List Value) (s1:Nat),v= .chan (some c)∧Bs=[chn c list.length vs true s1 0]∧CV partV G vs (Sp.inOrd list))):=by
 obtain⟨alist,klist,rfl⟩:=hlist.shape
 have hlimlist:list.length≤1099511627776:=hlist.lim
 have H:=Hp.init hG
 refine calls_of_WC (l:=[.slice alist list.length klist]) func39 Z ntmps39 Z (q2 (aG Z (q1 (mV Z (lN Z ?_)))))
 refine o_mkchan H underlying166 typeInfo39 Z Z (by have:Nat.ble 0 1=true:=rfl;show 56*_≤_;omega) oM ?_;intro c1 _ _ H
 refine aG Z (q1 (mV Z (o_deferclose Z ?_)));intro _
 refine q3 (W_seq (q2 (mV Z (lN Z (o_sub Z Z Z oO (aG Z (q3 (W_block ?_))))))))
 refine W_lp (hf:=(Sub.cons (t:=0) Z (Sub.cons (t:=2) Z (Sub.cons (t:=3) Z Sub.nil)))) (J:=fun M w m=>∃(k:Nat) (i:Int) (vs:List Value) (s1:Nat) (G:PH),M=[(4,.int .i64 i)]∧PLe G0 G∧Hp w0 G0 [] w G [chn c1 list.length vs false s1 0]∧(k≤list.length∧i=(k:Int)-1∧CV partV G vs (Sp.ordA list k))∧m=(2*k)) (h0:=⟨list.length,((list.length:Int)-1),[],0,_,Z,PLe.refl _,H,?inv,Z⟩) (round:=?round)
 case inv=>exact⟨Nat.le_refl _,rfl,(by rw[Sp.ordA_all];exact .nil)⟩
 case round =>
  rintro _ _ _ ⟨k,i,vs,s1,G3,rfl,hle3,H,hinv3,rfl⟩
  have hlist:=hlist.up hle3
  obtain⟨hk,_,hcv⟩:=hinv3;have hvl:=hcv.len
  refine W_seq (q2 (pe 2 Z (q3 ?_)))
  refine W_cond Z ?_ ?_
  ·intro hc4
   try simp only[nrm]at hc4
   refine W_skip (N_K (W_seq (W_block (q2 (pe 2 Z (iP (k-1) hlist Z3 oM ?_))))));intro _ _ z5 _ hz5 hE5 hrow5
   obtain⟨_,_,_,rfl,_,hi5,hr5⟩:=hE5;have hy_hi5:_≤16777216:=hi5;have hn_hr5:=hr5.len;have hx_hr5:_≤1099511627776:=hr5.lim
   refine fA 0 Z (lP H hrow5 0 Z2 (pe 1 Z (q3 ?_)))
   refine W_cond Z ?_ ?_
   ·intro hc6
    try simp only[nrm]at hc6
    refine W_regionC [0,1,2,3,4,5] Z ?_
    have hrm:=Sp.ordA_len hz5 oM
    refine RC_l Z (mV Z ?_)
    refine R_nil (N_C ?_)
    refine RC_l Z (mV Z ?_)
    refine R_nil (N_C ?_)
    refine RC_l Z (mV Z ?_)
    refine R_nil (N_C ?_)
    refine RC_l Z (iP (k-1) hlist Z3 oM ?_);intro _ _ z7 _ hz7 hE7 hrow7
    obtain⟨_,_,_,rfl,hj7,hi7,hr7⟩:=hE7;have hy_hi7:_≤16777216:=hi7;have hn_hr7:=hr7.len;have hx_hr7:_≤1099511627776:=hr7.lim
    have hzz7:z5=z7:=Option.some.inj (hz5.symm.trans hz7)
    subst hzz7
    refine R_nil (N_C ?_)
    refine RC_l Z (o_loadagg_P H isAgg39 sizeOf39 Z Z hrow7 Z ?_)
    refine R_nil (N_C ?_)
    refine c_send H 0 Z Z Z Z oM ?_;intro _ H
    refine RC_nil (N_B (N_K (W_region (mV Z (o_sub Z Z Z oO (aG Z (R_nil ?_)))))))
    refine N_lp (hJ:=⟨(k-1),(i-1),_,_,_,Z,hle3,H,?inv,Z⟩) (hm:=?hm)
    case hm=>omega
    case inv=>exact⟨by omega,by omega,(by rw[Sp.ordA_yes hz5 oM hc6];exact hcv.snoc ⟨_,rfl,_,_,_,rfl,hj7,hi7,hr7⟩)⟩
   intro hc6'
   try simp only[nrm]at hc6'
   refine W_skip (N_B (N_K (W_region (mV Z (o_sub Z Z Z oO (aG Z (R_nil ?_)))))))
   refine N_lp (hJ:=⟨(k-1),(i-1),_,_,_,Z,hle3,H,?inv,Z⟩) (hm:=?hm)
   case hm=>omega
   case inv=>exact⟨by omega,by omega,(by rw[Sp.ordA_no hz5 oM hc6'];exact hcv)⟩
  intro hc4'
  try simp only[nrm]at hc4'
  refine W_exit (N_K_exit (N_LP_exit (N_B_same (N_K (W_seq (q2 (mV Z (lN Z (mV Z (q3 (W_block ?_)))))))))))
  have hcv0:CV partV G3 vs (Sp.ordB list 0):=(by have h0:k=0:=oM;rw[h0]at hcv;rw[Sp.ordB_zero];exact hcv)
  refine W_lp (hf:=(Sub.cons (t:=2) Z (Sub.cons (t:=3) Z (Sub.cons (t:=29) Z (Sub.cons (t:=30) Z Sub.nil))))) (J:=fun M w m=>∃(k:Nat) (vsb:List Value) (sb:Nat) (G:PH),M=[(31,.int .i64 (k:Int))]∧PLe G3 G∧Hp w0 G0 [] w G [chn c1 list.length vsb false sb 0]∧(k≤list.length∧CV partV G vsb (Sp.ordB list k))∧m=(list.length-k)) (h0:=⟨0,vs,s1,_,Z,PLe.refl _,H,?inv,Z⟩) (round:=?round)
  case inv=>exact⟨by omega,hcv0⟩
  case round =>
   rintro _ _ _ ⟨k,vsb,sb,_,rfl,hle11,H,hinv11,rfl⟩
   have hlist:=hlist.up hle11
   obtain⟨hk,hcvb⟩:=hinv11;have hvl:=hcvb.len
   refine q2 (pe 1 Z (q3 (W_seq ?_)))
   refine W_cond Z ?_ ?_
   ·intro hc12
    try simp only[nrm]at hc12
    refine W_skip (N_K (W_seq (W_block (q2 (iP k hlist Z3 Z ?_)))));intro _ _ _ _ hz13 hE13 hrow13
    obtain⟨_,_,_,rfl,hj13,hi13,hr13⟩:=hE13;have hy_hi13:_≤16777216:=hi13;have hn_hr13:=hr13.len;have hx_hr13:_≤1099511627776:=hr13.lim
    refine o_loadagg_P H isAgg39 sizeOf39 Z Z hrow13 Z (xal H Z ?_);intro _ _ _ H
    refine xst 0 H Z8 ?_;intro _ H
    refine q1 (fA 0 Z (lB 0 H Z3 (pe 1 Z (q3 ?_))))
    refine W_cond Z ?_ ?_
    ·intro hc16
     try simp only[nrm]at hc16
     refine W_regionC [0,1,2] Z ?_
     have hrm:=Sp.ordB_len hz13 hc16
     refine RC_l Z (mV Z ?_)
     refine R_nil (N_C ?_)
     refine RC_l Z (lA 0 4 H Z4 ?_)
     refine R_nil (N_C ?_)
     refine c_send H 1 Z Z Z Z oM ?_;intro _ H
     refine RC_nil (N_B (N_K (W_region (aD Z2 (mV Z (R_nil ?_))))))
     have H:=H.dl 0
     refine N_lp (hJ:=⟨k+1,_,_,_,Z,hle11,H,?inv,Z⟩) (hm:=?hm)
     case hm=>omega
     case inv=>exact⟨by omega,(by rw[Sp.ordB_yes hz13 hc16];exact hcvb.snoc ⟨_,rfl,_,_,_,rfl,hj13,hi13,hr13⟩)⟩
    intro hc16'
    try simp only[nrm]at hc16'
    refine W_skip (N_B (N_K (W_region (aD Z2 (mV Z (R_nil ?_))))))
    have H:=H.dl 0
    refine N_lp (hJ:=⟨k+1,_,_,_,Z,hle11,H,?inv,Z⟩) (hm:=?hm)
    case hm=>omega
    case inv=>exact⟨by omega,(by rw[Sp.ordB_no hz13 (by simpa using hc16')];exact hcvb)⟩
   intro hc12'
   try simp only[nrm]at hc12'
   refine W_exit (N_K_exit (N_LP_exit (N_B_same (N_K (q2 (pe 2 Z (q3 (W_ret (ret_close 0 H (rs:=[.tmp 2]) Z results39 ?_)))))))));intro _ H
   refine⟨[_],⟨Z,trivial⟩,?_⟩
   exact H.retM ⟨_,_,_,rfl,rfl,(by rw[←Sp.ordB_end (show list.length≤k by omega)];exact hcvb)⟩
end Go.Proofs.Tst
