/- Part 5 of the proof: contracts of functions of the program. Conditions: none. -/
import Derived.Test.YtejelpcappbmiaaGreatDoorProg
import Derived.Test.YtejelpcappbmiaaGreatDoorG02
import Derived.Test.YtejelpcappbmiaaGreatDoorG03
import Derived.Test.YtejelpcappbmiaaGreatDoorG04
import Derived.Conc.MuLone
import Derived.KernelRfl
set_option linter.all false
set_option maxRecDepth 100000
set_option maxHeartbeats 8000000
namespace Go.Proofs.Tst
open Go Fw Tryz
theorem i_StoreValid_c (w0:World)(G0:PH)(hG:PSub G0 w0)(vlist:Value)(list:List (BHeld))(hlist:RdH G0 vlist list) :
  Calls Tryz.prog 227 #[vlist] w0 (Rets w0 (.bool (Sp.StoreValid list))):=by
 obtain⟨alist,klist,rfl⟩:=hlist.shape
 have hlimlist:list.length≤1099511627776:=hlist.lim
 have H:=Hp.init hG
 refine calls_of_W (l:=[.slice alist list.length klist]) func227 Z ntmps227 Z (q2 (aG Z (q3 (W_seq (q2 (mV Z (lN Z (pe 1 Z (q3 ?_)))))))))
 refine W_cond Z ?_ ?_
 ·intro hc1
  try simp only[nrm]at hc1
  refine q2 (aG Z (q3 (W_ret (N_K_ret (rt1 results227 Z ?_)))))
  exact H.rets (congrArg Value.bool (by rw[Sp.sv_long oM]))
 intro hc1'
 try simp only[nrm]at hc1'
 refine W_skip (N_K (q2 (aG Z (q3 (W_seq (q2 (mV Z (lN Z (mV Z (q3 (W_block ?_)))))))))))
 refine W_lp (hf:=(Sub.cons (t:=0) Z (Sub.cons (t:=11) Z (Sub.cons (t:=12) Z Sub.nil)))) (J:=fun M w m=>∃(k:Nat) (la:Int) (G:PH),M=[(13,.int .i64 (k:Int)),(3,.int .i64 la)]∧PLe G0 G∧Hp w0 G0 [] w G []∧(k≤list.length∧la=Sp.lastId list k∧(∀j,j<k→Sp.okH list j=true)∧inI la)∧m=(list.length-k)) (h0:=⟨0,0,_,Z,PLe.refl _,H,?inv,Z⟩) (round:=?round)
 case inv=>exact⟨by omega,rfl,fun j hj=>by omega,by decide⟩
 case round =>
  rintro _ _ _ ⟨k,la,G2,rfl,hle2,H,hinv2,rfl⟩
  have hlist:=hlist.up hle2
  obtain⟨_,_,hall,_⟩:=hinv2
  refine q2 (pe 1 Z (q3 (W_seq ?_)))
  refine W_cond Z ?_ ?_
  ·intro hc3
   try simp only[nrm]at hc3
   refine W_skip (N_K (W_seq (W_block (q2 (mV Z (iP k hlist Z3 Z ?_))))));intro _ _ z4 _ hz4 hE4 hrow4
   obtain⟨_,_,_,rfl,hi4,hr4,_,_,_⟩:=ox hE4
   refine o_loadagg_P H isAgg153 sizeOf153 Z Z hrow4 Z (xal H Z ?_);intro b5 _ _ H
   refine aG Z (xst 0 H Z8 ?_);intro _ H
   refine q3 (W_seq (q2 (fA 0 Z (lB 0 H Z3 (pe 3 Z ?_)))))
   refine R_case (t:=22) Z ?_ ?_
   ·intro hc7
    try simp only[nrm]at hc7
    refine pe 20 Z (q3 (W_true Z (q2 (aG Z (q3 (W_ret (N_K_ret (N_B_ret (N_K_ret (N_LP_ret (N_B_ret (N_K_ret (rt1 results227 Z ?_)))))))))))))
    exact H.rets (congrArg Value.bool (by rw[Sp.sv_false (k:=k) oM (Sp.okH_last hz4 oM)]))
   intro hc7'
   try simp only[nrm]at hc7'
   refine gR Z (fA 0 Z (gR Z (lB 0 H Z3 (pe 3 Z ?_))))
   refine R_case (t:=27) Z ?_ ?_
   ·intro hc8
    try simp only[nrm]at hc8
    refine pe 15 Z (q3 (W_true Z (q2 (aG Z (q3 (W_ret (N_K_ret (N_B_ret (N_K_ret (N_LP_ret (N_B_ret (N_K_ret (rt1 results227 Z ?_)))))))))))))
    exact H.rets (congrArg Value.bool (by rw[Sp.sv_false (k:=k) oM (Sp.okH_id hz4 oM)]))
   intro hc8'
   try simp only[nrm]at hc8'
   refine gR Z (fA 2 Z (gR Z (lB 0 H Z3 (pe 3 Z ?_))))
   refine R_case (t:=32) Z ?_ ?_
   ·intro hc9
    try simp only[nrm]at hc9
    refine pe 10 Z (q3 (W_true Z (q2 (aG Z (q3 (W_ret (N_K_ret (N_B_ret (N_K_ret (N_LP_ret (N_B_ret (N_K_ret (rt1 results227 Z ?_)))))))))))))
    exact H.rets (congrArg Value.bool (by rw[Sp.sv_false (k:=k) oM (Sp.okH_id hz4 oM)]))
   intro hc9'
   try simp only[nrm]at hc9'
   refine gR Z (fA 2 Z (gR Z (lB 0 H Z3 (pe 3 Z ?_))))
   refine R_case (t:=37) Z ?_ ?_
   ·intro hc10
    try simp only[nrm]at hc10
    refine pe 5 Z (q3 (W_true Z (q2 (aG Z (q3 (W_ret (N_K_ret (N_B_ret (N_K_ret (N_LP_ret (N_B_ret (N_K_ret (rt1 results227 Z ?_)))))))))))))
    exact H.rets (congrArg Value.bool (by rw[Sp.sv_false (k:=k) oM (Sp.okH_id hz4 oM)]))
   intro hc10'
   try simp only[nrm]at hc10'
   refine gR Z (fA 1 Z (gR Z (lB 0 H Z3 (gR Z (xr H Z2 (i_BlockValid_c _ _ H.sub _ _ hr4) ?_)))));intro _ H
   refine pe 2 Z (q3 ?_)
   refine W_cond Z ?_ ?_
   ·intro hc12
    try simp only[nrm]at hc12
    refine q2 (aG Z (q3 (W_ret (N_K_ret (N_B_ret (N_K_ret (N_LP_ret (N_B_ret (N_K_ret (rt1 results227 Z ?_))))))))))
    exact H.rets (congrArg Value.bool (by rw[Sp.sv_false (k:=k) oM (Sp.okH_id hz4 (by exact .inr (.inr (.inr (by simpa using hc12)))))]))
   intro hc12'
   try simp only[nrm]at hc12'
   refine W_skip (N_K (W_seq (q2 (pe 2 Z ?_))))
   have hcap13:=hlist.cap;try simp only[List.length_set,List.length_append,List.length_take,List.length_drop,List.length_replicate]at hcap13
   refine o_slice_to (j:=k) underlying23 sizeOf153 Z Z Z oM oM ?_
   have hsl13:=hlist.take (j:=k) aN
   have hsn1:=hsl13.len
   refine lN Z (mV Z (q3 (W_block ?_)))
   obtain⟨ln14,hln14,H⟩:=H.name (k:=0) rfl
   refine W_lp (hf:=(Sub.cons (t:=0) Z (Sub.cons (t:=3) Z (Sub.cons (t:=5) Z (Sub.cons (t:=11) Z (Sub.cons (t:=12) Z (Sub.cons (t:=13) Z (Sub.cons (t:=45) Z (Sub.cons (t:=46) Z Sub.nil))))))))) (J:=fun M w m=>∃(j:Nat) (G:PH),M=[(47,.int .i64 (j:Int))]∧PLe G2 G∧Hp w0 G0 [] w G [blk b5 (cl ln14 153)]∧(j≤k∧(list.take j).all (fun g=> !Sp.l2Same g.bytes z4.bytes)=true)∧m=(k-j)) (h0:=⟨0,_,Z,PLe.refl _,H,?inv,Z⟩) (round:=?round)
   case inv=>exact⟨by omega,by simp⟩
   case round =>
    rintro _ _ _ ⟨j,_,rfl,hle15,H,hinv15,rfl⟩
    subst hln14
    have hr4:=hr4.up hle15
    have hsl13:=hsl13.up hle15
    have hle2:=hle2.trans hle15
    obtain⟨hj,hall2⟩:=hinv15
    refine q2 (pe 1 Z (q3 (W_seq ?_)))
    refine W_cond Z ?_ ?_
    ·intro hc16
     try simp only[nrm]at hc16
     refine W_skip (N_K (W_seq (W_block (q2 (iP j hsl13 Z3 Z ?_)))));intro _ _ _ _ hz17 hE17 hrow17
     obtain⟨_,_,_,rfl,_,hr17,_,_,_⟩:=ox hE17
     rw[List.getElem?_take,if_pos oM]at hz17
     refine o_loadagg_P H isAgg153 sizeOf153 Z Z hrow17 Z (xal H Z ?_);intro _ _ _ H
     refine xst 0 H Z8 ?_;intro _ H
     refine q1 (fA 1 Z (lB 0 H Z3 (fA 1 Z (lB 1 H Z3 (xr H Z2 (l_Equal_c _ _ H.sub _ _ hr17 _ _ hr4) ?_)))));intro _ H
     refine q3 ?_
     refine W_cond Z ?_ ?_
     ·intro hc21
      try simp only[nrm]at hc21
      refine q2 (aG Z (q3 (W_ret (N_B_ret (N_K_ret (N_LP_ret (N_B_ret (N_K_ret (N_B_ret (N_K_ret (N_LP_ret (N_B_ret (N_K_ret (rt1 results227 Z ?_))))))))))))))
      exact H.rets (congrArg Value.bool (by rw[Sp.sv_false (k:=k) oM (Sp.okH_dup hz4 oM hz17 hc21)]))
     intro hc21'
     try simp only[nrm]at hc21'
     refine W_skip (N_B (N_K (W_region (aD Z2 (mV Z (R_nil ?_))))))
     have H:=H.dl 0
     refine N_lp (hJ:=⟨j+1,_,Z,hle15,H,?inv,Z⟩) (hm:=?hm)
     case hm=>omega
     case inv=>exact⟨by omega,Sp.all_take hall2 hz17 (by simp[hc21'])⟩
    intro hc16'
    try simp only[nrm]at hc16'
    refine W_exit (N_K_exit (N_LP_exit (N_B_same (N_K (W_region (fA 0 Z (lB 0 H Z3 (aG Z (R_nil (N_B (N_K (W_region (aD Z2 (mV Z (R_nil ?_)))))))))))))))
    have H:=H.dl 0
    refine N_lp (hJ:=⟨k+1,z4.id,_,Z,hle2,H,?inv,Z⟩) (hm:=?hm)
    case hm=>omega
    case inv=>(obtain rfl:j=k:=by omega);exact⟨by omega,(Sp.lastId_succ hz4).symm,Sp.upto_succ hall (Sp.okH_mk hz4 hall oM oM (by simpa using hc12') oM hall2),hi4⟩
  intro hc3'
  try simp only[nrm]at hc3'
  refine W_exit (N_K_exit (N_LP_exit (N_B_same (N_K (q2 (aG Z (q3 (W_ret (rt1 results227 Z ?_)))))))))
  exact H.rets (congrArg Value.bool (by rw[Sp.sv_true (fun j hj=>hall j oM) oM]))
theorem i_openStore_c (w0:World)(G0:PH)(hG:PSub G0 w0)(vlist:Value)(list:List (BHeld))(hlist:RdH G0 vlist list)(hLent:Lent w0 G0 []) :
  Calls Tryz.prog 184 #[vlist] w0 (RetM w0 G0 [] (fun G' v Bs=>(Sp.StoreValid list=false∧v= .tuple #[.map none,.bool false]∧Bs=[])∨(Sp.VH list∧∃(mb:Nat) (es':Array MapEntry) (ck':Nat) (xs':List (Int×Value)),v= .tuple #[.map (some mb),.bool true]∧Bs=[blk mb (.map es' ck')]∧MapIs (Value.int .i64) es' ck' xs'∧StR G' xs' list))):=by
 obtain⟨alist,klist,rfl⟩:=hlist.shape
 have hlimlist:list.length≤1099511627776:=hlist.lim
 have H:Hp w0 G0 [] w0 G0 []:=hLent.hp
 refine calls_of_W (l:=[.slice alist list.length klist]) func184 Z ntmps184 Z (q2 (pe 2 Z (q3 (W_seq (q2 (mV Z (xr H Z2 (i_StoreValid_c _ _ H.sub _ _ hlist) ?_)))))));intro _ H
 refine pe 1 Z (q3 ?_)
 refine W_cond Z ?_ ?_
 ·intro hc2
  try simp only[nrm]at hc2
  refine q2 (pe 2 Z (q3 (W_ret (N_K_ret (rt2 results184 Z Z ?_)))))
  exact H.retM (.inl ⟨by simpa using hc2,rfl,rfl⟩)
 intro hc2'
 try simp only[nrm]at hc2'
 have hVl:=Sp.valid_iff.1 (by simpa using hc2':Sp.StoreValid list=true)
 refine W_skip (N_K (q2 (o_makeMap H Z ?_)));intro b3 _ _ H
 have hm3:=MapIs.empty (key:=Value.int .i64) 0
 have hS3:=StR.nil G0
 refine aG Z (q3 (W_seq (q2 (mV Z (lN Z (mV Z (q3 (W_block ?_))))))))
 refine W_lp (hf:=(Sub.cons (t:=2) Z (Sub.cons (t:=3) Z (Sub.cons (t:=4) Z (Sub.cons (t:=11) Z (Sub.cons (t:=12) Z Sub.nil)))))) (J:=fun M w m=>∃(esm0:Array MapEntry) (ckm0:Nat) (xsm0:List (Int×Value)) (Lm0:List BHeld) (k:Nat) (G:PH),M=[(13,.int .i64 (k:Int))]∧PLe G0 G∧Hp w0 G0 [] w G [blk b3 (.map esm0 ckm0)]∧(MapIs (Value.int .i64) esm0 ckm0 xsm0∧StR G xsm0 Lm0∧Sp.VH Lm0∧k≤list.length∧Lm0=list.take k)∧m=(list.length-k)) (h0:=⟨_,_,[],[],0,_,Z,PLe.refl _,H,?inv,Z⟩) (round:=?round)
 case inv=>exact⟨hm3,hS3,Sp.VH_nil,(by simp)⟩
 case round =>
  rintro _ _ _ ⟨esm0,ckm0,xsm0,Lm0,k,G4,rfl,hle4,H,hinv4,rfl⟩
  have hlist:=hlist.up hle4
  obtain⟨hm4_m0,hS4_m0,_,hinv4⟩:=hinv4
  obtain⟨_,rfl⟩:=hinv4
  refine q2 (pe 1 Z (q3 (W_seq ?_)))
  refine W_cond Z ?_ ?_
  ·intro hc5
   try simp only[nrm]at hc5
   refine W_skip (N_K (W_seq (W_block (q2 (iP k hlist Z3 Z ?_)))));intro _ _ z6 _ hz6 hE6 hrow6
   obtain⟨_,_,_,rfl,_,hr6,_,_,_⟩:=ox hE6
   refine o_loadagg_P H isAgg153 sizeOf153 Z Z hrow6 Z (xal H Z ?_);intro _ _ _ H
   refine xst 0 H Z8 ?_;intro _ H
   refine q3 (W_drawK [0] 12 H kR Z ?_);intro _ H;have hd9:=PLe.refl G4
   refine dE 0 Z2 (dF 1 0 Z2 (dB 2 0 Z4 (dF 3 0 Z2 (dB 4 0 Z4 (dF 5 1 Z2 (dB 6 0 Z4 (dF 8 2 Z2 (dB 9 0 Z4 (r1 7 Z (xc Z2 (l_Clone_c _ _ H.sub _ _ hr6) ?_))))))))))
   rintro _ _ ⟨_,_,_,g10,rfl,⟨_,rfl,hchk10⟩,hp10,hq10,hs10⟩
   have H:=H.growO g10 hp10 hq10 hs10;obtain⟨_,_,rfl⟩:=H.accShape (k:=0) rfl
   have hS4_m0:=hS4_m0.up g10.le
   have hle4:=hle4.trans g10.le
   have hd9:=hd9.trans g10.le
   refine⟨_,Z,?_⟩
   refine q4 H hd9 (RD_t 10 Z kR Z (fun _ hK=>v_build bf153 Z Z) (r1 11 Z ?_))
   obtain⟨G12,H,hsg12,hsr12⟩:=H.shutL (k:=0) rfl (H.apart (k:=0) (ks:=[]) rfl rfl (by intro _ hb;simpa [fpsAt,nth,blk] using hb)) hchk10 aN aN
   have hS4_m0:=hS4_m0.up hsg12
   have hle4:=hle4.trans hsg12
   refine o_updS 1 H z6 Z hm4_m0 hS4_m0 underlying121 underlying3 Z Z Z (show heldE G12 z6 _ from⟨_,_,_,Z,⟨by first|omega|(dsimp only;omega),by first|omega|(dsimp only;omega)⟩,hsr12,⟨by first|omega|(dsimp only;omega),by first|omega|(dsimp only;omega)⟩⟩) rfl ?_;intro _ _ xs11 _ H hm11 hS11
   refine R_nil (N_DKlast kR kR (N_B (N_K (W_region ?_))))
   rw[Sp.upd_take hVl hz6]at hS11
   refine aD Z2 (mV Z (R_nil ?_))
   have H:=H.dl 0
   refine N_lp (hJ:=⟨_,_,xs11,(list.take (k+1)),k+1,_,Z,hle4,H,?inv,Z⟩) (hm:=?hm)
   case hm=>omega
   case inv=>exact⟨hm11,hS11,(hVl.take (k+1)),(by exact⟨by omega,rfl⟩)⟩
  intro hc5'
  try simp only[nrm]at hc5'
  refine W_exit (N_K_exit (N_LP_exit (N_B_same (N_K (q2 (pe 3 Z (q3 (W_ret (rt2 results184 Z Z ?_)))))))))
  rw[List.take_of_length_le oM]at hS4_m0
  exact H.retM (.inr ⟨hVl,_,_,_,_,Z,Z,hm4_m0,hS4_m0⟩)
theorem i_slist_c (w0:World)(G0:PH)(hG:PSub G0 w0)(mbs:Nat)(ess:Array MapEntry)(cks:Nat)(xss:List (Int×Value))(Ls:List BHeld)(hbs:MapAt G0 mbs ess cks)(hms:MapIs (Value.int .i64) ess cks xss)(hSs:StR G0 xss Ls)(hVs:Sp.VH Ls) :
  Calls Tryz.prog 188 #[.map (some mbs)] w0 (RetN w0 G0 (fun v Bs=>∃(F:Fr),Bs=[frag F]∧OHs F v Ls)):=by
 have hl16:=hVs.len
 have H:=Hp.init hG
 refine calls_of_W (l:=[.map (some mbs)]) func188 Z ntmps188 Z (q2 (aG Z (q1 (mV Z ?_))))
 have hml1:=hSs.len
 refine o_lenM (hbs.at H.sub) hms underlying121 Z Z (o_make0 (c:=Ls.length) (sz:=3) (bytes:=40) H underlying23 typeInfo153 ⟨_,Z,Z⟩ Z Z Z Z Z Z oM oM Z ?_);intro _ _ H
 refine aG Z (q3 (W_seq (q2 (mV Z (o_call call230 Z Z (keys_c _ _ H.sub _) ?_)))));rintro _ w3 ⟨kb3,rfl,hkb3,ek3,hkc3⟩;have H:=H.step ek3;refine⟨_,rfl,?_⟩
 refine o_call call229 Z Z (sorted_c _ _ _ hkc3 (hbs.at H.sub) hms hSs hVs) ?_;rintro _ w4 ⟨v4,rfl,ek4,hp4,hf4⟩;have H:=H.add ek4 _ hp4 hf4 (acc_nd _ _ _ _ _)
 have hchk4:=chkIds G0 hVs;obtain⟨_,_,rfl⟩:=H.accShape (k:=0) rfl;refine⟨_,rfl,?_⟩
 refine lN Z (mV Z (q3 (W_block ?_)))
 obtain⟨G5,H,hsg5,hsr5⟩:=H.shut' (k:=0) rfl hchk4 aN aN
 have hSs:=hSs.up hsg5
 have hbs:=hbs.up hsg5
 have H:=H.addF
 refine W_lp (hf:=(Sub.cons (t:=0) Z (Sub.cons (t:=2) Z (Sub.cons (t:=12) Z (Sub.cons (t:=13) Z Sub.nil))))) (J:=fun M w m=>∃(v:Value) (n:Nat) (cs:List Value) (xs:List (BHeld)) (F:Fr) (k:Nat) (G:PH),M=[(14,.int .i64 (k:Int)),(3,v)]∧PLe G5 G∧Hp w0 G0 [] w G [frag F,acc 153 3 v n cs]∧(ChkF heldO 3 cs xs F∧n=xs.length∧k≤Ls.length∧xs=Ls.take k)∧m=(Ls.length-k)) (h0:=⟨_,_,_,[],[],0,_,Z,PLe.refl _,H,?inv,Z⟩) (round:=?round)
 case inv=>exact⟨ChkF.nil,by first|rfl|simp|(simp;omega)|omega,(by simp)⟩
 case round =>
  rintro _ _ _ ⟨v,n,cs,xs,F,k,G6,rfl,hle6,H,hinv6,rfl⟩
  have hSs:=hSs.up hle6
  have hbs:=hbs.up hle6
  have hsr5:=hsr5.up hle6
  obtain⟨hchk6_0,_,hinv6⟩:=hinv6
  obtain⟨_,_,rfl⟩:=H.accShape (k:=1) rfl
  obtain⟨_,hxs⟩:=hinv6;have hxl:xs.length≤16:=by rw[hxs];simp;omega
  refine q2 (pe 1 Z (q3 (W_seq ?_)))
  refine W_cond Z ?_ ?_
  ·intro hc7
   try simp only[nrm]at hc7
   refine W_skip (N_K (W_seq (W_block (q2 (iP k hsr5 Z3 Z ?_)))));intro _ _ z8 _ hz8 hE8 hrow8
   obtain⟨rfl,_⟩:=hE8
   refine lP H hrow8 0 Z2 (aG Z (q1 (pe 2 Z (o_lookS (hbs.at H.sub) hms hSs underlying121 underlying3 zeroValue153 Z Z Z ?_))));intro _ hE9
   obtain⟨_,_,_,rfl,_,hr9,_,_,_⟩:=ox hE9
   have hgb:=Sp.get_len hVs z8
   have hat:=Sp.get_at hVs hz8
   refine xal H Z ?_;intro _ _ _ H
   refine xst 0 H Z8 ?_;intro _ H
   refine q3 (W_drawK [0] 11 H kR Z ?_);intro _ H;have hd12:=PLe.refl G6
   refine dE 0 Z2 (dE 1 Z2 (dF 2 1 Z2 (dB 3 0 Z4 (dF 5 2 Z2 (dB 6 0 Z4 (r1 4 Z (xc Z2 (l_Clone_c _ _ H.sub _ _ hr9) ?_)))))))
   rintro _ _ ⟨_,_,_,g13,rfl,⟨_,rfl,hchk13⟩,hp13,hq13,hs13⟩
   have H:=H.growO g13 hp13 hq13 hs13;obtain⟨_,_,rfl⟩:=H.accShape (k:=0) rfl
   have hle6:=hle6.trans g13.le
   have hd12:=hd12.trans g13.le
   refine⟨_,Z,?_⟩
   refine q4 H hd12 (RD_t 7 Z kR Z (fun _ hK=>v_build bf153 Z Z) (r1 8 Z (xbs H Z7 ?_)));intro _ _ _ H
   refine q4 H hd12 (r1 9 Z (o_append1 3 H (sz:=3) (bytes:=40) underlying23 typeInfo153 ⟨_,Z,Z⟩ Z Z Z Z Z Z Z Z Z Z oM Z ?_));intro _ _ H
   obtain⟨Fi2,H,hOI2⟩:=H.ownI (k:=0) rfl hchk13 aN aN
   have hchk15:=hchk6_0.snoc (show heldO Fi2 ⟨z8,(getH Ls z8).bytes,(getH Ls z8).uses⟩ _ from⟨_,_,_,rfl,⟨by first|omega|(dsimp only;omega),by first|omega|(dsimp only;omega)⟩,hOI2,⟨by first|omega|(dsimp only;omega),by first|omega|(dsimp only;omega)⟩⟩) rfl
   have H:=H.tF 2
   have H:=H.mergeF
   obtain⟨_,_,rfl⟩:=H.accShape (k:=2) rfl
   refine q4 H hd12 (dE 10 Z2 (rz (N_B (N_K (W_region (aD Z2 (mV Z (R_nil ?_))))))))
   have H:=H.dl 1
   refine N_lp (hJ:=⟨_,_,_,(xs++[⟨z8,(getH Ls z8).bytes,(getH Ls z8).uses⟩]),(F++Fi2),k+1,_,Z,hle6,H,?inv,Z⟩) (hm:=?hm)
   case hm=>omega
   case inv=>exact⟨hchk15,aN,(by exact⟨by omega,by rw[Sp.take_succ' hat,hxs]⟩)⟩
  intro hc7'
  try simp only[nrm]at hc7'
  refine W_exit (N_K_exit (N_LP_exit (N_B_same (N_K (q2 (pe 2 Z (q3 (W_ret (rt1 results188 Z ?_)))))))))
  have H:=H.tF 1
  obtain⟨_,H,hOw3⟩:=H.ownF hchk6_0 aN aN
  have hX:xs=Ls:=by rw[hxs,List.take_of_length_le oM]
  have H:=H.forget hG (by simp)
  exact⟨_,_,Z,H,_,Z,hX▸⟨_,hOw3⟩⟩
theorem i_newVolume_c (w0:World)(G0:PH)(hG:PSub G0 w0)(vstore:Value)(store:List (BHeld))(hstore:RdH G0 vstore store)(vtree:Value)(tree:List (BItem))(htree:RdItems G0 vtree tree)(hLent:Lent w0 G0 []) :
  Calls Tryz.prog 107 #[vstore,vtree] w0 (RetM w0 G0 [] (fun G' v Bs=>(v= .tuple #[.agg #[.map none,.pointer none],.bool false]∧Bs=[]∧(Sp.StoreValid store&&Sp.TreeValid tree)=false)∨(∃(mb:Nat) (es:Array MapEntry) (ck:Nat) (xs:List (Int×Value)) (T:Nd) (F:Fr),v= .tuple #[.agg #[.map (some mb),.pointer (some ⟨T.b,0,none⟩)],.bool true]∧Bs=[blk mb (.map es ck),frag F]∧MapIs (Value.int .i64) es ck xs∧StR G' xs store∧Sp.VH store∧NdO 138 119 G' T F∧Nd.TOK T tree∧Sp.TreeValid tree=true))):=by
 obtain⟨astore,kstore,rfl⟩:=hstore.shape
 have hlimstore:store.length≤1099511627776:=hstore.lim
 obtain⟨atree,ktree,rfl⟩:=htree.shape
 have hlimtree:tree.length≤1099511627776:=htree.lim
 have H:Hp w0 G0 [] w0 G0 []:=hLent.hp
 refine calls_of_W (l:=[.slice astore store.length kstore,.slice atree tree.length ktree]) func107 Z ntmps107 Z (q2 (xal H Z ?_));intro _ _ _ H
 refine aG Z (q1 (mV Z (xc Z2 (i_openStore_c _ _ H.sub _ _ hstore H.lent0) ?_)))
 rintro _ _ ⟨_,_,_,rfl,H2',⟨_,rfl,rfl⟩|⟨hV2,_,_,_,_,rfl,rfl,hm2,hS2⟩⟩
 ·skip
  have H:=H.borrow0 H2'
  refine⟨_,Z,?_⟩
  refine pe 5 Z (q3 (W_seq (q2 (pe 2 Z (q3 (W_true Z (q2 (o_build bf123 Z Z Z (xst 0 H Z8 ?_)))))))));intro _ H
  refine aG Z (q3 (W_ret (N_K_ret (ret_gen (rs:=[.cell 4 123,.tmp 5]) (vs:=[_,_]) results107 ⟨⟨_,Z,load_blk 0 H isAgg123 sizeOf123 Z Z Z⟩,Z,trivial⟩ ?_))))
  have H:=H.dl 0
  exact H.retM (.inl ⟨rfl,rfl,by simp_all⟩)
 skip
 have htree:=htree.up H2'.le
 have H:=H.borrow0 H2'
 refine⟨_,Z,?_⟩
 refine pe 5 Z (q3 (W_seq (q2 (pe 2 Z (q3 (W_false Z (W_skip (N_K (q2 (mV Z (xc Z2 (i_openTree_c _ _ H.sub _ _ htree H.lent0) ?_)))))))))))
 rintro _ _ ⟨_,_,_,rfl,H4',⟨rfl,rfl,hv4⟩|⟨_,_,rfl,rfl,hN4,hT4,hv4⟩⟩
 ·skip
  have H:=H.borrow0 H4'
  refine⟨_,Z,?_⟩
  refine pe 5 Z (q3 (W_seq (q2 (pe 2 Z (q3 (W_true Z (q2 (o_build bf123 Z Z Z (xst 1 H Z8 ?_)))))))));intro _ H
  refine aG Z (q3 (W_ret (N_K_ret (ret_gen (rs:=[.cell 4 123,.tmp 5]) (vs:=[_,_]) results107 ⟨⟨_,Z,load_blk 1 H isAgg123 sizeOf123 Z Z Z⟩,Z,trivial⟩ ?_))))
  have H:=H.dl 0
  have H:=H.dl 0
  exact H.retM (.inl ⟨rfl,rfl,by simp_all⟩)
 skip
 have hS2:=hS2.up H4'.le
 have H:=H.borrow0 H4'
 refine⟨_,Z,?_⟩
 refine pe 5 Z (q3 (W_seq (q2 (pe 2 Z (q3 (W_false Z (W_skip (N_K (q2 (pe 2 Z (o_build bf123 Z Z Z (xst 2 H Z8 ?_))))))))))));intro _ H
 refine aG Z (q3 (W_ret (ret_gen (rs:=[.cell 4 123,.tmp 5]) (vs:=[_,_]) results107 ⟨⟨_,Z,load_blk 2 H isAgg123 sizeOf123 Z Z Z⟩,Z,trivial⟩ ?_)))
 have H:=H.dl 2
 have H:=H.tF 1
 exact H.retM (.inr ⟨_,_,_,_,_,_,Z,Z,hm2,hS2,hV2,hN4,hT4,hv4⟩)
theorem i_keepTree_c (w0:World)(G0:PH)(hG:PSub G0 w0)(mbs:Nat)(ess:Array MapEntry)(cks:Nat)(xss:List (Int×Value))(Ls:List BHeld)(hms:MapIs (Value.int .i64) ess cks xss)(hSs:StR G0 xss Ls)(hVs:Sp.VH Ls)(Ft:Fr)(t:Nd)(hNt:NdO 138 119 G0 t Ft)(hLent:Lent w0 G0 [blk mbs (.map ess cks),frag Ft])(hwt:t.wf)(hct:t.cnt≤1000) :
  Calls Tryz.prog 145 #[.map (some mbs),.pointer (some ⟨t.b,0,none⟩)] w0 (RetM w0 G0 (fps [blk mbs (.map ess cks),frag Ft]) (fun G' v Bs=>∃(es':Array MapEntry) (ck':Nat) (xs':List (Int×Value)) (L':List BHeld),v= .bool (Sp.l12Keep Ls (t.flat [])).isSome∧Bs=[blk mbs (.map es' ck'),frag Ft]∧MapIs (Value.int .i64) es' ck' xs'∧StR G' xs' L'∧Sp.VH L'∧∀l,Sp.l12Keep Ls (t.flat [])=some l→L'=l)):=by
 have hfl:=Nd.flat_len [] t
 have H:Hp w0 G0 (fps [blk mbs (.map ess cks),frag Ft]) w0 G0 [blk mbs (.map ess cks),frag Ft]:=hLent.hp
 refine calls_of_W (l:=[.map (some mbs),.pointer (some ⟨t.b,0,none⟩)]) func145 Z ntmps145 Z (q2 (aG Z (q3 (W_seq (q2 (mV Z (xc Z2 (i_tlist_c _ _ (H.lendSubL [1]) _ ((H.lendN (k:=1) (ks:=[1]) Z Z hNt).at (show Nd.at_ t []=some t from Z)) hwt hct) ?_)))))))
 rintro _ _ ⟨_,_,rfl,H1',⟨_,rfl,hO1⟩⟩
 have H:=H.readersL H1'
 obtain⟨_,hP1⟩:=hO1
 obtain⟨_,_,rfl⟩:=OwnS.shape hP1
 have hO1:=OIs.mk hP1
 refine⟨_,Z,?_⟩
 have hdm1:=dm_nodup H (k:=0) rfl;obtain⟨Gk1,H,hkl1,hks1⟩:=H.keepF (k:=0) rfl (H.apart (k:=0) (ks:=[1,2]) rfl rfl (by intro b hb;simp only[fps,List.flatMap_cons,List.flatMap_nil,List.append_nil,List.mem_append]at hb;rcases hb with h|h;(· exact fpsAt_mem (k:=1) rfl rfl b (by exact h));(· exact fpsAt_mem (k:=2) rfl rfl b (by exact h))))
 have hrk1:=hO1.rd hks1 hdm1
 have hSs:=hSs.up hkl1
 have hn_hrk1:=hrk1.len
 refine lN Z (mV Z (q3 (W_block ?_)))
 refine W_lp (hf:=(Sub.cons (t:=0) Z (Sub.cons (t:=8) Z (Sub.cons (t:=9) Z Sub.nil)))) (J:=fun M w m=>∃(esm0:Array MapEntry) (ckm0:Nat) (xsm0:List (Int×Value)) (Lm0:List BHeld) (k:Nat) (G:PH),M=[(10,.int .i64 (k:Int))]∧PLe Gk1 G∧Hp w0 G0 (fps [blk mbs (.map ess cks),frag Ft]) w G [blk mbs (.map esm0 ckm0),frag Ft]∧(MapIs (Value.int .i64) esm0 ckm0 xsm0∧StR G xsm0 Lm0∧Sp.VH Lm0∧k≤(t.flat []).length∧Sp.foldB Sp.keepT ((t.flat []).take k) (some Ls)=some Lm0)∧m=((t.flat []).length-k)) (h0:=⟨_,_,xss,Ls,0,_,Z,PLe.refl _,H,?inv,Z⟩) (round:=?round)
 case inv=>exact⟨hms,hSs,hVs,(by simp[Sp.foldB])⟩
 case round =>
  rintro _ _ _ ⟨esm0,ckm0,xsm0,Lm0,k,_,rfl,hle2,H,hinv2,rfl⟩
  have hrk1:=hrk1.up hle2
  obtain⟨hm2_m0,hS2_m0,hV2_m0,hinv2⟩:=hinv2
  obtain⟨_,hf⟩:=hinv2
  refine q2 (pe 1 Z (q3 (W_seq ?_)))
  refine W_cond Z ?_ ?_
  ·intro hc3
   try simp only[nrm]at hc3
   refine W_skip (N_K (W_seq (W_block (q2 (iP k hrk1 Z3 Z ?_)))));intro _ _ z4 _ hz4 hE4 hrow4
   obtain⟨_,_,_,rfl,_,hr4,_,_⟩:=ox hE4
   refine o_loadagg_P H isAgg35 sizeOf35 Z Z hrow4 Z (xal H Z ?_);intro _ _ _ H
   refine xst 0 H Z8 ?_;intro _ H
   refine q1 (mV Z (fA 2 Z (lB 0 H Z3 ?_)))
   have H:=H.tF 1
   refine xc Z2 (i_keepFile_c _ _ H.sub _ _ _ _ _ hm2_m0 hS2_m0 hV2_m0 _ _ hr4 H.lent1) ?_
   rintro _ _ ⟨_,_,_,rfl,H7',⟨_,_,xs7,L7,rfl,rfl,hm7,hS7,hV7,hL7⟩⟩
   have hle2:=hle2.trans H7'.le
   have H:=H.borrow1 H7'
   refine⟨_,Z,?_⟩
   refine pe 1 Z (q3 ?_)
   refine W_cond Z ?_ ?_
   ·intro hc8
    try simp only[nrm]at hc8
    refine q2 (aG Z (q3 (W_ret (N_B_ret (N_K_ret (N_LP_ret (N_B_ret (N_K_ret (rt1 results145 Z ?_)))))))))
    have H:=H.dl 1
    have H:=H.tF 1
    have H:=H.tF 1
    have hno:Sp.l12Keep Ls (t.flat [])=none:=by (have hno:Sp.keepT Lm0 z4=none:=(show Sp.foldB Sp.StoreKeep z4.ids (some Lm0)=none by simpa using hc8));exact Sp.foldB_stop hf hz4 hno
    exact H.retM ⟨_,_,_,_,congrArg Value.bool (by rw[hno];rfl),rfl,hm7,hS7,hV7,fun l hl=>by rw[hno]at hl;cases hl⟩
   intro hc8'
   try simp only[nrm]at hc8'
   obtain⟨p,hsp⟩:=Option.isSome_iff_exists.1 (show(Sp.foldB Sp.StoreKeep z4.ids (some Lm0)).isSome=true by simpa using hc8')
   have hLp:=hL7 p hsp;subst hLp
   have hsp:Sp.keepT Lm0 z4=some L7:=hsp
   refine W_skip (N_B (N_K (W_region (aD Z2 (mV Z (R_nil ?_))))))
   have H:=H.dl 1
   refine N_lp (hJ:=⟨_,_,xs7,L7,k+1,_,Z,hle2,H,?inv,Z⟩) (hm:=?hm)
   case hm=>omega
   case inv=>exact⟨hm7,hS7,hV7,(by exact⟨by omega,Sp.foldB_succ hf hz4 hsp⟩)⟩
  intro hc3'
  try simp only[nrm]at hc3'
  refine W_exit (N_K_exit (N_LP_exit (N_B_same (N_K (q2 (aG Z (q3 (W_ret (rt1 results145 Z ?_)))))))))
  have H:=H.tF 1
  have H:=H.tF 1
  have hyes:Sp.l12Keep Ls (t.flat [])=some Lm0:=Sp.foldB_all hf oM
  exact H.retM ⟨_,_,_,_,congrArg Value.bool (by rw[hyes];rfl),rfl,hm2_m0,hS2_m0,hV2_m0,fun l hl=>by rw[hyes]at hl;cases hl;rfl⟩
theorem i_snapAt_c (w0:World)(G0:PH)(hG:PSub G0 w0)(db:Nat)(m1 m2 v1 v2 vs:Value)(sn:List (Bs×Nd))(hdk:PRow G0 db 0 [m1,m2,v1,v2,vs])(hsn:RdS LIM osE 2 G0 vs sn)(nm:Bs)(hnm:nm.length≤16777216) :
  Calls Tryz.prog 143 #[.pointer (some ⟨db,0,none⟩),str nm] w0 (Rets w0 (.int .i64 (Sp.optI (sn.findIdx? (fun x=>decide (x.1=nm)))))):=by
 obtain⟨_,_,rfl⟩:=hsn.shape;have hlimsn:sn.length≤1099511627776:=hsn.lim
 have H:=Hp.init hG
 refine calls_of_W (l:=[.pointer (some ⟨db,0,none⟩),str nm]) func143 Z ntmps143 Z (q2 (aG Z (q3 (W_seq (q2 (pe 2 Z (fA 4 Z (lP H hdk 4 Z2 (lN Z (mV Z (q3 (W_block ?_))))))))))))
 refine W_lp (hf:=(Sub.cons (t:=1) Z (Sub.cons (t:=10) Z (Sub.cons (t:=11) Z Sub.nil)))) (J:=fun M w m=>∃(k:Nat) (G:PH),M=[(12,.int .i64 (k:Int))]∧PLe G0 G∧Hp w0 G0 [] w G []∧(k≤sn.length∧∀(j:Nat) (x:Bs×Nd),j<k→sn[j]? = some x→decide (x.1=nm)=false)∧m=(sn.length-k)) (h0:=⟨0,_,Z,PLe.refl _,H,?inv,Z⟩) (round:=?round)
 case inv=>exact⟨by omega,fun j x hj=>by omega⟩
 case round =>
  rintro _ _ _ ⟨k,_,rfl,hle1,H,hinv1,rfl⟩
  have hsn:=hsn.up hle1
  obtain⟨_,hno⟩:=hinv1
  refine q2 (pe 1 Z (q3 (W_seq ?_)))
  refine W_cond Z ?_ ?_
  ·intro hc2
   try simp only[nrm]at hc2
   refine W_skip (N_K (W_seq (W_block (q2 (mV Z (iP k hsn Z3 Z ?_))))));intro _ _ _ _ hz3 hE3 hrow3
   obtain⟨rfl,hi3⟩:=hE3;have hy_hi3:_≤16777216:=hi3
   refine o_loadagg_P H isAgg199 sizeOf199 Z Z hrow3 Z (xal H Z ?_);intro _ _ _ H
   refine aG Z (xst 0 H Z8 ?_);intro _ H
   refine q1 (fA 0 Z (lB 0 H Z3 (mV Z (o_seql Z Z Z (q3 ?_)))))
   refine W_cond Z ?_ ?_
   ·intro hc6
    try simp only[nrm]at hc6
    refine q2 (pe 2 Z (q3 (W_ret (N_B_ret (N_K_ret (N_LP_ret (N_B_ret (N_K_ret (rt1 results143 Z ?_)))))))))
    exact H.rets (congrArg (Value.int .i64) (by rw[Sp.fidx_some (p:=fun x:Bs×Nd=>decide (x.1=nm)) hno hz3 (by simpa using hc6)];rfl))
   intro hc6'
   try simp only[nrm]at hc6'
   refine W_skip (N_B (N_K (W_region (aD Z2 (mV Z (R_nil ?_))))))
   have H:=H.dl 0
   refine N_lp (hJ:=⟨k+1,_,Z,hle1,H,?inv,Z⟩) (hm:=?hm)
   case hm=>omega
   case inv=>exact⟨by omega,Sp.fidx_step hno hz3 (by simpa using hc6')⟩
  intro hc2'
  try simp only[nrm]at hc2'
  refine W_exit (N_K_exit (N_LP_exit (N_B_same (N_K (q2 (aG Z (q3 (W_ret (rt1 results143 Z ?_)))))))))
  exact H.rets (congrArg (Value.int .i64) (by rw[Sp.fidx_none (p:=fun x:Bs×Nd=>decide (x.1=nm)) (fun j x hj=>hno j x oM)];rfl))
theorem i_newDisk_c (w0:World)(G0:PH)(hG:PSub G0 w0)(cd:List Value)(d:BDisk)(hd:diskE G0 d cd)(hLent:Lent w0 G0 []) :
  Calls Tryz.prog 70 #[.agg cd.toArray] w0 (RetM w0 G0 [] (fun G' v Bs=>(v= .tuple #[.pointer none,.bool false]∧Bs=[]∧Sp.DiskValid d=false)∨(∃(db mb:Nat) (es:Array MapEntry) (ck:Nat) (xs:List (Int×Value)) (T:Nd) (F:Fr) (sv:Value) (sn:List (Fw.Bs×Nd)) (c:List Value) (FSq:Fr),v= .tuple #[.pointer (some ⟨db,0,none⟩),.bool true]∧Bs=[blk db (cl [.int .i32 0,.int .u32 0,.map (some mb),.pointer (some ⟨T.b,0,none⟩),sv] 133),blk mb (.map es ck),frag F,acc 199 2 sv sn.length c,frag FSq]∧MapIs (Value.int .i64) es ck xs∧StR G' xs d.store∧NdO 138 119 G' T F∧Nd.TOK T d.tree∧Chk osE 2 G' c sn∧NdsO 138 119 G' (sn.map (·.2)) FSq∧SnOK sn d.snaps∧Sp.DiskValid d=true))):=by
 obtain⟨_,_,_,_,_,_,_,_,_,rfl,hr1,hr1',hr1'',⟨_,_⟩,⟨_,_⟩,_,_⟩:=ox hd
 have H:Hp w0 G0 [] w0 G0 []:=hLent.hp
 refine calls_of_W (l:=[_]) func70 Z ntmps70 Z (q2 (o_box H Z Z Z ?_));intro b2 _ _ H
 refine pe 2 Z (q1 (fA 0 Z (lB 0 H Z3 (fA 1 Z (lB 0 H Z3 (xc Z2 (i_newVolume_c _ _ H.sub _ _ hr1 _ _ hr1' H.lent0) ?_))))))
 rintro _ _ ⟨G3,_,_,rfl,H3',⟨rfl,rfl,hnv3⟩|⟨mb3,es3,ck3,_,T3,F3,rfl,rfl,hm3,hS3,hV3,hN3,hT3,hv3⟩⟩
 ·skip
  have H:=H.borrow0 H3'
  refine⟨_,Z,?_⟩
  refine pe 3 Z (xal H Z ?_);intro _ _ _ H
  refine xst 0 H Z8 ?_;intro _ H
  refine aG Z (q3 (W_seq (q2 (pe 8 Z (q3 (W_true Z (q2 (pe 2 Z (q3 (W_ret (N_K_ret (rt2 results70 Z Z ?_))))))))))))
  have H:=H.dl 0
  have H:=H.dl 0
  exact H.retM (.inl ⟨rfl,rfl,Sp.dv_no (fun hh=>by simp[hh.1,hh.2.1]at hnv3)⟩)
 skip
 have hr1'':=hr1''.up H3'.le
 have H:=H.borrow0 H3'
 refine⟨_,Z,?_⟩
 refine pe 3 Z (xal H Z ?_);intro b6 _ _ H
 refine xst 0 H Z8 ?_;intro _ H
 refine aG Z (q3 (W_seq (q2 (pe 3 Z (gR Z (fA 2 Z (gR Z (lB 3 H Z3 (gR Z (lN Z (pe 2 Z (q3 ?_))))))))))))
 refine W_cond Z ?_ ?_
 ·intro hc8
  try simp only[nrm]at hc8
  refine q2 (pe 2 Z (q3 (W_ret (N_K_ret (rt2 results70 Z Z ?_)))))
  have H:=H.dl 0
  have H:=H.dl 0
  have H:=H.dl 0
  have H:=H.dl 0
  exact H.retM (.inl ⟨rfl,rfl,Sp.dv_no (fun hh=>by have:=hh.2.2.1;omega)⟩)
 intro hc8'
 try simp only[nrm]at hc8'
 refine W_skip (N_K (q2 (lA 0 2 H Z4 (o_build bf133 Z Z Z (o_box H Z Z Z ?_)))));intro b9 _ _ H
 refine aG Z (q1 (fA 1 Z (lB 1 H Z3 (xbs H Z7 ?_))));intro _ _ _ H
 refine aG Z (q3 (W_seq (q2 (fA 2 Z (lB 5 H Z3 (lN Z (mV Z (q3 (W_block ?_)))))))))
 have H:=H.blkAcc 1 (k:=0) (n:=1) rfl rfl (by decide)
 have H:=H.addF
 have H:=H.addNil 199 2
 obtain⟨ln12,hln12,H⟩:=H.nameAt (k:=3) (off:=4) rfl rfl
 obtain⟨ln13,hln13,H⟩:=H.name (k:=4) rfl
 obtain⟨ln14,hln14,H⟩:=H.name (k:=7) rfl
 refine W_lp (hf:=(Sub.cons (t:=4) Z (Sub.cons (t:=6) Z (Sub.cons (t:=35) Z (Sub.cons (t:=36) Z Sub.nil))))) (J:=fun M w m=>∃(v:Value) (n:Nat) (cs:List Value) (xs:List (Bs×Nd)) (v1:Value) (n1:Nat) (cs1:List Value) (xs1:List (Nd)) (k:Nat) (FSq:Fr) (G:PH),M=[(37,.int .i64 (k:Int)),(7,v1)]∧PLe G3 G∧Hp w0 G0 [] w G [acc 199 2 v n cs,frag FSq,acc 119 1 v1 n1 cs1,blk b9 (cl (setN ln12 4 v) 133),blk b6 (cl ln13 123),blk mb3 (.map es3 ck3),frag F3,blk b2 (cl ln14 27)]∧(Chk osE 2 G cs xs∧n=xs.length∧Chk kdE 1 G cs1 xs1∧n1=xs1.length∧k≤d.snaps.length∧xs1=T3::xs.map (·.2)∧NdsO 138 119 G (xs.map (·.2)) FSq∧SnOK xs (d.snaps.take k)∧∀(j:Nat) (s:BSnap),j<k→d.snaps[j]? = some s→Sp.l1Word s.name=true∧(j:Int)≤Sp.l12At d.snaps s.name)∧m=(d.snaps.length-k)) (h0:=⟨_,_,_,[],_,_,_,[T3],0,[],_,Z,PLe.refl _,H,?inv,Z⟩) (round:=?round)
 case inv=>exact⟨(Chk.nil (E:=osE) (sz:=2) (G:=G3)),(by first|rfl|simp|(simp;omega)|omega),(chkK [T3]),by first|rfl|simp|(simp;omega)|omega,(by exact⟨by omega,rfl,by simp[NdsO],.nil,fun j s hj=>by omega⟩)⟩
 case round =>
  rintro _ _ _ ⟨v,n,cs,xs,v1,n1,cs1,xs1,k,FSq,_,rfl,hle15,H,hinv15,rfl⟩
  subst hln12
  subst hln13
  subst hln14
  have hr1'':=hr1''.up hle15
  have hS3:=hS3.up hle15
  have hN3:=hN3.up hle15
  obtain⟨hchk15_0,_,hinv15⟩:=hinv15
  obtain⟨_,_,rfl⟩:=H.accShape (k:=0) rfl
  obtain⟨hchk15_1,_,hinv15⟩:=hinv15
  obtain⟨_,_,rfl⟩:=H.accShape (k:=2) rfl
  obtain⟨_,hx1,hNs,hSn,hw⟩:=hinv15;have hsl:=hSn.len;have hxl6:xs.length≤6:=(by simp at hsl;omega);have hx1l:xs1.length=xs.length+1:=by simp[hx1]
  refine q2 (pe 1 Z (q3 (W_seq ?_)))
  refine W_cond Z ?_ ?_
  ·intro hc16
   try simp only[nrm]at hc16
   refine W_skip (N_K (W_seq (W_block (q2 (iP k hr1'' Z3 Z ?_)))));intro _ _ z17 _ hz17 hE17 hrow17
   obtain⟨_,_,_,rfl,hi17,hr17,_,_⟩:=ox hE17
   refine o_loadagg_P H isAgg107 sizeOf107 Z Z hrow17 Z (xal H Z ?_);intro _ _ _ H
   refine xst 0 H Z8 ?_;intro _ H
   refine q1 (fA 1 Z (lB 0 H Z3 (xc Z2 (i_openTree_c _ _ H.sub _ _ hr17 H.lent0) ?_)))
   rintro _ _ ⟨G20,_,_,rfl,H20',⟨rfl,rfl,hv20⟩|⟨T20,F20,rfl,rfl,hN20,hT20,hv20⟩⟩
   ·skip
    have H:=H.borrow0 H20'
    refine⟨_,Z,?_⟩
    refine pe 5 Z (q3 (W_seq (q2 (pe 15 Z (q3 (W_true Z (q2 (pe 2 Z (q3 (W_ret (N_K_ret (N_B_ret (N_K_ret (N_LP_ret (N_B_ret ?_)))))))))))))))
    refine N_K_ret (rt2 results70 Z Z ?_)
    have H:=H.dl 0
    have H:=H.dl 0
    have H:=H.dl 0
    have H:=H.dl 0
    have H:=H.dl 0
    have H:=H.dl 0
    have H:=H.dl 0
    have H:=H.dl 0
    have H:=H.dl 0
    exact H.retM (.inl ⟨rfl,rfl,Sp.dv_no (fun hh=>by (rw[(hh.2.2.2 k _ hz17).2.2]at hv20);cases hv20)⟩)
   skip
   have hchk15_0:=hchk15_0.up H20'.le
   have hchk15_1:=hchk15_1.up H20'.le
   have hNs:=hNs.up H20'.le
   have hle15:=hle15.trans H20'.le
   have H:=H.borrow0 H20'
   refine⟨_,Z,?_⟩
   refine pe 5 Z (q3 (W_seq (q2 (pe 3 Z (gR Z (fA 0 Z (gR Z (lB 1 H Z3 (gR Z (xr H Z2 (i_partValid_c _ _ hi17) ?_))))))))));intro _ H
   refine pe 3 Z ?_
   refine R_case (t:=55) Z ?_ ?_
   ·intro hc22
    try simp only[nrm]at hc22
    refine pe 6 Z (q3 (W_true Z (q2 (pe 2 Z (q3 (W_ret (N_K_ret (N_B_ret (N_K_ret (N_LP_ret (N_B_ret (N_K_ret (rt2 results70 Z Z ?_)))))))))))))
    have H:=H.dl 0
    have H:=H.dl 0
    have H:=H.dl 0
    have H:=H.dl 0
    have H:=H.dl 0
    have H:=H.dl 0
    have H:=H.dl 0
    have H:=H.dl 0
    have H:=H.dl 0
    have H:=H.dl 0
    exact H.retM (.inl ⟨rfl,rfl,Sp.dv_no (fun hh=>by have h9:=(hh.2.2.2 k _ hz17).1;simp_all)⟩)
   intro hc22'
   try simp only[nrm]at hc22'
   refine pe 1 Z (gR Z (fA 0 Z (gR Z (lB 1 H Z3 (gR Z (xr H Z2 (i_snapAt_c _ _ (H.lendSubL [2,5]) _ _ _ _ _ _ _ (prow_blk (H.lendPredL (k:=5) (ks:=[2,5]) Z Z)) (H.lendRdL (k:=2) (ks:=[2,5]) Z Z hchk15_0 aN aN) _ hi17) ?_))))));intro _ H
   refine pe 2 Z (q3 ?_)
   refine W_cond Z ?_ ?_
   ·intro hc24
    try simp only[nrm]at hc24
    refine q2 (pe 2 Z (q3 (W_ret (N_K_ret (N_B_ret (N_K_ret (N_LP_ret (N_B_ret (N_K_ret (rt2 results70 Z Z ?_))))))))))
    have H:=H.dl 0
    have H:=H.dl 0
    have H:=H.dl 0
    have H:=H.dl 0
    have H:=H.dl 0
    have H:=H.dl 0
    have H:=H.dl 0
    have H:=H.dl 0
    have H:=H.dl 0
    have H:=H.dl 0
    exact H.retM (.inl ⟨rfl,rfl,Sp.dv_no (fun hh=>by have h9:=(Sp.at_take hz17).1 (hh.2.2.2 k _ hz17).2.1;(rw[←Sp.sn_find hSn]at h9);omega)⟩)
   intro hc24'
   try simp only[nrm]at hc24'
   refine W_skip (N_K (W_seq (W_drawK [1,6,9] 14 H kR Z ?_)));intro _ H;have hd25:=PLe.refl G20
   refine dE 0 Z2 (dE 1 Z2 (dE 2 Z2 (dF 3 4 Z2 (dF 5 0 Z2 (dB 6 0 Z4 (dE 7 Z2 (RD_t 8 Z kR Z (fun _ hK=>v_build bf199 Z Z) ?_)))))))
   refine r2 4 9 Z2 ?_ ?_
   ·skip
    refine lB 5 H Z3 (q4 H hd25 (r1 9 Z (xbs H Z7 ?_)));intro _ _ _ H
    refine q4 H hd25 (r1 10 Z (o_append1 2 H (sz:=2) (bytes:=24) underlying131 typeInfo199 ⟨_,Z,Z⟩ Z Z Z Z Z Z Z Z Z Z oM Z ?_));intro _ _ H
    have hchk27:=hchk15_0.snoc (show osE _ (z17.name,T20) _ from⟨rfl,hi17⟩) rfl
    obtain⟨_,_,rfl⟩:=H.accShape (k:=2) rfl
    refine q4 H hd25 (dE 11 Z2 (dF 12 4 Z2 (r1 13 Z ?_)))
    have H:=H.tF 3
    have H:=H.mergeF
    refine xst 4 H Z8 ?_;intro _ H
    refine q4 H hd25 (rz (N_K (W_region (pe 2 Z (xbs H Z7 ?_)))));intro _ _ _ H
    refine o_append1 3 H (sz:=1) (bytes:=8) underlying136 typeInfo119 ⟨_,Z,Z⟩ Z Z Z Z Z Z Z Z Z Z oM Z ?_;intro _ _ H
    have hchk30:=hchk15_1.snoc (show kdE _ T20 _ from rfl) rfl
    obtain⟨_,_,rfl⟩:=H.accShape (k:=3) rfl
    refine aG Z (R_nil (N_B (N_K (W_region (aD Z2 (mV Z (R_nil ?_)))))))
    have H:=H.dl 1
    have H:=H.tF 7
    have H:=H.tF 7
    have H:=H.tF 7
    have H:=H.tF 7
    have H:=H.tF 7
    have H:=H.tF 7
    have H:=H.tF 6
    have H:=H.tF 7
    refine N_lp (hJ:=⟨_,_,_,(xs++[(z17.name,T20)]),_,_,_,(xs1++[T20]),k+1,(FSq++F20),_,Z,hle15,H,?inv,Z⟩) (hm:=?hm)
    case hm=>omega
    case inv=>exact⟨hchk27,aN,hchk30,aN,(by exact⟨by omega,by simp[hx1],by simpa using hNs.snoc hN20,hSn.snoc2 hz17 rfl hT20 hv20,names_step hw hz17 (by simpa using hc22') hSn oM⟩)⟩
   skip
   refine xbs H Z7 ?_;intro _ _ _ H
   refine q4 H hd25 (r1 4 Z (lB 6 H Z3 (q4 H hd25 (r1 10 Z (o_append1 2 H (sz:=2) (bytes:=24) underlying131 typeInfo199 ⟨_,Z,Z⟩ Z Z Z Z Z Z Z Z Z Z oM Z ?_)))));intro _ _ H
   have hchk33:=hchk15_0.snoc (show osE _ (z17.name,T20) _ from⟨rfl,hi17⟩) rfl
   obtain⟨_,_,rfl⟩:=H.accShape (k:=2) rfl
   refine q4 H hd25 (dE 11 Z2 (dF 12 4 Z2 (r1 13 Z ?_)))
   have H:=H.tF 3
   have H:=H.mergeF
   refine xst 4 H Z8 ?_;intro _ H
   refine q4 H hd25 (rz (N_K (W_region (pe 2 Z (xbs H Z7 ?_)))));intro _ _ _ H
   refine o_append1 3 H (sz:=1) (bytes:=8) underlying136 typeInfo119 ⟨_,Z,Z⟩ Z Z Z Z Z Z Z Z Z Z oM Z ?_;intro _ _ H
   have hchk36:=hchk15_1.snoc (show kdE _ T20 _ from rfl) rfl
   obtain⟨_,_,rfl⟩:=H.accShape (k:=3) rfl
   refine aG Z (R_nil (N_B (N_K (W_region (aD Z2 (mV Z (R_nil ?_)))))))
   have H:=H.dl 1
   have H:=H.tF 7
   have H:=H.tF 7
   have H:=H.tF 7
   have H:=H.tF 7
   have H:=H.tF 7
   have H:=H.tF 7
   have H:=H.tF 6
   have H:=H.tF 7
   refine N_lp (hJ:=⟨_,_,_,(xs++[(z17.name,T20)]),_,_,_,(xs1++[T20]),k+1,(FSq++F20),_,Z,hle15,H,?inv,Z⟩) (hm:=?hm)
   case hm=>omega
   case inv=>exact⟨hchk33,aN,hchk36,aN,(by exact⟨by omega,by simp[hx1],by simpa using hNs.snoc hN20,hSn.snoc2 hz17 rfl hT20 hv20,names_step hw hz17 (by simpa using hc22') hSn oM⟩)⟩
  intro hc16'
  try simp only[nrm]at hc16'
  refine W_exit (N_K_exit (N_LP_exit (N_B_same (N_K (W_seq (q2 (fA 0 Z (lB 4 H Z3 (mV Z ?_)))))))))
  refine xr H Z2 (i_usedBy_c _ _ (H.lendSubL [1,2,5,6]) _ _ _ _ _ (H.lendPredL (k:=5) (ks:=[1,2,5,6]) Z Z) hm3 (hS3.up (PPlus.le _ _ _)) hV3 _ _ (RdS.withN (H.lendRdL (k:=2) (ks:=[1,2,5,6]) Z Z hchk15_1 aN aN) (fun t ht=>by (rw[hx1]at ht);rcases List.mem_cons.1 ht with rfl|ht;(· exact H.lendN (k:=6) rfl rfl hN3);(· exact H.lendNs (k:=1) rfl rfl hNs t ht))) oM (fun t ht=>by (rw[hx1]at ht);rcases List.mem_cons.1 ht with rfl|ht;(· exact⟨hT3.wf,by have:=hT3.cnt;have:=Sp.tree_len hv3;omega⟩);(· exact sn_ok hSn t ht))) ?_;intro _ H
  refine pe 1 Z (q3 ?_)
  refine W_cond Z ?_ ?_
  ·intro hc39
   try simp only[nrm]at hc39
   refine q2 (pe 2 Z (q3 (W_ret (N_K_ret (rt2 results70 Z Z ?_)))))
   have H:=H.dl 0
   have H:=H.dl 0
   have H:=H.dl 0
   have H:=H.dl 0
   have H:=H.dl 0
   have H:=H.dl 0
   have H:=H.dl 0
   have H:=H.dl 0
   have hkk:k=d.snaps.length:=by omega
   have hSnf:SnOK xs d.snaps:=by (rw[hkk,List.take_length]at hSn;exact hSn)
   have hwf:∀(j:Nat) (s:BSnap),d.snaps[j]? = some s→Sp.l1Word s.name=true∧(j:Int)≤Sp.l12At d.snaps s.name:=fun j s hs=>hw j s (by have:=(List.getElem?_eq_some_iff.1 hs).1;omega) hs
   exact H.retM (.inl ⟨rfl,rfl,(by (rw[Sp.dv_use (Sp.valid_iff.2 hV3) hT3 oM hSnf hwf,←hx1];unfold Sp.useOK;rw[Bool.and_eq_false_iff];exact hc39))⟩)
  intro hc39'
  try simp only[nrm]at hc39'
  refine W_skip (N_K (q2 (pe 3 Z (q3 (W_ret (rt2 results70 Z Z ?_))))))
  have H:=H.dl 2
  have H:=H.dl 3
  have H:=H.dl 5
  have H:=H.tF 1
  have H:=H.tF 1
  have H:=H.tF 4
  have H:=H.tF 4
  have H:=H.tF 4
  have hkk:k=d.snaps.length:=by omega
  have hSnf:SnOK xs d.snaps:=by (rw[hkk,List.take_length]at hSn;exact hSn)
  have hwf:∀(j:Nat) (s:BSnap),d.snaps[j]? = some s→Sp.l1Word s.name=true∧(j:Int)≤Sp.l12At d.snaps s.name:=fun j s hs=>hw j s (by have:=(List.getElem?_eq_some_iff.1 hs).1;omega) hs
  have hdv:Sp.DiskValid d=true:=by (rw[Sp.dv_use (Sp.valid_iff.2 hV3) hT3 oM hSnf hwf,←hx1];unfold Sp.useOK;simpa using hc39')
  obtain rfl:n=xs.length:=by assumption
  exact H.retM (.inr ⟨_,_,_,_,_,_,_,_,xs,_,_,Z,Z,hm3,hS3,hN3,hT3,hchk15_0,hNs,hSnf,hdv⟩)
end Go.Proofs.Tst
namespace Go.Proofs.Tst
open Go
abbrev muLink:Go.Conc.Locks.MuLink:={lock:=140,unlock:=141,ilock:=201,iunlock:=202,lockSlow:=239,unlockSlow:=242,disable:=235,enable:=237,acquire:=238,relMerge:=240,cas32:=236,add32:=241,tMutex:=130,tIMutex:=128,tPMutex:=253,tPIMutex:=285,tPI32:=287,tUP:=289,tNoCopy:=125,tU32:=126}
theorem muLib:Go.Conc.Locks.MuLib Tryz.prog muLink where
 f_lock:=by kernel_rfl
 f_unlock:=by kernel_rfl
 f_ilock:=by kernel_rfl
 f_iunlock:=by kernel_rfl
 f_disable:=by kernel_rfl
 f_enable:=by kernel_rfl
 f_acquire:=by kernel_rfl
 f_relMerge:=by kernel_rfl
 f_cas32:=by kernel_rfl
 f_add32:=by kernel_rfl
 underlying_tIMutex:=Tryz.underlying128
 runUnderlying_tIMutex:=Tryz.runUnderlying128
 sizeOf_tIMutex:=Tryz.sizeOf128
 isAgg_tIMutex:=Tryz.isAgg128
 zeroValue_tIMutex:=Tryz.zeroValue128
 underlying_tMutex:=Tryz.underlying130
 runUnderlying_tMutex:=Tryz.runUnderlying130
 sizeOf_tMutex:=Tryz.sizeOf130
 isAgg_tMutex:=Tryz.isAgg130
 zeroValue_tMutex:=Tryz.zeroValue130
 underlying_tPMutex:=Tryz.underlying253
 runUnderlying_tPMutex:=Tryz.runUnderlying253
 sizeOf_tPMutex:=Tryz.sizeOf253
 isAgg_tPMutex:=Tryz.isAgg253
 zeroValue_tPMutex:=Tryz.zeroValue253
 underlying_tPIMutex:=Tryz.underlying285
 runUnderlying_tPIMutex:=Tryz.runUnderlying285
 sizeOf_tPIMutex:=Tryz.sizeOf285
 isAgg_tPIMutex:=Tryz.isAgg285
 zeroValue_tPIMutex:=Tryz.zeroValue285
 underlying_tPI32:=Tryz.underlying287
 runUnderlying_tPI32:=Tryz.runUnderlying287
 sizeOf_tPI32:=Tryz.sizeOf287
 isAgg_tPI32:=Tryz.isAgg287
 zeroValue_tPI32:=Tryz.zeroValue287
 underlying_tUP:=Tryz.underlying289
 runUnderlying_tUP:=Tryz.runUnderlying289
 sizeOf_tUP:=Tryz.sizeOf289
 isAgg_tUP:=Tryz.isAgg289
 zeroValue_tUP:=Tryz.zeroValue289
 underlying_tNoCopy:=Tryz.underlying125
 runUnderlying_tNoCopy:=Tryz.runUnderlying125
 sizeOf_tNoCopy:=Tryz.sizeOf125
 isAgg_tNoCopy:=Tryz.isAgg125
 zeroValue_tNoCopy:=Tryz.zeroValue125
 underlying_t21:=Tryz.underlying21
 runUnderlying_t21:=Tryz.runUnderlying21
 sizeOf_t21:=Tryz.sizeOf21
 isAgg_t21:=Tryz.isAgg21
 zeroValue_t21:=Tryz.zeroValue21
 room_tIMutex:=by kernel_rfl
end Go.Proofs.Tst
namespace Go.Proofs.Tst
open Go Fw Tryz
theorem i_disk_c (w0:World)(G0:PH)(hG:PSub G0 w0)(db mb:Nat)(es:Array MapEntry)(ck:Nat)(xs:List (Int×Value))(T:Nd)(FT:Fr)(sv:Value)(sn:List (Bs×Nd))(c:List Value)(FSq:Fr)(d:BDisk)(hm:MapIs (Value.int .i64) es ck xs)(hS:StR G0 xs d.store)(hN:NdO 138 119 G0 T FT)(hT:Nd.TOK T d.tree)(hchk:Chk osE 2 G0 c sn)(hNs:NdsO 138 119 G0 (sn.map (·.2)) FSq)(hSn:SnOK sn d.snaps)(hVd:Sp.VH d.store)(hs6:d.snaps.length≤6)(hLent:Lent w0 G0 [blk db (cl [.int .i32 0,.int .u32 0,.map (some mb),.pointer (some ⟨T.b,0,none⟩),sv] 133),blk mb (.map es ck),frag FT,acc 199 2 sv sn.length c,frag FSq]) :
  Calls Tryz.prog 114 #[.pointer (some ⟨db,0,none⟩)] w0 (RetM w0 G0 (fps [blk db (cl [.int .i32 0,.int .u32 0,.map (some mb),.pointer (some ⟨T.b,0,none⟩),sv] 133),blk mb (.map es ck),frag FT,acc 199 2 sv sn.length c,frag FSq]) (fun G' v Bs=>∃(v1 v2 v3:Value) (F1 F2 F3:Fr),v= .agg #[v1,v2,v3]∧Bs=[frag F1,frag F2,frag F3]∧OHs F1 v1 d.store∧OIs F2 v2 d.tree∧OSn F3 v3 d.snaps)):=by
 have H:Hp w0 G0 (fps [blk db (cl [.int .i32 0,.int .u32 0,.map (some mb),.pointer (some ⟨T.b,0,none⟩),sv] 133),blk mb (.map es ck),frag FT,acc 199 2 sv sn.length c,frag FSq]) w0 G0 [blk db (cl [.int .i32 0,.int .u32 0,.map (some mb),.pointer (some ⟨T.b,0,none⟩),sv] 133),blk mb (.map es ck),frag FT,acc 199 2 sv sn.length c,frag FSq]:=hLent.hp
 obtain⟨adv,cdv,rfl⟩:=H.accShape (k:=3) rfl;have hTv:=hT.valid;have hTc:=hT.cnt;have hTl:=Sp.tree_len hTv;have hsnl:=hSn.len;have hxa:=H.accShape (k:=3) rfl
 refine calls_of_WD (l:=[.pointer (some ⟨db,0,none⟩)]) func114 Z ntmps114 Z (q2 (xal H Z ?_));intro b1 _ _ H
 refine q1 (pe 2 Z (fA 0 Z (o_lock 1 H muLib Z call140 Z Z Z Z ?_)));intro _ H
 refine q1 (pe 2 Z (fA 0 Z (o_defer Z (q3 (W_seq (W_drawK [0,1] 15 H kR Z ?_))))));intro _ H;have hd3:=PLe.refl G0
 refine dE 0 Z2 (dE 1 Z2 (dF 2 2 Z2 (dF 3 0 Z2 (dB 4 1 Z4 (dE 6 Z2 (dE 7 Z2 (dF 8 2 Z2 (dF 9 1 Z2 (dB 10 1 Z4 ?_)))))))))
 refine r2 5 13 Z2 ?_ ?_
 ·skip
  refine xc Z2 (i_slist_c _ _ (H.lendSubL [2]) _ _ _ _ _ (H.lendPredL (k:=2) (ks:=[2]) Z Z) hm (hS.up (PPlus.le _ _ _)) hVd) ?_
  rintro _ _ ⟨_,_,rfl,H4',⟨F4,rfl,hO4⟩⟩
  have H:=H.readersL H4'
  obtain⟨_,hP4⟩:=hO4
  obtain⟨_,_,rfl⟩:=OwnS.shape hP4
  have hO4:=OHs.mk hP4
  refine⟨_,Z,?_⟩
  refine q4 H hd3 ?_
  refine r2 11 13 Z2 ?_ ?_
  ·skip
   refine xc Z2 (i_tlist_c _ _ (H.lendSubL [4]) _ ((H.lendN (k:=4) (ks:=[4]) Z Z hN).at (show Nd.at_ T []=some T from Z)) hT.wf oM) ?_
   rintro _ _ ⟨_,_,rfl,H5',⟨F5,rfl,hO5⟩⟩
   have H:=H.readersL H5'
   obtain⟨_,hP5⟩:=hO5
   obtain⟨_,_,rfl⟩:=OwnS.shape hP5
   have hO5:=OIs.mk hP5
   refine⟨_,Z,?_⟩
   refine q4 H hd3 (RD_t 12 Z kR Z (fun _ hK=>v_build bf27 Z Z) (r1 13 Z (xal H Z ?_)));intro b6 _ _ H
   refine q4 H hd3 (r1 14 Z (xst 0 H Z8 ?_));intro _ H
   refine R_nil (N_DKlast kR kR (N_K (W_seq (q2 (pe 2 Z (fA 4 Z (lB 4 H Z3 (lN Z (mV Z (q3 (W_block ?_)))))))))))
   have H:=H.addNil 107 2
   have H:=H.addF
   obtain⟨ln9,hln9,H⟩:=H.nameAt (k:=2) (off:=2) rfl rfl
   obtain⟨ln10,hln10,H⟩:=H.name (k:=5) rfl
   obtain⟨ln11,hln11,H⟩:=H.name (k:=6) rfl
   refine W_lp (hf:=(Sub.cons (t:=2) Z (Sub.cons (t:=3) Z (Sub.cons (t:=29) Z (Sub.cons (t:=30) Z Sub.nil))))) (J:=fun M w m=>∃(v:Value) (n:Nat) (cs:List Value) (xs:List (BSnap)) (F:Fr) (k:Nat) (G:PH),M=[(31,.int .i64 (k:Int))]∧PLe G0 G∧Hp w0 G0 (fps [blk db (cl [.int .i32 0,.int .u32 0,.map (some mb),.pointer (some ⟨T.b,0,none⟩),.slice adv sn.length cdv] 133),blk mb (.map es ck),frag FT,acc 199 2 (.slice adv sn.length cdv) sn.length c,frag FSq]) w G [frag F,acc 107 2 v n cs,blk b6 (cl (setN ln9 2 v) 27),frag F5,frag F4,blk b1 (cl ln10 27),blk db (cl ln11 133),blk mb (.map es ck),frag FT,acc 199 2 (.slice adv sn.length cdv) sn.length c,frag FSq]∧(ChkF snapO 2 cs xs F∧n=xs.length∧k≤sn.length∧xs=(sn.take k).map (fun x=>(⟨x.1,x.2.flat []⟩:BSnap)))∧m=(sn.length-k)) (h0:=⟨_,_,_,[],[],0,_,Z,PLe.refl _,H,?inv,Z⟩) (round:=?round)
   case inv=>exact⟨ChkF.nil,by first|rfl|simp|(simp;omega)|omega,(by simp)⟩
   case round =>
    rintro _ _ _ ⟨v,n,cs,xs,F,k,G12,rfl,hle12,H,hinv12,rfl⟩
    subst hln9
    subst hln10
    subst hln11
    have hchk:=hchk.up hle12
    have hNs:=hNs.up hle12
    obtain⟨hchk12_0,_,hinv12⟩:=hinv12
    obtain⟨_,_,rfl⟩:=H.accShape (k:=1) rfl
    obtain⟨hk,hxs⟩:=hinv12;have hxl6:xs.length≤6:=by (rw[hxs];simp;omega)
    refine q2 (pe 1 Z (q3 (W_seq ?_)))
    refine W_cond Z ?_ ?_
    ·intro hc13
     try simp only[nrm]at hc13
     refine W_skip (N_K (W_seq (W_block (q2 (o_index_A 9 H k Z hchk underlying131 sizeOf199 Z Z Z Z aN aN ?_)))));intro _ z14 _ hba14 hz14 hE14 hg14;cases hba14
     obtain⟨rfl,hi14⟩:=hE14;have hy_hi14:_≤16777216:=hi14
     refine o_loadagg_A 9 H isAgg199 sizeOf199 Z Z Z hg14 Z (xal H Z ?_);intro _ _ _ H
     refine xst 0 H Z8 ?_;intro _ H
     refine q3 (W_drawK [0,3,6,7] 12 H kR Z ?_);intro _ H;have hd17:=PLe.refl G12
     refine dF 0 2 Z2 (dB 1 1 Z4 (dF 2 0 Z2 (dB 3 0 Z4 (dF 4 1 Z2 (dB 5 0 Z4 (r1 6 Z ?_))))))
     refine xc Z2 (i_tlist_c _ _ (H.lendSubL [11]) _ (H.lendNs (k:=11) (ks:=[11]) Z Z hNs z14.2 (List.mem_map_of_mem (List.mem_of_getElem? hz14))) (sn_ok hSn _ (List.mem_map_of_mem (List.mem_of_getElem? hz14))).1 (by have:=(sn_ok hSn _ (List.mem_map_of_mem (List.mem_of_getElem? hz14))).2;omega)) ?_
     rintro _ _ ⟨_,_,rfl,H18',⟨F18,rfl,hO18⟩⟩
     have H:=H.readersL H18'
     obtain⟨_,hP18⟩:=hO18
     obtain⟨_,_,rfl⟩:=OwnS.shape hP18
     have hO18:=OIs.mk hP18
     refine⟨_,Z,?_⟩
     refine q4 H hd17 (RD_t 7 Z kR Z (fun _ hK=>v_build bf107 Z Z) (r1 8 Z (xbs H Z7 ?_)));intro _ _ _ H
     refine q4 H hd17 (r1 9 Z (o_append1 3 H (sz:=2) (bytes:=40) underlying25 typeInfo107 ⟨_,Z,Z⟩ Z Z Z Z Z Z Z Z Z Z oM Z ?_));intro _ _ H
     have hchk20:=hchk12_0.snoc (show snapO F18 ⟨z14.1,z14.2.flat []⟩ _ from⟨_,_,_,rfl,hi14,hO18⟩) rfl
     have H:=H.tF 2
     have H:=H.mergeF
     obtain⟨_,_,rfl⟩:=H.accShape (k:=2) rfl
     refine q4 H hd17 (dF 10 2 Z2 (r1 11 Z (xst 3 H Z8 ?_)));intro _ H
     refine R_nil (N_DKlast kR kR (N_B (N_K (W_region (aD Z2 (mV Z (R_nil ?_)))))))
     have H:=H.dl 1
     refine N_lp (hJ:=⟨_,_,_,(xs++[⟨z14.1,z14.2.flat []⟩]),(F++F18),k+1,_,Z,hle12,H,?inv,Z⟩) (hm:=?hm)
     case hm=>omega
     case inv=>exact⟨hchk20,aN,(by exact⟨by omega,by (rw[Sp.take_succ' hz14,List.map_append,←hxs];rfl)⟩)⟩
    intro hc13'
    try simp only[nrm]at hc13'
    refine W_exit (N_K_exit (N_LP_exit (N_B_same (N_K (q2 (lA 2 3 H Z4 (xst 5 H Z8 ?_)))))));intro _ H
    refine q3 (W_ret (ret_unlock 6 H muLib Z call141 Z Z (rs:=[.cell 2 27]) results114 ?_));intro _ H
    refine⟨[_],⟨⟨_,Z,load_blk 5 H isAgg27 sizeOf27 Z Z Z⟩,trivial⟩,?_⟩
    have H:=H.tF 1
    obtain⟨_,H,hOw3⟩:=H.ownF hchk12_0 aN aN
    have H:=H.dl 1
    have H:=H.dl 3
    have H:=H.dl 3
    have H:=H.dl 3
    have H:=H.dl 3
    have H:=H.dl 3
    have H:=H.dl 3
    have H:=H.tF 1
    have H:=H.tF 2
    have hxs2:xs=d.snaps:=by (rw[hxs,List.take_of_length_le oM];exact sn_list hSn)
    exact H.retM ⟨_,_,_,_,_,_,rfl,rfl,hO4,(by (rw[←hT.flat]);exact hO5),(by have h9:=(show OSn _ _ _ from⟨_,hOw3⟩);(rw[hxs2]at h9);exact h9)⟩
  skip
  refine xal H Z ?_;intro b24 _ _ H
  refine q4 H hd3 (r1 11 Z (xc Z2 (i_tlist_c _ _ (H.lendSubL [5]) _ ((H.lendN (k:=5) (ks:=[5]) Z Z hN).at (show Nd.at_ T []=some T from Z)) hT.wf oM) ?_))
  rintro _ _ ⟨_,_,rfl,H25',⟨F25,rfl,hO25⟩⟩
  have H:=H.readersL H25'
  obtain⟨_,hP25⟩:=hO25
  obtain⟨_,_,rfl⟩:=OwnS.shape hP25
  have hO25:=OIs.mk hP25
  refine⟨_,Z,?_⟩
  refine q4 H hd3 (RD_t 12 Z kR Z (fun _ hK=>v_build bf27 Z Z) (r1 14 Z (xst 1 H Z8 ?_)));intro _ H
  refine R_nil (N_DKlast kR kR (N_K (W_seq (q2 (pe 2 Z (fA 4 Z (lB 4 H Z3 (lN Z (mV Z (q3 (W_block ?_)))))))))))
  have H:=H.addNil 107 2
  have H:=H.addF
  obtain⟨ln28,hln28,H⟩:=H.nameAt (k:=3) (off:=2) rfl rfl
  obtain⟨ln29,hln29,H⟩:=H.name (k:=5) rfl
  obtain⟨ln30,hln30,H⟩:=H.name (k:=6) rfl
  refine W_lp (hf:=(Sub.cons (t:=2) Z (Sub.cons (t:=3) Z (Sub.cons (t:=29) Z (Sub.cons (t:=30) Z Sub.nil))))) (J:=fun M w m=>∃(v:Value) (n:Nat) (cs:List Value) (xs:List (BSnap)) (F:Fr) (k:Nat) (G:PH),M=[(31,.int .i64 (k:Int))]∧PLe G0 G∧Hp w0 G0 (fps [blk db (cl [.int .i32 0,.int .u32 0,.map (some mb),.pointer (some ⟨T.b,0,none⟩),.slice adv sn.length cdv] 133),blk mb (.map es ck),frag FT,acc 199 2 (.slice adv sn.length cdv) sn.length c,frag FSq]) w G [frag F,acc 107 2 v n cs,frag F25,blk b24 (cl (setN ln28 2 v) 27),frag F4,blk b1 (cl ln29 27),blk db (cl ln30 133),blk mb (.map es ck),frag FT,acc 199 2 (.slice adv sn.length cdv) sn.length c,frag FSq]∧(ChkF snapO 2 cs xs F∧n=xs.length∧k≤sn.length∧xs=(sn.take k).map (fun x=>(⟨x.1,x.2.flat []⟩:BSnap)))∧m=(sn.length-k)) (h0:=⟨_,_,_,[],[],0,_,Z,PLe.refl _,H,?inv,Z⟩) (round:=?round)
  case inv=>exact⟨ChkF.nil,by first|rfl|simp|(simp;omega)|omega,(by simp)⟩
  case round =>
   rintro _ _ _ ⟨v,n,cs,xs,F,k,G31,rfl,hle31,H,hinv31,rfl⟩
   subst hln28
   subst hln29
   subst hln30
   have hchk:=hchk.up hle31
   have hNs:=hNs.up hle31
   obtain⟨hchk31_0,_,hinv31⟩:=hinv31
   obtain⟨_,_,rfl⟩:=H.accShape (k:=1) rfl
   obtain⟨hk,hxs⟩:=hinv31;have hxl6:xs.length≤6:=by (rw[hxs];simp;omega)
   refine q2 (pe 1 Z (q3 (W_seq ?_)))
   refine W_cond Z ?_ ?_
   ·intro hc32
    try simp only[nrm]at hc32
    refine W_skip (N_K (W_seq (W_block (q2 (o_index_A 9 H k Z hchk underlying131 sizeOf199 Z Z Z Z aN aN ?_)))));intro _ z33 _ hba33 hz33 hE33 hg33;cases hba33
    obtain⟨rfl,hi33⟩:=hE33;have hy_hi33:_≤16777216:=hi33
    refine o_loadagg_A 9 H isAgg199 sizeOf199 Z Z Z hg33 Z (xal H Z ?_);intro _ _ _ H
    refine xst 0 H Z8 ?_;intro _ H
    refine q3 (W_drawK [0,4,6,7] 12 H kR Z ?_);intro _ H;have hd36:=PLe.refl G31
    refine dF 0 2 Z2 (dB 1 1 Z4 (dF 2 0 Z2 (dB 3 0 Z4 (dF 4 1 Z2 (dB 5 0 Z4 (r1 6 Z ?_))))))
    refine xc Z2 (i_tlist_c _ _ (H.lendSubL [11]) _ (H.lendNs (k:=11) (ks:=[11]) Z Z hNs z33.2 (List.mem_map_of_mem (List.mem_of_getElem? hz33))) (sn_ok hSn _ (List.mem_map_of_mem (List.mem_of_getElem? hz33))).1 (by have:=(sn_ok hSn _ (List.mem_map_of_mem (List.mem_of_getElem? hz33))).2;omega)) ?_
    rintro _ _ ⟨_,_,rfl,H37',⟨F37,rfl,hO37⟩⟩
    have H:=H.readersL H37'
    obtain⟨_,hP37⟩:=hO37
    obtain⟨_,_,rfl⟩:=OwnS.shape hP37
    have hO37:=OIs.mk hP37
    refine⟨_,Z,?_⟩
    refine q4 H hd36 (RD_t 7 Z kR Z (fun _ hK=>v_build bf107 Z Z) (r1 8 Z (xbs H Z7 ?_)));intro _ _ _ H
    refine q4 H hd36 (r1 9 Z (o_append1 3 H (sz:=2) (bytes:=40) underlying25 typeInfo107 ⟨_,Z,Z⟩ Z Z Z Z Z Z Z Z Z Z oM Z ?_));intro _ _ H
    have hchk39:=hchk31_0.snoc (show snapO F37 ⟨z33.1,z33.2.flat []⟩ _ from⟨_,_,_,rfl,hi33,hO37⟩) rfl
    have H:=H.tF 2
    have H:=H.mergeF
    obtain⟨_,_,rfl⟩:=H.accShape (k:=2) rfl
    refine q4 H hd36 (dF 10 2 Z2 (r1 11 Z (xst 4 H Z8 ?_)));intro _ H
    refine R_nil (N_DKlast kR kR (N_B (N_K (W_region (aD Z2 (mV Z (R_nil ?_)))))))
    have H:=H.dl 1
    refine N_lp (hJ:=⟨_,_,_,(xs++[⟨z33.1,z33.2.flat []⟩]),(F++F37),k+1,_,Z,hle31,H,?inv,Z⟩) (hm:=?hm)
    case hm=>omega
    case inv=>exact⟨hchk39,aN,(by exact⟨by omega,by (rw[Sp.take_succ' hz33,List.map_append,←hxs];rfl)⟩)⟩
   intro hc32'
   try simp only[nrm]at hc32'
   refine W_exit (N_K_exit (N_LP_exit (N_B_same (N_K (q2 (lA 3 3 H Z4 (xst 5 H Z8 ?_)))))));intro _ H
   refine q3 (W_ret (ret_unlock 6 H muLib Z call141 Z Z (rs:=[.cell 2 27]) results114 ?_));intro _ H
   refine⟨[_],⟨⟨_,Z,load_blk 5 H isAgg27 sizeOf27 Z Z Z⟩,trivial⟩,?_⟩
   have H:=H.tF 1
   obtain⟨_,H,hOw6⟩:=H.ownF hchk31_0 aN aN
   have H:=H.dl 2
   have H:=H.dl 3
   have H:=H.dl 3
   have H:=H.dl 3
   have H:=H.dl 3
   have H:=H.dl 3
   have H:=H.dl 3
   have H:=H.tF 1
   have H:=H.tF 2
   have hxs2:xs=d.snaps:=by (rw[hxs,List.take_of_length_le oM];exact sn_list hSn)
   exact H.retM ⟨_,_,_,_,_,_,rfl,rfl,hO4,(by (rw[←hT.flat]);exact hO25),(by have h9:=(show OSn _ _ _ from⟨_,hOw6⟩);(rw[hxs2]at h9);exact h9)⟩
 skip
 refine xal H Z ?_;intro b43 _ _ H
 refine q4 H hd3 (r1 5 Z (xc Z2 (i_slist_c _ _ (H.lendSubL [3]) _ _ _ _ _ (H.lendPredL (k:=3) (ks:=[3]) Z Z) hm (hS.up (PPlus.le _ _ _)) hVd) ?_))
 rintro _ _ ⟨_,_,rfl,H44',⟨F44,rfl,hO44⟩⟩
 have H:=H.readersL H44'
 obtain⟨_,hP44⟩:=hO44
 obtain⟨_,_,rfl⟩:=OwnS.shape hP44
 have hO44:=OHs.mk hP44
 refine⟨_,Z,?_⟩
 refine q4 H hd3 (r1 11 Z (xc Z2 (i_tlist_c _ _ (H.lendSubL [5]) _ ((H.lendN (k:=5) (ks:=[5]) Z Z hN).at (show Nd.at_ T []=some T from Z)) hT.wf oM) ?_))
 rintro _ _ ⟨_,_,rfl,H45',⟨F45,rfl,hO45⟩⟩
 have H:=H.readersL H45'
 obtain⟨_,hP45⟩:=hO45
 obtain⟨_,_,rfl⟩:=OwnS.shape hP45
 have hO45:=OIs.mk hP45
 refine⟨_,Z,?_⟩
 refine q4 H hd3 (RD_t 12 Z kR Z (fun _ hK=>v_build bf27 Z Z) (r1 14 Z (xst 2 H Z8 ?_)));intro _ H
 refine R_nil (N_DKlast kR kR (N_K (W_seq (q2 (pe 2 Z (fA 4 Z (lB 4 H Z3 (lN Z (mV Z (q3 (W_block ?_)))))))))))
 have H:=H.addNil 107 2
 have H:=H.addF
 obtain⟨ln48,hln48,H⟩:=H.nameAt (k:=4) (off:=2) rfl rfl
 obtain⟨ln49,hln49,H⟩:=H.name (k:=5) rfl
 obtain⟨ln50,hln50,H⟩:=H.name (k:=6) rfl
 refine W_lp (hf:=(Sub.cons (t:=2) Z (Sub.cons (t:=3) Z (Sub.cons (t:=29) Z (Sub.cons (t:=30) Z Sub.nil))))) (J:=fun M w m=>∃(v:Value) (n:Nat) (cs:List Value) (xs:List (BSnap)) (F:Fr) (k:Nat) (G:PH),M=[(31,.int .i64 (k:Int))]∧PLe G0 G∧Hp w0 G0 (fps [blk db (cl [.int .i32 0,.int .u32 0,.map (some mb),.pointer (some ⟨T.b,0,none⟩),.slice adv sn.length cdv] 133),blk mb (.map es ck),frag FT,acc 199 2 (.slice adv sn.length cdv) sn.length c,frag FSq]) w G [frag F,acc 107 2 v n cs,frag F45,frag F44,blk b43 (cl (setN ln48 2 v) 27),blk b1 (cl ln49 27),blk db (cl ln50 133),blk mb (.map es ck),frag FT,acc 199 2 (.slice adv sn.length cdv) sn.length c,frag FSq]∧(ChkF snapO 2 cs xs F∧n=xs.length∧k≤sn.length∧xs=(sn.take k).map (fun x=>(⟨x.1,x.2.flat []⟩:BSnap)))∧m=(sn.length-k)) (h0:=⟨_,_,_,[],[],0,_,Z,PLe.refl _,H,?inv,Z⟩) (round:=?round)
 case inv=>exact⟨ChkF.nil,by first|rfl|simp|(simp;omega)|omega,(by simp)⟩
 case round =>
  rintro _ _ _ ⟨v,n,cs,xs,F,k,G51,rfl,hle51,H,hinv51,rfl⟩
  subst hln48
  subst hln49
  subst hln50
  have hchk:=hchk.up hle51
  have hNs:=hNs.up hle51
  obtain⟨hchk51_0,_,hinv51⟩:=hinv51
  obtain⟨_,_,rfl⟩:=H.accShape (k:=1) rfl
  obtain⟨hk,hxs⟩:=hinv51;have hxl6:xs.length≤6:=by (rw[hxs];simp;omega)
  refine q2 (pe 1 Z (q3 (W_seq ?_)))
  refine W_cond Z ?_ ?_
  ·intro hc52
   try simp only[nrm]at hc52
   refine W_skip (N_K (W_seq (W_block (q2 (o_index_A 9 H k Z hchk underlying131 sizeOf199 Z Z Z Z aN aN ?_)))));intro _ z53 _ hba53 hz53 hE53 hg53;cases hba53
   obtain⟨rfl,hi53⟩:=hE53;have hy_hi53:_≤16777216:=hi53
   refine o_loadagg_A 9 H isAgg199 sizeOf199 Z Z Z hg53 Z (xal H Z ?_);intro _ _ _ H
   refine xst 0 H Z8 ?_;intro _ H
   refine q3 (W_drawK [0,5,6,7] 12 H kR Z ?_);intro _ H;have hd56:=PLe.refl G51
   refine dF 0 2 Z2 (dB 1 1 Z4 (dF 2 0 Z2 (dB 3 0 Z4 (dF 4 1 Z2 (dB 5 0 Z4 (r1 6 Z ?_))))))
   refine xc Z2 (i_tlist_c _ _ (H.lendSubL [11]) _ (H.lendNs (k:=11) (ks:=[11]) Z Z hNs z53.2 (List.mem_map_of_mem (List.mem_of_getElem? hz53))) (sn_ok hSn _ (List.mem_map_of_mem (List.mem_of_getElem? hz53))).1 (by have:=(sn_ok hSn _ (List.mem_map_of_mem (List.mem_of_getElem? hz53))).2;omega)) ?_
   rintro _ _ ⟨_,_,rfl,H57',⟨F57,rfl,hO57⟩⟩
   have H:=H.readersL H57'
   obtain⟨_,hP57⟩:=hO57
   obtain⟨_,_,rfl⟩:=OwnS.shape hP57
   have hO57:=OIs.mk hP57
   refine⟨_,Z,?_⟩
   refine q4 H hd56 (RD_t 7 Z kR Z (fun _ hK=>v_build bf107 Z Z) (r1 8 Z (xbs H Z7 ?_)));intro _ _ _ H
   refine q4 H hd56 (r1 9 Z (o_append1 3 H (sz:=2) (bytes:=40) underlying25 typeInfo107 ⟨_,Z,Z⟩ Z Z Z Z Z Z Z Z Z Z oM Z ?_));intro _ _ H
   have hchk59:=hchk51_0.snoc (show snapO F57 ⟨z53.1,z53.2.flat []⟩ _ from⟨_,_,_,rfl,hi53,hO57⟩) rfl
   have H:=H.tF 2
   have H:=H.mergeF
   obtain⟨_,_,rfl⟩:=H.accShape (k:=2) rfl
   refine q4 H hd56 (dF 10 2 Z2 (r1 11 Z (xst 5 H Z8 ?_)));intro _ H
   refine R_nil (N_DKlast kR kR (N_B (N_K (W_region (aD Z2 (mV Z (R_nil ?_)))))))
   have H:=H.dl 1
   refine N_lp (hJ:=⟨_,_,_,(xs++[⟨z53.1,z53.2.flat []⟩]),(F++F57),k+1,_,Z,hle51,H,?inv,Z⟩) (hm:=?hm)
   case hm=>omega
   case inv=>exact⟨hchk59,aN,(by exact⟨by omega,by (rw[Sp.take_succ' hz53,List.map_append,←hxs];rfl)⟩)⟩
  intro hc52'
  try simp only[nrm]at hc52'
  refine W_exit (N_K_exit (N_LP_exit (N_B_same (N_K (q2 (lA 4 3 H Z4 (xst 5 H Z8 ?_)))))));intro _ H
  refine q3 (W_ret (ret_unlock 6 H muLib Z call141 Z Z (rs:=[.cell 2 27]) results114 ?_));intro _ H
  refine⟨[_],⟨⟨_,Z,load_blk 5 H isAgg27 sizeOf27 Z Z Z⟩,trivial⟩,?_⟩
  have H:=H.tF 1
  obtain⟨_,H,hOw9⟩:=H.ownF hchk51_0 aN aN
  have H:=H.dl 3
  have H:=H.dl 3
  have H:=H.dl 3
  have H:=H.dl 3
  have H:=H.dl 3
  have H:=H.dl 3
  have H:=H.dl 3
  have H:=H.tF 1
  have H:=H.tF 2
  have hxs2:xs=d.snaps:=by (rw[hxs,List.take_of_length_le oM];exact sn_list hSn)
  exact H.retM ⟨_,_,_,_,_,_,rfl,rfl,hO44,(by (rw[←hT.flat]);exact hO45),(by have h9:=(show OSn _ _ _ from⟨_,hOw9⟩);(rw[hxs2]at h9);exact h9)⟩
theorem i_clone_r:∀(N:Nat) (w0:World) (G0:PH) (hG:PSub G0 w0) (t:Nd) (hndt:RdN G0 t) (hct:t.cnt≤1000) (hsz:t.size≤N),
  Calls Tryz.prog 144 #[.pointer (some ⟨t.b,0,none⟩)] w0 (RetN w0 G0 (fun v Bs=>∃(F:Fr) (T:Nd),v= .pointer (some ⟨T.b,0,none⟩)∧Bs=[frag F]∧NdC 138 119 T F∧T.strip=t.strip)):=by
 intro N
 induction N with
 | zero=>intro w0 G0 hG t hndt hct hsz;exact absurd (Nd.size_pos t) oM
 | succ N ih =>
 intro w0 G0 hG t hndt hct hsz
 obtain⟨hnlt,_,_,_,_,_,_,hprt,hrit,hrkt⟩:=hndt.open
 have hn_hrit:=hrit.len;have hx_hrit:_≤1099511627776:=hrit.lim
 have hn_hrkt:=hrkt.len;have hx_hrkt:_≤1099511627776:=hrkt.lim
 have H:=Hp.init hG
 refine calls_of_W (l:=[.pointer (some ⟨t.b,0,none⟩)]) func144 Z ntmps144 Z (q2 (aG Z (q3 (W_seq (W_drawK [] 16 H kR Z ?_)))));intro _ H;have hd1:=PLe.refl G0
 refine dE 0 Z2 (dE 1 Z2 (dF 2 0 Z2 (dP 3 hprt 0 Z3 (dE 4 Z2 (dE 5 Z2 (dF 6 1 Z2 (dP 7 hprt 1 Z3 (dE 8 Z2 (dE 9 Z2 (dF 10 2 Z2 (dP 11 hprt 2 Z3 (r1 12 Z (xc Z2 (l_Clone_c _ _ H.sub _ _ hrit) ?_)))))))))))))
 rintro _ _ ⟨G2,_,_,g2,rfl,⟨_,rfl,hchk2⟩,hp2,hq2,hs2⟩
 have H:=H.growO g2 hp2 hq2 hs2;obtain⟨_,_,rfl⟩:=H.accShape (k:=0) rfl
 have hprt:=hprt.up g2.le
 have hrkt:=hrkt.up g2.le
 have hd1:=hd1.trans g2.le
 refine⟨_,Z,?_⟩
 refine q4 H hd1 (RD_t 13 Z kR Z (fun _ hK=>v_build bf138 Z Z) (r1 14 Z (o_box H Z Z Z ?_)));intro b3 _ _ H
 refine q4 H hd1 (dE 15 Z2 (rz (N_K (W_seq (q2 (pe 2 Z (fA 3 Z (lP H hprt 3 Z2 (lN Z (mV Z (q3 (W_block ?_))))))))))))
 obtain⟨Fi1,H,hOI1⟩:=H.ownI (k:=1) rfl hchk2 aN aN
 have hOIc:=hOI1
 have H:=H.addF
 have H:=H.addNil 119 1
 obtain⟨ln5,hln5,H⟩:=H.nameAt (k:=3) (off:=3) rfl rfl
 refine W_lp (hf:=(Sub.cons (t:=2) Z (Sub.cons (t:=3) Z (Sub.cons (t:=24) Z (Sub.cons (t:=25) Z Sub.nil))))) (J:=fun M w m=>∃(v:Value) (n:Nat) (cs:List Value) (xs:List (Nd)) (k:Nat) (FK:Fr) (G:PH),M=[(26,.int .i64 (k:Int))]∧PLe G2 G∧Hp w0 G0 [] w G [acc 119 1 v n cs,frag FK,frag Fi1,blk b3 (cl (setN ln5 3 v) 138)]∧(Chk kdE 1 G cs xs∧n=xs.length∧k≤t.kids.length∧NdsC 138 119 xs FK∧xs.map Nd.strip=(t.kids.take k).map Nd.strip)∧m=(t.kids.length-k)) (h0:=⟨_,_,_,[],0,[],_,Z,PLe.refl _,H,?inv,Z⟩) (round:=?round)
 case inv=>exact⟨(Chk.nil (E:=kdE) (sz:=1) (G:=G2)),by first|rfl|simp|(simp;omega)|omega,(by simp[NdsC])⟩
 case round =>
  rintro _ _ _ ⟨v,n,cs,xs,k,FK,G6,rfl,hle6,H,hinv6,rfl⟩
  subst hln5
  have hrkt:=hrkt.up hle6
  obtain⟨hchk6_0,_,hinv6⟩:=hinv6
  obtain⟨_,_,rfl⟩:=H.accShape (k:=0) rfl
  obtain⟨_,hKs,hst0⟩:=hinv6;have hxl0:=congrArg List.length hst0;simp at hxl0;have hkl0:=Nd.kids_le t
  refine q2 (pe 1 Z (q3 (W_seq ?_)))
  refine W_cond Z ?_ ?_
  ·intro hc7
   try simp only[nrm]at hc7
   refine W_skip (N_K (W_seq (W_block (q2 (iP k hrkt Z3 Z ?_)))));intro _ _ _ _ hz8 hE8 hrow8
   obtain⟨rfl,hnd8⟩:=hE8;obtain⟨_,_,_,_,_,_,_,_,hri8,hrk8⟩:=hnd8.open;have hn_hri8:=hri8.len;have hx_hri8:_≤1099511627776:=hri8.lim;have hn_hrk8:=hrk8.len;have hx_hrk8:_≤1099511627776:=hrk8.lim
   have hzm:=List.mem_of_getElem? hz8;have hzc:=Nd.kid_cnt hzm;have hzs:=Nd.size_kid hzm
   refine lP H hrow8 0 Z2 (aG Z (q3 (W_drawK [] 12 H kR Z ?_)));intro _ H;have hd9:=PLe.refl G6
   refine dE 0 Z2 (dE 1 Z2 (dE 2 Z2 (dF 3 3 Z2 (dE 5 Z2 ?_))))
   refine r2 4 6 Z2 ?_ ?_
   ·skip
    refine lB 3 H Z3 (q4 H hd9 (r1 6 Z (xc Z2 (ih _ _ H.sub _ hnd8 oM oM) ?_)))
    rintro _ _ ⟨_,_,rfl,H10',⟨F10,T10,rfl,rfl,hNC10,hst10⟩⟩
    have H:=H.readers (fp:=[]) (by simp) (PLe.refl _) H10'
    refine⟨_,Z,?_⟩
    refine q4 H hd9 (r1 7 Z (xbs H Z7 ?_));intro _ _ _ H
    refine q4 H hd9 (r1 8 Z (o_append1 1 H (sz:=1) (bytes:=8) underlying136 typeInfo119 ⟨_,Z,Z⟩ Z Z Z Z Z Z Z Z Z Z oM Z ?_));intro _ _ H
    have hchk12:=hchk6_0.snoc (show kdE _ T10 _ from rfl) rfl
    obtain⟨_,_,rfl⟩:=H.accShape (k:=1) rfl
    refine q4 H hd9 (dE 9 Z2 (dF 10 3 Z2 (r1 11 Z ?_)))
    have H:=H.tF 2
    have H:=H.mergeF
    refine xst 3 H Z8 ?_;intro _ H
    refine q4 H hd9 (rz (N_B (N_K (W_region (aD Z2 (mV Z (R_nil ?_)))))))
    have H:=H.tF 3
    have H:=H.tF 3
    have H:=H.tF 2
    have H:=H.tF 3
    refine N_lp (hJ:=⟨_,_,_,(xs++[T10]),k+1,(FK++F10),_,Z,hle6,H,?inv,Z⟩) (hm:=?hm)
    case hm=>omega
    case inv=>exact⟨hchk12,aN,(by exact⟨by omega,hKs.snoc hNC10,Nd.strip_take hz8 hst0 hst10⟩)⟩
   skip
   refine xc Z2 (ih _ _ H.sub _ hnd8 oM oM) ?_
   rintro _ _ ⟨_,_,rfl,H15',⟨F15,T15,rfl,rfl,hNC15,hst15⟩⟩
   have H:=H.readers (fp:=[]) (by simp) (PLe.refl _) H15'
   refine⟨_,Z,?_⟩
   refine q4 H hd9 ?_
   refine r2 4 7 Z2 ?_ ?_
   ·skip
    refine lB 4 H Z3 (q4 H hd9 (r1 7 Z (xbs H Z7 ?_)));intro _ _ _ H
    refine q4 H hd9 (r1 8 Z (o_append1 1 H (sz:=1) (bytes:=8) underlying136 typeInfo119 ⟨_,Z,Z⟩ Z Z Z Z Z Z Z Z Z Z oM Z ?_));intro _ _ H
    have hchk17:=hchk6_0.snoc (show kdE _ T15 _ from rfl) rfl
    obtain⟨_,_,rfl⟩:=H.accShape (k:=1) rfl
    refine q4 H hd9 (dE 9 Z2 (dF 10 3 Z2 (r1 11 Z ?_)))
    have H:=H.tF 2
    have H:=H.mergeF
    refine xst 3 H Z8 ?_;intro _ H
    refine q4 H hd9 (rz (N_B (N_K (W_region (aD Z2 (mV Z (R_nil ?_)))))))
    have H:=H.tF 3
    have H:=H.tF 3
    have H:=H.tF 2
    have H:=H.tF 3
    refine N_lp (hJ:=⟨_,_,_,(xs++[T15]),k+1,(FK++F15),_,Z,hle6,H,?inv,Z⟩) (hm:=?hm)
    case hm=>omega
    case inv=>exact⟨hchk17,aN,(by exact⟨by omega,hKs.snoc hNC15,Nd.strip_take hz8 hst0 hst15⟩)⟩
   skip
   refine xbs H Z7 ?_;intro _ _ _ H
   refine q4 H hd9 (r1 4 Z (lB 5 H Z3 (q4 H hd9 (r1 8 Z (o_append1 1 H (sz:=1) (bytes:=8) underlying136 typeInfo119 ⟨_,Z,Z⟩ Z Z Z Z Z Z Z Z Z Z oM Z ?_)))));intro _ _ H
   have hchk21:=hchk6_0.snoc (show kdE _ T15 _ from rfl) rfl
   obtain⟨_,_,rfl⟩:=H.accShape (k:=1) rfl
   refine q4 H hd9 (dE 9 Z2 (dF 10 3 Z2 (r1 11 Z ?_)))
   have H:=H.tF 2
   have H:=H.mergeF
   refine xst 3 H Z8 ?_;intro _ H
   refine q4 H hd9 (rz (N_B (N_K (W_region (aD Z2 (mV Z (R_nil ?_)))))))
   have H:=H.tF 3
   have H:=H.tF 3
   have H:=H.tF 2
   have H:=H.tF 3
   refine N_lp (hJ:=⟨_,_,_,(xs++[T15]),k+1,(FK++F15),_,Z,hle6,H,?inv,Z⟩) (hm:=?hm)
   case hm=>omega
   case inv=>exact⟨hchk21,aN,(by exact⟨by omega,hKs.snoc hNC15,Nd.strip_take hz8 hst0 hst15⟩)⟩
  intro hc7'
  try simp only[nrm]at hc7'
  refine W_exit (N_K_exit (N_LP_exit (N_B_same (N_K (q2 (pe 2 Z (q3 (W_ret (rt1 results144 Z ?_)))))))))
  have H:=H.tF 2
  have H:=H.tF 3
  have H:=H.tF 3
  have H:=H.tF 3
  have hst:xs.map Nd.strip=t.kids.map Nd.strip:=by (have h9:=hst0;rw[List.take_of_length_le oM]at h9;exact h9)
  have hxl:=Nd.strip_len hst;have hkl:=Nd.kids_le t
  obtain rfl:n=xs.length:=by assumption
  obtain⟨FT,H,hNC⟩:=Hp.makeC (ks:=xs) (by (have hcc:=hchk6_0.kd;rw[hcc]at H;exact H)) hnlt oM hOIc hKs
  have H:=H.forget hG (by simp)
  exact⟨_,_,Z,H,FT,_,Z,Z,hNC,Nd.strip_mk hst⟩
theorem i_clone_c (w0:World)(G0:PH)(hG:PSub G0 w0)(t:Nd)(hndt:RdN G0 t)(hct:t.cnt≤1000) :
  Calls Tryz.prog 144 #[.pointer (some ⟨t.b,0,none⟩)] w0 (RetN w0 G0 (fun v Bs=>∃(F:Fr) (T:Nd),v= .pointer (some ⟨T.b,0,none⟩)∧Bs=[frag F]∧NdC 138 119 T F∧T.strip=t.strip)):=i_clone_r _ w0 G0 hG t hndt hct (Nat.le_refl _)
theorem i_take_c (w0:World)(G0:PH)(hG:PSub G0 w0)(db mb:Nat)(es:Array MapEntry)(ck:Nat)(xs:List (Int×Value))(T:Nd)(FT:Fr)(sv:Value)(sn:List (Bs×Nd))(c:List Value)(FSq:Fr)(d:BDisk)(hm:MapIs (Value.int .i64) es ck xs)(hS:StR G0 xs d.store)(hN:NdO 138 119 G0 T FT)(hT:Nd.TOK T d.tree)(hchk:Chk osE 2 G0 c sn)(hNs:NdsO 138 119 G0 (sn.map (·.2)) FSq)(hSn:SnOK sn d.snaps)(hdv:Sp.DiskValid d=true)(name:Bs)(hname:name.length≤16777216)(hLent:Lent w0 G0 [blk db (cl [.int .i32 0,.int .u32 0,.map (some mb),.pointer (some ⟨T.b,0,none⟩),sv] 133),blk mb (.map es ck),frag FT,acc 199 2 sv sn.length c,frag FSq]) :
  Calls Tryz.prog 62 #[.pointer (some ⟨db,0,none⟩),str name] w0 (RetM w0 G0 (fps [blk db (cl [.int .i32 0,.int .u32 0,.map (some mb),.pointer (some ⟨T.b,0,none⟩),sv] 133),blk mb (.map es ck),frag FT,acc 199 2 sv sn.length c,frag FSq]) (fun G' v Bs=>∃(es':Array MapEntry) (ck':Nat) (xs':List (Int×Value)) (F':Fr) (sv':Value) (sn':List (Fw.Bs×Nd)) (c':List Value) (FSq':Fr) (L':List BHeld),v= .bool (Sp.SnapTake d name).isSome∧Bs=[blk db (cl [.int .i32 0,.int .u32 0,.map (some mb),.pointer (some ⟨T.b,0,none⟩),sv'] 133),blk mb (.map es' ck'),frag F',acc 199 2 sv' sn'.length c',frag FSq']∧MapIs (Value.int .i64) es' ck' xs'∧StR G' xs' L'∧Sp.VH L'∧NdO 138 119 G' T F'∧Chk osE 2 G' c' sn'∧NdsO 138 119 G' (sn'.map (·.2)) FSq'∧∀d',Sp.SnapTake d name=some d'→L'=d'.store∧d'.tree=d.tree∧SnOK sn' d'.snaps)):=by
 have H:Hp w0 G0 (fps [blk db (cl [.int .i32 0,.int .u32 0,.map (some mb),.pointer (some ⟨T.b,0,none⟩),sv] 133),blk mb (.map es ck),frag FT,acc 199 2 sv sn.length c,frag FSq]) w0 G0 [blk db (cl [.int .i32 0,.int .u32 0,.map (some mb),.pointer (some ⟨T.b,0,none⟩),sv] 133),blk mb (.map es ck),frag FT,acc 199 2 sv sn.length c,frag FSq]:=hLent.hp
 obtain⟨_,_,rfl⟩:=H.accShape (k:=3) rfl;have hVd:=Sp.valid_iff.1 (Sp.dv_parts.1 hdv).1;have hTv:=(Sp.dv_parts.1 hdv).2.1;have hTc:=hT.cnt;have hTl:=Sp.tree_len hTv;have hsnl:=hSn.len;have hsn6:=(Sp.dv_parts.1 hdv).2.2.1
 refine calls_of_WD (l:=[.pointer (some ⟨db,0,none⟩),str name]) func62 Z ntmps62 Z (q2 (aG Z (q1 (pe 2 Z (fA 0 Z (o_lock 0 H muLib Z call140 Z Z Z Z ?_))))));intro _ H
 refine q1 (pe 2 Z (fA 0 Z (o_defer Z (q3 (W_seq (q2 (mV Z (xr H Z2 (i_partValid_c _ _ hname) ?_))))))));intro _ H
 refine pe 2 Z ?_
 refine R_case (t:=15) Z ?_ ?_
 ·intro hc3
  try simp only[nrm]at hc3
  refine pe 13 Z (q3 (W_true Z (q2 (aG Z (q3 (W_ret (N_K_ret (ret_unlock 0 H muLib Z call141 Z Z (rs:=[.tmp 4]) results62 ?_))))))));intro _ H
  refine⟨[_],⟨Z,trivial⟩,?_⟩
  have H:=H.tF 4
  have H:=H.tF 4
  have H:=H.tF 4
  have H:=H.tF 4
  have H:=H.tF 4
  have hno:Sp.SnapTake d name=none:=take_no (fun hh=>by have:=hh.1;simp_all)
  exact H.retM ⟨_,_,_,_,_,sn,_,_,d.store,by (rw[hno];rfl),rfl,hm,hS,hVd,hN,hchk,hNs,fun d2 h=>by rw[hno]at h;cases h⟩
 intro hc3'
 try simp only[nrm]at hc3'
 refine pe 2 Z (gR Z (xr H Z2 (i_snapAt_c _ _ (H.lendSubL [0,3]) _ _ _ _ _ _ _ (prow_blk (H.lendPredL (k:=0) (ks:=[0,3]) Z Z)) (H.lendRdL (k:=3) (ks:=[0,3]) Z Z hchk aN aN) _ hname) ?_));intro _ H
 refine pe 3 Z ?_
 refine R_case (t:=21) Z ?_ ?_
 ·intro hc5
  try simp only[nrm]at hc5
  refine pe 7 Z (q3 (W_true Z (q2 (aG Z (q3 (W_ret (N_K_ret (ret_unlock 0 H muLib Z call141 Z Z (rs:=[.tmp 4]) results62 ?_))))))));intro _ H
  refine⟨[_],⟨Z,trivial⟩,?_⟩
  have H:=H.tF 4
  have H:=H.tF 4
  have H:=H.tF 4
  have H:=H.tF 4
  have H:=H.tF 4
  have hno:Sp.SnapTake d name=none:=take_no (fun hh=>by have h8:=hh.2.1;(rw[←Sp.sn_find hSn,←optI_neg]at h8);omega)
  exact H.retM ⟨_,_,_,_,_,sn,_,_,d.store,by (rw[hno];rfl),rfl,hm,hS,hVd,hN,hchk,hNs,fun d2 h=>by rw[hno]at h;cases h⟩
 intro hc5'
 try simp only[nrm]at hc5'
 refine pe 2 Z (gR Z (fA 4 Z (gR Z (lB 0 H Z3 (gR Z (lN Z (pe 2 Z (q3 ?_))))))))
 refine W_cond Z ?_ ?_
 ·intro hc6
  try simp only[nrm]at hc6
  refine q2 (aG Z (q3 (W_ret (N_K_ret (ret_unlock 0 H muLib Z call141 Z Z (rs:=[.tmp 4]) results62 ?_)))));intro _ H
  refine⟨[_],⟨Z,trivial⟩,?_⟩
  have H:=H.tF 4
  have H:=H.tF 4
  have H:=H.tF 4
  have H:=H.tF 4
  have H:=H.tF 4
  have hno:Sp.SnapTake d name=none:=take_no (fun hh=>by have:=hh.2.2;omega)
  exact H.retM ⟨_,_,_,_,_,sn,_,_,d.store,by (rw[hno];rfl),rfl,hm,hS,hVd,hN,hchk,hNs,fun d2 h=>by rw[hno]at h;cases h⟩
 intro hc6'
 try simp only[nrm]at hc6'
 refine W_skip (N_K (W_seq (W_drawK [] 18 H kR Z ?_)));intro _ H;have hd7:=PLe.refl G0
 refine dE 0 Z2 (dE 1 Z2 (dE 2 Z2 (dF 3 4 Z2 (dE 5 Z2 (dE 6 Z2 (dE 7 Z2 (dF 8 2 Z2 (dF 9 1 Z2 ?_))))))))
 refine r2 4 10 Z2 ?_ ?_
 ·skip
  refine lB 0 H Z3 (q4 H hd7 (r1 10 Z (lB 0 H Z3 (q4 H hd7 (r1 11 Z (xc Z2 (i_clone_c _ _ (H.lendSubL [2]) _ ((H.lendN (k:=2) (ks:=[2]) Z Z hN).at (show Nd.at_ T []=some T from Z)) oM) ?_))))))
  rintro _ _ ⟨_,_,rfl,H8',⟨_,T8,rfl,rfl,hNC8,hst8⟩⟩
  have H:=H.readersL H8'
  refine⟨_,Z,?_⟩
  obtain⟨Gs4,_,H,hsl4,hNc4⟩:=Hp.shareC H hNC8 (H.apart (k:=0) (ks:=[1,2,3,4,5]) rfl rfl (by intro b hb;simp only[fps,List.flatMap_cons,List.flatMap_nil,List.append_nil,List.mem_append]at hb;rcases hb with h|h|h|h|h;(· exact fpsAt_mem (k:=1) rfl rfl b (by exact h));(· exact fpsAt_mem (k:=2) rfl rfl b (by exact h));(· exact fpsAt_mem (k:=3) rfl rfl b (by exact h));(· exact fpsAt_mem (k:=4) rfl rfl b (by exact h));(· exact fpsAt_mem (k:=5) rfl rfl b (by exact h))))
  have hS:=hS.up hsl4
  have hN:=hN.up hsl4
  have hchk:=hchk.up hsl4
  have hNs:=hNs.up hsl4
  have hd7:=hd7.trans hsl4
  refine q4 H hd7 (RD_t 12 Z kR Z (fun _ hK=>v_build bf199 Z Z) (r1 13 Z (xbs H Z7 ?_)));intro _ _ _ H
  refine q4 H hd7 (r1 14 Z (o_append1 4 H (sz:=2) (bytes:=24) underlying131 typeInfo199 ⟨_,Z,Z⟩ Z Z Z Z Z Z Z Z Z Z oM Z ?_));intro _ _ H
  have hchk10:=hchk.snoc (show osE _ (name,T8) _ from⟨rfl,hname⟩) rfl
  obtain⟨_,_,rfl⟩:=H.accShape (k:=4) rfl
  refine q4 H hd7 (dE 15 Z2 (dF 16 4 Z2 (r1 17 Z ?_)))
  have H:=H.tF 5
  have H:=H.mergeF
  refine xst 1 H Z8 ?_;intro _ H
  refine q4 H hd7 (rz (N_K (W_seq (W_drawK [1] 12 H kR Z ?_))));intro _ H;have hd12:=PLe.refl Gs4
  refine dE 0 Z2 (dE 1 Z2 (dF 2 2 Z2 (dF 3 0 Z2 (dB 4 0 Z4 (dE 5 Z2 (dE 6 Z2 (dF 7 2 Z2 (dF 8 1 Z2 (dB 9 0 Z4 (r1 10 Z ?_))))))))))
  have H:=H.tF 3
  have H:=H.tF 3
  refine xc Z2 (i_keepTree_c _ _ H.sub _ _ _ _ _ hm hS hVd _ _ hN H.lent2 hT.wf oM) ?_
  rintro _ _ ⟨_,_,_,rfl,H13',⟨_,_,_,L13,rfl,rfl,hm13,hS13,hV13,hL13⟩⟩
  have hN:=hN.up H13'.le
  have hNs:=hNs.up H13'.le
  have hNc4:=hNc4.up H13'.le
  have hchk10:=hchk10.up H13'.le
  have hd12:=hd12.trans H13'.le
  have H:=H.borrow2 H13'
  refine⟨_,Z,?_⟩
  refine q4 H hd12 (dE 11 Z2 (rz (N_K (W_ret (ret_unlock 3 H muLib Z call141 Z Z (rs:=[.tmp 4]) results62 ?_)))));intro _ H
  refine⟨[_],⟨Z,trivial⟩,?_⟩
  have H:=H.tF 2
  have H:=H.tF 4
  have H:=H.tF 3
  have H:=H.tF 3
  have H:=H.tF 4
  have htk:=take_eq hdv (by simpa using hc3') (optI_neg.1 (by (rw[←Sp.sn_find hSn];omega))) (by omega:d.snaps.length≠6)
  have hfl:=hT.flat
  have hln:sn.length+1=(sn++[(name,T8)]).length:=by simp
  rw[hln]at H
  exact H.retM ⟨_,_,_,_,_,sn++[(name,T8)],_,_,L13,congrArg Value.bool (by (rw[htk,hfl,Option.isSome_map])),rfl,hm13,hS13,hV13,hN,hchk10,by (rw[List.map_append];exact hNs.snoc hNc4),fun d2 h=>(by (rw[htk]at h);obtain⟨s2,h2,rfl⟩:=Option.map_eq_some_iff.1 h;exact⟨hL13 s2 (by (rw[hfl];exact h2)),rfl,All2.push hSn rfl (hT.strip hst8) hTv⟩)⟩
 skip
 refine lB 0 H Z3 (q4 H hd7 ?_)
 refine r2 4 11 Z2 ?_ ?_
 ·skip
  refine lB 0 H Z3 (q4 H hd7 (r1 11 Z (xc Z2 (i_clone_c _ _ (H.lendSubL [2]) _ ((H.lendN (k:=2) (ks:=[2]) Z Z hN).at (show Nd.at_ T []=some T from Z)) oM) ?_)))
  rintro _ _ ⟨_,_,rfl,H14',⟨_,T14,rfl,rfl,hNC14,hst14⟩⟩
  have H:=H.readersL H14'
  refine⟨_,Z,?_⟩
  obtain⟨Gs6,_,H,hsl6,hNc6⟩:=Hp.shareC H hNC14 (H.apart (k:=0) (ks:=[1,2,3,4,5]) rfl rfl (by intro b hb;simp only[fps,List.flatMap_cons,List.flatMap_nil,List.append_nil,List.mem_append]at hb;rcases hb with h|h|h|h|h;(· exact fpsAt_mem (k:=1) rfl rfl b (by exact h));(· exact fpsAt_mem (k:=2) rfl rfl b (by exact h));(· exact fpsAt_mem (k:=3) rfl rfl b (by exact h));(· exact fpsAt_mem (k:=4) rfl rfl b (by exact h));(· exact fpsAt_mem (k:=5) rfl rfl b (by exact h))))
  have hS:=hS.up hsl6
  have hN:=hN.up hsl6
  have hchk:=hchk.up hsl6
  have hNs:=hNs.up hsl6
  have hd7:=hd7.trans hsl6
  refine q4 H hd7 (RD_t 12 Z kR Z (fun _ hK=>v_build bf199 Z Z) (r1 13 Z (xbs H Z7 ?_)));intro _ _ _ H
  refine q4 H hd7 (r1 14 Z (o_append1 4 H (sz:=2) (bytes:=24) underlying131 typeInfo199 ⟨_,Z,Z⟩ Z Z Z Z Z Z Z Z Z Z oM Z ?_));intro _ _ H
  have hchk16:=hchk.snoc (show osE _ (name,T14) _ from⟨rfl,hname⟩) rfl
  obtain⟨_,_,rfl⟩:=H.accShape (k:=4) rfl
  refine q4 H hd7 (dE 15 Z2 (dF 16 4 Z2 (r1 17 Z ?_)))
  have H:=H.tF 5
  have H:=H.mergeF
  refine xst 1 H Z8 ?_;intro _ H
  refine q4 H hd7 (rz (N_K (W_seq (W_drawK [1] 12 H kR Z ?_))));intro _ H;have hd18:=PLe.refl Gs6
  refine dE 0 Z2 (dE 1 Z2 (dF 2 2 Z2 (dF 3 0 Z2 (dB 4 0 Z4 (dE 5 Z2 (dE 6 Z2 (dF 7 2 Z2 (dF 8 1 Z2 (dB 9 0 Z4 (r1 10 Z ?_))))))))))
  have H:=H.tF 3
  have H:=H.tF 3
  refine xc Z2 (i_keepTree_c _ _ H.sub _ _ _ _ _ hm hS hVd _ _ hN H.lent2 hT.wf oM) ?_
  rintro _ _ ⟨_,_,_,rfl,H19',⟨_,_,_,L19,rfl,rfl,hm19,hS19,hV19,hL19⟩⟩
  have hN:=hN.up H19'.le
  have hNs:=hNs.up H19'.le
  have hNc6:=hNc6.up H19'.le
  have hchk16:=hchk16.up H19'.le
  have hd18:=hd18.trans H19'.le
  have H:=H.borrow2 H19'
  refine⟨_,Z,?_⟩
  refine q4 H hd18 (dE 11 Z2 (rz (N_K (W_ret (ret_unlock 3 H muLib Z call141 Z Z (rs:=[.tmp 4]) results62 ?_)))));intro _ H
  refine⟨[_],⟨Z,trivial⟩,?_⟩
  have H:=H.tF 2
  have H:=H.tF 4
  have H:=H.tF 3
  have H:=H.tF 3
  have H:=H.tF 4
  have htk:=take_eq hdv (by simpa using hc3') (optI_neg.1 (by (rw[←Sp.sn_find hSn];omega))) (by omega:d.snaps.length≠6)
  have hfl:=hT.flat
  have hln:sn.length+1=(sn++[(name,T14)]).length:=by simp
  rw[hln]at H
  exact H.retM ⟨_,_,_,_,_,sn++[(name,T14)],_,_,L19,congrArg Value.bool (by (rw[htk,hfl,Option.isSome_map])),rfl,hm19,hS19,hV19,hN,hchk16,by (rw[List.map_append];exact hNs.snoc hNc6),fun d2 h=>(by (rw[htk]at h);obtain⟨s2,h2,rfl⟩:=Option.map_eq_some_iff.1 h;exact⟨hL19 s2 (by (rw[hfl];exact h2)),rfl,All2.push hSn rfl (hT.strip hst14) hTv⟩)⟩
 skip
 refine xc Z2 (i_clone_c _ _ (H.lendSubL [2]) _ ((H.lendN (k:=2) (ks:=[2]) Z Z hN).at (show Nd.at_ T []=some T from Z)) oM) ?_
 rintro _ _ ⟨_,_,rfl,H20',⟨_,T20,rfl,rfl,hNC20,hst20⟩⟩
 have H:=H.readersL H20'
 refine⟨_,Z,?_⟩
 obtain⟨Gs8,_,H,hsl8,hNc8⟩:=Hp.shareC H hNC20 (H.apart (k:=0) (ks:=[1,2,3,4,5]) rfl rfl (by intro b hb;simp only[fps,List.flatMap_cons,List.flatMap_nil,List.append_nil,List.mem_append]at hb;rcases hb with h|h|h|h|h;(· exact fpsAt_mem (k:=1) rfl rfl b (by exact h));(· exact fpsAt_mem (k:=2) rfl rfl b (by exact h));(· exact fpsAt_mem (k:=3) rfl rfl b (by exact h));(· exact fpsAt_mem (k:=4) rfl rfl b (by exact h));(· exact fpsAt_mem (k:=5) rfl rfl b (by exact h))))
 have hS:=hS.up hsl8
 have hN:=hN.up hsl8
 have hchk:=hchk.up hsl8
 have hNs:=hNs.up hsl8
 have hd7:=hd7.trans hsl8
 refine q4 H hd7 (RD_t 12 Z kR Z (fun _ hK=>v_build bf199 Z Z) ?_)
 refine r2 4 13 Z2 ?_ ?_
 ·skip
  refine lB 1 H Z3 (q4 H hd7 (r1 13 Z (xbs H Z7 ?_)));intro _ _ _ H
  refine q4 H hd7 (r1 14 Z (o_append1 4 H (sz:=2) (bytes:=24) underlying131 typeInfo199 ⟨_,Z,Z⟩ Z Z Z Z Z Z Z Z Z Z oM Z ?_));intro _ _ H
  have hchk22:=hchk.snoc (show osE _ (name,T20) _ from⟨rfl,hname⟩) rfl
  obtain⟨_,_,rfl⟩:=H.accShape (k:=4) rfl
  refine q4 H hd7 (dE 15 Z2 (dF 16 4 Z2 (r1 17 Z ?_)))
  have H:=H.tF 5
  have H:=H.mergeF
  refine xst 1 H Z8 ?_;intro _ H
  refine q4 H hd7 (rz (N_K (W_seq (W_drawK [1] 12 H kR Z ?_))));intro _ H;have hd24:=PLe.refl Gs8
  refine dE 0 Z2 (dE 1 Z2 (dF 2 2 Z2 (dF 3 0 Z2 (dB 4 0 Z4 (dE 5 Z2 (dE 6 Z2 (dF 7 2 Z2 (dF 8 1 Z2 (dB 9 0 Z4 (r1 10 Z ?_))))))))))
  have H:=H.tF 3
  have H:=H.tF 3
  refine xc Z2 (i_keepTree_c _ _ H.sub _ _ _ _ _ hm hS hVd _ _ hN H.lent2 hT.wf oM) ?_
  rintro _ _ ⟨_,_,_,rfl,H25',⟨_,_,_,L25,rfl,rfl,hm25,hS25,hV25,hL25⟩⟩
  have hN:=hN.up H25'.le
  have hNs:=hNs.up H25'.le
  have hNc8:=hNc8.up H25'.le
  have hchk22:=hchk22.up H25'.le
  have hd24:=hd24.trans H25'.le
  have H:=H.borrow2 H25'
  refine⟨_,Z,?_⟩
  refine q4 H hd24 (dE 11 Z2 (rz (N_K (W_ret (ret_unlock 3 H muLib Z call141 Z Z (rs:=[.tmp 4]) results62 ?_)))));intro _ H
  refine⟨[_],⟨Z,trivial⟩,?_⟩
  have H:=H.tF 2
  have H:=H.tF 4
  have H:=H.tF 3
  have H:=H.tF 3
  have H:=H.tF 4
  have htk:=take_eq hdv (by simpa using hc3') (optI_neg.1 (by (rw[←Sp.sn_find hSn];omega))) (by omega:d.snaps.length≠6)
  have hfl:=hT.flat
  have hln:sn.length+1=(sn++[(name,T20)]).length:=by simp
  rw[hln]at H
  exact H.retM ⟨_,_,_,_,_,sn++[(name,T20)],_,_,L25,congrArg Value.bool (by (rw[htk,hfl,Option.isSome_map])),rfl,hm25,hS25,hV25,hN,hchk22,by (rw[List.map_append];exact hNs.snoc hNc8),fun d2 h=>(by (rw[htk]at h);obtain⟨s2,h2,rfl⟩:=Option.map_eq_some_iff.1 h;exact⟨hL25 s2 (by (rw[hfl];exact h2)),rfl,All2.push hSn rfl (hT.strip hst20) hTv⟩)⟩
 skip
 refine xbs H Z7 ?_;intro _ _ _ H
 refine q4 H hd7 (r1 4 Z (lB 2 H Z3 (q4 H hd7 (r1 14 Z (o_append1 4 H (sz:=2) (bytes:=24) underlying131 typeInfo199 ⟨_,Z,Z⟩ Z Z Z Z Z Z Z Z Z Z oM Z ?_)))));intro _ _ H
 have hchk27:=hchk.snoc (show osE _ (name,T20) _ from⟨rfl,hname⟩) rfl
 obtain⟨_,_,rfl⟩:=H.accShape (k:=4) rfl
 refine q4 H hd7 (dE 15 Z2 (dF 16 4 Z2 (r1 17 Z ?_)))
 have H:=H.tF 5
 have H:=H.mergeF
 refine xst 1 H Z8 ?_;intro _ H
 refine q4 H hd7 (rz (N_K (W_seq (W_drawK [1] 12 H kR Z ?_))));intro _ H;have hd29:=PLe.refl Gs8
 refine dE 0 Z2 (dE 1 Z2 (dF 2 2 Z2 (dF 3 0 Z2 (dB 4 0 Z4 (dE 5 Z2 (dE 6 Z2 (dF 7 2 Z2 (dF 8 1 Z2 (dB 9 0 Z4 (r1 10 Z ?_))))))))))
 have H:=H.tF 3
 have H:=H.tF 3
 refine xc Z2 (i_keepTree_c _ _ H.sub _ _ _ _ _ hm hS hVd _ _ hN H.lent2 hT.wf oM) ?_
 rintro _ _ ⟨_,_,_,rfl,H30',⟨_,_,_,L30,rfl,rfl,hm30,hS30,hV30,hL30⟩⟩
 have hN:=hN.up H30'.le
 have hNs:=hNs.up H30'.le
 have hNc8:=hNc8.up H30'.le
 have hchk27:=hchk27.up H30'.le
 have hd29:=hd29.trans H30'.le
 have H:=H.borrow2 H30'
 refine⟨_,Z,?_⟩
 refine q4 H hd29 (dE 11 Z2 (rz (N_K (W_ret (ret_unlock 3 H muLib Z call141 Z Z (rs:=[.tmp 4]) results62 ?_)))));intro _ H
 refine⟨[_],⟨Z,trivial⟩,?_⟩
 have H:=H.tF 2
 have H:=H.tF 4
 have H:=H.tF 3
 have H:=H.tF 3
 have H:=H.tF 4
 have htk:=take_eq hdv (by simpa using hc3') (optI_neg.1 (by (rw[←Sp.sn_find hSn];omega))) (by omega:d.snaps.length≠6)
 have hfl:=hT.flat
 have hln:sn.length+1=(sn++[(name,T20)]).length:=by simp
 rw[hln]at H
 exact H.retM ⟨_,_,_,_,_,sn++[(name,T20)],_,_,L30,congrArg Value.bool (by (rw[htk,hfl,Option.isSome_map])),rfl,hm30,hS30,hV30,hN,hchk27,by (rw[List.map_append];exact hNs.snoc hNc8),fun d2 h=>(by (rw[htk]at h);obtain⟨s2,h2,rfl⟩:=Option.map_eq_some_iff.1 h;exact⟨hL30 s2 (by (rw[hfl];exact h2)),rfl,All2.push hSn rfl (hT.strip hst20) hTv⟩)⟩
theorem i_SnapTake1_c (w0:World)(G0:PH)(hG:PSub G0 w0)(db mb:Nat)(es:Array MapEntry)(ck:Nat)(xs:List (Int×Value))(T:Nd)(FT:Fr)(sv:Value)(sn:List (Bs×Nd))(c:List Value)(FSq:Fr)(d:BDisk)(hm:MapIs (Value.int .i64) es ck xs)(hS:StR G0 xs d.store)(hN:NdO 138 119 G0 T FT)(hT:Nd.TOK T d.tree)(hchk:Chk osE 2 G0 c sn)(hNs:NdsO 138 119 G0 (sn.map (·.2)) FSq)(hSn:SnOK sn d.snaps)(hdv:Sp.DiskValid d=true)(cp:Nat)(name:Bs)(hname:name.length≤16777216)(hcp:PRow G0 cp 0 [str name])(hLent:Lent w0 G0 [blk db (cl [.int .i32 0,.int .u32 0,.map (some mb),.pointer (some ⟨T.b,0,none⟩),sv] 133),blk mb (.map es ck),frag FT,acc 199 2 sv sn.length c,frag FSq]) :
  Calls Tryz.prog 61 #[.pointer (some ⟨db,0,none⟩),.pointer (some ⟨cp,0,none⟩)] w0 (RetM w0 G0 (fps [blk db (cl [.int .i32 0,.int .u32 0,.map (some mb),.pointer (some ⟨T.b,0,none⟩),sv] 133),blk mb (.map es ck),frag FT,acc 199 2 sv sn.length c,frag FSq]) (fun G' v Bs=>∃(es':Array MapEntry) (ck':Nat) (xs':List (Int×Value)) (F':Fr) (sv':Value) (sn':List (Fw.Bs×Nd)) (c':List Value) (FSq':Fr) (L':List BHeld),v= .bool (Sp.SnapTake d name).isSome∧Bs=[blk db (cl [.int .i32 0,.int .u32 0,.map (some mb),.pointer (some ⟨T.b,0,none⟩),sv'] 133),blk mb (.map es' ck'),frag F',acc 199 2 sv' sn'.length c',frag FSq']∧MapIs (Value.int .i64) es' ck' xs'∧StR G' xs' L'∧Sp.VH L'∧NdO 138 119 G' T F'∧Chk osE 2 G' c' sn'∧NdsO 138 119 G' (sn'.map (·.2)) FSq'∧∀d',Sp.SnapTake d name=some d'→L'=d'.store∧d'.tree=d.tree∧SnOK sn' d'.snaps)):=by
 have H:Hp w0 G0 (fps [blk db (cl [.int .i32 0,.int .u32 0,.map (some mb),.pointer (some ⟨T.b,0,none⟩),sv] 133),blk mb (.map es ck),frag FT,acc 199 2 sv sn.length c,frag FSq]) w0 G0 [blk db (cl [.int .i32 0,.int .u32 0,.map (some mb),.pointer (some ⟨T.b,0,none⟩),sv] 133),blk mb (.map es ck),frag FT,acc 199 2 sv sn.length c,frag FSq]:=hLent.hp
 obtain⟨_,_,rfl⟩:=H.accShape (k:=3) rfl;have hVd:=Sp.valid_iff.1 (Sp.dv_parts.1 hdv).1;have hTv:=(Sp.dv_parts.1 hdv).2.1;have hTc:=hT.cnt;have hTl:=Sp.tree_len hTv;have hsnl:=hSn.len;have hsn6:=(Sp.dv_parts.1 hdv).2.2.1
 refine calls_of_W (l:=[.pointer (some ⟨db,0,none⟩),.pointer (some ⟨cp,0,none⟩)]) func61 Z ntmps61 Z (q2 (aG Z (q1 (mV Z (lP H hcp 0 Z2 ?_)))))
 have H:=H.tF 4
 have H:=H.tF 4
 have H:=H.tF 4
 have H:=H.tF 4
 have H:=H.tF 4
 refine xc Z2 (i_take_c _ _ H.sub _ _ _ _ _ _ _ _ _ _ _ _ hm hS hN hT hchk hNs hSn hdv _ hname H.lent5) ?_
 rintro _ _ ⟨_,_,_,rfl,H1',⟨_,_,_,_,_,_,_,_,_,rfl,rfl,hm1,hS1,hV1,hN1,hchk1,hNs1,hd1⟩⟩
 have H:=H.borrow5 H1'
 obtain⟨_,_,rfl⟩:=H.accShape (k:=3) rfl
 refine⟨_,Z,?_⟩
 refine aG Z (q3 (W_ret (rt1 results61 Z ?_)))
 have H:=H.tF 4
 have H:=H.tF 4
 have H:=H.tF 4
 have H:=H.tF 4
 have H:=H.tF 4
 exact H.retM ⟨_,_,_,_,_,_,_,_,_,Z,Z,hm1,hS1,hV1,hN1,hchk1,hNs1,hd1⟩
theorem i_changed_take_c (w0:World)(G0:PH)(hG:PSub G0 w0)(cd:List Value)(d:BDisk)(hd:diskE G0 d cd)(cp:Nat)(name:Bs)(hname:name.length≤16777216)(hcp:PRow G0 cp 0 [str name]) :
  Calls Tryz.prog 60 #[.agg cd.toArray,.func (.func 61) #[] #[.pointer (some ⟨cp,0,none⟩)]] w0 (RetN w0 G0 (fun v Bs=>∃(v1 v2 v3:Value) (F1 F2 F3:Fr),v= .tuple #[.agg #[v1,v2,v3],.bool (Sp.SnapTake d name).isSome]∧Bs=[frag F1,frag F2,frag F3]∧OHs F1 v1 ((Sp.SnapTake d name).getD ⟨[],[],[]⟩).store∧OIs F2 v2 ((Sp.SnapTake d name).getD ⟨[],[],[]⟩).tree∧OSn F3 v3 ((Sp.SnapTake d name).getD ⟨[],[],[]⟩).snaps)):=by
 obtain⟨_,_,_,_,_,_,_,_,_,rfl,hr1,hr1',hr1'',⟨_,_⟩,⟨_,_⟩,_,_⟩:=ox hd
 have H:=Hp.init hG
 refine calls_of_W (l:=[_,.func (.func 61) #[] #[.pointer (some ⟨cp,0,none⟩)]]) func60 Z ntmps60 Z (q2 (o_box H Z Z Z ?_));intro _ _ _ H
 refine xal H Z ?_;intro _ _ _ H
 refine aG Z (q1 (lA 1 3 H Z4 (xc Z2 (i_newDisk_c _ _ H.sub _ d ⟨_,_,_,_,_,_,_,_,_,Z,hr1,hr1',hr1''⟩ H.lent0) ?_)))
 rintro _ _ ⟨_,_,_,rfl,H4',⟨rfl,rfl,hnd4⟩|⟨_,_,_,_,_,T4,_,_,_,_,_,rfl,rfl,hm4,hS4,hN4,hT4,hchk4,hNs4,hSn4,hdv4⟩⟩
 ·skip
  have H:=H.borrow0 H4'
  refine⟨_,Z,?_⟩
  refine pe 5 Z (q3 (W_seq (q2 (pe 8 Z (q3 (W_true Z (q2 (o_build bf27 Z Z Z (xst 0 H Z8 ?_)))))))));intro _ H
  refine aG Z (q3 (W_ret (N_K_ret (ret_gen (rs:=[.cell 4 27,.tmp 5]) (vs:=[_,_]) results60 ⟨⟨_,Z,load_blk 0 H isAgg27 sizeOf27 Z Z Z⟩,Z,trivial⟩ ?_))))
  have H:=H.dl 0
  have H:=H.dl 0
  have hno:Sp.SnapTake d name=none:=by simp[Sp.SnapTake,hnd4]
  have H:=(((H.addF).addF).addF).forget hG (by simp)
  refine⟨_,_,Z,H,.slice none 0 0,.slice none 0 0,.slice none 0 0,[],[],[],?_,Z,?_,?_,?_⟩
  ·(rw[hno];rfl)
  ·(rw[hno];exact oh_nil)
  ·(rw[hno];exact oi_nil)
  (rw[hno];exact os_nil)
 skip
 have hcp:=hcp.up H4'.le
 have H:=H.borrow0 H4'
 obtain⟨avAd,cvAd,rfl⟩:=H.accShape (k:=3) rfl
 refine⟨_,Z,?_⟩
 refine pe 5 Z (q3 (W_seq (q2 (pe 5 Z (gR Z ?_)))))
 have H:=H.tF 4
 have H:=H.tF 4
 have H:=H.tF 4
 have H:=H.tF 4
 have H:=H.tF 4
 refine o_callc call61 Z Z Z (i_SnapTake1_c _ _ H.sub _ _ _ _ _ _ _ _ _ _ _ _ hm4 hS4 hN4 hT4 hchk4 hNs4 hSn4 hdv4 _ _ hname hcp H.lent5) ?_
 rintro _ _ ⟨_,_,_,rfl,H6',⟨_,_,_,_,_,_,_,_,_,rfl,rfl,hm6,hS6,hV6,hN6,hchk6,hNs6,hd6⟩⟩
 have H:=H.borrow5 H6'
 obtain⟨avAd,cvAd,rfl⟩:=H.accShape (k:=3) rfl
 refine⟨_,Z,?_⟩
 refine pe 2 Z (q3 ?_)
 refine W_cond Z ?_ ?_
 ·intro hc7
  try simp only[nrm]at hc7
  refine q2 (o_build bf27 Z Z Z (xst 5 H Z8 ?_));intro _ H
  refine aG Z (q3 (W_ret (N_K_ret (ret_gen (rs:=[.cell 4 27,.tmp 5]) (vs:=[_,_]) results60 ⟨⟨_,Z,load_blk 5 H isAgg27 sizeOf27 Z Z Z⟩,Z,trivial⟩ ?_))))
  have H:=H.dl 0
  have H:=H.dl 0
  have H:=H.dl 0
  have H:=H.dl 0
  have H:=H.dl 0
  have H:=H.dl 0
  have H:=H.dl 0
  have hno:Sp.SnapTake d name=none:=by simpa using hc7
  have H:=(((H.addF).addF).addF).forget hG (by simp)
  refine⟨_,_,Z,H,.slice none 0 0,.slice none 0 0,.slice none 0 0,[],[],[],?_,Z,?_,?_,?_⟩
  ·(rw[hno];rfl)
  ·(rw[hno];exact oh_nil)
  ·(rw[hno];exact oi_nil)
  (rw[hno];exact os_nil)
 intro hc7'
 try simp only[nrm]at hc7'
 obtain⟨d2,hd2⟩:=Option.isSome_iff_exists.1 (show(Sp.SnapTake d name).isSome=true by simpa using hc7')
 obtain⟨hL2,ht2,hsn2⟩:=hd6 d2 hd2;subst hL2
 have hT2:Nd.TOK T4 d2.tree:=by (rw[ht2];exact hT4)
 refine W_skip (N_K (q2 (mV Z ?_)))
 have H:=H.tF 4
 have H:=H.tF 4
 have H:=H.tF 4
 have H:=H.tF 4
 have H:=H.tF 4
 refine xc Z2 (i_disk_c _ _ H.sub _ _ _ _ _ _ _ _ _ _ _ _ hm6 hS6 hN6 hT2 hchk6 hNs6 hsn2 hV6 (take_len hdv4 hd2) H.lent5) ?_
 rintro _ _ ⟨_,_,_,rfl,H9',⟨_,_,_,D19,D29,D39,rfl,rfl,ho19,ho29,ho39⟩⟩
 have H:=H.borrow5 H9'
 obtain⟨_,p19⟩:=ho19
 obtain⟨a19,c19,rfl⟩:=OwnS.shape p19
 obtain⟨_,p29⟩:=ho29
 obtain⟨a29,c29,rfl⟩:=OwnS.shape p29
 obtain⟨_,p39⟩:=ho39
 obtain⟨a39,c39,rfl⟩:=OwnS.shape p39
 refine⟨_,Z,?_⟩
 refine xst 3 H Z8 ?_;intro _ H
 refine aG Z (q3 (W_ret (ret_gen (rs:=[.cell 4 27,.tmp 5]) (vs:=[_,_]) results60 ⟨⟨_,Z,load_blk 3 H isAgg27 sizeOf27 Z Z Z⟩,Z,trivial⟩ ?_)))
 have H:=H.dl 3
 have H:=H.dl 3
 have H:=H.tF 2
 have H:=H.tF 2
 have H:=H.tF 2
 have H:=H.forget hG (by simp)
 refine⟨_,_,Z,H,.slice a19 d2.store.length c19,.slice a29 d2.tree.length c29,.slice a39 d2.snaps.length c39,D19,D29,D39,?_,Z,?_,?_,?_⟩
 ·(rw[hd2];rfl)
 ·(rw[hd2];exact⟨_,p19⟩)
 ·(rw[hd2];exact⟨_,p29⟩)
 (rw[hd2];exact⟨_,p39⟩)
theorem i_SnapTake_c (w0:World)(G0:PH)(hG:PSub G0 w0)(cd:List Value)(d:BDisk)(hd:diskE G0 d cd)(name:Bs)(hname:name.length≤16777216) :
  Calls Tryz.prog 16 #[.agg cd.toArray,str name] w0 (RetN w0 G0 (fun v Bs=>∃(v1 v2 v3:Value) (F1 F2 F3:Fr),v= .tuple #[.agg #[v1,v2,v3],.bool (Sp.SnapTake d name).isSome]∧Bs=[frag F1,frag F2,frag F3]∧OHs F1 v1 ((Sp.SnapTake d name).getD ⟨[],[],[]⟩).store∧OIs F2 v2 ((Sp.SnapTake d name).getD ⟨[],[],[]⟩).tree∧OSn F3 v3 ((Sp.SnapTake d name).getD ⟨[],[],[]⟩).snaps)):=by
 obtain⟨_,_,_,_,_,_,_,_,_,rfl,hr1,hr1',hr1'',⟨_,_⟩,⟨_,_⟩,_,_⟩:=ox hd
 have H:=Hp.init hG
 refine calls_of_W (l:=[_,str name]) func16 Z ntmps16 Z (q2 (o_box H Z Z Z ?_));intro _ _ _ H
 refine o_box H Z Z Z ?_;intro _ _ _ H
 refine xal H Z ?_;intro _ _ _ H
 refine aG Z (q1 (lA 2 3 H Z4 (o_makefn1 Z Z (xc Z2 (i_changed_take_c _ _ (H.lendSubL [1]) _ d ⟨_,_,_,_,_,_,_,_,_,Z,(hr1.up (PPlus.le _ _ _)),(hr1'.up (PPlus.le _ _ _)),(hr1''.up (PPlus.le _ _ _))⟩ _ _ hname (prow_blk (H.lendPredL (k:=1) (ks:=[1]) Z Z))) ?_))))
 rintro _ _ ⟨_,_,rfl,H5',⟨_,_,_,E15,E25,E35,rfl,rfl,ho15,ho25,ho35⟩⟩
 have H:=H.readersL H5'
 obtain⟨_,p15⟩:=ho15
 obtain⟨a15,c15,rfl⟩:=OwnS.shape p15
 obtain⟨_,p25⟩:=ho25
 obtain⟨a25,c25,rfl⟩:=OwnS.shape p25
 obtain⟨_,p35⟩:=ho35
 obtain⟨a35,c35,rfl⟩:=OwnS.shape p35
 refine⟨_,Z,?_⟩
 refine pe 2 Z (xst 3 H Z8 ?_);intro _ H
 refine aG Z (q3 (W_ret (ret_gen (rs:=[.cell 4 27,.tmp 5]) (vs:=[_,_]) results16 ⟨⟨_,Z,load_blk 3 H isAgg27 sizeOf27 Z Z Z⟩,Z,trivial⟩ ?_)))
 have H:=H.dl 3
 have H:=H.dl 3
 have H:=H.dl 3
 have H:=H.tF 2
 have H:=H.tF 2
 have H:=H.tF 2
 exact⟨_,_,Z,H,.slice a15 ((Sp.SnapTake d name).getD ⟨[],[],[]⟩).store.length c15,.slice a25 ((Sp.SnapTake d name).getD ⟨[],[],[]⟩).tree.length c25,.slice a35 ((Sp.SnapTake d name).getD ⟨[],[],[]⟩).snaps.length c35,E15,E25,E35,Z,Z,⟨_,p15⟩,⟨_,p25⟩,⟨_,p35⟩⟩
theorem l6In_c (w0:World)(n:Int)(lo:Int)(hi:Int) :
  Calls Tryz.prog 82 #[.int .i64 n,.int .i64 lo,.int .i64 hi] w0 (Rets w0 (.bool (Sp.l6In n lo hi))):=by
 have H:=Hp.init0 w0
 refine calls_of_W (l:=[.int .i64 n,.int .i64 lo,.int .i64 hi]) func82 Z ntmps82 Z (q2 (aG Z (q1 (pe 4 Z ?_))))
 refine R_case (t:=10) Z ?_ ?_
 ·intro hc1
  try simp only[nrm]at hc1
  refine pe 5 Z (q3 (W_ret (rt1 results82 Z ?_)))
  exact H.rets (congrArg Value.bool (by unfold Sp.l6In;rw[Bool.eq_iff_iff];simp;omega))
 intro hc1'
 try simp only[nrm]at hc1'
 refine pe 5 Z (q3 (W_ret (rt1 results82 Z ?_)))
 exact H.rets (congrArg Value.bool (by unfold Sp.l6In;rw[Bool.eq_iff_iff];simp;omega))
theorem l1Word_c (w0:World)(s:Bs)(hs:s.length≤16777216) :
  Calls Tryz.prog 63 #[str s] w0 (Rets w0 (.bool (Sp.l1Word s))):=by
 have H:=Hp.init0 w0
 refine calls_of_W (l:=[str s]) func63 Z ntmps63 Z (q2 (aG Z (q3 (W_seq (q2 (aG Z (q3 (W_block ?_))))))))
 refine W_lp (hf:=(Sub.cons (t:=0) Z Sub.nil)) (J:=fun M w m=>∃(k:Nat) (G:PH),M=[(3,.int .i64 (k:Int))]∧PLe (fun _=>none) G∧Hp w0 (fun _=>none) [] w G []∧(k≤s.length∧(s.take k).all Sp.low=true)∧m=(s.length-k)) (h0:=⟨0,_,Z,PLe.refl _,H,?inv,Z⟩) (round:=?round)
 case inv=>exact⟨by omega,by simp⟩
 case round =>
  rintro _ _ _ ⟨k,_,rfl,hle1,H,hinv1,rfl⟩
  obtain⟨_,hall⟩:=hinv1
  refine W_seq (q2 (pe 2 Z (lS Z (pe 1 Z (q3 ?_)))))
  refine W_cond Z ?_ ?_
  ·intro hc2
   try simp only[nrm]at hc2
   refine W_skip (N_K (W_seq (W_block (q2 (pe 2 Z (o_index_str underlying9 Z Z Z Z oM ?_))))));intro ch3 hch3;have hlt3:=ch3.toNat_lt
   refine pe 2 Z ?_
   refine R_case (t:=14) Z ?_ ?_
   ·intro hc4
    try simp only[nrm]at hc4
    refine pe 5 Z (q3 (W_true Z (q2 (aG Z (q3 (W_ret (N_B_ret (N_K_ret (N_LP_ret (N_B_ret (N_K_ret (rt1 results63 Z ?_))))))))))))
    exact H.rets (congrArg Value.bool (by rw[Sp.l1Word,Sp.all_false hch3 (by simp[Sp.low];omega)];rfl))
   intro hc4'
   try simp only[nrm]at hc4'
   refine pe 2 Z (gR Z (o_index_str underlying9 Z Z Z Z oM ?_));intro ch5 hch5;have hlt5:=ch5.toNat_lt
   obtain rfl:ch5=ch3:=Option.some.inj (hch5.symm.trans hch3)
   refine pe 2 Z (q3 ?_)
   refine W_cond Z ?_ ?_
   ·intro hc6
    try simp only[nrm]at hc6
    refine q2 (aG Z (q3 (W_ret (N_B_ret (N_K_ret (N_LP_ret (N_B_ret (N_K_ret (rt1 results63 Z ?_)))))))))
    exact H.rets (congrArg Value.bool (by rw[Sp.l1Word,Sp.all_false hch5 (by simp[Sp.low];omega)];rfl))
   intro hc6'
   try simp only[nrm]at hc6'
   refine W_skip (N_B (N_K (W_region (mV Z (aD Z2 (aG Z (R_nil ?_)))))))
   refine N_lp (hJ:=⟨k+1,_,Z,hle1,H,?inv,Z⟩) (hm:=?hm)
   case hm=>omega
   case inv=>exact⟨by omega,Sp.all_take hall hch5 (by simp[Sp.low];omega)⟩
  intro hc2'
  try simp only[nrm]at hc2'
  refine W_exit (N_K_exit (N_LP_exit (N_B_same (N_K (q2 (mV Z (lS Z (xr H Z2 (l6In_c _ _ _ _) ?_))))))));intro _ H
  refine aG Z (q3 (W_ret (rt1 results63 Z ?_)))
  obtain rfl:k=s.length:=by omega
  rw[List.take_length]at hall
  exact H.rets (congrArg Value.bool (by simp only[Sp.l1Word,Sp.l6In,hall];rw[Bool.eq_iff_iff];simp;omega))
theorem l1Cut_c (w0:World)(G0:PH)(hG:PSub G0 w0)(s:Bs)(hs:s.length≤16777216) :
  Calls Tryz.prog 161 #[str s] w0 (RetP w0 G0 (fun G v=>RdT G v (Sp.cut s))):=by
 have H:=Hp.init hG
 refine calls_of_W (l:=[str s]) func161 Z ntmps161 Z (q2 (aG Z (q1 (xbs H Z7 ?_))));intro _ _ _ H
 have H:=H.blkAcc 1 (k:=0) (n:=0) rfl rfl (by decide)
 refine aG Z (q1 (aG Z (q3 (W_seq (q2 (aG Z (q3 (W_block ?_))))))))
 refine W_lp (hf:=(Sub.cons (t:=0) Z (Sub.cons (t:=2) Z Sub.nil))) (J:=fun M w m=>∃(v:Value) (n:Nat) (cs:List Value) (xs:List (Bs)) (f k:Nat) (G:PH),M=[(4,.int .i64 (f:Int)),(5,.int .i64 (k:Int)),(3,v)]∧PLe G0 G∧Hp w0 G0 [] w G [acc 9 1 v n cs]∧(Chk strE 1 G cs xs∧n=xs.length∧f≤k∧k≤s.length∧xs.length≤k∧xs++Sp.cut (s.drop f)=Sp.cut s∧∀j,f≤j→j<k→s[j]? ≠ some 47)∧m=(s.length-k)) (h0:=⟨_,_,_,[],0,0,_,Z,PLe.refl _,H,?inv,Z⟩) (round:=?round)
 case inv=>exact⟨(Chk.nil (E:=strE) (sz:=1) (G:=G0)),by first|rfl|simp|(simp;omega)|omega,(by simp)⟩
 case round =>
  rintro _ _ _ ⟨v,n,cs,xs,f,k,_,rfl,hle2,H,hinv2,rfl⟩
  obtain⟨hchk2_0,_,hinv2⟩:=hinv2
  obtain⟨_,_,rfl⟩:=H.accShape (k:=0) rfl
  obtain⟨h1,_,_,h4,h5⟩:=hinv2
  refine W_seq (q2 (pe 2 Z (lS Z (pe 1 Z (q3 ?_)))))
  refine W_cond Z ?_ ?_
  ·intro hc3
   try simp only[nrm]at hc3
   refine W_skip (N_K (W_seq (W_block (q2 (pe 2 Z (o_index_str underlying9 Z Z Z Z oM ?_))))));intro ch4 hch4;have hlt4:=ch4.toNat_lt
   refine pe 1 Z (q3 ?_)
   refine W_cond Z ?_ ?_
   ·intro hc5
    try simp only[nrm]at hc5
    refine q2 (pe 4 Z (o_slice_str underlying9 Z Z Z Z oM oM oM (xbs H Z7 ?_)));intro _ _ _ H
    refine o_append1 0 H (sz:=1) (bytes:=16) underlying95 typeInfo9 ⟨_,Z,Z⟩ Z Z Z Z Z Z Z Z Z Z oM Z ?_;intro _ _ H
    have hchk8:=hchk2_0.snoc (show strE _ ((s.drop f).take (k-f)) _ from⟨rfl,(by (first|assumption|(refine Sp.l5Parent_lim ?_;assumption)|(simp;done)|(simp;omega)|omega))⟩) rfl
    obtain⟨_,_,rfl⟩:=H.accShape (k:=0) rfl
    refine aG Z (q3 (W_region (mV Z (aD Z2 (aG Z (R_nil (N_B (N_K (W_region (mV Z (aD Z2 (aG Z (R_nil ?_)))))))))))))
    refine N_lp (hJ:=⟨_,_,_,(xs++[((s.drop f).take (k-f))]),k+1,k+1,_,Z,hle2,H,?inv,Z⟩) (hm:=?hm)
    case hm=>omega
    case inv=>exact⟨hchk8,aN,(by exact⟨by omega,by omega,by simp;omega,Sp.cut_step h4 h1 (hch4▸congrArg some (Sp.is47 oM)) h5,fun j g1 g2=>by omega⟩)⟩
   intro hc5'
   try simp only[nrm]at hc5'
   refine W_skip (N_B (N_K (W_region (mV Z (aD Z2 (aG Z (R_nil ?_)))))))
   refine N_lp (hJ:=⟨_,_,_,xs,f,k+1,_,Z,hle2,H,?inv,Z⟩) (hm:=?hm)
   case hm=>omega
   case inv=>exact⟨hchk2_0,aN,(by exact⟨by omega,by omega,by omega,h4,Sp.noslash_succ h5 (hch4▸Sp.not47 oM)⟩)⟩
  intro hc3'
  try simp only[nrm]at hc3'
  refine W_exit (N_K_exit (N_LP_exit (N_B_same (N_K (q2 (pe 3 Z (o_slice_str_from underlying9 Z Z Z oM oM (xbs H Z7 ?_))))))));intro _ _ _ H
  refine o_append1 0 H (sz:=1) (bytes:=16) underlying95 typeInfo9 ⟨_,Z,Z⟩ Z Z Z Z Z Z Z Z Z Z oM Z ?_;intro _ _ H
  have hchk14:=hchk2_0.snoc (show strE _ (s.drop f) _ from⟨rfl,(by (first|assumption|(refine Sp.l5Parent_lim ?_;assumption)|(simp;done)|(simp;omega)|omega))⟩) rfl
  obtain⟨_,_,rfl⟩:=H.accShape (k:=0) rfl
  refine aG Z (q3 (W_ret (rt1 results161 Z ?_)))
  obtain⟨_,H,hsg515,hsr515⟩:=H.shut' (k:=0) rfl hchk14 aN aN
  exact H.retP (by rw[←Sp.cut_end h4 h5 oM];exact hsr515)
theorem PathValid_c (w0:World)(G0:PH)(hG:PSub G0 w0)(path:Bs)(hpath:path.length≤16777216) :
  Calls Tryz.prog 81 #[str path] w0 (Rets w0 (.bool (Sp.PathValid path))):=by
 have H:=Hp.init hG
 refine calls_of_W (l:=[str path]) func81 Z ntmps81 Z (q2 (aG Z (q1 (mV Z (xc Z2 (l1Cut_c _ _ H.sub _ hpath) ?_)))))
 rintro _ _ ⟨G1,_,g1,rfl,hr1_0⟩
 have H:=H.grow g1
 obtain⟨_,_,rfl⟩:=hr1_0.shape;have hx_hr1_0:_≤1099511627776:=hr1_0.lim
 refine⟨_,Z,?_⟩
 refine aG Z (q3 (W_seq (q2 (aG Z (q3 (W_block ?_))))))
 refine W_lp (hf:=(Sub.cons (t:=3) Z Sub.nil)) (J:=fun M w m=>∃(k:Nat) (G:PH),M=[(4,.int .i64 (k:Int))]∧PLe G1 G∧Hp w0 G0 [] w G []∧(k≤(Sp.cut path).length∧((Sp.cut path).take k).all Sp.l1Word=true)∧m=((Sp.cut path).length-k)) (h0:=⟨0,_,Z,PLe.refl _,H,?inv,Z⟩) (round:=?round)
 case inv=>simp
 case round =>
  rintro _ _ _ ⟨k,_,rfl,hle2,H,hinv2,rfl⟩
  have hr1_0:=hr1_0.up hle2
  obtain⟨_,hall⟩:=hinv2
  refine W_seq (q2 (pe 2 Z (lN Z (pe 1 Z (q3 ?_)))))
  refine W_cond Z ?_ ?_
  ·intro hc3
   try simp only[nrm]at hc3
   refine W_skip (N_K (W_seq (W_block (q2 (pe 2 Z (iP k hr1_0 Z3 Z ?_))))));intro _ _ _ _ hz4 hE4 hrow4
   obtain⟨rfl,hi4⟩:=hE4;have hy_hi4:_≤16777216:=hi4
   refine lP H hrow4 0 Z2 (xr H Z2 (l1Word_c _ _ hi4) ?_);intro _ H
   refine pe 1 Z (q3 ?_)
   refine W_cond Z ?_ ?_
   ·intro hc6
    try simp only[nrm]at hc6
    refine q2 (aG Z (q3 (W_ret (N_B_ret (N_K_ret (N_LP_ret (N_B_ret (N_K_ret (rt1 results81 Z ?_)))))))))
    exact H.rets (congrArg Value.bool (by rw[Sp.PathValid,Sp.all_false hz4 hc6];rfl))
   intro hc6'
   try simp only[nrm]at hc6'
   refine W_skip (N_B (N_K (W_region (mV Z (aD Z2 (aG Z (R_nil ?_)))))))
   refine N_lp (hJ:=⟨k+1,_,Z,hle2,H,?inv,Z⟩) (hm:=?hm)
   case hm=>omega
   case inv=>exact⟨by omega,Sp.all_take hall hz4 hc6'⟩
  intro hc3'
  try simp only[nrm]at hc3'
  refine W_exit (N_K_exit (N_LP_exit (N_B_same (N_K (q2 (mV Z (lN Z (pe 2 Z (q3 (W_ret (rt1 results81 Z ?_)))))))))))
  obtain rfl:k=(Sp.cut path).length:=by omega
  rw[List.take_length]at hall
  exact H.rets (congrArg Value.bool (by simp only[Sp.PathValid,hall,Bool.true_and];rw[Bool.eq_iff_iff];simp;omega))
theorem l1Last_c (w0:World)(path:Bs)(hpath:path.length≤16777216) :
  Calls Tryz.prog 253 #[str path] w0 (Rets w0 (.int .i64 (Sp.l1Last path))):=by
 have H:=Hp.init0 w0
 refine calls_of_W (l:=[str path]) func253 Z ntmps253 Z (q2 (aG Z (q1 (aG Z (q3 (W_seq (q2 (aG Z (q3 (W_block ?_))))))))))
 refine W_lp (hf:=(Sub.cons (t:=0) Z (Sub.cons (t:=2) Z Sub.nil))) (J:=fun M w m=>∃(k:Nat) (o:Option Nat) (G:PH),M=[(3,.int .i64 (Sp.optI o)),(4,.int .i64 (k:Int))]∧PLe (fun _=>none) G∧Hp w0 (fun _=>none) [] w G []∧(k≤path.length∧o=(List.range k).foldl (Sp.lastF path) none)∧m=(path.length-k)) (h0:=⟨0,none,_,Z,PLe.refl _,H,?inv,Z⟩) (round:=?round)
 case inv=>exact⟨by omega,rfl⟩
 case round =>
  rintro _ _ _ ⟨k,o,_,rfl,hle1,H,hinv1,rfl⟩
  obtain⟨_,hall⟩:=hinv1
  refine W_seq (q2 (pe 2 Z (lS Z (pe 1 Z (q3 ?_)))))
  refine W_cond Z ?_ ?_
  ·intro hc2
   try simp only[nrm]at hc2
   refine W_skip (N_K (W_seq (W_block (q2 (pe 2 Z (o_index_str underlying9 Z Z Z Z oM ?_))))));intro ch3 hch3;have hlt3:=ch3.toNat_lt
   refine pe 1 Z (q3 ?_)
   refine W_cond Z ?_ ?_
   ·intro hc4
    try simp only[nrm]at hc4
    refine W_region (pe 2 Z (R_nil (N_B (N_K (W_region (mV Z (aD Z2 (aG Z (R_nil ?_)))))))))
    refine N_lp (hJ:=⟨k+1,some k,_,Z,hle1,H,?inv,Z⟩) (hm:=?hm)
    case hm=>omega
    case inv=>exact⟨by omega,by rw[Sp.last_succ,←hall,Sp.lastF,hch3,if_pos (congrArg some (Sp.is47 oM))]⟩
   intro hc4'
   try simp only[nrm]at hc4'
   refine W_skip (N_B (N_K (W_region (mV Z (aD Z2 (aG Z (R_nil ?_)))))))
   refine N_lp (hJ:=⟨k+1,o,_,Z,hle1,H,?inv,Z⟩) (hm:=?hm)
   case hm=>omega
   case inv=>exact⟨by omega,by rw[Sp.last_succ,←hall,Sp.lastF,hch3,if_neg (Sp.not47 oM)]⟩
  intro hc2'
  try simp only[nrm]at hc2'
  refine W_exit (N_K_exit (N_LP_exit (N_B_same (N_K (q2 (pe 2 Z (q3 (W_ret (rt1 results253 Z ?_)))))))))
  obtain rfl:k=path.length:=by omega
  exact H.rets (congrArg (Value.int .i64) (by rw[hall];rfl))
theorem l5Parent_c (w0:World)(path:Bs)(hpath:path.length≤16777216) :
  Calls Tryz.prog 217 #[str path] w0 (Rets w0 (str (Sp.l5Parent path))):=by
 have hl:=Sp.l1Last_le path
 have H:=Hp.init0 w0
 refine calls_of_W (l:=[str path]) func217 Z ntmps217 Z (q2 (aG Z (q1 (pe 2 Z (xr H Z2 (l1Last_c _ _ hpath) ?_)))));intro _ H
 refine o_max Z Z Z (o_slice_str_to underlying9 Z Z Z oM oM (aG Z (q3 (W_ret (rt1 results217 Z ?_)))))
 exact H.rets Z
theorem l5At_c (w0:World)(G0:PH)(hG:PSub G0 w0)(vlist:Value)(list:List (BItem))(hlist:RdItems G0 vlist list)(path:Bs)(hpath:path.length≤16777216) :
  Calls Tryz.prog 100 #[vlist,str path] w0 (Rets w0 (.int .i64 (Sp.l5At list path))):=by
 obtain⟨alist,klist,rfl⟩:=hlist.shape
 have hlimlist:list.length≤1099511627776:=hlist.lim
 have H:=Hp.init hG
 refine calls_of_W (l:=[.slice alist list.length klist,str path]) func100 Z ntmps100 Z (q2 (aG Z (q3 (W_seq (q2 (aG Z (q3 (W_block ?_))))))))
 refine W_lp (hf:=(Sub.cons (t:=0) Z (Sub.cons (t:=1) Z Sub.nil))) (J:=fun M w m=>∃(k:Nat) (G:PH),M=[(5,.int .i64 (k:Int))]∧PLe G0 G∧Hp w0 G0 [] w G []∧(k≤list.length∧(∀j,j<k→∀y,list[j]? = some y→decide (y.path=path)=false))∧m=(list.length-k)) (h0:=⟨0,_,Z,PLe.refl _,H,?inv,Z⟩) (round:=?round)
 case inv=>exact⟨by omega,fun j hj=>by omega⟩
 case round =>
  rintro _ _ _ ⟨k,_,rfl,hle1,H,hinv1,rfl⟩
  have hlist:=hlist.up hle1
  obtain⟨_,hall⟩:=hinv1
  refine W_seq (q2 (pe 2 Z (lN Z (pe 1 Z (q3 ?_)))))
  refine W_cond Z ?_ ?_
  ·intro hc2
   try simp only[nrm]at hc2
   refine W_skip (N_K (W_seq (W_block (q2 (pe 2 Z (iP k hlist Z3 Z ?_))))));intro _ _ _ _ hz3 hE3 hrow3
   obtain⟨_,_,_,rfl,_,_,_,_⟩:=ox hE3
   refine fA 0 Z (lP H hrow3 0 Z2 (mV Z (o_seql Z Z Z (q3 ?_))))
   refine W_cond Z ?_ ?_
   ·intro hc4
    try simp only[nrm]at hc4
    refine q2 (pe 2 Z (q3 (W_ret (N_B_ret (N_K_ret (N_LP_ret (N_B_ret (N_K_ret (rt1 results100 Z ?_)))))))))
    exact H.rets (congrArg (Value.int .i64) (by rw[Sp.l5At,Sp.atI,Sp.find_at hall hz3 (by simp;exact hc4)];rfl))
   intro hc4'
   try simp only[nrm]at hc4'
   refine W_skip (N_B (N_K (W_region (mV Z (aD Z2 (aG Z (R_nil ?_)))))))
   refine N_lp (hJ:=⟨k+1,_,Z,hle1,H,?inv,Z⟩) (hm:=?hm)
   case hm=>omega
   case inv=>exact⟨by omega,Sp.none_succ hall hz3 (by simp;exact hc4')⟩
  intro hc2'
  try simp only[nrm]at hc2'
  refine W_exit (N_K_exit (N_LP_exit (N_B_same (N_K (q2 (aG Z (q3 (W_ret (rt1 results100 Z ?_)))))))))
  exact H.rets (congrArg (Value.int .i64) (by rw[Sp.l5At,Sp.atI,Sp.find_none hall oM];rfl))
theorem l5Home_c (w0:World)(G0:PH)(hG:PSub G0 w0)(vlist:Value)(list:List (BItem))(hlist:RdItems G0 vlist list)(path:Bs)(hpath:path.length≤16777216) :
  Calls Tryz.prog 169 #[vlist,str path] w0 (Rets w0 (.bool (Sp.l5Home list path))):=by
 obtain⟨alist,klist,rfl⟩:=hlist.shape
 have hlimlist:list.length≤1099511627776:=hlist.lim
 have H:=Hp.init hG
 refine calls_of_W (l:=[.slice alist list.length klist,str path]) func169 Z ntmps169 Z (q2 (aG Z (q1 (mV Z (xr H Z2 (l5Parent_c _ _ hpath) ?_)))));intro _ H
 refine aG Z (q1 (pe 2 Z ?_))
 refine xr H Z2 (l5At_c _ _ H.sub _ _ hlist _ (by (first|assumption|(refine Sp.l5Parent_lim ?_;assumption)|(simp;done)|(simp;omega)|omega))) ?_;intro _ H
 refine aG Z (q1 (mV Z (o_seql Z Z Z (mV Z ?_))))
 refine R_case (t:=14) Z ?_ ?_
 ·intro hc3
  try simp only[nrm]at hc3
  refine pe 3 Z (R_pass Z (yl_un Z Z) (R_pass Z (yl_un Z Z) (R_pass Z (yl_un Z Z) (R_pass Z (yl_un Z Z) (R_pass Z (yl_un Z Z) (pe 3 Z (q3 (W_ret (rt1 results169 Z ?_)))))))))
  exact H.rets (congrArg Value.bool (by simp[Sp.l5Home,hc3]))
 intro hc3'
 try simp only[nrm]at hc3'
 refine pe 3 Z ?_
 refine R_case (t:=17) Z ?_ ?_
 ·intro hc4
  try simp only[nrm]at hc4
  obtain⟨i,_,hi1,hi2,_,_,hi5⟩:=Sp.at_nat hc4
  refine pe 2 Z (gR Z (iP i hlist Z3 hi2 ?_));intro _ _ _ _ hz5 hE5 hrow5
  obtain⟨_,_,_,rfl,hi5,_,_,_⟩:=ox hE5
  refine gR Z (fA 1 Z (gR Z (lP H hrow5 1 Z2 (pe 3 Z (q3 (W_ret (rt1 results169 Z ?_)))))))
  exact H.rets (congrArg Value.bool (by simp[Sp.l5Home,hc3',Sp.atI,hi1,hz5]))
 intro hc4'
 try simp only[nrm]at hc4'
 refine pe 8 Z (q3 (W_ret (rt1 results169 Z ?_)))
 exact H.rets (congrArg Value.bool (by simp[Sp.l5Home,hc3',Sp.atI,Sp.at_none hc4']))
theorem l5Item_c (w0:World)(G0:PH)(hG:PSub G0 w0)(cx:List Value)(x:BItem)(hx:itemE G0 x cx) :
  Calls Tryz.prog 168 #[.agg cx.toArray] w0 (Rets w0 (.bool (Sp.l5Item x))):=by
 obtain⟨_,_,_,rfl,hi1,hr1,_,_⟩:=ox hx
 have H:=Hp.init hG
 refine calls_of_W (l:=[_]) func168 Z ntmps168 Z (q2 (o_box H Z Z Z ?_));intro b2 _ _ H
 refine aG Z (q3 (W_seq (q2 (aG Z (q3 (W_block ?_))))))
 obtain⟨ln3,hln3,H⟩:=H.name (k:=0) rfl
 refine W_lp (hf:=(Sub.cons (t:=1) Z Sub.nil)) (J:=fun M w m=>∃(k:Nat) (G:PH),M=[(3,.int .i64 (k:Int))]∧PLe G0 G∧Hp w0 G0 [] w G [blk b2 (cl ln3 35)]∧(k≤x.ids.length∧(x.ids.take k).all (Sp.idOk x.dir)=true)∧m=(x.ids.length-k)) (h0:=⟨0,_,Z,PLe.refl _,H,?inv,Z⟩) (round:=?round)
 case inv=>exact⟨by omega,by simp⟩
 case round =>
  rintro _ _ _ ⟨k,_,rfl,hle4,H,hinv4,rfl⟩
  subst hln3
  have hr1:=hr1.up hle4
  obtain⟨_,hall⟩:=hinv4
  refine W_seq (q2 (mV Z (fA 2 Z (lB 0 H Z3 (lN Z (pe 1 Z (q3 ?_)))))))
  refine W_cond Z ?_ ?_
  ·intro hc5
   try simp only[nrm]at hc5
   refine W_skip (N_K (W_seq (W_block (q2 (fA 1 Z (lB 0 H Z3 (mV Z ?_)))))))
   refine R_case (t:=13) Z ?_ ?_
   ·intro hc6
    try simp only[nrm]at hc6
    refine pe 8 Z (q3 (W_true Z (q2 (aG Z (q3 (W_ret (N_B_ret (N_K_ret (N_LP_ret (N_B_ret (N_K_ret (rt1 results168 Z ?_))))))))))))
    exact H.rets (congrArg Value.bool (by rw[Sp.l5Item,Sp.all_false (c:=x.ids[k]) (List.getElem?_eq_getElem oM) (by simp[Sp.idOk,hc6])];rfl))
   intro hc6'
   try simp only[nrm]at hc6'
   refine gR Z (fA 2 Z (gR Z (lB 0 H Z3 (pe 1 Z (gR Z (iP k hr1 Z3 Z ?_))))));intro _ _ _ _ hz7 hE7 hrow7
   obtain⟨rfl,_⟩:=hE7
   refine gR Z (lP H hrow7 0 Z2 (gR Z (xr H Z2 (l6In_c _ _ _ _) ?_)));intro _ H
   refine pe 2 Z (q3 ?_)
   refine W_cond Z ?_ ?_
   ·intro hc9
    try simp only[nrm]at hc9
    refine q2 (aG Z (q3 (W_ret (N_B_ret (N_K_ret (N_LP_ret (N_B_ret (N_K_ret (rt1 results168 Z ?_)))))))))
    exact H.rets (congrArg Value.bool (by rw[Sp.l5Item,Sp.all_false hz7 (by simp[Sp.idOk, *])];rfl))
   intro hc9'
   try simp only[nrm]at hc9'
   refine W_skip (N_B (N_K (W_region (mV Z (aD Z2 (aG Z (R_nil ?_)))))))
   refine N_lp (hJ:=⟨k+1,_,Z,hle4,H,?inv,Z⟩) (hm:=?hm)
   case hm=>omega
   case inv=>exact⟨by omega,Sp.all_take hall hz7 (by simp[Sp.idOk, *])⟩
  intro hc5'
  try simp only[nrm]at hc5'
  refine W_exit (N_K_exit (N_LP_exit (N_B_same (N_K (q2 (fA 0 Z (lB 0 H Z3 (xr H Z2 (PathValid_c _ _ H.sub _ hi1) ?_))))))));intro _ H
  refine mV Z ?_
  refine R_case (t:=25) Z ?_ ?_
  ·intro hc12
   try simp only[nrm]at hc12
   refine gR Z (fA 2 Z (gR Z (lB 0 H Z3 (gR Z (lN Z (pe 3 Z (q3 (W_ret (rt1 results168 Z ?_)))))))))
   obtain rfl:k=x.ids.length:=by omega
   rw[List.take_length]at hall
   exact H.rets (congrArg Value.bool (by simp only[Sp.l5Item,hall,hc12,Bool.true_and];rw[Bool.eq_iff_iff];simp;omega))
  intro hc12'
  try simp only[nrm]at hc12'
  refine pe 6 Z (q3 (W_ret (rt1 results168 Z ?_)))
  exact H.rets (congrArg Value.bool (by simp[Sp.l5Item,hc12']))
theorem TreeValid_c (w0:World)(G0:PH)(hG:PSub G0 w0)(vlist:Value)(list:List (BItem))(hlist:RdItems G0 vlist list) :
  Calls Tryz.prog 90 #[vlist] w0 (Rets w0 (.bool (Sp.TreeValid list))):=by
 obtain⟨alist,klist,rfl⟩:=hlist.shape
 have hlimlist:list.length≤1099511627776:=hlist.lim
 have H:=Hp.init hG
 refine calls_of_W (l:=[.slice alist list.length klist]) func90 Z ntmps90 Z (q2 (aG Z (q3 (W_seq (q2 (aG Z (q3 (W_block ?_))))))))
 refine W_lp (hf:=(Sub.cons (t:=0) Z Sub.nil)) (J:=fun M w m=>∃(k:Nat) (G:PH),M=[(3,.int .i64 (k:Int))]∧PLe G0 G∧Hp w0 G0 [] w G []∧(k≤list.length∧∀j,j<k→Sp.okT list j=true)∧m=(list.length-k)) (h0:=⟨0,_,Z,PLe.refl _,H,?inv,Z⟩) (round:=?round)
 case inv=>exact⟨by omega,fun j hj=>by omega⟩
 case round =>
  rintro _ _ _ ⟨k,G1,rfl,hle1,H,hinv1,rfl⟩
  have hlist:=hlist.up hle1
  obtain⟨_,hall⟩:=hinv1
  refine W_seq (q2 (pe 2 Z (lN Z (pe 1 Z (q3 ?_)))))
  refine W_cond Z ?_ ?_
  ·intro hc2
   try simp only[nrm]at hc2
   refine W_skip (N_K (W_seq (W_block (W_seq (W_drawK [] 34 H kR Z ?_)))));intro _ H;have hd3:=PLe.refl G1
   refine dE 0 Z2 (dE 1 Z2 ?_)
   have hl4:=hlist.len
   obtain⟨_,_,z4,q4,ha4,hz4,hq4,hE4,hrow4,_⟩:=hlist.at (i:=k) oM
   clear hq4
   obtain⟨_,_,_,rfl,hi4,hr4,_,_⟩:=ox hE4
   refine dI 2 3 k ha4 Z3 Z (RD_t 3 Z kR Z (fun _ hK=>v_loadagg_P hK isAgg35 sizeOf35 Z hrow4 Z) (r1 4 Z (xr H Z2 (l5Item_c _ _ H.sub _ _ ⟨_,_,_,Z,hi4,hr4⟩) ?_)));intro _ H
   refine q4 H hd3 (dE 5 Z2 (dE 6 Z2 ?_))
   refine RD_case (t:=16) Z ?_ ?_
   ·intro hc6
    try simp only[nrm]at hc6
    refine dE 7 Z2 (dE 8 Z2 (dE 9 Z2 (RD_pass 10 Z kR kR kR Z (yl_un Z Z) (RD_pass 11 Z kR kR kR Z (yl_un Z Z) (RD_pass 12 Z kR kR kR Z (yl_un Z Z) (RD_pass 13 Z kR kR kR Z (yl_un Z Z) (RD_pass 14 Z kR kR kR Z (yl_un Z Z) (RD_pass 15 Z kR kR kR Z (yl_un Z Z) (RD_pass 16 Z kR kR kR Z (yl_un Z Z) (RD_pass 17 Z kR kR kR Z (yl_un Z Z) (RD_pass 18 Z kR kR kR Z (yl_un Z Z) (RD_pass 19 Z kR kR kR Z (yl_un Z Z) (RD_pass 20 Z kR kR kR Z (yl_un Z Z) (RD_pass 21 Z kR kR kR Z (yl_un Z Z) (dE 22 Z2 ?_)))))))))))))))
    refine dE 23 Z2 (dE 24 Z2 (dE 25 Z2 (dE 26 Z2 (dE 27 Z2 (dE 28 Z2 (dE 29 Z2 (dE 30 Z2 (dE 31 Z2 (dE 32 Z2 (dE 33 Z2 (rz (N_K (W_true Z (q2 (aG Z ?_)))))))))))))))
    refine q3 (W_ret (N_B_ret (N_K_ret (N_LP_ret (N_B_ret (N_K_ret (rt1 results90 Z ?_)))))))
    exact H.rets (congrArg Value.bool (by rw[Sp.TreeValid,Sp.not_all_range (k:=k) oM (by rw[Sp.okT_at hz4];simp[Sp.prevLt, *])];rfl))
   intro hc6'
   try simp only[nrm]at hc6'
   refine dE 7 Z2 (dE 8 Z2 (dE 9 Z2 ?_))
   refine RD_case (t:=19) Z ?_ ?_
   ·intro hc7
    try simp only[nrm]at hc7
    have hk0:k≠0:=by omega
    refine dE 10 Z2 (dE 11 Z2 (RD_tg 12 Z kR Z (yl Z Z) (fun _ hK=>v_sub Z Z oO) ?_))
    have hl9:=hlist.len
    obtain⟨_,_,_,_,ha9,_,hq9,hE9,hrow9,_⟩:=hlist.at (i:=(k-1)) oM
    clear hq9
    obtain⟨_,_,_,rfl,_,_,_,_⟩:=ox hE9
    refine dI 13 3 (k-1) ha9 Z3 oM (dF 14 0 Z2 (dP 15 hrow9 0 Z3 (dE 16 Z2 (dE 17 Z2 ?_))))
    have hl10:=hlist.len
    obtain⟨_,_,z10,_,ha10,hz10,hq10,hE10,hrow10,_⟩:=hlist.at (i:=k) oM
    clear hq10
    obtain⟨_,_,_,rfl,_,_,_,_⟩:=ox hE10
    have hzz10:z4=z10:=Option.some.inj (hz4.symm.trans hz10)
    subst hzz10
    refine dI 18 3 k ha10 Z3 Z (dF 19 0 Z2 (dP 20 hrow10 0 Z3 (RD_tg 21 Z kR Z (yl Z Z) (fun _ hK=>v_sgeq Z Z) (dE 22 Z2 (dE 23 Z2 (dE 24 Z2 ?_))))))
    refine RD_case (t:=34) Z ?_ ?_
    ·intro hc11
     try simp only[nrm]at hc11
     refine dE 25 Z2 (dE 26 Z2 (dE 27 Z2 (dE 28 Z2 (dE 29 Z2 (dE 30 Z2 (dE 31 Z2 (dE 32 Z2 (dE 33 Z2 (rz (N_K (W_true Z (q2 (aG Z (q3 (W_ret ?_)))))))))))))))
     refine N_B_ret (N_K_ret (N_LP_ret (N_B_ret (N_K_ret (rt1 results90 Z ?_)))))
     exact H.rets (congrArg Value.bool (by rw[Sp.TreeValid,Sp.not_all_range (k:=k) oM (by rw[Sp.okT_at hz4];simp[Sp.prevLt, *])];rfl))
    intro hc11'
    try simp only[nrm]at hc11'
    refine dE 25 Z2 (dE 26 Z2 (dE 27 Z2 ?_))
    have hl12:=hlist.len
    obtain⟨_,_,z12,_,ha12,hz12,hq12,hE12,hrow12,_⟩:=hlist.at (i:=k) oM
    clear hq12
    obtain⟨_,_,_,rfl,hi12,_,_,_⟩:=ox hE12
    have hzz12:z4=z12:=Option.some.inj (hz4.symm.trans hz12)
    subst hzz12
    refine dI 28 3 k ha12 Z3 Z (dF 29 0 Z2 (dP 30 hrow12 0 Z3 (r1 31 Z (gR Z (xr H Z2 (l5Home_c _ _ H.sub _ _ hlist _ hi12) ?_)))));intro _ H
    refine q4 H hd3 (dE 32 Z2 (dE 33 Z2 (rz (N_K ?_))))
    refine W_cond Z ?_ ?_
    ·intro hc14
     try simp only[nrm]at hc14
     refine q2 (aG Z (q3 (W_ret (N_B_ret (N_K_ret (N_LP_ret (N_B_ret (N_K_ret (rt1 results90 Z ?_)))))))))
     exact H.rets (congrArg Value.bool (by rw[Sp.TreeValid,Sp.not_all_range (k:=k) oM (by rw[Sp.okT_at hz4];simp[Sp.prevLt, *])];rfl))
    intro hc14'
    try simp only[nrm]at hc14'
    refine W_skip (N_B (N_K (W_region (mV Z (aD Z2 (aG Z (R_nil ?_)))))))
    refine N_lp (hJ:=⟨k+1,_,Z,hle1,H,?inv,Z⟩) (hm:=?hm)
    case hm=>omega
    case inv=>exact⟨by omega,Sp.upto_succ hall (by rw[Sp.okT_at hz4];simp[Sp.prevLt, *])⟩
   intro hc7'
   try simp only[nrm]at hc7'
   have hk0:k=0:=by omega
   refine dE 10 Z2 (dE 11 Z2 (dE 12 Z2 (dE 13 Z2 (dE 14 Z2 (dE 15 Z2 (dE 16 Z2 (dE 17 Z2 (dE 18 Z2 (dE 19 Z2 (dE 20 Z2 (dE 21 Z2 (dE 22 Z2 (dE 23 Z2 (dE 24 Z2 (dE 25 Z2 ?_)))))))))))))))
   refine dE 26 Z2 (dE 27 Z2 ?_)
   have hl16:=hlist.len
   obtain⟨_,_,z16,_,ha16,hz16,hq16,hE16,hrow16,_⟩:=hlist.at (i:=k) oM
   clear hq16
   obtain⟨_,_,_,rfl,hi16,_,_,_⟩:=ox hE16
   have hzz16:z4=z16:=Option.some.inj (hz4.symm.trans hz16)
   subst hzz16
   refine dI 28 3 k ha16 Z3 Z (dF 29 0 Z2 (dP 30 hrow16 0 Z3 (r1 31 Z (gR Z (xr H Z2 (l5Home_c _ _ H.sub _ _ hlist _ hi16) ?_)))));intro _ H
   refine q4 H hd3 (dE 32 Z2 (dE 33 Z2 (rz (N_K ?_))))
   refine W_cond Z ?_ ?_
   ·intro hc18
    try simp only[nrm]at hc18
    refine q2 (aG Z (q3 (W_ret (N_B_ret (N_K_ret (N_LP_ret (N_B_ret (N_K_ret (rt1 results90 Z ?_)))))))))
    exact H.rets (congrArg Value.bool (by rw[Sp.TreeValid,Sp.not_all_range (k:=k) oM (by rw[Sp.okT_at hz4];simp[Sp.prevLt, *])];rfl))
   intro hc18'
   try simp only[nrm]at hc18'
   refine W_skip (N_B (N_K (W_region (mV Z (aD Z2 (aG Z (R_nil ?_)))))))
   refine N_lp (hJ:=⟨k+1,_,Z,hle1,H,?inv,Z⟩) (hm:=?hm)
   case hm=>omega
   case inv=>exact⟨by omega,Sp.upto_succ hall (by rw[Sp.okT_at hz4];simp[Sp.prevLt, *])⟩
  intro hc2'
  try simp only[nrm]at hc2'
  refine W_exit (N_K_exit (N_LP_exit (N_B_same (N_K (q2 (mV Z (lN Z (pe 2 Z (q3 (W_ret (rt1 results90 Z ?_)))))))))))
  exact H.rets (congrArg Value.bool (by rw[Sp.TreeValid,Sp.all_range (fun j hj=>hall j oM),Bool.true_and];rw[Bool.eq_iff_iff];simp;omega))
theorem l2Same_c (w0:World)(G0:PH)(hG:PSub G0 w0)(va:Value)(a:List (Int))(ha:RdI G0 va a)(vb:Value)(b:List (Int))(hb:RdI G0 vb b) :
  Calls Tryz.prog 167 #[va,vb] w0 (Rets w0 (.bool (Sp.l2Same a b))):=by
 obtain⟨aa,ka,rfl⟩:=ha.shape
 have hlima:a.length≤1099511627776:=ha.lim
 obtain⟨ab,kb,rfl⟩:=hb.shape
 have hlimb:b.length≤1099511627776:=hb.lim
 have H:=Hp.init hG
 refine calls_of_W (l:=[.slice aa a.length ka,.slice ab b.length kb]) func167 Z ntmps167 Z (q2 (aG Z (q3 (W_seq (q2 (mV Z (lN Z (mV Z (lN Z (pe 1 Z (q3 ?_)))))))))))
 refine W_cond Z ?_ ?_
 ·intro hc1
  try simp only[nrm]at hc1
  refine q2 (aG Z (q3 (W_ret (N_K_ret (rt1 results167 Z ?_)))))
  exact H.rets (congrArg Value.bool (by unfold Sp.l2Same;exact Sp.ne_len oM))
 intro hc1'
 try simp only[nrm]at hc1'
 refine W_skip (N_K (W_seq (q2 (aG Z (q3 (W_block ?_))))))
 refine W_lp (hf:=(Sub.cons (t:=0) Z (Sub.cons (t:=1) Z Sub.nil))) (J:=fun M w m=>∃(k:Nat) (G:PH),M=[(5,.int .i64 (k:Int))]∧PLe G0 G∧Hp w0 G0 [] w G []∧(k≤a.length∧a.take k=b.take k)∧m=(a.length-k)) (h0:=⟨0,_,Z,PLe.refl _,H,?inv,Z⟩) (round:=?round)
 case inv=>exact⟨by omega,by simp⟩
 case round =>
  rintro _ _ _ ⟨k,G2,rfl,hle2,H,hinv2,rfl⟩
  have ha:=ha.up hle2
  have hb:=hb.up hle2
  obtain⟨_,hall⟩:=hinv2
  refine W_seq (q2 (pe 2 Z (lN Z (pe 1 Z (q3 ?_)))))
  refine W_cond Z ?_ ?_
  ·intro hc3
   try simp only[nrm]at hc3
   refine W_skip (N_K (W_seq (W_block (W_seq (W_drawK [] 9 H kR Z ?_)))));intro _ H;have hd4:=PLe.refl G2
   refine dE 0 Z2 (dE 1 Z2 ?_)
   have hl5:=ha.len
   obtain⟨_,_,_,_,ha5,hz5,hq5,hE5,hrow5,_⟩:=ha.at (i:=k) oM
   clear hq5
   obtain⟨rfl,_⟩:=hE5
   refine dI 2 1 k ha5 Z3 Z (dP 3 hrow5 0 Z3 (dE 4 Z2 (dE 5 Z2 ?_)))
   have hl6:=hb.len
   obtain⟨_,_,_,_,ha6,hz6,hq6,hE6,hrow6,_⟩:=hb.at (i:=k) oM
   clear hq6
   obtain⟨rfl,_⟩:=hE6
   refine dI 6 1 k ha6 Z3 Z (dP 7 hrow6 0 Z3 (dE 8 Z2 (rz (N_K ?_))))
   refine W_cond Z ?_ ?_
   ·intro hc7
    try simp only[nrm]at hc7
    refine q2 (aG Z (q3 (W_ret (N_B_ret (N_K_ret (N_LP_ret (N_B_ret (N_K_ret (rt1 results167 Z ?_)))))))))
    exact H.rets (congrArg Value.bool (by unfold Sp.l2Same;exact Sp.ne_at hz5 hz6 oM))
   intro hc7'
   try simp only[nrm]at hc7'
   refine W_skip (N_B (N_K (W_region (mV Z (aD Z2 (aG Z (R_nil ?_)))))))
   refine N_lp (hJ:=⟨k+1,_,Z,hle2,H,?inv,Z⟩) (hm:=?hm)
   case hm=>omega
   case inv=>exact⟨by omega,Sp.take_eq hall hz5 (by rw[hz6];congr 1;omega)⟩
  intro hc3'
  try simp only[nrm]at hc3'
  refine W_exit (N_K_exit (N_LP_exit (N_B_same (N_K (q2 (aG Z (q3 (W_ret (rt1 results167 Z ?_)))))))))
  exact H.rets (congrArg Value.bool (by unfold Sp.l2Same;exact Sp.eq_all hall oM oM))
theorem BlockValid_c (w0:World)(G0:PH)(hG:PSub G0 w0)(vbytes:Value)(bytes:List (Int))(hbytes:RdI G0 vbytes bytes) :
  Calls Tryz.prog 166 #[vbytes] w0 (Rets w0 (.bool (Sp.BlockValid bytes))):=by
 obtain⟨abytes,kbytes,rfl⟩:=hbytes.shape
 have hlimbytes:bytes.length≤1099511627776:=hbytes.lim
 have H:=Hp.init hG
 refine calls_of_W (l:=[.slice abytes bytes.length kbytes]) func166 Z ntmps166 Z (q2 (aG Z (q3 (W_seq (q2 (aG Z (q3 (W_block ?_))))))))
 refine W_lp (hf:=(Sub.cons (t:=0) Z Sub.nil)) (J:=fun M w m=>∃(k:Nat) (G:PH),M=[(3,.int .i64 (k:Int))]∧PLe G0 G∧Hp w0 G0 [] w G []∧(k≤bytes.length∧(bytes.take k).all Sp.byteOk=true)∧m=(bytes.length-k)) (h0:=⟨0,_,Z,PLe.refl _,H,?inv,Z⟩) (round:=?round)
 case inv=>exact⟨by omega,by simp⟩
 case round =>
  rintro _ _ _ ⟨k,_,rfl,hle1,H,hinv1,rfl⟩
  have hbytes:=hbytes.up hle1
  obtain⟨_,hall⟩:=hinv1
  refine W_seq (q2 (pe 2 Z (lN Z (pe 1 Z (q3 ?_)))))
  refine W_cond Z ?_ ?_
  ·intro hc2
   try simp only[nrm]at hc2
   refine W_skip (N_K (W_seq (W_block (q2 (pe 2 Z (iP k hbytes Z3 Z ?_))))));intro _ _ _ _ hz3 hE3 hrow3
   obtain⟨rfl,_⟩:=hE3
   refine lP H hrow3 0 Z2 (xr H Z2 (l6In_c _ _ _ _) ?_);intro _ H
   refine pe 1 Z (q3 ?_)
   refine W_cond Z ?_ ?_
   ·intro hc5
    try simp only[nrm]at hc5
    refine q2 (aG Z (q3 (W_ret (N_B_ret (N_K_ret (N_LP_ret (N_B_ret (N_K_ret (rt1 results166 Z ?_)))))))))
    exact H.rets (congrArg Value.bool (by rw[Sp.BlockValid,Sp.all_false hz3 (by simp[Sp.byteOk, *])];rfl))
   intro hc5'
   try simp only[nrm]at hc5'
   refine W_skip (N_B (N_K (W_region (mV Z (aD Z2 (aG Z (R_nil ?_)))))))
   refine N_lp (hJ:=⟨k+1,_,Z,hle1,H,?inv,Z⟩) (hm:=?hm)
   case hm=>omega
   case inv=>exact⟨by omega,Sp.all_take hall hz3 (by simp[Sp.byteOk, *])⟩
  intro hc2'
  try simp only[nrm]at hc2'
  refine W_exit (N_K_exit (N_LP_exit (N_B_same (N_K (q2 (mV Z (lN Z (xr H Z2 (l6In_c _ _ _ _) ?_))))))));intro _ H
  refine aG Z (q3 (W_ret (rt1 results166 Z ?_)))
  obtain rfl:k=bytes.length:=by omega
  rw[List.take_length]at hall
  exact H.rets (congrArg Value.bool (by simp only[Sp.BlockValid,hall,Bool.true_and]))
theorem FileValid_c (w0:World)(G0:PH)(hG:PSub G0 w0)(vbytes:Value)(bytes:List (Int))(hbytes:RdI G0 vbytes bytes) :
  Calls Tryz.prog 175 #[vbytes] w0 (Rets w0 (.bool (Sp.FileValid bytes))):=by
 obtain⟨abytes,kbytes,rfl⟩:=hbytes.shape
 have hlimbytes:bytes.length≤1099511627776:=hbytes.lim
 have H:=Hp.init hG
 refine calls_of_W (l:=[.slice abytes bytes.length kbytes]) func175 Z ntmps175 Z (q2 (aG Z (q3 (W_seq (q2 (aG Z (q3 (W_block ?_))))))))
 refine W_lp (hf:=(Sub.cons (t:=0) Z Sub.nil)) (J:=fun M w m=>∃(k:Nat) (G:PH),M=[(3,.int .i64 (k:Int))]∧PLe G0 G∧Hp w0 G0 [] w G []∧(k≤bytes.length∧(bytes.take k).all Sp.byteOk=true)∧m=(bytes.length-k)) (h0:=⟨0,_,Z,PLe.refl _,H,?inv,Z⟩) (round:=?round)
 case inv=>exact⟨by omega,by simp⟩
 case round =>
  rintro _ _ _ ⟨k,_,rfl,hle1,H,hinv1,rfl⟩
  have hbytes:=hbytes.up hle1
  obtain⟨_,hall⟩:=hinv1
  refine W_seq (q2 (pe 2 Z (lN Z (pe 1 Z (q3 ?_)))))
  refine W_cond Z ?_ ?_
  ·intro hc2
   try simp only[nrm]at hc2
   refine W_skip (N_K (W_seq (W_block (q2 (pe 2 Z (iP k hbytes Z3 Z ?_))))));intro _ _ _ _ hz3 hE3 hrow3
   obtain⟨rfl,_⟩:=hE3
   refine lP H hrow3 0 Z2 (xr H Z2 (l6In_c _ _ _ _) ?_);intro _ H
   refine pe 1 Z (q3 ?_)
   refine W_cond Z ?_ ?_
   ·intro hc5
    try simp only[nrm]at hc5
    refine q2 (aG Z (q3 (W_ret (N_B_ret (N_K_ret (N_LP_ret (N_B_ret (N_K_ret (rt1 results175 Z ?_)))))))))
    exact H.rets (congrArg Value.bool (by rw[Sp.FileValid,Sp.all_false hz3 (by simp[Sp.byteOk, *])];rfl))
   intro hc5'
   try simp only[nrm]at hc5'
   refine W_skip (N_B (N_K (W_region (mV Z (aD Z2 (aG Z (R_nil ?_)))))))
   refine N_lp (hJ:=⟨k+1,_,Z,hle1,H,?inv,Z⟩) (hm:=?hm)
   case hm=>omega
   case inv=>exact⟨by omega,Sp.all_take hall hz3 (by simp[Sp.byteOk, *])⟩
  intro hc2'
  try simp only[nrm]at hc2'
  refine W_exit (N_K_exit (N_LP_exit (N_B_same (N_K (q2 (mV Z (lN Z (pe 2 Z (q3 (W_ret (rt1 results175 Z ?_)))))))))))
  obtain rfl:k=bytes.length:=by omega
  rw[List.take_length]at hall
  exact H.rets (congrArg Value.bool (by simp only[Sp.FileValid,hall,Bool.true_and];rw[Bool.eq_iff_iff];simp;omega))
theorem StoreValid_c (w0:World)(G0:PH)(hG:PSub G0 w0)(vlist:Value)(list:List (BHeld))(hlist:RdH G0 vlist list) :
  Calls Tryz.prog 89 #[vlist] w0 (Rets w0 (.bool (Sp.StoreValid list))):=by
 obtain⟨alist,klist,rfl⟩:=hlist.shape
 have hlimlist:list.length≤1099511627776:=hlist.lim
 have H:=Hp.init hG
 refine calls_of_W (l:=[.slice alist list.length klist]) func89 Z ntmps89 Z (q2 (aG Z (q3 (W_seq (q2 (aG Z (q3 (W_block ?_))))))))
 refine W_lp (hf:=(Sub.cons (t:=0) Z Sub.nil)) (J:=fun M w m=>∃(k:Nat) (G:PH),M=[(3,.int .i64 (k:Int))]∧PLe G0 G∧Hp w0 G0 [] w G []∧(k≤list.length∧∀j,j<k→Sp.okH list j=true)∧m=(list.length-k)) (h0:=⟨0,_,Z,PLe.refl _,H,?inv,Z⟩) (round:=?round)
 case inv=>exact⟨by omega,fun j hj=>by omega⟩
 case round =>
  rintro _ _ _ ⟨k,G1,rfl,hle1,H,hinv1,rfl⟩
  have hlist:=hlist.up hle1
  obtain⟨_,hall⟩:=hinv1
  refine W_seq (q2 (pe 2 Z (lN Z (pe 1 Z (q3 ?_)))))
  refine W_cond Z ?_ ?_
  ·intro hc2
   try simp only[nrm]at hc2
   refine W_skip (N_K (W_seq (W_block (q2 (pe 2 Z (iP k hlist Z3 Z ?_))))));intro _ _ z3 _ hz3 hE3 hrow3
   obtain⟨_,_,_,rfl,_,hr3,_,_,_⟩:=ox hE3
   refine o_loadagg_P H isAgg153 sizeOf153 Z Z hrow3 Z (xal H Z ?_);intro b4 _ _ H
   refine xst 0 H Z8 ?_;intro _ H
   refine q3 (W_seq (W_seq (W_drawK [0] 31 H kR Z ?_)));intro _ H;have hd6:=PLe.refl G1
   refine dF 0 0 Z2 (dB 1 0 Z4 (r1 2 Z (xr H Z2 (l6In_c _ _ _ _) ?_)));intro _ H
   refine q4 H hd6 (dE 3 Z2 (dE 4 Z2 ?_))
   refine RD_case (t:=20) Z ?_ ?_
   ·intro hc8
    try simp only[nrm]at hc8
    refine dE 5 Z2 (dE 6 Z2 (dE 7 Z2 (dE 8 Z2 (dE 9 Z2 (dE 10 Z2 (dE 11 Z2 (dE 12 Z2 (dE 13 Z2 (dE 14 Z2 (dE 15 Z2 (dE 16 Z2 (dE 17 Z2 (dE 18 Z2 (dE 19 Z2 (RD_pass 20 Z kR kR kR Z (yl_un Z Z) ?_)))))))))))))))
    refine RD_pass 21 Z kR kR kR Z (yl_un Z Z) (RD_pass 22 Z kR kR kR Z (yl_un Z Z) (RD_pass 23 Z kR kR kR Z (yl_un Z Z) (RD_pass 24 Z kR kR kR Z (yl_un Z Z) (RD_pass 25 Z kR kR kR Z (yl_un Z Z) (RD_pass 26 Z kR kR kR Z (yl_un Z Z) (RD_pass 27 Z kR kR kR Z (yl_un Z Z) (RD_pass 28 Z kR kR kR Z (yl_un Z Z) (dE 29 Z2 (dE 30 Z2 (rz (N_K (W_true Z (q2 (aG Z (q3 ?_)))))))))))))))
    refine W_ret (N_K_ret (N_B_ret (N_K_ret (N_LP_ret (N_B_ret (N_K_ret (rt1 results89 Z ?_)))))))
    exact H.rets (congrArg Value.bool (by rw[Sp.StoreValid,Sp.not_all_range (k:=k) oM (by rw[Sp.okH_at hz3];simp[Sp.prevId, *])];rfl))
   intro hc8'
   try simp only[nrm]at hc8'
   refine dF 5 1 Z2 (dB 6 0 Z4 (r1 7 Z (gR Z (xr H Z2 (BlockValid_c _ _ H.sub _ _ hr3) ?_))));intro _ H
   refine q4 H hd6 (dE 8 Z2 (dE 9 Z2 (dE 10 Z2 ?_)))
   refine RD_case (t:=26) Z ?_ ?_
   ·intro hc10
    try simp only[nrm]at hc10
    refine dE 11 Z2 (dE 12 Z2 (dE 13 Z2 (dE 14 Z2 (dE 15 Z2 (dE 16 Z2 (dE 17 Z2 (dE 18 Z2 (dE 19 Z2 (RD_pass 20 Z kR kR kR Z (yl_un Z Z) (RD_pass 21 Z kR kR kR Z (yl_un Z Z) (RD_pass 22 Z kR kR kR Z (yl_un Z Z) (RD_pass 23 Z kR kR kR Z (yl_un Z Z) (RD_pass 24 Z kR kR kR Z (yl_un Z Z) (RD_pass 25 Z kR kR kR Z (yl_un Z Z) (RD_pass 26 Z kR kR kR Z (yl_un Z Z) ?_)))))))))))))))
    refine RD_pass 27 Z kR kR kR Z (yl_un Z Z) (RD_pass 28 Z kR kR kR Z (yl_un Z Z) (dE 29 Z2 (dE 30 Z2 (rz (N_K (W_true Z (q2 (aG Z (q3 (W_ret (N_K_ret (N_B_ret (N_K_ret (N_LP_ret (N_B_ret ?_)))))))))))))))
    refine N_K_ret (rt1 results89 Z ?_)
    exact H.rets (congrArg Value.bool (by rw[Sp.StoreValid,Sp.not_all_range (k:=k) oM (by rw[Sp.okH_at hz3];simp[Sp.prevId, *])];rfl))
   intro hc10'
   try simp only[nrm]at hc10'
   refine dF 11 2 Z2 (dB 12 0 Z4 (r1 13 Z (gR Z (xr H Z2 (l6In_c _ _ _ _) ?_))));intro _ H
   refine q4 H hd6 (dE 14 Z2 (dE 15 Z2 (dE 16 Z2 ?_)))
   refine RD_case (t:=32) Z ?_ ?_
   ·intro hc12
    try simp only[nrm]at hc12
    refine dE 17 Z2 (dE 18 Z2 (dE 19 Z2 (RD_pass 20 Z kR kR kR Z (yl_un Z Z) (RD_pass 21 Z kR kR kR Z (yl_un Z Z) (RD_pass 22 Z kR kR kR Z (yl_un Z Z) (RD_pass 23 Z kR kR kR Z (yl_un Z Z) (RD_pass 24 Z kR kR kR Z (yl_un Z Z) (RD_pass 25 Z kR kR kR Z (yl_un Z Z) (RD_pass 26 Z kR kR kR Z (yl_un Z Z) (RD_pass 27 Z kR kR kR Z (yl_un Z Z) (RD_pass 28 Z kR kR kR Z (yl_un Z Z) (dE 29 Z2 (dE 30 Z2 (rz (N_K ?_)))))))))))))))
    refine W_true Z (q2 (aG Z (q3 (W_ret (N_K_ret (N_B_ret (N_K_ret (N_LP_ret (N_B_ret (N_K_ret (rt1 results89 Z ?_)))))))))))
    exact H.rets (congrArg Value.bool (by rw[Sp.StoreValid,Sp.not_all_range (k:=k) oM (by rw[Sp.okH_at hz3];simp[Sp.prevId, *])];rfl))
   intro hc12'
   try simp only[nrm]at hc12'
   refine dE 17 Z2 (dE 18 Z2 (dE 19 Z2 ?_))
   refine RD_case (t:=35) Z ?_ ?_
   ·intro hc13
    try simp only[nrm]at hc13
    have hk0:k≠0:=by omega
    refine dE 20 Z2 (dE 21 Z2 (RD_tg 22 Z kR Z (yl Z Z) (fun _ hK=>v_sub Z Z oO) ?_))
    have hl15:=hlist.len
    obtain⟨_,_,_,_,ha15,_,hq15,hE15,hrow15,_⟩:=hlist.at (i:=(k-1)) oM
    clear hq15
    obtain⟨_,_,_,rfl,_,hr15,_,_,_⟩:=ox hE15
    refine dI 23 3 (k-1) ha15 Z3 oM (dF 24 0 Z2 (dP 25 hrow15 0 Z3 (dF 26 0 Z2 (dB 27 0 Z4 (dE 28 Z2 (dE 29 Z2 (dE 30 Z2 (rz (N_K ?_)))))))))
    refine W_cond Z ?_ ?_
    ·intro hc16
     try simp only[nrm]at hc16
     refine q2 (aG Z (q3 (W_ret (N_K_ret (N_B_ret (N_K_ret (N_LP_ret (N_B_ret (N_K_ret (rt1 results89 Z ?_))))))))))
     exact H.rets (congrArg Value.bool (by rw[Sp.StoreValid,Sp.not_all_range (k:=k) oM (by rw[Sp.okH_at hz3];simp[Sp.prevId, *];intro _;omega)];rfl))
    intro hc16'
    try simp only[nrm]at hc16'
    refine W_skip (N_K (q2 (aG Z (q3 (W_block ?_)))))
    obtain⟨ln17,hln17,H⟩:=H.name (k:=0) rfl
    refine W_lp (hf:=(Sub.cons (t:=0) Z (Sub.cons (t:=3) Z (Sub.cons (t:=4) Z Sub.nil)))) (J:=fun M w m=>∃(i:Nat) (G:PH),M=[(5,.int .i64 (i:Int))]∧PLe G1 G∧Hp w0 G0 [] w G [blk b4 (cl ln17 153)]∧(i≤k∧(list.take i).all (fun g=> !Sp.l2Same g.bytes z3.bytes)=true)∧m=(k-i)) (h0:=⟨0,_,Z,PLe.refl _,H,?inv,Z⟩) (round:=?round)
    case inv=>exact⟨by omega,by simp⟩
    case round =>
     rintro _ _ _ ⟨i,G18,rfl,hle18,H,hinv18,rfl⟩
     subst hln17
     have hlist:=hlist.up hle18
     have hr3:=hr3.up hle18
     have hle1:=hle1.trans hle18
     obtain⟨hi,hall2⟩:=hinv18
     refine W_seq (q2 (pe 3 Z (q3 ?_)))
     refine W_cond Z ?_ ?_
     ·intro hc19
      try simp only[nrm]at hc19
      refine W_skip (N_K (W_seq (W_block (W_seq (W_drawK [0] 8 H kR Z ?_)))));intro _ H;have hd20:=PLe.refl G18
      refine dE 0 Z2 (dE 1 Z2 ?_)
      have hl21:=hlist.len
      obtain⟨_,_,_,_,ha21,hz21,hq21,hE21,hrow21,_⟩:=hlist.at (i:=i) oM
      clear hq21
      obtain⟨_,_,_,rfl,_,hr21,_,_,_⟩:=ox hE21
      refine dI 2 3 i ha21 Z3 Z (dF 3 1 Z2 (dP 4 hrow21 1 Z3 (dF 5 1 Z2 (dB 6 0 Z4 (r1 7 Z (xr H Z2 (l2Same_c _ _ H.sub _ _ hr21 _ _ hr3) ?_))))));intro _ H
      refine q4 H hd20 (rz (N_K ?_))
      refine W_cond Z ?_ ?_
      ·intro hc23
       try simp only[nrm]at hc23
       refine q2 (aG Z (q3 (W_ret (N_B_ret (N_K_ret (N_LP_ret (N_B_ret (N_B_ret (N_K_ret (N_LP_ret (N_B_ret (N_K_ret (rt1 results89 Z ?_)))))))))))))
       exact H.rets (congrArg Value.bool (by rw[Sp.StoreValid,Sp.not_all_range (k:=k) oM (by rw[Sp.okH_at hz3,Sp.all_false (l:=list.take k) (k:=i) (by rw[List.getElem?_take,if_pos oM];exact hz21) (by simp[*])];simp)];rfl))
      intro hc23'
      try simp only[nrm]at hc23'
      refine W_skip (N_B (N_K (W_region (mV Z (aD Z2 (aG Z (R_nil ?_)))))))
      refine N_lp (hJ:=⟨i+1,_,Z,hle18,H,?inv,Z⟩) (hm:=?hm)
      case hm=>omega
      case inv=>exact⟨by omega,Sp.all_take hall2 hz21 (by simp[*])⟩
     intro hc19'
     try simp only[nrm]at hc19'
     refine W_exit (N_K_exit (N_LP_exit (N_B_same (N_B (N_K (W_region (mV Z (aD Z2 (aG Z (R_nil ?_))))))))))
     have H:=H.dl 0
     refine N_lp (hJ:=⟨k+1,_,Z,hle1,H,?inv,Z⟩) (hm:=?hm)
     case hm=>omega
     case inv=>exact⟨by omega,Sp.upto_succ hall (by (obtain rfl:i=k:=by omega);rw[Sp.okH_at hz3,hall2];simp[Sp.prevId, *])⟩
   intro hc13'
   try simp only[nrm]at hc13'
   have hk0:k=0:=by omega
   refine dE 20 Z2 (dE 21 Z2 (dE 22 Z2 (dE 23 Z2 (dE 24 Z2 (dE 25 Z2 (dE 26 Z2 (dE 27 Z2 (dE 28 Z2 (dE 29 Z2 (dE 30 Z2 (rz (N_K (W_false Z (W_skip (N_K ?_)))))))))))))))
   refine q2 (aG Z (q3 (W_block ?_)))
   obtain⟨ln26,hln26,H⟩:=H.name (k:=0) rfl
   refine W_lp (hf:=(Sub.cons (t:=0) Z (Sub.cons (t:=3) Z (Sub.cons (t:=4) Z Sub.nil)))) (J:=fun M w m=>∃(i:Nat) (G:PH),M=[(5,.int .i64 (i:Int))]∧PLe G1 G∧Hp w0 G0 [] w G [blk b4 (cl ln26 153)]∧(i≤k∧(list.take i).all (fun g=> !Sp.l2Same g.bytes z3.bytes)=true)∧m=(k-i)) (h0:=⟨0,_,Z,PLe.refl _,H,?inv,Z⟩) (round:=?round)
   case inv=>exact⟨by omega,by simp⟩
   case round =>
    rintro _ _ _ ⟨i,G27,rfl,hle27,H,hinv27,rfl⟩
    subst hln26
    have hlist:=hlist.up hle27
    have hr3:=hr3.up hle27
    have hle1:=hle1.trans hle27
    obtain⟨hi,hall2⟩:=hinv27
    refine W_seq (q2 (pe 3 Z (q3 ?_)))
    refine W_cond Z ?_ ?_
    ·intro hc28
     try simp only[nrm]at hc28
     refine W_skip (N_K (W_seq (W_block (W_seq (W_drawK [0] 8 H kR Z ?_)))));intro _ H;have hd29:=PLe.refl G27
     refine dE 0 Z2 (dE 1 Z2 ?_)
     have hl30:=hlist.len
     obtain⟨_,_,_,_,ha30,hz30,hq30,hE30,hrow30,_⟩:=hlist.at (i:=i) oM
     clear hq30
     obtain⟨_,_,_,rfl,_,hr30,_,_,_⟩:=ox hE30
     refine dI 2 3 i ha30 Z3 Z (dF 3 1 Z2 (dP 4 hrow30 1 Z3 (dF 5 1 Z2 (dB 6 0 Z4 (r1 7 Z (xr H Z2 (l2Same_c _ _ H.sub _ _ hr30 _ _ hr3) ?_))))));intro _ H
     refine q4 H hd29 (rz (N_K ?_))
     refine W_cond Z ?_ ?_
     ·intro hc32
      try simp only[nrm]at hc32
      refine q2 (aG Z (q3 (W_ret (N_B_ret (N_K_ret (N_LP_ret (N_B_ret (N_B_ret (N_K_ret (N_LP_ret (N_B_ret (N_K_ret (rt1 results89 Z ?_)))))))))))))
      exact H.rets (congrArg Value.bool (by rw[Sp.StoreValid,Sp.not_all_range (k:=k) oM (by rw[Sp.okH_at hz3,Sp.all_false (l:=list.take k) (k:=i) (by rw[List.getElem?_take,if_pos oM];exact hz30) (by simp[*])];simp)];rfl))
     intro hc32'
     try simp only[nrm]at hc32'
     refine W_skip (N_B (N_K (W_region (mV Z (aD Z2 (aG Z (R_nil ?_)))))))
     refine N_lp (hJ:=⟨i+1,_,Z,hle27,H,?inv,Z⟩) (hm:=?hm)
     case hm=>omega
     case inv=>exact⟨by omega,Sp.all_take hall2 hz30 (by simp[*])⟩
    intro hc28'
    try simp only[nrm]at hc28'
    refine W_exit (N_K_exit (N_LP_exit (N_B_same (N_B (N_K (W_region (mV Z (aD Z2 (aG Z (R_nil ?_))))))))))
    have H:=H.dl 0
    refine N_lp (hJ:=⟨k+1,_,Z,hle1,H,?inv,Z⟩) (hm:=?hm)
    case hm=>omega
    case inv=>exact⟨by omega,Sp.upto_succ hall (by (obtain rfl:i=k:=by omega);rw[Sp.okH_at hz3,hall2];simp[Sp.prevId, *])⟩
  intro hc2'
  try simp only[nrm]at hc2'
  refine W_exit (N_K_exit (N_LP_exit (N_B_same (N_K (q2 (mV Z (lN Z (pe 2 Z (q3 (W_ret (rt1 results89 Z ?_)))))))))))
  exact H.rets (congrArg Value.bool (by rw[Sp.StoreValid,Sp.all_range (fun j hj=>hall j oM),Bool.true_and];rw[Bool.eq_iff_iff];simp;omega))
theorem l3At_c (w0:World)(G0:PH)(hG:PSub G0 w0)(vlist:Value)(list:List (BHeld))(hlist:RdH G0 vlist list)(id:Int) :
  Calls Tryz.prog 205 #[vlist,.int .i64 id] w0 (Rets w0 (.int .i64 (Sp.l3At list id))):=by
 obtain⟨alist,klist,rfl⟩:=hlist.shape
 have hlimlist:list.length≤1099511627776:=hlist.lim
 have H:=Hp.init hG
 refine calls_of_W (l:=[.slice alist list.length klist,.int .i64 id]) func205 Z ntmps205 Z (q2 (aG Z (q3 (W_seq (q2 (aG Z (q3 (W_block ?_))))))))
 refine W_lp (hf:=(Sub.cons (t:=0) Z (Sub.cons (t:=1) Z Sub.nil))) (J:=fun M w m=>∃(k:Nat) (G:PH),M=[(5,.int .i64 (k:Int))]∧PLe G0 G∧Hp w0 G0 [] w G []∧(k≤list.length∧(∀j,j<k→∀y,list[j]? = some y→decide (y.id=id)=false))∧m=(list.length-k)) (h0:=⟨0,_,Z,PLe.refl _,H,?inv,Z⟩) (round:=?round)
 case inv=>exact⟨by omega,fun j hj=>by omega⟩
 case round =>
  rintro _ _ _ ⟨k,_,rfl,hle1,H,hinv1,rfl⟩
  have hlist:=hlist.up hle1
  obtain⟨_,hall⟩:=hinv1
  refine W_seq (q2 (pe 2 Z (lN Z (pe 1 Z (q3 ?_)))))
  refine W_cond Z ?_ ?_
  ·intro hc2
   try simp only[nrm]at hc2
   refine W_skip (N_K (W_seq (W_block (q2 (pe 2 Z (iP k hlist Z3 Z ?_))))));intro _ _ _ _ hz3 hE3 hrow3
   obtain⟨_,_,_,rfl,_,_,_,_,_⟩:=ox hE3
   refine fA 0 Z (lP H hrow3 0 Z2 (pe 2 Z (q3 ?_)))
   refine W_cond Z ?_ ?_
   ·intro hc4
    try simp only[nrm]at hc4
    refine q2 (pe 2 Z (q3 (W_ret (N_B_ret (N_K_ret (N_LP_ret (N_B_ret (N_K_ret (rt1 results205 Z ?_)))))))))
    exact H.rets (congrArg (Value.int .i64) (by rw[Sp.l3At,Sp.atH,Sp.find_at hall hz3 (by simp;omega)];rfl))
   intro hc4'
   try simp only[nrm]at hc4'
   refine W_skip (N_B (N_K (W_region (mV Z (aD Z2 (aG Z (R_nil ?_)))))))
   refine N_lp (hJ:=⟨k+1,_,Z,hle1,H,?inv,Z⟩) (hm:=?hm)
   case hm=>omega
   case inv=>exact⟨by omega,Sp.none_succ hall hz3 (by simp;omega)⟩
  intro hc2'
  try simp only[nrm]at hc2'
  refine W_exit (N_K_exit (N_LP_exit (N_B_same (N_K (q2 (aG Z (q3 (W_ret (rt1 results205 Z ?_)))))))))
  exact H.rets (congrArg (Value.int .i64) (by rw[Sp.l3At,Sp.atH,Sp.find_none hall oM];rfl))
theorem l3Like_c (w0:World)(G0:PH)(hG:PSub G0 w0)(vlist:Value)(list:List (BHeld))(hlist:RdH G0 vlist list)(vbytes:Value)(bytes:List (Int))(hbytes:RdI G0 vbytes bytes) :
  Calls Tryz.prog 277 #[vlist,vbytes] w0 (Rets w0 (.int .i64 (Sp.l3Like list bytes))):=by
 obtain⟨alist,klist,rfl⟩:=hlist.shape
 have hlimlist:list.length≤1099511627776:=hlist.lim
 obtain⟨abytes,kbytes,rfl⟩:=hbytes.shape
 have hlimbytes:bytes.length≤1099511627776:=hbytes.lim
 have H:=Hp.init hG
 refine calls_of_W (l:=[.slice alist list.length klist,.slice abytes bytes.length kbytes]) func277 Z ntmps277 Z (q2 (aG Z (q3 (W_seq (q2 (aG Z (q3 (W_block ?_))))))))
 refine W_lp (hf:=(Sub.cons (t:=0) Z (Sub.cons (t:=1) Z Sub.nil))) (J:=fun M w m=>∃(k:Nat) (G:PH),M=[(5,.int .i64 (k:Int))]∧PLe G0 G∧Hp w0 G0 [] w G []∧(k≤list.length∧(∀j,j<k→∀y,list[j]? = some y→Sp.l2Same y.bytes bytes=false))∧m=(list.length-k)) (h0:=⟨0,_,Z,PLe.refl _,H,?inv,Z⟩) (round:=?round)
 case inv=>exact⟨by omega,fun j hj=>by omega⟩
 case round =>
  rintro _ _ _ ⟨k,_,rfl,hle1,H,hinv1,rfl⟩
  have hlist:=hlist.up hle1
  have hbytes:=hbytes.up hle1
  obtain⟨_,hall⟩:=hinv1
  refine W_seq (q2 (pe 2 Z (lN Z (pe 1 Z (q3 ?_)))))
  refine W_cond Z ?_ ?_
  ·intro hc2
   try simp only[nrm]at hc2
   refine W_skip (N_K (W_seq (W_block (q2 (pe 2 Z (iP k hlist Z3 Z ?_))))));intro _ _ _ _ hz3 hE3 hrow3
   obtain⟨_,_,_,rfl,_,hr3,_,_,_⟩:=ox hE3
   refine fA 1 Z (lP H hrow3 1 Z2 (mV Z (xr H Z2 (l2Same_c _ _ H.sub _ _ hr3 _ _ hbytes) ?_)));intro _ H
   refine q3 ?_
   refine W_cond Z ?_ ?_
   ·intro hc5
    try simp only[nrm]at hc5
    refine q2 (pe 2 Z (q3 (W_ret (N_B_ret (N_K_ret (N_LP_ret (N_B_ret (N_K_ret (rt1 results277 Z ?_)))))))))
    exact H.rets (congrArg (Value.int .i64) (by rw[Sp.l3Like,Sp.like,Sp.find_at hall hz3 hc5];rfl))
   intro hc5'
   try simp only[nrm]at hc5'
   refine W_skip (N_B (N_K (W_region (mV Z (aD Z2 (aG Z (R_nil ?_)))))))
   refine N_lp (hJ:=⟨k+1,_,Z,hle1,H,?inv,Z⟩) (hm:=?hm)
   case hm=>omega
   case inv=>exact⟨by omega,Sp.none_succ hall hz3 hc5'⟩
  intro hc2'
  try simp only[nrm]at hc2'
  refine W_exit (N_K_exit (N_LP_exit (N_B_same (N_K (q2 (aG Z (q3 (W_ret (rt1 results277 Z ?_)))))))))
  exact H.rets (congrArg (Value.int .i64) (by rw[Sp.l3Like,Sp.like,Sp.find_none hall oM];rfl))
theorem l3Copy_c (w0:World)(G0:PH)(hG:PSub G0 w0)(vlist:Value)(list:List (BHeld))(hlist:RdH G0 vlist list) :
  Calls Tryz.prog 146 #[vlist] w0 (RetO w0 G0 (AccOf heldE 3 153 list)):=by
 obtain⟨alist,klist,rfl⟩:=hlist.shape
 have hlimlist:list.length≤1099511627776:=hlist.lim
 have H:=Hp.init hG
 refine calls_of_W (l:=[.slice alist list.length klist]) func146 Z ntmps146 Z (q2 (aG Z (q1 (xbs H Z7 ?_))));intro _ _ _ H
 have H:=H.blkAcc 3 (k:=0) (n:=0) rfl rfl (by decide)
 refine aG Z (q3 (W_seq (q2 (aG Z (q3 (W_block ?_))))))
 refine W_lp (hf:=(Sub.cons (t:=0) Z (Sub.cons (t:=2) Z Sub.nil))) (J:=fun M w m=>∃(v:Value) (n:Nat) (cs:List Value) (xs:List (BHeld)) (k:Nat) (G:PH),M=[(4,.int .i64 (k:Int)),(3,v)]∧PLe G0 G∧Hp w0 G0 [] w G [acc 153 3 v n cs]∧(Chk heldE 3 G cs xs∧n=xs.length∧k≤list.length∧xs.length=k∧xs=list.take k)∧m=(list.length-k)) (h0:=⟨_,_,_,[],0,_,Z,PLe.refl _,H,?inv,Z⟩) (round:=?round)
 case inv=>exact⟨(Chk.nil (E:=heldE) (sz:=3) (G:=G0)),by first|rfl|simp|(simp;omega)|omega,(by simp)⟩
 case round =>
  rintro _ _ _ ⟨v,n,cs,xs,k,G2,rfl,hle2,H,hinv2,rfl⟩
  have hlist:=hlist.up hle2
  obtain⟨hchk2_0,_,hinv2⟩:=hinv2
  obtain⟨_,_,rfl⟩:=H.accShape (k:=0) rfl
  obtain⟨_,hxl,hxs⟩:=hinv2
  refine W_seq (q2 (pe 2 Z (lN Z (pe 1 Z (q3 ?_)))))
  refine W_cond Z ?_ ?_
  ·intro hc3
   try simp only[nrm]at hc3
   refine W_skip (N_K (W_seq (W_block (q2 (pe 2 Z (iP k hlist Z3 Z ?_))))));intro _ _ z4 _ hz4 hE4 hrow4
   obtain⟨_,_,_,rfl,_,hr4,_,_,_⟩:=ox hE4
   refine o_loadagg_P H isAgg153 sizeOf153 Z Z hrow4 Z (xal H Z ?_);intro _ _ _ H
   refine xst 0 H Z8 ?_;intro _ H
   refine q1 (xbs H Z7 ?_);intro _ _ _ H
   have H:=H.blkAcc 1 (k:=0) (n:=0) rfl rfl (by decide)
   refine fA 1 Z (lB 1 H Z3 ?_)
   refine o_append_P 0 H hr4 (by intro _ cs hz _ hu;obtain⟨rfl,_⟩:=hz;simp at hu;subst hu;rfl) (sz:=1) (bytes:=8) underlying33 typeInfo3 ⟨_,rfl,rfl⟩ rfl rfl rfl rfl rfl rfl rfl oM rfl ?_;intro _ _ css8 hcl8 hcs8 H
   have hchk8:Chk intE 1 G2 ([]++css8.flatten) _:=⟨css8,rfl,hcl8,hcs8⟩
   obtain⟨_,_,rfl⟩:=H.accShape (k:=0) rfl
   refine fA 1 Z (xst 1 H Z8 ?_);intro _ H
   refine q3 (W_region (mV Z (lA 1 3 H Z4 (xbs H Z7 ?_))));intro _ _ _ H
   refine o_append1 2 H (sz:=3) (bytes:=40) underlying23 typeInfo153 ⟨_,Z,Z⟩ Z Z Z Z Z Z Z Z Z Z oM Z ?_;intro _ _ H
   obtain⟨_,H,hsg12,hsr12⟩:=H.shut' (k:=0) rfl hchk8 aN aN
   have hchk2_0:=hchk2_0.up hsg12
   have hle2:=hle2.trans hsg12
   have hchk11:=hchk2_0.snoc (show heldE _ z4 _ from⟨_,_,_,rfl,⟨by first|omega|(dsimp only;omega),by first|omega|(dsimp only;omega)⟩,hsr12,⟨by first|omega|(dsimp only;omega),by first|omega|(dsimp only;omega)⟩⟩) rfl
   obtain⟨_,_,rfl⟩:=H.accShape (k:=1) rfl
   refine aG Z (R_nil (N_B (N_K (W_region (mV Z (aD Z2 (aG Z (R_nil ?_))))))))
   have H:=H.dl 0
   refine N_lp (hJ:=⟨_,_,_,(xs++[z4]),k+1,_,Z,hle2,H,?inv,Z⟩) (hm:=?hm)
   case hm=>omega
   case inv=>exact⟨hchk11,aN,(by exact⟨by omega,by simp[hxl],by rw[Sp.take_succ' hz4,hxs]⟩)⟩
  intro hc3'
  try simp only[nrm]at hc3'
  refine W_exit (N_K_exit (N_LP_exit (N_B_same (N_K (q2 (pe 2 Z (q3 (W_ret (rt1 results146 Z ?_)))))))))
  obtain rfl:k=list.length:=by omega
  rw[List.take_length]at hxs
  subst hxs
  exact H.retO (k:=0) rfl (AccOf.mk (by assumption) hchk2_0) (acc_nd _ _ _ _ _)
theorem l12At_c (w0:World)(G0:PH)(hG:PSub G0 w0)(vlist:Value)(list:List (BSnap))(hlist:RdSn G0 vlist list)(name:Bs)(hname:name.length≤16777216) :
  Calls Tryz.prog 64 #[vlist,str name] w0 (Rets w0 (.int .i64 (Sp.l12At list name))):=by
 obtain⟨alist,klist,rfl⟩:=hlist.shape
 have hlimlist:list.length≤1099511627776:=hlist.lim
 have H:=Hp.init hG
 refine calls_of_W (l:=[.slice alist list.length klist,str name]) func64 Z ntmps64 Z (q2 (aG Z (q3 (W_seq (q2 (aG Z (q3 (W_block ?_))))))))
 refine W_lp (hf:=(Sub.cons (t:=0) Z (Sub.cons (t:=1) Z Sub.nil))) (J:=fun M w m=>∃(k:Nat) (G:PH),M=[(5,.int .i64 (k:Int))]∧PLe G0 G∧Hp w0 G0 [] w G []∧(k≤list.length∧(∀j,j<k→∀y,list[j]? = some y→decide (y.name=name)=false))∧m=(list.length-k)) (h0:=⟨0,_,Z,PLe.refl _,H,?inv,Z⟩) (round:=?round)
 case inv=>exact⟨by omega,fun j hj=>by omega⟩
 case round =>
  rintro _ _ _ ⟨k,_,rfl,hle1,H,hinv1,rfl⟩
  have hlist:=hlist.up hle1
  obtain⟨_,hall⟩:=hinv1
  refine W_seq (q2 (pe 2 Z (lN Z (pe 1 Z (q3 ?_)))))
  refine W_cond Z ?_ ?_
  ·intro hc2
   try simp only[nrm]at hc2
   refine W_skip (N_K (W_seq (W_block (q2 (pe 2 Z (iP k hlist Z3 Z ?_))))));intro _ _ _ _ hz3 hE3 hrow3
   obtain⟨_,_,_,rfl,_,_,_,_⟩:=ox hE3
   refine fA 0 Z (lP H hrow3 0 Z2 (mV Z (o_seql Z Z Z (q3 ?_))))
   refine W_cond Z ?_ ?_
   ·intro hc4
    try simp only[nrm]at hc4
    refine q2 (pe 2 Z (q3 (W_ret (N_B_ret (N_K_ret (N_LP_ret (N_B_ret (N_K_ret (rt1 results64 Z ?_)))))))))
    exact H.rets (congrArg (Value.int .i64) (by rw[Sp.l12At,Sp.atS,Sp.find_at hall hz3 (by simp;exact hc4)];rfl))
   intro hc4'
   try simp only[nrm]at hc4'
   refine W_skip (N_B (N_K (W_region (mV Z (aD Z2 (aG Z (R_nil ?_)))))))
   refine N_lp (hJ:=⟨k+1,_,Z,hle1,H,?inv,Z⟩) (hm:=?hm)
   case hm=>omega
   case inv=>exact⟨by omega,Sp.none_succ hall hz3 (by simp;exact hc4')⟩
  intro hc2'
  try simp only[nrm]at hc2'
  refine W_exit (N_K_exit (N_LP_exit (N_B_same (N_K (q2 (aG Z (q3 (W_ret (rt1 results64 Z ?_)))))))))
  exact H.rets (congrArg (Value.int .i64) (by rw[Sp.l12At,Sp.atS,Sp.find_none hall oM];rfl))
theorem l5Copy_c (w0:World)(G0:PH)(hG:PSub G0 w0)(cx:List Value)(x:BItem)(hx:itemE G0 x cx) :
  Calls Tryz.prog 148 #[.agg cx.toArray] w0 (RetP w0 G0 (fun G v=>∃cs,v= .agg cs.toArray∧itemE G x cs)):=by
 obtain⟨_,_,_,rfl,hi1,hr1,_,_⟩:=ox hx
 have H:=Hp.init hG
 refine calls_of_W (l:=[_]) func148 Z ntmps148 Z (q2 (o_box H Z Z Z ?_));intro _ _ _ H
 refine xal H Z ?_;intro _ _ _ H
 refine q1 (xbs H Z7 ?_);intro _ _ _ H
 have H:=H.blkAcc 1 (k:=0) (n:=0) rfl rfl (by decide)
 refine fA 2 Z (lB 2 H Z3 ?_)
 refine o_append_P 0 H hr1 (by intro _ _ hz _ hu;obtain⟨rfl,_⟩:=hz;simp at hu;subst hu;rfl) (sz:=1) (bytes:=8) underlying33 typeInfo3 ⟨_,rfl,rfl⟩ rfl rfl rfl rfl rfl rfl rfl oM rfl ?_;intro _ _ css5 hcl5 hcs5 H
 have hchk5:Chk intE 1 G0 ([]++css5.flatten) _:=⟨css5,rfl,hcl5,hcs5⟩
 obtain⟨_,_,rfl⟩:=H.accShape (k:=0) rfl
 refine fA 2 Z (xst 2 H Z8 ?_);intro _ H
 refine q1 (lA 2 3 H Z4 (xst 1 H Z8 ?_));intro _ H
 refine q3 (W_ret (ret_gen (rs:=[.cell 2 35]) (vs:=[_]) results148 ⟨⟨_,Z,load_blk 1 H isAgg35 sizeOf35 Z Z Z⟩,trivial⟩ ?_))
 obtain⟨_,H,hsg509,hsr509⟩:=H.shut' (k:=0) rfl hchk5 aN aN
 exact H.retP ⟨_,Z,⟨_,_,_,Z,hi1,hsr509⟩⟩
theorem l5All_c (w0:World)(G0:PH)(hG:PSub G0 w0)(vlist:Value)(list:List (BItem))(hlist:RdItems G0 vlist list) :
  Calls Tryz.prog 67 #[vlist] w0 (RetO w0 G0 (AccOf itemE 3 35 list)):=by
 obtain⟨alist,klist,rfl⟩:=hlist.shape
 have hlimlist:list.length≤1099511627776:=hlist.lim
 have H:=Hp.init hG
 refine calls_of_W (l:=[.slice alist list.length klist]) func67 Z ntmps67 Z (q2 (aG Z (q1 (xbs H Z7 ?_))));intro _ _ _ H
 have H:=H.blkAcc 3 (k:=0) (n:=0) rfl rfl (by decide)
 refine aG Z (q3 (W_seq (q2 (aG Z (q3 (W_block ?_))))))
 refine W_lp (hf:=(Sub.cons (t:=0) Z (Sub.cons (t:=2) Z Sub.nil))) (J:=fun M w m=>∃(v:Value) (n:Nat) (cs:List Value) (xs:List (BItem)) (k:Nat) (G:PH),M=[(4,.int .i64 (k:Int)),(3,v)]∧PLe G0 G∧Hp w0 G0 [] w G [acc 35 3 v n cs]∧(Chk itemE 3 G cs xs∧n=xs.length∧k≤list.length∧xs.length=k∧xs=list.take k)∧m=(list.length-k)) (h0:=⟨_,_,_,[],0,_,Z,PLe.refl _,H,?inv,Z⟩) (round:=?round)
 case inv=>exact⟨(Chk.nil (E:=itemE) (sz:=3) (G:=G0)),by first|rfl|simp|(simp;omega)|omega,(by simp)⟩
 case round =>
  rintro _ _ _ ⟨v,n,cs,xs,k,_,rfl,hle2,H,hinv2,rfl⟩
  have hlist:=hlist.up hle2
  obtain⟨hchk2_0,_,hinv2⟩:=hinv2
  obtain⟨_,_,rfl⟩:=H.accShape (k:=0) rfl
  obtain⟨_,hxl,hxs⟩:=hinv2
  refine W_seq (q2 (pe 2 Z (lN Z (pe 1 Z (q3 ?_)))))
  refine W_cond Z ?_ ?_
  ·intro hc3
   try simp only[nrm]at hc3
   refine W_skip (N_K (W_seq (W_block (W_region (pe 3 Z (iP k hlist Z3 Z ?_))))));intro _ _ z4 _ hz4 hE4 hrow4
   obtain⟨_,_,_,rfl,hi4,hr4,_,_⟩:=ox hE4
   refine o_loadagg_P H isAgg35 sizeOf35 Z Z hrow4 Z (xc Z2 (l5Copy_c _ _ H.sub _ _ ⟨_,_,_,Z,hi4,hr4⟩) ?_)
   rintro _ _ ⟨_,_,g5,rfl,_,rfl,hr5_0⟩
   have H:=H.grow g5
   have hchk2_0:=hchk2_0.up g5.le
   have hle2:=hle2.trans g5.le
   obtain⟨_,_,_,rfl,hi6,hr6,_,_⟩:=ox hr5_0
   refine⟨_,Z,?_⟩
   refine xbs H Z7 ?_;intro _ _ _ H
   refine o_append1 0 H (sz:=3) (bytes:=48) underlying24 typeInfo35 ⟨_,Z,Z⟩ Z Z Z Z Z Z Z Z Z Z oM Z ?_;intro _ _ H
   have hchk8:=hchk2_0.snoc (show itemE _ z4 _ from⟨_,_,_,rfl,hi6,hr6⟩) rfl
   obtain⟨_,_,rfl⟩:=H.accShape (k:=0) rfl
   refine aG Z (R_nil (N_B (N_K (W_region (mV Z (aD Z2 (aG Z (R_nil ?_))))))))
   refine N_lp (hJ:=⟨_,_,_,(xs++[z4]),k+1,_,Z,hle2,H,?inv,Z⟩) (hm:=?hm)
   case hm=>omega
   case inv=>exact⟨hchk8,aN,(by exact⟨by omega,by simp[hxl],by rw[Sp.take_succ' hz4,hxs]⟩)⟩
  intro hc3'
  try simp only[nrm]at hc3'
  refine W_exit (N_K_exit (N_LP_exit (N_B_same (N_K (q2 (pe 2 Z (q3 (W_ret (rt1 results67 Z ?_)))))))))
  obtain rfl:k=list.length:=by omega
  rw[List.take_length]at hxs
  subst hxs
  exact H.retO (k:=0) rfl (AccOf.mk (by assumption) hchk2_0) (acc_nd _ _ _ _ _)
theorem StoreKeep_c (w0:World)(G0:PH)(hG:PSub G0 w0)(vlist:Value)(list:List (BHeld))(hlist:RdH G0 vlist list)(id:Int) :
  Calls Tryz.prog 147 #[vlist,.int .i64 id] w0 (RetO w0 G0 (fun G v r=>∃u,v= .tuple #[u,.bool (Sp.StoreKeep list id).isSome]∧AccOf heldE 3 153 ((Sp.StoreKeep list id).getD []) G u r)):=by
 obtain⟨alist,klist,rfl⟩:=hlist.shape
 have hlimlist:list.length≤1099511627776:=hlist.lim
 have H:=Hp.init hG
 refine calls_of_W (l:=[.slice alist list.length klist,.int .i64 id]) func147 Z ntmps147 Z (q2 (pe 2 Z (q1 (pe 2 Z (xr H Z2 (l3At_c _ _ H.sub _ _ hlist _) ?_)))));intro _ H
 refine aG Z (q3 (W_seq (q2 (mV Z (xr H Z2 (StoreValid_c _ _ H.sub _ _ hlist) ?_)))));intro _ H
 refine pe 2 Z ?_
 refine R_case (t:=14) Z ?_ ?_
 ·intro hc3
  try simp only[nrm]at hc3
  refine pe 11 Z (q3 (W_true Z (q2 (xbs H Z7 ?_))));intro _ _ _ H
  have H:=H.blkAcc 3 (k:=0) (n:=0) rfl rfl (by decide)
  refine pe 2 Z (q3 (W_ret (N_K_ret (rt2 results147 Z Z ?_))))
  have hN:Sp.StoreKeep list id=none:=by simp[Sp.StoreKeep,hc3]
  exact H.retO (k:=0) rfl (by rw[hN];exact⟨_,rfl,AccOf.mk aN (Chk.nil (E:=heldE) (sz:=3) (G:=G0))⟩) (acc_nd _ _ _ _ _)
 intro hc3'
 try simp only[nrm]at hc3'
 refine pe 4 Z ?_
 refine R_case (t:=18) Z ?_ ?_
 ·intro hc5
  try simp only[nrm]at hc5
  refine pe 7 Z (q3 (W_true Z (q2 (xbs H Z7 ?_))));intro _ _ _ H
  have H:=H.blkAcc 3 (k:=0) (n:=0) rfl rfl (by decide)
  refine pe 2 Z (q3 (W_ret (N_K_ret (rt2 results147 Z Z ?_))))
  have hN:Sp.StoreKeep list id=none:=by simp[Sp.StoreKeep,Sp.atH,Sp.at_none hc5]
  exact H.retO (k:=0) rfl (by rw[hN];exact⟨_,rfl,AccOf.mk aN (Chk.nil (E:=heldE) (sz:=3) (G:=G0))⟩) (acc_nd _ _ _ _ _)
 intro hc5'
 try simp only[nrm]at hc5'
 obtain⟨i,_,hi1,hi2,_,_,_⟩:=Sp.at_nat hc5'
 have hl:Sp.atH list id=some i:=hi1
 refine pe 2 Z (gR Z (iP i hlist Z3 hi2 ?_));intro _ _ z7 _ hz7 hE7 hrow7
 obtain⟨_,_,_,rfl,_,hr7,_,_,_⟩:=ox hE7
 refine gR Z (fA 2 Z (gR Z (lP H hrow7 2 Z2 (pe 2 Z (q3 ?_)))))
 refine W_cond Z ?_ ?_
 ·intro hc8
  try simp only[nrm]at hc8
  refine q2 (xbs H Z7 ?_);intro _ _ _ H
  have H:=H.blkAcc 3 (k:=0) (n:=0) rfl rfl (by decide)
  refine pe 2 Z (q3 (W_ret (N_K_ret (rt2 results147 Z Z ?_))))
  have hN:Sp.StoreKeep list id=none:=by simp[Sp.StoreKeep,hl,hz7,hc8]
  exact H.retO (k:=0) rfl (by rw[hN];exact⟨_,rfl,AccOf.mk aN (Chk.nil (E:=heldE) (sz:=3) (G:=G0))⟩) (acc_nd _ _ _ _ _)
 intro hc8'
 try simp only[nrm]at hc8'
 refine W_skip (N_K (q2 (mV Z (xc Z2 (l3Copy_c _ _ H.sub _ _ hlist) ?_))))
 rintro _ _ ⟨_,_,_,g10,rfl,⟨_,rfl,hchk10⟩,hp10,hq10,hs10⟩
 have H:=H.growO g10 hp10 hq10 hs10;obtain⟨_,_,rfl⟩:=H.accShape (k:=0) rfl
 refine⟨_,Z,?_⟩
 refine aG Z (q1 (pe 4 Z (o_index_A 0 H i Z hchk10 underlying23 sizeOf153 Z Z Z hi2 aN aN ?_)));intro _ z11 _ hba11 hz11 hE11 hg11;cases hba11
 obtain⟨_,_,_,rfl,_,_,_,_,_⟩:=ox hE11
 have hsv:=Sp.valid_at hc3' hz11
 refine fA 2 Z (o_load_A 0 H isAgg3 Z Z Z (hg11 2 _ Z) (aD Z2 (o_index_A 0 H i Z hchk10 underlying23 sizeOf153 Z Z Z hi2 aN aN ?_)));intro _ z13 _ hba13 hz13 hE13 _;cases hba13
 obtain⟨_,_,_,rfl,_,_,_,_,_⟩:=ox hE13
 have hzz13:z11=z13:=Option.some.inj (hz11.symm.trans hz13)
 subst hzz13
 refine fA 2 Z ?_
 have hcl14:=hchk10.length
 refine o_store_A 0 H sizeOf3 Z Z Z Z Z (by simp only[vc,List.length_cons,List.length_nil];omega) ?_;intro _ H
 have hchk14:=hchk10.put (x':=⟨z11.id,z11.bytes,z11.uses+1⟩) (off:=2) (vs:=[_]) hz13 (fun cs hl hE=>by obtain⟨_,_,_,rfl,h1,h2,_⟩:=hE;exact⟨_,_,_,rfl,h1,h2,⟨by first|omega|(dsimp only;omega),by first|omega|(dsimp only;omega)⟩⟩) (by simp only[vc,List.length_cons,List.length_nil];omega)
 refine q1 (pe 3 Z (q3 (W_ret (rt2 results147 Z Z ?_))))
 have hY:Sp.StoreKeep list id=some (list.set i ⟨z11.id,z11.bytes,z11.uses+1⟩):=by (have hzz:z7=z11:=Option.some.inj (hz7.symm.trans hz11));rw[hzz]at hc8';simp[Sp.StoreKeep,hc3',hl,hz11,hc8',Sp.bump_at hz11]
 exact H.retO (k:=0) rfl (by rw[hY];exact⟨_,rfl,AccOf.mk aN hchk14⟩) (acc_nd _ _ _ _ _)
theorem StoreDrop_c (w0:World)(G0:PH)(hG:PSub G0 w0)(vlist:Value)(list:List (BHeld))(hlist:RdH G0 vlist list)(id:Int) :
  Calls Tryz.prog 222 #[vlist,.int .i64 id] w0 (RetO w0 G0 (fun G v r=>∃u,v= .tuple #[u,.bool (Sp.StoreDrop list id).isSome]∧AccOf heldE 3 153 ((Sp.StoreDrop list id).getD []) G u r)):=by
 obtain⟨alist,klist,rfl⟩:=hlist.shape
 have hlimlist:list.length≤1099511627776:=hlist.lim
 have H:=Hp.init hG
 refine calls_of_W (l:=[.slice alist list.length klist,.int .i64 id]) func222 Z ntmps222 Z (q2 (pe 2 Z (q1 (pe 2 Z (xr H Z2 (l3At_c _ _ H.sub _ _ hlist _) ?_)))));intro _ H
 refine aG Z (q3 (W_seq (q2 (mV Z (xr H Z2 (StoreValid_c _ _ H.sub _ _ hlist) ?_)))));intro _ H
 refine pe 2 Z ?_
 refine R_case (t:=14) Z ?_ ?_
 ·intro hc3
  try simp only[nrm]at hc3
  refine pe 3 Z (q3 (W_true Z (q2 (xbs H Z7 ?_))));intro _ _ _ H
  have H:=H.blkAcc 3 (k:=0) (n:=0) rfl rfl (by decide)
  refine pe 2 Z (q3 (W_ret (N_K_ret (rt2 results222 Z Z ?_))))
  have hN:Sp.StoreDrop list id=none:=by simp[Sp.StoreDrop,hc3]
  exact H.retO (k:=0) rfl (by rw[hN];exact⟨_,rfl,AccOf.mk aN (Chk.nil (E:=heldE) (sz:=3) (G:=G0))⟩) (acc_nd _ _ _ _ _)
 intro hc3'
 try simp only[nrm]at hc3'
 refine pe 3 Z (q3 ?_)
 refine W_cond Z ?_ ?_
 ·intro hc5
  try simp only[nrm]at hc5
  refine q2 (xbs H Z7 ?_);intro _ _ _ H
  have H:=H.blkAcc 3 (k:=0) (n:=0) rfl rfl (by decide)
  refine pe 2 Z (q3 (W_ret (N_K_ret (rt2 results222 Z Z ?_))))
  have hN:Sp.StoreDrop list id=none:=by simp[Sp.StoreDrop,Sp.atH,Sp.at_none hc5]
  exact H.retO (k:=0) rfl (by rw[hN];exact⟨_,rfl,AccOf.mk aN (Chk.nil (E:=heldE) (sz:=3) (G:=G0))⟩) (acc_nd _ _ _ _ _)
 intro hc5'
 try simp only[nrm]at hc5'
 obtain⟨i,_,hi1,hi2,_,_,_⟩:=Sp.at_nat hc5'
 have hi2:Sp.l3At list id=(i:Int):=hi2
 have hl:Sp.atH list id=some i:=hi1
 refine W_skip (N_K (q2 (mV Z (xc Z2 (l3Copy_c _ _ H.sub _ _ hlist) ?_))))
 rintro _ _ ⟨G7,_,_,g7,rfl,⟨_,rfl,hchk7⟩,hp7,hq7,hs7⟩
 have H:=H.growO g7 hp7 hq7 hs7;obtain⟨_,_,rfl⟩:=H.accShape (k:=0) rfl
 refine⟨_,Z,?_⟩
 refine aG Z (q3 (W_seq (q2 (pe 2 Z (o_index_A 0 H i Z hchk7 underlying23 sizeOf153 Z Z Z hi2 aN aN ?_)))));intro _ z8 _ hba8 hz8 hE8 hg8;cases hba8
 obtain⟨_,_,_,rfl,_,_,_,_,_⟩:=ox hE8
 have hsv:=Sp.valid_at hc3' hz8
 refine fA 2 Z (o_load_A 0 H isAgg3 Z Z Z (hg8 2 _ Z) (pe 1 Z (q3 ?_)))
 refine W_cond Z ?_ ?_
 ·intro hc9
  try simp only[nrm]at hc9
  refine W_seq (W_drawK [] 10 H kR Z ?_);intro _ H;have hd10:=PLe.refl G7
  refine dE 0 Z2 (dE 1 Z2 ?_)
  have hac11:=H.accCap (k:=0) rfl
  refine RD_t 2 Z kR Z (fun _ hK=>v_slice_to (j:=i) underlying23 sizeOf153 Z Z hi2 oM) (dE 3 Z2 (dE 4 Z2 (RD_t 5 Z kR Z (fun _ hK=>v_add Z Z oO) ?_)))
  have hac13:=H.accCap (k:=0) rfl
  refine RD_t 6 Z kR Z (fun _ hK=>v_slice_from (i:=(i+1)) underlying23 sizeOf153 Z Z oM oM) (r1 7 Z ?_)
  refine o_append_del 0 H i Z hchk7 (by intro _ cs hz _ hu;obtain⟨_,_,_,rfl,_⟩:=hz;simp at hu;rcases hu with rfl|rfl|rfl<;>rfl) underlying23 typeInfo153 rfl rfl rfl rfl oM aN ?_;intro _ _ hb14 H hchk14;cases hb14
  refine q4 H hd10 (dE 8 Z2 (dE 9 Z2 (rz (N_K (W_ret (N_K_ret (rt2 results222 Z Z ?_)))))))
  have hY:Sp.StoreDrop list id=some (list.take i++list.drop (i+1)):=by simp[Sp.StoreDrop,hc3',hl,hz8,hc9]
  exact H.retO (k:=0) rfl (by rw[hY];exact⟨_,rfl,AccOf.mk aN hchk14⟩) (acc_nd _ _ _ _ _)
 intro hc9'
 try simp only[nrm]at hc9'
 refine W_skip (N_K (q2 (pe 4 Z (o_index_A 0 H i Z hchk7 underlying23 sizeOf153 Z Z Z hi2 aN aN ?_))));intro _ z15 _ hba15 hz15 hE15 hg15;cases hba15
 obtain⟨_,_,_,rfl,_,_,_,_,_⟩:=ox hE15
 have hzz15:z8=z15:=Option.some.inj (hz8.symm.trans hz15)
 subst hzz15
 refine fA 2 Z (o_load_A 0 H isAgg3 Z Z Z (hg15 2 _ Z) (o_sub Z Z Z oO (o_index_A 0 H i Z hchk7 underlying23 sizeOf153 Z Z Z hi2 aN aN ?_)));intro _ z17 _ hba17 hz17 hE17 _;cases hba17
 obtain⟨_,_,_,rfl,_,_,_,_,_⟩:=ox hE17
 have hzz17:z8=z17:=Option.some.inj (hz8.symm.trans hz17)
 subst hzz17
 refine fA 2 Z ?_
 have hcl18:=hchk7.length
 refine o_store_A 0 H sizeOf3 Z Z Z Z Z (by simp only[vc,List.length_cons,List.length_nil];omega) ?_;intro _ H
 have hchk18:=hchk7.put (x':=⟨z8.id,z8.bytes,z8.uses+(-1)⟩) (off:=2) (vs:=[_]) hz17 (fun cs hl hE=>by obtain⟨_,_,_,rfl,h1,h2,_⟩:=hE;exact⟨_,_,_,rfl,h1,h2,⟨by first|omega|(dsimp only;omega),by first|omega|(dsimp only;omega)⟩⟩) (by simp only[vc,List.length_cons,List.length_nil];omega)
 refine q1 (pe 3 Z (q3 (W_ret (rt2 results222 Z Z ?_))))
 have hY:Sp.StoreDrop list id=some (list.set i ⟨z8.id,z8.bytes,z8.uses+(-1)⟩):=by simp[Sp.StoreDrop,hc3',hl,hz8,hc9',Sp.bump_at hz8]
 exact H.retO (k:=0) rfl (by rw[hY];exact⟨_,rfl,AccOf.mk aN hchk18⟩) (acc_nd _ _ _ _ _)
theorem l12Keep_c (w0:World)(G0:PH)(hG:PSub G0 w0)(vstore:Value)(store:List (BHeld))(hstore:RdH G0 vstore store)(vlist:Value)(list:List (BItem))(hlist:RdItems G0 vlist list) :
  Calls Tryz.prog 65 #[vstore,vlist] w0 (RetO w0 G0 (fun G v r=>∃u,v= .tuple #[u,.bool (Sp.l12Keep store list).isSome]∧AccOf heldE 3 153 ((Sp.l12Keep store list).getD []) G u r)):=by
 obtain⟨astore,kstore,rfl⟩:=hstore.shape
 have hlimstore:store.length≤1099511627776:=hstore.lim
 obtain⟨alist,klist,rfl⟩:=hlist.shape
 have hlimlist:list.length≤1099511627776:=hlist.lim
 have H:=Hp.init hG
 refine calls_of_W (l:=[.slice astore store.length kstore,.slice alist list.length klist]) func65 Z ntmps65 Z (q2 (pe 2 Z (q1 (mV Z (xc Z2 (l3Copy_c _ _ H.sub _ _ hstore) ?_)))))
 rintro _ _ ⟨G1,_,_,g1,rfl,⟨_,rfl,hchk1⟩,hp1,hq1,hs1⟩
 have H:=H.growO g1 hp1 hq1 hs1;obtain⟨_,_,rfl⟩:=H.accShape (k:=0) rfl
 have hlist:=hlist.up g1.le
 refine⟨_,Z,?_⟩
 refine aG Z (q3 (W_seq (q2 (aG Z (q3 (W_block ?_))))))
 refine W_lp (hf:=(Sub.cons (t:=1) Z Sub.nil)) (J:=fun M w m=>∃(vo:Value) (no:Nat) (cso:List Value) (xso:List (BHeld)) (k:Nat) (G:PH),M=[(7,.int .i64 (k:Int)),(6,vo)]∧PLe G1 G∧Hp w0 G0 [] w G [acc 153 3 vo no cso]∧(Chk heldE 3 G cso xso∧no=xso.length∧k≤list.length∧xso.length=store.length∧Sp.foldB Sp.keepT (list.take k) (some store)=some xso)∧m=(list.length-k)) (h0:=⟨_,_,_,store,0,_,Z,PLe.refl _,H,?inv,Z⟩) (round:=?round)
 case inv=>exact⟨hchk1,by first|rfl|simp|(simp;omega)|omega,(by exact⟨by omega,rfl,by simp[Sp.foldB]⟩)⟩
 case round =>
  rintro _ _ _ ⟨vo,no,cso,xso,k,G2,rfl,hle2,H,hinv2,rfl⟩
  have hlist:=hlist.up hle2
  obtain⟨hchk2_0,_,hinv2⟩:=hinv2
  obtain⟨_,_,rfl⟩:=H.accShape (k:=0) rfl
  obtain⟨_,hxl,hf⟩:=hinv2
  refine W_seq (q2 (pe 2 Z (lN Z (pe 1 Z (q3 ?_)))))
  refine W_cond Z ?_ ?_
  ·intro hc3
   try simp only[nrm]at hc3
   refine W_skip (N_K (W_seq (W_block (q2 (aG Z (q3 (W_block ?_)))))))
   refine W_lp (hf:=(Sub.cons (t:=1) Z (Sub.cons (t:=7) Z Sub.nil))) (J:=fun M w m=>∃(v:Value) (n:Nat) (cs:List Value) (xs:List (BHeld)) (j:Nat) (y:BItem) (G:PH),M=[(8,.int .i64 (j:Int)),(6,v)]∧PLe G2 G∧Hp w0 G0 [] w G [acc 153 3 v n cs]∧(Chk heldE 3 G cs xs∧n=xs.length∧list[k]? = some y∧j≤y.ids.length∧xs.length=store.length∧Sp.foldB Sp.StoreKeep (y.ids.take j) (some xso)=some xs)∧m=(y.ids.length-j)) (h0:=⟨_,_,_,xso,0,(list[k]'oM),_,Z,PLe.refl _,H,?inv,Z⟩) (round:=?round)
   case inv=>exact⟨hchk2_0,by first|rfl|simp|(simp;omega)|omega,(by exact⟨by simp,by omega,hxl,by simp[Sp.foldB]⟩)⟩
   case round =>
    rintro _ _ _ ⟨v,n,cs,xs,j,y,_,rfl,hle4,H,hinv4,rfl⟩
    have hlist:=hlist.up hle4
    have hle2:=hle2.trans hle4
    obtain⟨hchk4_0,_,hinv4⟩:=hinv4
    obtain⟨_,_,rfl⟩:=H.accShape (k:=0) rfl
    obtain⟨hy,_,hxl2,hf2⟩:=hinv4
    refine W_seq (q2 (pe 3 Z (iP k hlist Z3 Z ?_)));intro _ _ z5 _ hz5 hE5 hrow5
    obtain⟨_,_,_,rfl,_,hr5,_,_⟩:=ox hE5
    have hzz5:y=z5:=Option.some.inj (hy.symm.trans hz5)
    subst hzz5
    refine fA 2 Z (lP H hrow5 2 Z2 (lN Z (pe 1 Z (q3 ?_))))
    refine W_cond Z ?_ ?_
    ·intro hc6
     try simp only[nrm]at hc6
     refine W_skip (N_K (W_seq (W_block (q2 (pe 3 Z (iP k hlist Z3 Z ?_))))));intro _ _ z7 _ hz7 hE7 hrow7
     obtain⟨_,_,_,rfl,_,hr7,_,_⟩:=ox hE7
     have hzz7:y=z7:=Option.some.inj (hy.symm.trans hz7)
     subst hzz7
     refine fA 2 Z (lP H hrow7 2 Z2 (mV Z (iP j hr7 Z3 Z ?_)));intro _ _ z8 _ hz8 hE8 hrow8
     obtain⟨rfl,_⟩:=hE8
     refine lP H hrow8 0 Z2 ?_
     obtain⟨_,H,hsg10,hsr10⟩:=H.shut' (k:=0) rfl hchk4_0 aN aN
     have hle4:=hle4.trans hsg10
     refine xc Z2 (StoreKeep_c _ _ H.sub _ _ hsr10 _) ?_
     rintro _ _ ⟨G9,_,_,g9,rfl,⟨_,rfl,⟨_,rfl,hchk9⟩⟩,hp9,hq9,hs9⟩
     have H:=H.growO g9 hp9 hq9 hs9;obtain⟨_,_,rfl⟩:=H.accShape (k:=0) rfl
     have hle4:=hle4.trans g9.le
     refine⟨_,Z,?_⟩
     refine pe 5 Z (q3 (W_seq (q2 (pe 2 Z (q3 ?_)))))
     refine W_cond Z ?_ ?_
     ·intro hc11
      try simp only[nrm]at hc11
      refine q2 (xbs H Z7 ?_);intro _ _ _ H
      have H:=H.blkAcc 3 (k:=0) (n:=0) rfl rfl (by decide)
      refine pe 2 Z (q3 (W_ret (N_K_ret (N_B_ret (N_K_ret (N_LP_ret (N_B_ret (N_B_ret (N_K_ret (N_LP_ret (N_B_ret (N_K_ret (rt2 results65 Z Z ?_)))))))))))))
      have hN:Sp.l12Keep store list=none:=by (have hno:Sp.StoreKeep xs z8=none:=by simpa using hc11);unfold Sp.l12Keep;exact Sp.foldB_stop hf hy (by unfold Sp.keepT;exact Sp.foldB_stop hf2 hz8 hno)
      exact H.retO (k:=0) rfl (by rw[hN];exact⟨_,rfl,AccOf.mk aN (Chk.nil (E:=heldE) (sz:=3) (G:=G9))⟩) (acc_nd _ _ _ _ _)
     intro hc11'
     try simp only[nrm]at hc11'
     obtain⟨p,hsp⟩:=Option.isSome_iff_exists.1 hc11'
     rw[hsp]at H hchk9 ⊢
     dsimp only[Option.map,Option.getD]at H hchk9
     refine W_skip (N_K (W_region (pe 2 Z (R_nil (N_B (N_K (W_region (mV Z (aD Z2 (aG Z (R_nil ?_)))))))))))
     refine N_lp (hJ:=⟨_,_,_,p,j+1,y,_,Z,hle4,H,?inv,Z⟩) (hm:=?hm)
     case hm=>omega
     case inv=>exact⟨hchk9,aN,(by exact⟨hy,by omega,by rw[Sp.keep_len hsp];exact hxl2,Sp.foldB_succ hf2 hz8 hsp⟩)⟩
    intro hc6'
    try simp only[nrm]at hc6'
    refine W_exit (N_K_exit (N_LP_exit (N_B_same (N_B (N_K (W_region (mV Z (aD Z2 (aG Z (R_nil ?_))))))))))
    refine N_lp (hJ:=⟨_,_,_,xs,k+1,_,Z,hle2,H,?inv,Z⟩) (hm:=?hm)
    case hm=>omega
    case inv=>exact⟨hchk4_0,aN,(by exact⟨by omega,hxl2,Sp.foldB_succ hf hy (by unfold Sp.keepT;exact Sp.foldB_all hf2 oM)⟩)⟩
  intro hc3'
  try simp only[nrm]at hc3'
  refine W_exit (N_K_exit (N_LP_exit (N_B_same (N_K (q2 (pe 3 Z (q3 (W_ret (rt2 results65 Z Z ?_)))))))))
  have hY:Sp.l12Keep store list=some xso:=by unfold Sp.l12Keep;exact Sp.foldB_all hf oM
  exact H.retO (k:=0) rfl (by rw[hY];exact⟨_,rfl,AccOf.mk aN hchk2_0⟩) (acc_nd _ _ _ _ _)
theorem l4Ids_c (w0:World)(G0:PH)(hG:PSub G0 w0)(vlist:Value)(list:List (BHeld))(hlist:RdH G0 vlist list)(vids:Value)(ids:List (Int))(hids:RdI G0 vids ids) :
  Calls Tryz.prog 170 #[vlist,vids] w0 (Rets w0 (.bool (Sp.l4Ids list ids))):=by
 obtain⟨alist,klist,rfl⟩:=hlist.shape
 have hlimlist:list.length≤1099511627776:=hlist.lim
 obtain⟨aids,kids,rfl⟩:=hids.shape
 have hlimids:ids.length≤1099511627776:=hids.lim
 have H:=Hp.init hG
 refine calls_of_W (l:=[.slice alist list.length klist,.slice aids ids.length kids]) func170 Z ntmps170 Z (q2 (aG Z (q3 (W_seq (q2 (aG Z (q3 (W_block ?_))))))))
 refine W_lp (hf:=(Sub.cons (t:=0) Z (Sub.cons (t:=1) Z Sub.nil))) (J:=fun M w m=>∃(k:Nat) (G:PH),M=[(5,.int .i64 (k:Int))]∧PLe G0 G∧Hp w0 G0 [] w G []∧(k≤ids.length∧∀j,j<k→Sp.idsOk list ids j=true)∧m=(ids.length-k)) (h0:=⟨0,_,Z,PLe.refl _,H,?inv,Z⟩) (round:=?round)
 case inv=>exact⟨by omega,fun j hj=>by omega⟩
 case round =>
  rintro _ _ _ ⟨k,_,rfl,hle1,H,hinv1,rfl⟩
  have hlist:=hlist.up hle1
  have hids:=hids.up hle1
  obtain⟨_,hall⟩:=hinv1
  refine W_seq (q2 (pe 2 Z (lN Z (pe 1 Z (q3 ?_)))))
  refine W_cond Z ?_ ?_
  ·intro hc2
   try simp only[nrm]at hc2
   refine W_skip (N_K (W_seq (W_block (q2 (pe 3 Z (iP k hids Z3 Z ?_))))));intro _ _ z3 _ hz3 hE3 hrow3
   obtain⟨rfl,hi3⟩:=hE3
   refine lP H hrow3 0 Z2 (xr H Z2 (l3At_c _ _ H.sub _ _ hlist _) ?_);intro _ H
   refine aG Z (q1 (pe 3 Z ?_))
   refine R_case (t:=21) Z ?_ ?_
   ·intro hc5
    try simp only[nrm]at hc5
    refine pe 6 Z (R_pass Z (yl_un Z Z) (R_pass Z (yl_un Z Z) (R_pass Z (yl_un Z Z) (R_pass Z (yl_un Z Z) (R_pass Z (yl_un Z Z) (R_pass Z (yl_un Z Z) (R_pass Z (yl_un Z Z) (pe 2 Z (q3 (W_true Z (q2 (aG Z (q3 (W_ret (N_B_ret ?_)))))))))))))))
    refine N_K_ret (N_LP_ret (N_B_ret (N_K_ret (rt1 results170 Z ?_))))
    exact H.rets (congrArg Value.bool (by rw[Sp.l4Ids,Sp.not_all_range (k:=k) oM (by simp[Sp.idsOk,hz3,Sp.atH,Sp.at_none hc5])];rfl))
   intro hc5'
   try simp only[nrm]at hc5'
   obtain⟨i,x,hi1,hi2,hi3,hi4,_⟩:=Sp.at_nat hc5'
   have hl:Sp.atH list z3=some i:=hi1
   refine pe 1 Z (gR Z (aD Z2 (pe 1 Z (gR Z (lN Z (pe 2 Z ?_))))))
   refine R_case (t:=27) Z ?_ ?_
   ·intro hc7
    try simp only[nrm]at hc7
    refine pe 2 Z (gR Z (iP i hlist Z3 hi2 ?_));intro _ _ z8 _ hz8 hE8 hrow8
    obtain⟨_,_,_,rfl,_,_,_,_,_⟩:=ox hE8
    have hzz:x=z8:=Option.some.inj (hi4.symm.trans hz8)
    subst hzz
    refine gR Z (fA 1 Z (gR Z (lP H hrow8 1 Z2 (gR Z (lN Z (pe 3 Z (q3 ?_)))))))
    refine W_cond Z ?_ ?_
    ·intro hc9
     try simp only[nrm]at hc9
     refine q2 (aG Z (q3 (W_ret (N_B_ret (N_K_ret (N_LP_ret (N_B_ret (N_K_ret (rt1 results170 Z ?_)))))))))
     exact H.rets (congrArg Value.bool (by rw[Sp.l4Ids,Sp.not_all_range (k:=k) oM (by simp[Sp.idsOk,hz3,hl,hi4];omega)];rfl))
    intro hc9'
    try simp only[nrm]at hc9'
    refine W_skip (N_B (N_K (W_region (mV Z (aD Z2 (aG Z (R_nil ?_)))))))
    refine N_lp (hJ:=⟨k+1,_,Z,hle1,H,?inv,Z⟩) (hm:=?hm)
    case hm=>omega
    case inv=>exact⟨by omega,Sp.upto_succ hall (by simp[Sp.idsOk,hz3,hl,hi4];omega)⟩
   intro hc7'
   try simp only[nrm]at hc7'
   refine pe 9 Z (q3 (W_false Z (W_skip (N_B (N_K (W_region (mV Z (aD Z2 (aG Z (R_nil ?_))))))))))
   refine N_lp (hJ:=⟨k+1,_,Z,hle1,H,?inv,Z⟩) (hm:=?hm)
   case hm=>omega
   case inv=>exact⟨by omega,Sp.upto_succ hall (by simp[Sp.idsOk,hz3,hl,hi4];omega)⟩
  intro hc2'
  try simp only[nrm]at hc2'
  refine W_exit (N_K_exit (N_LP_exit (N_B_same (N_K (q2 (mV Z (lN Z (pe 2 Z (q3 (W_ret (rt1 results170 Z ?_)))))))))))
  exact H.rets (congrArg Value.bool (by rw[Sp.l4Ids,Sp.all_range (fun j hj=>hall j oM),Bool.true_and];rw[Bool.eq_iff_iff];simp;omega))
theorem l11Count_c (w0:World)(G0:PH)(hG:PSub G0 w0)(vlist:Value)(list:List (BItem))(hlist:RdItems G0 vlist list)(id:Int)(hT:Sp.TreeValid list=true) :
  Calls Tryz.prog 171 #[vlist,.int .i64 id] w0 (Rets w0 (.int .i64 (Sp.l11Count list id:Int))):=by
 obtain⟨alist,klist,rfl⟩:=hlist.shape
 have hlimlist:list.length≤1099511627776:=hlist.lim
 have htl:=Sp.tree_len hT
 have H:=Hp.init hG
 refine calls_of_W (l:=[.slice alist list.length klist,.int .i64 id]) func171 Z ntmps171 Z (q2 (aG Z (q1 (aG Z (q3 (W_seq (q2 (aG Z (q3 (W_block ?_))))))))))
 refine W_lp (hf:=(Sub.cons (t:=0) Z (Sub.cons (t:=1) Z (Sub.cons (t:=4) Z Sub.nil)))) (J:=fun M w m=>∃(c k:Nat) (G:PH),M=[(5,.int .i64 (c:Int)),(6,.int .i64 (k:Int))]∧PLe G0 G∧Hp w0 G0 [] w G []∧(k≤list.length∧c=Sp.cntU list id k)∧m=(list.length-k)) (h0:=⟨0,0,_,Z,PLe.refl _,H,?inv,Z⟩) (round:=?round)
 case inv=>exact⟨by omega,by simp[Sp.cntU]⟩
 case round =>
  rintro _ _ _ ⟨c,k,G1,rfl,hle1,H,hinv1,rfl⟩
  have hlist:=hlist.up hle1
  obtain⟨hk,hc⟩:=hinv1;have hcu:=Sp.cntU_le hT k hk (id:=id)
  refine W_seq (q2 (pe 2 Z (lN Z (pe 1 Z (q3 ?_)))))
  refine W_cond Z ?_ ?_
  ·intro hc2
   try simp only[nrm]at hc2
   refine W_skip (N_K (W_seq (W_block (q2 (aG Z (q3 (W_block ?_)))))))
   refine W_lp (hf:=(Sub.cons (t:=0) Z (Sub.cons (t:=1) Z (Sub.cons (t:=4) Z (Sub.cons (t:=6) Z Sub.nil))))) (J:=fun M w m=>∃(c2 j:Nat) (y:BItem) (G:PH),M=[(5,.int .i64 (c2:Int)),(7,.int .i64 (j:Int))]∧PLe G1 G∧Hp w0 G0 [] w G []∧(list[k]? = some y∧j≤y.ids.length∧c2=Sp.cntU list id k+Sp.cnt1 id (y.ids.take j))∧m=(y.ids.length-j)) (h0:=⟨c,0,(list[k]'oM),_,Z,PLe.refl _,H,?inv,Z⟩) (round:=?round)
   case inv=>exact⟨by simp,by omega,by simp[hc,Sp.cnt1]⟩
   case round =>
    rintro _ _ _ ⟨c2,j,y,_,rfl,hle3,H,hinv3,rfl⟩
    have hlist:=hlist.up hle3
    have hle1:=hle1.trans hle3
    obtain⟨hy,_,hc2⟩:=hinv3;have hc4:=(Sp.tree_at hT hy).2;have hc1:=Sp.cnt1_le id (y.ids.take j);have htk:(y.ids.take j).length≤j:=by simp;omega
    refine W_seq (q2 (pe 3 Z (iP k hlist Z3 Z ?_)));intro _ _ z4 _ hz4 hE4 hrow4
    obtain⟨_,_,_,rfl,_,_,_,_⟩:=ox hE4
    have hzz4:y=z4:=Option.some.inj (hy.symm.trans hz4)
    subst hzz4
    refine fA 2 Z (lP H hrow4 2 Z2 (lN Z (pe 1 Z (q3 ?_))))
    refine W_cond Z ?_ ?_
    ·intro hc5
     try simp only[nrm]at hc5
     refine W_skip (N_K (W_seq (W_block (q2 (pe 2 Z (iP k hlist Z3 Z ?_))))));intro _ _ z6 _ hz6 hE6 hrow6
     obtain⟨_,_,_,rfl,_,hr6,_,_⟩:=ox hE6
     have hzz6:y=z6:=Option.some.inj (hy.symm.trans hz6)
     subst hzz6
     refine fA 2 Z (lP H hrow6 2 Z2 (mV Z (iP j hr6 Z3 Z ?_)));intro _ _ _ _ hz7 hE7 hrow7
     obtain⟨rfl,_⟩:=hE7
     refine lP H hrow7 0 Z2 (pe 2 Z (q3 ?_))
     refine W_cond Z ?_ ?_
     ·intro hc8
      try simp only[nrm]at hc8
      refine W_region (mV Z (aD Z2 (aG Z (R_nil (N_B (N_K (W_region (mV Z (aD Z2 (aG Z (R_nil ?_)))))))))))
      refine N_lp (hJ:=⟨c2+1,j+1,y,_,Z,hle3,H,?inv,Z⟩) (hm:=?hm)
      case hm=>omega
      case inv=>exact⟨hy,by omega,by rw[Sp.cnt1_succ hz7,if_pos oM,hc2];omega⟩
     intro hc8'
     try simp only[nrm]at hc8'
     refine W_skip (N_B (N_K (W_region (mV Z (aD Z2 (aG Z (R_nil ?_)))))))
     refine N_lp (hJ:=⟨c2,j+1,y,_,Z,hle3,H,?inv,Z⟩) (hm:=?hm)
     case hm=>omega
     case inv=>exact⟨hy,by omega,by rw[Sp.cnt1_succ hz7,if_neg oM,hc2];omega⟩
    intro hc5'
    try simp only[nrm]at hc5'
    refine W_exit (N_K_exit (N_LP_exit (N_B_same (N_B (N_K (W_region (mV Z (aD Z2 (aG Z (R_nil ?_))))))))))
    refine N_lp (hJ:=⟨c2,k+1,_,Z,hle1,H,?inv,Z⟩) (hm:=?hm)
    case hm=>omega
    case inv=>exact⟨by omega,by rw[hc2,Sp.cntU_succ hy,List.take_of_length_le oM]⟩
  intro hc2'
  try simp only[nrm]at hc2'
  refine W_exit (N_K_exit (N_LP_exit (N_B_same (N_K (q2 (pe 2 Z (q3 (W_ret (rt1 results171 Z ?_)))))))))
  obtain rfl:k=list.length:=by omega
  exact H.rets (congrArg (Value.int .i64) (by rw[hc];rfl))
theorem l11Files_c (w0:World)(G0:PH)(hG:PSub G0 w0)(vstore:Value)(store:List (BHeld))(hstore:RdH G0 vstore store)(vlist:Value)(list:List (BItem))(hlist:RdItems G0 vlist list) :
  Calls Tryz.prog 91 #[vstore,vlist] w0 (Rets w0 (.bool (Sp.l11Files store list))):=by
 obtain⟨astore,kstore,rfl⟩:=hstore.shape
 have hlimstore:store.length≤1099511627776:=hstore.lim
 obtain⟨alist,klist,rfl⟩:=hlist.shape
 have hlimlist:list.length≤1099511627776:=hlist.lim
 have H:=Hp.init hG
 refine calls_of_W (l:=[.slice astore store.length kstore,.slice alist list.length klist]) func91 Z ntmps91 Z (q2 (aG Z (q3 (W_seq (q2 (aG Z (q3 (W_block ?_))))))))
 refine W_lp (hf:=(Sub.cons (t:=0) Z (Sub.cons (t:=1) Z Sub.nil))) (J:=fun M w m=>∃(k:Nat) (G:PH),M=[(5,.int .i64 (k:Int))]∧PLe G0 G∧Hp w0 G0 [] w G []∧(k≤list.length∧(list.take k).all (Sp.fileOk store)=true)∧m=(list.length-k)) (h0:=⟨0,_,Z,PLe.refl _,H,?inv,Z⟩) (round:=?round)
 case inv=>exact⟨by omega,by simp⟩
 case round =>
  rintro _ _ _ ⟨k,_,rfl,hle1,H,hinv1,rfl⟩
  have hstore:=hstore.up hle1
  have hlist:=hlist.up hle1
  obtain⟨_,hall⟩:=hinv1
  refine W_seq (q2 (pe 2 Z (lN Z (pe 1 Z (q3 ?_)))))
  refine W_cond Z ?_ ?_
  ·intro hc2
   try simp only[nrm]at hc2
   refine W_skip (N_K (W_seq (W_block (q2 (pe 3 Z (iP k hlist Z3 Z ?_))))));intro _ _ _ _ hz3 hE3 hrow3
   obtain⟨_,_,_,rfl,_,hr3,_,_⟩:=ox hE3
   refine fA 2 Z (lP H hrow3 2 Z2 (xr H Z2 (l4Ids_c _ _ H.sub _ _ hstore _ _ hr3) ?_));intro _ H
   refine pe 1 Z (q3 ?_)
   refine W_cond Z ?_ ?_
   ·intro hc5
    try simp only[nrm]at hc5
    refine q2 (aG Z (q3 (W_ret (N_B_ret (N_K_ret (N_LP_ret (N_B_ret (N_K_ret (rt1 results91 Z ?_)))))))))
    exact H.rets (congrArg Value.bool (by rw[Sp.l11Files,Sp.all_false hz3 (by simp[Sp.fileOk, *])]))
   intro hc5'
   try simp only[nrm]at hc5'
   refine W_skip (N_B (N_K (W_region (mV Z (aD Z2 (aG Z (R_nil ?_)))))))
   refine N_lp (hJ:=⟨k+1,_,Z,hle1,H,?inv,Z⟩) (hm:=?hm)
   case hm=>omega
   case inv=>exact⟨by omega,Sp.all_take hall hz3 (by simp[Sp.fileOk, *])⟩
  intro hc2'
  try simp only[nrm]at hc2'
  refine W_exit (N_K_exit (N_LP_exit (N_B_same (N_K (q2 (aG Z (q3 (W_ret (rt1 results91 Z ?_)))))))))
  obtain rfl:k=list.length:=by omega
  rw[List.take_length]at hall
  exact H.rets (congrArg Value.bool (by rw[Sp.l11Files,hall]))
theorem l11Ids_c (w0:World)(G0:PH)(hG:PSub G0 w0)(vlist:Value)(list:List (BItem))(hlist:RdItems G0 vlist list)(path:Bs)(hpath:path.length≤16777216) :
  Calls Tryz.prog 221 #[vlist,str path] w0 (RetP w0 G0 (fun G v=>RdItems G v (Sp.l11Ids list path))):=by
 obtain⟨alist,klist,rfl⟩:=hlist.shape
 have hlimlist:list.length≤1099511627776:=hlist.lim
 have H:=Hp.init hG
 refine calls_of_W (l:=[.slice alist list.length klist,str path]) func221 Z ntmps221 Z (q2 (aG Z (q1 (pe 2 Z (xr H Z2 (l5At_c _ _ H.sub _ _ hlist _ hpath) ?_)))));intro _ H
 refine aG Z (q3 (W_seq (q2 (pe 3 Z ?_))))
 refine R_case (t:=11) Z ?_ ?_
 ·intro hc2
  try simp only[nrm]at hc2
  refine pe 6 Z (q3 (W_true Z (q2 (xbs H Z7 ?_))));intro _ _ _ H
  have H:=H.blkAcc 3 (k:=0) (n:=0) rfl rfl (by decide)
  refine aG Z (q3 (W_ret (N_K_ret (rt1 results221 Z ?_))))
  obtain⟨_,H,hsg504,hsr504⟩:=H.shut' (k:=0) rfl (Chk.nil (E:=itemE) (sz:=3) (G:=G0)) aN aN
  exact H.retP (by rw[show Sp.l11Ids list path=[] by simp[Sp.l11Ids,Sp.atI,Sp.at_none hc2]];exact hsr504)
 intro hc2'
 try simp only[nrm]at hc2'
 obtain⟨i,_,ia,ib,_,_,_⟩:=Sp.at_nat hc2'
 have ib:Sp.l5At list path=(i:Int):=ib
 have hl:Sp.atI list path=some i:=ia
 refine pe 2 Z (gR Z (iP i hlist Z3 ib ?_));intro _ _ _ _ hz4 hE4 hrow4
 obtain⟨_,_,_,rfl,_,hr4,_,_⟩:=ox hE4
 refine gR Z (fA 1 Z (gR Z (lP H hrow4 1 Z2 (pe 1 Z (q3 ?_)))))
 refine W_cond Z ?_ ?_
 ·intro hc5
  try simp only[nrm]at hc5
  refine q2 (xbs H Z7 ?_);intro _ _ _ H
  have H:=H.blkAcc 3 (k:=0) (n:=0) rfl rfl (by decide)
  refine aG Z (q3 (W_ret (N_K_ret (rt1 results221 Z ?_))))
  obtain⟨_,H,hsg507,hsr507⟩:=H.shut' (k:=0) rfl (Chk.nil (E:=itemE) (sz:=3) (G:=G0)) aN aN
  exact H.retP (by rw[show Sp.l11Ids list path=[] by simp[Sp.l11Ids,hl,hz4,hc5]];exact hsr507)
 intro hc5'
 try simp only[nrm]at hc5'
 refine W_skip (N_K (q2 (pe 3 Z (aD Z2 ?_))))
 have hcap8:=hlist.cap;try simp only[List.length_set,List.length_append,List.length_take,List.length_drop,List.length_replicate]at hcap8
 refine o_slice (i:=i) (j:=(i+1)) underlying24 sizeOf35 Z Z Z Z ib oM aN aN ?_
 have hsl8:=hlist.part (i:=i) (j:=(i+1)) oM oM
 have hsn1:=hsl8.len
 refine aG Z (q3 (W_ret (rt1 results221 Z ?_)))
 exact H.retP (by rw[show Sp.l11Ids list path=(list.drop i).take (i+1-i) by simp[Sp.l11Ids,hl,hz4,hc5',Sp.drop_at hz4]];exact hsl8)
theorem l12Count_c (w0:World)(G0:PH)(hG:PSub G0 w0)(cd:List Value)(d:BDisk)(hd:diskE G0 d cd)(id:Int)(hT:Sp.TreeValid d.tree=true)(hN:Sp.l12Snaps d=true) :
  Calls Tryz.prog 93 #[.agg cd.toArray,.int .i64 id] w0 (Rets w0 (.int .i64 (Sp.l12Count d id:Int))):=by
 obtain⟨_,_,_,_,_,_,_,_,_,rfl,hr1,hr1',hr1'',⟨_,_⟩,⟨_,_⟩,_,_⟩:=ox hd
 obtain⟨_,hst⟩:=Sp.snaps_at hN
 have htc:=Sp.l11Count_le hT (id:=id)
 have H:=Hp.init hG
 refine calls_of_W (l:=[_,.int .i64 id]) func93 Z ntmps93 Z (q2 (o_box H Z Z Z ?_));intro b2 _ _ H
 refine aG Z (q1 (fA 1 Z (lB 0 H Z3 (mV Z (xr H Z2 (l11Count_c _ _ H.sub _ _ hr1' _ hT) ?_)))));intro _ H
 refine aG Z (q3 (W_seq (q2 (aG Z (q3 (W_block ?_))))))
 obtain⟨ln4,hln4,H⟩:=H.name (k:=0) rfl
 refine W_lp (hf:=(Sub.cons (t:=1) Z (Sub.cons (t:=2) Z (Sub.cons (t:=4) Z Sub.nil)))) (J:=fun M w m=>∃(c k:Nat) (G:PH),M=[(5,.int .i64 (c:Int)),(6,.int .i64 (k:Int))]∧PLe G0 G∧Hp w0 G0 [] w G [blk b2 (cl ln4 27)]∧(k≤d.snaps.length∧c=Sp.l11Count d.tree id+Sp.cntS d.snaps id k)∧m=(d.snaps.length-k)) (h0:=⟨(Sp.l11Count d.tree id),0,_,Z,PLe.refl _,H,?inv,Z⟩) (round:=?round)
 case inv=>exact⟨by omega,by simp[Sp.cntS]⟩
 case round =>
  rintro _ _ _ ⟨c,k,_,rfl,hle5,H,hinv5,rfl⟩
  subst hln4
  have hr1'':=hr1''.up hle5
  obtain⟨hk,hc⟩:=hinv5;have hcu:=Sp.cntS_le hst k hk (id:=id)
  refine W_seq (q2 (mV Z (fA 2 Z (lB 0 H Z3 (lN Z (pe 1 Z (q3 ?_)))))))
  refine W_cond Z ?_ ?_
  ·intro hc6
   try simp only[nrm]at hc6
   refine W_skip (N_K (W_seq (W_block (W_region (mV Z (fA 2 Z (lB 0 H Z3 (mV Z (iP k hr1'' Z3 Z ?_)))))))));intro _ _ z7 _ hz7 hE7 hrow7
   obtain⟨_,_,_,rfl,_,hr7,_,_⟩:=ox hE7
   have hlz:=Sp.l11Count_le (hst _ (List.mem_of_getElem? hz7)) (id:=id)
   refine fA 1 Z (lP H hrow7 1 Z2 (mV Z ?_))
   refine xr H Z2 (l11Count_c _ _ H.sub _ _ hr7 _ (hst _ (List.mem_of_getElem? hz7))) ?_;intro _ H
   refine aD Z2 (aG Z (R_nil (N_B (N_K (W_region (mV Z (aD Z2 (aG Z (R_nil ?_)))))))))
   refine N_lp (hJ:=⟨c+Sp.l11Count z7.tree id,k+1,_,Z,hle5,H,?inv,Z⟩) (hm:=?hm)
   case hm=>omega
   case inv=>exact⟨by omega,by rw[hc,Sp.cntS_succ hz7];omega⟩
  intro hc6'
  try simp only[nrm]at hc6'
  refine W_exit (N_K_exit (N_LP_exit (N_B_same (N_K (q2 (pe 2 Z (q3 (W_ret (rt1 results93 Z ?_)))))))))
  obtain rfl:k=d.snaps.length:=by omega
  exact H.rets (congrArg (Value.int .i64) (by rw[hc];rfl))
theorem l12Snaps_c (w0:World)(G0:PH)(hG:PSub G0 w0)(cd:List Value)(d:BDisk)(hd:diskE G0 d cd) :
  Calls Tryz.prog 92 #[.agg cd.toArray] w0 (Rets w0 (.bool (Sp.l12Snaps d))):=by
 obtain⟨_,_,_,_,_,_,_,_,_,rfl,hr1,hr1',hr1'',⟨_,_⟩,⟨_,_⟩,_,_⟩:=ox hd
 have H:=Hp.init hG
 refine calls_of_W (l:=[_]) func92 Z ntmps92 Z (q2 (o_box H Z Z Z ?_));intro b2 _ _ H
 refine aG Z (q3 (W_seq (q2 (aG Z (q3 (W_block ?_))))))
 obtain⟨ln3,hln3,H⟩:=H.name (k:=0) rfl
 refine W_lp (hf:=(Sub.cons (t:=1) Z Sub.nil)) (J:=fun M w m=>∃(k:Nat) (G:PH),M=[(3,.int .i64 (k:Int))]∧PLe G0 G∧Hp w0 G0 [] w G [blk b2 (cl ln3 27)]∧(k≤d.snaps.length∧∀j,j<k→Sp.okS d j=true)∧m=(d.snaps.length-k)) (h0:=⟨0,_,Z,PLe.refl _,H,?inv,Z⟩) (round:=?round)
 case inv=>exact⟨by omega,fun j hj=>by omega⟩
 case round =>
  rintro _ _ _ ⟨k,_,rfl,hle4,H,hinv4,rfl⟩
  subst hln3
  have hr1:=hr1.up hle4
  have hr1'':=hr1''.up hle4
  obtain⟨_,hall⟩:=hinv4
  refine W_seq (q2 (mV Z (fA 2 Z (lB 0 H Z3 (lN Z (pe 1 Z (q3 ?_)))))))
  refine W_cond Z ?_ ?_
  ·intro hc5
   try simp only[nrm]at hc5
   refine W_skip (N_K (W_seq (W_block (q2 (fA 2 Z (lB 0 H Z3 (mV Z (iP k hr1'' Z3 Z ?_))))))));intro _ _ _ _ hz6 hE6 hrow6
   obtain⟨_,_,_,rfl,hi6,hr6,_,_⟩:=ox hE6
   refine o_loadagg_P H isAgg107 sizeOf107 Z Z hrow6 Z (xal H Z ?_);intro _ _ _ H
   refine xst 0 H Z8 ?_;intro _ H
   refine q1 (fA 0 Z (lB 0 H Z3 (xr H Z2 (l1Word_c _ _ hi6) ?_)));intro _ H
   refine pe 2 Z ?_
   refine R_case (t:=21) Z ?_ ?_
   ·intro hc10
    try simp only[nrm]at hc10
    refine pe 22 Z (q3 (W_true Z (q2 (aG Z (q3 (W_ret (N_B_ret (N_K_ret (N_LP_ret (N_B_ret (N_K_ret (rt1 results92 Z ?_))))))))))))
    exact H.rets (congrArg Value.bool (by rw[Sp.l12Snaps,Sp.not_all_range (k:=k) oM (by rw[Sp.okS_at hz6];simp[*]<;>(intros;omega))];rfl))
   intro hc10'
   try simp only[nrm]at hc10'
   refine gR Z (fA 2 Z (gR Z (lB 1 H Z3 (gR Z (fA 0 Z (gR Z (lB 0 H Z3 (gR Z (xr H Z2 (l12At_c _ _ H.sub _ _ hr1'' _ hi6) ?_)))))))));intro _ H
   refine pe 4 Z ?_
   refine R_case (t:=30) Z ?_ ?_
   ·intro hc12
    try simp only[nrm]at hc12
    refine pe 13 Z (q3 (W_true Z (q2 (aG Z (q3 (W_ret (N_B_ret (N_K_ret (N_LP_ret (N_B_ret (N_K_ret (rt1 results92 Z ?_))))))))))))
    exact H.rets (congrArg Value.bool (by rw[Sp.l12Snaps,Sp.not_all_range (k:=k) oM (by rw[Sp.okS_at hz6];simp[*]<;>(intros;omega))];rfl))
   intro hc12'
   try simp only[nrm]at hc12'
   refine gR Z (fA 1 Z (gR Z (lB 0 H Z3 (gR Z (xr H Z2 (TreeValid_c _ _ H.sub _ _ hr6) ?_)))));intro _ H
   refine pe 3 Z ?_
   refine R_case (t:=36) Z ?_ ?_
   ·intro hc14
    try simp only[nrm]at hc14
    refine pe 7 Z (q3 (W_true Z (q2 (aG Z (q3 (W_ret (N_B_ret (N_K_ret (N_LP_ret (N_B_ret (N_K_ret (rt1 results92 Z ?_))))))))))))
    exact H.rets (congrArg Value.bool (by rw[Sp.l12Snaps,Sp.not_all_range (k:=k) oM (by rw[Sp.okS_at hz6];simp[*]<;>(intros;omega))];rfl))
   intro hc14'
   try simp only[nrm]at hc14'
   refine gR Z (fA 0 Z (gR Z (lB 1 H Z3 (gR Z (fA 1 Z (gR Z (lB 0 H Z3 (gR Z (xr H Z2 (l11Files_c _ _ H.sub _ _ hr1 _ _ hr6) ?_)))))))));intro _ H
   refine pe 2 Z (q3 ?_)
   refine W_cond Z ?_ ?_
   ·intro hc16
    try simp only[nrm]at hc16
    refine q2 (aG Z (q3 (W_ret (N_B_ret (N_K_ret (N_LP_ret (N_B_ret (N_K_ret (rt1 results92 Z ?_)))))))))
    exact H.rets (congrArg Value.bool (by rw[Sp.l12Snaps,Sp.not_all_range (k:=k) oM (by rw[Sp.okS_at hz6];simp[*]<;>(intros;omega))];rfl))
   intro hc16'
   try simp only[nrm]at hc16'
   refine W_skip (N_B (N_K (W_region (mV Z (aD Z2 (aG Z (R_nil ?_)))))))
   have H:=H.dl 0
   refine N_lp (hJ:=⟨k+1,_,Z,hle4,H,?inv,Z⟩) (hm:=?hm)
   case hm=>omega
   case inv=>exact⟨by omega,Sp.upto_succ hall (by rw[Sp.okS_at hz6];simp[*])⟩
  intro hc5'
  try simp only[nrm]at hc5'
  refine W_exit (N_K_exit (N_LP_exit (N_B_same (N_K (q2 (fA 2 Z (lB 0 H Z3 (lN Z (pe 2 Z (q3 (W_ret (rt1 results92 Z ?_))))))))))))
  exact H.rets (congrArg Value.bool (by rw[Sp.l12Snaps,Sp.all_range (fun j hj=>hall j oM),Bool.true_and];rw[Bool.eq_iff_iff];simp;omega))
theorem DiskValid_c (w0:World)(G0:PH)(hG:PSub G0 w0)(cd:List Value)(d:BDisk)(hd:diskE G0 d cd) :
  Calls Tryz.prog 27 #[.agg cd.toArray] w0 (Rets w0 (.bool (Sp.DiskValid d))):=by
 obtain⟨_,_,_,_,_,_,_,_,_,rfl,hr1,hr1',hr1'',⟨_,_⟩,⟨_,_⟩,_,_⟩:=ox hd
 have H:=Hp.init hG
 refine calls_of_W (l:=[_]) func27 Z ntmps27 Z (q2 (o_box H Z Z Z ?_));intro b2 _ _ H
 refine aG Z (q3 (W_seq (q2 (fA 0 Z (lB 0 H Z3 (xr H Z2 (StoreValid_c _ _ H.sub _ _ hr1) ?_))))));intro _ H
 refine pe 2 Z ?_
 refine R_case (t:=8) Z ?_ ?_
 ·intro hc4
  try simp only[nrm]at hc4
  refine pe 18 Z (q3 (W_true Z (q2 (aG Z (q3 (W_ret (N_K_ret (rt1 results27 Z ?_))))))))
  exact H.rets (congrArg Value.bool (by simp[Sp.DiskValid,hc4]))
 intro hc4'
 try simp only[nrm]at hc4'
 refine gR Z (fA 1 Z (gR Z (lB 0 H Z3 (gR Z (xr H Z2 (TreeValid_c _ _ H.sub _ _ hr1') ?_)))));intro _ H
 refine pe 3 Z ?_
 refine R_case (t:=14) Z ?_ ?_
 ·intro hc6
  try simp only[nrm]at hc6
  refine pe 12 Z (q3 (W_true Z (q2 (aG Z (q3 (W_ret (N_K_ret (rt1 results27 Z ?_))))))))
  exact H.rets (congrArg Value.bool (by simp[Sp.DiskValid,hc6]))
 intro hc6'
 try simp only[nrm]at hc6'
 refine gR Z (fA 0 Z (gR Z (lB 0 H Z3 (gR Z (fA 1 Z (gR Z (lB 0 H Z3 (gR Z (xr H Z2 (l11Files_c _ _ H.sub _ _ hr1 _ _ hr1') ?_)))))))));intro _ H
 refine pe 3 Z ?_
 refine R_case (t:=22) Z ?_ ?_
 ·intro hc8
  try simp only[nrm]at hc8
  refine pe 4 Z (q3 (W_true Z (q2 (aG Z (q3 (W_ret (N_K_ret (rt1 results27 Z ?_))))))))
  exact H.rets (congrArg Value.bool (by simp[Sp.DiskValid,hc8]))
 intro hc8'
 try simp only[nrm]at hc8'
 refine gR Z (lA 0 3 H Z4 (gR Z (xr H Z2 (l12Snaps_c _ _ H.sub _ d ⟨_,_,_,_,_,_,_,_,_,Z,hr1,hr1',hr1''⟩) ?_)));intro _ H
 refine pe 2 Z (q3 ?_)
 refine W_cond Z ?_ ?_
 ·intro hc10
  try simp only[nrm]at hc10
  refine q2 (aG Z (q3 (W_ret (N_K_ret (rt1 results27 Z ?_)))))
  exact H.rets (congrArg Value.bool (by simp[Sp.DiskValid,hc10]))
 intro hc10'
 try simp only[nrm]at hc10'
 refine W_skip (N_K (W_seq (q2 (aG Z (q3 (W_block ?_))))))
 obtain⟨ln11,hln11,H⟩:=H.name (k:=0) rfl
 refine W_lp (hf:=(Sub.cons (t:=1) Z Sub.nil)) (J:=fun M w m=>∃(k:Nat) (G:PH),M=[(3,.int .i64 (k:Int))]∧PLe G0 G∧Hp w0 G0 [] w G [blk b2 (cl ln11 27)]∧(k≤d.store.length∧(d.store.take k).all (Sp.usesD d)=true)∧m=(d.store.length-k)) (h0:=⟨0,_,Z,PLe.refl _,H,?inv,Z⟩) (round:=?round)
 case inv=>exact⟨by omega,by simp⟩
 case round =>
  rintro _ _ _ ⟨k,G12,rfl,hle12,H,hinv12,rfl⟩
  subst hln11
  have hr1:=hr1.up hle12
  have hr1':=hr1'.up hle12
  have hr1'':=hr1''.up hle12
  obtain⟨_,hall⟩:=hinv12
  refine W_seq (q2 (mV Z (fA 0 Z (lB 0 H Z3 (lN Z (pe 1 Z (q3 ?_)))))))
  refine W_cond Z ?_ ?_
  ·intro hc13
   try simp only[nrm]at hc13
   refine W_skip (N_K (W_seq (W_block (W_seq (W_drawK [0] 15 H kR Z ?_)))));intro _ H;have hd14:=PLe.refl G12
   refine RD_t 0 Z kR Z (fun _ hK=>v_loadagg_B 0 hK isAgg27 sizeOf27 Z Z Z Z) (dF 1 0 Z2 (dB 2 0 Z4 (dE 3 Z2 ?_)))
   have hl15:=hr1.len
   obtain⟨_,_,z15,_,ha15,hz15,hq15,hE15,hrow15,_⟩:=hr1.at (i:=k) oM
   clear hq15
   obtain⟨_,_,_,rfl,_,_,_,_,_⟩:=ox hE15
   refine dI 4 3 k ha15 Z3 Z (dF 5 0 Z2 (dP 6 hrow15 0 Z3 (dF 8 0 Z2 (dB 9 0 Z4 (dE 10 Z2 ?_)))))
   have hl16:=hr1.len
   obtain⟨_,_,z16,_,ha16,hz16,hq16,hE16,hrow16,_⟩:=hr1.at (i:=k) oM
   clear hq16
   obtain⟨_,_,_,rfl,_,_,_,_,_⟩:=ox hE16
   have hzz16:z15=z16:=Option.some.inj (hz15.symm.trans hz16)
   subst hzz16
   refine dI 11 3 k ha16 Z3 Z (dF 12 2 Z2 (dP 13 hrow16 2 Z3 (r1 7 Z (xr H Z2 (l12Count_c _ _ H.sub _ d ⟨_,_,_,_,_,_,_,_,_,Z,hr1,hr1',hr1''⟩ _ hc6' hc10') ?_))));intro _ H
   refine q4 H hd14 (dE 14 Z2 (rz (N_K ?_)))
   refine W_cond Z ?_ ?_
   ·intro hc18
    try simp only[nrm]at hc18
    refine q2 (aG Z (q3 (W_ret (N_B_ret (N_K_ret (N_LP_ret (N_B_ret (N_K_ret (rt1 results27 Z ?_)))))))))
    exact H.rets (congrArg Value.bool (by rw[Sp.DiskValid,Sp.all_false hz15 (by simp[Sp.usesD, *])];rfl))
   intro hc18'
   try simp only[nrm]at hc18'
   refine W_skip (N_B (N_K (W_region (mV Z (aD Z2 (aG Z (R_nil ?_)))))))
   refine N_lp (hJ:=⟨k+1,_,Z,hle12,H,?inv,Z⟩) (hm:=?hm)
   case hm=>omega
   case inv=>exact⟨by omega,Sp.all_take hall hz15 (by simp[Sp.usesD, *])⟩
  intro hc13'
  try simp only[nrm]at hc13'
  refine W_exit (N_K_exit (N_LP_exit (N_B_same (N_K (q2 (aG Z (q3 (W_ret (rt1 results27 Z ?_)))))))))
  obtain rfl:k=d.store.length:=by omega
  rw[List.take_length]at hall
  exact H.rets (congrArg Value.bool (by simp[Sp.DiskValid,hall,hc4',hc6',hc8',hc10']))
theorem l12Copy_c (w0:World)(G0:PH)(hG:PSub G0 w0)(cd:List Value)(d:BDisk)(hd:diskE G0 d cd) :
  Calls Tryz.prog 66 #[.agg cd.toArray] w0 (RetO w0 G0 (fun G val r=>∃u u1 u2,val= .agg #[u,u1,u2]∧AccOf snapE 2 107 d.snaps G u2 r∧RdH G u d.store∧RdItems G u1 d.tree)):=by
 obtain⟨_,_,_,_,_,_,_,_,_,rfl,hr1,hr1',hr1'',⟨_,_⟩,⟨_,_⟩,_,_⟩:=ox hd
 have H:=Hp.init hG
 refine calls_of_W (l:=[_]) func66 Z ntmps66 Z (q2 (o_box H Z Z Z ?_));intro b2 _ _ H
 refine xal H Z ?_;intro b3 _ _ H
 refine q3 ?_
 obtain⟨ljb3,hljb3,H⟩:=H.name (k:=0) rfl
 obtain⟨ljb2,hljb2,H⟩:=H.name (k:=1) rfl
 have hj4:=PLe.refl G0
 refine W_join (hf:=(Sub.cons (t:=1) Z (Sub.cons (t:=2) Z Sub.nil))) (J:=fun M w=>∃(jb:Nat) (ja jc:Option Addr) (jm jk jn jl:Nat) (ve:Value) (ce:List Value) (ne:Nat) (G:PH),M=[(3,.pointer (some ⟨jb,0,none⟩))]∧PLe G0 G∧Hp w0 G0 [] w G [acc 107 2 ve ne ce,blk jb (cl [.slice ja jm jk,.slice jc jn jl,ve] 27),blk b3 (cl ljb3 27),blk b2 (cl ljb2 27)]∧(RdH G (.slice ja jm jk) d.store∧RdItems G (.slice jc jn jl) d.tree∧Chk snapE 2 G ce ([]:List BSnap)∧ne=0)) (first:=?_) (second:=?_)
 ·skip
  subst hljb3
  subst hljb2
  refine W_drawK [0,1] 10 H kR Z ?_;intro _ H;have hd5:=PLe.refl G0
  refine dF 0 0 Z2 (dB 1 1 Z4 (dF 3 1 Z2 (dB 4 1 Z4 ?_)))
  refine RD_run [2,6,8] kR Z (RDs.cons Z ?_ (RDs.cons Z ?_ (RDs.cons Z ?_ RDs.nil)))
  ·skip
   refine xc Z2 (l3Copy_c _ _ H.sub _ _ hr1) ?_
   rintro _ _ ⟨_,_,_,g6,rfl,⟨_,rfl,hchk6⟩,hp6,hq6,hs6⟩
   have H:=H.growO g6 hp6 hq6 hs6;obtain⟨_,_,rfl⟩:=H.accShape (k:=0) rfl
   have hr1':=hr1'.up g6.le
   have hj4:=hj4.trans g6.le
   have hd5:=hd5.trans g6.le
   refine⟨_,Z,?_⟩
   refine q4 H hd5 ?_
   refine RD_run [5,6,8] kR Z (RDs.cons Z ?_ (RDs.cons Z ?_ (RDs.cons Z ?_ RDs.nil)))
   ·skip
    refine xc Z2 (l5All_c _ _ H.sub _ _ hr1') ?_
    rintro _ _ ⟨_,_,_,g7,rfl,⟨_,rfl,hchk7⟩,hp7,hq7,hs7⟩
    have H:=H.growO g7 hp7 hq7 hs7;obtain⟨_,_,rfl⟩:=H.accShape (k:=0) rfl
    have hchk6:=hchk6.up g7.le
    have hj4:=hj4.trans g7.le
    have hd5:=hd5.trans g7.le
    refine⟨_,Z,?_⟩
    refine q4 H hd5 ?_
    refine r2 6 8 Z2 ?_ ?_
    ·skip
     refine xbs H Z7 ?_;intro _ _ _ H
     have H:=H.blkAcc 2 (k:=0) (n:=0) rfl rfl (by decide)
     refine q4 H hd5 (RD_t 7 Z kR Z (fun _ hK=>v_build bf27 Z Z) (r1 8 Z (xal H Z ?_)));intro _ _ _ H
     refine q4 H hd5 (r1 9 Z (xst 0 H Z8 ?_));intro _ H
     refine R_nil (N_DKlast kR kR ?_)
     obtain⟨_,H,hsg512,hsr512⟩:=H.shut' (k:=3) rfl hchk6 aN aN
     have hchk7:=hchk7.up hsg512
     have hj4:=hj4.trans hsg512
     obtain⟨G513,H,hsg513,hsr513⟩:=H.shut' (k:=2) rfl hchk7 aN aN
     have hsr512:=hsr512.up hsg513
     have hj4:=hj4.trans hsg513
     have H:=H.tF 3
     have H:=H.tF 3
     have H:=H.tF 2
     have H:=H.tF 3
     exact N_J ⟨_,_,_,_,_,_,_,_,_,_,_,Z,hj4,H,⟨hsr512,hsr513,(Chk.nil (E:=snapE) (sz:=2) (G:=G513)),Z⟩⟩
    skip
    refine xal H Z ?_;intro _ _ _ H
    refine q4 H hd5 (r1 6 Z (xbs H Z7 ?_));intro _ _ _ H
    have H:=H.blkAcc 2 (k:=0) (n:=0) rfl rfl (by decide)
    refine q4 H hd5 (RD_t 7 Z kR Z (fun _ hK=>v_build bf27 Z Z) (r1 9 Z (xst 1 H Z8 ?_)));intro _ H
    refine R_nil (N_DKlast kR kR ?_)
    obtain⟨_,H,hsg517,hsr517⟩:=H.shut' (k:=3) rfl hchk6 aN aN
    have hchk7:=hchk7.up hsg517
    have hj4:=hj4.trans hsg517
    obtain⟨G518,H,hsg518,hsr518⟩:=H.shut' (k:=2) rfl hchk7 aN aN
    have hsr517:=hsr517.up hsg518
    have hj4:=hj4.trans hsg518
    have H:=H.tF 3
    have H:=H.tF 3
    have H:=H.tF 3
    have H:=H.tF 3
    exact N_J ⟨_,_,_,_,_,_,_,_,_,_,_,Z,hj4,H,⟨hsr517,hsr518,(Chk.nil (E:=snapE) (sz:=2) (G:=G518)),Z⟩⟩
   ·skip
    refine xbs H Z7 ?_;intro _ _ _ H
    have H:=H.blkAcc 2 (k:=0) (n:=0) rfl rfl (by decide)
    refine q4 H hd5 ?_
    refine r2 5 8 Z2 ?_ ?_
    ·skip
     refine xc Z2 (l5All_c _ _ H.sub _ _ hr1') ?_
     rintro _ _ ⟨_,_,_,g15,rfl,⟨_,rfl,hchk15⟩,hp15,hq15,hs15⟩
     have H:=H.growO g15 hp15 hq15 hs15;obtain⟨_,_,rfl⟩:=H.accShape (k:=0) rfl
     have hchk6:=hchk6.up g15.le
     have hj4:=hj4.trans g15.le
     have hd5:=hd5.trans g15.le
     refine⟨_,Z,?_⟩
     refine q4 H hd5 (RD_t 7 Z kR Z (fun _ hK=>v_build bf27 Z Z) (r1 8 Z (xal H Z ?_)));intro _ _ _ H
     refine q4 H hd5 (r1 9 Z (xst 0 H Z8 ?_));intro _ H
     refine R_nil (N_DKlast kR kR ?_)
     obtain⟨_,H,hsg523,hsr523⟩:=H.shut' (k:=3) rfl hchk6 aN aN
     have hchk15:=hchk15.up hsg523
     have hj4:=hj4.trans hsg523
     obtain⟨G524,H,hsg524,hsr524⟩:=H.shut' (k:=1) rfl hchk15 aN aN
     have hsr523:=hsr523.up hsg524
     have hj4:=hj4.trans hsg524
     have H:=H.tF 3
     have H:=H.tF 3
     have H:=H.tF 2
     have H:=H.tF 3
     exact N_J ⟨_,_,_,_,_,_,_,_,_,_,_,Z,hj4,H,⟨hsr523,hsr524,(Chk.nil (E:=snapE) (sz:=2) (G:=G524)),Z⟩⟩
    skip
    refine xal H Z ?_;intro _ _ _ H
    refine q4 H hd5 (r1 5 Z (xc Z2 (l5All_c _ _ H.sub _ _ hr1') ?_))
    rintro _ _ ⟨_,_,_,g19,rfl,⟨_,rfl,hchk19⟩,hp19,hq19,hs19⟩
    have H:=H.growO g19 hp19 hq19 hs19;obtain⟨_,_,rfl⟩:=H.accShape (k:=0) rfl
    have hchk6:=hchk6.up g19.le
    have hj4:=hj4.trans g19.le
    have hd5:=hd5.trans g19.le
    refine⟨_,Z,?_⟩
    refine q4 H hd5 (RD_t 7 Z kR Z (fun _ hK=>v_build bf27 Z Z) (r1 9 Z (xst 1 H Z8 ?_)));intro _ H
    refine R_nil (N_DKlast kR kR ?_)
    obtain⟨_,H,hsg528,hsr528⟩:=H.shut' (k:=3) rfl hchk6 aN aN
    have hchk19:=hchk19.up hsg528
    have hj4:=hj4.trans hsg528
    obtain⟨G529,H,hsg529,hsr529⟩:=H.shut' (k:=0) rfl hchk19 aN aN
    have hsr528:=hsr528.up hsg529
    have hj4:=hj4.trans hsg529
    have H:=H.tF 3
    have H:=H.tF 3
    have H:=H.tF 2
    have H:=H.tF 3
    exact N_J ⟨_,_,_,_,_,_,_,_,_,_,_,Z,hj4,H,⟨hsr528,hsr529,(Chk.nil (E:=snapE) (sz:=2) (G:=G529)),Z⟩⟩
   skip
   refine xal H Z ?_;intro _ _ _ H
   refine q4 H hd5 ?_
   refine r2 5 6 Z2 ?_ ?_
   ·skip
    refine xc Z2 (l5All_c _ _ H.sub _ _ hr1') ?_
    rintro _ _ ⟨_,_,_,g22,rfl,⟨_,rfl,hchk22⟩,hp22,hq22,hs22⟩
    have H:=H.growO g22 hp22 hq22 hs22;obtain⟨_,_,rfl⟩:=H.accShape (k:=0) rfl
    have hchk6:=hchk6.up g22.le
    have hj4:=hj4.trans g22.le
    have hd5:=hd5.trans g22.le
    refine⟨_,Z,?_⟩
    refine q4 H hd5 (r1 6 Z (xbs H Z7 ?_));intro _ _ _ H
    have H:=H.blkAcc 2 (k:=0) (n:=0) rfl rfl (by decide)
    refine q4 H hd5 (RD_t 7 Z kR Z (fun _ hK=>v_build bf27 Z Z) (r1 9 Z (xst 2 H Z8 ?_)));intro _ H
    refine R_nil (N_DKlast kR kR ?_)
    obtain⟨_,H,hsg534,hsr534⟩:=H.shut' (k:=3) rfl hchk6 aN aN
    have hchk22:=hchk22.up hsg534
    have hj4:=hj4.trans hsg534
    obtain⟨G535,H,hsg535,hsr535⟩:=H.shut' (k:=1) rfl hchk22 aN aN
    have hsr534:=hsr534.up hsg535
    have hj4:=hj4.trans hsg535
    have H:=H.tF 3
    have H:=H.tF 3
    have H:=H.tF 3
    have H:=H.tF 3
    exact N_J ⟨_,_,_,_,_,_,_,_,_,_,_,Z,hj4,H,⟨hsr534,hsr535,(Chk.nil (E:=snapE) (sz:=2) (G:=G535)),Z⟩⟩
   skip
   refine xbs H Z7 ?_;intro _ _ _ H
   have H:=H.blkAcc 2 (k:=0) (n:=0) rfl rfl (by decide)
   refine q4 H hd5 (r1 5 Z (xc Z2 (l5All_c _ _ H.sub _ _ hr1') ?_))
   rintro _ _ ⟨_,_,_,g26,rfl,⟨_,rfl,hchk26⟩,hp26,hq26,hs26⟩
   have H:=H.growO g26 hp26 hq26 hs26;obtain⟨_,_,rfl⟩:=H.accShape (k:=0) rfl
   have hchk6:=hchk6.up g26.le
   have hj4:=hj4.trans g26.le
   have hd5:=hd5.trans g26.le
   refine⟨_,Z,?_⟩
   refine q4 H hd5 (RD_t 7 Z kR Z (fun _ hK=>v_build bf27 Z Z) (r1 9 Z (xst 2 H Z8 ?_)));intro _ H
   refine R_nil (N_DKlast kR kR ?_)
   obtain⟨_,H,hsg539,hsr539⟩:=H.shut' (k:=3) rfl hchk6 aN aN
   have hchk26:=hchk26.up hsg539
   have hj4:=hj4.trans hsg539
   obtain⟨G540,H,hsg540,hsr540⟩:=H.shut' (k:=0) rfl hchk26 aN aN
   have hsr539:=hsr539.up hsg540
   have hj4:=hj4.trans hsg540
   have H:=H.tF 3
   have H:=H.tF 3
   have H:=H.tF 3
   have H:=H.tF 3
   exact N_J ⟨_,_,_,_,_,_,_,_,_,_,_,Z,hj4,H,⟨hsr539,hsr540,(Chk.nil (E:=snapE) (sz:=2) (G:=G540)),Z⟩⟩
  ·skip
   refine xbs H Z7 ?_;intro _ _ _ H
   have H:=H.blkAcc 2 (k:=0) (n:=0) rfl rfl (by decide)
   refine q4 H hd5 ?_
   refine r2 2 8 Z2 ?_ ?_
   ·skip
    refine xc Z2 (l3Copy_c _ _ H.sub _ _ hr1) ?_
    rintro _ _ ⟨_,_,_,g29,rfl,⟨_,rfl,hchk29⟩,hp29,hq29,hs29⟩
    have H:=H.growO g29 hp29 hq29 hs29;obtain⟨_,_,rfl⟩:=H.accShape (k:=0) rfl
    have hr1':=hr1'.up g29.le
    have hj4:=hj4.trans g29.le
    have hd5:=hd5.trans g29.le
    refine⟨_,Z,?_⟩
    refine q4 H hd5 ?_
    refine r2 5 8 Z2 ?_ ?_
    ·skip
     refine xc Z2 (l5All_c _ _ H.sub _ _ hr1') ?_
     rintro _ _ ⟨_,_,_,g30,rfl,⟨_,rfl,hchk30⟩,hp30,hq30,hs30⟩
     have H:=H.growO g30 hp30 hq30 hs30;obtain⟨_,_,rfl⟩:=H.accShape (k:=0) rfl
     have hchk29:=hchk29.up g30.le
     have hj4:=hj4.trans g30.le
     have hd5:=hd5.trans g30.le
     refine⟨_,Z,?_⟩
     refine q4 H hd5 (RD_t 7 Z kR Z (fun _ hK=>v_build bf27 Z Z) (r1 8 Z (xal H Z ?_)));intro _ _ _ H
     refine q4 H hd5 (r1 9 Z (xst 0 H Z8 ?_));intro _ H
     refine R_nil (N_DKlast kR kR ?_)
     obtain⟨_,H,hsg546,hsr546⟩:=H.shut' (k:=2) rfl hchk29 aN aN
     have hchk30:=hchk30.up hsg546
     have hj4:=hj4.trans hsg546
     obtain⟨G547,H,hsg547,hsr547⟩:=H.shut' (k:=1) rfl hchk30 aN aN
     have hsr546:=hsr546.up hsg547
     have hj4:=hj4.trans hsg547
     have H:=H.tF 3
     have H:=H.tF 3
     have H:=H.tF 2
     have H:=H.tF 3
     exact N_J ⟨_,_,_,_,_,_,_,_,_,_,_,Z,hj4,H,⟨hsr546,hsr547,(Chk.nil (E:=snapE) (sz:=2) (G:=G547)),Z⟩⟩
    skip
    refine xal H Z ?_;intro _ _ _ H
    refine q4 H hd5 (r1 5 Z (xc Z2 (l5All_c _ _ H.sub _ _ hr1') ?_))
    rintro _ _ ⟨_,_,_,g34,rfl,⟨_,rfl,hchk34⟩,hp34,hq34,hs34⟩
    have H:=H.growO g34 hp34 hq34 hs34;obtain⟨_,_,rfl⟩:=H.accShape (k:=0) rfl
    have hchk29:=hchk29.up g34.le
    have hj4:=hj4.trans g34.le
    have hd5:=hd5.trans g34.le
    refine⟨_,Z,?_⟩
    refine q4 H hd5 (RD_t 7 Z kR Z (fun _ hK=>v_build bf27 Z Z) (r1 9 Z (xst 1 H Z8 ?_)));intro _ H
    refine R_nil (N_DKlast kR kR ?_)
    obtain⟨_,H,hsg551,hsr551⟩:=H.shut' (k:=2) rfl hchk29 aN aN
    have hchk34:=hchk34.up hsg551
    have hj4:=hj4.trans hsg551
    obtain⟨G552,H,hsg552,hsr552⟩:=H.shut' (k:=0) rfl hchk34 aN aN
    have hsr551:=hsr551.up hsg552
    have hj4:=hj4.trans hsg552
    have H:=H.tF 3
    have H:=H.tF 3
    have H:=H.tF 2
    have H:=H.tF 3
    exact N_J ⟨_,_,_,_,_,_,_,_,_,_,_,Z,hj4,H,⟨hsr551,hsr552,(Chk.nil (E:=snapE) (sz:=2) (G:=G552)),Z⟩⟩
   skip
   refine xal H Z ?_;intro _ _ _ H
   refine q4 H hd5 (r1 2 Z (xc Z2 (l3Copy_c _ _ H.sub _ _ hr1) ?_))
   rintro _ _ ⟨_,_,_,g37,rfl,⟨_,rfl,hchk37⟩,hp37,hq37,hs37⟩
   have H:=H.growO g37 hp37 hq37 hs37;obtain⟨_,_,rfl⟩:=H.accShape (k:=0) rfl
   have hr1':=hr1'.up g37.le
   have hj4:=hj4.trans g37.le
   have hd5:=hd5.trans g37.le
   refine⟨_,Z,?_⟩
   refine q4 H hd5 (r1 5 Z (xc Z2 (l5All_c _ _ H.sub _ _ hr1') ?_))
   rintro _ _ ⟨_,_,_,g38,rfl,⟨_,rfl,hchk38⟩,hp38,hq38,hs38⟩
   have H:=H.growO g38 hp38 hq38 hs38;obtain⟨_,_,rfl⟩:=H.accShape (k:=0) rfl
   have hchk37:=hchk37.up g38.le
   have hj4:=hj4.trans g38.le
   have hd5:=hd5.trans g38.le
   refine⟨_,Z,?_⟩
   refine q4 H hd5 (RD_t 7 Z kR Z (fun _ hK=>v_build bf27 Z Z) (r1 9 Z (xst 2 H Z8 ?_)));intro _ H
   refine R_nil (N_DKlast kR kR ?_)
   obtain⟨_,H,hsg557,hsr557⟩:=H.shut' (k:=1) rfl hchk37 aN aN
   have hchk38:=hchk38.up hsg557
   have hj4:=hj4.trans hsg557
   obtain⟨G558,H,hsg558,hsr558⟩:=H.shut' (k:=0) rfl hchk38 aN aN
   have hsr557:=hsr557.up hsg558
   have hj4:=hj4.trans hsg558
   have H:=H.tF 3
   have H:=H.tF 3
   have H:=H.tF 2
   have H:=H.tF 3
   exact N_J ⟨_,_,_,_,_,_,_,_,_,_,_,Z,hj4,H,⟨hsr557,hsr558,(Chk.nil (E:=snapE) (sz:=2) (G:=G558)),Z⟩⟩
  skip
  refine xal H Z ?_;intro _ _ _ H
  refine q4 H hd5 ?_
  refine r2 2 6 Z2 ?_ ?_
  ·skip
   refine xc Z2 (l3Copy_c _ _ H.sub _ _ hr1) ?_
   rintro _ _ ⟨_,_,_,g41,rfl,⟨_,rfl,hchk41⟩,hp41,hq41,hs41⟩
   have H:=H.growO g41 hp41 hq41 hs41;obtain⟨_,_,rfl⟩:=H.accShape (k:=0) rfl
   have hr1':=hr1'.up g41.le
   have hj4:=hj4.trans g41.le
   have hd5:=hd5.trans g41.le
   refine⟨_,Z,?_⟩
   refine q4 H hd5 ?_
   refine r2 5 6 Z2 ?_ ?_
   ·skip
    refine xc Z2 (l5All_c _ _ H.sub _ _ hr1') ?_
    rintro _ _ ⟨_,_,_,g42,rfl,⟨_,rfl,hchk42⟩,hp42,hq42,hs42⟩
    have H:=H.growO g42 hp42 hq42 hs42;obtain⟨_,_,rfl⟩:=H.accShape (k:=0) rfl
    have hchk41:=hchk41.up g42.le
    have hj4:=hj4.trans g42.le
    have hd5:=hd5.trans g42.le
    refine⟨_,Z,?_⟩
    refine q4 H hd5 (r1 6 Z (xbs H Z7 ?_));intro _ _ _ H
    have H:=H.blkAcc 2 (k:=0) (n:=0) rfl rfl (by decide)
    refine q4 H hd5 (RD_t 7 Z kR Z (fun _ hK=>v_build bf27 Z Z) (r1 9 Z (xst 3 H Z8 ?_)));intro _ H
    refine R_nil (N_DKlast kR kR ?_)
    obtain⟨_,H,hsg564,hsr564⟩:=H.shut' (k:=2) rfl hchk41 aN aN
    have hchk42:=hchk42.up hsg564
    have hj4:=hj4.trans hsg564
    obtain⟨G565,H,hsg565,hsr565⟩:=H.shut' (k:=1) rfl hchk42 aN aN
    have hsr564:=hsr564.up hsg565
    have hj4:=hj4.trans hsg565
    have H:=H.tF 3
    have H:=H.tF 3
    have H:=H.tF 3
    have H:=H.tF 3
    exact N_J ⟨_,_,_,_,_,_,_,_,_,_,_,Z,hj4,H,⟨hsr564,hsr565,(Chk.nil (E:=snapE) (sz:=2) (G:=G565)),Z⟩⟩
   skip
   refine xbs H Z7 ?_;intro _ _ _ H
   have H:=H.blkAcc 2 (k:=0) (n:=0) rfl rfl (by decide)
   refine q4 H hd5 (r1 5 Z (xc Z2 (l5All_c _ _ H.sub _ _ hr1') ?_))
   rintro _ _ ⟨_,_,_,g46,rfl,⟨_,rfl,hchk46⟩,hp46,hq46,hs46⟩
   have H:=H.growO g46 hp46 hq46 hs46;obtain⟨_,_,rfl⟩:=H.accShape (k:=0) rfl
   have hchk41:=hchk41.up g46.le
   have hj4:=hj4.trans g46.le
   have hd5:=hd5.trans g46.le
   refine⟨_,Z,?_⟩
   refine q4 H hd5 (RD_t 7 Z kR Z (fun _ hK=>v_build bf27 Z Z) (r1 9 Z (xst 3 H Z8 ?_)));intro _ H
   refine R_nil (N_DKlast kR kR ?_)
   obtain⟨_,H,hsg569,hsr569⟩:=H.shut' (k:=2) rfl hchk41 aN aN
   have hchk46:=hchk46.up hsg569
   have hj4:=hj4.trans hsg569
   obtain⟨G570,H,hsg570,hsr570⟩:=H.shut' (k:=0) rfl hchk46 aN aN
   have hsr569:=hsr569.up hsg570
   have hj4:=hj4.trans hsg570
   have H:=H.tF 3
   have H:=H.tF 3
   have H:=H.tF 3
   have H:=H.tF 3
   exact N_J ⟨_,_,_,_,_,_,_,_,_,_,_,Z,hj4,H,⟨hsr569,hsr570,(Chk.nil (E:=snapE) (sz:=2) (G:=G570)),Z⟩⟩
  skip
  refine xbs H Z7 ?_;intro _ _ _ H
  have H:=H.blkAcc 2 (k:=0) (n:=0) rfl rfl (by decide)
  refine q4 H hd5 (r1 2 Z (xc Z2 (l3Copy_c _ _ H.sub _ _ hr1) ?_))
  rintro _ _ ⟨_,_,_,g49,rfl,⟨_,rfl,hchk49⟩,hp49,hq49,hs49⟩
  have H:=H.growO g49 hp49 hq49 hs49;obtain⟨_,_,rfl⟩:=H.accShape (k:=0) rfl
  have hr1':=hr1'.up g49.le
  have hj4:=hj4.trans g49.le
  have hd5:=hd5.trans g49.le
  refine⟨_,Z,?_⟩
  refine q4 H hd5 (r1 5 Z (xc Z2 (l5All_c _ _ H.sub _ _ hr1') ?_))
  rintro _ _ ⟨_,_,_,g50,rfl,⟨_,rfl,hchk50⟩,hp50,hq50,hs50⟩
  have H:=H.growO g50 hp50 hq50 hs50;obtain⟨_,_,rfl⟩:=H.accShape (k:=0) rfl
  have hchk49:=hchk49.up g50.le
  have hj4:=hj4.trans g50.le
  have hd5:=hd5.trans g50.le
  refine⟨_,Z,?_⟩
  refine q4 H hd5 (RD_t 7 Z kR Z (fun _ hK=>v_build bf27 Z Z) (r1 9 Z (xst 3 H Z8 ?_)));intro _ H
  refine R_nil (N_DKlast kR kR ?_)
  obtain⟨_,H,hsg575,hsr575⟩:=H.shut' (k:=1) rfl hchk49 aN aN
  have hchk50:=hchk50.up hsg575
  have hj4:=hj4.trans hsg575
  obtain⟨G576,H,hsg576,hsr576⟩:=H.shut' (k:=0) rfl hchk50 aN aN
  have hsr575:=hsr575.up hsg576
  have hj4:=hj4.trans hsg576
  have H:=H.tF 3
  have H:=H.tF 3
  have H:=H.tF 3
  have H:=H.tF 3
  exact N_J ⟨_,_,_,_,_,_,_,_,_,_,_,Z,hj4,H,⟨hsr575,hsr576,(Chk.nil (E:=snapE) (sz:=2) (G:=G576)),Z⟩⟩
 rintro _ _ ⟨jb,ja,jc,jm,jk,jn,jl,ve,ce,ne,G4,rfl,hle4,H,hinv4⟩
 subst hljb3
 subst hljb2
 have hr1'':=hr1''.up hle4
 obtain⟨hja,hjb,hjc,rfl⟩:=hinv4;obtain⟨_,_,rfl⟩:=H.accShape (k:=0) rfl
 refine W_seq (q2 (aG Z (q3 (W_block ?_))))
 obtain⟨ln52,hln52,H⟩:=H.nameAt (k:=1) (off:=2) rfl rfl
 obtain⟨ln53,hln53,H⟩:=H.name (k:=2) rfl
 obtain⟨ln54,hln54,H⟩:=H.name (k:=3) rfl
 refine W_lp (hf:=(Sub.cons (t:=1) Z (Sub.cons (t:=2) Z (Sub.cons (t:=3) Z Sub.nil)))) (J:=fun M w m=>∃(v:Value) (n:Nat) (cs:List Value) (xs:List (BSnap)) (k:Nat) (G:PH),M=[(4,.int .i64 (k:Int))]∧PLe G4 G∧Hp w0 G0 [] w G [acc 107 2 v n cs,blk jb (cl (setN ln52 2 v) 27),blk b3 (cl ln53 27),blk b2 (cl ln54 27)]∧(Chk snapE 2 G cs xs∧n=xs.length∧k≤d.snaps.length∧xs.length=k∧xs=d.snaps.take k)∧m=(d.snaps.length-k)) (h0:=⟨_,_,_,[],0,_,Z,PLe.refl _,H,?inv,Z⟩) (round:=?round)
 case inv=>exact⟨hjc,by first|rfl|simp|(simp;omega)|omega,(by simp)⟩
 case round =>
  rintro _ _ _ ⟨v,n,cs,xs,k,G55,rfl,hle55,H,hinv55,rfl⟩
  subst hln52
  subst hln53
  subst hln54
  have hr1'':=hr1''.up hle55
  have hja:=hja.up hle55
  have hjb:=hjb.up hle55
  obtain⟨hchk55_0,_,hinv55⟩:=hinv55
  obtain⟨_,_,rfl⟩:=H.accShape (k:=0) rfl
  obtain⟨_,hxl,hxs⟩:=hinv55
  refine W_seq (q2 (mV Z (fA 2 Z (lB 3 H Z3 (lN Z (pe 1 Z (q3 ?_)))))))
  refine W_cond Z ?_ ?_
  ·intro hc56
   try simp only[nrm]at hc56
   refine W_skip (N_K (W_seq (W_block (W_drawK [1,2,3] 20 H kR Z ?_))));intro _ H;have hd57:=PLe.refl G55
   refine dF 0 2 Z2 (dB 1 0 Z4 (dF 2 2 Z2 (dB 3 2 Z4 (dE 4 Z2 ?_))))
   have hl58:=hr1''.len
   obtain⟨_,_,z58,_,ha58,hz58,hq58,hE58,hrow58,_⟩:=hr1''.at (i:=k) oM
   clear hq58
   obtain⟨_,_,_,rfl,hi58,hr58,_,_⟩:=ox hE58
   refine dI 5 2 k ha58 Z3 Z (dF 6 0 Z2 (dP 7 hrow58 0 Z3 (dF 8 2 Z2 (dB 9 2 Z4 (dE 10 Z2 ?_)))))
   have hl59:=hr1''.len
   obtain⟨_,_,z59,_,ha59,hz59,hq59,hE59,hrow59,_⟩:=hr1''.at (i:=k) oM
   clear hq59
   obtain⟨_,_,_,rfl,_,hr59,_,_⟩:=ox hE59
   have hzz59:z58=z59:=Option.some.inj (hz58.symm.trans hz59)
   subst hzz59
   refine dI 11 2 k ha59 Z3 Z (dF 12 1 Z2 (dP 13 hrow59 1 Z3 (r1 14 Z (xc Z2 (l5All_c _ _ H.sub _ _ hr59) ?_))))
   rintro _ _ ⟨_,_,_,g60,rfl,⟨_,rfl,hchk60⟩,hp60,hq60,hs60⟩
   have H:=H.growO g60 hp60 hq60 hs60;obtain⟨_,_,rfl⟩:=H.accShape (k:=0) rfl
   have hchk55_0:=hchk55_0.up g60.le
   have hle55:=hle55.trans g60.le
   have hd57:=hd57.trans g60.le
   refine⟨_,Z,?_⟩
   refine q4 H hd57 (RD_t 15 Z kR Z (fun _ hK=>v_build bf107 Z Z) (r1 16 Z (xbs H Z7 ?_)));intro _ _ _ H
   refine q4 H hd57 (r1 17 Z (o_append1 1 H (sz:=2) (bytes:=40) underlying25 typeInfo107 ⟨_,Z,Z⟩ Z Z Z Z Z Z Z Z Z Z oM Z ?_));intro _ _ H
   obtain⟨_,H,hsg63,hsr63⟩:=H.shut' (k:=0) rfl hchk60 aN aN
   have hchk55_0:=hchk55_0.up hsg63
   have hle55:=hle55.trans hsg63
   have hd57:=hd57.trans hsg63
   have hchk62:=hchk55_0.snoc (show snapE _ ⟨z58.name,z58.tree⟩ _ from⟨_,_,_,rfl,hi58,hsr63⟩) rfl
   obtain⟨_,_,rfl⟩:=H.accShape (k:=0) rfl
   refine q4 H hd57 (dF 18 2 Z2 (r1 19 Z (xst 1 H Z8 ?_)));intro _ H
   refine R_nil (N_DKlast kR kR (N_B (N_K (W_region (mV Z (aD Z2 (aG Z (R_nil ?_))))))))
   refine N_lp (hJ:=⟨_,_,_,(xs++[⟨z58.name,z58.tree⟩]),k+1,_,Z,hle55,H,?inv,Z⟩) (hm:=?hm)
   case hm=>omega
   case inv=>exact⟨hchk62,aN,(by exact⟨by omega,by simp[hxl],by rw[Sp.take_succ' hz58,hxs]⟩)⟩
  intro hc56'
  try simp only[nrm]at hc56'
  refine W_exit (N_K_exit (N_LP_exit (N_B_same (N_K (q2 (lA 1 3 H Z4 (xst 2 H Z8 ?_)))))));intro _ H
  refine q3 (W_ret (ret_gen (rs:=[.cell 2 27]) (vs:=[_]) results66 ⟨⟨_,Z,load_blk 2 H isAgg27 sizeOf27 Z Z Z⟩,trivial⟩ ?_))
  obtain rfl:k=d.snaps.length:=by omega
  rw[List.take_length]at hxs
  subst hxs
  exact H.retO (k:=0) Z ⟨_,_,_,Z,AccOf.mk aN hchk55_0,hja,hjb⟩ (acc_nd _ _ _ _ _)
theorem SnapTake_c (w0:World)(G0:PH)(hG:PSub G0 w0)(cd:List Value)(d:BDisk)(hd:diskE G0 d cd)(name:Bs)(hname:name.length≤16777216) :
  Calls Tryz.prog 17 #[.agg cd.toArray,str name] w0 (RetO w0 G0 (fun G val r=>∃u u1 u2,val= .tuple #[.agg #[u,u1,u2],.bool (Sp.SnapTake d name).isSome]∧AccOf snapE 2 107 (((Sp.SnapTake d name).map (·.snaps)).getD []) G u2 r∧RdH G u (((Sp.SnapTake d name).map (·.store)).getD [])∧RdItems G u1 (((Sp.SnapTake d name).map (·.tree)).getD []))):=by
 obtain⟨_,_,_,_,_,_,_,_,_,rfl,hr1,hr1',hr1'',⟨_,_⟩,⟨_,_⟩,_,_⟩:=ox hd
 have H:=Hp.init hG
 refine calls_of_W (l:=[_,str name]) func17 Z ntmps17 Z (q2 (o_box H Z Z Z ?_));intro _ _ _ H
 refine xal H Z ?_;intro _ _ _ H
 refine aG Z (q3 (W_seq (q2 (lA 1 3 H Z4 (xr H Z2 (DiskValid_c _ _ H.sub _ d ⟨_,_,_,_,_,_,_,_,_,Z,hr1,hr1',hr1''⟩) ?_)))));intro _ H
 refine pe 2 Z ?_
 refine R_case (t:=12) Z ?_ ?_
 ·intro hc5
  try simp only[nrm]at hc5
  refine pe 17 Z (q3 (W_true Z (q2 (o_build bf27 Z Z Z (xst 0 H Z8 ?_)))));intro _ H
  refine aG Z (q3 (W_ret (N_K_ret (ret_gen (rs:=[.cell 4 27,.tmp 5]) (vs:=[_,_]) results17 ⟨⟨_,Z,load_blk 0 H isAgg27 sizeOf27 Z Z Z⟩,Z,trivial⟩ ?_))))
  have hN:Sp.SnapTake d name=none:=by simp[Sp.SnapTake,hc5]
  have H:=H.addNil 107 2
  exact H.retO (k:=0) rfl (by rw[hN];exact⟨_,_,_,rfl,AccOf.mk rfl Chk.nil,RdS.nil _ _ _,RdS.nil _ _ _⟩) (acc_nd _ _ _ _ _)
 intro hc5'
 try simp only[nrm]at hc5'
 refine pe 1 Z (gR Z (xr H Z2 (l1Word_c _ _ hname) ?_));intro _ H
 refine pe 3 Z ?_
 refine R_case (t:=17) Z ?_ ?_
 ·intro hc8
  try simp only[nrm]at hc8
  refine pe 12 Z (q3 (W_true Z (q2 (o_build bf27 Z Z Z (xst 0 H Z8 ?_)))));intro _ H
  refine aG Z (q3 (W_ret (N_K_ret (ret_gen (rs:=[.cell 4 27,.tmp 5]) (vs:=[_,_]) results17 ⟨⟨_,Z,load_blk 0 H isAgg27 sizeOf27 Z Z Z⟩,Z,trivial⟩ ?_))))
  have hN:Sp.SnapTake d name=none:=by simp[Sp.SnapTake,hc8]
  have H:=H.addNil 107 2
  exact H.retO (k:=0) rfl (by rw[hN];exact⟨_,_,_,rfl,AccOf.mk rfl Chk.nil,RdS.nil _ _ _,RdS.nil _ _ _⟩) (acc_nd _ _ _ _ _)
 intro hc8'
 try simp only[nrm]at hc8'
 refine gR Z (fA 2 Z (gR Z (lB 1 H Z3 (pe 1 Z (gR Z (xr H Z2 (l12At_c _ _ H.sub _ _ hr1'' _ hname) ?_))))));intro _ H
 refine pe 3 Z ?_
 refine R_case (t:=24) Z ?_ ?_
 ·intro hc11
  try simp only[nrm]at hc11
  refine pe 5 Z (q3 (W_true Z (q2 (o_build bf27 Z Z Z (xst 0 H Z8 ?_)))));intro _ H
  refine aG Z (q3 (W_ret (N_K_ret (ret_gen (rs:=[.cell 4 27,.tmp 5]) (vs:=[_,_]) results17 ⟨⟨_,Z,load_blk 0 H isAgg27 sizeOf27 Z Z Z⟩,Z,trivial⟩ ?_))))
  have hN:Sp.SnapTake d name=none:=by (obtain⟨_,_,ia,_,_,_,_⟩:=Sp.at_nat hc11);simp[Sp.SnapTake,Sp.atS,ia]
  have H:=H.addNil 107 2
  exact H.retO (k:=0) rfl (by rw[hN];exact⟨_,_,_,rfl,AccOf.mk rfl Chk.nil,RdS.nil _ _ _,RdS.nil _ _ _⟩) (acc_nd _ _ _ _ _)
 intro hc11'
 try simp only[nrm]at hc11'
 refine gR Z (fA 2 Z (gR Z (lB 1 H Z3 (gR Z (lN Z (pe 2 Z (q3 ?_)))))))
 refine W_cond Z ?_ ?_
 ·intro hc13
  try simp only[nrm]at hc13
  refine q2 (o_build bf27 Z Z Z (xst 0 H Z8 ?_));intro _ H
  refine aG Z (q3 (W_ret (N_K_ret (ret_gen (rs:=[.cell 4 27,.tmp 5]) (vs:=[_,_]) results17 ⟨⟨_,Z,load_blk 0 H isAgg27 sizeOf27 Z Z Z⟩,Z,trivial⟩ ?_))))
  have hN:Sp.SnapTake d name=none:=by simp[Sp.SnapTake,show d.snaps.length=6 by omega]
  have H:=H.addNil 107 2
  exact H.retO (k:=0) rfl (by rw[hN];exact⟨_,_,_,rfl,AccOf.mk rfl Chk.nil,RdS.nil _ _ _,RdS.nil _ _ _⟩) (acc_nd _ _ _ _ _)
 intro hc13'
 try simp only[nrm]at hc13'
 refine W_skip (N_K (q2 (fA 0 Z (lB 1 H Z3 (fA 1 Z (lB 1 H Z3 (xc Z2 (l12Keep_c _ _ H.sub _ _ hr1 _ _ hr1') ?_)))))))
 rintro _ _ ⟨_,_,_,g15,rfl,⟨_,rfl,⟨_,rfl,hchk15⟩⟩,hp15,hq15,hs15⟩
 have H:=H.growO g15 hp15 hq15 hs15;obtain⟨_,_,rfl⟩:=H.accShape (k:=0) rfl
 have hr1:=hr1.up g15.le
 have hr1':=hr1'.up g15.le
 have hr1'':=hr1''.up g15.le
 refine⟨_,Z,?_⟩
 have hkl:=Sp.l12Keep_len d.store d.tree
 refine pe 5 Z (q3 (W_seq (q2 (pe 2 Z (q3 ?_)))))
 refine W_cond Z ?_ ?_
 ·intro hc16
  try simp only[nrm]at hc16
  refine q2 (o_build bf27 Z Z Z (xst 1 H Z8 ?_));intro _ H
  refine aG Z (q3 (W_ret (N_K_ret (ret_gen (rs:=[.cell 4 27,.tmp 5]) (vs:=[_,_]) results17 ⟨⟨_,Z,load_blk 1 H isAgg27 sizeOf27 Z Z Z⟩,Z,trivial⟩ ?_))))
  have hN:Sp.SnapTake d name=none:=by (have hno:Sp.l12Keep d.store d.tree=none:=by simpa using hc16);simp[Sp.SnapTake,hno]
  have H:=H.addNil 107 2
  exact H.retO (k:=0) rfl (by rw[hN];exact⟨_,_,_,rfl,AccOf.mk rfl Chk.nil,RdS.nil _ _ _,RdS.nil _ _ _⟩) (acc_nd _ _ _ _ _)
 intro hc16'
 try simp only[nrm]at hc16'
 refine W_skip (N_K (q2 (lA 2 3 H Z4 (xc Z2 (l12Copy_c _ _ H.sub _ d ⟨_,_,_,_,_,_,_,_,_,Z,hr1,hr1',hr1''⟩) ?_))))
 rintro _ _ ⟨G18,_,_,g18,rfl,⟨_,_,_,rfl,⟨_,rfl,hchk18⟩,hr18_0,hr18_1⟩,hp18,hq18,hs18⟩
 have H:=H.growO g18 hp18 hq18 hs18;obtain⟨_,_,rfl⟩:=H.accShape (k:=0) rfl
 have hr1':=hr1'.up g18.le
 have hchk15:=hchk15.up g18.le
 obtain⟨_,_,rfl⟩:=hr18_0.shape;have hx_hr18_0:_≤1099511627776:=hr18_0.lim
 obtain⟨_,_,rfl⟩:=hr18_1.shape;have hx_hr18_1:_≤1099511627776:=hr18_1.lim
 refine⟨_,Z,?_⟩
 refine xal H Z ?_;intro _ _ _ H
 refine xst 0 H Z8 ?_;intro _ H
 refine q1 (mV Z (fA 0 Z (xst 0 H Z8 ?_)));intro _ H
 refine q3 (W_seq (W_drawK [0,3,4] 11 H kR Z ?_));intro _ H;have hd22:=PLe.refl G18
 refine dF 0 2 Z2 (dB 1 0 Z4 (dE 2 Z2 (dF 3 1 Z2 (dB 4 2 Z4 (r1 5 Z (xc Z2 (l5All_c _ _ H.sub _ _ hr1') ?_))))))
 rintro _ _ ⟨_,_,_,g23,rfl,⟨_,rfl,hchk23⟩,hp23,hq23,hs23⟩
 have H:=H.growO g23 hp23 hq23 hs23;obtain⟨_,_,rfl⟩:=H.accShape (k:=0) rfl
 have hchk15:=hchk15.up g23.le
 have hr18_1:=hr18_1.up g23.le
 have hchk18:=hchk18.up g23.le
 have hd22:=hd22.trans g23.le
 refine⟨_,Z,?_⟩
 refine q4 H hd22 (RD_t 6 Z kR Z (fun _ hK=>v_build bf107 Z Z) (r1 7 Z (xbs H Z7 ?_)));intro _ _ _ H
 refine q4 H hd22 (r1 8 Z (o_append1 2 H (sz:=2) (bytes:=40) underlying25 typeInfo107 ⟨_,Z,Z⟩ Z Z Z Z Z Z Z Z Z Z oM Z ?_));intro _ _ H
 obtain⟨_,H,hsg26,hsr26⟩:=H.shut' (k:=0) rfl hchk23 aN aN
 have hchk15:=hchk15.up hsg26
 have hr18_1:=hr18_1.up hsg26
 have hchk18:=hchk18.up hsg26
 have hd22:=hd22.trans hsg26
 have hchk25:=hchk18.snoc (show snapE _ ⟨name,d.tree⟩ _ from⟨_,_,_,rfl,hname,hsr26⟩) rfl
 obtain⟨_,_,rfl⟩:=H.accShape (k:=1) rfl
 refine q4 H hd22 (dF 9 2 Z2 (r1 10 Z (xst 0 H Z8 ?_)));intro _ H
 refine R_nil (N_DKlast kR kR (N_K (q2 (lA 0 3 H Z4 (xst 3 H Z8 ?_)))));intro _ H
 refine aG Z (q3 (W_ret (ret_gen (rs:=[.cell 4 27,.tmp 5]) (vs:=[_,_]) results17 ⟨⟨_,Z,load_blk 3 H isAgg27 sizeOf27 Z Z Z⟩,Z,trivial⟩ ?_)))
 obtain⟨_,H,hsg530,hsr530⟩:=H.shut' (k:=2) rfl hchk15 aN aN
 have hr18_1:=hr18_1.up hsg530
 have hchk25:=hchk25.up hsg530
 have hY:Sp.SnapTake d name=some ⟨(Sp.l12Keep d.store d.tree).getD [],d.tree,d.snaps++[⟨name,d.tree⟩]⟩:=by (obtain⟨_,hp⟩:=Option.isSome_iff_exists.1 hc16');(have hat:Sp.atS d.snaps name=none:=Sp.at_none hc11');simp[Sp.SnapTake,hc5',hc8',hat,hp,show¬d.snaps.length=6 by omega]
 exact H.retO (k:=1) rfl (by rw[hY];exact⟨_,_,_,rfl,AccOf.mk aN hchk25,hsr530,hr18_1⟩) (acc_nd _ _ _ _ _)
theorem SnapTakeP_c (w0:World)(G0:PH)(hG:PSub G0 w0)(cd:List Value)(d:BDisk)(hd:diskE G0 d cd)(name:Bs)(hname:name.length≤16777216) :
  Calls Tryz.prog 17 #[.agg cd.toArray,str name] w0 (RetP w0 G0 (fun G val=>∃cs,val= .tuple #[.agg cs.toArray,.bool (Sp.SnapTake d name).isSome]∧diskE G ((Sp.SnapTake d name).getD ⟨[],[],[]⟩) cs)):=by
 refine(SnapTake_c w0 G0 hG cd d hd name hname).mono ?_
 rintro _ _ ⟨_,_,_,g,rfl,⟨_,_,_,rfl,⟨_,rfl,hchk⟩,h1,h2⟩,hp,hq,hs⟩
 have H:=(Hp.init hG).growO g hp hq hs
 have hb:(((Sp.SnapTake d name).map (·.snaps)).getD []).length≤6:=Sp.dk_lim (fun d1 h=>Sp.take_valid h)
 obtain⟨_,H2,hle,hr⟩:=H.shut' (k:=0) rfl hchk rfl oM
 have e1:((Sp.SnapTake d name).map (·.store)).getD []=((Sp.SnapTake d name).getD ⟨[],[],[]⟩).store:=by cases Sp.SnapTake d name<;>rfl
 have e2:((Sp.SnapTake d name).map (·.tree)).getD []=((Sp.SnapTake d name).getD ⟨[],[],[]⟩).tree:=by cases Sp.SnapTake d name<;>rfl
 have e3:((Sp.SnapTake d name).map (·.snaps)).getD []=((Sp.SnapTake d name).getD ⟨[],[],[]⟩).snaps:=by cases Sp.SnapTake d name<;>rfl
 rw[e1]at h1;rw[e2]at h2;rw[e3]at hr
 obtain⟨_,_,rfl⟩:=h1.shape
 obtain⟨_,_,rfl⟩:=h2.shape
 obtain⟨_,_,rfl⟩:=hr.shape
 exact H2.retP ⟨[_,_,_],Z,_,_,_,_,_,_,_,_,_,Z,h1.up hle,h2.up hle,hr⟩
theorem pick_c (w0:World)(G0:PH)(hG:PSub G0 w0)(rb:Nat)(ab:Option Addr)(mb kb:Nat)(bs:List UInt8)(p:Nat)(hbs:RdU G0 (.slice ab mb kb) bs)(hrb:w0.heap[rb]? = some (cl [.slice ab mb kb,.int .i64 (p:Int)] 192))(hrn:G0 rb=none)(hp:p≤1000000000000)(n:Int)(hn:inI n) :
  Calls Tryz.prog 57 #[.pointer (some ⟨rb,0,none⟩),.int .i64 n] w0 (RetM w0 G0 [rb] (fun G val Bs=>∃(p':Nat) (x:Nat),p'≤p+1∧val= .int .i64 (x:Int)∧((x:Int)<n∨x=0)∧Bs=[blk rb (cl [.slice ab mb kb,.int .i64 (p':Int)] 192)])):=by
 have hlimbs:bs.length≤1099511627776:=hbs.lim;obtain rfl:mb=bs.length:=hbs.len
 have H:=Hp.initM hG hrb hrn
 refine calls_of_W (l:=[.pointer (some ⟨rb,0,none⟩),.int .i64 n]) func57 Z ntmps57 Z (q2 (aG Z (q1 (pe 3 Z (fA 1 Z (lB 0 H Z3 (aD Z2 (pe 1 Z (fA 1 Z (xst 0 H Z8 ?_))))))))));intro _ H
 refine q3 (W_seq (q2 (pe 3 Z ?_)))
 refine R_case (t:=17) Z ?_ ?_
 ·intro hc3
  try simp only[nrm]at hc3
  refine pe 7 Z (q3 (W_true Z (q2 (aG Z (q3 (W_ret (N_K_ret (rt1 results57 Z ?_))))))))
  exact H.retM ⟨p+1,0,by omega,rfl,.inr rfl,rfl⟩
 intro hc3'
 try simp only[nrm]at hc3'
 refine pe 2 Z (gR Z (fA 0 Z (gR Z (lB 0 H Z3 (gR Z (lN Z (pe 2 Z (q3 ?_))))))))
 refine W_cond Z ?_ ?_
 ·intro hc4
  try simp only[nrm]at hc4
  refine q2 (aG Z (q3 (W_ret (N_K_ret (rt1 results57 Z ?_)))))
  exact H.retM ⟨p+1,0,by omega,rfl,.inr rfl,rfl⟩
 intro hc4'
 try simp only[nrm]at hc4'
 have hm0:0<bs.length:=by omega
 have hm1:=Nat.mod_lt p hm0
 have hm2:=Nat.mod_lt (p*7+3) hm0
 have hq1:0≤((p:Int)+1-1) / (bs.length:Int):=Int.ediv_nonneg oM oM
 have hq2:((p:Int)+1-1) / (bs.length:Int)≤(p:Int)+1-1:=Int.ediv_le_self _ oM
 refine W_skip (N_K (q2 (pe 2 Z (fA 1 Z (lB 0 H Z3 (o_sub Z Z Z oO (aG Z (q3 (W_seq (q2 (pe 3 Z (fA 0 Z (lB 0 H Z3 (lN Z (pe 1 Z ?_)))))))))))))))
 refine q3 ?_
 refine W_cond Z ?_ ?_
 ·intro hc6
  try simp only[nrm]at hc6
  refine q2 (pe 2 Z (fA 0 Z (lB 0 H Z3 (mV Z (iP p hbs Z3 oM ?_)))));intro _ _ z7 _ _ hE7 hrow7
  obtain rfl:=hE7
  have hzl7:=z7.toNat_lt
  refine lP H hrow7 0 Z2 (o_conv (by simp[underlying5]) underlying3 Z Z (wrap_i64 oO) (mV Z (o_rem Z Z Z oM oM (aG Z (q3 (W_ret (N_K_ret (rt1 results57 Z ?_))))))))
  exact H.retM ⟨p+1,_,by omega,congrArg (Value.int .i64) (Int.toNat_of_nonneg (Int.emod_nonneg _ oM)).symm,.inl (by rw[Int.toNat_of_nonneg (Int.emod_nonneg _ oM)];exact Int.emod_lt_of_pos _ oM),rfl⟩
 intro hc6'
 try simp only[nrm]at hc6'
 refine W_skip (N_K (W_seq (W_drawK [0] 46 H kR Z ?_)));intro _ H;have hd8:=PLe.refl G0
 refine dE 0 Z2 (dE 1 Z2 (dF 2 0 Z2 (dB 3 0 Z4 (dE 4 Z2 (dE 5 Z2 (dE 6 Z2 (dF 7 0 Z2 (dB 8 0 Z4 (dN 9 Z2 (RD_t 10 Z kR Z (fun _ hK=>v_rem Z Z oM oM) ?_))))))))))
 have hl9:=hbs.len
 obtain⟨_,_,z9,_,ha9,_,hq9,hE9,hrow9,_⟩:=hbs.at (i:=(p % bs.length)) oM
 clear hq9
 obtain rfl:=hE9
 have hzl9:=z9.toNat_lt
 refine RD_t 11 Z kR Z (fun _ hK=>v_index_P (i:=(p % bs.length)) ha9 underlying22 sizeOf5 Z Z (by rw[Int.add_sub_cancel];exact(Int.natCast_emod _ _).symm) oM) ?_
 refine dP 12 hrow9 0 Z3 (RD_t 13 Z kR Z (fun _ hK=>v_conv (by simp[underlying5]) underlying3 Z (wrap_i64 oO)) (RD_t 14 Z kR Z (fun _ hK=>v_mul Z Z oO) (dE 15 Z2 (dE 16 Z2 (dF 17 0 Z2 (dB 18 0 Z4 (dE 19 Z2 (RD_t 20 Z kR Z (fun _ hK=>v_mul Z Z oO) (RD_t 21 Z kR Z (fun _ hK=>v_add Z Z oO) (dE 22 Z2 (dE 23 Z2 (dF 24 0 Z2 (dB 25 0 Z4 (dN 26 Z2 (RD_t 27 Z kR Z (fun _ hK=>v_rem Z Z oM oM) ?_)))))))))))))))
 have hl13:=hbs.len
 obtain⟨_,_,z13,_,ha13,_,hq13,hE13,hrow13,_⟩:=hbs.at (i:=((p*7+3) % bs.length)) oM
 clear hq13
 obtain rfl:=hE13
 have hzl13:=z13.toNat_lt
 refine RD_t 28 Z kR Z (fun _ hK=>v_index_P (i:=((p*7+3) % bs.length)) ha13 underlying22 sizeOf5 Z Z (by rw[Int.add_sub_cancel];exact(Int.natCast_emod _ _).symm) oM) ?_
 refine dP 29 hrow13 0 Z3 (RD_t 30 Z kR Z (fun _ hK=>v_conv (by simp[underlying5]) underlying3 Z (wrap_i64 oO)) (RD_t 31 Z kR Z (fun _ hK=>v_mul Z Z oO) (RD_t 32 Z kR Z (fun _ hK=>v_add Z Z oO) (dE 33 Z2 (RD_t 34 Z kR Z (fun _ hK=>v_mul Z Z oO) (RD_t 35 Z kR Z (fun _ hK=>v_add Z Z oO) (dE 36 Z2 (dE 37 Z2 (dE 38 Z2 (dF 39 0 Z2 (dB 40 0 Z4 (dN 41 Z2 (RD_t 42 Z kR Z (fun _ hK=>v_quo Z Z oM oM oM) (RD_t 43 Z kR Z (fun _ hK=>v_mul Z Z oO) (RD_t 44 Z kR Z (fun _ hK=>v_add Z Z oO) ?_)))))))))))))))
 refine dE 45 Z2 (rz (N_K (q2 (pe 2 Z (o_quo Z Z Z oM oM oM (o_xor Z Z Z oO oO ?_))))));intro _ _
 refine aG Z (q1 (pe 2 Z (o_rem Z Z Z oM oM (aG Z (q3 (W_ret (rt1 results57 Z ?_)))))))
 exact H.retM ⟨p+1,_,by omega,congrArg (Value.int .i64) (Int.toNat_of_nonneg (Int.emod_nonneg _ oM)).symm,.inl (by rw[Int.toNat_of_nonneg (Int.emod_nonneg _ oM)];exact Int.emod_lt_of_pos _ oM),rfl⟩
theorem of_c (w0:World)(G0:PH)(hG:PSub G0 w0)(rb:Nat)(ab:Option Addr)(mb kb:Nat)(bs:List UInt8)(p:Nat)(hbs:RdU G0 (.slice ab mb kb) bs)(hrb:w0.heap[rb]? = some (cl [.slice ab mb kb,.int .i64 (p:Int)] 192))(hrn:G0 rb=none)(hp:p≤100000000000)(vlist:Value)(list:List (Bs))(hlist:RdT G0 vlist list)(hL:0<list.length) :
  Calls Tryz.prog 58 #[.pointer (some ⟨rb,0,none⟩),vlist] w0 (RetM w0 G0 [rb] (fun G val Bs=>∃(p':Nat) (x:Fw.Bs),p'≤p+1∧val=str x∧x.length≤16777216∧Bs=[blk rb (cl [.slice ab mb kb,.int .i64 (p':Int)] 192)])):=by
 have hlimbs:bs.length≤1099511627776:=hbs.lim;obtain rfl:mb=bs.length:=hbs.len
 obtain⟨alist,klist,rfl⟩:=hlist.shape
 have hlimlist:list.length≤1099511627776:=hlist.lim
 have H:=Hp.initM hG hrb hrn
 refine calls_of_W (l:=[.pointer (some ⟨rb,0,none⟩),.slice alist list.length klist]) func58 Z ntmps58 Z (q2 (aG Z (q1 (pe 3 Z (lN Z (xc Z2 (pick_c _ _ H.sub _ _ _ _ _ _ hbs (H.blkIs (k:=0) Z).1 (H.blkIs (k:=0) Z).2 oM _ oO) ?_))))))
 rintro _ _ ⟨_,_,_,rfl,H1',⟨_,x1,_,rfl,_,rfl⟩⟩
 have hlist:=hlist.up H1'.le
 have H:=H.borrow (k:=0) rfl H1'
 refine⟨_,Z,?_⟩
 refine iP x1 hlist Z3 Z ?_;intro _ _ _ _ _ hE2 hrow2
 obtain⟨rfl,hi2⟩:=hE2;have hy_hi2:_≤16777216:=hi2
 refine lP H hrow2 0 Z2 (aG Z (q3 (W_ret (rt1 results58 Z ?_))))
 exact H.retM ⟨_,_,by omega,rfl,(by assumption),rfl⟩
theorem l6Open_c (w0:World)(G0:PH)(hG:PSub G0 w0)(vcode:Value)(code:List (UInt8))(hcode:RdU G0 vcode code) :
  Calls Tryz.prog 55 #[vcode] w0 (RetO w0 G0 (fun G val r=>∃(b:Nat) (ab:Option Addr) (mb kb:Nat) (bs:List UInt8),val= .pointer (some ⟨b,0,none⟩)∧r=blk b (cl [.slice ab mb kb,.int .i64 ((0:Nat):Int)] 192)∧RdU G (.slice ab mb kb) bs)):=by
 obtain⟨acode,kcode,rfl⟩:=hcode.shape
 have hlimcode:code.length≤1099511627776:=hcode.lim
 have H:=Hp.init hG
 refine calls_of_W (l:=[.slice acode code.length kcode]) func55 Z ntmps55 Z (q2 (aG Z (q3 (W_seq (q2 (mV Z (lN Z (pe 1 Z (q3 ?_)))))))))
 refine W_cond Z ?_ ?_
 ·intro hc1
  try simp only[nrm]at hc1
  refine W_region (mV Z ?_)
  have hcap2:=hcode.cap;try simp only[List.length_set,List.length_append,List.length_take,List.length_drop,List.length_replicate]at hcap2
  refine o_slice_to (j:=2000) underlying22 sizeOf5 Z Z Z oM oM ?_
  have hsl2:=hcode.take (j:=2000) aN
  have hsn1:=hsl2.len
  refine aG Z (q1 (mV Z (o_build bf192 Z Z Z (o_box H Z Z Z ?_))));intro _ _ _ H
  refine aG Z (q3 (W_ret (rt1 results55 Z ?_)))
  exact H.retO (k:=0) rfl ⟨_,_,_,_,_,rfl,rfl,hsl2⟩ (by simp[blk])
 intro hc1'
 try simp only[nrm]at hc1'
 refine W_skip (N_K (q2 (mV Z (o_build bf192 Z Z Z (o_box H Z Z Z ?_)))));intro _ _ _ H
 refine aG Z (q3 (W_ret (rt1 results55 Z ?_)))
 exact H.retO (k:=0) rfl ⟨_,_,_,_,_,rfl,rfl,hcode⟩ (by simp[blk])
theorem l3Free_c (w0:World)(G0:PH)(hG:PSub G0 w0)(vlist:Value)(list:List (BHeld))(hlist:RdH G0 vlist list) :
  Calls Tryz.prog 278 #[vlist] w0 (Rets w0 (.int .i64 (Sp.freeId list:Int))):=by
 obtain⟨alist,klist,rfl⟩:=hlist.shape
 have hlimlist:list.length≤1099511627776:=hlist.lim
 have H:=Hp.init hG
 refine calls_of_W (l:=[.slice alist list.length klist]) func278 Z ntmps278 Z (q2 (aG Z (q1 (aG Z (q3 (W_seq (W_block ?_)))))))
 refine W_lp (hf:=(Sub.cons (t:=0) Z (Sub.cons (t:=2) Z Sub.nil))) (J:=fun M w m=>∃(k:Nat) (G:PH),M=[(3,.int .i64 ((k:Int)+1))]∧PLe G0 G∧Hp w0 G0 [] w G []∧(∀j:Nat,j<k→(Sp.atH list ((j:Int)+1)).isSome=true)∧m=(list.length+1-k)) (h0:=⟨0,_,Z,PLe.refl _,H,?inv,Z⟩) (round:=?round)
 case inv=>exact fun j hj=>by omega
 case round =>
  rintro _ _ _ ⟨k,_,rfl,hle1,H,hinv1,rfl⟩
  have hlist:=hlist.up hle1
  have hall:=hinv1;have hkl:=Sp.free_le hall
  refine W_seq (q2 (pe 2 Z (xr H Z2 (l3At_c _ _ H.sub _ _ hlist _) ?_)));intro _ H
  refine pe 1 Z (q3 ?_)
  refine W_cond Z ?_ ?_
  ·intro hc3
   try simp only[nrm]at hc3
   refine W_skip (N_K (W_block (W_region (mV Z (aD Z2 (aG Z (R_nil (N_B ?_))))))))
   refine N_lp (hJ:=⟨k+1,_,Z,hle1,H,?inv,Z⟩) (hm:=?hm)
   case hm=>omega
   case inv=>exact Sp.upto_succ (p:=fun j:Nat=>(Sp.atH list ((j:Int)+1)).isSome) hall (Sp.isSome_of hc3)
  intro hc3'
  try simp only[nrm]at hc3'
  refine W_exit (N_K_exit (N_LP_exit (N_B_same (N_K (q2 (pe 2 Z (q3 (W_ret (rt1 results278 Z ?_)))))))))
  exact H.rets (congrArg (Value.int .i64) (by rw[Sp.free_eq hall (Sp.isNone_of hc3')];rfl))
theorem l3With_c (w0:World)(G0:PH)(hG:PSub G0 w0)(vlist:Value)(list:List (BHeld))(hlist:RdH G0 vlist list)(vbytes:Value)(bytes:List (Int))(hbytes:RdI G0 vbytes bytes)(hS:list.length≤1000000) :
  Calls Tryz.prog 279 #[vlist,vbytes] w0 (RetO w0 G0 (AccOf heldE 3 153 (Sp.l3With list bytes))):=by
 obtain⟨alist,klist,rfl⟩:=hlist.shape
 have hlimlist:list.length≤1099511627776:=hlist.lim
 obtain⟨abytes,kbytes,rfl⟩:=hbytes.shape
 have hlimbytes:bytes.length≤1099511627776:=hbytes.lim
 have hfr:=Sp.free_lt list
 have H:=Hp.init hG
 refine calls_of_W (l:=[.slice alist list.length klist,.slice abytes bytes.length kbytes]) func279 Z ntmps279 Z (q2 (aG Z (q1 (mV Z (xr H Z2 (l3Free_c _ _ H.sub _ _ hlist) ?_)))));intro _ H
 refine aG Z (q1 (xbs H Z7 ?_));intro _ _ _ H
 have H:=H.blkAcc 3 (k:=0) (n:=0) rfl rfl (by decide)
 refine aG Z (q1 (aG Z (q1 (mV Z (xbs H Z7 ?_)))));intro _ _ _ H
 have H:=H.blkAcc 1 (k:=0) (n:=0) rfl rfl (by decide)
 refine mV Z ?_
 refine o_append_P 0 H hbytes (by intro _ cs hz _ hu;obtain⟨rfl,_⟩:=hz;simp at hu;subst hu;rfl) (sz:=1) (bytes:=8) underlying33 typeInfo3 ⟨_,rfl,rfl⟩ rfl rfl rfl rfl rfl rfl rfl oM rfl ?_;intro _ _ css4 hcl4 hcs4 H
 have hchk4:Chk intE 1 G0 ([]++css4.flatten) _:=⟨css4,rfl,hcl4,hcs4⟩
 obtain⟨_,_,rfl⟩:=H.accShape (k:=0) rfl
 refine o_build bf153 Z Z Z (xal H Z ?_);intro b5 _ _ H
 refine xst 0 H Z8 ?_;intro _ H
 refine q1 (mV Z (xc Z2 (l3Copy_c _ _ H.sub _ _ hlist) ?_))
 rintro _ _ ⟨_,_,_,g7,rfl,⟨_,rfl,hchk7⟩,hp7,hq7,hs7⟩
 have H:=H.growO g7 hp7 hq7 hs7;obtain⟨_,_,rfl⟩:=H.accShape (k:=0) rfl
 have hchk4:=hchk4.up g7.le
 refine⟨_,Z,?_⟩
 refine aG Z (q3 (W_seq (q2 (aG Z (q3 (W_block ?_))))))
 obtain⟨_,H,hsg8,hsr8⟩:=H.shut' (k:=2) rfl hchk4 aN aN
 have hchk7:=hchk7.up hsg8
 obtain⟨G9,H,hsg9,hsr9⟩:=H.shut' (k:=0) rfl hchk7 aN aN
 have hsr8:=hsr8.up hsg9
 obtain⟨ln10,hln10,H⟩:=H.name (k:=0) rfl
 refine W_lp (hf:=(Sub.cons (t:=4) Z (Sub.cons (t:=5) Z (Sub.cons (t:=8) Z (Sub.cons (t:=9) Z Sub.nil))))) (J:=fun M w m=>∃(v:Value) (n:Nat) (cs:List Value) (xs:List (BHeld)) (d:Bool) (k:Nat) (G:PH),M=[(7,.bool d),(10,.int .i64 (k:Int)),(6,v)]∧PLe G9 G∧Hp w0 G0 [] w G [blk b5 (cl ln10 153),acc 153 3 v n cs]∧(Chk heldE 3 G cs xs∧n=xs.length∧k≤list.length∧xs.length≤k+1∧(d=false→xs=list.take k∧(list.take k).all (Sp.idF list)=true)∧(d=true→xs++list.drop k=Sp.l3With list bytes))∧m=(list.length-k)) (h0:=⟨_,_,_,[],false,0,_,Z,PLe.refl _,H,?inv,Z⟩) (round:=?round)
 case inv=>exact⟨(Chk.nil (E:=heldE) (sz:=3) (G:=G9)),by first|rfl|simp|(simp;omega)|omega,(by simp)⟩
 case round =>
  rintro _ _ _ ⟨v,n,cs,xs,d,k,_,rfl,hle11,H,hinv11,rfl⟩
  subst hln10
  have hsr8:=hsr8.up hle11
  have hsr9:=hsr9.up hle11
  obtain⟨hchk11_0,_,hinv11⟩:=hinv11
  obtain⟨_,_,rfl⟩:=H.accShape (k:=1) rfl
  obtain⟨_,_,hd0,hd1⟩:=hinv11
  refine W_seq (q2 (pe 2 Z (lN Z (pe 1 Z (q3 ?_)))))
  refine W_cond Z ?_ ?_
  ·intro hc12
   try simp only[nrm]at hc12
   refine W_skip (N_K (W_seq (W_block (W_seq (q2 (pe 3 Z ?_))))))
   refine R_case (t:=29) Z ?_ ?_
   ·intro hc13
    try simp only[nrm]at hc13
    refine pe 2 Z (gR Z (iP k hsr9 Z3 Z ?_));intro _ _ z14 _ hz14 hE14 hrow14
    obtain⟨_,_,_,rfl,_,_,_,_,_⟩:=ox hE14
    refine gR Z (fA 0 Z (gR Z (lP H hrow14 0 Z2 (pe 3 Z (q3 ?_)))))
    refine W_cond Z ?_ ?_
    ·intro hc15
     try simp only[nrm]at hc15
     refine q2 (mV Z (lA 0 3 H Z4 (xbs H Z7 ?_)));intro _ _ _ H
     refine o_append1 1 H (sz:=3) (bytes:=40) underlying23 typeInfo153 ⟨_,Z,Z⟩ Z Z Z Z Z Z Z Z Z Z oM Z ?_;intro _ _ H
     have hchk17:=hchk11_0.snoc (show heldE _ ⟨(Sp.freeId list:Int),bytes,1⟩ _ from⟨_,_,_,rfl,⟨by first|omega|(dsimp only;omega),by first|omega|(dsimp only;omega)⟩,hsr8,⟨by first|omega|(dsimp only;omega),by first|omega|(dsimp only;omega)⟩⟩) rfl
     obtain⟨_,_,rfl⟩:=H.accShape (k:=1) rfl
     refine aG Z (q3 (W_region (aG Z (q3 (W_region (pe 3 Z (iP k hsr9 Z3 Z ?_)))))));intro _ _ z18 _ hz18 hE18 hrow18
     obtain⟨_,_,_,rfl,_,hr18,_,_,_⟩:=ox hE18
     have hzz18:z14=z18:=Option.some.inj (hz14.symm.trans hz18)
     subst hzz18
     refine o_loadagg_P H isAgg153 sizeOf153 Z Z hrow18 Z (xbs H Z7 ?_);intro _ _ _ H
     refine o_append1 1 H (sz:=3) (bytes:=40) underlying23 typeInfo153 ⟨_,Z,Z⟩ Z Z Z Z Z Z Z Z Z Z oM Z ?_;intro _ _ H
     have hchk20:=hchk17.snoc (show heldE _ z14 _ from⟨_,_,_,rfl,⟨by first|omega|(dsimp only;omega),by first|omega|(dsimp only;omega)⟩,hr18,⟨by first|omega|(dsimp only;omega),by first|omega|(dsimp only;omega)⟩⟩) rfl
     obtain⟨_,_,rfl⟩:=H.accShape (k:=1) rfl
     refine aG Z (R_nil (N_B (N_K (W_region (mV Z (aD Z2 (aG Z (R_nil ?_))))))))
     refine N_lp (hJ:=⟨_,_,_,((xs++[⟨(Sp.freeId list:Int),bytes,1⟩])++[z14]),true,k+1,_,Z,hle11,H,?inv,Z⟩) (hm:=?hm)
     case hm=>omega
     case inv=>exact⟨hchk20,aN,(by exact⟨by omega,by have:=congrArg List.length (hd0 (by assumption)).1;simp at this ⊢;omega,by simp,fun _=>Sp.ins_new (F:=Sp.idF list) (hd0 (by assumption)) hz14 (by simp[Sp.idF];omega)⟩)⟩
    intro hc15'
    try simp only[nrm]at hc15'
    refine W_skip (N_K (W_region (pe 3 Z (iP k hsr9 Z3 Z ?_))));intro _ _ z22 _ hz22 hE22 hrow22
    obtain⟨_,_,_,rfl,_,hr22,_,_,_⟩:=ox hE22
    have hzz22:z14=z22:=Option.some.inj (hz14.symm.trans hz22)
    subst hzz22
    refine o_loadagg_P H isAgg153 sizeOf153 Z Z hrow22 Z (xbs H Z7 ?_);intro _ _ _ H
    refine o_append1 1 H (sz:=3) (bytes:=40) underlying23 typeInfo153 ⟨_,Z,Z⟩ Z Z Z Z Z Z Z Z Z Z oM Z ?_;intro _ _ H
    have hchk24:=hchk11_0.snoc (show heldE _ z14 _ from⟨_,_,_,rfl,⟨by first|omega|(dsimp only;omega),by first|omega|(dsimp only;omega)⟩,hr22,⟨by first|omega|(dsimp only;omega),by first|omega|(dsimp only;omega)⟩⟩) rfl
    obtain⟨_,_,rfl⟩:=H.accShape (k:=1) rfl
    refine aG Z (R_nil (N_B (N_K (W_region (mV Z (aD Z2 (aG Z (R_nil ?_))))))))
    refine N_lp (hJ:=⟨_,_,_,(xs++[z14]),d,k+1,_,Z,hle11,H,?inv,Z⟩) (hm:=?hm)
    case hm=>omega
    case inv=>exact⟨hchk24,aN,(by first|exact⟨by omega,by simp;omega,fun h=>⟨by rw[(hd0 h).1,Sp.take_succ' hz14],Sp.all_take (hd0 h).2 hz14 (by simp[Sp.idF];omega)⟩,fun h=>Sp.ins_old (hd1 h) hz14⟩|exact⟨by omega,by simp;omega,fun h=>absurd h (by simp[*]),fun h=>Sp.ins_old (hd1 h) hz14⟩)⟩
   intro hc13'
   try simp only[nrm]at hc13'
   refine pe 8 Z (q3 (W_false Z (W_skip (N_K (W_region (pe 3 Z (iP k hsr9 Z3 Z ?_)))))));intro _ _ z26 _ hz26 hE26 hrow26
   obtain⟨_,_,_,rfl,_,hr26,_,_,_⟩:=ox hE26
   refine o_loadagg_P H isAgg153 sizeOf153 Z Z hrow26 Z (xbs H Z7 ?_);intro _ _ _ H
   refine o_append1 1 H (sz:=3) (bytes:=40) underlying23 typeInfo153 ⟨_,Z,Z⟩ Z Z Z Z Z Z Z Z Z Z oM Z ?_;intro _ _ H
   have hchk28:=hchk11_0.snoc (show heldE _ z26 _ from⟨_,_,_,rfl,⟨by first|omega|(dsimp only;omega),by first|omega|(dsimp only;omega)⟩,hr26,⟨by first|omega|(dsimp only;omega),by first|omega|(dsimp only;omega)⟩⟩) rfl
   obtain⟨_,_,rfl⟩:=H.accShape (k:=1) rfl
   refine aG Z (R_nil (N_B (N_K (W_region (mV Z (aD Z2 (aG Z (R_nil ?_))))))))
   refine N_lp (hJ:=⟨_,_,_,(xs++[z26]),d,k+1,_,Z,hle11,H,?inv,Z⟩) (hm:=?hm)
   case hm=>omega
   case inv=>exact⟨hchk28,aN,(by first|exact⟨by omega,by simp;omega,fun h=>⟨by rw[(hd0 h).1,Sp.take_succ' hz26],Sp.all_take (hd0 h).2 hz26 (by simp[Sp.idF];omega)⟩,fun h=>Sp.ins_old (hd1 h) hz26⟩|exact⟨by omega,by simp;omega,fun h=>absurd h (by simp[*]),fun h=>Sp.ins_old (hd1 h) hz26⟩)⟩
  intro hc12'
  try simp only[nrm]at hc12'
  refine W_exit (N_K_exit (N_LP_exit (N_B_same (N_K (W_seq (q2 (pe 2 Z (q3 ?_))))))))
  refine W_cond Z ?_ ?_
  ·intro hc30
   try simp only[nrm]at hc30
   refine W_region (mV Z (lA 0 3 H Z4 (xbs H Z7 ?_)));intro _ _ _ H
   refine o_append1 1 H (sz:=3) (bytes:=40) underlying23 typeInfo153 ⟨_,Z,Z⟩ Z Z Z Z Z Z Z Z Z Z oM Z ?_;intro _ _ H
   have hchk32:=hchk11_0.snoc (show heldE _ ⟨(Sp.freeId list:Int),bytes,1⟩ _ from⟨_,_,_,rfl,⟨by first|omega|(dsimp only;omega),by first|omega|(dsimp only;omega)⟩,hsr8,⟨by first|omega|(dsimp only;omega),by first|omega|(dsimp only;omega)⟩⟩) rfl
   obtain⟨_,_,rfl⟩:=H.accShape (k:=1) rfl
   refine aG Z (q1 (pe 2 Z (q3 (W_ret (rt1 results279 Z ?_)))))
   have hx:=hd0 (by assumption)
   rw[List.take_of_length_le oM]at hx
   obtain⟨rfl,hx2⟩:=hx
   exact H.retO (k:=1) rfl (by rw[Sp.l3With_eq,←Sp.ins_end _ hx2];exact AccOf.mk aN hchk32) (acc_nd _ _ _ _ _)
  intro hc30'
  try simp only[nrm]at hc30'
  refine W_skip (N_K (q2 (pe 2 Z (q3 (W_ret (rt1 results279 Z ?_))))))
  have hx:=hd1 (by assumption)
  rw[List.drop_of_length_le oM,List.append_nil]at hx
  subst hx
  exact H.retO (k:=1) rfl (by skip;exact AccOf.mk aN hchk11_0) (acc_nd _ _ _ _ _)
end Go.Proofs.Tst
