/- Part 7 of the proof: contracts of functions of the program. Conditions: none. -/
import Derived.Test.YtmjchicclpbaeaaGreatDoorProg
import Derived.Test.YtmjchicclpbaeaaGreatDoorG02
import Derived.Test.YtmjchicclpbaeaaGreatDoorG03
import Derived.Test.YtmjchicclpbaeaaGreatDoorG04
import Derived.Test.YtmjchicclpbaeaaGreatDoorG06
import Derived.Test.YtmjchicclpbaeaaGreatDoorG05
set_option linter.all false
set_option maxRecDepth 100000
set_option maxHeartbeats 8000000
namespace Go.Proofs.Tst
open Go Fw Tryz
theorem l5Put_c (w0:World)(G0:PH)(hG:PSub G0 w0)(vlist:Value)(list:List (BItem))(hlist:RdItems G0 vlist list)(cx:List Value)(x:BItem)(hx:itemE G0 x cx)(hS:list.length≤1000000) :
  Calls Tryz.prog 175 #[vlist,.agg cx.toArray] w0 (RetO w0 G0 (AccOf itemE 3 66 (Sp.l5Put list x))):=by
 obtain⟨alist,klist,rfl⟩:=hlist.shape
 have hlimlist:list.length≤1099511627776:=hlist.lim
 obtain⟨_,_,_,rfl,hi1,hr1,_,_⟩:=ox hx
 have H:=Hp.init hG
 refine calls_of_W (l:=[.slice alist list.length klist,_]) func175 Z ntmps175 Z (q2 (o_box H Z Z Z ?_));intro b2 _ _ H
 refine aG Z (q1 (xbs H Z7 ?_));intro _ _ _ H
 have H:=H.blkAcc 3 (k:=0) (n:=0) rfl rfl (by decide)
 refine aG Z (q1 (aG Z (q3 (W_seq (q2 (aG Z (q3 (W_block ?_))))))))
 obtain⟨ln4,hln4,H⟩:=H.name (k:=1) rfl
 refine W_lp (hf:=(Sub.cons (t:=0) Z (Sub.cons (t:=3) Z (Sub.cons (t:=4) Z Sub.nil)))) (J:=fun M w m=>∃(v:Value) (n:Nat) (cs:List Value) (xs:List (BItem)) (d:Bool) (k:Nat) (G:PH),M=[(6,.bool d),(7,.int .i64 (k:Int)),(5,v)]∧PLe G0 G∧Hp w0 G0 [] w G [acc 66 3 v n cs,blk b2 (cl ln4 66)]∧(Chk itemE 3 G cs xs∧n=xs.length∧k≤list.length∧xs.length≤k+1∧(d=false→xs.length≤k)∧xs++Sp.putGo x d (list.drop k)=Sp.l5Put list x)∧m=(list.length-k)) (h0:=⟨_,_,_,[],false,0,_,Z,PLe.refl _,H,?inv,Z⟩) (round:=?round)
 case inv=>exact⟨(Chk.nil (E:=itemE) (sz:=3) (G:=G0)),by first|rfl|simp|(simp;omega)|omega,(by simp[Sp.l5Put])⟩
 case round =>
  rintro _ _ _ ⟨v,n,cs,xs,d,k,G5,rfl,hle5,H,hinv5,rfl⟩
  subst hln4
  have hlist:=hlist.up hle5
  have hr1:=hr1.up hle5
  obtain⟨hchk5_0,_,hinv5⟩:=hinv5
  obtain⟨_,_,rfl⟩:=H.accShape (k:=0) rfl
  obtain⟨_,_,hxd,hp⟩:=hinv5
  refine W_seq (q2 (pe 2 Z (lN Z (pe 1 Z (q3 ?_)))))
  refine W_cond Z ?_ ?_
  ·intro hc6
   try simp only[nrm]at hc6
   refine W_skip (N_K (W_seq (W_block (W_seq (W_seq (W_drawK [1] 12 H kR Z ?_))))));intro _ H;have hd7:=PLe.refl G5
   refine dE 0 Z2 (dE 1 Z2 (dE 2 Z2 ?_))
   refine RD_case (t:=17) Z ?_ ?_
   ·intro hc8
    try simp only[nrm]at hc8
    refine dE 3 Z2 (dE 4 Z2 ?_)
    have hl9:=hlist.len
    obtain⟨_,_,z9,_,ha9,hz9,hq9,hE9,hrow9,_⟩:=hlist.at (i:=k) oM
    clear hq9
    obtain⟨_,_,_,rfl,_,hr9,_,_⟩:=ox hE9
    refine dI 5 3 k ha9 Z3 Z (dF 6 0 Z2 (dP 7 hrow9 0 Z3 (dF 8 0 Z2 (dB 9 0 Z4 (RD_tg 10 Z kR Z (yl Z Z) (fun _ hK=>v_sgeq Z Z) (dE 11 Z2 (rz (N_K ?_))))))))
    refine W_cond Z ?_ ?_
    ·intro hc10
     try simp only[nrm]at hc10
     refine q2 (mV Z (lA 1 3 H Z4 (xc Z2 (l5Copy_c _ _ H.sub _ x ⟨_,_,_,Z,hi1,hr1⟩) ?_)))
     rintro _ _ ⟨G11,_,g11,rfl,_,rfl,hr11_0⟩
     have H:=H.grow g11
     have hlist:=hlist.up g11.le
     have hchk5_0:=hchk5_0.up g11.le
     have hle5:=hle5.trans g11.le
     obtain⟨_,_,_,rfl,hi12,hr12,_,_⟩:=ox hr11_0
     refine⟨_,Z,?_⟩
     refine xbs H Z7 ?_;intro _ _ _ H
     refine o_append1 0 H (sz:=3) (bytes:=48) underlying24 typeInfo66 ⟨_,Z,Z⟩ Z Z Z Z Z Z Z Z Z Z oM Z ?_;intro _ _ H
     have hchk14:=hchk5_0.snoc (show itemE _ x _ from⟨_,_,_,rfl,hi12,hr12⟩) rfl
     obtain⟨_,_,rfl⟩:=H.accShape (k:=0) rfl
     refine aG Z (q3 (W_region (aG Z (q3 (W_seq (W_drawK [1] 8 H kR Z ?_))))));intro _ H;have hd15:=PLe.refl G11
     refine dE 0 Z2 (dE 1 Z2 ?_)
     have hl16:=hlist.len
     obtain⟨_,_,z16,_,ha16,hz16,hq16,hE16,hrow16,_⟩:=hlist.at (i:=k) oM
     clear hq16
     obtain⟨_,_,_,rfl,_,hr16,_,_⟩:=ox hE16
     have hzz16:z9=z16:=Option.some.inj (hz9.symm.trans hz16)
     subst hzz16
     refine dI 2 3 k ha16 Z3 Z (dF 3 0 Z2 (dP 4 hrow16 0 Z3 (dF 5 0 Z2 (dB 6 0 Z4 (RD_t 7 Z kR Z (fun _ hK=>v_sneq Z Z) (rz (N_K ?_)))))))
     refine W_cond Z ?_ ?_
     ·intro hc17
      try simp only[nrm]at hc17
      refine W_region (pe 3 Z (iP k hlist Z3 Z ?_));intro _ _ z18 _ hz18 hE18 hrow18
      obtain⟨_,_,_,rfl,hi18,hr18,_,_⟩:=ox hE18
      have hzz18:z9=z18:=Option.some.inj (hz9.symm.trans hz18)
      subst hzz18
      refine o_loadagg_P H isAgg66 sizeOf66 Z Z hrow18 Z (xc Z2 (l5Copy_c _ _ H.sub _ _ ⟨_,_,_,Z,hi18,hr18⟩) ?_)
      rintro _ _ ⟨_,_,g19,rfl,_,rfl,hr19_0⟩
      have H:=H.grow g19
      have hchk14:=hchk14.up g19.le
      have hle5:=hle5.trans g19.le
      obtain⟨_,_,_,rfl,hi20,hr20,_,_⟩:=ox hr19_0
      refine⟨_,Z,?_⟩
      refine xbs H Z7 ?_;intro _ _ _ H
      refine o_append1 0 H (sz:=3) (bytes:=48) underlying24 typeInfo66 ⟨_,Z,Z⟩ Z Z Z Z Z Z Z Z Z Z oM Z ?_;intro _ _ H
      have hchk22:=hchk14.snoc (show itemE _ z9 _ from⟨_,_,_,rfl,hi20,hr20⟩) rfl
      obtain⟨_,_,rfl⟩:=H.accShape (k:=0) rfl
      refine aG Z (R_nil (N_B (N_K (W_region (mV Z (aD Z2 (aG Z (R_nil ?_))))))))
      refine N_lp (hJ:=⟨_,_,_,((xs++[x])++[z9]),true,k+1,_,Z,hle5,H,?inv,Z⟩) (hm:=?hm)
      case hm=>omega
      case inv=>exact⟨hchk22,aN,(by exact⟨by omega,by have:=hxd (by assumption);simp;omega,by simp,by rw[Sp.drop_at hz9]at hp;rw[←hp];(first|rw[Sp.putA (by assumption) (by assumption) (by assumption)]|rw[Sp.putB (by assumption) (by assumption) (by assumption)]|rw[Sp.putC (by assumption) (by assumption)]|rw[Sp.putC' (by assumption) (by assumption)]|rw[Sp.putD (by assumption) (by assumption)]|rw[Sp.putD' (by assumption) (by assumption)])<;>simp⟩)⟩
     intro hc17'
     try simp only[nrm]at hc17'
     refine W_skip (N_B (N_K (W_region (mV Z (aD Z2 (aG Z (R_nil ?_)))))))
     refine N_lp (hJ:=⟨_,_,_,(xs++[x]),true,k+1,_,Z,hle5,H,?inv,Z⟩) (hm:=?hm)
     case hm=>omega
     case inv=>exact⟨hchk14,aN,(by exact⟨by omega,by have:=hxd (by assumption);simp;omega,by simp,by rw[Sp.drop_at hz9]at hp;rw[←hp];(first|rw[Sp.putA (by assumption) (by assumption) (by assumption)]|rw[Sp.putB (by assumption) (by assumption) (by assumption)]|rw[Sp.putC (by assumption) (by assumption)]|rw[Sp.putC' (by assumption) (by assumption)]|rw[Sp.putD (by assumption) (by assumption)]|rw[Sp.putD' (by assumption) (by assumption)])<;>simp⟩)⟩
    intro hc10'
    try simp only[nrm]at hc10'
    refine W_skip (N_K (W_seq (W_drawK [1] 8 H kR Z ?_)));intro _ H;have hd25:=PLe.refl G5
    refine dE 0 Z2 (dE 1 Z2 ?_)
    have hl26:=hlist.len
    obtain⟨_,_,z26,_,ha26,hz26,hq26,hE26,hrow26,_⟩:=hlist.at (i:=k) oM
    clear hq26
    obtain⟨_,_,_,rfl,_,hr26,_,_⟩:=ox hE26
    have hzz26:z9=z26:=Option.some.inj (hz9.symm.trans hz26)
    subst hzz26
    refine dI 2 3 k ha26 Z3 Z (dF 3 0 Z2 (dP 4 hrow26 0 Z3 (dF 5 0 Z2 (dB 6 0 Z4 (RD_t 7 Z kR Z (fun _ hK=>v_sneq Z Z) (rz (N_K ?_)))))))
    refine W_cond Z ?_ ?_
    ·intro hc27
     try simp only[nrm]at hc27
     refine W_region (pe 3 Z (iP k hlist Z3 Z ?_));intro _ _ z28 _ hz28 hE28 hrow28
     obtain⟨_,_,_,rfl,hi28,hr28,_,_⟩:=ox hE28
     have hzz28:z9=z28:=Option.some.inj (hz9.symm.trans hz28)
     subst hzz28
     refine o_loadagg_P H isAgg66 sizeOf66 Z Z hrow28 Z (xc Z2 (l5Copy_c _ _ H.sub _ _ ⟨_,_,_,Z,hi28,hr28⟩) ?_)
     rintro _ _ ⟨_,_,g29,rfl,_,rfl,hr29_0⟩
     have H:=H.grow g29
     have hchk5_0:=hchk5_0.up g29.le
     have hle5:=hle5.trans g29.le
     obtain⟨_,_,_,rfl,hi30,hr30,_,_⟩:=ox hr29_0
     refine⟨_,Z,?_⟩
     refine xbs H Z7 ?_;intro _ _ _ H
     refine o_append1 0 H (sz:=3) (bytes:=48) underlying24 typeInfo66 ⟨_,Z,Z⟩ Z Z Z Z Z Z Z Z Z Z oM Z ?_;intro _ _ H
     have hchk32:=hchk5_0.snoc (show itemE _ z9 _ from⟨_,_,_,rfl,hi30,hr30⟩) rfl
     obtain⟨_,_,rfl⟩:=H.accShape (k:=0) rfl
     refine aG Z (R_nil (N_B (N_K (W_region (mV Z (aD Z2 (aG Z (R_nil ?_))))))))
     refine N_lp (hJ:=⟨_,_,_,(xs++[z9]),d,k+1,_,Z,hle5,H,?inv,Z⟩) (hm:=?hm)
     case hm=>omega
     case inv=>exact⟨hchk32,aN,(by exact⟨by omega,by first|omega|(simp;omega),fun h=>by have:=hxd h;first|omega|(simp;omega),by rw[Sp.drop_at hz9]at hp;rw[←hp];(first|rw[Sp.putA (by assumption) (by assumption) (by assumption)]|rw[Sp.putB (by assumption) (by assumption) (by assumption)]|rw[Sp.putC (by assumption) (by assumption)]|rw[Sp.putC' (by assumption) (by assumption)]|rw[Sp.putD (by assumption) (by assumption)]|rw[Sp.putD' (by assumption) (by assumption)])<;>simp⟩)⟩
    intro hc27'
    try simp only[nrm]at hc27'
    refine W_skip (N_B (N_K (W_region (mV Z (aD Z2 (aG Z (R_nil ?_)))))))
    refine N_lp (hJ:=⟨_,_,_,xs,d,k+1,_,Z,hle5,H,?inv,Z⟩) (hm:=?hm)
    case hm=>omega
    case inv=>exact⟨hchk5_0,aN,(by exact⟨by omega,by first|omega|(simp;omega),fun h=>by have:=hxd h;first|omega|(simp;omega),by rw[Sp.drop_at hz9]at hp;rw[←hp];(first|rw[Sp.putA (by assumption) (by assumption) (by assumption)]|rw[Sp.putB (by assumption) (by assumption) (by assumption)]|rw[Sp.putC (by assumption) (by assumption)]|rw[Sp.putC' (by assumption) (by assumption)]|rw[Sp.putD (by assumption) (by assumption)]|rw[Sp.putD' (by assumption) (by assumption)])<;>simp⟩)⟩
   intro hc8'
   try simp only[nrm]at hc8'
   refine dE 3 Z2 (dE 4 Z2 (dE 5 Z2 (dE 6 Z2 (dE 7 Z2 (dE 8 Z2 (dE 9 Z2 (dE 10 Z2 (dE 11 Z2 (rz (N_K (W_false Z (W_skip (N_K (W_seq (W_drawK [1] 8 H kR Z ?_)))))))))))))));intro _ H;have hd35:=PLe.refl G5
   refine dE 0 Z2 (dE 1 Z2 ?_)
   have hl36:=hlist.len
   obtain⟨_,_,z36,_,ha36,hz36,hq36,hE36,hrow36,_⟩:=hlist.at (i:=k) oM
   clear hq36
   obtain⟨_,_,_,rfl,_,hr36,_,_⟩:=ox hE36
   refine dI 2 3 k ha36 Z3 Z (dF 3 0 Z2 (dP 4 hrow36 0 Z3 (dF 5 0 Z2 (dB 6 0 Z4 (RD_t 7 Z kR Z (fun _ hK=>v_sneq Z Z) (rz (N_K ?_)))))))
   refine W_cond Z ?_ ?_
   ·intro hc37
    try simp only[nrm]at hc37
    refine W_region (pe 3 Z (iP k hlist Z3 Z ?_));intro _ _ z38 _ hz38 hE38 hrow38
    obtain⟨_,_,_,rfl,hi38,hr38,_,_⟩:=ox hE38
    have hzz38:z36=z38:=Option.some.inj (hz36.symm.trans hz38)
    subst hzz38
    refine o_loadagg_P H isAgg66 sizeOf66 Z Z hrow38 Z (xc Z2 (l5Copy_c _ _ H.sub _ _ ⟨_,_,_,Z,hi38,hr38⟩) ?_)
    rintro _ _ ⟨_,_,g39,rfl,_,rfl,hr39_0⟩
    have H:=H.grow g39
    have hchk5_0:=hchk5_0.up g39.le
    have hle5:=hle5.trans g39.le
    obtain⟨_,_,_,rfl,hi40,hr40,_,_⟩:=ox hr39_0
    refine⟨_,Z,?_⟩
    refine xbs H Z7 ?_;intro _ _ _ H
    refine o_append1 0 H (sz:=3) (bytes:=48) underlying24 typeInfo66 ⟨_,Z,Z⟩ Z Z Z Z Z Z Z Z Z Z oM Z ?_;intro _ _ H
    have hchk42:=hchk5_0.snoc (show itemE _ z36 _ from⟨_,_,_,rfl,hi40,hr40⟩) rfl
    obtain⟨_,_,rfl⟩:=H.accShape (k:=0) rfl
    refine aG Z (R_nil (N_B (N_K (W_region (mV Z (aD Z2 (aG Z (R_nil ?_))))))))
    refine N_lp (hJ:=⟨_,_,_,(xs++[z36]),d,k+1,_,Z,hle5,H,?inv,Z⟩) (hm:=?hm)
    case hm=>omega
    case inv=>exact⟨hchk42,aN,(by exact⟨by omega,by first|omega|(simp;omega),fun h=>by have:=hxd h;first|omega|(simp;omega),by rw[Sp.drop_at hz36]at hp;rw[←hp];(first|rw[Sp.putA (by assumption) (by assumption) (by assumption)]|rw[Sp.putB (by assumption) (by assumption) (by assumption)]|rw[Sp.putC (by assumption) (by assumption)]|rw[Sp.putC' (by assumption) (by assumption)]|rw[Sp.putD (by assumption) (by assumption)]|rw[Sp.putD' (by assumption) (by assumption)])<;>simp⟩)⟩
   intro hc37'
   try simp only[nrm]at hc37'
   refine W_skip (N_B (N_K (W_region (mV Z (aD Z2 (aG Z (R_nil ?_)))))))
   refine N_lp (hJ:=⟨_,_,_,xs,d,k+1,_,Z,hle5,H,?inv,Z⟩) (hm:=?hm)
   case hm=>omega
   case inv=>exact⟨hchk5_0,aN,(by exact⟨by omega,by first|omega|(simp;omega),fun h=>by have:=hxd h;first|omega|(simp;omega),by rw[Sp.drop_at hz36]at hp;rw[←hp];(first|rw[Sp.putA (by assumption) (by assumption) (by assumption)]|rw[Sp.putB (by assumption) (by assumption) (by assumption)]|rw[Sp.putC (by assumption) (by assumption)]|rw[Sp.putC' (by assumption) (by assumption)]|rw[Sp.putD (by assumption) (by assumption)]|rw[Sp.putD' (by assumption) (by assumption)])<;>simp⟩)⟩
  intro hc6'
  try simp only[nrm]at hc6'
  refine W_exit (N_K_exit (N_LP_exit (N_B_same (N_K (W_seq (q2 (pe 2 Z (q3 ?_))))))))
  refine W_cond Z ?_ ?_
  ·intro hc45
   try simp only[nrm]at hc45
   refine W_region (mV Z (lA 1 3 H Z4 (xc Z2 (l5Copy_c _ _ H.sub _ x ⟨_,_,_,Z,hi1,hr1⟩) ?_)))
   rintro _ _ ⟨_,_,g46,rfl,_,rfl,hr46_0⟩
   have H:=H.grow g46
   have hchk5_0:=hchk5_0.up g46.le
   obtain⟨_,_,_,rfl,hi47,hr47,_,_⟩:=ox hr46_0
   refine⟨_,Z,?_⟩
   refine xbs H Z7 ?_;intro _ _ _ H
   refine o_append1 0 H (sz:=3) (bytes:=48) underlying24 typeInfo66 ⟨_,Z,Z⟩ Z Z Z Z Z Z Z Z Z Z oM Z ?_;intro _ _ H
   have hchk49:=hchk5_0.snoc (show itemE _ x _ from⟨_,_,_,rfl,hi47,hr47⟩) rfl
   obtain⟨_,_,rfl⟩:=H.accShape (k:=0) rfl
   refine aG Z (q1 (pe 2 Z (q3 (W_ret (rt1 results175 Z ?_)))))
   rw[List.drop_of_length_le oM]at hp
   exact H.retO (k:=0) rfl (by rw[←hp,Sp.putGo,if_neg (by simp[*])];exact AccOf.mk aN hchk49) (acc_nd _ _ _ _ _)
  intro hc45'
  try simp only[nrm]at hc45'
  refine W_skip (N_K (q2 (pe 2 Z (q3 (W_ret (rt1 results175 Z ?_))))))
  rw[List.drop_of_length_le oM]at hp
  exact H.retO (k:=0) rfl (by rw[←hp,Sp.putGo,if_pos (by assumption),List.append_nil];exact AccOf.mk aN hchk5_0) (acc_nd _ _ _ _ _)
theorem TreePut_c (w0:World)(G0:PH)(hG:PSub G0 w0)(vlist:Value)(list:List (BItem))(hlist:RdItems G0 vlist list)(cx:List Value)(x:BItem)(hx:itemE G0 x cx) :
  Calls Tryz.prog 143 #[vlist,.agg cx.toArray] w0 (RetP w0 G0 (fun G v=>∃u,v= .tuple #[u,.bool (Sp.TreePut list x).isSome]∧RdItems G u ((Sp.TreePut list x).getD []))):=by
 obtain⟨alist,klist,rfl⟩:=hlist.shape
 have hlimlist:list.length≤1099511627776:=hlist.lim
 obtain⟨_,_,_,rfl,hi1,hr1,_,_⟩:=ox hx
 have H:=Hp.init hG
 refine calls_of_W (l:=[.slice alist list.length klist,_]) func143 Z ntmps143 Z (q2 (o_box H Z Z Z ?_));intro _ _ _ H
 refine pe 2 Z (q3 (W_seq (q2 (mV Z (xr H Z2 (TreeValid_c _ _ H.sub _ _ hlist) ?_)))));intro _ H
 refine pe 2 Z ?_
 refine R_case (t:=11) Z ?_ ?_
 ·intro hc4
  try simp only[nrm]at hc4
  refine pe 4 Z (q3 (W_true Z (q2 (xbs H Z7 ?_))));intro _ _ _ H
  have H:=H.blkAcc 3 (k:=0) (n:=0) rfl rfl (by decide)
  refine pe 2 Z (q3 (W_ret (N_K_ret (rt2 results143 Z Z ?_))))
  obtain⟨_,H,hsg507,hsr507⟩:=H.shut' (k:=0) rfl (Chk.nil (E:=itemE) (sz:=3) (G:=G0)) aN aN
  have hY:Sp.TreePut list x=none:=by simp[Sp.TreePut,hc4]
  exact H.retP (by rw[hY];exact⟨_,rfl,hsr507⟩)
 intro hc4'
 try simp only[nrm]at hc4'
 have htl:=Sp.tree_len hc4'
 refine gR Z (lA 0 3 H Z4 (gR Z (xr H Z2 (l5Item_c _ _ H.sub _ x ⟨_,_,_,Z,hi1,hr1⟩) ?_)));intro _ H
 refine pe 2 Z (q3 ?_)
 refine W_cond Z ?_ ?_
 ·intro hc7
  try simp only[nrm]at hc7
  refine q2 (xbs H Z7 ?_);intro _ _ _ H
  have H:=H.blkAcc 3 (k:=0) (n:=0) rfl rfl (by decide)
  refine pe 2 Z (q3 (W_ret (N_K_ret (rt2 results143 Z Z ?_))))
  obtain⟨_,H,hsg511,hsr511⟩:=H.shut' (k:=0) rfl (Chk.nil (E:=itemE) (sz:=3) (G:=G0)) aN aN
  have hY:Sp.TreePut list x=none:=by simp[Sp.TreePut,hc7]
  exact H.retP (by rw[hY];exact⟨_,rfl,hsr511⟩)
 intro hc7'
 try simp only[nrm]at hc7'
 refine W_skip (N_K (q2 (mV Z (fA 0 Z (lB 0 H Z3 (xr H Z2 (l5At_c _ _ H.sub _ _ hlist _ hi1) ?_))))));intro _ H
 refine aG Z (q3 (W_seq (q2 (pe 3 Z ?_))))
 refine R_case (t:=23) Z ?_ ?_
 ·intro hc10
  try simp only[nrm]at hc10
  obtain⟨i,_,ia,ib,_,_,_⟩:=Sp.at_nat hc10
  refine pe 2 Z (gR Z (iP i hlist Z3 ib ?_));intro _ _ _ _ hz11 hE11 hrow11
  obtain⟨_,_,_,rfl,_,hr11,_,_⟩:=ox hE11
  refine gR Z (fA 1 Z (gR Z (lP H hrow11 1 Z2 (pe 1 Z ?_))))
  refine R_case (t:=29) Z ?_ ?_
  ·intro hc12
   try simp only[nrm]at hc12
   refine pe 4 Z (q3 (W_true Z (q2 (xbs H Z7 ?_))));intro _ _ _ H
   have H:=H.blkAcc 3 (k:=0) (n:=0) rfl rfl (by decide)
   refine pe 2 Z (q3 (W_ret (N_K_ret (rt2 results143 Z Z ?_))))
   obtain⟨_,H,hsg517,hsr517⟩:=H.shut' (k:=0) rfl (Chk.nil (E:=itemE) (sz:=3) (G:=G0)) aN aN
   have hY:Sp.TreePut list x=none:=by (have hl:Sp.atI list x.path=some i:=ia);simp[Sp.TreePut,hl,hz11,hc12]
   exact H.retP (by rw[hY];exact⟨_,rfl,hsr517⟩)
  intro hc12'
  try simp only[nrm]at hc12'
  refine gR Z (fA 1 Z (gR Z (lB 0 H Z3 (pe 2 Z (q3 ?_)))))
  refine W_cond Z ?_ ?_
  ·intro hc14
   try simp only[nrm]at hc14
   refine q2 (xbs H Z7 ?_);intro _ _ _ H
   have H:=H.blkAcc 3 (k:=0) (n:=0) rfl rfl (by decide)
   refine pe 2 Z (q3 (W_ret (N_K_ret (rt2 results143 Z Z ?_))))
   obtain⟨_,H,hsg520,hsr520⟩:=H.shut' (k:=0) rfl (Chk.nil (E:=itemE) (sz:=3) (G:=G0)) aN aN
   have hY:Sp.TreePut list x=none:=by (have hl:Sp.atI list x.path=some i:=ia);simp[Sp.TreePut,hl,hz11,hc14]
   exact H.retP (by rw[hY];exact⟨_,rfl,hsr520⟩)
  intro hc14'
  try simp only[nrm]at hc14'
  refine W_skip (N_K (q2 (mV Z (lA 0 3 H Z4 (xc Z2 (l5Put_c _ _ H.sub _ _ hlist _ x ⟨_,_,_,Z,hi1,hr1⟩ oM) ?_)))))
  rintro _ _ ⟨G16,_,_,g16,rfl,⟨_,rfl,hchk16⟩,hp16,hq16,hs16⟩
  have H:=H.growO g16 hp16 hq16 hs16;obtain⟨_,_,rfl⟩:=H.accShape (k:=0) rfl
  refine⟨_,Z,?_⟩
  have hpl:=Sp.l5Put_len list x
  refine aG Z (q3 (W_seq (q2 (mV Z (xr H Z2 (TreeValid_c _ _ (H.lendSubL [0]) _ _ (H.lendRdL (k:=0) (ks:=[0]) Z Z hchk16 aN aN)) ?_)))));intro _ H
  refine pe 1 Z (q3 ?_)
  refine W_cond Z ?_ ?_
  ·intro hc18
   try simp only[nrm]at hc18
   refine q2 (xbs H Z7 ?_);intro _ _ _ H
   have H:=H.blkAcc 3 (k:=0) (n:=0) rfl rfl (by decide)
   refine pe 2 Z (q3 (W_ret (N_K_ret (rt2 results143 Z Z ?_))))
   obtain⟨_,H,hsg525,hsr525⟩:=H.shut' (k:=0) rfl (Chk.nil (E:=itemE) (sz:=3) (G:=G16)) aN aN
   have hY:Sp.TreePut list x=none:=by (have hl:Sp.atI list x.path=some i:=ia);simp[Sp.TreePut,hc18]
   exact H.retP (by rw[hY];exact⟨_,rfl,hsr525⟩)
  intro hc18'
  try simp only[nrm]at hc18'
  refine W_skip (N_K (q2 (pe 3 Z (q3 (W_ret (rt2 results143 Z Z ?_))))))
  obtain⟨_,H,hsg526,hsr526⟩:=H.shut' (k:=0) rfl hchk16 aN aN
  have hY:Sp.TreePut list x=some (Sp.l5Put list x):=by (have hl:Sp.atI list x.path=some i:=ia);simp[Sp.TreePut,hl,hz11,hc4',hc7',hc12',hc14',hc18']
  exact H.retP (by rw[hY];exact⟨_,rfl,hsr526⟩)
 intro hc10'
 try simp only[nrm]at hc10'
 refine pe 6 Z (R_pass Z (yl_un Z Z) (R_pass Z (yl_un Z Z) (pe 2 Z (q3 (W_false Z (W_skip (N_K (q2 (mV Z (lA 0 3 H Z4 (xc Z2 (l5Put_c _ _ H.sub _ _ hlist _ x ⟨_,_,_,Z,hi1,hr1⟩ oM) ?_)))))))))))
 rintro _ _ ⟨G20,_,_,g20,rfl,⟨_,rfl,hchk20⟩,hp20,hq20,hs20⟩
 have H:=H.growO g20 hp20 hq20 hs20;obtain⟨_,_,rfl⟩:=H.accShape (k:=0) rfl
 refine⟨_,Z,?_⟩
 have hpl:=Sp.l5Put_len list x
 refine aG Z (q3 (W_seq (q2 (mV Z (xr H Z2 (TreeValid_c _ _ (H.lendSubL [0]) _ _ (H.lendRdL (k:=0) (ks:=[0]) Z Z hchk20 aN aN)) ?_)))));intro _ H
 refine pe 1 Z (q3 ?_)
 refine W_cond Z ?_ ?_
 ·intro hc22
  try simp only[nrm]at hc22
  refine q2 (xbs H Z7 ?_);intro _ _ _ H
  have H:=H.blkAcc 3 (k:=0) (n:=0) rfl rfl (by decide)
  refine pe 2 Z (q3 (W_ret (N_K_ret (rt2 results143 Z Z ?_))))
  obtain⟨_,H,hsg531,hsr531⟩:=H.shut' (k:=0) rfl (Chk.nil (E:=itemE) (sz:=3) (G:=G20)) aN aN
  have hY:Sp.TreePut list x=none:=by simp[Sp.TreePut,hc22]
  exact H.retP (by rw[hY];exact⟨_,rfl,hsr531⟩)
 intro hc22'
 try simp only[nrm]at hc22'
 refine W_skip (N_K (q2 (pe 3 Z (q3 (W_ret (rt2 results143 Z Z ?_))))))
 obtain⟨_,H,hsg532,hsr532⟩:=H.shut' (k:=0) rfl hchk20 aN aN
 have hY:Sp.TreePut list x=some (Sp.l5Put list x):=by (have hl:Sp.atI list x.path=none:=Sp.at_none hc10');simp[Sp.TreePut,hl,hc4',hc7',hc22']
 exact H.retP (by rw[hY];exact⟨_,rfl,hsr532⟩)
theorem l5All_c (w0:World)(G0:PH)(hG:PSub G0 w0)(vlist:Value)(list:List (BItem))(hlist:RdItems G0 vlist list) :
  Calls Tryz.prog 114 #[vlist] w0 (RetO w0 G0 (AccOf itemE 3 66 list)):=by
 obtain⟨alist,klist,rfl⟩:=hlist.shape
 have hlimlist:list.length≤1099511627776:=hlist.lim
 have H:=Hp.init hG
 refine calls_of_W (l:=[.slice alist list.length klist]) func114 Z ntmps114 Z (q2 (aG Z (q1 (xbs H Z7 ?_))));intro _ _ _ H
 have H:=H.blkAcc 3 (k:=0) (n:=0) rfl rfl (by decide)
 refine aG Z (q3 (W_seq (q2 (aG Z (q3 (W_block ?_))))))
 refine W_lp (hf:=(Sub.cons (t:=0) Z (Sub.cons (t:=2) Z Sub.nil))) (J:=fun M w m=>∃(v:Value) (n:Nat) (cs:List Value) (xs:List (BItem)) (k:Nat) (G:PH),M=[(4,.int .i64 (k:Int)),(3,v)]∧PLe G0 G∧Hp w0 G0 [] w G [acc 66 3 v n cs]∧(Chk itemE 3 G cs xs∧n=xs.length∧k≤list.length∧xs.length=k∧xs=list.take k)∧m=(list.length-k)) (h0:=⟨_,_,_,[],0,_,Z,PLe.refl _,H,?inv,Z⟩) (round:=?round)
 case inv=>exact⟨(Chk.nil (E:=itemE) (sz:=3) (G:=G0)),by first|rfl|simp|(simp;omega)|omega,(by simp)⟩
 case round =>
  rintro _ _ _ ⟨v,n,cs,xs,k,_,rfl,hle2,H,hinv2,rfl⟩
  have hlist:=hlist.up hle2
  obtain⟨hchk2_0,_,hinv2⟩:=hinv2
  obtain⟨_,_,rfl⟩:=H.accShape (k:=0) rfl
  obtain⟨_,hxl,hxs⟩:=hinv2
  refine W_seq (q2 (pe 2 Z (lN Z (pe 1 Z (q3 ?_)))))
  refine W_cond Z ?_ ?_
  ·intro hc3
   try simp only[nrm]at hc3
   refine W_skip (N_K (W_seq (W_block (W_region (pe 3 Z (iP k hlist Z3 Z ?_))))));intro _ _ z4 _ hz4 hE4 hrow4
   obtain⟨_,_,_,rfl,hi4,hr4,_,_⟩:=ox hE4
   refine o_loadagg_P H isAgg66 sizeOf66 Z Z hrow4 Z (xc Z2 (l5Copy_c _ _ H.sub _ _ ⟨_,_,_,Z,hi4,hr4⟩) ?_)
   rintro _ _ ⟨_,_,g5,rfl,_,rfl,hr5_0⟩
   have H:=H.grow g5
   have hchk2_0:=hchk2_0.up g5.le
   have hle2:=hle2.trans g5.le
   obtain⟨_,_,_,rfl,hi6,hr6,_,_⟩:=ox hr5_0
   refine⟨_,Z,?_⟩
   refine xbs H Z7 ?_;intro _ _ _ H
   refine o_append1 0 H (sz:=3) (bytes:=48) underlying24 typeInfo66 ⟨_,Z,Z⟩ Z Z Z Z Z Z Z Z Z Z oM Z ?_;intro _ _ H
   have hchk8:=hchk2_0.snoc (show itemE _ z4 _ from⟨_,_,_,rfl,hi6,hr6⟩) rfl
   obtain⟨_,_,rfl⟩:=H.accShape (k:=0) rfl
   refine aG Z (R_nil (N_B (N_K (W_region (mV Z (aD Z2 (aG Z (R_nil ?_))))))))
   refine N_lp (hJ:=⟨_,_,_,(xs++[z4]),k+1,_,Z,hle2,H,?inv,Z⟩) (hm:=?hm)
   case hm=>omega
   case inv=>exact⟨hchk8,aN,(by exact⟨by omega,by simp[hxl],by rw[Sp.take_succ' hz4,hxs]⟩)⟩
  intro hc3'
  try simp only[nrm]at hc3'
  refine W_exit (N_K_exit (N_LP_exit (N_B_same (N_K (q2 (pe 2 Z (q3 (W_ret (rt1 results114 Z ?_)))))))))
  obtain rfl:k=list.length:=by omega
  rw[List.take_length]at hxs
  subst hxs
  exact H.retO (k:=0) rfl (AccOf.mk (by assumption) hchk2_0) (acc_nd _ _ _ _ _)
theorem TreeDrop_c (w0:World)(G0:PH)(hG:PSub G0 w0)(vlist:Value)(list:List (BItem))(hlist:RdItems G0 vlist list)(path:Bs)(hpath:path.length≤16777216) :
  Calls Tryz.prog 146 #[vlist,str path] w0 (RetP w0 G0 (fun G v=>∃u,v= .tuple #[u,.bool (Sp.TreeDrop list path).isSome]∧RdItems G u ((Sp.TreeDrop list path).getD []))):=by
 obtain⟨alist,klist,rfl⟩:=hlist.shape
 have hlimlist:list.length≤1099511627776:=hlist.lim
 have H:=Hp.init hG
 refine calls_of_W (l:=[.slice alist list.length klist,str path]) func146 Z ntmps146 Z (q2 (pe 2 Z (q1 (pe 2 Z (xr H Z2 (l5At_c _ _ H.sub _ _ hlist _ hpath) ?_)))));intro _ H
 refine aG Z (q3 (W_seq (q2 (mV Z (xr H Z2 (TreeValid_c _ _ H.sub _ _ hlist) ?_)))));intro _ H
 refine pe 2 Z ?_
 refine R_case (t:=14) Z ?_ ?_
 ·intro hc3
  try simp only[nrm]at hc3
  refine pe 3 Z (q3 (W_true Z (q2 (xbs H Z7 ?_))));intro _ _ _ H
  have H:=H.blkAcc 3 (k:=0) (n:=0) rfl rfl (by decide)
  refine pe 2 Z (q3 (W_ret (N_K_ret (rt2 results146 Z Z ?_))))
  obtain⟨_,H,hsg506,hsr506⟩:=H.shut' (k:=0) rfl (Chk.nil (E:=itemE) (sz:=3) (G:=G0)) aN aN
  have hY:Sp.TreeDrop list path=none:=by simp[Sp.TreeDrop,hc3]
  exact H.retP (by rw[hY];exact⟨_,rfl,hsr506⟩)
 intro hc3'
 try simp only[nrm]at hc3'
 refine pe 3 Z (q3 ?_)
 refine W_cond Z ?_ ?_
 ·intro hc5
  try simp only[nrm]at hc5
  refine q2 (xbs H Z7 ?_);intro _ _ _ H
  have H:=H.blkAcc 3 (k:=0) (n:=0) rfl rfl (by decide)
  refine pe 2 Z (q3 (W_ret (N_K_ret (rt2 results146 Z Z ?_))))
  obtain⟨_,H,hsg509,hsr509⟩:=H.shut' (k:=0) rfl (Chk.nil (E:=itemE) (sz:=3) (G:=G0)) aN aN
  have hY:Sp.TreeDrop list path=none:=by simp[Sp.TreeDrop,Sp.atI,Sp.at_none hc5]
  exact H.retP (by rw[hY];exact⟨_,rfl,hsr509⟩)
 intro hc5'
 try simp only[nrm]at hc5'
 obtain⟨i,_,hi1,hi2,_,_,_⟩:=Sp.at_nat hc5'
 have hi2:Sp.l5At list path=(i:Int):=hi2
 have hl:Sp.atI list path=some i:=hi1
 have htl:=Sp.tree_len hc3'
 refine W_skip (N_K (q2 (mV Z (xc Z2 (l5All_c _ _ H.sub _ _ hlist) ?_))))
 rintro _ _ ⟨G7,_,_,g7,rfl,⟨_,rfl,hchk7⟩,hp7,hq7,hs7⟩
 have H:=H.growO g7 hp7 hq7 hs7;obtain⟨_,_,rfl⟩:=H.accShape (k:=0) rfl
 refine⟨_,Z,?_⟩
 refine aG Z (q3 (W_seq (W_drawK [] 9 H kR Z ?_)));intro _ H;have hd8:=PLe.refl G7
 refine dE 0 Z2 (dE 1 Z2 ?_)
 have hac9:=H.accCap (k:=0) rfl
 refine RD_t 2 Z kR Z (fun _ hK=>v_slice_to (j:=i) underlying24 sizeOf66 Z Z hi2 oM) (dE 3 Z2 (dE 4 Z2 (RD_t 5 Z kR Z (fun _ hK=>v_add Z Z oO) ?_)))
 have hac11:=H.accCap (k:=0) rfl
 refine RD_t 6 Z kR Z (fun _ hK=>v_slice_from (i:=(i+1)) underlying24 sizeOf66 Z Z oM oM) (r1 7 Z ?_)
 refine o_append_del 0 H i Z hchk7 (by intro _ _ hz _ hu;obtain⟨_,_,_,rfl,_⟩:=hz;simp at hu;rcases hu with rfl|rfl|rfl<;>rfl) underlying24 typeInfo66 rfl rfl rfl rfl oM aN ?_;intro _ _ hb12 H hchk12;cases hb12
 refine q4 H hd8 (dE 8 Z2 (rz (N_K (W_seq (q2 (mV Z (xr H Z2 (TreeValid_c _ _ (H.lendSubL [0]) _ _ (H.lendRdL (k:=0) (ks:=[0]) Z Z hchk12 aN aN)) ?_)))))));intro _ H
 refine pe 1 Z (q3 ?_)
 refine W_cond Z ?_ ?_
 ·intro hc14
  try simp only[nrm]at hc14
  refine q2 (xbs H Z7 ?_);intro _ _ _ H
  have H:=H.blkAcc 3 (k:=0) (n:=0) rfl rfl (by decide)
  refine pe 2 Z (q3 (W_ret (N_K_ret (rt2 results146 Z Z ?_))))
  obtain⟨_,H,hsg519,hsr519⟩:=H.shut' (k:=0) rfl (Chk.nil (E:=itemE) (sz:=3) (G:=G7)) aN aN
  have hY:Sp.TreeDrop list path=none:=by simp[Sp.TreeDrop,hl,hc14]
  exact H.retP (by rw[hY];exact⟨_,rfl,hsr519⟩)
 intro hc14'
 try simp only[nrm]at hc14'
 refine W_skip (N_K (q2 (pe 3 Z (q3 (W_ret (rt2 results146 Z Z ?_))))))
 obtain⟨_,H,hsg520,hsr520⟩:=H.shut' (k:=0) rfl hchk12 aN aN
 have hY:Sp.TreeDrop list path=some (list.take i++list.drop (i+1)):=by simp[Sp.TreeDrop,hl,hc3',hc14']
 exact H.retP (by rw[hY];exact⟨_,rfl,hsr520⟩)
theorem VolumeValid_c (w0:World)(G0:PH)(hG:PSub G0 w0)(cv:List Value)(v:BVol)(hv:volE G0 v cv) :
  Calls Tryz.prog 144 #[.agg cv.toArray] w0 (Rets w0 (.bool (Sp.VolumeValid v))):=by
 obtain⟨_,_,_,_,_,_,rfl,hr1,hr1',⟨_,_⟩,_,_⟩:=ox hv
 have H:=Hp.init hG
 refine calls_of_W (l:=[_]) func144 Z ntmps144 Z (q2 (o_box H Z Z Z ?_));intro b2 _ _ H
 refine aG Z (q3 (W_seq (q2 (fA 0 Z (lB 0 H Z3 (xr H Z2 (StoreValid_c _ _ H.sub _ _ hr1) ?_))))));intro _ H
 refine pe 2 Z ?_
 refine R_case (t:=8) Z ?_ ?_
 ·intro hc4
  try simp only[nrm]at hc4
  refine pe 13 Z (q3 (W_true Z (q2 (aG Z (q3 (W_ret (N_K_ret (rt1 results144 Z ?_))))))))
  exact H.rets (congrArg Value.bool (by simp[Sp.VolumeValid,hc4]))
 intro hc4'
 try simp only[nrm]at hc4'
 refine gR Z (fA 1 Z (gR Z (lB 0 H Z3 (gR Z (xr H Z2 (TreeValid_c _ _ H.sub _ _ hr1') ?_)))));intro _ H
 refine pe 3 Z ?_
 refine R_case (t:=14) Z ?_ ?_
 ·intro hc6
  try simp only[nrm]at hc6
  refine pe 7 Z (q3 (W_true Z (q2 (aG Z (q3 (W_ret (N_K_ret (rt1 results144 Z ?_))))))))
  exact H.rets (congrArg Value.bool (by simp[Sp.VolumeValid,hc6]))
 intro hc6'
 try simp only[nrm]at hc6'
 refine gR Z (fA 0 Z (gR Z (lB 0 H Z3 (gR Z (fA 1 Z (gR Z (lB 0 H Z3 (gR Z (xr H Z2 (l11Files_c _ _ H.sub _ _ hr1 _ _ hr1') ?_)))))))));intro _ H
 refine pe 2 Z (q3 ?_)
 refine W_cond Z ?_ ?_
 ·intro hc8
  try simp only[nrm]at hc8
  refine q2 (aG Z (q3 (W_ret (N_K_ret (rt1 results144 Z ?_)))))
  exact H.rets (congrArg Value.bool (by simp[Sp.VolumeValid,hc8]))
 intro hc8'
 try simp only[nrm]at hc8'
 refine W_skip (N_K (W_seq (q2 (aG Z (q3 (W_block ?_))))))
 obtain⟨ln9,hln9,H⟩:=H.name (k:=0) rfl
 refine W_lp (hf:=(Sub.cons (t:=1) Z Sub.nil)) (J:=fun M w m=>∃(k:Nat) (G:PH),M=[(3,.int .i64 (k:Int))]∧PLe G0 G∧Hp w0 G0 [] w G [blk b2 (cl ln9 90)]∧(k≤v.store.length∧(v.store.take k).all (Sp.usesOk v.tree)=true)∧m=(v.store.length-k)) (h0:=⟨0,_,Z,PLe.refl _,H,?inv,Z⟩) (round:=?round)
 case inv=>exact⟨by omega,by simp⟩
 case round =>
  rintro _ _ _ ⟨k,G10,rfl,hle10,H,hinv10,rfl⟩
  subst hln9
  have hr1:=hr1.up hle10
  have hr1':=hr1'.up hle10
  obtain⟨_,hall⟩:=hinv10
  refine W_seq (q2 (mV Z (fA 0 Z (lB 0 H Z3 (lN Z (pe 1 Z (q3 ?_)))))))
  refine W_cond Z ?_ ?_
  ·intro hc11
   try simp only[nrm]at hc11
   refine W_skip (N_K (W_seq (W_block (W_seq (W_drawK [0] 16 H kR Z ?_)))));intro _ H;have hd12:=PLe.refl G10
   refine dF 0 1 Z2 (dB 1 0 Z4 (dF 2 0 Z2 (dB 3 0 Z4 (dE 4 Z2 ?_))))
   have hl13:=hr1.len
   obtain⟨_,_,z13,_,ha13,hz13,hq13,hE13,hrow13,_⟩:=hr1.at (i:=k) oM
   clear hq13
   obtain⟨_,_,_,rfl,_,_,_,_,_⟩:=ox hE13
   refine dI 5 3 k ha13 Z3 Z (dF 6 0 Z2 (dP 7 hrow13 0 Z3 (dF 9 0 Z2 (dB 10 0 Z4 (dE 11 Z2 ?_)))))
   have hl14:=hr1.len
   obtain⟨_,_,z14,_,ha14,hz14,hq14,hE14,hrow14,_⟩:=hr1.at (i:=k) oM
   clear hq14
   obtain⟨_,_,_,rfl,_,_,_,_,_⟩:=ox hE14
   have hzz14:z13=z14:=Option.some.inj (hz13.symm.trans hz14)
   subst hzz14
   refine dI 12 3 k ha14 Z3 Z (dF 13 2 Z2 (dP 14 hrow14 2 Z3 (r1 8 Z (xr H Z2 (l11Count_c _ _ H.sub _ _ hr1' _ hc6') ?_))));intro _ H
   refine q4 H hd12 (dE 15 Z2 (rz (N_K ?_)))
   refine W_cond Z ?_ ?_
   ·intro hc16
    try simp only[nrm]at hc16
    refine q2 (aG Z (q3 (W_ret (N_B_ret (N_K_ret (N_LP_ret (N_B_ret (N_K_ret (rt1 results144 Z ?_)))))))))
    exact H.rets (congrArg Value.bool (by rw[Sp.VolumeValid,Sp.all_false hz13 (by simp[Sp.usesOk, *])];rfl))
   intro hc16'
   try simp only[nrm]at hc16'
   refine W_skip (N_B (N_K (W_region (mV Z (aD Z2 (aG Z (R_nil ?_)))))))
   refine N_lp (hJ:=⟨k+1,_,Z,hle10,H,?inv,Z⟩) (hm:=?hm)
   case hm=>omega
   case inv=>exact⟨by omega,Sp.all_take hall hz13 (by simp[Sp.usesOk, *])⟩
  intro hc11'
  try simp only[nrm]at hc11'
  refine W_exit (N_K_exit (N_LP_exit (N_B_same (N_K (q2 (aG Z (q3 (W_ret (rt1 results144 Z ?_)))))))))
  obtain rfl:k=v.store.length:=by omega
  rw[List.take_length]at hall
  exact H.rets (congrArg Value.bool (by simp[Sp.VolumeValid,hall,hc4',hc6',hc8']))
theorem VolumeDir_c (w0:World)(G0:PH)(hG:PSub G0 w0)(cv:List Value)(v:BVol)(hv:volE G0 v cv)(path:Bs)(hpath:path.length≤16777216) :
  Calls Tryz.prog 108 #[.agg cv.toArray,str path] w0 (RetO w0 G0 (fun G val r=>∃u u1,val= .tuple #[.agg #[u,u1],.bool (Sp.VolumeDir v path).isSome]∧AccOf heldE 3 134 (((Sp.VolumeDir v path).map (·.store)).getD []) G u r∧RdItems G u1 (((Sp.VolumeDir v path).map (·.tree)).getD []))):=by
 obtain⟨_,_,_,_,_,_,rfl,hr1,hr1',⟨_,_⟩,_,_⟩:=ox hv
 have H:=Hp.init hG
 refine calls_of_W (l:=[_,str path]) func108 Z ntmps108 Z (q2 (o_box H Z Z Z ?_));intro _ _ _ H
 refine xal H Z ?_;intro _ _ _ H
 refine aG Z (q1 (fA 1 Z (lB 1 H Z3 (mV Z (o_build bf66 Z Z Z (xc Z2 (TreePut_c _ _ H.sub _ _ hr1' _ ⟨path,true,[]⟩ ⟨_,_,_,Z,hpath,(RdS.nil _ _ _)⟩) ?_))))))
 rintro _ _ ⟨_,_,g4,rfl,_,rfl,hr4_0⟩
 have H:=H.grow g4
 have hr1:=hr1.up g4.le
 have hr1':=hr1'.up g4.le
 obtain⟨_,_,rfl⟩:=hr4_0.shape;have hx_hr4_0:_≤1099511627776:=hr4_0.lim
 refine⟨_,Z,?_⟩
 refine pe 5 Z (q3 (W_seq (q2 (lA 1 2 H Z4 (xr H Z2 (VolumeValid_c _ _ H.sub _ v ⟨_,_,_,_,_,_,Z,hr1,hr1'⟩) ?_)))));intro _ H
 refine pe 2 Z ?_
 refine R_case (t:=19) Z ?_ ?_
 ·intro hc6
  try simp only[nrm]at hc6
  refine pe 3 Z (q3 (W_true Z (q2 (o_build bf90 Z Z Z (xst 0 H Z8 ?_)))));intro _ H
  refine aG Z (q3 (W_ret (N_K_ret (ret_gen (rs:=[.cell 4 90,.tmp 5]) (vs:=[_,_]) results108 ⟨⟨_,Z,load_blk 0 H isAgg90 sizeOf90 Z Z Z⟩,Z,trivial⟩ ?_))))
  have hN:Sp.VolumeDir v path=none:=by simp[Sp.VolumeDir,hc6]
  have H:=H.addNil 134 3
  exact H.retO (k:=0) rfl (by rw[hN];exact⟨_,_,rfl,AccOf.mk rfl Chk.nil,RdS.nil _ _ _⟩) (acc_nd _ _ _ _ _)
 intro hc6'
 try simp only[nrm]at hc6'
 refine pe 3 Z (q3 ?_)
 refine W_cond Z ?_ ?_
 ·intro hc8
  try simp only[nrm]at hc8
  refine q2 (o_build bf90 Z Z Z (xst 0 H Z8 ?_));intro _ H
  refine aG Z (q3 (W_ret (N_K_ret (ret_gen (rs:=[.cell 4 90,.tmp 5]) (vs:=[_,_]) results108 ⟨⟨_,Z,load_blk 0 H isAgg90 sizeOf90 Z Z Z⟩,Z,trivial⟩ ?_))))
  have hN:Sp.VolumeDir v path=none:=by (have hno:Sp.TreePut v.tree ⟨path,true,[]⟩=none:=by simpa using hc8);simp[Sp.VolumeDir,hno]
  have H:=H.addNil 134 3
  exact H.retO (k:=0) rfl (by rw[hN];exact⟨_,_,rfl,AccOf.mk rfl Chk.nil,RdS.nil _ _ _⟩) (acc_nd _ _ _ _ _)
 intro hc8'
 try simp only[nrm]at hc8'
 refine W_skip (N_K (q2 (fA 0 Z (lB 1 H Z3 (xc Z2 (l3Copy_c _ _ H.sub _ _ hr1) ?_)))))
 rintro _ _ ⟨_,_,_,g10,rfl,⟨_,rfl,hchk10⟩,hp10,hq10,hs10⟩
 have H:=H.growO g10 hp10 hq10 hs10;obtain⟨_,_,rfl⟩:=H.accShape (k:=0) rfl
 have hr4_0:=hr4_0.up g10.le
 refine⟨_,Z,?_⟩
 refine mV Z (o_build bf90 Z Z Z (xst 1 H Z8 ?_));intro _ H
 refine aG Z (q3 (W_ret (ret_gen (rs:=[.cell 4 90,.tmp 5]) (vs:=[_,_]) results108 ⟨⟨_,Z,load_blk 1 H isAgg90 sizeOf90 Z Z Z⟩,Z,trivial⟩ ?_)))
 have hY:Sp.VolumeDir v path=some ⟨v.store,(Sp.TreePut v.tree ⟨path,true,[]⟩).getD []⟩:=by (obtain⟨_,hp⟩:=Option.isSome_iff_exists.1 hc8');simp[Sp.VolumeDir,hp,hc6']
 exact H.retO (k:=0) rfl (by rw[hY];exact⟨_,_,rfl,AccOf.mk aN hchk10,hr4_0⟩) (acc_nd _ _ _ _ _)
theorem l11Write_c (w0:World)(G0:PH)(hG:PSub G0 w0)(cv:List Value)(v:BVol)(hv:volE G0 v cv)(path:Bs)(hpath:path.length≤16777216)(vbytes:Value)(bytes:List (Int))(hbytes:RdI G0 vbytes bytes)(hS:bytes.length≤1000000) :
  Calls Tryz.prog 117 #[.agg cv.toArray,str path,vbytes] w0 (RetO w0 G0 (fun G val r=>∃u u1,val= .tuple #[.agg #[u,u1],.bool (Sp.l11Write v path bytes).isSome]∧AccOf heldE 3 134 (((Sp.l11Write v path bytes).map (·.store)).getD []) G u r∧RdItems G u1 (((Sp.l11Write v path bytes).map (·.tree)).getD []))):=by
 obtain⟨_,_,_,_,_,_,rfl,hr1,hr1',⟨_,_⟩,_,_⟩:=ox hv
 obtain⟨abytes,kbytes,rfl⟩:=hbytes.shape
 have hlimbytes:bytes.length≤1099511627776:=hbytes.lim
 have H:=Hp.init hG
 refine calls_of_W (l:=[_,str path,.slice abytes bytes.length kbytes]) func117 Z ntmps117 Z (q2 (o_box H Z Z Z ?_));intro _ _ _ H
 refine xal H Z ?_;intro _ _ _ H
 refine aG Z (q1 (fA 0 Z (lB 1 H Z3 (mV Z (xc Z2 (FileStore_c _ _ H.sub _ _ hr1 _ _ hbytes oM) ?_)))))
 rintro _ _ ⟨_,_,_,g4,rfl,⟨_,_,rfl,⟨_,rfl,hchk4⟩,hr4_1⟩,hp4,hq4,hs4⟩
 have H:=H.growO g4 hp4 hq4 hs4;obtain⟨_,_,rfl⟩:=H.accShape (k:=0) rfl
 have hr1':=hr1'.up g4.le
 obtain⟨_,_,rfl⟩:=hr4_1.shape;have hx_hr4_1:_≤1099511627776:=hr4_1.lim
 refine⟨_,Z,?_⟩
 have hfl:=Sp.fileStore_len v.store bytes
 refine pe 7 Z (q1 (fA 1 Z (lB 2 H Z3 (pe 2 Z (o_build bf66 Z Z Z (xc Z2 (TreePut_c _ _ H.sub _ _ hr1' _ ⟨path,false,((Sp.FileStore v.store bytes).map (·.2)).getD []⟩ ⟨_,_,_,Z,hpath,hr4_1⟩) ?_))))))
 rintro _ _ ⟨_,_,g5,rfl,_,rfl,hr5_0⟩
 have H:=H.grow g5
 have hr1':=hr1'.up g5.le
 have hchk4:=hchk4.up g5.le
 obtain⟨_,_,rfl⟩:=hr5_0.shape;have hx_hr5_0:_≤1099511627776:=hr5_0.lim
 refine⟨_,Z,?_⟩
 refine pe 5 Z (q3 (W_seq (q2 (pe 3 Z ?_))))
 refine R_case (t:=35) Z ?_ ?_
 ·intro hc6
  try simp only[nrm]at hc6
  refine pe 3 Z (q3 (W_true Z (q2 (o_build bf90 Z Z Z (xst 1 H Z8 ?_)))));intro _ H
  refine aG Z (q3 (W_ret (N_K_ret (ret_gen (rs:=[.cell 6 90,.tmp 7]) (vs:=[_,_]) results117 ⟨⟨_,Z,load_blk 1 H isAgg90 sizeOf90 Z Z Z⟩,Z,trivial⟩ ?_))))
  have hN:Sp.l11Write v path bytes=none:=by exact Sp.l11Write_1 hc6
  have H:=H.addNil 134 3
  exact H.retO (k:=0) rfl (by rw[hN];exact⟨_,_,rfl,AccOf.mk rfl Chk.nil,RdS.nil _ _ _⟩) (acc_nd _ _ _ _ _)
 intro hc6'
 try simp only[nrm]at hc6'
 refine pe 3 Z (q3 ?_)
 refine W_cond Z ?_ ?_
 ·intro hc8
  try simp only[nrm]at hc8
  refine q2 (o_build bf90 Z Z Z (xst 1 H Z8 ?_));intro _ H
  refine aG Z (q3 (W_ret (N_K_ret (ret_gen (rs:=[.cell 6 90,.tmp 7]) (vs:=[_,_]) results117 ⟨⟨_,Z,load_blk 1 H isAgg90 sizeOf90 Z Z Z⟩,Z,trivial⟩ ?_))))
  have hN:Sp.l11Write v path bytes=none:=by exact Sp.l11Write_2 hc8
  have H:=H.addNil 134 3
  exact H.retO (k:=0) rfl (by rw[hN];exact⟨_,_,rfl,AccOf.mk rfl Chk.nil,RdS.nil _ _ _⟩) (acc_nd _ _ _ _ _)
 intro hc8'
 try simp only[nrm]at hc8'
 refine W_skip (N_K (q2 (fA 1 Z (lB 2 H Z3 (mV Z (xc Z2 (l11Ids_c _ _ H.sub _ _ hr1' _ hpath) ?_))))))
 rintro _ _ ⟨_,_,g10,rfl,hr10_0⟩
 have H:=H.grow g10
 have hchk4:=hchk4.up g10.le
 have hr5_0:=hr5_0.up g10.le
 obtain⟨_,_,rfl⟩:=hr10_0.shape;have hx_hr10_0:_≤1099511627776:=hr10_0.lim
 refine⟨_,Z,?_⟩
 refine aG Z (q3 (W_seq (q2 (mV Z (lN Z (pe 1 Z (q3 ?_)))))))
 refine W_cond Z ?_ ?_
 ·intro hc11
  try simp only[nrm]at hc11
  refine q2 (pe 2 Z (iP 0 hr10_0 Z3 Z ?_));intro _ _ z12 _ hz12 hE12 hrow12
  obtain⟨_,_,_,rfl,_,hr12,_,_⟩:=ox hE12
  refine fA 2 Z (lP H hrow12 2 Z2 ?_)
  obtain⟨_,H,hsg14,hsr14⟩:=H.shut' (k:=0) rfl hchk4 aN aN
  have hr5_0:=hr5_0.up hsg14
  have hr12:=hr12.up hsg14
  refine xc Z2 (FileFree_c _ _ H.sub _ _ hsr14 _ _ hr12) ?_
  rintro _ _ ⟨_,_,_,g13,rfl,⟨_,rfl,⟨_,rfl,hchk13⟩⟩,hp13,hq13,hs13⟩
  have H:=H.growO g13 hp13 hq13 hs13;obtain⟨_,_,rfl⟩:=H.accShape (k:=0) rfl
  have hr5_0:=hr5_0.up g13.le
  refine⟨_,Z,?_⟩
  refine pe 5 Z (q3 (W_region (pe 2 Z (q1 (pe 2 Z (o_build bf90 Z Z Z (xst 1 H Z8 ?_)))))));intro _ H
  refine aG Z (q3 (W_ret (ret_gen (rs:=[.cell 6 90,.tmp 7]) (vs:=[_,_]) results117 ⟨⟨_,Z,load_blk 1 H isAgg90 sizeOf90 Z Z Z⟩,Z,trivial⟩ ?_)))
  have hY:Sp.l11Write v path bytes=some ⟨(Sp.FileFree (((Sp.FileStore v.store bytes).map (·.1)).getD []) z12.ids).getD [],(Sp.TreePut v.tree ⟨path,false,((Sp.FileStore v.store bytes).map (·.2)).getD []⟩).getD []⟩:=by rw[Sp.l11Write_3 hc6' hc8',Sp.freeOld_at hz12]
  exact H.retO (k:=0) rfl (by rw[hY];exact⟨_,_,rfl,AccOf.mk aN hchk13,hr5_0⟩) (acc_nd _ _ _ _ _)
 intro hc11'
 try simp only[nrm]at hc11'
 refine W_skip (N_K (q2 (pe 2 Z (o_build bf90 Z Z Z (xst 1 H Z8 ?_)))));intro _ H
 refine aG Z (q3 (W_ret (ret_gen (rs:=[.cell 6 90,.tmp 7]) (vs:=[_,_]) results117 ⟨⟨_,Z,load_blk 1 H isAgg90 sizeOf90 Z Z Z⟩,Z,trivial⟩ ?_)))
 have hY:Sp.l11Write v path bytes=some ⟨((Sp.FileStore v.store bytes).map (·.1)).getD [],(Sp.TreePut v.tree ⟨path,false,((Sp.FileStore v.store bytes).map (·.2)).getD []⟩).getD []⟩:=by rw[Sp.l11Write_3 hc6' hc8',Sp.freeOld_nil oM]
 exact H.retO (k:=0) rfl (by rw[hY];exact⟨_,_,rfl,AccOf.mk aN hchk4,hr5_0⟩) (acc_nd _ _ _ _ _)
theorem VolumeWrite_c (w0:World)(G0:PH)(hG:PSub G0 w0)(cv:List Value)(v:BVol)(hv:volE G0 v cv)(path:Bs)(hpath:path.length≤16777216)(vbytes:Value)(bytes:List (Int))(hbytes:RdI G0 vbytes bytes) :
  Calls Tryz.prog 111 #[.agg cv.toArray,str path,vbytes] w0 (RetO w0 G0 (fun G val r=>∃u u1,val= .tuple #[.agg #[u,u1],.bool (Sp.VolumeWrite v path bytes).isSome]∧AccOf heldE 3 134 (((Sp.VolumeWrite v path bytes).map (·.store)).getD []) G u r∧RdItems G u1 (((Sp.VolumeWrite v path bytes).map (·.tree)).getD []))):=by
 obtain⟨_,_,_,_,_,_,rfl,hr1,hr1',⟨_,_⟩,_,_⟩:=ox hv
 obtain⟨abytes,kbytes,rfl⟩:=hbytes.shape
 have hlimbytes:bytes.length≤1099511627776:=hbytes.lim
 have H:=Hp.init hG
 refine calls_of_W (l:=[_,str path,.slice abytes bytes.length kbytes]) func111 Z ntmps111 Z (q2 (o_box H Z Z Z ?_));intro _ _ _ H
 refine xal H Z ?_;intro _ _ _ H
 refine aG Z (q3 (W_seq (q2 (lA 1 2 H Z4 (xr H Z2 (VolumeValid_c _ _ H.sub _ v ⟨_,_,_,_,_,_,Z,hr1,hr1'⟩) ?_)))));intro _ H
 refine pe 2 Z ?_
 refine R_case (t:=11) Z ?_ ?_
 ·intro hc5
  try simp only[nrm]at hc5
  refine pe 4 Z (q3 (W_true Z (q2 (o_build bf90 Z Z Z (xst 0 H Z8 ?_)))));intro _ H
  refine aG Z (q3 (W_ret (N_K_ret (ret_gen (rs:=[.cell 6 90,.tmp 7]) (vs:=[_,_]) results111 ⟨⟨_,Z,load_blk 0 H isAgg90 sizeOf90 Z Z Z⟩,Z,trivial⟩ ?_))))
  have hN:Sp.VolumeWrite v path bytes=none:=by simp[Sp.VolumeWrite,hc5]
  have H:=H.addNil 134 3
  exact H.retO (k:=0) rfl (by rw[hN];exact⟨_,_,rfl,AccOf.mk rfl Chk.nil,RdS.nil _ _ _⟩) (acc_nd _ _ _ _ _)
 intro hc5'
 try simp only[nrm]at hc5'
 refine pe 1 Z (gR Z (xr H Z2 (FileValid_c _ _ H.sub _ _ hbytes) ?_));intro _ H
 refine pe 2 Z (q3 ?_)
 refine W_cond Z ?_ ?_
 ·intro hc8
  try simp only[nrm]at hc8
  refine q2 (o_build bf90 Z Z Z (xst 0 H Z8 ?_));intro _ H
  refine aG Z (q3 (W_ret (N_K_ret (ret_gen (rs:=[.cell 6 90,.tmp 7]) (vs:=[_,_]) results111 ⟨⟨_,Z,load_blk 0 H isAgg90 sizeOf90 Z Z Z⟩,Z,trivial⟩ ?_))))
  have hN:Sp.VolumeWrite v path bytes=none:=by simp[Sp.VolumeWrite,hc8]
  have H:=H.addNil 134 3
  exact H.retO (k:=0) rfl (by rw[hN];exact⟨_,_,rfl,AccOf.mk rfl Chk.nil,RdS.nil _ _ _⟩) (acc_nd _ _ _ _ _)
 intro hc8'
 try simp only[nrm]at hc8'
 have hfl:=Sp.file_len hc8'
 refine W_skip (N_K (q2 (lA 1 2 H Z4 (pe 2 Z (xc Z2 (l11Write_c _ _ H.sub _ v ⟨_,_,_,_,_,_,Z,hr1,hr1'⟩ _ hpath _ _ hbytes oM) ?_)))))
 rintro _ _ ⟨_,_,_,g10,rfl,⟨_,_,rfl,⟨_,rfl,hchk10⟩,hr10_1⟩,hp10,hq10,hs10⟩
 have H:=H.growO g10 hp10 hq10 hs10;obtain⟨_,_,rfl⟩:=H.accShape (k:=0) rfl
 obtain⟨_,_,rfl⟩:=hr10_1.shape;have hx_hr10_1:_≤1099511627776:=hr10_1.lim
 refine⟨_,Z,?_⟩
 refine pe 2 Z (xst 1 H Z8 ?_);intro _ H
 refine aG Z (q3 (W_ret (ret_gen (rs:=[.cell 6 90,.tmp 7]) (vs:=[_,_]) results111 ⟨⟨_,Z,load_blk 1 H isAgg90 sizeOf90 Z Z Z⟩,Z,trivial⟩ ?_)))
 have hY:Sp.VolumeWrite v path bytes=Sp.l11Write v path bytes:=by simp[Sp.VolumeWrite,hc5',hc8']
 exact H.retO (k:=0) rfl (by rw[hY];exact⟨_,_,rfl,AccOf.mk aN hchk10,hr10_1⟩) (acc_nd _ _ _ _ _)
theorem VolumeDrop_c (w0:World)(G0:PH)(hG:PSub G0 w0)(cv:List Value)(v:BVol)(hv:volE G0 v cv)(path:Bs)(hpath:path.length≤16777216) :
  Calls Tryz.prog 109 #[.agg cv.toArray,str path] w0 (RetO w0 G0 (fun G val r=>∃u u1,val= .tuple #[.agg #[u,u1],.bool (Sp.VolumeDrop v path).isSome]∧AccOf heldE 3 134 (((Sp.VolumeDrop v path).map (·.store)).getD []) G u r∧RdItems G u1 (((Sp.VolumeDrop v path).map (·.tree)).getD []))):=by
 obtain⟨_,_,_,_,_,_,rfl,hr1,hr1',⟨_,_⟩,_,_⟩:=ox hv
 have H:=Hp.init hG
 refine calls_of_W (l:=[_,str path]) func109 Z ntmps109 Z (q2 (o_box H Z Z Z ?_));intro _ _ _ H
 refine xal H Z ?_;intro _ _ _ H
 refine aG Z (q1 (fA 1 Z (lB 1 H Z3 (mV Z (xc Z2 (TreeDrop_c _ _ H.sub _ _ hr1' _ hpath) ?_)))))
 rintro _ _ ⟨G4,_,g4,rfl,_,rfl,hr4_0⟩
 have H:=H.grow g4
 have hr1:=hr1.up g4.le
 have hr1':=hr1'.up g4.le
 obtain⟨_,_,rfl⟩:=hr4_0.shape;have hx_hr4_0:_≤1099511627776:=hr4_0.lim
 refine⟨_,Z,?_⟩
 refine pe 5 Z (q3 (W_seq (q2 (lA 1 2 H Z4 (xr H Z2 (VolumeValid_c _ _ H.sub _ v ⟨_,_,_,_,_,_,Z,hr1,hr1'⟩) ?_)))));intro _ H
 refine pe 2 Z ?_
 refine R_case (t:=20) Z ?_ ?_
 ·intro hc6
  try simp only[nrm]at hc6
  refine pe 3 Z (q3 (W_true Z (q2 (o_build bf90 Z Z Z (xst 0 H Z8 ?_)))));intro _ H
  refine aG Z (q3 (W_ret (N_K_ret (ret_gen (rs:=[.cell 4 90,.tmp 5]) (vs:=[_,_]) results109 ⟨⟨_,Z,load_blk 0 H isAgg90 sizeOf90 Z Z Z⟩,Z,trivial⟩ ?_))))
  have hN:Sp.VolumeDrop v path=none:=by simp[Sp.VolumeDrop,hc6]
  have H:=H.addNil 134 3
  exact H.retO (k:=0) rfl (by rw[hN];exact⟨_,_,rfl,AccOf.mk rfl Chk.nil,RdS.nil _ _ _⟩) (acc_nd _ _ _ _ _)
 intro hc6'
 try simp only[nrm]at hc6'
 refine pe 3 Z (q3 ?_)
 refine W_cond Z ?_ ?_
 ·intro hc8
  try simp only[nrm]at hc8
  refine q2 (o_build bf90 Z Z Z (xst 0 H Z8 ?_));intro _ H
  refine aG Z (q3 (W_ret (N_K_ret (ret_gen (rs:=[.cell 4 90,.tmp 5]) (vs:=[_,_]) results109 ⟨⟨_,Z,load_blk 0 H isAgg90 sizeOf90 Z Z Z⟩,Z,trivial⟩ ?_))))
  have hN:Sp.VolumeDrop v path=none:=by (have hno:Sp.TreeDrop v.tree path=none:=by simpa using hc8);simp[Sp.VolumeDrop,hno]
  have H:=H.addNil 134 3
  exact H.retO (k:=0) rfl (by rw[hN];exact⟨_,_,rfl,AccOf.mk rfl Chk.nil,RdS.nil _ _ _⟩) (acc_nd _ _ _ _ _)
 intro hc8'
 try simp only[nrm]at hc8'
 obtain⟨i,_,ia,ib,_,_⟩:=Sp.treeDrop_at hc8'
 refine W_skip (N_K (W_seq (W_drawK [0,1] 17 H kR Z ?_)));intro _ H;have hd10:=PLe.refl G4
 refine dF 0 0 Z2 (dB 1 1 Z4 (dF 2 1 Z2 (dB 3 1 Z4 (dF 4 1 Z2 (dB 5 1 Z4 (dE 6 Z2 (r1 7 Z (xr H Z2 (l5At_c _ _ H.sub _ _ hr1' _ hpath) ?_))))))));intro _ H
 refine q4 H hd10 ?_
 have hl12:=hr1'.len
 obtain⟨_,_,z12,_,ha12,hz12,hq12,hE12,hrow12,_⟩:=hr1'.at (i:=i) oM
 clear hq12
 obtain⟨_,_,_,rfl,_,hr12,_,_⟩:=ox hE12
 refine dI 8 3 i ha12 Z3 ib (dF 9 2 Z2 (dP 10 hrow12 2 Z3 (r1 11 Z (xc Z2 (FileFree_c _ _ H.sub _ _ hr1 _ _ hr12) ?_))))
 rintro _ _ ⟨_,_,_,g13,rfl,⟨_,rfl,⟨_,rfl,hchk13⟩⟩,hp13,hq13,hs13⟩
 have H:=H.growO g13 hp13 hq13 hs13;obtain⟨_,_,rfl⟩:=H.accShape (k:=0) rfl
 have hr4_0:=hr4_0.up g13.le
 have hd10:=hd10.trans g13.le
 refine⟨_,Z,?_⟩
 refine q4 H hd10 (dE 12 Z2 (dE 13 Z2 (dE 14 Z2 (dE 15 Z2 (dE 16 Z2 (rz (N_K (q2 (pe 2 Z (o_build bf90 Z Z Z (xst 1 H Z8 ?_)))))))))));intro _ H
 refine aG Z (q3 (W_ret (ret_gen (rs:=[.cell 4 90,.tmp 5]) (vs:=[_,_]) results109 ⟨⟨_,Z,load_blk 1 H isAgg90 sizeOf90 Z Z Z⟩,Z,trivial⟩ ?_)))
 have hY:Sp.VolumeDrop v path=some ⟨(Sp.FileFree v.store z12.ids).getD [],(Sp.TreeDrop v.tree path).getD []⟩:=by (obtain⟨_,hp⟩:=Option.isSome_iff_exists.1 hc8');simp[Sp.VolumeDrop,hc6',hp,ia,hz12]
 exact H.retO (k:=0) rfl (by rw[hY];exact⟨_,_,rfl,AccOf.mk aN hchk13,hr4_0⟩) (acc_nd _ _ _ _ _)
theorem of_c (w0:World)(G0:PH)(hG:PSub G0 w0)(rb:Nat)(ab:Option Addr)(mb kb:Nat)(bs:List UInt8)(p:Nat)(hbs:RdU G0 (.slice ab mb kb) bs)(hrb:w0.heap[rb]? = some (cl [.slice ab mb kb,.int .i64 (p:Int)] 88))(hrn:G0 rb=none)(hp:p≤100000000000)(vlist:Value)(list:List (Bs))(hlist:RdT G0 vlist list)(hL:0<list.length) :
  Calls Tryz.prog 43 #[.pointer (some ⟨rb,0,none⟩),vlist] w0 (RetM w0 G0 [rb] (fun G val Bs=>∃(p':Nat) (x:Fw.Bs),p'≤p+1∧val=str x∧x.length≤16777216∧Bs=[blk rb (cl [.slice ab mb kb,.int .i64 (p':Int)] 88)])):=by
 have hlimbs:bs.length≤1099511627776:=hbs.lim;obtain rfl:mb=bs.length:=hbs.len
 obtain⟨alist,klist,rfl⟩:=hlist.shape
 have hlimlist:list.length≤1099511627776:=hlist.lim
 have H:=Hp.initM hG hrb hrn
 refine calls_of_W (l:=[.pointer (some ⟨rb,0,none⟩),.slice alist list.length klist]) func43 Z ntmps43 Z (q2 (aG Z (q1 (pe 3 Z (lN Z (xc Z2 (pick_c _ _ H.sub _ _ _ _ _ _ hbs (H.blkIs (k:=0) Z).1 (H.blkIs (k:=0) Z).2 oM _ oO) ?_))))))
 rintro _ _ ⟨_,_,_,rfl,H1',⟨_,x1,_,rfl,_,rfl⟩⟩
 have hlist:=hlist.up H1'.le
 have H:=H.borrow (k:=0) rfl H1'
 refine⟨_,Z,?_⟩
 refine iP x1 hlist Z3 Z ?_;intro _ _ _ _ _ hE2 hrow2
 obtain⟨rfl,hi2⟩:=hE2;have hy_hi2:_≤16777216:=hi2
 refine lP H hrow2 0 Z2 (aG Z (q3 (W_ret (rt1 results43 Z ?_))))
 exact H.retM ⟨_,_,by omega,rfl,(by assumption),rfl⟩
theorem l91Path_c (w0:World)(G0:PH)(hG:PSub G0 w0)(rb:Nat)(ab:Option Addr)(mb kb:Nat)(bs:List UInt8)(p:Nat)(hbs:RdU G0 (.slice ab mb kb) bs)(hrb:w0.heap[rb]? = some (cl [.slice ab mb kb,.int .i64 (p:Int)] 88))(hrn:G0 rb=none)(hp:p≤10000000000) :
  Calls Tryz.prog 110 #[.pointer (some ⟨rb,0,none⟩)] w0 (RetM w0 G0 [rb] (fun G val Bs=>∃(p':Nat) (x:Fw.Bs),p'≤p+2∧val=str x∧x.length≤16777216∧Bs=[blk rb (cl [.slice ab mb kb,.int .i64 (p':Int)] 88)])):=by
 have hlimbs:bs.length≤1099511627776:=hbs.lim;obtain rfl:mb=bs.length:=hbs.len
 have H:=Hp.initM hG hrb hrn
 refine calls_of_W (l:=[.pointer (some ⟨rb,0,none⟩)]) func110 Z ntmps110 Z (q2 (aG Z (q3 (W_seq (q2 (mV Z (xc Z2 (pick_c _ _ H.sub _ _ _ _ _ _ hbs (H.blkIs (k:=0) Z).1 (H.blkIs (k:=0) Z).2 oM _ oO) ?_)))))))
 rintro _ _ ⟨G1,_,_,rfl,H1',⟨_,_,_,rfl,_,rfl⟩⟩
 have hbs:=hbs.up H1'.le
 have H:=H.borrow (k:=0) rfl H1'
 refine⟨_,Z,?_⟩
 refine pe 1 Z (q3 ?_)
 refine W_cond Z ?_ ?_
 ·intro hc2
  try simp only[nrm]at hc2
  refine q2 (mV Z (xbs H Z7 ?_));intro _ _ _ H
  have H:=H.blkAcc 1 (k:=0) (n:=8) rfl rfl (by decide)
  have hchk5:=(((((((((Chk.nil (E:=strE) (sz:=1) (G:=G1)).snoc (show strE _ ([]:Fw.Bs) [str []] from⟨rfl,by decide⟩) rfl).snoc (show strE _ ([97,47,47,98]:Fw.Bs) [str [97,47,47,98]] from⟨rfl,by decide⟩) rfl).snoc (show strE _ ([47,97]:Fw.Bs) [str [47,97]] from⟨rfl,by decide⟩) rfl).snoc (show strE _ ([97,47]:Fw.Bs) [str [97,47]] from⟨rfl,by decide⟩) rfl).snoc (show strE _ ([65]:Fw.Bs) [str [65]] from⟨rfl,by decide⟩) rfl).snoc (show strE _ ([97,98,99,100,101,102]:Fw.Bs) [str [97,98,99,100,101,102]] from⟨rfl,by decide⟩) rfl).snoc (show strE _ ([97,47,98,47,99,47,100,47,101]:Fw.Bs) [str [97,47,98,47,99,47,100,47,101]] from⟨rfl,by decide⟩) rfl).snoc (show strE _ ([97,47,98,47,99,47,100]:Fw.Bs) [str [97,47,98,47,99,47,100]] from⟨rfl,by decide⟩) rfl)
  obtain⟨_,H,hsg6,hsr6⟩:=H.shutM (k:=0) (j:=0) rfl rfl hchk5 aN aN
  have hbs:=hbs.up hsg6
  refine xc Z2 (of_c _ _ H.sub _ _ _ _ _ _ hbs (H.blkIs (k:=0) Z).1 (H.blkIs (k:=0) Z).2 oM _ _ hsr6 (by first|decide|(simp;done)|(simp;omega))) ?_
  rintro _ _ ⟨_,_,_,rfl,H4',⟨_,_,_,rfl,_,rfl⟩⟩
  have H:=H.borrow (k:=0) rfl H4'
  refine⟨_,Z,?_⟩
  refine aG Z (q3 (W_ret (N_K_ret (rt1 results110 Z ?_))))
  exact H.retM ⟨_,_,by omega,rfl,(by assumption),rfl⟩
 intro hc2'
 try simp only[nrm]at hc2'
 refine W_skip (N_K (q2 (mV Z (xbs H Z7 ?_))));intro _ _ _ H
 have H:=H.blkAcc 1 (k:=0) (n:=8) rfl rfl (by decide)
 have hchk9:=(((((((((Chk.nil (E:=strE) (sz:=1) (G:=G1)).snoc (show strE _ ([97]:Fw.Bs) [str [97]] from⟨rfl,by decide⟩) rfl).snoc (show strE _ ([98]:Fw.Bs) [str [98]] from⟨rfl,by decide⟩) rfl).snoc (show strE _ ([97,47,120]:Fw.Bs) [str [97,47,120]] from⟨rfl,by decide⟩) rfl).snoc (show strE _ ([97,47,121]:Fw.Bs) [str [97,47,121]] from⟨rfl,by decide⟩) rfl).snoc (show strE _ ([98,47,120]:Fw.Bs) [str [98,47,120]] from⟨rfl,by decide⟩) rfl).snoc (show strE _ ([97,47,120,47,112]:Fw.Bs) [str [97,47,120,47,112]] from⟨rfl,by decide⟩) rfl).snoc (show strE _ ([99]:Fw.Bs) [str [99]] from⟨rfl,by decide⟩) rfl).snoc (show strE _ ([97,47,120,47,113]:Fw.Bs) [str [97,47,120,47,113]] from⟨rfl,by decide⟩) rfl)
 obtain⟨_,H,hsg10,hsr10⟩:=H.shutM (k:=0) (j:=0) rfl rfl hchk9 aN aN
 have hbs:=hbs.up hsg10
 refine xc Z2 (of_c _ _ H.sub _ _ _ _ _ _ hbs (H.blkIs (k:=0) Z).1 (H.blkIs (k:=0) Z).2 oM _ _ hsr10 (by first|decide|(simp;done)|(simp;omega))) ?_
 rintro _ _ ⟨_,_,_,rfl,H8',⟨_,_,_,rfl,_,rfl⟩⟩
 have H:=H.borrow (k:=0) rfl H8'
 refine⟨_,Z,?_⟩
 refine aG Z (q3 (W_ret (rt1 results110 Z ?_)))
 exact H.retM ⟨_,_,by omega,rfl,(by assumption),rfl⟩
theorem l91File_c (w0:World)(G0:PH)(hG:PSub G0 w0)(rb:Nat)(ab:Option Addr)(mb kb:Nat)(bs:List UInt8)(p:Nat)(hbs:RdU G0 (.slice ab mb kb) bs)(hrb:w0.heap[rb]? = some (cl [.slice ab mb kb,.int .i64 (p:Int)] 88))(hrn:G0 rb=none)(hp:p≤1000000000) :
  Calls Tryz.prog 80 #[.pointer (some ⟨rb,0,none⟩)] w0 (RetM w0 G0 [rb] (fun G val Bs=>∃(p':Nat) (x:List Int) (v:Value) (c:List Value),p'≤p+100∧val=v∧Chk intE 1 G c x∧x.length≤33∧Bs=[acc 3 1 v x.length c,blk rb (cl [.slice ab mb kb,.int .i64 (p':Int)] 88)])):=by
 have hlimbs:bs.length≤1099511627776:=hbs.lim;obtain rfl:mb=bs.length:=hbs.len
 have H:=Hp.initM hG hrb hrn
 refine calls_of_W (l:=[.pointer (some ⟨rb,0,none⟩)]) func80 Z ntmps80 Z (q2 (aG Z (q1 (xbs H Z7 ?_))));intro _ _ _ H
 have H:=H.blkAcc 1 (k:=0) (n:=0) rfl rfl (by decide)
 refine aG Z (q1 (xbs H Z7 ?_));intro _ _ _ H
 refine mV Z (xc Z2 (pick_c _ _ H.sub _ _ _ _ _ _ hbs (H.blkIs (k:=2) Z).1 (H.blkIs (k:=2) Z).2 oM _ oO) ?_)
 rintro _ _ ⟨G3,_,_,rfl,H3',⟨_,x3,_,rfl,_,rfl⟩⟩
 have hbs:=hbs.up H3'.le
 have H:=H.borrow (k:=2) rfl H3'
 refine⟨_,Z,?_⟩
 have H:=H.blkAcc 1 (k:=1) (n:=8) rfl rfl (by decide)
 have hchk5:=(((((((((Chk.nil (E:=intE) (sz:=1) (G:=G3)).snoc (show intE _ (0:Int) [.int .i64 0] from⟨rfl,by decide⟩) rfl).snoc (show intE _ (1:Int) [.int .i64 1] from⟨rfl,by decide⟩) rfl).snoc (show intE _ (7:Int) [.int .i64 7] from⟨rfl,by decide⟩) rfl).snoc (show intE _ (8:Int) [.int .i64 8] from⟨rfl,by decide⟩) rfl).snoc (show intE _ (9:Int) [.int .i64 9] from⟨rfl,by decide⟩) rfl).snoc (show intE _ (16:Int) [.int .i64 16] from⟨rfl,by decide⟩) rfl).snoc (show intE _ (17:Int) [.int .i64 17] from⟨rfl,by decide⟩) rfl).snoc (show intE _ (32:Int) [.int .i64 32] from⟨rfl,by decide⟩) rfl)
 obtain⟨_,H,hsg6,hsr6⟩:=H.shutM (k:=1) (j:=0) rfl rfl hchk5 aN aN
 have hbs:=hbs.up hsg6
 have hl_hsr6:=hsr6.len
 refine iP x3 hsr6 Z3 Z ?_;intro _ _ z4 _ hz4 hE4 hrow4
 obtain⟨rfl,_⟩:=hE4
 have hzb:0≤z4∧z4≤32:=by have:=List.mem_of_getElem? hz4;simp at this;omega
 refine lP H hrow4 0 Z2 (aG Z (q3 (W_seq (q2 (mV Z (xc Z2 (pick_c _ _ H.sub _ _ _ _ _ _ hbs (H.blkIs (k:=0) Z).1 (H.blkIs (k:=0) Z).2 oM _ oO) ?_))))))
 rintro _ _ ⟨_,_,_,rfl,H7',⟨_,_,_,rfl,_,rfl⟩⟩
 have hbs:=hbs.up H7'.le
 have H:=H.borrow (k:=0) rfl H7'
 refine⟨_,Z,?_⟩
 refine pe 1 Z (q3 ?_)
 refine W_cond Z ?_ ?_
 ·intro hc8
  try simp only[nrm]at hc8
  refine W_region (mV Z (xc Z2 (pick_c _ _ H.sub _ _ _ _ _ _ hbs (H.blkIs (k:=0) Z).1 (H.blkIs (k:=0) Z).2 oM _ oO) ?_))
  rintro _ _ ⟨_,_,_,rfl,H9',⟨_,_,_,rfl,_,rfl⟩⟩
  have hbs:=hbs.up H9'.le
  have H:=H.borrow (k:=0) rfl H9'
  refine⟨_,Z,?_⟩
  refine aG Z (q1 (mV Z (xc Z2 (pick_c _ _ H.sub _ _ _ _ _ _ hbs (H.blkIs (k:=0) Z).1 (H.blkIs (k:=0) Z).2 oM _ oO) ?_)))
  rintro _ _ ⟨G10,_,_,rfl,H10',⟨p10,x10,_,rfl,_,rfl⟩⟩
  have hbs:=hbs.up H10'.le
  have H:=H.borrow (k:=0) rfl H10'
  refine⟨_,Z,?_⟩
  refine aG Z (q3 (W_seq (q2 (aG Z (q3 (W_block ?_))))))
  refine W_lp (hf:=(Sub.cons (t:=0) Z (Sub.cons (t:=2) Z (Sub.cons (t:=4) Z (Sub.cons (t:=5) Z Sub.nil))))) (J:=fun M w m=>∃(v:Value) (n:Nat) (cs:List Value) (xs:List (Int)) (k:Nat) (pp:Nat) (G:PH),M=[(6,.int .i64 (k:Int)),(3,v)]∧PLe G10 G∧Hp w0 G0 [rb] w G [blk rb (cl [.slice ab bs.length kb,.int .i64 (pp:Int)] 88),acc 3 1 v n cs]∧(Chk intE 1 G cs xs∧n=xs.length∧k≤32∧xs.length=k∧pp≤p+10+2*k)∧m=(33-k)) (h0:=⟨_,_,_,[],0,p10,_,Z,PLe.refl _,H,?inv,Z⟩) (round:=?round)
  case inv=>exact⟨(Chk.nil (E:=intE) (sz:=1) (G:=G10)),by first|rfl|simp|(simp;omega)|omega,(by exact⟨by omega,rfl,by omega⟩)⟩
  case round =>
   rintro _ _ _ ⟨v,n,cs,xs,k,pp,_,rfl,hle11,H,hinv11,rfl⟩
   have hbs:=hbs.up hle11
   obtain⟨hchk11_0,_,hinv11⟩:=hinv11
   obtain⟨_,_,rfl⟩:=H.accShape (k:=1) rfl
   obtain⟨hk,hxl,hpp⟩:=hinv11
   refine W_seq (q2 (pe 3 Z (q3 ?_)))
   refine W_cond Z ?_ ?_
   ·intro hc12
    try simp only[nrm]at hc12
    refine W_skip (N_K (W_seq (W_block (W_region (pe 3 Z (o_quo Z Z Z oM oM oM (mV Z (xc Z2 (pick_c _ _ H.sub _ _ _ _ _ _ hbs (H.blkIs (k:=0) Z).1 (H.blkIs (k:=0) Z).2 oM _ oO) ?_))))))))
    rintro _ _ ⟨_,_,_,rfl,H13',⟨_,x13,_,rfl,_,rfl⟩⟩
    have hbs:=hbs.up H13'.le
    have hchk11_0:=hchk11_0.up H13'.le
    have hle11:=hle11.trans H13'.le
    have H:=H.borrow (k:=0) rfl H13'
    refine⟨_,Z,?_⟩
    have hma13:0≤((k:Int) / 8)*(x13:Int):=Int.mul_nonneg oM oM
    have hmb13:((k:Int) / 8)*(x13:Int)≤4*(x13:Int):=Int.mul_le_mul_of_nonneg_right oM oM
    refine o_mul Z Z Z oO (aD Z2 (mV Z (xc Z2 (pick_c _ _ H.sub _ _ _ _ _ _ hbs (H.blkIs (k:=0) Z).1 (H.blkIs (k:=0) Z).2 oM _ oO) ?_)))
    rintro _ _ ⟨_,_,_,rfl,H16',⟨p16,x16,_,rfl,_,rfl⟩⟩
    have hchk11_0:=hchk11_0.up H16'.le
    have hle11:=hle11.trans H16'.le
    have H:=H.borrow (k:=0) rfl H16'
    refine⟨_,Z,?_⟩
    have hma16:0≤((k:Int) / 8)*(x16:Int):=Int.mul_nonneg oM oM
    have hmb16:((k:Int) / 8)*(x16:Int)≤4*(x16:Int):=Int.mul_le_mul_of_nonneg_right oM oM
    refine o_quo Z Z Z oM oM oM (aD Z2 (xbs H Z7 ?_));intro _ _ _ H
    refine o_append1 1 H (sz:=1) (bytes:=8) underlying56 typeInfo3 ⟨_,Z,Z⟩ Z Z Z Z Z Z Z Z Z Z oM Z ?_;intro _ _ H
    have hchk19:=hchk11_0.snoc (show intE _ ((x10:Int)+((k:Int) / 8)*(x13:Int)+(x16:Int) / 5) _ from⟨rfl,oO⟩) rfl
    obtain⟨_,_,rfl⟩:=H.accShape (k:=1) rfl
    refine aG Z (R_nil (N_B (N_K (W_region (mV Z (aD Z2 (aG Z (R_nil ?_))))))))
    refine N_lp (hJ:=⟨_,_,_,(xs++[((x10:Int)+((k:Int) / 8)*(x13:Int)+(x16:Int) / 5)]),k+1,p16,_,Z,hle11,H,?inv,Z⟩) (hm:=?hm)
    case hm=>omega
    case inv=>exact⟨hchk19,aN,(by exact⟨by omega,by simp[hxl],by omega⟩)⟩
   intro hc12'
   try simp only[nrm]at hc12'
   refine W_exit (N_K_exit (N_LP_exit (N_B_same (N_K (W_seq (q2 (mV Z (xc Z2 (pick_c _ _ H.sub _ _ _ _ _ _ hbs (H.blkIs (k:=0) Z).1 (H.blkIs (k:=0) Z).2 oM _ oO) ?_))))))))
   rintro _ _ ⟨G21,_,_,rfl,H21',⟨_,x21,_,rfl,_,rfl⟩⟩
   have hbs:=hbs.up H21'.le
   have hchk11_0:=hchk11_0.up H21'.le
   have H:=H.borrow (k:=0) rfl H21'
   refine⟨_,Z,?_⟩
   have hma21:0≤((k:Int) / 8)*(x21:Int):=Int.mul_nonneg oM oM
   have hmb21:((k:Int) / 8)*(x21:Int)≤4*(x21:Int):=Int.mul_le_mul_of_nonneg_right oM oM
   refine q3 (W_block (q2 (pe 2 Z (q3 ?_))))
   refine W_cond Z ?_ ?_
   ·intro hc22
    try simp only[nrm]at hc22
    refine q2 (pe 2 Z (q3 ?_))
    refine W_cond Z ?_ ?_
    ·intro hc23
     try simp only[nrm]at hc23
     refine W_region (pe 3 Z (xc Z2 (pick_c _ _ H.sub _ _ _ _ _ _ hbs (H.blkIs (k:=0) Z).1 (H.blkIs (k:=0) Z).2 oM _ oO) ?_))
     rintro _ _ ⟨_,_,_,rfl,H24',⟨_,x24,_,rfl,_,rfl⟩⟩
     have hchk11_0:=hchk11_0.up H24'.le
     have H:=H.borrow (k:=0) rfl H24'
     refine⟨_,Z,?_⟩
     have hma24:0≤((k:Int) / 8)*(x24:Int):=Int.mul_nonneg oM oM
     have hmb24:((k:Int) / 8)*(x24:Int)≤4*(x24:Int):=Int.mul_le_mul_of_nonneg_right oM oM
     refine o_index_A 1 H x24 Z hchk11_0 underlying56 sizeOf3 Z Z Z Z aN aN ?_;intro _ _ _ hba25 hz25 hE25 _;cases hba25
     obtain⟨rfl,_⟩:=hE25
     have hcl26:=hchk11_0.length
     refine o_store_A 1 H sizeOf3 Z Z Z Z Z (by simp only[vc,List.length_cons,List.length_nil];omega) ?_;intro _ H
     have hchk26:=hchk11_0.put (x':=256) (off:=0) (vs:=[_]) hz25 (fun cs hl hE=>by obtain⟨rfl,_⟩:=hE;exact⟨rfl,oO⟩) (by simp only[vc,List.length_cons,List.length_nil];omega)
     refine R_nil (N_B (N_K (q2 (pe 2 Z (q3 (W_ret (rt1 results80 Z ?_)))))))
     have H:=H.tF 1
     have hcx:=hchk26
     exact H.retM ⟨_,(xs.set x24 256),_,_,oM,rfl,hcx,(by first|(simp;done)|(simp;omega)|(simp at *; omega)|omega),acc_1 aN⟩
    intro hc23'
    try simp only[nrm]at hc23'
    refine W_skip (N_B (N_K (q2 (pe 2 Z (q3 (W_ret (rt1 results80 Z ?_)))))))
    have H:=H.tF 1
    have hcx:=hchk11_0
    exact H.retM ⟨_,xs,_,_,oM,rfl,hcx,(by first|(simp;done)|(simp;omega)|(simp at *; omega)|omega),acc_1 aN⟩
   intro hc22'
   try simp only[nrm]at hc22'
   refine q2 (pe 2 Z (q3 ?_))
   refine W_cond Z ?_ ?_
   ·intro hc27
    try simp only[nrm]at hc27
    refine q2 (o_makeN (c:=33) (sz:=1) (bytes:=8) H underlying56 typeInfo3 ⟨_,Z,Z⟩ Z Z Z Z Z Z Z Z Z oM Z ?_);intro _ _ H
    have hchk28:=Chk.rep (E:=intE) (sz:=1) (G:=G21) (x0:=0) (⟨rfl,by decide⟩) rfl (33)
    refine aG Z (q3 (W_ret (N_B_ret (N_K_ret (rt1 results80 Z ?_)))))
    have H:=H.dl 2
    have H:=H.tF 1
    have H:=H.tF 1
    have hcx:=hchk28
    exact H.retM ⟨_,(List.replicate (33) 0),_,_,oM,rfl,hcx,(by first|(simp;done)|(simp;omega)|(simp at *; omega)|omega),acc_1 aN⟩
   intro hc27'
   try simp only[nrm]at hc27'
   refine W_skip (N_B (N_K (q2 (pe 2 Z (q3 (W_ret (rt1 results80 Z ?_)))))))
   have H:=H.tF 1
   have hcx:=hchk11_0
   exact H.retM ⟨_,xs,_,_,oM,rfl,hcx,(by first|(simp;done)|(simp;omega)|(simp at *; omega)|omega),acc_1 aN⟩
 intro hc8'
 try simp only[nrm]at hc8'
 refine W_skip (N_K (q2 (mV Z (xc Z2 (pick_c _ _ H.sub _ _ _ _ _ _ hbs (H.blkIs (k:=0) Z).1 (H.blkIs (k:=0) Z).2 oM _ oO) ?_))))
 rintro _ _ ⟨G29,_,_,rfl,H29',⟨p29,x29,_,rfl,_,rfl⟩⟩
 have hbs:=hbs.up H29'.le
 have H:=H.borrow (k:=0) rfl H29'
 refine⟨_,Z,?_⟩
 refine aG Z (q3 (W_seq (q2 (aG Z (q3 (W_block ?_))))))
 refine W_lp (hf:=(Sub.cons (t:=0) Z (Sub.cons (t:=2) Z (Sub.cons (t:=4) Z (Sub.cons (t:=5) Z Sub.nil))))) (J:=fun M w m=>∃(v:Value) (n:Nat) (cs:List Value) (xs:List (Int)) (k:Nat) (pp:Nat) (G:PH),M=[(6,.int .i64 (k:Int)),(3,v)]∧PLe G29 G∧Hp w0 G0 [rb] w G [blk rb (cl [.slice ab bs.length kb,.int .i64 (pp:Int)] 88),acc 3 1 v n cs]∧(Chk intE 1 G cs xs∧n=xs.length∧k≤32∧xs.length=k∧pp≤p+10+2*k)∧m=(33-k)) (h0:=⟨_,_,_,[],0,p29,_,Z,PLe.refl _,H,?inv,Z⟩) (round:=?round)
 case inv=>exact⟨(Chk.nil (E:=intE) (sz:=1) (G:=G29)),by first|rfl|simp|(simp;omega)|omega,(by exact⟨by omega,rfl,by omega⟩)⟩
 case round =>
  rintro _ _ _ ⟨v,n,cs,xs,k,pp,_,rfl,hle30,H,hinv30,rfl⟩
  have hbs:=hbs.up hle30
  obtain⟨hchk30_0,_,hinv30⟩:=hinv30
  obtain⟨_,_,rfl⟩:=H.accShape (k:=1) rfl
  obtain⟨hk,hxl,hpp⟩:=hinv30
  refine W_seq (q2 (pe 3 Z (q3 ?_)))
  refine W_cond Z ?_ ?_
  ·intro hc31
   try simp only[nrm]at hc31
   refine W_skip (N_K (W_seq (W_block (W_region (pe 3 Z (o_quo Z Z Z oM oM oM (mV Z (xc Z2 (pick_c _ _ H.sub _ _ _ _ _ _ hbs (H.blkIs (k:=0) Z).1 (H.blkIs (k:=0) Z).2 oM _ oO) ?_))))))))
   rintro _ _ ⟨_,_,_,rfl,H32',⟨_,x32,_,rfl,_,rfl⟩⟩
   have hbs:=hbs.up H32'.le
   have hchk30_0:=hchk30_0.up H32'.le
   have hle30:=hle30.trans H32'.le
   have H:=H.borrow (k:=0) rfl H32'
   refine⟨_,Z,?_⟩
   have hma32:0≤((k:Int) / 8)*(x32:Int):=Int.mul_nonneg oM oM
   have hmb32:((k:Int) / 8)*(x32:Int)≤4*(x32:Int):=Int.mul_le_mul_of_nonneg_right oM oM
   refine o_mul Z Z Z oO (aD Z2 (mV Z (xc Z2 (pick_c _ _ H.sub _ _ _ _ _ _ hbs (H.blkIs (k:=0) Z).1 (H.blkIs (k:=0) Z).2 oM _ oO) ?_)))
   rintro _ _ ⟨_,_,_,rfl,H35',⟨p35,x35,_,rfl,_,rfl⟩⟩
   have hchk30_0:=hchk30_0.up H35'.le
   have hle30:=hle30.trans H35'.le
   have H:=H.borrow (k:=0) rfl H35'
   refine⟨_,Z,?_⟩
   have hma35:0≤((k:Int) / 8)*(x35:Int):=Int.mul_nonneg oM oM
   have hmb35:((k:Int) / 8)*(x35:Int)≤4*(x35:Int):=Int.mul_le_mul_of_nonneg_right oM oM
   refine o_quo Z Z Z oM oM oM (aD Z2 (xbs H Z7 ?_));intro _ _ _ H
   refine o_append1 1 H (sz:=1) (bytes:=8) underlying56 typeInfo3 ⟨_,Z,Z⟩ Z Z Z Z Z Z Z Z Z Z oM Z ?_;intro _ _ H
   have hchk38:=hchk30_0.snoc (show intE _ ((x29:Int)+((k:Int) / 8)*(x32:Int)+(x35:Int) / 5) _ from⟨rfl,oO⟩) rfl
   obtain⟨_,_,rfl⟩:=H.accShape (k:=1) rfl
   refine aG Z (R_nil (N_B (N_K (W_region (mV Z (aD Z2 (aG Z (R_nil ?_))))))))
   refine N_lp (hJ:=⟨_,_,_,(xs++[((x29:Int)+((k:Int) / 8)*(x32:Int)+(x35:Int) / 5)]),k+1,p35,_,Z,hle30,H,?inv,Z⟩) (hm:=?hm)
   case hm=>omega
   case inv=>exact⟨hchk38,aN,(by exact⟨by omega,by simp[hxl],by omega⟩)⟩
  intro hc31'
  try simp only[nrm]at hc31'
  refine W_exit (N_K_exit (N_LP_exit (N_B_same (N_K (W_seq (q2 (mV Z (xc Z2 (pick_c _ _ H.sub _ _ _ _ _ _ hbs (H.blkIs (k:=0) Z).1 (H.blkIs (k:=0) Z).2 oM _ oO) ?_))))))))
  rintro _ _ ⟨G40,_,_,rfl,H40',⟨_,x40,_,rfl,_,rfl⟩⟩
  have hbs:=hbs.up H40'.le
  have hchk30_0:=hchk30_0.up H40'.le
  have H:=H.borrow (k:=0) rfl H40'
  refine⟨_,Z,?_⟩
  have hma40:0≤((k:Int) / 8)*(x40:Int):=Int.mul_nonneg oM oM
  have hmb40:((k:Int) / 8)*(x40:Int)≤4*(x40:Int):=Int.mul_le_mul_of_nonneg_right oM oM
  refine q3 (W_block (q2 (pe 2 Z (q3 ?_))))
  refine W_cond Z ?_ ?_
  ·intro hc41
   try simp only[nrm]at hc41
   refine q2 (pe 2 Z (q3 ?_))
   refine W_cond Z ?_ ?_
   ·intro hc42
    try simp only[nrm]at hc42
    refine W_region (pe 3 Z (xc Z2 (pick_c _ _ H.sub _ _ _ _ _ _ hbs (H.blkIs (k:=0) Z).1 (H.blkIs (k:=0) Z).2 oM _ oO) ?_))
    rintro _ _ ⟨_,_,_,rfl,H43',⟨_,x43,_,rfl,_,rfl⟩⟩
    have hchk30_0:=hchk30_0.up H43'.le
    have H:=H.borrow (k:=0) rfl H43'
    refine⟨_,Z,?_⟩
    have hma43:0≤((k:Int) / 8)*(x43:Int):=Int.mul_nonneg oM oM
    have hmb43:((k:Int) / 8)*(x43:Int)≤4*(x43:Int):=Int.mul_le_mul_of_nonneg_right oM oM
    refine o_index_A 1 H x43 Z hchk30_0 underlying56 sizeOf3 Z Z Z Z aN aN ?_;intro _ _ _ hba44 hz44 hE44 _;cases hba44
    obtain⟨rfl,_⟩:=hE44
    have hcl45:=hchk30_0.length
    refine o_store_A 1 H sizeOf3 Z Z Z Z Z (by simp only[vc,List.length_cons,List.length_nil];omega) ?_;intro _ H
    have hchk45:=hchk30_0.put (x':=256) (off:=0) (vs:=[_]) hz44 (fun cs hl hE=>by obtain⟨rfl,_⟩:=hE;exact⟨rfl,oO⟩) (by simp only[vc,List.length_cons,List.length_nil];omega)
    refine R_nil (N_B (N_K (q2 (pe 2 Z (q3 (W_ret (rt1 results80 Z ?_)))))))
    have H:=H.tF 1
    have hcx:=hchk45
    exact H.retM ⟨_,(xs.set x43 256),_,_,oM,rfl,hcx,(by first|(simp;done)|(simp;omega)|(simp at *; omega)|omega),acc_1 aN⟩
   intro hc42'
   try simp only[nrm]at hc42'
   refine W_skip (N_B (N_K (q2 (pe 2 Z (q3 (W_ret (rt1 results80 Z ?_)))))))
   have H:=H.tF 1
   have hcx:=hchk30_0
   exact H.retM ⟨_,xs,_,_,oM,rfl,hcx,(by first|(simp;done)|(simp;omega)|(simp at *; omega)|omega),acc_1 aN⟩
  intro hc41'
  try simp only[nrm]at hc41'
  refine q2 (pe 2 Z (q3 ?_))
  refine W_cond Z ?_ ?_
  ·intro hc46
   try simp only[nrm]at hc46
   refine q2 (o_makeN (c:=33) (sz:=1) (bytes:=8) H underlying56 typeInfo3 ⟨_,Z,Z⟩ Z Z Z Z Z Z Z Z Z oM Z ?_);intro _ _ H
   have hchk47:=Chk.rep (E:=intE) (sz:=1) (G:=G40) (x0:=0) (⟨rfl,by decide⟩) rfl (33)
   refine aG Z (q3 (W_ret (N_B_ret (N_K_ret (rt1 results80 Z ?_)))))
   have H:=H.dl 2
   have H:=H.tF 1
   have H:=H.tF 1
   have hcx:=hchk47
   exact H.retM ⟨_,(List.replicate (33) 0),_,_,oM,rfl,hcx,(by first|(simp;done)|(simp;omega)|(simp at *; omega)|omega),acc_1 aN⟩
  intro hc46'
  try simp only[nrm]at hc46'
  refine W_skip (N_B (N_K (q2 (pe 2 Z (q3 (W_ret (rt1 results80 Z ?_)))))))
  have H:=H.tF 1
  have hcx:=hchk30_0
  exact H.retM ⟨_,xs,_,_,oM,rfl,hcx,(by first|(simp;done)|(simp;omega)|(simp at *; omega)|omega),acc_1 aN⟩
theorem l91Step_c (w0:World)(G0:PH)(hG:PSub G0 w0)(rb:Nat)(ab:Option Addr)(mb kb:Nat)(bs:List UInt8)(p:Nat)(hbs:RdU G0 (.slice ab mb kb) bs)(hrb:w0.heap[rb]? = some (cl [.slice ab mb kb,.int .i64 (p:Int)] 88))(hrn:G0 rb=none)(hp:p≤100000000)(cu:List Value)(u:BVol)(hu:volE G0 u cu) :
  Calls Tryz.prog 76 #[.pointer (some ⟨rb,0,none⟩),.agg cu.toArray] w0 (RetM w0 G0 [rb] (fun G val Bs=>∃(p':Nat) (v1 v2:Value) (st:List BHeld) (tr:List BItem) (b:Bool) (c:List Value),p'≤p+200∧val= .tuple #[.agg #[v1,v2],.bool b]∧Chk heldE 3 G c st∧st.length≤16∧RdItems G v2 tr∧Bs=[acc 134 3 v1 st.length c,blk rb (cl [.slice ab mb kb,.int .i64 (p':Int)] 88)])):=by
 have hlimbs:bs.length≤1099511627776:=hbs.lim;obtain rfl:mb=bs.length:=hbs.len
 obtain⟨_,_,_,_,_,_,rfl,hr1,hr1',⟨_,_⟩,_,_⟩:=ox hu
 have H:=Hp.initM hG hrb hrn
 refine calls_of_W (l:=[.pointer (some ⟨rb,0,none⟩),_]) func76 Z ntmps76 Z (q2 (o_box H Z Z Z ?_));intro _ _ _ H
 refine xal H Z ?_;intro _ _ _ H
 refine aG Z (q3 (W_seq (q2 (mV Z (xc Z2 (pick_c _ _ H.sub _ _ _ _ _ _ hbs (H.blkIs (k:=2) Z).1 (H.blkIs (k:=2) Z).2 oM _ oO) ?_)))))
 rintro _ _ ⟨G4,_,_,rfl,H4',⟨_,_,_,rfl,_,rfl⟩⟩
 have hbs:=hbs.up H4'.le
 have hr1:=hr1.up H4'.le
 have hr1':=hr1'.up H4'.le
 have H:=H.borrow (k:=2) rfl H4'
 refine⟨_,Z,?_⟩
 refine q3 (W_block (W_seq (q2 (pe 2 Z (q3 ?_)))))
 refine W_cond Z ?_ ?_
 ·intro hc5
  try simp only[nrm]at hc5
  refine W_skip (N_K ?_)
  refine W_cond Z ?_ ?_
  ·intro hc6
   try simp only[nrm]at hc6
   refine W_seq (W_drawK [2] 9 H kR Z ?_);intro _ H;have hd7:=PLe.refl G4
   refine RD_t 0 Z kR Z (fun _ hK=>v_loadagg_B 0 hK isAgg90 sizeOf90 Z Z Z Z) (dE 1 Z2 (r1 2 Z (xbs H Z7 ?_)));intro _ _ _ H
   refine q4 H hd7 (r1 3 Z ?_)
   have H:=H.blkAcc 1 (k:=0) (n:=3) rfl rfl (by decide)
   have hchk10:=((((Chk.nil (E:=strE) (sz:=1) (G:=G4)).snoc (show strE _ ([97]:Fw.Bs) [str [97]] from⟨rfl,by decide⟩) rfl).snoc (show strE _ ([98]:Fw.Bs) [str [98]] from⟨rfl,by decide⟩) rfl).snoc (show strE _ ([97,47,120]:Fw.Bs) [str [97,47,120]] from⟨rfl,by decide⟩) rfl)
   obtain⟨_,H,hsg11,hsr11⟩:=H.shutM (k:=0) (j:=0) rfl rfl hchk10 aN aN
   have hbs:=hbs.up hsg11
   have hr1:=hr1.up hsg11
   have hr1':=hr1'.up hsg11
   have hd7:=hd7.trans hsg11
   refine xc Z2 (of_c _ _ H.sub _ _ _ _ _ _ hbs (H.blkIs (k:=0) Z).1 (H.blkIs (k:=0) Z).2 oM _ _ hsr11 (by first|decide|(simp;done)|(simp;omega))) ?_
   rintro _ _ ⟨_,_,_,rfl,H9',⟨_,_,_,rfl,hxs9,rfl⟩⟩
   have hr1:=hr1.up H9'.le
   have hr1':=hr1'.up H9'.le
   have hd7:=hd7.trans H9'.le
   have H:=H.borrow (k:=0) rfl H9'
   refine⟨_,Z,?_⟩
   refine q4 H hd7 (r1 4 Z (xc Z2 (VolumeDir_c _ _ H.sub _ u ⟨_,_,_,_,_,_,Z,hr1,hr1'⟩ _ hxs9) ?_))
   rintro _ _ ⟨_,_,_,g12,rfl,⟨_,_,rfl,⟨_,rfl,hchk12⟩,hr12_1⟩,hp12,hq12,hs12⟩
   have H:=H.growO g12 hp12 hq12 hs12;obtain⟨_,_,rfl⟩:=H.accShape (k:=0) rfl
   have hd7:=hd7.trans g12.le
   obtain⟨_,_,rfl⟩:=hr12_1.shape;have hx_hr12_1:_≤1099511627776:=hr12_1.lim
   refine⟨_,Z,?_⟩
   refine q4 H hd7 (dE 5 Z2 (dE 6 Z2 (r1 7 Z (xst 2 H Z8 ?_))));intro _ H
   refine q4 H hd7 (dE 8 Z2 (rz (N_K (W_ret (N_B_ret (N_K_ret (ret_gen (rs:=[.cell 4 90,.tmp 5]) (vs:=[_,_]) results76 ⟨⟨_,Z,load_blk 2 H isAgg90 sizeOf90 Z Z Z⟩,Z,trivial⟩ ?_)))))))
   have H:=H.sel [0,1] rfl
   exact H.retM ⟨_,_,_,_,_,_,_,oM,Z,hchk12,Sp.vol_len (fun u2 h2=>Sp.dir_valid h2),hr12_1,acc_1 Z⟩
  intro hc6'
  try simp only[nrm]at hc6'
  refine q2 (pe 2 Z (q3 ?_))
  refine W_cond Z ?_ ?_
  ·intro hc14
   try simp only[nrm]at hc14
   refine W_seq (W_drawK [2] 8 H kR Z ?_);intro _ H;have hd15:=PLe.refl G4
   refine RD_t 0 Z kR Z (fun _ hK=>v_loadagg_B 0 hK isAgg90 sizeOf90 Z Z Z Z) (dE 1 Z2 (r1 2 Z (xc Z2 (l91Path_c _ _ H.sub _ _ _ _ _ _ hbs (H.blkIs (k:=0) Z).1 (H.blkIs (k:=0) Z).2 oM) ?_)))
   rintro _ _ ⟨_,_,_,rfl,H16',⟨_,_,_,rfl,hxs16,rfl⟩⟩
   have hr1:=hr1.up H16'.le
   have hr1':=hr1'.up H16'.le
   have hd15:=hd15.trans H16'.le
   have H:=H.borrow (k:=0) rfl H16'
   refine⟨_,Z,?_⟩
   refine q4 H hd15 (r1 3 Z (xc Z2 (VolumeDrop_c _ _ H.sub _ u ⟨_,_,_,_,_,_,Z,hr1,hr1'⟩ _ hxs16) ?_))
   rintro _ _ ⟨_,_,_,g17,rfl,⟨_,_,rfl,⟨_,rfl,hchk17⟩,hr17_1⟩,hp17,hq17,hs17⟩
   have H:=H.growO g17 hp17 hq17 hs17;obtain⟨_,_,rfl⟩:=H.accShape (k:=0) rfl
   have hd15:=hd15.trans g17.le
   obtain⟨_,_,rfl⟩:=hr17_1.shape;have hx_hr17_1:_≤1099511627776:=hr17_1.lim
   refine⟨_,Z,?_⟩
   refine q4 H hd15 (dE 4 Z2 (dE 5 Z2 (r1 6 Z (xst 2 H Z8 ?_))));intro _ H
   refine q4 H hd15 (dE 7 Z2 (rz (N_K (W_ret (N_B_ret (N_K_ret (ret_gen (rs:=[.cell 4 90,.tmp 5]) (vs:=[_,_]) results76 ⟨⟨_,Z,load_blk 2 H isAgg90 sizeOf90 Z Z Z⟩,Z,trivial⟩ ?_)))))))
   have H:=H.sel [0,1] rfl
   exact H.retM ⟨_,_,_,_,_,_,_,oM,Z,hchk17,Sp.vol_len (fun u2 h2=>Sp.drop_valid h2),hr17_1,acc_1 Z⟩
  intro hc14'
  try simp only[nrm]at hc14'
  refine W_skip (N_B (N_K (q2 (mV Z (xbs H Z7 ?_)))));intro _ _ _ H
  have H:=H.blkAcc 1 (k:=0) (n:=5) rfl rfl (by decide)
  have hchk21:=((((((Chk.nil (E:=strE) (sz:=1) (G:=G4)).snoc (show strE _ ([99]:Fw.Bs) [str [99]] from⟨rfl,by decide⟩) rfl).snoc (show strE _ ([97,47,121]:Fw.Bs) [str [97,47,121]] from⟨rfl,by decide⟩) rfl).snoc (show strE _ ([98,47,120]:Fw.Bs) [str [98,47,120]] from⟨rfl,by decide⟩) rfl).snoc (show strE _ ([97,47,120,47,112]:Fw.Bs) [str [97,47,120,47,112]] from⟨rfl,by decide⟩) rfl).snoc (show strE _ ([100]:Fw.Bs) [str [100]] from⟨rfl,by decide⟩) rfl)
  obtain⟨_,H,hsg22,hsr22⟩:=H.shutM (k:=0) (j:=0) rfl rfl hchk21 aN aN
  have hbs:=hbs.up hsg22
  have hr1:=hr1.up hsg22
  have hr1':=hr1'.up hsg22
  refine xc Z2 (of_c _ _ H.sub _ _ _ _ _ _ hbs (H.blkIs (k:=0) Z).1 (H.blkIs (k:=0) Z).2 oM _ _ hsr22 (by first|decide|(simp;done)|(simp;omega))) ?_
  rintro _ _ ⟨G20,_,_,rfl,H20',⟨_,_,_,rfl,hxs20,rfl⟩⟩
  have hbs:=hbs.up H20'.le
  have hr1:=hr1.up H20'.le
  have hr1':=hr1'.up H20'.le
  have H:=H.borrow (k:=0) rfl H20'
  refine⟨_,Z,?_⟩
  refine aG Z (q3 (W_seq (W_drawK [2] 9 H kR Z ?_)));intro _ H;have hd23:=PLe.refl G20
  refine RD_t 0 Z kR Z (fun _ hK=>v_loadagg_B 0 hK isAgg90 sizeOf90 Z Z Z Z) (dE 1 Z2 (dE 2 Z2 (r1 3 Z (xc Z2 (l91File_c _ _ H.sub _ _ _ _ _ _ hbs (H.blkIs (k:=0) Z).1 (H.blkIs (k:=0) Z).2 oM) ?_))))
  rintro _ _ ⟨_,_,_,rfl,H24',⟨_,_,_,_,_,rfl,hchk24,_,rfl⟩⟩
  have hr1:=hr1.up H24'.le
  have hr1':=hr1'.up H24'.le
  have hd23:=hd23.trans H24'.le
  have H:=H.borrow (k:=0) rfl H24'
  obtain⟨_,_,rfl⟩:=H.accShape (k:=0) rfl
  refine⟨_,Z,?_⟩
  refine q4 H hd23 (r1 4 Z ?_)
  obtain⟨_,H,hsg26,hsr26⟩:=H.shutM (k:=0) (j:=0) rfl rfl hchk24 aN aN
  have hr1:=hr1.up hsg26
  have hr1':=hr1'.up hsg26
  have hd23:=hd23.trans hsg26
  refine xc Z2 (VolumeWrite_c _ _ H.sub _ u ⟨_,_,_,_,_,_,Z,hr1,hr1'⟩ _ hxs20 _ _ hsr26) ?_
  rintro _ _ ⟨_,_,_,g25,rfl,⟨_,_,rfl,⟨_,rfl,hchk25⟩,hr25_1⟩,hp25,hq25,hs25⟩
  have H:=H.growO g25 hp25 hq25 hs25;obtain⟨_,_,rfl⟩:=H.accShape (k:=0) rfl
  have hd23:=hd23.trans g25.le
  obtain⟨_,_,rfl⟩:=hr25_1.shape;have hx_hr25_1:_≤1099511627776:=hr25_1.lim
  refine⟨_,Z,?_⟩
  refine q4 H hd23 (dE 5 Z2 (dE 6 Z2 (r1 7 Z (xst 2 H Z8 ?_))));intro _ H
  refine q4 H hd23 (dE 8 Z2 (rz (N_K (W_ret (ret_gen (rs:=[.cell 4 90,.tmp 5]) (vs:=[_,_]) results76 ⟨⟨_,Z,load_blk 2 H isAgg90 sizeOf90 Z Z Z⟩,Z,trivial⟩ ?_)))))
  have H:=H.sel [0,1] rfl
  exact H.retM ⟨_,_,_,_,_,_,_,oM,Z,hchk25,Sp.vol_len (fun u2 h2=>Sp.vwrite_valid h2),hr25_1,acc_1 Z⟩
 intro hc5'
 try simp only[nrm]at hc5'
 refine q2 (pe 2 Z (q3 ?_))
 refine W_cond Z ?_ ?_
 ·intro hc28
  try simp only[nrm]at hc28
  refine W_skip (N_K ?_)
  refine W_cond Z ?_ ?_
  ·intro hc29
   try simp only[nrm]at hc29
   refine W_seq (W_drawK [2] 9 H kR Z ?_);intro _ H;have hd30:=PLe.refl G4
   refine RD_t 0 Z kR Z (fun _ hK=>v_loadagg_B 0 hK isAgg90 sizeOf90 Z Z Z Z) (dE 1 Z2 (r1 2 Z (xbs H Z7 ?_)));intro _ _ _ H
   refine q4 H hd30 (r1 3 Z ?_)
   have H:=H.blkAcc 1 (k:=0) (n:=3) rfl rfl (by decide)
   have hchk33:=((((Chk.nil (E:=strE) (sz:=1) (G:=G4)).snoc (show strE _ ([97]:Fw.Bs) [str [97]] from⟨rfl,by decide⟩) rfl).snoc (show strE _ ([98]:Fw.Bs) [str [98]] from⟨rfl,by decide⟩) rfl).snoc (show strE _ ([97,47,120]:Fw.Bs) [str [97,47,120]] from⟨rfl,by decide⟩) rfl)
   obtain⟨_,H,hsg34,hsr34⟩:=H.shutM (k:=0) (j:=0) rfl rfl hchk33 aN aN
   have hbs:=hbs.up hsg34
   have hr1:=hr1.up hsg34
   have hr1':=hr1'.up hsg34
   have hd30:=hd30.trans hsg34
   refine xc Z2 (of_c _ _ H.sub _ _ _ _ _ _ hbs (H.blkIs (k:=0) Z).1 (H.blkIs (k:=0) Z).2 oM _ _ hsr34 (by first|decide|(simp;done)|(simp;omega))) ?_
   rintro _ _ ⟨_,_,_,rfl,H32',⟨_,_,_,rfl,hxs32,rfl⟩⟩
   have hr1:=hr1.up H32'.le
   have hr1':=hr1'.up H32'.le
   have hd30:=hd30.trans H32'.le
   have H:=H.borrow (k:=0) rfl H32'
   refine⟨_,Z,?_⟩
   refine q4 H hd30 (r1 4 Z (xc Z2 (VolumeDir_c _ _ H.sub _ u ⟨_,_,_,_,_,_,Z,hr1,hr1'⟩ _ hxs32) ?_))
   rintro _ _ ⟨_,_,_,g35,rfl,⟨_,_,rfl,⟨_,rfl,hchk35⟩,hr35_1⟩,hp35,hq35,hs35⟩
   have H:=H.growO g35 hp35 hq35 hs35;obtain⟨_,_,rfl⟩:=H.accShape (k:=0) rfl
   have hd30:=hd30.trans g35.le
   obtain⟨_,_,rfl⟩:=hr35_1.shape;have hx_hr35_1:_≤1099511627776:=hr35_1.lim
   refine⟨_,Z,?_⟩
   refine q4 H hd30 (dE 5 Z2 (dE 6 Z2 (r1 7 Z (xst 2 H Z8 ?_))));intro _ H
   refine q4 H hd30 (dE 8 Z2 (rz (N_K (W_ret (N_B_ret (N_K_ret (ret_gen (rs:=[.cell 4 90,.tmp 5]) (vs:=[_,_]) results76 ⟨⟨_,Z,load_blk 2 H isAgg90 sizeOf90 Z Z Z⟩,Z,trivial⟩ ?_)))))))
   have H:=H.sel [0,1] rfl
   exact H.retM ⟨_,_,_,_,_,_,_,oM,Z,hchk35,Sp.vol_len (fun u2 h2=>Sp.dir_valid h2),hr35_1,acc_1 Z⟩
  intro hc29'
  try simp only[nrm]at hc29'
  refine q2 (pe 2 Z (q3 ?_))
  refine W_cond Z ?_ ?_
  ·intro hc37
   try simp only[nrm]at hc37
   refine W_seq (W_drawK [2] 8 H kR Z ?_);intro _ H;have hd38:=PLe.refl G4
   refine RD_t 0 Z kR Z (fun _ hK=>v_loadagg_B 0 hK isAgg90 sizeOf90 Z Z Z Z) (dE 1 Z2 (r1 2 Z (xc Z2 (l91Path_c _ _ H.sub _ _ _ _ _ _ hbs (H.blkIs (k:=0) Z).1 (H.blkIs (k:=0) Z).2 oM) ?_)))
   rintro _ _ ⟨_,_,_,rfl,H39',⟨_,_,_,rfl,hxs39,rfl⟩⟩
   have hr1:=hr1.up H39'.le
   have hr1':=hr1'.up H39'.le
   have hd38:=hd38.trans H39'.le
   have H:=H.borrow (k:=0) rfl H39'
   refine⟨_,Z,?_⟩
   refine q4 H hd38 (r1 3 Z (xc Z2 (VolumeDrop_c _ _ H.sub _ u ⟨_,_,_,_,_,_,Z,hr1,hr1'⟩ _ hxs39) ?_))
   rintro _ _ ⟨_,_,_,g40,rfl,⟨_,_,rfl,⟨_,rfl,hchk40⟩,hr40_1⟩,hp40,hq40,hs40⟩
   have H:=H.growO g40 hp40 hq40 hs40;obtain⟨_,_,rfl⟩:=H.accShape (k:=0) rfl
   have hd38:=hd38.trans g40.le
   obtain⟨_,_,rfl⟩:=hr40_1.shape;have hx_hr40_1:_≤1099511627776:=hr40_1.lim
   refine⟨_,Z,?_⟩
   refine q4 H hd38 (dE 4 Z2 (dE 5 Z2 (r1 6 Z (xst 2 H Z8 ?_))));intro _ H
   refine q4 H hd38 (dE 7 Z2 (rz (N_K (W_ret (N_B_ret (N_K_ret (ret_gen (rs:=[.cell 4 90,.tmp 5]) (vs:=[_,_]) results76 ⟨⟨_,Z,load_blk 2 H isAgg90 sizeOf90 Z Z Z⟩,Z,trivial⟩ ?_)))))))
   have H:=H.sel [0,1] rfl
   exact H.retM ⟨_,_,_,_,_,_,_,oM,Z,hchk40,Sp.vol_len (fun u2 h2=>Sp.drop_valid h2),hr40_1,acc_1 Z⟩
  intro hc37'
  try simp only[nrm]at hc37'
  refine W_skip (N_B (N_K (q2 (mV Z (xbs H Z7 ?_)))));intro _ _ _ H
  have H:=H.blkAcc 1 (k:=0) (n:=5) rfl rfl (by decide)
  have hchk44:=((((((Chk.nil (E:=strE) (sz:=1) (G:=G4)).snoc (show strE _ ([99]:Fw.Bs) [str [99]] from⟨rfl,by decide⟩) rfl).snoc (show strE _ ([97,47,121]:Fw.Bs) [str [97,47,121]] from⟨rfl,by decide⟩) rfl).snoc (show strE _ ([98,47,120]:Fw.Bs) [str [98,47,120]] from⟨rfl,by decide⟩) rfl).snoc (show strE _ ([97,47,120,47,112]:Fw.Bs) [str [97,47,120,47,112]] from⟨rfl,by decide⟩) rfl).snoc (show strE _ ([100]:Fw.Bs) [str [100]] from⟨rfl,by decide⟩) rfl)
  obtain⟨_,H,hsg45,hsr45⟩:=H.shutM (k:=0) (j:=0) rfl rfl hchk44 aN aN
  have hbs:=hbs.up hsg45
  have hr1:=hr1.up hsg45
  have hr1':=hr1'.up hsg45
  refine xc Z2 (of_c _ _ H.sub _ _ _ _ _ _ hbs (H.blkIs (k:=0) Z).1 (H.blkIs (k:=0) Z).2 oM _ _ hsr45 (by first|decide|(simp;done)|(simp;omega))) ?_
  rintro _ _ ⟨G43,_,_,rfl,H43',⟨_,_,_,rfl,hxs43,rfl⟩⟩
  have hbs:=hbs.up H43'.le
  have hr1:=hr1.up H43'.le
  have hr1':=hr1'.up H43'.le
  have H:=H.borrow (k:=0) rfl H43'
  refine⟨_,Z,?_⟩
  refine aG Z (q3 (W_seq (W_drawK [2] 9 H kR Z ?_)));intro _ H;have hd46:=PLe.refl G43
  refine RD_t 0 Z kR Z (fun _ hK=>v_loadagg_B 0 hK isAgg90 sizeOf90 Z Z Z Z) (dE 1 Z2 (dE 2 Z2 (r1 3 Z (xc Z2 (l91File_c _ _ H.sub _ _ _ _ _ _ hbs (H.blkIs (k:=0) Z).1 (H.blkIs (k:=0) Z).2 oM) ?_))))
  rintro _ _ ⟨_,_,_,rfl,H47',⟨_,_,_,_,_,rfl,hchk47,_,rfl⟩⟩
  have hr1:=hr1.up H47'.le
  have hr1':=hr1'.up H47'.le
  have hd46:=hd46.trans H47'.le
  have H:=H.borrow (k:=0) rfl H47'
  obtain⟨_,_,rfl⟩:=H.accShape (k:=0) rfl
  refine⟨_,Z,?_⟩
  refine q4 H hd46 (r1 4 Z ?_)
  obtain⟨_,H,hsg49,hsr49⟩:=H.shutM (k:=0) (j:=0) rfl rfl hchk47 aN aN
  have hr1:=hr1.up hsg49
  have hr1':=hr1'.up hsg49
  have hd46:=hd46.trans hsg49
  refine xc Z2 (VolumeWrite_c _ _ H.sub _ u ⟨_,_,_,_,_,_,Z,hr1,hr1'⟩ _ hxs43 _ _ hsr49) ?_
  rintro _ _ ⟨_,_,_,g48,rfl,⟨_,_,rfl,⟨_,rfl,hchk48⟩,hr48_1⟩,hp48,hq48,hs48⟩
  have H:=H.growO g48 hp48 hq48 hs48;obtain⟨_,_,rfl⟩:=H.accShape (k:=0) rfl
  have hd46:=hd46.trans g48.le
  obtain⟨_,_,rfl⟩:=hr48_1.shape;have hx_hr48_1:_≤1099511627776:=hr48_1.lim
  refine⟨_,Z,?_⟩
  refine q4 H hd46 (dE 5 Z2 (dE 6 Z2 (r1 7 Z (xst 2 H Z8 ?_))));intro _ H
  refine q4 H hd46 (dE 8 Z2 (rz (N_K (W_ret (ret_gen (rs:=[.cell 4 90,.tmp 5]) (vs:=[_,_]) results76 ⟨⟨_,Z,load_blk 2 H isAgg90 sizeOf90 Z Z Z⟩,Z,trivial⟩ ?_)))))
  have H:=H.sel [0,1] rfl
  exact H.retM ⟨_,_,_,_,_,_,_,oM,Z,hchk48,Sp.vol_len (fun u2 h2=>Sp.vwrite_valid h2),hr48_1,acc_1 Z⟩
 intro hc28'
 try simp only[nrm]at hc28'
 refine W_region (pe 2 Z (q3 ?_))
 refine W_cond Z ?_ ?_
 ·intro hc51
  try simp only[nrm]at hc51
  refine W_seq (W_drawK [2] 9 H kR Z ?_);intro _ H;have hd52:=PLe.refl G4
  refine RD_t 0 Z kR Z (fun _ hK=>v_loadagg_B 0 hK isAgg90 sizeOf90 Z Z Z Z) (dE 1 Z2 (r1 2 Z (xbs H Z7 ?_)));intro _ _ _ H
  refine q4 H hd52 (r1 3 Z ?_)
  have H:=H.blkAcc 1 (k:=0) (n:=3) rfl rfl (by decide)
  have hchk55:=((((Chk.nil (E:=strE) (sz:=1) (G:=G4)).snoc (show strE _ ([97]:Fw.Bs) [str [97]] from⟨rfl,by decide⟩) rfl).snoc (show strE _ ([98]:Fw.Bs) [str [98]] from⟨rfl,by decide⟩) rfl).snoc (show strE _ ([97,47,120]:Fw.Bs) [str [97,47,120]] from⟨rfl,by decide⟩) rfl)
  obtain⟨_,H,hsg56,hsr56⟩:=H.shutM (k:=0) (j:=0) rfl rfl hchk55 aN aN
  have hbs:=hbs.up hsg56
  have hr1:=hr1.up hsg56
  have hr1':=hr1'.up hsg56
  have hd52:=hd52.trans hsg56
  refine xc Z2 (of_c _ _ H.sub _ _ _ _ _ _ hbs (H.blkIs (k:=0) Z).1 (H.blkIs (k:=0) Z).2 oM _ _ hsr56 (by first|decide|(simp;done)|(simp;omega))) ?_
  rintro _ _ ⟨_,_,_,rfl,H54',⟨_,_,_,rfl,hxs54,rfl⟩⟩
  have hr1:=hr1.up H54'.le
  have hr1':=hr1'.up H54'.le
  have hd52:=hd52.trans H54'.le
  have H:=H.borrow (k:=0) rfl H54'
  refine⟨_,Z,?_⟩
  refine q4 H hd52 (r1 4 Z (xc Z2 (VolumeDir_c _ _ H.sub _ u ⟨_,_,_,_,_,_,Z,hr1,hr1'⟩ _ hxs54) ?_))
  rintro _ _ ⟨_,_,_,g57,rfl,⟨_,_,rfl,⟨_,rfl,hchk57⟩,hr57_1⟩,hp57,hq57,hs57⟩
  have H:=H.growO g57 hp57 hq57 hs57;obtain⟨_,_,rfl⟩:=H.accShape (k:=0) rfl
  have hd52:=hd52.trans g57.le
  obtain⟨_,_,rfl⟩:=hr57_1.shape;have hx_hr57_1:_≤1099511627776:=hr57_1.lim
  refine⟨_,Z,?_⟩
  refine q4 H hd52 (dE 5 Z2 (dE 6 Z2 (r1 7 Z (xst 2 H Z8 ?_))));intro _ H
  refine q4 H hd52 (dE 8 Z2 (rz (N_K (W_ret (N_B_ret (N_K_ret (ret_gen (rs:=[.cell 4 90,.tmp 5]) (vs:=[_,_]) results76 ⟨⟨_,Z,load_blk 2 H isAgg90 sizeOf90 Z Z Z⟩,Z,trivial⟩ ?_)))))))
  have H:=H.sel [0,1] rfl
  exact H.retM ⟨_,_,_,_,_,_,_,oM,Z,hchk57,Sp.vol_len (fun u2 h2=>Sp.dir_valid h2),hr57_1,acc_1 Z⟩
 intro hc51'
 try simp only[nrm]at hc51'
 refine q2 (pe 2 Z (q3 ?_))
 refine W_cond Z ?_ ?_
 ·intro hc59
  try simp only[nrm]at hc59
  refine W_seq (W_drawK [2] 8 H kR Z ?_);intro _ H;have hd60:=PLe.refl G4
  refine RD_t 0 Z kR Z (fun _ hK=>v_loadagg_B 0 hK isAgg90 sizeOf90 Z Z Z Z) (dE 1 Z2 (r1 2 Z (xc Z2 (l91Path_c _ _ H.sub _ _ _ _ _ _ hbs (H.blkIs (k:=0) Z).1 (H.blkIs (k:=0) Z).2 oM) ?_)))
  rintro _ _ ⟨_,_,_,rfl,H61',⟨_,_,_,rfl,hxs61,rfl⟩⟩
  have hr1:=hr1.up H61'.le
  have hr1':=hr1'.up H61'.le
  have hd60:=hd60.trans H61'.le
  have H:=H.borrow (k:=0) rfl H61'
  refine⟨_,Z,?_⟩
  refine q4 H hd60 (r1 3 Z (xc Z2 (VolumeDrop_c _ _ H.sub _ u ⟨_,_,_,_,_,_,Z,hr1,hr1'⟩ _ hxs61) ?_))
  rintro _ _ ⟨_,_,_,g62,rfl,⟨_,_,rfl,⟨_,rfl,hchk62⟩,hr62_1⟩,hp62,hq62,hs62⟩
  have H:=H.growO g62 hp62 hq62 hs62;obtain⟨_,_,rfl⟩:=H.accShape (k:=0) rfl
  have hd60:=hd60.trans g62.le
  obtain⟨_,_,rfl⟩:=hr62_1.shape;have hx_hr62_1:_≤1099511627776:=hr62_1.lim
  refine⟨_,Z,?_⟩
  refine q4 H hd60 (dE 4 Z2 (dE 5 Z2 (r1 6 Z (xst 2 H Z8 ?_))));intro _ H
  refine q4 H hd60 (dE 7 Z2 (rz (N_K (W_ret (N_B_ret (N_K_ret (ret_gen (rs:=[.cell 4 90,.tmp 5]) (vs:=[_,_]) results76 ⟨⟨_,Z,load_blk 2 H isAgg90 sizeOf90 Z Z Z⟩,Z,trivial⟩ ?_)))))))
  have H:=H.sel [0,1] rfl
  exact H.retM ⟨_,_,_,_,_,_,_,oM,Z,hchk62,Sp.vol_len (fun u2 h2=>Sp.drop_valid h2),hr62_1,acc_1 Z⟩
 intro hc59'
 try simp only[nrm]at hc59'
 refine W_skip (N_B (N_K (q2 (mV Z (xbs H Z7 ?_)))));intro _ _ _ H
 have H:=H.blkAcc 1 (k:=0) (n:=5) rfl rfl (by decide)
 have hchk66:=((((((Chk.nil (E:=strE) (sz:=1) (G:=G4)).snoc (show strE _ ([99]:Fw.Bs) [str [99]] from⟨rfl,by decide⟩) rfl).snoc (show strE _ ([97,47,121]:Fw.Bs) [str [97,47,121]] from⟨rfl,by decide⟩) rfl).snoc (show strE _ ([98,47,120]:Fw.Bs) [str [98,47,120]] from⟨rfl,by decide⟩) rfl).snoc (show strE _ ([97,47,120,47,112]:Fw.Bs) [str [97,47,120,47,112]] from⟨rfl,by decide⟩) rfl).snoc (show strE _ ([100]:Fw.Bs) [str [100]] from⟨rfl,by decide⟩) rfl)
 obtain⟨_,H,hsg67,hsr67⟩:=H.shutM (k:=0) (j:=0) rfl rfl hchk66 aN aN
 have hbs:=hbs.up hsg67
 have hr1:=hr1.up hsg67
 have hr1':=hr1'.up hsg67
 refine xc Z2 (of_c _ _ H.sub _ _ _ _ _ _ hbs (H.blkIs (k:=0) Z).1 (H.blkIs (k:=0) Z).2 oM _ _ hsr67 (by first|decide|(simp;done)|(simp;omega))) ?_
 rintro _ _ ⟨G65,_,_,rfl,H65',⟨_,_,_,rfl,hxs65,rfl⟩⟩
 have hbs:=hbs.up H65'.le
 have hr1:=hr1.up H65'.le
 have hr1':=hr1'.up H65'.le
 have H:=H.borrow (k:=0) rfl H65'
 refine⟨_,Z,?_⟩
 refine aG Z (q3 (W_seq (W_drawK [2] 9 H kR Z ?_)));intro _ H;have hd68:=PLe.refl G65
 refine RD_t 0 Z kR Z (fun _ hK=>v_loadagg_B 0 hK isAgg90 sizeOf90 Z Z Z Z) (dE 1 Z2 (dE 2 Z2 (r1 3 Z (xc Z2 (l91File_c _ _ H.sub _ _ _ _ _ _ hbs (H.blkIs (k:=0) Z).1 (H.blkIs (k:=0) Z).2 oM) ?_))))
 rintro _ _ ⟨_,_,_,rfl,H69',⟨_,_,_,_,_,rfl,hchk69,_,rfl⟩⟩
 have hr1:=hr1.up H69'.le
 have hr1':=hr1'.up H69'.le
 have hd68:=hd68.trans H69'.le
 have H:=H.borrow (k:=0) rfl H69'
 obtain⟨_,_,rfl⟩:=H.accShape (k:=0) rfl
 refine⟨_,Z,?_⟩
 refine q4 H hd68 (r1 4 Z ?_)
 obtain⟨_,H,hsg71,hsr71⟩:=H.shutM (k:=0) (j:=0) rfl rfl hchk69 aN aN
 have hr1:=hr1.up hsg71
 have hr1':=hr1'.up hsg71
 have hd68:=hd68.trans hsg71
 refine xc Z2 (VolumeWrite_c _ _ H.sub _ u ⟨_,_,_,_,_,_,Z,hr1,hr1'⟩ _ hxs65 _ _ hsr71) ?_
 rintro _ _ ⟨_,_,_,g70,rfl,⟨_,_,rfl,⟨_,rfl,hchk70⟩,hr70_1⟩,hp70,hq70,hs70⟩
 have H:=H.growO g70 hp70 hq70 hs70;obtain⟨_,_,rfl⟩:=H.accShape (k:=0) rfl
 have hd68:=hd68.trans g70.le
 obtain⟨_,_,rfl⟩:=hr70_1.shape;have hx_hr70_1:_≤1099511627776:=hr70_1.lim
 refine⟨_,Z,?_⟩
 refine q4 H hd68 (dE 5 Z2 (dE 6 Z2 (r1 7 Z (xst 2 H Z8 ?_))));intro _ H
 refine q4 H hd68 (dE 8 Z2 (rz (N_K (W_ret (ret_gen (rs:=[.cell 4 90,.tmp 5]) (vs:=[_,_]) results76 ⟨⟨_,Z,load_blk 2 H isAgg90 sizeOf90 Z Z Z⟩,Z,trivial⟩ ?_)))))
 have H:=H.sel [0,1] rfl
 exact H.retM ⟨_,_,_,_,_,_,_,oM,Z,hchk70,Sp.vol_len (fun u2 h2=>Sp.vwrite_valid h2),hr70_1,acc_1 Z⟩
theorem l91Volume_c (w0:World)(G0:PH)(hG:PSub G0 w0)(rb:Nat)(ab:Option Addr)(mb kb:Nat)(bs:List UInt8)(p:Nat)(hbs:RdU G0 (.slice ab mb kb) bs)(hrb:w0.heap[rb]? = some (cl [.slice ab mb kb,.int .i64 (p:Int)] 88))(hrn:G0 rb=none)(hp:p≤10000000) :
  Calls Tryz.prog 41 #[.pointer (some ⟨rb,0,none⟩)] w0 (RetM w0 G0 [rb] (fun G val Bs=>∃(p':Nat) (v1 v2:Value) (st:List BHeld) (tr:List BItem),p'≤p+3000∧val= .agg #[v1,v2]∧RdH G v1 st∧RdItems G v2 tr∧Bs=[blk rb (cl [.slice ab mb kb,.int .i64 (p':Int)] 88)])):=by
 have hlimbs:bs.length≤1099511627776:=hbs.lim;obtain rfl:mb=bs.length:=hbs.len
 have H:=Hp.initM hG hrb hrn
 refine calls_of_W (l:=[.pointer (some ⟨rb,0,none⟩)]) func41 Z ntmps41 Z (q2 (xal H Z ?_));intro b1 _ _ H
 refine q1 (o_build bf90 Z Z Z (xal H Z ?_));intro b2 _ _ H
 refine xst 0 H Z8 ?_;intro _ H
 refine q1 (mV Z (xc Z2 (pick_c _ _ H.sub _ _ _ _ _ _ hbs (H.blkIs (k:=2) Z).1 (H.blkIs (k:=2) Z).2 oM _ oO) ?_))
 rintro _ _ ⟨G4,_,_,rfl,H4',⟨p4,_,_,rfl,_,rfl⟩⟩
 have hbs:=hbs.up H4'.le
 have H:=H.borrow (k:=2) rfl H4'
 refine⟨_,Z,?_⟩
 refine aD Z2 (aG Z (q3 (W_seq (q2 (aG Z (q3 (W_block ?_)))))))
 obtain⟨ln6,hln6,H⟩:=H.name (k:=2) rfl
 refine W_lp (hf:=(Sub.cons (t:=0) Z (Sub.cons (t:=2) Z (Sub.cons (t:=3) Z (Sub.cons (t:=4) Z Sub.nil))))) (J:=fun M w m=>∃(k:Nat) (va vb:Value) (st:List BHeld) (tr:List BItem) (pp:Nat) (G:PH),M=[(5,.int .i64 (k:Int))]∧PLe G4 G∧Hp w0 G0 [rb] w G [blk rb (cl [.slice ab bs.length kb,.int .i64 (pp:Int)] 88),blk b2 (cl [va,vb] 90),blk b1 (cl ln6 90)]∧(k≤8∧pp≤p+100+201*k∧RdH G va st∧RdItems G vb tr∧Mine w0 G va)∧m=(8-k)) (h0:=⟨0,.slice none 0 0,.slice none 0 0,[],[],p4,_,Z,PLe.refl _,H,?inv,Z⟩) (round:=?round)
 case inv=>exact⟨by omega,by omega,RdS.nil _ _ _,RdS.nil _ _ _,Mine.nil⟩
 case round =>
  rintro _ _ _ ⟨k,va,vb,st,tr,pp,_,rfl,hle7,H,hinv7,rfl⟩
  subst hln6
  have hbs:=hbs.up hle7
  obtain⟨_,_,hst,htr,hmine⟩:=hinv7;obtain⟨_,_,rfl⟩:=hst.shape;obtain⟨_,_,rfl⟩:=htr.shape;have hlst:_≤1099511627776:=hst.lim;have hltr:_≤1099511627776:=htr.lim
  refine W_seq (q2 (pe 3 Z (q3 ?_)))
  refine W_cond Z ?_ ?_
  ·intro hc8
   try simp only[nrm]at hc8
   refine W_skip (N_K (W_seq (W_block (q2 (mV Z (lA 1 2 H Z4 (xc Z2 (l91Step_c _ _ H.sub _ _ _ _ _ _ hbs (H.blkIs (k:=0) Z).1 (H.blkIs (k:=0) Z).2 oM _ ⟨st,tr⟩ ⟨_,_,_,_,_,_,Z,hst,htr⟩) ?_)))))))
   rintro _ _ ⟨_,_,_,rfl,H9',⟨p9,_,_,st9,tr9,_,_,_,rfl,hchk9,_,htr9,rfl⟩⟩
   have hst:=hst.up H9'.le
   have htr:=htr.up H9'.le
   have hmine:=hmine.up H9'.le
   have hle7:=hle7.trans H9'.le
   have H:=H.borrow (k:=0) rfl H9'
   obtain⟨_,_,rfl⟩:=H.accShape (k:=0) rfl
   obtain⟨_,_,rfl⟩:=htr9.shape;have hx_htr9:_≤1099511627776:=htr9.lim
   refine⟨_,Z,?_⟩
   refine pe 3 Z (xal H Z ?_);intro _ _ _ H
   refine xst 0 H Z8 ?_;intro _ H
   refine aG Z (q1 (mV Z (q3 ?_)))
   refine W_cond Z ?_ ?_
   ·intro hc12
    try simp only[nrm]at hc12
    refine W_region (lA 0 2 H Z4 (xst 3 H Z8 ?_));intro _ H
    refine R_nil (N_B (N_K (W_region (mV Z (aD Z2 (aG Z (R_nil ?_)))))))
    obtain⟨_,H,hsg15,hst15,hmine15⟩:=H.shutP (k:=1) (j:=1) rfl rfl hchk9 aN oM
    have htr9:=htr9.up hsg15
    have hle7:=hle7.trans hsg15
    have H:=H.sel [1,2,3] rfl
    refine N_lp (hJ:=⟨k+1,_,_,st9,tr9,p9,_,Z,hle7,H,?inv,Z⟩) (hm:=?hm)
    case hm=>omega
    case inv=>exact⟨by omega,by omega,hst15,htr9,hmine15⟩
   intro hc12'
   try simp only[nrm]at hc12'
   refine W_skip (N_B (N_K (W_region (mV Z (aD Z2 (aG Z (R_nil ?_)))))))
   have H:=H.sel [2,3,4] rfl
   refine N_lp (hJ:=⟨k+1,_,_,st,tr,p9,_,Z,hle7,H,?inv,Z⟩) (hm:=?hm)
   case hm=>omega
   case inv=>exact⟨by omega,by omega,hst,htr,hmine⟩
  intro hc8'
  try simp only[nrm]at hc8'
  refine W_exit (N_K_exit (N_LP_exit (N_B_same (N_K (W_seq (q2 (fA 0 Z (lB 1 H Z3 (lN Z (pe 2 Z ?_))))))))))
  refine R_case (t:=29) Z ?_ ?_
  ·intro hc17
   try simp only[nrm]at hc17
   refine pe 1 Z (gR Z (xc Z2 (pick_c _ _ H.sub _ _ _ _ _ _ hbs (H.blkIs (k:=0) Z).1 (H.blkIs (k:=0) Z).2 oM _ oO) ?_))
   rintro _ _ ⟨G18,_,_,rfl,H18',⟨_,_,_,rfl,_,rfl⟩⟩
   have hbs:=hbs.up H18'.le
   have hst:=hst.up H18'.le
   have htr:=htr.up H18'.le
   have hmine:=hmine.up H18'.le
   have H:=H.borrow (k:=0) rfl H18'
   refine⟨_,Z,?_⟩
   refine pe 2 Z (q3 ?_)
   refine W_cond Z ?_ ?_
   ·intro hc19
    try simp only[nrm]at hc19
    refine W_drawN [1,2] 10 H kR Z ?_;intro _ H;have hd20:=(PLe.none:PLe _ G18)
    refine dF 0 0 Z2 (dB 1 0 Z4 (dE 2 Z2 (dF 3 0 Z2 (dB 4 0 Z4 (dN 5 Z2 (r1 6 Z (xc Z2 (pick_c _ _ H.sub _ _ _ _ _ _ hbs (H.blkIs (k:=0) Z).1 (H.blkIs (k:=0) Z).2 oM _ oO) ?_)))))))
    rintro _ _ ⟨_,_,_,rfl,H21',⟨_,x21,_,rfl,_,rfl⟩⟩
    have hst:=hst.up H21'.le
    have htr:=htr.up H21'.le
    have hmine:=hmine.up H21'.le
    have hd20:=hd20.trans H21'.le
    have H:=H.borrow (k:=0) rfl H21'
    refine⟨_,Z,?_⟩
    refine q4 H hd20 ?_
    have hl22:=hst.len
    obtain⟨_,_,_,_,ha22,_,hq22,hE22,hrow22,_⟩:=hst.at (i:=x21) oM
    clear hq22
    obtain⟨_,_,_,rfl,_,_,_,_,_⟩:=ox hE22
    refine dI 7 3 x21 ha22 Z3 Z (dF 8 2 Z2 (r1 9 Z (o_store_mine H hG hmine ha22 sizeOf3 Z Z oO (hrow22 2 _ Z) hrb Z ?_)));intro _ G23 hgr23 H
    obtain⟨_,_,hst2⟩:=RdS.st hgr23 hst;obtain⟨_,_,htr2⟩:=RdS.st hgr23 htr
    have hd20:=(PLe.none:PLe (fun _=>none) G23)
    refine q4 H hd20 (rz (N_K (q2 (lA 1 2 H Z4 (xst 2 H Z8 ?_)))));intro _ H
    refine q3 (W_ret (ret_gen (rs:=[.cell 2 90]) (vs:=[_]) results41 ⟨⟨_,Z,load_blk 2 H isAgg90 sizeOf90 Z Z Z⟩,trivial⟩ ?_))
    have H:=H.dl 1
    have H:=H.dl 1
    exact H.retM ⟨_,_,_,_,_,oM,Z,hst2,htr2,Z⟩
   intro hc19'
   try simp only[nrm]at hc19'
   refine W_skip (N_K (q2 (lA 1 2 H Z4 (xst 2 H Z8 ?_))));intro _ H
   refine q3 (W_ret (ret_gen (rs:=[.cell 2 90]) (vs:=[_]) results41 ⟨⟨_,Z,load_blk 2 H isAgg90 sizeOf90 Z Z Z⟩,trivial⟩ ?_))
   have H:=H.dl 1
   have H:=H.dl 1
   exact H.retM ⟨_,_,_,_,_,oM,Z,hst,htr,Z⟩
  intro hc17'
  try simp only[nrm]at hc17'
  refine pe 4 Z (q3 (W_false Z (W_skip (N_K (q2 (lA 1 2 H Z4 (xst 2 H Z8 ?_)))))));intro _ H
  refine q3 (W_ret (ret_gen (rs:=[.cell 2 90]) (vs:=[_]) results41 ⟨⟨_,Z,load_blk 2 H isAgg90 sizeOf90 Z Z Z⟩,trivial⟩ ?_))
  have H:=H.dl 1
  have H:=H.dl 1
  exact H.retM ⟨_,_,_,_,_,oM,Z,hst,htr,Z⟩
theorem l12Keep_c (w0:World)(G0:PH)(hG:PSub G0 w0)(vstore:Value)(store:List (BHeld))(hstore:RdH G0 vstore store)(vlist:Value)(list:List (BItem))(hlist:RdItems G0 vlist list) :
  Calls Tryz.prog 112 #[vstore,vlist] w0 (RetO w0 G0 (fun G v r=>∃u,v= .tuple #[u,.bool (Sp.l12Keep store list).isSome]∧AccOf heldE 3 134 ((Sp.l12Keep store list).getD []) G u r)):=by
 obtain⟨astore,kstore,rfl⟩:=hstore.shape
 have hlimstore:store.length≤1099511627776:=hstore.lim
 obtain⟨alist,klist,rfl⟩:=hlist.shape
 have hlimlist:list.length≤1099511627776:=hlist.lim
 have H:=Hp.init hG
 refine calls_of_W (l:=[.slice astore store.length kstore,.slice alist list.length klist]) func112 Z ntmps112 Z (q2 (pe 2 Z (q1 (mV Z (xc Z2 (l3Copy_c _ _ H.sub _ _ hstore) ?_)))))
 rintro _ _ ⟨G1,_,_,g1,rfl,⟨_,rfl,hchk1⟩,hp1,hq1,hs1⟩
 have H:=H.growO g1 hp1 hq1 hs1;obtain⟨_,_,rfl⟩:=H.accShape (k:=0) rfl
 have hlist:=hlist.up g1.le
 refine⟨_,Z,?_⟩
 refine aG Z (q3 (W_seq (q2 (aG Z (q3 (W_block ?_))))))
 refine W_lp (hf:=(Sub.cons (t:=1) Z Sub.nil)) (J:=fun M w m=>∃(vo:Value) (no:Nat) (cso:List Value) (xso:List (BHeld)) (k:Nat) (G:PH),M=[(7,.int .i64 (k:Int)),(6,vo)]∧PLe G1 G∧Hp w0 G0 [] w G [acc 134 3 vo no cso]∧(Chk heldE 3 G cso xso∧no=xso.length∧k≤list.length∧xso.length=store.length∧Sp.foldB Sp.keepT (list.take k) (some store)=some xso)∧m=(list.length-k)) (h0:=⟨_,_,_,store,0,_,Z,PLe.refl _,H,?inv,Z⟩) (round:=?round)
 case inv=>exact⟨hchk1,by first|rfl|simp|(simp;omega)|omega,(by exact⟨by omega,rfl,by simp[Sp.foldB]⟩)⟩
 case round =>
  rintro _ _ _ ⟨vo,no,cso,xso,k,G2,rfl,hle2,H,hinv2,rfl⟩
  have hlist:=hlist.up hle2
  obtain⟨hchk2_0,_,hinv2⟩:=hinv2
  obtain⟨_,_,rfl⟩:=H.accShape (k:=0) rfl
  obtain⟨_,hxl,hf⟩:=hinv2
  refine W_seq (q2 (pe 2 Z (lN Z (pe 1 Z (q3 ?_)))))
  refine W_cond Z ?_ ?_
  ·intro hc3
   try simp only[nrm]at hc3
   refine W_skip (N_K (W_seq (W_block (q2 (aG Z (q3 (W_block ?_)))))))
   refine W_lp (hf:=(Sub.cons (t:=1) Z (Sub.cons (t:=7) Z Sub.nil))) (J:=fun M w m=>∃(v:Value) (n:Nat) (cs:List Value) (xs:List (BHeld)) (j:Nat) (y:BItem) (G:PH),M=[(8,.int .i64 (j:Int)),(6,v)]∧PLe G2 G∧Hp w0 G0 [] w G [acc 134 3 v n cs]∧(Chk heldE 3 G cs xs∧n=xs.length∧list[k]? = some y∧j≤y.ids.length∧xs.length=store.length∧Sp.foldB Sp.StoreKeep (y.ids.take j) (some xso)=some xs)∧m=(y.ids.length-j)) (h0:=⟨_,_,_,xso,0,(list[k]'oM),_,Z,PLe.refl _,H,?inv,Z⟩) (round:=?round)
   case inv=>exact⟨hchk2_0,by first|rfl|simp|(simp;omega)|omega,(by exact⟨by simp,by omega,hxl,by simp[Sp.foldB]⟩)⟩
   case round =>
    rintro _ _ _ ⟨v,n,cs,xs,j,y,_,rfl,hle4,H,hinv4,rfl⟩
    have hlist:=hlist.up hle4
    have hle2:=hle2.trans hle4
    obtain⟨hchk4_0,_,hinv4⟩:=hinv4
    obtain⟨_,_,rfl⟩:=H.accShape (k:=0) rfl
    obtain⟨hy,_,hxl2,hf2⟩:=hinv4
    refine W_seq (q2 (pe 3 Z (iP k hlist Z3 Z ?_)));intro _ _ z5 _ hz5 hE5 hrow5
    obtain⟨_,_,_,rfl,_,hr5,_,_⟩:=ox hE5
    have hzz5:y=z5:=Option.some.inj (hy.symm.trans hz5)
    subst hzz5
    refine fA 2 Z (lP H hrow5 2 Z2 (lN Z (pe 1 Z (q3 ?_))))
    refine W_cond Z ?_ ?_
    ·intro hc6
     try simp only[nrm]at hc6
     refine W_skip (N_K (W_seq (W_block (q2 (pe 3 Z (iP k hlist Z3 Z ?_))))));intro _ _ z7 _ hz7 hE7 hrow7
     obtain⟨_,_,_,rfl,_,hr7,_,_⟩:=ox hE7
     have hzz7:y=z7:=Option.some.inj (hy.symm.trans hz7)
     subst hzz7
     refine fA 2 Z (lP H hrow7 2 Z2 (mV Z (iP j hr7 Z3 Z ?_)));intro _ _ z8 _ hz8 hE8 hrow8
     obtain⟨rfl,_⟩:=hE8
     refine lP H hrow8 0 Z2 ?_
     obtain⟨_,H,hsg10,hsr10⟩:=H.shut' (k:=0) rfl hchk4_0 aN aN
     have hle4:=hle4.trans hsg10
     refine xc Z2 (StoreKeep_c _ _ H.sub _ _ hsr10 _) ?_
     rintro _ _ ⟨G9,_,_,g9,rfl,⟨_,rfl,⟨_,rfl,hchk9⟩⟩,hp9,hq9,hs9⟩
     have H:=H.growO g9 hp9 hq9 hs9;obtain⟨_,_,rfl⟩:=H.accShape (k:=0) rfl
     have hle4:=hle4.trans g9.le
     refine⟨_,Z,?_⟩
     refine pe 5 Z (q3 (W_seq (q2 (pe 2 Z (q3 ?_)))))
     refine W_cond Z ?_ ?_
     ·intro hc11
      try simp only[nrm]at hc11
      refine q2 (xbs H Z7 ?_);intro _ _ _ H
      have H:=H.blkAcc 3 (k:=0) (n:=0) rfl rfl (by decide)
      refine pe 2 Z (q3 (W_ret (N_K_ret (N_B_ret (N_K_ret (N_LP_ret (N_B_ret (N_B_ret (N_K_ret (N_LP_ret (N_B_ret (N_K_ret (rt2 results112 Z Z ?_)))))))))))))
      have hN:Sp.l12Keep store list=none:=by (have hno:Sp.StoreKeep xs z8=none:=by simpa using hc11);unfold Sp.l12Keep;exact Sp.foldB_stop hf hy (by unfold Sp.keepT;exact Sp.foldB_stop hf2 hz8 hno)
      exact H.retO (k:=0) rfl (by rw[hN];exact⟨_,rfl,AccOf.mk aN (Chk.nil (E:=heldE) (sz:=3) (G:=G9))⟩) (acc_nd _ _ _ _ _)
     intro hc11'
     try simp only[nrm]at hc11'
     obtain⟨p,hsp⟩:=Option.isSome_iff_exists.1 hc11'
     rw[hsp]at H hchk9 ⊢
     dsimp only[Option.map,Option.getD]at H hchk9
     refine W_skip (N_K (W_region (pe 2 Z (R_nil (N_B (N_K (W_region (mV Z (aD Z2 (aG Z (R_nil ?_)))))))))))
     refine N_lp (hJ:=⟨_,_,_,p,j+1,y,_,Z,hle4,H,?inv,Z⟩) (hm:=?hm)
     case hm=>omega
     case inv=>exact⟨hchk9,aN,(by exact⟨hy,by omega,by rw[Sp.keep_len hsp];exact hxl2,Sp.foldB_succ hf2 hz8 hsp⟩)⟩
    intro hc6'
    try simp only[nrm]at hc6'
    refine W_exit (N_K_exit (N_LP_exit (N_B_same (N_B (N_K (W_region (mV Z (aD Z2 (aG Z (R_nil ?_))))))))))
    refine N_lp (hJ:=⟨_,_,_,xs,k+1,_,Z,hle2,H,?inv,Z⟩) (hm:=?hm)
    case hm=>omega
    case inv=>exact⟨hchk4_0,aN,(by exact⟨by omega,hxl2,Sp.foldB_succ hf hy (by unfold Sp.keepT;exact Sp.foldB_all hf2 oM)⟩)⟩
  intro hc3'
  try simp only[nrm]at hc3'
  refine W_exit (N_K_exit (N_LP_exit (N_B_same (N_K (q2 (pe 3 Z (q3 (W_ret (rt2 results112 Z Z ?_)))))))))
  have hY:Sp.l12Keep store list=some xso:=by unfold Sp.l12Keep;exact Sp.foldB_all hf oM
  exact H.retO (k:=0) rfl (by rw[hY];exact⟨_,rfl,AccOf.mk aN hchk2_0⟩) (acc_nd _ _ _ _ _)
theorem l12Copy_c (w0:World)(G0:PH)(hG:PSub G0 w0)(cd:List Value)(d:BDisk)(hd:diskE G0 d cd) :
  Calls Tryz.prog 113 #[.agg cd.toArray] w0 (RetO w0 G0 (fun G val r=>∃u u1 u2,val= .agg #[u,u1,u2]∧AccOf snapE 2 81 d.snaps G u2 r∧RdH G u d.store∧RdItems G u1 d.tree)):=by
 obtain⟨_,_,_,_,_,_,_,_,_,rfl,hr1,hr1',hr1'',⟨_,_⟩,⟨_,_⟩,_,_⟩:=ox hd
 have H:=Hp.init hG
 refine calls_of_W (l:=[_]) func113 Z ntmps113 Z (q2 (o_box H Z Z Z ?_));intro b2 _ _ H
 refine xal H Z ?_;intro b3 _ _ H
 refine q3 ?_
 obtain⟨ljb3,hljb3,H⟩:=H.name (k:=0) rfl
 obtain⟨ljb2,hljb2,H⟩:=H.name (k:=1) rfl
 have hj4:=PLe.refl G0
 refine W_join (hf:=(Sub.cons (t:=1) Z (Sub.cons (t:=2) Z Sub.nil))) (J:=fun M w=>∃(jb:Nat) (ja jc:Option Addr) (jm jk jn jl:Nat) (ve:Value) (ce:List Value) (ne:Nat) (G:PH),M=[(3,.pointer (some ⟨jb,0,none⟩))]∧PLe G0 G∧Hp w0 G0 [] w G [acc 81 2 ve ne ce,blk jb (cl [.slice ja jm jk,.slice jc jn jl,ve] 27),blk b3 (cl ljb3 27),blk b2 (cl ljb2 27)]∧(RdH G (.slice ja jm jk) d.store∧RdItems G (.slice jc jn jl) d.tree∧Chk snapE 2 G ce ([]:List BSnap)∧ne=0)) (first:=?_) (second:=?_)
 ·skip
  subst hljb3
  subst hljb2
  refine W_drawK [0,1] 10 H kR Z ?_;intro _ H;have hd5:=PLe.refl G0
  refine dF 0 0 Z2 (dB 1 1 Z4 (dF 3 1 Z2 (dB 4 1 Z4 ?_)))
  refine RD_run [2,6,8] kR Z (RDs.cons Z ?_ (RDs.cons Z ?_ (RDs.cons Z ?_ RDs.nil)))
  ·skip
   refine xc Z2 (l3Copy_c _ _ H.sub _ _ hr1) ?_
   rintro _ _ ⟨_,_,_,g6,rfl,⟨_,rfl,hchk6⟩,hp6,hq6,hs6⟩
   have H:=H.growO g6 hp6 hq6 hs6;obtain⟨_,_,rfl⟩:=H.accShape (k:=0) rfl
   have hr1':=hr1'.up g6.le
   have hj4:=hj4.trans g6.le
   have hd5:=hd5.trans g6.le
   refine⟨_,Z,?_⟩
   refine q4 H hd5 ?_
   refine RD_run [5,6,8] kR Z (RDs.cons Z ?_ (RDs.cons Z ?_ (RDs.cons Z ?_ RDs.nil)))
   ·skip
    refine xc Z2 (l5All_c _ _ H.sub _ _ hr1') ?_
    rintro _ _ ⟨_,_,_,g7,rfl,⟨_,rfl,hchk7⟩,hp7,hq7,hs7⟩
    have H:=H.growO g7 hp7 hq7 hs7;obtain⟨_,_,rfl⟩:=H.accShape (k:=0) rfl
    have hchk6:=hchk6.up g7.le
    have hj4:=hj4.trans g7.le
    have hd5:=hd5.trans g7.le
    refine⟨_,Z,?_⟩
    refine q4 H hd5 ?_
    refine r2 6 8 Z2 ?_ ?_
    ·skip
     refine xbs H Z7 ?_;intro _ _ _ H
     have H:=H.blkAcc 2 (k:=0) (n:=0) rfl rfl (by decide)
     refine q4 H hd5 (RD_t 7 Z kR Z (fun _ hK=>v_build bf27 Z Z) (r1 8 Z (xal H Z ?_)));intro _ _ _ H
     refine q4 H hd5 (r1 9 Z (xst 0 H Z8 ?_));intro _ H
     refine R_nil (N_DKlast kR kR ?_)
     obtain⟨_,H,hsg512,hsr512⟩:=H.shut' (k:=3) rfl hchk6 aN aN
     have hchk7:=hchk7.up hsg512
     have hj4:=hj4.trans hsg512
     obtain⟨G513,H,hsg513,hsr513⟩:=H.shut' (k:=2) rfl hchk7 aN aN
     have hsr512:=hsr512.up hsg513
     have hj4:=hj4.trans hsg513
     have H:=H.tF 3
     have H:=H.tF 3
     have H:=H.tF 2
     have H:=H.tF 3
     exact N_J ⟨_,_,_,_,_,_,_,_,_,_,_,Z,hj4,H,⟨hsr512,hsr513,(Chk.nil (E:=snapE) (sz:=2) (G:=G513)),Z⟩⟩
    skip
    refine xal H Z ?_;intro _ _ _ H
    refine q4 H hd5 (r1 6 Z (xbs H Z7 ?_));intro _ _ _ H
    have H:=H.blkAcc 2 (k:=0) (n:=0) rfl rfl (by decide)
    refine q4 H hd5 (RD_t 7 Z kR Z (fun _ hK=>v_build bf27 Z Z) (r1 9 Z (xst 1 H Z8 ?_)));intro _ H
    refine R_nil (N_DKlast kR kR ?_)
    obtain⟨_,H,hsg517,hsr517⟩:=H.shut' (k:=3) rfl hchk6 aN aN
    have hchk7:=hchk7.up hsg517
    have hj4:=hj4.trans hsg517
    obtain⟨G518,H,hsg518,hsr518⟩:=H.shut' (k:=2) rfl hchk7 aN aN
    have hsr517:=hsr517.up hsg518
    have hj4:=hj4.trans hsg518
    have H:=H.tF 3
    have H:=H.tF 3
    have H:=H.tF 3
    have H:=H.tF 3
    exact N_J ⟨_,_,_,_,_,_,_,_,_,_,_,Z,hj4,H,⟨hsr517,hsr518,(Chk.nil (E:=snapE) (sz:=2) (G:=G518)),Z⟩⟩
   ·skip
    refine xbs H Z7 ?_;intro _ _ _ H
    have H:=H.blkAcc 2 (k:=0) (n:=0) rfl rfl (by decide)
    refine q4 H hd5 ?_
    refine r2 5 8 Z2 ?_ ?_
    ·skip
     refine xc Z2 (l5All_c _ _ H.sub _ _ hr1') ?_
     rintro _ _ ⟨_,_,_,g15,rfl,⟨_,rfl,hchk15⟩,hp15,hq15,hs15⟩
     have H:=H.growO g15 hp15 hq15 hs15;obtain⟨_,_,rfl⟩:=H.accShape (k:=0) rfl
     have hchk6:=hchk6.up g15.le
     have hj4:=hj4.trans g15.le
     have hd5:=hd5.trans g15.le
     refine⟨_,Z,?_⟩
     refine q4 H hd5 (RD_t 7 Z kR Z (fun _ hK=>v_build bf27 Z Z) (r1 8 Z (xal H Z ?_)));intro _ _ _ H
     refine q4 H hd5 (r1 9 Z (xst 0 H Z8 ?_));intro _ H
     refine R_nil (N_DKlast kR kR ?_)
     obtain⟨_,H,hsg523,hsr523⟩:=H.shut' (k:=3) rfl hchk6 aN aN
     have hchk15:=hchk15.up hsg523
     have hj4:=hj4.trans hsg523
     obtain⟨G524,H,hsg524,hsr524⟩:=H.shut' (k:=1) rfl hchk15 aN aN
     have hsr523:=hsr523.up hsg524
     have hj4:=hj4.trans hsg524
     have H:=H.tF 3
     have H:=H.tF 3
     have H:=H.tF 2
     have H:=H.tF 3
     exact N_J ⟨_,_,_,_,_,_,_,_,_,_,_,Z,hj4,H,⟨hsr523,hsr524,(Chk.nil (E:=snapE) (sz:=2) (G:=G524)),Z⟩⟩
    skip
    refine xal H Z ?_;intro _ _ _ H
    refine q4 H hd5 (r1 5 Z (xc Z2 (l5All_c _ _ H.sub _ _ hr1') ?_))
    rintro _ _ ⟨_,_,_,g19,rfl,⟨_,rfl,hchk19⟩,hp19,hq19,hs19⟩
    have H:=H.growO g19 hp19 hq19 hs19;obtain⟨_,_,rfl⟩:=H.accShape (k:=0) rfl
    have hchk6:=hchk6.up g19.le
    have hj4:=hj4.trans g19.le
    have hd5:=hd5.trans g19.le
    refine⟨_,Z,?_⟩
    refine q4 H hd5 (RD_t 7 Z kR Z (fun _ hK=>v_build bf27 Z Z) (r1 9 Z (xst 1 H Z8 ?_)));intro _ H
    refine R_nil (N_DKlast kR kR ?_)
    obtain⟨_,H,hsg528,hsr528⟩:=H.shut' (k:=3) rfl hchk6 aN aN
    have hchk19:=hchk19.up hsg528
    have hj4:=hj4.trans hsg528
    obtain⟨G529,H,hsg529,hsr529⟩:=H.shut' (k:=0) rfl hchk19 aN aN
    have hsr528:=hsr528.up hsg529
    have hj4:=hj4.trans hsg529
    have H:=H.tF 3
    have H:=H.tF 3
    have H:=H.tF 2
    have H:=H.tF 3
    exact N_J ⟨_,_,_,_,_,_,_,_,_,_,_,Z,hj4,H,⟨hsr528,hsr529,(Chk.nil (E:=snapE) (sz:=2) (G:=G529)),Z⟩⟩
   skip
   refine xal H Z ?_;intro _ _ _ H
   refine q4 H hd5 ?_
   refine r2 5 6 Z2 ?_ ?_
   ·skip
    refine xc Z2 (l5All_c _ _ H.sub _ _ hr1') ?_
    rintro _ _ ⟨_,_,_,g22,rfl,⟨_,rfl,hchk22⟩,hp22,hq22,hs22⟩
    have H:=H.growO g22 hp22 hq22 hs22;obtain⟨_,_,rfl⟩:=H.accShape (k:=0) rfl
    have hchk6:=hchk6.up g22.le
    have hj4:=hj4.trans g22.le
    have hd5:=hd5.trans g22.le
    refine⟨_,Z,?_⟩
    refine q4 H hd5 (r1 6 Z (xbs H Z7 ?_));intro _ _ _ H
    have H:=H.blkAcc 2 (k:=0) (n:=0) rfl rfl (by decide)
    refine q4 H hd5 (RD_t 7 Z kR Z (fun _ hK=>v_build bf27 Z Z) (r1 9 Z (xst 2 H Z8 ?_)));intro _ H
    refine R_nil (N_DKlast kR kR ?_)
    obtain⟨_,H,hsg534,hsr534⟩:=H.shut' (k:=3) rfl hchk6 aN aN
    have hchk22:=hchk22.up hsg534
    have hj4:=hj4.trans hsg534
    obtain⟨G535,H,hsg535,hsr535⟩:=H.shut' (k:=1) rfl hchk22 aN aN
    have hsr534:=hsr534.up hsg535
    have hj4:=hj4.trans hsg535
    have H:=H.tF 3
    have H:=H.tF 3
    have H:=H.tF 3
    have H:=H.tF 3
    exact N_J ⟨_,_,_,_,_,_,_,_,_,_,_,Z,hj4,H,⟨hsr534,hsr535,(Chk.nil (E:=snapE) (sz:=2) (G:=G535)),Z⟩⟩
   skip
   refine xbs H Z7 ?_;intro _ _ _ H
   have H:=H.blkAcc 2 (k:=0) (n:=0) rfl rfl (by decide)
   refine q4 H hd5 (r1 5 Z (xc Z2 (l5All_c _ _ H.sub _ _ hr1') ?_))
   rintro _ _ ⟨_,_,_,g26,rfl,⟨_,rfl,hchk26⟩,hp26,hq26,hs26⟩
   have H:=H.growO g26 hp26 hq26 hs26;obtain⟨_,_,rfl⟩:=H.accShape (k:=0) rfl
   have hchk6:=hchk6.up g26.le
   have hj4:=hj4.trans g26.le
   have hd5:=hd5.trans g26.le
   refine⟨_,Z,?_⟩
   refine q4 H hd5 (RD_t 7 Z kR Z (fun _ hK=>v_build bf27 Z Z) (r1 9 Z (xst 2 H Z8 ?_)));intro _ H
   refine R_nil (N_DKlast kR kR ?_)
   obtain⟨_,H,hsg539,hsr539⟩:=H.shut' (k:=3) rfl hchk6 aN aN
   have hchk26:=hchk26.up hsg539
   have hj4:=hj4.trans hsg539
   obtain⟨G540,H,hsg540,hsr540⟩:=H.shut' (k:=0) rfl hchk26 aN aN
   have hsr539:=hsr539.up hsg540
   have hj4:=hj4.trans hsg540
   have H:=H.tF 3
   have H:=H.tF 3
   have H:=H.tF 3
   have H:=H.tF 3
   exact N_J ⟨_,_,_,_,_,_,_,_,_,_,_,Z,hj4,H,⟨hsr539,hsr540,(Chk.nil (E:=snapE) (sz:=2) (G:=G540)),Z⟩⟩
  ·skip
   refine xbs H Z7 ?_;intro _ _ _ H
   have H:=H.blkAcc 2 (k:=0) (n:=0) rfl rfl (by decide)
   refine q4 H hd5 ?_
   refine r2 2 8 Z2 ?_ ?_
   ·skip
    refine xc Z2 (l3Copy_c _ _ H.sub _ _ hr1) ?_
    rintro _ _ ⟨_,_,_,g29,rfl,⟨_,rfl,hchk29⟩,hp29,hq29,hs29⟩
    have H:=H.growO g29 hp29 hq29 hs29;obtain⟨_,_,rfl⟩:=H.accShape (k:=0) rfl
    have hr1':=hr1'.up g29.le
    have hj4:=hj4.trans g29.le
    have hd5:=hd5.trans g29.le
    refine⟨_,Z,?_⟩
    refine q4 H hd5 ?_
    refine r2 5 8 Z2 ?_ ?_
    ·skip
     refine xc Z2 (l5All_c _ _ H.sub _ _ hr1') ?_
     rintro _ _ ⟨_,_,_,g30,rfl,⟨_,rfl,hchk30⟩,hp30,hq30,hs30⟩
     have H:=H.growO g30 hp30 hq30 hs30;obtain⟨_,_,rfl⟩:=H.accShape (k:=0) rfl
     have hchk29:=hchk29.up g30.le
     have hj4:=hj4.trans g30.le
     have hd5:=hd5.trans g30.le
     refine⟨_,Z,?_⟩
     refine q4 H hd5 (RD_t 7 Z kR Z (fun _ hK=>v_build bf27 Z Z) (r1 8 Z (xal H Z ?_)));intro _ _ _ H
     refine q4 H hd5 (r1 9 Z (xst 0 H Z8 ?_));intro _ H
     refine R_nil (N_DKlast kR kR ?_)
     obtain⟨_,H,hsg546,hsr546⟩:=H.shut' (k:=2) rfl hchk29 aN aN
     have hchk30:=hchk30.up hsg546
     have hj4:=hj4.trans hsg546
     obtain⟨G547,H,hsg547,hsr547⟩:=H.shut' (k:=1) rfl hchk30 aN aN
     have hsr546:=hsr546.up hsg547
     have hj4:=hj4.trans hsg547
     have H:=H.tF 3
     have H:=H.tF 3
     have H:=H.tF 2
     have H:=H.tF 3
     exact N_J ⟨_,_,_,_,_,_,_,_,_,_,_,Z,hj4,H,⟨hsr546,hsr547,(Chk.nil (E:=snapE) (sz:=2) (G:=G547)),Z⟩⟩
    skip
    refine xal H Z ?_;intro _ _ _ H
    refine q4 H hd5 (r1 5 Z (xc Z2 (l5All_c _ _ H.sub _ _ hr1') ?_))
    rintro _ _ ⟨_,_,_,g34,rfl,⟨_,rfl,hchk34⟩,hp34,hq34,hs34⟩
    have H:=H.growO g34 hp34 hq34 hs34;obtain⟨_,_,rfl⟩:=H.accShape (k:=0) rfl
    have hchk29:=hchk29.up g34.le
    have hj4:=hj4.trans g34.le
    have hd5:=hd5.trans g34.le
    refine⟨_,Z,?_⟩
    refine q4 H hd5 (RD_t 7 Z kR Z (fun _ hK=>v_build bf27 Z Z) (r1 9 Z (xst 1 H Z8 ?_)));intro _ H
    refine R_nil (N_DKlast kR kR ?_)
    obtain⟨_,H,hsg551,hsr551⟩:=H.shut' (k:=2) rfl hchk29 aN aN
    have hchk34:=hchk34.up hsg551
    have hj4:=hj4.trans hsg551
    obtain⟨G552,H,hsg552,hsr552⟩:=H.shut' (k:=0) rfl hchk34 aN aN
    have hsr551:=hsr551.up hsg552
    have hj4:=hj4.trans hsg552
    have H:=H.tF 3
    have H:=H.tF 3
    have H:=H.tF 2
    have H:=H.tF 3
    exact N_J ⟨_,_,_,_,_,_,_,_,_,_,_,Z,hj4,H,⟨hsr551,hsr552,(Chk.nil (E:=snapE) (sz:=2) (G:=G552)),Z⟩⟩
   skip
   refine xal H Z ?_;intro _ _ _ H
   refine q4 H hd5 (r1 2 Z (xc Z2 (l3Copy_c _ _ H.sub _ _ hr1) ?_))
   rintro _ _ ⟨_,_,_,g37,rfl,⟨_,rfl,hchk37⟩,hp37,hq37,hs37⟩
   have H:=H.growO g37 hp37 hq37 hs37;obtain⟨_,_,rfl⟩:=H.accShape (k:=0) rfl
   have hr1':=hr1'.up g37.le
   have hj4:=hj4.trans g37.le
   have hd5:=hd5.trans g37.le
   refine⟨_,Z,?_⟩
   refine q4 H hd5 (r1 5 Z (xc Z2 (l5All_c _ _ H.sub _ _ hr1') ?_))
   rintro _ _ ⟨_,_,_,g38,rfl,⟨_,rfl,hchk38⟩,hp38,hq38,hs38⟩
   have H:=H.growO g38 hp38 hq38 hs38;obtain⟨_,_,rfl⟩:=H.accShape (k:=0) rfl
   have hchk37:=hchk37.up g38.le
   have hj4:=hj4.trans g38.le
   have hd5:=hd5.trans g38.le
   refine⟨_,Z,?_⟩
   refine q4 H hd5 (RD_t 7 Z kR Z (fun _ hK=>v_build bf27 Z Z) (r1 9 Z (xst 2 H Z8 ?_)));intro _ H
   refine R_nil (N_DKlast kR kR ?_)
   obtain⟨_,H,hsg557,hsr557⟩:=H.shut' (k:=1) rfl hchk37 aN aN
   have hchk38:=hchk38.up hsg557
   have hj4:=hj4.trans hsg557
   obtain⟨G558,H,hsg558,hsr558⟩:=H.shut' (k:=0) rfl hchk38 aN aN
   have hsr557:=hsr557.up hsg558
   have hj4:=hj4.trans hsg558
   have H:=H.tF 3
   have H:=H.tF 3
   have H:=H.tF 2
   have H:=H.tF 3
   exact N_J ⟨_,_,_,_,_,_,_,_,_,_,_,Z,hj4,H,⟨hsr557,hsr558,(Chk.nil (E:=snapE) (sz:=2) (G:=G558)),Z⟩⟩
  skip
  refine xal H Z ?_;intro _ _ _ H
  refine q4 H hd5 ?_
  refine r2 2 6 Z2 ?_ ?_
  ·skip
   refine xc Z2 (l3Copy_c _ _ H.sub _ _ hr1) ?_
   rintro _ _ ⟨_,_,_,g41,rfl,⟨_,rfl,hchk41⟩,hp41,hq41,hs41⟩
   have H:=H.growO g41 hp41 hq41 hs41;obtain⟨_,_,rfl⟩:=H.accShape (k:=0) rfl
   have hr1':=hr1'.up g41.le
   have hj4:=hj4.trans g41.le
   have hd5:=hd5.trans g41.le
   refine⟨_,Z,?_⟩
   refine q4 H hd5 ?_
   refine r2 5 6 Z2 ?_ ?_
   ·skip
    refine xc Z2 (l5All_c _ _ H.sub _ _ hr1') ?_
    rintro _ _ ⟨_,_,_,g42,rfl,⟨_,rfl,hchk42⟩,hp42,hq42,hs42⟩
    have H:=H.growO g42 hp42 hq42 hs42;obtain⟨_,_,rfl⟩:=H.accShape (k:=0) rfl
    have hchk41:=hchk41.up g42.le
    have hj4:=hj4.trans g42.le
    have hd5:=hd5.trans g42.le
    refine⟨_,Z,?_⟩
    refine q4 H hd5 (r1 6 Z (xbs H Z7 ?_));intro _ _ _ H
    have H:=H.blkAcc 2 (k:=0) (n:=0) rfl rfl (by decide)
    refine q4 H hd5 (RD_t 7 Z kR Z (fun _ hK=>v_build bf27 Z Z) (r1 9 Z (xst 3 H Z8 ?_)));intro _ H
    refine R_nil (N_DKlast kR kR ?_)
    obtain⟨_,H,hsg564,hsr564⟩:=H.shut' (k:=2) rfl hchk41 aN aN
    have hchk42:=hchk42.up hsg564
    have hj4:=hj4.trans hsg564
    obtain⟨G565,H,hsg565,hsr565⟩:=H.shut' (k:=1) rfl hchk42 aN aN
    have hsr564:=hsr564.up hsg565
    have hj4:=hj4.trans hsg565
    have H:=H.tF 3
    have H:=H.tF 3
    have H:=H.tF 3
    have H:=H.tF 3
    exact N_J ⟨_,_,_,_,_,_,_,_,_,_,_,Z,hj4,H,⟨hsr564,hsr565,(Chk.nil (E:=snapE) (sz:=2) (G:=G565)),Z⟩⟩
   skip
   refine xbs H Z7 ?_;intro _ _ _ H
   have H:=H.blkAcc 2 (k:=0) (n:=0) rfl rfl (by decide)
   refine q4 H hd5 (r1 5 Z (xc Z2 (l5All_c _ _ H.sub _ _ hr1') ?_))
   rintro _ _ ⟨_,_,_,g46,rfl,⟨_,rfl,hchk46⟩,hp46,hq46,hs46⟩
   have H:=H.growO g46 hp46 hq46 hs46;obtain⟨_,_,rfl⟩:=H.accShape (k:=0) rfl
   have hchk41:=hchk41.up g46.le
   have hj4:=hj4.trans g46.le
   have hd5:=hd5.trans g46.le
   refine⟨_,Z,?_⟩
   refine q4 H hd5 (RD_t 7 Z kR Z (fun _ hK=>v_build bf27 Z Z) (r1 9 Z (xst 3 H Z8 ?_)));intro _ H
   refine R_nil (N_DKlast kR kR ?_)
   obtain⟨_,H,hsg569,hsr569⟩:=H.shut' (k:=2) rfl hchk41 aN aN
   have hchk46:=hchk46.up hsg569
   have hj4:=hj4.trans hsg569
   obtain⟨G570,H,hsg570,hsr570⟩:=H.shut' (k:=0) rfl hchk46 aN aN
   have hsr569:=hsr569.up hsg570
   have hj4:=hj4.trans hsg570
   have H:=H.tF 3
   have H:=H.tF 3
   have H:=H.tF 3
   have H:=H.tF 3
   exact N_J ⟨_,_,_,_,_,_,_,_,_,_,_,Z,hj4,H,⟨hsr569,hsr570,(Chk.nil (E:=snapE) (sz:=2) (G:=G570)),Z⟩⟩
  skip
  refine xbs H Z7 ?_;intro _ _ _ H
  have H:=H.blkAcc 2 (k:=0) (n:=0) rfl rfl (by decide)
  refine q4 H hd5 (r1 2 Z (xc Z2 (l3Copy_c _ _ H.sub _ _ hr1) ?_))
  rintro _ _ ⟨_,_,_,g49,rfl,⟨_,rfl,hchk49⟩,hp49,hq49,hs49⟩
  have H:=H.growO g49 hp49 hq49 hs49;obtain⟨_,_,rfl⟩:=H.accShape (k:=0) rfl
  have hr1':=hr1'.up g49.le
  have hj4:=hj4.trans g49.le
  have hd5:=hd5.trans g49.le
  refine⟨_,Z,?_⟩
  refine q4 H hd5 (r1 5 Z (xc Z2 (l5All_c _ _ H.sub _ _ hr1') ?_))
  rintro _ _ ⟨_,_,_,g50,rfl,⟨_,rfl,hchk50⟩,hp50,hq50,hs50⟩
  have H:=H.growO g50 hp50 hq50 hs50;obtain⟨_,_,rfl⟩:=H.accShape (k:=0) rfl
  have hchk49:=hchk49.up g50.le
  have hj4:=hj4.trans g50.le
  have hd5:=hd5.trans g50.le
  refine⟨_,Z,?_⟩
  refine q4 H hd5 (RD_t 7 Z kR Z (fun _ hK=>v_build bf27 Z Z) (r1 9 Z (xst 3 H Z8 ?_)));intro _ H
  refine R_nil (N_DKlast kR kR ?_)
  obtain⟨_,H,hsg575,hsr575⟩:=H.shut' (k:=1) rfl hchk49 aN aN
  have hchk50:=hchk50.up hsg575
  have hj4:=hj4.trans hsg575
  obtain⟨G576,H,hsg576,hsr576⟩:=H.shut' (k:=0) rfl hchk50 aN aN
  have hsr575:=hsr575.up hsg576
  have hj4:=hj4.trans hsg576
  have H:=H.tF 3
  have H:=H.tF 3
  have H:=H.tF 3
  have H:=H.tF 3
  exact N_J ⟨_,_,_,_,_,_,_,_,_,_,_,Z,hj4,H,⟨hsr575,hsr576,(Chk.nil (E:=snapE) (sz:=2) (G:=G576)),Z⟩⟩
 rintro _ _ ⟨jb,ja,jc,jm,jk,jn,jl,ve,ce,ne,G4,rfl,hle4,H,hinv4⟩
 subst hljb3
 subst hljb2
 have hr1'':=hr1''.up hle4
 obtain⟨hja,hjb,hjc,rfl⟩:=hinv4;obtain⟨_,_,rfl⟩:=H.accShape (k:=0) rfl
 refine W_seq (q2 (aG Z (q3 (W_block ?_))))
 obtain⟨ln52,hln52,H⟩:=H.nameAt (k:=1) (off:=2) rfl rfl
 obtain⟨ln53,hln53,H⟩:=H.name (k:=2) rfl
 obtain⟨ln54,hln54,H⟩:=H.name (k:=3) rfl
 refine W_lp (hf:=(Sub.cons (t:=1) Z (Sub.cons (t:=2) Z (Sub.cons (t:=3) Z Sub.nil)))) (J:=fun M w m=>∃(v:Value) (n:Nat) (cs:List Value) (xs:List (BSnap)) (k:Nat) (G:PH),M=[(4,.int .i64 (k:Int))]∧PLe G4 G∧Hp w0 G0 [] w G [acc 81 2 v n cs,blk jb (cl (setN ln52 2 v) 27),blk b3 (cl ln53 27),blk b2 (cl ln54 27)]∧(Chk snapE 2 G cs xs∧n=xs.length∧k≤d.snaps.length∧xs.length=k∧xs=d.snaps.take k)∧m=(d.snaps.length-k)) (h0:=⟨_,_,_,[],0,_,Z,PLe.refl _,H,?inv,Z⟩) (round:=?round)
 case inv=>exact⟨hjc,by first|rfl|simp|(simp;omega)|omega,(by simp)⟩
 case round =>
  rintro _ _ _ ⟨v,n,cs,xs,k,G55,rfl,hle55,H,hinv55,rfl⟩
  subst hln52
  subst hln53
  subst hln54
  have hr1'':=hr1''.up hle55
  have hja:=hja.up hle55
  have hjb:=hjb.up hle55
  obtain⟨hchk55_0,_,hinv55⟩:=hinv55
  obtain⟨_,_,rfl⟩:=H.accShape (k:=0) rfl
  obtain⟨_,hxl,hxs⟩:=hinv55
  refine W_seq (q2 (mV Z (fA 2 Z (lB 3 H Z3 (lN Z (pe 1 Z (q3 ?_)))))))
  refine W_cond Z ?_ ?_
  ·intro hc56
   try simp only[nrm]at hc56
   refine W_skip (N_K (W_seq (W_block (W_drawK [1,2,3] 20 H kR Z ?_))));intro _ H;have hd57:=PLe.refl G55
   refine dF 0 2 Z2 (dB 1 0 Z4 (dF 2 2 Z2 (dB 3 2 Z4 (dE 4 Z2 ?_))))
   have hl58:=hr1''.len
   obtain⟨_,_,z58,_,ha58,hz58,hq58,hE58,hrow58,_⟩:=hr1''.at (i:=k) oM
   clear hq58
   obtain⟨_,_,_,rfl,hi58,hr58,_,_⟩:=ox hE58
   refine dI 5 2 k ha58 Z3 Z (dF 6 0 Z2 (dP 7 hrow58 0 Z3 (dF 8 2 Z2 (dB 9 2 Z4 (dE 10 Z2 ?_)))))
   have hl59:=hr1''.len
   obtain⟨_,_,z59,_,ha59,hz59,hq59,hE59,hrow59,_⟩:=hr1''.at (i:=k) oM
   clear hq59
   obtain⟨_,_,_,rfl,_,hr59,_,_⟩:=ox hE59
   have hzz59:z58=z59:=Option.some.inj (hz58.symm.trans hz59)
   subst hzz59
   refine dI 11 2 k ha59 Z3 Z (dF 12 1 Z2 (dP 13 hrow59 1 Z3 (r1 14 Z (xc Z2 (l5All_c _ _ H.sub _ _ hr59) ?_))))
   rintro _ _ ⟨_,_,_,g60,rfl,⟨_,rfl,hchk60⟩,hp60,hq60,hs60⟩
   have H:=H.growO g60 hp60 hq60 hs60;obtain⟨_,_,rfl⟩:=H.accShape (k:=0) rfl
   have hchk55_0:=hchk55_0.up g60.le
   have hle55:=hle55.trans g60.le
   have hd57:=hd57.trans g60.le
   refine⟨_,Z,?_⟩
   refine q4 H hd57 (RD_t 15 Z kR Z (fun _ hK=>v_build bf81 Z Z) (r1 16 Z (xbs H Z7 ?_)));intro _ _ _ H
   refine q4 H hd57 (r1 17 Z (o_append1 1 H (sz:=2) (bytes:=40) underlying25 typeInfo81 ⟨_,Z,Z⟩ Z Z Z Z Z Z Z Z Z Z oM Z ?_));intro _ _ H
   obtain⟨_,H,hsg63,hsr63⟩:=H.shut' (k:=0) rfl hchk60 aN aN
   have hchk55_0:=hchk55_0.up hsg63
   have hle55:=hle55.trans hsg63
   have hd57:=hd57.trans hsg63
   have hchk62:=hchk55_0.snoc (show snapE _ ⟨z58.name,z58.tree⟩ _ from⟨_,_,_,rfl,hi58,hsr63⟩) rfl
   obtain⟨_,_,rfl⟩:=H.accShape (k:=0) rfl
   refine q4 H hd57 (dF 18 2 Z2 (r1 19 Z (xst 1 H Z8 ?_)));intro _ H
   refine R_nil (N_DKlast kR kR (N_B (N_K (W_region (mV Z (aD Z2 (aG Z (R_nil ?_))))))))
   refine N_lp (hJ:=⟨_,_,_,(xs++[⟨z58.name,z58.tree⟩]),k+1,_,Z,hle55,H,?inv,Z⟩) (hm:=?hm)
   case hm=>omega
   case inv=>exact⟨hchk62,aN,(by exact⟨by omega,by simp[hxl],by rw[Sp.take_succ' hz58,hxs]⟩)⟩
  intro hc56'
  try simp only[nrm]at hc56'
  refine W_exit (N_K_exit (N_LP_exit (N_B_same (N_K (q2 (lA 1 3 H Z4 (xst 2 H Z8 ?_)))))));intro _ H
  refine q3 (W_ret (ret_gen (rs:=[.cell 2 27]) (vs:=[_]) results113 ⟨⟨_,Z,load_blk 2 H isAgg27 sizeOf27 Z Z Z⟩,trivial⟩ ?_))
  obtain rfl:k=d.snaps.length:=by omega
  rw[List.take_length]at hxs
  subst hxs
  exact H.retO (k:=0) Z ⟨_,_,_,Z,AccOf.mk aN hchk55_0,hja,hjb⟩ (acc_nd _ _ _ _ _)
theorem SnapTake_c (w0:World)(G0:PH)(hG:PSub G0 w0)(cd:List Value)(d:BDisk)(hd:diskE G0 d cd)(name:Bs)(hname:name.length≤16777216) :
  Calls Tryz.prog 77 #[.agg cd.toArray,str name] w0 (RetO w0 G0 (fun G val r=>∃u u1 u2,val= .tuple #[.agg #[u,u1,u2],.bool (Sp.SnapTake d name).isSome]∧AccOf snapE 2 81 (((Sp.SnapTake d name).map (·.snaps)).getD []) G u2 r∧RdH G u (((Sp.SnapTake d name).map (·.store)).getD [])∧RdItems G u1 (((Sp.SnapTake d name).map (·.tree)).getD []))):=by
 obtain⟨_,_,_,_,_,_,_,_,_,rfl,hr1,hr1',hr1'',⟨_,_⟩,⟨_,_⟩,_,_⟩:=ox hd
 have H:=Hp.init hG
 refine calls_of_W (l:=[_,str name]) func77 Z ntmps77 Z (q2 (o_box H Z Z Z ?_));intro _ _ _ H
 refine xal H Z ?_;intro _ _ _ H
 refine aG Z (q3 (W_seq (q2 (lA 1 3 H Z4 (xr H Z2 (DiskValid_c _ _ H.sub _ d ⟨_,_,_,_,_,_,_,_,_,Z,hr1,hr1',hr1''⟩) ?_)))));intro _ H
 refine pe 2 Z ?_
 refine R_case (t:=12) Z ?_ ?_
 ·intro hc5
  try simp only[nrm]at hc5
  refine pe 17 Z (q3 (W_true Z (q2 (o_build bf27 Z Z Z (xst 0 H Z8 ?_)))));intro _ H
  refine aG Z (q3 (W_ret (N_K_ret (ret_gen (rs:=[.cell 4 27,.tmp 5]) (vs:=[_,_]) results77 ⟨⟨_,Z,load_blk 0 H isAgg27 sizeOf27 Z Z Z⟩,Z,trivial⟩ ?_))))
  have hN:Sp.SnapTake d name=none:=by simp[Sp.SnapTake,hc5]
  have H:=H.addNil 81 2
  exact H.retO (k:=0) rfl (by rw[hN];exact⟨_,_,_,rfl,AccOf.mk rfl Chk.nil,RdS.nil _ _ _,RdS.nil _ _ _⟩) (acc_nd _ _ _ _ _)
 intro hc5'
 try simp only[nrm]at hc5'
 refine pe 1 Z (gR Z (xr H Z2 (l1Word_c _ _ hname) ?_));intro _ H
 refine pe 3 Z ?_
 refine R_case (t:=17) Z ?_ ?_
 ·intro hc8
  try simp only[nrm]at hc8
  refine pe 12 Z (q3 (W_true Z (q2 (o_build bf27 Z Z Z (xst 0 H Z8 ?_)))));intro _ H
  refine aG Z (q3 (W_ret (N_K_ret (ret_gen (rs:=[.cell 4 27,.tmp 5]) (vs:=[_,_]) results77 ⟨⟨_,Z,load_blk 0 H isAgg27 sizeOf27 Z Z Z⟩,Z,trivial⟩ ?_))))
  have hN:Sp.SnapTake d name=none:=by simp[Sp.SnapTake,hc8]
  have H:=H.addNil 81 2
  exact H.retO (k:=0) rfl (by rw[hN];exact⟨_,_,_,rfl,AccOf.mk rfl Chk.nil,RdS.nil _ _ _,RdS.nil _ _ _⟩) (acc_nd _ _ _ _ _)
 intro hc8'
 try simp only[nrm]at hc8'
 refine gR Z (fA 2 Z (gR Z (lB 1 H Z3 (pe 1 Z (gR Z (xr H Z2 (l12At_c _ _ H.sub _ _ hr1'' _ hname) ?_))))));intro _ H
 refine pe 3 Z ?_
 refine R_case (t:=24) Z ?_ ?_
 ·intro hc11
  try simp only[nrm]at hc11
  refine pe 5 Z (q3 (W_true Z (q2 (o_build bf27 Z Z Z (xst 0 H Z8 ?_)))));intro _ H
  refine aG Z (q3 (W_ret (N_K_ret (ret_gen (rs:=[.cell 4 27,.tmp 5]) (vs:=[_,_]) results77 ⟨⟨_,Z,load_blk 0 H isAgg27 sizeOf27 Z Z Z⟩,Z,trivial⟩ ?_))))
  have hN:Sp.SnapTake d name=none:=by (obtain⟨_,_,ia,_,_,_,_⟩:=Sp.at_nat hc11);simp[Sp.SnapTake,Sp.atS,ia]
  have H:=H.addNil 81 2
  exact H.retO (k:=0) rfl (by rw[hN];exact⟨_,_,_,rfl,AccOf.mk rfl Chk.nil,RdS.nil _ _ _,RdS.nil _ _ _⟩) (acc_nd _ _ _ _ _)
 intro hc11'
 try simp only[nrm]at hc11'
 refine gR Z (fA 2 Z (gR Z (lB 1 H Z3 (gR Z (lN Z (pe 2 Z (q3 ?_)))))))
 refine W_cond Z ?_ ?_
 ·intro hc13
  try simp only[nrm]at hc13
  refine q2 (o_build bf27 Z Z Z (xst 0 H Z8 ?_));intro _ H
  refine aG Z (q3 (W_ret (N_K_ret (ret_gen (rs:=[.cell 4 27,.tmp 5]) (vs:=[_,_]) results77 ⟨⟨_,Z,load_blk 0 H isAgg27 sizeOf27 Z Z Z⟩,Z,trivial⟩ ?_))))
  have hN:Sp.SnapTake d name=none:=by simp[Sp.SnapTake,show d.snaps.length=6 by omega]
  have H:=H.addNil 81 2
  exact H.retO (k:=0) rfl (by rw[hN];exact⟨_,_,_,rfl,AccOf.mk rfl Chk.nil,RdS.nil _ _ _,RdS.nil _ _ _⟩) (acc_nd _ _ _ _ _)
 intro hc13'
 try simp only[nrm]at hc13'
 refine W_skip (N_K (q2 (fA 0 Z (lB 1 H Z3 (fA 1 Z (lB 1 H Z3 (xc Z2 (l12Keep_c _ _ H.sub _ _ hr1 _ _ hr1') ?_)))))))
 rintro _ _ ⟨_,_,_,g15,rfl,⟨_,rfl,⟨_,rfl,hchk15⟩⟩,hp15,hq15,hs15⟩
 have H:=H.growO g15 hp15 hq15 hs15;obtain⟨_,_,rfl⟩:=H.accShape (k:=0) rfl
 have hr1:=hr1.up g15.le
 have hr1':=hr1'.up g15.le
 have hr1'':=hr1''.up g15.le
 refine⟨_,Z,?_⟩
 have hkl:=Sp.l12Keep_len d.store d.tree
 refine pe 5 Z (q3 (W_seq (q2 (pe 2 Z (q3 ?_)))))
 refine W_cond Z ?_ ?_
 ·intro hc16
  try simp only[nrm]at hc16
  refine q2 (o_build bf27 Z Z Z (xst 1 H Z8 ?_));intro _ H
  refine aG Z (q3 (W_ret (N_K_ret (ret_gen (rs:=[.cell 4 27,.tmp 5]) (vs:=[_,_]) results77 ⟨⟨_,Z,load_blk 1 H isAgg27 sizeOf27 Z Z Z⟩,Z,trivial⟩ ?_))))
  have hN:Sp.SnapTake d name=none:=by (have hno:Sp.l12Keep d.store d.tree=none:=by simpa using hc16);simp[Sp.SnapTake,hno]
  have H:=H.addNil 81 2
  exact H.retO (k:=0) rfl (by rw[hN];exact⟨_,_,_,rfl,AccOf.mk rfl Chk.nil,RdS.nil _ _ _,RdS.nil _ _ _⟩) (acc_nd _ _ _ _ _)
 intro hc16'
 try simp only[nrm]at hc16'
 refine W_skip (N_K (q2 (lA 2 3 H Z4 (xc Z2 (l12Copy_c _ _ H.sub _ d ⟨_,_,_,_,_,_,_,_,_,Z,hr1,hr1',hr1''⟩) ?_))))
 rintro _ _ ⟨G18,_,_,g18,rfl,⟨_,_,_,rfl,⟨_,rfl,hchk18⟩,hr18_0,hr18_1⟩,hp18,hq18,hs18⟩
 have H:=H.growO g18 hp18 hq18 hs18;obtain⟨_,_,rfl⟩:=H.accShape (k:=0) rfl
 have hr1':=hr1'.up g18.le
 have hchk15:=hchk15.up g18.le
 obtain⟨_,_,rfl⟩:=hr18_0.shape;have hx_hr18_0:_≤1099511627776:=hr18_0.lim
 obtain⟨_,_,rfl⟩:=hr18_1.shape;have hx_hr18_1:_≤1099511627776:=hr18_1.lim
 refine⟨_,Z,?_⟩
 refine xal H Z ?_;intro _ _ _ H
 refine xst 0 H Z8 ?_;intro _ H
 refine q1 (mV Z (fA 0 Z (xst 0 H Z8 ?_)));intro _ H
 refine q3 (W_seq (W_drawK [0,3,4] 11 H kR Z ?_));intro _ H;have hd22:=PLe.refl G18
 refine dF 0 2 Z2 (dB 1 0 Z4 (dE 2 Z2 (dF 3 1 Z2 (dB 4 2 Z4 (r1 5 Z (xc Z2 (l5All_c _ _ H.sub _ _ hr1') ?_))))))
 rintro _ _ ⟨_,_,_,g23,rfl,⟨_,rfl,hchk23⟩,hp23,hq23,hs23⟩
 have H:=H.growO g23 hp23 hq23 hs23;obtain⟨_,_,rfl⟩:=H.accShape (k:=0) rfl
 have hchk15:=hchk15.up g23.le
 have hr18_1:=hr18_1.up g23.le
 have hchk18:=hchk18.up g23.le
 have hd22:=hd22.trans g23.le
 refine⟨_,Z,?_⟩
 refine q4 H hd22 (RD_t 6 Z kR Z (fun _ hK=>v_build bf81 Z Z) (r1 7 Z (xbs H Z7 ?_)));intro _ _ _ H
 refine q4 H hd22 (r1 8 Z (o_append1 2 H (sz:=2) (bytes:=40) underlying25 typeInfo81 ⟨_,Z,Z⟩ Z Z Z Z Z Z Z Z Z Z oM Z ?_));intro _ _ H
 obtain⟨_,H,hsg26,hsr26⟩:=H.shut' (k:=0) rfl hchk23 aN aN
 have hchk15:=hchk15.up hsg26
 have hr18_1:=hr18_1.up hsg26
 have hchk18:=hchk18.up hsg26
 have hd22:=hd22.trans hsg26
 have hchk25:=hchk18.snoc (show snapE _ ⟨name,d.tree⟩ _ from⟨_,_,_,rfl,hname,hsr26⟩) rfl
 obtain⟨_,_,rfl⟩:=H.accShape (k:=1) rfl
 refine q4 H hd22 (dF 9 2 Z2 (r1 10 Z (xst 0 H Z8 ?_)));intro _ H
 refine R_nil (N_DKlast kR kR (N_K (q2 (lA 0 3 H Z4 (xst 3 H Z8 ?_)))));intro _ H
 refine aG Z (q3 (W_ret (ret_gen (rs:=[.cell 4 27,.tmp 5]) (vs:=[_,_]) results77 ⟨⟨_,Z,load_blk 3 H isAgg27 sizeOf27 Z Z Z⟩,Z,trivial⟩ ?_)))
 obtain⟨_,H,hsg530,hsr530⟩:=H.shut' (k:=2) rfl hchk15 aN aN
 have hr18_1:=hr18_1.up hsg530
 have hchk25:=hchk25.up hsg530
 have hY:Sp.SnapTake d name=some ⟨(Sp.l12Keep d.store d.tree).getD [],d.tree,d.snaps++[⟨name,d.tree⟩]⟩:=by (obtain⟨_,hp⟩:=Option.isSome_iff_exists.1 hc16');(have hat:Sp.atS d.snaps name=none:=Sp.at_none hc11');simp[Sp.SnapTake,hc5',hc8',hat,hp,show¬d.snaps.length=6 by omega]
 exact H.retO (k:=1) rfl (by rw[hY];exact⟨_,_,_,rfl,AccOf.mk aN hchk25,hsr530,hr18_1⟩) (acc_nd _ _ _ _ _)
theorem SnapTakeP_c (w0:World)(G0:PH)(hG:PSub G0 w0)(cd:List Value)(d:BDisk)(hd:diskE G0 d cd)(name:Bs)(hname:name.length≤16777216) :
  Calls Tryz.prog 77 #[.agg cd.toArray,str name] w0 (RetP w0 G0 (fun G val=>∃cs,val= .tuple #[.agg cs.toArray,.bool (Sp.SnapTake d name).isSome]∧diskE G ((Sp.SnapTake d name).getD ⟨[],[],[]⟩) cs)):=by
 refine(SnapTake_c w0 G0 hG cd d hd name hname).mono ?_
 rintro _ _ ⟨_,_,_,g,rfl,⟨_,_,_,rfl,⟨_,rfl,hchk⟩,h1,h2⟩,hp,hq,hs⟩
 have H:=(Hp.init hG).growO g hp hq hs
 have hb:(((Sp.SnapTake d name).map (·.snaps)).getD []).length≤6:=Sp.dk_lim (fun d1 h=>Sp.take_valid h)
 obtain⟨_,H2,hle,hr⟩:=H.shut' (k:=0) rfl hchk rfl oM
 have e1:((Sp.SnapTake d name).map (·.store)).getD []=((Sp.SnapTake d name).getD ⟨[],[],[]⟩).store:=by cases Sp.SnapTake d name<;>rfl
 have e2:((Sp.SnapTake d name).map (·.tree)).getD []=((Sp.SnapTake d name).getD ⟨[],[],[]⟩).tree:=by cases Sp.SnapTake d name<;>rfl
 have e3:((Sp.SnapTake d name).map (·.snaps)).getD []=((Sp.SnapTake d name).getD ⟨[],[],[]⟩).snaps:=by cases Sp.SnapTake d name<;>rfl
 rw[e1]at h1;rw[e2]at h2;rw[e3]at hr
 obtain⟨_,_,rfl⟩:=h1.shape
 obtain⟨_,_,rfl⟩:=h2.shape
 obtain⟨_,_,rfl⟩:=hr.shape
 exact H2.retP ⟨[_,_,_],Z,_,_,_,_,_,_,_,_,_,Z,h1.up hle,h2.up hle,hr⟩
theorem l12Free_c (w0:World)(G0:PH)(hG:PSub G0 w0)(vstore:Value)(store:List (BHeld))(hstore:RdH G0 vstore store)(vlist:Value)(list:List (BItem))(hlist:RdItems G0 vlist list) :
  Calls Tryz.prog 115 #[vstore,vlist] w0 (RetO w0 G0 (AccOf heldE 3 134 (Sp.l12Free store list))):=by
 obtain⟨astore,kstore,rfl⟩:=hstore.shape
 have hlimstore:store.length≤1099511627776:=hstore.lim
 obtain⟨alist,klist,rfl⟩:=hlist.shape
 have hlimlist:list.length≤1099511627776:=hlist.lim
 have H:=Hp.init hG
 refine calls_of_W (l:=[.slice astore store.length kstore,.slice alist list.length klist]) func115 Z ntmps115 Z (q2 (aG Z (q1 (mV Z (xc Z2 (l3Copy_c _ _ H.sub _ _ hstore) ?_)))))
 rintro _ _ ⟨G1,_,_,g1,rfl,⟨_,rfl,hchk1⟩,hp1,hq1,hs1⟩
 have H:=H.growO g1 hp1 hq1 hs1;obtain⟨_,_,rfl⟩:=H.accShape (k:=0) rfl
 have hlist:=hlist.up g1.le
 refine⟨_,Z,?_⟩
 refine aG Z (q3 (W_seq (q2 (aG Z (q3 (W_block ?_))))))
 refine W_lp (hf:=(Sub.cons (t:=1) Z (Sub.cons (t:=4) Z Sub.nil))) (J:=fun M w m=>∃(v:Value) (n:Nat) (cs:List Value) (xs:List (BHeld)) (k:Nat) (G:PH),M=[(6,.int .i64 (k:Int)),(5,v)]∧PLe G1 G∧Hp w0 G0 [] w G [acc 134 3 v n cs]∧(Chk heldE 3 G cs xs∧n=xs.length∧k≤list.length∧xs.length≤store.length∧xs=Sp.l12Free store (list.take k))∧m=(list.length-k)) (h0:=⟨_,_,_,store,0,_,Z,PLe.refl _,H,?inv,Z⟩) (round:=?round)
 case inv=>exact⟨hchk1,by first|rfl|simp|(simp;omega)|omega,(by exact⟨by omega,by omega,rfl⟩)⟩
 case round =>
  rintro _ _ _ ⟨v,n,cs,xs,k,_,rfl,hle2,H,hinv2,rfl⟩
  have hlist:=hlist.up hle2
  obtain⟨hchk2_0,_,hinv2⟩:=hinv2
  obtain⟨_,_,rfl⟩:=H.accShape (k:=0) rfl
  obtain⟨_,_,hxs⟩:=hinv2
  refine W_seq (q2 (pe 2 Z (lN Z (pe 1 Z (q3 ?_)))))
  refine W_cond Z ?_ ?_
  ·intro hc3
   try simp only[nrm]at hc3
   refine W_skip (N_K (W_seq (W_block (q2 (pe 3 Z (iP k hlist Z3 Z ?_))))));intro _ _ z4 _ hz4 hE4 hrow4
   obtain⟨_,_,_,rfl,_,hr4,_,_⟩:=ox hE4
   refine fA 2 Z (lP H hrow4 2 Z2 ?_)
   obtain⟨_,H,hsg6,hsr6⟩:=H.shut' (k:=0) rfl hchk2_0 aN aN
   have hr4:=hr4.up hsg6
   have hle2:=hle2.trans hsg6
   refine xc Z2 (FileFree_c _ _ H.sub _ _ hsr6 _ _ hr4) ?_
   rintro _ _ ⟨_,_,_,g5,rfl,⟨_,rfl,⟨_,rfl,hchk5⟩⟩,hp5,hq5,hs5⟩
   have H:=H.growO g5 hp5 hq5 hs5;obtain⟨_,_,rfl⟩:=H.accShape (k:=0) rfl
   have hle2:=hle2.trans g5.le
   refine⟨_,Z,?_⟩
   refine pe 5 Z (q3 (W_region (pe 2 Z (R_nil (N_B (N_K (W_region (mV Z (aD Z2 (aG Z (R_nil ?_)))))))))))
   refine N_lp (hJ:=⟨_,_,_,((Sp.FileFree xs z4.ids).getD []),k+1,_,Z,hle2,H,?inv,Z⟩) (hm:=?hm)
   case hm=>omega
   case inv=>exact⟨hchk5,aN,(by exact⟨by omega,by (have:=Sp.free_len xs z4.ids;omega),by (rw[Sp.l12Free_succ hz4,←hxs])⟩)⟩
  intro hc3'
  try simp only[nrm]at hc3'
  refine W_exit (N_K_exit (N_LP_exit (N_B_same (N_K (q2 (pe 2 Z (q3 (W_ret (rt1 results115 Z ?_)))))))))
  obtain rfl:k=list.length:=by omega
  rw[List.take_length]at hxs
  subst hxs
  exact H.retO (k:=0) rfl (AccOf.mk (by assumption) hchk2_0) (acc_nd _ _ _ _ _)
theorem SnapBack_c (w0:World)(G0:PH)(hG:PSub G0 w0)(cd:List Value)(d:BDisk)(hd:diskE G0 d cd)(name:Bs)(hname:name.length≤16777216) :
  Calls Tryz.prog 78 #[.agg cd.toArray,str name] w0 (RetO w0 G0 (fun G val r=>∃u u1 u2,val= .tuple #[.agg #[u,u1,u2],.bool (Sp.SnapBack d name).isSome]∧AccOf snapE 2 81 (((Sp.SnapBack d name).map (·.snaps)).getD []) G u2 r∧RdH G u (((Sp.SnapBack d name).map (·.store)).getD [])∧RdItems G u1 (((Sp.SnapBack d name).map (·.tree)).getD []))):=by
 obtain⟨_,_,_,_,_,_,_,_,_,rfl,hr1,hr1',hr1'',⟨_,_⟩,⟨_,_⟩,_,_⟩:=ox hd
 have H:=Hp.init hG
 refine calls_of_W (l:=[_,str name]) func78 Z ntmps78 Z (q2 (o_box H Z Z Z ?_));intro _ _ _ H
 refine xal H Z ?_;intro _ _ _ H
 refine aG Z (q1 (fA 2 Z (lB 1 H Z3 (mV Z (xr H Z2 (l12At_c _ _ H.sub _ _ hr1'' _ hname) ?_)))));intro _ H
 refine aG Z (q3 (W_seq (q2 (lA 1 3 H Z4 (xr H Z2 (DiskValid_c _ _ H.sub _ d ⟨_,_,_,_,_,_,_,_,_,Z,hr1,hr1',hr1''⟩) ?_)))));intro _ H
 refine pe 2 Z ?_
 refine R_case (t:=17) Z ?_ ?_
 ·intro hc6
  try simp only[nrm]at hc6
  refine pe 3 Z (q3 (W_true Z (q2 (o_build bf27 Z Z Z (xst 0 H Z8 ?_)))));intro _ H
  refine aG Z (q3 (W_ret (N_K_ret (ret_gen (rs:=[.cell 4 27,.tmp 5]) (vs:=[_,_]) results78 ⟨⟨_,Z,load_blk 0 H isAgg27 sizeOf27 Z Z Z⟩,Z,trivial⟩ ?_))))
  have hN:Sp.SnapBack d name=none:=by exact Sp.back_nov (by simpa using hc6)
  have H:=H.addNil 81 2
  exact H.retO (k:=0) rfl (by rw[hN];exact⟨_,_,_,rfl,AccOf.mk rfl Chk.nil,RdS.nil _ _ _,RdS.nil _ _ _⟩) (acc_nd _ _ _ _ _)
 intro hc6'
 try simp only[nrm]at hc6'
 refine pe 3 Z (q3 ?_)
 refine W_cond Z ?_ ?_
 ·intro hc8
  try simp only[nrm]at hc8
  refine q2 (o_build bf27 Z Z Z (xst 0 H Z8 ?_));intro _ H
  refine aG Z (q3 (W_ret (N_K_ret (ret_gen (rs:=[.cell 4 27,.tmp 5]) (vs:=[_,_]) results78 ⟨⟨_,Z,load_blk 0 H isAgg27 sizeOf27 Z Z Z⟩,Z,trivial⟩ ?_))))
  have hN:Sp.SnapBack d name=none:=by exact Sp.back_noat (by simpa [Sp.l12At] using hc8)
  have H:=H.addNil 81 2
  exact H.retO (k:=0) rfl (by rw[hN];exact⟨_,_,_,rfl,AccOf.mk rfl Chk.nil,RdS.nil _ _ _,RdS.nil _ _ _⟩) (acc_nd _ _ _ _ _)
 intro hc8'
 try simp only[nrm]at hc8'
 obtain⟨i,_,ia,ib,_,_,_⟩:=Sp.at_nat hc8'
 have ib:Sp.l12At d.snaps name=(i:Int):=ib
 have hat:Sp.atS d.snaps name=some i:=ia
 refine W_skip (N_K (W_seq (W_drawK [0,1] 14 H kR Z ?_)));intro _ H;have hd10:=PLe.refl G0
 refine dF 0 0 Z2 (dB 1 1 Z4 (dF 2 2 Z2 (dB 3 1 Z4 (dE 4 Z2 ?_))))
 have hl11:=hr1''.len
 obtain⟨_,_,z11,_,ha11,hz11,hq11,hE11,hrow11,_⟩:=hr1''.at (i:=i) oM
 clear hq11
 obtain⟨_,_,_,rfl,_,hr11,_,_⟩:=ox hE11
 refine dI 5 2 i ha11 Z3 ib (dF 6 1 Z2 (dP 7 hrow11 1 Z3 (r1 8 Z (xc Z2 (l12Keep_c _ _ H.sub _ _ hr1 _ _ hr11) ?_))))
 rintro _ _ ⟨_,_,_,g12,rfl,⟨_,rfl,⟨_,rfl,hchk12⟩⟩,hp12,hq12,hs12⟩
 have H:=H.growO g12 hp12 hq12 hs12;obtain⟨_,_,rfl⟩:=H.accShape (k:=0) rfl
 have hr1:=hr1.up g12.le
 have hr1':=hr1'.up g12.le
 have hr1'':=hr1''.up g12.le
 have hd10:=hd10.trans g12.le
 refine⟨_,Z,?_⟩
 have hkl:=Sp.l12Keep_len d.store z11.tree
 refine q4 H hd10 (dE 9 Z2 (dE 10 Z2 (dE 11 Z2 (dE 12 Z2 (dE 13 Z2 (rz (N_K (W_seq (q2 (pe 2 Z (q3 ?_)))))))))))
 refine W_cond Z ?_ ?_
 ·intro hc13
  try simp only[nrm]at hc13
  refine q2 (o_build bf27 Z Z Z (xst 1 H Z8 ?_));intro _ H
  refine aG Z (q3 (W_ret (N_K_ret (ret_gen (rs:=[.cell 4 27,.tmp 5]) (vs:=[_,_]) results78 ⟨⟨_,Z,load_blk 1 H isAgg27 sizeOf27 Z Z Z⟩,Z,trivial⟩ ?_))))
  have hN:Sp.SnapBack d name=none:=by (have hno:Sp.l12Keep d.store z11.tree=none:=by simpa using hc13);(rw[Sp.back_eq (by simpa using hc6') hat hz11,hno];rfl)
  have H:=H.addNil 81 2
  exact H.retO (k:=0) rfl (by rw[hN];exact⟨_,_,_,rfl,AccOf.mk rfl Chk.nil,RdS.nil _ _ _,RdS.nil _ _ _⟩) (acc_nd _ _ _ _ _)
 intro hc13'
 try simp only[nrm]at hc13'
 refine W_skip (N_K (q2 (lA 2 3 H Z4 (xc Z2 (l12Copy_c _ _ H.sub _ d ⟨_,_,_,_,_,_,_,_,_,Z,hr1,hr1',hr1''⟩) ?_))))
 rintro _ _ ⟨_,_,_,g15,rfl,⟨_,_,_,rfl,⟨_,rfl,hchk15⟩,hr15_0,hr15_1⟩,hp15,hq15,hs15⟩
 have H:=H.growO g15 hp15 hq15 hs15;obtain⟨_,_,rfl⟩:=H.accShape (k:=0) rfl
 have hr1':=hr1'.up g15.le
 have hr1'':=hr1''.up g15.le
 have hchk12:=hchk12.up g15.le
 obtain⟨_,_,rfl⟩:=hr15_0.shape;have hx_hr15_0:_≤1099511627776:=hr15_0.lim
 obtain⟨_,_,rfl⟩:=hr15_1.shape;have hx_hr15_1:_≤1099511627776:=hr15_1.lim
 refine⟨_,Z,?_⟩
 refine xal H Z ?_;intro _ _ _ H
 refine xst 0 H Z8 ?_;intro _ H
 refine q1 (mV Z (fA 1 Z (lB 4 H Z3 ?_)))
 obtain⟨_,H,hsg19,hsr19⟩:=H.shut' (k:=2) rfl hchk12 aN aN
 have hr1':=hr1'.up hsg19
 have hr1'':=hr1''.up hsg19
 have hchk15:=hchk15.up hsg19
 refine xc Z2 (l12Free_c _ _ H.sub _ _ hsr19 _ _ hr1') ?_
 rintro _ _ ⟨_,_,_,g18,rfl,⟨_,rfl,hchk18⟩,hp18,hq18,hs18⟩
 have H:=H.growO g18 hp18 hq18 hs18;obtain⟨_,_,rfl⟩:=H.accShape (k:=0) rfl
 have hr1'':=hr1''.up g18.le
 have hchk15:=hchk15.up g18.le
 refine⟨_,Z,?_⟩
 have hfl2:=Sp.l12Free_len d.tree ((Sp.l12Keep d.store z11.tree).getD [])
 refine fA 0 Z (xst 1 H Z8 ?_);intro _ H
 refine q1 (fA 2 Z (lB 4 H Z3 (mV Z (iP i hr1'' Z3 ib ?_))));intro _ _ z21 _ hz21 hE21 hrow21
 obtain⟨_,_,_,rfl,_,hr21,_,_⟩:=ox hE21
 refine fA 1 Z (lP H hrow21 1 Z2 (xc Z2 (l5All_c _ _ H.sub _ _ hr21) ?_))
 rintro _ _ ⟨_,_,_,g22,rfl,⟨_,rfl,hchk22⟩,hp22,hq22,hs22⟩
 have H:=H.growO g22 hp22 hq22 hs22;obtain⟨_,_,rfl⟩:=H.accShape (k:=0) rfl
 have hchk15:=hchk15.up g22.le
 have hchk18:=hchk18.up g22.le
 refine⟨_,Z,?_⟩
 refine fA 1 Z (xst 2 H Z8 ?_);intro _ H
 refine q1 (lA 2 3 H Z4 (xst 4 H Z8 ?_));intro _ H
 refine aG Z (q3 (W_ret (ret_gen (rs:=[.cell 4 27,.tmp 5]) (vs:=[_,_]) results78 ⟨⟨_,Z,load_blk 4 H isAgg27 sizeOf27 Z Z Z⟩,Z,trivial⟩ ?_)))
 have hzz:=Option.some.inj (hz21.symm.trans hz11);subst hzz
 obtain⟨_,H,hsg526,hsr526⟩:=H.shut' (k:=1) rfl hchk18 aN aN
 have hchk15:=hchk15.up hsg526
 have hchk22:=hchk22.up hsg526
 obtain⟨_,H,hsg527,hsr527⟩:=H.shut' (k:=0) rfl hchk22 aN aN
 have hchk15:=hchk15.up hsg527
 have hsr526:=hsr526.up hsg527
 have hY:Sp.SnapBack d name=some ⟨Sp.l12Free ((Sp.l12Keep d.store z21.tree).getD []) d.tree,z21.tree,d.snaps⟩:=by (obtain⟨_,hp⟩:=Option.isSome_iff_exists.1 hc13');(rw[Sp.back_eq (by simpa using hc6') hat hz21,hp];rfl)
 exact H.retO (k:=1) rfl (by rw[hY];exact⟨_,_,_,rfl,AccOf.mk aN hchk15,hsr526,hsr527⟩) (acc_nd _ _ _ _ _)
theorem DiskWrite_c (w0:World)(G0:PH)(hG:PSub G0 w0)(cd:List Value)(d:BDisk)(hd:diskE G0 d cd)(path:Bs)(hpath:path.length≤16777216)(vbytes:Value)(bytes:List (Int))(hbytes:RdI G0 vbytes bytes) :
  Calls Tryz.prog 79 #[.agg cd.toArray,str path,vbytes] w0 (RetO w0 G0 (fun G val r=>∃u u1 u2,val= .tuple #[.agg #[u,u1,u2],.bool (Sp.DiskWrite d path bytes).isSome]∧AccOf snapE 2 81 (((Sp.DiskWrite d path bytes).map (·.snaps)).getD []) G u2 r∧RdH G u (((Sp.DiskWrite d path bytes).map (·.store)).getD [])∧RdItems G u1 (((Sp.DiskWrite d path bytes).map (·.tree)).getD []))):=by
 obtain⟨_,_,_,_,_,_,_,_,_,rfl,hr1,hr1',hr1'',⟨_,_⟩,⟨_,_⟩,_,_⟩:=ox hd
 obtain⟨abytes,kbytes,rfl⟩:=hbytes.shape
 have hlimbytes:bytes.length≤1099511627776:=hbytes.lim
 have H:=Hp.init hG
 refine calls_of_W (l:=[_,str path,.slice abytes bytes.length kbytes]) func79 Z ntmps79 Z (q2 (o_box H Z Z Z ?_));intro _ _ _ H
 refine xal H Z ?_;intro _ _ _ H
 refine aG Z (q3 (W_seq (q2 (lA 1 3 H Z4 (xr H Z2 (DiskValid_c _ _ H.sub _ d ⟨_,_,_,_,_,_,_,_,_,Z,hr1,hr1',hr1''⟩) ?_)))));intro _ H
 refine pe 2 Z ?_
 refine R_case (t:=14) Z ?_ ?_
 ·intro hc5
  try simp only[nrm]at hc5
  refine pe 4 Z (q3 (W_true Z (q2 (o_build bf27 Z Z Z (xst 0 H Z8 ?_)))));intro _ H
  refine aG Z (q3 (W_ret (N_K_ret (ret_gen (rs:=[.cell 6 27,.tmp 7]) (vs:=[_,_]) results79 ⟨⟨_,Z,load_blk 0 H isAgg27 sizeOf27 Z Z Z⟩,Z,trivial⟩ ?_))))
  have hN:Sp.DiskWrite d path bytes=none:=by simp[Sp.DiskWrite,hc5]
  have H:=H.addNil 81 2
  exact H.retO (k:=0) rfl (by rw[hN];exact⟨_,_,_,rfl,AccOf.mk rfl Chk.nil,RdS.nil _ _ _,RdS.nil _ _ _⟩) (acc_nd _ _ _ _ _)
 intro hc5'
 try simp only[nrm]at hc5'
 refine pe 1 Z (gR Z (xr H Z2 (FileValid_c _ _ H.sub _ _ hbytes) ?_));intro _ H
 refine pe 2 Z (q3 ?_)
 refine W_cond Z ?_ ?_
 ·intro hc8
  try simp only[nrm]at hc8
  refine q2 (o_build bf27 Z Z Z (xst 0 H Z8 ?_));intro _ H
  refine aG Z (q3 (W_ret (N_K_ret (ret_gen (rs:=[.cell 6 27,.tmp 7]) (vs:=[_,_]) results79 ⟨⟨_,Z,load_blk 0 H isAgg27 sizeOf27 Z Z Z⟩,Z,trivial⟩ ?_))))
  have hN:Sp.DiskWrite d path bytes=none:=by simp[Sp.DiskWrite,hc8]
  have H:=H.addNil 81 2
  exact H.retO (k:=0) rfl (by rw[hN];exact⟨_,_,_,rfl,AccOf.mk rfl Chk.nil,RdS.nil _ _ _,RdS.nil _ _ _⟩) (acc_nd _ _ _ _ _)
 intro hc8'
 try simp only[nrm]at hc8'
 have hfl:=Sp.file_len hc8'
 refine W_skip (N_K (q2 (fA 0 Z (lB 1 H Z3 (fA 1 Z (lB 1 H Z3 (o_build bf90 Z Z Z (pe 2 Z (xc Z2 (l11Write_c _ _ H.sub _ ⟨d.store,d.tree⟩ ⟨_,_,_,_,_,_,Z,hr1,hr1'⟩ _ hpath _ _ hbytes oM) ?_)))))))))
 rintro _ _ ⟨_,_,_,g10,rfl,⟨_,_,rfl,⟨_,rfl,hchk10⟩,hr10_1⟩,hp10,hq10,hs10⟩
 have H:=H.growO g10 hp10 hq10 hs10;obtain⟨_,_,rfl⟩:=H.accShape (k:=0) rfl
 have hr1:=hr1.up g10.le
 have hr1':=hr1'.up g10.le
 have hr1'':=hr1''.up g10.le
 obtain⟨_,_,rfl⟩:=hr10_1.shape;have hx_hr10_1:_≤1099511627776:=hr10_1.lim
 refine⟨_,Z,?_⟩
 have hwl:=Sp.l11Write_slen ⟨d.store,d.tree⟩ path bytes
 refine pe 3 Z (xal H Z ?_);intro _ _ _ H
 refine xst 0 H Z8 ?_;intro _ H
 refine aG Z (q3 (W_seq (q2 (pe 2 Z (q3 ?_)))))
 refine W_cond Z ?_ ?_
 ·intro hc13
  try simp only[nrm]at hc13
  refine q2 (o_build bf27 Z Z Z (xst 2 H Z8 ?_));intro _ H
  refine aG Z (q3 (W_ret (N_K_ret (ret_gen (rs:=[.cell 6 27,.tmp 7]) (vs:=[_,_]) results79 ⟨⟨_,Z,load_blk 2 H isAgg27 sizeOf27 Z Z Z⟩,Z,trivial⟩ ?_))))
  have hN:Sp.DiskWrite d path bytes=none:=by (have hno:Sp.l11Write ⟨d.store,d.tree⟩ path bytes=none:=by simpa using hc13);simp[Sp.DiskWrite,hno]
  have H:=H.addNil 81 2
  exact H.retO (k:=0) rfl (by rw[hN];exact⟨_,_,_,rfl,AccOf.mk rfl Chk.nil,RdS.nil _ _ _,RdS.nil _ _ _⟩) (acc_nd _ _ _ _ _)
 intro hc13'
 try simp only[nrm]at hc13'
 refine W_skip (N_K (q2 (lA 3 3 H Z4 (xc Z2 (l12Copy_c _ _ H.sub _ d ⟨_,_,_,_,_,_,_,_,_,Z,hr1,hr1',hr1''⟩) ?_))))
 rintro _ _ ⟨_,_,_,g15,rfl,⟨_,_,_,rfl,⟨_,rfl,hchk15⟩,hr15_0,hr15_1⟩,hp15,hq15,hs15⟩
 have H:=H.growO g15 hp15 hq15 hs15;obtain⟨_,_,rfl⟩:=H.accShape (k:=0) rfl
 have hchk10:=hchk10.up g15.le
 have hr10_1:=hr10_1.up g15.le
 obtain⟨_,_,rfl⟩:=hr15_0.shape;have hx_hr15_0:_≤1099511627776:=hr15_0.lim
 obtain⟨_,_,rfl⟩:=hr15_1.shape;have hx_hr15_1:_≤1099511627776:=hr15_1.lim
 refine⟨_,Z,?_⟩
 refine xal H Z ?_;intro _ _ _ H
 refine xst 0 H Z8 ?_;intro _ H
 refine q1 (fA 0 Z (lB 2 H Z3 (fA 0 Z (xst 0 H Z8 ?_))));intro _ H
 refine q1 (fA 1 Z (lB 2 H Z3 (fA 1 Z (xst 0 H Z8 ?_))));intro _ H
 refine q1 (lA 0 3 H Z4 (xst 4 H Z8 ?_));intro _ H
 refine aG Z (q3 (W_ret (ret_gen (rs:=[.cell 6 27,.tmp 7]) (vs:=[_,_]) results79 ⟨⟨_,Z,load_blk 4 H isAgg27 sizeOf27 Z Z Z⟩,Z,trivial⟩ ?_)))
 obtain⟨_,H,hsg524,hsr524⟩:=H.shut' (k:=3) rfl hchk10 aN aN
 have hr10_1:=hr10_1.up hsg524
 have hchk15:=hchk15.up hsg524
 have hY:Sp.DiskWrite d path bytes=some ⟨((Sp.l11Write ⟨d.store,d.tree⟩ path bytes).map (·.store)).getD [],((Sp.l11Write ⟨d.store,d.tree⟩ path bytes).map (·.tree)).getD [],d.snaps⟩:=by (obtain⟨_,hp⟩:=Option.isSome_iff_exists.1 hc13');simp[Sp.DiskWrite,hc5',hc8',hp]
 exact H.retO (k:=1) rfl (by rw[hY];exact⟨_,_,_,rfl,AccOf.mk aN hchk15,hsr524,hr10_1⟩) (acc_nd _ _ _ _ _)
theorem SnapBackP_c (w0:World)(G0:PH)(hG:PSub G0 w0)(cd:List Value)(d:BDisk)(hd:diskE G0 d cd)(name:Bs)(hname:name.length≤16777216) :
  Calls Tryz.prog 78 #[.agg cd.toArray,str name] w0 (RetP w0 G0 (fun G val=>∃cs,val= .tuple #[.agg cs.toArray,.bool (Sp.SnapBack d name).isSome]∧diskE G ((Sp.SnapBack d name).getD ⟨[],[],[]⟩) cs)):=by
 refine(SnapBack_c w0 G0 hG cd d hd name hname).mono ?_
 rintro _ _ ⟨_,_,_,g,rfl,⟨_,_,_,rfl,⟨_,rfl,hchk⟩,h1,h2⟩,hp,hq,hs⟩
 have H:=(Hp.init hG).growO g hp hq hs
 have hb:(((Sp.SnapBack d name).map (·.snaps)).getD []).length≤6:=Sp.dk_lim (fun d1 h=>Sp.back_valid h)
 obtain⟨_,H2,hle,hr⟩:=H.shut' (k:=0) rfl hchk rfl oM
 have e1:((Sp.SnapBack d name).map (·.store)).getD []=((Sp.SnapBack d name).getD ⟨[],[],[]⟩).store:=by cases Sp.SnapBack d name<;>rfl
 have e2:((Sp.SnapBack d name).map (·.tree)).getD []=((Sp.SnapBack d name).getD ⟨[],[],[]⟩).tree:=by cases Sp.SnapBack d name<;>rfl
 have e3:((Sp.SnapBack d name).map (·.snaps)).getD []=((Sp.SnapBack d name).getD ⟨[],[],[]⟩).snaps:=by cases Sp.SnapBack d name<;>rfl
 rw[e1]at h1;rw[e2]at h2;rw[e3]at hr
 obtain⟨_,_,rfl⟩:=h1.shape
 obtain⟨_,_,rfl⟩:=h2.shape
 obtain⟨_,_,rfl⟩:=hr.shape
 exact H2.retP ⟨[_,_,_],Z,_,_,_,_,_,_,_,_,_,Z,h1.up hle,h2.up hle,hr⟩
theorem DiskWriteP_c (w0:World)(G0:PH)(hG:PSub G0 w0)(cd:List Value)(d:BDisk)(hd:diskE G0 d cd)(path:Bs)(hpath:path.length≤16777216)(vbytes:Value)(bytes:List Int)(hbytes:RdI G0 vbytes bytes) :
  Calls Tryz.prog 79 #[.agg cd.toArray,str path,vbytes] w0 (RetP w0 G0 (fun G val=>∃cs,val= .tuple #[.agg cs.toArray,.bool (Sp.DiskWrite d path bytes).isSome]∧diskE G ((Sp.DiskWrite d path bytes).getD ⟨[],[],[]⟩) cs)):=by
 refine(DiskWrite_c w0 G0 hG cd d hd path hpath vbytes bytes hbytes).mono ?_
 rintro _ _ ⟨_,_,_,g,rfl,⟨_,_,_,rfl,⟨_,rfl,hchk⟩,h1,h2⟩,hp,hq,hs⟩
 have H:=(Hp.init hG).growO g hp hq hs
 have hb:(((Sp.DiskWrite d path bytes).map (·.snaps)).getD []).length≤6:=Sp.dk_lim (fun d1 h=>Sp.dwrite_valid h)
 obtain⟨_,H2,hle,hr⟩:=H.shut' (k:=0) rfl hchk rfl oM
 have e1:((Sp.DiskWrite d path bytes).map (·.store)).getD []=((Sp.DiskWrite d path bytes).getD ⟨[],[],[]⟩).store:=by cases Sp.DiskWrite d path bytes<;>rfl
 have e2:((Sp.DiskWrite d path bytes).map (·.tree)).getD []=((Sp.DiskWrite d path bytes).getD ⟨[],[],[]⟩).tree:=by cases Sp.DiskWrite d path bytes<;>rfl
 have e3:((Sp.DiskWrite d path bytes).map (·.snaps)).getD []=((Sp.DiskWrite d path bytes).getD ⟨[],[],[]⟩).snaps:=by cases Sp.DiskWrite d path bytes<;>rfl
 rw[e1]at h1;rw[e2]at h2;rw[e3]at hr
 obtain⟨_,_,rfl⟩:=h1.shape
 obtain⟨_,_,rfl⟩:=h2.shape
 obtain⟨_,_,rfl⟩:=hr.shape
 exact H2.retP ⟨[_,_,_],Z,_,_,_,_,_,_,_,_,_,Z,h1.up hle,h2.up hle,hr⟩
theorem l91Turn_c (w0:World)(G0:PH)(hG:PSub G0 w0)(rb:Nat)(ab:Option Addr)(mb kb:Nat)(bs:List UInt8)(p:Nat)(hbs:RdU G0 (.slice ab mb kb) bs)(hrb:w0.heap[rb]? = some (cl [.slice ab mb kb,.int .i64 (p:Int)] 88))(hrn:G0 rb=none)(hp:p≤100000000)(cd:List Value)(d:BDisk)(hd:diskE G0 d cd) :
  Calls Tryz.prog 42 #[.pointer (some ⟨rb,0,none⟩),.agg cd.toArray] w0 (RetM w0 G0 [rb] (fun G val Bs=>∃(p':Nat) (v1 v2 v3:Value) (st:List BHeld) (tr:List BItem) (sn:List BSnap) (b:Bool),p'≤p+200∧val= .tuple #[.agg #[v1,v2,v3],.bool b]∧RdH G v1 st∧RdItems G v2 tr∧RdSn G v3 sn∧Bs=[blk rb (cl [.slice ab mb kb,.int .i64 (p':Int)] 88)])):=by
 have hlimbs:bs.length≤1099511627776:=hbs.lim;obtain rfl:mb=bs.length:=hbs.len
 obtain⟨_,_,_,_,_,_,_,_,_,rfl,hr1,hr1',hr1'',⟨_,_⟩,⟨_,_⟩,_,_⟩:=ox hd
 have H:=Hp.initM hG hrb hrn
 refine calls_of_W (l:=[.pointer (some ⟨rb,0,none⟩),_]) func42 Z ntmps42 Z (q2 (o_box H Z Z Z ?_));intro _ _ _ H
 refine xal H Z ?_;intro _ _ _ H
 refine aG Z (q3 (W_seq (q2 (mV Z (xc Z2 (pick_c _ _ H.sub _ _ _ _ _ _ hbs (H.blkIs (k:=2) Z).1 (H.blkIs (k:=2) Z).2 oM _ oO) ?_)))))
 rintro _ _ ⟨G4,_,_,rfl,H4',⟨_,_,_,rfl,_,rfl⟩⟩
 have hbs:=hbs.up H4'.le
 have hr1:=hr1.up H4'.le
 have hr1':=hr1'.up H4'.le
 have hr1'':=hr1''.up H4'.le
 have H:=H.borrow (k:=2) rfl H4'
 refine⟨_,Z,?_⟩
 refine q3 (W_block (W_seq (q2 (pe 2 Z (q3 ?_)))))
 refine W_cond Z ?_ ?_
 ·intro hc5
  try simp only[nrm]at hc5
  refine W_skip (N_K ?_)
  refine W_cond Z ?_ ?_
  ·intro hc6
   try simp only[nrm]at hc6
   refine W_seq (W_drawK [2] 9 H kR Z ?_);intro _ H;have hd7:=PLe.refl G4
   refine RD_t 0 Z kR Z (fun _ hK=>v_loadagg_B 0 hK isAgg27 sizeOf27 Z Z Z Z) (dE 1 Z2 (r1 2 Z (xbs H Z7 ?_)));intro _ _ _ H
   refine q4 H hd7 (r1 3 Z ?_)
   have H:=H.blkAcc 1 (k:=0) (n:=3) rfl rfl (by decide)
   have hchk10:=((((Chk.nil (E:=strE) (sz:=1) (G:=G4)).snoc (show strE _ ([115]:Fw.Bs) [str [115]] from⟨rfl,by decide⟩) rfl).snoc (show strE _ ([116]:Fw.Bs) [str [116]] from⟨rfl,by decide⟩) rfl).snoc (show strE _ ([117]:Fw.Bs) [str [117]] from⟨rfl,by decide⟩) rfl)
   obtain⟨_,H,hsg11,hsr11⟩:=H.shutM (k:=0) (j:=0) rfl rfl hchk10 aN aN
   have hbs:=hbs.up hsg11
   have hr1:=hr1.up hsg11
   have hr1':=hr1'.up hsg11
   have hr1'':=hr1''.up hsg11
   have hd7:=hd7.trans hsg11
   refine xc Z2 (of_c _ _ H.sub _ _ _ _ _ _ hbs (H.blkIs (k:=0) Z).1 (H.blkIs (k:=0) Z).2 oM _ _ hsr11 (by first|decide|(simp;done)|(simp;omega))) ?_
   rintro _ _ ⟨_,_,_,rfl,H9',⟨_,_,_,rfl,hxs9,rfl⟩⟩
   have hr1:=hr1.up H9'.le
   have hr1':=hr1'.up H9'.le
   have hr1'':=hr1''.up H9'.le
   have hd7:=hd7.trans H9'.le
   have H:=H.borrow (k:=0) rfl H9'
   refine⟨_,Z,?_⟩
   refine q4 H hd7 (r1 4 Z (xc Z2 (SnapTakeP_c _ _ H.sub _ d ⟨_,_,_,_,_,_,_,_,_,Z,hr1,hr1',hr1''⟩ _ hxs9) ?_))
   rintro _ _ ⟨_,_,g12,rfl,_,rfl,hr12_0⟩
   have H:=H.grow g12
   have hd7:=hd7.trans g12.le
   obtain⟨_,_,_,_,_,_,_,_,_,rfl,hr13,hr13',hr13'',⟨_,_⟩,⟨_,_⟩,_,_⟩:=ox hr12_0
   refine⟨_,Z,?_⟩
   refine q4 H hd7 (dE 5 Z2 (dE 6 Z2 (r1 7 Z (xst 1 H Z8 ?_))));intro _ H
   refine q4 H hd7 (dE 8 Z2 (rz (N_K (W_ret (N_B_ret (N_K_ret (ret_gen (rs:=[.cell 4 27,.tmp 5]) (vs:=[_,_]) results42 ⟨⟨_,Z,load_blk 1 H isAgg27 sizeOf27 Z Z Z⟩,Z,trivial⟩ ?_)))))))
   have H:=H.dl 1
   have H:=H.dl 1
   exact H.retM ⟨_,_,_,_,_,_,_,_,oM,Z,hr13,hr13',hr13'',Z⟩
  intro hc6'
  try simp only[nrm]at hc6'
  refine q2 (pe 2 Z (q3 ?_))
  refine W_cond Z ?_ ?_
  ·intro hc15
   try simp only[nrm]at hc15
   refine W_seq (W_drawK [2] 9 H kR Z ?_);intro _ H;have hd16:=PLe.refl G4
   refine RD_t 0 Z kR Z (fun _ hK=>v_loadagg_B 0 hK isAgg27 sizeOf27 Z Z Z Z) (dE 1 Z2 (r1 2 Z (xbs H Z7 ?_)));intro _ _ _ H
   refine q4 H hd16 (r1 3 Z ?_)
   have H:=H.blkAcc 1 (k:=0) (n:=2) rfl rfl (by decide)
   have hchk19:=(((Chk.nil (E:=strE) (sz:=1) (G:=G4)).snoc (show strE _ ([115]:Fw.Bs) [str [115]] from⟨rfl,by decide⟩) rfl).snoc (show strE _ ([116]:Fw.Bs) [str [116]] from⟨rfl,by decide⟩) rfl)
   obtain⟨_,H,hsg20,hsr20⟩:=H.shutM (k:=0) (j:=0) rfl rfl hchk19 aN aN
   have hbs:=hbs.up hsg20
   have hr1:=hr1.up hsg20
   have hr1':=hr1'.up hsg20
   have hr1'':=hr1''.up hsg20
   have hd16:=hd16.trans hsg20
   refine xc Z2 (of_c _ _ H.sub _ _ _ _ _ _ hbs (H.blkIs (k:=0) Z).1 (H.blkIs (k:=0) Z).2 oM _ _ hsr20 (by first|decide|(simp;done)|(simp;omega))) ?_
   rintro _ _ ⟨_,_,_,rfl,H18',⟨_,_,_,rfl,hxs18,rfl⟩⟩
   have hr1:=hr1.up H18'.le
   have hr1':=hr1'.up H18'.le
   have hr1'':=hr1''.up H18'.le
   have hd16:=hd16.trans H18'.le
   have H:=H.borrow (k:=0) rfl H18'
   refine⟨_,Z,?_⟩
   refine q4 H hd16 (r1 4 Z (xc Z2 (SnapBackP_c _ _ H.sub _ d ⟨_,_,_,_,_,_,_,_,_,Z,hr1,hr1',hr1''⟩ _ hxs18) ?_))
   rintro _ _ ⟨_,_,g21,rfl,_,rfl,hr21_0⟩
   have H:=H.grow g21
   have hd16:=hd16.trans g21.le
   obtain⟨_,_,_,_,_,_,_,_,_,rfl,hr22,hr22',hr22'',⟨_,_⟩,⟨_,_⟩,_,_⟩:=ox hr21_0
   refine⟨_,Z,?_⟩
   refine q4 H hd16 (dE 5 Z2 (dE 6 Z2 (r1 7 Z (xst 1 H Z8 ?_))));intro _ H
   refine q4 H hd16 (dE 8 Z2 (rz (N_K (W_ret (N_B_ret (N_K_ret (ret_gen (rs:=[.cell 4 27,.tmp 5]) (vs:=[_,_]) results42 ⟨⟨_,Z,load_blk 1 H isAgg27 sizeOf27 Z Z Z⟩,Z,trivial⟩ ?_)))))))
   have H:=H.dl 1
   have H:=H.dl 1
   exact H.retM ⟨_,_,_,_,_,_,_,_,oM,Z,hr22,hr22',hr22'',Z⟩
  intro hc15'
  try simp only[nrm]at hc15'
  refine W_skip (N_B (N_K (q2 (mV Z (xbs H Z7 ?_)))));intro _ _ _ H
  have H:=H.blkAcc 1 (k:=0) (n:=5) rfl rfl (by decide)
  have hchk26:=((((((Chk.nil (E:=strE) (sz:=1) (G:=G4)).snoc (show strE _ ([99]:Fw.Bs) [str [99]] from⟨rfl,by decide⟩) rfl).snoc (show strE _ ([97,47,121]:Fw.Bs) [str [97,47,121]] from⟨rfl,by decide⟩) rfl).snoc (show strE _ ([98,47,120]:Fw.Bs) [str [98,47,120]] from⟨rfl,by decide⟩) rfl).snoc (show strE _ ([97,47,120,47,112]:Fw.Bs) [str [97,47,120,47,112]] from⟨rfl,by decide⟩) rfl).snoc (show strE _ ([100]:Fw.Bs) [str [100]] from⟨rfl,by decide⟩) rfl)
  obtain⟨_,H,hsg27,hsr27⟩:=H.shutM (k:=0) (j:=0) rfl rfl hchk26 aN aN
  have hbs:=hbs.up hsg27
  have hr1:=hr1.up hsg27
  have hr1':=hr1'.up hsg27
  have hr1'':=hr1''.up hsg27
  refine xc Z2 (of_c _ _ H.sub _ _ _ _ _ _ hbs (H.blkIs (k:=0) Z).1 (H.blkIs (k:=0) Z).2 oM _ _ hsr27 (by first|decide|(simp;done)|(simp;omega))) ?_
  rintro _ _ ⟨G25,_,_,rfl,H25',⟨_,_,_,rfl,hxs25,rfl⟩⟩
  have hbs:=hbs.up H25'.le
  have hr1:=hr1.up H25'.le
  have hr1':=hr1'.up H25'.le
  have hr1'':=hr1''.up H25'.le
  have H:=H.borrow (k:=0) rfl H25'
  refine⟨_,Z,?_⟩
  refine aG Z (q3 (W_seq (W_drawK [2] 9 H kR Z ?_)));intro _ H;have hd28:=PLe.refl G25
  refine RD_t 0 Z kR Z (fun _ hK=>v_loadagg_B 0 hK isAgg27 sizeOf27 Z Z Z Z) (dE 1 Z2 (dE 2 Z2 (r1 3 Z (xc Z2 (l91File_c _ _ H.sub _ _ _ _ _ _ hbs (H.blkIs (k:=0) Z).1 (H.blkIs (k:=0) Z).2 oM) ?_))))
  rintro _ _ ⟨_,_,_,rfl,H29',⟨_,_,_,_,_,rfl,hchk29,_,rfl⟩⟩
  have hr1:=hr1.up H29'.le
  have hr1':=hr1'.up H29'.le
  have hr1'':=hr1''.up H29'.le
  have hd28:=hd28.trans H29'.le
  have H:=H.borrow (k:=0) rfl H29'
  obtain⟨_,_,rfl⟩:=H.accShape (k:=0) rfl
  refine⟨_,Z,?_⟩
  refine q4 H hd28 (r1 4 Z ?_)
  obtain⟨_,H,hsg31,hsr31⟩:=H.shutM (k:=0) (j:=0) rfl rfl hchk29 aN aN
  have hr1:=hr1.up hsg31
  have hr1':=hr1'.up hsg31
  have hr1'':=hr1''.up hsg31
  have hd28:=hd28.trans hsg31
  refine xc Z2 (DiskWriteP_c _ _ H.sub _ d ⟨_,_,_,_,_,_,_,_,_,Z,hr1,hr1',hr1''⟩ _ hxs25 _ _ hsr31) ?_
  rintro _ _ ⟨_,_,g30,rfl,_,rfl,hr30_0⟩
  have H:=H.grow g30
  have hd28:=hd28.trans g30.le
  obtain⟨_,_,_,_,_,_,_,_,_,rfl,hr32,hr32',hr32'',⟨_,_⟩,⟨_,_⟩,_,_⟩:=ox hr30_0
  refine⟨_,Z,?_⟩
  refine q4 H hd28 (dE 5 Z2 (dE 6 Z2 (r1 7 Z (xst 1 H Z8 ?_))));intro _ H
  refine q4 H hd28 (dE 8 Z2 (rz (N_K (W_ret (ret_gen (rs:=[.cell 4 27,.tmp 5]) (vs:=[_,_]) results42 ⟨⟨_,Z,load_blk 1 H isAgg27 sizeOf27 Z Z Z⟩,Z,trivial⟩ ?_)))))
  have H:=H.dl 1
  have H:=H.dl 1
  exact H.retM ⟨_,_,_,_,_,_,_,_,oM,Z,hr32,hr32',hr32'',Z⟩
 intro hc5'
 try simp only[nrm]at hc5'
 refine q2 (pe 2 Z (q3 ?_))
 refine W_cond Z ?_ ?_
 ·intro hc34
  try simp only[nrm]at hc34
  refine W_skip (N_K ?_)
  refine W_cond Z ?_ ?_
  ·intro hc35
   try simp only[nrm]at hc35
   refine W_seq (W_drawK [2] 9 H kR Z ?_);intro _ H;have hd36:=PLe.refl G4
   refine RD_t 0 Z kR Z (fun _ hK=>v_loadagg_B 0 hK isAgg27 sizeOf27 Z Z Z Z) (dE 1 Z2 (r1 2 Z (xbs H Z7 ?_)));intro _ _ _ H
   refine q4 H hd36 (r1 3 Z ?_)
   have H:=H.blkAcc 1 (k:=0) (n:=3) rfl rfl (by decide)
   have hchk39:=((((Chk.nil (E:=strE) (sz:=1) (G:=G4)).snoc (show strE _ ([115]:Fw.Bs) [str [115]] from⟨rfl,by decide⟩) rfl).snoc (show strE _ ([116]:Fw.Bs) [str [116]] from⟨rfl,by decide⟩) rfl).snoc (show strE _ ([117]:Fw.Bs) [str [117]] from⟨rfl,by decide⟩) rfl)
   obtain⟨_,H,hsg40,hsr40⟩:=H.shutM (k:=0) (j:=0) rfl rfl hchk39 aN aN
   have hbs:=hbs.up hsg40
   have hr1:=hr1.up hsg40
   have hr1':=hr1'.up hsg40
   have hr1'':=hr1''.up hsg40
   have hd36:=hd36.trans hsg40
   refine xc Z2 (of_c _ _ H.sub _ _ _ _ _ _ hbs (H.blkIs (k:=0) Z).1 (H.blkIs (k:=0) Z).2 oM _ _ hsr40 (by first|decide|(simp;done)|(simp;omega))) ?_
   rintro _ _ ⟨_,_,_,rfl,H38',⟨_,_,_,rfl,hxs38,rfl⟩⟩
   have hr1:=hr1.up H38'.le
   have hr1':=hr1'.up H38'.le
   have hr1'':=hr1''.up H38'.le
   have hd36:=hd36.trans H38'.le
   have H:=H.borrow (k:=0) rfl H38'
   refine⟨_,Z,?_⟩
   refine q4 H hd36 (r1 4 Z (xc Z2 (SnapTakeP_c _ _ H.sub _ d ⟨_,_,_,_,_,_,_,_,_,Z,hr1,hr1',hr1''⟩ _ hxs38) ?_))
   rintro _ _ ⟨_,_,g41,rfl,_,rfl,hr41_0⟩
   have H:=H.grow g41
   have hd36:=hd36.trans g41.le
   obtain⟨_,_,_,_,_,_,_,_,_,rfl,hr42,hr42',hr42'',⟨_,_⟩,⟨_,_⟩,_,_⟩:=ox hr41_0
   refine⟨_,Z,?_⟩
   refine q4 H hd36 (dE 5 Z2 (dE 6 Z2 (r1 7 Z (xst 1 H Z8 ?_))));intro _ H
   refine q4 H hd36 (dE 8 Z2 (rz (N_K (W_ret (N_B_ret (N_K_ret (ret_gen (rs:=[.cell 4 27,.tmp 5]) (vs:=[_,_]) results42 ⟨⟨_,Z,load_blk 1 H isAgg27 sizeOf27 Z Z Z⟩,Z,trivial⟩ ?_)))))))
   have H:=H.dl 1
   have H:=H.dl 1
   exact H.retM ⟨_,_,_,_,_,_,_,_,oM,Z,hr42,hr42',hr42'',Z⟩
  intro hc35'
  try simp only[nrm]at hc35'
  refine q2 (pe 2 Z (q3 ?_))
  refine W_cond Z ?_ ?_
  ·intro hc44
   try simp only[nrm]at hc44
   refine W_seq (W_drawK [2] 9 H kR Z ?_);intro _ H;have hd45:=PLe.refl G4
   refine RD_t 0 Z kR Z (fun _ hK=>v_loadagg_B 0 hK isAgg27 sizeOf27 Z Z Z Z) (dE 1 Z2 (r1 2 Z (xbs H Z7 ?_)));intro _ _ _ H
   refine q4 H hd45 (r1 3 Z ?_)
   have H:=H.blkAcc 1 (k:=0) (n:=2) rfl rfl (by decide)
   have hchk48:=(((Chk.nil (E:=strE) (sz:=1) (G:=G4)).snoc (show strE _ ([115]:Fw.Bs) [str [115]] from⟨rfl,by decide⟩) rfl).snoc (show strE _ ([116]:Fw.Bs) [str [116]] from⟨rfl,by decide⟩) rfl)
   obtain⟨_,H,hsg49,hsr49⟩:=H.shutM (k:=0) (j:=0) rfl rfl hchk48 aN aN
   have hbs:=hbs.up hsg49
   have hr1:=hr1.up hsg49
   have hr1':=hr1'.up hsg49
   have hr1'':=hr1''.up hsg49
   have hd45:=hd45.trans hsg49
   refine xc Z2 (of_c _ _ H.sub _ _ _ _ _ _ hbs (H.blkIs (k:=0) Z).1 (H.blkIs (k:=0) Z).2 oM _ _ hsr49 (by first|decide|(simp;done)|(simp;omega))) ?_
   rintro _ _ ⟨_,_,_,rfl,H47',⟨_,_,_,rfl,hxs47,rfl⟩⟩
   have hr1:=hr1.up H47'.le
   have hr1':=hr1'.up H47'.le
   have hr1'':=hr1''.up H47'.le
   have hd45:=hd45.trans H47'.le
   have H:=H.borrow (k:=0) rfl H47'
   refine⟨_,Z,?_⟩
   refine q4 H hd45 (r1 4 Z (xc Z2 (SnapBackP_c _ _ H.sub _ d ⟨_,_,_,_,_,_,_,_,_,Z,hr1,hr1',hr1''⟩ _ hxs47) ?_))
   rintro _ _ ⟨_,_,g50,rfl,_,rfl,hr50_0⟩
   have H:=H.grow g50
   have hd45:=hd45.trans g50.le
   obtain⟨_,_,_,_,_,_,_,_,_,rfl,hr51,hr51',hr51'',⟨_,_⟩,⟨_,_⟩,_,_⟩:=ox hr50_0
   refine⟨_,Z,?_⟩
   refine q4 H hd45 (dE 5 Z2 (dE 6 Z2 (r1 7 Z (xst 1 H Z8 ?_))));intro _ H
   refine q4 H hd45 (dE 8 Z2 (rz (N_K (W_ret (N_B_ret (N_K_ret (ret_gen (rs:=[.cell 4 27,.tmp 5]) (vs:=[_,_]) results42 ⟨⟨_,Z,load_blk 1 H isAgg27 sizeOf27 Z Z Z⟩,Z,trivial⟩ ?_)))))))
   have H:=H.dl 1
   have H:=H.dl 1
   exact H.retM ⟨_,_,_,_,_,_,_,_,oM,Z,hr51,hr51',hr51'',Z⟩
  intro hc44'
  try simp only[nrm]at hc44'
  refine W_skip (N_B (N_K (q2 (mV Z (xbs H Z7 ?_)))));intro _ _ _ H
  have H:=H.blkAcc 1 (k:=0) (n:=5) rfl rfl (by decide)
  have hchk55:=((((((Chk.nil (E:=strE) (sz:=1) (G:=G4)).snoc (show strE _ ([99]:Fw.Bs) [str [99]] from⟨rfl,by decide⟩) rfl).snoc (show strE _ ([97,47,121]:Fw.Bs) [str [97,47,121]] from⟨rfl,by decide⟩) rfl).snoc (show strE _ ([98,47,120]:Fw.Bs) [str [98,47,120]] from⟨rfl,by decide⟩) rfl).snoc (show strE _ ([97,47,120,47,112]:Fw.Bs) [str [97,47,120,47,112]] from⟨rfl,by decide⟩) rfl).snoc (show strE _ ([100]:Fw.Bs) [str [100]] from⟨rfl,by decide⟩) rfl)
  obtain⟨_,H,hsg56,hsr56⟩:=H.shutM (k:=0) (j:=0) rfl rfl hchk55 aN aN
  have hbs:=hbs.up hsg56
  have hr1:=hr1.up hsg56
  have hr1':=hr1'.up hsg56
  have hr1'':=hr1''.up hsg56
  refine xc Z2 (of_c _ _ H.sub _ _ _ _ _ _ hbs (H.blkIs (k:=0) Z).1 (H.blkIs (k:=0) Z).2 oM _ _ hsr56 (by first|decide|(simp;done)|(simp;omega))) ?_
  rintro _ _ ⟨G54,_,_,rfl,H54',⟨_,_,_,rfl,hxs54,rfl⟩⟩
  have hbs:=hbs.up H54'.le
  have hr1:=hr1.up H54'.le
  have hr1':=hr1'.up H54'.le
  have hr1'':=hr1''.up H54'.le
  have H:=H.borrow (k:=0) rfl H54'
  refine⟨_,Z,?_⟩
  refine aG Z (q3 (W_seq (W_drawK [2] 9 H kR Z ?_)));intro _ H;have hd57:=PLe.refl G54
  refine RD_t 0 Z kR Z (fun _ hK=>v_loadagg_B 0 hK isAgg27 sizeOf27 Z Z Z Z) (dE 1 Z2 (dE 2 Z2 (r1 3 Z (xc Z2 (l91File_c _ _ H.sub _ _ _ _ _ _ hbs (H.blkIs (k:=0) Z).1 (H.blkIs (k:=0) Z).2 oM) ?_))))
  rintro _ _ ⟨_,_,_,rfl,H58',⟨_,_,_,_,_,rfl,hchk58,_,rfl⟩⟩
  have hr1:=hr1.up H58'.le
  have hr1':=hr1'.up H58'.le
  have hr1'':=hr1''.up H58'.le
  have hd57:=hd57.trans H58'.le
  have H:=H.borrow (k:=0) rfl H58'
  obtain⟨_,_,rfl⟩:=H.accShape (k:=0) rfl
  refine⟨_,Z,?_⟩
  refine q4 H hd57 (r1 4 Z ?_)
  obtain⟨_,H,hsg60,hsr60⟩:=H.shutM (k:=0) (j:=0) rfl rfl hchk58 aN aN
  have hr1:=hr1.up hsg60
  have hr1':=hr1'.up hsg60
  have hr1'':=hr1''.up hsg60
  have hd57:=hd57.trans hsg60
  refine xc Z2 (DiskWriteP_c _ _ H.sub _ d ⟨_,_,_,_,_,_,_,_,_,Z,hr1,hr1',hr1''⟩ _ hxs54 _ _ hsr60) ?_
  rintro _ _ ⟨_,_,g59,rfl,_,rfl,hr59_0⟩
  have H:=H.grow g59
  have hd57:=hd57.trans g59.le
  obtain⟨_,_,_,_,_,_,_,_,_,rfl,hr61,hr61',hr61'',⟨_,_⟩,⟨_,_⟩,_,_⟩:=ox hr59_0
  refine⟨_,Z,?_⟩
  refine q4 H hd57 (dE 5 Z2 (dE 6 Z2 (r1 7 Z (xst 1 H Z8 ?_))));intro _ H
  refine q4 H hd57 (dE 8 Z2 (rz (N_K (W_ret (ret_gen (rs:=[.cell 4 27,.tmp 5]) (vs:=[_,_]) results42 ⟨⟨_,Z,load_blk 1 H isAgg27 sizeOf27 Z Z Z⟩,Z,trivial⟩ ?_)))))
  have H:=H.dl 1
  have H:=H.dl 1
  exact H.retM ⟨_,_,_,_,_,_,_,_,oM,Z,hr61,hr61',hr61'',Z⟩
 intro hc34'
 try simp only[nrm]at hc34'
 refine W_region (pe 2 Z (q3 ?_))
 refine W_cond Z ?_ ?_
 ·intro hc63
  try simp only[nrm]at hc63
  refine W_seq (W_drawK [2] 9 H kR Z ?_);intro _ H;have hd64:=PLe.refl G4
  refine RD_t 0 Z kR Z (fun _ hK=>v_loadagg_B 0 hK isAgg27 sizeOf27 Z Z Z Z) (dE 1 Z2 (r1 2 Z (xbs H Z7 ?_)));intro _ _ _ H
  refine q4 H hd64 (r1 3 Z ?_)
  have H:=H.blkAcc 1 (k:=0) (n:=3) rfl rfl (by decide)
  have hchk67:=((((Chk.nil (E:=strE) (sz:=1) (G:=G4)).snoc (show strE _ ([115]:Fw.Bs) [str [115]] from⟨rfl,by decide⟩) rfl).snoc (show strE _ ([116]:Fw.Bs) [str [116]] from⟨rfl,by decide⟩) rfl).snoc (show strE _ ([117]:Fw.Bs) [str [117]] from⟨rfl,by decide⟩) rfl)
  obtain⟨_,H,hsg68,hsr68⟩:=H.shutM (k:=0) (j:=0) rfl rfl hchk67 aN aN
  have hbs:=hbs.up hsg68
  have hr1:=hr1.up hsg68
  have hr1':=hr1'.up hsg68
  have hr1'':=hr1''.up hsg68
  have hd64:=hd64.trans hsg68
  refine xc Z2 (of_c _ _ H.sub _ _ _ _ _ _ hbs (H.blkIs (k:=0) Z).1 (H.blkIs (k:=0) Z).2 oM _ _ hsr68 (by first|decide|(simp;done)|(simp;omega))) ?_
  rintro _ _ ⟨_,_,_,rfl,H66',⟨_,_,_,rfl,hxs66,rfl⟩⟩
  have hr1:=hr1.up H66'.le
  have hr1':=hr1'.up H66'.le
  have hr1'':=hr1''.up H66'.le
  have hd64:=hd64.trans H66'.le
  have H:=H.borrow (k:=0) rfl H66'
  refine⟨_,Z,?_⟩
  refine q4 H hd64 (r1 4 Z (xc Z2 (SnapTakeP_c _ _ H.sub _ d ⟨_,_,_,_,_,_,_,_,_,Z,hr1,hr1',hr1''⟩ _ hxs66) ?_))
  rintro _ _ ⟨_,_,g69,rfl,_,rfl,hr69_0⟩
  have H:=H.grow g69
  have hd64:=hd64.trans g69.le
  obtain⟨_,_,_,_,_,_,_,_,_,rfl,hr70,hr70',hr70'',⟨_,_⟩,⟨_,_⟩,_,_⟩:=ox hr69_0
  refine⟨_,Z,?_⟩
  refine q4 H hd64 (dE 5 Z2 (dE 6 Z2 (r1 7 Z (xst 1 H Z8 ?_))));intro _ H
  refine q4 H hd64 (dE 8 Z2 (rz (N_K (W_ret (N_B_ret (N_K_ret (ret_gen (rs:=[.cell 4 27,.tmp 5]) (vs:=[_,_]) results42 ⟨⟨_,Z,load_blk 1 H isAgg27 sizeOf27 Z Z Z⟩,Z,trivial⟩ ?_)))))))
  have H:=H.dl 1
  have H:=H.dl 1
  exact H.retM ⟨_,_,_,_,_,_,_,_,oM,Z,hr70,hr70',hr70'',Z⟩
 intro hc63'
 try simp only[nrm]at hc63'
 refine q2 (pe 2 Z (q3 ?_))
 refine W_cond Z ?_ ?_
 ·intro hc72
  try simp only[nrm]at hc72
  refine W_seq (W_drawK [2] 9 H kR Z ?_);intro _ H;have hd73:=PLe.refl G4
  refine RD_t 0 Z kR Z (fun _ hK=>v_loadagg_B 0 hK isAgg27 sizeOf27 Z Z Z Z) (dE 1 Z2 (r1 2 Z (xbs H Z7 ?_)));intro _ _ _ H
  refine q4 H hd73 (r1 3 Z ?_)
  have H:=H.blkAcc 1 (k:=0) (n:=2) rfl rfl (by decide)
  have hchk76:=(((Chk.nil (E:=strE) (sz:=1) (G:=G4)).snoc (show strE _ ([115]:Fw.Bs) [str [115]] from⟨rfl,by decide⟩) rfl).snoc (show strE _ ([116]:Fw.Bs) [str [116]] from⟨rfl,by decide⟩) rfl)
  obtain⟨_,H,hsg77,hsr77⟩:=H.shutM (k:=0) (j:=0) rfl rfl hchk76 aN aN
  have hbs:=hbs.up hsg77
  have hr1:=hr1.up hsg77
  have hr1':=hr1'.up hsg77
  have hr1'':=hr1''.up hsg77
  have hd73:=hd73.trans hsg77
  refine xc Z2 (of_c _ _ H.sub _ _ _ _ _ _ hbs (H.blkIs (k:=0) Z).1 (H.blkIs (k:=0) Z).2 oM _ _ hsr77 (by first|decide|(simp;done)|(simp;omega))) ?_
  rintro _ _ ⟨_,_,_,rfl,H75',⟨_,_,_,rfl,hxs75,rfl⟩⟩
  have hr1:=hr1.up H75'.le
  have hr1':=hr1'.up H75'.le
  have hr1'':=hr1''.up H75'.le
  have hd73:=hd73.trans H75'.le
  have H:=H.borrow (k:=0) rfl H75'
  refine⟨_,Z,?_⟩
  refine q4 H hd73 (r1 4 Z (xc Z2 (SnapBackP_c _ _ H.sub _ d ⟨_,_,_,_,_,_,_,_,_,Z,hr1,hr1',hr1''⟩ _ hxs75) ?_))
  rintro _ _ ⟨_,_,g78,rfl,_,rfl,hr78_0⟩
  have H:=H.grow g78
  have hd73:=hd73.trans g78.le
  obtain⟨_,_,_,_,_,_,_,_,_,rfl,hr79,hr79',hr79'',⟨_,_⟩,⟨_,_⟩,_,_⟩:=ox hr78_0
  refine⟨_,Z,?_⟩
  refine q4 H hd73 (dE 5 Z2 (dE 6 Z2 (r1 7 Z (xst 1 H Z8 ?_))));intro _ H
  refine q4 H hd73 (dE 8 Z2 (rz (N_K (W_ret (N_B_ret (N_K_ret (ret_gen (rs:=[.cell 4 27,.tmp 5]) (vs:=[_,_]) results42 ⟨⟨_,Z,load_blk 1 H isAgg27 sizeOf27 Z Z Z⟩,Z,trivial⟩ ?_)))))))
  have H:=H.dl 1
  have H:=H.dl 1
  exact H.retM ⟨_,_,_,_,_,_,_,_,oM,Z,hr79,hr79',hr79'',Z⟩
 intro hc72'
 try simp only[nrm]at hc72'
 refine W_skip (N_B (N_K (q2 (mV Z (xbs H Z7 ?_)))));intro _ _ _ H
 have H:=H.blkAcc 1 (k:=0) (n:=5) rfl rfl (by decide)
 have hchk83:=((((((Chk.nil (E:=strE) (sz:=1) (G:=G4)).snoc (show strE _ ([99]:Fw.Bs) [str [99]] from⟨rfl,by decide⟩) rfl).snoc (show strE _ ([97,47,121]:Fw.Bs) [str [97,47,121]] from⟨rfl,by decide⟩) rfl).snoc (show strE _ ([98,47,120]:Fw.Bs) [str [98,47,120]] from⟨rfl,by decide⟩) rfl).snoc (show strE _ ([97,47,120,47,112]:Fw.Bs) [str [97,47,120,47,112]] from⟨rfl,by decide⟩) rfl).snoc (show strE _ ([100]:Fw.Bs) [str [100]] from⟨rfl,by decide⟩) rfl)
 obtain⟨_,H,hsg84,hsr84⟩:=H.shutM (k:=0) (j:=0) rfl rfl hchk83 aN aN
 have hbs:=hbs.up hsg84
 have hr1:=hr1.up hsg84
 have hr1':=hr1'.up hsg84
 have hr1'':=hr1''.up hsg84
 refine xc Z2 (of_c _ _ H.sub _ _ _ _ _ _ hbs (H.blkIs (k:=0) Z).1 (H.blkIs (k:=0) Z).2 oM _ _ hsr84 (by first|decide|(simp;done)|(simp;omega))) ?_
 rintro _ _ ⟨G82,_,_,rfl,H82',⟨_,_,_,rfl,hxs82,rfl⟩⟩
 have hbs:=hbs.up H82'.le
 have hr1:=hr1.up H82'.le
 have hr1':=hr1'.up H82'.le
 have hr1'':=hr1''.up H82'.le
 have H:=H.borrow (k:=0) rfl H82'
 refine⟨_,Z,?_⟩
 refine aG Z (q3 (W_seq (W_drawK [2] 9 H kR Z ?_)));intro _ H;have hd85:=PLe.refl G82
 refine RD_t 0 Z kR Z (fun _ hK=>v_loadagg_B 0 hK isAgg27 sizeOf27 Z Z Z Z) (dE 1 Z2 (dE 2 Z2 (r1 3 Z (xc Z2 (l91File_c _ _ H.sub _ _ _ _ _ _ hbs (H.blkIs (k:=0) Z).1 (H.blkIs (k:=0) Z).2 oM) ?_))))
 rintro _ _ ⟨_,_,_,rfl,H86',⟨_,_,_,_,_,rfl,hchk86,_,rfl⟩⟩
 have hr1:=hr1.up H86'.le
 have hr1':=hr1'.up H86'.le
 have hr1'':=hr1''.up H86'.le
 have hd85:=hd85.trans H86'.le
 have H:=H.borrow (k:=0) rfl H86'
 obtain⟨_,_,rfl⟩:=H.accShape (k:=0) rfl
 refine⟨_,Z,?_⟩
 refine q4 H hd85 (r1 4 Z ?_)
 obtain⟨_,H,hsg88,hsr88⟩:=H.shutM (k:=0) (j:=0) rfl rfl hchk86 aN aN
 have hr1:=hr1.up hsg88
 have hr1':=hr1'.up hsg88
 have hr1'':=hr1''.up hsg88
 have hd85:=hd85.trans hsg88
 refine xc Z2 (DiskWriteP_c _ _ H.sub _ d ⟨_,_,_,_,_,_,_,_,_,Z,hr1,hr1',hr1''⟩ _ hxs82 _ _ hsr88) ?_
 rintro _ _ ⟨_,_,g87,rfl,_,rfl,hr87_0⟩
 have H:=H.grow g87
 have hd85:=hd85.trans g87.le
 obtain⟨_,_,_,_,_,_,_,_,_,rfl,hr89,hr89',hr89'',⟨_,_⟩,⟨_,_⟩,_,_⟩:=ox hr87_0
 refine⟨_,Z,?_⟩
 refine q4 H hd85 (dE 5 Z2 (dE 6 Z2 (r1 7 Z (xst 1 H Z8 ?_))));intro _ H
 refine q4 H hd85 (dE 8 Z2 (rz (N_K (W_ret (ret_gen (rs:=[.cell 4 27,.tmp 5]) (vs:=[_,_]) results42 ⟨⟨_,Z,load_blk 1 H isAgg27 sizeOf27 Z Z Z⟩,Z,trivial⟩ ?_)))))
 have H:=H.dl 1
 have H:=H.dl 1
 exact H.retM ⟨_,_,_,_,_,_,_,_,oM,Z,hr89,hr89',hr89'',Z⟩
theorem l91Disk_c (w0:World)(G0:PH)(hG:PSub G0 w0)(rb:Nat)(ab:Option Addr)(mb kb:Nat)(bs:List UInt8)(p:Nat)(hbs:RdU G0 (.slice ab mb kb) bs)(hrb:w0.heap[rb]? = some (cl [.slice ab mb kb,.int .i64 (p:Int)] 88))(hrn:G0 rb=none)(hp:p≤5000000) :
  Calls Tryz.prog 17 #[.pointer (some ⟨rb,0,none⟩)] w0 (RetM w0 G0 [rb] (fun G val Bs=>∃(p':Nat) (v1 v2 v3:Value) (st:List BHeld) (tr:List BItem) (sn:List BSnap),p'≤p+5000∧val= .agg #[v1,v2,v3]∧RdH G v1 st∧RdItems G v2 tr∧RdSn G v3 sn∧Bs=[blk rb (cl [.slice ab mb kb,.int .i64 (p':Int)] 88)])):=by
 have hlimbs:bs.length≤1099511627776:=hbs.lim;obtain rfl:mb=bs.length:=hbs.len
 have H:=Hp.initM hG hrb hrn
 refine calls_of_W (l:=[.pointer (some ⟨rb,0,none⟩)]) func17 Z ntmps17 Z (q2 (xal H Z ?_));intro b1 _ _ H
 refine q1 (mV Z (xc Z2 (l91Volume_c _ _ H.sub _ _ _ _ _ _ hbs (H.blkIs (k:=1) Z).1 (H.blkIs (k:=1) Z).2 oM) ?_))
 rintro _ _ ⟨_,_,_,rfl,H2',⟨_,_,_,st2,tr2,_,rfl,hst2,htr2,rfl⟩⟩
 have hbs:=hbs.up H2'.le
 have H:=H.borrow (k:=1) rfl H2'
 obtain⟨_,_,rfl⟩:=hst2.shape;obtain⟨_,_,rfl⟩:=htr2.shape;have hx_hst2:_≤1099511627776:=hst2.lim;have hx_htr2:_≤1099511627776:=htr2.lim
 refine⟨_,Z,?_⟩
 refine xal H Z ?_;intro b3 _ _ H
 refine xst 0 H Z8 ?_;intro _ H
 refine q1 (fA 0 Z (lB 0 H Z3 (fA 1 Z (lB 0 H Z3 (o_build bf27 Z Z Z (xal H Z ?_))))));intro b5 _ _ H
 refine xst 0 H Z8 ?_;intro _ H
 refine q1 (mV Z (xc Z2 (pick_c _ _ H.sub _ _ _ _ _ _ hbs (H.blkIs (k:=2) Z).1 (H.blkIs (k:=2) Z).2 oM _ oO) ?_))
 rintro _ _ ⟨G7,_,_,rfl,H7',⟨p7,_,_,rfl,_,rfl⟩⟩
 have hbs:=hbs.up H7'.le
 have hst2:=hst2.up H7'.le
 have htr2:=htr2.up H7'.le
 have H:=H.borrow (k:=2) rfl H7'
 refine⟨_,Z,?_⟩
 refine aG Z (q3 (W_seq (q2 (aG Z (q3 (W_block ?_))))))
 obtain⟨ln8,hln8,H⟩:=H.name (k:=2) rfl
 obtain⟨ln9,hln9,H⟩:=H.name (k:=3) rfl
 refine W_lp (hf:=(Sub.cons (t:=0) Z (Sub.cons (t:=2) Z (Sub.cons (t:=4) Z (Sub.cons (t:=5) Z Sub.nil))))) (J:=fun M w m=>∃(k:Nat) (va vb vc:Value) (st:List BHeld) (tr:List BItem) (sn:List BSnap) (pp:Nat) (G:PH),M=[(6,.int .i64 (k:Int))]∧PLe G7 G∧Hp w0 G0 [rb] w G [blk rb (cl [.slice ab bs.length kb,.int .i64 (pp:Int)] 88),blk b5 (cl [va,vb,vc] 27),blk b3 (cl ln8 90),blk b1 (cl ln9 27)]∧(k≤7∧pp≤p+3100+201*k∧RdH G va st∧RdItems G vb tr∧RdSn G vc sn)∧m=(8-k)) (h0:=⟨0,_,_,_,st2,tr2,[],p7,_,Z,PLe.refl _,H,?inv,Z⟩) (round:=?round)
 case inv=>exact⟨by omega,by omega,hst2,htr2,(RdS.nil _ _ _)⟩
 case round =>
  rintro _ _ _ ⟨k,va,vb,vc,st,tr,sn,pp,_,rfl,hle10,H,hinv10,rfl⟩
  subst hln8
  subst hln9
  have hbs:=hbs.up hle10
  obtain⟨_,_,hst,htr,hsn⟩:=hinv10;obtain⟨_,_,rfl⟩:=hst.shape;have hlhst:_≤1099511627776:=hst.lim;obtain⟨_,_,rfl⟩:=htr.shape;have hlhtr:_≤1099511627776:=htr.lim;obtain⟨_,_,rfl⟩:=hsn.shape;have hlhsn:_≤1099511627776:=hsn.lim
  refine W_seq (q2 (pe 3 Z (q3 ?_)))
  refine W_cond Z ?_ ?_
  ·intro hc11
   try simp only[nrm]at hc11
   refine W_skip (N_K (W_seq (W_block (q2 (mV Z (lA 1 3 H Z4 (xc Z2 (l91Turn_c _ _ H.sub _ _ _ _ _ _ hbs (H.blkIs (k:=0) Z).1 (H.blkIs (k:=0) Z).2 oM _ ⟨st,tr,sn⟩ ⟨_,_,_,_,_,_,_,_,_,Z,hst,htr,hsn⟩) ?_)))))))
   rintro _ _ ⟨_,_,_,rfl,H12',⟨p12,_,_,_,st12,tr12,sn12,_,_,rfl,hst12,htr12,hsn12,rfl⟩⟩
   have hst:=hst.up H12'.le
   have htr:=htr.up H12'.le
   have hsn:=hsn.up H12'.le
   have hle10:=hle10.trans H12'.le
   have H:=H.borrow (k:=0) rfl H12'
   obtain⟨_,_,rfl⟩:=hst12.shape;have hx_hst12:_≤1099511627776:=hst12.lim;obtain⟨_,_,rfl⟩:=htr12.shape;have hx_htr12:_≤1099511627776:=htr12.lim;obtain⟨_,_,rfl⟩:=hsn12.shape;have hx_hsn12:_≤1099511627776:=hsn12.lim
   refine⟨_,Z,?_⟩
   refine pe 3 Z (xal H Z ?_);intro _ _ _ H
   refine xst 0 H Z8 ?_;intro _ H
   refine aG Z (q1 (mV Z (q3 ?_)))
   refine W_cond Z ?_ ?_
   ·intro hc15
    try simp only[nrm]at hc15
    refine W_region (lA 0 3 H Z4 (xst 2 H Z8 ?_));intro _ H
    refine R_nil (N_B (N_K (W_region (mV Z (aD Z2 (aG Z (R_nil ?_)))))))
    have H:=H.sel [1,2,3,4] rfl
    refine N_lp (hJ:=⟨k+1,_,_,_,st12,tr12,sn12,p12,_,Z,hle10,H,?inv,Z⟩) (hm:=?hm)
    case hm=>omega
    case inv=>exact⟨by omega,by omega,hst12,htr12,hsn12⟩
   intro hc15'
   try simp only[nrm]at hc15'
   refine W_skip (N_B (N_K (W_region (mV Z (aD Z2 (aG Z (R_nil ?_)))))))
   have H:=H.sel [1,2,3,4] rfl
   refine N_lp (hJ:=⟨k+1,_,_,_,st,tr,sn,p12,_,Z,hle10,H,?inv,Z⟩) (hm:=?hm)
   case hm=>omega
   case inv=>exact⟨by omega,by omega,hst,htr,hsn⟩
  intro hc11'
  try simp only[nrm]at hc11'
  refine W_exit (N_K_exit (N_LP_exit (N_B_same (N_K (q2 (lA 1 3 H Z4 (xst 3 H Z8 ?_)))))));intro _ H
  refine q3 (W_ret (ret_gen (rs:=[.cell 2 27]) (vs:=[_]) results17 ⟨⟨_,Z,load_blk 3 H isAgg27 sizeOf27 Z Z Z⟩,trivial⟩ ?_))
  have H:=H.dl 1
  have H:=H.dl 1
  have H:=H.dl 1
  exact H.retM ⟨_,_,_,_,_,_,_,oM,Z,hst,htr,hsn,Z⟩
theorem l91Snap_c (w0:World)(G0:PH)(hG:PSub G0 w0)(rb:Nat)(ab:Option Addr)(mb kb:Nat)(bs:List UInt8)(p:Nat)(hbs:RdU G0 (.slice ab mb kb) bs)(hrb:w0.heap[rb]? = some (cl [.slice ab mb kb,.int .i64 (p:Int)] 88))(hrn:G0 rb=none)(hp:p≤1000000000)(cd:List Value)(d:BDisk)(hd:diskE G0 d cd) :
  Calls Tryz.prog 19 #[.pointer (some ⟨rb,0,none⟩),.agg cd.toArray] w0 (RetM w0 G0 [rb] (fun G val Bs=>∃(p':Nat) (x:Fw.Bs),p'≤p+4∧val=str x∧x.length≤16777216∧Bs=[blk rb (cl [.slice ab mb kb,.int .i64 (p':Int)] 88)])):=by
 have hlimbs:bs.length≤1099511627776:=hbs.lim;obtain rfl:mb=bs.length:=hbs.len
 obtain⟨_,_,_,_,_,_,_,_,_,rfl,hr1,hr1',hr1'',⟨_,_⟩,⟨_,_⟩,_,_⟩:=ox hd
 have H:=Hp.initM hG hrb hrn
 refine calls_of_W (l:=[.pointer (some ⟨rb,0,none⟩),_]) func19 Z ntmps19 Z (q2 (o_box H Z Z Z ?_));intro _ _ _ H
 refine aG Z (q3 (W_seq (q2 (fA 2 Z (lB 0 H Z3 (lN Z (pe 2 Z ?_)))))))
 refine R_case (t:=9) Z ?_ ?_
 ·intro hc3
  try simp only[nrm]at hc3
  refine pe 1 Z (gR Z (xc Z2 (pick_c _ _ H.sub _ _ _ _ _ _ hbs (H.blkIs (k:=1) Z).1 (H.blkIs (k:=1) Z).2 oM _ oO) ?_))
  rintro _ _ ⟨G4,_,_,rfl,H4',⟨_,_,_,rfl,_,rfl⟩⟩
  have hbs:=hbs.up H4'.le
  have hr1'':=hr1''.up H4'.le
  have H:=H.borrow (k:=1) rfl H4'
  refine⟨_,Z,?_⟩
  refine pe 2 Z (q3 ?_)
  refine W_cond Z ?_ ?_
  ·intro hc5
   try simp only[nrm]at hc5
   refine W_seq (W_drawK [1] 11 H kR Z ?_);intro _ H;have hd6:=PLe.refl G4
   refine dF 0 2 Z2 (dB 1 0 Z4 (dE 2 Z2 (dF 3 2 Z2 (dB 4 0 Z4 (dN 5 Z2 (r1 6 Z (xc Z2 (pick_c _ _ H.sub _ _ _ _ _ _ hbs (H.blkIs (k:=0) Z).1 (H.blkIs (k:=0) Z).2 oM _ oO) ?_)))))))
   rintro _ _ ⟨_,_,_,rfl,H7',⟨_,x7,_,rfl,_,rfl⟩⟩
   have hr1'':=hr1''.up H7'.le
   have hd6:=hd6.trans H7'.le
   have H:=H.borrow (k:=0) rfl H7'
   refine⟨_,Z,?_⟩
   refine q4 H hd6 ?_
   have hl8:=hr1''.len
   obtain⟨_,_,_,_,ha8,_,hq8,hE8,hrow8,_⟩:=hr1''.at (i:=x7) oM
   clear hq8
   obtain⟨_,_,_,rfl,hi8,_,_,_⟩:=ox hE8
   refine dI 7 2 x7 ha8 Z3 Z (dF 8 0 Z2 (r1 9 Z (lP H hrow8 0 Z2 (q4 H hd6 (dE 10 Z2 (rz (N_K (W_ret (N_K_ret (rt1 results19 Z ?_))))))))))
   have H:=H.dl 1
   exact H.retM ⟨_,_,by omega,rfl,hi8,rfl⟩
  intro hc5'
  try simp only[nrm]at hc5'
  refine W_skip (N_K (q2 (mV Z (xbs H Z7 ?_))));intro _ _ _ H
  have H:=H.blkAcc 1 (k:=0) (n:=5) rfl rfl (by decide)
  have hchk11:=((((((Chk.nil (E:=strE) (sz:=1) (G:=G4)).snoc (show strE _ ([115]:Fw.Bs) [str [115]] from⟨rfl,by decide⟩) rfl).snoc (show strE _ ([118]:Fw.Bs) [str [118]] from⟨rfl,by decide⟩) rfl).snoc (show strE _ ([119]:Fw.Bs) [str [119]] from⟨rfl,by decide⟩) rfl).snoc (show strE _ ([66,97,100]:Fw.Bs) [str [66,97,100]] from⟨rfl,by decide⟩) rfl).snoc (show strE _ ([]:Fw.Bs) [str []] from⟨rfl,by decide⟩) rfl)
  obtain⟨_,H,hsg12,hsr12⟩:=H.shutM (k:=0) (j:=0) rfl rfl hchk11 aN aN
  have hbs:=hbs.up hsg12
  refine xc Z2 (of_c _ _ H.sub _ _ _ _ _ _ hbs (H.blkIs (k:=0) Z).1 (H.blkIs (k:=0) Z).2 oM _ _ hsr12 (by first|decide|(simp;done)|(simp;omega))) ?_
  rintro _ _ ⟨_,_,_,rfl,H10',⟨_,_,_,rfl,hxs10,rfl⟩⟩
  have H:=H.borrow (k:=0) rfl H10'
  refine⟨_,Z,?_⟩
  refine aG Z (q3 (W_ret (rt1 results19 Z ?_)))
  have H:=H.dl 1
  exact H.retM ⟨_,_,by omega,rfl,hxs10,rfl⟩
 intro hc3'
 try simp only[nrm]at hc3'
 refine pe 4 Z (q3 (W_false Z (W_skip (N_K (q2 (mV Z (xbs H Z7 ?_)))))));intro _ _ _ H
 have H:=H.blkAcc 1 (k:=0) (n:=5) rfl rfl (by decide)
 have hchk15:=((((((Chk.nil (E:=strE) (sz:=1) (G:=G0)).snoc (show strE _ ([115]:Fw.Bs) [str [115]] from⟨rfl,by decide⟩) rfl).snoc (show strE _ ([118]:Fw.Bs) [str [118]] from⟨rfl,by decide⟩) rfl).snoc (show strE _ ([119]:Fw.Bs) [str [119]] from⟨rfl,by decide⟩) rfl).snoc (show strE _ ([66,97,100]:Fw.Bs) [str [66,97,100]] from⟨rfl,by decide⟩) rfl).snoc (show strE _ ([]:Fw.Bs) [str []] from⟨rfl,by decide⟩) rfl)
 obtain⟨_,H,hsg16,hsr16⟩:=H.shutM (k:=0) (j:=1) rfl rfl hchk15 aN aN
 have hbs:=hbs.up hsg16
 refine xc Z2 (of_c _ _ H.sub _ _ _ _ _ _ hbs (H.blkIs (k:=1) Z).1 (H.blkIs (k:=1) Z).2 oM _ _ hsr16 (by first|decide|(simp;done)|(simp;omega))) ?_
 rintro _ _ ⟨_,_,_,rfl,H14',⟨_,_,_,rfl,hxs14,rfl⟩⟩
 have H:=H.borrow (k:=1) rfl H14'
 refine⟨_,Z,?_⟩
 refine aG Z (q3 (W_ret (rt1 results19 Z ?_)))
 have H:=H.dl 1
 exact H.retM ⟨_,_,by omega,rfl,hxs14,rfl⟩
theorem DrawStreamOf_c (w0:World)(G0:PH)(hG:PSub G0 w0)(vcode:Value)(code:List (UInt8))(hcode:RdU G0 vcode code) :
  Calls Tryz.prog 6 #[vcode] w0 (RetP w0 G0 (fun G v=>∃(cs:List Value) (x:BDisk) (p:Bs) (p2:Bs),v= .tuple #[.agg cs.toArray,str p,str p2]∧diskE G x cs∧p.length≤16777216∧p2.length≤16777216)):=by
 obtain⟨acode,kcode,rfl⟩:=hcode.shape
 have hlimcode:code.length≤1099511627776:=hcode.lim
 have H:=Hp.init hG
 refine calls_of_W (l:=[.slice acode code.length kcode]) func6 Z ntmps6 Z (q2 (xal H Z ?_));intro _ _ _ H
 refine pe 2 Z (q1 (mV Z (xc Z2 (l6Open_c _ _ H.sub _ _ hcode) ?_)))
 rintro _ _ ⟨_,_,_,g2,rfl,⟨_,_,_,_,_,rfl,rfl,hbs2⟩,hp2,hq2,hs2⟩
 have H:=H.growO g2 hp2 hq2 hs2
 refine⟨_,Z,?_⟩
 refine aG Z (q1 (mV Z (xc Z2 (l91Disk_c _ _ H.sub _ _ _ _ _ _ hbs2 (H.blkIs (k:=0) Z).1 (H.blkIs (k:=0) Z).2 oM) ?_)))
 rintro _ _ ⟨_,_,_,rfl,H3',⟨_,_,_,_,st3,tr3,sn3,_,rfl,hst3,htr3,hsn3,rfl⟩⟩
 have hbs2:=hbs2.up H3'.le
 have H:=H.borrow (k:=0) rfl H3'
 obtain⟨_,_,rfl⟩:=hst3.shape;have hx_hst3:_≤1099511627776:=hst3.lim;obtain⟨_,_,rfl⟩:=htr3.shape;have hx_htr3:_≤1099511627776:=htr3.lim;obtain⟨_,_,rfl⟩:=hsn3.shape;have hx_hsn3:_≤1099511627776:=hsn3.lim
 refine⟨_,Z,?_⟩
 refine xal H Z ?_;intro _ _ _ H
 refine xst 0 H Z8 ?_;intro _ H
 refine q3 (W_seq (q2 (mV Z (xc Z2 (pick_c _ _ H.sub _ _ _ _ _ _ hbs2 (H.blkIs (k:=1) Z).1 (H.blkIs (k:=1) Z).2 oM _ oO) ?_))))
 rintro _ _ ⟨G6,_,_,rfl,H6',⟨_,_,_,rfl,_,rfl⟩⟩
 have hbs2:=hbs2.up H6'.le
 have hst3:=hst3.up H6'.le
 have htr3:=htr3.up H6'.le
 have hsn3:=hsn3.up H6'.le
 have H:=H.borrow (k:=1) rfl H6'
 refine⟨_,Z,?_⟩
 refine pe 1 Z (q3 ?_)
 refine W_cond Z ?_ ?_
 ·intro hc7
  try simp only[nrm]at hc7
  refine W_seq (W_drawK [1] 7 H kR Z ?_);intro _ H;have hd8:=PLe.refl G6
  refine RD_t 0 Z kR Z (fun _ hK=>v_loadagg_B 0 hK isAgg27 sizeOf27 Z Z Z Z) (dE 1 Z2 (RD_t 2 Z kR Z (fun _ hK=>v_loadagg_B 0 hK isAgg27 sizeOf27 Z Z Z Z) (r1 3 Z (xc Z2 (l91Snap_c _ _ H.sub _ _ _ _ _ _ hbs2 (H.blkIs (k:=0) Z).1 (H.blkIs (k:=0) Z).2 oM _ ⟨st3,tr3,sn3⟩ ⟨_,_,_,_,_,_,_,_,_,Z,hst3,htr3,hsn3⟩) ?_))))
  rintro _ _ ⟨_,_,_,rfl,H9',⟨_,_,_,rfl,hxs9,rfl⟩⟩
  have hst3:=hst3.up H9'.le
  have htr3:=htr3.up H9'.le
  have hsn3:=hsn3.up H9'.le
  have hd8:=hd8.trans H9'.le
  have H:=H.borrow (k:=0) rfl H9'
  refine⟨_,Z,?_⟩
  refine q4 H hd8 (r1 4 Z (xst 2 H Z8 ?_));intro _ H
  refine q4 H hd8 (dE 5 Z2 (dE 6 Z2 (rz (N_K (W_ret (N_K_ret (ret_gen (rs:=[.cell 2 27,.tmp 3,.tmp 4]) (vs:=[_,_,_]) results6 ⟨⟨_,Z,load_blk 2 H isAgg27 sizeOf27 Z Z Z⟩,Z,Z,trivial⟩ ?_)))))))
  have H:=H.dl 0
  have H:=H.dl 0
  have H:=H.dl 0
  exact H.retP ⟨_,⟨st3,tr3,sn3⟩,_,_,rfl,⟨_,_,_,_,_,_,_,_,_,rfl,hst3,htr3,hsn3⟩,(by (first|assumption|(refine Sp.l5Parent_lim ?_;assumption)|(simp;done)|(simp;omega)|omega)),hxs9⟩
 intro hc7'
 try simp only[nrm]at hc7'
 refine W_skip (N_K (q2 (mV Z (lA 1 3 H Z4 (xc Z2 (l91Snap_c _ _ H.sub _ _ _ _ _ _ hbs2 (H.blkIs (k:=0) Z).1 (H.blkIs (k:=0) Z).2 oM _ ⟨st3,tr3,sn3⟩ ⟨_,_,_,_,_,_,_,_,_,Z,hst3,htr3,hsn3⟩) ?_)))))
 rintro _ _ ⟨G11,_,_,rfl,H11',⟨_,_,_,rfl,hxs11,rfl⟩⟩
 have hbs2:=hbs2.up H11'.le
 have hst3:=hst3.up H11'.le
 have htr3:=htr3.up H11'.le
 have hsn3:=hsn3.up H11'.le
 have H:=H.borrow (k:=0) rfl H11'
 refine⟨_,Z,?_⟩
 refine aG Z (q3 (W_seq (W_drawK [1] 8 H kR Z ?_)));intro _ H;have hd12:=PLe.refl G11
 refine RD_t 0 Z kR Z (fun _ hK=>v_loadagg_B 0 hK isAgg27 sizeOf27 Z Z Z Z) (dE 1 Z2 (dE 2 Z2 (RD_t 3 Z kR Z (fun _ hK=>v_loadagg_B 0 hK isAgg27 sizeOf27 Z Z Z Z) (r1 4 Z (xc Z2 (l91Snap_c _ _ H.sub _ _ _ _ _ _ hbs2 (H.blkIs (k:=0) Z).1 (H.blkIs (k:=0) Z).2 oM _ ⟨st3,tr3,sn3⟩ ⟨_,_,_,_,_,_,_,_,_,Z,hst3,htr3,hsn3⟩) ?_)))))
 rintro _ _ ⟨_,_,_,rfl,H13',⟨_,_,_,rfl,hxs13,rfl⟩⟩
 have hst3:=hst3.up H13'.le
 have htr3:=htr3.up H13'.le
 have hsn3:=hsn3.up H13'.le
 have hd12:=hd12.trans H13'.le
 have H:=H.borrow (k:=0) rfl H13'
 refine⟨_,Z,?_⟩
 refine q4 H hd12 (r1 5 Z (xst 2 H Z8 ?_));intro _ H
 refine q4 H hd12 (dE 6 Z2 (dE 7 Z2 (rz (N_K (W_ret (ret_gen (rs:=[.cell 2 27,.tmp 3,.tmp 4]) (vs:=[_,_,_]) results6 ⟨⟨_,Z,load_blk 2 H isAgg27 sizeOf27 Z Z Z⟩,Z,Z,trivial⟩ ?_))))))
 have H:=H.dl 0
 have H:=H.dl 0
 have H:=H.dl 0
 exact H.retP ⟨_,⟨st3,tr3,sn3⟩,_,_,Z,⟨_,_,_,_,_,_,_,_,_,Z,hst3,htr3,hsn3⟩,hxs11,hxs13⟩
theorem w_sameInts_c (w0:World)(G0:PH)(hG:PSub G0 w0)(va:Value)(a:List (Int))(ha:RdI G0 va a)(vb:Value)(b:List (Int))(hb:RdI G0 vb b)(hab:a=b) :
  Calls Tryz.prog 38 #[va,vb] w0 (Rets w0 (.bool true)):=by
 obtain⟨aa,ka,rfl⟩:=ha.shape
 have hlima:a.length≤1099511627776:=ha.lim
 obtain⟨ab,kb,rfl⟩:=hb.shape
 have hlimb:b.length≤1099511627776:=hb.lim
 have hle:=congrArg List.length hab
 have H:=Hp.init hG
 refine calls_of_W (l:=[.slice aa a.length ka,.slice ab b.length kb]) func38 Z ntmps38 Z (q2 (aG Z (q3 (W_seq (q2 (mV Z (lN Z (mV Z (lN Z (pe 1 Z (q3 ?_)))))))))))
 refine W_cond Z ?_ ?_
 ·intro hc1
  try simp only[nrm]at hc1
  refine q2 (aG Z (q3 (W_ret (N_K_ret (rt1 results38 Z ?_)))))
  exact absurd (show False from by omega) id
 intro hc1'
 try simp only[nrm]at hc1'
 refine W_skip (N_K (W_seq (q2 (aG Z (q3 (W_block ?_))))))
 refine W_lp (hf:=(Sub.cons (t:=0) Z (Sub.cons (t:=1) Z Sub.nil))) (J:=fun M w m=>∃(k:Nat) (G:PH),M=[(5,.int .i64 (k:Int))]∧PLe G0 G∧Hp w0 G0 [] w G []∧(k≤a.length)∧m=(a.length-k)) (h0:=⟨0,_,Z,PLe.refl _,H,?inv,Z⟩) (round:=?round)
 case inv=>omega
 case round =>
  rintro _ _ _ ⟨k,G2,rfl,hle2,H,hinv2,rfl⟩
  have ha:=ha.up hle2
  have hb:=hb.up hle2
  have hk:=hinv2
  refine W_seq (q2 (pe 2 Z (lN Z (pe 1 Z (q3 ?_)))))
  refine W_cond Z ?_ ?_
  ·intro hc3
   try simp only[nrm]at hc3
   refine W_skip (N_K (W_seq (W_block (W_seq (W_drawK [] 9 H kR Z ?_)))));intro _ H;have hd4:=PLe.refl G2
   refine dE 0 Z2 (dE 1 Z2 ?_)
   have hl5:=ha.len
   obtain⟨_,_,_,_,ha5,hz5,hq5,hE5,hrow5,_⟩:=ha.at (i:=k) oM
   clear hq5
   obtain⟨rfl,_⟩:=hE5
   refine dI 2 1 k ha5 Z3 Z (dP 3 hrow5 0 Z3 (dE 4 Z2 (dE 5 Z2 ?_)))
   have hl6:=hb.len
   obtain⟨_,_,_,_,ha6,hz6,hq6,hE6,hrow6,_⟩:=hb.at (i:=k) oM
   clear hq6
   obtain⟨rfl,_⟩:=hE6
   refine dI 6 1 k ha6 Z3 Z (dP 7 hrow6 0 Z3 (dE 8 Z2 (rz (N_K ?_))))
   refine W_cond Z ?_ ?_
   ·intro hc7
    try simp only[nrm]at hc7
    refine q2 (aG Z (q3 (W_ret (N_B_ret (N_K_ret (N_LP_ret (N_B_ret (N_K_ret (rt1 results38 Z ?_)))))))))
    exact absurd (show False from by first|omega|(exact hc7 (Sp.same_at hab hz5 hz6))) id
   intro hc7'
   try simp only[nrm]at hc7'
   refine W_skip (N_B (N_K (W_region (mV Z (aD Z2 (aG Z (R_nil ?_)))))))
   refine N_lp (hJ:=⟨k+1,_,Z,hle2,H,?inv,Z⟩) (hm:=?hm)
   case hm=>omega
   case inv=>omega
  intro hc3'
  try simp only[nrm]at hc3'
  refine W_exit (N_K_exit (N_LP_exit (N_B_same (N_K (q2 (aG Z (q3 (W_ret (rt1 results38 Z ?_)))))))))
  exact H.rets Z
theorem w_samePart_c (w0:World)(G0:PH)(hG:PSub G0 w0)(ca:List Value)(a:BPart)(ha:partE G0 a ca)(cb:List Value)(b:BPart)(hb:partE G0 b cb)(hab:a=b) :
  Calls Tryz.prog 28 #[.agg ca.toArray,.agg cb.toArray] w0 (Rets w0 (.bool true)):=by
 obtain⟨_,_,_,rfl,_,hi1,hr1⟩:=ha;have hy_hi1:_≤16777216:=hi1;have hn_hr1:=hr1.len;have hx_hr1:_≤1099511627776:=hr1.lim
 obtain⟨_,_,_,rfl,_,hi2,hr2⟩:=hb;have hy_hi2:_≤16777216:=hi2;have hn_hr2:=hr2.len;have hx_hr2:_≤1099511627776:=hr2.lim
 have H:=Hp.init hG
 refine calls_of_W (l:=[_,_]) func28 Z ntmps28 Z (q2 (o_box H Z Z Z ?_));intro _ _ _ H
 refine o_box H Z Z Z ?_;intro _ _ _ H
 refine aG Z (q1 (fA 0 Z (lB 1 H Z3 (fA 0 Z (lB 0 H Z3 (pe 2 Z ?_))))))
 refine R_case (t:=10) Z ?_ ?_
 ·intro hc5
  try simp only[nrm]at hc5
  refine gR Z (fA 1 Z (gR Z (lB 1 H Z3 (gR Z (fA 1 Z (gR Z (lB 0 H Z3 (gR Z (o_seql Z Z Z (pe 2 Z ?_))))))))))
  refine R_case (t:=17) Z ?_ ?_
  ·intro hc6
   try simp only[nrm]at hc6
   refine gR Z (fA 2 Z (gR Z (lB 1 H Z3 (gR Z (fA 2 Z (gR Z (lB 0 H Z3 (gR Z (o_beql underlying4 Z Z Z (pe 2 Z ?_))))))))))
   refine R_case (t:=24) Z ?_ ?_
   ·intro hc7
    try simp only[nrm]at hc7
    refine gR Z (fA 3 Z (gR Z (lB 1 H Z3 (gR Z (fA 3 Z (gR Z (lB 0 H Z3 (gR Z (xr H Z2 (w_sameInts_c _ _ H.sub _ _ hr1 _ _ hr2 (congrArg BPart.bytes hab)) ?_)))))))));intro _ H
    refine pe 2 Z (q3 (W_ret (rt1 results28 Z ?_)))
    exact H.rets Z
   intro hc7'
   try simp only[nrm]at hc7'
   refine pe 7 Z (q3 (W_ret (rt1 results28 Z ?_)))
   exact absurd (show False from by simp[hab]at hc7') id
  intro hc6'
  try simp only[nrm]at hc6'
  refine pe 14 Z (q3 (W_ret (rt1 results28 Z ?_)))
  exact absurd (show False from by simp[hab]at hc6') id
 intro hc5'
 try simp only[nrm]at hc5'
 refine pe 21 Z (q3 (W_ret (rt1 results28 Z ?_)))
 exact absurd (show False from by simp[hab]at hc5') id
theorem w_sameParts_c (w0:World)(G0:PH)(hG:PSub G0 w0)(va:Value)(a:List (BPart))(ha:RdPart G0 va a)(vb:Value)(b:List (BPart))(hb:RdPart G0 vb b)(hab:a=b) :
  Calls Tryz.prog 9 #[va,vb] w0 (Rets w0 (.bool true)):=by
 obtain⟨aa,ka,rfl⟩:=ha.shape
 have hlima:a.length≤1099511627776:=ha.lim
 obtain⟨ab,kb,rfl⟩:=hb.shape
 have hlimb:b.length≤1099511627776:=hb.lim
 have hle:=congrArg List.length hab
 have H:=Hp.init hG
 refine calls_of_W (l:=[.slice aa a.length ka,.slice ab b.length kb]) func9 Z ntmps9 Z (q2 (aG Z (q3 (W_seq (q2 (mV Z (lN Z (mV Z (lN Z (pe 1 Z (q3 ?_)))))))))))
 refine W_cond Z ?_ ?_
 ·intro hc1
  try simp only[nrm]at hc1
  refine q2 (aG Z (q3 (W_ret (N_K_ret (rt1 results9 Z ?_)))))
  exact absurd (show False from by omega) id
 intro hc1'
 try simp only[nrm]at hc1'
 refine W_skip (N_K (W_seq (q2 (aG Z (q3 (W_block ?_))))))
 refine W_lp (hf:=(Sub.cons (t:=0) Z (Sub.cons (t:=1) Z Sub.nil))) (J:=fun M w m=>∃(k:Nat) (G:PH),M=[(5,.int .i64 (k:Int))]∧PLe G0 G∧Hp w0 G0 [] w G []∧(k≤a.length)∧m=(a.length-k)) (h0:=⟨0,_,Z,PLe.refl _,H,?inv,Z⟩) (round:=?round)
 case inv=>omega
 case round =>
  rintro _ _ _ ⟨k,G2,rfl,hle2,H,hinv2,rfl⟩
  have ha:=ha.up hle2
  have hb:=hb.up hle2
  have hk:=hinv2
  refine W_seq (q2 (pe 2 Z (lN Z (pe 1 Z (q3 ?_)))))
  refine W_cond Z ?_ ?_
  ·intro hc3
   try simp only[nrm]at hc3
   refine W_skip (N_K (W_seq (W_block (W_seq (W_drawK [] 10 H kR Z ?_)))));intro _ H;have hd4:=PLe.refl G2
   refine dE 0 Z2 (dE 1 Z2 ?_)
   have hl5:=ha.len
   obtain⟨_,_,_,_,ha5,hz5,hq5,hE5,hrow5,_⟩:=ha.at (i:=k) oM
   clear hq5
   obtain⟨_,_,_,rfl,_,hi5,hr5⟩:=hE5;have hy_hi5:_≤16777216:=hi5;have hn_hr5:=hr5.len;have hx_hr5:_≤1099511627776:=hr5.lim
   refine dI 2 4 k ha5 Z3 Z (RD_t 3 Z kR Z (fun _ hK=>v_loadagg_P hK isAgg58 sizeOf58 Z hrow5 Z) (dE 4 Z2 (dE 5 Z2 ?_)))
   have hl6:=hb.len
   obtain⟨_,_,_,_,ha6,hz6,hq6,hE6,hrow6,_⟩:=hb.at (i:=k) oM
   clear hq6
   obtain⟨_,_,_,rfl,_,hi6,hr6⟩:=hE6;have hy_hi6:_≤16777216:=hi6;have hn_hr6:=hr6.len;have hx_hr6:_≤1099511627776:=hr6.lim
   refine dI 6 4 k ha6 Z3 Z (RD_t 7 Z kR Z (fun _ hK=>v_loadagg_P hK isAgg58 sizeOf58 Z hrow6 Z) (r1 8 Z ?_))
   refine xr H Z2 (w_samePart_c _ _ H.sub _ _ ⟨_,_,_,Z,⟨by first|omega|(dsimp only;omega),by first|omega|(dsimp only;omega)⟩,hi5,hr5⟩ _ _ ⟨_,_,_,rfl,⟨by first|omega|(dsimp only;omega),by first|omega|(dsimp only;omega)⟩,hi6,hr6⟩ (Sp.same_at hab hz5 hz6)) ?_;intro _ H
   refine q4 H hd4 (dE 9 Z2 (rz (N_K (W_false Z (W_skip (N_B (N_K (W_region (mV Z (aD Z2 (aG Z (R_nil ?_))))))))))))
   refine N_lp (hJ:=⟨k+1,_,Z,hle2,H,?inv,Z⟩) (hm:=?hm)
   case hm=>omega
   case inv=>omega
  intro hc3'
  try simp only[nrm]at hc3'
  refine W_exit (N_K_exit (N_LP_exit (N_B_same (N_K (q2 (aG Z (q3 (W_ret (rt1 results9 Z ?_)))))))))
  exact H.rets Z
theorem item_newItem_c (w0:World)(G0:PH)(hG:PSub G0 w0)(ca:List Value)(a:BItem)(ha:itemE G0 a ca) :
  Calls Tryz.prog 237 #[.agg ca.toArray] w0 (Rets w0 (.agg ca.toArray)):=by
 obtain⟨_,_,_,rfl,_,_,_,_⟩:=ox ha
 have H:=Hp.init hG
 refine calls_of_W (l:=[_]) func237 Z ntmps237 Z (q2 (o_box H Z Z Z ?_));intro _ _ _ H
 refine xal H Z ?_;intro _ _ _ H
 refine q1 (fA 0 Z (lA 1 3 H Z4 (xst 0 H Z8 ?_)));intro _ H
 refine q3 (W_ret (ret_gen (rs:=[.cell 2 66]) (vs:=[_]) results237 ⟨⟨_,Z,load_blk 0 H isAgg66 sizeOf66 Z Z Z⟩,trivial⟩ ?_))
 exact H.rets Z
theorem item_goneItem_c (w0:World)(G0:PH)(hG:PSub G0 w0)(ca:List Value)(a:BItem)(ha:itemE G0 a ca) :
  Calls Tryz.prog 236 #[.agg ca.toArray] w0 (Rets w0 (.agg ca.toArray)):=by
 obtain⟨_,_,_,rfl,_,_,_,_⟩:=ox ha
 have H:=Hp.init hG
 refine calls_of_W (l:=[_]) func236 Z ntmps236 Z (q2 (o_box H Z Z Z ?_));intro _ _ _ H
 refine xal H Z ?_;intro _ _ _ H
 refine q1 (fA 0 Z (lA 1 3 H Z4 (xst 0 H Z8 ?_)));intro _ H
 refine q3 (W_ret (ret_gen (rs:=[.cell 2 66]) (vs:=[_]) results236 ⟨⟨_,Z,load_blk 0 H isAgg66 sizeOf66 Z Z Z⟩,trivial⟩ ?_))
 exact H.rets Z
theorem item_otherItem_c (w0:World)(G0:PH)(hG:PSub G0 w0)(ca:List Value)(a:BItem)(ha:itemE G0 a ca) :
  Calls Tryz.prog 238 #[.agg ca.toArray] w0 (Rets w0 (.agg ca.toArray)):=by
 obtain⟨_,_,_,rfl,_,_,_,_⟩:=ox ha
 have H:=Hp.init hG
 refine calls_of_W (l:=[_]) func238 Z ntmps238 Z (q2 (o_box H Z Z Z ?_));intro _ _ _ H
 refine xal H Z ?_;intro _ _ _ H
 refine q1 (fA 0 Z (lA 1 3 H Z4 (xst 0 H Z8 ?_)));intro _ H
 refine q3 (W_ret (ret_gen (rs:=[.cell 2 66]) (vs:=[_]) results238 ⟨⟨_,Z,load_blk 0 H isAgg66 sizeOf66 Z Z Z⟩,trivial⟩ ?_))
 exact H.rets Z
theorem kindOf_newItem_c (w0:World)(cv:Value) :
  Calls Tryz.prog 51 #[.iface 122 cv] w0 (Rets w0 (.int .i64 1)):=by
 have H:=Hp.init0 w0
 refine calls_of_W (l:=[.iface 122 cv]) func51 Z ntmps51 Z (q2 (aG Z (q3 (W_seq (q2 (mV Z (q3 (W_block (q2 (o_assert (r:= .tuple #[cv,.bool true]) (fun w=>by kernel_rfl) rfl rfl (pe 2 Z (q3 (W_true rfl (q2 (aG rfl ?_)))))))))))))))
 refine q3 (W_ret (N_B_ret (N_K_ret (rt1 results51 Z ?_))))
 exact H.rets Z
theorem kindOf_goneItem_c (w0:World)(cv:Value) :
  Calls Tryz.prog 51 #[.iface 121 cv] w0 (Rets w0 (.int .i64 2)):=by
 have H:=Hp.init0 w0
 refine calls_of_W (l:=[.iface 121 cv]) func51 Z ntmps51 Z (q2 (aG Z (q3 (W_seq (q2 (mV Z (q3 (W_block (q2 (o_assert (r:= .tuple #[.agg #[str [],.bool false,.slice none 0 0],.bool false]) (fun w=>by kernel_rfl) rfl rfl (pe 2 Z (q3 (W_false rfl (q2 (o_assert (r:= .tuple #[cv,.bool true]) (fun w=>by kernel_rfl) rfl rfl ?_)))))))))))))))
 refine pe 2 Z (q3 (W_true Z (q2 (aG Z (q3 (W_ret (N_B_ret (N_K_ret (rt1 results51 Z ?_)))))))))
 exact H.rets Z
theorem kindOf_otherItem_c (w0:World)(cv:Value) :
  Calls Tryz.prog 51 #[.iface 124 cv] w0 (Rets w0 (.int .i64 3)):=by
 have H:=Hp.init0 w0
 refine calls_of_W (l:=[.iface 124 cv]) func51 Z ntmps51 Z (q2 (aG Z (q3 (W_seq (q2 (mV Z (q3 (W_block (q2 (o_assert (r:= .tuple #[.agg #[str [],.bool false,.slice none 0 0],.bool false]) (fun w=>by kernel_rfl) rfl rfl (pe 2 Z (q3 (W_false rfl (q2 (o_assert (r:= .tuple #[.agg #[str [],.bool false,.slice none 0 0],.bool false]) (fun w=>by kernel_rfl) rfl rfl ?_)))))))))))))))
 refine pe 2 Z (q3 (W_false Z (W_skip (N_B (N_K (q2 (aG Z (q3 (W_ret (rt1 results51 Z ?_))))))))))
 exact H.rets Z
abbrev chgW:PH→BPart→Value→Prop:=chgV 122 121 124
abbrev chgX:PH→BPart→List Value→Prop:=chgE 122 121 124
theorem kindOf_c (w0:World)(x:BPart)(cv:Value){G0:PH}(hcv:chgX G0 x [cv]):Calls Tryz.prog 51 #[cv] w0 (Rets w0 (.int .i64 x.kind)):=by
 obtain⟨_,_,_,_,e,_,_,hk⟩:=hcv
 cases e
 rcases hk with ⟨hk,rfl⟩|⟨hk,rfl⟩|⟨hk,rfl⟩<;>rw[hk]
 ·exact kindOf_newItem_c w0 _
 ·exact kindOf_goneItem_c w0 _
 exact kindOf_otherItem_c w0 _
theorem itemCall {G:PH}{x:BPart}{cv:Value}(hcv:chgX G x [cv]):∃(a:Option Addr) (m k:Nat) (f:FuncId) (u:Value),x.path.length≤16777216∧RdI G (.slice a m k) x.bytes∧(∀w,(callMethod cv "loop.example/snapshotfiles/impl.item" #[]).run Tryz.prog w= .ok (.enter f #[u]) w) ∧
  ∀w,PSub G w→Calls Tryz.prog f #[u] w (Rets w (.agg #[str x.path,.bool x.dir,.slice a m k])):=by
 obtain⟨a,m,k,_,e,hp,hr,hk⟩:=hcv
 cases e
 have hE:itemE G ⟨x.path,x.dir,x.bytes⟩ [str x.path,.bool x.dir,.slice a m k]:=⟨_,_,_,rfl,hp,hr⟩
 rcases hk with ⟨hk,rfl⟩|⟨hk,rfl⟩|⟨hk,rfl⟩
 ·exact⟨a,m,k,237,_,hp,hr,fun w=>by kernel_rfl,fun w hG=>item_newItem_c w G hG _ _ hE⟩
 ·exact⟨a,m,k,236,_,hp,hr,fun w=>by kernel_rfl,fun w hG=>item_goneItem_c w G hG _ _ hE⟩
 exact⟨a,m,k,238,_,hp,hr,fun w=>by kernel_rfl,fun w hG=>item_otherItem_c w G hG _ _ hE⟩
theorem i_treeOf_c (w0:World)(G0:PH)(hG:PSub G0 w0)(db mb:Nat)(es:Array MapEntry)(ck:Nat)(xs:List (Int×Value))(T:Nd)(FT:Fr)(sv:Value)(sn:List (Bs×Nd))(c:List Value)(FSq:Fr)(d:BDisk)(hm:MapIs (Value.int .i64) es ck xs)(hS:StR G0 xs d.store)(hN:NdO 143 97 G0 T FT)(hT:Nd.TOK T d.tree)(hchk:Chk osE 2 G0 c sn)(hNs:NdsO 143 97 G0 (sn.map (·.2)) FSq)(hSn:SnOK sn d.snaps)(hdv:Sp.DiskValid d=true)(name:Bs)(hname:name.length≤16777216)(hLent:Lent w0 G0 [blk db (cl [.int .i32 0,.int .u32 0,.map (some mb),.pointer (some ⟨T.b,0,none⟩),sv] 111),blk mb (.map es ck),frag FT,acc 117 2 sv sn.length c,frag FSq]) :
  Calls Tryz.prog 21 #[.pointer (some ⟨db,0,none⟩),str name] w0 (RetM w0 G0 (fps [blk db (cl [.int .i32 0,.int .u32 0,.map (some mb),.pointer (some ⟨T.b,0,none⟩),sv] 111),blk mb (.map es ck),frag FT,acc 117 2 sv sn.length c,frag FSq]) (fun G' v Bs=>∃(F:Fr) (tv:Value),v= .tuple #[tv,.bool (Sp.l14Tree d name).isSome]∧Bs=frag F::[blk db (cl [.int .i32 0,.int .u32 0,.map (some mb),.pointer (some ⟨T.b,0,none⟩),sv] 111),blk mb (.map es ck),frag FT,acc 117 2 sv sn.length c,frag FSq]∧OIs F tv (Sp.ltD d name))):=by
 have H:Hp w0 G0 (fps [blk db (cl [.int .i32 0,.int .u32 0,.map (some mb),.pointer (some ⟨T.b,0,none⟩),sv] 111),blk mb (.map es ck),frag FT,acc 117 2 sv sn.length c,frag FSq]) w0 G0 [blk db (cl [.int .i32 0,.int .u32 0,.map (some mb),.pointer (some ⟨T.b,0,none⟩),sv] 111),blk mb (.map es ck),frag FT,acc 117 2 sv sn.length c,frag FSq]:=hLent.hp
 obtain⟨_,_,rfl⟩:=H.accShape (k:=3) rfl;have hVd:=Sp.valid_iff.1 (Sp.dv_parts.1 hdv).1;have hTv:=(Sp.dv_parts.1 hdv).2.1;have hTc:=hT.cnt;have hTl:=Sp.tree_len hTv;have hsnl:=hSn.len;have hsn6:=(Sp.dv_parts.1 hdv).2.2.1
 refine calls_of_W (l:=[.pointer (some ⟨db,0,none⟩),str name]) func21 Z ntmps21 Z (q2 (pe 2 Z (q3 (W_seq (q2 (mV Z (o_seql Z Z Z (q3 ?_))))))))
 refine W_cond Z ?_ ?_
 ·intro hc1
  try simp only[nrm]at hc1
  refine q2 (pe 2 Z (q3 (W_ret (N_K_ret (rt2 results21 Z Z ?_)))))
  have H:=H.sel [0,1,2,3,4] rfl
  have hj:Sp.l14Tree d name=some []:=Sp.lt_nil (by simpa using hc1)
  have H:=H.addF
  exact H.retM ⟨[],_,(by rw[hj];rfl),rfl,(by rw[Sp.ltD,hj];exact oi_nil)⟩
 intro hc1'
 try simp only[nrm]at hc1'
 refine W_skip (N_K (q2 (pe 2 Z (xr H Z2 (i_snapAt_c _ _ (H.lendSubL [0,3]) _ _ _ _ _ _ _ (prow_blk (H.lendPredL (k:=0) (ks:=[0,3]) Z Z)) (H.lendRdL (k:=3) (ks:=[0,3]) Z Z hchk aN aN) _ hname) ?_))));intro _ H
 refine aG Z (q3 (W_seq (q2 (pe 2 Z (q3 ?_)))))
 refine W_cond Z ?_ ?_
 ·intro hc3
  try simp only[nrm]at hc3
  refine q2 (pe 2 Z (q3 (W_ret (N_K_ret (rt2 results21 Z Z ?_)))))
  have H:=H.sel [0,1,2,3,4] rfl
  have hj:Sp.l14Tree d name=none:=Sp.lt_no (by simpa using hc1') (Sp.at_none (show Sp.optI (Sp.atS d.snaps name)<0 by (rw[←Sp.sn_find hSn];omega)))
  have H:=H.addF
  exact H.retM ⟨[],_,(by rw[hj];rfl),rfl,(by rw[Sp.ltD,hj];exact oi_nil)⟩
 intro hc3'
 try simp only[nrm]at hc3'
 obtain⟨i,x,s0,hat,hsx,hs0,hai,htx,_⟩:=sn_at hSn (n:=name) oM
 refine W_skip (N_K (q2 (pe 2 Z (fA 4 Z (lB 0 H Z3 (mV Z (o_index_A 3 H i Z hchk underlying109 sizeOf117 Z Z Z hat aN aN ?_)))))));intro _ z4 _ hba4 hz4 hE4 hg4;cases hba4
 obtain⟨rfl,hi4⟩:=hE4;have hy_hi4:_≤16777216:=hi4
 refine fA 1 Z (o_load_A 3 H isAgg97 Z Z Z (hg4 1 _ Z) ?_)
 refine xc Z2 (i_tlist_c _ _ (H.lendSubL [4]) _ (H.lendNs (k:=4) (ks:=[4]) Z Z hNs z4.2 (List.mem_map_of_mem (List.mem_of_getElem? hz4))) (sn_ok hSn _ (List.mem_map_of_mem (List.mem_of_getElem? hz4))).1 (by have:=(sn_ok hSn _ (List.mem_map_of_mem (List.mem_of_getElem? hz4))).2;omega)) ?_
 rintro _ _ ⟨_,_,rfl,H5',⟨_,rfl,hO5⟩⟩
 have H:=H.readersL H5'
 obtain⟨_,hP5⟩:=hO5
 obtain⟨_,_,rfl⟩:=OwnS.shape hP5
 have hO5:=OIs.mk hP5
 refine⟨_,Z,?_⟩
 refine pe 2 Z (q3 (W_ret (rt2 results21 Z Z ?_)))
 have H:=H.sel [0,1,2,3,4,5] rfl
 obtain rfl:x=z4:=Option.some.inj (hsx.symm.trans hz4)
 have hj:Sp.l14Tree d name=some s0.tree:=Sp.lt_yes (by simpa using hc1') hai hs0
 exact H.retM ⟨_,_,(by rw[hj];rfl),rfl,(by rw[Sp.ltD,hj];show OIs _ _ s0.tree;(rw[←htx.flat]);exact hO5)⟩
theorem i_partOf_c (w0:World)(G0:PH)(hG:PSub G0 w0)(db mb:Nat)(es:Array MapEntry)(ck:Nat)(xs:List (Int×Value))(T:Nd)(FT:Fr)(sv:Value)(sn:List (Bs×Nd))(c:List Value)(FSq:Fr)(d:BDisk)(hm:MapIs (Value.int .i64) es ck xs)(hS:StR G0 xs d.store)(hN:NdO 143 97 G0 T FT)(hT:Nd.TOK T d.tree)(hchk:Chk osE 2 G0 c sn)(hNs:NdsO 143 97 G0 (sn.map (·.2)) FSq)(hSn:SnOK sn d.snaps)(hdv:Sp.DiskValid d=true)(x:BPart)(cv:Value)(hcv:chgX G0 x [cv])(hLent:Lent w0 G0 [blk db (cl [.int .i32 0,.int .u32 0,.map (some mb),.pointer (some ⟨T.b,0,none⟩),sv] 111),blk mb (.map es ck),frag FT,acc 117 2 sv sn.length c,frag FSq])(hid:Sp.l4Ids d.store x.bytes=true)(hdi:x.dir=true→x.bytes=[]) :
  Calls Tryz.prog 23 #[.pointer (some ⟨db,0,none⟩),cv] w0 (RetM w0 G0 (fps [blk db (cl [.int .i32 0,.int .u32 0,.map (some mb),.pointer (some ⟨T.b,0,none⟩),sv] 111),blk mb (.map es ck),frag FT,acc 117 2 sv sn.length c,frag FSq]) (fun G' v Bs=>∃(F:Fr) (cs:List Value),v= .tuple #[.agg cs.toArray,.bool true]∧Bs=frag F::[blk db (cl [.int .i32 0,.int .u32 0,.map (some mb),.pointer (some ⟨T.b,0,none⟩),sv] 111),blk mb (.map es ck),frag FT,acc 117 2 sv sn.length c,frag FSq]∧partO F (Sp.pcP d.store x) cs)):=by
 have hck:=chgE.kind hcv
 have H:Hp w0 G0 (fps [blk db (cl [.int .i32 0,.int .u32 0,.map (some mb),.pointer (some ⟨T.b,0,none⟩),sv] 111),blk mb (.map es ck),frag FT,acc 117 2 sv sn.length c,frag FSq]) w0 G0 [blk db (cl [.int .i32 0,.int .u32 0,.map (some mb),.pointer (some ⟨T.b,0,none⟩),sv] 111),blk mb (.map es ck),frag FT,acc 117 2 sv sn.length c,frag FSq]:=hLent.hp
 obtain⟨_,_,rfl⟩:=H.accShape (k:=3) rfl;have hVd:=Sp.valid_iff.1 (Sp.dv_parts.1 hdv).1;have hTv:=(Sp.dv_parts.1 hdv).2.1;have hTc:=hT.cnt;have hTl:=Sp.tree_len hTv;have hsnl:=hSn.len;have hsn6:=(Sp.dv_parts.1 hdv).2.2.1
 refine calls_of_W (l:=[.pointer (some ⟨db,0,none⟩),cv]) func23 Z ntmps23 Z (q2 (xal H Z ?_));intro _ _ _ H
 refine aG Z (q1 (mV Z ?_))
 obtain⟨_,_,_,_,_,hcp,hcr,hcM,hcC⟩:=itemCall hcv;have hn_hcr:=hcr.len;have hx_hcr:_≤1099511627776:=hcr.lim
 refine o_invoke hcM Z Z (hcC _ H.sub) ?_;rintro _ w2 ⟨rfl,ew2⟩;have H:=H.step ew2;refine⟨_,rfl,?_⟩
 refine xal H Z ?_;intro _ _ _ H
 refine xst 0 H Z8 ?_;intro _ H
 refine q3 (W_seq (W_drawK [0,1,2] 9 H kR Z ?_));intro _ H;have hd5:=PLe.refl G0
 refine dE 0 Z2 (dF 2 0 Z2 (dB 3 0 Z4 (dF 4 1 Z2 (dB 5 0 Z4 ?_))))
 refine r2 1 7 Z2 ?_ ?_
 ·skip
  refine o_call call51 Z Z (kindOf_c _ _ _ hcv) ?_;rintro _ w6 ⟨rfl,ew6⟩;have H:=H.step ew6;refine⟨_,rfl,?_⟩
  refine q4 H hd5 (RD_t 6 Z kR Z (fun _ hK=>v_build bf58 Z Z) (r1 7 Z (xal H Z ?_)));intro _ _ _ H
  refine q4 H hd5 (r1 8 Z (xst 0 H Z8 ?_));intro _ H
  refine R_nil (N_DKlast kR kR (N_K (W_seq (q2 (fA 0 Z (lB 0 H Z3 (pe 2 Z ?_)))))))
  refine R_case (t:=22) Z ?_ ?_
  ·intro hc9
   try simp only[nrm]at hc9
   refine pe 3 Z (q3 (W_true Z (q2 (lA 0 4 H Z4 (xst 2 H Z8 ?_)))));intro _ H
   refine aG Z (q3 (W_ret (N_K_ret (ret_gen (rs:=[.cell 4 58,.tmp 5]) (vs:=[_,_]) results23 ⟨⟨_,Z,load_blk 2 H isAgg58 sizeOf58 Z Z Z⟩,Z,trivial⟩ ?_))))
   have H:=H.sel [3,4,5,6,7] rfl
   have H:=H.addF
   exact H.retM ⟨[],_,rfl,rfl,partNil (.inl (by simpa using hc9)) hck hcp⟩
  intro hc9'
  try simp only[nrm]at hc9'
  refine gR Z (fA 1 Z (gR Z (lB 1 H Z3 (pe 1 Z (q3 ?_)))))
  refine W_cond Z ?_ ?_
  ·intro hc11
   try simp only[nrm]at hc11
   refine q2 (lA 0 4 H Z4 (xst 2 H Z8 ?_));intro _ H
   refine aG Z (q3 (W_ret (N_K_ret (ret_gen (rs:=[.cell 4 58,.tmp 5]) (vs:=[_,_]) results23 ⟨⟨_,Z,load_blk 2 H isAgg58 sizeOf58 Z Z Z⟩,Z,trivial⟩ ?_))))
   have H:=H.sel [3,4,5,6,7] rfl
   have H:=H.addF
   exact H.retM ⟨[],_,rfl,rfl,partNil (.inr (hdi (by simpa using hc11))) hck hcp⟩
  intro hc11'
  try simp only[nrm]at hc11'
  refine W_skip (N_K (W_seq (W_drawK [0,1,2,3] 13 H kR Z ?_)));intro _ H;have hd13:=PLe.refl G0
  refine dE 0 Z2 (dE 1 Z2 (dF 2 2 Z2 (dF 3 0 Z2 (dB 4 3 Z4 (dF 5 2 Z2 (dB 6 1 Z4 (r1 7 Z (xc Z2 (i_loadFile_c _ _ (H.lendSubL [4]) _ _ _ _ _ (H.lendPredL (k:=4) (ks:=[4]) Z Z) hm (hS.up (PPlus.le _ _ _)) hVd _ _ (hcr.up (PPlus.le _ _ _))) ?_))))))))
  rintro _ _ ⟨_,_,rfl,H14',⟨_,_,_,rfl,rfl,hchk14,_,hxs14,_⟩⟩
  have H:=H.readersL H14'
  obtain⟨_,_,rfl⟩:=H.accShape (k:=0) rfl
  refine⟨_,Z,?_⟩
  refine q4 H hd13 (dE 8 Z2 (dE 9 Z2 (dE 10 Z2 (dE 11 Z2 (dE 12 Z2 (rz (N_K (q2 (mV Z (fA 3 Z (xst 1 H Z8 ?_)))))))))));intro _ H
  refine q1 (lA 1 4 H Z4 (mV Z (xst 3 H Z8 ?_)));intro _ H
  refine aG Z (q3 (W_ret (ret_gen (rs:=[.cell 4 58,.tmp 5]) (vs:=[_,_]) results23 ⟨⟨_,Z,load_blk 3 H isAgg58 sizeOf58 Z Z Z⟩,Z,trivial⟩ ?_)))
  obtain⟨_,H,hOI1⟩:=H.ownI (k:=0) rfl (chkI hchk14) aN aN
  have H:=H.sel [0,4,5,6,7,8] rfl
  exact H.retM ⟨_,_,(by rw[hid];rfl),rfl,partLoad (by simpa using hc9') hck hcp (hxs14 hid) hOI1⟩
 skip
 refine xal H Z ?_;intro _ _ _ H
 refine q4 H hd5 (r1 1 Z (o_call call51 Z Z (kindOf_c _ _ _ hcv) ?_));rintro _ w18 ⟨rfl,ew18⟩;have H:=H.step ew18;refine⟨_,rfl,?_⟩
 refine q4 H hd5 (RD_t 6 Z kR Z (fun _ hK=>v_build bf58 Z Z) (r1 8 Z (xst 0 H Z8 ?_)));intro _ H
 refine R_nil (N_DKlast kR kR (N_K (W_seq (q2 (fA 0 Z (lB 0 H Z3 (pe 2 Z ?_)))))))
 refine R_case (t:=22) Z ?_ ?_
 ·intro hc20
  try simp only[nrm]at hc20
  refine pe 3 Z (q3 (W_true Z (q2 (lA 0 4 H Z4 (xst 2 H Z8 ?_)))));intro _ H
  refine aG Z (q3 (W_ret (N_K_ret (ret_gen (rs:=[.cell 4 58,.tmp 5]) (vs:=[_,_]) results23 ⟨⟨_,Z,load_blk 2 H isAgg58 sizeOf58 Z Z Z⟩,Z,trivial⟩ ?_))))
  have H:=H.sel [3,4,5,6,7] rfl
  have H:=H.addF
  exact H.retM ⟨[],_,rfl,rfl,partNil (.inl (by simpa using hc20)) hck hcp⟩
 intro hc20'
 try simp only[nrm]at hc20'
 refine gR Z (fA 1 Z (gR Z (lB 1 H Z3 (pe 1 Z (q3 ?_)))))
 refine W_cond Z ?_ ?_
 ·intro hc22
  try simp only[nrm]at hc22
  refine q2 (lA 0 4 H Z4 (xst 2 H Z8 ?_));intro _ H
  refine aG Z (q3 (W_ret (N_K_ret (ret_gen (rs:=[.cell 4 58,.tmp 5]) (vs:=[_,_]) results23 ⟨⟨_,Z,load_blk 2 H isAgg58 sizeOf58 Z Z Z⟩,Z,trivial⟩ ?_))))
  have H:=H.sel [3,4,5,6,7] rfl
  have H:=H.addF
  exact H.retM ⟨[],_,rfl,rfl,partNil (.inr (hdi (by simpa using hc22))) hck hcp⟩
 intro hc22'
 try simp only[nrm]at hc22'
 refine W_skip (N_K (W_seq (W_drawK [0,1,2,3] 13 H kR Z ?_)));intro _ H;have hd24:=PLe.refl G0
 refine dE 0 Z2 (dE 1 Z2 (dF 2 2 Z2 (dF 3 0 Z2 (dB 4 3 Z4 (dF 5 2 Z2 (dB 6 1 Z4 (r1 7 Z (xc Z2 (i_loadFile_c _ _ (H.lendSubL [4]) _ _ _ _ _ (H.lendPredL (k:=4) (ks:=[4]) Z Z) hm (hS.up (PPlus.le _ _ _)) hVd _ _ (hcr.up (PPlus.le _ _ _))) ?_))))))))
 rintro _ _ ⟨_,_,rfl,H25',⟨_,_,_,rfl,rfl,hchk25,_,hxs25,_⟩⟩
 have H:=H.readersL H25'
 obtain⟨_,_,rfl⟩:=H.accShape (k:=0) rfl
 refine⟨_,Z,?_⟩
 refine q4 H hd24 (dE 8 Z2 (dE 9 Z2 (dE 10 Z2 (dE 11 Z2 (dE 12 Z2 (rz (N_K (q2 (mV Z (fA 3 Z (xst 1 H Z8 ?_)))))))))));intro _ H
 refine q1 (lA 1 4 H Z4 (mV Z (xst 3 H Z8 ?_)));intro _ H
 refine aG Z (q3 (W_ret (ret_gen (rs:=[.cell 4 58,.tmp 5]) (vs:=[_,_]) results23 ⟨⟨_,Z,load_blk 3 H isAgg58 sizeOf58 Z Z Z⟩,Z,trivial⟩ ?_)))
 obtain⟨_,H,hOI2⟩:=H.ownI (k:=0) rfl (chkI hchk25) aN aN
 have H:=H.sel [0,4,5,6,7,8] rfl
 exact H.retM ⟨_,_,(by rw[hid];rfl),rfl,partLoad (by simpa using hc20') hck hcp (hxs25 hid) hOI2⟩
theorem i_itemEqual_c (w0:World)(G0:PH)(hG:PSub G0 w0)(ca:List Value)(a:BItem)(ha:itemE G0 a ca)(cb:List Value)(b:BItem)(hb:itemE G0 b cb) :
  Calls Tryz.prog 50 #[.agg ca.toArray,.agg cb.toArray] w0 (Rets w0 (.bool (Sp.l13Same a b))):=by
 obtain⟨_,_,_,rfl,_,hr1,_,_⟩:=ox ha
 obtain⟨_,_,_,rfl,_,hr2,_,_⟩:=ox hb
 have H:=Hp.init hG
 refine calls_of_W (l:=[_,_]) func50 Z ntmps50 Z (q2 (o_box H Z Z Z ?_));intro _ _ _ H
 refine o_box H Z Z Z ?_;intro _ _ _ H
 refine aG Z (q1 (fA 0 Z (lB 1 H Z3 (fA 0 Z (lB 0 H Z3 (o_seql Z Z Z (mV Z ?_)))))))
 refine R_case (t:=10) Z ?_ ?_
 ·intro hc5
  try simp only[nrm]at hc5
  refine gR Z (fA 1 Z (gR Z (lB 1 H Z3 (gR Z (fA 1 Z (gR Z (lB 0 H Z3 (gR Z (o_beql underlying4 Z Z Z (pe 2 Z ?_))))))))))
  refine R_case (t:=17) Z ?_ ?_
  ·intro hc6
   try simp only[nrm]at hc6
   refine gR Z (fA 2 Z (gR Z (lB 1 H Z3 (gR Z (fA 2 Z (gR Z (lB 0 H Z3 (gR Z (xr H Z2 (l_Equal_c _ _ H.sub _ _ hr1 _ _ hr2) ?_)))))))));intro _ H
   refine pe 2 Z (q3 (W_ret (rt1 results50 Z ?_)))
   exact H.rets (congrArg Value.bool (by simp_all [Sp.l13Same,Sp.l2Same]))
  intro hc6'
  try simp only[nrm]at hc6'
  refine pe 7 Z (q3 (W_ret (rt1 results50 Z ?_)))
  exact H.rets (congrArg Value.bool (by simp_all [Sp.l13Same,Sp.l2Same]))
 intro hc5'
 try simp only[nrm]at hc5'
 refine pe 14 Z (q3 (W_ret (rt1 results50 Z ?_)))
 exact H.rets (congrArg Value.bool (by simp_all [Sp.l13Same,Sp.l2Same]))
theorem i_changes_c (w0:World)(G0:PH)(hG:PSub G0 w0)(va:Value)(a:List (BItem))(ha:RdItems G0 va a)(vb:Value)(b:List (BItem))(hb:RdItems G0 vb b)(hla:a.length≤12)(hlb:b.length≤12) :
  Calls Tryz.prog 22 #[va,vb] w0 (RetP w0 G0 (fun G v=>RdS LIM chgX 1 G v ((Sp.chg a b).map Sp.chP))):=by
 obtain⟨aa,ka,rfl⟩:=ha.shape
 have hlima:a.length≤1099511627776:=ha.lim
 obtain⟨ab,kb,rfl⟩:=hb.shape
 have hlimb:b.length≤1099511627776:=hb.lim
 have H:=Hp.init hG
 refine calls_of_W (l:=[.slice aa a.length ka,.slice ab b.length kb]) func22 Z ntmps22 Z (q2 (aG Z (q1 (aG Z (q3 (W_seq (W_block ?_)))))))
 have H:=H.addNil 55 1
 refine W_lp (hf:=(Sub.cons (t:=4) Z Sub.nil)) (J:=fun M w m=>∃(v:Value) (n:Nat) (cs:List Value) (xs:List (BPart)) (i k:Nat) (va vb:Value) (G:PH),M=[(0,va),(1,vb),(5,v)]∧PLe G0 G∧Hp w0 G0 [] w G [acc 55 1 v n cs]∧(Chk chgX 1 G cs xs∧n=xs.length∧i≤a.length∧k≤b.length∧Sp.CG a b i k xs∧xs.length≤i+k∧RdItems G va (a.drop i)∧RdItems G vb (b.drop k))∧m=((a.length-i)+(b.length-k))) (h0:=⟨_,_,_,[],0,0,(.slice aa a.length ka),(.slice ab b.length kb),_,Z,PLe.refl _,H,?inv,Z⟩) (round:=?round)
 case inv=>exact⟨(Chk.nil (E:=chgX) (sz:=1) (G:=G0)),by first|rfl|simp|(simp;omega)|omega,(by exact⟨by omega,by omega,Sp.CG.zero,by simp,ha,hb⟩)⟩
 case round =>
  rintro _ _ _ ⟨v,n,cs,xs,i,k,va,vb,G2,rfl,hle2,H,hinv2,rfl⟩
  obtain⟨hchk2_0,_,hinv2⟩:=hinv2
  obtain⟨av2_0,cv2_0,rfl⟩:=H.accShape (k:=0) rfl
  obtain⟨_,_,hcg,_,hA,hB⟩:=hinv2;obtain⟨aA,kA,rfl⟩:=hA.shape;obtain⟨aB,kB,rfl⟩:=hB.shape;have hlA:(a.drop i).length=a.length-i:=List.length_drop;have hlB:(b.drop k).length=b.length-k:=List.length_drop
  refine W_seq ?_
  have hj3:=PLe.refl G2
  refine W_join (hf:=(Sub.cons (t:=0) Z (Sub.cons (t:=1) Z (Sub.cons (t:=4) Z (Sub.cons (t:=5) Z Sub.nil))))) (J:=fun M w=>∃(cc:Bool) (G:PH),M=[(13,.bool cc)]∧PLe G2 G∧Hp w0 G0 [] w G [acc 55 1 (.slice av2_0 n cv2_0) n cs]∧(cc=Sp.moreB a b i k)) (first:=?_) (second:=?_)
  ·skip
   refine W_region (mV Z (lN Z (pe 2 Z ?_)))
   refine R_case (t:=9) Z ?_ ?_
   ·intro hc4
    try simp only[nrm]at hc4
    refine pe 4 Z (R_nil ?_)
    refine N_J ⟨_,_,Z,hj3,H,?jinv⟩
    case jinv=>(unfold Sp.moreB;rw[Bool.eq_iff_iff];simp[List.length_drop]at *; omega)
   intro hc4'
   try simp only[nrm]at hc4'
   refine pe 1 Z (gR Z (lN Z (pe 2 Z (R_nil ?_))))
   refine N_J ⟨_,_,Z,hj3,H,?jinv⟩
   case jinv=>(unfold Sp.moreB;rw[Bool.eq_iff_iff];simp[List.length_drop]at *; omega)
  rintro _ _ ⟨cc,G3,rfl,hle3,H,hinv3⟩
  have hchk2_0:=hchk2_0.up hle3
  have hA:=hA.up hle3
  have hB:=hB.up hle3
  have hle2:=hle2.trans hle3
  obtain rfl:=hinv3
  refine W_cond Z ?_ ?_
  ·intro hc5
   try simp only[nrm]at hc5
   have hmB:=hc5
   refine W_skip (N_K (W_block (W_seq (W_block ?_))))
   have hj6:=PLe.refl G3
   refine W_join (hf:=(Sub.cons (t:=0) Z (Sub.cons (t:=1) Z (Sub.cons (t:=4) Z (Sub.cons (t:=5) Z Sub.nil))))) (J:=fun M w=>∃(cc:Bool) (G:PH),M=[(14,.bool cc)]∧PLe G3 G∧Hp w0 G0 [] w G [acc 55 1 (.slice av2_0 n cv2_0) n cs]∧(cc=Sp.goneB a b i k)) (first:=?_) (second:=?_)
   ·skip
    refine W_drawK [] 20 H kR Z ?_;intro _ H;have hd7:=PLe.refl G3
    refine dE 0 Z2 (dN 1 Z2 (dE 2 Z2 (dE 3 Z2 ?_)))
    refine RD_case (t:=18) Z ?_ ?_
    ·intro hc8
     try simp only[nrm]at hc8
     refine dE 4 Z2 (dE 5 Z2 (dE 6 Z2 (dE 7 Z2 (RD_pass 8 Z kR kR kR Z (yl_un Z Z) (RD_pass 9 Z kR kR kR Z (yl_un Z Z) (RD_pass 10 Z kR kR kR Z (yl_un Z Z) (RD_pass 11 Z kR kR kR Z (yl_un Z Z) (RD_pass 12 Z kR kR kR Z (yl_un Z Z) (RD_pass 13 Z kR kR kR Z (yl_un Z Z) (RD_pass 14 Z kR kR kR Z (yl_un Z Z) (RD_pass 15 Z kR kR kR Z (yl_un Z Z) (RD_pass 16 Z kR kR kR Z (yl_un Z Z) (dE 17 Z2 (dE 18 Z2 (dE 19 Z2 ?_)))))))))))))))
     refine rz ?_
     refine N_J ⟨_,_,Z,hj6,H,?jinv⟩
     case jinv=>first|exact Sp.goneB_t oM|exact Sp.goneB_f oM oM|skip
    intro hc8'
    try simp only[nrm]at hc8'
    refine dE 4 Z2 (dN 5 Z2 (dE 6 Z2 (dE 7 Z2 ?_)))
    refine RD_case (t:=22) Z ?_ ?_
    ·intro hc9
     try simp only[nrm]at hc9
     refine dE 8 Z2 ?_
     have hl10:=hA.len
     obtain⟨_,_,z10,_,ha10,hz10,hq10,hE10,hrow10,_⟩:=hA.at (i:=0) oM
     clear hq10
     obtain⟨_,_,_,rfl,_,_,_,_⟩:=ox hE10
     refine dI 9 3 0 ha10 Z3 Z (dF 10 0 Z2 (dP 11 hrow10 0 Z3 (dE 12 Z2 ?_)))
     have hl11:=hB.len
     obtain⟨_,_,z11,_,ha11,hz11,hq11,hE11,hrow11,_⟩:=hB.at (i:=0) oM
     clear hq11
     obtain⟨_,_,_,rfl,_,_,_,_⟩:=ox hE11
     refine dI 13 3 0 ha11 Z3 Z (dF 14 0 Z2 (dP 15 hrow11 0 Z3 (RD_tg 16 Z kR Z (yl Z Z) (fun _ hK=>v_slss Z Z) (dE 17 Z2 (dE 18 Z2 (dE 19 Z2 (rz ?_)))))))
     refine N_J ⟨_,_,Z,hj6,H,?jinv⟩
     case jinv=>first|exact Sp.goneB_t oM|exact Sp.goneB_f oM oM|exact Sp.goneB_c (by simpa [List.getElem?_drop] using hz10:a[i]? = some z10) (by simpa [List.getElem?_drop] using hz11:b[k]? = some z11) oM|exact Sp.goneB_c (by simpa [List.getElem?_drop] using hz11:a[i]? = some z11) (by simpa [List.getElem?_drop] using hz10:b[k]? = some z10) oM
    intro hc9'
    try simp only[nrm]at hc9'
    refine dE 8 Z2 (dE 9 Z2 (dE 10 Z2 (dE 11 Z2 (dE 12 Z2 (dE 13 Z2 (dE 14 Z2 (dE 15 Z2 (dE 16 Z2 (dE 17 Z2 (dE 18 Z2 (dE 19 Z2 (rz ?_))))))))))))
    refine N_J ⟨_,_,Z,hj6,H,?jinv⟩
    case jinv=>first|exact Sp.goneB_t oM|exact Sp.goneB_f oM oM|skip
   rintro _ _ ⟨cc,G6,rfl,hle6,H,hinv6⟩
   have hchk2_0:=hchk2_0.up hle6
   have hA:=hA.up hle6
   have hB:=hB.up hle6
   have hle2:=hle2.trans hle6
   obtain rfl:=hinv6
   refine W_cond Z ?_ ?_
   ·intro hc12
    try simp only[nrm]at hc12
    have hgB:=hc12
    have hia:=Sp.gone_lt hmB hgB
    refine q2 (pe 2 Z (iP 0 hA Z3 Z ?_));intro _ _ z13 _ hz13 hE13 hrow13
    obtain⟨_,_,_,rfl,hi13,hr13,_,_⟩:=ox hE13
    refine o_loadagg_P H isAgg66 sizeOf66 Z Z hrow13 Z (o_build bf121 Z Z Z (o_iface kR Z Z (xbs H Z7 ?_)));intro _ _ _ H
    refine o_append1 0 H (sz:=1) (bytes:=16) underlying51 typeInfo55 ⟨_,Z,Z⟩ Z Z Z Z Z Z Z Z Z Z oM Z ?_;intro _ _ H
    have hchk15:=hchk2_0.snoc (show chgX _ ⟨2,z13.path,z13.dir,z13.ids⟩ _ from⟨_,_,_,_,rfl,hi13,hr13,.inr (.inl ⟨rfl,rfl⟩)⟩) rfl
    obtain⟨_,_,rfl⟩:=H.accShape (k:=0) rfl
    refine aG Z (q1 (mV Z ?_))
    have hcap16:=hA.cap;try simp only[List.length_set,List.length_append,List.length_take,List.length_drop,List.length_replicate]at hcap16
    refine o_slice_from (i:=1) underlying24 sizeOf66 Z Z Z oM oM ?_
    have hsl16:=hA.part (i:=1) (j:=_) oM (Nat.le_refl _)
    have hsn1:=hsl16.len
    refine aG Z (q3 (W_exit (N_B_other Z (N_K_exit (N_B_same ?_)))))
    refine N_lp (hJ:=⟨_,_,_,(xs++[⟨2,z13.path,z13.dir,z13.ids⟩]),i+1,k,(.slice (if kA=1 then aA else aA.map (·.add (1*3))) ((a.drop i).length-1) (kA-1)),(.slice aB (b.drop k).length kB),_,Z,hle2,H,?inv,Z⟩) (hm:=?hm)
    case hm=>omega
    case inv=>exact⟨hchk15,aN,(by exact⟨by omega,by omega,hcg.step (c:=[⟨2,⟨z13.path,z13.dir,z13.ids⟩⟩]) (Sp.chg_goneB (by simpa [List.getElem?_drop] using hz13:a[i]? = some z13) hgB),by (simp;omega),(by have h9:=hsl16;rw[List.take_of_length_le (by simp;omega),List.drop_drop]at h9;exact h9),hB⟩)⟩
   intro hc12'
   try simp only[nrm]at hc12'
   have hgB':=hc12'
   have hkb:=Sp.new_lt hgB'
   have hj17:=PLe.refl G6
   refine W_join (hf:=(Sub.cons (t:=0) Z (Sub.cons (t:=1) Z (Sub.cons (t:=4) Z (Sub.cons (t:=5) Z Sub.nil))))) (J:=fun M w=>∃(cc:Bool) (G:PH),M=[(44,.bool cc)]∧PLe G6 G∧Hp w0 G0 [] w G [acc 55 1 (.slice av2_0 n cv2_0) n cs]∧(cc=Sp.newB a b i k)) (first:=?_) (second:=?_)
   ·skip
    refine W_drawK [] 15 H kR Z ?_;intro _ H;have hd18:=PLe.refl G6
    refine dE 0 Z2 (dN 1 Z2 (dE 2 Z2 (dE 3 Z2 ?_)))
    refine RD_case (t:=48) Z ?_ ?_
    ·intro hc19
     try simp only[nrm]at hc19
     refine dE 4 Z2 (dE 5 Z2 (dE 6 Z2 (dE 7 Z2 (dE 8 Z2 (dE 9 Z2 (dE 10 Z2 (dE 11 Z2 (dE 12 Z2 (dE 13 Z2 (dE 14 Z2 (rz ?_)))))))))))
     refine N_J ⟨_,_,Z,hj17,H,?jinv⟩
     case jinv=>first|exact Sp.newB_t oM|skip
    intro hc19'
    try simp only[nrm]at hc19'
    refine dE 4 Z2 ?_
    have hl20:=hB.len
    obtain⟨_,_,z20,_,ha20,hz20,hq20,hE20,hrow20,_⟩:=hB.at (i:=0) oM
    clear hq20
    obtain⟨_,_,_,rfl,_,_,_,_⟩:=ox hE20
    refine dI 5 3 0 ha20 Z3 Z (dF 6 0 Z2 (dP 7 hrow20 0 Z3 (dE 8 Z2 ?_)))
    have hl21:=hA.len
    obtain⟨_,_,z21,_,ha21,hz21,hq21,hE21,hrow21,_⟩:=hA.at (i:=0) oM
    clear hq21
    obtain⟨_,_,_,rfl,_,_,_,_⟩:=ox hE21
    refine dI 9 3 0 ha21 Z3 Z (dF 10 0 Z2 (dP 11 hrow21 0 Z3 (RD_tg 12 Z kR Z (yl Z Z) (fun _ hK=>v_slss Z Z) (dE 13 Z2 (dE 14 Z2 (rz ?_))))))
    refine N_J ⟨_,_,Z,hj17,H,?jinv⟩
    case jinv=>first|exact Sp.newB_t oM|exact Sp.newB_c (by simpa [List.getElem?_drop] using hz20:a[i]? = some z20) (by simpa [List.getElem?_drop] using hz21:b[k]? = some z21) oM|exact Sp.newB_c (by simpa [List.getElem?_drop] using hz21:a[i]? = some z21) (by simpa [List.getElem?_drop] using hz20:b[k]? = some z20) oM
   rintro _ _ ⟨cc,G17,rfl,hle17,H,hinv17⟩
   have hchk2_0:=hchk2_0.up hle17
   have hA:=hA.up hle17
   have hB:=hB.up hle17
   have hle2:=hle2.trans hle17
   obtain rfl:=hinv17
   refine W_cond Z ?_ ?_
   ·intro hc22
    try simp only[nrm]at hc22
    have hnB:=hc22
    refine q2 (pe 2 Z (iP 0 hB Z3 Z ?_));intro _ _ z23 _ hz23 hE23 hrow23
    obtain⟨_,_,_,rfl,hi23,hr23,_,_⟩:=ox hE23
    refine o_loadagg_P H isAgg66 sizeOf66 Z Z hrow23 Z (o_build bf122 Z Z Z (o_iface kR Z Z (xbs H Z7 ?_)));intro _ _ _ H
    refine o_append1 0 H (sz:=1) (bytes:=16) underlying51 typeInfo55 ⟨_,Z,Z⟩ Z Z Z Z Z Z Z Z Z Z oM Z ?_;intro _ _ H
    have hchk25:=hchk2_0.snoc (show chgX _ ⟨1,z23.path,z23.dir,z23.ids⟩ _ from⟨_,_,_,_,rfl,hi23,hr23,.inl ⟨rfl,rfl⟩⟩) rfl
    obtain⟨_,_,rfl⟩:=H.accShape (k:=0) rfl
    refine aG Z (q1 (mV Z ?_))
    have hcap26:=hB.cap;try simp only[List.length_set,List.length_append,List.length_take,List.length_drop,List.length_replicate]at hcap26
    refine o_slice_from (i:=1) underlying24 sizeOf66 Z Z Z oM oM ?_
    have hsl26:=hB.part (i:=1) (j:=_) oM (Nat.le_refl _)
    have hsn2:=hsl26.len
    refine aG Z (q3 (W_exit (N_B_other Z (N_K_exit (N_B_same ?_)))))
    refine N_lp (hJ:=⟨_,_,_,(xs++[⟨1,z23.path,z23.dir,z23.ids⟩]),i,k+1,(.slice aA (a.drop i).length kA),(.slice (if kB=1 then aB else aB.map (·.add (1*3))) ((b.drop k).length-1) (kB-1)),_,Z,hle2,H,?inv,Z⟩) (hm:=?hm)
    case hm=>omega
    case inv=>exact⟨hchk25,aN,(by exact⟨by omega,by omega,hcg.step (c:=[⟨1,⟨z23.path,z23.dir,z23.ids⟩⟩]) (Sp.chg_newB (by simpa [List.getElem?_drop] using hz23:b[k]? = some z23) hgB' hnB),by (simp;omega),hA,(by have h9:=hsl26;rw[List.take_of_length_le (by simp;omega),List.drop_drop]at h9;exact h9)⟩)⟩
   intro hc22'
   try simp only[nrm]at hc22'
   have hnB':=hc22'
   have hia:=Sp.both_lt hnB'
   refine W_seq (W_drawK [] 10 H kR Z ?_);intro _ H;have hd27:=PLe.refl G17
   refine dE 0 Z2 ?_
   have hl28:=hA.len
   obtain⟨_,_,z28,_,ha28,hz28,hq28,hE28,hrow28,_⟩:=hA.at (i:=0) oM
   clear hq28
   obtain⟨_,_,_,rfl,_,_,_,_⟩:=ox hE28
   refine dI 1 3 0 ha28 Z3 Z (dF 2 1 Z2 (dP 3 hrow28 1 Z3 (dE 4 Z2 ?_)))
   have hl29:=hB.len
   obtain⟨_,_,z29,_,ha29,hz29,hq29,hE29,hrow29,_⟩:=hB.at (i:=0) oM
   clear hq29
   obtain⟨_,_,_,rfl,_,_,_,_⟩:=ox hE29
   refine dI 5 3 0 ha29 Z3 Z (dF 6 1 Z2 (dP 7 hrow29 1 Z3 (RD_t 8 Z kR Z (fun _ hK=>v_bneq underlying4 Z Z) (dE 9 Z2 (rz (N_K ?_))))))
   refine W_cond Z ?_ ?_
   ·intro hc30
    try simp only[nrm]at hc30
    refine W_drawK [] 14 H kR Z ?_;intro _ H;have hd31:=PLe.refl G17
    refine dE 0 Z2 (dE 1 Z2 ?_)
    have hl32:=hA.len
    obtain⟨_,_,z32,_,ha32,hz32,hq32,hE32,hrow32,_⟩:=hA.at (i:=0) oM
    clear hq32
    obtain⟨_,_,_,rfl,hi32,hr32,_,_⟩:=ox hE32
    have hzz32:z28=z32:=Option.some.inj (hz28.symm.trans hz32)
    subst hzz32
    refine dI 2 3 0 ha32 Z3 Z (RD_t 3 Z kR Z (fun _ hK=>v_loadagg_P hK isAgg66 sizeOf66 Z hrow32 Z) (RD_t 4 Z kR Z (fun _ hK=>v_build bf121 Z Z) (dE 6 Z2 ?_)))
    have hl33:=hB.len
    obtain⟨_,_,z33,_,ha33,hz33,hq33,hE33,hrow33,_⟩:=hB.at (i:=0) oM
    clear hq33
    obtain⟨_,_,_,rfl,hi33,hr33,_,_⟩:=ox hE33
    have hzz33:z29=z33:=Option.some.inj (hz29.symm.trans hz33)
    subst hzz33
    refine dI 7 3 0 ha33 Z3 Z (RD_t 8 Z kR Z (fun _ hK=>v_loadagg_P hK isAgg66 sizeOf66 Z hrow33 Z) (RD_t 9 Z kR Z (fun _ hK=>v_build bf122 Z Z) ?_))
    refine r2 5 10 Z2 ?_ ?_
    ·skip
     refine o_iface kR Z Z (q4 H hd31 (r1 10 Z (o_iface kR Z Z (q4 H hd31 (r1 11 Z (xbs H Z7 ?_))))));intro _ _ _ H
     refine q4 H hd31 (r1 12 Z (o_append1 0 H (sz:=1) (bytes:=16) underlying51 typeInfo55 ⟨_,Z,Z⟩ Z Z Z Z Z Z Z Z Z Z oM Z ?_));intro _ _ H
     have hchk35:=hchk2_0.app (((Chk.nil (E:=chgX) (sz:=1) (G:=G17)).snoc (show chgX _ (⟨2,z28.path,z28.dir,z28.ids⟩) _ from⟨_,_,_,_,rfl,hi32,hr32,.inr (.inl ⟨rfl,rfl⟩)⟩) rfl).snoc (show chgX _ (⟨1,z29.path,z29.dir,z29.ids⟩) _ from⟨_,_,_,_,rfl,hi33,hr33,.inl ⟨rfl,rfl⟩⟩) rfl)
     obtain⟨_,_,rfl⟩:=H.accShape (k:=0) rfl
     refine q4 H hd31 (dE 13 Z2 (rz (N_B (N_K (W_drawK [] 6 H kR Z ?_)))));intro _ H;have hd36:=PLe.refl G17
     refine dE 0 Z2 ?_
     have hcap37:=hA.cap;try simp only[List.length_set,List.length_append,List.length_take,List.length_drop,List.length_replicate]at hcap37
     have hsl37:=hA.part (i:=1) (j:=_) oM (Nat.le_refl _)
     have hsn3:=hsl37.len
     refine RD_t 1 Z kR Z (fun _ hK=>v_slice_from (i:=1) underlying24 sizeOf66 Z Z oM oM) (dE 2 Z2 ?_)
     have hcap38:=hB.cap;try simp only[List.length_set,List.length_append,List.length_take,List.length_drop,List.length_replicate]at hcap38
     have hsl38:=hB.part (i:=1) (j:=_) oM (Nat.le_refl _)
     have hsn4:=hsl38.len
     refine RD_t 3 Z kR Z (fun _ hK=>v_slice_from (i:=1) underlying24 sizeOf66 Z Z oM oM) (dE 4 Z2 (dE 5 Z2 (rz (N_B ?_))))
     refine N_lp (hJ:=⟨_,_,_,(xs++[⟨2,z28.path,z28.dir,z28.ids⟩,⟨1,z29.path,z29.dir,z29.ids⟩]),i+1,k+1,(.slice (if kA=1 then aA else aA.map (·.add (1*3))) ((a.drop i).length-1) (kA-1)),(.slice (if kB=1 then aB else aB.map (·.add (1*3))) ((b.drop k).length-1) (kB-1)),_,Z,hle2,H,?inv,Z⟩) (hm:=?hm)
     case hm=>omega
     case inv=>exact⟨hchk35,aN,(by exact⟨by omega,by omega,hcg.step (c:=[⟨2,z28⟩,⟨1,z29⟩]) (Sp.chg_kind (by simpa [List.getElem?_drop] using hz28:a[i]? = some z28) (by simpa [List.getElem?_drop] using hz29:b[k]? = some z29) (Sp.goneB_no (by simpa [List.getElem?_drop] using hz28:a[i]? = some z28) (by simpa [List.getElem?_drop] using hz29:b[k]? = some z29) hgB') (Sp.newB_no (by simpa [List.getElem?_drop] using hz28:a[i]? = some z28) (by simpa [List.getElem?_drop] using hz29:b[k]? = some z29) hnB') (by simpa using hc30)),by (simp;omega),(by have h9:=hsl37;rw[List.take_of_length_le (by simp;omega),List.drop_drop]at h9;exact h9),(by have h9:=hsl38;rw[List.take_of_length_le (by simp;omega),List.drop_drop]at h9;exact h9)⟩)⟩
    skip
    refine o_iface kR Z Z (q4 H hd31 (r1 5 Z (o_iface kR Z Z (q4 H hd31 (r1 11 Z (xbs H Z7 ?_))))));intro _ _ _ H
    refine q4 H hd31 (r1 12 Z (o_append1 0 H (sz:=1) (bytes:=16) underlying51 typeInfo55 ⟨_,Z,Z⟩ Z Z Z Z Z Z Z Z Z Z oM Z ?_));intro _ _ H
    have hchk40:=hchk2_0.app (((Chk.nil (E:=chgX) (sz:=1) (G:=G17)).snoc (show chgX _ (⟨2,z28.path,z28.dir,z28.ids⟩) _ from⟨_,_,_,_,rfl,hi32,hr32,.inr (.inl ⟨rfl,rfl⟩)⟩) rfl).snoc (show chgX _ (⟨1,z29.path,z29.dir,z29.ids⟩) _ from⟨_,_,_,_,rfl,hi33,hr33,.inl ⟨rfl,rfl⟩⟩) rfl)
    obtain⟨_,_,rfl⟩:=H.accShape (k:=0) rfl
    refine q4 H hd31 (dE 13 Z2 (rz (N_B (N_K (W_drawK [] 6 H kR Z ?_)))));intro _ H;have hd41:=PLe.refl G17
    refine dE 0 Z2 ?_
    have hcap42:=hA.cap;try simp only[List.length_set,List.length_append,List.length_take,List.length_drop,List.length_replicate]at hcap42
    have hsl42:=hA.part (i:=1) (j:=_) oM (Nat.le_refl _)
    have hsn5:=hsl42.len
    refine RD_t 1 Z kR Z (fun _ hK=>v_slice_from (i:=1) underlying24 sizeOf66 Z Z oM oM) (dE 2 Z2 ?_)
    have hcap43:=hB.cap;try simp only[List.length_set,List.length_append,List.length_take,List.length_drop,List.length_replicate]at hcap43
    have hsl43:=hB.part (i:=1) (j:=_) oM (Nat.le_refl _)
    have hsn6:=hsl43.len
    refine RD_t 3 Z kR Z (fun _ hK=>v_slice_from (i:=1) underlying24 sizeOf66 Z Z oM oM) (dE 4 Z2 (dE 5 Z2 (rz (N_B ?_))))
    refine N_lp (hJ:=⟨_,_,_,(xs++[⟨2,z28.path,z28.dir,z28.ids⟩,⟨1,z29.path,z29.dir,z29.ids⟩]),i+1,k+1,(.slice (if kA=1 then aA else aA.map (·.add (1*3))) ((a.drop i).length-1) (kA-1)),(.slice (if kB=1 then aB else aB.map (·.add (1*3))) ((b.drop k).length-1) (kB-1)),_,Z,hle2,H,?inv,Z⟩) (hm:=?hm)
    case hm=>omega
    case inv=>exact⟨hchk40,aN,(by exact⟨by omega,by omega,hcg.step (c:=[⟨2,z28⟩,⟨1,z29⟩]) (Sp.chg_kind (by simpa [List.getElem?_drop] using hz28:a[i]? = some z28) (by simpa [List.getElem?_drop] using hz29:b[k]? = some z29) (Sp.goneB_no (by simpa [List.getElem?_drop] using hz28:a[i]? = some z28) (by simpa [List.getElem?_drop] using hz29:b[k]? = some z29) hgB') (Sp.newB_no (by simpa [List.getElem?_drop] using hz28:a[i]? = some z28) (by simpa [List.getElem?_drop] using hz29:b[k]? = some z29) hnB') (by simpa using hc30)),by (simp;omega),(by have h9:=hsl42;rw[List.take_of_length_le (by simp;omega),List.drop_drop]at h9;exact h9),(by have h9:=hsl43;rw[List.take_of_length_le (by simp;omega),List.drop_drop]at h9;exact h9)⟩)⟩
   intro hc30'
   try simp only[nrm]at hc30'
   refine W_seq (W_drawK [] 9 H kR Z ?_);intro _ H;have hd44:=PLe.refl G17
   refine dE 0 Z2 ?_
   have hl45:=hA.len
   obtain⟨_,_,z45,_,ha45,hz45,hq45,hE45,hrow45,_⟩:=hA.at (i:=0) oM
   clear hq45
   obtain⟨_,_,_,rfl,hi45,hr45,_,_⟩:=ox hE45
   have hzz45:z28=z45:=Option.some.inj (hz28.symm.trans hz45)
   subst hzz45
   refine dI 1 3 0 ha45 Z3 Z (RD_t 2 Z kR Z (fun _ hK=>v_loadagg_P hK isAgg66 sizeOf66 Z hrow45 Z) (dE 3 Z2 ?_))
   have hl46:=hB.len
   obtain⟨_,_,z46,_,ha46,hz46,hq46,hE46,hrow46,_⟩:=hB.at (i:=0) oM
   clear hq46
   obtain⟨_,_,_,rfl,hi46,hr46,_,_⟩:=ox hE46
   have hzz46:z29=z46:=Option.some.inj (hz29.symm.trans hz46)
   subst hzz46
   refine dI 4 3 0 ha46 Z3 Z (RD_t 5 Z kR Z (fun _ hK=>v_loadagg_P hK isAgg66 sizeOf66 Z hrow46 Z) (r1 6 Z (xr H Z2 (i_itemEqual_c _ _ H.sub _ _ ⟨_,_,_,Z,hi45,hr45⟩ _ _ ⟨_,_,_,Z,hi46,hr46⟩) ?_)));intro _ H
   refine q4 H hd44 (dE 7 Z2 (dE 8 Z2 (rz (N_K ?_))))
   refine W_cond Z ?_ ?_
   ·intro hc48
    try simp only[nrm]at hc48
    refine W_region (pe 2 Z (iP 0 hB Z3 Z ?_));intro _ _ z49 _ hz49 hE49 hrow49
    obtain⟨_,_,_,rfl,hi49,hr49,_,_⟩:=ox hE49
    have hzz49:z29=z49:=Option.some.inj (hz29.symm.trans hz49)
    subst hzz49
    refine o_loadagg_P H isAgg66 sizeOf66 Z Z hrow49 Z (o_build bf124 Z Z Z (o_iface kR Z Z (xbs H Z7 ?_)));intro _ _ _ H
    refine o_append1 0 H (sz:=1) (bytes:=16) underlying51 typeInfo55 ⟨_,Z,Z⟩ Z Z Z Z Z Z Z Z Z Z oM Z ?_;intro _ _ H
    have hchk51:=hchk2_0.snoc (show chgX _ ⟨3,z29.path,z29.dir,z29.ids⟩ _ from⟨_,_,_,_,rfl,hi49,hr49,.inr (.inr ⟨rfl,rfl⟩)⟩) rfl
    obtain⟨_,_,rfl⟩:=H.accShape (k:=0) rfl
    refine aG Z (R_nil (N_B (N_K (W_drawK [] 6 H kR Z ?_))));intro _ H;have hd52:=PLe.refl G17
    refine dE 0 Z2 ?_
    have hcap53:=hA.cap;try simp only[List.length_set,List.length_append,List.length_take,List.length_drop,List.length_replicate]at hcap53
    have hsl53:=hA.part (i:=1) (j:=_) oM (Nat.le_refl _)
    have hsn7:=hsl53.len
    refine RD_t 1 Z kR Z (fun _ hK=>v_slice_from (i:=1) underlying24 sizeOf66 Z Z oM oM) (dE 2 Z2 ?_)
    have hcap54:=hB.cap;try simp only[List.length_set,List.length_append,List.length_take,List.length_drop,List.length_replicate]at hcap54
    have hsl54:=hB.part (i:=1) (j:=_) oM (Nat.le_refl _)
    have hsn8:=hsl54.len
    refine RD_t 3 Z kR Z (fun _ hK=>v_slice_from (i:=1) underlying24 sizeOf66 Z Z oM oM) (dE 4 Z2 (dE 5 Z2 (rz (N_B ?_))))
    refine N_lp (hJ:=⟨_,_,_,(xs++[⟨3,z29.path,z29.dir,z29.ids⟩]),i+1,k+1,(.slice (if kA=1 then aA else aA.map (·.add (1*3))) ((a.drop i).length-1) (kA-1)),(.slice (if kB=1 then aB else aB.map (·.add (1*3))) ((b.drop k).length-1) (kB-1)),_,Z,hle2,H,?inv,Z⟩) (hm:=?hm)
    case hm=>omega
    case inv=>exact⟨hchk51,aN,(by exact⟨by omega,by omega,hcg.step (c:=[⟨3,z29⟩]) (Sp.chg_other (by simpa [List.getElem?_drop] using hz28:a[i]? = some z28) (by simpa [List.getElem?_drop] using hz29:b[k]? = some z29) (Sp.goneB_no (by simpa [List.getElem?_drop] using hz28:a[i]? = some z28) (by simpa [List.getElem?_drop] using hz29:b[k]? = some z29) hgB') (Sp.newB_no (by simpa [List.getElem?_drop] using hz28:a[i]? = some z28) (by simpa [List.getElem?_drop] using hz29:b[k]? = some z29) hnB') (by simpa using hc30') (by simpa using hc48)),by (simp;omega),(by have h9:=hsl53;rw[List.take_of_length_le (by simp;omega),List.drop_drop]at h9;exact h9),(by have h9:=hsl54;rw[List.take_of_length_le (by simp;omega),List.drop_drop]at h9;exact h9)⟩)⟩
   intro hc48'
   try simp only[nrm]at hc48'
   refine W_skip (N_B (N_K (W_drawK [] 6 H kR Z ?_)));intro _ H;have hd55:=PLe.refl G17
   refine dE 0 Z2 ?_
   have hcap56:=hA.cap;try simp only[List.length_set,List.length_append,List.length_take,List.length_drop,List.length_replicate]at hcap56
   have hsl56:=hA.part (i:=1) (j:=_) oM (Nat.le_refl _)
   have hsn9:=hsl56.len
   refine RD_t 1 Z kR Z (fun _ hK=>v_slice_from (i:=1) underlying24 sizeOf66 Z Z oM oM) (dE 2 Z2 ?_)
   have hcap57:=hB.cap;try simp only[List.length_set,List.length_append,List.length_take,List.length_drop,List.length_replicate]at hcap57
   have hsl57:=hB.part (i:=1) (j:=_) oM (Nat.le_refl _)
   have hsn10:=hsl57.len
   refine RD_t 3 Z kR Z (fun _ hK=>v_slice_from (i:=1) underlying24 sizeOf66 Z Z oM oM) (dE 4 Z2 (dE 5 Z2 (rz (N_B ?_))))
   refine N_lp (hJ:=⟨_,_,_,xs,i+1,k+1,(.slice (if kA=1 then aA else aA.map (·.add (1*3))) ((a.drop i).length-1) (kA-1)),(.slice (if kB=1 then aB else aB.map (·.add (1*3))) ((b.drop k).length-1) (kB-1)),_,Z,hle2,H,?inv,Z⟩) (hm:=?hm)
   case hm=>omega
   case inv=>exact⟨hchk2_0,aN,(by exact⟨by omega,by omega,by (have h9:=hcg.step (c:=[]) (Sp.chg_same (by simpa [List.getElem?_drop] using hz28:a[i]? = some z28) (by simpa [List.getElem?_drop] using hz29:b[k]? = some z29) (Sp.goneB_no (by simpa [List.getElem?_drop] using hz28:a[i]? = some z28) (by simpa [List.getElem?_drop] using hz29:b[k]? = some z29) hgB') (Sp.newB_no (by simpa [List.getElem?_drop] using hz28:a[i]? = some z28) (by simpa [List.getElem?_drop] using hz29:b[k]? = some z29) hnB') (by simpa using hc30') (by simpa using hc48'));simpa using h9),by omega,(by have h9:=hsl56;rw[List.take_of_length_le (by simp;omega),List.drop_drop]at h9;exact h9),(by have h9:=hsl57;rw[List.take_of_length_le (by simp;omega),List.drop_drop]at h9;exact h9)⟩)⟩
  intro hc5'
  try simp only[nrm]at hc5'
  refine W_exit (N_K_exit (N_LP_exit (N_B_same (N_K (q2 (pe 2 Z (q3 (W_ret (rt1 results22 Z ?_)))))))))
  obtain⟨_,H,hsg58,hsr58⟩:=H.shut' (k:=0) rfl hchk2_0 aN aN
  obtain⟨h1,h2⟩:=Sp.moreB_no (by simpa using hc5')
  obtain rfl:=hcg.done h1 h2
  exact H.retP hsr58
end Go.Proofs.Tst
