/- Part 5 of the proof: contracts of functions of the program. Conditions: none. -/
import Derived.Test.YteahfcbalmlklaaGreatDoorProg
import Derived.Test.YteahfcbalmlklaaGreatDoorG02
import Derived.Test.YteahfcbalmlklaaGreatDoorG03
import Derived.Test.YteahfcbalmlklaaGreatDoorG04
import Derived.Conc.MuLone
import Derived.KernelRfl
import Derived.WalkKit
import Derived.Lib.Walk
import Derived.MapKept
import Derived.Deep.RegionHeld
import Derived.Shelf.SlSortCmp.NoneTotal
set_option linter.all false
set_option maxRecDepth 100000
set_option maxHeartbeats 8000000
namespace Go.Proofs.Tst
open Go Fw Tryz
theorem i_fileIds_c (w0:World)(G0:PH)(hG:PSub G0 w0)(mbs:Nat)(ess:Array MapEntry)(cks:Nat)(xss:List (Int×Value))(Ls:List BHeld)(hbs:MapAt G0 mbs ess cks)(hms:MapIs (Value.int .i64) ess cks xss)(hSs:StR G0 xss Ls)(hVs:Sp.VH Ls)(vids:Value)(ids:List (Int))(hids:RdI G0 vids ids) :
  Calls Tryz.prog 147 #[.map (some mbs),vids] w0 (Rets w0 (.bool (Sp.l4Ids Ls ids))):=by
 obtain⟨aids,kids,rfl⟩:=hids.shape
 have hlimids:ids.length≤1099511627776:=hids.lim
 have H:=Hp.init hG
 refine calls_of_W (l:=[.map (some mbs),.slice aids ids.length kids]) func147 Z ntmps147 Z (q2 (aG Z (q3 (W_seq (q2 (mV Z (lN Z (pe 1 Z (q3 ?_)))))))))
 refine W_cond Z ?_ ?_
 ·intro hc1
  try simp only[nrm]at hc1
  refine q2 (aG Z (q3 (W_ret (N_K_ret (rt1 results147 Z ?_)))))
  exact H.rets (congrArg Value.bool (by rw[Sp.ids_long oM]))
 intro hc1'
 try simp only[nrm]at hc1'
 refine W_skip (N_K (W_seq (q2 (mV Z (lN Z (mV Z (q3 (W_block ?_))))))))
 refine W_lp (hf:=(Sub.cons (t:=0) Z (Sub.cons (t:=1) Z (Sub.cons (t:=12) Z (Sub.cons (t:=13) Z Sub.nil))))) (J:=fun M w m=>∃(k:Nat) (G:PH),M=[(14,.int .i64 (k:Int))]∧PLe G0 G∧Hp w0 G0 [] w G []∧(k≤ids.length∧∀j,j<k→Sp.idsOk Ls ids j=true)∧m=(ids.length-k)) (h0:=⟨0,_,Z,PLe.refl _,H,?inv,Z⟩) (round:=?round)
 case inv=>exact⟨by omega,fun j hj=>by omega⟩
 case round =>
  rintro _ _ _ ⟨k,_,rfl,hle2,H,hinv2,rfl⟩
  have hSs:=hSs.up hle2
  have hbs:=hbs.up hle2
  have hids:=hids.up hle2
  obtain⟨_,hall⟩:=hinv2
  refine q2 (pe 1 Z (q3 (W_seq ?_)))
  refine W_cond Z ?_ ?_
  ·intro hc3
   try simp only[nrm]at hc3
   refine W_skip (N_K (W_seq (W_block (q2 (mV Z (iP k hids Z3 Z ?_))))));intro _ _ z4 _ hz4 hE4 hrow4
   obtain⟨rfl,_⟩:=hE4
   refine lP H hrow4 0 Z2 (pe 2 Z (q1 (pe 2 Z (o_lookS2 (hbs.at H.sub) hms hSs underlying135 underlying3 zeroValue107 Z Z Z ?_))));intro _ hE5
   obtain⟨_,_,_,rfl,_,_,_,_,_⟩:=ox hE5
   refine pe 3 Z (xal H Z ?_);intro _ _ _ H
   refine xst 0 H Z8 ?_;intro _ H
   refine aG Z (q1 (pe 3 Z ?_))
   refine R_case (t:=27) Z ?_ ?_
   ·intro hc8
    try simp only[nrm]at hc8
    refine pe 6 Z (R_pass Z (yl_un Z Z) (R_pass Z (yl_un Z Z) (R_pass Z (yl_un Z Z) (R_pass Z (yl_un Z Z) (pe 2 Z (q3 (W_true Z (q2 (aG Z (q3 (W_ret (N_B_ret (N_K_ret (N_LP_ret (N_B_ret ?_)))))))))))))))
    refine N_K_ret (rt1 results147 Z ?_)
    exact H.rets (congrArg Value.bool (by rw[Sp.ids_false (k:=k) oM (by exact Sp.idsOk_no hz4 (by simpa using hc8))]))
   intro hc8'
   try simp only[nrm]at hc8'
   have hfd:(Sp.atH Ls z4).isSome=true:=by simpa using hc8'
   have hbl:=Sp.bv_len (Sp.get_ok hVs hfd).2.1
   have hio:=Sp.idsOk_get hz4 hfd
   refine pe 2 Z (gR Z (lN Z (gR Z (o_sub Z Z Z oO (pe 2 Z ?_)))))
   refine R_case (t:=33) Z ?_ ?_
   ·intro hc10
    try simp only[nrm]at hc10
    refine gR Z (fA 1 Z (gR Z (lB 0 H Z3 (gR Z (lN Z (pe 3 Z (q3 ?_)))))))
    refine W_cond Z ?_ ?_
    ·intro hc11
     try simp only[nrm]at hc11
     refine q2 (aG Z (q3 (W_ret (N_B_ret (N_K_ret (N_LP_ret (N_B_ret (N_K_ret (rt1 results147 Z ?_)))))))))
     exact H.rets (congrArg Value.bool (by rw[Sp.ids_false (k:=k) oM (by rw[hio];simp;omega)]))
    intro hc11'
    try simp only[nrm]at hc11'
    refine W_skip (N_B (N_K (W_region (aD Z2 (mV Z (R_nil ?_))))))
    have H:=H.dl 0
    refine N_lp (hJ:=⟨k+1,_,Z,hle2,H,?inv,Z⟩) (hm:=?hm)
    case hm=>omega
    case inv=>exact⟨by omega,Sp.upto_succ hall (by rw[hio];simp;omega)⟩
   intro hc10'
   try simp only[nrm]at hc10'
   refine pe 6 Z (q3 (W_false Z (W_skip (N_B (N_K (W_region (aD Z2 (mV Z (R_nil ?_)))))))))
   have H:=H.dl 0
   refine N_lp (hJ:=⟨k+1,_,Z,hle2,H,?inv,Z⟩) (hm:=?hm)
   case hm=>omega
   case inv=>exact⟨by omega,Sp.upto_succ hall (by rw[hio];simp;omega)⟩
  intro hc3'
  try simp only[nrm]at hc3'
  refine W_exit (N_K_exit (N_LP_exit (N_B_same (N_K (q2 (aG Z (q3 (W_ret (rt1 results147 Z ?_)))))))))
  exact H.rets (congrArg Value.bool (by rw[Sp.ids_true (fun j hj=>hall j oM) oM]))
theorem i_freeFile_c (w0:World)(G0:PH)(hG:PSub G0 w0)(mbs:Nat)(ess:Array MapEntry)(cks:Nat)(xss:List (Int×Value))(Ls:List BHeld)(hms:MapIs (Value.int .i64) ess cks xss)(hSs:StR G0 xss Ls)(hVs:Sp.VH Ls)(vids:Value)(ids:List (Int))(hids:RdI G0 vids ids)(hLent:Lent w0 G0 [blk mbs (.map ess cks)]) :
  Calls Tryz.prog 123 #[.map (some mbs),vids] w0 (RetM w0 G0 [mbs] (fun G' v Bs=>∃(es':Array MapEntry) (ck':Nat) (xs':List (Int×Value)) (L':List BHeld),v= .bool (Sp.FileFree Ls ids).isSome∧Bs=[blk mbs (.map es' ck')]∧MapIs (Value.int .i64) es' ck' xs'∧StR G' xs' L'∧Sp.VH L'∧∀l,Sp.FileFree Ls ids=some l→L'=l)):=by
 obtain⟨aids,kids,rfl⟩:=hids.shape
 have hlimids:ids.length≤1099511627776:=hids.lim
 have H:Hp w0 G0 [mbs] w0 G0 [blk mbs (.map ess cks)]:=hLent.hp
 refine calls_of_W (l:=[.map (some mbs),.slice aids ids.length kids]) func123 Z ntmps123 Z (q2 (aG Z (q3 (W_seq (q2 (pe 2 Z (xr H Z2 (i_fileIds_c _ _ (H.lendSubL [0]) _ _ _ _ _ (H.lendPredL (k:=0) (ks:=[0]) Z Z) hms (hSs.up (PPlus.le _ _ _)) hVs _ _ (hids.up (PPlus.le _ _ _))) ?_)))))));intro _ H
 refine pe 1 Z (q3 ?_)
 refine W_cond Z ?_ ?_
 ·intro hc2
  try simp only[nrm]at hc2
  refine q2 (aG Z (q3 (W_ret (N_K_ret (rt1 results123 Z ?_)))))
  have hno:Sp.FileFree Ls ids=none:=by simp[Sp.FileFree,hc2]
  exact H.retM ⟨_,_,_,_,congrArg Value.bool (by rw[hno];rfl),rfl,hms,hSs,hVs,fun l hl=>by rw[hno]at hl;cases hl⟩
 intro hc2'
 try simp only[nrm]at hc2'
 refine W_skip (N_K (W_seq (q2 (mV Z (lN Z (mV Z (q3 (W_block ?_))))))))
 refine W_lp (hf:=(Sub.cons (t:=0) Z (Sub.cons (t:=11) Z (Sub.cons (t:=12) Z Sub.nil)))) (J:=fun M w m=>∃(esm0:Array MapEntry) (ckm0:Nat) (xsm0:List (Int×Value)) (Lm0:List BHeld) (k:Nat) (G:PH),M=[(13,.int .i64 (k:Int))]∧PLe G0 G∧Hp w0 G0 [mbs] w G [blk mbs (.map esm0 ckm0)]∧(MapIs (Value.int .i64) esm0 ckm0 xsm0∧StR G xsm0 Lm0∧Sp.VH Lm0∧k≤ids.length∧Sp.foldB Sp.StoreDrop (ids.take k) (some Ls)=some Lm0)∧m=(ids.length-k)) (h0:=⟨_,_,xss,Ls,0,_,Z,PLe.refl _,H,?inv,Z⟩) (round:=?round)
 case inv=>exact⟨hms,hSs,hVs,(by simp[Sp.foldB])⟩
 case round =>
  rintro _ _ _ ⟨esm0,ckm0,xsm0,Lm0,k,_,rfl,hle3,H,hinv3,rfl⟩
  have hids:=hids.up hle3
  obtain⟨hm3_m0,hS3_m0,hV3_m0,hinv3⟩:=hinv3
  obtain⟨_,hf⟩:=hinv3
  refine q2 (pe 1 Z (q3 (W_seq ?_)))
  refine W_cond Z ?_ ?_
  ·intro hc4
   try simp only[nrm]at hc4
   refine W_skip (N_K (W_seq (W_block (q2 (iP k hids Z3 Z ?_)))));intro _ _ z5 _ hz5 hE5 hrow5
   obtain⟨rfl,_⟩:=hE5
   refine lP H hrow5 0 Z2 (aG Z (q1 (pe 2 Z (xc Z2 (i_drop_c _ _ H.sub _ _ _ _ _ hm3_m0 hS3_m0 hV3_m0 _ H.lent1) ?_))))
   rintro _ _ ⟨_,_,_,rfl,H6',⟨_,_,xs6,L6,rfl,rfl,hm6,hS6,hV6,hL6⟩⟩
   have hle3:=hle3.trans H6'.le
   have H:=H.borrow1 H6'
   refine⟨_,Z,?_⟩
   refine pe 1 Z (q3 ?_)
   refine W_cond Z ?_ ?_
   ·intro hc7
    try simp only[nrm]at hc7
    refine q2 (aG Z (q3 (W_ret (N_B_ret (N_K_ret (N_LP_ret (N_B_ret (N_K_ret (rt1 results123 Z ?_)))))))))
    have hno:Sp.FileFree Ls ids=none:=by (have hno:Sp.StoreDrop Lm0 z5=none:=by simpa using hc7);simp only[Sp.FileFree,Sp.valid_iff.2 hVs,hc2',Bool.and_self,if_true];exact Sp.foldB_stop hf hz5 hno
    exact H.retM ⟨_,_,_,_,congrArg Value.bool (by rw[hno];rfl),rfl,hm6,hS6,hV6,fun l hl=>by rw[hno]at hl;cases hl⟩
   intro hc7'
   try simp only[nrm]at hc7'
   obtain⟨p,hsp⟩:=Option.isSome_iff_exists.1 hc7'
   have hLp:L6=p:=by rw[hL6,hsp];rfl
   subst hLp
   refine W_skip (N_B (N_K (W_region (aD Z2 (mV Z (R_nil ?_))))))
   refine N_lp (hJ:=⟨_,_,xs6,L6,k+1,_,Z,hle3,H,?inv,Z⟩) (hm:=?hm)
   case hm=>omega
   case inv=>exact⟨hm6,hS6,hV6,(by exact⟨by omega,Sp.foldB_succ hf hz5 hsp⟩)⟩
  intro hc4'
  try simp only[nrm]at hc4'
  refine W_exit (N_K_exit (N_LP_exit (N_B_same (N_K (q2 (aG Z (q3 (W_ret (rt1 results123 Z ?_)))))))))
  have hyes:Sp.FileFree Ls ids=some Lm0:=by simp only[Sp.FileFree,Sp.valid_iff.2 hVs,hc2',Bool.and_self,if_true];exact Sp.foldB_all hf oM
  exact H.retM ⟨_,_,_,_,congrArg Value.bool (by rw[hyes];rfl),rfl,hm3_m0,hS3_m0,hV3_m0,fun l hl=>by rw[hyes]at hl;cases hl;rfl⟩
theorem i_listIn_r:∀(N:Nat) (w0:World) (G0:PH) (hG:PSub G0 w0) (t:Nd) (hndt:RdN G0 t) (s:Bs) (hs:s.length≤16777216) (hwt:t.wf) (hsl:s.length+6*t.cnt≤100000) (hsz:t.size≤N),
  Calls Tryz.prog 151 #[.pointer (some ⟨t.b,0,none⟩),str s] w0 (RetN w0 G0 (fun v Bs=>∃(F:Fr),Bs=[frag F]∧OIs F v (t.flat s))):=by
 intro N
 induction N with
 | zero=>intro w0 G0 hG t hndt s hs hwt hsl hsz;exact absurd (Nd.size_pos t) oM
 | succ N ih =>
 intro w0 G0 hG t hndt s hs hwt hsl hsz
 obtain⟨_,_,_,_,_,_,_,hprt,hrit,hrkt⟩:=hndt.open
 have hn_hrit:=hrit.len;have hx_hrit:_≤1099511627776:=hrit.lim
 have hn_hrkt:=hrkt.len;have hx_hrkt:_≤1099511627776:=hrkt.lim
 have H:=Hp.init hG
 refine calls_of_W (l:=[.pointer (some ⟨t.b,0,none⟩),str s]) func151 Z ntmps151 Z (q2 (aG Z (q1 (aG Z (q3 (W_seq (q2 (pe 2 Z (fA 3 Z (lP H hprt 3 Z2 (lN Z (mV Z (q3 (W_block ?_))))))))))))))
 have H:=H.addNil 109 3
 have H:=H.addF
 refine W_lp (hf:=(Sub.cons (t:=1) Z (Sub.cons (t:=4) Z (Sub.cons (t:=12) Z (Sub.cons (t:=13) Z Sub.nil))))) (J:=fun M w m=>∃(v:Value) (n:Nat) (cs:List Value) (xs:List (BItem)) (F:Fr) (k:Nat) (G:PH),M=[(14,.int .i64 (k:Int)),(5,v)]∧PLe G0 G∧Hp w0 G0 [] w G [frag F,acc 109 3 v n cs]∧(ChkF itemO 3 cs xs F∧n=xs.length∧k≤t.kids.length∧xs=Nd.flats s (t.kids.take k))∧m=(t.kids.length-k)) (h0:=⟨_,_,_,[],[],0,_,Z,PLe.refl _,H,?inv,Z⟩) (round:=?round)
 case inv=>exact⟨ChkF.nil,by first|rfl|simp|(simp;omega)|omega,(by simp[Nd.flats])⟩
 case round =>
  rintro _ _ _ ⟨v,n,cs,xs,F,k,G2,rfl,hle2,H,hinv2,rfl⟩
  have hrkt:=hrkt.up hle2
  obtain⟨hchk2_0,_,hinv2⟩:=hinv2
  obtain⟨_,_,rfl⟩:=H.accShape (k:=1) rfl
  obtain⟨_,hxs⟩:=hinv2;have hxl:xs.length≤100000:=by (have:=Nd.flats_len s (t.kids.take k);have:=Nd.cnts_take t.kids k;have:=Nd.cnt_eq t;rw[hxs];omega)
  refine q2 (pe 1 Z (q3 (W_seq ?_)))
  refine W_cond Z ?_ ?_
  ·intro hc3
   try simp only[nrm]at hc3
   refine W_skip (N_K (W_seq (W_block (q2 (iP k hrkt Z3 Z ?_)))));intro _ _ z4 q4 hz4 hE4 hrow4
   obtain⟨rfl,hnd4⟩:=hE4;obtain⟨_,_,_,_,_,_,_,hpr4,hri4,hrk4⟩:=hnd4.open;have hn_hri4:=hri4.len;have hx_hri4:_≤1099511627776:=hri4.lim;have hn_hrk4:=hrk4.len;have hx_hrk4:_≤1099511627776:=hrk4.lim
   have hzm:=List.mem_of_getElem? hz4;have hzc:=Nd.kid_cnt hzm;have hzs:=Nd.size_kid hzm;have hzw:=((Nd.wf_iff _).1 hwt).2 _ hzm;have hzn:=Nd.word_le hzw.1;have hzf:=Nd.flat_len (s++z4.name++[47]) z4
   refine lP H hrow4 0 Z2 (aG Z (q1 (pe 3 Z (fA 0 Z (lP H hpr4 0 Z2 ?_)))))
   refine o_sadd Z Z Z (by simp only[LIM,List.length_append,List.length_cons,List.length_nil]at *; omega) ?_
   refine aG Z (q3 (W_seq (W_drawK [] 15 H kR Z ?_)));intro _ H;have hd5:=PLe.refl G2
   refine dE 0 Z2 (dE 1 Z2 (dE 2 Z2 (dE 3 Z2 (dF 4 1 Z2 (dP 5 hpr4 1 Z3 (dE 6 Z2 (dE 7 Z2 (dF 8 2 Z2 (dP 9 hpr4 2 Z3 (r1 10 Z (xc Z2 (l_Clone_c _ _ H.sub _ _ hri4) ?_)))))))))))
   rintro _ _ ⟨_,_,_,g6,rfl,⟨_,rfl,hchk6⟩,hp6,hq6,hs6⟩
   have H:=H.growO g6 hp6 hq6 hs6;obtain⟨_,_,rfl⟩:=H.accShape (k:=0) rfl
   have hnd4:=hnd4.up g6.le
   have hle2:=hle2.trans g6.le
   have hd5:=hd5.trans g6.le
   refine⟨_,Z,?_⟩
   refine q4 H hd5 (RD_t 11 Z kR Z (fun _ hK=>v_build bf109 Z Z) (r1 12 Z (xbs H Z7 ?_)));intro _ _ _ H
   refine q4 H hd5 (r1 13 Z (o_append1 2 H (sz:=3) (bytes:=48) underlying31 typeInfo109 ⟨_,Z,Z⟩ Z Z Z Z Z Z Z Z Z Z oM Z ?_));intro _ _ H
   obtain⟨Fi2,H,hOI2⟩:=H.ownI (k:=0) rfl hchk6 aN aN
   have hchk8:=hchk2_0.snoc (show itemO Fi2 ⟨s++z4.name,z4.dir,z4.ids⟩ _ from⟨_,_,_,rfl,(by (first|assumption|(refine Sp.l5Parent_lim ?_;assumption)|(simp;done)|(simp;omega)|omega)),hOI2⟩) rfl
   have H:=H.tF 1
   have H:=H.mergeF
   obtain⟨_,_,rfl⟩:=H.accShape (k:=1) rfl
   refine q4 H hd5 (dE 14 Z2 (rz (N_K (W_region (pe 3 Z ?_)))))
   refine o_sadd Z Z Z (by simp only[LIM,List.length_append,List.length_cons,List.length_nil]at *; omega) ?_
   refine xc Z2 (ih _ _ H.sub _ hnd4 _ (by (first|assumption|(refine Sp.l5Parent_lim ?_;assumption)|(simp;done)|(simp;omega)|omega)) hzw.2 (by simp;omega) oM) ?_
   rintro _ _ ⟨_,_,rfl,H9',⟨_,rfl,hO9⟩⟩
   have H:=H.readers (fp:=[]) (by simp) (PLe.refl _) H9'
   obtain⟨_,hP9⟩:=hO9
   obtain⟨_,_,rfl⟩:=OwnS.shape hP9
   have hO9:=OIs.mk hP9
   refine⟨_,Z,?_⟩
   refine o_append_F 1 H hP9 (by intro F _ cs hx _ hu;obtain⟨_,_,_,rfl,_⟩:=hx;simp at hu;rcases hu with rfl|rfl|rfl<;>rfl) (sz:=3) (bytes:=48) underlying31 typeInfo109 ⟨_,rfl,rfl⟩ rfl rfl rfl rfl rfl rfl rfl oM rfl ?_;intro _ _ _ F10_ H hck10 _
   have hchk10:=hchk8.app hck10
   have H:=H.tF 1
   have H:=H.mergeF
   obtain⟨_,_,rfl⟩:=H.accShape (k:=1) rfl
   refine aG Z (R_nil (N_B (N_K (W_region (aD Z2 (mV Z (R_nil ?_)))))))
   refine N_lp (hJ:=⟨_,_,_,((xs++[⟨s++z4.name,z4.dir,z4.ids⟩])++(z4.flat (s++z4.name++[47]))),((F++Fi2)++F10_),k+1,_,Z,hle2,H,?inv,Z⟩) (hm:=?hm)
   case hm=>omega
   case inv=>exact⟨hchk10,aN,(by exact⟨by omega,by (rw[Nd.flats_succ hz4,hxs];simp)⟩)⟩
  intro hc3'
  try simp only[nrm]at hc3'
  refine W_exit (N_K_exit (N_LP_exit (N_B_same (N_K (q2 (pe 2 Z (q3 (W_ret (rt1 results151 Z ?_)))))))))
  have H:=H.tF 1
  obtain⟨_,H,hOw3⟩:=H.ownF hchk2_0 aN aN
  have hX:xs=t.flat s:=by rw[hxs,List.take_of_length_le oM,Nd.flat_eq]
  have H:=H.forget hG (by simp)
  exact⟨_,_,Z,H,_,Z,hX▸⟨_,hOw3⟩⟩
theorem i_listIn_c (w0:World)(G0:PH)(hG:PSub G0 w0)(t:Nd)(hndt:RdN G0 t)(s:Bs)(hs:s.length≤16777216)(hwt:t.wf)(hsl:s.length+6*t.cnt≤100000) :
  Calls Tryz.prog 151 #[.pointer (some ⟨t.b,0,none⟩),str s] w0 (RetN w0 G0 (fun v Bs=>∃(F:Fr),Bs=[frag F]∧OIs F v (t.flat s))):=i_listIn_r _ w0 G0 hG t hndt s hs hwt hsl (Nat.le_refl _)
theorem i_tlist_c (w0:World)(G0:PH)(hG:PSub G0 w0)(t:Nd)(hndt:RdN G0 t)(hwt:t.wf)(hct:t.cnt≤1000) :
  Calls Tryz.prog 120 #[.pointer (some ⟨t.b,0,none⟩)] w0 (RetN w0 G0 (fun v Bs=>∃(F:Fr),Bs=[frag F]∧OIs F v (t.flat []))):=by
 obtain⟨_,_,_,_,_,_,_,_,hrit,hrkt⟩:=hndt.open
 have hn_hrit:=hrit.len;have hx_hrit:_≤1099511627776:=hrit.lim
 have hn_hrkt:=hrkt.len;have hx_hrkt:_≤1099511627776:=hrkt.lim
 have H:=Hp.init hG
 refine calls_of_W (l:=[.pointer (some ⟨t.b,0,none⟩)]) func120 Z ntmps120 Z (q2 (aG Z (q1 (mV Z ?_))))
 refine xc Z2 (i_listIn_c _ _ H.sub _ hndt _ (by (first|assumption|(refine Sp.l5Parent_lim ?_;assumption)|(simp;done)|(simp;omega)|omega)) hwt (by simp;omega)) ?_
 rintro _ _ ⟨_,_,rfl,H1',⟨_,rfl,hO1⟩⟩
 have H:=H.readers (fp:=[]) (by simp) (PLe.refl _) H1'
 obtain⟨_,hP1⟩:=hO1
 obtain⟨_,_,rfl⟩:=OwnS.shape hP1
 have hO1:=OIs.mk hP1
 refine⟨_,Z,?_⟩
 refine aG Z (q3 (W_ret (rt1 results120 Z ?_)))
 have H:=H.forget hG (by simp)
 exact⟨_,_,Z,H,_,Z,hO1⟩
theorem i_usedBy_c (w0:World)(G0:PH)(hG:PSub G0 w0)(mbs:Nat)(ess:Array MapEntry)(cks:Nat)(xss:List (Int×Value))(Ls:List BHeld)(hbs:MapAt G0 mbs ess cks)(hms:MapIs (Value.int .i64) ess cks xss)(hSs:StR G0 xss Ls)(hVs:Sp.VH Ls)(vtrees:Value)(trees:List (Nd))(htrees:RdNd G0 vtrees trees)(htl:trees.length≤7)(htw:∀t,t ∈ trees→t.wf∧t.cnt≤12) :
  Calls Tryz.prog 118 #[.map (some mbs),vtrees] w0 (Rets w0 (.bool (trees.all (fun t=>(t.flat []).all (fun x=>Sp.l4Ids Ls x.ids))&&Ls.all (fun h=>decide ((Sp.cntT trees h.id:Int)=h.uses))))):=by
 obtain⟨atrees,ktrees,rfl⟩:=htrees.shape
 have hlimtrees:trees.length≤1099511627776:=htrees.lim
 have H:=Hp.init hG
 refine calls_of_W (l:=[.map (some mbs),.slice atrees trees.length ktrees]) func118 Z ntmps118 Z (q2 (aG Z (q1 (o_makeMap H Z ?_))));intro b1 _ _ H
 have hm1:=MapIs.empty (key:=Value.int .i64) 0
 have hS1:=UsR.nil
 refine aG Z (q3 (W_seq (q2 (mV Z (lN Z (mV Z (q3 (W_block ?_))))))))
 refine W_lp (hf:=(Sub.cons (t:=0) Z (Sub.cons (t:=5) Z (Sub.cons (t:=15) Z (Sub.cons (t:=16) Z Sub.nil))))) (J:=fun M w m=>∃(esm0:Array MapEntry) (ckm0:Nat) (xsm0:List (Int×Value)) (fm0:Int→Nat) (i:Nat) (G:PH),M=[(17,.int .i64 (i:Int))]∧PLe G0 G∧Hp w0 G0 [] w G [blk b1 (.map esm0 ckm0)]∧(MapIs (Value.int .i64) esm0 ckm0 xsm0∧UsR xsm0 fm0∧i≤trees.length∧(∀a,fm0 a=Sp.cntT (trees.take i) a∧fm0 a≤48*i)∧(trees.take i).all (fun t=>(t.flat []).all (fun x=>Sp.l4Ids Ls x.ids))=true)∧m=(trees.length-i)) (h0:=⟨_,_,[],(fun _=>0),0,_,Z,PLe.refl _,H,?inv,Z⟩) (round:=?round)
 case inv=>exact⟨hm1,hS1,(by simp[Sp.cntT])⟩
 case round =>
  rintro _ _ _ ⟨esm0,ckm0,xsm0,fm0,i,G2,rfl,hle2,H,hinv2,rfl⟩
  have hSs:=hSs.up hle2
  have hbs:=hbs.up hle2
  have htrees:=htrees.up hle2
  obtain⟨hm2_m0,hS2_m0,hinv2⟩:=hinv2
  obtain⟨_,hf,hok⟩:=hinv2
  refine q2 (pe 1 Z (q3 (W_seq ?_)))
  refine W_cond Z ?_ ?_
  ·intro hc3
   try simp only[nrm]at hc3
   refine W_skip (N_K (W_seq (W_block (q2 (iP i htrees Z3 Z ?_)))));intro _ _ z4 _ hz4 hE4 hrow4
   obtain⟨rfl,hnd4⟩:=hE4;obtain⟨_,_,_,_,_,_,_,hpr4,hri4,hrk4⟩:=hnd4.open;have hn_hri4:=hri4.len;have hx_hri4:_≤1099511627776:=hri4.lim;have hn_hrk4:=hrk4.len;have hx_hrk4:_≤1099511627776:=hrk4.lim
   try (have hzw:=htw z4 (List.mem_of_getElem? hz4);have hzf:=Nd.flat_len [] z4)
   refine lP H hrow4 0 Z2 (aG Z (q1 (mV Z (xc Z2 (i_tlist_c _ _ H.sub _ hnd4 hzw.1 oM) ?_))))
   rintro _ _ ⟨_,_,rfl,H5',⟨_,rfl,hO5⟩⟩
   have H:=H.readers (fp:=[]) (by simp) (PLe.refl _) H5'
   obtain⟨e25,hP5⟩:=hO5
   obtain⟨_,_,rfl⟩:=OwnS.shape hP5
   have hO5:=OIs.mk hP5
   refine⟨_,Z,?_⟩
   have hdm1:=dm_nodup H (k:=0) rfl;obtain⟨Gk1,H,hkl1,hks1⟩:=H.keepF (k:=0) rfl (fun b _ hb=>by simp at hb)
   have hrk1:=hO5.rd hks1 hdm1
   have hSs:=hSs.up hkl1
   have hbs:=hbs.up hkl1
   have hle2:=hle2.trans hkl1
   have hn_hrk1:=hrk1.len
   refine lN Z (mV Z (q3 (W_block ?_)))
   refine W_lp (hf:=(Sub.cons (t:=0) Z (Sub.cons (t:=5) Z (Sub.cons (t:=15) Z (Sub.cons (t:=16) Z (Sub.cons (t:=17) Z (Sub.cons (t:=22) Z (Sub.cons (t:=23) Z Sub.nil)))))))) (J:=fun M w m=>∃(esm0:Array MapEntry) (ckm0:Nat) (xsm0:List (Int×Value)) (fm0:Int→Nat) (jj:Nat) (G:PH),M=[(24,.int .i64 (jj:Int))]∧PLe Gk1 G∧Hp w0 G0 [] w G [blk b1 (.map esm0 ckm0)]∧(MapIs (Value.int .i64) esm0 ckm0 xsm0∧UsR xsm0 fm0∧jj≤(z4.flat []).length∧(∀a,fm0 a=Sp.cntT (trees.take i) a+Sp.cntU (z4.flat []) a jj∧fm0 a≤48*i+4*jj)∧((z4.flat []).take jj).all (fun x=>Sp.l4Ids Ls x.ids)=true)∧m=((z4.flat []).length-jj)) (h0:=⟨_,_,xsm0,fm0,0,_,Z,PLe.refl _,H,?inv,Z⟩) (round:=?round)
   case inv=>exact⟨hm2_m0,hS2_m0,(by exact⟨by omega,fun a=>(by have:=hf a;simp[Sp.cntU];omega),by simp⟩)⟩
   case round =>
    rintro _ _ _ ⟨esm0,ckm0,xsm0,fm0,jj,G6,rfl,hle6,H,hinv6,rfl⟩
    have hSs:=hSs.up hle6
    have hbs:=hbs.up hle6
    have hrk1:=hrk1.up hle6
    have hle2:=hle2.trans hle6
    obtain⟨hm6_m0,hS6_m0,hinv6⟩:=hinv6
    obtain⟨_,hf2,hok2⟩:=hinv6
    refine q2 (pe 1 Z (q3 (W_seq ?_)))
    refine W_cond Z ?_ ?_
    ·intro hc7
     try simp only[nrm]at hc7
     refine W_skip (N_K (W_seq (W_block (q2 (iP jj hrk1 Z3 Z ?_)))));intro _ _ z8 _ hz8 hE8 hrow8
     obtain⟨_,_,_,rfl,_,hr8,_,_⟩:=ox hE8
     try (have hzw:=htw z8 (List.mem_of_getElem? hz8);have hzf:=Nd.flat_len [] z8)
     refine o_loadagg_P H isAgg109 sizeOf109 Z Z hrow8 Z (xal H Z ?_);intro b9 _ _ H
     refine xst 0 H Z8 ?_;intro _ H
     refine q3 (W_seq (q2 (mV Z (fA 2 Z (lB 0 H Z3 (xr H Z2 (i_fileIds_c _ _ H.sub _ _ _ _ _ hbs hms hSs hVs _ _ hr8) ?_))))));intro _ H
     refine pe 1 Z (q3 ?_)
     refine W_cond Z ?_ ?_
     ·intro hc12
      try simp only[nrm]at hc12
      refine q2 (aG Z (q3 (W_ret (N_K_ret (N_B_ret (N_K_ret (N_LP_ret (N_B_ret (N_B_ret (N_K_ret (N_LP_ret (N_B_ret (N_K_ret (rt1 results118 Z ?_))))))))))))))
      exact H.rets (congrArg Value.bool (by rw[Sp.all_false hz4 (Sp.all_false hz8 (by simpa using hc12)),Bool.false_and]))
     intro hc12'
     try simp only[nrm]at hc12'
     have hio:Sp.l4Ids Ls z8.ids=true:=by simpa using hc12'
     have hil:=Sp.ids_le hio
     refine W_skip (N_K (q2 (fA 2 Z (lB 0 H Z3 (lN Z (mV Z (q3 (W_block ?_))))))))
     obtain⟨ln13,hln13,H⟩:=H.name (k:=0) rfl
     refine W_lp (hf:=(Sub.cons (t:=0) Z (Sub.cons (t:=5) Z (Sub.cons (t:=15) Z (Sub.cons (t:=16) Z (Sub.cons (t:=17) Z (Sub.cons (t:=22) Z (Sub.cons (t:=23) Z (Sub.cons (t:=24) Z (Sub.cons (t:=34) Z (Sub.cons (t:=35) Z Sub.nil))))))))))) (J:=fun M w m=>∃(esm0:Array MapEntry) (ckm0:Nat) (xsm0:List (Int×Value)) (fm0:Int→Nat) (kk:Nat) (G:PH),M=[(36,.int .i64 (kk:Int))]∧PLe G6 G∧Hp w0 G0 [] w G [blk b9 (cl ln13 109),blk b1 (.map esm0 ckm0)]∧(MapIs (Value.int .i64) esm0 ckm0 xsm0∧UsR xsm0 fm0∧kk≤z8.ids.length∧(∀a,fm0 a=Sp.cntT (trees.take i) a+Sp.cntU (z4.flat []) a jj+Sp.cnt1 a (z8.ids.take kk)∧fm0 a≤48*i+4*jj+kk))∧m=(z8.ids.length-kk)) (h0:=⟨_,_,xsm0,fm0,0,_,Z,PLe.refl _,H,?inv,Z⟩) (round:=?round)
     case inv=>exact⟨hm6_m0,hS6_m0,(by exact⟨by omega,fun a=>(by have:=hf2 a;simp[Sp.cnt1];omega)⟩)⟩
     case round =>
      rintro _ _ _ ⟨esm0,ckm0,xsm0,fm0,kk,_,rfl,hle14,H,hinv14,rfl⟩
      subst hln13
      have hr8:=hr8.up hle14
      have hle6:=hle6.trans hle14
      obtain⟨hm14_m0,hS14_m0,hinv14⟩:=hinv14
      obtain⟨_,hf3⟩:=hinv14;have hb3:=fun a=>(hf3 a).2
      refine q2 (pe 1 Z (q3 (W_seq ?_)))
      refine W_cond Z ?_ ?_
      ·intro hc15
       try simp only[nrm]at hc15
       refine W_skip (N_K (W_seq (W_block (q2 (iP kk hr8 Z3 Z ?_)))));intro _ _ z16 _ hz16 hE16 hrow16
       obtain⟨rfl,_⟩:=hE16
       refine lP H hrow16 0 Z2 (aG Z (q3 (W_region (pe 2 Z (o_lookU (H.at (k:=1) Z) hm14_m0 hS14_m0 underlying193 underlying3 zeroValue3 Z Z Z ?_)))))
       try (have h7:=hb3 z16)
       refine aD Z2 (o_updU 1 H (fm0 z16+1) Z hm14_m0 hS14_m0 underlying193 underlying3 Z Z Z oM ?_);intro _ _ xs19 _ H hm19 hS19
       refine R_nil (N_B (N_K (W_region (aD Z2 (mV Z (R_nil ?_))))))
       refine N_lp (hJ:=⟨_,_,xs19,(fun a=>if a=z16 then(fm0 z16+1) else fm0 a),kk+1,_,Z,hle14,H,?inv,Z⟩) (hm:=?hm)
       case hm=>omega
       case inv=>exact⟨hm19,hS19,(by exact⟨by omega,fun a=>(by have h9:=hf3 a;have h7:=hf3 z16;(rw[Sp.cnt1_succ hz16]);by_cases e:a=z16;(· subst e;simp;omega);(· have e2:¬z16=a:=fun h=>e h.symm;simp only[e,e2,if_false];omega))⟩)⟩
      intro hc15'
      try simp only[nrm]at hc15'
      refine W_exit (N_K_exit (N_LP_exit (N_B_same (N_B (N_K (W_region (aD Z2 (mV Z (R_nil ?_)))))))))
      have H:=H.dl 0
      refine N_lp (hJ:=⟨_,_,xsm0,fm0,jj+1,_,Z,hle6,H,?inv,Z⟩) (hm:=?hm)
      case hm=>omega
      case inv=>exact⟨hm14_m0,hS14_m0,(by exact⟨by omega,fun a=>(by have h9:=hf3 a;(rw[Sp.cntU_succ hz8]);(rw[List.take_of_length_le (l:=z8.ids) oM]at h9);omega),Sp.all_take hok2 hz8 hio⟩)⟩
    intro hc7'
    try simp only[nrm]at hc7'
    refine W_exit (N_K_exit (N_LP_exit (N_B_same (N_B (N_K (W_region (aD Z2 (mV Z (R_nil ?_)))))))))
    refine N_lp (hJ:=⟨_,_,xsm0,fm0,i+1,_,Z,hle2,H,?inv,Z⟩) (hm:=?hm)
    case hm=>omega
    case inv=>exact⟨hm6_m0,hS6_m0,(by exact⟨by omega,fun a=>(by have h9:=hf2 a;have h10:=Sp.cntT_succ (id:=a) hz4;have h8:(z4.flat []).length=jj:=oM;(rw[h8]at h10);omega),Sp.all_take hok hz4 (by (rw[List.take_of_length_le (l:=z4.flat []) oM]at hok2);exact hok2)⟩)⟩
  intro hc3'
  try simp only[nrm]at hc3'
  refine W_exit (N_K_exit (N_LP_exit (N_B_same (N_K (W_seq (q2 (mV Z ?_)))))))
  have hmb23:=(hbs.at H.sub);refine o_range H hmb23 underlying135 rfl rfl ?_;intro r23 _ _ H _;have hne23:r23≠mbs:=fun e=>by have:=(Array.getElem?_eq_some_iff.1 hmb23).1;omega
  refine q3 (W_block ?_)
  refine W_lp (hf:=(Sub.cons (t:=5) Z (Sub.cons (t:=48) Z Sub.nil))) (J:=fun M w m=>∃(sn:Array Nat) (G:PH),M=[]∧PLe G2 G∧Hp w0 G0 [] w G [blk r23 (.mapIter (some mbs) cks sn cks),blk b1 (.map esm0 ckm0)]∧(∀y,y ∈ Ls→seenH ess sn y→(Sp.cntT trees y.id:Int)=y.uses)∧m=((leftOf ess sn).size)) (h0:=⟨#[],_,Z,PLe.refl _,H,?inv,Z⟩) (round:=?round)
  case inv=>rintro y hy ⟨e,_,_,he⟩;simp at he
  case round =>
   rintro _ _ _ ⟨sn,_,rfl,hle24,H,hinv24,rfl⟩
   have hSs:=hSs.up hle24
   have hbs:=hbs.up hle24
   have hsn:=hinv24
   refine q2 ?_
   refine o_next 0 H (hbs.at H.sub) hms hSs Z hne23 Z Z ?_ ?_
   ·intro hall25
    refine pe 1 Z (q3 (W_seq (W_false Z (W_exit (N_K_exit (N_LP_exit (N_B_same (N_K (q2 (aG Z (q3 (W_ret (rt1 results118 Z ?_)))))))))))))
    have hot:=hok;rw[List.take_of_length_le oM]at hot
    exact H.rets (congrArg Value.bool (by (rw[hot,Bool.true_and]);symm;(rw[List.all_eq_true]);intro y hy;simp only[decide_eq_true_eq];exact hsn y hy (hall25 y hy)))
   intro e25 _ _ _ he25 hk25 hv25 hy25 hE25 _ hless25 H
   obtain⟨_,_,_,rfl,_,_,_,_,_⟩:=ox hE25
   refine pe 1 Z (q3 (W_seq (W_true Z (W_skip (N_K (W_block (q2 (o_entry 0 H (hbs.at H.sub) hms Z he25 hk25 hv25 Z Z (pe 2 Z (xal H Z ?_))))))))));intro _ _ _ H
   refine aG Z (xst 0 H Z8 ?_);intro _ H
   refine q1 (pe 2 Z (o_lookU (H.at (k:=2) Z) hm2_m0 hS2_m0 underlying193 underlying3 zeroValue3 Z Z Z (fA 2 Z (lB 0 H Z3 (pe 1 Z (q3 ?_))))))
   refine W_cond Z ?_ ?_
   ·intro hc29
    try simp only[nrm]at hc29
    refine q2 (aG Z (q3 (W_ret (N_B_ret (N_LP_ret (N_B_ret (N_K_ret (rt1 results118 Z ?_))))))))
    have hft:∀a,fm0 a=Sp.cntT trees a:=fun a=>(by have h9:=(hf a).1;(rw[List.take_of_length_le oM]at h9);exact h9)
    have hot:=hok;rw[List.take_of_length_le oM]at hot
    exact H.rets (congrArg Value.bool (by (rw[hot,Bool.true_and]);symm;(rw[List.all_eq_false]);exact⟨_,hy25,by simp only[decide_eq_true_eq];(rw[←hft]);first|exact hc29|(simpa using hc29)|omega⟩))
   intro hc29'
   try simp only[nrm]at hc29'
   refine W_skip (N_B ?_)
   have H:=H.dl 0
   refine N_lp (hJ:=⟨_,_,Z,hle24,H,?inv,Z⟩) (hm:=?hm)
   case hm=>exact hless25
   case inv=>intro y hy hs;rcases seenH_push hms (hSs.nd hms) he25 hk25 hy25 hy hs with rfl|h;(· (have h9:=(hf y.id).1;(rw[List.take_of_length_le oM]at h9);(rw[←h9]);first|exact hc29'|(simpa using hc29')|omega));exact hsn y hy h
theorem i_StoreValid_c (w0:World)(G0:PH)(hG:PSub G0 w0)(vlist:Value)(list:List (BHeld))(hlist:RdH G0 vlist list) :
  Calls Tryz.prog 174 #[vlist] w0 (Rets w0 (.bool (Sp.StoreValid list))):=by
 obtain⟨alist,klist,rfl⟩:=hlist.shape
 have hlimlist:list.length≤1099511627776:=hlist.lim
 have H:=Hp.init hG
 refine calls_of_W (l:=[.slice alist list.length klist]) func174 Z ntmps174 Z (q2 (aG Z (q3 (W_seq (q2 (mV Z (lN Z (pe 1 Z (q3 ?_)))))))))
 refine W_cond Z ?_ ?_
 ·intro hc1
  try simp only[nrm]at hc1
  refine q2 (aG Z (q3 (W_ret (N_K_ret (rt1 results174 Z ?_)))))
  exact H.rets (congrArg Value.bool (by rw[Sp.sv_long oM]))
 intro hc1'
 try simp only[nrm]at hc1'
 refine W_skip (N_K (q2 (aG Z (q3 (W_seq (q2 (mV Z (lN Z (mV Z (q3 (W_block ?_)))))))))))
 refine W_lp (hf:=(Sub.cons (t:=0) Z (Sub.cons (t:=11) Z (Sub.cons (t:=12) Z Sub.nil)))) (J:=fun M w m=>∃(k:Nat) (la:Int) (G:PH),M=[(13,.int .i64 (k:Int)),(3,.int .i64 la)]∧PLe G0 G∧Hp w0 G0 [] w G []∧(k≤list.length∧la=Sp.lastId list k∧(∀j,j<k→Sp.okH list j=true)∧inI la)∧m=(list.length-k)) (h0:=⟨0,0,_,Z,PLe.refl _,H,?inv,Z⟩) (round:=?round)
 case inv=>exact⟨by omega,rfl,fun j hj=>by omega,by decide⟩
 case round =>
  rintro _ _ _ ⟨k,la,G2,rfl,hle2,H,hinv2,rfl⟩
  have hlist:=hlist.up hle2
  obtain⟨_,_,hall,_⟩:=hinv2
  refine q2 (pe 1 Z (q3 (W_seq ?_)))
  refine W_cond Z ?_ ?_
  ·intro hc3
   try simp only[nrm]at hc3
   refine W_skip (N_K (W_seq (W_block (q2 (mV Z (iP k hlist Z3 Z ?_))))));intro _ _ z4 _ hz4 hE4 hrow4
   obtain⟨_,_,_,rfl,hi4,hr4,_,_,_⟩:=ox hE4
   refine o_loadagg_P H isAgg107 sizeOf107 Z Z hrow4 Z (xal H Z ?_);intro b5 _ _ H
   refine aG Z (xst 0 H Z8 ?_);intro _ H
   refine q3 (W_seq (q2 (fA 0 Z (lB 0 H Z3 (pe 3 Z ?_)))))
   refine R_case (t:=22) Z ?_ ?_
   ·intro hc7
    try simp only[nrm]at hc7
    refine pe 20 Z (q3 (W_true Z (q2 (aG Z (q3 (W_ret (N_K_ret (N_B_ret (N_K_ret (N_LP_ret (N_B_ret (N_K_ret (rt1 results174 Z ?_)))))))))))))
    exact H.rets (congrArg Value.bool (by rw[Sp.sv_false (k:=k) oM (Sp.okH_last hz4 oM)]))
   intro hc7'
   try simp only[nrm]at hc7'
   refine gR Z (fA 0 Z (gR Z (lB 0 H Z3 (pe 3 Z ?_))))
   refine R_case (t:=27) Z ?_ ?_
   ·intro hc8
    try simp only[nrm]at hc8
    refine pe 15 Z (q3 (W_true Z (q2 (aG Z (q3 (W_ret (N_K_ret (N_B_ret (N_K_ret (N_LP_ret (N_B_ret (N_K_ret (rt1 results174 Z ?_)))))))))))))
    exact H.rets (congrArg Value.bool (by rw[Sp.sv_false (k:=k) oM (Sp.okH_id hz4 oM)]))
   intro hc8'
   try simp only[nrm]at hc8'
   refine gR Z (fA 2 Z (gR Z (lB 0 H Z3 (pe 3 Z ?_))))
   refine R_case (t:=32) Z ?_ ?_
   ·intro hc9
    try simp only[nrm]at hc9
    refine pe 10 Z (q3 (W_true Z (q2 (aG Z (q3 (W_ret (N_K_ret (N_B_ret (N_K_ret (N_LP_ret (N_B_ret (N_K_ret (rt1 results174 Z ?_)))))))))))))
    exact H.rets (congrArg Value.bool (by rw[Sp.sv_false (k:=k) oM (Sp.okH_id hz4 oM)]))
   intro hc9'
   try simp only[nrm]at hc9'
   refine gR Z (fA 2 Z (gR Z (lB 0 H Z3 (pe 3 Z ?_))))
   refine R_case (t:=37) Z ?_ ?_
   ·intro hc10
    try simp only[nrm]at hc10
    refine pe 5 Z (q3 (W_true Z (q2 (aG Z (q3 (W_ret (N_K_ret (N_B_ret (N_K_ret (N_LP_ret (N_B_ret (N_K_ret (rt1 results174 Z ?_)))))))))))))
    exact H.rets (congrArg Value.bool (by rw[Sp.sv_false (k:=k) oM (Sp.okH_id hz4 oM)]))
   intro hc10'
   try simp only[nrm]at hc10'
   refine gR Z (fA 1 Z (gR Z (lB 0 H Z3 (gR Z (xr H Z2 (i_BlockValid_c _ _ H.sub _ _ hr4) ?_)))));intro _ H
   refine pe 2 Z (q3 ?_)
   refine W_cond Z ?_ ?_
   ·intro hc12
    try simp only[nrm]at hc12
    refine q2 (aG Z (q3 (W_ret (N_K_ret (N_B_ret (N_K_ret (N_LP_ret (N_B_ret (N_K_ret (rt1 results174 Z ?_))))))))))
    exact H.rets (congrArg Value.bool (by rw[Sp.sv_false (k:=k) oM (Sp.okH_id hz4 (by exact .inr (.inr (.inr (by simpa using hc12)))))]))
   intro hc12'
   try simp only[nrm]at hc12'
   refine W_skip (N_K (W_seq (q2 (pe 2 Z ?_))))
   have hcap13:=hlist.cap;try simp only[List.length_set,List.length_append,List.length_take,List.length_drop,List.length_replicate]at hcap13
   refine o_slice_to (j:=k) underlying30 sizeOf107 Z Z Z oM oM ?_
   have hsl13:=hlist.take (j:=k) aN
   have hsn1:=hsl13.len
   refine lN Z (mV Z (q3 (W_block ?_)))
   obtain⟨ln14,hln14,H⟩:=H.name (k:=0) rfl
   refine W_lp (hf:=(Sub.cons (t:=0) Z (Sub.cons (t:=3) Z (Sub.cons (t:=5) Z (Sub.cons (t:=11) Z (Sub.cons (t:=12) Z (Sub.cons (t:=13) Z (Sub.cons (t:=45) Z (Sub.cons (t:=46) Z Sub.nil))))))))) (J:=fun M w m=>∃(j:Nat) (G:PH),M=[(47,.int .i64 (j:Int))]∧PLe G2 G∧Hp w0 G0 [] w G [blk b5 (cl ln14 107)]∧(j≤k∧(list.take j).all (fun g=> !Sp.l2Same g.bytes z4.bytes)=true)∧m=(k-j)) (h0:=⟨0,_,Z,PLe.refl _,H,?inv,Z⟩) (round:=?round)
   case inv=>exact⟨by omega,by simp⟩
   case round =>
    rintro _ _ _ ⟨j,_,rfl,hle15,H,hinv15,rfl⟩
    subst hln14
    have hr4:=hr4.up hle15
    have hsl13:=hsl13.up hle15
    have hle2:=hle2.trans hle15
    obtain⟨hj,hall2⟩:=hinv15
    refine q2 (pe 1 Z (q3 (W_seq ?_)))
    refine W_cond Z ?_ ?_
    ·intro hc16
     try simp only[nrm]at hc16
     refine W_skip (N_K (W_seq (W_block (q2 (iP j hsl13 Z3 Z ?_)))));intro _ _ _ _ hz17 hE17 hrow17
     obtain⟨_,_,_,rfl,_,hr17,_,_,_⟩:=ox hE17
     rw[List.getElem?_take,if_pos oM]at hz17
     refine o_loadagg_P H isAgg107 sizeOf107 Z Z hrow17 Z (xal H Z ?_);intro _ _ _ H
     refine xst 0 H Z8 ?_;intro _ H
     refine q1 (fA 1 Z (lB 0 H Z3 (fA 1 Z (lB 1 H Z3 (xr H Z2 (l_Equal_c _ _ H.sub _ _ hr17 _ _ hr4) ?_)))));intro _ H
     refine q3 ?_
     refine W_cond Z ?_ ?_
     ·intro hc21
      try simp only[nrm]at hc21
      refine q2 (aG Z (q3 (W_ret (N_B_ret (N_K_ret (N_LP_ret (N_B_ret (N_K_ret (N_B_ret (N_K_ret (N_LP_ret (N_B_ret (N_K_ret (rt1 results174 Z ?_))))))))))))))
      exact H.rets (congrArg Value.bool (by rw[Sp.sv_false (k:=k) oM (Sp.okH_dup hz4 oM hz17 hc21)]))
     intro hc21'
     try simp only[nrm]at hc21'
     refine W_skip (N_B (N_K (W_region (aD Z2 (mV Z (R_nil ?_))))))
     have H:=H.dl 0
     refine N_lp (hJ:=⟨j+1,_,Z,hle15,H,?inv,Z⟩) (hm:=?hm)
     case hm=>omega
     case inv=>exact⟨by omega,Sp.all_take hall2 hz17 (by simp[hc21'])⟩
    intro hc16'
    try simp only[nrm]at hc16'
    refine W_exit (N_K_exit (N_LP_exit (N_B_same (N_K (W_region (fA 0 Z (lB 0 H Z3 (aG Z (R_nil (N_B (N_K (W_region (aD Z2 (mV Z (R_nil ?_)))))))))))))))
    have H:=H.dl 0
    refine N_lp (hJ:=⟨k+1,z4.id,_,Z,hle2,H,?inv,Z⟩) (hm:=?hm)
    case hm=>omega
    case inv=>(obtain rfl:j=k:=by omega);exact⟨by omega,(Sp.lastId_succ hz4).symm,Sp.upto_succ hall (Sp.okH_mk hz4 hall oM oM (by simpa using hc12') oM hall2),hi4⟩
  intro hc3'
  try simp only[nrm]at hc3'
  refine W_exit (N_K_exit (N_LP_exit (N_B_same (N_K (q2 (aG Z (q3 (W_ret (rt1 results174 Z ?_)))))))))
  exact H.rets (congrArg Value.bool (by rw[Sp.sv_true (fun j hj=>hall j oM) oM]))
theorem i_openStore_c (w0:World)(G0:PH)(hG:PSub G0 w0)(vlist:Value)(list:List (BHeld))(hlist:RdH G0 vlist list)(hLent:Lent w0 G0 []) :
  Calls Tryz.prog 144 #[vlist] w0 (RetM w0 G0 [] (fun G' v Bs=>(Sp.StoreValid list=false∧v= .tuple #[.map none,.bool false]∧Bs=[])∨(Sp.VH list∧∃(mb:Nat) (es':Array MapEntry) (ck':Nat) (xs':List (Int×Value)),v= .tuple #[.map (some mb),.bool true]∧Bs=[blk mb (.map es' ck')]∧MapIs (Value.int .i64) es' ck' xs'∧StR G' xs' list))):=by
 obtain⟨alist,klist,rfl⟩:=hlist.shape
 have hlimlist:list.length≤1099511627776:=hlist.lim
 have H:Hp w0 G0 [] w0 G0 []:=hLent.hp
 refine calls_of_W (l:=[.slice alist list.length klist]) func144 Z ntmps144 Z (q2 (pe 2 Z (q3 (W_seq (q2 (mV Z (xr H Z2 (i_StoreValid_c _ _ H.sub _ _ hlist) ?_)))))));intro _ H
 refine pe 1 Z (q3 ?_)
 refine W_cond Z ?_ ?_
 ·intro hc2
  try simp only[nrm]at hc2
  refine q2 (pe 2 Z (q3 (W_ret (N_K_ret (rt2 results144 Z Z ?_)))))
  exact H.retM (.inl ⟨by simpa using hc2,rfl,rfl⟩)
 intro hc2'
 try simp only[nrm]at hc2'
 have hVl:=Sp.valid_iff.1 (by simpa using hc2':Sp.StoreValid list=true)
 refine W_skip (N_K (q2 (o_makeMap H Z ?_)));intro b3 _ _ H
 have hm3:=MapIs.empty (key:=Value.int .i64) 0
 have hS3:=StR.nil G0
 refine aG Z (q3 (W_seq (q2 (mV Z (lN Z (mV Z (q3 (W_block ?_))))))))
 refine W_lp (hf:=(Sub.cons (t:=2) Z (Sub.cons (t:=3) Z (Sub.cons (t:=4) Z (Sub.cons (t:=11) Z (Sub.cons (t:=12) Z Sub.nil)))))) (J:=fun M w m=>∃(esm0:Array MapEntry) (ckm0:Nat) (xsm0:List (Int×Value)) (Lm0:List BHeld) (k:Nat) (G:PH),M=[(13,.int .i64 (k:Int))]∧PLe G0 G∧Hp w0 G0 [] w G [blk b3 (.map esm0 ckm0)]∧(MapIs (Value.int .i64) esm0 ckm0 xsm0∧StR G xsm0 Lm0∧Sp.VH Lm0∧k≤list.length∧Lm0=list.take k)∧m=(list.length-k)) (h0:=⟨_,_,[],[],0,_,Z,PLe.refl _,H,?inv,Z⟩) (round:=?round)
 case inv=>exact⟨hm3,hS3,Sp.VH_nil,(by simp)⟩
 case round =>
  rintro _ _ _ ⟨esm0,ckm0,xsm0,Lm0,k,G4,rfl,hle4,H,hinv4,rfl⟩
  have hlist:=hlist.up hle4
  obtain⟨hm4_m0,hS4_m0,_,hinv4⟩:=hinv4
  obtain⟨_,rfl⟩:=hinv4
  refine q2 (pe 1 Z (q3 (W_seq ?_)))
  refine W_cond Z ?_ ?_
  ·intro hc5
   try simp only[nrm]at hc5
   refine W_skip (N_K (W_seq (W_block (q2 (iP k hlist Z3 Z ?_)))));intro _ _ z6 _ hz6 hE6 hrow6
   obtain⟨_,_,_,rfl,_,hr6,_,_,_⟩:=ox hE6
   refine o_loadagg_P H isAgg107 sizeOf107 Z Z hrow6 Z (xal H Z ?_);intro _ _ _ H
   refine xst 0 H Z8 ?_;intro _ H
   refine q3 (W_drawK [0] 12 H kR Z ?_);intro _ H;have hd9:=PLe.refl G4
   refine dE 0 Z2 (dF 1 0 Z2 (dB 2 0 Z4 (dF 3 0 Z2 (dB 4 0 Z4 (dF 5 1 Z2 (dB 6 0 Z4 (dF 8 2 Z2 (dB 9 0 Z4 (r1 7 Z (xc Z2 (l_Clone_c _ _ H.sub _ _ hr6) ?_))))))))))
   rintro _ _ ⟨_,_,_,g10,rfl,⟨_,rfl,hchk10⟩,hp10,hq10,hs10⟩
   have H:=H.growO g10 hp10 hq10 hs10;obtain⟨_,_,rfl⟩:=H.accShape (k:=0) rfl
   have hS4_m0:=hS4_m0.up g10.le
   have hle4:=hle4.trans g10.le
   have hd9:=hd9.trans g10.le
   refine⟨_,Z,?_⟩
   refine q4 H hd9 (RD_t 10 Z kR Z (fun _ hK=>v_build bf107 Z Z) (r1 11 Z ?_))
   obtain⟨G12,H,hsg12,hsr12⟩:=H.shutL (k:=0) rfl (H.apart (k:=0) (ks:=[]) rfl rfl (by intro _ hb;simpa [fpsAt,nth,blk] using hb)) hchk10 aN aN
   have hS4_m0:=hS4_m0.up hsg12
   have hle4:=hle4.trans hsg12
   refine o_updS 1 H z6 Z hm4_m0 hS4_m0 underlying135 underlying3 Z Z Z (show heldE G12 z6 _ from⟨_,_,_,Z,⟨by first|omega|(dsimp only;omega),by first|omega|(dsimp only;omega)⟩,hsr12,⟨by first|omega|(dsimp only;omega),by first|omega|(dsimp only;omega)⟩⟩) rfl ?_;intro _ _ xs11 _ H hm11 hS11
   refine R_nil (N_DKlast kR kR (N_B (N_K (W_region ?_))))
   rw[Sp.upd_take hVl hz6]at hS11
   refine aD Z2 (mV Z (R_nil ?_))
   have H:=H.dl 0
   refine N_lp (hJ:=⟨_,_,xs11,(list.take (k+1)),k+1,_,Z,hle4,H,?inv,Z⟩) (hm:=?hm)
   case hm=>omega
   case inv=>exact⟨hm11,hS11,(hVl.take (k+1)),(by exact⟨by omega,rfl⟩)⟩
  intro hc5'
  try simp only[nrm]at hc5'
  refine W_exit (N_K_exit (N_LP_exit (N_B_same (N_K (q2 (pe 3 Z (q3 (W_ret (rt2 results144 Z Z ?_)))))))))
  rw[List.take_of_length_le oM]at hS4_m0
  exact H.retM (.inr ⟨hVl,_,_,_,_,Z,Z,hm4_m0,hS4_m0⟩)
theorem i_slist_c (w0:World)(G0:PH)(hG:PSub G0 w0)(mbs:Nat)(ess:Array MapEntry)(cks:Nat)(xss:List (Int×Value))(Ls:List BHeld)(hbs:MapAt G0 mbs ess cks)(hms:MapIs (Value.int .i64) ess cks xss)(hSs:StR G0 xss Ls)(hVs:Sp.VH Ls) :
  Calls Tryz.prog 119 #[.map (some mbs)] w0 (RetN w0 G0 (fun v Bs=>∃(F:Fr),Bs=[frag F]∧OHs F v Ls)):=by
 have hl16:=hVs.len
 have H:=Hp.init hG
 refine calls_of_W (l:=[.map (some mbs)]) func119 Z ntmps119 Z (q2 (aG Z (q1 (mV Z ?_))))
 have hml1:=hSs.len
 refine o_lenM (hbs.at H.sub) hms underlying135 Z Z (o_make0 (c:=Ls.length) (sz:=3) (bytes:=40) H underlying30 typeInfo107 ⟨_,Z,Z⟩ Z Z Z Z Z Z oM oM Z ?_);intro _ _ H
 refine aG Z (q3 (W_seq (q2 (mV Z (o_call call149 Z Z (keys_c _ _ H.sub _) ?_)))));rintro _ w3 ⟨kb3,rfl,hkb3,ek3,hkc3⟩;have H:=H.step ek3;refine⟨_,rfl,?_⟩
 refine o_call call148 Z Z (sorted_c _ _ _ hkc3 (hbs.at H.sub) hms hSs hVs) ?_;rintro _ w4 ⟨v4,rfl,ek4,hp4,hf4⟩;have H:=H.add ek4 _ hp4 hf4 (acc_nd _ _ _ _ _)
 have hchk4:=chkIds G0 hVs;obtain⟨_,_,rfl⟩:=H.accShape (k:=0) rfl;refine⟨_,rfl,?_⟩
 refine lN Z (mV Z (q3 (W_block ?_)))
 obtain⟨G5,H,hsg5,hsr5⟩:=H.shut' (k:=0) rfl hchk4 aN aN
 have hSs:=hSs.up hsg5
 have hbs:=hbs.up hsg5
 have H:=H.addF
 refine W_lp (hf:=(Sub.cons (t:=0) Z (Sub.cons (t:=2) Z (Sub.cons (t:=12) Z (Sub.cons (t:=13) Z Sub.nil))))) (J:=fun M w m=>∃(v:Value) (n:Nat) (cs:List Value) (xs:List (BHeld)) (F:Fr) (k:Nat) (G:PH),M=[(14,.int .i64 (k:Int)),(3,v)]∧PLe G5 G∧Hp w0 G0 [] w G [frag F,acc 107 3 v n cs]∧(ChkF heldO 3 cs xs F∧n=xs.length∧k≤Ls.length∧xs=Ls.take k)∧m=(Ls.length-k)) (h0:=⟨_,_,_,[],[],0,_,Z,PLe.refl _,H,?inv,Z⟩) (round:=?round)
 case inv=>exact⟨ChkF.nil,by first|rfl|simp|(simp;omega)|omega,(by simp)⟩
 case round =>
  rintro _ _ _ ⟨v,n,cs,xs,F,k,G6,rfl,hle6,H,hinv6,rfl⟩
  have hSs:=hSs.up hle6
  have hbs:=hbs.up hle6
  have hsr5:=hsr5.up hle6
  obtain⟨hchk6_0,_,hinv6⟩:=hinv6
  obtain⟨_,_,rfl⟩:=H.accShape (k:=1) rfl
  obtain⟨_,hxs⟩:=hinv6;have hxl:xs.length≤16:=by rw[hxs];simp;omega
  refine q2 (pe 1 Z (q3 (W_seq ?_)))
  refine W_cond Z ?_ ?_
  ·intro hc7
   try simp only[nrm]at hc7
   refine W_skip (N_K (W_seq (W_block (q2 (iP k hsr5 Z3 Z ?_)))));intro _ _ z8 _ hz8 hE8 hrow8
   obtain⟨rfl,_⟩:=hE8
   refine lP H hrow8 0 Z2 (aG Z (q1 (pe 2 Z (o_lookS (hbs.at H.sub) hms hSs underlying135 underlying3 zeroValue107 Z Z Z ?_))));intro _ hE9
   obtain⟨_,_,_,rfl,_,hr9,_,_,_⟩:=ox hE9
   have hgb:=Sp.get_len hVs z8
   have hat:=Sp.get_at hVs hz8
   refine xal H Z ?_;intro _ _ _ H
   refine xst 0 H Z8 ?_;intro _ H
   refine q3 (W_drawK [0] 11 H kR Z ?_);intro _ H;have hd12:=PLe.refl G6
   refine dE 0 Z2 (dE 1 Z2 (dF 2 1 Z2 (dB 3 0 Z4 (dF 5 2 Z2 (dB 6 0 Z4 (r1 4 Z (xc Z2 (l_Clone_c _ _ H.sub _ _ hr9) ?_)))))))
   rintro _ _ ⟨_,_,_,g13,rfl,⟨_,rfl,hchk13⟩,hp13,hq13,hs13⟩
   have H:=H.growO g13 hp13 hq13 hs13;obtain⟨_,_,rfl⟩:=H.accShape (k:=0) rfl
   have hle6:=hle6.trans g13.le
   have hd12:=hd12.trans g13.le
   refine⟨_,Z,?_⟩
   refine q4 H hd12 (RD_t 7 Z kR Z (fun _ hK=>v_build bf107 Z Z) (r1 8 Z (xbs H Z7 ?_)));intro _ _ _ H
   refine q4 H hd12 (r1 9 Z (o_append1 3 H (sz:=3) (bytes:=40) underlying30 typeInfo107 ⟨_,Z,Z⟩ Z Z Z Z Z Z Z Z Z Z oM Z ?_));intro _ _ H
   obtain⟨Fi2,H,hOI2⟩:=H.ownI (k:=0) rfl hchk13 aN aN
   have hchk15:=hchk6_0.snoc (show heldO Fi2 ⟨z8,(getH Ls z8).bytes,(getH Ls z8).uses⟩ _ from⟨_,_,_,rfl,⟨by first|omega|(dsimp only;omega),by first|omega|(dsimp only;omega)⟩,hOI2,⟨by first|omega|(dsimp only;omega),by first|omega|(dsimp only;omega)⟩⟩) rfl
   have H:=H.tF 2
   have H:=H.mergeF
   obtain⟨_,_,rfl⟩:=H.accShape (k:=2) rfl
   refine q4 H hd12 (dE 10 Z2 (rz (N_B (N_K (W_region (aD Z2 (mV Z (R_nil ?_))))))))
   have H:=H.dl 1
   refine N_lp (hJ:=⟨_,_,_,(xs++[⟨z8,(getH Ls z8).bytes,(getH Ls z8).uses⟩]),(F++Fi2),k+1,_,Z,hle6,H,?inv,Z⟩) (hm:=?hm)
   case hm=>omega
   case inv=>exact⟨hchk15,aN,(by exact⟨by omega,by rw[Sp.take_succ' hat,hxs]⟩)⟩
  intro hc7'
  try simp only[nrm]at hc7'
  refine W_exit (N_K_exit (N_LP_exit (N_B_same (N_K (q2 (pe 2 Z (q3 (W_ret (rt1 results119 Z ?_)))))))))
  have H:=H.tF 1
  obtain⟨_,H,hOw3⟩:=H.ownF hchk6_0 aN aN
  have hX:xs=Ls:=by rw[hxs,List.take_of_length_le oM]
  have H:=H.forget hG (by simp)
  exact⟨_,_,Z,H,_,Z,hX▸⟨_,hOw3⟩⟩
theorem i_newVolume_c (w0:World)(G0:PH)(hG:PSub G0 w0)(vstore:Value)(store:List (BHeld))(hstore:RdH G0 vstore store)(vtree:Value)(tree:List (BItem))(htree:RdItems G0 vtree tree)(hLent:Lent w0 G0 []) :
  Calls Tryz.prog 116 #[vstore,vtree] w0 (RetM w0 G0 [] (fun G' v Bs=>(v= .tuple #[.agg #[.map none,.pointer none],.bool false]∧Bs=[]∧(Sp.StoreValid store&&Sp.TreeValid tree)=false)∨(∃(mb:Nat) (es:Array MapEntry) (ck:Nat) (xs:List (Int×Value)) (T:Nd) (F:Fr),v= .tuple #[.agg #[.map (some mb),.pointer (some ⟨T.b,0,none⟩)],.bool true]∧Bs=[blk mb (.map es ck),frag F]∧MapIs (Value.int .i64) es ck xs∧StR G' xs store∧Sp.VH store∧NdO 192 136 G' T F∧Nd.TOK T tree∧Sp.TreeValid tree=true))):=by
 obtain⟨astore,kstore,rfl⟩:=hstore.shape
 have hlimstore:store.length≤1099511627776:=hstore.lim
 obtain⟨atree,ktree,rfl⟩:=htree.shape
 have hlimtree:tree.length≤1099511627776:=htree.lim
 have H:Hp w0 G0 [] w0 G0 []:=hLent.hp
 refine calls_of_W (l:=[.slice astore store.length kstore,.slice atree tree.length ktree]) func116 Z ntmps116 Z (q2 (xal H Z ?_));intro _ _ _ H
 refine aG Z (q1 (mV Z (xc Z2 (i_openStore_c _ _ H.sub _ _ hstore H.lent0) ?_)))
 rintro _ _ ⟨_,_,_,rfl,H2',⟨_,rfl,rfl⟩|⟨hV2,_,_,_,_,rfl,rfl,hm2,hS2⟩⟩
 ·skip
  have H:=H.borrow0 H2'
  refine⟨_,Z,?_⟩
  refine pe 5 Z (q3 (W_seq (q2 (pe 2 Z (q3 (W_true Z (q2 (o_build bf138 Z Z Z (xst 0 H Z8 ?_)))))))));intro _ H
  refine aG Z (q3 (W_ret (N_K_ret (ret_gen (rs:=[.cell 4 138,.tmp 5]) (vs:=[_,_]) results116 ⟨⟨_,Z,load_blk 0 H isAgg138 sizeOf138 Z Z Z⟩,Z,trivial⟩ ?_))))
  have H:=H.dl 0
  exact H.retM (.inl ⟨rfl,rfl,by simp_all⟩)
 skip
 have htree:=htree.up H2'.le
 have H:=H.borrow0 H2'
 refine⟨_,Z,?_⟩
 refine pe 5 Z (q3 (W_seq (q2 (pe 2 Z (q3 (W_false Z (W_skip (N_K (q2 (mV Z (xc Z2 (i_openTree_c _ _ H.sub _ _ htree H.lent0) ?_)))))))))))
 rintro _ _ ⟨_,_,_,rfl,H4',⟨rfl,rfl,hv4⟩|⟨_,_,rfl,rfl,hN4,hT4,hv4⟩⟩
 ·skip
  have H:=H.borrow0 H4'
  refine⟨_,Z,?_⟩
  refine pe 5 Z (q3 (W_seq (q2 (pe 2 Z (q3 (W_true Z (q2 (o_build bf138 Z Z Z (xst 1 H Z8 ?_)))))))));intro _ H
  refine aG Z (q3 (W_ret (N_K_ret (ret_gen (rs:=[.cell 4 138,.tmp 5]) (vs:=[_,_]) results116 ⟨⟨_,Z,load_blk 1 H isAgg138 sizeOf138 Z Z Z⟩,Z,trivial⟩ ?_))))
  have H:=H.dl 0
  have H:=H.dl 0
  exact H.retM (.inl ⟨rfl,rfl,by simp_all⟩)
 skip
 have hS2:=hS2.up H4'.le
 have H:=H.borrow0 H4'
 refine⟨_,Z,?_⟩
 refine pe 5 Z (q3 (W_seq (q2 (pe 2 Z (q3 (W_false Z (W_skip (N_K (q2 (pe 2 Z (o_build bf138 Z Z Z (xst 2 H Z8 ?_))))))))))));intro _ H
 refine aG Z (q3 (W_ret (ret_gen (rs:=[.cell 4 138,.tmp 5]) (vs:=[_,_]) results116 ⟨⟨_,Z,load_blk 2 H isAgg138 sizeOf138 Z Z Z⟩,Z,trivial⟩ ?_)))
 have H:=H.dl 2
 have H:=H.tF 1
 exact H.retM (.inr ⟨_,_,_,_,_,_,Z,Z,hm2,hS2,hV2,hN4,hT4,hv4⟩)
theorem i_snapAt_c (w0:World)(G0:PH)(hG:PSub G0 w0)(db:Nat)(m1 m2 v1 v2 vs:Value)(sn:List (Bs×Nd))(hdk:PRow G0 db 0 [m1,m2,v1,v2,vs])(hsn:RdS LIM osE 2 G0 vs sn)(nm:Bs)(hnm:nm.length≤16777216) :
  Calls Tryz.prog 89 #[.pointer (some ⟨db,0,none⟩),str nm] w0 (Rets w0 (.int .i64 (Sp.optI (sn.findIdx? (fun x=>decide (x.1=nm)))))):=by
 obtain⟨_,_,rfl⟩:=hsn.shape;have hlimsn:sn.length≤1099511627776:=hsn.lim
 have H:=Hp.init hG
 refine calls_of_W (l:=[.pointer (some ⟨db,0,none⟩),str nm]) func89 Z ntmps89 Z (q2 (aG Z (q3 (W_seq (q2 (pe 2 Z (fA 4 Z (lP H hdk 4 Z2 (lN Z (mV Z (q3 (W_block ?_))))))))))))
 refine W_lp (hf:=(Sub.cons (t:=1) Z (Sub.cons (t:=10) Z (Sub.cons (t:=11) Z Sub.nil)))) (J:=fun M w m=>∃(k:Nat) (G:PH),M=[(12,.int .i64 (k:Int))]∧PLe G0 G∧Hp w0 G0 [] w G []∧(k≤sn.length∧∀(j:Nat) (x:Bs×Nd),j<k→sn[j]? = some x→decide (x.1=nm)=false)∧m=(sn.length-k)) (h0:=⟨0,_,Z,PLe.refl _,H,?inv,Z⟩) (round:=?round)
 case inv=>exact⟨by omega,fun j x hj=>by omega⟩
 case round =>
  rintro _ _ _ ⟨k,_,rfl,hle1,H,hinv1,rfl⟩
  have hsn:=hsn.up hle1
  obtain⟨_,hno⟩:=hinv1
  refine q2 (pe 1 Z (q3 (W_seq ?_)))
  refine W_cond Z ?_ ?_
  ·intro hc2
   try simp only[nrm]at hc2
   refine W_skip (N_K (W_seq (W_block (q2 (mV Z (iP k hsn Z3 Z ?_))))));intro _ _ _ _ hz3 hE3 hrow3
   obtain⟨rfl,hi3⟩:=hE3;have hy_hi3:_≤16777216:=hi3
   refine o_loadagg_P H isAgg145 sizeOf145 Z Z hrow3 Z (xal H Z ?_);intro _ _ _ H
   refine aG Z (xst 0 H Z8 ?_);intro _ H
   refine q1 (fA 0 Z (lB 0 H Z3 (mV Z (o_seql Z Z Z (q3 ?_)))))
   refine W_cond Z ?_ ?_
   ·intro hc6
    try simp only[nrm]at hc6
    refine q2 (pe 2 Z (q3 (W_ret (N_B_ret (N_K_ret (N_LP_ret (N_B_ret (N_K_ret (rt1 results89 Z ?_)))))))))
    exact H.rets (congrArg (Value.int .i64) (by rw[Sp.fidx_some (p:=fun x:Bs×Nd=>decide (x.1=nm)) hno hz3 (by simpa using hc6)];rfl))
   intro hc6'
   try simp only[nrm]at hc6'
   refine W_skip (N_B (N_K (W_region (aD Z2 (mV Z (R_nil ?_))))))
   have H:=H.dl 0
   refine N_lp (hJ:=⟨k+1,_,Z,hle1,H,?inv,Z⟩) (hm:=?hm)
   case hm=>omega
   case inv=>exact⟨by omega,Sp.fidx_step hno hz3 (by simpa using hc6')⟩
  intro hc2'
  try simp only[nrm]at hc2'
  refine W_exit (N_K_exit (N_LP_exit (N_B_same (N_K (q2 (aG Z (q3 (W_ret (rt1 results89 Z ?_)))))))))
  exact H.rets (congrArg (Value.int .i64) (by rw[Sp.fidx_none (p:=fun x:Bs×Nd=>decide (x.1=nm)) (fun j x hj=>hno j x oM)];rfl))
theorem i_newDisk_c (w0:World)(G0:PH)(hG:PSub G0 w0)(cd:List Value)(d:BDisk)(hd:diskE G0 d cd)(hLent:Lent w0 G0 []) :
  Calls Tryz.prog 85 #[.agg cd.toArray] w0 (RetM w0 G0 [] (fun G' v Bs=>(v= .tuple #[.pointer none,.bool false]∧Bs=[]∧Sp.DiskValid d=false)∨(∃(db mb:Nat) (es:Array MapEntry) (ck:Nat) (xs:List (Int×Value)) (T:Nd) (F:Fr) (sv:Value) (sn:List (Fw.Bs×Nd)) (c:List Value) (FSq:Fr),v= .tuple #[.pointer (some ⟨db,0,none⟩),.bool true]∧Bs=[blk db (cl [.int .i32 0,.int .u32 0,.map (some mb),.pointer (some ⟨T.b,0,none⟩),sv] 141),blk mb (.map es ck),frag F,acc 145 2 sv sn.length c,frag FSq]∧MapIs (Value.int .i64) es ck xs∧StR G' xs d.store∧NdO 192 136 G' T F∧Nd.TOK T d.tree∧Chk osE 2 G' c sn∧NdsO 192 136 G' (sn.map (·.2)) FSq∧SnOK sn d.snaps∧Sp.DiskValid d=true))):=by
 obtain⟨_,_,_,_,_,_,_,_,_,rfl,hr1,hr1',hr1'',⟨_,_⟩,⟨_,_⟩,_,_⟩:=ox hd
 have H:Hp w0 G0 [] w0 G0 []:=hLent.hp
 refine calls_of_W (l:=[_]) func85 Z ntmps85 Z (q2 (o_box H Z Z Z ?_));intro b2 _ _ H
 refine pe 2 Z (q1 (fA 0 Z (lB 0 H Z3 (fA 1 Z (lB 0 H Z3 (xc Z2 (i_newVolume_c _ _ H.sub _ _ hr1 _ _ hr1' H.lent0) ?_))))))
 rintro _ _ ⟨G3,_,_,rfl,H3',⟨rfl,rfl,hnv3⟩|⟨mb3,es3,ck3,_,T3,F3,rfl,rfl,hm3,hS3,hV3,hN3,hT3,hv3⟩⟩
 ·skip
  have H:=H.borrow0 H3'
  refine⟨_,Z,?_⟩
  refine pe 3 Z (xal H Z ?_);intro _ _ _ H
  refine xst 0 H Z8 ?_;intro _ H
  refine aG Z (q3 (W_seq (q2 (pe 8 Z (q3 (W_true Z (q2 (pe 2 Z (q3 (W_ret (N_K_ret (rt2 results85 Z Z ?_))))))))))))
  have H:=H.dl 0
  have H:=H.dl 0
  exact H.retM (.inl ⟨rfl,rfl,Sp.dv_no (fun hh=>by simp[hh.1,hh.2.1]at hnv3)⟩)
 skip
 have hr1'':=hr1''.up H3'.le
 have H:=H.borrow0 H3'
 refine⟨_,Z,?_⟩
 refine pe 3 Z (xal H Z ?_);intro b6 _ _ H
 refine xst 0 H Z8 ?_;intro _ H
 refine aG Z (q3 (W_seq (q2 (pe 3 Z (gR Z (fA 2 Z (gR Z (lB 3 H Z3 (gR Z (lN Z (pe 2 Z (q3 ?_))))))))))))
 refine W_cond Z ?_ ?_
 ·intro hc8
  try simp only[nrm]at hc8
  refine q2 (pe 2 Z (q3 (W_ret (N_K_ret (rt2 results85 Z Z ?_)))))
  have H:=H.sel [] rfl
  exact H.retM (.inl ⟨rfl,rfl,Sp.dv_no (fun hh=>by have:=hh.2.2.1;omega)⟩)
 intro hc8'
 try simp only[nrm]at hc8'
 refine W_skip (N_K (q2 (lA 0 2 H Z4 (o_build bf141 Z Z Z (o_box H Z Z Z ?_)))));intro b9 _ _ H
 refine aG Z (q1 (fA 1 Z (lB 1 H Z3 (xbs H Z7 ?_))));intro _ _ _ H
 refine aG Z (q3 (W_seq (q2 (fA 2 Z (lB 5 H Z3 (lN Z (mV Z (q3 (W_block ?_)))))))))
 have H:=H.blkAcc 1 (k:=0) (n:=1) rfl rfl (by decide)
 have H:=H.addF
 have H:=H.addNil 145 2
 obtain⟨ln12,hln12,H⟩:=H.nameAt (k:=3) (off:=4) rfl rfl
 obtain⟨ln13,hln13,H⟩:=H.name (k:=4) rfl
 obtain⟨ln14,hln14,H⟩:=H.name (k:=7) rfl
 refine W_lp (hf:=(Sub.cons (t:=4) Z (Sub.cons (t:=6) Z (Sub.cons (t:=35) Z (Sub.cons (t:=36) Z Sub.nil))))) (J:=fun M w m=>∃(v:Value) (n:Nat) (cs:List Value) (xs:List (Bs×Nd)) (v1:Value) (n1:Nat) (cs1:List Value) (xs1:List (Nd)) (k:Nat) (FSq:Fr) (G:PH),M=[(37,.int .i64 (k:Int)),(7,v1)]∧PLe G3 G∧Hp w0 G0 [] w G [acc 145 2 v n cs,frag FSq,acc 136 1 v1 n1 cs1,blk b9 (cl (setN ln12 4 v) 141),blk b6 (cl ln13 138),blk mb3 (.map es3 ck3),frag F3,blk b2 (cl ln14 34)]∧(Chk osE 2 G cs xs∧n=xs.length∧Chk kdE 1 G cs1 xs1∧n1=xs1.length∧k≤d.snaps.length∧xs1=T3::xs.map (·.2)∧NdsO 192 136 G (xs.map (·.2)) FSq∧SnOK xs (d.snaps.take k)∧∀(j:Nat) (s:BSnap),j<k→d.snaps[j]? = some s→Sp.l1Word s.name=true∧(j:Int)≤Sp.l12At d.snaps s.name)∧m=(d.snaps.length-k)) (h0:=⟨_,_,_,[],_,_,_,[T3],0,[],_,Z,PLe.refl _,H,?inv,Z⟩) (round:=?round)
 case inv=>exact⟨(Chk.nil (E:=osE) (sz:=2) (G:=G3)),(by first|rfl|simp|(simp;omega)|omega),(chkK [T3]),by first|rfl|simp|(simp;omega)|omega,(by exact⟨by omega,rfl,by simp[NdsO],.nil,fun j s hj=>by omega⟩)⟩
 case round =>
  rintro _ _ _ ⟨v,n,cs,xs,v1,n1,cs1,xs1,k,FSq,_,rfl,hle15,H,hinv15,rfl⟩
  subst hln12
  subst hln13
  subst hln14
  have hr1'':=hr1''.up hle15
  have hS3:=hS3.up hle15
  have hN3:=hN3.up hle15
  obtain⟨hchk15_0,_,hinv15⟩:=hinv15
  obtain⟨_,_,rfl⟩:=H.accShape (k:=0) rfl
  obtain⟨hchk15_1,_,hinv15⟩:=hinv15
  obtain⟨_,_,rfl⟩:=H.accShape (k:=2) rfl
  obtain⟨_,hx1,hNs,hSn,hw⟩:=hinv15;have hsl:=hSn.len;have hxl6:xs.length≤6:=(by simp at hsl;omega);have hx1l:xs1.length=xs.length+1:=by simp[hx1]
  refine q2 (pe 1 Z (q3 (W_seq ?_)))
  refine W_cond Z ?_ ?_
  ·intro hc16
   try simp only[nrm]at hc16
   refine W_skip (N_K (W_seq (W_block (q2 (iP k hr1'' Z3 Z ?_)))));intro _ _ z17 _ hz17 hE17 hrow17
   obtain⟨_,_,_,rfl,hi17,hr17,_,_⟩:=ox hE17
   refine o_loadagg_P H isAgg106 sizeOf106 Z Z hrow17 Z (xal H Z ?_);intro _ _ _ H
   refine xst 0 H Z8 ?_;intro _ H
   refine q1 (fA 1 Z (lB 0 H Z3 (xc Z2 (i_openTree_c _ _ H.sub _ _ hr17 H.lent0) ?_)))
   rintro _ _ ⟨G20,_,_,rfl,H20',⟨rfl,rfl,hv20⟩|⟨T20,F20,rfl,rfl,hN20,hT20,hv20⟩⟩
   ·skip
    have H:=H.borrow0 H20'
    refine⟨_,Z,?_⟩
    refine pe 5 Z (q3 (W_seq (q2 (pe 15 Z (q3 (W_true Z (q2 (pe 2 Z (q3 (W_ret (N_K_ret (N_B_ret (N_K_ret (N_LP_ret (N_B_ret ?_)))))))))))))))
    refine N_K_ret (rt2 results85 Z Z ?_)
    have H:=H.sel [] rfl
    exact H.retM (.inl ⟨rfl,rfl,Sp.dv_no (fun hh=>by (rw[(hh.2.2.2 k _ hz17).2.2]at hv20);cases hv20)⟩)
   skip
   have hchk15_0:=hchk15_0.up H20'.le
   have hchk15_1:=hchk15_1.up H20'.le
   have hNs:=hNs.up H20'.le
   have hle15:=hle15.trans H20'.le
   have H:=H.borrow0 H20'
   refine⟨_,Z,?_⟩
   refine pe 5 Z (q3 (W_seq (q2 (pe 3 Z (gR Z (fA 0 Z (gR Z (lB 1 H Z3 (gR Z (xr H Z2 (i_partValid_c _ _ hi17) ?_))))))))));intro _ H
   refine pe 3 Z ?_
   refine R_case (t:=55) Z ?_ ?_
   ·intro hc22
    try simp only[nrm]at hc22
    refine pe 6 Z (q3 (W_true Z (q2 (pe 2 Z (q3 (W_ret (N_K_ret (N_B_ret (N_K_ret (N_LP_ret (N_B_ret (N_K_ret (rt2 results85 Z Z ?_)))))))))))))
    have H:=H.sel [] rfl
    exact H.retM (.inl ⟨rfl,rfl,Sp.dv_no (fun hh=>by have h9:=(hh.2.2.2 k _ hz17).1;simp_all)⟩)
   intro hc22'
   try simp only[nrm]at hc22'
   refine pe 1 Z (gR Z (fA 0 Z (gR Z (lB 1 H Z3 (gR Z (xr H Z2 (i_snapAt_c _ _ (H.lendSubL [2,5]) _ _ _ _ _ _ _ (prow_blk (H.lendPredL (k:=5) (ks:=[2,5]) Z Z)) (H.lendRdL (k:=2) (ks:=[2,5]) Z Z hchk15_0 aN aN) _ hi17) ?_))))));intro _ H
   refine pe 2 Z (q3 ?_)
   refine W_cond Z ?_ ?_
   ·intro hc24
    try simp only[nrm]at hc24
    refine q2 (pe 2 Z (q3 (W_ret (N_K_ret (N_B_ret (N_K_ret (N_LP_ret (N_B_ret (N_K_ret (rt2 results85 Z Z ?_))))))))))
    have H:=H.sel [] rfl
    exact H.retM (.inl ⟨rfl,rfl,Sp.dv_no (fun hh=>by have h9:=(Sp.at_take hz17).1 (hh.2.2.2 k _ hz17).2.1;(rw[←Sp.sn_find hSn]at h9);omega)⟩)
   intro hc24'
   try simp only[nrm]at hc24'
   refine W_skip (N_K (W_seq (W_drawK [1,6,9] 14 H kR Z ?_)));intro _ H;have hd25:=PLe.refl G20
   refine dE 0 Z2 (dE 1 Z2 (dE 2 Z2 (dF 3 4 Z2 (dF 5 0 Z2 (dB 6 0 Z4 (dE 7 Z2 (RD_t 8 Z kR Z (fun _ hK=>v_build bf145 Z Z) ?_)))))))
   refine r2 4 9 Z2 ?_ ?_
   ·skip
    refine lB 5 H Z3 (q4 H hd25 (r1 9 Z (xbs H Z7 ?_)));intro _ _ _ H
    refine q4 H hd25 (r1 10 Z (o_append1 2 H (sz:=2) (bytes:=24) underlying139 typeInfo145 ⟨_,Z,Z⟩ Z Z Z Z Z Z Z Z Z Z oM Z ?_));intro _ _ H
    have hchk27:=hchk15_0.snoc (show osE _ (z17.name,T20) _ from⟨rfl,hi17⟩) rfl
    obtain⟨_,_,rfl⟩:=H.accShape (k:=2) rfl
    refine q4 H hd25 (dE 11 Z2 (dF 12 4 Z2 (r1 13 Z ?_)))
    have H:=H.tF 3
    have H:=H.mergeF
    refine xst 4 H Z8 ?_;intro _ H
    refine q4 H hd25 (rz (N_K (W_region (pe 2 Z (xbs H Z7 ?_)))));intro _ _ _ H
    refine o_append1 3 H (sz:=1) (bytes:=8) underlying168 typeInfo136 ⟨_,Z,Z⟩ Z Z Z Z Z Z Z Z Z Z oM Z ?_;intro _ _ H
    have hchk30:=hchk15_1.snoc (show kdE _ T20 _ from rfl) rfl
    obtain⟨_,_,rfl⟩:=H.accShape (k:=3) rfl
    refine aG Z (R_nil (N_B (N_K (W_region (aD Z2 (mV Z (R_nil ?_)))))))
    have H:=H.sel [2,0,3,4,5,6,7,8] rfl
    refine N_lp (hJ:=⟨_,_,_,(xs++[(z17.name,T20)]),_,_,_,(xs1++[T20]),k+1,(FSq++F20),_,Z,hle15,H,?inv,Z⟩) (hm:=?hm)
    case hm=>omega
    case inv=>exact⟨hchk27,aN,hchk30,aN,(by exact⟨by omega,by simp[hx1],by simpa using hNs.snoc hN20,hSn.snoc2 hz17 rfl hT20 hv20,names_step hw hz17 (by simpa using hc22') hSn oM⟩)⟩
   skip
   refine xbs H Z7 ?_;intro _ _ _ H
   refine q4 H hd25 (r1 4 Z (lB 6 H Z3 (q4 H hd25 (r1 10 Z (o_append1 2 H (sz:=2) (bytes:=24) underlying139 typeInfo145 ⟨_,Z,Z⟩ Z Z Z Z Z Z Z Z Z Z oM Z ?_)))));intro _ _ H
   have hchk33:=hchk15_0.snoc (show osE _ (z17.name,T20) _ from⟨rfl,hi17⟩) rfl
   obtain⟨_,_,rfl⟩:=H.accShape (k:=2) rfl
   refine q4 H hd25 (dE 11 Z2 (dF 12 4 Z2 (r1 13 Z ?_)))
   have H:=H.tF 3
   have H:=H.mergeF
   refine xst 4 H Z8 ?_;intro _ H
   refine q4 H hd25 (rz (N_K (W_region (pe 2 Z (xbs H Z7 ?_)))));intro _ _ _ H
   refine o_append1 3 H (sz:=1) (bytes:=8) underlying168 typeInfo136 ⟨_,Z,Z⟩ Z Z Z Z Z Z Z Z Z Z oM Z ?_;intro _ _ H
   have hchk36:=hchk15_1.snoc (show kdE _ T20 _ from rfl) rfl
   obtain⟨_,_,rfl⟩:=H.accShape (k:=3) rfl
   refine aG Z (R_nil (N_B (N_K (W_region (aD Z2 (mV Z (R_nil ?_)))))))
   have H:=H.sel [2,0,3,4,5,6,7,8] rfl
   refine N_lp (hJ:=⟨_,_,_,(xs++[(z17.name,T20)]),_,_,_,(xs1++[T20]),k+1,(FSq++F20),_,Z,hle15,H,?inv,Z⟩) (hm:=?hm)
   case hm=>omega
   case inv=>exact⟨hchk33,aN,hchk36,aN,(by exact⟨by omega,by simp[hx1],by simpa using hNs.snoc hN20,hSn.snoc2 hz17 rfl hT20 hv20,names_step hw hz17 (by simpa using hc22') hSn oM⟩)⟩
  intro hc16'
  try simp only[nrm]at hc16'
  refine W_exit (N_K_exit (N_LP_exit (N_B_same (N_K (W_seq (q2 (fA 0 Z (lB 4 H Z3 (mV Z ?_)))))))))
  refine xr H Z2 (i_usedBy_c _ _ (H.lendSubL [1,2,5,6]) _ _ _ _ _ (H.lendPredL (k:=5) (ks:=[1,2,5,6]) Z Z) hm3 (hS3.up (PPlus.le _ _ _)) hV3 _ _ (RdS.withN (H.lendRdL (k:=2) (ks:=[1,2,5,6]) Z Z hchk15_1 aN aN) (fun t ht=>by (rw[hx1]at ht);rcases List.mem_cons.1 ht with rfl|ht;(· exact H.lendN (k:=6) rfl rfl hN3);(· exact H.lendNs (k:=1) rfl rfl hNs t ht))) oM (fun t ht=>by (rw[hx1]at ht);rcases List.mem_cons.1 ht with rfl|ht;(· exact⟨hT3.wf,by have:=hT3.cnt;have:=Sp.tree_len hv3;omega⟩);(· exact sn_ok hSn t ht))) ?_;intro _ H
  refine pe 1 Z (q3 ?_)
  refine W_cond Z ?_ ?_
  ·intro hc39
   try simp only[nrm]at hc39
   refine q2 (pe 2 Z (q3 (W_ret (N_K_ret (rt2 results85 Z Z ?_)))))
   have H:=H.sel [] rfl
   have hkk:k=d.snaps.length:=by omega
   have hSnf:SnOK xs d.snaps:=by (rw[hkk,List.take_length]at hSn;exact hSn)
   have hwf:∀(j:Nat) (s:BSnap),d.snaps[j]? = some s→Sp.l1Word s.name=true∧(j:Int)≤Sp.l12At d.snaps s.name:=fun j s hs=>hw j s (by have:=(List.getElem?_eq_some_iff.1 hs).1;omega) hs
   exact H.retM (.inl ⟨rfl,rfl,(by (rw[Sp.dv_use (Sp.valid_iff.2 hV3) hT3 oM hSnf hwf,←hx1];unfold Sp.useOK;rw[Bool.and_eq_false_iff];exact hc39))⟩)
  intro hc39'
  try simp only[nrm]at hc39'
  refine W_skip (N_K (q2 (pe 3 Z (q3 (W_ret (rt2 results85 Z Z ?_))))))
  have H:=H.sel [3,5,6,0,1] rfl
  have hkk:k=d.snaps.length:=by omega
  have hSnf:SnOK xs d.snaps:=by (rw[hkk,List.take_length]at hSn;exact hSn)
  have hwf:∀(j:Nat) (s:BSnap),d.snaps[j]? = some s→Sp.l1Word s.name=true∧(j:Int)≤Sp.l12At d.snaps s.name:=fun j s hs=>hw j s (by have:=(List.getElem?_eq_some_iff.1 hs).1;omega) hs
  have hdv:Sp.DiskValid d=true:=by (rw[Sp.dv_use (Sp.valid_iff.2 hV3) hT3 oM hSnf hwf,←hx1];unfold Sp.useOK;simpa using hc39')
  obtain rfl:n=xs.length:=by assumption
  exact H.retM (.inr ⟨_,_,_,_,_,_,_,_,xs,_,_,Z,Z,hm3,hS3,hN3,hT3,hchk15_0,hNs,hSnf,hdv⟩)
end Go.Proofs.Tst
namespace Go.Proofs.Tst
open Go
abbrev muLink:Go.Conc.Locks.MuLink:={lock:=87,unlock:=88,ilock:=121,iunlock:=122,lockSlow:=156,unlockSlow:=159,disable:=152,enable:=154,acquire:=155,relMerge:=157,cas32:=153,add32:=158,tMutex:=133,tIMutex:=131,tPMutex:=174,tPIMutex:=199,tPI32:=201,tUP:=203,tNoCopy:=128,tU32:=129}
theorem muLib:Go.Conc.Locks.MuLib Tryz.prog muLink where
 f_lock:=by kernel_rfl
 f_unlock:=by kernel_rfl
 f_ilock:=by kernel_rfl
 f_iunlock:=by kernel_rfl
 f_disable:=by kernel_rfl
 f_enable:=by kernel_rfl
 f_acquire:=by kernel_rfl
 f_relMerge:=by kernel_rfl
 f_cas32:=by kernel_rfl
 f_add32:=by kernel_rfl
 underlying_tIMutex:=Tryz.underlying131
 runUnderlying_tIMutex:=Tryz.runUnderlying131
 sizeOf_tIMutex:=Tryz.sizeOf131
 isAgg_tIMutex:=Tryz.isAgg131
 zeroValue_tIMutex:=Tryz.zeroValue131
 underlying_tMutex:=Tryz.underlying133
 runUnderlying_tMutex:=Tryz.runUnderlying133
 sizeOf_tMutex:=Tryz.sizeOf133
 isAgg_tMutex:=Tryz.isAgg133
 zeroValue_tMutex:=Tryz.zeroValue133
 underlying_tPMutex:=Tryz.underlying174
 runUnderlying_tPMutex:=Tryz.runUnderlying174
 sizeOf_tPMutex:=Tryz.sizeOf174
 isAgg_tPMutex:=Tryz.isAgg174
 zeroValue_tPMutex:=Tryz.zeroValue174
 underlying_tPIMutex:=Tryz.underlying199
 runUnderlying_tPIMutex:=Tryz.runUnderlying199
 sizeOf_tPIMutex:=Tryz.sizeOf199
 isAgg_tPIMutex:=Tryz.isAgg199
 zeroValue_tPIMutex:=Tryz.zeroValue199
 underlying_tPI32:=Tryz.underlying201
 runUnderlying_tPI32:=Tryz.runUnderlying201
 sizeOf_tPI32:=Tryz.sizeOf201
 isAgg_tPI32:=Tryz.isAgg201
 zeroValue_tPI32:=Tryz.zeroValue201
 underlying_tUP:=Tryz.underlying203
 runUnderlying_tUP:=Tryz.runUnderlying203
 sizeOf_tUP:=Tryz.sizeOf203
 isAgg_tUP:=Tryz.isAgg203
 zeroValue_tUP:=Tryz.zeroValue203
 underlying_tNoCopy:=Tryz.underlying128
 runUnderlying_tNoCopy:=Tryz.runUnderlying128
 sizeOf_tNoCopy:=Tryz.sizeOf128
 isAgg_tNoCopy:=Tryz.isAgg128
 zeroValue_tNoCopy:=Tryz.zeroValue128
 underlying_t21:=Tryz.underlying21
 runUnderlying_t21:=Tryz.runUnderlying21
 sizeOf_t21:=Tryz.sizeOf21
 isAgg_t21:=Tryz.isAgg21
 zeroValue_t21:=Tryz.zeroValue21
 room_tIMutex:=by kernel_rfl
end Go.Proofs.Tst
namespace Go.Proofs.Tst
open Go Fw Tryz
theorem i_disk_c (w0:World)(G0:PH)(hG:PSub G0 w0)(db mb:Nat)(es:Array MapEntry)(ck:Nat)(xs:List (Int×Value))(T:Nd)(FT:Fr)(sv:Value)(sn:List (Bs×Nd))(c:List Value)(FSq:Fr)(d:BDisk)(hm:MapIs (Value.int .i64) es ck xs)(hS:StR G0 xs d.store)(hN:NdO 192 136 G0 T FT)(hT:Nd.TOK T d.tree)(hchk:Chk osE 2 G0 c sn)(hNs:NdsO 192 136 G0 (sn.map (·.2)) FSq)(hSn:SnOK sn d.snaps)(hVd:Sp.VH d.store)(hs6:d.snaps.length≤6)(hLent:Lent w0 G0 [blk db (cl [.int .i32 0,.int .u32 0,.map (some mb),.pointer (some ⟨T.b,0,none⟩),sv] 141),blk mb (.map es ck),frag FT,acc 145 2 sv sn.length c,frag FSq]) :
  Calls Tryz.prog 86 #[.pointer (some ⟨db,0,none⟩)] w0 (RetM w0 G0 (fps [blk db (cl [.int .i32 0,.int .u32 0,.map (some mb),.pointer (some ⟨T.b,0,none⟩),sv] 141),blk mb (.map es ck),frag FT,acc 145 2 sv sn.length c,frag FSq]) (fun G' v Bs=>∃(v1 v2 v3:Value) (F1 F2 F3:Fr),v= .agg #[v1,v2,v3]∧Bs=[frag F1,frag F2,frag F3]∧OHs F1 v1 d.store∧OIs F2 v2 d.tree∧OSn F3 v3 d.snaps)):=by
 have H:Hp w0 G0 (fps [blk db (cl [.int .i32 0,.int .u32 0,.map (some mb),.pointer (some ⟨T.b,0,none⟩),sv] 141),blk mb (.map es ck),frag FT,acc 145 2 sv sn.length c,frag FSq]) w0 G0 [blk db (cl [.int .i32 0,.int .u32 0,.map (some mb),.pointer (some ⟨T.b,0,none⟩),sv] 141),blk mb (.map es ck),frag FT,acc 145 2 sv sn.length c,frag FSq]:=hLent.hp
 obtain⟨adv,cdv,rfl⟩:=H.accShape (k:=3) rfl;have hTv:=hT.valid;have hTc:=hT.cnt;have hTl:=Sp.tree_len hTv;have hsnl:=hSn.len;have hxa:=H.accShape (k:=3) rfl
 refine calls_of_WD (l:=[.pointer (some ⟨db,0,none⟩)]) func86 Z ntmps86 Z (q2 (xal H Z ?_));intro b1 _ _ H
 refine q1 (pe 2 Z (fA 0 Z (o_lock 1 H muLib Z call87 Z Z Z Z ?_)));intro _ H
 refine q1 (pe 2 Z (fA 0 Z (o_defer Z (q3 (W_seq (W_drawK [0,1] 15 H kR Z ?_))))));intro _ H;have hd3:=PLe.refl G0
 refine dE 0 Z2 (dE 1 Z2 (dF 2 2 Z2 (dF 3 0 Z2 (dB 4 1 Z4 (dE 6 Z2 (dE 7 Z2 (dF 8 2 Z2 (dF 9 1 Z2 (dB 10 1 Z4 ?_)))))))))
 refine r2 5 13 Z2 ?_ ?_
 ·skip
  refine xc Z2 (i_slist_c _ _ (H.lendSubL [2]) _ _ _ _ _ (H.lendPredL (k:=2) (ks:=[2]) Z Z) hm (hS.up (PPlus.le _ _ _)) hVd) ?_
  rintro _ _ ⟨_,_,rfl,H4',⟨F4,rfl,hO4⟩⟩
  have H:=H.readersL H4'
  obtain⟨_,hP4⟩:=hO4
  obtain⟨_,_,rfl⟩:=OwnS.shape hP4
  have hO4:=OHs.mk hP4
  refine⟨_,Z,?_⟩
  refine q4 H hd3 ?_
  refine r2 11 13 Z2 ?_ ?_
  ·skip
   refine xc Z2 (i_tlist_c _ _ (H.lendSubL [4]) _ ((H.lendN (k:=4) (ks:=[4]) Z Z hN).at (show Nd.at_ T []=some T from Z)) hT.wf oM) ?_
   rintro _ _ ⟨_,_,rfl,H5',⟨F5,rfl,hO5⟩⟩
   have H:=H.readersL H5'
   obtain⟨_,hP5⟩:=hO5
   obtain⟨_,_,rfl⟩:=OwnS.shape hP5
   have hO5:=OIs.mk hP5
   refine⟨_,Z,?_⟩
   refine q4 H hd3 (RD_t 12 Z kR Z (fun _ hK=>v_build bf34 Z Z) (r1 13 Z (xal H Z ?_)));intro b6 _ _ H
   refine q4 H hd3 (r1 14 Z (xst 0 H Z8 ?_));intro _ H
   refine R_nil (N_DKlast kR kR (N_K (W_seq (q2 (pe 2 Z (fA 4 Z (lB 4 H Z3 (lN Z (mV Z (q3 (W_block ?_)))))))))))
   have H:=H.addNil 106 2
   have H:=H.addF
   obtain⟨ln9,hln9,H⟩:=H.nameAt (k:=2) (off:=2) rfl rfl
   obtain⟨ln10,hln10,H⟩:=H.name (k:=5) rfl
   obtain⟨ln11,hln11,H⟩:=H.name (k:=6) rfl
   refine W_lp (hf:=(Sub.cons (t:=2) Z (Sub.cons (t:=3) Z (Sub.cons (t:=29) Z (Sub.cons (t:=30) Z Sub.nil))))) (J:=fun M w m=>∃(v:Value) (n:Nat) (cs:List Value) (xs:List (BSnap)) (F:Fr) (k:Nat) (G:PH),M=[(31,.int .i64 (k:Int))]∧PLe G0 G∧Hp w0 G0 (fps [blk db (cl [.int .i32 0,.int .u32 0,.map (some mb),.pointer (some ⟨T.b,0,none⟩),.slice adv sn.length cdv] 141),blk mb (.map es ck),frag FT,acc 145 2 (.slice adv sn.length cdv) sn.length c,frag FSq]) w G [frag F,acc 106 2 v n cs,blk b6 (cl (setN ln9 2 v) 34),frag F5,frag F4,blk b1 (cl ln10 34),blk db (cl ln11 141),blk mb (.map es ck),frag FT,acc 145 2 (.slice adv sn.length cdv) sn.length c,frag FSq]∧(ChkF snapO 2 cs xs F∧n=xs.length∧k≤sn.length∧xs=(sn.take k).map (fun x=>(⟨x.1,x.2.flat []⟩:BSnap)))∧m=(sn.length-k)) (h0:=⟨_,_,_,[],[],0,_,Z,PLe.refl _,H,?inv,Z⟩) (round:=?round)
   case inv=>exact⟨ChkF.nil,by first|rfl|simp|(simp;omega)|omega,(by simp)⟩
   case round =>
    rintro _ _ _ ⟨v,n,cs,xs,F,k,G12,rfl,hle12,H,hinv12,rfl⟩
    subst hln9
    subst hln10
    subst hln11
    have hchk:=hchk.up hle12
    have hNs:=hNs.up hle12
    obtain⟨hchk12_0,_,hinv12⟩:=hinv12
    obtain⟨_,_,rfl⟩:=H.accShape (k:=1) rfl
    obtain⟨hk,hxs⟩:=hinv12;have hxl6:xs.length≤6:=by (rw[hxs];simp;omega)
    refine q2 (pe 1 Z (q3 (W_seq ?_)))
    refine W_cond Z ?_ ?_
    ·intro hc13
     try simp only[nrm]at hc13
     refine W_skip (N_K (W_seq (W_block (q2 (o_index_A 9 H k Z hchk underlying139 sizeOf145 Z Z Z Z aN aN ?_)))));intro _ z14 _ hba14 hz14 hE14 hg14;cases hba14
     obtain⟨rfl,hi14⟩:=hE14;have hy_hi14:_≤16777216:=hi14
     refine o_loadagg_A 9 H isAgg145 sizeOf145 Z Z Z hg14 Z (xal H Z ?_);intro _ _ _ H
     refine xst 0 H Z8 ?_;intro _ H
     refine q3 (W_drawK [0,3,6,7] 12 H kR Z ?_);intro _ H;have hd17:=PLe.refl G12
     refine dF 0 2 Z2 (dB 1 1 Z4 (dF 2 0 Z2 (dB 3 0 Z4 (dF 4 1 Z2 (dB 5 0 Z4 (r1 6 Z ?_))))))
     refine xc Z2 (i_tlist_c _ _ (H.lendSubL [11]) _ (H.lendNs (k:=11) (ks:=[11]) Z Z hNs z14.2 (List.mem_map_of_mem (List.mem_of_getElem? hz14))) (sn_ok hSn _ (List.mem_map_of_mem (List.mem_of_getElem? hz14))).1 (by have:=(sn_ok hSn _ (List.mem_map_of_mem (List.mem_of_getElem? hz14))).2;omega)) ?_
     rintro _ _ ⟨_,_,rfl,H18',⟨F18,rfl,hO18⟩⟩
     have H:=H.readersL H18'
     obtain⟨_,hP18⟩:=hO18
     obtain⟨_,_,rfl⟩:=OwnS.shape hP18
     have hO18:=OIs.mk hP18
     refine⟨_,Z,?_⟩
     refine q4 H hd17 (RD_t 7 Z kR Z (fun _ hK=>v_build bf106 Z Z) (r1 8 Z (xbs H Z7 ?_)));intro _ _ _ H
     refine q4 H hd17 (r1 9 Z (o_append1 3 H (sz:=2) (bytes:=40) underlying32 typeInfo106 ⟨_,Z,Z⟩ Z Z Z Z Z Z Z Z Z Z oM Z ?_));intro _ _ H
     have hchk20:=hchk12_0.snoc (show snapO F18 ⟨z14.1,z14.2.flat []⟩ _ from⟨_,_,_,rfl,hi14,hO18⟩) rfl
     have H:=H.tF 2
     have H:=H.mergeF
     obtain⟨_,_,rfl⟩:=H.accShape (k:=2) rfl
     refine q4 H hd17 (dF 10 2 Z2 (r1 11 Z (xst 3 H Z8 ?_)));intro _ H
     refine R_nil (N_DKlast kR kR (N_B (N_K (W_region (aD Z2 (mV Z (R_nil ?_)))))))
     have H:=H.sel [0,2,3,4,5,6,7,8,9,10,11] rfl
     refine N_lp (hJ:=⟨_,_,_,(xs++[⟨z14.1,z14.2.flat []⟩]),(F++F18),k+1,_,Z,hle12,H,?inv,Z⟩) (hm:=?hm)
     case hm=>omega
     case inv=>exact⟨hchk20,aN,(by exact⟨by omega,by (rw[Sp.take_succ' hz14,List.map_append,←hxs];rfl)⟩)⟩
    intro hc13'
    try simp only[nrm]at hc13'
    refine W_exit (N_K_exit (N_LP_exit (N_B_same (N_K (q2 (lA 2 3 H Z4 (xst 5 H Z8 ?_)))))));intro _ H
    refine q3 (W_ret (ret_unlock 6 H muLib Z call88 Z Z (rs:=[.cell 2 34]) results86 ?_));intro _ H
    refine⟨[_],⟨⟨_,Z,load_blk 5 H isAgg34 sizeOf34 Z Z Z⟩,trivial⟩,?_⟩
    have H:=H.tF 1
    obtain⟨_,H,hOw3⟩:=H.ownF hchk12_0 aN aN
    have H:=H.sel [3,2,0] rfl
    have hxs2:xs=d.snaps:=by (rw[hxs,List.take_of_length_le oM];exact sn_list hSn)
    exact H.retM ⟨_,_,_,_,_,_,rfl,rfl,hO4,(by (rw[←hT.flat]);exact hO5),(by have h9:=(show OSn _ _ _ from⟨_,hOw3⟩);(rw[hxs2]at h9);exact h9)⟩
  skip
  refine xal H Z ?_;intro b24 _ _ H
  refine q4 H hd3 (r1 11 Z (xc Z2 (i_tlist_c _ _ (H.lendSubL [5]) _ ((H.lendN (k:=5) (ks:=[5]) Z Z hN).at (show Nd.at_ T []=some T from Z)) hT.wf oM) ?_))
  rintro _ _ ⟨_,_,rfl,H25',⟨F25,rfl,hO25⟩⟩
  have H:=H.readersL H25'
  obtain⟨_,hP25⟩:=hO25
  obtain⟨_,_,rfl⟩:=OwnS.shape hP25
  have hO25:=OIs.mk hP25
  refine⟨_,Z,?_⟩
  refine q4 H hd3 (RD_t 12 Z kR Z (fun _ hK=>v_build bf34 Z Z) (r1 14 Z (xst 1 H Z8 ?_)));intro _ H
  refine R_nil (N_DKlast kR kR (N_K (W_seq (q2 (pe 2 Z (fA 4 Z (lB 4 H Z3 (lN Z (mV Z (q3 (W_block ?_)))))))))))
  have H:=H.addNil 106 2
  have H:=H.addF
  obtain⟨ln28,hln28,H⟩:=H.nameAt (k:=3) (off:=2) rfl rfl
  obtain⟨ln29,hln29,H⟩:=H.name (k:=5) rfl
  obtain⟨ln30,hln30,H⟩:=H.name (k:=6) rfl
  refine W_lp (hf:=(Sub.cons (t:=2) Z (Sub.cons (t:=3) Z (Sub.cons (t:=29) Z (Sub.cons (t:=30) Z Sub.nil))))) (J:=fun M w m=>∃(v:Value) (n:Nat) (cs:List Value) (xs:List (BSnap)) (F:Fr) (k:Nat) (G:PH),M=[(31,.int .i64 (k:Int))]∧PLe G0 G∧Hp w0 G0 (fps [blk db (cl [.int .i32 0,.int .u32 0,.map (some mb),.pointer (some ⟨T.b,0,none⟩),.slice adv sn.length cdv] 141),blk mb (.map es ck),frag FT,acc 145 2 (.slice adv sn.length cdv) sn.length c,frag FSq]) w G [frag F,acc 106 2 v n cs,frag F25,blk b24 (cl (setN ln28 2 v) 34),frag F4,blk b1 (cl ln29 34),blk db (cl ln30 141),blk mb (.map es ck),frag FT,acc 145 2 (.slice adv sn.length cdv) sn.length c,frag FSq]∧(ChkF snapO 2 cs xs F∧n=xs.length∧k≤sn.length∧xs=(sn.take k).map (fun x=>(⟨x.1,x.2.flat []⟩:BSnap)))∧m=(sn.length-k)) (h0:=⟨_,_,_,[],[],0,_,Z,PLe.refl _,H,?inv,Z⟩) (round:=?round)
  case inv=>exact⟨ChkF.nil,by first|rfl|simp|(simp;omega)|omega,(by simp)⟩
  case round =>
   rintro _ _ _ ⟨v,n,cs,xs,F,k,G31,rfl,hle31,H,hinv31,rfl⟩
   subst hln28
   subst hln29
   subst hln30
   have hchk:=hchk.up hle31
   have hNs:=hNs.up hle31
   obtain⟨hchk31_0,_,hinv31⟩:=hinv31
   obtain⟨_,_,rfl⟩:=H.accShape (k:=1) rfl
   obtain⟨hk,hxs⟩:=hinv31;have hxl6:xs.length≤6:=by (rw[hxs];simp;omega)
   refine q2 (pe 1 Z (q3 (W_seq ?_)))
   refine W_cond Z ?_ ?_
   ·intro hc32
    try simp only[nrm]at hc32
    refine W_skip (N_K (W_seq (W_block (q2 (o_index_A 9 H k Z hchk underlying139 sizeOf145 Z Z Z Z aN aN ?_)))));intro _ z33 _ hba33 hz33 hE33 hg33;cases hba33
    obtain⟨rfl,hi33⟩:=hE33;have hy_hi33:_≤16777216:=hi33
    refine o_loadagg_A 9 H isAgg145 sizeOf145 Z Z Z hg33 Z (xal H Z ?_);intro _ _ _ H
    refine xst 0 H Z8 ?_;intro _ H
    refine q3 (W_drawK [0,4,6,7] 12 H kR Z ?_);intro _ H;have hd36:=PLe.refl G31
    refine dF 0 2 Z2 (dB 1 1 Z4 (dF 2 0 Z2 (dB 3 0 Z4 (dF 4 1 Z2 (dB 5 0 Z4 (r1 6 Z ?_))))))
    refine xc Z2 (i_tlist_c _ _ (H.lendSubL [11]) _ (H.lendNs (k:=11) (ks:=[11]) Z Z hNs z33.2 (List.mem_map_of_mem (List.mem_of_getElem? hz33))) (sn_ok hSn _ (List.mem_map_of_mem (List.mem_of_getElem? hz33))).1 (by have:=(sn_ok hSn _ (List.mem_map_of_mem (List.mem_of_getElem? hz33))).2;omega)) ?_
    rintro _ _ ⟨_,_,rfl,H37',⟨F37,rfl,hO37⟩⟩
    have H:=H.readersL H37'
    obtain⟨_,hP37⟩:=hO37
    obtain⟨_,_,rfl⟩:=OwnS.shape hP37
    have hO37:=OIs.mk hP37
    refine⟨_,Z,?_⟩
    refine q4 H hd36 (RD_t 7 Z kR Z (fun _ hK=>v_build bf106 Z Z) (r1 8 Z (xbs H Z7 ?_)));intro _ _ _ H
    refine q4 H hd36 (r1 9 Z (o_append1 3 H (sz:=2) (bytes:=40) underlying32 typeInfo106 ⟨_,Z,Z⟩ Z Z Z Z Z Z Z Z Z Z oM Z ?_));intro _ _ H
    have hchk39:=hchk31_0.snoc (show snapO F37 ⟨z33.1,z33.2.flat []⟩ _ from⟨_,_,_,rfl,hi33,hO37⟩) rfl
    have H:=H.tF 2
    have H:=H.mergeF
    obtain⟨_,_,rfl⟩:=H.accShape (k:=2) rfl
    refine q4 H hd36 (dF 10 2 Z2 (r1 11 Z (xst 4 H Z8 ?_)));intro _ H
    refine R_nil (N_DKlast kR kR (N_B (N_K (W_region (aD Z2 (mV Z (R_nil ?_)))))))
    have H:=H.sel [0,2,3,4,5,6,7,8,9,10,11] rfl
    refine N_lp (hJ:=⟨_,_,_,(xs++[⟨z33.1,z33.2.flat []⟩]),(F++F37),k+1,_,Z,hle31,H,?inv,Z⟩) (hm:=?hm)
    case hm=>omega
    case inv=>exact⟨hchk39,aN,(by exact⟨by omega,by (rw[Sp.take_succ' hz33,List.map_append,←hxs];rfl)⟩)⟩
   intro hc32'
   try simp only[nrm]at hc32'
   refine W_exit (N_K_exit (N_LP_exit (N_B_same (N_K (q2 (lA 3 3 H Z4 (xst 5 H Z8 ?_)))))));intro _ H
   refine q3 (W_ret (ret_unlock 6 H muLib Z call88 Z Z (rs:=[.cell 2 34]) results86 ?_));intro _ H
   refine⟨[_],⟨⟨_,Z,load_blk 5 H isAgg34 sizeOf34 Z Z Z⟩,trivial⟩,?_⟩
   have H:=H.tF 1
   obtain⟨_,H,hOw6⟩:=H.ownF hchk31_0 aN aN
   have H:=H.sel [3,1,0] rfl
   have hxs2:xs=d.snaps:=by (rw[hxs,List.take_of_length_le oM];exact sn_list hSn)
   exact H.retM ⟨_,_,_,_,_,_,rfl,rfl,hO4,(by (rw[←hT.flat]);exact hO25),(by have h9:=(show OSn _ _ _ from⟨_,hOw6⟩);(rw[hxs2]at h9);exact h9)⟩
 skip
 refine xal H Z ?_;intro b43 _ _ H
 refine q4 H hd3 (r1 5 Z (xc Z2 (i_slist_c _ _ (H.lendSubL [3]) _ _ _ _ _ (H.lendPredL (k:=3) (ks:=[3]) Z Z) hm (hS.up (PPlus.le _ _ _)) hVd) ?_))
 rintro _ _ ⟨_,_,rfl,H44',⟨F44,rfl,hO44⟩⟩
 have H:=H.readersL H44'
 obtain⟨_,hP44⟩:=hO44
 obtain⟨_,_,rfl⟩:=OwnS.shape hP44
 have hO44:=OHs.mk hP44
 refine⟨_,Z,?_⟩
 refine q4 H hd3 (r1 11 Z (xc Z2 (i_tlist_c _ _ (H.lendSubL [5]) _ ((H.lendN (k:=5) (ks:=[5]) Z Z hN).at (show Nd.at_ T []=some T from Z)) hT.wf oM) ?_))
 rintro _ _ ⟨_,_,rfl,H45',⟨F45,rfl,hO45⟩⟩
 have H:=H.readersL H45'
 obtain⟨_,hP45⟩:=hO45
 obtain⟨_,_,rfl⟩:=OwnS.shape hP45
 have hO45:=OIs.mk hP45
 refine⟨_,Z,?_⟩
 refine q4 H hd3 (RD_t 12 Z kR Z (fun _ hK=>v_build bf34 Z Z) (r1 14 Z (xst 2 H Z8 ?_)));intro _ H
 refine R_nil (N_DKlast kR kR (N_K (W_seq (q2 (pe 2 Z (fA 4 Z (lB 4 H Z3 (lN Z (mV Z (q3 (W_block ?_)))))))))))
 have H:=H.addNil 106 2
 have H:=H.addF
 obtain⟨ln48,hln48,H⟩:=H.nameAt (k:=4) (off:=2) rfl rfl
 obtain⟨ln49,hln49,H⟩:=H.name (k:=5) rfl
 obtain⟨ln50,hln50,H⟩:=H.name (k:=6) rfl
 refine W_lp (hf:=(Sub.cons (t:=2) Z (Sub.cons (t:=3) Z (Sub.cons (t:=29) Z (Sub.cons (t:=30) Z Sub.nil))))) (J:=fun M w m=>∃(v:Value) (n:Nat) (cs:List Value) (xs:List (BSnap)) (F:Fr) (k:Nat) (G:PH),M=[(31,.int .i64 (k:Int))]∧PLe G0 G∧Hp w0 G0 (fps [blk db (cl [.int .i32 0,.int .u32 0,.map (some mb),.pointer (some ⟨T.b,0,none⟩),.slice adv sn.length cdv] 141),blk mb (.map es ck),frag FT,acc 145 2 (.slice adv sn.length cdv) sn.length c,frag FSq]) w G [frag F,acc 106 2 v n cs,frag F45,frag F44,blk b43 (cl (setN ln48 2 v) 34),blk b1 (cl ln49 34),blk db (cl ln50 141),blk mb (.map es ck),frag FT,acc 145 2 (.slice adv sn.length cdv) sn.length c,frag FSq]∧(ChkF snapO 2 cs xs F∧n=xs.length∧k≤sn.length∧xs=(sn.take k).map (fun x=>(⟨x.1,x.2.flat []⟩:BSnap)))∧m=(sn.length-k)) (h0:=⟨_,_,_,[],[],0,_,Z,PLe.refl _,H,?inv,Z⟩) (round:=?round)
 case inv=>exact⟨ChkF.nil,by first|rfl|simp|(simp;omega)|omega,(by simp)⟩
 case round =>
  rintro _ _ _ ⟨v,n,cs,xs,F,k,G51,rfl,hle51,H,hinv51,rfl⟩
  subst hln48
  subst hln49
  subst hln50
  have hchk:=hchk.up hle51
  have hNs:=hNs.up hle51
  obtain⟨hchk51_0,_,hinv51⟩:=hinv51
  obtain⟨_,_,rfl⟩:=H.accShape (k:=1) rfl
  obtain⟨hk,hxs⟩:=hinv51;have hxl6:xs.length≤6:=by (rw[hxs];simp;omega)
  refine q2 (pe 1 Z (q3 (W_seq ?_)))
  refine W_cond Z ?_ ?_
  ·intro hc52
   try simp only[nrm]at hc52
   refine W_skip (N_K (W_seq (W_block (q2 (o_index_A 9 H k Z hchk underlying139 sizeOf145 Z Z Z Z aN aN ?_)))));intro _ z53 _ hba53 hz53 hE53 hg53;cases hba53
   obtain⟨rfl,hi53⟩:=hE53;have hy_hi53:_≤16777216:=hi53
   refine o_loadagg_A 9 H isAgg145 sizeOf145 Z Z Z hg53 Z (xal H Z ?_);intro _ _ _ H
   refine xst 0 H Z8 ?_;intro _ H
   refine q3 (W_drawK [0,5,6,7] 12 H kR Z ?_);intro _ H;have hd56:=PLe.refl G51
   refine dF 0 2 Z2 (dB 1 1 Z4 (dF 2 0 Z2 (dB 3 0 Z4 (dF 4 1 Z2 (dB 5 0 Z4 (r1 6 Z ?_))))))
   refine xc Z2 (i_tlist_c _ _ (H.lendSubL [11]) _ (H.lendNs (k:=11) (ks:=[11]) Z Z hNs z53.2 (List.mem_map_of_mem (List.mem_of_getElem? hz53))) (sn_ok hSn _ (List.mem_map_of_mem (List.mem_of_getElem? hz53))).1 (by have:=(sn_ok hSn _ (List.mem_map_of_mem (List.mem_of_getElem? hz53))).2;omega)) ?_
   rintro _ _ ⟨_,_,rfl,H57',⟨F57,rfl,hO57⟩⟩
   have H:=H.readersL H57'
   obtain⟨_,hP57⟩:=hO57
   obtain⟨_,_,rfl⟩:=OwnS.shape hP57
   have hO57:=OIs.mk hP57
   refine⟨_,Z,?_⟩
   refine q4 H hd56 (RD_t 7 Z kR Z (fun _ hK=>v_build bf106 Z Z) (r1 8 Z (xbs H Z7 ?_)));intro _ _ _ H
   refine q4 H hd56 (r1 9 Z (o_append1 3 H (sz:=2) (bytes:=40) underlying32 typeInfo106 ⟨_,Z,Z⟩ Z Z Z Z Z Z Z Z Z Z oM Z ?_));intro _ _ H
   have hchk59:=hchk51_0.snoc (show snapO F57 ⟨z53.1,z53.2.flat []⟩ _ from⟨_,_,_,rfl,hi53,hO57⟩) rfl
   have H:=H.tF 2
   have H:=H.mergeF
   obtain⟨_,_,rfl⟩:=H.accShape (k:=2) rfl
   refine q4 H hd56 (dF 10 2 Z2 (r1 11 Z (xst 5 H Z8 ?_)));intro _ H
   refine R_nil (N_DKlast kR kR (N_B (N_K (W_region (aD Z2 (mV Z (R_nil ?_)))))))
   have H:=H.sel [0,2,3,4,5,6,7,8,9,10,11] rfl
   refine N_lp (hJ:=⟨_,_,_,(xs++[⟨z53.1,z53.2.flat []⟩]),(F++F57),k+1,_,Z,hle51,H,?inv,Z⟩) (hm:=?hm)
   case hm=>omega
   case inv=>exact⟨hchk59,aN,(by exact⟨by omega,by (rw[Sp.take_succ' hz53,List.map_append,←hxs];rfl)⟩)⟩
  intro hc52'
  try simp only[nrm]at hc52'
  refine W_exit (N_K_exit (N_LP_exit (N_B_same (N_K (q2 (lA 4 3 H Z4 (xst 5 H Z8 ?_)))))));intro _ H
  refine q3 (W_ret (ret_unlock 6 H muLib Z call88 Z Z (rs:=[.cell 2 34]) results86 ?_));intro _ H
  refine⟨[_],⟨⟨_,Z,load_blk 5 H isAgg34 sizeOf34 Z Z Z⟩,trivial⟩,?_⟩
  have H:=H.tF 1
  obtain⟨_,H,hOw9⟩:=H.ownF hchk51_0 aN aN
  have H:=H.sel [2,1,0] rfl
  have hxs2:xs=d.snaps:=by (rw[hxs,List.take_of_length_le oM];exact sn_list hSn)
  exact H.retM ⟨_,_,_,_,_,_,rfl,rfl,hO44,(by (rw[←hT.flat]);exact hO45),(by have h9:=(show OSn _ _ _ from⟨_,hOw9⟩);(rw[hxs2]at h9);exact h9)⟩
theorem i_freeTree_c (w0:World)(G0:PH)(hG:PSub G0 w0)(mbs:Nat)(ess:Array MapEntry)(cks:Nat)(xss:List (Int×Value))(Ls:List BHeld)(hms:MapIs (Value.int .i64) ess cks xss)(hSs:StR G0 xss Ls)(hVs:Sp.VH Ls)(Ft:Fr)(t:Nd)(hNt:NdO 192 136 G0 t Ft)(hLent:Lent w0 G0 [blk mbs (.map ess cks),frag Ft])(hwt:t.wf)(hct:t.cnt≤1000) :
  Calls Tryz.prog 90 #[.map (some mbs),.pointer (some ⟨t.b,0,none⟩)] w0 (RetM w0 G0 (fps [blk mbs (.map ess cks),frag Ft]) (fun G' v Bs=>∃(es':Array MapEntry) (ck':Nat) (xs':List (Int×Value)) (L':List BHeld),v= .bool (Sp.freeTs Ls (t.flat [])).isSome∧Bs=[blk mbs (.map es' ck'),frag Ft]∧MapIs (Value.int .i64) es' ck' xs'∧StR G' xs' L'∧Sp.VH L'∧∀l,Sp.freeTs Ls (t.flat [])=some l→L'=l)):=by
 have hfl:=Nd.flat_len [] t
 have H:Hp w0 G0 (fps [blk mbs (.map ess cks),frag Ft]) w0 G0 [blk mbs (.map ess cks),frag Ft]:=hLent.hp
 refine calls_of_W (l:=[.map (some mbs),.pointer (some ⟨t.b,0,none⟩)]) func90 Z ntmps90 Z (q2 (aG Z (q3 (W_seq (q2 (mV Z (xc Z2 (i_tlist_c _ _ (H.lendSubL [1]) _ ((H.lendN (k:=1) (ks:=[1]) Z Z hNt).at (show Nd.at_ t []=some t from Z)) hwt hct) ?_)))))))
 rintro _ _ ⟨_,_,rfl,H1',⟨_,rfl,hO1⟩⟩
 have H:=H.readersL H1'
 obtain⟨_,hP1⟩:=hO1
 obtain⟨_,_,rfl⟩:=OwnS.shape hP1
 have hO1:=OIs.mk hP1
 refine⟨_,Z,?_⟩
 have hdm1:=dm_nodup H (k:=0) rfl;obtain⟨Gk1,H,hkl1,hks1⟩:=H.keepF (k:=0) rfl (H.apart (k:=0) (ks:=[1,2]) rfl rfl (by intro b hb;simp only[fps,List.flatMap_cons,List.flatMap_nil,List.append_nil,List.mem_append]at hb;rcases hb with h|h;(· exact fpsAt_mem (k:=1) rfl rfl b (by exact h));(· exact fpsAt_mem (k:=2) rfl rfl b (by exact h))))
 have hrk1:=hO1.rd hks1 hdm1
 have hSs:=hSs.up hkl1
 have hn_hrk1:=hrk1.len
 refine lN Z (mV Z (q3 (W_block ?_)))
 refine W_lp (hf:=(Sub.cons (t:=0) Z (Sub.cons (t:=8) Z (Sub.cons (t:=9) Z Sub.nil)))) (J:=fun M w m=>∃(esm0:Array MapEntry) (ckm0:Nat) (xsm0:List (Int×Value)) (Lm0:List BHeld) (k:Nat) (G:PH),M=[(10,.int .i64 (k:Int))]∧PLe Gk1 G∧Hp w0 G0 (fps [blk mbs (.map ess cks),frag Ft]) w G [blk mbs (.map esm0 ckm0),frag Ft]∧(MapIs (Value.int .i64) esm0 ckm0 xsm0∧StR G xsm0 Lm0∧Sp.VH Lm0∧k≤(t.flat []).length∧Sp.foldB Sp.freeF ((t.flat []).take k) (some Ls)=some Lm0)∧m=((t.flat []).length-k)) (h0:=⟨_,_,xss,Ls,0,_,Z,PLe.refl _,H,?inv,Z⟩) (round:=?round)
 case inv=>exact⟨hms,hSs,hVs,(by simp[Sp.foldB])⟩
 case round =>
  rintro _ _ _ ⟨esm0,ckm0,xsm0,Lm0,k,_,rfl,hle2,H,hinv2,rfl⟩
  have hrk1:=hrk1.up hle2
  obtain⟨hm2_m0,hS2_m0,hV2_m0,hinv2⟩:=hinv2
  obtain⟨_,hf⟩:=hinv2
  refine q2 (pe 1 Z (q3 (W_seq ?_)))
  refine W_cond Z ?_ ?_
  ·intro hc3
   try simp only[nrm]at hc3
   refine W_skip (N_K (W_seq (W_block (q2 (iP k hrk1 Z3 Z ?_)))));intro _ _ z4 _ hz4 hE4 hrow4
   obtain⟨_,_,_,rfl,_,hr4,_,_⟩:=ox hE4
   refine o_loadagg_P H isAgg109 sizeOf109 Z Z hrow4 Z (xal H Z ?_);intro _ _ _ H
   refine xst 0 H Z8 ?_;intro _ H
   refine q1 (mV Z (fA 2 Z (lB 0 H Z3 ?_)))
   have H:=H.tF 1
   refine xc Z2 (i_freeFile_c _ _ H.sub _ _ _ _ _ hm2_m0 hS2_m0 hV2_m0 _ _ hr4 H.lent1) ?_
   rintro _ _ ⟨_,_,_,rfl,H7',⟨_,_,xs7,L7,rfl,rfl,hm7,hS7,hV7,hL7⟩⟩
   have hle2:=hle2.trans H7'.le
   have H:=H.borrow1 H7'
   refine⟨_,Z,?_⟩
   refine pe 1 Z (q3 ?_)
   refine W_cond Z ?_ ?_
   ·intro hc8
    try simp only[nrm]at hc8
    refine q2 (aG Z (q3 (W_ret (N_B_ret (N_K_ret (N_LP_ret (N_B_ret (N_K_ret (rt1 results90 Z ?_)))))))))
    have H:=H.dl 1
    have H:=H.tF 1
    have H:=H.tF 1
    have hno:Sp.freeTs Ls (t.flat [])=none:=by (have hno:Sp.freeF Lm0 z4=none:=(show Sp.FileFree Lm0 z4.ids=none by simpa using hc8));exact Sp.foldB_stop hf hz4 hno
    exact H.retM ⟨_,_,_,_,congrArg Value.bool (by rw[hno];rfl),rfl,hm7,hS7,hV7,fun l hl=>by rw[hno]at hl;cases hl⟩
   intro hc8'
   try simp only[nrm]at hc8'
   obtain⟨p,hsp⟩:=Option.isSome_iff_exists.1 (show(Sp.FileFree Lm0 z4.ids).isSome=true by simpa using hc8')
   have hLp:=hL7 p hsp;subst hLp
   have hsp:Sp.freeF Lm0 z4=some L7:=hsp
   refine W_skip (N_B (N_K (W_region (aD Z2 (mV Z (R_nil ?_))))))
   have H:=H.dl 1
   refine N_lp (hJ:=⟨_,_,xs7,L7,k+1,_,Z,hle2,H,?inv,Z⟩) (hm:=?hm)
   case hm=>omega
   case inv=>exact⟨hm7,hS7,hV7,(by exact⟨by omega,Sp.foldB_succ hf hz4 hsp⟩)⟩
  intro hc3'
  try simp only[nrm]at hc3'
  refine W_exit (N_K_exit (N_LP_exit (N_B_same (N_K (q2 (aG Z (q3 (W_ret (rt1 results90 Z ?_)))))))))
  have H:=H.tF 1
  have H:=H.tF 1
  have hyes:Sp.freeTs Ls (t.flat [])=some Lm0:=Sp.foldB_all hf oM
  exact H.retM ⟨_,_,_,_,congrArg Value.bool (by rw[hyes];rfl),rfl,hm2_m0,hS2_m0,hV2_m0,fun l hl=>by rw[hyes]at hl;cases hl;rfl⟩
theorem i_dropSnap_c (w0:World)(G0:PH)(hG:PSub G0 w0)(db mb:Nat)(es:Array MapEntry)(ck:Nat)(xs:List (Int×Value))(T:Nd)(FT:Fr)(sv:Value)(sn:List (Bs×Nd))(c:List Value)(FSq:Fr)(d:BDisk)(hm:MapIs (Value.int .i64) es ck xs)(hS:StR G0 xs d.store)(hN:NdO 192 136 G0 T FT)(hT:Nd.TOK T d.tree)(hchk:Chk osE 2 G0 c sn)(hNs:NdsO 192 136 G0 (sn.map (·.2)) FSq)(hSn:SnOK sn d.snaps)(hdv:Sp.DiskValid d=true)(name:Bs)(hname:name.length≤16777216)(hLent:Lent w0 G0 [blk db (cl [.int .i32 0,.int .u32 0,.map (some mb),.pointer (some ⟨T.b,0,none⟩),sv] 141),blk mb (.map es ck),frag FT,acc 145 2 sv sn.length c,frag FSq]) :
  Calls Tryz.prog 54 #[.pointer (some ⟨db,0,none⟩),str name] w0 (RetM w0 G0 (fps [blk db (cl [.int .i32 0,.int .u32 0,.map (some mb),.pointer (some ⟨T.b,0,none⟩),sv] 141),blk mb (.map es ck),frag FT,acc 145 2 sv sn.length c,frag FSq]) (fun G' v Bs=>∃(es':Array MapEntry) (ck':Nat) (xs':List (Int×Value)) (F':Fr) (T':Nd) (sv':Value) (sn':List (Fw.Bs×Nd)) (c':List Value) (FSq':Fr) (L':List BHeld),v= .bool (Sp.SnapDrop d name).isSome∧Bs=[blk db (cl [.int .i32 0,.int .u32 0,.map (some mb),.pointer (some ⟨T'.b,0,none⟩),sv'] 141),blk mb (.map es' ck'),frag F',acc 145 2 sv' sn'.length c',frag FSq']∧MapIs (Value.int .i64) es' ck' xs'∧StR G' xs' L'∧Sp.VH L'∧NdO 192 136 G' T' F'∧Chk osE 2 G' c' sn'∧NdsO 192 136 G' (sn'.map (·.2)) FSq'∧∀d',Sp.SnapDrop d name=some d'→L'=d'.store∧Nd.TOK T' d'.tree∧SnOK sn' d'.snaps)):=by
 have H:Hp w0 G0 (fps [blk db (cl [.int .i32 0,.int .u32 0,.map (some mb),.pointer (some ⟨T.b,0,none⟩),sv] 141),blk mb (.map es ck),frag FT,acc 145 2 sv sn.length c,frag FSq]) w0 G0 [blk db (cl [.int .i32 0,.int .u32 0,.map (some mb),.pointer (some ⟨T.b,0,none⟩),sv] 141),blk mb (.map es ck),frag FT,acc 145 2 sv sn.length c,frag FSq]:=hLent.hp
 obtain⟨_,_,rfl⟩:=H.accShape (k:=3) rfl;have hVd:=Sp.valid_iff.1 (Sp.dv_parts.1 hdv).1;have hTv:=(Sp.dv_parts.1 hdv).2.1;have hTc:=hT.cnt;have hTl:=Sp.tree_len hTv;have hsnl:=hSn.len;have hsn6:=(Sp.dv_parts.1 hdv).2.2.1
 refine calls_of_WD (l:=[.pointer (some ⟨db,0,none⟩),str name]) func54 Z ntmps54 Z (q2 (aG Z (q1 (pe 2 Z (fA 0 Z (o_lock 0 H muLib Z call87 Z Z Z Z ?_))))));intro _ H
 refine q1 (pe 2 Z (fA 0 Z (o_defer Z (q1 (pe 2 Z (xr H Z2 (i_snapAt_c _ _ (H.lendSubL [0,3]) _ _ _ _ _ _ _ (prow_blk (H.lendPredL (k:=0) (ks:=[0,3]) Z Z)) (H.lendRdL (k:=3) (ks:=[0,3]) Z Z hchk aN aN) _ hname) ?_))))));intro _ H
 refine aG Z (q3 (W_seq (W_seq (W_drawK [0] 19 H kR Z ?_))));intro _ H;have hd3:=PLe.refl G0
 refine dE 0 Z2 (dE 1 Z2 (dE 2 Z2 ?_))
 refine RD_case (t:=18) Z ?_ ?_
 ·intro hc4
  try simp only[nrm]at hc4
  refine dE 3 Z2 (dE 4 Z2 (dE 5 Z2 (dE 6 Z2 (dE 7 Z2 (dE 8 Z2 (dE 9 Z2 (dE 10 Z2 (dE 11 Z2 (dE 12 Z2 (dE 13 Z2 (dE 14 Z2 (dE 15 Z2 (dE 16 Z2 (dE 17 Z2 (dE 18 Z2 ?_)))))))))))))))
  refine rz (N_K (W_true Z (q2 (aG Z (q3 (W_ret (N_K_ret (ret_unlock 0 H muLib Z call88 Z Z (rs:=[.tmp 4]) results54 ?_))))))));intro _ H
  refine⟨[_],⟨Z,trivial⟩,?_⟩
  have H:=H.sel [0,1,2,3,4] rfl
  have hno:Sp.SnapDrop d name=none:=Sp.sdrop_noat (by (rw[←Sp.sn_find hSn];omega))
  exact H.retM ⟨_,_,_,_,T,_,sn,_,_,d.store,congrArg Value.bool (by (rw[hno];rfl)),rfl,hm,hS,hVd,hN,hchk,hNs,fun d2 h=>(by rw[hno]at h;cases h)⟩
 intro hc4'
 try simp only[nrm]at hc4'
 obtain⟨i,x,_,hat,hsx,hs0,hai,htx,_⟩:=sn_at hSn (n:=name) oM
 refine dE 3 Z2 (dE 4 Z2 (dF 5 2 Z2 (dF 6 0 Z2 (dB 7 0 Z4 (dE 8 Z2 (dE 9 Z2 (dF 10 4 Z2 (dB 11 0 Z4 (dE 12 Z2 (r1 13 Z (gR Z (o_index_A 3 H i Z hchk underlying139 sizeOf145 Z Z Z hat aN aN ?_))))))))))));intro _ z5 _ hba5 hz5 hE5 hg5;cases hba5
 obtain⟨rfl,hi5⟩:=hE5;have hy_hi5:_≤16777216:=hi5
 refine q4 H hd3 (dF 14 1 Z2 (r1 15 Z (gR Z (o_load_A 3 H isAgg136 Z Z Z (hg5 1 _ Z) (q4 H hd3 (r1 16 Z (gR Z ?_)))))))
 have H:=H.tF 4
 obtain⟨_,_,hpm2,hNk2,hNr2⟩:=NdsO.del hNs (i:=i) (k:=z5.2) (by (rw[List.getElem?_map,hz5];rfl))
 have H:=(H.permF hpm2).splitF
 have H:=H.tF 3
 refine xc Z2 (i_freeTree_c _ _ H.sub _ _ _ _ _ hm hS hVd _ _ hNk2 H.lent2 (sn_ok hSn _ (List.mem_map_of_mem (List.mem_of_getElem? hz5))).1 (by have:=(sn_ok hSn _ (List.mem_map_of_mem (List.mem_of_getElem? hz5))).2;omega)) ?_
 rintro _ _ ⟨G6,_,_,rfl,H6',⟨_,_,_,L6,rfl,rfl,hm6,hS6,hV6,hL6⟩⟩
 have hN:=hN.up H6'.le
 have hchk:=hchk.up H6'.le
 have hNr2:=hNr2.up H6'.le
 have hd3:=hd3.trans H6'.le
 have H:=H.borrow2 H6'
 refine⟨_,Z,?_⟩
 refine q4 H hd3 (dE 17 Z2 (dE 18 Z2 (rz (N_K ?_))))
 refine W_cond Z ?_ ?_
 ·intro hc7
  try simp only[nrm]at hc7
  refine q2 (aG Z (q3 (W_ret (N_K_ret (ret_unlock 3 H muLib Z call88 Z Z (rs:=[.tmp 4]) results54 ?_)))));intro _ H
  refine⟨[_],⟨Z,trivial⟩,?_⟩
  obtain rfl:x=z5:=Option.some.inj (hsx.symm.trans hz5)
  have hfr:=Sp.sdrop_free hdv hs0
  (rw[←htx.flat]at hfr)
  exact absurd (show(Sp.freeTs d.store (x.2.flat [])).isSome=true by (rw[hfr];rfl)) (by simpa using hc7)
 intro hc7'
 try simp only[nrm]at hc7'
 refine W_skip (N_K (W_seq (W_drawK [] 19 H kR Z ?_)));intro _ H;have hd8:=PLe.refl G6
 refine dE 0 Z2 (dE 1 Z2 (dE 2 Z2 (dF 3 4 Z2 (dE 5 Z2 (dE 6 Z2 (dE 8 Z2 (dE 9 Z2 (dF 10 4 Z2 (dE 12 Z2 (RD_t 13 Z kR Z (fun _ hK=>v_add Z Z oO) ?_))))))))))
 refine r2 4 11 Z2 ?_ ?_
 ·skip
  refine lB 3 H Z3 (q4 H hd8 ?_)
  refine r2 7 11 Z2 ?_ ?_
  ·skip
   have hac10:=H.accCap (k:=5) rfl
   refine o_slice_to3 (j:=i) underlying139 sizeOf145 Z Z Z Z hat oM (q4 H hd8 (r1 11 Z (lB 3 H Z3 (q4 H hd8 (r1 14 Z ?_)))))
   have hac11:=H.accCap (k:=5) rfl
   refine o_slice_from (i:=(i+1)) underlying139 sizeOf145 Z Z Z oM oM (q4 H hd8 (r1 15 Z ?_))
   refine o_append_cut 5 H i Z hchk (by intro z cs hz u hu;obtain⟨rfl,_⟩:=hz;simp at hu;rcases hu with rfl|rfl<;>rfl) underlying139 typeInfo145 ⟨_,rfl,rfl⟩ rfl rfl rfl rfl rfl rfl oM aN oM rfl ?_;intro _ _ H hchk12
   obtain⟨_,_,rfl⟩:=H.accShape (k:=5) rfl
   refine q4 H hd8 (dE 16 Z2 (dF 17 4 Z2 (r1 18 Z (xst 3 H Z8 ?_))));intro _ H
   refine q4 H hd8 (rz (N_K (q2 (aG Z (q3 (W_ret (ret_unlock 3 H muLib Z call88 Z Z (rs:=[.tmp 4]) results54 ?_)))))));intro _ H
   refine⟨[_],⟨Z,trivial⟩,?_⟩
   obtain rfl:x=z5:=Option.some.inj (hsx.symm.trans hz5)
   have H:=H.sel [3,0,4,5,2] rfl
   have H:=H.sel [0,1,2,3,4] rfl
   have hfr:=Sp.sdrop_free hdv hs0
   (rw[←htx.flat]at hfr)
   have hyes:Sp.SnapDrop d name=some _:=Sp.sdrop_eq hdv hai hs0
   have hln:i+(sn.length-(i+1))=(sn.take i++sn.drop (i+1)).length:=by simp;omega
   rw[hln]at H
   have hsd:=All2.del hSn i
   exact H.retM ⟨_,_,_,_,T,_,(sn.take i++sn.drop (i+1)),_,_,L6,congrArg Value.bool (by (rw[hyes];rfl)),rfl,hm6,hS6,hV6,hN,hchk12,(by simpa [List.map_append,List.map_take,List.map_drop] using hNr2),fun d2 h=>(by rw[hyes]at h;cases h;exact⟨hL6 _ (by (rw[←htx.flat];exact hfr)),hT,hsd⟩)⟩
  skip
  refine lB 3 H Z3 (q4 H hd8 ?_)
  refine r2 7 14 Z2 ?_ ?_
  ·skip
   have hac14:=H.accCap (k:=5) rfl
   refine o_slice_to3 (j:=i) underlying139 sizeOf145 Z Z Z Z hat oM (q4 H hd8 (r1 14 Z ?_))
   have hac15:=H.accCap (k:=5) rfl
   refine o_slice_from (i:=(i+1)) underlying139 sizeOf145 Z Z Z oM oM (q4 H hd8 (r1 15 Z ?_))
   refine o_append_cut 5 H i Z hchk (by intro z cs hz u hu;obtain⟨rfl,_⟩:=hz;simp at hu;rcases hu with rfl|rfl<;>rfl) underlying139 typeInfo145 ⟨_,rfl,rfl⟩ rfl rfl rfl rfl rfl rfl oM aN oM rfl ?_;intro _ _ H hchk16
   obtain⟨_,_,rfl⟩:=H.accShape (k:=5) rfl
   refine q4 H hd8 (dE 16 Z2 (dF 17 4 Z2 (r1 18 Z (xst 3 H Z8 ?_))));intro _ H
   refine q4 H hd8 (rz (N_K (q2 (aG Z (q3 (W_ret (ret_unlock 3 H muLib Z call88 Z Z (rs:=[.tmp 4]) results54 ?_)))))));intro _ H
   refine⟨[_],⟨Z,trivial⟩,?_⟩
   obtain rfl:x=z5:=Option.some.inj (hsx.symm.trans hz5)
   have H:=H.sel [3,0,4,5,2] rfl
   have H:=H.sel [0,1,2,3,4] rfl
   have hfr:=Sp.sdrop_free hdv hs0
   (rw[←htx.flat]at hfr)
   have hyes:Sp.SnapDrop d name=some _:=Sp.sdrop_eq hdv hai hs0
   have hln:i+(sn.length-(i+1))=(sn.take i++sn.drop (i+1)).length:=by simp;omega
   rw[hln]at H
   have hsd:=All2.del hSn i
   exact H.retM ⟨_,_,_,_,T,_,(sn.take i++sn.drop (i+1)),_,_,L6,congrArg Value.bool (by (rw[hyes];rfl)),rfl,hm6,hS6,hV6,hN,hchk16,(by simpa [List.map_append,List.map_take,List.map_drop] using hNr2),fun d2 h=>(by rw[hyes]at h;cases h;exact⟨hL6 _ (by (rw[←htx.flat];exact hfr)),hT,hsd⟩)⟩
  skip
  have hac18:=H.accCap (k:=5) rfl
  refine o_slice_from (i:=(i+1)) underlying139 sizeOf145 Z Z Z oM oM (q4 H hd8 (r1 7 Z ?_))
  have hac19:=H.accCap (k:=5) rfl
  refine o_slice_to3 (j:=i) underlying139 sizeOf145 Z Z Z Z hat oM (q4 H hd8 (r1 15 Z ?_))
  refine o_append_cut 5 H i Z hchk (by intro z cs hz u hu;obtain⟨rfl,_⟩:=hz;simp at hu;rcases hu with rfl|rfl<;>rfl) underlying139 typeInfo145 ⟨_,rfl,rfl⟩ rfl rfl rfl rfl rfl rfl oM aN oM rfl ?_;intro _ _ H hchk20
  obtain⟨_,_,rfl⟩:=H.accShape (k:=5) rfl
  refine q4 H hd8 (dE 16 Z2 (dF 17 4 Z2 (r1 18 Z (xst 3 H Z8 ?_))));intro _ H
  refine q4 H hd8 (rz (N_K (q2 (aG Z (q3 (W_ret (ret_unlock 3 H muLib Z call88 Z Z (rs:=[.tmp 4]) results54 ?_)))))));intro _ H
  refine⟨[_],⟨Z,trivial⟩,?_⟩
  obtain rfl:x=z5:=Option.some.inj (hsx.symm.trans hz5)
  have H:=H.sel [3,0,4,5,2] rfl
  have H:=H.sel [0,1,2,3,4] rfl
  have hfr:=Sp.sdrop_free hdv hs0
  (rw[←htx.flat]at hfr)
  have hyes:Sp.SnapDrop d name=some _:=Sp.sdrop_eq hdv hai hs0
  have hln:i+(sn.length-(i+1))=(sn.take i++sn.drop (i+1)).length:=by simp;omega
  rw[hln]at H
  have hsd:=All2.del hSn i
  exact H.retM ⟨_,_,_,_,T,_,(sn.take i++sn.drop (i+1)),_,_,L6,congrArg Value.bool (by (rw[hyes];rfl)),rfl,hm6,hS6,hV6,hN,hchk20,(by simpa [List.map_append,List.map_take,List.map_drop] using hNr2),fun d2 h=>(by rw[hyes]at h;cases h;exact⟨hL6 _ (by (rw[←htx.flat];exact hfr)),hT,hsd⟩)⟩
 skip
 refine lB 3 H Z3 (q4 H hd8 ?_)
 refine r2 4 14 Z2 ?_ ?_
 ·skip
  refine lB 3 H Z3 (q4 H hd8 ?_)
  refine r2 7 14 Z2 ?_ ?_
  ·skip
   have hac22:=H.accCap (k:=5) rfl
   refine o_slice_to3 (j:=i) underlying139 sizeOf145 Z Z Z Z hat oM (q4 H hd8 (r1 14 Z ?_))
   have hac23:=H.accCap (k:=5) rfl
   refine o_slice_from (i:=(i+1)) underlying139 sizeOf145 Z Z Z oM oM (q4 H hd8 (r1 15 Z ?_))
   refine o_append_cut 5 H i Z hchk (by intro z cs hz u hu;obtain⟨rfl,_⟩:=hz;simp at hu;rcases hu with rfl|rfl<;>rfl) underlying139 typeInfo145 ⟨_,rfl,rfl⟩ rfl rfl rfl rfl rfl rfl oM aN oM rfl ?_;intro _ _ H hchk24
   obtain⟨_,_,rfl⟩:=H.accShape (k:=5) rfl
   refine q4 H hd8 (dE 16 Z2 (dF 17 4 Z2 (r1 18 Z (xst 3 H Z8 ?_))));intro _ H
   refine q4 H hd8 (rz (N_K (q2 (aG Z (q3 (W_ret (ret_unlock 3 H muLib Z call88 Z Z (rs:=[.tmp 4]) results54 ?_)))))));intro _ H
   refine⟨[_],⟨Z,trivial⟩,?_⟩
   obtain rfl:x=z5:=Option.some.inj (hsx.symm.trans hz5)
   have H:=H.sel [3,0,4,5,2] rfl
   have H:=H.sel [0,1,2,3,4] rfl
   have hfr:=Sp.sdrop_free hdv hs0
   (rw[←htx.flat]at hfr)
   have hyes:Sp.SnapDrop d name=some _:=Sp.sdrop_eq hdv hai hs0
   have hln:i+(sn.length-(i+1))=(sn.take i++sn.drop (i+1)).length:=by simp;omega
   rw[hln]at H
   have hsd:=All2.del hSn i
   exact H.retM ⟨_,_,_,_,T,_,(sn.take i++sn.drop (i+1)),_,_,L6,congrArg Value.bool (by (rw[hyes];rfl)),rfl,hm6,hS6,hV6,hN,hchk24,(by simpa [List.map_append,List.map_take,List.map_drop] using hNr2),fun d2 h=>(by rw[hyes]at h;cases h;exact⟨hL6 _ (by (rw[←htx.flat];exact hfr)),hT,hsd⟩)⟩
  skip
  have hac26:=H.accCap (k:=5) rfl
  refine o_slice_from (i:=(i+1)) underlying139 sizeOf145 Z Z Z oM oM (q4 H hd8 (r1 7 Z ?_))
  have hac27:=H.accCap (k:=5) rfl
  refine o_slice_to3 (j:=i) underlying139 sizeOf145 Z Z Z Z hat oM (q4 H hd8 (r1 15 Z ?_))
  refine o_append_cut 5 H i Z hchk (by intro z cs hz u hu;obtain⟨rfl,_⟩:=hz;simp at hu;rcases hu with rfl|rfl<;>rfl) underlying139 typeInfo145 ⟨_,rfl,rfl⟩ rfl rfl rfl rfl rfl rfl oM aN oM rfl ?_;intro _ _ H hchk28
  obtain⟨_,_,rfl⟩:=H.accShape (k:=5) rfl
  refine q4 H hd8 (dE 16 Z2 (dF 17 4 Z2 (r1 18 Z (xst 3 H Z8 ?_))));intro _ H
  refine q4 H hd8 (rz (N_K (q2 (aG Z (q3 (W_ret (ret_unlock 3 H muLib Z call88 Z Z (rs:=[.tmp 4]) results54 ?_)))))));intro _ H
  refine⟨[_],⟨Z,trivial⟩,?_⟩
  obtain rfl:x=z5:=Option.some.inj (hsx.symm.trans hz5)
  have H:=H.sel [3,0,4,5,2] rfl
  have H:=H.sel [0,1,2,3,4] rfl
  have hfr:=Sp.sdrop_free hdv hs0
  (rw[←htx.flat]at hfr)
  have hyes:Sp.SnapDrop d name=some _:=Sp.sdrop_eq hdv hai hs0
  have hln:i+(sn.length-(i+1))=(sn.take i++sn.drop (i+1)).length:=by simp;omega
  rw[hln]at H
  have hsd:=All2.del hSn i
  exact H.retM ⟨_,_,_,_,T,_,(sn.take i++sn.drop (i+1)),_,_,L6,congrArg Value.bool (by (rw[hyes];rfl)),rfl,hm6,hS6,hV6,hN,hchk28,(by simpa [List.map_append,List.map_take,List.map_drop] using hNr2),fun d2 h=>(by rw[hyes]at h;cases h;exact⟨hL6 _ (by (rw[←htx.flat];exact hfr)),hT,hsd⟩)⟩
 skip
 have hac30:=H.accCap (k:=5) rfl
 refine o_slice_from (i:=(i+1)) underlying139 sizeOf145 Z Z Z oM oM (q4 H hd8 (r1 4 Z (lB 3 H Z3 (q4 H hd8 (r1 7 Z ?_)))))
 have hac31:=H.accCap (k:=5) rfl
 refine o_slice_to3 (j:=i) underlying139 sizeOf145 Z Z Z Z hat oM (q4 H hd8 (r1 15 Z ?_))
 refine o_append_cut 5 H i Z hchk (by intro z cs hz u hu;obtain⟨rfl,_⟩:=hz;simp at hu;rcases hu with rfl|rfl<;>rfl) underlying139 typeInfo145 ⟨_,rfl,rfl⟩ rfl rfl rfl rfl rfl rfl oM aN oM rfl ?_;intro _ _ H hchk32
 obtain⟨_,_,rfl⟩:=H.accShape (k:=5) rfl
 refine q4 H hd8 (dE 16 Z2 (dF 17 4 Z2 (r1 18 Z (xst 3 H Z8 ?_))));intro _ H
 refine q4 H hd8 (rz (N_K (q2 (aG Z (q3 (W_ret (ret_unlock 3 H muLib Z call88 Z Z (rs:=[.tmp 4]) results54 ?_)))))));intro _ H
 refine⟨[_],⟨Z,trivial⟩,?_⟩
 obtain rfl:x=z5:=Option.some.inj (hsx.symm.trans hz5)
 have H:=H.sel [3,0,4,5,2] rfl
 have H:=H.sel [0,1,2,3,4] rfl
 have hfr:=Sp.sdrop_free hdv hs0
 (rw[←htx.flat]at hfr)
 have hyes:Sp.SnapDrop d name=some _:=Sp.sdrop_eq hdv hai hs0
 have hln:i+(sn.length-(i+1))=(sn.take i++sn.drop (i+1)).length:=by simp;omega
 rw[hln]at H
 have hsd:=All2.del hSn i
 exact H.retM ⟨_,_,_,_,T,_,(sn.take i++sn.drop (i+1)),_,_,L6,congrArg Value.bool (by (rw[hyes];rfl)),rfl,hm6,hS6,hV6,hN,hchk32,(by simpa [List.map_append,List.map_take,List.map_drop] using hNr2),fun d2 h=>(by rw[hyes]at h;cases h;exact⟨hL6 _ (by (rw[←htx.flat];exact hfr)),hT,hsd⟩)⟩
theorem i_SnapDrop1_c (w0:World)(G0:PH)(hG:PSub G0 w0)(db mb:Nat)(es:Array MapEntry)(ck:Nat)(xs:List (Int×Value))(T:Nd)(FT:Fr)(sv:Value)(sn:List (Bs×Nd))(c:List Value)(FSq:Fr)(d:BDisk)(hm:MapIs (Value.int .i64) es ck xs)(hS:StR G0 xs d.store)(hN:NdO 192 136 G0 T FT)(hT:Nd.TOK T d.tree)(hchk:Chk osE 2 G0 c sn)(hNs:NdsO 192 136 G0 (sn.map (·.2)) FSq)(hSn:SnOK sn d.snaps)(hdv:Sp.DiskValid d=true)(cp:Nat)(name:Bs)(hname:name.length≤16777216)(hcp:PRow G0 cp 0 [str name])(hLent:Lent w0 G0 [blk db (cl [.int .i32 0,.int .u32 0,.map (some mb),.pointer (some ⟨T.b,0,none⟩),sv] 141),blk mb (.map es ck),frag FT,acc 145 2 sv sn.length c,frag FSq]) :
  Calls Tryz.prog 53 #[.pointer (some ⟨db,0,none⟩),.pointer (some ⟨cp,0,none⟩)] w0 (RetM w0 G0 (fps [blk db (cl [.int .i32 0,.int .u32 0,.map (some mb),.pointer (some ⟨T.b,0,none⟩),sv] 141),blk mb (.map es ck),frag FT,acc 145 2 sv sn.length c,frag FSq]) (fun G' v Bs=>∃(es':Array MapEntry) (ck':Nat) (xs':List (Int×Value)) (F':Fr) (T':Nd) (sv':Value) (sn':List (Fw.Bs×Nd)) (c':List Value) (FSq':Fr) (L':List BHeld),v= .bool (Sp.SnapDrop d name).isSome∧Bs=[blk db (cl [.int .i32 0,.int .u32 0,.map (some mb),.pointer (some ⟨T'.b,0,none⟩),sv'] 141),blk mb (.map es' ck'),frag F',acc 145 2 sv' sn'.length c',frag FSq']∧MapIs (Value.int .i64) es' ck' xs'∧StR G' xs' L'∧Sp.VH L'∧NdO 192 136 G' T' F'∧Chk osE 2 G' c' sn'∧NdsO 192 136 G' (sn'.map (·.2)) FSq'∧∀d',Sp.SnapDrop d name=some d'→L'=d'.store∧Nd.TOK T' d'.tree∧SnOK sn' d'.snaps)):=by
 have H:Hp w0 G0 (fps [blk db (cl [.int .i32 0,.int .u32 0,.map (some mb),.pointer (some ⟨T.b,0,none⟩),sv] 141),blk mb (.map es ck),frag FT,acc 145 2 sv sn.length c,frag FSq]) w0 G0 [blk db (cl [.int .i32 0,.int .u32 0,.map (some mb),.pointer (some ⟨T.b,0,none⟩),sv] 141),blk mb (.map es ck),frag FT,acc 145 2 sv sn.length c,frag FSq]:=hLent.hp
 obtain⟨_,_,rfl⟩:=H.accShape (k:=3) rfl;have hVd:=Sp.valid_iff.1 (Sp.dv_parts.1 hdv).1;have hTv:=(Sp.dv_parts.1 hdv).2.1;have hTc:=hT.cnt;have hTl:=Sp.tree_len hTv;have hsnl:=hSn.len;have hsn6:=(Sp.dv_parts.1 hdv).2.2.1
 refine calls_of_W (l:=[.pointer (some ⟨db,0,none⟩),.pointer (some ⟨cp,0,none⟩)]) func53 Z ntmps53 Z (q2 (aG Z (q1 (mV Z (lP H hcp 0 Z2 ?_)))))
 have H:=H.tF 4
 have H:=H.tF 4
 have H:=H.tF 4
 have H:=H.tF 4
 have H:=H.tF 4
 refine xc Z2 (i_dropSnap_c _ _ H.sub _ _ _ _ _ _ _ _ _ _ _ _ hm hS hN hT hchk hNs hSn hdv _ hname H.lent5) ?_
 rintro _ _ ⟨_,_,_,rfl,H1',⟨_,_,_,_,_,_,_,_,_,_,rfl,rfl,hm1,hS1,hV1,hN1,hchk1,hNs1,hd1⟩⟩
 have H:=H.borrow5 H1'
 obtain⟨_,_,rfl⟩:=H.accShape (k:=3) rfl
 refine⟨_,Z,?_⟩
 refine aG Z (q3 (W_ret (rt1 results53 Z ?_)))
 have H:=H.sel [0,1,2,3,4] rfl
 exact H.retM ⟨_,_,_,_,_,_,_,_,_,_,Z,Z,hm1,hS1,hV1,hN1,hchk1,hNs1,hd1⟩
theorem i_changed_sdrop_c (w0:World)(G0:PH)(hG:PSub G0 w0)(cd:List Value)(d:BDisk)(hd:diskE G0 d cd)(cp:Nat)(name:Bs)(hname:name.length≤16777216)(hcp:PRow G0 cp 0 [str name]) :
  Calls Tryz.prog 52 #[.agg cd.toArray,.func (.func 53) #[] #[.pointer (some ⟨cp,0,none⟩)]] w0 (RetN w0 G0 (fun v Bs=>∃(v1 v2 v3:Value) (F1 F2 F3:Fr),v= .tuple #[.agg #[v1,v2,v3],.bool (Sp.SnapDrop d name).isSome]∧Bs=[frag F1,frag F2,frag F3]∧OHs F1 v1 ((Sp.SnapDrop d name).getD ⟨[],[],[]⟩).store∧OIs F2 v2 ((Sp.SnapDrop d name).getD ⟨[],[],[]⟩).tree∧OSn F3 v3 ((Sp.SnapDrop d name).getD ⟨[],[],[]⟩).snaps)):=by
 obtain⟨_,_,_,_,_,_,_,_,_,rfl,hr1,hr1',hr1'',⟨_,_⟩,⟨_,_⟩,_,_⟩:=ox hd
 have H:=Hp.init hG
 refine calls_of_W (l:=[_,.func (.func 53) #[] #[.pointer (some ⟨cp,0,none⟩)]]) func52 Z ntmps52 Z (q2 (o_box H Z Z Z ?_));intro _ _ _ H
 refine xal H Z ?_;intro _ _ _ H
 refine aG Z (q1 (lA 1 3 H Z4 (xc Z2 (i_newDisk_c _ _ H.sub _ d ⟨_,_,_,_,_,_,_,_,_,Z,hr1,hr1',hr1''⟩ H.lent0) ?_)))
 rintro _ _ ⟨_,_,_,rfl,H4',⟨rfl,rfl,hnd4⟩|⟨_,_,_,_,_,_,_,_,_,_,_,rfl,rfl,hm4,hS4,hN4,hT4,hchk4,hNs4,hSn4,hdv4⟩⟩
 ·skip
  have H:=H.borrow0 H4'
  refine⟨_,Z,?_⟩
  refine pe 5 Z (q3 (W_seq (q2 (pe 8 Z (q3 (W_true Z (q2 (o_build bf34 Z Z Z (xst 0 H Z8 ?_)))))))));intro _ H
  refine aG Z (q3 (W_ret (N_K_ret (ret_gen (rs:=[.cell 4 34,.tmp 5]) (vs:=[_,_]) results52 ⟨⟨_,Z,load_blk 0 H isAgg34 sizeOf34 Z Z Z⟩,Z,trivial⟩ ?_))))
  have H:=H.dl 0
  have H:=H.dl 0
  have hno:Sp.SnapDrop d name=none:=by (cases hh:Sp.SnapDrop d name with |none=>rfl|some q=>(have hx:=Sp.sdrop_isv hh;rw[hnd4]at hx;cases hx))
  have H:=(((H.addF).addF).addF).forget hG (by simp)
  refine⟨_,_,Z,H,.slice none 0 0,.slice none 0 0,.slice none 0 0,[],[],[],?_,Z,?_,?_,?_⟩
  ·(rw[hno];rfl)
  ·(rw[hno];exact oh_nil)
  ·(rw[hno];exact oi_nil)
  (rw[hno];exact os_nil)
 skip
 have hcp:=hcp.up H4'.le
 have H:=H.borrow0 H4'
 obtain⟨avAd,cvAd,rfl⟩:=H.accShape (k:=3) rfl
 refine⟨_,Z,?_⟩
 refine pe 5 Z (q3 (W_seq (q2 (pe 5 Z (gR Z ?_)))))
 have H:=H.tF 4
 have H:=H.tF 4
 have H:=H.tF 4
 have H:=H.tF 4
 have H:=H.tF 4
 refine o_callc call53 Z Z Z (i_SnapDrop1_c _ _ H.sub _ _ _ _ _ _ _ _ _ _ _ _ hm4 hS4 hN4 hT4 hchk4 hNs4 hSn4 hdv4 _ _ hname hcp H.lent5) ?_
 rintro _ _ ⟨_,_,_,rfl,H6',⟨_,_,_,_,_,_,_,_,_,_,rfl,rfl,hm6,hS6,hV6,hN6,hchk6,hNs6,hd6⟩⟩
 have H:=H.borrow5 H6'
 obtain⟨avAd,cvAd,rfl⟩:=H.accShape (k:=3) rfl
 refine⟨_,Z,?_⟩
 refine pe 2 Z (q3 ?_)
 refine W_cond Z ?_ ?_
 ·intro hc7
  try simp only[nrm]at hc7
  refine q2 (o_build bf34 Z Z Z (xst 5 H Z8 ?_));intro _ H
  refine aG Z (q3 (W_ret (N_K_ret (ret_gen (rs:=[.cell 4 34,.tmp 5]) (vs:=[_,_]) results52 ⟨⟨_,Z,load_blk 5 H isAgg34 sizeOf34 Z Z Z⟩,Z,trivial⟩ ?_))))
  have H:=H.sel [] rfl
  have hno:Sp.SnapDrop d name=none:=by simpa using hc7
  have H:=(((H.addF).addF).addF).forget hG (by simp)
  refine⟨_,_,Z,H,.slice none 0 0,.slice none 0 0,.slice none 0 0,[],[],[],?_,Z,?_,?_,?_⟩
  ·(rw[hno];rfl)
  ·(rw[hno];exact oh_nil)
  ·(rw[hno];exact oi_nil)
  (rw[hno];exact os_nil)
 intro hc7'
 try simp only[nrm]at hc7'
 obtain⟨d2,hd2⟩:=Option.isSome_iff_exists.1 (show(Sp.SnapDrop d name).isSome=true by simpa using hc7')
 obtain⟨hL2,hT2,hsn2⟩:=hd6 d2 hd2;subst hL2
 refine W_skip (N_K (q2 (mV Z ?_)))
 have H:=H.tF 4
 have H:=H.tF 4
 have H:=H.tF 4
 have H:=H.tF 4
 have H:=H.tF 4
 refine xc Z2 (i_disk_c _ _ H.sub _ _ _ _ _ _ _ _ _ _ _ _ hm6 hS6 hN6 hT2 hchk6 hNs6 hsn2 hV6 (Sp.dv_parts.1 (Sp.sdrop_valid hd2)).2.2.1 H.lent5) ?_
 rintro _ _ ⟨_,_,_,rfl,H9',⟨_,_,_,D19,D29,D39,rfl,rfl,ho19,ho29,ho39⟩⟩
 have H:=H.borrow5 H9'
 obtain⟨_,p19⟩:=ho19
 obtain⟨a19,c19,rfl⟩:=OwnS.shape p19
 obtain⟨_,p29⟩:=ho29
 obtain⟨a29,c29,rfl⟩:=OwnS.shape p29
 obtain⟨_,p39⟩:=ho39
 obtain⟨a39,c39,rfl⟩:=OwnS.shape p39
 refine⟨_,Z,?_⟩
 refine xst 3 H Z8 ?_;intro _ H
 refine aG Z (q3 (W_ret (ret_gen (rs:=[.cell 4 34,.tmp 5]) (vs:=[_,_]) results52 ⟨⟨_,Z,load_blk 3 H isAgg34 sizeOf34 Z Z Z⟩,Z,trivial⟩ ?_)))
 have H:=H.sel [0,1,2] rfl
 have H:=H.forget hG (by simp)
 refine⟨_,_,Z,H,.slice a19 d2.store.length c19,.slice a29 d2.tree.length c29,.slice a39 d2.snaps.length c39,D19,D29,D39,?_,Z,?_,?_,?_⟩
 ·(rw[hd2];rfl)
 ·(rw[hd2];exact⟨_,p19⟩)
 ·(rw[hd2];exact⟨_,p29⟩)
 (rw[hd2];exact⟨_,p39⟩)
theorem i_SnapDrop_c (w0:World)(G0:PH)(hG:PSub G0 w0)(cd:List Value)(d:BDisk)(hd:diskE G0 d cd)(name:Bs)(hname:name.length≤16777216) :
  Calls Tryz.prog 19 #[.agg cd.toArray,str name] w0 (RetN w0 G0 (fun v Bs=>∃(v1 v2 v3:Value) (F1 F2 F3:Fr),v= .tuple #[.agg #[v1,v2,v3],.bool (Sp.SnapDrop d name).isSome]∧Bs=[frag F1,frag F2,frag F3]∧OHs F1 v1 ((Sp.SnapDrop d name).getD ⟨[],[],[]⟩).store∧OIs F2 v2 ((Sp.SnapDrop d name).getD ⟨[],[],[]⟩).tree∧OSn F3 v3 ((Sp.SnapDrop d name).getD ⟨[],[],[]⟩).snaps)):=by
 obtain⟨_,_,_,_,_,_,_,_,_,rfl,hr1,hr1',hr1'',⟨_,_⟩,⟨_,_⟩,_,_⟩:=ox hd
 have H:=Hp.init hG
 refine calls_of_W (l:=[_,str name]) func19 Z ntmps19 Z (q2 (o_box H Z Z Z ?_));intro _ _ _ H
 refine o_box H Z Z Z ?_;intro _ _ _ H
 refine xal H Z ?_;intro _ _ _ H
 refine aG Z (q1 (lA 2 3 H Z4 (o_makefn1 Z Z (xc Z2 (i_changed_sdrop_c _ _ (H.lendSubL [1]) _ d ⟨_,_,_,_,_,_,_,_,_,Z,(hr1.up (PPlus.le _ _ _)),(hr1'.up (PPlus.le _ _ _)),(hr1''.up (PPlus.le _ _ _))⟩ _ _ hname (prow_blk (H.lendPredL (k:=1) (ks:=[1]) Z Z))) ?_))))
 rintro _ _ ⟨_,_,rfl,H5',⟨_,_,_,E15,E25,E35,rfl,rfl,ho15,ho25,ho35⟩⟩
 have H:=H.readersL H5'
 obtain⟨_,p15⟩:=ho15
 obtain⟨a15,c15,rfl⟩:=OwnS.shape p15
 obtain⟨_,p25⟩:=ho25
 obtain⟨a25,c25,rfl⟩:=OwnS.shape p25
 obtain⟨_,p35⟩:=ho35
 obtain⟨a35,c35,rfl⟩:=OwnS.shape p35
 refine⟨_,Z,?_⟩
 refine pe 2 Z (xst 3 H Z8 ?_);intro _ H
 refine aG Z (q3 (W_ret (ret_gen (rs:=[.cell 4 34,.tmp 5]) (vs:=[_,_]) results19 ⟨⟨_,Z,load_blk 3 H isAgg34 sizeOf34 Z Z Z⟩,Z,trivial⟩ ?_)))
 have H:=H.sel [0,1,2] rfl
 exact⟨_,_,Z,H,.slice a15 ((Sp.SnapDrop d name).getD ⟨[],[],[]⟩).store.length c15,.slice a25 ((Sp.SnapDrop d name).getD ⟨[],[],[]⟩).tree.length c25,.slice a35 ((Sp.SnapDrop d name).getD ⟨[],[],[]⟩).snaps.length c35,E15,E25,E35,Z,Z,⟨_,p15⟩,⟨_,p25⟩,⟨_,p35⟩⟩
theorem w_sameInts_c (w0:World)(G0:PH)(hG:PSub G0 w0)(va:Value)(a:List (Int))(ha:RdI G0 va a)(vb:Value)(b:List (Int))(hb:RdI G0 vb b)(hab:a=b) :
  Calls Tryz.prog 115 #[va,vb] w0 (Rets w0 (.bool true)):=by
 obtain⟨aa,ka,rfl⟩:=ha.shape
 have hlima:a.length≤1099511627776:=ha.lim
 obtain⟨ab,kb,rfl⟩:=hb.shape
 have hlimb:b.length≤1099511627776:=hb.lim
 have hle:=congrArg List.length hab
 have H:=Hp.init hG
 refine calls_of_W (l:=[.slice aa a.length ka,.slice ab b.length kb]) func115 Z ntmps115 Z (q2 (aG Z (q3 (W_seq (q2 (mV Z (lN Z (mV Z (lN Z (pe 1 Z (q3 ?_)))))))))))
 refine W_cond Z ?_ ?_
 ·intro hc1
  try simp only[nrm]at hc1
  refine q2 (aG Z (q3 (W_ret (N_K_ret (rt1 results115 Z ?_)))))
  exact absurd (show False from by omega) id
 intro hc1'
 try simp only[nrm]at hc1'
 refine W_skip (N_K (W_seq (q2 (aG Z (q3 (W_block ?_))))))
 refine W_lp (hf:=(Sub.cons (t:=0) Z (Sub.cons (t:=1) Z Sub.nil))) (J:=fun M w m=>∃(k:Nat) (G:PH),M=[(5,.int .i64 (k:Int))]∧PLe G0 G∧Hp w0 G0 [] w G []∧(k≤a.length)∧m=(a.length-k)) (h0:=⟨0,_,Z,PLe.refl _,H,?inv,Z⟩) (round:=?round)
 case inv=>omega
 case round =>
  rintro _ _ _ ⟨k,G2,rfl,hle2,H,hinv2,rfl⟩
  have ha:=ha.up hle2
  have hb:=hb.up hle2
  have hk:=hinv2
  refine W_seq (q2 (pe 2 Z (lN Z (pe 1 Z (q3 ?_)))))
  refine W_cond Z ?_ ?_
  ·intro hc3
   try simp only[nrm]at hc3
   refine W_skip (N_K (W_seq (W_block (W_seq (W_drawK [] 9 H kR Z ?_)))));intro _ H;have hd4:=PLe.refl G2
   refine dE 0 Z2 (dE 1 Z2 ?_)
   have hl5:=ha.len
   obtain⟨_,_,_,_,ha5,hz5,hq5,hE5,hrow5,_⟩:=ha.at (i:=k) oM
   clear hq5
   obtain⟨rfl,_⟩:=hE5
   refine dI 2 1 k ha5 Z3 Z (dP 3 hrow5 0 Z3 (dE 4 Z2 (dE 5 Z2 ?_)))
   have hl6:=hb.len
   obtain⟨_,_,_,_,ha6,hz6,hq6,hE6,hrow6,_⟩:=hb.at (i:=k) oM
   clear hq6
   obtain⟨rfl,_⟩:=hE6
   refine dI 6 1 k ha6 Z3 Z (dP 7 hrow6 0 Z3 (dE 8 Z2 (rz (N_K ?_))))
   refine W_cond Z ?_ ?_
   ·intro hc7
    try simp only[nrm]at hc7
    refine q2 (aG Z (q3 (W_ret (N_B_ret (N_K_ret (N_LP_ret (N_B_ret (N_K_ret (rt1 results115 Z ?_)))))))))
    exact absurd (show False from by first|omega|(exact hc7 (Sp.same_at hab hz5 hz6))) id
   intro hc7'
   try simp only[nrm]at hc7'
   refine W_skip (N_B (N_K (W_region (mV Z (aD Z2 (aG Z (R_nil ?_)))))))
   refine N_lp (hJ:=⟨k+1,_,Z,hle2,H,?inv,Z⟩) (hm:=?hm)
   case hm=>omega
   case inv=>omega
  intro hc3'
  try simp only[nrm]at hc3'
  refine W_exit (N_K_exit (N_LP_exit (N_B_same (N_K (q2 (aG Z (q3 (W_ret (rt1 results115 Z ?_)))))))))
  exact H.rets Z
theorem w_sameHeld_c (w0:World)(G0:PH)(hG:PSub G0 w0)(ca:List Value)(a:BHeld)(ha:heldE G0 a ca)(cb:List Value)(b:BHeld)(hb:heldE G0 b cb)(hab:a=b) :
  Calls Tryz.prog 82 #[.agg ca.toArray,.agg cb.toArray] w0 (Rets w0 (.bool true)):=by
 obtain⟨_,_,_,rfl,_,hr1,_,_,_⟩:=ox ha
 obtain⟨_,_,_,rfl,_,hr2,_,_,_⟩:=ox hb
 have H:=Hp.init hG
 refine calls_of_W (l:=[_,_]) func82 Z ntmps82 Z (q2 (o_box H Z Z Z ?_));intro _ _ _ H
 refine o_box H Z Z Z ?_;intro _ _ _ H
 refine aG Z (q1 (fA 0 Z (lB 1 H Z3 (fA 0 Z (lB 0 H Z3 (pe 2 Z ?_))))))
 refine R_case (t:=10) Z ?_ ?_
 ·intro hc5
  try simp only[nrm]at hc5
  refine gR Z (fA 2 Z (gR Z (lB 1 H Z3 (gR Z (fA 2 Z (gR Z (lB 0 H Z3 (pe 3 Z ?_))))))))
  refine R_case (t:=17) Z ?_ ?_
  ·intro hc6
   try simp only[nrm]at hc6
   refine gR Z (fA 1 Z (gR Z (lB 1 H Z3 (gR Z (fA 1 Z (gR Z (lB 0 H Z3 (gR Z (xr H Z2 (w_sameInts_c _ _ H.sub _ _ hr1 _ _ hr2 (congrArg BHeld.bytes hab)) ?_)))))))));intro _ H
   refine pe 2 Z (q3 (W_ret (rt1 results82 Z ?_)))
   exact H.rets Z
  intro hc6'
  try simp only[nrm]at hc6'
  refine pe 7 Z (q3 (W_ret (rt1 results82 Z ?_)))
  exact absurd (show False from by simp[hab]at hc6') id
 intro hc5'
 try simp only[nrm]at hc5'
 refine pe 14 Z (q3 (W_ret (rt1 results82 Z ?_)))
 exact absurd (show False from by simp[hab]at hc5') id
theorem w_sameStore_c (w0:World)(G0:PH)(hG:PSub G0 w0)(va:Value)(a:List (BHeld))(ha:RdH G0 va a)(vb:Value)(b:List (BHeld))(hb:RdH G0 vb b)(hab:a=b) :
  Calls Tryz.prog 49 #[va,vb] w0 (Rets w0 (.bool true)):=by
 obtain⟨aa,ka,rfl⟩:=ha.shape
 have hlima:a.length≤1099511627776:=ha.lim
 obtain⟨ab,kb,rfl⟩:=hb.shape
 have hlimb:b.length≤1099511627776:=hb.lim
 have hle:=congrArg List.length hab
 have H:=Hp.init hG
 refine calls_of_W (l:=[.slice aa a.length ka,.slice ab b.length kb]) func49 Z ntmps49 Z (q2 (aG Z (q3 (W_seq (q2 (mV Z (lN Z (mV Z (lN Z (pe 1 Z (q3 ?_)))))))))))
 refine W_cond Z ?_ ?_
 ·intro hc1
  try simp only[nrm]at hc1
  refine q2 (aG Z (q3 (W_ret (N_K_ret (rt1 results49 Z ?_)))))
  exact absurd (show False from by omega) id
 intro hc1'
 try simp only[nrm]at hc1'
 refine W_skip (N_K (W_seq (q2 (aG Z (q3 (W_block ?_))))))
 refine W_lp (hf:=(Sub.cons (t:=0) Z (Sub.cons (t:=1) Z Sub.nil))) (J:=fun M w m=>∃(k:Nat) (G:PH),M=[(5,.int .i64 (k:Int))]∧PLe G0 G∧Hp w0 G0 [] w G []∧(k≤a.length)∧m=(a.length-k)) (h0:=⟨0,_,Z,PLe.refl _,H,?inv,Z⟩) (round:=?round)
 case inv=>omega
 case round =>
  rintro _ _ _ ⟨k,G2,rfl,hle2,H,hinv2,rfl⟩
  have ha:=ha.up hle2
  have hb:=hb.up hle2
  have hk:=hinv2
  refine W_seq (q2 (pe 2 Z (lN Z (pe 1 Z (q3 ?_)))))
  refine W_cond Z ?_ ?_
  ·intro hc3
   try simp only[nrm]at hc3
   refine W_skip (N_K (W_seq (W_block (W_seq (W_drawK [] 10 H kR Z ?_)))));intro _ H;have hd4:=PLe.refl G2
   refine dE 0 Z2 (dE 1 Z2 ?_)
   have hl5:=ha.len
   obtain⟨_,_,_,_,ha5,hz5,hq5,hE5,hrow5,_⟩:=ha.at (i:=k) oM
   clear hq5
   obtain⟨_,_,_,rfl,_,hr5,_,_,_⟩:=ox hE5
   refine dI 2 3 k ha5 Z3 Z (RD_t 3 Z kR Z (fun _ hK=>v_loadagg_P hK isAgg107 sizeOf107 Z hrow5 Z) (dE 4 Z2 (dE 5 Z2 ?_)))
   have hl6:=hb.len
   obtain⟨_,_,_,_,ha6,hz6,hq6,hE6,hrow6,_⟩:=hb.at (i:=k) oM
   clear hq6
   obtain⟨_,_,_,rfl,_,hr6,_,_,_⟩:=ox hE6
   refine dI 6 3 k ha6 Z3 Z (RD_t 7 Z kR Z (fun _ hK=>v_loadagg_P hK isAgg107 sizeOf107 Z hrow6 Z) (r1 8 Z ?_))
   refine xr H Z2 (w_sameHeld_c _ _ H.sub _ _ ⟨_,_,_,Z,⟨by first|omega|(dsimp only;omega),by first|omega|(dsimp only;omega)⟩,hr5,⟨by first|omega|(dsimp only;omega),by first|omega|(dsimp only;omega)⟩⟩ _ _ ⟨_,_,_,rfl,⟨by first|omega|(dsimp only;omega),by first|omega|(dsimp only;omega)⟩,hr6,⟨by first|omega|(dsimp only;omega),by first|omega|(dsimp only;omega)⟩⟩ (Sp.same_at hab hz5 hz6)) ?_;intro _ H
   refine q4 H hd4 (dE 9 Z2 (rz (N_K (W_false Z (W_skip (N_B (N_K (W_region (mV Z (aD Z2 (aG Z (R_nil ?_))))))))))))
   refine N_lp (hJ:=⟨k+1,_,Z,hle2,H,?inv,Z⟩) (hm:=?hm)
   case hm=>omega
   case inv=>omega
  intro hc3'
  try simp only[nrm]at hc3'
  refine W_exit (N_K_exit (N_LP_exit (N_B_same (N_K (q2 (aG Z (q3 (W_ret (rt1 results49 Z ?_)))))))))
  exact H.rets Z
theorem w_sameItem_c (w0:World)(G0:PH)(hG:PSub G0 w0)(ca:List Value)(a:BItem)(ha:itemE G0 a ca)(cb:List Value)(b:BItem)(hb:itemE G0 b cb)(hab:a=b) :
  Calls Tryz.prog 83 #[.agg ca.toArray,.agg cb.toArray] w0 (Rets w0 (.bool true)):=by
 obtain⟨_,_,_,rfl,_,hr1,_,_⟩:=ox ha
 obtain⟨_,_,_,rfl,_,hr2,_,_⟩:=ox hb
 have H:=Hp.init hG
 refine calls_of_W (l:=[_,_]) func83 Z ntmps83 Z (q2 (o_box H Z Z Z ?_));intro _ _ _ H
 refine o_box H Z Z Z ?_;intro _ _ _ H
 refine aG Z (q1 (fA 0 Z (lB 1 H Z3 (fA 0 Z (lB 0 H Z3 (o_seql Z Z Z (mV Z ?_)))))))
 refine R_case (t:=10) Z ?_ ?_
 ·intro hc5
  try simp only[nrm]at hc5
  refine gR Z (fA 1 Z (gR Z (lB 1 H Z3 (gR Z (fA 1 Z (gR Z (lB 0 H Z3 (gR Z (o_beql underlying4 Z Z Z (pe 2 Z ?_))))))))))
  refine R_case (t:=17) Z ?_ ?_
  ·intro hc6
   try simp only[nrm]at hc6
   refine gR Z (fA 2 Z (gR Z (lB 1 H Z3 (gR Z (fA 2 Z (gR Z (lB 0 H Z3 (gR Z (xr H Z2 (w_sameInts_c _ _ H.sub _ _ hr1 _ _ hr2 (congrArg BItem.ids hab)) ?_)))))))));intro _ H
   refine pe 2 Z (q3 (W_ret (rt1 results83 Z ?_)))
   exact H.rets Z
  intro hc6'
  try simp only[nrm]at hc6'
  refine pe 7 Z (q3 (W_ret (rt1 results83 Z ?_)))
  exact absurd (show False from by simp[hab]at hc6') id
 intro hc5'
 try simp only[nrm]at hc5'
 refine pe 14 Z (q3 (W_ret (rt1 results83 Z ?_)))
 exact absurd (show False from by simp[hab]at hc5') id
theorem w_sameTree_c (w0:World)(G0:PH)(hG:PSub G0 w0)(va:Value)(a:List (BItem))(ha:RdItems G0 va a)(vb:Value)(b:List (BItem))(hb:RdItems G0 vb b)(hab:a=b) :
  Calls Tryz.prog 50 #[va,vb] w0 (Rets w0 (.bool true)):=by
 obtain⟨aa,ka,rfl⟩:=ha.shape
 have hlima:a.length≤1099511627776:=ha.lim
 obtain⟨ab,kb,rfl⟩:=hb.shape
 have hlimb:b.length≤1099511627776:=hb.lim
 have hle:=congrArg List.length hab
 have H:=Hp.init hG
 refine calls_of_W (l:=[.slice aa a.length ka,.slice ab b.length kb]) func50 Z ntmps50 Z (q2 (aG Z (q3 (W_seq (q2 (mV Z (lN Z (mV Z (lN Z (pe 1 Z (q3 ?_)))))))))))
 refine W_cond Z ?_ ?_
 ·intro hc1
  try simp only[nrm]at hc1
  refine q2 (aG Z (q3 (W_ret (N_K_ret (rt1 results50 Z ?_)))))
  exact absurd (show False from by omega) id
 intro hc1'
 try simp only[nrm]at hc1'
 refine W_skip (N_K (W_seq (q2 (aG Z (q3 (W_block ?_))))))
 refine W_lp (hf:=(Sub.cons (t:=0) Z (Sub.cons (t:=1) Z Sub.nil))) (J:=fun M w m=>∃(k:Nat) (G:PH),M=[(5,.int .i64 (k:Int))]∧PLe G0 G∧Hp w0 G0 [] w G []∧(k≤a.length)∧m=(a.length-k)) (h0:=⟨0,_,Z,PLe.refl _,H,?inv,Z⟩) (round:=?round)
 case inv=>omega
 case round =>
  rintro _ _ _ ⟨k,G2,rfl,hle2,H,hinv2,rfl⟩
  have ha:=ha.up hle2
  have hb:=hb.up hle2
  have hk:=hinv2
  refine W_seq (q2 (pe 2 Z (lN Z (pe 1 Z (q3 ?_)))))
  refine W_cond Z ?_ ?_
  ·intro hc3
   try simp only[nrm]at hc3
   refine W_skip (N_K (W_seq (W_block (W_seq (W_drawK [] 10 H kR Z ?_)))));intro _ H;have hd4:=PLe.refl G2
   refine dE 0 Z2 (dE 1 Z2 ?_)
   have hl5:=ha.len
   obtain⟨_,_,_,_,ha5,hz5,hq5,hE5,hrow5,_⟩:=ha.at (i:=k) oM
   clear hq5
   obtain⟨_,_,_,rfl,hi5,hr5,_,_⟩:=ox hE5
   refine dI 2 3 k ha5 Z3 Z (RD_t 3 Z kR Z (fun _ hK=>v_loadagg_P hK isAgg109 sizeOf109 Z hrow5 Z) (dE 4 Z2 (dE 5 Z2 ?_)))
   have hl6:=hb.len
   obtain⟨_,_,_,_,ha6,hz6,hq6,hE6,hrow6,_⟩:=hb.at (i:=k) oM
   clear hq6
   obtain⟨_,_,_,rfl,hi6,hr6,_,_⟩:=ox hE6
   refine dI 6 3 k ha6 Z3 Z (RD_t 7 Z kR Z (fun _ hK=>v_loadagg_P hK isAgg109 sizeOf109 Z hrow6 Z) (r1 8 Z (xr H Z2 (w_sameItem_c _ _ H.sub _ _ ⟨_,_,_,Z,hi5,hr5⟩ _ _ ⟨_,_,_,Z,hi6,hr6⟩ (Sp.same_at hab hz5 hz6)) ?_)));intro _ H
   refine q4 H hd4 (dE 9 Z2 (rz (N_K (W_false Z (W_skip (N_B (N_K (W_region (mV Z (aD Z2 (aG Z (R_nil ?_))))))))))))
   refine N_lp (hJ:=⟨k+1,_,Z,hle2,H,?inv,Z⟩) (hm:=?hm)
   case hm=>omega
   case inv=>omega
  intro hc3'
  try simp only[nrm]at hc3'
  refine W_exit (N_K_exit (N_LP_exit (N_B_same (N_K (q2 (aG Z (q3 (W_ret (rt1 results50 Z ?_)))))))))
  exact H.rets Z
theorem w_sameSnap_c (w0:World)(G0:PH)(hG:PSub G0 w0)(ca:List Value)(a:BSnap)(ha:snapE G0 a ca)(cb:List Value)(b:BSnap)(hb:snapE G0 b cb)(hab:a=b) :
  Calls Tryz.prog 84 #[.agg ca.toArray,.agg cb.toArray] w0 (Rets w0 (.bool true)):=by
 obtain⟨_,_,_,rfl,_,hr1,_,_⟩:=ox ha
 obtain⟨_,_,_,rfl,_,hr2,_,_⟩:=ox hb
 have H:=Hp.init hG
 refine calls_of_W (l:=[_,_]) func84 Z ntmps84 Z (q2 (o_box H Z Z Z ?_));intro _ _ _ H
 refine o_box H Z Z Z ?_;intro _ _ _ H
 refine aG Z (q1 (fA 0 Z (lB 1 H Z3 (fA 0 Z (lB 0 H Z3 (o_seql Z Z Z (mV Z ?_)))))))
 refine R_case (t:=10) Z ?_ ?_
 ·intro hc5
  try simp only[nrm]at hc5
  refine gR Z (fA 1 Z (gR Z (lB 1 H Z3 (gR Z (fA 1 Z (gR Z (lB 0 H Z3 (gR Z (xr H Z2 (w_sameTree_c _ _ H.sub _ _ hr1 _ _ hr2 (congrArg BSnap.tree hab)) ?_)))))))));intro _ H
  refine pe 2 Z (q3 (W_ret (rt1 results84 Z ?_)))
  exact H.rets Z
 intro hc5'
 try simp only[nrm]at hc5'
 refine pe 7 Z (q3 (W_ret (rt1 results84 Z ?_)))
 exact absurd (show False from by simp[hab]at hc5') id
theorem w_sameSnaps_c (w0:World)(G0:PH)(hG:PSub G0 w0)(va:Value)(a:List (BSnap))(ha:RdSn G0 va a)(vb:Value)(b:List (BSnap))(hb:RdSn G0 vb b)(hab:a=b) :
  Calls Tryz.prog 51 #[va,vb] w0 (Rets w0 (.bool true)):=by
 obtain⟨aa,ka,rfl⟩:=ha.shape
 have hlima:a.length≤1099511627776:=ha.lim
 obtain⟨ab,kb,rfl⟩:=hb.shape
 have hlimb:b.length≤1099511627776:=hb.lim
 have hle:=congrArg List.length hab
 have H:=Hp.init hG
 refine calls_of_W (l:=[.slice aa a.length ka,.slice ab b.length kb]) func51 Z ntmps51 Z (q2 (aG Z (q3 (W_seq (q2 (mV Z (lN Z (mV Z (lN Z (pe 1 Z (q3 ?_)))))))))))
 refine W_cond Z ?_ ?_
 ·intro hc1
  try simp only[nrm]at hc1
  refine q2 (aG Z (q3 (W_ret (N_K_ret (rt1 results51 Z ?_)))))
  exact absurd (show False from by omega) id
 intro hc1'
 try simp only[nrm]at hc1'
 refine W_skip (N_K (W_seq (q2 (aG Z (q3 (W_block ?_))))))
 refine W_lp (hf:=(Sub.cons (t:=0) Z (Sub.cons (t:=1) Z Sub.nil))) (J:=fun M w m=>∃(k:Nat) (G:PH),M=[(5,.int .i64 (k:Int))]∧PLe G0 G∧Hp w0 G0 [] w G []∧(k≤a.length)∧m=(a.length-k)) (h0:=⟨0,_,Z,PLe.refl _,H,?inv,Z⟩) (round:=?round)
 case inv=>omega
 case round =>
  rintro _ _ _ ⟨k,G2,rfl,hle2,H,hinv2,rfl⟩
  have ha:=ha.up hle2
  have hb:=hb.up hle2
  have hk:=hinv2
  refine W_seq (q2 (pe 2 Z (lN Z (pe 1 Z (q3 ?_)))))
  refine W_cond Z ?_ ?_
  ·intro hc3
   try simp only[nrm]at hc3
   refine W_skip (N_K (W_seq (W_block (W_seq (W_drawK [] 10 H kR Z ?_)))));intro _ H;have hd4:=PLe.refl G2
   refine dE 0 Z2 (dE 1 Z2 ?_)
   have hl5:=ha.len
   obtain⟨_,_,_,_,ha5,hz5,hq5,hE5,hrow5,_⟩:=ha.at (i:=k) oM
   clear hq5
   obtain⟨_,_,_,rfl,hi5,hr5,_,_⟩:=ox hE5
   refine dI 2 2 k ha5 Z3 Z (RD_t 3 Z kR Z (fun _ hK=>v_loadagg_P hK isAgg106 sizeOf106 Z hrow5 Z) (dE 4 Z2 (dE 5 Z2 ?_)))
   have hl6:=hb.len
   obtain⟨_,_,_,_,ha6,hz6,hq6,hE6,hrow6,_⟩:=hb.at (i:=k) oM
   clear hq6
   obtain⟨_,_,_,rfl,hi6,hr6,_,_⟩:=ox hE6
   refine dI 6 2 k ha6 Z3 Z (RD_t 7 Z kR Z (fun _ hK=>v_loadagg_P hK isAgg106 sizeOf106 Z hrow6 Z) (r1 8 Z (xr H Z2 (w_sameSnap_c _ _ H.sub _ _ ⟨_,_,_,Z,hi5,hr5⟩ _ _ ⟨_,_,_,Z,hi6,hr6⟩ (Sp.same_at hab hz5 hz6)) ?_)));intro _ H
   refine q4 H hd4 (dE 9 Z2 (rz (N_K (W_false Z (W_skip (N_B (N_K (W_region (mV Z (aD Z2 (aG Z (R_nil ?_))))))))))))
   refine N_lp (hJ:=⟨k+1,_,Z,hle2,H,?inv,Z⟩) (hm:=?hm)
   case hm=>omega
   case inv=>omega
  intro hc3'
  try simp only[nrm]at hc3'
  refine W_exit (N_K_exit (N_LP_exit (N_B_same (N_K (q2 (aG Z (q3 (W_ret (rt1 results51 Z ?_)))))))))
  exact H.rets Z
theorem w_sameDisk_c (w0:World)(G0:PH)(hG:PSub G0 w0)(ca:List Value)(a:BDisk)(ha:diskE G0 a ca)(cb:List Value)(b:BDisk)(hb:diskE G0 b cb)(hab:a=b) :
  Calls Tryz.prog 18 #[.agg ca.toArray,.agg cb.toArray] w0 (Rets w0 (.bool true)):=by
 obtain⟨_,_,_,_,_,_,_,_,_,rfl,hr1,hr1',hr1'',⟨_,_⟩,⟨_,_⟩,_,_⟩:=ox ha
 obtain⟨_,_,_,_,_,_,_,_,_,rfl,hr2,hr2',hr2'',⟨_,_⟩,⟨_,_⟩,_,_⟩:=ox hb
 have H:=Hp.init hG
 refine calls_of_W (l:=[_,_]) func18 Z ntmps18 Z (q2 (o_box H Z Z Z ?_));intro _ _ _ H
 refine o_box H Z Z Z ?_;intro _ _ _ H
 refine aG Z (q1 (fA 0 Z (lB 1 H Z3 (fA 0 Z (lB 0 H Z3 (xr H Z2 (w_sameStore_c _ _ H.sub _ _ hr1 _ _ hr2 (congrArg BDisk.store hab)) ?_))))));intro _ H
 refine mV Z (gR Z (fA 1 Z (gR Z (lB 1 H Z3 (gR Z (fA 1 Z (gR Z (lB 0 H Z3 (gR Z (xr H Z2 (w_sameTree_c _ _ H.sub _ _ hr1' _ _ hr2' (congrArg BDisk.tree hab)) ?_))))))))));intro _ H
 refine pe 2 Z (gR Z (fA 2 Z (gR Z (lB 1 H Z3 (gR Z (fA 2 Z (gR Z (lB 0 H Z3 (gR Z (xr H Z2 (w_sameSnaps_c _ _ H.sub _ _ hr1'' _ _ hr2'' (congrArg BDisk.snaps hab)) ?_))))))))));intro _ H
 refine pe 2 Z (q3 (W_ret (rt1 results18 Z ?_)))
 exact H.rets Z
end Go.Proofs.Tst
namespace Go.Proofs.Tst
open Go Fw Go.Proofs Go.Sort Go.Shelf Go.RowKit Go.Lib Tryz
theorem drew_new {W:World}{x y z:Obj}:(((W.alloc x).alloc y).alloc z).drew.heap[W.heap.size+1+1]? = some z:=by
 have h:=alloc_new ((W.alloc x).alloc y) z
 rw[World.size_alloc,World.size_alloc]at h
 exact h
theorem bsB (s:Bs):((⟨s.toArray⟩:ByteArray)==⟨s.toArray⟩)=true:=by simp[MapKept.bytes_beq]
theorem keyA:KeyA Tryz.prog 55 keyH:=by
 refine keyA_of ⟨_,underlying55,fun a b=>Z⟩ ?_ ?_ ?_
 ·intro a b w
  have hS:Tryz.prog.underlying 55=some (.struct (Tryz.prog.fieldsOf 55)):=by kernel_rfl
  have hH:Tryz.prog.stoodInHeld 55=false:=by kernel_rfl
  unfold Op.equal keyH Op.maxDepth
  rw[run_equalIn_agg _ _ _ _ _ hS hH]
  simp only[Program.fieldsOf,underlying55]
  simp[encH,str,Op.eqFields,go_sem,part,isAgg9,run_equalIn_string _ _ _ _ _ underlying9]
  cases a;cases b
  simp
  split<;>simp_all
  split<;>simp_all
 ·intro a
  show(_&&_)=true
  simp[encH,str,Instr.sameBits,bsB]
 intro e a w
 have hk:∀(s:Bs) w,(Instr.checkKey e 9999 9 (.string ⟨s.toArray⟩)).run Tryz.prog w= .ok () w:=fun s w=>MapKept.run_checkKey (n:=9998) underlying9 (show MapKept.IsKey .string (.string ⟨s.toArray⟩) from trivial) e
 unfold keyH
 rw[Instr.checkKey]
 simp only[Sem.run_bind,run_underlying underlying55,Result.andThen_ok]
 simp[encH,str,part,isAgg9,hk,forIn]
theorem eqH (w:World)(a b:BHold):(binOp .eql 55 (keyH a) (keyH b)).run Tryz.prog w= .ok (.bool (decide (a=b))) w:=by
 have hS:Tryz.prog.underlying 55=some (.struct (Tryz.prog.fieldsOf 55)):=by kernel_rfl
 have hH:Tryz.prog.stoodInHeld 55=false:=by kernel_rfl
 unfold keyH
 rw[run_eql_struct,run_equalIn_agg _ _ _ _ _ hS hH]
 simp only[Program.fieldsOf,underlying55]
 simp[encH,str,Op.eqFields,go_sem,part,isAgg9,run_equalIn_string _ _ _ _ _ underlying9]
 cases a;cases b
 simp
 split<;>simp_all
 split<;>simp_all
theorem v_eqH {n:Nat}{L:Slots}{ds:List Deferred}{w:World}{d:Nat}{x y:Operand}{u ty:TypeId}{ps:String}{af:Array Edge}{a b:BHold}(hx:od L x=some (keyH a))(hy:od L y=some (keyH b)) :
  VAL Tryz.prog n L ds w ⟨some d,.binOp .eql 55 x y u,ty,ps,af,none⟩ (.bool (decide (a=b))):=fun c hc=>by
 have hm:Tryz.prog.eqGuardType Tryz.prog.depth 55=false:=by kernel_rfl
 have:=eqH w a b
 unfold keyH at this hx hy
 simp[execOp,hc.eval hx,hc.eval hy,run_eqGuard_agg _ _ _ _ _ _ _ hm,this]
theorem nanH_c (x : ByteArray) (W : World) : Calls Tryz.prog 127 #[.string x] W fun e w' => e = .returned (.bool false) ∧ w' = W := by
 go_enter func127,ntmps127
 go_wp2
 go_ret
 exact⟨by simp,rfl⟩
theorem cmpT_1 {x y:Bs}(h:Op.bytesLess x y=true):cmpS x y= -1:=by simp[cmpS,h]
theorem cmpT_2 {x y:Bs}(h:Op.bytesLess x y=false)(h2:(!x==y)=true):cmpS x y=1:=by
 have h3:Op.bytesLess y x=true:=by
  rcases Sp.lt_total x y with g|g|g
  ·have g:Op.bytesLess x y=true:=g
   rw[h]at g;cases g
  ·subst g;simp at h2
  exact g
 simp[cmpS,h,h3]
theorem cmpT_3 {x y:Bs}(h:Op.bytesLess x y=false)(h2:(!x==y)=false):cmpS x y=0:=by
 have e:x=y:=by simpa using h2
 subst e
 simp[cmpS,h]
theorem cmpT_c (x y : Bs) (W : World) : Calls Tryz.prog 94 #[str x, str y] W fun e w' => e = .returned (.int .i64 (cmpS x y)) ∧ w' = W := by
 unfold str
 have hg:∀w,(binOp .gtr 9 (.string ⟨x.toArray⟩) (.string ⟨y.toArray⟩)).run Tryz.prog w= .ok (.bool (!(Op.bytesLess x y||x==y))) w:=by
  intro w
  simp[binOp,Op.stringOp,eqGuard_at_string]
 go_enter func94,ntmps94
 go_wp2_with (go_at_call 127;refine(nanH_c _ _).mono ?_;rintro e w' ⟨rfl,rfl⟩)
 all_goals (go_ret;exact⟨by first|(rw[cmpT_1 (by assumption)];rfl)|(rw[cmpT_2 (by assumption) (by assumption)];rfl)|(rw[cmpT_3 (by assumption) (by assumption)];rfl),rfl⟩)
theorem orI_c (a b : Int) (blk cap : Nat) (W : World) (hb : W.heap[blk]? = some (.cells #[.int .i64 a, .int .i64 b] 3 (0, 0))) : Calls Tryz.prog 93 #[.slice (some ⟨blk, 0, none⟩) 2 cap] W fun e w' => e = .returned (.int .i64 (if a = 0 then b else a)) ∧ w' = W := by
 have hc : ∀ k, k < 2 → W.cell? ⟨blk, 0 + k * 1, none⟩ = some (.int .i64 (if k = 0 then a else b)) := fun k hk => by
  simp only[World.cell?,hb]
  match k,hk with
  | 0,_=>simp
  | 1,_=>simp
 refine calls_of_W (l:=[.slice (some ⟨blk,0,none⟩) 2 cap]) func93 Z ntmps93 Z (q2 (aG Z (q1 (aG Z (q3 (W_seq (q2 (mV Z (o_len_slice underlying92 Z Z (mV Z (q3 (W_block ?_))))))))))))
 refine W_lp (hf:=(Sub.cons (t:=3) Z (Sub.cons (t:=6) Z (Sub.cons (t:=7) Z Sub.nil)))) (J:=fun M w m=>∃k:Nat,M=[(8,.int .i64 (k:Int))]∧k≤2∧w=W∧(0<k→a=0)∧(1<k→b=0)∧m=2-k) (h0:=⟨0,Z,by omega,rfl,by omega,by omega,rfl⟩) (round:=?round)
 case round =>
  rintro _ w1 _ ⟨k,rfl,hk,rfl,h1,h2,rfl⟩
  refine q2 (o_lss Z Z Z (q3 (W_seq ?_)))
  refine W_cond Z ?_ ?_
  ·intro hc2
   have hlt:k<2:=by simp only[decide_eq_true_eq]at hc2;omega
   refine W_skip (N_K (W_seq (W_block (q2 (o_index (i:=k) underlying92 sizeOf3 Z Z Z Z hlt (o_load_c isAgg3 Z Z (hc k hlt) (aG Z (q1 (mV Z (mV Z (o_neq Z Z Z (q3 ?_))))))))))))
   refine W_cond Z ?_ ?_
   ·intro hc3
    refine q2 (mV Z (aG Z (q3 (W_ret (N_B_ret (N_K_ret (N_LP_ret (N_B_ret (N_K_ret (rt1 results93 Z ?_))))))))))
    refine⟨congrArg (fun x=>Ending.returned (.int .i64 x)) ?_,Z⟩
    have:(if k=0 then a else b)≠0:=by simpa using hc3
    by_cases h:k=0
    ·rw[if_pos h]at this ⊢;rw[if_neg this]
    rw[if_neg h,if_pos (h1 oM)]
   intro hc3
   have h0:(if k=0 then a else b)=0:=by simpa using hc3
   refine W_skip (N_B (N_K (W_region (o_add Z Z Z oO (mV Z (R_nil ?_))))))
   refine N_lp (hJ:=⟨k+1,Z,by omega,rfl,?a0,?b0,rfl⟩) (hm:=?hm)
   case hm=>omega
   case a0 =>
    intro _
    by_cases h:k=0
    ·rwa [if_pos h]at h0
    exact h1 oM
   case b0 =>
    intro h
    rwa [if_neg oM]at h0
  intro hc2
  have hge:2≤k:=by simp only[decide_eq_false_iff_not]at hc2;omega
  refine W_exit (N_K_exit (N_LP_exit (N_B_same (N_K (q2 (mV Z (aG Z (q3 (W_ret (rt1 results93 Z ?_))))))))))
  rw[h1 oM,h2 oM]
  exact⟨Z,Z⟩
theorem orderH_y (p q r s : ByteArray) (m n : Int) (z : Int) (h3 : ∀ blk cap W, W.heap[blk]? = some (.cells #[.int .i64 m, .int .i64 n] 3 (0, 0)) → Calls Tryz.prog 93 #[.slice (some ⟨blk, 0, none⟩) 2 cap] W fun e w' => e = .returned (.int .i64 z) ∧ w' = W) (W : World) (h1 : ∀ W, Calls Tryz.prog 94 #[.string p, .string r] W fun e w' => e = .returned (.int .i64 m) ∧ w' = W) (h2 : ∀ W, Calls Tryz.prog 94 #[.string q, .string s] W fun e w' => e = .returned (.int .i64 n) ∧ w' = W) :
  Calls Tryz.prog 57 #[.agg #[.string p,.string q],.agg #[.string r,.string s]] W fun e w'=>e= .returned (.int .i64 z)∧∃q os',w'=grow (W.drewN q) os':=by
 go_enter func57,ntmps57
 go_wp2
 go_region_held (fun w' => w'.cell? ⟨W.heap.size, 0, none⟩ = some (.string p) ∧ w'.cell? ⟨W.heap.size + 1, 0, none⟩ = some (.string r) ∧ w'.cell? ⟨W.heap.size, 1, none⟩ = some (.string q) ∧ w'.cell? ⟨W.heap.size + 1, 1, none⟩ = some (.string s)) (go_keep)
  (first
  | (go_at_call 94;first|(with_reducible refine(h1 _).mono ?_;rintro e w' ⟨rfl,rfl⟩)|(with_reducible refine(h2 _).mono ?_;rintro e w' ⟨rfl,rfl⟩))
  | (go_at_call 93;refine(h3 _ _ _ drew_new).mono ?_;rintro e w' ⟨rfl,rfl⟩))
 all_goals (go_wp2;go_ret;exact⟨rfl,1,_,by rw[alloc_eq_grow,alloc_eq_grow,alloc_eq_grow];simp[grow_grow];rfl⟩)
theorem orderH_x (p q r s : Bs) (W : World) : Calls Tryz.prog 57 #[.agg #[.string ⟨p.toArray⟩, .string ⟨q.toArray⟩], .agg #[.string ⟨r.toArray⟩, .string ⟨s.toArray⟩]] W fun e w' => e = .returned (.int .i64 (if cmpS p r = 0 then cmpS q s else cmpS p r)) ∧ ∃ q os', w' = grow (W.drewN q) os' :=
 orderH_y _ _ _ _ (cmpS p r) (cmpS q s) _ (fun blk cap W h=>orI_c _ _ blk cap W h) W (fun W=>cmpT_c p r W) (fun W=>cmpT_c q s W)
theorem layH_c (blk off size:Nat)(w:World):CmpLays Tryz.prog 57 #[] encH 2 cmpH blk off size w :=
 fun _ _ _ _ x y=>orderH_x x.snap x.tag y.snap y.tag _
theorem orderH_c (w0:World)(x y:BHold):Calls Tryz.prog 57 #[keyH x,keyH y] w0 (Rets w0 (.int .i64 (cmpH x y))) :=
 (orderH_x x.snap x.tag y.snap y.tag w0).mono fun e w' ⟨h1, q, os', h2⟩ => ⟨h1, by
  subst h2
  exact⟨rfl,rfl,rfl,by simp[grow],fun k hk=>heap_grow_old _ _ hk⟩⟩
theorem sortFH_c {w0 w:World}{G0 G:PH}{S:List Nat}{B:List Res}{e:TypeId}{v:Value}{n:Nat}{ys:List BHold}(H:Hp w0 G0 S w G (acc e 2 v n (flatH ys)::B))(hn:ys.length=n)(hl:ys.length≤1000) :
  Calls Tryz.prog 125 #[v,.func (.func 57) #[] #[]] w fun r w'=>r= .returned (.tuple #[])∧∃(zs:List BHold),Hp w0 G0 S w' G (acc e 2 v n (flatH zs)::B)∧zs.Perm ys∧zs.Pairwise (fun a b=>Sp.l31Before b a=false):=by
 have h0:=(H.own _ (List.mem_cons_self ..)).1
 obtain⟨_,h2⟩:=h0
 rcases h2 with ⟨rfl,hn0⟩|⟨b,cap,C,rfl,h3,_,_,_,_⟩
 ·refine(AnyF.slices_SortFunc_none {Tryz.sortFH with} none 0 _ w).mono ?_
  rintro r w' ⟨rfl,rfl⟩
  obtain rfl:ys=[]:=List.eq_nil_of_length_eq_zero oM
  exact⟨Z,_,H,List.Perm.refl _,List.Pairwise.nil⟩
 obtain⟨hH,hb⟩:=accH_holds H hn
 have eg:∀args w,(callFunc 57 args).run Tryz.prog w= .ok (.enter 57 args) w:=enters_of func57 kR rfl
 have hcon:=AnyQ.slices_SortFunc Tryz.sortFH 2 isAgg55 sizeOf55 encH (fun _=>rfl) (fun x v hv=>by simp[encH,str]at hv;rcases hv with rfl|rfl<;>rfl) cmpH swoH 57 #[] b 0 cap ys.toArray w eg (layH_c b 0 _ w) hH hb (by simp;omega)
 have hsz:ys.toArray.size=n:=by simpa using hn
 rw[hsz]at hcon
 refine Calls.mono (show Calls Tryz.prog 125 _ _ _ from hcon) ?_
 rintro r w' ⟨rfl,d',m,os,hp,hs,rfl⟩
 obtain⟨k1,k2⟩:=sorted_asc (xs:=ys) (by rw[hsz];exact hp) (by rw[hsz];exact hs)
 have hd:d'.size=n:=by rw[hp.1];exact hsz
 exact⟨Z,_,H.sortedH hn hd,k1,k2⟩
theorem keysH_c (w0 : World) (b : Nat) : Calls Tryz.prog 92 #[.map (some b)] w0 (fun e w' => ∃ kb, e = .returned (.func (.func 126) #[] #[.pointer (some ⟨kb, 0, none⟩)]) ∧ Ext w0 w' ∧ w'.heap[kb]? = some (cl [.map (some b)] 84)) := by
 have H:=Hp.init0 w0
 refine calls_of_W (l:=[.map (some b)]) func92 Z ntmps92 Z (q2 (o_box H Z Z Z ?_));intro b1 w1 hb1 H
 refine aG Z (q1 (o_makefn1 Z Z (aG Z (q3 (W_ret (rt1 results92 Z ?_))))))
 exact⟨b1,Z,H.toExt,(H.own _ (List.mem_cons_self ..)).1⟩
theorem itH_c (w0:World)(G0:PH)(hG:PSub G0 w0)(l kb b:Nat)(es:Array MapEntry)(ck:Nat)(M:List BHold)(hA:PRow G0 kb 0 [.map (some b)])(hb:MapAt G0 b es ck)(hm:IsSet es ck M)(J Jx:List BHold→World→Prop)(hJ:AbidesFrom w0.heap.size J)
  (hY:∀(pre:List BHold) (x:BHold) (W1:World),J pre W1→pre.length<M.length→YieldAt (wideF none) 1 Tryz.prog l #[keyH x] W1 fun e W'=>(e= .returned (.bool true)∧J (pre++[x]) W'∧KpW G0 W1 W')∨(e= .returned (.bool false)∧Jx (pre++[x]) W')) (hJ0:J [] w0) :
  Calls Tryz.prog 126 #[.func (.yield l) #[] #[],.pointer (some ⟨kb,0,none⟩)] w0 (fun e W'=>(∃v,e= .returned v)∧((∃xs,List.Perm xs M∧J xs W')∨(∃pre:List BHold,True∧Jx pre W'))):=by
 have H:=Hp.init hG
 have hnd:=hm.nd
 refine calls_of_W (l:=[.func (.yield l) #[] #[],.pointer (some ⟨kb,0,none⟩)]) func126 Z ntmps126 Z (q2 (o_load_P H isAgg84 Z Z (hA 0 _ Z) (o_range H (hb.at H.sub) underlying84 Z Z ?_)));intro r w1 hr H _
 refine q3 ?_
 have hrw:w0.heap.size≤r:=hr
 have hGr:G0 r=none:=by
  cases e:G0 r with
  | none=>rfl
  | some o=>have:=hG.lt e;omega
 have hne:r≠b:=fun e=>by rw[e,hb]at hGr;cases hGr
 have hJ1:J [] w1:=hJ _ w0 w1 none hJ0 (grown_of_ext H.toExt) (fun r e=>by cases e)
 have hr1:=H.at (k:=0) rfl
 have hS1:=H.sub
 refine W_block ?_
 refine W_lp (hf:=(Sub.cons (t:=0) Z (Sub.cons (t:=5) Z Sub.nil))) (J:=fun Z w m=>∃(seen:Array Nat) (pre:List BHold),Z=[]∧PSub G0 w∧w.heap[r]? = some (.mapIter (some b) ck seen ck)∧(∀c,c ∈ pre↔seenK keyH es seen c)∧pre.Nodup∧(∀c,c ∈ pre→c ∈ M)∧J pre w∧m=(leftOf es seen).size) (h0:=⟨#[],[],Z,hS1,hr1,?inv,List.nodup_nil,fun _ h=>by simp at h,hJ1,rfl⟩) (round:=?round)
 case inv =>
  intro c
  refine⟨fun h=>by simp at h,?_⟩
  rintro⟨e,_,_,he⟩
  simp at he
 case round =>
  rintro _ w2 _ ⟨seen,pre,rfl,hS2,hr2,hp,hpn,hps,hJp,rfl⟩
  have H:=Hp.initM hS2 hr2 hGr
  refine q2 ?_
  refine o_nextK keyH_inj 0 H (hb.at H.sub) hm Z hne Z Z ?_ ?_
  ·intro hall
   refine o_extract Z Z Z (q3 (W_seq (W_false Z (W_exit (N_K_exit (N_LP_exit (N_B_same (end_gen (rs:=[]) (vs:=[]) results126 trivial ?_))))))))
   rw[uH_keys]at hall
   exact⟨⟨_,Z⟩,.inl ⟨pre,keys_perm hpn hnd hps (fun c hc=>(hp c).2 (hall c hc)),hJp⟩⟩
  intro e a w3 he hk haM hns hseen hb3 hless H
  rw[uH_keys]at haM
  have hcs:=come_step hp hpn hns hseen
  have hna:a ∉ pre:=fun h=>hns ((hp a).1 h)
  have hlen:pre.length<M.length:=by
   have:=len_sub (l:=a::pre) (M:=M) (List.nodup_cons.2 ⟨hna,hpn⟩) (fun c hc=>by (rcases List.mem_cons.1 hc with rfl|hc;· exact haM);exact hps c hc)
   simp at this
   omega
  refine o_extract Z Z Z (q3 (W_seq (W_true Z (W_skip (N_K (W_block (q2 (o_entryK 0 H hb3 hm Z he hk Z Z (o_extract Z Z Z (o_alloc H zeroValue55 Z Z ?_))))))))));intro b4 w4 hb4 H
  refine o_store_B 0 H sizeOf55 Z Z Z Z Z Z Z Z ?_;intro w5 H
  refine q3 (W_seq (W_regionI (RI_l Z (mV Z (RI_b (RI_l Z (o_loadagg_B 0 H isAgg55 sizeOf55 Z Z Z Z Z (RI_b ?_))))))))
  have hJw:=hJ _ w2 w5 (some r) hJp H.grownR (fun q e=>by cases e;exact⟨hrw,_,hr2,rfl⟩)
  have hr5:=H.at (k:=1) rfl
  refine o_yield (m:=3) Z Z Z (yieldAny (hY pre a _ hJw hlen)) ?_;rintro _ w9 (⟨rfl,hJn,hKn⟩|⟨rfl,hJn⟩)
  ·refine⟨_,Z,?_⟩
   refine RI_l Z (o_not Z Z (RI_b (RI_nil (N_K (W_false Z (W_skip (N_B ?_)))))))
   refine N_lp (hJ:=⟨seen.push e.born,pre++[a],Z,hKn.1 H.sub,hKn.2.same _ _ hr5 Z,hcs.1,hcs.2,?hs,hJn,Z⟩) (hm:=?hm)
   case hm=>exact hless
   case hs=>intro c hc;(rcases List.mem_append.1 hc with hc|hc;· exact hps c hc);rw[List.mem_singleton.1 hc];exact haM
  refine⟨_,Z,?_⟩
  refine RI_l Z (o_not Z Z (RI_b (RI_nil (N_K (W_true Z (W_ret (N_B_ret (N_LP_ret (N_B_ret (ret_gen (rs:=[]) (vs:=[]) results126 trivial ?_))))))))))
  exact⟨⟨_,Z⟩,.inr ⟨_,trivial,hJn⟩⟩
theorem appH_c (w0:World)(kb b:Nat)(es:Array MapEntry)(ck:Nat)(M:List BHold)(hkb:w0.heap[kb]? = some (cl [.map (some b)] 84))(hb:w0.heap[b]? = some (.map es ck))(hm:IsSet es ck M)(hl:M.length≤1000) :
  Calls Tryz.prog 161 #[.slice none 0 0,.func (.func 126) #[] #[.pointer (some ⟨kb,0,none⟩)]] w0 (fun e w'=>∃v s,e= .returned v∧Ext w0 w'∧(acc 55 2 v s.length (flatH s)).pred (fun b=>w'.heap[b]?)∧(∀c,c ∈ (acc 55 2 v s.length (flatH s)).fp→w0.heap.size≤c)∧s.Perm M):=by
 obtain⟨G0,hG0⟩:∃G0:PH,G0=fun c=>if c=kb then some (cl [.map (some b)] 84) else if c=b then some (.map es ck) else none:=⟨_,rfl⟩
 have hG:PSub G0 w0:=by
  intro c o hc
  rw[hG0]at hc
  dsimp only at hc
  split at hc
  ·rename_i e;rw[e,hkb];exact hc
  split at hc
  ·rename_i e;rw[e,hb];exact hc
  cases hc
 have hA:PRow G0 kb 0 [.map (some b)]:=prow_blk (e:=84) (by show G0 kb=_;rw[hG0];dsimp only;rw[if_pos rfl])
 have hMb:MapAt G0 b es ck:=by
  unfold MapAt
  rw[hG0]
  dsimp only
  rw[if_neg (fun e=>by rw[e,hkb]at hb;cases hb),if_pos rfl]
 have H:=Hp.init hG
 refine calls_of_WM (l:=[.slice none 0 0,.func (.func 126) #[] #[.pointer (some ⟨kb,0,none⟩)]]) func161 Z ntmps161 Z (q2 (o_box H Z Z Z ?_));intro b1 w1 hb1 H
 refine aG Z (q3 (W_seq (q2 (mV Z (q3 (W_block ?_))))))
 have H:=(H.addNil 55 2).swap0
 have hGw:=H.sub
 have hszw:=H.size
 refine W_collect (E:=rawE) (q:=5) (enc:=keyH) (M:=M.length) (Sx:=fun xs=>xs.Perm M) H Chk.nil Z call126 Z (fun l J Jx W hW hJ hJx hY h0=>callsIn_wide.2 (itH_c W G0 (psub_below hGw hW) l kb b es ck M hA hMb hm J Jx hJ (fun pre x W1 h1 h2=>hY pre x W1 h1 h2) h0)) ?_ ?_ ?_
 ·intro r m x W Qa hQ nx a ha
  refine WI_region (n:=13) hQ Z ha ?_
  have H:=Hp.init0 W
  refine o_alloc H zeroValue55 Z Z ?_;intro b1 w1 hb1 H
  refine o_store_B 0 H sizeOf55 Z Z Z Z Z Z Z Z ?_;intro w2 H
  refine R_nil ?_
  exact nx _ _ H
 ·intro r m x pre W v cs bx Qb hlen hQ hc H nx a ha
  refine wpIn_block (WI_region (n:=13) (fun⟨a,w,h⟩=>hQ ⟨a,w,h⟩) Z ha ?_)
  have hv:vc (keyH x)=encH x:=rfl
  rw[hv]at H nx
  unfold encH at H nx
  obtain⟨av,cv,rfl⟩:=H.accShape (k:=2) rfl
  refine o_load_B 1 H isAgg38 Z Z Z Z (o_loadagg_B (b:=bx) (o:=0) 0 H isAgg55 sizeOf55 Z Z Z Z Z (o_buildSlice H underlying38 sizeOf55 (fun w=>⟨_,zeroValue55 w,Z⟩) Z Z Z Z Z Z Z ?_));intro b4 w4 hb4 H
  refine o_append1 2 H (sz:=2) (bytes:=32) underlying38 typeInfo55 ⟨_,Z,Z⟩ Z Z Z Z Z Z Z Z Z Z oM Z ?_;intro v5 w5 H
  have hchk:=hc.snoc (show rawE _ x _ from rfl) rfl
  obtain⟨av5,cv5,rfl⟩:=H.accShape (k:=2) rfl
  refine o_store_B 1 H sizeOf38 Z Z Z Z Z Z Z Z ?_;intro w6 H
  refine R_nil (N_B ?_)
  have H:=H.del (k:=0) rfl
  exact nx _ _ _ _ H hchk
 intro D xs W v cs hxs H hc hD hK
 obtain⟨av,cv,rfl⟩:=H.accShape (k:=1) rfl
 refine N_B (N_K (q2 (o_load_B 0 H isAgg38 Z Z Z Z (aG Z (q3 (W_ret (retMc (D:=D) (rs:=[.tmp 4]) (vs:=[_]) results161 hK ⟨Z,trivial⟩ ?_)))))))
 have H:=H.putD hszw hGw hD hK
 obtain rfl:=chkR hc
 have ho:=H.own _ (List.mem_cons_of_mem _ (List.mem_cons_self ..))
 exact⟨_,xs,rfl,H.toExt,ho.1,fun c hc=>((ho.2 c hc).2).elim (fun h=>by simp at h) id,hxs⟩
theorem colH_c (w0:World)(kb b:Nat)(es:Array MapEntry)(ck:Nat)(M:List BHold)(hkb:w0.heap[kb]? = some (cl [.map (some b)] 84))(hb:w0.heap[b]? = some (.map es ck))(hm:IsSet es ck M)(hl:M.length≤1000) :
  Calls Tryz.prog 124 #[.func (.func 126) #[] #[.pointer (some ⟨kb,0,none⟩)]] w0 (fun e w'=>∃v s,e= .returned v∧Ext w0 w'∧(acc 55 2 v s.length (flatH s)).pred (fun b=>w'.heap[b]?)∧(∀c,c ∈ (acc 55 2 v s.length (flatH s)).fp→w0.heap.size≤c)∧s.Perm M):=by
 refine calls_of_W (l:=[.func (.func 126) #[] #[.pointer (some ⟨kb,0,none⟩)]]) func124 Z ntmps124 Z (q2 (aG Z (q1 (mV Z (o_call call161 Z Z (appH_c _ _ _ _ _ _ hkb hb hm hl) ?_)))))
 rintro _ w1 ⟨v,s,rfl,he,hp,hf,hq⟩
 refine⟨_,Z,?_⟩
 refine aG Z (q3 (W_ret (rt1 results124 Z ?_)))
 exact⟨v,s,Z,he,hp,hf,hq⟩
theorem srtH_c (w0:World)(kb b:Nat)(es:Array MapEntry)(ck:Nat)(M:List BHold)(hkb:w0.heap[kb]? = some (cl [.map (some b)] 84))(hb:w0.heap[b]? = some (.map es ck))(hm:IsSet es ck M)(hl:M.length≤1000) :
  Calls Tryz.prog 91 #[.func (.func 126) #[] #[.pointer (some ⟨kb,0,none⟩)],.func (.func 57) #[] #[]] w0 (fun e w'=>∃v s,e= .returned v∧Ext w0 w'∧(acc 55 2 v s.length (flatH s)).pred (fun b=>w'.heap[b]?)∧(∀c,c ∈ (acc 55 2 v s.length (flatH s)).fp→w0.heap.size≤c)∧s.Perm M∧s.Pairwise (fun a b=>Sp.l31Before b a=false)):=by
 have H:=Hp.init0 w0
 refine calls_of_W (l:=[.func (.func 126) #[] #[.pointer (some ⟨kb,0,none⟩)],.func (.func 57) #[] #[]]) func91 Z ntmps91 Z (q2 (aG Z (q1 (mV Z (o_call call124 Z Z (colH_c _ _ _ _ _ _ hkb hb hm hl) ?_)))))
 rintro _ w1 ⟨v,s,rfl,he,hp,hf,hq⟩
 have H:=H.add he _ hp hf (acc_nd _ _ _ _ _)
 obtain⟨av,cv,rfl⟩:=H.accShape (k:=0) rfl
 refine⟨_,Z,?_⟩
 refine aG Z (q1 (mV Z (mV Z ?_)))
 refine o_call call125 Z Z (sortFH_c H Z (by rw[hq.length_eq];exact hl)) ?_
 rintro _ w2 ⟨rfl,z,H,hz,hs⟩
 refine⟨_,Z,?_⟩
 refine q1 (mV Z (aG Z (q3 (W_ret (rt1 results91 Z ?_)))))
 rw[←hz.length_eq]at H
 have ho:=H.own _ (List.mem_cons_self ..)
 exact⟨_,z,by rw[←hz.length_eq];rfl,H.toExt,ho.1,fun c hc=>((ho.2 c hc).2).elim (fun h=>by simp at h) id,hz.trans hq,hs⟩
theorem sorted_h (w0:World)(b:Nat)(es:Array MapEntry)(ck:Nat)(M:List BHold)(hb:w0.heap[b]? = some (.map es ck))(hm:IsSet es ck M)(hl:M.length≤1000) :
  Calls Tryz.prog 56 #[.map (some b),.func (.func 57) #[] #[]] w0 (fun e w'=>∃v s,e= .returned v∧Ext w0 w'∧(acc 55 2 v s.length (flatH s)).pred (fun b=>w'.heap[b]?)∧(∀c,c ∈ (acc 55 2 v s.length (flatH s)).fp→w0.heap.size≤c)∧s.Perm M∧s.Pairwise (fun a b=>Sp.l31Before b a=false)):=by
 refine calls_of_W (l:=[.map (some b),.func (.func 57) #[] #[]]) func56 Z ntmps56 Z (q2 (aG Z (q1 (mV Z (o_call call92 Z Z (keysH_c _ _) ?_)))))
 rintro _ w1 ⟨kb,rfl,e1,hkb⟩
 refine⟨_,Z,?_⟩
 refine mV Z ?_
 refine o_call call91 Z Z (srtH_c _ _ _ _ _ _ hkb (by rw[e1.block b (Array.getElem?_eq_some_iff.1 hb).1];exact hb) hm hl) ?_
 rintro _ w2 ⟨v,s,rfl,e2,hp,hf,hq⟩
 refine⟨_,Z,?_⟩
 refine aG Z (q3 (W_ret (rt1 results56 Z ?_)))
 exact⟨v,s,Z,e1.trans e2,hp,fun c hc=>Nat.le_trans e1.size (hf c hc),hq⟩
theorem i_holdOrder_c (w0:World)(G0:PH)(hG:PSub G0 w0)(ca:List Value)(a:BHold)(ha:holdE G0 a ca)(cb:List Value)(b:BHold)(hb:holdE G0 b cb):Calls Tryz.prog 57 #[.agg ca.toArray,.agg cb.toArray] w0 (Rets w0 (.int .i64 (cmpH a b))):=by
 obtain⟨rfl,_⟩:=ha
 obtain⟨rfl,_⟩:=hb
 exact orderH_c w0 a b
end Go.Proofs.Tst
namespace Go.Proofs.Tst
open Go Fw Tryz
theorem l6In_c (w0:World)(n:Int)(lo:Int)(hi:Int) :
  Calls Tryz.prog 128 #[.int .i64 n,.int .i64 lo,.int .i64 hi] w0 (Rets w0 (.bool (Sp.l6In n lo hi))):=by
 have H:=Hp.init0 w0
 refine calls_of_W (l:=[.int .i64 n,.int .i64 lo,.int .i64 hi]) func128 Z ntmps128 Z (q2 (aG Z (q1 (pe 4 Z ?_))))
 refine R_case (t:=10) Z ?_ ?_
 ·intro hc1
  try simp only[nrm]at hc1
  refine pe 5 Z (q3 (W_ret (rt1 results128 Z ?_)))
  exact H.rets (congrArg Value.bool (by unfold Sp.l6In;rw[Bool.eq_iff_iff];simp;omega))
 intro hc1'
 try simp only[nrm]at hc1'
 refine pe 5 Z (q3 (W_ret (rt1 results128 Z ?_)))
 exact H.rets (congrArg Value.bool (by unfold Sp.l6In;rw[Bool.eq_iff_iff];simp;omega))
theorem l1Word_c (w0:World)(s:Bs)(hs:s.length≤16777216) :
  Calls Tryz.prog 98 #[str s] w0 (Rets w0 (.bool (Sp.l1Word s))):=by
 have H:=Hp.init0 w0
 refine calls_of_W (l:=[str s]) func98 Z ntmps98 Z (q2 (aG Z (q3 (W_seq (q2 (aG Z (q3 (W_block ?_))))))))
 refine W_lp (hf:=(Sub.cons (t:=0) Z Sub.nil)) (J:=fun M w m=>∃(k:Nat) (G:PH),M=[(3,.int .i64 (k:Int))]∧PLe (fun _=>none) G∧Hp w0 (fun _=>none) [] w G []∧(k≤s.length∧(s.take k).all Sp.low=true)∧m=(s.length-k)) (h0:=⟨0,_,Z,PLe.refl _,H,?inv,Z⟩) (round:=?round)
 case inv=>exact⟨by omega,by simp⟩
 case round =>
  rintro _ _ _ ⟨k,_,rfl,hle1,H,hinv1,rfl⟩
  obtain⟨_,hall⟩:=hinv1
  refine W_seq (q2 (pe 2 Z (lS Z (pe 1 Z (q3 ?_)))))
  refine W_cond Z ?_ ?_
  ·intro hc2
   try simp only[nrm]at hc2
   refine W_skip (N_K (W_seq (W_block (q2 (pe 2 Z (o_index_str underlying9 Z Z Z Z oM ?_))))));intro ch3 hch3;have hlt3:=ch3.toNat_lt
   refine pe 2 Z ?_
   refine R_case (t:=14) Z ?_ ?_
   ·intro hc4
    try simp only[nrm]at hc4
    refine pe 5 Z (q3 (W_true Z (q2 (aG Z (q3 (W_ret (N_B_ret (N_K_ret (N_LP_ret (N_B_ret (N_K_ret (rt1 results98 Z ?_))))))))))))
    exact H.rets (congrArg Value.bool (by rw[Sp.l1Word,Sp.all_false hch3 (by simp[Sp.low];omega)];rfl))
   intro hc4'
   try simp only[nrm]at hc4'
   refine pe 2 Z (gR Z (o_index_str underlying9 Z Z Z Z oM ?_));intro ch5 hch5;have hlt5:=ch5.toNat_lt
   obtain rfl:ch5=ch3:=Option.some.inj (hch5.symm.trans hch3)
   refine pe 2 Z (q3 ?_)
   refine W_cond Z ?_ ?_
   ·intro hc6
    try simp only[nrm]at hc6
    refine q2 (aG Z (q3 (W_ret (N_B_ret (N_K_ret (N_LP_ret (N_B_ret (N_K_ret (rt1 results98 Z ?_)))))))))
    exact H.rets (congrArg Value.bool (by rw[Sp.l1Word,Sp.all_false hch5 (by simp[Sp.low];omega)];rfl))
   intro hc6'
   try simp only[nrm]at hc6'
   refine W_skip (N_B (N_K (W_region (mV Z (aD Z2 (aG Z (R_nil ?_)))))))
   refine N_lp (hJ:=⟨k+1,_,Z,hle1,H,?inv,Z⟩) (hm:=?hm)
   case hm=>omega
   case inv=>exact⟨by omega,Sp.all_take hall hch5 (by simp[Sp.low];omega)⟩
  intro hc2'
  try simp only[nrm]at hc2'
  refine W_exit (N_K_exit (N_LP_exit (N_B_same (N_K (q2 (mV Z (lS Z (xr H Z2 (l6In_c _ _ _ _) ?_))))))));intro _ H
  refine aG Z (q3 (W_ret (rt1 results98 Z ?_)))
  obtain rfl:k=s.length:=by omega
  rw[List.take_length]at hall
  exact H.rets (congrArg Value.bool (by simp only[Sp.l1Word,Sp.l6In,hall];rw[Bool.eq_iff_iff];simp;omega))
theorem l1Cut_c (w0:World)(G0:PH)(hG:PSub G0 w0)(s:Bs)(hs:s.length≤16777216) :
  Calls Tryz.prog 199 #[str s] w0 (RetP w0 G0 (fun G v=>RdT G v (Sp.cut s))):=by
 have H:=Hp.init hG
 refine calls_of_W (l:=[str s]) func199 Z ntmps199 Z (q2 (aG Z (q1 (xbs H Z7 ?_))));intro _ _ _ H
 have H:=H.blkAcc 1 (k:=0) (n:=0) rfl rfl (by decide)
 refine aG Z (q1 (aG Z (q3 (W_seq (q2 (aG Z (q3 (W_block ?_))))))))
 refine W_lp (hf:=(Sub.cons (t:=0) Z (Sub.cons (t:=2) Z Sub.nil))) (J:=fun M w m=>∃(v:Value) (n:Nat) (cs:List Value) (xs:List (Bs)) (f k:Nat) (G:PH),M=[(4,.int .i64 (f:Int)),(5,.int .i64 (k:Int)),(3,v)]∧PLe G0 G∧Hp w0 G0 [] w G [acc 9 1 v n cs]∧(Chk strE 1 G cs xs∧n=xs.length∧f≤k∧k≤s.length∧xs.length≤k∧xs++Sp.cut (s.drop f)=Sp.cut s∧∀j,f≤j→j<k→s[j]? ≠ some 47)∧m=(s.length-k)) (h0:=⟨_,_,_,[],0,0,_,Z,PLe.refl _,H,?inv,Z⟩) (round:=?round)
 case inv=>exact⟨(Chk.nil (E:=strE) (sz:=1) (G:=G0)),by first|rfl|simp|(simp;omega)|omega,(by simp)⟩
 case round =>
  rintro _ _ _ ⟨v,n,cs,xs,f,k,_,rfl,hle2,H,hinv2,rfl⟩
  obtain⟨hchk2_0,_,hinv2⟩:=hinv2
  obtain⟨_,_,rfl⟩:=H.accShape (k:=0) rfl
  obtain⟨h1,_,_,h4,h5⟩:=hinv2
  refine W_seq (q2 (pe 2 Z (lS Z (pe 1 Z (q3 ?_)))))
  refine W_cond Z ?_ ?_
  ·intro hc3
   try simp only[nrm]at hc3
   refine W_skip (N_K (W_seq (W_block (q2 (pe 2 Z (o_index_str underlying9 Z Z Z Z oM ?_))))));intro ch4 hch4;have hlt4:=ch4.toNat_lt
   refine pe 1 Z (q3 ?_)
   refine W_cond Z ?_ ?_
   ·intro hc5
    try simp only[nrm]at hc5
    refine q2 (pe 4 Z (o_slice_str underlying9 Z Z Z Z oM oM oM (xbs H Z7 ?_)));intro _ _ _ H
    refine o_append1 0 H (sz:=1) (bytes:=16) underlying49 typeInfo9 ⟨_,Z,Z⟩ Z Z Z Z Z Z Z Z Z Z oM Z ?_;intro _ _ H
    have hchk8:=hchk2_0.snoc (show strE _ ((s.drop f).take (k-f)) _ from⟨rfl,(by (first|assumption|(refine Sp.l5Parent_lim ?_;assumption)|(simp;done)|(simp;omega)|omega))⟩) rfl
    obtain⟨_,_,rfl⟩:=H.accShape (k:=0) rfl
    refine aG Z (q3 (W_region (mV Z (aD Z2 (aG Z (R_nil (N_B (N_K (W_region (mV Z (aD Z2 (aG Z (R_nil ?_)))))))))))))
    refine N_lp (hJ:=⟨_,_,_,(xs++[((s.drop f).take (k-f))]),k+1,k+1,_,Z,hle2,H,?inv,Z⟩) (hm:=?hm)
    case hm=>omega
    case inv=>exact⟨hchk8,aN,(by exact⟨by omega,by omega,by simp;omega,Sp.cut_step h4 h1 (hch4▸congrArg some (Sp.is47 oM)) h5,fun j g1 g2=>by omega⟩)⟩
   intro hc5'
   try simp only[nrm]at hc5'
   refine W_skip (N_B (N_K (W_region (mV Z (aD Z2 (aG Z (R_nil ?_)))))))
   refine N_lp (hJ:=⟨_,_,_,xs,f,k+1,_,Z,hle2,H,?inv,Z⟩) (hm:=?hm)
   case hm=>omega
   case inv=>exact⟨hchk2_0,aN,(by exact⟨by omega,by omega,by omega,h4,Sp.noslash_succ h5 (hch4▸Sp.not47 oM)⟩)⟩
  intro hc3'
  try simp only[nrm]at hc3'
  refine W_exit (N_K_exit (N_LP_exit (N_B_same (N_K (q2 (pe 3 Z (o_slice_str_from underlying9 Z Z Z oM oM (xbs H Z7 ?_))))))));intro _ _ _ H
  refine o_append1 0 H (sz:=1) (bytes:=16) underlying49 typeInfo9 ⟨_,Z,Z⟩ Z Z Z Z Z Z Z Z Z Z oM Z ?_;intro _ _ H
  have hchk14:=hchk2_0.snoc (show strE _ (s.drop f) _ from⟨rfl,(by (first|assumption|(refine Sp.l5Parent_lim ?_;assumption)|(simp;done)|(simp;omega)|omega))⟩) rfl
  obtain⟨_,_,rfl⟩:=H.accShape (k:=0) rfl
  refine aG Z (q3 (W_ret (rt1 results199 Z ?_)))
  obtain⟨_,H,hsg515,hsr515⟩:=H.shut' (k:=0) rfl hchk14 aN aN
  exact H.retP (by rw[←Sp.cut_end h4 h5 oM];exact hsr515)
theorem PathValid_c (w0:World)(G0:PH)(hG:PSub G0 w0)(path:Bs)(hpath:path.length≤16777216) :
  Calls Tryz.prog 164 #[str path] w0 (Rets w0 (.bool (Sp.PathValid path))):=by
 have H:=Hp.init hG
 refine calls_of_W (l:=[str path]) func164 Z ntmps164 Z (q2 (aG Z (q1 (mV Z (xc Z2 (l1Cut_c _ _ H.sub _ hpath) ?_)))))
 rintro _ _ ⟨G1,_,g1,rfl,hr1_0⟩
 have H:=H.grow g1
 obtain⟨_,_,rfl⟩:=hr1_0.shape;have hx_hr1_0:_≤1099511627776:=hr1_0.lim
 refine⟨_,Z,?_⟩
 refine aG Z (q3 (W_seq (q2 (aG Z (q3 (W_block ?_))))))
 refine W_lp (hf:=(Sub.cons (t:=3) Z Sub.nil)) (J:=fun M w m=>∃(k:Nat) (G:PH),M=[(4,.int .i64 (k:Int))]∧PLe G1 G∧Hp w0 G0 [] w G []∧(k≤(Sp.cut path).length∧((Sp.cut path).take k).all Sp.l1Word=true)∧m=((Sp.cut path).length-k)) (h0:=⟨0,_,Z,PLe.refl _,H,?inv,Z⟩) (round:=?round)
 case inv=>simp
 case round =>
  rintro _ _ _ ⟨k,_,rfl,hle2,H,hinv2,rfl⟩
  have hr1_0:=hr1_0.up hle2
  obtain⟨_,hall⟩:=hinv2
  refine W_seq (q2 (pe 2 Z (lN Z (pe 1 Z (q3 ?_)))))
  refine W_cond Z ?_ ?_
  ·intro hc3
   try simp only[nrm]at hc3
   refine W_skip (N_K (W_seq (W_block (q2 (pe 2 Z (iP k hr1_0 Z3 Z ?_))))));intro _ _ _ _ hz4 hE4 hrow4
   obtain⟨rfl,hi4⟩:=hE4;have hy_hi4:_≤16777216:=hi4
   refine lP H hrow4 0 Z2 (xr H Z2 (l1Word_c _ _ hi4) ?_);intro _ H
   refine pe 1 Z (q3 ?_)
   refine W_cond Z ?_ ?_
   ·intro hc6
    try simp only[nrm]at hc6
    refine q2 (aG Z (q3 (W_ret (N_B_ret (N_K_ret (N_LP_ret (N_B_ret (N_K_ret (rt1 results164 Z ?_)))))))))
    exact H.rets (congrArg Value.bool (by rw[Sp.PathValid,Sp.all_false hz4 hc6];rfl))
   intro hc6'
   try simp only[nrm]at hc6'
   refine W_skip (N_B (N_K (W_region (mV Z (aD Z2 (aG Z (R_nil ?_)))))))
   refine N_lp (hJ:=⟨k+1,_,Z,hle2,H,?inv,Z⟩) (hm:=?hm)
   case hm=>omega
   case inv=>exact⟨by omega,Sp.all_take hall hz4 hc6'⟩
  intro hc3'
  try simp only[nrm]at hc3'
  refine W_exit (N_K_exit (N_LP_exit (N_B_same (N_K (q2 (mV Z (lN Z (pe 2 Z (q3 (W_ret (rt1 results164 Z ?_)))))))))))
  obtain rfl:k=(Sp.cut path).length:=by omega
  rw[List.take_length]at hall
  exact H.rets (congrArg Value.bool (by simp only[Sp.PathValid,hall,Bool.true_and];rw[Bool.eq_iff_iff];simp;omega))
theorem l1Last_c (w0:World)(path:Bs)(hpath:path.length≤16777216) :
  Calls Tryz.prog 200 #[str path] w0 (Rets w0 (.int .i64 (Sp.l1Last path))):=by
 have H:=Hp.init0 w0
 refine calls_of_W (l:=[str path]) func200 Z ntmps200 Z (q2 (aG Z (q1 (aG Z (q3 (W_seq (q2 (aG Z (q3 (W_block ?_))))))))))
 refine W_lp (hf:=(Sub.cons (t:=0) Z (Sub.cons (t:=2) Z Sub.nil))) (J:=fun M w m=>∃(k:Nat) (o:Option Nat) (G:PH),M=[(3,.int .i64 (Sp.optI o)),(4,.int .i64 (k:Int))]∧PLe (fun _=>none) G∧Hp w0 (fun _=>none) [] w G []∧(k≤path.length∧o=(List.range k).foldl (Sp.lastF path) none)∧m=(path.length-k)) (h0:=⟨0,none,_,Z,PLe.refl _,H,?inv,Z⟩) (round:=?round)
 case inv=>exact⟨by omega,rfl⟩
 case round =>
  rintro _ _ _ ⟨k,o,_,rfl,hle1,H,hinv1,rfl⟩
  obtain⟨_,hall⟩:=hinv1
  refine W_seq (q2 (pe 2 Z (lS Z (pe 1 Z (q3 ?_)))))
  refine W_cond Z ?_ ?_
  ·intro hc2
   try simp only[nrm]at hc2
   refine W_skip (N_K (W_seq (W_block (q2 (pe 2 Z (o_index_str underlying9 Z Z Z Z oM ?_))))));intro ch3 hch3;have hlt3:=ch3.toNat_lt
   refine pe 1 Z (q3 ?_)
   refine W_cond Z ?_ ?_
   ·intro hc4
    try simp only[nrm]at hc4
    refine W_region (pe 2 Z (R_nil (N_B (N_K (W_region (mV Z (aD Z2 (aG Z (R_nil ?_)))))))))
    refine N_lp (hJ:=⟨k+1,some k,_,Z,hle1,H,?inv,Z⟩) (hm:=?hm)
    case hm=>omega
    case inv=>exact⟨by omega,by rw[Sp.last_succ,←hall,Sp.lastF,hch3,if_pos (congrArg some (Sp.is47 oM))]⟩
   intro hc4'
   try simp only[nrm]at hc4'
   refine W_skip (N_B (N_K (W_region (mV Z (aD Z2 (aG Z (R_nil ?_)))))))
   refine N_lp (hJ:=⟨k+1,o,_,Z,hle1,H,?inv,Z⟩) (hm:=?hm)
   case hm=>omega
   case inv=>exact⟨by omega,by rw[Sp.last_succ,←hall,Sp.lastF,hch3,if_neg (Sp.not47 oM)]⟩
  intro hc2'
  try simp only[nrm]at hc2'
  refine W_exit (N_K_exit (N_LP_exit (N_B_same (N_K (q2 (pe 2 Z (q3 (W_ret (rt1 results200 Z ?_)))))))))
  obtain rfl:k=path.length:=by omega
  exact H.rets (congrArg (Value.int .i64) (by rw[hall];rfl))
theorem l5Parent_c (w0:World)(path:Bs)(hpath:path.length≤16777216) :
  Calls Tryz.prog 165 #[str path] w0 (Rets w0 (str (Sp.l5Parent path))):=by
 have hl:=Sp.l1Last_le path
 have H:=Hp.init0 w0
 refine calls_of_W (l:=[str path]) func165 Z ntmps165 Z (q2 (aG Z (q1 (pe 2 Z (xr H Z2 (l1Last_c _ _ hpath) ?_)))));intro _ H
 refine o_max Z Z Z (o_slice_str_to underlying9 Z Z Z oM oM (aG Z (q3 (W_ret (rt1 results165 Z ?_)))))
 exact H.rets Z
theorem l5At_c (w0:World)(G0:PH)(hG:PSub G0 w0)(vlist:Value)(list:List (BItem))(hlist:RdItems G0 vlist list)(path:Bs)(hpath:path.length≤16777216) :
  Calls Tryz.prog 166 #[vlist,str path] w0 (Rets w0 (.int .i64 (Sp.l5At list path))):=by
 obtain⟨alist,klist,rfl⟩:=hlist.shape
 have hlimlist:list.length≤1099511627776:=hlist.lim
 have H:=Hp.init hG
 refine calls_of_W (l:=[.slice alist list.length klist,str path]) func166 Z ntmps166 Z (q2 (aG Z (q3 (W_seq (q2 (aG Z (q3 (W_block ?_))))))))
 refine W_lp (hf:=(Sub.cons (t:=0) Z (Sub.cons (t:=1) Z Sub.nil))) (J:=fun M w m=>∃(k:Nat) (G:PH),M=[(5,.int .i64 (k:Int))]∧PLe G0 G∧Hp w0 G0 [] w G []∧(k≤list.length∧(∀j,j<k→∀y,list[j]? = some y→decide (y.path=path)=false))∧m=(list.length-k)) (h0:=⟨0,_,Z,PLe.refl _,H,?inv,Z⟩) (round:=?round)
 case inv=>exact⟨by omega,fun j hj=>by omega⟩
 case round =>
  rintro _ _ _ ⟨k,_,rfl,hle1,H,hinv1,rfl⟩
  have hlist:=hlist.up hle1
  obtain⟨_,hall⟩:=hinv1
  refine W_seq (q2 (pe 2 Z (lN Z (pe 1 Z (q3 ?_)))))
  refine W_cond Z ?_ ?_
  ·intro hc2
   try simp only[nrm]at hc2
   refine W_skip (N_K (W_seq (W_block (q2 (pe 2 Z (iP k hlist Z3 Z ?_))))));intro _ _ _ _ hz3 hE3 hrow3
   obtain⟨_,_,_,rfl,_,_,_,_⟩:=ox hE3
   refine fA 0 Z (lP H hrow3 0 Z2 (mV Z (o_seql Z Z Z (q3 ?_))))
   refine W_cond Z ?_ ?_
   ·intro hc4
    try simp only[nrm]at hc4
    refine q2 (pe 2 Z (q3 (W_ret (N_B_ret (N_K_ret (N_LP_ret (N_B_ret (N_K_ret (rt1 results166 Z ?_)))))))))
    exact H.rets (congrArg (Value.int .i64) (by rw[Sp.l5At,Sp.atI,Sp.find_at hall hz3 (by simp;exact hc4)];rfl))
   intro hc4'
   try simp only[nrm]at hc4'
   refine W_skip (N_B (N_K (W_region (mV Z (aD Z2 (aG Z (R_nil ?_)))))))
   refine N_lp (hJ:=⟨k+1,_,Z,hle1,H,?inv,Z⟩) (hm:=?hm)
   case hm=>omega
   case inv=>exact⟨by omega,Sp.none_succ hall hz3 (by simp;exact hc4')⟩
  intro hc2'
  try simp only[nrm]at hc2'
  refine W_exit (N_K_exit (N_LP_exit (N_B_same (N_K (q2 (aG Z (q3 (W_ret (rt1 results166 Z ?_)))))))))
  exact H.rets (congrArg (Value.int .i64) (by rw[Sp.l5At,Sp.atI,Sp.find_none hall oM];rfl))
theorem l5Home_c (w0:World)(G0:PH)(hG:PSub G0 w0)(vlist:Value)(list:List (BItem))(hlist:RdItems G0 vlist list)(path:Bs)(hpath:path.length≤16777216) :
  Calls Tryz.prog 132 #[vlist,str path] w0 (Rets w0 (.bool (Sp.l5Home list path))):=by
 obtain⟨alist,klist,rfl⟩:=hlist.shape
 have hlimlist:list.length≤1099511627776:=hlist.lim
 have H:=Hp.init hG
 refine calls_of_W (l:=[.slice alist list.length klist,str path]) func132 Z ntmps132 Z (q2 (aG Z (q1 (mV Z (xr H Z2 (l5Parent_c _ _ hpath) ?_)))));intro _ H
 refine aG Z (q1 (pe 2 Z ?_))
 refine xr H Z2 (l5At_c _ _ H.sub _ _ hlist _ (by (first|assumption|(refine Sp.l5Parent_lim ?_;assumption)|(simp;done)|(simp;omega)|omega))) ?_;intro _ H
 refine aG Z (q1 (mV Z (o_seql Z Z Z (mV Z ?_))))
 refine R_case (t:=14) Z ?_ ?_
 ·intro hc3
  try simp only[nrm]at hc3
  refine pe 3 Z (R_pass Z (yl_un Z Z) (R_pass Z (yl_un Z Z) (R_pass Z (yl_un Z Z) (R_pass Z (yl_un Z Z) (R_pass Z (yl_un Z Z) (pe 3 Z (q3 (W_ret (rt1 results132 Z ?_)))))))))
  exact H.rets (congrArg Value.bool (by simp[Sp.l5Home,hc3]))
 intro hc3'
 try simp only[nrm]at hc3'
 refine pe 3 Z ?_
 refine R_case (t:=17) Z ?_ ?_
 ·intro hc4
  try simp only[nrm]at hc4
  obtain⟨i,_,hi1,hi2,_,_,hi5⟩:=Sp.at_nat hc4
  refine pe 2 Z (gR Z (iP i hlist Z3 hi2 ?_));intro _ _ _ _ hz5 hE5 hrow5
  obtain⟨_,_,_,rfl,hi5,_,_,_⟩:=ox hE5
  refine gR Z (fA 1 Z (gR Z (lP H hrow5 1 Z2 (pe 3 Z (q3 (W_ret (rt1 results132 Z ?_)))))))
  exact H.rets (congrArg Value.bool (by simp[Sp.l5Home,hc3',Sp.atI,hi1,hz5]))
 intro hc4'
 try simp only[nrm]at hc4'
 refine pe 8 Z (q3 (W_ret (rt1 results132 Z ?_)))
 exact H.rets (congrArg Value.bool (by simp[Sp.l5Home,hc3',Sp.atI,Sp.at_none hc4']))
theorem l5Item_c (w0:World)(G0:PH)(hG:PSub G0 w0)(cx:List Value)(x:BItem)(hx:itemE G0 x cx) :
  Calls Tryz.prog 131 #[.agg cx.toArray] w0 (Rets w0 (.bool (Sp.l5Item x))):=by
 obtain⟨_,_,_,rfl,hi1,hr1,_,_⟩:=ox hx
 have H:=Hp.init hG
 refine calls_of_W (l:=[_]) func131 Z ntmps131 Z (q2 (o_box H Z Z Z ?_));intro b2 _ _ H
 refine aG Z (q3 (W_seq (q2 (aG Z (q3 (W_block ?_))))))
 obtain⟨ln3,hln3,H⟩:=H.name (k:=0) rfl
 refine W_lp (hf:=(Sub.cons (t:=1) Z Sub.nil)) (J:=fun M w m=>∃(k:Nat) (G:PH),M=[(3,.int .i64 (k:Int))]∧PLe G0 G∧Hp w0 G0 [] w G [blk b2 (cl ln3 109)]∧(k≤x.ids.length∧(x.ids.take k).all (Sp.idOk x.dir)=true)∧m=(x.ids.length-k)) (h0:=⟨0,_,Z,PLe.refl _,H,?inv,Z⟩) (round:=?round)
 case inv=>exact⟨by omega,by simp⟩
 case round =>
  rintro _ _ _ ⟨k,_,rfl,hle4,H,hinv4,rfl⟩
  subst hln3
  have hr1:=hr1.up hle4
  obtain⟨_,hall⟩:=hinv4
  refine W_seq (q2 (mV Z (fA 2 Z (lB 0 H Z3 (lN Z (pe 1 Z (q3 ?_)))))))
  refine W_cond Z ?_ ?_
  ·intro hc5
   try simp only[nrm]at hc5
   refine W_skip (N_K (W_seq (W_block (q2 (fA 1 Z (lB 0 H Z3 (mV Z ?_)))))))
   refine R_case (t:=13) Z ?_ ?_
   ·intro hc6
    try simp only[nrm]at hc6
    refine pe 8 Z (q3 (W_true Z (q2 (aG Z (q3 (W_ret (N_B_ret (N_K_ret (N_LP_ret (N_B_ret (N_K_ret (rt1 results131 Z ?_))))))))))))
    exact H.rets (congrArg Value.bool (by rw[Sp.l5Item,Sp.all_false (c:=x.ids[k]) (List.getElem?_eq_getElem oM) (by simp[Sp.idOk,hc6])];rfl))
   intro hc6'
   try simp only[nrm]at hc6'
   refine gR Z (fA 2 Z (gR Z (lB 0 H Z3 (pe 1 Z (gR Z (iP k hr1 Z3 Z ?_))))));intro _ _ _ _ hz7 hE7 hrow7
   obtain⟨rfl,_⟩:=hE7
   refine gR Z (lP H hrow7 0 Z2 (gR Z (xr H Z2 (l6In_c _ _ _ _) ?_)));intro _ H
   refine pe 2 Z (q3 ?_)
   refine W_cond Z ?_ ?_
   ·intro hc9
    try simp only[nrm]at hc9
    refine q2 (aG Z (q3 (W_ret (N_B_ret (N_K_ret (N_LP_ret (N_B_ret (N_K_ret (rt1 results131 Z ?_)))))))))
    exact H.rets (congrArg Value.bool (by rw[Sp.l5Item,Sp.all_false hz7 (by simp[Sp.idOk, *])];rfl))
   intro hc9'
   try simp only[nrm]at hc9'
   refine W_skip (N_B (N_K (W_region (mV Z (aD Z2 (aG Z (R_nil ?_)))))))
   refine N_lp (hJ:=⟨k+1,_,Z,hle4,H,?inv,Z⟩) (hm:=?hm)
   case hm=>omega
   case inv=>exact⟨by omega,Sp.all_take hall hz7 (by simp[Sp.idOk, *])⟩
  intro hc5'
  try simp only[nrm]at hc5'
  refine W_exit (N_K_exit (N_LP_exit (N_B_same (N_K (q2 (fA 0 Z (lB 0 H Z3 (xr H Z2 (PathValid_c _ _ H.sub _ hi1) ?_))))))));intro _ H
  refine mV Z ?_
  refine R_case (t:=25) Z ?_ ?_
  ·intro hc12
   try simp only[nrm]at hc12
   refine gR Z (fA 2 Z (gR Z (lB 0 H Z3 (gR Z (lN Z (pe 3 Z (q3 (W_ret (rt1 results131 Z ?_)))))))))
   obtain rfl:k=x.ids.length:=by omega
   rw[List.take_length]at hall
   exact H.rets (congrArg Value.bool (by simp only[Sp.l5Item,hall,hc12,Bool.true_and];rw[Bool.eq_iff_iff];simp;omega))
  intro hc12'
  try simp only[nrm]at hc12'
  refine pe 6 Z (q3 (W_ret (rt1 results131 Z ?_)))
  exact H.rets (congrArg Value.bool (by simp[Sp.l5Item,hc12']))
theorem TreeValid_c (w0:World)(G0:PH)(hG:PSub G0 w0)(vlist:Value)(list:List (BItem))(hlist:RdItems G0 vlist list) :
  Calls Tryz.prog 100 #[vlist] w0 (Rets w0 (.bool (Sp.TreeValid list))):=by
 obtain⟨alist,klist,rfl⟩:=hlist.shape
 have hlimlist:list.length≤1099511627776:=hlist.lim
 have H:=Hp.init hG
 refine calls_of_W (l:=[.slice alist list.length klist]) func100 Z ntmps100 Z (q2 (aG Z (q3 (W_seq (q2 (aG Z (q3 (W_block ?_))))))))
 refine W_lp (hf:=(Sub.cons (t:=0) Z Sub.nil)) (J:=fun M w m=>∃(k:Nat) (G:PH),M=[(3,.int .i64 (k:Int))]∧PLe G0 G∧Hp w0 G0 [] w G []∧(k≤list.length∧∀j,j<k→Sp.okT list j=true)∧m=(list.length-k)) (h0:=⟨0,_,Z,PLe.refl _,H,?inv,Z⟩) (round:=?round)
 case inv=>exact⟨by omega,fun j hj=>by omega⟩
 case round =>
  rintro _ _ _ ⟨k,G1,rfl,hle1,H,hinv1,rfl⟩
  have hlist:=hlist.up hle1
  obtain⟨_,hall⟩:=hinv1
  refine W_seq (q2 (pe 2 Z (lN Z (pe 1 Z (q3 ?_)))))
  refine W_cond Z ?_ ?_
  ·intro hc2
   try simp only[nrm]at hc2
   refine W_skip (N_K (W_seq (W_block (W_seq (W_drawK [] 34 H kR Z ?_)))));intro _ H;have hd3:=PLe.refl G1
   refine dE 0 Z2 (dE 1 Z2 ?_)
   have hl4:=hlist.len
   obtain⟨_,_,z4,q4,ha4,hz4,hq4,hE4,hrow4,_⟩:=hlist.at (i:=k) oM
   clear hq4
   obtain⟨_,_,_,rfl,hi4,hr4,_,_⟩:=ox hE4
   refine dI 2 3 k ha4 Z3 Z (RD_t 3 Z kR Z (fun _ hK=>v_loadagg_P hK isAgg109 sizeOf109 Z hrow4 Z) (r1 4 Z (xr H Z2 (l5Item_c _ _ H.sub _ _ ⟨_,_,_,Z,hi4,hr4⟩) ?_)));intro _ H
   refine q4 H hd3 (dE 5 Z2 (dE 6 Z2 ?_))
   refine RD_case (t:=16) Z ?_ ?_
   ·intro hc6
    try simp only[nrm]at hc6
    refine dE 7 Z2 (dE 8 Z2 (dE 9 Z2 (RD_pass 10 Z kR kR kR Z (yl_un Z Z) (RD_pass 11 Z kR kR kR Z (yl_un Z Z) (RD_pass 12 Z kR kR kR Z (yl_un Z Z) (RD_pass 13 Z kR kR kR Z (yl_un Z Z) (RD_pass 14 Z kR kR kR Z (yl_un Z Z) (RD_pass 15 Z kR kR kR Z (yl_un Z Z) (RD_pass 16 Z kR kR kR Z (yl_un Z Z) (RD_pass 17 Z kR kR kR Z (yl_un Z Z) (RD_pass 18 Z kR kR kR Z (yl_un Z Z) (RD_pass 19 Z kR kR kR Z (yl_un Z Z) (RD_pass 20 Z kR kR kR Z (yl_un Z Z) (RD_pass 21 Z kR kR kR Z (yl_un Z Z) (dE 22 Z2 ?_)))))))))))))))
    refine dE 23 Z2 (dE 24 Z2 (dE 25 Z2 (dE 26 Z2 (dE 27 Z2 (dE 28 Z2 (dE 29 Z2 (dE 30 Z2 (dE 31 Z2 (dE 32 Z2 (dE 33 Z2 (rz (N_K (W_true Z (q2 (aG Z ?_)))))))))))))))
    refine q3 (W_ret (N_B_ret (N_K_ret (N_LP_ret (N_B_ret (N_K_ret (rt1 results100 Z ?_)))))))
    exact H.rets (congrArg Value.bool (by rw[Sp.TreeValid,Sp.not_all_range (k:=k) oM (by rw[Sp.okT_at hz4];simp[Sp.prevLt, *])];rfl))
   intro hc6'
   try simp only[nrm]at hc6'
   refine dE 7 Z2 (dE 8 Z2 (dE 9 Z2 ?_))
   refine RD_case (t:=19) Z ?_ ?_
   ·intro hc7
    try simp only[nrm]at hc7
    have hk0:k≠0:=by omega
    refine dE 10 Z2 (dE 11 Z2 (RD_tg 12 Z kR Z (yl Z Z) (fun _ hK=>v_sub Z Z oO) ?_))
    have hl9:=hlist.len
    obtain⟨_,_,_,_,ha9,_,hq9,hE9,hrow9,_⟩:=hlist.at (i:=(k-1)) oM
    clear hq9
    obtain⟨_,_,_,rfl,_,_,_,_⟩:=ox hE9
    refine dI 13 3 (k-1) ha9 Z3 oM (dF 14 0 Z2 (dP 15 hrow9 0 Z3 (dE 16 Z2 (dE 17 Z2 ?_))))
    have hl10:=hlist.len
    obtain⟨_,_,z10,_,ha10,hz10,hq10,hE10,hrow10,_⟩:=hlist.at (i:=k) oM
    clear hq10
    obtain⟨_,_,_,rfl,_,_,_,_⟩:=ox hE10
    have hzz10:z4=z10:=Option.some.inj (hz4.symm.trans hz10)
    subst hzz10
    refine dI 18 3 k ha10 Z3 Z (dF 19 0 Z2 (dP 20 hrow10 0 Z3 (RD_tg 21 Z kR Z (yl Z Z) (fun _ hK=>v_sgeq Z Z) (dE 22 Z2 (dE 23 Z2 (dE 24 Z2 ?_))))))
    refine RD_case (t:=34) Z ?_ ?_
    ·intro hc11
     try simp only[nrm]at hc11
     refine dE 25 Z2 (dE 26 Z2 (dE 27 Z2 (dE 28 Z2 (dE 29 Z2 (dE 30 Z2 (dE 31 Z2 (dE 32 Z2 (dE 33 Z2 (rz (N_K (W_true Z (q2 (aG Z (q3 (W_ret ?_)))))))))))))))
     refine N_B_ret (N_K_ret (N_LP_ret (N_B_ret (N_K_ret (rt1 results100 Z ?_)))))
     exact H.rets (congrArg Value.bool (by rw[Sp.TreeValid,Sp.not_all_range (k:=k) oM (by rw[Sp.okT_at hz4];simp[Sp.prevLt, *])];rfl))
    intro hc11'
    try simp only[nrm]at hc11'
    refine dE 25 Z2 (dE 26 Z2 (dE 27 Z2 ?_))
    have hl12:=hlist.len
    obtain⟨_,_,z12,_,ha12,hz12,hq12,hE12,hrow12,_⟩:=hlist.at (i:=k) oM
    clear hq12
    obtain⟨_,_,_,rfl,hi12,_,_,_⟩:=ox hE12
    have hzz12:z4=z12:=Option.some.inj (hz4.symm.trans hz12)
    subst hzz12
    refine dI 28 3 k ha12 Z3 Z (dF 29 0 Z2 (dP 30 hrow12 0 Z3 (r1 31 Z (gR Z (xr H Z2 (l5Home_c _ _ H.sub _ _ hlist _ hi12) ?_)))));intro _ H
    refine q4 H hd3 (dE 32 Z2 (dE 33 Z2 (rz (N_K ?_))))
    refine W_cond Z ?_ ?_
    ·intro hc14
     try simp only[nrm]at hc14
     refine q2 (aG Z (q3 (W_ret (N_B_ret (N_K_ret (N_LP_ret (N_B_ret (N_K_ret (rt1 results100 Z ?_)))))))))
     exact H.rets (congrArg Value.bool (by rw[Sp.TreeValid,Sp.not_all_range (k:=k) oM (by rw[Sp.okT_at hz4];simp[Sp.prevLt, *])];rfl))
    intro hc14'
    try simp only[nrm]at hc14'
    refine W_skip (N_B (N_K (W_region (mV Z (aD Z2 (aG Z (R_nil ?_)))))))
    refine N_lp (hJ:=⟨k+1,_,Z,hle1,H,?inv,Z⟩) (hm:=?hm)
    case hm=>omega
    case inv=>exact⟨by omega,Sp.upto_succ hall (by rw[Sp.okT_at hz4];simp[Sp.prevLt, *])⟩
   intro hc7'
   try simp only[nrm]at hc7'
   have hk0:k=0:=by omega
   refine dE 10 Z2 (dE 11 Z2 (dE 12 Z2 (dE 13 Z2 (dE 14 Z2 (dE 15 Z2 (dE 16 Z2 (dE 17 Z2 (dE 18 Z2 (dE 19 Z2 (dE 20 Z2 (dE 21 Z2 (dE 22 Z2 (dE 23 Z2 (dE 24 Z2 (dE 25 Z2 ?_)))))))))))))))
   refine dE 26 Z2 (dE 27 Z2 ?_)
   have hl16:=hlist.len
   obtain⟨_,_,z16,_,ha16,hz16,hq16,hE16,hrow16,_⟩:=hlist.at (i:=k) oM
   clear hq16
   obtain⟨_,_,_,rfl,hi16,_,_,_⟩:=ox hE16
   have hzz16:z4=z16:=Option.some.inj (hz4.symm.trans hz16)
   subst hzz16
   refine dI 28 3 k ha16 Z3 Z (dF 29 0 Z2 (dP 30 hrow16 0 Z3 (r1 31 Z (gR Z (xr H Z2 (l5Home_c _ _ H.sub _ _ hlist _ hi16) ?_)))));intro _ H
   refine q4 H hd3 (dE 32 Z2 (dE 33 Z2 (rz (N_K ?_))))
   refine W_cond Z ?_ ?_
   ·intro hc18
    try simp only[nrm]at hc18
    refine q2 (aG Z (q3 (W_ret (N_B_ret (N_K_ret (N_LP_ret (N_B_ret (N_K_ret (rt1 results100 Z ?_)))))))))
    exact H.rets (congrArg Value.bool (by rw[Sp.TreeValid,Sp.not_all_range (k:=k) oM (by rw[Sp.okT_at hz4];simp[Sp.prevLt, *])];rfl))
   intro hc18'
   try simp only[nrm]at hc18'
   refine W_skip (N_B (N_K (W_region (mV Z (aD Z2 (aG Z (R_nil ?_)))))))
   refine N_lp (hJ:=⟨k+1,_,Z,hle1,H,?inv,Z⟩) (hm:=?hm)
   case hm=>omega
   case inv=>exact⟨by omega,Sp.upto_succ hall (by rw[Sp.okT_at hz4];simp[Sp.prevLt, *])⟩
  intro hc2'
  try simp only[nrm]at hc2'
  refine W_exit (N_K_exit (N_LP_exit (N_B_same (N_K (q2 (mV Z (lN Z (pe 2 Z (q3 (W_ret (rt1 results100 Z ?_)))))))))))
  exact H.rets (congrArg Value.bool (by rw[Sp.TreeValid,Sp.all_range (fun j hj=>hall j oM),Bool.true_and];rw[Bool.eq_iff_iff];simp;omega))
theorem l2Same_c (w0:World)(G0:PH)(hG:PSub G0 w0)(va:Value)(a:List (Int))(ha:RdI G0 va a)(vb:Value)(b:List (Int))(hb:RdI G0 vb b) :
  Calls Tryz.prog 130 #[va,vb] w0 (Rets w0 (.bool (Sp.l2Same a b))):=by
 obtain⟨aa,ka,rfl⟩:=ha.shape
 have hlima:a.length≤1099511627776:=ha.lim
 obtain⟨ab,kb,rfl⟩:=hb.shape
 have hlimb:b.length≤1099511627776:=hb.lim
 have H:=Hp.init hG
 refine calls_of_W (l:=[.slice aa a.length ka,.slice ab b.length kb]) func130 Z ntmps130 Z (q2 (aG Z (q3 (W_seq (q2 (mV Z (lN Z (mV Z (lN Z (pe 1 Z (q3 ?_)))))))))))
 refine W_cond Z ?_ ?_
 ·intro hc1
  try simp only[nrm]at hc1
  refine q2 (aG Z (q3 (W_ret (N_K_ret (rt1 results130 Z ?_)))))
  exact H.rets (congrArg Value.bool (by unfold Sp.l2Same;exact Sp.ne_len oM))
 intro hc1'
 try simp only[nrm]at hc1'
 refine W_skip (N_K (W_seq (q2 (aG Z (q3 (W_block ?_))))))
 refine W_lp (hf:=(Sub.cons (t:=0) Z (Sub.cons (t:=1) Z Sub.nil))) (J:=fun M w m=>∃(k:Nat) (G:PH),M=[(5,.int .i64 (k:Int))]∧PLe G0 G∧Hp w0 G0 [] w G []∧(k≤a.length∧a.take k=b.take k)∧m=(a.length-k)) (h0:=⟨0,_,Z,PLe.refl _,H,?inv,Z⟩) (round:=?round)
 case inv=>exact⟨by omega,by simp⟩
 case round =>
  rintro _ _ _ ⟨k,G2,rfl,hle2,H,hinv2,rfl⟩
  have ha:=ha.up hle2
  have hb:=hb.up hle2
  obtain⟨_,hall⟩:=hinv2
  refine W_seq (q2 (pe 2 Z (lN Z (pe 1 Z (q3 ?_)))))
  refine W_cond Z ?_ ?_
  ·intro hc3
   try simp only[nrm]at hc3
   refine W_skip (N_K (W_seq (W_block (W_seq (W_drawK [] 9 H kR Z ?_)))));intro _ H;have hd4:=PLe.refl G2
   refine dE 0 Z2 (dE 1 Z2 ?_)
   have hl5:=ha.len
   obtain⟨_,_,_,_,ha5,hz5,hq5,hE5,hrow5,_⟩:=ha.at (i:=k) oM
   clear hq5
   obtain⟨rfl,_⟩:=hE5
   refine dI 2 1 k ha5 Z3 Z (dP 3 hrow5 0 Z3 (dE 4 Z2 (dE 5 Z2 ?_)))
   have hl6:=hb.len
   obtain⟨_,_,_,_,ha6,hz6,hq6,hE6,hrow6,_⟩:=hb.at (i:=k) oM
   clear hq6
   obtain⟨rfl,_⟩:=hE6
   refine dI 6 1 k ha6 Z3 Z (dP 7 hrow6 0 Z3 (dE 8 Z2 (rz (N_K ?_))))
   refine W_cond Z ?_ ?_
   ·intro hc7
    try simp only[nrm]at hc7
    refine q2 (aG Z (q3 (W_ret (N_B_ret (N_K_ret (N_LP_ret (N_B_ret (N_K_ret (rt1 results130 Z ?_)))))))))
    exact H.rets (congrArg Value.bool (by unfold Sp.l2Same;exact Sp.ne_at hz5 hz6 oM))
   intro hc7'
   try simp only[nrm]at hc7'
   refine W_skip (N_B (N_K (W_region (mV Z (aD Z2 (aG Z (R_nil ?_)))))))
   refine N_lp (hJ:=⟨k+1,_,Z,hle2,H,?inv,Z⟩) (hm:=?hm)
   case hm=>omega
   case inv=>exact⟨by omega,Sp.take_eq hall hz5 (by rw[hz6];congr 1;omega)⟩
  intro hc3'
  try simp only[nrm]at hc3'
  refine W_exit (N_K_exit (N_LP_exit (N_B_same (N_K (q2 (aG Z (q3 (W_ret (rt1 results130 Z ?_)))))))))
  exact H.rets (congrArg Value.bool (by unfold Sp.l2Same;exact Sp.eq_all hall oM oM))
theorem BlockValid_c (w0:World)(G0:PH)(hG:PSub G0 w0)(vbytes:Value)(bytes:List (Int))(hbytes:RdI G0 vbytes bytes) :
  Calls Tryz.prog 129 #[vbytes] w0 (Rets w0 (.bool (Sp.BlockValid bytes))):=by
 obtain⟨abytes,kbytes,rfl⟩:=hbytes.shape
 have hlimbytes:bytes.length≤1099511627776:=hbytes.lim
 have H:=Hp.init hG
 refine calls_of_W (l:=[.slice abytes bytes.length kbytes]) func129 Z ntmps129 Z (q2 (aG Z (q3 (W_seq (q2 (aG Z (q3 (W_block ?_))))))))
 refine W_lp (hf:=(Sub.cons (t:=0) Z Sub.nil)) (J:=fun M w m=>∃(k:Nat) (G:PH),M=[(3,.int .i64 (k:Int))]∧PLe G0 G∧Hp w0 G0 [] w G []∧(k≤bytes.length∧(bytes.take k).all Sp.byteOk=true)∧m=(bytes.length-k)) (h0:=⟨0,_,Z,PLe.refl _,H,?inv,Z⟩) (round:=?round)
 case inv=>exact⟨by omega,by simp⟩
 case round =>
  rintro _ _ _ ⟨k,_,rfl,hle1,H,hinv1,rfl⟩
  have hbytes:=hbytes.up hle1
  obtain⟨_,hall⟩:=hinv1
  refine W_seq (q2 (pe 2 Z (lN Z (pe 1 Z (q3 ?_)))))
  refine W_cond Z ?_ ?_
  ·intro hc2
   try simp only[nrm]at hc2
   refine W_skip (N_K (W_seq (W_block (q2 (pe 2 Z (iP k hbytes Z3 Z ?_))))));intro _ _ _ _ hz3 hE3 hrow3
   obtain⟨rfl,_⟩:=hE3
   refine lP H hrow3 0 Z2 (xr H Z2 (l6In_c _ _ _ _) ?_);intro _ H
   refine pe 1 Z (q3 ?_)
   refine W_cond Z ?_ ?_
   ·intro hc5
    try simp only[nrm]at hc5
    refine q2 (aG Z (q3 (W_ret (N_B_ret (N_K_ret (N_LP_ret (N_B_ret (N_K_ret (rt1 results129 Z ?_)))))))))
    exact H.rets (congrArg Value.bool (by rw[Sp.BlockValid,Sp.all_false hz3 (by simp[Sp.byteOk, *])];rfl))
   intro hc5'
   try simp only[nrm]at hc5'
   refine W_skip (N_B (N_K (W_region (mV Z (aD Z2 (aG Z (R_nil ?_)))))))
   refine N_lp (hJ:=⟨k+1,_,Z,hle1,H,?inv,Z⟩) (hm:=?hm)
   case hm=>omega
   case inv=>exact⟨by omega,Sp.all_take hall hz3 (by simp[Sp.byteOk, *])⟩
  intro hc2'
  try simp only[nrm]at hc2'
  refine W_exit (N_K_exit (N_LP_exit (N_B_same (N_K (q2 (mV Z (lN Z (xr H Z2 (l6In_c _ _ _ _) ?_))))))));intro _ H
  refine aG Z (q3 (W_ret (rt1 results129 Z ?_)))
  obtain rfl:k=bytes.length:=by omega
  rw[List.take_length]at hall
  exact H.rets (congrArg Value.bool (by simp only[Sp.BlockValid,hall,Bool.true_and]))
theorem FileValid_c (w0:World)(G0:PH)(hG:PSub G0 w0)(vbytes:Value)(bytes:List (Int))(hbytes:RdI G0 vbytes bytes) :
  Calls Tryz.prog 142 #[vbytes] w0 (Rets w0 (.bool (Sp.FileValid bytes))):=by
 obtain⟨abytes,kbytes,rfl⟩:=hbytes.shape
 have hlimbytes:bytes.length≤1099511627776:=hbytes.lim
 have H:=Hp.init hG
 refine calls_of_W (l:=[.slice abytes bytes.length kbytes]) func142 Z ntmps142 Z (q2 (aG Z (q3 (W_seq (q2 (aG Z (q3 (W_block ?_))))))))
 refine W_lp (hf:=(Sub.cons (t:=0) Z Sub.nil)) (J:=fun M w m=>∃(k:Nat) (G:PH),M=[(3,.int .i64 (k:Int))]∧PLe G0 G∧Hp w0 G0 [] w G []∧(k≤bytes.length∧(bytes.take k).all Sp.byteOk=true)∧m=(bytes.length-k)) (h0:=⟨0,_,Z,PLe.refl _,H,?inv,Z⟩) (round:=?round)
 case inv=>exact⟨by omega,by simp⟩
 case round =>
  rintro _ _ _ ⟨k,_,rfl,hle1,H,hinv1,rfl⟩
  have hbytes:=hbytes.up hle1
  obtain⟨_,hall⟩:=hinv1
  refine W_seq (q2 (pe 2 Z (lN Z (pe 1 Z (q3 ?_)))))
  refine W_cond Z ?_ ?_
  ·intro hc2
   try simp only[nrm]at hc2
   refine W_skip (N_K (W_seq (W_block (q2 (pe 2 Z (iP k hbytes Z3 Z ?_))))));intro _ _ _ _ hz3 hE3 hrow3
   obtain⟨rfl,_⟩:=hE3
   refine lP H hrow3 0 Z2 (xr H Z2 (l6In_c _ _ _ _) ?_);intro _ H
   refine pe 1 Z (q3 ?_)
   refine W_cond Z ?_ ?_
   ·intro hc5
    try simp only[nrm]at hc5
    refine q2 (aG Z (q3 (W_ret (N_B_ret (N_K_ret (N_LP_ret (N_B_ret (N_K_ret (rt1 results142 Z ?_)))))))))
    exact H.rets (congrArg Value.bool (by rw[Sp.FileValid,Sp.all_false hz3 (by simp[Sp.byteOk, *])];rfl))
   intro hc5'
   try simp only[nrm]at hc5'
   refine W_skip (N_B (N_K (W_region (mV Z (aD Z2 (aG Z (R_nil ?_)))))))
   refine N_lp (hJ:=⟨k+1,_,Z,hle1,H,?inv,Z⟩) (hm:=?hm)
   case hm=>omega
   case inv=>exact⟨by omega,Sp.all_take hall hz3 (by simp[Sp.byteOk, *])⟩
  intro hc2'
  try simp only[nrm]at hc2'
  refine W_exit (N_K_exit (N_LP_exit (N_B_same (N_K (q2 (mV Z (lN Z (pe 2 Z (q3 (W_ret (rt1 results142 Z ?_)))))))))))
  obtain rfl:k=bytes.length:=by omega
  rw[List.take_length]at hall
  exact H.rets (congrArg Value.bool (by simp only[Sp.FileValid,hall,Bool.true_and];rw[Bool.eq_iff_iff];simp;omega))
theorem StoreValid_c (w0:World)(G0:PH)(hG:PSub G0 w0)(vlist:Value)(list:List (BHeld))(hlist:RdH G0 vlist list) :
  Calls Tryz.prog 99 #[vlist] w0 (Rets w0 (.bool (Sp.StoreValid list))):=by
 obtain⟨alist,klist,rfl⟩:=hlist.shape
 have hlimlist:list.length≤1099511627776:=hlist.lim
 have H:=Hp.init hG
 refine calls_of_W (l:=[.slice alist list.length klist]) func99 Z ntmps99 Z (q2 (aG Z (q3 (W_seq (q2 (aG Z (q3 (W_block ?_))))))))
 refine W_lp (hf:=(Sub.cons (t:=0) Z Sub.nil)) (J:=fun M w m=>∃(k:Nat) (G:PH),M=[(3,.int .i64 (k:Int))]∧PLe G0 G∧Hp w0 G0 [] w G []∧(k≤list.length∧∀j,j<k→Sp.okH list j=true)∧m=(list.length-k)) (h0:=⟨0,_,Z,PLe.refl _,H,?inv,Z⟩) (round:=?round)
 case inv=>exact⟨by omega,fun j hj=>by omega⟩
 case round =>
  rintro _ _ _ ⟨k,G1,rfl,hle1,H,hinv1,rfl⟩
  have hlist:=hlist.up hle1
  obtain⟨_,hall⟩:=hinv1
  refine W_seq (q2 (pe 2 Z (lN Z (pe 1 Z (q3 ?_)))))
  refine W_cond Z ?_ ?_
  ·intro hc2
   try simp only[nrm]at hc2
   refine W_skip (N_K (W_seq (W_block (q2 (pe 2 Z (iP k hlist Z3 Z ?_))))));intro _ _ z3 _ hz3 hE3 hrow3
   obtain⟨_,_,_,rfl,_,hr3,_,_,_⟩:=ox hE3
   refine o_loadagg_P H isAgg107 sizeOf107 Z Z hrow3 Z (xal H Z ?_);intro b4 _ _ H
   refine xst 0 H Z8 ?_;intro _ H
   refine q3 (W_seq (W_seq (W_drawK [0] 31 H kR Z ?_)));intro _ H;have hd6:=PLe.refl G1
   refine dF 0 0 Z2 (dB 1 0 Z4 (r1 2 Z (xr H Z2 (l6In_c _ _ _ _) ?_)));intro _ H
   refine q4 H hd6 (dE 3 Z2 (dE 4 Z2 ?_))
   refine RD_case (t:=20) Z ?_ ?_
   ·intro hc8
    try simp only[nrm]at hc8
    refine dE 5 Z2 (dE 6 Z2 (dE 7 Z2 (dE 8 Z2 (dE 9 Z2 (dE 10 Z2 (dE 11 Z2 (dE 12 Z2 (dE 13 Z2 (dE 14 Z2 (dE 15 Z2 (dE 16 Z2 (dE 17 Z2 (dE 18 Z2 (dE 19 Z2 (RD_pass 20 Z kR kR kR Z (yl_un Z Z) ?_)))))))))))))))
    refine RD_pass 21 Z kR kR kR Z (yl_un Z Z) (RD_pass 22 Z kR kR kR Z (yl_un Z Z) (RD_pass 23 Z kR kR kR Z (yl_un Z Z) (RD_pass 24 Z kR kR kR Z (yl_un Z Z) (RD_pass 25 Z kR kR kR Z (yl_un Z Z) (RD_pass 26 Z kR kR kR Z (yl_un Z Z) (RD_pass 27 Z kR kR kR Z (yl_un Z Z) (RD_pass 28 Z kR kR kR Z (yl_un Z Z) (dE 29 Z2 (dE 30 Z2 (rz (N_K (W_true Z (q2 (aG Z (q3 ?_)))))))))))))))
    refine W_ret (N_K_ret (N_B_ret (N_K_ret (N_LP_ret (N_B_ret (N_K_ret (rt1 results99 Z ?_)))))))
    exact H.rets (congrArg Value.bool (by rw[Sp.StoreValid,Sp.not_all_range (k:=k) oM (by rw[Sp.okH_at hz3];simp[Sp.prevId, *])];rfl))
   intro hc8'
   try simp only[nrm]at hc8'
   refine dF 5 1 Z2 (dB 6 0 Z4 (r1 7 Z (gR Z (xr H Z2 (BlockValid_c _ _ H.sub _ _ hr3) ?_))));intro _ H
   refine q4 H hd6 (dE 8 Z2 (dE 9 Z2 (dE 10 Z2 ?_)))
   refine RD_case (t:=26) Z ?_ ?_
   ·intro hc10
    try simp only[nrm]at hc10
    refine dE 11 Z2 (dE 12 Z2 (dE 13 Z2 (dE 14 Z2 (dE 15 Z2 (dE 16 Z2 (dE 17 Z2 (dE 18 Z2 (dE 19 Z2 (RD_pass 20 Z kR kR kR Z (yl_un Z Z) (RD_pass 21 Z kR kR kR Z (yl_un Z Z) (RD_pass 22 Z kR kR kR Z (yl_un Z Z) (RD_pass 23 Z kR kR kR Z (yl_un Z Z) (RD_pass 24 Z kR kR kR Z (yl_un Z Z) (RD_pass 25 Z kR kR kR Z (yl_un Z Z) (RD_pass 26 Z kR kR kR Z (yl_un Z Z) ?_)))))))))))))))
    refine RD_pass 27 Z kR kR kR Z (yl_un Z Z) (RD_pass 28 Z kR kR kR Z (yl_un Z Z) (dE 29 Z2 (dE 30 Z2 (rz (N_K (W_true Z (q2 (aG Z (q3 (W_ret (N_K_ret (N_B_ret (N_K_ret (N_LP_ret (N_B_ret ?_)))))))))))))))
    refine N_K_ret (rt1 results99 Z ?_)
    exact H.rets (congrArg Value.bool (by rw[Sp.StoreValid,Sp.not_all_range (k:=k) oM (by rw[Sp.okH_at hz3];simp[Sp.prevId, *])];rfl))
   intro hc10'
   try simp only[nrm]at hc10'
   refine dF 11 2 Z2 (dB 12 0 Z4 (r1 13 Z (gR Z (xr H Z2 (l6In_c _ _ _ _) ?_))));intro _ H
   refine q4 H hd6 (dE 14 Z2 (dE 15 Z2 (dE 16 Z2 ?_)))
   refine RD_case (t:=32) Z ?_ ?_
   ·intro hc12
    try simp only[nrm]at hc12
    refine dE 17 Z2 (dE 18 Z2 (dE 19 Z2 (RD_pass 20 Z kR kR kR Z (yl_un Z Z) (RD_pass 21 Z kR kR kR Z (yl_un Z Z) (RD_pass 22 Z kR kR kR Z (yl_un Z Z) (RD_pass 23 Z kR kR kR Z (yl_un Z Z) (RD_pass 24 Z kR kR kR Z (yl_un Z Z) (RD_pass 25 Z kR kR kR Z (yl_un Z Z) (RD_pass 26 Z kR kR kR Z (yl_un Z Z) (RD_pass 27 Z kR kR kR Z (yl_un Z Z) (RD_pass 28 Z kR kR kR Z (yl_un Z Z) (dE 29 Z2 (dE 30 Z2 (rz (N_K ?_)))))))))))))))
    refine W_true Z (q2 (aG Z (q3 (W_ret (N_K_ret (N_B_ret (N_K_ret (N_LP_ret (N_B_ret (N_K_ret (rt1 results99 Z ?_)))))))))))
    exact H.rets (congrArg Value.bool (by rw[Sp.StoreValid,Sp.not_all_range (k:=k) oM (by rw[Sp.okH_at hz3];simp[Sp.prevId, *])];rfl))
   intro hc12'
   try simp only[nrm]at hc12'
   refine dE 17 Z2 (dE 18 Z2 (dE 19 Z2 ?_))
   refine RD_case (t:=35) Z ?_ ?_
   ·intro hc13
    try simp only[nrm]at hc13
    have hk0:k≠0:=by omega
    refine dE 20 Z2 (dE 21 Z2 (RD_tg 22 Z kR Z (yl Z Z) (fun _ hK=>v_sub Z Z oO) ?_))
    have hl15:=hlist.len
    obtain⟨_,_,_,_,ha15,_,hq15,hE15,hrow15,_⟩:=hlist.at (i:=(k-1)) oM
    clear hq15
    obtain⟨_,_,_,rfl,_,hr15,_,_,_⟩:=ox hE15
    refine dI 23 3 (k-1) ha15 Z3 oM (dF 24 0 Z2 (dP 25 hrow15 0 Z3 (dF 26 0 Z2 (dB 27 0 Z4 (dE 28 Z2 (dE 29 Z2 (dE 30 Z2 (rz (N_K ?_)))))))))
    refine W_cond Z ?_ ?_
    ·intro hc16
     try simp only[nrm]at hc16
     refine q2 (aG Z (q3 (W_ret (N_K_ret (N_B_ret (N_K_ret (N_LP_ret (N_B_ret (N_K_ret (rt1 results99 Z ?_))))))))))
     exact H.rets (congrArg Value.bool (by rw[Sp.StoreValid,Sp.not_all_range (k:=k) oM (by rw[Sp.okH_at hz3];simp[Sp.prevId, *];intro _;omega)];rfl))
    intro hc16'
    try simp only[nrm]at hc16'
    refine W_skip (N_K (q2 (aG Z (q3 (W_block ?_)))))
    obtain⟨ln17,hln17,H⟩:=H.name (k:=0) rfl
    refine W_lp (hf:=(Sub.cons (t:=0) Z (Sub.cons (t:=3) Z (Sub.cons (t:=4) Z Sub.nil)))) (J:=fun M w m=>∃(i:Nat) (G:PH),M=[(5,.int .i64 (i:Int))]∧PLe G1 G∧Hp w0 G0 [] w G [blk b4 (cl ln17 107)]∧(i≤k∧(list.take i).all (fun g=> !Sp.l2Same g.bytes z3.bytes)=true)∧m=(k-i)) (h0:=⟨0,_,Z,PLe.refl _,H,?inv,Z⟩) (round:=?round)
    case inv=>exact⟨by omega,by simp⟩
    case round =>
     rintro _ _ _ ⟨i,G18,rfl,hle18,H,hinv18,rfl⟩
     subst hln17
     have hlist:=hlist.up hle18
     have hr3:=hr3.up hle18
     have hle1:=hle1.trans hle18
     obtain⟨hi,hall2⟩:=hinv18
     refine W_seq (q2 (pe 3 Z (q3 ?_)))
     refine W_cond Z ?_ ?_
     ·intro hc19
      try simp only[nrm]at hc19
      refine W_skip (N_K (W_seq (W_block (W_seq (W_drawK [0] 8 H kR Z ?_)))));intro _ H;have hd20:=PLe.refl G18
      refine dE 0 Z2 (dE 1 Z2 ?_)
      have hl21:=hlist.len
      obtain⟨_,_,_,_,ha21,hz21,hq21,hE21,hrow21,_⟩:=hlist.at (i:=i) oM
      clear hq21
      obtain⟨_,_,_,rfl,_,hr21,_,_,_⟩:=ox hE21
      refine dI 2 3 i ha21 Z3 Z (dF 3 1 Z2 (dP 4 hrow21 1 Z3 (dF 5 1 Z2 (dB 6 0 Z4 (r1 7 Z (xr H Z2 (l2Same_c _ _ H.sub _ _ hr21 _ _ hr3) ?_))))));intro _ H
      refine q4 H hd20 (rz (N_K ?_))
      refine W_cond Z ?_ ?_
      ·intro hc23
       try simp only[nrm]at hc23
       refine q2 (aG Z (q3 (W_ret (N_B_ret (N_K_ret (N_LP_ret (N_B_ret (N_B_ret (N_K_ret (N_LP_ret (N_B_ret (N_K_ret (rt1 results99 Z ?_)))))))))))))
       exact H.rets (congrArg Value.bool (by rw[Sp.StoreValid,Sp.not_all_range (k:=k) oM (by rw[Sp.okH_at hz3,Sp.all_false (l:=list.take k) (k:=i) (by rw[List.getElem?_take,if_pos oM];exact hz21) (by simp[*])];simp)];rfl))
      intro hc23'
      try simp only[nrm]at hc23'
      refine W_skip (N_B (N_K (W_region (mV Z (aD Z2 (aG Z (R_nil ?_)))))))
      refine N_lp (hJ:=⟨i+1,_,Z,hle18,H,?inv,Z⟩) (hm:=?hm)
      case hm=>omega
      case inv=>exact⟨by omega,Sp.all_take hall2 hz21 (by simp[*])⟩
     intro hc19'
     try simp only[nrm]at hc19'
     refine W_exit (N_K_exit (N_LP_exit (N_B_same (N_B (N_K (W_region (mV Z (aD Z2 (aG Z (R_nil ?_))))))))))
     have H:=H.dl 0
     refine N_lp (hJ:=⟨k+1,_,Z,hle1,H,?inv,Z⟩) (hm:=?hm)
     case hm=>omega
     case inv=>exact⟨by omega,Sp.upto_succ hall (by (obtain rfl:i=k:=by omega);rw[Sp.okH_at hz3,hall2];simp[Sp.prevId, *])⟩
   intro hc13'
   try simp only[nrm]at hc13'
   have hk0:k=0:=by omega
   refine dE 20 Z2 (dE 21 Z2 (dE 22 Z2 (dE 23 Z2 (dE 24 Z2 (dE 25 Z2 (dE 26 Z2 (dE 27 Z2 (dE 28 Z2 (dE 29 Z2 (dE 30 Z2 (rz (N_K (W_false Z (W_skip (N_K ?_)))))))))))))))
   refine q2 (aG Z (q3 (W_block ?_)))
   obtain⟨ln26,hln26,H⟩:=H.name (k:=0) rfl
   refine W_lp (hf:=(Sub.cons (t:=0) Z (Sub.cons (t:=3) Z (Sub.cons (t:=4) Z Sub.nil)))) (J:=fun M w m=>∃(i:Nat) (G:PH),M=[(5,.int .i64 (i:Int))]∧PLe G1 G∧Hp w0 G0 [] w G [blk b4 (cl ln26 107)]∧(i≤k∧(list.take i).all (fun g=> !Sp.l2Same g.bytes z3.bytes)=true)∧m=(k-i)) (h0:=⟨0,_,Z,PLe.refl _,H,?inv,Z⟩) (round:=?round)
   case inv=>exact⟨by omega,by simp⟩
   case round =>
    rintro _ _ _ ⟨i,G27,rfl,hle27,H,hinv27,rfl⟩
    subst hln26
    have hlist:=hlist.up hle27
    have hr3:=hr3.up hle27
    have hle1:=hle1.trans hle27
    obtain⟨hi,hall2⟩:=hinv27
    refine W_seq (q2 (pe 3 Z (q3 ?_)))
    refine W_cond Z ?_ ?_
    ·intro hc28
     try simp only[nrm]at hc28
     refine W_skip (N_K (W_seq (W_block (W_seq (W_drawK [0] 8 H kR Z ?_)))));intro _ H;have hd29:=PLe.refl G27
     refine dE 0 Z2 (dE 1 Z2 ?_)
     have hl30:=hlist.len
     obtain⟨_,_,_,_,ha30,hz30,hq30,hE30,hrow30,_⟩:=hlist.at (i:=i) oM
     clear hq30
     obtain⟨_,_,_,rfl,_,hr30,_,_,_⟩:=ox hE30
     refine dI 2 3 i ha30 Z3 Z (dF 3 1 Z2 (dP 4 hrow30 1 Z3 (dF 5 1 Z2 (dB 6 0 Z4 (r1 7 Z (xr H Z2 (l2Same_c _ _ H.sub _ _ hr30 _ _ hr3) ?_))))));intro _ H
     refine q4 H hd29 (rz (N_K ?_))
     refine W_cond Z ?_ ?_
     ·intro hc32
      try simp only[nrm]at hc32
      refine q2 (aG Z (q3 (W_ret (N_B_ret (N_K_ret (N_LP_ret (N_B_ret (N_B_ret (N_K_ret (N_LP_ret (N_B_ret (N_K_ret (rt1 results99 Z ?_)))))))))))))
      exact H.rets (congrArg Value.bool (by rw[Sp.StoreValid,Sp.not_all_range (k:=k) oM (by rw[Sp.okH_at hz3,Sp.all_false (l:=list.take k) (k:=i) (by rw[List.getElem?_take,if_pos oM];exact hz30) (by simp[*])];simp)];rfl))
     intro hc32'
     try simp only[nrm]at hc32'
     refine W_skip (N_B (N_K (W_region (mV Z (aD Z2 (aG Z (R_nil ?_)))))))
     refine N_lp (hJ:=⟨i+1,_,Z,hle27,H,?inv,Z⟩) (hm:=?hm)
     case hm=>omega
     case inv=>exact⟨by omega,Sp.all_take hall2 hz30 (by simp[*])⟩
    intro hc28'
    try simp only[nrm]at hc28'
    refine W_exit (N_K_exit (N_LP_exit (N_B_same (N_B (N_K (W_region (mV Z (aD Z2 (aG Z (R_nil ?_))))))))))
    have H:=H.dl 0
    refine N_lp (hJ:=⟨k+1,_,Z,hle1,H,?inv,Z⟩) (hm:=?hm)
    case hm=>omega
    case inv=>exact⟨by omega,Sp.upto_succ hall (by (obtain rfl:i=k:=by omega);rw[Sp.okH_at hz3,hall2];simp[Sp.prevId, *])⟩
  intro hc2'
  try simp only[nrm]at hc2'
  refine W_exit (N_K_exit (N_LP_exit (N_B_same (N_K (q2 (mV Z (lN Z (pe 2 Z (q3 (W_ret (rt1 results99 Z ?_)))))))))))
  exact H.rets (congrArg Value.bool (by rw[Sp.StoreValid,Sp.all_range (fun j hj=>hall j oM),Bool.true_and];rw[Bool.eq_iff_iff];simp;omega))
theorem l3At_c (w0:World)(G0:PH)(hG:PSub G0 w0)(vlist:Value)(list:List (BHeld))(hlist:RdH G0 vlist list)(id:Int) :
  Calls Tryz.prog 167 #[vlist,.int .i64 id] w0 (Rets w0 (.int .i64 (Sp.l3At list id))):=by
 obtain⟨alist,klist,rfl⟩:=hlist.shape
 have hlimlist:list.length≤1099511627776:=hlist.lim
 have H:=Hp.init hG
 refine calls_of_W (l:=[.slice alist list.length klist,.int .i64 id]) func167 Z ntmps167 Z (q2 (aG Z (q3 (W_seq (q2 (aG Z (q3 (W_block ?_))))))))
 refine W_lp (hf:=(Sub.cons (t:=0) Z (Sub.cons (t:=1) Z Sub.nil))) (J:=fun M w m=>∃(k:Nat) (G:PH),M=[(5,.int .i64 (k:Int))]∧PLe G0 G∧Hp w0 G0 [] w G []∧(k≤list.length∧(∀j,j<k→∀y,list[j]? = some y→decide (y.id=id)=false))∧m=(list.length-k)) (h0:=⟨0,_,Z,PLe.refl _,H,?inv,Z⟩) (round:=?round)
 case inv=>exact⟨by omega,fun j hj=>by omega⟩
 case round =>
  rintro _ _ _ ⟨k,_,rfl,hle1,H,hinv1,rfl⟩
  have hlist:=hlist.up hle1
  obtain⟨_,hall⟩:=hinv1
  refine W_seq (q2 (pe 2 Z (lN Z (pe 1 Z (q3 ?_)))))
  refine W_cond Z ?_ ?_
  ·intro hc2
   try simp only[nrm]at hc2
   refine W_skip (N_K (W_seq (W_block (q2 (pe 2 Z (iP k hlist Z3 Z ?_))))));intro _ _ _ _ hz3 hE3 hrow3
   obtain⟨_,_,_,rfl,_,_,_,_,_⟩:=ox hE3
   refine fA 0 Z (lP H hrow3 0 Z2 (pe 2 Z (q3 ?_)))
   refine W_cond Z ?_ ?_
   ·intro hc4
    try simp only[nrm]at hc4
    refine q2 (pe 2 Z (q3 (W_ret (N_B_ret (N_K_ret (N_LP_ret (N_B_ret (N_K_ret (rt1 results167 Z ?_)))))))))
    exact H.rets (congrArg (Value.int .i64) (by rw[Sp.l3At,Sp.atH,Sp.find_at hall hz3 (by simp;omega)];rfl))
   intro hc4'
   try simp only[nrm]at hc4'
   refine W_skip (N_B (N_K (W_region (mV Z (aD Z2 (aG Z (R_nil ?_)))))))
   refine N_lp (hJ:=⟨k+1,_,Z,hle1,H,?inv,Z⟩) (hm:=?hm)
   case hm=>omega
   case inv=>exact⟨by omega,Sp.none_succ hall hz3 (by simp;omega)⟩
  intro hc2'
  try simp only[nrm]at hc2'
  refine W_exit (N_K_exit (N_LP_exit (N_B_same (N_K (q2 (aG Z (q3 (W_ret (rt1 results167 Z ?_)))))))))
  exact H.rets (congrArg (Value.int .i64) (by rw[Sp.l3At,Sp.atH,Sp.find_none hall oM];rfl))
theorem l3Like_c (w0:World)(G0:PH)(hG:PSub G0 w0)(vlist:Value)(list:List (BHeld))(hlist:RdH G0 vlist list)(vbytes:Value)(bytes:List (Int))(hbytes:RdI G0 vbytes bytes) :
  Calls Tryz.prog 220 #[vlist,vbytes] w0 (Rets w0 (.int .i64 (Sp.l3Like list bytes))):=by
 obtain⟨alist,klist,rfl⟩:=hlist.shape
 have hlimlist:list.length≤1099511627776:=hlist.lim
 obtain⟨abytes,kbytes,rfl⟩:=hbytes.shape
 have hlimbytes:bytes.length≤1099511627776:=hbytes.lim
 have H:=Hp.init hG
 refine calls_of_W (l:=[.slice alist list.length klist,.slice abytes bytes.length kbytes]) func220 Z ntmps220 Z (q2 (aG Z (q3 (W_seq (q2 (aG Z (q3 (W_block ?_))))))))
 refine W_lp (hf:=(Sub.cons (t:=0) Z (Sub.cons (t:=1) Z Sub.nil))) (J:=fun M w m=>∃(k:Nat) (G:PH),M=[(5,.int .i64 (k:Int))]∧PLe G0 G∧Hp w0 G0 [] w G []∧(k≤list.length∧(∀j,j<k→∀y,list[j]? = some y→Sp.l2Same y.bytes bytes=false))∧m=(list.length-k)) (h0:=⟨0,_,Z,PLe.refl _,H,?inv,Z⟩) (round:=?round)
 case inv=>exact⟨by omega,fun j hj=>by omega⟩
 case round =>
  rintro _ _ _ ⟨k,_,rfl,hle1,H,hinv1,rfl⟩
  have hlist:=hlist.up hle1
  have hbytes:=hbytes.up hle1
  obtain⟨_,hall⟩:=hinv1
  refine W_seq (q2 (pe 2 Z (lN Z (pe 1 Z (q3 ?_)))))
  refine W_cond Z ?_ ?_
  ·intro hc2
   try simp only[nrm]at hc2
   refine W_skip (N_K (W_seq (W_block (q2 (pe 2 Z (iP k hlist Z3 Z ?_))))));intro _ _ _ _ hz3 hE3 hrow3
   obtain⟨_,_,_,rfl,_,hr3,_,_,_⟩:=ox hE3
   refine fA 1 Z (lP H hrow3 1 Z2 (mV Z (xr H Z2 (l2Same_c _ _ H.sub _ _ hr3 _ _ hbytes) ?_)));intro _ H
   refine q3 ?_
   refine W_cond Z ?_ ?_
   ·intro hc5
    try simp only[nrm]at hc5
    refine q2 (pe 2 Z (q3 (W_ret (N_B_ret (N_K_ret (N_LP_ret (N_B_ret (N_K_ret (rt1 results220 Z ?_)))))))))
    exact H.rets (congrArg (Value.int .i64) (by rw[Sp.l3Like,Sp.like,Sp.find_at hall hz3 hc5];rfl))
   intro hc5'
   try simp only[nrm]at hc5'
   refine W_skip (N_B (N_K (W_region (mV Z (aD Z2 (aG Z (R_nil ?_)))))))
   refine N_lp (hJ:=⟨k+1,_,Z,hle1,H,?inv,Z⟩) (hm:=?hm)
   case hm=>omega
   case inv=>exact⟨by omega,Sp.none_succ hall hz3 hc5'⟩
  intro hc2'
  try simp only[nrm]at hc2'
  refine W_exit (N_K_exit (N_LP_exit (N_B_same (N_K (q2 (aG Z (q3 (W_ret (rt1 results220 Z ?_)))))))))
  exact H.rets (congrArg (Value.int .i64) (by rw[Sp.l3Like,Sp.like,Sp.find_none hall oM];rfl))
theorem l3Copy_c (w0:World)(G0:PH)(hG:PSub G0 w0)(vlist:Value)(list:List (BHeld))(hlist:RdH G0 vlist list) :
  Calls Tryz.prog 104 #[vlist] w0 (RetO w0 G0 (AccOf heldE 3 107 list)):=by
 obtain⟨alist,klist,rfl⟩:=hlist.shape
 have hlimlist:list.length≤1099511627776:=hlist.lim
 have H:=Hp.init hG
 refine calls_of_W (l:=[.slice alist list.length klist]) func104 Z ntmps104 Z (q2 (aG Z (q1 (xbs H Z7 ?_))));intro _ _ _ H
 have H:=H.blkAcc 3 (k:=0) (n:=0) rfl rfl (by decide)
 refine aG Z (q3 (W_seq (q2 (aG Z (q3 (W_block ?_))))))
 refine W_lp (hf:=(Sub.cons (t:=0) Z (Sub.cons (t:=2) Z Sub.nil))) (J:=fun M w m=>∃(v:Value) (n:Nat) (cs:List Value) (xs:List (BHeld)) (k:Nat) (G:PH),M=[(4,.int .i64 (k:Int)),(3,v)]∧PLe G0 G∧Hp w0 G0 [] w G [acc 107 3 v n cs]∧(Chk heldE 3 G cs xs∧n=xs.length∧k≤list.length∧xs.length=k∧xs=list.take k)∧m=(list.length-k)) (h0:=⟨_,_,_,[],0,_,Z,PLe.refl _,H,?inv,Z⟩) (round:=?round)
 case inv=>exact⟨(Chk.nil (E:=heldE) (sz:=3) (G:=G0)),by first|rfl|simp|(simp;omega)|omega,(by simp)⟩
 case round =>
  rintro _ _ _ ⟨v,n,cs,xs,k,G2,rfl,hle2,H,hinv2,rfl⟩
  have hlist:=hlist.up hle2
  obtain⟨hchk2_0,_,hinv2⟩:=hinv2
  obtain⟨_,_,rfl⟩:=H.accShape (k:=0) rfl
  obtain⟨_,hxl,hxs⟩:=hinv2
  refine W_seq (q2 (pe 2 Z (lN Z (pe 1 Z (q3 ?_)))))
  refine W_cond Z ?_ ?_
  ·intro hc3
   try simp only[nrm]at hc3
   refine W_skip (N_K (W_seq (W_block (q2 (pe 2 Z (iP k hlist Z3 Z ?_))))));intro _ _ z4 _ hz4 hE4 hrow4
   obtain⟨_,_,_,rfl,_,hr4,_,_,_⟩:=ox hE4
   refine o_loadagg_P H isAgg107 sizeOf107 Z Z hrow4 Z (xal H Z ?_);intro _ _ _ H
   refine xst 0 H Z8 ?_;intro _ H
   refine q1 (xbs H Z7 ?_);intro _ _ _ H
   have H:=H.blkAcc 1 (k:=0) (n:=0) rfl rfl (by decide)
   refine fA 1 Z (lB 1 H Z3 ?_)
   refine o_append_P 0 H hr4 (by intro _ cs hz _ hu;obtain⟨rfl,_⟩:=hz;simp at hu;subst hu;rfl) (sz:=1) (bytes:=8) underlying92 typeInfo3 ⟨_,rfl,rfl⟩ rfl rfl rfl rfl rfl rfl rfl oM rfl ?_;intro _ _ css8 hcl8 hcs8 H
   have hchk8:Chk intE 1 G2 ([]++css8.flatten) _:=⟨css8,rfl,hcl8,hcs8⟩
   obtain⟨_,_,rfl⟩:=H.accShape (k:=0) rfl
   refine fA 1 Z (xst 1 H Z8 ?_);intro _ H
   refine q3 (W_region (mV Z (lA 1 3 H Z4 (xbs H Z7 ?_))));intro _ _ _ H
   refine o_append1 2 H (sz:=3) (bytes:=40) underlying30 typeInfo107 ⟨_,Z,Z⟩ Z Z Z Z Z Z Z Z Z Z oM Z ?_;intro _ _ H
   obtain⟨_,H,hsg12,hsr12⟩:=H.shut' (k:=0) rfl hchk8 aN aN
   have hchk2_0:=hchk2_0.up hsg12
   have hle2:=hle2.trans hsg12
   have hchk11:=hchk2_0.snoc (show heldE _ z4 _ from⟨_,_,_,rfl,⟨by first|omega|(dsimp only;omega),by first|omega|(dsimp only;omega)⟩,hsr12,⟨by first|omega|(dsimp only;omega),by first|omega|(dsimp only;omega)⟩⟩) rfl
   obtain⟨_,_,rfl⟩:=H.accShape (k:=1) rfl
   refine aG Z (R_nil (N_B (N_K (W_region (mV Z (aD Z2 (aG Z (R_nil ?_))))))))
   have H:=H.dl 0
   refine N_lp (hJ:=⟨_,_,_,(xs++[z4]),k+1,_,Z,hle2,H,?inv,Z⟩) (hm:=?hm)
   case hm=>omega
   case inv=>exact⟨hchk11,aN,(by exact⟨by omega,by simp[hxl],by rw[Sp.take_succ' hz4,hxs]⟩)⟩
  intro hc3'
  try simp only[nrm]at hc3'
  refine W_exit (N_K_exit (N_LP_exit (N_B_same (N_K (q2 (pe 2 Z (q3 (W_ret (rt1 results104 Z ?_)))))))))
  obtain rfl:k=list.length:=by omega
  rw[List.take_length]at hxs
  subst hxs
  exact H.retO (k:=0) rfl (AccOf.mk (by assumption) hchk2_0) (acc_nd _ _ _ _ _)
theorem l12At_c (w0:World)(G0:PH)(hG:PSub G0 w0)(vlist:Value)(list:List (BSnap))(hlist:RdSn G0 vlist list)(name:Bs)(hname:name.length≤16777216) :
  Calls Tryz.prog 65 #[vlist,str name] w0 (Rets w0 (.int .i64 (Sp.l12At list name))):=by
 obtain⟨alist,klist,rfl⟩:=hlist.shape
 have hlimlist:list.length≤1099511627776:=hlist.lim
 have H:=Hp.init hG
 refine calls_of_W (l:=[.slice alist list.length klist,str name]) func65 Z ntmps65 Z (q2 (aG Z (q3 (W_seq (q2 (aG Z (q3 (W_block ?_))))))))
 refine W_lp (hf:=(Sub.cons (t:=0) Z (Sub.cons (t:=1) Z Sub.nil))) (J:=fun M w m=>∃(k:Nat) (G:PH),M=[(5,.int .i64 (k:Int))]∧PLe G0 G∧Hp w0 G0 [] w G []∧(k≤list.length∧(∀j,j<k→∀y,list[j]? = some y→decide (y.name=name)=false))∧m=(list.length-k)) (h0:=⟨0,_,Z,PLe.refl _,H,?inv,Z⟩) (round:=?round)
 case inv=>exact⟨by omega,fun j hj=>by omega⟩
 case round =>
  rintro _ _ _ ⟨k,_,rfl,hle1,H,hinv1,rfl⟩
  have hlist:=hlist.up hle1
  obtain⟨_,hall⟩:=hinv1
  refine W_seq (q2 (pe 2 Z (lN Z (pe 1 Z (q3 ?_)))))
  refine W_cond Z ?_ ?_
  ·intro hc2
   try simp only[nrm]at hc2
   refine W_skip (N_K (W_seq (W_block (q2 (pe 2 Z (iP k hlist Z3 Z ?_))))));intro _ _ _ _ hz3 hE3 hrow3
   obtain⟨_,_,_,rfl,_,_,_,_⟩:=ox hE3
   refine fA 0 Z (lP H hrow3 0 Z2 (mV Z (o_seql Z Z Z (q3 ?_))))
   refine W_cond Z ?_ ?_
   ·intro hc4
    try simp only[nrm]at hc4
    refine q2 (pe 2 Z (q3 (W_ret (N_B_ret (N_K_ret (N_LP_ret (N_B_ret (N_K_ret (rt1 results65 Z ?_)))))))))
    exact H.rets (congrArg (Value.int .i64) (by rw[Sp.l12At,Sp.atS,Sp.find_at hall hz3 (by simp;exact hc4)];rfl))
   intro hc4'
   try simp only[nrm]at hc4'
   refine W_skip (N_B (N_K (W_region (mV Z (aD Z2 (aG Z (R_nil ?_)))))))
   refine N_lp (hJ:=⟨k+1,_,Z,hle1,H,?inv,Z⟩) (hm:=?hm)
   case hm=>omega
   case inv=>exact⟨by omega,Sp.none_succ hall hz3 (by simp;exact hc4')⟩
  intro hc2'
  try simp only[nrm]at hc2'
  refine W_exit (N_K_exit (N_LP_exit (N_B_same (N_K (q2 (aG Z (q3 (W_ret (rt1 results65 Z ?_)))))))))
  exact H.rets (congrArg (Value.int .i64) (by rw[Sp.l12At,Sp.atS,Sp.find_none hall oM];rfl))
theorem l31Before_c (w0:World)(G0:PH)(hG:PSub G0 w0)(ca:List Value)(a:BHold)(ha:holdE G0 a ca)(cb:List Value)(b:BHold)(hb:holdE G0 b cb) :
  Calls Tryz.prog 64 #[.agg ca.toArray,.agg cb.toArray] w0 (Rets w0 (.bool (Sp.l31Before a b))):=by
 obtain⟨rfl,hi1,hj1⟩:=ha;have hy_hi1:_≤16777216:=hi1;have hy_hj1:_≤16777216:=hj1
 obtain⟨rfl,hi2,hj2⟩:=hb;have hy_hi2:_≤16777216:=hi2;have hy_hj2:_≤16777216:=hj2
 have H:=Hp.init hG
 refine calls_of_W (l:=[_,_]) func64 Z ntmps64 Z (q2 (o_box H Z Z Z ?_));intro _ _ _ H
 refine o_box H Z Z Z ?_;intro _ _ _ H
 refine aG Z (q1 (fA 0 Z (lB 1 H Z3 (fA 0 Z (lB 0 H Z3 (o_slss Z Z Z (mV Z ?_)))))))
 refine R_case (t:=10) Z ?_ ?_
 ·intro hc5
  try simp only[nrm]at hc5
  refine pe 6 Z (R_pass Z (yl_un Z Z) (R_pass Z (yl_un Z Z) (R_pass Z (yl_un Z Z) (R_pass Z (yl_un Z Z) (R_pass Z (yl_un Z Z) (pe 3 Z (q3 (W_ret (rt1 results64 Z ?_)))))))))
  exact H.rets (congrArg Value.bool (by simp_all [Sp.l31Before]))
 intro hc5'
 try simp only[nrm]at hc5'
 refine gR Z (fA 0 Z (gR Z (lB 1 H Z3 (gR Z (fA 0 Z (gR Z (lB 0 H Z3 (gR Z (o_seql Z Z Z (pe 1 Z ?_))))))))))
 refine R_case (t:=16) Z ?_ ?_
 ·intro hc6
  try simp only[nrm]at hc6
  refine gR Z (fA 1 Z (gR Z (lB 1 H Z3 (gR Z (fA 1 Z (gR Z (lB 0 H Z3 (gR Z (o_slss Z Z Z (pe 3 Z (q3 (W_ret (rt1 results64 Z ?_)))))))))))))
  exact H.rets (congrArg Value.bool (by simp_all [Sp.l31Before]))
 intro hc6'
 try simp only[nrm]at hc6'
 refine pe 8 Z (q3 (W_ret (rt1 results64 Z ?_)))
 exact H.rets (congrArg Value.bool (by simp_all [Sp.l31Before]))
theorem l31Ok_c (w0:World)(G0:PH)(hG:PSub G0 w0)(ch:List Value)(h:BHold)(hh:holdE G0 h ch) :
  Calls Tryz.prog 63 #[.agg ch.toArray] w0 (Rets w0 (.bool (Sp.l31Ok h))):=by
 obtain⟨rfl,hi1,hj1⟩:=hh;have hy_hi1:_≤16777216:=hi1;have hy_hj1:_≤16777216:=hj1
 have H:=Hp.init hG
 refine calls_of_W (l:=[_]) func63 Z ntmps63 Z (q2 (o_box H Z Z Z ?_));intro _ _ _ H
 refine aG Z (q1 (fA 0 Z (lB 0 H Z3 (xr H Z2 (l1Word_c _ _ hi1) ?_))));intro _ H
 refine mV Z ?_
 refine R_case (t:=6) Z ?_ ?_
 ·intro hc4
  try simp only[nrm]at hc4
  refine gR Z (fA 1 Z (gR Z (lB 0 H Z3 (gR Z (xr H Z2 (l1Word_c _ _ hj1) ?_)))));intro _ H
  refine pe 2 Z (q3 (W_ret (rt1 results63 Z ?_)))
  exact H.rets (congrArg Value.bool (by simp_all [Sp.l31Ok]))
 intro hc4'
 try simp only[nrm]at hc4'
 refine pe 5 Z (q3 (W_ret (rt1 results63 Z ?_)))
 exact H.rets (congrArg Value.bool (by simp_all [Sp.l31Ok]))
theorem i_hvalid_c (w0:World)(G0:PH)(hG:PSub G0 w0)(ch:List Value)(h:BHold)(hh:holdE G0 h ch) :
  Calls Tryz.prog 58 #[.agg ch.toArray] w0 (Rets w0 (.bool (Sp.l31Ok h))):=by
 obtain⟨rfl,hi1,hj1⟩:=hh;have hy_hi1:_≤16777216:=hi1;have hy_hj1:_≤16777216:=hj1
 have H:=Hp.init hG
 refine calls_of_W (l:=[_]) func58 Z ntmps58 Z (q2 (o_box H Z Z Z ?_));intro _ _ _ H
 refine aG Z (q1 (fA 0 Z (lB 0 H Z3 (xr H Z2 (i_partValid_c _ _ hi1) ?_))));intro _ H
 refine mV Z ?_
 refine R_case (t:=6) Z ?_ ?_
 ·intro hc4
  try simp only[nrm]at hc4
  refine gR Z (fA 1 Z (gR Z (lB 0 H Z3 (gR Z (xr H Z2 (i_partValid_c _ _ hj1) ?_)))));intro _ H
  refine pe 2 Z (q3 (W_ret (rt1 results58 Z ?_)))
  exact H.rets (congrArg Value.bool (by simp_all [Sp.l31Ok]))
 intro hc4'
 try simp only[nrm]at hc4'
 refine pe 5 Z (q3 (W_ret (rt1 results58 Z ?_)))
 exact H.rets (congrArg Value.bool (by simp_all [Sp.l31Ok]))
theorem HoldsValid_c (w0:World)(G0:PH)(hG:PSub G0 w0)(vlist:Value)(list:List (BHold))(hlist:RdS LIM holdE 2 G0 vlist list) :
  Calls Tryz.prog 26 #[vlist] w0 (Rets w0 (.bool (Sp.HoldsValid list))):=by
 obtain⟨alist,klist,rfl⟩:=hlist.shape
 have hlimlist:list.length≤1099511627776:=hlist.lim
 have H:=Hp.init hG
 refine calls_of_W (l:=[.slice alist list.length klist]) func26 Z ntmps26 Z (q2 (aG Z (q3 (W_seq (q2 (aG Z (q3 (W_block ?_))))))))
 refine W_lp (hf:=(Sub.cons (t:=0) Z Sub.nil)) (J:=fun M w m=>∃(k:Nat) (G:PH),M=[(3,.int .i64 (k:Int))]∧PLe G0 G∧Hp w0 G0 [] w G []∧(k≤list.length∧∀j,j<k→Sp.holdOk list j=true)∧m=(list.length-k)) (h0:=⟨0,_,Z,PLe.refl _,H,?inv,Z⟩) (round:=?round)
 case inv=>exact⟨by omega,fun j hj=>by omega⟩
 case round =>
  rintro _ _ _ ⟨k,G1,rfl,hle1,H,hinv1,rfl⟩
  have hlist:=hlist.up hle1
  obtain⟨_,hall⟩:=hinv1
  refine W_seq (q2 (pe 2 Z (lN Z (pe 1 Z (q3 ?_)))))
  refine W_cond Z ?_ ?_
  ·intro hc2
   try simp only[nrm]at hc2
   refine W_skip (N_K (W_seq (W_block (W_seq (W_drawK [] 23 H kR Z ?_)))));intro _ H;have hd3:=PLe.refl G1
   refine dE 0 Z2 (dE 1 Z2 ?_)
   have hl4:=hlist.len
   obtain⟨_,_,z4,q4,ha4,hz4,hq4,hE4,hrow4,_⟩:=hlist.at (i:=k) oM
   clear hq4
   obtain⟨rfl,hi4,hj4⟩:=hE4;have hy_hi4:_≤16777216:=hi4;have hy_hj4:_≤16777216:=hj4
   refine dI 2 2 k ha4 Z3 Z (RD_t 3 Z kR Z (fun _ hK=>v_loadagg_P hK isAgg55 sizeOf55 Z hrow4 Z) (r1 4 Z (xr H Z2 (l31Ok_c _ _ H.sub _ _ ⟨Z,hi4,hj4⟩) ?_)));intro _ H
   refine q4 H hd3 (dE 5 Z2 (dE 6 Z2 ?_))
   refine RD_case (t:=16) Z ?_ ?_
   ·intro hc6
    try simp only[nrm]at hc6
    refine dE 7 Z2 (dE 8 Z2 (dE 9 Z2 (RD_pass 10 Z kR kR kR Z (yl_un Z Z) (RD_pass 11 Z kR kR kR Z (yl_un Z Z) (RD_pass 12 Z kR kR kR Z (yl_un Z Z) (RD_pass 13 Z kR kR kR Z (yl_un Z Z) (RD_pass 14 Z kR kR kR Z (yl_un Z Z) (RD_pass 15 Z kR kR kR Z (yl_un Z Z) (RD_pass 16 Z kR kR kR Z (yl_un Z Z) (RD_pass 17 Z kR kR kR Z (yl_un Z Z) (RD_pass 18 Z kR kR kR Z (yl_un Z Z) (RD_pass 19 Z kR kR kR Z (yl_un Z Z) (RD_pass 20 Z kR kR kR Z (yl_un Z Z) (dE 21 Z2 (dE 22 Z2 ?_)))))))))))))))
    refine rz (N_K (W_true Z (q2 (aG Z (q3 (W_ret (N_B_ret (N_K_ret (N_LP_ret (N_B_ret (N_K_ret (rt1 results26 Z ?_))))))))))))
    exact H.rets (congrArg Value.bool (by rw[Sp.HoldsValid,Sp.not_all_range (k:=k) oM (by rw[Sp.holdOk_at hz4];simp[Sp.prevH, *])];rfl))
   intro hc6'
   try simp only[nrm]at hc6'
   refine dE 7 Z2 (dE 8 Z2 (dE 9 Z2 ?_))
   refine RD_case (t:=19) Z ?_ ?_
   ·intro hc7
    try simp only[nrm]at hc7
    have hk0:k≠0:=by omega
    refine dE 10 Z2 (dE 11 Z2 (RD_tg 12 Z kR Z (yl Z Z) (fun _ hK=>v_sub Z Z oO) ?_))
    have hl9:=hlist.len
    obtain⟨_,_,_,_,ha9,_,hq9,hE9,hrow9,_⟩:=hlist.at (i:=(k-1)) oM
    clear hq9
    obtain⟨rfl,hi9,hj9⟩:=hE9;have hy_hi9:_≤16777216:=hi9;have hy_hj9:_≤16777216:=hj9
    refine dI 13 2 (k-1) ha9 Z3 oM (RD_tg 14 Z kR Z (yl Z Z) (fun _ hK=>v_loadagg_P hK isAgg55 sizeOf55 Z hrow9 Z) (dE 15 Z2 (dE 16 Z2 ?_)))
    have hl10:=hlist.len
    obtain⟨_,_,z10,_,ha10,hz10,hq10,hE10,hrow10,_⟩:=hlist.at (i:=k) oM
    clear hq10
    obtain⟨rfl,hi10,hj10⟩:=hE10;have hy_hi10:_≤16777216:=hi10;have hy_hj10:_≤16777216:=hj10
    have hzz10:z4=z10:=Option.some.inj (hz4.symm.trans hz10)
    subst hzz10
    refine dI 17 2 k ha10 Z3 Z (RD_tg 18 Z kR Z (yl Z Z) (fun _ hK=>v_loadagg_P hK isAgg55 sizeOf55 Z hrow10 Z) (r1 19 Z (gR Z (xr H Z2 (l31Before_c _ _ H.sub _ _ ⟨Z,hi9,hj9⟩ _ _ ⟨Z,hi10,hj10⟩) ?_))));intro _ H
    refine q4 H hd3 (dE 20 Z2 (dE 21 Z2 (dE 22 Z2 (rz (N_K ?_)))))
    refine W_cond Z ?_ ?_
    ·intro hc12
     try simp only[nrm]at hc12
     refine q2 (aG Z (q3 (W_ret (N_B_ret (N_K_ret (N_LP_ret (N_B_ret (N_K_ret (rt1 results26 Z ?_)))))))))
     exact H.rets (congrArg Value.bool (by rw[Sp.HoldsValid,Sp.not_all_range (k:=k) oM (by rw[Sp.holdOk_at hz4];simp[Sp.prevH, *])];rfl))
    intro hc12'
    try simp only[nrm]at hc12'
    refine W_skip (N_B (N_K (W_region (mV Z (aD Z2 (aG Z (R_nil ?_)))))))
    refine N_lp (hJ:=⟨k+1,_,Z,hle1,H,?inv,Z⟩) (hm:=?hm)
    case hm=>omega
    case inv=>exact⟨by omega,Sp.upto_succ hall (by rw[Sp.holdOk_at hz4];simp[Sp.prevH, *])⟩
   intro hc7'
   try simp only[nrm]at hc7'
   have hk0:k=0:=by omega
   refine dE 10 Z2 (dE 11 Z2 (dE 12 Z2 (dE 13 Z2 (dE 14 Z2 (dE 15 Z2 (dE 16 Z2 (dE 17 Z2 (dE 18 Z2 (dE 19 Z2 (dE 20 Z2 (dE 21 Z2 (dE 22 Z2 (rz (N_K (W_false Z ?_)))))))))))))))
   refine W_skip (N_B (N_K (W_region (mV Z (aD Z2 (aG Z (R_nil ?_)))))))
   refine N_lp (hJ:=⟨k+1,_,Z,hle1,H,?inv,Z⟩) (hm:=?hm)
   case hm=>omega
   case inv=>exact⟨by omega,Sp.upto_succ hall (by rw[Sp.holdOk_at hz4];simp[Sp.prevH, *])⟩
  intro hc2'
  try simp only[nrm]at hc2'
  refine W_exit (N_K_exit (N_LP_exit (N_B_same (N_K (q2 (mV Z (lN Z (pe 2 Z (q3 (W_ret (rt1 results26 Z ?_)))))))))))
  exact H.rets (congrArg Value.bool (by rw[Sp.HoldsValid,Sp.all_range (fun j hj=>hall j oM),Bool.true_and];rw[Bool.eq_iff_iff];simp;omega))
theorem i_HoldsValid_c (w0:World)(G0:PH)(hG:PSub G0 w0)(vlist:Value)(list:List (BHold))(hlist:RdS LIM holdE 2 G0 vlist list) :
  Calls Tryz.prog 33 #[vlist] w0 (Rets w0 (.bool (Sp.HoldsValid list))):=by
 obtain⟨alist,klist,rfl⟩:=hlist.shape
 have hlimlist:list.length≤1099511627776:=hlist.lim
 have H:=Hp.init hG
 refine calls_of_W (l:=[.slice alist list.length klist]) func33 Z ntmps33 Z (q2 (aG Z (q3 (W_seq (q2 (mV Z (lN Z (pe 1 Z (q3 ?_)))))))))
 refine W_cond Z ?_ ?_
 ·intro hc1
  try simp only[nrm]at hc1
  refine q2 (aG Z (q3 (W_ret (N_K_ret (rt1 results33 Z ?_)))))
  exact H.rets (congrArg Value.bool (by rw[Sp.HoldsValid,decide_eq_false (show¬list.length≤8 by omega)];simp))
 intro hc1'
 try simp only[nrm]at hc1'
 refine W_skip (N_K (W_seq (q2 (mV Z (lN Z (mV Z (q3 (W_block ?_))))))))
 refine W_lp (hf:=(Sub.cons (t:=0) Z (Sub.cons (t:=8) Z (Sub.cons (t:=9) Z Sub.nil)))) (J:=fun M w m=>∃(k:Nat) (G:PH),M=[(10,.int .i64 (k:Int))]∧PLe G0 G∧Hp w0 G0 [] w G []∧(k≤list.length∧∀j,j<k→Sp.holdOk list j=true)∧m=(list.length-k)) (h0:=⟨0,_,Z,PLe.refl _,H,?inv,Z⟩) (round:=?round)
 case inv=>exact⟨by omega,fun j hj=>by omega⟩
 case round =>
  rintro _ _ _ ⟨k,G2,rfl,hle2,H,hinv2,rfl⟩
  have hlist:=hlist.up hle2
  obtain⟨_,hall⟩:=hinv2
  refine q2 (pe 1 Z (q3 (W_seq ?_)))
  refine W_cond Z ?_ ?_
  ·intro hc3
   try simp only[nrm]at hc3
   refine W_skip (N_K (W_seq (W_block (q2 (mV Z (iP k hlist Z3 Z ?_))))));intro _ _ z4 q4 hz4 hE4 hrow4
   obtain⟨rfl,hi4,hj4⟩:=hE4;have hy_hi4:_≤16777216:=hi4;have hy_hj4:_≤16777216:=hj4
   refine o_loadagg_P H isAgg55 sizeOf55 Z Z hrow4 Z (xal H Z ?_);intro _ _ _ H
   refine aG Z (xst 0 H Z8 ?_);intro _ H
   refine q3 (W_seq (W_drawK [0] 17 H kR Z ?_));intro _ H;have hd7:=PLe.refl G2
   refine RD_t 0 Z kR Z (fun _ hK=>v_loadagg_B 0 hK isAgg55 sizeOf55 Z Z Z Z) (r1 1 Z (xr H Z2 (i_hvalid_c _ _ H.sub _ _ ⟨Z,hi4,hj4⟩) ?_));intro _ H
   refine q4 H hd7 (dE 2 Z2 (dE 3 Z2 ?_))
   refine RD_case (t:=18) Z ?_ ?_
   ·intro hc9
    try simp only[nrm]at hc9
    refine dE 4 Z2 (dE 5 Z2 (dE 6 Z2 (RD_pass 7 Z kR kR kR Z (yl_un Z Z) (RD_pass 8 Z kR kR kR Z (yl_un Z Z) (RD_pass 9 Z kR kR kR Z (yl_un Z Z) (RD_pass 10 Z kR kR kR Z (yl_un Z Z) (RD_pass 11 Z kR kR kR Z (yl_un Z Z) (RD_pass 12 Z kR kR kR Z (yl_un Z Z) (RD_pass 13 Z kR kR kR Z (yl_un Z Z) (RD_pass 14 Z kR kR kR Z (yl_un Z Z) (dE 15 Z2 (dE 16 Z2 (rz (N_K (W_true Z ?_)))))))))))))))
    refine q2 (aG Z (q3 (W_ret (N_B_ret (N_K_ret (N_LP_ret (N_B_ret (N_K_ret (rt1 results33 Z ?_)))))))))
    exact H.rets (congrArg Value.bool (by rw[Sp.HoldsValid,Sp.not_all_range (k:=k) oM (by rw[Sp.holdOk_at hz4];simp[Sp.prevH, *])];rfl))
   intro hc9'
   try simp only[nrm]at hc9'
   refine dE 4 Z2 (dE 5 Z2 (dE 6 Z2 ?_))
   refine RD_case (t:=21) Z ?_ ?_
   ·intro hc10
    try simp only[nrm]at hc10
    have hk0:k≠0:=by omega
    refine dE 7 Z2 (dE 8 Z2 (RD_tg 9 Z kR Z (yl Z Z) (fun _ hK=>v_sub Z Z oO) ?_))
    have hl12:=hlist.len
    obtain⟨_,_,z12,_,ha12,_,hq12,hE12,hrow12,_⟩:=hlist.at (i:=(k-1)) oM
    clear hq12
    obtain⟨rfl,hi12,hj12⟩:=hE12;have hy_hi12:_≤16777216:=hi12;have hy_hj12:_≤16777216:=hj12
    refine dI 10 2 (k-1) ha12 Z3 oM (RD_tg 11 Z kR Z (yl Z Z) (fun _ hK=>v_loadagg_P hK isAgg55 sizeOf55 Z hrow12 Z) (RD_tg 12 Z kR Z (yl Z Z) (fun _ hK=>v_loadagg_B 0 hK isAgg55 sizeOf55 Z Z Z Z) (r1 13 Z (gR Z (xr H Z2 (i_holdOrder_c _ _ H.sub _ _ ⟨Z,hi12,hj12⟩ _ _ ⟨Z,hi4,hj4⟩) ?_)))));intro _ H
    refine q4 H hd7 (dE 14 Z2 (dE 15 Z2 (dE 16 Z2 (rz (N_K ?_)))))
    refine W_cond Z ?_ ?_
    ·intro hc14
     try simp only[nrm]at hc14
     have hb9:Sp.l31Before z12 z4=false:=(by have h9:=cmpH_lt z12 z4;cases e:Sp.l31Before z12 z4 with |false=>rfl|true=>(have:=h9.2 e;omega))
     refine q2 (aG Z (q3 (W_ret (N_B_ret (N_K_ret (N_LP_ret (N_B_ret (N_K_ret (rt1 results33 Z ?_)))))))))
     exact H.rets (congrArg Value.bool (by rw[Sp.HoldsValid,Sp.not_all_range (k:=k) oM (by rw[Sp.holdOk_at hz4];simp[Sp.prevH, *])];rfl))
    intro hc14'
    try simp only[nrm]at hc14'
    have hb9:Sp.l31Before z12 z4=true:=(cmpH_lt z12 z4).1 oM
    refine W_skip (N_B (N_K (W_region (aD Z2 (mV Z (R_nil ?_))))))
    have H:=H.dl 0
    refine N_lp (hJ:=⟨k+1,_,Z,hle2,H,?inv,Z⟩) (hm:=?hm)
    case hm=>omega
    case inv=>exact⟨by omega,Sp.upto_succ hall (by rw[Sp.holdOk_at hz4];simp[Sp.prevH,hk0, *])⟩
   intro hc10'
   try simp only[nrm]at hc10'
   have hk0:k=0:=by omega
   refine dE 7 Z2 (dE 8 Z2 (dE 9 Z2 (dE 10 Z2 (dE 11 Z2 (dE 12 Z2 (dE 13 Z2 (dE 14 Z2 (dE 15 Z2 (dE 16 Z2 (rz (N_K (W_false Z (W_skip (N_B (N_K ?_)))))))))))))))
   refine W_region (aD Z2 (mV Z (R_nil ?_)))
   have H:=H.dl 0
   refine N_lp (hJ:=⟨k+1,_,Z,hle2,H,?inv,Z⟩) (hm:=?hm)
   case hm=>omega
   case inv=>exact⟨by omega,Sp.upto_succ hall (by rw[Sp.holdOk_at hz4];simp[Sp.prevH,hk0, *])⟩
  intro hc3'
  try simp only[nrm]at hc3'
  refine W_exit (N_K_exit (N_LP_exit (N_B_same (N_K (q2 (aG Z (q3 (W_ret (rt1 results33 Z ?_)))))))))
  exact H.rets (congrArg Value.bool (by rw[Sp.HoldsValid,Sp.all_range (fun j hj=>hall j oM),Bool.true_and];rw[Bool.eq_iff_iff];simp;omega))
theorem i_has_c (w0:World)(G0:PH)(hG:PSub G0 w0)(mbs:Nat)(ess:Array MapEntry)(cks:Nat)(Ls:List BHold)(hbs:MapAt G0 mbs ess cks)(hms:IsSet ess cks Ls)(ch:List Value)(h:BHold)(hh:holdE G0 h ch) :
  Calls Tryz.prog 96 #[.map (some mbs),.agg ch.toArray] w0 (Rets w0 (.bool (decide (h ∈ Ls)))):=by
 obtain⟨rfl,hi1,hj1⟩:=hh;have hy_hi1:_≤16777216:=hi1;have hy_hj1:_≤16777216:=hj1
 have H:=Hp.init hG
 refine calls_of_W (l:=[.map (some mbs),_]) func96 Z ntmps96 Z (q2 (o_box H Z Z Z ?_));intro _ _ _ H
 refine aG Z (q1 (mV Z (lA 0 2 H Z4 (o_hasH keyA (hbs.at H.sub) hms underlying84 zeroValue127 Z Z Z (pe 3 Z (xal H Z ?_))))));intro _ _ _ H
 refine xst 0 H Z8 ?_;intro _ H
 refine aG Z (q1 (pe 2 Z (q3 (W_ret (rt1 results96 Z ?_)))))
 exact H.rets Z
theorem i_put_c (w0:World)(G0:PH)(hG:PSub G0 w0)(mbs:Nat)(ess:Array MapEntry)(cks:Nat)(Ls:List BHold)(hms:IsSet ess cks Ls)(ch:List Value)(h:BHold)(hh:holdE G0 h ch)(hLent:Lent w0 G0 [blk mbs (.map ess cks)]) :
  Calls Tryz.prog 59 #[.map (some mbs),.agg ch.toArray] w0 (RetM w0 G0 [mbs] (fun G' v Bs=>∃(es':Array MapEntry) (ck':Nat) (L':List BHold),v= .bool (!decide (h ∈ Ls))∧Bs=[blk mbs (.map es' ck')]∧IsSet es' ck' L'∧L'=if h ∈ Ls then Ls else Ls++[h])):=by
 obtain⟨rfl,hi1,hj1⟩:=hh;have hy_hi1:_≤16777216:=hi1;have hy_hj1:_≤16777216:=hj1
 have H:Hp w0 G0 [mbs] w0 G0 [blk mbs (.map ess cks)]:=hLent.hp
 refine calls_of_W (l:=[.map (some mbs),_]) func59 Z ntmps59 Z (q2 (o_box H Z Z Z ?_));intro _ _ _ H
 refine aG Z (q3 (W_seq (q2 (mV Z (lA 0 2 H Z4 (xr H Z2 (i_has_c _ _ (H.lendSubL [1]) _ _ _ _ (H.lendPredL (k:=1) (ks:=[1]) Z Z) hms _ h ⟨Z,hi1,hj1⟩) ?_))))));intro _ H
 refine q3 ?_
 refine W_cond Z ?_ ?_
 ·intro hc4
  try simp only[nrm]at hc4
  refine q2 (aG Z (q3 (W_ret (N_K_ret (rt1 results59 Z ?_)))))
  have H:=H.dl 0
  exact H.retM ⟨_,_,_,congrArg Value.bool (by simp_all),rfl,hms,(by rw[if_pos (by simpa using hc4)])⟩
 intro hc4'
 try simp only[nrm]at hc4'
 refine W_skip (N_K (q2 (mV Z (lA 0 2 H Z4 (o_build bf127 Z Z Z (o_putH keyA (a:=h) 1 H Z hms underlying84 Z Z Z (by simpa using hc4') ?_))))));intro _ _ _ H hm5
 refine q1 (aG Z (q3 (W_ret (rt1 results59 Z ?_))))
 have H:=H.dl 0
 exact H.retM ⟨_,_,_,congrArg Value.bool (by simp_all),rfl,hm5,(by rw[if_neg (by simpa using hc4')])⟩
theorem i_openHolds_c (w0:World)(G0:PH)(hG:PSub G0 w0)(vlist:Value)(list:List (BHold))(hlist:RdS LIM holdE 2 G0 vlist list)(hLent:Lent w0 G0 []) :
  Calls Tryz.prog 55 #[vlist] w0 (RetM w0 G0 [] (fun G' v Bs=>(Sp.HoldsValid list=false∧v= .tuple #[.map none,.bool false]∧Bs=[])∨(Sp.HoldsValid list=true∧∃(mb:Nat) (es':Array MapEntry) (ck':Nat),v= .tuple #[.map (some mb),.bool true]∧Bs=[blk mb (.map es' ck')]∧IsSet es' ck' list))):=by
 obtain⟨alist,klist,rfl⟩:=hlist.shape
 have hlimlist:list.length≤1099511627776:=hlist.lim
 have H:Hp w0 G0 [] w0 G0 []:=hLent.hp
 refine calls_of_W (l:=[.slice alist list.length klist]) func55 Z ntmps55 Z (q2 (pe 2 Z (q3 (W_seq (q2 (mV Z (xr H Z2 (i_HoldsValid_c _ _ H.sub _ _ hlist) ?_)))))));intro _ H
 refine pe 1 Z (q3 ?_)
 refine W_cond Z ?_ ?_
 ·intro hc2
  try simp only[nrm]at hc2
  refine q2 (pe 2 Z (q3 (W_ret (N_K_ret (rt2 results55 Z Z ?_)))))
  exact H.retM (.inl ⟨by simpa using hc2,rfl,rfl⟩)
 intro hc2'
 try simp only[nrm]at hc2'
 have hvl:Sp.HoldsValid list=true:=by simpa using hc2'
 refine W_skip (N_K (q2 (o_makeMap H Z ?_)));intro b3 _ _ H
 have hm3:=IsSet.empty
 refine aG Z (q3 (W_seq (q2 (mV Z (lN Z (mV Z (q3 (W_block ?_))))))))
 refine W_lp (hf:=(Sub.cons (t:=2) Z (Sub.cons (t:=3) Z (Sub.cons (t:=4) Z (Sub.cons (t:=11) Z (Sub.cons (t:=12) Z Sub.nil)))))) (J:=fun M w m=>∃(esm0:Array MapEntry) (ckm0:Nat) (Lm0:List BHold) (k:Nat) (G:PH),M=[(13,.int .i64 (k:Int))]∧PLe G0 G∧Hp w0 G0 [] w G [blk b3 (.map esm0 ckm0)]∧(IsSet esm0 ckm0 Lm0∧k≤list.length∧Lm0=list.take k)∧m=(list.length-k)) (h0:=⟨_,_,[],0,_,Z,PLe.refl _,H,?inv,Z⟩) (round:=?round)
 case inv=>exact⟨hm3,(by exact⟨by omega,by simp⟩)⟩
 case round =>
  rintro _ _ _ ⟨esm0,ckm0,Lm0,k,_,rfl,hle4,H,hinv4,rfl⟩
  have hlist:=hlist.up hle4
  obtain⟨hm4_m0,hinv4⟩:=hinv4
  obtain⟨_,rfl⟩:=hinv4
  refine q2 (pe 1 Z (q3 (W_seq ?_)))
  refine W_cond Z ?_ ?_
  ·intro hc5
   try simp only[nrm]at hc5
   refine W_skip (N_K (W_seq (W_block (q2 (iP k hlist Z3 Z ?_)))));intro _ _ z6 _ hz6 hE6 hrow6
   obtain⟨rfl,hi6,hj6⟩:=hE6;have hy_hi6:_≤16777216:=hi6;have hy_hj6:_≤16777216:=hj6
   refine o_loadagg_P H isAgg55 sizeOf55 Z Z hrow6 Z (xal H Z ?_);intro _ _ _ H
   refine xst 0 H Z8 ?_;intro _ H
   refine q3 (W_region (mV Z (lA 0 2 H Z4 ?_)))
   have H:=H.tF 1
   refine xc Z2 (i_put_c _ _ H.sub _ _ _ _ hm4_m0 _ z6 ⟨Z,hi6,hj6⟩ H.lent1) ?_
   rintro _ _ ⟨_,_,_,rfl,H9',⟨_,_,L9,rfl,rfl,hm9,hL9⟩⟩
   have hle4:=hle4.trans H9'.le
   have H:=H.borrow1 H9'
   refine⟨_,Z,?_⟩
   refine R_nil (N_B (N_K (W_region (aD Z2 (mV Z (R_nil ?_))))))
   have hnn:=Sp.hv_nd hvl hz6
   have H:=H.dl 1
   refine N_lp (hJ:=⟨_,_,L9,k+1,_,Z,hle4,H,?inv,Z⟩) (hm:=?hm)
   case hm=>omega
   case inv=>exact⟨hm9,(by exact⟨by omega,by (rw[hL9,if_neg hnn,Sp.take_snoc hz6])⟩)⟩
  intro hc5'
  try simp only[nrm]at hc5'
  refine W_exit (N_K_exit (N_LP_exit (N_B_same (N_K (q2 (pe 3 Z (q3 (W_ret (rt2 results55 Z Z ?_)))))))))
  have hm9:=hm4_m0;rw[List.take_of_length_le oM]at hm9
  exact H.retM (.inr ⟨hvl,_,_,_,Z,Z,hm9⟩)
theorem i_HoldTags_c (w0:World)(G0:PH)(hG:PSub G0 w0)(vlist:Value)(list:List (BHold))(hlist:RdS LIM holdE 2 G0 vlist list)(snap:Bs)(hsnap:snap.length≤16777216) :
  Calls Tryz.prog 20 #[vlist,str snap] w0 (RetP w0 G0 (fun G v=>RdT G v (Sp.HoldTags list snap))):=by
 obtain⟨alist,klist,rfl⟩:=hlist.shape
 have hlimlist:list.length≤1099511627776:=hlist.lim
 have H:=Hp.init hG
 refine calls_of_W (l:=[.slice alist list.length klist,str snap]) func20 Z ntmps20 Z (q2 (aG Z (q1 (mV Z (xc Z2 (i_openHolds_c _ _ H.sub _ _ hlist H.lent0) ?_)))))
 rintro _ _ ⟨G1,_,_,rfl,H1',⟨_,rfl,rfl⟩|⟨_,_,_,_,rfl,rfl,hm1⟩⟩
 ·skip
  have H:=H.borrow0 H1'
  refine⟨_,Z,?_⟩
  refine pe 5 Z (q3 (W_seq (q2 (pe 2 Z (q3 (W_true Z (q2 (aG Z (q3 (W_ret (N_K_ret (rt1 results20 Z ?_))))))))))))
  have h9:Sp.HoldTags list snap=[]:=Sp.tags_no (by assumption)
  exact H.retP (by (rw[h9];exact RdS.nil _ _ _))
 skip
 have H:=H.borrow0 H1'
 refine⟨_,Z,?_⟩
 refine pe 5 Z (q3 (W_seq (q2 (pe 2 Z (q3 (W_false Z (W_skip (N_K (q2 (aG Z (q3 (W_seq (q2 ?_)))))))))))))
 have hvl:Sp.HoldsValid list=true:=by assumption
 have h8l:=(Sp.hvalid_iff.1 hvl).len
 refine mV Z (o_call call56 Z Z (sorted_h _ _ _ _ _ (H.at (k:=0) Z) hm1 oM) ?_);rintro _ w2 ⟨v2,xs2,rfl,ek2,hp2,hf2,hperm2,hsrt2⟩;have H:=H.add ek2 _ hp2 hf2 (acc_nd _ _ _ _ _)
 have hchk2:Chk holdE 2 G1 _ _:=chkH_of (xs:=xs2) (fun x hx=>(Sp.list_small hvl) x (hperm2.mem_iff.1 hx));obtain⟨av2,cv2,rfl⟩:=H.accShape (k:=0) rfl;refine⟨_,rfl,?_⟩
 refine lN Z (mV Z (q3 (W_block ?_)))
 obtain rfl:list=xs2:=(Sp.tags_sorted hvl hperm2 hsrt2).symm
 have H:=H.dl 1
 have H:=H.addNil 9 1
 refine W_lp (hf:=(Sub.cons (t:=1) Z (Sub.cons (t:=4) Z (Sub.cons (t:=18) Z (Sub.cons (t:=19) Z Sub.nil))))) (J:=fun M w m=>∃(v:Value) (n:Nat) (cs:List Value) (xs:List (Bs)) (k:Nat) (G:PH),M=[(20,.int .i64 (k:Int)),(7,v)]∧PLe G1 G∧Hp w0 G0 [] w G [acc 9 1 v n cs,acc 55 2 (.slice av2 list.length cv2) list.length (flatH list)]∧(Chk strE 1 G cs xs∧n=xs.length∧k≤list.length∧xs=((list.take k).filter (fun h=>decide (h.snap=snap))).map (·.tag)∧xs.length≤k)∧m=(list.length-k)) (h0:=⟨_,_,_,[],0,_,Z,PLe.refl _,H,?inv,Z⟩) (round:=?round)
 case inv=>exact⟨(Chk.nil (E:=strE) (sz:=1) (G:=G1)),by first|rfl|simp|(simp;omega)|omega,(by exact⟨by omega,by simp,by simp⟩)⟩
 case round =>
  rintro _ _ _ ⟨v,n,cs,xs,k,_,rfl,hle4,H,hinv4,rfl⟩
  have hchk2:=hchk2.up hle4
  obtain⟨hchk4_0,_,hinv4⟩:=hinv4
  obtain⟨_,_,rfl⟩:=H.accShape (k:=0) rfl
  obtain⟨_,hxs,_⟩:=hinv4
  refine q2 (pe 1 Z (q3 (W_seq ?_)))
  refine W_cond Z ?_ ?_
  ·intro hc5
   try simp only[nrm]at hc5
   refine W_skip (N_K (W_seq (W_block (q2 (o_index_A 1 H k Z hchk2 underlying38 sizeOf55 Z Z Z Z aN aN ?_)))));intro _ z6 _ hba6 hz6 hE6 hg6;cases hba6
   obtain⟨rfl,hi6,hj6⟩:=hE6;have hy_hi6:_≤16777216:=hi6;have hy_hj6:_≤16777216:=hj6
   refine o_loadagg_A 1 H isAgg55 sizeOf55 Z Z Z hg6 Z (xal H Z ?_);intro _ _ _ H
   refine xst 0 H Z8 ?_;intro _ H
   refine q1 (fA 0 Z (lB 0 H Z3 (mV Z (o_seql Z Z Z (q3 ?_)))))
   refine W_cond Z ?_ ?_
   ·intro hc9
    try simp only[nrm]at hc9
    refine W_region (mV Z (fA 1 Z (lB 0 H Z3 (xbs H Z7 ?_))));intro _ _ _ H
    refine o_append1 1 H (sz:=1) (bytes:=16) underlying49 typeInfo9 ⟨_,Z,Z⟩ Z Z Z Z Z Z Z Z Z Z oM Z ?_;intro _ _ H
    have hchk11:=hchk4_0.snoc (show strE _ z6.tag _ from⟨rfl,hj6⟩) rfl
    obtain⟨_,_,rfl⟩:=H.accShape (k:=1) rfl
    refine aG Z (R_nil (N_B (N_K (W_region (aD Z2 (mV Z (R_nil ?_)))))))
    have H:=H.dl 0
    refine N_lp (hJ:=⟨_,_,_,(xs++[z6.tag]),k+1,_,Z,hle4,H,?inv,Z⟩) (hm:=?hm)
    case hm=>omega
    case inv=>exact⟨hchk11,aN,(by exact⟨by omega,by (rw[hxs,Sp.tags_yes hz6 (by simpa using hc9)]),by (first|omega|(simp;omega))⟩)⟩
   intro hc9'
   try simp only[nrm]at hc9'
   refine W_skip (N_B (N_K (W_region (aD Z2 (mV Z (R_nil ?_))))))
   have H:=H.dl 0
   refine N_lp (hJ:=⟨_,_,_,xs,k+1,_,Z,hle4,H,?inv,Z⟩) (hm:=?hm)
   case hm=>omega
   case inv=>exact⟨hchk4_0,aN,(by exact⟨by omega,by (rw[hxs,Sp.tags_not hz6 (by simpa using hc9')]),by (first|omega|(simp;omega))⟩)⟩
  intro hc5'
  try simp only[nrm]at hc5'
  refine W_exit (N_K_exit (N_LP_exit (N_B_same (N_K (q2 (pe 2 Z (q3 (W_ret (rt1 results20 Z ?_)))))))))
  obtain⟨_,H,hsg515,hsr515⟩:=H.shut' (k:=0) rfl hchk4_0 aN aN
  have H:=H.dl 0
  have h9:Sp.HoldTags list snap=xs:=by (rw[Sp.tags_eq hvl,hxs,show k=list.length by omega,List.take_length])
  exact H.retP (by (rw[h9];exact hsr515))
theorem i_DropFree_c (w0:World)(G0:PH)(hG:PSub G0 w0)(cd:List Value)(d:BDisk)(hd:diskE G0 d cd)(vlist:Value)(list:List (BHold))(hlist:RdS LIM holdE 2 G0 vlist list)(snap:Bs)(hsnap:snap.length≤16777216) :
  Calls Tryz.prog 11 #[.agg cd.toArray,vlist,str snap] w0 (RetN w0 G0 (fun v Bs=>∃(v1 v2 v3:Value) (F1 F2 F3:Fr),v= .tuple #[.agg #[v1,v2,v3],.bool (Sp.DropFree d list snap).isSome]∧Bs=[frag F1,frag F2,frag F3]∧OHs F1 v1 ((Sp.DropFree d list snap).getD ⟨[],[],[]⟩).store∧OIs F2 v2 ((Sp.DropFree d list snap).getD ⟨[],[],[]⟩).tree∧OSn F3 v3 ((Sp.DropFree d list snap).getD ⟨[],[],[]⟩).snaps)):=by
 obtain⟨_,_,_,_,_,_,_,_,_,rfl,hr1,hr1',hr1'',⟨_,_⟩,⟨_,_⟩,_,_⟩:=ox hd
 obtain⟨alist,klist,rfl⟩:=hlist.shape
 have hlimlist:list.length≤1099511627776:=hlist.lim
 have H:=Hp.init hG
 refine calls_of_W (l:=[_,.slice alist list.length klist,str snap]) func11 Z ntmps11 Z (q2 (o_box H Z Z Z ?_));intro _ _ _ H
 refine xal H Z ?_;intro _ _ _ H
 refine aG Z (q3 (W_seq (q2 (mV Z (xr H Z2 (i_HoldsValid_c _ _ H.sub _ _ hlist) ?_)))));intro _ H
 refine pe 2 Z ?_
 refine R_case (t:=11) Z ?_ ?_
 ·intro hc5
  try simp only[nrm]at hc5
  refine pe 6 Z (q3 (W_true Z (q2 (o_build bf34 Z Z Z (xst 0 H Z8 ?_)))));intro _ H
  refine aG Z (q3 (W_ret (N_K_ret (ret_gen (rs:=[.cell 6 34,.tmp 7]) (vs:=[_,_]) results11 ⟨⟨_,Z,load_blk 0 H isAgg34 sizeOf34 Z Z Z⟩,Z,trivial⟩ ?_))))
  have H:=H.dl 0
  have H:=H.dl 0
  have hno:Sp.DropFree d list snap=none:=Sp.free_no (.inl (by simpa using hc5))
  have H:=(((H.addF).addF).addF).forget hG (by simp)
  refine⟨_,_,Z,H,.slice none 0 0,.slice none 0 0,.slice none 0 0,[],[],[],?_,Z,?_,?_,?_⟩
  ·(rw[hno];rfl)
  ·(rw[hno];exact oh_nil)
  ·(rw[hno];exact oi_nil)
  (rw[hno];exact os_nil)
 intro hc5'
 try simp only[nrm]at hc5'
 refine pe 2 Z (gR Z (xc Z2 (i_HoldTags_c _ _ H.sub _ _ hlist _ hsnap) ?_))
 rintro _ _ ⟨_,_,g7,rfl,hr7_0⟩
 have H:=H.grow g7
 have hr1:=hr1.up g7.le
 have hr1':=hr1'.up g7.le
 have hr1'':=hr1''.up g7.le
 obtain⟨_,_,rfl⟩:=hr7_0.shape;have hx_hr7_0:_≤1099511627776:=hr7_0.lim
 refine⟨_,Z,?_⟩
 refine gR Z (lN Z (pe 2 Z (q3 ?_)))
 refine W_cond Z ?_ ?_
 ·intro hc8
  try simp only[nrm]at hc8
  refine q2 (o_build bf34 Z Z Z (xst 0 H Z8 ?_));intro _ H
  refine aG Z (q3 (W_ret (N_K_ret (ret_gen (rs:=[.cell 6 34,.tmp 7]) (vs:=[_,_]) results11 ⟨⟨_,Z,load_blk 0 H isAgg34 sizeOf34 Z Z Z⟩,Z,trivial⟩ ?_))))
  have H:=H.dl 0
  have H:=H.dl 0
  have hno:Sp.DropFree d list snap=none:=Sp.free_no (.inr (fun h9=>(by have h8:(Sp.HoldTags list snap).length=0:=(by rw[h9];rfl);omega)))
  have H:=(((H.addF).addF).addF).forget hG (by simp)
  refine⟨_,_,Z,H,.slice none 0 0,.slice none 0 0,.slice none 0 0,[],[],[],?_,Z,?_,?_,?_⟩
  ·(rw[hno];rfl)
  ·(rw[hno];exact oh_nil)
  ·(rw[hno];exact oi_nil)
  (rw[hno];exact os_nil)
 intro hc8'
 try simp only[nrm]at hc8'
 refine W_skip (N_K (q2 (lA 1 3 H Z4 (mV Z (xc Z2 (i_SnapDrop_c _ _ H.sub _ d ⟨_,_,_,_,_,_,_,_,_,Z,hr1,hr1',hr1''⟩ _ hsnap) ?_)))))
 rintro _ _ ⟨_,_,rfl,H10',⟨_,_,_,E110,E210,E310,rfl,rfl,ho110,ho210,ho310⟩⟩
 have H:=H.readers (fp:=[]) (by simp) (PLe.refl _) H10'
 obtain⟨_,p110⟩:=ho110
 obtain⟨a110,c110,rfl⟩:=OwnS.shape p110
 obtain⟨_,p210⟩:=ho210
 obtain⟨a210,c210,rfl⟩:=OwnS.shape p210
 obtain⟨_,p310⟩:=ho310
 obtain⟨a310,c310,rfl⟩:=OwnS.shape p310
 refine⟨_,Z,?_⟩
 refine pe 2 Z (xst 3 H Z8 ?_);intro _ H
 refine aG Z (q3 (W_ret (ret_gen (rs:=[.cell 6 34,.tmp 7]) (vs:=[_,_]) results11 ⟨⟨_,Z,load_blk 3 H isAgg34 sizeOf34 Z Z Z⟩,Z,trivial⟩ ?_)))
 have H:=H.sel [0,1,2] rfl
 have hY:Sp.DropFree d list snap=Sp.SnapDrop d snap:=Sp.free_yes (by assumption) (List.eq_nil_of_length_eq_zero oM)
 have H:=H.forget hG (by simp)
 exact⟨_,_,rfl,H,.slice a110 ((Sp.SnapDrop d snap).getD ⟨[],[],[]⟩).store.length c110,.slice a210 ((Sp.SnapDrop d snap).getD ⟨[],[],[]⟩).tree.length c210,.slice a310 ((Sp.SnapDrop d snap).getD ⟨[],[],[]⟩).snaps.length c310,E110,E210,E310,(by rw[hY];rfl),rfl,(by rw[hY];exact⟨_,p110⟩),(by rw[hY];exact⟨_,p210⟩),(by rw[hY];exact⟨_,p310⟩)⟩
theorem l6Open_c (w0:World)(G0:PH)(hG:PSub G0 w0)(vcode:Value)(code:List (UInt8))(hcode:RdU G0 vcode code) :
  Calls Tryz.prog 45 #[vcode] w0 (RetO w0 G0 (fun G val r=>∃(b:Nat) (ab:Option Addr) (mb kb:Nat) (bs:List UInt8),val= .pointer (some ⟨b,0,none⟩)∧r=blk b (cl [.slice ab mb kb,.int .i64 ((0:Nat):Int)] 117)∧RdU G (.slice ab mb kb) bs)):=by
 obtain⟨acode,kcode,rfl⟩:=hcode.shape
 have hlimcode:code.length≤1099511627776:=hcode.lim
 have H:=Hp.init hG
 refine calls_of_W (l:=[.slice acode code.length kcode]) func45 Z ntmps45 Z (q2 (aG Z (q3 (W_seq (q2 (mV Z (lN Z (pe 1 Z (q3 ?_)))))))))
 refine W_cond Z ?_ ?_
 ·intro hc1
  try simp only[nrm]at hc1
  refine W_region (mV Z ?_)
  have hcap2:=hcode.cap;try simp only[List.length_set,List.length_append,List.length_take,List.length_drop,List.length_replicate]at hcap2
  refine o_slice_to (j:=2000) underlying45 sizeOf5 Z Z Z oM oM ?_
  have hsl2:=hcode.take (j:=2000) aN
  have hsn1:=hsl2.len
  refine aG Z (q1 (mV Z (o_build bf117 Z Z Z (o_box H Z Z Z ?_))));intro _ _ _ H
  refine aG Z (q3 (W_ret (rt1 results45 Z ?_)))
  exact H.retO (k:=0) rfl ⟨_,_,_,_,_,rfl,rfl,hsl2⟩ (by simp[blk])
 intro hc1'
 try simp only[nrm]at hc1'
 refine W_skip (N_K (q2 (mV Z (o_build bf117 Z Z Z (o_box H Z Z Z ?_)))));intro _ _ _ H
 refine aG Z (q3 (W_ret (rt1 results45 Z ?_)))
 exact H.retO (k:=0) rfl ⟨_,_,_,_,_,rfl,rfl,hcode⟩ (by simp[blk])
theorem pick_c (w0:World)(G0:PH)(hG:PSub G0 w0)(rb:Nat)(ab:Option Addr)(mb kb:Nat)(bs:List UInt8)(p:Nat)(hbs:RdU G0 (.slice ab mb kb) bs)(hrb:w0.heap[rb]? = some (cl [.slice ab mb kb,.int .i64 (p:Int)] 117))(hrn:G0 rb=none)(hp:p≤1000000000000)(n:Int)(hn:inI n) :
  Calls Tryz.prog 78 #[.pointer (some ⟨rb,0,none⟩),.int .i64 n] w0 (RetM w0 G0 [rb] (fun G val Bs=>∃(p':Nat) (x:Nat),p'≤p+1∧val= .int .i64 (x:Int)∧((x:Int)<n∨x=0)∧Bs=[blk rb (cl [.slice ab mb kb,.int .i64 (p':Int)] 117)])):=by
 have hlimbs:bs.length≤1099511627776:=hbs.lim;obtain rfl:mb=bs.length:=hbs.len
 have H:=Hp.initM hG hrb hrn
 refine calls_of_W (l:=[.pointer (some ⟨rb,0,none⟩),.int .i64 n]) func78 Z ntmps78 Z (q2 (aG Z (q1 (pe 3 Z (fA 1 Z (lB 0 H Z3 (aD Z2 (pe 1 Z (fA 1 Z (xst 0 H Z8 ?_))))))))));intro _ H
 refine q3 (W_seq (q2 (pe 3 Z ?_)))
 refine R_case (t:=17) Z ?_ ?_
 ·intro hc3
  try simp only[nrm]at hc3
  refine pe 7 Z (q3 (W_true Z (q2 (aG Z (q3 (W_ret (N_K_ret (rt1 results78 Z ?_))))))))
  exact H.retM ⟨p+1,0,by omega,rfl,.inr rfl,rfl⟩
 intro hc3'
 try simp only[nrm]at hc3'
 refine pe 2 Z (gR Z (fA 0 Z (gR Z (lB 0 H Z3 (gR Z (lN Z (pe 2 Z (q3 ?_))))))))
 refine W_cond Z ?_ ?_
 ·intro hc4
  try simp only[nrm]at hc4
  refine q2 (aG Z (q3 (W_ret (N_K_ret (rt1 results78 Z ?_)))))
  exact H.retM ⟨p+1,0,by omega,rfl,.inr rfl,rfl⟩
 intro hc4'
 try simp only[nrm]at hc4'
 have hm0:0<bs.length:=by omega
 have hm1:=Nat.mod_lt p hm0
 have hm2:=Nat.mod_lt (p*7+3) hm0
 have hq1:0≤((p:Int)+1-1) / (bs.length:Int):=Int.ediv_nonneg oM oM
 have hq2:((p:Int)+1-1) / (bs.length:Int)≤(p:Int)+1-1:=Int.ediv_le_self _ oM
 refine W_skip (N_K (q2 (pe 2 Z (fA 1 Z (lB 0 H Z3 (o_sub Z Z Z oO (aG Z (q3 (W_seq (q2 (pe 3 Z (fA 0 Z (lB 0 H Z3 (lN Z (pe 1 Z ?_)))))))))))))))
 refine q3 ?_
 refine W_cond Z ?_ ?_
 ·intro hc6
  try simp only[nrm]at hc6
  refine q2 (pe 2 Z (fA 0 Z (lB 0 H Z3 (mV Z (iP p hbs Z3 oM ?_)))));intro _ _ z7 _ _ hE7 hrow7
  obtain rfl:=hE7
  have hzl7:=z7.toNat_lt
  refine lP H hrow7 0 Z2 (o_conv (by simp[underlying5]) underlying3 Z Z (wrap_i64 oO) (mV Z (o_rem Z Z Z oM oM (aG Z (q3 (W_ret (N_K_ret (rt1 results78 Z ?_))))))))
  exact H.retM ⟨p+1,_,by omega,congrArg (Value.int .i64) (Int.toNat_of_nonneg (Int.emod_nonneg _ oM)).symm,.inl (by rw[Int.toNat_of_nonneg (Int.emod_nonneg _ oM)];exact Int.emod_lt_of_pos _ oM),rfl⟩
 intro hc6'
 try simp only[nrm]at hc6'
 refine W_skip (N_K (W_seq (W_drawK [0] 46 H kR Z ?_)));intro _ H;have hd8:=PLe.refl G0
 refine dE 0 Z2 (dE 1 Z2 (dF 2 0 Z2 (dB 3 0 Z4 (dE 4 Z2 (dE 5 Z2 (dE 6 Z2 (dF 7 0 Z2 (dB 8 0 Z4 (dN 9 Z2 (RD_t 10 Z kR Z (fun _ hK=>v_rem Z Z oM oM) ?_))))))))))
 have hl9:=hbs.len
 obtain⟨_,_,z9,_,ha9,_,hq9,hE9,hrow9,_⟩:=hbs.at (i:=(p % bs.length)) oM
 clear hq9
 obtain rfl:=hE9
 have hzl9:=z9.toNat_lt
 refine RD_t 11 Z kR Z (fun _ hK=>v_index_P (i:=(p % bs.length)) ha9 underlying45 sizeOf5 Z Z (by rw[Int.add_sub_cancel];exact(Int.natCast_emod _ _).symm) oM) ?_
 refine dP 12 hrow9 0 Z3 (RD_t 13 Z kR Z (fun _ hK=>v_conv (by simp[underlying5]) underlying3 Z (wrap_i64 oO)) (RD_t 14 Z kR Z (fun _ hK=>v_mul Z Z oO) (dE 15 Z2 (dE 16 Z2 (dF 17 0 Z2 (dB 18 0 Z4 (dE 19 Z2 (RD_t 20 Z kR Z (fun _ hK=>v_mul Z Z oO) (RD_t 21 Z kR Z (fun _ hK=>v_add Z Z oO) (dE 22 Z2 (dE 23 Z2 (dF 24 0 Z2 (dB 25 0 Z4 (dN 26 Z2 (RD_t 27 Z kR Z (fun _ hK=>v_rem Z Z oM oM) ?_)))))))))))))))
 have hl13:=hbs.len
 obtain⟨_,_,z13,_,ha13,_,hq13,hE13,hrow13,_⟩:=hbs.at (i:=((p*7+3) % bs.length)) oM
 clear hq13
 obtain rfl:=hE13
 have hzl13:=z13.toNat_lt
 refine RD_t 28 Z kR Z (fun _ hK=>v_index_P (i:=((p*7+3) % bs.length)) ha13 underlying45 sizeOf5 Z Z (by rw[Int.add_sub_cancel];exact(Int.natCast_emod _ _).symm) oM) ?_
 refine dP 29 hrow13 0 Z3 (RD_t 30 Z kR Z (fun _ hK=>v_conv (by simp[underlying5]) underlying3 Z (wrap_i64 oO)) (RD_t 31 Z kR Z (fun _ hK=>v_mul Z Z oO) (RD_t 32 Z kR Z (fun _ hK=>v_add Z Z oO) (dE 33 Z2 (RD_t 34 Z kR Z (fun _ hK=>v_mul Z Z oO) (RD_t 35 Z kR Z (fun _ hK=>v_add Z Z oO) (dE 36 Z2 (dE 37 Z2 (dE 38 Z2 (dF 39 0 Z2 (dB 40 0 Z4 (dN 41 Z2 (RD_t 42 Z kR Z (fun _ hK=>v_quo Z Z oM oM oM) (RD_t 43 Z kR Z (fun _ hK=>v_mul Z Z oO) (RD_t 44 Z kR Z (fun _ hK=>v_add Z Z oO) ?_)))))))))))))))
 refine dE 45 Z2 (rz (N_K (q2 (pe 2 Z (o_quo Z Z Z oM oM oM (o_xor Z Z Z oO oO ?_))))));intro _ _
 refine aG Z (q1 (pe 2 Z (o_rem Z Z Z oM oM (aG Z (q3 (W_ret (rt1 results78 Z ?_)))))))
 exact H.retM ⟨p+1,_,by omega,congrArg (Value.int .i64) (Int.toNat_of_nonneg (Int.emod_nonneg _ oM)).symm,.inl (by rw[Int.toNat_of_nonneg (Int.emod_nonneg _ oM)];exact Int.emod_lt_of_pos _ oM),rfl⟩
theorem l3Free_c (w0:World)(G0:PH)(hG:PSub G0 w0)(vlist:Value)(list:List (BHeld))(hlist:RdH G0 vlist list) :
  Calls Tryz.prog 221 #[vlist] w0 (Rets w0 (.int .i64 (Sp.freeId list:Int))):=by
 obtain⟨alist,klist,rfl⟩:=hlist.shape
 have hlimlist:list.length≤1099511627776:=hlist.lim
 have H:=Hp.init hG
 refine calls_of_W (l:=[.slice alist list.length klist]) func221 Z ntmps221 Z (q2 (aG Z (q1 (aG Z (q3 (W_seq (W_block ?_)))))))
 refine W_lp (hf:=(Sub.cons (t:=0) Z (Sub.cons (t:=2) Z Sub.nil))) (J:=fun M w m=>∃(k:Nat) (G:PH),M=[(3,.int .i64 ((k:Int)+1))]∧PLe G0 G∧Hp w0 G0 [] w G []∧(∀j:Nat,j<k→(Sp.atH list ((j:Int)+1)).isSome=true)∧m=(list.length+1-k)) (h0:=⟨0,_,Z,PLe.refl _,H,?inv,Z⟩) (round:=?round)
 case inv=>exact fun j hj=>by omega
 case round =>
  rintro _ _ _ ⟨k,_,rfl,hle1,H,hinv1,rfl⟩
  have hlist:=hlist.up hle1
  have hall:=hinv1;have hkl:=Sp.free_le hall
  refine W_seq (q2 (pe 2 Z (xr H Z2 (l3At_c _ _ H.sub _ _ hlist _) ?_)));intro _ H
  refine pe 1 Z (q3 ?_)
  refine W_cond Z ?_ ?_
  ·intro hc3
   try simp only[nrm]at hc3
   refine W_skip (N_K (W_block (W_region (mV Z (aD Z2 (aG Z (R_nil (N_B ?_))))))))
   refine N_lp (hJ:=⟨k+1,_,Z,hle1,H,?inv,Z⟩) (hm:=?hm)
   case hm=>omega
   case inv=>exact Sp.upto_succ (p:=fun j:Nat=>(Sp.atH list ((j:Int)+1)).isSome) hall (Sp.isSome_of hc3)
  intro hc3'
  try simp only[nrm]at hc3'
  refine W_exit (N_K_exit (N_LP_exit (N_B_same (N_K (q2 (pe 2 Z (q3 (W_ret (rt1 results221 Z ?_)))))))))
  exact H.rets (congrArg (Value.int .i64) (by rw[Sp.free_eq hall (Sp.isNone_of hc3')];rfl))
end Go.Proofs.Tst
