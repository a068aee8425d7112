/- Part 5 of the proof: the program logic and plain functions. Conditions: none. -/
import Derived.Test.YthnkmdhbcpjfeaaGreatDoorProg
import Derived.Test.YthnkmdhbcpjfeaaGreatDoorG02
import Derived.Test.YthnkmdhbcpjfeaaGreatDoorG03
import Derived.Test.YthnkmdhbcpjfeaaGreatDoorG04
import Derived.Conc.MuLone
import Derived.KernelRfl
import Derived.Shelf.SlSortCmp.WholeK
import Derived.WalkKit
import Derived.Shelf.SlSortCmp.NoneTotal
import Derived.Lib.Walk
set_option linter.all false
set_option maxRecDepth 100000
set_option maxHeartbeats 8000000
namespace Go.Proofs.Tst
open Go Fw Tryz
theorem i_openTree_c (w0:World)(G0:PH)(hG:PSub G0 w0)(vlist:Value)(list:List (BItem))(hlist:RdItems G0 vlist list)(hLent:Lent w0 G0 []) :
  Calls Tryz.prog 53 #[vlist] w0 (RetM w0 G0 [] (fun G' v Bs=>(v= .tuple #[.pointer none,.bool false]∧Bs=[]∧Sp.TreeValid list=false)∨(∃(T:Nd) (F:Fr),v= .tuple #[.pointer (some ⟨T.b,0,none⟩),.bool true]∧Bs=[frag F]∧NdO 150 80 G' T F∧Nd.TOK T list∧Sp.TreeValid list=true))):=by
 obtain⟨alist,klist,rfl⟩:=hlist.shape
 have hlimlist:list.length≤1099511627776:=hlist.lim
 have H:Hp w0 G0 [] w0 G0 []:=hLent.hp
 refine calls_of_W (l:=[.slice alist list.length klist]) func53 Z ntmps53 Z (q2 (pe 2 Z (q3 (W_seq (q2 (mV Z (lN Z (pe 1 Z (q3 ?_)))))))))
 refine W_cond Z ?_ ?_
 ·intro hc1
  try simp only[nrm]at hc1
  refine q2 (pe 2 Z (q3 (W_ret (N_K_ret (rt2 results53 Z Z ?_)))))
  exact H.retM (.inl ⟨Z,Z,Nd.tv_long oM⟩)
 intro hc1'
 try simp only[nrm]at hc1'
 refine W_skip (N_K (q2 (o_build bf150 Z Z Z (o_box H Z Z Z ?_))));intro b2 _ _ H
 refine aG Z (q1 (aG Z (q3 (W_seq (q2 (mV Z (lN Z (mV Z (q3 (W_block ?_))))))))))
 have H:=H.addF
 have H:=H.tF 1
 have H:=H.inF
 have hN0:NdO 150 80 G0 (Nd.mk b2 [] true [] []) _:=NdO.new (by simp) (RdS.nil _ _ _)
 refine W_lp (hf:=(Sub.cons (t:=13) Z (Sub.cons (t:=14) Z Sub.nil))) (J:=fun M w m=>∃(k:Nat) (la:Bs) (T:Nd) (FT:Fr) (G:PH),M=[(15,.int .i64 (k:Int)),(5,str la),(4,.pointer (some ⟨T.b,0,none⟩))]∧PLe G0 G∧Hp w0 G0 [] w G [frag FT]∧(k≤list.length∧la=Nd.lastPath list k∧la.length≤16777216∧NdO 150 80 G T FT∧Nd.TOK T (list.take k))∧m=(list.length-k)) (h0:=⟨0,[],(Nd.mk b2 [] true [] []),_,_,Z,PLe.refl _,H,?inv,Z⟩) (round:=?round)
 case inv=>exact⟨by omega,rfl,by simp,hN0,Nd.tok_root _⟩
 case round =>
  rintro _ _ _ ⟨k,la,T,FT,_,rfl,hle3,H,hinv3,rfl⟩
  have hlist:=hlist.up hle3
  obtain⟨_,hla,_,hNT,hTok⟩:=hinv3
  refine q2 (pe 1 Z (q3 (W_seq ?_)))
  refine W_cond Z ?_ ?_
  ·intro hc4
   try simp only[nrm]at hc4
   refine W_skip (N_K (W_seq (W_block (q2 (iP k hlist Z3 Z ?_)))));intro _ _ z5 _ hz5 hE5 hrow5
   obtain⟨_,_,_,rfl,hi5,hr5,_,_⟩:=ox hE5
   refine o_loadagg_P H isAgg51 sizeOf51 Z Z hrow5 Z (xal H Z ?_);intro _ _ _ H
   refine xst 0 H Z8 ?_;intro _ H
   refine q3 (W_seq (q2 (fA 0 Z (lB 0 H Z3 (mV Z (o_sleq Z Z Z (mV Z ?_)))))))
   refine R_case (t:=23) Z ?_ ?_
   ·intro hc8
    try simp only[nrm]at hc8
    refine pe 10 Z (q3 (W_true Z (q2 (pe 2 Z (q3 (W_ret (N_K_ret (N_B_ret (N_K_ret (N_LP_ret (N_B_ret (N_K_ret (rt2 results53 Z Z ?_)))))))))))))
    have H:=H.dl 0
    have H:=H.dl 0
    exact H.retM (.inl ⟨rfl,rfl,Nd.tv_false 0 hTok hz5 (.inl (by (rw[←hla]);exact Nd.leq_no (by first|simpa using hc8|(simp at hc8;exact hc8.symm))))⟩)
   intro hc8'
   try simp only[nrm]at hc8'
   refine gR Z (lA 0 3 H Z4 (gR Z (xr H Z2 (i_itemValid_c _ _ H.sub _ _ ⟨_,_,_,Z,hi5,hr5⟩) ?_)));intro _ H
   refine pe 3 Z ?_
   refine R_case (t:=28) Z ?_ ?_
   ·intro hc10
    try simp only[nrm]at hc10
    refine pe 5 Z (q3 (W_true Z (q2 (pe 2 Z (q3 (W_ret (N_K_ret (N_B_ret (N_K_ret (N_LP_ret (N_B_ret (N_K_ret (rt2 results53 Z Z ?_)))))))))))))
    have H:=H.dl 0
    have H:=H.dl 0
    exact H.retM (.inl ⟨rfl,rfl,Nd.tv_false 0 hTok hz5 (.inr (.inl (by simpa using hc10)))⟩)
   intro hc10'
   try simp only[nrm]at hc10'
   refine pe 1 Z (gR Z (lA 0 3 H Z4 (gR Z ?_)))
   have H:=H.tF 1
   refine xc Z2 (i_insert_c _ _ H.sub _ _ hNT _ _ ⟨_,_,_,Z,hi5,hr5⟩ H.lent1 hTok.wf (by have:=hTok.cnt;simp at this;omega)) ?_
   rintro _ _ ⟨_,_,_,rfl,H11',⟨nb11,F11,t11,rfl,rfl,hN11,hb11,ht11⟩⟩
   have hle3:=hle3.trans H11'.le
   have H:=H.borrow1 H11'
   try rw[←hb11]
   refine⟨_,Z,?_⟩
   refine pe 2 Z (q3 ?_)
   refine W_cond Z ?_ ?_
   ·intro hc12
    try simp only[nrm]at hc12
    refine q2 (pe 2 Z (q3 (W_ret (N_K_ret (N_B_ret (N_K_ret (N_LP_ret (N_B_ret (N_K_ret (rt2 results53 Z Z ?_))))))))))
    have H:=H.dl 0
    have H:=H.dl 0
    exact H.retM (.inl ⟨rfl,rfl,Nd.tv_false nb11 hTok hz5 (.inr (.inr (by simpa using hc12)))⟩)
   intro hc12'
   try simp only[nrm]at hc12'
   refine W_skip (N_K (W_region (fA 0 Z (lB 1 H Z3 (aG Z (R_nil (N_B (N_K (W_region (aD Z2 (mV Z (R_nil ?_))))))))))))
   have H:=H.dl 1
   refine N_lp (hJ:=⟨k+1,z5.path,t11,F11,_,Z,hle3,H,?inv,Z⟩) (hm:=?hm)
   case hm=>omega
   case inv=>exact⟨by omega,(Nd.lastPath_succ hz5).symm,by assumption,hN11,Nd.open_step hTok hz5 oM (by (rw[←hla]);exact Nd.leq_yes hc8'.1 hc8'.2) (by simpa using hc10') (Nd.getD_some ht11 (by simpa using hc12'))⟩
  intro hc4'
  try simp only[nrm]at hc4'
  refine W_exit (N_K_exit (N_LP_exit (N_B_same (N_K (q2 (pe 3 Z (q3 (W_ret (rt2 results53 Z Z ?_)))))))))
  have hTl:Nd.TOK T list:=by (have h9:=hTok;rw[List.take_of_length_le oM]at h9;exact h9)
  exact H.retM (.inr ⟨T,_,Z,Z,hNT,hTl,hTl.valid⟩)
theorem i_keep_c (w0:World)(G0:PH)(hG:PSub G0 w0)(mbs:Nat)(ess:Array MapEntry)(cks:Nat)(xss:List (Int×Value))(Ls:List BHeld)(hms:MapIs (Value.int .i64) ess cks xss)(hSs:StR G0 xss Ls)(hVs:Sp.VH Ls)(id:Int)(hLent:Lent w0 G0 [blk mbs (.map ess cks)]) :
  Calls Tryz.prog 137 #[.map (some mbs),.int .i64 id] w0 (RetM w0 G0 [mbs] (fun G' v Bs=>∃(es':Array MapEntry) (ck':Nat) (xs':List (Int×Value)) (L':List BHeld),v= .bool (Sp.StoreKeep Ls id).isSome∧Bs=[blk mbs (.map es' ck')]∧MapIs (Value.int .i64) es' ck' xs'∧StR G' xs' L'∧Sp.VH L'∧L'=(Sp.StoreKeep Ls id).getD Ls)):=by
 have H:Hp w0 G0 [mbs] w0 G0 [blk mbs (.map ess cks)]:=hLent.hp
 refine calls_of_W (l:=[.map (some mbs),.int .i64 id]) func137 Z ntmps137 Z (q2 (aG Z (q1 (pe 2 Z (o_lookS2 (H.at (k:=0) Z) hms hSs underlying130 underlying3 zeroValue113 Z Z Z ?_)))));intro _ hE1
 obtain⟨_,_,_,rfl,_,hr1,_,_,_⟩:=ox hE1
 have hfnd:True:=trivial
 refine pe 3 Z (xal H Z ?_);intro _ _ _ H
 refine xst 0 H Z8 ?_;intro _ H
 refine aG Z (q3 (W_seq (q2 (pe 3 Z ?_))))
 refine R_case (t:=15) Z ?_ ?_
 ·intro hc4
  try simp only[nrm]at hc4
  refine pe 4 Z (q3 (W_true Z (q2 (aG Z (q3 (W_ret (N_K_ret (rt1 results137 Z ?_))))))))
  have H:=H.dl 0
  exact H.retM ⟨_,_,_,_,congrArg Value.bool (by rw[Sp.keep_no hVs (.inl (by simpa using hc4))];rfl),rfl,hms,hSs,hVs,by rw[Sp.keep_no hVs (.inl (by simpa using hc4))];rfl⟩
 intro hc4'
 try simp only[nrm]at hc4'
 have hfd:(Sp.atH Ls id).isSome=true:=by simpa using hc4'
 have hgo:=Sp.get_ok hVs hfd
 refine gR Z (fA 2 Z (gR Z (lB 0 H Z3 (pe 2 Z (q3 ?_)))))
 refine W_cond Z ?_ ?_
 ·intro hc5
  try simp only[nrm]at hc5
  refine q2 (aG Z (q3 (W_ret (N_K_ret (rt1 results137 Z ?_)))))
  have H:=H.dl 0
  exact H.retM ⟨_,_,_,_,congrArg Value.bool (by rw[Sp.keep_no hVs (.inr oM)];rfl),rfl,hms,hSs,hVs,by rw[Sp.keep_no hVs (.inr oM)];rfl⟩
 intro hc5'
 try simp only[nrm]at hc5'
 have hkg:=Sp.keep_get hVs hfd oM
 refine W_skip (N_K (q2 (fA 2 Z (lB 0 H Z3 (aD Z2 (fA 2 Z (xst 0 H Z8 ?_)))))));intro _ H
 refine q1 (pe 2 Z (lA 0 3 H Z4 ?_))
 refine o_updS 1 H ⟨(getH Ls id).id,(getH Ls id).bytes,(getH Ls id).uses+1⟩ Z hms hSs underlying130 underlying3 Z Z Z (show heldE G0 ⟨(getH Ls id).id,(getH Ls id).bytes,(getH Ls id).uses+1⟩ _ from⟨_,_,_,Z,⟨by first|omega|(dsimp only;omega),by first|omega|(dsimp only;omega)⟩,hr1,⟨by first|omega|(dsimp only;omega),by first|omega|(dsimp only;omega)⟩⟩) (by exact Sp.get_id hfd) ?_;intro _ _ _ _ H hm8 hS8
 refine q1 (aG Z (q3 (W_ret (rt1 results137 Z ?_))))
 have H:=H.dl 0
 exact H.retM ⟨_,_,_,_,congrArg Value.bool (by rw[hkg.1];rfl),rfl,hm8,hS8,hkg.2,by rw[hkg.1];rfl⟩
theorem i_fileIds_c (w0:World)(G0:PH)(hG:PSub G0 w0)(mbs:Nat)(ess:Array MapEntry)(cks:Nat)(xss:List (Int×Value))(Ls:List BHeld)(hbs:MapAt G0 mbs ess cks)(hms:MapIs (Value.int .i64) ess cks xss)(hSs:StR G0 xss Ls)(hVs:Sp.VH Ls)(vids:Value)(ids:List (Int))(hids:RdI G0 vids ids) :
  Calls Tryz.prog 153 #[.map (some mbs),vids] w0 (Rets w0 (.bool (Sp.l4Ids Ls ids))):=by
 obtain⟨aids,kids,rfl⟩:=hids.shape
 have hlimids:ids.length≤1099511627776:=hids.lim
 have H:=Hp.init hG
 refine calls_of_W (l:=[.map (some mbs),.slice aids ids.length kids]) func153 Z ntmps153 Z (q2 (aG Z (q3 (W_seq (q2 (mV Z (lN Z (pe 1 Z (q3 ?_)))))))))
 refine W_cond Z ?_ ?_
 ·intro hc1
  try simp only[nrm]at hc1
  refine q2 (aG Z (q3 (W_ret (N_K_ret (rt1 results153 Z ?_)))))
  exact H.rets (congrArg Value.bool (by rw[Sp.ids_long oM]))
 intro hc1'
 try simp only[nrm]at hc1'
 refine W_skip (N_K (W_seq (q2 (mV Z (lN Z (mV Z (q3 (W_block ?_))))))))
 refine W_lp (hf:=(Sub.cons (t:=0) Z (Sub.cons (t:=1) Z (Sub.cons (t:=12) Z (Sub.cons (t:=13) Z Sub.nil))))) (J:=fun M w m=>∃(k:Nat) (G:PH),M=[(14,.int .i64 (k:Int))]∧PLe G0 G∧Hp w0 G0 [] w G []∧(k≤ids.length∧∀j,j<k→Sp.idsOk Ls ids j=true)∧m=(ids.length-k)) (h0:=⟨0,_,Z,PLe.refl _,H,?inv,Z⟩) (round:=?round)
 case inv=>exact⟨by omega,fun j hj=>by omega⟩
 case round =>
  rintro _ _ _ ⟨k,_,rfl,hle2,H,hinv2,rfl⟩
  have hSs:=hSs.up hle2
  have hbs:=hbs.up hle2
  have hids:=hids.up hle2
  obtain⟨_,hall⟩:=hinv2
  refine q2 (pe 1 Z (q3 (W_seq ?_)))
  refine W_cond Z ?_ ?_
  ·intro hc3
   try simp only[nrm]at hc3
   refine W_skip (N_K (W_seq (W_block (q2 (mV Z (iP k hids Z3 Z ?_))))));intro _ _ z4 _ hz4 hE4 hrow4
   obtain⟨rfl,_⟩:=hE4
   refine lP H hrow4 0 Z2 (pe 2 Z (q1 (pe 2 Z (o_lookS2 (hbs.at H.sub) hms hSs underlying130 underlying3 zeroValue113 Z Z Z ?_))));intro _ hE5
   obtain⟨_,_,_,rfl,_,_,_,_,_⟩:=ox hE5
   refine pe 3 Z (xal H Z ?_);intro _ _ _ H
   refine xst 0 H Z8 ?_;intro _ H
   refine aG Z (q1 (pe 3 Z ?_))
   refine R_case (t:=27) Z ?_ ?_
   ·intro hc8
    try simp only[nrm]at hc8
    refine pe 6 Z (R_pass Z (yl_un Z Z) (R_pass Z (yl_un Z Z) (R_pass Z (yl_un Z Z) (R_pass Z (yl_un Z Z) (pe 2 Z (q3 (W_true Z (q2 (aG Z (q3 (W_ret (N_B_ret (N_K_ret (N_LP_ret (N_B_ret ?_)))))))))))))))
    refine N_K_ret (rt1 results153 Z ?_)
    exact H.rets (congrArg Value.bool (by rw[Sp.ids_false (k:=k) oM (by exact Sp.idsOk_no hz4 (by simpa using hc8))]))
   intro hc8'
   try simp only[nrm]at hc8'
   have hfd:(Sp.atH Ls z4).isSome=true:=by simpa using hc8'
   have hbl:=Sp.bv_len (Sp.get_ok hVs hfd).2.1
   have hio:=Sp.idsOk_get hz4 hfd
   refine pe 2 Z (gR Z (lN Z (gR Z (o_sub Z Z Z oO (pe 2 Z ?_)))))
   refine R_case (t:=33) Z ?_ ?_
   ·intro hc10
    try simp only[nrm]at hc10
    refine gR Z (fA 1 Z (gR Z (lB 0 H Z3 (gR Z (lN Z (pe 3 Z (q3 ?_)))))))
    refine W_cond Z ?_ ?_
    ·intro hc11
     try simp only[nrm]at hc11
     refine q2 (aG Z (q3 (W_ret (N_B_ret (N_K_ret (N_LP_ret (N_B_ret (N_K_ret (rt1 results153 Z ?_)))))))))
     exact H.rets (congrArg Value.bool (by rw[Sp.ids_false (k:=k) oM (by rw[hio];simp;omega)]))
    intro hc11'
    try simp only[nrm]at hc11'
    refine W_skip (N_B (N_K (W_region (aD Z2 (mV Z (R_nil ?_))))))
    have H:=H.dl 0
    refine N_lp (hJ:=⟨k+1,_,Z,hle2,H,?inv,Z⟩) (hm:=?hm)
    case hm=>omega
    case inv=>exact⟨by omega,Sp.upto_succ hall (by rw[hio];simp;omega)⟩
   intro hc10'
   try simp only[nrm]at hc10'
   refine pe 6 Z (q3 (W_false Z (W_skip (N_B (N_K (W_region (aD Z2 (mV Z (R_nil ?_)))))))))
   have H:=H.dl 0
   refine N_lp (hJ:=⟨k+1,_,Z,hle2,H,?inv,Z⟩) (hm:=?hm)
   case hm=>omega
   case inv=>exact⟨by omega,Sp.upto_succ hall (by rw[hio];simp;omega)⟩
  intro hc3'
  try simp only[nrm]at hc3'
  refine W_exit (N_K_exit (N_LP_exit (N_B_same (N_K (q2 (aG Z (q3 (W_ret (rt1 results153 Z ?_)))))))))
  exact H.rets (congrArg Value.bool (by rw[Sp.ids_true (fun j hj=>hall j oM) oM]))
theorem i_keepFile_c (w0:World)(G0:PH)(hG:PSub G0 w0)(mbs:Nat)(ess:Array MapEntry)(cks:Nat)(xss:List (Int×Value))(Ls:List BHeld)(hms:MapIs (Value.int .i64) ess cks xss)(hSs:StR G0 xss Ls)(hVs:Sp.VH Ls)(vids:Value)(ids:List (Int))(hids:RdI G0 vids ids)(hLent:Lent w0 G0 [blk mbs (.map ess cks)]) :
  Calls Tryz.prog 88 #[.map (some mbs),vids] w0 (RetM w0 G0 [mbs] (fun G' v Bs=>∃(es':Array MapEntry) (ck':Nat) (xs':List (Int×Value)) (L':List BHeld),v= .bool (Sp.foldB Sp.StoreKeep ids (some Ls)).isSome∧Bs=[blk mbs (.map es' ck')]∧MapIs (Value.int .i64) es' ck' xs'∧StR G' xs' L'∧Sp.VH L'∧∀l,Sp.foldB Sp.StoreKeep ids (some Ls)=some l→L'=l)):=by
 obtain⟨aids,kids,rfl⟩:=hids.shape
 have hlimids:ids.length≤1099511627776:=hids.lim
 have H:Hp w0 G0 [mbs] w0 G0 [blk mbs (.map ess cks)]:=hLent.hp
 refine calls_of_W (l:=[.map (some mbs),.slice aids ids.length kids]) func88 Z ntmps88 Z (q2 (aG Z (q3 (W_seq (q2 (mV Z (lN Z (mV Z (q3 (W_block ?_))))))))))
 refine W_lp (hf:=(Sub.cons (t:=0) Z (Sub.cons (t:=7) Z (Sub.cons (t:=8) Z Sub.nil)))) (J:=fun M w m=>∃(esm0:Array MapEntry) (ckm0:Nat) (xsm0:List (Int×Value)) (Lm0:List BHeld) (k:Nat) (G:PH),M=[(9,.int .i64 (k:Int))]∧PLe G0 G∧Hp w0 G0 [mbs] w G [blk mbs (.map esm0 ckm0)]∧(MapIs (Value.int .i64) esm0 ckm0 xsm0∧StR G xsm0 Lm0∧Sp.VH Lm0∧k≤ids.length∧Sp.foldB Sp.StoreKeep (ids.take k) (some Ls)=some Lm0)∧m=(ids.length-k)) (h0:=⟨_,_,xss,Ls,0,_,Z,PLe.refl _,H,?inv,Z⟩) (round:=?round)
 case inv=>exact⟨hms,hSs,hVs,(by simp[Sp.foldB])⟩
 case round =>
  rintro _ _ _ ⟨esm0,ckm0,xsm0,Lm0,k,_,rfl,hle1,H,hinv1,rfl⟩
  have hids:=hids.up hle1
  obtain⟨hm1_m0,hS1_m0,hV1_m0,hinv1⟩:=hinv1
  obtain⟨_,hf⟩:=hinv1
  refine q2 (pe 1 Z (q3 (W_seq ?_)))
  refine W_cond Z ?_ ?_
  ·intro hc2
   try simp only[nrm]at hc2
   refine W_skip (N_K (W_seq (W_block (q2 (iP k hids Z3 Z ?_)))));intro _ _ z3 _ hz3 hE3 hrow3
   obtain⟨rfl,_⟩:=hE3
   refine lP H hrow3 0 Z2 (aG Z (q1 (pe 2 Z (xc Z2 (i_keep_c _ _ H.sub _ _ _ _ _ hm1_m0 hS1_m0 hV1_m0 _ H.lent1) ?_))))
   rintro _ _ ⟨_,_,_,rfl,H4',⟨_,_,xs4,L4,rfl,rfl,hm4,hS4,hV4,hL4⟩⟩
   have hle1:=hle1.trans H4'.le
   have H:=H.borrow1 H4'
   refine⟨_,Z,?_⟩
   refine pe 1 Z (q3 ?_)
   refine W_cond Z ?_ ?_
   ·intro hc5
    try simp only[nrm]at hc5
    refine q2 (aG Z (q3 (W_ret (N_B_ret (N_K_ret (N_LP_ret (N_B_ret (N_K_ret (rt1 results88 Z ?_)))))))))
    have hno:Sp.foldB Sp.StoreKeep ids (some Ls)=none:=by (have hno:Sp.StoreKeep Lm0 z3=none:=by simpa using hc5);exact Sp.foldB_stop hf hz3 hno
    exact H.retM ⟨_,_,_,_,congrArg Value.bool (by rw[hno];rfl),rfl,hm4,hS4,hV4,fun l hl=>by rw[hno]at hl;cases hl⟩
   intro hc5'
   try simp only[nrm]at hc5'
   obtain⟨p,hsp⟩:=Option.isSome_iff_exists.1 hc5'
   have hLp:L4=p:=by rw[hL4,hsp];rfl
   subst hLp
   refine W_skip (N_B (N_K (W_region (aD Z2 (mV Z (R_nil ?_))))))
   refine N_lp (hJ:=⟨_,_,xs4,L4,k+1,_,Z,hle1,H,?inv,Z⟩) (hm:=?hm)
   case hm=>omega
   case inv=>exact⟨hm4,hS4,hV4,(by exact⟨by omega,Sp.foldB_succ hf hz3 hsp⟩)⟩
  intro hc2'
  try simp only[nrm]at hc2'
  refine W_exit (N_K_exit (N_LP_exit (N_B_same (N_K (q2 (aG Z (q3 (W_ret (rt1 results88 Z ?_)))))))))
  have hyes:Sp.foldB Sp.StoreKeep ids (some Ls)=some Lm0:=Sp.foldB_all hf oM
  exact H.retM ⟨_,_,_,_,congrArg Value.bool (by rw[hyes];rfl),rfl,hm1_m0,hS1_m0,hV1_m0,fun l hl=>by rw[hyes]at hl;cases hl;rfl⟩
theorem i_listIn_r:∀(N:Nat) (w0:World) (G0:PH) (hG:PSub G0 w0) (t:Nd) (hndt:RdN G0 t) (s:Bs) (hs:s.length≤16777216) (hwt:t.wf) (hsl:s.length+6*t.cnt≤100000) (hsz:t.size≤N),
  Calls Tryz.prog 108 #[.pointer (some ⟨t.b,0,none⟩),str s] w0 (RetN w0 G0 (fun v Bs=>∃(F:Fr),Bs=[frag F]∧OIs F v (t.flat s))):=by
 intro N
 induction N with
 | zero=>intro w0 G0 hG t hndt s hs hwt hsl hsz;exact absurd (Nd.size_pos t) oM
 | succ N ih =>
 intro w0 G0 hG t hndt s hs hwt hsl hsz
 obtain⟨_,_,_,_,_,_,_,hprt,hrit,hrkt⟩:=hndt.open
 have hn_hrit:=hrit.len;have hx_hrit:_≤1099511627776:=hrit.lim
 have hn_hrkt:=hrkt.len;have hx_hrkt:_≤1099511627776:=hrkt.lim
 have H:=Hp.init hG
 refine calls_of_W (l:=[.pointer (some ⟨t.b,0,none⟩),str s]) func108 Z ntmps108 Z (q2 (aG Z (q1 (aG Z (q3 (W_seq (q2 (pe 2 Z (fA 3 Z (lP H hprt 3 Z2 (lN Z (mV Z (q3 (W_block ?_))))))))))))))
 have H:=H.addNil 51 3
 have H:=H.addF
 refine W_lp (hf:=(Sub.cons (t:=1) Z (Sub.cons (t:=4) Z (Sub.cons (t:=12) Z (Sub.cons (t:=13) Z Sub.nil))))) (J:=fun M w m=>∃(v:Value) (n:Nat) (cs:List Value) (xs:List (BItem)) (F:Fr) (k:Nat) (G:PH),M=[(14,.int .i64 (k:Int)),(5,v)]∧PLe G0 G∧Hp w0 G0 [] w G [frag F,acc 51 3 v n cs]∧(ChkF itemO 3 cs xs F∧n=xs.length∧k≤t.kids.length∧xs=Nd.flats s (t.kids.take k))∧m=(t.kids.length-k)) (h0:=⟨_,_,_,[],[],0,_,Z,PLe.refl _,H,?inv,Z⟩) (round:=?round)
 case inv=>exact⟨ChkF.nil,by first|rfl|simp|(simp;omega)|omega,(by simp[Nd.flats])⟩
 case round =>
  rintro _ _ _ ⟨v,n,cs,xs,F,k,G2,rfl,hle2,H,hinv2,rfl⟩
  have hrkt:=hrkt.up hle2
  obtain⟨hchk2_0,_,hinv2⟩:=hinv2
  obtain⟨_,_,rfl⟩:=H.accShape (k:=1) rfl
  obtain⟨_,hxs⟩:=hinv2;have hxl:xs.length≤100000:=by (have:=Nd.flats_len s (t.kids.take k);have:=Nd.cnts_take t.kids k;have:=Nd.cnt_eq t;rw[hxs];omega)
  refine q2 (pe 1 Z (q3 (W_seq ?_)))
  refine W_cond Z ?_ ?_
  ·intro hc3
   try simp only[nrm]at hc3
   refine W_skip (N_K (W_seq (W_block (q2 (iP k hrkt Z3 Z ?_)))));intro _ _ z4 q4 hz4 hE4 hrow4
   obtain⟨rfl,hnd4⟩:=hE4;obtain⟨_,_,_,_,_,_,_,hpr4,hri4,hrk4⟩:=hnd4.open;have hn_hri4:=hri4.len;have hx_hri4:_≤1099511627776:=hri4.lim;have hn_hrk4:=hrk4.len;have hx_hrk4:_≤1099511627776:=hrk4.lim
   have hzm:=List.mem_of_getElem? hz4;have hzc:=Nd.kid_cnt hzm;have hzs:=Nd.size_kid hzm;have hzw:=((Nd.wf_iff _).1 hwt).2 _ hzm;have hzn:=Nd.word_le hzw.1;have hzf:=Nd.flat_len (s++z4.name++[47]) z4
   refine lP H hrow4 0 Z2 (aG Z (q1 (pe 3 Z (fA 0 Z (lP H hpr4 0 Z2 ?_)))))
   refine o_sadd Z Z Z (by simp only[LIM,List.length_append,List.length_cons,List.length_nil]at *; omega) ?_
   refine aG Z (q3 (W_seq (W_drawK [] 15 H kR Z ?_)));intro _ H;have hd5:=PLe.refl G2
   refine dE 0 Z2 (dE 1 Z2 (dE 2 Z2 (dE 3 Z2 (dF 4 1 Z2 (dP 5 hpr4 1 Z3 (dE 6 Z2 (dE 7 Z2 (dF 8 2 Z2 (dP 9 hpr4 2 Z3 (r1 10 Z (xc Z2 (l_Clone_c _ _ H.sub _ _ hri4) ?_)))))))))))
   rintro _ _ ⟨_,_,_,g6,rfl,⟨_,rfl,hchk6⟩,hp6,hq6,hs6⟩
   have H:=H.growO g6 hp6 hq6 hs6;obtain⟨_,_,rfl⟩:=H.accShape (k:=0) rfl
   have hnd4:=hnd4.up g6.le
   have hle2:=hle2.trans g6.le
   have hd5:=hd5.trans g6.le
   refine⟨_,Z,?_⟩
   refine q4 H hd5 (RD_t 11 Z kR Z (fun _ hK=>v_build bf51 Z Z) (r1 12 Z (xbs H Z7 ?_)));intro _ _ _ H
   refine q4 H hd5 (r1 13 Z (o_append1 2 H (sz:=3) (bytes:=48) underlying29 typeInfo51 ⟨_,Z,Z⟩ Z Z Z Z Z Z Z Z Z Z oM Z ?_));intro _ _ H
   obtain⟨Fi2,H,hOI2⟩:=H.ownI (k:=0) rfl hchk6 aN aN
   have hchk8:=hchk2_0.snoc (show itemO Fi2 ⟨s++z4.name,z4.dir,z4.ids⟩ _ from⟨_,_,_,rfl,(by (first|assumption|(refine Sp.l5Parent_lim ?_;assumption)|(simp;done)|(simp;omega)|omega)),hOI2⟩) rfl
   have H:=H.tF 1
   have H:=H.mergeF
   obtain⟨_,_,rfl⟩:=H.accShape (k:=1) rfl
   refine q4 H hd5 (dE 14 Z2 (rz (N_K (W_region (pe 3 Z ?_)))))
   refine o_sadd Z Z Z (by simp only[LIM,List.length_append,List.length_cons,List.length_nil]at *; omega) ?_
   refine xc Z2 (ih _ _ H.sub _ hnd4 _ (by (first|assumption|(refine Sp.l5Parent_lim ?_;assumption)|(simp;done)|(simp;omega)|omega)) hzw.2 (by simp;omega) oM) ?_
   rintro _ _ ⟨_,_,rfl,H9',⟨_,rfl,hO9⟩⟩
   have H:=H.readers (fp:=[]) (by simp) (PLe.refl _) H9'
   obtain⟨_,hP9⟩:=hO9
   obtain⟨_,_,rfl⟩:=OwnS.shape hP9
   have hO9:=OIs.mk hP9
   refine⟨_,Z,?_⟩
   refine o_append_F 1 H hP9 (by intro F _ cs hx _ hu;obtain⟨_,_,_,rfl,_⟩:=hx;simp at hu;rcases hu with rfl|rfl|rfl<;>rfl) (sz:=3) (bytes:=48) underlying29 typeInfo51 ⟨_,rfl,rfl⟩ rfl rfl rfl rfl rfl rfl rfl oM rfl ?_;intro _ _ _ F10_ H hck10 _
   have hchk10:=hchk8.app hck10
   have H:=H.tF 1
   have H:=H.mergeF
   obtain⟨_,_,rfl⟩:=H.accShape (k:=1) rfl
   refine aG Z (R_nil (N_B (N_K (W_region (aD Z2 (mV Z (R_nil ?_)))))))
   refine N_lp (hJ:=⟨_,_,_,((xs++[⟨s++z4.name,z4.dir,z4.ids⟩])++(z4.flat (s++z4.name++[47]))),((F++Fi2)++F10_),k+1,_,Z,hle2,H,?inv,Z⟩) (hm:=?hm)
   case hm=>omega
   case inv=>exact⟨hchk10,aN,(by exact⟨by omega,by (rw[Nd.flats_succ hz4,hxs];simp)⟩)⟩
  intro hc3'
  try simp only[nrm]at hc3'
  refine W_exit (N_K_exit (N_LP_exit (N_B_same (N_K (q2 (pe 2 Z (q3 (W_ret (rt1 results108 Z ?_)))))))))
  have H:=H.tF 1
  obtain⟨_,H,hOw3⟩:=H.ownF hchk2_0 aN aN
  have hX:xs=t.flat s:=by rw[hxs,List.take_of_length_le oM,Nd.flat_eq]
  have H:=H.forget hG (by simp)
  exact⟨_,_,Z,H,_,Z,hX▸⟨_,hOw3⟩⟩
theorem i_listIn_c (w0:World)(G0:PH)(hG:PSub G0 w0)(t:Nd)(hndt:RdN G0 t)(s:Bs)(hs:s.length≤16777216)(hwt:t.wf)(hsl:s.length+6*t.cnt≤100000) :
  Calls Tryz.prog 108 #[.pointer (some ⟨t.b,0,none⟩),str s] w0 (RetN w0 G0 (fun v Bs=>∃(F:Fr),Bs=[frag F]∧OIs F v (t.flat s))):=i_listIn_r _ w0 G0 hG t hndt s hs hwt hsl (Nat.le_refl _)
theorem i_tlist_c (w0:World)(G0:PH)(hG:PSub G0 w0)(t:Nd)(hndt:RdN G0 t)(hwt:t.wf)(hct:t.cnt≤1000) :
  Calls Tryz.prog 56 #[.pointer (some ⟨t.b,0,none⟩)] w0 (RetN w0 G0 (fun v Bs=>∃(F:Fr),Bs=[frag F]∧OIs F v (t.flat []))):=by
 obtain⟨_,_,_,_,_,_,_,_,hrit,hrkt⟩:=hndt.open
 have hn_hrit:=hrit.len;have hx_hrit:_≤1099511627776:=hrit.lim
 have hn_hrkt:=hrkt.len;have hx_hrkt:_≤1099511627776:=hrkt.lim
 have H:=Hp.init hG
 refine calls_of_W (l:=[.pointer (some ⟨t.b,0,none⟩)]) func56 Z ntmps56 Z (q2 (aG Z (q1 (mV Z ?_))))
 refine xc Z2 (i_listIn_c _ _ H.sub _ hndt _ (by (first|assumption|(refine Sp.l5Parent_lim ?_;assumption)|(simp;done)|(simp;omega)|omega)) hwt (by simp;omega)) ?_
 rintro _ _ ⟨_,_,rfl,H1',⟨_,rfl,hO1⟩⟩
 have H:=H.readers (fp:=[]) (by simp) (PLe.refl _) H1'
 obtain⟨_,hP1⟩:=hO1
 obtain⟨_,_,rfl⟩:=OwnS.shape hP1
 have hO1:=OIs.mk hP1
 refine⟨_,Z,?_⟩
 refine aG Z (q3 (W_ret (rt1 results56 Z ?_)))
 have H:=H.forget hG (by simp)
 exact⟨_,_,Z,H,_,Z,hO1⟩
theorem i_usedBy_c (w0:World)(G0:PH)(hG:PSub G0 w0)(mbs:Nat)(ess:Array MapEntry)(cks:Nat)(xss:List (Int×Value))(Ls:List BHeld)(hbs:MapAt G0 mbs ess cks)(hms:MapIs (Value.int .i64) ess cks xss)(hSs:StR G0 xss Ls)(hVs:Sp.VH Ls)(vtrees:Value)(trees:List (Nd))(htrees:RdNd G0 vtrees trees)(htl:trees.length≤7)(htw:∀t,t ∈ trees→t.wf∧t.cnt≤12) :
  Calls Tryz.prog 112 #[.map (some mbs),vtrees] w0 (Rets w0 (.bool (trees.all (fun t=>(t.flat []).all (fun x=>Sp.l4Ids Ls x.ids))&&Ls.all (fun h=>decide ((Sp.cntT trees h.id:Int)=h.uses))))):=by
 obtain⟨atrees,ktrees,rfl⟩:=htrees.shape
 have hlimtrees:trees.length≤1099511627776:=htrees.lim
 have H:=Hp.init hG
 refine calls_of_W (l:=[.map (some mbs),.slice atrees trees.length ktrees]) func112 Z ntmps112 Z (q2 (aG Z (q1 (o_makeMap H Z ?_))));intro b1 _ _ H
 have hm1:=MapIs.empty (key:=Value.int .i64) 0
 have hS1:=UsR.nil
 refine aG Z (q3 (W_seq (q2 (mV Z (lN Z (mV Z (q3 (W_block ?_))))))))
 refine W_lp (hf:=(Sub.cons (t:=0) Z (Sub.cons (t:=5) Z (Sub.cons (t:=15) Z (Sub.cons (t:=16) Z Sub.nil))))) (J:=fun M w m=>∃(esm0:Array MapEntry) (ckm0:Nat) (xsm0:List (Int×Value)) (fm0:Int→Nat) (i:Nat) (G:PH),M=[(17,.int .i64 (i:Int))]∧PLe G0 G∧Hp w0 G0 [] w G [blk b1 (.map esm0 ckm0)]∧(MapIs (Value.int .i64) esm0 ckm0 xsm0∧UsR xsm0 fm0∧i≤trees.length∧(∀a,fm0 a=Sp.cntT (trees.take i) a∧fm0 a≤48*i)∧(trees.take i).all (fun t=>(t.flat []).all (fun x=>Sp.l4Ids Ls x.ids))=true)∧m=(trees.length-i)) (h0:=⟨_,_,[],(fun _=>0),0,_,Z,PLe.refl _,H,?inv,Z⟩) (round:=?round)
 case inv=>exact⟨hm1,hS1,(by simp[Sp.cntT])⟩
 case round =>
  rintro _ _ _ ⟨esm0,ckm0,xsm0,fm0,i,G2,rfl,hle2,H,hinv2,rfl⟩
  have hSs:=hSs.up hle2
  have hbs:=hbs.up hle2
  have htrees:=htrees.up hle2
  obtain⟨hm2_m0,hS2_m0,hinv2⟩:=hinv2
  obtain⟨_,hf,hok⟩:=hinv2
  refine q2 (pe 1 Z (q3 (W_seq ?_)))
  refine W_cond Z ?_ ?_
  ·intro hc3
   try simp only[nrm]at hc3
   refine W_skip (N_K (W_seq (W_block (q2 (iP i htrees Z3 Z ?_)))));intro _ _ z4 _ hz4 hE4 hrow4
   obtain⟨rfl,hnd4⟩:=hE4;obtain⟨_,_,_,_,_,_,_,hpr4,hri4,hrk4⟩:=hnd4.open;have hn_hri4:=hri4.len;have hx_hri4:_≤1099511627776:=hri4.lim;have hn_hrk4:=hrk4.len;have hx_hrk4:_≤1099511627776:=hrk4.lim
   try (have hzw:=htw z4 (List.mem_of_getElem? hz4);have hzf:=Nd.flat_len [] z4)
   refine lP H hrow4 0 Z2 (aG Z (q1 (mV Z (xc Z2 (i_tlist_c _ _ H.sub _ hnd4 hzw.1 oM) ?_))))
   rintro _ _ ⟨_,_,rfl,H5',⟨_,rfl,hO5⟩⟩
   have H:=H.readers (fp:=[]) (by simp) (PLe.refl _) H5'
   obtain⟨e25,hP5⟩:=hO5
   obtain⟨_,_,rfl⟩:=OwnS.shape hP5
   have hO5:=OIs.mk hP5
   refine⟨_,Z,?_⟩
   have hdm1:=dm_nodup H (k:=0) rfl;obtain⟨Gk1,H,hkl1,hks1⟩:=H.keepF (k:=0) rfl (fun b _ hb=>by simp at hb)
   have hrk1:=hO5.rd hks1 hdm1
   have hSs:=hSs.up hkl1
   have hbs:=hbs.up hkl1
   have hle2:=hle2.trans hkl1
   have hn_hrk1:=hrk1.len
   refine lN Z (mV Z (q3 (W_block ?_)))
   refine W_lp (hf:=(Sub.cons (t:=0) Z (Sub.cons (t:=5) Z (Sub.cons (t:=15) Z (Sub.cons (t:=16) Z (Sub.cons (t:=17) Z (Sub.cons (t:=22) Z (Sub.cons (t:=23) Z Sub.nil)))))))) (J:=fun M w m=>∃(esm0:Array MapEntry) (ckm0:Nat) (xsm0:List (Int×Value)) (fm0:Int→Nat) (jj:Nat) (G:PH),M=[(24,.int .i64 (jj:Int))]∧PLe Gk1 G∧Hp w0 G0 [] w G [blk b1 (.map esm0 ckm0)]∧(MapIs (Value.int .i64) esm0 ckm0 xsm0∧UsR xsm0 fm0∧jj≤(z4.flat []).length∧(∀a,fm0 a=Sp.cntT (trees.take i) a+Sp.cntU (z4.flat []) a jj∧fm0 a≤48*i+4*jj)∧((z4.flat []).take jj).all (fun x=>Sp.l4Ids Ls x.ids)=true)∧m=((z4.flat []).length-jj)) (h0:=⟨_,_,xsm0,fm0,0,_,Z,PLe.refl _,H,?inv,Z⟩) (round:=?round)
   case inv=>exact⟨hm2_m0,hS2_m0,(by exact⟨by omega,fun a=>(by have:=hf a;simp[Sp.cntU];omega),by simp⟩)⟩
   case round =>
    rintro _ _ _ ⟨esm0,ckm0,xsm0,fm0,jj,G6,rfl,hle6,H,hinv6,rfl⟩
    have hSs:=hSs.up hle6
    have hbs:=hbs.up hle6
    have hrk1:=hrk1.up hle6
    have hle2:=hle2.trans hle6
    obtain⟨hm6_m0,hS6_m0,hinv6⟩:=hinv6
    obtain⟨_,hf2,hok2⟩:=hinv6
    refine q2 (pe 1 Z (q3 (W_seq ?_)))
    refine W_cond Z ?_ ?_
    ·intro hc7
     try simp only[nrm]at hc7
     refine W_skip (N_K (W_seq (W_block (q2 (iP jj hrk1 Z3 Z ?_)))));intro _ _ z8 _ hz8 hE8 hrow8
     obtain⟨_,_,_,rfl,_,hr8,_,_⟩:=ox hE8
     try (have hzw:=htw z8 (List.mem_of_getElem? hz8);have hzf:=Nd.flat_len [] z8)
     refine o_loadagg_P H isAgg51 sizeOf51 Z Z hrow8 Z (xal H Z ?_);intro b9 _ _ H
     refine xst 0 H Z8 ?_;intro _ H
     refine q3 (W_seq (q2 (mV Z (fA 2 Z (lB 0 H Z3 (xr H Z2 (i_fileIds_c _ _ H.sub _ _ _ _ _ hbs hms hSs hVs _ _ hr8) ?_))))));intro _ H
     refine pe 1 Z (q3 ?_)
     refine W_cond Z ?_ ?_
     ·intro hc12
      try simp only[nrm]at hc12
      refine q2 (aG Z (q3 (W_ret (N_K_ret (N_B_ret (N_K_ret (N_LP_ret (N_B_ret (N_B_ret (N_K_ret (N_LP_ret (N_B_ret (N_K_ret (rt1 results112 Z ?_))))))))))))))
      exact H.rets (congrArg Value.bool (by rw[Sp.all_false hz4 (Sp.all_false hz8 (by simpa using hc12)),Bool.false_and]))
     intro hc12'
     try simp only[nrm]at hc12'
     have hio:Sp.l4Ids Ls z8.ids=true:=by simpa using hc12'
     have hil:=Sp.ids_le hio
     refine W_skip (N_K (q2 (fA 2 Z (lB 0 H Z3 (lN Z (mV Z (q3 (W_block ?_))))))))
     obtain⟨ln13,hln13,H⟩:=H.name (k:=0) rfl
     refine W_lp (hf:=(Sub.cons (t:=0) Z (Sub.cons (t:=5) Z (Sub.cons (t:=15) Z (Sub.cons (t:=16) Z (Sub.cons (t:=17) Z (Sub.cons (t:=22) Z (Sub.cons (t:=23) Z (Sub.cons (t:=24) Z (Sub.cons (t:=34) Z (Sub.cons (t:=35) Z Sub.nil))))))))))) (J:=fun M w m=>∃(esm0:Array MapEntry) (ckm0:Nat) (xsm0:List (Int×Value)) (fm0:Int→Nat) (kk:Nat) (G:PH),M=[(36,.int .i64 (kk:Int))]∧PLe G6 G∧Hp w0 G0 [] w G [blk b9 (cl ln13 51),blk b1 (.map esm0 ckm0)]∧(MapIs (Value.int .i64) esm0 ckm0 xsm0∧UsR xsm0 fm0∧kk≤z8.ids.length∧(∀a,fm0 a=Sp.cntT (trees.take i) a+Sp.cntU (z4.flat []) a jj+Sp.cnt1 a (z8.ids.take kk)∧fm0 a≤48*i+4*jj+kk))∧m=(z8.ids.length-kk)) (h0:=⟨_,_,xsm0,fm0,0,_,Z,PLe.refl _,H,?inv,Z⟩) (round:=?round)
     case inv=>exact⟨hm6_m0,hS6_m0,(by exact⟨by omega,fun a=>(by have:=hf2 a;simp[Sp.cnt1];omega)⟩)⟩
     case round =>
      rintro _ _ _ ⟨esm0,ckm0,xsm0,fm0,kk,_,rfl,hle14,H,hinv14,rfl⟩
      subst hln13
      have hr8:=hr8.up hle14
      have hle6:=hle6.trans hle14
      obtain⟨hm14_m0,hS14_m0,hinv14⟩:=hinv14
      obtain⟨_,hf3⟩:=hinv14;have hb3:=fun a=>(hf3 a).2
      refine q2 (pe 1 Z (q3 (W_seq ?_)))
      refine W_cond Z ?_ ?_
      ·intro hc15
       try simp only[nrm]at hc15
       refine W_skip (N_K (W_seq (W_block (q2 (iP kk hr8 Z3 Z ?_)))));intro _ _ z16 _ hz16 hE16 hrow16
       obtain⟨rfl,_⟩:=hE16
       refine lP H hrow16 0 Z2 (aG Z (q3 (W_region (pe 2 Z (o_lookU (H.at (k:=1) Z) hm14_m0 hS14_m0 underlying193 underlying3 zeroValue3 Z Z Z ?_)))))
       try (have h7:=hb3 z16)
       refine aD Z2 (o_updU 1 H (fm0 z16+1) Z hm14_m0 hS14_m0 underlying193 underlying3 Z Z Z oM ?_);intro _ _ xs19 _ H hm19 hS19
       refine R_nil (N_B (N_K (W_region (aD Z2 (mV Z (R_nil ?_))))))
       refine N_lp (hJ:=⟨_,_,xs19,(fun a=>if a=z16 then(fm0 z16+1) else fm0 a),kk+1,_,Z,hle14,H,?inv,Z⟩) (hm:=?hm)
       case hm=>omega
       case inv=>exact⟨hm19,hS19,(by exact⟨by omega,fun a=>(by have h9:=hf3 a;have h7:=hf3 z16;(rw[Sp.cnt1_succ hz16]);by_cases e:a=z16;(· subst e;simp;omega);(· have e2:¬z16=a:=fun h=>e h.symm;simp only[e,e2,if_false];omega))⟩)⟩
      intro hc15'
      try simp only[nrm]at hc15'
      refine W_exit (N_K_exit (N_LP_exit (N_B_same (N_B (N_K (W_region (aD Z2 (mV Z (R_nil ?_)))))))))
      have H:=H.dl 0
      refine N_lp (hJ:=⟨_,_,xsm0,fm0,jj+1,_,Z,hle6,H,?inv,Z⟩) (hm:=?hm)
      case hm=>omega
      case inv=>exact⟨hm14_m0,hS14_m0,(by exact⟨by omega,fun a=>(by have h9:=hf3 a;(rw[Sp.cntU_succ hz8]);(rw[List.take_of_length_le (l:=z8.ids) oM]at h9);omega),Sp.all_take hok2 hz8 hio⟩)⟩
    intro hc7'
    try simp only[nrm]at hc7'
    refine W_exit (N_K_exit (N_LP_exit (N_B_same (N_B (N_K (W_region (aD Z2 (mV Z (R_nil ?_)))))))))
    refine N_lp (hJ:=⟨_,_,xsm0,fm0,i+1,_,Z,hle2,H,?inv,Z⟩) (hm:=?hm)
    case hm=>omega
    case inv=>exact⟨hm6_m0,hS6_m0,(by exact⟨by omega,fun a=>(by have h9:=hf2 a;have h10:=Sp.cntT_succ (id:=a) hz4;have h8:(z4.flat []).length=jj:=oM;(rw[h8]at h10);omega),Sp.all_take hok hz4 (by (rw[List.take_of_length_le (l:=z4.flat []) oM]at hok2);exact hok2)⟩)⟩
  intro hc3'
  try simp only[nrm]at hc3'
  refine W_exit (N_K_exit (N_LP_exit (N_B_same (N_K (W_seq (q2 (mV Z ?_)))))))
  have hmb23:=(hbs.at H.sub);refine o_range H hmb23 underlying130 rfl rfl ?_;intro r23 _ _ H _;have hne23:r23≠mbs:=fun e=>by have:=(Array.getElem?_eq_some_iff.1 hmb23).1;omega
  refine q3 (W_block ?_)
  refine W_lp (hf:=(Sub.cons (t:=5) Z (Sub.cons (t:=48) Z Sub.nil))) (J:=fun M w m=>∃(sn:Array Nat) (G:PH),M=[]∧PLe G2 G∧Hp w0 G0 [] w G [blk r23 (.mapIter (some mbs) cks sn cks),blk b1 (.map esm0 ckm0)]∧(∀y,y ∈ Ls→seenH ess sn y→(Sp.cntT trees y.id:Int)=y.uses)∧m=((leftOf ess sn).size)) (h0:=⟨#[],_,Z,PLe.refl _,H,?inv,Z⟩) (round:=?round)
  case inv=>rintro y hy ⟨e,_,_,he⟩;simp at he
  case round =>
   rintro _ _ _ ⟨sn,_,rfl,hle24,H,hinv24,rfl⟩
   have hSs:=hSs.up hle24
   have hbs:=hbs.up hle24
   have hsn:=hinv24
   refine q2 ?_
   refine o_next 0 H (hbs.at H.sub) hms hSs Z hne23 Z Z ?_ ?_
   ·intro hall25
    refine pe 1 Z (q3 (W_seq (W_false Z (W_exit (N_K_exit (N_LP_exit (N_B_same (N_K (q2 (aG Z (q3 (W_ret (rt1 results112 Z ?_)))))))))))))
    have hot:=hok;rw[List.take_of_length_le oM]at hot
    exact H.rets (congrArg Value.bool (by (rw[hot,Bool.true_and]);symm;(rw[List.all_eq_true]);intro y hy;simp only[decide_eq_true_eq];exact hsn y hy (hall25 y hy)))
   intro e25 _ _ _ he25 hk25 hv25 hy25 hE25 _ hless25 H
   obtain⟨_,_,_,rfl,_,_,_,_,_⟩:=ox hE25
   refine pe 1 Z (q3 (W_seq (W_true Z (W_skip (N_K (W_block (q2 (o_entry 0 H (hbs.at H.sub) hms Z he25 hk25 hv25 Z Z (pe 2 Z (xal H Z ?_))))))))));intro _ _ _ H
   refine aG Z (xst 0 H Z8 ?_);intro _ H
   refine q1 (pe 2 Z (o_lookU (H.at (k:=2) Z) hm2_m0 hS2_m0 underlying193 underlying3 zeroValue3 Z Z Z (fA 2 Z (lB 0 H Z3 (pe 1 Z (q3 ?_))))))
   refine W_cond Z ?_ ?_
   ·intro hc29
    try simp only[nrm]at hc29
    refine q2 (aG Z (q3 (W_ret (N_B_ret (N_LP_ret (N_B_ret (N_K_ret (rt1 results112 Z ?_))))))))
    have hft:∀a,fm0 a=Sp.cntT trees a:=fun a=>(by have h9:=(hf a).1;(rw[List.take_of_length_le oM]at h9);exact h9)
    have hot:=hok;rw[List.take_of_length_le oM]at hot
    exact H.rets (congrArg Value.bool (by (rw[hot,Bool.true_and]);symm;(rw[List.all_eq_false]);exact⟨_,hy25,by simp only[decide_eq_true_eq];(rw[←hft]);first|exact hc29|(simpa using hc29)|omega⟩))
   intro hc29'
   try simp only[nrm]at hc29'
   refine W_skip (N_B ?_)
   have H:=H.dl 0
   refine N_lp (hJ:=⟨_,_,Z,hle24,H,?inv,Z⟩) (hm:=?hm)
   case hm=>exact hless25
   case inv=>intro y hy hs;rcases seenH_push hms (hSs.nd hms) he25 hk25 hy25 hy hs with rfl|h;(· (have h9:=(hf y.id).1;(rw[List.take_of_length_le oM]at h9);(rw[←h9]);first|exact hc29'|(simpa using hc29')|omega));exact hsn y hy h
theorem i_StoreValid_c (w0:World)(G0:PH)(hG:PSub G0 w0)(vlist:Value)(list:List (BHeld))(hlist:RdH G0 vlist list) :
  Calls Tryz.prog 156 #[vlist] w0 (Rets w0 (.bool (Sp.StoreValid list))):=by
 obtain⟨alist,klist,rfl⟩:=hlist.shape
 have hlimlist:list.length≤1099511627776:=hlist.lim
 have H:=Hp.init hG
 refine calls_of_W (l:=[.slice alist list.length klist]) func156 Z ntmps156 Z (q2 (aG Z (q3 (W_seq (q2 (mV Z (lN Z (pe 1 Z (q3 ?_)))))))))
 refine W_cond Z ?_ ?_
 ·intro hc1
  try simp only[nrm]at hc1
  refine q2 (aG Z (q3 (W_ret (N_K_ret (rt1 results156 Z ?_)))))
  exact H.rets (congrArg Value.bool (by rw[Sp.sv_long oM]))
 intro hc1'
 try simp only[nrm]at hc1'
 refine W_skip (N_K (q2 (aG Z (q3 (W_seq (q2 (mV Z (lN Z (mV Z (q3 (W_block ?_)))))))))))
 refine W_lp (hf:=(Sub.cons (t:=0) Z (Sub.cons (t:=11) Z (Sub.cons (t:=12) Z Sub.nil)))) (J:=fun M w m=>∃(k:Nat) (la:Int) (G:PH),M=[(13,.int .i64 (k:Int)),(3,.int .i64 la)]∧PLe G0 G∧Hp w0 G0 [] w G []∧(k≤list.length∧la=Sp.lastId list k∧(∀j,j<k→Sp.okH list j=true)∧inI la)∧m=(list.length-k)) (h0:=⟨0,0,_,Z,PLe.refl _,H,?inv,Z⟩) (round:=?round)
 case inv=>exact⟨by omega,rfl,fun j hj=>by omega,by decide⟩
 case round =>
  rintro _ _ _ ⟨k,la,G2,rfl,hle2,H,hinv2,rfl⟩
  have hlist:=hlist.up hle2
  obtain⟨_,_,hall,_⟩:=hinv2
  refine q2 (pe 1 Z (q3 (W_seq ?_)))
  refine W_cond Z ?_ ?_
  ·intro hc3
   try simp only[nrm]at hc3
   refine W_skip (N_K (W_seq (W_block (q2 (mV Z (iP k hlist Z3 Z ?_))))));intro _ _ z4 _ hz4 hE4 hrow4
   obtain⟨_,_,_,rfl,hi4,hr4,_,_,_⟩:=ox hE4
   refine o_loadagg_P H isAgg113 sizeOf113 Z Z hrow4 Z (xal H Z ?_);intro b5 _ _ H
   refine aG Z (xst 0 H Z8 ?_);intro _ H
   refine q3 (W_seq (q2 (fA 0 Z (lB 0 H Z3 (pe 3 Z ?_)))))
   refine R_case (t:=22) Z ?_ ?_
   ·intro hc7
    try simp only[nrm]at hc7
    refine pe 20 Z (q3 (W_true Z (q2 (aG Z (q3 (W_ret (N_K_ret (N_B_ret (N_K_ret (N_LP_ret (N_B_ret (N_K_ret (rt1 results156 Z ?_)))))))))))))
    exact H.rets (congrArg Value.bool (by rw[Sp.sv_false (k:=k) oM (Sp.okH_last hz4 oM)]))
   intro hc7'
   try simp only[nrm]at hc7'
   refine gR Z (fA 0 Z (gR Z (lB 0 H Z3 (pe 3 Z ?_))))
   refine R_case (t:=27) Z ?_ ?_
   ·intro hc8
    try simp only[nrm]at hc8
    refine pe 15 Z (q3 (W_true Z (q2 (aG Z (q3 (W_ret (N_K_ret (N_B_ret (N_K_ret (N_LP_ret (N_B_ret (N_K_ret (rt1 results156 Z ?_)))))))))))))
    exact H.rets (congrArg Value.bool (by rw[Sp.sv_false (k:=k) oM (Sp.okH_id hz4 oM)]))
   intro hc8'
   try simp only[nrm]at hc8'
   refine gR Z (fA 2 Z (gR Z (lB 0 H Z3 (pe 3 Z ?_))))
   refine R_case (t:=32) Z ?_ ?_
   ·intro hc9
    try simp only[nrm]at hc9
    refine pe 10 Z (q3 (W_true Z (q2 (aG Z (q3 (W_ret (N_K_ret (N_B_ret (N_K_ret (N_LP_ret (N_B_ret (N_K_ret (rt1 results156 Z ?_)))))))))))))
    exact H.rets (congrArg Value.bool (by rw[Sp.sv_false (k:=k) oM (Sp.okH_id hz4 oM)]))
   intro hc9'
   try simp only[nrm]at hc9'
   refine gR Z (fA 2 Z (gR Z (lB 0 H Z3 (pe 3 Z ?_))))
   refine R_case (t:=37) Z ?_ ?_
   ·intro hc10
    try simp only[nrm]at hc10
    refine pe 5 Z (q3 (W_true Z (q2 (aG Z (q3 (W_ret (N_K_ret (N_B_ret (N_K_ret (N_LP_ret (N_B_ret (N_K_ret (rt1 results156 Z ?_)))))))))))))
    exact H.rets (congrArg Value.bool (by rw[Sp.sv_false (k:=k) oM (Sp.okH_id hz4 oM)]))
   intro hc10'
   try simp only[nrm]at hc10'
   refine gR Z (fA 1 Z (gR Z (lB 0 H Z3 (gR Z (xr H Z2 (i_BlockValid_c _ _ H.sub _ _ hr4) ?_)))));intro _ H
   refine pe 2 Z (q3 ?_)
   refine W_cond Z ?_ ?_
   ·intro hc12
    try simp only[nrm]at hc12
    refine q2 (aG Z (q3 (W_ret (N_K_ret (N_B_ret (N_K_ret (N_LP_ret (N_B_ret (N_K_ret (rt1 results156 Z ?_))))))))))
    exact H.rets (congrArg Value.bool (by rw[Sp.sv_false (k:=k) oM (Sp.okH_id hz4 (by exact .inr (.inr (.inr (by simpa using hc12)))))]))
   intro hc12'
   try simp only[nrm]at hc12'
   refine W_skip (N_K (W_seq (q2 (pe 2 Z ?_))))
   have hcap13:=hlist.cap;try simp only[List.length_set,List.length_append,List.length_take,List.length_drop,List.length_replicate]at hcap13
   refine o_slice_to (j:=k) underlying28 sizeOf113 Z Z Z oM oM ?_
   have hsl13:=hlist.take (j:=k) aN
   have hsn1:=hsl13.len
   refine lN Z (mV Z (q3 (W_block ?_)))
   obtain⟨ln14,hln14,H⟩:=H.name (k:=0) rfl
   refine W_lp (hf:=(Sub.cons (t:=0) Z (Sub.cons (t:=3) Z (Sub.cons (t:=5) Z (Sub.cons (t:=11) Z (Sub.cons (t:=12) Z (Sub.cons (t:=13) Z (Sub.cons (t:=45) Z (Sub.cons (t:=46) Z Sub.nil))))))))) (J:=fun M w m=>∃(j:Nat) (G:PH),M=[(47,.int .i64 (j:Int))]∧PLe G2 G∧Hp w0 G0 [] w G [blk b5 (cl ln14 113)]∧(j≤k∧(list.take j).all (fun g=> !Sp.l2Same g.bytes z4.bytes)=true)∧m=(k-j)) (h0:=⟨0,_,Z,PLe.refl _,H,?inv,Z⟩) (round:=?round)
   case inv=>exact⟨by omega,by simp⟩
   case round =>
    rintro _ _ _ ⟨j,_,rfl,hle15,H,hinv15,rfl⟩
    subst hln14
    have hr4:=hr4.up hle15
    have hsl13:=hsl13.up hle15
    have hle2:=hle2.trans hle15
    obtain⟨hj,hall2⟩:=hinv15
    refine q2 (pe 1 Z (q3 (W_seq ?_)))
    refine W_cond Z ?_ ?_
    ·intro hc16
     try simp only[nrm]at hc16
     refine W_skip (N_K (W_seq (W_block (q2 (iP j hsl13 Z3 Z ?_)))));intro _ _ _ _ hz17 hE17 hrow17
     obtain⟨_,_,_,rfl,_,hr17,_,_,_⟩:=ox hE17
     rw[List.getElem?_take,if_pos oM]at hz17
     refine o_loadagg_P H isAgg113 sizeOf113 Z Z hrow17 Z (xal H Z ?_);intro _ _ _ H
     refine xst 0 H Z8 ?_;intro _ H
     refine q1 (fA 1 Z (lB 0 H Z3 (fA 1 Z (lB 1 H Z3 (xr H Z2 (l_Equal_c _ _ H.sub _ _ hr17 _ _ hr4) ?_)))));intro _ H
     refine q3 ?_
     refine W_cond Z ?_ ?_
     ·intro hc21
      try simp only[nrm]at hc21
      refine q2 (aG Z (q3 (W_ret (N_B_ret (N_K_ret (N_LP_ret (N_B_ret (N_K_ret (N_B_ret (N_K_ret (N_LP_ret (N_B_ret (N_K_ret (rt1 results156 Z ?_))))))))))))))
      exact H.rets (congrArg Value.bool (by rw[Sp.sv_false (k:=k) oM (Sp.okH_dup hz4 oM hz17 hc21)]))
     intro hc21'
     try simp only[nrm]at hc21'
     refine W_skip (N_B (N_K (W_region (aD Z2 (mV Z (R_nil ?_))))))
     have H:=H.dl 0
     refine N_lp (hJ:=⟨j+1,_,Z,hle15,H,?inv,Z⟩) (hm:=?hm)
     case hm=>omega
     case inv=>exact⟨by omega,Sp.all_take hall2 hz17 (by simp[hc21'])⟩
    intro hc16'
    try simp only[nrm]at hc16'
    refine W_exit (N_K_exit (N_LP_exit (N_B_same (N_K (W_region (fA 0 Z (lB 0 H Z3 (aG Z (R_nil (N_B (N_K (W_region (aD Z2 (mV Z (R_nil ?_)))))))))))))))
    have H:=H.dl 0
    refine N_lp (hJ:=⟨k+1,z4.id,_,Z,hle2,H,?inv,Z⟩) (hm:=?hm)
    case hm=>omega
    case inv=>(obtain rfl:j=k:=by omega);exact⟨by omega,(Sp.lastId_succ hz4).symm,Sp.upto_succ hall (Sp.okH_mk hz4 hall oM oM (by simpa using hc12') oM hall2),hi4⟩
  intro hc3'
  try simp only[nrm]at hc3'
  refine W_exit (N_K_exit (N_LP_exit (N_B_same (N_K (q2 (aG Z (q3 (W_ret (rt1 results156 Z ?_)))))))))
  exact H.rets (congrArg Value.bool (by rw[Sp.sv_true (fun j hj=>hall j oM) oM]))
theorem i_openStore_c (w0:World)(G0:PH)(hG:PSub G0 w0)(vlist:Value)(list:List (BHeld))(hlist:RdH G0 vlist list)(hLent:Lent w0 G0 []) :
  Calls Tryz.prog 115 #[vlist] w0 (RetM w0 G0 [] (fun G' v Bs=>(Sp.StoreValid list=false∧v= .tuple #[.map none,.bool false]∧Bs=[])∨(Sp.VH list∧∃(mb:Nat) (es':Array MapEntry) (ck':Nat) (xs':List (Int×Value)),v= .tuple #[.map (some mb),.bool true]∧Bs=[blk mb (.map es' ck')]∧MapIs (Value.int .i64) es' ck' xs'∧StR G' xs' list))):=by
 obtain⟨alist,klist,rfl⟩:=hlist.shape
 have hlimlist:list.length≤1099511627776:=hlist.lim
 have H:Hp w0 G0 [] w0 G0 []:=hLent.hp
 refine calls_of_W (l:=[.slice alist list.length klist]) func115 Z ntmps115 Z (q2 (pe 2 Z (q3 (W_seq (q2 (mV Z (xr H Z2 (i_StoreValid_c _ _ H.sub _ _ hlist) ?_)))))));intro _ H
 refine pe 1 Z (q3 ?_)
 refine W_cond Z ?_ ?_
 ·intro hc2
  try simp only[nrm]at hc2
  refine q2 (pe 2 Z (q3 (W_ret (N_K_ret (rt2 results115 Z Z ?_)))))
  exact H.retM (.inl ⟨by simpa using hc2,rfl,rfl⟩)
 intro hc2'
 try simp only[nrm]at hc2'
 have hVl:=Sp.valid_iff.1 (by simpa using hc2':Sp.StoreValid list=true)
 refine W_skip (N_K (q2 (o_makeMap H Z ?_)));intro b3 _ _ H
 have hm3:=MapIs.empty (key:=Value.int .i64) 0
 have hS3:=StR.nil G0
 refine aG Z (q3 (W_seq (q2 (mV Z (lN Z (mV Z (q3 (W_block ?_))))))))
 refine W_lp (hf:=(Sub.cons (t:=2) Z (Sub.cons (t:=3) Z (Sub.cons (t:=4) Z (Sub.cons (t:=11) Z (Sub.cons (t:=12) Z Sub.nil)))))) (J:=fun M w m=>∃(esm0:Array MapEntry) (ckm0:Nat) (xsm0:List (Int×Value)) (Lm0:List BHeld) (k:Nat) (G:PH),M=[(13,.int .i64 (k:Int))]∧PLe G0 G∧Hp w0 G0 [] w G [blk b3 (.map esm0 ckm0)]∧(MapIs (Value.int .i64) esm0 ckm0 xsm0∧StR G xsm0 Lm0∧Sp.VH Lm0∧k≤list.length∧Lm0=list.take k)∧m=(list.length-k)) (h0:=⟨_,_,[],[],0,_,Z,PLe.refl _,H,?inv,Z⟩) (round:=?round)
 case inv=>exact⟨hm3,hS3,Sp.VH_nil,(by simp)⟩
 case round =>
  rintro _ _ _ ⟨esm0,ckm0,xsm0,Lm0,k,G4,rfl,hle4,H,hinv4,rfl⟩
  have hlist:=hlist.up hle4
  obtain⟨hm4_m0,hS4_m0,_,hinv4⟩:=hinv4
  obtain⟨_,rfl⟩:=hinv4
  refine q2 (pe 1 Z (q3 (W_seq ?_)))
  refine W_cond Z ?_ ?_
  ·intro hc5
   try simp only[nrm]at hc5
   refine W_skip (N_K (W_seq (W_block (q2 (iP k hlist Z3 Z ?_)))));intro _ _ z6 _ hz6 hE6 hrow6
   obtain⟨_,_,_,rfl,_,hr6,_,_,_⟩:=ox hE6
   refine o_loadagg_P H isAgg113 sizeOf113 Z Z hrow6 Z (xal H Z ?_);intro _ _ _ H
   refine xst 0 H Z8 ?_;intro _ H
   refine q3 (W_drawK [0] 12 H kR Z ?_);intro _ H;have hd9:=PLe.refl G4
   refine dE 0 Z2 (dF 1 0 Z2 (dB 2 0 Z4 (dF 3 0 Z2 (dB 4 0 Z4 (dF 5 1 Z2 (dB 6 0 Z4 (dF 8 2 Z2 (dB 9 0 Z4 (r1 7 Z (xc Z2 (l_Clone_c _ _ H.sub _ _ hr6) ?_))))))))))
   rintro _ _ ⟨_,_,_,g10,rfl,⟨_,rfl,hchk10⟩,hp10,hq10,hs10⟩
   have H:=H.growO g10 hp10 hq10 hs10;obtain⟨_,_,rfl⟩:=H.accShape (k:=0) rfl
   have hS4_m0:=hS4_m0.up g10.le
   have hle4:=hle4.trans g10.le
   have hd9:=hd9.trans g10.le
   refine⟨_,Z,?_⟩
   refine q4 H hd9 (RD_t 10 Z kR Z (fun _ hK=>v_build bf113 Z Z) (r1 11 Z ?_))
   obtain⟨G12,H,hsg12,hsr12⟩:=H.shutL (k:=0) rfl (H.apart (k:=0) (ks:=[]) rfl rfl (by intro _ hb;simpa [fpsAt,nth,blk] using hb)) hchk10 aN aN
   have hS4_m0:=hS4_m0.up hsg12
   have hle4:=hle4.trans hsg12
   refine o_updS 1 H z6 Z hm4_m0 hS4_m0 underlying130 underlying3 Z Z Z (show heldE G12 z6 _ from⟨_,_,_,Z,⟨by first|omega|(dsimp only;omega),by first|omega|(dsimp only;omega)⟩,hsr12,⟨by first|omega|(dsimp only;omega),by first|omega|(dsimp only;omega)⟩⟩) rfl ?_;intro _ _ xs11 _ H hm11 hS11
   refine R_nil (N_DKlast kR kR (N_B (N_K (W_region ?_))))
   rw[Sp.upd_take hVl hz6]at hS11
   refine aD Z2 (mV Z (R_nil ?_))
   have H:=H.dl 0
   refine N_lp (hJ:=⟨_,_,xs11,(list.take (k+1)),k+1,_,Z,hle4,H,?inv,Z⟩) (hm:=?hm)
   case hm=>omega
   case inv=>exact⟨hm11,hS11,(hVl.take (k+1)),(by exact⟨by omega,rfl⟩)⟩
  intro hc5'
  try simp only[nrm]at hc5'
  refine W_exit (N_K_exit (N_LP_exit (N_B_same (N_K (q2 (pe 3 Z (q3 (W_ret (rt2 results115 Z Z ?_)))))))))
  rw[List.take_of_length_le oM]at hS4_m0
  exact H.retM (.inr ⟨hVl,_,_,_,_,Z,Z,hm4_m0,hS4_m0⟩)
theorem i_slist_c (w0:World)(G0:PH)(hG:PSub G0 w0)(mbs:Nat)(ess:Array MapEntry)(cks:Nat)(xss:List (Int×Value))(Ls:List BHeld)(hbs:MapAt G0 mbs ess cks)(hms:MapIs (Value.int .i64) ess cks xss)(hSs:StR G0 xss Ls)(hVs:Sp.VH Ls) :
  Calls Tryz.prog 134 #[.map (some mbs)] w0 (RetN w0 G0 (fun v Bs=>∃(F:Fr),Bs=[frag F]∧OHs F v Ls)):=by
 have hl16:=hVs.len
 have H:=Hp.init hG
 refine calls_of_W (l:=[.map (some mbs)]) func134 Z ntmps134 Z (q2 (aG Z (q1 (mV Z ?_))))
 have hml1:=hSs.len
 refine o_lenM (hbs.at H.sub) hms underlying130 Z Z (o_make0 (c:=Ls.length) (sz:=3) (bytes:=40) H underlying28 typeInfo113 ⟨_,Z,Z⟩ Z Z Z Z Z Z oM oM Z ?_);intro _ _ H
 refine aG Z (q3 (W_seq (q2 (mV Z (o_call call164 Z Z (keys_c _ _ H.sub _) ?_)))));rintro _ w3 ⟨kb3,rfl,hkb3,ek3,hkc3⟩;have H:=H.step ek3;refine⟨_,rfl,?_⟩
 refine o_call call163 Z Z (sorted_c _ _ _ hkc3 (hbs.at H.sub) hms hSs hVs) ?_;rintro _ w4 ⟨v4,rfl,ek4,hp4,hf4⟩;have H:=H.add ek4 _ hp4 hf4 (acc_nd _ _ _ _ _)
 have hchk4:=chkIds G0 hVs;obtain⟨_,_,rfl⟩:=H.accShape (k:=0) rfl;refine⟨_,rfl,?_⟩
 refine lN Z (mV Z (q3 (W_block ?_)))
 obtain⟨G5,H,hsg5,hsr5⟩:=H.shut' (k:=0) rfl hchk4 aN aN
 have hSs:=hSs.up hsg5
 have hbs:=hbs.up hsg5
 have H:=H.addF
 refine W_lp (hf:=(Sub.cons (t:=0) Z (Sub.cons (t:=2) Z (Sub.cons (t:=12) Z (Sub.cons (t:=13) Z Sub.nil))))) (J:=fun M w m=>∃(v:Value) (n:Nat) (cs:List Value) (xs:List (BHeld)) (F:Fr) (k:Nat) (G:PH),M=[(14,.int .i64 (k:Int)),(3,v)]∧PLe G5 G∧Hp w0 G0 [] w G [frag F,acc 113 3 v n cs]∧(ChkF heldO 3 cs xs F∧n=xs.length∧k≤Ls.length∧xs=Ls.take k)∧m=(Ls.length-k)) (h0:=⟨_,_,_,[],[],0,_,Z,PLe.refl _,H,?inv,Z⟩) (round:=?round)
 case inv=>exact⟨ChkF.nil,by first|rfl|simp|(simp;omega)|omega,(by simp)⟩
 case round =>
  rintro _ _ _ ⟨v,n,cs,xs,F,k,G6,rfl,hle6,H,hinv6,rfl⟩
  have hSs:=hSs.up hle6
  have hbs:=hbs.up hle6
  have hsr5:=hsr5.up hle6
  obtain⟨hchk6_0,_,hinv6⟩:=hinv6
  obtain⟨_,_,rfl⟩:=H.accShape (k:=1) rfl
  obtain⟨_,hxs⟩:=hinv6;have hxl:xs.length≤16:=by rw[hxs];simp;omega
  refine q2 (pe 1 Z (q3 (W_seq ?_)))
  refine W_cond Z ?_ ?_
  ·intro hc7
   try simp only[nrm]at hc7
   refine W_skip (N_K (W_seq (W_block (q2 (iP k hsr5 Z3 Z ?_)))));intro _ _ z8 _ hz8 hE8 hrow8
   obtain⟨rfl,_⟩:=hE8
   refine lP H hrow8 0 Z2 (aG Z (q1 (pe 2 Z (o_lookS (hbs.at H.sub) hms hSs underlying130 underlying3 zeroValue113 Z Z Z ?_))));intro _ hE9
   obtain⟨_,_,_,rfl,_,hr9,_,_,_⟩:=ox hE9
   have hgb:=Sp.get_len hVs z8
   have hat:=Sp.get_at hVs hz8
   refine xal H Z ?_;intro _ _ _ H
   refine xst 0 H Z8 ?_;intro _ H
   refine q3 (W_drawK [0] 11 H kR Z ?_);intro _ H;have hd12:=PLe.refl G6
   refine dE 0 Z2 (dE 1 Z2 (dF 2 1 Z2 (dB 3 0 Z4 (dF 5 2 Z2 (dB 6 0 Z4 (r1 4 Z (xc Z2 (l_Clone_c _ _ H.sub _ _ hr9) ?_)))))))
   rintro _ _ ⟨_,_,_,g13,rfl,⟨_,rfl,hchk13⟩,hp13,hq13,hs13⟩
   have H:=H.growO g13 hp13 hq13 hs13;obtain⟨_,_,rfl⟩:=H.accShape (k:=0) rfl
   have hle6:=hle6.trans g13.le
   have hd12:=hd12.trans g13.le
   refine⟨_,Z,?_⟩
   refine q4 H hd12 (RD_t 7 Z kR Z (fun _ hK=>v_build bf113 Z Z) (r1 8 Z (xbs H Z7 ?_)));intro _ _ _ H
   refine q4 H hd12 (r1 9 Z (o_append1 3 H (sz:=3) (bytes:=40) underlying28 typeInfo113 ⟨_,Z,Z⟩ Z Z Z Z Z Z Z Z Z Z oM Z ?_));intro _ _ H
   obtain⟨Fi2,H,hOI2⟩:=H.ownI (k:=0) rfl hchk13 aN aN
   have hchk15:=hchk6_0.snoc (show heldO Fi2 ⟨z8,(getH Ls z8).bytes,(getH Ls z8).uses⟩ _ from⟨_,_,_,rfl,⟨by first|omega|(dsimp only;omega),by first|omega|(dsimp only;omega)⟩,hOI2,⟨by first|omega|(dsimp only;omega),by first|omega|(dsimp only;omega)⟩⟩) rfl
   have H:=H.tF 2
   have H:=H.mergeF
   obtain⟨_,_,rfl⟩:=H.accShape (k:=2) rfl
   refine q4 H hd12 (dE 10 Z2 (rz (N_B (N_K (W_region (aD Z2 (mV Z (R_nil ?_))))))))
   have H:=H.dl 1
   refine N_lp (hJ:=⟨_,_,_,(xs++[⟨z8,(getH Ls z8).bytes,(getH Ls z8).uses⟩]),(F++Fi2),k+1,_,Z,hle6,H,?inv,Z⟩) (hm:=?hm)
   case hm=>omega
   case inv=>exact⟨hchk15,aN,(by exact⟨by omega,by rw[Sp.take_succ' hat,hxs]⟩)⟩
  intro hc7'
  try simp only[nrm]at hc7'
  refine W_exit (N_K_exit (N_LP_exit (N_B_same (N_K (q2 (pe 2 Z (q3 (W_ret (rt1 results134 Z ?_)))))))))
  have H:=H.tF 1
  obtain⟨_,H,hOw3⟩:=H.ownF hchk6_0 aN aN
  have hX:xs=Ls:=by rw[hxs,List.take_of_length_le oM]
  have H:=H.forget hG (by simp)
  exact⟨_,_,Z,H,_,Z,hX▸⟨_,hOw3⟩⟩
theorem i_newVolume_c (w0:World)(G0:PH)(hG:PSub G0 w0)(vstore:Value)(store:List (BHeld))(hstore:RdH G0 vstore store)(vtree:Value)(tree:List (BItem))(htree:RdItems G0 vtree tree)(hLent:Lent w0 G0 []) :
  Calls Tryz.prog 109 #[vstore,vtree] w0 (RetM w0 G0 [] (fun G' v Bs=>(v= .tuple #[.agg #[.map none,.pointer none],.bool false]∧Bs=[]∧(Sp.StoreValid store&&Sp.TreeValid tree)=false)∨(∃(mb:Nat) (es:Array MapEntry) (ck:Nat) (xs:List (Int×Value)) (T:Nd) (F:Fr),v= .tuple #[.agg #[.map (some mb),.pointer (some ⟨T.b,0,none⟩)],.bool true]∧Bs=[blk mb (.map es ck),frag F]∧MapIs (Value.int .i64) es ck xs∧StR G' xs store∧Sp.VH store∧NdO 150 80 G' T F∧Nd.TOK T tree∧Sp.TreeValid tree=true))):=by
 obtain⟨astore,kstore,rfl⟩:=hstore.shape
 have hlimstore:store.length≤1099511627776:=hstore.lim
 obtain⟨atree,ktree,rfl⟩:=htree.shape
 have hlimtree:tree.length≤1099511627776:=htree.lim
 have H:Hp w0 G0 [] w0 G0 []:=hLent.hp
 refine calls_of_W (l:=[.slice astore store.length kstore,.slice atree tree.length ktree]) func109 Z ntmps109 Z (q2 (xal H Z ?_));intro _ _ _ H
 refine aG Z (q1 (mV Z (xc Z2 (i_openStore_c _ _ H.sub _ _ hstore H.lent0) ?_)))
 rintro _ _ ⟨_,_,_,rfl,H2',⟨_,rfl,rfl⟩|⟨hV2,_,_,_,_,rfl,rfl,hm2,hS2⟩⟩
 ·skip
  have H:=H.borrow0 H2'
  refine⟨_,Z,?_⟩
  refine pe 5 Z (q3 (W_seq (q2 (pe 2 Z (q3 (W_true Z (q2 (o_build bf132 Z Z Z (xst 0 H Z8 ?_)))))))));intro _ H
  refine aG Z (q3 (W_ret (N_K_ret (ret_gen (rs:=[.cell 4 132,.tmp 5]) (vs:=[_,_]) results109 ⟨⟨_,Z,load_blk 0 H isAgg132 sizeOf132 Z Z Z⟩,Z,trivial⟩ ?_))))
  have H:=H.dl 0
  exact H.retM (.inl ⟨rfl,rfl,by simp_all⟩)
 skip
 have htree:=htree.up H2'.le
 have H:=H.borrow0 H2'
 refine⟨_,Z,?_⟩
 refine pe 5 Z (q3 (W_seq (q2 (pe 2 Z (q3 (W_false Z (W_skip (N_K (q2 (mV Z (xc Z2 (i_openTree_c _ _ H.sub _ _ htree H.lent0) ?_)))))))))))
 rintro _ _ ⟨_,_,_,rfl,H4',⟨rfl,rfl,hv4⟩|⟨_,_,rfl,rfl,hN4,hT4,hv4⟩⟩
 ·skip
  have H:=H.borrow0 H4'
  refine⟨_,Z,?_⟩
  refine pe 5 Z (q3 (W_seq (q2 (pe 2 Z (q3 (W_true Z (q2 (o_build bf132 Z Z Z (xst 1 H Z8 ?_)))))))));intro _ H
  refine aG Z (q3 (W_ret (N_K_ret (ret_gen (rs:=[.cell 4 132,.tmp 5]) (vs:=[_,_]) results109 ⟨⟨_,Z,load_blk 1 H isAgg132 sizeOf132 Z Z Z⟩,Z,trivial⟩ ?_))))
  have H:=H.dl 0
  have H:=H.dl 0
  exact H.retM (.inl ⟨rfl,rfl,by simp_all⟩)
 skip
 have hS2:=hS2.up H4'.le
 have H:=H.borrow0 H4'
 refine⟨_,Z,?_⟩
 refine pe 5 Z (q3 (W_seq (q2 (pe 2 Z (q3 (W_false Z (W_skip (N_K (q2 (pe 2 Z (o_build bf132 Z Z Z (xst 2 H Z8 ?_))))))))))));intro _ H
 refine aG Z (q3 (W_ret (ret_gen (rs:=[.cell 4 132,.tmp 5]) (vs:=[_,_]) results109 ⟨⟨_,Z,load_blk 2 H isAgg132 sizeOf132 Z Z Z⟩,Z,trivial⟩ ?_)))
 have H:=H.dl 2
 have H:=H.tF 1
 exact H.retM (.inr ⟨_,_,_,_,_,_,Z,Z,hm2,hS2,hV2,hN4,hT4,hv4⟩)
theorem i_snapAt_c (w0:World)(G0:PH)(hG:PSub G0 w0)(db:Nat)(m1 m2 v1 v2 vs:Value)(sn:List (Bs×Nd))(hdk:PRow G0 db 0 [m1,m2,v1,v2,vs])(hsn:RdS LIM osE 2 G0 vs sn)(nm:Bs)(hnm:nm.length≤16777216) :
  Calls Tryz.prog 111 #[.pointer (some ⟨db,0,none⟩),str nm] w0 (Rets w0 (.int .i64 (Sp.optI (sn.findIdx? (fun x=>decide (x.1=nm)))))):=by
 obtain⟨_,_,rfl⟩:=hsn.shape;have hlimsn:sn.length≤1099511627776:=hsn.lim
 have H:=Hp.init hG
 refine calls_of_W (l:=[.pointer (some ⟨db,0,none⟩),str nm]) func111 Z ntmps111 Z (q2 (aG Z (q3 (W_seq (q2 (pe 2 Z (fA 4 Z (lP H hdk 4 Z2 (lN Z (mV Z (q3 (W_block ?_))))))))))))
 refine W_lp (hf:=(Sub.cons (t:=1) Z (Sub.cons (t:=10) Z (Sub.cons (t:=11) Z Sub.nil)))) (J:=fun M w m=>∃(k:Nat) (G:PH),M=[(12,.int .i64 (k:Int))]∧PLe G0 G∧Hp w0 G0 [] w G []∧(k≤sn.length∧∀(j:Nat) (x:Bs×Nd),j<k→sn[j]? = some x→decide (x.1=nm)=false)∧m=(sn.length-k)) (h0:=⟨0,_,Z,PLe.refl _,H,?inv,Z⟩) (round:=?round)
 case inv=>exact⟨by omega,fun j x hj=>by omega⟩
 case round =>
  rintro _ _ _ ⟨k,_,rfl,hle1,H,hinv1,rfl⟩
  have hsn:=hsn.up hle1
  obtain⟨_,hno⟩:=hinv1
  refine q2 (pe 1 Z (q3 (W_seq ?_)))
  refine W_cond Z ?_ ?_
  ·intro hc2
   try simp only[nrm]at hc2
   refine W_skip (N_K (W_seq (W_block (q2 (mV Z (iP k hsn Z3 Z ?_))))));intro _ _ _ _ hz3 hE3 hrow3
   obtain⟨rfl,hi3⟩:=hE3;have hy_hi3:_≤16777216:=hi3
   refine o_loadagg_P H isAgg164 sizeOf164 Z Z hrow3 Z (xal H Z ?_);intro _ _ _ H
   refine aG Z (xst 0 H Z8 ?_);intro _ H
   refine q1 (fA 0 Z (lB 0 H Z3 (mV Z (o_seql Z Z Z (q3 ?_)))))
   refine W_cond Z ?_ ?_
   ·intro hc6
    try simp only[nrm]at hc6
    refine q2 (pe 2 Z (q3 (W_ret (N_B_ret (N_K_ret (N_LP_ret (N_B_ret (N_K_ret (rt1 results111 Z ?_)))))))))
    exact H.rets (congrArg (Value.int .i64) (by rw[Sp.fidx_some (p:=fun x:Bs×Nd=>decide (x.1=nm)) hno hz3 (by simpa using hc6)];rfl))
   intro hc6'
   try simp only[nrm]at hc6'
   refine W_skip (N_B (N_K (W_region (aD Z2 (mV Z (R_nil ?_))))))
   have H:=H.dl 0
   refine N_lp (hJ:=⟨k+1,_,Z,hle1,H,?inv,Z⟩) (hm:=?hm)
   case hm=>omega
   case inv=>exact⟨by omega,Sp.fidx_step hno hz3 (by simpa using hc6')⟩
  intro hc2'
  try simp only[nrm]at hc2'
  refine W_exit (N_K_exit (N_LP_exit (N_B_same (N_K (q2 (aG Z (q3 (W_ret (rt1 results111 Z ?_)))))))))
  exact H.rets (congrArg (Value.int .i64) (by rw[Sp.fidx_none (p:=fun x:Bs×Nd=>decide (x.1=nm)) (fun j x hj=>hno j x oM)];rfl))
theorem i_newDisk_c (w0:World)(G0:PH)(hG:PSub G0 w0)(cd:List Value)(d:BDisk)(hd:diskE G0 d cd)(hLent:Lent w0 G0 []) :
  Calls Tryz.prog 57 #[.agg cd.toArray] w0 (RetM w0 G0 [] (fun G' v Bs=>(v= .tuple #[.pointer none,.bool false]∧Bs=[]∧Sp.DiskValid d=false)∨(∃(db mb:Nat) (es:Array MapEntry) (ck:Nat) (xs:List (Int×Value)) (T:Nd) (F:Fr) (sv:Value) (sn:List (Fw.Bs×Nd)) (c:List Value) (FSq:Fr),v= .tuple #[.pointer (some ⟨db,0,none⟩),.bool true]∧Bs=[blk db (cl [.int .i32 0,.int .u32 0,.map (some mb),.pointer (some ⟨T.b,0,none⟩),sv] 135),blk mb (.map es ck),frag F,acc 164 2 sv sn.length c,frag FSq]∧MapIs (Value.int .i64) es ck xs∧StR G' xs d.store∧NdO 150 80 G' T F∧Nd.TOK T d.tree∧Chk osE 2 G' c sn∧NdsO 150 80 G' (sn.map (·.2)) FSq∧SnOK sn d.snaps∧Sp.DiskValid d=true))):=by
 obtain⟨_,_,_,_,_,_,_,_,_,rfl,hr1,hr1',hr1'',⟨_,_⟩,⟨_,_⟩,_,_⟩:=ox hd
 have H:Hp w0 G0 [] w0 G0 []:=hLent.hp
 refine calls_of_W (l:=[_]) func57 Z ntmps57 Z (q2 (o_box H Z Z Z ?_));intro b2 _ _ H
 refine pe 2 Z (q1 (fA 0 Z (lB 0 H Z3 (fA 1 Z (lB 0 H Z3 (xc Z2 (i_newVolume_c _ _ H.sub _ _ hr1 _ _ hr1' H.lent0) ?_))))))
 rintro _ _ ⟨G3,_,_,rfl,H3',⟨rfl,rfl,hnv3⟩|⟨mb3,es3,ck3,_,T3,F3,rfl,rfl,hm3,hS3,hV3,hN3,hT3,hv3⟩⟩
 ·skip
  have H:=H.borrow0 H3'
  refine⟨_,Z,?_⟩
  refine pe 3 Z (xal H Z ?_);intro _ _ _ H
  refine xst 0 H Z8 ?_;intro _ H
  refine aG Z (q3 (W_seq (q2 (pe 8 Z (q3 (W_true Z (q2 (pe 2 Z (q3 (W_ret (N_K_ret (rt2 results57 Z Z ?_))))))))))))
  have H:=H.dl 0
  have H:=H.dl 0
  exact H.retM (.inl ⟨rfl,rfl,Sp.dv_no (fun hh=>by simp[hh.1,hh.2.1]at hnv3)⟩)
 skip
 have hr1'':=hr1''.up H3'.le
 have H:=H.borrow0 H3'
 refine⟨_,Z,?_⟩
 refine pe 3 Z (xal H Z ?_);intro b6 _ _ H
 refine xst 0 H Z8 ?_;intro _ H
 refine aG Z (q3 (W_seq (q2 (pe 3 Z (gR Z (fA 2 Z (gR Z (lB 3 H Z3 (gR Z (lN Z (pe 2 Z (q3 ?_))))))))))))
 refine W_cond Z ?_ ?_
 ·intro hc8
  try simp only[nrm]at hc8
  refine q2 (pe 2 Z (q3 (W_ret (N_K_ret (rt2 results57 Z Z ?_)))))
  have H:=H.sel [] rfl
  exact H.retM (.inl ⟨rfl,rfl,Sp.dv_no (fun hh=>by have:=hh.2.2.1;omega)⟩)
 intro hc8'
 try simp only[nrm]at hc8'
 refine W_skip (N_K (q2 (lA 0 2 H Z4 (o_build bf135 Z Z Z (o_box H Z Z Z ?_)))));intro b9 _ _ H
 refine aG Z (q1 (fA 1 Z (lB 1 H Z3 (xbs H Z7 ?_))));intro _ _ _ H
 refine aG Z (q3 (W_seq (q2 (fA 2 Z (lB 5 H Z3 (lN Z (mV Z (q3 (W_block ?_)))))))))
 have H:=H.blkAcc 1 (k:=0) (n:=1) rfl rfl (by decide)
 have H:=H.addF
 have H:=H.addNil 164 2
 obtain⟨ln12,hln12,H⟩:=H.nameAt (k:=3) (off:=4) rfl rfl
 obtain⟨ln13,hln13,H⟩:=H.name (k:=4) rfl
 obtain⟨ln14,hln14,H⟩:=H.name (k:=7) rfl
 refine W_lp (hf:=(Sub.cons (t:=4) Z (Sub.cons (t:=6) Z (Sub.cons (t:=35) Z (Sub.cons (t:=36) Z Sub.nil))))) (J:=fun M w m=>∃(v:Value) (n:Nat) (cs:List Value) (xs:List (Bs×Nd)) (v1:Value) (n1:Nat) (cs1:List Value) (xs1:List (Nd)) (k:Nat) (FSq:Fr) (G:PH),M=[(37,.int .i64 (k:Int)),(7,v1)]∧PLe G3 G∧Hp w0 G0 [] w G [acc 164 2 v n cs,frag FSq,acc 80 1 v1 n1 cs1,blk b9 (cl (setN ln12 4 v) 135),blk b6 (cl ln13 132),blk mb3 (.map es3 ck3),frag F3,blk b2 (cl ln14 32)]∧(Chk osE 2 G cs xs∧n=xs.length∧Chk kdE 1 G cs1 xs1∧n1=xs1.length∧k≤d.snaps.length∧xs1=T3::xs.map (·.2)∧NdsO 150 80 G (xs.map (·.2)) FSq∧SnOK xs (d.snaps.take k)∧∀(j:Nat) (s:BSnap),j<k→d.snaps[j]? = some s→Sp.l1Word s.name=true∧(j:Int)≤Sp.l12At d.snaps s.name)∧m=(d.snaps.length-k)) (h0:=⟨_,_,_,[],_,_,_,[T3],0,[],_,Z,PLe.refl _,H,?inv,Z⟩) (round:=?round)
 case inv=>exact⟨(Chk.nil (E:=osE) (sz:=2) (G:=G3)),(by first|rfl|simp|(simp;omega)|omega),(chkK [T3]),by first|rfl|simp|(simp;omega)|omega,(by exact⟨by omega,rfl,by simp[NdsO],.nil,fun j s hj=>by omega⟩)⟩
 case round =>
  rintro _ _ _ ⟨v,n,cs,xs,v1,n1,cs1,xs1,k,FSq,_,rfl,hle15,H,hinv15,rfl⟩
  subst hln12
  subst hln13
  subst hln14
  have hr1'':=hr1''.up hle15
  have hS3:=hS3.up hle15
  have hN3:=hN3.up hle15
  obtain⟨hchk15_0,_,hinv15⟩:=hinv15
  obtain⟨_,_,rfl⟩:=H.accShape (k:=0) rfl
  obtain⟨hchk15_1,_,hinv15⟩:=hinv15
  obtain⟨_,_,rfl⟩:=H.accShape (k:=2) rfl
  obtain⟨_,hx1,hNs,hSn,hw⟩:=hinv15;have hsl:=hSn.len;have hxl6:xs.length≤6:=(by simp at hsl;omega);have hx1l:xs1.length=xs.length+1:=by simp[hx1]
  refine q2 (pe 1 Z (q3 (W_seq ?_)))
  refine W_cond Z ?_ ?_
  ·intro hc16
   try simp only[nrm]at hc16
   refine W_skip (N_K (W_seq (W_block (q2 (iP k hr1'' Z3 Z ?_)))));intro _ _ z17 _ hz17 hE17 hrow17
   obtain⟨_,_,_,rfl,hi17,hr17,_,_⟩:=ox hE17
   refine o_loadagg_P H isAgg91 sizeOf91 Z Z hrow17 Z (xal H Z ?_);intro _ _ _ H
   refine xst 0 H Z8 ?_;intro _ H
   refine q1 (fA 1 Z (lB 0 H Z3 (xc Z2 (i_openTree_c _ _ H.sub _ _ hr17 H.lent0) ?_)))
   rintro _ _ ⟨G20,_,_,rfl,H20',⟨rfl,rfl,hv20⟩|⟨T20,F20,rfl,rfl,hN20,hT20,hv20⟩⟩
   ·skip
    have H:=H.borrow0 H20'
    refine⟨_,Z,?_⟩
    refine pe 5 Z (q3 (W_seq (q2 (pe 15 Z (q3 (W_true Z (q2 (pe 2 Z (q3 (W_ret (N_K_ret (N_B_ret (N_K_ret (N_LP_ret (N_B_ret ?_)))))))))))))))
    refine N_K_ret (rt2 results57 Z Z ?_)
    have H:=H.sel [] rfl
    exact H.retM (.inl ⟨rfl,rfl,Sp.dv_no (fun hh=>by (rw[(hh.2.2.2 k _ hz17).2.2]at hv20);cases hv20)⟩)
   skip
   have hchk15_0:=hchk15_0.up H20'.le
   have hchk15_1:=hchk15_1.up H20'.le
   have hNs:=hNs.up H20'.le
   have hle15:=hle15.trans H20'.le
   have H:=H.borrow0 H20'
   refine⟨_,Z,?_⟩
   refine pe 5 Z (q3 (W_seq (q2 (pe 3 Z (gR Z (fA 0 Z (gR Z (lB 1 H Z3 (gR Z (xr H Z2 (i_partValid_c _ _ hi17) ?_))))))))));intro _ H
   refine pe 3 Z ?_
   refine R_case (t:=55) Z ?_ ?_
   ·intro hc22
    try simp only[nrm]at hc22
    refine pe 6 Z (q3 (W_true Z (q2 (pe 2 Z (q3 (W_ret (N_K_ret (N_B_ret (N_K_ret (N_LP_ret (N_B_ret (N_K_ret (rt2 results57 Z Z ?_)))))))))))))
    have H:=H.sel [] rfl
    exact H.retM (.inl ⟨rfl,rfl,Sp.dv_no (fun hh=>by have h9:=(hh.2.2.2 k _ hz17).1;simp_all)⟩)
   intro hc22'
   try simp only[nrm]at hc22'
   refine pe 1 Z (gR Z (fA 0 Z (gR Z (lB 1 H Z3 (gR Z (xr H Z2 (i_snapAt_c _ _ (H.lendSubL [2,5]) _ _ _ _ _ _ _ (prow_blk (H.lendPredL (k:=5) (ks:=[2,5]) Z Z)) (H.lendRdL (k:=2) (ks:=[2,5]) Z Z hchk15_0 aN aN) _ hi17) ?_))))));intro _ H
   refine pe 2 Z (q3 ?_)
   refine W_cond Z ?_ ?_
   ·intro hc24
    try simp only[nrm]at hc24
    refine q2 (pe 2 Z (q3 (W_ret (N_K_ret (N_B_ret (N_K_ret (N_LP_ret (N_B_ret (N_K_ret (rt2 results57 Z Z ?_))))))))))
    have H:=H.sel [] rfl
    exact H.retM (.inl ⟨rfl,rfl,Sp.dv_no (fun hh=>by have h9:=(Sp.at_take hz17).1 (hh.2.2.2 k _ hz17).2.1;(rw[←Sp.sn_find hSn]at h9);omega)⟩)
   intro hc24'
   try simp only[nrm]at hc24'
   refine W_skip (N_K (W_seq (W_drawK [1,6,9] 14 H kR Z ?_)));intro _ H;have hd25:=PLe.refl G20
   refine dE 0 Z2 (dE 1 Z2 (dE 2 Z2 (dF 3 4 Z2 (dF 5 0 Z2 (dB 6 0 Z4 (dE 7 Z2 (RD_t 8 Z kR Z (fun _ hK=>v_build bf164 Z Z) ?_)))))))
   refine r2 4 9 Z2 ?_ ?_
   ·skip
    refine lB 5 H Z3 (q4 H hd25 (r1 9 Z (xbs H Z7 ?_)));intro _ _ _ H
    refine q4 H hd25 (r1 10 Z (o_append1 2 H (sz:=2) (bytes:=24) underlying133 typeInfo164 ⟨_,Z,Z⟩ Z Z Z Z Z Z Z Z Z Z oM Z ?_));intro _ _ H
    have hchk27:=hchk15_0.snoc (show osE _ (z17.name,T20) _ from⟨rfl,hi17⟩) rfl
    obtain⟨_,_,rfl⟩:=H.accShape (k:=2) rfl
    refine q4 H hd25 (dE 11 Z2 (dF 12 4 Z2 (r1 13 Z ?_)))
    have H:=H.tF 3
    have H:=H.mergeF
    refine xst 4 H Z8 ?_;intro _ H
    refine q4 H hd25 (rz (N_K (W_region (pe 2 Z (xbs H Z7 ?_)))));intro _ _ _ H
    refine o_append1 3 H (sz:=1) (bytes:=8) underlying148 typeInfo80 ⟨_,Z,Z⟩ Z Z Z Z Z Z Z Z Z Z oM Z ?_;intro _ _ H
    have hchk30:=hchk15_1.snoc (show kdE _ T20 _ from rfl) rfl
    obtain⟨_,_,rfl⟩:=H.accShape (k:=3) rfl
    refine aG Z (R_nil (N_B (N_K (W_region (aD Z2 (mV Z (R_nil ?_)))))))
    have H:=H.sel [2,0,3,4,5,6,7,8] rfl
    refine N_lp (hJ:=⟨_,_,_,(xs++[(z17.name,T20)]),_,_,_,(xs1++[T20]),k+1,(FSq++F20),_,Z,hle15,H,?inv,Z⟩) (hm:=?hm)
    case hm=>omega
    case inv=>exact⟨hchk27,aN,hchk30,aN,(by exact⟨by omega,by simp[hx1],by simpa using hNs.snoc hN20,hSn.snoc2 hz17 rfl hT20 hv20,names_step hw hz17 (by simpa using hc22') hSn oM⟩)⟩
   skip
   refine xbs H Z7 ?_;intro _ _ _ H
   refine q4 H hd25 (r1 4 Z (lB 6 H Z3 (q4 H hd25 (r1 10 Z (o_append1 2 H (sz:=2) (bytes:=24) underlying133 typeInfo164 ⟨_,Z,Z⟩ Z Z Z Z Z Z Z Z Z Z oM Z ?_)))));intro _ _ H
   have hchk33:=hchk15_0.snoc (show osE _ (z17.name,T20) _ from⟨rfl,hi17⟩) rfl
   obtain⟨_,_,rfl⟩:=H.accShape (k:=2) rfl
   refine q4 H hd25 (dE 11 Z2 (dF 12 4 Z2 (r1 13 Z ?_)))
   have H:=H.tF 3
   have H:=H.mergeF
   refine xst 4 H Z8 ?_;intro _ H
   refine q4 H hd25 (rz (N_K (W_region (pe 2 Z (xbs H Z7 ?_)))));intro _ _ _ H
   refine o_append1 3 H (sz:=1) (bytes:=8) underlying148 typeInfo80 ⟨_,Z,Z⟩ Z Z Z Z Z Z Z Z Z Z oM Z ?_;intro _ _ H
   have hchk36:=hchk15_1.snoc (show kdE _ T20 _ from rfl) rfl
   obtain⟨_,_,rfl⟩:=H.accShape (k:=3) rfl
   refine aG Z (R_nil (N_B (N_K (W_region (aD Z2 (mV Z (R_nil ?_)))))))
   have H:=H.sel [2,0,3,4,5,6,7,8] rfl
   refine N_lp (hJ:=⟨_,_,_,(xs++[(z17.name,T20)]),_,_,_,(xs1++[T20]),k+1,(FSq++F20),_,Z,hle15,H,?inv,Z⟩) (hm:=?hm)
   case hm=>omega
   case inv=>exact⟨hchk33,aN,hchk36,aN,(by exact⟨by omega,by simp[hx1],by simpa using hNs.snoc hN20,hSn.snoc2 hz17 rfl hT20 hv20,names_step hw hz17 (by simpa using hc22') hSn oM⟩)⟩
  intro hc16'
  try simp only[nrm]at hc16'
  refine W_exit (N_K_exit (N_LP_exit (N_B_same (N_K (W_seq (q2 (fA 0 Z (lB 4 H Z3 (mV Z ?_)))))))))
  refine xr H Z2 (i_usedBy_c _ _ (H.lendSubL [1,2,5,6]) _ _ _ _ _ (H.lendPredL (k:=5) (ks:=[1,2,5,6]) Z Z) hm3 (hS3.up (PPlus.le _ _ _)) hV3 _ _ (RdS.withN (H.lendRdL (k:=2) (ks:=[1,2,5,6]) Z Z hchk15_1 aN aN) (fun t ht=>by (rw[hx1]at ht);rcases List.mem_cons.1 ht with rfl|ht;(· exact H.lendN (k:=6) rfl rfl hN3);(· exact H.lendNs (k:=1) rfl rfl hNs t ht))) oM (fun t ht=>by (rw[hx1]at ht);rcases List.mem_cons.1 ht with rfl|ht;(· exact⟨hT3.wf,by have:=hT3.cnt;have:=Sp.tree_len hv3;omega⟩);(· exact sn_ok hSn t ht))) ?_;intro _ H
  refine pe 1 Z (q3 ?_)
  refine W_cond Z ?_ ?_
  ·intro hc39
   try simp only[nrm]at hc39
   refine q2 (pe 2 Z (q3 (W_ret (N_K_ret (rt2 results57 Z Z ?_)))))
   have H:=H.sel [] rfl
   have hkk:k=d.snaps.length:=by omega
   have hSnf:SnOK xs d.snaps:=by (rw[hkk,List.take_length]at hSn;exact hSn)
   have hwf:∀(j:Nat) (s:BSnap),d.snaps[j]? = some s→Sp.l1Word s.name=true∧(j:Int)≤Sp.l12At d.snaps s.name:=fun j s hs=>hw j s (by have:=(List.getElem?_eq_some_iff.1 hs).1;omega) hs
   exact H.retM (.inl ⟨rfl,rfl,(by (rw[Sp.dv_use (Sp.valid_iff.2 hV3) hT3 oM hSnf hwf,←hx1];unfold Sp.useOK;rw[Bool.and_eq_false_iff];exact hc39))⟩)
  intro hc39'
  try simp only[nrm]at hc39'
  refine W_skip (N_K (q2 (pe 3 Z (q3 (W_ret (rt2 results57 Z Z ?_))))))
  have H:=H.sel [3,5,6,0,1] rfl
  have hkk:k=d.snaps.length:=by omega
  have hSnf:SnOK xs d.snaps:=by (rw[hkk,List.take_length]at hSn;exact hSn)
  have hwf:∀(j:Nat) (s:BSnap),d.snaps[j]? = some s→Sp.l1Word s.name=true∧(j:Int)≤Sp.l12At d.snaps s.name:=fun j s hs=>hw j s (by have:=(List.getElem?_eq_some_iff.1 hs).1;omega) hs
  have hdv:Sp.DiskValid d=true:=by (rw[Sp.dv_use (Sp.valid_iff.2 hV3) hT3 oM hSnf hwf,←hx1];unfold Sp.useOK;simpa using hc39')
  obtain rfl:n=xs.length:=by assumption
  exact H.retM (.inr ⟨_,_,_,_,_,_,_,_,xs,_,_,Z,Z,hm3,hS3,hN3,hT3,hchk15_0,hNs,hSnf,hdv⟩)
end Go.Proofs.Tst
namespace Go.Proofs.Tst
open Go
abbrev muLink:Go.Conc.Locks.MuLink:={lock:=86,unlock:=87,ilock:=135,iunlock:=136,lockSlow:=169,unlockSlow:=172,disable:=165,enable:=167,acquire:=168,relMerge:=170,cas32:=166,add32:=171,tMutex:=128,tIMutex:=126,tPMutex:=178,tPIMutex:=201,tPI32:=203,tUP:=205,tNoCopy:=123,tU32:=124}
theorem muLib:Go.Conc.Locks.MuLib Tryz.prog muLink where
 f_lock:=by kernel_rfl
 f_unlock:=by kernel_rfl
 f_ilock:=by kernel_rfl
 f_iunlock:=by kernel_rfl
 f_disable:=by kernel_rfl
 f_enable:=by kernel_rfl
 f_acquire:=by kernel_rfl
 f_relMerge:=by kernel_rfl
 f_cas32:=by kernel_rfl
 f_add32:=by kernel_rfl
 underlying_tIMutex:=Tryz.underlying126
 runUnderlying_tIMutex:=Tryz.runUnderlying126
 sizeOf_tIMutex:=Tryz.sizeOf126
 isAgg_tIMutex:=Tryz.isAgg126
 zeroValue_tIMutex:=Tryz.zeroValue126
 underlying_tMutex:=Tryz.underlying128
 runUnderlying_tMutex:=Tryz.runUnderlying128
 sizeOf_tMutex:=Tryz.sizeOf128
 isAgg_tMutex:=Tryz.isAgg128
 zeroValue_tMutex:=Tryz.zeroValue128
 underlying_tPMutex:=Tryz.underlying178
 runUnderlying_tPMutex:=Tryz.runUnderlying178
 sizeOf_tPMutex:=Tryz.sizeOf178
 isAgg_tPMutex:=Tryz.isAgg178
 zeroValue_tPMutex:=Tryz.zeroValue178
 underlying_tPIMutex:=Tryz.underlying201
 runUnderlying_tPIMutex:=Tryz.runUnderlying201
 sizeOf_tPIMutex:=Tryz.sizeOf201
 isAgg_tPIMutex:=Tryz.isAgg201
 zeroValue_tPIMutex:=Tryz.zeroValue201
 underlying_tPI32:=Tryz.underlying203
 runUnderlying_tPI32:=Tryz.runUnderlying203
 sizeOf_tPI32:=Tryz.sizeOf203
 isAgg_tPI32:=Tryz.isAgg203
 zeroValue_tPI32:=Tryz.zeroValue203
 underlying_tUP:=Tryz.underlying205
 runUnderlying_tUP:=Tryz.runUnderlying205
 sizeOf_tUP:=Tryz.sizeOf205
 isAgg_tUP:=Tryz.isAgg205
 zeroValue_tUP:=Tryz.zeroValue205
 underlying_tNoCopy:=Tryz.underlying123
 runUnderlying_tNoCopy:=Tryz.runUnderlying123
 sizeOf_tNoCopy:=Tryz.sizeOf123
 isAgg_tNoCopy:=Tryz.isAgg123
 zeroValue_tNoCopy:=Tryz.zeroValue123
 underlying_t21:=Tryz.underlying21
 runUnderlying_t21:=Tryz.runUnderlying21
 sizeOf_t21:=Tryz.sizeOf21
 isAgg_t21:=Tryz.isAgg21
 zeroValue_t21:=Tryz.zeroValue21
 room_tIMutex:=by kernel_rfl
end Go.Proofs.Tst
namespace Go.Proofs.Tst
open Go Fw Tryz
theorem i_disk_c (w0:World)(G0:PH)(hG:PSub G0 w0)(db mb:Nat)(es:Array MapEntry)(ck:Nat)(xs:List (Int×Value))(T:Nd)(FT:Fr)(sv:Value)(sn:List (Bs×Nd))(c:List Value)(FSq:Fr)(d:BDisk)(hm:MapIs (Value.int .i64) es ck xs)(hS:StR G0 xs d.store)(hN:NdO 150 80 G0 T FT)(hT:Nd.TOK T d.tree)(hchk:Chk osE 2 G0 c sn)(hNs:NdsO 150 80 G0 (sn.map (·.2)) FSq)(hSn:SnOK sn d.snaps)(hVd:Sp.VH d.store)(hs6:d.snaps.length≤6)(hLent:Lent w0 G0 [blk db (cl [.int .i32 0,.int .u32 0,.map (some mb),.pointer (some ⟨T.b,0,none⟩),sv] 135),blk mb (.map es ck),frag FT,acc 164 2 sv sn.length c,frag FSq]) :
  Calls Tryz.prog 85 #[.pointer (some ⟨db,0,none⟩)] w0 (RetM w0 G0 (fps [blk db (cl [.int .i32 0,.int .u32 0,.map (some mb),.pointer (some ⟨T.b,0,none⟩),sv] 135),blk mb (.map es ck),frag FT,acc 164 2 sv sn.length c,frag FSq]) (fun G' v Bs=>∃(v1 v2 v3:Value) (F1 F2 F3:Fr),v= .agg #[v1,v2,v3]∧Bs=[frag F1,frag F2,frag F3]∧OHs F1 v1 d.store∧OIs F2 v2 d.tree∧OSn F3 v3 d.snaps)):=by
 have H:Hp w0 G0 (fps [blk db (cl [.int .i32 0,.int .u32 0,.map (some mb),.pointer (some ⟨T.b,0,none⟩),sv] 135),blk mb (.map es ck),frag FT,acc 164 2 sv sn.length c,frag FSq]) w0 G0 [blk db (cl [.int .i32 0,.int .u32 0,.map (some mb),.pointer (some ⟨T.b,0,none⟩),sv] 135),blk mb (.map es ck),frag FT,acc 164 2 sv sn.length c,frag FSq]:=hLent.hp
 obtain⟨adv,cdv,rfl⟩:=H.accShape (k:=3) rfl;have hTv:=hT.valid;have hTc:=hT.cnt;have hTl:=Sp.tree_len hTv;have hsnl:=hSn.len;have hxa:=H.accShape (k:=3) rfl
 refine calls_of_WD (l:=[.pointer (some ⟨db,0,none⟩)]) func85 Z ntmps85 Z (q2 (xal H Z ?_));intro b1 _ _ H
 refine q1 (pe 2 Z (fA 0 Z (o_lock 1 H muLib Z call86 Z Z Z Z ?_)));intro _ H
 refine q1 (pe 2 Z (fA 0 Z (o_defer Z (q3 (W_seq (W_drawK [0,1] 15 H kR Z ?_))))));intro _ H;have hd3:=PLe.refl G0
 refine dE 0 Z2 (dE 1 Z2 (dF 2 2 Z2 (dF 3 0 Z2 (dB 4 1 Z4 (dE 6 Z2 (dE 7 Z2 (dF 8 2 Z2 (dF 9 1 Z2 (dB 10 1 Z4 ?_)))))))))
 refine r2 5 13 Z2 ?_ ?_
 ·skip
  refine xc Z2 (i_slist_c _ _ (H.lendSubL [2]) _ _ _ _ _ (H.lendPredL (k:=2) (ks:=[2]) Z Z) hm (hS.up (PPlus.le _ _ _)) hVd) ?_
  rintro _ _ ⟨_,_,rfl,H4',⟨F4,rfl,hO4⟩⟩
  have H:=H.readersL H4'
  obtain⟨_,hP4⟩:=hO4
  obtain⟨_,_,rfl⟩:=OwnS.shape hP4
  have hO4:=OHs.mk hP4
  refine⟨_,Z,?_⟩
  refine q4 H hd3 ?_
  refine r2 11 13 Z2 ?_ ?_
  ·skip
   refine xc Z2 (i_tlist_c _ _ (H.lendSubL [4]) _ ((H.lendN (k:=4) (ks:=[4]) Z Z hN).at (show Nd.at_ T []=some T from Z)) hT.wf oM) ?_
   rintro _ _ ⟨_,_,rfl,H5',⟨F5,rfl,hO5⟩⟩
   have H:=H.readersL H5'
   obtain⟨_,hP5⟩:=hO5
   obtain⟨_,_,rfl⟩:=OwnS.shape hP5
   have hO5:=OIs.mk hP5
   refine⟨_,Z,?_⟩
   refine q4 H hd3 (RD_t 12 Z kR Z (fun _ hK=>v_build bf32 Z Z) (r1 13 Z (xal H Z ?_)));intro b6 _ _ H
   refine q4 H hd3 (r1 14 Z (xst 0 H Z8 ?_));intro _ H
   refine R_nil (N_DKlast kR kR (N_K (W_seq (q2 (pe 2 Z (fA 4 Z (lB 4 H Z3 (lN Z (mV Z (q3 (W_block ?_)))))))))))
   have H:=H.addNil 91 2
   have H:=H.addF
   obtain⟨ln9,hln9,H⟩:=H.nameAt (k:=2) (off:=2) rfl rfl
   obtain⟨ln10,hln10,H⟩:=H.name (k:=5) rfl
   obtain⟨ln11,hln11,H⟩:=H.name (k:=6) rfl
   refine W_lp (hf:=(Sub.cons (t:=2) Z (Sub.cons (t:=3) Z (Sub.cons (t:=29) Z (Sub.cons (t:=30) Z Sub.nil))))) (J:=fun M w m=>∃(v:Value) (n:Nat) (cs:List Value) (xs:List (BSnap)) (F:Fr) (k:Nat) (G:PH),M=[(31,.int .i64 (k:Int))]∧PLe G0 G∧Hp w0 G0 (fps [blk db (cl [.int .i32 0,.int .u32 0,.map (some mb),.pointer (some ⟨T.b,0,none⟩),.slice adv sn.length cdv] 135),blk mb (.map es ck),frag FT,acc 164 2 (.slice adv sn.length cdv) sn.length c,frag FSq]) w G [frag F,acc 91 2 v n cs,blk b6 (cl (setN ln9 2 v) 32),frag F5,frag F4,blk b1 (cl ln10 32),blk db (cl ln11 135),blk mb (.map es ck),frag FT,acc 164 2 (.slice adv sn.length cdv) sn.length c,frag FSq]∧(ChkF snapO 2 cs xs F∧n=xs.length∧k≤sn.length∧xs=(sn.take k).map (fun x=>(⟨x.1,x.2.flat []⟩:BSnap)))∧m=(sn.length-k)) (h0:=⟨_,_,_,[],[],0,_,Z,PLe.refl _,H,?inv,Z⟩) (round:=?round)
   case inv=>exact⟨ChkF.nil,by first|rfl|simp|(simp;omega)|omega,(by simp)⟩
   case round =>
    rintro _ _ _ ⟨v,n,cs,xs,F,k,G12,rfl,hle12,H,hinv12,rfl⟩
    subst hln9
    subst hln10
    subst hln11
    have hchk:=hchk.up hle12
    have hNs:=hNs.up hle12
    obtain⟨hchk12_0,_,hinv12⟩:=hinv12
    obtain⟨_,_,rfl⟩:=H.accShape (k:=1) rfl
    obtain⟨hk,hxs⟩:=hinv12;have hxl6:xs.length≤6:=by (rw[hxs];simp;omega)
    refine q2 (pe 1 Z (q3 (W_seq ?_)))
    refine W_cond Z ?_ ?_
    ·intro hc13
     try simp only[nrm]at hc13
     refine W_skip (N_K (W_seq (W_block (q2 (o_index_A 9 H k Z hchk underlying133 sizeOf164 Z Z Z Z aN aN ?_)))));intro _ z14 _ hba14 hz14 hE14 hg14;cases hba14
     obtain⟨rfl,hi14⟩:=hE14;have hy_hi14:_≤16777216:=hi14
     refine o_loadagg_A 9 H isAgg164 sizeOf164 Z Z Z hg14 Z (xal H Z ?_);intro _ _ _ H
     refine xst 0 H Z8 ?_;intro _ H
     refine q3 (W_drawK [0,3,6,7] 12 H kR Z ?_);intro _ H;have hd17:=PLe.refl G12
     refine dF 0 2 Z2 (dB 1 1 Z4 (dF 2 0 Z2 (dB 3 0 Z4 (dF 4 1 Z2 (dB 5 0 Z4 (r1 6 Z ?_))))))
     refine xc Z2 (i_tlist_c _ _ (H.lendSubL [11]) _ (H.lendNs (k:=11) (ks:=[11]) Z Z hNs z14.2 (List.mem_map_of_mem (List.mem_of_getElem? hz14))) (sn_ok hSn _ (List.mem_map_of_mem (List.mem_of_getElem? hz14))).1 (by have:=(sn_ok hSn _ (List.mem_map_of_mem (List.mem_of_getElem? hz14))).2;omega)) ?_
     rintro _ _ ⟨_,_,rfl,H18',⟨F18,rfl,hO18⟩⟩
     have H:=H.readersL H18'
     obtain⟨_,hP18⟩:=hO18
     obtain⟨_,_,rfl⟩:=OwnS.shape hP18
     have hO18:=OIs.mk hP18
     refine⟨_,Z,?_⟩
     refine q4 H hd17 (RD_t 7 Z kR Z (fun _ hK=>v_build bf91 Z Z) (r1 8 Z (xbs H Z7 ?_)));intro _ _ _ H
     refine q4 H hd17 (r1 9 Z (o_append1 3 H (sz:=2) (bytes:=40) underlying30 typeInfo91 ⟨_,Z,Z⟩ Z Z Z Z Z Z Z Z Z Z oM Z ?_));intro _ _ H
     have hchk20:=hchk12_0.snoc (show snapO F18 ⟨z14.1,z14.2.flat []⟩ _ from⟨_,_,_,rfl,hi14,hO18⟩) rfl
     have H:=H.tF 2
     have H:=H.mergeF
     obtain⟨_,_,rfl⟩:=H.accShape (k:=2) rfl
     refine q4 H hd17 (dF 10 2 Z2 (r1 11 Z (xst 3 H Z8 ?_)));intro _ H
     refine R_nil (N_DKlast kR kR (N_B (N_K (W_region (aD Z2 (mV Z (R_nil ?_)))))))
     have H:=H.sel [0,2,3,4,5,6,7,8,9,10,11] rfl
     refine N_lp (hJ:=⟨_,_,_,(xs++[⟨z14.1,z14.2.flat []⟩]),(F++F18),k+1,_,Z,hle12,H,?inv,Z⟩) (hm:=?hm)
     case hm=>omega
     case inv=>exact⟨hchk20,aN,(by exact⟨by omega,by (rw[Sp.take_succ' hz14,List.map_append,←hxs];rfl)⟩)⟩
    intro hc13'
    try simp only[nrm]at hc13'
    refine W_exit (N_K_exit (N_LP_exit (N_B_same (N_K (q2 (lA 2 3 H Z4 (xst 5 H Z8 ?_)))))));intro _ H
    refine q3 (W_ret (ret_unlock 6 H muLib Z call87 Z Z (rs:=[.cell 2 32]) results85 ?_));intro _ H
    refine⟨[_],⟨⟨_,Z,load_blk 5 H isAgg32 sizeOf32 Z Z Z⟩,trivial⟩,?_⟩
    have H:=H.tF 1
    obtain⟨_,H,hOw3⟩:=H.ownF hchk12_0 aN aN
    have H:=H.sel [3,2,0] rfl
    have hxs2:xs=d.snaps:=by (rw[hxs,List.take_of_length_le oM];exact sn_list hSn)
    exact H.retM ⟨_,_,_,_,_,_,rfl,rfl,hO4,(by (rw[←hT.flat]);exact hO5),(by have h9:=(show OSn _ _ _ from⟨_,hOw3⟩);(rw[hxs2]at h9);exact h9)⟩
  skip
  refine xal H Z ?_;intro b24 _ _ H
  refine q4 H hd3 (r1 11 Z (xc Z2 (i_tlist_c _ _ (H.lendSubL [5]) _ ((H.lendN (k:=5) (ks:=[5]) Z Z hN).at (show Nd.at_ T []=some T from Z)) hT.wf oM) ?_))
  rintro _ _ ⟨_,_,rfl,H25',⟨F25,rfl,hO25⟩⟩
  have H:=H.readersL H25'
  obtain⟨_,hP25⟩:=hO25
  obtain⟨_,_,rfl⟩:=OwnS.shape hP25
  have hO25:=OIs.mk hP25
  refine⟨_,Z,?_⟩
  refine q4 H hd3 (RD_t 12 Z kR Z (fun _ hK=>v_build bf32 Z Z) (r1 14 Z (xst 1 H Z8 ?_)));intro _ H
  refine R_nil (N_DKlast kR kR (N_K (W_seq (q2 (pe 2 Z (fA 4 Z (lB 4 H Z3 (lN Z (mV Z (q3 (W_block ?_)))))))))))
  have H:=H.addNil 91 2
  have H:=H.addF
  obtain⟨ln28,hln28,H⟩:=H.nameAt (k:=3) (off:=2) rfl rfl
  obtain⟨ln29,hln29,H⟩:=H.name (k:=5) rfl
  obtain⟨ln30,hln30,H⟩:=H.name (k:=6) rfl
  refine W_lp (hf:=(Sub.cons (t:=2) Z (Sub.cons (t:=3) Z (Sub.cons (t:=29) Z (Sub.cons (t:=30) Z Sub.nil))))) (J:=fun M w m=>∃(v:Value) (n:Nat) (cs:List Value) (xs:List (BSnap)) (F:Fr) (k:Nat) (G:PH),M=[(31,.int .i64 (k:Int))]∧PLe G0 G∧Hp w0 G0 (fps [blk db (cl [.int .i32 0,.int .u32 0,.map (some mb),.pointer (some ⟨T.b,0,none⟩),.slice adv sn.length cdv] 135),blk mb (.map es ck),frag FT,acc 164 2 (.slice adv sn.length cdv) sn.length c,frag FSq]) w G [frag F,acc 91 2 v n cs,frag F25,blk b24 (cl (setN ln28 2 v) 32),frag F4,blk b1 (cl ln29 32),blk db (cl ln30 135),blk mb (.map es ck),frag FT,acc 164 2 (.slice adv sn.length cdv) sn.length c,frag FSq]∧(ChkF snapO 2 cs xs F∧n=xs.length∧k≤sn.length∧xs=(sn.take k).map (fun x=>(⟨x.1,x.2.flat []⟩:BSnap)))∧m=(sn.length-k)) (h0:=⟨_,_,_,[],[],0,_,Z,PLe.refl _,H,?inv,Z⟩) (round:=?round)
  case inv=>exact⟨ChkF.nil,by first|rfl|simp|(simp;omega)|omega,(by simp)⟩
  case round =>
   rintro _ _ _ ⟨v,n,cs,xs,F,k,G31,rfl,hle31,H,hinv31,rfl⟩
   subst hln28
   subst hln29
   subst hln30
   have hchk:=hchk.up hle31
   have hNs:=hNs.up hle31
   obtain⟨hchk31_0,_,hinv31⟩:=hinv31
   obtain⟨_,_,rfl⟩:=H.accShape (k:=1) rfl
   obtain⟨hk,hxs⟩:=hinv31;have hxl6:xs.length≤6:=by (rw[hxs];simp;omega)
   refine q2 (pe 1 Z (q3 (W_seq ?_)))
   refine W_cond Z ?_ ?_
   ·intro hc32
    try simp only[nrm]at hc32
    refine W_skip (N_K (W_seq (W_block (q2 (o_index_A 9 H k Z hchk underlying133 sizeOf164 Z Z Z Z aN aN ?_)))));intro _ z33 _ hba33 hz33 hE33 hg33;cases hba33
    obtain⟨rfl,hi33⟩:=hE33;have hy_hi33:_≤16777216:=hi33
    refine o_loadagg_A 9 H isAgg164 sizeOf164 Z Z Z hg33 Z (xal H Z ?_);intro _ _ _ H
    refine xst 0 H Z8 ?_;intro _ H
    refine q3 (W_drawK [0,4,6,7] 12 H kR Z ?_);intro _ H;have hd36:=PLe.refl G31
    refine dF 0 2 Z2 (dB 1 1 Z4 (dF 2 0 Z2 (dB 3 0 Z4 (dF 4 1 Z2 (dB 5 0 Z4 (r1 6 Z ?_))))))
    refine xc Z2 (i_tlist_c _ _ (H.lendSubL [11]) _ (H.lendNs (k:=11) (ks:=[11]) Z Z hNs z33.2 (List.mem_map_of_mem (List.mem_of_getElem? hz33))) (sn_ok hSn _ (List.mem_map_of_mem (List.mem_of_getElem? hz33))).1 (by have:=(sn_ok hSn _ (List.mem_map_of_mem (List.mem_of_getElem? hz33))).2;omega)) ?_
    rintro _ _ ⟨_,_,rfl,H37',⟨F37,rfl,hO37⟩⟩
    have H:=H.readersL H37'
    obtain⟨_,hP37⟩:=hO37
    obtain⟨_,_,rfl⟩:=OwnS.shape hP37
    have hO37:=OIs.mk hP37
    refine⟨_,Z,?_⟩
    refine q4 H hd36 (RD_t 7 Z kR Z (fun _ hK=>v_build bf91 Z Z) (r1 8 Z (xbs H Z7 ?_)));intro _ _ _ H
    refine q4 H hd36 (r1 9 Z (o_append1 3 H (sz:=2) (bytes:=40) underlying30 typeInfo91 ⟨_,Z,Z⟩ Z Z Z Z Z Z Z Z Z Z oM Z ?_));intro _ _ H
    have hchk39:=hchk31_0.snoc (show snapO F37 ⟨z33.1,z33.2.flat []⟩ _ from⟨_,_,_,rfl,hi33,hO37⟩) rfl
    have H:=H.tF 2
    have H:=H.mergeF
    obtain⟨_,_,rfl⟩:=H.accShape (k:=2) rfl
    refine q4 H hd36 (dF 10 2 Z2 (r1 11 Z (xst 4 H Z8 ?_)));intro _ H
    refine R_nil (N_DKlast kR kR (N_B (N_K (W_region (aD Z2 (mV Z (R_nil ?_)))))))
    have H:=H.sel [0,2,3,4,5,6,7,8,9,10,11] rfl
    refine N_lp (hJ:=⟨_,_,_,(xs++[⟨z33.1,z33.2.flat []⟩]),(F++F37),k+1,_,Z,hle31,H,?inv,Z⟩) (hm:=?hm)
    case hm=>omega
    case inv=>exact⟨hchk39,aN,(by exact⟨by omega,by (rw[Sp.take_succ' hz33,List.map_append,←hxs];rfl)⟩)⟩
   intro hc32'
   try simp only[nrm]at hc32'
   refine W_exit (N_K_exit (N_LP_exit (N_B_same (N_K (q2 (lA 3 3 H Z4 (xst 5 H Z8 ?_)))))));intro _ H
   refine q3 (W_ret (ret_unlock 6 H muLib Z call87 Z Z (rs:=[.cell 2 32]) results85 ?_));intro _ H
   refine⟨[_],⟨⟨_,Z,load_blk 5 H isAgg32 sizeOf32 Z Z Z⟩,trivial⟩,?_⟩
   have H:=H.tF 1
   obtain⟨_,H,hOw6⟩:=H.ownF hchk31_0 aN aN
   have H:=H.sel [3,1,0] rfl
   have hxs2:xs=d.snaps:=by (rw[hxs,List.take_of_length_le oM];exact sn_list hSn)
   exact H.retM ⟨_,_,_,_,_,_,rfl,rfl,hO4,(by (rw[←hT.flat]);exact hO25),(by have h9:=(show OSn _ _ _ from⟨_,hOw6⟩);(rw[hxs2]at h9);exact h9)⟩
 skip
 refine xal H Z ?_;intro b43 _ _ H
 refine q4 H hd3 (r1 5 Z (xc Z2 (i_slist_c _ _ (H.lendSubL [3]) _ _ _ _ _ (H.lendPredL (k:=3) (ks:=[3]) Z Z) hm (hS.up (PPlus.le _ _ _)) hVd) ?_))
 rintro _ _ ⟨_,_,rfl,H44',⟨F44,rfl,hO44⟩⟩
 have H:=H.readersL H44'
 obtain⟨_,hP44⟩:=hO44
 obtain⟨_,_,rfl⟩:=OwnS.shape hP44
 have hO44:=OHs.mk hP44
 refine⟨_,Z,?_⟩
 refine q4 H hd3 (r1 11 Z (xc Z2 (i_tlist_c _ _ (H.lendSubL [5]) _ ((H.lendN (k:=5) (ks:=[5]) Z Z hN).at (show Nd.at_ T []=some T from Z)) hT.wf oM) ?_))
 rintro _ _ ⟨_,_,rfl,H45',⟨F45,rfl,hO45⟩⟩
 have H:=H.readersL H45'
 obtain⟨_,hP45⟩:=hO45
 obtain⟨_,_,rfl⟩:=OwnS.shape hP45
 have hO45:=OIs.mk hP45
 refine⟨_,Z,?_⟩
 refine q4 H hd3 (RD_t 12 Z kR Z (fun _ hK=>v_build bf32 Z Z) (r1 14 Z (xst 2 H Z8 ?_)));intro _ H
 refine R_nil (N_DKlast kR kR (N_K (W_seq (q2 (pe 2 Z (fA 4 Z (lB 4 H Z3 (lN Z (mV Z (q3 (W_block ?_)))))))))))
 have H:=H.addNil 91 2
 have H:=H.addF
 obtain⟨ln48,hln48,H⟩:=H.nameAt (k:=4) (off:=2) rfl rfl
 obtain⟨ln49,hln49,H⟩:=H.name (k:=5) rfl
 obtain⟨ln50,hln50,H⟩:=H.name (k:=6) rfl
 refine W_lp (hf:=(Sub.cons (t:=2) Z (Sub.cons (t:=3) Z (Sub.cons (t:=29) Z (Sub.cons (t:=30) Z Sub.nil))))) (J:=fun M w m=>∃(v:Value) (n:Nat) (cs:List Value) (xs:List (BSnap)) (F:Fr) (k:Nat) (G:PH),M=[(31,.int .i64 (k:Int))]∧PLe G0 G∧Hp w0 G0 (fps [blk db (cl [.int .i32 0,.int .u32 0,.map (some mb),.pointer (some ⟨T.b,0,none⟩),.slice adv sn.length cdv] 135),blk mb (.map es ck),frag FT,acc 164 2 (.slice adv sn.length cdv) sn.length c,frag FSq]) w G [frag F,acc 91 2 v n cs,frag F45,frag F44,blk b43 (cl (setN ln48 2 v) 32),blk b1 (cl ln49 32),blk db (cl ln50 135),blk mb (.map es ck),frag FT,acc 164 2 (.slice adv sn.length cdv) sn.length c,frag FSq]∧(ChkF snapO 2 cs xs F∧n=xs.length∧k≤sn.length∧xs=(sn.take k).map (fun x=>(⟨x.1,x.2.flat []⟩:BSnap)))∧m=(sn.length-k)) (h0:=⟨_,_,_,[],[],0,_,Z,PLe.refl _,H,?inv,Z⟩) (round:=?round)
 case inv=>exact⟨ChkF.nil,by first|rfl|simp|(simp;omega)|omega,(by simp)⟩
 case round =>
  rintro _ _ _ ⟨v,n,cs,xs,F,k,G51,rfl,hle51,H,hinv51,rfl⟩
  subst hln48
  subst hln49
  subst hln50
  have hchk:=hchk.up hle51
  have hNs:=hNs.up hle51
  obtain⟨hchk51_0,_,hinv51⟩:=hinv51
  obtain⟨_,_,rfl⟩:=H.accShape (k:=1) rfl
  obtain⟨hk,hxs⟩:=hinv51;have hxl6:xs.length≤6:=by (rw[hxs];simp;omega)
  refine q2 (pe 1 Z (q3 (W_seq ?_)))
  refine W_cond Z ?_ ?_
  ·intro hc52
   try simp only[nrm]at hc52
   refine W_skip (N_K (W_seq (W_block (q2 (o_index_A 9 H k Z hchk underlying133 sizeOf164 Z Z Z Z aN aN ?_)))));intro _ z53 _ hba53 hz53 hE53 hg53;cases hba53
   obtain⟨rfl,hi53⟩:=hE53;have hy_hi53:_≤16777216:=hi53
   refine o_loadagg_A 9 H isAgg164 sizeOf164 Z Z Z hg53 Z (xal H Z ?_);intro _ _ _ H
   refine xst 0 H Z8 ?_;intro _ H
   refine q3 (W_drawK [0,5,6,7] 12 H kR Z ?_);intro _ H;have hd56:=PLe.refl G51
   refine dF 0 2 Z2 (dB 1 1 Z4 (dF 2 0 Z2 (dB 3 0 Z4 (dF 4 1 Z2 (dB 5 0 Z4 (r1 6 Z ?_))))))
   refine xc Z2 (i_tlist_c _ _ (H.lendSubL [11]) _ (H.lendNs (k:=11) (ks:=[11]) Z Z hNs z53.2 (List.mem_map_of_mem (List.mem_of_getElem? hz53))) (sn_ok hSn _ (List.mem_map_of_mem (List.mem_of_getElem? hz53))).1 (by have:=(sn_ok hSn _ (List.mem_map_of_mem (List.mem_of_getElem? hz53))).2;omega)) ?_
   rintro _ _ ⟨_,_,rfl,H57',⟨F57,rfl,hO57⟩⟩
   have H:=H.readersL H57'
   obtain⟨_,hP57⟩:=hO57
   obtain⟨_,_,rfl⟩:=OwnS.shape hP57
   have hO57:=OIs.mk hP57
   refine⟨_,Z,?_⟩
   refine q4 H hd56 (RD_t 7 Z kR Z (fun _ hK=>v_build bf91 Z Z) (r1 8 Z (xbs H Z7 ?_)));intro _ _ _ H
   refine q4 H hd56 (r1 9 Z (o_append1 3 H (sz:=2) (bytes:=40) underlying30 typeInfo91 ⟨_,Z,Z⟩ Z Z Z Z Z Z Z Z Z Z oM Z ?_));intro _ _ H
   have hchk59:=hchk51_0.snoc (show snapO F57 ⟨z53.1,z53.2.flat []⟩ _ from⟨_,_,_,rfl,hi53,hO57⟩) rfl
   have H:=H.tF 2
   have H:=H.mergeF
   obtain⟨_,_,rfl⟩:=H.accShape (k:=2) rfl
   refine q4 H hd56 (dF 10 2 Z2 (r1 11 Z (xst 5 H Z8 ?_)));intro _ H
   refine R_nil (N_DKlast kR kR (N_B (N_K (W_region (aD Z2 (mV Z (R_nil ?_)))))))
   have H:=H.sel [0,2,3,4,5,6,7,8,9,10,11] rfl
   refine N_lp (hJ:=⟨_,_,_,(xs++[⟨z53.1,z53.2.flat []⟩]),(F++F57),k+1,_,Z,hle51,H,?inv,Z⟩) (hm:=?hm)
   case hm=>omega
   case inv=>exact⟨hchk59,aN,(by exact⟨by omega,by (rw[Sp.take_succ' hz53,List.map_append,←hxs];rfl)⟩)⟩
  intro hc52'
  try simp only[nrm]at hc52'
  refine W_exit (N_K_exit (N_LP_exit (N_B_same (N_K (q2 (lA 4 3 H Z4 (xst 5 H Z8 ?_)))))));intro _ H
  refine q3 (W_ret (ret_unlock 6 H muLib Z call87 Z Z (rs:=[.cell 2 32]) results85 ?_));intro _ H
  refine⟨[_],⟨⟨_,Z,load_blk 5 H isAgg32 sizeOf32 Z Z Z⟩,trivial⟩,?_⟩
  have H:=H.tF 1
  obtain⟨_,H,hOw9⟩:=H.ownF hchk51_0 aN aN
  have H:=H.sel [2,1,0] rfl
  have hxs2:xs=d.snaps:=by (rw[hxs,List.take_of_length_le oM];exact sn_list hSn)
  exact H.retM ⟨_,_,_,_,_,_,rfl,rfl,hO44,(by (rw[←hT.flat]);exact hO45),(by have h9:=(show OSn _ _ _ from⟨_,hOw9⟩);(rw[hxs2]at h9);exact h9)⟩
theorem l_HasPrefix0_c (w0:World)(s:Bs)(hs:s.length≤16777216)(p:Bs)(hp:p.length≤16777216) :
  Calls Tryz.prog 155 #[str s,str p] w0 (Rets w0 (.bool (p.isPrefixOf s))):=by
 have H:=Hp.init0 w0
 refine calls_of_W (l:=[str s,str p]) func155 Z ntmps155 Z (q2 (aG Z (q1 (mV Z (lS Z (mV Z (lS Z (pe 2 Z ?_))))))))
 refine R_case (t:=10) Z ?_ ?_
 ·intro hc1
  try simp only[nrm]at hc1
  refine pe 2 Z (gR Z (lS Z (gR Z (o_slice_str_to underlying9 Z Z Z oM oM (pe 1 Z (gR Z (o_seql Z Z Z (pe 2 Z (q3 (W_ret (rt1 results155 Z ?_)))))))))))
  exact H.rets (congrArg Value.bool (by rw[Sp.pre_eq,Bool.eq_iff_iff];simp;intros;omega))
 intro hc1'
 try simp only[nrm]at hc1'
 refine pe 8 Z (q3 (W_ret (rt1 results155 Z ?_)))
 exact H.rets (congrArg Value.bool (by rw[Sp.pre_eq,Bool.eq_iff_iff];simp;intros;omega))
theorem l_HasPrefix_c (w0:World)(s:Bs)(hs:s.length≤16777216)(p:Bs)(hp:p.length≤16777216) :
  Calls Tryz.prog 114 #[str s,str p] w0 (Rets w0 (.bool (p.isPrefixOf s))):=by
 have H:=Hp.init0 w0
 refine calls_of_W (l:=[str s,str p]) func114 Z ntmps114 Z (q2 (aG Z (q1 (pe 2 Z (xr H Z2 (l_HasPrefix0_c _ _ hs _ hp) ?_)))));intro _ H
 refine aG Z (q3 (W_ret (rt1 results114 Z ?_)))
 exact H.rets Z
theorem i_within_c (w0:World)(G0:PH)(hG:PSub G0 w0)(p:Bs)(hp:p.length≤16777216)(dir:Bs)(hdir:dir.length≤16777216) :
  Calls Tryz.prog 60 #[str p,str dir] w0 (Rets w0 (.bool (Sp.PathWithin p dir))):=by
 have H:=Hp.init hG
 refine calls_of_W (l:=[str p,str dir]) func60 Z ntmps60 Z (q2 (aG Z (q3 (W_seq (q2 (mV Z (xr H Z2 (i_valid_c _ _ H.sub _ hp) ?_)))))));intro _ H
 refine pe 1 Z (q3 ?_)
 refine W_cond Z ?_ ?_
 ·intro hc2
  try simp only[nrm]at hc2
  refine q2 (aG Z (q3 (W_ret (N_K_ret (rt1 results60 Z ?_)))))
  exact H.rets (congrArg Value.bool (by simp_all [Sp.PathWithin,Sp.l1Within]))
 intro hc2'
 try simp only[nrm]at hc2'
 refine W_skip (N_K (W_seq (q2 (mV Z (o_seql Z Z Z (mV Z ?_))))))
 refine R_case (t:=10) Z ?_ ?_
 ·intro hc3
  try simp only[nrm]at hc3
  refine pe 4 Z (q3 (W_true Z (q2 (aG Z (q3 (W_ret (N_K_ret (rt1 results60 Z ?_))))))))
  exact H.rets (congrArg Value.bool (by simp_all [Sp.PathWithin,Sp.l1Within]))
 intro hc3'
 try simp only[nrm]at hc3'
 refine pe 2 Z (gR Z (o_seql Z Z Z (pe 1 Z (q3 ?_))))
 refine W_cond Z ?_ ?_
 ·intro hc4
  try simp only[nrm]at hc4
  refine q2 (aG Z (q3 (W_ret (N_K_ret (rt1 results60 Z ?_)))))
  exact H.rets (congrArg Value.bool (by simp_all [Sp.PathWithin,Sp.l1Within]))
 intro hc4'
 try simp only[nrm]at hc4'
 refine W_skip (N_K (q2 (mV Z (xr H Z2 (i_valid_c _ _ H.sub _ hdir) ?_))));intro _ H
 refine mV Z ?_
 refine R_case (t:=17) Z ?_ ?_
 ·intro hc6
  try simp only[nrm]at hc6
  have hdl:=Sp.path_len hc6
  have hdl2:(dir++[47]).length≤16777216:=by (rw[List.length_append];simp only[List.length_cons,List.length_nil];omega)
  refine pe 2 Z (gR Z ?_)
  refine o_sadd Z Z Z (by simp only[List.length_cons,List.length_nil];omega) ?_
  refine gR Z ?_
  refine xr H Z2 (l_HasPrefix_c _ _ hp _ (by (first|assumption|(refine Sp.l5Parent_lim ?_;assumption)|(simp;done)|(simp;omega)|omega))) ?_;intro _ H
  refine pe 2 Z (q3 (W_ret (rt1 results60 Z ?_)))
  exact H.rets (congrArg Value.bool (by simp_all [Sp.PathWithin,Sp.l1Within]))
 intro hc6'
 try simp only[nrm]at hc6'
 refine pe 6 Z (q3 (W_ret (rt1 results60 Z ?_)))
 exact H.rets (congrArg Value.bool (by simp_all [Sp.PathWithin,Sp.l1Within]))
theorem i_PathWithin_c (w0:World)(G0:PH)(hG:PSub G0 w0)(p:Bs)(hp:p.length≤16777216)(dir:Bs)(hdir:dir.length≤16777216) :
  Calls Tryz.prog 20 #[str p,str dir] w0 (Rets w0 (.bool (Sp.PathWithin p dir))):=by
 have H:=Hp.init hG
 refine calls_of_W (l:=[str p,str dir]) func20 Z ntmps20 Z (q2 (aG Z (q1 (pe 2 Z (xr H Z2 (i_within_c _ _ H.sub _ hp _ hdir) ?_)))));intro _ H
 refine aG Z (q3 (W_ret (rt1 results20 Z ?_)))
 exact H.rets Z
theorem i_move_c (w0:World)(G0:PH)(hG:PSub G0 w0)(p:Bs)(hp:p.length≤16777216)(f:Bs)(hf:f.length≤16777216)(t:Bs)(ht:t.length≤16777216) :
  Calls Tryz.prog 61 #[str p,str f,str t] w0 (Rets w0 (.tuple #[str ((Sp.PathMove p f t).getD []),.bool (Sp.PathMove p f t).isSome])):=by
 have H:=Hp.init hG
 refine calls_of_W (l:=[str p,str f,str t]) func61 Z ntmps61 Z (q2 (pe 2 Z (q3 (W_seq (q2 (mV Z (xr H Z2 (i_valid_c _ _ H.sub _ hf) ?_)))))));intro _ H
 refine pe 2 Z ?_
 refine R_case (t:=12) Z ?_ ?_
 ·intro hc2
  try simp only[nrm]at hc2
  refine pe 10 Z (q3 (W_true Z (q2 (pe 2 Z (q3 (W_ret (N_K_ret (rt2 results61 Z Z ?_))))))))
  have hp:Sp.PathMove p f t=none:=Sp.move_no (by first|(simp_all;done)|(have h9:Sp.PathWithin p f=false:=by simp_all);(have h8:Sp.PathValid f=true:=by simp_all);(rw[Sp.pwithin h8,Bool.and_eq_false_iff]at h9;rcases h9 with h9|h9<;>simp[h9]))
  exact H.rets (by rw[hp];rfl)
 intro hc2'
 try simp only[nrm]at hc2'
 refine pe 1 Z (gR Z (xr H Z2 (i_valid_c _ _ H.sub _ ht) ?_));intro _ H
 refine pe 3 Z ?_
 refine R_case (t:=17) Z ?_ ?_
 ·intro hc4
  try simp only[nrm]at hc4
  refine pe 5 Z (q3 (W_true Z (q2 (pe 2 Z (q3 (W_ret (N_K_ret (rt2 results61 Z Z ?_))))))))
  have hp:Sp.PathMove p f t=none:=Sp.move_no (by first|(simp_all;done)|(have h9:Sp.PathWithin p f=false:=by simp_all);(have h8:Sp.PathValid f=true:=by simp_all);(rw[Sp.pwithin h8,Bool.and_eq_false_iff]at h9;rcases h9 with h9|h9<;>simp[h9]))
  exact H.rets (by rw[hp];rfl)
 intro hc4'
 try simp only[nrm]at hc4'
 refine pe 2 Z (gR Z (xr H Z2 (i_within_c _ _ H.sub _ hp _ hf) ?_));intro _ H
 refine pe 2 Z (q3 ?_)
 refine W_cond Z ?_ ?_
 ·intro hc6
  try simp only[nrm]at hc6
  refine q2 (pe 2 Z (q3 (W_ret (N_K_ret (rt2 results61 Z Z ?_)))))
  have hp:Sp.PathMove p f t=none:=Sp.move_no (by first|(simp_all;done)|(have h9:Sp.PathWithin p f=false:=by simp_all);(have h8:Sp.PathValid f=true:=by simp_all);(rw[Sp.pwithin h8,Bool.and_eq_false_iff]at h9;rcases h9 with h9|h9<;>simp[h9]))
  exact H.rets (by rw[hp];rfl)
 intro hc6'
 try simp only[nrm]at hc6'
 refine W_skip (N_K (q2 ?_))
 have hwi:Sp.PathValid p=true∧Sp.l1Within p f=true:=by (have h9:Sp.PathWithin p f=true:=by simp_all);(have h8:Sp.PathValid f=true:=by simp_all);(rw[Sp.pwithin h8,Bool.and_eq_true]at h9;exact h9)
 obtain⟨_,_⟩:=hwi
 have hwl:=Sp.within_len (p:=p) (f:=f) (by simp_all)
 have hpt:=Sp.path_len (p:=t) (by simp_all)
 have hpp:=Sp.path_len (p:=p) (by simp_all)
 refine pe 3 Z (lS Z (o_slice_str_from underlying92 Z Z Z oM oM ?_))
 refine o_sadd Z Z Z (by first|(simp only[List.length_drop];omega)|(simp;omega)) ?_
 refine aG Z (q3 (W_seq (q2 (mV Z ?_))))
 refine xr H Z2 (i_valid_c _ _ H.sub _ (by (first|assumption|(refine Sp.l5Parent_lim ?_;assumption)|(simp;done)|(simp;omega)|omega))) ?_;intro _ H
 refine pe 1 Z (q3 ?_)
 refine W_cond Z ?_ ?_
 ·intro hc9
  try simp only[nrm]at hc9
  refine q2 (pe 2 Z (q3 (W_ret (N_K_ret (rt2 results61 Z Z ?_)))))
  have hp:Sp.PathMove p f t=none:=Sp.move_no (by first|(simp_all;done)|(have h9:Sp.PathWithin p f=false:=by simp_all);(have h8:Sp.PathValid f=true:=by simp_all);(rw[Sp.pwithin h8,Bool.and_eq_false_iff]at h9;rcases h9 with h9|h9<;>simp[h9]))
  exact H.rets (by rw[hp];rfl)
 intro hc9'
 try simp only[nrm]at hc9'
 refine W_skip (N_K (q2 (pe 3 Z (q3 (W_ret (rt2 results61 Z Z ?_))))))
 have hp:Sp.PathMove p f t=some _:=Sp.move_yes (by simp_all) (by simp_all) (by simp_all) (by simp_all) (by simp_all)
 exact H.rets (by rw[hp];rfl)
theorem i_PathMove_c (w0:World)(G0:PH)(hG:PSub G0 w0)(p:Bs)(hp:p.length≤16777216)(f:Bs)(hf:f.length≤16777216)(t:Bs)(ht:t.length≤16777216) :
  Calls Tryz.prog 21 #[str p,str f,str t] w0 (Rets w0 (.tuple #[str ((Sp.PathMove p f t).getD []),.bool (Sp.PathMove p f t).isSome])):=by
 have H:=Hp.init hG
 refine calls_of_W (l:=[str p,str f,str t]) func21 Z ntmps21 Z (q2 (pe 2 Z (q1 (pe 3 Z (xr H Z2 (i_move_c _ _ H.sub _ hp _ hf _ ht) ?_)))));intro _ H
 refine pe 5 Z (q1 (pe 4 Z (q3 (W_ret (rt2 results21 Z Z ?_)))))
 exact H.rets Z
theorem i_turner_c (w0:World)(G0:PH)(hG:PSub G0 w0)(f:Bs)(hf:f.length≤16777216)(t:Bs)(ht:t.length≤16777216) :
  Calls Tryz.prog 104 #[str f,str t] w0 (RetP w0 G0 (fun G v=>∃cp cq,v= .func (.func 149) #[] #[.pointer (some ⟨cp,0,none⟩),.pointer (some ⟨cq,0,none⟩)]∧PRow G cp 0 [str f]∧PRow G cq 0 [str t])):=by
 have H:=Hp.init hG
 refine calls_of_W (l:=[str f,str t]) func104 Z ntmps104 Z (q2 (o_box H Z Z Z ?_));intro _ _ _ H
 refine o_box H Z Z Z ?_;intro _ _ _ H
 refine aG Z (q1 (o_makefn2 Z Z Z (aG Z (q3 (W_ret (rt1 results104 Z ?_))))))
 obtain⟨_,H,_,hpa⟩:=H.keepBlk (k:=1) rfl (by simp)
 obtain⟨_,H,hgb,hpb⟩:=H.keepBlk (k:=0) rfl (by simp)
 exact H.retP ⟨_,_,Z,hpa.mono hgb,hpb⟩
theorem i_turner1_c (w0:World)(G0:PH)(hG:PSub G0 w0)(p:Bs)(hp:p.length≤16777216)(cp:Nat)(f:Bs)(hf:f.length≤16777216)(hcp:PRow G0 cp 0 [str f])(cq:Nat)(t:Bs)(ht:t.length≤16777216)(hcq:PRow G0 cq 0 [str t]) :
  Calls Tryz.prog 149 #[str p,.pointer (some ⟨cp,0,none⟩),.pointer (some ⟨cq,0,none⟩)] w0 (Rets w0 (.tuple #[str ((Sp.PathMove p f t).getD []),.bool (Sp.PathMove p f t).isSome])):=by
 have H:=Hp.init hG
 refine calls_of_W (l:=[str p,.pointer (some ⟨cp,0,none⟩),.pointer (some ⟨cq,0,none⟩)]) func149 Z ntmps149 Z (q2 (pe 2 Z (q1 (mV Z (lP H hcp 0 Z2 (lP H hcq 0 Z2 (xr H Z2 (i_PathMove_c _ _ H.sub _ hp _ hf _ ht) ?_)))))));intro _ H
 refine pe 4 Z (q3 (W_ret (rt2 results149 Z Z ?_)))
 exact H.rets Z
theorem i_turned_c (w0:World)(G0:PH)(hG:PSub G0 w0)(T:Nd)(hndT:RdN G0 T)(f:Bs)(hf:f.length≤16777216)(t:Bs)(ht:t.length≤16777216)(list:List BItem)(hT:Nd.TOK T list)(hv:Sp.TreeValid list=true) :
  Calls Tryz.prog 54 #[.pointer (some ⟨T.b,0,none⟩),str f,str t] w0 (RetO w0 G0 (fun G v r=>∃u,v= .tuple #[u,.bool (Sp.turned list f t).isSome]∧AccOf itemE 3 51 ((Sp.turned list f t).getD []) G u r)):=by
 obtain⟨_,_,_,_,_,_,_,hprT,hriT,hrkT⟩:=hndT.open
 have hn_hriT:=hriT.len;have hx_hriT:_≤1099511627776:=hriT.lim
 have hn_hrkT:=hrkT.len;have hx_hrkT:_≤1099511627776:=hrkT.lim
 have H:=Hp.init hG
 refine calls_of_W (l:=[.pointer (some ⟨T.b,0,none⟩),str f,str t]) func54 Z ntmps54 Z (q2 (pe 2 Z (q3 (W_seq (q2 (mV Z (xr H Z2 (i_PathValid_c _ _ H.sub _ hf) ?_)))))));intro _ H
 refine pe 2 Z ?_
 refine R_case (t:=17) Z ?_ ?_
 ·intro hc2
  try simp only[nrm]at hc2
  refine pe 10 Z (q3 (W_true Z (q2 (pe 2 Z (q3 (W_ret (N_K_ret (rt2 results54 Z Z ?_))))))))
  have hN:Sp.turned list f t=none:=Sp.turned_no (by (rw[Sp.ok_eq hv];first|(simp_all;done)|(rw[Sp.has_no (p:=f) hT (by assumption)];simp;done)|(rw[Sp.has_yes (p:=t) hT (by assumption)];simp;done)|(rw[←Sp.pwithin2 (p:=t) (f:=f) (by assumption) (by assumption)];simp_all;done)))
  have H:=H.addNil 51 3
  exact H.retO (k:=0) rfl (by rw[hN];exact⟨_,rfl,AccOf.mk rfl Chk.nil⟩) (acc_nd _ _ _ _ _)
 intro hc2'
 try simp only[nrm]at hc2'
 refine pe 1 Z (gR Z (xr H Z2 (i_PathValid_c _ _ H.sub _ ht) ?_));intro _ H
 refine pe 3 Z ?_
 refine R_case (t:=22) Z ?_ ?_
 ·intro hc4
  try simp only[nrm]at hc4
  refine pe 5 Z (q3 (W_true Z (q2 (pe 2 Z (q3 (W_ret (N_K_ret (rt2 results54 Z Z ?_))))))))
  have hN:Sp.turned list f t=none:=Sp.turned_no (by (rw[Sp.ok_eq hv];first|(simp_all;done)|(rw[Sp.has_no (p:=f) hT (by assumption)];simp;done)|(rw[Sp.has_yes (p:=t) hT (by assumption)];simp;done)|(rw[←Sp.pwithin2 (p:=t) (f:=f) (by assumption) (by assumption)];simp_all;done)))
  have H:=H.addNil 51 3
  exact H.retO (k:=0) rfl (by rw[hN];exact⟨_,rfl,AccOf.mk rfl Chk.nil⟩) (acc_nd _ _ _ _ _)
 intro hc4'
 try simp only[nrm]at hc4'
 refine pe 2 Z (gR Z (xc Z2 (i_find_n_c _ _ H.sub _ hndT _ hf hT.wf) ?_))
 rintro _ _ ⟨_,rfl,ew5,⟨hfi5,rfl⟩|⟨_,hfi5,rfl⟩⟩
 ·skip
  have H:=H.step ew5;refine⟨_,rfl,?_⟩
  refine gR Z (o_eqnil_ptr underlying80 Z Z Z (pe 1 Z (q3 (W_true Z (q2 (pe 2 Z (q3 (W_ret (N_K_ret (rt2 results54 Z Z ?_))))))))))
  have hN:Sp.turned list f t=none:=Sp.turned_no (by (rw[Sp.ok_eq hv];first|(simp_all;done)|(rw[Sp.has_no (p:=f) hT (by assumption)];simp;done)|(rw[Sp.has_yes (p:=t) hT (by assumption)];simp;done)|(rw[←Sp.pwithin2 (p:=t) (f:=f) (by assumption) (by assumption)];simp_all;done)))
  have H:=H.addNil 51 3
  exact H.retO (k:=0) rfl (by rw[hN];exact⟨_,rfl,AccOf.mk rfl Chk.nil⟩) (acc_nd _ _ _ _ _)
 skip
 have H:=H.step ew5;refine⟨_,rfl,?_⟩
 have hnd5:=hndT.at (Nd.find_at_ hfi5);obtain⟨_,_,_,_,_,_,_,hpr5,hri5,hrk5⟩:=hnd5.open
 have hn_hri5:=hri5.len;have hx_hri5:_≤1099511627776:=hri5.lim
 have hn_hrk5:=hrk5.len;have hx_hrk5:_≤1099511627776:=hrk5.lim
 refine gR Z (o_eqnil_ptr underlying80 Z Z Z (pe 1 Z (q3 (W_false Z (W_skip (N_K (W_seq (q2 (pe 2 Z (xr H Z2 (i_PathWithin_c _ _ H.sub _ ht _ hf) ?_))))))))));intro _ H
 refine mV Z ?_
 refine R_case (t:=31) Z ?_ ?_
 ·intro hc7
  try simp only[nrm]at hc7
  refine pe 5 Z (q3 (W_true Z (q2 (pe 2 Z (q3 (W_ret (N_K_ret (rt2 results54 Z Z ?_))))))))
  have hN:Sp.turned list f t=none:=Sp.turned_no (by (rw[Sp.ok_eq hv];first|(simp_all;done)|(rw[Sp.has_no (p:=f) hT (by assumption)];simp;done)|(rw[Sp.has_yes (p:=t) hT (by assumption)];simp;done)|(rw[←Sp.pwithin2 (p:=t) (f:=f) (by assumption) (by assumption)];simp_all;done)))
  have H:=H.addNil 51 3
  exact H.retO (k:=0) rfl (by rw[hN];exact⟨_,rfl,AccOf.mk rfl Chk.nil⟩) (acc_nd _ _ _ _ _)
 intro hc7'
 try simp only[nrm]at hc7'
 refine pe 2 Z (gR Z (xc Z2 (i_find_n_c _ _ H.sub _ hndT _ ht hT.wf) ?_))
 rintro _ _ ⟨_,rfl,ew8,⟨hfi8,rfl⟩|⟨_,hfi8,rfl⟩⟩
 ·skip
  have H:=H.step ew8;refine⟨_,rfl,?_⟩
  refine gR Z (o_nenil_ptr underlying80 Z Z Z (pe 1 Z (q3 (W_false Z (W_skip (N_K (q2 ?_)))))))
  have hpf:Sp.PathValid f=true:=by simp_all
  have hpt:Sp.PathValid t=true:=by simp_all
  have hnw:Sp.l1Within t f=false:=by (rw[←Sp.pwithin2 hpt hpf];simp_all)
  have hok:Sp.l23Ok list f t=true:=by (rw[Sp.ok_eq hv,Sp.has_yes (p:=f) hT (by assumption),Sp.has_no (p:=t) hT (by assumption),hpf,hpt,hnw];rfl)
  have hTf:=hT.flat
  have htl:=Sp.tree_len hv
  have hTl:(T.flat []).length≤12:=by (rw[hTf];exact htl)
  refine pe 2 Z (xc Z2 (i_turner_c _ _ H.sub _ hf _ ht) ?_)
  rintro _ _ ⟨_,_,g9,rfl,⟨_,_,rfl,hcp9,hcq9⟩⟩
  have H:=H.grow g9
  have hndT:=hndT.up g9.le
  refine⟨_,Z,?_⟩
  refine aG Z (q1 (aG Z (q3 (W_seq (q2 (mV Z ?_))))))
  refine xc Z2 (i_tlist_c _ _ H.sub _ hndT hT.wf (by have:=hT.cnt;omega)) ?_
  rintro _ _ ⟨_,_,rfl,H10',⟨_,rfl,hO10⟩⟩
  have H:=H.readers (fp:=[]) (by simp) (PLe.refl _) H10'
  obtain⟨_,hP10⟩:=hO10
  obtain⟨_,_,rfl⟩:=OwnS.shape hP10
  have hO10:=OIs.mk hP10
  refine⟨_,Z,?_⟩
  refine lN Z (mV Z (q3 (W_block ?_)))
  have hnd11:=dm_nodup H (k:=0) rfl;obtain⟨G11,H,hsg11,hsf11⟩:=H.keepF (k:=0) rfl (by simp);have hsr11:=(show OIs _ _ _ from hO10).rd hsf11 hnd11
  have hcp9:=hcp9.up hsg11
  have hcq9:=hcq9.up hsg11
  have H:=H.addNil 51 3
  refine W_lp (hf:=(Sub.cons (t:=1) Z (Sub.cons (t:=8) Z (Sub.cons (t:=41) Z (Sub.cons (t:=42) Z Sub.nil))))) (J:=fun M w m=>∃(v:Value) (n:Nat) (cs:List Value) (xs:List (BItem)) (k:Nat) (G:PH),M=[(43,.int .i64 (k:Int)),(9,v)]∧PLe G11 G∧Hp w0 G0 [] w G [acc 51 3 v n cs]∧(Chk itemE 3 G cs xs∧n=xs.length∧k≤(T.flat []).length∧xs=Sp.copF f t ((T.flat []).take k)∧Sp.copA f t ((T.flat []).take k))∧m=((T.flat []).length-k)) (h0:=⟨_,_,_,[],0,_,Z,PLe.refl _,H,?inv,Z⟩) (round:=?round)
  case inv=>exact⟨(Chk.nil (E:=itemE) (sz:=3) (G:=G11)),by first|rfl|simp|(simp;omega)|omega,(by exact⟨by omega,rfl,fun x hx=>by simp at hx⟩)⟩
  case round =>
   rintro _ _ _ ⟨v,n,cs,xs,k,_,rfl,hle13,H,hinv13,rfl⟩
   have hcp9:=hcp9.up hle13
   have hcq9:=hcq9.up hle13
   have hsr11:=hsr11.up hle13
   obtain⟨hchk13_0,_,hinv13⟩:=hinv13
   obtain⟨_,_,rfl⟩:=H.accShape (k:=0) rfl
   obtain⟨_,hxs,hca⟩:=hinv13;have hxl:xs.length≤k:=by (rw[hxs];have h9:=Sp.copF_len f t ((T.flat []).take k);(rw[List.length_take]at h9);omega)
   refine q2 (pe 1 Z (q3 (W_seq ?_)))
   refine W_cond Z ?_ ?_
   ·intro hc14
    try simp only[nrm]at hc14
    refine W_skip (N_K (W_seq (W_block (q2 (iP k hsr11 Z3 Z ?_)))));intro _ _ z15 _ hz15 hE15 hrow15
    obtain⟨_,_,_,rfl,hi15,hr15,_,_⟩:=ox hE15
    refine o_loadagg_P H isAgg51 sizeOf51 Z Z hrow15 Z (xal H Z ?_);intro _ _ _ H
    refine xst 0 H Z8 ?_;intro _ H
    refine q3 (W_seq (q2 (fA 0 Z (lB 0 H Z3 (mV Z (xr H Z2 (i_PathWithin_c _ _ H.sub _ hi15 _ hf) ?_))))));intro _ H
    refine pe 1 Z (q3 ?_)
    refine W_cond Z ?_ ?_
    ·intro hc19
     try simp only[nrm]at hc19
     refine W_exit (N_K_exit (N_B_same (N_K (W_region (aD Z2 (mV Z (R_nil ?_)))))))
     have hwo:Sp.l1Within z15.path f=false:=(by (rw[←Sp.pwithin2 (Sp.item_pv hv (hTf▸hz15)) hpf];simpa using hc19))
     have H:=H.dl 0
     refine N_lp (hJ:=⟨_,_,_,xs,k+1,_,Z,hle13,H,?inv,Z⟩) (hm:=?hm)
     case hm=>omega
     case inv=>exact⟨hchk13_0,aN,(by exact⟨by omega,by (rw[hxs,Sp.copF_out hz15 hwo]),Sp.copA_in hz15 hca (fun h9=>(by rw[hwo]at h9;cases h9))⟩)⟩
    intro hc19'
    try simp only[nrm]at hc19'
    refine W_skip (N_K (q2 (mV Z (fA 0 Z (lB 0 H Z3 (o_callc2 call149 Z Z Z (i_turner1_c _ _ H.sub _ hi15 _ _ hf hcp9 _ _ ht hcq9) ?_))))))
    rintro _ _ ⟨rfl,ew21⟩;have H:=H.step ew21;refine⟨_,rfl,?_⟩
    refine pe 5 Z (q3 (W_seq (q2 (pe 2 Z (q3 ?_)))))
    refine W_cond Z ?_ ?_
    ·intro hc22
     try simp only[nrm]at hc22
     refine q2 (pe 2 Z (q3 (W_ret (N_K_ret (N_B_ret (N_K_ret (N_LP_ret (N_B_ret (N_K_ret (rt2 results54 Z Z ?_))))))))))
     have H:=H.dl 0
     have H:=H.dl 0
     have hN:Sp.turned list f t=none:=(Sp.turned_is hok).trans (Sp.cop_no (hTf▸hz15) (by (rw[←Sp.pwithin2 (Sp.item_pv hv (hTf▸hz15)) hpf];simp_all)) (by simpa using hc22))
     have H:=H.addNil 51 3
     exact H.retO (k:=0) rfl (by rw[hN];exact⟨_,rfl,AccOf.mk rfl Chk.nil⟩) (acc_nd _ _ _ _ _)
    intro hc22'
    try simp only[nrm]at hc22'
    refine W_skip (N_K (q2 (mV Z (fA 0 Z (xst 0 H Z8 ?_)))));intro _ H
    refine q3 (W_region (mV Z (lA 0 3 H Z4 (xbs H Z7 ?_))));intro _ _ _ H
    refine o_append1 1 H (sz:=3) (bytes:=48) underlying29 typeInfo51 ⟨_,Z,Z⟩ Z Z Z Z Z Z Z Z Z Z oM Z ?_;intro _ _ H
    have hchk25:=hchk13_0.snoc (show itemE _ (Sp.mvI f t z15) _ from⟨_,_,_,rfl,(Sp.move_len _ _ _),hr15⟩) rfl
    obtain⟨_,_,rfl⟩:=H.accShape (k:=1) rfl
    refine aG Z (R_nil (N_B (N_K (W_region (aD Z2 (mV Z (R_nil ?_)))))))
    have hwo:Sp.l1Within z15.path f=true:=(by (rw[←Sp.pwithin2 (Sp.item_pv hv (hTf▸hz15)) hpf];simpa using hc19'))
    have H:=H.dl 0
    refine N_lp (hJ:=⟨_,_,_,(xs++[(Sp.mvI f t z15)]),k+1,_,Z,hle13,H,?inv,Z⟩) (hm:=?hm)
    case hm=>omega
    case inv=>exact⟨hchk25,aN,(by exact⟨by omega,by (rw[hxs,Sp.copF_in hz15 hwo]),Sp.copA_in hz15 hca (fun _=>by simpa using hc22')⟩)⟩
   intro hc14'
   try simp only[nrm]at hc14'
   refine W_exit (N_K_exit (N_LP_exit (N_B_same (N_K (q2 (pe 3 Z (q3 (W_ret (rt2 results54 Z Z ?_)))))))))
   have hY:Sp.turned list f t=some xs:=by (rw[Sp.turned_is hok,hxs,show k=(T.flat []).length by omega,List.take_length,hTf];exact Sp.cop_yes (k:=list.length) (by (rw[←hTf];(rw[show k=(T.flat []).length by omega]at hca);exact hca)) rfl)
   exact H.retO (k:=0) rfl (by rw[hY];exact⟨_,rfl,AccOf.mk aN hchk13_0⟩) (acc_nd _ _ _ _ _)
 skip
 have H:=H.step ew8;refine⟨_,rfl,?_⟩
 have hnd8:=hndT.at (Nd.find_at_ hfi8);obtain⟨_,_,_,_,_,_,_,_,hri8,hrk8⟩:=hnd8.open
 have hn_hri8:=hri8.len;have hx_hri8:_≤1099511627776:=hri8.lim
 have hn_hrk8:=hrk8.len;have hx_hrk8:_≤1099511627776:=hrk8.lim
 refine gR Z (o_nenil_ptr underlying80 Z Z Z (pe 1 Z (q3 (W_true Z (q2 (pe 2 Z (q3 (W_ret (N_K_ret (rt2 results54 Z Z ?_))))))))))
 have hN:Sp.turned list f t=none:=Sp.turned_no (by (rw[Sp.ok_eq hv];first|(simp_all;done)|(rw[Sp.has_no (p:=f) hT (by assumption)];simp;done)|(rw[Sp.has_yes (p:=t) hT (by assumption)];simp;done)|(rw[←Sp.pwithin2 (p:=t) (f:=f) (by assumption) (by assumption)];simp_all;done)))
 have H:=H.addNil 51 3
 exact H.retO (k:=0) rfl (by rw[hN];exact⟨_,rfl,AccOf.mk rfl Chk.nil⟩) (acc_nd _ _ _ _ _)
end Go.Proofs.Tst
namespace Fw
open Go Go.Shelf Go.RowKit Go.Lib Go.Sort Go.Proofs
abbrev SI:=Bs×Bool×Option Addr×Nat×Nat
def encSI (x:SI):List Value:=[str x.1,.bool x.2.1,.slice x.2.2.1 x.2.2.2.1 x.2.2.2.2]
def cmpS (a b:Bs):Int:=if Op.bytesLess a b then -1 else if Op.bytesLess b a then 1 else 0
theorem ltOf_cmp (x y : SI) : ltOf (fun x y : SI => cmpS x.1 y.1) x y = Op.bytesLess x.1 y.1 := by
 unfold ltOf cmpS
 cases h1:Op.bytesLess x.1 y.1 with
 | true=>simp[h1]
 | false=>cases h2:Op.bytesLess y.1 x.1<;>simp[h1,h2]
theorem swoI : SWO (ltOf fun x y : SI => cmpS x.1 y.1) where
 irrefl x:=by rw[ltOf_cmp];exact Sp.lt_irrefl _
 trans x y z h1 h2:=by rw[ltOf_cmp]at *; exact Sp.lt_trans h1 h2
 ntrans x y z h1 h2:=by
  rw[ltOf_cmp]at *
  cases h:Op.bytesLess x.1 z.1 with
  | false=>rfl
  | true =>
   rcases Sp.lt_total x.1 y.1 with g|g|g
   ·exact absurd (show Op.bytesLess x.1 y.1=true from g) (by simp[h1])
   ·rw[g]at h;rw[h]at h2;cases h2
   ·have g2:Op.bytesLess y.1 z.1=true:=Sp.lt_trans g h
    rw[g2]at h2;cases h2
def flatI (l:List SI):List Value:=(l.map encSI).flatten
theorem flatI_len:∀l:List SI,(flatI l).length=l.length*3
 | []=>rfl
 | x :: r => by
  have:=flatI_len r
  simp only[flatI,List.map_cons,List.flatten_cons,List.length_append,List.length_cons]at this ⊢
  simp only[encSI,List.length_cons,List.length_nil]
  omega
theorem flatI_get : ∀ (l : List SI) (t : Nat), t < l.length * 3 → (flatI l)[t]? = (l[t / 3]?).bind (fun x => (encSI x)[t % 3]?)
 | [],t,h=>by simp at h
 | x :: r, t, h => by
  have hl:(encSI x).length=3:=rfl
  show(encSI x++flatI r)[t]? = _
  by_cases ht:t<3
  ·rw[List.getElem?_append_left (by omega),show t / 3=0 by omega,show t % 3=t by omega]
   rfl
  ·rw[List.getElem?_append_right (by omega),hl,flatI_get r (t-3) (by simp at h;omega),show t / 3=(t-3) / 3+1 by omega,show t % 3=(t-3) % 3 by omega,List.getElem?_cons_succ]
theorem flatK_list (d:Array SI):(flatK encSI 3 d).toList=flatI d.toList:=by
 apply List.ext_getElem?
 intro t
 by_cases h:t<d.size*3
 ·have h1:=get_flatK encSI 3 d t h
  have hd:t / 3<d.size:=by omega
  rw[flatI_get _ _ (by simpa using h)]
  have hf:t<(flatK encSI 3 d).size:=by simpa using h
  have hm:t % 3<(encSI d[t / 3]).length:=by show _<3;omega
  rw[getElem!_pos (flatK encSI 3 d) t hf,getElem!_pos d (t / 3) hd,getElem!_pos (encSI d[t / 3]) (t % 3) hm]at h1
  have e1:(flatK encSI 3 d).toList[t]? = some (flatK encSI 3 d)[t]:=by simp[hf]
  have e2:d.toList[t / 3]? = some d[t / 3]:=by simp[hd]
  rw[e1,e2,Option.bind_some,List.getElem?_eq_getElem hm,h1]
 ·rw[List.getElem?_eq_none (by simp;omega),List.getElem?_eq_none (by rw[flatI_len];simp;omega)]
theorem chk_rows {G:PH}{c:List Value}{xs:List BItem}(h:Chk itemE 3 G c xs):∃zs:List (SI×BItem),zs.map (·.2)=xs∧c=flatI (zs.map (·.1))∧∀z,z ∈ zs→itemE G z.2 (encSI z.1):=by
 obtain⟨css,rfl,hl,hx⟩:=h
 induction xs generalizing css with
 | nil =>
  obtain rfl:css=[]:=List.eq_nil_of_length_eq_zero (by simpa using hl)
  exact⟨[],rfl,rfl,by simp⟩
 | cons x r ih =>
  cases css with
  | nil=>simp at hl
  | cons cs t =>
   obtain⟨zs,h1,h2,h3⟩:=ih t (by simpa using hl) (fun i y hy=>by simpa using hx (i+1) y (by simpa using hy))
   obtain⟨cs',e1,e2,e3⟩:=hx 0 x rfl
   simp only[List.getElem?_cons_zero,Option.some.injEq]at e1
   subst e1
   obtain⟨a,m,k,rfl,g1,g2⟩:=e3
   refine⟨((x.path,x.dir,a,m,k),x)::zs,by simp[h1],?_,fun z hz=>?_⟩
   ·show _=encSI (x.path,x.dir,a,m,k)++flatI (zs.map (·.1))
    rw[←h2];rfl
   ·rcases List.mem_cons.1 hz with rfl|hz
    ·exact⟨a,m,k,rfl,g1,g2⟩
    ·exact h3 z hz
theorem rows_chk {G:PH}:∀{zs:List (SI×BItem)},(∀z,z ∈ zs→itemE G z.2 (encSI z.1))→Chk itemE 3 G (flatI (zs.map (·.1))) (zs.map (·.2))
 | [],_=>Chk.nil
 | z :: r, h => by
  have ih:=rows_chk (zs:=r) (fun q hq=>h q (by simp[hq]))
  obtain⟨css,h1,h2,h3⟩:=ih
  refine⟨encSI z.1::css,by show encSI z.1++flatI (r.map (·.1))=_;rw[h1];rfl,by simp[h2],fun i x hx=>?_⟩
  cases i with
  | zero=>simp at hx;subst hx;exact⟨_,rfl,rfl,h z (by simp)⟩
  | succ i=>simpa using h3 i x (by simpa using hx)
theorem perm_lift {α β:Type}{f:α→β}{l l':List β}(h:l.Perm l'):∀{zs:List α},zs.map f=l→∃zs',zs.Perm zs'∧zs'.map f=l':=by
 induction h with
 | nil=>intro zs h;exact⟨zs,List.Perm.refl _,h⟩
 | cons x _ ih =>
  intro zs h
  cases zs with
  | nil=>simp at h
  | cons z r =>
   simp only[List.map_cons,List.cons.injEq]at h
   obtain⟨r',h1,h2⟩:=ih h.2
   exact⟨z::r',h1.cons z,by simp[h.1,h2]⟩
 | swap x y l =>
  intro zs h
  match zs,h with
  | z1::z2::r,h =>
   simp only[List.map_cons,List.cons.injEq]at h
   exact⟨z2::z1::r,List.Perm.swap _ _ _,by simp[h.1,h.2.1,h.2.2]⟩
 | trans _ _ ih1 ih2 =>
  intro zs h
  obtain⟨z1,p1,e1⟩:=ih1 h
  obtain⟨z2,p2,e2⟩:=ih2 e1
  exact⟨z2,p1.trans p2,e2⟩
theorem itemE_path {G:PH}{y:SI}{x:BItem}(h:itemE G x (encSI y)):y.1=x.path:=by
 obtain⟨a,m,k,e,_⟩:=h
 simp only[encSI,List.cons.injEq]at e
 have:=e.1
 simpa [str] using this
theorem sort_rows {G : PH} {zs : List (SI × BItem)} {d' : Array SI} (hz : ∀ z, z ∈ zs → itemE G z.2 (encSI z.1)) (hp : PermIn 0 (zs.map (·.1)).toArray.size (zs.map (·.1)).toArray d') (hs : SortedIn (ltOf fun x y : SI => cmpS x.1 y.1) 0 (zs.map (·.1)).toArray.size d') :
  ∃xs',Chk itemE 3 G (flatI d'.toList) xs'∧xs'.Perm (zs.map (·.2))∧xs'.Pairwise (fun a b=>Sp.lt b.path a.path=false)∧xs'.length=zs.length:=by
 obtain⟨h1,_,h3⟩:=hp
 rw[Array.extract_size]at h3
 have h3':(d'.extract 0 (zs.map (·.1)).toArray.size)=d':=by rw[←h1];exact Array.extract_size
 rw[h3']at h3
 obtain⟨zs',p,e⟩:=perm_lift (f:=fun z:SI×BItem=>z.1) h3.symm (zs:=zs) (by simp)
 have hz':∀z,z ∈ zs'→itemE G z.2 (encSI z.1):=fun z hq=>hz z (p.mem_iff.2 hq)
 refine⟨zs'.map (·.2),?_,(p.symm.map _),?_,by simp[p.length_eq]⟩
 ·have:=rows_chk hz'
  rw[e]at this
  exact this
 ·rw[List.pairwise_iff_getElem]
  intro i j hi hj hij
  simp only[List.length_map]at hi hj
  have hd:∀k (hk:k<zs'.length),d'[k]! = zs'[k].1:=by
   intro k hk
   have hk':k<d'.size:=by have:=congrArg List.length e;simp at this;omega
   rw[getElem!_pos d' k hk']
   have:d'.toList[k]? = some zs'[k].1:=by rw[←e];simp[hk]
   rw[Array.getElem?_toList,Array.getElem?_eq_getElem hk']at this
   exact Option.some.inj this
  have h5:=hs i j (Nat.zero_le _) hij (by simp[p.length_eq];omega)
  rw[ltOf_cmp,hd i hi,hd j hj]at h5
  rw[List.getElem_map,List.getElem_map,←itemE_path (hz' _ (List.getElem_mem hi)),←itemE_path (hz' _ (List.getElem_mem hj))]
  exact h5
section
variable {w0 w:World} {G0 G:PH} {S:List Nat} {B:List Res} {e:TypeId} {b n cap:Nat} {ys:List SI}
theorem acc_holds (H:Hp w0 G0 S w G (acc e 3 (.slice (some ⟨b,0,none⟩) n cap) n (flatI ys)::B))(hn:ys.length=n):HoldsK encSI 3 w b 0 ys.toArray∧b<w.heap.size:=by
 have h0:=(H.own (acc e 3 (.slice (some ⟨b,0,none⟩) n cap) n (flatI ys)) (by simp)).1
 obtain⟨h1,h2⟩:=h0
 rcases h2 with ⟨h2,_⟩|⟨b',cap',C,h2,h3,_,_,h6,h7⟩
 ·cases h2
 ·simp only[Value.slice.injEq,Option.some.injEq,Addr.mk.injEq]at h2
  obtain⟨⟨rfl,_⟩,_,rfl⟩:=h2
  refine⟨fun j hj=>?_,(Array.getElem?_eq_some_iff.1 h3).1⟩
  have hj':j<ys.length*3:=by simpa using hj
  have e1:(flatK encSI 3 ys.toArray).toList[j]? = some (flatK encSI 3 ys.toArray)[j]! := by rw[getElem!_pos _ j hj];simp[hj]
  rw[flatK_list,←h7,List.getElem?_take,if_pos (by simpa [hn] using hj')]at e1
  have h3':w.heap[b]? = some (.cells C e (0,0)):=h3
  refine⟨?_,?_⟩
  ·simp only[World.cell?,h3',Nat.zero_add,id_eq]
   simpa using e1
  ·simp[World.frozen?,h3']
theorem Hp.sorted (H:Hp w0 G0 S w G (acc e 3 (.slice (some ⟨b,0,none⟩) n cap) n (flatI ys)::B))(hn:ys.length=n){d':Array SI}(hd:d'.size=n){m:Nat}{os:Array Obj}:Hp w0 G0 S (sortWorldK encSI 3 w b 0 m d' os) G (acc e 3 (.slice (some ⟨b,0,none⟩) n cap) n (flatI d'.toList)::B):=by
 have h0:=(H.own (acc e 3 (.slice (some ⟨b,0,none⟩) n cap) n (flatI ys)) (by simp)).1
 obtain⟨h1,h2⟩:=h0
 have key:∀c,c<w.heap.size→(sortWorldK encSI 3 w b 0 m d' os).heap[c]? = (w.heap.modify b (onCells (putCells id 0 (flatK encSI 3 d'))))[c]? := by
  intro c hc
  unfold sortWorldK
  rw[heap_grow_old _ _ (by rw[size_putRowK];exact hc)]
  rfl
 have hsz:w.heap.size≤(sortWorldK encSI 3 w b 0 m d' os).heap.size:=by unfold sortWorldK;rw[size_grow,size_putRowK];exact Nat.le_add_right _ _
 have hfp:(acc e 3 (.slice (some ⟨b,0,none⟩) n cap) n (flatI d'.toList)).fp=[b]:=rfl
 have hfq:(acc e 3 (.slice (some ⟨b,0,none⟩) n cap) n (flatI ys)).fp=[b]:=rfl
 refine H.upd (k:=0) (r:=acc e 3 (.slice (some ⟨b,0,none⟩) n cap) n (flatI ys)) rfl (w':=sortWorldK encSI 3 w b 0 m d' os) rfl rfl rfl hsz (fun c hc hcn=>?_) (acc e 3 (.slice (some ⟨b,0,none⟩) n cap) n (flatI d'.toList)) ?_ (fun c hc=> .inl (by rw[hfq];rw[hfp]at hc;exact hc)) (by rw[hfp];simp)
 ·rw[key c hc,Array.getElem?_modify]
  have:¬b=c:=fun e=>hcn (by rw[hfq,e];simp)
  simp[this]
 ·rcases h2 with ⟨h2,_⟩|⟨b',cap',C,h2,h3,h4,h5,h6,h7⟩
  ·cases h2
  ·simp only[Value.slice.injEq,Option.some.injEq,Addr.mk.injEq]at h2
   obtain⟨⟨rfl,_⟩,_,rfl⟩:=h2
   have hb:b<w.heap.size:=(Array.getElem?_eq_some_iff.1 h3).1
   refine⟨by rw[flatI_len];simp[hd],.inr ⟨b,cap,putCells id 0 (flatK encSI 3 d') C,rfl,?_,h4,h5,by simpa [putCells] using h6,?_⟩⟩
   ·show(sortWorldK encSI 3 w b 0 m d' os).heap[b]? = _
    rw[key b hb,Array.getElem?_modify]
    have h3':w.heap[b]? = some (.cells C e (0,0)):=h3
    simp[h3',onCells]
   ·apply List.ext_getElem?
    intro t
    rw[List.getElem?_take]
    by_cases ht:t<n*3
    ·have hC:t<C.size:=by have:=Nat.mul_le_mul_right 3 h4;omega
     have hF:t<(flatK encSI 3 d').size:=by simpa [hd] using ht
     rw[if_pos ht,←flatK_list]
     have e1:(flatK encSI 3 d').toList[t]? = some (flatK encSI 3 d')[t]! := by rw[getElem!_pos _ t hF];simp[hF]
     rw[e1]
     simp only[putCells,Array.getElem?_toList,Array.getElem?_mapIdx,Array.getElem?_eq_getElem hC,Option.map_some,Nat.zero_le,true_and,Nat.zero_add,Nat.sub_zero,id_eq]
     rw[if_pos hF]
    ·rw[if_neg ht,List.getElem?_eq_none (by rw[flatI_len];simp[hd];omega)]
end
end Fw
namespace Go.Proofs.Tst
open Go Fw Go.Proofs Go.Sort Go.Shelf Go.RowKit Go.Lib Tryz
theorem nanS_c (x : ByteArray) (W : World) : Calls Tryz.prog 152 #[.string x] W fun e w' => e = .returned (.bool false) ∧ w' = W := by
 go_enter func152,ntmps152
 go_wp2
 go_ret
 exact⟨by simp,rfl⟩
theorem cmpS_1 {x y:Bs}(h:Op.bytesLess x y=true):cmpS x y= -1:=by simp[cmpS,h]
theorem cmpS_2 {x y:Bs}(h:Op.bytesLess x y=false)(h2:(!x==y)=true):cmpS x y=1:=by
 have h3:Op.bytesLess y x=true:=by
  rcases Sp.lt_total x y with g|g|g
  ·have g:Op.bytesLess x y=true:=g
   rw[h]at g;cases g
  ·subst g;simp at h2
  exact g
 simp[cmpS,h,h3]
theorem cmpS_3 {x y:Bs}(h:Op.bytesLess x y=false)(h2:(!x==y)=false):cmpS x y=0:=by
 have e:x=y:=by simpa using h2
 subst e
 simp[cmpS,h]
theorem cmpS_c (x y : Bs) (W : World) : Calls Tryz.prog 107 #[str x, str y] W fun e w' => e = .returned (.int .i64 (cmpS x y)) ∧ w' = W := by
 unfold str
 have hg:∀w,(binOp .gtr 9 (.string ⟨x.toArray⟩) (.string ⟨y.toArray⟩)).run Tryz.prog w= .ok (.bool (!(Op.bytesLess x y||x==y))) w:=by
  intro w
  simp[binOp,Op.stringOp,eqGuard_at_string]
 go_enter func107,ntmps107
 go_wp2_with (go_at_call 152;refine(nanS_c _ _).mono ?_;rintro e w' ⟨rfl,rfl⟩)
 all_goals (go_ret;exact⟨by first|(rw[cmpS_1 (by assumption)];rfl)|(rw[cmpS_2 (by assumption) (by assumption)];rfl)|(rw[cmpS_3 (by assumption) (by assumption)];rfl),rfl⟩)
set_option maxHeartbeats 1000000 in
theorem cloI_c (p q : Bs) (d e : Bool) (a a' : Option Addr) (m m' k k' : Nat) (W : World) : Calls Tryz.prog 106 #[.agg #[.string ⟨p.toArray⟩, .bool d, .slice a m k], .agg #[.string ⟨q.toArray⟩, .bool e, .slice a' m' k']] W fun e w' => e = .returned (.int .i64 (cmpS p q)) ∧ ∃ q os', w' = grow (W.drewN q) os' := by
 have hcon:=fun W'=>cmpS_c p q W'
 unfold str at hcon
 generalize cmpS p q=r at hcon ⊢
 go_enter func106,ntmps106
 go_wp2_with (go_at_call 107;refine(hcon _).mono ?_;rintro e w' ⟨rfl,rfl⟩)
 go_ret
 exact⟨rfl,0,_,by rw[alloc_eq_grow,alloc_eq_grow,grow_grow];rfl⟩
theorem layI_c (blk off size : Nat) (w : World) : CmpLays Tryz.prog 106 #[] encSI 3 (fun x y : SI => cmpS x.1 y.1) blk off size w :=
 fun _ _ _ _ x y=>cloI_c x.1 y.1 x.2.1 y.2.1 x.2.2.1 y.2.2.1 x.2.2.2.1 y.2.2.2.1 x.2.2.2.2 y.2.2.2.2 _
theorem sortF_c {w0 w:World}{G0 G:PH}{S:List Nat}{B:List Res}{e:TypeId}{v:Value}{n:Nat}{c:List Value}{xs:List BItem}(H:Hp w0 G0 S w G (acc e 3 v n c::B))(hc:Chk itemE 3 G c xs)(hn:n=xs.length)(hl:xs.length≤1000) :
  Calls Tryz.prog 105 #[v,.func (.func 106) #[] #[]] w fun r w'=>r= .returned (.tuple #[])∧∃(c':List Value) (xs':List BItem),Hp w0 G0 S w' G (acc e 3 v n c'::B)∧Chk itemE 3 G c' xs'∧xs'.Perm xs∧xs'.Pairwise (fun a b=>Sp.lt b.path a.path=false)∧xs'.length=xs.length:=by
 obtain⟨zs,rfl,rfl,hz⟩:=chk_rows hc
 have hzl:zs.length=n:=by rw[hn];simp
 have h0:=(H.own _ (List.mem_cons_self ..)).1
 obtain⟨_,h2⟩:=h0
 rcases h2 with ⟨rfl,hn0⟩|⟨b,cap,C,rfl,h3,_,_,_,_⟩
 ·refine(AnyF.slices_SortFunc_none {Tryz.sortF with} none 0 _ w).mono ?_
  rintro r w' ⟨rfl,rfl⟩
  obtain rfl:zs=[]:=List.eq_nil_of_length_eq_zero oM
  exact⟨Z,_,_,H,hc,List.Perm.refl _,List.Pairwise.nil,Z⟩
 obtain⟨hH,hb⟩:=acc_holds (ys:=zs.map (·.1)) H (by simpa using hzl)
 have eg:∀args w,(callFunc 106 args).run Tryz.prog w= .ok (.enter 106 args) w:=enters_of func106 kR rfl
 have hcon:=AnyQ.slices_SortFunc Tryz.sortF 3 isAgg51 sizeOf51 encSI (fun _=>rfl) (fun x v hv=>by simp[encSI,str]at hv;rcases hv with rfl|rfl|rfl<;>rfl) (fun x y:SI=>cmpS x.1 y.1) swoI 106 #[] b 0 cap (zs.map (·.1)).toArray w eg (layI_c b 0 _ w) hH hb (by simp;omega)
 have hsz:(zs.map (·.1)).toArray.size=n:=by simpa using hzl
 rw[hsz]at hcon
 refine Calls.mono (show Calls Tryz.prog 105 _ _ _ from hcon) ?_
 rintro r w' ⟨rfl,d',m,os,hp,hs,rfl⟩
 obtain⟨xs',k1,k2,k3,k4⟩:=sort_rows hz (by rw[hsz];exact hp) (by rw[hsz];exact hs)
 have hd:d'.size=n:=by rw[hp.1];exact hsz
 exact⟨rfl,_,xs',H.sorted (by simpa using hzl) hd,k1,k2,k3,by simpa using k4⟩
end Go.Proofs.Tst
namespace Go.Proofs.Tst
open Go Fw Tryz
theorem i_inTree_c (w0:World)(G0:PH)(hG:PSub G0 w0)(wb:World)(Gb:PH)(B:List Res)(va:Value)(nl:Nat)(c:List Value)(list:List BItem)(H:Hp wb Gb [] w0 G0 (acc 51 3 va nl c::B))(hca:Chk itemE 3 G0 c list)(hnl:nl=list.length)(hl:list.length≤1000) :
  Calls Tryz.prog 55 #[va] w0 (fun e w2=>∃(G2:PH) (F:Fr) (u:Value) (s:List BItem),PLe G0 G2∧Hp wb Gb [] w2 G2 (frag F::B)∧e= .returned (.tuple #[u,.bool (Sp.TreeValid s)])∧s.Perm list∧s.Pairwise (fun a b=>Sp.lt b.path a.path=false)∧OIs F u (if Sp.TreeValid s then s else[])):=by
 have hle0:=PLe.refl G0
 obtain⟨aa,ka,rfl⟩:=H.accShape (k:=0) rfl
 refine calls_of_W (l:=[.slice aa nl ka]) func55 Z ntmps55 Z (q2 (pe 2 Z (q1 (mV Z (o_call call105 Z Z (sortF_c H hca aN aN) ?_)))));rintro _ w1 ⟨rfl,c1,xs1,H,hchk1,hperm1,hsrt1,hslen1⟩;refine⟨_,rfl,?_⟩
 refine q1 (mV Z ?_)
 obtain⟨_,H,hsg3,hsr3⟩:=H.shut' (k:=0) rfl hchk1 aN aN
 have hle0:=hle0.trans hsg3
 refine xc Z2 (i_openTree_c _ _ H.sub _ _ hsr3 H.lent0) ?_
 rintro _ _ ⟨_,_,_,rfl,H2',⟨rfl,rfl,hv2⟩|⟨T2,_,rfl,rfl,hN2,hT2,hv2⟩⟩
 ·skip
  have hle0:=hle0.trans H2'.le
  have H:=H.borrow0 H2'
  refine⟨_,Z,?_⟩
  refine pe 5 Z (q3 (W_seq (q2 (pe 2 Z (q3 (W_true Z (q2 (pe 2 Z (q3 (W_ret (N_K_ret (rt2 results55 Z Z ?_))))))))))))
  have H:=H.addF
  exact⟨_,[],.slice none 0 0,xs1,hle0,H,(by rw[show Sp.TreeValid xs1=false by assumption];rfl),hperm1,hsrt1,(by rw[show Sp.TreeValid xs1=false by assumption];exact oi_nil)⟩
 skip
 have hle0:=hle0.trans H2'.le
 have H:=H.borrow0 H2'
 refine⟨_,Z,?_⟩
 refine pe 5 Z (q3 (W_seq (q2 (pe 2 Z (q3 (W_false Z (W_skip (N_K (q2 (mV Z ?_))))))))))
 refine xc Z2 (i_tlist_c _ _ (H.lendSubL [0]) _ ((H.lendN (k:=0) (ks:=[0]) Z Z hN2).at (show Nd.at_ T2 []=some T2 from Z)) hT2.wf (by have:=hT2.cnt;omega)) ?_
 rintro _ _ ⟨_,_,rfl,H4',⟨_,rfl,hO4⟩⟩
 have H:=H.readersL H4'
 obtain⟨_,hP4⟩:=hO4
 obtain⟨_,_,rfl⟩:=OwnS.shape hP4
 have hO4:=OIs.mk hP4
 refine⟨_,Z,?_⟩
 refine pe 2 Z (q3 (W_ret (rt2 results55 Z Z ?_)))
 have H:=H.dl 1
 exact⟨_,_,_,xs1,hle0,H,(by rw[show Sp.TreeValid xs1=true by assumption];rfl),hperm1,hsrt1,(by rw[show Sp.TreeValid xs1=true by assumption,if_pos rfl,←(show Nd.TOK _ xs1 by assumption).flat];exact hO4)⟩
theorem i_TreeClone_c (w0:World)(G0:PH)(hG:PSub G0 w0)(vlist:Value)(list:List (BItem))(hlist:RdItems G0 vlist list)(f:Bs)(hf:f.length≤16777216)(t:Bs)(ht:t.length≤16777216) :
  Calls Tryz.prog 16 #[vlist,str f,str t] w0 (RetN w0 G0 (fun v Bs=>∃(F:Fr) (u:Value),v= .tuple #[u,.bool (Sp.TreeClone list f t).isSome]∧Bs=[frag F]∧OIs F u ((Sp.TreeClone list f t).getD []))):=by
 obtain⟨alist,klist,rfl⟩:=hlist.shape
 have hlimlist:list.length≤1099511627776:=hlist.lim
 have H:=Hp.init hG
 refine calls_of_W (l:=[.slice alist list.length klist,str f,str t]) func16 Z ntmps16 Z (q2 (pe 2 Z (q1 (mV Z (xc Z2 (i_openTree_c _ _ H.sub _ _ hlist H.lent0) ?_)))))
 rintro _ _ ⟨_,_,_,rfl,H1',⟨rfl,rfl,hv1⟩|⟨T1,_,rfl,rfl,hN1,hT1,hv1⟩⟩
 ·skip
  have H:=H.borrow0 H1'
  refine⟨_,Z,?_⟩
  refine pe 5 Z (q3 (W_seq (q2 (pe 2 Z (q3 (W_true Z (q2 (pe 2 Z (q3 (W_ret (N_K_ret (rt2 results16 Z Z ?_))))))))))))
  have hN:Sp.TreeClone list f t=none:=Sp.clone_inv (by assumption)
  have H:=(H.addF).forget hG (by simp)
  exact⟨_,_,rfl,H,[],.slice none 0 0,(by rw[hN];rfl),rfl,(by rw[hN];exact oi_nil)⟩
 skip
 have H:=H.borrow0 H1'
 refine⟨_,Z,?_⟩
 refine pe 5 Z (q3 (W_seq (q2 (pe 2 Z (q3 (W_false Z (W_skip (N_K (q2 ?_)))))))))
 obtain⟨_,H,hsg2,hnk⟩:=H.keepN (k:=0) rfl (by simp) hN1
 obtain⟨_,_,_,_,_,_,_,hpr2,hri2,hrk2⟩:=hnk.open
 have htl:=Sp.tree_len (show Sp.TreeValid list=true by assumption);have htn:=Sp.turned_len list f t
 refine pe 3 Z (xc Z2 (i_turned_c _ _ H.sub _ hnk _ hf _ ht list hT1 (by assumption)) ?_)
 rintro _ _ ⟨_,_,_,g3,rfl,⟨_,rfl,⟨_,rfl,hchk3⟩⟩,hp3,hq3,hs3⟩
 have H:=H.growO g3 hp3 hq3 hs3;obtain⟨_,_,rfl⟩:=H.accShape (k:=0) rfl
 have hnk:=hnk.up g3.le
 refine⟨_,Z,?_⟩
 refine pe 5 Z (q3 (W_seq (q2 (pe 2 Z (q3 ?_)))))
 refine W_cond Z ?_ ?_
 ·intro hc4
  try simp only[nrm]at hc4
  refine q2 (pe 2 Z (q3 (W_ret (N_K_ret (rt2 results16 Z Z ?_)))))
  have H:=H.dl 0
  have hN:Sp.TreeClone list f t=none:=Sp.clone_tno (by simpa using hc4)
  have H:=(H.addF).forget hG (by simp)
  exact⟨_,_,rfl,H,[],.slice none 0 0,(by rw[hN];rfl),rfl,(by rw[hN];exact oi_nil)⟩
 intro hc4'
 try simp only[nrm]at hc4'
 refine W_skip (N_K (q2 (pe 2 Z ?_)))
 refine xc Z2 (i_tlist_c _ _ H.sub _ hnk hT1.wf (by have:=hT1.cnt;omega)) ?_
 rintro _ _ ⟨_,_,rfl,H5',⟨_,rfl,hO5⟩⟩
 have H:=H.readers (fp:=[]) (by simp) (PLe.refl _) H5'
 obtain⟨_,hP5⟩:=hO5
 obtain⟨_,_,rfl⟩:=OwnS.shape hP5
 have hO5:=OIs.mk hP5
 refine⟨_,Z,?_⟩
 have hnd6:=dm_nodup H (k:=0) rfl;obtain⟨_,H,hsg6,hsf6⟩:=H.keepF (k:=0) rfl (by simp);have hsr6:=(show OIs _ _ _ from hO5).rd hsf6 hnd6
 have hchk3:=hchk3.up hsg6
 have hTf:=hT1.flat;have hTl:(T1.flat []).length≤12:=by (rw[hTf];exact htl)
 refine o_append_P 0 H hsr6 (by intro _ _ hz _ hu;obtain⟨_,_,_,rfl,_⟩:=hz;simp at hu;rcases hu with rfl|rfl|rfl<;>rfl) (sz:=3) (bytes:=48) underlying29 typeInfo51 ⟨_,rfl,rfl⟩ rfl rfl rfl rfl rfl rfl rfl oM rfl ?_;intro _ _ css7 hcl7 hcs7 H
 have hchk7:=hchk3.app (show Chk _ _ _ _ _ from⟨css7,rfl,hcl7,hcs7⟩)
 obtain⟨_,_,rfl⟩:=H.accShape (k:=0) rfl
 refine o_call call55 Z Z (i_inTree_c _ _ H.sub _ _ _ _ _ _ (((Sp.turned list f t).getD [])++(T1.flat [])) H hchk7 aN aN) ?_;rintro _ w8 ⟨G8,F8,_,s8,hle8,H,rfl,hperm8,hsrt8,hO8⟩
 obtain⟨_,hP8⟩:=hO8;obtain⟨_,_,rfl⟩:=OwnS.shape hP8;refine⟨_,rfl,?_⟩
 refine pe 4 Z (q3 (W_ret (rt2 results16 Z Z ?_)))
 have hY:Sp.TreeClone list f t=if Sp.TreeValid s8 then some s8 else none:=Sp.clone_srt (by simpa using hc4') (by (have h9:=hperm8;rw[hTf]at h9;exact h9)) hsrt8
 have H:=H.forget hG (by simp)
 exact⟨_,_,rfl,H,_,_,(by (rw[hY,Sp.ite_some];rfl)),rfl,(by (rw[hY,Sp.ite_get];exact OIs.mk hP8))⟩
theorem i_dclone_c (w0:World)(G0:PH)(hG:PSub G0 w0)(db mb:Nat)(es:Array MapEntry)(ck:Nat)(xs:List (Int×Value))(T:Nd)(FT:Fr)(sv:Value)(sn:List (Bs×Nd))(c:List Value)(FSq:Fr)(d:BDisk)(hm:MapIs (Value.int .i64) es ck xs)(hS:StR G0 xs d.store)(hN:NdO 150 80 G0 T FT)(hT:Nd.TOK T d.tree)(hchk:Chk osE 2 G0 c sn)(hNs:NdsO 150 80 G0 (sn.map (·.2)) FSq)(hSn:SnOK sn d.snaps)(hdv:Sp.DiskValid d=true)(f:Bs)(hf:f.length≤16777216)(t:Bs)(ht:t.length≤16777216)(hLent:Lent w0 G0 [blk db (cl [.int .i32 0,.int .u32 0,.map (some mb),.pointer (some ⟨T.b,0,none⟩),sv] 135),blk mb (.map es ck),frag FT,acc 164 2 sv sn.length c,frag FSq]) :
  Calls Tryz.prog 38 #[.pointer (some ⟨db,0,none⟩),str f,str t] w0 (RetM w0 G0 (fps [blk db (cl [.int .i32 0,.int .u32 0,.map (some mb),.pointer (some ⟨T.b,0,none⟩),sv] 135),blk mb (.map es ck),frag FT,acc 164 2 sv sn.length c,frag FSq]) (fun G' v Bs=>∃(es':Array MapEntry) (ck':Nat) (xs':List (Int×Value)) (F':Fr) (T':Nd) (sv':Value) (sn':List (Fw.Bs×Nd)) (c':List Value) (FSq':Fr) (L':List BHeld),v= .bool (Sp.DiskClone d f t).isSome∧Bs=[blk db (cl [.int .i32 0,.int .u32 0,.map (some mb),.pointer (some ⟨T'.b,0,none⟩),sv'] 135),blk mb (.map es' ck'),frag F',acc 164 2 sv' sn'.length c',frag FSq']∧MapIs (Value.int .i64) es' ck' xs'∧StR G' xs' L'∧Sp.VH L'∧NdO 150 80 G' T' F'∧Chk osE 2 G' c' sn'∧NdsO 150 80 G' (sn'.map (·.2)) FSq'∧∀d',Sp.DiskClone d f t=some d'→L'=d'.store∧Nd.TOK T' d'.tree∧SnOK sn' d'.snaps)):=by
 have H:Hp w0 G0 (fps [blk db (cl [.int .i32 0,.int .u32 0,.map (some mb),.pointer (some ⟨T.b,0,none⟩),sv] 135),blk mb (.map es ck),frag FT,acc 164 2 sv sn.length c,frag FSq]) w0 G0 [blk db (cl [.int .i32 0,.int .u32 0,.map (some mb),.pointer (some ⟨T.b,0,none⟩),sv] 135),blk mb (.map es ck),frag FT,acc 164 2 sv sn.length c,frag FSq]:=hLent.hp
 obtain⟨adv,cdv,rfl⟩:=H.accShape (k:=3) rfl;have hVd:=Sp.valid_iff.1 (Sp.dv_parts.1 hdv).1;have hTv:=(Sp.dv_parts.1 hdv).2.1;have hTc:=hT.cnt;have hTl:=Sp.tree_len hTv;have hsnl:=hSn.len;have hsn6:=(Sp.dv_parts.1 hdv).2.2.1
 refine calls_of_WD (l:=[.pointer (some ⟨db,0,none⟩),str f,str t]) func38 Z ntmps38 Z (q2 (aG Z (q1 (pe 2 Z (fA 0 Z (o_lock 0 H muLib Z call86 Z Z Z Z ?_))))));intro _ H
 refine q1 (pe 2 Z (fA 0 Z (o_defer Z (q1 (pe 2 Z (fA 2 Z (fA 1 Z (lB 0 H Z3 (xc Z2 (i_tlist_c _ _ (H.lendSubL [2]) _ ((H.lendN (k:=2) (ks:=[2]) Z Z hN).at (show Nd.at_ T []=some T from Z)) hT.wf oM) ?_)))))))))
 rintro _ _ ⟨_,_,rfl,H2',⟨_,rfl,hO2⟩⟩
 have H:=H.readersL H2'
 obtain⟨_,hP2⟩:=hO2
 obtain⟨_,_,rfl⟩:=OwnS.shape hP2
 have hO2:=OIs.mk hP2
 refine⟨_,Z,?_⟩
 refine pe 2 Z (xc Z2 (i_TreeClone_c _ _ (H.lendSubL [0]) _ _ (H.lendOIs (k:=0) (ks:=[0]) Z Z hO2) _ hf _ ht) ?_)
 rintro _ _ ⟨_,_,rfl,H3',⟨_,_,rfl,rfl,hO3⟩⟩
 have H:=H.readersL H3'
 obtain⟨_,hP3⟩:=hO3
 obtain⟨_,_,rfl⟩:=OwnS.shape hP3
 refine⟨_,Z,?_⟩
 refine pe 5 Z (q3 (W_seq (q2 (pe 2 Z (q3 ?_)))))
 refine W_cond Z ?_ ?_
 ·intro hc4
  try simp only[nrm]at hc4
  refine q2 (aG Z (q3 (W_ret (N_K_ret (ret_unlock 2 H muLib Z call87 Z Z (rs:=[.tmp 6]) results38 ?_)))));intro _ H
  refine⟨[_],⟨Z,trivial⟩,?_⟩
  have H:=H.sel [2,3,4,5,6] rfl
  have hno:Sp.DiskClone d f t=none:=Sp.clone_none (by (rw[←hT.flat];simpa using hc4))
  exact H.retM ⟨_,_,_,_,T,_,sn,_,_,d.store,congrArg Value.bool (by (rw[hno];rfl)),rfl,hm,hS,hVd,hN,hchk,hNs,fun d2 h=>(by rw[hno]at h;cases h)⟩
 intro hc4'
 try simp only[nrm]at hc4'
 refine W_skip (N_K (q2 ?_))
 have hTf:=hT.flat
 obtain⟨r,hr⟩:=Option.isSome_iff_exists.1 (show(Sp.TreeClone d.tree f t).isSome=true by (rw[←hTf];simpa using hc4'))
 have hgr:((Sp.TreeClone (T.flat []) f t).getD [])=r:=by (rw[hTf,hr];rfl)
 obtain⟨htv,hpt⟩:=Sp.clone_tv hr
 have htG:Sp.TreeValid ((Sp.TreeClone (T.flat []) f t).getD [])=true:=hgr▸htv
 have hlG:=Sp.tree_len htG
 have hdm2:=dm_nodup H (k:=0) rfl;obtain⟨_,H,hkl2,hks2⟩:=H.keepF (k:=0) rfl (H.apart (k:=0) (ks:=[2,3,4,5,6]) rfl rfl (by intro b hb;simp only[fps,List.flatMap_cons,List.flatMap_nil,List.append_nil,List.mem_append]at hb;rcases hb with h|h|h|h|h;(· exact fpsAt_mem (k:=2) rfl rfl b (by exact h));(· exact fpsAt_mem (k:=3) rfl rfl b (by exact h));(· exact fpsAt_mem (k:=4) rfl rfl b (by exact h));(· exact fpsAt_mem (k:=5) rfl rfl b (by exact h));(· exact fpsAt_mem (k:=6) rfl rfl b (by exact h))))
 have hrk2:=(show OIs _ _ _ from(OIs.mk hP3)).rd hks2 hdm2
 have hS:=hS.up hkl2
 have hN:=hN.up hkl2
 have hchk:=hchk.up hkl2
 have hNs:=hNs.up hkl2
 have hn_hrk2:=hrk2.len
 refine mV Z (xc Z2 (i_openTree_c _ _ H.sub _ _ hrk2 H.lent0) ?_)
 rintro _ _ ⟨G5,_,_,rfl,H5',⟨rfl,rfl,hv5⟩|⟨T5,F5,rfl,rfl,hN5,hT5,hv5⟩⟩
 ·skip
  have H:=H.borrow0 H5'
  refine⟨_,Z,?_⟩
  refine pe 5 Z (q3 (W_seq (q2 (pe 2 Z (q3 (W_true Z (q2 (aG Z (q3 (W_ret (N_K_ret (ret_unlock 1 H muLib Z call87 Z Z (rs:=[.tmp 6]) results38 ?_))))))))))));intro _ H
  refine⟨[_],⟨Z,trivial⟩,?_⟩
  exact absurd htG (by rw[show Sp.TreeValid ((Sp.TreeClone (T.flat []) f t).getD [])=false by assumption];simp)
 skip
 have hS:=hS.up H5'.le
 have hN:=hN.up H5'.le
 have hchk:=hchk.up H5'.le
 have hNs:=hNs.up H5'.le
 have hrk2:=hrk2.up H5'.le
 have H:=H.borrow0 H5'
 refine⟨_,Z,?_⟩
 refine pe 5 Z (q3 (W_seq (q2 (pe 2 Z (q3 (W_false Z (W_skip (N_K (W_seq (q2 (mV Z (lN Z (mV Z (q3 (W_block ?_)))))))))))))))
 have H:=H.sel [2,3,4,5,6,0] rfl
 obtain⟨ln6,hln6,H⟩:=H.name (k:=0) rfl
 refine W_lp (hf:=(Sub.cons (t:=0) Z (Sub.cons (t:=2) Z (Sub.cons (t:=9) Z (Sub.cons (t:=40) Z (Sub.cons (t:=41) Z Sub.nil)))))) (J:=fun M w m=>∃(esm0:Array MapEntry) (ckm0:Nat) (xsm0:List (Int×Value)) (Lm0:List BHeld) (k:Nat) (G:PH),M=[(42,.int .i64 (k:Int))]∧PLe G5 G∧Hp w0 G0 (fps [blk db (cl [.int .i32 0,.int .u32 0,.map (some mb),.pointer (some ⟨T.b,0,none⟩),.slice adv sn.length cdv] 135),blk mb (.map es ck),frag FT,acc 164 2 (.slice adv sn.length cdv) sn.length c,frag FSq]) w G [blk db (cl ln6 135),blk mb (.map esm0 ckm0),frag FT,acc 164 2 (.slice adv sn.length cdv) sn.length c,frag FSq,frag F5]∧(MapIs (Value.int .i64) esm0 ckm0 xsm0∧StR G xsm0 Lm0∧Sp.VH Lm0∧k≤((Sp.TreeClone (T.flat []) f t).getD []).length∧Sp.foldB (Sp.keepW t) (((Sp.TreeClone (T.flat []) f t).getD []).take k) (some d.store)=some Lm0)∧m=(((Sp.TreeClone (T.flat []) f t).getD []).length-k)) (h0:=⟨_,_,xs,d.store,0,_,Z,PLe.refl _,H,?inv,Z⟩) (round:=?round)
 case inv=>exact⟨hm,hS,hVd,(by simp[Sp.foldB])⟩
 case round =>
  rintro _ _ _ ⟨esm0,ckm0,xsm0,Lm0,k,G7,rfl,hle7,H,hinv7,rfl⟩
  subst hln6
  have hN:=hN.up hle7
  have hchk:=hchk.up hle7
  have hNs:=hNs.up hle7
  have hrk2:=hrk2.up hle7
  have hN5:=hN5.up hle7
  obtain⟨hm7_m0,hS7_m0,hV7_m0,hinv7⟩:=hinv7
  obtain⟨_,hf⟩:=hinv7
  refine q2 (pe 1 Z (q3 (W_seq ?_)))
  refine W_cond Z ?_ ?_
  ·intro hc8
   try simp only[nrm]at hc8
   refine W_skip (N_K (W_seq (W_block (q2 (iP k hrk2 Z3 Z ?_)))));intro _ _ z9 _ hz9 hE9 hrow9
   obtain⟨_,_,_,rfl,hi9,hr9,_,_⟩:=ox hE9
   refine o_loadagg_P H isAgg51 sizeOf51 Z Z hrow9 Z (xal H Z ?_);intro _ _ _ H
   refine xst 0 H Z8 ?_;intro _ H
   refine q3 (W_seq (W_drawK [0,1] 15 H kR Z ?_));intro _ H;have hd12:=PLe.refl G7
   refine dF 0 0 Z2 (dB 1 0 Z4 (dE 2 Z2 (r1 3 Z (xr H Z2 (i_PathWithin_c _ _ H.sub _ hi9 _ ht) ?_))));intro _ H
   refine q4 H hd12 (dE 4 Z2 ?_)
   refine RD_case (t:=50) Z ?_ ?_
   ·intro hc14
    try simp only[nrm]at hc14
    refine dE 5 Z2 (dE 6 Z2 (dF 7 2 Z2 (dF 8 0 Z2 (dB 9 1 Z4 (dF 10 2 Z2 (dB 11 0 Z4 (r1 12 Z (gR Z ?_))))))))
    have H:=H.tF 2
    refine xc Z2 (i_keepFile_c _ _ H.sub _ _ _ _ _ hm7_m0 hS7_m0 hV7_m0 _ _ hr9 H.lent1) ?_
    rintro _ _ ⟨_,_,_,rfl,H15',⟨_,_,xs15,L15,rfl,rfl,hm15,hS15,hV15,hL15⟩⟩
    have hN:=hN.up H15'.le
    have hchk:=hchk.up H15'.le
    have hNs:=hNs.up H15'.le
    have hle7:=hle7.trans H15'.le
    have hd12:=hd12.trans H15'.le
    have H:=H.borrow1 H15'
    refine⟨_,Z,?_⟩
    refine q4 H hd12 (dE 13 Z2 (dE 14 Z2 (rz (N_K ?_))))
    refine W_cond Z ?_ ?_
    ·intro hc16
     try simp only[nrm]at hc16
     refine q2 (aG Z (q3 (W_ret (N_B_ret (N_K_ret (N_LP_ret (N_B_ret (N_K_ret (ret_unlock 2 H muLib Z call87 Z Z (rs:=[.tmp 6]) results38 ?_)))))))));intro _ H
     refine⟨[_],⟨Z,trivial⟩,?_⟩
     have H:=H.sel [2,0,3,4,5] rfl
     have hwo:Sp.l1Within z9.path t=true:=by (rw[←Sp.pwithin2 (Sp.item_pv htG hz9) hpt];simpa using hc14)
     have hnk:Sp.keepT Lm0 z9=none:=(show Sp.foldB Sp.StoreKeep z9.ids (some Lm0)=none by simpa using hc16)
     have hno:Sp.DiskClone d f t=none:=by (rw[Sp.clone_some hdv hr,←hgr,←Sp.keepW_filter,Sp.foldB_stop hf hz9 ((Sp.keepW_yes hwo).trans hnk)];rfl)
     exact H.retM ⟨_,_,_,_,T,_,sn,_,_,L15,congrArg Value.bool (by (rw[hno];rfl)),rfl,hm15,hS15,hV15,hN,hchk,hNs,fun d2 h=>(by rw[hno]at h;cases h)⟩
    intro hc16'
    try simp only[nrm]at hc16'
    refine W_skip (N_B (N_K (W_region (aD Z2 (mV Z (R_nil ?_))))))
    have hwo:Sp.l1Within z9.path t=true:=by (rw[←Sp.pwithin2 (Sp.item_pv htG hz9) hpt];simpa using hc14)
    obtain⟨p,hsp⟩:=Option.isSome_iff_exists.1 (show(Sp.foldB Sp.StoreKeep z9.ids (some Lm0)).isSome=true by simpa using hc16')
    have hLp:=hL15 p hsp;subst hLp
    have hsp:Sp.keepT Lm0 z9=some L15:=hsp
    have H:=H.sel [2,0,3,4,5,6] rfl
    refine N_lp (hJ:=⟨_,_,xs15,L15,k+1,_,Z,hle7,H,?inv,Z⟩) (hm:=?hm)
    case hm=>omega
    case inv=>exact⟨hm15,hS15,hV15,(by exact⟨by omega,Sp.foldB_succ hf hz9 ((Sp.keepW_yes hwo).trans hsp)⟩)⟩
   intro hc14'
   try simp only[nrm]at hc14'
   refine dE 5 Z2 (dE 6 Z2 (dE 7 Z2 (dE 8 Z2 (dE 9 Z2 (dE 10 Z2 (dE 11 Z2 (dE 12 Z2 (dE 13 Z2 (dE 14 Z2 (rz (N_K (W_false Z (W_skip (N_B (N_K ?_)))))))))))))))
   refine W_region (aD Z2 (mV Z (R_nil ?_)))
   have hwo:Sp.l1Within z9.path t=false:=by (rw[←Sp.pwithin2 (Sp.item_pv htG hz9) hpt];simpa using hc14')
   have H:=H.sel [1,2,3,4,5,6] rfl
   refine N_lp (hJ:=⟨_,_,xsm0,Lm0,k+1,_,Z,hle7,H,?inv,Z⟩) (hm:=?hm)
   case hm=>omega
   case inv=>exact⟨hm7_m0,hS7_m0,hV7_m0,(by exact⟨by omega,Sp.foldB_succ hf hz9 (Sp.keepW_no hwo)⟩)⟩
  intro hc8'
  try simp only[nrm]at hc8'
  refine W_exit (N_K_exit (N_LP_exit (N_B_same (N_K (q2 (pe 3 Z (fA 2 Z (fA 1 Z (xst 0 H Z8 ?_)))))))));intro _ H
  refine q1 (aG Z (q3 (W_ret (ret_unlock 0 H muLib Z call87 Z Z (rs:=[.tmp 6]) results38 ?_))));intro _ H
  refine⟨[_],⟨Z,trivial⟩,?_⟩
  have H:=H.sel [0,1,5,3,4] rfl
  obtain rfl:k=((Sp.TreeClone (T.flat []) f t).getD []).length:=by omega
  rw[List.take_length,Sp.keepW_filter]at hf
  have hY:Sp.DiskClone d f t=some ⟨Lm0,((Sp.TreeClone (T.flat []) f t).getD []),d.snaps⟩:=by (rw[Sp.clone_some hdv hr,←hgr,hf];rfl)
  exact H.retM ⟨_,_,_,_,T5,_,sn,_,_,Lm0,congrArg Value.bool (by (rw[hY];rfl)),rfl,hm7_m0,hS7_m0,hV7_m0,hN5,hchk,hNs,fun d2 h=>(by rw[hY]at h;cases h;exact⟨rfl,hT5,hSn⟩)⟩
theorem i_DiskClone1_c (w0:World)(G0:PH)(hG:PSub G0 w0)(db mb:Nat)(es:Array MapEntry)(ck:Nat)(xs:List (Int×Value))(T:Nd)(FT:Fr)(sv:Value)(sn:List (Bs×Nd))(c:List Value)(FSq:Fr)(d:BDisk)(hm:MapIs (Value.int .i64) es ck xs)(hS:StR G0 xs d.store)(hN:NdO 150 80 G0 T FT)(hT:Nd.TOK T d.tree)(hchk:Chk osE 2 G0 c sn)(hNs:NdsO 150 80 G0 (sn.map (·.2)) FSq)(hSn:SnOK sn d.snaps)(hdv:Sp.DiskValid d=true)(cp:Nat)(f:Bs)(hf:f.length≤16777216)(hcp:PRow G0 cp 0 [str f])(cq:Nat)(t:Bs)(ht:t.length≤16777216)(hcq:PRow G0 cq 0 [str t])(hLent:Lent w0 G0 [blk db (cl [.int .i32 0,.int .u32 0,.map (some mb),.pointer (some ⟨T.b,0,none⟩),sv] 135),blk mb (.map es ck),frag FT,acc 164 2 sv sn.length c,frag FSq]) :
  Calls Tryz.prog 37 #[.pointer (some ⟨db,0,none⟩),.pointer (some ⟨cp,0,none⟩),.pointer (some ⟨cq,0,none⟩)] w0 (RetM w0 G0 (fps [blk db (cl [.int .i32 0,.int .u32 0,.map (some mb),.pointer (some ⟨T.b,0,none⟩),sv] 135),blk mb (.map es ck),frag FT,acc 164 2 sv sn.length c,frag FSq]) (fun G' v Bs=>∃(es':Array MapEntry) (ck':Nat) (xs':List (Int×Value)) (F':Fr) (T':Nd) (sv':Value) (sn':List (Fw.Bs×Nd)) (c':List Value) (FSq':Fr) (L':List BHeld),v= .bool (Sp.DiskClone d f t).isSome∧Bs=[blk db (cl [.int .i32 0,.int .u32 0,.map (some mb),.pointer (some ⟨T'.b,0,none⟩),sv'] 135),blk mb (.map es' ck'),frag F',acc 164 2 sv' sn'.length c',frag FSq']∧MapIs (Value.int .i64) es' ck' xs'∧StR G' xs' L'∧Sp.VH L'∧NdO 150 80 G' T' F'∧Chk osE 2 G' c' sn'∧NdsO 150 80 G' (sn'.map (·.2)) FSq'∧∀d',Sp.DiskClone d f t=some d'→L'=d'.store∧Nd.TOK T' d'.tree∧SnOK sn' d'.snaps)):=by
 have H:Hp w0 G0 (fps [blk db (cl [.int .i32 0,.int .u32 0,.map (some mb),.pointer (some ⟨T.b,0,none⟩),sv] 135),blk mb (.map es ck),frag FT,acc 164 2 sv sn.length c,frag FSq]) w0 G0 [blk db (cl [.int .i32 0,.int .u32 0,.map (some mb),.pointer (some ⟨T.b,0,none⟩),sv] 135),blk mb (.map es ck),frag FT,acc 164 2 sv sn.length c,frag FSq]:=hLent.hp
 obtain⟨_,_,rfl⟩:=H.accShape (k:=3) rfl;have hVd:=Sp.valid_iff.1 (Sp.dv_parts.1 hdv).1;have hTv:=(Sp.dv_parts.1 hdv).2.1;have hTc:=hT.cnt;have hTl:=Sp.tree_len hTv;have hsnl:=hSn.len;have hsn6:=(Sp.dv_parts.1 hdv).2.2.1
 refine calls_of_W (l:=[.pointer (some ⟨db,0,none⟩),.pointer (some ⟨cp,0,none⟩),.pointer (some ⟨cq,0,none⟩)]) func37 Z ntmps37 Z (q2 (aG Z (q1 (mV Z (lP H hcp 0 Z2 (lP H hcq 0 Z2 ?_))))))
 have H:=H.tF 4
 have H:=H.tF 4
 have H:=H.tF 4
 have H:=H.tF 4
 have H:=H.tF 4
 refine xc Z2 (i_dclone_c _ _ H.sub _ _ _ _ _ _ _ _ _ _ _ _ hm hS hN hT hchk hNs hSn hdv _ hf _ ht H.lent5) ?_
 rintro _ _ ⟨_,_,_,rfl,H1',⟨_,_,_,_,_,_,_,_,_,_,rfl,rfl,hm1,hS1,hV1,hN1,hchk1,hNs1,hd1⟩⟩
 have H:=H.borrow5 H1'
 obtain⟨_,_,rfl⟩:=H.accShape (k:=3) rfl
 refine⟨_,Z,?_⟩
 refine aG Z (q3 (W_ret (rt1 results37 Z ?_)))
 have H:=H.sel [0,1,2,3,4] rfl
 exact H.retM ⟨_,_,_,_,_,_,_,_,_,_,Z,Z,hm1,hS1,hV1,hN1,hchk1,hNs1,hd1⟩
theorem i_changed_clone_c (w0:World)(G0:PH)(hG:PSub G0 w0)(cd:List Value)(d:BDisk)(hd:diskE G0 d cd)(cp:Nat)(f:Bs)(hf:f.length≤16777216)(hcp:PRow G0 cp 0 [str f])(cq:Nat)(t:Bs)(ht:t.length≤16777216)(hcq:PRow G0 cq 0 [str t]) :
  Calls Tryz.prog 36 #[.agg cd.toArray,.func (.func 37) #[] #[.pointer (some ⟨cp,0,none⟩),.pointer (some ⟨cq,0,none⟩)]] w0 (RetN w0 G0 (fun v Bs=>∃(v1 v2 v3:Value) (F1 F2 F3:Fr),v= .tuple #[.agg #[v1,v2,v3],.bool (Sp.DiskClone d f t).isSome]∧Bs=[frag F1,frag F2,frag F3]∧OHs F1 v1 ((Sp.DiskClone d f t).getD ⟨[],[],[]⟩).store∧OIs F2 v2 ((Sp.DiskClone d f t).getD ⟨[],[],[]⟩).tree∧OSn F3 v3 ((Sp.DiskClone d f t).getD ⟨[],[],[]⟩).snaps)):=by
 obtain⟨_,_,_,_,_,_,_,_,_,rfl,hr1,hr1',hr1'',⟨_,_⟩,⟨_,_⟩,_,_⟩:=ox hd
 have H:=Hp.init hG
 refine calls_of_W (l:=[_,.func (.func 37) #[] #[.pointer (some ⟨cp,0,none⟩),.pointer (some ⟨cq,0,none⟩)]]) func36 Z ntmps36 Z (q2 (o_box H Z Z Z ?_));intro _ _ _ H
 refine xal H Z ?_;intro _ _ _ H
 refine aG Z (q1 (lA 1 3 H Z4 (xc Z2 (i_newDisk_c _ _ H.sub _ d ⟨_,_,_,_,_,_,_,_,_,Z,hr1,hr1',hr1''⟩ H.lent0) ?_)))
 rintro _ _ ⟨_,_,_,rfl,H4',⟨rfl,rfl,hnd4⟩|⟨_,_,_,_,_,_,_,_,_,_,_,rfl,rfl,hm4,hS4,hN4,hT4,hchk4,hNs4,hSn4,hdv4⟩⟩
 ·skip
  have H:=H.borrow0 H4'
  refine⟨_,Z,?_⟩
  refine pe 5 Z (q3 (W_seq (q2 (pe 8 Z (q3 (W_true Z (q2 (o_build bf32 Z Z Z (xst 0 H Z8 ?_)))))))));intro _ H
  refine aG Z (q3 (W_ret (N_K_ret (ret_gen (rs:=[.cell 4 32,.tmp 5]) (vs:=[_,_]) results36 ⟨⟨_,Z,load_blk 0 H isAgg32 sizeOf32 Z Z Z⟩,Z,trivial⟩ ?_))))
  have H:=H.dl 0
  have H:=H.dl 0
  have hno:Sp.DiskClone d f t=none:=by (cases hh:Sp.DiskClone d f t with |none=>rfl|some q=>(have hx:=Sp.clone_isv hh;rw[hnd4]at hx;cases hx))
  have H:=(((H.addF).addF).addF).forget hG (by simp)
  refine⟨_,_,Z,H,.slice none 0 0,.slice none 0 0,.slice none 0 0,[],[],[],?_,Z,?_,?_,?_⟩
  ·(rw[hno];rfl)
  ·(rw[hno];exact oh_nil)
  ·(rw[hno];exact oi_nil)
  (rw[hno];exact os_nil)
 skip
 have hcp:=hcp.up H4'.le
 have hcq:=hcq.up H4'.le
 have H:=H.borrow0 H4'
 obtain⟨avAd,cvAd,rfl⟩:=H.accShape (k:=3) rfl
 refine⟨_,Z,?_⟩
 refine pe 5 Z (q3 (W_seq (q2 (pe 5 Z (gR Z ?_)))))
 have H:=H.tF 4
 have H:=H.tF 4
 have H:=H.tF 4
 have H:=H.tF 4
 have H:=H.tF 4
 refine o_callc2 call37 Z Z Z (i_DiskClone1_c _ _ H.sub _ _ _ _ _ _ _ _ _ _ _ _ hm4 hS4 hN4 hT4 hchk4 hNs4 hSn4 hdv4 _ _ hf hcp _ _ ht hcq H.lent5) ?_
 rintro _ _ ⟨_,_,_,rfl,H6',⟨_,_,_,_,_,_,_,_,_,_,rfl,rfl,hm6,hS6,hV6,hN6,hchk6,hNs6,hd6⟩⟩
 have H:=H.borrow5 H6'
 obtain⟨avAd,cvAd,rfl⟩:=H.accShape (k:=3) rfl
 refine⟨_,Z,?_⟩
 refine pe 2 Z (q3 ?_)
 refine W_cond Z ?_ ?_
 ·intro hc7
  try simp only[nrm]at hc7
  refine q2 (o_build bf32 Z Z Z (xst 5 H Z8 ?_));intro _ H
  refine aG Z (q3 (W_ret (N_K_ret (ret_gen (rs:=[.cell 4 32,.tmp 5]) (vs:=[_,_]) results36 ⟨⟨_,Z,load_blk 5 H isAgg32 sizeOf32 Z Z Z⟩,Z,trivial⟩ ?_))))
  have H:=H.sel [] rfl
  have hno:Sp.DiskClone d f t=none:=by simpa using hc7
  have H:=(((H.addF).addF).addF).forget hG (by simp)
  refine⟨_,_,Z,H,.slice none 0 0,.slice none 0 0,.slice none 0 0,[],[],[],?_,Z,?_,?_,?_⟩
  ·(rw[hno];rfl)
  ·(rw[hno];exact oh_nil)
  ·(rw[hno];exact oi_nil)
  (rw[hno];exact os_nil)
 intro hc7'
 try simp only[nrm]at hc7'
 obtain⟨d2,hd2⟩:=Option.isSome_iff_exists.1 (show(Sp.DiskClone d f t).isSome=true by simpa using hc7')
 obtain⟨hL2,hT2,hsn2⟩:=hd6 d2 hd2;subst hL2
 refine W_skip (N_K (q2 (mV Z ?_)))
 have H:=H.tF 4
 have H:=H.tF 4
 have H:=H.tF 4
 have H:=H.tF 4
 have H:=H.tF 4
 refine xc Z2 (i_disk_c _ _ H.sub _ _ _ _ _ _ _ _ _ _ _ _ hm6 hS6 hN6 hT2 hchk6 hNs6 hsn2 hV6 (Sp.dv_parts.1 (Sp.clone_valid hd2)).2.2.1 H.lent5) ?_
 rintro _ _ ⟨_,_,_,rfl,H9',⟨_,_,_,D19,D29,D39,rfl,rfl,ho19,ho29,ho39⟩⟩
 have H:=H.borrow5 H9'
 obtain⟨_,p19⟩:=ho19
 obtain⟨a19,c19,rfl⟩:=OwnS.shape p19
 obtain⟨_,p29⟩:=ho29
 obtain⟨a29,c29,rfl⟩:=OwnS.shape p29
 obtain⟨_,p39⟩:=ho39
 obtain⟨a39,c39,rfl⟩:=OwnS.shape p39
 refine⟨_,Z,?_⟩
 refine xst 3 H Z8 ?_;intro _ H
 refine aG Z (q3 (W_ret (ret_gen (rs:=[.cell 4 32,.tmp 5]) (vs:=[_,_]) results36 ⟨⟨_,Z,load_blk 3 H isAgg32 sizeOf32 Z Z Z⟩,Z,trivial⟩ ?_)))
 have H:=H.sel [0,1,2] rfl
 have H:=H.forget hG (by simp)
 refine⟨_,_,Z,H,.slice a19 d2.store.length c19,.slice a29 d2.tree.length c29,.slice a39 d2.snaps.length c39,D19,D29,D39,?_,Z,?_,?_,?_⟩
 ·(rw[hd2];rfl)
 ·(rw[hd2];exact⟨_,p19⟩)
 ·(rw[hd2];exact⟨_,p29⟩)
 (rw[hd2];exact⟨_,p39⟩)
theorem i_DiskClone_c (w0:World)(G0:PH)(hG:PSub G0 w0)(cd:List Value)(d:BDisk)(hd:diskE G0 d cd)(f:Bs)(hf:f.length≤16777216)(t:Bs)(ht:t.length≤16777216) :
  Calls Tryz.prog 10 #[.agg cd.toArray,str f,str t] w0 (RetN w0 G0 (fun v Bs=>∃(v1 v2 v3:Value) (F1 F2 F3:Fr),v= .tuple #[.agg #[v1,v2,v3],.bool (Sp.DiskClone d f t).isSome]∧Bs=[frag F1,frag F2,frag F3]∧OHs F1 v1 ((Sp.DiskClone d f t).getD ⟨[],[],[]⟩).store∧OIs F2 v2 ((Sp.DiskClone d f t).getD ⟨[],[],[]⟩).tree∧OSn F3 v3 ((Sp.DiskClone d f t).getD ⟨[],[],[]⟩).snaps)):=by
 obtain⟨_,_,_,_,_,_,_,_,_,rfl,hr1,hr1',hr1'',⟨_,_⟩,⟨_,_⟩,_,_⟩:=ox hd
 have H:=Hp.init hG
 refine calls_of_W (l:=[_,str f,str t]) func10 Z ntmps10 Z (q2 (o_box H Z Z Z ?_));intro _ _ _ H
 refine o_box H Z Z Z ?_;intro _ _ _ H
 refine o_box H Z Z Z ?_;intro _ _ _ H
 refine xal H Z ?_;intro _ _ _ H
 refine aG Z (q1 (lA 3 3 H Z4 (o_makefn2 Z Z Z (xc Z2 (i_changed_clone_c _ _ (H.lendSubL [1,2]) _ d ⟨_,_,_,_,_,_,_,_,_,Z,(hr1.up (PPlus.le _ _ _)),(hr1'.up (PPlus.le _ _ _)),(hr1''.up (PPlus.le _ _ _))⟩ _ _ hf (prow_blk (H.lendPredL (k:=2) (ks:=[1,2]) Z Z)) _ _ ht (prow_blk (H.lendPredL (k:=1) (ks:=[1,2]) Z Z))) ?_))))
 rintro _ _ ⟨_,_,rfl,H6',⟨_,_,_,E16,E26,E36,rfl,rfl,ho16,ho26,ho36⟩⟩
 have H:=H.readersL H6'
 obtain⟨_,p16⟩:=ho16
 obtain⟨a16,c16,rfl⟩:=OwnS.shape p16
 obtain⟨_,p26⟩:=ho26
 obtain⟨a26,c26,rfl⟩:=OwnS.shape p26
 obtain⟨_,p36⟩:=ho36
 obtain⟨a36,c36,rfl⟩:=OwnS.shape p36
 refine⟨_,Z,?_⟩
 refine pe 2 Z (xst 3 H Z8 ?_);intro _ H
 refine aG Z (q3 (W_ret (ret_gen (rs:=[.cell 6 32,.tmp 7]) (vs:=[_,_]) results10 ⟨⟨_,Z,load_blk 3 H isAgg32 sizeOf32 Z Z Z⟩,Z,trivial⟩ ?_)))
 have H:=H.sel [0,1,2] rfl
 exact⟨_,_,Z,H,.slice a16 ((Sp.DiskClone d f t).getD ⟨[],[],[]⟩).store.length c16,.slice a26 ((Sp.DiskClone d f t).getD ⟨[],[],[]⟩).tree.length c26,.slice a36 ((Sp.DiskClone d f t).getD ⟨[],[],[]⟩).snaps.length c36,E16,E26,E36,Z,Z,⟨_,p16⟩,⟨_,p26⟩,⟨_,p36⟩⟩
theorem l6In_c (w0:World)(n:Int)(lo:Int)(hi:Int) :
  Calls Tryz.prog 123 #[.int .i64 n,.int .i64 lo,.int .i64 hi] w0 (Rets w0 (.bool (Sp.l6In n lo hi))):=by
 have H:=Hp.init0 w0
 refine calls_of_W (l:=[.int .i64 n,.int .i64 lo,.int .i64 hi]) func123 Z ntmps123 Z (q2 (aG Z (q1 (pe 4 Z ?_))))
 refine R_case (t:=10) Z ?_ ?_
 ·intro hc1
  try simp only[nrm]at hc1
  refine pe 5 Z (q3 (W_ret (rt1 results123 Z ?_)))
  exact H.rets (congrArg Value.bool (by unfold Sp.l6In;rw[Bool.eq_iff_iff];simp;omega))
 intro hc1'
 try simp only[nrm]at hc1'
 refine pe 5 Z (q3 (W_ret (rt1 results123 Z ?_)))
 exact H.rets (congrArg Value.bool (by unfold Sp.l6In;rw[Bool.eq_iff_iff];simp;omega))
theorem l1Word_c (w0:World)(s:Bs)(hs:s.length≤16777216) :
  Calls Tryz.prog 129 #[str s] w0 (Rets w0 (.bool (Sp.l1Word s))):=by
 have H:=Hp.init0 w0
 refine calls_of_W (l:=[str s]) func129 Z ntmps129 Z (q2 (aG Z (q3 (W_seq (q2 (aG Z (q3 (W_block ?_))))))))
 refine W_lp (hf:=(Sub.cons (t:=0) Z Sub.nil)) (J:=fun M w m=>∃(k:Nat) (G:PH),M=[(3,.int .i64 (k:Int))]∧PLe (fun _=>none) G∧Hp w0 (fun _=>none) [] w G []∧(k≤s.length∧(s.take k).all Sp.low=true)∧m=(s.length-k)) (h0:=⟨0,_,Z,PLe.refl _,H,?inv,Z⟩) (round:=?round)
 case inv=>exact⟨by omega,by simp⟩
 case round =>
  rintro _ _ _ ⟨k,_,rfl,hle1,H,hinv1,rfl⟩
  obtain⟨_,hall⟩:=hinv1
  refine W_seq (q2 (pe 2 Z (lS Z (pe 1 Z (q3 ?_)))))
  refine W_cond Z ?_ ?_
  ·intro hc2
   try simp only[nrm]at hc2
   refine W_skip (N_K (W_seq (W_block (q2 (pe 2 Z (o_index_str underlying9 Z Z Z Z oM ?_))))));intro ch3 hch3;have hlt3:=ch3.toNat_lt
   refine pe 2 Z ?_
   refine R_case (t:=14) Z ?_ ?_
   ·intro hc4
    try simp only[nrm]at hc4
    refine pe 5 Z (q3 (W_true Z (q2 (aG Z (q3 (W_ret (N_B_ret (N_K_ret (N_LP_ret (N_B_ret (N_K_ret (rt1 results129 Z ?_))))))))))))
    exact H.rets (congrArg Value.bool (by rw[Sp.l1Word,Sp.all_false hch3 (by simp[Sp.low];omega)];rfl))
   intro hc4'
   try simp only[nrm]at hc4'
   refine pe 2 Z (gR Z (o_index_str underlying9 Z Z Z Z oM ?_));intro ch5 hch5;have hlt5:=ch5.toNat_lt
   obtain rfl:ch5=ch3:=Option.some.inj (hch5.symm.trans hch3)
   refine pe 2 Z (q3 ?_)
   refine W_cond Z ?_ ?_
   ·intro hc6
    try simp only[nrm]at hc6
    refine q2 (aG Z (q3 (W_ret (N_B_ret (N_K_ret (N_LP_ret (N_B_ret (N_K_ret (rt1 results129 Z ?_)))))))))
    exact H.rets (congrArg Value.bool (by rw[Sp.l1Word,Sp.all_false hch5 (by simp[Sp.low];omega)];rfl))
   intro hc6'
   try simp only[nrm]at hc6'
   refine W_skip (N_B (N_K (W_region (mV Z (aD Z2 (aG Z (R_nil ?_)))))))
   refine N_lp (hJ:=⟨k+1,_,Z,hle1,H,?inv,Z⟩) (hm:=?hm)
   case hm=>omega
   case inv=>exact⟨by omega,Sp.all_take hall hch5 (by simp[Sp.low];omega)⟩
  intro hc2'
  try simp only[nrm]at hc2'
  refine W_exit (N_K_exit (N_LP_exit (N_B_same (N_K (q2 (mV Z (lS Z (xr H Z2 (l6In_c _ _ _ _) ?_))))))));intro _ H
  refine aG Z (q3 (W_ret (rt1 results129 Z ?_)))
  obtain rfl:k=s.length:=by omega
  rw[List.take_length]at hall
  exact H.rets (congrArg Value.bool (by simp only[Sp.l1Word,Sp.l6In,hall];rw[Bool.eq_iff_iff];simp;omega))
theorem l1Cut_c (w0:World)(G0:PH)(hG:PSub G0 w0)(s:Bs)(hs:s.length≤16777216) :
  Calls Tryz.prog 161 #[str s] w0 (RetP w0 G0 (fun G v=>RdT G v (Sp.cut s))):=by
 have H:=Hp.init hG
 refine calls_of_W (l:=[str s]) func161 Z ntmps161 Z (q2 (aG Z (q1 (xbs H Z7 ?_))));intro _ _ _ H
 have H:=H.blkAcc 1 (k:=0) (n:=0) rfl rfl (by decide)
 refine aG Z (q1 (aG Z (q3 (W_seq (q2 (aG Z (q3 (W_block ?_))))))))
 refine W_lp (hf:=(Sub.cons (t:=0) Z (Sub.cons (t:=2) Z Sub.nil))) (J:=fun M w m=>∃(v:Value) (n:Nat) (cs:List Value) (xs:List (Bs)) (f k:Nat) (G:PH),M=[(4,.int .i64 (f:Int)),(5,.int .i64 (k:Int)),(3,v)]∧PLe G0 G∧Hp w0 G0 [] w G [acc 9 1 v n cs]∧(Chk strE 1 G cs xs∧n=xs.length∧f≤k∧k≤s.length∧xs.length≤k∧xs++Sp.cut (s.drop f)=Sp.cut s∧∀j,f≤j→j<k→s[j]? ≠ some 47)∧m=(s.length-k)) (h0:=⟨_,_,_,[],0,0,_,Z,PLe.refl _,H,?inv,Z⟩) (round:=?round)
 case inv=>exact⟨(Chk.nil (E:=strE) (sz:=1) (G:=G0)),by first|rfl|simp|(simp;omega)|omega,(by simp)⟩
 case round =>
  rintro _ _ _ ⟨v,n,cs,xs,f,k,_,rfl,hle2,H,hinv2,rfl⟩
  obtain⟨hchk2_0,_,hinv2⟩:=hinv2
  obtain⟨_,_,rfl⟩:=H.accShape (k:=0) rfl
  obtain⟨h1,_,_,h4,h5⟩:=hinv2
  refine W_seq (q2 (pe 2 Z (lS Z (pe 1 Z (q3 ?_)))))
  refine W_cond Z ?_ ?_
  ·intro hc3
   try simp only[nrm]at hc3
   refine W_skip (N_K (W_seq (W_block (q2 (pe 2 Z (o_index_str underlying9 Z Z Z Z oM ?_))))));intro ch4 hch4;have hlt4:=ch4.toNat_lt
   refine pe 1 Z (q3 ?_)
   refine W_cond Z ?_ ?_
   ·intro hc5
    try simp only[nrm]at hc5
    refine q2 (pe 4 Z (o_slice_str underlying9 Z Z Z Z oM oM oM (xbs H Z7 ?_)));intro _ _ _ H
    refine o_append1 0 H (sz:=1) (bytes:=16) underlying79 typeInfo9 ⟨_,Z,Z⟩ Z Z Z Z Z Z Z Z Z Z oM Z ?_;intro _ _ H
    have hchk8:=hchk2_0.snoc (show strE _ ((s.drop f).take (k-f)) _ from⟨rfl,(by (first|assumption|(refine Sp.l5Parent_lim ?_;assumption)|(simp;done)|(simp;omega)|omega))⟩) rfl
    obtain⟨_,_,rfl⟩:=H.accShape (k:=0) rfl
    refine aG Z (q3 (W_region (mV Z (aD Z2 (aG Z (R_nil (N_B (N_K (W_region (mV Z (aD Z2 (aG Z (R_nil ?_)))))))))))))
    refine N_lp (hJ:=⟨_,_,_,(xs++[((s.drop f).take (k-f))]),k+1,k+1,_,Z,hle2,H,?inv,Z⟩) (hm:=?hm)
    case hm=>omega
    case inv=>exact⟨hchk8,aN,(by exact⟨by omega,by omega,by simp;omega,Sp.cut_step h4 h1 (hch4▸congrArg some (Sp.is47 oM)) h5,fun j g1 g2=>by omega⟩)⟩
   intro hc5'
   try simp only[nrm]at hc5'
   refine W_skip (N_B (N_K (W_region (mV Z (aD Z2 (aG Z (R_nil ?_)))))))
   refine N_lp (hJ:=⟨_,_,_,xs,f,k+1,_,Z,hle2,H,?inv,Z⟩) (hm:=?hm)
   case hm=>omega
   case inv=>exact⟨hchk2_0,aN,(by exact⟨by omega,by omega,by omega,h4,Sp.noslash_succ h5 (hch4▸Sp.not47 oM)⟩)⟩
  intro hc3'
  try simp only[nrm]at hc3'
  refine W_exit (N_K_exit (N_LP_exit (N_B_same (N_K (q2 (pe 3 Z (o_slice_str_from underlying9 Z Z Z oM oM (xbs H Z7 ?_))))))));intro _ _ _ H
  refine o_append1 0 H (sz:=1) (bytes:=16) underlying79 typeInfo9 ⟨_,Z,Z⟩ Z Z Z Z Z Z Z Z Z Z oM Z ?_;intro _ _ H
  have hchk14:=hchk2_0.snoc (show strE _ (s.drop f) _ from⟨rfl,(by (first|assumption|(refine Sp.l5Parent_lim ?_;assumption)|(simp;done)|(simp;omega)|omega))⟩) rfl
  obtain⟨_,_,rfl⟩:=H.accShape (k:=0) rfl
  refine aG Z (q3 (W_ret (rt1 results161 Z ?_)))
  obtain⟨_,H,hsg515,hsr515⟩:=H.shut' (k:=0) rfl hchk14 aN aN
  exact H.retP (by rw[←Sp.cut_end h4 h5 oM];exact hsr515)
theorem PathValid_c (w0:World)(G0:PH)(hG:PSub G0 w0)(path:Bs)(hpath:path.length≤16777216) :
  Calls Tryz.prog 120 #[str path] w0 (Rets w0 (.bool (Sp.PathValid path))):=by
 have H:=Hp.init hG
 refine calls_of_W (l:=[str path]) func120 Z ntmps120 Z (q2 (aG Z (q1 (mV Z (xc Z2 (l1Cut_c _ _ H.sub _ hpath) ?_)))))
 rintro _ _ ⟨G1,_,g1,rfl,hr1_0⟩
 have H:=H.grow g1
 obtain⟨_,_,rfl⟩:=hr1_0.shape;have hx_hr1_0:_≤1099511627776:=hr1_0.lim
 refine⟨_,Z,?_⟩
 refine aG Z (q3 (W_seq (q2 (aG Z (q3 (W_block ?_))))))
 refine W_lp (hf:=(Sub.cons (t:=3) Z Sub.nil)) (J:=fun M w m=>∃(k:Nat) (G:PH),M=[(4,.int .i64 (k:Int))]∧PLe G1 G∧Hp w0 G0 [] w G []∧(k≤(Sp.cut path).length∧((Sp.cut path).take k).all Sp.l1Word=true)∧m=((Sp.cut path).length-k)) (h0:=⟨0,_,Z,PLe.refl _,H,?inv,Z⟩) (round:=?round)
 case inv=>simp
 case round =>
  rintro _ _ _ ⟨k,_,rfl,hle2,H,hinv2,rfl⟩
  have hr1_0:=hr1_0.up hle2
  obtain⟨_,hall⟩:=hinv2
  refine W_seq (q2 (pe 2 Z (lN Z (pe 1 Z (q3 ?_)))))
  refine W_cond Z ?_ ?_
  ·intro hc3
   try simp only[nrm]at hc3
   refine W_skip (N_K (W_seq (W_block (q2 (pe 2 Z (iP k hr1_0 Z3 Z ?_))))));intro _ _ _ _ hz4 hE4 hrow4
   obtain⟨rfl,hi4⟩:=hE4;have hy_hi4:_≤16777216:=hi4
   refine lP H hrow4 0 Z2 (xr H Z2 (l1Word_c _ _ hi4) ?_);intro _ H
   refine pe 1 Z (q3 ?_)
   refine W_cond Z ?_ ?_
   ·intro hc6
    try simp only[nrm]at hc6
    refine q2 (aG Z (q3 (W_ret (N_B_ret (N_K_ret (N_LP_ret (N_B_ret (N_K_ret (rt1 results120 Z ?_)))))))))
    exact H.rets (congrArg Value.bool (by rw[Sp.PathValid,Sp.all_false hz4 hc6];rfl))
   intro hc6'
   try simp only[nrm]at hc6'
   refine W_skip (N_B (N_K (W_region (mV Z (aD Z2 (aG Z (R_nil ?_)))))))
   refine N_lp (hJ:=⟨k+1,_,Z,hle2,H,?inv,Z⟩) (hm:=?hm)
   case hm=>omega
   case inv=>exact⟨by omega,Sp.all_take hall hz4 hc6'⟩
  intro hc3'
  try simp only[nrm]at hc3'
  refine W_exit (N_K_exit (N_LP_exit (N_B_same (N_K (q2 (mV Z (lN Z (pe 2 Z (q3 (W_ret (rt1 results120 Z ?_)))))))))))
  obtain rfl:k=(Sp.cut path).length:=by omega
  rw[List.take_length]at hall
  exact H.rets (congrArg Value.bool (by simp only[Sp.PathValid,hall,Bool.true_and];rw[Bool.eq_iff_iff];simp;omega))
theorem l1Last_c (w0:World)(path:Bs)(hpath:path.length≤16777216) :
  Calls Tryz.prog 201 #[str path] w0 (Rets w0 (.int .i64 (Sp.l1Last path))):=by
 have H:=Hp.init0 w0
 refine calls_of_W (l:=[str path]) func201 Z ntmps201 Z (q2 (aG Z (q1 (aG Z (q3 (W_seq (q2 (aG Z (q3 (W_block ?_))))))))))
 refine W_lp (hf:=(Sub.cons (t:=0) Z (Sub.cons (t:=2) Z Sub.nil))) (J:=fun M w m=>∃(k:Nat) (o:Option Nat) (G:PH),M=[(3,.int .i64 (Sp.optI o)),(4,.int .i64 (k:Int))]∧PLe (fun _=>none) G∧Hp w0 (fun _=>none) [] w G []∧(k≤path.length∧o=(List.range k).foldl (Sp.lastF path) none)∧m=(path.length-k)) (h0:=⟨0,none,_,Z,PLe.refl _,H,?inv,Z⟩) (round:=?round)
 case inv=>exact⟨by omega,rfl⟩
 case round =>
  rintro _ _ _ ⟨k,o,_,rfl,hle1,H,hinv1,rfl⟩
  obtain⟨_,hall⟩:=hinv1
  refine W_seq (q2 (pe 2 Z (lS Z (pe 1 Z (q3 ?_)))))
  refine W_cond Z ?_ ?_
  ·intro hc2
   try simp only[nrm]at hc2
   refine W_skip (N_K (W_seq (W_block (q2 (pe 2 Z (o_index_str underlying9 Z Z Z Z oM ?_))))));intro ch3 hch3;have hlt3:=ch3.toNat_lt
   refine pe 1 Z (q3 ?_)
   refine W_cond Z ?_ ?_
   ·intro hc4
    try simp only[nrm]at hc4
    refine W_region (pe 2 Z (R_nil (N_B (N_K (W_region (mV Z (aD Z2 (aG Z (R_nil ?_)))))))))
    refine N_lp (hJ:=⟨k+1,some k,_,Z,hle1,H,?inv,Z⟩) (hm:=?hm)
    case hm=>omega
    case inv=>exact⟨by omega,by rw[Sp.last_succ,←hall,Sp.lastF,hch3,if_pos (congrArg some (Sp.is47 oM))]⟩
   intro hc4'
   try simp only[nrm]at hc4'
   refine W_skip (N_B (N_K (W_region (mV Z (aD Z2 (aG Z (R_nil ?_)))))))
   refine N_lp (hJ:=⟨k+1,o,_,Z,hle1,H,?inv,Z⟩) (hm:=?hm)
   case hm=>omega
   case inv=>exact⟨by omega,by rw[Sp.last_succ,←hall,Sp.lastF,hch3,if_neg (Sp.not47 oM)]⟩
  intro hc2'
  try simp only[nrm]at hc2'
  refine W_exit (N_K_exit (N_LP_exit (N_B_same (N_K (q2 (pe 2 Z (q3 (W_ret (rt1 results201 Z ?_)))))))))
  obtain rfl:k=path.length:=by omega
  exact H.rets (congrArg (Value.int .i64) (by rw[hall];rfl))
theorem l5Parent_c (w0:World)(path:Bs)(hpath:path.length≤16777216) :
  Calls Tryz.prog 162 #[str path] w0 (Rets w0 (str (Sp.l5Parent path))):=by
 have hl:=Sp.l1Last_le path
 have H:=Hp.init0 w0
 refine calls_of_W (l:=[str path]) func162 Z ntmps162 Z (q2 (aG Z (q1 (pe 2 Z (xr H Z2 (l1Last_c _ _ hpath) ?_)))));intro _ H
 refine o_max Z Z Z (o_slice_str_to underlying9 Z Z Z oM oM (aG Z (q3 (W_ret (rt1 results162 Z ?_)))))
 exact H.rets Z
theorem l5At_c (w0:World)(G0:PH)(hG:PSub G0 w0)(vlist:Value)(list:List (BItem))(hlist:RdItems G0 vlist list)(path:Bs)(hpath:path.length≤16777216) :
  Calls Tryz.prog 121 #[vlist,str path] w0 (Rets w0 (.int .i64 (Sp.l5At list path))):=by
 obtain⟨alist,klist,rfl⟩:=hlist.shape
 have hlimlist:list.length≤1099511627776:=hlist.lim
 have H:=Hp.init hG
 refine calls_of_W (l:=[.slice alist list.length klist,str path]) func121 Z ntmps121 Z (q2 (aG Z (q3 (W_seq (q2 (aG Z (q3 (W_block ?_))))))))
 refine W_lp (hf:=(Sub.cons (t:=0) Z (Sub.cons (t:=1) Z Sub.nil))) (J:=fun M w m=>∃(k:Nat) (G:PH),M=[(5,.int .i64 (k:Int))]∧PLe G0 G∧Hp w0 G0 [] w G []∧(k≤list.length∧(∀j,j<k→∀y,list[j]? = some y→decide (y.path=path)=false))∧m=(list.length-k)) (h0:=⟨0,_,Z,PLe.refl _,H,?inv,Z⟩) (round:=?round)
 case inv=>exact⟨by omega,fun j hj=>by omega⟩
 case round =>
  rintro _ _ _ ⟨k,_,rfl,hle1,H,hinv1,rfl⟩
  have hlist:=hlist.up hle1
  obtain⟨_,hall⟩:=hinv1
  refine W_seq (q2 (pe 2 Z (lN Z (pe 1 Z (q3 ?_)))))
  refine W_cond Z ?_ ?_
  ·intro hc2
   try simp only[nrm]at hc2
   refine W_skip (N_K (W_seq (W_block (q2 (pe 2 Z (iP k hlist Z3 Z ?_))))));intro _ _ _ _ hz3 hE3 hrow3
   obtain⟨_,_,_,rfl,_,_,_,_⟩:=ox hE3
   refine fA 0 Z (lP H hrow3 0 Z2 (mV Z (o_seql Z Z Z (q3 ?_))))
   refine W_cond Z ?_ ?_
   ·intro hc4
    try simp only[nrm]at hc4
    refine q2 (pe 2 Z (q3 (W_ret (N_B_ret (N_K_ret (N_LP_ret (N_B_ret (N_K_ret (rt1 results121 Z ?_)))))))))
    exact H.rets (congrArg (Value.int .i64) (by rw[Sp.l5At,Sp.atI,Sp.find_at hall hz3 (by simp;exact hc4)];rfl))
   intro hc4'
   try simp only[nrm]at hc4'
   refine W_skip (N_B (N_K (W_region (mV Z (aD Z2 (aG Z (R_nil ?_)))))))
   refine N_lp (hJ:=⟨k+1,_,Z,hle1,H,?inv,Z⟩) (hm:=?hm)
   case hm=>omega
   case inv=>exact⟨by omega,Sp.none_succ hall hz3 (by simp;exact hc4')⟩
  intro hc2'
  try simp only[nrm]at hc2'
  refine W_exit (N_K_exit (N_LP_exit (N_B_same (N_K (q2 (aG Z (q3 (W_ret (rt1 results121 Z ?_)))))))))
  exact H.rets (congrArg (Value.int .i64) (by rw[Sp.l5At,Sp.atI,Sp.find_none hall oM];rfl))
theorem l5Home_c (w0:World)(G0:PH)(hG:PSub G0 w0)(vlist:Value)(list:List (BItem))(hlist:RdItems G0 vlist list)(path:Bs)(hpath:path.length≤16777216) :
  Calls Tryz.prog 127 #[vlist,str path] w0 (Rets w0 (.bool (Sp.l5Home list path))):=by
 obtain⟨alist,klist,rfl⟩:=hlist.shape
 have hlimlist:list.length≤1099511627776:=hlist.lim
 have H:=Hp.init hG
 refine calls_of_W (l:=[.slice alist list.length klist,str path]) func127 Z ntmps127 Z (q2 (aG Z (q1 (mV Z (xr H Z2 (l5Parent_c _ _ hpath) ?_)))));intro _ H
 refine aG Z (q1 (pe 2 Z ?_))
 refine xr H Z2 (l5At_c _ _ H.sub _ _ hlist _ (by (first|assumption|(refine Sp.l5Parent_lim ?_;assumption)|(simp;done)|(simp;omega)|omega))) ?_;intro _ H
 refine aG Z (q1 (mV Z (o_seql Z Z Z (mV Z ?_))))
 refine R_case (t:=14) Z ?_ ?_
 ·intro hc3
  try simp only[nrm]at hc3
  refine pe 3 Z (R_pass Z (yl_un Z Z) (R_pass Z (yl_un Z Z) (R_pass Z (yl_un Z Z) (R_pass Z (yl_un Z Z) (R_pass Z (yl_un Z Z) (pe 3 Z (q3 (W_ret (rt1 results127 Z ?_)))))))))
  exact H.rets (congrArg Value.bool (by simp[Sp.l5Home,hc3]))
 intro hc3'
 try simp only[nrm]at hc3'
 refine pe 3 Z ?_
 refine R_case (t:=17) Z ?_ ?_
 ·intro hc4
  try simp only[nrm]at hc4
  obtain⟨i,_,hi1,hi2,_,_,hi5⟩:=Sp.at_nat hc4
  refine pe 2 Z (gR Z (iP i hlist Z3 hi2 ?_));intro _ _ _ _ hz5 hE5 hrow5
  obtain⟨_,_,_,rfl,hi5,_,_,_⟩:=ox hE5
  refine gR Z (fA 1 Z (gR Z (lP H hrow5 1 Z2 (pe 3 Z (q3 (W_ret (rt1 results127 Z ?_)))))))
  exact H.rets (congrArg Value.bool (by simp[Sp.l5Home,hc3',Sp.atI,hi1,hz5]))
 intro hc4'
 try simp only[nrm]at hc4'
 refine pe 8 Z (q3 (W_ret (rt1 results127 Z ?_)))
 exact H.rets (congrArg Value.bool (by simp[Sp.l5Home,hc3',Sp.atI,Sp.at_none hc4']))
theorem l5Item_c (w0:World)(G0:PH)(hG:PSub G0 w0)(cx:List Value)(x:BItem)(hx:itemE G0 x cx) :
  Calls Tryz.prog 126 #[.agg cx.toArray] w0 (Rets w0 (.bool (Sp.l5Item x))):=by
 obtain⟨_,_,_,rfl,hi1,hr1,_,_⟩:=ox hx
 have H:=Hp.init hG
 refine calls_of_W (l:=[_]) func126 Z ntmps126 Z (q2 (o_box H Z Z Z ?_));intro b2 _ _ H
 refine aG Z (q3 (W_seq (q2 (aG Z (q3 (W_block ?_))))))
 obtain⟨ln3,hln3,H⟩:=H.name (k:=0) rfl
 refine W_lp (hf:=(Sub.cons (t:=1) Z Sub.nil)) (J:=fun M w m=>∃(k:Nat) (G:PH),M=[(3,.int .i64 (k:Int))]∧PLe G0 G∧Hp w0 G0 [] w G [blk b2 (cl ln3 51)]∧(k≤x.ids.length∧(x.ids.take k).all (Sp.idOk x.dir)=true)∧m=(x.ids.length-k)) (h0:=⟨0,_,Z,PLe.refl _,H,?inv,Z⟩) (round:=?round)
 case inv=>exact⟨by omega,by simp⟩
 case round =>
  rintro _ _ _ ⟨k,_,rfl,hle4,H,hinv4,rfl⟩
  subst hln3
  have hr1:=hr1.up hle4
  obtain⟨_,hall⟩:=hinv4
  refine W_seq (q2 (mV Z (fA 2 Z (lB 0 H Z3 (lN Z (pe 1 Z (q3 ?_)))))))
  refine W_cond Z ?_ ?_
  ·intro hc5
   try simp only[nrm]at hc5
   refine W_skip (N_K (W_seq (W_block (q2 (fA 1 Z (lB 0 H Z3 (mV Z ?_)))))))
   refine R_case (t:=13) Z ?_ ?_
   ·intro hc6
    try simp only[nrm]at hc6
    refine pe 8 Z (q3 (W_true Z (q2 (aG Z (q3 (W_ret (N_B_ret (N_K_ret (N_LP_ret (N_B_ret (N_K_ret (rt1 results126 Z ?_))))))))))))
    exact H.rets (congrArg Value.bool (by rw[Sp.l5Item,Sp.all_false (c:=x.ids[k]) (List.getElem?_eq_getElem oM) (by simp[Sp.idOk,hc6])];rfl))
   intro hc6'
   try simp only[nrm]at hc6'
   refine gR Z (fA 2 Z (gR Z (lB 0 H Z3 (pe 1 Z (gR Z (iP k hr1 Z3 Z ?_))))));intro _ _ _ _ hz7 hE7 hrow7
   obtain⟨rfl,_⟩:=hE7
   refine gR Z (lP H hrow7 0 Z2 (gR Z (xr H Z2 (l6In_c _ _ _ _) ?_)));intro _ H
   refine pe 2 Z (q3 ?_)
   refine W_cond Z ?_ ?_
   ·intro hc9
    try simp only[nrm]at hc9
    refine q2 (aG Z (q3 (W_ret (N_B_ret (N_K_ret (N_LP_ret (N_B_ret (N_K_ret (rt1 results126 Z ?_)))))))))
    exact H.rets (congrArg Value.bool (by rw[Sp.l5Item,Sp.all_false hz7 (by simp[Sp.idOk, *])];rfl))
   intro hc9'
   try simp only[nrm]at hc9'
   refine W_skip (N_B (N_K (W_region (mV Z (aD Z2 (aG Z (R_nil ?_)))))))
   refine N_lp (hJ:=⟨k+1,_,Z,hle4,H,?inv,Z⟩) (hm:=?hm)
   case hm=>omega
   case inv=>exact⟨by omega,Sp.all_take hall hz7 (by simp[Sp.idOk, *])⟩
  intro hc5'
  try simp only[nrm]at hc5'
  refine W_exit (N_K_exit (N_LP_exit (N_B_same (N_K (q2 (fA 0 Z (lB 0 H Z3 (xr H Z2 (PathValid_c _ _ H.sub _ hi1) ?_))))))));intro _ H
  refine mV Z ?_
  refine R_case (t:=25) Z ?_ ?_
  ·intro hc12
   try simp only[nrm]at hc12
   refine gR Z (fA 2 Z (gR Z (lB 0 H Z3 (gR Z (lN Z (pe 3 Z (q3 (W_ret (rt1 results126 Z ?_)))))))))
   obtain rfl:k=x.ids.length:=by omega
   rw[List.take_length]at hall
   exact H.rets (congrArg Value.bool (by simp only[Sp.l5Item,hall,hc12,Bool.true_and];rw[Bool.eq_iff_iff];simp;omega))
  intro hc12'
  try simp only[nrm]at hc12'
  refine pe 6 Z (q3 (W_ret (rt1 results126 Z ?_)))
  exact H.rets (congrArg Value.bool (by simp[Sp.l5Item,hc12']))
theorem TreeValid_c (w0:World)(G0:PH)(hG:PSub G0 w0)(vlist:Value)(list:List (BItem))(hlist:RdItems G0 vlist list) :
  Calls Tryz.prog 72 #[vlist] w0 (Rets w0 (.bool (Sp.TreeValid list))):=by
 obtain⟨alist,klist,rfl⟩:=hlist.shape
 have hlimlist:list.length≤1099511627776:=hlist.lim
 have H:=Hp.init hG
 refine calls_of_W (l:=[.slice alist list.length klist]) func72 Z ntmps72 Z (q2 (aG Z (q3 (W_seq (q2 (aG Z (q3 (W_block ?_))))))))
 refine W_lp (hf:=(Sub.cons (t:=0) Z Sub.nil)) (J:=fun M w m=>∃(k:Nat) (G:PH),M=[(3,.int .i64 (k:Int))]∧PLe G0 G∧Hp w0 G0 [] w G []∧(k≤list.length∧∀j,j<k→Sp.okT list j=true)∧m=(list.length-k)) (h0:=⟨0,_,Z,PLe.refl _,H,?inv,Z⟩) (round:=?round)
 case inv=>exact⟨by omega,fun j hj=>by omega⟩
 case round =>
  rintro _ _ _ ⟨k,G1,rfl,hle1,H,hinv1,rfl⟩
  have hlist:=hlist.up hle1
  obtain⟨_,hall⟩:=hinv1
  refine W_seq (q2 (pe 2 Z (lN Z (pe 1 Z (q3 ?_)))))
  refine W_cond Z ?_ ?_
  ·intro hc2
   try simp only[nrm]at hc2
   refine W_skip (N_K (W_seq (W_block (W_seq (W_drawK [] 34 H kR Z ?_)))));intro _ H;have hd3:=PLe.refl G1
   refine dE 0 Z2 (dE 1 Z2 ?_)
   have hl4:=hlist.len
   obtain⟨_,_,z4,q4,ha4,hz4,hq4,hE4,hrow4,_⟩:=hlist.at (i:=k) oM
   clear hq4
   obtain⟨_,_,_,rfl,hi4,hr4,_,_⟩:=ox hE4
   refine dI 2 3 k ha4 Z3 Z (RD_t 3 Z kR Z (fun _ hK=>v_loadagg_P hK isAgg51 sizeOf51 Z hrow4 Z) (r1 4 Z (xr H Z2 (l5Item_c _ _ H.sub _ _ ⟨_,_,_,Z,hi4,hr4⟩) ?_)));intro _ H
   refine q4 H hd3 (dE 5 Z2 (dE 6 Z2 ?_))
   refine RD_case (t:=16) Z ?_ ?_
   ·intro hc6
    try simp only[nrm]at hc6
    refine dE 7 Z2 (dE 8 Z2 (dE 9 Z2 (RD_pass 10 Z kR kR kR Z (yl_un Z Z) (RD_pass 11 Z kR kR kR Z (yl_un Z Z) (RD_pass 12 Z kR kR kR Z (yl_un Z Z) (RD_pass 13 Z kR kR kR Z (yl_un Z Z) (RD_pass 14 Z kR kR kR Z (yl_un Z Z) (RD_pass 15 Z kR kR kR Z (yl_un Z Z) (RD_pass 16 Z kR kR kR Z (yl_un Z Z) (RD_pass 17 Z kR kR kR Z (yl_un Z Z) (RD_pass 18 Z kR kR kR Z (yl_un Z Z) (RD_pass 19 Z kR kR kR Z (yl_un Z Z) (RD_pass 20 Z kR kR kR Z (yl_un Z Z) (RD_pass 21 Z kR kR kR Z (yl_un Z Z) (dE 22 Z2 ?_)))))))))))))))
    refine dE 23 Z2 (dE 24 Z2 (dE 25 Z2 (dE 26 Z2 (dE 27 Z2 (dE 28 Z2 (dE 29 Z2 (dE 30 Z2 (dE 31 Z2 (dE 32 Z2 (dE 33 Z2 (rz (N_K (W_true Z (q2 (aG Z ?_)))))))))))))))
    refine q3 (W_ret (N_B_ret (N_K_ret (N_LP_ret (N_B_ret (N_K_ret (rt1 results72 Z ?_)))))))
    exact H.rets (congrArg Value.bool (by rw[Sp.TreeValid,Sp.not_all_range (k:=k) oM (by rw[Sp.okT_at hz4];simp[Sp.prevLt, *])];rfl))
   intro hc6'
   try simp only[nrm]at hc6'
   refine dE 7 Z2 (dE 8 Z2 (dE 9 Z2 ?_))
   refine RD_case (t:=19) Z ?_ ?_
   ·intro hc7
    try simp only[nrm]at hc7
    have hk0:k≠0:=by omega
    refine dE 10 Z2 (dE 11 Z2 (RD_tg 12 Z kR Z (yl Z Z) (fun _ hK=>v_sub Z Z oO) ?_))
    have hl9:=hlist.len
    obtain⟨_,_,_,_,ha9,_,hq9,hE9,hrow9,_⟩:=hlist.at (i:=(k-1)) oM
    clear hq9
    obtain⟨_,_,_,rfl,_,_,_,_⟩:=ox hE9
    refine dI 13 3 (k-1) ha9 Z3 oM (dF 14 0 Z2 (dP 15 hrow9 0 Z3 (dE 16 Z2 (dE 17 Z2 ?_))))
    have hl10:=hlist.len
    obtain⟨_,_,z10,_,ha10,hz10,hq10,hE10,hrow10,_⟩:=hlist.at (i:=k) oM
    clear hq10
    obtain⟨_,_,_,rfl,_,_,_,_⟩:=ox hE10
    have hzz10:z4=z10:=Option.some.inj (hz4.symm.trans hz10)
    subst hzz10
    refine dI 18 3 k ha10 Z3 Z (dF 19 0 Z2 (dP 20 hrow10 0 Z3 (RD_tg 21 Z kR Z (yl Z Z) (fun _ hK=>v_sgeq Z Z) (dE 22 Z2 (dE 23 Z2 (dE 24 Z2 ?_))))))
    refine RD_case (t:=34) Z ?_ ?_
    ·intro hc11
     try simp only[nrm]at hc11
     refine dE 25 Z2 (dE 26 Z2 (dE 27 Z2 (dE 28 Z2 (dE 29 Z2 (dE 30 Z2 (dE 31 Z2 (dE 32 Z2 (dE 33 Z2 (rz (N_K (W_true Z (q2 (aG Z (q3 (W_ret ?_)))))))))))))))
     refine N_B_ret (N_K_ret (N_LP_ret (N_B_ret (N_K_ret (rt1 results72 Z ?_)))))
     exact H.rets (congrArg Value.bool (by rw[Sp.TreeValid,Sp.not_all_range (k:=k) oM (by rw[Sp.okT_at hz4];simp[Sp.prevLt, *])];rfl))
    intro hc11'
    try simp only[nrm]at hc11'
    refine dE 25 Z2 (dE 26 Z2 (dE 27 Z2 ?_))
    have hl12:=hlist.len
    obtain⟨_,_,z12,_,ha12,hz12,hq12,hE12,hrow12,_⟩:=hlist.at (i:=k) oM
    clear hq12
    obtain⟨_,_,_,rfl,hi12,_,_,_⟩:=ox hE12
    have hzz12:z4=z12:=Option.some.inj (hz4.symm.trans hz12)
    subst hzz12
    refine dI 28 3 k ha12 Z3 Z (dF 29 0 Z2 (dP 30 hrow12 0 Z3 (r1 31 Z (gR Z (xr H Z2 (l5Home_c _ _ H.sub _ _ hlist _ hi12) ?_)))));intro _ H
    refine q4 H hd3 (dE 32 Z2 (dE 33 Z2 (rz (N_K ?_))))
    refine W_cond Z ?_ ?_
    ·intro hc14
     try simp only[nrm]at hc14
     refine q2 (aG Z (q3 (W_ret (N_B_ret (N_K_ret (N_LP_ret (N_B_ret (N_K_ret (rt1 results72 Z ?_)))))))))
     exact H.rets (congrArg Value.bool (by rw[Sp.TreeValid,Sp.not_all_range (k:=k) oM (by rw[Sp.okT_at hz4];simp[Sp.prevLt, *])];rfl))
    intro hc14'
    try simp only[nrm]at hc14'
    refine W_skip (N_B (N_K (W_region (mV Z (aD Z2 (aG Z (R_nil ?_)))))))
    refine N_lp (hJ:=⟨k+1,_,Z,hle1,H,?inv,Z⟩) (hm:=?hm)
    case hm=>omega
    case inv=>exact⟨by omega,Sp.upto_succ hall (by rw[Sp.okT_at hz4];simp[Sp.prevLt, *])⟩
   intro hc7'
   try simp only[nrm]at hc7'
   have hk0:k=0:=by omega
   refine dE 10 Z2 (dE 11 Z2 (dE 12 Z2 (dE 13 Z2 (dE 14 Z2 (dE 15 Z2 (dE 16 Z2 (dE 17 Z2 (dE 18 Z2 (dE 19 Z2 (dE 20 Z2 (dE 21 Z2 (dE 22 Z2 (dE 23 Z2 (dE 24 Z2 (dE 25 Z2 ?_)))))))))))))))
   refine dE 26 Z2 (dE 27 Z2 ?_)
   have hl16:=hlist.len
   obtain⟨_,_,z16,_,ha16,hz16,hq16,hE16,hrow16,_⟩:=hlist.at (i:=k) oM
   clear hq16
   obtain⟨_,_,_,rfl,hi16,_,_,_⟩:=ox hE16
   have hzz16:z4=z16:=Option.some.inj (hz4.symm.trans hz16)
   subst hzz16
   refine dI 28 3 k ha16 Z3 Z (dF 29 0 Z2 (dP 30 hrow16 0 Z3 (r1 31 Z (gR Z (xr H Z2 (l5Home_c _ _ H.sub _ _ hlist _ hi16) ?_)))));intro _ H
   refine q4 H hd3 (dE 32 Z2 (dE 33 Z2 (rz (N_K ?_))))
   refine W_cond Z ?_ ?_
   ·intro hc18
    try simp only[nrm]at hc18
    refine q2 (aG Z (q3 (W_ret (N_B_ret (N_K_ret (N_LP_ret (N_B_ret (N_K_ret (rt1 results72 Z ?_)))))))))
    exact H.rets (congrArg Value.bool (by rw[Sp.TreeValid,Sp.not_all_range (k:=k) oM (by rw[Sp.okT_at hz4];simp[Sp.prevLt, *])];rfl))
   intro hc18'
   try simp only[nrm]at hc18'
   refine W_skip (N_B (N_K (W_region (mV Z (aD Z2 (aG Z (R_nil ?_)))))))
   refine N_lp (hJ:=⟨k+1,_,Z,hle1,H,?inv,Z⟩) (hm:=?hm)
   case hm=>omega
   case inv=>exact⟨by omega,Sp.upto_succ hall (by rw[Sp.okT_at hz4];simp[Sp.prevLt, *])⟩
  intro hc2'
  try simp only[nrm]at hc2'
  refine W_exit (N_K_exit (N_LP_exit (N_B_same (N_K (q2 (mV Z (lN Z (pe 2 Z (q3 (W_ret (rt1 results72 Z ?_)))))))))))
  exact H.rets (congrArg Value.bool (by rw[Sp.TreeValid,Sp.all_range (fun j hj=>hall j oM),Bool.true_and];rw[Bool.eq_iff_iff];simp;omega))
theorem l2Same_c (w0:World)(G0:PH)(hG:PSub G0 w0)(va:Value)(a:List (Int))(ha:RdI G0 va a)(vb:Value)(b:List (Int))(hb:RdI G0 vb b) :
  Calls Tryz.prog 125 #[va,vb] w0 (Rets w0 (.bool (Sp.l2Same a b))):=by
 obtain⟨aa,ka,rfl⟩:=ha.shape
 have hlima:a.length≤1099511627776:=ha.lim
 obtain⟨ab,kb,rfl⟩:=hb.shape
 have hlimb:b.length≤1099511627776:=hb.lim
 have H:=Hp.init hG
 refine calls_of_W (l:=[.slice aa a.length ka,.slice ab b.length kb]) func125 Z ntmps125 Z (q2 (aG Z (q3 (W_seq (q2 (mV Z (lN Z (mV Z (lN Z (pe 1 Z (q3 ?_)))))))))))
 refine W_cond Z ?_ ?_
 ·intro hc1
  try simp only[nrm]at hc1
  refine q2 (aG Z (q3 (W_ret (N_K_ret (rt1 results125 Z ?_)))))
  exact H.rets (congrArg Value.bool (by unfold Sp.l2Same;exact Sp.ne_len oM))
 intro hc1'
 try simp only[nrm]at hc1'
 refine W_skip (N_K (W_seq (q2 (aG Z (q3 (W_block ?_))))))
 refine W_lp (hf:=(Sub.cons (t:=0) Z (Sub.cons (t:=1) Z Sub.nil))) (J:=fun M w m=>∃(k:Nat) (G:PH),M=[(5,.int .i64 (k:Int))]∧PLe G0 G∧Hp w0 G0 [] w G []∧(k≤a.length∧a.take k=b.take k)∧m=(a.length-k)) (h0:=⟨0,_,Z,PLe.refl _,H,?inv,Z⟩) (round:=?round)
 case inv=>exact⟨by omega,by simp⟩
 case round =>
  rintro _ _ _ ⟨k,G2,rfl,hle2,H,hinv2,rfl⟩
  have ha:=ha.up hle2
  have hb:=hb.up hle2
  obtain⟨_,hall⟩:=hinv2
  refine W_seq (q2 (pe 2 Z (lN Z (pe 1 Z (q3 ?_)))))
  refine W_cond Z ?_ ?_
  ·intro hc3
   try simp only[nrm]at hc3
   refine W_skip (N_K (W_seq (W_block (W_seq (W_drawK [] 9 H kR Z ?_)))));intro _ H;have hd4:=PLe.refl G2
   refine dE 0 Z2 (dE 1 Z2 ?_)
   have hl5:=ha.len
   obtain⟨_,_,_,_,ha5,hz5,hq5,hE5,hrow5,_⟩:=ha.at (i:=k) oM
   clear hq5
   obtain⟨rfl,_⟩:=hE5
   refine dI 2 1 k ha5 Z3 Z (dP 3 hrow5 0 Z3 (dE 4 Z2 (dE 5 Z2 ?_)))
   have hl6:=hb.len
   obtain⟨_,_,_,_,ha6,hz6,hq6,hE6,hrow6,_⟩:=hb.at (i:=k) oM
   clear hq6
   obtain⟨rfl,_⟩:=hE6
   refine dI 6 1 k ha6 Z3 Z (dP 7 hrow6 0 Z3 (dE 8 Z2 (rz (N_K ?_))))
   refine W_cond Z ?_ ?_
   ·intro hc7
    try simp only[nrm]at hc7
    refine q2 (aG Z (q3 (W_ret (N_B_ret (N_K_ret (N_LP_ret (N_B_ret (N_K_ret (rt1 results125 Z ?_)))))))))
    exact H.rets (congrArg Value.bool (by unfold Sp.l2Same;exact Sp.ne_at hz5 hz6 oM))
   intro hc7'
   try simp only[nrm]at hc7'
   refine W_skip (N_B (N_K (W_region (mV Z (aD Z2 (aG Z (R_nil ?_)))))))
   refine N_lp (hJ:=⟨k+1,_,Z,hle2,H,?inv,Z⟩) (hm:=?hm)
   case hm=>omega
   case inv=>exact⟨by omega,Sp.take_eq hall hz5 (by rw[hz6];congr 1;omega)⟩
  intro hc3'
  try simp only[nrm]at hc3'
  refine W_exit (N_K_exit (N_LP_exit (N_B_same (N_K (q2 (aG Z (q3 (W_ret (rt1 results125 Z ?_)))))))))
  exact H.rets (congrArg Value.bool (by unfold Sp.l2Same;exact Sp.eq_all hall oM oM))
theorem BlockValid_c (w0:World)(G0:PH)(hG:PSub G0 w0)(vbytes:Value)(bytes:List (Int))(hbytes:RdI G0 vbytes bytes) :
  Calls Tryz.prog 124 #[vbytes] w0 (Rets w0 (.bool (Sp.BlockValid bytes))):=by
 obtain⟨abytes,kbytes,rfl⟩:=hbytes.shape
 have hlimbytes:bytes.length≤1099511627776:=hbytes.lim
 have H:=Hp.init hG
 refine calls_of_W (l:=[.slice abytes bytes.length kbytes]) func124 Z ntmps124 Z (q2 (aG Z (q3 (W_seq (q2 (aG Z (q3 (W_block ?_))))))))
 refine W_lp (hf:=(Sub.cons (t:=0) Z Sub.nil)) (J:=fun M w m=>∃(k:Nat) (G:PH),M=[(3,.int .i64 (k:Int))]∧PLe G0 G∧Hp w0 G0 [] w G []∧(k≤bytes.length∧(bytes.take k).all Sp.byteOk=true)∧m=(bytes.length-k)) (h0:=⟨0,_,Z,PLe.refl _,H,?inv,Z⟩) (round:=?round)
 case inv=>exact⟨by omega,by simp⟩
 case round =>
  rintro _ _ _ ⟨k,_,rfl,hle1,H,hinv1,rfl⟩
  have hbytes:=hbytes.up hle1
  obtain⟨_,hall⟩:=hinv1
  refine W_seq (q2 (pe 2 Z (lN Z (pe 1 Z (q3 ?_)))))
  refine W_cond Z ?_ ?_
  ·intro hc2
   try simp only[nrm]at hc2
   refine W_skip (N_K (W_seq (W_block (q2 (pe 2 Z (iP k hbytes Z3 Z ?_))))));intro _ _ _ _ hz3 hE3 hrow3
   obtain⟨rfl,_⟩:=hE3
   refine lP H hrow3 0 Z2 (xr H Z2 (l6In_c _ _ _ _) ?_);intro _ H
   refine pe 1 Z (q3 ?_)
   refine W_cond Z ?_ ?_
   ·intro hc5
    try simp only[nrm]at hc5
    refine q2 (aG Z (q3 (W_ret (N_B_ret (N_K_ret (N_LP_ret (N_B_ret (N_K_ret (rt1 results124 Z ?_)))))))))
    exact H.rets (congrArg Value.bool (by rw[Sp.BlockValid,Sp.all_false hz3 (by simp[Sp.byteOk, *])];rfl))
   intro hc5'
   try simp only[nrm]at hc5'
   refine W_skip (N_B (N_K (W_region (mV Z (aD Z2 (aG Z (R_nil ?_)))))))
   refine N_lp (hJ:=⟨k+1,_,Z,hle1,H,?inv,Z⟩) (hm:=?hm)
   case hm=>omega
   case inv=>exact⟨by omega,Sp.all_take hall hz3 (by simp[Sp.byteOk, *])⟩
  intro hc2'
  try simp only[nrm]at hc2'
  refine W_exit (N_K_exit (N_LP_exit (N_B_same (N_K (q2 (mV Z (lN Z (xr H Z2 (l6In_c _ _ _ _) ?_))))))));intro _ H
  refine aG Z (q3 (W_ret (rt1 results124 Z ?_)))
  obtain rfl:k=bytes.length:=by omega
  rw[List.take_length]at hall
  exact H.rets (congrArg Value.bool (by simp only[Sp.BlockValid,hall,Bool.true_and]))
theorem StoreValid_c (w0:World)(G0:PH)(hG:PSub G0 w0)(vlist:Value)(list:List (BHeld))(hlist:RdH G0 vlist list) :
  Calls Tryz.prog 71 #[vlist] w0 (Rets w0 (.bool (Sp.StoreValid list))):=by
 obtain⟨alist,klist,rfl⟩:=hlist.shape
 have hlimlist:list.length≤1099511627776:=hlist.lim
 have H:=Hp.init hG
 refine calls_of_W (l:=[.slice alist list.length klist]) func71 Z ntmps71 Z (q2 (aG Z (q3 (W_seq (q2 (aG Z (q3 (W_block ?_))))))))
 refine W_lp (hf:=(Sub.cons (t:=0) Z Sub.nil)) (J:=fun M w m=>∃(k:Nat) (G:PH),M=[(3,.int .i64 (k:Int))]∧PLe G0 G∧Hp w0 G0 [] w G []∧(k≤list.length∧∀j,j<k→Sp.okH list j=true)∧m=(list.length-k)) (h0:=⟨0,_,Z,PLe.refl _,H,?inv,Z⟩) (round:=?round)
 case inv=>exact⟨by omega,fun j hj=>by omega⟩
 case round =>
  rintro _ _ _ ⟨k,G1,rfl,hle1,H,hinv1,rfl⟩
  have hlist:=hlist.up hle1
  obtain⟨_,hall⟩:=hinv1
  refine W_seq (q2 (pe 2 Z (lN Z (pe 1 Z (q3 ?_)))))
  refine W_cond Z ?_ ?_
  ·intro hc2
   try simp only[nrm]at hc2
   refine W_skip (N_K (W_seq (W_block (q2 (pe 2 Z (iP k hlist Z3 Z ?_))))));intro _ _ z3 _ hz3 hE3 hrow3
   obtain⟨_,_,_,rfl,_,hr3,_,_,_⟩:=ox hE3
   refine o_loadagg_P H isAgg113 sizeOf113 Z Z hrow3 Z (xal H Z ?_);intro b4 _ _ H
   refine xst 0 H Z8 ?_;intro _ H
   refine q3 (W_seq (W_seq (W_drawK [0] 31 H kR Z ?_)));intro _ H;have hd6:=PLe.refl G1
   refine dF 0 0 Z2 (dB 1 0 Z4 (r1 2 Z (xr H Z2 (l6In_c _ _ _ _) ?_)));intro _ H
   refine q4 H hd6 (dE 3 Z2 (dE 4 Z2 ?_))
   refine RD_case (t:=20) Z ?_ ?_
   ·intro hc8
    try simp only[nrm]at hc8
    refine dE 5 Z2 (dE 6 Z2 (dE 7 Z2 (dE 8 Z2 (dE 9 Z2 (dE 10 Z2 (dE 11 Z2 (dE 12 Z2 (dE 13 Z2 (dE 14 Z2 (dE 15 Z2 (dE 16 Z2 (dE 17 Z2 (dE 18 Z2 (dE 19 Z2 (RD_pass 20 Z kR kR kR Z (yl_un Z Z) ?_)))))))))))))))
    refine RD_pass 21 Z kR kR kR Z (yl_un Z Z) (RD_pass 22 Z kR kR kR Z (yl_un Z Z) (RD_pass 23 Z kR kR kR Z (yl_un Z Z) (RD_pass 24 Z kR kR kR Z (yl_un Z Z) (RD_pass 25 Z kR kR kR Z (yl_un Z Z) (RD_pass 26 Z kR kR kR Z (yl_un Z Z) (RD_pass 27 Z kR kR kR Z (yl_un Z Z) (RD_pass 28 Z kR kR kR Z (yl_un Z Z) (dE 29 Z2 (dE 30 Z2 (rz (N_K (W_true Z (q2 (aG Z (q3 ?_)))))))))))))))
    refine W_ret (N_K_ret (N_B_ret (N_K_ret (N_LP_ret (N_B_ret (N_K_ret (rt1 results71 Z ?_)))))))
    exact H.rets (congrArg Value.bool (by rw[Sp.StoreValid,Sp.not_all_range (k:=k) oM (by rw[Sp.okH_at hz3];simp[Sp.prevId, *])];rfl))
   intro hc8'
   try simp only[nrm]at hc8'
   refine dF 5 1 Z2 (dB 6 0 Z4 (r1 7 Z (gR Z (xr H Z2 (BlockValid_c _ _ H.sub _ _ hr3) ?_))));intro _ H
   refine q4 H hd6 (dE 8 Z2 (dE 9 Z2 (dE 10 Z2 ?_)))
   refine RD_case (t:=26) Z ?_ ?_
   ·intro hc10
    try simp only[nrm]at hc10
    refine dE 11 Z2 (dE 12 Z2 (dE 13 Z2 (dE 14 Z2 (dE 15 Z2 (dE 16 Z2 (dE 17 Z2 (dE 18 Z2 (dE 19 Z2 (RD_pass 20 Z kR kR kR Z (yl_un Z Z) (RD_pass 21 Z kR kR kR Z (yl_un Z Z) (RD_pass 22 Z kR kR kR Z (yl_un Z Z) (RD_pass 23 Z kR kR kR Z (yl_un Z Z) (RD_pass 24 Z kR kR kR Z (yl_un Z Z) (RD_pass 25 Z kR kR kR Z (yl_un Z Z) (RD_pass 26 Z kR kR kR Z (yl_un Z Z) ?_)))))))))))))))
    refine RD_pass 27 Z kR kR kR Z (yl_un Z Z) (RD_pass 28 Z kR kR kR Z (yl_un Z Z) (dE 29 Z2 (dE 30 Z2 (rz (N_K (W_true Z (q2 (aG Z (q3 (W_ret (N_K_ret (N_B_ret (N_K_ret (N_LP_ret (N_B_ret ?_)))))))))))))))
    refine N_K_ret (rt1 results71 Z ?_)
    exact H.rets (congrArg Value.bool (by rw[Sp.StoreValid,Sp.not_all_range (k:=k) oM (by rw[Sp.okH_at hz3];simp[Sp.prevId, *])];rfl))
   intro hc10'
   try simp only[nrm]at hc10'
   refine dF 11 2 Z2 (dB 12 0 Z4 (r1 13 Z (gR Z (xr H Z2 (l6In_c _ _ _ _) ?_))));intro _ H
   refine q4 H hd6 (dE 14 Z2 (dE 15 Z2 (dE 16 Z2 ?_)))
   refine RD_case (t:=32) Z ?_ ?_
   ·intro hc12
    try simp only[nrm]at hc12
    refine dE 17 Z2 (dE 18 Z2 (dE 19 Z2 (RD_pass 20 Z kR kR kR Z (yl_un Z Z) (RD_pass 21 Z kR kR kR Z (yl_un Z Z) (RD_pass 22 Z kR kR kR Z (yl_un Z Z) (RD_pass 23 Z kR kR kR Z (yl_un Z Z) (RD_pass 24 Z kR kR kR Z (yl_un Z Z) (RD_pass 25 Z kR kR kR Z (yl_un Z Z) (RD_pass 26 Z kR kR kR Z (yl_un Z Z) (RD_pass 27 Z kR kR kR Z (yl_un Z Z) (RD_pass 28 Z kR kR kR Z (yl_un Z Z) (dE 29 Z2 (dE 30 Z2 (rz (N_K ?_)))))))))))))))
    refine W_true Z (q2 (aG Z (q3 (W_ret (N_K_ret (N_B_ret (N_K_ret (N_LP_ret (N_B_ret (N_K_ret (rt1 results71 Z ?_)))))))))))
    exact H.rets (congrArg Value.bool (by rw[Sp.StoreValid,Sp.not_all_range (k:=k) oM (by rw[Sp.okH_at hz3];simp[Sp.prevId, *])];rfl))
   intro hc12'
   try simp only[nrm]at hc12'
   refine dE 17 Z2 (dE 18 Z2 (dE 19 Z2 ?_))
   refine RD_case (t:=35) Z ?_ ?_
   ·intro hc13
    try simp only[nrm]at hc13
    have hk0:k≠0:=by omega
    refine dE 20 Z2 (dE 21 Z2 (RD_tg 22 Z kR Z (yl Z Z) (fun _ hK=>v_sub Z Z oO) ?_))
    have hl15:=hlist.len
    obtain⟨_,_,_,_,ha15,_,hq15,hE15,hrow15,_⟩:=hlist.at (i:=(k-1)) oM
    clear hq15
    obtain⟨_,_,_,rfl,_,hr15,_,_,_⟩:=ox hE15
    refine dI 23 3 (k-1) ha15 Z3 oM (dF 24 0 Z2 (dP 25 hrow15 0 Z3 (dF 26 0 Z2 (dB 27 0 Z4 (dE 28 Z2 (dE 29 Z2 (dE 30 Z2 (rz (N_K ?_)))))))))
    refine W_cond Z ?_ ?_
    ·intro hc16
     try simp only[nrm]at hc16
     refine q2 (aG Z (q3 (W_ret (N_K_ret (N_B_ret (N_K_ret (N_LP_ret (N_B_ret (N_K_ret (rt1 results71 Z ?_))))))))))
     exact H.rets (congrArg Value.bool (by rw[Sp.StoreValid,Sp.not_all_range (k:=k) oM (by rw[Sp.okH_at hz3];simp[Sp.prevId, *];intro _;omega)];rfl))
    intro hc16'
    try simp only[nrm]at hc16'
    refine W_skip (N_K (q2 (aG Z (q3 (W_block ?_)))))
    obtain⟨ln17,hln17,H⟩:=H.name (k:=0) rfl
    refine W_lp (hf:=(Sub.cons (t:=0) Z (Sub.cons (t:=3) Z (Sub.cons (t:=4) Z Sub.nil)))) (J:=fun M w m=>∃(i:Nat) (G:PH),M=[(5,.int .i64 (i:Int))]∧PLe G1 G∧Hp w0 G0 [] w G [blk b4 (cl ln17 113)]∧(i≤k∧(list.take i).all (fun g=> !Sp.l2Same g.bytes z3.bytes)=true)∧m=(k-i)) (h0:=⟨0,_,Z,PLe.refl _,H,?inv,Z⟩) (round:=?round)
    case inv=>exact⟨by omega,by simp⟩
    case round =>
     rintro _ _ _ ⟨i,G18,rfl,hle18,H,hinv18,rfl⟩
     subst hln17
     have hlist:=hlist.up hle18
     have hr3:=hr3.up hle18
     have hle1:=hle1.trans hle18
     obtain⟨hi,hall2⟩:=hinv18
     refine W_seq (q2 (pe 3 Z (q3 ?_)))
     refine W_cond Z ?_ ?_
     ·intro hc19
      try simp only[nrm]at hc19
      refine W_skip (N_K (W_seq (W_block (W_seq (W_drawK [0] 8 H kR Z ?_)))));intro _ H;have hd20:=PLe.refl G18
      refine dE 0 Z2 (dE 1 Z2 ?_)
      have hl21:=hlist.len
      obtain⟨_,_,_,_,ha21,hz21,hq21,hE21,hrow21,_⟩:=hlist.at (i:=i) oM
      clear hq21
      obtain⟨_,_,_,rfl,_,hr21,_,_,_⟩:=ox hE21
      refine dI 2 3 i ha21 Z3 Z (dF 3 1 Z2 (dP 4 hrow21 1 Z3 (dF 5 1 Z2 (dB 6 0 Z4 (r1 7 Z (xr H Z2 (l2Same_c _ _ H.sub _ _ hr21 _ _ hr3) ?_))))));intro _ H
      refine q4 H hd20 (rz (N_K ?_))
      refine W_cond Z ?_ ?_
      ·intro hc23
       try simp only[nrm]at hc23
       refine q2 (aG Z (q3 (W_ret (N_B_ret (N_K_ret (N_LP_ret (N_B_ret (N_B_ret (N_K_ret (N_LP_ret (N_B_ret (N_K_ret (rt1 results71 Z ?_)))))))))))))
       exact H.rets (congrArg Value.bool (by rw[Sp.StoreValid,Sp.not_all_range (k:=k) oM (by rw[Sp.okH_at hz3,Sp.all_false (l:=list.take k) (k:=i) (by rw[List.getElem?_take,if_pos oM];exact hz21) (by simp[*])];simp)];rfl))
      intro hc23'
      try simp only[nrm]at hc23'
      refine W_skip (N_B (N_K (W_region (mV Z (aD Z2 (aG Z (R_nil ?_)))))))
      refine N_lp (hJ:=⟨i+1,_,Z,hle18,H,?inv,Z⟩) (hm:=?hm)
      case hm=>omega
      case inv=>exact⟨by omega,Sp.all_take hall2 hz21 (by simp[*])⟩
     intro hc19'
     try simp only[nrm]at hc19'
     refine W_exit (N_K_exit (N_LP_exit (N_B_same (N_B (N_K (W_region (mV Z (aD Z2 (aG Z (R_nil ?_))))))))))
     have H:=H.dl 0
     refine N_lp (hJ:=⟨k+1,_,Z,hle1,H,?inv,Z⟩) (hm:=?hm)
     case hm=>omega
     case inv=>exact⟨by omega,Sp.upto_succ hall (by (obtain rfl:i=k:=by omega);rw[Sp.okH_at hz3,hall2];simp[Sp.prevId, *])⟩
   intro hc13'
   try simp only[nrm]at hc13'
   have hk0:k=0:=by omega
   refine dE 20 Z2 (dE 21 Z2 (dE 22 Z2 (dE 23 Z2 (dE 24 Z2 (dE 25 Z2 (dE 26 Z2 (dE 27 Z2 (dE 28 Z2 (dE 29 Z2 (dE 30 Z2 (rz (N_K (W_false Z (W_skip (N_K ?_)))))))))))))))
   refine q2 (aG Z (q3 (W_block ?_)))
   obtain⟨ln26,hln26,H⟩:=H.name (k:=0) rfl
   refine W_lp (hf:=(Sub.cons (t:=0) Z (Sub.cons (t:=3) Z (Sub.cons (t:=4) Z Sub.nil)))) (J:=fun M w m=>∃(i:Nat) (G:PH),M=[(5,.int .i64 (i:Int))]∧PLe G1 G∧Hp w0 G0 [] w G [blk b4 (cl ln26 113)]∧(i≤k∧(list.take i).all (fun g=> !Sp.l2Same g.bytes z3.bytes)=true)∧m=(k-i)) (h0:=⟨0,_,Z,PLe.refl _,H,?inv,Z⟩) (round:=?round)
   case inv=>exact⟨by omega,by simp⟩
   case round =>
    rintro _ _ _ ⟨i,G27,rfl,hle27,H,hinv27,rfl⟩
    subst hln26
    have hlist:=hlist.up hle27
    have hr3:=hr3.up hle27
    have hle1:=hle1.trans hle27
    obtain⟨hi,hall2⟩:=hinv27
    refine W_seq (q2 (pe 3 Z (q3 ?_)))
    refine W_cond Z ?_ ?_
    ·intro hc28
     try simp only[nrm]at hc28
     refine W_skip (N_K (W_seq (W_block (W_seq (W_drawK [0] 8 H kR Z ?_)))));intro _ H;have hd29:=PLe.refl G27
     refine dE 0 Z2 (dE 1 Z2 ?_)
     have hl30:=hlist.len
     obtain⟨_,_,_,_,ha30,hz30,hq30,hE30,hrow30,_⟩:=hlist.at (i:=i) oM
     clear hq30
     obtain⟨_,_,_,rfl,_,hr30,_,_,_⟩:=ox hE30
     refine dI 2 3 i ha30 Z3 Z (dF 3 1 Z2 (dP 4 hrow30 1 Z3 (dF 5 1 Z2 (dB 6 0 Z4 (r1 7 Z (xr H Z2 (l2Same_c _ _ H.sub _ _ hr30 _ _ hr3) ?_))))));intro _ H
     refine q4 H hd29 (rz (N_K ?_))
     refine W_cond Z ?_ ?_
     ·intro hc32
      try simp only[nrm]at hc32
      refine q2 (aG Z (q3 (W_ret (N_B_ret (N_K_ret (N_LP_ret (N_B_ret (N_B_ret (N_K_ret (N_LP_ret (N_B_ret (N_K_ret (rt1 results71 Z ?_)))))))))))))
      exact H.rets (congrArg Value.bool (by rw[Sp.StoreValid,Sp.not_all_range (k:=k) oM (by rw[Sp.okH_at hz3,Sp.all_false (l:=list.take k) (k:=i) (by rw[List.getElem?_take,if_pos oM];exact hz30) (by simp[*])];simp)];rfl))
     intro hc32'
     try simp only[nrm]at hc32'
     refine W_skip (N_B (N_K (W_region (mV Z (aD Z2 (aG Z (R_nil ?_)))))))
     refine N_lp (hJ:=⟨i+1,_,Z,hle27,H,?inv,Z⟩) (hm:=?hm)
     case hm=>omega
     case inv=>exact⟨by omega,Sp.all_take hall2 hz30 (by simp[*])⟩
    intro hc28'
    try simp only[nrm]at hc28'
    refine W_exit (N_K_exit (N_LP_exit (N_B_same (N_B (N_K (W_region (mV Z (aD Z2 (aG Z (R_nil ?_))))))))))
    have H:=H.dl 0
    refine N_lp (hJ:=⟨k+1,_,Z,hle1,H,?inv,Z⟩) (hm:=?hm)
    case hm=>omega
    case inv=>exact⟨by omega,Sp.upto_succ hall (by (obtain rfl:i=k:=by omega);rw[Sp.okH_at hz3,hall2];simp[Sp.prevId, *])⟩
  intro hc2'
  try simp only[nrm]at hc2'
  refine W_exit (N_K_exit (N_LP_exit (N_B_same (N_K (q2 (mV Z (lN Z (pe 2 Z (q3 (W_ret (rt1 results71 Z ?_)))))))))))
  exact H.rets (congrArg Value.bool (by rw[Sp.StoreValid,Sp.all_range (fun j hj=>hall j oM),Bool.true_and];rw[Bool.eq_iff_iff];simp;omega))
theorem l3At_c (w0:World)(G0:PH)(hG:PSub G0 w0)(vlist:Value)(list:List (BHeld))(hlist:RdH G0 vlist list)(id:Int) :
  Calls Tryz.prog 132 #[vlist,.int .i64 id] w0 (Rets w0 (.int .i64 (Sp.l3At list id))):=by
 obtain⟨alist,klist,rfl⟩:=hlist.shape
 have hlimlist:list.length≤1099511627776:=hlist.lim
 have H:=Hp.init hG
 refine calls_of_W (l:=[.slice alist list.length klist,.int .i64 id]) func132 Z ntmps132 Z (q2 (aG Z (q3 (W_seq (q2 (aG Z (q3 (W_block ?_))))))))
 refine W_lp (hf:=(Sub.cons (t:=0) Z (Sub.cons (t:=1) Z Sub.nil))) (J:=fun M w m=>∃(k:Nat) (G:PH),M=[(5,.int .i64 (k:Int))]∧PLe G0 G∧Hp w0 G0 [] w G []∧(k≤list.length∧(∀j,j<k→∀y,list[j]? = some y→decide (y.id=id)=false))∧m=(list.length-k)) (h0:=⟨0,_,Z,PLe.refl _,H,?inv,Z⟩) (round:=?round)
 case inv=>exact⟨by omega,fun j hj=>by omega⟩
 case round =>
  rintro _ _ _ ⟨k,_,rfl,hle1,H,hinv1,rfl⟩
  have hlist:=hlist.up hle1
  obtain⟨_,hall⟩:=hinv1
  refine W_seq (q2 (pe 2 Z (lN Z (pe 1 Z (q3 ?_)))))
  refine W_cond Z ?_ ?_
  ·intro hc2
   try simp only[nrm]at hc2
   refine W_skip (N_K (W_seq (W_block (q2 (pe 2 Z (iP k hlist Z3 Z ?_))))));intro _ _ _ _ hz3 hE3 hrow3
   obtain⟨_,_,_,rfl,_,_,_,_,_⟩:=ox hE3
   refine fA 0 Z (lP H hrow3 0 Z2 (pe 2 Z (q3 ?_)))
   refine W_cond Z ?_ ?_
   ·intro hc4
    try simp only[nrm]at hc4
    refine q2 (pe 2 Z (q3 (W_ret (N_B_ret (N_K_ret (N_LP_ret (N_B_ret (N_K_ret (rt1 results132 Z ?_)))))))))
    exact H.rets (congrArg (Value.int .i64) (by rw[Sp.l3At,Sp.atH,Sp.find_at hall hz3 (by simp;omega)];rfl))
   intro hc4'
   try simp only[nrm]at hc4'
   refine W_skip (N_B (N_K (W_region (mV Z (aD Z2 (aG Z (R_nil ?_)))))))
   refine N_lp (hJ:=⟨k+1,_,Z,hle1,H,?inv,Z⟩) (hm:=?hm)
   case hm=>omega
   case inv=>exact⟨by omega,Sp.none_succ hall hz3 (by simp;omega)⟩
  intro hc2'
  try simp only[nrm]at hc2'
  refine W_exit (N_K_exit (N_LP_exit (N_B_same (N_K (q2 (aG Z (q3 (W_ret (rt1 results132 Z ?_)))))))))
  exact H.rets (congrArg (Value.int .i64) (by rw[Sp.l3At,Sp.atH,Sp.find_none hall oM];rfl))
theorem l3Copy_c (w0:World)(G0:PH)(hG:PSub G0 w0)(vlist:Value)(list:List (BHeld))(hlist:RdH G0 vlist list) :
  Calls Tryz.prog 79 #[vlist] w0 (RetO w0 G0 (AccOf heldE 3 113 list)):=by
 obtain⟨alist,klist,rfl⟩:=hlist.shape
 have hlimlist:list.length≤1099511627776:=hlist.lim
 have H:=Hp.init hG
 refine calls_of_W (l:=[.slice alist list.length klist]) func79 Z ntmps79 Z (q2 (aG Z (q1 (xbs H Z7 ?_))));intro _ _ _ H
 have H:=H.blkAcc 3 (k:=0) (n:=0) rfl rfl (by decide)
 refine aG Z (q3 (W_seq (q2 (aG Z (q3 (W_block ?_))))))
 refine W_lp (hf:=(Sub.cons (t:=0) Z (Sub.cons (t:=2) Z Sub.nil))) (J:=fun M w m=>∃(v:Value) (n:Nat) (cs:List Value) (xs:List (BHeld)) (k:Nat) (G:PH),M=[(4,.int .i64 (k:Int)),(3,v)]∧PLe G0 G∧Hp w0 G0 [] w G [acc 113 3 v n cs]∧(Chk heldE 3 G cs xs∧n=xs.length∧k≤list.length∧xs.length=k∧xs=list.take k)∧m=(list.length-k)) (h0:=⟨_,_,_,[],0,_,Z,PLe.refl _,H,?inv,Z⟩) (round:=?round)
 case inv=>exact⟨(Chk.nil (E:=heldE) (sz:=3) (G:=G0)),by first|rfl|simp|(simp;omega)|omega,(by simp)⟩
 case round =>
  rintro _ _ _ ⟨v,n,cs,xs,k,G2,rfl,hle2,H,hinv2,rfl⟩
  have hlist:=hlist.up hle2
  obtain⟨hchk2_0,_,hinv2⟩:=hinv2
  obtain⟨_,_,rfl⟩:=H.accShape (k:=0) rfl
  obtain⟨_,hxl,hxs⟩:=hinv2
  refine W_seq (q2 (pe 2 Z (lN Z (pe 1 Z (q3 ?_)))))
  refine W_cond Z ?_ ?_
  ·intro hc3
   try simp only[nrm]at hc3
   refine W_skip (N_K (W_seq (W_block (q2 (pe 2 Z (iP k hlist Z3 Z ?_))))));intro _ _ z4 _ hz4 hE4 hrow4
   obtain⟨_,_,_,rfl,_,hr4,_,_,_⟩:=ox hE4
   refine o_loadagg_P H isAgg113 sizeOf113 Z Z hrow4 Z (xal H Z ?_);intro _ _ _ H
   refine xst 0 H Z8 ?_;intro _ H
   refine q1 (xbs H Z7 ?_);intro _ _ _ H
   have H:=H.blkAcc 1 (k:=0) (n:=0) rfl rfl (by decide)
   refine fA 1 Z (lB 1 H Z3 ?_)
   refine o_append_P 0 H hr4 (by intro _ cs hz _ hu;obtain⟨rfl,_⟩:=hz;simp at hu;subst hu;rfl) (sz:=1) (bytes:=8) underlying49 typeInfo3 ⟨_,rfl,rfl⟩ rfl rfl rfl rfl rfl rfl rfl oM rfl ?_;intro _ _ css8 hcl8 hcs8 H
   have hchk8:Chk intE 1 G2 ([]++css8.flatten) _:=⟨css8,rfl,hcl8,hcs8⟩
   obtain⟨_,_,rfl⟩:=H.accShape (k:=0) rfl
   refine fA 1 Z (xst 1 H Z8 ?_);intro _ H
   refine q3 (W_region (mV Z (lA 1 3 H Z4 (xbs H Z7 ?_))));intro _ _ _ H
   refine o_append1 2 H (sz:=3) (bytes:=40) underlying28 typeInfo113 ⟨_,Z,Z⟩ Z Z Z Z Z Z Z Z Z Z oM Z ?_;intro _ _ H
   obtain⟨_,H,hsg12,hsr12⟩:=H.shut' (k:=0) rfl hchk8 aN aN
   have hchk2_0:=hchk2_0.up hsg12
   have hle2:=hle2.trans hsg12
   have hchk11:=hchk2_0.snoc (show heldE _ z4 _ from⟨_,_,_,rfl,⟨by first|omega|(dsimp only;omega),by first|omega|(dsimp only;omega)⟩,hsr12,⟨by first|omega|(dsimp only;omega),by first|omega|(dsimp only;omega)⟩⟩) rfl
   obtain⟨_,_,rfl⟩:=H.accShape (k:=1) rfl
   refine aG Z (R_nil (N_B (N_K (W_region (mV Z (aD Z2 (aG Z (R_nil ?_))))))))
   have H:=H.dl 0
   refine N_lp (hJ:=⟨_,_,_,(xs++[z4]),k+1,_,Z,hle2,H,?inv,Z⟩) (hm:=?hm)
   case hm=>omega
   case inv=>exact⟨hchk11,aN,(by exact⟨by omega,by simp[hxl],by rw[Sp.take_succ' hz4,hxs]⟩)⟩
  intro hc3'
  try simp only[nrm]at hc3'
  refine W_exit (N_K_exit (N_LP_exit (N_B_same (N_K (q2 (pe 2 Z (q3 (W_ret (rt1 results79 Z ?_)))))))))
  obtain rfl:k=list.length:=by omega
  rw[List.take_length]at hxs
  subst hxs
  exact H.retO (k:=0) rfl (AccOf.mk (by assumption) hchk2_0) (acc_nd _ _ _ _ _)
theorem l12At_c (w0:World)(G0:PH)(hG:PSub G0 w0)(vlist:Value)(list:List (BSnap))(hlist:RdSn G0 vlist list)(name:Bs)(hname:name.length≤16777216) :
  Calls Tryz.prog 130 #[vlist,str name] w0 (Rets w0 (.int .i64 (Sp.l12At list name))):=by
 obtain⟨alist,klist,rfl⟩:=hlist.shape
 have hlimlist:list.length≤1099511627776:=hlist.lim
 have H:=Hp.init hG
 refine calls_of_W (l:=[.slice alist list.length klist,str name]) func130 Z ntmps130 Z (q2 (aG Z (q3 (W_seq (q2 (aG Z (q3 (W_block ?_))))))))
 refine W_lp (hf:=(Sub.cons (t:=0) Z (Sub.cons (t:=1) Z Sub.nil))) (J:=fun M w m=>∃(k:Nat) (G:PH),M=[(5,.int .i64 (k:Int))]∧PLe G0 G∧Hp w0 G0 [] w G []∧(k≤list.length∧(∀j,j<k→∀y,list[j]? = some y→decide (y.name=name)=false))∧m=(list.length-k)) (h0:=⟨0,_,Z,PLe.refl _,H,?inv,Z⟩) (round:=?round)
 case inv=>exact⟨by omega,fun j hj=>by omega⟩
 case round =>
  rintro _ _ _ ⟨k,_,rfl,hle1,H,hinv1,rfl⟩
  have hlist:=hlist.up hle1
  obtain⟨_,hall⟩:=hinv1
  refine W_seq (q2 (pe 2 Z (lN Z (pe 1 Z (q3 ?_)))))
  refine W_cond Z ?_ ?_
  ·intro hc2
   try simp only[nrm]at hc2
   refine W_skip (N_K (W_seq (W_block (q2 (pe 2 Z (iP k hlist Z3 Z ?_))))));intro _ _ _ _ hz3 hE3 hrow3
   obtain⟨_,_,_,rfl,_,_,_,_⟩:=ox hE3
   refine fA 0 Z (lP H hrow3 0 Z2 (mV Z (o_seql Z Z Z (q3 ?_))))
   refine W_cond Z ?_ ?_
   ·intro hc4
    try simp only[nrm]at hc4
    refine q2 (pe 2 Z (q3 (W_ret (N_B_ret (N_K_ret (N_LP_ret (N_B_ret (N_K_ret (rt1 results130 Z ?_)))))))))
    exact H.rets (congrArg (Value.int .i64) (by rw[Sp.l12At,Sp.atS,Sp.find_at hall hz3 (by simp;exact hc4)];rfl))
   intro hc4'
   try simp only[nrm]at hc4'
   refine W_skip (N_B (N_K (W_region (mV Z (aD Z2 (aG Z (R_nil ?_)))))))
   refine N_lp (hJ:=⟨k+1,_,Z,hle1,H,?inv,Z⟩) (hm:=?hm)
   case hm=>omega
   case inv=>exact⟨by omega,Sp.none_succ hall hz3 (by simp;exact hc4')⟩
  intro hc2'
  try simp only[nrm]at hc2'
  refine W_exit (N_K_exit (N_LP_exit (N_B_same (N_K (q2 (aG Z (q3 (W_ret (rt1 results130 Z ?_)))))))))
  exact H.rets (congrArg (Value.int .i64) (by rw[Sp.l12At,Sp.atS,Sp.find_none hall oM];rfl))
theorem StoreKeep_c (w0:World)(G0:PH)(hG:PSub G0 w0)(vlist:Value)(list:List (BHeld))(hlist:RdH G0 vlist list)(id:Int) :
  Calls Tryz.prog 80 #[vlist,.int .i64 id] w0 (RetO w0 G0 (fun G v r=>∃u,v= .tuple #[u,.bool (Sp.StoreKeep list id).isSome]∧AccOf heldE 3 113 ((Sp.StoreKeep list id).getD []) G u r)):=by
 obtain⟨alist,klist,rfl⟩:=hlist.shape
 have hlimlist:list.length≤1099511627776:=hlist.lim
 have H:=Hp.init hG
 refine calls_of_W (l:=[.slice alist list.length klist,.int .i64 id]) func80 Z ntmps80 Z (q2 (pe 2 Z (q1 (pe 2 Z (xr H Z2 (l3At_c _ _ H.sub _ _ hlist _) ?_)))));intro _ H
 refine aG Z (q3 (W_seq (q2 (mV Z (xr H Z2 (StoreValid_c _ _ H.sub _ _ hlist) ?_)))));intro _ H
 refine pe 2 Z ?_
 refine R_case (t:=14) Z ?_ ?_
 ·intro hc3
  try simp only[nrm]at hc3
  refine pe 11 Z (q3 (W_true Z (q2 (xbs H Z7 ?_))));intro _ _ _ H
  have H:=H.blkAcc 3 (k:=0) (n:=0) rfl rfl (by decide)
  refine pe 2 Z (q3 (W_ret (N_K_ret (rt2 results80 Z Z ?_))))
  have hN:Sp.StoreKeep list id=none:=by simp[Sp.StoreKeep,hc3]
  exact H.retO (k:=0) rfl (by rw[hN];exact⟨_,rfl,AccOf.mk aN (Chk.nil (E:=heldE) (sz:=3) (G:=G0))⟩) (acc_nd _ _ _ _ _)
 intro hc3'
 try simp only[nrm]at hc3'
 refine pe 4 Z ?_
 refine R_case (t:=18) Z ?_ ?_
 ·intro hc5
  try simp only[nrm]at hc5
  refine pe 7 Z (q3 (W_true Z (q2 (xbs H Z7 ?_))));intro _ _ _ H
  have H:=H.blkAcc 3 (k:=0) (n:=0) rfl rfl (by decide)
  refine pe 2 Z (q3 (W_ret (N_K_ret (rt2 results80 Z Z ?_))))
  have hN:Sp.StoreKeep list id=none:=by simp[Sp.StoreKeep,Sp.atH,Sp.at_none hc5]
  exact H.retO (k:=0) rfl (by rw[hN];exact⟨_,rfl,AccOf.mk aN (Chk.nil (E:=heldE) (sz:=3) (G:=G0))⟩) (acc_nd _ _ _ _ _)
 intro hc5'
 try simp only[nrm]at hc5'
 obtain⟨i,_,hi1,hi2,_,_,_⟩:=Sp.at_nat hc5'
 have hl:Sp.atH list id=some i:=hi1
 refine pe 2 Z (gR Z (iP i hlist Z3 hi2 ?_));intro _ _ z7 _ hz7 hE7 hrow7
 obtain⟨_,_,_,rfl,_,hr7,_,_,_⟩:=ox hE7
 refine gR Z (fA 2 Z (gR Z (lP H hrow7 2 Z2 (pe 2 Z (q3 ?_)))))
 refine W_cond Z ?_ ?_
 ·intro hc8
  try simp only[nrm]at hc8
  refine q2 (xbs H Z7 ?_);intro _ _ _ H
  have H:=H.blkAcc 3 (k:=0) (n:=0) rfl rfl (by decide)
  refine pe 2 Z (q3 (W_ret (N_K_ret (rt2 results80 Z Z ?_))))
  have hN:Sp.StoreKeep list id=none:=by simp[Sp.StoreKeep,hl,hz7,hc8]
  exact H.retO (k:=0) rfl (by rw[hN];exact⟨_,rfl,AccOf.mk aN (Chk.nil (E:=heldE) (sz:=3) (G:=G0))⟩) (acc_nd _ _ _ _ _)
 intro hc8'
 try simp only[nrm]at hc8'
 refine W_skip (N_K (q2 (mV Z (xc Z2 (l3Copy_c _ _ H.sub _ _ hlist) ?_))))
 rintro _ _ ⟨_,_,_,g10,rfl,⟨_,rfl,hchk10⟩,hp10,hq10,hs10⟩
 have H:=H.growO g10 hp10 hq10 hs10;obtain⟨_,_,rfl⟩:=H.accShape (k:=0) rfl
 refine⟨_,Z,?_⟩
 refine aG Z (q1 (pe 4 Z (o_index_A 0 H i Z hchk10 underlying28 sizeOf113 Z Z Z hi2 aN aN ?_)));intro _ z11 _ hba11 hz11 hE11 hg11;cases hba11
 obtain⟨_,_,_,rfl,_,_,_,_,_⟩:=ox hE11
 have hsv:=Sp.valid_at hc3' hz11
 refine fA 2 Z (o_load_A 0 H isAgg3 Z Z Z (hg11 2 _ Z) (aD Z2 (o_index_A 0 H i Z hchk10 underlying28 sizeOf113 Z Z Z hi2 aN aN ?_)));intro _ z13 _ hba13 hz13 hE13 _;cases hba13
 obtain⟨_,_,_,rfl,_,_,_,_,_⟩:=ox hE13
 have hzz13:z11=z13:=Option.some.inj (hz11.symm.trans hz13)
 subst hzz13
 refine fA 2 Z ?_
 have hcl14:=hchk10.length
 refine o_store_A 0 H sizeOf3 Z Z Z Z Z (by simp only[vc,List.length_cons,List.length_nil];omega) ?_;intro _ H
 have hchk14:=hchk10.put (x':=⟨z11.id,z11.bytes,z11.uses+1⟩) (off:=2) (vs:=[_]) hz13 (fun cs hl hE=>by obtain⟨_,_,_,rfl,h1,h2,_⟩:=hE;exact⟨_,_,_,rfl,h1,h2,⟨by first|omega|(dsimp only;omega),by first|omega|(dsimp only;omega)⟩⟩) (by simp only[vc,List.length_cons,List.length_nil];omega)
 refine q1 (pe 3 Z (q3 (W_ret (rt2 results80 Z Z ?_))))
 have hY:Sp.StoreKeep list id=some (list.set i ⟨z11.id,z11.bytes,z11.uses+1⟩):=by (have hzz:z7=z11:=Option.some.inj (hz7.symm.trans hz11));rw[hzz]at hc8';simp[Sp.StoreKeep,hc3',hl,hz11,hc8',Sp.bump_at hz11]
 exact H.retO (k:=0) rfl (by rw[hY];exact⟨_,rfl,AccOf.mk aN hchk14⟩) (acc_nd _ _ _ _ _)
theorem l4Ids_c (w0:World)(G0:PH)(hG:PSub G0 w0)(vlist:Value)(list:List (BHeld))(hlist:RdH G0 vlist list)(vids:Value)(ids:List (Int))(hids:RdI G0 vids ids) :
  Calls Tryz.prog 128 #[vlist,vids] w0 (Rets w0 (.bool (Sp.l4Ids list ids))):=by
 obtain⟨alist,klist,rfl⟩:=hlist.shape
 have hlimlist:list.length≤1099511627776:=hlist.lim
 obtain⟨aids,kids,rfl⟩:=hids.shape
 have hlimids:ids.length≤1099511627776:=hids.lim
 have H:=Hp.init hG
 refine calls_of_W (l:=[.slice alist list.length klist,.slice aids ids.length kids]) func128 Z ntmps128 Z (q2 (aG Z (q3 (W_seq (q2 (aG Z (q3 (W_block ?_))))))))
 refine W_lp (hf:=(Sub.cons (t:=0) Z (Sub.cons (t:=1) Z Sub.nil))) (J:=fun M w m=>∃(k:Nat) (G:PH),M=[(5,.int .i64 (k:Int))]∧PLe G0 G∧Hp w0 G0 [] w G []∧(k≤ids.length∧∀j,j<k→Sp.idsOk list ids j=true)∧m=(ids.length-k)) (h0:=⟨0,_,Z,PLe.refl _,H,?inv,Z⟩) (round:=?round)
 case inv=>exact⟨by omega,fun j hj=>by omega⟩
 case round =>
  rintro _ _ _ ⟨k,_,rfl,hle1,H,hinv1,rfl⟩
  have hlist:=hlist.up hle1
  have hids:=hids.up hle1
  obtain⟨_,hall⟩:=hinv1
  refine W_seq (q2 (pe 2 Z (lN Z (pe 1 Z (q3 ?_)))))
  refine W_cond Z ?_ ?_
  ·intro hc2
   try simp only[nrm]at hc2
   refine W_skip (N_K (W_seq (W_block (q2 (pe 3 Z (iP k hids Z3 Z ?_))))));intro _ _ z3 _ hz3 hE3 hrow3
   obtain⟨rfl,hi3⟩:=hE3
   refine lP H hrow3 0 Z2 (xr H Z2 (l3At_c _ _ H.sub _ _ hlist _) ?_);intro _ H
   refine aG Z (q1 (pe 3 Z ?_))
   refine R_case (t:=21) Z ?_ ?_
   ·intro hc5
    try simp only[nrm]at hc5
    refine pe 6 Z (R_pass Z (yl_un Z Z) (R_pass Z (yl_un Z Z) (R_pass Z (yl_un Z Z) (R_pass Z (yl_un Z Z) (R_pass Z (yl_un Z Z) (R_pass Z (yl_un Z Z) (R_pass Z (yl_un Z Z) (pe 2 Z (q3 (W_true Z (q2 (aG Z (q3 (W_ret (N_B_ret ?_)))))))))))))))
    refine N_K_ret (N_LP_ret (N_B_ret (N_K_ret (rt1 results128 Z ?_))))
    exact H.rets (congrArg Value.bool (by rw[Sp.l4Ids,Sp.not_all_range (k:=k) oM (by simp[Sp.idsOk,hz3,Sp.atH,Sp.at_none hc5])];rfl))
   intro hc5'
   try simp only[nrm]at hc5'
   obtain⟨i,x,hi1,hi2,hi3,hi4,_⟩:=Sp.at_nat hc5'
   have hl:Sp.atH list z3=some i:=hi1
   refine pe 1 Z (gR Z (aD Z2 (pe 1 Z (gR Z (lN Z (pe 2 Z ?_))))))
   refine R_case (t:=27) Z ?_ ?_
   ·intro hc7
    try simp only[nrm]at hc7
    refine pe 2 Z (gR Z (iP i hlist Z3 hi2 ?_));intro _ _ z8 _ hz8 hE8 hrow8
    obtain⟨_,_,_,rfl,_,_,_,_,_⟩:=ox hE8
    have hzz:x=z8:=Option.some.inj (hi4.symm.trans hz8)
    subst hzz
    refine gR Z (fA 1 Z (gR Z (lP H hrow8 1 Z2 (gR Z (lN Z (pe 3 Z (q3 ?_)))))))
    refine W_cond Z ?_ ?_
    ·intro hc9
     try simp only[nrm]at hc9
     refine q2 (aG Z (q3 (W_ret (N_B_ret (N_K_ret (N_LP_ret (N_B_ret (N_K_ret (rt1 results128 Z ?_)))))))))
     exact H.rets (congrArg Value.bool (by rw[Sp.l4Ids,Sp.not_all_range (k:=k) oM (by simp[Sp.idsOk,hz3,hl,hi4];omega)];rfl))
    intro hc9'
    try simp only[nrm]at hc9'
    refine W_skip (N_B (N_K (W_region (mV Z (aD Z2 (aG Z (R_nil ?_)))))))
    refine N_lp (hJ:=⟨k+1,_,Z,hle1,H,?inv,Z⟩) (hm:=?hm)
    case hm=>omega
    case inv=>exact⟨by omega,Sp.upto_succ hall (by simp[Sp.idsOk,hz3,hl,hi4];omega)⟩
   intro hc7'
   try simp only[nrm]at hc7'
   refine pe 9 Z (q3 (W_false Z (W_skip (N_B (N_K (W_region (mV Z (aD Z2 (aG Z (R_nil ?_))))))))))
   refine N_lp (hJ:=⟨k+1,_,Z,hle1,H,?inv,Z⟩) (hm:=?hm)
   case hm=>omega
   case inv=>exact⟨by omega,Sp.upto_succ hall (by simp[Sp.idsOk,hz3,hl,hi4];omega)⟩
  intro hc2'
  try simp only[nrm]at hc2'
  refine W_exit (N_K_exit (N_LP_exit (N_B_same (N_K (q2 (mV Z (lN Z (pe 2 Z (q3 (W_ret (rt1 results128 Z ?_)))))))))))
  exact H.rets (congrArg Value.bool (by rw[Sp.l4Ids,Sp.all_range (fun j hj=>hall j oM),Bool.true_and];rw[Bool.eq_iff_iff];simp;omega))
theorem l5Copy_c (w0:World)(G0:PH)(hG:PSub G0 w0)(cx:List Value)(x:BItem)(hx:itemE G0 x cx) :
  Calls Tryz.prog 78 #[.agg cx.toArray] w0 (RetP w0 G0 (fun G v=>∃cs,v= .agg cs.toArray∧itemE G x cs)):=by
 obtain⟨_,_,_,rfl,hi1,hr1,_,_⟩:=ox hx
 have H:=Hp.init hG
 refine calls_of_W (l:=[_]) func78 Z ntmps78 Z (q2 (o_box H Z Z Z ?_));intro _ _ _ H
 refine xal H Z ?_;intro _ _ _ H
 refine q1 (xbs H Z7 ?_);intro _ _ _ H
 have H:=H.blkAcc 1 (k:=0) (n:=0) rfl rfl (by decide)
 refine fA 2 Z (lB 2 H Z3 ?_)
 refine o_append_P 0 H hr1 (by intro _ _ hz _ hu;obtain⟨rfl,_⟩:=hz;simp at hu;subst hu;rfl) (sz:=1) (bytes:=8) underlying49 typeInfo3 ⟨_,rfl,rfl⟩ rfl rfl rfl rfl rfl rfl rfl oM rfl ?_;intro _ _ css5 hcl5 hcs5 H
 have hchk5:Chk intE 1 G0 ([]++css5.flatten) _:=⟨css5,rfl,hcl5,hcs5⟩
 obtain⟨_,_,rfl⟩:=H.accShape (k:=0) rfl
 refine fA 2 Z (xst 2 H Z8 ?_);intro _ H
 refine q1 (lA 2 3 H Z4 (xst 1 H Z8 ?_));intro _ H
 refine q3 (W_ret (ret_gen (rs:=[.cell 2 51]) (vs:=[_]) results78 ⟨⟨_,Z,load_blk 1 H isAgg51 sizeOf51 Z Z Z⟩,trivial⟩ ?_))
 obtain⟨_,H,hsg509,hsr509⟩:=H.shut' (k:=0) rfl hchk5 aN aN
 exact H.retP ⟨_,Z,⟨_,_,_,Z,hi1,hsr509⟩⟩
theorem l5Put_c (w0:World)(G0:PH)(hG:PSub G0 w0)(vlist:Value)(list:List (BItem))(hlist:RdItems G0 vlist list)(cx:List Value)(x:BItem)(hx:itemE G0 x cx)(hS:list.length≤1000000) :
  Calls Tryz.prog 122 #[vlist,.agg cx.toArray] w0 (RetO w0 G0 (AccOf itemE 3 51 (Sp.l5Put list x))):=by
 obtain⟨alist,klist,rfl⟩:=hlist.shape
 have hlimlist:list.length≤1099511627776:=hlist.lim
 obtain⟨_,_,_,rfl,hi1,hr1,_,_⟩:=ox hx
 have H:=Hp.init hG
 refine calls_of_W (l:=[.slice alist list.length klist,_]) func122 Z ntmps122 Z (q2 (o_box H Z Z Z ?_));intro b2 _ _ H
 refine aG Z (q1 (xbs H Z7 ?_));intro _ _ _ H
 have H:=H.blkAcc 3 (k:=0) (n:=0) rfl rfl (by decide)
 refine aG Z (q1 (aG Z (q3 (W_seq (q2 (aG Z (q3 (W_block ?_))))))))
 obtain⟨ln4,hln4,H⟩:=H.name (k:=1) rfl
 refine W_lp (hf:=(Sub.cons (t:=0) Z (Sub.cons (t:=3) Z (Sub.cons (t:=4) Z Sub.nil)))) (J:=fun M w m=>∃(v:Value) (n:Nat) (cs:List Value) (xs:List (BItem)) (d:Bool) (k:Nat) (G:PH),M=[(6,.bool d),(7,.int .i64 (k:Int)),(5,v)]∧PLe G0 G∧Hp w0 G0 [] w G [acc 51 3 v n cs,blk b2 (cl ln4 51)]∧(Chk itemE 3 G cs xs∧n=xs.length∧k≤list.length∧xs.length≤k+1∧(d=false→xs.length≤k)∧xs++Sp.putGo x d (list.drop k)=Sp.l5Put list x)∧m=(list.length-k)) (h0:=⟨_,_,_,[],false,0,_,Z,PLe.refl _,H,?inv,Z⟩) (round:=?round)
 case inv=>exact⟨(Chk.nil (E:=itemE) (sz:=3) (G:=G0)),by first|rfl|simp|(simp;omega)|omega,(by simp[Sp.l5Put])⟩
 case round =>
  rintro _ _ _ ⟨v,n,cs,xs,d,k,G5,rfl,hle5,H,hinv5,rfl⟩
  subst hln4
  have hlist:=hlist.up hle5
  have hr1:=hr1.up hle5
  obtain⟨hchk5_0,_,hinv5⟩:=hinv5
  obtain⟨_,_,rfl⟩:=H.accShape (k:=0) rfl
  obtain⟨_,_,hxd,hp⟩:=hinv5
  refine W_seq (q2 (pe 2 Z (lN Z (pe 1 Z (q3 ?_)))))
  refine W_cond Z ?_ ?_
  ·intro hc6
   try simp only[nrm]at hc6
   refine W_skip (N_K (W_seq (W_block (W_seq (W_seq (W_drawK [1] 12 H kR Z ?_))))));intro _ H;have hd7:=PLe.refl G5
   refine dE 0 Z2 (dE 1 Z2 (dE 2 Z2 ?_))
   refine RD_case (t:=17) Z ?_ ?_
   ·intro hc8
    try simp only[nrm]at hc8
    refine dE 3 Z2 (dE 4 Z2 ?_)
    have hl9:=hlist.len
    obtain⟨_,_,z9,_,ha9,hz9,hq9,hE9,hrow9,_⟩:=hlist.at (i:=k) oM
    clear hq9
    obtain⟨_,_,_,rfl,_,hr9,_,_⟩:=ox hE9
    refine dI 5 3 k ha9 Z3 Z (dF 6 0 Z2 (dP 7 hrow9 0 Z3 (dF 8 0 Z2 (dB 9 0 Z4 (RD_tg 10 Z kR Z (yl Z Z) (fun _ hK=>v_sgeq Z Z) (dE 11 Z2 (rz (N_K ?_))))))))
    refine W_cond Z ?_ ?_
    ·intro hc10
     try simp only[nrm]at hc10
     refine q2 (mV Z (lA 1 3 H Z4 (xc Z2 (l5Copy_c _ _ H.sub _ x ⟨_,_,_,Z,hi1,hr1⟩) ?_)))
     rintro _ _ ⟨G11,_,g11,rfl,_,rfl,hr11_0⟩
     have H:=H.grow g11
     have hlist:=hlist.up g11.le
     have hchk5_0:=hchk5_0.up g11.le
     have hle5:=hle5.trans g11.le
     obtain⟨_,_,_,rfl,hi12,hr12,_,_⟩:=ox hr11_0
     refine⟨_,Z,?_⟩
     refine xbs H Z7 ?_;intro _ _ _ H
     refine o_append1 0 H (sz:=3) (bytes:=48) underlying29 typeInfo51 ⟨_,Z,Z⟩ Z Z Z Z Z Z Z Z Z Z oM Z ?_;intro _ _ H
     have hchk14:=hchk5_0.snoc (show itemE _ x _ from⟨_,_,_,rfl,hi12,hr12⟩) rfl
     obtain⟨_,_,rfl⟩:=H.accShape (k:=0) rfl
     refine aG Z (q3 (W_region (aG Z (q3 (W_seq (W_drawK [1] 8 H kR Z ?_))))));intro _ H;have hd15:=PLe.refl G11
     refine dE 0 Z2 (dE 1 Z2 ?_)
     have hl16:=hlist.len
     obtain⟨_,_,z16,_,ha16,hz16,hq16,hE16,hrow16,_⟩:=hlist.at (i:=k) oM
     clear hq16
     obtain⟨_,_,_,rfl,_,hr16,_,_⟩:=ox hE16
     have hzz16:z9=z16:=Option.some.inj (hz9.symm.trans hz16)
     subst hzz16
     refine dI 2 3 k ha16 Z3 Z (dF 3 0 Z2 (dP 4 hrow16 0 Z3 (dF 5 0 Z2 (dB 6 0 Z4 (RD_t 7 Z kR Z (fun _ hK=>v_sneq Z Z) (rz (N_K ?_)))))))
     refine W_cond Z ?_ ?_
     ·intro hc17
      try simp only[nrm]at hc17
      refine W_region (pe 3 Z (iP k hlist Z3 Z ?_));intro _ _ z18 _ hz18 hE18 hrow18
      obtain⟨_,_,_,rfl,hi18,hr18,_,_⟩:=ox hE18
      have hzz18:z9=z18:=Option.some.inj (hz9.symm.trans hz18)
      subst hzz18
      refine o_loadagg_P H isAgg51 sizeOf51 Z Z hrow18 Z (xc Z2 (l5Copy_c _ _ H.sub _ _ ⟨_,_,_,Z,hi18,hr18⟩) ?_)
      rintro _ _ ⟨_,_,g19,rfl,_,rfl,hr19_0⟩
      have H:=H.grow g19
      have hchk14:=hchk14.up g19.le
      have hle5:=hle5.trans g19.le
      obtain⟨_,_,_,rfl,hi20,hr20,_,_⟩:=ox hr19_0
      refine⟨_,Z,?_⟩
      refine xbs H Z7 ?_;intro _ _ _ H
      refine o_append1 0 H (sz:=3) (bytes:=48) underlying29 typeInfo51 ⟨_,Z,Z⟩ Z Z Z Z Z Z Z Z Z Z oM Z ?_;intro _ _ H
      have hchk22:=hchk14.snoc (show itemE _ z9 _ from⟨_,_,_,rfl,hi20,hr20⟩) rfl
      obtain⟨_,_,rfl⟩:=H.accShape (k:=0) rfl
      refine aG Z (R_nil (N_B (N_K (W_region (mV Z (aD Z2 (aG Z (R_nil ?_))))))))
      refine N_lp (hJ:=⟨_,_,_,((xs++[x])++[z9]),true,k+1,_,Z,hle5,H,?inv,Z⟩) (hm:=?hm)
      case hm=>omega
      case inv=>exact⟨hchk22,aN,(by exact⟨by omega,by have:=hxd (by assumption);simp;omega,by simp,by rw[Sp.drop_at hz9]at hp;rw[←hp];(first|rw[Sp.putA (by assumption) (by assumption) (by assumption)]|rw[Sp.putB (by assumption) (by assumption) (by assumption)]|rw[Sp.putC (by assumption) (by assumption)]|rw[Sp.putC' (by assumption) (by assumption)]|rw[Sp.putD (by assumption) (by assumption)]|rw[Sp.putD' (by assumption) (by assumption)])<;>simp⟩)⟩
     intro hc17'
     try simp only[nrm]at hc17'
     refine W_skip (N_B (N_K (W_region (mV Z (aD Z2 (aG Z (R_nil ?_)))))))
     refine N_lp (hJ:=⟨_,_,_,(xs++[x]),true,k+1,_,Z,hle5,H,?inv,Z⟩) (hm:=?hm)
     case hm=>omega
     case inv=>exact⟨hchk14,aN,(by exact⟨by omega,by have:=hxd (by assumption);simp;omega,by simp,by rw[Sp.drop_at hz9]at hp;rw[←hp];(first|rw[Sp.putA (by assumption) (by assumption) (by assumption)]|rw[Sp.putB (by assumption) (by assumption) (by assumption)]|rw[Sp.putC (by assumption) (by assumption)]|rw[Sp.putC' (by assumption) (by assumption)]|rw[Sp.putD (by assumption) (by assumption)]|rw[Sp.putD' (by assumption) (by assumption)])<;>simp⟩)⟩
    intro hc10'
    try simp only[nrm]at hc10'
    refine W_skip (N_K (W_seq (W_drawK [1] 8 H kR Z ?_)));intro _ H;have hd25:=PLe.refl G5
    refine dE 0 Z2 (dE 1 Z2 ?_)
    have hl26:=hlist.len
    obtain⟨_,_,z26,_,ha26,hz26,hq26,hE26,hrow26,_⟩:=hlist.at (i:=k) oM
    clear hq26
    obtain⟨_,_,_,rfl,_,hr26,_,_⟩:=ox hE26
    have hzz26:z9=z26:=Option.some.inj (hz9.symm.trans hz26)
    subst hzz26
    refine dI 2 3 k ha26 Z3 Z (dF 3 0 Z2 (dP 4 hrow26 0 Z3 (dF 5 0 Z2 (dB 6 0 Z4 (RD_t 7 Z kR Z (fun _ hK=>v_sneq Z Z) (rz (N_K ?_)))))))
    refine W_cond Z ?_ ?_
    ·intro hc27
     try simp only[nrm]at hc27
     refine W_region (pe 3 Z (iP k hlist Z3 Z ?_));intro _ _ z28 _ hz28 hE28 hrow28
     obtain⟨_,_,_,rfl,hi28,hr28,_,_⟩:=ox hE28
     have hzz28:z9=z28:=Option.some.inj (hz9.symm.trans hz28)
     subst hzz28
     refine o_loadagg_P H isAgg51 sizeOf51 Z Z hrow28 Z (xc Z2 (l5Copy_c _ _ H.sub _ _ ⟨_,_,_,Z,hi28,hr28⟩) ?_)
     rintro _ _ ⟨_,_,g29,rfl,_,rfl,hr29_0⟩
     have H:=H.grow g29
     have hchk5_0:=hchk5_0.up g29.le
     have hle5:=hle5.trans g29.le
     obtain⟨_,_,_,rfl,hi30,hr30,_,_⟩:=ox hr29_0
     refine⟨_,Z,?_⟩
     refine xbs H Z7 ?_;intro _ _ _ H
     refine o_append1 0 H (sz:=3) (bytes:=48) underlying29 typeInfo51 ⟨_,Z,Z⟩ Z Z Z Z Z Z Z Z Z Z oM Z ?_;intro _ _ H
     have hchk32:=hchk5_0.snoc (show itemE _ z9 _ from⟨_,_,_,rfl,hi30,hr30⟩) rfl
     obtain⟨_,_,rfl⟩:=H.accShape (k:=0) rfl
     refine aG Z (R_nil (N_B (N_K (W_region (mV Z (aD Z2 (aG Z (R_nil ?_))))))))
     refine N_lp (hJ:=⟨_,_,_,(xs++[z9]),d,k+1,_,Z,hle5,H,?inv,Z⟩) (hm:=?hm)
     case hm=>omega
     case inv=>exact⟨hchk32,aN,(by exact⟨by omega,by first|omega|(simp;omega),fun h=>by have:=hxd h;first|omega|(simp;omega),by rw[Sp.drop_at hz9]at hp;rw[←hp];(first|rw[Sp.putA (by assumption) (by assumption) (by assumption)]|rw[Sp.putB (by assumption) (by assumption) (by assumption)]|rw[Sp.putC (by assumption) (by assumption)]|rw[Sp.putC' (by assumption) (by assumption)]|rw[Sp.putD (by assumption) (by assumption)]|rw[Sp.putD' (by assumption) (by assumption)])<;>simp⟩)⟩
    intro hc27'
    try simp only[nrm]at hc27'
    refine W_skip (N_B (N_K (W_region (mV Z (aD Z2 (aG Z (R_nil ?_)))))))
    refine N_lp (hJ:=⟨_,_,_,xs,d,k+1,_,Z,hle5,H,?inv,Z⟩) (hm:=?hm)
    case hm=>omega
    case inv=>exact⟨hchk5_0,aN,(by exact⟨by omega,by first|omega|(simp;omega),fun h=>by have:=hxd h;first|omega|(simp;omega),by rw[Sp.drop_at hz9]at hp;rw[←hp];(first|rw[Sp.putA (by assumption) (by assumption) (by assumption)]|rw[Sp.putB (by assumption) (by assumption) (by assumption)]|rw[Sp.putC (by assumption) (by assumption)]|rw[Sp.putC' (by assumption) (by assumption)]|rw[Sp.putD (by assumption) (by assumption)]|rw[Sp.putD' (by assumption) (by assumption)])<;>simp⟩)⟩
   intro hc8'
   try simp only[nrm]at hc8'
   refine dE 3 Z2 (dE 4 Z2 (dE 5 Z2 (dE 6 Z2 (dE 7 Z2 (dE 8 Z2 (dE 9 Z2 (dE 10 Z2 (dE 11 Z2 (rz (N_K (W_false Z (W_skip (N_K (W_seq (W_drawK [1] 8 H kR Z ?_)))))))))))))));intro _ H;have hd35:=PLe.refl G5
   refine dE 0 Z2 (dE 1 Z2 ?_)
   have hl36:=hlist.len
   obtain⟨_,_,z36,_,ha36,hz36,hq36,hE36,hrow36,_⟩:=hlist.at (i:=k) oM
   clear hq36
   obtain⟨_,_,_,rfl,_,hr36,_,_⟩:=ox hE36
   refine dI 2 3 k ha36 Z3 Z (dF 3 0 Z2 (dP 4 hrow36 0 Z3 (dF 5 0 Z2 (dB 6 0 Z4 (RD_t 7 Z kR Z (fun _ hK=>v_sneq Z Z) (rz (N_K ?_)))))))
   refine W_cond Z ?_ ?_
   ·intro hc37
    try simp only[nrm]at hc37
    refine W_region (pe 3 Z (iP k hlist Z3 Z ?_));intro _ _ z38 _ hz38 hE38 hrow38
    obtain⟨_,_,_,rfl,hi38,hr38,_,_⟩:=ox hE38
    have hzz38:z36=z38:=Option.some.inj (hz36.symm.trans hz38)
    subst hzz38
    refine o_loadagg_P H isAgg51 sizeOf51 Z Z hrow38 Z (xc Z2 (l5Copy_c _ _ H.sub _ _ ⟨_,_,_,Z,hi38,hr38⟩) ?_)
    rintro _ _ ⟨_,_,g39,rfl,_,rfl,hr39_0⟩
    have H:=H.grow g39
    have hchk5_0:=hchk5_0.up g39.le
    have hle5:=hle5.trans g39.le
    obtain⟨_,_,_,rfl,hi40,hr40,_,_⟩:=ox hr39_0
    refine⟨_,Z,?_⟩
    refine xbs H Z7 ?_;intro _ _ _ H
    refine o_append1 0 H (sz:=3) (bytes:=48) underlying29 typeInfo51 ⟨_,Z,Z⟩ Z Z Z Z Z Z Z Z Z Z oM Z ?_;intro _ _ H
    have hchk42:=hchk5_0.snoc (show itemE _ z36 _ from⟨_,_,_,rfl,hi40,hr40⟩) rfl
    obtain⟨_,_,rfl⟩:=H.accShape (k:=0) rfl
    refine aG Z (R_nil (N_B (N_K (W_region (mV Z (aD Z2 (aG Z (R_nil ?_))))))))
    refine N_lp (hJ:=⟨_,_,_,(xs++[z36]),d,k+1,_,Z,hle5,H,?inv,Z⟩) (hm:=?hm)
    case hm=>omega
    case inv=>exact⟨hchk42,aN,(by exact⟨by omega,by first|omega|(simp;omega),fun h=>by have:=hxd h;first|omega|(simp;omega),by rw[Sp.drop_at hz36]at hp;rw[←hp];(first|rw[Sp.putA (by assumption) (by assumption) (by assumption)]|rw[Sp.putB (by assumption) (by assumption) (by assumption)]|rw[Sp.putC (by assumption) (by assumption)]|rw[Sp.putC' (by assumption) (by assumption)]|rw[Sp.putD (by assumption) (by assumption)]|rw[Sp.putD' (by assumption) (by assumption)])<;>simp⟩)⟩
   intro hc37'
   try simp only[nrm]at hc37'
   refine W_skip (N_B (N_K (W_region (mV Z (aD Z2 (aG Z (R_nil ?_)))))))
   refine N_lp (hJ:=⟨_,_,_,xs,d,k+1,_,Z,hle5,H,?inv,Z⟩) (hm:=?hm)
   case hm=>omega
   case inv=>exact⟨hchk5_0,aN,(by exact⟨by omega,by first|omega|(simp;omega),fun h=>by have:=hxd h;first|omega|(simp;omega),by rw[Sp.drop_at hz36]at hp;rw[←hp];(first|rw[Sp.putA (by assumption) (by assumption) (by assumption)]|rw[Sp.putB (by assumption) (by assumption) (by assumption)]|rw[Sp.putC (by assumption) (by assumption)]|rw[Sp.putC' (by assumption) (by assumption)]|rw[Sp.putD (by assumption) (by assumption)]|rw[Sp.putD' (by assumption) (by assumption)])<;>simp⟩)⟩
  intro hc6'
  try simp only[nrm]at hc6'
  refine W_exit (N_K_exit (N_LP_exit (N_B_same (N_K (W_seq (q2 (pe 2 Z (q3 ?_))))))))
  refine W_cond Z ?_ ?_
  ·intro hc45
   try simp only[nrm]at hc45
   refine W_region (mV Z (lA 1 3 H Z4 (xc Z2 (l5Copy_c _ _ H.sub _ x ⟨_,_,_,Z,hi1,hr1⟩) ?_)))
   rintro _ _ ⟨_,_,g46,rfl,_,rfl,hr46_0⟩
   have H:=H.grow g46
   have hchk5_0:=hchk5_0.up g46.le
   obtain⟨_,_,_,rfl,hi47,hr47,_,_⟩:=ox hr46_0
   refine⟨_,Z,?_⟩
   refine xbs H Z7 ?_;intro _ _ _ H
   refine o_append1 0 H (sz:=3) (bytes:=48) underlying29 typeInfo51 ⟨_,Z,Z⟩ Z Z Z Z Z Z Z Z Z Z oM Z ?_;intro _ _ H
   have hchk49:=hchk5_0.snoc (show itemE _ x _ from⟨_,_,_,rfl,hi47,hr47⟩) rfl
   obtain⟨_,_,rfl⟩:=H.accShape (k:=0) rfl
   refine aG Z (q1 (pe 2 Z (q3 (W_ret (rt1 results122 Z ?_)))))
   rw[List.drop_of_length_le oM]at hp
   exact H.retO (k:=0) rfl (by rw[←hp,Sp.putGo,if_neg (by simp[*])];exact AccOf.mk aN hchk49) (acc_nd _ _ _ _ _)
  intro hc45'
  try simp only[nrm]at hc45'
  refine W_skip (N_K (q2 (pe 2 Z (q3 (W_ret (rt1 results122 Z ?_))))))
  rw[List.drop_of_length_le oM]at hp
  exact H.retO (k:=0) rfl (by rw[←hp,Sp.putGo,if_pos (by assumption),List.append_nil];exact AccOf.mk aN hchk5_0) (acc_nd _ _ _ _ _)
theorem l5All_c (w0:World)(G0:PH)(hG:PSub G0 w0)(vlist:Value)(list:List (BItem))(hlist:RdItems G0 vlist list) :
  Calls Tryz.prog 81 #[vlist] w0 (RetO w0 G0 (AccOf itemE 3 51 list)):=by
 obtain⟨alist,klist,rfl⟩:=hlist.shape
 have hlimlist:list.length≤1099511627776:=hlist.lim
 have H:=Hp.init hG
 refine calls_of_W (l:=[.slice alist list.length klist]) func81 Z ntmps81 Z (q2 (aG Z (q1 (xbs H Z7 ?_))));intro _ _ _ H
 have H:=H.blkAcc 3 (k:=0) (n:=0) rfl rfl (by decide)
 refine aG Z (q3 (W_seq (q2 (aG Z (q3 (W_block ?_))))))
 refine W_lp (hf:=(Sub.cons (t:=0) Z (Sub.cons (t:=2) Z Sub.nil))) (J:=fun M w m=>∃(v:Value) (n:Nat) (cs:List Value) (xs:List (BItem)) (k:Nat) (G:PH),M=[(4,.int .i64 (k:Int)),(3,v)]∧PLe G0 G∧Hp w0 G0 [] w G [acc 51 3 v n cs]∧(Chk itemE 3 G cs xs∧n=xs.length∧k≤list.length∧xs.length=k∧xs=list.take k)∧m=(list.length-k)) (h0:=⟨_,_,_,[],0,_,Z,PLe.refl _,H,?inv,Z⟩) (round:=?round)
 case inv=>exact⟨(Chk.nil (E:=itemE) (sz:=3) (G:=G0)),by first|rfl|simp|(simp;omega)|omega,(by simp)⟩
 case round =>
  rintro _ _ _ ⟨v,n,cs,xs,k,_,rfl,hle2,H,hinv2,rfl⟩
  have hlist:=hlist.up hle2
  obtain⟨hchk2_0,_,hinv2⟩:=hinv2
  obtain⟨_,_,rfl⟩:=H.accShape (k:=0) rfl
  obtain⟨_,hxl,hxs⟩:=hinv2
  refine W_seq (q2 (pe 2 Z (lN Z (pe 1 Z (q3 ?_)))))
  refine W_cond Z ?_ ?_
  ·intro hc3
   try simp only[nrm]at hc3
   refine W_skip (N_K (W_seq (W_block (W_region (pe 3 Z (iP k hlist Z3 Z ?_))))));intro _ _ z4 _ hz4 hE4 hrow4
   obtain⟨_,_,_,rfl,hi4,hr4,_,_⟩:=ox hE4
   refine o_loadagg_P H isAgg51 sizeOf51 Z Z hrow4 Z (xc Z2 (l5Copy_c _ _ H.sub _ _ ⟨_,_,_,Z,hi4,hr4⟩) ?_)
   rintro _ _ ⟨_,_,g5,rfl,_,rfl,hr5_0⟩
   have H:=H.grow g5
   have hchk2_0:=hchk2_0.up g5.le
   have hle2:=hle2.trans g5.le
   obtain⟨_,_,_,rfl,hi6,hr6,_,_⟩:=ox hr5_0
   refine⟨_,Z,?_⟩
   refine xbs H Z7 ?_;intro _ _ _ H
   refine o_append1 0 H (sz:=3) (bytes:=48) underlying29 typeInfo51 ⟨_,Z,Z⟩ Z Z Z Z Z Z Z Z Z Z oM Z ?_;intro _ _ H
   have hchk8:=hchk2_0.snoc (show itemE _ z4 _ from⟨_,_,_,rfl,hi6,hr6⟩) rfl
   obtain⟨_,_,rfl⟩:=H.accShape (k:=0) rfl
   refine aG Z (R_nil (N_B (N_K (W_region (mV Z (aD Z2 (aG Z (R_nil ?_))))))))
   refine N_lp (hJ:=⟨_,_,_,(xs++[z4]),k+1,_,Z,hle2,H,?inv,Z⟩) (hm:=?hm)
   case hm=>omega
   case inv=>exact⟨hchk8,aN,(by exact⟨by omega,by simp[hxl],by rw[Sp.take_succ' hz4,hxs]⟩)⟩
  intro hc3'
  try simp only[nrm]at hc3'
  refine W_exit (N_K_exit (N_LP_exit (N_B_same (N_K (q2 (pe 2 Z (q3 (W_ret (rt1 results81 Z ?_)))))))))
  obtain rfl:k=list.length:=by omega
  rw[List.take_length]at hxs
  subst hxs
  exact H.retO (k:=0) rfl (AccOf.mk (by assumption) hchk2_0) (acc_nd _ _ _ _ _)
theorem l11Count_c (w0:World)(G0:PH)(hG:PSub G0 w0)(vlist:Value)(list:List (BItem))(hlist:RdItems G0 vlist list)(id:Int)(hT:Sp.TreeValid list=true) :
  Calls Tryz.prog 131 #[vlist,.int .i64 id] w0 (Rets w0 (.int .i64 (Sp.l11Count list id:Int))):=by
 obtain⟨alist,klist,rfl⟩:=hlist.shape
 have hlimlist:list.length≤1099511627776:=hlist.lim
 have htl:=Sp.tree_len hT
 have H:=Hp.init hG
 refine calls_of_W (l:=[.slice alist list.length klist,.int .i64 id]) func131 Z ntmps131 Z (q2 (aG Z (q1 (aG Z (q3 (W_seq (q2 (aG Z (q3 (W_block ?_))))))))))
 refine W_lp (hf:=(Sub.cons (t:=0) Z (Sub.cons (t:=1) Z (Sub.cons (t:=4) Z Sub.nil)))) (J:=fun M w m=>∃(c k:Nat) (G:PH),M=[(5,.int .i64 (c:Int)),(6,.int .i64 (k:Int))]∧PLe G0 G∧Hp w0 G0 [] w G []∧(k≤list.length∧c=Sp.cntU list id k)∧m=(list.length-k)) (h0:=⟨0,0,_,Z,PLe.refl _,H,?inv,Z⟩) (round:=?round)
 case inv=>exact⟨by omega,by simp[Sp.cntU]⟩
 case round =>
  rintro _ _ _ ⟨c,k,G1,rfl,hle1,H,hinv1,rfl⟩
  have hlist:=hlist.up hle1
  obtain⟨hk,hc⟩:=hinv1;have hcu:=Sp.cntU_le hT k hk (id:=id)
  refine W_seq (q2 (pe 2 Z (lN Z (pe 1 Z (q3 ?_)))))
  refine W_cond Z ?_ ?_
  ·intro hc2
   try simp only[nrm]at hc2
   refine W_skip (N_K (W_seq (W_block (q2 (aG Z (q3 (W_block ?_)))))))
   refine W_lp (hf:=(Sub.cons (t:=0) Z (Sub.cons (t:=1) Z (Sub.cons (t:=4) Z (Sub.cons (t:=6) Z Sub.nil))))) (J:=fun M w m=>∃(c2 j:Nat) (y:BItem) (G:PH),M=[(5,.int .i64 (c2:Int)),(7,.int .i64 (j:Int))]∧PLe G1 G∧Hp w0 G0 [] w G []∧(list[k]? = some y∧j≤y.ids.length∧c2=Sp.cntU list id k+Sp.cnt1 id (y.ids.take j))∧m=(y.ids.length-j)) (h0:=⟨c,0,(list[k]'oM),_,Z,PLe.refl _,H,?inv,Z⟩) (round:=?round)
   case inv=>exact⟨by simp,by omega,by simp[hc,Sp.cnt1]⟩
   case round =>
    rintro _ _ _ ⟨c2,j,y,_,rfl,hle3,H,hinv3,rfl⟩
    have hlist:=hlist.up hle3
    have hle1:=hle1.trans hle3
    obtain⟨hy,_,hc2⟩:=hinv3;have hc4:=(Sp.tree_at hT hy).2;have hc1:=Sp.cnt1_le id (y.ids.take j);have htk:(y.ids.take j).length≤j:=by simp;omega
    refine W_seq (q2 (pe 3 Z (iP k hlist Z3 Z ?_)));intro _ _ z4 _ hz4 hE4 hrow4
    obtain⟨_,_,_,rfl,_,_,_,_⟩:=ox hE4
    have hzz4:y=z4:=Option.some.inj (hy.symm.trans hz4)
    subst hzz4
    refine fA 2 Z (lP H hrow4 2 Z2 (lN Z (pe 1 Z (q3 ?_))))
    refine W_cond Z ?_ ?_
    ·intro hc5
     try simp only[nrm]at hc5
     refine W_skip (N_K (W_seq (W_block (q2 (pe 2 Z (iP k hlist Z3 Z ?_))))));intro _ _ z6 _ hz6 hE6 hrow6
     obtain⟨_,_,_,rfl,_,hr6,_,_⟩:=ox hE6
     have hzz6:y=z6:=Option.some.inj (hy.symm.trans hz6)
     subst hzz6
     refine fA 2 Z (lP H hrow6 2 Z2 (mV Z (iP j hr6 Z3 Z ?_)));intro _ _ _ _ hz7 hE7 hrow7
     obtain⟨rfl,_⟩:=hE7
     refine lP H hrow7 0 Z2 (pe 2 Z (q3 ?_))
     refine W_cond Z ?_ ?_
     ·intro hc8
      try simp only[nrm]at hc8
      refine W_region (mV Z (aD Z2 (aG Z (R_nil (N_B (N_K (W_region (mV Z (aD Z2 (aG Z (R_nil ?_)))))))))))
      refine N_lp (hJ:=⟨c2+1,j+1,y,_,Z,hle3,H,?inv,Z⟩) (hm:=?hm)
      case hm=>omega
      case inv=>exact⟨hy,by omega,by rw[Sp.cnt1_succ hz7,if_pos oM,hc2];omega⟩
     intro hc8'
     try simp only[nrm]at hc8'
     refine W_skip (N_B (N_K (W_region (mV Z (aD Z2 (aG Z (R_nil ?_)))))))
     refine N_lp (hJ:=⟨c2,j+1,y,_,Z,hle3,H,?inv,Z⟩) (hm:=?hm)
     case hm=>omega
     case inv=>exact⟨hy,by omega,by rw[Sp.cnt1_succ hz7,if_neg oM,hc2];omega⟩
    intro hc5'
    try simp only[nrm]at hc5'
    refine W_exit (N_K_exit (N_LP_exit (N_B_same (N_B (N_K (W_region (mV Z (aD Z2 (aG Z (R_nil ?_))))))))))
    refine N_lp (hJ:=⟨c2,k+1,_,Z,hle1,H,?inv,Z⟩) (hm:=?hm)
    case hm=>omega
    case inv=>exact⟨by omega,by rw[hc2,Sp.cntU_succ hy,List.take_of_length_le oM]⟩
  intro hc2'
  try simp only[nrm]at hc2'
  refine W_exit (N_K_exit (N_LP_exit (N_B_same (N_K (q2 (pe 2 Z (q3 (W_ret (rt1 results131 Z ?_)))))))))
  obtain rfl:k=list.length:=by omega
  exact H.rets (congrArg (Value.int .i64) (by rw[hc];rfl))
theorem l11Files_c (w0:World)(G0:PH)(hG:PSub G0 w0)(vstore:Value)(store:List (BHeld))(hstore:RdH G0 vstore store)(vlist:Value)(list:List (BItem))(hlist:RdItems G0 vlist list) :
  Calls Tryz.prog 73 #[vstore,vlist] w0 (Rets w0 (.bool (Sp.l11Files store list))):=by
 obtain⟨astore,kstore,rfl⟩:=hstore.shape
 have hlimstore:store.length≤1099511627776:=hstore.lim
 obtain⟨alist,klist,rfl⟩:=hlist.shape
 have hlimlist:list.length≤1099511627776:=hlist.lim
 have H:=Hp.init hG
 refine calls_of_W (l:=[.slice astore store.length kstore,.slice alist list.length klist]) func73 Z ntmps73 Z (q2 (aG Z (q3 (W_seq (q2 (aG Z (q3 (W_block ?_))))))))
 refine W_lp (hf:=(Sub.cons (t:=0) Z (Sub.cons (t:=1) Z Sub.nil))) (J:=fun M w m=>∃(k:Nat) (G:PH),M=[(5,.int .i64 (k:Int))]∧PLe G0 G∧Hp w0 G0 [] w G []∧(k≤list.length∧(list.take k).all (Sp.fileOk store)=true)∧m=(list.length-k)) (h0:=⟨0,_,Z,PLe.refl _,H,?inv,Z⟩) (round:=?round)
 case inv=>exact⟨by omega,by simp⟩
 case round =>
  rintro _ _ _ ⟨k,_,rfl,hle1,H,hinv1,rfl⟩
  have hstore:=hstore.up hle1
  have hlist:=hlist.up hle1
  obtain⟨_,hall⟩:=hinv1
  refine W_seq (q2 (pe 2 Z (lN Z (pe 1 Z (q3 ?_)))))
  refine W_cond Z ?_ ?_
  ·intro hc2
   try simp only[nrm]at hc2
   refine W_skip (N_K (W_seq (W_block (q2 (pe 3 Z (iP k hlist Z3 Z ?_))))));intro _ _ _ _ hz3 hE3 hrow3
   obtain⟨_,_,_,rfl,_,hr3,_,_⟩:=ox hE3
   refine fA 2 Z (lP H hrow3 2 Z2 (xr H Z2 (l4Ids_c _ _ H.sub _ _ hstore _ _ hr3) ?_));intro _ H
   refine pe 1 Z (q3 ?_)
   refine W_cond Z ?_ ?_
   ·intro hc5
    try simp only[nrm]at hc5
    refine q2 (aG Z (q3 (W_ret (N_B_ret (N_K_ret (N_LP_ret (N_B_ret (N_K_ret (rt1 results73 Z ?_)))))))))
    exact H.rets (congrArg Value.bool (by rw[Sp.l11Files,Sp.all_false hz3 (by simp[Sp.fileOk, *])]))
   intro hc5'
   try simp only[nrm]at hc5'
   refine W_skip (N_B (N_K (W_region (mV Z (aD Z2 (aG Z (R_nil ?_)))))))
   refine N_lp (hJ:=⟨k+1,_,Z,hle1,H,?inv,Z⟩) (hm:=?hm)
   case hm=>omega
   case inv=>exact⟨by omega,Sp.all_take hall hz3 (by simp[Sp.fileOk, *])⟩
  intro hc2'
  try simp only[nrm]at hc2'
  refine W_exit (N_K_exit (N_LP_exit (N_B_same (N_K (q2 (aG Z (q3 (W_ret (rt1 results73 Z ?_)))))))))
  obtain rfl:k=list.length:=by omega
  rw[List.take_length]at hall
  exact H.rets (congrArg Value.bool (by rw[Sp.l11Files,hall]))
end Go.Proofs.Tst
