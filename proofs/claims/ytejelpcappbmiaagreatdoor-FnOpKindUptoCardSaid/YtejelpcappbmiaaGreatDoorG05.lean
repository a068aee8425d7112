/- Part 5 of the proof: contracts of functions of the program. Conditions: none. -/
import Derived.Test.YtejelpcappbmiaaGreatDoorProg
import Derived.Test.YtejelpcappbmiaaGreatDoorG02
import Derived.Test.YtejelpcappbmiaaGreatDoorG03
import Derived.Test.YtejelpcappbmiaaGreatDoorG04
import Derived.Conc.MuLone
import Derived.KernelRfl
set_option linter.all false
set_option maxRecDepth 100000
set_option maxHeartbeats 8000000
namespace Go.Proofs.Tst
open Go Fw Tryz
theorem i_keep_c (w0:World)(G0:PH)(hG:PSub G0 w0)(mbs:Nat)(ess:Array MapEntry)(cks:Nat)(xss:List (Int×Value))(Ls:List BHeld)(hms:MapIs (Value.int .i64) ess cks xss)(hSs:StR G0 xss Ls)(hVs:Sp.VH Ls)(id:Int)(hLent:Lent w0 G0 [blk mbs (.map ess cks)]) :
  Calls Tryz.prog 243 #[.map (some mbs),.int .i64 id] w0 (RetM w0 G0 [mbs] (fun G' v Bs=>∃(es':Array MapEntry) (ck':Nat) (xs':List (Int×Value)) (L':List BHeld),v= .bool (Sp.StoreKeep Ls id).isSome∧Bs=[blk mbs (.map es' ck')]∧MapIs (Value.int .i64) es' ck' xs'∧StR G' xs' L'∧Sp.VH L'∧L'=(Sp.StoreKeep Ls id).getD Ls)):=by
 have H:Hp w0 G0 [mbs] w0 G0 [blk mbs (.map ess cks)]:=hLent.hp
 refine calls_of_W (l:=[.map (some mbs),.int .i64 id]) func243 Z ntmps243 Z (q2 (aG Z (q1 (pe 2 Z (o_lookS2 (H.at (k:=0) Z) hms hSs underlying121 underlying3 zeroValue153 Z Z Z ?_)))));intro _ hE1
 obtain⟨_,_,_,rfl,_,hr1,_,_,_⟩:=ox hE1
 have hfnd:True:=trivial
 refine pe 3 Z (xal H Z ?_);intro _ _ _ H
 refine xst 0 H Z8 ?_;intro _ H
 refine aG Z (q3 (W_seq (q2 (pe 3 Z ?_))))
 refine R_case (t:=15) Z ?_ ?_
 ·intro hc4
  try simp only[nrm]at hc4
  refine pe 4 Z (q3 (W_true Z (q2 (aG Z (q3 (W_ret (N_K_ret (rt1 results243 Z ?_))))))))
  have H:=H.dl 0
  exact H.retM ⟨_,_,_,_,congrArg Value.bool (by rw[Sp.keep_no hVs (.inl (by simpa using hc4))];rfl),rfl,hms,hSs,hVs,by rw[Sp.keep_no hVs (.inl (by simpa using hc4))];rfl⟩
 intro hc4'
 try simp only[nrm]at hc4'
 have hfd:(Sp.atH Ls id).isSome=true:=by simpa using hc4'
 have hgo:=Sp.get_ok hVs hfd
 refine gR Z (fA 2 Z (gR Z (lB 0 H Z3 (pe 2 Z (q3 ?_)))))
 refine W_cond Z ?_ ?_
 ·intro hc5
  try simp only[nrm]at hc5
  refine q2 (aG Z (q3 (W_ret (N_K_ret (rt1 results243 Z ?_)))))
  have H:=H.dl 0
  exact H.retM ⟨_,_,_,_,congrArg Value.bool (by rw[Sp.keep_no hVs (.inr oM)];rfl),rfl,hms,hSs,hVs,by rw[Sp.keep_no hVs (.inr oM)];rfl⟩
 intro hc5'
 try simp only[nrm]at hc5'
 have hkg:=Sp.keep_get hVs hfd oM
 refine W_skip (N_K (q2 (fA 2 Z (lB 0 H Z3 (aD Z2 (fA 2 Z (xst 0 H Z8 ?_)))))));intro _ H
 refine q1 (pe 2 Z (lA 0 3 H Z4 ?_))
 refine o_updS 1 H ⟨(getH Ls id).id,(getH Ls id).bytes,(getH Ls id).uses+1⟩ Z hms hSs underlying121 underlying3 Z Z Z (show heldE G0 ⟨(getH Ls id).id,(getH Ls id).bytes,(getH Ls id).uses+1⟩ _ from⟨_,_,_,Z,⟨by first|omega|(dsimp only;omega),by first|omega|(dsimp only;omega)⟩,hr1,⟨by first|omega|(dsimp only;omega),by first|omega|(dsimp only;omega)⟩⟩) (by exact Sp.get_id hfd) ?_;intro _ _ _ _ H hm8 hS8
 refine q1 (aG Z (q3 (W_ret (rt1 results243 Z ?_))))
 have H:=H.dl 0
 exact H.retM ⟨_,_,_,_,congrArg Value.bool (by rw[hkg.1];rfl),rfl,hm8,hS8,hkg.2,by rw[hkg.1];rfl⟩
theorem i_drop_c (w0:World)(G0:PH)(hG:PSub G0 w0)(mbs:Nat)(ess:Array MapEntry)(cks:Nat)(xss:List (Int×Value))(Ls:List BHeld)(hms:MapIs (Value.int .i64) ess cks xss)(hSs:StR G0 xss Ls)(hVs:Sp.VH Ls)(id:Int)(hLent:Lent w0 G0 [blk mbs (.map ess cks)]) :
  Calls Tryz.prog 252 #[.map (some mbs),.int .i64 id] w0 (RetM w0 G0 [mbs] (fun G' v Bs=>∃(es':Array MapEntry) (ck':Nat) (xs':List (Int×Value)) (L':List BHeld),v= .bool (Sp.StoreDrop Ls id).isSome∧Bs=[blk mbs (.map es' ck')]∧MapIs (Value.int .i64) es' ck' xs'∧StR G' xs' L'∧Sp.VH L'∧L'=(Sp.StoreDrop Ls id).getD Ls)):=by
 have H:Hp w0 G0 [mbs] w0 G0 [blk mbs (.map ess cks)]:=hLent.hp
 refine calls_of_W (l:=[.map (some mbs),.int .i64 id]) func252 Z ntmps252 Z (q2 (aG Z (q1 (pe 2 Z (o_lookS2 (H.at (k:=0) Z) hms hSs underlying121 underlying3 zeroValue153 Z Z Z ?_)))));intro _ hE1
 obtain⟨_,_,_,rfl,_,hr1,_,_,_⟩:=ox hE1
 refine pe 3 Z (xal H Z ?_);intro _ _ _ H
 refine xst 0 H Z8 ?_;intro _ H
 refine aG Z (q3 (W_seq (q2 (pe 2 Z (q3 ?_)))))
 refine W_cond Z ?_ ?_
 ·intro hc4
  try simp only[nrm]at hc4
  refine q2 (aG Z (q3 (W_ret (N_K_ret (rt1 results252 Z ?_)))))
  have H:=H.dl 0
  exact H.retM ⟨_,_,_,_,congrArg Value.bool (by rw[Sp.drop_no (by simpa using hc4)];rfl),rfl,hms,hSs,hVs,by rw[Sp.drop_no (by simpa using hc4)];rfl⟩
 intro hc4'
 try simp only[nrm]at hc4'
 have hfd:(Sp.atH Ls id).isSome=true:=by simpa using hc4'
 have hgo:=Sp.get_ok hVs hfd
 refine W_skip (N_K (W_seq (q2 (fA 2 Z (lB 0 H Z3 (pe 1 Z (q3 ?_)))))))
 refine W_cond Z ?_ ?_
 ·intro hc5
  try simp only[nrm]at hc5
  have hkg:=Sp.drop_get1 hVs hfd hc5
  refine q2 (pe 2 Z (o_delS 1 H Z hms hSs underlying121 underlying3 Z Z ?_));intro _ _ _ _ H hm6 hS6
  refine q1 (aG Z (q3 (W_ret (N_K_ret (rt1 results252 Z ?_)))))
  have H:=H.dl 0
  exact H.retM ⟨_,_,_,_,congrArg Value.bool (by rw[hkg.1];rfl),rfl,hm6,hS6,hkg.2,by rw[hkg.1];rfl⟩
 intro hc5'
 try simp only[nrm]at hc5'
 have hkg:=Sp.drop_get2 hVs hfd hc5'
 refine W_skip (N_K (q2 (fA 2 Z (lB 0 H Z3 (o_sub Z Z Z oO (fA 2 Z (xst 0 H Z8 ?_)))))));intro _ H
 refine q1 (pe 2 Z (lA 0 3 H Z4 ?_))
 refine o_updS 1 H ⟨(getH Ls id).id,(getH Ls id).bytes,(getH Ls id).uses-1⟩ Z hms hSs underlying121 underlying3 Z Z Z (show heldE G0 ⟨(getH Ls id).id,(getH Ls id).bytes,(getH Ls id).uses-1⟩ _ from⟨_,_,_,Z,⟨by first|omega|(dsimp only;omega),by first|omega|(dsimp only;omega)⟩,hr1,⟨by first|omega|(dsimp only;omega),by first|omega|(dsimp only;omega)⟩⟩) (by exact Sp.get_id hfd) ?_;intro _ _ _ _ H hm9 hS9
 refine q1 (aG Z (q3 (W_ret (rt1 results252 Z ?_))))
 have H:=H.dl 0
 exact H.retM ⟨_,_,_,_,congrArg Value.bool (by rw[hkg.1];rfl),rfl,hm9,hS9,hkg.2,by rw[hkg.1];rfl⟩
theorem i_find_c (w0:World)(G0:PH)(hG:PSub G0 w0)(mbs:Nat)(ess:Array MapEntry)(cks:Nat)(xss:List (Int×Value))(Ls:List BHeld)(hbs:MapAt G0 mbs ess cks)(hms:MapIs (Value.int .i64) ess cks xss)(hSs:StR G0 xss Ls)(hVs:Sp.VH Ls)(vbytes:Value)(bytes:List (Int))(hbytes:RdI G0 vbytes bytes) :
  Calls Tryz.prog 275 #[.map (some mbs),vbytes] w0 (Rets w0 (.int .i64 (Sp.findId Ls bytes))):=by
 obtain⟨abytes,kbytes,rfl⟩:=hbytes.shape
 have hlimbytes:bytes.length≤1099511627776:=hbytes.lim
 have H:=Hp.init hG
 refine calls_of_W (l:=[.map (some mbs),.slice abytes bytes.length kbytes]) func275 Z ntmps275 Z (q2 (aG Z (q3 (W_seq (q2 (mV Z ?_))))))
 have hmb1:=(hbs.at H.sub);refine o_range H hmb1 underlying121 rfl rfl ?_;intro r1 _ _ H _;have hne1:r1≠mbs:=fun e=>by have:=(Array.getElem?_eq_some_iff.1 hmb1).1;omega
 refine q3 (W_block ?_)
 refine W_lp (hf:=(Sub.cons (t:=1) Z (Sub.cons (t:=8) Z Sub.nil))) (J:=fun M w m=>∃(sn:Array Nat) (G:PH),M=[]∧PLe G0 G∧Hp w0 G0 [] w G [blk r1 (.mapIter (some mbs) cks sn cks)]∧(∀y,y ∈ Ls→seenH ess sn y→Sp.l2Same y.bytes bytes=false)∧m=((leftOf ess sn).size)) (h0:=⟨#[],_,Z,PLe.refl _,H,?inv,Z⟩) (round:=?round)
 case inv=>rintro y hy ⟨e,_,_,he⟩;simp at he
 case round =>
  rintro _ _ _ ⟨sn,_,rfl,hle2,H,hinv2,rfl⟩
  have hSs:=hSs.up hle2
  have hbs:=hbs.up hle2
  have hbytes:=hbytes.up hle2
  have hsn:=hinv2
  refine q2 ?_
  refine o_next 0 H (hbs.at H.sub) hms hSs Z hne1 Z Z ?_ ?_
  ·intro hall3
   refine pe 1 Z (q3 (W_seq (W_false Z (W_exit (N_K_exit (N_LP_exit (N_B_same (N_K (q2 (aG Z (q3 (W_ret (rt1 results275 Z ?_)))))))))))))
   exact H.rets (congrArg (Value.int .i64) (by rw[Sp.findId_none (fun y hy=>hsn y hy (hall3 y hy))]))
  intro _ _ _ _ he3 hk3 hv3 hy3 hE3 _ hless3 H
  obtain⟨_,_,_,rfl,_,hr3,_,_,_⟩:=ox hE3
  refine pe 1 Z (q3 (W_seq (W_true Z (W_skip (N_K (W_block (q2 (o_entry 0 H (hbs.at H.sub) hms Z he3 hk3 hv3 Z Z (pe 2 Z (xal H Z ?_))))))))));intro _ _ _ H
  refine aG Z (xst 0 H Z8 ?_);intro _ H
  refine q1 (fA 1 Z (lB 0 H Z3 (mV Z (xr H Z2 (l_Equal_c _ _ H.sub _ _ hr3 _ _ hbytes) ?_))));intro _ H
  refine q3 ?_
  refine W_cond Z ?_ ?_
  ·intro hc7
   try simp only[nrm]at hc7
   refine q2 (pe 2 Z (q3 (W_ret (N_B_ret (N_LP_ret (N_B_ret (N_K_ret (rt1 results275 Z ?_))))))))
   exact H.rets (congrArg (Value.int .i64) (by rw[Sp.findId_some hVs hy3 hc7]))
  intro hc7'
  try simp only[nrm]at hc7'
  refine W_skip (N_B ?_)
  have H:=H.dl 0
  refine N_lp (hJ:=⟨_,_,Z,hle2,H,?inv,Z⟩) (hm:=?hm)
  case hm=>exact hless3
  case inv=>intro y hy hs;rcases seenH_push hms (hSs.nd hms) he3 hk3 hy3 hy hs with rfl|h;(· exact hc7');exact hsn y hy h
theorem i_put_c (w0:World)(G0:PH)(hG:PSub G0 w0)(mbs:Nat)(ess:Array MapEntry)(cks:Nat)(xss:List (Int×Value))(Ls:List BHeld)(hms:MapIs (Value.int .i64) ess cks xss)(hSs:StR G0 xss Ls)(hVs:Sp.VH Ls)(vbytes:Value)(bytes:List (Int))(hbytes:RdI G0 vbytes bytes)(hLent:Lent w0 G0 [blk mbs (.map ess cks)])(hB:Sp.BlockValid bytes=true) :
  Calls Tryz.prog 250 #[.map (some mbs),vbytes] w0 (RetM w0 G0 [mbs] (fun G' v Bs=>∃(es':Array MapEntry) (ck':Nat) (xs':List (Int×Value)) (L':List BHeld) (i:Int),v= .tuple #[.int .i64 i,.bool (Sp.StorePut Ls bytes).isSome]∧Bs=[blk mbs (.map es' ck')]∧MapIs (Value.int .i64) es' ck' xs'∧StR G' xs' L'∧Sp.VH L'∧L'=((Sp.StorePut Ls bytes).map (·.1)).getD Ls∧inI i∧∀r,Sp.StorePut Ls bytes=some r→r.2=i)):=by
 obtain⟨abytes,kbytes,rfl⟩:=hbytes.shape
 have hlimbytes:bytes.length≤1099511627776:=hbytes.lim
 have hfin:=Sp.findId_in hVs bytes
 have H:Hp w0 G0 [mbs] w0 G0 [blk mbs (.map ess cks)]:=hLent.hp
 refine calls_of_W (l:=[.map (some mbs),.slice abytes bytes.length kbytes]) func250 Z ntmps250 Z (q2 (pe 2 Z (q3 (W_seq (q2 (pe 2 Z (xr H Z2 (i_find_c _ _ (H.lendSubL [0]) _ _ _ _ _ (H.lendPredL (k:=0) (ks:=[0]) Z Z) hms (hSs.up (PPlus.le _ _ _)) hVs _ _ (hbytes.up (PPlus.le _ _ _))) ?_)))))));intro _ H
 refine aG Z (q1 (pe 2 Z (q3 ?_)))
 refine W_cond Z ?_ ?_
 ·intro hc2
  try simp only[nrm]at hc2
  obtain⟨_,_,hp1,hp2,hp3⟩:=Sp.findId_ne hVs hc2
  have hpo:=Sp.put_old hVs hB hp1 hp2
  rw[←hp3]at hpo
  refine q2 (pe 3 Z (xc Z2 (i_keep_c _ _ H.sub _ _ _ _ _ hms hSs hVs _ H.lent1) ?_))
  rintro _ _ ⟨_,_,_,rfl,H3',⟨_,_,_,_,rfl,rfl,hm3,hS3,hV3,hL3⟩⟩
  have H:=H.borrow1 H3'
  refine⟨_,Z,?_⟩
  refine pe 2 Z (q3 (W_ret (N_K_ret (rt2 results250 Z Z ?_))))
  exact H.retM ⟨_,_,_,_,Sp.findId Ls bytes,congrArg (fun b=>Value.tuple #[Value.int .i64 (Sp.findId Ls bytes),Value.bool b]) (by rw[hpo,Option.isSome_map]),rfl,hm3,hS3,hV3,(by rw[hL3,hpo];cases Sp.StoreKeep Ls (Sp.findId Ls bytes)<;>rfl),oO,fun r hr=>by rw[hpo]at hr;cases hk:Sp.StoreKeep Ls (Sp.findId Ls bytes) with |none=>rw[hk]at hr;cases hr|some l=>(rw[hk]at hr;cases hr;rfl)⟩
 intro hc2'
 try simp only[nrm]at hc2'
 have hnl:=Sp.findId_eq hVs hc2'
 refine W_skip (N_K (W_seq (q2 (mV Z ?_))))
 have hml4:=hSs.len
 refine o_lenM (H.at (k:=0) Z) hms underlying121 Z Z (pe 1 Z (q3 ?_))
 refine W_cond Z ?_ ?_
 ·intro hc5
  try simp only[nrm]at hc5
  refine q2 (pe 2 Z (q3 (W_ret (N_K_ret (rt2 results250 Z Z ?_)))))
  exact H.retM ⟨_,_,_,_,0,congrArg (fun b=>Value.tuple #[Value.int .i64 (0),Value.bool b]) (by rw[Sp.put_full hnl oM];rfl),rfl,hms,hSs,hVs,(by rw[Sp.put_full hnl oM];rfl),by decide,fun r hr=>by rw[Sp.put_full hnl oM]at hr;cases hr⟩
 intro hc5'
 try simp only[nrm]at hc5'
 refine W_skip (N_K (q2 (aG Z (q3 (W_seq (W_block ?_))))))
 refine W_lp (hf:=(Sub.cons (t:=0) Z (Sub.cons (t:=1) Z (Sub.cons (t:=4) Z (Sub.cons (t:=5) Z Sub.nil))))) (J:=fun M w m=>∃(k:Nat) (G:PH),M=[(7,.int .i64 ((k:Int)+1))]∧PLe G0 G∧Hp w0 G0 [mbs] w G [blk mbs (.map ess cks)]∧(∀j:Nat,j<k→(Sp.atH Ls ((j:Int)+1)).isSome=true)∧m=(Ls.length+1-k)) (h0:=⟨0,_,Z,PLe.refl _,H,?inv,Z⟩) (round:=?round)
 case inv=>exact fun j hj=>by omega
 case round =>
  rintro _ _ _ ⟨k,_,rfl,hle6,H,hinv6,rfl⟩
  have hSs:=hSs.up hle6
  have hbytes:=hbytes.up hle6
  have hall:=hinv6;have hkl:=Sp.free_le hall;have hv16:=hVs.len
  refine W_seq (q2 (pe 2 Z (o_lookS (H.at (k:=0) Z) hms hSs underlying121 underlying3 zeroValue153 Z Z Z ?_)));intro _ hE7
  obtain⟨_,_,_,rfl,_,hr7,_,_,_⟩:=ox hE7
  refine o_field 2 runUnderlying153 Z Z Z isAgg3 Z Z Z (pe 1 Z (q3 ?_))
  refine W_cond Z ?_ ?_
  ·intro hc8
   try simp only[nrm]at hc8
   refine W_skip (N_K (W_block (W_region (mV Z (aD Z2 (aG Z (R_nil (N_B ?_))))))))
   refine N_lp (hJ:=⟨k+1,_,Z,hle6,H,?inv,Z⟩) (hm:=?hm)
   case hm=>omega
   case inv=>exact Sp.upto_succ (p:=fun j:Nat=>(Sp.atH Ls ((j:Int)+1)).isSome) hall (Sp.uses_some hc8)
  intro hc8'
  try simp only[nrm]at hc8'
  refine W_exit (N_K_exit (N_LP_exit (N_B_same (N_K (q2 (pe 4 Z (xc Z2 (l_Clone_c _ _ H.sub _ _ hbytes) ?_)))))))
  rintro _ _ ⟨_,_,_,g10,rfl,⟨_,rfl,hchk10⟩,hp10,hq10,hs10⟩
  have H:=H.growO g10 hp10 hq10 hs10;obtain⟨_,_,rfl⟩:=H.accShape (k:=0) rfl
  have hSs:=hSs.up g10.le
  refine⟨_,Z,?_⟩
  refine o_build bf153 Z Z Z ?_
  obtain⟨G12,H,hsg12,hsr12⟩:=H.shutL (k:=0) rfl (H.apart (k:=0) (ks:=[1]) rfl rfl (by intro b hb;simpa [fpsAt,nth,blk] using hb)) hchk10 aN aN
  have hSs:=hSs.up hsg12
  refine o_updS 0 H ⟨(k:Int)+1,bytes,1⟩ Z hms hSs underlying121 underlying3 Z Z Z (show heldE G12 ⟨(k:Int)+1,bytes,1⟩ _ from⟨_,_,_,Z,⟨by first|omega|(dsimp only;omega),by first|omega|(dsimp only;omega)⟩,hsr12,⟨by first|omega|(dsimp only;omega),by first|omega|(dsimp only;omega)⟩⟩) rfl ?_;intro _ _ _ _ H hm11 hS11
  refine q1 (pe 3 Z (q3 (W_ret (rt2 results250 Z Z ?_))))
  have hfe:=Sp.free_eq hall (Sp.uses_none hVs (by simpa using hc8'))
  have hpn:=Sp.put_new hVs hB hnl oM
  exact H.retM ⟨_,_,_,_,(k:Int)+1,congrArg (fun b=>Value.tuple #[Value.int .i64 ((k:Int)+1),Value.bool b]) (by rw[hpn];rfl),rfl,hm11,(hS11.perm (Sp.put_perm bytes hfe)),Sp.with_valid hVs hB hnl oM,(by rw[hpn];rfl),oO,fun r hr=>by rw[hpn]at hr;cases hr;simp only[];omega⟩
theorem i_fileIds_c (w0:World)(G0:PH)(hG:PSub G0 w0)(mbs:Nat)(ess:Array MapEntry)(cks:Nat)(xss:List (Int×Value))(Ls:List BHeld)(hbs:MapAt G0 mbs ess cks)(hms:MapIs (Value.int .i64) ess cks xss)(hSs:StR G0 xss Ls)(hVs:Sp.VH Ls)(vids:Value)(ids:List (Int))(hids:RdI G0 vids ids) :
  Calls Tryz.prog 108 #[.map (some mbs),vids] w0 (Rets w0 (.bool (Sp.l4Ids Ls ids))):=by
 obtain⟨aids,kids,rfl⟩:=hids.shape
 have hlimids:ids.length≤1099511627776:=hids.lim
 have H:=Hp.init hG
 refine calls_of_W (l:=[.map (some mbs),.slice aids ids.length kids]) func108 Z ntmps108 Z (q2 (aG Z (q3 (W_seq (q2 (mV Z (lN Z (pe 1 Z (q3 ?_)))))))))
 refine W_cond Z ?_ ?_
 ·intro hc1
  try simp only[nrm]at hc1
  refine q2 (aG Z (q3 (W_ret (N_K_ret (rt1 results108 Z ?_)))))
  exact H.rets (congrArg Value.bool (by rw[Sp.ids_long oM]))
 intro hc1'
 try simp only[nrm]at hc1'
 refine W_skip (N_K (W_seq (q2 (mV Z (lN Z (mV Z (q3 (W_block ?_))))))))
 refine W_lp (hf:=(Sub.cons (t:=0) Z (Sub.cons (t:=1) Z (Sub.cons (t:=12) Z (Sub.cons (t:=13) Z Sub.nil))))) (J:=fun M w m=>∃(k:Nat) (G:PH),M=[(14,.int .i64 (k:Int))]∧PLe G0 G∧Hp w0 G0 [] w G []∧(k≤ids.length∧∀j,j<k→Sp.idsOk Ls ids j=true)∧m=(ids.length-k)) (h0:=⟨0,_,Z,PLe.refl _,H,?inv,Z⟩) (round:=?round)
 case inv=>exact⟨by omega,fun j hj=>by omega⟩
 case round =>
  rintro _ _ _ ⟨k,_,rfl,hle2,H,hinv2,rfl⟩
  have hSs:=hSs.up hle2
  have hbs:=hbs.up hle2
  have hids:=hids.up hle2
  obtain⟨_,hall⟩:=hinv2
  refine q2 (pe 1 Z (q3 (W_seq ?_)))
  refine W_cond Z ?_ ?_
  ·intro hc3
   try simp only[nrm]at hc3
   refine W_skip (N_K (W_seq (W_block (q2 (mV Z (iP k hids Z3 Z ?_))))));intro _ _ z4 _ hz4 hE4 hrow4
   obtain⟨rfl,_⟩:=hE4
   refine lP H hrow4 0 Z2 (pe 2 Z (q1 (pe 2 Z (o_lookS2 (hbs.at H.sub) hms hSs underlying121 underlying3 zeroValue153 Z Z Z ?_))));intro _ hE5
   obtain⟨_,_,_,rfl,_,_,_,_,_⟩:=ox hE5
   refine pe 3 Z (xal H Z ?_);intro _ _ _ H
   refine xst 0 H Z8 ?_;intro _ H
   refine aG Z (q1 (pe 3 Z ?_))
   refine R_case (t:=27) Z ?_ ?_
   ·intro hc8
    try simp only[nrm]at hc8
    refine pe 6 Z (R_pass Z (yl_un Z Z) (R_pass Z (yl_un Z Z) (R_pass Z (yl_un Z Z) (R_pass Z (yl_un Z Z) (pe 2 Z (q3 (W_true Z (q2 (aG Z (q3 (W_ret (N_B_ret (N_K_ret (N_LP_ret (N_B_ret ?_)))))))))))))))
    refine N_K_ret (rt1 results108 Z ?_)
    exact H.rets (congrArg Value.bool (by rw[Sp.ids_false (k:=k) oM (by exact Sp.idsOk_no hz4 (by simpa using hc8))]))
   intro hc8'
   try simp only[nrm]at hc8'
   have hfd:(Sp.atH Ls z4).isSome=true:=by simpa using hc8'
   have hbl:=Sp.bv_len (Sp.get_ok hVs hfd).2.1
   have hio:=Sp.idsOk_get hz4 hfd
   refine pe 2 Z (gR Z (lN Z (gR Z (o_sub Z Z Z oO (pe 2 Z ?_)))))
   refine R_case (t:=33) Z ?_ ?_
   ·intro hc10
    try simp only[nrm]at hc10
    refine gR Z (fA 1 Z (gR Z (lB 0 H Z3 (gR Z (lN Z (pe 3 Z (q3 ?_)))))))
    refine W_cond Z ?_ ?_
    ·intro hc11
     try simp only[nrm]at hc11
     refine q2 (aG Z (q3 (W_ret (N_B_ret (N_K_ret (N_LP_ret (N_B_ret (N_K_ret (rt1 results108 Z ?_)))))))))
     exact H.rets (congrArg Value.bool (by rw[Sp.ids_false (k:=k) oM (by rw[hio];simp;omega)]))
    intro hc11'
    try simp only[nrm]at hc11'
    refine W_skip (N_B (N_K (W_region (aD Z2 (mV Z (R_nil ?_))))))
    have H:=H.dl 0
    refine N_lp (hJ:=⟨k+1,_,Z,hle2,H,?inv,Z⟩) (hm:=?hm)
    case hm=>omega
    case inv=>exact⟨by omega,Sp.upto_succ hall (by rw[hio];simp;omega)⟩
   intro hc10'
   try simp only[nrm]at hc10'
   refine pe 6 Z (q3 (W_false Z (W_skip (N_B (N_K (W_region (aD Z2 (mV Z (R_nil ?_)))))))))
   have H:=H.dl 0
   refine N_lp (hJ:=⟨k+1,_,Z,hle2,H,?inv,Z⟩) (hm:=?hm)
   case hm=>omega
   case inv=>exact⟨by omega,Sp.upto_succ hall (by rw[hio];simp;omega)⟩
  intro hc3'
  try simp only[nrm]at hc3'
  refine W_exit (N_K_exit (N_LP_exit (N_B_same (N_K (q2 (aG Z (q3 (W_ret (rt1 results108 Z ?_)))))))))
  exact H.rets (congrArg Value.bool (by rw[Sp.ids_true (fun j hj=>hall j oM) oM]))
theorem i_loadFile_c (w0:World)(G0:PH)(hG:PSub G0 w0)(mbs:Nat)(ess:Array MapEntry)(cks:Nat)(xss:List (Int×Value))(Ls:List BHeld)(hbs:MapAt G0 mbs ess cks)(hms:MapIs (Value.int .i64) ess cks xss)(hSs:StR G0 xss Ls)(hVs:Sp.VH Ls)(vids:Value)(ids:List (Int))(hids:RdI G0 vids ids) :
  Calls Tryz.prog 187 #[.map (some mbs),vids] w0 (RetN w0 G0 (fun v Bs=>∃(u:Value) (c:List Value) (xs:List Int),v= .tuple #[u,.bool (Sp.l4Ids Ls ids)]∧Bs=[acc 3 1 u xs.length c]∧Chk intE 1 (fun _=>none) c xs∧xs.length≤1000∧(Sp.l4Ids Ls ids=true→xs=Sp.load Ls ids)∧(Sp.l4Ids Ls ids=false→xs=[]))):=by
 obtain⟨aids,kids,rfl⟩:=hids.shape
 have hlimids:ids.length≤1099511627776:=hids.lim
 have H:=Hp.init hG
 refine calls_of_W (l:=[.map (some mbs),.slice aids ids.length kids]) func187 Z ntmps187 Z (q2 (pe 2 Z (q3 (W_seq (q2 (pe 2 Z (xr H Z2 (i_fileIds_c _ _ H.sub _ _ _ _ _ hbs hms hSs hVs _ _ hids) ?_)))))));intro _ H
 refine pe 1 Z (q3 ?_)
 refine W_cond Z ?_ ?_
 ·intro hc2
  try simp only[nrm]at hc2
  refine q2 (pe 2 Z (q3 (W_ret (N_K_ret (rt2 results187 Z Z ?_)))))
  have H:=H.addNil 3 1
  have H:=H.forget hG (by simp)
  exact⟨_,_,rfl,H,_,_,_,congrArg (fun b=>Value.tuple #[_,Value.bool b]) (show _=Sp.l4Ids Ls ids by rw[hc2]),acc_1 aN,chkI ((Chk.nil (E:=intE) (sz:=1) (G:=G0))),by simp,fun h=>(by rw[hc2]at h;cases h),fun _=>rfl⟩
 intro hc2'
 try simp only[nrm]at hc2'
 have hi4:=Sp.ids_le (by simpa using hc2')
 refine W_skip (N_K (q2 (aG Z (q3 (W_seq (q2 (mV Z (lN Z (mV Z (q3 (W_block ?_)))))))))))
 have H:=H.addNil 3 1
 refine W_lp (hf:=(Sub.cons (t:=0) Z (Sub.cons (t:=4) Z (Sub.cons (t:=5) Z (Sub.cons (t:=13) Z (Sub.cons (t:=14) Z Sub.nil)))))) (J:=fun M w m=>∃(v:Value) (n:Nat) (cs:List Value) (xs:List (Int)) (k:Nat) (G:PH),M=[(15,.int .i64 (k:Int)),(6,v)]∧PLe G0 G∧Hp w0 G0 [] w G [acc 3 1 v n cs]∧(Chk intE 1 G cs xs∧n=xs.length∧k≤ids.length∧xs=Sp.load Ls (ids.take k)∧xs.length≤8*k)∧m=(ids.length-k)) (h0:=⟨_,_,_,[],0,_,Z,PLe.refl _,H,?inv,Z⟩) (round:=?round)
 case inv=>exact⟨(Chk.nil (E:=intE) (sz:=1) (G:=G0)),by first|rfl|simp|(simp;omega)|omega,(by simp[Sp.load])⟩
 case round =>
  rintro _ _ _ ⟨v,n,cs,xs,k,_,rfl,hle4,H,hinv4,rfl⟩
  have hSs:=hSs.up hle4
  have hbs:=hbs.up hle4
  have hids:=hids.up hle4
  obtain⟨hchk4_0,_,hinv4⟩:=hinv4
  obtain⟨_,_,rfl⟩:=H.accShape (k:=0) rfl
  obtain⟨_,hxs,_⟩:=hinv4
  refine q2 (pe 1 Z (q3 (W_seq ?_)))
  refine W_cond Z ?_ ?_
  ·intro hc5
   try simp only[nrm]at hc5
   refine W_skip (N_K (W_seq (W_block (q2 (iP k hids Z3 Z ?_)))));intro _ _ z6 _ hz6 hE6 hrow6
   obtain⟨rfl,_⟩:=hE6
   refine lP H hrow6 0 Z2 (aG Z (q3 (W_region (pe 3 Z (o_lookS (hbs.at H.sub) hms hSs underlying121 underlying3 zeroValue153 Z Z Z ?_)))));intro _ hE7
   obtain⟨_,_,_,rfl,_,hr7,_,_,_⟩:=ox hE7
   have hgb:=Sp.get_len hVs z6
   refine o_field 1 runUnderlying153 Z Z Z isAgg33 Z Z Z ?_
   refine o_append_P 0 H hr7 (by intro _ cs hz _ hu;obtain⟨rfl,_⟩:=hz;simp at hu;subst hu;rfl) (sz:=1) (bytes:=8) underlying33 typeInfo3 ⟨_,rfl,rfl⟩ rfl rfl rfl rfl rfl rfl rfl oM rfl ?_;intro _ _ css8 hcl8 hcs8 H
   have hchk8:=hchk4_0.app (show Chk _ _ _ _ _ from⟨css8,rfl,hcl8,hcs8⟩)
   obtain⟨_,_,rfl⟩:=H.accShape (k:=0) rfl
   refine aG Z (R_nil (N_B (N_K (W_region (aD Z2 (mV Z (R_nil ?_)))))))
   refine N_lp (hJ:=⟨_,_,_,(xs++(getH Ls z6).bytes),k+1,_,Z,hle4,H,?inv,Z⟩) (hm:=?hm)
   case hm=>omega
   case inv=>exact⟨hchk8,aN,(by exact⟨by omega,by rw[Sp.load_succ hz6,hxs],by have:=Sp.load_len hVs (ids.take (k+1));rw[Sp.load_succ hz6,←hxs]at this;simp at this ⊢;omega⟩)⟩
  intro hc5'
  try simp only[nrm]at hc5'
  refine W_exit (N_K_exit (N_LP_exit (N_B_same (N_K (q2 (pe 3 Z (q3 (W_ret (rt2 results187 Z Z ?_)))))))))
  have H:=H.forget hG (by simp)
  exact⟨_,_,rfl,H,_,_,_,congrArg (fun b=>Value.tuple #[_,Value.bool b]) (show _=Sp.l4Ids Ls ids by rw[hc2']),acc_1 aN,chkI (hchk4_0),by omega,fun _=>by rw[hxs,List.take_of_length_le oM],fun h=>by rw[hc2']at h;cases h⟩
theorem i_freeFile_c (w0:World)(G0:PH)(hG:PSub G0 w0)(mbs:Nat)(ess:Array MapEntry)(cks:Nat)(xss:List (Int×Value))(Ls:List BHeld)(hms:MapIs (Value.int .i64) ess cks xss)(hSs:StR G0 xss Ls)(hVs:Sp.VH Ls)(vids:Value)(ids:List (Int))(hids:RdI G0 vids ids)(hLent:Lent w0 G0 [blk mbs (.map ess cks)]) :
  Calls Tryz.prog 215 #[.map (some mbs),vids] w0 (RetM w0 G0 [mbs] (fun G' v Bs=>∃(es':Array MapEntry) (ck':Nat) (xs':List (Int×Value)) (L':List BHeld),v= .bool (Sp.FileFree Ls ids).isSome∧Bs=[blk mbs (.map es' ck')]∧MapIs (Value.int .i64) es' ck' xs'∧StR G' xs' L'∧Sp.VH L'∧∀l,Sp.FileFree Ls ids=some l→L'=l)):=by
 obtain⟨aids,kids,rfl⟩:=hids.shape
 have hlimids:ids.length≤1099511627776:=hids.lim
 have H:Hp w0 G0 [mbs] w0 G0 [blk mbs (.map ess cks)]:=hLent.hp
 refine calls_of_W (l:=[.map (some mbs),.slice aids ids.length kids]) func215 Z ntmps215 Z (q2 (aG Z (q3 (W_seq (q2 (pe 2 Z (xr H Z2 (i_fileIds_c _ _ (H.lendSubL [0]) _ _ _ _ _ (H.lendPredL (k:=0) (ks:=[0]) Z Z) hms (hSs.up (PPlus.le _ _ _)) hVs _ _ (hids.up (PPlus.le _ _ _))) ?_)))))));intro _ H
 refine pe 1 Z (q3 ?_)
 refine W_cond Z ?_ ?_
 ·intro hc2
  try simp only[nrm]at hc2
  refine q2 (aG Z (q3 (W_ret (N_K_ret (rt1 results215 Z ?_)))))
  have hno:Sp.FileFree Ls ids=none:=by simp[Sp.FileFree,hc2]
  exact H.retM ⟨_,_,_,_,congrArg Value.bool (by rw[hno];rfl),rfl,hms,hSs,hVs,fun l hl=>by rw[hno]at hl;cases hl⟩
 intro hc2'
 try simp only[nrm]at hc2'
 refine W_skip (N_K (W_seq (q2 (mV Z (lN Z (mV Z (q3 (W_block ?_))))))))
 refine W_lp (hf:=(Sub.cons (t:=0) Z (Sub.cons (t:=11) Z (Sub.cons (t:=12) Z Sub.nil)))) (J:=fun M w m=>∃(esm0:Array MapEntry) (ckm0:Nat) (xsm0:List (Int×Value)) (Lm0:List BHeld) (k:Nat) (G:PH),M=[(13,.int .i64 (k:Int))]∧PLe G0 G∧Hp w0 G0 [mbs] w G [blk mbs (.map esm0 ckm0)]∧(MapIs (Value.int .i64) esm0 ckm0 xsm0∧StR G xsm0 Lm0∧Sp.VH Lm0∧k≤ids.length∧Sp.foldB Sp.StoreDrop (ids.take k) (some Ls)=some Lm0)∧m=(ids.length-k)) (h0:=⟨_,_,xss,Ls,0,_,Z,PLe.refl _,H,?inv,Z⟩) (round:=?round)
 case inv=>exact⟨hms,hSs,hVs,(by simp[Sp.foldB])⟩
 case round =>
  rintro _ _ _ ⟨esm0,ckm0,xsm0,Lm0,k,_,rfl,hle3,H,hinv3,rfl⟩
  have hids:=hids.up hle3
  obtain⟨hm3_m0,hS3_m0,hV3_m0,hinv3⟩:=hinv3
  obtain⟨_,hf⟩:=hinv3
  refine q2 (pe 1 Z (q3 (W_seq ?_)))
  refine W_cond Z ?_ ?_
  ·intro hc4
   try simp only[nrm]at hc4
   refine W_skip (N_K (W_seq (W_block (q2 (iP k hids Z3 Z ?_)))));intro _ _ z5 _ hz5 hE5 hrow5
   obtain⟨rfl,_⟩:=hE5
   refine lP H hrow5 0 Z2 (aG Z (q1 (pe 2 Z (xc Z2 (i_drop_c _ _ H.sub _ _ _ _ _ hm3_m0 hS3_m0 hV3_m0 _ H.lent1) ?_))))
   rintro _ _ ⟨_,_,_,rfl,H6',⟨_,_,xs6,L6,rfl,rfl,hm6,hS6,hV6,hL6⟩⟩
   have hle3:=hle3.trans H6'.le
   have H:=H.borrow1 H6'
   refine⟨_,Z,?_⟩
   refine pe 1 Z (q3 ?_)
   refine W_cond Z ?_ ?_
   ·intro hc7
    try simp only[nrm]at hc7
    refine q2 (aG Z (q3 (W_ret (N_B_ret (N_K_ret (N_LP_ret (N_B_ret (N_K_ret (rt1 results215 Z ?_)))))))))
    have hno:Sp.FileFree Ls ids=none:=by (have hno:Sp.StoreDrop Lm0 z5=none:=by simpa using hc7);simp only[Sp.FileFree,Sp.valid_iff.2 hVs,hc2',Bool.and_self,if_true];exact Sp.foldB_stop hf hz5 hno
    exact H.retM ⟨_,_,_,_,congrArg Value.bool (by rw[hno];rfl),rfl,hm6,hS6,hV6,fun l hl=>by rw[hno]at hl;cases hl⟩
   intro hc7'
   try simp only[nrm]at hc7'
   obtain⟨p,hsp⟩:=Option.isSome_iff_exists.1 hc7'
   have hLp:L6=p:=by rw[hL6,hsp];rfl
   subst hLp
   refine W_skip (N_B (N_K (W_region (aD Z2 (mV Z (R_nil ?_))))))
   refine N_lp (hJ:=⟨_,_,xs6,L6,k+1,_,Z,hle3,H,?inv,Z⟩) (hm:=?hm)
   case hm=>omega
   case inv=>exact⟨hm6,hS6,hV6,(by exact⟨by omega,Sp.foldB_succ hf hz5 hsp⟩)⟩
  intro hc4'
  try simp only[nrm]at hc4'
  refine W_exit (N_K_exit (N_LP_exit (N_B_same (N_K (q2 (aG Z (q3 (W_ret (rt1 results215 Z ?_)))))))))
  have hyes:Sp.FileFree Ls ids=some Lm0:=by simp only[Sp.FileFree,Sp.valid_iff.2 hVs,hc2',Bool.and_self,if_true];exact Sp.foldB_all hf oM
  exact H.retM ⟨_,_,_,_,congrArg Value.bool (by rw[hyes];rfl),rfl,hm3_m0,hS3_m0,hV3_m0,fun l hl=>by rw[hyes]at hl;cases hl;rfl⟩
theorem i_keepFile_c (w0:World)(G0:PH)(hG:PSub G0 w0)(mbs:Nat)(ess:Array MapEntry)(cks:Nat)(xss:List (Int×Value))(Ls:List BHeld)(hms:MapIs (Value.int .i64) ess cks xss)(hSs:StR G0 xss Ls)(hVs:Sp.VH Ls)(vids:Value)(ids:List (Int))(hids:RdI G0 vids ids)(hLent:Lent w0 G0 [blk mbs (.map ess cks)]) :
  Calls Tryz.prog 204 #[.map (some mbs),vids] w0 (RetM w0 G0 [mbs] (fun G' v Bs=>∃(es':Array MapEntry) (ck':Nat) (xs':List (Int×Value)) (L':List BHeld),v= .bool (Sp.foldB Sp.StoreKeep ids (some Ls)).isSome∧Bs=[blk mbs (.map es' ck')]∧MapIs (Value.int .i64) es' ck' xs'∧StR G' xs' L'∧Sp.VH L'∧∀l,Sp.foldB Sp.StoreKeep ids (some Ls)=some l→L'=l)):=by
 obtain⟨aids,kids,rfl⟩:=hids.shape
 have hlimids:ids.length≤1099511627776:=hids.lim
 have H:Hp w0 G0 [mbs] w0 G0 [blk mbs (.map ess cks)]:=hLent.hp
 refine calls_of_W (l:=[.map (some mbs),.slice aids ids.length kids]) func204 Z ntmps204 Z (q2 (aG Z (q3 (W_seq (q2 (mV Z (lN Z (mV Z (q3 (W_block ?_))))))))))
 refine W_lp (hf:=(Sub.cons (t:=0) Z (Sub.cons (t:=7) Z (Sub.cons (t:=8) Z Sub.nil)))) (J:=fun M w m=>∃(esm0:Array MapEntry) (ckm0:Nat) (xsm0:List (Int×Value)) (Lm0:List BHeld) (k:Nat) (G:PH),M=[(9,.int .i64 (k:Int))]∧PLe G0 G∧Hp w0 G0 [mbs] w G [blk mbs (.map esm0 ckm0)]∧(MapIs (Value.int .i64) esm0 ckm0 xsm0∧StR G xsm0 Lm0∧Sp.VH Lm0∧k≤ids.length∧Sp.foldB Sp.StoreKeep (ids.take k) (some Ls)=some Lm0)∧m=(ids.length-k)) (h0:=⟨_,_,xss,Ls,0,_,Z,PLe.refl _,H,?inv,Z⟩) (round:=?round)
 case inv=>exact⟨hms,hSs,hVs,(by simp[Sp.foldB])⟩
 case round =>
  rintro _ _ _ ⟨esm0,ckm0,xsm0,Lm0,k,_,rfl,hle1,H,hinv1,rfl⟩
  have hids:=hids.up hle1
  obtain⟨hm1_m0,hS1_m0,hV1_m0,hinv1⟩:=hinv1
  obtain⟨_,hf⟩:=hinv1
  refine q2 (pe 1 Z (q3 (W_seq ?_)))
  refine W_cond Z ?_ ?_
  ·intro hc2
   try simp only[nrm]at hc2
   refine W_skip (N_K (W_seq (W_block (q2 (iP k hids Z3 Z ?_)))));intro _ _ z3 _ hz3 hE3 hrow3
   obtain⟨rfl,_⟩:=hE3
   refine lP H hrow3 0 Z2 (aG Z (q1 (pe 2 Z (xc Z2 (i_keep_c _ _ H.sub _ _ _ _ _ hm1_m0 hS1_m0 hV1_m0 _ H.lent1) ?_))))
   rintro _ _ ⟨_,_,_,rfl,H4',⟨_,_,xs4,L4,rfl,rfl,hm4,hS4,hV4,hL4⟩⟩
   have hle1:=hle1.trans H4'.le
   have H:=H.borrow1 H4'
   refine⟨_,Z,?_⟩
   refine pe 1 Z (q3 ?_)
   refine W_cond Z ?_ ?_
   ·intro hc5
    try simp only[nrm]at hc5
    refine q2 (aG Z (q3 (W_ret (N_B_ret (N_K_ret (N_LP_ret (N_B_ret (N_K_ret (rt1 results204 Z ?_)))))))))
    have hno:Sp.foldB Sp.StoreKeep ids (some Ls)=none:=by (have hno:Sp.StoreKeep Lm0 z3=none:=by simpa using hc5);exact Sp.foldB_stop hf hz3 hno
    exact H.retM ⟨_,_,_,_,congrArg Value.bool (by rw[hno];rfl),rfl,hm4,hS4,hV4,fun l hl=>by rw[hno]at hl;cases hl⟩
   intro hc5'
   try simp only[nrm]at hc5'
   obtain⟨p,hsp⟩:=Option.isSome_iff_exists.1 hc5'
   have hLp:L4=p:=by rw[hL4,hsp];rfl
   subst hLp
   refine W_skip (N_B (N_K (W_region (aD Z2 (mV Z (R_nil ?_))))))
   refine N_lp (hJ:=⟨_,_,xs4,L4,k+1,_,Z,hle1,H,?inv,Z⟩) (hm:=?hm)
   case hm=>omega
   case inv=>exact⟨hm4,hS4,hV4,(by exact⟨by omega,Sp.foldB_succ hf hz3 hsp⟩)⟩
  intro hc2'
  try simp only[nrm]at hc2'
  refine W_exit (N_K_exit (N_LP_exit (N_B_same (N_K (q2 (aG Z (q3 (W_ret (rt1 results204 Z ?_)))))))))
  have hyes:Sp.foldB Sp.StoreKeep ids (some Ls)=some Lm0:=Sp.foldB_all hf oM
  exact H.retM ⟨_,_,_,_,congrArg Value.bool (by rw[hyes];rfl),rfl,hm1_m0,hS1_m0,hV1_m0,fun l hl=>by rw[hyes]at hl;cases hl;rfl⟩
theorem i_listIn_r:∀(N:Nat) (w0:World) (G0:PH) (hG:PSub G0 w0) (t:Nd) (hndt:RdN G0 t) (s:Bs) (hs:s.length≤16777216) (hwt:t.wf) (hsl:s.length+6*t.cnt≤100000) (hsz:t.size≤N),
  Calls Tryz.prog 211 #[.pointer (some ⟨t.b,0,none⟩),str s] w0 (RetN w0 G0 (fun v Bs=>∃(F:Fr),Bs=[frag F]∧OIs F v (t.flat s))):=by
 intro N
 induction N with
 | zero=>intro w0 G0 hG t hndt s hs hwt hsl hsz;exact absurd (Nd.size_pos t) oM
 | succ N ih =>
 intro w0 G0 hG t hndt s hs hwt hsl hsz
 obtain⟨_,_,_,_,_,_,_,hprt,hrit,hrkt⟩:=hndt.open
 have hn_hrit:=hrit.len;have hx_hrit:_≤1099511627776:=hrit.lim
 have hn_hrkt:=hrkt.len;have hx_hrkt:_≤1099511627776:=hrkt.lim
 have H:=Hp.init hG
 refine calls_of_W (l:=[.pointer (some ⟨t.b,0,none⟩),str s]) func211 Z ntmps211 Z (q2 (aG Z (q1 (aG Z (q3 (W_seq (q2 (pe 2 Z (fA 3 Z (lP H hprt 3 Z2 (lN Z (mV Z (q3 (W_block ?_))))))))))))))
 have H:=H.addNil 35 3
 have H:=H.addF
 refine W_lp (hf:=(Sub.cons (t:=1) Z (Sub.cons (t:=4) Z (Sub.cons (t:=12) Z (Sub.cons (t:=13) Z Sub.nil))))) (J:=fun M w m=>∃(v:Value) (n:Nat) (cs:List Value) (xs:List (BItem)) (F:Fr) (k:Nat) (G:PH),M=[(14,.int .i64 (k:Int)),(5,v)]∧PLe G0 G∧Hp w0 G0 [] w G [frag F,acc 35 3 v n cs]∧(ChkF itemO 3 cs xs F∧n=xs.length∧k≤t.kids.length∧xs=Nd.flats s (t.kids.take k))∧m=(t.kids.length-k)) (h0:=⟨_,_,_,[],[],0,_,Z,PLe.refl _,H,?inv,Z⟩) (round:=?round)
 case inv=>exact⟨ChkF.nil,by first|rfl|simp|(simp;omega)|omega,(by simp[Nd.flats])⟩
 case round =>
  rintro _ _ _ ⟨v,n,cs,xs,F,k,G2,rfl,hle2,H,hinv2,rfl⟩
  have hrkt:=hrkt.up hle2
  obtain⟨hchk2_0,_,hinv2⟩:=hinv2
  obtain⟨_,_,rfl⟩:=H.accShape (k:=1) rfl
  obtain⟨_,hxs⟩:=hinv2;have hxl:xs.length≤100000:=by (have:=Nd.flats_len s (t.kids.take k);have:=Nd.cnts_take t.kids k;have:=Nd.cnt_eq t;rw[hxs];omega)
  refine q2 (pe 1 Z (q3 (W_seq ?_)))
  refine W_cond Z ?_ ?_
  ·intro hc3
   try simp only[nrm]at hc3
   refine W_skip (N_K (W_seq (W_block (q2 (iP k hrkt Z3 Z ?_)))));intro _ _ z4 q4 hz4 hE4 hrow4
   obtain⟨rfl,hnd4⟩:=hE4;obtain⟨_,_,_,_,_,_,_,hpr4,hri4,hrk4⟩:=hnd4.open;have hn_hri4:=hri4.len;have hx_hri4:_≤1099511627776:=hri4.lim;have hn_hrk4:=hrk4.len;have hx_hrk4:_≤1099511627776:=hrk4.lim
   have hzm:=List.mem_of_getElem? hz4;have hzc:=Nd.kid_cnt hzm;have hzs:=Nd.size_kid hzm;have hzw:=((Nd.wf_iff _).1 hwt).2 _ hzm;have hzn:=Nd.word_le hzw.1;have hzf:=Nd.flat_len (s++z4.name++[47]) z4
   refine lP H hrow4 0 Z2 (aG Z (q1 (pe 3 Z (fA 0 Z (lP H hpr4 0 Z2 ?_)))))
   refine o_sadd Z Z Z (by simp only[LIM,List.length_append,List.length_cons,List.length_nil]at *; omega) ?_
   refine aG Z (q3 (W_seq (W_drawK [] 15 H kR Z ?_)));intro _ H;have hd5:=PLe.refl G2
   refine dE 0 Z2 (dE 1 Z2 (dE 2 Z2 (dE 3 Z2 (dF 4 1 Z2 (dP 5 hpr4 1 Z3 (dE 6 Z2 (dE 7 Z2 (dF 8 2 Z2 (dP 9 hpr4 2 Z3 (r1 10 Z (xc Z2 (l_Clone_c _ _ H.sub _ _ hri4) ?_)))))))))))
   rintro _ _ ⟨_,_,_,g6,rfl,⟨_,rfl,hchk6⟩,hp6,hq6,hs6⟩
   have H:=H.growO g6 hp6 hq6 hs6;obtain⟨_,_,rfl⟩:=H.accShape (k:=0) rfl
   have hnd4:=hnd4.up g6.le
   have hle2:=hle2.trans g6.le
   have hd5:=hd5.trans g6.le
   refine⟨_,Z,?_⟩
   refine q4 H hd5 (RD_t 11 Z kR Z (fun _ hK=>v_build bf35 Z Z) (r1 12 Z (xbs H Z7 ?_)));intro _ _ _ H
   refine q4 H hd5 (r1 13 Z (o_append1 2 H (sz:=3) (bytes:=48) underlying24 typeInfo35 ⟨_,Z,Z⟩ Z Z Z Z Z Z Z Z Z Z oM Z ?_));intro _ _ H
   obtain⟨Fi2,H,hOI2⟩:=H.ownI (k:=0) rfl hchk6 aN aN
   have hchk8:=hchk2_0.snoc (show itemO Fi2 ⟨s++z4.name,z4.dir,z4.ids⟩ _ from⟨_,_,_,rfl,(by (first|assumption|(refine Sp.l5Parent_lim ?_;assumption)|(simp;done)|(simp;omega)|omega)),hOI2⟩) rfl
   have H:=H.tF 1
   have H:=H.mergeF
   obtain⟨_,_,rfl⟩:=H.accShape (k:=1) rfl
   refine q4 H hd5 (dE 14 Z2 (rz (N_K (W_region (pe 3 Z ?_)))))
   refine o_sadd Z Z Z (by simp only[LIM,List.length_append,List.length_cons,List.length_nil]at *; omega) ?_
   refine xc Z2 (ih _ _ H.sub _ hnd4 _ (by (first|assumption|(refine Sp.l5Parent_lim ?_;assumption)|(simp;done)|(simp;omega)|omega)) hzw.2 (by simp;omega) oM) ?_
   rintro _ _ ⟨_,_,rfl,H9',⟨_,rfl,hO9⟩⟩
   have H:=H.readers (fp:=[]) (by simp) (PLe.refl _) H9'
   obtain⟨_,hP9⟩:=hO9
   obtain⟨_,_,rfl⟩:=OwnS.shape hP9
   have hO9:=OIs.mk hP9
   refine⟨_,Z,?_⟩
   refine o_append_F 1 H hP9 (by intro F _ cs hx _ hu;obtain⟨_,_,_,rfl,_⟩:=hx;simp at hu;rcases hu with rfl|rfl|rfl<;>rfl) (sz:=3) (bytes:=48) underlying24 typeInfo35 ⟨_,rfl,rfl⟩ rfl rfl rfl rfl rfl rfl rfl oM rfl ?_;intro _ _ _ F10_ H hck10 _
   have hchk10:=hchk8.app hck10
   have H:=H.tF 1
   have H:=H.mergeF
   obtain⟨_,_,rfl⟩:=H.accShape (k:=1) rfl
   refine aG Z (R_nil (N_B (N_K (W_region (aD Z2 (mV Z (R_nil ?_)))))))
   refine N_lp (hJ:=⟨_,_,_,((xs++[⟨s++z4.name,z4.dir,z4.ids⟩])++(z4.flat (s++z4.name++[47]))),((F++Fi2)++F10_),k+1,_,Z,hle2,H,?inv,Z⟩) (hm:=?hm)
   case hm=>omega
   case inv=>exact⟨hchk10,aN,(by exact⟨by omega,by (rw[Nd.flats_succ hz4,hxs];simp)⟩)⟩
  intro hc3'
  try simp only[nrm]at hc3'
  refine W_exit (N_K_exit (N_LP_exit (N_B_same (N_K (q2 (pe 2 Z (q3 (W_ret (rt1 results211 Z ?_)))))))))
  have H:=H.tF 1
  obtain⟨_,H,hOw3⟩:=H.ownF hchk2_0 aN aN
  have hX:xs=t.flat s:=by rw[hxs,List.take_of_length_le oM,Nd.flat_eq]
  have H:=H.forget hG (by simp)
  exact⟨_,_,Z,H,_,Z,hX▸⟨_,hOw3⟩⟩
theorem i_listIn_c (w0:World)(G0:PH)(hG:PSub G0 w0)(t:Nd)(hndt:RdN G0 t)(s:Bs)(hs:s.length≤16777216)(hwt:t.wf)(hsl:s.length+6*t.cnt≤100000) :
  Calls Tryz.prog 211 #[.pointer (some ⟨t.b,0,none⟩),str s] w0 (RetN w0 G0 (fun v Bs=>∃(F:Fr),Bs=[frag F]∧OIs F v (t.flat s))):=i_listIn_r _ w0 G0 hG t hndt s hs hwt hsl (Nat.le_refl _)
theorem i_tlist_c (w0:World)(G0:PH)(hG:PSub G0 w0)(t:Nd)(hndt:RdN G0 t)(hwt:t.wf)(hct:t.cnt≤1000) :
  Calls Tryz.prog 158 #[.pointer (some ⟨t.b,0,none⟩)] w0 (RetN w0 G0 (fun v Bs=>∃(F:Fr),Bs=[frag F]∧OIs F v (t.flat []))):=by
 obtain⟨_,_,_,_,_,_,_,_,hrit,hrkt⟩:=hndt.open
 have hn_hrit:=hrit.len;have hx_hrit:_≤1099511627776:=hrit.lim
 have hn_hrkt:=hrkt.len;have hx_hrkt:_≤1099511627776:=hrkt.lim
 have H:=Hp.init hG
 refine calls_of_W (l:=[.pointer (some ⟨t.b,0,none⟩)]) func158 Z ntmps158 Z (q2 (aG Z (q1 (mV Z ?_))))
 refine xc Z2 (i_listIn_c _ _ H.sub _ hndt _ (by (first|assumption|(refine Sp.l5Parent_lim ?_;assumption)|(simp;done)|(simp;omega)|omega)) hwt (by simp;omega)) ?_
 rintro _ _ ⟨_,_,rfl,H1',⟨_,rfl,hO1⟩⟩
 have H:=H.readers (fp:=[]) (by simp) (PLe.refl _) H1'
 obtain⟨_,hP1⟩:=hO1
 obtain⟨_,_,rfl⟩:=OwnS.shape hP1
 have hO1:=OIs.mk hP1
 refine⟨_,Z,?_⟩
 refine aG Z (q3 (W_ret (rt1 results158 Z ?_)))
 have H:=H.forget hG (by simp)
 exact⟨_,_,Z,H,_,Z,hO1⟩
theorem i_usedBy_c (w0:World)(G0:PH)(hG:PSub G0 w0)(mbs:Nat)(ess:Array MapEntry)(cks:Nat)(xss:List (Int×Value))(Ls:List BHeld)(hbs:MapAt G0 mbs ess cks)(hms:MapIs (Value.int .i64) ess cks xss)(hSs:StR G0 xss Ls)(hVs:Sp.VH Ls)(vtrees:Value)(trees:List (Nd))(htrees:RdNd G0 vtrees trees)(htl:trees.length≤7)(htw:∀t,t ∈ trees→t.wf∧t.cnt≤12) :
  Calls Tryz.prog 151 #[.map (some mbs),vtrees] w0 (Rets w0 (.bool (trees.all (fun t=>(t.flat []).all (fun x=>Sp.l4Ids Ls x.ids))&&Ls.all (fun h=>decide ((Sp.cntT trees h.id:Int)=h.uses))))):=by
 obtain⟨atrees,ktrees,rfl⟩:=htrees.shape
 have hlimtrees:trees.length≤1099511627776:=htrees.lim
 have H:=Hp.init hG
 refine calls_of_W (l:=[.map (some mbs),.slice atrees trees.length ktrees]) func151 Z ntmps151 Z (q2 (aG Z (q1 (o_makeMap H Z ?_))));intro b1 _ _ H
 have hm1:=MapIs.empty (key:=Value.int .i64) 0
 have hS1:=UsR.nil
 refine aG Z (q3 (W_seq (q2 (mV Z (lN Z (mV Z (q3 (W_block ?_))))))))
 refine W_lp (hf:=(Sub.cons (t:=0) Z (Sub.cons (t:=5) Z (Sub.cons (t:=15) Z (Sub.cons (t:=16) Z Sub.nil))))) (J:=fun M w m=>∃(esm0:Array MapEntry) (ckm0:Nat) (xsm0:List (Int×Value)) (fm0:Int→Nat) (i:Nat) (G:PH),M=[(17,.int .i64 (i:Int))]∧PLe G0 G∧Hp w0 G0 [] w G [blk b1 (.map esm0 ckm0)]∧(MapIs (Value.int .i64) esm0 ckm0 xsm0∧UsR xsm0 fm0∧i≤trees.length∧(∀a,fm0 a=Sp.cntT (trees.take i) a∧fm0 a≤48*i)∧(trees.take i).all (fun t=>(t.flat []).all (fun x=>Sp.l4Ids Ls x.ids))=true)∧m=(trees.length-i)) (h0:=⟨_,_,[],(fun _=>0),0,_,Z,PLe.refl _,H,?inv,Z⟩) (round:=?round)
 case inv=>exact⟨hm1,hS1,(by simp[Sp.cntT])⟩
 case round =>
  rintro _ _ _ ⟨esm0,ckm0,xsm0,fm0,i,G2,rfl,hle2,H,hinv2,rfl⟩
  have hSs:=hSs.up hle2
  have hbs:=hbs.up hle2
  have htrees:=htrees.up hle2
  obtain⟨hm2_m0,hS2_m0,hinv2⟩:=hinv2
  obtain⟨_,hf,hok⟩:=hinv2
  refine q2 (pe 1 Z (q3 (W_seq ?_)))
  refine W_cond Z ?_ ?_
  ·intro hc3
   try simp only[nrm]at hc3
   refine W_skip (N_K (W_seq (W_block (q2 (iP i htrees Z3 Z ?_)))));intro _ _ z4 _ hz4 hE4 hrow4
   obtain⟨rfl,hnd4⟩:=hE4;obtain⟨_,_,_,_,_,_,_,hpr4,hri4,hrk4⟩:=hnd4.open;have hn_hri4:=hri4.len;have hx_hri4:_≤1099511627776:=hri4.lim;have hn_hrk4:=hrk4.len;have hx_hrk4:_≤1099511627776:=hrk4.lim
   try (have hzw:=htw z4 (List.mem_of_getElem? hz4);have hzf:=Nd.flat_len [] z4)
   refine lP H hrow4 0 Z2 (aG Z (q1 (mV Z (xc Z2 (i_tlist_c _ _ H.sub _ hnd4 hzw.1 oM) ?_))))
   rintro _ _ ⟨_,_,rfl,H5',⟨_,rfl,hO5⟩⟩
   have H:=H.readers (fp:=[]) (by simp) (PLe.refl _) H5'
   obtain⟨e25,hP5⟩:=hO5
   obtain⟨_,_,rfl⟩:=OwnS.shape hP5
   have hO5:=OIs.mk hP5
   refine⟨_,Z,?_⟩
   have hdm1:=dm_nodup H (k:=0) rfl;obtain⟨Gk1,H,hkl1,hks1⟩:=H.keepF (k:=0) rfl (fun b _ hb=>by simp at hb)
   have hrk1:=hO5.rd hks1 hdm1
   have hSs:=hSs.up hkl1
   have hbs:=hbs.up hkl1
   have hle2:=hle2.trans hkl1
   have hn_hrk1:=hrk1.len
   refine lN Z (mV Z (q3 (W_block ?_)))
   refine W_lp (hf:=(Sub.cons (t:=0) Z (Sub.cons (t:=5) Z (Sub.cons (t:=15) Z (Sub.cons (t:=16) Z (Sub.cons (t:=17) Z (Sub.cons (t:=22) Z (Sub.cons (t:=23) Z Sub.nil)))))))) (J:=fun M w m=>∃(esm0:Array MapEntry) (ckm0:Nat) (xsm0:List (Int×Value)) (fm0:Int→Nat) (jj:Nat) (G:PH),M=[(24,.int .i64 (jj:Int))]∧PLe Gk1 G∧Hp w0 G0 [] w G [blk b1 (.map esm0 ckm0)]∧(MapIs (Value.int .i64) esm0 ckm0 xsm0∧UsR xsm0 fm0∧jj≤(z4.flat []).length∧(∀a,fm0 a=Sp.cntT (trees.take i) a+Sp.cntU (z4.flat []) a jj∧fm0 a≤48*i+4*jj)∧((z4.flat []).take jj).all (fun x=>Sp.l4Ids Ls x.ids)=true)∧m=((z4.flat []).length-jj)) (h0:=⟨_,_,xsm0,fm0,0,_,Z,PLe.refl _,H,?inv,Z⟩) (round:=?round)
   case inv=>exact⟨hm2_m0,hS2_m0,(by exact⟨by omega,fun a=>(by have:=hf a;simp[Sp.cntU];omega),by simp⟩)⟩
   case round =>
    rintro _ _ _ ⟨esm0,ckm0,xsm0,fm0,jj,G6,rfl,hle6,H,hinv6,rfl⟩
    have hSs:=hSs.up hle6
    have hbs:=hbs.up hle6
    have hrk1:=hrk1.up hle6
    have hle2:=hle2.trans hle6
    obtain⟨hm6_m0,hS6_m0,hinv6⟩:=hinv6
    obtain⟨_,hf2,hok2⟩:=hinv6
    refine q2 (pe 1 Z (q3 (W_seq ?_)))
    refine W_cond Z ?_ ?_
    ·intro hc7
     try simp only[nrm]at hc7
     refine W_skip (N_K (W_seq (W_block (q2 (iP jj hrk1 Z3 Z ?_)))));intro _ _ z8 _ hz8 hE8 hrow8
     obtain⟨_,_,_,rfl,_,hr8,_,_⟩:=ox hE8
     try (have hzw:=htw z8 (List.mem_of_getElem? hz8);have hzf:=Nd.flat_len [] z8)
     refine o_loadagg_P H isAgg35 sizeOf35 Z Z hrow8 Z (xal H Z ?_);intro b9 _ _ H
     refine xst 0 H Z8 ?_;intro _ H
     refine q3 (W_seq (q2 (mV Z (fA 2 Z (lB 0 H Z3 (xr H Z2 (i_fileIds_c _ _ H.sub _ _ _ _ _ hbs hms hSs hVs _ _ hr8) ?_))))));intro _ H
     refine pe 1 Z (q3 ?_)
     refine W_cond Z ?_ ?_
     ·intro hc12
      try simp only[nrm]at hc12
      refine q2 (aG Z (q3 (W_ret (N_K_ret (N_B_ret (N_K_ret (N_LP_ret (N_B_ret (N_B_ret (N_K_ret (N_LP_ret (N_B_ret (N_K_ret (rt1 results151 Z ?_))))))))))))))
      exact H.rets (congrArg Value.bool (by rw[Sp.all_false hz4 (Sp.all_false hz8 (by simpa using hc12)),Bool.false_and]))
     intro hc12'
     try simp only[nrm]at hc12'
     have hio:Sp.l4Ids Ls z8.ids=true:=by simpa using hc12'
     have hil:=Sp.ids_le hio
     refine W_skip (N_K (q2 (fA 2 Z (lB 0 H Z3 (lN Z (mV Z (q3 (W_block ?_))))))))
     obtain⟨ln13,hln13,H⟩:=H.name (k:=0) rfl
     refine W_lp (hf:=(Sub.cons (t:=0) Z (Sub.cons (t:=5) Z (Sub.cons (t:=15) Z (Sub.cons (t:=16) Z (Sub.cons (t:=17) Z (Sub.cons (t:=22) Z (Sub.cons (t:=23) Z (Sub.cons (t:=24) Z (Sub.cons (t:=34) Z (Sub.cons (t:=35) Z Sub.nil))))))))))) (J:=fun M w m=>∃(esm0:Array MapEntry) (ckm0:Nat) (xsm0:List (Int×Value)) (fm0:Int→Nat) (kk:Nat) (G:PH),M=[(36,.int .i64 (kk:Int))]∧PLe G6 G∧Hp w0 G0 [] w G [blk b9 (cl ln13 35),blk b1 (.map esm0 ckm0)]∧(MapIs (Value.int .i64) esm0 ckm0 xsm0∧UsR xsm0 fm0∧kk≤z8.ids.length∧(∀a,fm0 a=Sp.cntT (trees.take i) a+Sp.cntU (z4.flat []) a jj+Sp.cnt1 a (z8.ids.take kk)∧fm0 a≤48*i+4*jj+kk))∧m=(z8.ids.length-kk)) (h0:=⟨_,_,xsm0,fm0,0,_,Z,PLe.refl _,H,?inv,Z⟩) (round:=?round)
     case inv=>exact⟨hm6_m0,hS6_m0,(by exact⟨by omega,fun a=>(by have:=hf2 a;simp[Sp.cnt1];omega)⟩)⟩
     case round =>
      rintro _ _ _ ⟨esm0,ckm0,xsm0,fm0,kk,_,rfl,hle14,H,hinv14,rfl⟩
      subst hln13
      have hr8:=hr8.up hle14
      have hle6:=hle6.trans hle14
      obtain⟨hm14_m0,hS14_m0,hinv14⟩:=hinv14
      obtain⟨_,hf3⟩:=hinv14;have hb3:=fun a=>(hf3 a).2
      refine q2 (pe 1 Z (q3 (W_seq ?_)))
      refine W_cond Z ?_ ?_
      ·intro hc15
       try simp only[nrm]at hc15
       refine W_skip (N_K (W_seq (W_block (q2 (iP kk hr8 Z3 Z ?_)))));intro _ _ z16 _ hz16 hE16 hrow16
       obtain⟨rfl,_⟩:=hE16
       refine lP H hrow16 0 Z2 (aG Z (q3 (W_region (pe 2 Z (o_lookU (H.at (k:=1) Z) hm14_m0 hS14_m0 underlying254 underlying3 zeroValue3 Z Z Z ?_)))))
       try (have h7:=hb3 z16)
       refine aD Z2 (o_updU 1 H (fm0 z16+1) Z hm14_m0 hS14_m0 underlying254 underlying3 Z Z Z oM ?_);intro _ _ xs19 _ H hm19 hS19
       refine R_nil (N_B (N_K (W_region (aD Z2 (mV Z (R_nil ?_))))))
       refine N_lp (hJ:=⟨_,_,xs19,(fun a=>if a=z16 then(fm0 z16+1) else fm0 a),kk+1,_,Z,hle14,H,?inv,Z⟩) (hm:=?hm)
       case hm=>omega
       case inv=>exact⟨hm19,hS19,(by exact⟨by omega,fun a=>(by have h9:=hf3 a;have h7:=hf3 z16;(rw[Sp.cnt1_succ hz16]);by_cases e:a=z16;(· subst e;simp;omega);(· have e2:¬z16=a:=fun h=>e h.symm;simp only[e,e2,if_false];omega))⟩)⟩
      intro hc15'
      try simp only[nrm]at hc15'
      refine W_exit (N_K_exit (N_LP_exit (N_B_same (N_B (N_K (W_region (aD Z2 (mV Z (R_nil ?_)))))))))
      have H:=H.dl 0
      refine N_lp (hJ:=⟨_,_,xsm0,fm0,jj+1,_,Z,hle6,H,?inv,Z⟩) (hm:=?hm)
      case hm=>omega
      case inv=>exact⟨hm14_m0,hS14_m0,(by exact⟨by omega,fun a=>(by have h9:=hf3 a;(rw[Sp.cntU_succ hz8]);(rw[List.take_of_length_le (l:=z8.ids) oM]at h9);omega),Sp.all_take hok2 hz8 hio⟩)⟩
    intro hc7'
    try simp only[nrm]at hc7'
    refine W_exit (N_K_exit (N_LP_exit (N_B_same (N_B (N_K (W_region (aD Z2 (mV Z (R_nil ?_)))))))))
    refine N_lp (hJ:=⟨_,_,xsm0,fm0,i+1,_,Z,hle2,H,?inv,Z⟩) (hm:=?hm)
    case hm=>omega
    case inv=>exact⟨hm6_m0,hS6_m0,(by exact⟨by omega,fun a=>(by have h9:=hf2 a;have h10:=Sp.cntT_succ (id:=a) hz4;have h8:(z4.flat []).length=jj:=oM;(rw[h8]at h10);omega),Sp.all_take hok hz4 (by (rw[List.take_of_length_le (l:=z4.flat []) oM]at hok2);exact hok2)⟩)⟩
  intro hc3'
  try simp only[nrm]at hc3'
  refine W_exit (N_K_exit (N_LP_exit (N_B_same (N_K (W_seq (q2 (mV Z ?_)))))))
  have hmb23:=(hbs.at H.sub);refine o_range H hmb23 underlying121 rfl rfl ?_;intro r23 _ _ H _;have hne23:r23≠mbs:=fun e=>by have:=(Array.getElem?_eq_some_iff.1 hmb23).1;omega
  refine q3 (W_block ?_)
  refine W_lp (hf:=(Sub.cons (t:=5) Z (Sub.cons (t:=48) Z Sub.nil))) (J:=fun M w m=>∃(sn:Array Nat) (G:PH),M=[]∧PLe G2 G∧Hp w0 G0 [] w G [blk r23 (.mapIter (some mbs) cks sn cks),blk b1 (.map esm0 ckm0)]∧(∀y,y ∈ Ls→seenH ess sn y→(Sp.cntT trees y.id:Int)=y.uses)∧m=((leftOf ess sn).size)) (h0:=⟨#[],_,Z,PLe.refl _,H,?inv,Z⟩) (round:=?round)
  case inv=>rintro y hy ⟨e,_,_,he⟩;simp at he
  case round =>
   rintro _ _ _ ⟨sn,_,rfl,hle24,H,hinv24,rfl⟩
   have hSs:=hSs.up hle24
   have hbs:=hbs.up hle24
   have hsn:=hinv24
   refine q2 ?_
   refine o_next 0 H (hbs.at H.sub) hms hSs Z hne23 Z Z ?_ ?_
   ·intro hall25
    refine pe 1 Z (q3 (W_seq (W_false Z (W_exit (N_K_exit (N_LP_exit (N_B_same (N_K (q2 (aG Z (q3 (W_ret (rt1 results151 Z ?_)))))))))))))
    have hot:=hok;rw[List.take_of_length_le oM]at hot
    exact H.rets (congrArg Value.bool (by (rw[hot,Bool.true_and]);symm;(rw[List.all_eq_true]);intro y hy;simp only[decide_eq_true_eq];exact hsn y hy (hall25 y hy)))
   intro e25 _ _ _ he25 hk25 hv25 hy25 hE25 _ hless25 H
   obtain⟨_,_,_,rfl,_,_,_,_,_⟩:=ox hE25
   refine pe 1 Z (q3 (W_seq (W_true Z (W_skip (N_K (W_block (q2 (o_entry 0 H (hbs.at H.sub) hms Z he25 hk25 hv25 Z Z (pe 2 Z (xal H Z ?_))))))))));intro _ _ _ H
   refine aG Z (xst 0 H Z8 ?_);intro _ H
   refine q1 (pe 2 Z (o_lookU (H.at (k:=2) Z) hm2_m0 hS2_m0 underlying254 underlying3 zeroValue3 Z Z Z (fA 2 Z (lB 0 H Z3 (pe 1 Z (q3 ?_))))))
   refine W_cond Z ?_ ?_
   ·intro hc29
    try simp only[nrm]at hc29
    refine q2 (aG Z (q3 (W_ret (N_B_ret (N_LP_ret (N_B_ret (N_K_ret (rt1 results151 Z ?_))))))))
    have hft:∀a,fm0 a=Sp.cntT trees a:=fun a=>(by have h9:=(hf a).1;(rw[List.take_of_length_le oM]at h9);exact h9)
    have hot:=hok;rw[List.take_of_length_le oM]at hot
    exact H.rets (congrArg Value.bool (by (rw[hot,Bool.true_and]);symm;(rw[List.all_eq_false]);exact⟨_,hy25,by simp only[decide_eq_true_eq];(rw[←hft]);first|exact hc29|(simpa using hc29)|omega⟩))
   intro hc29'
   try simp only[nrm]at hc29'
   refine W_skip (N_B ?_)
   have H:=H.dl 0
   refine N_lp (hJ:=⟨_,_,Z,hle24,H,?inv,Z⟩) (hm:=?hm)
   case hm=>exact hless25
   case inv=>intro y hy hs;rcases seenH_push hms (hSs.nd hms) he25 hk25 hy25 hy hs with rfl|h;(· (have h9:=(hf y.id).1;(rw[List.take_of_length_le oM]at h9);(rw[←h9]);first|exact hc29'|(simpa using hc29')|omega));exact hsn y hy h
theorem i_StoreValid_c (w0:World)(G0:PH)(hG:PSub G0 w0)(vlist:Value)(list:List (BHeld))(hlist:RdH G0 vlist list) :
  Calls Tryz.prog 227 #[vlist] w0 (Rets w0 (.bool (Sp.StoreValid list))):=by
 obtain⟨alist,klist,rfl⟩:=hlist.shape
 have hlimlist:list.length≤1099511627776:=hlist.lim
 have H:=Hp.init hG
 refine calls_of_W (l:=[.slice alist list.length klist]) func227 Z ntmps227 Z (q2 (aG Z (q3 (W_seq (q2 (mV Z (lN Z (pe 1 Z (q3 ?_)))))))))
 refine W_cond Z ?_ ?_
 ·intro hc1
  try simp only[nrm]at hc1
  refine q2 (aG Z (q3 (W_ret (N_K_ret (rt1 results227 Z ?_)))))
  exact H.rets (congrArg Value.bool (by rw[Sp.sv_long oM]))
 intro hc1'
 try simp only[nrm]at hc1'
 refine W_skip (N_K (q2 (aG Z (q3 (W_seq (q2 (mV Z (lN Z (mV Z (q3 (W_block ?_)))))))))))
 refine W_lp (hf:=(Sub.cons (t:=0) Z (Sub.cons (t:=11) Z (Sub.cons (t:=12) Z Sub.nil)))) (J:=fun M w m=>∃(k:Nat) (la:Int) (G:PH),M=[(13,.int .i64 (k:Int)),(3,.int .i64 la)]∧PLe G0 G∧Hp w0 G0 [] w G []∧(k≤list.length∧la=Sp.lastId list k∧(∀j,j<k→Sp.okH list j=true)∧inI la)∧m=(list.length-k)) (h0:=⟨0,0,_,Z,PLe.refl _,H,?inv,Z⟩) (round:=?round)
 case inv=>exact⟨by omega,rfl,fun j hj=>by omega,by decide⟩
 case round =>
  rintro _ _ _ ⟨k,la,G2,rfl,hle2,H,hinv2,rfl⟩
  have hlist:=hlist.up hle2
  obtain⟨_,_,hall,_⟩:=hinv2
  refine q2 (pe 1 Z (q3 (W_seq ?_)))
  refine W_cond Z ?_ ?_
  ·intro hc3
   try simp only[nrm]at hc3
   refine W_skip (N_K (W_seq (W_block (q2 (mV Z (iP k hlist Z3 Z ?_))))));intro _ _ z4 _ hz4 hE4 hrow4
   obtain⟨_,_,_,rfl,hi4,hr4,_,_,_⟩:=ox hE4
   refine o_loadagg_P H isAgg153 sizeOf153 Z Z hrow4 Z (xal H Z ?_);intro b5 _ _ H
   refine aG Z (xst 0 H Z8 ?_);intro _ H
   refine q3 (W_seq (q2 (fA 0 Z (lB 0 H Z3 (pe 3 Z ?_)))))
   refine R_case (t:=22) Z ?_ ?_
   ·intro hc7
    try simp only[nrm]at hc7
    refine pe 20 Z (q3 (W_true Z (q2 (aG Z (q3 (W_ret (N_K_ret (N_B_ret (N_K_ret (N_LP_ret (N_B_ret (N_K_ret (rt1 results227 Z ?_)))))))))))))
    exact H.rets (congrArg Value.bool (by rw[Sp.sv_false (k:=k) oM (Sp.okH_last hz4 oM)]))
   intro hc7'
   try simp only[nrm]at hc7'
   refine gR Z (fA 0 Z (gR Z (lB 0 H Z3 (pe 3 Z ?_))))
   refine R_case (t:=27) Z ?_ ?_
   ·intro hc8
    try simp only[nrm]at hc8
    refine pe 15 Z (q3 (W_true Z (q2 (aG Z (q3 (W_ret (N_K_ret (N_B_ret (N_K_ret (N_LP_ret (N_B_ret (N_K_ret (rt1 results227 Z ?_)))))))))))))
    exact H.rets (congrArg Value.bool (by rw[Sp.sv_false (k:=k) oM (Sp.okH_id hz4 oM)]))
   intro hc8'
   try simp only[nrm]at hc8'
   refine gR Z (fA 2 Z (gR Z (lB 0 H Z3 (pe 3 Z ?_))))
   refine R_case (t:=32) Z ?_ ?_
   ·intro hc9
    try simp only[nrm]at hc9
    refine pe 10 Z (q3 (W_true Z (q2 (aG Z (q3 (W_ret (N_K_ret (N_B_ret (N_K_ret (N_LP_ret (N_B_ret (N_K_ret (rt1 results227 Z ?_)))))))))))))
    exact H.rets (congrArg Value.bool (by rw[Sp.sv_false (k:=k) oM (Sp.okH_id hz4 oM)]))
   intro hc9'
   try simp only[nrm]at hc9'
   refine gR Z (fA 2 Z (gR Z (lB 0 H Z3 (pe 3 Z ?_))))
   refine R_case (t:=37) Z ?_ ?_
   ·intro hc10
    try simp only[nrm]at hc10
    refine pe 5 Z (q3 (W_true Z (q2 (aG Z (q3 (W_ret (N_K_ret (N_B_ret (N_K_ret (N_LP_ret (N_B_ret (N_K_ret (rt1 results227 Z ?_)))))))))))))
    exact H.rets (congrArg Value.bool (by rw[Sp.sv_false (k:=k) oM (Sp.okH_id hz4 oM)]))
   intro hc10'
   try simp only[nrm]at hc10'
   refine gR Z (fA 1 Z (gR Z (lB 0 H Z3 (gR Z (xr H Z2 (i_BlockValid_c _ _ H.sub _ _ hr4) ?_)))));intro _ H
   refine pe 2 Z (q3 ?_)
   refine W_cond Z ?_ ?_
   ·intro hc12
    try simp only[nrm]at hc12
    refine q2 (aG Z (q3 (W_ret (N_K_ret (N_B_ret (N_K_ret (N_LP_ret (N_B_ret (N_K_ret (rt1 results227 Z ?_))))))))))
    exact H.rets (congrArg Value.bool (by rw[Sp.sv_false (k:=k) oM (Sp.okH_id hz4 (by exact .inr (.inr (.inr (by simpa using hc12)))))]))
   intro hc12'
   try simp only[nrm]at hc12'
   refine W_skip (N_K (W_seq (q2 (pe 2 Z ?_))))
   have hcap13:=hlist.cap;try simp only[List.length_set,List.length_append,List.length_take,List.length_drop,List.length_replicate]at hcap13
   refine o_slice_to (j:=k) underlying23 sizeOf153 Z Z Z oM oM ?_
   have hsl13:=hlist.take (j:=k) aN
   have hsn1:=hsl13.len
   refine lN Z (mV Z (q3 (W_block ?_)))
   obtain⟨ln14,hln14,H⟩:=H.name (k:=0) rfl
   refine W_lp (hf:=(Sub.cons (t:=0) Z (Sub.cons (t:=3) Z (Sub.cons (t:=5) Z (Sub.cons (t:=11) Z (Sub.cons (t:=12) Z (Sub.cons (t:=13) Z (Sub.cons (t:=45) Z (Sub.cons (t:=46) Z Sub.nil))))))))) (J:=fun M w m=>∃(j:Nat) (G:PH),M=[(47,.int .i64 (j:Int))]∧PLe G2 G∧Hp w0 G0 [] w G [blk b5 (cl ln14 153)]∧(j≤k∧(list.take j).all (fun g=> !Sp.l2Same g.bytes z4.bytes)=true)∧m=(k-j)) (h0:=⟨0,_,Z,PLe.refl _,H,?inv,Z⟩) (round:=?round)
   case inv=>exact⟨by omega,by simp⟩
   case round =>
    rintro _ _ _ ⟨j,_,rfl,hle15,H,hinv15,rfl⟩
    subst hln14
    have hr4:=hr4.up hle15
    have hsl13:=hsl13.up hle15
    have hle2:=hle2.trans hle15
    obtain⟨hj,hall2⟩:=hinv15
    refine q2 (pe 1 Z (q3 (W_seq ?_)))
    refine W_cond Z ?_ ?_
    ·intro hc16
     try simp only[nrm]at hc16
     refine W_skip (N_K (W_seq (W_block (q2 (iP j hsl13 Z3 Z ?_)))));intro _ _ _ _ hz17 hE17 hrow17
     obtain⟨_,_,_,rfl,_,hr17,_,_,_⟩:=ox hE17
     rw[List.getElem?_take,if_pos oM]at hz17
     refine o_loadagg_P H isAgg153 sizeOf153 Z Z hrow17 Z (xal H Z ?_);intro _ _ _ H
     refine xst 0 H Z8 ?_;intro _ H
     refine q1 (fA 1 Z (lB 0 H Z3 (fA 1 Z (lB 1 H Z3 (xr H Z2 (l_Equal_c _ _ H.sub _ _ hr17 _ _ hr4) ?_)))));intro _ H
     refine q3 ?_
     refine W_cond Z ?_ ?_
     ·intro hc21
      try simp only[nrm]at hc21
      refine q2 (aG Z (q3 (W_ret (N_B_ret (N_K_ret (N_LP_ret (N_B_ret (N_K_ret (N_B_ret (N_K_ret (N_LP_ret (N_B_ret (N_K_ret (rt1 results227 Z ?_))))))))))))))
      exact H.rets (congrArg Value.bool (by rw[Sp.sv_false (k:=k) oM (Sp.okH_dup hz4 oM hz17 hc21)]))
     intro hc21'
     try simp only[nrm]at hc21'
     refine W_skip (N_B (N_K (W_region (aD Z2 (mV Z (R_nil ?_))))))
     have H:=H.dl 0
     refine N_lp (hJ:=⟨j+1,_,Z,hle15,H,?inv,Z⟩) (hm:=?hm)
     case hm=>omega
     case inv=>exact⟨by omega,Sp.all_take hall2 hz17 (by simp[hc21'])⟩
    intro hc16'
    try simp only[nrm]at hc16'
    refine W_exit (N_K_exit (N_LP_exit (N_B_same (N_K (W_region (fA 0 Z (lB 0 H Z3 (aG Z (R_nil (N_B (N_K (W_region (aD Z2 (mV Z (R_nil ?_)))))))))))))))
    have H:=H.dl 0
    refine N_lp (hJ:=⟨k+1,z4.id,_,Z,hle2,H,?inv,Z⟩) (hm:=?hm)
    case hm=>omega
    case inv=>(obtain rfl:j=k:=by omega);exact⟨by omega,(Sp.lastId_succ hz4).symm,Sp.upto_succ hall (Sp.okH_mk hz4 hall oM oM (by simpa using hc12') oM hall2),hi4⟩
  intro hc3'
  try simp only[nrm]at hc3'
  refine W_exit (N_K_exit (N_LP_exit (N_B_same (N_K (q2 (aG Z (q3 (W_ret (rt1 results227 Z ?_)))))))))
  exact H.rets (congrArg Value.bool (by rw[Sp.sv_true (fun j hj=>hall j oM) oM]))
theorem i_openStore_c (w0:World)(G0:PH)(hG:PSub G0 w0)(vlist:Value)(list:List (BHeld))(hlist:RdH G0 vlist list)(hLent:Lent w0 G0 []) :
  Calls Tryz.prog 184 #[vlist] w0 (RetM w0 G0 [] (fun G' v Bs=>(Sp.StoreValid list=false∧v= .tuple #[.map none,.bool false]∧Bs=[])∨(Sp.VH list∧∃(mb:Nat) (es':Array MapEntry) (ck':Nat) (xs':List (Int×Value)),v= .tuple #[.map (some mb),.bool true]∧Bs=[blk mb (.map es' ck')]∧MapIs (Value.int .i64) es' ck' xs'∧StR G' xs' list))):=by
 obtain⟨alist,klist,rfl⟩:=hlist.shape
 have hlimlist:list.length≤1099511627776:=hlist.lim
 have H:Hp w0 G0 [] w0 G0 []:=hLent.hp
 refine calls_of_W (l:=[.slice alist list.length klist]) func184 Z ntmps184 Z (q2 (pe 2 Z (q3 (W_seq (q2 (mV Z (xr H Z2 (i_StoreValid_c _ _ H.sub _ _ hlist) ?_)))))));intro _ H
 refine pe 1 Z (q3 ?_)
 refine W_cond Z ?_ ?_
 ·intro hc2
  try simp only[nrm]at hc2
  refine q2 (pe 2 Z (q3 (W_ret (N_K_ret (rt2 results184 Z Z ?_)))))
  exact H.retM (.inl ⟨by simpa using hc2,rfl,rfl⟩)
 intro hc2'
 try simp only[nrm]at hc2'
 have hVl:=Sp.valid_iff.1 (by simpa using hc2':Sp.StoreValid list=true)
 refine W_skip (N_K (q2 (o_makeMap H Z ?_)));intro b3 _ _ H
 have hm3:=MapIs.empty (key:=Value.int .i64) 0
 have hS3:=StR.nil G0
 refine aG Z (q3 (W_seq (q2 (mV Z (lN Z (mV Z (q3 (W_block ?_))))))))
 refine W_lp (hf:=(Sub.cons (t:=2) Z (Sub.cons (t:=3) Z (Sub.cons (t:=4) Z (Sub.cons (t:=11) Z (Sub.cons (t:=12) Z Sub.nil)))))) (J:=fun M w m=>∃(esm0:Array MapEntry) (ckm0:Nat) (xsm0:List (Int×Value)) (Lm0:List BHeld) (k:Nat) (G:PH),M=[(13,.int .i64 (k:Int))]∧PLe G0 G∧Hp w0 G0 [] w G [blk b3 (.map esm0 ckm0)]∧(MapIs (Value.int .i64) esm0 ckm0 xsm0∧StR G xsm0 Lm0∧Sp.VH Lm0∧k≤list.length∧Lm0=list.take k)∧m=(list.length-k)) (h0:=⟨_,_,[],[],0,_,Z,PLe.refl _,H,?inv,Z⟩) (round:=?round)
 case inv=>exact⟨hm3,hS3,Sp.VH_nil,(by simp)⟩
 case round =>
  rintro _ _ _ ⟨esm0,ckm0,xsm0,Lm0,k,G4,rfl,hle4,H,hinv4,rfl⟩
  have hlist:=hlist.up hle4
  obtain⟨hm4_m0,hS4_m0,_,hinv4⟩:=hinv4
  obtain⟨_,rfl⟩:=hinv4
  refine q2 (pe 1 Z (q3 (W_seq ?_)))
  refine W_cond Z ?_ ?_
  ·intro hc5
   try simp only[nrm]at hc5
   refine W_skip (N_K (W_seq (W_block (q2 (iP k hlist Z3 Z ?_)))));intro _ _ z6 _ hz6 hE6 hrow6
   obtain⟨_,_,_,rfl,_,hr6,_,_,_⟩:=ox hE6
   refine o_loadagg_P H isAgg153 sizeOf153 Z Z hrow6 Z (xal H Z ?_);intro _ _ _ H
   refine xst 0 H Z8 ?_;intro _ H
   refine q3 (W_drawK [0] 12 H kR Z ?_);intro _ H;have hd9:=PLe.refl G4
   refine dE 0 Z2 (dF 1 0 Z2 (dB 2 0 Z4 (dF 3 0 Z2 (dB 4 0 Z4 (dF 5 1 Z2 (dB 6 0 Z4 (dF 8 2 Z2 (dB 9 0 Z4 (r1 7 Z (xc Z2 (l_Clone_c _ _ H.sub _ _ hr6) ?_))))))))))
   rintro _ _ ⟨_,_,_,g10,rfl,⟨_,rfl,hchk10⟩,hp10,hq10,hs10⟩
   have H:=H.growO g10 hp10 hq10 hs10;obtain⟨_,_,rfl⟩:=H.accShape (k:=0) rfl
   have hS4_m0:=hS4_m0.up g10.le
   have hle4:=hle4.trans g10.le
   have hd9:=hd9.trans g10.le
   refine⟨_,Z,?_⟩
   refine q4 H hd9 (RD_t 10 Z kR Z (fun _ hK=>v_build bf153 Z Z) (r1 11 Z ?_))
   obtain⟨G12,H,hsg12,hsr12⟩:=H.shutL (k:=0) rfl (H.apart (k:=0) (ks:=[]) rfl rfl (by intro _ hb;simpa [fpsAt,nth,blk] using hb)) hchk10 aN aN
   have hS4_m0:=hS4_m0.up hsg12
   have hle4:=hle4.trans hsg12
   refine o_updS 1 H z6 Z hm4_m0 hS4_m0 underlying121 underlying3 Z Z Z (show heldE G12 z6 _ from⟨_,_,_,Z,⟨by first|omega|(dsimp only;omega),by first|omega|(dsimp only;omega)⟩,hsr12,⟨by first|omega|(dsimp only;omega),by first|omega|(dsimp only;omega)⟩⟩) rfl ?_;intro _ _ xs11 _ H hm11 hS11
   refine R_nil (N_DKlast kR kR (N_B (N_K (W_region ?_))))
   rw[Sp.upd_take hVl hz6]at hS11
   refine aD Z2 (mV Z (R_nil ?_))
   have H:=H.dl 0
   refine N_lp (hJ:=⟨_,_,xs11,(list.take (k+1)),k+1,_,Z,hle4,H,?inv,Z⟩) (hm:=?hm)
   case hm=>omega
   case inv=>exact⟨hm11,hS11,(hVl.take (k+1)),(by exact⟨by omega,rfl⟩)⟩
  intro hc5'
  try simp only[nrm]at hc5'
  refine W_exit (N_K_exit (N_LP_exit (N_B_same (N_K (q2 (pe 3 Z (q3 (W_ret (rt2 results184 Z Z ?_)))))))))
  rw[List.take_of_length_le oM]at hS4_m0
  exact H.retM (.inr ⟨hVl,_,_,_,_,Z,Z,hm4_m0,hS4_m0⟩)
theorem i_slist_c (w0:World)(G0:PH)(hG:PSub G0 w0)(mbs:Nat)(ess:Array MapEntry)(cks:Nat)(xss:List (Int×Value))(Ls:List BHeld)(hbs:MapAt G0 mbs ess cks)(hms:MapIs (Value.int .i64) ess cks xss)(hSs:StR G0 xss Ls)(hVs:Sp.VH Ls) :
  Calls Tryz.prog 188 #[.map (some mbs)] w0 (RetN w0 G0 (fun v Bs=>∃(F:Fr),Bs=[frag F]∧OHs F v Ls)):=by
 have hl16:=hVs.len
 have H:=Hp.init hG
 refine calls_of_W (l:=[.map (some mbs)]) func188 Z ntmps188 Z (q2 (aG Z (q1 (mV Z ?_))))
 have hml1:=hSs.len
 refine o_lenM (hbs.at H.sub) hms underlying121 Z Z (o_make0 (c:=Ls.length) (sz:=3) (bytes:=40) H underlying23 typeInfo153 ⟨_,Z,Z⟩ Z Z Z Z Z Z oM oM Z ?_);intro _ _ H
 refine aG Z (q3 (W_seq (q2 (mV Z (o_call call230 Z Z (keys_c _ _ H.sub _) ?_)))));rintro _ w3 ⟨kb3,rfl,hkb3,ek3,hkc3⟩;have H:=H.step ek3;refine⟨_,rfl,?_⟩
 refine o_call call229 Z Z (sorted_c _ _ _ hkc3 (hbs.at H.sub) hms hSs hVs) ?_;rintro _ w4 ⟨v4,rfl,ek4,hp4,hf4⟩;have H:=H.add ek4 _ hp4 hf4 (acc_nd _ _ _ _ _)
 have hchk4:=chkIds G0 hVs;obtain⟨_,_,rfl⟩:=H.accShape (k:=0) rfl;refine⟨_,rfl,?_⟩
 refine lN Z (mV Z (q3 (W_block ?_)))
 obtain⟨G5,H,hsg5,hsr5⟩:=H.shut' (k:=0) rfl hchk4 aN aN
 have hSs:=hSs.up hsg5
 have hbs:=hbs.up hsg5
 have H:=H.addF
 refine W_lp (hf:=(Sub.cons (t:=0) Z (Sub.cons (t:=2) Z (Sub.cons (t:=12) Z (Sub.cons (t:=13) Z Sub.nil))))) (J:=fun M w m=>∃(v:Value) (n:Nat) (cs:List Value) (xs:List (BHeld)) (F:Fr) (k:Nat) (G:PH),M=[(14,.int .i64 (k:Int)),(3,v)]∧PLe G5 G∧Hp w0 G0 [] w G [frag F,acc 153 3 v n cs]∧(ChkF heldO 3 cs xs F∧n=xs.length∧k≤Ls.length∧xs=Ls.take k)∧m=(Ls.length-k)) (h0:=⟨_,_,_,[],[],0,_,Z,PLe.refl _,H,?inv,Z⟩) (round:=?round)
 case inv=>exact⟨ChkF.nil,by first|rfl|simp|(simp;omega)|omega,(by simp)⟩
 case round =>
  rintro _ _ _ ⟨v,n,cs,xs,F,k,G6,rfl,hle6,H,hinv6,rfl⟩
  have hSs:=hSs.up hle6
  have hbs:=hbs.up hle6
  have hsr5:=hsr5.up hle6
  obtain⟨hchk6_0,_,hinv6⟩:=hinv6
  obtain⟨_,_,rfl⟩:=H.accShape (k:=1) rfl
  obtain⟨_,hxs⟩:=hinv6;have hxl:xs.length≤16:=by rw[hxs];simp;omega
  refine q2 (pe 1 Z (q3 (W_seq ?_)))
  refine W_cond Z ?_ ?_
  ·intro hc7
   try simp only[nrm]at hc7
   refine W_skip (N_K (W_seq (W_block (q2 (iP k hsr5 Z3 Z ?_)))));intro _ _ z8 _ hz8 hE8 hrow8
   obtain⟨rfl,_⟩:=hE8
   refine lP H hrow8 0 Z2 (aG Z (q1 (pe 2 Z (o_lookS (hbs.at H.sub) hms hSs underlying121 underlying3 zeroValue153 Z Z Z ?_))));intro _ hE9
   obtain⟨_,_,_,rfl,_,hr9,_,_,_⟩:=ox hE9
   have hgb:=Sp.get_len hVs z8
   have hat:=Sp.get_at hVs hz8
   refine xal H Z ?_;intro _ _ _ H
   refine xst 0 H Z8 ?_;intro _ H
   refine q3 (W_drawK [0] 11 H kR Z ?_);intro _ H;have hd12:=PLe.refl G6
   refine dE 0 Z2 (dE 1 Z2 (dF 2 1 Z2 (dB 3 0 Z4 (dF 5 2 Z2 (dB 6 0 Z4 (r1 4 Z (xc Z2 (l_Clone_c _ _ H.sub _ _ hr9) ?_)))))))
   rintro _ _ ⟨_,_,_,g13,rfl,⟨_,rfl,hchk13⟩,hp13,hq13,hs13⟩
   have H:=H.growO g13 hp13 hq13 hs13;obtain⟨_,_,rfl⟩:=H.accShape (k:=0) rfl
   have hle6:=hle6.trans g13.le
   have hd12:=hd12.trans g13.le
   refine⟨_,Z,?_⟩
   refine q4 H hd12 (RD_t 7 Z kR Z (fun _ hK=>v_build bf153 Z Z) (r1 8 Z (xbs H Z7 ?_)));intro _ _ _ H
   refine q4 H hd12 (r1 9 Z (o_append1 3 H (sz:=3) (bytes:=40) underlying23 typeInfo153 ⟨_,Z,Z⟩ Z Z Z Z Z Z Z Z Z Z oM Z ?_));intro _ _ H
   obtain⟨Fi2,H,hOI2⟩:=H.ownI (k:=0) rfl hchk13 aN aN
   have hchk15:=hchk6_0.snoc (show heldO Fi2 ⟨z8,(getH Ls z8).bytes,(getH Ls z8).uses⟩ _ from⟨_,_,_,rfl,⟨by first|omega|(dsimp only;omega),by first|omega|(dsimp only;omega)⟩,hOI2,⟨by first|omega|(dsimp only;omega),by first|omega|(dsimp only;omega)⟩⟩) rfl
   have H:=H.tF 2
   have H:=H.mergeF
   obtain⟨_,_,rfl⟩:=H.accShape (k:=2) rfl
   refine q4 H hd12 (dE 10 Z2 (rz (N_B (N_K (W_region (aD Z2 (mV Z (R_nil ?_))))))))
   have H:=H.dl 1
   refine N_lp (hJ:=⟨_,_,_,(xs++[⟨z8,(getH Ls z8).bytes,(getH Ls z8).uses⟩]),(F++Fi2),k+1,_,Z,hle6,H,?inv,Z⟩) (hm:=?hm)
   case hm=>omega
   case inv=>exact⟨hchk15,aN,(by exact⟨by omega,by rw[Sp.take_succ' hat,hxs]⟩)⟩
  intro hc7'
  try simp only[nrm]at hc7'
  refine W_exit (N_K_exit (N_LP_exit (N_B_same (N_K (q2 (pe 2 Z (q3 (W_ret (rt1 results188 Z ?_)))))))))
  have H:=H.tF 1
  obtain⟨_,H,hOw3⟩:=H.ownF hchk6_0 aN aN
  have hX:xs=Ls:=by rw[hxs,List.take_of_length_le oM]
  have H:=H.forget hG (by simp)
  exact⟨_,_,Z,H,_,Z,hX▸⟨_,hOw3⟩⟩
theorem i_newVolume_c (w0:World)(G0:PH)(hG:PSub G0 w0)(vstore:Value)(store:List (BHeld))(hstore:RdH G0 vstore store)(vtree:Value)(tree:List (BItem))(htree:RdItems G0 vtree tree)(hLent:Lent w0 G0 []) :
  Calls Tryz.prog 107 #[vstore,vtree] w0 (RetM w0 G0 [] (fun G' v Bs=>(v= .tuple #[.agg #[.map none,.pointer none],.bool false]∧Bs=[]∧(Sp.StoreValid store&&Sp.TreeValid tree)=false)∨(∃(mb:Nat) (es:Array MapEntry) (ck:Nat) (xs:List (Int×Value)) (T:Nd) (F:Fr),v= .tuple #[.agg #[.map (some mb),.pointer (some ⟨T.b,0,none⟩)],.bool true]∧Bs=[blk mb (.map es ck),frag F]∧MapIs (Value.int .i64) es ck xs∧StR G' xs store∧Sp.VH store∧NdO 138 119 G' T F∧Nd.TOK T tree∧Sp.TreeValid tree=true))):=by
 obtain⟨astore,kstore,rfl⟩:=hstore.shape
 have hlimstore:store.length≤1099511627776:=hstore.lim
 obtain⟨atree,ktree,rfl⟩:=htree.shape
 have hlimtree:tree.length≤1099511627776:=htree.lim
 have H:Hp w0 G0 [] w0 G0 []:=hLent.hp
 refine calls_of_W (l:=[.slice astore store.length kstore,.slice atree tree.length ktree]) func107 Z ntmps107 Z (q2 (xal H Z ?_));intro _ _ _ H
 refine aG Z (q1 (mV Z (xc Z2 (i_openStore_c _ _ H.sub _ _ hstore H.lent0) ?_)))
 rintro _ _ ⟨_,_,_,rfl,H2',⟨_,rfl,rfl⟩|⟨hV2,_,_,_,_,rfl,rfl,hm2,hS2⟩⟩
 ·skip
  have H:=H.borrow0 H2'
  refine⟨_,Z,?_⟩
  refine pe 5 Z (q3 (W_seq (q2 (pe 2 Z (q3 (W_true Z (q2 (o_build bf123 Z Z Z (xst 0 H Z8 ?_)))))))));intro _ H
  refine aG Z (q3 (W_ret (N_K_ret (ret_gen (rs:=[.cell 4 123,.tmp 5]) (vs:=[_,_]) results107 ⟨⟨_,Z,load_blk 0 H isAgg123 sizeOf123 Z Z Z⟩,Z,trivial⟩ ?_))))
  have H:=H.dl 0
  exact H.retM (.inl ⟨rfl,rfl,by simp_all⟩)
 skip
 have htree:=htree.up H2'.le
 have H:=H.borrow0 H2'
 refine⟨_,Z,?_⟩
 refine pe 5 Z (q3 (W_seq (q2 (pe 2 Z (q3 (W_false Z (W_skip (N_K (q2 (mV Z (xc Z2 (i_openTree_c _ _ H.sub _ _ htree H.lent0) ?_)))))))))))
 rintro _ _ ⟨_,_,_,rfl,H4',⟨rfl,rfl,hv4⟩|⟨_,_,rfl,rfl,hN4,hT4,hv4⟩⟩
 ·skip
  have H:=H.borrow0 H4'
  refine⟨_,Z,?_⟩
  refine pe 5 Z (q3 (W_seq (q2 (pe 2 Z (q3 (W_true Z (q2 (o_build bf123 Z Z Z (xst 1 H Z8 ?_)))))))));intro _ H
  refine aG Z (q3 (W_ret (N_K_ret (ret_gen (rs:=[.cell 4 123,.tmp 5]) (vs:=[_,_]) results107 ⟨⟨_,Z,load_blk 1 H isAgg123 sizeOf123 Z Z Z⟩,Z,trivial⟩ ?_))))
  have H:=H.dl 0
  have H:=H.dl 0
  exact H.retM (.inl ⟨rfl,rfl,by simp_all⟩)
 skip
 have hS2:=hS2.up H4'.le
 have H:=H.borrow0 H4'
 refine⟨_,Z,?_⟩
 refine pe 5 Z (q3 (W_seq (q2 (pe 2 Z (q3 (W_false Z (W_skip (N_K (q2 (pe 2 Z (o_build bf123 Z Z Z (xst 2 H Z8 ?_))))))))))));intro _ H
 refine aG Z (q3 (W_ret (ret_gen (rs:=[.cell 4 123,.tmp 5]) (vs:=[_,_]) results107 ⟨⟨_,Z,load_blk 2 H isAgg123 sizeOf123 Z Z Z⟩,Z,trivial⟩ ?_)))
 have H:=H.dl 2
 have H:=H.tF 1
 exact H.retM (.inr ⟨_,_,_,_,_,_,Z,Z,hm2,hS2,hV2,hN4,hT4,hv4⟩)
theorem i_keepTree_c (w0:World)(G0:PH)(hG:PSub G0 w0)(mbs:Nat)(ess:Array MapEntry)(cks:Nat)(xss:List (Int×Value))(Ls:List BHeld)(hms:MapIs (Value.int .i64) ess cks xss)(hSs:StR G0 xss Ls)(hVs:Sp.VH Ls)(Ft:Fr)(t:Nd)(hNt:NdO 138 119 G0 t Ft)(hLent:Lent w0 G0 [blk mbs (.map ess cks),frag Ft])(hwt:t.wf)(hct:t.cnt≤1000) :
  Calls Tryz.prog 145 #[.map (some mbs),.pointer (some ⟨t.b,0,none⟩)] w0 (RetM w0 G0 (fps [blk mbs (.map ess cks),frag Ft]) (fun G' v Bs=>∃(es':Array MapEntry) (ck':Nat) (xs':List (Int×Value)) (L':List BHeld),v= .bool (Sp.l12Keep Ls (t.flat [])).isSome∧Bs=[blk mbs (.map es' ck'),frag Ft]∧MapIs (Value.int .i64) es' ck' xs'∧StR G' xs' L'∧Sp.VH L'∧∀l,Sp.l12Keep Ls (t.flat [])=some l→L'=l)):=by
 have hfl:=Nd.flat_len [] t
 have H:Hp w0 G0 (fps [blk mbs (.map ess cks),frag Ft]) w0 G0 [blk mbs (.map ess cks),frag Ft]:=hLent.hp
 refine calls_of_W (l:=[.map (some mbs),.pointer (some ⟨t.b,0,none⟩)]) func145 Z ntmps145 Z (q2 (aG Z (q3 (W_seq (q2 (mV Z (xc Z2 (i_tlist_c _ _ (H.lendSubL [1]) _ ((H.lendN (k:=1) (ks:=[1]) Z Z hNt).at (show Nd.at_ t []=some t from Z)) hwt hct) ?_)))))))
 rintro _ _ ⟨_,_,rfl,H1',⟨_,rfl,hO1⟩⟩
 have H:=H.readersL H1'
 obtain⟨_,hP1⟩:=hO1
 obtain⟨_,_,rfl⟩:=OwnS.shape hP1
 have hO1:=OIs.mk hP1
 refine⟨_,Z,?_⟩
 have hdm1:=dm_nodup H (k:=0) rfl;obtain⟨Gk1,H,hkl1,hks1⟩:=H.keepF (k:=0) rfl (H.apart (k:=0) (ks:=[1,2]) rfl rfl (by intro b hb;simp only[fps,List.flatMap_cons,List.flatMap_nil,List.append_nil,List.mem_append]at hb;rcases hb with h|h;(· exact fpsAt_mem (k:=1) rfl rfl b (by exact h));(· exact fpsAt_mem (k:=2) rfl rfl b (by exact h))))
 have hrk1:=hO1.rd hks1 hdm1
 have hSs:=hSs.up hkl1
 have hn_hrk1:=hrk1.len
 refine lN Z (mV Z (q3 (W_block ?_)))
 refine W_lp (hf:=(Sub.cons (t:=0) Z (Sub.cons (t:=8) Z (Sub.cons (t:=9) Z Sub.nil)))) (J:=fun M w m=>∃(esm0:Array MapEntry) (ckm0:Nat) (xsm0:List (Int×Value)) (Lm0:List BHeld) (k:Nat) (G:PH),M=[(10,.int .i64 (k:Int))]∧PLe Gk1 G∧Hp w0 G0 (fps [blk mbs (.map ess cks),frag Ft]) w G [blk mbs (.map esm0 ckm0),frag Ft]∧(MapIs (Value.int .i64) esm0 ckm0 xsm0∧StR G xsm0 Lm0∧Sp.VH Lm0∧k≤(t.flat []).length∧Sp.foldB Sp.keepT ((t.flat []).take k) (some Ls)=some Lm0)∧m=((t.flat []).length-k)) (h0:=⟨_,_,xss,Ls,0,_,Z,PLe.refl _,H,?inv,Z⟩) (round:=?round)
 case inv=>exact⟨hms,hSs,hVs,(by simp[Sp.foldB])⟩
 case round =>
  rintro _ _ _ ⟨esm0,ckm0,xsm0,Lm0,k,_,rfl,hle2,H,hinv2,rfl⟩
  have hrk1:=hrk1.up hle2
  obtain⟨hm2_m0,hS2_m0,hV2_m0,hinv2⟩:=hinv2
  obtain⟨_,hf⟩:=hinv2
  refine q2 (pe 1 Z (q3 (W_seq ?_)))
  refine W_cond Z ?_ ?_
  ·intro hc3
   try simp only[nrm]at hc3
   refine W_skip (N_K (W_seq (W_block (q2 (iP k hrk1 Z3 Z ?_)))));intro _ _ z4 _ hz4 hE4 hrow4
   obtain⟨_,_,_,rfl,_,hr4,_,_⟩:=ox hE4
   refine o_loadagg_P H isAgg35 sizeOf35 Z Z hrow4 Z (xal H Z ?_);intro _ _ _ H
   refine xst 0 H Z8 ?_;intro _ H
   refine q1 (mV Z (fA 2 Z (lB 0 H Z3 ?_)))
   have H:=H.tF 1
   refine xc Z2 (i_keepFile_c _ _ H.sub _ _ _ _ _ hm2_m0 hS2_m0 hV2_m0 _ _ hr4 H.lent1) ?_
   rintro _ _ ⟨_,_,_,rfl,H7',⟨_,_,xs7,L7,rfl,rfl,hm7,hS7,hV7,hL7⟩⟩
   have hle2:=hle2.trans H7'.le
   have H:=H.borrow1 H7'
   refine⟨_,Z,?_⟩
   refine pe 1 Z (q3 ?_)
   refine W_cond Z ?_ ?_
   ·intro hc8
    try simp only[nrm]at hc8
    refine q2 (aG Z (q3 (W_ret (N_B_ret (N_K_ret (N_LP_ret (N_B_ret (N_K_ret (rt1 results145 Z ?_)))))))))
    have H:=H.dl 1
    have H:=H.tF 1
    have H:=H.tF 1
    have hno:Sp.l12Keep Ls (t.flat [])=none:=by (have hno:Sp.keepT Lm0 z4=none:=(show Sp.foldB Sp.StoreKeep z4.ids (some Lm0)=none by simpa using hc8));exact Sp.foldB_stop hf hz4 hno
    exact H.retM ⟨_,_,_,_,congrArg Value.bool (by rw[hno];rfl),rfl,hm7,hS7,hV7,fun l hl=>by rw[hno]at hl;cases hl⟩
   intro hc8'
   try simp only[nrm]at hc8'
   obtain⟨p,hsp⟩:=Option.isSome_iff_exists.1 (show(Sp.foldB Sp.StoreKeep z4.ids (some Lm0)).isSome=true by simpa using hc8')
   have hLp:=hL7 p hsp;subst hLp
   have hsp:Sp.keepT Lm0 z4=some L7:=hsp
   refine W_skip (N_B (N_K (W_region (aD Z2 (mV Z (R_nil ?_))))))
   have H:=H.dl 1
   refine N_lp (hJ:=⟨_,_,xs7,L7,k+1,_,Z,hle2,H,?inv,Z⟩) (hm:=?hm)
   case hm=>omega
   case inv=>exact⟨hm7,hS7,hV7,(by exact⟨by omega,Sp.foldB_succ hf hz4 hsp⟩)⟩
  intro hc3'
  try simp only[nrm]at hc3'
  refine W_exit (N_K_exit (N_LP_exit (N_B_same (N_K (q2 (aG Z (q3 (W_ret (rt1 results145 Z ?_)))))))))
  have H:=H.tF 1
  have H:=H.tF 1
  have hyes:Sp.l12Keep Ls (t.flat [])=some Lm0:=Sp.foldB_all hf oM
  exact H.retM ⟨_,_,_,_,congrArg Value.bool (by rw[hyes];rfl),rfl,hm2_m0,hS2_m0,hV2_m0,fun l hl=>by rw[hyes]at hl;cases hl;rfl⟩
theorem i_snapAt_c (w0:World)(G0:PH)(hG:PSub G0 w0)(db:Nat)(m1 m2 v1 v2 vs:Value)(sn:List (Bs×Nd))(hdk:PRow G0 db 0 [m1,m2,v1,v2,vs])(hsn:RdS LIM osE 2 G0 vs sn)(nm:Bs)(hnm:nm.length≤16777216) :
  Calls Tryz.prog 143 #[.pointer (some ⟨db,0,none⟩),str nm] w0 (Rets w0 (.int .i64 (Sp.optI (sn.findIdx? (fun x=>decide (x.1=nm)))))):=by
 obtain⟨_,_,rfl⟩:=hsn.shape;have hlimsn:sn.length≤1099511627776:=hsn.lim
 have H:=Hp.init hG
 refine calls_of_W (l:=[.pointer (some ⟨db,0,none⟩),str nm]) func143 Z ntmps143 Z (q2 (aG Z (q3 (W_seq (q2 (pe 2 Z (fA 4 Z (lP H hdk 4 Z2 (lN Z (mV Z (q3 (W_block ?_))))))))))))
 refine W_lp (hf:=(Sub.cons (t:=1) Z (Sub.cons (t:=10) Z (Sub.cons (t:=11) Z Sub.nil)))) (J:=fun M w m=>∃(k:Nat) (G:PH),M=[(12,.int .i64 (k:Int))]∧PLe G0 G∧Hp w0 G0 [] w G []∧(k≤sn.length∧∀(j:Nat) (x:Bs×Nd),j<k→sn[j]? = some x→decide (x.1=nm)=false)∧m=(sn.length-k)) (h0:=⟨0,_,Z,PLe.refl _,H,?inv,Z⟩) (round:=?round)
 case inv=>exact⟨by omega,fun j x hj=>by omega⟩
 case round =>
  rintro _ _ _ ⟨k,_,rfl,hle1,H,hinv1,rfl⟩
  have hsn:=hsn.up hle1
  obtain⟨_,hno⟩:=hinv1
  refine q2 (pe 1 Z (q3 (W_seq ?_)))
  refine W_cond Z ?_ ?_
  ·intro hc2
   try simp only[nrm]at hc2
   refine W_skip (N_K (W_seq (W_block (q2 (mV Z (iP k hsn Z3 Z ?_))))));intro _ _ _ _ hz3 hE3 hrow3
   obtain⟨rfl,hi3⟩:=hE3;have hy_hi3:_≤16777216:=hi3
   refine o_loadagg_P H isAgg199 sizeOf199 Z Z hrow3 Z (xal H Z ?_);intro _ _ _ H
   refine aG Z (xst 0 H Z8 ?_);intro _ H
   refine q1 (fA 0 Z (lB 0 H Z3 (mV Z (o_seql Z Z Z (q3 ?_)))))
   refine W_cond Z ?_ ?_
   ·intro hc6
    try simp only[nrm]at hc6
    refine q2 (pe 2 Z (q3 (W_ret (N_B_ret (N_K_ret (N_LP_ret (N_B_ret (N_K_ret (rt1 results143 Z ?_)))))))))
    exact H.rets (congrArg (Value.int .i64) (by rw[Sp.fidx_some (p:=fun x:Bs×Nd=>decide (x.1=nm)) hno hz3 (by simpa using hc6)];rfl))
   intro hc6'
   try simp only[nrm]at hc6'
   refine W_skip (N_B (N_K (W_region (aD Z2 (mV Z (R_nil ?_))))))
   have H:=H.dl 0
   refine N_lp (hJ:=⟨k+1,_,Z,hle1,H,?inv,Z⟩) (hm:=?hm)
   case hm=>omega
   case inv=>exact⟨by omega,Sp.fidx_step hno hz3 (by simpa using hc6')⟩
  intro hc2'
  try simp only[nrm]at hc2'
  refine W_exit (N_K_exit (N_LP_exit (N_B_same (N_K (q2 (aG Z (q3 (W_ret (rt1 results143 Z ?_)))))))))
  exact H.rets (congrArg (Value.int .i64) (by rw[Sp.fidx_none (p:=fun x:Bs×Nd=>decide (x.1=nm)) (fun j x hj=>hno j x oM)];rfl))
theorem i_newDisk_c (w0:World)(G0:PH)(hG:PSub G0 w0)(cd:List Value)(d:BDisk)(hd:diskE G0 d cd)(hLent:Lent w0 G0 []) :
  Calls Tryz.prog 70 #[.agg cd.toArray] w0 (RetM w0 G0 [] (fun G' v Bs=>(v= .tuple #[.pointer none,.bool false]∧Bs=[]∧Sp.DiskValid d=false)∨(∃(db mb:Nat) (es:Array MapEntry) (ck:Nat) (xs:List (Int×Value)) (T:Nd) (F:Fr) (sv:Value) (sn:List (Fw.Bs×Nd)) (c:List Value) (FSq:Fr),v= .tuple #[.pointer (some ⟨db,0,none⟩),.bool true]∧Bs=[blk db (cl [.int .i32 0,.int .u32 0,.map (some mb),.pointer (some ⟨T.b,0,none⟩),sv] 133),blk mb (.map es ck),frag F,acc 199 2 sv sn.length c,frag FSq]∧MapIs (Value.int .i64) es ck xs∧StR G' xs d.store∧NdO 138 119 G' T F∧Nd.TOK T d.tree∧Chk osE 2 G' c sn∧NdsO 138 119 G' (sn.map (·.2)) FSq∧SnOK sn d.snaps∧Sp.DiskValid d=true))):=by
 obtain⟨_,_,_,_,_,_,_,_,_,rfl,hr1,hr1',hr1'',⟨_,_⟩,⟨_,_⟩,_,_⟩:=ox hd
 have H:Hp w0 G0 [] w0 G0 []:=hLent.hp
 refine calls_of_W (l:=[_]) func70 Z ntmps70 Z (q2 (o_box H Z Z Z ?_));intro b2 _ _ H
 refine pe 2 Z (q1 (fA 0 Z (lB 0 H Z3 (fA 1 Z (lB 0 H Z3 (xc Z2 (i_newVolume_c _ _ H.sub _ _ hr1 _ _ hr1' H.lent0) ?_))))))
 rintro _ _ ⟨G3,_,_,rfl,H3',⟨rfl,rfl,hnv3⟩|⟨mb3,es3,ck3,_,T3,F3,rfl,rfl,hm3,hS3,hV3,hN3,hT3,hv3⟩⟩
 ·skip
  have H:=H.borrow0 H3'
  refine⟨_,Z,?_⟩
  refine pe 3 Z (xal H Z ?_);intro _ _ _ H
  refine xst 0 H Z8 ?_;intro _ H
  refine aG Z (q3 (W_seq (q2 (pe 8 Z (q3 (W_true Z (q2 (pe 2 Z (q3 (W_ret (N_K_ret (rt2 results70 Z Z ?_))))))))))))
  have H:=H.dl 0
  have H:=H.dl 0
  exact H.retM (.inl ⟨rfl,rfl,Sp.dv_no (fun hh=>by simp[hh.1,hh.2.1]at hnv3)⟩)
 skip
 have hr1'':=hr1''.up H3'.le
 have H:=H.borrow0 H3'
 refine⟨_,Z,?_⟩
 refine pe 3 Z (xal H Z ?_);intro b6 _ _ H
 refine xst 0 H Z8 ?_;intro _ H
 refine aG Z (q3 (W_seq (q2 (pe 3 Z (gR Z (fA 2 Z (gR Z (lB 3 H Z3 (gR Z (lN Z (pe 2 Z (q3 ?_))))))))))))
 refine W_cond Z ?_ ?_
 ·intro hc8
  try simp only[nrm]at hc8
  refine q2 (pe 2 Z (q3 (W_ret (N_K_ret (rt2 results70 Z Z ?_)))))
  have H:=H.dl 0
  have H:=H.dl 0
  have H:=H.dl 0
  have H:=H.dl 0
  exact H.retM (.inl ⟨rfl,rfl,Sp.dv_no (fun hh=>by have:=hh.2.2.1;omega)⟩)
 intro hc8'
 try simp only[nrm]at hc8'
 refine W_skip (N_K (q2 (lA 0 2 H Z4 (o_build bf133 Z Z Z (o_box H Z Z Z ?_)))));intro b9 _ _ H
 refine aG Z (q1 (fA 1 Z (lB 1 H Z3 (xbs H Z7 ?_))));intro _ _ _ H
 refine aG Z (q3 (W_seq (q2 (fA 2 Z (lB 5 H Z3 (lN Z (mV Z (q3 (W_block ?_)))))))))
 have H:=H.blkAcc 1 (k:=0) (n:=1) rfl rfl (by decide)
 have H:=H.addF
 have H:=H.addNil 199 2
 obtain⟨ln12,hln12,H⟩:=H.nameAt (k:=3) (off:=4) rfl rfl
 obtain⟨ln13,hln13,H⟩:=H.name (k:=4) rfl
 obtain⟨ln14,hln14,H⟩:=H.name (k:=7) rfl
 refine W_lp (hf:=(Sub.cons (t:=4) Z (Sub.cons (t:=6) Z (Sub.cons (t:=35) Z (Sub.cons (t:=36) Z Sub.nil))))) (J:=fun M w m=>∃(v:Value) (n:Nat) (cs:List Value) (xs:List (Bs×Nd)) (v1:Value) (n1:Nat) (cs1:List Value) (xs1:List (Nd)) (k:Nat) (FSq:Fr) (G:PH),M=[(37,.int .i64 (k:Int)),(7,v1)]∧PLe G3 G∧Hp w0 G0 [] w G [acc 199 2 v n cs,frag FSq,acc 119 1 v1 n1 cs1,blk b9 (cl (setN ln12 4 v) 133),blk b6 (cl ln13 123),blk mb3 (.map es3 ck3),frag F3,blk b2 (cl ln14 27)]∧(Chk osE 2 G cs xs∧n=xs.length∧Chk kdE 1 G cs1 xs1∧n1=xs1.length∧k≤d.snaps.length∧xs1=T3::xs.map (·.2)∧NdsO 138 119 G (xs.map (·.2)) FSq∧SnOK xs (d.snaps.take k)∧∀(j:Nat) (s:BSnap),j<k→d.snaps[j]? = some s→Sp.l1Word s.name=true∧(j:Int)≤Sp.l12At d.snaps s.name)∧m=(d.snaps.length-k)) (h0:=⟨_,_,_,[],_,_,_,[T3],0,[],_,Z,PLe.refl _,H,?inv,Z⟩) (round:=?round)
 case inv=>exact⟨(Chk.nil (E:=osE) (sz:=2) (G:=G3)),(by first|rfl|simp|(simp;omega)|omega),(chkK [T3]),by first|rfl|simp|(simp;omega)|omega,(by exact⟨by omega,rfl,by simp[NdsO],.nil,fun j s hj=>by omega⟩)⟩
 case round =>
  rintro _ _ _ ⟨v,n,cs,xs,v1,n1,cs1,xs1,k,FSq,_,rfl,hle15,H,hinv15,rfl⟩
  subst hln12
  subst hln13
  subst hln14
  have hr1'':=hr1''.up hle15
  have hS3:=hS3.up hle15
  have hN3:=hN3.up hle15
  obtain⟨hchk15_0,_,hinv15⟩:=hinv15
  obtain⟨_,_,rfl⟩:=H.accShape (k:=0) rfl
  obtain⟨hchk15_1,_,hinv15⟩:=hinv15
  obtain⟨_,_,rfl⟩:=H.accShape (k:=2) rfl
  obtain⟨_,hx1,hNs,hSn,hw⟩:=hinv15;have hsl:=hSn.len;have hxl6:xs.length≤6:=(by simp at hsl;omega);have hx1l:xs1.length=xs.length+1:=by simp[hx1]
  refine q2 (pe 1 Z (q3 (W_seq ?_)))
  refine W_cond Z ?_ ?_
  ·intro hc16
   try simp only[nrm]at hc16
   refine W_skip (N_K (W_seq (W_block (q2 (iP k hr1'' Z3 Z ?_)))));intro _ _ z17 _ hz17 hE17 hrow17
   obtain⟨_,_,_,rfl,hi17,hr17,_,_⟩:=ox hE17
   refine o_loadagg_P H isAgg107 sizeOf107 Z Z hrow17 Z (xal H Z ?_);intro _ _ _ H
   refine xst 0 H Z8 ?_;intro _ H
   refine q1 (fA 1 Z (lB 0 H Z3 (xc Z2 (i_openTree_c _ _ H.sub _ _ hr17 H.lent0) ?_)))
   rintro _ _ ⟨G20,_,_,rfl,H20',⟨rfl,rfl,hv20⟩|⟨T20,F20,rfl,rfl,hN20,hT20,hv20⟩⟩
   ·skip
    have H:=H.borrow0 H20'
    refine⟨_,Z,?_⟩
    refine pe 5 Z (q3 (W_seq (q2 (pe 15 Z (q3 (W_true Z (q2 (pe 2 Z (q3 (W_ret (N_K_ret (N_B_ret (N_K_ret (N_LP_ret (N_B_ret ?_)))))))))))))))
    refine N_K_ret (rt2 results70 Z Z ?_)
    have H:=H.dl 0
    have H:=H.dl 0
    have H:=H.dl 0
    have H:=H.dl 0
    have H:=H.dl 0
    have H:=H.dl 0
    have H:=H.dl 0
    have H:=H.dl 0
    have H:=H.dl 0
    exact H.retM (.inl ⟨rfl,rfl,Sp.dv_no (fun hh=>by (rw[(hh.2.2.2 k _ hz17).2.2]at hv20);cases hv20)⟩)
   skip
   have hchk15_0:=hchk15_0.up H20'.le
   have hchk15_1:=hchk15_1.up H20'.le
   have hNs:=hNs.up H20'.le
   have hle15:=hle15.trans H20'.le
   have H:=H.borrow0 H20'
   refine⟨_,Z,?_⟩
   refine pe 5 Z (q3 (W_seq (q2 (pe 3 Z (gR Z (fA 0 Z (gR Z (lB 1 H Z3 (gR Z (xr H Z2 (i_partValid_c _ _ hi17) ?_))))))))));intro _ H
   refine pe 3 Z ?_
   refine R_case (t:=55) Z ?_ ?_
   ·intro hc22
    try simp only[nrm]at hc22
    refine pe 6 Z (q3 (W_true Z (q2 (pe 2 Z (q3 (W_ret (N_K_ret (N_B_ret (N_K_ret (N_LP_ret (N_B_ret (N_K_ret (rt2 results70 Z Z ?_)))))))))))))
    have H:=H.dl 0
    have H:=H.dl 0
    have H:=H.dl 0
    have H:=H.dl 0
    have H:=H.dl 0
    have H:=H.dl 0
    have H:=H.dl 0
    have H:=H.dl 0
    have H:=H.dl 0
    have H:=H.dl 0
    exact H.retM (.inl ⟨rfl,rfl,Sp.dv_no (fun hh=>by have h9:=(hh.2.2.2 k _ hz17).1;simp_all)⟩)
   intro hc22'
   try simp only[nrm]at hc22'
   refine pe 1 Z (gR Z (fA 0 Z (gR Z (lB 1 H Z3 (gR Z (xr H Z2 (i_snapAt_c _ _ (H.lendSubL [2,5]) _ _ _ _ _ _ _ (prow_blk (H.lendPredL (k:=5) (ks:=[2,5]) Z Z)) (H.lendRdL (k:=2) (ks:=[2,5]) Z Z hchk15_0 aN aN) _ hi17) ?_))))));intro _ H
   refine pe 2 Z (q3 ?_)
   refine W_cond Z ?_ ?_
   ·intro hc24
    try simp only[nrm]at hc24
    refine q2 (pe 2 Z (q3 (W_ret (N_K_ret (N_B_ret (N_K_ret (N_LP_ret (N_B_ret (N_K_ret (rt2 results70 Z Z ?_))))))))))
    have H:=H.dl 0
    have H:=H.dl 0
    have H:=H.dl 0
    have H:=H.dl 0
    have H:=H.dl 0
    have H:=H.dl 0
    have H:=H.dl 0
    have H:=H.dl 0
    have H:=H.dl 0
    have H:=H.dl 0
    exact H.retM (.inl ⟨rfl,rfl,Sp.dv_no (fun hh=>by have h9:=(Sp.at_take hz17).1 (hh.2.2.2 k _ hz17).2.1;(rw[←Sp.sn_find hSn]at h9);omega)⟩)
   intro hc24'
   try simp only[nrm]at hc24'
   refine W_skip (N_K (W_seq (W_drawK [1,6,9] 14 H kR Z ?_)));intro _ H;have hd25:=PLe.refl G20
   refine dE 0 Z2 (dE 1 Z2 (dE 2 Z2 (dF 3 4 Z2 (dF 5 0 Z2 (dB 6 0 Z4 (dE 7 Z2 (RD_t 8 Z kR Z (fun _ hK=>v_build bf199 Z Z) ?_)))))))
   refine r2 4 9 Z2 ?_ ?_
   ·skip
    refine lB 5 H Z3 (q4 H hd25 (r1 9 Z (xbs H Z7 ?_)));intro _ _ _ H
    refine q4 H hd25 (r1 10 Z (o_append1 2 H (sz:=2) (bytes:=24) underlying131 typeInfo199 ⟨_,Z,Z⟩ Z Z Z Z Z Z Z Z Z Z oM Z ?_));intro _ _ H
    have hchk27:=hchk15_0.snoc (show osE _ (z17.name,T20) _ from⟨rfl,hi17⟩) rfl
    obtain⟨_,_,rfl⟩:=H.accShape (k:=2) rfl
    refine q4 H hd25 (dE 11 Z2 (dF 12 4 Z2 (r1 13 Z ?_)))
    have H:=H.tF 3
    have H:=H.mergeF
    refine xst 4 H Z8 ?_;intro _ H
    refine q4 H hd25 (rz (N_K (W_region (pe 2 Z (xbs H Z7 ?_)))));intro _ _ _ H
    refine o_append1 3 H (sz:=1) (bytes:=8) underlying136 typeInfo119 ⟨_,Z,Z⟩ Z Z Z Z Z Z Z Z Z Z oM Z ?_;intro _ _ H
    have hchk30:=hchk15_1.snoc (show kdE _ T20 _ from rfl) rfl
    obtain⟨_,_,rfl⟩:=H.accShape (k:=3) rfl
    refine aG Z (R_nil (N_B (N_K (W_region (aD Z2 (mV Z (R_nil ?_)))))))
    have H:=H.dl 1
    have H:=H.tF 7
    have H:=H.tF 7
    have H:=H.tF 7
    have H:=H.tF 7
    have H:=H.tF 7
    have H:=H.tF 7
    have H:=H.tF 6
    have H:=H.tF 7
    refine N_lp (hJ:=⟨_,_,_,(xs++[(z17.name,T20)]),_,_,_,(xs1++[T20]),k+1,(FSq++F20),_,Z,hle15,H,?inv,Z⟩) (hm:=?hm)
    case hm=>omega
    case inv=>exact⟨hchk27,aN,hchk30,aN,(by exact⟨by omega,by simp[hx1],by simpa using hNs.snoc hN20,hSn.snoc2 hz17 rfl hT20 hv20,names_step hw hz17 (by simpa using hc22') hSn oM⟩)⟩
   skip
   refine xbs H Z7 ?_;intro _ _ _ H
   refine q4 H hd25 (r1 4 Z (lB 6 H Z3 (q4 H hd25 (r1 10 Z (o_append1 2 H (sz:=2) (bytes:=24) underlying131 typeInfo199 ⟨_,Z,Z⟩ Z Z Z Z Z Z Z Z Z Z oM Z ?_)))));intro _ _ H
   have hchk33:=hchk15_0.snoc (show osE _ (z17.name,T20) _ from⟨rfl,hi17⟩) rfl
   obtain⟨_,_,rfl⟩:=H.accShape (k:=2) rfl
   refine q4 H hd25 (dE 11 Z2 (dF 12 4 Z2 (r1 13 Z ?_)))
   have H:=H.tF 3
   have H:=H.mergeF
   refine xst 4 H Z8 ?_;intro _ H
   refine q4 H hd25 (rz (N_K (W_region (pe 2 Z (xbs H Z7 ?_)))));intro _ _ _ H
   refine o_append1 3 H (sz:=1) (bytes:=8) underlying136 typeInfo119 ⟨_,Z,Z⟩ Z Z Z Z Z Z Z Z Z Z oM Z ?_;intro _ _ H
   have hchk36:=hchk15_1.snoc (show kdE _ T20 _ from rfl) rfl
   obtain⟨_,_,rfl⟩:=H.accShape (k:=3) rfl
   refine aG Z (R_nil (N_B (N_K (W_region (aD Z2 (mV Z (R_nil ?_)))))))
   have H:=H.dl 1
   have H:=H.tF 7
   have H:=H.tF 7
   have H:=H.tF 7
   have H:=H.tF 7
   have H:=H.tF 7
   have H:=H.tF 7
   have H:=H.tF 6
   have H:=H.tF 7
   refine N_lp (hJ:=⟨_,_,_,(xs++[(z17.name,T20)]),_,_,_,(xs1++[T20]),k+1,(FSq++F20),_,Z,hle15,H,?inv,Z⟩) (hm:=?hm)
   case hm=>omega
   case inv=>exact⟨hchk33,aN,hchk36,aN,(by exact⟨by omega,by simp[hx1],by simpa using hNs.snoc hN20,hSn.snoc2 hz17 rfl hT20 hv20,names_step hw hz17 (by simpa using hc22') hSn oM⟩)⟩
  intro hc16'
  try simp only[nrm]at hc16'
  refine W_exit (N_K_exit (N_LP_exit (N_B_same (N_K (W_seq (q2 (fA 0 Z (lB 4 H Z3 (mV Z ?_)))))))))
  refine xr H Z2 (i_usedBy_c _ _ (H.lendSubL [1,2,5,6]) _ _ _ _ _ (H.lendPredL (k:=5) (ks:=[1,2,5,6]) Z Z) hm3 (hS3.up (PPlus.le _ _ _)) hV3 _ _ (RdS.withN (H.lendRdL (k:=2) (ks:=[1,2,5,6]) Z Z hchk15_1 aN aN) (fun t ht=>by (rw[hx1]at ht);rcases List.mem_cons.1 ht with rfl|ht;(· exact H.lendN (k:=6) rfl rfl hN3);(· exact H.lendNs (k:=1) rfl rfl hNs t ht))) oM (fun t ht=>by (rw[hx1]at ht);rcases List.mem_cons.1 ht with rfl|ht;(· exact⟨hT3.wf,by have:=hT3.cnt;have:=Sp.tree_len hv3;omega⟩);(· exact sn_ok hSn t ht))) ?_;intro _ H
  refine pe 1 Z (q3 ?_)
  refine W_cond Z ?_ ?_
  ·intro hc39
   try simp only[nrm]at hc39
   refine q2 (pe 2 Z (q3 (W_ret (N_K_ret (rt2 results70 Z Z ?_)))))
   have H:=H.dl 0
   have H:=H.dl 0
   have H:=H.dl 0
   have H:=H.dl 0
   have H:=H.dl 0
   have H:=H.dl 0
   have H:=H.dl 0
   have H:=H.dl 0
   have hkk:k=d.snaps.length:=by omega
   have hSnf:SnOK xs d.snaps:=by (rw[hkk,List.take_length]at hSn;exact hSn)
   have hwf:∀(j:Nat) (s:BSnap),d.snaps[j]? = some s→Sp.l1Word s.name=true∧(j:Int)≤Sp.l12At d.snaps s.name:=fun j s hs=>hw j s (by have:=(List.getElem?_eq_some_iff.1 hs).1;omega) hs
   exact H.retM (.inl ⟨rfl,rfl,(by (rw[Sp.dv_use (Sp.valid_iff.2 hV3) hT3 oM hSnf hwf,←hx1];unfold Sp.useOK;rw[Bool.and_eq_false_iff];exact hc39))⟩)
  intro hc39'
  try simp only[nrm]at hc39'
  refine W_skip (N_K (q2 (pe 3 Z (q3 (W_ret (rt2 results70 Z Z ?_))))))
  have H:=H.dl 2
  have H:=H.dl 3
  have H:=H.dl 5
  have H:=H.tF 1
  have H:=H.tF 1
  have H:=H.tF 4
  have H:=H.tF 4
  have H:=H.tF 4
  have hkk:k=d.snaps.length:=by omega
  have hSnf:SnOK xs d.snaps:=by (rw[hkk,List.take_length]at hSn;exact hSn)
  have hwf:∀(j:Nat) (s:BSnap),d.snaps[j]? = some s→Sp.l1Word s.name=true∧(j:Int)≤Sp.l12At d.snaps s.name:=fun j s hs=>hw j s (by have:=(List.getElem?_eq_some_iff.1 hs).1;omega) hs
  have hdv:Sp.DiskValid d=true:=by (rw[Sp.dv_use (Sp.valid_iff.2 hV3) hT3 oM hSnf hwf,←hx1];unfold Sp.useOK;simpa using hc39')
  obtain rfl:n=xs.length:=by assumption
  exact H.retM (.inr ⟨_,_,_,_,_,_,_,_,xs,_,_,Z,Z,hm3,hS3,hN3,hT3,hchk15_0,hNs,hSnf,hdv⟩)
theorem i_DiskValid_c (w0:World)(G0:PH)(hG:PSub G0 w0)(cd:List Value)(d:BDisk)(hd:diskE G0 d cd) :
  Calls Tryz.prog 32 #[.agg cd.toArray] w0 (Rets w0 (.bool (Sp.DiskValid d))):=by
 obtain⟨_,_,_,_,_,_,_,_,_,rfl,hr1,hr1',hr1'',⟨_,_⟩,⟨_,_⟩,_,_⟩:=ox hd
 have H:=Hp.init hG
 refine calls_of_W (l:=[_]) func32 Z ntmps32 Z (q2 (o_box H Z Z Z ?_));intro _ _ _ H
 refine aG Z (q1 (lA 0 3 H Z4 (xc Z2 (i_newDisk_c _ _ H.sub _ d ⟨_,_,_,_,_,_,_,_,_,Z,hr1,hr1',hr1''⟩ H.lent0) ?_)))
 rintro _ _ ⟨_,_,_,rfl,H3',⟨rfl,rfl,_⟩|⟨_,_,_,_,_,_,_,_,_,_,_,rfl,rfl,_,_,_,_,_,_,_,_⟩⟩
 ·skip
  have H:=H.borrow0 H3'
  refine⟨_,Z,?_⟩
  refine pe 5 Z (q1 (pe 2 Z (q3 (W_ret (rt1 results32 Z ?_)))))
  exact H.rets (congrArg Value.bool (by first|(rw[show Sp.DiskValid d=false by assumption])|(rw[show Sp.DiskValid d=true by assumption])))
 skip
 have H:=H.borrow0 H3'
 obtain⟨_,_,rfl⟩:=H.accShape (k:=3) rfl
 refine⟨_,Z,?_⟩
 refine pe 5 Z (q1 (pe 2 Z (q3 (W_ret (rt1 results32 Z ?_)))))
 exact H.rets (congrArg Value.bool (by first|(rw[show Sp.DiskValid d=false by assumption])|(rw[show Sp.DiskValid d=true by assumption])))
end Go.Proofs.Tst
namespace Go.Proofs.Tst
open Go
abbrev muLink:Go.Conc.Locks.MuLink:={lock:=140,unlock:=141,ilock:=201,iunlock:=202,lockSlow:=239,unlockSlow:=242,disable:=235,enable:=237,acquire:=238,relMerge:=240,cas32:=236,add32:=241,tMutex:=130,tIMutex:=128,tPMutex:=253,tPIMutex:=285,tPI32:=287,tUP:=289,tNoCopy:=125,tU32:=126}
theorem muLib:Go.Conc.Locks.MuLib Tryz.prog muLink where
 f_lock:=by kernel_rfl
 f_unlock:=by kernel_rfl
 f_ilock:=by kernel_rfl
 f_iunlock:=by kernel_rfl
 f_disable:=by kernel_rfl
 f_enable:=by kernel_rfl
 f_acquire:=by kernel_rfl
 f_relMerge:=by kernel_rfl
 f_cas32:=by kernel_rfl
 f_add32:=by kernel_rfl
 underlying_tIMutex:=Tryz.underlying128
 runUnderlying_tIMutex:=Tryz.runUnderlying128
 sizeOf_tIMutex:=Tryz.sizeOf128
 isAgg_tIMutex:=Tryz.isAgg128
 zeroValue_tIMutex:=Tryz.zeroValue128
 underlying_tMutex:=Tryz.underlying130
 runUnderlying_tMutex:=Tryz.runUnderlying130
 sizeOf_tMutex:=Tryz.sizeOf130
 isAgg_tMutex:=Tryz.isAgg130
 zeroValue_tMutex:=Tryz.zeroValue130
 underlying_tPMutex:=Tryz.underlying253
 runUnderlying_tPMutex:=Tryz.runUnderlying253
 sizeOf_tPMutex:=Tryz.sizeOf253
 isAgg_tPMutex:=Tryz.isAgg253
 zeroValue_tPMutex:=Tryz.zeroValue253
 underlying_tPIMutex:=Tryz.underlying285
 runUnderlying_tPIMutex:=Tryz.runUnderlying285
 sizeOf_tPIMutex:=Tryz.sizeOf285
 isAgg_tPIMutex:=Tryz.isAgg285
 zeroValue_tPIMutex:=Tryz.zeroValue285
 underlying_tPI32:=Tryz.underlying287
 runUnderlying_tPI32:=Tryz.runUnderlying287
 sizeOf_tPI32:=Tryz.sizeOf287
 isAgg_tPI32:=Tryz.isAgg287
 zeroValue_tPI32:=Tryz.zeroValue287
 underlying_tUP:=Tryz.underlying289
 runUnderlying_tUP:=Tryz.runUnderlying289
 sizeOf_tUP:=Tryz.sizeOf289
 isAgg_tUP:=Tryz.isAgg289
 zeroValue_tUP:=Tryz.zeroValue289
 underlying_tNoCopy:=Tryz.underlying125
 runUnderlying_tNoCopy:=Tryz.runUnderlying125
 sizeOf_tNoCopy:=Tryz.sizeOf125
 isAgg_tNoCopy:=Tryz.isAgg125
 zeroValue_tNoCopy:=Tryz.zeroValue125
 underlying_t21:=Tryz.underlying21
 runUnderlying_t21:=Tryz.runUnderlying21
 sizeOf_t21:=Tryz.sizeOf21
 isAgg_t21:=Tryz.isAgg21
 zeroValue_t21:=Tryz.zeroValue21
 room_tIMutex:=by kernel_rfl
end Go.Proofs.Tst
namespace Go.Proofs.Tst
open Go Fw Tryz
theorem i_disk_c (w0:World)(G0:PH)(hG:PSub G0 w0)(db mb:Nat)(es:Array MapEntry)(ck:Nat)(xs:List (Int×Value))(T:Nd)(FT:Fr)(sv:Value)(sn:List (Bs×Nd))(c:List Value)(FSq:Fr)(d:BDisk)(hm:MapIs (Value.int .i64) es ck xs)(hS:StR G0 xs d.store)(hN:NdO 138 119 G0 T FT)(hT:Nd.TOK T d.tree)(hchk:Chk osE 2 G0 c sn)(hNs:NdsO 138 119 G0 (sn.map (·.2)) FSq)(hSn:SnOK sn d.snaps)(hVd:Sp.VH d.store)(hs6:d.snaps.length≤6)(hLent:Lent w0 G0 [blk db (cl [.int .i32 0,.int .u32 0,.map (some mb),.pointer (some ⟨T.b,0,none⟩),sv] 133),blk mb (.map es ck),frag FT,acc 199 2 sv sn.length c,frag FSq]) :
  Calls Tryz.prog 114 #[.pointer (some ⟨db,0,none⟩)] w0 (RetM w0 G0 (fps [blk db (cl [.int .i32 0,.int .u32 0,.map (some mb),.pointer (some ⟨T.b,0,none⟩),sv] 133),blk mb (.map es ck),frag FT,acc 199 2 sv sn.length c,frag FSq]) (fun G' v Bs=>∃(v1 v2 v3:Value) (F1 F2 F3:Fr),v= .agg #[v1,v2,v3]∧Bs=[frag F1,frag F2,frag F3]∧OHs F1 v1 d.store∧OIs F2 v2 d.tree∧OSn F3 v3 d.snaps)):=by
 have H:Hp w0 G0 (fps [blk db (cl [.int .i32 0,.int .u32 0,.map (some mb),.pointer (some ⟨T.b,0,none⟩),sv] 133),blk mb (.map es ck),frag FT,acc 199 2 sv sn.length c,frag FSq]) w0 G0 [blk db (cl [.int .i32 0,.int .u32 0,.map (some mb),.pointer (some ⟨T.b,0,none⟩),sv] 133),blk mb (.map es ck),frag FT,acc 199 2 sv sn.length c,frag FSq]:=hLent.hp
 obtain⟨adv,cdv,rfl⟩:=H.accShape (k:=3) rfl;have hTv:=hT.valid;have hTc:=hT.cnt;have hTl:=Sp.tree_len hTv;have hsnl:=hSn.len;have hxa:=H.accShape (k:=3) rfl
 refine calls_of_WD (l:=[.pointer (some ⟨db,0,none⟩)]) func114 Z ntmps114 Z (q2 (xal H Z ?_));intro b1 _ _ H
 refine q1 (pe 2 Z (fA 0 Z (o_lock 1 H muLib Z call140 Z Z Z Z ?_)));intro _ H
 refine q1 (pe 2 Z (fA 0 Z (o_defer Z (q3 (W_seq (W_drawK [0,1] 15 H kR Z ?_))))));intro _ H;have hd3:=PLe.refl G0
 refine dE 0 Z2 (dE 1 Z2 (dF 2 2 Z2 (dF 3 0 Z2 (dB 4 1 Z4 (dE 6 Z2 (dE 7 Z2 (dF 8 2 Z2 (dF 9 1 Z2 (dB 10 1 Z4 ?_)))))))))
 refine r2 5 13 Z2 ?_ ?_
 ·skip
  refine xc Z2 (i_slist_c _ _ (H.lendSubL [2]) _ _ _ _ _ (H.lendPredL (k:=2) (ks:=[2]) Z Z) hm (hS.up (PPlus.le _ _ _)) hVd) ?_
  rintro _ _ ⟨_,_,rfl,H4',⟨F4,rfl,hO4⟩⟩
  have H:=H.readersL H4'
  obtain⟨_,hP4⟩:=hO4
  obtain⟨_,_,rfl⟩:=OwnS.shape hP4
  have hO4:=OHs.mk hP4
  refine⟨_,Z,?_⟩
  refine q4 H hd3 ?_
  refine r2 11 13 Z2 ?_ ?_
  ·skip
   refine xc Z2 (i_tlist_c _ _ (H.lendSubL [4]) _ ((H.lendN (k:=4) (ks:=[4]) Z Z hN).at (show Nd.at_ T []=some T from Z)) hT.wf oM) ?_
   rintro _ _ ⟨_,_,rfl,H5',⟨F5,rfl,hO5⟩⟩
   have H:=H.readersL H5'
   obtain⟨_,hP5⟩:=hO5
   obtain⟨_,_,rfl⟩:=OwnS.shape hP5
   have hO5:=OIs.mk hP5
   refine⟨_,Z,?_⟩
   refine q4 H hd3 (RD_t 12 Z kR Z (fun _ hK=>v_build bf27 Z Z) (r1 13 Z (xal H Z ?_)));intro b6 _ _ H
   refine q4 H hd3 (r1 14 Z (xst 0 H Z8 ?_));intro _ H
   refine R_nil (N_DKlast kR kR (N_K (W_seq (q2 (pe 2 Z (fA 4 Z (lB 4 H Z3 (lN Z (mV Z (q3 (W_block ?_)))))))))))
   have H:=H.addNil 107 2
   have H:=H.addF
   obtain⟨ln9,hln9,H⟩:=H.nameAt (k:=2) (off:=2) rfl rfl
   obtain⟨ln10,hln10,H⟩:=H.name (k:=5) rfl
   obtain⟨ln11,hln11,H⟩:=H.name (k:=6) rfl
   refine W_lp (hf:=(Sub.cons (t:=2) Z (Sub.cons (t:=3) Z (Sub.cons (t:=29) Z (Sub.cons (t:=30) Z Sub.nil))))) (J:=fun M w m=>∃(v:Value) (n:Nat) (cs:List Value) (xs:List (BSnap)) (F:Fr) (k:Nat) (G:PH),M=[(31,.int .i64 (k:Int))]∧PLe G0 G∧Hp w0 G0 (fps [blk db (cl [.int .i32 0,.int .u32 0,.map (some mb),.pointer (some ⟨T.b,0,none⟩),.slice adv sn.length cdv] 133),blk mb (.map es ck),frag FT,acc 199 2 (.slice adv sn.length cdv) sn.length c,frag FSq]) w G [frag F,acc 107 2 v n cs,blk b6 (cl (setN ln9 2 v) 27),frag F5,frag F4,blk b1 (cl ln10 27),blk db (cl ln11 133),blk mb (.map es ck),frag FT,acc 199 2 (.slice adv sn.length cdv) sn.length c,frag FSq]∧(ChkF snapO 2 cs xs F∧n=xs.length∧k≤sn.length∧xs=(sn.take k).map (fun x=>(⟨x.1,x.2.flat []⟩:BSnap)))∧m=(sn.length-k)) (h0:=⟨_,_,_,[],[],0,_,Z,PLe.refl _,H,?inv,Z⟩) (round:=?round)
   case inv=>exact⟨ChkF.nil,by first|rfl|simp|(simp;omega)|omega,(by simp)⟩
   case round =>
    rintro _ _ _ ⟨v,n,cs,xs,F,k,G12,rfl,hle12,H,hinv12,rfl⟩
    subst hln9
    subst hln10
    subst hln11
    have hchk:=hchk.up hle12
    have hNs:=hNs.up hle12
    obtain⟨hchk12_0,_,hinv12⟩:=hinv12
    obtain⟨_,_,rfl⟩:=H.accShape (k:=1) rfl
    obtain⟨hk,hxs⟩:=hinv12;have hxl6:xs.length≤6:=by (rw[hxs];simp;omega)
    refine q2 (pe 1 Z (q3 (W_seq ?_)))
    refine W_cond Z ?_ ?_
    ·intro hc13
     try simp only[nrm]at hc13
     refine W_skip (N_K (W_seq (W_block (q2 (o_index_A 9 H k Z hchk underlying131 sizeOf199 Z Z Z Z aN aN ?_)))));intro _ z14 _ hba14 hz14 hE14 hg14;cases hba14
     obtain⟨rfl,hi14⟩:=hE14;have hy_hi14:_≤16777216:=hi14
     refine o_loadagg_A 9 H isAgg199 sizeOf199 Z Z Z hg14 Z (xal H Z ?_);intro _ _ _ H
     refine xst 0 H Z8 ?_;intro _ H
     refine q3 (W_drawK [0,3,6,7] 12 H kR Z ?_);intro _ H;have hd17:=PLe.refl G12
     refine dF 0 2 Z2 (dB 1 1 Z4 (dF 2 0 Z2 (dB 3 0 Z4 (dF 4 1 Z2 (dB 5 0 Z4 (r1 6 Z ?_))))))
     refine xc Z2 (i_tlist_c _ _ (H.lendSubL [11]) _ (H.lendNs (k:=11) (ks:=[11]) Z Z hNs z14.2 (List.mem_map_of_mem (List.mem_of_getElem? hz14))) (sn_ok hSn _ (List.mem_map_of_mem (List.mem_of_getElem? hz14))).1 (by have:=(sn_ok hSn _ (List.mem_map_of_mem (List.mem_of_getElem? hz14))).2;omega)) ?_
     rintro _ _ ⟨_,_,rfl,H18',⟨F18,rfl,hO18⟩⟩
     have H:=H.readersL H18'
     obtain⟨_,hP18⟩:=hO18
     obtain⟨_,_,rfl⟩:=OwnS.shape hP18
     have hO18:=OIs.mk hP18
     refine⟨_,Z,?_⟩
     refine q4 H hd17 (RD_t 7 Z kR Z (fun _ hK=>v_build bf107 Z Z) (r1 8 Z (xbs H Z7 ?_)));intro _ _ _ H
     refine q4 H hd17 (r1 9 Z (o_append1 3 H (sz:=2) (bytes:=40) underlying25 typeInfo107 ⟨_,Z,Z⟩ Z Z Z Z Z Z Z Z Z Z oM Z ?_));intro _ _ H
     have hchk20:=hchk12_0.snoc (show snapO F18 ⟨z14.1,z14.2.flat []⟩ _ from⟨_,_,_,rfl,hi14,hO18⟩) rfl
     have H:=H.tF 2
     have H:=H.mergeF
     obtain⟨_,_,rfl⟩:=H.accShape (k:=2) rfl
     refine q4 H hd17 (dF 10 2 Z2 (r1 11 Z (xst 3 H Z8 ?_)));intro _ H
     refine R_nil (N_DKlast kR kR (N_B (N_K (W_region (aD Z2 (mV Z (R_nil ?_)))))))
     have H:=H.dl 1
     refine N_lp (hJ:=⟨_,_,_,(xs++[⟨z14.1,z14.2.flat []⟩]),(F++F18),k+1,_,Z,hle12,H,?inv,Z⟩) (hm:=?hm)
     case hm=>omega
     case inv=>exact⟨hchk20,aN,(by exact⟨by omega,by (rw[Sp.take_succ' hz14,List.map_append,←hxs];rfl)⟩)⟩
    intro hc13'
    try simp only[nrm]at hc13'
    refine W_exit (N_K_exit (N_LP_exit (N_B_same (N_K (q2 (lA 2 3 H Z4 (xst 5 H Z8 ?_)))))));intro _ H
    refine q3 (W_ret (ret_unlock 6 H muLib Z call141 Z Z (rs:=[.cell 2 27]) results114 ?_));intro _ H
    refine⟨[_],⟨⟨_,Z,load_blk 5 H isAgg27 sizeOf27 Z Z Z⟩,trivial⟩,?_⟩
    have H:=H.tF 1
    obtain⟨_,H,hOw3⟩:=H.ownF hchk12_0 aN aN
    have H:=H.dl 1
    have H:=H.dl 3
    have H:=H.dl 3
    have H:=H.dl 3
    have H:=H.dl 3
    have H:=H.dl 3
    have H:=H.dl 3
    have H:=H.tF 1
    have H:=H.tF 2
    have hxs2:xs=d.snaps:=by (rw[hxs,List.take_of_length_le oM];exact sn_list hSn)
    exact H.retM ⟨_,_,_,_,_,_,rfl,rfl,hO4,(by (rw[←hT.flat]);exact hO5),(by have h9:=(show OSn _ _ _ from⟨_,hOw3⟩);(rw[hxs2]at h9);exact h9)⟩
  skip
  refine xal H Z ?_;intro b24 _ _ H
  refine q4 H hd3 (r1 11 Z (xc Z2 (i_tlist_c _ _ (H.lendSubL [5]) _ ((H.lendN (k:=5) (ks:=[5]) Z Z hN).at (show Nd.at_ T []=some T from Z)) hT.wf oM) ?_))
  rintro _ _ ⟨_,_,rfl,H25',⟨F25,rfl,hO25⟩⟩
  have H:=H.readersL H25'
  obtain⟨_,hP25⟩:=hO25
  obtain⟨_,_,rfl⟩:=OwnS.shape hP25
  have hO25:=OIs.mk hP25
  refine⟨_,Z,?_⟩
  refine q4 H hd3 (RD_t 12 Z kR Z (fun _ hK=>v_build bf27 Z Z) (r1 14 Z (xst 1 H Z8 ?_)));intro _ H
  refine R_nil (N_DKlast kR kR (N_K (W_seq (q2 (pe 2 Z (fA 4 Z (lB 4 H Z3 (lN Z (mV Z (q3 (W_block ?_)))))))))))
  have H:=H.addNil 107 2
  have H:=H.addF
  obtain⟨ln28,hln28,H⟩:=H.nameAt (k:=3) (off:=2) rfl rfl
  obtain⟨ln29,hln29,H⟩:=H.name (k:=5) rfl
  obtain⟨ln30,hln30,H⟩:=H.name (k:=6) rfl
  refine W_lp (hf:=(Sub.cons (t:=2) Z (Sub.cons (t:=3) Z (Sub.cons (t:=29) Z (Sub.cons (t:=30) Z Sub.nil))))) (J:=fun M w m=>∃(v:Value) (n:Nat) (cs:List Value) (xs:List (BSnap)) (F:Fr) (k:Nat) (G:PH),M=[(31,.int .i64 (k:Int))]∧PLe G0 G∧Hp w0 G0 (fps [blk db (cl [.int .i32 0,.int .u32 0,.map (some mb),.pointer (some ⟨T.b,0,none⟩),.slice adv sn.length cdv] 133),blk mb (.map es ck),frag FT,acc 199 2 (.slice adv sn.length cdv) sn.length c,frag FSq]) w G [frag F,acc 107 2 v n cs,frag F25,blk b24 (cl (setN ln28 2 v) 27),frag F4,blk b1 (cl ln29 27),blk db (cl ln30 133),blk mb (.map es ck),frag FT,acc 199 2 (.slice adv sn.length cdv) sn.length c,frag FSq]∧(ChkF snapO 2 cs xs F∧n=xs.length∧k≤sn.length∧xs=(sn.take k).map (fun x=>(⟨x.1,x.2.flat []⟩:BSnap)))∧m=(sn.length-k)) (h0:=⟨_,_,_,[],[],0,_,Z,PLe.refl _,H,?inv,Z⟩) (round:=?round)
  case inv=>exact⟨ChkF.nil,by first|rfl|simp|(simp;omega)|omega,(by simp)⟩
  case round =>
   rintro _ _ _ ⟨v,n,cs,xs,F,k,G31,rfl,hle31,H,hinv31,rfl⟩
   subst hln28
   subst hln29
   subst hln30
   have hchk:=hchk.up hle31
   have hNs:=hNs.up hle31
   obtain⟨hchk31_0,_,hinv31⟩:=hinv31
   obtain⟨_,_,rfl⟩:=H.accShape (k:=1) rfl
   obtain⟨hk,hxs⟩:=hinv31;have hxl6:xs.length≤6:=by (rw[hxs];simp;omega)
   refine q2 (pe 1 Z (q3 (W_seq ?_)))
   refine W_cond Z ?_ ?_
   ·intro hc32
    try simp only[nrm]at hc32
    refine W_skip (N_K (W_seq (W_block (q2 (o_index_A 9 H k Z hchk underlying131 sizeOf199 Z Z Z Z aN aN ?_)))));intro _ z33 _ hba33 hz33 hE33 hg33;cases hba33
    obtain⟨rfl,hi33⟩:=hE33;have hy_hi33:_≤16777216:=hi33
    refine o_loadagg_A 9 H isAgg199 sizeOf199 Z Z Z hg33 Z (xal H Z ?_);intro _ _ _ H
    refine xst 0 H Z8 ?_;intro _ H
    refine q3 (W_drawK [0,4,6,7] 12 H kR Z ?_);intro _ H;have hd36:=PLe.refl G31
    refine dF 0 2 Z2 (dB 1 1 Z4 (dF 2 0 Z2 (dB 3 0 Z4 (dF 4 1 Z2 (dB 5 0 Z4 (r1 6 Z ?_))))))
    refine xc Z2 (i_tlist_c _ _ (H.lendSubL [11]) _ (H.lendNs (k:=11) (ks:=[11]) Z Z hNs z33.2 (List.mem_map_of_mem (List.mem_of_getElem? hz33))) (sn_ok hSn _ (List.mem_map_of_mem (List.mem_of_getElem? hz33))).1 (by have:=(sn_ok hSn _ (List.mem_map_of_mem (List.mem_of_getElem? hz33))).2;omega)) ?_
    rintro _ _ ⟨_,_,rfl,H37',⟨F37,rfl,hO37⟩⟩
    have H:=H.readersL H37'
    obtain⟨_,hP37⟩:=hO37
    obtain⟨_,_,rfl⟩:=OwnS.shape hP37
    have hO37:=OIs.mk hP37
    refine⟨_,Z,?_⟩
    refine q4 H hd36 (RD_t 7 Z kR Z (fun _ hK=>v_build bf107 Z Z) (r1 8 Z (xbs H Z7 ?_)));intro _ _ _ H
    refine q4 H hd36 (r1 9 Z (o_append1 3 H (sz:=2) (bytes:=40) underlying25 typeInfo107 ⟨_,Z,Z⟩ Z Z Z Z Z Z Z Z Z Z oM Z ?_));intro _ _ H
    have hchk39:=hchk31_0.snoc (show snapO F37 ⟨z33.1,z33.2.flat []⟩ _ from⟨_,_,_,rfl,hi33,hO37⟩) rfl
    have H:=H.tF 2
    have H:=H.mergeF
    obtain⟨_,_,rfl⟩:=H.accShape (k:=2) rfl
    refine q4 H hd36 (dF 10 2 Z2 (r1 11 Z (xst 4 H Z8 ?_)));intro _ H
    refine R_nil (N_DKlast kR kR (N_B (N_K (W_region (aD Z2 (mV Z (R_nil ?_)))))))
    have H:=H.dl 1
    refine N_lp (hJ:=⟨_,_,_,(xs++[⟨z33.1,z33.2.flat []⟩]),(F++F37),k+1,_,Z,hle31,H,?inv,Z⟩) (hm:=?hm)
    case hm=>omega
    case inv=>exact⟨hchk39,aN,(by exact⟨by omega,by (rw[Sp.take_succ' hz33,List.map_append,←hxs];rfl)⟩)⟩
   intro hc32'
   try simp only[nrm]at hc32'
   refine W_exit (N_K_exit (N_LP_exit (N_B_same (N_K (q2 (lA 3 3 H Z4 (xst 5 H Z8 ?_)))))));intro _ H
   refine q3 (W_ret (ret_unlock 6 H muLib Z call141 Z Z (rs:=[.cell 2 27]) results114 ?_));intro _ H
   refine⟨[_],⟨⟨_,Z,load_blk 5 H isAgg27 sizeOf27 Z Z Z⟩,trivial⟩,?_⟩
   have H:=H.tF 1
   obtain⟨_,H,hOw6⟩:=H.ownF hchk31_0 aN aN
   have H:=H.dl 2
   have H:=H.dl 3
   have H:=H.dl 3
   have H:=H.dl 3
   have H:=H.dl 3
   have H:=H.dl 3
   have H:=H.dl 3
   have H:=H.tF 1
   have H:=H.tF 2
   have hxs2:xs=d.snaps:=by (rw[hxs,List.take_of_length_le oM];exact sn_list hSn)
   exact H.retM ⟨_,_,_,_,_,_,rfl,rfl,hO4,(by (rw[←hT.flat]);exact hO25),(by have h9:=(show OSn _ _ _ from⟨_,hOw6⟩);(rw[hxs2]at h9);exact h9)⟩
 skip
 refine xal H Z ?_;intro b43 _ _ H
 refine q4 H hd3 (r1 5 Z (xc Z2 (i_slist_c _ _ (H.lendSubL [3]) _ _ _ _ _ (H.lendPredL (k:=3) (ks:=[3]) Z Z) hm (hS.up (PPlus.le _ _ _)) hVd) ?_))
 rintro _ _ ⟨_,_,rfl,H44',⟨F44,rfl,hO44⟩⟩
 have H:=H.readersL H44'
 obtain⟨_,hP44⟩:=hO44
 obtain⟨_,_,rfl⟩:=OwnS.shape hP44
 have hO44:=OHs.mk hP44
 refine⟨_,Z,?_⟩
 refine q4 H hd3 (r1 11 Z (xc Z2 (i_tlist_c _ _ (H.lendSubL [5]) _ ((H.lendN (k:=5) (ks:=[5]) Z Z hN).at (show Nd.at_ T []=some T from Z)) hT.wf oM) ?_))
 rintro _ _ ⟨_,_,rfl,H45',⟨F45,rfl,hO45⟩⟩
 have H:=H.readersL H45'
 obtain⟨_,hP45⟩:=hO45
 obtain⟨_,_,rfl⟩:=OwnS.shape hP45
 have hO45:=OIs.mk hP45
 refine⟨_,Z,?_⟩
 refine q4 H hd3 (RD_t 12 Z kR Z (fun _ hK=>v_build bf27 Z Z) (r1 14 Z (xst 2 H Z8 ?_)));intro _ H
 refine R_nil (N_DKlast kR kR (N_K (W_seq (q2 (pe 2 Z (fA 4 Z (lB 4 H Z3 (lN Z (mV Z (q3 (W_block ?_)))))))))))
 have H:=H.addNil 107 2
 have H:=H.addF
 obtain⟨ln48,hln48,H⟩:=H.nameAt (k:=4) (off:=2) rfl rfl
 obtain⟨ln49,hln49,H⟩:=H.name (k:=5) rfl
 obtain⟨ln50,hln50,H⟩:=H.name (k:=6) rfl
 refine W_lp (hf:=(Sub.cons (t:=2) Z (Sub.cons (t:=3) Z (Sub.cons (t:=29) Z (Sub.cons (t:=30) Z Sub.nil))))) (J:=fun M w m=>∃(v:Value) (n:Nat) (cs:List Value) (xs:List (BSnap)) (F:Fr) (k:Nat) (G:PH),M=[(31,.int .i64 (k:Int))]∧PLe G0 G∧Hp w0 G0 (fps [blk db (cl [.int .i32 0,.int .u32 0,.map (some mb),.pointer (some ⟨T.b,0,none⟩),.slice adv sn.length cdv] 133),blk mb (.map es ck),frag FT,acc 199 2 (.slice adv sn.length cdv) sn.length c,frag FSq]) w G [frag F,acc 107 2 v n cs,frag F45,frag F44,blk b43 (cl (setN ln48 2 v) 27),blk b1 (cl ln49 27),blk db (cl ln50 133),blk mb (.map es ck),frag FT,acc 199 2 (.slice adv sn.length cdv) sn.length c,frag FSq]∧(ChkF snapO 2 cs xs F∧n=xs.length∧k≤sn.length∧xs=(sn.take k).map (fun x=>(⟨x.1,x.2.flat []⟩:BSnap)))∧m=(sn.length-k)) (h0:=⟨_,_,_,[],[],0,_,Z,PLe.refl _,H,?inv,Z⟩) (round:=?round)
 case inv=>exact⟨ChkF.nil,by first|rfl|simp|(simp;omega)|omega,(by simp)⟩
 case round =>
  rintro _ _ _ ⟨v,n,cs,xs,F,k,G51,rfl,hle51,H,hinv51,rfl⟩
  subst hln48
  subst hln49
  subst hln50
  have hchk:=hchk.up hle51
  have hNs:=hNs.up hle51
  obtain⟨hchk51_0,_,hinv51⟩:=hinv51
  obtain⟨_,_,rfl⟩:=H.accShape (k:=1) rfl
  obtain⟨hk,hxs⟩:=hinv51;have hxl6:xs.length≤6:=by (rw[hxs];simp;omega)
  refine q2 (pe 1 Z (q3 (W_seq ?_)))
  refine W_cond Z ?_ ?_
  ·intro hc52
   try simp only[nrm]at hc52
   refine W_skip (N_K (W_seq (W_block (q2 (o_index_A 9 H k Z hchk underlying131 sizeOf199 Z Z Z Z aN aN ?_)))));intro _ z53 _ hba53 hz53 hE53 hg53;cases hba53
   obtain⟨rfl,hi53⟩:=hE53;have hy_hi53:_≤16777216:=hi53
   refine o_loadagg_A 9 H isAgg199 sizeOf199 Z Z Z hg53 Z (xal H Z ?_);intro _ _ _ H
   refine xst 0 H Z8 ?_;intro _ H
   refine q3 (W_drawK [0,5,6,7] 12 H kR Z ?_);intro _ H;have hd56:=PLe.refl G51
   refine dF 0 2 Z2 (dB 1 1 Z4 (dF 2 0 Z2 (dB 3 0 Z4 (dF 4 1 Z2 (dB 5 0 Z4 (r1 6 Z ?_))))))
   refine xc Z2 (i_tlist_c _ _ (H.lendSubL [11]) _ (H.lendNs (k:=11) (ks:=[11]) Z Z hNs z53.2 (List.mem_map_of_mem (List.mem_of_getElem? hz53))) (sn_ok hSn _ (List.mem_map_of_mem (List.mem_of_getElem? hz53))).1 (by have:=(sn_ok hSn _ (List.mem_map_of_mem (List.mem_of_getElem? hz53))).2;omega)) ?_
   rintro _ _ ⟨_,_,rfl,H57',⟨F57,rfl,hO57⟩⟩
   have H:=H.readersL H57'
   obtain⟨_,hP57⟩:=hO57
   obtain⟨_,_,rfl⟩:=OwnS.shape hP57
   have hO57:=OIs.mk hP57
   refine⟨_,Z,?_⟩
   refine q4 H hd56 (RD_t 7 Z kR Z (fun _ hK=>v_build bf107 Z Z) (r1 8 Z (xbs H Z7 ?_)));intro _ _ _ H
   refine q4 H hd56 (r1 9 Z (o_append1 3 H (sz:=2) (bytes:=40) underlying25 typeInfo107 ⟨_,Z,Z⟩ Z Z Z Z Z Z Z Z Z Z oM Z ?_));intro _ _ H
   have hchk59:=hchk51_0.snoc (show snapO F57 ⟨z53.1,z53.2.flat []⟩ _ from⟨_,_,_,rfl,hi53,hO57⟩) rfl
   have H:=H.tF 2
   have H:=H.mergeF
   obtain⟨_,_,rfl⟩:=H.accShape (k:=2) rfl
   refine q4 H hd56 (dF 10 2 Z2 (r1 11 Z (xst 5 H Z8 ?_)));intro _ H
   refine R_nil (N_DKlast kR kR (N_B (N_K (W_region (aD Z2 (mV Z (R_nil ?_)))))))
   have H:=H.dl 1
   refine N_lp (hJ:=⟨_,_,_,(xs++[⟨z53.1,z53.2.flat []⟩]),(F++F57),k+1,_,Z,hle51,H,?inv,Z⟩) (hm:=?hm)
   case hm=>omega
   case inv=>exact⟨hchk59,aN,(by exact⟨by omega,by (rw[Sp.take_succ' hz53,List.map_append,←hxs];rfl)⟩)⟩
  intro hc52'
  try simp only[nrm]at hc52'
  refine W_exit (N_K_exit (N_LP_exit (N_B_same (N_K (q2 (lA 4 3 H Z4 (xst 5 H Z8 ?_)))))));intro _ H
  refine q3 (W_ret (ret_unlock 6 H muLib Z call141 Z Z (rs:=[.cell 2 27]) results114 ?_));intro _ H
  refine⟨[_],⟨⟨_,Z,load_blk 5 H isAgg27 sizeOf27 Z Z Z⟩,trivial⟩,?_⟩
  have H:=H.tF 1
  obtain⟨_,H,hOw9⟩:=H.ownF hchk51_0 aN aN
  have H:=H.dl 3
  have H:=H.dl 3
  have H:=H.dl 3
  have H:=H.dl 3
  have H:=H.dl 3
  have H:=H.dl 3
  have H:=H.dl 3
  have H:=H.tF 1
  have H:=H.tF 2
  have hxs2:xs=d.snaps:=by (rw[hxs,List.take_of_length_le oM];exact sn_list hSn)
  exact H.retM ⟨_,_,_,_,_,_,rfl,rfl,hO44,(by (rw[←hT.flat]);exact hO45),(by have h9:=(show OSn _ _ _ from⟨_,hOw9⟩);(rw[hxs2]at h9);exact h9)⟩
theorem i_opValid_c (w0:World)(G0:PH)(hG:PSub G0 w0)(cop:List Value)(op:BOp)(hop:opE G0 op cop) :
  Calls Tryz.prog 97 #[.agg cop.toArray] w0 (Rets w0 (.bool (Sp.opOk op))):=by
 obtain⟨_,_,_,rfl,_,hi1,hr1⟩:=hop;have hy_hi1:_≤16777216:=hi1;have hn_hr1:=hr1.len;have hx_hr1:_≤1099511627776:=hr1.lim
 have H:=Hp.init hG
 refine calls_of_W (l:=[_]) func97 Z ntmps97 Z (q2 (o_box H Z Z Z ?_));intro _ _ _ H
 refine aG Z (q3 (W_seq (q2 (fA 0 Z (lB 0 H Z3 (q3 (W_block (W_seq (q2 (pe 2 Z (q3 ?_)))))))))))
 refine W_cond Z ?_ ?_
 ·intro hc3
  try simp only[nrm]at hc3
  refine W_skip (N_K ?_)
  refine W_cond Z ?_ ?_
  ·intro hc4
   try simp only[nrm]at hc4
   refine q2 (fA 1 Z (lB 0 H Z3 (xr H Z2 (i_PathValid_c _ _ H.sub _ hi1) ?_)));intro _ H
   refine mV Z ?_
   refine R_case (t:=11) Z ?_ ?_
   ·intro hc6
    try simp only[nrm]at hc6
    refine gR Z (fA 2 Z (gR Z (lB 0 H Z3 (gR Z (lN Z (pe 3 Z (q3 (W_ret (N_B_ret (N_K_ret (rt1 results97 Z ?_)))))))))))
    exact H.rets (congrArg Value.bool (by simp_all [Sp.opOk,List.length_eq_zero_iff]))
   intro hc6'
   try simp only[nrm]at hc6'
   refine pe 6 Z (q3 (W_ret (N_B_ret (N_K_ret (rt1 results97 Z ?_)))))
   exact H.rets (congrArg Value.bool (by simp_all [Sp.opOk,List.length_eq_zero_iff]))
  intro hc4'
  try simp only[nrm]at hc4'
  exact absurd hc3 hc4'
 intro hc3'
 try simp only[nrm]at hc3'
 refine W_region (pe 2 Z (q3 ?_))
 refine W_cond Z ?_ ?_
 ·intro hc7
  try simp only[nrm]at hc7
  refine q2 (fA 1 Z (lB 0 H Z3 (xr H Z2 (i_PathValid_c _ _ H.sub _ hi1) ?_)));intro _ H
  refine mV Z ?_
  refine R_case (t:=11) Z ?_ ?_
  ·intro hc9
   try simp only[nrm]at hc9
   refine gR Z (fA 2 Z (gR Z (lB 0 H Z3 (gR Z (lN Z (pe 3 Z (q3 (W_ret (N_B_ret (N_K_ret (rt1 results97 Z ?_)))))))))))
   exact H.rets (congrArg Value.bool (by simp_all [Sp.opOk,List.length_eq_zero_iff]))
  intro hc9'
  try simp only[nrm]at hc9'
  refine pe 6 Z (q3 (W_ret (N_B_ret (N_K_ret (rt1 results97 Z ?_)))))
  exact H.rets (congrArg Value.bool (by simp_all [Sp.opOk,List.length_eq_zero_iff]))
 intro hc7'
 try simp only[nrm]at hc7'
 refine q2 (pe 2 Z (q3 ?_))
 refine W_cond Z ?_ ?_
 ·intro hc10
  try simp only[nrm]at hc10
  refine q2 (fA 1 Z (lB 0 H Z3 (xr H Z2 (i_PathValid_c _ _ H.sub _ hi1) ?_)));intro _ H
  refine mV Z ?_
  refine R_case (t:=22) Z ?_ ?_
  ·intro hc12
   try simp only[nrm]at hc12
   refine gR Z (fA 2 Z (gR Z (lB 0 H Z3 (gR Z (xr H Z2 (i_FileValid_c _ _ H.sub _ _ hr1) ?_)))));intro _ H
   refine pe 2 Z (q3 (W_ret (N_B_ret (N_K_ret (rt1 results97 Z ?_)))))
   exact H.rets (congrArg Value.bool (by simp_all [Sp.opOk,List.length_eq_zero_iff]))
  intro hc12'
  try simp only[nrm]at hc12'
  refine pe 5 Z (q3 (W_ret (N_B_ret (N_K_ret (rt1 results97 Z ?_)))))
  exact H.rets (congrArg Value.bool (by simp_all [Sp.opOk,List.length_eq_zero_iff]))
 intro hc10'
 try simp only[nrm]at hc10'
 refine q2 (pe 2 Z (q3 ?_))
 refine W_cond Z ?_ ?_
 ·intro hc14
  try simp only[nrm]at hc14
  refine q2 (fA 1 Z (lB 0 H Z3 (xr H Z2 (i_partValid_c _ _ hi1) ?_)));intro _ H
  refine mV Z ?_
  refine R_case (t:=32) Z ?_ ?_
  ·intro hc16
   try simp only[nrm]at hc16
   refine gR Z (fA 2 Z (gR Z (lB 0 H Z3 (gR Z (lN Z (pe 3 Z (q3 (W_ret (N_B_ret (N_K_ret (rt1 results97 Z ?_)))))))))))
   exact H.rets (congrArg Value.bool (by simp_all [Sp.opOk,List.length_eq_zero_iff]))
  intro hc16'
  try simp only[nrm]at hc16'
  refine pe 6 Z (q3 (W_ret (N_B_ret (N_K_ret (rt1 results97 Z ?_)))))
  exact H.rets (congrArg Value.bool (by simp_all [Sp.opOk,List.length_eq_zero_iff]))
 intro hc14'
 try simp only[nrm]at hc14'
 refine W_skip (N_B (N_K (q2 (aG Z (q3 (W_ret (rt1 results97 Z ?_)))))))
 exact H.rets (congrArg Value.bool (by simp_all [Sp.opOk,List.length_eq_zero_iff]))
theorem i_clone_r:∀(N:Nat) (w0:World) (G0:PH) (hG:PSub G0 w0) (t:Nd) (hndt:RdN G0 t) (hct:t.cnt≤1000) (hsz:t.size≤N),
  Calls Tryz.prog 144 #[.pointer (some ⟨t.b,0,none⟩)] w0 (RetN w0 G0 (fun v Bs=>∃(F:Fr) (T:Nd),v= .pointer (some ⟨T.b,0,none⟩)∧Bs=[frag F]∧NdC 138 119 T F∧T.strip=t.strip)):=by
 intro N
 induction N with
 | zero=>intro w0 G0 hG t hndt hct hsz;exact absurd (Nd.size_pos t) oM
 | succ N ih =>
 intro w0 G0 hG t hndt hct hsz
 obtain⟨hnlt,_,_,_,_,_,_,hprt,hrit,hrkt⟩:=hndt.open
 have hn_hrit:=hrit.len;have hx_hrit:_≤1099511627776:=hrit.lim
 have hn_hrkt:=hrkt.len;have hx_hrkt:_≤1099511627776:=hrkt.lim
 have H:=Hp.init hG
 refine calls_of_W (l:=[.pointer (some ⟨t.b,0,none⟩)]) func144 Z ntmps144 Z (q2 (aG Z (q3 (W_seq (W_drawK [] 16 H kR Z ?_)))));intro _ H;have hd1:=PLe.refl G0
 refine dE 0 Z2 (dE 1 Z2 (dF 2 0 Z2 (dP 3 hprt 0 Z3 (dE 4 Z2 (dE 5 Z2 (dF 6 1 Z2 (dP 7 hprt 1 Z3 (dE 8 Z2 (dE 9 Z2 (dF 10 2 Z2 (dP 11 hprt 2 Z3 (r1 12 Z (xc Z2 (l_Clone_c _ _ H.sub _ _ hrit) ?_)))))))))))))
 rintro _ _ ⟨G2,_,_,g2,rfl,⟨_,rfl,hchk2⟩,hp2,hq2,hs2⟩
 have H:=H.growO g2 hp2 hq2 hs2;obtain⟨_,_,rfl⟩:=H.accShape (k:=0) rfl
 have hprt:=hprt.up g2.le
 have hrkt:=hrkt.up g2.le
 have hd1:=hd1.trans g2.le
 refine⟨_,Z,?_⟩
 refine q4 H hd1 (RD_t 13 Z kR Z (fun _ hK=>v_build bf138 Z Z) (r1 14 Z (o_box H Z Z Z ?_)));intro b3 _ _ H
 refine q4 H hd1 (dE 15 Z2 (rz (N_K (W_seq (q2 (pe 2 Z (fA 3 Z (lP H hprt 3 Z2 (lN Z (mV Z (q3 (W_block ?_))))))))))))
 obtain⟨Fi1,H,hOI1⟩:=H.ownI (k:=1) rfl hchk2 aN aN
 have hOIc:=hOI1
 have H:=H.addF
 have H:=H.addNil 119 1
 obtain⟨ln5,hln5,H⟩:=H.nameAt (k:=3) (off:=3) rfl rfl
 refine W_lp (hf:=(Sub.cons (t:=2) Z (Sub.cons (t:=3) Z (Sub.cons (t:=24) Z (Sub.cons (t:=25) Z Sub.nil))))) (J:=fun M w m=>∃(v:Value) (n:Nat) (cs:List Value) (xs:List (Nd)) (k:Nat) (FK:Fr) (G:PH),M=[(26,.int .i64 (k:Int))]∧PLe G2 G∧Hp w0 G0 [] w G [acc 119 1 v n cs,frag FK,frag Fi1,blk b3 (cl (setN ln5 3 v) 138)]∧(Chk kdE 1 G cs xs∧n=xs.length∧k≤t.kids.length∧NdsC 138 119 xs FK∧xs.map Nd.strip=(t.kids.take k).map Nd.strip)∧m=(t.kids.length-k)) (h0:=⟨_,_,_,[],0,[],_,Z,PLe.refl _,H,?inv,Z⟩) (round:=?round)
 case inv=>exact⟨(Chk.nil (E:=kdE) (sz:=1) (G:=G2)),by first|rfl|simp|(simp;omega)|omega,(by simp[NdsC])⟩
 case round =>
  rintro _ _ _ ⟨v,n,cs,xs,k,FK,G6,rfl,hle6,H,hinv6,rfl⟩
  subst hln5
  have hrkt:=hrkt.up hle6
  obtain⟨hchk6_0,_,hinv6⟩:=hinv6
  obtain⟨_,_,rfl⟩:=H.accShape (k:=0) rfl
  obtain⟨_,hKs,hst0⟩:=hinv6;have hxl0:=congrArg List.length hst0;simp at hxl0;have hkl0:=Nd.kids_le t
  refine q2 (pe 1 Z (q3 (W_seq ?_)))
  refine W_cond Z ?_ ?_
  ·intro hc7
   try simp only[nrm]at hc7
   refine W_skip (N_K (W_seq (W_block (q2 (iP k hrkt Z3 Z ?_)))));intro _ _ _ _ hz8 hE8 hrow8
   obtain⟨rfl,hnd8⟩:=hE8;obtain⟨_,_,_,_,_,_,_,_,hri8,hrk8⟩:=hnd8.open;have hn_hri8:=hri8.len;have hx_hri8:_≤1099511627776:=hri8.lim;have hn_hrk8:=hrk8.len;have hx_hrk8:_≤1099511627776:=hrk8.lim
   have hzm:=List.mem_of_getElem? hz8;have hzc:=Nd.kid_cnt hzm;have hzs:=Nd.size_kid hzm
   refine lP H hrow8 0 Z2 (aG Z (q3 (W_drawK [] 12 H kR Z ?_)));intro _ H;have hd9:=PLe.refl G6
   refine dE 0 Z2 (dE 1 Z2 (dE 2 Z2 (dF 3 3 Z2 (dE 5 Z2 ?_))))
   refine r2 4 6 Z2 ?_ ?_
   ·skip
    refine lB 3 H Z3 (q4 H hd9 (r1 6 Z (xc Z2 (ih _ _ H.sub _ hnd8 oM oM) ?_)))
    rintro _ _ ⟨_,_,rfl,H10',⟨F10,T10,rfl,rfl,hNC10,hst10⟩⟩
    have H:=H.readers (fp:=[]) (by simp) (PLe.refl _) H10'
    refine⟨_,Z,?_⟩
    refine q4 H hd9 (r1 7 Z (xbs H Z7 ?_));intro _ _ _ H
    refine q4 H hd9 (r1 8 Z (o_append1 1 H (sz:=1) (bytes:=8) underlying136 typeInfo119 ⟨_,Z,Z⟩ Z Z Z Z Z Z Z Z Z Z oM Z ?_));intro _ _ H
    have hchk12:=hchk6_0.snoc (show kdE _ T10 _ from rfl) rfl
    obtain⟨_,_,rfl⟩:=H.accShape (k:=1) rfl
    refine q4 H hd9 (dE 9 Z2 (dF 10 3 Z2 (r1 11 Z ?_)))
    have H:=H.tF 2
    have H:=H.mergeF
    refine xst 3 H Z8 ?_;intro _ H
    refine q4 H hd9 (rz (N_B (N_K (W_region (aD Z2 (mV Z (R_nil ?_)))))))
    have H:=H.tF 3
    have H:=H.tF 3
    have H:=H.tF 2
    have H:=H.tF 3
    refine N_lp (hJ:=⟨_,_,_,(xs++[T10]),k+1,(FK++F10),_,Z,hle6,H,?inv,Z⟩) (hm:=?hm)
    case hm=>omega
    case inv=>exact⟨hchk12,aN,(by exact⟨by omega,hKs.snoc hNC10,Nd.strip_take hz8 hst0 hst10⟩)⟩
   skip
   refine xc Z2 (ih _ _ H.sub _ hnd8 oM oM) ?_
   rintro _ _ ⟨_,_,rfl,H15',⟨F15,T15,rfl,rfl,hNC15,hst15⟩⟩
   have H:=H.readers (fp:=[]) (by simp) (PLe.refl _) H15'
   refine⟨_,Z,?_⟩
   refine q4 H hd9 ?_
   refine r2 4 7 Z2 ?_ ?_
   ·skip
    refine lB 4 H Z3 (q4 H hd9 (r1 7 Z (xbs H Z7 ?_)));intro _ _ _ H
    refine q4 H hd9 (r1 8 Z (o_append1 1 H (sz:=1) (bytes:=8) underlying136 typeInfo119 ⟨_,Z,Z⟩ Z Z Z Z Z Z Z Z Z Z oM Z ?_));intro _ _ H
    have hchk17:=hchk6_0.snoc (show kdE _ T15 _ from rfl) rfl
    obtain⟨_,_,rfl⟩:=H.accShape (k:=1) rfl
    refine q4 H hd9 (dE 9 Z2 (dF 10 3 Z2 (r1 11 Z ?_)))
    have H:=H.tF 2
    have H:=H.mergeF
    refine xst 3 H Z8 ?_;intro _ H
    refine q4 H hd9 (rz (N_B (N_K (W_region (aD Z2 (mV Z (R_nil ?_)))))))
    have H:=H.tF 3
    have H:=H.tF 3
    have H:=H.tF 2
    have H:=H.tF 3
    refine N_lp (hJ:=⟨_,_,_,(xs++[T15]),k+1,(FK++F15),_,Z,hle6,H,?inv,Z⟩) (hm:=?hm)
    case hm=>omega
    case inv=>exact⟨hchk17,aN,(by exact⟨by omega,hKs.snoc hNC15,Nd.strip_take hz8 hst0 hst15⟩)⟩
   skip
   refine xbs H Z7 ?_;intro _ _ _ H
   refine q4 H hd9 (r1 4 Z (lB 5 H Z3 (q4 H hd9 (r1 8 Z (o_append1 1 H (sz:=1) (bytes:=8) underlying136 typeInfo119 ⟨_,Z,Z⟩ Z Z Z Z Z Z Z Z Z Z oM Z ?_)))));intro _ _ H
   have hchk21:=hchk6_0.snoc (show kdE _ T15 _ from rfl) rfl
   obtain⟨_,_,rfl⟩:=H.accShape (k:=1) rfl
   refine q4 H hd9 (dE 9 Z2 (dF 10 3 Z2 (r1 11 Z ?_)))
   have H:=H.tF 2
   have H:=H.mergeF
   refine xst 3 H Z8 ?_;intro _ H
   refine q4 H hd9 (rz (N_B (N_K (W_region (aD Z2 (mV Z (R_nil ?_)))))))
   have H:=H.tF 3
   have H:=H.tF 3
   have H:=H.tF 2
   have H:=H.tF 3
   refine N_lp (hJ:=⟨_,_,_,(xs++[T15]),k+1,(FK++F15),_,Z,hle6,H,?inv,Z⟩) (hm:=?hm)
   case hm=>omega
   case inv=>exact⟨hchk21,aN,(by exact⟨by omega,hKs.snoc hNC15,Nd.strip_take hz8 hst0 hst15⟩)⟩
  intro hc7'
  try simp only[nrm]at hc7'
  refine W_exit (N_K_exit (N_LP_exit (N_B_same (N_K (q2 (pe 2 Z (q3 (W_ret (rt1 results144 Z ?_)))))))))
  have H:=H.tF 2
  have H:=H.tF 3
  have H:=H.tF 3
  have H:=H.tF 3
  have hst:xs.map Nd.strip=t.kids.map Nd.strip:=by (have h9:=hst0;rw[List.take_of_length_le oM]at h9;exact h9)
  have hxl:=Nd.strip_len hst;have hkl:=Nd.kids_le t
  obtain rfl:n=xs.length:=by assumption
  obtain⟨FT,H,hNC⟩:=Hp.makeC (ks:=xs) (by (have hcc:=hchk6_0.kd;rw[hcc]at H;exact H)) hnlt oM hOIc hKs
  have H:=H.forget hG (by simp)
  exact⟨_,_,Z,H,FT,_,Z,Z,hNC,Nd.strip_mk hst⟩
theorem i_clone_c (w0:World)(G0:PH)(hG:PSub G0 w0)(t:Nd)(hndt:RdN G0 t)(hct:t.cnt≤1000) :
  Calls Tryz.prog 144 #[.pointer (some ⟨t.b,0,none⟩)] w0 (RetN w0 G0 (fun v Bs=>∃(F:Fr) (T:Nd),v= .pointer (some ⟨T.b,0,none⟩)∧Bs=[frag F]∧NdC 138 119 T F∧T.strip=t.strip)):=i_clone_r _ w0 G0 hG t hndt hct (Nat.le_refl _)
theorem i_take_c (w0:World)(G0:PH)(hG:PSub G0 w0)(db mb:Nat)(es:Array MapEntry)(ck:Nat)(xs:List (Int×Value))(T:Nd)(FT:Fr)(sv:Value)(sn:List (Bs×Nd))(c:List Value)(FSq:Fr)(d:BDisk)(hm:MapIs (Value.int .i64) es ck xs)(hS:StR G0 xs d.store)(hN:NdO 138 119 G0 T FT)(hT:Nd.TOK T d.tree)(hchk:Chk osE 2 G0 c sn)(hNs:NdsO 138 119 G0 (sn.map (·.2)) FSq)(hSn:SnOK sn d.snaps)(hdv:Sp.DiskValid d=true)(name:Bs)(hname:name.length≤16777216)(hLent:Lent w0 G0 [blk db (cl [.int .i32 0,.int .u32 0,.map (some mb),.pointer (some ⟨T.b,0,none⟩),sv] 133),blk mb (.map es ck),frag FT,acc 199 2 sv sn.length c,frag FSq]) :
  Calls Tryz.prog 62 #[.pointer (some ⟨db,0,none⟩),str name] w0 (RetM w0 G0 (fps [blk db (cl [.int .i32 0,.int .u32 0,.map (some mb),.pointer (some ⟨T.b,0,none⟩),sv] 133),blk mb (.map es ck),frag FT,acc 199 2 sv sn.length c,frag FSq]) (fun G' v Bs=>∃(es':Array MapEntry) (ck':Nat) (xs':List (Int×Value)) (F':Fr) (sv':Value) (sn':List (Fw.Bs×Nd)) (c':List Value) (FSq':Fr) (L':List BHeld),v= .bool (Sp.SnapTake d name).isSome∧Bs=[blk db (cl [.int .i32 0,.int .u32 0,.map (some mb),.pointer (some ⟨T.b,0,none⟩),sv'] 133),blk mb (.map es' ck'),frag F',acc 199 2 sv' sn'.length c',frag FSq']∧MapIs (Value.int .i64) es' ck' xs'∧StR G' xs' L'∧Sp.VH L'∧NdO 138 119 G' T F'∧Chk osE 2 G' c' sn'∧NdsO 138 119 G' (sn'.map (·.2)) FSq'∧∀d',Sp.SnapTake d name=some d'→L'=d'.store∧d'.tree=d.tree∧SnOK sn' d'.snaps)):=by
 have H:Hp w0 G0 (fps [blk db (cl [.int .i32 0,.int .u32 0,.map (some mb),.pointer (some ⟨T.b,0,none⟩),sv] 133),blk mb (.map es ck),frag FT,acc 199 2 sv sn.length c,frag FSq]) w0 G0 [blk db (cl [.int .i32 0,.int .u32 0,.map (some mb),.pointer (some ⟨T.b,0,none⟩),sv] 133),blk mb (.map es ck),frag FT,acc 199 2 sv sn.length c,frag FSq]:=hLent.hp
 obtain⟨_,_,rfl⟩:=H.accShape (k:=3) rfl;have hVd:=Sp.valid_iff.1 (Sp.dv_parts.1 hdv).1;have hTv:=(Sp.dv_parts.1 hdv).2.1;have hTc:=hT.cnt;have hTl:=Sp.tree_len hTv;have hsnl:=hSn.len;have hsn6:=(Sp.dv_parts.1 hdv).2.2.1
 refine calls_of_WD (l:=[.pointer (some ⟨db,0,none⟩),str name]) func62 Z ntmps62 Z (q2 (aG Z (q1 (pe 2 Z (fA 0 Z (o_lock 0 H muLib Z call140 Z Z Z Z ?_))))));intro _ H
 refine q1 (pe 2 Z (fA 0 Z (o_defer Z (q3 (W_seq (q2 (mV Z (xr H Z2 (i_partValid_c _ _ hname) ?_))))))));intro _ H
 refine pe 2 Z ?_
 refine R_case (t:=15) Z ?_ ?_
 ·intro hc3
  try simp only[nrm]at hc3
  refine pe 13 Z (q3 (W_true Z (q2 (aG Z (q3 (W_ret (N_K_ret (ret_unlock 0 H muLib Z call141 Z Z (rs:=[.tmp 4]) results62 ?_))))))));intro _ H
  refine⟨[_],⟨Z,trivial⟩,?_⟩
  have H:=H.tF 4
  have H:=H.tF 4
  have H:=H.tF 4
  have H:=H.tF 4
  have H:=H.tF 4
  have hno:Sp.SnapTake d name=none:=take_no (fun hh=>by have:=hh.1;simp_all)
  exact H.retM ⟨_,_,_,_,_,sn,_,_,d.store,by (rw[hno];rfl),rfl,hm,hS,hVd,hN,hchk,hNs,fun d2 h=>by rw[hno]at h;cases h⟩
 intro hc3'
 try simp only[nrm]at hc3'
 refine pe 2 Z (gR Z (xr H Z2 (i_snapAt_c _ _ (H.lendSubL [0,3]) _ _ _ _ _ _ _ (prow_blk (H.lendPredL (k:=0) (ks:=[0,3]) Z Z)) (H.lendRdL (k:=3) (ks:=[0,3]) Z Z hchk aN aN) _ hname) ?_));intro _ H
 refine pe 3 Z ?_
 refine R_case (t:=21) Z ?_ ?_
 ·intro hc5
  try simp only[nrm]at hc5
  refine pe 7 Z (q3 (W_true Z (q2 (aG Z (q3 (W_ret (N_K_ret (ret_unlock 0 H muLib Z call141 Z Z (rs:=[.tmp 4]) results62 ?_))))))));intro _ H
  refine⟨[_],⟨Z,trivial⟩,?_⟩
  have H:=H.tF 4
  have H:=H.tF 4
  have H:=H.tF 4
  have H:=H.tF 4
  have H:=H.tF 4
  have hno:Sp.SnapTake d name=none:=take_no (fun hh=>by have h8:=hh.2.1;(rw[←Sp.sn_find hSn,←optI_neg]at h8);omega)
  exact H.retM ⟨_,_,_,_,_,sn,_,_,d.store,by (rw[hno];rfl),rfl,hm,hS,hVd,hN,hchk,hNs,fun d2 h=>by rw[hno]at h;cases h⟩
 intro hc5'
 try simp only[nrm]at hc5'
 refine pe 2 Z (gR Z (fA 4 Z (gR Z (lB 0 H Z3 (gR Z (lN Z (pe 2 Z (q3 ?_))))))))
 refine W_cond Z ?_ ?_
 ·intro hc6
  try simp only[nrm]at hc6
  refine q2 (aG Z (q3 (W_ret (N_K_ret (ret_unlock 0 H muLib Z call141 Z Z (rs:=[.tmp 4]) results62 ?_)))));intro _ H
  refine⟨[_],⟨Z,trivial⟩,?_⟩
  have H:=H.tF 4
  have H:=H.tF 4
  have H:=H.tF 4
  have H:=H.tF 4
  have H:=H.tF 4
  have hno:Sp.SnapTake d name=none:=take_no (fun hh=>by have:=hh.2.2;omega)
  exact H.retM ⟨_,_,_,_,_,sn,_,_,d.store,by (rw[hno];rfl),rfl,hm,hS,hVd,hN,hchk,hNs,fun d2 h=>by rw[hno]at h;cases h⟩
 intro hc6'
 try simp only[nrm]at hc6'
 refine W_skip (N_K (W_seq (W_drawK [] 18 H kR Z ?_)));intro _ H;have hd7:=PLe.refl G0
 refine dE 0 Z2 (dE 1 Z2 (dE 2 Z2 (dF 3 4 Z2 (dE 5 Z2 (dE 6 Z2 (dE 7 Z2 (dF 8 2 Z2 (dF 9 1 Z2 ?_))))))))
 refine r2 4 10 Z2 ?_ ?_
 ·skip
  refine lB 0 H Z3 (q4 H hd7 (r1 10 Z (lB 0 H Z3 (q4 H hd7 (r1 11 Z (xc Z2 (i_clone_c _ _ (H.lendSubL [2]) _ ((H.lendN (k:=2) (ks:=[2]) Z Z hN).at (show Nd.at_ T []=some T from Z)) oM) ?_))))))
  rintro _ _ ⟨_,_,rfl,H8',⟨_,T8,rfl,rfl,hNC8,hst8⟩⟩
  have H:=H.readersL H8'
  refine⟨_,Z,?_⟩
  obtain⟨Gs4,_,H,hsl4,hNc4⟩:=Hp.shareC H hNC8 (H.apart (k:=0) (ks:=[1,2,3,4,5]) rfl rfl (by intro b hb;simp only[fps,List.flatMap_cons,List.flatMap_nil,List.append_nil,List.mem_append]at hb;rcases hb with h|h|h|h|h;(· exact fpsAt_mem (k:=1) rfl rfl b (by exact h));(· exact fpsAt_mem (k:=2) rfl rfl b (by exact h));(· exact fpsAt_mem (k:=3) rfl rfl b (by exact h));(· exact fpsAt_mem (k:=4) rfl rfl b (by exact h));(· exact fpsAt_mem (k:=5) rfl rfl b (by exact h))))
  have hS:=hS.up hsl4
  have hN:=hN.up hsl4
  have hchk:=hchk.up hsl4
  have hNs:=hNs.up hsl4
  have hd7:=hd7.trans hsl4
  refine q4 H hd7 (RD_t 12 Z kR Z (fun _ hK=>v_build bf199 Z Z) (r1 13 Z (xbs H Z7 ?_)));intro _ _ _ H
  refine q4 H hd7 (r1 14 Z (o_append1 4 H (sz:=2) (bytes:=24) underlying131 typeInfo199 ⟨_,Z,Z⟩ Z Z Z Z Z Z Z Z Z Z oM Z ?_));intro _ _ H
  have hchk10:=hchk.snoc (show osE _ (name,T8) _ from⟨rfl,hname⟩) rfl
  obtain⟨_,_,rfl⟩:=H.accShape (k:=4) rfl
  refine q4 H hd7 (dE 15 Z2 (dF 16 4 Z2 (r1 17 Z ?_)))
  have H:=H.tF 5
  have H:=H.mergeF
  refine xst 1 H Z8 ?_;intro _ H
  refine q4 H hd7 (rz (N_K (W_seq (W_drawK [1] 12 H kR Z ?_))));intro _ H;have hd12:=PLe.refl Gs4
  refine dE 0 Z2 (dE 1 Z2 (dF 2 2 Z2 (dF 3 0 Z2 (dB 4 0 Z4 (dE 5 Z2 (dE 6 Z2 (dF 7 2 Z2 (dF 8 1 Z2 (dB 9 0 Z4 (r1 10 Z ?_))))))))))
  have H:=H.tF 3
  have H:=H.tF 3
  refine xc Z2 (i_keepTree_c _ _ H.sub _ _ _ _ _ hm hS hVd _ _ hN H.lent2 hT.wf oM) ?_
  rintro _ _ ⟨_,_,_,rfl,H13',⟨_,_,_,L13,rfl,rfl,hm13,hS13,hV13,hL13⟩⟩
  have hN:=hN.up H13'.le
  have hNs:=hNs.up H13'.le
  have hNc4:=hNc4.up H13'.le
  have hchk10:=hchk10.up H13'.le
  have hd12:=hd12.trans H13'.le
  have H:=H.borrow2 H13'
  refine⟨_,Z,?_⟩
  refine q4 H hd12 (dE 11 Z2 (rz (N_K (W_ret (ret_unlock 3 H muLib Z call141 Z Z (rs:=[.tmp 4]) results62 ?_)))));intro _ H
  refine⟨[_],⟨Z,trivial⟩,?_⟩
  have H:=H.tF 2
  have H:=H.tF 4
  have H:=H.tF 3
  have H:=H.tF 3
  have H:=H.tF 4
  have htk:=take_eq hdv (by simpa using hc3') (optI_neg.1 (by (rw[←Sp.sn_find hSn];omega))) (by omega:d.snaps.length≠6)
  have hfl:=hT.flat
  have hln:sn.length+1=(sn++[(name,T8)]).length:=by simp
  rw[hln]at H
  exact H.retM ⟨_,_,_,_,_,sn++[(name,T8)],_,_,L13,congrArg Value.bool (by (rw[htk,hfl,Option.isSome_map])),rfl,hm13,hS13,hV13,hN,hchk10,by (rw[List.map_append];exact hNs.snoc hNc4),fun d2 h=>(by (rw[htk]at h);obtain⟨s2,h2,rfl⟩:=Option.map_eq_some_iff.1 h;exact⟨hL13 s2 (by (rw[hfl];exact h2)),rfl,All2.push hSn rfl (hT.strip hst8) hTv⟩)⟩
 skip
 refine lB 0 H Z3 (q4 H hd7 ?_)
 refine r2 4 11 Z2 ?_ ?_
 ·skip
  refine lB 0 H Z3 (q4 H hd7 (r1 11 Z (xc Z2 (i_clone_c _ _ (H.lendSubL [2]) _ ((H.lendN (k:=2) (ks:=[2]) Z Z hN).at (show Nd.at_ T []=some T from Z)) oM) ?_)))
  rintro _ _ ⟨_,_,rfl,H14',⟨_,T14,rfl,rfl,hNC14,hst14⟩⟩
  have H:=H.readersL H14'
  refine⟨_,Z,?_⟩
  obtain⟨Gs6,_,H,hsl6,hNc6⟩:=Hp.shareC H hNC14 (H.apart (k:=0) (ks:=[1,2,3,4,5]) rfl rfl (by intro b hb;simp only[fps,List.flatMap_cons,List.flatMap_nil,List.append_nil,List.mem_append]at hb;rcases hb with h|h|h|h|h;(· exact fpsAt_mem (k:=1) rfl rfl b (by exact h));(· exact fpsAt_mem (k:=2) rfl rfl b (by exact h));(· exact fpsAt_mem (k:=3) rfl rfl b (by exact h));(· exact fpsAt_mem (k:=4) rfl rfl b (by exact h));(· exact fpsAt_mem (k:=5) rfl rfl b (by exact h))))
  have hS:=hS.up hsl6
  have hN:=hN.up hsl6
  have hchk:=hchk.up hsl6
  have hNs:=hNs.up hsl6
  have hd7:=hd7.trans hsl6
  refine q4 H hd7 (RD_t 12 Z kR Z (fun _ hK=>v_build bf199 Z Z) (r1 13 Z (xbs H Z7 ?_)));intro _ _ _ H
  refine q4 H hd7 (r1 14 Z (o_append1 4 H (sz:=2) (bytes:=24) underlying131 typeInfo199 ⟨_,Z,Z⟩ Z Z Z Z Z Z Z Z Z Z oM Z ?_));intro _ _ H
  have hchk16:=hchk.snoc (show osE _ (name,T14) _ from⟨rfl,hname⟩) rfl
  obtain⟨_,_,rfl⟩:=H.accShape (k:=4) rfl
  refine q4 H hd7 (dE 15 Z2 (dF 16 4 Z2 (r1 17 Z ?_)))
  have H:=H.tF 5
  have H:=H.mergeF
  refine xst 1 H Z8 ?_;intro _ H
  refine q4 H hd7 (rz (N_K (W_seq (W_drawK [1] 12 H kR Z ?_))));intro _ H;have hd18:=PLe.refl Gs6
  refine dE 0 Z2 (dE 1 Z2 (dF 2 2 Z2 (dF 3 0 Z2 (dB 4 0 Z4 (dE 5 Z2 (dE 6 Z2 (dF 7 2 Z2 (dF 8 1 Z2 (dB 9 0 Z4 (r1 10 Z ?_))))))))))
  have H:=H.tF 3
  have H:=H.tF 3
  refine xc Z2 (i_keepTree_c _ _ H.sub _ _ _ _ _ hm hS hVd _ _ hN H.lent2 hT.wf oM) ?_
  rintro _ _ ⟨_,_,_,rfl,H19',⟨_,_,_,L19,rfl,rfl,hm19,hS19,hV19,hL19⟩⟩
  have hN:=hN.up H19'.le
  have hNs:=hNs.up H19'.le
  have hNc6:=hNc6.up H19'.le
  have hchk16:=hchk16.up H19'.le
  have hd18:=hd18.trans H19'.le
  have H:=H.borrow2 H19'
  refine⟨_,Z,?_⟩
  refine q4 H hd18 (dE 11 Z2 (rz (N_K (W_ret (ret_unlock 3 H muLib Z call141 Z Z (rs:=[.tmp 4]) results62 ?_)))));intro _ H
  refine⟨[_],⟨Z,trivial⟩,?_⟩
  have H:=H.tF 2
  have H:=H.tF 4
  have H:=H.tF 3
  have H:=H.tF 3
  have H:=H.tF 4
  have htk:=take_eq hdv (by simpa using hc3') (optI_neg.1 (by (rw[←Sp.sn_find hSn];omega))) (by omega:d.snaps.length≠6)
  have hfl:=hT.flat
  have hln:sn.length+1=(sn++[(name,T14)]).length:=by simp
  rw[hln]at H
  exact H.retM ⟨_,_,_,_,_,sn++[(name,T14)],_,_,L19,congrArg Value.bool (by (rw[htk,hfl,Option.isSome_map])),rfl,hm19,hS19,hV19,hN,hchk16,by (rw[List.map_append];exact hNs.snoc hNc6),fun d2 h=>(by (rw[htk]at h);obtain⟨s2,h2,rfl⟩:=Option.map_eq_some_iff.1 h;exact⟨hL19 s2 (by (rw[hfl];exact h2)),rfl,All2.push hSn rfl (hT.strip hst14) hTv⟩)⟩
 skip
 refine xc Z2 (i_clone_c _ _ (H.lendSubL [2]) _ ((H.lendN (k:=2) (ks:=[2]) Z Z hN).at (show Nd.at_ T []=some T from Z)) oM) ?_
 rintro _ _ ⟨_,_,rfl,H20',⟨_,T20,rfl,rfl,hNC20,hst20⟩⟩
 have H:=H.readersL H20'
 refine⟨_,Z,?_⟩
 obtain⟨Gs8,_,H,hsl8,hNc8⟩:=Hp.shareC H hNC20 (H.apart (k:=0) (ks:=[1,2,3,4,5]) rfl rfl (by intro b hb;simp only[fps,List.flatMap_cons,List.flatMap_nil,List.append_nil,List.mem_append]at hb;rcases hb with h|h|h|h|h;(· exact fpsAt_mem (k:=1) rfl rfl b (by exact h));(· exact fpsAt_mem (k:=2) rfl rfl b (by exact h));(· exact fpsAt_mem (k:=3) rfl rfl b (by exact h));(· exact fpsAt_mem (k:=4) rfl rfl b (by exact h));(· exact fpsAt_mem (k:=5) rfl rfl b (by exact h))))
 have hS:=hS.up hsl8
 have hN:=hN.up hsl8
 have hchk:=hchk.up hsl8
 have hNs:=hNs.up hsl8
 have hd7:=hd7.trans hsl8
 refine q4 H hd7 (RD_t 12 Z kR Z (fun _ hK=>v_build bf199 Z Z) ?_)
 refine r2 4 13 Z2 ?_ ?_
 ·skip
  refine lB 1 H Z3 (q4 H hd7 (r1 13 Z (xbs H Z7 ?_)));intro _ _ _ H
  refine q4 H hd7 (r1 14 Z (o_append1 4 H (sz:=2) (bytes:=24) underlying131 typeInfo199 ⟨_,Z,Z⟩ Z Z Z Z Z Z Z Z Z Z oM Z ?_));intro _ _ H
  have hchk22:=hchk.snoc (show osE _ (name,T20) _ from⟨rfl,hname⟩) rfl
  obtain⟨_,_,rfl⟩:=H.accShape (k:=4) rfl
  refine q4 H hd7 (dE 15 Z2 (dF 16 4 Z2 (r1 17 Z ?_)))
  have H:=H.tF 5
  have H:=H.mergeF
  refine xst 1 H Z8 ?_;intro _ H
  refine q4 H hd7 (rz (N_K (W_seq (W_drawK [1] 12 H kR Z ?_))));intro _ H;have hd24:=PLe.refl Gs8
  refine dE 0 Z2 (dE 1 Z2 (dF 2 2 Z2 (dF 3 0 Z2 (dB 4 0 Z4 (dE 5 Z2 (dE 6 Z2 (dF 7 2 Z2 (dF 8 1 Z2 (dB 9 0 Z4 (r1 10 Z ?_))))))))))
  have H:=H.tF 3
  have H:=H.tF 3
  refine xc Z2 (i_keepTree_c _ _ H.sub _ _ _ _ _ hm hS hVd _ _ hN H.lent2 hT.wf oM) ?_
  rintro _ _ ⟨_,_,_,rfl,H25',⟨_,_,_,L25,rfl,rfl,hm25,hS25,hV25,hL25⟩⟩
  have hN:=hN.up H25'.le
  have hNs:=hNs.up H25'.le
  have hNc8:=hNc8.up H25'.le
  have hchk22:=hchk22.up H25'.le
  have hd24:=hd24.trans H25'.le
  have H:=H.borrow2 H25'
  refine⟨_,Z,?_⟩
  refine q4 H hd24 (dE 11 Z2 (rz (N_K (W_ret (ret_unlock 3 H muLib Z call141 Z Z (rs:=[.tmp 4]) results62 ?_)))));intro _ H
  refine⟨[_],⟨Z,trivial⟩,?_⟩
  have H:=H.tF 2
  have H:=H.tF 4
  have H:=H.tF 3
  have H:=H.tF 3
  have H:=H.tF 4
  have htk:=take_eq hdv (by simpa using hc3') (optI_neg.1 (by (rw[←Sp.sn_find hSn];omega))) (by omega:d.snaps.length≠6)
  have hfl:=hT.flat
  have hln:sn.length+1=(sn++[(name,T20)]).length:=by simp
  rw[hln]at H
  exact H.retM ⟨_,_,_,_,_,sn++[(name,T20)],_,_,L25,congrArg Value.bool (by (rw[htk,hfl,Option.isSome_map])),rfl,hm25,hS25,hV25,hN,hchk22,by (rw[List.map_append];exact hNs.snoc hNc8),fun d2 h=>(by (rw[htk]at h);obtain⟨s2,h2,rfl⟩:=Option.map_eq_some_iff.1 h;exact⟨hL25 s2 (by (rw[hfl];exact h2)),rfl,All2.push hSn rfl (hT.strip hst20) hTv⟩)⟩
 skip
 refine xbs H Z7 ?_;intro _ _ _ H
 refine q4 H hd7 (r1 4 Z (lB 2 H Z3 (q4 H hd7 (r1 14 Z (o_append1 4 H (sz:=2) (bytes:=24) underlying131 typeInfo199 ⟨_,Z,Z⟩ Z Z Z Z Z Z Z Z Z Z oM Z ?_)))));intro _ _ H
 have hchk27:=hchk.snoc (show osE _ (name,T20) _ from⟨rfl,hname⟩) rfl
 obtain⟨_,_,rfl⟩:=H.accShape (k:=4) rfl
 refine q4 H hd7 (dE 15 Z2 (dF 16 4 Z2 (r1 17 Z ?_)))
 have H:=H.tF 5
 have H:=H.mergeF
 refine xst 1 H Z8 ?_;intro _ H
 refine q4 H hd7 (rz (N_K (W_seq (W_drawK [1] 12 H kR Z ?_))));intro _ H;have hd29:=PLe.refl Gs8
 refine dE 0 Z2 (dE 1 Z2 (dF 2 2 Z2 (dF 3 0 Z2 (dB 4 0 Z4 (dE 5 Z2 (dE 6 Z2 (dF 7 2 Z2 (dF 8 1 Z2 (dB 9 0 Z4 (r1 10 Z ?_))))))))))
 have H:=H.tF 3
 have H:=H.tF 3
 refine xc Z2 (i_keepTree_c _ _ H.sub _ _ _ _ _ hm hS hVd _ _ hN H.lent2 hT.wf oM) ?_
 rintro _ _ ⟨_,_,_,rfl,H30',⟨_,_,_,L30,rfl,rfl,hm30,hS30,hV30,hL30⟩⟩
 have hN:=hN.up H30'.le
 have hNs:=hNs.up H30'.le
 have hNc8:=hNc8.up H30'.le
 have hchk27:=hchk27.up H30'.le
 have hd29:=hd29.trans H30'.le
 have H:=H.borrow2 H30'
 refine⟨_,Z,?_⟩
 refine q4 H hd29 (dE 11 Z2 (rz (N_K (W_ret (ret_unlock 3 H muLib Z call141 Z Z (rs:=[.tmp 4]) results62 ?_)))));intro _ H
 refine⟨[_],⟨Z,trivial⟩,?_⟩
 have H:=H.tF 2
 have H:=H.tF 4
 have H:=H.tF 3
 have H:=H.tF 3
 have H:=H.tF 4
 have htk:=take_eq hdv (by simpa using hc3') (optI_neg.1 (by (rw[←Sp.sn_find hSn];omega))) (by omega:d.snaps.length≠6)
 have hfl:=hT.flat
 have hln:sn.length+1=(sn++[(name,T20)]).length:=by simp
 rw[hln]at H
 exact H.retM ⟨_,_,_,_,_,sn++[(name,T20)],_,_,L30,congrArg Value.bool (by (rw[htk,hfl,Option.isSome_map])),rfl,hm30,hS30,hV30,hN,hchk27,by (rw[List.map_append];exact hNs.snoc hNc8),fun d2 h=>(by (rw[htk]at h);obtain⟨s2,h2,rfl⟩:=Option.map_eq_some_iff.1 h;exact⟨hL30 s2 (by (rw[hfl];exact h2)),rfl,All2.push hSn rfl (hT.strip hst20) hTv⟩)⟩
theorem i_next_c (w0:World)(G0:PH)(hG:PSub G0 w0)(rb:Nat)(ab:Option Addr)(kb:Nat)(bs:List Int)(p:Nat)(hbs:RdI G0 (.slice ab bs.length kb) bs)(hp:p≤bs.length)(hbl:bs.length≤1000000)(hLent:Lent w0 G0 [blk rb (cl [.slice ab bs.length kb,.int .i64 (p:Int)] 299)]) :
  Calls Tryz.prog 249 #[.pointer (some ⟨rb,0,none⟩)] w0 (RetM w0 G0 [rb] (fun G' v Bs=>∃(u:Value) (c:List Value) (p':Nat),v=u∧Bs=[acc 3 1 u (Sp.nextC bs p).length c,blk rb (cl [.slice ab bs.length kb,.int .i64 (p':Int)] 299)]∧p'=min (p+8) bs.length∧Chk intE 1 G' c (Sp.nextC bs p))):=by
 have H:Hp w0 G0 [rb] w0 G0 [blk rb (cl [.slice ab bs.length kb,.int .i64 (p:Int)] 299)]:=hLent.hp
 refine calls_of_W (l:=[.pointer (some ⟨rb,0,none⟩)]) func249 Z ntmps249 Z (q2 (aG Z (q3 (W_seq (W_drawK [0] 12 H kR Z ?_)))));intro _ H;have hd1:=PLe.refl G0
 refine dE 0 Z2 (dE 1 Z2 (dF 2 1 Z2 (dB 3 0 Z4 (RD_t 4 Z kR Z (fun _ hK=>v_add Z Z oO) (dE 5 Z2 (dE 6 Z2 (dF 7 0 Z2 (dB 8 0 Z4 (dN 9 Z2 (RD_t 10 Z kR Z (fun _ hK=>v_min Z Z) (dE 11 Z2 (rz (N_K (W_seq (W_drawK [0] 12 H kR Z ?_)))))))))))))));intro _ H;have hd3:=PLe.refl G0
 refine dE 0 Z2 (dE 1 Z2 (dF 2 0 Z2 (dB 3 0 Z4 (dE 4 Z2 (dE 5 Z2 (dF 6 1 Z2 (dB 7 0 Z4 (dE 8 Z2 ?_))))))))
 have hcap4:=hbs.cap;try simp only[List.length_set,List.length_append,List.length_take,List.length_drop,List.length_replicate]at hcap4
 have hsl4:=hbs.part (i:=p) (j:=(min (p+8) bs.length)) oM oM
 have hsn1:=hsl4.len
 refine RD_t 9 Z kR Z (fun _ hK=>v_slice (i:=p) (j:=(min (p+8) bs.length)) underlying33 sizeOf3 Z Z Z oM oM aN aN) (r1 10 Z ?_)
 have H:=H.addNil 3 1
 refine o_append_P 0 H hsl4 (by intro _ _ hz _ hu;obtain⟨rfl,_⟩:=hz;simp at hu;subst hu;rfl) (sz:=1) (bytes:=8) underlying33 typeInfo3 ⟨_,rfl,rfl⟩ rfl rfl rfl rfl rfl rfl rfl oM rfl ?_;intro _ _ css5 hcl5 hcs5 H
 have hchk5:Chk intE 1 G0 ([]++css5.flatten) _:=⟨css5,rfl,hcl5,hcs5⟩
 obtain⟨_,_,rfl⟩:=H.accShape (k:=0) rfl
 refine q4 H hd3 (dE 11 Z2 (rz (N_K (q2 (pe 3 Z (fA 1 Z (xst 1 H Z8 ?_)))))));intro _ H
 refine q1 (pe 2 Z (q3 (W_ret (rt1 results249 Z ?_))))
 have hcx:(Sp.nextC bs p).length=min (p+8) bs.length-p:=by unfold Sp.nextC;simp;omega
 have hpm:min ((p:Int)+8) (bs.length:Int)=((min (p+8) bs.length:Nat):Int):=by omega
 exact H.retM ⟨_,_,min (p+8) bs.length,rfl,by rw[hcx,hpm];simp only[Nat.zero_add];rfl,rfl,hchk5⟩
theorem i_storeFile_c (w0:World)(G0:PH)(hG:PSub G0 w0)(mbs:Nat)(ess:Array MapEntry)(cks:Nat)(xss:List (Int×Value))(Ls:List BHeld)(hms:MapIs (Value.int .i64) ess cks xss)(hSs:StR G0 xss Ls)(hVs:Sp.VH Ls)(vbytes:Value)(bytes:List (Int))(hbytes:RdI G0 vbytes bytes)(hLent:Lent w0 G0 [blk mbs (.map ess cks)])(hB:Sp.FileValid bytes=true) :
  Calls Tryz.prog 213 #[.map (some mbs),vbytes] w0 (RetM w0 G0 [mbs] (fun G' v Bs=>∃(es':Array MapEntry) (ck':Nat) (xs':List (Int×Value)) (L':List BHeld) (u:Value) (c:List Value) (ids:List Int),v= .tuple #[u,.bool (Sp.FileStore Ls bytes).isSome]∧Bs=[acc 3 1 u ids.length c,blk mbs (.map es' ck')]∧MapIs (Value.int .i64) es' ck' xs'∧StR G' xs' L'∧Sp.VH L'∧(∀r,Sp.FileStore Ls bytes=some r→r=(L',ids))∧Chk intE 1 G' c ids∧ids.length≤1000)):=by
 obtain⟨abytes,kbytes,rfl⟩:=hbytes.shape
 have hlimbytes:bytes.length≤1099511627776:=hbytes.lim
 have hBl:bytes.length≤32:=by simp[Sp.FileValid]at hB;omega
 have H:Hp w0 G0 [mbs] w0 G0 [blk mbs (.map ess cks)]:=hLent.hp
 refine calls_of_W (l:=[.map (some mbs),.slice abytes bytes.length kbytes]) func213 Z ntmps213 Z (q2 (pe 2 Z (q1 (aG Z (q1 (mV Z (o_build bf299 Z Z Z (o_box H Z Z Z ?_))))))));intro b1 _ _ H
 refine aG Z (q3 (W_seq (q2 (mV Z (xc Z2 (i_next_c _ _ H.sub _ _ _ _ 0 hbytes oM oM H.lent1) ?_)))))
 rintro _ _ ⟨G2,_,_,rfl,H2',⟨_,_,_,rfl,rfl,_,hchk2⟩⟩
 have hSs:=hSs.up H2'.le
 have hbytes:=hbytes.up H2'.le
 have H:=H.borrow1 H2'
 obtain⟨_,_,rfl⟩:=H.accShape (k:=0) rfl
 refine⟨_,Z,?_⟩
 refine aG Z (q3 (W_block ?_))
 have H:=H.addNil 3 1
 refine W_lp (hf:=(Sub.cons (t:=0) Z (Sub.cons (t:=7) Z Sub.nil))) (J:=fun M w m=>∃(esm0:Array MapEntry) (ckm0:Nat) (xsm0:List (Int×Value)) (Lm0:List BHeld) (v:Value) (n:Nat) (cs:List Value) (xs:List (Int)) (v1:Value) (n1:Nat) (cs1:List Value) (xs1:List (Int)) (k p:Nat) (G:PH),M=[(6,v),(8,v1)]∧PLe G2 G∧Hp w0 G0 [mbs] w G [acc 3 1 v n cs,acc 3 1 v1 n1 cs1,blk b1 (cl [.slice abytes bytes.length kbytes,.int .i64 (p:Int)] 299),blk mbs (.map esm0 ckm0)]∧(MapIs (Value.int .i64) esm0 ckm0 xsm0∧StR G xsm0 Lm0∧Sp.VH Lm0∧Chk intE 1 G cs xs∧n=xs.length∧Chk intE 1 G cs1 xs1∧n1=xs1.length∧xs1=Sp.chunk bytes k∧p=min (8*k+8) bytes.length∧xs.length≤k∧k≤100∧Sp.foldB Sp.put1 ((Sp.l4Cut bytes).take k) (some (Ls,[]))=some (Lm0,xs))∧m=(100-k)) (h0:=⟨_,_,xss,Ls,_,_,_,[],_,_,_,(Sp.nextC bytes 0),0,_,_,Z,PLe.refl _,H,?inv,Z⟩) (round:=?round)
 case inv=>exact⟨hms,hSs,hVs,(by exact⟨(Chk.nil (E:=intE) (sz:=1) (G:=G2)),(by first|rfl|simp|(simp;omega)|omega),hchk2,by first|rfl|simp|(simp;omega)|omega,(by exact⟨Sp.next_zero _,by omega,by simp,by omega,by simp[Sp.foldB]⟩)⟩)⟩
 case round =>
  rintro _ _ _ ⟨esm0,ckm0,xsm0,Lm0,v,n,cs,xs,v1,n1,cs1,xs1,k,p,_,rfl,hle4,H,hinv4,rfl⟩
  have hbytes:=hbytes.up hle4
  obtain⟨hm4_m0,hS4_m0,hV4_m0,hinv4⟩:=hinv4
  obtain⟨hchk4_0,_,hinv4⟩:=hinv4
  obtain⟨_,_,rfl⟩:=H.accShape (k:=0) rfl
  obtain⟨hchk4_1,_,hinv4⟩:=hinv4
  obtain⟨_,_,rfl⟩:=H.accShape (k:=1) rfl
  obtain⟨rfl,hpk,_,_,hf⟩:=hinv4;have hcl:=Sp.chunk_len bytes k
  refine W_seq (q2 (mV Z (lN Z (pe 1 Z (q3 ?_)))))
  refine W_cond Z ?_ ?_
  ·intro hc5
   try simp only[nrm]at hc5
   refine W_skip (N_K (W_seq (W_block (q2 (pe 2 Z ?_)))))
   obtain⟨_,H,hsg7,hsr7⟩:=H.shutL (k:=1) rfl (H.apart (k:=1) (ks:=[3]) rfl rfl (by intro b hb;simpa [fpsAt,nth,blk] using hb)) hchk4_1 aN aN
   have hbytes:=hbytes.up hsg7
   have hS4_m0:=hS4_m0.up hsg7
   have hchk4_0:=hchk4_0.up hsg7
   have hle4:=hle4.trans hsg7
   have H:=H.tF 2
   refine xc Z2 (i_put_c _ _ H.sub _ _ _ _ _ hm4_m0 hS4_m0 hV4_m0 _ _ hsr7 H.lent1 (Sp.chunk_valid hB oM)) ?_
   rintro _ _ ⟨G6,_,_,rfl,H6',⟨_,_,xs6,L6,i6,rfl,rfl,hm6,hS6,hV6,hL6,_,hir6⟩⟩
   have hbytes:=hbytes.up H6'.le
   have hchk4_0:=hchk4_0.up H6'.le
   have hle4:=hle4.trans H6'.le
   have H:=H.borrow1 H6'
   refine⟨_,Z,?_⟩
   refine pe 5 Z (q3 (W_seq (q2 (pe 2 Z (q3 ?_)))))
   refine W_cond Z ?_ ?_
   ·intro hc8
    try simp only[nrm]at hc8
    refine q2 (pe 2 Z (q3 (W_ret (N_K_ret (N_B_ret (N_K_ret (N_LP_ret (N_B_ret (N_K_ret (rt2 results213 Z Z ?_))))))))))
    have hno:Sp.FileStore Ls bytes=none:=by (have hno:Sp.StorePut Lm0 (Sp.chunk bytes k)=none:=by simpa using hc8);simp only[Sp.FileStore,Sp.valid_iff.2 hVs,hB,Bool.and_self,if_true];exact Sp.foldB_stop hf (Sp.chunks_at oM) (by simp[Sp.put1,hno])
    have H:=H.addNil 3 1
    have H:=H.dl 2
    have H:=H.dl 2
    have H:=H.tF 1
    have H:=H.tF 1
    exact H.retM ⟨_,_,_,_,_,_,_,congrArg (fun b=>Value.tuple #[_,Value.bool b]) (show _=(Sp.FileStore Ls bytes).isSome by rw[hno];rfl),acc_1 aN,hm6,hS6,hV6,(fun r hr=>by rw[hno]at hr;cases hr),(Chk.nil (E:=intE) (sz:=1) (G:=G6)),by first|omega|(simp;done)|(simp;omega)⟩
   intro hc8'
   try simp only[nrm]at hc8'
   obtain⟨⟨r1,r2⟩,hsp⟩:=Option.isSome_iff_exists.1 hc8'
   have hLp:L6=r1:=by rw[hL6,hsp];rfl
   subst hLp
   obtain rfl:i6=r2:=(hir6 _ hsp).symm
   refine W_skip (N_K (W_region (pe 2 Z (xbs H Z7 ?_))));intro _ _ _ H
   refine o_append1 1 H (sz:=1) (bytes:=8) underlying33 typeInfo3 ⟨_,Z,Z⟩ Z Z Z Z Z Z Z Z Z Z oM Z ?_;intro _ _ H
   have hchk10:=hchk4_0.snoc (show intE _ i6 _ from⟨rfl,oO⟩) rfl
   obtain⟨_,_,rfl⟩:=H.accShape (k:=1) rfl
   refine aG Z (R_nil (N_B (N_K (W_region (mV Z ?_)))))
   have H:=H.tF 2
   refine xc Z2 (i_next_c _ _ H.sub _ _ _ _ p hbytes oM oM H.lent1) ?_
   rintro _ _ ⟨_,_,_,rfl,H11',⟨_,_,p11,rfl,rfl,_,hchk11⟩⟩
   have hS6:=hS6.up H11'.le
   have hchk10:=hchk10.up H11'.le
   have hle4:=hle4.trans H11'.le
   have H:=H.borrow1 H11'
   obtain⟨_,_,rfl⟩:=H.accShape (k:=0) rfl
   refine⟨_,Z,?_⟩
   refine aG Z (R_nil ?_)
   have H:=H.tF 2
   have H:=H.tF 2
   have H:=H.tF 2
   have H:=H.tF 3
   refine N_lp (hJ:=⟨_,_,xs6,L6,_,_,_,(xs++[i6]),_,_,_,(Sp.nextC bytes p),k+1,p11,_,Z,hle4,H,?inv,Z⟩) (hm:=?hm)
   case hm=>omega
   case inv=>exact⟨hm6,hS6,hV6,(by exact⟨hchk10,aN,hchk11,aN,(by exact⟨by rw[hpk];exact Sp.next_chunk _ _,by omega,by simp;omega,by omega,Sp.foldB_succ hf (Sp.chunks_at oM) (by simp[Sp.put1,hsp])⟩)⟩)⟩
  intro hc5'
  try simp only[nrm]at hc5'
  refine W_exit (N_K_exit (N_LP_exit (N_B_same (N_K (q2 (pe 3 Z (q3 (W_ret (rt2 results213 Z Z ?_)))))))))
  have hyes:Sp.FileStore Ls bytes=some (Lm0,xs):=by simp only[Sp.FileStore,Sp.valid_iff.2 hVs,hB,Bool.and_self,if_true];exact Sp.foldB_all hf (Sp.chunks_end oM)
  have H:=H.dl 1
  have H:=H.dl 1
  have H:=H.tF 1
  have H:=H.tF 1
  exact H.retM ⟨_,_,_,_,_,_,_,congrArg (fun b=>Value.tuple #[_,Value.bool b]) (show _=(Sp.FileStore Ls bytes).isSome by rw[hyes];rfl),acc_1 aN,hm4_m0,hS4_m0,hV4_m0,(fun r hr=>by rw[hyes]at hr;cases hr;rfl),hchk4_0,by first|omega|(simp;done)|(simp;omega)⟩
theorem i_count_r:∀(N:Nat) (w0:World) (G0:PH) (hG:PSub G0 w0) (t:Nd) (hndt:RdN G0 t) (hct:t.cnt≤100000) (hsz:t.size≤N),
  Calls Tryz.prog 251 #[.pointer (some ⟨t.b,0,none⟩)] w0 (Rets w0 (.int .i64 (t.cnt:Nat))):=by
 intro N
 induction N with
 | zero=>intro w0 G0 hG t hndt hct hsz;exact absurd (Nd.size_pos t) oM
 | succ N ih =>
 intro w0 G0 hG t hndt hct hsz
 obtain⟨_,_,_,_,_,_,_,hprt,hrit,hrkt⟩:=hndt.open
 have hn_hrit:=hrit.len;have hx_hrit:_≤1099511627776:=hrit.lim
 have hn_hrkt:=hrkt.len;have hx_hrkt:_≤1099511627776:=hrkt.lim
 subst hn_hrkt
 have H:=Hp.init hG
 refine calls_of_W (l:=[.pointer (some ⟨t.b,0,none⟩)]) func251 Z ntmps251 Z (q2 (aG Z (q1 (pe 2 Z (fA 3 Z (lP H hprt 3 Z2 (lN Z (aG Z (q3 (W_seq (q2 (pe 2 Z (fA 3 Z (lP H hprt 3 Z2 (lN Z ?_)))))))))))))))
 refine mV Z (q3 (W_block ?_))
 refine W_lp (hf:=(Sub.cons (t:=2) Z (Sub.cons (t:=14) Z (Sub.cons (t:=15) Z Sub.nil)))) (J:=fun M w m=>∃(k mm:Nat) (G:PH),M=[(16,.int .i64 (k:Int)),(3,.int .i64 (mm:Int))]∧PLe G0 G∧Hp w0 G0 [] w G []∧(k≤t.kids.length∧mm=Nd.cnts (t.kids.take k)+(t.kids.length-k))∧m=(t.kids.length-k)) (h0:=⟨0,t.kids.length,_,Z,PLe.refl _,H,?inv,Z⟩) (round:=?round)
 case inv=>simp[Nd.cnts]
 case round =>
  rintro _ _ _ ⟨k,mm,_,rfl,hle1,H,hinv1,rfl⟩
  have hrkt:=hrkt.up hle1
  obtain⟨_,hm⟩:=hinv1;have hct2:=Nd.cnts_take t.kids k;have hct3:=Nd.cnt_eq t;have hkl:=Nd.kids_le t
  refine q2 (pe 1 Z (q3 (W_seq ?_)))
  refine W_cond Z ?_ ?_
  ·intro hc2
   try simp only[nrm]at hc2
   refine W_skip (N_K (W_seq (W_block (q2 (iP k hrkt Z3 Z ?_)))));intro _ _ z3 _ hz3 hE3 hrow3
   obtain⟨rfl,hnd3⟩:=hE3;obtain⟨_,_,_,_,_,_,_,_,hri3,hrk3⟩:=hnd3.open;have hn_hri3:=hri3.len;have hx_hri3:_≤1099511627776:=hri3.lim;have hn_hrk3:=hrk3.len;have hx_hrk3:_≤1099511627776:=hrk3.lim
   have hzm:=List.mem_of_getElem? hz3;have hzc:=Nd.kid_cnt hzm;have hzs:=Nd.size_kid hzm
   refine lP H hrow3 0 Z2 (aG Z (q3 (W_region (pe 2 Z (xr H Z2 (ih _ _ H.sub _ hnd3 oM oM) ?_)))));intro _ H
   refine aD Z2 (aG Z (R_nil (N_B (N_K (W_region (aD Z2 (mV Z (R_nil ?_))))))))
   refine N_lp (hJ:=⟨k+1,(mm+z3.cnt),_,Z,hle1,H,?inv,Z⟩) (hm:=?hm)
   case hm=>omega
   case inv=>exact⟨by omega,by (rw[Nd.cnts_succ hz3];omega)⟩
  intro hc2'
  try simp only[nrm]at hc2'
  refine W_exit (N_K_exit (N_LP_exit (N_B_same (N_K (q2 (pe 2 Z (q3 (W_ret (rt1 results251 Z ?_)))))))))
  exact H.rets (congrArg (fun j:Nat=>Value.int .i64 (j:Int)) (by (rw[hm,List.take_of_length_le oM]);omega))
theorem i_count_c (w0:World)(G0:PH)(hG:PSub G0 w0)(t:Nd)(hndt:RdN G0 t)(hct:t.cnt≤100000) :
  Calls Tryz.prog 251 #[.pointer (some ⟨t.b,0,none⟩)] w0 (Rets w0 (.int .i64 (t.cnt:Nat))):=i_count_r _ w0 G0 hG t hndt hct (Nat.le_refl _)
theorem i_put_n_c (w0:World)(G0:PH)(hG:PSub G0 w0)(Ft:Fr)(t:Nd)(hNt:NdO 138 119 G0 t Ft)(cx:List Value)(x:BItem)(hx:itemE G0 x cx)(hLent:Lent w0 G0 [frag Ft])(hwt:t.wf)(hct:t.cnt≤1000) :
  Calls Tryz.prog 214 #[.pointer (some ⟨t.b,0,none⟩),.agg cx.toArray] w0 (RetM w0 G0 (fps [frag Ft]) (fun G' v Bs=>∃(nb:Nat) (F':Fr) (t':Nd),v= .bool (t.putN x nb).isSome∧Bs=[frag F']∧NdO 138 119 G' t' F'∧t'.b=t.b∧(t.putN x nb).getD t=t')):=by
 obtain⟨_,_,_,rfl,hi1,hr1,_,_⟩:=ox hx
 have H:Hp w0 G0 (fps [frag Ft]) w0 G0 [frag Ft]:=hLent.hp
 refine calls_of_W (l:=[.pointer (some ⟨t.b,0,none⟩),_]) func214 Z ntmps214 Z (q2 (o_box H Z Z Z ?_));intro _ _ hb2 H
 refine aG Z (q1 (mV Z (fA 0 Z (lB 0 H Z3 (xc Z2 (i_find_n_c _ _ (H.lendSubL [1]) _ ((H.lendN (k:=1) (ks:=[1]) Z Z hNt).at (show Nd.at_ t []=some t from Z)) _ hi1 hwt) ?_)))))
 rintro _ _ ⟨_,rfl,ew3,⟨hfi3,rfl⟩|⟨_,hfi3,rfl⟩⟩
 ·skip
  have H:=H.step ew3;refine⟨_,rfl,?_⟩
  refine aG Z (q3 (W_seq (q2 (mV Z (o_eqnil_ptr underlying119 Z Z Z (q3 (W_true Z (q2 (mV Z (xr H Z2 (i_count_c _ _ (H.lendSubL [1]) _ ((H.lendN (k:=1) (ks:=[1]) Z Z hNt).at (show Nd.at_ t []=some t from Z)) oM) ?_))))))))));intro _ H
  refine pe 2 Z ?_
  refine R_case (t:=15) Z ?_ ?_
  ·intro hc5
   try simp only[nrm]at hc5
   refine pe 1 Z (gR Z (lA 0 3 H Z4 (gR Z ?_)))
   have H:=H.tF 1
   refine xc Z2 (i_insert_c _ _ H.sub _ _ hNt _ x ⟨_,_,_,Z,hi1,hr1⟩ H.lent1 hwt hct) ?_
   rintro _ _ ⟨_,_,_,rfl,H6',⟨nb6,_,_,rfl,rfl,hN6,hb6,ht6⟩⟩
   have H:=H.borrow1 H6'
   try rw[←hb6]
   refine⟨_,Z,?_⟩
   refine pe 2 Z (q3 (W_ret (N_K_ret (rt1 results214 Z ?_))))
   have H:=H.dl 1
   have hput:=Nd.put_ins (nb:=nb6) hfi3 oM
   exact H.retM ⟨nb6,_,_,by (rw[hput];rfl),rfl,hN6,by (first|exact hb6|rfl),by (rw[hput];exact ht6)⟩
  intro hc5'
  try simp only[nrm]at hc5'
  refine pe 5 Z (q3 (W_ret (N_K_ret (rt1 results214 Z ?_))))
  have H:=H.dl 0
  have hput:=Nd.put_no1 (nb:=0) hfi3 oM
  exact H.retM ⟨0,_,_,by (rw[hput];rfl),rfl,hNt,rfl,by (rw[hput];rfl)⟩
 skip
 have H:=H.step ew3;refine⟨_,rfl,?_⟩
 refine aG Z (q3 (W_seq (q2 (mV Z (o_eqnil_ptr underlying119 Z Z Z (q3 (W_false Z (W_skip (N_K (W_seq (q2 ?_)))))))))))
 have H:=H.tF 1
 obtain⟨_,_,_,_,oFs,_,H,ohri,ohNs,_,_,hcov,hclose⟩:=Hp.openNode H hNt (Nd.find_at_ hfi3)
 obtain⟨_,_,rfl⟩:=H.accShape (k:=1) rfl;have hdo:=PLe.refl G0;have hn_ohri:=ohri.len
 refine pe 2 Z (fA 1 Z (lB 0 H Z3 (mV Z ?_)))
 refine R_case (t:=24) Z ?_ ?_
 ·intro hc7
  try simp only[nrm]at hc7
  refine pe 3 Z (q3 (W_true Z (q2 (aG Z (q3 (W_ret (N_K_ret (rt1 results214 Z ?_))))))))
  have H:=H.dl 3
  have H:=H.tF 2
  have H:=H.tF 2
  have H:=H.tF 2
  obtain⟨F2,H,hN2,hb2⟩:=hclose (Fs':=oFs) H (List.Perm.refl _) hdo ohri ohNs oM
  have hN2:=(Nd.upd_same (Nd.find_at_ hfi3))▸hN2
  have hput:=Nd.put_no2 (x:=x) (nb:=0) hfi3 (by simp_all)
  exact H.retM ⟨0,_,_,by (rw[hput];rfl),rfl,hN2,rfl,by (rw[hput];rfl)⟩
 intro hc7'
 try simp only[nrm]at hc7'
 refine gR Z (fA 1 Z (gR Z (lB 3 H Z3 (pe 1 Z (q3 ?_)))))
 refine W_cond Z ?_ ?_
 ·intro hc8
  try simp only[nrm]at hc8
  refine q2 (aG Z (q3 (W_ret (N_K_ret (rt1 results214 Z ?_)))))
  have H:=H.dl 3
  have H:=H.tF 2
  have H:=H.tF 2
  have H:=H.tF 2
  obtain⟨F2,H,hN2,hb2⟩:=hclose (Fs':=oFs) H (List.Perm.refl _) hdo ohri ohNs oM
  have hN2:=(Nd.upd_same (Nd.find_at_ hfi3))▸hN2
  have hput:=Nd.put_no2 (x:=x) (nb:=0) hfi3 (by simp_all)
  exact H.retM ⟨0,_,_,by (rw[hput];rfl),rfl,hN2,rfl,by (rw[hput];rfl)⟩
 intro hc8'
 try simp only[nrm]at hc8'
 refine W_skip (N_K (q2 (mV Z (fA 2 Z (lB 3 H Z3 (xc Z2 (l_Clone_c _ _ H.sub _ _ hr1) ?_))))))
 rintro _ _ ⟨_,_,_,g9,rfl,⟨_,rfl,hchk9⟩,hp9,hq9,hs9⟩
 have H:=H.growO g9 hp9 hq9 hs9;obtain⟨_,_,rfl⟩:=H.accShape (k:=0) rfl
 have ohNs:=ohNs.up g9.le
 have hdo:=hdo.trans g9.le
 refine⟨_,Z,?_⟩
 obtain⟨_,H,hsg10,hsr10⟩:=H.shutL (k:=0) rfl (H.apart (k:=0) (ks:=[1,2,3]) rfl rfl (by intro b hb;rcases hcov b hb with h|h|h;(· exact fpsAt_mem (k:=1) rfl rfl b (by simp[blk,h]));(· exact fpsAt_mem (k:=2) rfl rfl b h);(· exact fpsAt_mem (k:=3) rfl rfl b h))) hchk9 aN aN
 have ohNs:=ohNs.up hsg10
 have hdo:=hdo.trans hsg10
 refine pe 1 Z (fA 2 Z (xst 0 H Z8 ?_));intro _ H
 refine q1 (aG Z (q3 (W_ret (rt1 results214 Z ?_))))
 have H:=H.dl 3
 have H:=H.tF 2
 have H:=H.tF 2
 have H:=H.tF 2
 obtain⟨F2,H,hN2,hb2⟩:=hclose (ids':=x.ids) (Fs':=oFs) H (List.Perm.refl _) hdo hsr10 ohNs oM
 have hput:=Nd.put_set (nb:=0) hfi3 (by simp_all)
 exact H.retM ⟨0,_,_,by (rw[hput];rfl),rfl,hN2,hb2,by (rw[hput];rfl)⟩
theorem i_drop_n_c (w0:World)(G0:PH)(hG:PSub G0 w0)(Ft:Fr)(t:Nd)(hNt:NdO 138 119 G0 t Ft)(path:Bs)(hpath:path.length≤16777216)(hLent:Lent w0 G0 [frag Ft])(hwt:t.wf)(hct:t.cnt≤1000) :
  Calls Tryz.prog 254 #[.pointer (some ⟨t.b,0,none⟩),str path] w0 (RetM w0 G0 (fps [frag Ft]) (fun G' v Bs=>∃(F' Fk:Fr) (t':Nd),v= .bool (t.dropN path).isSome∧Bs=[frag F',frag Fk]∧NdO 138 119 G' t' F'∧t'.b=t.b∧(t.dropN path).getD t=t'∧((t.dropN path).isSome=true→∃k,t.find path=some k∧NdO 138 119 G' k Fk))):=by
 have H:Hp w0 G0 (fps [frag Ft]) w0 G0 [frag Ft]:=hLent.hp
 refine calls_of_W (l:=[.pointer (some ⟨t.b,0,none⟩),str path]) func254 Z ntmps254 Z (q2 (aG Z (q1 (pe 2 Z (xc Z2 (i_dirOf_c _ _ (H.lendSubL [0]) _ ((H.lendN (k:=0) (ks:=[0]) Z Z hNt).at (show Nd.at_ t []=some t from Z)) _ hpath hwt) ?_)))))
 rintro _ _ ⟨_,rfl,ew1,⟨hdf1,rfl⟩|⟨d1,nm1,hdf1,rfl⟩⟩
 ·skip
  have H:=H.step ew1;refine⟨_,rfl,?_⟩
  refine pe 5 Z (q3 (W_seq (q2 (mV Z (o_eqnil_ptr underlying119 Z Z Z (q3 (W_true Z (q2 (aG Z (q3 (W_ret (N_K_ret (rt1 results254 Z ?_)))))))))))))
  have hdr:=Nd.drop_no1 hdf1
  have H:=(H.addF).swap0
  exact H.retM ⟨_,[],_,by (rw[hdr];rfl),rfl,hNt,rfl,by (rw[hdr];rfl),fun h=>by rw[hdr]at h;cases h⟩
 skip
 have H:=H.step ew1;refine⟨_,rfl,?_⟩
 have hnml1:=Nd.dir_len hdf1
 refine pe 5 Z (q3 (W_seq (q2 (mV Z (o_eqnil_ptr underlying119 Z Z Z (q3 (W_false Z (W_skip (N_K (q2 (pe 2 Z (xr H Z2 (i_place_c _ _ (H.lendSubL [0]) _ ((H.lendN (k:=0) (ks:=[0]) Z Z hNt).at (Nd.dirOf_some hdf1).2.2.1) _ hnml1 (Nd.dir_wf hwt hdf1)) ?_))))))))))));intro _ H
 refine pe 5 Z (q3 (W_seq (q2 (pe 3 Z ?_))))
 refine R_case (t:=25) Z ?_ ?_
 ·intro hc3
  try simp only[nrm]at hc3
  refine pe 13 Z (q3 (W_true Z (q2 (aG Z (q3 (W_ret (N_K_ret (rt1 results254 Z ?_))))))))
  have hdr:=Nd.drop_no2 hdf1 (by simpa using hc3)
  have H:=(H.addF).swap0
  exact H.retM ⟨_,[],_,by (rw[hdr];rfl),rfl,hNt,rfl,by (rw[hdr];rfl),fun h=>by rw[hdr]at h;cases h⟩
 intro hc3'
 try simp only[nrm]at hc3'
 obtain⟨_,_,_,_,oFs,oR,H,ohri,ohNs,_,_,_,hclose⟩:=Hp.openNode H hNt (Nd.dirOf_some hdf1).2.2.1
 obtain⟨_,_,rfl⟩:=H.accShape (k:=1) rfl;have hdo:=PLe.refl G0;have hn_ohri:=ohri.len
 obtain⟨kk,hq⟩:=Option.isSome_iff_exists.1 hc3'
 have hpl:d1.kids[Sp.pl d1.kids nm1]? = some kk:=Nd.place_some (Nd.dir_wf hwt hdf1) hq
 have hplt:=(List.getElem?_eq_some_iff.1 hpl).1;have hcd:=Nd.at_cnt (Nd.dirOf_some hdf1).2.2.1;have hcl:=Nd.kids_le d1
 have H:=H.tF 2
 obtain⟨_,_,_,_,_,kFk,kF,H,khri,khN,khNs,khp⟩:=Hp.openKid H ohNs hpl
 have hn_khri:=khri.len
 refine pe 2 Z (gR Z (fA 3 Z (gR Z (lB 2 H Z3 (pe 1 Z (gR Z (o_index_A 3 H (Sp.pl d1.kids nm1) Z (chkK _) underlying136 sizeOf119 Z Z Z Z aN aN ?_)))))));intro _ _ _ hba4 hz4 hE4 hg4;cases hba4
 obtain rfl:=hE4
 refine gR Z (o_load_A 3 H isAgg119 Z Z Z (hg4 0 _ Z) ?_)
 have hzk:=Option.some.inj (hz4.symm.trans hpl);subst hzk
 refine pe 1 Z (gR Z (fA 3 Z (gR Z (lB 0 H Z3 (gR Z (lN Z (pe 2 Z (q3 ?_))))))))
 refine W_cond Z ?_ ?_
 ·intro hc5
  try simp only[nrm]at hc5
  refine q2 (aG Z (q3 (W_ret (N_K_ret (rt1 results254 Z ?_)))))
  have H:=H.tF 3
  have H:=H.tF 3
  have H:=H.tF 3
  have H:=H.tF 3
  have H:=H.inF
  have H:=H.tF 2
  have H:=H.tF 2
  obtain⟨F2,H,hN2,hb2⟩:=hclose (Fs':=oFs) H (by simpa using List.Perm.append_right oR khp.symm) hdo ohri ohNs oM
  have hN2:=(Nd.upd_same (Nd.dirOf_some hdf1).2.2.1)▸hN2
  have hdr:=Nd.drop_no3 hdf1 hq (by first|omega|(simp_all;done)|(simp_all;omega))
  have H:=(H.addF).swap0
  exact H.retM ⟨_,[],_,by (rw[hdr];rfl),rfl,hN2,rfl,by (rw[hdr];rfl),fun h=>by rw[hdr]at h;cases h⟩
 intro hc5'
 try simp only[nrm]at hc5'
 refine W_skip (N_K (q2 (pe 3 Z (fA 3 Z (lB 2 H Z3 (pe 2 Z (aD Z2 ?_)))))))
 have H:=H.tF 3
 refine xc Z2 (l_Delete_c _ _ H.sub _ _ (Sp.pl d1.kids nm1) oM oM H.lent1) ?_
 rintro _ _ ⟨_,_,_,rfl,H7',⟨_,rfl,rfl⟩⟩
 have ohri:=ohri.up H7'.le
 have khN:=khN.up H7'.le
 have khNs:=khNs.up H7'.le
 have hdo:=hdo.trans H7'.le
 have H:=H.borrow1 H7'
 obtain⟨_,_,rfl⟩:=H.accShape (k:=0) rfl
 refine⟨_,Z,?_⟩
 refine pe 1 Z (fA 3 Z (xst 3 H Z8 ?_));intro _ H
 refine q1 (aG Z (q3 (W_ret (rt1 results254 Z ?_))))
 have H:=H.tF 3
 have H:=H.tF 3
 have H:=H.tF 3
 have H:=H.inF
 have H:=Hp.splitF (F:=(_,_)::kFk) (F':=kF++oR) H
 have H:=H.tF 1
 have H:=H.tF 3
 have H:=H.tF 3
 have hkl:(d1.kids.take (Sp.pl d1.kids nm1)++d1.kids.drop (Sp.pl d1.kids nm1+1)).length=d1.kids.length-1:=by (simp;omega)
 obtain⟨F2,H,hN2,hb2⟩:=hclose (kids':=(d1.kids.take (Sp.pl d1.kids nm1)++d1.kids.drop (Sp.pl d1.kids nm1+1))) (Fs':=kF) (by (rw[hkl];exact H)) (List.Perm.refl _) hdo ohri khNs oM
 have hdr:=Nd.drop_yes hdf1 hq (by first|omega|(simp_all;done)|(simp_all;omega))
 exact H.retM ⟨_,_,_,by (rw[hdr];rfl),rfl,hN2,hb2,by (rw[hdr];rfl),fun _=>⟨_,by (rw[Nd.find_yes hdf1,Nd.at_one];exact hq),khN⟩⟩
theorem i_vwrite_c (w0:World)(G0:PH)(hG:PSub G0 w0)(mb:Nat)(es:Array MapEntry)(ck:Nat)(xs:List (Int×Value))(T:Nd)(FT:Fr)(L:List BHeld)(l:List BItem)(hm:MapIs (Value.int .i64) es ck xs)(hS:StR G0 xs L)(hN:NdO 138 119 G0 T FT)(hT:Nd.TOK T l)(hH:Sp.Hol L l)(path:Bs)(hpath:path.length≤16777216)(vbytes:Value)(bytes:List (Int))(hbytes:RdI G0 vbytes bytes)(hLent:Lent w0 G0 [blk mb (.map es ck),frag FT])(hB:Sp.FileValid bytes=true) :
  Calls Tryz.prog 164 #[.agg #[.map (some mb),.pointer (some ⟨T.b,0,none⟩)],str path,vbytes] w0 (RetM w0 G0 (fps [blk mb (.map es ck),frag FT]) (fun G' v Bs=>∃(es':Array MapEntry) (ck':Nat) (xs':List (Int×Value)) (F':Fr) (T':Nd) (L':List BHeld),v= .bool ((Sp.l11Write ⟨L,l⟩ path bytes)).isSome∧Bs=[blk mb (.map es' ck'),frag F']∧MapIs (Value.int .i64) es' ck' xs'∧StR G' xs' L'∧Sp.VH L'∧NdO 138 119 G' T' F'∧T'.b=T.b∧∀u',(Sp.l11Write ⟨L,l⟩ path bytes)=some u'→L'=u'.store∧Nd.TOK T' u'.tree∧Sp.Hol u'.store u'.tree)):=by
 obtain⟨abytes,kbytes,rfl⟩:=hbytes.shape
 have hlimbytes:bytes.length≤1099511627776:=hbytes.lim
 have H:Hp w0 G0 (fps [blk mb (.map es ck),frag FT]) w0 G0 [blk mb (.map es ck),frag FT]:=hLent.hp
 have hVd:=hH.vh;have hTc:=hT.cnt;have hTl:=hH.vt.len
 refine calls_of_W (l:=[_,str path,.slice abytes bytes.length kbytes]) func164 Z ntmps164 Z (q2 (o_box H Z Z Z ?_));intro _ _ _ H
 refine aG Z (q3 (W_seq (q2 (mV Z (xr H Z2 (i_PathValid_c _ _ H.sub _ hpath) ?_)))));intro _ H
 refine pe 1 Z (q3 ?_)
 refine W_cond Z ?_ ?_
 ·intro hc3
  try simp only[nrm]at hc3
  refine q2 (aG Z (q3 (W_ret (N_K_ret (rt1 results164 Z ?_)))))
  have H:=H.dl 0
  have H:=H.tF 1
  have H:=H.tF 1
  have hno:Sp.l11Write ⟨L,l⟩ path bytes=none:=Sp.write_nop (by simpa using hc3)
  exact H.retM ⟨_,_,_,_,_,_,congrArg Value.bool (by (rw[hno];rfl)),rfl,hm,hS,hVd,hN,rfl,fun u' h=>(by rw[hno]at h;cases h)⟩
 intro hc3'
 try simp only[nrm]at hc3'
 refine W_skip (N_K (q2 (fA 0 Z (lB 0 H Z3 (mV Z ?_)))))
 have H:=H.tF 1
 refine xc Z2 (i_storeFile_c _ _ H.sub _ _ _ _ _ hm hS hVd _ _ hbytes H.lent1 hB) ?_
 rintro _ _ ⟨_,_,_,rfl,H4',⟨_,_,_,L4,_,_,ids4,rfl,rfl,hm4,hS4,hV4,hL4,hchk4,_⟩⟩
 have hN:=hN.up H4'.le
 have H:=H.borrow1 H4'
 obtain⟨_,_,rfl⟩:=H.accShape (k:=0) rfl
 refine⟨_,Z,?_⟩
 refine pe 5 Z (q3 (W_seq (q2 (pe 2 Z (q3 ?_)))))
 refine W_cond Z ?_ ?_
 ·intro hc5
  try simp only[nrm]at hc5
  refine q2 (aG Z (q3 (W_ret (N_K_ret (rt1 results164 Z ?_)))))
  have H:=H.dl 0
  have H:=H.dl 1
  have H:=H.tF 1
  have H:=H.tF 1
  have hno:Sp.l11Write ⟨L,l⟩ path bytes=none:=Sp.l11Write_1 (v:=⟨L,l⟩) (by simpa using hc5)
  exact H.retM ⟨_,_,_,_,_,_,congrArg Value.bool (by (rw[hno];rfl)),rfl,hm4,hS4,hV4,hN,rfl,fun u' h=>(by rw[hno]at h;cases h)⟩
 intro hc5'
 try simp only[nrm]at hc5'
 refine W_skip (N_K (q2 ?_))
 obtain⟨G6,H,hsg6,hsr6⟩:=H.shutL (k:=0) rfl (H.apart (k:=0) (ks:=[1,3]) rfl rfl (by intro b hb;simp only[fps,List.flatMap_cons,List.flatMap_nil,List.append_nil,List.mem_append]at hb;rcases hb with h|h;(· exact fpsAt_mem (k:=1) rfl rfl b (by exact h));(· exact fpsAt_mem (k:=3) rfl rfl b (by exact h)))) hchk4 aN aN
 have hN:=hN.up hsg6
 have hS4:=hS4.up hsg6
 refine aG Z (q3 (W_seq (q2 (fA 1 Z (lB 1 H Z3 (mV Z (xc Z2 (i_find_n_c _ _ (H.lendSubL [2]) _ ((H.lendN (k:=2) (ks:=[2]) Z Z hN).at (show Nd.at_ T []=some T from Z)) _ hpath hT.wf) ?_)))))))
 rintro _ _ ⟨_,rfl,ew7,⟨hfi7,rfl⟩|⟨d7,hfi7,rfl⟩⟩
 ·skip
  have H:=H.step ew7;refine⟨_,rfl,?_⟩
  refine aG Z (q1 (mV Z (o_nenil_ptr underlying119 Z Z Z (q3 (W_false Z (W_skip (N_K (q2 (fA 1 Z (lB 1 H Z3 (pe 2 Z (o_build bf35 Z Z Z ?_))))))))))))
  have H:=H.tF 2
  refine xc Z2 (i_put_n_c _ _ H.sub _ _ hN _ ⟨path,false,ids4⟩ ⟨_,_,_,Z,hpath,hsr6⟩ H.lent1 hT.wf oM) ?_
  rintro _ _ ⟨_,_,_,rfl,H8',⟨nb8,_,t8,rfl,rfl,hN8,hb8,ht8⟩⟩
  have hS4:=hS4.up H8'.le
  have H:=H.borrow1 H8'
  try rw[←hb8]
  refine⟨_,Z,?_⟩
  refine mV Z ?_
  refine R_case (t:=39) Z ?_ ?_
  ·intro hc9
   try simp only[nrm]at hc9
   refine gR Z (fA 0 Z (gR Z (lB 2 H Z3 (pe 1 Z (gR Z ?_)))))
   have H:=H.tF 1
   refine xc Z2 (i_freeFile_c _ _ H.sub _ _ _ _ _ hm4 hS4 hV4 _ _ (RdS.nil _ _ _) H.lent1) ?_
   rintro _ _ ⟨_,_,_,rfl,H10',⟨_,_,_,_,rfl,rfl,hm10,hS10,hV10,hL10⟩⟩
   have hN8:=hN8.up H10'.le
   have H:=H.borrow1 H10'
   refine⟨_,Z,?_⟩
   refine pe 2 Z (q3 (W_ret (rt1 results164 Z ?_)))
   have H:=H.dl 2
   have H:=H.tF 1
   have H:=H.tF 1
   obtain⟨r,hr⟩:=Option.isSome_iff_exists.1 (show(Sp.FileStore L bytes).isSome=true by simpa using hc5')
   have hst:Sp.FileStore L bytes=some (L4,ids4):=hr.trans (congrArg some (hL4 r hr))
   have hpt:T.putN ⟨path,false,ids4⟩ nb8=some t8:=by (obtain⟨q,hq⟩:=Option.isSome_iff_exists.1 (show(T.putN ⟨path,false,ids4⟩ nb8).isSome=true by simpa using hc9);(rw[←ht8,hq];rfl))
   obtain⟨s',tt,g1,g2,g3,g4⟩:=Sp.write_fin hH hT (show Sp.PathValid path=true by simpa using hc3') hst hpt (.inl ⟨hfi7,rfl⟩)
   exact H.retM ⟨_,_,_,_,_,_,congrArg Value.bool (by (rw[g1,g2];rfl)),rfl,hm10,hS10,hV10,hN8,(by first|rfl|exact hb8),fun u' h=>(by rw[g2]at h;cases h;exact⟨hL10 _ g1,g3,g4⟩)⟩
  intro hc9'
  try simp only[nrm]at hc9'
  refine pe 6 Z (q3 (W_ret (rt1 results164 Z ?_)))
  have H:=H.dl 2
  have H:=H.tF 1
  obtain⟨r,hr⟩:=Option.isSome_iff_exists.1 (show(Sp.FileStore L bytes).isSome=true by simpa using hc5')
  have hst:Sp.FileStore L bytes=some (L4,ids4):=hr.trans (congrArg some (hL4 r hr))
  have hno:Sp.l11Write ⟨L,l⟩ path bytes=none:=Sp.write_no2 (nb:=nb8) hH hT (show Sp.PathValid path=true by simpa using hc3') hst (by simpa using hc9')
  exact H.retM ⟨_,_,_,_,_,_,congrArg Value.bool (by (rw[hno];rfl)),rfl,hm4,hS4,hV4,hN8,(by first|rfl|exact hb8),fun u' h=>(by rw[hno]at h;cases h)⟩
 skip
 have H:=H.step ew7;refine⟨_,rfl,?_⟩
 refine aG Z (q1 (mV Z (o_nenil_ptr underlying119 Z Z Z (q3 (W_true Z (W_region ?_))))))
 have H:=H.tF 2
 obtain⟨_,_,_,_,oFs,_,H,ohri,ohNs,_,_,_,hclose⟩:=Hp.openNode H hN (Nd.find_at_ hfi7)
 obtain⟨_,_,rfl⟩:=H.accShape (k:=1) rfl;have hdo:=PLe.refl G6;have hn_ohri:=ohri.len
 refine pe 2 Z (fA 2 Z (lB 0 H Z3 (aG Z (q1 ?_))))
 have H:=H.tF 4
 have H:=H.tF 4
 have H:=H.tF 4
 have H:=H.tF 4
 have H:=H.tF 4
 obtain⟨_,H,hN2,_⟩:=hclose (Fs':=oFs) H (List.Perm.refl _) hdo ohri ohNs oM
 have hN2:=(Nd.upd_same (Nd.find_at_ hfi7))▸hN2
 refine fA 1 Z (lB 2 H Z3 (pe 2 Z (o_build bf35 Z Z Z (xc Z2 (i_put_n_c _ _ H.sub _ _ hN2 _ ⟨path,false,ids4⟩ ⟨_,_,_,Z,hpath,hsr6⟩ H.lent1 hT.wf oM) ?_))))
 rintro _ _ ⟨_,_,_,rfl,H11',⟨nb11,_,t11,rfl,rfl,hN11,hb11,ht11⟩⟩
 have hS4:=hS4.up H11'.le
 have ohri:=ohri.up H11'.le
 have H:=H.borrow1 H11'
 try rw[←hb11]
 refine⟨_,Z,?_⟩
 refine mV Z ?_
 refine R_case (t:=39) Z ?_ ?_
 ·intro hc12
  try simp only[nrm]at hc12
  refine gR Z (fA 0 Z (gR Z (lB 2 H Z3 (pe 1 Z (gR Z ?_)))))
  have H:=H.tF 1
  refine xc Z2 (i_freeFile_c _ _ H.sub _ _ _ _ _ hm4 hS4 hV4 _ _ ohri H.lent1) ?_
  rintro _ _ ⟨_,_,_,rfl,H13',⟨_,_,_,_,rfl,rfl,hm13,hS13,hV13,hL13⟩⟩
  have hN11:=hN11.up H13'.le
  have H:=H.borrow1 H13'
  refine⟨_,Z,?_⟩
  refine pe 2 Z (q3 (W_ret (rt1 results164 Z ?_)))
  have H:=H.dl 2
  have H:=H.tF 1
  have H:=H.tF 1
  obtain⟨r,hr⟩:=Option.isSome_iff_exists.1 (show(Sp.FileStore L bytes).isSome=true by simpa using hc5')
  have hst:Sp.FileStore L bytes=some (L4,ids4):=hr.trans (congrArg some (hL4 r hr))
  have hpt:T.putN ⟨path,false,ids4⟩ nb11=some t11:=by (obtain⟨q,hq⟩:=Option.isSome_iff_exists.1 (show(T.putN ⟨path,false,ids4⟩ nb11).isSome=true by simpa using hc12);(rw[←ht11,hq];rfl))
  obtain⟨s',tt,g1,g2,g3,g4⟩:=Sp.write_fin hH hT (show Sp.PathValid path=true by simpa using hc3') hst hpt (.inr ⟨d7,hfi7,rfl⟩)
  exact H.retM ⟨_,_,_,_,_,_,congrArg Value.bool (by (rw[g1,g2];rfl)),rfl,hm13,hS13,hV13,hN11,(by first|rfl|exact hb11),fun u' h=>(by rw[g2]at h;cases h;exact⟨hL13 _ g1,g3,g4⟩)⟩
 intro hc12'
 try simp only[nrm]at hc12'
 refine pe 6 Z (q3 (W_ret (rt1 results164 Z ?_)))
 have H:=H.dl 2
 have H:=H.tF 1
 obtain⟨r,hr⟩:=Option.isSome_iff_exists.1 (show(Sp.FileStore L bytes).isSome=true by simpa using hc5')
 have hst:Sp.FileStore L bytes=some (L4,ids4):=hr.trans (congrArg some (hL4 r hr))
 have hno:Sp.l11Write ⟨L,l⟩ path bytes=none:=Sp.write_no2 (nb:=nb11) hH hT (show Sp.PathValid path=true by simpa using hc3') hst (by simpa using hc12')
 exact H.retM ⟨_,_,_,_,_,_,congrArg Value.bool (by (rw[hno];rfl)),rfl,hm4,hS4,hV4,hN11,(by first|rfl|exact hb11),fun u' h=>(by rw[hno]at h;cases h)⟩
theorem i_dwrite_c (w0:World)(G0:PH)(hG:PSub G0 w0)(db mb:Nat)(es:Array MapEntry)(ck:Nat)(xs:List (Int×Value))(T:Nd)(FT:Fr)(sv:Value)(sn:List (Bs×Nd))(c:List Value)(FSq:Fr)(d:BDisk)(hm:MapIs (Value.int .i64) es ck xs)(hS:StR G0 xs d.store)(hN:NdO 138 119 G0 T FT)(hT:Nd.TOK T d.tree)(hchk:Chk osE 2 G0 c sn)(hNs:NdsO 138 119 G0 (sn.map (·.2)) FSq)(hSn:SnOK sn d.snaps)(hdv:Sp.DiskValid d=true)(path:Bs)(hpath:path.length≤16777216)(vbytes:Value)(bytes:List (Int))(hbytes:RdI G0 vbytes bytes)(hLent:Lent w0 G0 [blk db (cl [.int .i32 0,.int .u32 0,.map (some mb),.pointer (some ⟨T.b,0,none⟩),sv] 133),blk mb (.map es ck),frag FT,acc 199 2 sv sn.length c,frag FSq]) :
  Calls Tryz.prog 86 #[.pointer (some ⟨db,0,none⟩),str path,vbytes] w0 (RetM w0 G0 (fps [blk db (cl [.int .i32 0,.int .u32 0,.map (some mb),.pointer (some ⟨T.b,0,none⟩),sv] 133),blk mb (.map es ck),frag FT,acc 199 2 sv sn.length c,frag FSq]) (fun G' v Bs=>∃(es':Array MapEntry) (ck':Nat) (xs':List (Int×Value)) (F':Fr) (T':Nd) (sv':Value) (sn':List (Fw.Bs×Nd)) (c':List Value) (FSq':Fr) (L':List BHeld),v= .bool (Sp.DiskWrite d path bytes).isSome∧Bs=[blk db (cl [.int .i32 0,.int .u32 0,.map (some mb),.pointer (some ⟨T'.b,0,none⟩),sv'] 133),blk mb (.map es' ck'),frag F',acc 199 2 sv' sn'.length c',frag FSq']∧MapIs (Value.int .i64) es' ck' xs'∧StR G' xs' L'∧Sp.VH L'∧NdO 138 119 G' T' F'∧Chk osE 2 G' c' sn'∧NdsO 138 119 G' (sn'.map (·.2)) FSq'∧∀d',Sp.DiskWrite d path bytes=some d'→L'=d'.store∧Nd.TOK T' d'.tree∧SnOK sn' d'.snaps)):=by
 obtain⟨abytes,kbytes,rfl⟩:=hbytes.shape
 have hlimbytes:bytes.length≤1099511627776:=hbytes.lim
 have H:Hp w0 G0 (fps [blk db (cl [.int .i32 0,.int .u32 0,.map (some mb),.pointer (some ⟨T.b,0,none⟩),sv] 133),blk mb (.map es ck),frag FT,acc 199 2 sv sn.length c,frag FSq]) w0 G0 [blk db (cl [.int .i32 0,.int .u32 0,.map (some mb),.pointer (some ⟨T.b,0,none⟩),sv] 133),blk mb (.map es ck),frag FT,acc 199 2 sv sn.length c,frag FSq]:=hLent.hp
 obtain⟨_,_,rfl⟩:=H.accShape (k:=3) rfl;have hVd:=Sp.valid_iff.1 (Sp.dv_parts.1 hdv).1;have hTv:=(Sp.dv_parts.1 hdv).2.1;have hTc:=hT.cnt;have hTl:=Sp.tree_len hTv;have hsnl:=hSn.len;have hsn6:=(Sp.dv_parts.1 hdv).2.2.1
 have hHd:=Sp.DHol.hol (ts:=d.snaps.map (·.tree)) (Sp.dd_iff.1 hdv).2
 refine calls_of_WD (l:=[.pointer (some ⟨db,0,none⟩),str path,.slice abytes bytes.length kbytes]) func86 Z ntmps86 Z (q2 (aG Z (q1 (pe 2 Z (fA 0 Z (o_lock 0 H muLib Z call140 Z Z Z Z ?_))))));intro _ H
 refine q1 (pe 2 Z (fA 0 Z (o_defer Z (q1 (mV Z (xr H Z2 (i_FileValid_c _ _ H.sub _ _ hbytes) ?_))))));intro _ H
 refine mV Z ?_
 refine R_case (t:=16) Z ?_ ?_
 ·intro hc3
  try simp only[nrm]at hc3
  refine pe 2 Z (gR Z (fA 2 Z (gR Z (lA 0 2 H Z4 (pe 2 Z (gR Z ?_))))))
  have H:=H.tF 2
  have H:=H.tF 2
  refine xc Z2 (i_vwrite_c _ _ H.sub _ _ _ _ _ _ _ _ hm hS hN hT hHd _ hpath _ _ hbytes H.lent2 (by assumption)) ?_
  rintro _ _ ⟨_,_,_,rfl,H4',⟨_,_,_,_,T4,L4,rfl,rfl,hm4,hS4,hV4,hN4,hb4,hu4⟩⟩
  have hchk:=hchk.up H4'.le
  have hNs:=hNs.up H4'.le
  have H:=H.borrow2 H4'
  try rw[←hb4]
  try rw[←hb4]at H
  refine⟨_,Z,?_⟩
  refine pe 2 Z (q3 (W_ret (ret_unlock 2 H muLib Z call141 Z Z (rs:=[.tmp 6]) results86 ?_)));intro _ H
  refine⟨[_],⟨Z,trivial⟩,?_⟩
  have H:=H.tF 4
  have H:=H.tF 4
  have H:=H.tF 3
  have H:=H.tF 3
  have H:=H.tF 4
  exact H.retM ⟨_,_,_,_,T4,_,sn,_,_,L4,congrArg Value.bool (by simp[Sp.DiskWrite,hdv,hc3]),rfl,hm4,hS4,hV4,hN4,hchk,hNs,fun d2 h=>(by obtain⟨_,_,v2,h1,rfl⟩:=Sp.dwrite_get h;obtain⟨g1,g2,_⟩:=hu4 v2 h1;exact⟨g1,g2,hSn⟩)⟩
 intro hc3'
 try simp only[nrm]at hc3'
 refine pe 9 Z (q3 (W_ret (ret_unlock 0 H muLib Z call141 Z Z (rs:=[.tmp 6]) results86 ?_)));intro _ H
 refine⟨[_],⟨Z,trivial⟩,?_⟩
 have H:=H.tF 4
 have H:=H.tF 4
 have H:=H.tF 4
 have H:=H.tF 4
 have H:=H.tF 4
 have hno:Sp.DiskWrite d path bytes=none:=by simp[Sp.DiskWrite,hc3']
 exact H.retM ⟨_,_,_,_,T,_,sn,_,_,d.store,congrArg Value.bool (by (rw[hno];rfl)),rfl,hm,hS,hVd,hN,hchk,hNs,fun d2 h=>(by rw[hno]at h;cases h)⟩
theorem i_vdir_c (w0:World)(G0:PH)(hG:PSub G0 w0)(mb:Nat)(es:Array MapEntry)(ck:Nat)(xs:List (Int×Value))(T:Nd)(FT:Fr)(L:List BHeld)(l:List BItem)(hm:MapIs (Value.int .i64) es ck xs)(hS:StR G0 xs L)(hN:NdO 138 119 G0 T FT)(hT:Nd.TOK T l)(hH:Sp.Hol L l)(path:Bs)(hpath:path.length≤16777216)(hLent:Lent w0 G0 [blk mb (.map es ck),frag FT]) :
    Calls Tryz.prog 218 #[.agg #[.map (some mb),.pointer (some ⟨T.b,0,none⟩)],str path] w0 (RetM w0 G0 (fps [blk mb (.map es ck),frag FT]) (fun G' v Bs=>∃(es':Array MapEntry) (ck':Nat) (xs':List (Int×Value)) (F':Fr) (T':Nd) (L':List BHeld),v= .bool ((Sp.l11Dir L l path)).isSome∧Bs=[blk mb (.map es' ck'),frag F']∧MapIs (Value.int .i64) es' ck' xs'∧StR G' xs' L'∧Sp.VH L'∧NdO 138 119 G' T' F'∧T'.b=T.b∧∀u',(Sp.l11Dir L l path)=some u'→L'=u'.store∧Nd.TOK T' u'.tree∧Sp.Hol u'.store u'.tree)):=by
  have H:Hp w0 G0 (fps [blk mb (.map es ck),frag FT]) w0 G0 [blk mb (.map es ck),frag FT]:=hLent.hp
  have hVd:=hH.vh;have hTc:=hT.cnt;have hTl:=hH.vt.len
  refine calls_of_W (l:=[_,str path]) func218 Z ntmps218 Z (q2 (o_box H Z Z Z ?_));intro _ _ _ H
  refine aG Z (q1 (mV Z (xr H Z2 (i_PathValid_c _ _ H.sub _ hpath) ?_)));intro _ H
  refine mV Z ?_
  refine R_case (t:=7) Z ?_ ?_
  · intro hc3
    try simp only[nrm]at hc3
    refine gR Z (fA 1 Z (gR Z (lB 0 H Z3 (pe 1 Z (gR Z (o_build bf35 Z Z Z (gR Z ?_)))))))
    have H:=H.tF 2
    refine xc Z2 (i_put_n_c _ _ H.sub _ _ hN _ ⟨path,true,[]⟩ ⟨_,_,_,Z,hpath,(RdS.nil _ _ _)⟩ H.lent1 hT.wf oM) ?_
    rintro _ _ ⟨_,_,_,rfl,H4',⟨nb4,_,t4,rfl,rfl,hN4,hb4,ht4⟩⟩
    have hS:=hS.up H4'.le
    have H:=H.borrow1 H4'
    try rw[←hb4]
    refine⟨_,Z,?_⟩
    refine pe 2 Z (q3 (W_ret (rt1 results218 Z ?_)))
    have H:=H.dl 1
    have H:=H.tF 1
    have hpv:Sp.PathValid path=true:=by simpa using hc3
    cases hpt:T.putN ⟨path,true,[]⟩ nb4 with
    | none => have hno : Sp.l11Dir L l path = none := by (unfold Sp.l11Dir; (rw [Sp.dir_no2 (nb := nb4) hT hpv (by (rw [hpt]; rfl))]; rfl))
              exact H.retM ⟨_,_,_,_,_,_,congrArg Value.bool (by (rw[hno];rfl)),rfl,hm,hS,hVd,hN4,(by first|rfl|exact hb4),fun u' h=>(by rw[hno]at h;cases h)⟩
    | some T2 => obtain ⟨tt, g1, g3, g4⟩ := Sp.dir_fin hH hT hpv hpt
                 have g2:Sp.l11Dir L l path=some ⟨L,tt⟩:=by (unfold Sp.l11Dir;(rw[g1];rfl))
                 have hT2:t4=T2:=by (rw[←ht4,hpt];rfl)
                 exact H.retM ⟨_,_,_,_,_,_,congrArg Value.bool (by (rw[g2];rfl)),rfl,hm,hS,hVd,hN4,(by first|rfl|exact hb4),fun u' h=>(by rw[g2]at h;cases h;exact⟨rfl,hT2▸g3,g4⟩)⟩
  intro hc3'
  try simp only[nrm]at hc3'
  refine pe 7 Z (q3 (W_ret (rt1 results218 Z ?_)))
  have H:=H.dl 0
  have H:=H.tF 1
  have H:=H.tF 1
  have hno:Sp.l11Dir L l path=none:=by (unfold Sp.l11Dir;(rw[Sp.dir_nop (by simpa using hc3')];rfl))
  exact H.retM ⟨_,_,_,_,_,_,congrArg Value.bool (by (rw[hno];rfl)),rfl,hm,hS,hVd,hN,rfl,fun u' h=>(by rw[hno]at h;cases h)⟩
theorem i_vremove_c (w0:World)(G0:PH)(hG:PSub G0 w0)(mb:Nat)(es:Array MapEntry)(ck:Nat)(xs:List (Int×Value))(T:Nd)(FT:Fr)(L:List BHeld)(l:List BItem)(hm:MapIs (Value.int .i64) es ck xs)(hS:StR G0 xs L)(hN:NdO 138 119 G0 T FT)(hT:Nd.TOK T l)(hH:Sp.Hol L l)(path:Bs)(hpath:path.length≤16777216)(hLent:Lent w0 G0 [blk mb (.map es ck),frag FT]) :
  Calls Tryz.prog 219 #[.agg #[.map (some mb),.pointer (some ⟨T.b,0,none⟩)],str path] w0 (RetM w0 G0 (fps [blk mb (.map es ck),frag FT]) (fun G' v Bs=>∃(es':Array MapEntry) (ck':Nat) (xs':List (Int×Value)) (F':Fr) (T':Nd) (L':List BHeld),v= .bool ((Sp.l11Drop L l path)).isSome∧Bs=[blk mb (.map es' ck'),frag F']∧MapIs (Value.int .i64) es' ck' xs'∧StR G' xs' L'∧Sp.VH L'∧NdO 138 119 G' T' F'∧T'.b=T.b∧∀u',(Sp.l11Drop L l path)=some u'→L'=u'.store∧Nd.TOK T' u'.tree∧Sp.Hol u'.store u'.tree)):=by
 have H:Hp w0 G0 (fps [blk mb (.map es ck),frag FT]) w0 G0 [blk mb (.map es ck),frag FT]:=hLent.hp
 have hVd:=hH.vh;have hTc:=hT.cnt;have hTl:=hH.vt.len
 refine calls_of_W (l:=[_,str path]) func219 Z ntmps219 Z (q2 (o_box H Z Z Z ?_));intro _ _ _ H
 refine aG Z (q1 (fA 1 Z (lB 0 H Z3 (mV Z (xc Z2 (i_find_n_c _ _ (H.lendSubL [2]) _ ((H.lendN (k:=2) (ks:=[2]) Z Z hN).at (show Nd.at_ T []=some T from Z)) _ hpath hT.wf) ?_)))))
 rintro _ _ ⟨_,rfl,ew2,⟨hfi2,rfl⟩|⟨d2,hfi2,rfl⟩⟩
 ·skip
  have H:=H.step ew2;refine⟨_,rfl,?_⟩
  refine aG Z (q3 (W_seq (W_drawK [0] 18 H kR Z ?_)));intro _ H;have hd3:=PLe.refl G0
  refine dE 0 Z2 (RD_t 1 Z kR Z (fun _ hK=>v_nenil_ptr underlying119 Z Z) (dE 2 Z2 (dE 3 Z2 (dE 4 Z2 (dE 5 Z2 (dE 6 Z2 (dE 7 Z2 (dE 8 Z2 (dE 9 Z2 (dE 10 Z2 (dE 11 Z2 (dE 12 Z2 (dE 13 Z2 (dE 14 Z2 (dE 15 Z2 ?_)))))))))))))))
  refine dE 16 Z2 (dE 17 Z2 (rz (N_K (W_ret (rt1 results219 Z ?_)))))
  have H:=H.dl 0
  have H:=H.tF 1
  have H:=H.tF 1
  have hno:Sp.l11Drop L l path=none:=Sp.drop_no1 hT (by assumption)
  exact H.retM ⟨_,_,_,_,_,_,congrArg Value.bool (by (rw[hno];rfl)),rfl,hm,hS,hVd,hN,rfl,fun u' h=>(by rw[hno]at h;cases h)⟩
 skip
 have H:=H.step ew2;refine⟨_,rfl,?_⟩
 refine aG Z (q3 (W_seq (W_drawK [0] 18 H kR Z ?_)));intro _ H;have hd4:=PLe.refl G0
 refine dE 0 Z2 (RD_t 1 Z kR Z (fun _ hK=>v_nenil_ptr underlying119 Z Z) (dE 2 Z2 (dF 3 1 Z2 (dB 4 0 Z4 (dE 5 Z2 (r1 6 Z (gR Z ?_)))))))
 have H:=H.tF 2
 refine xc Z2 (i_drop_n_c _ _ H.sub _ _ hN _ hpath H.lent1 hT.wf oM) ?_
 rintro _ _ ⟨G5,_,_,rfl,H5',⟨_,_,t5,rfl,rfl,hN5,hb5,ht5,hk5⟩⟩
 have hS:=hS.up H5'.le
 have hd4:=hd4.trans H5'.le
 have H:=H.borrow1 H5'
 try rw[←hb5]
 try rw[←hb5]at H
 refine⟨_,Z,?_⟩
 refine q4 H hd4 (dE 7 Z2 (dE 8 Z2 ?_))
 refine RD_case (t:=18) Z ?_ ?_
 ·intro hc6
  try simp only[nrm]at hc6
  obtain⟨k2,hk2,hNk⟩:=hk5 (by simpa using hc6)
  obtain rfl:k2=d2:=Option.some.inj (hk2.symm.trans hfi2)
  have H:=H.tF 1
  obtain⟨_,_,_,_,_,_,H,ohri,ohNs,_,_,_,_⟩:=Hp.openNode H hNk (show Nd.at_ k2 []=some k2 from rfl)
  obtain⟨_,_,rfl⟩:=H.accShape (k:=1) rfl;have hdo:=PLe.refl G5;have hn_ohri:=ohri.len
  refine dF 9 0 Z2 (dB 10 0 Z4 (dE 11 Z2 (dE 12 Z2 (dF 13 2 Z2 (r1 14 Z (gR Z (lB 0 H Z3 (q4 H hd4 (r1 15 Z (gR Z ?_))))))))))
  have H:=H.tF 5
  refine xc Z2 (i_freeFile_c _ _ H.sub _ _ _ _ _ hm hS hVd _ _ ohri H.lent1) ?_
  rintro _ _ ⟨_,_,_,rfl,H7',⟨_,_,_,_,rfl,rfl,hm7,hS7,hV7,hL7⟩⟩
  have hN5:=hN5.up H7'.le
  have hd4:=hd4.trans H7'.le
  have H:=H.borrow1 H7'
  refine⟨_,Z,?_⟩
  refine q4 H hd4 (dE 16 Z2 (dE 17 Z2 (rz (N_K (W_ret (rt1 results219 Z ?_))))))
  have H:=H.dl 1
  have H:=H.dl 1
  have H:=H.dl 1
  have H:=H.dl 2
  have H:=H.tF 1
  have H:=H.tF 1
  have hpt:T.dropN path=some t5:=by (obtain⟨_,hq⟩:=Option.isSome_iff_exists.1 (show(T.dropN path).isSome=true by simpa using hc6);(rw[←ht5,hq];rfl))
  obtain⟨_,_,g1,g2,g3,g4⟩:=Sp.drop_fin hH hT hk2 hpt
  exact H.retM ⟨_,_,_,_,_,_,congrArg Value.bool (by (rw[g1,g2];rfl)),rfl,hm7,hS7,hV7,hN5,(by first|rfl|exact hb5),fun u' h=>(by rw[g2]at h;cases h;exact⟨hL7 _ g1,g3,g4⟩)⟩
 intro hc6'
 try simp only[nrm]at hc6'
 refine dE 9 Z2 (dE 10 Z2 (dE 11 Z2 (dE 12 Z2 (dE 13 Z2 (dE 14 Z2 (dE 15 Z2 (dE 16 Z2 (dE 17 Z2 (rz (N_K (W_ret (rt1 results219 Z ?_))))))))))))
 have H:=H.dl 1
 have H:=H.dl 1
 have H:=H.tF 1
 have hno:Sp.l11Drop L l path=none:=Sp.drop_no2 hT (by simpa using hc6')
 exact H.retM ⟨_,_,_,_,_,_,congrArg Value.bool (by (rw[hno];rfl)),rfl,hm,hS,hVd,hN5,(by first|rfl|exact hb5),fun u' h=>(by rw[hno]at h;cases h)⟩
theorem i_dmakeDir_c (w0:World)(G0:PH)(hG:PSub G0 w0)(db mb:Nat)(es:Array MapEntry)(ck:Nat)(xs:List (Int×Value))(T:Nd)(FT:Fr)(sv:Value)(sn:List (Bs×Nd))(c:List Value)(FSq:Fr)(d:BDisk)(hm:MapIs (Value.int .i64) es ck xs)(hS:StR G0 xs d.store)(hN:NdO 138 119 G0 T FT)(hT:Nd.TOK T d.tree)(hchk:Chk osE 2 G0 c sn)(hNs:NdsO 138 119 G0 (sn.map (·.2)) FSq)(hSn:SnOK sn d.snaps)(hdv:Sp.DiskValid d=true)(path:Bs)(hpath:path.length≤16777216)(hLent:Lent w0 G0 [blk db (cl [.int .i32 0,.int .u32 0,.map (some mb),.pointer (some ⟨T.b,0,none⟩),sv] 133),blk mb (.map es ck),frag FT,acc 199 2 sv sn.length c,frag FSq]) :
  Calls Tryz.prog 173 #[.pointer (some ⟨db,0,none⟩),str path] w0 (RetM w0 G0 (fps [blk db (cl [.int .i32 0,.int .u32 0,.map (some mb),.pointer (some ⟨T.b,0,none⟩),sv] 133),blk mb (.map es ck),frag FT,acc 199 2 sv sn.length c,frag FSq]) (fun G' v Bs=>∃(es':Array MapEntry) (ck':Nat) (xs':List (Int×Value)) (F':Fr) (T':Nd) (sv':Value) (sn':List (Fw.Bs×Nd)) (c':List Value) (FSq':Fr) (L':List BHeld),v= .bool (Sp.DiskDir d path).isSome∧Bs=[blk db (cl [.int .i32 0,.int .u32 0,.map (some mb),.pointer (some ⟨T'.b,0,none⟩),sv'] 133),blk mb (.map es' ck'),frag F',acc 199 2 sv' sn'.length c',frag FSq']∧MapIs (Value.int .i64) es' ck' xs'∧StR G' xs' L'∧Sp.VH L'∧NdO 138 119 G' T' F'∧Chk osE 2 G' c' sn'∧NdsO 138 119 G' (sn'.map (·.2)) FSq'∧∀d',Sp.DiskDir d path=some d'→L'=d'.store∧Nd.TOK T' d'.tree∧SnOK sn' d'.snaps)):=by
 have H:Hp w0 G0 (fps [blk db (cl [.int .i32 0,.int .u32 0,.map (some mb),.pointer (some ⟨T.b,0,none⟩),sv] 133),blk mb (.map es ck),frag FT,acc 199 2 sv sn.length c,frag FSq]) w0 G0 [blk db (cl [.int .i32 0,.int .u32 0,.map (some mb),.pointer (some ⟨T.b,0,none⟩),sv] 133),blk mb (.map es ck),frag FT,acc 199 2 sv sn.length c,frag FSq]:=hLent.hp
 obtain⟨_,_,rfl⟩:=H.accShape (k:=3) rfl;have hVd:=Sp.valid_iff.1 (Sp.dv_parts.1 hdv).1;have hTv:=(Sp.dv_parts.1 hdv).2.1;have hTc:=hT.cnt;have hTl:=Sp.tree_len hTv;have hsnl:=hSn.len;have hsn6:=(Sp.dv_parts.1 hdv).2.2.1
 have hHd:=Sp.DHol.hol (ts:=d.snaps.map (·.tree)) (Sp.dd_iff.1 hdv).2
 refine calls_of_WD (l:=[.pointer (some ⟨db,0,none⟩),str path]) func173 Z ntmps173 Z (q2 (aG Z (q1 (pe 2 Z (fA 0 Z (o_lock 0 H muLib Z call140 Z Z Z Z ?_))))));intro _ H
 refine q1 (pe 2 Z (fA 0 Z (o_defer Z (q1 (pe 2 Z (fA 2 Z (lA 0 2 H Z4 (mV Z ?_))))))))
 have H:=H.tF 2
 have H:=H.tF 2
 refine xc Z2 (i_vdir_c _ _ H.sub _ _ _ _ _ _ _ _ hm hS hN hT hHd _ hpath H.lent2) ?_
 rintro _ _ ⟨_,_,_,rfl,H2',⟨_,_,_,_,T2,L2,rfl,rfl,hm2,hS2,hV2,hN2,hb2,hu2⟩⟩
 have hchk:=hchk.up H2'.le
 have hNs:=hNs.up H2'.le
 have H:=H.borrow2 H2'
 try rw[←hb2]
 try rw[←hb2]at H
 refine⟨_,Z,?_⟩
 refine aG Z (q3 (W_ret (ret_unlock 2 H muLib Z call141 Z Z (rs:=[.tmp 4]) results173 ?_)));intro _ H
 refine⟨[_],⟨Z,trivial⟩,?_⟩
 have H:=H.tF 4
 have H:=H.tF 4
 have H:=H.tF 3
 have H:=H.tF 3
 have H:=H.tF 4
 exact H.retM ⟨_,_,_,_,T2,_,sn,_,_,L2,congrArg Value.bool (by simp[Sp.DiskDir,hdv]),rfl,hm2,hS2,hV2,hN2,hchk,hNs,fun d2 h=>(by obtain⟨v2,h1,rfl⟩:=Sp.ddir_vol h;obtain⟨g1,g2,_⟩:=hu2 v2 h1;exact⟨g1,g2,hSn⟩)⟩
theorem i_dremove_c (w0:World)(G0:PH)(hG:PSub G0 w0)(db mb:Nat)(es:Array MapEntry)(ck:Nat)(xs:List (Int×Value))(T:Nd)(FT:Fr)(sv:Value)(sn:List (Bs×Nd))(c:List Value)(FSq:Fr)(d:BDisk)(hm:MapIs (Value.int .i64) es ck xs)(hS:StR G0 xs d.store)(hN:NdO 138 119 G0 T FT)(hT:Nd.TOK T d.tree)(hchk:Chk osE 2 G0 c sn)(hNs:NdsO 138 119 G0 (sn.map (·.2)) FSq)(hSn:SnOK sn d.snaps)(hdv:Sp.DiskValid d=true)(path:Bs)(hpath:path.length≤16777216)(hLent:Lent w0 G0 [blk db (cl [.int .i32 0,.int .u32 0,.map (some mb),.pointer (some ⟨T.b,0,none⟩),sv] 133),blk mb (.map es ck),frag FT,acc 199 2 sv sn.length c,frag FSq]) :
  Calls Tryz.prog 174 #[.pointer (some ⟨db,0,none⟩),str path] w0 (RetM w0 G0 (fps [blk db (cl [.int .i32 0,.int .u32 0,.map (some mb),.pointer (some ⟨T.b,0,none⟩),sv] 133),blk mb (.map es ck),frag FT,acc 199 2 sv sn.length c,frag FSq]) (fun G' v Bs=>∃(es':Array MapEntry) (ck':Nat) (xs':List (Int×Value)) (F':Fr) (T':Nd) (sv':Value) (sn':List (Fw.Bs×Nd)) (c':List Value) (FSq':Fr) (L':List BHeld),v= .bool (Sp.DiskDrop d path).isSome∧Bs=[blk db (cl [.int .i32 0,.int .u32 0,.map (some mb),.pointer (some ⟨T'.b,0,none⟩),sv'] 133),blk mb (.map es' ck'),frag F',acc 199 2 sv' sn'.length c',frag FSq']∧MapIs (Value.int .i64) es' ck' xs'∧StR G' xs' L'∧Sp.VH L'∧NdO 138 119 G' T' F'∧Chk osE 2 G' c' sn'∧NdsO 138 119 G' (sn'.map (·.2)) FSq'∧∀d',Sp.DiskDrop d path=some d'→L'=d'.store∧Nd.TOK T' d'.tree∧SnOK sn' d'.snaps)):=by
 have H:Hp w0 G0 (fps [blk db (cl [.int .i32 0,.int .u32 0,.map (some mb),.pointer (some ⟨T.b,0,none⟩),sv] 133),blk mb (.map es ck),frag FT,acc 199 2 sv sn.length c,frag FSq]) w0 G0 [blk db (cl [.int .i32 0,.int .u32 0,.map (some mb),.pointer (some ⟨T.b,0,none⟩),sv] 133),blk mb (.map es ck),frag FT,acc 199 2 sv sn.length c,frag FSq]:=hLent.hp
 obtain⟨_,_,rfl⟩:=H.accShape (k:=3) rfl;have hVd:=Sp.valid_iff.1 (Sp.dv_parts.1 hdv).1;have hTv:=(Sp.dv_parts.1 hdv).2.1;have hTc:=hT.cnt;have hTl:=Sp.tree_len hTv;have hsnl:=hSn.len;have hsn6:=(Sp.dv_parts.1 hdv).2.2.1
 have hHd:=Sp.DHol.hol (ts:=d.snaps.map (·.tree)) (Sp.dd_iff.1 hdv).2
 refine calls_of_WD (l:=[.pointer (some ⟨db,0,none⟩),str path]) func174 Z ntmps174 Z (q2 (aG Z (q1 (pe 2 Z (fA 0 Z (o_lock 0 H muLib Z call140 Z Z Z Z ?_))))));intro _ H
 refine q1 (pe 2 Z (fA 0 Z (o_defer Z (q1 (pe 2 Z (fA 2 Z (lA 0 2 H Z4 (mV Z ?_))))))))
 have H:=H.tF 2
 have H:=H.tF 2
 refine xc Z2 (i_vremove_c _ _ H.sub _ _ _ _ _ _ _ _ hm hS hN hT hHd _ hpath H.lent2) ?_
 rintro _ _ ⟨_,_,_,rfl,H2',⟨_,_,_,_,T2,L2,rfl,rfl,hm2,hS2,hV2,hN2,hb2,hu2⟩⟩
 have hchk:=hchk.up H2'.le
 have hNs:=hNs.up H2'.le
 have H:=H.borrow2 H2'
 try rw[←hb2]
 try rw[←hb2]at H
 refine⟨_,Z,?_⟩
 refine aG Z (q3 (W_ret (ret_unlock 2 H muLib Z call141 Z Z (rs:=[.tmp 4]) results174 ?_)));intro _ H
 refine⟨[_],⟨Z,trivial⟩,?_⟩
 have H:=H.tF 4
 have H:=H.tF 4
 have H:=H.tF 3
 have H:=H.tF 3
 have H:=H.tF 4
 exact H.retM ⟨_,_,_,_,T2,_,sn,_,_,L2,congrArg Value.bool (by simp[Sp.DiskDrop,hdv]),rfl,hm2,hS2,hV2,hN2,hchk,hNs,fun d2 h=>(by obtain⟨v2,h1,rfl⟩:=Sp.ddrop_vol h;obtain⟨g1,g2,_⟩:=hu2 v2 h1;exact⟨g1,g2,hSn⟩)⟩
theorem i_drun_c (w0:World)(G0:PH)(hG:PSub G0 w0)(db mb:Nat)(es:Array MapEntry)(ck:Nat)(xs:List (Int×Value))(T:Nd)(FT:Fr)(sv:Value)(sn:List (Bs×Nd))(c:List Value)(FSq:Fr)(d:BDisk)(hm:MapIs (Value.int .i64) es ck xs)(hS:StR G0 xs d.store)(hN:NdO 138 119 G0 T FT)(hT:Nd.TOK T d.tree)(hchk:Chk osE 2 G0 c sn)(hNs:NdsO 138 119 G0 (sn.map (·.2)) FSq)(hSn:SnOK sn d.snaps)(hdv:Sp.DiskValid d=true)(cop:List Value)(op:BOp)(hop:opE G0 op cop)(hLent:Lent w0 G0 [blk db (cl [.int .i32 0,.int .u32 0,.map (some mb),.pointer (some ⟨T.b,0,none⟩),sv] 133),blk mb (.map es ck),frag FT,acc 199 2 sv sn.length c,frag FSq])(hok:Sp.opOk op=true) :
  Calls Tryz.prog 98 #[.pointer (some ⟨db,0,none⟩),.agg cop.toArray] w0 (RetM w0 G0 (fps [blk db (cl [.int .i32 0,.int .u32 0,.map (some mb),.pointer (some ⟨T.b,0,none⟩),sv] 133),blk mb (.map es ck),frag FT,acc 199 2 sv sn.length c,frag FSq]) (fun G' v Bs=>∃(es':Array MapEntry) (ck':Nat) (xs':List (Int×Value)) (F':Fr) (T':Nd) (sv':Value) (sn':List (Fw.Bs×Nd)) (c':List Value) (FSq':Fr) (L':List BHeld),v= .bool (Sp.OpRun d op).isSome∧Bs=[blk db (cl [.int .i32 0,.int .u32 0,.map (some mb),.pointer (some ⟨T'.b,0,none⟩),sv'] 133),blk mb (.map es' ck'),frag F',acc 199 2 sv' sn'.length c',frag FSq']∧MapIs (Value.int .i64) es' ck' xs'∧StR G' xs' L'∧Sp.VH L'∧NdO 138 119 G' T' F'∧Chk osE 2 G' c' sn'∧NdsO 138 119 G' (sn'.map (·.2)) FSq'∧∀d',Sp.OpRun d op=some d'→L'=d'.store∧Nd.TOK T' d'.tree∧SnOK sn' d'.snaps)):=by
 obtain⟨_,_,_,rfl,_,hi1,hr1⟩:=hop;have hy_hi1:_≤16777216:=hi1;have hn_hr1:=hr1.len;have hx_hr1:_≤1099511627776:=hr1.lim
 have H:Hp w0 G0 (fps [blk db (cl [.int .i32 0,.int .u32 0,.map (some mb),.pointer (some ⟨T.b,0,none⟩),sv] 133),blk mb (.map es ck),frag FT,acc 199 2 sv sn.length c,frag FSq]) w0 G0 [blk db (cl [.int .i32 0,.int .u32 0,.map (some mb),.pointer (some ⟨T.b,0,none⟩),sv] 133),blk mb (.map es ck),frag FT,acc 199 2 sv sn.length c,frag FSq]:=hLent.hp
 obtain⟨_,_,rfl⟩:=H.accShape (k:=3) rfl;have hVd:=Sp.valid_iff.1 (Sp.dv_parts.1 hdv).1;have hTv:=(Sp.dv_parts.1 hdv).2.1;have hTc:=hT.cnt;have hTl:=Sp.tree_len hTv;have hsnl:=hSn.len;have hsn6:=(Sp.dv_parts.1 hdv).2.2.1
 refine calls_of_W (l:=[.pointer (some ⟨db,0,none⟩),_]) func98 Z ntmps98 Z (q2 (o_box H Z Z Z ?_));intro _ _ _ H
 refine aG Z (q3 (W_seq (q2 (fA 0 Z (lB 0 H Z3 (q3 (W_block (q2 (pe 2 Z (q3 ?_))))))))))
 refine W_cond Z ?_ ?_
 ·intro hc3
  try simp only[nrm]at hc3
  refine q2 (mV Z (fA 1 Z (lB 0 H Z3 ?_)))
  have H:=H.tF 5
  have H:=H.tF 5
  have H:=H.tF 5
  have H:=H.tF 5
  have H:=H.tF 5
  refine xc Z2 (i_dmakeDir_c _ _ H.sub _ _ _ _ _ _ _ _ _ _ _ _ hm hS hN hT hchk hNs hSn hdv _ hi1 H.lent5) ?_
  rintro _ _ ⟨_,_,_,rfl,H4',⟨_,_,_,_,_,_,_,_,_,_,rfl,rfl,hm4,hS4,hV4,hN4,hchk4,hNs4,hd4⟩⟩
  have H:=H.borrow5 H4'
  obtain⟨avAd,cvAd,rfl⟩:=H.accShape (k:=3) rfl
  refine⟨_,Z,?_⟩
  refine aG Z (q3 (W_ret (N_B_ret (N_K_ret (rt1 results98 Z ?_)))))
  have H:=H.dl 5
  have H:=H.tF 4
  have H:=H.tF 4
  have H:=H.tF 4
  have H:=H.tF 4
  have H:=H.tF 4
  exact H.retM ⟨_,_,_,_,_,_,_,_,_,_,by (rw[Sp.op_is1 hok hc3];rfl),rfl,hm4,hS4,hV4,hN4,hchk4,hNs4,(by rw[Sp.op_is1 hok hc3];exact hd4)⟩
 intro hc3'
 try simp only[nrm]at hc3'
 refine q2 (pe 2 Z (q3 ?_))
 refine W_cond Z ?_ ?_
 ·intro hc5
  try simp only[nrm]at hc5
  refine q2 (mV Z (fA 1 Z (lB 0 H Z3 (fA 2 Z (lB 0 H Z3 ?_)))))
  have H:=H.tF 5
  have H:=H.tF 5
  have H:=H.tF 5
  have H:=H.tF 5
  have H:=H.tF 5
  refine xc Z2 (i_dwrite_c _ _ H.sub _ _ _ _ _ _ _ _ _ _ _ _ hm hS hN hT hchk hNs hSn hdv _ hi1 _ _ hr1 H.lent5) ?_
  rintro _ _ ⟨_,_,_,rfl,H6',⟨_,_,_,_,_,_,_,_,_,_,rfl,rfl,hm6,hS6,hV6,hN6,hchk6,hNs6,hd6⟩⟩
  have H:=H.borrow5 H6'
  obtain⟨avAd,cvAd,rfl⟩:=H.accShape (k:=3) rfl
  refine⟨_,Z,?_⟩
  refine aG Z (q3 (W_ret (N_B_ret (N_K_ret (rt1 results98 Z ?_)))))
  have H:=H.dl 5
  have H:=H.tF 4
  have H:=H.tF 4
  have H:=H.tF 4
  have H:=H.tF 4
  have H:=H.tF 4
  exact H.retM ⟨_,_,_,_,_,_,_,_,_,_,by (rw[Sp.op_is2 hok hc3' hc5];rfl),rfl,hm6,hS6,hV6,hN6,hchk6,hNs6,(by rw[Sp.op_is2 hok hc3' hc5];exact hd6)⟩
 intro hc5'
 try simp only[nrm]at hc5'
 refine q2 (pe 2 Z (q3 ?_))
 refine W_cond Z ?_ ?_
 ·intro hc7
  try simp only[nrm]at hc7
  refine q2 (mV Z (fA 1 Z (lB 0 H Z3 ?_)))
  have H:=H.tF 5
  have H:=H.tF 5
  have H:=H.tF 5
  have H:=H.tF 5
  have H:=H.tF 5
  refine xc Z2 (i_dremove_c _ _ H.sub _ _ _ _ _ _ _ _ _ _ _ _ hm hS hN hT hchk hNs hSn hdv _ hi1 H.lent5) ?_
  rintro _ _ ⟨_,_,_,rfl,H8',⟨_,_,_,_,_,_,_,_,_,_,rfl,rfl,hm8,hS8,hV8,hN8,hchk8,hNs8,hd8⟩⟩
  have H:=H.borrow5 H8'
  obtain⟨avAd,cvAd,rfl⟩:=H.accShape (k:=3) rfl
  refine⟨_,Z,?_⟩
  refine aG Z (q3 (W_ret (N_B_ret (N_K_ret (rt1 results98 Z ?_)))))
  have H:=H.dl 5
  have H:=H.tF 4
  have H:=H.tF 4
  have H:=H.tF 4
  have H:=H.tF 4
  have H:=H.tF 4
  exact H.retM ⟨_,_,_,_,_,_,_,_,_,_,by (rw[Sp.op_is3 hok hc3' hc5' hc7];rfl),rfl,hm8,hS8,hV8,hN8,hchk8,hNs8,(by rw[Sp.op_is3 hok hc3' hc5' hc7];exact hd8)⟩
 intro hc7'
 try simp only[nrm]at hc7'
 refine W_skip (N_B (N_K (q2 (mV Z (fA 1 Z (lB 0 H Z3 ?_))))))
 have H:=H.tF 5
 have H:=H.tF 5
 have H:=H.tF 5
 have H:=H.tF 5
 have H:=H.tF 5
 refine xc Z2 (i_take_c _ _ H.sub _ _ _ _ _ _ _ _ _ _ _ _ hm hS hN hT hchk hNs hSn hdv _ hi1 H.lent5) ?_
 rintro _ _ ⟨_,_,_,rfl,H9',⟨_,_,_,_,_,_,_,_,_,rfl,rfl,hm9,hS9,hV9,hN9,hchk9,hNs9,hd9⟩⟩
 have H:=H.borrow5 H9'
 obtain⟨avAd,cvAd,rfl⟩:=H.accShape (k:=3) rfl
 refine⟨_,Z,?_⟩
 refine aG Z (q3 (W_ret (rt1 results98 Z ?_)))
 have H:=H.dl 5
 have H:=H.tF 4
 have H:=H.tF 4
 have H:=H.tF 4
 have H:=H.tF 4
 have H:=H.tF 4
 exact H.retM ⟨_,_,_,_,_,_,_,_,_,_,by (rw[Sp.op_is4 hok hc3' hc5' hc7'];rfl),rfl,hm9,hS9,hV9,hN9,hchk9,hNs9,(by rw[Sp.op_is4 hok hc3' hc5' hc7'];exact fun d2 h=>(by obtain⟨g1,g2,g3⟩:=hd9 d2 h;exact⟨g1,by (rw[g2];exact hT),g3⟩))⟩
theorem i_OpRun1_c (w0:World)(G0:PH)(hG:PSub G0 w0)(db mb:Nat)(es:Array MapEntry)(ck:Nat)(xs:List (Int×Value))(T:Nd)(FT:Fr)(sv:Value)(sn:List (Bs×Nd))(c:List Value)(FSq:Fr)(d:BDisk)(hm:MapIs (Value.int .i64) es ck xs)(hS:StR G0 xs d.store)(hN:NdO 138 119 G0 T FT)(hT:Nd.TOK T d.tree)(hchk:Chk osE 2 G0 c sn)(hNs:NdsO 138 119 G0 (sn.map (·.2)) FSq)(hSn:SnOK sn d.snaps)(hdv:Sp.DiskValid d=true)(cp:Nat)(oa:Option Addr)(om oc:Nat)(op:BOp)(hopk:inI op.kind)(hopp:op.path.length≤16777216)(hopr:RdI G0 (.slice oa om oc) op.bytes)(hcp:PRow G0 cp 0 [.int .i64 op.kind,str op.path,.slice oa om oc])(hLent:Lent w0 G0 [blk db (cl [.int .i32 0,.int .u32 0,.map (some mb),.pointer (some ⟨T.b,0,none⟩),sv] 133),blk mb (.map es ck),frag FT,acc 199 2 sv sn.length c,frag FSq]) :
  Calls Tryz.prog 96 #[.pointer (some ⟨db,0,none⟩),.pointer (some ⟨cp,0,none⟩)] w0 (RetM w0 G0 (fps [blk db (cl [.int .i32 0,.int .u32 0,.map (some mb),.pointer (some ⟨T.b,0,none⟩),sv] 133),blk mb (.map es ck),frag FT,acc 199 2 sv sn.length c,frag FSq]) (fun G' v Bs=>∃(es':Array MapEntry) (ck':Nat) (xs':List (Int×Value)) (F':Fr) (T':Nd) (sv':Value) (sn':List (Fw.Bs×Nd)) (c':List Value) (FSq':Fr) (L':List BHeld),v= .bool (Sp.OpRun d op).isSome∧Bs=[blk db (cl [.int .i32 0,.int .u32 0,.map (some mb),.pointer (some ⟨T'.b,0,none⟩),sv'] 133),blk mb (.map es' ck'),frag F',acc 199 2 sv' sn'.length c',frag FSq']∧MapIs (Value.int .i64) es' ck' xs'∧StR G' xs' L'∧Sp.VH L'∧NdO 138 119 G' T' F'∧Chk osE 2 G' c' sn'∧NdsO 138 119 G' (sn'.map (·.2)) FSq'∧∀d',Sp.OpRun d op=some d'→L'=d'.store∧Nd.TOK T' d'.tree∧SnOK sn' d'.snaps)):=by
 have hn_hopr:=hopr.len;have hx_hopr:_≤1099511627776:=hopr.lim
 have H:Hp w0 G0 (fps [blk db (cl [.int .i32 0,.int .u32 0,.map (some mb),.pointer (some ⟨T.b,0,none⟩),sv] 133),blk mb (.map es ck),frag FT,acc 199 2 sv sn.length c,frag FSq]) w0 G0 [blk db (cl [.int .i32 0,.int .u32 0,.map (some mb),.pointer (some ⟨T.b,0,none⟩),sv] 133),blk mb (.map es ck),frag FT,acc 199 2 sv sn.length c,frag FSq]:=hLent.hp
 obtain⟨_,_,rfl⟩:=H.accShape (k:=3) rfl;have hVd:=Sp.valid_iff.1 (Sp.dv_parts.1 hdv).1;have hTv:=(Sp.dv_parts.1 hdv).2.1;have hTc:=hT.cnt;have hTl:=Sp.tree_len hTv;have hsnl:=hSn.len;have hsn6:=(Sp.dv_parts.1 hdv).2.2.1
 refine calls_of_W (l:=[.pointer (some ⟨db,0,none⟩),.pointer (some ⟨cp,0,none⟩)]) func96 Z ntmps96 Z (q2 (aG Z (q1 (o_loadagg_P H isAgg53 sizeOf53 Z Z hcp Z ?_))))
 refine xr H Z2 (i_opValid_c _ _ H.sub _ op ⟨_,_,_,Z,⟨by first|omega|(dsimp only;omega),by first|omega|(dsimp only;omega)⟩,hopp,hopr⟩) ?_;intro _ H
 refine mV Z ?_
 refine R_case (t:=6) Z ?_ ?_
 ·intro hc2
  try simp only[nrm]at hc2
  refine pe 1 Z (gR Z (o_loadagg_P H isAgg53 sizeOf53 Z Z hcp Z (gR Z ?_)))
  have H:=H.tF 4
  have H:=H.tF 4
  have H:=H.tF 4
  have H:=H.tF 4
  have H:=H.tF 4
  refine xc Z2 (i_drun_c _ _ H.sub _ _ _ _ _ _ _ _ _ _ _ _ hm hS hN hT hchk hNs hSn hdv _ op ⟨_,_,_,Z,⟨by first|omega|(dsimp only;omega),by first|omega|(dsimp only;omega)⟩,hopp,hopr⟩ H.lent5 (by assumption)) ?_
  rintro _ _ ⟨_,_,_,rfl,H3',⟨_,_,_,_,_,_,_,_,_,_,rfl,rfl,hm3,hS3,hV3,hN3,hchk3,hNs3,hd3⟩⟩
  have H:=H.borrow5 H3'
  obtain⟨_,_,rfl⟩:=H.accShape (k:=3) rfl
  refine⟨_,Z,?_⟩
  refine pe 2 Z (q3 (W_ret (rt1 results96 Z ?_)))
  have H:=H.tF 4
  have H:=H.tF 4
  have H:=H.tF 4
  have H:=H.tF 4
  have H:=H.tF 4
  exact H.retM ⟨_,_,_,_,_,_,_,_,_,_,Z,Z,hm3,hS3,hV3,hN3,hchk3,hNs3,hd3⟩
 intro hc2'
 try simp only[nrm]at hc2'
 refine pe 5 Z (q3 (W_ret (rt1 results96 Z ?_)))
 have H:=H.tF 4
 have H:=H.tF 4
 have H:=H.tF 4
 have H:=H.tF 4
 have H:=H.tF 4
 have hno:Sp.OpRun d op=none:=Sp.op_bad (by simpa using hc2')
 exact H.retM ⟨_,_,_,_,T,_,sn,_,_,d.store,congrArg Value.bool (by (rw[hno];rfl)),rfl,hm,hS,hVd,hN,hchk,hNs,fun d2 h=>(by rw[hno]at h;cases h)⟩
theorem i_changed_op_c (w0:World)(G0:PH)(hG:PSub G0 w0)(cd:List Value)(d:BDisk)(hd:diskE G0 d cd)(cp:Nat)(oa:Option Addr)(om oc:Nat)(op:BOp)(hopk:inI op.kind)(hopp:op.path.length≤16777216)(hopr:RdI G0 (.slice oa om oc) op.bytes)(hcp:PRow G0 cp 0 [.int .i64 op.kind,str op.path,.slice oa om oc]) :
  Calls Tryz.prog 60 #[.agg cd.toArray,.func (.func 96) #[] #[.pointer (some ⟨cp,0,none⟩)]] w0 (RetN w0 G0 (fun v Bs=>∃(v1 v2 v3:Value) (F1 F2 F3:Fr),v= .tuple #[.agg #[v1,v2,v3],.bool (Sp.OpRun d op).isSome]∧Bs=[frag F1,frag F2,frag F3]∧OHs F1 v1 ((Sp.OpRun d op).getD ⟨[],[],[]⟩).store∧OIs F2 v2 ((Sp.OpRun d op).getD ⟨[],[],[]⟩).tree∧OSn F3 v3 ((Sp.OpRun d op).getD ⟨[],[],[]⟩).snaps)):=by
 obtain⟨_,_,_,_,_,_,_,_,_,rfl,hr1,hr1',hr1'',⟨_,_⟩,⟨_,_⟩,_,_⟩:=ox hd
 have hn_hopr:=hopr.len;have hx_hopr:_≤1099511627776:=hopr.lim
 have H:=Hp.init hG
 refine calls_of_W (l:=[_,.func (.func 96) #[] #[.pointer (some ⟨cp,0,none⟩)]]) func60 Z ntmps60 Z (q2 (o_box H Z Z Z ?_));intro _ _ _ H
 refine xal H Z ?_;intro _ _ _ H
 refine aG Z (q1 (lA 1 3 H Z4 (xc Z2 (i_newDisk_c _ _ H.sub _ d ⟨_,_,_,_,_,_,_,_,_,Z,hr1,hr1',hr1''⟩ H.lent0) ?_)))
 rintro _ _ ⟨_,_,_,rfl,H4',⟨rfl,rfl,hnd4⟩|⟨_,_,_,_,_,_,_,_,_,_,_,rfl,rfl,hm4,hS4,hN4,hT4,hchk4,hNs4,hSn4,hdv4⟩⟩
 ·skip
  have H:=H.borrow0 H4'
  refine⟨_,Z,?_⟩
  refine pe 5 Z (q3 (W_seq (q2 (pe 8 Z (q3 (W_true Z (q2 (o_build bf27 Z Z Z (xst 0 H Z8 ?_)))))))));intro _ H
  refine aG Z (q3 (W_ret (N_K_ret (ret_gen (rs:=[.cell 4 27,.tmp 5]) (vs:=[_,_]) results60 ⟨⟨_,Z,load_blk 0 H isAgg27 sizeOf27 Z Z Z⟩,Z,trivial⟩ ?_))))
  have H:=H.dl 0
  have H:=H.dl 0
  have hno:Sp.OpRun d op=none:=by (cases hh:Sp.OpRun d op with |none=>rfl|some q=>(have hx:=Sp.op_isv hh;rw[hnd4]at hx;cases hx))
  have H:=(((H.addF).addF).addF).forget hG (by simp)
  refine⟨_,_,Z,H,.slice none 0 0,.slice none 0 0,.slice none 0 0,[],[],[],?_,Z,?_,?_,?_⟩
  ·(rw[hno];rfl)
  ·(rw[hno];exact oh_nil)
  ·(rw[hno];exact oi_nil)
  (rw[hno];exact os_nil)
 skip
 have hcp:=hcp.up H4'.le
 have hopr:=hopr.up H4'.le
 have H:=H.borrow0 H4'
 obtain⟨avAd,cvAd,rfl⟩:=H.accShape (k:=3) rfl
 refine⟨_,Z,?_⟩
 refine pe 5 Z (q3 (W_seq (q2 (pe 5 Z (gR Z ?_)))))
 have H:=H.tF 4
 have H:=H.tF 4
 have H:=H.tF 4
 have H:=H.tF 4
 have H:=H.tF 4
 refine o_callc call96 Z Z Z (i_OpRun1_c _ _ H.sub _ _ _ _ _ _ _ _ _ _ _ _ hm4 hS4 hN4 hT4 hchk4 hNs4 hSn4 hdv4 _ _ _ _ _ hopk hopp hopr hcp H.lent5) ?_
 rintro _ _ ⟨_,_,_,rfl,H6',⟨_,_,_,_,_,_,_,_,_,_,rfl,rfl,hm6,hS6,hV6,hN6,hchk6,hNs6,hd6⟩⟩
 have H:=H.borrow5 H6'
 obtain⟨avAd,cvAd,rfl⟩:=H.accShape (k:=3) rfl
 refine⟨_,Z,?_⟩
 refine pe 2 Z (q3 ?_)
 refine W_cond Z ?_ ?_
 ·intro hc7
  try simp only[nrm]at hc7
  refine q2 (o_build bf27 Z Z Z (xst 5 H Z8 ?_));intro _ H
  refine aG Z (q3 (W_ret (N_K_ret (ret_gen (rs:=[.cell 4 27,.tmp 5]) (vs:=[_,_]) results60 ⟨⟨_,Z,load_blk 5 H isAgg27 sizeOf27 Z Z Z⟩,Z,trivial⟩ ?_))))
  have H:=H.dl 0
  have H:=H.dl 0
  have H:=H.dl 0
  have H:=H.dl 0
  have H:=H.dl 0
  have H:=H.dl 0
  have H:=H.dl 0
  have hno:Sp.OpRun d op=none:=by simpa using hc7
  have H:=(((H.addF).addF).addF).forget hG (by simp)
  refine⟨_,_,Z,H,.slice none 0 0,.slice none 0 0,.slice none 0 0,[],[],[],?_,Z,?_,?_,?_⟩
  ·(rw[hno];rfl)
  ·(rw[hno];exact oh_nil)
  ·(rw[hno];exact oi_nil)
  (rw[hno];exact os_nil)
 intro hc7'
 try simp only[nrm]at hc7'
 obtain⟨d2,hd2⟩:=Option.isSome_iff_exists.1 (show(Sp.OpRun d op).isSome=true by simpa using hc7')
 obtain⟨hL2,hT2,hsn2⟩:=hd6 d2 hd2;subst hL2
 refine W_skip (N_K (q2 (mV Z ?_)))
 have H:=H.tF 4
 have H:=H.tF 4
 have H:=H.tF 4
 have H:=H.tF 4
 have H:=H.tF 4
 refine xc Z2 (i_disk_c _ _ H.sub _ _ _ _ _ _ _ _ _ _ _ _ hm6 hS6 hN6 hT2 hchk6 hNs6 hsn2 hV6 (Sp.dv_parts.1 (Sp.op_valid hd2)).2.2.1 H.lent5) ?_
 rintro _ _ ⟨_,_,_,rfl,H9',⟨_,_,_,D19,D29,D39,rfl,rfl,ho19,ho29,ho39⟩⟩
 have H:=H.borrow5 H9'
 obtain⟨_,p19⟩:=ho19
 obtain⟨a19,c19,rfl⟩:=OwnS.shape p19
 obtain⟨_,p29⟩:=ho29
 obtain⟨a29,c29,rfl⟩:=OwnS.shape p29
 obtain⟨_,p39⟩:=ho39
 obtain⟨a39,c39,rfl⟩:=OwnS.shape p39
 refine⟨_,Z,?_⟩
 refine xst 3 H Z8 ?_;intro _ H
 refine aG Z (q3 (W_ret (ret_gen (rs:=[.cell 4 27,.tmp 5]) (vs:=[_,_]) results60 ⟨⟨_,Z,load_blk 3 H isAgg27 sizeOf27 Z Z Z⟩,Z,trivial⟩ ?_)))
 have H:=H.dl 3
 have H:=H.dl 3
 have H:=H.tF 2
 have H:=H.tF 2
 have H:=H.tF 2
 have H:=H.forget hG (by simp)
 refine⟨_,_,Z,H,.slice a19 d2.store.length c19,.slice a29 d2.tree.length c29,.slice a39 d2.snaps.length c39,D19,D29,D39,?_,Z,?_,?_,?_⟩
 ·(rw[hd2];rfl)
 ·(rw[hd2];exact⟨_,p19⟩)
 ·(rw[hd2];exact⟨_,p29⟩)
 (rw[hd2];exact⟨_,p39⟩)
theorem i_OpRun_c (w0:World)(G0:PH)(hG:PSub G0 w0)(cd:List Value)(d:BDisk)(hd:diskE G0 d cd)(cop:List Value)(op:BOp)(hop:opE G0 op cop) :
  Calls Tryz.prog 30 #[.agg cd.toArray,.agg cop.toArray] w0 (RetN w0 G0 (fun v Bs=>∃(v1 v2 v3:Value) (F1 F2 F3:Fr),v= .tuple #[.agg #[v1,v2,v3],.bool (Sp.OpRun d op).isSome]∧Bs=[frag F1,frag F2,frag F3]∧OHs F1 v1 ((Sp.OpRun d op).getD ⟨[],[],[]⟩).store∧OIs F2 v2 ((Sp.OpRun d op).getD ⟨[],[],[]⟩).tree∧OSn F3 v3 ((Sp.OpRun d op).getD ⟨[],[],[]⟩).snaps)):=by
 obtain⟨_,_,_,_,_,_,_,_,_,rfl,hr1,hr1',hr1'',⟨_,_⟩,⟨_,_⟩,_,_⟩:=ox hd
 obtain⟨_,_,_,rfl,_,hi2,hr2⟩:=hop;have hy_hi2:_≤16777216:=hi2;have hn_hr2:=hr2.len;have hx_hr2:_≤1099511627776:=hr2.lim
 have H:=Hp.init hG
 refine calls_of_W (l:=[_,_]) func30 Z ntmps30 Z (q2 (o_box H Z Z Z ?_));intro _ _ _ H
 refine o_box H Z Z Z ?_;intro _ _ _ H
 refine xal H Z ?_;intro _ _ _ H
 refine aG Z (q1 (lA 2 3 H Z4 (o_makefn1 Z Z (xc Z2 (i_changed_op_c _ _ (H.lendSubL [1]) _ d ⟨_,_,_,_,_,_,_,_,_,Z,(hr1.up (PPlus.le _ _ _)),(hr1'.up (PPlus.le _ _ _)),(hr1''.up (PPlus.le _ _ _))⟩ _ _ _ _ op (by assumption) (by assumption) (hr2.up (PPlus.le _ _ _)) (prow_blk (H.lendPredL (k:=1) (ks:=[1]) Z Z))) ?_))))
 rintro _ _ ⟨_,_,rfl,H6',⟨_,_,_,E16,E26,E36,rfl,rfl,ho16,ho26,ho36⟩⟩
 have H:=H.readersL H6'
 obtain⟨_,p16⟩:=ho16
 obtain⟨a16,c16,rfl⟩:=OwnS.shape p16
 obtain⟨_,p26⟩:=ho26
 obtain⟨a26,c26,rfl⟩:=OwnS.shape p26
 obtain⟨_,p36⟩:=ho36
 obtain⟨a36,c36,rfl⟩:=OwnS.shape p36
 refine⟨_,Z,?_⟩
 refine pe 2 Z (xst 3 H Z8 ?_);intro _ H
 refine aG Z (q3 (W_ret (ret_gen (rs:=[.cell 4 27,.tmp 5]) (vs:=[_,_]) results30 ⟨⟨_,Z,load_blk 3 H isAgg27 sizeOf27 Z Z Z⟩,Z,trivial⟩ ?_)))
 have H:=H.dl 3
 have H:=H.dl 3
 have H:=H.dl 3
 have H:=H.tF 2
 have H:=H.tF 2
 have H:=H.tF 2
 exact⟨_,_,Z,H,.slice a16 ((Sp.OpRun d op).getD ⟨[],[],[]⟩).store.length c16,.slice a26 ((Sp.OpRun d op).getD ⟨[],[],[]⟩).tree.length c26,.slice a36 ((Sp.OpRun d op).getD ⟨[],[],[]⟩).snaps.length c36,E16,E26,E36,Z,Z,⟨_,p16⟩,⟨_,p26⟩,⟨_,p36⟩⟩
theorem l6Open_c (w0:World)(G0:PH)(hG:PSub G0 w0)(vcode:Value)(code:List (UInt8))(hcode:RdU G0 vcode code) :
  Calls Tryz.prog 55 #[vcode] w0 (RetO w0 G0 (fun G val r=>∃(b:Nat) (ab:Option Addr) (mb kb:Nat) (bs:List UInt8),val= .pointer (some ⟨b,0,none⟩)∧r=blk b (cl [.slice ab mb kb,.int .i64 ((0:Nat):Int)] 192)∧RdU G (.slice ab mb kb) bs)):=by
 obtain⟨acode,kcode,rfl⟩:=hcode.shape
 have hlimcode:code.length≤1099511627776:=hcode.lim
 have H:=Hp.init hG
 refine calls_of_W (l:=[.slice acode code.length kcode]) func55 Z ntmps55 Z (q2 (aG Z (q3 (W_seq (q2 (mV Z (lN Z (pe 1 Z (q3 ?_)))))))))
 refine W_cond Z ?_ ?_
 ·intro hc1
  try simp only[nrm]at hc1
  refine W_region (mV Z ?_)
  have hcap2:=hcode.cap;try simp only[List.length_set,List.length_append,List.length_take,List.length_drop,List.length_replicate]at hcap2
  refine o_slice_to (j:=2000) underlying22 sizeOf5 Z Z Z oM oM ?_
  have hsl2:=hcode.take (j:=2000) aN
  have hsn1:=hsl2.len
  refine aG Z (q1 (mV Z (o_build bf192 Z Z Z (o_box H Z Z Z ?_))));intro _ _ _ H
  refine aG Z (q3 (W_ret (rt1 results55 Z ?_)))
  exact H.retO (k:=0) rfl ⟨_,_,_,_,_,rfl,rfl,hsl2⟩ (by simp[blk])
 intro hc1'
 try simp only[nrm]at hc1'
 refine W_skip (N_K (q2 (mV Z (o_build bf192 Z Z Z (o_box H Z Z Z ?_)))));intro _ _ _ H
 refine aG Z (q3 (W_ret (rt1 results55 Z ?_)))
 exact H.retO (k:=0) rfl ⟨_,_,_,_,_,rfl,rfl,hcode⟩ (by simp[blk])
theorem pick_c (w0:World)(G0:PH)(hG:PSub G0 w0)(rb:Nat)(ab:Option Addr)(mb kb:Nat)(bs:List UInt8)(p:Nat)(hbs:RdU G0 (.slice ab mb kb) bs)(hrb:w0.heap[rb]? = some (cl [.slice ab mb kb,.int .i64 (p:Int)] 192))(hrn:G0 rb=none)(hp:p≤1000000000000)(n:Int)(hn:inI n) :
  Calls Tryz.prog 57 #[.pointer (some ⟨rb,0,none⟩),.int .i64 n] w0 (RetM w0 G0 [rb] (fun G val Bs=>∃(p':Nat) (x:Nat),p'≤p+1∧val= .int .i64 (x:Int)∧((x:Int)<n∨x=0)∧Bs=[blk rb (cl [.slice ab mb kb,.int .i64 (p':Int)] 192)])):=by
 have hlimbs:bs.length≤1099511627776:=hbs.lim;obtain rfl:mb=bs.length:=hbs.len
 have H:=Hp.initM hG hrb hrn
 refine calls_of_W (l:=[.pointer (some ⟨rb,0,none⟩),.int .i64 n]) func57 Z ntmps57 Z (q2 (aG Z (q1 (pe 3 Z (fA 1 Z (lB 0 H Z3 (aD Z2 (pe 1 Z (fA 1 Z (xst 0 H Z8 ?_))))))))));intro _ H
 refine q3 (W_seq (q2 (pe 3 Z ?_)))
 refine R_case (t:=17) Z ?_ ?_
 ·intro hc3
  try simp only[nrm]at hc3
  refine pe 7 Z (q3 (W_true Z (q2 (aG Z (q3 (W_ret (N_K_ret (rt1 results57 Z ?_))))))))
  exact H.retM ⟨p+1,0,by omega,rfl,.inr rfl,rfl⟩
 intro hc3'
 try simp only[nrm]at hc3'
 refine pe 2 Z (gR Z (fA 0 Z (gR Z (lB 0 H Z3 (gR Z (lN Z (pe 2 Z (q3 ?_))))))))
 refine W_cond Z ?_ ?_
 ·intro hc4
  try simp only[nrm]at hc4
  refine q2 (aG Z (q3 (W_ret (N_K_ret (rt1 results57 Z ?_)))))
  exact H.retM ⟨p+1,0,by omega,rfl,.inr rfl,rfl⟩
 intro hc4'
 try simp only[nrm]at hc4'
 have hm0:0<bs.length:=by omega
 have hm1:=Nat.mod_lt p hm0
 have hm2:=Nat.mod_lt (p*7+3) hm0
 have hq1:0≤((p:Int)+1-1) / (bs.length:Int):=Int.ediv_nonneg oM oM
 have hq2:((p:Int)+1-1) / (bs.length:Int)≤(p:Int)+1-1:=Int.ediv_le_self _ oM
 refine W_skip (N_K (q2 (pe 2 Z (fA 1 Z (lB 0 H Z3 (o_sub Z Z Z oO (aG Z (q3 (W_seq (q2 (pe 3 Z (fA 0 Z (lB 0 H Z3 (lN Z (pe 1 Z ?_)))))))))))))))
 refine q3 ?_
 refine W_cond Z ?_ ?_
 ·intro hc6
  try simp only[nrm]at hc6
  refine q2 (pe 2 Z (fA 0 Z (lB 0 H Z3 (mV Z (iP p hbs Z3 oM ?_)))));intro _ _ z7 _ _ hE7 hrow7
  obtain rfl:=hE7
  have hzl7:=z7.toNat_lt
  refine lP H hrow7 0 Z2 (o_conv (by simp[underlying5]) underlying3 Z Z (wrap_i64 oO) (mV Z (o_rem Z Z Z oM oM (aG Z (q3 (W_ret (N_K_ret (rt1 results57 Z ?_))))))))
  exact H.retM ⟨p+1,_,by omega,congrArg (Value.int .i64) (Int.toNat_of_nonneg (Int.emod_nonneg _ oM)).symm,.inl (by rw[Int.toNat_of_nonneg (Int.emod_nonneg _ oM)];exact Int.emod_lt_of_pos _ oM),rfl⟩
 intro hc6'
 try simp only[nrm]at hc6'
 refine W_skip (N_K (W_seq (W_drawK [0] 46 H kR Z ?_)));intro _ H;have hd8:=PLe.refl G0
 refine dE 0 Z2 (dE 1 Z2 (dF 2 0 Z2 (dB 3 0 Z4 (dE 4 Z2 (dE 5 Z2 (dE 6 Z2 (dF 7 0 Z2 (dB 8 0 Z4 (dN 9 Z2 (RD_t 10 Z kR Z (fun _ hK=>v_rem Z Z oM oM) ?_))))))))))
 have hl9:=hbs.len
 obtain⟨_,_,z9,_,ha9,_,hq9,hE9,hrow9,_⟩:=hbs.at (i:=(p % bs.length)) oM
 clear hq9
 obtain rfl:=hE9
 have hzl9:=z9.toNat_lt
 refine RD_t 11 Z kR Z (fun _ hK=>v_index_P (i:=(p % bs.length)) ha9 underlying22 sizeOf5 Z Z (by rw[Int.add_sub_cancel];exact(Int.natCast_emod _ _).symm) oM) ?_
 refine dP 12 hrow9 0 Z3 (RD_t 13 Z kR Z (fun _ hK=>v_conv (by simp[underlying5]) underlying3 Z (wrap_i64 oO)) (RD_t 14 Z kR Z (fun _ hK=>v_mul Z Z oO) (dE 15 Z2 (dE 16 Z2 (dF 17 0 Z2 (dB 18 0 Z4 (dE 19 Z2 (RD_t 20 Z kR Z (fun _ hK=>v_mul Z Z oO) (RD_t 21 Z kR Z (fun _ hK=>v_add Z Z oO) (dE 22 Z2 (dE 23 Z2 (dF 24 0 Z2 (dB 25 0 Z4 (dN 26 Z2 (RD_t 27 Z kR Z (fun _ hK=>v_rem Z Z oM oM) ?_)))))))))))))))
 have hl13:=hbs.len
 obtain⟨_,_,z13,_,ha13,_,hq13,hE13,hrow13,_⟩:=hbs.at (i:=((p*7+3) % bs.length)) oM
 clear hq13
 obtain rfl:=hE13
 have hzl13:=z13.toNat_lt
 refine RD_t 28 Z kR Z (fun _ hK=>v_index_P (i:=((p*7+3) % bs.length)) ha13 underlying22 sizeOf5 Z Z (by rw[Int.add_sub_cancel];exact(Int.natCast_emod _ _).symm) oM) ?_
 refine dP 29 hrow13 0 Z3 (RD_t 30 Z kR Z (fun _ hK=>v_conv (by simp[underlying5]) underlying3 Z (wrap_i64 oO)) (RD_t 31 Z kR Z (fun _ hK=>v_mul Z Z oO) (RD_t 32 Z kR Z (fun _ hK=>v_add Z Z oO) (dE 33 Z2 (RD_t 34 Z kR Z (fun _ hK=>v_mul Z Z oO) (RD_t 35 Z kR Z (fun _ hK=>v_add Z Z oO) (dE 36 Z2 (dE 37 Z2 (dE 38 Z2 (dF 39 0 Z2 (dB 40 0 Z4 (dN 41 Z2 (RD_t 42 Z kR Z (fun _ hK=>v_quo Z Z oM oM oM) (RD_t 43 Z kR Z (fun _ hK=>v_mul Z Z oO) (RD_t 44 Z kR Z (fun _ hK=>v_add Z Z oO) ?_)))))))))))))))
 refine dE 45 Z2 (rz (N_K (q2 (pe 2 Z (o_quo Z Z Z oM oM oM (o_xor Z Z Z oO oO ?_))))));intro _ _
 refine aG Z (q1 (pe 2 Z (o_rem Z Z Z oM oM (aG Z (q3 (W_ret (rt1 results57 Z ?_)))))))
 exact H.retM ⟨p+1,_,by omega,congrArg (Value.int .i64) (Int.toNat_of_nonneg (Int.emod_nonneg _ oM)).symm,.inl (by rw[Int.toNat_of_nonneg (Int.emod_nonneg _ oM)];exact Int.emod_lt_of_pos _ oM),rfl⟩
theorem of_c (w0:World)(G0:PH)(hG:PSub G0 w0)(rb:Nat)(ab:Option Addr)(mb kb:Nat)(bs:List UInt8)(p:Nat)(hbs:RdU G0 (.slice ab mb kb) bs)(hrb:w0.heap[rb]? = some (cl [.slice ab mb kb,.int .i64 (p:Int)] 192))(hrn:G0 rb=none)(hp:p≤100000000000)(vlist:Value)(list:List (Bs))(hlist:RdT G0 vlist list)(hL:0<list.length) :
  Calls Tryz.prog 58 #[.pointer (some ⟨rb,0,none⟩),vlist] w0 (RetM w0 G0 [rb] (fun G val Bs=>∃(p':Nat) (x:Fw.Bs),p'≤p+1∧val=str x∧x.length≤16777216∧Bs=[blk rb (cl [.slice ab mb kb,.int .i64 (p':Int)] 192)])):=by
 have hlimbs:bs.length≤1099511627776:=hbs.lim;obtain rfl:mb=bs.length:=hbs.len
 obtain⟨alist,klist,rfl⟩:=hlist.shape
 have hlimlist:list.length≤1099511627776:=hlist.lim
 have H:=Hp.initM hG hrb hrn
 refine calls_of_W (l:=[.pointer (some ⟨rb,0,none⟩),.slice alist list.length klist]) func58 Z ntmps58 Z (q2 (aG Z (q1 (pe 3 Z (lN Z (xc Z2 (pick_c _ _ H.sub _ _ _ _ _ _ hbs (H.blkIs (k:=0) Z).1 (H.blkIs (k:=0) Z).2 oM _ oO) ?_))))))
 rintro _ _ ⟨_,_,_,rfl,H1',⟨_,x1,_,rfl,_,rfl⟩⟩
 have hlist:=hlist.up H1'.le
 have H:=H.borrow (k:=0) rfl H1'
 refine⟨_,Z,?_⟩
 refine iP x1 hlist Z3 Z ?_;intro _ _ _ _ _ hE2 hrow2
 obtain⟨rfl,hi2⟩:=hE2;have hy_hi2:_≤16777216:=hi2
 refine lP H hrow2 0 Z2 (aG Z (q3 (W_ret (rt1 results58 Z ?_))))
 exact H.retM ⟨_,_,by omega,rfl,(by assumption),rfl⟩
theorem l91Path_c (w0:World)(G0:PH)(hG:PSub G0 w0)(rb:Nat)(ab:Option Addr)(mb kb:Nat)(bs:List UInt8)(p:Nat)(hbs:RdU G0 (.slice ab mb kb) bs)(hrb:w0.heap[rb]? = some (cl [.slice ab mb kb,.int .i64 (p:Int)] 192))(hrn:G0 rb=none)(hp:p≤10000000000) :
  Calls Tryz.prog 155 #[.pointer (some ⟨rb,0,none⟩)] w0 (RetM w0 G0 [rb] (fun G val Bs=>∃(p':Nat) (x:Fw.Bs),p'≤p+2∧val=str x∧x.length≤16777216∧Bs=[blk rb (cl [.slice ab mb kb,.int .i64 (p':Int)] 192)])):=by
 have hlimbs:bs.length≤1099511627776:=hbs.lim;obtain rfl:mb=bs.length:=hbs.len
 have H:=Hp.initM hG hrb hrn
 refine calls_of_W (l:=[.pointer (some ⟨rb,0,none⟩)]) func155 Z ntmps155 Z (q2 (aG Z (q3 (W_seq (q2 (mV Z (xc Z2 (pick_c _ _ H.sub _ _ _ _ _ _ hbs (H.blkIs (k:=0) Z).1 (H.blkIs (k:=0) Z).2 oM _ oO) ?_)))))))
 rintro _ _ ⟨G1,_,_,rfl,H1',⟨_,_,_,rfl,_,rfl⟩⟩
 have hbs:=hbs.up H1'.le
 have H:=H.borrow (k:=0) rfl H1'
 refine⟨_,Z,?_⟩
 refine pe 1 Z (q3 ?_)
 refine W_cond Z ?_ ?_
 ·intro hc2
  try simp only[nrm]at hc2
  refine q2 (mV Z (xbs H Z7 ?_));intro _ _ _ H
  have H:=H.blkAcc 1 (k:=0) (n:=8) rfl rfl (by decide)
  have hchk5:=(((((((((Chk.nil (E:=strE) (sz:=1) (G:=G1)).snoc (show strE _ ([]:Fw.Bs) [str []] from⟨rfl,by decide⟩) rfl).snoc (show strE _ ([97,47,47,98]:Fw.Bs) [str [97,47,47,98]] from⟨rfl,by decide⟩) rfl).snoc (show strE _ ([47,97]:Fw.Bs) [str [47,97]] from⟨rfl,by decide⟩) rfl).snoc (show strE _ ([97,47]:Fw.Bs) [str [97,47]] from⟨rfl,by decide⟩) rfl).snoc (show strE _ ([65]:Fw.Bs) [str [65]] from⟨rfl,by decide⟩) rfl).snoc (show strE _ ([97,98,99,100,101,102]:Fw.Bs) [str [97,98,99,100,101,102]] from⟨rfl,by decide⟩) rfl).snoc (show strE _ ([97,47,98,47,99,47,100,47,101]:Fw.Bs) [str [97,47,98,47,99,47,100,47,101]] from⟨rfl,by decide⟩) rfl).snoc (show strE _ ([97,47,98,47,99,47,100]:Fw.Bs) [str [97,47,98,47,99,47,100]] from⟨rfl,by decide⟩) rfl)
  obtain⟨_,H,hsg6,hsr6⟩:=H.shutM (k:=0) (j:=0) rfl rfl hchk5 aN aN
  have hbs:=hbs.up hsg6
  refine xc Z2 (of_c _ _ H.sub _ _ _ _ _ _ hbs (H.blkIs (k:=0) Z).1 (H.blkIs (k:=0) Z).2 oM _ _ hsr6 (by first|decide|(simp;done)|(simp;omega))) ?_
  rintro _ _ ⟨_,_,_,rfl,H4',⟨_,_,_,rfl,_,rfl⟩⟩
  have H:=H.borrow (k:=0) rfl H4'
  refine⟨_,Z,?_⟩
  refine aG Z (q3 (W_ret (N_K_ret (rt1 results155 Z ?_))))
  exact H.retM ⟨_,_,by omega,rfl,(by assumption),rfl⟩
 intro hc2'
 try simp only[nrm]at hc2'
 refine W_skip (N_K (q2 (mV Z (xbs H Z7 ?_))));intro _ _ _ H
 have H:=H.blkAcc 1 (k:=0) (n:=8) rfl rfl (by decide)
 have hchk9:=(((((((((Chk.nil (E:=strE) (sz:=1) (G:=G1)).snoc (show strE _ ([97]:Fw.Bs) [str [97]] from⟨rfl,by decide⟩) rfl).snoc (show strE _ ([98]:Fw.Bs) [str [98]] from⟨rfl,by decide⟩) rfl).snoc (show strE _ ([97,47,120]:Fw.Bs) [str [97,47,120]] from⟨rfl,by decide⟩) rfl).snoc (show strE _ ([97,47,121]:Fw.Bs) [str [97,47,121]] from⟨rfl,by decide⟩) rfl).snoc (show strE _ ([98,47,120]:Fw.Bs) [str [98,47,120]] from⟨rfl,by decide⟩) rfl).snoc (show strE _ ([97,47,120,47,112]:Fw.Bs) [str [97,47,120,47,112]] from⟨rfl,by decide⟩) rfl).snoc (show strE _ ([99]:Fw.Bs) [str [99]] from⟨rfl,by decide⟩) rfl).snoc (show strE _ ([97,47,120,47,113]:Fw.Bs) [str [97,47,120,47,113]] from⟨rfl,by decide⟩) rfl)
 obtain⟨_,H,hsg10,hsr10⟩:=H.shutM (k:=0) (j:=0) rfl rfl hchk9 aN aN
 have hbs:=hbs.up hsg10
 refine xc Z2 (of_c _ _ H.sub _ _ _ _ _ _ hbs (H.blkIs (k:=0) Z).1 (H.blkIs (k:=0) Z).2 oM _ _ hsr10 (by first|decide|(simp;done)|(simp;omega))) ?_
 rintro _ _ ⟨_,_,_,rfl,H8',⟨_,_,_,rfl,_,rfl⟩⟩
 have H:=H.borrow (k:=0) rfl H8'
 refine⟨_,Z,?_⟩
 refine aG Z (q3 (W_ret (rt1 results155 Z ?_)))
 exact H.retM ⟨_,_,by omega,rfl,(by assumption),rfl⟩
theorem l91At_c (w0:World)(G0:PH)(hG:PSub G0 w0)(rb:Nat)(ab:Option Addr)(mb kb:Nat)(bs:List UInt8)(p:Nat)(hbs:RdU G0 (.slice ab mb kb) bs)(hrb:w0.heap[rb]? = some (cl [.slice ab mb kb,.int .i64 (p:Int)] 192))(hrn:G0 rb=none)(hp:p≤1000000000)(vlist:Value)(list:List (BItem))(hlist:RdItems G0 vlist list) :
  Calls Tryz.prog 74 #[.pointer (some ⟨rb,0,none⟩),vlist] w0 (RetM w0 G0 [rb] (fun G val Bs=>∃(p':Nat) (x:Fw.Bs),p'≤p+4∧val=str x∧x.length≤16777216∧Bs=[blk rb (cl [.slice ab mb kb,.int .i64 (p':Int)] 192)])):=by
 have hlimbs:bs.length≤1099511627776:=hbs.lim;obtain rfl:mb=bs.length:=hbs.len
 obtain⟨alist,klist,rfl⟩:=hlist.shape
 have hlimlist:list.length≤1099511627776:=hlist.lim
 have H:=Hp.initM hG hrb hrn
 refine calls_of_W (l:=[.pointer (some ⟨rb,0,none⟩),.slice alist list.length klist]) func74 Z ntmps74 Z (q2 (aG Z (q3 (W_seq (q2 (mV Z (lN Z (pe 2 Z ?_))))))))
 refine R_case (t:=8) Z ?_ ?_
 ·intro hc1
  try simp only[nrm]at hc1
  refine pe 1 Z (gR Z (xc Z2 (pick_c _ _ H.sub _ _ _ _ _ _ hbs (H.blkIs (k:=0) Z).1 (H.blkIs (k:=0) Z).2 oM _ oO) ?_))
  rintro _ _ ⟨_,_,_,rfl,H2',⟨_,_,_,rfl,_,rfl⟩⟩
  have hbs:=hbs.up H2'.le
  have hlist:=hlist.up H2'.le
  have H:=H.borrow (k:=0) rfl H2'
  refine⟨_,Z,?_⟩
  refine pe 2 Z (q3 ?_)
  refine W_cond Z ?_ ?_
  ·intro hc3
   try simp only[nrm]at hc3
   refine q2 (pe 3 Z (lN Z (xc Z2 (pick_c _ _ H.sub _ _ _ _ _ _ hbs (H.blkIs (k:=0) Z).1 (H.blkIs (k:=0) Z).2 oM _ oO) ?_)))
   rintro _ _ ⟨_,_,_,rfl,H4',⟨_,x4,_,rfl,_,rfl⟩⟩
   have hlist:=hlist.up H4'.le
   have H:=H.borrow (k:=0) rfl H4'
   refine⟨_,Z,?_⟩
   refine iP x4 hlist Z3 Z ?_;intro _ _ _ _ _ hE5 hrow5
   obtain⟨_,_,_,rfl,_,_,_,_⟩:=ox hE5
   refine fA 0 Z (lP H hrow5 0 Z2 (aG Z (q3 (W_ret (N_K_ret (rt1 results74 Z ?_))))))
   exact H.retM ⟨_,_,by omega,rfl,(by assumption),rfl⟩
  intro hc3'
  try simp only[nrm]at hc3'
  refine W_skip (N_K (q2 (mV Z (xc Z2 (l91Path_c _ _ H.sub _ _ _ _ _ _ hbs (H.blkIs (k:=0) Z).1 (H.blkIs (k:=0) Z).2 oM) ?_))))
  rintro _ _ ⟨_,_,_,rfl,H6',⟨_,_,_,rfl,_,rfl⟩⟩
  have H:=H.borrow (k:=0) rfl H6'
  refine⟨_,Z,?_⟩
  refine aG Z (q3 (W_ret (rt1 results74 Z ?_)))
  exact H.retM ⟨_,_,by omega,rfl,(by assumption),rfl⟩
 intro hc1'
 try simp only[nrm]at hc1'
 refine pe 4 Z (q3 (W_false Z (W_skip (N_K (q2 (mV Z (xc Z2 (l91Path_c _ _ H.sub _ _ _ _ _ _ hbs (H.blkIs (k:=0) Z).1 (H.blkIs (k:=0) Z).2 oM) ?_)))))))
 rintro _ _ ⟨_,_,_,rfl,H7',⟨_,_,_,rfl,_,rfl⟩⟩
 have H:=H.borrow (k:=0) rfl H7'
 refine⟨_,Z,?_⟩
 refine aG Z (q3 (W_ret (rt1 results74 Z ?_)))
 exact H.retM ⟨_,_,by omega,rfl,(by assumption),rfl⟩
end Go.Proofs.Tst
