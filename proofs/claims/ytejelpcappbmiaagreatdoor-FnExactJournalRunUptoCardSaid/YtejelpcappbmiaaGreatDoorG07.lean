/- Part 7 of the proof: contracts of functions of the program. Conditions: none. -/
import Derived.Test.YtejelpcappbmiaaGreatDoorProg
import Derived.Test.YtejelpcappbmiaaGreatDoorG02
import Derived.Test.YtejelpcappbmiaaGreatDoorG03
import Derived.Test.YtejelpcappbmiaaGreatDoorG04
import Derived.Test.YtejelpcappbmiaaGreatDoorG06
set_option linter.all false
set_option maxRecDepth 100000
set_option maxHeartbeats 8000000
namespace Go.Proofs.Tst
open Go Fw Tryz
theorem i_next_c (w0:World)(G0:PH)(hG:PSub G0 w0)(rb:Nat)(ab:Option Addr)(kb:Nat)(bs:List Int)(p:Nat)(hbs:RdI G0 (.slice ab bs.length kb) bs)(hp:p≤bs.length)(hbl:bs.length≤1000000)(hLent:Lent w0 G0 [blk rb (cl [.slice ab bs.length kb,.int .i64 (p:Int)] 299)]) :
  Calls Tryz.prog 249 #[.pointer (some ⟨rb,0,none⟩)] w0 (RetM w0 G0 [rb] (fun G' v Bs=>∃(u:Value) (c:List Value) (p':Nat),v=u∧Bs=[acc 3 1 u (Sp.nextC bs p).length c,blk rb (cl [.slice ab bs.length kb,.int .i64 (p':Int)] 299)]∧p'=min (p+8) bs.length∧Chk intE 1 G' c (Sp.nextC bs p))):=by
 have H:Hp w0 G0 [rb] w0 G0 [blk rb (cl [.slice ab bs.length kb,.int .i64 (p:Int)] 299)]:=hLent.hp
 refine calls_of_W (l:=[.pointer (some ⟨rb,0,none⟩)]) func249 Z ntmps249 Z (q2 (aG Z (q3 (W_seq (W_drawK [0] 12 H kR Z ?_)))));intro _ H;have hd1:=PLe.refl G0
 refine dE 0 Z2 (dE 1 Z2 (dF 2 1 Z2 (dB 3 0 Z4 (RD_t 4 Z kR Z (fun _ hK=>v_add Z Z oO) (dE 5 Z2 (dE 6 Z2 (dF 7 0 Z2 (dB 8 0 Z4 (dN 9 Z2 (RD_t 10 Z kR Z (fun _ hK=>v_min Z Z) (dE 11 Z2 (rz (N_K (W_seq (W_drawK [0] 12 H kR Z ?_)))))))))))))));intro _ H;have hd3:=PLe.refl G0
 refine dE 0 Z2 (dE 1 Z2 (dF 2 0 Z2 (dB 3 0 Z4 (dE 4 Z2 (dE 5 Z2 (dF 6 1 Z2 (dB 7 0 Z4 (dE 8 Z2 ?_))))))))
 have hcap4:=hbs.cap;try simp only[List.length_set,List.length_append,List.length_take,List.length_drop,List.length_replicate]at hcap4
 have hsl4:=hbs.part (i:=p) (j:=(min (p+8) bs.length)) oM oM
 have hsn1:=hsl4.len
 refine RD_t 9 Z kR Z (fun _ hK=>v_slice (i:=p) (j:=(min (p+8) bs.length)) underlying33 sizeOf3 Z Z Z oM oM aN aN) (r1 10 Z ?_)
 have H:=H.addNil 3 1
 refine o_append_P 0 H hsl4 (by intro _ _ hz _ hu;obtain⟨rfl,_⟩:=hz;simp at hu;subst hu;rfl) (sz:=1) (bytes:=8) underlying33 typeInfo3 ⟨_,rfl,rfl⟩ rfl rfl rfl rfl rfl rfl rfl oM rfl ?_;intro _ _ css5 hcl5 hcs5 H
 have hchk5:Chk intE 1 G0 ([]++css5.flatten) _:=⟨css5,rfl,hcl5,hcs5⟩
 obtain⟨_,_,rfl⟩:=H.accShape (k:=0) rfl
 refine q4 H hd3 (dE 11 Z2 (rz (N_K (q2 (pe 3 Z (fA 1 Z (xst 1 H Z8 ?_)))))));intro _ H
 refine q1 (pe 2 Z (q3 (W_ret (rt1 results249 Z ?_))))
 have hcx:(Sp.nextC bs p).length=min (p+8) bs.length-p:=by unfold Sp.nextC;simp;omega
 have hpm:min ((p:Int)+8) (bs.length:Int)=((min (p+8) bs.length:Nat):Int):=by omega
 exact H.retM ⟨_,_,min (p+8) bs.length,rfl,by rw[hcx,hpm];simp only[Nat.zero_add];rfl,rfl,hchk5⟩
theorem i_storeFile_c (w0:World)(G0:PH)(hG:PSub G0 w0)(mbs:Nat)(ess:Array MapEntry)(cks:Nat)(xss:List (Int×Value))(Ls:List BHeld)(hms:MapIs (Value.int .i64) ess cks xss)(hSs:StR G0 xss Ls)(hVs:Sp.VH Ls)(vbytes:Value)(bytes:List (Int))(hbytes:RdI G0 vbytes bytes)(hLent:Lent w0 G0 [blk mbs (.map ess cks)])(hB:Sp.FileValid bytes=true) :
  Calls Tryz.prog 213 #[.map (some mbs),vbytes] w0 (RetM w0 G0 [mbs] (fun G' v Bs=>∃(es':Array MapEntry) (ck':Nat) (xs':List (Int×Value)) (L':List BHeld) (u:Value) (c:List Value) (ids:List Int),v= .tuple #[u,.bool (Sp.FileStore Ls bytes).isSome]∧Bs=[acc 3 1 u ids.length c,blk mbs (.map es' ck')]∧MapIs (Value.int .i64) es' ck' xs'∧StR G' xs' L'∧Sp.VH L'∧(∀r,Sp.FileStore Ls bytes=some r→r=(L',ids))∧Chk intE 1 G' c ids∧ids.length≤1000)):=by
 obtain⟨abytes,kbytes,rfl⟩:=hbytes.shape
 have hlimbytes:bytes.length≤1099511627776:=hbytes.lim
 have hBl:bytes.length≤32:=by simp[Sp.FileValid]at hB;omega
 have H:Hp w0 G0 [mbs] w0 G0 [blk mbs (.map ess cks)]:=hLent.hp
 refine calls_of_W (l:=[.map (some mbs),.slice abytes bytes.length kbytes]) func213 Z ntmps213 Z (q2 (pe 2 Z (q1 (aG Z (q1 (mV Z (o_build bf299 Z Z Z (o_box H Z Z Z ?_))))))));intro b1 _ _ H
 refine aG Z (q3 (W_seq (q2 (mV Z (xc Z2 (i_next_c _ _ H.sub _ _ _ _ 0 hbytes oM oM H.lent1) ?_)))))
 rintro _ _ ⟨G2,_,_,rfl,H2',⟨_,_,_,rfl,rfl,_,hchk2⟩⟩
 have hSs:=hSs.up H2'.le
 have hbytes:=hbytes.up H2'.le
 have H:=H.borrow1 H2'
 obtain⟨_,_,rfl⟩:=H.accShape (k:=0) rfl
 refine⟨_,Z,?_⟩
 refine aG Z (q3 (W_block ?_))
 have H:=H.addNil 3 1
 refine W_lp (hf:=(Sub.cons (t:=0) Z (Sub.cons (t:=7) Z Sub.nil))) (J:=fun M w m=>∃(esm0:Array MapEntry) (ckm0:Nat) (xsm0:List (Int×Value)) (Lm0:List BHeld) (v:Value) (n:Nat) (cs:List Value) (xs:List (Int)) (v1:Value) (n1:Nat) (cs1:List Value) (xs1:List (Int)) (k p:Nat) (G:PH),M=[(6,v),(8,v1)]∧PLe G2 G∧Hp w0 G0 [mbs] w G [acc 3 1 v n cs,acc 3 1 v1 n1 cs1,blk b1 (cl [.slice abytes bytes.length kbytes,.int .i64 (p:Int)] 299),blk mbs (.map esm0 ckm0)]∧(MapIs (Value.int .i64) esm0 ckm0 xsm0∧StR G xsm0 Lm0∧Sp.VH Lm0∧Chk intE 1 G cs xs∧n=xs.length∧Chk intE 1 G cs1 xs1∧n1=xs1.length∧xs1=Sp.chunk bytes k∧p=min (8*k+8) bytes.length∧xs.length≤k∧k≤100∧Sp.foldB Sp.put1 ((Sp.l4Cut bytes).take k) (some (Ls,[]))=some (Lm0,xs))∧m=(100-k)) (h0:=⟨_,_,xss,Ls,_,_,_,[],_,_,_,(Sp.nextC bytes 0),0,_,_,Z,PLe.refl _,H,?inv,Z⟩) (round:=?round)
 case inv=>exact⟨hms,hSs,hVs,(by exact⟨(Chk.nil (E:=intE) (sz:=1) (G:=G2)),(by first|rfl|simp|(simp;omega)|omega),hchk2,by first|rfl|simp|(simp;omega)|omega,(by exact⟨Sp.next_zero _,by omega,by simp,by omega,by simp[Sp.foldB]⟩)⟩)⟩
 case round =>
  rintro _ _ _ ⟨esm0,ckm0,xsm0,Lm0,v,n,cs,xs,v1,n1,cs1,xs1,k,p,_,rfl,hle4,H,hinv4,rfl⟩
  have hbytes:=hbytes.up hle4
  obtain⟨hm4_m0,hS4_m0,hV4_m0,hinv4⟩:=hinv4
  obtain⟨hchk4_0,_,hinv4⟩:=hinv4
  obtain⟨_,_,rfl⟩:=H.accShape (k:=0) rfl
  obtain⟨hchk4_1,_,hinv4⟩:=hinv4
  obtain⟨_,_,rfl⟩:=H.accShape (k:=1) rfl
  obtain⟨rfl,hpk,_,_,hf⟩:=hinv4;have hcl:=Sp.chunk_len bytes k
  refine W_seq (q2 (mV Z (lN Z (pe 1 Z (q3 ?_)))))
  refine W_cond Z ?_ ?_
  ·intro hc5
   try simp only[nrm]at hc5
   refine W_skip (N_K (W_seq (W_block (q2 (pe 2 Z ?_)))))
   obtain⟨_,H,hsg7,hsr7⟩:=H.shutL (k:=1) rfl (H.apart (k:=1) (ks:=[3]) rfl rfl (by intro b hb;simpa [fpsAt,nth,blk] using hb)) hchk4_1 aN aN
   have hbytes:=hbytes.up hsg7
   have hS4_m0:=hS4_m0.up hsg7
   have hchk4_0:=hchk4_0.up hsg7
   have hle4:=hle4.trans hsg7
   have H:=H.tF 2
   refine xc Z2 (i_put_c _ _ H.sub _ _ _ _ _ hm4_m0 hS4_m0 hV4_m0 _ _ hsr7 H.lent1 (Sp.chunk_valid hB oM)) ?_
   rintro _ _ ⟨G6,_,_,rfl,H6',⟨_,_,xs6,L6,i6,rfl,rfl,hm6,hS6,hV6,hL6,_,hir6⟩⟩
   have hbytes:=hbytes.up H6'.le
   have hchk4_0:=hchk4_0.up H6'.le
   have hle4:=hle4.trans H6'.le
   have H:=H.borrow1 H6'
   refine⟨_,Z,?_⟩
   refine pe 5 Z (q3 (W_seq (q2 (pe 2 Z (q3 ?_)))))
   refine W_cond Z ?_ ?_
   ·intro hc8
    try simp only[nrm]at hc8
    refine q2 (pe 2 Z (q3 (W_ret (N_K_ret (N_B_ret (N_K_ret (N_LP_ret (N_B_ret (N_K_ret (rt2 results213 Z Z ?_))))))))))
    have hno:Sp.FileStore Ls bytes=none:=by (have hno:Sp.StorePut Lm0 (Sp.chunk bytes k)=none:=by simpa using hc8);simp only[Sp.FileStore,Sp.valid_iff.2 hVs,hB,Bool.and_self,if_true];exact Sp.foldB_stop hf (Sp.chunks_at oM) (by simp[Sp.put1,hno])
    have H:=H.addNil 3 1
    have H:=H.dl 2
    have H:=H.dl 2
    have H:=H.tF 1
    have H:=H.tF 1
    exact H.retM ⟨_,_,_,_,_,_,_,congrArg (fun b=>Value.tuple #[_,Value.bool b]) (show _=(Sp.FileStore Ls bytes).isSome by rw[hno];rfl),acc_1 aN,hm6,hS6,hV6,(fun r hr=>by rw[hno]at hr;cases hr),(Chk.nil (E:=intE) (sz:=1) (G:=G6)),by first|omega|(simp;done)|(simp;omega)⟩
   intro hc8'
   try simp only[nrm]at hc8'
   obtain⟨⟨r1,r2⟩,hsp⟩:=Option.isSome_iff_exists.1 hc8'
   have hLp:L6=r1:=by rw[hL6,hsp];rfl
   subst hLp
   obtain rfl:i6=r2:=(hir6 _ hsp).symm
   refine W_skip (N_K (W_region (pe 2 Z (xbs H Z7 ?_))));intro _ _ _ H
   refine o_append1 1 H (sz:=1) (bytes:=8) underlying33 typeInfo3 ⟨_,Z,Z⟩ Z Z Z Z Z Z Z Z Z Z oM Z ?_;intro _ _ H
   have hchk10:=hchk4_0.snoc (show intE _ i6 _ from⟨rfl,oO⟩) rfl
   obtain⟨_,_,rfl⟩:=H.accShape (k:=1) rfl
   refine aG Z (R_nil (N_B (N_K (W_region (mV Z ?_)))))
   have H:=H.tF 2
   refine xc Z2 (i_next_c _ _ H.sub _ _ _ _ p hbytes oM oM H.lent1) ?_
   rintro _ _ ⟨_,_,_,rfl,H11',⟨_,_,p11,rfl,rfl,_,hchk11⟩⟩
   have hS6:=hS6.up H11'.le
   have hchk10:=hchk10.up H11'.le
   have hle4:=hle4.trans H11'.le
   have H:=H.borrow1 H11'
   obtain⟨_,_,rfl⟩:=H.accShape (k:=0) rfl
   refine⟨_,Z,?_⟩
   refine aG Z (R_nil ?_)
   have H:=H.tF 2
   have H:=H.tF 2
   have H:=H.tF 2
   have H:=H.tF 3
   refine N_lp (hJ:=⟨_,_,xs6,L6,_,_,_,(xs++[i6]),_,_,_,(Sp.nextC bytes p),k+1,p11,_,Z,hle4,H,?inv,Z⟩) (hm:=?hm)
   case hm=>omega
   case inv=>exact⟨hm6,hS6,hV6,(by exact⟨hchk10,aN,hchk11,aN,(by exact⟨by rw[hpk];exact Sp.next_chunk _ _,by omega,by simp;omega,by omega,Sp.foldB_succ hf (Sp.chunks_at oM) (by simp[Sp.put1,hsp])⟩)⟩)⟩
  intro hc5'
  try simp only[nrm]at hc5'
  refine W_exit (N_K_exit (N_LP_exit (N_B_same (N_K (q2 (pe 3 Z (q3 (W_ret (rt2 results213 Z Z ?_)))))))))
  have hyes:Sp.FileStore Ls bytes=some (Lm0,xs):=by simp only[Sp.FileStore,Sp.valid_iff.2 hVs,hB,Bool.and_self,if_true];exact Sp.foldB_all hf (Sp.chunks_end oM)
  have H:=H.dl 1
  have H:=H.dl 1
  have H:=H.tF 1
  have H:=H.tF 1
  exact H.retM ⟨_,_,_,_,_,_,_,congrArg (fun b=>Value.tuple #[_,Value.bool b]) (show _=(Sp.FileStore Ls bytes).isSome by rw[hyes];rfl),acc_1 aN,hm4_m0,hS4_m0,hV4_m0,(fun r hr=>by rw[hyes]at hr;cases hr;rfl),hchk4_0,by first|omega|(simp;done)|(simp;omega)⟩
theorem i_count_r:∀(N:Nat) (w0:World) (G0:PH) (hG:PSub G0 w0) (t:Nd) (hndt:RdN G0 t) (hct:t.cnt≤100000) (hsz:t.size≤N),
  Calls Tryz.prog 251 #[.pointer (some ⟨t.b,0,none⟩)] w0 (Rets w0 (.int .i64 (t.cnt:Nat))):=by
 intro N
 induction N with
 | zero=>intro w0 G0 hG t hndt hct hsz;exact absurd (Nd.size_pos t) oM
 | succ N ih =>
 intro w0 G0 hG t hndt hct hsz
 obtain⟨_,_,_,_,_,_,_,hprt,hrit,hrkt⟩:=hndt.open
 have hn_hrit:=hrit.len;have hx_hrit:_≤1099511627776:=hrit.lim
 have hn_hrkt:=hrkt.len;have hx_hrkt:_≤1099511627776:=hrkt.lim
 subst hn_hrkt
 have H:=Hp.init hG
 refine calls_of_W (l:=[.pointer (some ⟨t.b,0,none⟩)]) func251 Z ntmps251 Z (q2 (aG Z (q1 (pe 2 Z (fA 3 Z (lP H hprt 3 Z2 (lN Z (aG Z (q3 (W_seq (q2 (pe 2 Z (fA 3 Z (lP H hprt 3 Z2 (lN Z ?_)))))))))))))))
 refine mV Z (q3 (W_block ?_))
 refine W_lp (hf:=(Sub.cons (t:=2) Z (Sub.cons (t:=14) Z (Sub.cons (t:=15) Z Sub.nil)))) (J:=fun M w m=>∃(k mm:Nat) (G:PH),M=[(16,.int .i64 (k:Int)),(3,.int .i64 (mm:Int))]∧PLe G0 G∧Hp w0 G0 [] w G []∧(k≤t.kids.length∧mm=Nd.cnts (t.kids.take k)+(t.kids.length-k))∧m=(t.kids.length-k)) (h0:=⟨0,t.kids.length,_,Z,PLe.refl _,H,?inv,Z⟩) (round:=?round)
 case inv=>simp[Nd.cnts]
 case round =>
  rintro _ _ _ ⟨k,mm,_,rfl,hle1,H,hinv1,rfl⟩
  have hrkt:=hrkt.up hle1
  obtain⟨_,hm⟩:=hinv1;have hct2:=Nd.cnts_take t.kids k;have hct3:=Nd.cnt_eq t;have hkl:=Nd.kids_le t
  refine q2 (pe 1 Z (q3 (W_seq ?_)))
  refine W_cond Z ?_ ?_
  ·intro hc2
   try simp only[nrm]at hc2
   refine W_skip (N_K (W_seq (W_block (q2 (iP k hrkt Z3 Z ?_)))));intro _ _ z3 _ hz3 hE3 hrow3
   obtain⟨rfl,hnd3⟩:=hE3;obtain⟨_,_,_,_,_,_,_,_,hri3,hrk3⟩:=hnd3.open;have hn_hri3:=hri3.len;have hx_hri3:_≤1099511627776:=hri3.lim;have hn_hrk3:=hrk3.len;have hx_hrk3:_≤1099511627776:=hrk3.lim
   have hzm:=List.mem_of_getElem? hz3;have hzc:=Nd.kid_cnt hzm;have hzs:=Nd.size_kid hzm
   refine lP H hrow3 0 Z2 (aG Z (q3 (W_region (pe 2 Z (xr H Z2 (ih _ _ H.sub _ hnd3 oM oM) ?_)))));intro _ H
   refine aD Z2 (aG Z (R_nil (N_B (N_K (W_region (aD Z2 (mV Z (R_nil ?_))))))))
   refine N_lp (hJ:=⟨k+1,(mm+z3.cnt),_,Z,hle1,H,?inv,Z⟩) (hm:=?hm)
   case hm=>omega
   case inv=>exact⟨by omega,by (rw[Nd.cnts_succ hz3];omega)⟩
  intro hc2'
  try simp only[nrm]at hc2'
  refine W_exit (N_K_exit (N_LP_exit (N_B_same (N_K (q2 (pe 2 Z (q3 (W_ret (rt1 results251 Z ?_)))))))))
  exact H.rets (congrArg (fun j:Nat=>Value.int .i64 (j:Int)) (by (rw[hm,List.take_of_length_le oM]);omega))
theorem i_count_c (w0:World)(G0:PH)(hG:PSub G0 w0)(t:Nd)(hndt:RdN G0 t)(hct:t.cnt≤100000) :
  Calls Tryz.prog 251 #[.pointer (some ⟨t.b,0,none⟩)] w0 (Rets w0 (.int .i64 (t.cnt:Nat))):=i_count_r _ w0 G0 hG t hndt hct (Nat.le_refl _)
theorem i_put_n_c (w0:World)(G0:PH)(hG:PSub G0 w0)(Ft:Fr)(t:Nd)(hNt:NdO 138 119 G0 t Ft)(cx:List Value)(x:BItem)(hx:itemE G0 x cx)(hLent:Lent w0 G0 [frag Ft])(hwt:t.wf)(hct:t.cnt≤1000) :
  Calls Tryz.prog 214 #[.pointer (some ⟨t.b,0,none⟩),.agg cx.toArray] w0 (RetM w0 G0 (fps [frag Ft]) (fun G' v Bs=>∃(nb:Nat) (F':Fr) (t':Nd),v= .bool (t.putN x nb).isSome∧Bs=[frag F']∧NdO 138 119 G' t' F'∧t'.b=t.b∧(t.putN x nb).getD t=t')):=by
 obtain⟨_,_,_,rfl,hi1,hr1,_,_⟩:=ox hx
 have H:Hp w0 G0 (fps [frag Ft]) w0 G0 [frag Ft]:=hLent.hp
 refine calls_of_W (l:=[.pointer (some ⟨t.b,0,none⟩),_]) func214 Z ntmps214 Z (q2 (o_box H Z Z Z ?_));intro _ _ hb2 H
 refine aG Z (q1 (mV Z (fA 0 Z (lB 0 H Z3 (xc Z2 (i_find_n_c _ _ (H.lendSubL [1]) _ ((H.lendN (k:=1) (ks:=[1]) Z Z hNt).at (show Nd.at_ t []=some t from Z)) _ hi1 hwt) ?_)))))
 rintro _ _ ⟨_,rfl,ew3,⟨hfi3,rfl⟩|⟨_,hfi3,rfl⟩⟩
 ·skip
  have H:=H.step ew3;refine⟨_,rfl,?_⟩
  refine aG Z (q3 (W_seq (q2 (mV Z (o_eqnil_ptr underlying119 Z Z Z (q3 (W_true Z (q2 (mV Z (xr H Z2 (i_count_c _ _ (H.lendSubL [1]) _ ((H.lendN (k:=1) (ks:=[1]) Z Z hNt).at (show Nd.at_ t []=some t from Z)) oM) ?_))))))))));intro _ H
  refine pe 2 Z ?_
  refine R_case (t:=15) Z ?_ ?_
  ·intro hc5
   try simp only[nrm]at hc5
   refine pe 1 Z (gR Z (lA 0 3 H Z4 (gR Z ?_)))
   have H:=H.tF 1
   refine xc Z2 (i_insert_c _ _ H.sub _ _ hNt _ x ⟨_,_,_,Z,hi1,hr1⟩ H.lent1 hwt hct) ?_
   rintro _ _ ⟨_,_,_,rfl,H6',⟨nb6,_,_,rfl,rfl,hN6,hb6,ht6⟩⟩
   have H:=H.borrow1 H6'
   try rw[←hb6]
   refine⟨_,Z,?_⟩
   refine pe 2 Z (q3 (W_ret (N_K_ret (rt1 results214 Z ?_))))
   have H:=H.dl 1
   have hput:=Nd.put_ins (nb:=nb6) hfi3 oM
   exact H.retM ⟨nb6,_,_,by (rw[hput];rfl),rfl,hN6,by (first|exact hb6|rfl),by (rw[hput];exact ht6)⟩
  intro hc5'
  try simp only[nrm]at hc5'
  refine pe 5 Z (q3 (W_ret (N_K_ret (rt1 results214 Z ?_))))
  have H:=H.dl 0
  have hput:=Nd.put_no1 (nb:=0) hfi3 oM
  exact H.retM ⟨0,_,_,by (rw[hput];rfl),rfl,hNt,rfl,by (rw[hput];rfl)⟩
 skip
 have H:=H.step ew3;refine⟨_,rfl,?_⟩
 refine aG Z (q3 (W_seq (q2 (mV Z (o_eqnil_ptr underlying119 Z Z Z (q3 (W_false Z (W_skip (N_K (W_seq (q2 ?_)))))))))))
 have H:=H.tF 1
 obtain⟨_,_,_,_,oFs,_,H,ohri,ohNs,_,_,hcov,hclose⟩:=Hp.openNode H hNt (Nd.find_at_ hfi3)
 obtain⟨_,_,rfl⟩:=H.accShape (k:=1) rfl;have hdo:=PLe.refl G0;have hn_ohri:=ohri.len
 refine pe 2 Z (fA 1 Z (lB 0 H Z3 (mV Z ?_)))
 refine R_case (t:=24) Z ?_ ?_
 ·intro hc7
  try simp only[nrm]at hc7
  refine pe 3 Z (q3 (W_true Z (q2 (aG Z (q3 (W_ret (N_K_ret (rt1 results214 Z ?_))))))))
  have H:=H.dl 3
  have H:=H.tF 2
  have H:=H.tF 2
  have H:=H.tF 2
  obtain⟨F2,H,hN2,hb2⟩:=hclose (Fs':=oFs) H (List.Perm.refl _) hdo ohri ohNs oM
  have hN2:=(Nd.upd_same (Nd.find_at_ hfi3))▸hN2
  have hput:=Nd.put_no2 (x:=x) (nb:=0) hfi3 (by simp_all)
  exact H.retM ⟨0,_,_,by (rw[hput];rfl),rfl,hN2,rfl,by (rw[hput];rfl)⟩
 intro hc7'
 try simp only[nrm]at hc7'
 refine gR Z (fA 1 Z (gR Z (lB 3 H Z3 (pe 1 Z (q3 ?_)))))
 refine W_cond Z ?_ ?_
 ·intro hc8
  try simp only[nrm]at hc8
  refine q2 (aG Z (q3 (W_ret (N_K_ret (rt1 results214 Z ?_)))))
  have H:=H.dl 3
  have H:=H.tF 2
  have H:=H.tF 2
  have H:=H.tF 2
  obtain⟨F2,H,hN2,hb2⟩:=hclose (Fs':=oFs) H (List.Perm.refl _) hdo ohri ohNs oM
  have hN2:=(Nd.upd_same (Nd.find_at_ hfi3))▸hN2
  have hput:=Nd.put_no2 (x:=x) (nb:=0) hfi3 (by simp_all)
  exact H.retM ⟨0,_,_,by (rw[hput];rfl),rfl,hN2,rfl,by (rw[hput];rfl)⟩
 intro hc8'
 try simp only[nrm]at hc8'
 refine W_skip (N_K (q2 (mV Z (fA 2 Z (lB 3 H Z3 (xc Z2 (l_Clone_c _ _ H.sub _ _ hr1) ?_))))))
 rintro _ _ ⟨_,_,_,g9,rfl,⟨_,rfl,hchk9⟩,hp9,hq9,hs9⟩
 have H:=H.growO g9 hp9 hq9 hs9;obtain⟨_,_,rfl⟩:=H.accShape (k:=0) rfl
 have ohNs:=ohNs.up g9.le
 have hdo:=hdo.trans g9.le
 refine⟨_,Z,?_⟩
 obtain⟨_,H,hsg10,hsr10⟩:=H.shutL (k:=0) rfl (H.apart (k:=0) (ks:=[1,2,3]) rfl rfl (by intro b hb;rcases hcov b hb with h|h|h;(· exact fpsAt_mem (k:=1) rfl rfl b (by simp[blk,h]));(· exact fpsAt_mem (k:=2) rfl rfl b h);(· exact fpsAt_mem (k:=3) rfl rfl b h))) hchk9 aN aN
 have ohNs:=ohNs.up hsg10
 have hdo:=hdo.trans hsg10
 refine pe 1 Z (fA 2 Z (xst 0 H Z8 ?_));intro _ H
 refine q1 (aG Z (q3 (W_ret (rt1 results214 Z ?_))))
 have H:=H.dl 3
 have H:=H.tF 2
 have H:=H.tF 2
 have H:=H.tF 2
 obtain⟨F2,H,hN2,hb2⟩:=hclose (ids':=x.ids) (Fs':=oFs) H (List.Perm.refl _) hdo hsr10 ohNs oM
 have hput:=Nd.put_set (nb:=0) hfi3 (by simp_all)
 exact H.retM ⟨0,_,_,by (rw[hput];rfl),rfl,hN2,hb2,by (rw[hput];rfl)⟩
theorem i_drop_n_c (w0:World)(G0:PH)(hG:PSub G0 w0)(Ft:Fr)(t:Nd)(hNt:NdO 138 119 G0 t Ft)(path:Bs)(hpath:path.length≤16777216)(hLent:Lent w0 G0 [frag Ft])(hwt:t.wf)(hct:t.cnt≤1000) :
  Calls Tryz.prog 254 #[.pointer (some ⟨t.b,0,none⟩),str path] w0 (RetM w0 G0 (fps [frag Ft]) (fun G' v Bs=>∃(F' Fk:Fr) (t':Nd),v= .bool (t.dropN path).isSome∧Bs=[frag F',frag Fk]∧NdO 138 119 G' t' F'∧t'.b=t.b∧(t.dropN path).getD t=t'∧((t.dropN path).isSome=true→∃k,t.find path=some k∧NdO 138 119 G' k Fk))):=by
 have H:Hp w0 G0 (fps [frag Ft]) w0 G0 [frag Ft]:=hLent.hp
 refine calls_of_W (l:=[.pointer (some ⟨t.b,0,none⟩),str path]) func254 Z ntmps254 Z (q2 (aG Z (q1 (pe 2 Z (xc Z2 (i_dirOf_c _ _ (H.lendSubL [0]) _ ((H.lendN (k:=0) (ks:=[0]) Z Z hNt).at (show Nd.at_ t []=some t from Z)) _ hpath hwt) ?_)))))
 rintro _ _ ⟨_,rfl,ew1,⟨hdf1,rfl⟩|⟨d1,nm1,hdf1,rfl⟩⟩
 ·skip
  have H:=H.step ew1;refine⟨_,rfl,?_⟩
  refine pe 5 Z (q3 (W_seq (q2 (mV Z (o_eqnil_ptr underlying119 Z Z Z (q3 (W_true Z (q2 (aG Z (q3 (W_ret (N_K_ret (rt1 results254 Z ?_)))))))))))))
  have hdr:=Nd.drop_no1 hdf1
  have H:=(H.addF).swap0
  exact H.retM ⟨_,[],_,by (rw[hdr];rfl),rfl,hNt,rfl,by (rw[hdr];rfl),fun h=>by rw[hdr]at h;cases h⟩
 skip
 have H:=H.step ew1;refine⟨_,rfl,?_⟩
 have hnml1:=Nd.dir_len hdf1
 refine pe 5 Z (q3 (W_seq (q2 (mV Z (o_eqnil_ptr underlying119 Z Z Z (q3 (W_false Z (W_skip (N_K (q2 (pe 2 Z (xr H Z2 (i_place_c _ _ (H.lendSubL [0]) _ ((H.lendN (k:=0) (ks:=[0]) Z Z hNt).at (Nd.dirOf_some hdf1).2.2.1) _ hnml1 (Nd.dir_wf hwt hdf1)) ?_))))))))))));intro _ H
 refine pe 5 Z (q3 (W_seq (q2 (pe 3 Z ?_))))
 refine R_case (t:=25) Z ?_ ?_
 ·intro hc3
  try simp only[nrm]at hc3
  refine pe 13 Z (q3 (W_true Z (q2 (aG Z (q3 (W_ret (N_K_ret (rt1 results254 Z ?_))))))))
  have hdr:=Nd.drop_no2 hdf1 (by simpa using hc3)
  have H:=(H.addF).swap0
  exact H.retM ⟨_,[],_,by (rw[hdr];rfl),rfl,hNt,rfl,by (rw[hdr];rfl),fun h=>by rw[hdr]at h;cases h⟩
 intro hc3'
 try simp only[nrm]at hc3'
 obtain⟨_,_,_,_,oFs,oR,H,ohri,ohNs,_,_,_,hclose⟩:=Hp.openNode H hNt (Nd.dirOf_some hdf1).2.2.1
 obtain⟨_,_,rfl⟩:=H.accShape (k:=1) rfl;have hdo:=PLe.refl G0;have hn_ohri:=ohri.len
 obtain⟨kk,hq⟩:=Option.isSome_iff_exists.1 hc3'
 have hpl:d1.kids[Sp.pl d1.kids nm1]? = some kk:=Nd.place_some (Nd.dir_wf hwt hdf1) hq
 have hplt:=(List.getElem?_eq_some_iff.1 hpl).1;have hcd:=Nd.at_cnt (Nd.dirOf_some hdf1).2.2.1;have hcl:=Nd.kids_le d1
 have H:=H.tF 2
 obtain⟨_,_,_,_,_,kFk,kF,H,khri,khN,khNs,khp⟩:=Hp.openKid H ohNs hpl
 have hn_khri:=khri.len
 refine pe 2 Z (gR Z (fA 3 Z (gR Z (lB 2 H Z3 (pe 1 Z (gR Z (o_index_A 3 H (Sp.pl d1.kids nm1) Z (chkK _) underlying136 sizeOf119 Z Z Z Z aN aN ?_)))))));intro _ _ _ hba4 hz4 hE4 hg4;cases hba4
 obtain rfl:=hE4
 refine gR Z (o_load_A 3 H isAgg119 Z Z Z (hg4 0 _ Z) ?_)
 have hzk:=Option.some.inj (hz4.symm.trans hpl);subst hzk
 refine pe 1 Z (gR Z (fA 3 Z (gR Z (lB 0 H Z3 (gR Z (lN Z (pe 2 Z (q3 ?_))))))))
 refine W_cond Z ?_ ?_
 ·intro hc5
  try simp only[nrm]at hc5
  refine q2 (aG Z (q3 (W_ret (N_K_ret (rt1 results254 Z ?_)))))
  have H:=H.tF 3
  have H:=H.tF 3
  have H:=H.tF 3
  have H:=H.tF 3
  have H:=H.inF
  have H:=H.tF 2
  have H:=H.tF 2
  obtain⟨F2,H,hN2,hb2⟩:=hclose (Fs':=oFs) H (by simpa using List.Perm.append_right oR khp.symm) hdo ohri ohNs oM
  have hN2:=(Nd.upd_same (Nd.dirOf_some hdf1).2.2.1)▸hN2
  have hdr:=Nd.drop_no3 hdf1 hq (by first|omega|(simp_all;done)|(simp_all;omega))
  have H:=(H.addF).swap0
  exact H.retM ⟨_,[],_,by (rw[hdr];rfl),rfl,hN2,rfl,by (rw[hdr];rfl),fun h=>by rw[hdr]at h;cases h⟩
 intro hc5'
 try simp only[nrm]at hc5'
 refine W_skip (N_K (q2 (pe 3 Z (fA 3 Z (lB 2 H Z3 (pe 2 Z (aD Z2 ?_)))))))
 have H:=H.tF 3
 refine xc Z2 (l_Delete_c _ _ H.sub _ _ (Sp.pl d1.kids nm1) oM oM H.lent1) ?_
 rintro _ _ ⟨_,_,_,rfl,H7',⟨_,rfl,rfl⟩⟩
 have ohri:=ohri.up H7'.le
 have khN:=khN.up H7'.le
 have khNs:=khNs.up H7'.le
 have hdo:=hdo.trans H7'.le
 have H:=H.borrow1 H7'
 obtain⟨_,_,rfl⟩:=H.accShape (k:=0) rfl
 refine⟨_,Z,?_⟩
 refine pe 1 Z (fA 3 Z (xst 3 H Z8 ?_));intro _ H
 refine q1 (aG Z (q3 (W_ret (rt1 results254 Z ?_))))
 have H:=H.tF 3
 have H:=H.tF 3
 have H:=H.tF 3
 have H:=H.inF
 have H:=Hp.splitF (F:=(_,_)::kFk) (F':=kF++oR) H
 have H:=H.tF 1
 have H:=H.tF 3
 have H:=H.tF 3
 have hkl:(d1.kids.take (Sp.pl d1.kids nm1)++d1.kids.drop (Sp.pl d1.kids nm1+1)).length=d1.kids.length-1:=by (simp;omega)
 obtain⟨F2,H,hN2,hb2⟩:=hclose (kids':=(d1.kids.take (Sp.pl d1.kids nm1)++d1.kids.drop (Sp.pl d1.kids nm1+1))) (Fs':=kF) (by (rw[hkl];exact H)) (List.Perm.refl _) hdo ohri khNs oM
 have hdr:=Nd.drop_yes hdf1 hq (by first|omega|(simp_all;done)|(simp_all;omega))
 exact H.retM ⟨_,_,_,by (rw[hdr];rfl),rfl,hN2,hb2,by (rw[hdr];rfl),fun _=>⟨_,by (rw[Nd.find_yes hdf1,Nd.at_one];exact hq),khN⟩⟩
theorem i_vwrite_c (w0:World)(G0:PH)(hG:PSub G0 w0)(mb:Nat)(es:Array MapEntry)(ck:Nat)(xs:List (Int×Value))(T:Nd)(FT:Fr)(L:List BHeld)(l:List BItem)(hm:MapIs (Value.int .i64) es ck xs)(hS:StR G0 xs L)(hN:NdO 138 119 G0 T FT)(hT:Nd.TOK T l)(hH:Sp.Hol L l)(path:Bs)(hpath:path.length≤16777216)(vbytes:Value)(bytes:List (Int))(hbytes:RdI G0 vbytes bytes)(hLent:Lent w0 G0 [blk mb (.map es ck),frag FT])(hB:Sp.FileValid bytes=true) :
  Calls Tryz.prog 164 #[.agg #[.map (some mb),.pointer (some ⟨T.b,0,none⟩)],str path,vbytes] w0 (RetM w0 G0 (fps [blk mb (.map es ck),frag FT]) (fun G' v Bs=>∃(es':Array MapEntry) (ck':Nat) (xs':List (Int×Value)) (F':Fr) (T':Nd) (L':List BHeld),v= .bool ((Sp.l11Write ⟨L,l⟩ path bytes)).isSome∧Bs=[blk mb (.map es' ck'),frag F']∧MapIs (Value.int .i64) es' ck' xs'∧StR G' xs' L'∧Sp.VH L'∧NdO 138 119 G' T' F'∧T'.b=T.b∧∀u',(Sp.l11Write ⟨L,l⟩ path bytes)=some u'→L'=u'.store∧Nd.TOK T' u'.tree∧Sp.Hol u'.store u'.tree)):=by
 obtain⟨abytes,kbytes,rfl⟩:=hbytes.shape
 have hlimbytes:bytes.length≤1099511627776:=hbytes.lim
 have H:Hp w0 G0 (fps [blk mb (.map es ck),frag FT]) w0 G0 [blk mb (.map es ck),frag FT]:=hLent.hp
 have hVd:=hH.vh;have hTc:=hT.cnt;have hTl:=hH.vt.len
 refine calls_of_W (l:=[_,str path,.slice abytes bytes.length kbytes]) func164 Z ntmps164 Z (q2 (o_box H Z Z Z ?_));intro _ _ _ H
 refine aG Z (q3 (W_seq (q2 (mV Z (xr H Z2 (i_PathValid_c _ _ H.sub _ hpath) ?_)))));intro _ H
 refine pe 1 Z (q3 ?_)
 refine W_cond Z ?_ ?_
 ·intro hc3
  try simp only[nrm]at hc3
  refine q2 (aG Z (q3 (W_ret (N_K_ret (rt1 results164 Z ?_)))))
  have H:=H.dl 0
  have H:=H.tF 1
  have H:=H.tF 1
  have hno:Sp.l11Write ⟨L,l⟩ path bytes=none:=Sp.write_nop (by simpa using hc3)
  exact H.retM ⟨_,_,_,_,_,_,congrArg Value.bool (by (rw[hno];rfl)),rfl,hm,hS,hVd,hN,rfl,fun u' h=>(by rw[hno]at h;cases h)⟩
 intro hc3'
 try simp only[nrm]at hc3'
 refine W_skip (N_K (q2 (fA 0 Z (lB 0 H Z3 (mV Z ?_)))))
 have H:=H.tF 1
 refine xc Z2 (i_storeFile_c _ _ H.sub _ _ _ _ _ hm hS hVd _ _ hbytes H.lent1 hB) ?_
 rintro _ _ ⟨_,_,_,rfl,H4',⟨_,_,_,L4,_,_,ids4,rfl,rfl,hm4,hS4,hV4,hL4,hchk4,_⟩⟩
 have hN:=hN.up H4'.le
 have H:=H.borrow1 H4'
 obtain⟨_,_,rfl⟩:=H.accShape (k:=0) rfl
 refine⟨_,Z,?_⟩
 refine pe 5 Z (q3 (W_seq (q2 (pe 2 Z (q3 ?_)))))
 refine W_cond Z ?_ ?_
 ·intro hc5
  try simp only[nrm]at hc5
  refine q2 (aG Z (q3 (W_ret (N_K_ret (rt1 results164 Z ?_)))))
  have H:=H.dl 0
  have H:=H.dl 1
  have H:=H.tF 1
  have H:=H.tF 1
  have hno:Sp.l11Write ⟨L,l⟩ path bytes=none:=Sp.l11Write_1 (v:=⟨L,l⟩) (by simpa using hc5)
  exact H.retM ⟨_,_,_,_,_,_,congrArg Value.bool (by (rw[hno];rfl)),rfl,hm4,hS4,hV4,hN,rfl,fun u' h=>(by rw[hno]at h;cases h)⟩
 intro hc5'
 try simp only[nrm]at hc5'
 refine W_skip (N_K (q2 ?_))
 obtain⟨G6,H,hsg6,hsr6⟩:=H.shutL (k:=0) rfl (H.apart (k:=0) (ks:=[1,3]) rfl rfl (by intro b hb;simp only[fps,List.flatMap_cons,List.flatMap_nil,List.append_nil,List.mem_append]at hb;rcases hb with h|h;(· exact fpsAt_mem (k:=1) rfl rfl b (by exact h));(· exact fpsAt_mem (k:=3) rfl rfl b (by exact h)))) hchk4 aN aN
 have hN:=hN.up hsg6
 have hS4:=hS4.up hsg6
 refine aG Z (q3 (W_seq (q2 (fA 1 Z (lB 1 H Z3 (mV Z (xc Z2 (i_find_n_c _ _ (H.lendSubL [2]) _ ((H.lendN (k:=2) (ks:=[2]) Z Z hN).at (show Nd.at_ T []=some T from Z)) _ hpath hT.wf) ?_)))))))
 rintro _ _ ⟨_,rfl,ew7,⟨hfi7,rfl⟩|⟨d7,hfi7,rfl⟩⟩
 ·skip
  have H:=H.step ew7;refine⟨_,rfl,?_⟩
  refine aG Z (q1 (mV Z (o_nenil_ptr underlying119 Z Z Z (q3 (W_false Z (W_skip (N_K (q2 (fA 1 Z (lB 1 H Z3 (pe 2 Z (o_build bf35 Z Z Z ?_))))))))))))
  have H:=H.tF 2
  refine xc Z2 (i_put_n_c _ _ H.sub _ _ hN _ ⟨path,false,ids4⟩ ⟨_,_,_,Z,hpath,hsr6⟩ H.lent1 hT.wf oM) ?_
  rintro _ _ ⟨_,_,_,rfl,H8',⟨nb8,_,t8,rfl,rfl,hN8,hb8,ht8⟩⟩
  have hS4:=hS4.up H8'.le
  have H:=H.borrow1 H8'
  try rw[←hb8]
  refine⟨_,Z,?_⟩
  refine mV Z ?_
  refine R_case (t:=39) Z ?_ ?_
  ·intro hc9
   try simp only[nrm]at hc9
   refine gR Z (fA 0 Z (gR Z (lB 2 H Z3 (pe 1 Z (gR Z ?_)))))
   have H:=H.tF 1
   refine xc Z2 (i_freeFile_c _ _ H.sub _ _ _ _ _ hm4 hS4 hV4 _ _ (RdS.nil _ _ _) H.lent1) ?_
   rintro _ _ ⟨_,_,_,rfl,H10',⟨_,_,_,_,rfl,rfl,hm10,hS10,hV10,hL10⟩⟩
   have hN8:=hN8.up H10'.le
   have H:=H.borrow1 H10'
   refine⟨_,Z,?_⟩
   refine pe 2 Z (q3 (W_ret (rt1 results164 Z ?_)))
   have H:=H.dl 2
   have H:=H.tF 1
   have H:=H.tF 1
   obtain⟨r,hr⟩:=Option.isSome_iff_exists.1 (show(Sp.FileStore L bytes).isSome=true by simpa using hc5')
   have hst:Sp.FileStore L bytes=some (L4,ids4):=hr.trans (congrArg some (hL4 r hr))
   have hpt:T.putN ⟨path,false,ids4⟩ nb8=some t8:=by (obtain⟨q,hq⟩:=Option.isSome_iff_exists.1 (show(T.putN ⟨path,false,ids4⟩ nb8).isSome=true by simpa using hc9);(rw[←ht8,hq];rfl))
   obtain⟨s',tt,g1,g2,g3,g4⟩:=Sp.write_fin hH hT (show Sp.PathValid path=true by simpa using hc3') hst hpt (.inl ⟨hfi7,rfl⟩)
   exact H.retM ⟨_,_,_,_,_,_,congrArg Value.bool (by (rw[g1,g2];rfl)),rfl,hm10,hS10,hV10,hN8,(by first|rfl|exact hb8),fun u' h=>(by rw[g2]at h;cases h;exact⟨hL10 _ g1,g3,g4⟩)⟩
  intro hc9'
  try simp only[nrm]at hc9'
  refine pe 6 Z (q3 (W_ret (rt1 results164 Z ?_)))
  have H:=H.dl 2
  have H:=H.tF 1
  obtain⟨r,hr⟩:=Option.isSome_iff_exists.1 (show(Sp.FileStore L bytes).isSome=true by simpa using hc5')
  have hst:Sp.FileStore L bytes=some (L4,ids4):=hr.trans (congrArg some (hL4 r hr))
  have hno:Sp.l11Write ⟨L,l⟩ path bytes=none:=Sp.write_no2 (nb:=nb8) hH hT (show Sp.PathValid path=true by simpa using hc3') hst (by simpa using hc9')
  exact H.retM ⟨_,_,_,_,_,_,congrArg Value.bool (by (rw[hno];rfl)),rfl,hm4,hS4,hV4,hN8,(by first|rfl|exact hb8),fun u' h=>(by rw[hno]at h;cases h)⟩
 skip
 have H:=H.step ew7;refine⟨_,rfl,?_⟩
 refine aG Z (q1 (mV Z (o_nenil_ptr underlying119 Z Z Z (q3 (W_true Z (W_region ?_))))))
 have H:=H.tF 2
 obtain⟨_,_,_,_,oFs,_,H,ohri,ohNs,_,_,_,hclose⟩:=Hp.openNode H hN (Nd.find_at_ hfi7)
 obtain⟨_,_,rfl⟩:=H.accShape (k:=1) rfl;have hdo:=PLe.refl G6;have hn_ohri:=ohri.len
 refine pe 2 Z (fA 2 Z (lB 0 H Z3 (aG Z (q1 ?_))))
 have H:=H.tF 4
 have H:=H.tF 4
 have H:=H.tF 4
 have H:=H.tF 4
 have H:=H.tF 4
 obtain⟨_,H,hN2,_⟩:=hclose (Fs':=oFs) H (List.Perm.refl _) hdo ohri ohNs oM
 have hN2:=(Nd.upd_same (Nd.find_at_ hfi7))▸hN2
 refine fA 1 Z (lB 2 H Z3 (pe 2 Z (o_build bf35 Z Z Z (xc Z2 (i_put_n_c _ _ H.sub _ _ hN2 _ ⟨path,false,ids4⟩ ⟨_,_,_,Z,hpath,hsr6⟩ H.lent1 hT.wf oM) ?_))))
 rintro _ _ ⟨_,_,_,rfl,H11',⟨nb11,_,t11,rfl,rfl,hN11,hb11,ht11⟩⟩
 have hS4:=hS4.up H11'.le
 have ohri:=ohri.up H11'.le
 have H:=H.borrow1 H11'
 try rw[←hb11]
 refine⟨_,Z,?_⟩
 refine mV Z ?_
 refine R_case (t:=39) Z ?_ ?_
 ·intro hc12
  try simp only[nrm]at hc12
  refine gR Z (fA 0 Z (gR Z (lB 2 H Z3 (pe 1 Z (gR Z ?_)))))
  have H:=H.tF 1
  refine xc Z2 (i_freeFile_c _ _ H.sub _ _ _ _ _ hm4 hS4 hV4 _ _ ohri H.lent1) ?_
  rintro _ _ ⟨_,_,_,rfl,H13',⟨_,_,_,_,rfl,rfl,hm13,hS13,hV13,hL13⟩⟩
  have hN11:=hN11.up H13'.le
  have H:=H.borrow1 H13'
  refine⟨_,Z,?_⟩
  refine pe 2 Z (q3 (W_ret (rt1 results164 Z ?_)))
  have H:=H.dl 2
  have H:=H.tF 1
  have H:=H.tF 1
  obtain⟨r,hr⟩:=Option.isSome_iff_exists.1 (show(Sp.FileStore L bytes).isSome=true by simpa using hc5')
  have hst:Sp.FileStore L bytes=some (L4,ids4):=hr.trans (congrArg some (hL4 r hr))
  have hpt:T.putN ⟨path,false,ids4⟩ nb11=some t11:=by (obtain⟨q,hq⟩:=Option.isSome_iff_exists.1 (show(T.putN ⟨path,false,ids4⟩ nb11).isSome=true by simpa using hc12);(rw[←ht11,hq];rfl))
  obtain⟨s',tt,g1,g2,g3,g4⟩:=Sp.write_fin hH hT (show Sp.PathValid path=true by simpa using hc3') hst hpt (.inr ⟨d7,hfi7,rfl⟩)
  exact H.retM ⟨_,_,_,_,_,_,congrArg Value.bool (by (rw[g1,g2];rfl)),rfl,hm13,hS13,hV13,hN11,(by first|rfl|exact hb11),fun u' h=>(by rw[g2]at h;cases h;exact⟨hL13 _ g1,g3,g4⟩)⟩
 intro hc12'
 try simp only[nrm]at hc12'
 refine pe 6 Z (q3 (W_ret (rt1 results164 Z ?_)))
 have H:=H.dl 2
 have H:=H.tF 1
 obtain⟨r,hr⟩:=Option.isSome_iff_exists.1 (show(Sp.FileStore L bytes).isSome=true by simpa using hc5')
 have hst:Sp.FileStore L bytes=some (L4,ids4):=hr.trans (congrArg some (hL4 r hr))
 have hno:Sp.l11Write ⟨L,l⟩ path bytes=none:=Sp.write_no2 (nb:=nb11) hH hT (show Sp.PathValid path=true by simpa using hc3') hst (by simpa using hc12')
 exact H.retM ⟨_,_,_,_,_,_,congrArg Value.bool (by (rw[hno];rfl)),rfl,hm4,hS4,hV4,hN11,(by first|rfl|exact hb11),fun u' h=>(by rw[hno]at h;cases h)⟩
theorem i_dwrite_c (w0:World)(G0:PH)(hG:PSub G0 w0)(db mb:Nat)(es:Array MapEntry)(ck:Nat)(xs:List (Int×Value))(T:Nd)(FT:Fr)(sv:Value)(sn:List (Bs×Nd))(c:List Value)(FSq:Fr)(d:BDisk)(hm:MapIs (Value.int .i64) es ck xs)(hS:StR G0 xs d.store)(hN:NdO 138 119 G0 T FT)(hT:Nd.TOK T d.tree)(hchk:Chk osE 2 G0 c sn)(hNs:NdsO 138 119 G0 (sn.map (·.2)) FSq)(hSn:SnOK sn d.snaps)(hdv:Sp.DiskValid d=true)(path:Bs)(hpath:path.length≤16777216)(vbytes:Value)(bytes:List (Int))(hbytes:RdI G0 vbytes bytes)(hLent:Lent w0 G0 [blk db (cl [.int .i32 0,.int .u32 0,.map (some mb),.pointer (some ⟨T.b,0,none⟩),sv] 133),blk mb (.map es ck),frag FT,acc 199 2 sv sn.length c,frag FSq]) :
  Calls Tryz.prog 86 #[.pointer (some ⟨db,0,none⟩),str path,vbytes] w0 (RetM w0 G0 (fps [blk db (cl [.int .i32 0,.int .u32 0,.map (some mb),.pointer (some ⟨T.b,0,none⟩),sv] 133),blk mb (.map es ck),frag FT,acc 199 2 sv sn.length c,frag FSq]) (fun G' v Bs=>∃(es':Array MapEntry) (ck':Nat) (xs':List (Int×Value)) (F':Fr) (T':Nd) (sv':Value) (sn':List (Fw.Bs×Nd)) (c':List Value) (FSq':Fr) (L':List BHeld),v= .bool (Sp.DiskWrite d path bytes).isSome∧Bs=[blk db (cl [.int .i32 0,.int .u32 0,.map (some mb),.pointer (some ⟨T'.b,0,none⟩),sv'] 133),blk mb (.map es' ck'),frag F',acc 199 2 sv' sn'.length c',frag FSq']∧MapIs (Value.int .i64) es' ck' xs'∧StR G' xs' L'∧Sp.VH L'∧NdO 138 119 G' T' F'∧Chk osE 2 G' c' sn'∧NdsO 138 119 G' (sn'.map (·.2)) FSq'∧∀d',Sp.DiskWrite d path bytes=some d'→L'=d'.store∧Nd.TOK T' d'.tree∧SnOK sn' d'.snaps)):=by
 obtain⟨abytes,kbytes,rfl⟩:=hbytes.shape
 have hlimbytes:bytes.length≤1099511627776:=hbytes.lim
 have H:Hp w0 G0 (fps [blk db (cl [.int .i32 0,.int .u32 0,.map (some mb),.pointer (some ⟨T.b,0,none⟩),sv] 133),blk mb (.map es ck),frag FT,acc 199 2 sv sn.length c,frag FSq]) w0 G0 [blk db (cl [.int .i32 0,.int .u32 0,.map (some mb),.pointer (some ⟨T.b,0,none⟩),sv] 133),blk mb (.map es ck),frag FT,acc 199 2 sv sn.length c,frag FSq]:=hLent.hp
 obtain⟨_,_,rfl⟩:=H.accShape (k:=3) rfl;have hVd:=Sp.valid_iff.1 (Sp.dv_parts.1 hdv).1;have hTv:=(Sp.dv_parts.1 hdv).2.1;have hTc:=hT.cnt;have hTl:=Sp.tree_len hTv;have hsnl:=hSn.len;have hsn6:=(Sp.dv_parts.1 hdv).2.2.1
 have hHd:=Sp.DHol.hol (ts:=d.snaps.map (·.tree)) (Sp.dd_iff.1 hdv).2
 refine calls_of_WD (l:=[.pointer (some ⟨db,0,none⟩),str path,.slice abytes bytes.length kbytes]) func86 Z ntmps86 Z (q2 (aG Z (q1 (pe 2 Z (fA 0 Z (o_lock 0 H muLib Z call140 Z Z Z Z ?_))))));intro _ H
 refine q1 (pe 2 Z (fA 0 Z (o_defer Z (q1 (mV Z (xr H Z2 (i_FileValid_c _ _ H.sub _ _ hbytes) ?_))))));intro _ H
 refine mV Z ?_
 refine R_case (t:=16) Z ?_ ?_
 ·intro hc3
  try simp only[nrm]at hc3
  refine pe 2 Z (gR Z (fA 2 Z (gR Z (lA 0 2 H Z4 (pe 2 Z (gR Z ?_))))))
  have H:=H.tF 2
  have H:=H.tF 2
  refine xc Z2 (i_vwrite_c _ _ H.sub _ _ _ _ _ _ _ _ hm hS hN hT hHd _ hpath _ _ hbytes H.lent2 (by assumption)) ?_
  rintro _ _ ⟨_,_,_,rfl,H4',⟨_,_,_,_,T4,L4,rfl,rfl,hm4,hS4,hV4,hN4,hb4,hu4⟩⟩
  have hchk:=hchk.up H4'.le
  have hNs:=hNs.up H4'.le
  have H:=H.borrow2 H4'
  try rw[←hb4]
  try rw[←hb4]at H
  refine⟨_,Z,?_⟩
  refine pe 2 Z (q3 (W_ret (ret_unlock 2 H muLib Z call141 Z Z (rs:=[.tmp 6]) results86 ?_)));intro _ H
  refine⟨[_],⟨Z,trivial⟩,?_⟩
  have H:=H.tF 4
  have H:=H.tF 4
  have H:=H.tF 3
  have H:=H.tF 3
  have H:=H.tF 4
  exact H.retM ⟨_,_,_,_,T4,_,sn,_,_,L4,congrArg Value.bool (by simp[Sp.DiskWrite,hdv,hc3]),rfl,hm4,hS4,hV4,hN4,hchk,hNs,fun d2 h=>(by obtain⟨_,_,v2,h1,rfl⟩:=Sp.dwrite_get h;obtain⟨g1,g2,_⟩:=hu4 v2 h1;exact⟨g1,g2,hSn⟩)⟩
 intro hc3'
 try simp only[nrm]at hc3'
 refine pe 9 Z (q3 (W_ret (ret_unlock 0 H muLib Z call141 Z Z (rs:=[.tmp 6]) results86 ?_)));intro _ H
 refine⟨[_],⟨Z,trivial⟩,?_⟩
 have H:=H.tF 4
 have H:=H.tF 4
 have H:=H.tF 4
 have H:=H.tF 4
 have H:=H.tF 4
 have hno:Sp.DiskWrite d path bytes=none:=by simp[Sp.DiskWrite,hc3']
 exact H.retM ⟨_,_,_,_,T,_,sn,_,_,d.store,congrArg Value.bool (by (rw[hno];rfl)),rfl,hm,hS,hVd,hN,hchk,hNs,fun d2 h=>(by rw[hno]at h;cases h)⟩
theorem i_vdir_c (w0:World)(G0:PH)(hG:PSub G0 w0)(mb:Nat)(es:Array MapEntry)(ck:Nat)(xs:List (Int×Value))(T:Nd)(FT:Fr)(L:List BHeld)(l:List BItem)(hm:MapIs (Value.int .i64) es ck xs)(hS:StR G0 xs L)(hN:NdO 138 119 G0 T FT)(hT:Nd.TOK T l)(hH:Sp.Hol L l)(path:Bs)(hpath:path.length≤16777216)(hLent:Lent w0 G0 [blk mb (.map es ck),frag FT]) :
    Calls Tryz.prog 218 #[.agg #[.map (some mb),.pointer (some ⟨T.b,0,none⟩)],str path] w0 (RetM w0 G0 (fps [blk mb (.map es ck),frag FT]) (fun G' v Bs=>∃(es':Array MapEntry) (ck':Nat) (xs':List (Int×Value)) (F':Fr) (T':Nd) (L':List BHeld),v= .bool ((Sp.l11Dir L l path)).isSome∧Bs=[blk mb (.map es' ck'),frag F']∧MapIs (Value.int .i64) es' ck' xs'∧StR G' xs' L'∧Sp.VH L'∧NdO 138 119 G' T' F'∧T'.b=T.b∧∀u',(Sp.l11Dir L l path)=some u'→L'=u'.store∧Nd.TOK T' u'.tree∧Sp.Hol u'.store u'.tree)):=by
  have H:Hp w0 G0 (fps [blk mb (.map es ck),frag FT]) w0 G0 [blk mb (.map es ck),frag FT]:=hLent.hp
  have hVd:=hH.vh;have hTc:=hT.cnt;have hTl:=hH.vt.len
  refine calls_of_W (l:=[_,str path]) func218 Z ntmps218 Z (q2 (o_box H Z Z Z ?_));intro _ _ _ H
  refine aG Z (q1 (mV Z (xr H Z2 (i_PathValid_c _ _ H.sub _ hpath) ?_)));intro _ H
  refine mV Z ?_
  refine R_case (t:=7) Z ?_ ?_
  · intro hc3
    try simp only[nrm]at hc3
    refine gR Z (fA 1 Z (gR Z (lB 0 H Z3 (pe 1 Z (gR Z (o_build bf35 Z Z Z (gR Z ?_)))))))
    have H:=H.tF 2
    refine xc Z2 (i_put_n_c _ _ H.sub _ _ hN _ ⟨path,true,[]⟩ ⟨_,_,_,Z,hpath,(RdS.nil _ _ _)⟩ H.lent1 hT.wf oM) ?_
    rintro _ _ ⟨_,_,_,rfl,H4',⟨nb4,_,t4,rfl,rfl,hN4,hb4,ht4⟩⟩
    have hS:=hS.up H4'.le
    have H:=H.borrow1 H4'
    try rw[←hb4]
    refine⟨_,Z,?_⟩
    refine pe 2 Z (q3 (W_ret (rt1 results218 Z ?_)))
    have H:=H.dl 1
    have H:=H.tF 1
    have hpv:Sp.PathValid path=true:=by simpa using hc3
    cases hpt:T.putN ⟨path,true,[]⟩ nb4 with
    | none => have hno : Sp.l11Dir L l path = none := by (unfold Sp.l11Dir; (rw [Sp.dir_no2 (nb := nb4) hT hpv (by (rw [hpt]; rfl))]; rfl))
              exact H.retM ⟨_,_,_,_,_,_,congrArg Value.bool (by (rw[hno];rfl)),rfl,hm,hS,hVd,hN4,(by first|rfl|exact hb4),fun u' h=>(by rw[hno]at h;cases h)⟩
    | some T2 => obtain ⟨tt, g1, g3, g4⟩ := Sp.dir_fin hH hT hpv hpt
                 have g2:Sp.l11Dir L l path=some ⟨L,tt⟩:=by (unfold Sp.l11Dir;(rw[g1];rfl))
                 have hT2:t4=T2:=by (rw[←ht4,hpt];rfl)
                 exact H.retM ⟨_,_,_,_,_,_,congrArg Value.bool (by (rw[g2];rfl)),rfl,hm,hS,hVd,hN4,(by first|rfl|exact hb4),fun u' h=>(by rw[g2]at h;cases h;exact⟨rfl,hT2▸g3,g4⟩)⟩
  intro hc3'
  try simp only[nrm]at hc3'
  refine pe 7 Z (q3 (W_ret (rt1 results218 Z ?_)))
  have H:=H.dl 0
  have H:=H.tF 1
  have H:=H.tF 1
  have hno:Sp.l11Dir L l path=none:=by (unfold Sp.l11Dir;(rw[Sp.dir_nop (by simpa using hc3')];rfl))
  exact H.retM ⟨_,_,_,_,_,_,congrArg Value.bool (by (rw[hno];rfl)),rfl,hm,hS,hVd,hN,rfl,fun u' h=>(by rw[hno]at h;cases h)⟩
theorem i_vremove_c (w0:World)(G0:PH)(hG:PSub G0 w0)(mb:Nat)(es:Array MapEntry)(ck:Nat)(xs:List (Int×Value))(T:Nd)(FT:Fr)(L:List BHeld)(l:List BItem)(hm:MapIs (Value.int .i64) es ck xs)(hS:StR G0 xs L)(hN:NdO 138 119 G0 T FT)(hT:Nd.TOK T l)(hH:Sp.Hol L l)(path:Bs)(hpath:path.length≤16777216)(hLent:Lent w0 G0 [blk mb (.map es ck),frag FT]) :
  Calls Tryz.prog 219 #[.agg #[.map (some mb),.pointer (some ⟨T.b,0,none⟩)],str path] w0 (RetM w0 G0 (fps [blk mb (.map es ck),frag FT]) (fun G' v Bs=>∃(es':Array MapEntry) (ck':Nat) (xs':List (Int×Value)) (F':Fr) (T':Nd) (L':List BHeld),v= .bool ((Sp.l11Drop L l path)).isSome∧Bs=[blk mb (.map es' ck'),frag F']∧MapIs (Value.int .i64) es' ck' xs'∧StR G' xs' L'∧Sp.VH L'∧NdO 138 119 G' T' F'∧T'.b=T.b∧∀u',(Sp.l11Drop L l path)=some u'→L'=u'.store∧Nd.TOK T' u'.tree∧Sp.Hol u'.store u'.tree)):=by
 have H:Hp w0 G0 (fps [blk mb (.map es ck),frag FT]) w0 G0 [blk mb (.map es ck),frag FT]:=hLent.hp
 have hVd:=hH.vh;have hTc:=hT.cnt;have hTl:=hH.vt.len
 refine calls_of_W (l:=[_,str path]) func219 Z ntmps219 Z (q2 (o_box H Z Z Z ?_));intro _ _ _ H
 refine aG Z (q1 (fA 1 Z (lB 0 H Z3 (mV Z (xc Z2 (i_find_n_c _ _ (H.lendSubL [2]) _ ((H.lendN (k:=2) (ks:=[2]) Z Z hN).at (show Nd.at_ T []=some T from Z)) _ hpath hT.wf) ?_)))))
 rintro _ _ ⟨_,rfl,ew2,⟨hfi2,rfl⟩|⟨d2,hfi2,rfl⟩⟩
 ·skip
  have H:=H.step ew2;refine⟨_,rfl,?_⟩
  refine aG Z (q3 (W_seq (W_drawK [0] 18 H kR Z ?_)));intro _ H;have hd3:=PLe.refl G0
  refine dE 0 Z2 (RD_t 1 Z kR Z (fun _ hK=>v_nenil_ptr underlying119 Z Z) (dE 2 Z2 (dE 3 Z2 (dE 4 Z2 (dE 5 Z2 (dE 6 Z2 (dE 7 Z2 (dE 8 Z2 (dE 9 Z2 (dE 10 Z2 (dE 11 Z2 (dE 12 Z2 (dE 13 Z2 (dE 14 Z2 (dE 15 Z2 ?_)))))))))))))))
  refine dE 16 Z2 (dE 17 Z2 (rz (N_K (W_ret (rt1 results219 Z ?_)))))
  have H:=H.dl 0
  have H:=H.tF 1
  have H:=H.tF 1
  have hno:Sp.l11Drop L l path=none:=Sp.drop_no1 hT (by assumption)
  exact H.retM ⟨_,_,_,_,_,_,congrArg Value.bool (by (rw[hno];rfl)),rfl,hm,hS,hVd,hN,rfl,fun u' h=>(by rw[hno]at h;cases h)⟩
 skip
 have H:=H.step ew2;refine⟨_,rfl,?_⟩
 refine aG Z (q3 (W_seq (W_drawK [0] 18 H kR Z ?_)));intro _ H;have hd4:=PLe.refl G0
 refine dE 0 Z2 (RD_t 1 Z kR Z (fun _ hK=>v_nenil_ptr underlying119 Z Z) (dE 2 Z2 (dF 3 1 Z2 (dB 4 0 Z4 (dE 5 Z2 (r1 6 Z (gR Z ?_)))))))
 have H:=H.tF 2
 refine xc Z2 (i_drop_n_c _ _ H.sub _ _ hN _ hpath H.lent1 hT.wf oM) ?_
 rintro _ _ ⟨G5,_,_,rfl,H5',⟨_,_,t5,rfl,rfl,hN5,hb5,ht5,hk5⟩⟩
 have hS:=hS.up H5'.le
 have hd4:=hd4.trans H5'.le
 have H:=H.borrow1 H5'
 try rw[←hb5]
 try rw[←hb5]at H
 refine⟨_,Z,?_⟩
 refine q4 H hd4 (dE 7 Z2 (dE 8 Z2 ?_))
 refine RD_case (t:=18) Z ?_ ?_
 ·intro hc6
  try simp only[nrm]at hc6
  obtain⟨k2,hk2,hNk⟩:=hk5 (by simpa using hc6)
  obtain rfl:k2=d2:=Option.some.inj (hk2.symm.trans hfi2)
  have H:=H.tF 1
  obtain⟨_,_,_,_,_,_,H,ohri,ohNs,_,_,_,_⟩:=Hp.openNode H hNk (show Nd.at_ k2 []=some k2 from rfl)
  obtain⟨_,_,rfl⟩:=H.accShape (k:=1) rfl;have hdo:=PLe.refl G5;have hn_ohri:=ohri.len
  refine dF 9 0 Z2 (dB 10 0 Z4 (dE 11 Z2 (dE 12 Z2 (dF 13 2 Z2 (r1 14 Z (gR Z (lB 0 H Z3 (q4 H hd4 (r1 15 Z (gR Z ?_))))))))))
  have H:=H.tF 5
  refine xc Z2 (i_freeFile_c _ _ H.sub _ _ _ _ _ hm hS hVd _ _ ohri H.lent1) ?_
  rintro _ _ ⟨_,_,_,rfl,H7',⟨_,_,_,_,rfl,rfl,hm7,hS7,hV7,hL7⟩⟩
  have hN5:=hN5.up H7'.le
  have hd4:=hd4.trans H7'.le
  have H:=H.borrow1 H7'
  refine⟨_,Z,?_⟩
  refine q4 H hd4 (dE 16 Z2 (dE 17 Z2 (rz (N_K (W_ret (rt1 results219 Z ?_))))))
  have H:=H.dl 1
  have H:=H.dl 1
  have H:=H.dl 1
  have H:=H.dl 2
  have H:=H.tF 1
  have H:=H.tF 1
  have hpt:T.dropN path=some t5:=by (obtain⟨_,hq⟩:=Option.isSome_iff_exists.1 (show(T.dropN path).isSome=true by simpa using hc6);(rw[←ht5,hq];rfl))
  obtain⟨_,_,g1,g2,g3,g4⟩:=Sp.drop_fin hH hT hk2 hpt
  exact H.retM ⟨_,_,_,_,_,_,congrArg Value.bool (by (rw[g1,g2];rfl)),rfl,hm7,hS7,hV7,hN5,(by first|rfl|exact hb5),fun u' h=>(by rw[g2]at h;cases h;exact⟨hL7 _ g1,g3,g4⟩)⟩
 intro hc6'
 try simp only[nrm]at hc6'
 refine dE 9 Z2 (dE 10 Z2 (dE 11 Z2 (dE 12 Z2 (dE 13 Z2 (dE 14 Z2 (dE 15 Z2 (dE 16 Z2 (dE 17 Z2 (rz (N_K (W_ret (rt1 results219 Z ?_))))))))))))
 have H:=H.dl 1
 have H:=H.dl 1
 have H:=H.tF 1
 have hno:Sp.l11Drop L l path=none:=Sp.drop_no2 hT (by simpa using hc6')
 exact H.retM ⟨_,_,_,_,_,_,congrArg Value.bool (by (rw[hno];rfl)),rfl,hm,hS,hVd,hN5,(by first|rfl|exact hb5),fun u' h=>(by rw[hno]at h;cases h)⟩
theorem i_dmakeDir_c (w0:World)(G0:PH)(hG:PSub G0 w0)(db mb:Nat)(es:Array MapEntry)(ck:Nat)(xs:List (Int×Value))(T:Nd)(FT:Fr)(sv:Value)(sn:List (Bs×Nd))(c:List Value)(FSq:Fr)(d:BDisk)(hm:MapIs (Value.int .i64) es ck xs)(hS:StR G0 xs d.store)(hN:NdO 138 119 G0 T FT)(hT:Nd.TOK T d.tree)(hchk:Chk osE 2 G0 c sn)(hNs:NdsO 138 119 G0 (sn.map (·.2)) FSq)(hSn:SnOK sn d.snaps)(hdv:Sp.DiskValid d=true)(path:Bs)(hpath:path.length≤16777216)(hLent:Lent w0 G0 [blk db (cl [.int .i32 0,.int .u32 0,.map (some mb),.pointer (some ⟨T.b,0,none⟩),sv] 133),blk mb (.map es ck),frag FT,acc 199 2 sv sn.length c,frag FSq]) :
  Calls Tryz.prog 173 #[.pointer (some ⟨db,0,none⟩),str path] w0 (RetM w0 G0 (fps [blk db (cl [.int .i32 0,.int .u32 0,.map (some mb),.pointer (some ⟨T.b,0,none⟩),sv] 133),blk mb (.map es ck),frag FT,acc 199 2 sv sn.length c,frag FSq]) (fun G' v Bs=>∃(es':Array MapEntry) (ck':Nat) (xs':List (Int×Value)) (F':Fr) (T':Nd) (sv':Value) (sn':List (Fw.Bs×Nd)) (c':List Value) (FSq':Fr) (L':List BHeld),v= .bool (Sp.DiskDir d path).isSome∧Bs=[blk db (cl [.int .i32 0,.int .u32 0,.map (some mb),.pointer (some ⟨T'.b,0,none⟩),sv'] 133),blk mb (.map es' ck'),frag F',acc 199 2 sv' sn'.length c',frag FSq']∧MapIs (Value.int .i64) es' ck' xs'∧StR G' xs' L'∧Sp.VH L'∧NdO 138 119 G' T' F'∧Chk osE 2 G' c' sn'∧NdsO 138 119 G' (sn'.map (·.2)) FSq'∧∀d',Sp.DiskDir d path=some d'→L'=d'.store∧Nd.TOK T' d'.tree∧SnOK sn' d'.snaps)):=by
 have H:Hp w0 G0 (fps [blk db (cl [.int .i32 0,.int .u32 0,.map (some mb),.pointer (some ⟨T.b,0,none⟩),sv] 133),blk mb (.map es ck),frag FT,acc 199 2 sv sn.length c,frag FSq]) w0 G0 [blk db (cl [.int .i32 0,.int .u32 0,.map (some mb),.pointer (some ⟨T.b,0,none⟩),sv] 133),blk mb (.map es ck),frag FT,acc 199 2 sv sn.length c,frag FSq]:=hLent.hp
 obtain⟨_,_,rfl⟩:=H.accShape (k:=3) rfl;have hVd:=Sp.valid_iff.1 (Sp.dv_parts.1 hdv).1;have hTv:=(Sp.dv_parts.1 hdv).2.1;have hTc:=hT.cnt;have hTl:=Sp.tree_len hTv;have hsnl:=hSn.len;have hsn6:=(Sp.dv_parts.1 hdv).2.2.1
 have hHd:=Sp.DHol.hol (ts:=d.snaps.map (·.tree)) (Sp.dd_iff.1 hdv).2
 refine calls_of_WD (l:=[.pointer (some ⟨db,0,none⟩),str path]) func173 Z ntmps173 Z (q2 (aG Z (q1 (pe 2 Z (fA 0 Z (o_lock 0 H muLib Z call140 Z Z Z Z ?_))))));intro _ H
 refine q1 (pe 2 Z (fA 0 Z (o_defer Z (q1 (pe 2 Z (fA 2 Z (lA 0 2 H Z4 (mV Z ?_))))))))
 have H:=H.tF 2
 have H:=H.tF 2
 refine xc Z2 (i_vdir_c _ _ H.sub _ _ _ _ _ _ _ _ hm hS hN hT hHd _ hpath H.lent2) ?_
 rintro _ _ ⟨_,_,_,rfl,H2',⟨_,_,_,_,T2,L2,rfl,rfl,hm2,hS2,hV2,hN2,hb2,hu2⟩⟩
 have hchk:=hchk.up H2'.le
 have hNs:=hNs.up H2'.le
 have H:=H.borrow2 H2'
 try rw[←hb2]
 try rw[←hb2]at H
 refine⟨_,Z,?_⟩
 refine aG Z (q3 (W_ret (ret_unlock 2 H muLib Z call141 Z Z (rs:=[.tmp 4]) results173 ?_)));intro _ H
 refine⟨[_],⟨Z,trivial⟩,?_⟩
 have H:=H.tF 4
 have H:=H.tF 4
 have H:=H.tF 3
 have H:=H.tF 3
 have H:=H.tF 4
 exact H.retM ⟨_,_,_,_,T2,_,sn,_,_,L2,congrArg Value.bool (by simp[Sp.DiskDir,hdv]),rfl,hm2,hS2,hV2,hN2,hchk,hNs,fun d2 h=>(by obtain⟨v2,h1,rfl⟩:=Sp.ddir_vol h;obtain⟨g1,g2,_⟩:=hu2 v2 h1;exact⟨g1,g2,hSn⟩)⟩
theorem i_dremove_c (w0:World)(G0:PH)(hG:PSub G0 w0)(db mb:Nat)(es:Array MapEntry)(ck:Nat)(xs:List (Int×Value))(T:Nd)(FT:Fr)(sv:Value)(sn:List (Bs×Nd))(c:List Value)(FSq:Fr)(d:BDisk)(hm:MapIs (Value.int .i64) es ck xs)(hS:StR G0 xs d.store)(hN:NdO 138 119 G0 T FT)(hT:Nd.TOK T d.tree)(hchk:Chk osE 2 G0 c sn)(hNs:NdsO 138 119 G0 (sn.map (·.2)) FSq)(hSn:SnOK sn d.snaps)(hdv:Sp.DiskValid d=true)(path:Bs)(hpath:path.length≤16777216)(hLent:Lent w0 G0 [blk db (cl [.int .i32 0,.int .u32 0,.map (some mb),.pointer (some ⟨T.b,0,none⟩),sv] 133),blk mb (.map es ck),frag FT,acc 199 2 sv sn.length c,frag FSq]) :
  Calls Tryz.prog 174 #[.pointer (some ⟨db,0,none⟩),str path] w0 (RetM w0 G0 (fps [blk db (cl [.int .i32 0,.int .u32 0,.map (some mb),.pointer (some ⟨T.b,0,none⟩),sv] 133),blk mb (.map es ck),frag FT,acc 199 2 sv sn.length c,frag FSq]) (fun G' v Bs=>∃(es':Array MapEntry) (ck':Nat) (xs':List (Int×Value)) (F':Fr) (T':Nd) (sv':Value) (sn':List (Fw.Bs×Nd)) (c':List Value) (FSq':Fr) (L':List BHeld),v= .bool (Sp.DiskDrop d path).isSome∧Bs=[blk db (cl [.int .i32 0,.int .u32 0,.map (some mb),.pointer (some ⟨T'.b,0,none⟩),sv'] 133),blk mb (.map es' ck'),frag F',acc 199 2 sv' sn'.length c',frag FSq']∧MapIs (Value.int .i64) es' ck' xs'∧StR G' xs' L'∧Sp.VH L'∧NdO 138 119 G' T' F'∧Chk osE 2 G' c' sn'∧NdsO 138 119 G' (sn'.map (·.2)) FSq'∧∀d',Sp.DiskDrop d path=some d'→L'=d'.store∧Nd.TOK T' d'.tree∧SnOK sn' d'.snaps)):=by
 have H:Hp w0 G0 (fps [blk db (cl [.int .i32 0,.int .u32 0,.map (some mb),.pointer (some ⟨T.b,0,none⟩),sv] 133),blk mb (.map es ck),frag FT,acc 199 2 sv sn.length c,frag FSq]) w0 G0 [blk db (cl [.int .i32 0,.int .u32 0,.map (some mb),.pointer (some ⟨T.b,0,none⟩),sv] 133),blk mb (.map es ck),frag FT,acc 199 2 sv sn.length c,frag FSq]:=hLent.hp
 obtain⟨_,_,rfl⟩:=H.accShape (k:=3) rfl;have hVd:=Sp.valid_iff.1 (Sp.dv_parts.1 hdv).1;have hTv:=(Sp.dv_parts.1 hdv).2.1;have hTc:=hT.cnt;have hTl:=Sp.tree_len hTv;have hsnl:=hSn.len;have hsn6:=(Sp.dv_parts.1 hdv).2.2.1
 have hHd:=Sp.DHol.hol (ts:=d.snaps.map (·.tree)) (Sp.dd_iff.1 hdv).2
 refine calls_of_WD (l:=[.pointer (some ⟨db,0,none⟩),str path]) func174 Z ntmps174 Z (q2 (aG Z (q1 (pe 2 Z (fA 0 Z (o_lock 0 H muLib Z call140 Z Z Z Z ?_))))));intro _ H
 refine q1 (pe 2 Z (fA 0 Z (o_defer Z (q1 (pe 2 Z (fA 2 Z (lA 0 2 H Z4 (mV Z ?_))))))))
 have H:=H.tF 2
 have H:=H.tF 2
 refine xc Z2 (i_vremove_c _ _ H.sub _ _ _ _ _ _ _ _ hm hS hN hT hHd _ hpath H.lent2) ?_
 rintro _ _ ⟨_,_,_,rfl,H2',⟨_,_,_,_,T2,L2,rfl,rfl,hm2,hS2,hV2,hN2,hb2,hu2⟩⟩
 have hchk:=hchk.up H2'.le
 have hNs:=hNs.up H2'.le
 have H:=H.borrow2 H2'
 try rw[←hb2]
 try rw[←hb2]at H
 refine⟨_,Z,?_⟩
 refine aG Z (q3 (W_ret (ret_unlock 2 H muLib Z call141 Z Z (rs:=[.tmp 4]) results174 ?_)));intro _ H
 refine⟨[_],⟨Z,trivial⟩,?_⟩
 have H:=H.tF 4
 have H:=H.tF 4
 have H:=H.tF 3
 have H:=H.tF 3
 have H:=H.tF 4
 exact H.retM ⟨_,_,_,_,T2,_,sn,_,_,L2,congrArg Value.bool (by simp[Sp.DiskDrop,hdv]),rfl,hm2,hS2,hV2,hN2,hchk,hNs,fun d2 h=>(by obtain⟨v2,h1,rfl⟩:=Sp.ddrop_vol h;obtain⟨g1,g2,_⟩:=hu2 v2 h1;exact⟨g1,g2,hSn⟩)⟩
theorem i_drun_c (w0:World)(G0:PH)(hG:PSub G0 w0)(db mb:Nat)(es:Array MapEntry)(ck:Nat)(xs:List (Int×Value))(T:Nd)(FT:Fr)(sv:Value)(sn:List (Bs×Nd))(c:List Value)(FSq:Fr)(d:BDisk)(hm:MapIs (Value.int .i64) es ck xs)(hS:StR G0 xs d.store)(hN:NdO 138 119 G0 T FT)(hT:Nd.TOK T d.tree)(hchk:Chk osE 2 G0 c sn)(hNs:NdsO 138 119 G0 (sn.map (·.2)) FSq)(hSn:SnOK sn d.snaps)(hdv:Sp.DiskValid d=true)(cop:List Value)(op:BOp)(hop:opE G0 op cop)(hLent:Lent w0 G0 [blk db (cl [.int .i32 0,.int .u32 0,.map (some mb),.pointer (some ⟨T.b,0,none⟩),sv] 133),blk mb (.map es ck),frag FT,acc 199 2 sv sn.length c,frag FSq])(hok:Sp.opOk op=true) :
  Calls Tryz.prog 98 #[.pointer (some ⟨db,0,none⟩),.agg cop.toArray] w0 (RetM w0 G0 (fps [blk db (cl [.int .i32 0,.int .u32 0,.map (some mb),.pointer (some ⟨T.b,0,none⟩),sv] 133),blk mb (.map es ck),frag FT,acc 199 2 sv sn.length c,frag FSq]) (fun G' v Bs=>∃(es':Array MapEntry) (ck':Nat) (xs':List (Int×Value)) (F':Fr) (T':Nd) (sv':Value) (sn':List (Fw.Bs×Nd)) (c':List Value) (FSq':Fr) (L':List BHeld),v= .bool (Sp.OpRun d op).isSome∧Bs=[blk db (cl [.int .i32 0,.int .u32 0,.map (some mb),.pointer (some ⟨T'.b,0,none⟩),sv'] 133),blk mb (.map es' ck'),frag F',acc 199 2 sv' sn'.length c',frag FSq']∧MapIs (Value.int .i64) es' ck' xs'∧StR G' xs' L'∧Sp.VH L'∧NdO 138 119 G' T' F'∧Chk osE 2 G' c' sn'∧NdsO 138 119 G' (sn'.map (·.2)) FSq'∧∀d',Sp.OpRun d op=some d'→L'=d'.store∧Nd.TOK T' d'.tree∧SnOK sn' d'.snaps)):=by
 obtain⟨_,_,_,rfl,_,hi1,hr1⟩:=hop;have hy_hi1:_≤16777216:=hi1;have hn_hr1:=hr1.len;have hx_hr1:_≤1099511627776:=hr1.lim
 have H:Hp w0 G0 (fps [blk db (cl [.int .i32 0,.int .u32 0,.map (some mb),.pointer (some ⟨T.b,0,none⟩),sv] 133),blk mb (.map es ck),frag FT,acc 199 2 sv sn.length c,frag FSq]) w0 G0 [blk db (cl [.int .i32 0,.int .u32 0,.map (some mb),.pointer (some ⟨T.b,0,none⟩),sv] 133),blk mb (.map es ck),frag FT,acc 199 2 sv sn.length c,frag FSq]:=hLent.hp
 obtain⟨_,_,rfl⟩:=H.accShape (k:=3) rfl;have hVd:=Sp.valid_iff.1 (Sp.dv_parts.1 hdv).1;have hTv:=(Sp.dv_parts.1 hdv).2.1;have hTc:=hT.cnt;have hTl:=Sp.tree_len hTv;have hsnl:=hSn.len;have hsn6:=(Sp.dv_parts.1 hdv).2.2.1
 refine calls_of_W (l:=[.pointer (some ⟨db,0,none⟩),_]) func98 Z ntmps98 Z (q2 (o_box H Z Z Z ?_));intro _ _ _ H
 refine aG Z (q3 (W_seq (q2 (fA 0 Z (lB 0 H Z3 (q3 (W_block (q2 (pe 2 Z (q3 ?_))))))))))
 refine W_cond Z ?_ ?_
 ·intro hc3
  try simp only[nrm]at hc3
  refine q2 (mV Z (fA 1 Z (lB 0 H Z3 ?_)))
  have H:=H.tF 5
  have H:=H.tF 5
  have H:=H.tF 5
  have H:=H.tF 5
  have H:=H.tF 5
  refine xc Z2 (i_dmakeDir_c _ _ H.sub _ _ _ _ _ _ _ _ _ _ _ _ hm hS hN hT hchk hNs hSn hdv _ hi1 H.lent5) ?_
  rintro _ _ ⟨_,_,_,rfl,H4',⟨_,_,_,_,_,_,_,_,_,_,rfl,rfl,hm4,hS4,hV4,hN4,hchk4,hNs4,hd4⟩⟩
  have H:=H.borrow5 H4'
  obtain⟨avAd,cvAd,rfl⟩:=H.accShape (k:=3) rfl
  refine⟨_,Z,?_⟩
  refine aG Z (q3 (W_ret (N_B_ret (N_K_ret (rt1 results98 Z ?_)))))
  have H:=H.dl 5
  have H:=H.tF 4
  have H:=H.tF 4
  have H:=H.tF 4
  have H:=H.tF 4
  have H:=H.tF 4
  exact H.retM ⟨_,_,_,_,_,_,_,_,_,_,by (rw[Sp.op_is1 hok hc3];rfl),rfl,hm4,hS4,hV4,hN4,hchk4,hNs4,(by rw[Sp.op_is1 hok hc3];exact hd4)⟩
 intro hc3'
 try simp only[nrm]at hc3'
 refine q2 (pe 2 Z (q3 ?_))
 refine W_cond Z ?_ ?_
 ·intro hc5
  try simp only[nrm]at hc5
  refine q2 (mV Z (fA 1 Z (lB 0 H Z3 (fA 2 Z (lB 0 H Z3 ?_)))))
  have H:=H.tF 5
  have H:=H.tF 5
  have H:=H.tF 5
  have H:=H.tF 5
  have H:=H.tF 5
  refine xc Z2 (i_dwrite_c _ _ H.sub _ _ _ _ _ _ _ _ _ _ _ _ hm hS hN hT hchk hNs hSn hdv _ hi1 _ _ hr1 H.lent5) ?_
  rintro _ _ ⟨_,_,_,rfl,H6',⟨_,_,_,_,_,_,_,_,_,_,rfl,rfl,hm6,hS6,hV6,hN6,hchk6,hNs6,hd6⟩⟩
  have H:=H.borrow5 H6'
  obtain⟨avAd,cvAd,rfl⟩:=H.accShape (k:=3) rfl
  refine⟨_,Z,?_⟩
  refine aG Z (q3 (W_ret (N_B_ret (N_K_ret (rt1 results98 Z ?_)))))
  have H:=H.dl 5
  have H:=H.tF 4
  have H:=H.tF 4
  have H:=H.tF 4
  have H:=H.tF 4
  have H:=H.tF 4
  exact H.retM ⟨_,_,_,_,_,_,_,_,_,_,by (rw[Sp.op_is2 hok hc3' hc5];rfl),rfl,hm6,hS6,hV6,hN6,hchk6,hNs6,(by rw[Sp.op_is2 hok hc3' hc5];exact hd6)⟩
 intro hc5'
 try simp only[nrm]at hc5'
 refine q2 (pe 2 Z (q3 ?_))
 refine W_cond Z ?_ ?_
 ·intro hc7
  try simp only[nrm]at hc7
  refine q2 (mV Z (fA 1 Z (lB 0 H Z3 ?_)))
  have H:=H.tF 5
  have H:=H.tF 5
  have H:=H.tF 5
  have H:=H.tF 5
  have H:=H.tF 5
  refine xc Z2 (i_dremove_c _ _ H.sub _ _ _ _ _ _ _ _ _ _ _ _ hm hS hN hT hchk hNs hSn hdv _ hi1 H.lent5) ?_
  rintro _ _ ⟨_,_,_,rfl,H8',⟨_,_,_,_,_,_,_,_,_,_,rfl,rfl,hm8,hS8,hV8,hN8,hchk8,hNs8,hd8⟩⟩
  have H:=H.borrow5 H8'
  obtain⟨avAd,cvAd,rfl⟩:=H.accShape (k:=3) rfl
  refine⟨_,Z,?_⟩
  refine aG Z (q3 (W_ret (N_B_ret (N_K_ret (rt1 results98 Z ?_)))))
  have H:=H.dl 5
  have H:=H.tF 4
  have H:=H.tF 4
  have H:=H.tF 4
  have H:=H.tF 4
  have H:=H.tF 4
  exact H.retM ⟨_,_,_,_,_,_,_,_,_,_,by (rw[Sp.op_is3 hok hc3' hc5' hc7];rfl),rfl,hm8,hS8,hV8,hN8,hchk8,hNs8,(by rw[Sp.op_is3 hok hc3' hc5' hc7];exact hd8)⟩
 intro hc7'
 try simp only[nrm]at hc7'
 refine W_skip (N_B (N_K (q2 (mV Z (fA 1 Z (lB 0 H Z3 ?_))))))
 have H:=H.tF 5
 have H:=H.tF 5
 have H:=H.tF 5
 have H:=H.tF 5
 have H:=H.tF 5
 refine xc Z2 (i_take_c _ _ H.sub _ _ _ _ _ _ _ _ _ _ _ _ hm hS hN hT hchk hNs hSn hdv _ hi1 H.lent5) ?_
 rintro _ _ ⟨_,_,_,rfl,H9',⟨_,_,_,_,_,_,_,_,_,rfl,rfl,hm9,hS9,hV9,hN9,hchk9,hNs9,hd9⟩⟩
 have H:=H.borrow5 H9'
 obtain⟨avAd,cvAd,rfl⟩:=H.accShape (k:=3) rfl
 refine⟨_,Z,?_⟩
 refine aG Z (q3 (W_ret (rt1 results98 Z ?_)))
 have H:=H.dl 5
 have H:=H.tF 4
 have H:=H.tF 4
 have H:=H.tF 4
 have H:=H.tF 4
 have H:=H.tF 4
 exact H.retM ⟨_,_,_,_,_,_,_,_,_,_,by (rw[Sp.op_is4 hok hc3' hc5' hc7'];rfl),rfl,hm9,hS9,hV9,hN9,hchk9,hNs9,(by rw[Sp.op_is4 hok hc3' hc5' hc7'];exact fun d2 h=>(by obtain⟨g1,g2,g3⟩:=hd9 d2 h;exact⟨g1,by (rw[g2];exact hT),g3⟩))⟩
theorem i_OpRun1_c (w0:World)(G0:PH)(hG:PSub G0 w0)(db mb:Nat)(es:Array MapEntry)(ck:Nat)(xs:List (Int×Value))(T:Nd)(FT:Fr)(sv:Value)(sn:List (Bs×Nd))(c:List Value)(FSq:Fr)(d:BDisk)(hm:MapIs (Value.int .i64) es ck xs)(hS:StR G0 xs d.store)(hN:NdO 138 119 G0 T FT)(hT:Nd.TOK T d.tree)(hchk:Chk osE 2 G0 c sn)(hNs:NdsO 138 119 G0 (sn.map (·.2)) FSq)(hSn:SnOK sn d.snaps)(hdv:Sp.DiskValid d=true)(cp:Nat)(oa:Option Addr)(om oc:Nat)(op:BOp)(hopk:inI op.kind)(hopp:op.path.length≤16777216)(hopr:RdI G0 (.slice oa om oc) op.bytes)(hcp:PRow G0 cp 0 [.int .i64 op.kind,str op.path,.slice oa om oc])(hLent:Lent w0 G0 [blk db (cl [.int .i32 0,.int .u32 0,.map (some mb),.pointer (some ⟨T.b,0,none⟩),sv] 133),blk mb (.map es ck),frag FT,acc 199 2 sv sn.length c,frag FSq]) :
  Calls Tryz.prog 96 #[.pointer (some ⟨db,0,none⟩),.pointer (some ⟨cp,0,none⟩)] w0 (RetM w0 G0 (fps [blk db (cl [.int .i32 0,.int .u32 0,.map (some mb),.pointer (some ⟨T.b,0,none⟩),sv] 133),blk mb (.map es ck),frag FT,acc 199 2 sv sn.length c,frag FSq]) (fun G' v Bs=>∃(es':Array MapEntry) (ck':Nat) (xs':List (Int×Value)) (F':Fr) (T':Nd) (sv':Value) (sn':List (Fw.Bs×Nd)) (c':List Value) (FSq':Fr) (L':List BHeld),v= .bool (Sp.OpRun d op).isSome∧Bs=[blk db (cl [.int .i32 0,.int .u32 0,.map (some mb),.pointer (some ⟨T'.b,0,none⟩),sv'] 133),blk mb (.map es' ck'),frag F',acc 199 2 sv' sn'.length c',frag FSq']∧MapIs (Value.int .i64) es' ck' xs'∧StR G' xs' L'∧Sp.VH L'∧NdO 138 119 G' T' F'∧Chk osE 2 G' c' sn'∧NdsO 138 119 G' (sn'.map (·.2)) FSq'∧∀d',Sp.OpRun d op=some d'→L'=d'.store∧Nd.TOK T' d'.tree∧SnOK sn' d'.snaps)):=by
 have hn_hopr:=hopr.len;have hx_hopr:_≤1099511627776:=hopr.lim
 have H:Hp w0 G0 (fps [blk db (cl [.int .i32 0,.int .u32 0,.map (some mb),.pointer (some ⟨T.b,0,none⟩),sv] 133),blk mb (.map es ck),frag FT,acc 199 2 sv sn.length c,frag FSq]) w0 G0 [blk db (cl [.int .i32 0,.int .u32 0,.map (some mb),.pointer (some ⟨T.b,0,none⟩),sv] 133),blk mb (.map es ck),frag FT,acc 199 2 sv sn.length c,frag FSq]:=hLent.hp
 obtain⟨_,_,rfl⟩:=H.accShape (k:=3) rfl;have hVd:=Sp.valid_iff.1 (Sp.dv_parts.1 hdv).1;have hTv:=(Sp.dv_parts.1 hdv).2.1;have hTc:=hT.cnt;have hTl:=Sp.tree_len hTv;have hsnl:=hSn.len;have hsn6:=(Sp.dv_parts.1 hdv).2.2.1
 refine calls_of_W (l:=[.pointer (some ⟨db,0,none⟩),.pointer (some ⟨cp,0,none⟩)]) func96 Z ntmps96 Z (q2 (aG Z (q1 (o_loadagg_P H isAgg53 sizeOf53 Z Z hcp Z ?_))))
 refine xr H Z2 (i_opValid_c _ _ H.sub _ op ⟨_,_,_,Z,⟨by first|omega|(dsimp only;omega),by first|omega|(dsimp only;omega)⟩,hopp,hopr⟩) ?_;intro _ H
 refine mV Z ?_
 refine R_case (t:=6) Z ?_ ?_
 ·intro hc2
  try simp only[nrm]at hc2
  refine pe 1 Z (gR Z (o_loadagg_P H isAgg53 sizeOf53 Z Z hcp Z (gR Z ?_)))
  have H:=H.tF 4
  have H:=H.tF 4
  have H:=H.tF 4
  have H:=H.tF 4
  have H:=H.tF 4
  refine xc Z2 (i_drun_c _ _ H.sub _ _ _ _ _ _ _ _ _ _ _ _ hm hS hN hT hchk hNs hSn hdv _ op ⟨_,_,_,Z,⟨by first|omega|(dsimp only;omega),by first|omega|(dsimp only;omega)⟩,hopp,hopr⟩ H.lent5 (by assumption)) ?_
  rintro _ _ ⟨_,_,_,rfl,H3',⟨_,_,_,_,_,_,_,_,_,_,rfl,rfl,hm3,hS3,hV3,hN3,hchk3,hNs3,hd3⟩⟩
  have H:=H.borrow5 H3'
  obtain⟨_,_,rfl⟩:=H.accShape (k:=3) rfl
  refine⟨_,Z,?_⟩
  refine pe 2 Z (q3 (W_ret (rt1 results96 Z ?_)))
  have H:=H.tF 4
  have H:=H.tF 4
  have H:=H.tF 4
  have H:=H.tF 4
  have H:=H.tF 4
  exact H.retM ⟨_,_,_,_,_,_,_,_,_,_,Z,Z,hm3,hS3,hV3,hN3,hchk3,hNs3,hd3⟩
 intro hc2'
 try simp only[nrm]at hc2'
 refine pe 5 Z (q3 (W_ret (rt1 results96 Z ?_)))
 have H:=H.tF 4
 have H:=H.tF 4
 have H:=H.tF 4
 have H:=H.tF 4
 have H:=H.tF 4
 have hno:Sp.OpRun d op=none:=Sp.op_bad (by simpa using hc2')
 exact H.retM ⟨_,_,_,_,T,_,sn,_,_,d.store,congrArg Value.bool (by (rw[hno];rfl)),rfl,hm,hS,hVd,hN,hchk,hNs,fun d2 h=>(by rw[hno]at h;cases h)⟩
theorem i_changed_op_c (w0:World)(G0:PH)(hG:PSub G0 w0)(cd:List Value)(d:BDisk)(hd:diskE G0 d cd)(cp:Nat)(oa:Option Addr)(om oc:Nat)(op:BOp)(hopk:inI op.kind)(hopp:op.path.length≤16777216)(hopr:RdI G0 (.slice oa om oc) op.bytes)(hcp:PRow G0 cp 0 [.int .i64 op.kind,str op.path,.slice oa om oc]) :
  Calls Tryz.prog 60 #[.agg cd.toArray,.func (.func 96) #[] #[.pointer (some ⟨cp,0,none⟩)]] w0 (RetN w0 G0 (fun v Bs=>∃(v1 v2 v3:Value) (F1 F2 F3:Fr),v= .tuple #[.agg #[v1,v2,v3],.bool (Sp.OpRun d op).isSome]∧Bs=[frag F1,frag F2,frag F3]∧OHs F1 v1 ((Sp.OpRun d op).getD ⟨[],[],[]⟩).store∧OIs F2 v2 ((Sp.OpRun d op).getD ⟨[],[],[]⟩).tree∧OSn F3 v3 ((Sp.OpRun d op).getD ⟨[],[],[]⟩).snaps)):=by
 obtain⟨_,_,_,_,_,_,_,_,_,rfl,hr1,hr1',hr1'',⟨_,_⟩,⟨_,_⟩,_,_⟩:=ox hd
 have hn_hopr:=hopr.len;have hx_hopr:_≤1099511627776:=hopr.lim
 have H:=Hp.init hG
 refine calls_of_W (l:=[_,.func (.func 96) #[] #[.pointer (some ⟨cp,0,none⟩)]]) func60 Z ntmps60 Z (q2 (o_box H Z Z Z ?_));intro _ _ _ H
 refine xal H Z ?_;intro _ _ _ H
 refine aG Z (q1 (lA 1 3 H Z4 (xc Z2 (i_newDisk_c _ _ H.sub _ d ⟨_,_,_,_,_,_,_,_,_,Z,hr1,hr1',hr1''⟩ H.lent0) ?_)))
 rintro _ _ ⟨_,_,_,rfl,H4',⟨rfl,rfl,hnd4⟩|⟨_,_,_,_,_,_,_,_,_,_,_,rfl,rfl,hm4,hS4,hN4,hT4,hchk4,hNs4,hSn4,hdv4⟩⟩
 ·skip
  have H:=H.borrow0 H4'
  refine⟨_,Z,?_⟩
  refine pe 5 Z (q3 (W_seq (q2 (pe 8 Z (q3 (W_true Z (q2 (o_build bf27 Z Z Z (xst 0 H Z8 ?_)))))))));intro _ H
  refine aG Z (q3 (W_ret (N_K_ret (ret_gen (rs:=[.cell 4 27,.tmp 5]) (vs:=[_,_]) results60 ⟨⟨_,Z,load_blk 0 H isAgg27 sizeOf27 Z Z Z⟩,Z,trivial⟩ ?_))))
  have H:=H.dl 0
  have H:=H.dl 0
  have hno:Sp.OpRun d op=none:=by (cases hh:Sp.OpRun d op with |none=>rfl|some q=>(have hx:=Sp.op_isv hh;rw[hnd4]at hx;cases hx))
  have H:=(((H.addF).addF).addF).forget hG (by simp)
  refine⟨_,_,Z,H,.slice none 0 0,.slice none 0 0,.slice none 0 0,[],[],[],?_,Z,?_,?_,?_⟩
  ·(rw[hno];rfl)
  ·(rw[hno];exact oh_nil)
  ·(rw[hno];exact oi_nil)
  (rw[hno];exact os_nil)
 skip
 have hcp:=hcp.up H4'.le
 have hopr:=hopr.up H4'.le
 have H:=H.borrow0 H4'
 obtain⟨avAd,cvAd,rfl⟩:=H.accShape (k:=3) rfl
 refine⟨_,Z,?_⟩
 refine pe 5 Z (q3 (W_seq (q2 (pe 5 Z (gR Z ?_)))))
 have H:=H.tF 4
 have H:=H.tF 4
 have H:=H.tF 4
 have H:=H.tF 4
 have H:=H.tF 4
 refine o_callc call96 Z Z Z (i_OpRun1_c _ _ H.sub _ _ _ _ _ _ _ _ _ _ _ _ hm4 hS4 hN4 hT4 hchk4 hNs4 hSn4 hdv4 _ _ _ _ _ hopk hopp hopr hcp H.lent5) ?_
 rintro _ _ ⟨_,_,_,rfl,H6',⟨_,_,_,_,_,_,_,_,_,_,rfl,rfl,hm6,hS6,hV6,hN6,hchk6,hNs6,hd6⟩⟩
 have H:=H.borrow5 H6'
 obtain⟨avAd,cvAd,rfl⟩:=H.accShape (k:=3) rfl
 refine⟨_,Z,?_⟩
 refine pe 2 Z (q3 ?_)
 refine W_cond Z ?_ ?_
 ·intro hc7
  try simp only[nrm]at hc7
  refine q2 (o_build bf27 Z Z Z (xst 5 H Z8 ?_));intro _ H
  refine aG Z (q3 (W_ret (N_K_ret (ret_gen (rs:=[.cell 4 27,.tmp 5]) (vs:=[_,_]) results60 ⟨⟨_,Z,load_blk 5 H isAgg27 sizeOf27 Z Z Z⟩,Z,trivial⟩ ?_))))
  have H:=H.dl 0
  have H:=H.dl 0
  have H:=H.dl 0
  have H:=H.dl 0
  have H:=H.dl 0
  have H:=H.dl 0
  have H:=H.dl 0
  have hno:Sp.OpRun d op=none:=by simpa using hc7
  have H:=(((H.addF).addF).addF).forget hG (by simp)
  refine⟨_,_,Z,H,.slice none 0 0,.slice none 0 0,.slice none 0 0,[],[],[],?_,Z,?_,?_,?_⟩
  ·(rw[hno];rfl)
  ·(rw[hno];exact oh_nil)
  ·(rw[hno];exact oi_nil)
  (rw[hno];exact os_nil)
 intro hc7'
 try simp only[nrm]at hc7'
 obtain⟨d2,hd2⟩:=Option.isSome_iff_exists.1 (show(Sp.OpRun d op).isSome=true by simpa using hc7')
 obtain⟨hL2,hT2,hsn2⟩:=hd6 d2 hd2;subst hL2
 refine W_skip (N_K (q2 (mV Z ?_)))
 have H:=H.tF 4
 have H:=H.tF 4
 have H:=H.tF 4
 have H:=H.tF 4
 have H:=H.tF 4
 refine xc Z2 (i_disk_c _ _ H.sub _ _ _ _ _ _ _ _ _ _ _ _ hm6 hS6 hN6 hT2 hchk6 hNs6 hsn2 hV6 (Sp.dv_parts.1 (Sp.op_valid hd2)).2.2.1 H.lent5) ?_
 rintro _ _ ⟨_,_,_,rfl,H9',⟨_,_,_,D19,D29,D39,rfl,rfl,ho19,ho29,ho39⟩⟩
 have H:=H.borrow5 H9'
 obtain⟨_,p19⟩:=ho19
 obtain⟨a19,c19,rfl⟩:=OwnS.shape p19
 obtain⟨_,p29⟩:=ho29
 obtain⟨a29,c29,rfl⟩:=OwnS.shape p29
 obtain⟨_,p39⟩:=ho39
 obtain⟨a39,c39,rfl⟩:=OwnS.shape p39
 refine⟨_,Z,?_⟩
 refine xst 3 H Z8 ?_;intro _ H
 refine aG Z (q3 (W_ret (ret_gen (rs:=[.cell 4 27,.tmp 5]) (vs:=[_,_]) results60 ⟨⟨_,Z,load_blk 3 H isAgg27 sizeOf27 Z Z Z⟩,Z,trivial⟩ ?_)))
 have H:=H.dl 3
 have H:=H.dl 3
 have H:=H.tF 2
 have H:=H.tF 2
 have H:=H.tF 2
 have H:=H.forget hG (by simp)
 refine⟨_,_,Z,H,.slice a19 d2.store.length c19,.slice a29 d2.tree.length c29,.slice a39 d2.snaps.length c39,D19,D29,D39,?_,Z,?_,?_,?_⟩
 ·(rw[hd2];rfl)
 ·(rw[hd2];exact⟨_,p19⟩)
 ·(rw[hd2];exact⟨_,p29⟩)
 (rw[hd2];exact⟨_,p39⟩)
theorem i_OpRun_c (w0:World)(G0:PH)(hG:PSub G0 w0)(cd:List Value)(d:BDisk)(hd:diskE G0 d cd)(cop:List Value)(op:BOp)(hop:opE G0 op cop) :
  Calls Tryz.prog 30 #[.agg cd.toArray,.agg cop.toArray] w0 (RetN w0 G0 (fun v Bs=>∃(v1 v2 v3:Value) (F1 F2 F3:Fr),v= .tuple #[.agg #[v1,v2,v3],.bool (Sp.OpRun d op).isSome]∧Bs=[frag F1,frag F2,frag F3]∧OHs F1 v1 ((Sp.OpRun d op).getD ⟨[],[],[]⟩).store∧OIs F2 v2 ((Sp.OpRun d op).getD ⟨[],[],[]⟩).tree∧OSn F3 v3 ((Sp.OpRun d op).getD ⟨[],[],[]⟩).snaps)):=by
 obtain⟨_,_,_,_,_,_,_,_,_,rfl,hr1,hr1',hr1'',⟨_,_⟩,⟨_,_⟩,_,_⟩:=ox hd
 obtain⟨_,_,_,rfl,_,hi2,hr2⟩:=hop;have hy_hi2:_≤16777216:=hi2;have hn_hr2:=hr2.len;have hx_hr2:_≤1099511627776:=hr2.lim
 have H:=Hp.init hG
 refine calls_of_W (l:=[_,_]) func30 Z ntmps30 Z (q2 (o_box H Z Z Z ?_));intro _ _ _ H
 refine o_box H Z Z Z ?_;intro _ _ _ H
 refine xal H Z ?_;intro _ _ _ H
 refine aG Z (q1 (lA 2 3 H Z4 (o_makefn1 Z Z (xc Z2 (i_changed_op_c _ _ (H.lendSubL [1]) _ d ⟨_,_,_,_,_,_,_,_,_,Z,(hr1.up (PPlus.le _ _ _)),(hr1'.up (PPlus.le _ _ _)),(hr1''.up (PPlus.le _ _ _))⟩ _ _ _ _ op (by assumption) (by assumption) (hr2.up (PPlus.le _ _ _)) (prow_blk (H.lendPredL (k:=1) (ks:=[1]) Z Z))) ?_))))
 rintro _ _ ⟨_,_,rfl,H6',⟨_,_,_,E16,E26,E36,rfl,rfl,ho16,ho26,ho36⟩⟩
 have H:=H.readersL H6'
 obtain⟨_,p16⟩:=ho16
 obtain⟨a16,c16,rfl⟩:=OwnS.shape p16
 obtain⟨_,p26⟩:=ho26
 obtain⟨a26,c26,rfl⟩:=OwnS.shape p26
 obtain⟨_,p36⟩:=ho36
 obtain⟨a36,c36,rfl⟩:=OwnS.shape p36
 refine⟨_,Z,?_⟩
 refine pe 2 Z (xst 3 H Z8 ?_);intro _ H
 refine aG Z (q3 (W_ret (ret_gen (rs:=[.cell 4 27,.tmp 5]) (vs:=[_,_]) results30 ⟨⟨_,Z,load_blk 3 H isAgg27 sizeOf27 Z Z Z⟩,Z,trivial⟩ ?_)))
 have H:=H.dl 3
 have H:=H.dl 3
 have H:=H.dl 3
 have H:=H.tF 2
 have H:=H.tF 2
 have H:=H.tF 2
 exact⟨_,_,Z,H,.slice a16 ((Sp.OpRun d op).getD ⟨[],[],[]⟩).store.length c16,.slice a26 ((Sp.OpRun d op).getD ⟨[],[],[]⟩).tree.length c26,.slice a36 ((Sp.OpRun d op).getD ⟨[],[],[]⟩).snaps.length c36,E16,E26,E36,Z,Z,⟨_,p16⟩,⟨_,p26⟩,⟨_,p36⟩⟩
theorem i_OpsValid_c (w0:World)(G0:PH)(hG:PSub G0 w0)(vlist:Value)(list:List (BOp))(hlist:RdOp G0 vlist list) :
  Calls Tryz.prog 112 #[vlist] w0 (Rets w0 (.bool (Sp.OpsValid list))):=by
 obtain⟨alist,klist,rfl⟩:=hlist.shape
 have hlimlist:list.length≤1099511627776:=hlist.lim
 have H:=Hp.init hG
 refine calls_of_W (l:=[.slice alist list.length klist]) func112 Z ntmps112 Z (q2 (aG Z (q3 (W_seq (q2 (mV Z (lN Z (pe 1 Z (q3 ?_)))))))))
 refine W_cond Z ?_ ?_
 ·intro hc1
  try simp only[nrm]at hc1
  refine q2 (aG Z (q3 (W_ret (N_K_ret (rt1 results112 Z ?_)))))
  exact H.rets (congrArg Value.bool (by rw[Sp.OpsValid,decide_eq_false (show¬list.length≤20 by omega)];simp))
 intro hc1'
 try simp only[nrm]at hc1'
 refine W_skip (N_K (W_seq (q2 (mV Z (lN Z (mV Z (q3 (W_block ?_))))))))
 refine W_lp (hf:=(Sub.cons (t:=8) Z (Sub.cons (t:=9) Z Sub.nil))) (J:=fun M w m=>∃(k:Nat) (G:PH),M=[(10,.int .i64 (k:Int))]∧PLe G0 G∧Hp w0 G0 [] w G []∧(k≤list.length∧(list.take k).all Sp.opOk=true)∧m=(list.length-k)) (h0:=⟨0,_,Z,PLe.refl _,H,?inv,Z⟩) (round:=?round)
 case inv=>exact⟨by omega,by simp⟩
 case round =>
  rintro _ _ _ ⟨k,_,rfl,hle2,H,hinv2,rfl⟩
  have hlist:=hlist.up hle2
  obtain⟨_,hall⟩:=hinv2
  refine q2 (pe 1 Z (q3 (W_seq ?_)))
  refine W_cond Z ?_ ?_
  ·intro hc3
   try simp only[nrm]at hc3
   refine W_skip (N_K (W_seq (W_block (q2 (iP k hlist Z3 Z ?_)))));intro _ _ z4 _ hz4 hE4 hrow4
   obtain⟨_,_,_,rfl,_,hi4,hr4⟩:=hE4;have hy_hi4:_≤16777216:=hi4;have hn_hr4:=hr4.len;have hx_hr4:_≤1099511627776:=hr4.lim
   refine o_loadagg_P H isAgg53 sizeOf53 Z Z hrow4 Z (xal H Z ?_);intro _ _ _ H
   refine xst 0 H Z8 ?_;intro _ H
   refine q1 (lA 0 3 H Z4 ?_)
   refine xr H Z2 (i_opValid_c _ _ H.sub _ z4 ⟨_,_,_,Z,⟨by first|omega|(dsimp only;omega),by first|omega|(dsimp only;omega)⟩,hi4,hr4⟩) ?_;intro _ H
   refine pe 1 Z (q3 ?_)
   refine W_cond Z ?_ ?_
   ·intro hc8
    try simp only[nrm]at hc8
    refine q2 (aG Z (q3 (W_ret (N_B_ret (N_K_ret (N_LP_ret (N_B_ret (N_K_ret (rt1 results112 Z ?_)))))))))
    exact H.rets (congrArg Value.bool (by rw[Sp.OpsValid,Sp.all_false hz4 (by simpa using hc8)];rfl))
   intro hc8'
   try simp only[nrm]at hc8'
   refine W_skip (N_B (N_K (W_region (aD Z2 (mV Z (R_nil ?_))))))
   have H:=H.dl 0
   refine N_lp (hJ:=⟨k+1,_,Z,hle2,H,?inv,Z⟩) (hm:=?hm)
   case hm=>omega
   case inv=>exact⟨by omega,Sp.all_take hall hz4 (by simpa using hc8')⟩
  intro hc3'
  try simp only[nrm]at hc3'
  refine W_exit (N_K_exit (N_LP_exit (N_B_same (N_K (q2 (aG Z (q3 (W_ret (rt1 results112 Z ?_)))))))))
  obtain rfl:k=list.length:=by omega
  rw[List.take_length]at hall
  exact H.rets (congrArg Value.bool (by rw[Sp.OpsValid,hall,Bool.true_and];rw[Bool.eq_iff_iff];simp;omega))
theorem i_push_c (w0:World)(G0:PH)(hG:PSub G0 w0)(qb:Nat)(qv:Value)(ql:List BOp)(qc:List Value)(hchkq:Chk opE 3 G0 qc ql)(hqn:ql.length≤1000)(cop:List Value)(op:BOp)(hop:opE G0 op cop)(hLent:Lent w0 G0 [blk qb (cl [qv] 174),acc 53 3 qv ql.length qc]) :
  Calls Tryz.prog 113 #[.pointer (some ⟨qb,0,none⟩),.agg cop.toArray] w0 (RetM w0 G0 (fps [blk qb (cl [qv] 174),acc 53 3 qv ql.length qc]) (fun G' v Bs=>∃(qv':Value) (qc':List Value),v= .tuple #[]∧Bs=[blk qb (cl [qv'] 174),acc 53 3 qv' (ql.length+1) qc']∧Chk opE 3 G' qc' (ql++[op]))):=by
 obtain⟨_,_,_,rfl,_,hi1,hr1⟩:=hop;have hy_hi1:_≤16777216:=hi1;have hn_hr1:=hr1.len;have hx_hr1:_≤1099511627776:=hr1.lim
 have H:Hp w0 G0 (fps [blk qb (cl [qv] 174),acc 53 3 qv ql.length qc]) w0 G0 [blk qb (cl [qv] 174),acc 53 3 qv ql.length qc]:=hLent.hp
 obtain⟨_,_,rfl⟩:=H.accShape (k:=1) rfl
 refine calls_of_W (l:=[.pointer (some ⟨qb,0,none⟩),_]) func113 Z ntmps113 Z (q2 (o_box H Z Z Z ?_));intro _ _ _ H
 refine q3 (W_drawK [0] 11 H kR Z ?_);intro _ H;have hd3:=PLe.refl G0
 refine dE 0 Z2 (dE 1 Z2 (dE 2 Z2 (dF 3 0 Z2 (RD_t 5 Z kR Z (fun _ hK=>v_loadagg_B 0 hK isAgg53 sizeOf53 Z Z Z Z) ?_))))
 refine r2 4 6 Z2 ?_ ?_
 ·skip
  refine lB 1 H Z3 (q4 H hd3 (r1 6 Z (xbs H Z7 ?_)));intro _ _ _ H
  refine q4 H hd3 (r1 7 Z (o_append1 2 H (sz:=3) (bytes:=48) underlying65 typeInfo53 ⟨_,Z,Z⟩ Z Z Z Z Z Z Z Z Z Z oM Z ?_));intro _ _ H
  have hchk5:=hchkq.snoc (show opE _ op _ from⟨_,_,_,rfl,⟨by first|omega|(dsimp only;omega),by first|omega|(dsimp only;omega)⟩,hi1,hr1⟩) rfl
  obtain⟨_,_,rfl⟩:=H.accShape (k:=2) rfl
  refine q4 H hd3 (dE 8 Z2 (dF 9 0 Z2 (r1 10 Z (xst 1 H Z8 ?_))));intro _ H
  refine q4 H hd3 (rz (end_gen (rs:=[]) (vs:=[]) results113 trivial ?_))
  have H:=H.dl 0
  have H:=H.tF 1
  have H:=H.tF 1
  exact H.retM ⟨_,_,Z,Z,hchk5⟩
 skip
 refine xbs H Z7 ?_;intro _ _ _ H
 refine q4 H hd3 (r1 4 Z (lB 2 H Z3 (q4 H hd3 (r1 7 Z (o_append1 2 H (sz:=3) (bytes:=48) underlying65 typeInfo53 ⟨_,Z,Z⟩ Z Z Z Z Z Z Z Z Z Z oM Z ?_)))));intro _ _ H
 have hchk8:=hchkq.snoc (show opE _ op _ from⟨_,_,_,rfl,⟨by first|omega|(dsimp only;omega),by first|omega|(dsimp only;omega)⟩,hi1,hr1⟩) rfl
 obtain⟨_,_,rfl⟩:=H.accShape (k:=2) rfl
 refine q4 H hd3 (dE 8 Z2 (dF 9 0 Z2 (r1 10 Z (xst 1 H Z8 ?_))));intro _ H
 refine q4 H hd3 (rz (end_gen (rs:=[]) (vs:=[]) results113 trivial ?_))
 have H:=H.dl 0
 have H:=H.tF 1
 have H:=H.tF 1
 exact H.retM ⟨_,_,Z,Z,hchk8⟩
theorem i_first_c (w0:World)(G0:PH)(hG:PSub G0 w0)(qb:Nat)(aq:Option Addr)(kq:Nat)(ql:List BOp)(hql:RdOp G0 (.slice aq ql.length kq) ql)(hLent:Lent w0 G0 [blk qb (cl [.slice aq ql.length kq] 174)]) :
  Calls Tryz.prog 115 #[.pointer (some ⟨qb,0,none⟩)] w0 (RetM w0 G0 (fps [blk qb (cl [.slice aq ql.length kq] 174)]) (fun G' v Bs=>∃(x:BOp) (co:List Value) (b:Bool),v= .tuple #[.agg co.toArray,.bool b]∧Bs=[blk qb (cl [.slice aq ql.length kq] 174)]∧opE G' x co∧(b=true→ql[0]? = some x)∧(b=false→ql=[]))):=by
 have H:Hp w0 G0 (fps [blk qb (cl [.slice aq ql.length kq] 174)]) w0 G0 [blk qb (cl [.slice aq ql.length kq] 174)]:=hLent.hp
 have hlimq:ql.length≤1099511627776:=hql.lim
 refine calls_of_W (l:=[.pointer (some ⟨qb,0,none⟩)]) func115 Z ntmps115 Z (q2 (xal H Z ?_));intro _ _ _ H
 refine aG Z (q3 (W_seq (q2 (pe 2 Z (fA 0 Z (lB 1 H Z3 (lN Z (pe 1 Z (q3 ?_)))))))))
 refine W_cond Z ?_ ?_
 ·intro hc2
  try simp only[nrm]at hc2
  refine q2 (o_build bf53 Z Z Z (xst 0 H Z8 ?_));intro _ H
  refine aG Z (q3 (W_ret (N_K_ret (ret_gen (rs:=[.cell 2 53,.tmp 3]) (vs:=[_,_]) results115 ⟨⟨_,Z,load_blk 0 H isAgg53 sizeOf53 Z Z Z⟩,Z,trivial⟩ ?_))))
  have H:=H.dl 0
  exact H.retM ⟨⟨0,[],[]⟩,_,false,rfl,rfl,⟨_,_,_,rfl,by decide,by decide,RdS.nil _ _ _⟩,fun h=>(by cases h),fun _=>List.length_eq_zero_iff.1 oM⟩
 intro hc2'
 try simp only[nrm]at hc2'
 refine W_skip (N_K (q2 (pe 2 Z (fA 0 Z (lB 1 H Z3 (iP 0 hql Z3 Z ?_))))));intro _ _ z4 _ hz4 hE4 hrow4
 obtain⟨_,_,_,rfl,_,hi4,hr4⟩:=hE4;have hy_hi4:_≤16777216:=hi4;have hn_hr4:=hr4.len;have hx_hr4:_≤1099511627776:=hr4.lim
 refine o_loadagg_P H isAgg53 sizeOf53 Z Z hrow4 Z (xst 0 H Z8 ?_);intro _ H
 refine aG Z (q3 (W_ret (ret_gen (rs:=[.cell 2 53,.tmp 3]) (vs:=[_,_]) results115 ⟨⟨_,Z,load_blk 0 H isAgg53 sizeOf53 Z Z Z⟩,Z,trivial⟩ ?_)))
 have H:=H.dl 0
 exact H.retM ⟨z4,_,true,rfl,rfl,⟨_,_,_,rfl,by assumption,hi4,hr4⟩,fun _=>hz4,fun h=>(by cases h)⟩
theorem i_pop_c (w0:World)(G0:PH)(hG:PSub G0 w0)(qb:Nat)(aq:Option Addr)(kq:Nat)(ql:List BOp)(hql:RdOp G0 (.slice aq ql.length kq) ql)(hLent:Lent w0 G0 [blk qb (cl [.slice aq ql.length kq] 174)])(hqp:0<ql.length) :
  Calls Tryz.prog 116 #[.pointer (some ⟨qb,0,none⟩)] w0 (RetM w0 G0 (fps [blk qb (cl [.slice aq ql.length kq] 174)]) (fun G' v Bs=>∃(aq':Option Addr) (kq':Nat),v= .tuple #[]∧Bs=[blk qb (cl [.slice aq' (ql.drop 1).length kq'] 174)]∧RdOp G' (.slice aq' (ql.drop 1).length kq') (ql.drop 1))):=by
 have H:Hp w0 G0 (fps [blk qb (cl [.slice aq ql.length kq] 174)]) w0 G0 [blk qb (cl [.slice aq ql.length kq] 174)]:=hLent.hp
 have hlimq:ql.length≤1099511627776:=hql.lim
 refine calls_of_W (l:=[.pointer (some ⟨qb,0,none⟩)]) func116 Z ntmps116 Z (W_region (pe 3 Z (fA 0 Z (lB 0 H Z3 ?_))))
 have hcap1:=hql.cap;try simp only[List.length_set,List.length_append,List.length_take,List.length_drop,List.length_replicate]at hcap1
 refine o_slice_from (i:=1) underlying65 sizeOf53 Z Z Z oM oM ?_
 have hsl1:=hql.part (i:=1) (j:=_) oM (Nat.le_refl _)
 have hsn1:=hsl1.len
 refine pe 1 Z (fA 0 Z (xst 0 H Z8 ?_));intro _ H
 refine R_nil (end_gen (rs:=[]) (vs:=[]) results116 trivial ?_)
 rw[List.take_of_length_le (by simp)]at hsl1
 have e9:ql.length-1=(ql.drop 1).length:=by simp
 rw[e9]at H hsl1
 exact H.retM ⟨_,_,Z,Z,hsl1⟩
theorem i_JournalRun_c (w0:World)(G0:PH)(hG:PSub G0 w0)(cd:List Value)(d:BDisk)(hd:diskE G0 d cd)(vlist:Value)(list:List (BOp))(hlist:RdOp G0 vlist list) :
  Calls Tryz.prog 40 #[.agg cd.toArray,vlist] w0 (RetN w0 G0 (fun v Bs=>∃(v1 v2 v3:Value) (F1 F2 F3:Fr),v= .tuple #[.agg #[v1,v2,v3],.int .i64 (Sp.jnum d list)]∧Bs=[frag F1,frag F2,frag F3]∧OHs F1 v1 (Sp.jdisk d list).store∧OIs F2 v2 (Sp.jdisk d list).tree∧OSn F3 v3 (Sp.jdisk d list).snaps)):=by
 obtain⟨a1,_,c1,_,_,_,_,_,_,rfl,hr1,hr1',hr1'',⟨_,_⟩,⟨_,_⟩,_,_⟩:=ox hd
 obtain⟨alist,klist,rfl⟩:=hlist.shape
 have hlimlist:list.length≤1099511627776:=hlist.lim
 have H:=Hp.init hG
 refine calls_of_W (l:=[_,.slice alist list.length klist]) func40 Z ntmps40 Z (q2 (o_box H Z Z Z ?_));intro b2 w2 _ H
 refine xal H Z ?_;intro b3 w3 _ H
 refine aG Z (q1 (lA 1 3 H Z4 (xc Z2 (i_newDisk_c _ _ H.sub _ d ⟨_,_,_,_,_,_,_,_,_,Z,hr1,hr1',hr1''⟩ H.lent0) ?_)))
 rintro _ _ ⟨G4,_,_,rfl,H4',⟨rfl,rfl,_⟩|⟨db4,mb4,es4,ck4,_,_,F4,_,sn4,c4,FS4,rfl,rfl,hm4,hS4,hN4,hT4,hchk4,hNs4,hSn4,hdv4⟩⟩
 ·skip
  have H:=H.borrow0 H4'
  refine⟨_,Z,?_⟩
  refine pe 5 Z (q3 (W_seq (q2 (pe 7 Z (q3 (W_true Z (q2 (o_build bf27 Z Z Z (xst 0 H Z8 ?_)))))))));intro _ H
  refine aG Z (q3 (W_ret (N_K_ret (ret_gen (rs:=[.cell 4 27,.tmp 5]) (vs:=[_,_]) results40 ⟨⟨_,Z,load_blk 0 H isAgg27 sizeOf27 Z Z Z⟩,Z,trivial⟩ ?_))))
  have H:=H.dl 0
  have H:=H.dl 0
  obtain⟨hj1,hj2⟩:Sp.jnum d list= -1∧Sp.jdisk d list=⟨[],[],[]⟩:=Sp.jrun_no (.inl (by assumption))
  have H:=(((H.addF).addF).addF).forget hG (by simp)
  exact⟨_,_,rfl,H,.slice none 0 0,.slice none 0 0,.slice none 0 0,[],[],[],(by rw[hj1];rfl),rfl,(by rw[hj2];exact oh_nil),(by rw[hj2];exact oi_nil),(by rw[hj2];exact os_nil)⟩
 skip
 have hlist:=hlist.up H4'.le
 have H:=H.borrow0 H4'
 obtain⟨avAd,cvAd,rfl⟩:=H.accShape (k:=3) rfl
 refine⟨_,Z,?_⟩
 refine pe 5 Z (q3 (W_seq (q2 (pe 4 Z (gR Z (xr H Z2 (i_OpsValid_c _ _ H.sub _ _ hlist) ?_))))));intro _ H
 refine pe 2 Z (q3 ?_)
 refine W_cond Z ?_ ?_
 ·intro hc7
  try simp only[nrm]at hc7
  refine q2 (o_build bf27 Z Z Z (xst 5 H Z8 ?_));intro _ H
  refine aG Z (q3 (W_ret (N_K_ret (ret_gen (rs:=[.cell 4 27,.tmp 5]) (vs:=[_,_]) results40 ⟨⟨_,Z,load_blk 5 H isAgg27 sizeOf27 Z Z Z⟩,Z,trivial⟩ ?_))))
  have H:=H.dl 0
  have H:=H.dl 0
  have H:=H.dl 0
  have H:=H.dl 0
  have H:=H.dl 0
  have H:=H.dl 0
  have H:=H.dl 0
  obtain⟨hj1,hj2⟩:Sp.jnum d list= -1∧Sp.jdisk d list=⟨[],[],[]⟩:=Sp.jrun_no (.inr (by simpa using hc7))
  have H:=(((H.addF).addF).addF).forget hG (by simp)
  exact⟨_,_,rfl,H,.slice none 0 0,.slice none 0 0,.slice none 0 0,[],[],[],(by rw[hj1];rfl),rfl,(by rw[hj2];exact oh_nil),(by rw[hj2];exact oi_nil),(by rw[hj2];exact os_nil)⟩
 intro hc7'
 try simp only[nrm]at hc7'
 refine W_skip (N_K (q2 ?_))
 have hov:Sp.OpsValid list=true:=by simpa using hc7'
 have hov20:list.length≤20:=Sp.ops_len hov
 refine o_build bf174 Z Z Z (o_box H Z Z Z ?_);intro b9 _ _ H
 refine aG Z (q3 (W_seq (q2 (mV Z (lN Z (mV Z (q3 (W_block ?_))))))))
 have H:=H.addNil 53 3
 obtain⟨ln11,hln11,H⟩:=H.nameAt (k:=1) (off:=0) rfl rfl
 obtain⟨ln12,hln12,H⟩:=H.name (k:=2) rfl
 obtain⟨ln13,hln13,H⟩:=H.name (k:=7) rfl
 obtain⟨ln14,hln14,H⟩:=H.name (k:=8) rfl
 refine W_lp (hf:=(Sub.cons (t:=4) Z (Sub.cons (t:=5) Z (Sub.cons (t:=6) Z (Sub.cons (t:=8) Z (Sub.cons (t:=32) Z (Sub.cons (t:=33) Z Sub.nil))))))) (J:=fun M w m=>∃(v:Value) (n:Nat) (cs:List Value) (xs:List (BOp)) (k:Nat) (G:PH),M=[(34,.int .i64 (k:Int))]∧PLe G4 G∧Hp w0 G0 [] w G [acc 53 3 v n cs,blk b9 (cl (setN ln11 0 v) 174),blk db4 (cl ln12 133),blk mb4 (.map es4 ck4),frag F4,acc 199 2 (.slice avAd sn4.length cvAd) sn4.length c4,frag FS4,blk b3 (cl ln13 27),blk b2 (cl ln14 27)]∧(Chk opE 3 G cs xs∧n=xs.length∧k≤list.length∧xs=list.take k)∧m=(list.length-k)) (h0:=⟨_,_,_,[],0,_,Z,PLe.refl _,H,?inv,Z⟩) (round:=?round)
 case inv=>exact⟨(Chk.nil (E:=opE) (sz:=3) (G:=G4)),by first|rfl|simp|(simp;omega)|omega,(by exact⟨by omega,rfl⟩)⟩
 case round =>
  rintro _ _ _ ⟨v,n,cs,xs,k,_,rfl,hle15,H,hinv15,rfl⟩
  subst hln11
  subst hln12
  subst hln13
  subst hln14
  have hlist:=hlist.up hle15
  have hS4:=hS4.up hle15
  have hN4:=hN4.up hle15
  have hchk4:=hchk4.up hle15
  have hNs4:=hNs4.up hle15
  obtain⟨hchk15_0,_,hinv15⟩:=hinv15
  obtain⟨_,_,rfl⟩:=H.accShape (k:=0) rfl
  obtain⟨hk,hxs⟩:=hinv15;obtain rfl:n=xs.length:=(by assumption);have hxl:xs.length=k:=(by rw[hxs,List.length_take];omega)
  refine q2 (pe 1 Z (q3 (W_seq ?_)))
  refine W_cond Z ?_ ?_
  ·intro hc16
   try simp only[nrm]at hc16
   refine W_skip (N_K (W_seq (W_block (q2 (iP k hlist Z3 Z ?_)))));intro _ _ z17 _ hz17 hE17 hrow17
   obtain⟨_,_,_,rfl,_,hi17,hr17⟩:=hE17;have hy_hi17:_≤16777216:=hi17;have hn_hr17:=hr17.len;have hx_hr17:_≤1099511627776:=hr17.lim
   refine o_loadagg_P H isAgg53 sizeOf53 Z Z hrow17 Z (xal H Z ?_);intro _ _ _ H
   refine xst 0 H Z8 ?_;intro _ H
   refine q3 (W_region (mV Z (lA 0 3 H Z4 ?_)))
   have H:=H.tF 1
   have H:=H.tF 2
   refine xc Z2 (i_push_c _ _ H.sub _ _ xs _ hchk15_0 aN _ _ ⟨_,_,_,Z,⟨by first|omega|(dsimp only;omega),by first|omega|(dsimp only;omega)⟩,hi17,hr17⟩ H.lent2) ?_
   rintro _ _ ⟨_,_,_,rfl,H20',⟨_,_,rfl,rfl,hchk20⟩⟩
   have hle15:=hle15.trans H20'.le
   have H:=H.borrow2 H20'
   obtain⟨_,_,rfl⟩:=H.accShape (k:=1) rfl
   refine⟨_,Z,?_⟩
   refine R_nil (N_B (N_K (W_region (aD Z2 (mV Z (R_nil ?_))))))
   have H:=H.dl 2
   have H:=H.tF 8
   have H:=H.tF 8
   have H:=H.tF 8
   have H:=H.tF 8
   have H:=H.tF 8
   have H:=H.tF 8
   have H:=H.tF 8
   have H:=H.tF 7
   have H:=H.tF 8
   refine N_lp (hJ:=⟨_,_,_,(xs++[z17]),k+1,_,Z,hle15,H,?inv,Z⟩) (hm:=?hm)
   case hm=>omega
   case inv=>exact⟨hchk20,aN,(by exact⟨by omega,by rw[hxs,take_succ hz17]⟩)⟩
  intro hc16'
  try simp only[nrm]at hc16'
  refine W_exit (N_K_exit (N_LP_exit (N_B_same (N_K (q2 (mV Z ?_))))))
  have H:=H.tF 6
  have H:=H.tF 6
  have H:=H.tF 6
  have H:=H.tF 6
  have H:=H.tF 6
  refine xc Z2 (i_disk_c _ _ H.sub _ _ _ _ _ _ _ _ _ _ _ _ hm4 hS4 hN4 hT4 hchk4 hNs4 hSn4 (Sp.valid_iff.1 (Sp.dv_parts.1 hdv4).1) (Sp.dv_parts.1 hdv4).2.2.1 H.lent5) ?_
  rintro _ _ ⟨_,_,_,rfl,H22',⟨_,_,_,_,_,_,rfl,rfl,ho122,ho222,ho322⟩⟩
  have hchk15_0:=hchk15_0.up H22'.le
  have H:=H.borrow5 H22'
  obtain⟨_,p122⟩:=ho122
  obtain⟨_,_,rfl⟩:=OwnS.shape p122
  obtain⟨_,p222⟩:=ho222
  obtain⟨_,_,rfl⟩:=OwnS.shape p222
  obtain⟨_,p322⟩:=ho322
  obtain⟨_,_,rfl⟩:=OwnS.shape p322
  refine⟨_,Z,?_⟩
  refine xal H Z ?_;intro b23 _ _ H
  refine xst 0 H Z8 ?_;intro _ H
  refine aG Z (q3 (W_seq (q2 ?_)))
  obtain rfl:k=list.length:=by omega
  rw[List.take_length]at hxs
  rw[hxs]at H hchk15_0
  obtain⟨_,H,hsg25,hsr25⟩:=H.shut' (k:=4) rfl hchk15_0 aN aN
  refine mV Z ?_
  have H:=H.tF 4
  refine xc Z2 (i_first_c _ _ H.sub _ _ _ _ hsr25 H.lent1) ?_
  rintro _ _ ⟨G26,_,_,rfl,H26',⟨xo26,_,bo26,rfl,rfl,hoe26,hot26,hof26⟩⟩
  have hsr25:=hsr25.up H26'.le
  have H:=H.borrow1 H26'
  obtain⟨_,_,_,rfl,_,hOp26,hOr26⟩:=hoe26
  have hn_hOr26:=hOr26.len;have hx_hOr26:_≤1099511627776:=hOr26.lim
  refine⟨_,Z,?_⟩
  refine pe 3 Z (xal H Z ?_);intro _ _ _ H
  refine xst 0 H Z8 ?_;intro _ H
  refine aG Z (q3 (W_block ?_))
  have H:=H.dl 7
  have H:=H.tF 6
  have H:=H.tF 2
  have H:=H.tF 2
  have H:=H.tF 6
  have H:=H.tF 6
  have H:=H.tF 6
  have H:=H.tF 6
  obtain⟨ln29,hln29,H⟩:=H.name (k:=6) rfl
  refine W_lp (hf:=(Sub.cons (t:=4) Z (Sub.cons (t:=5) Z (Sub.cons (t:=8) Z (Sub.cons (t:=11) Z Sub.nil))))) (J:=fun M w m=>∃(k:Nat) (dn:BDisk) (op:BOp) (mo:Bool) (ob:Nat) (va ov w1 w2 w3:Value) (F1 F2 F3:Fr) (G:PH),M=[(14,.bool mo),(12,.int .i64 (k:Int)),(13,.pointer (some ⟨ob,0,none⟩))]∧PLe G26 G∧Hp w0 G0 [] w G [blk b23 (cl [w1,w2,w3] 27),frag F1,frag F2,frag F3,blk ob (cl [.int .i64 op.kind,str op.path,ov] 53),blk b9 (cl [va] 174),blk b3 (cl ln29 27)]∧(k≤list.length∧Sp.JAt d list k dn∧OHs F1 w1 dn.store∧OIs F2 w2 dn.tree∧OSn F3 w3 dn.snaps∧RdOp G va (list.drop k)∧RdI G ov op.bytes∧inI op.kind∧op.path.length≤16777216∧(mo=true→list[k]? = some op)∧(mo=false→k=list.length))∧m=(list.length-k)) (h0:=⟨0,d,xo26,bo26,_,_,_,_,_,_,_,_,_,_,Z,PLe.refl _,H,?inv,Z⟩) (round:=?round)
  case inv=>exact⟨by omega,Sp.JAt.zero,⟨_,p122⟩,⟨_,p222⟩,⟨_,p322⟩,hsr25,hOr26,by assumption,hOp26,hot26,fun hh=>(by have h9:=congrArg List.length (hof26 hh);simpa using h9.symm)⟩
  case round =>
   rintro _ _ _ ⟨k,dn,op,mo,ob,va,ov,w1,w2,w3,F1,F2,F3,_,rfl,hle30,H,hinv30,rfl⟩
   subst hln29
   obtain⟨hk,hJ,hw1,hw2,hw3,hva,hov2,_,hop2,hmt,hmf⟩:=hinv30;obtain⟨_,p1⟩:=hw1;obtain⟨a1,c1,rfl⟩:=OwnS.shape p1;obtain⟨_,p2⟩:=hw2;obtain⟨a2,c2,rfl⟩:=OwnS.shape p2;obtain⟨_,p3⟩:=hw3;obtain⟨a3,c3,rfl⟩:=OwnS.shape p3;obtain⟨_,_,rfl⟩:=hva.shape;obtain⟨_,_,rfl⟩:=hov2.shape;have hn_hov2:=hov2.len;have hx_hov2:_≤1099511627776:=hov2.lim
   refine W_seq (q2 (mV Z (q3 ?_)))
   refine W_cond Z ?_ ?_
   ·intro hc31
    try simp only[nrm]at hc31
    refine W_skip (N_K (W_seq (W_block (q2 ?_))))
    have hzk:=hmt (by simpa using hc31)
    have hltk:=(List.getElem?_eq_some_iff.1 hzk).1
    refine lA 0 3 H Z4 (lA 4 3 H Z4 ?_)
    refine xc Z2 (i_OpRun_c _ _ (H.lendSubL [1,2,3]) _ dn ⟨_,_,_,_,_,_,_,_,_,Z,(H.lendOHs (k:=1) (ks:=[1,2,3]) Z Z ⟨_,p1⟩),(H.lendOIs (k:=2) (ks:=[1,2,3]) Z Z ⟨_,p2⟩),(H.lendOSn (k:=3) (ks:=[1,2,3]) Z Z ⟨_,p3⟩)⟩ _ op ⟨_,_,_,Z,⟨by first|omega|(dsimp only;omega),by first|omega|(dsimp only;omega)⟩,hop2,(hov2.up (PPlus.le _ _ _))⟩) ?_
    rintro _ _ ⟨_,_,rfl,H32',⟨_,_,_,_,_,_,rfl,rfl,ho132,ho232,ho332⟩⟩
    have H:=H.readersL H32'
    obtain⟨_,p132⟩:=ho132
    obtain⟨_,_,rfl⟩:=OwnS.shape p132
    obtain⟨_,p232⟩:=ho232
    obtain⟨_,_,rfl⟩:=OwnS.shape p232
    obtain⟨_,p332⟩:=ho332
    obtain⟨_,_,rfl⟩:=OwnS.shape p332
    refine⟨_,Z,?_⟩
    refine pe 3 Z (xal H Z ?_);intro _ _ _ H
    refine xst 0 H Z8 ?_;intro _ H
    refine aG Z (q3 (W_seq (q2 (pe 2 Z (q3 ?_)))))
    refine W_cond Z ?_ ?_
    ·intro hc35
     try simp only[nrm]at hc35
     refine W_exit (N_K_exit (N_B_other Z (N_K_exit (N_LP_exit (N_B_same (N_K (q2 (lA 4 3 H Z4 (mV Z (xst 10 H Z8 ?_))))))))));intro _ H
     refine aG Z (q3 (W_ret (ret_gen (rs:=[.cell 4 27,.tmp 5]) (vs:=[_,_]) results40 ⟨⟨_,Z,load_blk 10 H isAgg27 sizeOf27 Z Z Z⟩,Z,trivial⟩ ?_)))
     have H:=H.dl 0
     have H:=H.dl 0
     have H:=H.dl 0
     have H:=H.dl 0
     have H:=H.dl 0
     have H:=H.dl 3
     have H:=H.dl 3
     have H:=H.dl 3
     have H:=H.tF 2
     have H:=H.tF 2
     have H:=H.tF 2
     obtain⟨hj1,hj2⟩:=Sp.jrun_is hdv4 hov (hJ.stop hzk (by simpa using hc35))
     have H:=H.forget hG (by simp)
     exact⟨_,_,rfl,H,.slice a1 dn.store.length c1,.slice a2 dn.tree.length c2,.slice a3 dn.snaps.length c3,F1,F2,F3,(by rw[hj1];rfl),rfl,(by rw[hj2];exact⟨_,p1⟩),(by rw[hj2];exact⟨_,p2⟩),(by rw[hj2];exact⟨_,p3⟩)⟩
    intro hc35'
    try simp only[nrm]at hc35'
    refine W_skip (N_K (q2 (mV Z ?_)))
    have H:=H.tF 9
    refine xc Z2 (i_pop_c _ _ H.sub _ _ _ _ hva H.lent1 (by rw[List.length_drop];omega)) ?_
    rintro _ _ ⟨_,_,_,rfl,H37',⟨_,_,rfl,rfl,hqr37⟩⟩
    have hle30:=hle30.trans H37'.le
    have H:=H.borrow1 H37'
    refine⟨_,Z,?_⟩
    refine q1 ?_
    have hdd:(list.drop k).drop 1=list.drop (k+1):=by rw[List.drop_drop]
    rw[hdd]at H hqr37
    refine lA 1 3 H Z4 (xst 5 H Z8 ?_);intro _ H
    refine q3 (W_region (mV Z (aD Z2 (aG Z (R_nil (N_B (N_K (W_seq (q2 (lA 9 3 H Z4 (q3 (W_region (xal H Z ?_)))))))))))));intro _ _ _ H
    refine xst 0 H Z8 ?_;intro _ H
    refine q3 (W_region (mV Z ?_))
    have H:=H.tF 1
    refine xc Z2 (i_first_c _ _ H.sub _ _ _ _ hqr37 H.lent1) ?_
    rintro _ _ ⟨_,_,_,rfl,H42',⟨xo42,_,bo42,rfl,rfl,hoe42,hot42,hof42⟩⟩
    have hqr37:=hqr37.up H42'.le
    have hle30:=hle30.trans H42'.le
    have H:=H.borrow1 H42'
    obtain⟨_,_,_,rfl,_,hOp42,hOr42⟩:=hoe42
    have hn_hOr42:=hOr42.len;have hx_hOr42:_≤1099511627776:=hOr42.lim
    refine⟨_,Z,?_⟩
    refine pe 3 Z (xst 1 H Z8 ?_);intro _ H
    refine aG Z (R_nil ?_)
    have H:=H.dl 7
    have H:=H.dl 7
    have H:=H.dl 7
    have H:=H.dl 7
    have H:=H.dl 2
    have H:=H.tF 6
    have H:=H.tF 1
    have H:=H.tF 2
    have H:=H.tF 5
    have H:=H.tF 5
    have H:=H.tF 5
    have H:=H.tF 6
    refine N_lp (hJ:=⟨k+1,((Sp.OpRun dn op).getD ⟨[],[],[]⟩),xo42,bo42,_,_,_,_,_,_,_,_,_,_,Z,hle30,H,?inv,Z⟩) (hm:=?hm)
    case hm=>omega
    case inv=>exact⟨by omega,hJ.step hzk (Sp.some_get (by simpa using hc35')),⟨_,p132⟩,⟨_,p232⟩,⟨_,p332⟩,hqr37,hOr42,by assumption,hOp42,fun hh=>(by have h9:=hot42 hh;simpa [List.getElem?_drop] using h9),fun hh=>(by have h9:=congrArg List.length (hof42 hh);simp at h9;omega)⟩
   intro hc31'
   try simp only[nrm]at hc31'
   refine W_exit (N_K_exit (N_LP_exit (N_B_same (N_K (q2 (lA 0 3 H Z4 (mV Z (xst 6 H Z8 ?_))))))));intro _ H
   refine aG Z (q3 (W_ret (ret_gen (rs:=[.cell 4 27,.tmp 5]) (vs:=[_,_]) results40 ⟨⟨_,Z,load_blk 6 H isAgg27 sizeOf27 Z Z Z⟩,Z,trivial⟩ ?_)))
   have H:=H.dl 0
   have H:=H.dl 3
   have H:=H.dl 3
   have H:=H.dl 3
   have H:=H.tF 2
   have H:=H.tF 2
   have H:=H.tF 2
   obtain⟨hj1,hj2⟩:=Sp.jrun_is hdv4 hov (hJ.done (by have h9:=hmf (by simpa using hc31');omega))
   have H:=H.forget hG (by simp)
   exact⟨_,_,rfl,H,.slice a1 dn.store.length c1,.slice a2 dn.tree.length c2,.slice a3 dn.snaps.length c3,F1,F2,F3,(by rw[hj1];rfl),rfl,(by rw[hj2];exact⟨_,p1⟩),(by rw[hj2];exact⟨_,p2⟩),(by rw[hj2];exact⟨_,p3⟩)⟩
theorem w_szOp_c (w0:World)(G0:PH)(hG:PSub G0 w0)(ca:List Value)(a:BOp)(ha:opE G0 a ca)(left:Int)(hl: -1≤left∧left≤1099511627776) :
  Calls Tryz.prog 43 #[.agg ca.toArray,.int .i64 left] w0 (RetV w0 (fun v=>∃r:Int,v= .int .i64 r∧(r= -1∨(0≤r∧r+(wOp a:Int)≤left)))):=by
 obtain⟨_,_,_,rfl,_,hi1,hr1⟩:=ha;have hy_hi1:_≤16777216:=hi1;have hn_hr1:=hr1.len;have hx_hr1:_≤1099511627776:=hr1.lim
 have H:=Hp.init hG
 refine calls_of_W (l:=[_,.int .i64 left]) func43 Z ntmps43 Z (q2 (o_box H Z Z Z ?_));intro _ _ _ H
 refine aG Z (q1 (mV Z (fA 1 Z (lB 0 H Z3 (lS Z (o_sub Z Z Z oO (aG Z (q3 (W_seq (q2 (pe 2 Z (q3 ?_))))))))))))
 refine W_cond Z ?_ ?_
 ·intro hc4
  try simp only[nrm]at hc4
  refine q2 (aG Z (q3 (W_ret (N_K_ret (rt1 results43 Z ?_)))))
  exact H.retV ⟨_,rfl,by first|omega|(simp only[wOp,wOps]at *; omega)⟩
 intro hc4'
 try simp only[nrm]at hc4'
 refine W_skip (N_K (q2 (fA 2 Z (lB 0 H Z3 (mV Z (xc Z2 (w_szIntS_c _ _ H.sub _ _ hr1 _ oO) ?_))))))
 rintro _ _ ⟨_,rfl,ew5,⟨_,rfl,_⟩⟩
 skip
 have H:=H.step ew5;refine⟨_,rfl,?_⟩
 refine aG Z (q3 (W_seq (q2 (pe 2 Z (q3 ?_)))))
 refine W_cond Z ?_ ?_
 ·intro hc6
  try simp only[nrm]at hc6
  refine q2 (aG Z (q3 (W_ret (N_K_ret (rt1 results43 Z ?_)))))
  exact H.retV ⟨_,rfl,by first|omega|(simp only[wOp,wOps]at *; omega)⟩
 intro hc6'
 try simp only[nrm]at hc6'
 refine W_skip (N_K (q2 (pe 2 Z (q3 (W_ret (rt1 results43 Z ?_))))))
 exact H.retV ⟨_,rfl,by first|omega|(simp only[wOp,wOps]at *; omega)⟩
theorem w_szOpS_c (w0:World)(G0:PH)(hG:PSub G0 w0)(va:Value)(a:List (BOp))(ha:RdOp G0 va a)(left:Int)(hl: -1≤left∧left≤1099511627776) :
  Calls Tryz.prog 51 #[va,.int .i64 left] w0 (RetV w0 (fun v=>∃r:Int,v= .int .i64 r∧(r= -1∨(0≤r∧r+(wOps a:Int)≤left)))):=by
 obtain⟨aa,ka,rfl⟩:=ha.shape
 have hlima:a.length≤1099511627776:=ha.lim
 have H:=Hp.init hG
 refine calls_of_W (l:=[.slice aa a.length ka,.int .i64 left]) func51 Z ntmps51 Z (q2 (aG Z (q1 (pe 2 Z (lN Z (o_sub Z Z Z oO (aG Z (q3 (W_seq (q2 (pe 2 Z (q3 ?_))))))))))))
 refine W_cond Z ?_ ?_
 ·intro hc2
  try simp only[nrm]at hc2
  refine q2 (aG Z (q3 (W_ret (N_K_ret (rt1 results51 Z ?_)))))
  exact H.retV ⟨_,rfl,by first|omega|(simp only[wOp,wOps]at *; omega)⟩
 intro hc2'
 try simp only[nrm]at hc2'
 refine W_skip (N_K (W_seq (q2 (aG Z (q3 (W_block ?_))))))
 refine W_lp (hf:=(Sub.cons (t:=0) Z Sub.nil)) (J:=fun M w m=>∃(k:Nat) (lf:Int) (G:PH),M=[(5,.int .i64 (k:Int)),(1,.int .i64 lf)]∧PLe G0 G∧Hp w0 G0 [] w G []∧(k≤a.length∧0≤lf∧lf+(a.length:Int)+(cnt wOp (a.take k):Int)≤left)∧m=(a.length-k)) (h0:=⟨0,(left-(a.length:Int)),_,Z,PLe.refl _,H,?inv,Z⟩) (round:=?round)
 case inv=>exact⟨by omega,by omega,by (simp only[List.take_zero,cnt];omega)⟩
 case round =>
  rintro _ _ _ ⟨k,lf,_,rfl,hle3,H,hinv3,rfl⟩
  have ha:=ha.up hle3
  obtain⟨_,_,_⟩:=hinv3
  refine W_seq (q2 (pe 2 Z (lN Z (pe 1 Z (q3 ?_)))))
  refine W_cond Z ?_ ?_
  ·intro hc4
   try simp only[nrm]at hc4
   refine W_skip (N_K (W_seq (W_block (q2 (pe 2 Z (iP k ha Z3 Z ?_))))));intro _ _ _ _ hz5 hE5 hrow5
   obtain⟨_,_,_,rfl,_,hi5,hr5⟩:=hE5;have hy_hi5:_≤16777216:=hi5;have hn_hr5:=hr5.len;have hx_hr5:_≤1099511627776:=hr5.lim
   refine o_loadagg_P H isAgg75 sizeOf75 Z Z hrow5 Z (mV Z ?_)
   refine xc Z2 (w_szOp_c _ _ H.sub _ _ ⟨_,_,_,Z,⟨by first|omega|(dsimp only;omega),by first|omega|(dsimp only;omega)⟩,hi5,hr5⟩ _ oO) ?_
   rintro _ _ ⟨_,rfl,ew6,⟨r6,rfl,_⟩⟩
   skip
   have H:=H.step ew6;refine⟨_,rfl,?_⟩
   refine aG Z (q1 (pe 2 Z (q3 ?_)))
   refine W_cond Z ?_ ?_
   ·intro hc7
    try simp only[nrm]at hc7
    refine q2 (aG Z (q3 (W_ret (N_B_ret (N_K_ret (N_LP_ret (N_B_ret (N_K_ret (rt1 results51 Z ?_)))))))))
    exact H.retV ⟨_,rfl,by first|omega|(simp only[wOp,wOps]at *; omega)⟩
   intro hc7'
   try simp only[nrm]at hc7'
   refine W_skip (N_B (N_K (W_region (mV Z (aD Z2 (aG Z (R_nil ?_)))))))
   refine N_lp (hJ:=⟨k+1,r6,_,Z,hle3,H,?inv,Z⟩) (hm:=?hm)
   case hm=>omega
   case inv=>exact⟨by omega,by omega,by (have hcs:=cnt_succ (c:=wOp) hz5;omega)⟩
  intro hc4'
  try simp only[nrm]at hc4'
  refine W_exit (N_K_exit (N_LP_exit (N_B_same (N_K (q2 (pe 2 Z (q3 (W_ret (rt1 results51 Z ?_)))))))))
  have hce:=cnt_end (c:=wOp) (show k=a.length by omega)
  exact H.retV ⟨_,rfl,by first|omega|(simp only[wOp,wOps]at *; omega)⟩
theorem w_eqOp_c (w0:World)(G0:PH)(hG:PSub G0 w0)(ca:List Value)(a:BOp)(ha:opE G0 a ca)(cb:List Value)(b:BOp)(hb:opE G0 b cb)(hab:a=b) :
  Calls Tryz.prog 47 #[.agg ca.toArray,.agg cb.toArray] w0 (Rets w0 (.bool true)):=by
 obtain⟨_,_,_,rfl,_,hi1,hr1⟩:=ha;have hy_hi1:_≤16777216:=hi1;have hn_hr1:=hr1.len;have hx_hr1:_≤1099511627776:=hr1.lim
 obtain⟨_,_,_,rfl,_,hi2,hr2⟩:=hb;have hy_hi2:_≤16777216:=hi2;have hn_hr2:=hr2.len;have hx_hr2:_≤1099511627776:=hr2.lim
 have H:=Hp.init hG
 refine calls_of_W (l:=[_,_]) func47 Z ntmps47 Z (q2 (o_box H Z Z Z ?_));intro _ _ _ H
 refine o_box H Z Z Z ?_;intro _ _ _ H
 refine aG Z (q3 (W_seq (q2 (fA 0 Z (lB 1 H Z3 (fA 0 Z (lB 0 H Z3 (pe 1 Z (q3 ?_)))))))))
 refine W_cond Z ?_ ?_
 ·intro hc5
  try simp only[nrm]at hc5
  refine q2 (aG Z (q3 (W_ret (N_K_ret (rt1 results47 Z ?_)))))
  exact absurd (show False from by simp[hab]at hc5) id
 intro hc5'
 try simp only[nrm]at hc5'
 refine W_skip (N_K (W_seq (q2 (fA 1 Z (lB 1 H Z3 (fA 1 Z (lB 0 H Z3 (o_sneq Z Z Z (q3 ?_)))))))))
 refine W_cond Z ?_ ?_
 ·intro hc6
  try simp only[nrm]at hc6
  refine q2 (aG Z (q3 (W_ret (N_K_ret (rt1 results47 Z ?_)))))
  exact absurd (show False from by simp[hab]at hc6) id
 intro hc6'
 try simp only[nrm]at hc6'
 refine W_skip (N_K (W_seq (q2 (fA 2 Z (lB 1 H Z3 (fA 2 Z (lB 0 H Z3 (xr H Z2 (w_eqIntS_c _ _ H.sub _ _ hr1 _ _ hr2 (congrArg BOp.bytes hab)) ?_))))))));intro _ H
 refine pe 1 Z (q3 (W_false Z (W_skip (N_K (q2 (aG Z (q3 (W_ret (rt1 results47 Z ?_)))))))))
 exact H.rets Z
theorem w_eqOpS_c (w0:World)(G0:PH)(hG:PSub G0 w0)(va:Value)(a:List (BOp))(ha:RdOp G0 va a)(vb:Value)(b:List (BOp))(hb:RdOp G0 vb b)(hab:a=b) :
  Calls Tryz.prog 53 #[va,vb] w0 (Rets w0 (.bool true)):=by
 obtain⟨aa,ka,rfl⟩:=ha.shape
 have hlima:a.length≤1099511627776:=ha.lim
 obtain⟨ab,kb,rfl⟩:=hb.shape
 have hlimb:b.length≤1099511627776:=hb.lim
 have hle:=congrArg List.length hab
 have H:=Hp.init hG
 refine calls_of_W (l:=[.slice aa a.length ka,.slice ab b.length kb]) func53 Z ntmps53 Z (q2 (aG Z (q3 (W_seq (q2 (mV Z (lN Z (mV Z (lN Z (pe 1 Z (q3 ?_)))))))))))
 refine W_cond Z ?_ ?_
 ·intro hc1
  try simp only[nrm]at hc1
  refine q2 (aG Z (q3 (W_ret (N_K_ret (rt1 results53 Z ?_)))))
  exact absurd (show False from by omega) id
 intro hc1'
 try simp only[nrm]at hc1'
 refine W_skip (N_K (W_seq (q2 (aG Z (q3 (W_block ?_))))))
 refine W_lp (hf:=(Sub.cons (t:=0) Z (Sub.cons (t:=1) Z Sub.nil))) (J:=fun M w m=>∃(k:Nat) (G:PH),M=[(5,.int .i64 (k:Int))]∧PLe G0 G∧Hp w0 G0 [] w G []∧(k≤a.length)∧m=(a.length-k)) (h0:=⟨0,_,Z,PLe.refl _,H,?inv,Z⟩) (round:=?round)
 case inv=>omega
 case round =>
  rintro _ _ _ ⟨k,G2,rfl,hle2,H,hinv2,rfl⟩
  have ha:=ha.up hle2
  have hb:=hb.up hle2
  have hk:=hinv2
  refine W_seq (q2 (pe 2 Z (lN Z (pe 1 Z (q3 ?_)))))
  refine W_cond Z ?_ ?_
  ·intro hc3
   try simp only[nrm]at hc3
   refine W_skip (N_K (W_seq (W_block (W_seq (W_drawK [] 10 H kR Z ?_)))));intro _ H;have hd4:=PLe.refl G2
   refine dE 0 Z2 (dE 1 Z2 ?_)
   have hl5:=ha.len
   obtain⟨_,_,_,_,ha5,hz5,hq5,hE5,hrow5,_⟩:=ha.at (i:=k) oM
   clear hq5
   obtain⟨_,_,_,rfl,_,hi5,hr5⟩:=hE5;have hy_hi5:_≤16777216:=hi5;have hn_hr5:=hr5.len;have hx_hr5:_≤1099511627776:=hr5.lim
   refine dI 2 3 k ha5 Z3 Z (RD_t 3 Z kR Z (fun _ hK=>v_loadagg_P hK isAgg53 sizeOf53 Z hrow5 Z) (dE 4 Z2 (dE 5 Z2 ?_)))
   have hl6:=hb.len
   obtain⟨_,_,_,_,ha6,hz6,hq6,hE6,hrow6,_⟩:=hb.at (i:=k) oM
   clear hq6
   obtain⟨_,_,_,rfl,_,hi6,hr6⟩:=hE6;have hy_hi6:_≤16777216:=hi6;have hn_hr6:=hr6.len;have hx_hr6:_≤1099511627776:=hr6.lim
   refine dI 6 3 k ha6 Z3 Z (RD_t 7 Z kR Z (fun _ hK=>v_loadagg_P hK isAgg53 sizeOf53 Z hrow6 Z) (r1 8 Z ?_))
   refine xr H Z2 (w_eqOp_c _ _ H.sub _ _ ⟨_,_,_,Z,⟨by first|omega|(dsimp only;omega),by first|omega|(dsimp only;omega)⟩,hi5,hr5⟩ _ _ ⟨_,_,_,rfl,⟨by first|omega|(dsimp only;omega),by first|omega|(dsimp only;omega)⟩,hi6,hr6⟩ (Sp.same_at hab hz5 hz6)) ?_;intro _ H
   refine q4 H hd4 (dE 9 Z2 (rz (N_K (W_false Z (W_skip (N_B (N_K (W_region (mV Z (aD Z2 (aG Z (R_nil ?_))))))))))))
   refine N_lp (hJ:=⟨k+1,_,Z,hle2,H,?inv,Z⟩) (hm:=?hm)
   case hm=>omega
   case inv=>omega
  intro hc3'
  try simp only[nrm]at hc3'
  refine W_exit (N_K_exit (N_LP_exit (N_B_same (N_K (q2 (aG Z (q3 (W_ret (rt1 results53 Z ?_)))))))))
  exact H.rets Z
theorem w_toOp_c (w0:World)(G0:PH)(hG:PSub G0 w0)(ca:List Value)(a:BOp)(ha:opE G0 a ca) :
  Calls Tryz.prog 45 #[.agg ca.toArray] w0 (RetN w0 G0 (fun v Bs=>∃(F:Fr) (cs:List Value),v= .agg cs.toArray∧Bs=[frag F]∧opO F a cs)):=by
 obtain⟨_,_,_,rfl,_,hi1,hr1⟩:=ha;have hy_hi1:_≤16777216:=hi1;have hn_hr1:=hr1.len;have hx_hr1:_≤1099511627776:=hr1.lim
 have H:=Hp.init hG
 refine calls_of_W (l:=[_]) func45 Z ntmps45 Z (q2 (o_box H Z Z Z ?_));intro _ _ _ H
 refine xal H Z ?_;intro _ _ _ H
 refine q1 (xal H Z ?_);intro _ _ _ H
 refine q1 (fA 0 Z (lB 2 H Z3 (fA 0 Z (xst 0 H Z8 ?_))));intro _ H
 refine q1 (fA 1 Z (lB 2 H Z3 (fA 1 Z (xst 0 H Z8 ?_))));intro _ H
 refine q1 (fA 2 Z (lB 2 H Z3 (xc Z2 (w_toIntS_c _ _ H.sub _ _ hr1) ?_)))
 rintro _ _ ⟨_,_,_,g7,rfl,⟨_,rfl,hchk7⟩,hp7,hq7,hs7⟩
 have H:=H.growO g7 hp7 hq7 hs7;obtain⟨_,_,rfl⟩:=H.accShape (k:=0) rfl
 refine⟨_,Z,?_⟩
 refine fA 2 Z (xst 1 H Z8 ?_);intro _ H
 refine q1 (lA 1 3 H Z4 (xst 2 H Z8 ?_));intro _ H
 refine q3 (W_ret (ret_gen (rs:=[.cell 2 53]) (vs:=[_]) results45 ⟨⟨_,Z,load_blk 2 H isAgg53 sizeOf53 Z Z Z⟩,trivial⟩ ?_))
 obtain⟨_,H,hOI1⟩:=H.ownI (k:=0) rfl hchk7 aN aN
 have H:=H.dl 1
 have H:=H.dl 1
 have H:=H.dl 1
 have H:=H.forget hG (by simp)
 exact⟨_,_,Z,H,_,_,Z,Z,⟨_,_,_,Z,oO,hi1,hOI1⟩⟩
theorem w_toOpS_c (w0:World)(G0:PH)(hG:PSub G0 w0)(va:Value)(a:List (BOp))(ha:RdOp G0 va a) :
  Calls Tryz.prog 52 #[va] w0 (RetN w0 G0 (fun v Bs=>∃(F:Fr),Bs=[frag F]∧OOp F v a)):=by
 obtain⟨aa,ka,rfl⟩:=ha.shape
 have hlima:a.length≤1099511627776:=ha.lim
 have H:=Hp.init hG
 refine calls_of_W (l:=[.slice aa a.length ka]) func52 Z ntmps52 Z (q2 (aG Z (q1 (mV Z (lN Z (o_makeN (c:=a.length) (sz:=3) (bytes:=48) H underlying65 typeInfo53 ⟨_,Z,Z⟩ Z Z Z Z Z Z Z Z Z oM Z ?_))))));intro _ _ H
 have hchk1:=Chk.rep (E:=opE) (sz:=3) (G:=G0) (x0:=⟨0,[],[]⟩) (zeroOp _) rfl (a.length)
 refine aG Z (q3 (W_seq (q2 (aG Z (q3 (W_block ?_))))))
 have H:=H.addF
 refine W_lp (hf:=(Sub.cons (t:=0) Z (Sub.cons (t:=2) Z Sub.nil))) (J:=fun M w m=>∃(v:Value) (n:Nat) (cs:List Value) (xs:List (BOp)) (F:Fr) (k:Nat) (G:PH),M=[(4,.int .i64 (k:Int)),(3,v)]∧PLe G0 G∧Hp w0 G0 [] w G [frag F,acc 53 3 v n cs]∧(ChkF opO 3 cs xs F∧n=xs.length∧k≤a.length∧xs.length=a.length∧xs.take k=a.take k)∧m=(a.length-k)) (h0:=⟨_,_,_,(List.replicate a.length ⟨0,[],[]⟩),[],0,_,Z,PLe.refl _,H,?inv,Z⟩) (round:=?round)
 case inv=>exact⟨(ChkF.rep zeroOpO rfl (a.length)),by first|rfl|simp|(simp;omega)|omega,(by simp)⟩
 case round =>
  rintro _ _ _ ⟨v,n,cs,xs,F,k,_,rfl,hle2,H,hinv2,rfl⟩
  have ha:=ha.up hle2
  obtain⟨hchk2_0,_,hinv2⟩:=hinv2
  obtain⟨_,_,rfl⟩:=H.accShape (k:=1) rfl
  obtain⟨_,hxl,hxt⟩:=hinv2
  refine W_seq (q2 (pe 2 Z (lN Z (pe 1 Z (q3 ?_)))))
  refine W_cond Z ?_ ?_
  ·intro hc3
   try simp only[nrm]at hc3
   refine W_skip (N_K (W_seq (W_block (W_region (pe 4 Z (iP k ha Z3 Z ?_))))));intro _ _ z4 _ hz4 hE4 hrow4
   obtain⟨_,_,_,rfl,_,hi4,hr4⟩:=hE4;have hy_hi4:_≤16777216:=hi4;have hn_hr4:=hr4.len;have hx_hr4:_≤1099511627776:=hr4.lim
   refine o_loadagg_P H isAgg75 sizeOf75 Z Z hrow4 Z ?_
   refine xc Z2 (w_toOp_c _ _ H.sub _ _ ⟨_,_,_,Z,⟨by first|omega|(dsimp only;omega),by first|omega|(dsimp only;omega)⟩,hi4,hr4⟩) ?_
   rintro _ _ ⟨_,_,rfl,H5',⟨F5,_,rfl,rfl,hO5⟩⟩
   have H:=H.readers (fp:=[]) (by simp) (PLe.refl _) H5'
   obtain⟨_,_,_,rfl,_,hi5,ho5⟩:=hO5
   refine⟨_,Z,?_⟩
   obtain⟨z6,hz6⟩:∃z,xs[k]? = some z:=⟨_,List.getElem?_eq_getElem aN⟩
   obtain⟨_,P6,_,Q6,hF6,_,hE6,_,hput6,hpu06⟩:=(hchk2_0).focus hz6
   rw[hF6]at H
   refine o_index_F 2 H k Z underlying65 sizeOf53 Z Z Z Z aN ?_;intro _ hba6;cases hba6
   obtain⟨_,_,_,rfl,hj6,hi6,ho6⟩:=hE6;have hy_hi6:_≤16777216:=hi6
   have hbk6:ChkF opO 3 _ (xs.set k z6) _:=hpu06 _ z6 (show opO _ _ _ from⟨_,_,_,rfl,hj6,hi6,ho6⟩)
   have hsame6:xs.set k z6=xs:=Fw.set_same hz6;rw[hsame6]at hbk6
   have hcl7:=(hbk6).length
   have hlt7:k<xs.length:=(List.getElem?_eq_some_iff.1 hz6).1
   try simp only[length_setCs,List.length_set]at hcl7
   try simp only[List.length_set]at hlt7
   refine o_store_A 2 H sizeOf53 Z Z Z Z Z (by simp only[vc,List.length_cons,List.length_nil,length_setCs];omega) ?_;intro _ H
   have H:=H.tF 1
   have H:=H.outFi;have H:=H.del (k:=0) rfl
   have H:=H.tF 2
   have H:=H.toFront (k:=2) rfl;have H:=H.toFront (k:=2) rfl;have H:=H.toFront (k:=2) rfl
   have H:=H.inFi
   have hchk7:=hput6 F5 z4 0 [_,_,_] (by simp) (show opO _ _ _ from⟨_,_,_,rfl,⟨by first|omega|(dsimp only;omega),by first|omega|(dsimp only;omega)⟩,hi5,ho5⟩)
   refine R_nil (N_B (N_K (W_region (mV Z (aD Z2 (aG Z (R_nil ?_)))))))
   refine N_lp (hJ:=⟨_,_,_,(xs.set k z4),(P6++(F5++Q6)),k+1,_,Z,hle2,H,?inv,Z⟩) (hm:=?hm)
   case hm=>omega
   case inv=>exact⟨hchk7,aN,(by exact⟨by omega,by simp[hxl],Sp.take_set hxt hxl hz4⟩)⟩
  intro hc3'
  try simp only[nrm]at hc3'
  refine W_exit (N_K_exit (N_LP_exit (N_B_same (N_K (q2 (pe 2 Z (q3 (W_ret (rt1 results52 Z ?_)))))))))
  have hke:k=a.length:=by omega
  have hxx:xs=a:=by (have h9:=hxt;rw[hke,List.take_of_length_le oM,List.take_length]at h9;exact h9)
  have H:=H.tF 1
  obtain⟨_,H,hOw2⟩:=H.ownF hchk2_0 aN aN
  have H:=H.forget hG (by simp)
  exact⟨_,_,Z,H,_,Z,hxx▸⟨_,hOw2⟩⟩
theorem w_markOpS_c (w0:World)(G0:PH)(hG:PSub G0 w0)(Fa:Fr)(va:Value)(a:List (BOp))(hOa:OOp Fa va a)(k:Int)(hLent:Lent w0 G0 [frag Fa])(hb:0≤k∧k+(cnt cOp a:Int)≤2199023255552) :
  Calls Tryz.prog 54 #[va,.int .i64 k] w0 (RetM w0 G0 (fps [frag Fa]) (fun G' v Bs=>∃(F':Fr),v= .int .i64 (k+(cnt cOp a:Int))∧Bs=[frag F']∧OOp F' va (mks mOp cOp k a))):=by
 obtain⟨ea,hPa⟩:=hOa;have hlima:a.length≤1099511627776:=hPa.1;obtain⟨aa,ka,rfl⟩:=OwnS.shape hPa
 have H:Hp w0 G0 (fps [frag Fa]) w0 G0 [frag Fa]:=hLent.hp
 obtain⟨_,Ra,H,hcka⟩:=H.openF hPa
 refine calls_of_W (l:=[.slice aa a.length ka,.int .i64 k]) func54 Z ntmps54 Z (q2 (aG Z (q3 (W_seq (q2 (aG Z (q3 (W_block ?_))))))))
 refine W_lp (hf:=(Sub.cons (t:=4) Z Sub.nil)) (J:=fun M w m=>∃(v:Value) (n:Nat) (cs:List Value) (xs:List (BOp)) (F:Fr) (i:Nat) (kk:Int) (G:PH),M=[(5,.int .i64 (i:Int)),(1,.int .i64 kk),(0,v)]∧PLe G0 G∧Hp w0 G0 (fps [frag Fa]) w G [acc ea 3 v n cs,frag F]∧(ChkF opO 3 cs xs F∧n=xs.length∧i≤a.length∧kk=k+(cnt cOp (a.take i):Int)∧xs=mks mOp cOp k (a.take i)++a.drop i∧v= .slice aa a.length ka)∧m=(a.length-i)) (h0:=⟨_,_,_,a,Ra,0,k,_,Z,PLe.refl _,H,?inv,Z⟩) (round:=?round)
 case inv=>exact⟨hcka,by first|rfl|simp|(simp;omega)|omega,(by simp[cnt,mks])⟩
 case round =>
  rintro _ _ _ ⟨v,n,cs,xs,F,i,kk,_,rfl,hle1,H,hinv1,rfl⟩
  obtain⟨hchk1_0,_,hinv1⟩:=hinv1
  obtain⟨_,_,rfl⟩:=H.accShape (k:=0) rfl
  obtain⟨hi,hkk,hxs,hv⟩:=hinv1;have hxl:xs.length=a.length:=(by (rw[hxs];exact half_len hi));have hctk:=cnt_tk (c:=cOp) a i;have hmt:(mtext (kk+1)).length≤16777216:=(by have h9:=mtext_len (k:=kk+1) oM;omega)
  refine W_seq (q2 (pe 2 Z (lN Z (pe 1 Z (q3 ?_)))))
  refine W_cond Z ?_ ?_
  ·intro hc2
   try simp only[nrm]at hc2
   refine W_skip (N_K (W_seq (W_block (q2 (pe 3 Z ?_)))))
   obtain⟨z3,hz3⟩:∃z,xs[i]? = some z:=⟨_,List.getElem?_eq_getElem aN⟩
   obtain⟨_,_,_,_,hF3,_,hE3,_,hput3,hpu03⟩:=(hchk1_0).focus hz3
   rw[hF3]at H
   refine o_index_F 0 H i Z underlying65 sizeOf53 Z Z Z Z aN ?_;intro _ hba3;cases hba3
   obtain⟨_,_,_,rfl,hj3,hi3,ho3⟩:=hE3;have hy_hi3:_≤16777216:=hi3
   have hbk3:ChkF opO 3 _ (xs.set i z3) _:=hpu03 _ z3 (show opO _ _ _ from⟨_,_,_,rfl,hj3,hi3,ho3⟩)
   have hsame3:xs.set i z3=xs:=Fw.set_same hz3;rw[hsame3]at hbk3
   have hat:=half_at hxs hz3 hi;have hcl:=cnt_le (c:=cOp) hat
   have hch:cOp z3=2+cnt cI z3.bytes:=rfl
   refine fA 0 Z ?_
   have hcl4:=(hbk3).length
   have hlt4:i<xs.length:=(List.getElem?_eq_some_iff.1 hz3).1
   try simp only[length_setCs,List.length_set]at hcl4
   try simp only[List.length_set]at hlt4
   refine o_store_A 0 H sizeOf3 Z Z Z Z Z (by simp only[vc,List.length_cons,List.length_nil,length_setCs];omega) ?_;intro _ H
   have hchk4:=hput3 _ ⟨kk,z3.path,z3.bytes⟩ 0 [_] (by simp) (show opO _ _ _ from⟨_,_,_,rfl,⟨by first|omega|(dsimp only;omega),by first|omega|(dsimp only;omega)⟩,hi3,ho3⟩)
   refine q1 (mV Z (aD Z2 (aG Z (q1 (pe 3 Z (xr H Z2 (w_markText_c _ _ oM) ?_))))));intro _ H
   obtain⟨z7,hz7⟩:∃z,(xs.set i ⟨kk,z3.path,z3.bytes⟩)[i]? = some z:=⟨_,List.getElem?_eq_getElem aN⟩
   obtain⟨_,_,_,_,hF7,_,hE7,_,hput7,hpu07⟩:=(hchk4).focus hz7
   rw[hF7]at H
   refine o_index_F 0 H i Z underlying65 sizeOf53 Z Z Z Z aN ?_;intro _ hba7;cases hba7
   obtain⟨_,_,_,rfl,hj7,hi7,ho7⟩:=hE7;have hy_hi7:_≤16777216:=hi7
   have hbk7:ChkF opO 3 _ ((xs.set i ⟨kk,z3.path,z3.bytes⟩).set i z7) _:=hpu07 _ z7 (show opO _ _ _ from⟨_,_,_,rfl,hj7,hi7,ho7⟩)
   have hsame7:(xs.set i ⟨kk,z3.path,z3.bytes⟩).set i z7=(xs.set i ⟨kk,z3.path,z3.bytes⟩):=Fw.set_same hz7;rw[hsame7]at hbk7
   have hze7:=Fw.set_at hz7
   have hzb7:z7.bytes=z3.bytes:=by simp only[hze7]
   have hzc7:cnt cI z7.bytes=cnt cI z3.bytes:=by rw[hzb7]
   refine fA 1 Z ?_
   have hcl8:=(hbk7).length
   have hlt8:i<(xs.set i ⟨kk,z3.path,z3.bytes⟩).length:=(List.getElem?_eq_some_iff.1 hz7).1
   try simp only[length_setCs,List.length_set]at hcl8
   try simp only[List.length_set]at hlt8
   refine o_store_A 0 H sizeOf9 Z Z Z Z Z (by simp only[vc,List.length_cons,List.length_nil,length_setCs];omega) ?_;intro _ H
   have hchk8:=hput7 _ ⟨z7.kind,mtext (kk+1),z7.bytes⟩ 1 [_] (by simp) (show opO _ _ _ from⟨_,_,_,rfl,hj7,(by (first|assumption|(refine Sp.l5Parent_lim ?_;assumption)|(simp;done)|(simp;omega)|omega)),ho7⟩)
   refine q1 (mV Z (aD Z2 (aG Z (q3 (W_region (pe 2 Z ?_))))))
   obtain⟨z10,hz10⟩:∃z,((xs.set i ⟨kk,z3.path,z3.bytes⟩).set i ⟨z7.kind,mtext (kk+1),z7.bytes⟩)[i]? = some z:=⟨_,List.getElem?_eq_getElem aN⟩
   obtain⟨_,P10,_,Q10,hF10,_,hE10,hg10,_,hpu010⟩:=(hchk8).focus hz10
   rw[hF10]at H
   refine o_index_F 0 H i Z underlying65 sizeOf53 Z Z Z Z aN ?_;intro _ hba10;cases hba10
   obtain⟨_,_,_,rfl,hj10,hi10,ho10⟩:=hE10;have hy_hi10:_≤16777216:=hi10
   have hbk10:ChkF opO 3 _ (((xs.set i ⟨kk,z3.path,z3.bytes⟩).set i ⟨z7.kind,mtext (kk+1),z7.bytes⟩).set i z10) _:=hpu010 _ z10 (show opO _ _ _ from⟨_,_,_,rfl,hj10,hi10,ho10⟩)
   have hsame10:((xs.set i ⟨kk,z3.path,z3.bytes⟩).set i ⟨z7.kind,mtext (kk+1),z7.bytes⟩).set i z10=((xs.set i ⟨kk,z3.path,z3.bytes⟩).set i ⟨z7.kind,mtext (kk+1),z7.bytes⟩):=Fw.set_same hz10;rw[hsame10]at hbk10
   have hze10:=Fw.set_at hz10
   have hzb10:z10.bytes=z3.bytes:=by simp only[hze10,hze7]
   have hzc10:cnt cI z10.bytes=cnt cI z3.bytes:=by rw[hzb10]
   refine fA 2 Z (o_load_A 0 H isAgg33 Z Z Z (hg10 2 _ Z) (mV Z ?_))
   have H:=H.tF 1
   have H:=H.outFi
   refine xc Z2 (w_markIntS_c _ _ H.sub _ _ _ ho10 _ H.lent1 oO) ?_
   rintro _ _ ⟨_,_,_,rfl,H11',⟨F11,rfl,rfl,hO11⟩⟩
   have hle1:=hle1.trans H11'.le
   have H:=H.borrow1 H11'
   refine⟨_,Z,?_⟩
   have H:=H.tF 2
   have H:=H.tF 2
   have H:=H.tF 2
   have H:=H.inFi
   have hcb1:=hpu010 F11 ⟨z10.kind,z10.path,mks mI cI (kk+1+1) z10.bytes⟩ (show opO _ _ _ from⟨_,_,_,rfl,hj10,hi10,hO11⟩)
   refine aG Z (R_nil (N_B (N_K (W_region (mV Z (aD Z2 (aG Z (R_nil ?_))))))))
   have H:=H.tF 1
   refine N_lp (hJ:=⟨_,_,_,(((xs.set i ⟨kk,z3.path,z3.bytes⟩).set i ⟨z7.kind,mtext (kk+1),z7.bytes⟩).set i ⟨z10.kind,z10.path,mks mI cI (kk+1+1) z10.bytes⟩),(P10++(F11++Q10)),i+1,kk+1+1+(cnt cI z10.bytes:Int),_,Z,hle1,H,?inv,Z⟩) (hm:=?hm)
   case hm=>omega
   case inv=>exact⟨hcb1,aN,(by exact⟨by omega,by (rw[cnt_succ hat];omega),(by (subst hze10;subst hze7;simp only[List.set_set];exact half_step hxs hz3 hi (by (rw[←hkk];rfl)))),hv⟩)⟩
  intro hc2'
  try simp only[nrm]at hc2'
  refine W_exit (N_K_exit (N_LP_exit (N_B_same (N_K (q2 (pe 2 Z (q3 (W_ret (rt1 results54 Z ?_)))))))))
  have hie:i=a.length:=by omega
  have hxx:xs=mks mOp cOp k a:=by (rw[hxs];exact half_end hie)
  have hce:=cnt_end (c:=cOp) hie
  have H:=H.tF 1
  have H:=H.tF 1
  obtain⟨_,H,hOw2⟩:=H.ownF hchk1_0 aN aN
  exact H.retM ⟨_,congrArg (Value.int .i64) (by (rw[hkk,hce])),rfl,hxx▸hv▸⟨_,hOw2⟩⟩
theorem xJournalRun_c (w0:World)(G0:PH)(hG:PSub G0 w0)(caD:List Value)(aD:BDisk)(haD:diskE G0 aD caD)(vaList:Value)(aList:List (BOp))(haList:RdOp G0 vaList aList) :
  Calls Tryz.prog 14 #[.agg caD.toArray,vaList] w0 (Rets w0 (.bool true)):=by
 obtain⟨_,_,_,_,_,_,_,_,_,rfl,hr1,hr1',hr1'',⟨_,_⟩,⟨_,_⟩,_,_⟩:=ox haD
 obtain⟨aaList,kaList,rfl⟩:=haList.shape
 have hlimaList:aList.length≤1099511627776:=haList.lim
 have hcd0:=cDisk_le aD
 have hcD:cDisk (Sp.jdisk aD aList)≤700:=jd_cnt aD aList
 have hci:=cOps_le aList
 have H:=Hp.init hG
 refine calls_of_W (l:=[_,.slice aaList aList.length kaList]) func14 Z ntmps14 Z (q2 (o_box H Z Z Z ?_));intro _ _ _ H
 refine aG Z (q1 (aG Z (q1 (lA 0 3 H Z4 (mV Z (xc Z2 (w_szDisk_c _ _ H.sub _ aD ⟨_,_,_,_,_,_,_,_,_,Z,hr1,hr1',hr1''⟩ _ oO) ?_))))))
 rintro _ _ ⟨_,rfl,ew3,⟨_,rfl,_⟩⟩
 skip
 have H:=H.step ew3;refine⟨_,rfl,?_⟩
 refine aG Z (q3 (W_seq (q2 (pe 2 Z (q3 ?_)))))
 refine W_cond Z ?_ ?_
 ·intro hc4
  try simp only[nrm]at hc4
  refine q2 (aG Z (q3 (W_ret (N_K_ret (rt1 results14 Z ?_)))))
  exact H.rets Z
 intro hc4'
 try simp only[nrm]at hc4'
 refine W_skip (N_K (q2 (pe 2 Z (xc Z2 (w_szOpS_c _ _ H.sub _ _ haList _ oO) ?_))))
 rintro _ _ ⟨_,rfl,ew5,⟨_,rfl,_⟩⟩
 skip
 have H:=H.step ew5;refine⟨_,rfl,?_⟩
 refine aG Z (q3 (W_seq (q2 (pe 2 Z (q3 ?_)))))
 refine W_cond Z ?_ ?_
 ·intro hc6
  try simp only[nrm]at hc6
  refine q2 (aG Z (q3 (W_ret (N_K_ret (rt1 results14 Z ?_)))))
  exact H.rets Z
 intro hc6'
 try simp only[nrm]at hc6'
 refine W_skip (N_K (q2 (lA 0 3 H Z4 (xc Z2 (w_toDisk_c _ _ H.sub _ aD ⟨_,_,_,_,_,_,_,_,_,Z,hr1,hr1',hr1''⟩) ?_))))
 rintro _ _ ⟨_,_,rfl,H7',⟨_,_,_,_,_,_,rfl,rfl,ho17,ho27,ho37⟩⟩
 have H:=H.readers (fp:=[]) (by simp) (PLe.refl _) H7'
 obtain⟨_,p17⟩:=ho17
 obtain⟨_,_,rfl⟩:=OwnS.shape p17
 obtain⟨_,p27⟩:=ho27
 obtain⟨_,_,rfl⟩:=OwnS.shape p27
 obtain⟨_,p37⟩:=ho37
 obtain⟨_,_,rfl⟩:=OwnS.shape p37
 refine⟨_,Z,?_⟩
 refine mV Z (xc Z2 (w_toOpS_c _ _ H.sub _ _ haList) ?_)
 rintro _ _ ⟨_,_,rfl,H8',⟨_,rfl,hO8⟩⟩
 have H:=H.readers (fp:=[]) (by simp) (PLe.refl _) H8'
 obtain⟨_,hP8⟩:=hO8
 obtain⟨_,_,rfl⟩:=OwnS.shape hP8
 have hO8:=OOp.mk hP8
 refine⟨_,Z,?_⟩
 have hnd10:=dm_nodup H (k:=1) rfl;obtain⟨_,H,hsg10,hsf10⟩:=H.keepF (k:=1) rfl (by simp);have hsr10:=(show OHs _ _ _ from⟨_,p17⟩).rd hsf10 hnd10
 have hr1:=hr1.up hsg10
 have hr1':=hr1'.up hsg10
 have hr1'':=hr1''.up hsg10
 have haList:=haList.up hsg10
 have hnd11:=dm_nodup H (k:=1) rfl;obtain⟨_,H,hsg11,hsf11⟩:=H.keepF (k:=1) rfl (by simp);have hsr11:=(show OIs _ _ _ from⟨_,p27⟩).rd hsf11 hnd11
 have hr1:=hr1.up hsg11
 have hr1':=hr1'.up hsg11
 have hr1'':=hr1''.up hsg11
 have haList:=haList.up hsg11
 have hsr10:=hsr10.up hsg11
 have hnd12:=dm_nodup H (k:=1) rfl;obtain⟨_,H,hsg12,hsf12⟩:=H.keepF (k:=1) rfl (by simp);have hsr12:=(show OSn _ _ _ from⟨_,p37⟩).rd hsf12 hnd12
 have hr1:=hr1.up hsg12
 have hr1':=hr1'.up hsg12
 have hr1'':=hr1''.up hsg12
 have haList:=haList.up hsg12
 have hsr10:=hsr10.up hsg12
 have hsr11:=hsr11.up hsg12
 have hnd13:=dm_nodup H (k:=0) rfl;obtain⟨_,H,hsg13,hsf13⟩:=H.keepF (k:=0) rfl (by simp);have hsr13:=(show OOp _ _ _ from hO8).rd hsf13 hnd13
 have hr1:=hr1.up hsg13
 have hr1':=hr1'.up hsg13
 have hr1'':=hr1''.up hsg13
 have haList:=haList.up hsg13
 have hsr10:=hsr10.up hsg13
 have hsr11:=hsr11.up hsg13
 have hsr12:=hsr12.up hsg13
 refine xc Z2 (JournalRun_c _ _ H.sub _ aD ⟨_,_,_,_,_,_,_,_,_,Z,hsr10,hsr11,hsr12⟩ _ _ hsr13) ?_
 rintro _ _ ⟨G9,_,g9,rfl,_,rfl,hr9_0⟩
 have H:=H.grow g9
 have hr1:=hr1.up g9.le
 have hr1':=hr1'.up g9.le
 have hr1'':=hr1''.up g9.le
 have haList:=haList.up g9.le
 obtain⟨_,_,_,_,_,_,_,_,_,rfl,hr14,hr14',hr14'',⟨_,_⟩,⟨_,_⟩,_,_⟩:=ox hr9_0
 refine⟨_,Z,?_⟩
 refine pe 3 Z (xal H Z ?_);intro _ _ _ H
 refine xst 0 H Z8 ?_;intro _ H
 refine aG Z (q1 (lA 1 3 H Z4 (xc Z2 (w_toDisk_c _ _ H.sub _ aD ⟨_,_,_,_,_,_,_,_,_,Z,hr1,hr1',hr1''⟩) ?_)))
 rintro _ _ ⟨_,_,rfl,H17',⟨_,_,_,_,_,_,rfl,rfl,ho117,ho217,ho317⟩⟩
 have H:=H.readers (fp:=[]) (by simp) (PLe.refl _) H17'
 obtain⟨_,p117⟩:=ho117
 obtain⟨_,_,rfl⟩:=OwnS.shape p117
 obtain⟨_,p217⟩:=ho217
 obtain⟨_,_,rfl⟩:=OwnS.shape p217
 obtain⟨_,p317⟩:=ho317
 obtain⟨_,_,rfl⟩:=OwnS.shape p317
 refine⟨_,Z,?_⟩
 refine xal H Z ?_;intro _ _ _ H
 refine xst 0 H Z8 ?_;intro _ H
 refine q1 (mV Z (xc Z2 (w_toOpS_c _ _ H.sub _ _ haList) ?_))
 rintro _ _ ⟨_,_,rfl,H20',⟨_,rfl,hO20⟩⟩
 have H:=H.readers (fp:=[]) (by simp) (PLe.refl _) H20'
 obtain⟨_,hP20⟩:=hO20
 obtain⟨_,_,rfl⟩:=OwnS.shape hP20
 have hO20:=OOp.mk hP20
 refine⟨_,Z,?_⟩
 refine aG Z (q1 (lA 1 3 H Z4 (mV Z (xc Z2 (i_JournalRun_c _ _ (H.lendSubL [0,2,3,4]) _ aD ⟨_,_,_,_,_,_,_,_,_,Z,(H.lendOHs (k:=2) (ks:=[0,2,3,4]) Z Z ⟨_,p117⟩),(H.lendOIs (k:=3) (ks:=[0,2,3,4]) Z Z ⟨_,p217⟩),(H.lendOSn (k:=4) (ks:=[0,2,3,4]) Z Z ⟨_,p317⟩)⟩ _ _ (H.lendOOp (k:=0) (ks:=[0,2,3,4]) Z Z hO20)) ?_))))
 rintro _ _ ⟨_,_,rfl,H21',⟨_,_,_,_,_,_,rfl,rfl,ho121,ho221,ho321⟩⟩
 have H:=H.readersL H21'
 obtain⟨_,p121⟩:=ho121
 obtain⟨_,_,rfl⟩:=OwnS.shape p121
 obtain⟨_,p221⟩:=ho221
 obtain⟨_,_,rfl⟩:=OwnS.shape p221
 obtain⟨_,p321⟩:=ho321
 obtain⟨_,_,rfl⟩:=OwnS.shape p321
 refine⟨_,Z,?_⟩
 refine pe 3 Z (xal H Z ?_);intro _ _ _ H
 refine xst 0 H Z8 ?_;intro _ H
 refine aG Z (q3 (W_seq (q2 (lA 0 3 H Z4 (lA 9 3 H Z4 (xr H Z2 (w_eqDisk_c _ _ (H.lendSubL [1,2,3]) _ (Sp.jdisk aD aList) ⟨_,_,_,_,_,_,_,_,_,Z,(H.lendOHs (k:=1) (ks:=[1,2,3]) Z Z ⟨_,p121⟩),(H.lendOIs (k:=2) (ks:=[1,2,3]) Z Z ⟨_,p221⟩),(H.lendOSn (k:=3) (ks:=[1,2,3]) Z Z ⟨_,p321⟩)⟩ _ (Sp.jdisk aD aList) ⟨_,_,_,_,_,_,_,_,_,Z,(hr14.up (PPlus.le _ _ _)),(hr14'.up (PPlus.le _ _ _)),(hr14''.up (PPlus.le _ _ _))⟩ Z) ?_))))));intro _ H
 refine pe 6 Z (q3 ?_)
 refine W_cond Z ?_ ?_
 ·intro hc25
  try simp only[nrm]at hc25
  exact absurd (show False from by first|omega|(simp at hc25;done)|exact hc25 rfl) id
 intro hc25'
 try simp only[nrm]at hc25'
 refine W_skip (N_K (W_seq (W_seq (W_drawK [0,5,9,10] 5 H kR Z ?_))));intro _ H;have hd26:=PLe.refl G9
 refine RD_t 0 Z kR Z (fun _ hK=>v_loadagg_B 1 hK isAgg27 sizeOf27 Z Z Z Z) (RD_t 1 Z kR Z (fun _ hK=>v_loadagg_B 3 hK isAgg74 sizeOf74 Z Z Z Z) (r1 2 Z (xc Z2 (w_toDisk_c _ _ H.sub _ aD ⟨_,_,_,_,_,_,_,_,_,Z,hr1,hr1',hr1''⟩) ?_)))
 rintro _ _ ⟨_,_,rfl,H27',⟨_,_,_,_,_,_,rfl,rfl,ho127,ho227,ho327⟩⟩
 have H:=H.readers (fp:=[]) (by simp) (PLe.refl _) H27'
 obtain⟨_,p127⟩:=ho127
 obtain⟨_,_,rfl⟩:=OwnS.shape p127
 obtain⟨_,p227⟩:=ho227
 obtain⟨_,_,rfl⟩:=OwnS.shape p227
 obtain⟨_,p327⟩:=ho327
 obtain⟨_,_,rfl⟩:=OwnS.shape p327
 refine⟨_,Z,?_⟩
 refine q4 H hd26 (r1 3 Z (xr H Z2 (w_eqDisk_c _ _ (H.lendSubL [0,1,2,9,10,11]) _ aD ⟨_,_,_,_,_,_,_,_,_,Z,(H.lendOHs (k:=9) (ks:=[0,1,2,9,10,11]) Z Z ⟨_,p117⟩),(H.lendOIs (k:=10) (ks:=[0,1,2,9,10,11]) Z Z ⟨_,p217⟩),(H.lendOSn (k:=11) (ks:=[0,1,2,9,10,11]) Z Z ⟨_,p317⟩)⟩ _ aD ⟨_,_,_,_,_,_,_,_,_,Z,(H.lendOHs (k:=0) (ks:=[0,1,2,9,10,11]) Z Z ⟨_,p127⟩),(H.lendOIs (k:=1) (ks:=[0,1,2,9,10,11]) Z Z ⟨_,p227⟩),(H.lendOSn (k:=2) (ks:=[0,1,2,9,10,11]) Z Z ⟨_,p327⟩)⟩ Z) ?_));intro _ H
 refine q4 H hd26 (dE 4 Z2 (rz (N_K (W_false Z (W_skip (N_K (W_seq (q2 (pe 2 Z (xc Z2 (w_toOpS_c _ _ H.sub _ _ haList) ?_))))))))))
 rintro _ _ ⟨_,_,rfl,H29',⟨_,rfl,hO29⟩⟩
 have H:=H.readers (fp:=[]) (by simp) (PLe.refl _) H29'
 obtain⟨_,hP29⟩:=hO29
 obtain⟨_,_,rfl⟩:=OwnS.shape hP29
 have hO29:=OOp.mk hP29
 refine⟨_,Z,?_⟩
 refine xr H Z2 (w_eqOpS_c _ _ (H.lendSubL [0,8]) _ _ (H.lendOOp (k:=8) (ks:=[0,8]) Z Z hO20) _ _ (H.lendOOp (k:=0) (ks:=[0,8]) Z Z hO29) Z) ?_;intro _ H
 refine pe 1 Z (q3 (W_false Z (W_skip (N_K (q2 (aG Z (q1 (lA 9 3 H Z4 (mV Z ?_)))))))))
 have H:=H.tF 12
 have H:=H.tF 12
 have H:=H.tF 12
 refine xc Z2 (w_markDisk_c _ _ H.sub _ _ _ _ _ _ aD ⟨_,p117⟩ ⟨_,p217⟩ ⟨_,p317⟩ _ H.lent3 oO) ?_
 rintro _ _ ⟨_,_,_,rfl,H31',⟨_,_,_,rfl,rfl,_,_,_⟩⟩
 have hr1:=hr1.up H31'.le
 have hr1':=hr1'.up H31'.le
 have hr1'':=hr1''.up H31'.le
 have haList:=haList.up H31'.le
 have hr14:=hr14.up H31'.le
 have hr14':=hr14'.up H31'.le
 have hr14'':=hr14''.up H31'.le
 have H:=H.borrow3 H31'
 refine⟨_,Z,?_⟩
 refine aG Z (q1 (pe 2 Z ?_))
 have H:=H.tF 11
 refine xc Z2 (w_markOpS_c _ _ H.sub _ _ _ hO20 _ H.lent1 oO) ?_
 rintro _ _ ⟨_,_,_,rfl,H32',⟨_,rfl,rfl,_⟩⟩
 have hr1:=hr1.up H32'.le
 have hr1':=hr1'.up H32'.le
 have hr1'':=hr1''.up H32'.le
 have haList:=haList.up H32'.le
 have hr14:=hr14.up H32'.le
 have hr14':=hr14'.up H32'.le
 have hr14'':=hr14''.up H32'.le
 have H:=H.borrow1 H32'
 refine⟨_,Z,?_⟩
 refine aG Z (q3 (W_seq (q2 (pe 3 Z ?_))))
 refine R_case (t:=72) Z ?_ ?_
 ·intro hc33
  try simp only[nrm]at hc33
  exact absurd (show False from by first|omega|(simp at hc33;done)|exact hc33 rfl) id
 intro hc33'
 try simp only[nrm]at hc33'
 refine gR Z (lA 8 3 H Z4 (gR Z (lA 13 3 H Z4 (gR Z (xr H Z2 (w_eqDisk_c _ _ (H.lendSubL [9,10,11]) _ (Sp.jdisk aD aList) ⟨_,_,_,_,_,_,_,_,_,Z,(H.lendOHs (k:=9) (ks:=[9,10,11]) Z Z ⟨_,p121⟩),(H.lendOIs (k:=10) (ks:=[9,10,11]) Z Z ⟨_,p221⟩),(H.lendOSn (k:=11) (ks:=[9,10,11]) Z Z ⟨_,p321⟩)⟩ _ (Sp.jdisk aD aList) ⟨_,_,_,_,_,_,_,_,_,Z,(hr14.up (PPlus.le _ _ _)),(hr14'.up (PPlus.le _ _ _)),(hr14''.up (PPlus.le _ _ _))⟩ Z) ?_)))));intro _ H
 refine pe 7 Z (q3 ?_)
 refine W_cond Z ?_ ?_
 ·intro hc35
  try simp only[nrm]at hc35
  exact absurd (show False from by first|omega|(simp at hc35;done)|exact hc35 rfl) id
 intro hc35'
 try simp only[nrm]at hc35'
 refine W_skip (N_K (q2 (aG Z (q1 (lA 8 3 H Z4 (mV Z ?_))))))
 have H:=H.tF 11
 have H:=H.tF 11
 have H:=H.tF 11
 refine xc Z2 (w_markDisk_c _ _ H.sub _ _ _ _ _ _ (Sp.jdisk aD aList) ⟨_,p121⟩ ⟨_,p221⟩ ⟨_,p321⟩ _ H.lent3 oO) ?_
 rintro _ _ ⟨_,_,_,rfl,H36',⟨_,_,_,rfl,rfl,hK136,hK236,hK336⟩⟩
 have hr1:=hr1.up H36'.le
 have hr1':=hr1'.up H36'.le
 have hr1'':=hr1''.up H36'.le
 have haList:=haList.up H36'.le
 have hr14:=hr14.up H36'.le
 have hr14':=hr14'.up H36'.le
 have hr14'':=hr14''.up H36'.le
 have H:=H.borrow3 H36'
 refine⟨_,Z,?_⟩
 refine aG Z (q1 (aG Z (q1 (lA 11 3 H Z4 (mV Z (xr H Z2 (w_heldDisk_c _ _ (H.lendSubL [0,1,2]) _ (mDisk 1 (Sp.jdisk aD aList)) ⟨_,_,_,_,_,_,_,_,_,Z,(H.lendOHs (k:=0) (ks:=[0,1,2]) Z Z hK136),(H.lendOIs (k:=1) (ks:=[0,1,2]) Z Z hK236),(H.lendOSn (k:=2) (ks:=[0,1,2]) Z Z hK336)⟩ _ (Sp.jdisk aD aList) Z oO) ?_))))));intro _ H
 refine aG Z (q3 (W_seq (q2 (pe 2 Z (q3 ?_)))))
 refine W_cond Z ?_ ?_
 ·intro hc38
  try simp only[nrm]at hc38
  exact absurd (show False from by first|omega|(simp at hc38;done)|exact hc38 rfl) id
 intro hc38'
 try simp only[nrm]at hc38'
 refine W_skip (N_K (W_seq (q2 ?_)))
 have H:=H.sel [14,13,11,0,1,2] rfl
 refine pe 3 Z (q3 ?_)
 refine W_cond Z ?_ ?_
 ·intro hc39
  try simp only[nrm]at hc39
  exact absurd (show False from by first|omega|(simp at hc39;done)|exact hc39 rfl) id
 intro hc39'
 try simp only[nrm]at hc39'
 refine W_skip (N_K (q2 (lA 0 3 H Z4 (xc Z2 (w_toDisk_c _ _ H.sub _ aD ⟨_,_,_,_,_,_,_,_,_,Z,hr1,hr1',hr1''⟩) ?_))))
 rintro _ _ ⟨_,_,rfl,H40',⟨_,_,_,_,_,_,rfl,rfl,ho140,ho240,ho340⟩⟩
 have H:=H.readers (fp:=[]) (by simp) (PLe.refl _) H40'
 obtain⟨_,p140⟩:=ho140
 obtain⟨_,_,rfl⟩:=OwnS.shape p140
 obtain⟨_,p240⟩:=ho240
 obtain⟨_,_,rfl⟩:=OwnS.shape p240
 obtain⟨_,p340⟩:=ho340
 obtain⟨_,_,rfl⟩:=OwnS.shape p340
 refine⟨_,Z,?_⟩
 refine mV Z (xc Z2 (w_toOpS_c _ _ H.sub _ _ haList) ?_)
 rintro _ _ ⟨_,_,rfl,H41',⟨_,rfl,hO41⟩⟩
 have H:=H.readers (fp:=[]) (by simp) (PLe.refl _) H41'
 obtain⟨_,hP41⟩:=hO41
 obtain⟨_,_,rfl⟩:=OwnS.shape hP41
 have hO41:=OOp.mk hP41
 refine⟨_,Z,?_⟩
 refine xc Z2 (i_JournalRun_c _ _ (H.lendSubL [0,1,2,3]) _ aD ⟨_,_,_,_,_,_,_,_,_,Z,(H.lendOHs (k:=1) (ks:=[0,1,2,3]) Z Z ⟨_,p140⟩),(H.lendOIs (k:=2) (ks:=[0,1,2,3]) Z Z ⟨_,p240⟩),(H.lendOSn (k:=3) (ks:=[0,1,2,3]) Z Z ⟨_,p340⟩)⟩ _ _ (H.lendOOp (k:=0) (ks:=[0,1,2,3]) Z Z hO41)) ?_
 rintro _ _ ⟨_,_,rfl,H42',⟨_,_,_,_,_,_,rfl,rfl,ho142,ho242,ho342⟩⟩
 have H:=H.readersL H42'
 obtain⟨_,p142⟩:=ho142
 obtain⟨_,_,rfl⟩:=OwnS.shape p142
 obtain⟨_,p242⟩:=ho242
 obtain⟨_,_,rfl⟩:=OwnS.shape p242
 obtain⟨_,p342⟩:=ho342
 obtain⟨_,_,rfl⟩:=OwnS.shape p342
 refine⟨_,Z,?_⟩
 refine pe 3 Z (xal H Z ?_);intro _ _ _ H
 refine xst 0 H Z8 ?_;intro _ H
 refine aG Z (q3 (W_seq (q2 (lA 0 3 H Z4 (lA 9 3 H Z4 (xr H Z2 (w_eqDisk_c _ _ (H.lendSubL [1,2,3]) _ (Sp.jdisk aD aList) ⟨_,_,_,_,_,_,_,_,_,Z,(H.lendOHs (k:=1) (ks:=[1,2,3]) Z Z ⟨_,p142⟩),(H.lendOIs (k:=2) (ks:=[1,2,3]) Z Z ⟨_,p242⟩),(H.lendOSn (k:=3) (ks:=[1,2,3]) Z Z ⟨_,p342⟩)⟩ _ (Sp.jdisk aD aList) ⟨_,_,_,_,_,_,_,_,_,Z,(hr14.up (PPlus.le _ _ _)),(hr14'.up (PPlus.le _ _ _)),(hr14''.up (PPlus.le _ _ _))⟩ Z) ?_))))));intro _ H
 refine pe 6 Z (q3 ?_)
 refine W_cond Z ?_ ?_
 ·intro hc46
  try simp only[nrm]at hc46
  exact absurd (show False from by first|omega|(simp at hc46;done)|exact hc46 rfl) id
 intro hc46'
 try simp only[nrm]at hc46'
 refine W_skip (N_K (q2 (aG Z (q1 (lA 10 3 H Z4 (mV Z (xr H Z2 (w_heldDisk_c _ _ (H.lendSubL [11,12,13]) _ (mDisk 1 (Sp.jdisk aD aList)) ⟨_,_,_,_,_,_,_,_,_,Z,(H.lendOHs (k:=11) (ks:=[11,12,13]) Z Z hK136),(H.lendOIs (k:=12) (ks:=[11,12,13]) Z Z hK236),(H.lendOSn (k:=13) (ks:=[11,12,13]) Z Z hK336)⟩ _ (Sp.jdisk aD aList) Z oO) ?_)))))));intro _ H
 refine aG Z (q3 (W_seq (q2 (pe 2 Z (q3 ?_)))))
 refine W_cond Z ?_ ?_
 ·intro hc48
  try simp only[nrm]at hc48
  exact absurd (show False from by first|omega|(simp at hc48;done)|exact hc48 rfl) id
 intro hc48'
 try simp only[nrm]at hc48'
 refine W_skip (N_K (W_seq (q2 (pe 3 Z (q3 ?_)))))
 refine W_cond Z ?_ ?_
 ·intro hc49
  try simp only[nrm]at hc49
  exact absurd (show False from by first|omega|(simp at hc49;done)|exact hc49 rfl) id
 intro hc49'
 try simp only[nrm]at hc49'
 refine W_skip (N_K (q2 (aG Z (q3 (W_ret (rt1 results14 Z ?_))))))
 exact H.rets Z
end Go.Proofs.Tst
