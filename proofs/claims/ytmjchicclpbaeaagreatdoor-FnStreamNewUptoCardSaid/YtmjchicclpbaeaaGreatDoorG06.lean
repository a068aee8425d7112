/- Part 6 of the proof: contracts of functions of the program. Conditions: none. -/
import Derived.Test.YtmjchicclpbaeaaGreatDoorProg
import Derived.Test.YtmjchicclpbaeaaGreatDoorG02
import Derived.Test.YtmjchicclpbaeaaGreatDoorG03
import Derived.Test.YtmjchicclpbaeaaGreatDoorG04
import Derived.Test.YtmjchicclpbaeaaGreatDoorG05
set_option linter.all false
set_option maxRecDepth 100000
set_option maxHeartbeats 8000000
namespace Go.Proofs.Tst
open Go Fw Tryz
theorem i_count_r:∀(N:Nat) (w0:World) (G0:PH) (hG:PSub G0 w0) (t:Nd) (hndt:RdN G0 t) (hct:t.cnt≤100000) (hsz:t.size≤N),
  Calls Tryz.prog 168 #[.pointer (some ⟨t.b,0,none⟩)] w0 (Rets w0 (.int .i64 (t.cnt:Nat))):=by
 intro N
 induction N with
 | zero=>intro w0 G0 hG t hndt hct hsz;exact absurd (Nd.size_pos t) oM
 | succ N ih =>
 intro w0 G0 hG t hndt hct hsz
 obtain⟨_,_,_,_,_,_,_,hprt,hrit,hrkt⟩:=hndt.open
 have hn_hrit:=hrit.len;have hx_hrit:_≤1099511627776:=hrit.lim
 have hn_hrkt:=hrkt.len;have hx_hrkt:_≤1099511627776:=hrkt.lim
 subst hn_hrkt
 have H:=Hp.init hG
 refine calls_of_W (l:=[.pointer (some ⟨t.b,0,none⟩)]) func168 Z ntmps168 Z (q2 (aG Z (q1 (pe 2 Z (fA 3 Z (lP H hprt 3 Z2 (lN Z (aG Z (q3 (W_seq (q2 (pe 2 Z (fA 3 Z (lP H hprt 3 Z2 (lN Z ?_)))))))))))))))
 refine mV Z (q3 (W_block ?_))
 refine W_lp (hf:=(Sub.cons (t:=2) Z (Sub.cons (t:=14) Z (Sub.cons (t:=15) Z Sub.nil)))) (J:=fun M w m=>∃(k mm:Nat) (G:PH),M=[(16,.int .i64 (k:Int)),(3,.int .i64 (mm:Int))]∧PLe G0 G∧Hp w0 G0 [] w G []∧(k≤t.kids.length∧mm=Nd.cnts (t.kids.take k)+(t.kids.length-k))∧m=(t.kids.length-k)) (h0:=⟨0,t.kids.length,_,Z,PLe.refl _,H,?inv,Z⟩) (round:=?round)
 case inv=>simp[Nd.cnts]
 case round =>
  rintro _ _ _ ⟨k,mm,_,rfl,hle1,H,hinv1,rfl⟩
  have hrkt:=hrkt.up hle1
  obtain⟨_,hm⟩:=hinv1;have hct2:=Nd.cnts_take t.kids k;have hct3:=Nd.cnt_eq t;have hkl:=Nd.kids_le t
  refine q2 (pe 1 Z (q3 (W_seq ?_)))
  refine W_cond Z ?_ ?_
  ·intro hc2
   try simp only[nrm]at hc2
   refine W_skip (N_K (W_seq (W_block (q2 (iP k hrkt Z3 Z ?_)))));intro _ _ z3 _ hz3 hE3 hrow3
   obtain⟨rfl,hnd3⟩:=hE3;obtain⟨_,_,_,_,_,_,_,_,hri3,hrk3⟩:=hnd3.open;have hn_hri3:=hri3.len;have hx_hri3:_≤1099511627776:=hri3.lim;have hn_hrk3:=hrk3.len;have hx_hrk3:_≤1099511627776:=hrk3.lim
   have hzm:=List.mem_of_getElem? hz3;have hzc:=Nd.kid_cnt hzm;have hzs:=Nd.size_kid hzm
   refine lP H hrow3 0 Z2 (aG Z (q3 (W_region (pe 2 Z (xr H Z2 (ih _ _ H.sub _ hnd3 oM oM) ?_)))));intro _ H
   refine aD Z2 (aG Z (R_nil (N_B (N_K (W_region (aD Z2 (mV Z (R_nil ?_))))))))
   refine N_lp (hJ:=⟨k+1,(mm+z3.cnt),_,Z,hle1,H,?inv,Z⟩) (hm:=?hm)
   case hm=>omega
   case inv=>exact⟨by omega,by (rw[Nd.cnts_succ hz3];omega)⟩
  intro hc2'
  try simp only[nrm]at hc2'
  refine W_exit (N_K_exit (N_LP_exit (N_B_same (N_K (q2 (pe 2 Z (q3 (W_ret (rt1 results168 Z ?_)))))))))
  exact H.rets (congrArg (fun j:Nat=>Value.int .i64 (j:Int)) (by (rw[hm,List.take_of_length_le oM]);omega))
theorem i_count_c (w0:World)(G0:PH)(hG:PSub G0 w0)(t:Nd)(hndt:RdN G0 t)(hct:t.cnt≤100000) :
  Calls Tryz.prog 168 #[.pointer (some ⟨t.b,0,none⟩)] w0 (Rets w0 (.int .i64 (t.cnt:Nat))):=i_count_r _ w0 G0 hG t hndt hct (Nat.le_refl _)
theorem i_put_n_c (w0:World)(G0:PH)(hG:PSub G0 w0)(Ft:Fr)(t:Nd)(hNt:NdO 143 97 G0 t Ft)(cx:List Value)(x:BItem)(hx:itemE G0 x cx)(hLent:Lent w0 G0 [frag Ft])(hwt:t.wf)(hct:t.cnt≤1000) :
  Calls Tryz.prog 136 #[.pointer (some ⟨t.b,0,none⟩),.agg cx.toArray] w0 (RetM w0 G0 (fps [frag Ft]) (fun G' v Bs=>∃(nb:Nat) (F':Fr) (t':Nd),v= .bool (t.putN x nb).isSome∧Bs=[frag F']∧NdO 143 97 G' t' F'∧t'.b=t.b∧(t.putN x nb).getD t=t')):=by
 obtain⟨_,_,_,rfl,hi1,hr1,_,_⟩:=ox hx
 have H:Hp w0 G0 (fps [frag Ft]) w0 G0 [frag Ft]:=hLent.hp
 refine calls_of_W (l:=[.pointer (some ⟨t.b,0,none⟩),_]) func136 Z ntmps136 Z (q2 (o_box H Z Z Z ?_));intro _ _ hb2 H
 refine aG Z (q1 (mV Z (fA 0 Z (lB 0 H Z3 (xc Z2 (i_find_n_c _ _ (H.lendSubL [1]) _ ((H.lendN (k:=1) (ks:=[1]) Z Z hNt).at (show Nd.at_ t []=some t from Z)) _ hi1 hwt) ?_)))))
 rintro _ _ ⟨_,rfl,ew3,⟨hfi3,rfl⟩|⟨_,hfi3,rfl⟩⟩
 ·skip
  have H:=H.step ew3;refine⟨_,rfl,?_⟩
  refine aG Z (q3 (W_seq (q2 (mV Z (o_eqnil_ptr underlying97 Z Z Z (q3 (W_true Z (q2 (mV Z (xr H Z2 (i_count_c _ _ (H.lendSubL [1]) _ ((H.lendN (k:=1) (ks:=[1]) Z Z hNt).at (show Nd.at_ t []=some t from Z)) oM) ?_))))))))));intro _ H
  refine pe 2 Z ?_
  refine R_case (t:=15) Z ?_ ?_
  ·intro hc5
   try simp only[nrm]at hc5
   refine pe 1 Z (gR Z (lA 0 3 H Z4 (gR Z ?_)))
   have H:=H.tF 1
   refine xc Z2 (i_insert_c _ _ H.sub _ _ hNt _ x ⟨_,_,_,Z,hi1,hr1⟩ H.lent1 hwt hct) ?_
   rintro _ _ ⟨_,_,_,rfl,H6',⟨nb6,_,_,rfl,rfl,hN6,hb6,ht6⟩⟩
   have H:=H.borrow1 H6'
   try rw[←hb6]
   refine⟨_,Z,?_⟩
   refine pe 2 Z (q3 (W_ret (N_K_ret (rt1 results136 Z ?_))))
   have H:=H.dl 1
   have hput:=Nd.put_ins (nb:=nb6) hfi3 oM
   exact H.retM ⟨nb6,_,_,by (rw[hput];rfl),rfl,hN6,by (first|exact hb6|rfl),by (rw[hput];exact ht6)⟩
  intro hc5'
  try simp only[nrm]at hc5'
  refine pe 5 Z (q3 (W_ret (N_K_ret (rt1 results136 Z ?_))))
  have H:=H.dl 0
  have hput:=Nd.put_no1 (nb:=0) hfi3 oM
  exact H.retM ⟨0,_,_,by (rw[hput];rfl),rfl,hNt,rfl,by (rw[hput];rfl)⟩
 skip
 have H:=H.step ew3;refine⟨_,rfl,?_⟩
 refine aG Z (q3 (W_seq (q2 (mV Z (o_eqnil_ptr underlying97 Z Z Z (q3 (W_false Z (W_skip (N_K (W_seq (q2 ?_)))))))))))
 have H:=H.tF 1
 obtain⟨_,_,_,_,oFs,_,H,ohri,ohNs,_,_,hcov,hclose⟩:=Hp.openNode H hNt (Nd.find_at_ hfi3)
 obtain⟨_,_,rfl⟩:=H.accShape (k:=1) rfl;have hdo:=PLe.refl G0;have hn_ohri:=ohri.len
 refine pe 2 Z (fA 1 Z (lB 0 H Z3 (mV Z ?_)))
 refine R_case (t:=24) Z ?_ ?_
 ·intro hc7
  try simp only[nrm]at hc7
  refine pe 3 Z (q3 (W_true Z (q2 (aG Z (q3 (W_ret (N_K_ret (rt1 results136 Z ?_))))))))
  have H:=H.sel [0,1,2] rfl
  obtain⟨F2,H,hN2,hb2⟩:=hclose (Fs':=oFs) H (List.Perm.refl _) hdo ohri ohNs oM
  have hN2:=(Nd.upd_same (Nd.find_at_ hfi3))▸hN2
  have hput:=Nd.put_no2 (x:=x) (nb:=0) hfi3 (by simp_all)
  exact H.retM ⟨0,_,_,by (rw[hput];rfl),rfl,hN2,rfl,by (rw[hput];rfl)⟩
 intro hc7'
 try simp only[nrm]at hc7'
 refine gR Z (fA 1 Z (gR Z (lB 3 H Z3 (pe 1 Z (q3 ?_)))))
 refine W_cond Z ?_ ?_
 ·intro hc8
  try simp only[nrm]at hc8
  refine q2 (aG Z (q3 (W_ret (N_K_ret (rt1 results136 Z ?_)))))
  have H:=H.sel [0,1,2] rfl
  obtain⟨F2,H,hN2,hb2⟩:=hclose (Fs':=oFs) H (List.Perm.refl _) hdo ohri ohNs oM
  have hN2:=(Nd.upd_same (Nd.find_at_ hfi3))▸hN2
  have hput:=Nd.put_no2 (x:=x) (nb:=0) hfi3 (by simp_all)
  exact H.retM ⟨0,_,_,by (rw[hput];rfl),rfl,hN2,rfl,by (rw[hput];rfl)⟩
 intro hc8'
 try simp only[nrm]at hc8'
 refine W_skip (N_K (q2 (mV Z (fA 2 Z (lB 3 H Z3 (xc Z2 (l_Clone_c _ _ H.sub _ _ hr1) ?_))))))
 rintro _ _ ⟨_,_,_,g9,rfl,⟨_,rfl,hchk9⟩,hp9,hq9,hs9⟩
 have H:=H.growO g9 hp9 hq9 hs9;obtain⟨_,_,rfl⟩:=H.accShape (k:=0) rfl
 have ohNs:=ohNs.up g9.le
 have hdo:=hdo.trans g9.le
 refine⟨_,Z,?_⟩
 obtain⟨_,H,hsg10,hsr10⟩:=H.shutL (k:=0) rfl (H.apart (k:=0) (ks:=[1,2,3]) rfl rfl (by intro b hb;rcases hcov b hb with h|h|h;(· exact fpsAt_mem (k:=1) rfl rfl b (by simp[blk,h]));(· exact fpsAt_mem (k:=2) rfl rfl b h);(· exact fpsAt_mem (k:=3) rfl rfl b h))) hchk9 aN aN
 have ohNs:=ohNs.up hsg10
 have hdo:=hdo.trans hsg10
 refine pe 1 Z (fA 2 Z (xst 0 H Z8 ?_));intro _ H
 refine q1 (aG Z (q3 (W_ret (rt1 results136 Z ?_))))
 have H:=H.sel [0,1,2] rfl
 obtain⟨F2,H,hN2,hb2⟩:=hclose (ids':=x.ids) (Fs':=oFs) H (List.Perm.refl _) hdo hsr10 ohNs oM
 have hput:=Nd.put_set (nb:=0) hfi3 (by simp_all)
 exact H.retM ⟨0,_,_,by (rw[hput];rfl),rfl,hN2,hb2,by (rw[hput];rfl)⟩
theorem i_drop_n_c (w0:World)(G0:PH)(hG:PSub G0 w0)(Ft:Fr)(t:Nd)(hNt:NdO 143 97 G0 t Ft)(path:Bs)(hpath:path.length≤16777216)(hLent:Lent w0 G0 [frag Ft])(hwt:t.wf)(hct:t.cnt≤1000) :
  Calls Tryz.prog 139 #[.pointer (some ⟨t.b,0,none⟩),str path] w0 (RetM w0 G0 (fps [frag Ft]) (fun G' v Bs=>∃(F' Fk:Fr) (t':Nd),v= .bool (t.dropN path).isSome∧Bs=[frag F',frag Fk]∧NdO 143 97 G' t' F'∧t'.b=t.b∧(t.dropN path).getD t=t'∧((t.dropN path).isSome=true→∃k,t.find path=some k∧NdO 143 97 G' k Fk))):=by
 have H:Hp w0 G0 (fps [frag Ft]) w0 G0 [frag Ft]:=hLent.hp
 refine calls_of_W (l:=[.pointer (some ⟨t.b,0,none⟩),str path]) func139 Z ntmps139 Z (q2 (aG Z (q1 (pe 2 Z (xc Z2 (i_dirOf_c _ _ (H.lendSubL [0]) _ ((H.lendN (k:=0) (ks:=[0]) Z Z hNt).at (show Nd.at_ t []=some t from Z)) _ hpath hwt) ?_)))))
 rintro _ _ ⟨_,rfl,ew1,⟨hdf1,rfl⟩|⟨d1,nm1,hdf1,rfl⟩⟩
 ·skip
  have H:=H.step ew1;refine⟨_,rfl,?_⟩
  refine pe 5 Z (q3 (W_seq (q2 (mV Z (o_eqnil_ptr underlying97 Z Z Z (q3 (W_true Z (q2 (aG Z (q3 (W_ret (N_K_ret (rt1 results139 Z ?_)))))))))))))
  have hdr:=Nd.drop_no1 hdf1
  have H:=(H.addF).swap0
  exact H.retM ⟨_,[],_,by (rw[hdr];rfl),rfl,hNt,rfl,by (rw[hdr];rfl),fun h=>by rw[hdr]at h;cases h⟩
 skip
 have H:=H.step ew1;refine⟨_,rfl,?_⟩
 have hnml1:=Nd.dir_len hdf1
 refine pe 5 Z (q3 (W_seq (q2 (mV Z (o_eqnil_ptr underlying97 Z Z Z (q3 (W_false Z (W_skip (N_K (q2 (pe 2 Z (xr H Z2 (i_place_c _ _ (H.lendSubL [0]) _ ((H.lendN (k:=0) (ks:=[0]) Z Z hNt).at (Nd.dirOf_some hdf1).2.2.1) _ hnml1 (Nd.dir_wf hwt hdf1)) ?_))))))))))));intro _ H
 refine pe 5 Z (q3 (W_seq (q2 (pe 3 Z ?_))))
 refine R_case (t:=25) Z ?_ ?_
 ·intro hc3
  try simp only[nrm]at hc3
  refine pe 13 Z (q3 (W_true Z (q2 (aG Z (q3 (W_ret (N_K_ret (rt1 results139 Z ?_))))))))
  have hdr:=Nd.drop_no2 hdf1 (by simpa using hc3)
  have H:=(H.addF).swap0
  exact H.retM ⟨_,[],_,by (rw[hdr];rfl),rfl,hNt,rfl,by (rw[hdr];rfl),fun h=>by rw[hdr]at h;cases h⟩
 intro hc3'
 try simp only[nrm]at hc3'
 obtain⟨_,_,_,_,oFs,oR,H,ohri,ohNs,_,_,_,hclose⟩:=Hp.openNode H hNt (Nd.dirOf_some hdf1).2.2.1
 obtain⟨_,_,rfl⟩:=H.accShape (k:=1) rfl;have hdo:=PLe.refl G0;have hn_ohri:=ohri.len
 obtain⟨kk,hq⟩:=Option.isSome_iff_exists.1 hc3'
 have hpl:d1.kids[Sp.pl d1.kids nm1]? = some kk:=Nd.place_some (Nd.dir_wf hwt hdf1) hq
 have hplt:=(List.getElem?_eq_some_iff.1 hpl).1;have hcd:=Nd.at_cnt (Nd.dirOf_some hdf1).2.2.1;have hcl:=Nd.kids_le d1
 have H:=H.tF 2
 obtain⟨_,_,_,_,_,kFk,kF,H,khri,khN,khNs,khp⟩:=Hp.openKid H ohNs hpl
 have hn_khri:=khri.len
 refine pe 2 Z (gR Z (fA 3 Z (gR Z (lB 2 H Z3 (pe 1 Z (gR Z (o_index_A 3 H (Sp.pl d1.kids nm1) Z (chkK _) underlying112 sizeOf97 Z Z Z Z aN aN ?_)))))));intro _ _ _ hba4 hz4 hE4 hg4;cases hba4
 obtain rfl:=hE4
 refine gR Z (o_load_A 3 H isAgg97 Z Z Z (hg4 0 _ Z) ?_)
 have hzk:=Option.some.inj (hz4.symm.trans hpl);subst hzk
 refine pe 1 Z (gR Z (fA 3 Z (gR Z (lB 0 H Z3 (gR Z (lN Z (pe 2 Z (q3 ?_))))))))
 refine W_cond Z ?_ ?_
 ·intro hc5
  try simp only[nrm]at hc5
  refine q2 (aG Z (q3 (W_ret (N_K_ret (rt1 results139 Z ?_)))))
  have H:=H.sel [0,1,2,3] rfl
  have H:=H.inF
  have H:=H.tF 2
  have H:=H.tF 2
  obtain⟨F2,H,hN2,hb2⟩:=hclose (Fs':=oFs) H (by simpa using List.Perm.append_right oR khp.symm) hdo ohri ohNs oM
  have hN2:=(Nd.upd_same (Nd.dirOf_some hdf1).2.2.1)▸hN2
  have hdr:=Nd.drop_no3 hdf1 hq (by first|omega|(simp_all;done)|(simp_all;omega))
  have H:=(H.addF).swap0
  exact H.retM ⟨_,[],_,by (rw[hdr];rfl),rfl,hN2,rfl,by (rw[hdr];rfl),fun h=>by rw[hdr]at h;cases h⟩
 intro hc5'
 try simp only[nrm]at hc5'
 refine W_skip (N_K (q2 (pe 3 Z (fA 3 Z (lB 2 H Z3 (pe 2 Z (aD Z2 ?_)))))))
 have H:=H.tF 3
 refine xc Z2 (l_Delete_c _ _ H.sub _ _ (Sp.pl d1.kids nm1) oM oM H.lent1) ?_
 rintro _ _ ⟨_,_,_,rfl,H7',⟨_,rfl,rfl⟩⟩
 have ohri:=ohri.up H7'.le
 have khN:=khN.up H7'.le
 have khNs:=khNs.up H7'.le
 have hdo:=hdo.trans H7'.le
 have H:=H.borrow1 H7'
 obtain⟨_,_,rfl⟩:=H.accShape (k:=0) rfl
 refine⟨_,Z,?_⟩
 refine pe 1 Z (fA 3 Z (xst 3 H Z8 ?_));intro _ H
 refine q1 (aG Z (q3 (W_ret (rt1 results139 Z ?_))))
 have H:=H.tF 3
 have H:=H.tF 3
 have H:=H.tF 3
 have H:=H.inF
 have H:=Hp.splitF (F:=(_,_)::kFk) (F':=kF++oR) H
 have H:=H.tF 1
 have H:=H.tF 3
 have H:=H.tF 3
 have hkl:(d1.kids.take (Sp.pl d1.kids nm1)++d1.kids.drop (Sp.pl d1.kids nm1+1)).length=d1.kids.length-1:=by (simp;omega)
 obtain⟨F2,H,hN2,hb2⟩:=hclose (kids':=(d1.kids.take (Sp.pl d1.kids nm1)++d1.kids.drop (Sp.pl d1.kids nm1+1))) (Fs':=kF) (by (rw[hkl];exact H)) (List.Perm.refl _) hdo ohri khNs oM
 have hdr:=Nd.drop_yes hdf1 hq (by first|omega|(simp_all;done)|(simp_all;omega))
 exact H.retM ⟨_,_,_,by (rw[hdr];rfl),rfl,hN2,hb2,by (rw[hdr];rfl),fun _=>⟨_,by (rw[Nd.find_yes hdf1,Nd.at_one];exact hq),khN⟩⟩
theorem i_vwrite_c (w0:World)(G0:PH)(hG:PSub G0 w0)(mb:Nat)(es:Array MapEntry)(ck:Nat)(xs:List (Int×Value))(T:Nd)(FT:Fr)(L:List BHeld)(l:List BItem)(hm:MapIs (Value.int .i64) es ck xs)(hS:StR G0 xs L)(hN:NdO 143 97 G0 T FT)(hT:Nd.TOK T l)(hH:Sp.Hol L l)(path:Bs)(hpath:path.length≤16777216)(vbytes:Value)(bytes:List (Int))(hbytes:RdI G0 vbytes bytes)(hLent:Lent w0 G0 [blk mb (.map es ck),frag FT])(hB:Sp.FileValid bytes=true) :
  Calls Tryz.prog 104 #[.agg #[.map (some mb),.pointer (some ⟨T.b,0,none⟩)],str path,vbytes] w0 (RetM w0 G0 (fps [blk mb (.map es ck),frag FT]) (fun G' v Bs=>∃(es':Array MapEntry) (ck':Nat) (xs':List (Int×Value)) (F':Fr) (T':Nd) (L':List BHeld),v= .bool ((Sp.l11Write ⟨L,l⟩ path bytes)).isSome∧Bs=[blk mb (.map es' ck'),frag F']∧MapIs (Value.int .i64) es' ck' xs'∧StR G' xs' L'∧Sp.VH L'∧NdO 143 97 G' T' F'∧T'.b=T.b∧∀u',(Sp.l11Write ⟨L,l⟩ path bytes)=some u'→L'=u'.store∧Nd.TOK T' u'.tree∧Sp.Hol u'.store u'.tree)):=by
 obtain⟨abytes,kbytes,rfl⟩:=hbytes.shape
 have hlimbytes:bytes.length≤1099511627776:=hbytes.lim
 have H:Hp w0 G0 (fps [blk mb (.map es ck),frag FT]) w0 G0 [blk mb (.map es ck),frag FT]:=hLent.hp
 have hVd:=hH.vh;have hTc:=hT.cnt;have hTl:=hH.vt.len
 refine calls_of_W (l:=[_,str path,.slice abytes bytes.length kbytes]) func104 Z ntmps104 Z (q2 (o_box H Z Z Z ?_));intro _ _ _ H
 refine aG Z (q3 (W_seq (q2 (mV Z (xr H Z2 (i_PathValid_c _ _ H.sub _ hpath) ?_)))));intro _ H
 refine pe 1 Z (q3 ?_)
 refine W_cond Z ?_ ?_
 ·intro hc3
  try simp only[nrm]at hc3
  refine q2 (aG Z (q3 (W_ret (N_K_ret (rt1 results104 Z ?_)))))
  have H:=H.dl 0
  have H:=H.tF 1
  have H:=H.tF 1
  have hno:Sp.l11Write ⟨L,l⟩ path bytes=none:=Sp.write_nop (by simpa using hc3)
  exact H.retM ⟨_,_,_,_,_,_,congrArg Value.bool (by (rw[hno];rfl)),rfl,hm,hS,hVd,hN,rfl,fun u' h=>(by rw[hno]at h;cases h)⟩
 intro hc3'
 try simp only[nrm]at hc3'
 refine W_skip (N_K (q2 (fA 0 Z (lB 0 H Z3 (mV Z ?_)))))
 have H:=H.tF 1
 refine xc Z2 (i_storeFile_c _ _ H.sub _ _ _ _ _ hm hS hVd _ _ hbytes H.lent1 hB) ?_
 rintro _ _ ⟨_,_,_,rfl,H4',⟨_,_,_,L4,_,_,ids4,rfl,rfl,hm4,hS4,hV4,hL4,hchk4,_⟩⟩
 have hN:=hN.up H4'.le
 have H:=H.borrow1 H4'
 obtain⟨_,_,rfl⟩:=H.accShape (k:=0) rfl
 refine⟨_,Z,?_⟩
 refine pe 5 Z (q3 (W_seq (q2 (pe 2 Z (q3 ?_)))))
 refine W_cond Z ?_ ?_
 ·intro hc5
  try simp only[nrm]at hc5
  refine q2 (aG Z (q3 (W_ret (N_K_ret (rt1 results104 Z ?_)))))
  have H:=H.sel [1,3] rfl
  have hno:Sp.l11Write ⟨L,l⟩ path bytes=none:=Sp.l11Write_1 (v:=⟨L,l⟩) (by simpa using hc5)
  exact H.retM ⟨_,_,_,_,_,_,congrArg Value.bool (by (rw[hno];rfl)),rfl,hm4,hS4,hV4,hN,rfl,fun u' h=>(by rw[hno]at h;cases h)⟩
 intro hc5'
 try simp only[nrm]at hc5'
 refine W_skip (N_K (q2 ?_))
 obtain⟨G6,H,hsg6,hsr6⟩:=H.shutL (k:=0) rfl (H.apart (k:=0) (ks:=[1,3]) rfl rfl (by intro b hb;simp only[fps,List.flatMap_cons,List.flatMap_nil,List.append_nil,List.mem_append]at hb;rcases hb with h|h;(· exact fpsAt_mem (k:=1) rfl rfl b (by exact h));(· exact fpsAt_mem (k:=3) rfl rfl b (by exact h)))) hchk4 aN aN
 have hN:=hN.up hsg6
 have hS4:=hS4.up hsg6
 refine aG Z (q3 (W_seq (q2 (fA 1 Z (lB 1 H Z3 (mV Z (xc Z2 (i_find_n_c _ _ (H.lendSubL [2]) _ ((H.lendN (k:=2) (ks:=[2]) Z Z hN).at (show Nd.at_ T []=some T from Z)) _ hpath hT.wf) ?_)))))))
 rintro _ _ ⟨_,rfl,ew7,⟨hfi7,rfl⟩|⟨d7,hfi7,rfl⟩⟩
 ·skip
  have H:=H.step ew7;refine⟨_,rfl,?_⟩
  refine aG Z (q1 (mV Z (o_nenil_ptr underlying97 Z Z Z (q3 (W_false Z (W_skip (N_K (q2 (fA 1 Z (lB 1 H Z3 (pe 2 Z (o_build bf66 Z Z Z ?_))))))))))))
  have H:=H.tF 2
  refine xc Z2 (i_put_n_c _ _ H.sub _ _ hN _ ⟨path,false,ids4⟩ ⟨_,_,_,Z,hpath,hsr6⟩ H.lent1 hT.wf oM) ?_
  rintro _ _ ⟨_,_,_,rfl,H8',⟨nb8,_,t8,rfl,rfl,hN8,hb8,ht8⟩⟩
  have hS4:=hS4.up H8'.le
  have H:=H.borrow1 H8'
  try rw[←hb8]
  refine⟨_,Z,?_⟩
  refine mV Z ?_
  refine R_case (t:=39) Z ?_ ?_
  ·intro hc9
   try simp only[nrm]at hc9
   refine gR Z (fA 0 Z (gR Z (lB 2 H Z3 (pe 1 Z (gR Z ?_)))))
   have H:=H.tF 1
   refine xc Z2 (i_freeFile_c _ _ H.sub _ _ _ _ _ hm4 hS4 hV4 _ _ (RdS.nil _ _ _) H.lent1) ?_
   rintro _ _ ⟨_,_,_,rfl,H10',⟨_,_,_,_,rfl,rfl,hm10,hS10,hV10,hL10⟩⟩
   have hN8:=hN8.up H10'.le
   have H:=H.borrow1 H10'
   refine⟨_,Z,?_⟩
   refine pe 2 Z (q3 (W_ret (rt1 results104 Z ?_)))
   have H:=H.dl 2
   have H:=H.tF 1
   have H:=H.tF 1
   obtain⟨r,hr⟩:=Option.isSome_iff_exists.1 (show(Sp.FileStore L bytes).isSome=true by simpa using hc5')
   have hst:Sp.FileStore L bytes=some (L4,ids4):=hr.trans (congrArg some (hL4 r hr))
   have hpt:T.putN ⟨path,false,ids4⟩ nb8=some t8:=by (obtain⟨q,hq⟩:=Option.isSome_iff_exists.1 (show(T.putN ⟨path,false,ids4⟩ nb8).isSome=true by simpa using hc9);(rw[←ht8,hq];rfl))
   obtain⟨s',tt,g1,g2,g3,g4⟩:=Sp.write_fin hH hT (show Sp.PathValid path=true by simpa using hc3') hst hpt (.inl ⟨hfi7,rfl⟩)
   exact H.retM ⟨_,_,_,_,_,_,congrArg Value.bool (by (rw[g1,g2];rfl)),rfl,hm10,hS10,hV10,hN8,(by first|rfl|exact hb8),fun u' h=>(by rw[g2]at h;cases h;exact⟨hL10 _ g1,g3,g4⟩)⟩
  intro hc9'
  try simp only[nrm]at hc9'
  refine pe 6 Z (q3 (W_ret (rt1 results104 Z ?_)))
  have H:=H.dl 2
  have H:=H.tF 1
  obtain⟨r,hr⟩:=Option.isSome_iff_exists.1 (show(Sp.FileStore L bytes).isSome=true by simpa using hc5')
  have hst:Sp.FileStore L bytes=some (L4,ids4):=hr.trans (congrArg some (hL4 r hr))
  have hno:Sp.l11Write ⟨L,l⟩ path bytes=none:=Sp.write_no2 (nb:=nb8) hH hT (show Sp.PathValid path=true by simpa using hc3') hst (by simpa using hc9')
  exact H.retM ⟨_,_,_,_,_,_,congrArg Value.bool (by (rw[hno];rfl)),rfl,hm4,hS4,hV4,hN8,(by first|rfl|exact hb8),fun u' h=>(by rw[hno]at h;cases h)⟩
 skip
 have H:=H.step ew7;refine⟨_,rfl,?_⟩
 refine aG Z (q1 (mV Z (o_nenil_ptr underlying97 Z Z Z (q3 (W_true Z (W_region ?_))))))
 have H:=H.tF 2
 obtain⟨_,_,_,_,oFs,_,H,ohri,ohNs,_,_,_,hclose⟩:=Hp.openNode H hN (Nd.find_at_ hfi7)
 obtain⟨_,_,rfl⟩:=H.accShape (k:=1) rfl;have hdo:=PLe.refl G6;have hn_ohri:=ohri.len
 refine pe 2 Z (fA 2 Z (lB 0 H Z3 (aG Z (q1 ?_))))
 have H:=H.sel [0,1,2,3,4] rfl
 obtain⟨_,H,hN2,_⟩:=hclose (Fs':=oFs) H (List.Perm.refl _) hdo ohri ohNs oM
 have hN2:=(Nd.upd_same (Nd.find_at_ hfi7))▸hN2
 refine fA 1 Z (lB 2 H Z3 (pe 2 Z (o_build bf66 Z Z Z (xc Z2 (i_put_n_c _ _ H.sub _ _ hN2 _ ⟨path,false,ids4⟩ ⟨_,_,_,Z,hpath,hsr6⟩ H.lent1 hT.wf oM) ?_))))
 rintro _ _ ⟨_,_,_,rfl,H11',⟨nb11,_,t11,rfl,rfl,hN11,hb11,ht11⟩⟩
 have hS4:=hS4.up H11'.le
 have ohri:=ohri.up H11'.le
 have H:=H.borrow1 H11'
 try rw[←hb11]
 refine⟨_,Z,?_⟩
 refine mV Z ?_
 refine R_case (t:=39) Z ?_ ?_
 ·intro hc12
  try simp only[nrm]at hc12
  refine gR Z (fA 0 Z (gR Z (lB 2 H Z3 (pe 1 Z (gR Z ?_)))))
  have H:=H.tF 1
  refine xc Z2 (i_freeFile_c _ _ H.sub _ _ _ _ _ hm4 hS4 hV4 _ _ ohri H.lent1) ?_
  rintro _ _ ⟨_,_,_,rfl,H13',⟨_,_,_,_,rfl,rfl,hm13,hS13,hV13,hL13⟩⟩
  have hN11:=hN11.up H13'.le
  have H:=H.borrow1 H13'
  refine⟨_,Z,?_⟩
  refine pe 2 Z (q3 (W_ret (rt1 results104 Z ?_)))
  have H:=H.dl 2
  have H:=H.tF 1
  have H:=H.tF 1
  obtain⟨r,hr⟩:=Option.isSome_iff_exists.1 (show(Sp.FileStore L bytes).isSome=true by simpa using hc5')
  have hst:Sp.FileStore L bytes=some (L4,ids4):=hr.trans (congrArg some (hL4 r hr))
  have hpt:T.putN ⟨path,false,ids4⟩ nb11=some t11:=by (obtain⟨q,hq⟩:=Option.isSome_iff_exists.1 (show(T.putN ⟨path,false,ids4⟩ nb11).isSome=true by simpa using hc12);(rw[←ht11,hq];rfl))
  obtain⟨s',tt,g1,g2,g3,g4⟩:=Sp.write_fin hH hT (show Sp.PathValid path=true by simpa using hc3') hst hpt (.inr ⟨d7,hfi7,rfl⟩)
  exact H.retM ⟨_,_,_,_,_,_,congrArg Value.bool (by (rw[g1,g2];rfl)),rfl,hm13,hS13,hV13,hN11,(by first|rfl|exact hb11),fun u' h=>(by rw[g2]at h;cases h;exact⟨hL13 _ g1,g3,g4⟩)⟩
 intro hc12'
 try simp only[nrm]at hc12'
 refine pe 6 Z (q3 (W_ret (rt1 results104 Z ?_)))
 have H:=H.dl 2
 have H:=H.tF 1
 obtain⟨r,hr⟩:=Option.isSome_iff_exists.1 (show(Sp.FileStore L bytes).isSome=true by simpa using hc5')
 have hst:Sp.FileStore L bytes=some (L4,ids4):=hr.trans (congrArg some (hL4 r hr))
 have hno:Sp.l11Write ⟨L,l⟩ path bytes=none:=Sp.write_no2 (nb:=nb11) hH hT (show Sp.PathValid path=true by simpa using hc3') hst (by simpa using hc12')
 exact H.retM ⟨_,_,_,_,_,_,congrArg Value.bool (by (rw[hno];rfl)),rfl,hm4,hS4,hV4,hN11,(by first|rfl|exact hb11),fun u' h=>(by rw[hno]at h;cases h)⟩
theorem i_dwrite_c (w0:World)(G0:PH)(hG:PSub G0 w0)(db mb:Nat)(es:Array MapEntry)(ck:Nat)(xs:List (Int×Value))(T:Nd)(FT:Fr)(sv:Value)(sn:List (Bs×Nd))(c:List Value)(FSq:Fr)(d:BDisk)(hm:MapIs (Value.int .i64) es ck xs)(hS:StR G0 xs d.store)(hN:NdO 143 97 G0 T FT)(hT:Nd.TOK T d.tree)(hchk:Chk osE 2 G0 c sn)(hNs:NdsO 143 97 G0 (sn.map (·.2)) FSq)(hSn:SnOK sn d.snaps)(hdv:Sp.DiskValid d=true)(path:Bs)(hpath:path.length≤16777216)(vbytes:Value)(bytes:List (Int))(hbytes:RdI G0 vbytes bytes)(hLent:Lent w0 G0 [blk db (cl [.int .i32 0,.int .u32 0,.map (some mb),.pointer (some ⟨T.b,0,none⟩),sv] 111),blk mb (.map es ck),frag FT,acc 117 2 sv sn.length c,frag FSq]) :
  Calls Tryz.prog 69 #[.pointer (some ⟨db,0,none⟩),str path,vbytes] w0 (RetM w0 G0 (fps [blk db (cl [.int .i32 0,.int .u32 0,.map (some mb),.pointer (some ⟨T.b,0,none⟩),sv] 111),blk mb (.map es ck),frag FT,acc 117 2 sv sn.length c,frag FSq]) (fun G' v Bs=>∃(es':Array MapEntry) (ck':Nat) (xs':List (Int×Value)) (F':Fr) (T':Nd) (sv':Value) (sn':List (Fw.Bs×Nd)) (c':List Value) (FSq':Fr) (L':List BHeld),v= .bool (Sp.DiskWrite d path bytes).isSome∧Bs=[blk db (cl [.int .i32 0,.int .u32 0,.map (some mb),.pointer (some ⟨T'.b,0,none⟩),sv'] 111),blk mb (.map es' ck'),frag F',acc 117 2 sv' sn'.length c',frag FSq']∧MapIs (Value.int .i64) es' ck' xs'∧StR G' xs' L'∧Sp.VH L'∧NdO 143 97 G' T' F'∧Chk osE 2 G' c' sn'∧NdsO 143 97 G' (sn'.map (·.2)) FSq'∧∀d',Sp.DiskWrite d path bytes=some d'→L'=d'.store∧Nd.TOK T' d'.tree∧SnOK sn' d'.snaps)):=by
 obtain⟨abytes,kbytes,rfl⟩:=hbytes.shape
 have hlimbytes:bytes.length≤1099511627776:=hbytes.lim
 have H:Hp w0 G0 (fps [blk db (cl [.int .i32 0,.int .u32 0,.map (some mb),.pointer (some ⟨T.b,0,none⟩),sv] 111),blk mb (.map es ck),frag FT,acc 117 2 sv sn.length c,frag FSq]) w0 G0 [blk db (cl [.int .i32 0,.int .u32 0,.map (some mb),.pointer (some ⟨T.b,0,none⟩),sv] 111),blk mb (.map es ck),frag FT,acc 117 2 sv sn.length c,frag FSq]:=hLent.hp
 obtain⟨_,_,rfl⟩:=H.accShape (k:=3) rfl;have hVd:=Sp.valid_iff.1 (Sp.dv_parts.1 hdv).1;have hTv:=(Sp.dv_parts.1 hdv).2.1;have hTc:=hT.cnt;have hTl:=Sp.tree_len hTv;have hsnl:=hSn.len;have hsn6:=(Sp.dv_parts.1 hdv).2.2.1
 have hHd:=Sp.DHol.hol (ts:=d.snaps.map (·.tree)) (Sp.dd_iff.1 hdv).2
 refine calls_of_WD (l:=[.pointer (some ⟨db,0,none⟩),str path,.slice abytes bytes.length kbytes]) func69 Z ntmps69 Z (q2 (aG Z (q1 (pe 2 Z (fA 0 Z (o_lock 0 H muLib Z call62 Z Z Z Z ?_))))));intro _ H
 refine q1 (pe 2 Z (fA 0 Z (o_defer Z (q1 (mV Z (xr H Z2 (i_FileValid_c _ _ H.sub _ _ hbytes) ?_))))));intro _ H
 refine mV Z ?_
 refine R_case (t:=16) Z ?_ ?_
 ·intro hc3
  try simp only[nrm]at hc3
  refine pe 2 Z (gR Z (fA 2 Z (gR Z (lA 0 2 H Z4 (pe 2 Z (gR Z ?_))))))
  have H:=H.tF 2
  have H:=H.tF 2
  refine xc Z2 (i_vwrite_c _ _ H.sub _ _ _ _ _ _ _ _ hm hS hN hT hHd _ hpath _ _ hbytes H.lent2 (by assumption)) ?_
  rintro _ _ ⟨_,_,_,rfl,H4',⟨_,_,_,_,T4,L4,rfl,rfl,hm4,hS4,hV4,hN4,hb4,hu4⟩⟩
  have hchk:=hchk.up H4'.le
  have hNs:=hNs.up H4'.le
  have H:=H.borrow2 H4'
  try rw[←hb4]
  try rw[←hb4]at H
  refine⟨_,Z,?_⟩
  refine pe 2 Z (q3 (W_ret (ret_unlock 2 H muLib Z call63 Z Z (rs:=[.tmp 6]) results69 ?_)));intro _ H
  refine⟨[_],⟨Z,trivial⟩,?_⟩
  have H:=H.sel [2,0,1,3,4] rfl
  exact H.retM ⟨_,_,_,_,T4,_,sn,_,_,L4,congrArg Value.bool (by simp[Sp.DiskWrite,hdv,hc3]),rfl,hm4,hS4,hV4,hN4,hchk,hNs,fun d2 h=>(by obtain⟨_,_,v2,h1,rfl⟩:=Sp.dwrite_get h;obtain⟨g1,g2,_⟩:=hu4 v2 h1;exact⟨g1,g2,hSn⟩)⟩
 intro hc3'
 try simp only[nrm]at hc3'
 refine pe 9 Z (q3 (W_ret (ret_unlock 0 H muLib Z call63 Z Z (rs:=[.tmp 6]) results69 ?_)));intro _ H
 refine⟨[_],⟨Z,trivial⟩,?_⟩
 have H:=H.sel [0,1,2,3,4] rfl
 have hno:Sp.DiskWrite d path bytes=none:=by simp[Sp.DiskWrite,hc3']
 exact H.retM ⟨_,_,_,_,T,_,sn,_,_,d.store,congrArg Value.bool (by (rw[hno];rfl)),rfl,hm,hS,hVd,hN,hchk,hNs,fun d2 h=>(by rw[hno]at h;cases h)⟩
theorem i_vdir_c (w0:World)(G0:PH)(hG:PSub G0 w0)(mb:Nat)(es:Array MapEntry)(ck:Nat)(xs:List (Int×Value))(T:Nd)(FT:Fr)(L:List BHeld)(l:List BItem)(hm:MapIs (Value.int .i64) es ck xs)(hS:StR G0 xs L)(hN:NdO 143 97 G0 T FT)(hT:Nd.TOK T l)(hH:Sp.Hol L l)(path:Bs)(hpath:path.length≤16777216)(hLent:Lent w0 G0 [blk mb (.map es ck),frag FT]) :
    Calls Tryz.prog 102 #[.agg #[.map (some mb),.pointer (some ⟨T.b,0,none⟩)],str path] w0 (RetM w0 G0 (fps [blk mb (.map es ck),frag FT]) (fun G' v Bs=>∃(es':Array MapEntry) (ck':Nat) (xs':List (Int×Value)) (F':Fr) (T':Nd) (L':List BHeld),v= .bool ((Sp.l11Dir L l path)).isSome∧Bs=[blk mb (.map es' ck'),frag F']∧MapIs (Value.int .i64) es' ck' xs'∧StR G' xs' L'∧Sp.VH L'∧NdO 143 97 G' T' F'∧T'.b=T.b∧∀u',(Sp.l11Dir L l path)=some u'→L'=u'.store∧Nd.TOK T' u'.tree∧Sp.Hol u'.store u'.tree)):=by
  have H:Hp w0 G0 (fps [blk mb (.map es ck),frag FT]) w0 G0 [blk mb (.map es ck),frag FT]:=hLent.hp
  have hVd:=hH.vh;have hTc:=hT.cnt;have hTl:=hH.vt.len
  refine calls_of_W (l:=[_,str path]) func102 Z ntmps102 Z (q2 (o_box H Z Z Z ?_));intro _ _ _ H
  refine aG Z (q1 (mV Z (xr H Z2 (i_PathValid_c _ _ H.sub _ hpath) ?_)));intro _ H
  refine mV Z ?_
  refine R_case (t:=7) Z ?_ ?_
  · intro hc3
    try simp only[nrm]at hc3
    refine gR Z (fA 1 Z (gR Z (lB 0 H Z3 (pe 1 Z (gR Z (o_build bf66 Z Z Z (gR Z ?_)))))))
    have H:=H.tF 2
    refine xc Z2 (i_put_n_c _ _ H.sub _ _ hN _ ⟨path,true,[]⟩ ⟨_,_,_,Z,hpath,(RdS.nil _ _ _)⟩ H.lent1 hT.wf oM) ?_
    rintro _ _ ⟨_,_,_,rfl,H4',⟨nb4,_,t4,rfl,rfl,hN4,hb4,ht4⟩⟩
    have hS:=hS.up H4'.le
    have H:=H.borrow1 H4'
    try rw[←hb4]
    refine⟨_,Z,?_⟩
    refine pe 2 Z (q3 (W_ret (rt1 results102 Z ?_)))
    have H:=H.dl 1
    have H:=H.tF 1
    have hpv:Sp.PathValid path=true:=by simpa using hc3
    cases hpt:T.putN ⟨path,true,[]⟩ nb4 with
    | none => have hno : Sp.l11Dir L l path = none := by (unfold Sp.l11Dir; (rw [Sp.dir_no2 (nb := nb4) hT hpv (by (rw [hpt]; rfl))]; rfl))
              exact H.retM ⟨_,_,_,_,_,_,congrArg Value.bool (by (rw[hno];rfl)),rfl,hm,hS,hVd,hN4,(by first|rfl|exact hb4),fun u' h=>(by rw[hno]at h;cases h)⟩
    | some T2 => obtain ⟨tt, g1, g3, g4⟩ := Sp.dir_fin hH hT hpv hpt
                 have g2:Sp.l11Dir L l path=some ⟨L,tt⟩:=by (unfold Sp.l11Dir;(rw[g1];rfl))
                 have hT2:t4=T2:=by (rw[←ht4,hpt];rfl)
                 exact H.retM ⟨_,_,_,_,_,_,congrArg Value.bool (by (rw[g2];rfl)),rfl,hm,hS,hVd,hN4,(by first|rfl|exact hb4),fun u' h=>(by rw[g2]at h;cases h;exact⟨rfl,hT2▸g3,g4⟩)⟩
  intro hc3'
  try simp only[nrm]at hc3'
  refine pe 7 Z (q3 (W_ret (rt1 results102 Z ?_)))
  have H:=H.dl 0
  have H:=H.tF 1
  have H:=H.tF 1
  have hno:Sp.l11Dir L l path=none:=by (unfold Sp.l11Dir;(rw[Sp.dir_nop (by simpa using hc3')];rfl))
  exact H.retM ⟨_,_,_,_,_,_,congrArg Value.bool (by (rw[hno];rfl)),rfl,hm,hS,hVd,hN,rfl,fun u' h=>(by rw[hno]at h;cases h)⟩
theorem i_vremove_c (w0:World)(G0:PH)(hG:PSub G0 w0)(mb:Nat)(es:Array MapEntry)(ck:Nat)(xs:List (Int×Value))(T:Nd)(FT:Fr)(L:List BHeld)(l:List BItem)(hm:MapIs (Value.int .i64) es ck xs)(hS:StR G0 xs L)(hN:NdO 143 97 G0 T FT)(hT:Nd.TOK T l)(hH:Sp.Hol L l)(path:Bs)(hpath:path.length≤16777216)(hLent:Lent w0 G0 [blk mb (.map es ck),frag FT]) :
  Calls Tryz.prog 105 #[.agg #[.map (some mb),.pointer (some ⟨T.b,0,none⟩)],str path] w0 (RetM w0 G0 (fps [blk mb (.map es ck),frag FT]) (fun G' v Bs=>∃(es':Array MapEntry) (ck':Nat) (xs':List (Int×Value)) (F':Fr) (T':Nd) (L':List BHeld),v= .bool ((Sp.l11Drop L l path)).isSome∧Bs=[blk mb (.map es' ck'),frag F']∧MapIs (Value.int .i64) es' ck' xs'∧StR G' xs' L'∧Sp.VH L'∧NdO 143 97 G' T' F'∧T'.b=T.b∧∀u',(Sp.l11Drop L l path)=some u'→L'=u'.store∧Nd.TOK T' u'.tree∧Sp.Hol u'.store u'.tree)):=by
 have H:Hp w0 G0 (fps [blk mb (.map es ck),frag FT]) w0 G0 [blk mb (.map es ck),frag FT]:=hLent.hp
 have hVd:=hH.vh;have hTc:=hT.cnt;have hTl:=hH.vt.len
 refine calls_of_W (l:=[_,str path]) func105 Z ntmps105 Z (q2 (o_box H Z Z Z ?_));intro _ _ _ H
 refine aG Z (q1 (fA 1 Z (lB 0 H Z3 (mV Z (xc Z2 (i_find_n_c _ _ (H.lendSubL [2]) _ ((H.lendN (k:=2) (ks:=[2]) Z Z hN).at (show Nd.at_ T []=some T from Z)) _ hpath hT.wf) ?_)))))
 rintro _ _ ⟨_,rfl,ew2,⟨hfi2,rfl⟩|⟨d2,hfi2,rfl⟩⟩
 ·skip
  have H:=H.step ew2;refine⟨_,rfl,?_⟩
  refine aG Z (q3 (W_seq (W_drawK [0] 18 H kR Z ?_)));intro _ H;have hd3:=PLe.refl G0
  refine dE 0 Z2 (RD_t 1 Z kR Z (fun _ hK=>v_nenil_ptr underlying97 Z Z) (dE 2 Z2 (dE 3 Z2 (dE 4 Z2 (dE 5 Z2 (dE 6 Z2 (dE 7 Z2 (dE 8 Z2 (dE 9 Z2 (dE 10 Z2 (dE 11 Z2 (dE 12 Z2 (dE 13 Z2 (dE 14 Z2 (dE 15 Z2 ?_)))))))))))))))
  refine dE 16 Z2 (dE 17 Z2 (rz (N_K (W_ret (rt1 results105 Z ?_)))))
  have H:=H.dl 0
  have H:=H.tF 1
  have H:=H.tF 1
  have hno:Sp.l11Drop L l path=none:=Sp.drop_no1 hT (by assumption)
  exact H.retM ⟨_,_,_,_,_,_,congrArg Value.bool (by (rw[hno];rfl)),rfl,hm,hS,hVd,hN,rfl,fun u' h=>(by rw[hno]at h;cases h)⟩
 skip
 have H:=H.step ew2;refine⟨_,rfl,?_⟩
 refine aG Z (q3 (W_seq (W_drawK [0] 18 H kR Z ?_)));intro _ H;have hd4:=PLe.refl G0
 refine dE 0 Z2 (RD_t 1 Z kR Z (fun _ hK=>v_nenil_ptr underlying97 Z Z) (dE 2 Z2 (dF 3 1 Z2 (dB 4 0 Z4 (dE 5 Z2 (r1 6 Z (gR Z ?_)))))))
 have H:=H.tF 2
 refine xc Z2 (i_drop_n_c _ _ H.sub _ _ hN _ hpath H.lent1 hT.wf oM) ?_
 rintro _ _ ⟨G5,_,_,rfl,H5',⟨_,_,t5,rfl,rfl,hN5,hb5,ht5,hk5⟩⟩
 have hS:=hS.up H5'.le
 have hd4:=hd4.trans H5'.le
 have H:=H.borrow1 H5'
 try rw[←hb5]
 try rw[←hb5]at H
 refine⟨_,Z,?_⟩
 refine q4 H hd4 (dE 7 Z2 (dE 8 Z2 ?_))
 refine RD_case (t:=18) Z ?_ ?_
 ·intro hc6
  try simp only[nrm]at hc6
  obtain⟨k2,hk2,hNk⟩:=hk5 (by simpa using hc6)
  obtain rfl:k2=d2:=Option.some.inj (hk2.symm.trans hfi2)
  have H:=H.tF 1
  obtain⟨_,_,_,_,_,_,H,ohri,ohNs,_,_,_,_⟩:=Hp.openNode H hNk (show Nd.at_ k2 []=some k2 from rfl)
  obtain⟨_,_,rfl⟩:=H.accShape (k:=1) rfl;have hdo:=PLe.refl G5;have hn_ohri:=ohri.len
  refine dF 9 0 Z2 (dB 10 0 Z4 (dE 11 Z2 (dE 12 Z2 (dF 13 2 Z2 (r1 14 Z (gR Z (lB 0 H Z3 (q4 H hd4 (r1 15 Z (gR Z ?_))))))))))
  have H:=H.tF 5
  refine xc Z2 (i_freeFile_c _ _ H.sub _ _ _ _ _ hm hS hVd _ _ ohri H.lent1) ?_
  rintro _ _ ⟨_,_,_,rfl,H7',⟨_,_,_,_,rfl,rfl,hm7,hS7,hV7,hL7⟩⟩
  have hN5:=hN5.up H7'.le
  have hd4:=hd4.trans H7'.le
  have H:=H.borrow1 H7'
  refine⟨_,Z,?_⟩
  refine q4 H hd4 (dE 16 Z2 (dE 17 Z2 (rz (N_K (W_ret (rt1 results105 Z ?_))))))
  have H:=H.sel [0,4] rfl
  have hpt:T.dropN path=some t5:=by (obtain⟨_,hq⟩:=Option.isSome_iff_exists.1 (show(T.dropN path).isSome=true by simpa using hc6);(rw[←ht5,hq];rfl))
  obtain⟨_,_,g1,g2,g3,g4⟩:=Sp.drop_fin hH hT hk2 hpt
  exact H.retM ⟨_,_,_,_,_,_,congrArg Value.bool (by (rw[g1,g2];rfl)),rfl,hm7,hS7,hV7,hN5,(by first|rfl|exact hb5),fun u' h=>(by rw[g2]at h;cases h;exact⟨hL7 _ g1,g3,g4⟩)⟩
 intro hc6'
 try simp only[nrm]at hc6'
 refine dE 9 Z2 (dE 10 Z2 (dE 11 Z2 (dE 12 Z2 (dE 13 Z2 (dE 14 Z2 (dE 15 Z2 (dE 16 Z2 (dE 17 Z2 (rz (N_K (W_ret (rt1 results105 Z ?_))))))))))))
 have H:=H.dl 1
 have H:=H.dl 1
 have H:=H.tF 1
 have hno:Sp.l11Drop L l path=none:=Sp.drop_no2 hT (by simpa using hc6')
 exact H.retM ⟨_,_,_,_,_,_,congrArg Value.bool (by (rw[hno];rfl)),rfl,hm,hS,hVd,hN5,(by first|rfl|exact hb5),fun u' h=>(by rw[hno]at h;cases h)⟩
theorem i_dmakeDir_c (w0:World)(G0:PH)(hG:PSub G0 w0)(db mb:Nat)(es:Array MapEntry)(ck:Nat)(xs:List (Int×Value))(T:Nd)(FT:Fr)(sv:Value)(sn:List (Bs×Nd))(c:List Value)(FSq:Fr)(d:BDisk)(hm:MapIs (Value.int .i64) es ck xs)(hS:StR G0 xs d.store)(hN:NdO 143 97 G0 T FT)(hT:Nd.TOK T d.tree)(hchk:Chk osE 2 G0 c sn)(hNs:NdsO 143 97 G0 (sn.map (·.2)) FSq)(hSn:SnOK sn d.snaps)(hdv:Sp.DiskValid d=true)(path:Bs)(hpath:path.length≤16777216)(hLent:Lent w0 G0 [blk db (cl [.int .i32 0,.int .u32 0,.map (some mb),.pointer (some ⟨T.b,0,none⟩),sv] 111),blk mb (.map es ck),frag FT,acc 117 2 sv sn.length c,frag FSq]) :
  Calls Tryz.prog 68 #[.pointer (some ⟨db,0,none⟩),str path] w0 (RetM w0 G0 (fps [blk db (cl [.int .i32 0,.int .u32 0,.map (some mb),.pointer (some ⟨T.b,0,none⟩),sv] 111),blk mb (.map es ck),frag FT,acc 117 2 sv sn.length c,frag FSq]) (fun G' v Bs=>∃(es':Array MapEntry) (ck':Nat) (xs':List (Int×Value)) (F':Fr) (T':Nd) (sv':Value) (sn':List (Fw.Bs×Nd)) (c':List Value) (FSq':Fr) (L':List BHeld),v= .bool (Sp.DiskDir d path).isSome∧Bs=[blk db (cl [.int .i32 0,.int .u32 0,.map (some mb),.pointer (some ⟨T'.b,0,none⟩),sv'] 111),blk mb (.map es' ck'),frag F',acc 117 2 sv' sn'.length c',frag FSq']∧MapIs (Value.int .i64) es' ck' xs'∧StR G' xs' L'∧Sp.VH L'∧NdO 143 97 G' T' F'∧Chk osE 2 G' c' sn'∧NdsO 143 97 G' (sn'.map (·.2)) FSq'∧∀d',Sp.DiskDir d path=some d'→L'=d'.store∧Nd.TOK T' d'.tree∧SnOK sn' d'.snaps)):=by
 have H:Hp w0 G0 (fps [blk db (cl [.int .i32 0,.int .u32 0,.map (some mb),.pointer (some ⟨T.b,0,none⟩),sv] 111),blk mb (.map es ck),frag FT,acc 117 2 sv sn.length c,frag FSq]) w0 G0 [blk db (cl [.int .i32 0,.int .u32 0,.map (some mb),.pointer (some ⟨T.b,0,none⟩),sv] 111),blk mb (.map es ck),frag FT,acc 117 2 sv sn.length c,frag FSq]:=hLent.hp
 obtain⟨_,_,rfl⟩:=H.accShape (k:=3) rfl;have hVd:=Sp.valid_iff.1 (Sp.dv_parts.1 hdv).1;have hTv:=(Sp.dv_parts.1 hdv).2.1;have hTc:=hT.cnt;have hTl:=Sp.tree_len hTv;have hsnl:=hSn.len;have hsn6:=(Sp.dv_parts.1 hdv).2.2.1
 have hHd:=Sp.DHol.hol (ts:=d.snaps.map (·.tree)) (Sp.dd_iff.1 hdv).2
 refine calls_of_WD (l:=[.pointer (some ⟨db,0,none⟩),str path]) func68 Z ntmps68 Z (q2 (aG Z (q1 (pe 2 Z (fA 0 Z (o_lock 0 H muLib Z call62 Z Z Z Z ?_))))));intro _ H
 refine q1 (pe 2 Z (fA 0 Z (o_defer Z (q1 (pe 2 Z (fA 2 Z (lA 0 2 H Z4 (mV Z ?_))))))))
 have H:=H.tF 2
 have H:=H.tF 2
 refine xc Z2 (i_vdir_c _ _ H.sub _ _ _ _ _ _ _ _ hm hS hN hT hHd _ hpath H.lent2) ?_
 rintro _ _ ⟨_,_,_,rfl,H2',⟨_,_,_,_,T2,L2,rfl,rfl,hm2,hS2,hV2,hN2,hb2,hu2⟩⟩
 have hchk:=hchk.up H2'.le
 have hNs:=hNs.up H2'.le
 have H:=H.borrow2 H2'
 try rw[←hb2]
 try rw[←hb2]at H
 refine⟨_,Z,?_⟩
 refine aG Z (q3 (W_ret (ret_unlock 2 H muLib Z call63 Z Z (rs:=[.tmp 4]) results68 ?_)));intro _ H
 refine⟨[_],⟨Z,trivial⟩,?_⟩
 have H:=H.sel [2,0,1,3,4] rfl
 exact H.retM ⟨_,_,_,_,T2,_,sn,_,_,L2,congrArg Value.bool (by simp[Sp.DiskDir,hdv]),rfl,hm2,hS2,hV2,hN2,hchk,hNs,fun d2 h=>(by obtain⟨v2,h1,rfl⟩:=Sp.ddir_vol h;obtain⟨g1,g2,_⟩:=hu2 v2 h1;exact⟨g1,g2,hSn⟩)⟩
theorem i_dremove_c (w0:World)(G0:PH)(hG:PSub G0 w0)(db mb:Nat)(es:Array MapEntry)(ck:Nat)(xs:List (Int×Value))(T:Nd)(FT:Fr)(sv:Value)(sn:List (Bs×Nd))(c:List Value)(FSq:Fr)(d:BDisk)(hm:MapIs (Value.int .i64) es ck xs)(hS:StR G0 xs d.store)(hN:NdO 143 97 G0 T FT)(hT:Nd.TOK T d.tree)(hchk:Chk osE 2 G0 c sn)(hNs:NdsO 143 97 G0 (sn.map (·.2)) FSq)(hSn:SnOK sn d.snaps)(hdv:Sp.DiskValid d=true)(path:Bs)(hpath:path.length≤16777216)(hLent:Lent w0 G0 [blk db (cl [.int .i32 0,.int .u32 0,.map (some mb),.pointer (some ⟨T.b,0,none⟩),sv] 111),blk mb (.map es ck),frag FT,acc 117 2 sv sn.length c,frag FSq]) :
  Calls Tryz.prog 70 #[.pointer (some ⟨db,0,none⟩),str path] w0 (RetM w0 G0 (fps [blk db (cl [.int .i32 0,.int .u32 0,.map (some mb),.pointer (some ⟨T.b,0,none⟩),sv] 111),blk mb (.map es ck),frag FT,acc 117 2 sv sn.length c,frag FSq]) (fun G' v Bs=>∃(es':Array MapEntry) (ck':Nat) (xs':List (Int×Value)) (F':Fr) (T':Nd) (sv':Value) (sn':List (Fw.Bs×Nd)) (c':List Value) (FSq':Fr) (L':List BHeld),v= .bool (Sp.DiskDrop d path).isSome∧Bs=[blk db (cl [.int .i32 0,.int .u32 0,.map (some mb),.pointer (some ⟨T'.b,0,none⟩),sv'] 111),blk mb (.map es' ck'),frag F',acc 117 2 sv' sn'.length c',frag FSq']∧MapIs (Value.int .i64) es' ck' xs'∧StR G' xs' L'∧Sp.VH L'∧NdO 143 97 G' T' F'∧Chk osE 2 G' c' sn'∧NdsO 143 97 G' (sn'.map (·.2)) FSq'∧∀d',Sp.DiskDrop d path=some d'→L'=d'.store∧Nd.TOK T' d'.tree∧SnOK sn' d'.snaps)):=by
 have H:Hp w0 G0 (fps [blk db (cl [.int .i32 0,.int .u32 0,.map (some mb),.pointer (some ⟨T.b,0,none⟩),sv] 111),blk mb (.map es ck),frag FT,acc 117 2 sv sn.length c,frag FSq]) w0 G0 [blk db (cl [.int .i32 0,.int .u32 0,.map (some mb),.pointer (some ⟨T.b,0,none⟩),sv] 111),blk mb (.map es ck),frag FT,acc 117 2 sv sn.length c,frag FSq]:=hLent.hp
 obtain⟨_,_,rfl⟩:=H.accShape (k:=3) rfl;have hVd:=Sp.valid_iff.1 (Sp.dv_parts.1 hdv).1;have hTv:=(Sp.dv_parts.1 hdv).2.1;have hTc:=hT.cnt;have hTl:=Sp.tree_len hTv;have hsnl:=hSn.len;have hsn6:=(Sp.dv_parts.1 hdv).2.2.1
 have hHd:=Sp.DHol.hol (ts:=d.snaps.map (·.tree)) (Sp.dd_iff.1 hdv).2
 refine calls_of_WD (l:=[.pointer (some ⟨db,0,none⟩),str path]) func70 Z ntmps70 Z (q2 (aG Z (q1 (pe 2 Z (fA 0 Z (o_lock 0 H muLib Z call62 Z Z Z Z ?_))))));intro _ H
 refine q1 (pe 2 Z (fA 0 Z (o_defer Z (q1 (pe 2 Z (fA 2 Z (lA 0 2 H Z4 (mV Z ?_))))))))
 have H:=H.tF 2
 have H:=H.tF 2
 refine xc Z2 (i_vremove_c _ _ H.sub _ _ _ _ _ _ _ _ hm hS hN hT hHd _ hpath H.lent2) ?_
 rintro _ _ ⟨_,_,_,rfl,H2',⟨_,_,_,_,T2,L2,rfl,rfl,hm2,hS2,hV2,hN2,hb2,hu2⟩⟩
 have hchk:=hchk.up H2'.le
 have hNs:=hNs.up H2'.le
 have H:=H.borrow2 H2'
 try rw[←hb2]
 try rw[←hb2]at H
 refine⟨_,Z,?_⟩
 refine aG Z (q3 (W_ret (ret_unlock 2 H muLib Z call63 Z Z (rs:=[.tmp 4]) results70 ?_)));intro _ H
 refine⟨[_],⟨Z,trivial⟩,?_⟩
 have H:=H.sel [2,0,1,3,4] rfl
 exact H.retM ⟨_,_,_,_,T2,_,sn,_,_,L2,congrArg Value.bool (by simp[Sp.DiskDrop,hdv]),rfl,hm2,hS2,hV2,hN2,hchk,hNs,fun d2 h=>(by obtain⟨v2,h1,rfl⟩:=Sp.ddrop_vol h;obtain⟨g1,g2,_⟩:=hu2 v2 h1;exact⟨g1,g2,hSn⟩)⟩
theorem i_makePart_c (w0:World)(G0:PH)(hG:PSub G0 w0)(db mb:Nat)(es:Array MapEntry)(ck:Nat)(xs:List (Int×Value))(T:Nd)(FT:Fr)(sv:Value)(sn:List (Bs×Nd))(c:List Value)(FSq:Fr)(d:BDisk)(hm:MapIs (Value.int .i64) es ck xs)(hS:StR G0 xs d.store)(hN:NdO 143 97 G0 T FT)(hT:Nd.TOK T d.tree)(hchk:Chk osE 2 G0 c sn)(hNs:NdsO 143 97 G0 (sn.map (·.2)) FSq)(hSn:SnOK sn d.snaps)(hdv:Sp.DiskValid d=true)(cpart:List Value)(part:BPart)(hpart:partE G0 part cpart)(hLent:Lent w0 G0 [blk db (cl [.int .i32 0,.int .u32 0,.map (some mb),.pointer (some ⟨T.b,0,none⟩),sv] 111),blk mb (.map es ck),frag FT,acc 117 2 sv sn.length c,frag FSq])(hok:Sp.partOk part=true) :
  Calls Tryz.prog 34 #[.pointer (some ⟨db,0,none⟩),.agg cpart.toArray] w0 (RetM w0 G0 (fps [blk db (cl [.int .i32 0,.int .u32 0,.map (some mb),.pointer (some ⟨T.b,0,none⟩),sv] 111),blk mb (.map es ck),frag FT,acc 117 2 sv sn.length c,frag FSq]) (fun G' v Bs=>∃(es':Array MapEntry) (ck':Nat) (xs':List (Int×Value)) (F':Fr) (T':Nd) (sv':Value) (sn':List (Fw.Bs×Nd)) (c':List Value) (FSq':Fr) (L':List BHeld),v= .bool (Sp.mkPart d part).isSome∧Bs=[blk db (cl [.int .i32 0,.int .u32 0,.map (some mb),.pointer (some ⟨T'.b,0,none⟩),sv'] 111),blk mb (.map es' ck'),frag F',acc 117 2 sv' sn'.length c',frag FSq']∧MapIs (Value.int .i64) es' ck' xs'∧StR G' xs' L'∧Sp.VH L'∧NdO 143 97 G' T' F'∧Chk osE 2 G' c' sn'∧NdsO 143 97 G' (sn'.map (·.2)) FSq'∧∀d',Sp.mkPart d part=some d'→L'=d'.store∧Nd.TOK T' d'.tree∧SnOK sn' d'.snaps)):=by
 obtain⟨_,_,_,rfl,_,hi1,hr1⟩:=hpart;have hy_hi1:_≤16777216:=hi1;have hn_hr1:=hr1.len;have hx_hr1:_≤1099511627776:=hr1.lim
 have H:Hp w0 G0 (fps [blk db (cl [.int .i32 0,.int .u32 0,.map (some mb),.pointer (some ⟨T.b,0,none⟩),sv] 111),blk mb (.map es ck),frag FT,acc 117 2 sv sn.length c,frag FSq]) w0 G0 [blk db (cl [.int .i32 0,.int .u32 0,.map (some mb),.pointer (some ⟨T.b,0,none⟩),sv] 111),blk mb (.map es ck),frag FT,acc 117 2 sv sn.length c,frag FSq]:=hLent.hp
 obtain⟨_,_,rfl⟩:=H.accShape (k:=3) rfl;have hVd:=Sp.valid_iff.1 (Sp.dv_parts.1 hdv).1;have hTv:=(Sp.dv_parts.1 hdv).2.1;have hTc:=hT.cnt;have hTl:=Sp.tree_len hTv;have hsnl:=hSn.len;have hsn6:=(Sp.dv_parts.1 hdv).2.2.1
 have hHd:=Sp.DHol.hol (ts:=d.snaps.map (·.tree)) (Sp.dd_iff.1 hdv).2
 refine calls_of_W (l:=[.pointer (some ⟨db,0,none⟩),_]) func34 Z ntmps34 Z (q2 (o_box H Z Z Z ?_));intro _ _ _ H
 refine aG Z (q3 (W_seq (W_drawK [0,1] 9 H kR Z ?_)));intro _ H;have hd3:=PLe.refl G0
 refine dE 0 Z2 (dE 1 Z2 (dF 2 2 Z2 (dF 3 1 Z2 (dB 4 1 Z4 (dF 5 1 Z2 (dB 6 0 Z4 (r1 7 Z (xc Z2 (i_find_n_c _ _ (H.lendSubL [3]) _ ((H.lendN (k:=3) (ks:=[3]) Z Z hN).at (show Nd.at_ T []=some T from Z)) _ hi1 hT.wf) ?_))))))))
 rintro _ _ ⟨_,rfl,ew4,⟨hfi4,rfl⟩|⟨_,hfi4,rfl⟩⟩
 ·skip
  have H:=H.step ew4;refine⟨_,rfl,?_⟩
  refine q4 H hd3 (dE 8 Z2 (rz (N_K (W_seq (q2 (fA 0 Z (lB 0 H Z3 (q3 (W_block (q2 (pe 2 Z (q3 ?_))))))))))))
  refine W_cond Z ?_ ?_
  ·intro hc5
   try simp only[nrm]at hc5
   refine W_seq (q2 (mV Z (o_nenil_ptr underlying97 Z Z Z (q3 (W_false Z (W_skip (N_K (W_seq (q2 (fA 2 Z (lB 0 H Z3 (q3 ?_))))))))))))
   refine W_cond Z ?_ ?_
   ·intro hc6
    try simp only[nrm]at hc6
    refine q2 (mV Z (fA 1 Z (lB 0 H Z3 ?_)))
    have H:=H.tF 5
    have H:=H.tF 5
    have H:=H.tF 5
    have H:=H.tF 5
    have H:=H.tF 5
    refine xc Z2 (i_dmakeDir_c _ _ H.sub _ _ _ _ _ _ _ _ _ _ _ _ hm hS hN hT hchk hNs hSn hdv _ hi1 H.lent5) ?_
    rintro _ _ ⟨_,_,_,rfl,H7',⟨_,_,_,_,_,_,_,_,_,_,rfl,rfl,hm7,hS7,hV7,hN7,hchk7,hNs7,hd7⟩⟩
    have H:=H.borrow5 H7'
    obtain⟨avAd,cvAd,rfl⟩:=H.accShape (k:=3) rfl
    refine⟨_,Z,?_⟩
    refine aG Z (q3 (W_ret (N_K_ret (N_B_ret (N_K_ret (rt1 results34 Z ?_))))))
    have H:=H.sel [0,1,2,3,4] rfl
    have hyes:=Sp.mp1_dir hdv hT hok hc5 hfi4 (by simpa using hc6)
    exact H.retM ⟨_,_,_,_,_,_,_,_,_,_,by (rw[hyes];rfl),rfl,hm7,hS7,hV7,hN7,hchk7,hNs7,(by rw[hyes];exact hd7)⟩
   intro hc6'
   try simp only[nrm]at hc6'
   refine W_skip (N_K (q2 (mV Z (fA 1 Z (lB 0 H Z3 (fA 3 Z (lB 0 H Z3 ?_)))))))
   have H:=H.tF 5
   have H:=H.tF 5
   have H:=H.tF 5
   have H:=H.tF 5
   have H:=H.tF 5
   refine xc Z2 (i_dwrite_c _ _ H.sub _ _ _ _ _ _ _ _ _ _ _ _ hm hS hN hT hchk hNs hSn hdv _ hi1 _ _ hr1 H.lent5) ?_
   rintro _ _ ⟨_,_,_,rfl,H8',⟨_,_,_,_,_,_,_,_,_,_,rfl,rfl,hm8,hS8,hV8,hN8,hchk8,hNs8,hd8⟩⟩
   have H:=H.borrow5 H8'
   obtain⟨avAd,cvAd,rfl⟩:=H.accShape (k:=3) rfl
   refine⟨_,Z,?_⟩
   refine aG Z (q3 (W_ret (N_B_ret (N_K_ret (rt1 results34 Z ?_)))))
   have H:=H.sel [0,1,2,3,4] rfl
   have hyes:=Sp.mp1_file hT hc5 hfi4 (by simpa using hc6')
   exact H.retM ⟨_,_,_,_,_,_,_,_,_,_,by (rw[hyes];rfl),rfl,hm8,hS8,hV8,hN8,hchk8,hNs8,(by rw[hyes];exact hd8)⟩
  intro hc5'
  try simp only[nrm]at hc5'
  refine q2 (pe 2 Z (q3 ?_))
  refine W_cond Z ?_ ?_
  ·intro hc9
   try simp only[nrm]at hc9
   refine W_seq (W_drawK [0] 18 H kR Z ?_);intro _ H;have hd10:=PLe.refl G0
   refine dE 0 Z2 (RD_t 1 Z kR Z (fun _ hK=>v_nenil_ptr underlying97 Z Z) (dE 2 Z2 (dE 3 Z2 (dE 4 Z2 (dE 5 Z2 (dE 6 Z2 (dE 7 Z2 (dE 8 Z2 (dE 9 Z2 (dE 10 Z2 (dE 11 Z2 (dE 12 Z2 (dE 13 Z2 (dE 14 Z2 (dE 15 Z2 ?_)))))))))))))))
   refine dE 16 Z2 (dE 17 Z2 (rz (N_K (W_ret (N_B_ret (N_K_ret (rt1 results34 Z ?_)))))))
   have H:=H.sel [1,2,3,4,5] rfl
   have hno:Sp.mkPart d part=none:=Sp.mp2_no hT hc9 hfi4
   exact H.retM ⟨_,_,_,_,T,_,sn,_,_,d.store,congrArg Value.bool (by (rw[hno];rfl)),rfl,hm,hS,hVd,hN,hchk,hNs,fun d2 h=>(by rw[hno]at h;cases h)⟩
  intro hc9'
  try simp only[nrm]at hc9'
  refine W_skip (N_B (N_K (q2 (mV Z (o_nenil_ptr underlying97 Z Z Z (pe 16 Z (q3 (W_ret (rt1 results34 Z ?_)))))))))
  have H:=H.sel [1,2,3,4,5] rfl
  have hno:Sp.mkPart d part=none:=Sp.mp3_no hT hok hc5' hc9' hfi4
  exact H.retM ⟨_,_,_,_,T,_,sn,_,_,d.store,congrArg Value.bool (by (rw[hno];rfl)),rfl,hm,hS,hVd,hN,hchk,hNs,fun d2 h=>(by rw[hno]at h;cases h)⟩
 skip
 have H:=H.step ew4;refine⟨_,rfl,?_⟩
 refine q4 H hd3 (dE 8 Z2 (rz (N_K (W_seq (q2 (fA 0 Z (lB 0 H Z3 (q3 (W_block (q2 (pe 2 Z (q3 ?_))))))))))))
 refine W_cond Z ?_ ?_
 ·intro hc11
  try simp only[nrm]at hc11
  refine W_seq (q2 (mV Z (o_nenil_ptr underlying97 Z Z Z (q3 (W_true Z (q2 (aG Z (q3 (W_ret (N_K_ret (N_B_ret (N_K_ret (rt1 results34 Z ?_)))))))))))))
  have H:=H.sel [1,2,3,4,5] rfl
  have hno:Sp.mkPart d part=none:=Sp.mp1_no hT hc11 hfi4
  exact H.retM ⟨_,_,_,_,T,_,sn,_,_,d.store,congrArg Value.bool (by (rw[hno];rfl)),rfl,hm,hS,hVd,hN,hchk,hNs,fun d2 h=>(by rw[hno]at h;cases h)⟩
 intro hc11'
 try simp only[nrm]at hc11'
 refine q2 (pe 2 Z (q3 ?_))
 refine W_cond Z ?_ ?_
 ·intro hc12
  try simp only[nrm]at hc12
  refine W_seq (W_drawK [0] 18 H kR Z ?_);intro _ H;have hd13:=PLe.refl G0
  refine dE 0 Z2 (RD_t 1 Z kR Z (fun _ hK=>v_nenil_ptr underlying97 Z Z) (dE 2 Z2 (dE 3 Z2 (dE 4 Z2 (dF 5 1 Z2 (dF 7 2 Z2 (dB 8 0 Z4 (r1 6 Z (gR Z ?_)))))))))
  obtain⟨_,_,_,_,_,_,_,hpr14,_,_⟩:=((H.lendN (k:=3) (ks:=[3]) rfl rfl hN).at (Nd.find_at_ hfi4)).open
  refine o_load_D (H.lendSubL [3]) isAgg4 Z Z (hpr14 1 _ Z) (q4 H hd13 (RD_tg 9 Z kR Z (yl Z Z) (fun _ hK=>v_beql underlying4 Z Z) (dE 10 Z2 (dE 11 Z2 ?_))))
  refine RD_case (t:=45) Z ?_ ?_
  ·intro hc15
   try simp only[nrm]at hc15
   refine dE 12 Z2 (dF 13 1 Z2 (dB 14 0 Z4 (r1 15 Z (gR Z ?_))))
   have H:=H.tF 5
   have H:=H.tF 5
   have H:=H.tF 5
   have H:=H.tF 5
   have H:=H.tF 5
   refine xc Z2 (i_dremove_c _ _ H.sub _ _ _ _ _ _ _ _ _ _ _ _ hm hS hN hT hchk hNs hSn hdv _ hi1 H.lent5) ?_
   rintro _ _ ⟨_,_,_,rfl,H16',⟨_,_,_,_,_,_,_,_,_,_,rfl,rfl,hm16,hS16,hV16,hN16,hchk16,hNs16,hd16⟩⟩
   have hd13:=hd13.trans H16'.le
   have H:=H.borrow5 H16'
   obtain⟨avAd,cvAd,rfl⟩:=H.accShape (k:=3) rfl
   refine⟨_,Z,?_⟩
   refine q4 H hd13 (dE 16 Z2 (dE 17 Z2 (rz (N_K (W_ret (N_B_ret (N_K_ret (rt1 results34 Z ?_))))))))
   have H:=H.sel [0,1,2,3,4] rfl
   have hyes:=Sp.mp2_yes hdv hT hok hc12 hfi4 (by simpa using hc15)
   exact H.retM ⟨_,_,_,_,_,_,_,_,_,_,by (rw[hyes];rfl),rfl,hm16,hS16,hV16,hN16,hchk16,hNs16,(by rw[hyes];exact hd16)⟩
  intro hc15'
  try simp only[nrm]at hc15'
  refine dE 12 Z2 (dE 13 Z2 (dE 14 Z2 (dE 15 Z2 (dE 16 Z2 (dE 17 Z2 (rz (N_K (W_ret (N_B_ret (N_K_ret (rt1 results34 Z ?_)))))))))))
  have H:=H.sel [1,2,3,4,5] rfl
  have hno:Sp.mkPart d part=none:=Sp.mp2_dir hdv hT hc12 hfi4 (by simpa using hc15')
  exact H.retM ⟨_,_,_,_,T,_,sn,_,_,d.store,congrArg Value.bool (by (rw[hno];rfl)),rfl,hm,hS,hVd,hN,hchk,hNs,fun d2 h=>(by rw[hno]at h;cases h)⟩
 intro hc12'
 try simp only[nrm]at hc12'
 refine W_skip (N_B (N_K (q2 (mV Z (o_nenil_ptr underlying97 Z Z Z (pe 3 Z (gR Z (fA 1 Z (gR Z ?_)))))))))
 obtain⟨_,_,_,_,_,_,_,hpr17,_,_⟩:=((H.lendN (k:=3) (ks:=[3]) rfl rfl hN).at (Nd.find_at_ hfi4)).open
 refine o_load_D (H.lendSubL [3]) isAgg4 Z Z (hpr17 1 _ Z) (pe 3 Z ?_)
 refine R_case (t:=60) Z ?_ ?_
 ·intro hc18
  try simp only[nrm]at hc18
  refine pe 1 Z (gR Z (fA 1 Z (gR Z (lB 0 H Z3 (gR Z (fA 3 Z (gR Z (lB 0 H Z3 (gR Z ?_)))))))))
  have H:=H.tF 5
  have H:=H.tF 5
  have H:=H.tF 5
  have H:=H.tF 5
  have H:=H.tF 5
  refine xc Z2 (i_dwrite_c _ _ H.sub _ _ _ _ _ _ _ _ _ _ _ _ hm hS hN hT hchk hNs hSn hdv _ hi1 _ _ hr1 H.lent5) ?_
  rintro _ _ ⟨_,_,_,rfl,H19',⟨_,_,_,_,_,_,_,_,_,_,rfl,rfl,hm19,hS19,hV19,hN19,hchk19,hNs19,hd19⟩⟩
  have H:=H.borrow5 H19'
  obtain⟨avAd,cvAd,rfl⟩:=H.accShape (k:=3) rfl
  refine⟨_,Z,?_⟩
  refine pe 2 Z (q3 (W_ret (rt1 results34 Z ?_)))
  have H:=H.sel [0,1,2,3,4] rfl
  have hyes:=Sp.mp3_file hdv hT hok hc11' hc12' hfi4 (by simpa using hc18)
  exact H.retM ⟨_,_,_,_,_,_,_,_,_,_,by (rw[hyes];rfl),rfl,hm19,hS19,hV19,hN19,hchk19,hNs19,(by rw[hyes];exact hd19)⟩
 intro hc18'
 try simp only[nrm]at hc18'
 refine pe 8 Z (q3 (W_ret (rt1 results34 Z ?_)))
 have H:=H.sel [1,2,3,4,5] rfl
 have hno:Sp.mkPart d part=none:=Sp.mp3_dir hdv hT hok hc11' hc12' hfi4 (by simpa using hc18')
 exact H.retM ⟨_,_,_,_,T,_,sn,_,_,d.store,congrArg Value.bool (by (rw[hno];rfl)),rfl,hm,hS,hVd,hN,hchk,hNs,fun d2 h=>(by rw[hno]at h;cases h)⟩
theorem i_inOrder_c (w0:World)(G0:PH)(hG:PSub G0 w0)(vlist:Value)(list:List (BPart))(hlist:RdPart G0 vlist list) :
  Calls Tryz.prog 33 #[vlist] w0 (RetM w0 G0 [] (fun G v Bs=>∃(c:Nat) (vs:List Value) (s1:Nat),v= .chan (some c)∧Bs=[chn c list.length vs true s1 0]∧CV partV G vs (Sp.inOrd list))):=by
 obtain⟨alist,klist,rfl⟩:=hlist.shape
 have hlimlist:list.length≤1099511627776:=hlist.lim
 have H:=Hp.init hG
 refine calls_of_WC (l:=[.slice alist list.length klist]) func33 Z ntmps33 Z (q2 (aG Z (q1 (mV Z (lN Z ?_)))))
 refine o_mkchan H underlying139 typeInfo58 Z Z (by have:Nat.ble 0 1=true:=rfl;show 56*_≤_;omega) oM ?_;intro c1 _ _ H
 refine aG Z (q1 (mV Z (o_deferclose Z ?_)));intro _
 refine q3 (W_seq (q2 (mV Z (lN Z (o_sub Z Z Z oO (aG Z (q3 (W_block ?_))))))))
 refine W_lp (hf:=(Sub.cons (t:=0) Z (Sub.cons (t:=2) Z (Sub.cons (t:=3) Z Sub.nil)))) (J:=fun M w m=>∃(k:Nat) (i:Int) (vs:List Value) (s1:Nat) (G:PH),M=[(4,.int .i64 i)]∧PLe G0 G∧Hp w0 G0 [] w G [chn c1 list.length vs false s1 0]∧(k≤list.length∧i=(k:Int)-1∧CV partV G vs (Sp.ordA list k))∧m=(2*k)) (h0:=⟨list.length,((list.length:Int)-1),[],0,_,Z,PLe.refl _,H,?inv,Z⟩) (round:=?round)
 case inv=>exact⟨Nat.le_refl _,rfl,(by rw[Sp.ordA_all];exact .nil)⟩
 case round =>
  rintro _ _ _ ⟨k,i,vs,s1,G3,rfl,hle3,H,hinv3,rfl⟩
  have hlist:=hlist.up hle3
  obtain⟨hk,_,hcv⟩:=hinv3;have hvl:=hcv.len
  refine W_seq (q2 (pe 2 Z (q3 ?_)))
  refine W_cond Z ?_ ?_
  ·intro hc4
   try simp only[nrm]at hc4
   refine W_skip (N_K (W_seq (W_block (q2 (pe 2 Z (iP (k-1) hlist Z3 oM ?_))))));intro _ _ z5 _ hz5 hE5 hrow5
   obtain⟨_,_,_,rfl,_,hi5,hr5⟩:=hE5;have hy_hi5:_≤16777216:=hi5;have hn_hr5:=hr5.len;have hx_hr5:_≤1099511627776:=hr5.lim
   refine fA 0 Z (lP H hrow5 0 Z2 (pe 1 Z (q3 ?_)))
   refine W_cond Z ?_ ?_
   ·intro hc6
    try simp only[nrm]at hc6
    refine W_regionC [0,1,2,3,4,5] Z ?_
    have hrm:=Sp.ordA_len hz5 oM
    refine RC_l Z (mV Z ?_)
    refine R_nil (N_C ?_)
    refine RC_l Z (mV Z ?_)
    refine R_nil (N_C ?_)
    refine RC_l Z (mV Z ?_)
    refine R_nil (N_C ?_)
    refine RC_l Z (iP (k-1) hlist Z3 oM ?_);intro _ _ z7 _ hz7 hE7 hrow7
    obtain⟨_,_,_,rfl,hj7,hi7,hr7⟩:=hE7;have hy_hi7:_≤16777216:=hi7;have hn_hr7:=hr7.len;have hx_hr7:_≤1099511627776:=hr7.lim
    have hzz7:z5=z7:=Option.some.inj (hz5.symm.trans hz7)
    subst hzz7
    refine R_nil (N_C ?_)
    refine RC_l Z (o_loadagg_P H isAgg58 sizeOf58 Z Z hrow7 Z ?_)
    refine R_nil (N_C ?_)
    refine c_send H 0 Z Z Z Z oM ?_;intro _ H
    refine RC_nil (N_B (N_K (W_region (mV Z (o_sub Z Z Z oO (aG Z (R_nil ?_)))))))
    refine N_lp (hJ:=⟨(k-1),(i-1),_,_,_,Z,hle3,H,?inv,Z⟩) (hm:=?hm)
    case hm=>omega
    case inv=>exact⟨by omega,by omega,(by rw[Sp.ordA_yes hz5 oM hc6];exact hcv.snoc ⟨_,rfl,_,_,_,rfl,hj7,hi7,hr7⟩)⟩
   intro hc6'
   try simp only[nrm]at hc6'
   refine W_skip (N_B (N_K (W_region (mV Z (o_sub Z Z Z oO (aG Z (R_nil ?_)))))))
   refine N_lp (hJ:=⟨(k-1),(i-1),_,_,_,Z,hle3,H,?inv,Z⟩) (hm:=?hm)
   case hm=>omega
   case inv=>exact⟨by omega,by omega,(by rw[Sp.ordA_no hz5 oM hc6'];exact hcv)⟩
  intro hc4'
  try simp only[nrm]at hc4'
  refine W_exit (N_K_exit (N_LP_exit (N_B_same (N_K (W_seq (q2 (mV Z (lN Z (mV Z (q3 (W_block ?_)))))))))))
  have hcv0:CV partV G3 vs (Sp.ordB list 0):=(by have h0:k=0:=oM;rw[h0]at hcv;rw[Sp.ordB_zero];exact hcv)
  refine W_lp (hf:=(Sub.cons (t:=2) Z (Sub.cons (t:=3) Z (Sub.cons (t:=29) Z (Sub.cons (t:=30) Z Sub.nil))))) (J:=fun M w m=>∃(k:Nat) (vsb:List Value) (sb:Nat) (G:PH),M=[(31,.int .i64 (k:Int))]∧PLe G3 G∧Hp w0 G0 [] w G [chn c1 list.length vsb false sb 0]∧(k≤list.length∧CV partV G vsb (Sp.ordB list k))∧m=(list.length-k)) (h0:=⟨0,vs,s1,_,Z,PLe.refl _,H,?inv,Z⟩) (round:=?round)
  case inv=>exact⟨by omega,hcv0⟩
  case round =>
   rintro _ _ _ ⟨k,vsb,sb,_,rfl,hle11,H,hinv11,rfl⟩
   have hlist:=hlist.up hle11
   obtain⟨hk,hcvb⟩:=hinv11;have hvl:=hcvb.len
   refine q2 (pe 1 Z (q3 (W_seq ?_)))
   refine W_cond Z ?_ ?_
   ·intro hc12
    try simp only[nrm]at hc12
    refine W_skip (N_K (W_seq (W_block (q2 (iP k hlist Z3 Z ?_)))));intro _ _ _ _ hz13 hE13 hrow13
    obtain⟨_,_,_,rfl,hj13,hi13,hr13⟩:=hE13;have hy_hi13:_≤16777216:=hi13;have hn_hr13:=hr13.len;have hx_hr13:_≤1099511627776:=hr13.lim
    refine o_loadagg_P H isAgg58 sizeOf58 Z Z hrow13 Z (xal H Z ?_);intro _ _ _ H
    refine xst 0 H Z8 ?_;intro _ H
    refine q1 (fA 0 Z (lB 0 H Z3 (pe 1 Z (q3 ?_))))
    refine W_cond Z ?_ ?_
    ·intro hc16
     try simp only[nrm]at hc16
     refine W_regionC [0,1,2] Z ?_
     have hrm:=Sp.ordB_len hz13 hc16
     refine RC_l Z (mV Z ?_)
     refine R_nil (N_C ?_)
     refine RC_l Z (lA 0 4 H Z4 ?_)
     refine R_nil (N_C ?_)
     refine c_send H 1 Z Z Z Z oM ?_;intro _ H
     refine RC_nil (N_B (N_K (W_region (aD Z2 (mV Z (R_nil ?_))))))
     have H:=H.dl 0
     refine N_lp (hJ:=⟨k+1,_,_,_,Z,hle11,H,?inv,Z⟩) (hm:=?hm)
     case hm=>omega
     case inv=>exact⟨by omega,(by rw[Sp.ordB_yes hz13 hc16];exact hcvb.snoc ⟨_,rfl,_,_,_,rfl,hj13,hi13,hr13⟩)⟩
    intro hc16'
    try simp only[nrm]at hc16'
    refine W_skip (N_B (N_K (W_region (aD Z2 (mV Z (R_nil ?_))))))
    have H:=H.dl 0
    refine N_lp (hJ:=⟨k+1,_,_,_,Z,hle11,H,?inv,Z⟩) (hm:=?hm)
    case hm=>omega
    case inv=>exact⟨by omega,(by rw[Sp.ordB_no hz13 (by simpa using hc16')];exact hcvb)⟩
   intro hc12'
   try simp only[nrm]at hc12'
   refine W_exit (N_K_exit (N_LP_exit (N_B_same (N_K (q2 (pe 2 Z (q3 (W_ret (ret_close 0 H (rs:=[.tmp 2]) Z results33 ?_)))))))));intro _ H
   refine⟨[_],⟨Z,trivial⟩,?_⟩
   exact H.retM ⟨_,_,_,rfl,rfl,(by rw[←Sp.ordB_end (show list.length≤k by omega)];exact hcvb)⟩
theorem i_StreamRun_c (w0:World)(G0:PH)(hG:PSub G0 w0)(cd:List Value)(d:BDisk)(hd:diskE G0 d cd)(vlist:Value)(list:List (BPart))(hlist:RdPart G0 vlist list) :
  Calls Tryz.prog 11 #[.agg cd.toArray,vlist] w0 (RetN w0 G0 (fun v Bs=>∃(v1 v2 v3:Value) (F1 F2 F3:Fr),v= .tuple #[.agg #[v1,v2,v3],.bool (Sp.StreamRun d list).isSome]∧Bs=[frag F1,frag F2,frag F3]∧OHs F1 v1 ((Sp.StreamRun d list).getD ⟨[],[],[]⟩).store∧OIs F2 v2 ((Sp.StreamRun d list).getD ⟨[],[],[]⟩).tree∧OSn F3 v3 ((Sp.StreamRun d list).getD ⟨[],[],[]⟩).snaps)):=by
 obtain⟨_,_,_,_,_,_,_,_,_,rfl,hr1,hr1',hr1'',⟨_,_⟩,⟨_,_⟩,_,_⟩:=ox hd
 obtain⟨alist,klist,rfl⟩:=hlist.shape
 have hlimlist:list.length≤1099511627776:=hlist.lim
 have H:=Hp.init hG
 refine calls_of_W (l:=[_,.slice alist list.length klist]) func11 Z ntmps11 Z (q2 (o_box H Z Z Z ?_));intro b2 _ _ H
 refine xal H Z ?_;intro b3 _ _ H
 refine aG Z (q1 (lA 1 3 H Z4 (xc Z2 (i_newDisk_c _ _ H.sub _ d ⟨_,_,_,_,_,_,_,_,_,Z,hr1,hr1',hr1''⟩ H.lent0) ?_)))
 rintro _ _ ⟨G4,_,_,rfl,H4',⟨rfl,rfl,hnd4⟩|⟨db4,mb4,es4,ck4,xs4,T4,F4,_,sn4,c4,FS4,rfl,rfl,hm4,hS4,hN4,hT4,hchk4,hNs4,hSn4,hdv4⟩⟩
 ·skip
  have H:=H.borrow0 H4'
  refine⟨_,Z,?_⟩
  refine pe 5 Z (q3 (W_seq (q2 (pe 2 Z (q3 (W_true Z (q2 (o_build bf27 Z Z Z (xst 0 H Z8 ?_)))))))));intro _ H
  refine aG Z (q3 (W_ret (N_K_ret (ret_gen (rs:=[.cell 4 27,.tmp 5]) (vs:=[_,_]) results11 ⟨⟨_,Z,load_blk 0 H isAgg27 sizeOf27 Z Z Z⟩,Z,trivial⟩ ?_))))
  have H:=H.dl 0
  have H:=H.dl 0
  have hno:Sp.StreamRun d list=none:=Sp.run_inv hnd4
  have H:=(((H.addF).addF).addF).forget hG (by simp)
  exact⟨_,_,rfl,H,.slice none 0 0,.slice none 0 0,.slice none 0 0,[],[],[],(by rw[hno];rfl),rfl,(by rw[hno];exact oh_nil),(by rw[hno];exact oi_nil),(by rw[hno];exact os_nil)⟩
 skip
 have hlist:=hlist.up H4'.le
 have H:=H.borrow0 H4'
 obtain⟨avAd,cvAd,rfl⟩:=H.accShape (k:=3) rfl
 refine⟨_,Z,?_⟩
 refine pe 5 Z (q3 (W_seq (q2 (pe 2 Z (q3 (W_false Z (W_skip (N_K (W_seq (q2 (mV Z (lN Z (mV Z (q3 (W_block ?_)))))))))))))))
 obtain⟨ln6,hln6,H⟩:=H.name (k:=0) rfl
 obtain⟨ln7,hln7,H⟩:=H.name (k:=5) rfl
 obtain⟨ln8,hln8,H⟩:=H.name (k:=6) rfl
 refine W_lp (hf:=(Sub.cons (t:=1) Z (Sub.cons (t:=4) Z (Sub.cons (t:=6) Z (Sub.cons (t:=19) Z (Sub.cons (t:=20) Z Sub.nil)))))) (J:=fun M w m=>∃(k:Nat) (G:PH),M=[(21,.int .i64 (k:Int))]∧PLe G4 G∧Hp w0 G0 [] w G [blk db4 (cl ln6 111),blk mb4 (.map es4 ck4),frag F4,acc 117 2 (.slice avAd sn4.length cvAd) sn4.length c4,frag FS4,blk b3 (cl ln7 27),blk b2 (cl ln8 27)]∧(k≤list.length∧(list.take k).all Sp.partOk=true)∧m=(list.length-k)) (h0:=⟨0,_,Z,PLe.refl _,H,?inv,Z⟩) (round:=?round)
 case inv=>exact⟨by omega,by simp⟩
 case round =>
  rintro _ _ _ ⟨k,_,rfl,hle9,H,hinv9,rfl⟩
  subst hln6
  subst hln7
  subst hln8
  have hlist:=hlist.up hle9
  have hS4:=hS4.up hle9
  have hN4:=hN4.up hle9
  have hchk4:=hchk4.up hle9
  have hNs4:=hNs4.up hle9
  obtain⟨hk,hall⟩:=hinv9
  refine q2 (pe 1 Z (q3 (W_seq ?_)))
  refine W_cond Z ?_ ?_
  ·intro hc10
   try simp only[nrm]at hc10
   refine W_skip (N_K (W_seq (W_block (q2 (iP k hlist Z3 Z ?_)))));intro _ _ _ _ hz11 hE11 hrow11
   obtain⟨_,_,_,rfl,_,hi11,hr11⟩:=hE11;have hy_hi11:_≤16777216:=hi11;have hn_hr11:=hr11.len;have hx_hr11:_≤1099511627776:=hr11.lim
   refine o_loadagg_P H isAgg58 sizeOf58 Z Z hrow11 Z (xal H Z ?_);intro _ _ _ H
   refine xst 0 H Z8 ?_;intro _ H
   refine q1 (lA 0 4 H Z4 ?_)
   refine xr H Z2 (i_spart_c _ _ H.sub _ _ ⟨_,_,_,Z,⟨by first|omega|(dsimp only;omega),by first|omega|(dsimp only;omega)⟩,hi11,hr11⟩) ?_;intro _ H
   refine pe 1 Z (q3 ?_)
   refine W_cond Z ?_ ?_
   ·intro hc15
    try simp only[nrm]at hc15
    refine q2 (o_build bf27 Z Z Z (xst 6 H Z8 ?_));intro _ H
    refine aG Z (q3 (W_ret (N_B_ret (N_K_ret (N_LP_ret (N_B_ret (N_K_ret (ret_gen (rs:=[.cell 4 27,.tmp 5]) (vs:=[_,_]) results11 ⟨⟨_,Z,load_blk 6 H isAgg27 sizeOf27 Z Z Z⟩,Z,trivial⟩ ?_))))))))
    have H:=H.sel [] rfl
    have hno:Sp.StreamRun d list=none:=Sp.run_bad (List.mem_of_getElem? hz11) (by simpa using hc15)
    have H:=(((H.addF).addF).addF).forget hG (by simp)
    exact⟨_,_,rfl,H,.slice none 0 0,.slice none 0 0,.slice none 0 0,[],[],[],(by rw[hno];rfl),rfl,(by rw[hno];exact oh_nil),(by rw[hno];exact oi_nil),(by rw[hno];exact os_nil)⟩
   intro hc15'
   try simp only[nrm]at hc15'
   refine W_skip (N_B (N_K (W_region (aD Z2 (mV Z (R_nil ?_))))))
   have H:=H.sel [1,2,3,4,5,6,7] rfl
   refine N_lp (hJ:=⟨k+1,_,Z,hle9,H,?inv,Z⟩) (hm:=?hm)
   case hm=>omega
   case inv=>exact⟨by omega,Sp.all_take hall hz11 (by simpa using hc15')⟩
  intro hc10'
  try simp only[nrm]at hc10'
  refine W_exit (N_K_exit (N_LP_exit (N_B_same (N_K (W_seq (q2 (mV Z (o_call call33 Z Z (i_inOrder_c _ _ H.sub _ _ hlist) ?_))))))));rintro _ w18 ⟨G18,_,_,rfl,H18',⟨cq,vq,sq,rfl,rfl,hcv⟩⟩
  have hS4:=hS4.up H18'.le
  have hN4:=hN4.up H18'.le
  have hchk4:=hchk4.up H18'.le
  have hNs4:=hNs4.up H18'.le
  have H:=H.borrow0 H18';refine⟨_,rfl,?_⟩
  refine q3 (W_block ?_)
  have hal:list.all Sp.partOk=true:=(by have h0:k=list.length:=oM;rw[h0,List.take_length]at hall;exact hall)
  have H:=H.sel [0,1,2,3,4,5,6] rfl
  obtain⟨ln19,hln19,H⟩:=H.name (k:=6) rfl
  refine W_lp (hf:=(Sub.cons (t:=4) Z (Sub.cons (t:=6) Z (Sub.cons (t:=31) Z Sub.nil)))) (J:=fun M w m=>∃(k:Nat) (vq:List Value) (sq rq:Nat) (dn:BDisk) (eT:Array MapEntry) (kT:Nat) (xT:List (Int×Value)) (TT:Nd) (FT:Fr) (aT:Option Addr) (qT:Nat) (nT:List (Fw.Bs×Nd)) (cT:List Value) (FSq:Fr) (G:PH),M=[]∧PLe G18 G∧Hp w0 G0 [] w G [chn cq list.length vq true sq rq,blk db4 (cl [.int .i32 0,.int .u32 0,.map (some mb4),.pointer (some ⟨TT.b,0,none⟩),.slice aT nT.length qT] 111),blk mb4 (.map eT kT),frag FT,acc 117 2 (.slice aT nT.length qT) nT.length cT,frag FSq,blk b3 (cl ln19 27)]∧(k≤(Sp.inOrd list).length∧CV partV G vq ((Sp.inOrd list).drop k)∧Sp.foldB Sp.mkPart ((Sp.inOrd list).take k) (some d)=some dn∧MapIs (Value.int .i64) eT kT xT∧StR G xT dn.store∧NdO 143 97 G TT FT∧Nd.TOK TT dn.tree∧Chk osE 2 G cT nT∧NdsO 143 97 G (nT.map (·.2)) FSq∧SnOK nT dn.snaps∧Sp.DiskValid dn=true)∧m=((Sp.inOrd list).length-k)) (h0:=⟨0,vq,sq,0,d,_,_,xs4,T4,_,_,_,sn4,_,_,_,Z,PLe.refl _,H,?inv,Z⟩) (round:=?round)
  case inv=>exact⟨by omega,by simpa using hcv,rfl,hm4,hS4,hN4,hT4,hchk4,hNs4,hSn4,hdv4⟩
  case round =>
   rintro _ _ _ ⟨k,vq,sq,rq,dn,eT,kT,xT,TT,FT,aT,qT,nT,cT,FSq,_,rfl,hle20,H,hinv20,rfl⟩
   subst hln19
   have hcv:=hcv.up hle20
   obtain⟨hk,hcv,hJ,hmL,hSL,hNL,hTL,hchkL,hNsL,hSnL,hdvL⟩:=hinv20
   refine W_seq (W_regionC [0,1] Z ?_)
   rcases vq with _|⟨v21,vs21⟩
   ·skip
    refine c_recvz H 0 Z Z Z Z underlying75 zeroValue58 ?_
    have hend:=hcv.nil_len
    refine RC_l Z (pe 1 Z ?_)
    refine R_nil (N_C ?_)
    refine RC_nil (N_K (W_seq (W_false Z (W_exit (N_K_exit (N_LP_exit (N_B_same (N_K (q2 (mV Z ?_))))))))))
    have H:=H.tF 5
    have H:=H.tF 5
    have H:=H.tF 5
    have H:=H.tF 5
    have H:=H.tF 5
    refine xc Z2 (i_disk_c _ _ H.sub _ _ _ _ _ _ _ _ _ _ _ _ hmL hSL hNL hTL hchkL hNsL hSnL (Sp.valid_iff.1 (Sp.dv_parts.1 hdvL).1) (Sp.dv_parts.1 hdvL).2.2.1 H.lent5) ?_
    rintro _ _ ⟨_,_,_,rfl,H22',⟨_,_,_,_,_,_,rfl,rfl,ho122,ho222,ho322⟩⟩
    have H:=H.borrow5 H22'
    obtain⟨_,p122⟩:=ho122
    obtain⟨a122,c122,rfl⟩:=OwnS.shape p122
    obtain⟨_,p222⟩:=ho222
    obtain⟨a222,c222,rfl⟩:=OwnS.shape p222
    obtain⟨_,p322⟩:=ho322
    obtain⟨a322,c322,rfl⟩:=OwnS.shape p322
    refine⟨_,Z,?_⟩
    refine xst 4 H Z8 ?_;intro _ H
    refine aG Z (q3 (W_ret (ret_gen (rs:=[.cell 4 27,.tmp 5]) (vs:=[_,_]) results11 ⟨⟨_,Z,load_blk 4 H isAgg27 sizeOf27 Z Z Z⟩,Z,trivial⟩ ?_)))
    have H:=H.sel [0,1,2] rfl
    have hyes:Sp.StreamRun d list=some dn:=Sp.ord_all hdv4 hJ hend
    have H:=H.forget hG (by simp)
    exact⟨_,_,rfl,H,.slice a122 dn.store.length c122,.slice a222 dn.tree.length c222,.slice a322 dn.snaps.length c322,_,_,_,(by rw[hyes];rfl),rfl,(by rw[hyes];exact⟨_,p122⟩),(by rw[hyes];exact⟨_,p222⟩),(by rw[hyes];exact⟨_,p322⟩)⟩
   skip
   obtain⟨z21,hz21,hV21,hcw⟩:=hcv.pop;clear hcv;have hcv:=hcw;clear hcw;obtain⟨_,rfl,_,_,_,rfl,_,hi21,hr21⟩:=hV21;have hn_hr21:=hr21.len;have hx_hr21:_≤1099511627776:=hr21.lim;have hoz21:=List.all_eq_true.1 hal _ (Sp.mem_ord' (List.mem_of_getElem? hz21))
   refine c_recv H 0 Z Z Z Z underlying75 zeroValue58 ?_;intro _ H
   refine RC_l Z (pe 1 Z ?_)
   refine R_nil (N_C ?_)
   refine RC_nil (N_K (W_seq (W_true Z (W_skip (N_K (W_block (q2 (pe 1 Z (xal H Z ?_)))))))));intro _ _ _ H
   refine xst 0 H Z8 ?_;intro _ H
   refine q1 (mV Z (lA 0 4 H Z4 ?_))
   have H:=H.tF 6
   have H:=H.tF 6
   have H:=H.tF 6
   have H:=H.tF 6
   have H:=H.tF 6
   refine xc Z2 (i_makePart_c _ _ H.sub _ _ _ _ _ _ _ _ _ _ _ _ hmL hSL hNL hTL hchkL hNsL hSnL hdvL _ z21 ⟨_,_,_,Z,⟨by first|omega|(dsimp only;omega),by first|omega|(dsimp only;omega)⟩,hi21,hr21⟩ H.lent5 hoz21) ?_
   rintro _ _ ⟨_,_,_,rfl,H26',⟨_,_,xs26,_,T26,_,sn26,_,_,_,rfl,rfl,hm26,hS26,_,hN26,hchk26,hNs26,hd26⟩⟩
   have hcv:=hcv.up H26'.le
   have hle20:=hle20.trans H26'.le
   have H:=H.borrow5 H26'
   obtain⟨avAd,cvAd,rfl⟩:=H.accShape (k:=3) rfl
   refine⟨_,Z,?_⟩
   refine pe 1 Z (q3 ?_)
   refine W_cond Z ?_ ?_
   ·intro hc27
    try simp only[nrm]at hc27
    refine q2 (o_build bf27 Z Z Z (xst 7 H Z8 ?_));intro _ H
    refine aG Z (q3 (W_ret (N_B_ret (N_LP_ret (N_B_ret (N_K_ret (ret_gen (rs:=[.cell 4 27,.tmp 5]) (vs:=[_,_]) results11 ⟨⟨_,Z,load_blk 7 H isAgg27 sizeOf27 Z Z Z⟩,Z,trivial⟩ ?_)))))))
    have H:=H.sel [] rfl
    have hno:Sp.StreamRun d list=none:=Sp.ord_no hdv4 hJ hz21 (by simpa using hc27)
    have H:=(((H.addF).addF).addF).forget hG (by simp)
    exact⟨_,_,rfl,H,.slice none 0 0,.slice none 0 0,.slice none 0 0,[],[],[],(by rw[hno];rfl),rfl,(by rw[hno];exact oh_nil),(by rw[hno];exact oi_nil),(by rw[hno];exact os_nil)⟩
   intro hc27'
   try simp only[nrm]at hc27'
   refine W_skip (N_B ?_)
   obtain⟨d2,hd2⟩:=Option.isSome_iff_exists.1 (show(Sp.mkPart dn z21).isSome=true by simpa using hc27')
   obtain⟨hL2,hT2,hsn2⟩:=hd26 d2 hd2;subst hL2
   have H:=H.sel [6,0,1,2,3,4,7] rfl
   refine N_lp (hJ:=⟨k+1,_,_,_,d2,_,_,xs26,T26,_,_,_,sn26,_,_,_,Z,hle20,H,?inv,Z⟩) (hm:=?hm)
   case hm=>have:=(List.getElem?_eq_some_iff.1 hz21).1;omega
   case inv=>exact⟨(by have:=(List.getElem?_eq_some_iff.1 hz21).1;omega),hcv,Sp.foldB_succ hJ hz21 hd2,hm26,hS26,hN26,hT2,hchk26,hNs26,hsn2,(Sp.mk_valid hdvL hd2).1⟩
theorem l6In_c (w0:World)(n:Int)(lo:Int)(hi:Int) :
  Calls Tryz.prog 87 #[.int .i64 n,.int .i64 lo,.int .i64 hi] w0 (Rets w0 (.bool (Sp.l6In n lo hi))):=by
 have H:=Hp.init0 w0
 refine calls_of_W (l:=[.int .i64 n,.int .i64 lo,.int .i64 hi]) func87 Z ntmps87 Z (q2 (aG Z (q1 (pe 4 Z ?_))))
 refine R_case (t:=10) Z ?_ ?_
 ·intro hc1
  try simp only[nrm]at hc1
  refine pe 5 Z (q3 (W_ret (rt1 results87 Z ?_)))
  exact H.rets (congrArg Value.bool (by unfold Sp.l6In;rw[Bool.eq_iff_iff];simp;omega))
 intro hc1'
 try simp only[nrm]at hc1'
 refine pe 5 Z (q3 (W_ret (rt1 results87 Z ?_)))
 exact H.rets (congrArg Value.bool (by unfold Sp.l6In;rw[Bool.eq_iff_iff];simp;omega))
theorem l1Word_c (w0:World)(s:Bs)(hs:s.length≤16777216) :
  Calls Tryz.prog 93 #[str s] w0 (Rets w0 (.bool (Sp.l1Word s))):=by
 have H:=Hp.init0 w0
 refine calls_of_W (l:=[str s]) func93 Z ntmps93 Z (q2 (aG Z (q3 (W_seq (q2 (aG Z (q3 (W_block ?_))))))))
 refine W_lp (hf:=(Sub.cons (t:=0) Z Sub.nil)) (J:=fun M w m=>∃(k:Nat) (G:PH),M=[(3,.int .i64 (k:Int))]∧PLe (fun _=>none) G∧Hp w0 (fun _=>none) [] w G []∧(k≤s.length∧(s.take k).all Sp.low=true)∧m=(s.length-k)) (h0:=⟨0,_,Z,PLe.refl _,H,?inv,Z⟩) (round:=?round)
 case inv=>exact⟨by omega,by simp⟩
 case round =>
  rintro _ _ _ ⟨k,_,rfl,hle1,H,hinv1,rfl⟩
  obtain⟨_,hall⟩:=hinv1
  refine W_seq (q2 (pe 2 Z (lS Z (pe 1 Z (q3 ?_)))))
  refine W_cond Z ?_ ?_
  ·intro hc2
   try simp only[nrm]at hc2
   refine W_skip (N_K (W_seq (W_block (q2 (pe 2 Z (o_index_str underlying9 Z Z Z Z oM ?_))))));intro ch3 hch3;have hlt3:=ch3.toNat_lt
   refine pe 2 Z ?_
   refine R_case (t:=14) Z ?_ ?_
   ·intro hc4
    try simp only[nrm]at hc4
    refine pe 5 Z (q3 (W_true Z (q2 (aG Z (q3 (W_ret (N_B_ret (N_K_ret (N_LP_ret (N_B_ret (N_K_ret (rt1 results93 Z ?_))))))))))))
    exact H.rets (congrArg Value.bool (by rw[Sp.l1Word,Sp.all_false hch3 (by simp[Sp.low];omega)];rfl))
   intro hc4'
   try simp only[nrm]at hc4'
   refine pe 2 Z (gR Z (o_index_str underlying9 Z Z Z Z oM ?_));intro ch5 hch5;have hlt5:=ch5.toNat_lt
   obtain rfl:ch5=ch3:=Option.some.inj (hch5.symm.trans hch3)
   refine pe 2 Z (q3 ?_)
   refine W_cond Z ?_ ?_
   ·intro hc6
    try simp only[nrm]at hc6
    refine q2 (aG Z (q3 (W_ret (N_B_ret (N_K_ret (N_LP_ret (N_B_ret (N_K_ret (rt1 results93 Z ?_)))))))))
    exact H.rets (congrArg Value.bool (by rw[Sp.l1Word,Sp.all_false hch5 (by simp[Sp.low];omega)];rfl))
   intro hc6'
   try simp only[nrm]at hc6'
   refine W_skip (N_B (N_K (W_region (mV Z (aD Z2 (aG Z (R_nil ?_)))))))
   refine N_lp (hJ:=⟨k+1,_,Z,hle1,H,?inv,Z⟩) (hm:=?hm)
   case hm=>omega
   case inv=>exact⟨by omega,Sp.all_take hall hch5 (by simp[Sp.low];omega)⟩
  intro hc2'
  try simp only[nrm]at hc2'
  refine W_exit (N_K_exit (N_LP_exit (N_B_same (N_K (q2 (mV Z (lS Z (xr H Z2 (l6In_c _ _ _ _) ?_))))))));intro _ H
  refine aG Z (q3 (W_ret (rt1 results93 Z ?_)))
  obtain rfl:k=s.length:=by omega
  rw[List.take_length]at hall
  exact H.rets (congrArg Value.bool (by simp only[Sp.l1Word,Sp.l6In,hall];rw[Bool.eq_iff_iff];simp;omega))
theorem l1Cut_c (w0:World)(G0:PH)(hG:PSub G0 w0)(s:Bs)(hs:s.length≤16777216) :
  Calls Tryz.prog 158 #[str s] w0 (RetP w0 G0 (fun G v=>RdT G v (Sp.cut s))):=by
 have H:=Hp.init hG
 refine calls_of_W (l:=[str s]) func158 Z ntmps158 Z (q2 (aG Z (q1 (xbs H Z7 ?_))));intro _ _ _ H
 have H:=H.blkAcc 1 (k:=0) (n:=0) rfl rfl (by decide)
 refine aG Z (q1 (aG Z (q3 (W_seq (q2 (aG Z (q3 (W_block ?_))))))))
 refine W_lp (hf:=(Sub.cons (t:=0) Z (Sub.cons (t:=2) Z Sub.nil))) (J:=fun M w m=>∃(v:Value) (n:Nat) (cs:List Value) (xs:List (Bs)) (f k:Nat) (G:PH),M=[(4,.int .i64 (f:Int)),(5,.int .i64 (k:Int)),(3,v)]∧PLe G0 G∧Hp w0 G0 [] w G [acc 9 1 v n cs]∧(Chk strE 1 G cs xs∧n=xs.length∧f≤k∧k≤s.length∧xs.length≤k∧xs++Sp.cut (s.drop f)=Sp.cut s∧∀j,f≤j→j<k→s[j]? ≠ some 47)∧m=(s.length-k)) (h0:=⟨_,_,_,[],0,0,_,Z,PLe.refl _,H,?inv,Z⟩) (round:=?round)
 case inv=>exact⟨(Chk.nil (E:=strE) (sz:=1) (G:=G0)),by first|rfl|simp|(simp;omega)|omega,(by simp)⟩
 case round =>
  rintro _ _ _ ⟨v,n,cs,xs,f,k,_,rfl,hle2,H,hinv2,rfl⟩
  obtain⟨hchk2_0,_,hinv2⟩:=hinv2
  obtain⟨_,_,rfl⟩:=H.accShape (k:=0) rfl
  obtain⟨h1,_,_,h4,h5⟩:=hinv2
  refine W_seq (q2 (pe 2 Z (lS Z (pe 1 Z (q3 ?_)))))
  refine W_cond Z ?_ ?_
  ·intro hc3
   try simp only[nrm]at hc3
   refine W_skip (N_K (W_seq (W_block (q2 (pe 2 Z (o_index_str underlying9 Z Z Z Z oM ?_))))));intro ch4 hch4;have hlt4:=ch4.toNat_lt
   refine pe 1 Z (q3 ?_)
   refine W_cond Z ?_ ?_
   ·intro hc5
    try simp only[nrm]at hc5
    refine q2 (pe 4 Z (o_slice_str underlying9 Z Z Z Z oM oM oM (xbs H Z7 ?_)));intro _ _ _ H
    refine o_append1 0 H (sz:=1) (bytes:=16) underlying94 typeInfo9 ⟨_,Z,Z⟩ Z Z Z Z Z Z Z Z Z Z oM Z ?_;intro _ _ H
    have hchk8:=hchk2_0.snoc (show strE _ ((s.drop f).take (k-f)) _ from⟨rfl,(by (first|assumption|(refine Sp.l5Parent_lim ?_;assumption)|(simp;done)|(simp;omega)|omega))⟩) rfl
    obtain⟨_,_,rfl⟩:=H.accShape (k:=0) rfl
    refine aG Z (q3 (W_region (mV Z (aD Z2 (aG Z (R_nil (N_B (N_K (W_region (mV Z (aD Z2 (aG Z (R_nil ?_)))))))))))))
    refine N_lp (hJ:=⟨_,_,_,(xs++[((s.drop f).take (k-f))]),k+1,k+1,_,Z,hle2,H,?inv,Z⟩) (hm:=?hm)
    case hm=>omega
    case inv=>exact⟨hchk8,aN,(by exact⟨by omega,by omega,by simp;omega,Sp.cut_step h4 h1 (hch4▸congrArg some (Sp.is47 oM)) h5,fun j g1 g2=>by omega⟩)⟩
   intro hc5'
   try simp only[nrm]at hc5'
   refine W_skip (N_B (N_K (W_region (mV Z (aD Z2 (aG Z (R_nil ?_)))))))
   refine N_lp (hJ:=⟨_,_,_,xs,f,k+1,_,Z,hle2,H,?inv,Z⟩) (hm:=?hm)
   case hm=>omega
   case inv=>exact⟨hchk2_0,aN,(by exact⟨by omega,by omega,by omega,h4,Sp.noslash_succ h5 (hch4▸Sp.not47 oM)⟩)⟩
  intro hc3'
  try simp only[nrm]at hc3'
  refine W_exit (N_K_exit (N_LP_exit (N_B_same (N_K (q2 (pe 3 Z (o_slice_str_from underlying9 Z Z Z oM oM (xbs H Z7 ?_))))))));intro _ _ _ H
  refine o_append1 0 H (sz:=1) (bytes:=16) underlying94 typeInfo9 ⟨_,Z,Z⟩ Z Z Z Z Z Z Z Z Z Z oM Z ?_;intro _ _ H
  have hchk14:=hchk2_0.snoc (show strE _ (s.drop f) _ from⟨rfl,(by (first|assumption|(refine Sp.l5Parent_lim ?_;assumption)|(simp;done)|(simp;omega)|omega))⟩) rfl
  obtain⟨_,_,rfl⟩:=H.accShape (k:=0) rfl
  refine aG Z (q3 (W_ret (rt1 results158 Z ?_)))
  obtain⟨_,H,hsg515,hsr515⟩:=H.shut' (k:=0) rfl hchk14 aN aN
  exact H.retP (by rw[←Sp.cut_end h4 h5 oM];exact hsr515)
theorem PathValid_c (w0:World)(G0:PH)(hG:PSub G0 w0)(path:Bs)(hpath:path.length≤16777216) :
  Calls Tryz.prog 122 #[str path] w0 (Rets w0 (.bool (Sp.PathValid path))):=by
 have H:=Hp.init hG
 refine calls_of_W (l:=[str path]) func122 Z ntmps122 Z (q2 (aG Z (q1 (mV Z (xc Z2 (l1Cut_c _ _ H.sub _ hpath) ?_)))))
 rintro _ _ ⟨G1,_,g1,rfl,hr1_0⟩
 have H:=H.grow g1
 obtain⟨_,_,rfl⟩:=hr1_0.shape;have hx_hr1_0:_≤1099511627776:=hr1_0.lim
 refine⟨_,Z,?_⟩
 refine aG Z (q3 (W_seq (q2 (aG Z (q3 (W_block ?_))))))
 refine W_lp (hf:=(Sub.cons (t:=3) Z Sub.nil)) (J:=fun M w m=>∃(k:Nat) (G:PH),M=[(4,.int .i64 (k:Int))]∧PLe G1 G∧Hp w0 G0 [] w G []∧(k≤(Sp.cut path).length∧((Sp.cut path).take k).all Sp.l1Word=true)∧m=((Sp.cut path).length-k)) (h0:=⟨0,_,Z,PLe.refl _,H,?inv,Z⟩) (round:=?round)
 case inv=>simp
 case round =>
  rintro _ _ _ ⟨k,_,rfl,hle2,H,hinv2,rfl⟩
  have hr1_0:=hr1_0.up hle2
  obtain⟨_,hall⟩:=hinv2
  refine W_seq (q2 (pe 2 Z (lN Z (pe 1 Z (q3 ?_)))))
  refine W_cond Z ?_ ?_
  ·intro hc3
   try simp only[nrm]at hc3
   refine W_skip (N_K (W_seq (W_block (q2 (pe 2 Z (iP k hr1_0 Z3 Z ?_))))));intro _ _ _ _ hz4 hE4 hrow4
   obtain⟨rfl,hi4⟩:=hE4;have hy_hi4:_≤16777216:=hi4
   refine lP H hrow4 0 Z2 (xr H Z2 (l1Word_c _ _ hi4) ?_);intro _ H
   refine pe 1 Z (q3 ?_)
   refine W_cond Z ?_ ?_
   ·intro hc6
    try simp only[nrm]at hc6
    refine q2 (aG Z (q3 (W_ret (N_B_ret (N_K_ret (N_LP_ret (N_B_ret (N_K_ret (rt1 results122 Z ?_)))))))))
    exact H.rets (congrArg Value.bool (by rw[Sp.PathValid,Sp.all_false hz4 hc6];rfl))
   intro hc6'
   try simp only[nrm]at hc6'
   refine W_skip (N_B (N_K (W_region (mV Z (aD Z2 (aG Z (R_nil ?_)))))))
   refine N_lp (hJ:=⟨k+1,_,Z,hle2,H,?inv,Z⟩) (hm:=?hm)
   case hm=>omega
   case inv=>exact⟨by omega,Sp.all_take hall hz4 hc6'⟩
  intro hc3'
  try simp only[nrm]at hc3'
  refine W_exit (N_K_exit (N_LP_exit (N_B_same (N_K (q2 (mV Z (lN Z (pe 2 Z (q3 (W_ret (rt1 results122 Z ?_)))))))))))
  obtain rfl:k=(Sp.cut path).length:=by omega
  rw[List.take_length]at hall
  exact H.rets (congrArg Value.bool (by simp only[Sp.PathValid,hall,Bool.true_and];rw[Bool.eq_iff_iff];simp;omega))
theorem l1Last_c (w0:World)(path:Bs)(hpath:path.length≤16777216) :
  Calls Tryz.prog 159 #[str path] w0 (Rets w0 (.int .i64 (Sp.l1Last path))):=by
 have H:=Hp.init0 w0
 refine calls_of_W (l:=[str path]) func159 Z ntmps159 Z (q2 (aG Z (q1 (aG Z (q3 (W_seq (q2 (aG Z (q3 (W_block ?_))))))))))
 refine W_lp (hf:=(Sub.cons (t:=0) Z (Sub.cons (t:=2) Z Sub.nil))) (J:=fun M w m=>∃(k:Nat) (o:Option Nat) (G:PH),M=[(3,.int .i64 (Sp.optI o)),(4,.int .i64 (k:Int))]∧PLe (fun _=>none) G∧Hp w0 (fun _=>none) [] w G []∧(k≤path.length∧o=(List.range k).foldl (Sp.lastF path) none)∧m=(path.length-k)) (h0:=⟨0,none,_,Z,PLe.refl _,H,?inv,Z⟩) (round:=?round)
 case inv=>exact⟨by omega,rfl⟩
 case round =>
  rintro _ _ _ ⟨k,o,_,rfl,hle1,H,hinv1,rfl⟩
  obtain⟨_,hall⟩:=hinv1
  refine W_seq (q2 (pe 2 Z (lS Z (pe 1 Z (q3 ?_)))))
  refine W_cond Z ?_ ?_
  ·intro hc2
   try simp only[nrm]at hc2
   refine W_skip (N_K (W_seq (W_block (q2 (pe 2 Z (o_index_str underlying9 Z Z Z Z oM ?_))))));intro ch3 hch3;have hlt3:=ch3.toNat_lt
   refine pe 1 Z (q3 ?_)
   refine W_cond Z ?_ ?_
   ·intro hc4
    try simp only[nrm]at hc4
    refine W_region (pe 2 Z (R_nil (N_B (N_K (W_region (mV Z (aD Z2 (aG Z (R_nil ?_)))))))))
    refine N_lp (hJ:=⟨k+1,some k,_,Z,hle1,H,?inv,Z⟩) (hm:=?hm)
    case hm=>omega
    case inv=>exact⟨by omega,by rw[Sp.last_succ,←hall,Sp.lastF,hch3,if_pos (congrArg some (Sp.is47 oM))]⟩
   intro hc4'
   try simp only[nrm]at hc4'
   refine W_skip (N_B (N_K (W_region (mV Z (aD Z2 (aG Z (R_nil ?_)))))))
   refine N_lp (hJ:=⟨k+1,o,_,Z,hle1,H,?inv,Z⟩) (hm:=?hm)
   case hm=>omega
   case inv=>exact⟨by omega,by rw[Sp.last_succ,←hall,Sp.lastF,hch3,if_neg (Sp.not47 oM)]⟩
  intro hc2'
  try simp only[nrm]at hc2'
  refine W_exit (N_K_exit (N_LP_exit (N_B_same (N_K (q2 (pe 2 Z (q3 (W_ret (rt1 results159 Z ?_)))))))))
  obtain rfl:k=path.length:=by omega
  exact H.rets (congrArg (Value.int .i64) (by rw[hall];rfl))
theorem l5Parent_c (w0:World)(path:Bs)(hpath:path.length≤16777216) :
  Calls Tryz.prog 123 #[str path] w0 (Rets w0 (str (Sp.l5Parent path))):=by
 have hl:=Sp.l1Last_le path
 have H:=Hp.init0 w0
 refine calls_of_W (l:=[str path]) func123 Z ntmps123 Z (q2 (aG Z (q1 (pe 2 Z (xr H Z2 (l1Last_c _ _ hpath) ?_)))));intro _ H
 refine o_max Z Z Z (o_slice_str_to underlying9 Z Z Z oM oM (aG Z (q3 (W_ret (rt1 results123 Z ?_)))))
 exact H.rets Z
theorem l5At_c (w0:World)(G0:PH)(hG:PSub G0 w0)(vlist:Value)(list:List (BItem))(hlist:RdItems G0 vlist list)(path:Bs)(hpath:path.length≤16777216) :
  Calls Tryz.prog 124 #[vlist,str path] w0 (Rets w0 (.int .i64 (Sp.l5At list path))):=by
 obtain⟨alist,klist,rfl⟩:=hlist.shape
 have hlimlist:list.length≤1099511627776:=hlist.lim
 have H:=Hp.init hG
 refine calls_of_W (l:=[.slice alist list.length klist,str path]) func124 Z ntmps124 Z (q2 (aG Z (q3 (W_seq (q2 (aG Z (q3 (W_block ?_))))))))
 refine W_lp (hf:=(Sub.cons (t:=0) Z (Sub.cons (t:=1) Z Sub.nil))) (J:=fun M w m=>∃(k:Nat) (G:PH),M=[(5,.int .i64 (k:Int))]∧PLe G0 G∧Hp w0 G0 [] w G []∧(k≤list.length∧(∀j,j<k→∀y,list[j]? = some y→decide (y.path=path)=false))∧m=(list.length-k)) (h0:=⟨0,_,Z,PLe.refl _,H,?inv,Z⟩) (round:=?round)
 case inv=>exact⟨by omega,fun j hj=>by omega⟩
 case round =>
  rintro _ _ _ ⟨k,_,rfl,hle1,H,hinv1,rfl⟩
  have hlist:=hlist.up hle1
  obtain⟨_,hall⟩:=hinv1
  refine W_seq (q2 (pe 2 Z (lN Z (pe 1 Z (q3 ?_)))))
  refine W_cond Z ?_ ?_
  ·intro hc2
   try simp only[nrm]at hc2
   refine W_skip (N_K (W_seq (W_block (q2 (pe 2 Z (iP k hlist Z3 Z ?_))))));intro _ _ _ _ hz3 hE3 hrow3
   obtain⟨_,_,_,rfl,_,_,_,_⟩:=ox hE3
   refine fA 0 Z (lP H hrow3 0 Z2 (mV Z (o_seql Z Z Z (q3 ?_))))
   refine W_cond Z ?_ ?_
   ·intro hc4
    try simp only[nrm]at hc4
    refine q2 (pe 2 Z (q3 (W_ret (N_B_ret (N_K_ret (N_LP_ret (N_B_ret (N_K_ret (rt1 results124 Z ?_)))))))))
    exact H.rets (congrArg (Value.int .i64) (by rw[Sp.l5At,Sp.atI,Sp.find_at hall hz3 (by simp;exact hc4)];rfl))
   intro hc4'
   try simp only[nrm]at hc4'
   refine W_skip (N_B (N_K (W_region (mV Z (aD Z2 (aG Z (R_nil ?_)))))))
   refine N_lp (hJ:=⟨k+1,_,Z,hle1,H,?inv,Z⟩) (hm:=?hm)
   case hm=>omega
   case inv=>exact⟨by omega,Sp.none_succ hall hz3 (by simp;exact hc4')⟩
  intro hc2'
  try simp only[nrm]at hc2'
  refine W_exit (N_K_exit (N_LP_exit (N_B_same (N_K (q2 (aG Z (q3 (W_ret (rt1 results124 Z ?_)))))))))
  exact H.rets (congrArg (Value.int .i64) (by rw[Sp.l5At,Sp.atI,Sp.find_none hall oM];rfl))
theorem l5Home_c (w0:World)(G0:PH)(hG:PSub G0 w0)(vlist:Value)(list:List (BItem))(hlist:RdItems G0 vlist list)(path:Bs)(hpath:path.length≤16777216) :
  Calls Tryz.prog 91 #[vlist,str path] w0 (Rets w0 (.bool (Sp.l5Home list path))):=by
 obtain⟨alist,klist,rfl⟩:=hlist.shape
 have hlimlist:list.length≤1099511627776:=hlist.lim
 have H:=Hp.init hG
 refine calls_of_W (l:=[.slice alist list.length klist,str path]) func91 Z ntmps91 Z (q2 (aG Z (q1 (mV Z (xr H Z2 (l5Parent_c _ _ hpath) ?_)))));intro _ H
 refine aG Z (q1 (pe 2 Z ?_))
 refine xr H Z2 (l5At_c _ _ H.sub _ _ hlist _ (by (first|assumption|(refine Sp.l5Parent_lim ?_;assumption)|(simp;done)|(simp;omega)|omega))) ?_;intro _ H
 refine aG Z (q1 (mV Z (o_seql Z Z Z (mV Z ?_))))
 refine R_case (t:=14) Z ?_ ?_
 ·intro hc3
  try simp only[nrm]at hc3
  refine pe 3 Z (R_pass Z (yl_un Z Z) (R_pass Z (yl_un Z Z) (R_pass Z (yl_un Z Z) (R_pass Z (yl_un Z Z) (R_pass Z (yl_un Z Z) (pe 3 Z (q3 (W_ret (rt1 results91 Z ?_)))))))))
  exact H.rets (congrArg Value.bool (by simp[Sp.l5Home,hc3]))
 intro hc3'
 try simp only[nrm]at hc3'
 refine pe 3 Z ?_
 refine R_case (t:=17) Z ?_ ?_
 ·intro hc4
  try simp only[nrm]at hc4
  obtain⟨i,_,hi1,hi2,_,_,hi5⟩:=Sp.at_nat hc4
  refine pe 2 Z (gR Z (iP i hlist Z3 hi2 ?_));intro _ _ _ _ hz5 hE5 hrow5
  obtain⟨_,_,_,rfl,hi5,_,_,_⟩:=ox hE5
  refine gR Z (fA 1 Z (gR Z (lP H hrow5 1 Z2 (pe 3 Z (q3 (W_ret (rt1 results91 Z ?_)))))))
  exact H.rets (congrArg Value.bool (by simp[Sp.l5Home,hc3',Sp.atI,hi1,hz5]))
 intro hc4'
 try simp only[nrm]at hc4'
 refine pe 8 Z (q3 (W_ret (rt1 results91 Z ?_)))
 exact H.rets (congrArg Value.bool (by simp[Sp.l5Home,hc3',Sp.atI,Sp.at_none hc4']))
theorem l5Item_c (w0:World)(G0:PH)(hG:PSub G0 w0)(cx:List Value)(x:BItem)(hx:itemE G0 x cx) :
  Calls Tryz.prog 90 #[.agg cx.toArray] w0 (Rets w0 (.bool (Sp.l5Item x))):=by
 obtain⟨_,_,_,rfl,hi1,hr1,_,_⟩:=ox hx
 have H:=Hp.init hG
 refine calls_of_W (l:=[_]) func90 Z ntmps90 Z (q2 (o_box H Z Z Z ?_));intro b2 _ _ H
 refine aG Z (q3 (W_seq (q2 (aG Z (q3 (W_block ?_))))))
 obtain⟨ln3,hln3,H⟩:=H.name (k:=0) rfl
 refine W_lp (hf:=(Sub.cons (t:=1) Z Sub.nil)) (J:=fun M w m=>∃(k:Nat) (G:PH),M=[(3,.int .i64 (k:Int))]∧PLe G0 G∧Hp w0 G0 [] w G [blk b2 (cl ln3 66)]∧(k≤x.ids.length∧(x.ids.take k).all (Sp.idOk x.dir)=true)∧m=(x.ids.length-k)) (h0:=⟨0,_,Z,PLe.refl _,H,?inv,Z⟩) (round:=?round)
 case inv=>exact⟨by omega,by simp⟩
 case round =>
  rintro _ _ _ ⟨k,_,rfl,hle4,H,hinv4,rfl⟩
  subst hln3
  have hr1:=hr1.up hle4
  obtain⟨_,hall⟩:=hinv4
  refine W_seq (q2 (mV Z (fA 2 Z (lB 0 H Z3 (lN Z (pe 1 Z (q3 ?_)))))))
  refine W_cond Z ?_ ?_
  ·intro hc5
   try simp only[nrm]at hc5
   refine W_skip (N_K (W_seq (W_block (q2 (fA 1 Z (lB 0 H Z3 (mV Z ?_)))))))
   refine R_case (t:=13) Z ?_ ?_
   ·intro hc6
    try simp only[nrm]at hc6
    refine pe 8 Z (q3 (W_true Z (q2 (aG Z (q3 (W_ret (N_B_ret (N_K_ret (N_LP_ret (N_B_ret (N_K_ret (rt1 results90 Z ?_))))))))))))
    exact H.rets (congrArg Value.bool (by rw[Sp.l5Item,Sp.all_false (c:=x.ids[k]) (List.getElem?_eq_getElem oM) (by simp[Sp.idOk,hc6])];rfl))
   intro hc6'
   try simp only[nrm]at hc6'
   refine gR Z (fA 2 Z (gR Z (lB 0 H Z3 (pe 1 Z (gR Z (iP k hr1 Z3 Z ?_))))));intro _ _ _ _ hz7 hE7 hrow7
   obtain⟨rfl,_⟩:=hE7
   refine gR Z (lP H hrow7 0 Z2 (gR Z (xr H Z2 (l6In_c _ _ _ _) ?_)));intro _ H
   refine pe 2 Z (q3 ?_)
   refine W_cond Z ?_ ?_
   ·intro hc9
    try simp only[nrm]at hc9
    refine q2 (aG Z (q3 (W_ret (N_B_ret (N_K_ret (N_LP_ret (N_B_ret (N_K_ret (rt1 results90 Z ?_)))))))))
    exact H.rets (congrArg Value.bool (by rw[Sp.l5Item,Sp.all_false hz7 (by simp[Sp.idOk, *])];rfl))
   intro hc9'
   try simp only[nrm]at hc9'
   refine W_skip (N_B (N_K (W_region (mV Z (aD Z2 (aG Z (R_nil ?_)))))))
   refine N_lp (hJ:=⟨k+1,_,Z,hle4,H,?inv,Z⟩) (hm:=?hm)
   case hm=>omega
   case inv=>exact⟨by omega,Sp.all_take hall hz7 (by simp[Sp.idOk, *])⟩
  intro hc5'
  try simp only[nrm]at hc5'
  refine W_exit (N_K_exit (N_LP_exit (N_B_same (N_K (q2 (fA 0 Z (lB 0 H Z3 (xr H Z2 (PathValid_c _ _ H.sub _ hi1) ?_))))))));intro _ H
  refine mV Z ?_
  refine R_case (t:=25) Z ?_ ?_
  ·intro hc12
   try simp only[nrm]at hc12
   refine gR Z (fA 2 Z (gR Z (lB 0 H Z3 (gR Z (lN Z (pe 3 Z (q3 (W_ret (rt1 results90 Z ?_)))))))))
   obtain rfl:k=x.ids.length:=by omega
   rw[List.take_length]at hall
   exact H.rets (congrArg Value.bool (by simp only[Sp.l5Item,hall,hc12,Bool.true_and];rw[Bool.eq_iff_iff];simp;omega))
  intro hc12'
  try simp only[nrm]at hc12'
  refine pe 6 Z (q3 (W_ret (rt1 results90 Z ?_)))
  exact H.rets (congrArg Value.bool (by simp[Sp.l5Item,hc12']))
theorem TreeValid_c (w0:World)(G0:PH)(hG:PSub G0 w0)(vlist:Value)(list:List (BItem))(hlist:RdItems G0 vlist list) :
  Calls Tryz.prog 55 #[vlist] w0 (Rets w0 (.bool (Sp.TreeValid list))):=by
 obtain⟨alist,klist,rfl⟩:=hlist.shape
 have hlimlist:list.length≤1099511627776:=hlist.lim
 have H:=Hp.init hG
 refine calls_of_W (l:=[.slice alist list.length klist]) func55 Z ntmps55 Z (q2 (aG Z (q3 (W_seq (q2 (aG Z (q3 (W_block ?_))))))))
 refine W_lp (hf:=(Sub.cons (t:=0) Z Sub.nil)) (J:=fun M w m=>∃(k:Nat) (G:PH),M=[(3,.int .i64 (k:Int))]∧PLe G0 G∧Hp w0 G0 [] w G []∧(k≤list.length∧∀j,j<k→Sp.okT list j=true)∧m=(list.length-k)) (h0:=⟨0,_,Z,PLe.refl _,H,?inv,Z⟩) (round:=?round)
 case inv=>exact⟨by omega,fun j hj=>by omega⟩
 case round =>
  rintro _ _ _ ⟨k,G1,rfl,hle1,H,hinv1,rfl⟩
  have hlist:=hlist.up hle1
  obtain⟨_,hall⟩:=hinv1
  refine W_seq (q2 (pe 2 Z (lN Z (pe 1 Z (q3 ?_)))))
  refine W_cond Z ?_ ?_
  ·intro hc2
   try simp only[nrm]at hc2
   refine W_skip (N_K (W_seq (W_block (W_seq (W_drawK [] 34 H kR Z ?_)))));intro _ H;have hd3:=PLe.refl G1
   refine dE 0 Z2 (dE 1 Z2 ?_)
   have hl4:=hlist.len
   obtain⟨_,_,z4,q4,ha4,hz4,hq4,hE4,hrow4,_⟩:=hlist.at (i:=k) oM
   clear hq4
   obtain⟨_,_,_,rfl,hi4,hr4,_,_⟩:=ox hE4
   refine dI 2 3 k ha4 Z3 Z (RD_t 3 Z kR Z (fun _ hK=>v_loadagg_P hK isAgg66 sizeOf66 Z hrow4 Z) (r1 4 Z (xr H Z2 (l5Item_c _ _ H.sub _ _ ⟨_,_,_,Z,hi4,hr4⟩) ?_)));intro _ H
   refine q4 H hd3 (dE 5 Z2 (dE 6 Z2 ?_))
   refine RD_case (t:=16) Z ?_ ?_
   ·intro hc6
    try simp only[nrm]at hc6
    refine dE 7 Z2 (dE 8 Z2 (dE 9 Z2 (RD_pass 10 Z kR kR kR Z (yl_un Z Z) (RD_pass 11 Z kR kR kR Z (yl_un Z Z) (RD_pass 12 Z kR kR kR Z (yl_un Z Z) (RD_pass 13 Z kR kR kR Z (yl_un Z Z) (RD_pass 14 Z kR kR kR Z (yl_un Z Z) (RD_pass 15 Z kR kR kR Z (yl_un Z Z) (RD_pass 16 Z kR kR kR Z (yl_un Z Z) (RD_pass 17 Z kR kR kR Z (yl_un Z Z) (RD_pass 18 Z kR kR kR Z (yl_un Z Z) (RD_pass 19 Z kR kR kR Z (yl_un Z Z) (RD_pass 20 Z kR kR kR Z (yl_un Z Z) (RD_pass 21 Z kR kR kR Z (yl_un Z Z) (dE 22 Z2 ?_)))))))))))))))
    refine dE 23 Z2 (dE 24 Z2 (dE 25 Z2 (dE 26 Z2 (dE 27 Z2 (dE 28 Z2 (dE 29 Z2 (dE 30 Z2 (dE 31 Z2 (dE 32 Z2 (dE 33 Z2 (rz (N_K (W_true Z (q2 (aG Z ?_)))))))))))))))
    refine q3 (W_ret (N_B_ret (N_K_ret (N_LP_ret (N_B_ret (N_K_ret (rt1 results55 Z ?_)))))))
    exact H.rets (congrArg Value.bool (by rw[Sp.TreeValid,Sp.not_all_range (k:=k) oM (by rw[Sp.okT_at hz4];simp[Sp.prevLt, *])];rfl))
   intro hc6'
   try simp only[nrm]at hc6'
   refine dE 7 Z2 (dE 8 Z2 (dE 9 Z2 ?_))
   refine RD_case (t:=19) Z ?_ ?_
   ·intro hc7
    try simp only[nrm]at hc7
    have hk0:k≠0:=by omega
    refine dE 10 Z2 (dE 11 Z2 (RD_tg 12 Z kR Z (yl Z Z) (fun _ hK=>v_sub Z Z oO) ?_))
    have hl9:=hlist.len
    obtain⟨_,_,_,_,ha9,_,hq9,hE9,hrow9,_⟩:=hlist.at (i:=(k-1)) oM
    clear hq9
    obtain⟨_,_,_,rfl,_,_,_,_⟩:=ox hE9
    refine dI 13 3 (k-1) ha9 Z3 oM (dF 14 0 Z2 (dP 15 hrow9 0 Z3 (dE 16 Z2 (dE 17 Z2 ?_))))
    have hl10:=hlist.len
    obtain⟨_,_,z10,_,ha10,hz10,hq10,hE10,hrow10,_⟩:=hlist.at (i:=k) oM
    clear hq10
    obtain⟨_,_,_,rfl,_,_,_,_⟩:=ox hE10
    have hzz10:z4=z10:=Option.some.inj (hz4.symm.trans hz10)
    subst hzz10
    refine dI 18 3 k ha10 Z3 Z (dF 19 0 Z2 (dP 20 hrow10 0 Z3 (RD_tg 21 Z kR Z (yl Z Z) (fun _ hK=>v_sgeq Z Z) (dE 22 Z2 (dE 23 Z2 (dE 24 Z2 ?_))))))
    refine RD_case (t:=34) Z ?_ ?_
    ·intro hc11
     try simp only[nrm]at hc11
     refine dE 25 Z2 (dE 26 Z2 (dE 27 Z2 (dE 28 Z2 (dE 29 Z2 (dE 30 Z2 (dE 31 Z2 (dE 32 Z2 (dE 33 Z2 (rz (N_K (W_true Z (q2 (aG Z (q3 (W_ret ?_)))))))))))))))
     refine N_B_ret (N_K_ret (N_LP_ret (N_B_ret (N_K_ret (rt1 results55 Z ?_)))))
     exact H.rets (congrArg Value.bool (by rw[Sp.TreeValid,Sp.not_all_range (k:=k) oM (by rw[Sp.okT_at hz4];simp[Sp.prevLt, *])];rfl))
    intro hc11'
    try simp only[nrm]at hc11'
    refine dE 25 Z2 (dE 26 Z2 (dE 27 Z2 ?_))
    have hl12:=hlist.len
    obtain⟨_,_,z12,_,ha12,hz12,hq12,hE12,hrow12,_⟩:=hlist.at (i:=k) oM
    clear hq12
    obtain⟨_,_,_,rfl,hi12,_,_,_⟩:=ox hE12
    have hzz12:z4=z12:=Option.some.inj (hz4.symm.trans hz12)
    subst hzz12
    refine dI 28 3 k ha12 Z3 Z (dF 29 0 Z2 (dP 30 hrow12 0 Z3 (r1 31 Z (gR Z (xr H Z2 (l5Home_c _ _ H.sub _ _ hlist _ hi12) ?_)))));intro _ H
    refine q4 H hd3 (dE 32 Z2 (dE 33 Z2 (rz (N_K ?_))))
    refine W_cond Z ?_ ?_
    ·intro hc14
     try simp only[nrm]at hc14
     refine q2 (aG Z (q3 (W_ret (N_B_ret (N_K_ret (N_LP_ret (N_B_ret (N_K_ret (rt1 results55 Z ?_)))))))))
     exact H.rets (congrArg Value.bool (by rw[Sp.TreeValid,Sp.not_all_range (k:=k) oM (by rw[Sp.okT_at hz4];simp[Sp.prevLt, *])];rfl))
    intro hc14'
    try simp only[nrm]at hc14'
    refine W_skip (N_B (N_K (W_region (mV Z (aD Z2 (aG Z (R_nil ?_)))))))
    refine N_lp (hJ:=⟨k+1,_,Z,hle1,H,?inv,Z⟩) (hm:=?hm)
    case hm=>omega
    case inv=>exact⟨by omega,Sp.upto_succ hall (by rw[Sp.okT_at hz4];simp[Sp.prevLt, *])⟩
   intro hc7'
   try simp only[nrm]at hc7'
   have hk0:k=0:=by omega
   refine dE 10 Z2 (dE 11 Z2 (dE 12 Z2 (dE 13 Z2 (dE 14 Z2 (dE 15 Z2 (dE 16 Z2 (dE 17 Z2 (dE 18 Z2 (dE 19 Z2 (dE 20 Z2 (dE 21 Z2 (dE 22 Z2 (dE 23 Z2 (dE 24 Z2 (dE 25 Z2 ?_)))))))))))))))
   refine dE 26 Z2 (dE 27 Z2 ?_)
   have hl16:=hlist.len
   obtain⟨_,_,z16,_,ha16,hz16,hq16,hE16,hrow16,_⟩:=hlist.at (i:=k) oM
   clear hq16
   obtain⟨_,_,_,rfl,hi16,_,_,_⟩:=ox hE16
   have hzz16:z4=z16:=Option.some.inj (hz4.symm.trans hz16)
   subst hzz16
   refine dI 28 3 k ha16 Z3 Z (dF 29 0 Z2 (dP 30 hrow16 0 Z3 (r1 31 Z (gR Z (xr H Z2 (l5Home_c _ _ H.sub _ _ hlist _ hi16) ?_)))));intro _ H
   refine q4 H hd3 (dE 32 Z2 (dE 33 Z2 (rz (N_K ?_))))
   refine W_cond Z ?_ ?_
   ·intro hc18
    try simp only[nrm]at hc18
    refine q2 (aG Z (q3 (W_ret (N_B_ret (N_K_ret (N_LP_ret (N_B_ret (N_K_ret (rt1 results55 Z ?_)))))))))
    exact H.rets (congrArg Value.bool (by rw[Sp.TreeValid,Sp.not_all_range (k:=k) oM (by rw[Sp.okT_at hz4];simp[Sp.prevLt, *])];rfl))
   intro hc18'
   try simp only[nrm]at hc18'
   refine W_skip (N_B (N_K (W_region (mV Z (aD Z2 (aG Z (R_nil ?_)))))))
   refine N_lp (hJ:=⟨k+1,_,Z,hle1,H,?inv,Z⟩) (hm:=?hm)
   case hm=>omega
   case inv=>exact⟨by omega,Sp.upto_succ hall (by rw[Sp.okT_at hz4];simp[Sp.prevLt, *])⟩
  intro hc2'
  try simp only[nrm]at hc2'
  refine W_exit (N_K_exit (N_LP_exit (N_B_same (N_K (q2 (mV Z (lN Z (pe 2 Z (q3 (W_ret (rt1 results55 Z ?_)))))))))))
  exact H.rets (congrArg Value.bool (by rw[Sp.TreeValid,Sp.all_range (fun j hj=>hall j oM),Bool.true_and];rw[Bool.eq_iff_iff];simp;omega))
theorem l2Same_c (w0:World)(G0:PH)(hG:PSub G0 w0)(va:Value)(a:List (Int))(ha:RdI G0 va a)(vb:Value)(b:List (Int))(hb:RdI G0 vb b) :
  Calls Tryz.prog 89 #[va,vb] w0 (Rets w0 (.bool (Sp.l2Same a b))):=by
 obtain⟨aa,ka,rfl⟩:=ha.shape
 have hlima:a.length≤1099511627776:=ha.lim
 obtain⟨ab,kb,rfl⟩:=hb.shape
 have hlimb:b.length≤1099511627776:=hb.lim
 have H:=Hp.init hG
 refine calls_of_W (l:=[.slice aa a.length ka,.slice ab b.length kb]) func89 Z ntmps89 Z (q2 (aG Z (q3 (W_seq (q2 (mV Z (lN Z (mV Z (lN Z (pe 1 Z (q3 ?_)))))))))))
 refine W_cond Z ?_ ?_
 ·intro hc1
  try simp only[nrm]at hc1
  refine q2 (aG Z (q3 (W_ret (N_K_ret (rt1 results89 Z ?_)))))
  exact H.rets (congrArg Value.bool (by unfold Sp.l2Same;exact Sp.ne_len oM))
 intro hc1'
 try simp only[nrm]at hc1'
 refine W_skip (N_K (W_seq (q2 (aG Z (q3 (W_block ?_))))))
 refine W_lp (hf:=(Sub.cons (t:=0) Z (Sub.cons (t:=1) Z Sub.nil))) (J:=fun M w m=>∃(k:Nat) (G:PH),M=[(5,.int .i64 (k:Int))]∧PLe G0 G∧Hp w0 G0 [] w G []∧(k≤a.length∧a.take k=b.take k)∧m=(a.length-k)) (h0:=⟨0,_,Z,PLe.refl _,H,?inv,Z⟩) (round:=?round)
 case inv=>exact⟨by omega,by simp⟩
 case round =>
  rintro _ _ _ ⟨k,G2,rfl,hle2,H,hinv2,rfl⟩
  have ha:=ha.up hle2
  have hb:=hb.up hle2
  obtain⟨_,hall⟩:=hinv2
  refine W_seq (q2 (pe 2 Z (lN Z (pe 1 Z (q3 ?_)))))
  refine W_cond Z ?_ ?_
  ·intro hc3
   try simp only[nrm]at hc3
   refine W_skip (N_K (W_seq (W_block (W_seq (W_drawK [] 9 H kR Z ?_)))));intro _ H;have hd4:=PLe.refl G2
   refine dE 0 Z2 (dE 1 Z2 ?_)
   have hl5:=ha.len
   obtain⟨_,_,_,_,ha5,hz5,hq5,hE5,hrow5,_⟩:=ha.at (i:=k) oM
   clear hq5
   obtain⟨rfl,_⟩:=hE5
   refine dI 2 1 k ha5 Z3 Z (dP 3 hrow5 0 Z3 (dE 4 Z2 (dE 5 Z2 ?_)))
   have hl6:=hb.len
   obtain⟨_,_,_,_,ha6,hz6,hq6,hE6,hrow6,_⟩:=hb.at (i:=k) oM
   clear hq6
   obtain⟨rfl,_⟩:=hE6
   refine dI 6 1 k ha6 Z3 Z (dP 7 hrow6 0 Z3 (dE 8 Z2 (rz (N_K ?_))))
   refine W_cond Z ?_ ?_
   ·intro hc7
    try simp only[nrm]at hc7
    refine q2 (aG Z (q3 (W_ret (N_B_ret (N_K_ret (N_LP_ret (N_B_ret (N_K_ret (rt1 results89 Z ?_)))))))))
    exact H.rets (congrArg Value.bool (by unfold Sp.l2Same;exact Sp.ne_at hz5 hz6 oM))
   intro hc7'
   try simp only[nrm]at hc7'
   refine W_skip (N_B (N_K (W_region (mV Z (aD Z2 (aG Z (R_nil ?_)))))))
   refine N_lp (hJ:=⟨k+1,_,Z,hle2,H,?inv,Z⟩) (hm:=?hm)
   case hm=>omega
   case inv=>exact⟨by omega,Sp.take_eq hall hz5 (by rw[hz6];congr 1;omega)⟩
  intro hc3'
  try simp only[nrm]at hc3'
  refine W_exit (N_K_exit (N_LP_exit (N_B_same (N_K (q2 (aG Z (q3 (W_ret (rt1 results89 Z ?_)))))))))
  exact H.rets (congrArg Value.bool (by unfold Sp.l2Same;exact Sp.eq_all hall oM oM))
theorem BlockValid_c (w0:World)(G0:PH)(hG:PSub G0 w0)(vbytes:Value)(bytes:List (Int))(hbytes:RdI G0 vbytes bytes) :
  Calls Tryz.prog 88 #[vbytes] w0 (Rets w0 (.bool (Sp.BlockValid bytes))):=by
 obtain⟨abytes,kbytes,rfl⟩:=hbytes.shape
 have hlimbytes:bytes.length≤1099511627776:=hbytes.lim
 have H:=Hp.init hG
 refine calls_of_W (l:=[.slice abytes bytes.length kbytes]) func88 Z ntmps88 Z (q2 (aG Z (q3 (W_seq (q2 (aG Z (q3 (W_block ?_))))))))
 refine W_lp (hf:=(Sub.cons (t:=0) Z Sub.nil)) (J:=fun M w m=>∃(k:Nat) (G:PH),M=[(3,.int .i64 (k:Int))]∧PLe G0 G∧Hp w0 G0 [] w G []∧(k≤bytes.length∧(bytes.take k).all Sp.byteOk=true)∧m=(bytes.length-k)) (h0:=⟨0,_,Z,PLe.refl _,H,?inv,Z⟩) (round:=?round)
 case inv=>exact⟨by omega,by simp⟩
 case round =>
  rintro _ _ _ ⟨k,_,rfl,hle1,H,hinv1,rfl⟩
  have hbytes:=hbytes.up hle1
  obtain⟨_,hall⟩:=hinv1
  refine W_seq (q2 (pe 2 Z (lN Z (pe 1 Z (q3 ?_)))))
  refine W_cond Z ?_ ?_
  ·intro hc2
   try simp only[nrm]at hc2
   refine W_skip (N_K (W_seq (W_block (q2 (pe 2 Z (iP k hbytes Z3 Z ?_))))));intro _ _ _ _ hz3 hE3 hrow3
   obtain⟨rfl,_⟩:=hE3
   refine lP H hrow3 0 Z2 (xr H Z2 (l6In_c _ _ _ _) ?_);intro _ H
   refine pe 1 Z (q3 ?_)
   refine W_cond Z ?_ ?_
   ·intro hc5
    try simp only[nrm]at hc5
    refine q2 (aG Z (q3 (W_ret (N_B_ret (N_K_ret (N_LP_ret (N_B_ret (N_K_ret (rt1 results88 Z ?_)))))))))
    exact H.rets (congrArg Value.bool (by rw[Sp.BlockValid,Sp.all_false hz3 (by simp[Sp.byteOk, *])];rfl))
   intro hc5'
   try simp only[nrm]at hc5'
   refine W_skip (N_B (N_K (W_region (mV Z (aD Z2 (aG Z (R_nil ?_)))))))
   refine N_lp (hJ:=⟨k+1,_,Z,hle1,H,?inv,Z⟩) (hm:=?hm)
   case hm=>omega
   case inv=>exact⟨by omega,Sp.all_take hall hz3 (by simp[Sp.byteOk, *])⟩
  intro hc2'
  try simp only[nrm]at hc2'
  refine W_exit (N_K_exit (N_LP_exit (N_B_same (N_K (q2 (mV Z (lN Z (xr H Z2 (l6In_c _ _ _ _) ?_))))))));intro _ H
  refine aG Z (q3 (W_ret (rt1 results88 Z ?_)))
  obtain rfl:k=bytes.length:=by omega
  rw[List.take_length]at hall
  exact H.rets (congrArg Value.bool (by simp only[Sp.BlockValid,hall,Bool.true_and]))
theorem FileValid_c (w0:World)(G0:PH)(hG:PSub G0 w0)(vbytes:Value)(bytes:List (Int))(hbytes:RdI G0 vbytes bytes) :
  Calls Tryz.prog 116 #[vbytes] w0 (Rets w0 (.bool (Sp.FileValid bytes))):=by
 obtain⟨abytes,kbytes,rfl⟩:=hbytes.shape
 have hlimbytes:bytes.length≤1099511627776:=hbytes.lim
 have H:=Hp.init hG
 refine calls_of_W (l:=[.slice abytes bytes.length kbytes]) func116 Z ntmps116 Z (q2 (aG Z (q3 (W_seq (q2 (aG Z (q3 (W_block ?_))))))))
 refine W_lp (hf:=(Sub.cons (t:=0) Z Sub.nil)) (J:=fun M w m=>∃(k:Nat) (G:PH),M=[(3,.int .i64 (k:Int))]∧PLe G0 G∧Hp w0 G0 [] w G []∧(k≤bytes.length∧(bytes.take k).all Sp.byteOk=true)∧m=(bytes.length-k)) (h0:=⟨0,_,Z,PLe.refl _,H,?inv,Z⟩) (round:=?round)
 case inv=>exact⟨by omega,by simp⟩
 case round =>
  rintro _ _ _ ⟨k,_,rfl,hle1,H,hinv1,rfl⟩
  have hbytes:=hbytes.up hle1
  obtain⟨_,hall⟩:=hinv1
  refine W_seq (q2 (pe 2 Z (lN Z (pe 1 Z (q3 ?_)))))
  refine W_cond Z ?_ ?_
  ·intro hc2
   try simp only[nrm]at hc2
   refine W_skip (N_K (W_seq (W_block (q2 (pe 2 Z (iP k hbytes Z3 Z ?_))))));intro _ _ _ _ hz3 hE3 hrow3
   obtain⟨rfl,_⟩:=hE3
   refine lP H hrow3 0 Z2 (xr H Z2 (l6In_c _ _ _ _) ?_);intro _ H
   refine pe 1 Z (q3 ?_)
   refine W_cond Z ?_ ?_
   ·intro hc5
    try simp only[nrm]at hc5
    refine q2 (aG Z (q3 (W_ret (N_B_ret (N_K_ret (N_LP_ret (N_B_ret (N_K_ret (rt1 results116 Z ?_)))))))))
    exact H.rets (congrArg Value.bool (by rw[Sp.FileValid,Sp.all_false hz3 (by simp[Sp.byteOk, *])];rfl))
   intro hc5'
   try simp only[nrm]at hc5'
   refine W_skip (N_B (N_K (W_region (mV Z (aD Z2 (aG Z (R_nil ?_)))))))
   refine N_lp (hJ:=⟨k+1,_,Z,hle1,H,?inv,Z⟩) (hm:=?hm)
   case hm=>omega
   case inv=>exact⟨by omega,Sp.all_take hall hz3 (by simp[Sp.byteOk, *])⟩
  intro hc2'
  try simp only[nrm]at hc2'
  refine W_exit (N_K_exit (N_LP_exit (N_B_same (N_K (q2 (mV Z (lN Z (pe 2 Z (q3 (W_ret (rt1 results116 Z ?_)))))))))))
  obtain rfl:k=bytes.length:=by omega
  rw[List.take_length]at hall
  exact H.rets (congrArg Value.bool (by simp only[Sp.FileValid,hall,Bool.true_and];rw[Bool.eq_iff_iff];simp;omega))
theorem StoreValid_c (w0:World)(G0:PH)(hG:PSub G0 w0)(vlist:Value)(list:List (BHeld))(hlist:RdH G0 vlist list) :
  Calls Tryz.prog 54 #[vlist] w0 (Rets w0 (.bool (Sp.StoreValid list))):=by
 obtain⟨alist,klist,rfl⟩:=hlist.shape
 have hlimlist:list.length≤1099511627776:=hlist.lim
 have H:=Hp.init hG
 refine calls_of_W (l:=[.slice alist list.length klist]) func54 Z ntmps54 Z (q2 (aG Z (q3 (W_seq (q2 (aG Z (q3 (W_block ?_))))))))
 refine W_lp (hf:=(Sub.cons (t:=0) Z Sub.nil)) (J:=fun M w m=>∃(k:Nat) (G:PH),M=[(3,.int .i64 (k:Int))]∧PLe G0 G∧Hp w0 G0 [] w G []∧(k≤list.length∧∀j,j<k→Sp.okH list j=true)∧m=(list.length-k)) (h0:=⟨0,_,Z,PLe.refl _,H,?inv,Z⟩) (round:=?round)
 case inv=>exact⟨by omega,fun j hj=>by omega⟩
 case round =>
  rintro _ _ _ ⟨k,G1,rfl,hle1,H,hinv1,rfl⟩
  have hlist:=hlist.up hle1
  obtain⟨_,hall⟩:=hinv1
  refine W_seq (q2 (pe 2 Z (lN Z (pe 1 Z (q3 ?_)))))
  refine W_cond Z ?_ ?_
  ·intro hc2
   try simp only[nrm]at hc2
   refine W_skip (N_K (W_seq (W_block (q2 (pe 2 Z (iP k hlist Z3 Z ?_))))));intro _ _ z3 _ hz3 hE3 hrow3
   obtain⟨_,_,_,rfl,_,hr3,_,_,_⟩:=ox hE3
   refine o_loadagg_P H isAgg134 sizeOf134 Z Z hrow3 Z (xal H Z ?_);intro b4 _ _ H
   refine xst 0 H Z8 ?_;intro _ H
   refine q3 (W_seq (W_seq (W_drawK [0] 31 H kR Z ?_)));intro _ H;have hd6:=PLe.refl G1
   refine dF 0 0 Z2 (dB 1 0 Z4 (r1 2 Z (xr H Z2 (l6In_c _ _ _ _) ?_)));intro _ H
   refine q4 H hd6 (dE 3 Z2 (dE 4 Z2 ?_))
   refine RD_case (t:=20) Z ?_ ?_
   ·intro hc8
    try simp only[nrm]at hc8
    refine dE 5 Z2 (dE 6 Z2 (dE 7 Z2 (dE 8 Z2 (dE 9 Z2 (dE 10 Z2 (dE 11 Z2 (dE 12 Z2 (dE 13 Z2 (dE 14 Z2 (dE 15 Z2 (dE 16 Z2 (dE 17 Z2 (dE 18 Z2 (dE 19 Z2 (RD_pass 20 Z kR kR kR Z (yl_un Z Z) ?_)))))))))))))))
    refine RD_pass 21 Z kR kR kR Z (yl_un Z Z) (RD_pass 22 Z kR kR kR Z (yl_un Z Z) (RD_pass 23 Z kR kR kR Z (yl_un Z Z) (RD_pass 24 Z kR kR kR Z (yl_un Z Z) (RD_pass 25 Z kR kR kR Z (yl_un Z Z) (RD_pass 26 Z kR kR kR Z (yl_un Z Z) (RD_pass 27 Z kR kR kR Z (yl_un Z Z) (RD_pass 28 Z kR kR kR Z (yl_un Z Z) (dE 29 Z2 (dE 30 Z2 (rz (N_K (W_true Z (q2 (aG Z (q3 ?_)))))))))))))))
    refine W_ret (N_K_ret (N_B_ret (N_K_ret (N_LP_ret (N_B_ret (N_K_ret (rt1 results54 Z ?_)))))))
    exact H.rets (congrArg Value.bool (by rw[Sp.StoreValid,Sp.not_all_range (k:=k) oM (by rw[Sp.okH_at hz3];simp[Sp.prevId, *])];rfl))
   intro hc8'
   try simp only[nrm]at hc8'
   refine dF 5 1 Z2 (dB 6 0 Z4 (r1 7 Z (gR Z (xr H Z2 (BlockValid_c _ _ H.sub _ _ hr3) ?_))));intro _ H
   refine q4 H hd6 (dE 8 Z2 (dE 9 Z2 (dE 10 Z2 ?_)))
   refine RD_case (t:=26) Z ?_ ?_
   ·intro hc10
    try simp only[nrm]at hc10
    refine dE 11 Z2 (dE 12 Z2 (dE 13 Z2 (dE 14 Z2 (dE 15 Z2 (dE 16 Z2 (dE 17 Z2 (dE 18 Z2 (dE 19 Z2 (RD_pass 20 Z kR kR kR Z (yl_un Z Z) (RD_pass 21 Z kR kR kR Z (yl_un Z Z) (RD_pass 22 Z kR kR kR Z (yl_un Z Z) (RD_pass 23 Z kR kR kR Z (yl_un Z Z) (RD_pass 24 Z kR kR kR Z (yl_un Z Z) (RD_pass 25 Z kR kR kR Z (yl_un Z Z) (RD_pass 26 Z kR kR kR Z (yl_un Z Z) ?_)))))))))))))))
    refine RD_pass 27 Z kR kR kR Z (yl_un Z Z) (RD_pass 28 Z kR kR kR Z (yl_un Z Z) (dE 29 Z2 (dE 30 Z2 (rz (N_K (W_true Z (q2 (aG Z (q3 (W_ret (N_K_ret (N_B_ret (N_K_ret (N_LP_ret (N_B_ret ?_)))))))))))))))
    refine N_K_ret (rt1 results54 Z ?_)
    exact H.rets (congrArg Value.bool (by rw[Sp.StoreValid,Sp.not_all_range (k:=k) oM (by rw[Sp.okH_at hz3];simp[Sp.prevId, *])];rfl))
   intro hc10'
   try simp only[nrm]at hc10'
   refine dF 11 2 Z2 (dB 12 0 Z4 (r1 13 Z (gR Z (xr H Z2 (l6In_c _ _ _ _) ?_))));intro _ H
   refine q4 H hd6 (dE 14 Z2 (dE 15 Z2 (dE 16 Z2 ?_)))
   refine RD_case (t:=32) Z ?_ ?_
   ·intro hc12
    try simp only[nrm]at hc12
    refine dE 17 Z2 (dE 18 Z2 (dE 19 Z2 (RD_pass 20 Z kR kR kR Z (yl_un Z Z) (RD_pass 21 Z kR kR kR Z (yl_un Z Z) (RD_pass 22 Z kR kR kR Z (yl_un Z Z) (RD_pass 23 Z kR kR kR Z (yl_un Z Z) (RD_pass 24 Z kR kR kR Z (yl_un Z Z) (RD_pass 25 Z kR kR kR Z (yl_un Z Z) (RD_pass 26 Z kR kR kR Z (yl_un Z Z) (RD_pass 27 Z kR kR kR Z (yl_un Z Z) (RD_pass 28 Z kR kR kR Z (yl_un Z Z) (dE 29 Z2 (dE 30 Z2 (rz (N_K ?_)))))))))))))))
    refine W_true Z (q2 (aG Z (q3 (W_ret (N_K_ret (N_B_ret (N_K_ret (N_LP_ret (N_B_ret (N_K_ret (rt1 results54 Z ?_)))))))))))
    exact H.rets (congrArg Value.bool (by rw[Sp.StoreValid,Sp.not_all_range (k:=k) oM (by rw[Sp.okH_at hz3];simp[Sp.prevId, *])];rfl))
   intro hc12'
   try simp only[nrm]at hc12'
   refine dE 17 Z2 (dE 18 Z2 (dE 19 Z2 ?_))
   refine RD_case (t:=35) Z ?_ ?_
   ·intro hc13
    try simp only[nrm]at hc13
    have hk0:k≠0:=by omega
    refine dE 20 Z2 (dE 21 Z2 (RD_tg 22 Z kR Z (yl Z Z) (fun _ hK=>v_sub Z Z oO) ?_))
    have hl15:=hlist.len
    obtain⟨_,_,_,_,ha15,_,hq15,hE15,hrow15,_⟩:=hlist.at (i:=(k-1)) oM
    clear hq15
    obtain⟨_,_,_,rfl,_,hr15,_,_,_⟩:=ox hE15
    refine dI 23 3 (k-1) ha15 Z3 oM (dF 24 0 Z2 (dP 25 hrow15 0 Z3 (dF 26 0 Z2 (dB 27 0 Z4 (dE 28 Z2 (dE 29 Z2 (dE 30 Z2 (rz (N_K ?_)))))))))
    refine W_cond Z ?_ ?_
    ·intro hc16
     try simp only[nrm]at hc16
     refine q2 (aG Z (q3 (W_ret (N_K_ret (N_B_ret (N_K_ret (N_LP_ret (N_B_ret (N_K_ret (rt1 results54 Z ?_))))))))))
     exact H.rets (congrArg Value.bool (by rw[Sp.StoreValid,Sp.not_all_range (k:=k) oM (by rw[Sp.okH_at hz3];simp[Sp.prevId, *];intro _;omega)];rfl))
    intro hc16'
    try simp only[nrm]at hc16'
    refine W_skip (N_K (q2 (aG Z (q3 (W_block ?_)))))
    obtain⟨ln17,hln17,H⟩:=H.name (k:=0) rfl
    refine W_lp (hf:=(Sub.cons (t:=0) Z (Sub.cons (t:=3) Z (Sub.cons (t:=4) Z Sub.nil)))) (J:=fun M w m=>∃(i:Nat) (G:PH),M=[(5,.int .i64 (i:Int))]∧PLe G1 G∧Hp w0 G0 [] w G [blk b4 (cl ln17 134)]∧(i≤k∧(list.take i).all (fun g=> !Sp.l2Same g.bytes z3.bytes)=true)∧m=(k-i)) (h0:=⟨0,_,Z,PLe.refl _,H,?inv,Z⟩) (round:=?round)
    case inv=>exact⟨by omega,by simp⟩
    case round =>
     rintro _ _ _ ⟨i,G18,rfl,hle18,H,hinv18,rfl⟩
     subst hln17
     have hlist:=hlist.up hle18
     have hr3:=hr3.up hle18
     have hle1:=hle1.trans hle18
     obtain⟨hi,hall2⟩:=hinv18
     refine W_seq (q2 (pe 3 Z (q3 ?_)))
     refine W_cond Z ?_ ?_
     ·intro hc19
      try simp only[nrm]at hc19
      refine W_skip (N_K (W_seq (W_block (W_seq (W_drawK [0] 8 H kR Z ?_)))));intro _ H;have hd20:=PLe.refl G18
      refine dE 0 Z2 (dE 1 Z2 ?_)
      have hl21:=hlist.len
      obtain⟨_,_,_,_,ha21,hz21,hq21,hE21,hrow21,_⟩:=hlist.at (i:=i) oM
      clear hq21
      obtain⟨_,_,_,rfl,_,hr21,_,_,_⟩:=ox hE21
      refine dI 2 3 i ha21 Z3 Z (dF 3 1 Z2 (dP 4 hrow21 1 Z3 (dF 5 1 Z2 (dB 6 0 Z4 (r1 7 Z (xr H Z2 (l2Same_c _ _ H.sub _ _ hr21 _ _ hr3) ?_))))));intro _ H
      refine q4 H hd20 (rz (N_K ?_))
      refine W_cond Z ?_ ?_
      ·intro hc23
       try simp only[nrm]at hc23
       refine q2 (aG Z (q3 (W_ret (N_B_ret (N_K_ret (N_LP_ret (N_B_ret (N_B_ret (N_K_ret (N_LP_ret (N_B_ret (N_K_ret (rt1 results54 Z ?_)))))))))))))
       exact H.rets (congrArg Value.bool (by rw[Sp.StoreValid,Sp.not_all_range (k:=k) oM (by rw[Sp.okH_at hz3,Sp.all_false (l:=list.take k) (k:=i) (by rw[List.getElem?_take,if_pos oM];exact hz21) (by simp[*])];simp)];rfl))
      intro hc23'
      try simp only[nrm]at hc23'
      refine W_skip (N_B (N_K (W_region (mV Z (aD Z2 (aG Z (R_nil ?_)))))))
      refine N_lp (hJ:=⟨i+1,_,Z,hle18,H,?inv,Z⟩) (hm:=?hm)
      case hm=>omega
      case inv=>exact⟨by omega,Sp.all_take hall2 hz21 (by simp[*])⟩
     intro hc19'
     try simp only[nrm]at hc19'
     refine W_exit (N_K_exit (N_LP_exit (N_B_same (N_B (N_K (W_region (mV Z (aD Z2 (aG Z (R_nil ?_))))))))))
     have H:=H.dl 0
     refine N_lp (hJ:=⟨k+1,_,Z,hle1,H,?inv,Z⟩) (hm:=?hm)
     case hm=>omega
     case inv=>exact⟨by omega,Sp.upto_succ hall (by (obtain rfl:i=k:=by omega);rw[Sp.okH_at hz3,hall2];simp[Sp.prevId, *])⟩
   intro hc13'
   try simp only[nrm]at hc13'
   have hk0:k=0:=by omega
   refine dE 20 Z2 (dE 21 Z2 (dE 22 Z2 (dE 23 Z2 (dE 24 Z2 (dE 25 Z2 (dE 26 Z2 (dE 27 Z2 (dE 28 Z2 (dE 29 Z2 (dE 30 Z2 (rz (N_K (W_false Z (W_skip (N_K ?_)))))))))))))))
   refine q2 (aG Z (q3 (W_block ?_)))
   obtain⟨ln26,hln26,H⟩:=H.name (k:=0) rfl
   refine W_lp (hf:=(Sub.cons (t:=0) Z (Sub.cons (t:=3) Z (Sub.cons (t:=4) Z Sub.nil)))) (J:=fun M w m=>∃(i:Nat) (G:PH),M=[(5,.int .i64 (i:Int))]∧PLe G1 G∧Hp w0 G0 [] w G [blk b4 (cl ln26 134)]∧(i≤k∧(list.take i).all (fun g=> !Sp.l2Same g.bytes z3.bytes)=true)∧m=(k-i)) (h0:=⟨0,_,Z,PLe.refl _,H,?inv,Z⟩) (round:=?round)
   case inv=>exact⟨by omega,by simp⟩
   case round =>
    rintro _ _ _ ⟨i,G27,rfl,hle27,H,hinv27,rfl⟩
    subst hln26
    have hlist:=hlist.up hle27
    have hr3:=hr3.up hle27
    have hle1:=hle1.trans hle27
    obtain⟨hi,hall2⟩:=hinv27
    refine W_seq (q2 (pe 3 Z (q3 ?_)))
    refine W_cond Z ?_ ?_
    ·intro hc28
     try simp only[nrm]at hc28
     refine W_skip (N_K (W_seq (W_block (W_seq (W_drawK [0] 8 H kR Z ?_)))));intro _ H;have hd29:=PLe.refl G27
     refine dE 0 Z2 (dE 1 Z2 ?_)
     have hl30:=hlist.len
     obtain⟨_,_,_,_,ha30,hz30,hq30,hE30,hrow30,_⟩:=hlist.at (i:=i) oM
     clear hq30
     obtain⟨_,_,_,rfl,_,hr30,_,_,_⟩:=ox hE30
     refine dI 2 3 i ha30 Z3 Z (dF 3 1 Z2 (dP 4 hrow30 1 Z3 (dF 5 1 Z2 (dB 6 0 Z4 (r1 7 Z (xr H Z2 (l2Same_c _ _ H.sub _ _ hr30 _ _ hr3) ?_))))));intro _ H
     refine q4 H hd29 (rz (N_K ?_))
     refine W_cond Z ?_ ?_
     ·intro hc32
      try simp only[nrm]at hc32
      refine q2 (aG Z (q3 (W_ret (N_B_ret (N_K_ret (N_LP_ret (N_B_ret (N_B_ret (N_K_ret (N_LP_ret (N_B_ret (N_K_ret (rt1 results54 Z ?_)))))))))))))
      exact H.rets (congrArg Value.bool (by rw[Sp.StoreValid,Sp.not_all_range (k:=k) oM (by rw[Sp.okH_at hz3,Sp.all_false (l:=list.take k) (k:=i) (by rw[List.getElem?_take,if_pos oM];exact hz30) (by simp[*])];simp)];rfl))
     intro hc32'
     try simp only[nrm]at hc32'
     refine W_skip (N_B (N_K (W_region (mV Z (aD Z2 (aG Z (R_nil ?_)))))))
     refine N_lp (hJ:=⟨i+1,_,Z,hle27,H,?inv,Z⟩) (hm:=?hm)
     case hm=>omega
     case inv=>exact⟨by omega,Sp.all_take hall2 hz30 (by simp[*])⟩
    intro hc28'
    try simp only[nrm]at hc28'
    refine W_exit (N_K_exit (N_LP_exit (N_B_same (N_B (N_K (W_region (mV Z (aD Z2 (aG Z (R_nil ?_))))))))))
    have H:=H.dl 0
    refine N_lp (hJ:=⟨k+1,_,Z,hle1,H,?inv,Z⟩) (hm:=?hm)
    case hm=>omega
    case inv=>exact⟨by omega,Sp.upto_succ hall (by (obtain rfl:i=k:=by omega);rw[Sp.okH_at hz3,hall2];simp[Sp.prevId, *])⟩
  intro hc2'
  try simp only[nrm]at hc2'
  refine W_exit (N_K_exit (N_LP_exit (N_B_same (N_K (q2 (mV Z (lN Z (pe 2 Z (q3 (W_ret (rt1 results54 Z ?_)))))))))))
  exact H.rets (congrArg Value.bool (by rw[Sp.StoreValid,Sp.all_range (fun j hj=>hall j oM),Bool.true_and];rw[Bool.eq_iff_iff];simp;omega))
theorem l3At_c (w0:World)(G0:PH)(hG:PSub G0 w0)(vlist:Value)(list:List (BHeld))(hlist:RdH G0 vlist list)(id:Int) :
  Calls Tryz.prog 61 #[vlist,.int .i64 id] w0 (Rets w0 (.int .i64 (Sp.l3At list id))):=by
 obtain⟨alist,klist,rfl⟩:=hlist.shape
 have hlimlist:list.length≤1099511627776:=hlist.lim
 have H:=Hp.init hG
 refine calls_of_W (l:=[.slice alist list.length klist,.int .i64 id]) func61 Z ntmps61 Z (q2 (aG Z (q3 (W_seq (q2 (aG Z (q3 (W_block ?_))))))))
 refine W_lp (hf:=(Sub.cons (t:=0) Z (Sub.cons (t:=1) Z Sub.nil))) (J:=fun M w m=>∃(k:Nat) (G:PH),M=[(5,.int .i64 (k:Int))]∧PLe G0 G∧Hp w0 G0 [] w G []∧(k≤list.length∧(∀j,j<k→∀y,list[j]? = some y→decide (y.id=id)=false))∧m=(list.length-k)) (h0:=⟨0,_,Z,PLe.refl _,H,?inv,Z⟩) (round:=?round)
 case inv=>exact⟨by omega,fun j hj=>by omega⟩
 case round =>
  rintro _ _ _ ⟨k,_,rfl,hle1,H,hinv1,rfl⟩
  have hlist:=hlist.up hle1
  obtain⟨_,hall⟩:=hinv1
  refine W_seq (q2 (pe 2 Z (lN Z (pe 1 Z (q3 ?_)))))
  refine W_cond Z ?_ ?_
  ·intro hc2
   try simp only[nrm]at hc2
   refine W_skip (N_K (W_seq (W_block (q2 (pe 2 Z (iP k hlist Z3 Z ?_))))));intro _ _ _ _ hz3 hE3 hrow3
   obtain⟨_,_,_,rfl,_,_,_,_,_⟩:=ox hE3
   refine fA 0 Z (lP H hrow3 0 Z2 (pe 2 Z (q3 ?_)))
   refine W_cond Z ?_ ?_
   ·intro hc4
    try simp only[nrm]at hc4
    refine q2 (pe 2 Z (q3 (W_ret (N_B_ret (N_K_ret (N_LP_ret (N_B_ret (N_K_ret (rt1 results61 Z ?_)))))))))
    exact H.rets (congrArg (Value.int .i64) (by rw[Sp.l3At,Sp.atH,Sp.find_at hall hz3 (by simp;omega)];rfl))
   intro hc4'
   try simp only[nrm]at hc4'
   refine W_skip (N_B (N_K (W_region (mV Z (aD Z2 (aG Z (R_nil ?_)))))))
   refine N_lp (hJ:=⟨k+1,_,Z,hle1,H,?inv,Z⟩) (hm:=?hm)
   case hm=>omega
   case inv=>exact⟨by omega,Sp.none_succ hall hz3 (by simp;omega)⟩
  intro hc2'
  try simp only[nrm]at hc2'
  refine W_exit (N_K_exit (N_LP_exit (N_B_same (N_K (q2 (aG Z (q3 (W_ret (rt1 results61 Z ?_)))))))))
  exact H.rets (congrArg (Value.int .i64) (by rw[Sp.l3At,Sp.atH,Sp.find_none hall oM];rfl))
theorem l3Like_c (w0:World)(G0:PH)(hG:PSub G0 w0)(vlist:Value)(list:List (BHeld))(hlist:RdH G0 vlist list)(vbytes:Value)(bytes:List (Int))(hbytes:RdI G0 vbytes bytes) :
  Calls Tryz.prog 194 #[vlist,vbytes] w0 (Rets w0 (.int .i64 (Sp.l3Like list bytes))):=by
 obtain⟨alist,klist,rfl⟩:=hlist.shape
 have hlimlist:list.length≤1099511627776:=hlist.lim
 obtain⟨abytes,kbytes,rfl⟩:=hbytes.shape
 have hlimbytes:bytes.length≤1099511627776:=hbytes.lim
 have H:=Hp.init hG
 refine calls_of_W (l:=[.slice alist list.length klist,.slice abytes bytes.length kbytes]) func194 Z ntmps194 Z (q2 (aG Z (q3 (W_seq (q2 (aG Z (q3 (W_block ?_))))))))
 refine W_lp (hf:=(Sub.cons (t:=0) Z (Sub.cons (t:=1) Z Sub.nil))) (J:=fun M w m=>∃(k:Nat) (G:PH),M=[(5,.int .i64 (k:Int))]∧PLe G0 G∧Hp w0 G0 [] w G []∧(k≤list.length∧(∀j,j<k→∀y,list[j]? = some y→Sp.l2Same y.bytes bytes=false))∧m=(list.length-k)) (h0:=⟨0,_,Z,PLe.refl _,H,?inv,Z⟩) (round:=?round)
 case inv=>exact⟨by omega,fun j hj=>by omega⟩
 case round =>
  rintro _ _ _ ⟨k,_,rfl,hle1,H,hinv1,rfl⟩
  have hlist:=hlist.up hle1
  have hbytes:=hbytes.up hle1
  obtain⟨_,hall⟩:=hinv1
  refine W_seq (q2 (pe 2 Z (lN Z (pe 1 Z (q3 ?_)))))
  refine W_cond Z ?_ ?_
  ·intro hc2
   try simp only[nrm]at hc2
   refine W_skip (N_K (W_seq (W_block (q2 (pe 2 Z (iP k hlist Z3 Z ?_))))));intro _ _ _ _ hz3 hE3 hrow3
   obtain⟨_,_,_,rfl,_,hr3,_,_,_⟩:=ox hE3
   refine fA 1 Z (lP H hrow3 1 Z2 (mV Z (xr H Z2 (l2Same_c _ _ H.sub _ _ hr3 _ _ hbytes) ?_)));intro _ H
   refine q3 ?_
   refine W_cond Z ?_ ?_
   ·intro hc5
    try simp only[nrm]at hc5
    refine q2 (pe 2 Z (q3 (W_ret (N_B_ret (N_K_ret (N_LP_ret (N_B_ret (N_K_ret (rt1 results194 Z ?_)))))))))
    exact H.rets (congrArg (Value.int .i64) (by rw[Sp.l3Like,Sp.like,Sp.find_at hall hz3 hc5];rfl))
   intro hc5'
   try simp only[nrm]at hc5'
   refine W_skip (N_B (N_K (W_region (mV Z (aD Z2 (aG Z (R_nil ?_)))))))
   refine N_lp (hJ:=⟨k+1,_,Z,hle1,H,?inv,Z⟩) (hm:=?hm)
   case hm=>omega
   case inv=>exact⟨by omega,Sp.none_succ hall hz3 hc5'⟩
  intro hc2'
  try simp only[nrm]at hc2'
  refine W_exit (N_K_exit (N_LP_exit (N_B_same (N_K (q2 (aG Z (q3 (W_ret (rt1 results194 Z ?_)))))))))
  exact H.rets (congrArg (Value.int .i64) (by rw[Sp.l3Like,Sp.like,Sp.find_none hall oM];rfl))
theorem l3Copy_c (w0:World)(G0:PH)(hG:PSub G0 w0)(vlist:Value)(list:List (BHeld))(hlist:RdH G0 vlist list) :
  Calls Tryz.prog 145 #[vlist] w0 (RetO w0 G0 (AccOf heldE 3 134 list)):=by
 obtain⟨alist,klist,rfl⟩:=hlist.shape
 have hlimlist:list.length≤1099511627776:=hlist.lim
 have H:=Hp.init hG
 refine calls_of_W (l:=[.slice alist list.length klist]) func145 Z ntmps145 Z (q2 (aG Z (q1 (xbs H Z7 ?_))));intro _ _ _ H
 have H:=H.blkAcc 3 (k:=0) (n:=0) rfl rfl (by decide)
 refine aG Z (q3 (W_seq (q2 (aG Z (q3 (W_block ?_))))))
 refine W_lp (hf:=(Sub.cons (t:=0) Z (Sub.cons (t:=2) Z Sub.nil))) (J:=fun M w m=>∃(v:Value) (n:Nat) (cs:List Value) (xs:List (BHeld)) (k:Nat) (G:PH),M=[(4,.int .i64 (k:Int)),(3,v)]∧PLe G0 G∧Hp w0 G0 [] w G [acc 134 3 v n cs]∧(Chk heldE 3 G cs xs∧n=xs.length∧k≤list.length∧xs.length=k∧xs=list.take k)∧m=(list.length-k)) (h0:=⟨_,_,_,[],0,_,Z,PLe.refl _,H,?inv,Z⟩) (round:=?round)
 case inv=>exact⟨(Chk.nil (E:=heldE) (sz:=3) (G:=G0)),by first|rfl|simp|(simp;omega)|omega,(by simp)⟩
 case round =>
  rintro _ _ _ ⟨v,n,cs,xs,k,G2,rfl,hle2,H,hinv2,rfl⟩
  have hlist:=hlist.up hle2
  obtain⟨hchk2_0,_,hinv2⟩:=hinv2
  obtain⟨_,_,rfl⟩:=H.accShape (k:=0) rfl
  obtain⟨_,hxl,hxs⟩:=hinv2
  refine W_seq (q2 (pe 2 Z (lN Z (pe 1 Z (q3 ?_)))))
  refine W_cond Z ?_ ?_
  ·intro hc3
   try simp only[nrm]at hc3
   refine W_skip (N_K (W_seq (W_block (q2 (pe 2 Z (iP k hlist Z3 Z ?_))))));intro _ _ z4 _ hz4 hE4 hrow4
   obtain⟨_,_,_,rfl,_,hr4,_,_,_⟩:=ox hE4
   refine o_loadagg_P H isAgg134 sizeOf134 Z Z hrow4 Z (xal H Z ?_);intro _ _ _ H
   refine xst 0 H Z8 ?_;intro _ H
   refine q1 (xbs H Z7 ?_);intro _ _ _ H
   have H:=H.blkAcc 1 (k:=0) (n:=0) rfl rfl (by decide)
   refine fA 1 Z (lB 1 H Z3 ?_)
   refine o_append_P 0 H hr4 (by intro _ cs hz _ hu;obtain⟨rfl,_⟩:=hz;simp at hu;subst hu;rfl) (sz:=1) (bytes:=8) underlying56 typeInfo3 ⟨_,rfl,rfl⟩ rfl rfl rfl rfl rfl rfl rfl oM rfl ?_;intro _ _ css8 hcl8 hcs8 H
   have hchk8:Chk intE 1 G2 ([]++css8.flatten) _:=⟨css8,rfl,hcl8,hcs8⟩
   obtain⟨_,_,rfl⟩:=H.accShape (k:=0) rfl
   refine fA 1 Z (xst 1 H Z8 ?_);intro _ H
   refine q3 (W_region (mV Z (lA 1 3 H Z4 (xbs H Z7 ?_))));intro _ _ _ H
   refine o_append1 2 H (sz:=3) (bytes:=40) underlying23 typeInfo134 ⟨_,Z,Z⟩ Z Z Z Z Z Z Z Z Z Z oM Z ?_;intro _ _ H
   obtain⟨_,H,hsg12,hsr12⟩:=H.shut' (k:=0) rfl hchk8 aN aN
   have hchk2_0:=hchk2_0.up hsg12
   have hle2:=hle2.trans hsg12
   have hchk11:=hchk2_0.snoc (show heldE _ z4 _ from⟨_,_,_,rfl,⟨by first|omega|(dsimp only;omega),by first|omega|(dsimp only;omega)⟩,hsr12,⟨by first|omega|(dsimp only;omega),by first|omega|(dsimp only;omega)⟩⟩) rfl
   obtain⟨_,_,rfl⟩:=H.accShape (k:=1) rfl
   refine aG Z (R_nil (N_B (N_K (W_region (mV Z (aD Z2 (aG Z (R_nil ?_))))))))
   have H:=H.dl 0
   refine N_lp (hJ:=⟨_,_,_,(xs++[z4]),k+1,_,Z,hle2,H,?inv,Z⟩) (hm:=?hm)
   case hm=>omega
   case inv=>exact⟨hchk11,aN,(by exact⟨by omega,by simp[hxl],by rw[Sp.take_succ' hz4,hxs]⟩)⟩
  intro hc3'
  try simp only[nrm]at hc3'
  refine W_exit (N_K_exit (N_LP_exit (N_B_same (N_K (q2 (pe 2 Z (q3 (W_ret (rt1 results145 Z ?_)))))))))
  obtain rfl:k=list.length:=by omega
  rw[List.take_length]at hxs
  subst hxs
  exact H.retO (k:=0) rfl (AccOf.mk (by assumption) hchk2_0) (acc_nd _ _ _ _ _)
theorem l12At_c (w0:World)(G0:PH)(hG:PSub G0 w0)(vlist:Value)(list:List (BSnap))(hlist:RdSn G0 vlist list)(name:Bs)(hname:name.length≤16777216) :
  Calls Tryz.prog 53 #[vlist,str name] w0 (Rets w0 (.int .i64 (Sp.l12At list name))):=by
 obtain⟨alist,klist,rfl⟩:=hlist.shape
 have hlimlist:list.length≤1099511627776:=hlist.lim
 have H:=Hp.init hG
 refine calls_of_W (l:=[.slice alist list.length klist,str name]) func53 Z ntmps53 Z (q2 (aG Z (q3 (W_seq (q2 (aG Z (q3 (W_block ?_))))))))
 refine W_lp (hf:=(Sub.cons (t:=0) Z (Sub.cons (t:=1) Z Sub.nil))) (J:=fun M w m=>∃(k:Nat) (G:PH),M=[(5,.int .i64 (k:Int))]∧PLe G0 G∧Hp w0 G0 [] w G []∧(k≤list.length∧(∀j,j<k→∀y,list[j]? = some y→decide (y.name=name)=false))∧m=(list.length-k)) (h0:=⟨0,_,Z,PLe.refl _,H,?inv,Z⟩) (round:=?round)
 case inv=>exact⟨by omega,fun j hj=>by omega⟩
 case round =>
  rintro _ _ _ ⟨k,_,rfl,hle1,H,hinv1,rfl⟩
  have hlist:=hlist.up hle1
  obtain⟨_,hall⟩:=hinv1
  refine W_seq (q2 (pe 2 Z (lN Z (pe 1 Z (q3 ?_)))))
  refine W_cond Z ?_ ?_
  ·intro hc2
   try simp only[nrm]at hc2
   refine W_skip (N_K (W_seq (W_block (q2 (pe 2 Z (iP k hlist Z3 Z ?_))))));intro _ _ _ _ hz3 hE3 hrow3
   obtain⟨_,_,_,rfl,_,_,_,_⟩:=ox hE3
   refine fA 0 Z (lP H hrow3 0 Z2 (mV Z (o_seql Z Z Z (q3 ?_))))
   refine W_cond Z ?_ ?_
   ·intro hc4
    try simp only[nrm]at hc4
    refine q2 (pe 2 Z (q3 (W_ret (N_B_ret (N_K_ret (N_LP_ret (N_B_ret (N_K_ret (rt1 results53 Z ?_)))))))))
    exact H.rets (congrArg (Value.int .i64) (by rw[Sp.l12At,Sp.atS,Sp.find_at hall hz3 (by simp;exact hc4)];rfl))
   intro hc4'
   try simp only[nrm]at hc4'
   refine W_skip (N_B (N_K (W_region (mV Z (aD Z2 (aG Z (R_nil ?_)))))))
   refine N_lp (hJ:=⟨k+1,_,Z,hle1,H,?inv,Z⟩) (hm:=?hm)
   case hm=>omega
   case inv=>exact⟨by omega,Sp.none_succ hall hz3 (by simp;exact hc4')⟩
  intro hc2'
  try simp only[nrm]at hc2'
  refine W_exit (N_K_exit (N_LP_exit (N_B_same (N_K (q2 (aG Z (q3 (W_ret (rt1 results53 Z ?_)))))))))
  exact H.rets (congrArg (Value.int .i64) (by rw[Sp.l12At,Sp.atS,Sp.find_none hall oM];rfl))
theorem l4Ids_c (w0:World)(G0:PH)(hG:PSub G0 w0)(vlist:Value)(list:List (BHeld))(hlist:RdH G0 vlist list)(vids:Value)(ids:List (Int))(hids:RdI G0 vids ids) :
  Calls Tryz.prog 92 #[vlist,vids] w0 (Rets w0 (.bool (Sp.l4Ids list ids))):=by
 obtain⟨alist,klist,rfl⟩:=hlist.shape
 have hlimlist:list.length≤1099511627776:=hlist.lim
 obtain⟨aids,kids,rfl⟩:=hids.shape
 have hlimids:ids.length≤1099511627776:=hids.lim
 have H:=Hp.init hG
 refine calls_of_W (l:=[.slice alist list.length klist,.slice aids ids.length kids]) func92 Z ntmps92 Z (q2 (aG Z (q3 (W_seq (q2 (aG Z (q3 (W_block ?_))))))))
 refine W_lp (hf:=(Sub.cons (t:=0) Z (Sub.cons (t:=1) Z Sub.nil))) (J:=fun M w m=>∃(k:Nat) (G:PH),M=[(5,.int .i64 (k:Int))]∧PLe G0 G∧Hp w0 G0 [] w G []∧(k≤ids.length∧∀j,j<k→Sp.idsOk list ids j=true)∧m=(ids.length-k)) (h0:=⟨0,_,Z,PLe.refl _,H,?inv,Z⟩) (round:=?round)
 case inv=>exact⟨by omega,fun j hj=>by omega⟩
 case round =>
  rintro _ _ _ ⟨k,_,rfl,hle1,H,hinv1,rfl⟩
  have hlist:=hlist.up hle1
  have hids:=hids.up hle1
  obtain⟨_,hall⟩:=hinv1
  refine W_seq (q2 (pe 2 Z (lN Z (pe 1 Z (q3 ?_)))))
  refine W_cond Z ?_ ?_
  ·intro hc2
   try simp only[nrm]at hc2
   refine W_skip (N_K (W_seq (W_block (q2 (pe 3 Z (iP k hids Z3 Z ?_))))));intro _ _ z3 _ hz3 hE3 hrow3
   obtain⟨rfl,hi3⟩:=hE3
   refine lP H hrow3 0 Z2 (xr H Z2 (l3At_c _ _ H.sub _ _ hlist _) ?_);intro _ H
   refine aG Z (q1 (pe 3 Z ?_))
   refine R_case (t:=21) Z ?_ ?_
   ·intro hc5
    try simp only[nrm]at hc5
    refine pe 6 Z (R_pass Z (yl_un Z Z) (R_pass Z (yl_un Z Z) (R_pass Z (yl_un Z Z) (R_pass Z (yl_un Z Z) (R_pass Z (yl_un Z Z) (R_pass Z (yl_un Z Z) (R_pass Z (yl_un Z Z) (pe 2 Z (q3 (W_true Z (q2 (aG Z (q3 (W_ret (N_B_ret ?_)))))))))))))))
    refine N_K_ret (N_LP_ret (N_B_ret (N_K_ret (rt1 results92 Z ?_))))
    exact H.rets (congrArg Value.bool (by rw[Sp.l4Ids,Sp.not_all_range (k:=k) oM (by simp[Sp.idsOk,hz3,Sp.atH,Sp.at_none hc5])];rfl))
   intro hc5'
   try simp only[nrm]at hc5'
   obtain⟨i,x,hi1,hi2,hi3,hi4,_⟩:=Sp.at_nat hc5'
   have hl:Sp.atH list z3=some i:=hi1
   refine pe 1 Z (gR Z (aD Z2 (pe 1 Z (gR Z (lN Z (pe 2 Z ?_))))))
   refine R_case (t:=27) Z ?_ ?_
   ·intro hc7
    try simp only[nrm]at hc7
    refine pe 2 Z (gR Z (iP i hlist Z3 hi2 ?_));intro _ _ z8 _ hz8 hE8 hrow8
    obtain⟨_,_,_,rfl,_,_,_,_,_⟩:=ox hE8
    have hzz:x=z8:=Option.some.inj (hi4.symm.trans hz8)
    subst hzz
    refine gR Z (fA 1 Z (gR Z (lP H hrow8 1 Z2 (gR Z (lN Z (pe 3 Z (q3 ?_)))))))
    refine W_cond Z ?_ ?_
    ·intro hc9
     try simp only[nrm]at hc9
     refine q2 (aG Z (q3 (W_ret (N_B_ret (N_K_ret (N_LP_ret (N_B_ret (N_K_ret (rt1 results92 Z ?_)))))))))
     exact H.rets (congrArg Value.bool (by rw[Sp.l4Ids,Sp.not_all_range (k:=k) oM (by simp[Sp.idsOk,hz3,hl,hi4];omega)];rfl))
    intro hc9'
    try simp only[nrm]at hc9'
    refine W_skip (N_B (N_K (W_region (mV Z (aD Z2 (aG Z (R_nil ?_)))))))
    refine N_lp (hJ:=⟨k+1,_,Z,hle1,H,?inv,Z⟩) (hm:=?hm)
    case hm=>omega
    case inv=>exact⟨by omega,Sp.upto_succ hall (by simp[Sp.idsOk,hz3,hl,hi4];omega)⟩
   intro hc7'
   try simp only[nrm]at hc7'
   refine pe 9 Z (q3 (W_false Z (W_skip (N_B (N_K (W_region (mV Z (aD Z2 (aG Z (R_nil ?_))))))))))
   refine N_lp (hJ:=⟨k+1,_,Z,hle1,H,?inv,Z⟩) (hm:=?hm)
   case hm=>omega
   case inv=>exact⟨by omega,Sp.upto_succ hall (by simp[Sp.idsOk,hz3,hl,hi4];omega)⟩
  intro hc2'
  try simp only[nrm]at hc2'
  refine W_exit (N_K_exit (N_LP_exit (N_B_same (N_K (q2 (mV Z (lN Z (pe 2 Z (q3 (W_ret (rt1 results92 Z ?_)))))))))))
  exact H.rets (congrArg Value.bool (by rw[Sp.l4Ids,Sp.all_range (fun j hj=>hall j oM),Bool.true_and];rw[Bool.eq_iff_iff];simp;omega))
theorem l11Count_c (w0:World)(G0:PH)(hG:PSub G0 w0)(vlist:Value)(list:List (BItem))(hlist:RdItems G0 vlist list)(id:Int)(hT:Sp.TreeValid list=true) :
  Calls Tryz.prog 94 #[vlist,.int .i64 id] w0 (Rets w0 (.int .i64 (Sp.l11Count list id:Int))):=by
 obtain⟨alist,klist,rfl⟩:=hlist.shape
 have hlimlist:list.length≤1099511627776:=hlist.lim
 have htl:=Sp.tree_len hT
 have H:=Hp.init hG
 refine calls_of_W (l:=[.slice alist list.length klist,.int .i64 id]) func94 Z ntmps94 Z (q2 (aG Z (q1 (aG Z (q3 (W_seq (q2 (aG Z (q3 (W_block ?_))))))))))
 refine W_lp (hf:=(Sub.cons (t:=0) Z (Sub.cons (t:=1) Z (Sub.cons (t:=4) Z Sub.nil)))) (J:=fun M w m=>∃(c k:Nat) (G:PH),M=[(5,.int .i64 (c:Int)),(6,.int .i64 (k:Int))]∧PLe G0 G∧Hp w0 G0 [] w G []∧(k≤list.length∧c=Sp.cntU list id k)∧m=(list.length-k)) (h0:=⟨0,0,_,Z,PLe.refl _,H,?inv,Z⟩) (round:=?round)
 case inv=>exact⟨by omega,by simp[Sp.cntU]⟩
 case round =>
  rintro _ _ _ ⟨c,k,G1,rfl,hle1,H,hinv1,rfl⟩
  have hlist:=hlist.up hle1
  obtain⟨hk,hc⟩:=hinv1;have hcu:=Sp.cntU_le hT k hk (id:=id)
  refine W_seq (q2 (pe 2 Z (lN Z (pe 1 Z (q3 ?_)))))
  refine W_cond Z ?_ ?_
  ·intro hc2
   try simp only[nrm]at hc2
   refine W_skip (N_K (W_seq (W_block (q2 (aG Z (q3 (W_block ?_)))))))
   refine W_lp (hf:=(Sub.cons (t:=0) Z (Sub.cons (t:=1) Z (Sub.cons (t:=4) Z (Sub.cons (t:=6) Z Sub.nil))))) (J:=fun M w m=>∃(c2 j:Nat) (y:BItem) (G:PH),M=[(5,.int .i64 (c2:Int)),(7,.int .i64 (j:Int))]∧PLe G1 G∧Hp w0 G0 [] w G []∧(list[k]? = some y∧j≤y.ids.length∧c2=Sp.cntU list id k+Sp.cnt1 id (y.ids.take j))∧m=(y.ids.length-j)) (h0:=⟨c,0,(list[k]'oM),_,Z,PLe.refl _,H,?inv,Z⟩) (round:=?round)
   case inv=>exact⟨by simp,by omega,by simp[hc,Sp.cnt1]⟩
   case round =>
    rintro _ _ _ ⟨c2,j,y,_,rfl,hle3,H,hinv3,rfl⟩
    have hlist:=hlist.up hle3
    have hle1:=hle1.trans hle3
    obtain⟨hy,_,hc2⟩:=hinv3;have hc4:=(Sp.tree_at hT hy).2;have hc1:=Sp.cnt1_le id (y.ids.take j);have htk:(y.ids.take j).length≤j:=by simp;omega
    refine W_seq (q2 (pe 3 Z (iP k hlist Z3 Z ?_)));intro _ _ z4 _ hz4 hE4 hrow4
    obtain⟨_,_,_,rfl,_,_,_,_⟩:=ox hE4
    have hzz4:y=z4:=Option.some.inj (hy.symm.trans hz4)
    subst hzz4
    refine fA 2 Z (lP H hrow4 2 Z2 (lN Z (pe 1 Z (q3 ?_))))
    refine W_cond Z ?_ ?_
    ·intro hc5
     try simp only[nrm]at hc5
     refine W_skip (N_K (W_seq (W_block (q2 (pe 2 Z (iP k hlist Z3 Z ?_))))));intro _ _ z6 _ hz6 hE6 hrow6
     obtain⟨_,_,_,rfl,_,hr6,_,_⟩:=ox hE6
     have hzz6:y=z6:=Option.some.inj (hy.symm.trans hz6)
     subst hzz6
     refine fA 2 Z (lP H hrow6 2 Z2 (mV Z (iP j hr6 Z3 Z ?_)));intro _ _ _ _ hz7 hE7 hrow7
     obtain⟨rfl,_⟩:=hE7
     refine lP H hrow7 0 Z2 (pe 2 Z (q3 ?_))
     refine W_cond Z ?_ ?_
     ·intro hc8
      try simp only[nrm]at hc8
      refine W_region (mV Z (aD Z2 (aG Z (R_nil (N_B (N_K (W_region (mV Z (aD Z2 (aG Z (R_nil ?_)))))))))))
      refine N_lp (hJ:=⟨c2+1,j+1,y,_,Z,hle3,H,?inv,Z⟩) (hm:=?hm)
      case hm=>omega
      case inv=>exact⟨hy,by omega,by rw[Sp.cnt1_succ hz7,if_pos oM,hc2];omega⟩
     intro hc8'
     try simp only[nrm]at hc8'
     refine W_skip (N_B (N_K (W_region (mV Z (aD Z2 (aG Z (R_nil ?_)))))))
     refine N_lp (hJ:=⟨c2,j+1,y,_,Z,hle3,H,?inv,Z⟩) (hm:=?hm)
     case hm=>omega
     case inv=>exact⟨hy,by omega,by rw[Sp.cnt1_succ hz7,if_neg oM,hc2];omega⟩
    intro hc5'
    try simp only[nrm]at hc5'
    refine W_exit (N_K_exit (N_LP_exit (N_B_same (N_B (N_K (W_region (mV Z (aD Z2 (aG Z (R_nil ?_))))))))))
    refine N_lp (hJ:=⟨c2,k+1,_,Z,hle1,H,?inv,Z⟩) (hm:=?hm)
    case hm=>omega
    case inv=>exact⟨by omega,by rw[hc2,Sp.cntU_succ hy,List.take_of_length_le oM]⟩
  intro hc2'
  try simp only[nrm]at hc2'
  refine W_exit (N_K_exit (N_LP_exit (N_B_same (N_K (q2 (pe 2 Z (q3 (W_ret (rt1 results94 Z ?_)))))))))
  obtain rfl:k=list.length:=by omega
  exact H.rets (congrArg (Value.int .i64) (by rw[hc];rfl))
theorem l11Files_c (w0:World)(G0:PH)(hG:PSub G0 w0)(vstore:Value)(store:List (BHeld))(hstore:RdH G0 vstore store)(vlist:Value)(list:List (BItem))(hlist:RdItems G0 vlist list) :
  Calls Tryz.prog 56 #[vstore,vlist] w0 (Rets w0 (.bool (Sp.l11Files store list))):=by
 obtain⟨astore,kstore,rfl⟩:=hstore.shape
 have hlimstore:store.length≤1099511627776:=hstore.lim
 obtain⟨alist,klist,rfl⟩:=hlist.shape
 have hlimlist:list.length≤1099511627776:=hlist.lim
 have H:=Hp.init hG
 refine calls_of_W (l:=[.slice astore store.length kstore,.slice alist list.length klist]) func56 Z ntmps56 Z (q2 (aG Z (q3 (W_seq (q2 (aG Z (q3 (W_block ?_))))))))
 refine W_lp (hf:=(Sub.cons (t:=0) Z (Sub.cons (t:=1) Z Sub.nil))) (J:=fun M w m=>∃(k:Nat) (G:PH),M=[(5,.int .i64 (k:Int))]∧PLe G0 G∧Hp w0 G0 [] w G []∧(k≤list.length∧(list.take k).all (Sp.fileOk store)=true)∧m=(list.length-k)) (h0:=⟨0,_,Z,PLe.refl _,H,?inv,Z⟩) (round:=?round)
 case inv=>exact⟨by omega,by simp⟩
 case round =>
  rintro _ _ _ ⟨k,_,rfl,hle1,H,hinv1,rfl⟩
  have hstore:=hstore.up hle1
  have hlist:=hlist.up hle1
  obtain⟨_,hall⟩:=hinv1
  refine W_seq (q2 (pe 2 Z (lN Z (pe 1 Z (q3 ?_)))))
  refine W_cond Z ?_ ?_
  ·intro hc2
   try simp only[nrm]at hc2
   refine W_skip (N_K (W_seq (W_block (q2 (pe 3 Z (iP k hlist Z3 Z ?_))))));intro _ _ _ _ hz3 hE3 hrow3
   obtain⟨_,_,_,rfl,_,hr3,_,_⟩:=ox hE3
   refine fA 2 Z (lP H hrow3 2 Z2 (xr H Z2 (l4Ids_c _ _ H.sub _ _ hstore _ _ hr3) ?_));intro _ H
   refine pe 1 Z (q3 ?_)
   refine W_cond Z ?_ ?_
   ·intro hc5
    try simp only[nrm]at hc5
    refine q2 (aG Z (q3 (W_ret (N_B_ret (N_K_ret (N_LP_ret (N_B_ret (N_K_ret (rt1 results56 Z ?_)))))))))
    exact H.rets (congrArg Value.bool (by rw[Sp.l11Files,Sp.all_false hz3 (by simp[Sp.fileOk, *])]))
   intro hc5'
   try simp only[nrm]at hc5'
   refine W_skip (N_B (N_K (W_region (mV Z (aD Z2 (aG Z (R_nil ?_)))))))
   refine N_lp (hJ:=⟨k+1,_,Z,hle1,H,?inv,Z⟩) (hm:=?hm)
   case hm=>omega
   case inv=>exact⟨by omega,Sp.all_take hall hz3 (by simp[Sp.fileOk, *])⟩
  intro hc2'
  try simp only[nrm]at hc2'
  refine W_exit (N_K_exit (N_LP_exit (N_B_same (N_K (q2 (aG Z (q3 (W_ret (rt1 results56 Z ?_)))))))))
  obtain rfl:k=list.length:=by omega
  rw[List.take_length]at hall
  exact H.rets (congrArg Value.bool (by rw[Sp.l11Files,hall]))
theorem l11Ids_c (w0:World)(G0:PH)(hG:PSub G0 w0)(vlist:Value)(list:List (BItem))(hlist:RdItems G0 vlist list)(path:Bs)(hpath:path.length≤16777216) :
  Calls Tryz.prog 150 #[vlist,str path] w0 (RetP w0 G0 (fun G v=>RdItems G v (Sp.l11Ids list path))):=by
 obtain⟨alist,klist,rfl⟩:=hlist.shape
 have hlimlist:list.length≤1099511627776:=hlist.lim
 have H:=Hp.init hG
 refine calls_of_W (l:=[.slice alist list.length klist,str path]) func150 Z ntmps150 Z (q2 (aG Z (q1 (pe 2 Z (xr H Z2 (l5At_c _ _ H.sub _ _ hlist _ hpath) ?_)))));intro _ H
 refine aG Z (q3 (W_seq (q2 (pe 3 Z ?_))))
 refine R_case (t:=11) Z ?_ ?_
 ·intro hc2
  try simp only[nrm]at hc2
  refine pe 6 Z (q3 (W_true Z (q2 (xbs H Z7 ?_))));intro _ _ _ H
  have H:=H.blkAcc 3 (k:=0) (n:=0) rfl rfl (by decide)
  refine aG Z (q3 (W_ret (N_K_ret (rt1 results150 Z ?_))))
  obtain⟨_,H,hsg504,hsr504⟩:=H.shut' (k:=0) rfl (Chk.nil (E:=itemE) (sz:=3) (G:=G0)) aN aN
  exact H.retP (by rw[show Sp.l11Ids list path=[] by simp[Sp.l11Ids,Sp.atI,Sp.at_none hc2]];exact hsr504)
 intro hc2'
 try simp only[nrm]at hc2'
 obtain⟨i,_,ia,ib,_,_,_⟩:=Sp.at_nat hc2'
 have ib:Sp.l5At list path=(i:Int):=ib
 have hl:Sp.atI list path=some i:=ia
 refine pe 2 Z (gR Z (iP i hlist Z3 ib ?_));intro _ _ _ _ hz4 hE4 hrow4
 obtain⟨_,_,_,rfl,_,hr4,_,_⟩:=ox hE4
 refine gR Z (fA 1 Z (gR Z (lP H hrow4 1 Z2 (pe 1 Z (q3 ?_)))))
 refine W_cond Z ?_ ?_
 ·intro hc5
  try simp only[nrm]at hc5
  refine q2 (xbs H Z7 ?_);intro _ _ _ H
  have H:=H.blkAcc 3 (k:=0) (n:=0) rfl rfl (by decide)
  refine aG Z (q3 (W_ret (N_K_ret (rt1 results150 Z ?_))))
  obtain⟨_,H,hsg507,hsr507⟩:=H.shut' (k:=0) rfl (Chk.nil (E:=itemE) (sz:=3) (G:=G0)) aN aN
  exact H.retP (by rw[show Sp.l11Ids list path=[] by simp[Sp.l11Ids,hl,hz4,hc5]];exact hsr507)
 intro hc5'
 try simp only[nrm]at hc5'
 refine W_skip (N_K (q2 (pe 3 Z (aD Z2 ?_))))
 have hcap8:=hlist.cap;try simp only[List.length_set,List.length_append,List.length_take,List.length_drop,List.length_replicate]at hcap8
 refine o_slice (i:=i) (j:=(i+1)) underlying24 sizeOf66 Z Z Z Z ib oM aN aN ?_
 have hsl8:=hlist.part (i:=i) (j:=(i+1)) oM oM
 have hsn1:=hsl8.len
 refine aG Z (q3 (W_ret (rt1 results150 Z ?_)))
 exact H.retP (by rw[show Sp.l11Ids list path=(list.drop i).take (i+1-i) by simp[Sp.l11Ids,hl,hz4,hc5',Sp.drop_at hz4]];exact hsl8)
theorem l12Count_c (w0:World)(G0:PH)(hG:PSub G0 w0)(cd:List Value)(d:BDisk)(hd:diskE G0 d cd)(id:Int)(hT:Sp.TreeValid d.tree=true)(hN:Sp.l12Snaps d=true) :
  Calls Tryz.prog 58 #[.agg cd.toArray,.int .i64 id] w0 (Rets w0 (.int .i64 (Sp.l12Count d id:Int))):=by
 obtain⟨_,_,_,_,_,_,_,_,_,rfl,hr1,hr1',hr1'',⟨_,_⟩,⟨_,_⟩,_,_⟩:=ox hd
 obtain⟨_,hst⟩:=Sp.snaps_at hN
 have htc:=Sp.l11Count_le hT (id:=id)
 have H:=Hp.init hG
 refine calls_of_W (l:=[_,.int .i64 id]) func58 Z ntmps58 Z (q2 (o_box H Z Z Z ?_));intro b2 _ _ H
 refine aG Z (q1 (fA 1 Z (lB 0 H Z3 (mV Z (xr H Z2 (l11Count_c _ _ H.sub _ _ hr1' _ hT) ?_)))));intro _ H
 refine aG Z (q3 (W_seq (q2 (aG Z (q3 (W_block ?_))))))
 obtain⟨ln4,hln4,H⟩:=H.name (k:=0) rfl
 refine W_lp (hf:=(Sub.cons (t:=1) Z (Sub.cons (t:=2) Z (Sub.cons (t:=4) Z Sub.nil)))) (J:=fun M w m=>∃(c k:Nat) (G:PH),M=[(5,.int .i64 (c:Int)),(6,.int .i64 (k:Int))]∧PLe G0 G∧Hp w0 G0 [] w G [blk b2 (cl ln4 27)]∧(k≤d.snaps.length∧c=Sp.l11Count d.tree id+Sp.cntS d.snaps id k)∧m=(d.snaps.length-k)) (h0:=⟨(Sp.l11Count d.tree id),0,_,Z,PLe.refl _,H,?inv,Z⟩) (round:=?round)
 case inv=>exact⟨by omega,by simp[Sp.cntS]⟩
 case round =>
  rintro _ _ _ ⟨c,k,_,rfl,hle5,H,hinv5,rfl⟩
  subst hln4
  have hr1'':=hr1''.up hle5
  obtain⟨hk,hc⟩:=hinv5;have hcu:=Sp.cntS_le hst k hk (id:=id)
  refine W_seq (q2 (mV Z (fA 2 Z (lB 0 H Z3 (lN Z (pe 1 Z (q3 ?_)))))))
  refine W_cond Z ?_ ?_
  ·intro hc6
   try simp only[nrm]at hc6
   refine W_skip (N_K (W_seq (W_block (W_region (mV Z (fA 2 Z (lB 0 H Z3 (mV Z (iP k hr1'' Z3 Z ?_)))))))));intro _ _ z7 _ hz7 hE7 hrow7
   obtain⟨_,_,_,rfl,_,hr7,_,_⟩:=ox hE7
   have hlz:=Sp.l11Count_le (hst _ (List.mem_of_getElem? hz7)) (id:=id)
   refine fA 1 Z (lP H hrow7 1 Z2 (mV Z ?_))
   refine xr H Z2 (l11Count_c _ _ H.sub _ _ hr7 _ (hst _ (List.mem_of_getElem? hz7))) ?_;intro _ H
   refine aD Z2 (aG Z (R_nil (N_B (N_K (W_region (mV Z (aD Z2 (aG Z (R_nil ?_)))))))))
   refine N_lp (hJ:=⟨c+Sp.l11Count z7.tree id,k+1,_,Z,hle5,H,?inv,Z⟩) (hm:=?hm)
   case hm=>omega
   case inv=>exact⟨by omega,by rw[hc,Sp.cntS_succ hz7];omega⟩
  intro hc6'
  try simp only[nrm]at hc6'
  refine W_exit (N_K_exit (N_LP_exit (N_B_same (N_K (q2 (pe 2 Z (q3 (W_ret (rt1 results58 Z ?_)))))))))
  obtain rfl:k=d.snaps.length:=by omega
  exact H.rets (congrArg (Value.int .i64) (by rw[hc];rfl))
theorem l12Snaps_c (w0:World)(G0:PH)(hG:PSub G0 w0)(cd:List Value)(d:BDisk)(hd:diskE G0 d cd) :
  Calls Tryz.prog 57 #[.agg cd.toArray] w0 (Rets w0 (.bool (Sp.l12Snaps d))):=by
 obtain⟨_,_,_,_,_,_,_,_,_,rfl,hr1,hr1',hr1'',⟨_,_⟩,⟨_,_⟩,_,_⟩:=ox hd
 have H:=Hp.init hG
 refine calls_of_W (l:=[_]) func57 Z ntmps57 Z (q2 (o_box H Z Z Z ?_));intro b2 _ _ H
 refine aG Z (q3 (W_seq (q2 (aG Z (q3 (W_block ?_))))))
 obtain⟨ln3,hln3,H⟩:=H.name (k:=0) rfl
 refine W_lp (hf:=(Sub.cons (t:=1) Z Sub.nil)) (J:=fun M w m=>∃(k:Nat) (G:PH),M=[(3,.int .i64 (k:Int))]∧PLe G0 G∧Hp w0 G0 [] w G [blk b2 (cl ln3 27)]∧(k≤d.snaps.length∧∀j,j<k→Sp.okS d j=true)∧m=(d.snaps.length-k)) (h0:=⟨0,_,Z,PLe.refl _,H,?inv,Z⟩) (round:=?round)
 case inv=>exact⟨by omega,fun j hj=>by omega⟩
 case round =>
  rintro _ _ _ ⟨k,_,rfl,hle4,H,hinv4,rfl⟩
  subst hln3
  have hr1:=hr1.up hle4
  have hr1'':=hr1''.up hle4
  obtain⟨_,hall⟩:=hinv4
  refine W_seq (q2 (mV Z (fA 2 Z (lB 0 H Z3 (lN Z (pe 1 Z (q3 ?_)))))))
  refine W_cond Z ?_ ?_
  ·intro hc5
   try simp only[nrm]at hc5
   refine W_skip (N_K (W_seq (W_block (q2 (fA 2 Z (lB 0 H Z3 (mV Z (iP k hr1'' Z3 Z ?_))))))));intro _ _ _ _ hz6 hE6 hrow6
   obtain⟨_,_,_,rfl,hi6,hr6,_,_⟩:=ox hE6
   refine o_loadagg_P H isAgg81 sizeOf81 Z Z hrow6 Z (xal H Z ?_);intro _ _ _ H
   refine xst 0 H Z8 ?_;intro _ H
   refine q1 (fA 0 Z (lB 0 H Z3 (xr H Z2 (l1Word_c _ _ hi6) ?_)));intro _ H
   refine pe 2 Z ?_
   refine R_case (t:=21) Z ?_ ?_
   ·intro hc10
    try simp only[nrm]at hc10
    refine pe 22 Z (q3 (W_true Z (q2 (aG Z (q3 (W_ret (N_B_ret (N_K_ret (N_LP_ret (N_B_ret (N_K_ret (rt1 results57 Z ?_))))))))))))
    exact H.rets (congrArg Value.bool (by rw[Sp.l12Snaps,Sp.not_all_range (k:=k) oM (by rw[Sp.okS_at hz6];simp[*]<;>(intros;omega))];rfl))
   intro hc10'
   try simp only[nrm]at hc10'
   refine gR Z (fA 2 Z (gR Z (lB 1 H Z3 (gR Z (fA 0 Z (gR Z (lB 0 H Z3 (gR Z (xr H Z2 (l12At_c _ _ H.sub _ _ hr1'' _ hi6) ?_)))))))));intro _ H
   refine pe 4 Z ?_
   refine R_case (t:=30) Z ?_ ?_
   ·intro hc12
    try simp only[nrm]at hc12
    refine pe 13 Z (q3 (W_true Z (q2 (aG Z (q3 (W_ret (N_B_ret (N_K_ret (N_LP_ret (N_B_ret (N_K_ret (rt1 results57 Z ?_))))))))))))
    exact H.rets (congrArg Value.bool (by rw[Sp.l12Snaps,Sp.not_all_range (k:=k) oM (by rw[Sp.okS_at hz6];simp[*]<;>(intros;omega))];rfl))
   intro hc12'
   try simp only[nrm]at hc12'
   refine gR Z (fA 1 Z (gR Z (lB 0 H Z3 (gR Z (xr H Z2 (TreeValid_c _ _ H.sub _ _ hr6) ?_)))));intro _ H
   refine pe 3 Z ?_
   refine R_case (t:=36) Z ?_ ?_
   ·intro hc14
    try simp only[nrm]at hc14
    refine pe 7 Z (q3 (W_true Z (q2 (aG Z (q3 (W_ret (N_B_ret (N_K_ret (N_LP_ret (N_B_ret (N_K_ret (rt1 results57 Z ?_))))))))))))
    exact H.rets (congrArg Value.bool (by rw[Sp.l12Snaps,Sp.not_all_range (k:=k) oM (by rw[Sp.okS_at hz6];simp[*]<;>(intros;omega))];rfl))
   intro hc14'
   try simp only[nrm]at hc14'
   refine gR Z (fA 0 Z (gR Z (lB 1 H Z3 (gR Z (fA 1 Z (gR Z (lB 0 H Z3 (gR Z (xr H Z2 (l11Files_c _ _ H.sub _ _ hr1 _ _ hr6) ?_)))))))));intro _ H
   refine pe 2 Z (q3 ?_)
   refine W_cond Z ?_ ?_
   ·intro hc16
    try simp only[nrm]at hc16
    refine q2 (aG Z (q3 (W_ret (N_B_ret (N_K_ret (N_LP_ret (N_B_ret (N_K_ret (rt1 results57 Z ?_)))))))))
    exact H.rets (congrArg Value.bool (by rw[Sp.l12Snaps,Sp.not_all_range (k:=k) oM (by rw[Sp.okS_at hz6];simp[*]<;>(intros;omega))];rfl))
   intro hc16'
   try simp only[nrm]at hc16'
   refine W_skip (N_B (N_K (W_region (mV Z (aD Z2 (aG Z (R_nil ?_)))))))
   have H:=H.dl 0
   refine N_lp (hJ:=⟨k+1,_,Z,hle4,H,?inv,Z⟩) (hm:=?hm)
   case hm=>omega
   case inv=>exact⟨by omega,Sp.upto_succ hall (by rw[Sp.okS_at hz6];simp[*])⟩
  intro hc5'
  try simp only[nrm]at hc5'
  refine W_exit (N_K_exit (N_LP_exit (N_B_same (N_K (q2 (fA 2 Z (lB 0 H Z3 (lN Z (pe 2 Z (q3 (W_ret (rt1 results57 Z ?_))))))))))))
  exact H.rets (congrArg Value.bool (by rw[Sp.l12Snaps,Sp.all_range (fun j hj=>hall j oM),Bool.true_and];rw[Bool.eq_iff_iff];simp;omega))
theorem DiskValid_c (w0:World)(G0:PH)(hG:PSub G0 w0)(cd:List Value)(d:BDisk)(hd:diskE G0 d cd) :
  Calls Tryz.prog 25 #[.agg cd.toArray] w0 (Rets w0 (.bool (Sp.DiskValid d))):=by
 obtain⟨_,_,_,_,_,_,_,_,_,rfl,hr1,hr1',hr1'',⟨_,_⟩,⟨_,_⟩,_,_⟩:=ox hd
 have H:=Hp.init hG
 refine calls_of_W (l:=[_]) func25 Z ntmps25 Z (q2 (o_box H Z Z Z ?_));intro b2 _ _ H
 refine aG Z (q3 (W_seq (q2 (fA 0 Z (lB 0 H Z3 (xr H Z2 (StoreValid_c _ _ H.sub _ _ hr1) ?_))))));intro _ H
 refine pe 2 Z ?_
 refine R_case (t:=8) Z ?_ ?_
 ·intro hc4
  try simp only[nrm]at hc4
  refine pe 18 Z (q3 (W_true Z (q2 (aG Z (q3 (W_ret (N_K_ret (rt1 results25 Z ?_))))))))
  exact H.rets (congrArg Value.bool (by simp[Sp.DiskValid,hc4]))
 intro hc4'
 try simp only[nrm]at hc4'
 refine gR Z (fA 1 Z (gR Z (lB 0 H Z3 (gR Z (xr H Z2 (TreeValid_c _ _ H.sub _ _ hr1') ?_)))));intro _ H
 refine pe 3 Z ?_
 refine R_case (t:=14) Z ?_ ?_
 ·intro hc6
  try simp only[nrm]at hc6
  refine pe 12 Z (q3 (W_true Z (q2 (aG Z (q3 (W_ret (N_K_ret (rt1 results25 Z ?_))))))))
  exact H.rets (congrArg Value.bool (by simp[Sp.DiskValid,hc6]))
 intro hc6'
 try simp only[nrm]at hc6'
 refine gR Z (fA 0 Z (gR Z (lB 0 H Z3 (gR Z (fA 1 Z (gR Z (lB 0 H Z3 (gR Z (xr H Z2 (l11Files_c _ _ H.sub _ _ hr1 _ _ hr1') ?_)))))))));intro _ H
 refine pe 3 Z ?_
 refine R_case (t:=22) Z ?_ ?_
 ·intro hc8
  try simp only[nrm]at hc8
  refine pe 4 Z (q3 (W_true Z (q2 (aG Z (q3 (W_ret (N_K_ret (rt1 results25 Z ?_))))))))
  exact H.rets (congrArg Value.bool (by simp[Sp.DiskValid,hc8]))
 intro hc8'
 try simp only[nrm]at hc8'
 refine gR Z (lA 0 3 H Z4 (gR Z (xr H Z2 (l12Snaps_c _ _ H.sub _ d ⟨_,_,_,_,_,_,_,_,_,Z,hr1,hr1',hr1''⟩) ?_)));intro _ H
 refine pe 2 Z (q3 ?_)
 refine W_cond Z ?_ ?_
 ·intro hc10
  try simp only[nrm]at hc10
  refine q2 (aG Z (q3 (W_ret (N_K_ret (rt1 results25 Z ?_)))))
  exact H.rets (congrArg Value.bool (by simp[Sp.DiskValid,hc10]))
 intro hc10'
 try simp only[nrm]at hc10'
 refine W_skip (N_K (W_seq (q2 (aG Z (q3 (W_block ?_))))))
 obtain⟨ln11,hln11,H⟩:=H.name (k:=0) rfl
 refine W_lp (hf:=(Sub.cons (t:=1) Z Sub.nil)) (J:=fun M w m=>∃(k:Nat) (G:PH),M=[(3,.int .i64 (k:Int))]∧PLe G0 G∧Hp w0 G0 [] w G [blk b2 (cl ln11 27)]∧(k≤d.store.length∧(d.store.take k).all (Sp.usesD d)=true)∧m=(d.store.length-k)) (h0:=⟨0,_,Z,PLe.refl _,H,?inv,Z⟩) (round:=?round)
 case inv=>exact⟨by omega,by simp⟩
 case round =>
  rintro _ _ _ ⟨k,G12,rfl,hle12,H,hinv12,rfl⟩
  subst hln11
  have hr1:=hr1.up hle12
  have hr1':=hr1'.up hle12
  have hr1'':=hr1''.up hle12
  obtain⟨_,hall⟩:=hinv12
  refine W_seq (q2 (mV Z (fA 0 Z (lB 0 H Z3 (lN Z (pe 1 Z (q3 ?_)))))))
  refine W_cond Z ?_ ?_
  ·intro hc13
   try simp only[nrm]at hc13
   refine W_skip (N_K (W_seq (W_block (W_seq (W_drawK [0] 15 H kR Z ?_)))));intro _ H;have hd14:=PLe.refl G12
   refine RD_t 0 Z kR Z (fun _ hK=>v_loadagg_B 0 hK isAgg27 sizeOf27 Z Z Z Z) (dF 1 0 Z2 (dB 2 0 Z4 (dE 3 Z2 ?_)))
   have hl15:=hr1.len
   obtain⟨_,_,z15,_,ha15,hz15,hq15,hE15,hrow15,_⟩:=hr1.at (i:=k) oM
   clear hq15
   obtain⟨_,_,_,rfl,_,_,_,_,_⟩:=ox hE15
   refine dI 4 3 k ha15 Z3 Z (dF 5 0 Z2 (dP 6 hrow15 0 Z3 (dF 8 0 Z2 (dB 9 0 Z4 (dE 10 Z2 ?_)))))
   have hl16:=hr1.len
   obtain⟨_,_,z16,_,ha16,hz16,hq16,hE16,hrow16,_⟩:=hr1.at (i:=k) oM
   clear hq16
   obtain⟨_,_,_,rfl,_,_,_,_,_⟩:=ox hE16
   have hzz16:z15=z16:=Option.some.inj (hz15.symm.trans hz16)
   subst hzz16
   refine dI 11 3 k ha16 Z3 Z (dF 12 2 Z2 (dP 13 hrow16 2 Z3 (r1 7 Z (xr H Z2 (l12Count_c _ _ H.sub _ d ⟨_,_,_,_,_,_,_,_,_,Z,hr1,hr1',hr1''⟩ _ hc6' hc10') ?_))));intro _ H
   refine q4 H hd14 (dE 14 Z2 (rz (N_K ?_)))
   refine W_cond Z ?_ ?_
   ·intro hc18
    try simp only[nrm]at hc18
    refine q2 (aG Z (q3 (W_ret (N_B_ret (N_K_ret (N_LP_ret (N_B_ret (N_K_ret (rt1 results25 Z ?_)))))))))
    exact H.rets (congrArg Value.bool (by rw[Sp.DiskValid,Sp.all_false hz15 (by simp[Sp.usesD, *])];rfl))
   intro hc18'
   try simp only[nrm]at hc18'
   refine W_skip (N_B (N_K (W_region (mV Z (aD Z2 (aG Z (R_nil ?_)))))))
   refine N_lp (hJ:=⟨k+1,_,Z,hle12,H,?inv,Z⟩) (hm:=?hm)
   case hm=>omega
   case inv=>exact⟨by omega,Sp.all_take hall hz15 (by simp[Sp.usesD, *])⟩
  intro hc13'
  try simp only[nrm]at hc13'
  refine W_exit (N_K_exit (N_LP_exit (N_B_same (N_K (q2 (aG Z (q3 (W_ret (rt1 results25 Z ?_)))))))))
  obtain rfl:k=d.store.length:=by omega
  rw[List.take_length]at hall
  exact H.rets (congrArg Value.bool (by simp[Sp.DiskValid,hall,hc4',hc6',hc8',hc10']))
theorem l4Load_c (w0:World)(G0:PH)(hG:PSub G0 w0)(vlist:Value)(list:List (BHeld))(hlist:RdH G0 vlist list)(vids:Value)(ids:List (Int))(hids:RdI G0 vids ids)(hl4:Sp.l4Ids list ids=true)(hSv:Sp.StoreValid list=true) :
  Calls Tryz.prog 27 #[vlist,vids] w0 (RetO w0 G0 (AccOf intE 1 3 (Sp.load list ids))):=by
 obtain⟨alist,klist,rfl⟩:=hlist.shape
 have hlimlist:list.length≤1099511627776:=hlist.lim
 obtain⟨aids,kids,rfl⟩:=hids.shape
 have hlimids:ids.length≤1099511627776:=hids.lim
 have H:=Hp.init hG
 have hil:=Sp.ids_le hl4
 refine calls_of_W (l:=[.slice alist list.length klist,.slice aids ids.length kids]) func27 Z ntmps27 Z (q2 (aG Z (q1 (xbs H Z7 ?_))));intro _ _ _ H
 have H:=H.blkAcc 1 (k:=0) (n:=0) rfl rfl (by decide)
 refine aG Z (q3 (W_seq (q2 (aG Z (q3 (W_block ?_))))))
 refine W_lp (hf:=(Sub.cons (t:=0) Z (Sub.cons (t:=1) Z (Sub.cons (t:=4) Z Sub.nil)))) (J:=fun M w m=>∃(v:Value) (n:Nat) (cs:List Value) (xs:List (Int)) (k:Nat) (G:PH),M=[(6,.int .i64 (k:Int)),(5,v)]∧PLe G0 G∧Hp w0 G0 [] w G [acc 3 1 v n cs]∧(Chk intE 1 G cs xs∧n=xs.length∧k≤ids.length∧xs.length≤8*k∧xs=Sp.load list (ids.take k))∧m=(ids.length-k)) (h0:=⟨_,_,_,[],0,_,Z,PLe.refl _,H,?inv,Z⟩) (round:=?round)
 case inv=>exact⟨(Chk.nil (E:=intE) (sz:=1) (G:=G0)),by first|rfl|simp|(simp;omega)|omega,(by exact⟨by omega,by simp,by simp[Sp.load]⟩)⟩
 case round =>
  rintro _ _ _ ⟨v,n,cs,xs,k,_,rfl,hle2,H,hinv2,rfl⟩
  have hlist:=hlist.up hle2
  have hids:=hids.up hle2
  obtain⟨hchk2_0,_,hinv2⟩:=hinv2
  obtain⟨_,_,rfl⟩:=H.accShape (k:=0) rfl
  obtain⟨_,_,hxs⟩:=hinv2
  refine W_seq (q2 (pe 2 Z (lN Z (pe 1 Z (q3 ?_)))))
  refine W_cond Z ?_ ?_
  ·intro hc3
   try simp only[nrm]at hc3
   refine W_skip (N_K (W_seq (W_block (W_region (pe 5 Z (iP k hids Z3 Z ?_))))));intro _ _ z4 _ hz4 hE4 hrow4
   obtain⟨rfl,_⟩:=hE4
   obtain⟨j,hj1,_,hj3⟩:=Sp.ids_at hSv hl4 hz4
   refine lP H hrow4 0 Z2 (xr H Z2 (l3At_c _ _ H.sub _ _ hlist _) ?_);intro _ H
   refine iP j hlist Z3 hj1 ?_;intro _ _ z6 _ hz6 hE6 hrow6
   obtain⟨_,_,_,rfl,_,hr6,_,_,_⟩:=ox hE6
   have hze:z6=Fw.getH list z4:=Option.some.inj (hz6.symm.trans hj3)
   have hzl:=Sp.get_len (Sp.valid_iff.1 hSv) z4
   (rw[←hze]at hzl)
   refine fA 1 Z (lP H hrow6 1 Z2 ?_)
   refine o_append_P 0 H hr6 (by intro _ cs hz _ hu;obtain⟨rfl,_⟩:=hz;simp at hu;subst hu;rfl) (sz:=1) (bytes:=8) underlying56 typeInfo3 ⟨_,rfl,rfl⟩ rfl rfl rfl rfl rfl rfl rfl oM rfl ?_;intro _ _ css7 hcl7 hcs7 H
   have hchk7:=hchk2_0.app (show Chk _ _ _ _ _ from⟨css7,rfl,hcl7,hcs7⟩)
   obtain⟨_,_,rfl⟩:=H.accShape (k:=0) rfl
   refine aG Z (R_nil (N_B (N_K (W_region (mV Z (aD Z2 (aG Z (R_nil ?_))))))))
   refine N_lp (hJ:=⟨_,_,_,(xs++z6.bytes),k+1,_,Z,hle2,H,?inv,Z⟩) (hm:=?hm)
   case hm=>omega
   case inv=>exact⟨hchk7,aN,(by exact⟨by omega,by (rw[List.length_append];omega),by (rw[Sp.load_succ hz4,hxs,hze])⟩)⟩
  intro hc3'
  try simp only[nrm]at hc3'
  refine W_exit (N_K_exit (N_LP_exit (N_B_same (N_K (q2 (pe 2 Z (q3 (W_ret (rt1 results27 Z ?_)))))))))
  obtain rfl:k=ids.length:=by omega
  rw[List.take_length]at hxs
  subst hxs
  exact H.retO (k:=0) rfl (AccOf.mk (by assumption) hchk2_0) (acc_nd _ _ _ _ _)
theorem l5Copy_c (w0:World)(G0:PH)(hG:PSub G0 w0)(cx:List Value)(x:BItem)(hx:itemE G0 x cx) :
  Calls Tryz.prog 59 #[.agg cx.toArray] w0 (RetP w0 G0 (fun G v=>∃cs,v= .agg cs.toArray∧itemE G x cs)):=by
 obtain⟨_,_,_,rfl,hi1,hr1,_,_⟩:=ox hx
 have H:=Hp.init hG
 refine calls_of_W (l:=[_]) func59 Z ntmps59 Z (q2 (o_box H Z Z Z ?_));intro _ _ _ H
 refine xal H Z ?_;intro _ _ _ H
 refine q1 (xbs H Z7 ?_);intro _ _ _ H
 have H:=H.blkAcc 1 (k:=0) (n:=0) rfl rfl (by decide)
 refine fA 2 Z (lB 2 H Z3 ?_)
 refine o_append_P 0 H hr1 (by intro _ _ hz _ hu;obtain⟨rfl,_⟩:=hz;simp at hu;subst hu;rfl) (sz:=1) (bytes:=8) underlying56 typeInfo3 ⟨_,rfl,rfl⟩ rfl rfl rfl rfl rfl rfl rfl oM rfl ?_;intro _ _ css5 hcl5 hcs5 H
 have hchk5:Chk intE 1 G0 ([]++css5.flatten) _:=⟨css5,rfl,hcl5,hcs5⟩
 obtain⟨_,_,rfl⟩:=H.accShape (k:=0) rfl
 refine fA 2 Z (xst 2 H Z8 ?_);intro _ H
 refine q1 (lA 2 3 H Z4 (xst 1 H Z8 ?_));intro _ H
 refine q3 (W_ret (ret_gen (rs:=[.cell 2 66]) (vs:=[_]) results59 ⟨⟨_,Z,load_blk 1 H isAgg66 sizeOf66 Z Z Z⟩,trivial⟩ ?_))
 obtain⟨_,H,hsg509,hsr509⟩:=H.shut' (k:=0) rfl hchk5 aN aN
 exact H.retP ⟨_,Z,⟨_,_,_,Z,hi1,hsr509⟩⟩
theorem l13Same_c (w0:World)(G0:PH)(hG:PSub G0 w0)(ca:List Value)(a:BItem)(ha:itemE G0 a ca)(cb:List Value)(b:BItem)(hb:itemE G0 b cb) :
  Calls Tryz.prog 60 #[.agg ca.toArray,.agg cb.toArray] w0 (Rets w0 (.bool (Sp.l13Same a b))):=by
 obtain⟨_,_,_,rfl,_,hr1,_,_⟩:=ox ha
 obtain⟨_,_,_,rfl,_,hr2,_,_⟩:=ox hb
 have H:=Hp.init hG
 refine calls_of_W (l:=[_,_]) func60 Z ntmps60 Z (q2 (o_box H Z Z Z ?_));intro _ _ _ H
 refine o_box H Z Z Z ?_;intro _ _ _ H
 refine aG Z (q1 (fA 0 Z (lB 1 H Z3 (fA 0 Z (lB 0 H Z3 (o_seql Z Z Z (mV Z ?_)))))))
 refine R_case (t:=10) Z ?_ ?_
 ·intro hc5
  try simp only[nrm]at hc5
  refine gR Z (fA 1 Z (gR Z (lB 1 H Z3 (gR Z (fA 1 Z (gR Z (lB 0 H Z3 (gR Z (o_beql underlying4 Z Z Z (pe 2 Z ?_))))))))))
  refine R_case (t:=17) Z ?_ ?_
  ·intro hc6
   try simp only[nrm]at hc6
   refine gR Z (fA 2 Z (gR Z (lB 1 H Z3 (gR Z (fA 2 Z (gR Z (lB 0 H Z3 (gR Z (xr H Z2 (l2Same_c _ _ H.sub _ _ hr1 _ _ hr2) ?_)))))))));intro _ H
   refine pe 2 Z (q3 (W_ret (rt1 results60 Z ?_)))
   exact H.rets (congrArg Value.bool (by simp_all [Sp.l13Same,Sp.l2Same]))
  intro hc6'
  try simp only[nrm]at hc6'
  refine pe 7 Z (q3 (W_ret (rt1 results60 Z ?_)))
  exact H.rets (congrArg Value.bool (by simp_all [Sp.l13Same,Sp.l2Same]))
 intro hc5'
 try simp only[nrm]at hc5'
 refine pe 14 Z (q3 (W_ret (rt1 results60 Z ?_)))
 exact H.rets (congrArg Value.bool (by simp_all [Sp.l13Same,Sp.l2Same]))
theorem ChangesOf_c (w0:World)(G0:PH)(hG:PSub G0 w0)(va:Value)(a:List (BItem))(ha:RdItems G0 va a)(vb:Value)(b:List (BItem))(hb:RdItems G0 vb b)(hta:Sp.TreeValid a=true)(htb:Sp.TreeValid b=true) :
  Calls Tryz.prog 26 #[va,vb] w0 (RetP w0 G0 (fun G v=>∃u,v= .tuple #[u,.bool true]∧RdPart G u ((Sp.chg a b).map Sp.chP))):=by
 obtain⟨aa,ka,rfl⟩:=ha.shape
 have hlima:a.length≤1099511627776:=ha.lim
 obtain⟨ab,kb,rfl⟩:=hb.shape
 have hlimb:b.length≤1099511627776:=hb.lim
 have hla:=Sp.tree_len hta;have hlb:=Sp.tree_len htb
 have H:=Hp.init hG
 refine calls_of_W (l:=[.slice aa a.length ka,.slice ab b.length kb]) func26 Z ntmps26 Z (q2 (pe 2 Z (q1 (xbs H Z7 ?_))));intro _ _ _ H
 have H:=H.blkAcc 4 (k:=0) (n:=0) rfl rfl (by decide)
 refine aG Z (q3 (W_seq (q2 (mV Z (xr H Z2 (TreeValid_c _ _ H.sub _ _ ha) ?_)))));intro _ H
 refine pe 2 Z ?_
 refine R_case (t:=13) Z ?_ ?_
 ·intro hc3
  try simp only[nrm]at hc3
  refine pe 4 Z (q3 (W_true Z (q2 (pe 3 Z (q3 (W_ret (N_K_ret (rt2 results26 Z Z ?_))))))))
  exact absurd (show False by simp_all) id
 intro hc3'
 try simp only[nrm]at hc3'
 refine pe 1 Z (gR Z (xr H Z2 (TreeValid_c _ _ H.sub _ _ hb) ?_));intro _ H
 refine pe 2 Z (q3 ?_)
 refine W_cond Z ?_ ?_
 ·intro hc5
  try simp only[nrm]at hc5
  refine q2 (pe 3 Z (q3 (W_ret (N_K_ret (rt2 results26 Z Z ?_)))))
  exact absurd (show False by simp_all) id
 intro hc5'
 try simp only[nrm]at hc5'
 refine W_skip (N_K (q2 (aG Z (q1 (aG Z (q3 (W_seq (W_block ?_))))))))
 refine W_lp (hf:=(Sub.cons (t:=0) Z (Sub.cons (t:=1) Z (Sub.cons (t:=4) Z (Sub.cons (t:=5) Z Sub.nil))))) (J:=fun M w m=>∃(v:Value) (n:Nat) (cs:List Value) (xs:List (BPart)) (i k:Nat) (G:PH),M=[(7,.int .i64 (i:Int)),(8,.int .i64 (k:Int)),(6,v)]∧PLe G0 G∧Hp w0 G0 [] w G [acc 68 4 v n cs]∧(Chk partE 4 G cs xs∧n=xs.length∧i≤a.length∧k≤b.length∧Sp.CG a b i k xs∧xs.length≤i+k)∧m=((a.length-i)+(b.length-k))) (h0:=⟨_,_,_,[],0,0,_,Z,PLe.refl _,H,?inv,Z⟩) (round:=?round)
 case inv=>exact⟨(Chk.nil (E:=partE) (sz:=4) (G:=G0)),by first|rfl|simp|(simp;omega)|omega,(by exact⟨by omega,by omega,Sp.CG.zero,by simp⟩)⟩
 case round =>
  rintro _ _ _ ⟨v,n,cs,xs,i,k,G6,rfl,hle6,H,hinv6,rfl⟩
  have ha:=ha.up hle6
  have hb:=hb.up hle6
  obtain⟨hchk6_0,_,hinv6⟩:=hinv6
  obtain⟨av6_0,cv6_0,rfl⟩:=H.accShape (k:=0) rfl
  obtain⟨_,_,hcg,_⟩:=hinv6
  refine W_seq ?_
  have hj7:=PLe.refl G6
  refine W_join (hf:=(Sub.cons (t:=0) Z (Sub.cons (t:=1) Z (Sub.cons (t:=4) Z (Sub.cons (t:=5) Z (Sub.cons (t:=6) Z (Sub.cons (t:=7) Z (Sub.cons (t:=8) Z Sub.nil)))))))) (J:=fun M w=>∃(cc:Bool) (G:PH),M=[(28,.bool cc)]∧PLe G6 G∧Hp w0 G0 [] w G [acc 68 4 (.slice av6_0 n cv6_0) n cs]∧(cc=Sp.moreB a b i k)) (first:=?_) (second:=?_)
  ·skip
   refine W_region (pe 2 Z (lN Z (pe 2 Z ?_)))
   refine R_case (t:=23) Z ?_ ?_
   ·intro hc8
    try simp only[nrm]at hc8
    refine pe 5 Z (R_nil ?_)
    refine N_J ⟨_,_,Z,hj7,H,?jinv⟩
    case jinv=>(unfold Sp.moreB;rw[Bool.eq_iff_iff];simp;omega)
   intro hc8'
   try simp only[nrm]at hc8'
   refine pe 2 Z (gR Z (lN Z (pe 2 Z (R_nil ?_))))
   refine N_J ⟨_,_,Z,hj7,H,?jinv⟩
   case jinv=>(unfold Sp.moreB;rw[Bool.eq_iff_iff];simp;omega)
  rintro _ _ ⟨cc,G7,rfl,hle7,H,hinv7⟩
  have ha:=ha.up hle7
  have hb:=hb.up hle7
  have hchk6_0:=hchk6_0.up hle7
  have hle6:=hle6.trans hle7
  obtain rfl:=hinv7
  refine W_cond Z ?_ ?_
  ·intro hc9
   try simp only[nrm]at hc9
   have hmB:=hc9
   refine W_skip (N_K (W_block (W_block ?_)))
   have hj10:=PLe.refl G7
   refine W_join (hf:=(Sub.cons (t:=0) Z (Sub.cons (t:=1) Z (Sub.cons (t:=4) Z (Sub.cons (t:=5) Z (Sub.cons (t:=6) Z (Sub.cons (t:=7) Z (Sub.cons (t:=8) Z Sub.nil)))))))) (J:=fun M w=>∃(cc:Bool) (G:PH),M=[(78,.bool cc)]∧PLe G7 G∧Hp w0 G0 [] w G [acc 68 4 (.slice av6_0 n cv6_0) n cs]∧(cc=Sp.goneB a b i k)) (first:=?_) (second:=?_)
   ·skip
    refine W_drawK [] 24 H kR Z ?_;intro _ H;have hd11:=PLe.refl G7
    refine dE 0 Z2 (dE 1 Z2 (dN 2 Z2 (dE 3 Z2 (dE 4 Z2 ?_))))
    refine RD_case (t:=83) Z ?_ ?_
    ·intro hc12
     try simp only[nrm]at hc12
     refine dE 5 Z2 (dE 6 Z2 (dE 7 Z2 (dE 8 Z2 (dE 9 Z2 (RD_pass 10 Z kR kR kR Z (yl_un Z Z) (RD_pass 11 Z kR kR kR Z (yl_un Z Z) (RD_pass 12 Z kR kR kR Z (yl_un Z Z) (RD_pass 13 Z kR kR kR Z (yl_un Z Z) (RD_pass 14 Z kR kR kR Z (yl_un Z Z) (RD_pass 15 Z kR kR kR Z (yl_un Z Z) (RD_pass 16 Z kR kR kR Z (yl_un Z Z) (RD_pass 17 Z kR kR kR Z (yl_un Z Z) (RD_pass 18 Z kR kR kR Z (yl_un Z Z) (RD_pass 19 Z kR kR kR Z (yl_un Z Z) (RD_pass 20 Z kR kR kR Z (yl_un Z Z) ?_)))))))))))))))
     refine dE 21 Z2 (dE 22 Z2 (dE 23 Z2 (rz ?_)))
     refine N_J ⟨_,_,Z,hj10,H,?jinv⟩
     case jinv=>first|exact Sp.goneB_t oM|exact Sp.goneB_f oM oM|skip
    intro hc12'
    try simp only[nrm]at hc12'
    refine dE 5 Z2 (dE 6 Z2 (dN 7 Z2 (dE 8 Z2 (dE 9 Z2 ?_))))
    refine RD_case (t:=88) Z ?_ ?_
    ·intro hc13
     try simp only[nrm]at hc13
     refine dE 10 Z2 (dE 11 Z2 ?_)
     have hl14:=ha.len
     obtain⟨_,_,_,_,ha14,hz14,hq14,hE14,hrow14,_⟩:=ha.at (i:=i) oM
     clear hq14
     obtain⟨_,_,_,rfl,_,_,_,_⟩:=ox hE14
     refine dI 12 3 i ha14 Z3 Z (dF 13 0 Z2 (dP 14 hrow14 0 Z3 (dE 15 Z2 (dE 16 Z2 ?_))))
     have hl15:=hb.len
     obtain⟨_,_,_,_,ha15,hz15,hq15,hE15,hrow15,_⟩:=hb.at (i:=k) oM
     clear hq15
     obtain⟨_,_,_,rfl,_,_,_,_⟩:=ox hE15
     refine dI 17 3 k ha15 Z3 Z (dF 18 0 Z2 (dP 19 hrow15 0 Z3 (RD_tg 20 Z kR Z (yl Z Z) (fun _ hK=>v_slss Z Z) (dE 21 Z2 (dE 22 Z2 (dE 23 Z2 (rz ?_)))))))
     refine N_J ⟨_,_,Z,hj10,H,?jinv⟩
     case jinv=>first|exact Sp.goneB_t oM|exact Sp.goneB_f oM oM|exact Sp.goneB_c hz14 hz15 oM|exact Sp.goneB_c hz15 hz14 oM
    intro hc13'
    try simp only[nrm]at hc13'
    refine dE 10 Z2 (dE 11 Z2 (dE 12 Z2 (dE 13 Z2 (dE 14 Z2 (dE 15 Z2 (dE 16 Z2 (dE 17 Z2 (dE 18 Z2 (dE 19 Z2 (dE 20 Z2 (dE 21 Z2 (dE 22 Z2 (dE 23 Z2 (rz ?_))))))))))))))
    refine N_J ⟨_,_,Z,hj10,H,?jinv⟩
    case jinv=>first|exact Sp.goneB_t oM|exact Sp.goneB_f oM oM|skip
   rintro _ _ ⟨cc,G10,rfl,hle10,H,hinv10⟩
   have ha:=ha.up hle10
   have hb:=hb.up hle10
   have hchk6_0:=hchk6_0.up hle10
   have hle6:=hle6.trans hle10
   obtain rfl:=hinv10
   refine W_cond Z ?_ ?_
   ·intro hc16
    try simp only[nrm]at hc16
    have hgB:=hc16
    have hia:=Sp.gone_lt hmB hgB
    refine q2 (pe 3 Z (iP i ha Z3 Z ?_));intro _ _ z17 _ hz17 hE17 hrow17
    obtain⟨_,_,_,rfl,hi17,hr17,_,_⟩:=ox hE17
    refine o_loadagg_P H isAgg66 sizeOf66 Z Z hrow17 Z (xc Z2 (l5Copy_c _ _ H.sub _ _ ⟨_,_,_,Z,hi17,hr17⟩) ?_)
    rintro _ _ ⟨_,_,g18,rfl,_,rfl,hr18_0⟩
    have H:=H.grow g18
    have hchk6_0:=hchk6_0.up g18.le
    have hle6:=hle6.trans g18.le
    obtain⟨_,_,_,rfl,hi19,hr19,_,_⟩:=ox hr18_0
    refine⟨_,Z,?_⟩
    refine o_build bf68 Z Z Z (xbs H Z7 ?_);intro _ _ _ H
    refine o_append1 0 H (sz:=4) (bytes:=56) underlying62 typeInfo68 ⟨_,Z,Z⟩ Z Z Z Z Z Z Z Z Z Z oM Z ?_;intro _ _ H
    have hchk21:=hchk6_0.snoc (show partE _ ⟨2,z17.path,z17.dir,z17.ids⟩ _ from⟨_,_,_,rfl,⟨by first|omega|(dsimp only;omega),by first|omega|(dsimp only;omega)⟩,hi19,hr19⟩) rfl
    obtain⟨_,_,rfl⟩:=H.accShape (k:=0) rfl
    refine aG Z (q3 (W_region (mV Z (aD Z2 (aG Z (R_nil (N_B (N_B ?_))))))))
    refine N_lp (hJ:=⟨_,_,_,(xs++[⟨2,z17.path,z17.dir,z17.ids⟩]),i+1,k,_,Z,hle6,H,?inv,Z⟩) (hm:=?hm)
    case hm=>omega
    case inv=>exact⟨hchk21,aN,(by exact⟨by omega,by omega,hcg.step (c:=[⟨2,z17⟩]) (Sp.chg_goneB hz17 hgB),by (simp;omega)⟩)⟩
   intro hc16'
   try simp only[nrm]at hc16'
   have hgB':=hc16'
   have hkb:=Sp.new_lt hgB'
   have hj23:=PLe.refl G10
   refine W_join (hf:=(Sub.cons (t:=0) Z (Sub.cons (t:=1) Z (Sub.cons (t:=4) Z (Sub.cons (t:=5) Z (Sub.cons (t:=6) Z (Sub.cons (t:=7) Z (Sub.cons (t:=8) Z Sub.nil)))))))) (J:=fun M w=>∃(cc:Bool) (G:PH),M=[(113,.bool cc)]∧PLe G10 G∧Hp w0 G0 [] w G [acc 68 4 (.slice av6_0 n cv6_0) n cs]∧(cc=Sp.newB a b i k)) (first:=?_) (second:=?_)
   ·skip
    refine W_drawK [] 18 H kR Z ?_;intro _ H;have hd24:=PLe.refl G10
    refine dE 0 Z2 (dE 1 Z2 (dN 2 Z2 (dE 3 Z2 (dE 4 Z2 ?_))))
    refine RD_case (t:=118) Z ?_ ?_
    ·intro hc25
     try simp only[nrm]at hc25
     refine dE 5 Z2 (dE 6 Z2 (dE 7 Z2 (dE 8 Z2 (dE 9 Z2 (dE 10 Z2 (dE 11 Z2 (dE 12 Z2 (dE 13 Z2 (dE 14 Z2 (dE 15 Z2 (dE 16 Z2 (dE 17 Z2 (rz ?_)))))))))))))
     refine N_J ⟨_,_,Z,hj23,H,?jinv⟩
     case jinv=>first|exact Sp.newB_t oM|skip
    intro hc25'
    try simp only[nrm]at hc25'
    refine dE 5 Z2 (dE 6 Z2 ?_)
    have hl26:=hb.len
    obtain⟨_,_,_,_,ha26,hz26,hq26,hE26,hrow26,_⟩:=hb.at (i:=k) oM
    clear hq26
    obtain⟨_,_,_,rfl,_,_,_,_⟩:=ox hE26
    refine dI 7 3 k ha26 Z3 Z (dF 8 0 Z2 (dP 9 hrow26 0 Z3 (dE 10 Z2 (dE 11 Z2 ?_))))
    have hl27:=ha.len
    obtain⟨_,_,_,_,ha27,hz27,hq27,hE27,hrow27,_⟩:=ha.at (i:=i) oM
    clear hq27
    obtain⟨_,_,_,rfl,_,_,_,_⟩:=ox hE27
    refine dI 12 3 i ha27 Z3 Z (dF 13 0 Z2 (dP 14 hrow27 0 Z3 (RD_tg 15 Z kR Z (yl Z Z) (fun _ hK=>v_slss Z Z) (dE 16 Z2 (dE 17 Z2 (rz ?_))))))
    refine N_J ⟨_,_,Z,hj23,H,?jinv⟩
    case jinv=>first|exact Sp.newB_t oM|exact Sp.newB_c hz26 hz27 oM|exact Sp.newB_c hz27 hz26 oM
   rintro _ _ ⟨cc,G23,rfl,hle23,H,hinv23⟩
   have ha:=ha.up hle23
   have hb:=hb.up hle23
   have hchk6_0:=hchk6_0.up hle23
   have hle6:=hle6.trans hle23
   obtain rfl:=hinv23
   refine W_cond Z ?_ ?_
   ·intro hc28
    try simp only[nrm]at hc28
    have hnB:=hc28
    refine q2 (pe 3 Z (iP k hb Z3 Z ?_));intro _ _ z29 _ hz29 hE29 hrow29
    obtain⟨_,_,_,rfl,hi29,hr29,_,_⟩:=ox hE29
    refine o_loadagg_P H isAgg66 sizeOf66 Z Z hrow29 Z (xc Z2 (l5Copy_c _ _ H.sub _ _ ⟨_,_,_,Z,hi29,hr29⟩) ?_)
    rintro _ _ ⟨_,_,g30,rfl,_,rfl,hr30_0⟩
    have H:=H.grow g30
    have hchk6_0:=hchk6_0.up g30.le
    have hle6:=hle6.trans g30.le
    obtain⟨_,_,_,rfl,hi31,hr31,_,_⟩:=ox hr30_0
    refine⟨_,Z,?_⟩
    refine o_build bf68 Z Z Z (xbs H Z7 ?_);intro _ _ _ H
    refine o_append1 0 H (sz:=4) (bytes:=56) underlying62 typeInfo68 ⟨_,Z,Z⟩ Z Z Z Z Z Z Z Z Z Z oM Z ?_;intro _ _ H
    have hchk33:=hchk6_0.snoc (show partE _ ⟨1,z29.path,z29.dir,z29.ids⟩ _ from⟨_,_,_,rfl,⟨by first|omega|(dsimp only;omega),by first|omega|(dsimp only;omega)⟩,hi31,hr31⟩) rfl
    obtain⟨_,_,rfl⟩:=H.accShape (k:=0) rfl
    refine aG Z (q3 (W_region (mV Z (aD Z2 (aG Z (R_nil (N_B (N_B ?_))))))))
    refine N_lp (hJ:=⟨_,_,_,(xs++[⟨1,z29.path,z29.dir,z29.ids⟩]),i,k+1,_,Z,hle6,H,?inv,Z⟩) (hm:=?hm)
    case hm=>omega
    case inv=>exact⟨hchk33,aN,(by exact⟨by omega,by omega,hcg.step (c:=[⟨1,z29⟩]) (Sp.chg_newB hz29 hgB' hnB),by (simp;omega)⟩)⟩
   intro hc28'
   try simp only[nrm]at hc28'
   have hnB':=hc28'
   have hia:=Sp.both_lt hnB'
   refine W_seq (W_seq (W_drawK [] 11 H kR Z ?_));intro _ H;have hd35:=PLe.refl G23
   refine dE 0 Z2 (dE 1 Z2 ?_)
   have hl36:=ha.len
   obtain⟨_,_,z36,_,ha36,hz36,hq36,hE36,hrow36,_⟩:=ha.at (i:=i) oM
   clear hq36
   obtain⟨_,_,_,rfl,_,hr36,_,_⟩:=ox hE36
   refine dI 2 3 i ha36 Z3 Z (dF 3 1 Z2 (dP 4 hrow36 1 Z3 (dE 5 Z2 (dE 6 Z2 ?_))))
   have hl37:=hb.len
   obtain⟨_,_,z37,_,ha37,hz37,hq37,hE37,hrow37,_⟩:=hb.at (i:=k) oM
   clear hq37
   obtain⟨_,_,_,rfl,_,hr37,_,_⟩:=ox hE37
   refine dI 7 3 k ha37 Z3 Z (dF 8 1 Z2 (dP 9 hrow37 1 Z3 (RD_t 10 Z kR Z (fun _ hK=>v_bneq underlying4 Z Z) (rz (N_K ?_)))))
   refine W_cond Z ?_ ?_
   ·intro hc38
    try simp only[nrm]at hc38
    refine W_drawK [] 16 H kR Z ?_;intro _ H;have hd39:=PLe.refl G23
    refine dE 0 Z2 (dE 1 Z2 (dE 2 Z2 ?_))
    have hl40:=ha.len
    obtain⟨_,_,z40,_,ha40,hz40,hq40,hE40,hrow40,_⟩:=ha.at (i:=i) oM
    clear hq40
    obtain⟨_,_,_,rfl,hi40,hr40,_,_⟩:=ox hE40
    have hzz40:z36=z40:=Option.some.inj (hz36.symm.trans hz40)
    subst hzz40
    refine dI 3 3 i ha40 Z3 Z (RD_t 4 Z kR Z (fun _ hK=>v_loadagg_P hK isAgg66 sizeOf66 Z hrow40 Z) (dE 7 Z2 (dE 8 Z2 ?_)))
    have hl41:=hb.len
    obtain⟨_,_,z41,_,ha41,hz41,hq41,hE41,hrow41,_⟩:=hb.at (i:=k) oM
    clear hq41
    obtain⟨_,_,_,rfl,hi41,hr41,_,_⟩:=ox hE41
    have hzz41:z37=z41:=Option.some.inj (hz37.symm.trans hz41)
    subst hzz41
    refine dI 9 3 k ha41 Z3 Z (RD_t 10 Z kR Z (fun _ hK=>v_loadagg_P hK isAgg66 sizeOf66 Z hrow41 Z) (r1 5 Z (xc Z2 (l5Copy_c _ _ H.sub _ _ ⟨_,_,_,Z,hi40,hr40⟩) ?_)))
    rintro _ _ ⟨_,_,g42,rfl,_,rfl,hr42_0⟩
    have H:=H.grow g42
    have hchk6_0:=hchk6_0.up g42.le
    have hr41:=hr41.up g42.le
    have hle6:=hle6.trans g42.le
    have hd39:=hd39.trans g42.le
    obtain⟨_,_,_,rfl,hi43,hr43,_,_⟩:=ox hr42_0
    refine⟨_,Z,?_⟩
    refine q4 H hd39 (RD_t 6 Z kR Z (fun _ hK=>v_build bf68 Z Z) (r1 11 Z (xc Z2 (l5Copy_c _ _ H.sub _ _ ⟨_,_,_,Z,hi41,hr41⟩) ?_)))
    rintro _ _ ⟨G44,_,g44,rfl,_,rfl,hr44_0⟩
    have H:=H.grow g44
    have hchk6_0:=hchk6_0.up g44.le
    have hr43:=hr43.up g44.le
    have hle6:=hle6.trans g44.le
    have hd39:=hd39.trans g44.le
    obtain⟨_,_,_,rfl,hi45,hr45,_,_⟩:=ox hr44_0
    refine⟨_,Z,?_⟩
    refine q4 H hd39 (RD_t 12 Z kR Z (fun _ hK=>v_build bf68 Z Z) (r1 13 Z (xbs H Z7 ?_)));intro _ _ _ H
    refine q4 H hd39 (r1 14 Z (o_append1 0 H (sz:=4) (bytes:=56) underlying62 typeInfo68 ⟨_,Z,Z⟩ Z Z Z Z Z Z Z Z Z Z oM Z ?_));intro _ _ H
    have hchk47:=hchk6_0.app (((Chk.nil (E:=partE) (sz:=4) (G:=G44)).snoc (show partE _ (⟨2,z36.path,z36.dir,z36.ids⟩) _ from⟨_,_,_,rfl,⟨by first|omega|(dsimp only;omega),by first|omega|(dsimp only;omega)⟩,hi43,hr43⟩) rfl).snoc (show partE _ (⟨1,z37.path,z37.dir,z37.ids⟩) _ from⟨_,_,_,rfl,⟨by first|omega|(dsimp only;omega),by first|omega|(dsimp only;omega)⟩,hi45,hr45⟩) rfl)
    obtain⟨_,_,rfl⟩:=H.accShape (k:=0) rfl
    refine q4 H hd39 (dE 15 Z2 (rz (N_K (q2 (mV Z (aD Z2 (aG Z (q3 (W_region (mV Z (aD Z2 (aG Z (R_nil (N_B (N_B ?_)))))))))))))))
    refine N_lp (hJ:=⟨_,_,_,(xs++[⟨2,z36.path,z36.dir,z36.ids⟩,⟨1,z37.path,z37.dir,z37.ids⟩]),i+1,k+1,_,Z,hle6,H,?inv,Z⟩) (hm:=?hm)
    case hm=>omega
    case inv=>exact⟨hchk47,aN,(by exact⟨by omega,by omega,hcg.step (c:=[⟨2,z36⟩,⟨1,z37⟩]) (Sp.chg_kind hz36 hz37 (Sp.goneB_no hz36 hz37 hgB') (Sp.newB_no hz36 hz37 hnB') (by simpa using hc38)),by (simp;omega)⟩)⟩
   intro hc38'
   try simp only[nrm]at hc38'
   refine W_seq (W_drawK [] 10 H kR Z ?_);intro _ H;have hd50:=PLe.refl G23
   refine dE 0 Z2 (dE 1 Z2 ?_)
   have hl51:=ha.len
   obtain⟨_,_,z51,_,ha51,hz51,hq51,hE51,hrow51,_⟩:=ha.at (i:=i) oM
   clear hq51
   obtain⟨_,_,_,rfl,hi51,hr51,_,_⟩:=ox hE51
   have hzz51:z36=z51:=Option.some.inj (hz36.symm.trans hz51)
   subst hzz51
   refine dI 2 3 i ha51 Z3 Z (RD_t 3 Z kR Z (fun _ hK=>v_loadagg_P hK isAgg66 sizeOf66 Z hrow51 Z) (dE 4 Z2 (dE 5 Z2 ?_)))
   have hl52:=hb.len
   obtain⟨_,_,z52,_,ha52,hz52,hq52,hE52,hrow52,_⟩:=hb.at (i:=k) oM
   clear hq52
   obtain⟨_,_,_,rfl,hi52,hr52,_,_⟩:=ox hE52
   have hzz52:z37=z52:=Option.some.inj (hz37.symm.trans hz52)
   subst hzz52
   refine dI 6 3 k ha52 Z3 Z (RD_t 7 Z kR Z (fun _ hK=>v_loadagg_P hK isAgg66 sizeOf66 Z hrow52 Z) (r1 8 Z (xr H Z2 (l13Same_c _ _ H.sub _ _ ⟨_,_,_,Z,hi51,hr51⟩ _ _ ⟨_,_,_,Z,hi52,hr52⟩) ?_)));intro _ H
   refine q4 H hd50 (dE 9 Z2 (rz (N_K ?_)))
   refine W_cond Z ?_ ?_
   ·intro hc54
    try simp only[nrm]at hc54
    refine W_region (pe 3 Z (iP k hb Z3 Z ?_));intro _ _ z55 _ hz55 hE55 hrow55
    obtain⟨_,_,_,rfl,hi55,hr55,_,_⟩:=ox hE55
    have hzz55:z37=z55:=Option.some.inj (hz37.symm.trans hz55)
    subst hzz55
    refine o_loadagg_P H isAgg66 sizeOf66 Z Z hrow55 Z (xc Z2 (l5Copy_c _ _ H.sub _ _ ⟨_,_,_,Z,hi55,hr55⟩) ?_)
    rintro _ _ ⟨_,_,g56,rfl,_,rfl,hr56_0⟩
    have H:=H.grow g56
    have hchk6_0:=hchk6_0.up g56.le
    have hle6:=hle6.trans g56.le
    obtain⟨_,_,_,rfl,hi57,hr57,_,_⟩:=ox hr56_0
    refine⟨_,Z,?_⟩
    refine o_build bf68 Z Z Z (xbs H Z7 ?_);intro _ _ _ H
    refine o_append1 0 H (sz:=4) (bytes:=56) underlying62 typeInfo68 ⟨_,Z,Z⟩ Z Z Z Z Z Z Z Z Z Z oM Z ?_;intro _ _ H
    have hchk59:=hchk6_0.snoc (show partE _ ⟨3,z37.path,z37.dir,z37.ids⟩ _ from⟨_,_,_,rfl,⟨by first|omega|(dsimp only;omega),by first|omega|(dsimp only;omega)⟩,hi57,hr57⟩) rfl
    obtain⟨_,_,rfl⟩:=H.accShape (k:=0) rfl
    refine aG Z (q1 (mV Z (aD Z2 (aG Z (q3 (W_region (mV Z (aD Z2 (aG Z (R_nil (N_B (N_B ?_))))))))))))
    refine N_lp (hJ:=⟨_,_,_,(xs++[⟨3,z37.path,z37.dir,z37.ids⟩]),i+1,k+1,_,Z,hle6,H,?inv,Z⟩) (hm:=?hm)
    case hm=>omega
    case inv=>exact⟨hchk59,aN,(by exact⟨by omega,by omega,hcg.step (c:=[⟨3,z37⟩]) (Sp.chg_other hz36 hz37 (Sp.goneB_no hz36 hz37 hgB') (Sp.newB_no hz36 hz37 hnB') (by simpa using hc38') (by simpa using hc54)),by (simp;omega)⟩)⟩
   intro hc54'
   try simp only[nrm]at hc54'
   refine W_skip (N_K (q2 (mV Z (aD Z2 (aG Z (q3 (W_region (mV Z (aD Z2 (aG Z (R_nil (N_B (N_B ?_)))))))))))))
   refine N_lp (hJ:=⟨_,_,_,xs,i+1,k+1,_,Z,hle6,H,?inv,Z⟩) (hm:=?hm)
   case hm=>omega
   case inv=>exact⟨hchk6_0,aN,(by exact⟨by omega,by omega,by (have h9:=hcg.step (c:=[]) (Sp.chg_same hz36 hz37 (Sp.goneB_no hz36 hz37 hgB') (Sp.newB_no hz36 hz37 hnB') (by simpa using hc38') (by simpa using hc54'));simpa using h9),by omega⟩)⟩
  intro hc9'
  try simp only[nrm]at hc9'
  refine W_exit (N_K_exit (N_LP_exit (N_B_same (N_K (q2 (pe 3 Z (q3 (W_ret (rt2 results26 Z Z ?_)))))))))
  obtain⟨_,H,hsg64,hsr64⟩:=H.shut' (k:=0) rfl hchk6_0 aN aN
  obtain⟨h1,h2⟩:=Sp.moreB_no (by simpa using hc9')
  obtain rfl:=hcg.done h1 h2
  exact H.retP ⟨_,Z,hsr64⟩
theorem l14Tree_c (w0:World)(G0:PH)(hG:PSub G0 w0)(cd:List Value)(d:BDisk)(hd:diskE G0 d cd)(name:Bs)(hname:name.length≤16777216) :
  Calls Tryz.prog 24 #[.agg cd.toArray,str name] w0 (RetP w0 G0 (fun G v=>∃u,v= .tuple #[u,.bool (Sp.l14Tree d name).isSome]∧RdItems G u (Sp.ltD d name))):=by
 obtain⟨_,_,_,_,_,_,_,_,_,rfl,hr1,hr1',hr1'',⟨_,_⟩,⟨_,_⟩,_,_⟩:=ox hd
 have H:=Hp.init hG
 refine calls_of_W (l:=[_,str name]) func24 Z ntmps24 Z (q2 (o_box H Z Z Z ?_));intro _ _ _ H
 refine pe 2 Z (q1 (fA 2 Z (lB 0 H Z3 (mV Z (xr H Z2 (l12At_c _ _ H.sub _ _ hr1'' _ hname) ?_)))));intro _ H
 refine aG Z (q3 (W_seq (q2 (mV Z (o_seql Z Z Z (q3 ?_))))))
 refine W_cond Z ?_ ?_
 ·intro hc4
  try simp only[nrm]at hc4
  refine q2 (xbs H Z7 ?_);intro _ _ _ H
  have H:=H.blkAcc 3 (k:=0) (n:=0) rfl rfl (by decide)
  refine pe 2 Z (q3 (W_ret (N_K_ret (rt2 results24 Z Z ?_))))
  obtain⟨_,H,hsg6,hsr6⟩:=H.shut' (k:=0) rfl (Chk.nil (E:=itemE) (sz:=3) (G:=G0)) aN aN
  have H:=H.dl 0
  have hj:Sp.l14Tree d name=some []:=Sp.lt_nil (by simpa using hc4)
  exact H.retP ⟨_,(by rw[hj];rfl),(by rw[Sp.ltD,hj];exact hsr6)⟩
 intro hc4'
 try simp only[nrm]at hc4'
 refine W_skip (N_K (W_seq (q2 (pe 2 Z (q3 ?_)))))
 refine W_cond Z ?_ ?_
 ·intro hc7
  try simp only[nrm]at hc7
  refine q2 (xbs H Z7 ?_);intro _ _ _ H
  have H:=H.blkAcc 3 (k:=0) (n:=0) rfl rfl (by decide)
  refine pe 2 Z (q3 (W_ret (N_K_ret (rt2 results24 Z Z ?_))))
  obtain⟨_,H,hsg9,hsr9⟩:=H.shut' (k:=0) rfl (Chk.nil (E:=itemE) (sz:=3) (G:=G0)) aN aN
  have H:=H.dl 0
  have hj:Sp.l14Tree d name=none:=Sp.lt_no (by simpa using hc4') (Sp.at_none hc7)
  exact H.retP ⟨_,(by rw[hj];rfl),(by rw[Sp.ltD,hj];exact hsr9)⟩
 intro hc7'
 try simp only[nrm]at hc7'
 obtain⟨i,_,ia,ib,_,_,_⟩:=Sp.at_nat hc7'
 have ib:Sp.l12At d.snaps name=(i:Int):=ib
 have hat:Sp.atS d.snaps name=some i:=ia
 refine W_skip (N_K (q2 (fA 2 Z (lB 0 H Z3 (mV Z (iP i hr1'' Z3 ib ?_))))));intro _ _ z10 _ hz10 hE10 hrow10
 obtain⟨_,_,_,rfl,_,hr10,_,_⟩:=ox hE10
 refine fA 1 Z (lP H hrow10 1 Z2 (pe 2 Z (q3 (W_ret (rt2 results24 Z Z ?_)))))
 have H:=H.dl 0
 have hj:Sp.l14Tree d name=some z10.tree:=Sp.lt_yes (by simpa using hc4') hat hz10
 exact H.retP ⟨_,(by rw[hj];rfl),(by rw[Sp.ltD,hj];exact hr10)⟩
theorem StreamOf_c (w0:World)(G0:PH)(hG:PSub G0 w0)(cd:List Value)(d:BDisk)(hd:diskE G0 d cd)(fr:Bs)(hfr:fr.length≤16777216)(tt:Bs)(htt:tt.length≤16777216) :
  Calls Tryz.prog 8 #[.agg cd.toArray,str fr,str tt] w0 (RetO w0 G0 (fun G v r=>∃u,v= .tuple #[u,.bool (Sp.StreamOf d fr tt).isSome]∧AccOf partE 4 58 ((Sp.StreamOf d fr tt).getD []) G u r)):=by
 obtain⟨_,_,_,_,_,_,_,_,_,rfl,hr1,hr1',hr1'',⟨_,_⟩,⟨_,_⟩,_,_⟩:=ox hd
 have H:=Hp.init hG
 refine calls_of_W (l:=[_,str fr,str tt]) func8 Z ntmps8 Z (q2 (o_box H Z Z Z ?_));intro b2 _ _ H
 refine pe 2 Z (q1 (lA 0 3 H Z4 (mV Z (xc Z2 (l14Tree_c _ _ H.sub _ d ⟨_,_,_,_,_,_,_,_,_,Z,hr1,hr1',hr1''⟩ _ hfr) ?_))))
 rintro _ _ ⟨_,_,g3,rfl,_,rfl,hr3_0⟩
 have H:=H.grow g3
 have hr1:=hr1.up g3.le
 have hr1':=hr1'.up g3.le
 have hr1'':=hr1''.up g3.le
 obtain⟨_,_,rfl⟩:=hr3_0.shape;have hx_hr3_0:_≤1099511627776:=hr3_0.lim
 refine⟨_,Z,?_⟩
 refine pe 5 Z (q1 (lA 0 3 H Z4 (mV Z (xc Z2 (l14Tree_c _ _ H.sub _ d ⟨_,_,_,_,_,_,_,_,_,Z,hr1,hr1',hr1''⟩ _ htt) ?_))))
 rintro _ _ ⟨G4,_,g4,rfl,_,rfl,hr4_0⟩
 have H:=H.grow g4
 have hr1:=hr1.up g4.le
 have hr1':=hr1'.up g4.le
 have hr1'':=hr1''.up g4.le
 have hr3_0:=hr3_0.up g4.le
 obtain⟨_,_,rfl⟩:=hr4_0.shape;have hx_hr4_0:_≤1099511627776:=hr4_0.lim
 refine⟨_,Z,?_⟩
 refine pe 5 Z (q3 (W_seq (q2 (lA 0 3 H Z4 (xr H Z2 (DiskValid_c _ _ H.sub _ d ⟨_,_,_,_,_,_,_,_,_,Z,hr1,hr1',hr1''⟩) ?_)))));intro _ H
 refine pe 2 Z ?_
 refine R_case (t:=33) Z ?_ ?_
 ·intro hc6
  try simp only[nrm]at hc6
  refine pe 7 Z (q3 (W_true Z (q2 (xbs H Z7 ?_))));intro _ _ _ H
  have H:=H.blkAcc 4 (k:=0) (n:=0) rfl rfl (by decide)
  refine pe 2 Z (q3 (W_ret (N_K_ret (rt2 results8 Z Z ?_))))
  have hN:Sp.StreamOf d fr tt=none:=Sp.so_nov (by simpa using hc6)
  exact H.retO (k:=0) rfl (by rw[hN];exact⟨_,rfl,AccOf.mk aN (Chk.nil (E:=partE) (sz:=4) (G:=G4))⟩) (acc_nd _ _ _ _ _)
 intro hc6'
 try simp only[nrm]at hc6'
 refine pe 4 Z ?_
 refine R_case (t:=37) Z ?_ ?_
 ·intro hc8
  try simp only[nrm]at hc8
  refine pe 3 Z (q3 (W_true Z (q2 (xbs H Z7 ?_))));intro _ _ _ H
  have H:=H.blkAcc 4 (k:=0) (n:=0) rfl rfl (by decide)
  refine pe 2 Z (q3 (W_ret (N_K_ret (rt2 results8 Z Z ?_))))
  have hN:Sp.StreamOf d fr tt=none:=Sp.so_no1 (by simpa using hc8)
  exact H.retO (k:=0) rfl (by rw[hN];exact⟨_,rfl,AccOf.mk aN (Chk.nil (E:=partE) (sz:=4) (G:=G4))⟩) (acc_nd _ _ _ _ _)
 intro hc8'
 try simp only[nrm]at hc8'
 refine pe 3 Z (q3 ?_)
 refine W_cond Z ?_ ?_
 ·intro hc10
  try simp only[nrm]at hc10
  refine q2 (xbs H Z7 ?_);intro _ _ _ H
  have H:=H.blkAcc 4 (k:=0) (n:=0) rfl rfl (by decide)
  refine pe 2 Z (q3 (W_ret (N_K_ret (rt2 results8 Z Z ?_))))
  have hN:Sp.StreamOf d fr tt=none:=Sp.so_no2 (by simpa using hc10)
  exact H.retO (k:=0) rfl (by rw[hN];exact⟨_,rfl,AccOf.mk aN (Chk.nil (E:=partE) (sz:=4) (G:=G4))⟩) (acc_nd _ _ _ _ _)
 intro hc10'
 try simp only[nrm]at hc10'
 refine W_skip (N_K (q2 ?_))
 have hdv:Sp.DiskValid d=true:=by simp_all
 have hta:=Sp.ltD_valid hdv fr
 have htb:=Sp.ltD_valid hdv tt
 have hso:Sp.StreamOf d fr tt=some (((Sp.chg (Sp.ltD d fr) (Sp.ltD d tt)).map Sp.chP).map (Sp.pcP d.store)):=Sp.so_yes hdv (by simpa using hc8') (by simpa using hc10')
 have hVx:=Sp.valid_iff.1 (Sp.dv_store hdv)
 refine pe 2 Z (xc Z2 (ChangesOf_c _ _ H.sub _ _ hr3_0 _ _ hr4_0 hta htb) ?_)
 rintro _ _ ⟨G12,_,g12,rfl,_,rfl,hr12_0⟩
 have H:=H.grow g12
 have hr1:=hr1.up g12.le
 obtain⟨_,_,rfl⟩:=hr12_0.shape;have hx_hr12_0:_≤1099511627776:=hr12_0.lim
 refine⟨_,Z,?_⟩
 refine pe 5 Z (q1 ?_)
 have hchl:((Sp.chg (Sp.ltD d fr) (Sp.ltD d tt)).map Sp.chP).length≤24:=Sp.chL_len hdv fr tt
 refine xbs H Z7 ?_;intro _ _ _ H
 have H:=H.blkAcc 4 (k:=0) (n:=0) rfl rfl (by decide)
 refine aG Z (q3 (W_seq (q2 (aG Z (q3 (W_block ?_))))))
 obtain⟨ln14,hln14,H⟩:=H.name (k:=1) rfl
 refine W_lp (hf:=(Sub.cons (t:=3) Z (Sub.cons (t:=6) Z (Sub.cons (t:=7) Z (Sub.cons (t:=12) Z Sub.nil))))) (J:=fun M w m=>∃(v:Value) (n:Nat) (cs:List Value) (xs:List (BPart)) (k:Nat) (G:PH),M=[(15,.int .i64 (k:Int)),(14,v)]∧PLe G12 G∧Hp w0 G0 [] w G [acc 58 4 v n cs,blk b2 (cl ln14 27)]∧(Chk partE 4 G cs xs∧n=xs.length∧k≤((Sp.chg (Sp.ltD d fr) (Sp.ltD d tt)).map Sp.chP).length∧xs=(((Sp.chg (Sp.ltD d fr) (Sp.ltD d tt)).map Sp.chP).take k).map (Sp.pcP d.store))∧m=(((Sp.chg (Sp.ltD d fr) (Sp.ltD d tt)).map Sp.chP).length-k)) (h0:=⟨_,_,_,[],0,_,Z,PLe.refl _,H,?inv,Z⟩) (round:=?round)
 case inv=>exact⟨(Chk.nil (E:=partE) (sz:=4) (G:=G12)),by first|rfl|simp|(simp;omega)|omega,(by exact⟨by omega,rfl⟩)⟩
 case round =>
  rintro _ _ _ ⟨v,n,cs,xs,k,G15,rfl,hle15,H,hinv15,rfl⟩
  subst hln14
  have hr1:=hr1.up hle15
  have hr12_0:=hr12_0.up hle15
  obtain⟨hchk15_0,_,hinv15⟩:=hinv15
  obtain⟨_,_,rfl⟩:=H.accShape (k:=0) rfl
  obtain⟨_,hxs⟩:=hinv15;have hxl:xs.length=k:=(by rw[hxs,List.length_map,List.length_take];omega)
  refine W_seq (q2 (pe 2 Z (lN Z (pe 1 Z (q3 ?_)))))
  refine W_cond Z ?_ ?_
  ·intro hc16
   try simp only[nrm]at hc16
   refine W_skip (N_K (W_seq (W_block (q2 (pe 2 Z (iP k hr12_0 Z3 Z ?_))))));intro _ _ z17 _ hz17 hE17 hrow17
   obtain⟨_,_,_,rfl,_,hi17,hr17⟩:=hE17;have hy_hi17:_≤16777216:=hi17;have hn_hr17:=hr17.len;have hx_hr17:_≤1099511627776:=hr17.lim
   refine o_loadagg_P H isAgg68 sizeOf68 Z Z hrow17 Z (xal H Z ?_);intro _ _ _ H
   refine xst 0 H Z8 ?_;intro _ H
   refine q1 (fA 0 Z (lB 0 H Z3 (fA 1 Z (fA 0 Z (lB 0 H Z3 (fA 1 Z (fA 1 Z (lB 0 H Z3 (xbs H Z7 ?_)))))))));intro _ _ _ H
   have H:=H.blkAcc 1 (k:=0) (n:=0) rfl rfl (by decide)
   refine o_build bf58 Z Z Z (xal H Z ?_);intro _ _ _ H
   refine xst 0 H Z8 ?_;intro _ H
   refine q3 (W_seq (q2 (fA 0 Z (lB 2 H Z3 (pe 1 Z (q3 ?_))))))
   refine W_cond Z ?_ ?_
   ·intro hc23
    try simp only[nrm]at hc23
    refine W_region (fA 0 Z (lB 4 H Z3 (fA 1 Z (fA 2 Z (lB 2 H Z3 (xc Z2 (l4Load_c _ _ H.sub _ _ hr1 _ _ hr17 (Sp.ch_ids hdv hz17).1 (Sp.dv_store hdv)) ?_))))))
    rintro _ _ ⟨_,_,_,g24,rfl,⟨_,rfl,hchk24⟩,hp24,hq24,hs24⟩
    have H:=H.growO g24 hp24 hq24 hs24;obtain⟨_,_,rfl⟩:=H.accShape (k:=0) rfl
    have hchk15_0:=hchk15_0.up g24.le
    have hle15:=hle15.trans g24.le
    refine⟨_,Z,?_⟩
    have hl8:=Sp.load_len8 hVx z17.bytes;have hl4:=(Sp.ch_ids hdv hz17).2
    refine fA 3 Z (xst 1 H Z8 ?_);intro _ H
    refine q3 (W_region (mV Z (lA 1 4 H Z4 (xbs H Z7 ?_))));intro _ _ _ H
    refine o_append1 4 H (sz:=4) (bytes:=56) underlying30 typeInfo58 ⟨_,Z,Z⟩ Z Z Z Z Z Z Z Z Z Z oM Z ?_;intro _ _ H
    obtain⟨_,H,hsg28,hsr28⟩:=H.shut' (k:=0) rfl hchk24 aN aN
    have hchk15_0:=hchk15_0.up hsg28
    have hle15:=hle15.trans hsg28
    have hchk27:=hchk15_0.snoc (show partE _ ⟨z17.kind,z17.path,z17.dir,Sp.load d.store z17.bytes⟩ _ from⟨_,_,_,rfl,⟨by first|omega|(dsimp only;omega),by first|omega|(dsimp only;omega)⟩,hi17,hsr28⟩) rfl
    obtain⟨_,_,rfl⟩:=H.accShape (k:=3) rfl
    refine aG Z (R_nil (N_B (N_K (W_region (mV Z (aD Z2 (aG Z (R_nil ?_))))))))
    have H:=H.sel [3,4] rfl
    refine N_lp (hJ:=⟨_,_,_,(xs++[⟨z17.kind,z17.path,z17.dir,Sp.load d.store z17.bytes⟩]),k+1,_,Z,hle15,H,?inv,Z⟩) (hm:=?hm)
    case hm=>omega
    case inv=>exact⟨hchk27,aN,(by exact⟨by omega,by rw[hxs];exact Sp.pc_snoc hz17 (Sp.pcP_n hc23)⟩)⟩
   intro hc23'
   try simp only[nrm]at hc23'
   refine W_skip (N_K (W_region (mV Z (lA 0 4 H Z4 (xbs H Z7 ?_)))));intro _ _ _ H
   refine o_append1 3 H (sz:=4) (bytes:=56) underlying30 typeInfo58 ⟨_,Z,Z⟩ Z Z Z Z Z Z Z Z Z Z oM Z ?_;intro _ _ H
   obtain⟨_,H,hsg32,hsr32⟩:=H.shut' (k:=1) rfl (Chk.nil (E:=intE) (sz:=1) (G:=G15)) aN aN
   have hchk15_0:=hchk15_0.up hsg32
   have hle15:=hle15.trans hsg32
   have hchk31:=hchk15_0.snoc (show partE _ ⟨z17.kind,z17.path,z17.dir,[]⟩ _ from⟨_,_,_,rfl,⟨by first|omega|(dsimp only;omega),by first|omega|(dsimp only;omega)⟩,hi17,hsr32⟩) rfl
   obtain⟨_,_,rfl⟩:=H.accShape (k:=2) rfl
   refine aG Z (R_nil (N_B (N_K (W_region (mV Z (aD Z2 (aG Z (R_nil ?_))))))))
   have H:=H.sel [2,3] rfl
   refine N_lp (hJ:=⟨_,_,_,(xs++[⟨z17.kind,z17.path,z17.dir,[]⟩]),k+1,_,Z,hle15,H,?inv,Z⟩) (hm:=?hm)
   case hm=>omega
   case inv=>exact⟨hchk31,aN,(by exact⟨by omega,by rw[hxs];exact Sp.pc_snoc hz17 (Sp.pcP_2 (by simpa using hc23'))⟩)⟩
  intro hc16'
  try simp only[nrm]at hc16'
  refine W_exit (N_K_exit (N_LP_exit (N_B_same (N_K (q2 (pe 3 Z (q3 (W_ret (rt2 results8 Z Z ?_)))))))))
  obtain rfl:k=((Sp.chg (Sp.ltD d fr) (Sp.ltD d tt)).map Sp.chP).length:=by omega
  rw[List.take_length]at hxs
  have hY:Sp.StreamOf d fr tt=some xs:=by (rw[hxs];exact hso)
  exact H.retO (k:=0) rfl (by rw[hY];exact⟨_,rfl,AccOf.mk aN hchk15_0⟩) (acc_nd _ _ _ _ _)
theorem pick_c (w0:World)(G0:PH)(hG:PSub G0 w0)(rb:Nat)(ab:Option Addr)(mb kb:Nat)(bs:List UInt8)(p:Nat)(hbs:RdU G0 (.slice ab mb kb) bs)(hrb:w0.heap[rb]? = some (cl [.slice ab mb kb,.int .i64 (p:Int)] 88))(hrn:G0 rb=none)(hp:p≤1000000000000)(n:Int)(hn:inI n) :
  Calls Tryz.prog 18 #[.pointer (some ⟨rb,0,none⟩),.int .i64 n] w0 (RetM w0 G0 [rb] (fun G val Bs=>∃(p':Nat) (x:Nat),p'≤p+1∧val= .int .i64 (x:Int)∧((x:Int)<n∨x=0)∧Bs=[blk rb (cl [.slice ab mb kb,.int .i64 (p':Int)] 88)])):=by
 have hlimbs:bs.length≤1099511627776:=hbs.lim;obtain rfl:mb=bs.length:=hbs.len
 have H:=Hp.initM hG hrb hrn
 refine calls_of_W (l:=[.pointer (some ⟨rb,0,none⟩),.int .i64 n]) func18 Z ntmps18 Z (q2 (aG Z (q1 (pe 3 Z (fA 1 Z (lB 0 H Z3 (aD Z2 (pe 1 Z (fA 1 Z (xst 0 H Z8 ?_))))))))));intro _ H
 refine q3 (W_seq (q2 (pe 3 Z ?_)))
 refine R_case (t:=17) Z ?_ ?_
 ·intro hc3
  try simp only[nrm]at hc3
  refine pe 7 Z (q3 (W_true Z (q2 (aG Z (q3 (W_ret (N_K_ret (rt1 results18 Z ?_))))))))
  exact H.retM ⟨p+1,0,by omega,rfl,.inr rfl,rfl⟩
 intro hc3'
 try simp only[nrm]at hc3'
 refine pe 2 Z (gR Z (fA 0 Z (gR Z (lB 0 H Z3 (gR Z (lN Z (pe 2 Z (q3 ?_))))))))
 refine W_cond Z ?_ ?_
 ·intro hc4
  try simp only[nrm]at hc4
  refine q2 (aG Z (q3 (W_ret (N_K_ret (rt1 results18 Z ?_)))))
  exact H.retM ⟨p+1,0,by omega,rfl,.inr rfl,rfl⟩
 intro hc4'
 try simp only[nrm]at hc4'
 have hm0:0<bs.length:=by omega
 have hm1:=Nat.mod_lt p hm0
 have hm2:=Nat.mod_lt (p*7+3) hm0
 have hq1:0≤((p:Int)+1-1) / (bs.length:Int):=Int.ediv_nonneg oM oM
 have hq2:((p:Int)+1-1) / (bs.length:Int)≤(p:Int)+1-1:=Int.ediv_le_self _ oM
 refine W_skip (N_K (q2 (pe 2 Z (fA 1 Z (lB 0 H Z3 (o_sub Z Z Z oO (aG Z (q3 (W_seq (q2 (pe 3 Z (fA 0 Z (lB 0 H Z3 (lN Z (pe 1 Z ?_)))))))))))))))
 refine q3 ?_
 refine W_cond Z ?_ ?_
 ·intro hc6
  try simp only[nrm]at hc6
  refine q2 (pe 2 Z (fA 0 Z (lB 0 H Z3 (mV Z (iP p hbs Z3 oM ?_)))));intro _ _ z7 _ _ hE7 hrow7
  obtain rfl:=hE7
  have hzl7:=z7.toNat_lt
  refine lP H hrow7 0 Z2 (o_conv (by simp[underlying5]) underlying3 Z Z (wrap_i64 oO) (mV Z (o_rem Z Z Z oM oM (aG Z (q3 (W_ret (N_K_ret (rt1 results18 Z ?_))))))))
  exact H.retM ⟨p+1,_,by omega,congrArg (Value.int .i64) (Int.toNat_of_nonneg (Int.emod_nonneg _ oM)).symm,.inl (by rw[Int.toNat_of_nonneg (Int.emod_nonneg _ oM)];exact Int.emod_lt_of_pos _ oM),rfl⟩
 intro hc6'
 try simp only[nrm]at hc6'
 refine W_skip (N_K (W_seq (W_drawK [0] 46 H kR Z ?_)));intro _ H;have hd8:=PLe.refl G0
 refine dE 0 Z2 (dE 1 Z2 (dF 2 0 Z2 (dB 3 0 Z4 (dE 4 Z2 (dE 5 Z2 (dE 6 Z2 (dF 7 0 Z2 (dB 8 0 Z4 (dN 9 Z2 (RD_t 10 Z kR Z (fun _ hK=>v_rem Z Z oM oM) ?_))))))))))
 have hl9:=hbs.len
 obtain⟨_,_,z9,_,ha9,_,hq9,hE9,hrow9,_⟩:=hbs.at (i:=(p % bs.length)) oM
 clear hq9
 obtain rfl:=hE9
 have hzl9:=z9.toNat_lt
 refine RD_t 11 Z kR Z (fun _ hK=>v_index_P (i:=(p % bs.length)) ha9 underlying22 sizeOf5 Z Z (by rw[Int.add_sub_cancel];exact(Int.natCast_emod _ _).symm) oM) ?_
 refine dP 12 hrow9 0 Z3 (RD_t 13 Z kR Z (fun _ hK=>v_conv (by simp[underlying5]) underlying3 Z (wrap_i64 oO)) (RD_t 14 Z kR Z (fun _ hK=>v_mul Z Z oO) (dE 15 Z2 (dE 16 Z2 (dF 17 0 Z2 (dB 18 0 Z4 (dE 19 Z2 (RD_t 20 Z kR Z (fun _ hK=>v_mul Z Z oO) (RD_t 21 Z kR Z (fun _ hK=>v_add Z Z oO) (dE 22 Z2 (dE 23 Z2 (dF 24 0 Z2 (dB 25 0 Z4 (dN 26 Z2 (RD_t 27 Z kR Z (fun _ hK=>v_rem Z Z oM oM) ?_)))))))))))))))
 have hl13:=hbs.len
 obtain⟨_,_,z13,_,ha13,_,hq13,hE13,hrow13,_⟩:=hbs.at (i:=((p*7+3) % bs.length)) oM
 clear hq13
 obtain rfl:=hE13
 have hzl13:=z13.toNat_lt
 refine RD_t 28 Z kR Z (fun _ hK=>v_index_P (i:=((p*7+3) % bs.length)) ha13 underlying22 sizeOf5 Z Z (by rw[Int.add_sub_cancel];exact(Int.natCast_emod _ _).symm) oM) ?_
 refine dP 29 hrow13 0 Z3 (RD_t 30 Z kR Z (fun _ hK=>v_conv (by simp[underlying5]) underlying3 Z (wrap_i64 oO)) (RD_t 31 Z kR Z (fun _ hK=>v_mul Z Z oO) (RD_t 32 Z kR Z (fun _ hK=>v_add Z Z oO) (dE 33 Z2 (RD_t 34 Z kR Z (fun _ hK=>v_mul Z Z oO) (RD_t 35 Z kR Z (fun _ hK=>v_add Z Z oO) (dE 36 Z2 (dE 37 Z2 (dE 38 Z2 (dF 39 0 Z2 (dB 40 0 Z4 (dN 41 Z2 (RD_t 42 Z kR Z (fun _ hK=>v_quo Z Z oM oM oM) (RD_t 43 Z kR Z (fun _ hK=>v_mul Z Z oO) (RD_t 44 Z kR Z (fun _ hK=>v_add Z Z oO) ?_)))))))))))))))
 refine dE 45 Z2 (rz (N_K (q2 (pe 2 Z (o_quo Z Z Z oM oM oM (o_xor Z Z Z oO oO ?_))))));intro _ _
 refine aG Z (q1 (pe 2 Z (o_rem Z Z Z oM oM (aG Z (q3 (W_ret (rt1 results18 Z ?_)))))))
 exact H.retM ⟨p+1,_,by omega,congrArg (Value.int .i64) (Int.toNat_of_nonneg (Int.emod_nonneg _ oM)).symm,.inl (by rw[Int.toNat_of_nonneg (Int.emod_nonneg _ oM)];exact Int.emod_lt_of_pos _ oM),rfl⟩
theorem l6Open_c (w0:World)(G0:PH)(hG:PSub G0 w0)(vcode:Value)(code:List (UInt8))(hcode:RdU G0 vcode code) :
  Calls Tryz.prog 16 #[vcode] w0 (RetO w0 G0 (fun G val r=>∃(b:Nat) (ab:Option Addr) (mb kb:Nat) (bs:List UInt8),val= .pointer (some ⟨b,0,none⟩)∧r=blk b (cl [.slice ab mb kb,.int .i64 ((0:Nat):Int)] 88)∧RdU G (.slice ab mb kb) bs)):=by
 obtain⟨acode,kcode,rfl⟩:=hcode.shape
 have hlimcode:code.length≤1099511627776:=hcode.lim
 have H:=Hp.init hG
 refine calls_of_W (l:=[.slice acode code.length kcode]) func16 Z ntmps16 Z (q2 (aG Z (q3 (W_seq (q2 (mV Z (lN Z (pe 1 Z (q3 ?_)))))))))
 refine W_cond Z ?_ ?_
 ·intro hc1
  try simp only[nrm]at hc1
  refine W_region (mV Z ?_)
  have hcap2:=hcode.cap;try simp only[List.length_set,List.length_append,List.length_take,List.length_drop,List.length_replicate]at hcap2
  refine o_slice_to (j:=2000) underlying22 sizeOf5 Z Z Z oM oM ?_
  have hsl2:=hcode.take (j:=2000) aN
  have hsn1:=hsl2.len
  refine aG Z (q1 (mV Z (o_build bf88 Z Z Z (o_box H Z Z Z ?_))));intro _ _ _ H
  refine aG Z (q3 (W_ret (rt1 results16 Z ?_)))
  exact H.retO (k:=0) rfl ⟨_,_,_,_,_,rfl,rfl,hsl2⟩ (by simp[blk])
 intro hc1'
 try simp only[nrm]at hc1'
 refine W_skip (N_K (q2 (mV Z (o_build bf88 Z Z Z (o_box H Z Z Z ?_)))));intro _ _ _ H
 refine aG Z (q3 (W_ret (rt1 results16 Z ?_)))
 exact H.retO (k:=0) rfl ⟨_,_,_,_,_,rfl,rfl,hcode⟩ (by simp[blk])
theorem l3Free_c (w0:World)(G0:PH)(hG:PSub G0 w0)(vlist:Value)(list:List (BHeld))(hlist:RdH G0 vlist list) :
  Calls Tryz.prog 195 #[vlist] w0 (Rets w0 (.int .i64 (Sp.freeId list:Int))):=by
 obtain⟨alist,klist,rfl⟩:=hlist.shape
 have hlimlist:list.length≤1099511627776:=hlist.lim
 have H:=Hp.init hG
 refine calls_of_W (l:=[.slice alist list.length klist]) func195 Z ntmps195 Z (q2 (aG Z (q1 (aG Z (q3 (W_seq (W_block ?_)))))))
 refine W_lp (hf:=(Sub.cons (t:=0) Z (Sub.cons (t:=2) Z Sub.nil))) (J:=fun M w m=>∃(k:Nat) (G:PH),M=[(3,.int .i64 ((k:Int)+1))]∧PLe G0 G∧Hp w0 G0 [] w G []∧(∀j:Nat,j<k→(Sp.atH list ((j:Int)+1)).isSome=true)∧m=(list.length+1-k)) (h0:=⟨0,_,Z,PLe.refl _,H,?inv,Z⟩) (round:=?round)
 case inv=>exact fun j hj=>by omega
 case round =>
  rintro _ _ _ ⟨k,_,rfl,hle1,H,hinv1,rfl⟩
  have hlist:=hlist.up hle1
  have hall:=hinv1;have hkl:=Sp.free_le hall
  refine W_seq (q2 (pe 2 Z (xr H Z2 (l3At_c _ _ H.sub _ _ hlist _) ?_)));intro _ H
  refine pe 1 Z (q3 ?_)
  refine W_cond Z ?_ ?_
  ·intro hc3
   try simp only[nrm]at hc3
   refine W_skip (N_K (W_block (W_region (mV Z (aD Z2 (aG Z (R_nil (N_B ?_))))))))
   refine N_lp (hJ:=⟨k+1,_,Z,hle1,H,?inv,Z⟩) (hm:=?hm)
   case hm=>omega
   case inv=>exact Sp.upto_succ (p:=fun j:Nat=>(Sp.atH list ((j:Int)+1)).isSome) hall (Sp.isSome_of hc3)
  intro hc3'
  try simp only[nrm]at hc3'
  refine W_exit (N_K_exit (N_LP_exit (N_B_same (N_K (q2 (pe 2 Z (q3 (W_ret (rt1 results195 Z ?_)))))))))
  exact H.rets (congrArg (Value.int .i64) (by rw[Sp.free_eq hall (Sp.isNone_of hc3')];rfl))
theorem l3With_c (w0:World)(G0:PH)(hG:PSub G0 w0)(vlist:Value)(list:List (BHeld))(hlist:RdH G0 vlist list)(vbytes:Value)(bytes:List (Int))(hbytes:RdI G0 vbytes bytes)(hS:list.length≤1000000) :
  Calls Tryz.prog 196 #[vlist,vbytes] w0 (RetO w0 G0 (AccOf heldE 3 134 (Sp.l3With list bytes))):=by
 obtain⟨alist,klist,rfl⟩:=hlist.shape
 have hlimlist:list.length≤1099511627776:=hlist.lim
 obtain⟨abytes,kbytes,rfl⟩:=hbytes.shape
 have hlimbytes:bytes.length≤1099511627776:=hbytes.lim
 have hfr:=Sp.free_lt list
 have H:=Hp.init hG
 refine calls_of_W (l:=[.slice alist list.length klist,.slice abytes bytes.length kbytes]) func196 Z ntmps196 Z (q2 (aG Z (q1 (mV Z (xr H Z2 (l3Free_c _ _ H.sub _ _ hlist) ?_)))));intro _ H
 refine aG Z (q1 (xbs H Z7 ?_));intro _ _ _ H
 have H:=H.blkAcc 3 (k:=0) (n:=0) rfl rfl (by decide)
 refine aG Z (q1 (aG Z (q1 (mV Z (xbs H Z7 ?_)))));intro _ _ _ H
 have H:=H.blkAcc 1 (k:=0) (n:=0) rfl rfl (by decide)
 refine mV Z ?_
 refine o_append_P 0 H hbytes (by intro _ cs hz _ hu;obtain⟨rfl,_⟩:=hz;simp at hu;subst hu;rfl) (sz:=1) (bytes:=8) underlying56 typeInfo3 ⟨_,rfl,rfl⟩ rfl rfl rfl rfl rfl rfl rfl oM rfl ?_;intro _ _ css4 hcl4 hcs4 H
 have hchk4:Chk intE 1 G0 ([]++css4.flatten) _:=⟨css4,rfl,hcl4,hcs4⟩
 obtain⟨_,_,rfl⟩:=H.accShape (k:=0) rfl
 refine o_build bf134 Z Z Z (xal H Z ?_);intro b5 _ _ H
 refine xst 0 H Z8 ?_;intro _ H
 refine q1 (mV Z (xc Z2 (l3Copy_c _ _ H.sub _ _ hlist) ?_))
 rintro _ _ ⟨_,_,_,g7,rfl,⟨_,rfl,hchk7⟩,hp7,hq7,hs7⟩
 have H:=H.growO g7 hp7 hq7 hs7;obtain⟨_,_,rfl⟩:=H.accShape (k:=0) rfl
 have hchk4:=hchk4.up g7.le
 refine⟨_,Z,?_⟩
 refine aG Z (q3 (W_seq (q2 (aG Z (q3 (W_block ?_))))))
 obtain⟨_,H,hsg8,hsr8⟩:=H.shut' (k:=2) rfl hchk4 aN aN
 have hchk7:=hchk7.up hsg8
 obtain⟨G9,H,hsg9,hsr9⟩:=H.shut' (k:=0) rfl hchk7 aN aN
 have hsr8:=hsr8.up hsg9
 obtain⟨ln10,hln10,H⟩:=H.name (k:=0) rfl
 refine W_lp (hf:=(Sub.cons (t:=4) Z (Sub.cons (t:=5) Z (Sub.cons (t:=8) Z (Sub.cons (t:=9) Z Sub.nil))))) (J:=fun M w m=>∃(v:Value) (n:Nat) (cs:List Value) (xs:List (BHeld)) (d:Bool) (k:Nat) (G:PH),M=[(7,.bool d),(10,.int .i64 (k:Int)),(6,v)]∧PLe G9 G∧Hp w0 G0 [] w G [blk b5 (cl ln10 134),acc 134 3 v n cs]∧(Chk heldE 3 G cs xs∧n=xs.length∧k≤list.length∧xs.length≤k+1∧(d=false→xs=list.take k∧(list.take k).all (Sp.idF list)=true)∧(d=true→xs++list.drop k=Sp.l3With list bytes))∧m=(list.length-k)) (h0:=⟨_,_,_,[],false,0,_,Z,PLe.refl _,H,?inv,Z⟩) (round:=?round)
 case inv=>exact⟨(Chk.nil (E:=heldE) (sz:=3) (G:=G9)),by first|rfl|simp|(simp;omega)|omega,(by simp)⟩
 case round =>
  rintro _ _ _ ⟨v,n,cs,xs,d,k,_,rfl,hle11,H,hinv11,rfl⟩
  subst hln10
  have hsr8:=hsr8.up hle11
  have hsr9:=hsr9.up hle11
  obtain⟨hchk11_0,_,hinv11⟩:=hinv11
  obtain⟨_,_,rfl⟩:=H.accShape (k:=1) rfl
  obtain⟨_,_,hd0,hd1⟩:=hinv11
  refine W_seq (q2 (pe 2 Z (lN Z (pe 1 Z (q3 ?_)))))
  refine W_cond Z ?_ ?_
  ·intro hc12
   try simp only[nrm]at hc12
   refine W_skip (N_K (W_seq (W_block (W_seq (q2 (pe 3 Z ?_))))))
   refine R_case (t:=29) Z ?_ ?_
   ·intro hc13
    try simp only[nrm]at hc13
    refine pe 2 Z (gR Z (iP k hsr9 Z3 Z ?_));intro _ _ z14 _ hz14 hE14 hrow14
    obtain⟨_,_,_,rfl,_,_,_,_,_⟩:=ox hE14
    refine gR Z (fA 0 Z (gR Z (lP H hrow14 0 Z2 (pe 3 Z (q3 ?_)))))
    refine W_cond Z ?_ ?_
    ·intro hc15
     try simp only[nrm]at hc15
     refine q2 (mV Z (lA 0 3 H Z4 (xbs H Z7 ?_)));intro _ _ _ H
     refine o_append1 1 H (sz:=3) (bytes:=40) underlying23 typeInfo134 ⟨_,Z,Z⟩ Z Z Z Z Z Z Z Z Z Z oM Z ?_;intro _ _ H
     have hchk17:=hchk11_0.snoc (show heldE _ ⟨(Sp.freeId list:Int),bytes,1⟩ _ from⟨_,_,_,rfl,⟨by first|omega|(dsimp only;omega),by first|omega|(dsimp only;omega)⟩,hsr8,⟨by first|omega|(dsimp only;omega),by first|omega|(dsimp only;omega)⟩⟩) rfl
     obtain⟨_,_,rfl⟩:=H.accShape (k:=1) rfl
     refine aG Z (q3 (W_region (aG Z (q3 (W_region (pe 3 Z (iP k hsr9 Z3 Z ?_)))))));intro _ _ z18 _ hz18 hE18 hrow18
     obtain⟨_,_,_,rfl,_,hr18,_,_,_⟩:=ox hE18
     have hzz18:z14=z18:=Option.some.inj (hz14.symm.trans hz18)
     subst hzz18
     refine o_loadagg_P H isAgg134 sizeOf134 Z Z hrow18 Z (xbs H Z7 ?_);intro _ _ _ H
     refine o_append1 1 H (sz:=3) (bytes:=40) underlying23 typeInfo134 ⟨_,Z,Z⟩ Z Z Z Z Z Z Z Z Z Z oM Z ?_;intro _ _ H
     have hchk20:=hchk17.snoc (show heldE _ z14 _ from⟨_,_,_,rfl,⟨by first|omega|(dsimp only;omega),by first|omega|(dsimp only;omega)⟩,hr18,⟨by first|omega|(dsimp only;omega),by first|omega|(dsimp only;omega)⟩⟩) rfl
     obtain⟨_,_,rfl⟩:=H.accShape (k:=1) rfl
     refine aG Z (R_nil (N_B (N_K (W_region (mV Z (aD Z2 (aG Z (R_nil ?_))))))))
     refine N_lp (hJ:=⟨_,_,_,((xs++[⟨(Sp.freeId list:Int),bytes,1⟩])++[z14]),true,k+1,_,Z,hle11,H,?inv,Z⟩) (hm:=?hm)
     case hm=>omega
     case inv=>exact⟨hchk20,aN,(by exact⟨by omega,by have:=congrArg List.length (hd0 (by assumption)).1;simp at this ⊢;omega,by simp,fun _=>Sp.ins_new (F:=Sp.idF list) (hd0 (by assumption)) hz14 (by simp[Sp.idF];omega)⟩)⟩
    intro hc15'
    try simp only[nrm]at hc15'
    refine W_skip (N_K (W_region (pe 3 Z (iP k hsr9 Z3 Z ?_))));intro _ _ z22 _ hz22 hE22 hrow22
    obtain⟨_,_,_,rfl,_,hr22,_,_,_⟩:=ox hE22
    have hzz22:z14=z22:=Option.some.inj (hz14.symm.trans hz22)
    subst hzz22
    refine o_loadagg_P H isAgg134 sizeOf134 Z Z hrow22 Z (xbs H Z7 ?_);intro _ _ _ H
    refine o_append1 1 H (sz:=3) (bytes:=40) underlying23 typeInfo134 ⟨_,Z,Z⟩ Z Z Z Z Z Z Z Z Z Z oM Z ?_;intro _ _ H
    have hchk24:=hchk11_0.snoc (show heldE _ z14 _ from⟨_,_,_,rfl,⟨by first|omega|(dsimp only;omega),by first|omega|(dsimp only;omega)⟩,hr22,⟨by first|omega|(dsimp only;omega),by first|omega|(dsimp only;omega)⟩⟩) rfl
    obtain⟨_,_,rfl⟩:=H.accShape (k:=1) rfl
    refine aG Z (R_nil (N_B (N_K (W_region (mV Z (aD Z2 (aG Z (R_nil ?_))))))))
    refine N_lp (hJ:=⟨_,_,_,(xs++[z14]),d,k+1,_,Z,hle11,H,?inv,Z⟩) (hm:=?hm)
    case hm=>omega
    case inv=>exact⟨hchk24,aN,(by first|exact⟨by omega,by simp;omega,fun h=>⟨by rw[(hd0 h).1,Sp.take_succ' hz14],Sp.all_take (hd0 h).2 hz14 (by simp[Sp.idF];omega)⟩,fun h=>Sp.ins_old (hd1 h) hz14⟩|exact⟨by omega,by simp;omega,fun h=>absurd h (by simp[*]),fun h=>Sp.ins_old (hd1 h) hz14⟩)⟩
   intro hc13'
   try simp only[nrm]at hc13'
   refine pe 8 Z (q3 (W_false Z (W_skip (N_K (W_region (pe 3 Z (iP k hsr9 Z3 Z ?_)))))));intro _ _ z26 _ hz26 hE26 hrow26
   obtain⟨_,_,_,rfl,_,hr26,_,_,_⟩:=ox hE26
   refine o_loadagg_P H isAgg134 sizeOf134 Z Z hrow26 Z (xbs H Z7 ?_);intro _ _ _ H
   refine o_append1 1 H (sz:=3) (bytes:=40) underlying23 typeInfo134 ⟨_,Z,Z⟩ Z Z Z Z Z Z Z Z Z Z oM Z ?_;intro _ _ H
   have hchk28:=hchk11_0.snoc (show heldE _ z26 _ from⟨_,_,_,rfl,⟨by first|omega|(dsimp only;omega),by first|omega|(dsimp only;omega)⟩,hr26,⟨by first|omega|(dsimp only;omega),by first|omega|(dsimp only;omega)⟩⟩) rfl
   obtain⟨_,_,rfl⟩:=H.accShape (k:=1) rfl
   refine aG Z (R_nil (N_B (N_K (W_region (mV Z (aD Z2 (aG Z (R_nil ?_))))))))
   refine N_lp (hJ:=⟨_,_,_,(xs++[z26]),d,k+1,_,Z,hle11,H,?inv,Z⟩) (hm:=?hm)
   case hm=>omega
   case inv=>exact⟨hchk28,aN,(by first|exact⟨by omega,by simp;omega,fun h=>⟨by rw[(hd0 h).1,Sp.take_succ' hz26],Sp.all_take (hd0 h).2 hz26 (by simp[Sp.idF];omega)⟩,fun h=>Sp.ins_old (hd1 h) hz26⟩|exact⟨by omega,by simp;omega,fun h=>absurd h (by simp[*]),fun h=>Sp.ins_old (hd1 h) hz26⟩)⟩
  intro hc12'
  try simp only[nrm]at hc12'
  refine W_exit (N_K_exit (N_LP_exit (N_B_same (N_K (W_seq (q2 (pe 2 Z (q3 ?_))))))))
  refine W_cond Z ?_ ?_
  ·intro hc30
   try simp only[nrm]at hc30
   refine W_region (mV Z (lA 0 3 H Z4 (xbs H Z7 ?_)));intro _ _ _ H
   refine o_append1 1 H (sz:=3) (bytes:=40) underlying23 typeInfo134 ⟨_,Z,Z⟩ Z Z Z Z Z Z Z Z Z Z oM Z ?_;intro _ _ H
   have hchk32:=hchk11_0.snoc (show heldE _ ⟨(Sp.freeId list:Int),bytes,1⟩ _ from⟨_,_,_,rfl,⟨by first|omega|(dsimp only;omega),by first|omega|(dsimp only;omega)⟩,hsr8,⟨by first|omega|(dsimp only;omega),by first|omega|(dsimp only;omega)⟩⟩) rfl
   obtain⟨_,_,rfl⟩:=H.accShape (k:=1) rfl
   refine aG Z (q1 (pe 2 Z (q3 (W_ret (rt1 results196 Z ?_)))))
   have hx:=hd0 (by assumption)
   rw[List.take_of_length_le oM]at hx
   obtain⟨rfl,hx2⟩:=hx
   exact H.retO (k:=1) rfl (by rw[Sp.l3With_eq,←Sp.ins_end _ hx2];exact AccOf.mk aN hchk32) (acc_nd _ _ _ _ _)
  intro hc30'
  try simp only[nrm]at hc30'
  refine W_skip (N_K (q2 (pe 2 Z (q3 (W_ret (rt1 results196 Z ?_))))))
  have hx:=hd1 (by assumption)
  rw[List.drop_of_length_le oM,List.append_nil]at hx
  subst hx
  exact H.retO (k:=1) rfl (by skip;exact AccOf.mk aN hchk11_0) (acc_nd _ _ _ _ _)
theorem StorePut_c (w0:World)(G0:PH)(hG:PSub G0 w0)(vlist:Value)(list:List (BHeld))(hlist:RdH G0 vlist list)(vbytes:Value)(bytes:List (Int))(hbytes:RdI G0 vbytes bytes)(hS:list.length≤1000000) :
  Calls Tryz.prog 178 #[vlist,vbytes] w0 (RetO w0 G0 (fun G v r=>∃u,v= .tuple #[u,.int .i64 (((Sp.StorePut list bytes).map (·.2)).getD 0),.bool (Sp.StorePut list bytes).isSome]∧AccOf heldE 3 134 (((Sp.StorePut list bytes).map (·.1)).getD []) G u r∧inI (((Sp.StorePut list bytes).map (·.2)).getD 0))):=by
 obtain⟨alist,klist,rfl⟩:=hlist.shape
 have hlimlist:list.length≤1099511627776:=hlist.lim
 obtain⟨abytes,kbytes,rfl⟩:=hbytes.shape
 have hlimbytes:bytes.length≤1099511627776:=hbytes.lim
 have H:=Hp.init hG
 refine calls_of_W (l:=[.slice alist list.length klist,.slice abytes bytes.length kbytes]) func178 Z ntmps178 Z (q2 (pe 3 Z (q3 (W_seq (q2 (mV Z (xr H Z2 (StoreValid_c _ _ H.sub _ _ hlist) ?_)))))));intro _ H
 refine pe 2 Z ?_
 refine R_case (t:=13) Z ?_ ?_
 ·intro hc2
  try simp only[nrm]at hc2
  refine pe 4 Z (q3 (W_true Z (q2 (xbs H Z7 ?_))));intro _ _ _ H
  have H:=H.blkAcc 3 (k:=0) (n:=0) rfl rfl (by decide)
  refine pe 3 Z (q3 (W_ret (N_K_ret (ret_gen (rs:=[.tmp 4,.tmp 5,.tmp 6]) (vs:=[_,_,_]) results178 ⟨Z,Z,Z,trivial⟩ ?_))))
  have hN:Sp.StorePut list bytes=none:=by simp[Sp.StorePut,hc2]
  exact H.retO (k:=0) rfl (by rw[hN];exact⟨_,rfl,AccOf.mk aN (Chk.nil (E:=heldE) (sz:=3) (G:=G0)),(by simp[inI])⟩) (acc_nd _ _ _ _ _)
 intro hc2'
 try simp only[nrm]at hc2'
 refine pe 1 Z (gR Z (xr H Z2 (BlockValid_c _ _ H.sub _ _ hbytes) ?_));intro _ H
 refine pe 2 Z (q3 ?_)
 refine W_cond Z ?_ ?_
 ·intro hc5
  try simp only[nrm]at hc5
  refine q2 (xbs H Z7 ?_);intro _ _ _ H
  have H:=H.blkAcc 3 (k:=0) (n:=0) rfl rfl (by decide)
  refine pe 3 Z (q3 (W_ret (N_K_ret (ret_gen (rs:=[.tmp 4,.tmp 5,.tmp 6]) (vs:=[_,_,_]) results178 ⟨Z,Z,Z,trivial⟩ ?_))))
  have hN:Sp.StorePut list bytes=none:=by simp[Sp.StorePut,hc5]
  exact H.retO (k:=0) rfl (by rw[hN];exact⟨_,rfl,AccOf.mk aN (Chk.nil (E:=heldE) (sz:=3) (G:=G0)),(by simp[inI])⟩) (acc_nd _ _ _ _ _)
 intro hc5'
 try simp only[nrm]at hc5'
 refine W_skip (N_K (q2 (mV Z (xc Z2 (l3Copy_c _ _ H.sub _ _ hlist) ?_))))
 rintro _ _ ⟨G7,_,_,g7,rfl,⟨_,rfl,hchk7⟩,hp7,hq7,hs7⟩
 have H:=H.growO g7 hp7 hq7 hs7;obtain⟨_,_,rfl⟩:=H.accShape (k:=0) rfl
 have hlist:=hlist.up g7.le
 have hbytes:=hbytes.up g7.le
 refine⟨_,Z,?_⟩
 refine aG Z (q1 (pe 2 Z (xr H Z2 (l3Like_c _ _ H.sub _ _ hlist _ _ hbytes) ?_)));intro _ H
 refine aG Z (q1 (mV Z (xr H Z2 (l3Free_c _ _ H.sub _ _ hlist) ?_)));intro _ H
 refine aG Z (q3 (W_seq (q2 (pe 2 Z (q3 ?_)))))
 refine W_cond Z ?_ ?_
 ·intro hc10
  try simp only[nrm]at hc10
  obtain⟨i,_,hi1,hi2,_,_,_⟩:=Sp.at_nat hc10
  refine q2 (pe 4 Z (o_index_A 0 H i Z hchk7 underlying23 sizeOf134 Z Z Z hi2 aN aN ?_));intro _ z11 _ hba11 hz11 hE11 hg11;cases hba11
  obtain⟨_,_,_,rfl,_,_,_,_,_⟩:=ox hE11
  have hsv:=Sp.valid_at hc2' hz11
  refine fA 2 Z (o_load_A 0 H isAgg3 Z Z Z (hg11 2 _ Z) (aD Z2 (o_index_A 0 H i Z hchk7 underlying23 sizeOf134 Z Z Z hi2 aN aN ?_)));intro _ z13 _ hba13 hz13 hE13 _;cases hba13
  obtain⟨_,_,_,rfl,_,_,_,_,_⟩:=ox hE13
  have hzz13:z11=z13:=Option.some.inj (hz11.symm.trans hz13)
  subst hzz13
  refine fA 2 Z ?_
  have hcl14:=hchk7.length
  refine o_store_A 0 H sizeOf3 Z Z Z Z Z (by simp only[vc,List.length_cons,List.length_nil];omega) ?_;intro _ H
  have hchk14:=hchk7.put (x':=⟨z11.id,z11.bytes,z11.uses+1⟩) (off:=2) (vs:=[_]) hz13 (fun cs hl hE=>by obtain⟨_,_,_,rfl,h1,h2,_⟩:=hE;exact⟨_,_,_,rfl,h1,h2,⟨by first|omega|(dsimp only;omega),by first|omega|(dsimp only;omega)⟩⟩) (by simp only[vc,List.length_cons,List.length_nil];omega)
  refine q3 (W_region (pe 2 Z (o_index_A 0 H i Z hchk14 underlying23 sizeOf134 Z Z Z hi2 aN aN ?_)));intro _ _ _ hba15 hz15 hE15 hg15;cases hba15
  obtain⟨_,_,_,rfl,_,_,_,_,_⟩:=ox hE15
  rw[List.getElem?_set_self oM]at hz15
  simp only[Option.some.injEq]at hz15
  subst hz15
  refine fA 0 Z (o_load_A 0 H isAgg3 Z Z Z (hg15 0 _ Z) (aG Z (q3 (W_seq (q2 (mV Z (xr H Z2 (StoreValid_c _ _ (H.lendSubL [0]) _ _ (H.lendRdL (k:=0) (ks:=[0]) Z Z hchk14 aN aN)) ?_)))))));intro _ H
  refine pe 1 Z (q3 ?_)
  refine W_cond Z ?_ ?_
  ·intro hc17
   try simp only[nrm]at hc17
   refine q2 (xbs H Z7 ?_);intro _ _ _ H
   have H:=H.blkAcc 3 (k:=0) (n:=0) rfl rfl (by decide)
   refine pe 3 Z (q3 (W_ret (N_K_ret (ret_gen (rs:=[.tmp 4,.tmp 5,.tmp 6]) (vs:=[_,_,_]) results178 ⟨Z,Z,Z,trivial⟩ ?_))))
   have hN:Sp.StorePut list bytes=none:=by (have hl:Sp.like list bytes=some i:=hi1);simp[Sp.StorePut,hl,Sp.bump_at hz11,hc17]
   exact H.retO (k:=0) rfl (by rw[hN];exact⟨_,rfl,AccOf.mk aN (Chk.nil (E:=heldE) (sz:=3) (G:=G7)),(by simp[inI])⟩) (acc_nd _ _ _ _ _)
  intro hc17'
  try simp only[nrm]at hc17'
  refine W_skip (N_K (q2 (pe 5 Z (q3 (W_ret (ret_gen (rs:=[.tmp 4,.tmp 5,.tmp 6]) (vs:=[_,_,_]) results178 ⟨Z,Z,Z,trivial⟩ ?_))))))
  have hY:Sp.StorePut list bytes=some (list.set i ⟨z11.id,z11.bytes,z11.uses+1⟩,z11.id):=by (have hl:Sp.like list bytes=some i:=hi1);simp[Sp.StorePut,hc2',hc5',hl,Sp.bump_at hz11,hc17',hz11]
  exact H.retO (k:=0) rfl (by rw[hY];exact⟨_,rfl,AccOf.mk aN hchk14,⟨by dsimp only[Option.map,Option.getD];omega,by dsimp only[Option.map,Option.getD];omega⟩⟩) (acc_nd _ _ _ _ _)
 intro hc10'
 try simp only[nrm]at hc10'
 refine W_region (pe 2 Z (xc Z2 (l3With_c _ _ H.sub _ _ hlist _ _ hbytes oM) ?_))
 rintro _ _ ⟨G19,_,_,g19,rfl,⟨_,rfl,hchk19⟩,hp19,hq19,hs19⟩
 have H:=H.growO g19 hp19 hq19 hs19;obtain⟨_,_,rfl⟩:=H.accShape (k:=0) rfl
 refine⟨_,Z,?_⟩
 have hwl:=Sp.l3With_len list bytes
 have hfr:=Sp.free_lt list
 refine aG Z (q3 (W_seq (q2 (mV Z (xr H Z2 (StoreValid_c _ _ (H.lendSubL [0]) _ _ (H.lendRdL (k:=0) (ks:=[0]) Z Z hchk19 aN aN)) ?_)))));intro _ H
 refine pe 1 Z (q3 ?_)
 refine W_cond Z ?_ ?_
 ·intro hc21
  try simp only[nrm]at hc21
  refine q2 (xbs H Z7 ?_);intro _ _ _ H
  have H:=H.blkAcc 3 (k:=0) (n:=0) rfl rfl (by decide)
  refine pe 3 Z (q3 (W_ret (N_K_ret (ret_gen (rs:=[.tmp 4,.tmp 5,.tmp 6]) (vs:=[_,_,_]) results178 ⟨Z,Z,Z,trivial⟩ ?_))))
  have hN:Sp.StorePut list bytes=none:=by (have hl:Sp.like list bytes=none:=Sp.at_none hc10');simp[Sp.StorePut,hl,hc21]
  exact H.retO (k:=0) rfl (by rw[hN];exact⟨_,rfl,AccOf.mk aN (Chk.nil (E:=heldE) (sz:=3) (G:=G19)),(by simp[inI])⟩) (acc_nd _ _ _ _ _)
 intro hc21'
 try simp only[nrm]at hc21'
 refine W_skip (N_K (q2 (pe 5 Z (q3 (W_ret (ret_gen (rs:=[.tmp 4,.tmp 5,.tmp 6]) (vs:=[_,_,_]) results178 ⟨Z,Z,Z,trivial⟩ ?_))))))
 have hY:Sp.StorePut list bytes=some (Sp.l3With list bytes,(Sp.freeId list:Int)):=by (have hl:Sp.like list bytes=none:=Sp.at_none hc10');simp[Sp.StorePut,hc2',hc5',hl,hc21']
 exact H.retO (k:=0) rfl (by rw[hY];exact⟨_,rfl,AccOf.mk aN hchk19,⟨by dsimp only[Option.map,Option.getD];omega,by dsimp only[Option.map,Option.getD];omega⟩⟩) (acc_nd _ _ _ _ _)
theorem l4Cut_c (w0:World)(G0:PH)(hG:PSub G0 w0)(vbytes:Value)(bytes:List (Int))(hbytes:RdI G0 vbytes bytes)(hS:bytes.length≤1000000) :
  Calls Tryz.prog 177 #[vbytes] w0 (RetP w0 G0 (fun G v=>RdS LIM intsE 1 G v (Sp.l4Cut bytes))):=by
 obtain⟨abytes,kbytes,rfl⟩:=hbytes.shape
 have hlimbytes:bytes.length≤1099511627776:=hbytes.lim
 have H:=Hp.init hG
 refine calls_of_W (l:=[.slice abytes bytes.length kbytes]) func177 Z ntmps177 Z (q2 (aG Z (q1 (xbs H Z7 ?_))));intro _ _ _ H
 have H:=H.blkAcc 1 (k:=0) (n:=0) rfl rfl (by decide)
 refine aG Z (q3 (W_seq (q2 (aG Z (q3 (W_block ?_))))))
 refine W_lp (hf:=(Sub.cons (t:=0) Z (Sub.cons (t:=2) Z Sub.nil))) (J:=fun M w m=>∃(v:Value) (n:Nat) (cs:List Value) (xs:List (List Int)) (k:Nat) (G:PH),M=[(4,.int .i64 (8*(k:Int))),(3,v)]∧PLe G0 G∧Hp w0 G0 [] w G [acc 56 1 v n cs]∧(Chk intsE 1 G cs xs∧n=xs.length∧k≤(bytes.length+7) / 8∧xs.length=k∧xs=(List.range k).map (Sp.chunk bytes))∧m=(bytes.length+8-8*k)) (h0:=⟨_,_,_,[],0,_,Z,PLe.refl _,H,?inv,Z⟩) (round:=?round)
 case inv=>exact⟨(Chk.nil (E:=intsE) (sz:=1) (G:=G0)),by first|rfl|simp|(simp;omega)|omega,(by simp)⟩
 case round =>
  rintro _ _ _ ⟨v,n,cs,xs,k,G2,rfl,hle2,H,hinv2,rfl⟩
  have hbytes:=hbytes.up hle2
  obtain⟨hchk2_0,_,hinv2⟩:=hinv2
  obtain⟨_,_,rfl⟩:=H.accShape (k:=0) rfl
  obtain⟨_,hxl,hxs⟩:=hinv2
  refine W_seq (q2 (pe 2 Z (lN Z (pe 1 Z (q3 ?_)))))
  refine W_cond Z ?_ ?_
  ·intro hc3
   try simp only[nrm]at hc3
   refine W_skip (N_K (W_seq (W_block (W_region (mV Z (xbs H Z7 ?_))))));intro _ _ _ H
   have H:=H.blkAcc 1 (k:=0) (n:=0) rfl rfl (by decide)
   refine pe 3 Z (aD Z2 (mV Z (lN Z (o_min Z Z Z ?_))))
   have hcap6:=hbytes.cap;try simp only[List.length_set,List.length_append,List.length_take,List.length_drop,List.length_replicate]at hcap6
   refine o_slice (i:=(8*k)) (j:=(min (8*k+8) bytes.length)) underlying56 sizeOf3 Z Z Z Z oM oM aN aN ?_
   have hsl6:=hbytes.part (i:=(8*k)) (j:=(min (8*k+8) bytes.length)) oM oM
   have hsn1:=hsl6.len
   refine o_append_P 0 H hsl6 (by intro _ cs hz _ hu;obtain⟨rfl,_⟩:=hz;simp at hu;subst hu;rfl) (sz:=1) (bytes:=8) underlying56 typeInfo3 ⟨_,rfl,rfl⟩ rfl rfl rfl rfl rfl rfl rfl oM rfl ?_;intro _ _ css7 hcl7 hcs7 H
   have hchk7:Chk intE 1 G2 ([]++css7.flatten) _:=⟨css7,rfl,hcl7,hcs7⟩
   obtain⟨_,_,rfl⟩:=H.accShape (k:=0) rfl
   refine xbs H Z7 ?_;intro _ _ _ H
   refine o_append1 1 H (sz:=1) (bytes:=24) underlying228 typeInfo56 ⟨_,Z,Z⟩ Z Z Z Z Z Z Z Z Z Z oM Z ?_;intro _ _ H
   obtain⟨_,H,hsg10,hsr10⟩:=H.shut' (k:=0) rfl hchk7 aN aN
   have hchk2_0:=hchk2_0.up hsg10
   have hle2:=hle2.trans hsg10
   have hchk9:=hchk2_0.snoc (show intsE _ (Sp.chunk bytes k) _ from⟨_,_,_,rfl,hsr10⟩) rfl
   obtain⟨_,_,rfl⟩:=H.accShape (k:=0) rfl
   refine aG Z (R_nil (N_B (N_K (W_region (mV Z (aD Z2 (aG Z (R_nil ?_))))))))
   refine N_lp (hJ:=⟨_,_,_,(xs++[(Sp.chunk bytes k)]),k+1,_,Z,hle2,H,?inv,Z⟩) (hm:=?hm)
   case hm=>omega
   case inv=>exact⟨hchk9,aN,(by exact⟨by omega,by simp[hxl],by rw[hxs,List.range_succ,List.map_append];rfl⟩)⟩
  intro hc3'
  try simp only[nrm]at hc3'
  refine W_exit (N_K_exit (N_LP_exit (N_B_same (N_K (q2 (pe 2 Z (q3 (W_ret (rt1 results177 Z ?_)))))))))
  obtain⟨_,H,hsg512,hsr512⟩:=H.shut' (k:=0) rfl hchk2_0 aN aN
  obtain rfl:k=(bytes.length+7) / 8:=by omega
  exact H.retP (by rw[Sp.l4Cut,←hxs];exact hsr512)
theorem FileStore_c (w0:World)(G0:PH)(hG:PSub G0 w0)(vlist:Value)(list:List (BHeld))(hlist:RdH G0 vlist list)(vbytes:Value)(bytes:List (Int))(hbytes:RdI G0 vbytes bytes)(hS:bytes.length≤1000000) :
  Calls Tryz.prog 149 #[vlist,vbytes] w0 (RetO w0 G0 (fun G v r=>∃u u1,v= .tuple #[u,u1,.bool (Sp.FileStore list bytes).isSome]∧AccOf heldE 3 134 (((Sp.FileStore list bytes).map (·.1)).getD []) G u r∧RdI G u1 (((Sp.FileStore list bytes).map (·.2)).getD []))):=by
 obtain⟨alist,klist,rfl⟩:=hlist.shape
 have hlimlist:list.length≤1099511627776:=hlist.lim
 obtain⟨abytes,kbytes,rfl⟩:=hbytes.shape
 have hlimbytes:bytes.length≤1099511627776:=hbytes.lim
 have H:=Hp.init hG
 refine calls_of_W (l:=[.slice alist list.length klist,.slice abytes bytes.length kbytes]) func149 Z ntmps149 Z (q2 (pe 3 Z (q3 (W_seq (q2 (mV Z (xr H Z2 (StoreValid_c _ _ H.sub _ _ hlist) ?_)))))));intro _ H
 refine pe 2 Z ?_
 refine R_case (t:=17) Z ?_ ?_
 ·intro hc2
  try simp only[nrm]at hc2
  refine pe 4 Z (q3 (W_true Z (q2 (xbs H Z7 ?_))));intro _ _ _ H
  have H:=H.blkAcc 3 (k:=0) (n:=0) rfl rfl (by decide)
  refine xbs H Z7 ?_;intro _ _ _ H
  have H:=H.blkAcc 1 (k:=0) (n:=0) rfl rfl (by decide)
  refine pe 3 Z (q3 (W_ret (N_K_ret (ret_gen (rs:=[.tmp 4,.tmp 5,.tmp 6]) (vs:=[_,_,_]) results149 ⟨Z,Z,Z,trivial⟩ ?_))))
  obtain⟨G505,H,hsg505,hsr505⟩:=H.shut' (k:=0) rfl (Chk.nil (E:=intE) (sz:=1) (G:=G0)) aN aN
  have hY:Sp.FileStore list bytes=none:=by simp[Sp.FileStore,hc2]
  exact H.retO (k:=0) rfl (by rw[hY];exact⟨_,_,rfl,AccOf.mk aN (Chk.nil (E:=heldE) (sz:=3) (G:=G505)),hsr505⟩) (acc_nd _ _ _ _ _)
 intro hc2'
 try simp only[nrm]at hc2'
 refine pe 1 Z (gR Z (xr H Z2 (FileValid_c _ _ H.sub _ _ hbytes) ?_));intro _ H
 refine pe 2 Z (q3 ?_)
 refine W_cond Z ?_ ?_
 ·intro hc6
  try simp only[nrm]at hc6
  refine q2 (xbs H Z7 ?_);intro _ _ _ H
  have H:=H.blkAcc 3 (k:=0) (n:=0) rfl rfl (by decide)
  refine xbs H Z7 ?_;intro _ _ _ H
  have H:=H.blkAcc 1 (k:=0) (n:=0) rfl rfl (by decide)
  refine pe 3 Z (q3 (W_ret (N_K_ret (ret_gen (rs:=[.tmp 4,.tmp 5,.tmp 6]) (vs:=[_,_,_]) results149 ⟨Z,Z,Z,trivial⟩ ?_))))
  obtain⟨G509,H,hsg509,hsr509⟩:=H.shut' (k:=0) rfl (Chk.nil (E:=intE) (sz:=1) (G:=G0)) aN aN
  have hY:Sp.FileStore list bytes=none:=by simp[Sp.FileStore,hc6]
  exact H.retO (k:=0) rfl (by rw[hY];exact⟨_,_,rfl,AccOf.mk aN (Chk.nil (E:=heldE) (sz:=3) (G:=G509)),hsr509⟩) (acc_nd _ _ _ _ _)
 intro hc6'
 try simp only[nrm]at hc6'
 refine W_skip (N_K (q2 (mV Z (xc Z2 (l3Copy_c _ _ H.sub _ _ hlist) ?_))))
 rintro _ _ ⟨_,_,_,g9,rfl,⟨_,rfl,hchk9⟩,hp9,hq9,hs9⟩
 have H:=H.growO g9 hp9 hq9 hs9;obtain⟨_,_,rfl⟩:=H.accShape (k:=0) rfl
 have hbytes:=hbytes.up g9.le
 refine⟨_,Z,?_⟩
 refine aG Z (q1 (xbs H Z7 ?_));intro _ _ _ H
 have H:=H.blkAcc 1 (k:=0) (n:=0) rfl rfl (by decide)
 refine aG Z (q1 (mV Z (xc Z2 (l4Cut_c _ _ H.sub _ _ hbytes oM) ?_)))
 rintro _ _ ⟨G11,_,g11,rfl,hr11_0⟩
 have H:=H.grow g11
 have hchk9:=hchk9.up g11.le
 obtain⟨_,_,rfl⟩:=hr11_0.shape;have hx_hr11_0:_≤1099511627776:=hr11_0.lim
 refine⟨_,Z,?_⟩
 refine aG Z (q3 (W_seq (q2 (aG Z (q3 (W_block ?_))))))
 refine W_lp (hf:=(Sub.cons (t:=9) Z Sub.nil)) (J:=fun M w m=>∃(v:Value) (n:Nat) (cs:List Value) (xs:List (BHeld)) (v1:Value) (n1:Nat) (cs1:List Value) (xs1:List (Int)) (k:Nat) (G:PH),M=[(10,.int .i64 (k:Int)),(7,v),(8,v1)]∧PLe G11 G∧Hp w0 G0 [] w G [acc 3 1 v1 n1 cs1,acc 134 3 v n cs]∧(Chk heldE 3 G cs xs∧n=xs.length∧Chk intE 1 G cs1 xs1∧n1=xs1.length∧k≤(Sp.l4Cut bytes).length∧xs.length≤1000∧xs1.length≤k∧Sp.foldB Sp.put1 ((Sp.l4Cut bytes).take k) (some (list,[]))=some (xs,xs1))∧m=((Sp.l4Cut bytes).length-k)) (h0:=⟨_,_,_,list,_,_,_,[],0,_,Z,PLe.refl _,H,?inv,Z⟩) (round:=?round)
 case inv=>exact⟨hchk9,(by first|rfl|simp|(simp;omega)|omega),(Chk.nil (E:=intE) (sz:=1) (G:=G11)),by first|rfl|simp|(simp;omega)|omega,(by exact⟨by omega,by have:=Sp.valid_len hc2';omega,by simp,by simp[Sp.foldB]⟩)⟩
 case round =>
  rintro _ _ _ ⟨v,n,cs,xs,v1,n1,cs1,xs1,k,_,rfl,hle12,H,hinv12,rfl⟩
  have hr11_0:=hr11_0.up hle12
  obtain⟨hchk12_0,_,hinv12⟩:=hinv12
  obtain⟨_,_,rfl⟩:=H.accShape (k:=1) rfl
  obtain⟨hchk12_1,_,hinv12⟩:=hinv12
  obtain⟨_,_,rfl⟩:=H.accShape (k:=0) rfl
  obtain⟨_,_,_,hf⟩:=hinv12
  refine W_seq (q2 (pe 2 Z (lN Z (pe 1 Z (q3 ?_)))))
  refine W_cond Z ?_ ?_
  ·intro hc13
   try simp only[nrm]at hc13
   refine W_skip (N_K (W_seq (W_block (q2 (pe 3 Z (iP k hr11_0 Z3 Z ?_))))));intro _ _ z14 _ hz14 hE14 hrow14
   obtain⟨_,_,_,rfl,hr14⟩:=hE14;have hn_hr14:=hr14.len;have hx_hr14:_≤1099511627776:=hr14.lim
   refine lP H hrow14 0 Z2 ?_
   obtain⟨_,H,hsg16,hsr16⟩:=H.shut' (k:=1) rfl hchk12_0 aN aN
   have hchk12_1:=hchk12_1.up hsg16
   have hr14:=hr14.up hsg16
   have hle12:=hle12.trans hsg16
   refine xc Z2 (StorePut_c _ _ H.sub _ _ hsr16 _ _ hr14 oM) ?_
   rintro _ _ ⟨G15,_,_,g15,rfl,⟨_,rfl,⟨_,rfl,hchk15⟩,⟨hfa15,hfb15⟩⟩,hp15,hq15,hs15⟩
   have H:=H.growO g15 hp15 hq15 hs15;obtain⟨_,_,rfl⟩:=H.accShape (k:=0) rfl
   have hchk12_1:=hchk12_1.up g15.le
   have hle12:=hle12.trans g15.le
   refine⟨_,Z,?_⟩
   refine pe 7 Z (q3 (W_seq (q2 (pe 2 Z (q3 ?_)))))
   refine W_cond Z ?_ ?_
   ·intro hc17
    try simp only[nrm]at hc17
    refine q2 (xbs H Z7 ?_);intro _ _ _ H
    have H:=H.blkAcc 3 (k:=0) (n:=0) rfl rfl (by decide)
    refine xbs H Z7 ?_;intro _ _ _ H
    have H:=H.blkAcc 1 (k:=0) (n:=0) rfl rfl (by decide)
    refine pe 3 Z (q3 (W_ret (N_K_ret (N_B_ret (N_K_ret (N_LP_ret (N_B_ret (N_K_ret (ret_gen (rs:=[.tmp 4,.tmp 5,.tmp 6]) (vs:=[_,_,_]) results149 ⟨Z,Z,Z,trivial⟩ ?_)))))))))
    obtain⟨G520,H,hsg520,hsr520⟩:=H.shut' (k:=0) rfl (Chk.nil (E:=intE) (sz:=1) (G:=G15)) aN aN
    have hY:Sp.FileStore list bytes=none:=by (have hno:Sp.StorePut xs z14=none:=by simpa using hc17);simp only[Sp.FileStore,hc2',hc6',Bool.and_self,if_true];exact Sp.foldB_stop hf hz14 (by simp[Sp.put1,hno])
    exact H.retO (k:=0) rfl (by rw[hY];exact⟨_,_,rfl,AccOf.mk aN (Chk.nil (E:=heldE) (sz:=3) (G:=G520)),hsr520⟩) (acc_nd _ _ _ _ _)
   intro hc17'
   try simp only[nrm]at hc17'
   obtain⟨p,hsp⟩:=Option.isSome_iff_exists.1 hc17'
   rw[hsp]at H hchk15 hfa15 hfb15 ⊢
   dsimp only[Option.map,Option.getD]at H hchk15 hfa15 hfb15
   refine W_skip (N_K (q2 (pe 2 Z (q3 (W_region (pe 2 Z (xbs H Z7 ?_)))))));intro _ _ _ H
   refine o_append1 1 H (sz:=1) (bytes:=8) underlying56 typeInfo3 ⟨_,Z,Z⟩ Z Z Z Z Z Z Z Z Z Z oM Z ?_;intro _ _ H
   have hchk21:=hchk12_1.snoc (show intE _ p.2 _ from⟨rfl,oO⟩) rfl
   obtain⟨_,_,rfl⟩:=H.accShape (k:=1) rfl
   refine aG Z (R_nil (N_B (N_K (W_region (mV Z (aD Z2 (aG Z (R_nil ?_))))))))
   have H:=H.tF 1
   refine N_lp (hJ:=⟨_,_,_,p.1,_,_,_,(xs1++[p.2]),k+1,_,Z,hle12,H,?inv,Z⟩) (hm:=?hm)
   case hm=>omega
   case inv=>exact⟨hchk15,aN,hchk21,aN,(by exact⟨by omega,by have:=Sp.put_len hsp;omega,by simp;omega,Sp.foldB_succ hf hz14 (by simp[Sp.put1,hsp])⟩)⟩
  intro hc13'
  try simp only[nrm]at hc13'
  refine W_exit (N_K_exit (N_LP_exit (N_B_same (N_K (q2 (pe 5 Z (q3 (W_ret (ret_gen (rs:=[.tmp 4,.tmp 5,.tmp 6]) (vs:=[_,_,_]) results149 ⟨Z,Z,Z,trivial⟩ ?_)))))))))
  obtain⟨_,H,hsg523,hsr523⟩:=H.shut' (k:=0) rfl hchk12_1 aN aN
  have hchk12_0:=hchk12_0.up hsg523
  have hY:Sp.FileStore list bytes=some (xs,xs1):=by simp only[Sp.FileStore,hc2',hc6',Bool.and_self,if_true];exact Sp.foldB_all hf oM
  exact H.retO (k:=0) rfl (by rw[hY];exact⟨_,_,rfl,AccOf.mk aN hchk12_0,hsr523⟩) (acc_nd _ _ _ _ _)
theorem StoreKeep_c (w0:World)(G0:PH)(hG:PSub G0 w0)(vlist:Value)(list:List (BHeld))(hlist:RdH G0 vlist list)(id:Int) :
  Calls Tryz.prog 148 #[vlist,.int .i64 id] w0 (RetO w0 G0 (fun G v r=>∃u,v= .tuple #[u,.bool (Sp.StoreKeep list id).isSome]∧AccOf heldE 3 134 ((Sp.StoreKeep list id).getD []) G u r)):=by
 obtain⟨alist,klist,rfl⟩:=hlist.shape
 have hlimlist:list.length≤1099511627776:=hlist.lim
 have H:=Hp.init hG
 refine calls_of_W (l:=[.slice alist list.length klist,.int .i64 id]) func148 Z ntmps148 Z (q2 (pe 2 Z (q1 (pe 2 Z (xr H Z2 (l3At_c _ _ H.sub _ _ hlist _) ?_)))));intro _ H
 refine aG Z (q3 (W_seq (q2 (mV Z (xr H Z2 (StoreValid_c _ _ H.sub _ _ hlist) ?_)))));intro _ H
 refine pe 2 Z ?_
 refine R_case (t:=14) Z ?_ ?_
 ·intro hc3
  try simp only[nrm]at hc3
  refine pe 11 Z (q3 (W_true Z (q2 (xbs H Z7 ?_))));intro _ _ _ H
  have H:=H.blkAcc 3 (k:=0) (n:=0) rfl rfl (by decide)
  refine pe 2 Z (q3 (W_ret (N_K_ret (rt2 results148 Z Z ?_))))
  have hN:Sp.StoreKeep list id=none:=by simp[Sp.StoreKeep,hc3]
  exact H.retO (k:=0) rfl (by rw[hN];exact⟨_,rfl,AccOf.mk aN (Chk.nil (E:=heldE) (sz:=3) (G:=G0))⟩) (acc_nd _ _ _ _ _)
 intro hc3'
 try simp only[nrm]at hc3'
 refine pe 4 Z ?_
 refine R_case (t:=18) Z ?_ ?_
 ·intro hc5
  try simp only[nrm]at hc5
  refine pe 7 Z (q3 (W_true Z (q2 (xbs H Z7 ?_))));intro _ _ _ H
  have H:=H.blkAcc 3 (k:=0) (n:=0) rfl rfl (by decide)
  refine pe 2 Z (q3 (W_ret (N_K_ret (rt2 results148 Z Z ?_))))
  have hN:Sp.StoreKeep list id=none:=by simp[Sp.StoreKeep,Sp.atH,Sp.at_none hc5]
  exact H.retO (k:=0) rfl (by rw[hN];exact⟨_,rfl,AccOf.mk aN (Chk.nil (E:=heldE) (sz:=3) (G:=G0))⟩) (acc_nd _ _ _ _ _)
 intro hc5'
 try simp only[nrm]at hc5'
 obtain⟨i,_,hi1,hi2,_,_,_⟩:=Sp.at_nat hc5'
 have hl:Sp.atH list id=some i:=hi1
 refine pe 2 Z (gR Z (iP i hlist Z3 hi2 ?_));intro _ _ z7 _ hz7 hE7 hrow7
 obtain⟨_,_,_,rfl,_,hr7,_,_,_⟩:=ox hE7
 refine gR Z (fA 2 Z (gR Z (lP H hrow7 2 Z2 (pe 2 Z (q3 ?_)))))
 refine W_cond Z ?_ ?_
 ·intro hc8
  try simp only[nrm]at hc8
  refine q2 (xbs H Z7 ?_);intro _ _ _ H
  have H:=H.blkAcc 3 (k:=0) (n:=0) rfl rfl (by decide)
  refine pe 2 Z (q3 (W_ret (N_K_ret (rt2 results148 Z Z ?_))))
  have hN:Sp.StoreKeep list id=none:=by simp[Sp.StoreKeep,hl,hz7,hc8]
  exact H.retO (k:=0) rfl (by rw[hN];exact⟨_,rfl,AccOf.mk aN (Chk.nil (E:=heldE) (sz:=3) (G:=G0))⟩) (acc_nd _ _ _ _ _)
 intro hc8'
 try simp only[nrm]at hc8'
 refine W_skip (N_K (q2 (mV Z (xc Z2 (l3Copy_c _ _ H.sub _ _ hlist) ?_))))
 rintro _ _ ⟨_,_,_,g10,rfl,⟨_,rfl,hchk10⟩,hp10,hq10,hs10⟩
 have H:=H.growO g10 hp10 hq10 hs10;obtain⟨_,_,rfl⟩:=H.accShape (k:=0) rfl
 refine⟨_,Z,?_⟩
 refine aG Z (q1 (pe 4 Z (o_index_A 0 H i Z hchk10 underlying23 sizeOf134 Z Z Z hi2 aN aN ?_)));intro _ z11 _ hba11 hz11 hE11 hg11;cases hba11
 obtain⟨_,_,_,rfl,_,_,_,_,_⟩:=ox hE11
 have hsv:=Sp.valid_at hc3' hz11
 refine fA 2 Z (o_load_A 0 H isAgg3 Z Z Z (hg11 2 _ Z) (aD Z2 (o_index_A 0 H i Z hchk10 underlying23 sizeOf134 Z Z Z hi2 aN aN ?_)));intro _ z13 _ hba13 hz13 hE13 _;cases hba13
 obtain⟨_,_,_,rfl,_,_,_,_,_⟩:=ox hE13
 have hzz13:z11=z13:=Option.some.inj (hz11.symm.trans hz13)
 subst hzz13
 refine fA 2 Z ?_
 have hcl14:=hchk10.length
 refine o_store_A 0 H sizeOf3 Z Z Z Z Z (by simp only[vc,List.length_cons,List.length_nil];omega) ?_;intro _ H
 have hchk14:=hchk10.put (x':=⟨z11.id,z11.bytes,z11.uses+1⟩) (off:=2) (vs:=[_]) hz13 (fun cs hl hE=>by obtain⟨_,_,_,rfl,h1,h2,_⟩:=hE;exact⟨_,_,_,rfl,h1,h2,⟨by first|omega|(dsimp only;omega),by first|omega|(dsimp only;omega)⟩⟩) (by simp only[vc,List.length_cons,List.length_nil];omega)
 refine q1 (pe 3 Z (q3 (W_ret (rt2 results148 Z Z ?_))))
 have hY:Sp.StoreKeep list id=some (list.set i ⟨z11.id,z11.bytes,z11.uses+1⟩):=by (have hzz:z7=z11:=Option.some.inj (hz7.symm.trans hz11));rw[hzz]at hc8';simp[Sp.StoreKeep,hc3',hl,hz11,hc8',Sp.bump_at hz11]
 exact H.retO (k:=0) rfl (by rw[hY];exact⟨_,rfl,AccOf.mk aN hchk14⟩) (acc_nd _ _ _ _ _)
theorem StoreDrop_c (w0:World)(G0:PH)(hG:PSub G0 w0)(vlist:Value)(list:List (BHeld))(hlist:RdH G0 vlist list)(id:Int) :
  Calls Tryz.prog 176 #[vlist,.int .i64 id] w0 (RetO w0 G0 (fun G v r=>∃u,v= .tuple #[u,.bool (Sp.StoreDrop list id).isSome]∧AccOf heldE 3 134 ((Sp.StoreDrop list id).getD []) G u r)):=by
 obtain⟨alist,klist,rfl⟩:=hlist.shape
 have hlimlist:list.length≤1099511627776:=hlist.lim
 have H:=Hp.init hG
 refine calls_of_W (l:=[.slice alist list.length klist,.int .i64 id]) func176 Z ntmps176 Z (q2 (pe 2 Z (q1 (pe 2 Z (xr H Z2 (l3At_c _ _ H.sub _ _ hlist _) ?_)))));intro _ H
 refine aG Z (q3 (W_seq (q2 (mV Z (xr H Z2 (StoreValid_c _ _ H.sub _ _ hlist) ?_)))));intro _ H
 refine pe 2 Z ?_
 refine R_case (t:=14) Z ?_ ?_
 ·intro hc3
  try simp only[nrm]at hc3
  refine pe 3 Z (q3 (W_true Z (q2 (xbs H Z7 ?_))));intro _ _ _ H
  have H:=H.blkAcc 3 (k:=0) (n:=0) rfl rfl (by decide)
  refine pe 2 Z (q3 (W_ret (N_K_ret (rt2 results176 Z Z ?_))))
  have hN:Sp.StoreDrop list id=none:=by simp[Sp.StoreDrop,hc3]
  exact H.retO (k:=0) rfl (by rw[hN];exact⟨_,rfl,AccOf.mk aN (Chk.nil (E:=heldE) (sz:=3) (G:=G0))⟩) (acc_nd _ _ _ _ _)
 intro hc3'
 try simp only[nrm]at hc3'
 refine pe 3 Z (q3 ?_)
 refine W_cond Z ?_ ?_
 ·intro hc5
  try simp only[nrm]at hc5
  refine q2 (xbs H Z7 ?_);intro _ _ _ H
  have H:=H.blkAcc 3 (k:=0) (n:=0) rfl rfl (by decide)
  refine pe 2 Z (q3 (W_ret (N_K_ret (rt2 results176 Z Z ?_))))
  have hN:Sp.StoreDrop list id=none:=by simp[Sp.StoreDrop,Sp.atH,Sp.at_none hc5]
  exact H.retO (k:=0) rfl (by rw[hN];exact⟨_,rfl,AccOf.mk aN (Chk.nil (E:=heldE) (sz:=3) (G:=G0))⟩) (acc_nd _ _ _ _ _)
 intro hc5'
 try simp only[nrm]at hc5'
 obtain⟨i,_,hi1,hi2,_,_,_⟩:=Sp.at_nat hc5'
 have hi2:Sp.l3At list id=(i:Int):=hi2
 have hl:Sp.atH list id=some i:=hi1
 refine W_skip (N_K (q2 (mV Z (xc Z2 (l3Copy_c _ _ H.sub _ _ hlist) ?_))))
 rintro _ _ ⟨G7,_,_,g7,rfl,⟨_,rfl,hchk7⟩,hp7,hq7,hs7⟩
 have H:=H.growO g7 hp7 hq7 hs7;obtain⟨_,_,rfl⟩:=H.accShape (k:=0) rfl
 refine⟨_,Z,?_⟩
 refine aG Z (q3 (W_seq (q2 (pe 2 Z (o_index_A 0 H i Z hchk7 underlying23 sizeOf134 Z Z Z hi2 aN aN ?_)))));intro _ z8 _ hba8 hz8 hE8 hg8;cases hba8
 obtain⟨_,_,_,rfl,_,_,_,_,_⟩:=ox hE8
 have hsv:=Sp.valid_at hc3' hz8
 refine fA 2 Z (o_load_A 0 H isAgg3 Z Z Z (hg8 2 _ Z) (pe 1 Z (q3 ?_)))
 refine W_cond Z ?_ ?_
 ·intro hc9
  try simp only[nrm]at hc9
  refine W_seq (W_drawK [] 10 H kR Z ?_);intro _ H;have hd10:=PLe.refl G7
  refine dE 0 Z2 (dE 1 Z2 ?_)
  have hac11:=H.accCap (k:=0) rfl
  refine RD_t 2 Z kR Z (fun _ hK=>v_slice_to (j:=i) underlying23 sizeOf134 Z Z hi2 oM) (dE 3 Z2 (dE 4 Z2 (RD_t 5 Z kR Z (fun _ hK=>v_add Z Z oO) ?_)))
  have hac13:=H.accCap (k:=0) rfl
  refine RD_t 6 Z kR Z (fun _ hK=>v_slice_from (i:=(i+1)) underlying23 sizeOf134 Z Z oM oM) (r1 7 Z ?_)
  refine o_append_del 0 H i Z hchk7 (by intro _ cs hz _ hu;obtain⟨_,_,_,rfl,_⟩:=hz;simp at hu;rcases hu with rfl|rfl|rfl<;>rfl) underlying23 typeInfo134 rfl rfl rfl rfl oM aN ?_;intro _ _ hb14 H hchk14;cases hb14
  refine q4 H hd10 (dE 8 Z2 (dE 9 Z2 (rz (N_K (W_ret (N_K_ret (rt2 results176 Z Z ?_)))))))
  have hY:Sp.StoreDrop list id=some (list.take i++list.drop (i+1)):=by simp[Sp.StoreDrop,hc3',hl,hz8,hc9]
  exact H.retO (k:=0) rfl (by rw[hY];exact⟨_,rfl,AccOf.mk aN hchk14⟩) (acc_nd _ _ _ _ _)
 intro hc9'
 try simp only[nrm]at hc9'
 refine W_skip (N_K (q2 (pe 4 Z (o_index_A 0 H i Z hchk7 underlying23 sizeOf134 Z Z Z hi2 aN aN ?_))));intro _ z15 _ hba15 hz15 hE15 hg15;cases hba15
 obtain⟨_,_,_,rfl,_,_,_,_,_⟩:=ox hE15
 have hzz15:z8=z15:=Option.some.inj (hz8.symm.trans hz15)
 subst hzz15
 refine fA 2 Z (o_load_A 0 H isAgg3 Z Z Z (hg15 2 _ Z) (o_sub Z Z Z oO (o_index_A 0 H i Z hchk7 underlying23 sizeOf134 Z Z Z hi2 aN aN ?_)));intro _ z17 _ hba17 hz17 hE17 _;cases hba17
 obtain⟨_,_,_,rfl,_,_,_,_,_⟩:=ox hE17
 have hzz17:z8=z17:=Option.some.inj (hz8.symm.trans hz17)
 subst hzz17
 refine fA 2 Z ?_
 have hcl18:=hchk7.length
 refine o_store_A 0 H sizeOf3 Z Z Z Z Z (by simp only[vc,List.length_cons,List.length_nil];omega) ?_;intro _ H
 have hchk18:=hchk7.put (x':=⟨z8.id,z8.bytes,z8.uses+(-1)⟩) (off:=2) (vs:=[_]) hz17 (fun cs hl hE=>by obtain⟨_,_,_,rfl,h1,h2,_⟩:=hE;exact⟨_,_,_,rfl,h1,h2,⟨by first|omega|(dsimp only;omega),by first|omega|(dsimp only;omega)⟩⟩) (by simp only[vc,List.length_cons,List.length_nil];omega)
 refine q1 (pe 3 Z (q3 (W_ret (rt2 results176 Z Z ?_))))
 have hY:Sp.StoreDrop list id=some (list.set i ⟨z8.id,z8.bytes,z8.uses+(-1)⟩):=by simp[Sp.StoreDrop,hc3',hl,hz8,hc9',Sp.bump_at hz8]
 exact H.retO (k:=0) rfl (by rw[hY];exact⟨_,rfl,AccOf.mk aN hchk18⟩) (acc_nd _ _ _ _ _)
theorem FileFree_c (w0:World)(G0:PH)(hG:PSub G0 w0)(vlist:Value)(list:List (BHeld))(hlist:RdH G0 vlist list)(vids:Value)(ids:List (Int))(hids:RdI G0 vids ids) :
  Calls Tryz.prog 147 #[vlist,vids] w0 (RetO w0 G0 (fun G v r=>∃u,v= .tuple #[u,.bool (Sp.FileFree list ids).isSome]∧AccOf heldE 3 134 ((Sp.FileFree list ids).getD []) G u r)):=by
 obtain⟨alist,klist,rfl⟩:=hlist.shape
 have hlimlist:list.length≤1099511627776:=hlist.lim
 obtain⟨aids,kids,rfl⟩:=hids.shape
 have hlimids:ids.length≤1099511627776:=hids.lim
 have H:=Hp.init hG
 refine calls_of_W (l:=[.slice alist list.length klist,.slice aids ids.length kids]) func147 Z ntmps147 Z (q2 (pe 2 Z (q3 (W_seq (q2 (mV Z (xr H Z2 (StoreValid_c _ _ H.sub _ _ hlist) ?_)))))));intro _ H
 refine pe 2 Z ?_
 refine R_case (t:=13) Z ?_ ?_
 ·intro hc2
  try simp only[nrm]at hc2
  refine pe 5 Z (q3 (W_true Z (q2 (xbs H Z7 ?_))));intro _ _ _ H
  have H:=H.blkAcc 3 (k:=0) (n:=0) rfl rfl (by decide)
  refine pe 2 Z (q3 (W_ret (N_K_ret (rt2 results147 Z Z ?_))))
  have hN:Sp.FileFree list ids=none:=by simp[Sp.FileFree,hc2]
  exact H.retO (k:=0) rfl (by rw[hN];exact⟨_,rfl,AccOf.mk aN (Chk.nil (E:=heldE) (sz:=3) (G:=G0))⟩) (acc_nd _ _ _ _ _)
 intro hc2'
 try simp only[nrm]at hc2'
 refine pe 2 Z (gR Z (xr H Z2 (l4Ids_c _ _ H.sub _ _ hlist _ _ hids) ?_));intro _ H
 refine pe 2 Z (q3 ?_)
 refine W_cond Z ?_ ?_
 ·intro hc5
  try simp only[nrm]at hc5
  refine q2 (xbs H Z7 ?_);intro _ _ _ H
  have H:=H.blkAcc 3 (k:=0) (n:=0) rfl rfl (by decide)
  refine pe 2 Z (q3 (W_ret (N_K_ret (rt2 results147 Z Z ?_))))
  have hN:Sp.FileFree list ids=none:=by simp[Sp.FileFree,hc5]
  exact H.retO (k:=0) rfl (by rw[hN];exact⟨_,rfl,AccOf.mk aN (Chk.nil (E:=heldE) (sz:=3) (G:=G0))⟩) (acc_nd _ _ _ _ _)
 intro hc5'
 try simp only[nrm]at hc5'
 refine W_skip (N_K (q2 (mV Z (xc Z2 (l3Copy_c _ _ H.sub _ _ hlist) ?_))))
 rintro _ _ ⟨G7,_,_,g7,rfl,⟨_,rfl,hchk7⟩,hp7,hq7,hs7⟩
 have H:=H.growO g7 hp7 hq7 hs7;obtain⟨_,_,rfl⟩:=H.accShape (k:=0) rfl
 have hids:=hids.up g7.le
 refine⟨_,Z,?_⟩
 refine aG Z (q3 (W_seq (q2 (aG Z (q3 (W_block ?_))))))
 refine W_lp (hf:=(Sub.cons (t:=1) Z Sub.nil)) (J:=fun M w m=>∃(v:Value) (n:Nat) (cs:List Value) (xs:List (BHeld)) (k:Nat) (G:PH),M=[(7,.int .i64 (k:Int)),(6,v)]∧PLe G7 G∧Hp w0 G0 [] w G [acc 134 3 v n cs]∧(Chk heldE 3 G cs xs∧n=xs.length∧k≤ids.length∧xs.length≤1000∧Sp.foldB Sp.StoreDrop (ids.take k) (some list)=some xs)∧m=(ids.length-k)) (h0:=⟨_,_,_,list,0,_,Z,PLe.refl _,H,?inv,Z⟩) (round:=?round)
 case inv=>exact⟨hchk7,by first|rfl|simp|(simp;omega)|omega,(by exact⟨by omega,by have:=Sp.valid_len hc2';omega,by simp[Sp.foldB]⟩)⟩
 case round =>
  rintro _ _ _ ⟨v,n,cs,xs,k,_,rfl,hle8,H,hinv8,rfl⟩
  have hids:=hids.up hle8
  obtain⟨hchk8_0,_,hinv8⟩:=hinv8
  obtain⟨_,_,rfl⟩:=H.accShape (k:=0) rfl
  obtain⟨_,_,hf⟩:=hinv8
  refine W_seq (q2 (pe 2 Z (lN Z (pe 1 Z (q3 ?_)))))
  refine W_cond Z ?_ ?_
  ·intro hc9
   try simp only[nrm]at hc9
   refine W_skip (N_K (W_seq (W_block (q2 (pe 3 Z (iP k hids Z3 Z ?_))))));intro _ _ z10 _ hz10 hE10 hrow10
   obtain⟨rfl,_⟩:=hE10
   refine lP H hrow10 0 Z2 ?_
   obtain⟨_,H,hsg12,hsr12⟩:=H.shut' (k:=0) rfl hchk8_0 aN aN
   have hle8:=hle8.trans hsg12
   refine xc Z2 (StoreDrop_c _ _ H.sub _ _ hsr12 _) ?_
   rintro _ _ ⟨G11,_,_,g11,rfl,⟨_,rfl,⟨_,rfl,hchk11⟩⟩,hp11,hq11,hs11⟩
   have H:=H.growO g11 hp11 hq11 hs11;obtain⟨_,_,rfl⟩:=H.accShape (k:=0) rfl
   have hle8:=hle8.trans g11.le
   refine⟨_,Z,?_⟩
   refine pe 5 Z (q3 (W_seq (q2 (pe 2 Z (q3 ?_)))))
   refine W_cond Z ?_ ?_
   ·intro hc13
    try simp only[nrm]at hc13
    refine q2 (xbs H Z7 ?_);intro _ _ _ H
    have H:=H.blkAcc 3 (k:=0) (n:=0) rfl rfl (by decide)
    refine pe 2 Z (q3 (W_ret (N_K_ret (N_B_ret (N_K_ret (N_LP_ret (N_B_ret (N_K_ret (rt2 results147 Z Z ?_)))))))))
    have hN:Sp.FileFree list ids=none:=by (have hno:Sp.StoreDrop xs z10=none:=by simpa using hc13);simp only[Sp.FileFree,hc2',hc5',Bool.and_self,if_true];exact Sp.foldB_stop hf hz10 hno
    exact H.retO (k:=0) rfl (by rw[hN];exact⟨_,rfl,AccOf.mk aN (Chk.nil (E:=heldE) (sz:=3) (G:=G11))⟩) (acc_nd _ _ _ _ _)
   intro hc13'
   try simp only[nrm]at hc13'
   obtain⟨p,hsp⟩:=Option.isSome_iff_exists.1 hc13'
   rw[hsp]at H hchk11 ⊢
   dsimp only[Option.map,Option.getD]at H hchk11
   refine W_skip (N_K (W_region (pe 2 Z (R_nil (N_B (N_K (W_region (mV Z (aD Z2 (aG Z (R_nil ?_)))))))))))
   refine N_lp (hJ:=⟨_,_,_,p,k+1,_,Z,hle8,H,?inv,Z⟩) (hm:=?hm)
   case hm=>omega
   case inv=>exact⟨hchk11,aN,(by exact⟨by omega,by have:=Sp.drop_len hsp;omega,Sp.foldB_succ hf hz10 hsp⟩)⟩
  intro hc9'
  try simp only[nrm]at hc9'
  refine W_exit (N_K_exit (N_LP_exit (N_B_same (N_K (q2 (pe 3 Z (q3 (W_ret (rt2 results147 Z Z ?_)))))))))
  have hY:Sp.FileFree list ids=some xs:=by simp only[Sp.FileFree,hc2',hc5',Bool.and_self,if_true];exact Sp.foldB_all hf oM
  exact H.retO (k:=0) rfl (by rw[hY];exact⟨_,rfl,AccOf.mk aN hchk8_0⟩) (acc_nd _ _ _ _ _)
end Go.Proofs.Tst
