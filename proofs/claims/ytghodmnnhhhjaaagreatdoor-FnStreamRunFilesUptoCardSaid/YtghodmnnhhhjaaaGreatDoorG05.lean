/- Part 5 of the proof: contracts of functions of the program. Conditions: none. -/
import Derived.Test.YtghodmnnhhhjaaaGreatDoorProg
import Derived.Test.YtghodmnnhhhjaaaGreatDoorG02
import Derived.Test.YtghodmnnhhhjaaaGreatDoorG03
import Derived.Test.YtghodmnnhhhjaaaGreatDoorG04
set_option linter.all false
set_option maxRecDepth 100000
set_option maxHeartbeats 8000000
namespace Go.Proofs.Tst
open Go Fw Tryz
theorem l_Insert_c (w0:World)(G0:PH)(hG:PSub G0 w0)(vkids:Value)(kids:List Nd)(i:Nat)(hi:i≤kids.length)(hkl:kids.length≤1099511627776)(vbk:Nat)(k:Nd)(hLent:Lent w0 G0 [acc 84 1 vkids kids.length (ptrs kids),blk vbk (cl [ptr k.b] 84)]) :
  Calls Tryz.prog 172 #[vkids,.int .i64 (i:Int),.slice (some ⟨vbk,0,none⟩) 1 1] w0 (RetM w0 G0 (fps [acc 84 1 vkids kids.length (ptrs kids),blk vbk (cl [ptr k.b] 84)]) (fun G' v Bs=>∃(c:List Value),Bs=[acc 84 1 v (kids.length+1) c]∧c=ptrs (kids.take i++k::kids.drop i))):=by
 have H:Hp w0 G0 (fps [acc 84 1 vkids kids.length (ptrs kids),blk vbk (cl [ptr k.b] 84)]) w0 G0 [acc 84 1 vkids kids.length (ptrs kids),blk vbk (cl [ptr k.b] 84)]:=hLent.hp
 obtain⟨akids,ckids,rfl⟩:=H.accShape (k:=0) rfl
 refine calls_of_W (l:=[.slice akids kids.length ckids,.int .i64 (i:Int),.slice (some ⟨vbk,0,none⟩) 1 1]) func172 Z ntmps172 Z (q2 (aG Z (q1 (pe 2 Z ?_))))
 have hac1:=H.accCap (k:=0) rfl
 refine o_slice_from (i:=i) underlying88 sizeOf84 Z Z Z Z oM (q1 (mV Z (lN Z (aG Z (q3 (W_seq (q2 (pe 2 Z (q3 ?_)))))))))
 refine W_cond Z ?_ ?_
 ·intro hc2
  try simp only[nrm]at hc2
  exact absurd hc2 (by decide)
 intro hc2'
 try simp only[nrm]at hc2'
 refine W_skip (N_K (q2 (mV Z (lN Z (aG Z (q3 (W_seq (q2 (pe 3 Z (q3 ?_))))))))))
 refine W_cond Z ?_ ?_
 ·intro hc3
  try simp only[nrm]at hc3
  refine q2 (pe 2 Z ?_)
  refine o_append 0 H underlying88 typeInfo84 ⟨_,Z,Z⟩ Z Z Z Z Z Z Z (news:=[ptr k.b]) Z (fun j u hu=>by (rw[Nat.zero_add]);exact blk_cell (k:=1) H rfl (by simpa using hu)) (by simp[ptr,Value.oneCell']) oM (by decide) ?_;intro _ _ H
  refine aG Z (q3 (W_ret (N_K_ret (rt1 results172 Z ?_))))
  have H:=H.dl 1
  exact H.retM ⟨_,rfl,by (obtain rfl:i=kids.length:=by omega);(rw[List.take_length,List.drop_length]);simp[ptrs]⟩
 intro hc3'
 try simp only[nrm]at hc3'
 obtain⟨b0,_,_,hv0,_⟩:=H.accBlk (k:=0) (i:=i) rfl oM;cases hv0
 have hvk:vbk≠b0:=fun e=>by subst e;have:=H.nd;simp[fps,acc_fp,blk]at this
 have hcc:=H.accCap (k:=0) rfl
 have hcm:=H.accMax (k:=0) rfl
 refine W_skip (N_K (W_seq (q2 (pe 2 Z (aD Z2 (mV Z (o_cap underlying88 Z Z (pe 1 Z (q3 ?_)))))))))
 refine W_cond Z ?_ ?_
 ·intro hc6
  try simp only[nrm]at hc6
  refine q2 (pe 2 Z ?_)
  have hac7:=H.accCap (k:=0) rfl
  refine o_slice_to (j:=i) underlying88 sizeOf84 Z Z Z Z oM (pe 2 Z (aD Z2 (mV Z (o_sub Z Z Z oO (o_appmk 0 H (kids.length+1-i) underlying88 underlying3 typeInfo84 Z Z Z Z Z Z Z Z oM Z oM oM oM oM ?_)))));intro _ _ _ H _ _
  refine aG Z (q1 (pe 2 Z (o_slice_from1 (i:=i) underlying88 sizeOf84 Z Z Z oM oM oM (mV Z ?_))))
  refine o_copy 0 H ([ptr k.b]) underlying88 typeInfo84 Z Z Z Z Z (by simp[Nat.min_def]<;>(try split)<;>omega) (fun j v hj=>by (rw[Addr.add_lit,Nat.zero_add]);exact blk_cell (k:=2) H rfl (by simpa using hj)) (by intro v hv;first|exact ptrs_one v (List.mem_of_mem_drop hv)|(simp at hv;subst hv;rfl)) (by simp;try omega) ?_;intro _ H
  refine q3 (W_seq (W_drawK [2] 9 H kR Z ?_));intro _ H;have hd12:=PLe.refl G0
  refine dE 0 Z2 (dE 1 Z2 (dE 2 Z2 (RD_t 3 Z kR Z (fun _ hK=>v_add Z Z oO) (RD_t 4 Z kR Z (fun _ hK=>v_slice_from1 (i:=(i+1)) underlying88 sizeOf84 Z Z oM oM oM) (dE 5 Z2 (dE 6 Z2 (RD_t 7 Z kR Z (fun _ hK=>v_slice_from1 (i:=i) underlying88 sizeOf84 Z Z oM oM oM) (r1 8 Z ?_))))))))
  refine o_copy 0 H ((ptrs kids).drop i) underlying88 typeInfo84 Z Z Z Z Z (by simp[Nat.min_def]<;>(try split)<;>omega) (fun j v hj=>by (rw[Addr.add_lit]);(rw[List.getElem?_drop]at hj);exact acc_cell (k:=1) H rfl (by first|exact hj|(rw[List.getElem?_append_left (List.getElem?_eq_some_iff.1 hj).1];exact hj))) (by intro v hv;first|exact ptrs_one v (List.mem_of_mem_drop hv)|(simp at hv;subst hv;rfl)) (by simp;try omega) ?_;intro _ H
  refine q4 H hd12 (rz (N_K (q2 (pe 2 Z (q3 (W_ret (N_K_ret (rt1 results172 Z ?_))))))))
  have H:=H.dl 1
  have H:=H.dl 1
  have hcx:=(insC2 (x:=ptr k.b) (z:= .pointer none) (i:=i) (r:=kids.length+1-i) (c:=ptrs kids) (by simp;omega) (by simp;omega)).trans (ptrs_ins kids k i)
  exact H.retM ⟨_,acc_1 oM,hcx⟩
 intro hc6'
 try simp only[nrm]at hc6'
 refine W_skip (N_K (q2 (pe 3 Z (aD Z2 (o_slice_to (j:=kids.length+1) underlying88 sizeOf84 Z Z Z oM oM ?_)))))
 obtain⟨_,H⟩:=H.accMore (k:=0) rfl oM
 refine aG Z (q3 (W_seq (q2 (pe 4 Z (aD Z2 (o_slice_from1 (i:=(i+1)) underlying88 sizeOf84 Z Z Z oM oM oM (o_overlaps 0 1 H (fun args w=>run_callFunc_extern func204 kR kR kR (e:=Extern.SlicesOverlaps.overlaps #[88,88] #[4]) kR args w) underlying88 sizeOf84 Z Z Z Z hvk oM (pe 1 Z (q3 (W_true Z (W_seq (W_drawK [1] 9 H kR Z ?_))))))))))));intro _ H;have hd17:=PLe.refl G0
 refine dE 0 Z2 (dE 1 Z2 (dE 2 Z2 (RD_t 3 Z kR Z (fun _ hK=>v_add Z Z oO) (RD_t 4 Z kR Z (fun _ hK=>v_slice_from1 (i:=(i+1)) underlying88 sizeOf84 Z Z oM oM oM) (dE 5 Z2 (dE 6 Z2 (RD_t 7 Z kR Z (fun _ hK=>v_slice_from1 (i:=i) underlying88 sizeOf84 Z Z oM oM oM) (r1 8 Z ?_))))))))
 refine o_copy 0 H ((ptrs kids).drop i) underlying88 typeInfo84 Z Z Z Z Z (by simp[Nat.min_def]<;>(try split)<;>omega) (fun j v hj=>by (rw[Addr.add_lit]);(rw[List.getElem?_drop]at hj);exact acc_cell (k:=0) H rfl (by first|exact hj|(rw[List.getElem?_append_left (List.getElem?_eq_some_iff.1 hj).1];exact hj))) (by intro v hv;first|exact ptrs_one v (List.mem_of_mem_drop hv)|(simp at hv;subst hv;rfl)) (by simp;try omega) ?_;intro _ H
 refine q4 H hd17 (rz (N_K (q2 (pe 2 Z (o_slice_from1 (i:=i) underlying88 sizeOf84 Z Z Z oM oM oM (mV Z ?_))))))
 refine o_copy 0 H ([ptr k.b]) underlying88 typeInfo84 Z Z Z Z Z (by simp[Nat.min_def]<;>(try split)<;>omega) (fun j v hj=>by (rw[Addr.add_lit,Nat.zero_add]);exact blk_cell (k:=1) H rfl (by simpa using hj)) (by intro v hv;first|exact ptrs_one v (List.mem_of_mem_drop hv)|(simp at hv;subst hv;rfl)) (by simp;try omega) ?_;intro _ H
 refine q1 (pe 2 Z (q3 (W_ret (N_K_ret (rt1 results172 Z ?_)))))
 have H:=H.dl 1
 exact H.retM ⟨_,rfl,(insC (by simp;omega)).trans (ptrs_ins kids k i)⟩
theorem l_Delete_c (w0:World)(G0:PH)(hG:PSub G0 w0)(vkids:Value)(kids:List Nd)(i:Nat)(hi:i<kids.length)(hkl:kids.length≤1099511627776)(hLent:Lent w0 G0 [acc 84 1 vkids kids.length (ptrs kids)]) :
  Calls Tryz.prog 216 #[vkids,.int .i64 (i:Int),.int .i64 ((i:Int)+1)] w0 (RetM w0 G0 (fps [acc 84 1 vkids kids.length (ptrs kids)]) (fun G' v Bs=>∃(c:List Value),Bs=[acc 84 1 v (kids.length-1) c]∧c=ptrs (kids.take i++kids.drop (i+1)))):=by
 have H:Hp w0 G0 (fps [acc 84 1 vkids kids.length (ptrs kids)]) w0 G0 [acc 84 1 vkids kids.length (ptrs kids)]:=hLent.hp
 obtain⟨akids,ckids,rfl⟩:=H.accShape (k:=0) rfl
 refine calls_of_W (l:=[.slice akids kids.length ckids,.int .i64 (i:Int),.int .i64 ((i:Int)+1)]) func216 Z ntmps216 Z (q2 (aG Z (q1 (pe 4 Z (lN Z ?_)))))
 have hcc:=H.accCap (k:=0) rfl
 refine o_slice3 (i:=i) (j:=i+1) (k:=kids.length) underlying88 sizeOf84 Z Z Z Z Z Z oM Z oM oM oM (q3 (W_seq (q2 (pe 3 Z (q3 ?_)))))
 refine W_cond Z ?_ ?_
 ·intro hc1
  try simp only[nrm]at hc1
  omega
 intro hc1'
 try simp only[nrm]at hc1'
 refine W_skip (N_K (q2 (mV Z (lN Z (aG Z (q3 (W_seq (W_drawK [] 8 H kR Z ?_))))))));intro _ H;have hd2:=PLe.refl G0
 refine dE 0 Z2 (dE 1 Z2 ?_)
 have hac3:=H.accCap (k:=0) rfl
 refine RD_t 2 Z kR Z (fun _ hK=>v_slice_to (j:=i) underlying88 sizeOf84 Z Z Z oM) (dE 3 Z2 (dE 4 Z2 ?_))
 have hac4:=H.accCap (k:=0) rfl
 refine RD_t 5 Z kR Z (fun _ hK=>v_slice_from (i:=(i+1)) underlying88 sizeOf84 Z Z oM oM) (r1 6 Z ?_)
 refine o_append_del 0 H i Z (chkK kids) (by intro _ _ hz _ hu;obtain rfl:=hz;simp at hu;subst hu;rfl) underlying88 typeInfo84 rfl rfl rfl rfl oM aN ?_;intro _ _ hb5 H _;cases hb5
 refine q4 H hd2 (dE 7 Z2 (rz (N_K (q2 (pe 2 Z (lN Z (mV Z ?_)))))))
 have hcc2:=H.accCap (k:=0) rfl
 refine o_slice_mid1 (i:=i+(kids.length-(i+1))) (j:=kids.length) underlying88 sizeOf84 Z Z Z Z Z Z oM oM oM ?_
 refine o_clear1 0 H underlying88 zeroValue84 Z Z (show od _ _=_ from(show od _ _=some (.slice _ (kids.length-(i+(kids.length-(i+1)))) _) from Z).trans (by rw[show kids.length-(i+(kids.length-(i+1)))=1 by omega])) Z oM (by simp;omega) ?_;intro _ H
 refine q1 (pe 2 Z (q3 (W_ret (rt1 results216 Z ?_))))
 exact H.retM ⟨_,acc_1 oM,(by (rw[Nat.mul_one,Nat.mul_one]);exact ptrs_del kids i)⟩
theorem i_insert_c (w0:World)(G0:PH)(hG:PSub G0 w0)(Ft:Fr)(t:Nd)(hNt:NdO 90 84 G0 t Ft)(cx:List Value)(x:BItem)(hx:itemE G0 x cx)(hLent:Lent w0 G0 [frag Ft])(hwt:t.wf)(hct:t.cnt≤1000) :
  Calls Tryz.prog 116 #[.pointer (some ⟨t.b,0,none⟩),.agg cx.toArray] w0 (RetM w0 G0 (fps [frag Ft]) (fun G' v Bs=>∃(nb:Nat) (F':Fr) (t':Nd),v= .bool (t.ins x nb).isSome∧Bs=[frag F']∧NdO 90 84 G' t' F'∧t'.b=t.b∧(t.ins x nb).getD t=t')):=by
 obtain⟨_,_,_,rfl,hi1,hr1,_,_⟩:=ox hx
 have H:Hp w0 G0 (fps [frag Ft]) w0 G0 [frag Ft]:=hLent.hp
 refine calls_of_W (l:=[.pointer (some ⟨t.b,0,none⟩),_]) func116 Z ntmps116 Z (q2 (o_box H Z Z Z ?_));intro _ _ _ H
 refine aG Z (q1 (mV Z (fA 0 Z (lB 0 H Z3 (xc Z2 (i_dirOf_c _ _ (H.lendSubL [1]) _ ((H.lendN (k:=1) (ks:=[1]) Z Z hNt).at (show Nd.at_ t []=some t from Z)) _ hi1 hwt) ?_)))))
 rintro _ _ ⟨_,rfl,ew3,⟨hdf3,rfl⟩|⟨d3,nm3,hdf3,rfl⟩⟩
 ·skip
  have H:=H.step ew3;refine⟨_,rfl,?_⟩
  refine pe 5 Z (q3 (W_seq (q2 (mV Z (o_eqnil_ptr underlying84 Z Z Z (q3 (W_true Z (q2 (aG Z (q3 (W_ret (N_K_ret (rt1 results116 Z ?_)))))))))))))
  have H:=H.dl 0
  exact H.retM ⟨0,_,_,by (rw[(Nd.ins_no1 hdf3)];rfl),rfl,hNt,rfl,by (rw[(Nd.ins_no1 hdf3)];rfl)⟩
 skip
 have H:=H.step ew3;refine⟨_,rfl,?_⟩
 have hnml3:=Nd.dir_len hdf3
 refine pe 5 Z (q3 (W_seq (q2 (mV Z (o_eqnil_ptr underlying84 Z Z Z (q3 (W_false Z (W_skip (N_K (q2 (pe 2 Z (xr H Z2 (i_place_c _ _ (H.lendSubL [1]) _ ((H.lendN (k:=1) (ks:=[1]) Z Z hNt).at (Nd.dirOf_some hdf3).2.2.1) _ hnml3 (Nd.dir_wf hwt hdf3)) ?_))))))))))));intro _ H
 refine pe 5 Z (q3 (W_seq (q2 (mV Z (q3 ?_)))))
 refine W_cond Z ?_ ?_
 ·intro hc5
  try simp only[nrm]at hc5
  refine q2 (aG Z (q3 (W_ret (N_K_ret (rt1 results116 Z ?_)))))
  have H:=H.dl 0
  exact H.retM ⟨0,_,_,by (rw[(Nd.ins_no2 hdf3 (by simpa using hc5))];rfl),rfl,hNt,rfl,by (rw[(Nd.ins_no2 hdf3 (by simpa using hc5))];rfl)⟩
 intro hc5'
 try simp only[nrm]at hc5'
 have H:=H.tF 1
 obtain⟨_,_,_,_,_,oR,H,ohri,ohNs,_,_,hcov,hclose⟩:=Hp.openNode H hNt (Nd.dirOf_some hdf3).2.2.1
 obtain⟨_,_,rfl⟩:=H.accShape (k:=1) rfl;have hdo:=PLe.refl G0;have hn_ohri:=ohri.len
 refine W_skip (N_K (W_seq (W_drawK [3] 19 H kR Z ?_)));intro _ H;have hd6:=PLe.refl G0
 refine dE 0 Z2 (dE 1 Z2 (dE 2 Z2 (dF 3 3 Z2 (dE 5 Z2 (dE 6 Z2 (dF 7 1 Z2 (dB 8 0 Z4 (dF 9 2 Z2 (dB 10 0 Z4 ?_)))))))))
 refine r2 4 11 Z2 ?_ ?_
 ·skip
  refine lB 0 H Z3 (q4 H hd6 (r1 11 Z (xc Z2 (l_Clone_c _ _ H.sub _ _ hr1) ?_)))
  rintro _ _ ⟨_,_,_,g7,rfl,⟨_,rfl,hchk7⟩,hp7,hq7,hs7⟩
  have H:=H.growO g7 hp7 hq7 hs7;obtain⟨_,_,rfl⟩:=H.accShape (k:=0) rfl
  have ohri:=ohri.up g7.le
  have ohNs:=ohNs.up g7.le
  have hdo:=hdo.trans g7.le
  have hd6:=hd6.trans g7.le
  refine⟨_,Z,?_⟩
  obtain⟨_,H,hsg8,hsr8⟩:=H.shutL (k:=0) rfl (H.apart (k:=0) (ks:=[1,2,3]) rfl rfl (by intro b hb;rcases hcov b hb with h|h|h;(· exact fpsAt_mem (k:=1) rfl rfl b (by simp[blk,h]));(· exact fpsAt_mem (k:=2) rfl rfl b h);(· exact fpsAt_mem (k:=3) rfl rfl b h))) hchk7 aN aN
  have ohri:=ohri.up hsg8
  have ohNs:=ohNs.up hsg8
  have hdo:=hdo.trans hsg8
  have hd6:=hd6.trans hsg8
  refine q4 H hd6 (RD_t 12 Z kR Z (fun _ hK=>v_build bf90 Z Z) (r1 13 Z (o_box H Z Z Z ?_)));intro b9 _ _ H
  refine q4 H hd6 (r1 14 Z (xbs H Z7 ?_));intro _ _ _ H
  refine q4 H hd6 (r1 15 Z ?_)
  have H:=H.tF 3
  refine xc Z2 (l_Insert_c _ _ H.sub _ _ _ (Sp.pl_le d3.kids nm3) oM _ (Nd.mk b9 nm3 x.dir x.ids []) H.lent2) ?_
  rintro _ _ ⟨_,_,_,rfl,H11',⟨_,rfl,rfl⟩⟩
  have ohri:=ohri.up H11'.le
  have ohNs:=ohNs.up H11'.le
  have hsr8:=hsr8.up H11'.le
  have hdo:=hdo.trans H11'.le
  have hd6:=hd6.trans H11'.le
  have H:=H.borrow2 H11'
  obtain⟨avAk,cvAk,rfl⟩:=H.accShape (k:=0) rfl
  refine⟨_,Z,?_⟩
  refine q4 H hd6 (dE 16 Z2 (dF 17 3 Z2 (r1 18 Z (xst 2 H Z8 ?_))));intro _ H
  refine q4 H hd6 (rz (N_K (q2 (aG Z (q3 (W_ret (rt1 results116 Z ?_)))))))
  have H:=H.sel [1,3,2,0] rfl
  have H:=H.inF
  have H:=H.tF 2
  have H:=H.tF 2
  obtain⟨Fs2,hp2,hN2⟩:=NdsO.ins (k:=Nd.mk b9 nm3 x.dir x.ids []) (Sp.pl d3.kids nm3) ohNs (NdO.new hnml3 hsr8)
  have hcd:=Nd.at_cnt (Nd.dirOf_some hdf3).2.2.1;have hcl:=Nd.kids_le d3;have hpl:=Sp.pl_le d3.kids nm3
  have hkl:(d3.kids.take (Sp.pl d3.kids nm3)++Nd.mk b9 nm3 x.dir x.ids []::d3.kids.drop (Sp.pl d3.kids nm3)).length=d3.kids.length+1:=by (simp;omega)
  obtain⟨F2,H,hN3,hb3⟩:=hclose (kids':=(d3.kids.take (Sp.pl d3.kids nm3)++Nd.mk b9 nm3 x.dir x.ids []::d3.kids.drop (Sp.pl d3.kids nm3))) (Fs':=Fs2) (by (rw[hkl]);exact H) (by (refine List.Perm.trans ?_ (List.Perm.append_right oR hp2.symm));simp) hdo ohri hN2 oM
  have hins:=Nd.ins_yes (nb:=b9) hdf3 (by simpa using hc5')
  exact H.retM ⟨b9,_,_,by (rw[hins];rfl),rfl,hN3,hb3,by (rw[hins];rfl)⟩
 skip
 refine xc Z2 (l_Clone_c _ _ H.sub _ _ hr1) ?_
 rintro _ _ ⟨_,_,_,g13,rfl,⟨_,rfl,hchk13⟩,hp13,hq13,hs13⟩
 have H:=H.growO g13 hp13 hq13 hs13;obtain⟨_,_,rfl⟩:=H.accShape (k:=0) rfl
 have ohri:=ohri.up g13.le
 have ohNs:=ohNs.up g13.le
 have hdo:=hdo.trans g13.le
 have hd6:=hd6.trans g13.le
 refine⟨_,Z,?_⟩
 obtain⟨_,H,hsg14,hsr14⟩:=H.shutL (k:=0) rfl (H.apart (k:=0) (ks:=[1,2,3]) rfl rfl (by intro b hb;rcases hcov b hb with h|h|h;(· exact fpsAt_mem (k:=1) rfl rfl b (by simp[blk,h]));(· exact fpsAt_mem (k:=2) rfl rfl b h);(· exact fpsAt_mem (k:=3) rfl rfl b h))) hchk13 aN aN
 have ohri:=ohri.up hsg14
 have ohNs:=ohNs.up hsg14
 have hdo:=hdo.trans hsg14
 have hd6:=hd6.trans hsg14
 refine q4 H hd6 (RD_t 12 Z kR Z (fun _ hK=>v_build bf90 Z Z) ?_)
 refine r2 4 13 Z2 ?_ ?_
 ·skip
  refine lB 0 H Z3 (q4 H hd6 (r1 13 Z (o_box H Z Z Z ?_)));intro b15 _ _ H
  refine q4 H hd6 (r1 14 Z (xbs H Z7 ?_));intro _ _ _ H
  refine q4 H hd6 (r1 15 Z ?_)
  have H:=H.tF 3
  refine xc Z2 (l_Insert_c _ _ H.sub _ _ _ (Sp.pl_le d3.kids nm3) oM _ (Nd.mk b15 nm3 x.dir x.ids []) H.lent2) ?_
  rintro _ _ ⟨_,_,_,rfl,H17',⟨_,rfl,rfl⟩⟩
  have ohri:=ohri.up H17'.le
  have ohNs:=ohNs.up H17'.le
  have hsr14:=hsr14.up H17'.le
  have hdo:=hdo.trans H17'.le
  have hd6:=hd6.trans H17'.le
  have H:=H.borrow2 H17'
  obtain⟨avAk,cvAk,rfl⟩:=H.accShape (k:=0) rfl
  refine⟨_,Z,?_⟩
  refine q4 H hd6 (dE 16 Z2 (dF 17 3 Z2 (r1 18 Z (xst 2 H Z8 ?_))));intro _ H
  refine q4 H hd6 (rz (N_K (q2 (aG Z (q3 (W_ret (rt1 results116 Z ?_)))))))
  have H:=H.sel [1,3,2,0] rfl
  have H:=H.inF
  have H:=H.tF 2
  have H:=H.tF 2
  obtain⟨Fs2,hp2,hN2⟩:=NdsO.ins (k:=Nd.mk b15 nm3 x.dir x.ids []) (Sp.pl d3.kids nm3) ohNs (NdO.new hnml3 hsr14)
  have hcd:=Nd.at_cnt (Nd.dirOf_some hdf3).2.2.1;have hcl:=Nd.kids_le d3;have hpl:=Sp.pl_le d3.kids nm3
  have hkl:(d3.kids.take (Sp.pl d3.kids nm3)++Nd.mk b15 nm3 x.dir x.ids []::d3.kids.drop (Sp.pl d3.kids nm3)).length=d3.kids.length+1:=by (simp;omega)
  obtain⟨F2,H,hN3,hb3⟩:=hclose (kids':=(d3.kids.take (Sp.pl d3.kids nm3)++Nd.mk b15 nm3 x.dir x.ids []::d3.kids.drop (Sp.pl d3.kids nm3))) (Fs':=Fs2) (by (rw[hkl]);exact H) (by (refine List.Perm.trans ?_ (List.Perm.append_right oR hp2.symm));simp) hdo ohri hN2 oM
  have hins:=Nd.ins_yes (nb:=b15) hdf3 (by simpa using hc5')
  exact H.retM ⟨b15,_,_,by (rw[hins];rfl),rfl,hN3,hb3,by (rw[hins];rfl)⟩
 skip
 refine o_box H Z Z Z ?_;intro b19 _ _ H
 refine q4 H hd6 ?_
 refine r2 4 14 Z2 ?_ ?_
 ·skip
  refine lB 1 H Z3 (q4 H hd6 (r1 14 Z (xbs H Z7 ?_)));intro _ _ _ H
  refine q4 H hd6 (r1 15 Z ?_)
  have H:=H.tF 3
  refine xc Z2 (l_Insert_c _ _ H.sub _ _ _ (Sp.pl_le d3.kids nm3) oM _ (Nd.mk b19 nm3 x.dir x.ids []) H.lent2) ?_
  rintro _ _ ⟨_,_,_,rfl,H21',⟨_,rfl,rfl⟩⟩
  have ohri:=ohri.up H21'.le
  have ohNs:=ohNs.up H21'.le
  have hsr14:=hsr14.up H21'.le
  have hdo:=hdo.trans H21'.le
  have hd6:=hd6.trans H21'.le
  have H:=H.borrow2 H21'
  obtain⟨avAk,cvAk,rfl⟩:=H.accShape (k:=0) rfl
  refine⟨_,Z,?_⟩
  refine q4 H hd6 (dE 16 Z2 (dF 17 3 Z2 (r1 18 Z (xst 2 H Z8 ?_))));intro _ H
  refine q4 H hd6 (rz (N_K (q2 (aG Z (q3 (W_ret (rt1 results116 Z ?_)))))))
  have H:=H.sel [1,3,2,0] rfl
  have H:=H.inF
  have H:=H.tF 2
  have H:=H.tF 2
  obtain⟨Fs2,hp2,hN2⟩:=NdsO.ins (k:=Nd.mk b19 nm3 x.dir x.ids []) (Sp.pl d3.kids nm3) ohNs (NdO.new hnml3 hsr14)
  have hcd:=Nd.at_cnt (Nd.dirOf_some hdf3).2.2.1;have hcl:=Nd.kids_le d3;have hpl:=Sp.pl_le d3.kids nm3
  have hkl:(d3.kids.take (Sp.pl d3.kids nm3)++Nd.mk b19 nm3 x.dir x.ids []::d3.kids.drop (Sp.pl d3.kids nm3)).length=d3.kids.length+1:=by (simp;omega)
  obtain⟨F2,H,hN3,hb3⟩:=hclose (kids':=(d3.kids.take (Sp.pl d3.kids nm3)++Nd.mk b19 nm3 x.dir x.ids []::d3.kids.drop (Sp.pl d3.kids nm3))) (Fs':=Fs2) (by (rw[hkl]);exact H) (by (refine List.Perm.trans ?_ (List.Perm.append_right oR hp2.symm));simp) hdo ohri hN2 oM
  have hins:=Nd.ins_yes (nb:=b19) hdf3 (by simpa using hc5')
  exact H.retM ⟨b19,_,_,by (rw[hins];rfl),rfl,hN3,hb3,by (rw[hins];rfl)⟩
 skip
 refine xbs H Z7 ?_;intro _ _ _ H
 refine q4 H hd6 (r1 4 Z (lB 2 H Z3 (q4 H hd6 (r1 15 Z ?_))))
 have H:=H.tF 3
 refine xc Z2 (l_Insert_c _ _ H.sub _ _ _ (Sp.pl_le d3.kids nm3) oM _ (Nd.mk b19 nm3 x.dir x.ids []) H.lent2) ?_
 rintro _ _ ⟨_,_,_,rfl,H24',⟨_,rfl,rfl⟩⟩
 have ohri:=ohri.up H24'.le
 have ohNs:=ohNs.up H24'.le
 have hsr14:=hsr14.up H24'.le
 have hdo:=hdo.trans H24'.le
 have hd6:=hd6.trans H24'.le
 have H:=H.borrow2 H24'
 obtain⟨avAk,cvAk,rfl⟩:=H.accShape (k:=0) rfl
 refine⟨_,Z,?_⟩
 refine q4 H hd6 (dE 16 Z2 (dF 17 3 Z2 (r1 18 Z (xst 2 H Z8 ?_))));intro _ H
 refine q4 H hd6 (rz (N_K (q2 (aG Z (q3 (W_ret (rt1 results116 Z ?_)))))))
 have H:=H.sel [1,3,2,0] rfl
 have H:=H.inF
 have H:=H.tF 2
 have H:=H.tF 2
 obtain⟨Fs2,hp2,hN2⟩:=NdsO.ins (k:=Nd.mk b19 nm3 x.dir x.ids []) (Sp.pl d3.kids nm3) ohNs (NdO.new hnml3 hsr14)
 have hcd:=Nd.at_cnt (Nd.dirOf_some hdf3).2.2.1;have hcl:=Nd.kids_le d3;have hpl:=Sp.pl_le d3.kids nm3
 have hkl:(d3.kids.take (Sp.pl d3.kids nm3)++Nd.mk b19 nm3 x.dir x.ids []::d3.kids.drop (Sp.pl d3.kids nm3)).length=d3.kids.length+1:=by (simp;omega)
 obtain⟨F2,H,hN3,hb3⟩:=hclose (kids':=(d3.kids.take (Sp.pl d3.kids nm3)++Nd.mk b19 nm3 x.dir x.ids []::d3.kids.drop (Sp.pl d3.kids nm3))) (Fs':=Fs2) (by (rw[hkl]);exact H) (by (refine List.Perm.trans ?_ (List.Perm.append_right oR hp2.symm));simp) hdo ohri hN2 oM
 have hins:=Nd.ins_yes (nb:=b19) hdf3 (by simpa using hc5')
 exact H.retM ⟨b19,_,_,by (rw[hins];rfl),rfl,hN3,hb3,by (rw[hins];rfl)⟩
theorem i_openTree_c (w0:World)(G0:PH)(hG:PSub G0 w0)(vlist:Value)(list:List (BItem))(hlist:RdItems G0 vlist list)(hLent:Lent w0 G0 []) :
  Calls Tryz.prog 49 #[vlist] w0 (RetM w0 G0 [] (fun G' v Bs=>(v= .tuple #[.pointer none,.bool false]∧Bs=[]∧Sp.TreeValid list=false)∨(∃(T:Nd) (F:Fr),v= .tuple #[.pointer (some ⟨T.b,0,none⟩),.bool true]∧Bs=[frag F]∧NdO 90 84 G' T F∧Nd.TOK T list∧Sp.TreeValid list=true))):=by
 obtain⟨alist,klist,rfl⟩:=hlist.shape
 have hlimlist:list.length≤1099511627776:=hlist.lim
 have H:Hp w0 G0 [] w0 G0 []:=hLent.hp
 refine calls_of_W (l:=[.slice alist list.length klist]) func49 Z ntmps49 Z (q2 (pe 2 Z (q3 (W_seq (q2 (mV Z (lN Z (pe 1 Z (q3 ?_)))))))))
 refine W_cond Z ?_ ?_
 ·intro hc1
  try simp only[nrm]at hc1
  refine q2 (pe 2 Z (q3 (W_ret (N_K_ret (rt2 results49 Z Z ?_)))))
  exact H.retM (.inl ⟨Z,Z,Nd.tv_long oM⟩)
 intro hc1'
 try simp only[nrm]at hc1'
 refine W_skip (N_K (q2 (o_build bf90 Z Z Z (o_box H Z Z Z ?_))));intro b2 _ _ H
 refine aG Z (q1 (aG Z (q3 (W_seq (q2 (mV Z (lN Z (mV Z (q3 (W_block ?_))))))))))
 have H:=H.addF
 have H:=H.tF 1
 have H:=H.inF
 have hN0:NdO 90 84 G0 (Nd.mk b2 [] true [] []) _:=NdO.new (by simp) (RdS.nil _ _ _)
 refine W_lp (hf:=(Sub.cons (t:=13) Z (Sub.cons (t:=14) Z Sub.nil))) (J:=fun M w m=>∃(k:Nat) (la:Bs) (T:Nd) (FT:Fr) (G:PH),M=[(15,.int .i64 (k:Int)),(5,str la),(4,.pointer (some ⟨T.b,0,none⟩))]∧PLe G0 G∧Hp w0 G0 [] w G [frag FT]∧(k≤list.length∧la=Nd.lastPath list k∧la.length≤16777216∧NdO 90 84 G T FT∧Nd.TOK T (list.take k))∧m=(list.length-k)) (h0:=⟨0,[],(Nd.mk b2 [] true [] []),_,_,Z,PLe.refl _,H,?inv,Z⟩) (round:=?round)
 case inv=>exact⟨by omega,rfl,by simp,hN0,Nd.tok_root _⟩
 case round =>
  rintro _ _ _ ⟨k,la,T,FT,_,rfl,hle3,H,hinv3,rfl⟩
  have hlist:=hlist.up hle3
  obtain⟨_,hla,_,hNT,hTok⟩:=hinv3
  refine q2 (pe 1 Z (q3 (W_seq ?_)))
  refine W_cond Z ?_ ?_
  ·intro hc4
   try simp only[nrm]at hc4
   refine W_skip (N_K (W_seq (W_block (q2 (iP k hlist Z3 Z ?_)))));intro _ _ z5 _ hz5 hE5 hrow5
   obtain⟨_,_,_,rfl,hi5,hr5,_,_⟩:=ox hE5
   refine o_loadagg_P H isAgg41 sizeOf41 Z Z hrow5 Z (xal H Z ?_);intro _ _ _ H
   refine xst 0 H Z8 ?_;intro _ H
   refine q3 (W_seq (q2 (fA 0 Z (lB 0 H Z3 (mV Z (o_sleq Z Z Z (mV Z ?_)))))))
   refine R_case (t:=23) Z ?_ ?_
   ·intro hc8
    try simp only[nrm]at hc8
    refine pe 10 Z (q3 (W_true Z (q2 (pe 2 Z (q3 (W_ret (N_K_ret (N_B_ret (N_K_ret (N_LP_ret (N_B_ret (N_K_ret (rt2 results49 Z Z ?_)))))))))))))
    have H:=H.dl 0
    have H:=H.dl 0
    exact H.retM (.inl ⟨rfl,rfl,Nd.tv_false 0 hTok hz5 (.inl (by (rw[←hla]);exact Nd.leq_no (by first|simpa using hc8|(simp at hc8;exact hc8.symm))))⟩)
   intro hc8'
   try simp only[nrm]at hc8'
   refine gR Z (lA 0 3 H Z4 (gR Z (xr H Z2 (i_itemValid_c _ _ H.sub _ _ ⟨_,_,_,Z,hi5,hr5⟩) ?_)));intro _ H
   refine pe 3 Z ?_
   refine R_case (t:=28) Z ?_ ?_
   ·intro hc10
    try simp only[nrm]at hc10
    refine pe 5 Z (q3 (W_true Z (q2 (pe 2 Z (q3 (W_ret (N_K_ret (N_B_ret (N_K_ret (N_LP_ret (N_B_ret (N_K_ret (rt2 results49 Z Z ?_)))))))))))))
    have H:=H.dl 0
    have H:=H.dl 0
    exact H.retM (.inl ⟨rfl,rfl,Nd.tv_false 0 hTok hz5 (.inr (.inl (by simpa using hc10)))⟩)
   intro hc10'
   try simp only[nrm]at hc10'
   refine pe 1 Z (gR Z (lA 0 3 H Z4 (gR Z ?_)))
   have H:=H.tF 1
   refine xc Z2 (i_insert_c _ _ H.sub _ _ hNT _ _ ⟨_,_,_,Z,hi5,hr5⟩ H.lent1 hTok.wf (by have:=hTok.cnt;simp at this;omega)) ?_
   rintro _ _ ⟨_,_,_,rfl,H11',⟨nb11,F11,t11,rfl,rfl,hN11,hb11,ht11⟩⟩
   have hle3:=hle3.trans H11'.le
   have H:=H.borrow1 H11'
   try rw[←hb11]
   refine⟨_,Z,?_⟩
   refine pe 2 Z (q3 ?_)
   refine W_cond Z ?_ ?_
   ·intro hc12
    try simp only[nrm]at hc12
    refine q2 (pe 2 Z (q3 (W_ret (N_K_ret (N_B_ret (N_K_ret (N_LP_ret (N_B_ret (N_K_ret (rt2 results49 Z Z ?_))))))))))
    have H:=H.dl 0
    have H:=H.dl 0
    exact H.retM (.inl ⟨rfl,rfl,Nd.tv_false nb11 hTok hz5 (.inr (.inr (by simpa using hc12)))⟩)
   intro hc12'
   try simp only[nrm]at hc12'
   refine W_skip (N_K (W_region (fA 0 Z (lB 1 H Z3 (aG Z (R_nil (N_B (N_K (W_region (aD Z2 (mV Z (R_nil ?_))))))))))))
   have H:=H.dl 1
   refine N_lp (hJ:=⟨k+1,z5.path,t11,F11,_,Z,hle3,H,?inv,Z⟩) (hm:=?hm)
   case hm=>omega
   case inv=>exact⟨by omega,(Nd.lastPath_succ hz5).symm,by assumption,hN11,Nd.open_step hTok hz5 oM (by (rw[←hla]);exact Nd.leq_yes hc8'.1 hc8'.2) (by simpa using hc10') (Nd.getD_some ht11 (by simpa using hc12'))⟩
  intro hc4'
  try simp only[nrm]at hc4'
  refine W_exit (N_K_exit (N_LP_exit (N_B_same (N_K (q2 (pe 3 Z (q3 (W_ret (rt2 results49 Z Z ?_)))))))))
  have hTl:Nd.TOK T list:=by (have h9:=hTok;rw[List.take_of_length_le oM]at h9;exact h9)
  exact H.retM (.inr ⟨T,_,Z,Z,hNT,hTl,hTl.valid⟩)
theorem w_sameInts_c (w0:World)(G0:PH)(hG:PSub G0 w0)(va:Value)(a:List (Int))(ha:RdI G0 va a)(vb:Value)(b:List (Int))(hb:RdI G0 vb b)(hab:a=b) :
  Calls Tryz.prog 63 #[va,vb] w0 (Rets w0 (.bool true)):=by
 obtain⟨aa,ka,rfl⟩:=ha.shape
 have hlima:a.length≤1099511627776:=ha.lim
 obtain⟨ab,kb,rfl⟩:=hb.shape
 have hlimb:b.length≤1099511627776:=hb.lim
 have hle:=congrArg List.length hab
 have H:=Hp.init hG
 refine calls_of_W (l:=[.slice aa a.length ka,.slice ab b.length kb]) func63 Z ntmps63 Z (q2 (aG Z (q3 (W_seq (q2 (mV Z (lN Z (mV Z (lN Z (pe 1 Z (q3 ?_)))))))))))
 refine W_cond Z ?_ ?_
 ·intro hc1
  try simp only[nrm]at hc1
  refine q2 (aG Z (q3 (W_ret (N_K_ret (rt1 results63 Z ?_)))))
  exact absurd (show False from by omega) id
 intro hc1'
 try simp only[nrm]at hc1'
 refine W_skip (N_K (W_seq (q2 (aG Z (q3 (W_block ?_))))))
 refine W_lp (hf:=(Sub.cons (t:=0) Z (Sub.cons (t:=1) Z Sub.nil))) (J:=fun M w m=>∃(k:Nat) (G:PH),M=[(5,.int .i64 (k:Int))]∧PLe G0 G∧Hp w0 G0 [] w G []∧(k≤a.length)∧m=(a.length-k)) (h0:=⟨0,_,Z,PLe.refl _,H,?inv,Z⟩) (round:=?round)
 case inv=>omega
 case round =>
  rintro _ _ _ ⟨k,G2,rfl,hle2,H,hinv2,rfl⟩
  have ha:=ha.up hle2
  have hb:=hb.up hle2
  have hk:=hinv2
  refine W_seq (q2 (pe 2 Z (lN Z (pe 1 Z (q3 ?_)))))
  refine W_cond Z ?_ ?_
  ·intro hc3
   try simp only[nrm]at hc3
   refine W_skip (N_K (W_seq (W_block (W_seq (W_drawK [] 9 H kR Z ?_)))));intro _ H;have hd4:=PLe.refl G2
   refine dE 0 Z2 (dE 1 Z2 ?_)
   have hl5:=ha.len
   obtain⟨_,_,_,_,ha5,hz5,hq5,hE5,hrow5,_⟩:=ha.at (i:=k) oM
   clear hq5
   obtain⟨rfl,_⟩:=hE5
   refine dI 2 1 k ha5 Z3 Z (dP 3 hrow5 0 Z3 (dE 4 Z2 (dE 5 Z2 ?_)))
   have hl6:=hb.len
   obtain⟨_,_,_,_,ha6,hz6,hq6,hE6,hrow6,_⟩:=hb.at (i:=k) oM
   clear hq6
   obtain⟨rfl,_⟩:=hE6
   refine dI 6 1 k ha6 Z3 Z (dP 7 hrow6 0 Z3 (dE 8 Z2 (rz (N_K ?_))))
   refine W_cond Z ?_ ?_
   ·intro hc7
    try simp only[nrm]at hc7
    refine q2 (aG Z (q3 (W_ret (N_B_ret (N_K_ret (N_LP_ret (N_B_ret (N_K_ret (rt1 results63 Z ?_)))))))))
    exact absurd (show False from by first|omega|(exact hc7 (Sp.same_at hab hz5 hz6))) id
   intro hc7'
   try simp only[nrm]at hc7'
   refine W_skip (N_B (N_K (W_region (mV Z (aD Z2 (aG Z (R_nil ?_)))))))
   refine N_lp (hJ:=⟨k+1,_,Z,hle2,H,?inv,Z⟩) (hm:=?hm)
   case hm=>omega
   case inv=>omega
  intro hc3'
  try simp only[nrm]at hc3'
  refine W_exit (N_K_exit (N_LP_exit (N_B_same (N_K (q2 (aG Z (q3 (W_ret (rt1 results63 Z ?_)))))))))
  exact H.rets Z
theorem w_sameHeld_c (w0:World)(G0:PH)(hG:PSub G0 w0)(ca:List Value)(a:BHeld)(ha:heldE G0 a ca)(cb:List Value)(b:BHeld)(hb:heldE G0 b cb)(hab:a=b) :
  Calls Tryz.prog 113 #[.agg ca.toArray,.agg cb.toArray] w0 (Rets w0 (.bool true)):=by
 obtain⟨_,_,_,rfl,_,hr1,_,_,_⟩:=ox ha
 obtain⟨_,_,_,rfl,_,hr2,_,_,_⟩:=ox hb
 have H:=Hp.init hG
 refine calls_of_W (l:=[_,_]) func113 Z ntmps113 Z (q2 (o_box H Z Z Z ?_));intro _ _ _ H
 refine o_box H Z Z Z ?_;intro _ _ _ H
 refine aG Z (q1 (fA 0 Z (lB 1 H Z3 (fA 0 Z (lB 0 H Z3 (pe 2 Z ?_))))))
 refine R_case (t:=10) Z ?_ ?_
 ·intro hc5
  try simp only[nrm]at hc5
  refine gR Z (fA 2 Z (gR Z (lB 1 H Z3 (gR Z (fA 2 Z (gR Z (lB 0 H Z3 (pe 3 Z ?_))))))))
  refine R_case (t:=17) Z ?_ ?_
  ·intro hc6
   try simp only[nrm]at hc6
   refine gR Z (fA 1 Z (gR Z (lB 1 H Z3 (gR Z (fA 1 Z (gR Z (lB 0 H Z3 (gR Z (xr H Z2 (w_sameInts_c _ _ H.sub _ _ hr1 _ _ hr2 (congrArg BHeld.bytes hab)) ?_)))))))));intro _ H
   refine pe 2 Z (q3 (W_ret (rt1 results113 Z ?_)))
   exact H.rets Z
  intro hc6'
  try simp only[nrm]at hc6'
  refine pe 7 Z (q3 (W_ret (rt1 results113 Z ?_)))
  exact absurd (show False from by simp[hab]at hc6') id
 intro hc5'
 try simp only[nrm]at hc5'
 refine pe 14 Z (q3 (W_ret (rt1 results113 Z ?_)))
 exact absurd (show False from by simp[hab]at hc5') id
theorem w_sameStore_c (w0:World)(G0:PH)(hG:PSub G0 w0)(va:Value)(a:List (BHeld))(ha:RdH G0 va a)(vb:Value)(b:List (BHeld))(hb:RdH G0 vb b)(hab:a=b) :
  Calls Tryz.prog 46 #[va,vb] w0 (Rets w0 (.bool true)):=by
 obtain⟨aa,ka,rfl⟩:=ha.shape
 have hlima:a.length≤1099511627776:=ha.lim
 obtain⟨ab,kb,rfl⟩:=hb.shape
 have hlimb:b.length≤1099511627776:=hb.lim
 have hle:=congrArg List.length hab
 have H:=Hp.init hG
 refine calls_of_W (l:=[.slice aa a.length ka,.slice ab b.length kb]) func46 Z ntmps46 Z (q2 (aG Z (q3 (W_seq (q2 (mV Z (lN Z (mV Z (lN Z (pe 1 Z (q3 ?_)))))))))))
 refine W_cond Z ?_ ?_
 ·intro hc1
  try simp only[nrm]at hc1
  refine q2 (aG Z (q3 (W_ret (N_K_ret (rt1 results46 Z ?_)))))
  exact absurd (show False from by omega) id
 intro hc1'
 try simp only[nrm]at hc1'
 refine W_skip (N_K (W_seq (q2 (aG Z (q3 (W_block ?_))))))
 refine W_lp (hf:=(Sub.cons (t:=0) Z (Sub.cons (t:=1) Z Sub.nil))) (J:=fun M w m=>∃(k:Nat) (G:PH),M=[(5,.int .i64 (k:Int))]∧PLe G0 G∧Hp w0 G0 [] w G []∧(k≤a.length)∧m=(a.length-k)) (h0:=⟨0,_,Z,PLe.refl _,H,?inv,Z⟩) (round:=?round)
 case inv=>omega
 case round =>
  rintro _ _ _ ⟨k,G2,rfl,hle2,H,hinv2,rfl⟩
  have ha:=ha.up hle2
  have hb:=hb.up hle2
  have hk:=hinv2
  refine W_seq (q2 (pe 2 Z (lN Z (pe 1 Z (q3 ?_)))))
  refine W_cond Z ?_ ?_
  ·intro hc3
   try simp only[nrm]at hc3
   refine W_skip (N_K (W_seq (W_block (W_seq (W_drawK [] 10 H kR Z ?_)))));intro _ H;have hd4:=PLe.refl G2
   refine dE 0 Z2 (dE 1 Z2 ?_)
   have hl5:=ha.len
   obtain⟨_,_,_,_,ha5,hz5,hq5,hE5,hrow5,_⟩:=ha.at (i:=k) oM
   clear hq5
   obtain⟨_,_,_,rfl,_,hr5,_,_,_⟩:=ox hE5
   refine dI 2 3 k ha5 Z3 Z (RD_t 3 Z kR Z (fun _ hK=>v_loadagg_P hK isAgg139 sizeOf139 Z hrow5 Z) (dE 4 Z2 (dE 5 Z2 ?_)))
   have hl6:=hb.len
   obtain⟨_,_,_,_,ha6,hz6,hq6,hE6,hrow6,_⟩:=hb.at (i:=k) oM
   clear hq6
   obtain⟨_,_,_,rfl,_,hr6,_,_,_⟩:=ox hE6
   refine dI 6 3 k ha6 Z3 Z (RD_t 7 Z kR Z (fun _ hK=>v_loadagg_P hK isAgg139 sizeOf139 Z hrow6 Z) (r1 8 Z ?_))
   refine xr H Z2 (w_sameHeld_c _ _ H.sub _ _ ⟨_,_,_,Z,⟨by first|omega|(dsimp only;omega),by first|omega|(dsimp only;omega)⟩,hr5,⟨by first|omega|(dsimp only;omega),by first|omega|(dsimp only;omega)⟩⟩ _ _ ⟨_,_,_,rfl,⟨by first|omega|(dsimp only;omega),by first|omega|(dsimp only;omega)⟩,hr6,⟨by first|omega|(dsimp only;omega),by first|omega|(dsimp only;omega)⟩⟩ (Sp.same_at hab hz5 hz6)) ?_;intro _ H
   refine q4 H hd4 (dE 9 Z2 (rz (N_K (W_false Z (W_skip (N_B (N_K (W_region (mV Z (aD Z2 (aG Z (R_nil ?_))))))))))))
   refine N_lp (hJ:=⟨k+1,_,Z,hle2,H,?inv,Z⟩) (hm:=?hm)
   case hm=>omega
   case inv=>omega
  intro hc3'
  try simp only[nrm]at hc3'
  refine W_exit (N_K_exit (N_LP_exit (N_B_same (N_K (q2 (aG Z (q3 (W_ret (rt1 results46 Z ?_)))))))))
  exact H.rets Z
theorem w_sameItem_c (w0:World)(G0:PH)(hG:PSub G0 w0)(ca:List Value)(a:BItem)(ha:itemE G0 a ca)(cb:List Value)(b:BItem)(hb:itemE G0 b cb)(hab:a=b) :
  Calls Tryz.prog 114 #[.agg ca.toArray,.agg cb.toArray] w0 (Rets w0 (.bool true)):=by
 obtain⟨_,_,_,rfl,_,hr1,_,_⟩:=ox ha
 obtain⟨_,_,_,rfl,_,hr2,_,_⟩:=ox hb
 have H:=Hp.init hG
 refine calls_of_W (l:=[_,_]) func114 Z ntmps114 Z (q2 (o_box H Z Z Z ?_));intro _ _ _ H
 refine o_box H Z Z Z ?_;intro _ _ _ H
 refine aG Z (q1 (fA 0 Z (lB 1 H Z3 (fA 0 Z (lB 0 H Z3 (o_seql Z Z Z (mV Z ?_)))))))
 refine R_case (t:=10) Z ?_ ?_
 ·intro hc5
  try simp only[nrm]at hc5
  refine gR Z (fA 1 Z (gR Z (lB 1 H Z3 (gR Z (fA 1 Z (gR Z (lB 0 H Z3 (gR Z (o_beql underlying4 Z Z Z (pe 2 Z ?_))))))))))
  refine R_case (t:=17) Z ?_ ?_
  ·intro hc6
   try simp only[nrm]at hc6
   refine gR Z (fA 2 Z (gR Z (lB 1 H Z3 (gR Z (fA 2 Z (gR Z (lB 0 H Z3 (gR Z (xr H Z2 (w_sameInts_c _ _ H.sub _ _ hr1 _ _ hr2 (congrArg BItem.ids hab)) ?_)))))))));intro _ H
   refine pe 2 Z (q3 (W_ret (rt1 results114 Z ?_)))
   exact H.rets Z
  intro hc6'
  try simp only[nrm]at hc6'
  refine pe 7 Z (q3 (W_ret (rt1 results114 Z ?_)))
  exact absurd (show False from by simp[hab]at hc6') id
 intro hc5'
 try simp only[nrm]at hc5'
 refine pe 14 Z (q3 (W_ret (rt1 results114 Z ?_)))
 exact absurd (show False from by simp[hab]at hc5') id
theorem w_sameTree_c (w0:World)(G0:PH)(hG:PSub G0 w0)(va:Value)(a:List (BItem))(ha:RdItems G0 va a)(vb:Value)(b:List (BItem))(hb:RdItems G0 vb b)(hab:a=b) :
  Calls Tryz.prog 47 #[va,vb] w0 (Rets w0 (.bool true)):=by
 obtain⟨aa,ka,rfl⟩:=ha.shape
 have hlima:a.length≤1099511627776:=ha.lim
 obtain⟨ab,kb,rfl⟩:=hb.shape
 have hlimb:b.length≤1099511627776:=hb.lim
 have hle:=congrArg List.length hab
 have H:=Hp.init hG
 refine calls_of_W (l:=[.slice aa a.length ka,.slice ab b.length kb]) func47 Z ntmps47 Z (q2 (aG Z (q3 (W_seq (q2 (mV Z (lN Z (mV Z (lN Z (pe 1 Z (q3 ?_)))))))))))
 refine W_cond Z ?_ ?_
 ·intro hc1
  try simp only[nrm]at hc1
  refine q2 (aG Z (q3 (W_ret (N_K_ret (rt1 results47 Z ?_)))))
  exact absurd (show False from by omega) id
 intro hc1'
 try simp only[nrm]at hc1'
 refine W_skip (N_K (W_seq (q2 (aG Z (q3 (W_block ?_))))))
 refine W_lp (hf:=(Sub.cons (t:=0) Z (Sub.cons (t:=1) Z Sub.nil))) (J:=fun M w m=>∃(k:Nat) (G:PH),M=[(5,.int .i64 (k:Int))]∧PLe G0 G∧Hp w0 G0 [] w G []∧(k≤a.length)∧m=(a.length-k)) (h0:=⟨0,_,Z,PLe.refl _,H,?inv,Z⟩) (round:=?round)
 case inv=>omega
 case round =>
  rintro _ _ _ ⟨k,G2,rfl,hle2,H,hinv2,rfl⟩
  have ha:=ha.up hle2
  have hb:=hb.up hle2
  have hk:=hinv2
  refine W_seq (q2 (pe 2 Z (lN Z (pe 1 Z (q3 ?_)))))
  refine W_cond Z ?_ ?_
  ·intro hc3
   try simp only[nrm]at hc3
   refine W_skip (N_K (W_seq (W_block (W_seq (W_drawK [] 10 H kR Z ?_)))));intro _ H;have hd4:=PLe.refl G2
   refine dE 0 Z2 (dE 1 Z2 ?_)
   have hl5:=ha.len
   obtain⟨_,_,_,_,ha5,hz5,hq5,hE5,hrow5,_⟩:=ha.at (i:=k) oM
   clear hq5
   obtain⟨_,_,_,rfl,hi5,hr5,_,_⟩:=ox hE5
   refine dI 2 3 k ha5 Z3 Z (RD_t 3 Z kR Z (fun _ hK=>v_loadagg_P hK isAgg41 sizeOf41 Z hrow5 Z) (dE 4 Z2 (dE 5 Z2 ?_)))
   have hl6:=hb.len
   obtain⟨_,_,_,_,ha6,hz6,hq6,hE6,hrow6,_⟩:=hb.at (i:=k) oM
   clear hq6
   obtain⟨_,_,_,rfl,hi6,hr6,_,_⟩:=ox hE6
   refine dI 6 3 k ha6 Z3 Z (RD_t 7 Z kR Z (fun _ hK=>v_loadagg_P hK isAgg41 sizeOf41 Z hrow6 Z) (r1 8 Z (xr H Z2 (w_sameItem_c _ _ H.sub _ _ ⟨_,_,_,Z,hi5,hr5⟩ _ _ ⟨_,_,_,Z,hi6,hr6⟩ (Sp.same_at hab hz5 hz6)) ?_)));intro _ H
   refine q4 H hd4 (dE 9 Z2 (rz (N_K (W_false Z (W_skip (N_B (N_K (W_region (mV Z (aD Z2 (aG Z (R_nil ?_))))))))))))
   refine N_lp (hJ:=⟨k+1,_,Z,hle2,H,?inv,Z⟩) (hm:=?hm)
   case hm=>omega
   case inv=>omega
  intro hc3'
  try simp only[nrm]at hc3'
  refine W_exit (N_K_exit (N_LP_exit (N_B_same (N_K (q2 (aG Z (q3 (W_ret (rt1 results47 Z ?_)))))))))
  exact H.rets Z
theorem w_sameSnap_c (w0:World)(G0:PH)(hG:PSub G0 w0)(ca:List Value)(a:BSnap)(ha:snapE G0 a ca)(cb:List Value)(b:BSnap)(hb:snapE G0 b cb)(hab:a=b) :
  Calls Tryz.prog 48 #[.agg ca.toArray,.agg cb.toArray] w0 (Rets w0 (.bool true)):=by
 obtain⟨_,_,_,rfl,_,hr1,_,_⟩:=ox ha
 obtain⟨_,_,_,rfl,_,hr2,_,_⟩:=ox hb
 have H:=Hp.init hG
 refine calls_of_W (l:=[_,_]) func48 Z ntmps48 Z (q2 (o_box H Z Z Z ?_));intro _ _ _ H
 refine o_box H Z Z Z ?_;intro _ _ _ H
 refine aG Z (q1 (fA 0 Z (lB 1 H Z3 (fA 0 Z (lB 0 H Z3 (o_seql Z Z Z (mV Z ?_)))))))
 refine R_case (t:=10) Z ?_ ?_
 ·intro hc5
  try simp only[nrm]at hc5
  refine gR Z (fA 1 Z (gR Z (lB 1 H Z3 (gR Z (fA 1 Z (gR Z (lB 0 H Z3 (gR Z (xr H Z2 (w_sameTree_c _ _ H.sub _ _ hr1 _ _ hr2 (congrArg BSnap.tree hab)) ?_)))))))));intro _ H
  refine pe 2 Z (q3 (W_ret (rt1 results48 Z ?_)))
  exact H.rets Z
 intro hc5'
 try simp only[nrm]at hc5'
 refine pe 7 Z (q3 (W_ret (rt1 results48 Z ?_)))
 exact absurd (show False from by simp[hab]at hc5') id
theorem w_sameSnaps_c (w0:World)(G0:PH)(hG:PSub G0 w0)(va:Value)(a:List (BSnap))(ha:RdSn G0 va a)(vb:Value)(b:List (BSnap))(hb:RdSn G0 vb b)(hab:a=b) :
  Calls Tryz.prog 14 #[va,vb] w0 (Rets w0 (.bool true)):=by
 obtain⟨aa,ka,rfl⟩:=ha.shape
 have hlima:a.length≤1099511627776:=ha.lim
 obtain⟨ab,kb,rfl⟩:=hb.shape
 have hlimb:b.length≤1099511627776:=hb.lim
 have hle:=congrArg List.length hab
 have H:=Hp.init hG
 refine calls_of_W (l:=[.slice aa a.length ka,.slice ab b.length kb]) func14 Z ntmps14 Z (q2 (aG Z (q3 (W_seq (q2 (mV Z (lN Z (mV Z (lN Z (pe 1 Z (q3 ?_)))))))))))
 refine W_cond Z ?_ ?_
 ·intro hc1
  try simp only[nrm]at hc1
  refine q2 (aG Z (q3 (W_ret (N_K_ret (rt1 results14 Z ?_)))))
  exact absurd (show False from by omega) id
 intro hc1'
 try simp only[nrm]at hc1'
 refine W_skip (N_K (W_seq (q2 (aG Z (q3 (W_block ?_))))))
 refine W_lp (hf:=(Sub.cons (t:=0) Z (Sub.cons (t:=1) Z Sub.nil))) (J:=fun M w m=>∃(k:Nat) (G:PH),M=[(5,.int .i64 (k:Int))]∧PLe G0 G∧Hp w0 G0 [] w G []∧(k≤a.length)∧m=(a.length-k)) (h0:=⟨0,_,Z,PLe.refl _,H,?inv,Z⟩) (round:=?round)
 case inv=>omega
 case round =>
  rintro _ _ _ ⟨k,G2,rfl,hle2,H,hinv2,rfl⟩
  have ha:=ha.up hle2
  have hb:=hb.up hle2
  have hk:=hinv2
  refine W_seq (q2 (pe 2 Z (lN Z (pe 1 Z (q3 ?_)))))
  refine W_cond Z ?_ ?_
  ·intro hc3
   try simp only[nrm]at hc3
   refine W_skip (N_K (W_seq (W_block (W_seq (W_drawK [] 10 H kR Z ?_)))));intro _ H;have hd4:=PLe.refl G2
   refine dE 0 Z2 (dE 1 Z2 ?_)
   have hl5:=ha.len
   obtain⟨_,_,_,_,ha5,hz5,hq5,hE5,hrow5,_⟩:=ha.at (i:=k) oM
   clear hq5
   obtain⟨_,_,_,rfl,hi5,hr5,_,_⟩:=ox hE5
   refine dI 2 2 k ha5 Z3 Z (RD_t 3 Z kR Z (fun _ hK=>v_loadagg_P hK isAgg67 sizeOf67 Z hrow5 Z) (dE 4 Z2 (dE 5 Z2 ?_)))
   have hl6:=hb.len
   obtain⟨_,_,_,_,ha6,hz6,hq6,hE6,hrow6,_⟩:=hb.at (i:=k) oM
   clear hq6
   obtain⟨_,_,_,rfl,hi6,hr6,_,_⟩:=ox hE6
   refine dI 6 2 k ha6 Z3 Z (RD_t 7 Z kR Z (fun _ hK=>v_loadagg_P hK isAgg67 sizeOf67 Z hrow6 Z) (r1 8 Z (xr H Z2 (w_sameSnap_c _ _ H.sub _ _ ⟨_,_,_,Z,hi5,hr5⟩ _ _ ⟨_,_,_,Z,hi6,hr6⟩ (Sp.same_at hab hz5 hz6)) ?_)));intro _ H
   refine q4 H hd4 (dE 9 Z2 (rz (N_K (W_false Z (W_skip (N_B (N_K (W_region (mV Z (aD Z2 (aG Z (R_nil ?_))))))))))))
   refine N_lp (hJ:=⟨k+1,_,Z,hle2,H,?inv,Z⟩) (hm:=?hm)
   case hm=>omega
   case inv=>omega
  intro hc3'
  try simp only[nrm]at hc3'
  refine W_exit (N_K_exit (N_LP_exit (N_B_same (N_K (q2 (aG Z (q3 (W_ret (rt1 results14 Z ?_)))))))))
  exact H.rets Z
theorem w_sameDisk_c (w0:World)(G0:PH)(hG:PSub G0 w0)(ca:List Value)(a:BDisk)(ha:diskE G0 a ca)(cb:List Value)(b:BDisk)(hb:diskE G0 b cb)(hab:a=b) :
  Calls Tryz.prog 12 #[.agg ca.toArray,.agg cb.toArray] w0 (Rets w0 (.bool true)):=by
 obtain⟨_,_,_,_,_,_,_,_,_,rfl,hr1,hr1',hr1'',⟨_,_⟩,⟨_,_⟩,_,_⟩:=ox ha
 obtain⟨_,_,_,_,_,_,_,_,_,rfl,hr2,hr2',hr2'',⟨_,_⟩,⟨_,_⟩,_,_⟩:=ox hb
 have H:=Hp.init hG
 refine calls_of_W (l:=[_,_]) func12 Z ntmps12 Z (q2 (o_box H Z Z Z ?_));intro _ _ _ H
 refine o_box H Z Z Z ?_;intro _ _ _ H
 refine aG Z (q1 (fA 0 Z (lB 1 H Z3 (fA 0 Z (lB 0 H Z3 (xr H Z2 (w_sameStore_c _ _ H.sub _ _ hr1 _ _ hr2 (congrArg BDisk.store hab)) ?_))))));intro _ H
 refine mV Z (gR Z (fA 1 Z (gR Z (lB 1 H Z3 (gR Z (fA 1 Z (gR Z (lB 0 H Z3 (gR Z (xr H Z2 (w_sameTree_c _ _ H.sub _ _ hr1' _ _ hr2' (congrArg BDisk.tree hab)) ?_))))))))));intro _ H
 refine pe 2 Z (gR Z (fA 2 Z (gR Z (lB 1 H Z3 (gR Z (fA 2 Z (gR Z (lB 0 H Z3 (gR Z (xr H Z2 (w_sameSnaps_c _ _ H.sub _ _ hr1'' _ _ hr2'' (congrArg BDisk.snaps hab)) ?_))))))))));intro _ H
 refine pe 2 Z (q3 (W_ret (rt1 results12 Z ?_)))
 exact H.rets Z
theorem l6In_c (w0:World)(n:Int)(lo:Int)(hi:Int) :
  Calls Tryz.prog 44 #[.int .i64 n,.int .i64 lo,.int .i64 hi] w0 (Rets w0 (.bool (Sp.l6In n lo hi))):=by
 have H:=Hp.init0 w0
 refine calls_of_W (l:=[.int .i64 n,.int .i64 lo,.int .i64 hi]) func44 Z ntmps44 Z (q2 (aG Z (q1 (pe 4 Z ?_))))
 refine R_case (t:=10) Z ?_ ?_
 ·intro hc1
  try simp only[nrm]at hc1
  refine pe 5 Z (q3 (W_ret (rt1 results44 Z ?_)))
  exact H.rets (congrArg Value.bool (by unfold Sp.l6In;rw[Bool.eq_iff_iff];simp;omega))
 intro hc1'
 try simp only[nrm]at hc1'
 refine pe 5 Z (q3 (W_ret (rt1 results44 Z ?_)))
 exact H.rets (congrArg Value.bool (by unfold Sp.l6In;rw[Bool.eq_iff_iff];simp;omega))
theorem l1Word_c (w0:World)(s:Bs)(hs:s.length≤16777216) :
  Calls Tryz.prog 151 #[str s] w0 (Rets w0 (.bool (Sp.l1Word s))):=by
 have H:=Hp.init0 w0
 refine calls_of_W (l:=[str s]) func151 Z ntmps151 Z (q2 (aG Z (q3 (W_seq (q2 (aG Z (q3 (W_block ?_))))))))
 refine W_lp (hf:=(Sub.cons (t:=0) Z Sub.nil)) (J:=fun M w m=>∃(k:Nat) (G:PH),M=[(3,.int .i64 (k:Int))]∧PLe (fun _=>none) G∧Hp w0 (fun _=>none) [] w G []∧(k≤s.length∧(s.take k).all Sp.low=true)∧m=(s.length-k)) (h0:=⟨0,_,Z,PLe.refl _,H,?inv,Z⟩) (round:=?round)
 case inv=>exact⟨by omega,by simp⟩
 case round =>
  rintro _ _ _ ⟨k,_,rfl,hle1,H,hinv1,rfl⟩
  obtain⟨_,hall⟩:=hinv1
  refine W_seq (q2 (pe 2 Z (lS Z (pe 1 Z (q3 ?_)))))
  refine W_cond Z ?_ ?_
  ·intro hc2
   try simp only[nrm]at hc2
   refine W_skip (N_K (W_seq (W_block (q2 (pe 2 Z (o_index_str underlying9 Z Z Z Z oM ?_))))));intro ch3 hch3;have hlt3:=ch3.toNat_lt
   refine pe 2 Z ?_
   refine R_case (t:=14) Z ?_ ?_
   ·intro hc4
    try simp only[nrm]at hc4
    refine pe 5 Z (q3 (W_true Z (q2 (aG Z (q3 (W_ret (N_B_ret (N_K_ret (N_LP_ret (N_B_ret (N_K_ret (rt1 results151 Z ?_))))))))))))
    exact H.rets (congrArg Value.bool (by rw[Sp.l1Word,Sp.all_false hch3 (by simp[Sp.low];omega)];rfl))
   intro hc4'
   try simp only[nrm]at hc4'
   refine pe 2 Z (gR Z (o_index_str underlying9 Z Z Z Z oM ?_));intro ch5 hch5;have hlt5:=ch5.toNat_lt
   obtain rfl:ch5=ch3:=Option.some.inj (hch5.symm.trans hch3)
   refine pe 2 Z (q3 ?_)
   refine W_cond Z ?_ ?_
   ·intro hc6
    try simp only[nrm]at hc6
    refine q2 (aG Z (q3 (W_ret (N_B_ret (N_K_ret (N_LP_ret (N_B_ret (N_K_ret (rt1 results151 Z ?_)))))))))
    exact H.rets (congrArg Value.bool (by rw[Sp.l1Word,Sp.all_false hch5 (by simp[Sp.low];omega)];rfl))
   intro hc6'
   try simp only[nrm]at hc6'
   refine W_skip (N_B (N_K (W_region (mV Z (aD Z2 (aG Z (R_nil ?_)))))))
   refine N_lp (hJ:=⟨k+1,_,Z,hle1,H,?inv,Z⟩) (hm:=?hm)
   case hm=>omega
   case inv=>exact⟨by omega,Sp.all_take hall hch5 (by simp[Sp.low];omega)⟩
  intro hc2'
  try simp only[nrm]at hc2'
  refine W_exit (N_K_exit (N_LP_exit (N_B_same (N_K (q2 (mV Z (lS Z (xr H Z2 (l6In_c _ _ _ _) ?_))))))));intro _ H
  refine aG Z (q3 (W_ret (rt1 results151 Z ?_)))
  obtain rfl:k=s.length:=by omega
  rw[List.take_length]at hall
  exact H.rets (congrArg Value.bool (by simp only[Sp.l1Word,Sp.l6In,hall];rw[Bool.eq_iff_iff];simp;omega))
theorem l1Cut_c (w0:World)(G0:PH)(hG:PSub G0 w0)(s:Bs)(hs:s.length≤16777216) :
  Calls Tryz.prog 210 #[str s] w0 (RetP w0 G0 (fun G v=>RdT G v (Sp.cut s))):=by
 have H:=Hp.init hG
 refine calls_of_W (l:=[str s]) func210 Z ntmps210 Z (q2 (aG Z (q1 (xbs H Z7 ?_))));intro _ _ _ H
 have H:=H.blkAcc 1 (k:=0) (n:=0) rfl rfl (by decide)
 refine aG Z (q1 (aG Z (q3 (W_seq (q2 (aG Z (q3 (W_block ?_))))))))
 refine W_lp (hf:=(Sub.cons (t:=0) Z (Sub.cons (t:=2) Z Sub.nil))) (J:=fun M w m=>∃(v:Value) (n:Nat) (cs:List Value) (xs:List (Bs)) (f k:Nat) (G:PH),M=[(4,.int .i64 (f:Int)),(5,.int .i64 (k:Int)),(3,v)]∧PLe G0 G∧Hp w0 G0 [] w G [acc 9 1 v n cs]∧(Chk strE 1 G cs xs∧n=xs.length∧f≤k∧k≤s.length∧xs.length≤k∧xs++Sp.cut (s.drop f)=Sp.cut s∧∀j,f≤j→j<k→s[j]? ≠ some 47)∧m=(s.length-k)) (h0:=⟨_,_,_,[],0,0,_,Z,PLe.refl _,H,?inv,Z⟩) (round:=?round)
 case inv=>exact⟨(Chk.nil (E:=strE) (sz:=1) (G:=G0)),by first|rfl|simp|(simp;omega)|omega,(by simp)⟩
 case round =>
  rintro _ _ _ ⟨v,n,cs,xs,f,k,_,rfl,hle2,H,hinv2,rfl⟩
  obtain⟨hchk2_0,_,hinv2⟩:=hinv2
  obtain⟨_,_,rfl⟩:=H.accShape (k:=0) rfl
  obtain⟨h1,_,_,h4,h5⟩:=hinv2
  refine W_seq (q2 (pe 2 Z (lS Z (pe 1 Z (q3 ?_)))))
  refine W_cond Z ?_ ?_
  ·intro hc3
   try simp only[nrm]at hc3
   refine W_skip (N_K (W_seq (W_block (q2 (pe 2 Z (o_index_str underlying9 Z Z Z Z oM ?_))))));intro ch4 hch4;have hlt4:=ch4.toNat_lt
   refine pe 1 Z (q3 ?_)
   refine W_cond Z ?_ ?_
   ·intro hc5
    try simp only[nrm]at hc5
    refine q2 (pe 4 Z (o_slice_str underlying9 Z Z Z Z oM oM oM (xbs H Z7 ?_)));intro _ _ _ H
    refine o_append1 0 H (sz:=1) (bytes:=16) underlying182 typeInfo9 ⟨_,Z,Z⟩ Z Z Z Z Z Z Z Z Z Z oM Z ?_;intro _ _ H
    have hchk8:=hchk2_0.snoc (show strE _ ((s.drop f).take (k-f)) _ from⟨rfl,(by (first|assumption|(refine Sp.l5Parent_lim ?_;assumption)|(simp;done)|(simp;omega)|omega))⟩) rfl
    obtain⟨_,_,rfl⟩:=H.accShape (k:=0) rfl
    refine aG Z (q3 (W_region (mV Z (aD Z2 (aG Z (R_nil (N_B (N_K (W_region (mV Z (aD Z2 (aG Z (R_nil ?_)))))))))))))
    refine N_lp (hJ:=⟨_,_,_,(xs++[((s.drop f).take (k-f))]),k+1,k+1,_,Z,hle2,H,?inv,Z⟩) (hm:=?hm)
    case hm=>omega
    case inv=>exact⟨hchk8,aN,(by exact⟨by omega,by omega,by simp;omega,Sp.cut_step h4 h1 (hch4▸congrArg some (Sp.is47 oM)) h5,fun j g1 g2=>by omega⟩)⟩
   intro hc5'
   try simp only[nrm]at hc5'
   refine W_skip (N_B (N_K (W_region (mV Z (aD Z2 (aG Z (R_nil ?_)))))))
   refine N_lp (hJ:=⟨_,_,_,xs,f,k+1,_,Z,hle2,H,?inv,Z⟩) (hm:=?hm)
   case hm=>omega
   case inv=>exact⟨hchk2_0,aN,(by exact⟨by omega,by omega,by omega,h4,Sp.noslash_succ h5 (hch4▸Sp.not47 oM)⟩)⟩
  intro hc3'
  try simp only[nrm]at hc3'
  refine W_exit (N_K_exit (N_LP_exit (N_B_same (N_K (q2 (pe 3 Z (o_slice_str_from underlying9 Z Z Z oM oM (xbs H Z7 ?_))))))));intro _ _ _ H
  refine o_append1 0 H (sz:=1) (bytes:=16) underlying182 typeInfo9 ⟨_,Z,Z⟩ Z Z Z Z Z Z Z Z Z Z oM Z ?_;intro _ _ H
  have hchk14:=hchk2_0.snoc (show strE _ (s.drop f) _ from⟨rfl,(by (first|assumption|(refine Sp.l5Parent_lim ?_;assumption)|(simp;done)|(simp;omega)|omega))⟩) rfl
  obtain⟨_,_,rfl⟩:=H.accShape (k:=0) rfl
  refine aG Z (q3 (W_ret (rt1 results210 Z ?_)))
  obtain⟨_,H,hsg515,hsr515⟩:=H.shut' (k:=0) rfl hchk14 aN aN
  exact H.retP (by rw[←Sp.cut_end h4 h5 oM];exact hsr515)
theorem PathValid_c (w0:World)(G0:PH)(hG:PSub G0 w0)(path:Bs)(hpath:path.length≤16777216) :
  Calls Tryz.prog 180 #[str path] w0 (Rets w0 (.bool (Sp.PathValid path))):=by
 have H:=Hp.init hG
 refine calls_of_W (l:=[str path]) func180 Z ntmps180 Z (q2 (aG Z (q1 (mV Z (xc Z2 (l1Cut_c _ _ H.sub _ hpath) ?_)))))
 rintro _ _ ⟨G1,_,g1,rfl,hr1_0⟩
 have H:=H.grow g1
 obtain⟨_,_,rfl⟩:=hr1_0.shape;have hx_hr1_0:_≤1099511627776:=hr1_0.lim
 refine⟨_,Z,?_⟩
 refine aG Z (q3 (W_seq (q2 (aG Z (q3 (W_block ?_))))))
 refine W_lp (hf:=(Sub.cons (t:=3) Z Sub.nil)) (J:=fun M w m=>∃(k:Nat) (G:PH),M=[(4,.int .i64 (k:Int))]∧PLe G1 G∧Hp w0 G0 [] w G []∧(k≤(Sp.cut path).length∧((Sp.cut path).take k).all Sp.l1Word=true)∧m=((Sp.cut path).length-k)) (h0:=⟨0,_,Z,PLe.refl _,H,?inv,Z⟩) (round:=?round)
 case inv=>simp
 case round =>
  rintro _ _ _ ⟨k,_,rfl,hle2,H,hinv2,rfl⟩
  have hr1_0:=hr1_0.up hle2
  obtain⟨_,hall⟩:=hinv2
  refine W_seq (q2 (pe 2 Z (lN Z (pe 1 Z (q3 ?_)))))
  refine W_cond Z ?_ ?_
  ·intro hc3
   try simp only[nrm]at hc3
   refine W_skip (N_K (W_seq (W_block (q2 (pe 2 Z (iP k hr1_0 Z3 Z ?_))))));intro _ _ _ _ hz4 hE4 hrow4
   obtain⟨rfl,hi4⟩:=hE4;have hy_hi4:_≤16777216:=hi4
   refine lP H hrow4 0 Z2 (xr H Z2 (l1Word_c _ _ hi4) ?_);intro _ H
   refine pe 1 Z (q3 ?_)
   refine W_cond Z ?_ ?_
   ·intro hc6
    try simp only[nrm]at hc6
    refine q2 (aG Z (q3 (W_ret (N_B_ret (N_K_ret (N_LP_ret (N_B_ret (N_K_ret (rt1 results180 Z ?_)))))))))
    exact H.rets (congrArg Value.bool (by rw[Sp.PathValid,Sp.all_false hz4 hc6];rfl))
   intro hc6'
   try simp only[nrm]at hc6'
   refine W_skip (N_B (N_K (W_region (mV Z (aD Z2 (aG Z (R_nil ?_)))))))
   refine N_lp (hJ:=⟨k+1,_,Z,hle2,H,?inv,Z⟩) (hm:=?hm)
   case hm=>omega
   case inv=>exact⟨by omega,Sp.all_take hall hz4 hc6'⟩
  intro hc3'
  try simp only[nrm]at hc3'
  refine W_exit (N_K_exit (N_LP_exit (N_B_same (N_K (q2 (mV Z (lN Z (pe 2 Z (q3 (W_ret (rt1 results180 Z ?_)))))))))))
  obtain rfl:k=(Sp.cut path).length:=by omega
  rw[List.take_length]at hall
  exact H.rets (congrArg Value.bool (by simp only[Sp.PathValid,hall,Bool.true_and];rw[Bool.eq_iff_iff];simp;omega))
theorem l1Last_c (w0:World)(path:Bs)(hpath:path.length≤16777216) :
  Calls Tryz.prog 211 #[str path] w0 (Rets w0 (.int .i64 (Sp.l1Last path))):=by
 have H:=Hp.init0 w0
 refine calls_of_W (l:=[str path]) func211 Z ntmps211 Z (q2 (aG Z (q1 (aG Z (q3 (W_seq (q2 (aG Z (q3 (W_block ?_))))))))))
 refine W_lp (hf:=(Sub.cons (t:=0) Z (Sub.cons (t:=2) Z Sub.nil))) (J:=fun M w m=>∃(k:Nat) (o:Option Nat) (G:PH),M=[(3,.int .i64 (Sp.optI o)),(4,.int .i64 (k:Int))]∧PLe (fun _=>none) G∧Hp w0 (fun _=>none) [] w G []∧(k≤path.length∧o=(List.range k).foldl (Sp.lastF path) none)∧m=(path.length-k)) (h0:=⟨0,none,_,Z,PLe.refl _,H,?inv,Z⟩) (round:=?round)
 case inv=>exact⟨by omega,rfl⟩
 case round =>
  rintro _ _ _ ⟨k,o,_,rfl,hle1,H,hinv1,rfl⟩
  obtain⟨_,hall⟩:=hinv1
  refine W_seq (q2 (pe 2 Z (lS Z (pe 1 Z (q3 ?_)))))
  refine W_cond Z ?_ ?_
  ·intro hc2
   try simp only[nrm]at hc2
   refine W_skip (N_K (W_seq (W_block (q2 (pe 2 Z (o_index_str underlying9 Z Z Z Z oM ?_))))));intro ch3 hch3;have hlt3:=ch3.toNat_lt
   refine pe 1 Z (q3 ?_)
   refine W_cond Z ?_ ?_
   ·intro hc4
    try simp only[nrm]at hc4
    refine W_region (pe 2 Z (R_nil (N_B (N_K (W_region (mV Z (aD Z2 (aG Z (R_nil ?_)))))))))
    refine N_lp (hJ:=⟨k+1,some k,_,Z,hle1,H,?inv,Z⟩) (hm:=?hm)
    case hm=>omega
    case inv=>exact⟨by omega,by rw[Sp.last_succ,←hall,Sp.lastF,hch3,if_pos (congrArg some (Sp.is47 oM))]⟩
   intro hc4'
   try simp only[nrm]at hc4'
   refine W_skip (N_B (N_K (W_region (mV Z (aD Z2 (aG Z (R_nil ?_)))))))
   refine N_lp (hJ:=⟨k+1,o,_,Z,hle1,H,?inv,Z⟩) (hm:=?hm)
   case hm=>omega
   case inv=>exact⟨by omega,by rw[Sp.last_succ,←hall,Sp.lastF,hch3,if_neg (Sp.not47 oM)]⟩
  intro hc2'
  try simp only[nrm]at hc2'
  refine W_exit (N_K_exit (N_LP_exit (N_B_same (N_K (q2 (pe 2 Z (q3 (W_ret (rt1 results211 Z ?_)))))))))
  obtain rfl:k=path.length:=by omega
  exact H.rets (congrArg (Value.int .i64) (by rw[hall];rfl))
theorem l5Parent_c (w0:World)(path:Bs)(hpath:path.length≤16777216) :
  Calls Tryz.prog 181 #[str path] w0 (Rets w0 (str (Sp.l5Parent path))):=by
 have hl:=Sp.l1Last_le path
 have H:=Hp.init0 w0
 refine calls_of_W (l:=[str path]) func181 Z ntmps181 Z (q2 (aG Z (q1 (pe 2 Z (xr H Z2 (l1Last_c _ _ hpath) ?_)))));intro _ H
 refine o_max Z Z Z (o_slice_str_to underlying9 Z Z Z oM oM (aG Z (q3 (W_ret (rt1 results181 Z ?_)))))
 exact H.rets Z
theorem l5At_c (w0:World)(G0:PH)(hG:PSub G0 w0)(vlist:Value)(list:List (BItem))(hlist:RdItems G0 vlist list)(path:Bs)(hpath:path.length≤16777216) :
  Calls Tryz.prog 108 #[vlist,str path] w0 (Rets w0 (.int .i64 (Sp.l5At list path))):=by
 obtain⟨alist,klist,rfl⟩:=hlist.shape
 have hlimlist:list.length≤1099511627776:=hlist.lim
 have H:=Hp.init hG
 refine calls_of_W (l:=[.slice alist list.length klist,str path]) func108 Z ntmps108 Z (q2 (aG Z (q3 (W_seq (q2 (aG Z (q3 (W_block ?_))))))))
 refine W_lp (hf:=(Sub.cons (t:=0) Z (Sub.cons (t:=1) Z Sub.nil))) (J:=fun M w m=>∃(k:Nat) (G:PH),M=[(5,.int .i64 (k:Int))]∧PLe G0 G∧Hp w0 G0 [] w G []∧(k≤list.length∧(∀j,j<k→∀y,list[j]? = some y→decide (y.path=path)=false))∧m=(list.length-k)) (h0:=⟨0,_,Z,PLe.refl _,H,?inv,Z⟩) (round:=?round)
 case inv=>exact⟨by omega,fun j hj=>by omega⟩
 case round =>
  rintro _ _ _ ⟨k,_,rfl,hle1,H,hinv1,rfl⟩
  have hlist:=hlist.up hle1
  obtain⟨_,hall⟩:=hinv1
  refine W_seq (q2 (pe 2 Z (lN Z (pe 1 Z (q3 ?_)))))
  refine W_cond Z ?_ ?_
  ·intro hc2
   try simp only[nrm]at hc2
   refine W_skip (N_K (W_seq (W_block (q2 (pe 2 Z (iP k hlist Z3 Z ?_))))));intro _ _ _ _ hz3 hE3 hrow3
   obtain⟨_,_,_,rfl,_,_,_,_⟩:=ox hE3
   refine fA 0 Z (lP H hrow3 0 Z2 (mV Z (o_seql Z Z Z (q3 ?_))))
   refine W_cond Z ?_ ?_
   ·intro hc4
    try simp only[nrm]at hc4
    refine q2 (pe 2 Z (q3 (W_ret (N_B_ret (N_K_ret (N_LP_ret (N_B_ret (N_K_ret (rt1 results108 Z ?_)))))))))
    exact H.rets (congrArg (Value.int .i64) (by rw[Sp.l5At,Sp.atI,Sp.find_at hall hz3 (by simp;exact hc4)];rfl))
   intro hc4'
   try simp only[nrm]at hc4'
   refine W_skip (N_B (N_K (W_region (mV Z (aD Z2 (aG Z (R_nil ?_)))))))
   refine N_lp (hJ:=⟨k+1,_,Z,hle1,H,?inv,Z⟩) (hm:=?hm)
   case hm=>omega
   case inv=>exact⟨by omega,Sp.none_succ hall hz3 (by simp;exact hc4')⟩
  intro hc2'
  try simp only[nrm]at hc2'
  refine W_exit (N_K_exit (N_LP_exit (N_B_same (N_K (q2 (aG Z (q3 (W_ret (rt1 results108 Z ?_)))))))))
  exact H.rets (congrArg (Value.int .i64) (by rw[Sp.l5At,Sp.atI,Sp.find_none hall oM];rfl))
theorem l5Home_c (w0:World)(G0:PH)(hG:PSub G0 w0)(vlist:Value)(list:List (BItem))(hlist:RdItems G0 vlist list)(path:Bs)(hpath:path.length≤16777216) :
  Calls Tryz.prog 149 #[vlist,str path] w0 (Rets w0 (.bool (Sp.l5Home list path))):=by
 obtain⟨alist,klist,rfl⟩:=hlist.shape
 have hlimlist:list.length≤1099511627776:=hlist.lim
 have H:=Hp.init hG
 refine calls_of_W (l:=[.slice alist list.length klist,str path]) func149 Z ntmps149 Z (q2 (aG Z (q1 (mV Z (xr H Z2 (l5Parent_c _ _ hpath) ?_)))));intro _ H
 refine aG Z (q1 (pe 2 Z ?_))
 refine xr H Z2 (l5At_c _ _ H.sub _ _ hlist _ (by (first|assumption|(refine Sp.l5Parent_lim ?_;assumption)|(simp;done)|(simp;omega)|omega))) ?_;intro _ H
 refine aG Z (q1 (mV Z (o_seql Z Z Z (mV Z ?_))))
 refine R_case (t:=14) Z ?_ ?_
 ·intro hc3
  try simp only[nrm]at hc3
  refine pe 3 Z (R_pass Z (yl_un Z Z) (R_pass Z (yl_un Z Z) (R_pass Z (yl_un Z Z) (R_pass Z (yl_un Z Z) (R_pass Z (yl_un Z Z) (pe 3 Z (q3 (W_ret (rt1 results149 Z ?_)))))))))
  exact H.rets (congrArg Value.bool (by simp[Sp.l5Home,hc3]))
 intro hc3'
 try simp only[nrm]at hc3'
 refine pe 3 Z ?_
 refine R_case (t:=17) Z ?_ ?_
 ·intro hc4
  try simp only[nrm]at hc4
  obtain⟨i,_,hi1,hi2,_,_,hi5⟩:=Sp.at_nat hc4
  refine pe 2 Z (gR Z (iP i hlist Z3 hi2 ?_));intro _ _ _ _ hz5 hE5 hrow5
  obtain⟨_,_,_,rfl,hi5,_,_,_⟩:=ox hE5
  refine gR Z (fA 1 Z (gR Z (lP H hrow5 1 Z2 (pe 3 Z (q3 (W_ret (rt1 results149 Z ?_)))))))
  exact H.rets (congrArg Value.bool (by simp[Sp.l5Home,hc3',Sp.atI,hi1,hz5]))
 intro hc4'
 try simp only[nrm]at hc4'
 refine pe 8 Z (q3 (W_ret (rt1 results149 Z ?_)))
 exact H.rets (congrArg Value.bool (by simp[Sp.l5Home,hc3',Sp.atI,Sp.at_none hc4']))
theorem l5Item_c (w0:World)(G0:PH)(hG:PSub G0 w0)(cx:List Value)(x:BItem)(hx:itemE G0 x cx) :
  Calls Tryz.prog 148 #[.agg cx.toArray] w0 (Rets w0 (.bool (Sp.l5Item x))):=by
 obtain⟨_,_,_,rfl,hi1,hr1,_,_⟩:=ox hx
 have H:=Hp.init hG
 refine calls_of_W (l:=[_]) func148 Z ntmps148 Z (q2 (o_box H Z Z Z ?_));intro b2 _ _ H
 refine aG Z (q3 (W_seq (q2 (aG Z (q3 (W_block ?_))))))
 obtain⟨ln3,hln3,H⟩:=H.name (k:=0) rfl
 refine W_lp (hf:=(Sub.cons (t:=1) Z Sub.nil)) (J:=fun M w m=>∃(k:Nat) (G:PH),M=[(3,.int .i64 (k:Int))]∧PLe G0 G∧Hp w0 G0 [] w G [blk b2 (cl ln3 41)]∧(k≤x.ids.length∧(x.ids.take k).all (Sp.idOk x.dir)=true)∧m=(x.ids.length-k)) (h0:=⟨0,_,Z,PLe.refl _,H,?inv,Z⟩) (round:=?round)
 case inv=>exact⟨by omega,by simp⟩
 case round =>
  rintro _ _ _ ⟨k,_,rfl,hle4,H,hinv4,rfl⟩
  subst hln3
  have hr1:=hr1.up hle4
  obtain⟨_,hall⟩:=hinv4
  refine W_seq (q2 (mV Z (fA 2 Z (lB 0 H Z3 (lN Z (pe 1 Z (q3 ?_)))))))
  refine W_cond Z ?_ ?_
  ·intro hc5
   try simp only[nrm]at hc5
   refine W_skip (N_K (W_seq (W_block (q2 (fA 1 Z (lB 0 H Z3 (mV Z ?_)))))))
   refine R_case (t:=13) Z ?_ ?_
   ·intro hc6
    try simp only[nrm]at hc6
    refine pe 8 Z (q3 (W_true Z (q2 (aG Z (q3 (W_ret (N_B_ret (N_K_ret (N_LP_ret (N_B_ret (N_K_ret (rt1 results148 Z ?_))))))))))))
    exact H.rets (congrArg Value.bool (by rw[Sp.l5Item,Sp.all_false (c:=x.ids[k]) (List.getElem?_eq_getElem oM) (by simp[Sp.idOk,hc6])];rfl))
   intro hc6'
   try simp only[nrm]at hc6'
   refine gR Z (fA 2 Z (gR Z (lB 0 H Z3 (pe 1 Z (gR Z (iP k hr1 Z3 Z ?_))))));intro _ _ _ _ hz7 hE7 hrow7
   obtain⟨rfl,_⟩:=hE7
   refine gR Z (lP H hrow7 0 Z2 (gR Z (xr H Z2 (l6In_c _ _ _ _) ?_)));intro _ H
   refine pe 2 Z (q3 ?_)
   refine W_cond Z ?_ ?_
   ·intro hc9
    try simp only[nrm]at hc9
    refine q2 (aG Z (q3 (W_ret (N_B_ret (N_K_ret (N_LP_ret (N_B_ret (N_K_ret (rt1 results148 Z ?_)))))))))
    exact H.rets (congrArg Value.bool (by rw[Sp.l5Item,Sp.all_false hz7 (by simp[Sp.idOk, *])];rfl))
   intro hc9'
   try simp only[nrm]at hc9'
   refine W_skip (N_B (N_K (W_region (mV Z (aD Z2 (aG Z (R_nil ?_)))))))
   refine N_lp (hJ:=⟨k+1,_,Z,hle4,H,?inv,Z⟩) (hm:=?hm)
   case hm=>omega
   case inv=>exact⟨by omega,Sp.all_take hall hz7 (by simp[Sp.idOk, *])⟩
  intro hc5'
  try simp only[nrm]at hc5'
  refine W_exit (N_K_exit (N_LP_exit (N_B_same (N_K (q2 (fA 0 Z (lB 0 H Z3 (xr H Z2 (PathValid_c _ _ H.sub _ hi1) ?_))))))));intro _ H
  refine mV Z ?_
  refine R_case (t:=25) Z ?_ ?_
  ·intro hc12
   try simp only[nrm]at hc12
   refine gR Z (fA 2 Z (gR Z (lB 0 H Z3 (gR Z (lN Z (pe 3 Z (q3 (W_ret (rt1 results148 Z ?_)))))))))
   obtain rfl:k=x.ids.length:=by omega
   rw[List.take_length]at hall
   exact H.rets (congrArg Value.bool (by simp only[Sp.l5Item,hall,hc12,Bool.true_and];rw[Bool.eq_iff_iff];simp;omega))
  intro hc12'
  try simp only[nrm]at hc12'
  refine pe 6 Z (q3 (W_ret (rt1 results148 Z ?_)))
  exact H.rets (congrArg Value.bool (by simp[Sp.l5Item,hc12']))
theorem TreeValid_c (w0:World)(G0:PH)(hG:PSub G0 w0)(vlist:Value)(list:List (BItem))(hlist:RdItems G0 vlist list) :
  Calls Tryz.prog 87 #[vlist] w0 (Rets w0 (.bool (Sp.TreeValid list))):=by
 obtain⟨alist,klist,rfl⟩:=hlist.shape
 have hlimlist:list.length≤1099511627776:=hlist.lim
 have H:=Hp.init hG
 refine calls_of_W (l:=[.slice alist list.length klist]) func87 Z ntmps87 Z (q2 (aG Z (q3 (W_seq (q2 (aG Z (q3 (W_block ?_))))))))
 refine W_lp (hf:=(Sub.cons (t:=0) Z Sub.nil)) (J:=fun M w m=>∃(k:Nat) (G:PH),M=[(3,.int .i64 (k:Int))]∧PLe G0 G∧Hp w0 G0 [] w G []∧(k≤list.length∧∀j,j<k→Sp.okT list j=true)∧m=(list.length-k)) (h0:=⟨0,_,Z,PLe.refl _,H,?inv,Z⟩) (round:=?round)
 case inv=>exact⟨by omega,fun j hj=>by omega⟩
 case round =>
  rintro _ _ _ ⟨k,G1,rfl,hle1,H,hinv1,rfl⟩
  have hlist:=hlist.up hle1
  obtain⟨_,hall⟩:=hinv1
  refine W_seq (q2 (pe 2 Z (lN Z (pe 1 Z (q3 ?_)))))
  refine W_cond Z ?_ ?_
  ·intro hc2
   try simp only[nrm]at hc2
   refine W_skip (N_K (W_seq (W_block (W_seq (W_drawK [] 34 H kR Z ?_)))));intro _ H;have hd3:=PLe.refl G1
   refine dE 0 Z2 (dE 1 Z2 ?_)
   have hl4:=hlist.len
   obtain⟨_,_,z4,q4,ha4,hz4,hq4,hE4,hrow4,_⟩:=hlist.at (i:=k) oM
   clear hq4
   obtain⟨_,_,_,rfl,hi4,hr4,_,_⟩:=ox hE4
   refine dI 2 3 k ha4 Z3 Z (RD_t 3 Z kR Z (fun _ hK=>v_loadagg_P hK isAgg41 sizeOf41 Z hrow4 Z) (r1 4 Z (xr H Z2 (l5Item_c _ _ H.sub _ _ ⟨_,_,_,Z,hi4,hr4⟩) ?_)));intro _ H
   refine q4 H hd3 (dE 5 Z2 (dE 6 Z2 ?_))
   refine RD_case (t:=16) Z ?_ ?_
   ·intro hc6
    try simp only[nrm]at hc6
    refine dE 7 Z2 (dE 8 Z2 (dE 9 Z2 (RD_pass 10 Z kR kR kR Z (yl_un Z Z) (RD_pass 11 Z kR kR kR Z (yl_un Z Z) (RD_pass 12 Z kR kR kR Z (yl_un Z Z) (RD_pass 13 Z kR kR kR Z (yl_un Z Z) (RD_pass 14 Z kR kR kR Z (yl_un Z Z) (RD_pass 15 Z kR kR kR Z (yl_un Z Z) (RD_pass 16 Z kR kR kR Z (yl_un Z Z) (RD_pass 17 Z kR kR kR Z (yl_un Z Z) (RD_pass 18 Z kR kR kR Z (yl_un Z Z) (RD_pass 19 Z kR kR kR Z (yl_un Z Z) (RD_pass 20 Z kR kR kR Z (yl_un Z Z) (RD_pass 21 Z kR kR kR Z (yl_un Z Z) (dE 22 Z2 ?_)))))))))))))))
    refine dE 23 Z2 (dE 24 Z2 (dE 25 Z2 (dE 26 Z2 (dE 27 Z2 (dE 28 Z2 (dE 29 Z2 (dE 30 Z2 (dE 31 Z2 (dE 32 Z2 (dE 33 Z2 (rz (N_K (W_true Z (q2 (aG Z ?_)))))))))))))))
    refine q3 (W_ret (N_B_ret (N_K_ret (N_LP_ret (N_B_ret (N_K_ret (rt1 results87 Z ?_)))))))
    exact H.rets (congrArg Value.bool (by rw[Sp.TreeValid,Sp.not_all_range (k:=k) oM (by rw[Sp.okT_at hz4];simp[Sp.prevLt, *])];rfl))
   intro hc6'
   try simp only[nrm]at hc6'
   refine dE 7 Z2 (dE 8 Z2 (dE 9 Z2 ?_))
   refine RD_case (t:=19) Z ?_ ?_
   ·intro hc7
    try simp only[nrm]at hc7
    have hk0:k≠0:=by omega
    refine dE 10 Z2 (dE 11 Z2 (RD_tg 12 Z kR Z (yl Z Z) (fun _ hK=>v_sub Z Z oO) ?_))
    have hl9:=hlist.len
    obtain⟨_,_,_,_,ha9,_,hq9,hE9,hrow9,_⟩:=hlist.at (i:=(k-1)) oM
    clear hq9
    obtain⟨_,_,_,rfl,_,_,_,_⟩:=ox hE9
    refine dI 13 3 (k-1) ha9 Z3 oM (dF 14 0 Z2 (dP 15 hrow9 0 Z3 (dE 16 Z2 (dE 17 Z2 ?_))))
    have hl10:=hlist.len
    obtain⟨_,_,z10,_,ha10,hz10,hq10,hE10,hrow10,_⟩:=hlist.at (i:=k) oM
    clear hq10
    obtain⟨_,_,_,rfl,_,_,_,_⟩:=ox hE10
    have hzz10:z4=z10:=Option.some.inj (hz4.symm.trans hz10)
    subst hzz10
    refine dI 18 3 k ha10 Z3 Z (dF 19 0 Z2 (dP 20 hrow10 0 Z3 (RD_tg 21 Z kR Z (yl Z Z) (fun _ hK=>v_sgeq Z Z) (dE 22 Z2 (dE 23 Z2 (dE 24 Z2 ?_))))))
    refine RD_case (t:=34) Z ?_ ?_
    ·intro hc11
     try simp only[nrm]at hc11
     refine dE 25 Z2 (dE 26 Z2 (dE 27 Z2 (dE 28 Z2 (dE 29 Z2 (dE 30 Z2 (dE 31 Z2 (dE 32 Z2 (dE 33 Z2 (rz (N_K (W_true Z (q2 (aG Z (q3 (W_ret ?_)))))))))))))))
     refine N_B_ret (N_K_ret (N_LP_ret (N_B_ret (N_K_ret (rt1 results87 Z ?_)))))
     exact H.rets (congrArg Value.bool (by rw[Sp.TreeValid,Sp.not_all_range (k:=k) oM (by rw[Sp.okT_at hz4];simp[Sp.prevLt, *])];rfl))
    intro hc11'
    try simp only[nrm]at hc11'
    refine dE 25 Z2 (dE 26 Z2 (dE 27 Z2 ?_))
    have hl12:=hlist.len
    obtain⟨_,_,z12,_,ha12,hz12,hq12,hE12,hrow12,_⟩:=hlist.at (i:=k) oM
    clear hq12
    obtain⟨_,_,_,rfl,hi12,_,_,_⟩:=ox hE12
    have hzz12:z4=z12:=Option.some.inj (hz4.symm.trans hz12)
    subst hzz12
    refine dI 28 3 k ha12 Z3 Z (dF 29 0 Z2 (dP 30 hrow12 0 Z3 (r1 31 Z (gR Z (xr H Z2 (l5Home_c _ _ H.sub _ _ hlist _ hi12) ?_)))));intro _ H
    refine q4 H hd3 (dE 32 Z2 (dE 33 Z2 (rz (N_K ?_))))
    refine W_cond Z ?_ ?_
    ·intro hc14
     try simp only[nrm]at hc14
     refine q2 (aG Z (q3 (W_ret (N_B_ret (N_K_ret (N_LP_ret (N_B_ret (N_K_ret (rt1 results87 Z ?_)))))))))
     exact H.rets (congrArg Value.bool (by rw[Sp.TreeValid,Sp.not_all_range (k:=k) oM (by rw[Sp.okT_at hz4];simp[Sp.prevLt, *])];rfl))
    intro hc14'
    try simp only[nrm]at hc14'
    refine W_skip (N_B (N_K (W_region (mV Z (aD Z2 (aG Z (R_nil ?_)))))))
    refine N_lp (hJ:=⟨k+1,_,Z,hle1,H,?inv,Z⟩) (hm:=?hm)
    case hm=>omega
    case inv=>exact⟨by omega,Sp.upto_succ hall (by rw[Sp.okT_at hz4];simp[Sp.prevLt, *])⟩
   intro hc7'
   try simp only[nrm]at hc7'
   have hk0:k=0:=by omega
   refine dE 10 Z2 (dE 11 Z2 (dE 12 Z2 (dE 13 Z2 (dE 14 Z2 (dE 15 Z2 (dE 16 Z2 (dE 17 Z2 (dE 18 Z2 (dE 19 Z2 (dE 20 Z2 (dE 21 Z2 (dE 22 Z2 (dE 23 Z2 (dE 24 Z2 (dE 25 Z2 ?_)))))))))))))))
   refine dE 26 Z2 (dE 27 Z2 ?_)
   have hl16:=hlist.len
   obtain⟨_,_,z16,_,ha16,hz16,hq16,hE16,hrow16,_⟩:=hlist.at (i:=k) oM
   clear hq16
   obtain⟨_,_,_,rfl,hi16,_,_,_⟩:=ox hE16
   have hzz16:z4=z16:=Option.some.inj (hz4.symm.trans hz16)
   subst hzz16
   refine dI 28 3 k ha16 Z3 Z (dF 29 0 Z2 (dP 30 hrow16 0 Z3 (r1 31 Z (gR Z (xr H Z2 (l5Home_c _ _ H.sub _ _ hlist _ hi16) ?_)))));intro _ H
   refine q4 H hd3 (dE 32 Z2 (dE 33 Z2 (rz (N_K ?_))))
   refine W_cond Z ?_ ?_
   ·intro hc18
    try simp only[nrm]at hc18
    refine q2 (aG Z (q3 (W_ret (N_B_ret (N_K_ret (N_LP_ret (N_B_ret (N_K_ret (rt1 results87 Z ?_)))))))))
    exact H.rets (congrArg Value.bool (by rw[Sp.TreeValid,Sp.not_all_range (k:=k) oM (by rw[Sp.okT_at hz4];simp[Sp.prevLt, *])];rfl))
   intro hc18'
   try simp only[nrm]at hc18'
   refine W_skip (N_B (N_K (W_region (mV Z (aD Z2 (aG Z (R_nil ?_)))))))
   refine N_lp (hJ:=⟨k+1,_,Z,hle1,H,?inv,Z⟩) (hm:=?hm)
   case hm=>omega
   case inv=>exact⟨by omega,Sp.upto_succ hall (by rw[Sp.okT_at hz4];simp[Sp.prevLt, *])⟩
  intro hc2'
  try simp only[nrm]at hc2'
  refine W_exit (N_K_exit (N_LP_exit (N_B_same (N_K (q2 (mV Z (lN Z (pe 2 Z (q3 (W_ret (rt1 results87 Z ?_)))))))))))
  exact H.rets (congrArg Value.bool (by rw[Sp.TreeValid,Sp.all_range (fun j hj=>hall j oM),Bool.true_and];rw[Bool.eq_iff_iff];simp;omega))
theorem l2Same_c (w0:World)(G0:PH)(hG:PSub G0 w0)(va:Value)(a:List (Int))(ha:RdI G0 va a)(vb:Value)(b:List (Int))(hb:RdI G0 vb b) :
  Calls Tryz.prog 147 #[va,vb] w0 (Rets w0 (.bool (Sp.l2Same a b))):=by
 obtain⟨aa,ka,rfl⟩:=ha.shape
 have hlima:a.length≤1099511627776:=ha.lim
 obtain⟨ab,kb,rfl⟩:=hb.shape
 have hlimb:b.length≤1099511627776:=hb.lim
 have H:=Hp.init hG
 refine calls_of_W (l:=[.slice aa a.length ka,.slice ab b.length kb]) func147 Z ntmps147 Z (q2 (aG Z (q3 (W_seq (q2 (mV Z (lN Z (mV Z (lN Z (pe 1 Z (q3 ?_)))))))))))
 refine W_cond Z ?_ ?_
 ·intro hc1
  try simp only[nrm]at hc1
  refine q2 (aG Z (q3 (W_ret (N_K_ret (rt1 results147 Z ?_)))))
  exact H.rets (congrArg Value.bool (by unfold Sp.l2Same;exact Sp.ne_len oM))
 intro hc1'
 try simp only[nrm]at hc1'
 refine W_skip (N_K (W_seq (q2 (aG Z (q3 (W_block ?_))))))
 refine W_lp (hf:=(Sub.cons (t:=0) Z (Sub.cons (t:=1) Z Sub.nil))) (J:=fun M w m=>∃(k:Nat) (G:PH),M=[(5,.int .i64 (k:Int))]∧PLe G0 G∧Hp w0 G0 [] w G []∧(k≤a.length∧a.take k=b.take k)∧m=(a.length-k)) (h0:=⟨0,_,Z,PLe.refl _,H,?inv,Z⟩) (round:=?round)
 case inv=>exact⟨by omega,by simp⟩
 case round =>
  rintro _ _ _ ⟨k,G2,rfl,hle2,H,hinv2,rfl⟩
  have ha:=ha.up hle2
  have hb:=hb.up hle2
  obtain⟨_,hall⟩:=hinv2
  refine W_seq (q2 (pe 2 Z (lN Z (pe 1 Z (q3 ?_)))))
  refine W_cond Z ?_ ?_
  ·intro hc3
   try simp only[nrm]at hc3
   refine W_skip (N_K (W_seq (W_block (W_seq (W_drawK [] 9 H kR Z ?_)))));intro _ H;have hd4:=PLe.refl G2
   refine dE 0 Z2 (dE 1 Z2 ?_)
   have hl5:=ha.len
   obtain⟨_,_,_,_,ha5,hz5,hq5,hE5,hrow5,_⟩:=ha.at (i:=k) oM
   clear hq5
   obtain⟨rfl,_⟩:=hE5
   refine dI 2 1 k ha5 Z3 Z (dP 3 hrow5 0 Z3 (dE 4 Z2 (dE 5 Z2 ?_)))
   have hl6:=hb.len
   obtain⟨_,_,_,_,ha6,hz6,hq6,hE6,hrow6,_⟩:=hb.at (i:=k) oM
   clear hq6
   obtain⟨rfl,_⟩:=hE6
   refine dI 6 1 k ha6 Z3 Z (dP 7 hrow6 0 Z3 (dE 8 Z2 (rz (N_K ?_))))
   refine W_cond Z ?_ ?_
   ·intro hc7
    try simp only[nrm]at hc7
    refine q2 (aG Z (q3 (W_ret (N_B_ret (N_K_ret (N_LP_ret (N_B_ret (N_K_ret (rt1 results147 Z ?_)))))))))
    exact H.rets (congrArg Value.bool (by unfold Sp.l2Same;exact Sp.ne_at hz5 hz6 oM))
   intro hc7'
   try simp only[nrm]at hc7'
   refine W_skip (N_B (N_K (W_region (mV Z (aD Z2 (aG Z (R_nil ?_)))))))
   refine N_lp (hJ:=⟨k+1,_,Z,hle2,H,?inv,Z⟩) (hm:=?hm)
   case hm=>omega
   case inv=>exact⟨by omega,Sp.take_eq hall hz5 (by rw[hz6];congr 1;omega)⟩
  intro hc3'
  try simp only[nrm]at hc3'
  refine W_exit (N_K_exit (N_LP_exit (N_B_same (N_K (q2 (aG Z (q3 (W_ret (rt1 results147 Z ?_)))))))))
  exact H.rets (congrArg Value.bool (by unfold Sp.l2Same;exact Sp.eq_all hall oM oM))
theorem BlockValid_c (w0:World)(G0:PH)(hG:PSub G0 w0)(vbytes:Value)(bytes:List (Int))(hbytes:RdI G0 vbytes bytes) :
  Calls Tryz.prog 146 #[vbytes] w0 (Rets w0 (.bool (Sp.BlockValid bytes))):=by
 obtain⟨abytes,kbytes,rfl⟩:=hbytes.shape
 have hlimbytes:bytes.length≤1099511627776:=hbytes.lim
 have H:=Hp.init hG
 refine calls_of_W (l:=[.slice abytes bytes.length kbytes]) func146 Z ntmps146 Z (q2 (aG Z (q3 (W_seq (q2 (aG Z (q3 (W_block ?_))))))))
 refine W_lp (hf:=(Sub.cons (t:=0) Z Sub.nil)) (J:=fun M w m=>∃(k:Nat) (G:PH),M=[(3,.int .i64 (k:Int))]∧PLe G0 G∧Hp w0 G0 [] w G []∧(k≤bytes.length∧(bytes.take k).all Sp.byteOk=true)∧m=(bytes.length-k)) (h0:=⟨0,_,Z,PLe.refl _,H,?inv,Z⟩) (round:=?round)
 case inv=>exact⟨by omega,by simp⟩
 case round =>
  rintro _ _ _ ⟨k,_,rfl,hle1,H,hinv1,rfl⟩
  have hbytes:=hbytes.up hle1
  obtain⟨_,hall⟩:=hinv1
  refine W_seq (q2 (pe 2 Z (lN Z (pe 1 Z (q3 ?_)))))
  refine W_cond Z ?_ ?_
  ·intro hc2
   try simp only[nrm]at hc2
   refine W_skip (N_K (W_seq (W_block (q2 (pe 2 Z (iP k hbytes Z3 Z ?_))))));intro _ _ _ _ hz3 hE3 hrow3
   obtain⟨rfl,_⟩:=hE3
   refine lP H hrow3 0 Z2 (xr H Z2 (l6In_c _ _ _ _) ?_);intro _ H
   refine pe 1 Z (q3 ?_)
   refine W_cond Z ?_ ?_
   ·intro hc5
    try simp only[nrm]at hc5
    refine q2 (aG Z (q3 (W_ret (N_B_ret (N_K_ret (N_LP_ret (N_B_ret (N_K_ret (rt1 results146 Z ?_)))))))))
    exact H.rets (congrArg Value.bool (by rw[Sp.BlockValid,Sp.all_false hz3 (by simp[Sp.byteOk, *])];rfl))
   intro hc5'
   try simp only[nrm]at hc5'
   refine W_skip (N_B (N_K (W_region (mV Z (aD Z2 (aG Z (R_nil ?_)))))))
   refine N_lp (hJ:=⟨k+1,_,Z,hle1,H,?inv,Z⟩) (hm:=?hm)
   case hm=>omega
   case inv=>exact⟨by omega,Sp.all_take hall hz3 (by simp[Sp.byteOk, *])⟩
  intro hc2'
  try simp only[nrm]at hc2'
  refine W_exit (N_K_exit (N_LP_exit (N_B_same (N_K (q2 (mV Z (lN Z (xr H Z2 (l6In_c _ _ _ _) ?_))))))));intro _ H
  refine aG Z (q3 (W_ret (rt1 results146 Z ?_)))
  obtain rfl:k=bytes.length:=by omega
  rw[List.take_length]at hall
  exact H.rets (congrArg Value.bool (by simp only[Sp.BlockValid,hall,Bool.true_and]))
theorem FileValid_c (w0:World)(G0:PH)(hG:PSub G0 w0)(vbytes:Value)(bytes:List (Int))(hbytes:RdI G0 vbytes bytes) :
  Calls Tryz.prog 167 #[vbytes] w0 (Rets w0 (.bool (Sp.FileValid bytes))):=by
 obtain⟨abytes,kbytes,rfl⟩:=hbytes.shape
 have hlimbytes:bytes.length≤1099511627776:=hbytes.lim
 have H:=Hp.init hG
 refine calls_of_W (l:=[.slice abytes bytes.length kbytes]) func167 Z ntmps167 Z (q2 (aG Z (q3 (W_seq (q2 (aG Z (q3 (W_block ?_))))))))
 refine W_lp (hf:=(Sub.cons (t:=0) Z Sub.nil)) (J:=fun M w m=>∃(k:Nat) (G:PH),M=[(3,.int .i64 (k:Int))]∧PLe G0 G∧Hp w0 G0 [] w G []∧(k≤bytes.length∧(bytes.take k).all Sp.byteOk=true)∧m=(bytes.length-k)) (h0:=⟨0,_,Z,PLe.refl _,H,?inv,Z⟩) (round:=?round)
 case inv=>exact⟨by omega,by simp⟩
 case round =>
  rintro _ _ _ ⟨k,_,rfl,hle1,H,hinv1,rfl⟩
  have hbytes:=hbytes.up hle1
  obtain⟨_,hall⟩:=hinv1
  refine W_seq (q2 (pe 2 Z (lN Z (pe 1 Z (q3 ?_)))))
  refine W_cond Z ?_ ?_
  ·intro hc2
   try simp only[nrm]at hc2
   refine W_skip (N_K (W_seq (W_block (q2 (pe 2 Z (iP k hbytes Z3 Z ?_))))));intro _ _ _ _ hz3 hE3 hrow3
   obtain⟨rfl,_⟩:=hE3
   refine lP H hrow3 0 Z2 (xr H Z2 (l6In_c _ _ _ _) ?_);intro _ H
   refine pe 1 Z (q3 ?_)
   refine W_cond Z ?_ ?_
   ·intro hc5
    try simp only[nrm]at hc5
    refine q2 (aG Z (q3 (W_ret (N_B_ret (N_K_ret (N_LP_ret (N_B_ret (N_K_ret (rt1 results167 Z ?_)))))))))
    exact H.rets (congrArg Value.bool (by rw[Sp.FileValid,Sp.all_false hz3 (by simp[Sp.byteOk, *])];rfl))
   intro hc5'
   try simp only[nrm]at hc5'
   refine W_skip (N_B (N_K (W_region (mV Z (aD Z2 (aG Z (R_nil ?_)))))))
   refine N_lp (hJ:=⟨k+1,_,Z,hle1,H,?inv,Z⟩) (hm:=?hm)
   case hm=>omega
   case inv=>exact⟨by omega,Sp.all_take hall hz3 (by simp[Sp.byteOk, *])⟩
  intro hc2'
  try simp only[nrm]at hc2'
  refine W_exit (N_K_exit (N_LP_exit (N_B_same (N_K (q2 (mV Z (lN Z (pe 2 Z (q3 (W_ret (rt1 results167 Z ?_)))))))))))
  obtain rfl:k=bytes.length:=by omega
  rw[List.take_length]at hall
  exact H.rets (congrArg Value.bool (by simp only[Sp.FileValid,hall,Bool.true_and];rw[Bool.eq_iff_iff];simp;omega))
theorem StoreValid_c (w0:World)(G0:PH)(hG:PSub G0 w0)(vlist:Value)(list:List (BHeld))(hlist:RdH G0 vlist list) :
  Calls Tryz.prog 86 #[vlist] w0 (Rets w0 (.bool (Sp.StoreValid list))):=by
 obtain⟨alist,klist,rfl⟩:=hlist.shape
 have hlimlist:list.length≤1099511627776:=hlist.lim
 have H:=Hp.init hG
 refine calls_of_W (l:=[.slice alist list.length klist]) func86 Z ntmps86 Z (q2 (aG Z (q3 (W_seq (q2 (aG Z (q3 (W_block ?_))))))))
 refine W_lp (hf:=(Sub.cons (t:=0) Z Sub.nil)) (J:=fun M w m=>∃(k:Nat) (G:PH),M=[(3,.int .i64 (k:Int))]∧PLe G0 G∧Hp w0 G0 [] w G []∧(k≤list.length∧∀j,j<k→Sp.okH list j=true)∧m=(list.length-k)) (h0:=⟨0,_,Z,PLe.refl _,H,?inv,Z⟩) (round:=?round)
 case inv=>exact⟨by omega,fun j hj=>by omega⟩
 case round =>
  rintro _ _ _ ⟨k,G1,rfl,hle1,H,hinv1,rfl⟩
  have hlist:=hlist.up hle1
  obtain⟨_,hall⟩:=hinv1
  refine W_seq (q2 (pe 2 Z (lN Z (pe 1 Z (q3 ?_)))))
  refine W_cond Z ?_ ?_
  ·intro hc2
   try simp only[nrm]at hc2
   refine W_skip (N_K (W_seq (W_block (q2 (pe 2 Z (iP k hlist Z3 Z ?_))))));intro _ _ z3 _ hz3 hE3 hrow3
   obtain⟨_,_,_,rfl,_,hr3,_,_,_⟩:=ox hE3
   refine o_loadagg_P H isAgg139 sizeOf139 Z Z hrow3 Z (xal H Z ?_);intro b4 _ _ H
   refine xst 0 H Z8 ?_;intro _ H
   refine q3 (W_seq (W_seq (W_drawK [0] 31 H kR Z ?_)));intro _ H;have hd6:=PLe.refl G1
   refine dF 0 0 Z2 (dB 1 0 Z4 (r1 2 Z (xr H Z2 (l6In_c _ _ _ _) ?_)));intro _ H
   refine q4 H hd6 (dE 3 Z2 (dE 4 Z2 ?_))
   refine RD_case (t:=20) Z ?_ ?_
   ·intro hc8
    try simp only[nrm]at hc8
    refine dE 5 Z2 (dE 6 Z2 (dE 7 Z2 (dE 8 Z2 (dE 9 Z2 (dE 10 Z2 (dE 11 Z2 (dE 12 Z2 (dE 13 Z2 (dE 14 Z2 (dE 15 Z2 (dE 16 Z2 (dE 17 Z2 (dE 18 Z2 (dE 19 Z2 (RD_pass 20 Z kR kR kR Z (yl_un Z Z) ?_)))))))))))))))
    refine RD_pass 21 Z kR kR kR Z (yl_un Z Z) (RD_pass 22 Z kR kR kR Z (yl_un Z Z) (RD_pass 23 Z kR kR kR Z (yl_un Z Z) (RD_pass 24 Z kR kR kR Z (yl_un Z Z) (RD_pass 25 Z kR kR kR Z (yl_un Z Z) (RD_pass 26 Z kR kR kR Z (yl_un Z Z) (RD_pass 27 Z kR kR kR Z (yl_un Z Z) (RD_pass 28 Z kR kR kR Z (yl_un Z Z) (dE 29 Z2 (dE 30 Z2 (rz (N_K (W_true Z (q2 (aG Z (q3 ?_)))))))))))))))
    refine W_ret (N_K_ret (N_B_ret (N_K_ret (N_LP_ret (N_B_ret (N_K_ret (rt1 results86 Z ?_)))))))
    exact H.rets (congrArg Value.bool (by rw[Sp.StoreValid,Sp.not_all_range (k:=k) oM (by rw[Sp.okH_at hz3];simp[Sp.prevId, *])];rfl))
   intro hc8'
   try simp only[nrm]at hc8'
   refine dF 5 1 Z2 (dB 6 0 Z4 (r1 7 Z (gR Z (xr H Z2 (BlockValid_c _ _ H.sub _ _ hr3) ?_))));intro _ H
   refine q4 H hd6 (dE 8 Z2 (dE 9 Z2 (dE 10 Z2 ?_)))
   refine RD_case (t:=26) Z ?_ ?_
   ·intro hc10
    try simp only[nrm]at hc10
    refine dE 11 Z2 (dE 12 Z2 (dE 13 Z2 (dE 14 Z2 (dE 15 Z2 (dE 16 Z2 (dE 17 Z2 (dE 18 Z2 (dE 19 Z2 (RD_pass 20 Z kR kR kR Z (yl_un Z Z) (RD_pass 21 Z kR kR kR Z (yl_un Z Z) (RD_pass 22 Z kR kR kR Z (yl_un Z Z) (RD_pass 23 Z kR kR kR Z (yl_un Z Z) (RD_pass 24 Z kR kR kR Z (yl_un Z Z) (RD_pass 25 Z kR kR kR Z (yl_un Z Z) (RD_pass 26 Z kR kR kR Z (yl_un Z Z) ?_)))))))))))))))
    refine RD_pass 27 Z kR kR kR Z (yl_un Z Z) (RD_pass 28 Z kR kR kR Z (yl_un Z Z) (dE 29 Z2 (dE 30 Z2 (rz (N_K (W_true Z (q2 (aG Z (q3 (W_ret (N_K_ret (N_B_ret (N_K_ret (N_LP_ret (N_B_ret ?_)))))))))))))))
    refine N_K_ret (rt1 results86 Z ?_)
    exact H.rets (congrArg Value.bool (by rw[Sp.StoreValid,Sp.not_all_range (k:=k) oM (by rw[Sp.okH_at hz3];simp[Sp.prevId, *])];rfl))
   intro hc10'
   try simp only[nrm]at hc10'
   refine dF 11 2 Z2 (dB 12 0 Z4 (r1 13 Z (gR Z (xr H Z2 (l6In_c _ _ _ _) ?_))));intro _ H
   refine q4 H hd6 (dE 14 Z2 (dE 15 Z2 (dE 16 Z2 ?_)))
   refine RD_case (t:=32) Z ?_ ?_
   ·intro hc12
    try simp only[nrm]at hc12
    refine dE 17 Z2 (dE 18 Z2 (dE 19 Z2 (RD_pass 20 Z kR kR kR Z (yl_un Z Z) (RD_pass 21 Z kR kR kR Z (yl_un Z Z) (RD_pass 22 Z kR kR kR Z (yl_un Z Z) (RD_pass 23 Z kR kR kR Z (yl_un Z Z) (RD_pass 24 Z kR kR kR Z (yl_un Z Z) (RD_pass 25 Z kR kR kR Z (yl_un Z Z) (RD_pass 26 Z kR kR kR Z (yl_un Z Z) (RD_pass 27 Z kR kR kR Z (yl_un Z Z) (RD_pass 28 Z kR kR kR Z (yl_un Z Z) (dE 29 Z2 (dE 30 Z2 (rz (N_K ?_)))))))))))))))
    refine W_true Z (q2 (aG Z (q3 (W_ret (N_K_ret (N_B_ret (N_K_ret (N_LP_ret (N_B_ret (N_K_ret (rt1 results86 Z ?_)))))))))))
    exact H.rets (congrArg Value.bool (by rw[Sp.StoreValid,Sp.not_all_range (k:=k) oM (by rw[Sp.okH_at hz3];simp[Sp.prevId, *])];rfl))
   intro hc12'
   try simp only[nrm]at hc12'
   refine dE 17 Z2 (dE 18 Z2 (dE 19 Z2 ?_))
   refine RD_case (t:=35) Z ?_ ?_
   ·intro hc13
    try simp only[nrm]at hc13
    have hk0:k≠0:=by omega
    refine dE 20 Z2 (dE 21 Z2 (RD_tg 22 Z kR Z (yl Z Z) (fun _ hK=>v_sub Z Z oO) ?_))
    have hl15:=hlist.len
    obtain⟨_,_,_,_,ha15,_,hq15,hE15,hrow15,_⟩:=hlist.at (i:=(k-1)) oM
    clear hq15
    obtain⟨_,_,_,rfl,_,hr15,_,_,_⟩:=ox hE15
    refine dI 23 3 (k-1) ha15 Z3 oM (dF 24 0 Z2 (dP 25 hrow15 0 Z3 (dF 26 0 Z2 (dB 27 0 Z4 (dE 28 Z2 (dE 29 Z2 (dE 30 Z2 (rz (N_K ?_)))))))))
    refine W_cond Z ?_ ?_
    ·intro hc16
     try simp only[nrm]at hc16
     refine q2 (aG Z (q3 (W_ret (N_K_ret (N_B_ret (N_K_ret (N_LP_ret (N_B_ret (N_K_ret (rt1 results86 Z ?_))))))))))
     exact H.rets (congrArg Value.bool (by rw[Sp.StoreValid,Sp.not_all_range (k:=k) oM (by rw[Sp.okH_at hz3];simp[Sp.prevId, *];intro _;omega)];rfl))
    intro hc16'
    try simp only[nrm]at hc16'
    refine W_skip (N_K (q2 (aG Z (q3 (W_block ?_)))))
    obtain⟨ln17,hln17,H⟩:=H.name (k:=0) rfl
    refine W_lp (hf:=(Sub.cons (t:=0) Z (Sub.cons (t:=3) Z (Sub.cons (t:=4) Z Sub.nil)))) (J:=fun M w m=>∃(i:Nat) (G:PH),M=[(5,.int .i64 (i:Int))]∧PLe G1 G∧Hp w0 G0 [] w G [blk b4 (cl ln17 139)]∧(i≤k∧(list.take i).all (fun g=> !Sp.l2Same g.bytes z3.bytes)=true)∧m=(k-i)) (h0:=⟨0,_,Z,PLe.refl _,H,?inv,Z⟩) (round:=?round)
    case inv=>exact⟨by omega,by simp⟩
    case round =>
     rintro _ _ _ ⟨i,G18,rfl,hle18,H,hinv18,rfl⟩
     subst hln17
     have hlist:=hlist.up hle18
     have hr3:=hr3.up hle18
     have hle1:=hle1.trans hle18
     obtain⟨hi,hall2⟩:=hinv18
     refine W_seq (q2 (pe 3 Z (q3 ?_)))
     refine W_cond Z ?_ ?_
     ·intro hc19
      try simp only[nrm]at hc19
      refine W_skip (N_K (W_seq (W_block (W_seq (W_drawK [0] 8 H kR Z ?_)))));intro _ H;have hd20:=PLe.refl G18
      refine dE 0 Z2 (dE 1 Z2 ?_)
      have hl21:=hlist.len
      obtain⟨_,_,_,_,ha21,hz21,hq21,hE21,hrow21,_⟩:=hlist.at (i:=i) oM
      clear hq21
      obtain⟨_,_,_,rfl,_,hr21,_,_,_⟩:=ox hE21
      refine dI 2 3 i ha21 Z3 Z (dF 3 1 Z2 (dP 4 hrow21 1 Z3 (dF 5 1 Z2 (dB 6 0 Z4 (r1 7 Z (xr H Z2 (l2Same_c _ _ H.sub _ _ hr21 _ _ hr3) ?_))))));intro _ H
      refine q4 H hd20 (rz (N_K ?_))
      refine W_cond Z ?_ ?_
      ·intro hc23
       try simp only[nrm]at hc23
       refine q2 (aG Z (q3 (W_ret (N_B_ret (N_K_ret (N_LP_ret (N_B_ret (N_B_ret (N_K_ret (N_LP_ret (N_B_ret (N_K_ret (rt1 results86 Z ?_)))))))))))))
       exact H.rets (congrArg Value.bool (by rw[Sp.StoreValid,Sp.not_all_range (k:=k) oM (by rw[Sp.okH_at hz3,Sp.all_false (l:=list.take k) (k:=i) (by rw[List.getElem?_take,if_pos oM];exact hz21) (by simp[*])];simp)];rfl))
      intro hc23'
      try simp only[nrm]at hc23'
      refine W_skip (N_B (N_K (W_region (mV Z (aD Z2 (aG Z (R_nil ?_)))))))
      refine N_lp (hJ:=⟨i+1,_,Z,hle18,H,?inv,Z⟩) (hm:=?hm)
      case hm=>omega
      case inv=>exact⟨by omega,Sp.all_take hall2 hz21 (by simp[*])⟩
     intro hc19'
     try simp only[nrm]at hc19'
     refine W_exit (N_K_exit (N_LP_exit (N_B_same (N_B (N_K (W_region (mV Z (aD Z2 (aG Z (R_nil ?_))))))))))
     have H:=H.dl 0
     refine N_lp (hJ:=⟨k+1,_,Z,hle1,H,?inv,Z⟩) (hm:=?hm)
     case hm=>omega
     case inv=>exact⟨by omega,Sp.upto_succ hall (by (obtain rfl:i=k:=by omega);rw[Sp.okH_at hz3,hall2];simp[Sp.prevId, *])⟩
   intro hc13'
   try simp only[nrm]at hc13'
   have hk0:k=0:=by omega
   refine dE 20 Z2 (dE 21 Z2 (dE 22 Z2 (dE 23 Z2 (dE 24 Z2 (dE 25 Z2 (dE 26 Z2 (dE 27 Z2 (dE 28 Z2 (dE 29 Z2 (dE 30 Z2 (rz (N_K (W_false Z (W_skip (N_K ?_)))))))))))))))
   refine q2 (aG Z (q3 (W_block ?_)))
   obtain⟨ln26,hln26,H⟩:=H.name (k:=0) rfl
   refine W_lp (hf:=(Sub.cons (t:=0) Z (Sub.cons (t:=3) Z (Sub.cons (t:=4) Z Sub.nil)))) (J:=fun M w m=>∃(i:Nat) (G:PH),M=[(5,.int .i64 (i:Int))]∧PLe G1 G∧Hp w0 G0 [] w G [blk b4 (cl ln26 139)]∧(i≤k∧(list.take i).all (fun g=> !Sp.l2Same g.bytes z3.bytes)=true)∧m=(k-i)) (h0:=⟨0,_,Z,PLe.refl _,H,?inv,Z⟩) (round:=?round)
   case inv=>exact⟨by omega,by simp⟩
   case round =>
    rintro _ _ _ ⟨i,G27,rfl,hle27,H,hinv27,rfl⟩
    subst hln26
    have hlist:=hlist.up hle27
    have hr3:=hr3.up hle27
    have hle1:=hle1.trans hle27
    obtain⟨hi,hall2⟩:=hinv27
    refine W_seq (q2 (pe 3 Z (q3 ?_)))
    refine W_cond Z ?_ ?_
    ·intro hc28
     try simp only[nrm]at hc28
     refine W_skip (N_K (W_seq (W_block (W_seq (W_drawK [0] 8 H kR Z ?_)))));intro _ H;have hd29:=PLe.refl G27
     refine dE 0 Z2 (dE 1 Z2 ?_)
     have hl30:=hlist.len
     obtain⟨_,_,_,_,ha30,hz30,hq30,hE30,hrow30,_⟩:=hlist.at (i:=i) oM
     clear hq30
     obtain⟨_,_,_,rfl,_,hr30,_,_,_⟩:=ox hE30
     refine dI 2 3 i ha30 Z3 Z (dF 3 1 Z2 (dP 4 hrow30 1 Z3 (dF 5 1 Z2 (dB 6 0 Z4 (r1 7 Z (xr H Z2 (l2Same_c _ _ H.sub _ _ hr30 _ _ hr3) ?_))))));intro _ H
     refine q4 H hd29 (rz (N_K ?_))
     refine W_cond Z ?_ ?_
     ·intro hc32
      try simp only[nrm]at hc32
      refine q2 (aG Z (q3 (W_ret (N_B_ret (N_K_ret (N_LP_ret (N_B_ret (N_B_ret (N_K_ret (N_LP_ret (N_B_ret (N_K_ret (rt1 results86 Z ?_)))))))))))))
      exact H.rets (congrArg Value.bool (by rw[Sp.StoreValid,Sp.not_all_range (k:=k) oM (by rw[Sp.okH_at hz3,Sp.all_false (l:=list.take k) (k:=i) (by rw[List.getElem?_take,if_pos oM];exact hz30) (by simp[*])];simp)];rfl))
     intro hc32'
     try simp only[nrm]at hc32'
     refine W_skip (N_B (N_K (W_region (mV Z (aD Z2 (aG Z (R_nil ?_)))))))
     refine N_lp (hJ:=⟨i+1,_,Z,hle27,H,?inv,Z⟩) (hm:=?hm)
     case hm=>omega
     case inv=>exact⟨by omega,Sp.all_take hall2 hz30 (by simp[*])⟩
    intro hc28'
    try simp only[nrm]at hc28'
    refine W_exit (N_K_exit (N_LP_exit (N_B_same (N_B (N_K (W_region (mV Z (aD Z2 (aG Z (R_nil ?_))))))))))
    have H:=H.dl 0
    refine N_lp (hJ:=⟨k+1,_,Z,hle1,H,?inv,Z⟩) (hm:=?hm)
    case hm=>omega
    case inv=>exact⟨by omega,Sp.upto_succ hall (by (obtain rfl:i=k:=by omega);rw[Sp.okH_at hz3,hall2];simp[Sp.prevId, *])⟩
  intro hc2'
  try simp only[nrm]at hc2'
  refine W_exit (N_K_exit (N_LP_exit (N_B_same (N_K (q2 (mV Z (lN Z (pe 2 Z (q3 (W_ret (rt1 results86 Z ?_)))))))))))
  exact H.rets (congrArg Value.bool (by rw[Sp.StoreValid,Sp.all_range (fun j hj=>hall j oM),Bool.true_and];rw[Bool.eq_iff_iff];simp;omega))
theorem l3At_c (w0:World)(G0:PH)(hG:PSub G0 w0)(vlist:Value)(list:List (BHeld))(hlist:RdH G0 vlist list)(id:Int) :
  Calls Tryz.prog 125 #[vlist,.int .i64 id] w0 (Rets w0 (.int .i64 (Sp.l3At list id))):=by
 obtain⟨alist,klist,rfl⟩:=hlist.shape
 have hlimlist:list.length≤1099511627776:=hlist.lim
 have H:=Hp.init hG
 refine calls_of_W (l:=[.slice alist list.length klist,.int .i64 id]) func125 Z ntmps125 Z (q2 (aG Z (q3 (W_seq (q2 (aG Z (q3 (W_block ?_))))))))
 refine W_lp (hf:=(Sub.cons (t:=0) Z (Sub.cons (t:=1) Z Sub.nil))) (J:=fun M w m=>∃(k:Nat) (G:PH),M=[(5,.int .i64 (k:Int))]∧PLe G0 G∧Hp w0 G0 [] w G []∧(k≤list.length∧(∀j,j<k→∀y,list[j]? = some y→decide (y.id=id)=false))∧m=(list.length-k)) (h0:=⟨0,_,Z,PLe.refl _,H,?inv,Z⟩) (round:=?round)
 case inv=>exact⟨by omega,fun j hj=>by omega⟩
 case round =>
  rintro _ _ _ ⟨k,_,rfl,hle1,H,hinv1,rfl⟩
  have hlist:=hlist.up hle1
  obtain⟨_,hall⟩:=hinv1
  refine W_seq (q2 (pe 2 Z (lN Z (pe 1 Z (q3 ?_)))))
  refine W_cond Z ?_ ?_
  ·intro hc2
   try simp only[nrm]at hc2
   refine W_skip (N_K (W_seq (W_block (q2 (pe 2 Z (iP k hlist Z3 Z ?_))))));intro _ _ _ _ hz3 hE3 hrow3
   obtain⟨_,_,_,rfl,_,_,_,_,_⟩:=ox hE3
   refine fA 0 Z (lP H hrow3 0 Z2 (pe 2 Z (q3 ?_)))
   refine W_cond Z ?_ ?_
   ·intro hc4
    try simp only[nrm]at hc4
    refine q2 (pe 2 Z (q3 (W_ret (N_B_ret (N_K_ret (N_LP_ret (N_B_ret (N_K_ret (rt1 results125 Z ?_)))))))))
    exact H.rets (congrArg (Value.int .i64) (by rw[Sp.l3At,Sp.atH,Sp.find_at hall hz3 (by simp;omega)];rfl))
   intro hc4'
   try simp only[nrm]at hc4'
   refine W_skip (N_B (N_K (W_region (mV Z (aD Z2 (aG Z (R_nil ?_)))))))
   refine N_lp (hJ:=⟨k+1,_,Z,hle1,H,?inv,Z⟩) (hm:=?hm)
   case hm=>omega
   case inv=>exact⟨by omega,Sp.none_succ hall hz3 (by simp;omega)⟩
  intro hc2'
  try simp only[nrm]at hc2'
  refine W_exit (N_K_exit (N_LP_exit (N_B_same (N_K (q2 (aG Z (q3 (W_ret (rt1 results125 Z ?_)))))))))
  exact H.rets (congrArg (Value.int .i64) (by rw[Sp.l3At,Sp.atH,Sp.find_none hall oM];rfl))
theorem l3Like_c (w0:World)(G0:PH)(hG:PSub G0 w0)(vlist:Value)(list:List (BHeld))(hlist:RdH G0 vlist list)(vbytes:Value)(bytes:List (Int))(hbytes:RdI G0 vbytes bytes) :
  Calls Tryz.prog 244 #[vlist,vbytes] w0 (Rets w0 (.int .i64 (Sp.l3Like list bytes))):=by
 obtain⟨alist,klist,rfl⟩:=hlist.shape
 have hlimlist:list.length≤1099511627776:=hlist.lim
 obtain⟨abytes,kbytes,rfl⟩:=hbytes.shape
 have hlimbytes:bytes.length≤1099511627776:=hbytes.lim
 have H:=Hp.init hG
 refine calls_of_W (l:=[.slice alist list.length klist,.slice abytes bytes.length kbytes]) func244 Z ntmps244 Z (q2 (aG Z (q3 (W_seq (q2 (aG Z (q3 (W_block ?_))))))))
 refine W_lp (hf:=(Sub.cons (t:=0) Z (Sub.cons (t:=1) Z Sub.nil))) (J:=fun M w m=>∃(k:Nat) (G:PH),M=[(5,.int .i64 (k:Int))]∧PLe G0 G∧Hp w0 G0 [] w G []∧(k≤list.length∧(∀j,j<k→∀y,list[j]? = some y→Sp.l2Same y.bytes bytes=false))∧m=(list.length-k)) (h0:=⟨0,_,Z,PLe.refl _,H,?inv,Z⟩) (round:=?round)
 case inv=>exact⟨by omega,fun j hj=>by omega⟩
 case round =>
  rintro _ _ _ ⟨k,_,rfl,hle1,H,hinv1,rfl⟩
  have hlist:=hlist.up hle1
  have hbytes:=hbytes.up hle1
  obtain⟨_,hall⟩:=hinv1
  refine W_seq (q2 (pe 2 Z (lN Z (pe 1 Z (q3 ?_)))))
  refine W_cond Z ?_ ?_
  ·intro hc2
   try simp only[nrm]at hc2
   refine W_skip (N_K (W_seq (W_block (q2 (pe 2 Z (iP k hlist Z3 Z ?_))))));intro _ _ _ _ hz3 hE3 hrow3
   obtain⟨_,_,_,rfl,_,hr3,_,_,_⟩:=ox hE3
   refine fA 1 Z (lP H hrow3 1 Z2 (mV Z (xr H Z2 (l2Same_c _ _ H.sub _ _ hr3 _ _ hbytes) ?_)));intro _ H
   refine q3 ?_
   refine W_cond Z ?_ ?_
   ·intro hc5
    try simp only[nrm]at hc5
    refine q2 (pe 2 Z (q3 (W_ret (N_B_ret (N_K_ret (N_LP_ret (N_B_ret (N_K_ret (rt1 results244 Z ?_)))))))))
    exact H.rets (congrArg (Value.int .i64) (by rw[Sp.l3Like,Sp.like,Sp.find_at hall hz3 hc5];rfl))
   intro hc5'
   try simp only[nrm]at hc5'
   refine W_skip (N_B (N_K (W_region (mV Z (aD Z2 (aG Z (R_nil ?_)))))))
   refine N_lp (hJ:=⟨k+1,_,Z,hle1,H,?inv,Z⟩) (hm:=?hm)
   case hm=>omega
   case inv=>exact⟨by omega,Sp.none_succ hall hz3 hc5'⟩
  intro hc2'
  try simp only[nrm]at hc2'
  refine W_exit (N_K_exit (N_LP_exit (N_B_same (N_K (q2 (aG Z (q3 (W_ret (rt1 results244 Z ?_)))))))))
  exact H.rets (congrArg (Value.int .i64) (by rw[Sp.l3Like,Sp.like,Sp.find_none hall oM];rfl))
theorem l3Copy_c (w0:World)(G0:PH)(hG:PSub G0 w0)(vlist:Value)(list:List (BHeld))(hlist:RdH G0 vlist list) :
  Calls Tryz.prog 107 #[vlist] w0 (RetO w0 G0 (AccOf heldE 3 139 list)):=by
 obtain⟨alist,klist,rfl⟩:=hlist.shape
 have hlimlist:list.length≤1099511627776:=hlist.lim
 have H:=Hp.init hG
 refine calls_of_W (l:=[.slice alist list.length klist]) func107 Z ntmps107 Z (q2 (aG Z (q1 (xbs H Z7 ?_))));intro _ _ _ H
 have H:=H.blkAcc 3 (k:=0) (n:=0) rfl rfl (by decide)
 refine aG Z (q3 (W_seq (q2 (aG Z (q3 (W_block ?_))))))
 refine W_lp (hf:=(Sub.cons (t:=0) Z (Sub.cons (t:=2) Z Sub.nil))) (J:=fun M w m=>∃(v:Value) (n:Nat) (cs:List Value) (xs:List (BHeld)) (k:Nat) (G:PH),M=[(4,.int .i64 (k:Int)),(3,v)]∧PLe G0 G∧Hp w0 G0 [] w G [acc 139 3 v n cs]∧(Chk heldE 3 G cs xs∧n=xs.length∧k≤list.length∧xs.length=k∧xs=list.take k)∧m=(list.length-k)) (h0:=⟨_,_,_,[],0,_,Z,PLe.refl _,H,?inv,Z⟩) (round:=?round)
 case inv=>exact⟨(Chk.nil (E:=heldE) (sz:=3) (G:=G0)),by first|rfl|simp|(simp;omega)|omega,(by simp)⟩
 case round =>
  rintro _ _ _ ⟨v,n,cs,xs,k,G2,rfl,hle2,H,hinv2,rfl⟩
  have hlist:=hlist.up hle2
  obtain⟨hchk2_0,_,hinv2⟩:=hinv2
  obtain⟨_,_,rfl⟩:=H.accShape (k:=0) rfl
  obtain⟨_,hxl,hxs⟩:=hinv2
  refine W_seq (q2 (pe 2 Z (lN Z (pe 1 Z (q3 ?_)))))
  refine W_cond Z ?_ ?_
  ·intro hc3
   try simp only[nrm]at hc3
   refine W_skip (N_K (W_seq (W_block (q2 (pe 2 Z (iP k hlist Z3 Z ?_))))));intro _ _ z4 _ hz4 hE4 hrow4
   obtain⟨_,_,_,rfl,_,hr4,_,_,_⟩:=ox hE4
   refine o_loadagg_P H isAgg139 sizeOf139 Z Z hrow4 Z (xal H Z ?_);intro _ _ _ H
   refine xst 0 H Z8 ?_;intro _ H
   refine q1 (xbs H Z7 ?_);intro _ _ _ H
   have H:=H.blkAcc 1 (k:=0) (n:=0) rfl rfl (by decide)
   refine fA 1 Z (lB 1 H Z3 ?_)
   refine o_append_P 0 H hr4 (by intro _ cs hz _ hu;obtain⟨rfl,_⟩:=hz;simp at hu;subst hu;rfl) (sz:=1) (bytes:=8) underlying37 typeInfo3 ⟨_,rfl,rfl⟩ rfl rfl rfl rfl rfl rfl rfl oM rfl ?_;intro _ _ css8 hcl8 hcs8 H
   have hchk8:Chk intE 1 G2 ([]++css8.flatten) _:=⟨css8,rfl,hcl8,hcs8⟩
   obtain⟨_,_,rfl⟩:=H.accShape (k:=0) rfl
   refine fA 1 Z (xst 1 H Z8 ?_);intro _ H
   refine q3 (W_region (mV Z (lA 1 3 H Z4 (xbs H Z7 ?_))));intro _ _ _ H
   refine o_append1 2 H (sz:=3) (bytes:=40) underlying23 typeInfo139 ⟨_,Z,Z⟩ Z Z Z Z Z Z Z Z Z Z oM Z ?_;intro _ _ H
   obtain⟨_,H,hsg12,hsr12⟩:=H.shut' (k:=0) rfl hchk8 aN aN
   have hchk2_0:=hchk2_0.up hsg12
   have hle2:=hle2.trans hsg12
   have hchk11:=hchk2_0.snoc (show heldE _ z4 _ from⟨_,_,_,rfl,⟨by first|omega|(dsimp only;omega),by first|omega|(dsimp only;omega)⟩,hsr12,⟨by first|omega|(dsimp only;omega),by first|omega|(dsimp only;omega)⟩⟩) rfl
   obtain⟨_,_,rfl⟩:=H.accShape (k:=1) rfl
   refine aG Z (R_nil (N_B (N_K (W_region (mV Z (aD Z2 (aG Z (R_nil ?_))))))))
   have H:=H.dl 0
   refine N_lp (hJ:=⟨_,_,_,(xs++[z4]),k+1,_,Z,hle2,H,?inv,Z⟩) (hm:=?hm)
   case hm=>omega
   case inv=>exact⟨hchk11,aN,(by exact⟨by omega,by simp[hxl],by rw[Sp.take_succ' hz4,hxs]⟩)⟩
  intro hc3'
  try simp only[nrm]at hc3'
  refine W_exit (N_K_exit (N_LP_exit (N_B_same (N_K (q2 (pe 2 Z (q3 (W_ret (rt1 results107 Z ?_)))))))))
  obtain rfl:k=list.length:=by omega
  rw[List.take_length]at hxs
  subst hxs
  exact H.retO (k:=0) rfl (AccOf.mk (by assumption) hchk2_0) (acc_nd _ _ _ _ _)
theorem l12At_c (w0:World)(G0:PH)(hG:PSub G0 w0)(vlist:Value)(list:List (BSnap))(hlist:RdSn G0 vlist list)(name:Bs)(hname:name.length≤16777216) :
  Calls Tryz.prog 91 #[vlist,str name] w0 (Rets w0 (.int .i64 (Sp.l12At list name))):=by
 obtain⟨alist,klist,rfl⟩:=hlist.shape
 have hlimlist:list.length≤1099511627776:=hlist.lim
 have H:=Hp.init hG
 refine calls_of_W (l:=[.slice alist list.length klist,str name]) func91 Z ntmps91 Z (q2 (aG Z (q3 (W_seq (q2 (aG Z (q3 (W_block ?_))))))))
 refine W_lp (hf:=(Sub.cons (t:=0) Z (Sub.cons (t:=1) Z Sub.nil))) (J:=fun M w m=>∃(k:Nat) (G:PH),M=[(5,.int .i64 (k:Int))]∧PLe G0 G∧Hp w0 G0 [] w G []∧(k≤list.length∧(∀j,j<k→∀y,list[j]? = some y→decide (y.name=name)=false))∧m=(list.length-k)) (h0:=⟨0,_,Z,PLe.refl _,H,?inv,Z⟩) (round:=?round)
 case inv=>exact⟨by omega,fun j hj=>by omega⟩
 case round =>
  rintro _ _ _ ⟨k,_,rfl,hle1,H,hinv1,rfl⟩
  have hlist:=hlist.up hle1
  obtain⟨_,hall⟩:=hinv1
  refine W_seq (q2 (pe 2 Z (lN Z (pe 1 Z (q3 ?_)))))
  refine W_cond Z ?_ ?_
  ·intro hc2
   try simp only[nrm]at hc2
   refine W_skip (N_K (W_seq (W_block (q2 (pe 2 Z (iP k hlist Z3 Z ?_))))));intro _ _ _ _ hz3 hE3 hrow3
   obtain⟨_,_,_,rfl,_,_,_,_⟩:=ox hE3
   refine fA 0 Z (lP H hrow3 0 Z2 (mV Z (o_seql Z Z Z (q3 ?_))))
   refine W_cond Z ?_ ?_
   ·intro hc4
    try simp only[nrm]at hc4
    refine q2 (pe 2 Z (q3 (W_ret (N_B_ret (N_K_ret (N_LP_ret (N_B_ret (N_K_ret (rt1 results91 Z ?_)))))))))
    exact H.rets (congrArg (Value.int .i64) (by rw[Sp.l12At,Sp.atS,Sp.find_at hall hz3 (by simp;exact hc4)];rfl))
   intro hc4'
   try simp only[nrm]at hc4'
   refine W_skip (N_B (N_K (W_region (mV Z (aD Z2 (aG Z (R_nil ?_)))))))
   refine N_lp (hJ:=⟨k+1,_,Z,hle1,H,?inv,Z⟩) (hm:=?hm)
   case hm=>omega
   case inv=>exact⟨by omega,Sp.none_succ hall hz3 (by simp;exact hc4')⟩
  intro hc2'
  try simp only[nrm]at hc2'
  refine W_exit (N_K_exit (N_LP_exit (N_B_same (N_K (q2 (aG Z (q3 (W_ret (rt1 results91 Z ?_)))))))))
  exact H.rets (congrArg (Value.int .i64) (by rw[Sp.l12At,Sp.atS,Sp.find_none hall oM];rfl))
theorem l4Ids_c (w0:World)(G0:PH)(hG:PSub G0 w0)(vlist:Value)(list:List (BHeld))(hlist:RdH G0 vlist list)(vids:Value)(ids:List (Int))(hids:RdI G0 vids ids) :
  Calls Tryz.prog 150 #[vlist,vids] w0 (Rets w0 (.bool (Sp.l4Ids list ids))):=by
 obtain⟨alist,klist,rfl⟩:=hlist.shape
 have hlimlist:list.length≤1099511627776:=hlist.lim
 obtain⟨aids,kids,rfl⟩:=hids.shape
 have hlimids:ids.length≤1099511627776:=hids.lim
 have H:=Hp.init hG
 refine calls_of_W (l:=[.slice alist list.length klist,.slice aids ids.length kids]) func150 Z ntmps150 Z (q2 (aG Z (q3 (W_seq (q2 (aG Z (q3 (W_block ?_))))))))
 refine W_lp (hf:=(Sub.cons (t:=0) Z (Sub.cons (t:=1) Z Sub.nil))) (J:=fun M w m=>∃(k:Nat) (G:PH),M=[(5,.int .i64 (k:Int))]∧PLe G0 G∧Hp w0 G0 [] w G []∧(k≤ids.length∧∀j,j<k→Sp.idsOk list ids j=true)∧m=(ids.length-k)) (h0:=⟨0,_,Z,PLe.refl _,H,?inv,Z⟩) (round:=?round)
 case inv=>exact⟨by omega,fun j hj=>by omega⟩
 case round =>
  rintro _ _ _ ⟨k,_,rfl,hle1,H,hinv1,rfl⟩
  have hlist:=hlist.up hle1
  have hids:=hids.up hle1
  obtain⟨_,hall⟩:=hinv1
  refine W_seq (q2 (pe 2 Z (lN Z (pe 1 Z (q3 ?_)))))
  refine W_cond Z ?_ ?_
  ·intro hc2
   try simp only[nrm]at hc2
   refine W_skip (N_K (W_seq (W_block (q2 (pe 3 Z (iP k hids Z3 Z ?_))))));intro _ _ z3 _ hz3 hE3 hrow3
   obtain⟨rfl,hi3⟩:=hE3
   refine lP H hrow3 0 Z2 (xr H Z2 (l3At_c _ _ H.sub _ _ hlist _) ?_);intro _ H
   refine aG Z (q1 (pe 3 Z ?_))
   refine R_case (t:=21) Z ?_ ?_
   ·intro hc5
    try simp only[nrm]at hc5
    refine pe 6 Z (R_pass Z (yl_un Z Z) (R_pass Z (yl_un Z Z) (R_pass Z (yl_un Z Z) (R_pass Z (yl_un Z Z) (R_pass Z (yl_un Z Z) (R_pass Z (yl_un Z Z) (R_pass Z (yl_un Z Z) (pe 2 Z (q3 (W_true Z (q2 (aG Z (q3 (W_ret (N_B_ret ?_)))))))))))))))
    refine N_K_ret (N_LP_ret (N_B_ret (N_K_ret (rt1 results150 Z ?_))))
    exact H.rets (congrArg Value.bool (by rw[Sp.l4Ids,Sp.not_all_range (k:=k) oM (by simp[Sp.idsOk,hz3,Sp.atH,Sp.at_none hc5])];rfl))
   intro hc5'
   try simp only[nrm]at hc5'
   obtain⟨i,x,hi1,hi2,hi3,hi4,_⟩:=Sp.at_nat hc5'
   have hl:Sp.atH list z3=some i:=hi1
   refine pe 1 Z (gR Z (aD Z2 (pe 1 Z (gR Z (lN Z (pe 2 Z ?_))))))
   refine R_case (t:=27) Z ?_ ?_
   ·intro hc7
    try simp only[nrm]at hc7
    refine pe 2 Z (gR Z (iP i hlist Z3 hi2 ?_));intro _ _ z8 _ hz8 hE8 hrow8
    obtain⟨_,_,_,rfl,_,_,_,_,_⟩:=ox hE8
    have hzz:x=z8:=Option.some.inj (hi4.symm.trans hz8)
    subst hzz
    refine gR Z (fA 1 Z (gR Z (lP H hrow8 1 Z2 (gR Z (lN Z (pe 3 Z (q3 ?_)))))))
    refine W_cond Z ?_ ?_
    ·intro hc9
     try simp only[nrm]at hc9
     refine q2 (aG Z (q3 (W_ret (N_B_ret (N_K_ret (N_LP_ret (N_B_ret (N_K_ret (rt1 results150 Z ?_)))))))))
     exact H.rets (congrArg Value.bool (by rw[Sp.l4Ids,Sp.not_all_range (k:=k) oM (by simp[Sp.idsOk,hz3,hl,hi4];omega)];rfl))
    intro hc9'
    try simp only[nrm]at hc9'
    refine W_skip (N_B (N_K (W_region (mV Z (aD Z2 (aG Z (R_nil ?_)))))))
    refine N_lp (hJ:=⟨k+1,_,Z,hle1,H,?inv,Z⟩) (hm:=?hm)
    case hm=>omega
    case inv=>exact⟨by omega,Sp.upto_succ hall (by simp[Sp.idsOk,hz3,hl,hi4];omega)⟩
   intro hc7'
   try simp only[nrm]at hc7'
   refine pe 9 Z (q3 (W_false Z (W_skip (N_B (N_K (W_region (mV Z (aD Z2 (aG Z (R_nil ?_))))))))))
   refine N_lp (hJ:=⟨k+1,_,Z,hle1,H,?inv,Z⟩) (hm:=?hm)
   case hm=>omega
   case inv=>exact⟨by omega,Sp.upto_succ hall (by simp[Sp.idsOk,hz3,hl,hi4];omega)⟩
  intro hc2'
  try simp only[nrm]at hc2'
  refine W_exit (N_K_exit (N_LP_exit (N_B_same (N_K (q2 (mV Z (lN Z (pe 2 Z (q3 (W_ret (rt1 results150 Z ?_)))))))))))
  exact H.rets (congrArg Value.bool (by rw[Sp.l4Ids,Sp.all_range (fun j hj=>hall j oM),Bool.true_and];rw[Bool.eq_iff_iff];simp;omega))
theorem l11Count_c (w0:World)(G0:PH)(hG:PSub G0 w0)(vlist:Value)(list:List (BItem))(hlist:RdItems G0 vlist list)(id:Int)(hT:Sp.TreeValid list=true) :
  Calls Tryz.prog 152 #[vlist,.int .i64 id] w0 (Rets w0 (.int .i64 (Sp.l11Count list id:Int))):=by
 obtain⟨alist,klist,rfl⟩:=hlist.shape
 have hlimlist:list.length≤1099511627776:=hlist.lim
 have htl:=Sp.tree_len hT
 have H:=Hp.init hG
 refine calls_of_W (l:=[.slice alist list.length klist,.int .i64 id]) func152 Z ntmps152 Z (q2 (aG Z (q1 (aG Z (q3 (W_seq (q2 (aG Z (q3 (W_block ?_))))))))))
 refine W_lp (hf:=(Sub.cons (t:=0) Z (Sub.cons (t:=1) Z (Sub.cons (t:=4) Z Sub.nil)))) (J:=fun M w m=>∃(c k:Nat) (G:PH),M=[(5,.int .i64 (c:Int)),(6,.int .i64 (k:Int))]∧PLe G0 G∧Hp w0 G0 [] w G []∧(k≤list.length∧c=Sp.cntU list id k)∧m=(list.length-k)) (h0:=⟨0,0,_,Z,PLe.refl _,H,?inv,Z⟩) (round:=?round)
 case inv=>exact⟨by omega,by simp[Sp.cntU]⟩
 case round =>
  rintro _ _ _ ⟨c,k,G1,rfl,hle1,H,hinv1,rfl⟩
  have hlist:=hlist.up hle1
  obtain⟨hk,hc⟩:=hinv1;have hcu:=Sp.cntU_le hT k hk (id:=id)
  refine W_seq (q2 (pe 2 Z (lN Z (pe 1 Z (q3 ?_)))))
  refine W_cond Z ?_ ?_
  ·intro hc2
   try simp only[nrm]at hc2
   refine W_skip (N_K (W_seq (W_block (q2 (aG Z (q3 (W_block ?_)))))))
   refine W_lp (hf:=(Sub.cons (t:=0) Z (Sub.cons (t:=1) Z (Sub.cons (t:=4) Z (Sub.cons (t:=6) Z Sub.nil))))) (J:=fun M w m=>∃(c2 j:Nat) (y:BItem) (G:PH),M=[(5,.int .i64 (c2:Int)),(7,.int .i64 (j:Int))]∧PLe G1 G∧Hp w0 G0 [] w G []∧(list[k]? = some y∧j≤y.ids.length∧c2=Sp.cntU list id k+Sp.cnt1 id (y.ids.take j))∧m=(y.ids.length-j)) (h0:=⟨c,0,(list[k]'oM),_,Z,PLe.refl _,H,?inv,Z⟩) (round:=?round)
   case inv=>exact⟨by simp,by omega,by simp[hc,Sp.cnt1]⟩
   case round =>
    rintro _ _ _ ⟨c2,j,y,_,rfl,hle3,H,hinv3,rfl⟩
    have hlist:=hlist.up hle3
    have hle1:=hle1.trans hle3
    obtain⟨hy,_,hc2⟩:=hinv3;have hc4:=(Sp.tree_at hT hy).2;have hc1:=Sp.cnt1_le id (y.ids.take j);have htk:(y.ids.take j).length≤j:=by simp;omega
    refine W_seq (q2 (pe 3 Z (iP k hlist Z3 Z ?_)));intro _ _ z4 _ hz4 hE4 hrow4
    obtain⟨_,_,_,rfl,_,_,_,_⟩:=ox hE4
    have hzz4:y=z4:=Option.some.inj (hy.symm.trans hz4)
    subst hzz4
    refine fA 2 Z (lP H hrow4 2 Z2 (lN Z (pe 1 Z (q3 ?_))))
    refine W_cond Z ?_ ?_
    ·intro hc5
     try simp only[nrm]at hc5
     refine W_skip (N_K (W_seq (W_block (q2 (pe 2 Z (iP k hlist Z3 Z ?_))))));intro _ _ z6 _ hz6 hE6 hrow6
     obtain⟨_,_,_,rfl,_,hr6,_,_⟩:=ox hE6
     have hzz6:y=z6:=Option.some.inj (hy.symm.trans hz6)
     subst hzz6
     refine fA 2 Z (lP H hrow6 2 Z2 (mV Z (iP j hr6 Z3 Z ?_)));intro _ _ _ _ hz7 hE7 hrow7
     obtain⟨rfl,_⟩:=hE7
     refine lP H hrow7 0 Z2 (pe 2 Z (q3 ?_))
     refine W_cond Z ?_ ?_
     ·intro hc8
      try simp only[nrm]at hc8
      refine W_region (mV Z (aD Z2 (aG Z (R_nil (N_B (N_K (W_region (mV Z (aD Z2 (aG Z (R_nil ?_)))))))))))
      refine N_lp (hJ:=⟨c2+1,j+1,y,_,Z,hle3,H,?inv,Z⟩) (hm:=?hm)
      case hm=>omega
      case inv=>exact⟨hy,by omega,by rw[Sp.cnt1_succ hz7,if_pos oM,hc2];omega⟩
     intro hc8'
     try simp only[nrm]at hc8'
     refine W_skip (N_B (N_K (W_region (mV Z (aD Z2 (aG Z (R_nil ?_)))))))
     refine N_lp (hJ:=⟨c2,j+1,y,_,Z,hle3,H,?inv,Z⟩) (hm:=?hm)
     case hm=>omega
     case inv=>exact⟨hy,by omega,by rw[Sp.cnt1_succ hz7,if_neg oM,hc2];omega⟩
    intro hc5'
    try simp only[nrm]at hc5'
    refine W_exit (N_K_exit (N_LP_exit (N_B_same (N_B (N_K (W_region (mV Z (aD Z2 (aG Z (R_nil ?_))))))))))
    refine N_lp (hJ:=⟨c2,k+1,_,Z,hle1,H,?inv,Z⟩) (hm:=?hm)
    case hm=>omega
    case inv=>exact⟨by omega,by rw[hc2,Sp.cntU_succ hy,List.take_of_length_le oM]⟩
  intro hc2'
  try simp only[nrm]at hc2'
  refine W_exit (N_K_exit (N_LP_exit (N_B_same (N_K (q2 (pe 2 Z (q3 (W_ret (rt1 results152 Z ?_)))))))))
  obtain rfl:k=list.length:=by omega
  exact H.rets (congrArg (Value.int .i64) (by rw[hc];rfl))
theorem l11Files_c (w0:World)(G0:PH)(hG:PSub G0 w0)(vstore:Value)(store:List (BHeld))(hstore:RdH G0 vstore store)(vlist:Value)(list:List (BItem))(hlist:RdItems G0 vlist list) :
  Calls Tryz.prog 88 #[vstore,vlist] w0 (Rets w0 (.bool (Sp.l11Files store list))):=by
 obtain⟨astore,kstore,rfl⟩:=hstore.shape
 have hlimstore:store.length≤1099511627776:=hstore.lim
 obtain⟨alist,klist,rfl⟩:=hlist.shape
 have hlimlist:list.length≤1099511627776:=hlist.lim
 have H:=Hp.init hG
 refine calls_of_W (l:=[.slice astore store.length kstore,.slice alist list.length klist]) func88 Z ntmps88 Z (q2 (aG Z (q3 (W_seq (q2 (aG Z (q3 (W_block ?_))))))))
 refine W_lp (hf:=(Sub.cons (t:=0) Z (Sub.cons (t:=1) Z Sub.nil))) (J:=fun M w m=>∃(k:Nat) (G:PH),M=[(5,.int .i64 (k:Int))]∧PLe G0 G∧Hp w0 G0 [] w G []∧(k≤list.length∧(list.take k).all (Sp.fileOk store)=true)∧m=(list.length-k)) (h0:=⟨0,_,Z,PLe.refl _,H,?inv,Z⟩) (round:=?round)
 case inv=>exact⟨by omega,by simp⟩
 case round =>
  rintro _ _ _ ⟨k,_,rfl,hle1,H,hinv1,rfl⟩
  have hstore:=hstore.up hle1
  have hlist:=hlist.up hle1
  obtain⟨_,hall⟩:=hinv1
  refine W_seq (q2 (pe 2 Z (lN Z (pe 1 Z (q3 ?_)))))
  refine W_cond Z ?_ ?_
  ·intro hc2
   try simp only[nrm]at hc2
   refine W_skip (N_K (W_seq (W_block (q2 (pe 3 Z (iP k hlist Z3 Z ?_))))));intro _ _ _ _ hz3 hE3 hrow3
   obtain⟨_,_,_,rfl,_,hr3,_,_⟩:=ox hE3
   refine fA 2 Z (lP H hrow3 2 Z2 (xr H Z2 (l4Ids_c _ _ H.sub _ _ hstore _ _ hr3) ?_));intro _ H
   refine pe 1 Z (q3 ?_)
   refine W_cond Z ?_ ?_
   ·intro hc5
    try simp only[nrm]at hc5
    refine q2 (aG Z (q3 (W_ret (N_B_ret (N_K_ret (N_LP_ret (N_B_ret (N_K_ret (rt1 results88 Z ?_)))))))))
    exact H.rets (congrArg Value.bool (by rw[Sp.l11Files,Sp.all_false hz3 (by simp[Sp.fileOk, *])]))
   intro hc5'
   try simp only[nrm]at hc5'
   refine W_skip (N_B (N_K (W_region (mV Z (aD Z2 (aG Z (R_nil ?_)))))))
   refine N_lp (hJ:=⟨k+1,_,Z,hle1,H,?inv,Z⟩) (hm:=?hm)
   case hm=>omega
   case inv=>exact⟨by omega,Sp.all_take hall hz3 (by simp[Sp.fileOk, *])⟩
  intro hc2'
  try simp only[nrm]at hc2'
  refine W_exit (N_K_exit (N_LP_exit (N_B_same (N_K (q2 (aG Z (q3 (W_ret (rt1 results88 Z ?_)))))))))
  obtain rfl:k=list.length:=by omega
  rw[List.take_length]at hall
  exact H.rets (congrArg Value.bool (by rw[Sp.l11Files,hall]))
theorem l11Ids_c (w0:World)(G0:PH)(hG:PSub G0 w0)(vlist:Value)(list:List (BItem))(hlist:RdItems G0 vlist list)(path:Bs)(hpath:path.length≤16777216) :
  Calls Tryz.prog 199 #[vlist,str path] w0 (RetP w0 G0 (fun G v=>RdItems G v (Sp.l11Ids list path))):=by
 obtain⟨alist,klist,rfl⟩:=hlist.shape
 have hlimlist:list.length≤1099511627776:=hlist.lim
 have H:=Hp.init hG
 refine calls_of_W (l:=[.slice alist list.length klist,str path]) func199 Z ntmps199 Z (q2 (aG Z (q1 (pe 2 Z (xr H Z2 (l5At_c _ _ H.sub _ _ hlist _ hpath) ?_)))));intro _ H
 refine aG Z (q3 (W_seq (q2 (pe 3 Z ?_))))
 refine R_case (t:=11) Z ?_ ?_
 ·intro hc2
  try simp only[nrm]at hc2
  refine pe 6 Z (q3 (W_true Z (q2 (xbs H Z7 ?_))));intro _ _ _ H
  have H:=H.blkAcc 3 (k:=0) (n:=0) rfl rfl (by decide)
  refine aG Z (q3 (W_ret (N_K_ret (rt1 results199 Z ?_))))
  obtain⟨_,H,hsg504,hsr504⟩:=H.shut' (k:=0) rfl (Chk.nil (E:=itemE) (sz:=3) (G:=G0)) aN aN
  exact H.retP (by rw[show Sp.l11Ids list path=[] by simp[Sp.l11Ids,Sp.atI,Sp.at_none hc2]];exact hsr504)
 intro hc2'
 try simp only[nrm]at hc2'
 obtain⟨i,_,ia,ib,_,_,_⟩:=Sp.at_nat hc2'
 have ib:Sp.l5At list path=(i:Int):=ib
 have hl:Sp.atI list path=some i:=ia
 refine pe 2 Z (gR Z (iP i hlist Z3 ib ?_));intro _ _ _ _ hz4 hE4 hrow4
 obtain⟨_,_,_,rfl,_,hr4,_,_⟩:=ox hE4
 refine gR Z (fA 1 Z (gR Z (lP H hrow4 1 Z2 (pe 1 Z (q3 ?_)))))
 refine W_cond Z ?_ ?_
 ·intro hc5
  try simp only[nrm]at hc5
  refine q2 (xbs H Z7 ?_);intro _ _ _ H
  have H:=H.blkAcc 3 (k:=0) (n:=0) rfl rfl (by decide)
  refine aG Z (q3 (W_ret (N_K_ret (rt1 results199 Z ?_))))
  obtain⟨_,H,hsg507,hsr507⟩:=H.shut' (k:=0) rfl (Chk.nil (E:=itemE) (sz:=3) (G:=G0)) aN aN
  exact H.retP (by rw[show Sp.l11Ids list path=[] by simp[Sp.l11Ids,hl,hz4,hc5]];exact hsr507)
 intro hc5'
 try simp only[nrm]at hc5'
 refine W_skip (N_K (q2 (pe 3 Z (aD Z2 ?_))))
 have hcap8:=hlist.cap;try simp only[List.length_set,List.length_append,List.length_take,List.length_drop,List.length_replicate]at hcap8
 refine o_slice (i:=i) (j:=(i+1)) underlying24 sizeOf41 Z Z Z Z ib oM aN aN ?_
 have hsl8:=hlist.part (i:=i) (j:=(i+1)) oM oM
 have hsn1:=hsl8.len
 refine aG Z (q3 (W_ret (rt1 results199 Z ?_)))
 exact H.retP (by rw[show Sp.l11Ids list path=(list.drop i).take (i+1-i) by simp[Sp.l11Ids,hl,hz4,hc5',Sp.drop_at hz4]];exact hsl8)
theorem l12Count_c (w0:World)(G0:PH)(hG:PSub G0 w0)(cd:List Value)(d:BDisk)(hd:diskE G0 d cd)(id:Int)(hT:Sp.TreeValid d.tree=true)(hN:Sp.l12Snaps d=true) :
  Calls Tryz.prog 90 #[.agg cd.toArray,.int .i64 id] w0 (Rets w0 (.int .i64 (Sp.l12Count d id:Int))):=by
 obtain⟨_,_,_,_,_,_,_,_,_,rfl,hr1,hr1',hr1'',⟨_,_⟩,⟨_,_⟩,_,_⟩:=ox hd
 obtain⟨_,hst⟩:=Sp.snaps_at hN
 have htc:=Sp.l11Count_le hT (id:=id)
 have H:=Hp.init hG
 refine calls_of_W (l:=[_,.int .i64 id]) func90 Z ntmps90 Z (q2 (o_box H Z Z Z ?_));intro b2 _ _ H
 refine aG Z (q1 (fA 1 Z (lB 0 H Z3 (mV Z (xr H Z2 (l11Count_c _ _ H.sub _ _ hr1' _ hT) ?_)))));intro _ H
 refine aG Z (q3 (W_seq (q2 (aG Z (q3 (W_block ?_))))))
 obtain⟨ln4,hln4,H⟩:=H.name (k:=0) rfl
 refine W_lp (hf:=(Sub.cons (t:=1) Z (Sub.cons (t:=2) Z (Sub.cons (t:=4) Z Sub.nil)))) (J:=fun M w m=>∃(c k:Nat) (G:PH),M=[(5,.int .i64 (c:Int)),(6,.int .i64 (k:Int))]∧PLe G0 G∧Hp w0 G0 [] w G [blk b2 (cl ln4 27)]∧(k≤d.snaps.length∧c=Sp.l11Count d.tree id+Sp.cntS d.snaps id k)∧m=(d.snaps.length-k)) (h0:=⟨(Sp.l11Count d.tree id),0,_,Z,PLe.refl _,H,?inv,Z⟩) (round:=?round)
 case inv=>exact⟨by omega,by simp[Sp.cntS]⟩
 case round =>
  rintro _ _ _ ⟨c,k,_,rfl,hle5,H,hinv5,rfl⟩
  subst hln4
  have hr1'':=hr1''.up hle5
  obtain⟨hk,hc⟩:=hinv5;have hcu:=Sp.cntS_le hst k hk (id:=id)
  refine W_seq (q2 (mV Z (fA 2 Z (lB 0 H Z3 (lN Z (pe 1 Z (q3 ?_)))))))
  refine W_cond Z ?_ ?_
  ·intro hc6
   try simp only[nrm]at hc6
   refine W_skip (N_K (W_seq (W_block (W_region (mV Z (fA 2 Z (lB 0 H Z3 (mV Z (iP k hr1'' Z3 Z ?_)))))))));intro _ _ z7 _ hz7 hE7 hrow7
   obtain⟨_,_,_,rfl,_,hr7,_,_⟩:=ox hE7
   have hlz:=Sp.l11Count_le (hst _ (List.mem_of_getElem? hz7)) (id:=id)
   refine fA 1 Z (lP H hrow7 1 Z2 (mV Z ?_))
   refine xr H Z2 (l11Count_c _ _ H.sub _ _ hr7 _ (hst _ (List.mem_of_getElem? hz7))) ?_;intro _ H
   refine aD Z2 (aG Z (R_nil (N_B (N_K (W_region (mV Z (aD Z2 (aG Z (R_nil ?_)))))))))
   refine N_lp (hJ:=⟨c+Sp.l11Count z7.tree id,k+1,_,Z,hle5,H,?inv,Z⟩) (hm:=?hm)
   case hm=>omega
   case inv=>exact⟨by omega,by rw[hc,Sp.cntS_succ hz7];omega⟩
  intro hc6'
  try simp only[nrm]at hc6'
  refine W_exit (N_K_exit (N_LP_exit (N_B_same (N_K (q2 (pe 2 Z (q3 (W_ret (rt1 results90 Z ?_)))))))))
  obtain rfl:k=d.snaps.length:=by omega
  exact H.rets (congrArg (Value.int .i64) (by rw[hc];rfl))
theorem l12Snaps_c (w0:World)(G0:PH)(hG:PSub G0 w0)(cd:List Value)(d:BDisk)(hd:diskE G0 d cd) :
  Calls Tryz.prog 89 #[.agg cd.toArray] w0 (Rets w0 (.bool (Sp.l12Snaps d))):=by
 obtain⟨_,_,_,_,_,_,_,_,_,rfl,hr1,hr1',hr1'',⟨_,_⟩,⟨_,_⟩,_,_⟩:=ox hd
 have H:=Hp.init hG
 refine calls_of_W (l:=[_]) func89 Z ntmps89 Z (q2 (o_box H Z Z Z ?_));intro b2 _ _ H
 refine aG Z (q3 (W_seq (q2 (aG Z (q3 (W_block ?_))))))
 obtain⟨ln3,hln3,H⟩:=H.name (k:=0) rfl
 refine W_lp (hf:=(Sub.cons (t:=1) Z Sub.nil)) (J:=fun M w m=>∃(k:Nat) (G:PH),M=[(3,.int .i64 (k:Int))]∧PLe G0 G∧Hp w0 G0 [] w G [blk b2 (cl ln3 27)]∧(k≤d.snaps.length∧∀j,j<k→Sp.okS d j=true)∧m=(d.snaps.length-k)) (h0:=⟨0,_,Z,PLe.refl _,H,?inv,Z⟩) (round:=?round)
 case inv=>exact⟨by omega,fun j hj=>by omega⟩
 case round =>
  rintro _ _ _ ⟨k,_,rfl,hle4,H,hinv4,rfl⟩
  subst hln3
  have hr1:=hr1.up hle4
  have hr1'':=hr1''.up hle4
  obtain⟨_,hall⟩:=hinv4
  refine W_seq (q2 (mV Z (fA 2 Z (lB 0 H Z3 (lN Z (pe 1 Z (q3 ?_)))))))
  refine W_cond Z ?_ ?_
  ·intro hc5
   try simp only[nrm]at hc5
   refine W_skip (N_K (W_seq (W_block (q2 (fA 2 Z (lB 0 H Z3 (mV Z (iP k hr1'' Z3 Z ?_))))))));intro _ _ _ _ hz6 hE6 hrow6
   obtain⟨_,_,_,rfl,hi6,hr6,_,_⟩:=ox hE6
   refine o_loadagg_P H isAgg67 sizeOf67 Z Z hrow6 Z (xal H Z ?_);intro _ _ _ H
   refine xst 0 H Z8 ?_;intro _ H
   refine q1 (fA 0 Z (lB 0 H Z3 (xr H Z2 (l1Word_c _ _ hi6) ?_)));intro _ H
   refine pe 2 Z ?_
   refine R_case (t:=21) Z ?_ ?_
   ·intro hc10
    try simp only[nrm]at hc10
    refine pe 22 Z (q3 (W_true Z (q2 (aG Z (q3 (W_ret (N_B_ret (N_K_ret (N_LP_ret (N_B_ret (N_K_ret (rt1 results89 Z ?_))))))))))))
    exact H.rets (congrArg Value.bool (by rw[Sp.l12Snaps,Sp.not_all_range (k:=k) oM (by rw[Sp.okS_at hz6];simp[*]<;>(intros;omega))];rfl))
   intro hc10'
   try simp only[nrm]at hc10'
   refine gR Z (fA 2 Z (gR Z (lB 1 H Z3 (gR Z (fA 0 Z (gR Z (lB 0 H Z3 (gR Z (xr H Z2 (l12At_c _ _ H.sub _ _ hr1'' _ hi6) ?_)))))))));intro _ H
   refine pe 4 Z ?_
   refine R_case (t:=30) Z ?_ ?_
   ·intro hc12
    try simp only[nrm]at hc12
    refine pe 13 Z (q3 (W_true Z (q2 (aG Z (q3 (W_ret (N_B_ret (N_K_ret (N_LP_ret (N_B_ret (N_K_ret (rt1 results89 Z ?_))))))))))))
    exact H.rets (congrArg Value.bool (by rw[Sp.l12Snaps,Sp.not_all_range (k:=k) oM (by rw[Sp.okS_at hz6];simp[*]<;>(intros;omega))];rfl))
   intro hc12'
   try simp only[nrm]at hc12'
   refine gR Z (fA 1 Z (gR Z (lB 0 H Z3 (gR Z (xr H Z2 (TreeValid_c _ _ H.sub _ _ hr6) ?_)))));intro _ H
   refine pe 3 Z ?_
   refine R_case (t:=36) Z ?_ ?_
   ·intro hc14
    try simp only[nrm]at hc14
    refine pe 7 Z (q3 (W_true Z (q2 (aG Z (q3 (W_ret (N_B_ret (N_K_ret (N_LP_ret (N_B_ret (N_K_ret (rt1 results89 Z ?_))))))))))))
    exact H.rets (congrArg Value.bool (by rw[Sp.l12Snaps,Sp.not_all_range (k:=k) oM (by rw[Sp.okS_at hz6];simp[*]<;>(intros;omega))];rfl))
   intro hc14'
   try simp only[nrm]at hc14'
   refine gR Z (fA 0 Z (gR Z (lB 1 H Z3 (gR Z (fA 1 Z (gR Z (lB 0 H Z3 (gR Z (xr H Z2 (l11Files_c _ _ H.sub _ _ hr1 _ _ hr6) ?_)))))))));intro _ H
   refine pe 2 Z (q3 ?_)
   refine W_cond Z ?_ ?_
   ·intro hc16
    try simp only[nrm]at hc16
    refine q2 (aG Z (q3 (W_ret (N_B_ret (N_K_ret (N_LP_ret (N_B_ret (N_K_ret (rt1 results89 Z ?_)))))))))
    exact H.rets (congrArg Value.bool (by rw[Sp.l12Snaps,Sp.not_all_range (k:=k) oM (by rw[Sp.okS_at hz6];simp[*]<;>(intros;omega))];rfl))
   intro hc16'
   try simp only[nrm]at hc16'
   refine W_skip (N_B (N_K (W_region (mV Z (aD Z2 (aG Z (R_nil ?_)))))))
   have H:=H.dl 0
   refine N_lp (hJ:=⟨k+1,_,Z,hle4,H,?inv,Z⟩) (hm:=?hm)
   case hm=>omega
   case inv=>exact⟨by omega,Sp.upto_succ hall (by rw[Sp.okS_at hz6];simp[*])⟩
  intro hc5'
  try simp only[nrm]at hc5'
  refine W_exit (N_K_exit (N_LP_exit (N_B_same (N_K (q2 (fA 2 Z (lB 0 H Z3 (lN Z (pe 2 Z (q3 (W_ret (rt1 results89 Z ?_))))))))))))
  exact H.rets (congrArg Value.bool (by rw[Sp.l12Snaps,Sp.all_range (fun j hj=>hall j oM),Bool.true_and];rw[Bool.eq_iff_iff];simp;omega))
theorem DiskValid_c (w0:World)(G0:PH)(hG:PSub G0 w0)(cd:List Value)(d:BDisk)(hd:diskE G0 d cd) :
  Calls Tryz.prog 33 #[.agg cd.toArray] w0 (Rets w0 (.bool (Sp.DiskValid d))):=by
 obtain⟨_,_,_,_,_,_,_,_,_,rfl,hr1,hr1',hr1'',⟨_,_⟩,⟨_,_⟩,_,_⟩:=ox hd
 have H:=Hp.init hG
 refine calls_of_W (l:=[_]) func33 Z ntmps33 Z (q2 (o_box H Z Z Z ?_));intro b2 _ _ H
 refine aG Z (q3 (W_seq (q2 (fA 0 Z (lB 0 H Z3 (xr H Z2 (StoreValid_c _ _ H.sub _ _ hr1) ?_))))));intro _ H
 refine pe 2 Z ?_
 refine R_case (t:=8) Z ?_ ?_
 ·intro hc4
  try simp only[nrm]at hc4
  refine pe 18 Z (q3 (W_true Z (q2 (aG Z (q3 (W_ret (N_K_ret (rt1 results33 Z ?_))))))))
  exact H.rets (congrArg Value.bool (by simp[Sp.DiskValid,hc4]))
 intro hc4'
 try simp only[nrm]at hc4'
 refine gR Z (fA 1 Z (gR Z (lB 0 H Z3 (gR Z (xr H Z2 (TreeValid_c _ _ H.sub _ _ hr1') ?_)))));intro _ H
 refine pe 3 Z ?_
 refine R_case (t:=14) Z ?_ ?_
 ·intro hc6
  try simp only[nrm]at hc6
  refine pe 12 Z (q3 (W_true Z (q2 (aG Z (q3 (W_ret (N_K_ret (rt1 results33 Z ?_))))))))
  exact H.rets (congrArg Value.bool (by simp[Sp.DiskValid,hc6]))
 intro hc6'
 try simp only[nrm]at hc6'
 refine gR Z (fA 0 Z (gR Z (lB 0 H Z3 (gR Z (fA 1 Z (gR Z (lB 0 H Z3 (gR Z (xr H Z2 (l11Files_c _ _ H.sub _ _ hr1 _ _ hr1') ?_)))))))));intro _ H
 refine pe 3 Z ?_
 refine R_case (t:=22) Z ?_ ?_
 ·intro hc8
  try simp only[nrm]at hc8
  refine pe 4 Z (q3 (W_true Z (q2 (aG Z (q3 (W_ret (N_K_ret (rt1 results33 Z ?_))))))))
  exact H.rets (congrArg Value.bool (by simp[Sp.DiskValid,hc8]))
 intro hc8'
 try simp only[nrm]at hc8'
 refine gR Z (lA 0 3 H Z4 (gR Z (xr H Z2 (l12Snaps_c _ _ H.sub _ d ⟨_,_,_,_,_,_,_,_,_,Z,hr1,hr1',hr1''⟩) ?_)));intro _ H
 refine pe 2 Z (q3 ?_)
 refine W_cond Z ?_ ?_
 ·intro hc10
  try simp only[nrm]at hc10
  refine q2 (aG Z (q3 (W_ret (N_K_ret (rt1 results33 Z ?_)))))
  exact H.rets (congrArg Value.bool (by simp[Sp.DiskValid,hc10]))
 intro hc10'
 try simp only[nrm]at hc10'
 refine W_skip (N_K (W_seq (q2 (aG Z (q3 (W_block ?_))))))
 obtain⟨ln11,hln11,H⟩:=H.name (k:=0) rfl
 refine W_lp (hf:=(Sub.cons (t:=1) Z Sub.nil)) (J:=fun M w m=>∃(k:Nat) (G:PH),M=[(3,.int .i64 (k:Int))]∧PLe G0 G∧Hp w0 G0 [] w G [blk b2 (cl ln11 27)]∧(k≤d.store.length∧(d.store.take k).all (Sp.usesD d)=true)∧m=(d.store.length-k)) (h0:=⟨0,_,Z,PLe.refl _,H,?inv,Z⟩) (round:=?round)
 case inv=>exact⟨by omega,by simp⟩
 case round =>
  rintro _ _ _ ⟨k,G12,rfl,hle12,H,hinv12,rfl⟩
  subst hln11
  have hr1:=hr1.up hle12
  have hr1':=hr1'.up hle12
  have hr1'':=hr1''.up hle12
  obtain⟨_,hall⟩:=hinv12
  refine W_seq (q2 (mV Z (fA 0 Z (lB 0 H Z3 (lN Z (pe 1 Z (q3 ?_)))))))
  refine W_cond Z ?_ ?_
  ·intro hc13
   try simp only[nrm]at hc13
   refine W_skip (N_K (W_seq (W_block (W_seq (W_drawK [0] 15 H kR Z ?_)))));intro _ H;have hd14:=PLe.refl G12
   refine RD_t 0 Z kR Z (fun _ hK=>v_loadagg_B 0 hK isAgg27 sizeOf27 Z Z Z Z) (dF 1 0 Z2 (dB 2 0 Z4 (dE 3 Z2 ?_)))
   have hl15:=hr1.len
   obtain⟨_,_,z15,_,ha15,hz15,hq15,hE15,hrow15,_⟩:=hr1.at (i:=k) oM
   clear hq15
   obtain⟨_,_,_,rfl,_,_,_,_,_⟩:=ox hE15
   refine dI 4 3 k ha15 Z3 Z (dF 5 0 Z2 (dP 6 hrow15 0 Z3 (dF 8 0 Z2 (dB 9 0 Z4 (dE 10 Z2 ?_)))))
   have hl16:=hr1.len
   obtain⟨_,_,z16,_,ha16,hz16,hq16,hE16,hrow16,_⟩:=hr1.at (i:=k) oM
   clear hq16
   obtain⟨_,_,_,rfl,_,_,_,_,_⟩:=ox hE16
   have hzz16:z15=z16:=Option.some.inj (hz15.symm.trans hz16)
   subst hzz16
   refine dI 11 3 k ha16 Z3 Z (dF 12 2 Z2 (dP 13 hrow16 2 Z3 (r1 7 Z (xr H Z2 (l12Count_c _ _ H.sub _ d ⟨_,_,_,_,_,_,_,_,_,Z,hr1,hr1',hr1''⟩ _ hc6' hc10') ?_))));intro _ H
   refine q4 H hd14 (dE 14 Z2 (rz (N_K ?_)))
   refine W_cond Z ?_ ?_
   ·intro hc18
    try simp only[nrm]at hc18
    refine q2 (aG Z (q3 (W_ret (N_B_ret (N_K_ret (N_LP_ret (N_B_ret (N_K_ret (rt1 results33 Z ?_)))))))))
    exact H.rets (congrArg Value.bool (by rw[Sp.DiskValid,Sp.all_false hz15 (by simp[Sp.usesD, *])];rfl))
   intro hc18'
   try simp only[nrm]at hc18'
   refine W_skip (N_B (N_K (W_region (mV Z (aD Z2 (aG Z (R_nil ?_)))))))
   refine N_lp (hJ:=⟨k+1,_,Z,hle12,H,?inv,Z⟩) (hm:=?hm)
   case hm=>omega
   case inv=>exact⟨by omega,Sp.all_take hall hz15 (by simp[Sp.usesD, *])⟩
  intro hc13'
  try simp only[nrm]at hc13'
  refine W_exit (N_K_exit (N_LP_exit (N_B_same (N_K (q2 (aG Z (q3 (W_ret (rt1 results33 Z ?_)))))))))
  obtain rfl:k=d.store.length:=by omega
  rw[List.take_length]at hall
  exact H.rets (congrArg Value.bool (by simp[Sp.DiskValid,hall,hc4',hc6',hc8',hc10']))
theorem l5Copy_c (w0:World)(G0:PH)(hG:PSub G0 w0)(cx:List Value)(x:BItem)(hx:itemE G0 x cx) :
  Calls Tryz.prog 123 #[.agg cx.toArray] w0 (RetP w0 G0 (fun G v=>∃cs,v= .agg cs.toArray∧itemE G x cs)):=by
 obtain⟨_,_,_,rfl,hi1,hr1,_,_⟩:=ox hx
 have H:=Hp.init hG
 refine calls_of_W (l:=[_]) func123 Z ntmps123 Z (q2 (o_box H Z Z Z ?_));intro _ _ _ H
 refine xal H Z ?_;intro _ _ _ H
 refine q1 (xbs H Z7 ?_);intro _ _ _ H
 have H:=H.blkAcc 1 (k:=0) (n:=0) rfl rfl (by decide)
 refine fA 2 Z (lB 2 H Z3 ?_)
 refine o_append_P 0 H hr1 (by intro _ _ hz _ hu;obtain⟨rfl,_⟩:=hz;simp at hu;subst hu;rfl) (sz:=1) (bytes:=8) underlying37 typeInfo3 ⟨_,rfl,rfl⟩ rfl rfl rfl rfl rfl rfl rfl oM rfl ?_;intro _ _ css5 hcl5 hcs5 H
 have hchk5:Chk intE 1 G0 ([]++css5.flatten) _:=⟨css5,rfl,hcl5,hcs5⟩
 obtain⟨_,_,rfl⟩:=H.accShape (k:=0) rfl
 refine fA 2 Z (xst 2 H Z8 ?_);intro _ H
 refine q1 (lA 2 3 H Z4 (xst 1 H Z8 ?_));intro _ H
 refine q3 (W_ret (ret_gen (rs:=[.cell 2 41]) (vs:=[_]) results123 ⟨⟨_,Z,load_blk 1 H isAgg41 sizeOf41 Z Z Z⟩,trivial⟩ ?_))
 obtain⟨_,H,hsg509,hsr509⟩:=H.shut' (k:=0) rfl hchk5 aN aN
 exact H.retP ⟨_,Z,⟨_,_,_,Z,hi1,hsr509⟩⟩
theorem l5All_c (w0:World)(G0:PH)(hG:PSub G0 w0)(vlist:Value)(list:List (BItem))(hlist:RdItems G0 vlist list) :
  Calls Tryz.prog 94 #[vlist] w0 (RetO w0 G0 (AccOf itemE 3 41 list)):=by
 obtain⟨alist,klist,rfl⟩:=hlist.shape
 have hlimlist:list.length≤1099511627776:=hlist.lim
 have H:=Hp.init hG
 refine calls_of_W (l:=[.slice alist list.length klist]) func94 Z ntmps94 Z (q2 (aG Z (q1 (xbs H Z7 ?_))));intro _ _ _ H
 have H:=H.blkAcc 3 (k:=0) (n:=0) rfl rfl (by decide)
 refine aG Z (q3 (W_seq (q2 (aG Z (q3 (W_block ?_))))))
 refine W_lp (hf:=(Sub.cons (t:=0) Z (Sub.cons (t:=2) Z Sub.nil))) (J:=fun M w m=>∃(v:Value) (n:Nat) (cs:List Value) (xs:List (BItem)) (k:Nat) (G:PH),M=[(4,.int .i64 (k:Int)),(3,v)]∧PLe G0 G∧Hp w0 G0 [] w G [acc 41 3 v n cs]∧(Chk itemE 3 G cs xs∧n=xs.length∧k≤list.length∧xs.length=k∧xs=list.take k)∧m=(list.length-k)) (h0:=⟨_,_,_,[],0,_,Z,PLe.refl _,H,?inv,Z⟩) (round:=?round)
 case inv=>exact⟨(Chk.nil (E:=itemE) (sz:=3) (G:=G0)),by first|rfl|simp|(simp;omega)|omega,(by simp)⟩
 case round =>
  rintro _ _ _ ⟨v,n,cs,xs,k,_,rfl,hle2,H,hinv2,rfl⟩
  have hlist:=hlist.up hle2
  obtain⟨hchk2_0,_,hinv2⟩:=hinv2
  obtain⟨_,_,rfl⟩:=H.accShape (k:=0) rfl
  obtain⟨_,hxl,hxs⟩:=hinv2
  refine W_seq (q2 (pe 2 Z (lN Z (pe 1 Z (q3 ?_)))))
  refine W_cond Z ?_ ?_
  ·intro hc3
   try simp only[nrm]at hc3
   refine W_skip (N_K (W_seq (W_block (W_region (pe 3 Z (iP k hlist Z3 Z ?_))))));intro _ _ z4 _ hz4 hE4 hrow4
   obtain⟨_,_,_,rfl,hi4,hr4,_,_⟩:=ox hE4
   refine o_loadagg_P H isAgg41 sizeOf41 Z Z hrow4 Z (xc Z2 (l5Copy_c _ _ H.sub _ _ ⟨_,_,_,Z,hi4,hr4⟩) ?_)
   rintro _ _ ⟨_,_,g5,rfl,_,rfl,hr5_0⟩
   have H:=H.grow g5
   have hchk2_0:=hchk2_0.up g5.le
   have hle2:=hle2.trans g5.le
   obtain⟨_,_,_,rfl,hi6,hr6,_,_⟩:=ox hr5_0
   refine⟨_,Z,?_⟩
   refine xbs H Z7 ?_;intro _ _ _ H
   refine o_append1 0 H (sz:=3) (bytes:=48) underlying24 typeInfo41 ⟨_,Z,Z⟩ Z Z Z Z Z Z Z Z Z Z oM Z ?_;intro _ _ H
   have hchk8:=hchk2_0.snoc (show itemE _ z4 _ from⟨_,_,_,rfl,hi6,hr6⟩) rfl
   obtain⟨_,_,rfl⟩:=H.accShape (k:=0) rfl
   refine aG Z (R_nil (N_B (N_K (W_region (mV Z (aD Z2 (aG Z (R_nil ?_))))))))
   refine N_lp (hJ:=⟨_,_,_,(xs++[z4]),k+1,_,Z,hle2,H,?inv,Z⟩) (hm:=?hm)
   case hm=>omega
   case inv=>exact⟨hchk8,aN,(by exact⟨by omega,by simp[hxl],by rw[Sp.take_succ' hz4,hxs]⟩)⟩
  intro hc3'
  try simp only[nrm]at hc3'
  refine W_exit (N_K_exit (N_LP_exit (N_B_same (N_K (q2 (pe 2 Z (q3 (W_ret (rt1 results94 Z ?_)))))))))
  obtain rfl:k=list.length:=by omega
  rw[List.take_length]at hxs
  subst hxs
  exact H.retO (k:=0) rfl (AccOf.mk (by assumption) hchk2_0) (acc_nd _ _ _ _ _)
theorem l12Copy_c (w0:World)(G0:PH)(hG:PSub G0 w0)(cd:List Value)(d:BDisk)(hd:diskE G0 d cd) :
  Calls Tryz.prog 42 #[.agg cd.toArray] w0 (RetO w0 G0 (fun G val r=>∃u u1 u2,val= .agg #[u,u1,u2]∧AccOf snapE 2 67 d.snaps G u2 r∧RdH G u d.store∧RdItems G u1 d.tree)):=by
 obtain⟨_,_,_,_,_,_,_,_,_,rfl,hr1,hr1',hr1'',⟨_,_⟩,⟨_,_⟩,_,_⟩:=ox hd
 have H:=Hp.init hG
 refine calls_of_W (l:=[_]) func42 Z ntmps42 Z (q2 (o_box H Z Z Z ?_));intro b2 _ _ H
 refine xal H Z ?_;intro b3 _ _ H
 refine q3 ?_
 obtain⟨ljb3,hljb3,H⟩:=H.name (k:=0) rfl
 obtain⟨ljb2,hljb2,H⟩:=H.name (k:=1) rfl
 have hj4:=PLe.refl G0
 refine W_join (hf:=(Sub.cons (t:=1) Z (Sub.cons (t:=2) Z Sub.nil))) (J:=fun M w=>∃(jb:Nat) (ja jc:Option Addr) (jm jk jn jl:Nat) (ve:Value) (ce:List Value) (ne:Nat) (G:PH),M=[(3,.pointer (some ⟨jb,0,none⟩))]∧PLe G0 G∧Hp w0 G0 [] w G [acc 67 2 ve ne ce,blk jb (cl [.slice ja jm jk,.slice jc jn jl,ve] 27),blk b3 (cl ljb3 27),blk b2 (cl ljb2 27)]∧(RdH G (.slice ja jm jk) d.store∧RdItems G (.slice jc jn jl) d.tree∧Chk snapE 2 G ce ([]:List BSnap)∧ne=0)) (first:=?_) (second:=?_)
 ·skip
  subst hljb3
  subst hljb2
  refine W_drawK [0,1] 10 H kR Z ?_;intro _ H;have hd5:=PLe.refl G0
  refine dF 0 0 Z2 (dB 1 1 Z4 (dF 3 1 Z2 (dB 4 1 Z4 ?_)))
  refine RD_run [2,6,8] kR Z (RDs.cons Z ?_ (RDs.cons Z ?_ (RDs.cons Z ?_ RDs.nil)))
  ·skip
   refine xc Z2 (l3Copy_c _ _ H.sub _ _ hr1) ?_
   rintro _ _ ⟨_,_,_,g6,rfl,⟨_,rfl,hchk6⟩,hp6,hq6,hs6⟩
   have H:=H.growO g6 hp6 hq6 hs6;obtain⟨_,_,rfl⟩:=H.accShape (k:=0) rfl
   have hr1':=hr1'.up g6.le
   have hj4:=hj4.trans g6.le
   have hd5:=hd5.trans g6.le
   refine⟨_,Z,?_⟩
   refine q4 H hd5 ?_
   refine RD_run [5,6,8] kR Z (RDs.cons Z ?_ (RDs.cons Z ?_ (RDs.cons Z ?_ RDs.nil)))
   ·skip
    refine xc Z2 (l5All_c _ _ H.sub _ _ hr1') ?_
    rintro _ _ ⟨_,_,_,g7,rfl,⟨_,rfl,hchk7⟩,hp7,hq7,hs7⟩
    have H:=H.growO g7 hp7 hq7 hs7;obtain⟨_,_,rfl⟩:=H.accShape (k:=0) rfl
    have hchk6:=hchk6.up g7.le
    have hj4:=hj4.trans g7.le
    have hd5:=hd5.trans g7.le
    refine⟨_,Z,?_⟩
    refine q4 H hd5 ?_
    refine r2 6 8 Z2 ?_ ?_
    ·skip
     refine xbs H Z7 ?_;intro _ _ _ H
     have H:=H.blkAcc 2 (k:=0) (n:=0) rfl rfl (by decide)
     refine q4 H hd5 (RD_t 7 Z kR Z (fun _ hK=>v_build bf27 Z Z) (r1 8 Z (xal H Z ?_)));intro _ _ _ H
     refine q4 H hd5 (r1 9 Z (xst 0 H Z8 ?_));intro _ H
     refine R_nil (N_DKlast kR kR ?_)
     obtain⟨_,H,hsg512,hsr512⟩:=H.shut' (k:=3) rfl hchk6 aN aN
     have hchk7:=hchk7.up hsg512
     have hj4:=hj4.trans hsg512
     obtain⟨G513,H,hsg513,hsr513⟩:=H.shut' (k:=2) rfl hchk7 aN aN
     have hsr512:=hsr512.up hsg513
     have hj4:=hj4.trans hsg513
     have H:=H.tF 3
     have H:=H.tF 3
     have H:=H.tF 2
     have H:=H.tF 3
     exact N_J ⟨_,_,_,_,_,_,_,_,_,_,_,Z,hj4,H,⟨hsr512,hsr513,(Chk.nil (E:=snapE) (sz:=2) (G:=G513)),Z⟩⟩
    skip
    refine xal H Z ?_;intro _ _ _ H
    refine q4 H hd5 (r1 6 Z (xbs H Z7 ?_));intro _ _ _ H
    have H:=H.blkAcc 2 (k:=0) (n:=0) rfl rfl (by decide)
    refine q4 H hd5 (RD_t 7 Z kR Z (fun _ hK=>v_build bf27 Z Z) (r1 9 Z (xst 1 H Z8 ?_)));intro _ H
    refine R_nil (N_DKlast kR kR ?_)
    obtain⟨_,H,hsg517,hsr517⟩:=H.shut' (k:=3) rfl hchk6 aN aN
    have hchk7:=hchk7.up hsg517
    have hj4:=hj4.trans hsg517
    obtain⟨G518,H,hsg518,hsr518⟩:=H.shut' (k:=2) rfl hchk7 aN aN
    have hsr517:=hsr517.up hsg518
    have hj4:=hj4.trans hsg518
    have H:=H.tF 3
    have H:=H.tF 3
    have H:=H.tF 3
    have H:=H.tF 3
    exact N_J ⟨_,_,_,_,_,_,_,_,_,_,_,Z,hj4,H,⟨hsr517,hsr518,(Chk.nil (E:=snapE) (sz:=2) (G:=G518)),Z⟩⟩
   ·skip
    refine xbs H Z7 ?_;intro _ _ _ H
    have H:=H.blkAcc 2 (k:=0) (n:=0) rfl rfl (by decide)
    refine q4 H hd5 ?_
    refine r2 5 8 Z2 ?_ ?_
    ·skip
     refine xc Z2 (l5All_c _ _ H.sub _ _ hr1') ?_
     rintro _ _ ⟨_,_,_,g15,rfl,⟨_,rfl,hchk15⟩,hp15,hq15,hs15⟩
     have H:=H.growO g15 hp15 hq15 hs15;obtain⟨_,_,rfl⟩:=H.accShape (k:=0) rfl
     have hchk6:=hchk6.up g15.le
     have hj4:=hj4.trans g15.le
     have hd5:=hd5.trans g15.le
     refine⟨_,Z,?_⟩
     refine q4 H hd5 (RD_t 7 Z kR Z (fun _ hK=>v_build bf27 Z Z) (r1 8 Z (xal H Z ?_)));intro _ _ _ H
     refine q4 H hd5 (r1 9 Z (xst 0 H Z8 ?_));intro _ H
     refine R_nil (N_DKlast kR kR ?_)
     obtain⟨_,H,hsg523,hsr523⟩:=H.shut' (k:=3) rfl hchk6 aN aN
     have hchk15:=hchk15.up hsg523
     have hj4:=hj4.trans hsg523
     obtain⟨G524,H,hsg524,hsr524⟩:=H.shut' (k:=1) rfl hchk15 aN aN
     have hsr523:=hsr523.up hsg524
     have hj4:=hj4.trans hsg524
     have H:=H.tF 3
     have H:=H.tF 3
     have H:=H.tF 2
     have H:=H.tF 3
     exact N_J ⟨_,_,_,_,_,_,_,_,_,_,_,Z,hj4,H,⟨hsr523,hsr524,(Chk.nil (E:=snapE) (sz:=2) (G:=G524)),Z⟩⟩
    skip
    refine xal H Z ?_;intro _ _ _ H
    refine q4 H hd5 (r1 5 Z (xc Z2 (l5All_c _ _ H.sub _ _ hr1') ?_))
    rintro _ _ ⟨_,_,_,g19,rfl,⟨_,rfl,hchk19⟩,hp19,hq19,hs19⟩
    have H:=H.growO g19 hp19 hq19 hs19;obtain⟨_,_,rfl⟩:=H.accShape (k:=0) rfl
    have hchk6:=hchk6.up g19.le
    have hj4:=hj4.trans g19.le
    have hd5:=hd5.trans g19.le
    refine⟨_,Z,?_⟩
    refine q4 H hd5 (RD_t 7 Z kR Z (fun _ hK=>v_build bf27 Z Z) (r1 9 Z (xst 1 H Z8 ?_)));intro _ H
    refine R_nil (N_DKlast kR kR ?_)
    obtain⟨_,H,hsg528,hsr528⟩:=H.shut' (k:=3) rfl hchk6 aN aN
    have hchk19:=hchk19.up hsg528
    have hj4:=hj4.trans hsg528
    obtain⟨G529,H,hsg529,hsr529⟩:=H.shut' (k:=0) rfl hchk19 aN aN
    have hsr528:=hsr528.up hsg529
    have hj4:=hj4.trans hsg529
    have H:=H.tF 3
    have H:=H.tF 3
    have H:=H.tF 2
    have H:=H.tF 3
    exact N_J ⟨_,_,_,_,_,_,_,_,_,_,_,Z,hj4,H,⟨hsr528,hsr529,(Chk.nil (E:=snapE) (sz:=2) (G:=G529)),Z⟩⟩
   skip
   refine xal H Z ?_;intro _ _ _ H
   refine q4 H hd5 ?_
   refine r2 5 6 Z2 ?_ ?_
   ·skip
    refine xc Z2 (l5All_c _ _ H.sub _ _ hr1') ?_
    rintro _ _ ⟨_,_,_,g22,rfl,⟨_,rfl,hchk22⟩,hp22,hq22,hs22⟩
    have H:=H.growO g22 hp22 hq22 hs22;obtain⟨_,_,rfl⟩:=H.accShape (k:=0) rfl
    have hchk6:=hchk6.up g22.le
    have hj4:=hj4.trans g22.le
    have hd5:=hd5.trans g22.le
    refine⟨_,Z,?_⟩
    refine q4 H hd5 (r1 6 Z (xbs H Z7 ?_));intro _ _ _ H
    have H:=H.blkAcc 2 (k:=0) (n:=0) rfl rfl (by decide)
    refine q4 H hd5 (RD_t 7 Z kR Z (fun _ hK=>v_build bf27 Z Z) (r1 9 Z (xst 2 H Z8 ?_)));intro _ H
    refine R_nil (N_DKlast kR kR ?_)
    obtain⟨_,H,hsg534,hsr534⟩:=H.shut' (k:=3) rfl hchk6 aN aN
    have hchk22:=hchk22.up hsg534
    have hj4:=hj4.trans hsg534
    obtain⟨G535,H,hsg535,hsr535⟩:=H.shut' (k:=1) rfl hchk22 aN aN
    have hsr534:=hsr534.up hsg535
    have hj4:=hj4.trans hsg535
    have H:=H.tF 3
    have H:=H.tF 3
    have H:=H.tF 3
    have H:=H.tF 3
    exact N_J ⟨_,_,_,_,_,_,_,_,_,_,_,Z,hj4,H,⟨hsr534,hsr535,(Chk.nil (E:=snapE) (sz:=2) (G:=G535)),Z⟩⟩
   skip
   refine xbs H Z7 ?_;intro _ _ _ H
   have H:=H.blkAcc 2 (k:=0) (n:=0) rfl rfl (by decide)
   refine q4 H hd5 (r1 5 Z (xc Z2 (l5All_c _ _ H.sub _ _ hr1') ?_))
   rintro _ _ ⟨_,_,_,g26,rfl,⟨_,rfl,hchk26⟩,hp26,hq26,hs26⟩
   have H:=H.growO g26 hp26 hq26 hs26;obtain⟨_,_,rfl⟩:=H.accShape (k:=0) rfl
   have hchk6:=hchk6.up g26.le
   have hj4:=hj4.trans g26.le
   have hd5:=hd5.trans g26.le
   refine⟨_,Z,?_⟩
   refine q4 H hd5 (RD_t 7 Z kR Z (fun _ hK=>v_build bf27 Z Z) (r1 9 Z (xst 2 H Z8 ?_)));intro _ H
   refine R_nil (N_DKlast kR kR ?_)
   obtain⟨_,H,hsg539,hsr539⟩:=H.shut' (k:=3) rfl hchk6 aN aN
   have hchk26:=hchk26.up hsg539
   have hj4:=hj4.trans hsg539
   obtain⟨G540,H,hsg540,hsr540⟩:=H.shut' (k:=0) rfl hchk26 aN aN
   have hsr539:=hsr539.up hsg540
   have hj4:=hj4.trans hsg540
   have H:=H.tF 3
   have H:=H.tF 3
   have H:=H.tF 3
   have H:=H.tF 3
   exact N_J ⟨_,_,_,_,_,_,_,_,_,_,_,Z,hj4,H,⟨hsr539,hsr540,(Chk.nil (E:=snapE) (sz:=2) (G:=G540)),Z⟩⟩
  ·skip
   refine xbs H Z7 ?_;intro _ _ _ H
   have H:=H.blkAcc 2 (k:=0) (n:=0) rfl rfl (by decide)
   refine q4 H hd5 ?_
   refine r2 2 8 Z2 ?_ ?_
   ·skip
    refine xc Z2 (l3Copy_c _ _ H.sub _ _ hr1) ?_
    rintro _ _ ⟨_,_,_,g29,rfl,⟨_,rfl,hchk29⟩,hp29,hq29,hs29⟩
    have H:=H.growO g29 hp29 hq29 hs29;obtain⟨_,_,rfl⟩:=H.accShape (k:=0) rfl
    have hr1':=hr1'.up g29.le
    have hj4:=hj4.trans g29.le
    have hd5:=hd5.trans g29.le
    refine⟨_,Z,?_⟩
    refine q4 H hd5 ?_
    refine r2 5 8 Z2 ?_ ?_
    ·skip
     refine xc Z2 (l5All_c _ _ H.sub _ _ hr1') ?_
     rintro _ _ ⟨_,_,_,g30,rfl,⟨_,rfl,hchk30⟩,hp30,hq30,hs30⟩
     have H:=H.growO g30 hp30 hq30 hs30;obtain⟨_,_,rfl⟩:=H.accShape (k:=0) rfl
     have hchk29:=hchk29.up g30.le
     have hj4:=hj4.trans g30.le
     have hd5:=hd5.trans g30.le
     refine⟨_,Z,?_⟩
     refine q4 H hd5 (RD_t 7 Z kR Z (fun _ hK=>v_build bf27 Z Z) (r1 8 Z (xal H Z ?_)));intro _ _ _ H
     refine q4 H hd5 (r1 9 Z (xst 0 H Z8 ?_));intro _ H
     refine R_nil (N_DKlast kR kR ?_)
     obtain⟨_,H,hsg546,hsr546⟩:=H.shut' (k:=2) rfl hchk29 aN aN
     have hchk30:=hchk30.up hsg546
     have hj4:=hj4.trans hsg546
     obtain⟨G547,H,hsg547,hsr547⟩:=H.shut' (k:=1) rfl hchk30 aN aN
     have hsr546:=hsr546.up hsg547
     have hj4:=hj4.trans hsg547
     have H:=H.tF 3
     have H:=H.tF 3
     have H:=H.tF 2
     have H:=H.tF 3
     exact N_J ⟨_,_,_,_,_,_,_,_,_,_,_,Z,hj4,H,⟨hsr546,hsr547,(Chk.nil (E:=snapE) (sz:=2) (G:=G547)),Z⟩⟩
    skip
    refine xal H Z ?_;intro _ _ _ H
    refine q4 H hd5 (r1 5 Z (xc Z2 (l5All_c _ _ H.sub _ _ hr1') ?_))
    rintro _ _ ⟨_,_,_,g34,rfl,⟨_,rfl,hchk34⟩,hp34,hq34,hs34⟩
    have H:=H.growO g34 hp34 hq34 hs34;obtain⟨_,_,rfl⟩:=H.accShape (k:=0) rfl
    have hchk29:=hchk29.up g34.le
    have hj4:=hj4.trans g34.le
    have hd5:=hd5.trans g34.le
    refine⟨_,Z,?_⟩
    refine q4 H hd5 (RD_t 7 Z kR Z (fun _ hK=>v_build bf27 Z Z) (r1 9 Z (xst 1 H Z8 ?_)));intro _ H
    refine R_nil (N_DKlast kR kR ?_)
    obtain⟨_,H,hsg551,hsr551⟩:=H.shut' (k:=2) rfl hchk29 aN aN
    have hchk34:=hchk34.up hsg551
    have hj4:=hj4.trans hsg551
    obtain⟨G552,H,hsg552,hsr552⟩:=H.shut' (k:=0) rfl hchk34 aN aN
    have hsr551:=hsr551.up hsg552
    have hj4:=hj4.trans hsg552
    have H:=H.tF 3
    have H:=H.tF 3
    have H:=H.tF 2
    have H:=H.tF 3
    exact N_J ⟨_,_,_,_,_,_,_,_,_,_,_,Z,hj4,H,⟨hsr551,hsr552,(Chk.nil (E:=snapE) (sz:=2) (G:=G552)),Z⟩⟩
   skip
   refine xal H Z ?_;intro _ _ _ H
   refine q4 H hd5 (r1 2 Z (xc Z2 (l3Copy_c _ _ H.sub _ _ hr1) ?_))
   rintro _ _ ⟨_,_,_,g37,rfl,⟨_,rfl,hchk37⟩,hp37,hq37,hs37⟩
   have H:=H.growO g37 hp37 hq37 hs37;obtain⟨_,_,rfl⟩:=H.accShape (k:=0) rfl
   have hr1':=hr1'.up g37.le
   have hj4:=hj4.trans g37.le
   have hd5:=hd5.trans g37.le
   refine⟨_,Z,?_⟩
   refine q4 H hd5 (r1 5 Z (xc Z2 (l5All_c _ _ H.sub _ _ hr1') ?_))
   rintro _ _ ⟨_,_,_,g38,rfl,⟨_,rfl,hchk38⟩,hp38,hq38,hs38⟩
   have H:=H.growO g38 hp38 hq38 hs38;obtain⟨_,_,rfl⟩:=H.accShape (k:=0) rfl
   have hchk37:=hchk37.up g38.le
   have hj4:=hj4.trans g38.le
   have hd5:=hd5.trans g38.le
   refine⟨_,Z,?_⟩
   refine q4 H hd5 (RD_t 7 Z kR Z (fun _ hK=>v_build bf27 Z Z) (r1 9 Z (xst 2 H Z8 ?_)));intro _ H
   refine R_nil (N_DKlast kR kR ?_)
   obtain⟨_,H,hsg557,hsr557⟩:=H.shut' (k:=1) rfl hchk37 aN aN
   have hchk38:=hchk38.up hsg557
   have hj4:=hj4.trans hsg557
   obtain⟨G558,H,hsg558,hsr558⟩:=H.shut' (k:=0) rfl hchk38 aN aN
   have hsr557:=hsr557.up hsg558
   have hj4:=hj4.trans hsg558
   have H:=H.tF 3
   have H:=H.tF 3
   have H:=H.tF 2
   have H:=H.tF 3
   exact N_J ⟨_,_,_,_,_,_,_,_,_,_,_,Z,hj4,H,⟨hsr557,hsr558,(Chk.nil (E:=snapE) (sz:=2) (G:=G558)),Z⟩⟩
  skip
  refine xal H Z ?_;intro _ _ _ H
  refine q4 H hd5 ?_
  refine r2 2 6 Z2 ?_ ?_
  ·skip
   refine xc Z2 (l3Copy_c _ _ H.sub _ _ hr1) ?_
   rintro _ _ ⟨_,_,_,g41,rfl,⟨_,rfl,hchk41⟩,hp41,hq41,hs41⟩
   have H:=H.growO g41 hp41 hq41 hs41;obtain⟨_,_,rfl⟩:=H.accShape (k:=0) rfl
   have hr1':=hr1'.up g41.le
   have hj4:=hj4.trans g41.le
   have hd5:=hd5.trans g41.le
   refine⟨_,Z,?_⟩
   refine q4 H hd5 ?_
   refine r2 5 6 Z2 ?_ ?_
   ·skip
    refine xc Z2 (l5All_c _ _ H.sub _ _ hr1') ?_
    rintro _ _ ⟨_,_,_,g42,rfl,⟨_,rfl,hchk42⟩,hp42,hq42,hs42⟩
    have H:=H.growO g42 hp42 hq42 hs42;obtain⟨_,_,rfl⟩:=H.accShape (k:=0) rfl
    have hchk41:=hchk41.up g42.le
    have hj4:=hj4.trans g42.le
    have hd5:=hd5.trans g42.le
    refine⟨_,Z,?_⟩
    refine q4 H hd5 (r1 6 Z (xbs H Z7 ?_));intro _ _ _ H
    have H:=H.blkAcc 2 (k:=0) (n:=0) rfl rfl (by decide)
    refine q4 H hd5 (RD_t 7 Z kR Z (fun _ hK=>v_build bf27 Z Z) (r1 9 Z (xst 3 H Z8 ?_)));intro _ H
    refine R_nil (N_DKlast kR kR ?_)
    obtain⟨_,H,hsg564,hsr564⟩:=H.shut' (k:=2) rfl hchk41 aN aN
    have hchk42:=hchk42.up hsg564
    have hj4:=hj4.trans hsg564
    obtain⟨G565,H,hsg565,hsr565⟩:=H.shut' (k:=1) rfl hchk42 aN aN
    have hsr564:=hsr564.up hsg565
    have hj4:=hj4.trans hsg565
    have H:=H.tF 3
    have H:=H.tF 3
    have H:=H.tF 3
    have H:=H.tF 3
    exact N_J ⟨_,_,_,_,_,_,_,_,_,_,_,Z,hj4,H,⟨hsr564,hsr565,(Chk.nil (E:=snapE) (sz:=2) (G:=G565)),Z⟩⟩
   skip
   refine xbs H Z7 ?_;intro _ _ _ H
   have H:=H.blkAcc 2 (k:=0) (n:=0) rfl rfl (by decide)
   refine q4 H hd5 (r1 5 Z (xc Z2 (l5All_c _ _ H.sub _ _ hr1') ?_))
   rintro _ _ ⟨_,_,_,g46,rfl,⟨_,rfl,hchk46⟩,hp46,hq46,hs46⟩
   have H:=H.growO g46 hp46 hq46 hs46;obtain⟨_,_,rfl⟩:=H.accShape (k:=0) rfl
   have hchk41:=hchk41.up g46.le
   have hj4:=hj4.trans g46.le
   have hd5:=hd5.trans g46.le
   refine⟨_,Z,?_⟩
   refine q4 H hd5 (RD_t 7 Z kR Z (fun _ hK=>v_build bf27 Z Z) (r1 9 Z (xst 3 H Z8 ?_)));intro _ H
   refine R_nil (N_DKlast kR kR ?_)
   obtain⟨_,H,hsg569,hsr569⟩:=H.shut' (k:=2) rfl hchk41 aN aN
   have hchk46:=hchk46.up hsg569
   have hj4:=hj4.trans hsg569
   obtain⟨G570,H,hsg570,hsr570⟩:=H.shut' (k:=0) rfl hchk46 aN aN
   have hsr569:=hsr569.up hsg570
   have hj4:=hj4.trans hsg570
   have H:=H.tF 3
   have H:=H.tF 3
   have H:=H.tF 3
   have H:=H.tF 3
   exact N_J ⟨_,_,_,_,_,_,_,_,_,_,_,Z,hj4,H,⟨hsr569,hsr570,(Chk.nil (E:=snapE) (sz:=2) (G:=G570)),Z⟩⟩
  skip
  refine xbs H Z7 ?_;intro _ _ _ H
  have H:=H.blkAcc 2 (k:=0) (n:=0) rfl rfl (by decide)
  refine q4 H hd5 (r1 2 Z (xc Z2 (l3Copy_c _ _ H.sub _ _ hr1) ?_))
  rintro _ _ ⟨_,_,_,g49,rfl,⟨_,rfl,hchk49⟩,hp49,hq49,hs49⟩
  have H:=H.growO g49 hp49 hq49 hs49;obtain⟨_,_,rfl⟩:=H.accShape (k:=0) rfl
  have hr1':=hr1'.up g49.le
  have hj4:=hj4.trans g49.le
  have hd5:=hd5.trans g49.le
  refine⟨_,Z,?_⟩
  refine q4 H hd5 (r1 5 Z (xc Z2 (l5All_c _ _ H.sub _ _ hr1') ?_))
  rintro _ _ ⟨_,_,_,g50,rfl,⟨_,rfl,hchk50⟩,hp50,hq50,hs50⟩
  have H:=H.growO g50 hp50 hq50 hs50;obtain⟨_,_,rfl⟩:=H.accShape (k:=0) rfl
  have hchk49:=hchk49.up g50.le
  have hj4:=hj4.trans g50.le
  have hd5:=hd5.trans g50.le
  refine⟨_,Z,?_⟩
  refine q4 H hd5 (RD_t 7 Z kR Z (fun _ hK=>v_build bf27 Z Z) (r1 9 Z (xst 3 H Z8 ?_)));intro _ H
  refine R_nil (N_DKlast kR kR ?_)
  obtain⟨_,H,hsg575,hsr575⟩:=H.shut' (k:=1) rfl hchk49 aN aN
  have hchk50:=hchk50.up hsg575
  have hj4:=hj4.trans hsg575
  obtain⟨G576,H,hsg576,hsr576⟩:=H.shut' (k:=0) rfl hchk50 aN aN
  have hsr575:=hsr575.up hsg576
  have hj4:=hj4.trans hsg576
  have H:=H.tF 3
  have H:=H.tF 3
  have H:=H.tF 3
  have H:=H.tF 3
  exact N_J ⟨_,_,_,_,_,_,_,_,_,_,_,Z,hj4,H,⟨hsr575,hsr576,(Chk.nil (E:=snapE) (sz:=2) (G:=G576)),Z⟩⟩
 rintro _ _ ⟨jb,ja,jc,jm,jk,jn,jl,ve,ce,ne,G4,rfl,hle4,H,hinv4⟩
 subst hljb3
 subst hljb2
 have hr1'':=hr1''.up hle4
 obtain⟨hja,hjb,hjc,rfl⟩:=hinv4;obtain⟨_,_,rfl⟩:=H.accShape (k:=0) rfl
 refine W_seq (q2 (aG Z (q3 (W_block ?_))))
 obtain⟨ln52,hln52,H⟩:=H.nameAt (k:=1) (off:=2) rfl rfl
 obtain⟨ln53,hln53,H⟩:=H.name (k:=2) rfl
 obtain⟨ln54,hln54,H⟩:=H.name (k:=3) rfl
 refine W_lp (hf:=(Sub.cons (t:=1) Z (Sub.cons (t:=2) Z (Sub.cons (t:=3) Z Sub.nil)))) (J:=fun M w m=>∃(v:Value) (n:Nat) (cs:List Value) (xs:List (BSnap)) (k:Nat) (G:PH),M=[(4,.int .i64 (k:Int))]∧PLe G4 G∧Hp w0 G0 [] w G [acc 67 2 v n cs,blk jb (cl (setN ln52 2 v) 27),blk b3 (cl ln53 27),blk b2 (cl ln54 27)]∧(Chk snapE 2 G cs xs∧n=xs.length∧k≤d.snaps.length∧xs.length=k∧xs=d.snaps.take k)∧m=(d.snaps.length-k)) (h0:=⟨_,_,_,[],0,_,Z,PLe.refl _,H,?inv,Z⟩) (round:=?round)
 case inv=>exact⟨hjc,by first|rfl|simp|(simp;omega)|omega,(by simp)⟩
 case round =>
  rintro _ _ _ ⟨v,n,cs,xs,k,G55,rfl,hle55,H,hinv55,rfl⟩
  subst hln52
  subst hln53
  subst hln54
  have hr1'':=hr1''.up hle55
  have hja:=hja.up hle55
  have hjb:=hjb.up hle55
  obtain⟨hchk55_0,_,hinv55⟩:=hinv55
  obtain⟨_,_,rfl⟩:=H.accShape (k:=0) rfl
  obtain⟨_,hxl,hxs⟩:=hinv55
  refine W_seq (q2 (mV Z (fA 2 Z (lB 3 H Z3 (lN Z (pe 1 Z (q3 ?_)))))))
  refine W_cond Z ?_ ?_
  ·intro hc56
   try simp only[nrm]at hc56
   refine W_skip (N_K (W_seq (W_block (W_drawK [1,2,3] 20 H kR Z ?_))));intro _ H;have hd57:=PLe.refl G55
   refine dF 0 2 Z2 (dB 1 0 Z4 (dF 2 2 Z2 (dB 3 2 Z4 (dE 4 Z2 ?_))))
   have hl58:=hr1''.len
   obtain⟨_,_,z58,_,ha58,hz58,hq58,hE58,hrow58,_⟩:=hr1''.at (i:=k) oM
   clear hq58
   obtain⟨_,_,_,rfl,hi58,hr58,_,_⟩:=ox hE58
   refine dI 5 2 k ha58 Z3 Z (dF 6 0 Z2 (dP 7 hrow58 0 Z3 (dF 8 2 Z2 (dB 9 2 Z4 (dE 10 Z2 ?_)))))
   have hl59:=hr1''.len
   obtain⟨_,_,z59,_,ha59,hz59,hq59,hE59,hrow59,_⟩:=hr1''.at (i:=k) oM
   clear hq59
   obtain⟨_,_,_,rfl,_,hr59,_,_⟩:=ox hE59
   have hzz59:z58=z59:=Option.some.inj (hz58.symm.trans hz59)
   subst hzz59
   refine dI 11 2 k ha59 Z3 Z (dF 12 1 Z2 (dP 13 hrow59 1 Z3 (r1 14 Z (xc Z2 (l5All_c _ _ H.sub _ _ hr59) ?_))))
   rintro _ _ ⟨_,_,_,g60,rfl,⟨_,rfl,hchk60⟩,hp60,hq60,hs60⟩
   have H:=H.growO g60 hp60 hq60 hs60;obtain⟨_,_,rfl⟩:=H.accShape (k:=0) rfl
   have hchk55_0:=hchk55_0.up g60.le
   have hle55:=hle55.trans g60.le
   have hd57:=hd57.trans g60.le
   refine⟨_,Z,?_⟩
   refine q4 H hd57 (RD_t 15 Z kR Z (fun _ hK=>v_build bf67 Z Z) (r1 16 Z (xbs H Z7 ?_)));intro _ _ _ H
   refine q4 H hd57 (r1 17 Z (o_append1 1 H (sz:=2) (bytes:=40) underlying25 typeInfo67 ⟨_,Z,Z⟩ Z Z Z Z Z Z Z Z Z Z oM Z ?_));intro _ _ H
   obtain⟨_,H,hsg63,hsr63⟩:=H.shut' (k:=0) rfl hchk60 aN aN
   have hchk55_0:=hchk55_0.up hsg63
   have hle55:=hle55.trans hsg63
   have hd57:=hd57.trans hsg63
   have hchk62:=hchk55_0.snoc (show snapE _ ⟨z58.name,z58.tree⟩ _ from⟨_,_,_,rfl,hi58,hsr63⟩) rfl
   obtain⟨_,_,rfl⟩:=H.accShape (k:=0) rfl
   refine q4 H hd57 (dF 18 2 Z2 (r1 19 Z (xst 1 H Z8 ?_)));intro _ H
   refine R_nil (N_DKlast kR kR (N_B (N_K (W_region (mV Z (aD Z2 (aG Z (R_nil ?_))))))))
   refine N_lp (hJ:=⟨_,_,_,(xs++[⟨z58.name,z58.tree⟩]),k+1,_,Z,hle55,H,?inv,Z⟩) (hm:=?hm)
   case hm=>omega
   case inv=>exact⟨hchk62,aN,(by exact⟨by omega,by simp[hxl],by rw[Sp.take_succ' hz58,hxs]⟩)⟩
  intro hc56'
  try simp only[nrm]at hc56'
  refine W_exit (N_K_exit (N_LP_exit (N_B_same (N_K (q2 (lA 1 3 H Z4 (xst 2 H Z8 ?_)))))));intro _ H
  refine q3 (W_ret (ret_gen (rs:=[.cell 2 27]) (vs:=[_]) results42 ⟨⟨_,Z,load_blk 2 H isAgg27 sizeOf27 Z Z Z⟩,trivial⟩ ?_))
  obtain rfl:k=d.snaps.length:=by omega
  rw[List.take_length]at hxs
  subst hxs
  exact H.retO (k:=0) Z ⟨_,_,_,Z,AccOf.mk aN hchk55_0,hja,hjb⟩ (acc_nd _ _ _ _ _)
theorem StoreKeep_c (w0:World)(G0:PH)(hG:PSub G0 w0)(vlist:Value)(list:List (BHeld))(hlist:RdH G0 vlist list)(id:Int) :
  Calls Tryz.prog 153 #[vlist,.int .i64 id] w0 (RetO w0 G0 (fun G v r=>∃u,v= .tuple #[u,.bool (Sp.StoreKeep list id).isSome]∧AccOf heldE 3 139 ((Sp.StoreKeep list id).getD []) G u r)):=by
 obtain⟨alist,klist,rfl⟩:=hlist.shape
 have hlimlist:list.length≤1099511627776:=hlist.lim
 have H:=Hp.init hG
 refine calls_of_W (l:=[.slice alist list.length klist,.int .i64 id]) func153 Z ntmps153 Z (q2 (pe 2 Z (q1 (pe 2 Z (xr H Z2 (l3At_c _ _ H.sub _ _ hlist _) ?_)))));intro _ H
 refine aG Z (q3 (W_seq (q2 (mV Z (xr H Z2 (StoreValid_c _ _ H.sub _ _ hlist) ?_)))));intro _ H
 refine pe 2 Z ?_
 refine R_case (t:=14) Z ?_ ?_
 ·intro hc3
  try simp only[nrm]at hc3
  refine pe 11 Z (q3 (W_true Z (q2 (xbs H Z7 ?_))));intro _ _ _ H
  have H:=H.blkAcc 3 (k:=0) (n:=0) rfl rfl (by decide)
  refine pe 2 Z (q3 (W_ret (N_K_ret (rt2 results153 Z Z ?_))))
  have hN:Sp.StoreKeep list id=none:=by simp[Sp.StoreKeep,hc3]
  exact H.retO (k:=0) rfl (by rw[hN];exact⟨_,rfl,AccOf.mk aN (Chk.nil (E:=heldE) (sz:=3) (G:=G0))⟩) (acc_nd _ _ _ _ _)
 intro hc3'
 try simp only[nrm]at hc3'
 refine pe 4 Z ?_
 refine R_case (t:=18) Z ?_ ?_
 ·intro hc5
  try simp only[nrm]at hc5
  refine pe 7 Z (q3 (W_true Z (q2 (xbs H Z7 ?_))));intro _ _ _ H
  have H:=H.blkAcc 3 (k:=0) (n:=0) rfl rfl (by decide)
  refine pe 2 Z (q3 (W_ret (N_K_ret (rt2 results153 Z Z ?_))))
  have hN:Sp.StoreKeep list id=none:=by simp[Sp.StoreKeep,Sp.atH,Sp.at_none hc5]
  exact H.retO (k:=0) rfl (by rw[hN];exact⟨_,rfl,AccOf.mk aN (Chk.nil (E:=heldE) (sz:=3) (G:=G0))⟩) (acc_nd _ _ _ _ _)
 intro hc5'
 try simp only[nrm]at hc5'
 obtain⟨i,_,hi1,hi2,_,_,_⟩:=Sp.at_nat hc5'
 have hl:Sp.atH list id=some i:=hi1
 refine pe 2 Z (gR Z (iP i hlist Z3 hi2 ?_));intro _ _ z7 _ hz7 hE7 hrow7
 obtain⟨_,_,_,rfl,_,hr7,_,_,_⟩:=ox hE7
 refine gR Z (fA 2 Z (gR Z (lP H hrow7 2 Z2 (pe 2 Z (q3 ?_)))))
 refine W_cond Z ?_ ?_
 ·intro hc8
  try simp only[nrm]at hc8
  refine q2 (xbs H Z7 ?_);intro _ _ _ H
  have H:=H.blkAcc 3 (k:=0) (n:=0) rfl rfl (by decide)
  refine pe 2 Z (q3 (W_ret (N_K_ret (rt2 results153 Z Z ?_))))
  have hN:Sp.StoreKeep list id=none:=by simp[Sp.StoreKeep,hl,hz7,hc8]
  exact H.retO (k:=0) rfl (by rw[hN];exact⟨_,rfl,AccOf.mk aN (Chk.nil (E:=heldE) (sz:=3) (G:=G0))⟩) (acc_nd _ _ _ _ _)
 intro hc8'
 try simp only[nrm]at hc8'
 refine W_skip (N_K (q2 (mV Z (xc Z2 (l3Copy_c _ _ H.sub _ _ hlist) ?_))))
 rintro _ _ ⟨_,_,_,g10,rfl,⟨_,rfl,hchk10⟩,hp10,hq10,hs10⟩
 have H:=H.growO g10 hp10 hq10 hs10;obtain⟨_,_,rfl⟩:=H.accShape (k:=0) rfl
 refine⟨_,Z,?_⟩
 refine aG Z (q1 (pe 4 Z (o_index_A 0 H i Z hchk10 underlying23 sizeOf139 Z Z Z hi2 aN aN ?_)));intro _ z11 _ hba11 hz11 hE11 hg11;cases hba11
 obtain⟨_,_,_,rfl,_,_,_,_,_⟩:=ox hE11
 have hsv:=Sp.valid_at hc3' hz11
 refine fA 2 Z (o_load_A 0 H isAgg3 Z Z Z (hg11 2 _ Z) (aD Z2 (o_index_A 0 H i Z hchk10 underlying23 sizeOf139 Z Z Z hi2 aN aN ?_)));intro _ z13 _ hba13 hz13 hE13 _;cases hba13
 obtain⟨_,_,_,rfl,_,_,_,_,_⟩:=ox hE13
 have hzz13:z11=z13:=Option.some.inj (hz11.symm.trans hz13)
 subst hzz13
 refine fA 2 Z ?_
 have hcl14:=hchk10.length
 refine o_store_A 0 H sizeOf3 Z Z Z Z Z (by simp only[vc,List.length_cons,List.length_nil];omega) ?_;intro _ H
 have hchk14:=hchk10.put (x':=⟨z11.id,z11.bytes,z11.uses+1⟩) (off:=2) (vs:=[_]) hz13 (fun cs hl hE=>by obtain⟨_,_,_,rfl,h1,h2,_⟩:=hE;exact⟨_,_,_,rfl,h1,h2,⟨by first|omega|(dsimp only;omega),by first|omega|(dsimp only;omega)⟩⟩) (by simp only[vc,List.length_cons,List.length_nil];omega)
 refine q1 (pe 3 Z (q3 (W_ret (rt2 results153 Z Z ?_))))
 have hY:Sp.StoreKeep list id=some (list.set i ⟨z11.id,z11.bytes,z11.uses+1⟩):=by (have hzz:z7=z11:=Option.some.inj (hz7.symm.trans hz11));rw[hzz]at hc8';simp[Sp.StoreKeep,hc3',hl,hz11,hc8',Sp.bump_at hz11]
 exact H.retO (k:=0) rfl (by rw[hY];exact⟨_,rfl,AccOf.mk aN hchk14⟩) (acc_nd _ _ _ _ _)
theorem StoreDrop_c (w0:World)(G0:PH)(hG:PSub G0 w0)(vlist:Value)(list:List (BHeld))(hlist:RdH G0 vlist list)(id:Int) :
  Calls Tryz.prog 166 #[vlist,.int .i64 id] w0 (RetO w0 G0 (fun G v r=>∃u,v= .tuple #[u,.bool (Sp.StoreDrop list id).isSome]∧AccOf heldE 3 139 ((Sp.StoreDrop list id).getD []) G u r)):=by
 obtain⟨alist,klist,rfl⟩:=hlist.shape
 have hlimlist:list.length≤1099511627776:=hlist.lim
 have H:=Hp.init hG
 refine calls_of_W (l:=[.slice alist list.length klist,.int .i64 id]) func166 Z ntmps166 Z (q2 (pe 2 Z (q1 (pe 2 Z (xr H Z2 (l3At_c _ _ H.sub _ _ hlist _) ?_)))));intro _ H
 refine aG Z (q3 (W_seq (q2 (mV Z (xr H Z2 (StoreValid_c _ _ H.sub _ _ hlist) ?_)))));intro _ H
 refine pe 2 Z ?_
 refine R_case (t:=14) Z ?_ ?_
 ·intro hc3
  try simp only[nrm]at hc3
  refine pe 3 Z (q3 (W_true Z (q2 (xbs H Z7 ?_))));intro _ _ _ H
  have H:=H.blkAcc 3 (k:=0) (n:=0) rfl rfl (by decide)
  refine pe 2 Z (q3 (W_ret (N_K_ret (rt2 results166 Z Z ?_))))
  have hN:Sp.StoreDrop list id=none:=by simp[Sp.StoreDrop,hc3]
  exact H.retO (k:=0) rfl (by rw[hN];exact⟨_,rfl,AccOf.mk aN (Chk.nil (E:=heldE) (sz:=3) (G:=G0))⟩) (acc_nd _ _ _ _ _)
 intro hc3'
 try simp only[nrm]at hc3'
 refine pe 3 Z (q3 ?_)
 refine W_cond Z ?_ ?_
 ·intro hc5
  try simp only[nrm]at hc5
  refine q2 (xbs H Z7 ?_);intro _ _ _ H
  have H:=H.blkAcc 3 (k:=0) (n:=0) rfl rfl (by decide)
  refine pe 2 Z (q3 (W_ret (N_K_ret (rt2 results166 Z Z ?_))))
  have hN:Sp.StoreDrop list id=none:=by simp[Sp.StoreDrop,Sp.atH,Sp.at_none hc5]
  exact H.retO (k:=0) rfl (by rw[hN];exact⟨_,rfl,AccOf.mk aN (Chk.nil (E:=heldE) (sz:=3) (G:=G0))⟩) (acc_nd _ _ _ _ _)
 intro hc5'
 try simp only[nrm]at hc5'
 obtain⟨i,_,hi1,hi2,_,_,_⟩:=Sp.at_nat hc5'
 have hi2:Sp.l3At list id=(i:Int):=hi2
 have hl:Sp.atH list id=some i:=hi1
 refine W_skip (N_K (q2 (mV Z (xc Z2 (l3Copy_c _ _ H.sub _ _ hlist) ?_))))
 rintro _ _ ⟨G7,_,_,g7,rfl,⟨_,rfl,hchk7⟩,hp7,hq7,hs7⟩
 have H:=H.growO g7 hp7 hq7 hs7;obtain⟨_,_,rfl⟩:=H.accShape (k:=0) rfl
 refine⟨_,Z,?_⟩
 refine aG Z (q3 (W_seq (q2 (pe 2 Z (o_index_A 0 H i Z hchk7 underlying23 sizeOf139 Z Z Z hi2 aN aN ?_)))));intro _ z8 _ hba8 hz8 hE8 hg8;cases hba8
 obtain⟨_,_,_,rfl,_,_,_,_,_⟩:=ox hE8
 have hsv:=Sp.valid_at hc3' hz8
 refine fA 2 Z (o_load_A 0 H isAgg3 Z Z Z (hg8 2 _ Z) (pe 1 Z (q3 ?_)))
 refine W_cond Z ?_ ?_
 ·intro hc9
  try simp only[nrm]at hc9
  refine W_seq (W_drawK [] 10 H kR Z ?_);intro _ H;have hd10:=PLe.refl G7
  refine dE 0 Z2 (dE 1 Z2 ?_)
  have hac11:=H.accCap (k:=0) rfl
  refine RD_t 2 Z kR Z (fun _ hK=>v_slice_to (j:=i) underlying23 sizeOf139 Z Z hi2 oM) (dE 3 Z2 (dE 4 Z2 (RD_t 5 Z kR Z (fun _ hK=>v_add Z Z oO) ?_)))
  have hac13:=H.accCap (k:=0) rfl
  refine RD_t 6 Z kR Z (fun _ hK=>v_slice_from (i:=(i+1)) underlying23 sizeOf139 Z Z oM oM) (r1 7 Z ?_)
  refine o_append_del 0 H i Z hchk7 (by intro _ cs hz _ hu;obtain⟨_,_,_,rfl,_⟩:=hz;simp at hu;rcases hu with rfl|rfl|rfl<;>rfl) underlying23 typeInfo139 rfl rfl rfl rfl oM aN ?_;intro _ _ hb14 H hchk14;cases hb14
  refine q4 H hd10 (dE 8 Z2 (dE 9 Z2 (rz (N_K (W_ret (N_K_ret (rt2 results166 Z Z ?_)))))))
  have hY:Sp.StoreDrop list id=some (list.take i++list.drop (i+1)):=by simp[Sp.StoreDrop,hc3',hl,hz8,hc9]
  exact H.retO (k:=0) rfl (by rw[hY];exact⟨_,rfl,AccOf.mk aN hchk14⟩) (acc_nd _ _ _ _ _)
 intro hc9'
 try simp only[nrm]at hc9'
 refine W_skip (N_K (q2 (pe 4 Z (o_index_A 0 H i Z hchk7 underlying23 sizeOf139 Z Z Z hi2 aN aN ?_))));intro _ z15 _ hba15 hz15 hE15 hg15;cases hba15
 obtain⟨_,_,_,rfl,_,_,_,_,_⟩:=ox hE15
 have hzz15:z8=z15:=Option.some.inj (hz8.symm.trans hz15)
 subst hzz15
 refine fA 2 Z (o_load_A 0 H isAgg3 Z Z Z (hg15 2 _ Z) (o_sub Z Z Z oO (o_index_A 0 H i Z hchk7 underlying23 sizeOf139 Z Z Z hi2 aN aN ?_)));intro _ z17 _ hba17 hz17 hE17 _;cases hba17
 obtain⟨_,_,_,rfl,_,_,_,_,_⟩:=ox hE17
 have hzz17:z8=z17:=Option.some.inj (hz8.symm.trans hz17)
 subst hzz17
 refine fA 2 Z ?_
 have hcl18:=hchk7.length
 refine o_store_A 0 H sizeOf3 Z Z Z Z Z (by simp only[vc,List.length_cons,List.length_nil];omega) ?_;intro _ H
 have hchk18:=hchk7.put (x':=⟨z8.id,z8.bytes,z8.uses+(-1)⟩) (off:=2) (vs:=[_]) hz17 (fun cs hl hE=>by obtain⟨_,_,_,rfl,h1,h2,_⟩:=hE;exact⟨_,_,_,rfl,h1,h2,⟨by first|omega|(dsimp only;omega),by first|omega|(dsimp only;omega)⟩⟩) (by simp only[vc,List.length_cons,List.length_nil];omega)
 refine q1 (pe 3 Z (q3 (W_ret (rt2 results166 Z Z ?_))))
 have hY:Sp.StoreDrop list id=some (list.set i ⟨z8.id,z8.bytes,z8.uses+(-1)⟩):=by simp[Sp.StoreDrop,hc3',hl,hz8,hc9',Sp.bump_at hz8]
 exact H.retO (k:=0) rfl (by rw[hY];exact⟨_,rfl,AccOf.mk aN hchk18⟩) (acc_nd _ _ _ _ _)
theorem FileFree_c (w0:World)(G0:PH)(hG:PSub G0 w0)(vlist:Value)(list:List (BHeld))(hlist:RdH G0 vlist list)(vids:Value)(ids:List (Int))(hids:RdI G0 vids ids) :
  Calls Tryz.prog 110 #[vlist,vids] w0 (RetO w0 G0 (fun G v r=>∃u,v= .tuple #[u,.bool (Sp.FileFree list ids).isSome]∧AccOf heldE 3 139 ((Sp.FileFree list ids).getD []) G u r)):=by
 obtain⟨alist,klist,rfl⟩:=hlist.shape
 have hlimlist:list.length≤1099511627776:=hlist.lim
 obtain⟨aids,kids,rfl⟩:=hids.shape
 have hlimids:ids.length≤1099511627776:=hids.lim
 have H:=Hp.init hG
 refine calls_of_W (l:=[.slice alist list.length klist,.slice aids ids.length kids]) func110 Z ntmps110 Z (q2 (pe 2 Z (q3 (W_seq (q2 (mV Z (xr H Z2 (StoreValid_c _ _ H.sub _ _ hlist) ?_)))))));intro _ H
 refine pe 2 Z ?_
 refine R_case (t:=13) Z ?_ ?_
 ·intro hc2
  try simp only[nrm]at hc2
  refine pe 5 Z (q3 (W_true Z (q2 (xbs H Z7 ?_))));intro _ _ _ H
  have H:=H.blkAcc 3 (k:=0) (n:=0) rfl rfl (by decide)
  refine pe 2 Z (q3 (W_ret (N_K_ret (rt2 results110 Z Z ?_))))
  have hN:Sp.FileFree list ids=none:=by simp[Sp.FileFree,hc2]
  exact H.retO (k:=0) rfl (by rw[hN];exact⟨_,rfl,AccOf.mk aN (Chk.nil (E:=heldE) (sz:=3) (G:=G0))⟩) (acc_nd _ _ _ _ _)
 intro hc2'
 try simp only[nrm]at hc2'
 refine pe 2 Z (gR Z (xr H Z2 (l4Ids_c _ _ H.sub _ _ hlist _ _ hids) ?_));intro _ H
 refine pe 2 Z (q3 ?_)
 refine W_cond Z ?_ ?_
 ·intro hc5
  try simp only[nrm]at hc5
  refine q2 (xbs H Z7 ?_);intro _ _ _ H
  have H:=H.blkAcc 3 (k:=0) (n:=0) rfl rfl (by decide)
  refine pe 2 Z (q3 (W_ret (N_K_ret (rt2 results110 Z Z ?_))))
  have hN:Sp.FileFree list ids=none:=by simp[Sp.FileFree,hc5]
  exact H.retO (k:=0) rfl (by rw[hN];exact⟨_,rfl,AccOf.mk aN (Chk.nil (E:=heldE) (sz:=3) (G:=G0))⟩) (acc_nd _ _ _ _ _)
 intro hc5'
 try simp only[nrm]at hc5'
 refine W_skip (N_K (q2 (mV Z (xc Z2 (l3Copy_c _ _ H.sub _ _ hlist) ?_))))
 rintro _ _ ⟨G7,_,_,g7,rfl,⟨_,rfl,hchk7⟩,hp7,hq7,hs7⟩
 have H:=H.growO g7 hp7 hq7 hs7;obtain⟨_,_,rfl⟩:=H.accShape (k:=0) rfl
 have hids:=hids.up g7.le
 refine⟨_,Z,?_⟩
 refine aG Z (q3 (W_seq (q2 (aG Z (q3 (W_block ?_))))))
 refine W_lp (hf:=(Sub.cons (t:=1) Z Sub.nil)) (J:=fun M w m=>∃(v:Value) (n:Nat) (cs:List Value) (xs:List (BHeld)) (k:Nat) (G:PH),M=[(7,.int .i64 (k:Int)),(6,v)]∧PLe G7 G∧Hp w0 G0 [] w G [acc 139 3 v n cs]∧(Chk heldE 3 G cs xs∧n=xs.length∧k≤ids.length∧xs.length≤1000∧Sp.foldB Sp.StoreDrop (ids.take k) (some list)=some xs)∧m=(ids.length-k)) (h0:=⟨_,_,_,list,0,_,Z,PLe.refl _,H,?inv,Z⟩) (round:=?round)
 case inv=>exact⟨hchk7,by first|rfl|simp|(simp;omega)|omega,(by exact⟨by omega,by have:=Sp.valid_len hc2';omega,by simp[Sp.foldB]⟩)⟩
 case round =>
  rintro _ _ _ ⟨v,n,cs,xs,k,_,rfl,hle8,H,hinv8,rfl⟩
  have hids:=hids.up hle8
  obtain⟨hchk8_0,_,hinv8⟩:=hinv8
  obtain⟨_,_,rfl⟩:=H.accShape (k:=0) rfl
  obtain⟨_,_,hf⟩:=hinv8
  refine W_seq (q2 (pe 2 Z (lN Z (pe 1 Z (q3 ?_)))))
  refine W_cond Z ?_ ?_
  ·intro hc9
   try simp only[nrm]at hc9
   refine W_skip (N_K (W_seq (W_block (q2 (pe 3 Z (iP k hids Z3 Z ?_))))));intro _ _ z10 _ hz10 hE10 hrow10
   obtain⟨rfl,_⟩:=hE10
   refine lP H hrow10 0 Z2 ?_
   obtain⟨_,H,hsg12,hsr12⟩:=H.shut' (k:=0) rfl hchk8_0 aN aN
   have hle8:=hle8.trans hsg12
   refine xc Z2 (StoreDrop_c _ _ H.sub _ _ hsr12 _) ?_
   rintro _ _ ⟨G11,_,_,g11,rfl,⟨_,rfl,⟨_,rfl,hchk11⟩⟩,hp11,hq11,hs11⟩
   have H:=H.growO g11 hp11 hq11 hs11;obtain⟨_,_,rfl⟩:=H.accShape (k:=0) rfl
   have hle8:=hle8.trans g11.le
   refine⟨_,Z,?_⟩
   refine pe 5 Z (q3 (W_seq (q2 (pe 2 Z (q3 ?_)))))
   refine W_cond Z ?_ ?_
   ·intro hc13
    try simp only[nrm]at hc13
    refine q2 (xbs H Z7 ?_);intro _ _ _ H
    have H:=H.blkAcc 3 (k:=0) (n:=0) rfl rfl (by decide)
    refine pe 2 Z (q3 (W_ret (N_K_ret (N_B_ret (N_K_ret (N_LP_ret (N_B_ret (N_K_ret (rt2 results110 Z Z ?_)))))))))
    have hN:Sp.FileFree list ids=none:=by (have hno:Sp.StoreDrop xs z10=none:=by simpa using hc13);simp only[Sp.FileFree,hc2',hc5',Bool.and_self,if_true];exact Sp.foldB_stop hf hz10 hno
    exact H.retO (k:=0) rfl (by rw[hN];exact⟨_,rfl,AccOf.mk aN (Chk.nil (E:=heldE) (sz:=3) (G:=G11))⟩) (acc_nd _ _ _ _ _)
   intro hc13'
   try simp only[nrm]at hc13'
   obtain⟨p,hsp⟩:=Option.isSome_iff_exists.1 hc13'
   rw[hsp]at H hchk11 ⊢
   dsimp only[Option.map,Option.getD]at H hchk11
   refine W_skip (N_K (W_region (pe 2 Z (R_nil (N_B (N_K (W_region (mV Z (aD Z2 (aG Z (R_nil ?_)))))))))))
   refine N_lp (hJ:=⟨_,_,_,p,k+1,_,Z,hle8,H,?inv,Z⟩) (hm:=?hm)
   case hm=>omega
   case inv=>exact⟨hchk11,aN,(by exact⟨by omega,by have:=Sp.drop_len hsp;omega,Sp.foldB_succ hf hz10 hsp⟩)⟩
  intro hc9'
  try simp only[nrm]at hc9'
  refine W_exit (N_K_exit (N_LP_exit (N_B_same (N_K (q2 (pe 3 Z (q3 (W_ret (rt2 results110 Z Z ?_)))))))))
  have hY:Sp.FileFree list ids=some xs:=by simp only[Sp.FileFree,hc2',hc5',Bool.and_self,if_true];exact Sp.foldB_all hf oM
  exact H.retO (k:=0) rfl (by rw[hY];exact⟨_,rfl,AccOf.mk aN hchk8_0⟩) (acc_nd _ _ _ _ _)
theorem TreeDrop_c (w0:World)(G0:PH)(hG:PSub G0 w0)(vlist:Value)(list:List (BItem))(hlist:RdItems G0 vlist list)(path:Bs)(hpath:path.length≤16777216) :
  Calls Tryz.prog 109 #[vlist,str path] w0 (RetP w0 G0 (fun G v=>∃u,v= .tuple #[u,.bool (Sp.TreeDrop list path).isSome]∧RdItems G u ((Sp.TreeDrop list path).getD []))):=by
 obtain⟨alist,klist,rfl⟩:=hlist.shape
 have hlimlist:list.length≤1099511627776:=hlist.lim
 have H:=Hp.init hG
 refine calls_of_W (l:=[.slice alist list.length klist,str path]) func109 Z ntmps109 Z (q2 (pe 2 Z (q1 (pe 2 Z (xr H Z2 (l5At_c _ _ H.sub _ _ hlist _ hpath) ?_)))));intro _ H
 refine aG Z (q3 (W_seq (q2 (mV Z (xr H Z2 (TreeValid_c _ _ H.sub _ _ hlist) ?_)))));intro _ H
 refine pe 2 Z ?_
 refine R_case (t:=14) Z ?_ ?_
 ·intro hc3
  try simp only[nrm]at hc3
  refine pe 3 Z (q3 (W_true Z (q2 (xbs H Z7 ?_))));intro _ _ _ H
  have H:=H.blkAcc 3 (k:=0) (n:=0) rfl rfl (by decide)
  refine pe 2 Z (q3 (W_ret (N_K_ret (rt2 results109 Z Z ?_))))
  obtain⟨_,H,hsg506,hsr506⟩:=H.shut' (k:=0) rfl (Chk.nil (E:=itemE) (sz:=3) (G:=G0)) aN aN
  have hY:Sp.TreeDrop list path=none:=by simp[Sp.TreeDrop,hc3]
  exact H.retP (by rw[hY];exact⟨_,rfl,hsr506⟩)
 intro hc3'
 try simp only[nrm]at hc3'
 refine pe 3 Z (q3 ?_)
 refine W_cond Z ?_ ?_
 ·intro hc5
  try simp only[nrm]at hc5
  refine q2 (xbs H Z7 ?_);intro _ _ _ H
  have H:=H.blkAcc 3 (k:=0) (n:=0) rfl rfl (by decide)
  refine pe 2 Z (q3 (W_ret (N_K_ret (rt2 results109 Z Z ?_))))
  obtain⟨_,H,hsg509,hsr509⟩:=H.shut' (k:=0) rfl (Chk.nil (E:=itemE) (sz:=3) (G:=G0)) aN aN
  have hY:Sp.TreeDrop list path=none:=by simp[Sp.TreeDrop,Sp.atI,Sp.at_none hc5]
  exact H.retP (by rw[hY];exact⟨_,rfl,hsr509⟩)
 intro hc5'
 try simp only[nrm]at hc5'
 obtain⟨i,_,hi1,hi2,_,_,_⟩:=Sp.at_nat hc5'
 have hi2:Sp.l5At list path=(i:Int):=hi2
 have hl:Sp.atI list path=some i:=hi1
 have htl:=Sp.tree_len hc3'
 refine W_skip (N_K (q2 (mV Z (xc Z2 (l5All_c _ _ H.sub _ _ hlist) ?_))))
 rintro _ _ ⟨G7,_,_,g7,rfl,⟨_,rfl,hchk7⟩,hp7,hq7,hs7⟩
 have H:=H.growO g7 hp7 hq7 hs7;obtain⟨_,_,rfl⟩:=H.accShape (k:=0) rfl
 refine⟨_,Z,?_⟩
 refine aG Z (q3 (W_seq (W_drawK [] 9 H kR Z ?_)));intro _ H;have hd8:=PLe.refl G7
 refine dE 0 Z2 (dE 1 Z2 ?_)
 have hac9:=H.accCap (k:=0) rfl
 refine RD_t 2 Z kR Z (fun _ hK=>v_slice_to (j:=i) underlying24 sizeOf41 Z Z hi2 oM) (dE 3 Z2 (dE 4 Z2 (RD_t 5 Z kR Z (fun _ hK=>v_add Z Z oO) ?_)))
 have hac11:=H.accCap (k:=0) rfl
 refine RD_t 6 Z kR Z (fun _ hK=>v_slice_from (i:=(i+1)) underlying24 sizeOf41 Z Z oM oM) (r1 7 Z ?_)
 refine o_append_del 0 H i Z hchk7 (by intro _ _ hz _ hu;obtain⟨_,_,_,rfl,_⟩:=hz;simp at hu;rcases hu with rfl|rfl|rfl<;>rfl) underlying24 typeInfo41 rfl rfl rfl rfl oM aN ?_;intro _ _ hb12 H hchk12;cases hb12
 refine q4 H hd8 (dE 8 Z2 (rz (N_K (W_seq (q2 (mV Z (xr H Z2 (TreeValid_c _ _ (H.lendSubL [0]) _ _ (H.lendRdL (k:=0) (ks:=[0]) Z Z hchk12 aN aN)) ?_)))))));intro _ H
 refine pe 1 Z (q3 ?_)
 refine W_cond Z ?_ ?_
 ·intro hc14
  try simp only[nrm]at hc14
  refine q2 (xbs H Z7 ?_);intro _ _ _ H
  have H:=H.blkAcc 3 (k:=0) (n:=0) rfl rfl (by decide)
  refine pe 2 Z (q3 (W_ret (N_K_ret (rt2 results109 Z Z ?_))))
  obtain⟨_,H,hsg519,hsr519⟩:=H.shut' (k:=0) rfl (Chk.nil (E:=itemE) (sz:=3) (G:=G7)) aN aN
  have hY:Sp.TreeDrop list path=none:=by simp[Sp.TreeDrop,hl,hc14]
  exact H.retP (by rw[hY];exact⟨_,rfl,hsr519⟩)
 intro hc14'
 try simp only[nrm]at hc14'
 refine W_skip (N_K (q2 (pe 3 Z (q3 (W_ret (rt2 results109 Z Z ?_))))))
 obtain⟨_,H,hsg520,hsr520⟩:=H.shut' (k:=0) rfl hchk12 aN aN
 have hY:Sp.TreeDrop list path=some (list.take i++list.drop (i+1)):=by simp[Sp.TreeDrop,hl,hc3',hc14']
 exact H.retP (by rw[hY];exact⟨_,rfl,hsr520⟩)
theorem l14Drop_c (w0:World)(G0:PH)(hG:PSub G0 w0)(cd:List Value)(d:BDisk)(hd:diskE G0 d cd)(cx:List Value)(x:BPart)(hx:partE G0 x cx)(hdv:Sp.DiskValid d=true) :
  Calls Tryz.prog 43 #[.agg cd.toArray,.agg cx.toArray] w0 (RetO w0 G0 (fun G val r=>∃u u1 u2,val= .tuple #[.agg #[u,u1,u2],.bool (Sp.l14Drop d (Sp.bare x)).isSome]∧AccOf snapE 2 67 (((Sp.l14Drop d (Sp.bare x)).map (·.snaps)).getD []) G u2 r∧RdH G u (((Sp.l14Drop d (Sp.bare x)).map (·.store)).getD [])∧RdItems G u1 (((Sp.l14Drop d (Sp.bare x)).map (·.tree)).getD []))):=by
 obtain⟨_,_,_,_,_,_,_,_,_,rfl,hr1,hr1',hr1'',⟨_,_⟩,⟨_,_⟩,_,_⟩:=ox hd
 obtain⟨_,_,_,rfl,_,hi2,hr2⟩:=hx;have hy_hi2:_≤16777216:=hi2;have hn_hr2:=hr2.len;have hx_hr2:_≤1099511627776:=hr2.lim
 have H:=Hp.init hG
 refine calls_of_W (l:=[_,_]) func43 Z ntmps43 Z (q2 (o_box H Z Z Z ?_));intro _ _ _ H
 refine o_box H Z Z Z ?_;intro _ _ _ H
 refine xal H Z ?_;intro _ _ _ H
 refine aG Z (q1 (fA 1 Z (lB 2 H Z3 (fA 1 Z (lB 1 H Z3 (xr H Z2 (l5At_c _ _ H.sub _ _ hr1' _ hi2) ?_))))));intro _ H
 refine aG Z (q3 (W_seq (W_seq (W_drawK [0,1,2] 13 H kR Z ?_))));intro _ H;have hd7:=PLe.refl G0
 refine dE 0 Z2 (dE 1 Z2 (dE 2 Z2 ?_))
 refine RD_case (t:=19) Z ?_ ?_
 ·intro hc8
  try simp only[nrm]at hc8
  refine dE 3 Z2 (dE 4 Z2 (dE 5 Z2 (dE 6 Z2 (dE 7 Z2 (dE 8 Z2 (dE 9 Z2 (dE 10 Z2 (dE 11 Z2 (dE 12 Z2 (rz (N_K (W_true Z (q2 (o_build bf27 Z Z Z (xst 0 H Z8 ?_)))))))))))))));intro _ H
  refine aG Z (q3 (W_ret (N_K_ret (ret_gen (rs:=[.cell 4 27,.tmp 5]) (vs:=[_,_]) results43 ⟨⟨_,Z,load_blk 0 H isAgg27 sizeOf27 Z Z Z⟩,Z,trivial⟩ ?_))))
  have hN:Sp.l14Drop d (Sp.bare x)=none:=by exact Sp.sdrop_at (x:=Sp.bare x) (Sp.at_none hc8)
  have H:=H.addNil 67 2
  exact H.retO (k:=0) rfl (by rw[hN];exact⟨_,_,_,rfl,AccOf.mk rfl Chk.nil,RdS.nil _ _ _,RdS.nil _ _ _⟩) (acc_nd _ _ _ _ _)
 intro hc8'
 try simp only[nrm]at hc8'
 obtain⟨i,_,hat,ib,_,_⟩:=Sp.l5_nat (t:=d.tree) (p:=x.path) oM
 refine dF 3 1 Z2 (dB 4 2 Z4 (dE 5 Z2 ?_))
 have hl10:=hr1'.len
 obtain⟨_,_,_,_,ha10,hz10,hq10,hE10,hrow10,_⟩:=hr1'.at (i:=i) oM
 clear hq10
 obtain⟨_,_,_,rfl,_,hr10,_,_⟩:=ox hE10
 refine dI 6 3 i ha10 Z3 ib (dF 7 1 Z2 (dP 8 hrow10 1 Z3 (dF 9 2 Z2 (dB 10 1 Z4 (RD_tg 11 Z kR Z (yl Z Z) (fun _ hK=>v_bneq underlying4 Z Z) (dE 12 Z2 (rz (N_K ?_))))))))
 refine W_cond Z ?_ ?_
 ·intro hc11
  try simp only[nrm]at hc11
  refine q2 (o_build bf27 Z Z Z (xst 0 H Z8 ?_));intro _ H
  refine aG Z (q3 (W_ret (N_K_ret (ret_gen (rs:=[.cell 4 27,.tmp 5]) (vs:=[_,_]) results43 ⟨⟨_,Z,load_blk 0 H isAgg27 sizeOf27 Z Z Z⟩,Z,trivial⟩ ?_))))
  have hN:Sp.l14Drop d (Sp.bare x)=none:=by exact Sp.sdrop_dir (x:=Sp.bare x) hdv hat hz10 (by simpa [Sp.bare] using hc11)
  have H:=H.addNil 67 2
  exact H.retO (k:=0) rfl (by rw[hN];exact⟨_,_,_,rfl,AccOf.mk rfl Chk.nil,RdS.nil _ _ _,RdS.nil _ _ _⟩) (acc_nd _ _ _ _ _)
 intro hc11'
 try simp only[nrm]at hc11'
 refine W_skip (N_K (q2 (fA 1 Z (lB 2 H Z3 (fA 1 Z (lB 1 H Z3 (xc Z2 (TreeDrop_c _ _ H.sub _ _ hr1' _ hi2) ?_)))))))
 rintro _ _ ⟨_,_,g13,rfl,_,rfl,hr13_0⟩
 have H:=H.grow g13
 have hr1:=hr1.up g13.le
 have hr1':=hr1'.up g13.le
 have hr1'':=hr1''.up g13.le
 obtain⟨_,_,rfl⟩:=hr13_0.shape;have hx_hr13_0:_≤1099511627776:=hr13_0.lim
 refine⟨_,Z,?_⟩
 refine pe 5 Z (q3 (W_seq (q2 (pe 2 Z (q3 ?_)))))
 refine W_cond Z ?_ ?_
 ·intro hc14
  try simp only[nrm]at hc14
  refine q2 (o_build bf27 Z Z Z (xst 0 H Z8 ?_));intro _ H
  refine aG Z (q3 (W_ret (N_K_ret (ret_gen (rs:=[.cell 4 27,.tmp 5]) (vs:=[_,_]) results43 ⟨⟨_,Z,load_blk 0 H isAgg27 sizeOf27 Z Z Z⟩,Z,trivial⟩ ?_))))
  have hN:Sp.l14Drop d (Sp.bare x)=none:=by exact Sp.dr_tree (x:=Sp.bare x) hat hz10 (by simp_all [Sp.bare]) rfl (by simpa [Sp.bare] using hc14)
  have H:=H.addNil 67 2
  exact H.retO (k:=0) rfl (by rw[hN];exact⟨_,_,_,rfl,AccOf.mk rfl Chk.nil,RdS.nil _ _ _,RdS.nil _ _ _⟩) (acc_nd _ _ _ _ _)
 intro hc14'
 try simp only[nrm]at hc14'
 refine W_skip (N_K (q2 (lA 2 3 H Z4 (xc Z2 (l12Copy_c _ _ H.sub _ d ⟨_,_,_,_,_,_,_,_,_,Z,hr1,hr1',hr1''⟩) ?_))))
 rintro _ _ ⟨G16,_,_,g16,rfl,⟨_,_,_,rfl,⟨_,rfl,hchk16⟩,hr16_0,hr16_1⟩,hp16,hq16,hs16⟩
 have H:=H.growO g16 hp16 hq16 hs16;obtain⟨_,_,rfl⟩:=H.accShape (k:=0) rfl
 have hr1:=hr1.up g16.le
 have hr1':=hr1'.up g16.le
 have hr13_0:=hr13_0.up g16.le
 obtain⟨_,_,rfl⟩:=hr16_0.shape;have hx_hr16_0:_≤1099511627776:=hr16_0.lim
 obtain⟨_,_,rfl⟩:=hr16_1.shape;have hx_hr16_1:_≤1099511627776:=hr16_1.lim
 refine⟨_,Z,?_⟩
 refine xal H Z ?_;intro _ _ _ H
 refine xst 0 H Z8 ?_;intro _ H
 refine q1 (mV Z (fA 1 Z (xst 0 H Z8 ?_)));intro _ H
 refine q3 (W_seq (W_drawK [0,2,3,4] 14 H kR Z ?_));intro _ H;have hd20:=PLe.refl G16
 refine dF 0 0 Z2 (dB 1 3 Z4 (dF 2 1 Z2 (dB 3 3 Z4 (dE 4 Z2 ?_))))
 have hl21:=hr1'.len
 obtain⟨_,_,z21,_,ha21,hz21,hq21,hE21,hrow21,_⟩:=hr1'.at (i:=i) oM
 clear hq21
 obtain⟨_,_,_,rfl,_,hr21,_,_⟩:=ox hE21
 refine dI 5 3 i ha21 Z3 ib (dF 6 2 Z2 (dP 7 hrow21 2 Z3 (r1 8 Z (xc Z2 (FileFree_c _ _ H.sub _ _ hr1 _ _ hr21) ?_))))
 rintro _ _ ⟨_,_,_,g22,rfl,⟨_,rfl,⟨_,rfl,hchk22⟩⟩,hp22,hq22,hs22⟩
 have H:=H.growO g22 hp22 hq22 hs22;obtain⟨_,_,rfl⟩:=H.accShape (k:=0) rfl
 have hr13_0:=hr13_0.up g22.le
 have hchk16:=hchk16.up g22.le
 have hd20:=hd20.trans g22.le
 refine⟨_,Z,?_⟩
 have hfl2:=Sp.free_len d.store z21.ids
 refine q4 H hd20 (dE 9 Z2 (dE 10 Z2 (dE 11 Z2 (dE 12 Z2 (dE 13 Z2 (rz (N_K (q2 (mV Z (fA 0 Z (xst 1 H Z8 ?_)))))))))));intro _ H
 refine q1 (lA 1 3 H Z4 (xst 3 H Z8 ?_));intro _ H
 refine aG Z (q3 (W_ret (ret_gen (rs:=[.cell 4 27,.tmp 5]) (vs:=[_,_]) results43 ⟨⟨_,Z,load_blk 3 H isAgg27 sizeOf27 Z Z Z⟩,Z,trivial⟩ ?_)))
 obtain⟨_,H,hsg526,hsr526⟩:=H.shut' (k:=0) rfl hchk22 aN aN
 have hr13_0:=hr13_0.up hsg526
 have hchk16:=hchk16.up hsg526
 have hY:Sp.l14Drop d (Sp.bare x)=some ⟨(Sp.FileFree d.store z21.ids).getD [],(Sp.TreeDrop d.tree x.path).getD [],d.snaps⟩:=by exact Sp.dr_yes (x:=Sp.bare x) hat hz21 (by simp_all [Sp.bare]) rfl (by simpa [Sp.bare] using hc14')
 exact H.retO (k:=1) rfl (by rw[hY];exact⟨_,_,_,rfl,AccOf.mk aN hchk16,hsr526,hr13_0⟩) (acc_nd _ _ _ _ _)
theorem l5Put_c (w0:World)(G0:PH)(hG:PSub G0 w0)(vlist:Value)(list:List (BItem))(hlist:RdItems G0 vlist list)(cx:List Value)(x:BItem)(hx:itemE G0 x cx)(hS:list.length≤1000000) :
  Calls Tryz.prog 169 #[vlist,.agg cx.toArray] w0 (RetO w0 G0 (AccOf itemE 3 41 (Sp.l5Put list x))):=by
 obtain⟨alist,klist,rfl⟩:=hlist.shape
 have hlimlist:list.length≤1099511627776:=hlist.lim
 obtain⟨_,_,_,rfl,hi1,hr1,_,_⟩:=ox hx
 have H:=Hp.init hG
 refine calls_of_W (l:=[.slice alist list.length klist,_]) func169 Z ntmps169 Z (q2 (o_box H Z Z Z ?_));intro b2 _ _ H
 refine aG Z (q1 (xbs H Z7 ?_));intro _ _ _ H
 have H:=H.blkAcc 3 (k:=0) (n:=0) rfl rfl (by decide)
 refine aG Z (q1 (aG Z (q3 (W_seq (q2 (aG Z (q3 (W_block ?_))))))))
 obtain⟨ln4,hln4,H⟩:=H.name (k:=1) rfl
 refine W_lp (hf:=(Sub.cons (t:=0) Z (Sub.cons (t:=3) Z (Sub.cons (t:=4) Z Sub.nil)))) (J:=fun M w m=>∃(v:Value) (n:Nat) (cs:List Value) (xs:List (BItem)) (d:Bool) (k:Nat) (G:PH),M=[(6,.bool d),(7,.int .i64 (k:Int)),(5,v)]∧PLe G0 G∧Hp w0 G0 [] w G [acc 41 3 v n cs,blk b2 (cl ln4 41)]∧(Chk itemE 3 G cs xs∧n=xs.length∧k≤list.length∧xs.length≤k+1∧(d=false→xs.length≤k)∧xs++Sp.putGo x d (list.drop k)=Sp.l5Put list x)∧m=(list.length-k)) (h0:=⟨_,_,_,[],false,0,_,Z,PLe.refl _,H,?inv,Z⟩) (round:=?round)
 case inv=>exact⟨(Chk.nil (E:=itemE) (sz:=3) (G:=G0)),by first|rfl|simp|(simp;omega)|omega,(by simp[Sp.l5Put])⟩
 case round =>
  rintro _ _ _ ⟨v,n,cs,xs,d,k,G5,rfl,hle5,H,hinv5,rfl⟩
  subst hln4
  have hlist:=hlist.up hle5
  have hr1:=hr1.up hle5
  obtain⟨hchk5_0,_,hinv5⟩:=hinv5
  obtain⟨_,_,rfl⟩:=H.accShape (k:=0) rfl
  obtain⟨_,_,hxd,hp⟩:=hinv5
  refine W_seq (q2 (pe 2 Z (lN Z (pe 1 Z (q3 ?_)))))
  refine W_cond Z ?_ ?_
  ·intro hc6
   try simp only[nrm]at hc6
   refine W_skip (N_K (W_seq (W_block (W_seq (W_seq (W_drawK [1] 12 H kR Z ?_))))));intro _ H;have hd7:=PLe.refl G5
   refine dE 0 Z2 (dE 1 Z2 (dE 2 Z2 ?_))
   refine RD_case (t:=17) Z ?_ ?_
   ·intro hc8
    try simp only[nrm]at hc8
    refine dE 3 Z2 (dE 4 Z2 ?_)
    have hl9:=hlist.len
    obtain⟨_,_,z9,_,ha9,hz9,hq9,hE9,hrow9,_⟩:=hlist.at (i:=k) oM
    clear hq9
    obtain⟨_,_,_,rfl,_,hr9,_,_⟩:=ox hE9
    refine dI 5 3 k ha9 Z3 Z (dF 6 0 Z2 (dP 7 hrow9 0 Z3 (dF 8 0 Z2 (dB 9 0 Z4 (RD_tg 10 Z kR Z (yl Z Z) (fun _ hK=>v_sgeq Z Z) (dE 11 Z2 (rz (N_K ?_))))))))
    refine W_cond Z ?_ ?_
    ·intro hc10
     try simp only[nrm]at hc10
     refine q2 (mV Z (lA 1 3 H Z4 (xc Z2 (l5Copy_c _ _ H.sub _ x ⟨_,_,_,Z,hi1,hr1⟩) ?_)))
     rintro _ _ ⟨G11,_,g11,rfl,_,rfl,hr11_0⟩
     have H:=H.grow g11
     have hlist:=hlist.up g11.le
     have hchk5_0:=hchk5_0.up g11.le
     have hle5:=hle5.trans g11.le
     obtain⟨_,_,_,rfl,hi12,hr12,_,_⟩:=ox hr11_0
     refine⟨_,Z,?_⟩
     refine xbs H Z7 ?_;intro _ _ _ H
     refine o_append1 0 H (sz:=3) (bytes:=48) underlying24 typeInfo41 ⟨_,Z,Z⟩ Z Z Z Z Z Z Z Z Z Z oM Z ?_;intro _ _ H
     have hchk14:=hchk5_0.snoc (show itemE _ x _ from⟨_,_,_,rfl,hi12,hr12⟩) rfl
     obtain⟨_,_,rfl⟩:=H.accShape (k:=0) rfl
     refine aG Z (q3 (W_region (aG Z (q3 (W_seq (W_drawK [1] 8 H kR Z ?_))))));intro _ H;have hd15:=PLe.refl G11
     refine dE 0 Z2 (dE 1 Z2 ?_)
     have hl16:=hlist.len
     obtain⟨_,_,z16,_,ha16,hz16,hq16,hE16,hrow16,_⟩:=hlist.at (i:=k) oM
     clear hq16
     obtain⟨_,_,_,rfl,_,hr16,_,_⟩:=ox hE16
     have hzz16:z9=z16:=Option.some.inj (hz9.symm.trans hz16)
     subst hzz16
     refine dI 2 3 k ha16 Z3 Z (dF 3 0 Z2 (dP 4 hrow16 0 Z3 (dF 5 0 Z2 (dB 6 0 Z4 (RD_t 7 Z kR Z (fun _ hK=>v_sneq Z Z) (rz (N_K ?_)))))))
     refine W_cond Z ?_ ?_
     ·intro hc17
      try simp only[nrm]at hc17
      refine W_region (pe 3 Z (iP k hlist Z3 Z ?_));intro _ _ z18 _ hz18 hE18 hrow18
      obtain⟨_,_,_,rfl,hi18,hr18,_,_⟩:=ox hE18
      have hzz18:z9=z18:=Option.some.inj (hz9.symm.trans hz18)
      subst hzz18
      refine o_loadagg_P H isAgg41 sizeOf41 Z Z hrow18 Z (xc Z2 (l5Copy_c _ _ H.sub _ _ ⟨_,_,_,Z,hi18,hr18⟩) ?_)
      rintro _ _ ⟨_,_,g19,rfl,_,rfl,hr19_0⟩
      have H:=H.grow g19
      have hchk14:=hchk14.up g19.le
      have hle5:=hle5.trans g19.le
      obtain⟨_,_,_,rfl,hi20,hr20,_,_⟩:=ox hr19_0
      refine⟨_,Z,?_⟩
      refine xbs H Z7 ?_;intro _ _ _ H
      refine o_append1 0 H (sz:=3) (bytes:=48) underlying24 typeInfo41 ⟨_,Z,Z⟩ Z Z Z Z Z Z Z Z Z Z oM Z ?_;intro _ _ H
      have hchk22:=hchk14.snoc (show itemE _ z9 _ from⟨_,_,_,rfl,hi20,hr20⟩) rfl
      obtain⟨_,_,rfl⟩:=H.accShape (k:=0) rfl
      refine aG Z (R_nil (N_B (N_K (W_region (mV Z (aD Z2 (aG Z (R_nil ?_))))))))
      refine N_lp (hJ:=⟨_,_,_,((xs++[x])++[z9]),true,k+1,_,Z,hle5,H,?inv,Z⟩) (hm:=?hm)
      case hm=>omega
      case inv=>exact⟨hchk22,aN,(by exact⟨by omega,by have:=hxd (by assumption);simp;omega,by simp,by rw[Sp.drop_at hz9]at hp;rw[←hp];(first|rw[Sp.putA (by assumption) (by assumption) (by assumption)]|rw[Sp.putB (by assumption) (by assumption) (by assumption)]|rw[Sp.putC (by assumption) (by assumption)]|rw[Sp.putC' (by assumption) (by assumption)]|rw[Sp.putD (by assumption) (by assumption)]|rw[Sp.putD' (by assumption) (by assumption)])<;>simp⟩)⟩
     intro hc17'
     try simp only[nrm]at hc17'
     refine W_skip (N_B (N_K (W_region (mV Z (aD Z2 (aG Z (R_nil ?_)))))))
     refine N_lp (hJ:=⟨_,_,_,(xs++[x]),true,k+1,_,Z,hle5,H,?inv,Z⟩) (hm:=?hm)
     case hm=>omega
     case inv=>exact⟨hchk14,aN,(by exact⟨by omega,by have:=hxd (by assumption);simp;omega,by simp,by rw[Sp.drop_at hz9]at hp;rw[←hp];(first|rw[Sp.putA (by assumption) (by assumption) (by assumption)]|rw[Sp.putB (by assumption) (by assumption) (by assumption)]|rw[Sp.putC (by assumption) (by assumption)]|rw[Sp.putC' (by assumption) (by assumption)]|rw[Sp.putD (by assumption) (by assumption)]|rw[Sp.putD' (by assumption) (by assumption)])<;>simp⟩)⟩
    intro hc10'
    try simp only[nrm]at hc10'
    refine W_skip (N_K (W_seq (W_drawK [1] 8 H kR Z ?_)));intro _ H;have hd25:=PLe.refl G5
    refine dE 0 Z2 (dE 1 Z2 ?_)
    have hl26:=hlist.len
    obtain⟨_,_,z26,_,ha26,hz26,hq26,hE26,hrow26,_⟩:=hlist.at (i:=k) oM
    clear hq26
    obtain⟨_,_,_,rfl,_,hr26,_,_⟩:=ox hE26
    have hzz26:z9=z26:=Option.some.inj (hz9.symm.trans hz26)
    subst hzz26
    refine dI 2 3 k ha26 Z3 Z (dF 3 0 Z2 (dP 4 hrow26 0 Z3 (dF 5 0 Z2 (dB 6 0 Z4 (RD_t 7 Z kR Z (fun _ hK=>v_sneq Z Z) (rz (N_K ?_)))))))
    refine W_cond Z ?_ ?_
    ·intro hc27
     try simp only[nrm]at hc27
     refine W_region (pe 3 Z (iP k hlist Z3 Z ?_));intro _ _ z28 _ hz28 hE28 hrow28
     obtain⟨_,_,_,rfl,hi28,hr28,_,_⟩:=ox hE28
     have hzz28:z9=z28:=Option.some.inj (hz9.symm.trans hz28)
     subst hzz28
     refine o_loadagg_P H isAgg41 sizeOf41 Z Z hrow28 Z (xc Z2 (l5Copy_c _ _ H.sub _ _ ⟨_,_,_,Z,hi28,hr28⟩) ?_)
     rintro _ _ ⟨_,_,g29,rfl,_,rfl,hr29_0⟩
     have H:=H.grow g29
     have hchk5_0:=hchk5_0.up g29.le
     have hle5:=hle5.trans g29.le
     obtain⟨_,_,_,rfl,hi30,hr30,_,_⟩:=ox hr29_0
     refine⟨_,Z,?_⟩
     refine xbs H Z7 ?_;intro _ _ _ H
     refine o_append1 0 H (sz:=3) (bytes:=48) underlying24 typeInfo41 ⟨_,Z,Z⟩ Z Z Z Z Z Z Z Z Z Z oM Z ?_;intro _ _ H
     have hchk32:=hchk5_0.snoc (show itemE _ z9 _ from⟨_,_,_,rfl,hi30,hr30⟩) rfl
     obtain⟨_,_,rfl⟩:=H.accShape (k:=0) rfl
     refine aG Z (R_nil (N_B (N_K (W_region (mV Z (aD Z2 (aG Z (R_nil ?_))))))))
     refine N_lp (hJ:=⟨_,_,_,(xs++[z9]),d,k+1,_,Z,hle5,H,?inv,Z⟩) (hm:=?hm)
     case hm=>omega
     case inv=>exact⟨hchk32,aN,(by exact⟨by omega,by first|omega|(simp;omega),fun h=>by have:=hxd h;first|omega|(simp;omega),by rw[Sp.drop_at hz9]at hp;rw[←hp];(first|rw[Sp.putA (by assumption) (by assumption) (by assumption)]|rw[Sp.putB (by assumption) (by assumption) (by assumption)]|rw[Sp.putC (by assumption) (by assumption)]|rw[Sp.putC' (by assumption) (by assumption)]|rw[Sp.putD (by assumption) (by assumption)]|rw[Sp.putD' (by assumption) (by assumption)])<;>simp⟩)⟩
    intro hc27'
    try simp only[nrm]at hc27'
    refine W_skip (N_B (N_K (W_region (mV Z (aD Z2 (aG Z (R_nil ?_)))))))
    refine N_lp (hJ:=⟨_,_,_,xs,d,k+1,_,Z,hle5,H,?inv,Z⟩) (hm:=?hm)
    case hm=>omega
    case inv=>exact⟨hchk5_0,aN,(by exact⟨by omega,by first|omega|(simp;omega),fun h=>by have:=hxd h;first|omega|(simp;omega),by rw[Sp.drop_at hz9]at hp;rw[←hp];(first|rw[Sp.putA (by assumption) (by assumption) (by assumption)]|rw[Sp.putB (by assumption) (by assumption) (by assumption)]|rw[Sp.putC (by assumption) (by assumption)]|rw[Sp.putC' (by assumption) (by assumption)]|rw[Sp.putD (by assumption) (by assumption)]|rw[Sp.putD' (by assumption) (by assumption)])<;>simp⟩)⟩
   intro hc8'
   try simp only[nrm]at hc8'
   refine dE 3 Z2 (dE 4 Z2 (dE 5 Z2 (dE 6 Z2 (dE 7 Z2 (dE 8 Z2 (dE 9 Z2 (dE 10 Z2 (dE 11 Z2 (rz (N_K (W_false Z (W_skip (N_K (W_seq (W_drawK [1] 8 H kR Z ?_)))))))))))))));intro _ H;have hd35:=PLe.refl G5
   refine dE 0 Z2 (dE 1 Z2 ?_)
   have hl36:=hlist.len
   obtain⟨_,_,z36,_,ha36,hz36,hq36,hE36,hrow36,_⟩:=hlist.at (i:=k) oM
   clear hq36
   obtain⟨_,_,_,rfl,_,hr36,_,_⟩:=ox hE36
   refine dI 2 3 k ha36 Z3 Z (dF 3 0 Z2 (dP 4 hrow36 0 Z3 (dF 5 0 Z2 (dB 6 0 Z4 (RD_t 7 Z kR Z (fun _ hK=>v_sneq Z Z) (rz (N_K ?_)))))))
   refine W_cond Z ?_ ?_
   ·intro hc37
    try simp only[nrm]at hc37
    refine W_region (pe 3 Z (iP k hlist Z3 Z ?_));intro _ _ z38 _ hz38 hE38 hrow38
    obtain⟨_,_,_,rfl,hi38,hr38,_,_⟩:=ox hE38
    have hzz38:z36=z38:=Option.some.inj (hz36.symm.trans hz38)
    subst hzz38
    refine o_loadagg_P H isAgg41 sizeOf41 Z Z hrow38 Z (xc Z2 (l5Copy_c _ _ H.sub _ _ ⟨_,_,_,Z,hi38,hr38⟩) ?_)
    rintro _ _ ⟨_,_,g39,rfl,_,rfl,hr39_0⟩
    have H:=H.grow g39
    have hchk5_0:=hchk5_0.up g39.le
    have hle5:=hle5.trans g39.le
    obtain⟨_,_,_,rfl,hi40,hr40,_,_⟩:=ox hr39_0
    refine⟨_,Z,?_⟩
    refine xbs H Z7 ?_;intro _ _ _ H
    refine o_append1 0 H (sz:=3) (bytes:=48) underlying24 typeInfo41 ⟨_,Z,Z⟩ Z Z Z Z Z Z Z Z Z Z oM Z ?_;intro _ _ H
    have hchk42:=hchk5_0.snoc (show itemE _ z36 _ from⟨_,_,_,rfl,hi40,hr40⟩) rfl
    obtain⟨_,_,rfl⟩:=H.accShape (k:=0) rfl
    refine aG Z (R_nil (N_B (N_K (W_region (mV Z (aD Z2 (aG Z (R_nil ?_))))))))
    refine N_lp (hJ:=⟨_,_,_,(xs++[z36]),d,k+1,_,Z,hle5,H,?inv,Z⟩) (hm:=?hm)
    case hm=>omega
    case inv=>exact⟨hchk42,aN,(by exact⟨by omega,by first|omega|(simp;omega),fun h=>by have:=hxd h;first|omega|(simp;omega),by rw[Sp.drop_at hz36]at hp;rw[←hp];(first|rw[Sp.putA (by assumption) (by assumption) (by assumption)]|rw[Sp.putB (by assumption) (by assumption) (by assumption)]|rw[Sp.putC (by assumption) (by assumption)]|rw[Sp.putC' (by assumption) (by assumption)]|rw[Sp.putD (by assumption) (by assumption)]|rw[Sp.putD' (by assumption) (by assumption)])<;>simp⟩)⟩
   intro hc37'
   try simp only[nrm]at hc37'
   refine W_skip (N_B (N_K (W_region (mV Z (aD Z2 (aG Z (R_nil ?_)))))))
   refine N_lp (hJ:=⟨_,_,_,xs,d,k+1,_,Z,hle5,H,?inv,Z⟩) (hm:=?hm)
   case hm=>omega
   case inv=>exact⟨hchk5_0,aN,(by exact⟨by omega,by first|omega|(simp;omega),fun h=>by have:=hxd h;first|omega|(simp;omega),by rw[Sp.drop_at hz36]at hp;rw[←hp];(first|rw[Sp.putA (by assumption) (by assumption) (by assumption)]|rw[Sp.putB (by assumption) (by assumption) (by assumption)]|rw[Sp.putC (by assumption) (by assumption)]|rw[Sp.putC' (by assumption) (by assumption)]|rw[Sp.putD (by assumption) (by assumption)]|rw[Sp.putD' (by assumption) (by assumption)])<;>simp⟩)⟩
  intro hc6'
  try simp only[nrm]at hc6'
  refine W_exit (N_K_exit (N_LP_exit (N_B_same (N_K (W_seq (q2 (pe 2 Z (q3 ?_))))))))
  refine W_cond Z ?_ ?_
  ·intro hc45
   try simp only[nrm]at hc45
   refine W_region (mV Z (lA 1 3 H Z4 (xc Z2 (l5Copy_c _ _ H.sub _ x ⟨_,_,_,Z,hi1,hr1⟩) ?_)))
   rintro _ _ ⟨_,_,g46,rfl,_,rfl,hr46_0⟩
   have H:=H.grow g46
   have hchk5_0:=hchk5_0.up g46.le
   obtain⟨_,_,_,rfl,hi47,hr47,_,_⟩:=ox hr46_0
   refine⟨_,Z,?_⟩
   refine xbs H Z7 ?_;intro _ _ _ H
   refine o_append1 0 H (sz:=3) (bytes:=48) underlying24 typeInfo41 ⟨_,Z,Z⟩ Z Z Z Z Z Z Z Z Z Z oM Z ?_;intro _ _ H
   have hchk49:=hchk5_0.snoc (show itemE _ x _ from⟨_,_,_,rfl,hi47,hr47⟩) rfl
   obtain⟨_,_,rfl⟩:=H.accShape (k:=0) rfl
   refine aG Z (q1 (pe 2 Z (q3 (W_ret (rt1 results169 Z ?_)))))
   rw[List.drop_of_length_le oM]at hp
   exact H.retO (k:=0) rfl (by rw[←hp,Sp.putGo,if_neg (by simp[*])];exact AccOf.mk aN hchk49) (acc_nd _ _ _ _ _)
  intro hc45'
  try simp only[nrm]at hc45'
  refine W_skip (N_K (q2 (pe 2 Z (q3 (W_ret (rt1 results169 Z ?_))))))
  rw[List.drop_of_length_le oM]at hp
  exact H.retO (k:=0) rfl (by rw[←hp,Sp.putGo,if_pos (by assumption),List.append_nil];exact AccOf.mk aN hchk5_0) (acc_nd _ _ _ _ _)
theorem TreePut_c (w0:World)(G0:PH)(hG:PSub G0 w0)(vlist:Value)(list:List (BItem))(hlist:RdItems G0 vlist list)(cx:List Value)(x:BItem)(hx:itemE G0 x cx) :
  Calls Tryz.prog 112 #[vlist,.agg cx.toArray] w0 (RetP w0 G0 (fun G v=>∃u,v= .tuple #[u,.bool (Sp.TreePut list x).isSome]∧RdItems G u ((Sp.TreePut list x).getD []))):=by
 obtain⟨alist,klist,rfl⟩:=hlist.shape
 have hlimlist:list.length≤1099511627776:=hlist.lim
 obtain⟨_,_,_,rfl,hi1,hr1,_,_⟩:=ox hx
 have H:=Hp.init hG
 refine calls_of_W (l:=[.slice alist list.length klist,_]) func112 Z ntmps112 Z (q2 (o_box H Z Z Z ?_));intro _ _ _ H
 refine pe 2 Z (q3 (W_seq (q2 (mV Z (xr H Z2 (TreeValid_c _ _ H.sub _ _ hlist) ?_)))));intro _ H
 refine pe 2 Z ?_
 refine R_case (t:=11) Z ?_ ?_
 ·intro hc4
  try simp only[nrm]at hc4
  refine pe 4 Z (q3 (W_true Z (q2 (xbs H Z7 ?_))));intro _ _ _ H
  have H:=H.blkAcc 3 (k:=0) (n:=0) rfl rfl (by decide)
  refine pe 2 Z (q3 (W_ret (N_K_ret (rt2 results112 Z Z ?_))))
  obtain⟨_,H,hsg507,hsr507⟩:=H.shut' (k:=0) rfl (Chk.nil (E:=itemE) (sz:=3) (G:=G0)) aN aN
  have hY:Sp.TreePut list x=none:=by simp[Sp.TreePut,hc4]
  exact H.retP (by rw[hY];exact⟨_,rfl,hsr507⟩)
 intro hc4'
 try simp only[nrm]at hc4'
 have htl:=Sp.tree_len hc4'
 refine gR Z (lA 0 3 H Z4 (gR Z (xr H Z2 (l5Item_c _ _ H.sub _ x ⟨_,_,_,Z,hi1,hr1⟩) ?_)));intro _ H
 refine pe 2 Z (q3 ?_)
 refine W_cond Z ?_ ?_
 ·intro hc7
  try simp only[nrm]at hc7
  refine q2 (xbs H Z7 ?_);intro _ _ _ H
  have H:=H.blkAcc 3 (k:=0) (n:=0) rfl rfl (by decide)
  refine pe 2 Z (q3 (W_ret (N_K_ret (rt2 results112 Z Z ?_))))
  obtain⟨_,H,hsg511,hsr511⟩:=H.shut' (k:=0) rfl (Chk.nil (E:=itemE) (sz:=3) (G:=G0)) aN aN
  have hY:Sp.TreePut list x=none:=by simp[Sp.TreePut,hc7]
  exact H.retP (by rw[hY];exact⟨_,rfl,hsr511⟩)
 intro hc7'
 try simp only[nrm]at hc7'
 refine W_skip (N_K (q2 (mV Z (fA 0 Z (lB 0 H Z3 (xr H Z2 (l5At_c _ _ H.sub _ _ hlist _ hi1) ?_))))));intro _ H
 refine aG Z (q3 (W_seq (q2 (pe 3 Z ?_))))
 refine R_case (t:=23) Z ?_ ?_
 ·intro hc10
  try simp only[nrm]at hc10
  obtain⟨i,_,ia,ib,_,_,_⟩:=Sp.at_nat hc10
  refine pe 2 Z (gR Z (iP i hlist Z3 ib ?_));intro _ _ _ _ hz11 hE11 hrow11
  obtain⟨_,_,_,rfl,_,hr11,_,_⟩:=ox hE11
  refine gR Z (fA 1 Z (gR Z (lP H hrow11 1 Z2 (pe 1 Z ?_))))
  refine R_case (t:=29) Z ?_ ?_
  ·intro hc12
   try simp only[nrm]at hc12
   refine pe 4 Z (q3 (W_true Z (q2 (xbs H Z7 ?_))));intro _ _ _ H
   have H:=H.blkAcc 3 (k:=0) (n:=0) rfl rfl (by decide)
   refine pe 2 Z (q3 (W_ret (N_K_ret (rt2 results112 Z Z ?_))))
   obtain⟨_,H,hsg517,hsr517⟩:=H.shut' (k:=0) rfl (Chk.nil (E:=itemE) (sz:=3) (G:=G0)) aN aN
   have hY:Sp.TreePut list x=none:=by (have hl:Sp.atI list x.path=some i:=ia);simp[Sp.TreePut,hl,hz11,hc12]
   exact H.retP (by rw[hY];exact⟨_,rfl,hsr517⟩)
  intro hc12'
  try simp only[nrm]at hc12'
  refine gR Z (fA 1 Z (gR Z (lB 0 H Z3 (pe 2 Z (q3 ?_)))))
  refine W_cond Z ?_ ?_
  ·intro hc14
   try simp only[nrm]at hc14
   refine q2 (xbs H Z7 ?_);intro _ _ _ H
   have H:=H.blkAcc 3 (k:=0) (n:=0) rfl rfl (by decide)
   refine pe 2 Z (q3 (W_ret (N_K_ret (rt2 results112 Z Z ?_))))
   obtain⟨_,H,hsg520,hsr520⟩:=H.shut' (k:=0) rfl (Chk.nil (E:=itemE) (sz:=3) (G:=G0)) aN aN
   have hY:Sp.TreePut list x=none:=by (have hl:Sp.atI list x.path=some i:=ia);simp[Sp.TreePut,hl,hz11,hc14]
   exact H.retP (by rw[hY];exact⟨_,rfl,hsr520⟩)
  intro hc14'
  try simp only[nrm]at hc14'
  refine W_skip (N_K (q2 (mV Z (lA 0 3 H Z4 (xc Z2 (l5Put_c _ _ H.sub _ _ hlist _ x ⟨_,_,_,Z,hi1,hr1⟩ oM) ?_)))))
  rintro _ _ ⟨G16,_,_,g16,rfl,⟨_,rfl,hchk16⟩,hp16,hq16,hs16⟩
  have H:=H.growO g16 hp16 hq16 hs16;obtain⟨_,_,rfl⟩:=H.accShape (k:=0) rfl
  refine⟨_,Z,?_⟩
  have hpl:=Sp.l5Put_len list x
  refine aG Z (q3 (W_seq (q2 (mV Z (xr H Z2 (TreeValid_c _ _ (H.lendSubL [0]) _ _ (H.lendRdL (k:=0) (ks:=[0]) Z Z hchk16 aN aN)) ?_)))));intro _ H
  refine pe 1 Z (q3 ?_)
  refine W_cond Z ?_ ?_
  ·intro hc18
   try simp only[nrm]at hc18
   refine q2 (xbs H Z7 ?_);intro _ _ _ H
   have H:=H.blkAcc 3 (k:=0) (n:=0) rfl rfl (by decide)
   refine pe 2 Z (q3 (W_ret (N_K_ret (rt2 results112 Z Z ?_))))
   obtain⟨_,H,hsg525,hsr525⟩:=H.shut' (k:=0) rfl (Chk.nil (E:=itemE) (sz:=3) (G:=G16)) aN aN
   have hY:Sp.TreePut list x=none:=by (have hl:Sp.atI list x.path=some i:=ia);simp[Sp.TreePut,hc18]
   exact H.retP (by rw[hY];exact⟨_,rfl,hsr525⟩)
  intro hc18'
  try simp only[nrm]at hc18'
  refine W_skip (N_K (q2 (pe 3 Z (q3 (W_ret (rt2 results112 Z Z ?_))))))
  obtain⟨_,H,hsg526,hsr526⟩:=H.shut' (k:=0) rfl hchk16 aN aN
  have hY:Sp.TreePut list x=some (Sp.l5Put list x):=by (have hl:Sp.atI list x.path=some i:=ia);simp[Sp.TreePut,hl,hz11,hc4',hc7',hc12',hc14',hc18']
  exact H.retP (by rw[hY];exact⟨_,rfl,hsr526⟩)
 intro hc10'
 try simp only[nrm]at hc10'
 refine pe 6 Z (R_pass Z (yl_un Z Z) (R_pass Z (yl_un Z Z) (pe 2 Z (q3 (W_false Z (W_skip (N_K (q2 (mV Z (lA 0 3 H Z4 (xc Z2 (l5Put_c _ _ H.sub _ _ hlist _ x ⟨_,_,_,Z,hi1,hr1⟩ oM) ?_)))))))))))
 rintro _ _ ⟨G20,_,_,g20,rfl,⟨_,rfl,hchk20⟩,hp20,hq20,hs20⟩
 have H:=H.growO g20 hp20 hq20 hs20;obtain⟨_,_,rfl⟩:=H.accShape (k:=0) rfl
 refine⟨_,Z,?_⟩
 have hpl:=Sp.l5Put_len list x
 refine aG Z (q3 (W_seq (q2 (mV Z (xr H Z2 (TreeValid_c _ _ (H.lendSubL [0]) _ _ (H.lendRdL (k:=0) (ks:=[0]) Z Z hchk20 aN aN)) ?_)))));intro _ H
 refine pe 1 Z (q3 ?_)
 refine W_cond Z ?_ ?_
 ·intro hc22
  try simp only[nrm]at hc22
  refine q2 (xbs H Z7 ?_);intro _ _ _ H
  have H:=H.blkAcc 3 (k:=0) (n:=0) rfl rfl (by decide)
  refine pe 2 Z (q3 (W_ret (N_K_ret (rt2 results112 Z Z ?_))))
  obtain⟨_,H,hsg531,hsr531⟩:=H.shut' (k:=0) rfl (Chk.nil (E:=itemE) (sz:=3) (G:=G20)) aN aN
  have hY:Sp.TreePut list x=none:=by simp[Sp.TreePut,hc22]
  exact H.retP (by rw[hY];exact⟨_,rfl,hsr531⟩)
 intro hc22'
 try simp only[nrm]at hc22'
 refine W_skip (N_K (q2 (pe 3 Z (q3 (W_ret (rt2 results112 Z Z ?_))))))
 obtain⟨_,H,hsg532,hsr532⟩:=H.shut' (k:=0) rfl hchk20 aN aN
 have hY:Sp.TreePut list x=some (Sp.l5Put list x):=by (have hl:Sp.atI list x.path=none:=Sp.at_none hc10');simp[Sp.TreePut,hl,hc4',hc7',hc22']
 exact H.retP (by rw[hY];exact⟨_,rfl,hsr532⟩)
theorem l3Free_c (w0:World)(G0:PH)(hG:PSub G0 w0)(vlist:Value)(list:List (BHeld))(hlist:RdH G0 vlist list) :
  Calls Tryz.prog 245 #[vlist] w0 (Rets w0 (.int .i64 (Sp.freeId list:Int))):=by
 obtain⟨alist,klist,rfl⟩:=hlist.shape
 have hlimlist:list.length≤1099511627776:=hlist.lim
 have H:=Hp.init hG
 refine calls_of_W (l:=[.slice alist list.length klist]) func245 Z ntmps245 Z (q2 (aG Z (q1 (aG Z (q3 (W_seq (W_block ?_)))))))
 refine W_lp (hf:=(Sub.cons (t:=0) Z (Sub.cons (t:=2) Z Sub.nil))) (J:=fun M w m=>∃(k:Nat) (G:PH),M=[(3,.int .i64 ((k:Int)+1))]∧PLe G0 G∧Hp w0 G0 [] w G []∧(∀j:Nat,j<k→(Sp.atH list ((j:Int)+1)).isSome=true)∧m=(list.length+1-k)) (h0:=⟨0,_,Z,PLe.refl _,H,?inv,Z⟩) (round:=?round)
 case inv=>exact fun j hj=>by omega
 case round =>
  rintro _ _ _ ⟨k,_,rfl,hle1,H,hinv1,rfl⟩
  have hlist:=hlist.up hle1
  have hall:=hinv1;have hkl:=Sp.free_le hall
  refine W_seq (q2 (pe 2 Z (xr H Z2 (l3At_c _ _ H.sub _ _ hlist _) ?_)));intro _ H
  refine pe 1 Z (q3 ?_)
  refine W_cond Z ?_ ?_
  ·intro hc3
   try simp only[nrm]at hc3
   refine W_skip (N_K (W_block (W_region (mV Z (aD Z2 (aG Z (R_nil (N_B ?_))))))))
   refine N_lp (hJ:=⟨k+1,_,Z,hle1,H,?inv,Z⟩) (hm:=?hm)
   case hm=>omega
   case inv=>exact Sp.upto_succ (p:=fun j:Nat=>(Sp.atH list ((j:Int)+1)).isSome) hall (Sp.isSome_of hc3)
  intro hc3'
  try simp only[nrm]at hc3'
  refine W_exit (N_K_exit (N_LP_exit (N_B_same (N_K (q2 (pe 2 Z (q3 (W_ret (rt1 results245 Z ?_)))))))))
  exact H.rets (congrArg (Value.int .i64) (by rw[Sp.free_eq hall (Sp.isNone_of hc3')];rfl))
theorem l3With_c (w0:World)(G0:PH)(hG:PSub G0 w0)(vlist:Value)(list:List (BHeld))(hlist:RdH G0 vlist list)(vbytes:Value)(bytes:List (Int))(hbytes:RdI G0 vbytes bytes)(hS:list.length≤1000000) :
  Calls Tryz.prog 246 #[vlist,vbytes] w0 (RetO w0 G0 (AccOf heldE 3 139 (Sp.l3With list bytes))):=by
 obtain⟨alist,klist,rfl⟩:=hlist.shape
 have hlimlist:list.length≤1099511627776:=hlist.lim
 obtain⟨abytes,kbytes,rfl⟩:=hbytes.shape
 have hlimbytes:bytes.length≤1099511627776:=hbytes.lim
 have hfr:=Sp.free_lt list
 have H:=Hp.init hG
 refine calls_of_W (l:=[.slice alist list.length klist,.slice abytes bytes.length kbytes]) func246 Z ntmps246 Z (q2 (aG Z (q1 (mV Z (xr H Z2 (l3Free_c _ _ H.sub _ _ hlist) ?_)))));intro _ H
 refine aG Z (q1 (xbs H Z7 ?_));intro _ _ _ H
 have H:=H.blkAcc 3 (k:=0) (n:=0) rfl rfl (by decide)
 refine aG Z (q1 (aG Z (q1 (mV Z (xbs H Z7 ?_)))));intro _ _ _ H
 have H:=H.blkAcc 1 (k:=0) (n:=0) rfl rfl (by decide)
 refine mV Z ?_
 refine o_append_P 0 H hbytes (by intro _ cs hz _ hu;obtain⟨rfl,_⟩:=hz;simp at hu;subst hu;rfl) (sz:=1) (bytes:=8) underlying37 typeInfo3 ⟨_,rfl,rfl⟩ rfl rfl rfl rfl rfl rfl rfl oM rfl ?_;intro _ _ css4 hcl4 hcs4 H
 have hchk4:Chk intE 1 G0 ([]++css4.flatten) _:=⟨css4,rfl,hcl4,hcs4⟩
 obtain⟨_,_,rfl⟩:=H.accShape (k:=0) rfl
 refine o_build bf139 Z Z Z (xal H Z ?_);intro b5 _ _ H
 refine xst 0 H Z8 ?_;intro _ H
 refine q1 (mV Z (xc Z2 (l3Copy_c _ _ H.sub _ _ hlist) ?_))
 rintro _ _ ⟨_,_,_,g7,rfl,⟨_,rfl,hchk7⟩,hp7,hq7,hs7⟩
 have H:=H.growO g7 hp7 hq7 hs7;obtain⟨_,_,rfl⟩:=H.accShape (k:=0) rfl
 have hchk4:=hchk4.up g7.le
 refine⟨_,Z,?_⟩
 refine aG Z (q3 (W_seq (q2 (aG Z (q3 (W_block ?_))))))
 obtain⟨_,H,hsg8,hsr8⟩:=H.shut' (k:=2) rfl hchk4 aN aN
 have hchk7:=hchk7.up hsg8
 obtain⟨G9,H,hsg9,hsr9⟩:=H.shut' (k:=0) rfl hchk7 aN aN
 have hsr8:=hsr8.up hsg9
 obtain⟨ln10,hln10,H⟩:=H.name (k:=0) rfl
 refine W_lp (hf:=(Sub.cons (t:=4) Z (Sub.cons (t:=5) Z (Sub.cons (t:=8) Z (Sub.cons (t:=9) Z Sub.nil))))) (J:=fun M w m=>∃(v:Value) (n:Nat) (cs:List Value) (xs:List (BHeld)) (d:Bool) (k:Nat) (G:PH),M=[(7,.bool d),(10,.int .i64 (k:Int)),(6,v)]∧PLe G9 G∧Hp w0 G0 [] w G [blk b5 (cl ln10 139),acc 139 3 v n cs]∧(Chk heldE 3 G cs xs∧n=xs.length∧k≤list.length∧xs.length≤k+1∧(d=false→xs=list.take k∧(list.take k).all (Sp.idF list)=true)∧(d=true→xs++list.drop k=Sp.l3With list bytes))∧m=(list.length-k)) (h0:=⟨_,_,_,[],false,0,_,Z,PLe.refl _,H,?inv,Z⟩) (round:=?round)
 case inv=>exact⟨(Chk.nil (E:=heldE) (sz:=3) (G:=G9)),by first|rfl|simp|(simp;omega)|omega,(by simp)⟩
 case round =>
  rintro _ _ _ ⟨v,n,cs,xs,d,k,_,rfl,hle11,H,hinv11,rfl⟩
  subst hln10
  have hsr8:=hsr8.up hle11
  have hsr9:=hsr9.up hle11
  obtain⟨hchk11_0,_,hinv11⟩:=hinv11
  obtain⟨_,_,rfl⟩:=H.accShape (k:=1) rfl
  obtain⟨_,_,hd0,hd1⟩:=hinv11
  refine W_seq (q2 (pe 2 Z (lN Z (pe 1 Z (q3 ?_)))))
  refine W_cond Z ?_ ?_
  ·intro hc12
   try simp only[nrm]at hc12
   refine W_skip (N_K (W_seq (W_block (W_seq (q2 (pe 3 Z ?_))))))
   refine R_case (t:=29) Z ?_ ?_
   ·intro hc13
    try simp only[nrm]at hc13
    refine pe 2 Z (gR Z (iP k hsr9 Z3 Z ?_));intro _ _ z14 _ hz14 hE14 hrow14
    obtain⟨_,_,_,rfl,_,_,_,_,_⟩:=ox hE14
    refine gR Z (fA 0 Z (gR Z (lP H hrow14 0 Z2 (pe 3 Z (q3 ?_)))))
    refine W_cond Z ?_ ?_
    ·intro hc15
     try simp only[nrm]at hc15
     refine q2 (mV Z (lA 0 3 H Z4 (xbs H Z7 ?_)));intro _ _ _ H
     refine o_append1 1 H (sz:=3) (bytes:=40) underlying23 typeInfo139 ⟨_,Z,Z⟩ Z Z Z Z Z Z Z Z Z Z oM Z ?_;intro _ _ H
     have hchk17:=hchk11_0.snoc (show heldE _ ⟨(Sp.freeId list:Int),bytes,1⟩ _ from⟨_,_,_,rfl,⟨by first|omega|(dsimp only;omega),by first|omega|(dsimp only;omega)⟩,hsr8,⟨by first|omega|(dsimp only;omega),by first|omega|(dsimp only;omega)⟩⟩) rfl
     obtain⟨_,_,rfl⟩:=H.accShape (k:=1) rfl
     refine aG Z (q3 (W_region (aG Z (q3 (W_region (pe 3 Z (iP k hsr9 Z3 Z ?_)))))));intro _ _ z18 _ hz18 hE18 hrow18
     obtain⟨_,_,_,rfl,_,hr18,_,_,_⟩:=ox hE18
     have hzz18:z14=z18:=Option.some.inj (hz14.symm.trans hz18)
     subst hzz18
     refine o_loadagg_P H isAgg139 sizeOf139 Z Z hrow18 Z (xbs H Z7 ?_);intro _ _ _ H
     refine o_append1 1 H (sz:=3) (bytes:=40) underlying23 typeInfo139 ⟨_,Z,Z⟩ Z Z Z Z Z Z Z Z Z Z oM Z ?_;intro _ _ H
     have hchk20:=hchk17.snoc (show heldE _ z14 _ from⟨_,_,_,rfl,⟨by first|omega|(dsimp only;omega),by first|omega|(dsimp only;omega)⟩,hr18,⟨by first|omega|(dsimp only;omega),by first|omega|(dsimp only;omega)⟩⟩) rfl
     obtain⟨_,_,rfl⟩:=H.accShape (k:=1) rfl
     refine aG Z (R_nil (N_B (N_K (W_region (mV Z (aD Z2 (aG Z (R_nil ?_))))))))
     refine N_lp (hJ:=⟨_,_,_,((xs++[⟨(Sp.freeId list:Int),bytes,1⟩])++[z14]),true,k+1,_,Z,hle11,H,?inv,Z⟩) (hm:=?hm)
     case hm=>omega
     case inv=>exact⟨hchk20,aN,(by exact⟨by omega,by have:=congrArg List.length (hd0 (by assumption)).1;simp at this ⊢;omega,by simp,fun _=>Sp.ins_new (F:=Sp.idF list) (hd0 (by assumption)) hz14 (by simp[Sp.idF];omega)⟩)⟩
    intro hc15'
    try simp only[nrm]at hc15'
    refine W_skip (N_K (W_region (pe 3 Z (iP k hsr9 Z3 Z ?_))));intro _ _ z22 _ hz22 hE22 hrow22
    obtain⟨_,_,_,rfl,_,hr22,_,_,_⟩:=ox hE22
    have hzz22:z14=z22:=Option.some.inj (hz14.symm.trans hz22)
    subst hzz22
    refine o_loadagg_P H isAgg139 sizeOf139 Z Z hrow22 Z (xbs H Z7 ?_);intro _ _ _ H
    refine o_append1 1 H (sz:=3) (bytes:=40) underlying23 typeInfo139 ⟨_,Z,Z⟩ Z Z Z Z Z Z Z Z Z Z oM Z ?_;intro _ _ H
    have hchk24:=hchk11_0.snoc (show heldE _ z14 _ from⟨_,_,_,rfl,⟨by first|omega|(dsimp only;omega),by first|omega|(dsimp only;omega)⟩,hr22,⟨by first|omega|(dsimp only;omega),by first|omega|(dsimp only;omega)⟩⟩) rfl
    obtain⟨_,_,rfl⟩:=H.accShape (k:=1) rfl
    refine aG Z (R_nil (N_B (N_K (W_region (mV Z (aD Z2 (aG Z (R_nil ?_))))))))
    refine N_lp (hJ:=⟨_,_,_,(xs++[z14]),d,k+1,_,Z,hle11,H,?inv,Z⟩) (hm:=?hm)
    case hm=>omega
    case inv=>exact⟨hchk24,aN,(by first|exact⟨by omega,by simp;omega,fun h=>⟨by rw[(hd0 h).1,Sp.take_succ' hz14],Sp.all_take (hd0 h).2 hz14 (by simp[Sp.idF];omega)⟩,fun h=>Sp.ins_old (hd1 h) hz14⟩|exact⟨by omega,by simp;omega,fun h=>absurd h (by simp[*]),fun h=>Sp.ins_old (hd1 h) hz14⟩)⟩
   intro hc13'
   try simp only[nrm]at hc13'
   refine pe 8 Z (q3 (W_false Z (W_skip (N_K (W_region (pe 3 Z (iP k hsr9 Z3 Z ?_)))))));intro _ _ z26 _ hz26 hE26 hrow26
   obtain⟨_,_,_,rfl,_,hr26,_,_,_⟩:=ox hE26
   refine o_loadagg_P H isAgg139 sizeOf139 Z Z hrow26 Z (xbs H Z7 ?_);intro _ _ _ H
   refine o_append1 1 H (sz:=3) (bytes:=40) underlying23 typeInfo139 ⟨_,Z,Z⟩ Z Z Z Z Z Z Z Z Z Z oM Z ?_;intro _ _ H
   have hchk28:=hchk11_0.snoc (show heldE _ z26 _ from⟨_,_,_,rfl,⟨by first|omega|(dsimp only;omega),by first|omega|(dsimp only;omega)⟩,hr26,⟨by first|omega|(dsimp only;omega),by first|omega|(dsimp only;omega)⟩⟩) rfl
   obtain⟨_,_,rfl⟩:=H.accShape (k:=1) rfl
   refine aG Z (R_nil (N_B (N_K (W_region (mV Z (aD Z2 (aG Z (R_nil ?_))))))))
   refine N_lp (hJ:=⟨_,_,_,(xs++[z26]),d,k+1,_,Z,hle11,H,?inv,Z⟩) (hm:=?hm)
   case hm=>omega
   case inv=>exact⟨hchk28,aN,(by first|exact⟨by omega,by simp;omega,fun h=>⟨by rw[(hd0 h).1,Sp.take_succ' hz26],Sp.all_take (hd0 h).2 hz26 (by simp[Sp.idF];omega)⟩,fun h=>Sp.ins_old (hd1 h) hz26⟩|exact⟨by omega,by simp;omega,fun h=>absurd h (by simp[*]),fun h=>Sp.ins_old (hd1 h) hz26⟩)⟩
  intro hc12'
  try simp only[nrm]at hc12'
  refine W_exit (N_K_exit (N_LP_exit (N_B_same (N_K (W_seq (q2 (pe 2 Z (q3 ?_))))))))
  refine W_cond Z ?_ ?_
  ·intro hc30
   try simp only[nrm]at hc30
   refine W_region (mV Z (lA 0 3 H Z4 (xbs H Z7 ?_)));intro _ _ _ H
   refine o_append1 1 H (sz:=3) (bytes:=40) underlying23 typeInfo139 ⟨_,Z,Z⟩ Z Z Z Z Z Z Z Z Z Z oM Z ?_;intro _ _ H
   have hchk32:=hchk11_0.snoc (show heldE _ ⟨(Sp.freeId list:Int),bytes,1⟩ _ from⟨_,_,_,rfl,⟨by first|omega|(dsimp only;omega),by first|omega|(dsimp only;omega)⟩,hsr8,⟨by first|omega|(dsimp only;omega),by first|omega|(dsimp only;omega)⟩⟩) rfl
   obtain⟨_,_,rfl⟩:=H.accShape (k:=1) rfl
   refine aG Z (q1 (pe 2 Z (q3 (W_ret (rt1 results246 Z ?_)))))
   have hx:=hd0 (by assumption)
   rw[List.take_of_length_le oM]at hx
   obtain⟨rfl,hx2⟩:=hx
   exact H.retO (k:=1) rfl (by rw[Sp.l3With_eq,←Sp.ins_end _ hx2];exact AccOf.mk aN hchk32) (acc_nd _ _ _ _ _)
  intro hc30'
  try simp only[nrm]at hc30'
  refine W_skip (N_K (q2 (pe 2 Z (q3 (W_ret (rt1 results246 Z ?_))))))
  have hx:=hd1 (by assumption)
  rw[List.drop_of_length_le oM,List.append_nil]at hx
  subst hx
  exact H.retO (k:=1) rfl (by skip;exact AccOf.mk aN hchk11_0) (acc_nd _ _ _ _ _)
theorem StorePut_c (w0:World)(G0:PH)(hG:PSub G0 w0)(vlist:Value)(list:List (BHeld))(hlist:RdH G0 vlist list)(vbytes:Value)(bytes:List (Int))(hbytes:RdI G0 vbytes bytes)(hS:list.length≤1000000) :
  Calls Tryz.prog 228 #[vlist,vbytes] w0 (RetO w0 G0 (fun G v r=>∃u,v= .tuple #[u,.int .i64 (((Sp.StorePut list bytes).map (·.2)).getD 0),.bool (Sp.StorePut list bytes).isSome]∧AccOf heldE 3 139 (((Sp.StorePut list bytes).map (·.1)).getD []) G u r∧inI (((Sp.StorePut list bytes).map (·.2)).getD 0))):=by
 obtain⟨alist,klist,rfl⟩:=hlist.shape
 have hlimlist:list.length≤1099511627776:=hlist.lim
 obtain⟨abytes,kbytes,rfl⟩:=hbytes.shape
 have hlimbytes:bytes.length≤1099511627776:=hbytes.lim
 have H:=Hp.init hG
 refine calls_of_W (l:=[.slice alist list.length klist,.slice abytes bytes.length kbytes]) func228 Z ntmps228 Z (q2 (pe 3 Z (q3 (W_seq (q2 (mV Z (xr H Z2 (StoreValid_c _ _ H.sub _ _ hlist) ?_)))))));intro _ H
 refine pe 2 Z ?_
 refine R_case (t:=13) Z ?_ ?_
 ·intro hc2
  try simp only[nrm]at hc2
  refine pe 4 Z (q3 (W_true Z (q2 (xbs H Z7 ?_))));intro _ _ _ H
  have H:=H.blkAcc 3 (k:=0) (n:=0) rfl rfl (by decide)
  refine pe 3 Z (q3 (W_ret (N_K_ret (ret_gen (rs:=[.tmp 4,.tmp 5,.tmp 6]) (vs:=[_,_,_]) results228 ⟨Z,Z,Z,trivial⟩ ?_))))
  have hN:Sp.StorePut list bytes=none:=by simp[Sp.StorePut,hc2]
  exact H.retO (k:=0) rfl (by rw[hN];exact⟨_,rfl,AccOf.mk aN (Chk.nil (E:=heldE) (sz:=3) (G:=G0)),(by simp[inI])⟩) (acc_nd _ _ _ _ _)
 intro hc2'
 try simp only[nrm]at hc2'
 refine pe 1 Z (gR Z (xr H Z2 (BlockValid_c _ _ H.sub _ _ hbytes) ?_));intro _ H
 refine pe 2 Z (q3 ?_)
 refine W_cond Z ?_ ?_
 ·intro hc5
  try simp only[nrm]at hc5
  refine q2 (xbs H Z7 ?_);intro _ _ _ H
  have H:=H.blkAcc 3 (k:=0) (n:=0) rfl rfl (by decide)
  refine pe 3 Z (q3 (W_ret (N_K_ret (ret_gen (rs:=[.tmp 4,.tmp 5,.tmp 6]) (vs:=[_,_,_]) results228 ⟨Z,Z,Z,trivial⟩ ?_))))
  have hN:Sp.StorePut list bytes=none:=by simp[Sp.StorePut,hc5]
  exact H.retO (k:=0) rfl (by rw[hN];exact⟨_,rfl,AccOf.mk aN (Chk.nil (E:=heldE) (sz:=3) (G:=G0)),(by simp[inI])⟩) (acc_nd _ _ _ _ _)
 intro hc5'
 try simp only[nrm]at hc5'
 refine W_skip (N_K (q2 (mV Z (xc Z2 (l3Copy_c _ _ H.sub _ _ hlist) ?_))))
 rintro _ _ ⟨G7,_,_,g7,rfl,⟨_,rfl,hchk7⟩,hp7,hq7,hs7⟩
 have H:=H.growO g7 hp7 hq7 hs7;obtain⟨_,_,rfl⟩:=H.accShape (k:=0) rfl
 have hlist:=hlist.up g7.le
 have hbytes:=hbytes.up g7.le
 refine⟨_,Z,?_⟩
 refine aG Z (q1 (pe 2 Z (xr H Z2 (l3Like_c _ _ H.sub _ _ hlist _ _ hbytes) ?_)));intro _ H
 refine aG Z (q1 (mV Z (xr H Z2 (l3Free_c _ _ H.sub _ _ hlist) ?_)));intro _ H
 refine aG Z (q3 (W_seq (q2 (pe 2 Z (q3 ?_)))))
 refine W_cond Z ?_ ?_
 ·intro hc10
  try simp only[nrm]at hc10
  obtain⟨i,_,hi1,hi2,_,_,_⟩:=Sp.at_nat hc10
  refine q2 (pe 4 Z (o_index_A 0 H i Z hchk7 underlying23 sizeOf139 Z Z Z hi2 aN aN ?_));intro _ z11 _ hba11 hz11 hE11 hg11;cases hba11
  obtain⟨_,_,_,rfl,_,_,_,_,_⟩:=ox hE11
  have hsv:=Sp.valid_at hc2' hz11
  refine fA 2 Z (o_load_A 0 H isAgg3 Z Z Z (hg11 2 _ Z) (aD Z2 (o_index_A 0 H i Z hchk7 underlying23 sizeOf139 Z Z Z hi2 aN aN ?_)));intro _ z13 _ hba13 hz13 hE13 _;cases hba13
  obtain⟨_,_,_,rfl,_,_,_,_,_⟩:=ox hE13
  have hzz13:z11=z13:=Option.some.inj (hz11.symm.trans hz13)
  subst hzz13
  refine fA 2 Z ?_
  have hcl14:=hchk7.length
  refine o_store_A 0 H sizeOf3 Z Z Z Z Z (by simp only[vc,List.length_cons,List.length_nil];omega) ?_;intro _ H
  have hchk14:=hchk7.put (x':=⟨z11.id,z11.bytes,z11.uses+1⟩) (off:=2) (vs:=[_]) hz13 (fun cs hl hE=>by obtain⟨_,_,_,rfl,h1,h2,_⟩:=hE;exact⟨_,_,_,rfl,h1,h2,⟨by first|omega|(dsimp only;omega),by first|omega|(dsimp only;omega)⟩⟩) (by simp only[vc,List.length_cons,List.length_nil];omega)
  refine q3 (W_region (pe 2 Z (o_index_A 0 H i Z hchk14 underlying23 sizeOf139 Z Z Z hi2 aN aN ?_)));intro _ _ _ hba15 hz15 hE15 hg15;cases hba15
  obtain⟨_,_,_,rfl,_,_,_,_,_⟩:=ox hE15
  rw[List.getElem?_set_self oM]at hz15
  simp only[Option.some.injEq]at hz15
  subst hz15
  refine fA 0 Z (o_load_A 0 H isAgg3 Z Z Z (hg15 0 _ Z) (aG Z (q3 (W_seq (q2 (mV Z (xr H Z2 (StoreValid_c _ _ (H.lendSubL [0]) _ _ (H.lendRdL (k:=0) (ks:=[0]) Z Z hchk14 aN aN)) ?_)))))));intro _ H
  refine pe 1 Z (q3 ?_)
  refine W_cond Z ?_ ?_
  ·intro hc17
   try simp only[nrm]at hc17
   refine q2 (xbs H Z7 ?_);intro _ _ _ H
   have H:=H.blkAcc 3 (k:=0) (n:=0) rfl rfl (by decide)
   refine pe 3 Z (q3 (W_ret (N_K_ret (ret_gen (rs:=[.tmp 4,.tmp 5,.tmp 6]) (vs:=[_,_,_]) results228 ⟨Z,Z,Z,trivial⟩ ?_))))
   have hN:Sp.StorePut list bytes=none:=by (have hl:Sp.like list bytes=some i:=hi1);simp[Sp.StorePut,hl,Sp.bump_at hz11,hc17]
   exact H.retO (k:=0) rfl (by rw[hN];exact⟨_,rfl,AccOf.mk aN (Chk.nil (E:=heldE) (sz:=3) (G:=G7)),(by simp[inI])⟩) (acc_nd _ _ _ _ _)
  intro hc17'
  try simp only[nrm]at hc17'
  refine W_skip (N_K (q2 (pe 5 Z (q3 (W_ret (ret_gen (rs:=[.tmp 4,.tmp 5,.tmp 6]) (vs:=[_,_,_]) results228 ⟨Z,Z,Z,trivial⟩ ?_))))))
  have hY:Sp.StorePut list bytes=some (list.set i ⟨z11.id,z11.bytes,z11.uses+1⟩,z11.id):=by (have hl:Sp.like list bytes=some i:=hi1);simp[Sp.StorePut,hc2',hc5',hl,Sp.bump_at hz11,hc17',hz11]
  exact H.retO (k:=0) rfl (by rw[hY];exact⟨_,rfl,AccOf.mk aN hchk14,⟨by dsimp only[Option.map,Option.getD];omega,by dsimp only[Option.map,Option.getD];omega⟩⟩) (acc_nd _ _ _ _ _)
 intro hc10'
 try simp only[nrm]at hc10'
 refine W_region (pe 2 Z (xc Z2 (l3With_c _ _ H.sub _ _ hlist _ _ hbytes oM) ?_))
 rintro _ _ ⟨G19,_,_,g19,rfl,⟨_,rfl,hchk19⟩,hp19,hq19,hs19⟩
 have H:=H.growO g19 hp19 hq19 hs19;obtain⟨_,_,rfl⟩:=H.accShape (k:=0) rfl
 refine⟨_,Z,?_⟩
 have hwl:=Sp.l3With_len list bytes
 have hfr:=Sp.free_lt list
 refine aG Z (q3 (W_seq (q2 (mV Z (xr H Z2 (StoreValid_c _ _ (H.lendSubL [0]) _ _ (H.lendRdL (k:=0) (ks:=[0]) Z Z hchk19 aN aN)) ?_)))));intro _ H
 refine pe 1 Z (q3 ?_)
 refine W_cond Z ?_ ?_
 ·intro hc21
  try simp only[nrm]at hc21
  refine q2 (xbs H Z7 ?_);intro _ _ _ H
  have H:=H.blkAcc 3 (k:=0) (n:=0) rfl rfl (by decide)
  refine pe 3 Z (q3 (W_ret (N_K_ret (ret_gen (rs:=[.tmp 4,.tmp 5,.tmp 6]) (vs:=[_,_,_]) results228 ⟨Z,Z,Z,trivial⟩ ?_))))
  have hN:Sp.StorePut list bytes=none:=by (have hl:Sp.like list bytes=none:=Sp.at_none hc10');simp[Sp.StorePut,hl,hc21]
  exact H.retO (k:=0) rfl (by rw[hN];exact⟨_,rfl,AccOf.mk aN (Chk.nil (E:=heldE) (sz:=3) (G:=G19)),(by simp[inI])⟩) (acc_nd _ _ _ _ _)
 intro hc21'
 try simp only[nrm]at hc21'
 refine W_skip (N_K (q2 (pe 5 Z (q3 (W_ret (ret_gen (rs:=[.tmp 4,.tmp 5,.tmp 6]) (vs:=[_,_,_]) results228 ⟨Z,Z,Z,trivial⟩ ?_))))))
 have hY:Sp.StorePut list bytes=some (Sp.l3With list bytes,(Sp.freeId list:Int)):=by (have hl:Sp.like list bytes=none:=Sp.at_none hc10');simp[Sp.StorePut,hc2',hc5',hl,hc21']
 exact H.retO (k:=0) rfl (by rw[hY];exact⟨_,rfl,AccOf.mk aN hchk19,⟨by dsimp only[Option.map,Option.getD];omega,by dsimp only[Option.map,Option.getD];omega⟩⟩) (acc_nd _ _ _ _ _)
theorem l4Cut_c (w0:World)(G0:PH)(hG:PSub G0 w0)(vbytes:Value)(bytes:List (Int))(hbytes:RdI G0 vbytes bytes)(hS:bytes.length≤1000000) :
  Calls Tryz.prog 227 #[vbytes] w0 (RetP w0 G0 (fun G v=>RdS LIM intsE 1 G v (Sp.l4Cut bytes))):=by
 obtain⟨abytes,kbytes,rfl⟩:=hbytes.shape
 have hlimbytes:bytes.length≤1099511627776:=hbytes.lim
 have H:=Hp.init hG
 refine calls_of_W (l:=[.slice abytes bytes.length kbytes]) func227 Z ntmps227 Z (q2 (aG Z (q1 (xbs H Z7 ?_))));intro _ _ _ H
 have H:=H.blkAcc 1 (k:=0) (n:=0) rfl rfl (by decide)
 refine aG Z (q3 (W_seq (q2 (aG Z (q3 (W_block ?_))))))
 refine W_lp (hf:=(Sub.cons (t:=0) Z (Sub.cons (t:=2) Z Sub.nil))) (J:=fun M w m=>∃(v:Value) (n:Nat) (cs:List Value) (xs:List (List Int)) (k:Nat) (G:PH),M=[(4,.int .i64 (8*(k:Int))),(3,v)]∧PLe G0 G∧Hp w0 G0 [] w G [acc 37 1 v n cs]∧(Chk intsE 1 G cs xs∧n=xs.length∧k≤(bytes.length+7) / 8∧xs.length=k∧xs=(List.range k).map (Sp.chunk bytes))∧m=(bytes.length+8-8*k)) (h0:=⟨_,_,_,[],0,_,Z,PLe.refl _,H,?inv,Z⟩) (round:=?round)
 case inv=>exact⟨(Chk.nil (E:=intsE) (sz:=1) (G:=G0)),by first|rfl|simp|(simp;omega)|omega,(by simp)⟩
 case round =>
  rintro _ _ _ ⟨v,n,cs,xs,k,G2,rfl,hle2,H,hinv2,rfl⟩
  have hbytes:=hbytes.up hle2
  obtain⟨hchk2_0,_,hinv2⟩:=hinv2
  obtain⟨_,_,rfl⟩:=H.accShape (k:=0) rfl
  obtain⟨_,hxl,hxs⟩:=hinv2
  refine W_seq (q2 (pe 2 Z (lN Z (pe 1 Z (q3 ?_)))))
  refine W_cond Z ?_ ?_
  ·intro hc3
   try simp only[nrm]at hc3
   refine W_skip (N_K (W_seq (W_block (W_region (mV Z (xbs H Z7 ?_))))));intro _ _ _ H
   have H:=H.blkAcc 1 (k:=0) (n:=0) rfl rfl (by decide)
   refine pe 3 Z (aD Z2 (mV Z (lN Z (o_min Z Z Z ?_))))
   have hcap6:=hbytes.cap;try simp only[List.length_set,List.length_append,List.length_take,List.length_drop,List.length_replicate]at hcap6
   refine o_slice (i:=(8*k)) (j:=(min (8*k+8) bytes.length)) underlying37 sizeOf3 Z Z Z Z oM oM aN aN ?_
   have hsl6:=hbytes.part (i:=(8*k)) (j:=(min (8*k+8) bytes.length)) oM oM
   have hsn1:=hsl6.len
   refine o_append_P 0 H hsl6 (by intro _ cs hz _ hu;obtain⟨rfl,_⟩:=hz;simp at hu;subst hu;rfl) (sz:=1) (bytes:=8) underlying37 typeInfo3 ⟨_,rfl,rfl⟩ rfl rfl rfl rfl rfl rfl rfl oM rfl ?_;intro _ _ css7 hcl7 hcs7 H
   have hchk7:Chk intE 1 G2 ([]++css7.flatten) _:=⟨css7,rfl,hcl7,hcs7⟩
   obtain⟨_,_,rfl⟩:=H.accShape (k:=0) rfl
   refine xbs H Z7 ?_;intro _ _ _ H
   refine o_append1 1 H (sz:=1) (bytes:=24) underlying266 typeInfo37 ⟨_,Z,Z⟩ Z Z Z Z Z Z Z Z Z Z oM Z ?_;intro _ _ H
   obtain⟨_,H,hsg10,hsr10⟩:=H.shut' (k:=0) rfl hchk7 aN aN
   have hchk2_0:=hchk2_0.up hsg10
   have hle2:=hle2.trans hsg10
   have hchk9:=hchk2_0.snoc (show intsE _ (Sp.chunk bytes k) _ from⟨_,_,_,rfl,hsr10⟩) rfl
   obtain⟨_,_,rfl⟩:=H.accShape (k:=0) rfl
   refine aG Z (R_nil (N_B (N_K (W_region (mV Z (aD Z2 (aG Z (R_nil ?_))))))))
   refine N_lp (hJ:=⟨_,_,_,(xs++[(Sp.chunk bytes k)]),k+1,_,Z,hle2,H,?inv,Z⟩) (hm:=?hm)
   case hm=>omega
   case inv=>exact⟨hchk9,aN,(by exact⟨by omega,by simp[hxl],by rw[hxs,List.range_succ,List.map_append];rfl⟩)⟩
  intro hc3'
  try simp only[nrm]at hc3'
  refine W_exit (N_K_exit (N_LP_exit (N_B_same (N_K (q2 (pe 2 Z (q3 (W_ret (rt1 results227 Z ?_)))))))))
  obtain⟨_,H,hsg512,hsr512⟩:=H.shut' (k:=0) rfl hchk2_0 aN aN
  obtain rfl:k=(bytes.length+7) / 8:=by omega
  exact H.retP (by rw[Sp.l4Cut,←hxs];exact hsr512)
theorem FileStore_c (w0:World)(G0:PH)(hG:PSub G0 w0)(vlist:Value)(list:List (BHeld))(hlist:RdH G0 vlist list)(vbytes:Value)(bytes:List (Int))(hbytes:RdI G0 vbytes bytes)(hS:bytes.length≤1000000) :
  Calls Tryz.prog 198 #[vlist,vbytes] w0 (RetO w0 G0 (fun G v r=>∃u u1,v= .tuple #[u,u1,.bool (Sp.FileStore list bytes).isSome]∧AccOf heldE 3 139 (((Sp.FileStore list bytes).map (·.1)).getD []) G u r∧RdI G u1 (((Sp.FileStore list bytes).map (·.2)).getD []))):=by
 obtain⟨alist,klist,rfl⟩:=hlist.shape
 have hlimlist:list.length≤1099511627776:=hlist.lim
 obtain⟨abytes,kbytes,rfl⟩:=hbytes.shape
 have hlimbytes:bytes.length≤1099511627776:=hbytes.lim
 have H:=Hp.init hG
 refine calls_of_W (l:=[.slice alist list.length klist,.slice abytes bytes.length kbytes]) func198 Z ntmps198 Z (q2 (pe 3 Z (q3 (W_seq (q2 (mV Z (xr H Z2 (StoreValid_c _ _ H.sub _ _ hlist) ?_)))))));intro _ H
 refine pe 2 Z ?_
 refine R_case (t:=17) Z ?_ ?_
 ·intro hc2
  try simp only[nrm]at hc2
  refine pe 4 Z (q3 (W_true Z (q2 (xbs H Z7 ?_))));intro _ _ _ H
  have H:=H.blkAcc 3 (k:=0) (n:=0) rfl rfl (by decide)
  refine xbs H Z7 ?_;intro _ _ _ H
  have H:=H.blkAcc 1 (k:=0) (n:=0) rfl rfl (by decide)
  refine pe 3 Z (q3 (W_ret (N_K_ret (ret_gen (rs:=[.tmp 4,.tmp 5,.tmp 6]) (vs:=[_,_,_]) results198 ⟨Z,Z,Z,trivial⟩ ?_))))
  obtain⟨G505,H,hsg505,hsr505⟩:=H.shut' (k:=0) rfl (Chk.nil (E:=intE) (sz:=1) (G:=G0)) aN aN
  have hY:Sp.FileStore list bytes=none:=by simp[Sp.FileStore,hc2]
  exact H.retO (k:=0) rfl (by rw[hY];exact⟨_,_,rfl,AccOf.mk aN (Chk.nil (E:=heldE) (sz:=3) (G:=G505)),hsr505⟩) (acc_nd _ _ _ _ _)
 intro hc2'
 try simp only[nrm]at hc2'
 refine pe 1 Z (gR Z (xr H Z2 (FileValid_c _ _ H.sub _ _ hbytes) ?_));intro _ H
 refine pe 2 Z (q3 ?_)
 refine W_cond Z ?_ ?_
 ·intro hc6
  try simp only[nrm]at hc6
  refine q2 (xbs H Z7 ?_);intro _ _ _ H
  have H:=H.blkAcc 3 (k:=0) (n:=0) rfl rfl (by decide)
  refine xbs H Z7 ?_;intro _ _ _ H
  have H:=H.blkAcc 1 (k:=0) (n:=0) rfl rfl (by decide)
  refine pe 3 Z (q3 (W_ret (N_K_ret (ret_gen (rs:=[.tmp 4,.tmp 5,.tmp 6]) (vs:=[_,_,_]) results198 ⟨Z,Z,Z,trivial⟩ ?_))))
  obtain⟨G509,H,hsg509,hsr509⟩:=H.shut' (k:=0) rfl (Chk.nil (E:=intE) (sz:=1) (G:=G0)) aN aN
  have hY:Sp.FileStore list bytes=none:=by simp[Sp.FileStore,hc6]
  exact H.retO (k:=0) rfl (by rw[hY];exact⟨_,_,rfl,AccOf.mk aN (Chk.nil (E:=heldE) (sz:=3) (G:=G509)),hsr509⟩) (acc_nd _ _ _ _ _)
 intro hc6'
 try simp only[nrm]at hc6'
 refine W_skip (N_K (q2 (mV Z (xc Z2 (l3Copy_c _ _ H.sub _ _ hlist) ?_))))
 rintro _ _ ⟨_,_,_,g9,rfl,⟨_,rfl,hchk9⟩,hp9,hq9,hs9⟩
 have H:=H.growO g9 hp9 hq9 hs9;obtain⟨_,_,rfl⟩:=H.accShape (k:=0) rfl
 have hbytes:=hbytes.up g9.le
 refine⟨_,Z,?_⟩
 refine aG Z (q1 (xbs H Z7 ?_));intro _ _ _ H
 have H:=H.blkAcc 1 (k:=0) (n:=0) rfl rfl (by decide)
 refine aG Z (q1 (mV Z (xc Z2 (l4Cut_c _ _ H.sub _ _ hbytes oM) ?_)))
 rintro _ _ ⟨G11,_,g11,rfl,hr11_0⟩
 have H:=H.grow g11
 have hchk9:=hchk9.up g11.le
 obtain⟨_,_,rfl⟩:=hr11_0.shape;have hx_hr11_0:_≤1099511627776:=hr11_0.lim
 refine⟨_,Z,?_⟩
 refine aG Z (q3 (W_seq (q2 (aG Z (q3 (W_block ?_))))))
 refine W_lp (hf:=(Sub.cons (t:=9) Z Sub.nil)) (J:=fun M w m=>∃(v:Value) (n:Nat) (cs:List Value) (xs:List (BHeld)) (v1:Value) (n1:Nat) (cs1:List Value) (xs1:List (Int)) (k:Nat) (G:PH),M=[(10,.int .i64 (k:Int)),(7,v),(8,v1)]∧PLe G11 G∧Hp w0 G0 [] w G [acc 3 1 v1 n1 cs1,acc 139 3 v n cs]∧(Chk heldE 3 G cs xs∧n=xs.length∧Chk intE 1 G cs1 xs1∧n1=xs1.length∧k≤(Sp.l4Cut bytes).length∧xs.length≤1000∧xs1.length≤k∧Sp.foldB Sp.put1 ((Sp.l4Cut bytes).take k) (some (list,[]))=some (xs,xs1))∧m=((Sp.l4Cut bytes).length-k)) (h0:=⟨_,_,_,list,_,_,_,[],0,_,Z,PLe.refl _,H,?inv,Z⟩) (round:=?round)
 case inv=>exact⟨hchk9,(by first|rfl|simp|(simp;omega)|omega),(Chk.nil (E:=intE) (sz:=1) (G:=G11)),by first|rfl|simp|(simp;omega)|omega,(by exact⟨by omega,by have:=Sp.valid_len hc2';omega,by simp,by simp[Sp.foldB]⟩)⟩
 case round =>
  rintro _ _ _ ⟨v,n,cs,xs,v1,n1,cs1,xs1,k,_,rfl,hle12,H,hinv12,rfl⟩
  have hr11_0:=hr11_0.up hle12
  obtain⟨hchk12_0,_,hinv12⟩:=hinv12
  obtain⟨_,_,rfl⟩:=H.accShape (k:=1) rfl
  obtain⟨hchk12_1,_,hinv12⟩:=hinv12
  obtain⟨_,_,rfl⟩:=H.accShape (k:=0) rfl
  obtain⟨_,_,_,hf⟩:=hinv12
  refine W_seq (q2 (pe 2 Z (lN Z (pe 1 Z (q3 ?_)))))
  refine W_cond Z ?_ ?_
  ·intro hc13
   try simp only[nrm]at hc13
   refine W_skip (N_K (W_seq (W_block (q2 (pe 3 Z (iP k hr11_0 Z3 Z ?_))))));intro _ _ z14 _ hz14 hE14 hrow14
   obtain⟨_,_,_,rfl,hr14⟩:=hE14;have hn_hr14:=hr14.len;have hx_hr14:_≤1099511627776:=hr14.lim
   refine lP H hrow14 0 Z2 ?_
   obtain⟨_,H,hsg16,hsr16⟩:=H.shut' (k:=1) rfl hchk12_0 aN aN
   have hchk12_1:=hchk12_1.up hsg16
   have hr14:=hr14.up hsg16
   have hle12:=hle12.trans hsg16
   refine xc Z2 (StorePut_c _ _ H.sub _ _ hsr16 _ _ hr14 oM) ?_
   rintro _ _ ⟨G15,_,_,g15,rfl,⟨_,rfl,⟨_,rfl,hchk15⟩,⟨hfa15,hfb15⟩⟩,hp15,hq15,hs15⟩
   have H:=H.growO g15 hp15 hq15 hs15;obtain⟨_,_,rfl⟩:=H.accShape (k:=0) rfl
   have hchk12_1:=hchk12_1.up g15.le
   have hle12:=hle12.trans g15.le
   refine⟨_,Z,?_⟩
   refine pe 7 Z (q3 (W_seq (q2 (pe 2 Z (q3 ?_)))))
   refine W_cond Z ?_ ?_
   ·intro hc17
    try simp only[nrm]at hc17
    refine q2 (xbs H Z7 ?_);intro _ _ _ H
    have H:=H.blkAcc 3 (k:=0) (n:=0) rfl rfl (by decide)
    refine xbs H Z7 ?_;intro _ _ _ H
    have H:=H.blkAcc 1 (k:=0) (n:=0) rfl rfl (by decide)
    refine pe 3 Z (q3 (W_ret (N_K_ret (N_B_ret (N_K_ret (N_LP_ret (N_B_ret (N_K_ret (ret_gen (rs:=[.tmp 4,.tmp 5,.tmp 6]) (vs:=[_,_,_]) results198 ⟨Z,Z,Z,trivial⟩ ?_)))))))))
    obtain⟨G520,H,hsg520,hsr520⟩:=H.shut' (k:=0) rfl (Chk.nil (E:=intE) (sz:=1) (G:=G15)) aN aN
    have hY:Sp.FileStore list bytes=none:=by (have hno:Sp.StorePut xs z14=none:=by simpa using hc17);simp only[Sp.FileStore,hc2',hc6',Bool.and_self,if_true];exact Sp.foldB_stop hf hz14 (by simp[Sp.put1,hno])
    exact H.retO (k:=0) rfl (by rw[hY];exact⟨_,_,rfl,AccOf.mk aN (Chk.nil (E:=heldE) (sz:=3) (G:=G520)),hsr520⟩) (acc_nd _ _ _ _ _)
   intro hc17'
   try simp only[nrm]at hc17'
   obtain⟨p,hsp⟩:=Option.isSome_iff_exists.1 hc17'
   rw[hsp]at H hchk15 hfa15 hfb15 ⊢
   dsimp only[Option.map,Option.getD]at H hchk15 hfa15 hfb15
   refine W_skip (N_K (q2 (pe 2 Z (q3 (W_region (pe 2 Z (xbs H Z7 ?_)))))));intro _ _ _ H
   refine o_append1 1 H (sz:=1) (bytes:=8) underlying37 typeInfo3 ⟨_,Z,Z⟩ Z Z Z Z Z Z Z Z Z Z oM Z ?_;intro _ _ H
   have hchk21:=hchk12_1.snoc (show intE _ p.2 _ from⟨rfl,oO⟩) rfl
   obtain⟨_,_,rfl⟩:=H.accShape (k:=1) rfl
   refine aG Z (R_nil (N_B (N_K (W_region (mV Z (aD Z2 (aG Z (R_nil ?_))))))))
   have H:=H.tF 1
   refine N_lp (hJ:=⟨_,_,_,p.1,_,_,_,(xs1++[p.2]),k+1,_,Z,hle12,H,?inv,Z⟩) (hm:=?hm)
   case hm=>omega
   case inv=>exact⟨hchk15,aN,hchk21,aN,(by exact⟨by omega,by have:=Sp.put_len hsp;omega,by simp;omega,Sp.foldB_succ hf hz14 (by simp[Sp.put1,hsp])⟩)⟩
  intro hc13'
  try simp only[nrm]at hc13'
  refine W_exit (N_K_exit (N_LP_exit (N_B_same (N_K (q2 (pe 5 Z (q3 (W_ret (ret_gen (rs:=[.tmp 4,.tmp 5,.tmp 6]) (vs:=[_,_,_]) results198 ⟨Z,Z,Z,trivial⟩ ?_)))))))))
  obtain⟨_,H,hsg523,hsr523⟩:=H.shut' (k:=0) rfl hchk12_1 aN aN
  have hchk12_0:=hchk12_0.up hsg523
  have hY:Sp.FileStore list bytes=some (xs,xs1):=by simp only[Sp.FileStore,hc2',hc6',Bool.and_self,if_true];exact Sp.foldB_all hf oM
  exact H.retO (k:=0) rfl (by rw[hY];exact⟨_,_,rfl,AccOf.mk aN hchk12_0,hsr523⟩) (acc_nd _ _ _ _ _)
theorem VolumeValid_c (w0:World)(G0:PH)(hG:PSub G0 w0)(cv:List Value)(v:BVol)(hv:volE G0 v cv) :
  Calls Tryz.prog 209 #[.agg cv.toArray] w0 (Rets w0 (.bool (Sp.VolumeValid v))):=by
 obtain⟨_,_,_,_,_,_,rfl,hr1,hr1',⟨_,_⟩,_,_⟩:=ox hv
 have H:=Hp.init hG
 refine calls_of_W (l:=[_]) func209 Z ntmps209 Z (q2 (o_box H Z Z Z ?_));intro b2 _ _ H
 refine aG Z (q3 (W_seq (q2 (fA 0 Z (lB 0 H Z3 (xr H Z2 (StoreValid_c _ _ H.sub _ _ hr1) ?_))))));intro _ H
 refine pe 2 Z ?_
 refine R_case (t:=8) Z ?_ ?_
 ·intro hc4
  try simp only[nrm]at hc4
  refine pe 13 Z (q3 (W_true Z (q2 (aG Z (q3 (W_ret (N_K_ret (rt1 results209 Z ?_))))))))
  exact H.rets (congrArg Value.bool (by simp[Sp.VolumeValid,hc4]))
 intro hc4'
 try simp only[nrm]at hc4'
 refine gR Z (fA 1 Z (gR Z (lB 0 H Z3 (gR Z (xr H Z2 (TreeValid_c _ _ H.sub _ _ hr1') ?_)))));intro _ H
 refine pe 3 Z ?_
 refine R_case (t:=14) Z ?_ ?_
 ·intro hc6
  try simp only[nrm]at hc6
  refine pe 7 Z (q3 (W_true Z (q2 (aG Z (q3 (W_ret (N_K_ret (rt1 results209 Z ?_))))))))
  exact H.rets (congrArg Value.bool (by simp[Sp.VolumeValid,hc6]))
 intro hc6'
 try simp only[nrm]at hc6'
 refine gR Z (fA 0 Z (gR Z (lB 0 H Z3 (gR Z (fA 1 Z (gR Z (lB 0 H Z3 (gR Z (xr H Z2 (l11Files_c _ _ H.sub _ _ hr1 _ _ hr1') ?_)))))))));intro _ H
 refine pe 2 Z (q3 ?_)
 refine W_cond Z ?_ ?_
 ·intro hc8
  try simp only[nrm]at hc8
  refine q2 (aG Z (q3 (W_ret (N_K_ret (rt1 results209 Z ?_)))))
  exact H.rets (congrArg Value.bool (by simp[Sp.VolumeValid,hc8]))
 intro hc8'
 try simp only[nrm]at hc8'
 refine W_skip (N_K (W_seq (q2 (aG Z (q3 (W_block ?_))))))
 obtain⟨ln9,hln9,H⟩:=H.name (k:=0) rfl
 refine W_lp (hf:=(Sub.cons (t:=1) Z Sub.nil)) (J:=fun M w m=>∃(k:Nat) (G:PH),M=[(3,.int .i64 (k:Int))]∧PLe G0 G∧Hp w0 G0 [] w G [blk b2 (cl ln9 132)]∧(k≤v.store.length∧(v.store.take k).all (Sp.usesOk v.tree)=true)∧m=(v.store.length-k)) (h0:=⟨0,_,Z,PLe.refl _,H,?inv,Z⟩) (round:=?round)
 case inv=>exact⟨by omega,by simp⟩
 case round =>
  rintro _ _ _ ⟨k,G10,rfl,hle10,H,hinv10,rfl⟩
  subst hln9
  have hr1:=hr1.up hle10
  have hr1':=hr1'.up hle10
  obtain⟨_,hall⟩:=hinv10
  refine W_seq (q2 (mV Z (fA 0 Z (lB 0 H Z3 (lN Z (pe 1 Z (q3 ?_)))))))
  refine W_cond Z ?_ ?_
  ·intro hc11
   try simp only[nrm]at hc11
   refine W_skip (N_K (W_seq (W_block (W_seq (W_drawK [0] 16 H kR Z ?_)))));intro _ H;have hd12:=PLe.refl G10
   refine dF 0 1 Z2 (dB 1 0 Z4 (dF 2 0 Z2 (dB 3 0 Z4 (dE 4 Z2 ?_))))
   have hl13:=hr1.len
   obtain⟨_,_,z13,_,ha13,hz13,hq13,hE13,hrow13,_⟩:=hr1.at (i:=k) oM
   clear hq13
   obtain⟨_,_,_,rfl,_,_,_,_,_⟩:=ox hE13
   refine dI 5 3 k ha13 Z3 Z (dF 6 0 Z2 (dP 7 hrow13 0 Z3 (dF 9 0 Z2 (dB 10 0 Z4 (dE 11 Z2 ?_)))))
   have hl14:=hr1.len
   obtain⟨_,_,z14,_,ha14,hz14,hq14,hE14,hrow14,_⟩:=hr1.at (i:=k) oM
   clear hq14
   obtain⟨_,_,_,rfl,_,_,_,_,_⟩:=ox hE14
   have hzz14:z13=z14:=Option.some.inj (hz13.symm.trans hz14)
   subst hzz14
   refine dI 12 3 k ha14 Z3 Z (dF 13 2 Z2 (dP 14 hrow14 2 Z3 (r1 8 Z (xr H Z2 (l11Count_c _ _ H.sub _ _ hr1' _ hc6') ?_))));intro _ H
   refine q4 H hd12 (dE 15 Z2 (rz (N_K ?_)))
   refine W_cond Z ?_ ?_
   ·intro hc16
    try simp only[nrm]at hc16
    refine q2 (aG Z (q3 (W_ret (N_B_ret (N_K_ret (N_LP_ret (N_B_ret (N_K_ret (rt1 results209 Z ?_)))))))))
    exact H.rets (congrArg Value.bool (by rw[Sp.VolumeValid,Sp.all_false hz13 (by simp[Sp.usesOk, *])];rfl))
   intro hc16'
   try simp only[nrm]at hc16'
   refine W_skip (N_B (N_K (W_region (mV Z (aD Z2 (aG Z (R_nil ?_)))))))
   refine N_lp (hJ:=⟨k+1,_,Z,hle10,H,?inv,Z⟩) (hm:=?hm)
   case hm=>omega
   case inv=>exact⟨by omega,Sp.all_take hall hz13 (by simp[Sp.usesOk, *])⟩
  intro hc11'
  try simp only[nrm]at hc11'
  refine W_exit (N_K_exit (N_LP_exit (N_B_same (N_K (q2 (aG Z (q3 (W_ret (rt1 results209 Z ?_)))))))))
  obtain rfl:k=v.store.length:=by omega
  rw[List.take_length]at hall
  exact H.rets (congrArg Value.bool (by simp[Sp.VolumeValid,hall,hc4',hc6',hc8']))
theorem VolumeDir_c (w0:World)(G0:PH)(hG:PSub G0 w0)(cv:List Value)(v:BVol)(hv:volE G0 v cv)(path:Bs)(hpath:path.length≤16777216) :
  Calls Tryz.prog 177 #[.agg cv.toArray,str path] w0 (RetO w0 G0 (fun G val r=>∃u u1,val= .tuple #[.agg #[u,u1],.bool (Sp.VolumeDir v path).isSome]∧AccOf heldE 3 139 (((Sp.VolumeDir v path).map (·.store)).getD []) G u r∧RdItems G u1 (((Sp.VolumeDir v path).map (·.tree)).getD []))):=by
 obtain⟨_,_,_,_,_,_,rfl,hr1,hr1',⟨_,_⟩,_,_⟩:=ox hv
 have H:=Hp.init hG
 refine calls_of_W (l:=[_,str path]) func177 Z ntmps177 Z (q2 (o_box H Z Z Z ?_));intro _ _ _ H
 refine xal H Z ?_;intro _ _ _ H
 refine aG Z (q1 (fA 1 Z (lB 1 H Z3 (mV Z (o_build bf41 Z Z Z (xc Z2 (TreePut_c _ _ H.sub _ _ hr1' _ ⟨path,true,[]⟩ ⟨_,_,_,Z,hpath,(RdS.nil _ _ _)⟩) ?_))))))
 rintro _ _ ⟨_,_,g4,rfl,_,rfl,hr4_0⟩
 have H:=H.grow g4
 have hr1:=hr1.up g4.le
 have hr1':=hr1'.up g4.le
 obtain⟨_,_,rfl⟩:=hr4_0.shape;have hx_hr4_0:_≤1099511627776:=hr4_0.lim
 refine⟨_,Z,?_⟩
 refine pe 5 Z (q3 (W_seq (q2 (lA 1 2 H Z4 (xr H Z2 (VolumeValid_c _ _ H.sub _ v ⟨_,_,_,_,_,_,Z,hr1,hr1'⟩) ?_)))));intro _ H
 refine pe 2 Z ?_
 refine R_case (t:=19) Z ?_ ?_
 ·intro hc6
  try simp only[nrm]at hc6
  refine pe 3 Z (q3 (W_true Z (q2 (o_build bf132 Z Z Z (xst 0 H Z8 ?_)))));intro _ H
  refine aG Z (q3 (W_ret (N_K_ret (ret_gen (rs:=[.cell 4 132,.tmp 5]) (vs:=[_,_]) results177 ⟨⟨_,Z,load_blk 0 H isAgg132 sizeOf132 Z Z Z⟩,Z,trivial⟩ ?_))))
  have hN:Sp.VolumeDir v path=none:=by simp[Sp.VolumeDir,hc6]
  have H:=H.addNil 139 3
  exact H.retO (k:=0) rfl (by rw[hN];exact⟨_,_,rfl,AccOf.mk rfl Chk.nil,RdS.nil _ _ _⟩) (acc_nd _ _ _ _ _)
 intro hc6'
 try simp only[nrm]at hc6'
 refine pe 3 Z (q3 ?_)
 refine W_cond Z ?_ ?_
 ·intro hc8
  try simp only[nrm]at hc8
  refine q2 (o_build bf132 Z Z Z (xst 0 H Z8 ?_));intro _ H
  refine aG Z (q3 (W_ret (N_K_ret (ret_gen (rs:=[.cell 4 132,.tmp 5]) (vs:=[_,_]) results177 ⟨⟨_,Z,load_blk 0 H isAgg132 sizeOf132 Z Z Z⟩,Z,trivial⟩ ?_))))
  have hN:Sp.VolumeDir v path=none:=by (have hno:Sp.TreePut v.tree ⟨path,true,[]⟩=none:=by simpa using hc8);simp[Sp.VolumeDir,hno]
  have H:=H.addNil 139 3
  exact H.retO (k:=0) rfl (by rw[hN];exact⟨_,_,rfl,AccOf.mk rfl Chk.nil,RdS.nil _ _ _⟩) (acc_nd _ _ _ _ _)
 intro hc8'
 try simp only[nrm]at hc8'
 refine W_skip (N_K (q2 (fA 0 Z (lB 1 H Z3 (xc Z2 (l3Copy_c _ _ H.sub _ _ hr1) ?_)))))
 rintro _ _ ⟨_,_,_,g10,rfl,⟨_,rfl,hchk10⟩,hp10,hq10,hs10⟩
 have H:=H.growO g10 hp10 hq10 hs10;obtain⟨_,_,rfl⟩:=H.accShape (k:=0) rfl
 have hr4_0:=hr4_0.up g10.le
 refine⟨_,Z,?_⟩
 refine mV Z (o_build bf132 Z Z Z (xst 1 H Z8 ?_));intro _ H
 refine aG Z (q3 (W_ret (ret_gen (rs:=[.cell 4 132,.tmp 5]) (vs:=[_,_]) results177 ⟨⟨_,Z,load_blk 1 H isAgg132 sizeOf132 Z Z Z⟩,Z,trivial⟩ ?_)))
 have hY:Sp.VolumeDir v path=some ⟨v.store,(Sp.TreePut v.tree ⟨path,true,[]⟩).getD []⟩:=by (obtain⟨_,hp⟩:=Option.isSome_iff_exists.1 hc8');simp[Sp.VolumeDir,hp,hc6']
 exact H.retO (k:=0) rfl (by rw[hY];exact⟨_,_,rfl,AccOf.mk aN hchk10,hr4_0⟩) (acc_nd _ _ _ _ _)
theorem l11Write_c (w0:World)(G0:PH)(hG:PSub G0 w0)(cv:List Value)(v:BVol)(hv:volE G0 v cv)(path:Bs)(hpath:path.length≤16777216)(vbytes:Value)(bytes:List (Int))(hbytes:RdI G0 vbytes bytes)(hS:bytes.length≤1000000) :
  Calls Tryz.prog 168 #[.agg cv.toArray,str path,vbytes] w0 (RetO w0 G0 (fun G val r=>∃u u1,val= .tuple #[.agg #[u,u1],.bool (Sp.l11Write v path bytes).isSome]∧AccOf heldE 3 139 (((Sp.l11Write v path bytes).map (·.store)).getD []) G u r∧RdItems G u1 (((Sp.l11Write v path bytes).map (·.tree)).getD []))):=by
 obtain⟨_,_,_,_,_,_,rfl,hr1,hr1',⟨_,_⟩,_,_⟩:=ox hv
 obtain⟨abytes,kbytes,rfl⟩:=hbytes.shape
 have hlimbytes:bytes.length≤1099511627776:=hbytes.lim
 have H:=Hp.init hG
 refine calls_of_W (l:=[_,str path,.slice abytes bytes.length kbytes]) func168 Z ntmps168 Z (q2 (o_box H Z Z Z ?_));intro _ _ _ H
 refine xal H Z ?_;intro _ _ _ H
 refine aG Z (q1 (fA 0 Z (lB 1 H Z3 (mV Z (xc Z2 (FileStore_c _ _ H.sub _ _ hr1 _ _ hbytes oM) ?_)))))
 rintro _ _ ⟨_,_,_,g4,rfl,⟨_,_,rfl,⟨_,rfl,hchk4⟩,hr4_1⟩,hp4,hq4,hs4⟩
 have H:=H.growO g4 hp4 hq4 hs4;obtain⟨_,_,rfl⟩:=H.accShape (k:=0) rfl
 have hr1':=hr1'.up g4.le
 obtain⟨_,_,rfl⟩:=hr4_1.shape;have hx_hr4_1:_≤1099511627776:=hr4_1.lim
 refine⟨_,Z,?_⟩
 have hfl:=Sp.fileStore_len v.store bytes
 refine pe 7 Z (q1 (fA 1 Z (lB 2 H Z3 (pe 2 Z (o_build bf41 Z Z Z (xc Z2 (TreePut_c _ _ H.sub _ _ hr1' _ ⟨path,false,((Sp.FileStore v.store bytes).map (·.2)).getD []⟩ ⟨_,_,_,Z,hpath,hr4_1⟩) ?_))))))
 rintro _ _ ⟨_,_,g5,rfl,_,rfl,hr5_0⟩
 have H:=H.grow g5
 have hr1':=hr1'.up g5.le
 have hchk4:=hchk4.up g5.le
 obtain⟨_,_,rfl⟩:=hr5_0.shape;have hx_hr5_0:_≤1099511627776:=hr5_0.lim
 refine⟨_,Z,?_⟩
 refine pe 5 Z (q3 (W_seq (q2 (pe 3 Z ?_))))
 refine R_case (t:=35) Z ?_ ?_
 ·intro hc6
  try simp only[nrm]at hc6
  refine pe 3 Z (q3 (W_true Z (q2 (o_build bf132 Z Z Z (xst 1 H Z8 ?_)))));intro _ H
  refine aG Z (q3 (W_ret (N_K_ret (ret_gen (rs:=[.cell 6 132,.tmp 7]) (vs:=[_,_]) results168 ⟨⟨_,Z,load_blk 1 H isAgg132 sizeOf132 Z Z Z⟩,Z,trivial⟩ ?_))))
  have hN:Sp.l11Write v path bytes=none:=by exact Sp.l11Write_1 hc6
  have H:=H.addNil 139 3
  exact H.retO (k:=0) rfl (by rw[hN];exact⟨_,_,rfl,AccOf.mk rfl Chk.nil,RdS.nil _ _ _⟩) (acc_nd _ _ _ _ _)
 intro hc6'
 try simp only[nrm]at hc6'
 refine pe 3 Z (q3 ?_)
 refine W_cond Z ?_ ?_
 ·intro hc8
  try simp only[nrm]at hc8
  refine q2 (o_build bf132 Z Z Z (xst 1 H Z8 ?_));intro _ H
  refine aG Z (q3 (W_ret (N_K_ret (ret_gen (rs:=[.cell 6 132,.tmp 7]) (vs:=[_,_]) results168 ⟨⟨_,Z,load_blk 1 H isAgg132 sizeOf132 Z Z Z⟩,Z,trivial⟩ ?_))))
  have hN:Sp.l11Write v path bytes=none:=by exact Sp.l11Write_2 hc8
  have H:=H.addNil 139 3
  exact H.retO (k:=0) rfl (by rw[hN];exact⟨_,_,rfl,AccOf.mk rfl Chk.nil,RdS.nil _ _ _⟩) (acc_nd _ _ _ _ _)
 intro hc8'
 try simp only[nrm]at hc8'
 refine W_skip (N_K (q2 (fA 1 Z (lB 2 H Z3 (mV Z (xc Z2 (l11Ids_c _ _ H.sub _ _ hr1' _ hpath) ?_))))))
 rintro _ _ ⟨_,_,g10,rfl,hr10_0⟩
 have H:=H.grow g10
 have hchk4:=hchk4.up g10.le
 have hr5_0:=hr5_0.up g10.le
 obtain⟨_,_,rfl⟩:=hr10_0.shape;have hx_hr10_0:_≤1099511627776:=hr10_0.lim
 refine⟨_,Z,?_⟩
 refine aG Z (q3 (W_seq (q2 (mV Z (lN Z (pe 1 Z (q3 ?_)))))))
 refine W_cond Z ?_ ?_
 ·intro hc11
  try simp only[nrm]at hc11
  refine q2 (pe 2 Z (iP 0 hr10_0 Z3 Z ?_));intro _ _ z12 _ hz12 hE12 hrow12
  obtain⟨_,_,_,rfl,_,hr12,_,_⟩:=ox hE12
  refine fA 2 Z (lP H hrow12 2 Z2 ?_)
  obtain⟨_,H,hsg14,hsr14⟩:=H.shut' (k:=0) rfl hchk4 aN aN
  have hr5_0:=hr5_0.up hsg14
  have hr12:=hr12.up hsg14
  refine xc Z2 (FileFree_c _ _ H.sub _ _ hsr14 _ _ hr12) ?_
  rintro _ _ ⟨_,_,_,g13,rfl,⟨_,rfl,⟨_,rfl,hchk13⟩⟩,hp13,hq13,hs13⟩
  have H:=H.growO g13 hp13 hq13 hs13;obtain⟨_,_,rfl⟩:=H.accShape (k:=0) rfl
  have hr5_0:=hr5_0.up g13.le
  refine⟨_,Z,?_⟩
  refine pe 5 Z (q3 (W_region (pe 2 Z (q1 (pe 2 Z (o_build bf132 Z Z Z (xst 1 H Z8 ?_)))))));intro _ H
  refine aG Z (q3 (W_ret (ret_gen (rs:=[.cell 6 132,.tmp 7]) (vs:=[_,_]) results168 ⟨⟨_,Z,load_blk 1 H isAgg132 sizeOf132 Z Z Z⟩,Z,trivial⟩ ?_)))
  have hY:Sp.l11Write v path bytes=some ⟨(Sp.FileFree (((Sp.FileStore v.store bytes).map (·.1)).getD []) z12.ids).getD [],(Sp.TreePut v.tree ⟨path,false,((Sp.FileStore v.store bytes).map (·.2)).getD []⟩).getD []⟩:=by rw[Sp.l11Write_3 hc6' hc8',Sp.freeOld_at hz12]
  exact H.retO (k:=0) rfl (by rw[hY];exact⟨_,_,rfl,AccOf.mk aN hchk13,hr5_0⟩) (acc_nd _ _ _ _ _)
 intro hc11'
 try simp only[nrm]at hc11'
 refine W_skip (N_K (q2 (pe 2 Z (o_build bf132 Z Z Z (xst 1 H Z8 ?_)))));intro _ H
 refine aG Z (q3 (W_ret (ret_gen (rs:=[.cell 6 132,.tmp 7]) (vs:=[_,_]) results168 ⟨⟨_,Z,load_blk 1 H isAgg132 sizeOf132 Z Z Z⟩,Z,trivial⟩ ?_)))
 have hY:Sp.l11Write v path bytes=some ⟨((Sp.FileStore v.store bytes).map (·.1)).getD [],(Sp.TreePut v.tree ⟨path,false,((Sp.FileStore v.store bytes).map (·.2)).getD []⟩).getD []⟩:=by rw[Sp.l11Write_3 hc6' hc8',Sp.freeOld_nil oM]
 exact H.retO (k:=0) rfl (by rw[hY];exact⟨_,_,rfl,AccOf.mk aN hchk4,hr5_0⟩) (acc_nd _ _ _ _ _)
theorem VolumeWrite_c (w0:World)(G0:PH)(hG:PSub G0 w0)(cv:List Value)(v:BVol)(hv:volE G0 v cv)(path:Bs)(hpath:path.length≤16777216)(vbytes:Value)(bytes:List (Int))(hbytes:RdI G0 vbytes bytes) :
  Calls Tryz.prog 179 #[.agg cv.toArray,str path,vbytes] w0 (RetO w0 G0 (fun G val r=>∃u u1,val= .tuple #[.agg #[u,u1],.bool (Sp.VolumeWrite v path bytes).isSome]∧AccOf heldE 3 139 (((Sp.VolumeWrite v path bytes).map (·.store)).getD []) G u r∧RdItems G u1 (((Sp.VolumeWrite v path bytes).map (·.tree)).getD []))):=by
 obtain⟨_,_,_,_,_,_,rfl,hr1,hr1',⟨_,_⟩,_,_⟩:=ox hv
 obtain⟨abytes,kbytes,rfl⟩:=hbytes.shape
 have hlimbytes:bytes.length≤1099511627776:=hbytes.lim
 have H:=Hp.init hG
 refine calls_of_W (l:=[_,str path,.slice abytes bytes.length kbytes]) func179 Z ntmps179 Z (q2 (o_box H Z Z Z ?_));intro _ _ _ H
 refine xal H Z ?_;intro _ _ _ H
 refine aG Z (q3 (W_seq (q2 (lA 1 2 H Z4 (xr H Z2 (VolumeValid_c _ _ H.sub _ v ⟨_,_,_,_,_,_,Z,hr1,hr1'⟩) ?_)))));intro _ H
 refine pe 2 Z ?_
 refine R_case (t:=11) Z ?_ ?_
 ·intro hc5
  try simp only[nrm]at hc5
  refine pe 4 Z (q3 (W_true Z (q2 (o_build bf132 Z Z Z (xst 0 H Z8 ?_)))));intro _ H
  refine aG Z (q3 (W_ret (N_K_ret (ret_gen (rs:=[.cell 6 132,.tmp 7]) (vs:=[_,_]) results179 ⟨⟨_,Z,load_blk 0 H isAgg132 sizeOf132 Z Z Z⟩,Z,trivial⟩ ?_))))
  have hN:Sp.VolumeWrite v path bytes=none:=by simp[Sp.VolumeWrite,hc5]
  have H:=H.addNil 139 3
  exact H.retO (k:=0) rfl (by rw[hN];exact⟨_,_,rfl,AccOf.mk rfl Chk.nil,RdS.nil _ _ _⟩) (acc_nd _ _ _ _ _)
 intro hc5'
 try simp only[nrm]at hc5'
 refine pe 1 Z (gR Z (xr H Z2 (FileValid_c _ _ H.sub _ _ hbytes) ?_));intro _ H
 refine pe 2 Z (q3 ?_)
 refine W_cond Z ?_ ?_
 ·intro hc8
  try simp only[nrm]at hc8
  refine q2 (o_build bf132 Z Z Z (xst 0 H Z8 ?_));intro _ H
  refine aG Z (q3 (W_ret (N_K_ret (ret_gen (rs:=[.cell 6 132,.tmp 7]) (vs:=[_,_]) results179 ⟨⟨_,Z,load_blk 0 H isAgg132 sizeOf132 Z Z Z⟩,Z,trivial⟩ ?_))))
  have hN:Sp.VolumeWrite v path bytes=none:=by simp[Sp.VolumeWrite,hc8]
  have H:=H.addNil 139 3
  exact H.retO (k:=0) rfl (by rw[hN];exact⟨_,_,rfl,AccOf.mk rfl Chk.nil,RdS.nil _ _ _⟩) (acc_nd _ _ _ _ _)
 intro hc8'
 try simp only[nrm]at hc8'
 have hfl:=Sp.file_len hc8'
 refine W_skip (N_K (q2 (lA 1 2 H Z4 (pe 2 Z (xc Z2 (l11Write_c _ _ H.sub _ v ⟨_,_,_,_,_,_,Z,hr1,hr1'⟩ _ hpath _ _ hbytes oM) ?_)))))
 rintro _ _ ⟨_,_,_,g10,rfl,⟨_,_,rfl,⟨_,rfl,hchk10⟩,hr10_1⟩,hp10,hq10,hs10⟩
 have H:=H.growO g10 hp10 hq10 hs10;obtain⟨_,_,rfl⟩:=H.accShape (k:=0) rfl
 obtain⟨_,_,rfl⟩:=hr10_1.shape;have hx_hr10_1:_≤1099511627776:=hr10_1.lim
 refine⟨_,Z,?_⟩
 refine pe 2 Z (xst 1 H Z8 ?_);intro _ H
 refine aG Z (q3 (W_ret (ret_gen (rs:=[.cell 6 132,.tmp 7]) (vs:=[_,_]) results179 ⟨⟨_,Z,load_blk 1 H isAgg132 sizeOf132 Z Z Z⟩,Z,trivial⟩ ?_)))
 have hY:Sp.VolumeWrite v path bytes=Sp.l11Write v path bytes:=by simp[Sp.VolumeWrite,hc5',hc8']
 exact H.retO (k:=0) rfl (by rw[hY];exact⟨_,_,rfl,AccOf.mk aN hchk10,hr10_1⟩) (acc_nd _ _ _ _ _)
theorem VolumeDrop_c (w0:World)(G0:PH)(hG:PSub G0 w0)(cv:List Value)(v:BVol)(hv:volE G0 v cv)(path:Bs)(hpath:path.length≤16777216) :
  Calls Tryz.prog 178 #[.agg cv.toArray,str path] w0 (RetO w0 G0 (fun G val r=>∃u u1,val= .tuple #[.agg #[u,u1],.bool (Sp.VolumeDrop v path).isSome]∧AccOf heldE 3 139 (((Sp.VolumeDrop v path).map (·.store)).getD []) G u r∧RdItems G u1 (((Sp.VolumeDrop v path).map (·.tree)).getD []))):=by
 obtain⟨_,_,_,_,_,_,rfl,hr1,hr1',⟨_,_⟩,_,_⟩:=ox hv
 have H:=Hp.init hG
 refine calls_of_W (l:=[_,str path]) func178 Z ntmps178 Z (q2 (o_box H Z Z Z ?_));intro _ _ _ H
 refine xal H Z ?_;intro _ _ _ H
 refine aG Z (q1 (fA 1 Z (lB 1 H Z3 (mV Z (xc Z2 (TreeDrop_c _ _ H.sub _ _ hr1' _ hpath) ?_)))))
 rintro _ _ ⟨G4,_,g4,rfl,_,rfl,hr4_0⟩
 have H:=H.grow g4
 have hr1:=hr1.up g4.le
 have hr1':=hr1'.up g4.le
 obtain⟨_,_,rfl⟩:=hr4_0.shape;have hx_hr4_0:_≤1099511627776:=hr4_0.lim
 refine⟨_,Z,?_⟩
 refine pe 5 Z (q3 (W_seq (q2 (lA 1 2 H Z4 (xr H Z2 (VolumeValid_c _ _ H.sub _ v ⟨_,_,_,_,_,_,Z,hr1,hr1'⟩) ?_)))));intro _ H
 refine pe 2 Z ?_
 refine R_case (t:=20) Z ?_ ?_
 ·intro hc6
  try simp only[nrm]at hc6
  refine pe 3 Z (q3 (W_true Z (q2 (o_build bf132 Z Z Z (xst 0 H Z8 ?_)))));intro _ H
  refine aG Z (q3 (W_ret (N_K_ret (ret_gen (rs:=[.cell 4 132,.tmp 5]) (vs:=[_,_]) results178 ⟨⟨_,Z,load_blk 0 H isAgg132 sizeOf132 Z Z Z⟩,Z,trivial⟩ ?_))))
  have hN:Sp.VolumeDrop v path=none:=by simp[Sp.VolumeDrop,hc6]
  have H:=H.addNil 139 3
  exact H.retO (k:=0) rfl (by rw[hN];exact⟨_,_,rfl,AccOf.mk rfl Chk.nil,RdS.nil _ _ _⟩) (acc_nd _ _ _ _ _)
 intro hc6'
 try simp only[nrm]at hc6'
 refine pe 3 Z (q3 ?_)
 refine W_cond Z ?_ ?_
 ·intro hc8
  try simp only[nrm]at hc8
  refine q2 (o_build bf132 Z Z Z (xst 0 H Z8 ?_));intro _ H
  refine aG Z (q3 (W_ret (N_K_ret (ret_gen (rs:=[.cell 4 132,.tmp 5]) (vs:=[_,_]) results178 ⟨⟨_,Z,load_blk 0 H isAgg132 sizeOf132 Z Z Z⟩,Z,trivial⟩ ?_))))
  have hN:Sp.VolumeDrop v path=none:=by (have hno:Sp.TreeDrop v.tree path=none:=by simpa using hc8);simp[Sp.VolumeDrop,hno]
  have H:=H.addNil 139 3
  exact H.retO (k:=0) rfl (by rw[hN];exact⟨_,_,rfl,AccOf.mk rfl Chk.nil,RdS.nil _ _ _⟩) (acc_nd _ _ _ _ _)
 intro hc8'
 try simp only[nrm]at hc8'
 obtain⟨i,_,ia,ib,_,_⟩:=Sp.treeDrop_at hc8'
 refine W_skip (N_K (W_seq (W_drawK [0,1] 17 H kR Z ?_)));intro _ H;have hd10:=PLe.refl G4
 refine dF 0 0 Z2 (dB 1 1 Z4 (dF 2 1 Z2 (dB 3 1 Z4 (dF 4 1 Z2 (dB 5 1 Z4 (dE 6 Z2 (r1 7 Z (xr H Z2 (l5At_c _ _ H.sub _ _ hr1' _ hpath) ?_))))))));intro _ H
 refine q4 H hd10 ?_
 have hl12:=hr1'.len
 obtain⟨_,_,z12,_,ha12,hz12,hq12,hE12,hrow12,_⟩:=hr1'.at (i:=i) oM
 clear hq12
 obtain⟨_,_,_,rfl,_,hr12,_,_⟩:=ox hE12
 refine dI 8 3 i ha12 Z3 ib (dF 9 2 Z2 (dP 10 hrow12 2 Z3 (r1 11 Z (xc Z2 (FileFree_c _ _ H.sub _ _ hr1 _ _ hr12) ?_))))
 rintro _ _ ⟨_,_,_,g13,rfl,⟨_,rfl,⟨_,rfl,hchk13⟩⟩,hp13,hq13,hs13⟩
 have H:=H.growO g13 hp13 hq13 hs13;obtain⟨_,_,rfl⟩:=H.accShape (k:=0) rfl
 have hr4_0:=hr4_0.up g13.le
 have hd10:=hd10.trans g13.le
 refine⟨_,Z,?_⟩
 refine q4 H hd10 (dE 12 Z2 (dE 13 Z2 (dE 14 Z2 (dE 15 Z2 (dE 16 Z2 (rz (N_K (q2 (pe 2 Z (o_build bf132 Z Z Z (xst 1 H Z8 ?_)))))))))));intro _ H
 refine aG Z (q3 (W_ret (ret_gen (rs:=[.cell 4 132,.tmp 5]) (vs:=[_,_]) results178 ⟨⟨_,Z,load_blk 1 H isAgg132 sizeOf132 Z Z Z⟩,Z,trivial⟩ ?_)))
 have hY:Sp.VolumeDrop v path=some ⟨(Sp.FileFree v.store z12.ids).getD [],(Sp.TreeDrop v.tree path).getD []⟩:=by (obtain⟨_,hp⟩:=Option.isSome_iff_exists.1 hc8');simp[Sp.VolumeDrop,hc6',hp,ia,hz12]
 exact H.retO (k:=0) rfl (by rw[hY];exact⟨_,_,rfl,AccOf.mk aN hchk13,hr4_0⟩) (acc_nd _ _ _ _ _)
end Go.Proofs.Tst
