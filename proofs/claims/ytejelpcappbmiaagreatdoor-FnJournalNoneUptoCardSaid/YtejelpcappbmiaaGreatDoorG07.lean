/- Part 7 of the proof: contracts of functions of the program. Conditions: none. -/
import Derived.Test.YtejelpcappbmiaaGreatDoorProg
import Derived.Test.YtejelpcappbmiaaGreatDoorG02
import Derived.Test.YtejelpcappbmiaaGreatDoorG03
import Derived.Test.YtejelpcappbmiaaGreatDoorG04
import Derived.Test.YtejelpcappbmiaaGreatDoorG06
import Derived.Conc.MuLone
import Derived.KernelRfl
import Derived.Test.YtejelpcappbmiaaGreatDoorG05
set_option linter.all false
set_option maxRecDepth 100000
set_option maxHeartbeats 8000000
namespace Go.Proofs.Tst
open Go Fw Tryz
theorem DrawJournalRun_c (w0:World)(G0:PH)(hG:PSub G0 w0)(vcode:Value)(code:List (UInt8))(hcode:RdU G0 vcode code) :
  Calls Tryz.prog 39 #[vcode] w0 (RetP w0 G0 (fun G v=>∃(cs:List Value) (x:BDisk) (va:Value) (qs:List BOp),v= .tuple #[.agg cs.toArray,va]∧diskE G x cs∧RdOp G va qs∧qs.length≤22)):=by
 obtain⟨acode,kcode,rfl⟩:=hcode.shape
 have hlimcode:code.length≤1099511627776:=hcode.lim
 have H:=Hp.init hG
 refine calls_of_W (l:=[.slice acode code.length kcode]) func39 Z ntmps39 Z (q2 (xal H Z ?_));intro _ _ _ H
 refine aG Z (q1 (mV Z (xc Z2 (l6Open_c _ _ H.sub _ _ hcode) ?_)))
 rintro _ _ ⟨_,_,_,g2,rfl,⟨_,_,_,_,_,rfl,rfl,hbs2⟩,hp2,hq2,hs2⟩
 have H:=H.growO g2 hp2 hq2 hs2
 refine⟨_,Z,?_⟩
 refine aG Z (q1 (mV Z (xc Z2 (l91Disk_c _ _ H.sub _ _ _ _ _ _ hbs2 (H.blkIs (k:=0) Z).1 (H.blkIs (k:=0) Z).2 oM) ?_)))
 rintro _ _ ⟨G3,_,_,rfl,H3',⟨_,_,_,_,st3,tr3,sn3,_,rfl,hst3,htr3,hsn3,rfl⟩⟩
 have hbs2:=hbs2.up H3'.le
 have H:=H.borrow (k:=0) rfl H3'
 obtain⟨_,_,rfl⟩:=hst3.shape;have hx_hst3:_≤1099511627776:=hst3.lim;obtain⟨_,_,rfl⟩:=htr3.shape;have hx_htr3:_≤1099511627776:=htr3.lim;obtain⟨_,_,rfl⟩:=hsn3.shape;have hx_hsn3:_≤1099511627776:=hsn3.lim
 refine⟨_,Z,?_⟩
 refine xal H Z ?_;intro _ _ _ H
 refine xst 0 H Z8 ?_;intro _ H
 refine q3 (W_seq (W_drawK [0] 5 H kR Z ?_));intro _ H;have hd6:=PLe.refl G3
 refine RD_t 0 Z kR Z (fun _ hK=>v_loadagg_B 0 hK isAgg27 sizeOf27 Z Z Z Z) (dE 1 Z2 (r1 2 Z (xc Z2 (l92Steps_c _ _ H.sub _ _ _ _ _ _ hbs2 (H.blkIs (k:=1) Z).1 (H.blkIs (k:=1) Z).2 oM) ?_)))
 rintro _ _ ⟨_,_,_,rfl,H7',⟨_,_,_,_,_,rfl,hchk7,_,rfl⟩⟩
 have hst3:=hst3.up H7'.le
 have htr3:=htr3.up H7'.le
 have hsn3:=hsn3.up H7'.le
 have hd6:=hd6.trans H7'.le
 have H:=H.borrow (k:=1) rfl H7'
 obtain⟨_,_,rfl⟩:=H.accShape (k:=0) rfl
 refine⟨_,Z,?_⟩
 refine q4 H hd6 (r1 3 Z (xst 3 H Z8 ?_));intro _ H
 refine q4 H hd6 (dE 4 Z2 (rz (N_K (W_ret (ret_gen (rs:=[.cell 2 27,.tmp 3]) (vs:=[_,_]) results39 ⟨⟨_,Z,load_blk 3 H isAgg27 sizeOf27 Z Z Z⟩,Z,trivial⟩ ?_)))))
 obtain⟨_,H,hsg9,hsr9⟩:=H.shut' (k:=0) rfl hchk7 aN aN
 have hst3:=hst3.up hsg9
 have htr3:=htr3.up hsg9
 have hsn3:=hsn3.up hsg9
 have H:=H.dl 0
 have H:=H.dl 0
 have H:=H.dl 0
 exact H.retP ⟨_,⟨st3,tr3,sn3⟩,_,_,Z,⟨_,_,_,_,_,_,_,_,_,Z,hst3,htr3,hsn3⟩,hsr9,oM⟩
end Go.Proofs.Tst
namespace Go.Proofs.Tst
open Go
abbrev muLink:Go.Conc.Locks.MuLink:={lock:=140,unlock:=141,ilock:=201,iunlock:=202,lockSlow:=239,unlockSlow:=242,disable:=235,enable:=237,acquire:=238,relMerge:=240,cas32:=236,add32:=241,tMutex:=130,tIMutex:=128,tPMutex:=253,tPIMutex:=285,tPI32:=287,tUP:=289,tNoCopy:=125,tU32:=126}
theorem muLib:Go.Conc.Locks.MuLib Tryz.prog muLink where
 f_lock:=by kernel_rfl
 f_unlock:=by kernel_rfl
 f_ilock:=by kernel_rfl
 f_iunlock:=by kernel_rfl
 f_disable:=by kernel_rfl
 f_enable:=by kernel_rfl
 f_acquire:=by kernel_rfl
 f_relMerge:=by kernel_rfl
 f_cas32:=by kernel_rfl
 f_add32:=by kernel_rfl
 underlying_tIMutex:=Tryz.underlying128
 runUnderlying_tIMutex:=Tryz.runUnderlying128
 sizeOf_tIMutex:=Tryz.sizeOf128
 isAgg_tIMutex:=Tryz.isAgg128
 zeroValue_tIMutex:=Tryz.zeroValue128
 underlying_tMutex:=Tryz.underlying130
 runUnderlying_tMutex:=Tryz.runUnderlying130
 sizeOf_tMutex:=Tryz.sizeOf130
 isAgg_tMutex:=Tryz.isAgg130
 zeroValue_tMutex:=Tryz.zeroValue130
 underlying_tPMutex:=Tryz.underlying253
 runUnderlying_tPMutex:=Tryz.runUnderlying253
 sizeOf_tPMutex:=Tryz.sizeOf253
 isAgg_tPMutex:=Tryz.isAgg253
 zeroValue_tPMutex:=Tryz.zeroValue253
 underlying_tPIMutex:=Tryz.underlying285
 runUnderlying_tPIMutex:=Tryz.runUnderlying285
 sizeOf_tPIMutex:=Tryz.sizeOf285
 isAgg_tPIMutex:=Tryz.isAgg285
 zeroValue_tPIMutex:=Tryz.zeroValue285
 underlying_tPI32:=Tryz.underlying287
 runUnderlying_tPI32:=Tryz.runUnderlying287
 sizeOf_tPI32:=Tryz.sizeOf287
 isAgg_tPI32:=Tryz.isAgg287
 zeroValue_tPI32:=Tryz.zeroValue287
 underlying_tUP:=Tryz.underlying289
 runUnderlying_tUP:=Tryz.runUnderlying289
 sizeOf_tUP:=Tryz.sizeOf289
 isAgg_tUP:=Tryz.isAgg289
 zeroValue_tUP:=Tryz.zeroValue289
 underlying_tNoCopy:=Tryz.underlying125
 runUnderlying_tNoCopy:=Tryz.runUnderlying125
 sizeOf_tNoCopy:=Tryz.sizeOf125
 isAgg_tNoCopy:=Tryz.isAgg125
 zeroValue_tNoCopy:=Tryz.zeroValue125
 underlying_t21:=Tryz.underlying21
 runUnderlying_t21:=Tryz.runUnderlying21
 sizeOf_t21:=Tryz.sizeOf21
 isAgg_t21:=Tryz.isAgg21
 zeroValue_t21:=Tryz.zeroValue21
 room_tIMutex:=by kernel_rfl
end Go.Proofs.Tst
namespace Go.Proofs.Tst
open Go Fw Tryz
theorem i_disk_c (w0:World)(G0:PH)(hG:PSub G0 w0)(db mb:Nat)(es:Array MapEntry)(ck:Nat)(xs:List (Int×Value))(T:Nd)(FT:Fr)(sv:Value)(sn:List (Bs×Nd))(c:List Value)(FSq:Fr)(d:BDisk)(hm:MapIs (Value.int .i64) es ck xs)(hS:StR G0 xs d.store)(hN:NdO 138 119 G0 T FT)(hT:Nd.TOK T d.tree)(hchk:Chk osE 2 G0 c sn)(hNs:NdsO 138 119 G0 (sn.map (·.2)) FSq)(hSn:SnOK sn d.snaps)(hVd:Sp.VH d.store)(hs6:d.snaps.length≤6)(hLent:Lent w0 G0 [blk db (cl [.int .i32 0,.int .u32 0,.map (some mb),.pointer (some ⟨T.b,0,none⟩),sv] 133),blk mb (.map es ck),frag FT,acc 199 2 sv sn.length c,frag FSq]) :
  Calls Tryz.prog 114 #[.pointer (some ⟨db,0,none⟩)] w0 (RetM w0 G0 (fps [blk db (cl [.int .i32 0,.int .u32 0,.map (some mb),.pointer (some ⟨T.b,0,none⟩),sv] 133),blk mb (.map es ck),frag FT,acc 199 2 sv sn.length c,frag FSq]) (fun G' v Bs=>∃(v1 v2 v3:Value) (F1 F2 F3:Fr),v= .agg #[v1,v2,v3]∧Bs=[frag F1,frag F2,frag F3]∧OHs F1 v1 d.store∧OIs F2 v2 d.tree∧OSn F3 v3 d.snaps)):=by
 have H:Hp w0 G0 (fps [blk db (cl [.int .i32 0,.int .u32 0,.map (some mb),.pointer (some ⟨T.b,0,none⟩),sv] 133),blk mb (.map es ck),frag FT,acc 199 2 sv sn.length c,frag FSq]) w0 G0 [blk db (cl [.int .i32 0,.int .u32 0,.map (some mb),.pointer (some ⟨T.b,0,none⟩),sv] 133),blk mb (.map es ck),frag FT,acc 199 2 sv sn.length c,frag FSq]:=hLent.hp
 obtain⟨adv,cdv,rfl⟩:=H.accShape (k:=3) rfl;have hTv:=hT.valid;have hTc:=hT.cnt;have hTl:=Sp.tree_len hTv;have hsnl:=hSn.len;have hxa:=H.accShape (k:=3) rfl
 refine calls_of_WD (l:=[.pointer (some ⟨db,0,none⟩)]) func114 Z ntmps114 Z (q2 (xal H Z ?_));intro b1 _ _ H
 refine q1 (pe 2 Z (fA 0 Z (o_lock 1 H muLib Z call140 Z Z Z Z ?_)));intro _ H
 refine q1 (pe 2 Z (fA 0 Z (o_defer Z (q3 (W_seq (W_drawK [0,1] 15 H kR Z ?_))))));intro _ H;have hd3:=PLe.refl G0
 refine dE 0 Z2 (dE 1 Z2 (dF 2 2 Z2 (dF 3 0 Z2 (dB 4 1 Z4 (dE 6 Z2 (dE 7 Z2 (dF 8 2 Z2 (dF 9 1 Z2 (dB 10 1 Z4 ?_)))))))))
 refine r2 5 13 Z2 ?_ ?_
 ·skip
  refine xc Z2 (i_slist_c _ _ (H.lendSubL [2]) _ _ _ _ _ (H.lendPredL (k:=2) (ks:=[2]) Z Z) hm (hS.up (PPlus.le _ _ _)) hVd) ?_
  rintro _ _ ⟨_,_,rfl,H4',⟨F4,rfl,hO4⟩⟩
  have H:=H.readersL H4'
  obtain⟨_,hP4⟩:=hO4
  obtain⟨_,_,rfl⟩:=OwnS.shape hP4
  have hO4:=OHs.mk hP4
  refine⟨_,Z,?_⟩
  refine q4 H hd3 ?_
  refine r2 11 13 Z2 ?_ ?_
  ·skip
   refine xc Z2 (i_tlist_c _ _ (H.lendSubL [4]) _ ((H.lendN (k:=4) (ks:=[4]) Z Z hN).at (show Nd.at_ T []=some T from Z)) hT.wf oM) ?_
   rintro _ _ ⟨_,_,rfl,H5',⟨F5,rfl,hO5⟩⟩
   have H:=H.readersL H5'
   obtain⟨_,hP5⟩:=hO5
   obtain⟨_,_,rfl⟩:=OwnS.shape hP5
   have hO5:=OIs.mk hP5
   refine⟨_,Z,?_⟩
   refine q4 H hd3 (RD_t 12 Z kR Z (fun _ hK=>v_build bf27 Z Z) (r1 13 Z (xal H Z ?_)));intro b6 _ _ H
   refine q4 H hd3 (r1 14 Z (xst 0 H Z8 ?_));intro _ H
   refine R_nil (N_DKlast kR kR (N_K (W_seq (q2 (pe 2 Z (fA 4 Z (lB 4 H Z3 (lN Z (mV Z (q3 (W_block ?_)))))))))))
   have H:=H.addNil 107 2
   have H:=H.addF
   obtain⟨ln9,hln9,H⟩:=H.nameAt (k:=2) (off:=2) rfl rfl
   obtain⟨ln10,hln10,H⟩:=H.name (k:=5) rfl
   obtain⟨ln11,hln11,H⟩:=H.name (k:=6) rfl
   refine W_lp (hf:=(Sub.cons (t:=2) Z (Sub.cons (t:=3) Z (Sub.cons (t:=29) Z (Sub.cons (t:=30) Z Sub.nil))))) (J:=fun M w m=>∃(v:Value) (n:Nat) (cs:List Value) (xs:List (BSnap)) (F:Fr) (k:Nat) (G:PH),M=[(31,.int .i64 (k:Int))]∧PLe G0 G∧Hp w0 G0 (fps [blk db (cl [.int .i32 0,.int .u32 0,.map (some mb),.pointer (some ⟨T.b,0,none⟩),.slice adv sn.length cdv] 133),blk mb (.map es ck),frag FT,acc 199 2 (.slice adv sn.length cdv) sn.length c,frag FSq]) w G [frag F,acc 107 2 v n cs,blk b6 (cl (setN ln9 2 v) 27),frag F5,frag F4,blk b1 (cl ln10 27),blk db (cl ln11 133),blk mb (.map es ck),frag FT,acc 199 2 (.slice adv sn.length cdv) sn.length c,frag FSq]∧(ChkF snapO 2 cs xs F∧n=xs.length∧k≤sn.length∧xs=(sn.take k).map (fun x=>(⟨x.1,x.2.flat []⟩:BSnap)))∧m=(sn.length-k)) (h0:=⟨_,_,_,[],[],0,_,Z,PLe.refl _,H,?inv,Z⟩) (round:=?round)
   case inv=>exact⟨ChkF.nil,by first|rfl|simp|(simp;omega)|omega,(by simp)⟩
   case round =>
    rintro _ _ _ ⟨v,n,cs,xs,F,k,G12,rfl,hle12,H,hinv12,rfl⟩
    subst hln9
    subst hln10
    subst hln11
    have hchk:=hchk.up hle12
    have hNs:=hNs.up hle12
    obtain⟨hchk12_0,_,hinv12⟩:=hinv12
    obtain⟨_,_,rfl⟩:=H.accShape (k:=1) rfl
    obtain⟨hk,hxs⟩:=hinv12;have hxl6:xs.length≤6:=by (rw[hxs];simp;omega)
    refine q2 (pe 1 Z (q3 (W_seq ?_)))
    refine W_cond Z ?_ ?_
    ·intro hc13
     try simp only[nrm]at hc13
     refine W_skip (N_K (W_seq (W_block (q2 (o_index_A 9 H k Z hchk underlying131 sizeOf199 Z Z Z Z aN aN ?_)))));intro _ z14 _ hba14 hz14 hE14 hg14;cases hba14
     obtain⟨rfl,hi14⟩:=hE14;have hy_hi14:_≤16777216:=hi14
     refine o_loadagg_A 9 H isAgg199 sizeOf199 Z Z Z hg14 Z (xal H Z ?_);intro _ _ _ H
     refine xst 0 H Z8 ?_;intro _ H
     refine q3 (W_drawK [0,3,6,7] 12 H kR Z ?_);intro _ H;have hd17:=PLe.refl G12
     refine dF 0 2 Z2 (dB 1 1 Z4 (dF 2 0 Z2 (dB 3 0 Z4 (dF 4 1 Z2 (dB 5 0 Z4 (r1 6 Z ?_))))))
     refine xc Z2 (i_tlist_c _ _ (H.lendSubL [11]) _ (H.lendNs (k:=11) (ks:=[11]) Z Z hNs z14.2 (List.mem_map_of_mem (List.mem_of_getElem? hz14))) (sn_ok hSn _ (List.mem_map_of_mem (List.mem_of_getElem? hz14))).1 (by have:=(sn_ok hSn _ (List.mem_map_of_mem (List.mem_of_getElem? hz14))).2;omega)) ?_
     rintro _ _ ⟨_,_,rfl,H18',⟨F18,rfl,hO18⟩⟩
     have H:=H.readersL H18'
     obtain⟨_,hP18⟩:=hO18
     obtain⟨_,_,rfl⟩:=OwnS.shape hP18
     have hO18:=OIs.mk hP18
     refine⟨_,Z,?_⟩
     refine q4 H hd17 (RD_t 7 Z kR Z (fun _ hK=>v_build bf107 Z Z) (r1 8 Z (xbs H Z7 ?_)));intro _ _ _ H
     refine q4 H hd17 (r1 9 Z (o_append1 3 H (sz:=2) (bytes:=40) underlying25 typeInfo107 ⟨_,Z,Z⟩ Z Z Z Z Z Z Z Z Z Z oM Z ?_));intro _ _ H
     have hchk20:=hchk12_0.snoc (show snapO F18 ⟨z14.1,z14.2.flat []⟩ _ from⟨_,_,_,rfl,hi14,hO18⟩) rfl
     have H:=H.tF 2
     have H:=H.mergeF
     obtain⟨_,_,rfl⟩:=H.accShape (k:=2) rfl
     refine q4 H hd17 (dF 10 2 Z2 (r1 11 Z (xst 3 H Z8 ?_)));intro _ H
     refine R_nil (N_DKlast kR kR (N_B (N_K (W_region (aD Z2 (mV Z (R_nil ?_)))))))
     have H:=H.dl 1
     refine N_lp (hJ:=⟨_,_,_,(xs++[⟨z14.1,z14.2.flat []⟩]),(F++F18),k+1,_,Z,hle12,H,?inv,Z⟩) (hm:=?hm)
     case hm=>omega
     case inv=>exact⟨hchk20,aN,(by exact⟨by omega,by (rw[Sp.take_succ' hz14,List.map_append,←hxs];rfl)⟩)⟩
    intro hc13'
    try simp only[nrm]at hc13'
    refine W_exit (N_K_exit (N_LP_exit (N_B_same (N_K (q2 (lA 2 3 H Z4 (xst 5 H Z8 ?_)))))));intro _ H
    refine q3 (W_ret (ret_unlock 6 H muLib Z call141 Z Z (rs:=[.cell 2 27]) results114 ?_));intro _ H
    refine⟨[_],⟨⟨_,Z,load_blk 5 H isAgg27 sizeOf27 Z Z Z⟩,trivial⟩,?_⟩
    have H:=H.tF 1
    obtain⟨_,H,hOw3⟩:=H.ownF hchk12_0 aN aN
    have H:=H.dl 1
    have H:=H.dl 3
    have H:=H.dl 3
    have H:=H.dl 3
    have H:=H.dl 3
    have H:=H.dl 3
    have H:=H.dl 3
    have H:=H.tF 1
    have H:=H.tF 2
    have hxs2:xs=d.snaps:=by (rw[hxs,List.take_of_length_le oM];exact sn_list hSn)
    exact H.retM ⟨_,_,_,_,_,_,rfl,rfl,hO4,(by (rw[←hT.flat]);exact hO5),(by have h9:=(show OSn _ _ _ from⟨_,hOw3⟩);(rw[hxs2]at h9);exact h9)⟩
  skip
  refine xal H Z ?_;intro b24 _ _ H
  refine q4 H hd3 (r1 11 Z (xc Z2 (i_tlist_c _ _ (H.lendSubL [5]) _ ((H.lendN (k:=5) (ks:=[5]) Z Z hN).at (show Nd.at_ T []=some T from Z)) hT.wf oM) ?_))
  rintro _ _ ⟨_,_,rfl,H25',⟨F25,rfl,hO25⟩⟩
  have H:=H.readersL H25'
  obtain⟨_,hP25⟩:=hO25
  obtain⟨_,_,rfl⟩:=OwnS.shape hP25
  have hO25:=OIs.mk hP25
  refine⟨_,Z,?_⟩
  refine q4 H hd3 (RD_t 12 Z kR Z (fun _ hK=>v_build bf27 Z Z) (r1 14 Z (xst 1 H Z8 ?_)));intro _ H
  refine R_nil (N_DKlast kR kR (N_K (W_seq (q2 (pe 2 Z (fA 4 Z (lB 4 H Z3 (lN Z (mV Z (q3 (W_block ?_)))))))))))
  have H:=H.addNil 107 2
  have H:=H.addF
  obtain⟨ln28,hln28,H⟩:=H.nameAt (k:=3) (off:=2) rfl rfl
  obtain⟨ln29,hln29,H⟩:=H.name (k:=5) rfl
  obtain⟨ln30,hln30,H⟩:=H.name (k:=6) rfl
  refine W_lp (hf:=(Sub.cons (t:=2) Z (Sub.cons (t:=3) Z (Sub.cons (t:=29) Z (Sub.cons (t:=30) Z Sub.nil))))) (J:=fun M w m=>∃(v:Value) (n:Nat) (cs:List Value) (xs:List (BSnap)) (F:Fr) (k:Nat) (G:PH),M=[(31,.int .i64 (k:Int))]∧PLe G0 G∧Hp w0 G0 (fps [blk db (cl [.int .i32 0,.int .u32 0,.map (some mb),.pointer (some ⟨T.b,0,none⟩),.slice adv sn.length cdv] 133),blk mb (.map es ck),frag FT,acc 199 2 (.slice adv sn.length cdv) sn.length c,frag FSq]) w G [frag F,acc 107 2 v n cs,frag F25,blk b24 (cl (setN ln28 2 v) 27),frag F4,blk b1 (cl ln29 27),blk db (cl ln30 133),blk mb (.map es ck),frag FT,acc 199 2 (.slice adv sn.length cdv) sn.length c,frag FSq]∧(ChkF snapO 2 cs xs F∧n=xs.length∧k≤sn.length∧xs=(sn.take k).map (fun x=>(⟨x.1,x.2.flat []⟩:BSnap)))∧m=(sn.length-k)) (h0:=⟨_,_,_,[],[],0,_,Z,PLe.refl _,H,?inv,Z⟩) (round:=?round)
  case inv=>exact⟨ChkF.nil,by first|rfl|simp|(simp;omega)|omega,(by simp)⟩
  case round =>
   rintro _ _ _ ⟨v,n,cs,xs,F,k,G31,rfl,hle31,H,hinv31,rfl⟩
   subst hln28
   subst hln29
   subst hln30
   have hchk:=hchk.up hle31
   have hNs:=hNs.up hle31
   obtain⟨hchk31_0,_,hinv31⟩:=hinv31
   obtain⟨_,_,rfl⟩:=H.accShape (k:=1) rfl
   obtain⟨hk,hxs⟩:=hinv31;have hxl6:xs.length≤6:=by (rw[hxs];simp;omega)
   refine q2 (pe 1 Z (q3 (W_seq ?_)))
   refine W_cond Z ?_ ?_
   ·intro hc32
    try simp only[nrm]at hc32
    refine W_skip (N_K (W_seq (W_block (q2 (o_index_A 9 H k Z hchk underlying131 sizeOf199 Z Z Z Z aN aN ?_)))));intro _ z33 _ hba33 hz33 hE33 hg33;cases hba33
    obtain⟨rfl,hi33⟩:=hE33;have hy_hi33:_≤16777216:=hi33
    refine o_loadagg_A 9 H isAgg199 sizeOf199 Z Z Z hg33 Z (xal H Z ?_);intro _ _ _ H
    refine xst 0 H Z8 ?_;intro _ H
    refine q3 (W_drawK [0,4,6,7] 12 H kR Z ?_);intro _ H;have hd36:=PLe.refl G31
    refine dF 0 2 Z2 (dB 1 1 Z4 (dF 2 0 Z2 (dB 3 0 Z4 (dF 4 1 Z2 (dB 5 0 Z4 (r1 6 Z ?_))))))
    refine xc Z2 (i_tlist_c _ _ (H.lendSubL [11]) _ (H.lendNs (k:=11) (ks:=[11]) Z Z hNs z33.2 (List.mem_map_of_mem (List.mem_of_getElem? hz33))) (sn_ok hSn _ (List.mem_map_of_mem (List.mem_of_getElem? hz33))).1 (by have:=(sn_ok hSn _ (List.mem_map_of_mem (List.mem_of_getElem? hz33))).2;omega)) ?_
    rintro _ _ ⟨_,_,rfl,H37',⟨F37,rfl,hO37⟩⟩
    have H:=H.readersL H37'
    obtain⟨_,hP37⟩:=hO37
    obtain⟨_,_,rfl⟩:=OwnS.shape hP37
    have hO37:=OIs.mk hP37
    refine⟨_,Z,?_⟩
    refine q4 H hd36 (RD_t 7 Z kR Z (fun _ hK=>v_build bf107 Z Z) (r1 8 Z (xbs H Z7 ?_)));intro _ _ _ H
    refine q4 H hd36 (r1 9 Z (o_append1 3 H (sz:=2) (bytes:=40) underlying25 typeInfo107 ⟨_,Z,Z⟩ Z Z Z Z Z Z Z Z Z Z oM Z ?_));intro _ _ H
    have hchk39:=hchk31_0.snoc (show snapO F37 ⟨z33.1,z33.2.flat []⟩ _ from⟨_,_,_,rfl,hi33,hO37⟩) rfl
    have H:=H.tF 2
    have H:=H.mergeF
    obtain⟨_,_,rfl⟩:=H.accShape (k:=2) rfl
    refine q4 H hd36 (dF 10 2 Z2 (r1 11 Z (xst 4 H Z8 ?_)));intro _ H
    refine R_nil (N_DKlast kR kR (N_B (N_K (W_region (aD Z2 (mV Z (R_nil ?_)))))))
    have H:=H.dl 1
    refine N_lp (hJ:=⟨_,_,_,(xs++[⟨z33.1,z33.2.flat []⟩]),(F++F37),k+1,_,Z,hle31,H,?inv,Z⟩) (hm:=?hm)
    case hm=>omega
    case inv=>exact⟨hchk39,aN,(by exact⟨by omega,by (rw[Sp.take_succ' hz33,List.map_append,←hxs];rfl)⟩)⟩
   intro hc32'
   try simp only[nrm]at hc32'
   refine W_exit (N_K_exit (N_LP_exit (N_B_same (N_K (q2 (lA 3 3 H Z4 (xst 5 H Z8 ?_)))))));intro _ H
   refine q3 (W_ret (ret_unlock 6 H muLib Z call141 Z Z (rs:=[.cell 2 27]) results114 ?_));intro _ H
   refine⟨[_],⟨⟨_,Z,load_blk 5 H isAgg27 sizeOf27 Z Z Z⟩,trivial⟩,?_⟩
   have H:=H.tF 1
   obtain⟨_,H,hOw6⟩:=H.ownF hchk31_0 aN aN
   have H:=H.dl 2
   have H:=H.dl 3
   have H:=H.dl 3
   have H:=H.dl 3
   have H:=H.dl 3
   have H:=H.dl 3
   have H:=H.dl 3
   have H:=H.tF 1
   have H:=H.tF 2
   have hxs2:xs=d.snaps:=by (rw[hxs,List.take_of_length_le oM];exact sn_list hSn)
   exact H.retM ⟨_,_,_,_,_,_,rfl,rfl,hO4,(by (rw[←hT.flat]);exact hO25),(by have h9:=(show OSn _ _ _ from⟨_,hOw6⟩);(rw[hxs2]at h9);exact h9)⟩
 skip
 refine xal H Z ?_;intro b43 _ _ H
 refine q4 H hd3 (r1 5 Z (xc Z2 (i_slist_c _ _ (H.lendSubL [3]) _ _ _ _ _ (H.lendPredL (k:=3) (ks:=[3]) Z Z) hm (hS.up (PPlus.le _ _ _)) hVd) ?_))
 rintro _ _ ⟨_,_,rfl,H44',⟨F44,rfl,hO44⟩⟩
 have H:=H.readersL H44'
 obtain⟨_,hP44⟩:=hO44
 obtain⟨_,_,rfl⟩:=OwnS.shape hP44
 have hO44:=OHs.mk hP44
 refine⟨_,Z,?_⟩
 refine q4 H hd3 (r1 11 Z (xc Z2 (i_tlist_c _ _ (H.lendSubL [5]) _ ((H.lendN (k:=5) (ks:=[5]) Z Z hN).at (show Nd.at_ T []=some T from Z)) hT.wf oM) ?_))
 rintro _ _ ⟨_,_,rfl,H45',⟨F45,rfl,hO45⟩⟩
 have H:=H.readersL H45'
 obtain⟨_,hP45⟩:=hO45
 obtain⟨_,_,rfl⟩:=OwnS.shape hP45
 have hO45:=OIs.mk hP45
 refine⟨_,Z,?_⟩
 refine q4 H hd3 (RD_t 12 Z kR Z (fun _ hK=>v_build bf27 Z Z) (r1 14 Z (xst 2 H Z8 ?_)));intro _ H
 refine R_nil (N_DKlast kR kR (N_K (W_seq (q2 (pe 2 Z (fA 4 Z (lB 4 H Z3 (lN Z (mV Z (q3 (W_block ?_)))))))))))
 have H:=H.addNil 107 2
 have H:=H.addF
 obtain⟨ln48,hln48,H⟩:=H.nameAt (k:=4) (off:=2) rfl rfl
 obtain⟨ln49,hln49,H⟩:=H.name (k:=5) rfl
 obtain⟨ln50,hln50,H⟩:=H.name (k:=6) rfl
 refine W_lp (hf:=(Sub.cons (t:=2) Z (Sub.cons (t:=3) Z (Sub.cons (t:=29) Z (Sub.cons (t:=30) Z Sub.nil))))) (J:=fun M w m=>∃(v:Value) (n:Nat) (cs:List Value) (xs:List (BSnap)) (F:Fr) (k:Nat) (G:PH),M=[(31,.int .i64 (k:Int))]∧PLe G0 G∧Hp w0 G0 (fps [blk db (cl [.int .i32 0,.int .u32 0,.map (some mb),.pointer (some ⟨T.b,0,none⟩),.slice adv sn.length cdv] 133),blk mb (.map es ck),frag FT,acc 199 2 (.slice adv sn.length cdv) sn.length c,frag FSq]) w G [frag F,acc 107 2 v n cs,frag F45,frag F44,blk b43 (cl (setN ln48 2 v) 27),blk b1 (cl ln49 27),blk db (cl ln50 133),blk mb (.map es ck),frag FT,acc 199 2 (.slice adv sn.length cdv) sn.length c,frag FSq]∧(ChkF snapO 2 cs xs F∧n=xs.length∧k≤sn.length∧xs=(sn.take k).map (fun x=>(⟨x.1,x.2.flat []⟩:BSnap)))∧m=(sn.length-k)) (h0:=⟨_,_,_,[],[],0,_,Z,PLe.refl _,H,?inv,Z⟩) (round:=?round)
 case inv=>exact⟨ChkF.nil,by first|rfl|simp|(simp;omega)|omega,(by simp)⟩
 case round =>
  rintro _ _ _ ⟨v,n,cs,xs,F,k,G51,rfl,hle51,H,hinv51,rfl⟩
  subst hln48
  subst hln49
  subst hln50
  have hchk:=hchk.up hle51
  have hNs:=hNs.up hle51
  obtain⟨hchk51_0,_,hinv51⟩:=hinv51
  obtain⟨_,_,rfl⟩:=H.accShape (k:=1) rfl
  obtain⟨hk,hxs⟩:=hinv51;have hxl6:xs.length≤6:=by (rw[hxs];simp;omega)
  refine q2 (pe 1 Z (q3 (W_seq ?_)))
  refine W_cond Z ?_ ?_
  ·intro hc52
   try simp only[nrm]at hc52
   refine W_skip (N_K (W_seq (W_block (q2 (o_index_A 9 H k Z hchk underlying131 sizeOf199 Z Z Z Z aN aN ?_)))));intro _ z53 _ hba53 hz53 hE53 hg53;cases hba53
   obtain⟨rfl,hi53⟩:=hE53;have hy_hi53:_≤16777216:=hi53
   refine o_loadagg_A 9 H isAgg199 sizeOf199 Z Z Z hg53 Z (xal H Z ?_);intro _ _ _ H
   refine xst 0 H Z8 ?_;intro _ H
   refine q3 (W_drawK [0,5,6,7] 12 H kR Z ?_);intro _ H;have hd56:=PLe.refl G51
   refine dF 0 2 Z2 (dB 1 1 Z4 (dF 2 0 Z2 (dB 3 0 Z4 (dF 4 1 Z2 (dB 5 0 Z4 (r1 6 Z ?_))))))
   refine xc Z2 (i_tlist_c _ _ (H.lendSubL [11]) _ (H.lendNs (k:=11) (ks:=[11]) Z Z hNs z53.2 (List.mem_map_of_mem (List.mem_of_getElem? hz53))) (sn_ok hSn _ (List.mem_map_of_mem (List.mem_of_getElem? hz53))).1 (by have:=(sn_ok hSn _ (List.mem_map_of_mem (List.mem_of_getElem? hz53))).2;omega)) ?_
   rintro _ _ ⟨_,_,rfl,H57',⟨F57,rfl,hO57⟩⟩
   have H:=H.readersL H57'
   obtain⟨_,hP57⟩:=hO57
   obtain⟨_,_,rfl⟩:=OwnS.shape hP57
   have hO57:=OIs.mk hP57
   refine⟨_,Z,?_⟩
   refine q4 H hd56 (RD_t 7 Z kR Z (fun _ hK=>v_build bf107 Z Z) (r1 8 Z (xbs H Z7 ?_)));intro _ _ _ H
   refine q4 H hd56 (r1 9 Z (o_append1 3 H (sz:=2) (bytes:=40) underlying25 typeInfo107 ⟨_,Z,Z⟩ Z Z Z Z Z Z Z Z Z Z oM Z ?_));intro _ _ H
   have hchk59:=hchk51_0.snoc (show snapO F57 ⟨z53.1,z53.2.flat []⟩ _ from⟨_,_,_,rfl,hi53,hO57⟩) rfl
   have H:=H.tF 2
   have H:=H.mergeF
   obtain⟨_,_,rfl⟩:=H.accShape (k:=2) rfl
   refine q4 H hd56 (dF 10 2 Z2 (r1 11 Z (xst 5 H Z8 ?_)));intro _ H
   refine R_nil (N_DKlast kR kR (N_B (N_K (W_region (aD Z2 (mV Z (R_nil ?_)))))))
   have H:=H.dl 1
   refine N_lp (hJ:=⟨_,_,_,(xs++[⟨z53.1,z53.2.flat []⟩]),(F++F57),k+1,_,Z,hle51,H,?inv,Z⟩) (hm:=?hm)
   case hm=>omega
   case inv=>exact⟨hchk59,aN,(by exact⟨by omega,by (rw[Sp.take_succ' hz53,List.map_append,←hxs];rfl)⟩)⟩
  intro hc52'
  try simp only[nrm]at hc52'
  refine W_exit (N_K_exit (N_LP_exit (N_B_same (N_K (q2 (lA 4 3 H Z4 (xst 5 H Z8 ?_)))))));intro _ H
  refine q3 (W_ret (ret_unlock 6 H muLib Z call141 Z Z (rs:=[.cell 2 27]) results114 ?_));intro _ H
  refine⟨[_],⟨⟨_,Z,load_blk 5 H isAgg27 sizeOf27 Z Z Z⟩,trivial⟩,?_⟩
  have H:=H.tF 1
  obtain⟨_,H,hOw9⟩:=H.ownF hchk51_0 aN aN
  have H:=H.dl 3
  have H:=H.dl 3
  have H:=H.dl 3
  have H:=H.dl 3
  have H:=H.dl 3
  have H:=H.dl 3
  have H:=H.dl 3
  have H:=H.tF 1
  have H:=H.tF 2
  have hxs2:xs=d.snaps:=by (rw[hxs,List.take_of_length_le oM];exact sn_list hSn)
  exact H.retM ⟨_,_,_,_,_,_,rfl,rfl,hO44,(by (rw[←hT.flat]);exact hO45),(by have h9:=(show OSn _ _ _ from⟨_,hOw9⟩);(rw[hxs2]at h9);exact h9)⟩
theorem i_opValid_c (w0:World)(G0:PH)(hG:PSub G0 w0)(cop:List Value)(op:BOp)(hop:opE G0 op cop) :
  Calls Tryz.prog 97 #[.agg cop.toArray] w0 (Rets w0 (.bool (Sp.opOk op))):=by
 obtain⟨_,_,_,rfl,_,hi1,hr1⟩:=hop;have hy_hi1:_≤16777216:=hi1;have hn_hr1:=hr1.len;have hx_hr1:_≤1099511627776:=hr1.lim
 have H:=Hp.init hG
 refine calls_of_W (l:=[_]) func97 Z ntmps97 Z (q2 (o_box H Z Z Z ?_));intro _ _ _ H
 refine aG Z (q3 (W_seq (q2 (fA 0 Z (lB 0 H Z3 (q3 (W_block (W_seq (q2 (pe 2 Z (q3 ?_)))))))))))
 refine W_cond Z ?_ ?_
 ·intro hc3
  try simp only[nrm]at hc3
  refine W_skip (N_K ?_)
  refine W_cond Z ?_ ?_
  ·intro hc4
   try simp only[nrm]at hc4
   refine q2 (fA 1 Z (lB 0 H Z3 (xr H Z2 (i_PathValid_c _ _ H.sub _ hi1) ?_)));intro _ H
   refine mV Z ?_
   refine R_case (t:=11) Z ?_ ?_
   ·intro hc6
    try simp only[nrm]at hc6
    refine gR Z (fA 2 Z (gR Z (lB 0 H Z3 (gR Z (lN Z (pe 3 Z (q3 (W_ret (N_B_ret (N_K_ret (rt1 results97 Z ?_)))))))))))
    exact H.rets (congrArg Value.bool (by simp_all [Sp.opOk,List.length_eq_zero_iff]))
   intro hc6'
   try simp only[nrm]at hc6'
   refine pe 6 Z (q3 (W_ret (N_B_ret (N_K_ret (rt1 results97 Z ?_)))))
   exact H.rets (congrArg Value.bool (by simp_all [Sp.opOk,List.length_eq_zero_iff]))
  intro hc4'
  try simp only[nrm]at hc4'
  exact absurd hc3 hc4'
 intro hc3'
 try simp only[nrm]at hc3'
 refine W_region (pe 2 Z (q3 ?_))
 refine W_cond Z ?_ ?_
 ·intro hc7
  try simp only[nrm]at hc7
  refine q2 (fA 1 Z (lB 0 H Z3 (xr H Z2 (i_PathValid_c _ _ H.sub _ hi1) ?_)));intro _ H
  refine mV Z ?_
  refine R_case (t:=11) Z ?_ ?_
  ·intro hc9
   try simp only[nrm]at hc9
   refine gR Z (fA 2 Z (gR Z (lB 0 H Z3 (gR Z (lN Z (pe 3 Z (q3 (W_ret (N_B_ret (N_K_ret (rt1 results97 Z ?_)))))))))))
   exact H.rets (congrArg Value.bool (by simp_all [Sp.opOk,List.length_eq_zero_iff]))
  intro hc9'
  try simp only[nrm]at hc9'
  refine pe 6 Z (q3 (W_ret (N_B_ret (N_K_ret (rt1 results97 Z ?_)))))
  exact H.rets (congrArg Value.bool (by simp_all [Sp.opOk,List.length_eq_zero_iff]))
 intro hc7'
 try simp only[nrm]at hc7'
 refine q2 (pe 2 Z (q3 ?_))
 refine W_cond Z ?_ ?_
 ·intro hc10
  try simp only[nrm]at hc10
  refine q2 (fA 1 Z (lB 0 H Z3 (xr H Z2 (i_PathValid_c _ _ H.sub _ hi1) ?_)));intro _ H
  refine mV Z ?_
  refine R_case (t:=22) Z ?_ ?_
  ·intro hc12
   try simp only[nrm]at hc12
   refine gR Z (fA 2 Z (gR Z (lB 0 H Z3 (gR Z (xr H Z2 (i_FileValid_c _ _ H.sub _ _ hr1) ?_)))));intro _ H
   refine pe 2 Z (q3 (W_ret (N_B_ret (N_K_ret (rt1 results97 Z ?_)))))
   exact H.rets (congrArg Value.bool (by simp_all [Sp.opOk,List.length_eq_zero_iff]))
  intro hc12'
  try simp only[nrm]at hc12'
  refine pe 5 Z (q3 (W_ret (N_B_ret (N_K_ret (rt1 results97 Z ?_)))))
  exact H.rets (congrArg Value.bool (by simp_all [Sp.opOk,List.length_eq_zero_iff]))
 intro hc10'
 try simp only[nrm]at hc10'
 refine q2 (pe 2 Z (q3 ?_))
 refine W_cond Z ?_ ?_
 ·intro hc14
  try simp only[nrm]at hc14
  refine q2 (fA 1 Z (lB 0 H Z3 (xr H Z2 (i_partValid_c _ _ hi1) ?_)));intro _ H
  refine mV Z ?_
  refine R_case (t:=32) Z ?_ ?_
  ·intro hc16
   try simp only[nrm]at hc16
   refine gR Z (fA 2 Z (gR Z (lB 0 H Z3 (gR Z (lN Z (pe 3 Z (q3 (W_ret (N_B_ret (N_K_ret (rt1 results97 Z ?_)))))))))))
   exact H.rets (congrArg Value.bool (by simp_all [Sp.opOk,List.length_eq_zero_iff]))
  intro hc16'
  try simp only[nrm]at hc16'
  refine pe 6 Z (q3 (W_ret (N_B_ret (N_K_ret (rt1 results97 Z ?_)))))
  exact H.rets (congrArg Value.bool (by simp_all [Sp.opOk,List.length_eq_zero_iff]))
 intro hc14'
 try simp only[nrm]at hc14'
 refine W_skip (N_B (N_K (q2 (aG Z (q3 (W_ret (rt1 results97 Z ?_)))))))
 exact H.rets (congrArg Value.bool (by simp_all [Sp.opOk,List.length_eq_zero_iff]))
theorem i_clone_r:∀(N:Nat) (w0:World) (G0:PH) (hG:PSub G0 w0) (t:Nd) (hndt:RdN G0 t) (hct:t.cnt≤1000) (hsz:t.size≤N),
  Calls Tryz.prog 144 #[.pointer (some ⟨t.b,0,none⟩)] w0 (RetN w0 G0 (fun v Bs=>∃(F:Fr) (T:Nd),v= .pointer (some ⟨T.b,0,none⟩)∧Bs=[frag F]∧NdC 138 119 T F∧T.strip=t.strip)):=by
 intro N
 induction N with
 | zero=>intro w0 G0 hG t hndt hct hsz;exact absurd (Nd.size_pos t) oM
 | succ N ih =>
 intro w0 G0 hG t hndt hct hsz
 obtain⟨hnlt,_,_,_,_,_,_,hprt,hrit,hrkt⟩:=hndt.open
 have hn_hrit:=hrit.len;have hx_hrit:_≤1099511627776:=hrit.lim
 have hn_hrkt:=hrkt.len;have hx_hrkt:_≤1099511627776:=hrkt.lim
 have H:=Hp.init hG
 refine calls_of_W (l:=[.pointer (some ⟨t.b,0,none⟩)]) func144 Z ntmps144 Z (q2 (aG Z (q3 (W_seq (W_drawK [] 16 H kR Z ?_)))));intro _ H;have hd1:=PLe.refl G0
 refine dE 0 Z2 (dE 1 Z2 (dF 2 0 Z2 (dP 3 hprt 0 Z3 (dE 4 Z2 (dE 5 Z2 (dF 6 1 Z2 (dP 7 hprt 1 Z3 (dE 8 Z2 (dE 9 Z2 (dF 10 2 Z2 (dP 11 hprt 2 Z3 (r1 12 Z (xc Z2 (l_Clone_c _ _ H.sub _ _ hrit) ?_)))))))))))))
 rintro _ _ ⟨G2,_,_,g2,rfl,⟨_,rfl,hchk2⟩,hp2,hq2,hs2⟩
 have H:=H.growO g2 hp2 hq2 hs2;obtain⟨_,_,rfl⟩:=H.accShape (k:=0) rfl
 have hprt:=hprt.up g2.le
 have hrkt:=hrkt.up g2.le
 have hd1:=hd1.trans g2.le
 refine⟨_,Z,?_⟩
 refine q4 H hd1 (RD_t 13 Z kR Z (fun _ hK=>v_build bf138 Z Z) (r1 14 Z (o_box H Z Z Z ?_)));intro b3 _ _ H
 refine q4 H hd1 (dE 15 Z2 (rz (N_K (W_seq (q2 (pe 2 Z (fA 3 Z (lP H hprt 3 Z2 (lN Z (mV Z (q3 (W_block ?_))))))))))))
 obtain⟨Fi1,H,hOI1⟩:=H.ownI (k:=1) rfl hchk2 aN aN
 have hOIc:=hOI1
 have H:=H.addF
 have H:=H.addNil 119 1
 obtain⟨ln5,hln5,H⟩:=H.nameAt (k:=3) (off:=3) rfl rfl
 refine W_lp (hf:=(Sub.cons (t:=2) Z (Sub.cons (t:=3) Z (Sub.cons (t:=24) Z (Sub.cons (t:=25) Z Sub.nil))))) (J:=fun M w m=>∃(v:Value) (n:Nat) (cs:List Value) (xs:List (Nd)) (k:Nat) (FK:Fr) (G:PH),M=[(26,.int .i64 (k:Int))]∧PLe G2 G∧Hp w0 G0 [] w G [acc 119 1 v n cs,frag FK,frag Fi1,blk b3 (cl (setN ln5 3 v) 138)]∧(Chk kdE 1 G cs xs∧n=xs.length∧k≤t.kids.length∧NdsC 138 119 xs FK∧xs.map Nd.strip=(t.kids.take k).map Nd.strip)∧m=(t.kids.length-k)) (h0:=⟨_,_,_,[],0,[],_,Z,PLe.refl _,H,?inv,Z⟩) (round:=?round)
 case inv=>exact⟨(Chk.nil (E:=kdE) (sz:=1) (G:=G2)),by first|rfl|simp|(simp;omega)|omega,(by simp[NdsC])⟩
 case round =>
  rintro _ _ _ ⟨v,n,cs,xs,k,FK,G6,rfl,hle6,H,hinv6,rfl⟩
  subst hln5
  have hrkt:=hrkt.up hle6
  obtain⟨hchk6_0,_,hinv6⟩:=hinv6
  obtain⟨_,_,rfl⟩:=H.accShape (k:=0) rfl
  obtain⟨_,hKs,hst0⟩:=hinv6;have hxl0:=congrArg List.length hst0;simp at hxl0;have hkl0:=Nd.kids_le t
  refine q2 (pe 1 Z (q3 (W_seq ?_)))
  refine W_cond Z ?_ ?_
  ·intro hc7
   try simp only[nrm]at hc7
   refine W_skip (N_K (W_seq (W_block (q2 (iP k hrkt Z3 Z ?_)))));intro _ _ _ _ hz8 hE8 hrow8
   obtain⟨rfl,hnd8⟩:=hE8;obtain⟨_,_,_,_,_,_,_,_,hri8,hrk8⟩:=hnd8.open;have hn_hri8:=hri8.len;have hx_hri8:_≤1099511627776:=hri8.lim;have hn_hrk8:=hrk8.len;have hx_hrk8:_≤1099511627776:=hrk8.lim
   have hzm:=List.mem_of_getElem? hz8;have hzc:=Nd.kid_cnt hzm;have hzs:=Nd.size_kid hzm
   refine lP H hrow8 0 Z2 (aG Z (q3 (W_drawK [] 12 H kR Z ?_)));intro _ H;have hd9:=PLe.refl G6
   refine dE 0 Z2 (dE 1 Z2 (dE 2 Z2 (dF 3 3 Z2 (dE 5 Z2 ?_))))
   refine r2 4 6 Z2 ?_ ?_
   ·skip
    refine lB 3 H Z3 (q4 H hd9 (r1 6 Z (xc Z2 (ih _ _ H.sub _ hnd8 oM oM) ?_)))
    rintro _ _ ⟨_,_,rfl,H10',⟨F10,T10,rfl,rfl,hNC10,hst10⟩⟩
    have H:=H.readers (fp:=[]) (by simp) (PLe.refl _) H10'
    refine⟨_,Z,?_⟩
    refine q4 H hd9 (r1 7 Z (xbs H Z7 ?_));intro _ _ _ H
    refine q4 H hd9 (r1 8 Z (o_append1 1 H (sz:=1) (bytes:=8) underlying136 typeInfo119 ⟨_,Z,Z⟩ Z Z Z Z Z Z Z Z Z Z oM Z ?_));intro _ _ H
    have hchk12:=hchk6_0.snoc (show kdE _ T10 _ from rfl) rfl
    obtain⟨_,_,rfl⟩:=H.accShape (k:=1) rfl
    refine q4 H hd9 (dE 9 Z2 (dF 10 3 Z2 (r1 11 Z ?_)))
    have H:=H.tF 2
    have H:=H.mergeF
    refine xst 3 H Z8 ?_;intro _ H
    refine q4 H hd9 (rz (N_B (N_K (W_region (aD Z2 (mV Z (R_nil ?_)))))))
    have H:=H.tF 3
    have H:=H.tF 3
    have H:=H.tF 2
    have H:=H.tF 3
    refine N_lp (hJ:=⟨_,_,_,(xs++[T10]),k+1,(FK++F10),_,Z,hle6,H,?inv,Z⟩) (hm:=?hm)
    case hm=>omega
    case inv=>exact⟨hchk12,aN,(by exact⟨by omega,hKs.snoc hNC10,Nd.strip_take hz8 hst0 hst10⟩)⟩
   skip
   refine xc Z2 (ih _ _ H.sub _ hnd8 oM oM) ?_
   rintro _ _ ⟨_,_,rfl,H15',⟨F15,T15,rfl,rfl,hNC15,hst15⟩⟩
   have H:=H.readers (fp:=[]) (by simp) (PLe.refl _) H15'
   refine⟨_,Z,?_⟩
   refine q4 H hd9 ?_
   refine r2 4 7 Z2 ?_ ?_
   ·skip
    refine lB 4 H Z3 (q4 H hd9 (r1 7 Z (xbs H Z7 ?_)));intro _ _ _ H
    refine q4 H hd9 (r1 8 Z (o_append1 1 H (sz:=1) (bytes:=8) underlying136 typeInfo119 ⟨_,Z,Z⟩ Z Z Z Z Z Z Z Z Z Z oM Z ?_));intro _ _ H
    have hchk17:=hchk6_0.snoc (show kdE _ T15 _ from rfl) rfl
    obtain⟨_,_,rfl⟩:=H.accShape (k:=1) rfl
    refine q4 H hd9 (dE 9 Z2 (dF 10 3 Z2 (r1 11 Z ?_)))
    have H:=H.tF 2
    have H:=H.mergeF
    refine xst 3 H Z8 ?_;intro _ H
    refine q4 H hd9 (rz (N_B (N_K (W_region (aD Z2 (mV Z (R_nil ?_)))))))
    have H:=H.tF 3
    have H:=H.tF 3
    have H:=H.tF 2
    have H:=H.tF 3
    refine N_lp (hJ:=⟨_,_,_,(xs++[T15]),k+1,(FK++F15),_,Z,hle6,H,?inv,Z⟩) (hm:=?hm)
    case hm=>omega
    case inv=>exact⟨hchk17,aN,(by exact⟨by omega,hKs.snoc hNC15,Nd.strip_take hz8 hst0 hst15⟩)⟩
   skip
   refine xbs H Z7 ?_;intro _ _ _ H
   refine q4 H hd9 (r1 4 Z (lB 5 H Z3 (q4 H hd9 (r1 8 Z (o_append1 1 H (sz:=1) (bytes:=8) underlying136 typeInfo119 ⟨_,Z,Z⟩ Z Z Z Z Z Z Z Z Z Z oM Z ?_)))));intro _ _ H
   have hchk21:=hchk6_0.snoc (show kdE _ T15 _ from rfl) rfl
   obtain⟨_,_,rfl⟩:=H.accShape (k:=1) rfl
   refine q4 H hd9 (dE 9 Z2 (dF 10 3 Z2 (r1 11 Z ?_)))
   have H:=H.tF 2
   have H:=H.mergeF
   refine xst 3 H Z8 ?_;intro _ H
   refine q4 H hd9 (rz (N_B (N_K (W_region (aD Z2 (mV Z (R_nil ?_)))))))
   have H:=H.tF 3
   have H:=H.tF 3
   have H:=H.tF 2
   have H:=H.tF 3
   refine N_lp (hJ:=⟨_,_,_,(xs++[T15]),k+1,(FK++F15),_,Z,hle6,H,?inv,Z⟩) (hm:=?hm)
   case hm=>omega
   case inv=>exact⟨hchk21,aN,(by exact⟨by omega,hKs.snoc hNC15,Nd.strip_take hz8 hst0 hst15⟩)⟩
  intro hc7'
  try simp only[nrm]at hc7'
  refine W_exit (N_K_exit (N_LP_exit (N_B_same (N_K (q2 (pe 2 Z (q3 (W_ret (rt1 results144 Z ?_)))))))))
  have H:=H.tF 2
  have H:=H.tF 3
  have H:=H.tF 3
  have H:=H.tF 3
  have hst:xs.map Nd.strip=t.kids.map Nd.strip:=by (have h9:=hst0;rw[List.take_of_length_le oM]at h9;exact h9)
  have hxl:=Nd.strip_len hst;have hkl:=Nd.kids_le t
  obtain rfl:n=xs.length:=by assumption
  obtain⟨FT,H,hNC⟩:=Hp.makeC (ks:=xs) (by (have hcc:=hchk6_0.kd;rw[hcc]at H;exact H)) hnlt oM hOIc hKs
  have H:=H.forget hG (by simp)
  exact⟨_,_,Z,H,FT,_,Z,Z,hNC,Nd.strip_mk hst⟩
theorem i_clone_c (w0:World)(G0:PH)(hG:PSub G0 w0)(t:Nd)(hndt:RdN G0 t)(hct:t.cnt≤1000) :
  Calls Tryz.prog 144 #[.pointer (some ⟨t.b,0,none⟩)] w0 (RetN w0 G0 (fun v Bs=>∃(F:Fr) (T:Nd),v= .pointer (some ⟨T.b,0,none⟩)∧Bs=[frag F]∧NdC 138 119 T F∧T.strip=t.strip)):=i_clone_r _ w0 G0 hG t hndt hct (Nat.le_refl _)
theorem i_take_c (w0:World)(G0:PH)(hG:PSub G0 w0)(db mb:Nat)(es:Array MapEntry)(ck:Nat)(xs:List (Int×Value))(T:Nd)(FT:Fr)(sv:Value)(sn:List (Bs×Nd))(c:List Value)(FSq:Fr)(d:BDisk)(hm:MapIs (Value.int .i64) es ck xs)(hS:StR G0 xs d.store)(hN:NdO 138 119 G0 T FT)(hT:Nd.TOK T d.tree)(hchk:Chk osE 2 G0 c sn)(hNs:NdsO 138 119 G0 (sn.map (·.2)) FSq)(hSn:SnOK sn d.snaps)(hdv:Sp.DiskValid d=true)(name:Bs)(hname:name.length≤16777216)(hLent:Lent w0 G0 [blk db (cl [.int .i32 0,.int .u32 0,.map (some mb),.pointer (some ⟨T.b,0,none⟩),sv] 133),blk mb (.map es ck),frag FT,acc 199 2 sv sn.length c,frag FSq]) :
  Calls Tryz.prog 62 #[.pointer (some ⟨db,0,none⟩),str name] w0 (RetM w0 G0 (fps [blk db (cl [.int .i32 0,.int .u32 0,.map (some mb),.pointer (some ⟨T.b,0,none⟩),sv] 133),blk mb (.map es ck),frag FT,acc 199 2 sv sn.length c,frag FSq]) (fun G' v Bs=>∃(es':Array MapEntry) (ck':Nat) (xs':List (Int×Value)) (F':Fr) (sv':Value) (sn':List (Fw.Bs×Nd)) (c':List Value) (FSq':Fr) (L':List BHeld),v= .bool (Sp.SnapTake d name).isSome∧Bs=[blk db (cl [.int .i32 0,.int .u32 0,.map (some mb),.pointer (some ⟨T.b,0,none⟩),sv'] 133),blk mb (.map es' ck'),frag F',acc 199 2 sv' sn'.length c',frag FSq']∧MapIs (Value.int .i64) es' ck' xs'∧StR G' xs' L'∧Sp.VH L'∧NdO 138 119 G' T F'∧Chk osE 2 G' c' sn'∧NdsO 138 119 G' (sn'.map (·.2)) FSq'∧∀d',Sp.SnapTake d name=some d'→L'=d'.store∧d'.tree=d.tree∧SnOK sn' d'.snaps)):=by
 have H:Hp w0 G0 (fps [blk db (cl [.int .i32 0,.int .u32 0,.map (some mb),.pointer (some ⟨T.b,0,none⟩),sv] 133),blk mb (.map es ck),frag FT,acc 199 2 sv sn.length c,frag FSq]) w0 G0 [blk db (cl [.int .i32 0,.int .u32 0,.map (some mb),.pointer (some ⟨T.b,0,none⟩),sv] 133),blk mb (.map es ck),frag FT,acc 199 2 sv sn.length c,frag FSq]:=hLent.hp
 obtain⟨_,_,rfl⟩:=H.accShape (k:=3) rfl;have hVd:=Sp.valid_iff.1 (Sp.dv_parts.1 hdv).1;have hTv:=(Sp.dv_parts.1 hdv).2.1;have hTc:=hT.cnt;have hTl:=Sp.tree_len hTv;have hsnl:=hSn.len;have hsn6:=(Sp.dv_parts.1 hdv).2.2.1
 refine calls_of_WD (l:=[.pointer (some ⟨db,0,none⟩),str name]) func62 Z ntmps62 Z (q2 (aG Z (q1 (pe 2 Z (fA 0 Z (o_lock 0 H muLib Z call140 Z Z Z Z ?_))))));intro _ H
 refine q1 (pe 2 Z (fA 0 Z (o_defer Z (q3 (W_seq (q2 (mV Z (xr H Z2 (i_partValid_c _ _ hname) ?_))))))));intro _ H
 refine pe 2 Z ?_
 refine R_case (t:=15) Z ?_ ?_
 ·intro hc3
  try simp only[nrm]at hc3
  refine pe 13 Z (q3 (W_true Z (q2 (aG Z (q3 (W_ret (N_K_ret (ret_unlock 0 H muLib Z call141 Z Z (rs:=[.tmp 4]) results62 ?_))))))));intro _ H
  refine⟨[_],⟨Z,trivial⟩,?_⟩
  have H:=H.tF 4
  have H:=H.tF 4
  have H:=H.tF 4
  have H:=H.tF 4
  have H:=H.tF 4
  have hno:Sp.SnapTake d name=none:=take_no (fun hh=>by have:=hh.1;simp_all)
  exact H.retM ⟨_,_,_,_,_,sn,_,_,d.store,by (rw[hno];rfl),rfl,hm,hS,hVd,hN,hchk,hNs,fun d2 h=>by rw[hno]at h;cases h⟩
 intro hc3'
 try simp only[nrm]at hc3'
 refine pe 2 Z (gR Z (xr H Z2 (i_snapAt_c _ _ (H.lendSubL [0,3]) _ _ _ _ _ _ _ (prow_blk (H.lendPredL (k:=0) (ks:=[0,3]) Z Z)) (H.lendRdL (k:=3) (ks:=[0,3]) Z Z hchk aN aN) _ hname) ?_));intro _ H
 refine pe 3 Z ?_
 refine R_case (t:=21) Z ?_ ?_
 ·intro hc5
  try simp only[nrm]at hc5
  refine pe 7 Z (q3 (W_true Z (q2 (aG Z (q3 (W_ret (N_K_ret (ret_unlock 0 H muLib Z call141 Z Z (rs:=[.tmp 4]) results62 ?_))))))));intro _ H
  refine⟨[_],⟨Z,trivial⟩,?_⟩
  have H:=H.tF 4
  have H:=H.tF 4
  have H:=H.tF 4
  have H:=H.tF 4
  have H:=H.tF 4
  have hno:Sp.SnapTake d name=none:=take_no (fun hh=>by have h8:=hh.2.1;(rw[←Sp.sn_find hSn,←optI_neg]at h8);omega)
  exact H.retM ⟨_,_,_,_,_,sn,_,_,d.store,by (rw[hno];rfl),rfl,hm,hS,hVd,hN,hchk,hNs,fun d2 h=>by rw[hno]at h;cases h⟩
 intro hc5'
 try simp only[nrm]at hc5'
 refine pe 2 Z (gR Z (fA 4 Z (gR Z (lB 0 H Z3 (gR Z (lN Z (pe 2 Z (q3 ?_))))))))
 refine W_cond Z ?_ ?_
 ·intro hc6
  try simp only[nrm]at hc6
  refine q2 (aG Z (q3 (W_ret (N_K_ret (ret_unlock 0 H muLib Z call141 Z Z (rs:=[.tmp 4]) results62 ?_)))));intro _ H
  refine⟨[_],⟨Z,trivial⟩,?_⟩
  have H:=H.tF 4
  have H:=H.tF 4
  have H:=H.tF 4
  have H:=H.tF 4
  have H:=H.tF 4
  have hno:Sp.SnapTake d name=none:=take_no (fun hh=>by have:=hh.2.2;omega)
  exact H.retM ⟨_,_,_,_,_,sn,_,_,d.store,by (rw[hno];rfl),rfl,hm,hS,hVd,hN,hchk,hNs,fun d2 h=>by rw[hno]at h;cases h⟩
 intro hc6'
 try simp only[nrm]at hc6'
 refine W_skip (N_K (W_seq (W_drawK [] 18 H kR Z ?_)));intro _ H;have hd7:=PLe.refl G0
 refine dE 0 Z2 (dE 1 Z2 (dE 2 Z2 (dF 3 4 Z2 (dE 5 Z2 (dE 6 Z2 (dE 7 Z2 (dF 8 2 Z2 (dF 9 1 Z2 ?_))))))))
 refine r2 4 10 Z2 ?_ ?_
 ·skip
  refine lB 0 H Z3 (q4 H hd7 (r1 10 Z (lB 0 H Z3 (q4 H hd7 (r1 11 Z (xc Z2 (i_clone_c _ _ (H.lendSubL [2]) _ ((H.lendN (k:=2) (ks:=[2]) Z Z hN).at (show Nd.at_ T []=some T from Z)) oM) ?_))))))
  rintro _ _ ⟨_,_,rfl,H8',⟨_,T8,rfl,rfl,hNC8,hst8⟩⟩
  have H:=H.readersL H8'
  refine⟨_,Z,?_⟩
  obtain⟨Gs4,_,H,hsl4,hNc4⟩:=Hp.shareC H hNC8 (H.apart (k:=0) (ks:=[1,2,3,4,5]) rfl rfl (by intro b hb;simp only[fps,List.flatMap_cons,List.flatMap_nil,List.append_nil,List.mem_append]at hb;rcases hb with h|h|h|h|h;(· exact fpsAt_mem (k:=1) rfl rfl b (by exact h));(· exact fpsAt_mem (k:=2) rfl rfl b (by exact h));(· exact fpsAt_mem (k:=3) rfl rfl b (by exact h));(· exact fpsAt_mem (k:=4) rfl rfl b (by exact h));(· exact fpsAt_mem (k:=5) rfl rfl b (by exact h))))
  have hS:=hS.up hsl4
  have hN:=hN.up hsl4
  have hchk:=hchk.up hsl4
  have hNs:=hNs.up hsl4
  have hd7:=hd7.trans hsl4
  refine q4 H hd7 (RD_t 12 Z kR Z (fun _ hK=>v_build bf199 Z Z) (r1 13 Z (xbs H Z7 ?_)));intro _ _ _ H
  refine q4 H hd7 (r1 14 Z (o_append1 4 H (sz:=2) (bytes:=24) underlying131 typeInfo199 ⟨_,Z,Z⟩ Z Z Z Z Z Z Z Z Z Z oM Z ?_));intro _ _ H
  have hchk10:=hchk.snoc (show osE _ (name,T8) _ from⟨rfl,hname⟩) rfl
  obtain⟨_,_,rfl⟩:=H.accShape (k:=4) rfl
  refine q4 H hd7 (dE 15 Z2 (dF 16 4 Z2 (r1 17 Z ?_)))
  have H:=H.tF 5
  have H:=H.mergeF
  refine xst 1 H Z8 ?_;intro _ H
  refine q4 H hd7 (rz (N_K (W_seq (W_drawK [1] 12 H kR Z ?_))));intro _ H;have hd12:=PLe.refl Gs4
  refine dE 0 Z2 (dE 1 Z2 (dF 2 2 Z2 (dF 3 0 Z2 (dB 4 0 Z4 (dE 5 Z2 (dE 6 Z2 (dF 7 2 Z2 (dF 8 1 Z2 (dB 9 0 Z4 (r1 10 Z ?_))))))))))
  have H:=H.tF 3
  have H:=H.tF 3
  refine xc Z2 (i_keepTree_c _ _ H.sub _ _ _ _ _ hm hS hVd _ _ hN H.lent2 hT.wf oM) ?_
  rintro _ _ ⟨_,_,_,rfl,H13',⟨_,_,_,L13,rfl,rfl,hm13,hS13,hV13,hL13⟩⟩
  have hN:=hN.up H13'.le
  have hNs:=hNs.up H13'.le
  have hNc4:=hNc4.up H13'.le
  have hchk10:=hchk10.up H13'.le
  have hd12:=hd12.trans H13'.le
  have H:=H.borrow2 H13'
  refine⟨_,Z,?_⟩
  refine q4 H hd12 (dE 11 Z2 (rz (N_K (W_ret (ret_unlock 3 H muLib Z call141 Z Z (rs:=[.tmp 4]) results62 ?_)))));intro _ H
  refine⟨[_],⟨Z,trivial⟩,?_⟩
  have H:=H.tF 2
  have H:=H.tF 4
  have H:=H.tF 3
  have H:=H.tF 3
  have H:=H.tF 4
  have htk:=take_eq hdv (by simpa using hc3') (optI_neg.1 (by (rw[←Sp.sn_find hSn];omega))) (by omega:d.snaps.length≠6)
  have hfl:=hT.flat
  have hln:sn.length+1=(sn++[(name,T8)]).length:=by simp
  rw[hln]at H
  exact H.retM ⟨_,_,_,_,_,sn++[(name,T8)],_,_,L13,congrArg Value.bool (by (rw[htk,hfl,Option.isSome_map])),rfl,hm13,hS13,hV13,hN,hchk10,by (rw[List.map_append];exact hNs.snoc hNc4),fun d2 h=>(by (rw[htk]at h);obtain⟨s2,h2,rfl⟩:=Option.map_eq_some_iff.1 h;exact⟨hL13 s2 (by (rw[hfl];exact h2)),rfl,All2.push hSn rfl (hT.strip hst8) hTv⟩)⟩
 skip
 refine lB 0 H Z3 (q4 H hd7 ?_)
 refine r2 4 11 Z2 ?_ ?_
 ·skip
  refine lB 0 H Z3 (q4 H hd7 (r1 11 Z (xc Z2 (i_clone_c _ _ (H.lendSubL [2]) _ ((H.lendN (k:=2) (ks:=[2]) Z Z hN).at (show Nd.at_ T []=some T from Z)) oM) ?_)))
  rintro _ _ ⟨_,_,rfl,H14',⟨_,T14,rfl,rfl,hNC14,hst14⟩⟩
  have H:=H.readersL H14'
  refine⟨_,Z,?_⟩
  obtain⟨Gs6,_,H,hsl6,hNc6⟩:=Hp.shareC H hNC14 (H.apart (k:=0) (ks:=[1,2,3,4,5]) rfl rfl (by intro b hb;simp only[fps,List.flatMap_cons,List.flatMap_nil,List.append_nil,List.mem_append]at hb;rcases hb with h|h|h|h|h;(· exact fpsAt_mem (k:=1) rfl rfl b (by exact h));(· exact fpsAt_mem (k:=2) rfl rfl b (by exact h));(· exact fpsAt_mem (k:=3) rfl rfl b (by exact h));(· exact fpsAt_mem (k:=4) rfl rfl b (by exact h));(· exact fpsAt_mem (k:=5) rfl rfl b (by exact h))))
  have hS:=hS.up hsl6
  have hN:=hN.up hsl6
  have hchk:=hchk.up hsl6
  have hNs:=hNs.up hsl6
  have hd7:=hd7.trans hsl6
  refine q4 H hd7 (RD_t 12 Z kR Z (fun _ hK=>v_build bf199 Z Z) (r1 13 Z (xbs H Z7 ?_)));intro _ _ _ H
  refine q4 H hd7 (r1 14 Z (o_append1 4 H (sz:=2) (bytes:=24) underlying131 typeInfo199 ⟨_,Z,Z⟩ Z Z Z Z Z Z Z Z Z Z oM Z ?_));intro _ _ H
  have hchk16:=hchk.snoc (show osE _ (name,T14) _ from⟨rfl,hname⟩) rfl
  obtain⟨_,_,rfl⟩:=H.accShape (k:=4) rfl
  refine q4 H hd7 (dE 15 Z2 (dF 16 4 Z2 (r1 17 Z ?_)))
  have H:=H.tF 5
  have H:=H.mergeF
  refine xst 1 H Z8 ?_;intro _ H
  refine q4 H hd7 (rz (N_K (W_seq (W_drawK [1] 12 H kR Z ?_))));intro _ H;have hd18:=PLe.refl Gs6
  refine dE 0 Z2 (dE 1 Z2 (dF 2 2 Z2 (dF 3 0 Z2 (dB 4 0 Z4 (dE 5 Z2 (dE 6 Z2 (dF 7 2 Z2 (dF 8 1 Z2 (dB 9 0 Z4 (r1 10 Z ?_))))))))))
  have H:=H.tF 3
  have H:=H.tF 3
  refine xc Z2 (i_keepTree_c _ _ H.sub _ _ _ _ _ hm hS hVd _ _ hN H.lent2 hT.wf oM) ?_
  rintro _ _ ⟨_,_,_,rfl,H19',⟨_,_,_,L19,rfl,rfl,hm19,hS19,hV19,hL19⟩⟩
  have hN:=hN.up H19'.le
  have hNs:=hNs.up H19'.le
  have hNc6:=hNc6.up H19'.le
  have hchk16:=hchk16.up H19'.le
  have hd18:=hd18.trans H19'.le
  have H:=H.borrow2 H19'
  refine⟨_,Z,?_⟩
  refine q4 H hd18 (dE 11 Z2 (rz (N_K (W_ret (ret_unlock 3 H muLib Z call141 Z Z (rs:=[.tmp 4]) results62 ?_)))));intro _ H
  refine⟨[_],⟨Z,trivial⟩,?_⟩
  have H:=H.tF 2
  have H:=H.tF 4
  have H:=H.tF 3
  have H:=H.tF 3
  have H:=H.tF 4
  have htk:=take_eq hdv (by simpa using hc3') (optI_neg.1 (by (rw[←Sp.sn_find hSn];omega))) (by omega:d.snaps.length≠6)
  have hfl:=hT.flat
  have hln:sn.length+1=(sn++[(name,T14)]).length:=by simp
  rw[hln]at H
  exact H.retM ⟨_,_,_,_,_,sn++[(name,T14)],_,_,L19,congrArg Value.bool (by (rw[htk,hfl,Option.isSome_map])),rfl,hm19,hS19,hV19,hN,hchk16,by (rw[List.map_append];exact hNs.snoc hNc6),fun d2 h=>(by (rw[htk]at h);obtain⟨s2,h2,rfl⟩:=Option.map_eq_some_iff.1 h;exact⟨hL19 s2 (by (rw[hfl];exact h2)),rfl,All2.push hSn rfl (hT.strip hst14) hTv⟩)⟩
 skip
 refine xc Z2 (i_clone_c _ _ (H.lendSubL [2]) _ ((H.lendN (k:=2) (ks:=[2]) Z Z hN).at (show Nd.at_ T []=some T from Z)) oM) ?_
 rintro _ _ ⟨_,_,rfl,H20',⟨_,T20,rfl,rfl,hNC20,hst20⟩⟩
 have H:=H.readersL H20'
 refine⟨_,Z,?_⟩
 obtain⟨Gs8,_,H,hsl8,hNc8⟩:=Hp.shareC H hNC20 (H.apart (k:=0) (ks:=[1,2,3,4,5]) rfl rfl (by intro b hb;simp only[fps,List.flatMap_cons,List.flatMap_nil,List.append_nil,List.mem_append]at hb;rcases hb with h|h|h|h|h;(· exact fpsAt_mem (k:=1) rfl rfl b (by exact h));(· exact fpsAt_mem (k:=2) rfl rfl b (by exact h));(· exact fpsAt_mem (k:=3) rfl rfl b (by exact h));(· exact fpsAt_mem (k:=4) rfl rfl b (by exact h));(· exact fpsAt_mem (k:=5) rfl rfl b (by exact h))))
 have hS:=hS.up hsl8
 have hN:=hN.up hsl8
 have hchk:=hchk.up hsl8
 have hNs:=hNs.up hsl8
 have hd7:=hd7.trans hsl8
 refine q4 H hd7 (RD_t 12 Z kR Z (fun _ hK=>v_build bf199 Z Z) ?_)
 refine r2 4 13 Z2 ?_ ?_
 ·skip
  refine lB 1 H Z3 (q4 H hd7 (r1 13 Z (xbs H Z7 ?_)));intro _ _ _ H
  refine q4 H hd7 (r1 14 Z (o_append1 4 H (sz:=2) (bytes:=24) underlying131 typeInfo199 ⟨_,Z,Z⟩ Z Z Z Z Z Z Z Z Z Z oM Z ?_));intro _ _ H
  have hchk22:=hchk.snoc (show osE _ (name,T20) _ from⟨rfl,hname⟩) rfl
  obtain⟨_,_,rfl⟩:=H.accShape (k:=4) rfl
  refine q4 H hd7 (dE 15 Z2 (dF 16 4 Z2 (r1 17 Z ?_)))
  have H:=H.tF 5
  have H:=H.mergeF
  refine xst 1 H Z8 ?_;intro _ H
  refine q4 H hd7 (rz (N_K (W_seq (W_drawK [1] 12 H kR Z ?_))));intro _ H;have hd24:=PLe.refl Gs8
  refine dE 0 Z2 (dE 1 Z2 (dF 2 2 Z2 (dF 3 0 Z2 (dB 4 0 Z4 (dE 5 Z2 (dE 6 Z2 (dF 7 2 Z2 (dF 8 1 Z2 (dB 9 0 Z4 (r1 10 Z ?_))))))))))
  have H:=H.tF 3
  have H:=H.tF 3
  refine xc Z2 (i_keepTree_c _ _ H.sub _ _ _ _ _ hm hS hVd _ _ hN H.lent2 hT.wf oM) ?_
  rintro _ _ ⟨_,_,_,rfl,H25',⟨_,_,_,L25,rfl,rfl,hm25,hS25,hV25,hL25⟩⟩
  have hN:=hN.up H25'.le
  have hNs:=hNs.up H25'.le
  have hNc8:=hNc8.up H25'.le
  have hchk22:=hchk22.up H25'.le
  have hd24:=hd24.trans H25'.le
  have H:=H.borrow2 H25'
  refine⟨_,Z,?_⟩
  refine q4 H hd24 (dE 11 Z2 (rz (N_K (W_ret (ret_unlock 3 H muLib Z call141 Z Z (rs:=[.tmp 4]) results62 ?_)))));intro _ H
  refine⟨[_],⟨Z,trivial⟩,?_⟩
  have H:=H.tF 2
  have H:=H.tF 4
  have H:=H.tF 3
  have H:=H.tF 3
  have H:=H.tF 4
  have htk:=take_eq hdv (by simpa using hc3') (optI_neg.1 (by (rw[←Sp.sn_find hSn];omega))) (by omega:d.snaps.length≠6)
  have hfl:=hT.flat
  have hln:sn.length+1=(sn++[(name,T20)]).length:=by simp
  rw[hln]at H
  exact H.retM ⟨_,_,_,_,_,sn++[(name,T20)],_,_,L25,congrArg Value.bool (by (rw[htk,hfl,Option.isSome_map])),rfl,hm25,hS25,hV25,hN,hchk22,by (rw[List.map_append];exact hNs.snoc hNc8),fun d2 h=>(by (rw[htk]at h);obtain⟨s2,h2,rfl⟩:=Option.map_eq_some_iff.1 h;exact⟨hL25 s2 (by (rw[hfl];exact h2)),rfl,All2.push hSn rfl (hT.strip hst20) hTv⟩)⟩
 skip
 refine xbs H Z7 ?_;intro _ _ _ H
 refine q4 H hd7 (r1 4 Z (lB 2 H Z3 (q4 H hd7 (r1 14 Z (o_append1 4 H (sz:=2) (bytes:=24) underlying131 typeInfo199 ⟨_,Z,Z⟩ Z Z Z Z Z Z Z Z Z Z oM Z ?_)))));intro _ _ H
 have hchk27:=hchk.snoc (show osE _ (name,T20) _ from⟨rfl,hname⟩) rfl
 obtain⟨_,_,rfl⟩:=H.accShape (k:=4) rfl
 refine q4 H hd7 (dE 15 Z2 (dF 16 4 Z2 (r1 17 Z ?_)))
 have H:=H.tF 5
 have H:=H.mergeF
 refine xst 1 H Z8 ?_;intro _ H
 refine q4 H hd7 (rz (N_K (W_seq (W_drawK [1] 12 H kR Z ?_))));intro _ H;have hd29:=PLe.refl Gs8
 refine dE 0 Z2 (dE 1 Z2 (dF 2 2 Z2 (dF 3 0 Z2 (dB 4 0 Z4 (dE 5 Z2 (dE 6 Z2 (dF 7 2 Z2 (dF 8 1 Z2 (dB 9 0 Z4 (r1 10 Z ?_))))))))))
 have H:=H.tF 3
 have H:=H.tF 3
 refine xc Z2 (i_keepTree_c _ _ H.sub _ _ _ _ _ hm hS hVd _ _ hN H.lent2 hT.wf oM) ?_
 rintro _ _ ⟨_,_,_,rfl,H30',⟨_,_,_,L30,rfl,rfl,hm30,hS30,hV30,hL30⟩⟩
 have hN:=hN.up H30'.le
 have hNs:=hNs.up H30'.le
 have hNc8:=hNc8.up H30'.le
 have hchk27:=hchk27.up H30'.le
 have hd29:=hd29.trans H30'.le
 have H:=H.borrow2 H30'
 refine⟨_,Z,?_⟩
 refine q4 H hd29 (dE 11 Z2 (rz (N_K (W_ret (ret_unlock 3 H muLib Z call141 Z Z (rs:=[.tmp 4]) results62 ?_)))));intro _ H
 refine⟨[_],⟨Z,trivial⟩,?_⟩
 have H:=H.tF 2
 have H:=H.tF 4
 have H:=H.tF 3
 have H:=H.tF 3
 have H:=H.tF 4
 have htk:=take_eq hdv (by simpa using hc3') (optI_neg.1 (by (rw[←Sp.sn_find hSn];omega))) (by omega:d.snaps.length≠6)
 have hfl:=hT.flat
 have hln:sn.length+1=(sn++[(name,T20)]).length:=by simp
 rw[hln]at H
 exact H.retM ⟨_,_,_,_,_,sn++[(name,T20)],_,_,L30,congrArg Value.bool (by (rw[htk,hfl,Option.isSome_map])),rfl,hm30,hS30,hV30,hN,hchk27,by (rw[List.map_append];exact hNs.snoc hNc8),fun d2 h=>(by (rw[htk]at h);obtain⟨s2,h2,rfl⟩:=Option.map_eq_some_iff.1 h;exact⟨hL30 s2 (by (rw[hfl];exact h2)),rfl,All2.push hSn rfl (hT.strip hst20) hTv⟩)⟩
theorem i_next_c (w0:World)(G0:PH)(hG:PSub G0 w0)(rb:Nat)(ab:Option Addr)(kb:Nat)(bs:List Int)(p:Nat)(hbs:RdI G0 (.slice ab bs.length kb) bs)(hp:p≤bs.length)(hbl:bs.length≤1000000)(hLent:Lent w0 G0 [blk rb (cl [.slice ab bs.length kb,.int .i64 (p:Int)] 299)]) :
  Calls Tryz.prog 249 #[.pointer (some ⟨rb,0,none⟩)] w0 (RetM w0 G0 [rb] (fun G' v Bs=>∃(u:Value) (c:List Value) (p':Nat),v=u∧Bs=[acc 3 1 u (Sp.nextC bs p).length c,blk rb (cl [.slice ab bs.length kb,.int .i64 (p':Int)] 299)]∧p'=min (p+8) bs.length∧Chk intE 1 G' c (Sp.nextC bs p))):=by
 have H:Hp w0 G0 [rb] w0 G0 [blk rb (cl [.slice ab bs.length kb,.int .i64 (p:Int)] 299)]:=hLent.hp
 refine calls_of_W (l:=[.pointer (some ⟨rb,0,none⟩)]) func249 Z ntmps249 Z (q2 (aG Z (q3 (W_seq (W_drawK [0] 12 H kR Z ?_)))));intro _ H;have hd1:=PLe.refl G0
 refine dE 0 Z2 (dE 1 Z2 (dF 2 1 Z2 (dB 3 0 Z4 (RD_t 4 Z kR Z (fun _ hK=>v_add Z Z oO) (dE 5 Z2 (dE 6 Z2 (dF 7 0 Z2 (dB 8 0 Z4 (dN 9 Z2 (RD_t 10 Z kR Z (fun _ hK=>v_min Z Z) (dE 11 Z2 (rz (N_K (W_seq (W_drawK [0] 12 H kR Z ?_)))))))))))))));intro _ H;have hd3:=PLe.refl G0
 refine dE 0 Z2 (dE 1 Z2 (dF 2 0 Z2 (dB 3 0 Z4 (dE 4 Z2 (dE 5 Z2 (dF 6 1 Z2 (dB 7 0 Z4 (dE 8 Z2 ?_))))))))
 have hcap4:=hbs.cap;try simp only[List.length_set,List.length_append,List.length_take,List.length_drop,List.length_replicate]at hcap4
 have hsl4:=hbs.part (i:=p) (j:=(min (p+8) bs.length)) oM oM
 have hsn1:=hsl4.len
 refine RD_t 9 Z kR Z (fun _ hK=>v_slice (i:=p) (j:=(min (p+8) bs.length)) underlying33 sizeOf3 Z Z Z oM oM aN aN) (r1 10 Z ?_)
 have H:=H.addNil 3 1
 refine o_append_P 0 H hsl4 (by intro _ _ hz _ hu;obtain⟨rfl,_⟩:=hz;simp at hu;subst hu;rfl) (sz:=1) (bytes:=8) underlying33 typeInfo3 ⟨_,rfl,rfl⟩ rfl rfl rfl rfl rfl rfl rfl oM rfl ?_;intro _ _ css5 hcl5 hcs5 H
 have hchk5:Chk intE 1 G0 ([]++css5.flatten) _:=⟨css5,rfl,hcl5,hcs5⟩
 obtain⟨_,_,rfl⟩:=H.accShape (k:=0) rfl
 refine q4 H hd3 (dE 11 Z2 (rz (N_K (q2 (pe 3 Z (fA 1 Z (xst 1 H Z8 ?_)))))));intro _ H
 refine q1 (pe 2 Z (q3 (W_ret (rt1 results249 Z ?_))))
 have hcx:(Sp.nextC bs p).length=min (p+8) bs.length-p:=by unfold Sp.nextC;simp;omega
 have hpm:min ((p:Int)+8) (bs.length:Int)=((min (p+8) bs.length:Nat):Int):=by omega
 exact H.retM ⟨_,_,min (p+8) bs.length,rfl,by rw[hcx,hpm];simp only[Nat.zero_add];rfl,rfl,hchk5⟩
theorem i_storeFile_c (w0:World)(G0:PH)(hG:PSub G0 w0)(mbs:Nat)(ess:Array MapEntry)(cks:Nat)(xss:List (Int×Value))(Ls:List BHeld)(hms:MapIs (Value.int .i64) ess cks xss)(hSs:StR G0 xss Ls)(hVs:Sp.VH Ls)(vbytes:Value)(bytes:List (Int))(hbytes:RdI G0 vbytes bytes)(hLent:Lent w0 G0 [blk mbs (.map ess cks)])(hB:Sp.FileValid bytes=true) :
  Calls Tryz.prog 213 #[.map (some mbs),vbytes] w0 (RetM w0 G0 [mbs] (fun G' v Bs=>∃(es':Array MapEntry) (ck':Nat) (xs':List (Int×Value)) (L':List BHeld) (u:Value) (c:List Value) (ids:List Int),v= .tuple #[u,.bool (Sp.FileStore Ls bytes).isSome]∧Bs=[acc 3 1 u ids.length c,blk mbs (.map es' ck')]∧MapIs (Value.int .i64) es' ck' xs'∧StR G' xs' L'∧Sp.VH L'∧(∀r,Sp.FileStore Ls bytes=some r→r=(L',ids))∧Chk intE 1 G' c ids∧ids.length≤1000)):=by
 obtain⟨abytes,kbytes,rfl⟩:=hbytes.shape
 have hlimbytes:bytes.length≤1099511627776:=hbytes.lim
 have hBl:bytes.length≤32:=by simp[Sp.FileValid]at hB;omega
 have H:Hp w0 G0 [mbs] w0 G0 [blk mbs (.map ess cks)]:=hLent.hp
 refine calls_of_W (l:=[.map (some mbs),.slice abytes bytes.length kbytes]) func213 Z ntmps213 Z (q2 (pe 2 Z (q1 (aG Z (q1 (mV Z (o_build bf299 Z Z Z (o_box H Z Z Z ?_))))))));intro b1 _ _ H
 refine aG Z (q3 (W_seq (q2 (mV Z (xc Z2 (i_next_c _ _ H.sub _ _ _ _ 0 hbytes oM oM H.lent1) ?_)))))
 rintro _ _ ⟨G2,_,_,rfl,H2',⟨_,_,_,rfl,rfl,_,hchk2⟩⟩
 have hSs:=hSs.up H2'.le
 have hbytes:=hbytes.up H2'.le
 have H:=H.borrow1 H2'
 obtain⟨_,_,rfl⟩:=H.accShape (k:=0) rfl
 refine⟨_,Z,?_⟩
 refine aG Z (q3 (W_block ?_))
 have H:=H.addNil 3 1
 refine W_lp (hf:=(Sub.cons (t:=0) Z (Sub.cons (t:=7) Z Sub.nil))) (J:=fun M w m=>∃(esm0:Array MapEntry) (ckm0:Nat) (xsm0:List (Int×Value)) (Lm0:List BHeld) (v:Value) (n:Nat) (cs:List Value) (xs:List (Int)) (v1:Value) (n1:Nat) (cs1:List Value) (xs1:List (Int)) (k p:Nat) (G:PH),M=[(6,v),(8,v1)]∧PLe G2 G∧Hp w0 G0 [mbs] w G [acc 3 1 v n cs,acc 3 1 v1 n1 cs1,blk b1 (cl [.slice abytes bytes.length kbytes,.int .i64 (p:Int)] 299),blk mbs (.map esm0 ckm0)]∧(MapIs (Value.int .i64) esm0 ckm0 xsm0∧StR G xsm0 Lm0∧Sp.VH Lm0∧Chk intE 1 G cs xs∧n=xs.length∧Chk intE 1 G cs1 xs1∧n1=xs1.length∧xs1=Sp.chunk bytes k∧p=min (8*k+8) bytes.length∧xs.length≤k∧k≤100∧Sp.foldB Sp.put1 ((Sp.l4Cut bytes).take k) (some (Ls,[]))=some (Lm0,xs))∧m=(100-k)) (h0:=⟨_,_,xss,Ls,_,_,_,[],_,_,_,(Sp.nextC bytes 0),0,_,_,Z,PLe.refl _,H,?inv,Z⟩) (round:=?round)
 case inv=>exact⟨hms,hSs,hVs,(by exact⟨(Chk.nil (E:=intE) (sz:=1) (G:=G2)),(by first|rfl|simp|(simp;omega)|omega),hchk2,by first|rfl|simp|(simp;omega)|omega,(by exact⟨Sp.next_zero _,by omega,by simp,by omega,by simp[Sp.foldB]⟩)⟩)⟩
 case round =>
  rintro _ _ _ ⟨esm0,ckm0,xsm0,Lm0,v,n,cs,xs,v1,n1,cs1,xs1,k,p,_,rfl,hle4,H,hinv4,rfl⟩
  have hbytes:=hbytes.up hle4
  obtain⟨hm4_m0,hS4_m0,hV4_m0,hinv4⟩:=hinv4
  obtain⟨hchk4_0,_,hinv4⟩:=hinv4
  obtain⟨_,_,rfl⟩:=H.accShape (k:=0) rfl
  obtain⟨hchk4_1,_,hinv4⟩:=hinv4
  obtain⟨_,_,rfl⟩:=H.accShape (k:=1) rfl
  obtain⟨rfl,hpk,_,_,hf⟩:=hinv4;have hcl:=Sp.chunk_len bytes k
  refine W_seq (q2 (mV Z (lN Z (pe 1 Z (q3 ?_)))))
  refine W_cond Z ?_ ?_
  ·intro hc5
   try simp only[nrm]at hc5
   refine W_skip (N_K (W_seq (W_block (q2 (pe 2 Z ?_)))))
   obtain⟨_,H,hsg7,hsr7⟩:=H.shutL (k:=1) rfl (H.apart (k:=1) (ks:=[3]) rfl rfl (by intro b hb;simpa [fpsAt,nth,blk] using hb)) hchk4_1 aN aN
   have hbytes:=hbytes.up hsg7
   have hS4_m0:=hS4_m0.up hsg7
   have hchk4_0:=hchk4_0.up hsg7
   have hle4:=hle4.trans hsg7
   have H:=H.tF 2
   refine xc Z2 (i_put_c _ _ H.sub _ _ _ _ _ hm4_m0 hS4_m0 hV4_m0 _ _ hsr7 H.lent1 (Sp.chunk_valid hB oM)) ?_
   rintro _ _ ⟨G6,_,_,rfl,H6',⟨_,_,xs6,L6,i6,rfl,rfl,hm6,hS6,hV6,hL6,_,hir6⟩⟩
   have hbytes:=hbytes.up H6'.le
   have hchk4_0:=hchk4_0.up H6'.le
   have hle4:=hle4.trans H6'.le
   have H:=H.borrow1 H6'
   refine⟨_,Z,?_⟩
   refine pe 5 Z (q3 (W_seq (q2 (pe 2 Z (q3 ?_)))))
   refine W_cond Z ?_ ?_
   ·intro hc8
    try simp only[nrm]at hc8
    refine q2 (pe 2 Z (q3 (W_ret (N_K_ret (N_B_ret (N_K_ret (N_LP_ret (N_B_ret (N_K_ret (rt2 results213 Z Z ?_))))))))))
    have hno:Sp.FileStore Ls bytes=none:=by (have hno:Sp.StorePut Lm0 (Sp.chunk bytes k)=none:=by simpa using hc8);simp only[Sp.FileStore,Sp.valid_iff.2 hVs,hB,Bool.and_self,if_true];exact Sp.foldB_stop hf (Sp.chunks_at oM) (by simp[Sp.put1,hno])
    have H:=H.addNil 3 1
    have H:=H.dl 2
    have H:=H.dl 2
    have H:=H.tF 1
    have H:=H.tF 1
    exact H.retM ⟨_,_,_,_,_,_,_,congrArg (fun b=>Value.tuple #[_,Value.bool b]) (show _=(Sp.FileStore Ls bytes).isSome by rw[hno];rfl),acc_1 aN,hm6,hS6,hV6,(fun r hr=>by rw[hno]at hr;cases hr),(Chk.nil (E:=intE) (sz:=1) (G:=G6)),by first|omega|(simp;done)|(simp;omega)⟩
   intro hc8'
   try simp only[nrm]at hc8'
   obtain⟨⟨r1,r2⟩,hsp⟩:=Option.isSome_iff_exists.1 hc8'
   have hLp:L6=r1:=by rw[hL6,hsp];rfl
   subst hLp
   obtain rfl:i6=r2:=(hir6 _ hsp).symm
   refine W_skip (N_K (W_region (pe 2 Z (xbs H Z7 ?_))));intro _ _ _ H
   refine o_append1 1 H (sz:=1) (bytes:=8) underlying33 typeInfo3 ⟨_,Z,Z⟩ Z Z Z Z Z Z Z Z Z Z oM Z ?_;intro _ _ H
   have hchk10:=hchk4_0.snoc (show intE _ i6 _ from⟨rfl,oO⟩) rfl
   obtain⟨_,_,rfl⟩:=H.accShape (k:=1) rfl
   refine aG Z (R_nil (N_B (N_K (W_region (mV Z ?_)))))
   have H:=H.tF 2
   refine xc Z2 (i_next_c _ _ H.sub _ _ _ _ p hbytes oM oM H.lent1) ?_
   rintro _ _ ⟨_,_,_,rfl,H11',⟨_,_,p11,rfl,rfl,_,hchk11⟩⟩
   have hS6:=hS6.up H11'.le
   have hchk10:=hchk10.up H11'.le
   have hle4:=hle4.trans H11'.le
   have H:=H.borrow1 H11'
   obtain⟨_,_,rfl⟩:=H.accShape (k:=0) rfl
   refine⟨_,Z,?_⟩
   refine aG Z (R_nil ?_)
   have H:=H.tF 2
   have H:=H.tF 2
   have H:=H.tF 2
   have H:=H.tF 3
   refine N_lp (hJ:=⟨_,_,xs6,L6,_,_,_,(xs++[i6]),_,_,_,(Sp.nextC bytes p),k+1,p11,_,Z,hle4,H,?inv,Z⟩) (hm:=?hm)
   case hm=>omega
   case inv=>exact⟨hm6,hS6,hV6,(by exact⟨hchk10,aN,hchk11,aN,(by exact⟨by rw[hpk];exact Sp.next_chunk _ _,by omega,by simp;omega,by omega,Sp.foldB_succ hf (Sp.chunks_at oM) (by simp[Sp.put1,hsp])⟩)⟩)⟩
  intro hc5'
  try simp only[nrm]at hc5'
  refine W_exit (N_K_exit (N_LP_exit (N_B_same (N_K (q2 (pe 3 Z (q3 (W_ret (rt2 results213 Z Z ?_)))))))))
  have hyes:Sp.FileStore Ls bytes=some (Lm0,xs):=by simp only[Sp.FileStore,Sp.valid_iff.2 hVs,hB,Bool.and_self,if_true];exact Sp.foldB_all hf (Sp.chunks_end oM)
  have H:=H.dl 1
  have H:=H.dl 1
  have H:=H.tF 1
  have H:=H.tF 1
  exact H.retM ⟨_,_,_,_,_,_,_,congrArg (fun b=>Value.tuple #[_,Value.bool b]) (show _=(Sp.FileStore Ls bytes).isSome by rw[hyes];rfl),acc_1 aN,hm4_m0,hS4_m0,hV4_m0,(fun r hr=>by rw[hyes]at hr;cases hr;rfl),hchk4_0,by first|omega|(simp;done)|(simp;omega)⟩
theorem i_count_r:∀(N:Nat) (w0:World) (G0:PH) (hG:PSub G0 w0) (t:Nd) (hndt:RdN G0 t) (hct:t.cnt≤100000) (hsz:t.size≤N),
  Calls Tryz.prog 251 #[.pointer (some ⟨t.b,0,none⟩)] w0 (Rets w0 (.int .i64 (t.cnt:Nat))):=by
 intro N
 induction N with
 | zero=>intro w0 G0 hG t hndt hct hsz;exact absurd (Nd.size_pos t) oM
 | succ N ih =>
 intro w0 G0 hG t hndt hct hsz
 obtain⟨_,_,_,_,_,_,_,hprt,hrit,hrkt⟩:=hndt.open
 have hn_hrit:=hrit.len;have hx_hrit:_≤1099511627776:=hrit.lim
 have hn_hrkt:=hrkt.len;have hx_hrkt:_≤1099511627776:=hrkt.lim
 subst hn_hrkt
 have H:=Hp.init hG
 refine calls_of_W (l:=[.pointer (some ⟨t.b,0,none⟩)]) func251 Z ntmps251 Z (q2 (aG Z (q1 (pe 2 Z (fA 3 Z (lP H hprt 3 Z2 (lN Z (aG Z (q3 (W_seq (q2 (pe 2 Z (fA 3 Z (lP H hprt 3 Z2 (lN Z ?_)))))))))))))))
 refine mV Z (q3 (W_block ?_))
 refine W_lp (hf:=(Sub.cons (t:=2) Z (Sub.cons (t:=14) Z (Sub.cons (t:=15) Z Sub.nil)))) (J:=fun M w m=>∃(k mm:Nat) (G:PH),M=[(16,.int .i64 (k:Int)),(3,.int .i64 (mm:Int))]∧PLe G0 G∧Hp w0 G0 [] w G []∧(k≤t.kids.length∧mm=Nd.cnts (t.kids.take k)+(t.kids.length-k))∧m=(t.kids.length-k)) (h0:=⟨0,t.kids.length,_,Z,PLe.refl _,H,?inv,Z⟩) (round:=?round)
 case inv=>simp[Nd.cnts]
 case round =>
  rintro _ _ _ ⟨k,mm,_,rfl,hle1,H,hinv1,rfl⟩
  have hrkt:=hrkt.up hle1
  obtain⟨_,hm⟩:=hinv1;have hct2:=Nd.cnts_take t.kids k;have hct3:=Nd.cnt_eq t;have hkl:=Nd.kids_le t
  refine q2 (pe 1 Z (q3 (W_seq ?_)))
  refine W_cond Z ?_ ?_
  ·intro hc2
   try simp only[nrm]at hc2
   refine W_skip (N_K (W_seq (W_block (q2 (iP k hrkt Z3 Z ?_)))));intro _ _ z3 _ hz3 hE3 hrow3
   obtain⟨rfl,hnd3⟩:=hE3;obtain⟨_,_,_,_,_,_,_,_,hri3,hrk3⟩:=hnd3.open;have hn_hri3:=hri3.len;have hx_hri3:_≤1099511627776:=hri3.lim;have hn_hrk3:=hrk3.len;have hx_hrk3:_≤1099511627776:=hrk3.lim
   have hzm:=List.mem_of_getElem? hz3;have hzc:=Nd.kid_cnt hzm;have hzs:=Nd.size_kid hzm
   refine lP H hrow3 0 Z2 (aG Z (q3 (W_region (pe 2 Z (xr H Z2 (ih _ _ H.sub _ hnd3 oM oM) ?_)))));intro _ H
   refine aD Z2 (aG Z (R_nil (N_B (N_K (W_region (aD Z2 (mV Z (R_nil ?_))))))))
   refine N_lp (hJ:=⟨k+1,(mm+z3.cnt),_,Z,hle1,H,?inv,Z⟩) (hm:=?hm)
   case hm=>omega
   case inv=>exact⟨by omega,by (rw[Nd.cnts_succ hz3];omega)⟩
  intro hc2'
  try simp only[nrm]at hc2'
  refine W_exit (N_K_exit (N_LP_exit (N_B_same (N_K (q2 (pe 2 Z (q3 (W_ret (rt1 results251 Z ?_)))))))))
  exact H.rets (congrArg (fun j:Nat=>Value.int .i64 (j:Int)) (by (rw[hm,List.take_of_length_le oM]);omega))
theorem i_count_c (w0:World)(G0:PH)(hG:PSub G0 w0)(t:Nd)(hndt:RdN G0 t)(hct:t.cnt≤100000) :
  Calls Tryz.prog 251 #[.pointer (some ⟨t.b,0,none⟩)] w0 (Rets w0 (.int .i64 (t.cnt:Nat))):=i_count_r _ w0 G0 hG t hndt hct (Nat.le_refl _)
theorem i_put_n_c (w0:World)(G0:PH)(hG:PSub G0 w0)(Ft:Fr)(t:Nd)(hNt:NdO 138 119 G0 t Ft)(cx:List Value)(x:BItem)(hx:itemE G0 x cx)(hLent:Lent w0 G0 [frag Ft])(hwt:t.wf)(hct:t.cnt≤1000) :
  Calls Tryz.prog 214 #[.pointer (some ⟨t.b,0,none⟩),.agg cx.toArray] w0 (RetM w0 G0 (fps [frag Ft]) (fun G' v Bs=>∃(nb:Nat) (F':Fr) (t':Nd),v= .bool (t.putN x nb).isSome∧Bs=[frag F']∧NdO 138 119 G' t' F'∧t'.b=t.b∧(t.putN x nb).getD t=t')):=by
 obtain⟨_,_,_,rfl,hi1,hr1,_,_⟩:=ox hx
 have H:Hp w0 G0 (fps [frag Ft]) w0 G0 [frag Ft]:=hLent.hp
 refine calls_of_W (l:=[.pointer (some ⟨t.b,0,none⟩),_]) func214 Z ntmps214 Z (q2 (o_box H Z Z Z ?_));intro _ _ hb2 H
 refine aG Z (q1 (mV Z (fA 0 Z (lB 0 H Z3 (xc Z2 (i_find_n_c _ _ (H.lendSubL [1]) _ ((H.lendN (k:=1) (ks:=[1]) Z Z hNt).at (show Nd.at_ t []=some t from Z)) _ hi1 hwt) ?_)))))
 rintro _ _ ⟨_,rfl,ew3,⟨hfi3,rfl⟩|⟨_,hfi3,rfl⟩⟩
 ·skip
  have H:=H.step ew3;refine⟨_,rfl,?_⟩
  refine aG Z (q3 (W_seq (q2 (mV Z (o_eqnil_ptr underlying119 Z Z Z (q3 (W_true Z (q2 (mV Z (xr H Z2 (i_count_c _ _ (H.lendSubL [1]) _ ((H.lendN (k:=1) (ks:=[1]) Z Z hNt).at (show Nd.at_ t []=some t from Z)) oM) ?_))))))))));intro _ H
  refine pe 2 Z ?_
  refine R_case (t:=15) Z ?_ ?_
  ·intro hc5
   try simp only[nrm]at hc5
   refine pe 1 Z (gR Z (lA 0 3 H Z4 (gR Z ?_)))
   have H:=H.tF 1
   refine xc Z2 (i_insert_c _ _ H.sub _ _ hNt _ x ⟨_,_,_,Z,hi1,hr1⟩ H.lent1 hwt hct) ?_
   rintro _ _ ⟨_,_,_,rfl,H6',⟨nb6,_,_,rfl,rfl,hN6,hb6,ht6⟩⟩
   have H:=H.borrow1 H6'
   try rw[←hb6]
   refine⟨_,Z,?_⟩
   refine pe 2 Z (q3 (W_ret (N_K_ret (rt1 results214 Z ?_))))
   have H:=H.dl 1
   have hput:=Nd.put_ins (nb:=nb6) hfi3 oM
   exact H.retM ⟨nb6,_,_,by (rw[hput];rfl),rfl,hN6,by (first|exact hb6|rfl),by (rw[hput];exact ht6)⟩
  intro hc5'
  try simp only[nrm]at hc5'
  refine pe 5 Z (q3 (W_ret (N_K_ret (rt1 results214 Z ?_))))
  have H:=H.dl 0
  have hput:=Nd.put_no1 (nb:=0) hfi3 oM
  exact H.retM ⟨0,_,_,by (rw[hput];rfl),rfl,hNt,rfl,by (rw[hput];rfl)⟩
 skip
 have H:=H.step ew3;refine⟨_,rfl,?_⟩
 refine aG Z (q3 (W_seq (q2 (mV Z (o_eqnil_ptr underlying119 Z Z Z (q3 (W_false Z (W_skip (N_K (W_seq (q2 ?_)))))))))))
 have H:=H.tF 1
 obtain⟨_,_,_,_,oFs,_,H,ohri,ohNs,_,_,hcov,hclose⟩:=Hp.openNode H hNt (Nd.find_at_ hfi3)
 obtain⟨_,_,rfl⟩:=H.accShape (k:=1) rfl;have hdo:=PLe.refl G0;have hn_ohri:=ohri.len
 refine pe 2 Z (fA 1 Z (lB 0 H Z3 (mV Z ?_)))
 refine R_case (t:=24) Z ?_ ?_
 ·intro hc7
  try simp only[nrm]at hc7
  refine pe 3 Z (q3 (W_true Z (q2 (aG Z (q3 (W_ret (N_K_ret (rt1 results214 Z ?_))))))))
  have H:=H.dl 3
  have H:=H.tF 2
  have H:=H.tF 2
  have H:=H.tF 2
  obtain⟨F2,H,hN2,hb2⟩:=hclose (Fs':=oFs) H (List.Perm.refl _) hdo ohri ohNs oM
  have hN2:=(Nd.upd_same (Nd.find_at_ hfi3))▸hN2
  have hput:=Nd.put_no2 (x:=x) (nb:=0) hfi3 (by simp_all)
  exact H.retM ⟨0,_,_,by (rw[hput];rfl),rfl,hN2,rfl,by (rw[hput];rfl)⟩
 intro hc7'
 try simp only[nrm]at hc7'
 refine gR Z (fA 1 Z (gR Z (lB 3 H Z3 (pe 1 Z (q3 ?_)))))
 refine W_cond Z ?_ ?_
 ·intro hc8
  try simp only[nrm]at hc8
  refine q2 (aG Z (q3 (W_ret (N_K_ret (rt1 results214 Z ?_)))))
  have H:=H.dl 3
  have H:=H.tF 2
  have H:=H.tF 2
  have H:=H.tF 2
  obtain⟨F2,H,hN2,hb2⟩:=hclose (Fs':=oFs) H (List.Perm.refl _) hdo ohri ohNs oM
  have hN2:=(Nd.upd_same (Nd.find_at_ hfi3))▸hN2
  have hput:=Nd.put_no2 (x:=x) (nb:=0) hfi3 (by simp_all)
  exact H.retM ⟨0,_,_,by (rw[hput];rfl),rfl,hN2,rfl,by (rw[hput];rfl)⟩
 intro hc8'
 try simp only[nrm]at hc8'
 refine W_skip (N_K (q2 (mV Z (fA 2 Z (lB 3 H Z3 (xc Z2 (l_Clone_c _ _ H.sub _ _ hr1) ?_))))))
 rintro _ _ ⟨_,_,_,g9,rfl,⟨_,rfl,hchk9⟩,hp9,hq9,hs9⟩
 have H:=H.growO g9 hp9 hq9 hs9;obtain⟨_,_,rfl⟩:=H.accShape (k:=0) rfl
 have ohNs:=ohNs.up g9.le
 have hdo:=hdo.trans g9.le
 refine⟨_,Z,?_⟩
 obtain⟨_,H,hsg10,hsr10⟩:=H.shutL (k:=0) rfl (H.apart (k:=0) (ks:=[1,2,3]) rfl rfl (by intro b hb;rcases hcov b hb with h|h|h;(· exact fpsAt_mem (k:=1) rfl rfl b (by simp[blk,h]));(· exact fpsAt_mem (k:=2) rfl rfl b h);(· exact fpsAt_mem (k:=3) rfl rfl b h))) hchk9 aN aN
 have ohNs:=ohNs.up hsg10
 have hdo:=hdo.trans hsg10
 refine pe 1 Z (fA 2 Z (xst 0 H Z8 ?_));intro _ H
 refine q1 (aG Z (q3 (W_ret (rt1 results214 Z ?_))))
 have H:=H.dl 3
 have H:=H.tF 2
 have H:=H.tF 2
 have H:=H.tF 2
 obtain⟨F2,H,hN2,hb2⟩:=hclose (ids':=x.ids) (Fs':=oFs) H (List.Perm.refl _) hdo hsr10 ohNs oM
 have hput:=Nd.put_set (nb:=0) hfi3 (by simp_all)
 exact H.retM ⟨0,_,_,by (rw[hput];rfl),rfl,hN2,hb2,by (rw[hput];rfl)⟩
theorem i_drop_n_c (w0:World)(G0:PH)(hG:PSub G0 w0)(Ft:Fr)(t:Nd)(hNt:NdO 138 119 G0 t Ft)(path:Bs)(hpath:path.length≤16777216)(hLent:Lent w0 G0 [frag Ft])(hwt:t.wf)(hct:t.cnt≤1000) :
  Calls Tryz.prog 254 #[.pointer (some ⟨t.b,0,none⟩),str path] w0 (RetM w0 G0 (fps [frag Ft]) (fun G' v Bs=>∃(F' Fk:Fr) (t':Nd),v= .bool (t.dropN path).isSome∧Bs=[frag F',frag Fk]∧NdO 138 119 G' t' F'∧t'.b=t.b∧(t.dropN path).getD t=t'∧((t.dropN path).isSome=true→∃k,t.find path=some k∧NdO 138 119 G' k Fk))):=by
 have H:Hp w0 G0 (fps [frag Ft]) w0 G0 [frag Ft]:=hLent.hp
 refine calls_of_W (l:=[.pointer (some ⟨t.b,0,none⟩),str path]) func254 Z ntmps254 Z (q2 (aG Z (q1 (pe 2 Z (xc Z2 (i_dirOf_c _ _ (H.lendSubL [0]) _ ((H.lendN (k:=0) (ks:=[0]) Z Z hNt).at (show Nd.at_ t []=some t from Z)) _ hpath hwt) ?_)))))
 rintro _ _ ⟨_,rfl,ew1,⟨hdf1,rfl⟩|⟨d1,nm1,hdf1,rfl⟩⟩
 ·skip
  have H:=H.step ew1;refine⟨_,rfl,?_⟩
  refine pe 5 Z (q3 (W_seq (q2 (mV Z (o_eqnil_ptr underlying119 Z Z Z (q3 (W_true Z (q2 (aG Z (q3 (W_ret (N_K_ret (rt1 results254 Z ?_)))))))))))))
  have hdr:=Nd.drop_no1 hdf1
  have H:=(H.addF).swap0
  exact H.retM ⟨_,[],_,by (rw[hdr];rfl),rfl,hNt,rfl,by (rw[hdr];rfl),fun h=>by rw[hdr]at h;cases h⟩
 skip
 have H:=H.step ew1;refine⟨_,rfl,?_⟩
 have hnml1:=Nd.dir_len hdf1
 refine pe 5 Z (q3 (W_seq (q2 (mV Z (o_eqnil_ptr underlying119 Z Z Z (q3 (W_false Z (W_skip (N_K (q2 (pe 2 Z (xr H Z2 (i_place_c _ _ (H.lendSubL [0]) _ ((H.lendN (k:=0) (ks:=[0]) Z Z hNt).at (Nd.dirOf_some hdf1).2.2.1) _ hnml1 (Nd.dir_wf hwt hdf1)) ?_))))))))))));intro _ H
 refine pe 5 Z (q3 (W_seq (q2 (pe 3 Z ?_))))
 refine R_case (t:=25) Z ?_ ?_
 ·intro hc3
  try simp only[nrm]at hc3
  refine pe 13 Z (q3 (W_true Z (q2 (aG Z (q3 (W_ret (N_K_ret (rt1 results254 Z ?_))))))))
  have hdr:=Nd.drop_no2 hdf1 (by simpa using hc3)
  have H:=(H.addF).swap0
  exact H.retM ⟨_,[],_,by (rw[hdr];rfl),rfl,hNt,rfl,by (rw[hdr];rfl),fun h=>by rw[hdr]at h;cases h⟩
 intro hc3'
 try simp only[nrm]at hc3'
 obtain⟨_,_,_,_,oFs,oR,H,ohri,ohNs,_,_,_,hclose⟩:=Hp.openNode H hNt (Nd.dirOf_some hdf1).2.2.1
 obtain⟨_,_,rfl⟩:=H.accShape (k:=1) rfl;have hdo:=PLe.refl G0;have hn_ohri:=ohri.len
 obtain⟨kk,hq⟩:=Option.isSome_iff_exists.1 hc3'
 have hpl:d1.kids[Sp.pl d1.kids nm1]? = some kk:=Nd.place_some (Nd.dir_wf hwt hdf1) hq
 have hplt:=(List.getElem?_eq_some_iff.1 hpl).1;have hcd:=Nd.at_cnt (Nd.dirOf_some hdf1).2.2.1;have hcl:=Nd.kids_le d1
 have H:=H.tF 2
 obtain⟨_,_,_,_,_,kFk,kF,H,khri,khN,khNs,khp⟩:=Hp.openKid H ohNs hpl
 have hn_khri:=khri.len
 refine pe 2 Z (gR Z (fA 3 Z (gR Z (lB 2 H Z3 (pe 1 Z (gR Z (o_index_A 3 H (Sp.pl d1.kids nm1) Z (chkK _) underlying136 sizeOf119 Z Z Z Z aN aN ?_)))))));intro _ _ _ hba4 hz4 hE4 hg4;cases hba4
 obtain rfl:=hE4
 refine gR Z (o_load_A 3 H isAgg119 Z Z Z (hg4 0 _ Z) ?_)
 have hzk:=Option.some.inj (hz4.symm.trans hpl);subst hzk
 refine pe 1 Z (gR Z (fA 3 Z (gR Z (lB 0 H Z3 (gR Z (lN Z (pe 2 Z (q3 ?_))))))))
 refine W_cond Z ?_ ?_
 ·intro hc5
  try simp only[nrm]at hc5
  refine q2 (aG Z (q3 (W_ret (N_K_ret (rt1 results254 Z ?_)))))
  have H:=H.tF 3
  have H:=H.tF 3
  have H:=H.tF 3
  have H:=H.tF 3
  have H:=H.inF
  have H:=H.tF 2
  have H:=H.tF 2
  obtain⟨F2,H,hN2,hb2⟩:=hclose (Fs':=oFs) H (by simpa using List.Perm.append_right oR khp.symm) hdo ohri ohNs oM
  have hN2:=(Nd.upd_same (Nd.dirOf_some hdf1).2.2.1)▸hN2
  have hdr:=Nd.drop_no3 hdf1 hq (by first|omega|(simp_all;done)|(simp_all;omega))
  have H:=(H.addF).swap0
  exact H.retM ⟨_,[],_,by (rw[hdr];rfl),rfl,hN2,rfl,by (rw[hdr];rfl),fun h=>by rw[hdr]at h;cases h⟩
 intro hc5'
 try simp only[nrm]at hc5'
 refine W_skip (N_K (q2 (pe 3 Z (fA 3 Z (lB 2 H Z3 (pe 2 Z (aD Z2 ?_)))))))
 have H:=H.tF 3
 refine xc Z2 (l_Delete_c _ _ H.sub _ _ (Sp.pl d1.kids nm1) oM oM H.lent1) ?_
 rintro _ _ ⟨_,_,_,rfl,H7',⟨_,rfl,rfl⟩⟩
 have ohri:=ohri.up H7'.le
 have khN:=khN.up H7'.le
 have khNs:=khNs.up H7'.le
 have hdo:=hdo.trans H7'.le
 have H:=H.borrow1 H7'
 obtain⟨_,_,rfl⟩:=H.accShape (k:=0) rfl
 refine⟨_,Z,?_⟩
 refine pe 1 Z (fA 3 Z (xst 3 H Z8 ?_));intro _ H
 refine q1 (aG Z (q3 (W_ret (rt1 results254 Z ?_))))
 have H:=H.tF 3
 have H:=H.tF 3
 have H:=H.tF 3
 have H:=H.inF
 have H:=Hp.splitF (F:=(_,_)::kFk) (F':=kF++oR) H
 have H:=H.tF 1
 have H:=H.tF 3
 have H:=H.tF 3
 have hkl:(d1.kids.take (Sp.pl d1.kids nm1)++d1.kids.drop (Sp.pl d1.kids nm1+1)).length=d1.kids.length-1:=by (simp;omega)
 obtain⟨F2,H,hN2,hb2⟩:=hclose (kids':=(d1.kids.take (Sp.pl d1.kids nm1)++d1.kids.drop (Sp.pl d1.kids nm1+1))) (Fs':=kF) (by (rw[hkl];exact H)) (List.Perm.refl _) hdo ohri khNs oM
 have hdr:=Nd.drop_yes hdf1 hq (by first|omega|(simp_all;done)|(simp_all;omega))
 exact H.retM ⟨_,_,_,by (rw[hdr];rfl),rfl,hN2,hb2,by (rw[hdr];rfl),fun _=>⟨_,by (rw[Nd.find_yes hdf1,Nd.at_one];exact hq),khN⟩⟩
theorem i_vwrite_c (w0:World)(G0:PH)(hG:PSub G0 w0)(mb:Nat)(es:Array MapEntry)(ck:Nat)(xs:List (Int×Value))(T:Nd)(FT:Fr)(L:List BHeld)(l:List BItem)(hm:MapIs (Value.int .i64) es ck xs)(hS:StR G0 xs L)(hN:NdO 138 119 G0 T FT)(hT:Nd.TOK T l)(hH:Sp.Hol L l)(path:Bs)(hpath:path.length≤16777216)(vbytes:Value)(bytes:List (Int))(hbytes:RdI G0 vbytes bytes)(hLent:Lent w0 G0 [blk mb (.map es ck),frag FT])(hB:Sp.FileValid bytes=true) :
  Calls Tryz.prog 164 #[.agg #[.map (some mb),.pointer (some ⟨T.b,0,none⟩)],str path,vbytes] w0 (RetM w0 G0 (fps [blk mb (.map es ck),frag FT]) (fun G' v Bs=>∃(es':Array MapEntry) (ck':Nat) (xs':List (Int×Value)) (F':Fr) (T':Nd) (L':List BHeld),v= .bool ((Sp.l11Write ⟨L,l⟩ path bytes)).isSome∧Bs=[blk mb (.map es' ck'),frag F']∧MapIs (Value.int .i64) es' ck' xs'∧StR G' xs' L'∧Sp.VH L'∧NdO 138 119 G' T' F'∧T'.b=T.b∧∀u',(Sp.l11Write ⟨L,l⟩ path bytes)=some u'→L'=u'.store∧Nd.TOK T' u'.tree∧Sp.Hol u'.store u'.tree)):=by
 obtain⟨abytes,kbytes,rfl⟩:=hbytes.shape
 have hlimbytes:bytes.length≤1099511627776:=hbytes.lim
 have H:Hp w0 G0 (fps [blk mb (.map es ck),frag FT]) w0 G0 [blk mb (.map es ck),frag FT]:=hLent.hp
 have hVd:=hH.vh;have hTc:=hT.cnt;have hTl:=hH.vt.len
 refine calls_of_W (l:=[_,str path,.slice abytes bytes.length kbytes]) func164 Z ntmps164 Z (q2 (o_box H Z Z Z ?_));intro _ _ _ H
 refine aG Z (q3 (W_seq (q2 (mV Z (xr H Z2 (i_PathValid_c _ _ H.sub _ hpath) ?_)))));intro _ H
 refine pe 1 Z (q3 ?_)
 refine W_cond Z ?_ ?_
 ·intro hc3
  try simp only[nrm]at hc3
  refine q2 (aG Z (q3 (W_ret (N_K_ret (rt1 results164 Z ?_)))))
  have H:=H.dl 0
  have H:=H.tF 1
  have H:=H.tF 1
  have hno:Sp.l11Write ⟨L,l⟩ path bytes=none:=Sp.write_nop (by simpa using hc3)
  exact H.retM ⟨_,_,_,_,_,_,congrArg Value.bool (by (rw[hno];rfl)),rfl,hm,hS,hVd,hN,rfl,fun u' h=>(by rw[hno]at h;cases h)⟩
 intro hc3'
 try simp only[nrm]at hc3'
 refine W_skip (N_K (q2 (fA 0 Z (lB 0 H Z3 (mV Z ?_)))))
 have H:=H.tF 1
 refine xc Z2 (i_storeFile_c _ _ H.sub _ _ _ _ _ hm hS hVd _ _ hbytes H.lent1 hB) ?_
 rintro _ _ ⟨_,_,_,rfl,H4',⟨_,_,_,L4,_,_,ids4,rfl,rfl,hm4,hS4,hV4,hL4,hchk4,_⟩⟩
 have hN:=hN.up H4'.le
 have H:=H.borrow1 H4'
 obtain⟨_,_,rfl⟩:=H.accShape (k:=0) rfl
 refine⟨_,Z,?_⟩
 refine pe 5 Z (q3 (W_seq (q2 (pe 2 Z (q3 ?_)))))
 refine W_cond Z ?_ ?_
 ·intro hc5
  try simp only[nrm]at hc5
  refine q2 (aG Z (q3 (W_ret (N_K_ret (rt1 results164 Z ?_)))))
  have H:=H.dl 0
  have H:=H.dl 1
  have H:=H.tF 1
  have H:=H.tF 1
  have hno:Sp.l11Write ⟨L,l⟩ path bytes=none:=Sp.l11Write_1 (v:=⟨L,l⟩) (by simpa using hc5)
  exact H.retM ⟨_,_,_,_,_,_,congrArg Value.bool (by (rw[hno];rfl)),rfl,hm4,hS4,hV4,hN,rfl,fun u' h=>(by rw[hno]at h;cases h)⟩
 intro hc5'
 try simp only[nrm]at hc5'
 refine W_skip (N_K (q2 ?_))
 obtain⟨G6,H,hsg6,hsr6⟩:=H.shutL (k:=0) rfl (H.apart (k:=0) (ks:=[1,3]) rfl rfl (by intro b hb;simp only[fps,List.flatMap_cons,List.flatMap_nil,List.append_nil,List.mem_append]at hb;rcases hb with h|h;(· exact fpsAt_mem (k:=1) rfl rfl b (by exact h));(· exact fpsAt_mem (k:=3) rfl rfl b (by exact h)))) hchk4 aN aN
 have hN:=hN.up hsg6
 have hS4:=hS4.up hsg6
 refine aG Z (q3 (W_seq (q2 (fA 1 Z (lB 1 H Z3 (mV Z (xc Z2 (i_find_n_c _ _ (H.lendSubL [2]) _ ((H.lendN (k:=2) (ks:=[2]) Z Z hN).at (show Nd.at_ T []=some T from Z)) _ hpath hT.wf) ?_)))))))
 rintro _ _ ⟨_,rfl,ew7,⟨hfi7,rfl⟩|⟨d7,hfi7,rfl⟩⟩
 ·skip
  have H:=H.step ew7;refine⟨_,rfl,?_⟩
  refine aG Z (q1 (mV Z (o_nenil_ptr underlying119 Z Z Z (q3 (W_false Z (W_skip (N_K (q2 (fA 1 Z (lB 1 H Z3 (pe 2 Z (o_build bf35 Z Z Z ?_))))))))))))
  have H:=H.tF 2
  refine xc Z2 (i_put_n_c _ _ H.sub _ _ hN _ ⟨path,false,ids4⟩ ⟨_,_,_,Z,hpath,hsr6⟩ H.lent1 hT.wf oM) ?_
  rintro _ _ ⟨_,_,_,rfl,H8',⟨nb8,_,t8,rfl,rfl,hN8,hb8,ht8⟩⟩
  have hS4:=hS4.up H8'.le
  have H:=H.borrow1 H8'
  try rw[←hb8]
  refine⟨_,Z,?_⟩
  refine mV Z ?_
  refine R_case (t:=39) Z ?_ ?_
  ·intro hc9
   try simp only[nrm]at hc9
   refine gR Z (fA 0 Z (gR Z (lB 2 H Z3 (pe 1 Z (gR Z ?_)))))
   have H:=H.tF 1
   refine xc Z2 (i_freeFile_c _ _ H.sub _ _ _ _ _ hm4 hS4 hV4 _ _ (RdS.nil _ _ _) H.lent1) ?_
   rintro _ _ ⟨_,_,_,rfl,H10',⟨_,_,_,_,rfl,rfl,hm10,hS10,hV10,hL10⟩⟩
   have hN8:=hN8.up H10'.le
   have H:=H.borrow1 H10'
   refine⟨_,Z,?_⟩
   refine pe 2 Z (q3 (W_ret (rt1 results164 Z ?_)))
   have H:=H.dl 2
   have H:=H.tF 1
   have H:=H.tF 1
   obtain⟨r,hr⟩:=Option.isSome_iff_exists.1 (show(Sp.FileStore L bytes).isSome=true by simpa using hc5')
   have hst:Sp.FileStore L bytes=some (L4,ids4):=hr.trans (congrArg some (hL4 r hr))
   have hpt:T.putN ⟨path,false,ids4⟩ nb8=some t8:=by (obtain⟨q,hq⟩:=Option.isSome_iff_exists.1 (show(T.putN ⟨path,false,ids4⟩ nb8).isSome=true by simpa using hc9);(rw[←ht8,hq];rfl))
   obtain⟨s',tt,g1,g2,g3,g4⟩:=Sp.write_fin hH hT (show Sp.PathValid path=true by simpa using hc3') hst hpt (.inl ⟨hfi7,rfl⟩)
   exact H.retM ⟨_,_,_,_,_,_,congrArg Value.bool (by (rw[g1,g2];rfl)),rfl,hm10,hS10,hV10,hN8,(by first|rfl|exact hb8),fun u' h=>(by rw[g2]at h;cases h;exact⟨hL10 _ g1,g3,g4⟩)⟩
  intro hc9'
  try simp only[nrm]at hc9'
  refine pe 6 Z (q3 (W_ret (rt1 results164 Z ?_)))
  have H:=H.dl 2
  have H:=H.tF 1
  obtain⟨r,hr⟩:=Option.isSome_iff_exists.1 (show(Sp.FileStore L bytes).isSome=true by simpa using hc5')
  have hst:Sp.FileStore L bytes=some (L4,ids4):=hr.trans (congrArg some (hL4 r hr))
  have hno:Sp.l11Write ⟨L,l⟩ path bytes=none:=Sp.write_no2 (nb:=nb8) hH hT (show Sp.PathValid path=true by simpa using hc3') hst (by simpa using hc9')
  exact H.retM ⟨_,_,_,_,_,_,congrArg Value.bool (by (rw[hno];rfl)),rfl,hm4,hS4,hV4,hN8,(by first|rfl|exact hb8),fun u' h=>(by rw[hno]at h;cases h)⟩
 skip
 have H:=H.step ew7;refine⟨_,rfl,?_⟩
 refine aG Z (q1 (mV Z (o_nenil_ptr underlying119 Z Z Z (q3 (W_true Z (W_region ?_))))))
 have H:=H.tF 2
 obtain⟨_,_,_,_,oFs,_,H,ohri,ohNs,_,_,_,hclose⟩:=Hp.openNode H hN (Nd.find_at_ hfi7)
 obtain⟨_,_,rfl⟩:=H.accShape (k:=1) rfl;have hdo:=PLe.refl G6;have hn_ohri:=ohri.len
 refine pe 2 Z (fA 2 Z (lB 0 H Z3 (aG Z (q1 ?_))))
 have H:=H.tF 4
 have H:=H.tF 4
 have H:=H.tF 4
 have H:=H.tF 4
 have H:=H.tF 4
 obtain⟨_,H,hN2,_⟩:=hclose (Fs':=oFs) H (List.Perm.refl _) hdo ohri ohNs oM
 have hN2:=(Nd.upd_same (Nd.find_at_ hfi7))▸hN2
 refine fA 1 Z (lB 2 H Z3 (pe 2 Z (o_build bf35 Z Z Z (xc Z2 (i_put_n_c _ _ H.sub _ _ hN2 _ ⟨path,false,ids4⟩ ⟨_,_,_,Z,hpath,hsr6⟩ H.lent1 hT.wf oM) ?_))))
 rintro _ _ ⟨_,_,_,rfl,H11',⟨nb11,_,t11,rfl,rfl,hN11,hb11,ht11⟩⟩
 have hS4:=hS4.up H11'.le
 have ohri:=ohri.up H11'.le
 have H:=H.borrow1 H11'
 try rw[←hb11]
 refine⟨_,Z,?_⟩
 refine mV Z ?_
 refine R_case (t:=39) Z ?_ ?_
 ·intro hc12
  try simp only[nrm]at hc12
  refine gR Z (fA 0 Z (gR Z (lB 2 H Z3 (pe 1 Z (gR Z ?_)))))
  have H:=H.tF 1
  refine xc Z2 (i_freeFile_c _ _ H.sub _ _ _ _ _ hm4 hS4 hV4 _ _ ohri H.lent1) ?_
  rintro _ _ ⟨_,_,_,rfl,H13',⟨_,_,_,_,rfl,rfl,hm13,hS13,hV13,hL13⟩⟩
  have hN11:=hN11.up H13'.le
  have H:=H.borrow1 H13'
  refine⟨_,Z,?_⟩
  refine pe 2 Z (q3 (W_ret (rt1 results164 Z ?_)))
  have H:=H.dl 2
  have H:=H.tF 1
  have H:=H.tF 1
  obtain⟨r,hr⟩:=Option.isSome_iff_exists.1 (show(Sp.FileStore L bytes).isSome=true by simpa using hc5')
  have hst:Sp.FileStore L bytes=some (L4,ids4):=hr.trans (congrArg some (hL4 r hr))
  have hpt:T.putN ⟨path,false,ids4⟩ nb11=some t11:=by (obtain⟨q,hq⟩:=Option.isSome_iff_exists.1 (show(T.putN ⟨path,false,ids4⟩ nb11).isSome=true by simpa using hc12);(rw[←ht11,hq];rfl))
  obtain⟨s',tt,g1,g2,g3,g4⟩:=Sp.write_fin hH hT (show Sp.PathValid path=true by simpa using hc3') hst hpt (.inr ⟨d7,hfi7,rfl⟩)
  exact H.retM ⟨_,_,_,_,_,_,congrArg Value.bool (by (rw[g1,g2];rfl)),rfl,hm13,hS13,hV13,hN11,(by first|rfl|exact hb11),fun u' h=>(by rw[g2]at h;cases h;exact⟨hL13 _ g1,g3,g4⟩)⟩
 intro hc12'
 try simp only[nrm]at hc12'
 refine pe 6 Z (q3 (W_ret (rt1 results164 Z ?_)))
 have H:=H.dl 2
 have H:=H.tF 1
 obtain⟨r,hr⟩:=Option.isSome_iff_exists.1 (show(Sp.FileStore L bytes).isSome=true by simpa using hc5')
 have hst:Sp.FileStore L bytes=some (L4,ids4):=hr.trans (congrArg some (hL4 r hr))
 have hno:Sp.l11Write ⟨L,l⟩ path bytes=none:=Sp.write_no2 (nb:=nb11) hH hT (show Sp.PathValid path=true by simpa using hc3') hst (by simpa using hc12')
 exact H.retM ⟨_,_,_,_,_,_,congrArg Value.bool (by (rw[hno];rfl)),rfl,hm4,hS4,hV4,hN11,(by first|rfl|exact hb11),fun u' h=>(by rw[hno]at h;cases h)⟩
theorem i_dwrite_c (w0:World)(G0:PH)(hG:PSub G0 w0)(db mb:Nat)(es:Array MapEntry)(ck:Nat)(xs:List (Int×Value))(T:Nd)(FT:Fr)(sv:Value)(sn:List (Bs×Nd))(c:List Value)(FSq:Fr)(d:BDisk)(hm:MapIs (Value.int .i64) es ck xs)(hS:StR G0 xs d.store)(hN:NdO 138 119 G0 T FT)(hT:Nd.TOK T d.tree)(hchk:Chk osE 2 G0 c sn)(hNs:NdsO 138 119 G0 (sn.map (·.2)) FSq)(hSn:SnOK sn d.snaps)(hdv:Sp.DiskValid d=true)(path:Bs)(hpath:path.length≤16777216)(vbytes:Value)(bytes:List (Int))(hbytes:RdI G0 vbytes bytes)(hLent:Lent w0 G0 [blk db (cl [.int .i32 0,.int .u32 0,.map (some mb),.pointer (some ⟨T.b,0,none⟩),sv] 133),blk mb (.map es ck),frag FT,acc 199 2 sv sn.length c,frag FSq]) :
  Calls Tryz.prog 86 #[.pointer (some ⟨db,0,none⟩),str path,vbytes] w0 (RetM w0 G0 (fps [blk db (cl [.int .i32 0,.int .u32 0,.map (some mb),.pointer (some ⟨T.b,0,none⟩),sv] 133),blk mb (.map es ck),frag FT,acc 199 2 sv sn.length c,frag FSq]) (fun G' v Bs=>∃(es':Array MapEntry) (ck':Nat) (xs':List (Int×Value)) (F':Fr) (T':Nd) (sv':Value) (sn':List (Fw.Bs×Nd)) (c':List Value) (FSq':Fr) (L':List BHeld),v= .bool (Sp.DiskWrite d path bytes).isSome∧Bs=[blk db (cl [.int .i32 0,.int .u32 0,.map (some mb),.pointer (some ⟨T'.b,0,none⟩),sv'] 133),blk mb (.map es' ck'),frag F',acc 199 2 sv' sn'.length c',frag FSq']∧MapIs (Value.int .i64) es' ck' xs'∧StR G' xs' L'∧Sp.VH L'∧NdO 138 119 G' T' F'∧Chk osE 2 G' c' sn'∧NdsO 138 119 G' (sn'.map (·.2)) FSq'∧∀d',Sp.DiskWrite d path bytes=some d'→L'=d'.store∧Nd.TOK T' d'.tree∧SnOK sn' d'.snaps)):=by
 obtain⟨abytes,kbytes,rfl⟩:=hbytes.shape
 have hlimbytes:bytes.length≤1099511627776:=hbytes.lim
 have H:Hp w0 G0 (fps [blk db (cl [.int .i32 0,.int .u32 0,.map (some mb),.pointer (some ⟨T.b,0,none⟩),sv] 133),blk mb (.map es ck),frag FT,acc 199 2 sv sn.length c,frag FSq]) w0 G0 [blk db (cl [.int .i32 0,.int .u32 0,.map (some mb),.pointer (some ⟨T.b,0,none⟩),sv] 133),blk mb (.map es ck),frag FT,acc 199 2 sv sn.length c,frag FSq]:=hLent.hp
 obtain⟨_,_,rfl⟩:=H.accShape (k:=3) rfl;have hVd:=Sp.valid_iff.1 (Sp.dv_parts.1 hdv).1;have hTv:=(Sp.dv_parts.1 hdv).2.1;have hTc:=hT.cnt;have hTl:=Sp.tree_len hTv;have hsnl:=hSn.len;have hsn6:=(Sp.dv_parts.1 hdv).2.2.1
 have hHd:=Sp.DHol.hol (ts:=d.snaps.map (·.tree)) (Sp.dd_iff.1 hdv).2
 refine calls_of_WD (l:=[.pointer (some ⟨db,0,none⟩),str path,.slice abytes bytes.length kbytes]) func86 Z ntmps86 Z (q2 (aG Z (q1 (pe 2 Z (fA 0 Z (o_lock 0 H muLib Z call140 Z Z Z Z ?_))))));intro _ H
 refine q1 (pe 2 Z (fA 0 Z (o_defer Z (q1 (mV Z (xr H Z2 (i_FileValid_c _ _ H.sub _ _ hbytes) ?_))))));intro _ H
 refine mV Z ?_
 refine R_case (t:=16) Z ?_ ?_
 ·intro hc3
  try simp only[nrm]at hc3
  refine pe 2 Z (gR Z (fA 2 Z (gR Z (lA 0 2 H Z4 (pe 2 Z (gR Z ?_))))))
  have H:=H.tF 2
  have H:=H.tF 2
  refine xc Z2 (i_vwrite_c _ _ H.sub _ _ _ _ _ _ _ _ hm hS hN hT hHd _ hpath _ _ hbytes H.lent2 (by assumption)) ?_
  rintro _ _ ⟨_,_,_,rfl,H4',⟨_,_,_,_,T4,L4,rfl,rfl,hm4,hS4,hV4,hN4,hb4,hu4⟩⟩
  have hchk:=hchk.up H4'.le
  have hNs:=hNs.up H4'.le
  have H:=H.borrow2 H4'
  try rw[←hb4]
  try rw[←hb4]at H
  refine⟨_,Z,?_⟩
  refine pe 2 Z (q3 (W_ret (ret_unlock 2 H muLib Z call141 Z Z (rs:=[.tmp 6]) results86 ?_)));intro _ H
  refine⟨[_],⟨Z,trivial⟩,?_⟩
  have H:=H.tF 4
  have H:=H.tF 4
  have H:=H.tF 3
  have H:=H.tF 3
  have H:=H.tF 4
  exact H.retM ⟨_,_,_,_,T4,_,sn,_,_,L4,congrArg Value.bool (by simp[Sp.DiskWrite,hdv,hc3]),rfl,hm4,hS4,hV4,hN4,hchk,hNs,fun d2 h=>(by obtain⟨_,_,v2,h1,rfl⟩:=Sp.dwrite_get h;obtain⟨g1,g2,_⟩:=hu4 v2 h1;exact⟨g1,g2,hSn⟩)⟩
 intro hc3'
 try simp only[nrm]at hc3'
 refine pe 9 Z (q3 (W_ret (ret_unlock 0 H muLib Z call141 Z Z (rs:=[.tmp 6]) results86 ?_)));intro _ H
 refine⟨[_],⟨Z,trivial⟩,?_⟩
 have H:=H.tF 4
 have H:=H.tF 4
 have H:=H.tF 4
 have H:=H.tF 4
 have H:=H.tF 4
 have hno:Sp.DiskWrite d path bytes=none:=by simp[Sp.DiskWrite,hc3']
 exact H.retM ⟨_,_,_,_,T,_,sn,_,_,d.store,congrArg Value.bool (by (rw[hno];rfl)),rfl,hm,hS,hVd,hN,hchk,hNs,fun d2 h=>(by rw[hno]at h;cases h)⟩
theorem i_vdir_c (w0:World)(G0:PH)(hG:PSub G0 w0)(mb:Nat)(es:Array MapEntry)(ck:Nat)(xs:List (Int×Value))(T:Nd)(FT:Fr)(L:List BHeld)(l:List BItem)(hm:MapIs (Value.int .i64) es ck xs)(hS:StR G0 xs L)(hN:NdO 138 119 G0 T FT)(hT:Nd.TOK T l)(hH:Sp.Hol L l)(path:Bs)(hpath:path.length≤16777216)(hLent:Lent w0 G0 [blk mb (.map es ck),frag FT]) :
    Calls Tryz.prog 218 #[.agg #[.map (some mb),.pointer (some ⟨T.b,0,none⟩)],str path] w0 (RetM w0 G0 (fps [blk mb (.map es ck),frag FT]) (fun G' v Bs=>∃(es':Array MapEntry) (ck':Nat) (xs':List (Int×Value)) (F':Fr) (T':Nd) (L':List BHeld),v= .bool ((Sp.l11Dir L l path)).isSome∧Bs=[blk mb (.map es' ck'),frag F']∧MapIs (Value.int .i64) es' ck' xs'∧StR G' xs' L'∧Sp.VH L'∧NdO 138 119 G' T' F'∧T'.b=T.b∧∀u',(Sp.l11Dir L l path)=some u'→L'=u'.store∧Nd.TOK T' u'.tree∧Sp.Hol u'.store u'.tree)):=by
  have H:Hp w0 G0 (fps [blk mb (.map es ck),frag FT]) w0 G0 [blk mb (.map es ck),frag FT]:=hLent.hp
  have hVd:=hH.vh;have hTc:=hT.cnt;have hTl:=hH.vt.len
  refine calls_of_W (l:=[_,str path]) func218 Z ntmps218 Z (q2 (o_box H Z Z Z ?_));intro _ _ _ H
  refine aG Z (q1 (mV Z (xr H Z2 (i_PathValid_c _ _ H.sub _ hpath) ?_)));intro _ H
  refine mV Z ?_
  refine R_case (t:=7) Z ?_ ?_
  · intro hc3
    try simp only[nrm]at hc3
    refine gR Z (fA 1 Z (gR Z (lB 0 H Z3 (pe 1 Z (gR Z (o_build bf35 Z Z Z (gR Z ?_)))))))
    have H:=H.tF 2
    refine xc Z2 (i_put_n_c _ _ H.sub _ _ hN _ ⟨path,true,[]⟩ ⟨_,_,_,Z,hpath,(RdS.nil _ _ _)⟩ H.lent1 hT.wf oM) ?_
    rintro _ _ ⟨_,_,_,rfl,H4',⟨nb4,_,t4,rfl,rfl,hN4,hb4,ht4⟩⟩
    have hS:=hS.up H4'.le
    have H:=H.borrow1 H4'
    try rw[←hb4]
    refine⟨_,Z,?_⟩
    refine pe 2 Z (q3 (W_ret (rt1 results218 Z ?_)))
    have H:=H.dl 1
    have H:=H.tF 1
    have hpv:Sp.PathValid path=true:=by simpa using hc3
    cases hpt:T.putN ⟨path,true,[]⟩ nb4 with
    | none => have hno : Sp.l11Dir L l path = none := by (unfold Sp.l11Dir; (rw [Sp.dir_no2 (nb := nb4) hT hpv (by (rw [hpt]; rfl))]; rfl))
              exact H.retM ⟨_,_,_,_,_,_,congrArg Value.bool (by (rw[hno];rfl)),rfl,hm,hS,hVd,hN4,(by first|rfl|exact hb4),fun u' h=>(by rw[hno]at h;cases h)⟩
    | some T2 => obtain ⟨tt, g1, g3, g4⟩ := Sp.dir_fin hH hT hpv hpt
                 have g2:Sp.l11Dir L l path=some ⟨L,tt⟩:=by (unfold Sp.l11Dir;(rw[g1];rfl))
                 have hT2:t4=T2:=by (rw[←ht4,hpt];rfl)
                 exact H.retM ⟨_,_,_,_,_,_,congrArg Value.bool (by (rw[g2];rfl)),rfl,hm,hS,hVd,hN4,(by first|rfl|exact hb4),fun u' h=>(by rw[g2]at h;cases h;exact⟨rfl,hT2▸g3,g4⟩)⟩
  intro hc3'
  try simp only[nrm]at hc3'
  refine pe 7 Z (q3 (W_ret (rt1 results218 Z ?_)))
  have H:=H.dl 0
  have H:=H.tF 1
  have H:=H.tF 1
  have hno:Sp.l11Dir L l path=none:=by (unfold Sp.l11Dir;(rw[Sp.dir_nop (by simpa using hc3')];rfl))
  exact H.retM ⟨_,_,_,_,_,_,congrArg Value.bool (by (rw[hno];rfl)),rfl,hm,hS,hVd,hN,rfl,fun u' h=>(by rw[hno]at h;cases h)⟩
theorem i_vremove_c (w0:World)(G0:PH)(hG:PSub G0 w0)(mb:Nat)(es:Array MapEntry)(ck:Nat)(xs:List (Int×Value))(T:Nd)(FT:Fr)(L:List BHeld)(l:List BItem)(hm:MapIs (Value.int .i64) es ck xs)(hS:StR G0 xs L)(hN:NdO 138 119 G0 T FT)(hT:Nd.TOK T l)(hH:Sp.Hol L l)(path:Bs)(hpath:path.length≤16777216)(hLent:Lent w0 G0 [blk mb (.map es ck),frag FT]) :
  Calls Tryz.prog 219 #[.agg #[.map (some mb),.pointer (some ⟨T.b,0,none⟩)],str path] w0 (RetM w0 G0 (fps [blk mb (.map es ck),frag FT]) (fun G' v Bs=>∃(es':Array MapEntry) (ck':Nat) (xs':List (Int×Value)) (F':Fr) (T':Nd) (L':List BHeld),v= .bool ((Sp.l11Drop L l path)).isSome∧Bs=[blk mb (.map es' ck'),frag F']∧MapIs (Value.int .i64) es' ck' xs'∧StR G' xs' L'∧Sp.VH L'∧NdO 138 119 G' T' F'∧T'.b=T.b∧∀u',(Sp.l11Drop L l path)=some u'→L'=u'.store∧Nd.TOK T' u'.tree∧Sp.Hol u'.store u'.tree)):=by
 have H:Hp w0 G0 (fps [blk mb (.map es ck),frag FT]) w0 G0 [blk mb (.map es ck),frag FT]:=hLent.hp
 have hVd:=hH.vh;have hTc:=hT.cnt;have hTl:=hH.vt.len
 refine calls_of_W (l:=[_,str path]) func219 Z ntmps219 Z (q2 (o_box H Z Z Z ?_));intro _ _ _ H
 refine aG Z (q1 (fA 1 Z (lB 0 H Z3 (mV Z (xc Z2 (i_find_n_c _ _ (H.lendSubL [2]) _ ((H.lendN (k:=2) (ks:=[2]) Z Z hN).at (show Nd.at_ T []=some T from Z)) _ hpath hT.wf) ?_)))))
 rintro _ _ ⟨_,rfl,ew2,⟨hfi2,rfl⟩|⟨d2,hfi2,rfl⟩⟩
 ·skip
  have H:=H.step ew2;refine⟨_,rfl,?_⟩
  refine aG Z (q3 (W_seq (W_drawK [0] 18 H kR Z ?_)));intro _ H;have hd3:=PLe.refl G0
  refine dE 0 Z2 (RD_t 1 Z kR Z (fun _ hK=>v_nenil_ptr underlying119 Z Z) (dE 2 Z2 (dE 3 Z2 (dE 4 Z2 (dE 5 Z2 (dE 6 Z2 (dE 7 Z2 (dE 8 Z2 (dE 9 Z2 (dE 10 Z2 (dE 11 Z2 (dE 12 Z2 (dE 13 Z2 (dE 14 Z2 (dE 15 Z2 ?_)))))))))))))))
  refine dE 16 Z2 (dE 17 Z2 (rz (N_K (W_ret (rt1 results219 Z ?_)))))
  have H:=H.dl 0
  have H:=H.tF 1
  have H:=H.tF 1
  have hno:Sp.l11Drop L l path=none:=Sp.drop_no1 hT (by assumption)
  exact H.retM ⟨_,_,_,_,_,_,congrArg Value.bool (by (rw[hno];rfl)),rfl,hm,hS,hVd,hN,rfl,fun u' h=>(by rw[hno]at h;cases h)⟩
 skip
 have H:=H.step ew2;refine⟨_,rfl,?_⟩
 refine aG Z (q3 (W_seq (W_drawK [0] 18 H kR Z ?_)));intro _ H;have hd4:=PLe.refl G0
 refine dE 0 Z2 (RD_t 1 Z kR Z (fun _ hK=>v_nenil_ptr underlying119 Z Z) (dE 2 Z2 (dF 3 1 Z2 (dB 4 0 Z4 (dE 5 Z2 (r1 6 Z (gR Z ?_)))))))
 have H:=H.tF 2
 refine xc Z2 (i_drop_n_c _ _ H.sub _ _ hN _ hpath H.lent1 hT.wf oM) ?_
 rintro _ _ ⟨G5,_,_,rfl,H5',⟨_,_,t5,rfl,rfl,hN5,hb5,ht5,hk5⟩⟩
 have hS:=hS.up H5'.le
 have hd4:=hd4.trans H5'.le
 have H:=H.borrow1 H5'
 try rw[←hb5]
 try rw[←hb5]at H
 refine⟨_,Z,?_⟩
 refine q4 H hd4 (dE 7 Z2 (dE 8 Z2 ?_))
 refine RD_case (t:=18) Z ?_ ?_
 ·intro hc6
  try simp only[nrm]at hc6
  obtain⟨k2,hk2,hNk⟩:=hk5 (by simpa using hc6)
  obtain rfl:k2=d2:=Option.some.inj (hk2.symm.trans hfi2)
  have H:=H.tF 1
  obtain⟨_,_,_,_,_,_,H,ohri,ohNs,_,_,_,_⟩:=Hp.openNode H hNk (show Nd.at_ k2 []=some k2 from rfl)
  obtain⟨_,_,rfl⟩:=H.accShape (k:=1) rfl;have hdo:=PLe.refl G5;have hn_ohri:=ohri.len
  refine dF 9 0 Z2 (dB 10 0 Z4 (dE 11 Z2 (dE 12 Z2 (dF 13 2 Z2 (r1 14 Z (gR Z (lB 0 H Z3 (q4 H hd4 (r1 15 Z (gR Z ?_))))))))))
  have H:=H.tF 5
  refine xc Z2 (i_freeFile_c _ _ H.sub _ _ _ _ _ hm hS hVd _ _ ohri H.lent1) ?_
  rintro _ _ ⟨_,_,_,rfl,H7',⟨_,_,_,_,rfl,rfl,hm7,hS7,hV7,hL7⟩⟩
  have hN5:=hN5.up H7'.le
  have hd4:=hd4.trans H7'.le
  have H:=H.borrow1 H7'
  refine⟨_,Z,?_⟩
  refine q4 H hd4 (dE 16 Z2 (dE 17 Z2 (rz (N_K (W_ret (rt1 results219 Z ?_))))))
  have H:=H.dl 1
  have H:=H.dl 1
  have H:=H.dl 1
  have H:=H.dl 2
  have H:=H.tF 1
  have H:=H.tF 1
  have hpt:T.dropN path=some t5:=by (obtain⟨_,hq⟩:=Option.isSome_iff_exists.1 (show(T.dropN path).isSome=true by simpa using hc6);(rw[←ht5,hq];rfl))
  obtain⟨_,_,g1,g2,g3,g4⟩:=Sp.drop_fin hH hT hk2 hpt
  exact H.retM ⟨_,_,_,_,_,_,congrArg Value.bool (by (rw[g1,g2];rfl)),rfl,hm7,hS7,hV7,hN5,(by first|rfl|exact hb5),fun u' h=>(by rw[g2]at h;cases h;exact⟨hL7 _ g1,g3,g4⟩)⟩
 intro hc6'
 try simp only[nrm]at hc6'
 refine dE 9 Z2 (dE 10 Z2 (dE 11 Z2 (dE 12 Z2 (dE 13 Z2 (dE 14 Z2 (dE 15 Z2 (dE 16 Z2 (dE 17 Z2 (rz (N_K (W_ret (rt1 results219 Z ?_))))))))))))
 have H:=H.dl 1
 have H:=H.dl 1
 have H:=H.tF 1
 have hno:Sp.l11Drop L l path=none:=Sp.drop_no2 hT (by simpa using hc6')
 exact H.retM ⟨_,_,_,_,_,_,congrArg Value.bool (by (rw[hno];rfl)),rfl,hm,hS,hVd,hN5,(by first|rfl|exact hb5),fun u' h=>(by rw[hno]at h;cases h)⟩
theorem i_dmakeDir_c (w0:World)(G0:PH)(hG:PSub G0 w0)(db mb:Nat)(es:Array MapEntry)(ck:Nat)(xs:List (Int×Value))(T:Nd)(FT:Fr)(sv:Value)(sn:List (Bs×Nd))(c:List Value)(FSq:Fr)(d:BDisk)(hm:MapIs (Value.int .i64) es ck xs)(hS:StR G0 xs d.store)(hN:NdO 138 119 G0 T FT)(hT:Nd.TOK T d.tree)(hchk:Chk osE 2 G0 c sn)(hNs:NdsO 138 119 G0 (sn.map (·.2)) FSq)(hSn:SnOK sn d.snaps)(hdv:Sp.DiskValid d=true)(path:Bs)(hpath:path.length≤16777216)(hLent:Lent w0 G0 [blk db (cl [.int .i32 0,.int .u32 0,.map (some mb),.pointer (some ⟨T.b,0,none⟩),sv] 133),blk mb (.map es ck),frag FT,acc 199 2 sv sn.length c,frag FSq]) :
  Calls Tryz.prog 173 #[.pointer (some ⟨db,0,none⟩),str path] w0 (RetM w0 G0 (fps [blk db (cl [.int .i32 0,.int .u32 0,.map (some mb),.pointer (some ⟨T.b,0,none⟩),sv] 133),blk mb (.map es ck),frag FT,acc 199 2 sv sn.length c,frag FSq]) (fun G' v Bs=>∃(es':Array MapEntry) (ck':Nat) (xs':List (Int×Value)) (F':Fr) (T':Nd) (sv':Value) (sn':List (Fw.Bs×Nd)) (c':List Value) (FSq':Fr) (L':List BHeld),v= .bool (Sp.DiskDir d path).isSome∧Bs=[blk db (cl [.int .i32 0,.int .u32 0,.map (some mb),.pointer (some ⟨T'.b,0,none⟩),sv'] 133),blk mb (.map es' ck'),frag F',acc 199 2 sv' sn'.length c',frag FSq']∧MapIs (Value.int .i64) es' ck' xs'∧StR G' xs' L'∧Sp.VH L'∧NdO 138 119 G' T' F'∧Chk osE 2 G' c' sn'∧NdsO 138 119 G' (sn'.map (·.2)) FSq'∧∀d',Sp.DiskDir d path=some d'→L'=d'.store∧Nd.TOK T' d'.tree∧SnOK sn' d'.snaps)):=by
 have H:Hp w0 G0 (fps [blk db (cl [.int .i32 0,.int .u32 0,.map (some mb),.pointer (some ⟨T.b,0,none⟩),sv] 133),blk mb (.map es ck),frag FT,acc 199 2 sv sn.length c,frag FSq]) w0 G0 [blk db (cl [.int .i32 0,.int .u32 0,.map (some mb),.pointer (some ⟨T.b,0,none⟩),sv] 133),blk mb (.map es ck),frag FT,acc 199 2 sv sn.length c,frag FSq]:=hLent.hp
 obtain⟨_,_,rfl⟩:=H.accShape (k:=3) rfl;have hVd:=Sp.valid_iff.1 (Sp.dv_parts.1 hdv).1;have hTv:=(Sp.dv_parts.1 hdv).2.1;have hTc:=hT.cnt;have hTl:=Sp.tree_len hTv;have hsnl:=hSn.len;have hsn6:=(Sp.dv_parts.1 hdv).2.2.1
 have hHd:=Sp.DHol.hol (ts:=d.snaps.map (·.tree)) (Sp.dd_iff.1 hdv).2
 refine calls_of_WD (l:=[.pointer (some ⟨db,0,none⟩),str path]) func173 Z ntmps173 Z (q2 (aG Z (q1 (pe 2 Z (fA 0 Z (o_lock 0 H muLib Z call140 Z Z Z Z ?_))))));intro _ H
 refine q1 (pe 2 Z (fA 0 Z (o_defer Z (q1 (pe 2 Z (fA 2 Z (lA 0 2 H Z4 (mV Z ?_))))))))
 have H:=H.tF 2
 have H:=H.tF 2
 refine xc Z2 (i_vdir_c _ _ H.sub _ _ _ _ _ _ _ _ hm hS hN hT hHd _ hpath H.lent2) ?_
 rintro _ _ ⟨_,_,_,rfl,H2',⟨_,_,_,_,T2,L2,rfl,rfl,hm2,hS2,hV2,hN2,hb2,hu2⟩⟩
 have hchk:=hchk.up H2'.le
 have hNs:=hNs.up H2'.le
 have H:=H.borrow2 H2'
 try rw[←hb2]
 try rw[←hb2]at H
 refine⟨_,Z,?_⟩
 refine aG Z (q3 (W_ret (ret_unlock 2 H muLib Z call141 Z Z (rs:=[.tmp 4]) results173 ?_)));intro _ H
 refine⟨[_],⟨Z,trivial⟩,?_⟩
 have H:=H.tF 4
 have H:=H.tF 4
 have H:=H.tF 3
 have H:=H.tF 3
 have H:=H.tF 4
 exact H.retM ⟨_,_,_,_,T2,_,sn,_,_,L2,congrArg Value.bool (by simp[Sp.DiskDir,hdv]),rfl,hm2,hS2,hV2,hN2,hchk,hNs,fun d2 h=>(by obtain⟨v2,h1,rfl⟩:=Sp.ddir_vol h;obtain⟨g1,g2,_⟩:=hu2 v2 h1;exact⟨g1,g2,hSn⟩)⟩
theorem i_dremove_c (w0:World)(G0:PH)(hG:PSub G0 w0)(db mb:Nat)(es:Array MapEntry)(ck:Nat)(xs:List (Int×Value))(T:Nd)(FT:Fr)(sv:Value)(sn:List (Bs×Nd))(c:List Value)(FSq:Fr)(d:BDisk)(hm:MapIs (Value.int .i64) es ck xs)(hS:StR G0 xs d.store)(hN:NdO 138 119 G0 T FT)(hT:Nd.TOK T d.tree)(hchk:Chk osE 2 G0 c sn)(hNs:NdsO 138 119 G0 (sn.map (·.2)) FSq)(hSn:SnOK sn d.snaps)(hdv:Sp.DiskValid d=true)(path:Bs)(hpath:path.length≤16777216)(hLent:Lent w0 G0 [blk db (cl [.int .i32 0,.int .u32 0,.map (some mb),.pointer (some ⟨T.b,0,none⟩),sv] 133),blk mb (.map es ck),frag FT,acc 199 2 sv sn.length c,frag FSq]) :
  Calls Tryz.prog 174 #[.pointer (some ⟨db,0,none⟩),str path] w0 (RetM w0 G0 (fps [blk db (cl [.int .i32 0,.int .u32 0,.map (some mb),.pointer (some ⟨T.b,0,none⟩),sv] 133),blk mb (.map es ck),frag FT,acc 199 2 sv sn.length c,frag FSq]) (fun G' v Bs=>∃(es':Array MapEntry) (ck':Nat) (xs':List (Int×Value)) (F':Fr) (T':Nd) (sv':Value) (sn':List (Fw.Bs×Nd)) (c':List Value) (FSq':Fr) (L':List BHeld),v= .bool (Sp.DiskDrop d path).isSome∧Bs=[blk db (cl [.int .i32 0,.int .u32 0,.map (some mb),.pointer (some ⟨T'.b,0,none⟩),sv'] 133),blk mb (.map es' ck'),frag F',acc 199 2 sv' sn'.length c',frag FSq']∧MapIs (Value.int .i64) es' ck' xs'∧StR G' xs' L'∧Sp.VH L'∧NdO 138 119 G' T' F'∧Chk osE 2 G' c' sn'∧NdsO 138 119 G' (sn'.map (·.2)) FSq'∧∀d',Sp.DiskDrop d path=some d'→L'=d'.store∧Nd.TOK T' d'.tree∧SnOK sn' d'.snaps)):=by
 have H:Hp w0 G0 (fps [blk db (cl [.int .i32 0,.int .u32 0,.map (some mb),.pointer (some ⟨T.b,0,none⟩),sv] 133),blk mb (.map es ck),frag FT,acc 199 2 sv sn.length c,frag FSq]) w0 G0 [blk db (cl [.int .i32 0,.int .u32 0,.map (some mb),.pointer (some ⟨T.b,0,none⟩),sv] 133),blk mb (.map es ck),frag FT,acc 199 2 sv sn.length c,frag FSq]:=hLent.hp
 obtain⟨_,_,rfl⟩:=H.accShape (k:=3) rfl;have hVd:=Sp.valid_iff.1 (Sp.dv_parts.1 hdv).1;have hTv:=(Sp.dv_parts.1 hdv).2.1;have hTc:=hT.cnt;have hTl:=Sp.tree_len hTv;have hsnl:=hSn.len;have hsn6:=(Sp.dv_parts.1 hdv).2.2.1
 have hHd:=Sp.DHol.hol (ts:=d.snaps.map (·.tree)) (Sp.dd_iff.1 hdv).2
 refine calls_of_WD (l:=[.pointer (some ⟨db,0,none⟩),str path]) func174 Z ntmps174 Z (q2 (aG Z (q1 (pe 2 Z (fA 0 Z (o_lock 0 H muLib Z call140 Z Z Z Z ?_))))));intro _ H
 refine q1 (pe 2 Z (fA 0 Z (o_defer Z (q1 (pe 2 Z (fA 2 Z (lA 0 2 H Z4 (mV Z ?_))))))))
 have H:=H.tF 2
 have H:=H.tF 2
 refine xc Z2 (i_vremove_c _ _ H.sub _ _ _ _ _ _ _ _ hm hS hN hT hHd _ hpath H.lent2) ?_
 rintro _ _ ⟨_,_,_,rfl,H2',⟨_,_,_,_,T2,L2,rfl,rfl,hm2,hS2,hV2,hN2,hb2,hu2⟩⟩
 have hchk:=hchk.up H2'.le
 have hNs:=hNs.up H2'.le
 have H:=H.borrow2 H2'
 try rw[←hb2]
 try rw[←hb2]at H
 refine⟨_,Z,?_⟩
 refine aG Z (q3 (W_ret (ret_unlock 2 H muLib Z call141 Z Z (rs:=[.tmp 4]) results174 ?_)));intro _ H
 refine⟨[_],⟨Z,trivial⟩,?_⟩
 have H:=H.tF 4
 have H:=H.tF 4
 have H:=H.tF 3
 have H:=H.tF 3
 have H:=H.tF 4
 exact H.retM ⟨_,_,_,_,T2,_,sn,_,_,L2,congrArg Value.bool (by simp[Sp.DiskDrop,hdv]),rfl,hm2,hS2,hV2,hN2,hchk,hNs,fun d2 h=>(by obtain⟨v2,h1,rfl⟩:=Sp.ddrop_vol h;obtain⟨g1,g2,_⟩:=hu2 v2 h1;exact⟨g1,g2,hSn⟩)⟩
theorem i_drun_c (w0:World)(G0:PH)(hG:PSub G0 w0)(db mb:Nat)(es:Array MapEntry)(ck:Nat)(xs:List (Int×Value))(T:Nd)(FT:Fr)(sv:Value)(sn:List (Bs×Nd))(c:List Value)(FSq:Fr)(d:BDisk)(hm:MapIs (Value.int .i64) es ck xs)(hS:StR G0 xs d.store)(hN:NdO 138 119 G0 T FT)(hT:Nd.TOK T d.tree)(hchk:Chk osE 2 G0 c sn)(hNs:NdsO 138 119 G0 (sn.map (·.2)) FSq)(hSn:SnOK sn d.snaps)(hdv:Sp.DiskValid d=true)(cop:List Value)(op:BOp)(hop:opE G0 op cop)(hLent:Lent w0 G0 [blk db (cl [.int .i32 0,.int .u32 0,.map (some mb),.pointer (some ⟨T.b,0,none⟩),sv] 133),blk mb (.map es ck),frag FT,acc 199 2 sv sn.length c,frag FSq])(hok:Sp.opOk op=true) :
  Calls Tryz.prog 98 #[.pointer (some ⟨db,0,none⟩),.agg cop.toArray] w0 (RetM w0 G0 (fps [blk db (cl [.int .i32 0,.int .u32 0,.map (some mb),.pointer (some ⟨T.b,0,none⟩),sv] 133),blk mb (.map es ck),frag FT,acc 199 2 sv sn.length c,frag FSq]) (fun G' v Bs=>∃(es':Array MapEntry) (ck':Nat) (xs':List (Int×Value)) (F':Fr) (T':Nd) (sv':Value) (sn':List (Fw.Bs×Nd)) (c':List Value) (FSq':Fr) (L':List BHeld),v= .bool (Sp.OpRun d op).isSome∧Bs=[blk db (cl [.int .i32 0,.int .u32 0,.map (some mb),.pointer (some ⟨T'.b,0,none⟩),sv'] 133),blk mb (.map es' ck'),frag F',acc 199 2 sv' sn'.length c',frag FSq']∧MapIs (Value.int .i64) es' ck' xs'∧StR G' xs' L'∧Sp.VH L'∧NdO 138 119 G' T' F'∧Chk osE 2 G' c' sn'∧NdsO 138 119 G' (sn'.map (·.2)) FSq'∧∀d',Sp.OpRun d op=some d'→L'=d'.store∧Nd.TOK T' d'.tree∧SnOK sn' d'.snaps)):=by
 obtain⟨_,_,_,rfl,_,hi1,hr1⟩:=hop;have hy_hi1:_≤16777216:=hi1;have hn_hr1:=hr1.len;have hx_hr1:_≤1099511627776:=hr1.lim
 have H:Hp w0 G0 (fps [blk db (cl [.int .i32 0,.int .u32 0,.map (some mb),.pointer (some ⟨T.b,0,none⟩),sv] 133),blk mb (.map es ck),frag FT,acc 199 2 sv sn.length c,frag FSq]) w0 G0 [blk db (cl [.int .i32 0,.int .u32 0,.map (some mb),.pointer (some ⟨T.b,0,none⟩),sv] 133),blk mb (.map es ck),frag FT,acc 199 2 sv sn.length c,frag FSq]:=hLent.hp
 obtain⟨_,_,rfl⟩:=H.accShape (k:=3) rfl;have hVd:=Sp.valid_iff.1 (Sp.dv_parts.1 hdv).1;have hTv:=(Sp.dv_parts.1 hdv).2.1;have hTc:=hT.cnt;have hTl:=Sp.tree_len hTv;have hsnl:=hSn.len;have hsn6:=(Sp.dv_parts.1 hdv).2.2.1
 refine calls_of_W (l:=[.pointer (some ⟨db,0,none⟩),_]) func98 Z ntmps98 Z (q2 (o_box H Z Z Z ?_));intro _ _ _ H
 refine aG Z (q3 (W_seq (q2 (fA 0 Z (lB 0 H Z3 (q3 (W_block (q2 (pe 2 Z (q3 ?_))))))))))
 refine W_cond Z ?_ ?_
 ·intro hc3
  try simp only[nrm]at hc3
  refine q2 (mV Z (fA 1 Z (lB 0 H Z3 ?_)))
  have H:=H.tF 5
  have H:=H.tF 5
  have H:=H.tF 5
  have H:=H.tF 5
  have H:=H.tF 5
  refine xc Z2 (i_dmakeDir_c _ _ H.sub _ _ _ _ _ _ _ _ _ _ _ _ hm hS hN hT hchk hNs hSn hdv _ hi1 H.lent5) ?_
  rintro _ _ ⟨_,_,_,rfl,H4',⟨_,_,_,_,_,_,_,_,_,_,rfl,rfl,hm4,hS4,hV4,hN4,hchk4,hNs4,hd4⟩⟩
  have H:=H.borrow5 H4'
  obtain⟨avAd,cvAd,rfl⟩:=H.accShape (k:=3) rfl
  refine⟨_,Z,?_⟩
  refine aG Z (q3 (W_ret (N_B_ret (N_K_ret (rt1 results98 Z ?_)))))
  have H:=H.dl 5
  have H:=H.tF 4
  have H:=H.tF 4
  have H:=H.tF 4
  have H:=H.tF 4
  have H:=H.tF 4
  exact H.retM ⟨_,_,_,_,_,_,_,_,_,_,by (rw[Sp.op_is1 hok hc3];rfl),rfl,hm4,hS4,hV4,hN4,hchk4,hNs4,(by rw[Sp.op_is1 hok hc3];exact hd4)⟩
 intro hc3'
 try simp only[nrm]at hc3'
 refine q2 (pe 2 Z (q3 ?_))
 refine W_cond Z ?_ ?_
 ·intro hc5
  try simp only[nrm]at hc5
  refine q2 (mV Z (fA 1 Z (lB 0 H Z3 (fA 2 Z (lB 0 H Z3 ?_)))))
  have H:=H.tF 5
  have H:=H.tF 5
  have H:=H.tF 5
  have H:=H.tF 5
  have H:=H.tF 5
  refine xc Z2 (i_dwrite_c _ _ H.sub _ _ _ _ _ _ _ _ _ _ _ _ hm hS hN hT hchk hNs hSn hdv _ hi1 _ _ hr1 H.lent5) ?_
  rintro _ _ ⟨_,_,_,rfl,H6',⟨_,_,_,_,_,_,_,_,_,_,rfl,rfl,hm6,hS6,hV6,hN6,hchk6,hNs6,hd6⟩⟩
  have H:=H.borrow5 H6'
  obtain⟨avAd,cvAd,rfl⟩:=H.accShape (k:=3) rfl
  refine⟨_,Z,?_⟩
  refine aG Z (q3 (W_ret (N_B_ret (N_K_ret (rt1 results98 Z ?_)))))
  have H:=H.dl 5
  have H:=H.tF 4
  have H:=H.tF 4
  have H:=H.tF 4
  have H:=H.tF 4
  have H:=H.tF 4
  exact H.retM ⟨_,_,_,_,_,_,_,_,_,_,by (rw[Sp.op_is2 hok hc3' hc5];rfl),rfl,hm6,hS6,hV6,hN6,hchk6,hNs6,(by rw[Sp.op_is2 hok hc3' hc5];exact hd6)⟩
 intro hc5'
 try simp only[nrm]at hc5'
 refine q2 (pe 2 Z (q3 ?_))
 refine W_cond Z ?_ ?_
 ·intro hc7
  try simp only[nrm]at hc7
  refine q2 (mV Z (fA 1 Z (lB 0 H Z3 ?_)))
  have H:=H.tF 5
  have H:=H.tF 5
  have H:=H.tF 5
  have H:=H.tF 5
  have H:=H.tF 5
  refine xc Z2 (i_dremove_c _ _ H.sub _ _ _ _ _ _ _ _ _ _ _ _ hm hS hN hT hchk hNs hSn hdv _ hi1 H.lent5) ?_
  rintro _ _ ⟨_,_,_,rfl,H8',⟨_,_,_,_,_,_,_,_,_,_,rfl,rfl,hm8,hS8,hV8,hN8,hchk8,hNs8,hd8⟩⟩
  have H:=H.borrow5 H8'
  obtain⟨avAd,cvAd,rfl⟩:=H.accShape (k:=3) rfl
  refine⟨_,Z,?_⟩
  refine aG Z (q3 (W_ret (N_B_ret (N_K_ret (rt1 results98 Z ?_)))))
  have H:=H.dl 5
  have H:=H.tF 4
  have H:=H.tF 4
  have H:=H.tF 4
  have H:=H.tF 4
  have H:=H.tF 4
  exact H.retM ⟨_,_,_,_,_,_,_,_,_,_,by (rw[Sp.op_is3 hok hc3' hc5' hc7];rfl),rfl,hm8,hS8,hV8,hN8,hchk8,hNs8,(by rw[Sp.op_is3 hok hc3' hc5' hc7];exact hd8)⟩
 intro hc7'
 try simp only[nrm]at hc7'
 refine W_skip (N_B (N_K (q2 (mV Z (fA 1 Z (lB 0 H Z3 ?_))))))
 have H:=H.tF 5
 have H:=H.tF 5
 have H:=H.tF 5
 have H:=H.tF 5
 have H:=H.tF 5
 refine xc Z2 (i_take_c _ _ H.sub _ _ _ _ _ _ _ _ _ _ _ _ hm hS hN hT hchk hNs hSn hdv _ hi1 H.lent5) ?_
 rintro _ _ ⟨_,_,_,rfl,H9',⟨_,_,_,_,_,_,_,_,_,rfl,rfl,hm9,hS9,hV9,hN9,hchk9,hNs9,hd9⟩⟩
 have H:=H.borrow5 H9'
 obtain⟨avAd,cvAd,rfl⟩:=H.accShape (k:=3) rfl
 refine⟨_,Z,?_⟩
 refine aG Z (q3 (W_ret (rt1 results98 Z ?_)))
 have H:=H.dl 5
 have H:=H.tF 4
 have H:=H.tF 4
 have H:=H.tF 4
 have H:=H.tF 4
 have H:=H.tF 4
 exact H.retM ⟨_,_,_,_,_,_,_,_,_,_,by (rw[Sp.op_is4 hok hc3' hc5' hc7'];rfl),rfl,hm9,hS9,hV9,hN9,hchk9,hNs9,(by rw[Sp.op_is4 hok hc3' hc5' hc7'];exact fun d2 h=>(by obtain⟨g1,g2,g3⟩:=hd9 d2 h;exact⟨g1,by (rw[g2];exact hT),g3⟩))⟩
theorem i_OpRun1_c (w0:World)(G0:PH)(hG:PSub G0 w0)(db mb:Nat)(es:Array MapEntry)(ck:Nat)(xs:List (Int×Value))(T:Nd)(FT:Fr)(sv:Value)(sn:List (Bs×Nd))(c:List Value)(FSq:Fr)(d:BDisk)(hm:MapIs (Value.int .i64) es ck xs)(hS:StR G0 xs d.store)(hN:NdO 138 119 G0 T FT)(hT:Nd.TOK T d.tree)(hchk:Chk osE 2 G0 c sn)(hNs:NdsO 138 119 G0 (sn.map (·.2)) FSq)(hSn:SnOK sn d.snaps)(hdv:Sp.DiskValid d=true)(cp:Nat)(oa:Option Addr)(om oc:Nat)(op:BOp)(hopk:inI op.kind)(hopp:op.path.length≤16777216)(hopr:RdI G0 (.slice oa om oc) op.bytes)(hcp:PRow G0 cp 0 [.int .i64 op.kind,str op.path,.slice oa om oc])(hLent:Lent w0 G0 [blk db (cl [.int .i32 0,.int .u32 0,.map (some mb),.pointer (some ⟨T.b,0,none⟩),sv] 133),blk mb (.map es ck),frag FT,acc 199 2 sv sn.length c,frag FSq]) :
  Calls Tryz.prog 96 #[.pointer (some ⟨db,0,none⟩),.pointer (some ⟨cp,0,none⟩)] w0 (RetM w0 G0 (fps [blk db (cl [.int .i32 0,.int .u32 0,.map (some mb),.pointer (some ⟨T.b,0,none⟩),sv] 133),blk mb (.map es ck),frag FT,acc 199 2 sv sn.length c,frag FSq]) (fun G' v Bs=>∃(es':Array MapEntry) (ck':Nat) (xs':List (Int×Value)) (F':Fr) (T':Nd) (sv':Value) (sn':List (Fw.Bs×Nd)) (c':List Value) (FSq':Fr) (L':List BHeld),v= .bool (Sp.OpRun d op).isSome∧Bs=[blk db (cl [.int .i32 0,.int .u32 0,.map (some mb),.pointer (some ⟨T'.b,0,none⟩),sv'] 133),blk mb (.map es' ck'),frag F',acc 199 2 sv' sn'.length c',frag FSq']∧MapIs (Value.int .i64) es' ck' xs'∧StR G' xs' L'∧Sp.VH L'∧NdO 138 119 G' T' F'∧Chk osE 2 G' c' sn'∧NdsO 138 119 G' (sn'.map (·.2)) FSq'∧∀d',Sp.OpRun d op=some d'→L'=d'.store∧Nd.TOK T' d'.tree∧SnOK sn' d'.snaps)):=by
 have hn_hopr:=hopr.len;have hx_hopr:_≤1099511627776:=hopr.lim
 have H:Hp w0 G0 (fps [blk db (cl [.int .i32 0,.int .u32 0,.map (some mb),.pointer (some ⟨T.b,0,none⟩),sv] 133),blk mb (.map es ck),frag FT,acc 199 2 sv sn.length c,frag FSq]) w0 G0 [blk db (cl [.int .i32 0,.int .u32 0,.map (some mb),.pointer (some ⟨T.b,0,none⟩),sv] 133),blk mb (.map es ck),frag FT,acc 199 2 sv sn.length c,frag FSq]:=hLent.hp
 obtain⟨_,_,rfl⟩:=H.accShape (k:=3) rfl;have hVd:=Sp.valid_iff.1 (Sp.dv_parts.1 hdv).1;have hTv:=(Sp.dv_parts.1 hdv).2.1;have hTc:=hT.cnt;have hTl:=Sp.tree_len hTv;have hsnl:=hSn.len;have hsn6:=(Sp.dv_parts.1 hdv).2.2.1
 refine calls_of_W (l:=[.pointer (some ⟨db,0,none⟩),.pointer (some ⟨cp,0,none⟩)]) func96 Z ntmps96 Z (q2 (aG Z (q1 (o_loadagg_P H isAgg53 sizeOf53 Z Z hcp Z ?_))))
 refine xr H Z2 (i_opValid_c _ _ H.sub _ op ⟨_,_,_,Z,⟨by first|omega|(dsimp only;omega),by first|omega|(dsimp only;omega)⟩,hopp,hopr⟩) ?_;intro _ H
 refine mV Z ?_
 refine R_case (t:=6) Z ?_ ?_
 ·intro hc2
  try simp only[nrm]at hc2
  refine pe 1 Z (gR Z (o_loadagg_P H isAgg53 sizeOf53 Z Z hcp Z (gR Z ?_)))
  have H:=H.tF 4
  have H:=H.tF 4
  have H:=H.tF 4
  have H:=H.tF 4
  have H:=H.tF 4
  refine xc Z2 (i_drun_c _ _ H.sub _ _ _ _ _ _ _ _ _ _ _ _ hm hS hN hT hchk hNs hSn hdv _ op ⟨_,_,_,Z,⟨by first|omega|(dsimp only;omega),by first|omega|(dsimp only;omega)⟩,hopp,hopr⟩ H.lent5 (by assumption)) ?_
  rintro _ _ ⟨_,_,_,rfl,H3',⟨_,_,_,_,_,_,_,_,_,_,rfl,rfl,hm3,hS3,hV3,hN3,hchk3,hNs3,hd3⟩⟩
  have H:=H.borrow5 H3'
  obtain⟨_,_,rfl⟩:=H.accShape (k:=3) rfl
  refine⟨_,Z,?_⟩
  refine pe 2 Z (q3 (W_ret (rt1 results96 Z ?_)))
  have H:=H.tF 4
  have H:=H.tF 4
  have H:=H.tF 4
  have H:=H.tF 4
  have H:=H.tF 4
  exact H.retM ⟨_,_,_,_,_,_,_,_,_,_,Z,Z,hm3,hS3,hV3,hN3,hchk3,hNs3,hd3⟩
 intro hc2'
 try simp only[nrm]at hc2'
 refine pe 5 Z (q3 (W_ret (rt1 results96 Z ?_)))
 have H:=H.tF 4
 have H:=H.tF 4
 have H:=H.tF 4
 have H:=H.tF 4
 have H:=H.tF 4
 have hno:Sp.OpRun d op=none:=Sp.op_bad (by simpa using hc2')
 exact H.retM ⟨_,_,_,_,T,_,sn,_,_,d.store,congrArg Value.bool (by (rw[hno];rfl)),rfl,hm,hS,hVd,hN,hchk,hNs,fun d2 h=>(by rw[hno]at h;cases h)⟩
theorem i_changed_op_c (w0:World)(G0:PH)(hG:PSub G0 w0)(cd:List Value)(d:BDisk)(hd:diskE G0 d cd)(cp:Nat)(oa:Option Addr)(om oc:Nat)(op:BOp)(hopk:inI op.kind)(hopp:op.path.length≤16777216)(hopr:RdI G0 (.slice oa om oc) op.bytes)(hcp:PRow G0 cp 0 [.int .i64 op.kind,str op.path,.slice oa om oc]) :
  Calls Tryz.prog 60 #[.agg cd.toArray,.func (.func 96) #[] #[.pointer (some ⟨cp,0,none⟩)]] w0 (RetN w0 G0 (fun v Bs=>∃(v1 v2 v3:Value) (F1 F2 F3:Fr),v= .tuple #[.agg #[v1,v2,v3],.bool (Sp.OpRun d op).isSome]∧Bs=[frag F1,frag F2,frag F3]∧OHs F1 v1 ((Sp.OpRun d op).getD ⟨[],[],[]⟩).store∧OIs F2 v2 ((Sp.OpRun d op).getD ⟨[],[],[]⟩).tree∧OSn F3 v3 ((Sp.OpRun d op).getD ⟨[],[],[]⟩).snaps)):=by
 obtain⟨_,_,_,_,_,_,_,_,_,rfl,hr1,hr1',hr1'',⟨_,_⟩,⟨_,_⟩,_,_⟩:=ox hd
 have hn_hopr:=hopr.len;have hx_hopr:_≤1099511627776:=hopr.lim
 have H:=Hp.init hG
 refine calls_of_W (l:=[_,.func (.func 96) #[] #[.pointer (some ⟨cp,0,none⟩)]]) func60 Z ntmps60 Z (q2 (o_box H Z Z Z ?_));intro _ _ _ H
 refine xal H Z ?_;intro _ _ _ H
 refine aG Z (q1 (lA 1 3 H Z4 (xc Z2 (i_newDisk_c _ _ H.sub _ d ⟨_,_,_,_,_,_,_,_,_,Z,hr1,hr1',hr1''⟩ H.lent0) ?_)))
 rintro _ _ ⟨_,_,_,rfl,H4',⟨rfl,rfl,hnd4⟩|⟨_,_,_,_,_,_,_,_,_,_,_,rfl,rfl,hm4,hS4,hN4,hT4,hchk4,hNs4,hSn4,hdv4⟩⟩
 ·skip
  have H:=H.borrow0 H4'
  refine⟨_,Z,?_⟩
  refine pe 5 Z (q3 (W_seq (q2 (pe 8 Z (q3 (W_true Z (q2 (o_build bf27 Z Z Z (xst 0 H Z8 ?_)))))))));intro _ H
  refine aG Z (q3 (W_ret (N_K_ret (ret_gen (rs:=[.cell 4 27,.tmp 5]) (vs:=[_,_]) results60 ⟨⟨_,Z,load_blk 0 H isAgg27 sizeOf27 Z Z Z⟩,Z,trivial⟩ ?_))))
  have H:=H.dl 0
  have H:=H.dl 0
  have hno:Sp.OpRun d op=none:=by (cases hh:Sp.OpRun d op with |none=>rfl|some q=>(have hx:=Sp.op_isv hh;rw[hnd4]at hx;cases hx))
  have H:=(((H.addF).addF).addF).forget hG (by simp)
  refine⟨_,_,Z,H,.slice none 0 0,.slice none 0 0,.slice none 0 0,[],[],[],?_,Z,?_,?_,?_⟩
  ·(rw[hno];rfl)
  ·(rw[hno];exact oh_nil)
  ·(rw[hno];exact oi_nil)
  (rw[hno];exact os_nil)
 skip
 have hcp:=hcp.up H4'.le
 have hopr:=hopr.up H4'.le
 have H:=H.borrow0 H4'
 obtain⟨avAd,cvAd,rfl⟩:=H.accShape (k:=3) rfl
 refine⟨_,Z,?_⟩
 refine pe 5 Z (q3 (W_seq (q2 (pe 5 Z (gR Z ?_)))))
 have H:=H.tF 4
 have H:=H.tF 4
 have H:=H.tF 4
 have H:=H.tF 4
 have H:=H.tF 4
 refine o_callc call96 Z Z Z (i_OpRun1_c _ _ H.sub _ _ _ _ _ _ _ _ _ _ _ _ hm4 hS4 hN4 hT4 hchk4 hNs4 hSn4 hdv4 _ _ _ _ _ hopk hopp hopr hcp H.lent5) ?_
 rintro _ _ ⟨_,_,_,rfl,H6',⟨_,_,_,_,_,_,_,_,_,_,rfl,rfl,hm6,hS6,hV6,hN6,hchk6,hNs6,hd6⟩⟩
 have H:=H.borrow5 H6'
 obtain⟨avAd,cvAd,rfl⟩:=H.accShape (k:=3) rfl
 refine⟨_,Z,?_⟩
 refine pe 2 Z (q3 ?_)
 refine W_cond Z ?_ ?_
 ·intro hc7
  try simp only[nrm]at hc7
  refine q2 (o_build bf27 Z Z Z (xst 5 H Z8 ?_));intro _ H
  refine aG Z (q3 (W_ret (N_K_ret (ret_gen (rs:=[.cell 4 27,.tmp 5]) (vs:=[_,_]) results60 ⟨⟨_,Z,load_blk 5 H isAgg27 sizeOf27 Z Z Z⟩,Z,trivial⟩ ?_))))
  have H:=H.dl 0
  have H:=H.dl 0
  have H:=H.dl 0
  have H:=H.dl 0
  have H:=H.dl 0
  have H:=H.dl 0
  have H:=H.dl 0
  have hno:Sp.OpRun d op=none:=by simpa using hc7
  have H:=(((H.addF).addF).addF).forget hG (by simp)
  refine⟨_,_,Z,H,.slice none 0 0,.slice none 0 0,.slice none 0 0,[],[],[],?_,Z,?_,?_,?_⟩
  ·(rw[hno];rfl)
  ·(rw[hno];exact oh_nil)
  ·(rw[hno];exact oi_nil)
  (rw[hno];exact os_nil)
 intro hc7'
 try simp only[nrm]at hc7'
 obtain⟨d2,hd2⟩:=Option.isSome_iff_exists.1 (show(Sp.OpRun d op).isSome=true by simpa using hc7')
 obtain⟨hL2,hT2,hsn2⟩:=hd6 d2 hd2;subst hL2
 refine W_skip (N_K (q2 (mV Z ?_)))
 have H:=H.tF 4
 have H:=H.tF 4
 have H:=H.tF 4
 have H:=H.tF 4
 have H:=H.tF 4
 refine xc Z2 (i_disk_c _ _ H.sub _ _ _ _ _ _ _ _ _ _ _ _ hm6 hS6 hN6 hT2 hchk6 hNs6 hsn2 hV6 (Sp.dv_parts.1 (Sp.op_valid hd2)).2.2.1 H.lent5) ?_
 rintro _ _ ⟨_,_,_,rfl,H9',⟨_,_,_,D19,D29,D39,rfl,rfl,ho19,ho29,ho39⟩⟩
 have H:=H.borrow5 H9'
 obtain⟨_,p19⟩:=ho19
 obtain⟨a19,c19,rfl⟩:=OwnS.shape p19
 obtain⟨_,p29⟩:=ho29
 obtain⟨a29,c29,rfl⟩:=OwnS.shape p29
 obtain⟨_,p39⟩:=ho39
 obtain⟨a39,c39,rfl⟩:=OwnS.shape p39
 refine⟨_,Z,?_⟩
 refine xst 3 H Z8 ?_;intro _ H
 refine aG Z (q3 (W_ret (ret_gen (rs:=[.cell 4 27,.tmp 5]) (vs:=[_,_]) results60 ⟨⟨_,Z,load_blk 3 H isAgg27 sizeOf27 Z Z Z⟩,Z,trivial⟩ ?_)))
 have H:=H.dl 3
 have H:=H.dl 3
 have H:=H.tF 2
 have H:=H.tF 2
 have H:=H.tF 2
 have H:=H.forget hG (by simp)
 refine⟨_,_,Z,H,.slice a19 d2.store.length c19,.slice a29 d2.tree.length c29,.slice a39 d2.snaps.length c39,D19,D29,D39,?_,Z,?_,?_,?_⟩
 ·(rw[hd2];rfl)
 ·(rw[hd2];exact⟨_,p19⟩)
 ·(rw[hd2];exact⟨_,p29⟩)
 (rw[hd2];exact⟨_,p39⟩)
theorem i_OpRun_c (w0:World)(G0:PH)(hG:PSub G0 w0)(cd:List Value)(d:BDisk)(hd:diskE G0 d cd)(cop:List Value)(op:BOp)(hop:opE G0 op cop) :
  Calls Tryz.prog 30 #[.agg cd.toArray,.agg cop.toArray] w0 (RetN w0 G0 (fun v Bs=>∃(v1 v2 v3:Value) (F1 F2 F3:Fr),v= .tuple #[.agg #[v1,v2,v3],.bool (Sp.OpRun d op).isSome]∧Bs=[frag F1,frag F2,frag F3]∧OHs F1 v1 ((Sp.OpRun d op).getD ⟨[],[],[]⟩).store∧OIs F2 v2 ((Sp.OpRun d op).getD ⟨[],[],[]⟩).tree∧OSn F3 v3 ((Sp.OpRun d op).getD ⟨[],[],[]⟩).snaps)):=by
 obtain⟨_,_,_,_,_,_,_,_,_,rfl,hr1,hr1',hr1'',⟨_,_⟩,⟨_,_⟩,_,_⟩:=ox hd
 obtain⟨_,_,_,rfl,_,hi2,hr2⟩:=hop;have hy_hi2:_≤16777216:=hi2;have hn_hr2:=hr2.len;have hx_hr2:_≤1099511627776:=hr2.lim
 have H:=Hp.init hG
 refine calls_of_W (l:=[_,_]) func30 Z ntmps30 Z (q2 (o_box H Z Z Z ?_));intro _ _ _ H
 refine o_box H Z Z Z ?_;intro _ _ _ H
 refine xal H Z ?_;intro _ _ _ H
 refine aG Z (q1 (lA 2 3 H Z4 (o_makefn1 Z Z (xc Z2 (i_changed_op_c _ _ (H.lendSubL [1]) _ d ⟨_,_,_,_,_,_,_,_,_,Z,(hr1.up (PPlus.le _ _ _)),(hr1'.up (PPlus.le _ _ _)),(hr1''.up (PPlus.le _ _ _))⟩ _ _ _ _ op (by assumption) (by assumption) (hr2.up (PPlus.le _ _ _)) (prow_blk (H.lendPredL (k:=1) (ks:=[1]) Z Z))) ?_))))
 rintro _ _ ⟨_,_,rfl,H6',⟨_,_,_,E16,E26,E36,rfl,rfl,ho16,ho26,ho36⟩⟩
 have H:=H.readersL H6'
 obtain⟨_,p16⟩:=ho16
 obtain⟨a16,c16,rfl⟩:=OwnS.shape p16
 obtain⟨_,p26⟩:=ho26
 obtain⟨a26,c26,rfl⟩:=OwnS.shape p26
 obtain⟨_,p36⟩:=ho36
 obtain⟨a36,c36,rfl⟩:=OwnS.shape p36
 refine⟨_,Z,?_⟩
 refine pe 2 Z (xst 3 H Z8 ?_);intro _ H
 refine aG Z (q3 (W_ret (ret_gen (rs:=[.cell 4 27,.tmp 5]) (vs:=[_,_]) results30 ⟨⟨_,Z,load_blk 3 H isAgg27 sizeOf27 Z Z Z⟩,Z,trivial⟩ ?_)))
 have H:=H.dl 3
 have H:=H.dl 3
 have H:=H.dl 3
 have H:=H.tF 2
 have H:=H.tF 2
 have H:=H.tF 2
 exact⟨_,_,Z,H,.slice a16 ((Sp.OpRun d op).getD ⟨[],[],[]⟩).store.length c16,.slice a26 ((Sp.OpRun d op).getD ⟨[],[],[]⟩).tree.length c26,.slice a36 ((Sp.OpRun d op).getD ⟨[],[],[]⟩).snaps.length c36,E16,E26,E36,Z,Z,⟨_,p16⟩,⟨_,p26⟩,⟨_,p36⟩⟩
theorem i_OpsValid_c (w0:World)(G0:PH)(hG:PSub G0 w0)(vlist:Value)(list:List (BOp))(hlist:RdOp G0 vlist list) :
  Calls Tryz.prog 112 #[vlist] w0 (Rets w0 (.bool (Sp.OpsValid list))):=by
 obtain⟨alist,klist,rfl⟩:=hlist.shape
 have hlimlist:list.length≤1099511627776:=hlist.lim
 have H:=Hp.init hG
 refine calls_of_W (l:=[.slice alist list.length klist]) func112 Z ntmps112 Z (q2 (aG Z (q3 (W_seq (q2 (mV Z (lN Z (pe 1 Z (q3 ?_)))))))))
 refine W_cond Z ?_ ?_
 ·intro hc1
  try simp only[nrm]at hc1
  refine q2 (aG Z (q3 (W_ret (N_K_ret (rt1 results112 Z ?_)))))
  exact H.rets (congrArg Value.bool (by rw[Sp.OpsValid,decide_eq_false (show¬list.length≤20 by omega)];simp))
 intro hc1'
 try simp only[nrm]at hc1'
 refine W_skip (N_K (W_seq (q2 (mV Z (lN Z (mV Z (q3 (W_block ?_))))))))
 refine W_lp (hf:=(Sub.cons (t:=8) Z (Sub.cons (t:=9) Z Sub.nil))) (J:=fun M w m=>∃(k:Nat) (G:PH),M=[(10,.int .i64 (k:Int))]∧PLe G0 G∧Hp w0 G0 [] w G []∧(k≤list.length∧(list.take k).all Sp.opOk=true)∧m=(list.length-k)) (h0:=⟨0,_,Z,PLe.refl _,H,?inv,Z⟩) (round:=?round)
 case inv=>exact⟨by omega,by simp⟩
 case round =>
  rintro _ _ _ ⟨k,_,rfl,hle2,H,hinv2,rfl⟩
  have hlist:=hlist.up hle2
  obtain⟨_,hall⟩:=hinv2
  refine q2 (pe 1 Z (q3 (W_seq ?_)))
  refine W_cond Z ?_ ?_
  ·intro hc3
   try simp only[nrm]at hc3
   refine W_skip (N_K (W_seq (W_block (q2 (iP k hlist Z3 Z ?_)))));intro _ _ z4 _ hz4 hE4 hrow4
   obtain⟨_,_,_,rfl,_,hi4,hr4⟩:=hE4;have hy_hi4:_≤16777216:=hi4;have hn_hr4:=hr4.len;have hx_hr4:_≤1099511627776:=hr4.lim
   refine o_loadagg_P H isAgg53 sizeOf53 Z Z hrow4 Z (xal H Z ?_);intro _ _ _ H
   refine xst 0 H Z8 ?_;intro _ H
   refine q1 (lA 0 3 H Z4 ?_)
   refine xr H Z2 (i_opValid_c _ _ H.sub _ z4 ⟨_,_,_,Z,⟨by first|omega|(dsimp only;omega),by first|omega|(dsimp only;omega)⟩,hi4,hr4⟩) ?_;intro _ H
   refine pe 1 Z (q3 ?_)
   refine W_cond Z ?_ ?_
   ·intro hc8
    try simp only[nrm]at hc8
    refine q2 (aG Z (q3 (W_ret (N_B_ret (N_K_ret (N_LP_ret (N_B_ret (N_K_ret (rt1 results112 Z ?_)))))))))
    exact H.rets (congrArg Value.bool (by rw[Sp.OpsValid,Sp.all_false hz4 (by simpa using hc8)];rfl))
   intro hc8'
   try simp only[nrm]at hc8'
   refine W_skip (N_B (N_K (W_region (aD Z2 (mV Z (R_nil ?_))))))
   have H:=H.dl 0
   refine N_lp (hJ:=⟨k+1,_,Z,hle2,H,?inv,Z⟩) (hm:=?hm)
   case hm=>omega
   case inv=>exact⟨by omega,Sp.all_take hall hz4 (by simpa using hc8')⟩
  intro hc3'
  try simp only[nrm]at hc3'
  refine W_exit (N_K_exit (N_LP_exit (N_B_same (N_K (q2 (aG Z (q3 (W_ret (rt1 results112 Z ?_)))))))))
  obtain rfl:k=list.length:=by omega
  rw[List.take_length]at hall
  exact H.rets (congrArg Value.bool (by rw[Sp.OpsValid,hall,Bool.true_and];rw[Bool.eq_iff_iff];simp;omega))
theorem i_push_c (w0:World)(G0:PH)(hG:PSub G0 w0)(qb:Nat)(qv:Value)(ql:List BOp)(qc:List Value)(hchkq:Chk opE 3 G0 qc ql)(hqn:ql.length≤1000)(cop:List Value)(op:BOp)(hop:opE G0 op cop)(hLent:Lent w0 G0 [blk qb (cl [qv] 174),acc 53 3 qv ql.length qc]) :
  Calls Tryz.prog 113 #[.pointer (some ⟨qb,0,none⟩),.agg cop.toArray] w0 (RetM w0 G0 (fps [blk qb (cl [qv] 174),acc 53 3 qv ql.length qc]) (fun G' v Bs=>∃(qv':Value) (qc':List Value),v= .tuple #[]∧Bs=[blk qb (cl [qv'] 174),acc 53 3 qv' (ql.length+1) qc']∧Chk opE 3 G' qc' (ql++[op]))):=by
 obtain⟨_,_,_,rfl,_,hi1,hr1⟩:=hop;have hy_hi1:_≤16777216:=hi1;have hn_hr1:=hr1.len;have hx_hr1:_≤1099511627776:=hr1.lim
 have H:Hp w0 G0 (fps [blk qb (cl [qv] 174),acc 53 3 qv ql.length qc]) w0 G0 [blk qb (cl [qv] 174),acc 53 3 qv ql.length qc]:=hLent.hp
 obtain⟨_,_,rfl⟩:=H.accShape (k:=1) rfl
 refine calls_of_W (l:=[.pointer (some ⟨qb,0,none⟩),_]) func113 Z ntmps113 Z (q2 (o_box H Z Z Z ?_));intro _ _ _ H
 refine q3 (W_drawK [0] 11 H kR Z ?_);intro _ H;have hd3:=PLe.refl G0
 refine dE 0 Z2 (dE 1 Z2 (dE 2 Z2 (dF 3 0 Z2 (RD_t 5 Z kR Z (fun _ hK=>v_loadagg_B 0 hK isAgg53 sizeOf53 Z Z Z Z) ?_))))
 refine r2 4 6 Z2 ?_ ?_
 ·skip
  refine lB 1 H Z3 (q4 H hd3 (r1 6 Z (xbs H Z7 ?_)));intro _ _ _ H
  refine q4 H hd3 (r1 7 Z (o_append1 2 H (sz:=3) (bytes:=48) underlying65 typeInfo53 ⟨_,Z,Z⟩ Z Z Z Z Z Z Z Z Z Z oM Z ?_));intro _ _ H
  have hchk5:=hchkq.snoc (show opE _ op _ from⟨_,_,_,rfl,⟨by first|omega|(dsimp only;omega),by first|omega|(dsimp only;omega)⟩,hi1,hr1⟩) rfl
  obtain⟨_,_,rfl⟩:=H.accShape (k:=2) rfl
  refine q4 H hd3 (dE 8 Z2 (dF 9 0 Z2 (r1 10 Z (xst 1 H Z8 ?_))));intro _ H
  refine q4 H hd3 (rz (end_gen (rs:=[]) (vs:=[]) results113 trivial ?_))
  have H:=H.dl 0
  have H:=H.tF 1
  have H:=H.tF 1
  exact H.retM ⟨_,_,Z,Z,hchk5⟩
 skip
 refine xbs H Z7 ?_;intro _ _ _ H
 refine q4 H hd3 (r1 4 Z (lB 2 H Z3 (q4 H hd3 (r1 7 Z (o_append1 2 H (sz:=3) (bytes:=48) underlying65 typeInfo53 ⟨_,Z,Z⟩ Z Z Z Z Z Z Z Z Z Z oM Z ?_)))));intro _ _ H
 have hchk8:=hchkq.snoc (show opE _ op _ from⟨_,_,_,rfl,⟨by first|omega|(dsimp only;omega),by first|omega|(dsimp only;omega)⟩,hi1,hr1⟩) rfl
 obtain⟨_,_,rfl⟩:=H.accShape (k:=2) rfl
 refine q4 H hd3 (dE 8 Z2 (dF 9 0 Z2 (r1 10 Z (xst 1 H Z8 ?_))));intro _ H
 refine q4 H hd3 (rz (end_gen (rs:=[]) (vs:=[]) results113 trivial ?_))
 have H:=H.dl 0
 have H:=H.tF 1
 have H:=H.tF 1
 exact H.retM ⟨_,_,Z,Z,hchk8⟩
theorem i_first_c (w0:World)(G0:PH)(hG:PSub G0 w0)(qb:Nat)(aq:Option Addr)(kq:Nat)(ql:List BOp)(hql:RdOp G0 (.slice aq ql.length kq) ql)(hLent:Lent w0 G0 [blk qb (cl [.slice aq ql.length kq] 174)]) :
  Calls Tryz.prog 115 #[.pointer (some ⟨qb,0,none⟩)] w0 (RetM w0 G0 (fps [blk qb (cl [.slice aq ql.length kq] 174)]) (fun G' v Bs=>∃(x:BOp) (co:List Value) (b:Bool),v= .tuple #[.agg co.toArray,.bool b]∧Bs=[blk qb (cl [.slice aq ql.length kq] 174)]∧opE G' x co∧(b=true→ql[0]? = some x)∧(b=false→ql=[]))):=by
 have H:Hp w0 G0 (fps [blk qb (cl [.slice aq ql.length kq] 174)]) w0 G0 [blk qb (cl [.slice aq ql.length kq] 174)]:=hLent.hp
 have hlimq:ql.length≤1099511627776:=hql.lim
 refine calls_of_W (l:=[.pointer (some ⟨qb,0,none⟩)]) func115 Z ntmps115 Z (q2 (xal H Z ?_));intro _ _ _ H
 refine aG Z (q3 (W_seq (q2 (pe 2 Z (fA 0 Z (lB 1 H Z3 (lN Z (pe 1 Z (q3 ?_)))))))))
 refine W_cond Z ?_ ?_
 ·intro hc2
  try simp only[nrm]at hc2
  refine q2 (o_build bf53 Z Z Z (xst 0 H Z8 ?_));intro _ H
  refine aG Z (q3 (W_ret (N_K_ret (ret_gen (rs:=[.cell 2 53,.tmp 3]) (vs:=[_,_]) results115 ⟨⟨_,Z,load_blk 0 H isAgg53 sizeOf53 Z Z Z⟩,Z,trivial⟩ ?_))))
  have H:=H.dl 0
  exact H.retM ⟨⟨0,[],[]⟩,_,false,rfl,rfl,⟨_,_,_,rfl,by decide,by decide,RdS.nil _ _ _⟩,fun h=>(by cases h),fun _=>List.length_eq_zero_iff.1 oM⟩
 intro hc2'
 try simp only[nrm]at hc2'
 refine W_skip (N_K (q2 (pe 2 Z (fA 0 Z (lB 1 H Z3 (iP 0 hql Z3 Z ?_))))));intro _ _ z4 _ hz4 hE4 hrow4
 obtain⟨_,_,_,rfl,_,hi4,hr4⟩:=hE4;have hy_hi4:_≤16777216:=hi4;have hn_hr4:=hr4.len;have hx_hr4:_≤1099511627776:=hr4.lim
 refine o_loadagg_P H isAgg53 sizeOf53 Z Z hrow4 Z (xst 0 H Z8 ?_);intro _ H
 refine aG Z (q3 (W_ret (ret_gen (rs:=[.cell 2 53,.tmp 3]) (vs:=[_,_]) results115 ⟨⟨_,Z,load_blk 0 H isAgg53 sizeOf53 Z Z Z⟩,Z,trivial⟩ ?_)))
 have H:=H.dl 0
 exact H.retM ⟨z4,_,true,rfl,rfl,⟨_,_,_,rfl,by assumption,hi4,hr4⟩,fun _=>hz4,fun h=>(by cases h)⟩
theorem i_pop_c (w0:World)(G0:PH)(hG:PSub G0 w0)(qb:Nat)(aq:Option Addr)(kq:Nat)(ql:List BOp)(hql:RdOp G0 (.slice aq ql.length kq) ql)(hLent:Lent w0 G0 [blk qb (cl [.slice aq ql.length kq] 174)])(hqp:0<ql.length) :
  Calls Tryz.prog 116 #[.pointer (some ⟨qb,0,none⟩)] w0 (RetM w0 G0 (fps [blk qb (cl [.slice aq ql.length kq] 174)]) (fun G' v Bs=>∃(aq':Option Addr) (kq':Nat),v= .tuple #[]∧Bs=[blk qb (cl [.slice aq' (ql.drop 1).length kq'] 174)]∧RdOp G' (.slice aq' (ql.drop 1).length kq') (ql.drop 1))):=by
 have H:Hp w0 G0 (fps [blk qb (cl [.slice aq ql.length kq] 174)]) w0 G0 [blk qb (cl [.slice aq ql.length kq] 174)]:=hLent.hp
 have hlimq:ql.length≤1099511627776:=hql.lim
 refine calls_of_W (l:=[.pointer (some ⟨qb,0,none⟩)]) func116 Z ntmps116 Z (W_region (pe 3 Z (fA 0 Z (lB 0 H Z3 ?_))))
 have hcap1:=hql.cap;try simp only[List.length_set,List.length_append,List.length_take,List.length_drop,List.length_replicate]at hcap1
 refine o_slice_from (i:=1) underlying65 sizeOf53 Z Z Z oM oM ?_
 have hsl1:=hql.part (i:=1) (j:=_) oM (Nat.le_refl _)
 have hsn1:=hsl1.len
 refine pe 1 Z (fA 0 Z (xst 0 H Z8 ?_));intro _ H
 refine R_nil (end_gen (rs:=[]) (vs:=[]) results116 trivial ?_)
 rw[List.take_of_length_le (by simp)]at hsl1
 have e9:ql.length-1=(ql.drop 1).length:=by simp
 rw[e9]at H hsl1
 exact H.retM ⟨_,_,Z,Z,hsl1⟩
theorem i_JournalRun_c (w0:World)(G0:PH)(hG:PSub G0 w0)(cd:List Value)(d:BDisk)(hd:diskE G0 d cd)(vlist:Value)(list:List (BOp))(hlist:RdOp G0 vlist list) :
  Calls Tryz.prog 40 #[.agg cd.toArray,vlist] w0 (RetN w0 G0 (fun v Bs=>∃(v1 v2 v3:Value) (F1 F2 F3:Fr),v= .tuple #[.agg #[v1,v2,v3],.int .i64 (Sp.jnum d list)]∧Bs=[frag F1,frag F2,frag F3]∧OHs F1 v1 (Sp.jdisk d list).store∧OIs F2 v2 (Sp.jdisk d list).tree∧OSn F3 v3 (Sp.jdisk d list).snaps)):=by
 obtain⟨a1,_,c1,_,_,_,_,_,_,rfl,hr1,hr1',hr1'',⟨_,_⟩,⟨_,_⟩,_,_⟩:=ox hd
 obtain⟨alist,klist,rfl⟩:=hlist.shape
 have hlimlist:list.length≤1099511627776:=hlist.lim
 have H:=Hp.init hG
 refine calls_of_W (l:=[_,.slice alist list.length klist]) func40 Z ntmps40 Z (q2 (o_box H Z Z Z ?_));intro b2 w2 _ H
 refine xal H Z ?_;intro b3 w3 _ H
 refine aG Z (q1 (lA 1 3 H Z4 (xc Z2 (i_newDisk_c _ _ H.sub _ d ⟨_,_,_,_,_,_,_,_,_,Z,hr1,hr1',hr1''⟩ H.lent0) ?_)))
 rintro _ _ ⟨G4,_,_,rfl,H4',⟨rfl,rfl,_⟩|⟨db4,mb4,es4,ck4,_,_,F4,_,sn4,c4,FS4,rfl,rfl,hm4,hS4,hN4,hT4,hchk4,hNs4,hSn4,hdv4⟩⟩
 ·skip
  have H:=H.borrow0 H4'
  refine⟨_,Z,?_⟩
  refine pe 5 Z (q3 (W_seq (q2 (pe 7 Z (q3 (W_true Z (q2 (o_build bf27 Z Z Z (xst 0 H Z8 ?_)))))))));intro _ H
  refine aG Z (q3 (W_ret (N_K_ret (ret_gen (rs:=[.cell 4 27,.tmp 5]) (vs:=[_,_]) results40 ⟨⟨_,Z,load_blk 0 H isAgg27 sizeOf27 Z Z Z⟩,Z,trivial⟩ ?_))))
  have H:=H.dl 0
  have H:=H.dl 0
  obtain⟨hj1,hj2⟩:Sp.jnum d list= -1∧Sp.jdisk d list=⟨[],[],[]⟩:=Sp.jrun_no (.inl (by assumption))
  have H:=(((H.addF).addF).addF).forget hG (by simp)
  exact⟨_,_,rfl,H,.slice none 0 0,.slice none 0 0,.slice none 0 0,[],[],[],(by rw[hj1];rfl),rfl,(by rw[hj2];exact oh_nil),(by rw[hj2];exact oi_nil),(by rw[hj2];exact os_nil)⟩
 skip
 have hlist:=hlist.up H4'.le
 have H:=H.borrow0 H4'
 obtain⟨avAd,cvAd,rfl⟩:=H.accShape (k:=3) rfl
 refine⟨_,Z,?_⟩
 refine pe 5 Z (q3 (W_seq (q2 (pe 4 Z (gR Z (xr H Z2 (i_OpsValid_c _ _ H.sub _ _ hlist) ?_))))));intro _ H
 refine pe 2 Z (q3 ?_)
 refine W_cond Z ?_ ?_
 ·intro hc7
  try simp only[nrm]at hc7
  refine q2 (o_build bf27 Z Z Z (xst 5 H Z8 ?_));intro _ H
  refine aG Z (q3 (W_ret (N_K_ret (ret_gen (rs:=[.cell 4 27,.tmp 5]) (vs:=[_,_]) results40 ⟨⟨_,Z,load_blk 5 H isAgg27 sizeOf27 Z Z Z⟩,Z,trivial⟩ ?_))))
  have H:=H.dl 0
  have H:=H.dl 0
  have H:=H.dl 0
  have H:=H.dl 0
  have H:=H.dl 0
  have H:=H.dl 0
  have H:=H.dl 0
  obtain⟨hj1,hj2⟩:Sp.jnum d list= -1∧Sp.jdisk d list=⟨[],[],[]⟩:=Sp.jrun_no (.inr (by simpa using hc7))
  have H:=(((H.addF).addF).addF).forget hG (by simp)
  exact⟨_,_,rfl,H,.slice none 0 0,.slice none 0 0,.slice none 0 0,[],[],[],(by rw[hj1];rfl),rfl,(by rw[hj2];exact oh_nil),(by rw[hj2];exact oi_nil),(by rw[hj2];exact os_nil)⟩
 intro hc7'
 try simp only[nrm]at hc7'
 refine W_skip (N_K (q2 ?_))
 have hov:Sp.OpsValid list=true:=by simpa using hc7'
 have hov20:list.length≤20:=Sp.ops_len hov
 refine o_build bf174 Z Z Z (o_box H Z Z Z ?_);intro b9 _ _ H
 refine aG Z (q3 (W_seq (q2 (mV Z (lN Z (mV Z (q3 (W_block ?_))))))))
 have H:=H.addNil 53 3
 obtain⟨ln11,hln11,H⟩:=H.nameAt (k:=1) (off:=0) rfl rfl
 obtain⟨ln12,hln12,H⟩:=H.name (k:=2) rfl
 obtain⟨ln13,hln13,H⟩:=H.name (k:=7) rfl
 obtain⟨ln14,hln14,H⟩:=H.name (k:=8) rfl
 refine W_lp (hf:=(Sub.cons (t:=4) Z (Sub.cons (t:=5) Z (Sub.cons (t:=6) Z (Sub.cons (t:=8) Z (Sub.cons (t:=32) Z (Sub.cons (t:=33) Z Sub.nil))))))) (J:=fun M w m=>∃(v:Value) (n:Nat) (cs:List Value) (xs:List (BOp)) (k:Nat) (G:PH),M=[(34,.int .i64 (k:Int))]∧PLe G4 G∧Hp w0 G0 [] w G [acc 53 3 v n cs,blk b9 (cl (setN ln11 0 v) 174),blk db4 (cl ln12 133),blk mb4 (.map es4 ck4),frag F4,acc 199 2 (.slice avAd sn4.length cvAd) sn4.length c4,frag FS4,blk b3 (cl ln13 27),blk b2 (cl ln14 27)]∧(Chk opE 3 G cs xs∧n=xs.length∧k≤list.length∧xs=list.take k)∧m=(list.length-k)) (h0:=⟨_,_,_,[],0,_,Z,PLe.refl _,H,?inv,Z⟩) (round:=?round)
 case inv=>exact⟨(Chk.nil (E:=opE) (sz:=3) (G:=G4)),by first|rfl|simp|(simp;omega)|omega,(by exact⟨by omega,rfl⟩)⟩
 case round =>
  rintro _ _ _ ⟨v,n,cs,xs,k,_,rfl,hle15,H,hinv15,rfl⟩
  subst hln11
  subst hln12
  subst hln13
  subst hln14
  have hlist:=hlist.up hle15
  have hS4:=hS4.up hle15
  have hN4:=hN4.up hle15
  have hchk4:=hchk4.up hle15
  have hNs4:=hNs4.up hle15
  obtain⟨hchk15_0,_,hinv15⟩:=hinv15
  obtain⟨_,_,rfl⟩:=H.accShape (k:=0) rfl
  obtain⟨hk,hxs⟩:=hinv15;obtain rfl:n=xs.length:=(by assumption);have hxl:xs.length=k:=(by rw[hxs,List.length_take];omega)
  refine q2 (pe 1 Z (q3 (W_seq ?_)))
  refine W_cond Z ?_ ?_
  ·intro hc16
   try simp only[nrm]at hc16
   refine W_skip (N_K (W_seq (W_block (q2 (iP k hlist Z3 Z ?_)))));intro _ _ z17 _ hz17 hE17 hrow17
   obtain⟨_,_,_,rfl,_,hi17,hr17⟩:=hE17;have hy_hi17:_≤16777216:=hi17;have hn_hr17:=hr17.len;have hx_hr17:_≤1099511627776:=hr17.lim
   refine o_loadagg_P H isAgg53 sizeOf53 Z Z hrow17 Z (xal H Z ?_);intro _ _ _ H
   refine xst 0 H Z8 ?_;intro _ H
   refine q3 (W_region (mV Z (lA 0 3 H Z4 ?_)))
   have H:=H.tF 1
   have H:=H.tF 2
   refine xc Z2 (i_push_c _ _ H.sub _ _ xs _ hchk15_0 aN _ _ ⟨_,_,_,Z,⟨by first|omega|(dsimp only;omega),by first|omega|(dsimp only;omega)⟩,hi17,hr17⟩ H.lent2) ?_
   rintro _ _ ⟨_,_,_,rfl,H20',⟨_,_,rfl,rfl,hchk20⟩⟩
   have hle15:=hle15.trans H20'.le
   have H:=H.borrow2 H20'
   obtain⟨_,_,rfl⟩:=H.accShape (k:=1) rfl
   refine⟨_,Z,?_⟩
   refine R_nil (N_B (N_K (W_region (aD Z2 (mV Z (R_nil ?_))))))
   have H:=H.dl 2
   have H:=H.tF 8
   have H:=H.tF 8
   have H:=H.tF 8
   have H:=H.tF 8
   have H:=H.tF 8
   have H:=H.tF 8
   have H:=H.tF 8
   have H:=H.tF 7
   have H:=H.tF 8
   refine N_lp (hJ:=⟨_,_,_,(xs++[z17]),k+1,_,Z,hle15,H,?inv,Z⟩) (hm:=?hm)
   case hm=>omega
   case inv=>exact⟨hchk20,aN,(by exact⟨by omega,by rw[hxs,take_succ hz17]⟩)⟩
  intro hc16'
  try simp only[nrm]at hc16'
  refine W_exit (N_K_exit (N_LP_exit (N_B_same (N_K (q2 (mV Z ?_))))))
  have H:=H.tF 6
  have H:=H.tF 6
  have H:=H.tF 6
  have H:=H.tF 6
  have H:=H.tF 6
  refine xc Z2 (i_disk_c _ _ H.sub _ _ _ _ _ _ _ _ _ _ _ _ hm4 hS4 hN4 hT4 hchk4 hNs4 hSn4 (Sp.valid_iff.1 (Sp.dv_parts.1 hdv4).1) (Sp.dv_parts.1 hdv4).2.2.1 H.lent5) ?_
  rintro _ _ ⟨_,_,_,rfl,H22',⟨_,_,_,_,_,_,rfl,rfl,ho122,ho222,ho322⟩⟩
  have hchk15_0:=hchk15_0.up H22'.le
  have H:=H.borrow5 H22'
  obtain⟨_,p122⟩:=ho122
  obtain⟨_,_,rfl⟩:=OwnS.shape p122
  obtain⟨_,p222⟩:=ho222
  obtain⟨_,_,rfl⟩:=OwnS.shape p222
  obtain⟨_,p322⟩:=ho322
  obtain⟨_,_,rfl⟩:=OwnS.shape p322
  refine⟨_,Z,?_⟩
  refine xal H Z ?_;intro b23 _ _ H
  refine xst 0 H Z8 ?_;intro _ H
  refine aG Z (q3 (W_seq (q2 ?_)))
  obtain rfl:k=list.length:=by omega
  rw[List.take_length]at hxs
  rw[hxs]at H hchk15_0
  obtain⟨_,H,hsg25,hsr25⟩:=H.shut' (k:=4) rfl hchk15_0 aN aN
  refine mV Z ?_
  have H:=H.tF 4
  refine xc Z2 (i_first_c _ _ H.sub _ _ _ _ hsr25 H.lent1) ?_
  rintro _ _ ⟨G26,_,_,rfl,H26',⟨xo26,_,bo26,rfl,rfl,hoe26,hot26,hof26⟩⟩
  have hsr25:=hsr25.up H26'.le
  have H:=H.borrow1 H26'
  obtain⟨_,_,_,rfl,_,hOp26,hOr26⟩:=hoe26
  have hn_hOr26:=hOr26.len;have hx_hOr26:_≤1099511627776:=hOr26.lim
  refine⟨_,Z,?_⟩
  refine pe 3 Z (xal H Z ?_);intro _ _ _ H
  refine xst 0 H Z8 ?_;intro _ H
  refine aG Z (q3 (W_block ?_))
  have H:=H.dl 7
  have H:=H.tF 6
  have H:=H.tF 2
  have H:=H.tF 2
  have H:=H.tF 6
  have H:=H.tF 6
  have H:=H.tF 6
  have H:=H.tF 6
  obtain⟨ln29,hln29,H⟩:=H.name (k:=6) rfl
  refine W_lp (hf:=(Sub.cons (t:=4) Z (Sub.cons (t:=5) Z (Sub.cons (t:=8) Z (Sub.cons (t:=11) Z Sub.nil))))) (J:=fun M w m=>∃(k:Nat) (dn:BDisk) (op:BOp) (mo:Bool) (ob:Nat) (va ov w1 w2 w3:Value) (F1 F2 F3:Fr) (G:PH),M=[(14,.bool mo),(12,.int .i64 (k:Int)),(13,.pointer (some ⟨ob,0,none⟩))]∧PLe G26 G∧Hp w0 G0 [] w G [blk b23 (cl [w1,w2,w3] 27),frag F1,frag F2,frag F3,blk ob (cl [.int .i64 op.kind,str op.path,ov] 53),blk b9 (cl [va] 174),blk b3 (cl ln29 27)]∧(k≤list.length∧Sp.JAt d list k dn∧OHs F1 w1 dn.store∧OIs F2 w2 dn.tree∧OSn F3 w3 dn.snaps∧RdOp G va (list.drop k)∧RdI G ov op.bytes∧inI op.kind∧op.path.length≤16777216∧(mo=true→list[k]? = some op)∧(mo=false→k=list.length))∧m=(list.length-k)) (h0:=⟨0,d,xo26,bo26,_,_,_,_,_,_,_,_,_,_,Z,PLe.refl _,H,?inv,Z⟩) (round:=?round)
  case inv=>exact⟨by omega,Sp.JAt.zero,⟨_,p122⟩,⟨_,p222⟩,⟨_,p322⟩,hsr25,hOr26,by assumption,hOp26,hot26,fun hh=>(by have h9:=congrArg List.length (hof26 hh);simpa using h9.symm)⟩
  case round =>
   rintro _ _ _ ⟨k,dn,op,mo,ob,va,ov,w1,w2,w3,F1,F2,F3,_,rfl,hle30,H,hinv30,rfl⟩
   subst hln29
   obtain⟨hk,hJ,hw1,hw2,hw3,hva,hov2,_,hop2,hmt,hmf⟩:=hinv30;obtain⟨_,p1⟩:=hw1;obtain⟨a1,c1,rfl⟩:=OwnS.shape p1;obtain⟨_,p2⟩:=hw2;obtain⟨a2,c2,rfl⟩:=OwnS.shape p2;obtain⟨_,p3⟩:=hw3;obtain⟨a3,c3,rfl⟩:=OwnS.shape p3;obtain⟨_,_,rfl⟩:=hva.shape;obtain⟨_,_,rfl⟩:=hov2.shape;have hn_hov2:=hov2.len;have hx_hov2:_≤1099511627776:=hov2.lim
   refine W_seq (q2 (mV Z (q3 ?_)))
   refine W_cond Z ?_ ?_
   ·intro hc31
    try simp only[nrm]at hc31
    refine W_skip (N_K (W_seq (W_block (q2 ?_))))
    have hzk:=hmt (by simpa using hc31)
    have hltk:=(List.getElem?_eq_some_iff.1 hzk).1
    refine lA 0 3 H Z4 (lA 4 3 H Z4 ?_)
    refine xc Z2 (i_OpRun_c _ _ (H.lendSubL [1,2,3]) _ dn ⟨_,_,_,_,_,_,_,_,_,Z,(H.lendOHs (k:=1) (ks:=[1,2,3]) Z Z ⟨_,p1⟩),(H.lendOIs (k:=2) (ks:=[1,2,3]) Z Z ⟨_,p2⟩),(H.lendOSn (k:=3) (ks:=[1,2,3]) Z Z ⟨_,p3⟩)⟩ _ op ⟨_,_,_,Z,⟨by first|omega|(dsimp only;omega),by first|omega|(dsimp only;omega)⟩,hop2,(hov2.up (PPlus.le _ _ _))⟩) ?_
    rintro _ _ ⟨_,_,rfl,H32',⟨_,_,_,_,_,_,rfl,rfl,ho132,ho232,ho332⟩⟩
    have H:=H.readersL H32'
    obtain⟨_,p132⟩:=ho132
    obtain⟨_,_,rfl⟩:=OwnS.shape p132
    obtain⟨_,p232⟩:=ho232
    obtain⟨_,_,rfl⟩:=OwnS.shape p232
    obtain⟨_,p332⟩:=ho332
    obtain⟨_,_,rfl⟩:=OwnS.shape p332
    refine⟨_,Z,?_⟩
    refine pe 3 Z (xal H Z ?_);intro _ _ _ H
    refine xst 0 H Z8 ?_;intro _ H
    refine aG Z (q3 (W_seq (q2 (pe 2 Z (q3 ?_)))))
    refine W_cond Z ?_ ?_
    ·intro hc35
     try simp only[nrm]at hc35
     refine W_exit (N_K_exit (N_B_other Z (N_K_exit (N_LP_exit (N_B_same (N_K (q2 (lA 4 3 H Z4 (mV Z (xst 10 H Z8 ?_))))))))));intro _ H
     refine aG Z (q3 (W_ret (ret_gen (rs:=[.cell 4 27,.tmp 5]) (vs:=[_,_]) results40 ⟨⟨_,Z,load_blk 10 H isAgg27 sizeOf27 Z Z Z⟩,Z,trivial⟩ ?_)))
     have H:=H.dl 0
     have H:=H.dl 0
     have H:=H.dl 0
     have H:=H.dl 0
     have H:=H.dl 0
     have H:=H.dl 3
     have H:=H.dl 3
     have H:=H.dl 3
     have H:=H.tF 2
     have H:=H.tF 2
     have H:=H.tF 2
     obtain⟨hj1,hj2⟩:=Sp.jrun_is hdv4 hov (hJ.stop hzk (by simpa using hc35))
     have H:=H.forget hG (by simp)
     exact⟨_,_,rfl,H,.slice a1 dn.store.length c1,.slice a2 dn.tree.length c2,.slice a3 dn.snaps.length c3,F1,F2,F3,(by rw[hj1];rfl),rfl,(by rw[hj2];exact⟨_,p1⟩),(by rw[hj2];exact⟨_,p2⟩),(by rw[hj2];exact⟨_,p3⟩)⟩
    intro hc35'
    try simp only[nrm]at hc35'
    refine W_skip (N_K (q2 (mV Z ?_)))
    have H:=H.tF 9
    refine xc Z2 (i_pop_c _ _ H.sub _ _ _ _ hva H.lent1 (by rw[List.length_drop];omega)) ?_
    rintro _ _ ⟨_,_,_,rfl,H37',⟨_,_,rfl,rfl,hqr37⟩⟩
    have hle30:=hle30.trans H37'.le
    have H:=H.borrow1 H37'
    refine⟨_,Z,?_⟩
    refine q1 ?_
    have hdd:(list.drop k).drop 1=list.drop (k+1):=by rw[List.drop_drop]
    rw[hdd]at H hqr37
    refine lA 1 3 H Z4 (xst 5 H Z8 ?_);intro _ H
    refine q3 (W_region (mV Z (aD Z2 (aG Z (R_nil (N_B (N_K (W_seq (q2 (lA 9 3 H Z4 (q3 (W_region (xal H Z ?_)))))))))))));intro _ _ _ H
    refine xst 0 H Z8 ?_;intro _ H
    refine q3 (W_region (mV Z ?_))
    have H:=H.tF 1
    refine xc Z2 (i_first_c _ _ H.sub _ _ _ _ hqr37 H.lent1) ?_
    rintro _ _ ⟨_,_,_,rfl,H42',⟨xo42,_,bo42,rfl,rfl,hoe42,hot42,hof42⟩⟩
    have hqr37:=hqr37.up H42'.le
    have hle30:=hle30.trans H42'.le
    have H:=H.borrow1 H42'
    obtain⟨_,_,_,rfl,_,hOp42,hOr42⟩:=hoe42
    have hn_hOr42:=hOr42.len;have hx_hOr42:_≤1099511627776:=hOr42.lim
    refine⟨_,Z,?_⟩
    refine pe 3 Z (xst 1 H Z8 ?_);intro _ H
    refine aG Z (R_nil ?_)
    have H:=H.dl 7
    have H:=H.dl 7
    have H:=H.dl 7
    have H:=H.dl 7
    have H:=H.dl 2
    have H:=H.tF 6
    have H:=H.tF 1
    have H:=H.tF 2
    have H:=H.tF 5
    have H:=H.tF 5
    have H:=H.tF 5
    have H:=H.tF 6
    refine N_lp (hJ:=⟨k+1,((Sp.OpRun dn op).getD ⟨[],[],[]⟩),xo42,bo42,_,_,_,_,_,_,_,_,_,_,Z,hle30,H,?inv,Z⟩) (hm:=?hm)
    case hm=>omega
    case inv=>exact⟨by omega,hJ.step hzk (Sp.some_get (by simpa using hc35')),⟨_,p132⟩,⟨_,p232⟩,⟨_,p332⟩,hqr37,hOr42,by assumption,hOp42,fun hh=>(by have h9:=hot42 hh;simpa [List.getElem?_drop] using h9),fun hh=>(by have h9:=congrArg List.length (hof42 hh);simp at h9;omega)⟩
   intro hc31'
   try simp only[nrm]at hc31'
   refine W_exit (N_K_exit (N_LP_exit (N_B_same (N_K (q2 (lA 0 3 H Z4 (mV Z (xst 6 H Z8 ?_))))))));intro _ H
   refine aG Z (q3 (W_ret (ret_gen (rs:=[.cell 4 27,.tmp 5]) (vs:=[_,_]) results40 ⟨⟨_,Z,load_blk 6 H isAgg27 sizeOf27 Z Z Z⟩,Z,trivial⟩ ?_)))
   have H:=H.dl 0
   have H:=H.dl 3
   have H:=H.dl 3
   have H:=H.dl 3
   have H:=H.tF 2
   have H:=H.tF 2
   have H:=H.tF 2
   obtain⟨hj1,hj2⟩:=Sp.jrun_is hdv4 hov (hJ.done (by have h9:=hmf (by simpa using hc31');omega))
   have H:=H.forget hG (by simp)
   exact⟨_,_,rfl,H,.slice a1 dn.store.length c1,.slice a2 dn.tree.length c2,.slice a3 dn.snaps.length c3,F1,F2,F3,(by rw[hj1];rfl),rfl,(by rw[hj2];exact⟨_,p1⟩),(by rw[hj2];exact⟨_,p2⟩),(by rw[hj2];exact⟨_,p3⟩)⟩
theorem lJournalNone_c (w0:World)(G0:PH)(hG:PSub G0 w0)(vcode:Value)(code:List (UInt8))(hcode:RdU G0 vcode code) :
  Calls Tryz.prog 12 #[vcode] w0 (Rets w0 (.bool true)):=by
 obtain⟨acode,kcode,rfl⟩:=hcode.shape
 have hlimcode:code.length≤1099511627776:=hcode.lim
 have H:=Hp.init hG
 refine calls_of_W (l:=[.slice acode code.length kcode]) func12 Z ntmps12 Z (q2 (aG Z (q3 (W_seq (q2 (mV Z (lN Z (pe 1 Z (q3 ?_)))))))))
 refine W_cond Z ?_ ?_
 ·intro hc1
  try simp only[nrm]at hc1
  refine q2 (aG Z (q3 (W_ret (N_K_ret (rt1 results12 Z ?_)))))
  exact H.rets (congrArg Value.bool (by first|rfl|(simp only[decide_eq_true_eq];omega)|simp_all))
 intro hc1'
 try simp only[nrm]at hc1'
 refine W_skip (N_K (q2 (mV Z (xc Z2 (DrawJournalRun_c _ _ H.sub _ _ hcode) ?_))))
 rintro _ _ ⟨_,_,g2,rfl,⟨_,uV,_,uJ,rfl,hV,hJ,_⟩⟩
 have H:=H.grow g2
 obtain⟨_,_,_,_,_,_,_,_,_,rfl,hr2,hr2',hr2'',⟨_,_⟩,⟨_,_⟩,_,_⟩:=ox hV
 obtain⟨_,_,rfl⟩:=hJ.shape;have hx_hJ:_≤1099511627776:=hJ.lim
 refine⟨_,Z,?_⟩
 refine pe 3 Z (xal H Z ?_);intro _ _ _ H
 refine xst 0 H Z8 ?_;intro _ H
 refine aG Z (q1 (lA 0 3 H Z4 (mV Z (xc Z2 (i_JournalRun_c _ _ H.sub _ uV ⟨_,_,_,_,_,_,_,_,_,Z,hr2,hr2',hr2''⟩ _ _ hJ) ?_))))
 rintro _ _ ⟨_,_,rfl,H5',⟨_,_,_,_,_,_,rfl,rfl,ho15,ho25,ho35⟩⟩
 have H:=H.readers (fp:=[]) (by simp) (PLe.refl _) H5'
 obtain⟨_,p15⟩:=ho15
 obtain⟨_,_,rfl⟩:=OwnS.shape p15
 obtain⟨_,p25⟩:=ho25
 obtain⟨_,_,rfl⟩:=OwnS.shape p25
 obtain⟨_,p35⟩:=ho35
 obtain⟨_,_,rfl⟩:=OwnS.shape p35
 refine⟨_,Z,?_⟩
 refine pe 3 Z (xal H Z ?_);intro _ _ _ H
 refine xst 0 H Z8 ?_;intro _ H
 refine aG Z (q1 (lA 4 3 H Z4 (mV Z (xc Z2 (JournalRun_c _ _ H.sub _ uV ⟨_,_,_,_,_,_,_,_,_,Z,hr2,hr2',hr2''⟩ _ _ hJ) ?_))))
 rintro _ _ ⟨G8,_,g8,rfl,_,rfl,hr8_0⟩
 have H:=H.grow g8
 have hr2:=hr2.up g8.le
 have hr2':=hr2'.up g8.le
 have hr2'':=hr2''.up g8.le
 obtain⟨_,_,_,_,_,_,_,_,_,rfl,hr9,hr9',hr9'',⟨_,_⟩,⟨_,_⟩,_,_⟩:=ox hr8_0
 refine⟨_,Z,?_⟩
 refine pe 3 Z (xal H Z ?_);intro _ _ _ H
 refine xst 0 H Z8 ?_;intro _ H
 refine aG Z (q3 (W_seq (q2 (pe 2 Z (o_neq_same Z Z Z (mV Z (gR Z (lA 1 3 H Z4 (gR Z (lA 0 3 H Z4 (gR Z (xr H Z2 (w_sameDisk_c _ _ (H.lendSubL [2,3,4]) _ (Sp.jdisk uV uJ) ⟨_,_,_,_,_,_,_,_,_,Z,(H.lendOHs (k:=2) (ks:=[2,3,4]) Z Z ⟨_,p15⟩),(H.lendOIs (k:=3) (ks:=[2,3,4]) Z Z ⟨_,p25⟩),(H.lendOSn (k:=4) (ks:=[2,3,4]) Z Z ⟨_,p35⟩)⟩ _ (Sp.jdisk uV uJ) ⟨_,_,_,_,_,_,_,_,_,Z,(hr9.up (PPlus.le _ _ _)),(hr9'.up (PPlus.le _ _ _)),(hr9''.up (PPlus.le _ _ _))⟩ (by first|rfl|assumption)) ?_))))))))))));intro _ H
 refine pe 6 Z (q3 ?_)
 refine W_cond Z ?_ ?_
 ·intro hc13
  try simp only[nrm]at hc13
  refine q2 (pe 2 Z (o_eql_same Z Z Z (mV Z (gR Z (lA 1 3 H Z4 (gR Z (lA 0 3 H Z4 (gR Z (xr H Z2 (w_sameDisk_c _ _ (H.lendSubL [2,3,4]) _ (Sp.jdisk uV uJ) ⟨_,_,_,_,_,_,_,_,_,Z,(H.lendOHs (k:=2) (ks:=[2,3,4]) Z Z ⟨_,p15⟩),(H.lendOIs (k:=3) (ks:=[2,3,4]) Z Z ⟨_,p25⟩),(H.lendOSn (k:=4) (ks:=[2,3,4]) Z Z ⟨_,p35⟩)⟩ _ (Sp.jdisk uV uJ) ⟨_,_,_,_,_,_,_,_,_,Z,(hr9.up (PPlus.le _ _ _)),(hr9'.up (PPlus.le _ _ _)),(hr9''.up (PPlus.le _ _ _))⟩ (by first|rfl|assumption)) ?_)))))))));intro _ H
  refine pe 2 Z (q3 (W_ret (N_K_ret (rt1 results12 Z ?_))))
  exact H.rets (congrArg Value.bool (by first|rfl|(simp only[decide_eq_true_eq];omega)|simp_all))
 intro hc13'
 try simp only[nrm]at hc13'
 refine W_skip (N_K (q2 ?_))
 obtain⟨_,_,_,hj3,_,_,_,_⟩:=Sp.j_law (d:=uV) (l:=uJ) oM
 obtain⟨_,_⟩:=Sp.j_none hj3
 refine lA 5 3 H Z4 (xbs H Z7 ?_);intro _ _ _ H
 have H:=H.blkAcc 3 (k:=0) (n:=0) rfl rfl (by decide)
 refine xc Z2 (i_JournalRun_c _ _ (H.lendSubL [0]) _ uV ⟨_,_,_,_,_,_,_,_,_,Z,(hr2.up (PPlus.le _ _ _)),(hr2'.up (PPlus.le _ _ _)),(hr2''.up (PPlus.le _ _ _))⟩ _ _ (H.lendRdL (k:=0) (ks:=[0]) Z Z (Chk.nil (E:=opE) (sz:=3) (G:=G8)) aN aN)) ?_
 rintro _ _ ⟨_,_,rfl,H16',⟨_,_,_,_,_,_,rfl,rfl,ho116,ho216,ho316⟩⟩
 have H:=H.readersL H16'
 obtain⟨_,p116⟩:=ho116
 obtain⟨_,_,rfl⟩:=OwnS.shape p116
 obtain⟨_,p216⟩:=ho216
 obtain⟨_,_,rfl⟩:=OwnS.shape p216
 obtain⟨_,p316⟩:=ho316
 obtain⟨_,_,rfl⟩:=OwnS.shape p316
 refine⟨_,Z,?_⟩
 refine pe 3 Z (xal H Z ?_);intro _ _ _ H
 refine xst 0 H Z8 ?_;intro _ H
 refine aG Z (q1 (pe 3 Z ?_))
 refine R_case (t:=60) Z ?_ ?_
 ·intro hc19
  try simp only[nrm]at hc19
  refine gR Z (lA 0 3 H Z4 (gR Z (lA 10 3 H Z4 (gR Z (xr H Z2 (w_sameDisk_c _ _ (H.lendSubL [1,2,3]) _ (Sp.jdisk uV []) ⟨_,_,_,_,_,_,_,_,_,Z,(H.lendOHs (k:=1) (ks:=[1,2,3]) Z Z ⟨_,p116⟩),(H.lendOIs (k:=2) (ks:=[1,2,3]) Z Z ⟨_,p216⟩),(H.lendOSn (k:=3) (ks:=[1,2,3]) Z Z ⟨_,p316⟩)⟩ _ uV ⟨_,_,_,_,_,_,_,_,_,Z,(hr2.up (PPlus.le _ _ _)),(hr2'.up (PPlus.le _ _ _)),(hr2''.up (PPlus.le _ _ _))⟩ (by first|rfl|assumption)) ?_)))));intro _ H
  refine pe 2 Z (gR Z (lA 6 3 H Z4 (gR Z (xr H Z2 (i_DiskValid_c _ _ (H.lendSubL [7,8,9]) _ (Sp.jdisk uV uJ) ⟨_,_,_,_,_,_,_,_,_,Z,(H.lendOHs (k:=7) (ks:=[7,8,9]) Z Z ⟨_,p15⟩),(H.lendOIs (k:=8) (ks:=[7,8,9]) Z Z ⟨_,p25⟩),(H.lendOSn (k:=9) (ks:=[7,8,9]) Z Z ⟨_,p35⟩)⟩) ?_))));intro _ H
  refine pe 2 Z ?_
  refine R_case (t:=69) Z ?_ ?_
  ·intro hc22
   try simp only[nrm]at hc22
   refine pe 2 Z (gR Z (lN Z (pe 3 Z (q3 (W_ret (rt1 results12 Z ?_))))))
   exact H.rets (congrArg Value.bool (by first|rfl|(simp only[decide_eq_true_eq];omega)|simp_all))
  intro hc22'
  try simp only[nrm]at hc22'
  exact absurd (show False from by first|omega|simp_all) id
 intro hc19'
 try simp only[nrm]at hc19'
 exact absurd (show False from by first|omega|simp_all) id
theorem lJournal_c (w0:World)(G0:PH)(hG:PSub G0 w0)(vcode:Value)(code:List (UInt8))(hcode:RdU G0 vcode code) :
  Calls Tryz.prog 10 #[vcode] w0 (Rets w0 (.bool true)):=by
 obtain⟨acode,kcode,rfl⟩:=hcode.shape
 have hlimcode:code.length≤1099511627776:=hcode.lim
 have H:=Hp.init hG
 refine calls_of_W (l:=[.slice acode code.length kcode]) func10 Z ntmps10 Z (q2 (aG Z (q3 (W_seq (q2 (mV Z (lN Z (pe 1 Z (q3 ?_)))))))))
 refine W_cond Z ?_ ?_
 ·intro hc1
  try simp only[nrm]at hc1
  refine q2 (aG Z (q3 (W_ret (N_K_ret (rt1 results10 Z ?_)))))
  exact H.rets (congrArg Value.bool (by first|rfl|(simp only[decide_eq_true_eq];omega)|simp_all))
 intro hc1'
 try simp only[nrm]at hc1'
 refine W_skip (N_K (q2 (mV Z (xc Z2 (DrawJournalRun_c _ _ H.sub _ _ hcode) ?_))))
 rintro _ _ ⟨_,_,g2,rfl,⟨_,uV,_,uJ,rfl,hV,hJ,_⟩⟩
 have H:=H.grow g2
 obtain⟨_,_,_,_,_,_,_,_,_,rfl,hr2,hr2',hr2'',⟨_,_⟩,⟨_,_⟩,_,_⟩:=ox hV
 obtain⟨_,_,rfl⟩:=hJ.shape;have hx_hJ:_≤1099511627776:=hJ.lim
 refine⟨_,Z,?_⟩
 refine pe 3 Z (xal H Z ?_);intro _ _ _ H
 refine xst 0 H Z8 ?_;intro _ H
 refine aG Z (q1 (lA 0 3 H Z4 (mV Z (xc Z2 (i_JournalRun_c _ _ H.sub _ uV ⟨_,_,_,_,_,_,_,_,_,Z,hr2,hr2',hr2''⟩ _ _ hJ) ?_))))
 rintro _ _ ⟨_,_,rfl,H5',⟨_,_,_,_,_,_,rfl,rfl,ho15,ho25,ho35⟩⟩
 have H:=H.readers (fp:=[]) (by simp) (PLe.refl _) H5'
 obtain⟨_,p15⟩:=ho15
 obtain⟨_,_,rfl⟩:=OwnS.shape p15
 obtain⟨_,p25⟩:=ho25
 obtain⟨_,_,rfl⟩:=OwnS.shape p25
 obtain⟨_,p35⟩:=ho35
 obtain⟨_,_,rfl⟩:=OwnS.shape p35
 refine⟨_,Z,?_⟩
 refine pe 3 Z (xal H Z ?_);intro b6 _ _ H
 refine xst 0 H Z8 ?_;intro _ H
 refine aG Z (q1 (lA 4 3 H Z4 (mV Z (xc Z2 (JournalRun_c _ _ H.sub _ uV ⟨_,_,_,_,_,_,_,_,_,Z,hr2,hr2',hr2''⟩ _ _ hJ) ?_))))
 rintro _ _ ⟨_,_,g8,rfl,_,rfl,hr8_0⟩
 have H:=H.grow g8
 have hr2:=hr2.up g8.le
 have hr2':=hr2'.up g8.le
 have hr2'':=hr2''.up g8.le
 have hJ:=hJ.up g8.le
 obtain⟨_,_,_,_,_,_,_,_,_,rfl,hr9,hr9',hr9'',⟨_,_⟩,⟨_,_⟩,_,_⟩:=ox hr8_0
 refine⟨_,Z,?_⟩
 refine pe 3 Z (xal H Z ?_);intro _ _ _ H
 refine xst 0 H Z8 ?_;intro _ H
 refine aG Z (q3 (W_seq (q2 (pe 2 Z (o_neq_same Z Z Z (mV Z (gR Z (lA 1 3 H Z4 (gR Z (lA 0 3 H Z4 (gR Z (xr H Z2 (w_sameDisk_c _ _ (H.lendSubL [2,3,4]) _ (Sp.jdisk uV uJ) ⟨_,_,_,_,_,_,_,_,_,Z,(H.lendOHs (k:=2) (ks:=[2,3,4]) Z Z ⟨_,p15⟩),(H.lendOIs (k:=3) (ks:=[2,3,4]) Z Z ⟨_,p25⟩),(H.lendOSn (k:=4) (ks:=[2,3,4]) Z Z ⟨_,p35⟩)⟩ _ (Sp.jdisk uV uJ) ⟨_,_,_,_,_,_,_,_,_,Z,(hr9.up (PPlus.le _ _ _)),(hr9'.up (PPlus.le _ _ _)),(hr9''.up (PPlus.le _ _ _))⟩ (by first|rfl|assumption)) ?_))))))))))));intro _ H
 refine pe 6 Z (q3 ?_)
 refine W_cond Z ?_ ?_
 ·intro hc13
  try simp only[nrm]at hc13
  refine q2 (pe 2 Z (o_eql_same Z Z Z (mV Z (gR Z (lA 1 3 H Z4 (gR Z (lA 0 3 H Z4 (gR Z (xr H Z2 (w_sameDisk_c _ _ (H.lendSubL [2,3,4]) _ (Sp.jdisk uV uJ) ⟨_,_,_,_,_,_,_,_,_,Z,(H.lendOHs (k:=2) (ks:=[2,3,4]) Z Z ⟨_,p15⟩),(H.lendOIs (k:=3) (ks:=[2,3,4]) Z Z ⟨_,p25⟩),(H.lendOSn (k:=4) (ks:=[2,3,4]) Z Z ⟨_,p35⟩)⟩ _ (Sp.jdisk uV uJ) ⟨_,_,_,_,_,_,_,_,_,Z,(hr9.up (PPlus.le _ _ _)),(hr9'.up (PPlus.le _ _ _)),(hr9''.up (PPlus.le _ _ _))⟩ (by first|rfl|assumption)) ?_)))))))));intro _ H
  refine pe 2 Z (q3 (W_ret (N_K_ret (rt1 results10 Z ?_))))
  exact H.rets (congrArg Value.bool (by first|rfl|(simp only[decide_eq_true_eq];omega)|simp_all))
 intro hc13'
 try simp only[nrm]at hc13'
 refine W_skip (N_K (q2 ?_))
 obtain⟨jn,_,_,_,_,_,hj6,hj7⟩:=Sp.j_law (d:=uV) (l:=uJ) oM
 refine lA 5 3 H Z4 (xal H Z ?_);intro b15 _ _ H
 refine xst 0 H Z8 ?_;intro _ H
 refine q3 (W_seq (q2 (aG Z (q3 (W_block ?_)))))
 have H:=H.dl 1
 have H:=H.dl 5
 have H:=H.tF 4
 have H:=H.tF 4
 have H:=H.tF 4
 have H:=H.tF 4
 have H:=H.tF 4
 have hnd17:=dm_nodup H (k:=2) rfl;obtain⟨_,H,hsg17,hsf17⟩:=H.keepF (k:=2) rfl (by simp);have hsr17:=(show OHs _ _ _ from⟨_,p15⟩).rd hsf17 hnd17
 have hr2:=hr2.up hsg17
 have hr2':=hr2'.up hsg17
 have hr2'':=hr2''.up hsg17
 have hJ:=hJ.up hsg17
 have hnd18:=dm_nodup H (k:=2) rfl;obtain⟨_,H,hsg18,hsf18⟩:=H.keepF (k:=2) rfl (by simp);have hsr18:=(show OIs _ _ _ from⟨_,p25⟩).rd hsf18 hnd18
 have hr2:=hr2.up hsg18
 have hr2':=hr2'.up hsg18
 have hr2'':=hr2''.up hsg18
 have hJ:=hJ.up hsg18
 have hsr17:=hsr17.up hsg18
 have hnd19:=dm_nodup H (k:=2) rfl;obtain⟨G19,H,hsg19,hsf19⟩:=H.keepF (k:=2) rfl (by simp);have hsr19:=(show OSn _ _ _ from⟨_,p35⟩).rd hsf19 hnd19
 have hr2:=hr2.up hsg19
 have hr2':=hr2'.up hsg19
 have hr2'':=hr2''.up hsg19
 have hJ:=hJ.up hsg19
 have hsr17:=hsr17.up hsg19
 have hsr18:=hsr18.up hsg19
 obtain⟨ln20,hln20,H⟩:=H.name (k:=1) rfl
 refine W_lp (hf:=(Sub.cons (t:=4) Z (Sub.cons (t:=5) Z (Sub.cons (t:=6) Z (Sub.cons (t:=9) Z Sub.nil))))) (J:=fun M w m=>∃(k:Nat) (va vb vc:Value) (st:List BHeld) (tr:List BItem) (sn:List BSnap) (G:PH),M=[(10,.int .i64 (k:Int))]∧PLe G19 G∧Hp w0 G0 [] w G [blk b15 (cl [va,vb,vc] 27),blk b6 (cl ln20 27)]∧(k≤jn∧Sp.foldB Sp.OpRun (uJ.take k) (some uV)=some ⟨st,tr,sn⟩∧RdH G va st∧RdItems G vb tr∧RdSn G vc sn)∧m=(jn-k)) (h0:=⟨0,_,_,_,uV.store,uV.tree,uV.snaps,_,Z,PLe.refl _,H,?inv,Z⟩) (round:=?round)
 case inv=>exact⟨by omega,rfl,hr2,hr2',hr2''⟩
 case round =>
  rintro _ _ _ ⟨k,va,vb,vc,st,tr,sn,G21,rfl,hle21,H,hinv21,rfl⟩
  subst hln20
  have hJ:=hJ.up hle21
  have hsr17:=hsr17.up hle21
  have hsr18:=hsr18.up hle21
  have hsr19:=hsr19.up hle21
  obtain⟨_,hJf,hst,htr,hsn⟩:=hinv21;obtain⟨_,_,rfl⟩:=hst.shape;have hlhst:_≤1099511627776:=hst.lim;obtain⟨_,_,rfl⟩:=htr.shape;have hlhtr:_≤1099511627776:=htr.lim;obtain⟨_,_,rfl⟩:=hsn.shape;have hlhsn:_≤1099511627776:=hsn.lim
  refine W_seq (q2 (pe 3 Z (q3 ?_)))
  refine W_cond Z ?_ ?_
  ·intro hc22
   try simp only[nrm]at hc22
   refine W_skip (N_K (W_seq (W_block (W_seq (W_drawK [0,1] 12 H kR Z ?_)))));intro _ H;have hd23:=PLe.refl G21
   refine RD_t 0 Z kR Z (fun _ hK=>v_loadagg_B 0 hK isAgg27 sizeOf27 Z Z Z Z) (dE 1 Z2 (dE 2 Z2 ?_))
   have hl24:=hJ.len
   obtain⟨_,_,z24,_,ha24,hz24,hq24,hE24,hrow24,_⟩:=hJ.at (i:=k) oM
   clear hq24
   obtain⟨_,_,_,rfl,_,hi24,hr24⟩:=hE24;have hy_hi24:_≤16777216:=hi24;have hn_hr24:=hr24.len;have hx_hr24:_≤1099511627776:=hr24.lim
   refine dI 3 3 k ha24 Z3 Z (RD_t 4 Z kR Z (fun _ hK=>v_loadagg_P hK isAgg53 sizeOf53 Z hrow24 Z) ?_)
   refine r2 5 9 Z2 ?_ ?_
   ·skip
    refine xc Z2 (i_OpRun_c _ _ H.sub _ ⟨st,tr,sn⟩ ⟨_,_,_,_,_,_,_,_,_,Z,hst,htr,hsn⟩ _ z24 ⟨_,_,_,Z,⟨by first|omega|(dsimp only;omega),by first|omega|(dsimp only;omega)⟩,hi24,hr24⟩) ?_
    rintro _ _ ⟨_,_,rfl,H25',⟨_,_,_,_,_,_,rfl,rfl,ho125,ho225,ho325⟩⟩
    have H:=H.readers (fp:=[]) (by simp) (PLe.refl _) H25'
    obtain⟨_,p125⟩:=ho125
    obtain⟨_,_,rfl⟩:=OwnS.shape p125
    obtain⟨_,p225⟩:=ho225
    obtain⟨_,_,rfl⟩:=OwnS.shape p225
    obtain⟨_,p325⟩:=ho325
    obtain⟨_,_,rfl⟩:=OwnS.shape p325
    refine⟨_,Z,?_⟩
    refine q4 H hd23 (dE 6 Z2 (dE 7 Z2 (dE 8 Z2 (r1 9 Z (xal H Z ?_)))));intro _ _ _ H
    refine q4 H hd23 (r1 10 Z (xst 0 H Z8 ?_));intro _ H
    refine q4 H hd23 (dE 11 Z2 (rz (N_K (W_seq (q2 (pe 2 Z (q3 ?_)))))))
    refine W_cond Z ?_ ?_
    ·intro hc28
     try simp only[nrm]at hc28
     refine q2 (aG Z (q3 (W_ret (N_K_ret (N_B_ret (N_K_ret (N_LP_ret (N_B_ret (N_K_ret (rt1 results10 Z ?_))))))))))
     exact absurd (Sp.fold_split hj6 oM hJf hz24) (by simpa using hc28)
    intro hc28'
    try simp only[nrm]at hc28'
    refine W_skip (N_K (W_region (lA 0 3 H Z4 (xst 4 H Z8 ?_))));intro _ H
    refine R_nil (N_B (N_K (W_region (mV Z (aD Z2 (aG Z (R_nil ?_)))))))
    have hnd31:=dm_nodup H (k:=1) rfl;obtain⟨_,H,hsg31,hsf31⟩:=H.keepF (k:=1) rfl (by simp);have hsr31:=(show OHs _ _ _ from⟨_,p125⟩).rd hsf31 hnd31
    have hJ:=hJ.up hsg31
    have hle21:=hle21.trans hsg31
    have hnd32:=dm_nodup H (k:=1) rfl;obtain⟨_,H,hsg32,hsf32⟩:=H.keepF (k:=1) rfl (by simp);have hsr32:=(show OIs _ _ _ from⟨_,p225⟩).rd hsf32 hnd32
    have hJ:=hJ.up hsg32
    have hsr31:=hsr31.up hsg32
    have hle21:=hle21.trans hsg32
    have hnd33:=dm_nodup H (k:=1) rfl;obtain⟨_,H,hsg33,hsf33⟩:=H.keepF (k:=1) rfl (by simp);have hsr33:=(show OSn _ _ _ from⟨_,p325⟩).rd hsf33 hnd33
    have hJ:=hJ.up hsg33
    have hsr31:=hsr31.up hsg33
    have hsr32:=hsr32.up hsg33
    have hle21:=hle21.trans hsg33
    have H:=H.dl 0
    refine N_lp (hJ:=⟨k+1,_,_,_,((Sp.OpRun ⟨st,tr,sn⟩ z24).getD ⟨[],[],[]⟩).store,((Sp.OpRun ⟨st,tr,sn⟩ z24).getD ⟨[],[],[]⟩).tree,((Sp.OpRun ⟨st,tr,sn⟩ z24).getD ⟨[],[],[]⟩).snaps,_,Z,hle21,H,?inv,Z⟩) (hm:=?hm)
    case hm=>omega
    case inv=>exact⟨by omega,Sp.foldB_succ hJf hz24 (Sp.some_get (Sp.fold_split hj6 oM hJf hz24)),hsr31,hsr32,hsr33⟩
   skip
   refine xal H Z ?_;intro _ _ _ H
   refine q4 H hd23 (r1 5 Z ?_)
   refine xc Z2 (i_OpRun_c _ _ H.sub _ ⟨st,tr,sn⟩ ⟨_,_,_,_,_,_,_,_,_,Z,hst,htr,hsn⟩ _ z24 ⟨_,_,_,Z,⟨by first|omega|(dsimp only;omega),by first|omega|(dsimp only;omega)⟩,hi24,hr24⟩) ?_
   rintro _ _ ⟨_,_,rfl,H35',⟨_,_,_,_,_,_,rfl,rfl,ho135,ho235,ho335⟩⟩
   have H:=H.readers (fp:=[]) (by simp) (PLe.refl _) H35'
   obtain⟨_,p135⟩:=ho135
   obtain⟨_,_,rfl⟩:=OwnS.shape p135
   obtain⟨_,p235⟩:=ho235
   obtain⟨_,_,rfl⟩:=OwnS.shape p235
   obtain⟨_,p335⟩:=ho335
   obtain⟨_,_,rfl⟩:=OwnS.shape p335
   refine⟨_,Z,?_⟩
   refine q4 H hd23 (dE 6 Z2 (dE 7 Z2 (dE 8 Z2 (r1 10 Z (xst 3 H Z8 ?_)))));intro _ H
   refine q4 H hd23 (dE 11 Z2 (rz (N_K (W_seq (q2 (pe 2 Z (q3 ?_)))))))
   refine W_cond Z ?_ ?_
   ·intro hc37
    try simp only[nrm]at hc37
    refine q2 (aG Z (q3 (W_ret (N_K_ret (N_B_ret (N_K_ret (N_LP_ret (N_B_ret (N_K_ret (rt1 results10 Z ?_))))))))))
    exact absurd (Sp.fold_split hj6 oM hJf hz24) (by simpa using hc37)
   intro hc37'
   try simp only[nrm]at hc37'
   refine W_skip (N_K (W_region (lA 3 3 H Z4 (xst 4 H Z8 ?_))));intro _ H
   refine R_nil (N_B (N_K (W_region (mV Z (aD Z2 (aG Z (R_nil ?_)))))))
   have hnd40:=dm_nodup H (k:=0) rfl;obtain⟨_,H,hsg40,hsf40⟩:=H.keepF (k:=0) rfl (by simp);have hsr40:=(show OHs _ _ _ from⟨_,p135⟩).rd hsf40 hnd40
   have hJ:=hJ.up hsg40
   have hle21:=hle21.trans hsg40
   have hnd41:=dm_nodup H (k:=0) rfl;obtain⟨_,H,hsg41,hsf41⟩:=H.keepF (k:=0) rfl (by simp);have hsr41:=(show OIs _ _ _ from⟨_,p235⟩).rd hsf41 hnd41
   have hJ:=hJ.up hsg41
   have hsr40:=hsr40.up hsg41
   have hle21:=hle21.trans hsg41
   have hnd42:=dm_nodup H (k:=0) rfl;obtain⟨_,H,hsg42,hsf42⟩:=H.keepF (k:=0) rfl (by simp);have hsr42:=(show OSn _ _ _ from⟨_,p335⟩).rd hsf42 hnd42
   have hJ:=hJ.up hsg42
   have hsr40:=hsr40.up hsg42
   have hsr41:=hsr41.up hsg42
   have hle21:=hle21.trans hsg42
   have H:=H.dl 0
   refine N_lp (hJ:=⟨k+1,_,_,_,((Sp.OpRun ⟨st,tr,sn⟩ z24).getD ⟨[],[],[]⟩).store,((Sp.OpRun ⟨st,tr,sn⟩ z24).getD ⟨[],[],[]⟩).tree,((Sp.OpRun ⟨st,tr,sn⟩ z24).getD ⟨[],[],[]⟩).snaps,_,Z,hle21,H,?inv,Z⟩) (hm:=?hm)
   case hm=>omega
   case inv=>exact⟨by omega,Sp.foldB_succ hJf hz24 (Sp.some_get (Sp.fold_split hj6 oM hJf hz24)),hsr40,hsr41,hsr42⟩
  intro hc22'
  try simp only[nrm]at hc22'
  refine W_exit (N_K_exit (N_LP_exit (N_B_same (N_K (W_seq (q2 ?_))))))
  obtain rfl:k=jn:=by omega
  have hxe:(⟨st,tr,sn⟩:BDisk)=Sp.jdisk uV uJ:=Option.some.inj (hJf.symm.trans hj6)
  refine pe 2 Z (lN Z (pe 1 Z (q3 ?_)))
  refine W_cond Z ?_ ?_
  ·intro hc43
   try simp only[nrm]at hc43
   refine W_seq (W_drawK [0,1] 12 H kR Z ?_);intro _ H;have hd44:=PLe.refl G21
   refine RD_t 0 Z kR Z (fun _ hK=>v_loadagg_B 0 hK isAgg27 sizeOf27 Z Z Z Z) (dE 1 Z2 (dE 2 Z2 ?_))
   have hl45:=hJ.len
   obtain⟨_,_,z45,_,ha45,hz45,hq45,hE45,hrow45,_⟩:=hJ.at (i:=(k)) oM
   clear hq45
   obtain⟨_,_,_,rfl,_,hi45,hr45⟩:=hE45;have hy_hi45:_≤16777216:=hi45;have hn_hr45:=hr45.len;have hx_hr45:_≤1099511627776:=hr45.lim
   refine dI 3 3 (k) ha45 Z3 oM (RD_t 4 Z kR Z (fun _ hK=>v_loadagg_P hK isAgg53 sizeOf53 Z hrow45 Z) ?_)
   refine r2 5 9 Z2 ?_ ?_
   ·skip
    refine xc Z2 (i_OpRun_c _ _ H.sub _ ⟨st,tr,sn⟩ ⟨_,_,_,_,_,_,_,_,_,Z,hst,htr,hsn⟩ _ z45 ⟨_,_,_,Z,⟨by first|omega|(dsimp only;omega),by first|omega|(dsimp only;omega)⟩,hi45,hr45⟩) ?_
    rintro _ _ ⟨_,_,rfl,H46',⟨_,_,_,_,_,_,rfl,rfl,ho146,ho246,ho346⟩⟩
    have H:=H.readers (fp:=[]) (by simp) (PLe.refl _) H46'
    obtain⟨_,p146⟩:=ho146
    obtain⟨_,_,rfl⟩:=OwnS.shape p146
    obtain⟨_,p246⟩:=ho246
    obtain⟨_,_,rfl⟩:=OwnS.shape p246
    obtain⟨_,p346⟩:=ho346
    obtain⟨_,_,rfl⟩:=OwnS.shape p346
    refine⟨_,Z,?_⟩
    refine q4 H hd44 (dE 6 Z2 (dE 7 Z2 (dE 8 Z2 (r1 9 Z (xal H Z ?_)))));intro _ _ _ H
    refine q4 H hd44 (r1 10 Z (xst 0 H Z8 ?_));intro _ H
    refine q4 H hd44 (dE 11 Z2 (rz (N_K (q2 (mV Z (q3 ?_))))))
    refine W_cond Z ?_ ?_
    ·intro hc49
     try simp only[nrm]at hc49
     refine q2 (aG Z (q3 (W_ret (N_K_ret (rt1 results10 Z ?_)))))
     have h9:=hj7 _ hz45
     rw[←hxe]at h9
     simp[h9]at hc49
    intro hc49'
    try simp only[nrm]at hc49'
    refine W_skip (N_K (q2 (lA 4 3 H Z4 (lA 5 3 H Z4 (xr H Z2 (w_sameDisk_c _ _ H.sub _ ⟨st,tr,sn⟩ ⟨_,_,_,_,_,_,_,_,_,Z,hst,htr,hsn⟩ _ (Sp.jdisk uV uJ) ⟨_,_,_,_,_,_,_,_,_,Z,hsr17,hsr18,hsr19⟩ (by first|rfl|assumption)) ?_)))));intro _ H
    refine aG Z (q3 (W_ret (rt1 results10 Z ?_)))
    exact H.rets (congrArg Value.bool (by first|rfl|(simp only[decide_eq_true_eq];omega)|simp_all))
   skip
   refine xal H Z ?_;intro _ _ _ H
   refine q4 H hd44 (r1 5 Z ?_)
   refine xc Z2 (i_OpRun_c _ _ H.sub _ ⟨st,tr,sn⟩ ⟨_,_,_,_,_,_,_,_,_,Z,hst,htr,hsn⟩ _ z45 ⟨_,_,_,Z,⟨by first|omega|(dsimp only;omega),by first|omega|(dsimp only;omega)⟩,hi45,hr45⟩) ?_
   rintro _ _ ⟨_,_,rfl,H52',⟨_,_,_,_,_,_,rfl,rfl,ho152,ho252,ho352⟩⟩
   have H:=H.readers (fp:=[]) (by simp) (PLe.refl _) H52'
   obtain⟨_,p152⟩:=ho152
   obtain⟨_,_,rfl⟩:=OwnS.shape p152
   obtain⟨_,p252⟩:=ho252
   obtain⟨_,_,rfl⟩:=OwnS.shape p252
   obtain⟨_,p352⟩:=ho352
   obtain⟨_,_,rfl⟩:=OwnS.shape p352
   refine⟨_,Z,?_⟩
   refine q4 H hd44 (dE 6 Z2 (dE 7 Z2 (dE 8 Z2 (r1 10 Z (xst 3 H Z8 ?_)))));intro _ H
   refine q4 H hd44 (dE 11 Z2 (rz (N_K (q2 (mV Z (q3 ?_))))))
   refine W_cond Z ?_ ?_
   ·intro hc54
    try simp only[nrm]at hc54
    refine q2 (aG Z (q3 (W_ret (N_K_ret (rt1 results10 Z ?_)))))
    have h9:=hj7 _ hz45
    rw[←hxe]at h9
    simp[h9]at hc54
   intro hc54'
   try simp only[nrm]at hc54'
   refine W_skip (N_K (q2 (lA 4 3 H Z4 (lA 5 3 H Z4 (xr H Z2 (w_sameDisk_c _ _ H.sub _ ⟨st,tr,sn⟩ ⟨_,_,_,_,_,_,_,_,_,Z,hst,htr,hsn⟩ _ (Sp.jdisk uV uJ) ⟨_,_,_,_,_,_,_,_,_,Z,hsr17,hsr18,hsr19⟩ (by first|rfl|assumption)) ?_)))));intro _ H
   refine aG Z (q3 (W_ret (rt1 results10 Z ?_)))
   exact H.rets (congrArg Value.bool (by first|rfl|(simp only[decide_eq_true_eq];omega)|simp_all))
  intro hc43'
  try simp only[nrm]at hc43'
  refine W_skip (N_K (q2 (lA 0 3 H Z4 (lA 1 3 H Z4 (xr H Z2 (w_sameDisk_c _ _ H.sub _ ⟨st,tr,sn⟩ ⟨_,_,_,_,_,_,_,_,_,Z,hst,htr,hsn⟩ _ (Sp.jdisk uV uJ) ⟨_,_,_,_,_,_,_,_,_,Z,hsr17,hsr18,hsr19⟩ (by first|rfl|assumption)) ?_)))));intro _ H
  refine aG Z (q3 (W_ret (rt1 results10 Z ?_)))
  exact H.rets (congrArg Value.bool (by first|rfl|(simp only[decide_eq_true_eq];omega)|simp_all))
theorem lJournalOn_c (w0:World)(G0:PH)(hG:PSub G0 w0)(vcode:Value)(code:List (UInt8))(hcode:RdU G0 vcode code)(vmore:Value)(more:List (UInt8))(hmore:RdU G0 vmore more) :
  Calls Tryz.prog 11 #[vcode,vmore] w0 (Rets w0 (.bool true)):=by
 obtain⟨acode,kcode,rfl⟩:=hcode.shape
 have hlimcode:code.length≤1099511627776:=hcode.lim
 obtain⟨amore,kmore,rfl⟩:=hmore.shape
 have hlimmore:more.length≤1099511627776:=hmore.lim
 have H:=Hp.init hG
 refine calls_of_W (l:=[.slice acode code.length kcode,.slice amore more.length kmore]) func11 Z ntmps11 Z (q2 (aG Z (q3 (W_seq (q2 (mV Z (lN Z (pe 2 Z ?_))))))))
 refine R_case (t:=19) Z ?_ ?_
 ·intro hc1
  try simp only[nrm]at hc1
  refine pe 4 Z (q3 (W_true Z (q2 (aG Z (q3 (W_ret (N_K_ret (rt1 results11 Z ?_))))))))
  exact H.rets (congrArg Value.bool (by first|rfl|(simp only[decide_eq_true_eq];omega)|assumption))
 intro hc1'
 try simp only[nrm]at hc1'
 refine pe 1 Z (gR Z (lN Z (pe 2 Z (q3 ?_))))
 refine W_cond Z ?_ ?_
 ·intro hc2
  try simp only[nrm]at hc2
  refine q2 (aG Z (q3 (W_ret (N_K_ret (rt1 results11 Z ?_)))))
  exact H.rets (congrArg Value.bool (by first|rfl|(simp only[decide_eq_true_eq];omega)|assumption))
 intro hc2'
 try simp only[nrm]at hc2'
 refine W_skip (N_K (q2 (mV Z (xc Z2 (DrawJournalRun_c _ _ H.sub _ _ hcode) ?_))))
 rintro _ _ ⟨_,_,g3,rfl,⟨_,uV,_,uJ,rfl,hV,hJ,_⟩⟩
 have H:=H.grow g3
 obtain⟨_,_,_,_,_,_,_,_,_,rfl,hr3,hr3',hr3'',⟨_,_⟩,⟨_,_⟩,_,_⟩:=ox hV
 obtain⟨_,_,rfl⟩:=hJ.shape;have hx_hJ:_≤1099511627776:=hJ.lim
 refine⟨_,Z,?_⟩
 refine pe 3 Z (xal H Z ?_);intro _ _ _ H
 refine xst 0 H Z8 ?_;intro _ H
 refine aG Z (q1 (lA 0 3 H Z4 (mV Z (xc Z2 (i_JournalRun_c _ _ H.sub _ uV ⟨_,_,_,_,_,_,_,_,_,Z,hr3,hr3',hr3''⟩ _ _ hJ) ?_))))
 rintro _ _ ⟨_,_,rfl,H6',⟨_,_,_,_,_,_,rfl,rfl,ho16,ho26,ho36⟩⟩
 have H:=H.readers (fp:=[]) (by simp) (PLe.refl _) H6'
 obtain⟨_,p16⟩:=ho16
 obtain⟨_,_,rfl⟩:=OwnS.shape p16
 obtain⟨_,p26⟩:=ho26
 obtain⟨_,_,rfl⟩:=OwnS.shape p26
 obtain⟨_,p36⟩:=ho36
 obtain⟨_,_,rfl⟩:=OwnS.shape p36
 refine⟨_,Z,?_⟩
 refine pe 3 Z (xal H Z ?_);intro _ _ _ H
 refine xst 0 H Z8 ?_;intro _ H
 refine aG Z (q1 (lA 4 3 H Z4 (mV Z (xc Z2 (JournalRun_c _ _ H.sub _ uV ⟨_,_,_,_,_,_,_,_,_,Z,hr3,hr3',hr3''⟩ _ _ hJ) ?_))))
 rintro _ _ ⟨G9,_,g9,rfl,_,rfl,hr9_0⟩
 have H:=H.grow g9
 have hr3:=hr3.up g9.le
 have hr3':=hr3'.up g9.le
 have hr3'':=hr3''.up g9.le
 have hJ:=hJ.up g9.le
 obtain⟨_,_,_,_,_,_,_,_,_,rfl,hr10,hr10',hr10'',⟨_,_⟩,⟨_,_⟩,_,_⟩:=ox hr9_0
 refine⟨_,Z,?_⟩
 refine pe 3 Z (xal H Z ?_);intro _ _ _ H
 refine xst 0 H Z8 ?_;intro _ H
 refine aG Z (q3 (W_seq (q2 (pe 2 Z (o_neq_same Z Z Z (mV Z (gR Z (lA 1 3 H Z4 (gR Z (lA 0 3 H Z4 (gR Z ?_)))))))))))
 refine xr H Z2 (w_sameDisk_c _ _ (H.lendSubL [2,3,4]) _ (Sp.jdisk uV uJ) ⟨_,_,_,_,_,_,_,_,_,Z,(H.lendOHs (k:=2) (ks:=[2,3,4]) Z Z ⟨_,p16⟩),(H.lendOIs (k:=3) (ks:=[2,3,4]) Z Z ⟨_,p26⟩),(H.lendOSn (k:=4) (ks:=[2,3,4]) Z Z ⟨_,p36⟩)⟩ _ (Sp.jdisk uV uJ) ⟨_,_,_,_,_,_,_,_,_,Z,(hr10.up (PPlus.le _ _ _)),(hr10'.up (PPlus.le _ _ _)),(hr10''.up (PPlus.le _ _ _))⟩ (by first|rfl|(rw[hdr];exact ho3))) ?_;intro _ H
 refine pe 5 Z (gR Z (lN Z (pe 2 Z (q3 ?_))))
 refine W_cond Z ?_ ?_
 ·intro hc14
  try simp only[nrm]at hc14
  refine q2 (pe 2 Z (o_eql_same Z Z Z (mV Z (gR Z (lA 1 3 H Z4 (gR Z (lA 0 3 H Z4 (gR Z ?_))))))))
  refine xr H Z2 (w_sameDisk_c _ _ (H.lendSubL [2,3,4]) _ (Sp.jdisk uV uJ) ⟨_,_,_,_,_,_,_,_,_,Z,(H.lendOHs (k:=2) (ks:=[2,3,4]) Z Z ⟨_,p16⟩),(H.lendOIs (k:=3) (ks:=[2,3,4]) Z Z ⟨_,p26⟩),(H.lendOSn (k:=4) (ks:=[2,3,4]) Z Z ⟨_,p36⟩)⟩ _ (Sp.jdisk uV uJ) ⟨_,_,_,_,_,_,_,_,_,Z,(hr10.up (PPlus.le _ _ _)),(hr10'.up (PPlus.le _ _ _)),(hr10''.up (PPlus.le _ _ _))⟩ (by first|rfl|(rw[hdr];exact ho3))) ?_;intro _ H
  refine pe 2 Z (q3 (W_ret (N_K_ret (rt1 results11 Z ?_))))
  exact H.rets (congrArg Value.bool (by first|rfl|(simp only[decide_eq_true_eq];omega)|assumption))
 intro hc14'
 try simp only[nrm]at hc14'
 refine W_skip (N_K (q2 (mV Z (lN Z (mV Z (lN Z (aD Z2 (o_rem Z Z Z oM oM ?_))))))))
 obtain⟨kk,hkk⟩:∃kk:Nat,((more.length:Int) % ((uJ.length:Int)+1))=(kk:Int):=⟨_,(Int.toNat_of_nonneg (Int.emod_nonneg _ oM)).symm⟩
 have hkl:=Int.emod_lt_of_pos (more.length:Int) (show 0<(uJ.length:Int)+1 by omega)
 have hkl:kk≤uJ.length:=by (rw[hkk]at hkl;omega)
 obtain⟨ho1,ho2,ho3⟩:=Sp.j_on (d:=uV) (l:=uJ) (k:=kk) oM hkl
 have hdr:(uJ.drop kk).take (uJ.length-kk)=uJ.drop kk:=List.take_of_length_le (by simp)
 refine aG Z (q3 (W_seq (W_drawK [0,1,5] 11 H kR Z ?_)));intro _ H;have hd17:=PLe.refl G9
 refine RD_t 0 Z kR Z (fun _ hK=>v_loadagg_B 2 hK isAgg27 sizeOf27 Z Z Z Z) (dE 1 Z2 (dE 2 Z2 ?_))
 have hcap18:=hJ.cap;try simp only[List.length_set,List.length_append,List.length_take,List.length_drop,List.length_replicate]at hcap18
 have hsl18:=hJ.take (j:=(kk)) aN
 have hsn1:=hsl18.len
 refine RD_t 3 Z kR Z (fun _ hK=>v_slice_to (j:=(kk)) underlying65 sizeOf53 Z Z oM oM) ?_
 refine r2 4 8 Z2 ?_ ?_
 ·skip
  refine xc Z2 (i_JournalRun_c _ _ H.sub _ uV ⟨_,_,_,_,_,_,_,_,_,Z,hr3,hr3',hr3''⟩ _ _ hsl18) ?_
  rintro _ _ ⟨_,_,rfl,H19',⟨_,_,_,_,_,_,rfl,rfl,ho119,ho219,ho319⟩⟩
  have H:=H.readers (fp:=[]) (by simp) (PLe.refl _) H19'
  obtain⟨_,p119⟩:=ho119
  obtain⟨_,_,rfl⟩:=OwnS.shape p119
  obtain⟨_,p219⟩:=ho219
  obtain⟨_,_,rfl⟩:=OwnS.shape p219
  obtain⟨_,p319⟩:=ho319
  obtain⟨_,_,rfl⟩:=OwnS.shape p319
  refine⟨_,Z,?_⟩
  refine q4 H hd17 (dE 5 Z2 (dE 6 Z2 (dE 7 Z2 (r1 8 Z (xal H Z ?_)))));intro _ _ _ H
  refine q4 H hd17 (r1 9 Z (xst 0 H Z8 ?_));intro _ H
  refine q4 H hd17 (dE 10 Z2 (rz (N_K (W_seq (W_drawK [0,4,5,9] 11 H kR Z ?_)))));intro _ H;have hd22:=PLe.refl G9
  refine RD_t 0 Z kR Z (fun _ hK=>v_loadagg_B 0 hK isAgg27 sizeOf27 Z Z Z Z) (dE 1 Z2 (dE 2 Z2 ?_))
  have hcap23:=hJ.cap;try simp only[List.length_set,List.length_append,List.length_take,List.length_drop,List.length_replicate]at hcap23
  have hsl23:=hJ.part (i:=(kk)) (j:=_) oM (Nat.le_refl _)
  have hsn2:=hsl23.len
  refine RD_t 3 Z kR Z (fun _ hK=>v_slice_from (i:=(kk)) underlying65 sizeOf53 Z Z oM oM) ?_
  refine r2 4 8 Z2 ?_ ?_
  ·skip
   refine xc Z2 (i_JournalRun_c _ _ (H.lendSubL [1,2,3]) _ (Sp.jdisk uV (uJ.take kk)) ⟨_,_,_,_,_,_,_,_,_,Z,(H.lendOHs (k:=1) (ks:=[1,2,3]) Z Z ⟨_,p119⟩),(H.lendOIs (k:=2) (ks:=[1,2,3]) Z Z ⟨_,p219⟩),(H.lendOSn (k:=3) (ks:=[1,2,3]) Z Z ⟨_,p319⟩)⟩ _ _ (hsl23.up (PPlus.le _ _ _))) ?_
   rintro _ _ ⟨_,_,rfl,H24',⟨_,_,_,_,_,_,rfl,rfl,ho124,ho224,ho324⟩⟩
   have H:=H.readersL H24'
   obtain⟨_,p124⟩:=ho124
   obtain⟨_,_,rfl⟩:=OwnS.shape p124
   obtain⟨_,p224⟩:=ho224
   obtain⟨_,_,rfl⟩:=OwnS.shape p224
   obtain⟨_,p324⟩:=ho324
   obtain⟨_,_,rfl⟩:=OwnS.shape p324
   refine⟨_,Z,?_⟩
   refine q4 H hd22 (dE 5 Z2 (dE 6 Z2 (dE 7 Z2 (r1 8 Z (xal H Z ?_)))));intro _ _ _ H
   refine q4 H hd22 (r1 9 Z (xst 0 H Z8 ?_));intro _ H
   refine q4 H hd22 (dE 10 Z2 (rz (N_K (q2 (pe 4 Z ?_)))))
   refine R_case (t:=89) Z ?_ ?_
   ·intro hc27
    try simp only[nrm]at hc27
    refine pe 2 Z (gR Z (lN Z (pe 1 Z (gR Z (o_sub Z Z Z oO (pe 3 Z ?_))))))
    refine R_case (t:=97) Z ?_ ?_
    ·intro hc29
     try simp only[nrm]at hc29
     refine gR Z (lA 0 3 H Z4 (gR Z (lA 9 3 H Z4 (gR Z ?_))))
     refine xr H Z2 (w_sameDisk_c _ _ (H.lendSubL [1,2,3,10,11,12]) _ (Sp.jdisk (Sp.jdisk uV (uJ.take kk)) ((uJ.drop kk).take (uJ.length-kk))) ⟨_,_,_,_,_,_,_,_,_,Z,(H.lendOHs (k:=1) (ks:=[1,2,3,10,11,12]) Z Z ⟨_,p124⟩),(H.lendOIs (k:=2) (ks:=[1,2,3,10,11,12]) Z Z ⟨_,p224⟩),(H.lendOSn (k:=3) (ks:=[1,2,3,10,11,12]) Z Z ⟨_,p324⟩)⟩ _ (Sp.jdisk uV uJ) ⟨_,_,_,_,_,_,_,_,_,Z,(H.lendOHs (k:=10) (ks:=[1,2,3,10,11,12]) Z Z ⟨_,p16⟩),(H.lendOIs (k:=11) (ks:=[1,2,3,10,11,12]) Z Z ⟨_,p26⟩),(H.lendOSn (k:=12) (ks:=[1,2,3,10,11,12]) Z Z ⟨_,p36⟩)⟩ (by first|rfl|(rw[hdr];exact ho3))) ?_;intro _ H
     refine pe 2 Z (q3 (W_ret (rt1 results11 Z ?_)))
     exact H.rets (congrArg Value.bool (by first|rfl|(simp only[decide_eq_true_eq];omega)|assumption))
    intro hc29'
    try simp only[nrm]at hc29'
    exact absurd (show False from by first|omega|exact hc29' (ho1.trans hkk.symm)|exact hc29' (by rw[hdr,ho2,hkk])) id
   intro hc27'
   try simp only[nrm]at hc27'
   exact absurd (show False from by first|omega|exact hc27' (ho1.trans hkk.symm)|exact hc27' (by rw[hdr,ho2,hkk])) id
  skip
  refine xal H Z ?_;intro _ _ _ H
  refine q4 H hd22 (r1 4 Z (xc Z2 (i_JournalRun_c _ _ (H.lendSubL [2,3,4]) _ (Sp.jdisk uV (uJ.take kk)) ⟨_,_,_,_,_,_,_,_,_,Z,(H.lendOHs (k:=2) (ks:=[2,3,4]) Z Z ⟨_,p119⟩),(H.lendOIs (k:=3) (ks:=[2,3,4]) Z Z ⟨_,p219⟩),(H.lendOSn (k:=4) (ks:=[2,3,4]) Z Z ⟨_,p319⟩)⟩ _ _ (hsl23.up (PPlus.le _ _ _))) ?_))
  rintro _ _ ⟨_,_,rfl,H32',⟨_,_,_,_,_,_,rfl,rfl,ho132,ho232,ho332⟩⟩
  have H:=H.readersL H32'
  obtain⟨_,p132⟩:=ho132
  obtain⟨_,_,rfl⟩:=OwnS.shape p132
  obtain⟨_,p232⟩:=ho232
  obtain⟨_,_,rfl⟩:=OwnS.shape p232
  obtain⟨_,p332⟩:=ho332
  obtain⟨_,_,rfl⟩:=OwnS.shape p332
  refine⟨_,Z,?_⟩
  refine q4 H hd22 (dE 5 Z2 (dE 6 Z2 (dE 7 Z2 (r1 9 Z (xst 3 H Z8 ?_)))));intro _ H
  refine q4 H hd22 (dE 10 Z2 (rz (N_K (q2 (pe 4 Z ?_)))))
  refine R_case (t:=89) Z ?_ ?_
  ·intro hc34
   try simp only[nrm]at hc34
   refine pe 2 Z (gR Z (lN Z (pe 1 Z (gR Z (o_sub Z Z Z oO (pe 3 Z ?_))))))
   refine R_case (t:=97) Z ?_ ?_
   ·intro hc36
    try simp only[nrm]at hc36
    refine gR Z (lA 3 3 H Z4 (gR Z (lA 9 3 H Z4 (gR Z ?_))))
    refine xr H Z2 (w_sameDisk_c _ _ (H.lendSubL [0,1,2,10,11,12]) _ (Sp.jdisk (Sp.jdisk uV (uJ.take kk)) ((uJ.drop kk).take (uJ.length-kk))) ⟨_,_,_,_,_,_,_,_,_,Z,(H.lendOHs (k:=0) (ks:=[0,1,2,10,11,12]) Z Z ⟨_,p132⟩),(H.lendOIs (k:=1) (ks:=[0,1,2,10,11,12]) Z Z ⟨_,p232⟩),(H.lendOSn (k:=2) (ks:=[0,1,2,10,11,12]) Z Z ⟨_,p332⟩)⟩ _ (Sp.jdisk uV uJ) ⟨_,_,_,_,_,_,_,_,_,Z,(H.lendOHs (k:=10) (ks:=[0,1,2,10,11,12]) Z Z ⟨_,p16⟩),(H.lendOIs (k:=11) (ks:=[0,1,2,10,11,12]) Z Z ⟨_,p26⟩),(H.lendOSn (k:=12) (ks:=[0,1,2,10,11,12]) Z Z ⟨_,p36⟩)⟩ (by first|rfl|(rw[hdr];exact ho3))) ?_;intro _ H
    refine pe 2 Z (q3 (W_ret (rt1 results11 Z ?_)))
    exact H.rets (congrArg Value.bool (by first|rfl|(simp only[decide_eq_true_eq];omega)|assumption))
   intro hc36'
   try simp only[nrm]at hc36'
   exact absurd (show False from by first|omega|exact hc36' (ho1.trans hkk.symm)|exact hc36' (by rw[hdr,ho2,hkk])) id
  intro hc34'
  try simp only[nrm]at hc34'
  exact absurd (show False from by first|omega|exact hc34' (ho1.trans hkk.symm)|exact hc34' (by rw[hdr,ho2,hkk])) id
 skip
 refine xal H Z ?_;intro _ _ _ H
 refine q4 H hd17 (r1 4 Z (xc Z2 (i_JournalRun_c _ _ H.sub _ uV ⟨_,_,_,_,_,_,_,_,_,Z,hr3,hr3',hr3''⟩ _ _ hsl18) ?_))
 rintro _ _ ⟨_,_,rfl,H39',⟨_,_,_,_,_,_,rfl,rfl,ho139,ho239,ho339⟩⟩
 have H:=H.readers (fp:=[]) (by simp) (PLe.refl _) H39'
 obtain⟨_,p139⟩:=ho139
 obtain⟨_,_,rfl⟩:=OwnS.shape p139
 obtain⟨_,p239⟩:=ho239
 obtain⟨_,_,rfl⟩:=OwnS.shape p239
 obtain⟨_,p339⟩:=ho339
 obtain⟨_,_,rfl⟩:=OwnS.shape p339
 refine⟨_,Z,?_⟩
 refine q4 H hd17 (dE 5 Z2 (dE 6 Z2 (dE 7 Z2 (r1 9 Z (xst 3 H Z8 ?_)))));intro _ H
 refine q4 H hd17 (dE 10 Z2 (rz (N_K (W_seq (W_drawK [3,4,5,9] 11 H kR Z ?_)))));intro _ H;have hd41:=PLe.refl G9
 refine RD_t 0 Z kR Z (fun _ hK=>v_loadagg_B 0 hK isAgg27 sizeOf27 Z Z Z Z) (dE 1 Z2 (dE 2 Z2 ?_))
 have hcap42:=hJ.cap;try simp only[List.length_set,List.length_append,List.length_take,List.length_drop,List.length_replicate]at hcap42
 have hsl42:=hJ.part (i:=(kk)) (j:=_) oM (Nat.le_refl _)
 have hsn3:=hsl42.len
 refine RD_t 3 Z kR Z (fun _ hK=>v_slice_from (i:=(kk)) underlying65 sizeOf53 Z Z oM oM) ?_
 refine r2 4 8 Z2 ?_ ?_
 ·skip
  refine xc Z2 (i_JournalRun_c _ _ (H.lendSubL [0,1,2]) _ (Sp.jdisk uV (uJ.take kk)) ⟨_,_,_,_,_,_,_,_,_,Z,(H.lendOHs (k:=0) (ks:=[0,1,2]) Z Z ⟨_,p139⟩),(H.lendOIs (k:=1) (ks:=[0,1,2]) Z Z ⟨_,p239⟩),(H.lendOSn (k:=2) (ks:=[0,1,2]) Z Z ⟨_,p339⟩)⟩ _ _ (hsl42.up (PPlus.le _ _ _))) ?_
  rintro _ _ ⟨_,_,rfl,H43',⟨_,_,_,_,_,_,rfl,rfl,ho143,ho243,ho343⟩⟩
  have H:=H.readersL H43'
  obtain⟨_,p143⟩:=ho143
  obtain⟨_,_,rfl⟩:=OwnS.shape p143
  obtain⟨_,p243⟩:=ho243
  obtain⟨_,_,rfl⟩:=OwnS.shape p243
  obtain⟨_,p343⟩:=ho343
  obtain⟨_,_,rfl⟩:=OwnS.shape p343
  refine⟨_,Z,?_⟩
  refine q4 H hd41 (dE 5 Z2 (dE 6 Z2 (dE 7 Z2 (r1 8 Z (xal H Z ?_)))));intro _ _ _ H
  refine q4 H hd41 (r1 9 Z (xst 0 H Z8 ?_));intro _ H
  refine q4 H hd41 (dE 10 Z2 (rz (N_K (q2 (pe 4 Z ?_)))))
  refine R_case (t:=89) Z ?_ ?_
  ·intro hc46
   try simp only[nrm]at hc46
   refine pe 2 Z (gR Z (lN Z (pe 1 Z (gR Z (o_sub Z Z Z oO (pe 3 Z ?_))))))
   refine R_case (t:=97) Z ?_ ?_
   ·intro hc48
    try simp only[nrm]at hc48
    refine gR Z (lA 0 3 H Z4 (gR Z (lA 9 3 H Z4 (gR Z ?_))))
    refine xr H Z2 (w_sameDisk_c _ _ (H.lendSubL [1,2,3,10,11,12]) _ (Sp.jdisk (Sp.jdisk uV (uJ.take kk)) ((uJ.drop kk).take (uJ.length-kk))) ⟨_,_,_,_,_,_,_,_,_,Z,(H.lendOHs (k:=1) (ks:=[1,2,3,10,11,12]) Z Z ⟨_,p143⟩),(H.lendOIs (k:=2) (ks:=[1,2,3,10,11,12]) Z Z ⟨_,p243⟩),(H.lendOSn (k:=3) (ks:=[1,2,3,10,11,12]) Z Z ⟨_,p343⟩)⟩ _ (Sp.jdisk uV uJ) ⟨_,_,_,_,_,_,_,_,_,Z,(H.lendOHs (k:=10) (ks:=[1,2,3,10,11,12]) Z Z ⟨_,p16⟩),(H.lendOIs (k:=11) (ks:=[1,2,3,10,11,12]) Z Z ⟨_,p26⟩),(H.lendOSn (k:=12) (ks:=[1,2,3,10,11,12]) Z Z ⟨_,p36⟩)⟩ (by first|rfl|(rw[hdr];exact ho3))) ?_;intro _ H
    refine pe 2 Z (q3 (W_ret (rt1 results11 Z ?_)))
    exact H.rets (congrArg Value.bool (by first|rfl|(simp only[decide_eq_true_eq];omega)|assumption))
   intro hc48'
   try simp only[nrm]at hc48'
   exact absurd (show False from by first|omega|exact hc48' (ho1.trans hkk.symm)|exact hc48' (by rw[hdr,ho2,hkk])) id
  intro hc46'
  try simp only[nrm]at hc46'
  exact absurd (show False from by first|omega|exact hc46' (ho1.trans hkk.symm)|exact hc46' (by rw[hdr,ho2,hkk])) id
 skip
 refine xal H Z ?_;intro _ _ _ H
 refine q4 H hd41 (r1 4 Z (xc Z2 (i_JournalRun_c _ _ (H.lendSubL [1,2,3]) _ (Sp.jdisk uV (uJ.take kk)) ⟨_,_,_,_,_,_,_,_,_,Z,(H.lendOHs (k:=1) (ks:=[1,2,3]) Z Z ⟨_,p139⟩),(H.lendOIs (k:=2) (ks:=[1,2,3]) Z Z ⟨_,p239⟩),(H.lendOSn (k:=3) (ks:=[1,2,3]) Z Z ⟨_,p339⟩)⟩ _ _ (hsl42.up (PPlus.le _ _ _))) ?_))
 rintro _ _ ⟨_,_,rfl,H51',⟨_,_,_,_,_,_,rfl,rfl,ho151,ho251,ho351⟩⟩
 have H:=H.readersL H51'
 obtain⟨_,p151⟩:=ho151
 obtain⟨_,_,rfl⟩:=OwnS.shape p151
 obtain⟨_,p251⟩:=ho251
 obtain⟨_,_,rfl⟩:=OwnS.shape p251
 obtain⟨_,p351⟩:=ho351
 obtain⟨_,_,rfl⟩:=OwnS.shape p351
 refine⟨_,Z,?_⟩
 refine q4 H hd41 (dE 5 Z2 (dE 6 Z2 (dE 7 Z2 (r1 9 Z (xst 3 H Z8 ?_)))));intro _ H
 refine q4 H hd41 (dE 10 Z2 (rz (N_K (q2 (pe 4 Z ?_)))))
 refine R_case (t:=89) Z ?_ ?_
 ·intro hc53
  try simp only[nrm]at hc53
  refine pe 2 Z (gR Z (lN Z (pe 1 Z (gR Z (o_sub Z Z Z oO (pe 3 Z ?_))))))
  refine R_case (t:=97) Z ?_ ?_
  ·intro hc55
   try simp only[nrm]at hc55
   refine gR Z (lA 3 3 H Z4 (gR Z (lA 9 3 H Z4 (gR Z ?_))))
   refine xr H Z2 (w_sameDisk_c _ _ (H.lendSubL [0,1,2,10,11,12]) _ (Sp.jdisk (Sp.jdisk uV (uJ.take kk)) ((uJ.drop kk).take (uJ.length-kk))) ⟨_,_,_,_,_,_,_,_,_,Z,(H.lendOHs (k:=0) (ks:=[0,1,2,10,11,12]) Z Z ⟨_,p151⟩),(H.lendOIs (k:=1) (ks:=[0,1,2,10,11,12]) Z Z ⟨_,p251⟩),(H.lendOSn (k:=2) (ks:=[0,1,2,10,11,12]) Z Z ⟨_,p351⟩)⟩ _ (Sp.jdisk uV uJ) ⟨_,_,_,_,_,_,_,_,_,Z,(H.lendOHs (k:=10) (ks:=[0,1,2,10,11,12]) Z Z ⟨_,p16⟩),(H.lendOIs (k:=11) (ks:=[0,1,2,10,11,12]) Z Z ⟨_,p26⟩),(H.lendOSn (k:=12) (ks:=[0,1,2,10,11,12]) Z Z ⟨_,p36⟩)⟩ (by first|rfl|(rw[hdr];exact ho3))) ?_;intro _ H
   refine pe 2 Z (q3 (W_ret (rt1 results11 Z ?_)))
   exact H.rets (congrArg Value.bool (by first|rfl|(simp only[decide_eq_true_eq];omega)|assumption))
  intro hc55'
  try simp only[nrm]at hc55'
  exact absurd (show False from by first|omega|exact hc55' (ho1.trans hkk.symm)|exact hc55' (by rw[hdr,ho2,hkk])) id
 intro hc53'
 try simp only[nrm]at hc53'
 exact absurd (show False from by first|omega|exact hc53' (ho1.trans hkk.symm)|exact hc53' (by rw[hdr,ho2,hkk])) id
end Go.Proofs.Tst
