/- Part 8 of the proof: contracts of functions of the program. Conditions: none. -/
import Derived.Test.YtmjchicclpbaeaaGreatDoorProg
import Derived.Test.YtmjchicclpbaeaaGreatDoorG02
import Derived.Test.YtmjchicclpbaeaaGreatDoorG03
import Derived.Test.YtmjchicclpbaeaaGreatDoorG04
import Derived.Test.YtmjchicclpbaeaaGreatDoorG07
import Derived.Test.YtmjchicclpbaeaaGreatDoorG05
import Derived.Test.YtmjchicclpbaeaaGreatDoorG06
set_option linter.all false
set_option maxRecDepth 100000
set_option maxHeartbeats 8000000
namespace Go.Proofs.Tst
open Go Fw Tryz
theorem i_changes_c (w0:World)(G0:PH)(hG:PSub G0 w0)(va:Value)(a:List (BItem))(ha:RdItems G0 va a)(vb:Value)(b:List (BItem))(hb:RdItems G0 vb b)(hla:a.length≤12)(hlb:b.length≤12) :
  Calls Tryz.prog 22 #[va,vb] w0 (RetP w0 G0 (fun G v=>RdS LIM chgX 1 G v ((Sp.chg a b).map Sp.chP))):=by
 obtain⟨aa,ka,rfl⟩:=ha.shape
 have hlima:a.length≤1099511627776:=ha.lim
 obtain⟨ab,kb,rfl⟩:=hb.shape
 have hlimb:b.length≤1099511627776:=hb.lim
 have H:=Hp.init hG
 refine calls_of_W (l:=[.slice aa a.length ka,.slice ab b.length kb]) func22 Z ntmps22 Z (q2 (aG Z (q1 (aG Z (q3 (W_seq (W_block ?_)))))))
 have H:=H.addNil 55 1
 refine W_lp (hf:=(Sub.cons (t:=4) Z Sub.nil)) (J:=fun M w m=>∃(v:Value) (n:Nat) (cs:List Value) (xs:List (BPart)) (i k:Nat) (va vb:Value) (G:PH),M=[(0,va),(1,vb),(5,v)]∧PLe G0 G∧Hp w0 G0 [] w G [acc 55 1 v n cs]∧(Chk chgX 1 G cs xs∧n=xs.length∧i≤a.length∧k≤b.length∧Sp.CG a b i k xs∧xs.length≤i+k∧RdItems G va (a.drop i)∧RdItems G vb (b.drop k))∧m=((a.length-i)+(b.length-k))) (h0:=⟨_,_,_,[],0,0,(.slice aa a.length ka),(.slice ab b.length kb),_,Z,PLe.refl _,H,?inv,Z⟩) (round:=?round)
 case inv=>exact⟨(Chk.nil (E:=chgX) (sz:=1) (G:=G0)),by first|rfl|simp|(simp;omega)|omega,(by exact⟨by omega,by omega,Sp.CG.zero,by simp,ha,hb⟩)⟩
 case round =>
  rintro _ _ _ ⟨v,n,cs,xs,i,k,va,vb,G2,rfl,hle2,H,hinv2,rfl⟩
  obtain⟨hchk2_0,_,hinv2⟩:=hinv2
  obtain⟨av2_0,cv2_0,rfl⟩:=H.accShape (k:=0) rfl
  obtain⟨_,_,hcg,_,hA,hB⟩:=hinv2;obtain⟨aA,kA,rfl⟩:=hA.shape;obtain⟨aB,kB,rfl⟩:=hB.shape;have hlA:(a.drop i).length=a.length-i:=List.length_drop;have hlB:(b.drop k).length=b.length-k:=List.length_drop
  refine W_seq ?_
  have hj3:=PLe.refl G2
  refine W_join (hf:=(Sub.cons (t:=0) Z (Sub.cons (t:=1) Z (Sub.cons (t:=4) Z (Sub.cons (t:=5) Z Sub.nil))))) (J:=fun M w=>∃(cc:Bool) (G:PH),M=[(13,.bool cc)]∧PLe G2 G∧Hp w0 G0 [] w G [acc 55 1 (.slice av2_0 n cv2_0) n cs]∧(cc=Sp.moreB a b i k)) (first:=?_) (second:=?_)
  ·skip
   refine W_region (mV Z (lN Z (pe 2 Z ?_)))
   refine R_case (t:=9) Z ?_ ?_
   ·intro hc4
    try simp only[nrm]at hc4
    refine pe 4 Z (R_nil ?_)
    refine N_J ⟨_,_,Z,hj3,H,?jinv⟩
    case jinv=>(unfold Sp.moreB;rw[Bool.eq_iff_iff];simp[List.length_drop]at *; omega)
   intro hc4'
   try simp only[nrm]at hc4'
   refine pe 1 Z (gR Z (lN Z (pe 2 Z (R_nil ?_))))
   refine N_J ⟨_,_,Z,hj3,H,?jinv⟩
   case jinv=>(unfold Sp.moreB;rw[Bool.eq_iff_iff];simp[List.length_drop]at *; omega)
  rintro _ _ ⟨cc,G3,rfl,hle3,H,hinv3⟩
  have hchk2_0:=hchk2_0.up hle3
  have hA:=hA.up hle3
  have hB:=hB.up hle3
  have hle2:=hle2.trans hle3
  obtain rfl:=hinv3
  refine W_cond Z ?_ ?_
  ·intro hc5
   try simp only[nrm]at hc5
   have hmB:=hc5
   refine W_skip (N_K (W_block (W_seq (W_block ?_))))
   have hj6:=PLe.refl G3
   refine W_join (hf:=(Sub.cons (t:=0) Z (Sub.cons (t:=1) Z (Sub.cons (t:=4) Z (Sub.cons (t:=5) Z Sub.nil))))) (J:=fun M w=>∃(cc:Bool) (G:PH),M=[(14,.bool cc)]∧PLe G3 G∧Hp w0 G0 [] w G [acc 55 1 (.slice av2_0 n cv2_0) n cs]∧(cc=Sp.goneB a b i k)) (first:=?_) (second:=?_)
   ·skip
    refine W_drawK [] 20 H kR Z ?_;intro _ H;have hd7:=PLe.refl G3
    refine dE 0 Z2 (dN 1 Z2 (dE 2 Z2 (dE 3 Z2 ?_)))
    refine RD_case (t:=18) Z ?_ ?_
    ·intro hc8
     try simp only[nrm]at hc8
     refine dE 4 Z2 (dE 5 Z2 (dE 6 Z2 (dE 7 Z2 (RD_pass 8 Z kR kR kR Z (yl_un Z Z) (RD_pass 9 Z kR kR kR Z (yl_un Z Z) (RD_pass 10 Z kR kR kR Z (yl_un Z Z) (RD_pass 11 Z kR kR kR Z (yl_un Z Z) (RD_pass 12 Z kR kR kR Z (yl_un Z Z) (RD_pass 13 Z kR kR kR Z (yl_un Z Z) (RD_pass 14 Z kR kR kR Z (yl_un Z Z) (RD_pass 15 Z kR kR kR Z (yl_un Z Z) (RD_pass 16 Z kR kR kR Z (yl_un Z Z) (dE 17 Z2 (dE 18 Z2 (dE 19 Z2 ?_)))))))))))))))
     refine rz ?_
     refine N_J ⟨_,_,Z,hj6,H,?jinv⟩
     case jinv=>first|exact Sp.goneB_t oM|exact Sp.goneB_f oM oM|skip
    intro hc8'
    try simp only[nrm]at hc8'
    refine dE 4 Z2 (dN 5 Z2 (dE 6 Z2 (dE 7 Z2 ?_)))
    refine RD_case (t:=22) Z ?_ ?_
    ·intro hc9
     try simp only[nrm]at hc9
     refine dE 8 Z2 ?_
     have hl10:=hA.len
     obtain⟨_,_,z10,_,ha10,hz10,hq10,hE10,hrow10,_⟩:=hA.at (i:=0) oM
     clear hq10
     obtain⟨_,_,_,rfl,_,_,_,_⟩:=ox hE10
     refine dI 9 3 0 ha10 Z3 Z (dF 10 0 Z2 (dP 11 hrow10 0 Z3 (dE 12 Z2 ?_)))
     have hl11:=hB.len
     obtain⟨_,_,z11,_,ha11,hz11,hq11,hE11,hrow11,_⟩:=hB.at (i:=0) oM
     clear hq11
     obtain⟨_,_,_,rfl,_,_,_,_⟩:=ox hE11
     refine dI 13 3 0 ha11 Z3 Z (dF 14 0 Z2 (dP 15 hrow11 0 Z3 (RD_tg 16 Z kR Z (yl Z Z) (fun _ hK=>v_slss Z Z) (dE 17 Z2 (dE 18 Z2 (dE 19 Z2 (rz ?_)))))))
     refine N_J ⟨_,_,Z,hj6,H,?jinv⟩
     case jinv=>first|exact Sp.goneB_t oM|exact Sp.goneB_f oM oM|exact Sp.goneB_c (by simpa [List.getElem?_drop] using hz10:a[i]? = some z10) (by simpa [List.getElem?_drop] using hz11:b[k]? = some z11) oM|exact Sp.goneB_c (by simpa [List.getElem?_drop] using hz11:a[i]? = some z11) (by simpa [List.getElem?_drop] using hz10:b[k]? = some z10) oM
    intro hc9'
    try simp only[nrm]at hc9'
    refine dE 8 Z2 (dE 9 Z2 (dE 10 Z2 (dE 11 Z2 (dE 12 Z2 (dE 13 Z2 (dE 14 Z2 (dE 15 Z2 (dE 16 Z2 (dE 17 Z2 (dE 18 Z2 (dE 19 Z2 (rz ?_))))))))))))
    refine N_J ⟨_,_,Z,hj6,H,?jinv⟩
    case jinv=>first|exact Sp.goneB_t oM|exact Sp.goneB_f oM oM|skip
   rintro _ _ ⟨cc,G6,rfl,hle6,H,hinv6⟩
   have hchk2_0:=hchk2_0.up hle6
   have hA:=hA.up hle6
   have hB:=hB.up hle6
   have hle2:=hle2.trans hle6
   obtain rfl:=hinv6
   refine W_cond Z ?_ ?_
   ·intro hc12
    try simp only[nrm]at hc12
    have hgB:=hc12
    have hia:=Sp.gone_lt hmB hgB
    refine q2 (pe 2 Z (iP 0 hA Z3 Z ?_));intro _ _ z13 _ hz13 hE13 hrow13
    obtain⟨_,_,_,rfl,hi13,hr13,_,_⟩:=ox hE13
    refine o_loadagg_P H isAgg66 sizeOf66 Z Z hrow13 Z (o_build bf121 Z Z Z (o_iface kR Z Z (xbs H Z7 ?_)));intro _ _ _ H
    refine o_append1 0 H (sz:=1) (bytes:=16) underlying51 typeInfo55 ⟨_,Z,Z⟩ Z Z Z Z Z Z Z Z Z Z oM Z ?_;intro _ _ H
    have hchk15:=hchk2_0.snoc (show chgX _ ⟨2,z13.path,z13.dir,z13.ids⟩ _ from⟨_,_,_,_,rfl,hi13,hr13,.inr (.inl ⟨rfl,rfl⟩)⟩) rfl
    obtain⟨_,_,rfl⟩:=H.accShape (k:=0) rfl
    refine aG Z (q1 (mV Z ?_))
    have hcap16:=hA.cap;try simp only[List.length_set,List.length_append,List.length_take,List.length_drop,List.length_replicate]at hcap16
    refine o_slice_from (i:=1) underlying24 sizeOf66 Z Z Z oM oM ?_
    have hsl16:=hA.part (i:=1) (j:=_) oM (Nat.le_refl _)
    have hsn1:=hsl16.len
    refine aG Z (q3 (W_exit (N_B_other Z (N_K_exit (N_B_same ?_)))))
    refine N_lp (hJ:=⟨_,_,_,(xs++[⟨2,z13.path,z13.dir,z13.ids⟩]),i+1,k,(.slice (if kA=1 then aA else aA.map (·.add (1*3))) ((a.drop i).length-1) (kA-1)),(.slice aB (b.drop k).length kB),_,Z,hle2,H,?inv,Z⟩) (hm:=?hm)
    case hm=>omega
    case inv=>exact⟨hchk15,aN,(by exact⟨by omega,by omega,hcg.step (c:=[⟨2,⟨z13.path,z13.dir,z13.ids⟩⟩]) (Sp.chg_goneB (by simpa [List.getElem?_drop] using hz13:a[i]? = some z13) hgB),by (simp;omega),(by have h9:=hsl16;rw[List.take_of_length_le (by simp;omega),List.drop_drop]at h9;exact h9),hB⟩)⟩
   intro hc12'
   try simp only[nrm]at hc12'
   have hgB':=hc12'
   have hkb:=Sp.new_lt hgB'
   have hj17:=PLe.refl G6
   refine W_join (hf:=(Sub.cons (t:=0) Z (Sub.cons (t:=1) Z (Sub.cons (t:=4) Z (Sub.cons (t:=5) Z Sub.nil))))) (J:=fun M w=>∃(cc:Bool) (G:PH),M=[(44,.bool cc)]∧PLe G6 G∧Hp w0 G0 [] w G [acc 55 1 (.slice av2_0 n cv2_0) n cs]∧(cc=Sp.newB a b i k)) (first:=?_) (second:=?_)
   ·skip
    refine W_drawK [] 15 H kR Z ?_;intro _ H;have hd18:=PLe.refl G6
    refine dE 0 Z2 (dN 1 Z2 (dE 2 Z2 (dE 3 Z2 ?_)))
    refine RD_case (t:=48) Z ?_ ?_
    ·intro hc19
     try simp only[nrm]at hc19
     refine dE 4 Z2 (dE 5 Z2 (dE 6 Z2 (dE 7 Z2 (dE 8 Z2 (dE 9 Z2 (dE 10 Z2 (dE 11 Z2 (dE 12 Z2 (dE 13 Z2 (dE 14 Z2 (rz ?_)))))))))))
     refine N_J ⟨_,_,Z,hj17,H,?jinv⟩
     case jinv=>first|exact Sp.newB_t oM|skip
    intro hc19'
    try simp only[nrm]at hc19'
    refine dE 4 Z2 ?_
    have hl20:=hB.len
    obtain⟨_,_,z20,_,ha20,hz20,hq20,hE20,hrow20,_⟩:=hB.at (i:=0) oM
    clear hq20
    obtain⟨_,_,_,rfl,_,_,_,_⟩:=ox hE20
    refine dI 5 3 0 ha20 Z3 Z (dF 6 0 Z2 (dP 7 hrow20 0 Z3 (dE 8 Z2 ?_)))
    have hl21:=hA.len
    obtain⟨_,_,z21,_,ha21,hz21,hq21,hE21,hrow21,_⟩:=hA.at (i:=0) oM
    clear hq21
    obtain⟨_,_,_,rfl,_,_,_,_⟩:=ox hE21
    refine dI 9 3 0 ha21 Z3 Z (dF 10 0 Z2 (dP 11 hrow21 0 Z3 (RD_tg 12 Z kR Z (yl Z Z) (fun _ hK=>v_slss Z Z) (dE 13 Z2 (dE 14 Z2 (rz ?_))))))
    refine N_J ⟨_,_,Z,hj17,H,?jinv⟩
    case jinv=>first|exact Sp.newB_t oM|exact Sp.newB_c (by simpa [List.getElem?_drop] using hz20:a[i]? = some z20) (by simpa [List.getElem?_drop] using hz21:b[k]? = some z21) oM|exact Sp.newB_c (by simpa [List.getElem?_drop] using hz21:a[i]? = some z21) (by simpa [List.getElem?_drop] using hz20:b[k]? = some z20) oM
   rintro _ _ ⟨cc,G17,rfl,hle17,H,hinv17⟩
   have hchk2_0:=hchk2_0.up hle17
   have hA:=hA.up hle17
   have hB:=hB.up hle17
   have hle2:=hle2.trans hle17
   obtain rfl:=hinv17
   refine W_cond Z ?_ ?_
   ·intro hc22
    try simp only[nrm]at hc22
    have hnB:=hc22
    refine q2 (pe 2 Z (iP 0 hB Z3 Z ?_));intro _ _ z23 _ hz23 hE23 hrow23
    obtain⟨_,_,_,rfl,hi23,hr23,_,_⟩:=ox hE23
    refine o_loadagg_P H isAgg66 sizeOf66 Z Z hrow23 Z (o_build bf122 Z Z Z (o_iface kR Z Z (xbs H Z7 ?_)));intro _ _ _ H
    refine o_append1 0 H (sz:=1) (bytes:=16) underlying51 typeInfo55 ⟨_,Z,Z⟩ Z Z Z Z Z Z Z Z Z Z oM Z ?_;intro _ _ H
    have hchk25:=hchk2_0.snoc (show chgX _ ⟨1,z23.path,z23.dir,z23.ids⟩ _ from⟨_,_,_,_,rfl,hi23,hr23,.inl ⟨rfl,rfl⟩⟩) rfl
    obtain⟨_,_,rfl⟩:=H.accShape (k:=0) rfl
    refine aG Z (q1 (mV Z ?_))
    have hcap26:=hB.cap;try simp only[List.length_set,List.length_append,List.length_take,List.length_drop,List.length_replicate]at hcap26
    refine o_slice_from (i:=1) underlying24 sizeOf66 Z Z Z oM oM ?_
    have hsl26:=hB.part (i:=1) (j:=_) oM (Nat.le_refl _)
    have hsn2:=hsl26.len
    refine aG Z (q3 (W_exit (N_B_other Z (N_K_exit (N_B_same ?_)))))
    refine N_lp (hJ:=⟨_,_,_,(xs++[⟨1,z23.path,z23.dir,z23.ids⟩]),i,k+1,(.slice aA (a.drop i).length kA),(.slice (if kB=1 then aB else aB.map (·.add (1*3))) ((b.drop k).length-1) (kB-1)),_,Z,hle2,H,?inv,Z⟩) (hm:=?hm)
    case hm=>omega
    case inv=>exact⟨hchk25,aN,(by exact⟨by omega,by omega,hcg.step (c:=[⟨1,⟨z23.path,z23.dir,z23.ids⟩⟩]) (Sp.chg_newB (by simpa [List.getElem?_drop] using hz23:b[k]? = some z23) hgB' hnB),by (simp;omega),hA,(by have h9:=hsl26;rw[List.take_of_length_le (by simp;omega),List.drop_drop]at h9;exact h9)⟩)⟩
   intro hc22'
   try simp only[nrm]at hc22'
   have hnB':=hc22'
   have hia:=Sp.both_lt hnB'
   refine W_seq (W_drawK [] 10 H kR Z ?_);intro _ H;have hd27:=PLe.refl G17
   refine dE 0 Z2 ?_
   have hl28:=hA.len
   obtain⟨_,_,z28,_,ha28,hz28,hq28,hE28,hrow28,_⟩:=hA.at (i:=0) oM
   clear hq28
   obtain⟨_,_,_,rfl,_,_,_,_⟩:=ox hE28
   refine dI 1 3 0 ha28 Z3 Z (dF 2 1 Z2 (dP 3 hrow28 1 Z3 (dE 4 Z2 ?_)))
   have hl29:=hB.len
   obtain⟨_,_,z29,_,ha29,hz29,hq29,hE29,hrow29,_⟩:=hB.at (i:=0) oM
   clear hq29
   obtain⟨_,_,_,rfl,_,_,_,_⟩:=ox hE29
   refine dI 5 3 0 ha29 Z3 Z (dF 6 1 Z2 (dP 7 hrow29 1 Z3 (RD_t 8 Z kR Z (fun _ hK=>v_bneq underlying4 Z Z) (dE 9 Z2 (rz (N_K ?_))))))
   refine W_cond Z ?_ ?_
   ·intro hc30
    try simp only[nrm]at hc30
    refine W_drawK [] 14 H kR Z ?_;intro _ H;have hd31:=PLe.refl G17
    refine dE 0 Z2 (dE 1 Z2 ?_)
    have hl32:=hA.len
    obtain⟨_,_,z32,_,ha32,hz32,hq32,hE32,hrow32,_⟩:=hA.at (i:=0) oM
    clear hq32
    obtain⟨_,_,_,rfl,hi32,hr32,_,_⟩:=ox hE32
    have hzz32:z28=z32:=Option.some.inj (hz28.symm.trans hz32)
    subst hzz32
    refine dI 2 3 0 ha32 Z3 Z (RD_t 3 Z kR Z (fun _ hK=>v_loadagg_P hK isAgg66 sizeOf66 Z hrow32 Z) (RD_t 4 Z kR Z (fun _ hK=>v_build bf121 Z Z) (dE 6 Z2 ?_)))
    have hl33:=hB.len
    obtain⟨_,_,z33,_,ha33,hz33,hq33,hE33,hrow33,_⟩:=hB.at (i:=0) oM
    clear hq33
    obtain⟨_,_,_,rfl,hi33,hr33,_,_⟩:=ox hE33
    have hzz33:z29=z33:=Option.some.inj (hz29.symm.trans hz33)
    subst hzz33
    refine dI 7 3 0 ha33 Z3 Z (RD_t 8 Z kR Z (fun _ hK=>v_loadagg_P hK isAgg66 sizeOf66 Z hrow33 Z) (RD_t 9 Z kR Z (fun _ hK=>v_build bf122 Z Z) ?_))
    refine r2 5 10 Z2 ?_ ?_
    ·skip
     refine o_iface kR Z Z (q4 H hd31 (r1 10 Z (o_iface kR Z Z (q4 H hd31 (r1 11 Z (xbs H Z7 ?_))))));intro _ _ _ H
     refine q4 H hd31 (r1 12 Z (o_append1 0 H (sz:=1) (bytes:=16) underlying51 typeInfo55 ⟨_,Z,Z⟩ Z Z Z Z Z Z Z Z Z Z oM Z ?_));intro _ _ H
     have hchk35:=hchk2_0.app (((Chk.nil (E:=chgX) (sz:=1) (G:=G17)).snoc (show chgX _ (⟨2,z28.path,z28.dir,z28.ids⟩) _ from⟨_,_,_,_,rfl,hi32,hr32,.inr (.inl ⟨rfl,rfl⟩)⟩) rfl).snoc (show chgX _ (⟨1,z29.path,z29.dir,z29.ids⟩) _ from⟨_,_,_,_,rfl,hi33,hr33,.inl ⟨rfl,rfl⟩⟩) rfl)
     obtain⟨_,_,rfl⟩:=H.accShape (k:=0) rfl
     refine q4 H hd31 (dE 13 Z2 (rz (N_B (N_K (W_drawK [] 6 H kR Z ?_)))));intro _ H;have hd36:=PLe.refl G17
     refine dE 0 Z2 ?_
     have hcap37:=hA.cap;try simp only[List.length_set,List.length_append,List.length_take,List.length_drop,List.length_replicate]at hcap37
     have hsl37:=hA.part (i:=1) (j:=_) oM (Nat.le_refl _)
     have hsn3:=hsl37.len
     refine RD_t 1 Z kR Z (fun _ hK=>v_slice_from (i:=1) underlying24 sizeOf66 Z Z oM oM) (dE 2 Z2 ?_)
     have hcap38:=hB.cap;try simp only[List.length_set,List.length_append,List.length_take,List.length_drop,List.length_replicate]at hcap38
     have hsl38:=hB.part (i:=1) (j:=_) oM (Nat.le_refl _)
     have hsn4:=hsl38.len
     refine RD_t 3 Z kR Z (fun _ hK=>v_slice_from (i:=1) underlying24 sizeOf66 Z Z oM oM) (dE 4 Z2 (dE 5 Z2 (rz (N_B ?_))))
     refine N_lp (hJ:=⟨_,_,_,(xs++[⟨2,z28.path,z28.dir,z28.ids⟩,⟨1,z29.path,z29.dir,z29.ids⟩]),i+1,k+1,(.slice (if kA=1 then aA else aA.map (·.add (1*3))) ((a.drop i).length-1) (kA-1)),(.slice (if kB=1 then aB else aB.map (·.add (1*3))) ((b.drop k).length-1) (kB-1)),_,Z,hle2,H,?inv,Z⟩) (hm:=?hm)
     case hm=>omega
     case inv=>exact⟨hchk35,aN,(by exact⟨by omega,by omega,hcg.step (c:=[⟨2,z28⟩,⟨1,z29⟩]) (Sp.chg_kind (by simpa [List.getElem?_drop] using hz28:a[i]? = some z28) (by simpa [List.getElem?_drop] using hz29:b[k]? = some z29) (Sp.goneB_no (by simpa [List.getElem?_drop] using hz28:a[i]? = some z28) (by simpa [List.getElem?_drop] using hz29:b[k]? = some z29) hgB') (Sp.newB_no (by simpa [List.getElem?_drop] using hz28:a[i]? = some z28) (by simpa [List.getElem?_drop] using hz29:b[k]? = some z29) hnB') (by simpa using hc30)),by (simp;omega),(by have h9:=hsl37;rw[List.take_of_length_le (by simp;omega),List.drop_drop]at h9;exact h9),(by have h9:=hsl38;rw[List.take_of_length_le (by simp;omega),List.drop_drop]at h9;exact h9)⟩)⟩
    skip
    refine o_iface kR Z Z (q4 H hd31 (r1 5 Z (o_iface kR Z Z (q4 H hd31 (r1 11 Z (xbs H Z7 ?_))))));intro _ _ _ H
    refine q4 H hd31 (r1 12 Z (o_append1 0 H (sz:=1) (bytes:=16) underlying51 typeInfo55 ⟨_,Z,Z⟩ Z Z Z Z Z Z Z Z Z Z oM Z ?_));intro _ _ H
    have hchk40:=hchk2_0.app (((Chk.nil (E:=chgX) (sz:=1) (G:=G17)).snoc (show chgX _ (⟨2,z28.path,z28.dir,z28.ids⟩) _ from⟨_,_,_,_,rfl,hi32,hr32,.inr (.inl ⟨rfl,rfl⟩)⟩) rfl).snoc (show chgX _ (⟨1,z29.path,z29.dir,z29.ids⟩) _ from⟨_,_,_,_,rfl,hi33,hr33,.inl ⟨rfl,rfl⟩⟩) rfl)
    obtain⟨_,_,rfl⟩:=H.accShape (k:=0) rfl
    refine q4 H hd31 (dE 13 Z2 (rz (N_B (N_K (W_drawK [] 6 H kR Z ?_)))));intro _ H;have hd41:=PLe.refl G17
    refine dE 0 Z2 ?_
    have hcap42:=hA.cap;try simp only[List.length_set,List.length_append,List.length_take,List.length_drop,List.length_replicate]at hcap42
    have hsl42:=hA.part (i:=1) (j:=_) oM (Nat.le_refl _)
    have hsn5:=hsl42.len
    refine RD_t 1 Z kR Z (fun _ hK=>v_slice_from (i:=1) underlying24 sizeOf66 Z Z oM oM) (dE 2 Z2 ?_)
    have hcap43:=hB.cap;try simp only[List.length_set,List.length_append,List.length_take,List.length_drop,List.length_replicate]at hcap43
    have hsl43:=hB.part (i:=1) (j:=_) oM (Nat.le_refl _)
    have hsn6:=hsl43.len
    refine RD_t 3 Z kR Z (fun _ hK=>v_slice_from (i:=1) underlying24 sizeOf66 Z Z oM oM) (dE 4 Z2 (dE 5 Z2 (rz (N_B ?_))))
    refine N_lp (hJ:=⟨_,_,_,(xs++[⟨2,z28.path,z28.dir,z28.ids⟩,⟨1,z29.path,z29.dir,z29.ids⟩]),i+1,k+1,(.slice (if kA=1 then aA else aA.map (·.add (1*3))) ((a.drop i).length-1) (kA-1)),(.slice (if kB=1 then aB else aB.map (·.add (1*3))) ((b.drop k).length-1) (kB-1)),_,Z,hle2,H,?inv,Z⟩) (hm:=?hm)
    case hm=>omega
    case inv=>exact⟨hchk40,aN,(by exact⟨by omega,by omega,hcg.step (c:=[⟨2,z28⟩,⟨1,z29⟩]) (Sp.chg_kind (by simpa [List.getElem?_drop] using hz28:a[i]? = some z28) (by simpa [List.getElem?_drop] using hz29:b[k]? = some z29) (Sp.goneB_no (by simpa [List.getElem?_drop] using hz28:a[i]? = some z28) (by simpa [List.getElem?_drop] using hz29:b[k]? = some z29) hgB') (Sp.newB_no (by simpa [List.getElem?_drop] using hz28:a[i]? = some z28) (by simpa [List.getElem?_drop] using hz29:b[k]? = some z29) hnB') (by simpa using hc30)),by (simp;omega),(by have h9:=hsl42;rw[List.take_of_length_le (by simp;omega),List.drop_drop]at h9;exact h9),(by have h9:=hsl43;rw[List.take_of_length_le (by simp;omega),List.drop_drop]at h9;exact h9)⟩)⟩
   intro hc30'
   try simp only[nrm]at hc30'
   refine W_seq (W_drawK [] 9 H kR Z ?_);intro _ H;have hd44:=PLe.refl G17
   refine dE 0 Z2 ?_
   have hl45:=hA.len
   obtain⟨_,_,z45,_,ha45,hz45,hq45,hE45,hrow45,_⟩:=hA.at (i:=0) oM
   clear hq45
   obtain⟨_,_,_,rfl,hi45,hr45,_,_⟩:=ox hE45
   have hzz45:z28=z45:=Option.some.inj (hz28.symm.trans hz45)
   subst hzz45
   refine dI 1 3 0 ha45 Z3 Z (RD_t 2 Z kR Z (fun _ hK=>v_loadagg_P hK isAgg66 sizeOf66 Z hrow45 Z) (dE 3 Z2 ?_))
   have hl46:=hB.len
   obtain⟨_,_,z46,_,ha46,hz46,hq46,hE46,hrow46,_⟩:=hB.at (i:=0) oM
   clear hq46
   obtain⟨_,_,_,rfl,hi46,hr46,_,_⟩:=ox hE46
   have hzz46:z29=z46:=Option.some.inj (hz29.symm.trans hz46)
   subst hzz46
   refine dI 4 3 0 ha46 Z3 Z (RD_t 5 Z kR Z (fun _ hK=>v_loadagg_P hK isAgg66 sizeOf66 Z hrow46 Z) (r1 6 Z (xr H Z2 (i_itemEqual_c _ _ H.sub _ _ ⟨_,_,_,Z,hi45,hr45⟩ _ _ ⟨_,_,_,Z,hi46,hr46⟩) ?_)));intro _ H
   refine q4 H hd44 (dE 7 Z2 (dE 8 Z2 (rz (N_K ?_))))
   refine W_cond Z ?_ ?_
   ·intro hc48
    try simp only[nrm]at hc48
    refine W_region (pe 2 Z (iP 0 hB Z3 Z ?_));intro _ _ z49 _ hz49 hE49 hrow49
    obtain⟨_,_,_,rfl,hi49,hr49,_,_⟩:=ox hE49
    have hzz49:z29=z49:=Option.some.inj (hz29.symm.trans hz49)
    subst hzz49
    refine o_loadagg_P H isAgg66 sizeOf66 Z Z hrow49 Z (o_build bf124 Z Z Z (o_iface kR Z Z (xbs H Z7 ?_)));intro _ _ _ H
    refine o_append1 0 H (sz:=1) (bytes:=16) underlying51 typeInfo55 ⟨_,Z,Z⟩ Z Z Z Z Z Z Z Z Z Z oM Z ?_;intro _ _ H
    have hchk51:=hchk2_0.snoc (show chgX _ ⟨3,z29.path,z29.dir,z29.ids⟩ _ from⟨_,_,_,_,rfl,hi49,hr49,.inr (.inr ⟨rfl,rfl⟩)⟩) rfl
    obtain⟨_,_,rfl⟩:=H.accShape (k:=0) rfl
    refine aG Z (R_nil (N_B (N_K (W_drawK [] 6 H kR Z ?_))));intro _ H;have hd52:=PLe.refl G17
    refine dE 0 Z2 ?_
    have hcap53:=hA.cap;try simp only[List.length_set,List.length_append,List.length_take,List.length_drop,List.length_replicate]at hcap53
    have hsl53:=hA.part (i:=1) (j:=_) oM (Nat.le_refl _)
    have hsn7:=hsl53.len
    refine RD_t 1 Z kR Z (fun _ hK=>v_slice_from (i:=1) underlying24 sizeOf66 Z Z oM oM) (dE 2 Z2 ?_)
    have hcap54:=hB.cap;try simp only[List.length_set,List.length_append,List.length_take,List.length_drop,List.length_replicate]at hcap54
    have hsl54:=hB.part (i:=1) (j:=_) oM (Nat.le_refl _)
    have hsn8:=hsl54.len
    refine RD_t 3 Z kR Z (fun _ hK=>v_slice_from (i:=1) underlying24 sizeOf66 Z Z oM oM) (dE 4 Z2 (dE 5 Z2 (rz (N_B ?_))))
    refine N_lp (hJ:=⟨_,_,_,(xs++[⟨3,z29.path,z29.dir,z29.ids⟩]),i+1,k+1,(.slice (if kA=1 then aA else aA.map (·.add (1*3))) ((a.drop i).length-1) (kA-1)),(.slice (if kB=1 then aB else aB.map (·.add (1*3))) ((b.drop k).length-1) (kB-1)),_,Z,hle2,H,?inv,Z⟩) (hm:=?hm)
    case hm=>omega
    case inv=>exact⟨hchk51,aN,(by exact⟨by omega,by omega,hcg.step (c:=[⟨3,z29⟩]) (Sp.chg_other (by simpa [List.getElem?_drop] using hz28:a[i]? = some z28) (by simpa [List.getElem?_drop] using hz29:b[k]? = some z29) (Sp.goneB_no (by simpa [List.getElem?_drop] using hz28:a[i]? = some z28) (by simpa [List.getElem?_drop] using hz29:b[k]? = some z29) hgB') (Sp.newB_no (by simpa [List.getElem?_drop] using hz28:a[i]? = some z28) (by simpa [List.getElem?_drop] using hz29:b[k]? = some z29) hnB') (by simpa using hc30') (by simpa using hc48)),by (simp;omega),(by have h9:=hsl53;rw[List.take_of_length_le (by simp;omega),List.drop_drop]at h9;exact h9),(by have h9:=hsl54;rw[List.take_of_length_le (by simp;omega),List.drop_drop]at h9;exact h9)⟩)⟩
   intro hc48'
   try simp only[nrm]at hc48'
   refine W_skip (N_B (N_K (W_drawK [] 6 H kR Z ?_)));intro _ H;have hd55:=PLe.refl G17
   refine dE 0 Z2 ?_
   have hcap56:=hA.cap;try simp only[List.length_set,List.length_append,List.length_take,List.length_drop,List.length_replicate]at hcap56
   have hsl56:=hA.part (i:=1) (j:=_) oM (Nat.le_refl _)
   have hsn9:=hsl56.len
   refine RD_t 1 Z kR Z (fun _ hK=>v_slice_from (i:=1) underlying24 sizeOf66 Z Z oM oM) (dE 2 Z2 ?_)
   have hcap57:=hB.cap;try simp only[List.length_set,List.length_append,List.length_take,List.length_drop,List.length_replicate]at hcap57
   have hsl57:=hB.part (i:=1) (j:=_) oM (Nat.le_refl _)
   have hsn10:=hsl57.len
   refine RD_t 3 Z kR Z (fun _ hK=>v_slice_from (i:=1) underlying24 sizeOf66 Z Z oM oM) (dE 4 Z2 (dE 5 Z2 (rz (N_B ?_))))
   refine N_lp (hJ:=⟨_,_,_,xs,i+1,k+1,(.slice (if kA=1 then aA else aA.map (·.add (1*3))) ((a.drop i).length-1) (kA-1)),(.slice (if kB=1 then aB else aB.map (·.add (1*3))) ((b.drop k).length-1) (kB-1)),_,Z,hle2,H,?inv,Z⟩) (hm:=?hm)
   case hm=>omega
   case inv=>exact⟨hchk2_0,aN,(by exact⟨by omega,by omega,by (have h9:=hcg.step (c:=[]) (Sp.chg_same (by simpa [List.getElem?_drop] using hz28:a[i]? = some z28) (by simpa [List.getElem?_drop] using hz29:b[k]? = some z29) (Sp.goneB_no (by simpa [List.getElem?_drop] using hz28:a[i]? = some z28) (by simpa [List.getElem?_drop] using hz29:b[k]? = some z29) hgB') (Sp.newB_no (by simpa [List.getElem?_drop] using hz28:a[i]? = some z28) (by simpa [List.getElem?_drop] using hz29:b[k]? = some z29) hnB') (by simpa using hc30') (by simpa using hc48'));simpa using h9),by omega,(by have h9:=hsl56;rw[List.take_of_length_le (by simp;omega),List.drop_drop]at h9;exact h9),(by have h9:=hsl57;rw[List.take_of_length_le (by simp;omega),List.drop_drop]at h9;exact h9)⟩)⟩
  intro hc5'
  try simp only[nrm]at hc5'
  refine W_exit (N_K_exit (N_LP_exit (N_B_same (N_K (q2 (pe 2 Z (q3 (W_ret (rt1 results22 Z ?_)))))))))
  obtain⟨_,H,hsg58,hsr58⟩:=H.shut' (k:=0) rfl hchk2_0 aN aN
  obtain⟨h1,h2⟩:=Sp.moreB_no (by simpa using hc5')
  obtain rfl:=hcg.done h1 h2
  exact H.retP hsr58
theorem i_StreamOf_c (w0:World)(G0:PH)(hG:PSub G0 w0)(cd:List Value)(d:BDisk)(hd:diskE G0 d cd)(fr:Bs)(hfr:fr.length≤16777216)(tt:Bs)(htt:tt.length≤16777216) :
  Calls Tryz.prog 7 #[.agg cd.toArray,str fr,str tt] w0 (RetN w0 G0 (fun v Bs=>∃(F:Fr) (pv:Value),v= .tuple #[pv,.bool (Sp.StreamOf d fr tt).isSome]∧Bs=[frag F]∧OPt F pv ((Sp.StreamOf d fr tt).getD []))):=by
 obtain⟨_,_,_,_,_,_,_,_,_,rfl,hr1,hr1',hr1'',⟨_,_⟩,⟨_,_⟩,_,_⟩:=ox hd
 have H:=Hp.init hG
 refine calls_of_W (l:=[_,str fr,str tt]) func7 Z ntmps7 Z (q2 (o_box H Z Z Z ?_));intro b2 _ _ H
 refine pe 2 Z (q1 (lA 0 3 H Z4 (xc Z2 (i_newDisk_c _ _ H.sub _ d ⟨_,_,_,_,_,_,_,_,_,Z,hr1,hr1',hr1''⟩ H.lent0) ?_)))
 rintro _ _ ⟨_,_,_,rfl,H3',⟨rfl,rfl,hnd3⟩|⟨db3,mb3,es3,ck3,_,_,F3,_,sn3,c3,FS3,rfl,rfl,hm3,hS3,hN3,hT3,hchk3,hNs3,hSn3,hdv3⟩⟩
 ·skip
  have H:=H.borrow0 H3'
  refine⟨_,Z,?_⟩
  refine pe 5 Z (q3 (W_seq (q2 (pe 2 Z (q3 (W_true Z (q2 (pe 2 Z (q3 (W_ret (N_K_ret (rt2 results7 Z Z ?_))))))))))))
  have H:=H.dl 0
  have hno:Sp.StreamOf d fr tt=none:=Sp.so_nov (by simpa using hnd3)
  have H:=(H.addF).forget hG (by simp)
  exact⟨_,_,rfl,H,[],.slice none 0 0,(by rw[hno];rfl),rfl,(by rw[hno];exact⟨0,by simp,.inl ⟨rfl,rfl,rfl⟩⟩)⟩
 skip
 have H:=H.borrow0 H3'
 obtain⟨avAd,cvAd,rfl⟩:=H.accShape (k:=3) rfl
 refine⟨_,Z,?_⟩
 refine pe 5 Z (q3 (W_seq (q2 (pe 2 Z (q3 (W_false Z (W_skip (N_K (q2 (pe 2 Z ?_))))))))))
 have H:=H.tF 4
 have H:=H.tF 4
 have H:=H.tF 4
 have H:=H.tF 4
 have H:=H.tF 4
 refine xc Z2 (i_treeOf_c _ _ H.sub _ _ _ _ _ _ _ _ _ _ _ _ hm3 hS3 hN3 hT3 hchk3 hNs3 hSn3 hdv3 _ hfr H.lent5) ?_
 rintro _ _ ⟨_,_,_,rfl,H4',⟨_,_,rfl,rfl,hO4⟩⟩
 have hS3:=hS3.up H4'.le
 have hN3:=hN3.up H4'.le
 have hchk3:=hchk3.up H4'.le
 have hNs3:=hNs3.up H4'.le
 have H:=H.borrow5 H4'
 obtain⟨_,hP4⟩:=hO4
 obtain⟨_,_,rfl⟩:=OwnS.shape hP4
 have hO4:=OIs.mk hP4
 refine⟨_,Z,?_⟩
 refine pe 5 Z (q3 (W_seq (q2 (pe 2 Z (q3 ?_)))))
 refine W_cond Z ?_ ?_
 ·intro hc5
  try simp only[nrm]at hc5
  refine q2 (pe 2 Z (q3 (W_ret (N_K_ret (rt2 results7 Z Z ?_)))))
  have H:=H.sel [] rfl
  have hno:Sp.StreamOf d fr tt=none:=Sp.so_no1 (by simpa using hc5)
  have H:=(H.addF).forget hG (by simp)
  exact⟨_,_,rfl,H,[],.slice none 0 0,(by rw[hno];rfl),rfl,(by rw[hno];exact⟨0,by simp,.inl ⟨rfl,rfl,rfl⟩⟩)⟩
 intro hc5'
 try simp only[nrm]at hc5'
 refine W_skip (N_K (q2 (pe 2 Z ?_)))
 have H:=H.tF 5
 have H:=H.tF 5
 have H:=H.tF 5
 have H:=H.tF 5
 have H:=H.tF 5
 refine xc Z2 (i_treeOf_c _ _ H.sub _ _ _ _ _ _ _ _ _ _ _ _ hm3 hS3 hN3 hT3 hchk3 hNs3 hSn3 hdv3 _ htt H.lent5) ?_
 rintro _ _ ⟨_,_,_,rfl,H6',⟨_,_,rfl,rfl,hO6⟩⟩
 have hS3:=hS3.up H6'.le
 have hN3:=hN3.up H6'.le
 have hchk3:=hchk3.up H6'.le
 have hNs3:=hNs3.up H6'.le
 have H:=H.borrow5 H6'
 obtain⟨_,hP6⟩:=hO6
 obtain⟨_,_,rfl⟩:=OwnS.shape hP6
 have hO6:=OIs.mk hP6
 refine⟨_,Z,?_⟩
 refine pe 5 Z (q3 (W_seq (q2 (pe 2 Z (q3 ?_)))))
 refine W_cond Z ?_ ?_
 ·intro hc7
  try simp only[nrm]at hc7
  refine q2 (pe 2 Z (q3 (W_ret (N_K_ret (rt2 results7 Z Z ?_)))))
  have H:=H.sel [] rfl
  have hno:Sp.StreamOf d fr tt=none:=Sp.so_no2 (by simpa using hc7)
  have H:=(H.addF).forget hG (by simp)
  exact⟨_,_,rfl,H,[],.slice none 0 0,(by rw[hno];rfl),rfl,(by rw[hno];exact⟨0,by simp,.inl ⟨rfl,rfl,rfl⟩⟩)⟩
 intro hc7'
 try simp only[nrm]at hc7'
 refine W_skip (N_K (q2 (pe 2 Z ?_)))
 have hnd9:=dm_nodup H (k:=6) rfl;obtain⟨_,H,hsg9,hsf9⟩:=H.keepF (k:=6) rfl (by simp);have hsr9:=(show OIs _ _ _ from hO4).rd hsf9 hnd9
 have hS3:=hS3.up hsg9
 have hN3:=hN3.up hsg9
 have hchk3:=hchk3.up hsg9
 have hNs3:=hNs3.up hsg9
 have hnd10:=dm_nodup H (k:=0) rfl;obtain⟨_,H,hsg10,hsf10⟩:=H.keepF (k:=0) rfl (by simp);have hsr10:=(show OIs _ _ _ from hO6).rd hsf10 hnd10
 have hS3:=hS3.up hsg10
 have hN3:=hN3.up hsg10
 have hchk3:=hchk3.up hsg10
 have hNs3:=hNs3.up hsg10
 have hsr9:=hsr9.up hsg10
 refine xc Z2 (i_changes_c _ _ H.sub _ _ hsr9 _ _ hsr10 (Sp.tree_len (Sp.ltD_valid hdv3 fr)) (Sp.tree_len (Sp.ltD_valid hdv3 tt))) ?_
 rintro _ _ ⟨G8,_,g8,rfl,hr8_0⟩
 have H:=H.grow g8
 have hS3:=hS3.up g8.le
 have hN3:=hN3.up g8.le
 have hchk3:=hchk3.up g8.le
 have hNs3:=hNs3.up g8.le
 obtain⟨_,_,rfl⟩:=hr8_0.shape;have hx_hr8_0:_≤1099511627776:=hr8_0.lim
 refine⟨_,Z,?_⟩
 have hchl:((Sp.chg (Sp.ltD d fr) (Sp.ltD d tt)).map Sp.chP).length≤24:=Sp.chL_len hdv3 fr tt
 refine aG Z (q1 (mV Z (lN Z ?_)))
 refine o_mkchan H underlying53 typeInfo55 Z Z (by have:Nat.ble 0 1=true:=rfl;show 16*_≤_;omega) oM ?_;intro c11 _ _ H
 refine aG Z (q3 (W_seq (q2 (mV Z (lN Z (mV Z (q3 (W_block ?_))))))))
 obtain⟨ln12,hln12,H⟩:=H.name (k:=1) rfl
 obtain⟨ln13,hln13,H⟩:=H.name (k:=6) rfl
 refine W_lp (hf:=(Sub.cons (t:=6) Z (Sub.cons (t:=7) Z (Sub.cons (t:=8) Z (Sub.cons (t:=13) Z (Sub.cons (t:=49) Z (Sub.cons (t:=50) Z Sub.nil))))))) (J:=fun M w m=>∃(k:Nat) (vs:List Value) (s1:Nat) (G:PH),M=[(51,.int .i64 (k:Int))]∧PLe G8 G∧Hp w0 G0 [] w G [chn c11 ((Sp.chg (Sp.ltD d fr) (Sp.ltD d tt)).map Sp.chP).length vs false s1 0,blk db3 (cl ln12 111),blk mb3 (.map es3 ck3),frag F3,acc 117 2 (.slice avAd sn3.length cvAd) sn3.length c3,frag FS3,blk b2 (cl ln13 27)]∧(k≤((Sp.chg (Sp.ltD d fr) (Sp.ltD d tt)).map Sp.chP).length∧CV chgW G vs (((Sp.chg (Sp.ltD d fr) (Sp.ltD d tt)).map Sp.chP).take k))∧m=(((Sp.chg (Sp.ltD d fr) (Sp.ltD d tt)).map Sp.chP).length-k)) (h0:=⟨0,[],0,_,Z,PLe.refl _,H,?inv,Z⟩) (round:=?round)
 case inv=>exact⟨by omega,.nil⟩
 case round =>
  rintro _ _ _ ⟨k,vs,s1,G14,rfl,hle14,H,hinv14,rfl⟩
  subst hln12
  subst hln13
  have hS3:=hS3.up hle14
  have hN3:=hN3.up hle14
  have hchk3:=hchk3.up hle14
  have hNs3:=hNs3.up hle14
  have hr8_0:=hr8_0.up hle14
  obtain⟨hk,hcv⟩:=hinv14;have hvl:=hcv.len;rw[List.length_take]at hvl
  refine q2 (pe 1 Z (q3 (W_seq ?_)))
  refine W_cond Z ?_ ?_
  ·intro hc15
   try simp only[nrm]at hc15
   refine W_skip (N_K (W_seq (W_block (q2 (iP k hr8_0 Z3 Z ?_)))));intro _ _ _ _ hz16 hE16 hrow16
   obtain⟨_,rfl⟩:=chgE.one hE16
   refine lP H hrow16 0 Z2 (aG Z (q3 (W_regionC [0,1,2] Z (RC_l Z (mV Z ?_)))))
   refine R_nil (N_C ?_)
   refine RC_l Z (mV Z ?_)
   refine R_nil (N_C ?_)
   refine c_send H 0 Z Z Z Z oM ?_;intro _ H
   refine RC_nil (N_B (N_K (W_region (aD Z2 (mV Z (R_nil ?_))))))
   refine N_lp (hJ:=⟨k+1,_,_,_,Z,hle14,H,?inv,Z⟩) (hm:=?hm)
   case hm=>omega
   case inv=>exact⟨by omega,by (rw[Sp.take_snoc' hz16];exact hcv.snoc hE16)⟩
  intro hc15'
  try simp only[nrm]at hc15'
  refine W_exit (N_K_exit (N_LP_exit (N_B_same (N_K (q2 (mV Z (o_close H 0 Z Z ?_)))))));intro _ H
  refine q1 (aG Z (q3 (W_seq (q2 (mV Z (q3 (W_block ?_)))))))
  have hcv0:CV chgW G14 vs ((Sp.chg (Sp.ltD d fr) (Sp.ltD d tt)).map Sp.chP):=(by have h0:k=((Sp.chg (Sp.ltD d fr) (Sp.ltD d tt)).map Sp.chP).length:=oM;rw[h0,List.take_length]at hcv;exact hcv)
  have H:=H.addNil 58 4
  have H:=H.addF
  obtain⟨ln21,hln21,H⟩:=H.name (k:=3) rfl
  obtain⟨ln22,hln22,H⟩:=H.name (k:=8) rfl
  refine W_lp (hf:=(Sub.cons (t:=8) Z (Sub.cons (t:=59) Z Sub.nil))) (J:=fun M w m=>∃(v:Value) (n:Nat) (cs:List Value) (xs:List (BPart)) (F:Fr) (k:Nat) (vq:List Value) (rq:Nat) (G:PH),M=[(16,v)]∧PLe G14 G∧Hp w0 G0 [] w G [frag F,acc 58 4 v n cs,chn c11 ((Sp.chg (Sp.ltD d fr) (Sp.ltD d tt)).map Sp.chP).length vq true s1 rq,blk db3 (cl ln21 111),blk mb3 (.map es3 ck3),frag F3,acc 117 2 (.slice avAd sn3.length cvAd) sn3.length c3,frag FS3,blk b2 (cl ln22 27)]∧(ChkF partO 4 cs xs F∧n=xs.length∧k≤((Sp.chg (Sp.ltD d fr) (Sp.ltD d tt)).map Sp.chP).length∧CV chgW G vq (((Sp.chg (Sp.ltD d fr) (Sp.ltD d tt)).map Sp.chP).drop k)∧xs=(((Sp.chg (Sp.ltD d fr) (Sp.ltD d tt)).map Sp.chP).take k).map (Sp.pcP d.store))∧m=(((Sp.chg (Sp.ltD d fr) (Sp.ltD d tt)).map Sp.chP).length-k)) (h0:=⟨_,_,_,[],[],0,vs,0,_,Z,PLe.refl _,H,?inv,Z⟩) (round:=?round)
  case inv=>exact⟨ChkF.nil,by first|rfl|simp|(simp;omega)|omega,(by exact⟨by omega,(by rw[List.drop_zero];exact hcv0),rfl⟩)⟩
  case round =>
   rintro _ _ _ ⟨v,n,cs,xs,F,k,vq,rq,_,rfl,hle23,H,hinv23,rfl⟩
   subst hln21
   subst hln22
   have hS3:=hS3.up hle23
   have hN3:=hN3.up hle23
   have hchk3:=hchk3.up hle23
   have hNs3:=hNs3.up hle23
   obtain⟨hchk23_0,_,hinv23⟩:=hinv23
   obtain⟨_,_,rfl⟩:=H.accShape (k:=1) rfl
   obtain⟨hk,hcv,hxs⟩:=hinv23;have hxl:xs.length=k:=(by rw[hxs,List.length_map,List.length_take];omega)
   refine W_seq (W_regionC [0,1] Z ?_)
   rcases vq with _|⟨v24,vs24⟩
   ·skip
    refine c_recvz H 2 Z Z Z Z underlying53 zeroValue55 ?_
    have hend:=hcv.nil_len
    refine RC_l Z (pe 1 Z ?_)
    refine R_nil (N_C ?_)
    refine RC_nil (N_K (W_seq (W_false Z (W_exit (N_K_exit (N_LP_exit (N_B_same (N_K (q2 (pe 3 Z (q3 (W_ret (rt2 results7 Z Z ?_)))))))))))))
    have H:=H.tF 1
    obtain⟨_,H,hOw2⟩:=H.ownF hchk23_0 aN aN
    have H:=H.sel [0] rfl
    have hxe:xs=((Sp.chg (Sp.ltD d fr) (Sp.ltD d tt)).map Sp.chP).map (Sp.pcP d.store):=(by rw[hxs,List.take_of_length_le oM])
    have hyes:Sp.StreamOf d fr tt=some xs:=(by rw[hxe];exact Sp.so_yes hdv3 (by simpa using hc5') (by simpa using hc7'))
    have H:=H.forget hG (by simp)
    exact⟨_,_,rfl,H,_,_,(by rw[hyes];rfl),rfl,(by rw[hyes];exact(show OPt _ _ _ from⟨_,hOw2⟩))⟩
   skip
   obtain⟨z24,hz24,hV24,hcw⟩:=hcv.pop;clear hcv;have hcv:=hcw;clear hcw;have hV24:chgX _ z24 [v24]:=hV24;have hck24:=chgE.kind hV24
   refine c_recv H 2 Z Z Z Z underlying53 zeroValue55 ?_;intro _ H
   refine RC_l Z (pe 1 Z ?_)
   refine R_nil (N_C ?_)
   refine RC_nil (N_K (W_seq (W_true Z (W_skip (N_K (W_block (q2 (pe 2 Z (q1 (pe 2 Z ?_))))))))))
   have H:=H.tF 7
   have H:=H.tF 7
   have H:=H.tF 7
   have H:=H.tF 7
   have H:=H.tF 7
   refine xc Z2 (i_partOf_c _ _ H.sub _ _ _ _ _ _ _ _ _ _ _ _ hm3 hS3 hN3 hT3 hchk3 hNs3 hSn3 hdv3 _ _ hV24 H.lent5 (Sp.ch_ids hdv3 hz24).1 (Sp.ch_dir hdv3 hz24)) ?_
   rintro _ _ ⟨_,_,_,rfl,H25',⟨F25,_,rfl,rfl,hO25⟩⟩
   have hcv:=hcv.up H25'.le
   have hle23:=hle23.trans H25'.le
   have H:=H.borrow5 H25'
   obtain⟨_,_,_,rfl,hj25,hi25,ho25⟩:=hO25
   refine⟨_,Z,?_⟩
   refine pe 3 Z (xal H Z ?_);intro _ _ _ H
   refine xst 0 H Z8 ?_;intro _ H
   refine aG Z (q3 (W_seq (q2 (pe 2 Z (q3 (W_false Z (W_skip (N_K (W_region (mV Z (lA 0 4 H Z4 (xbs H Z7 ?_))))))))))));intro _ _ _ H
   refine o_append1 8 H (sz:=4) (bytes:=56) underlying30 typeInfo58 ⟨_,Z,Z⟩ Z Z Z Z Z Z Z Z Z Z oM Z ?_;intro _ _ H
   have hchk29:=hchk23_0.snoc (show partO F25 (Sp.pcP d.store z24) _ from⟨_,_,_,rfl,hj25,hi25,ho25⟩) rfl
   have H:=H.tF 1
   have H:=H.tF 7
   have H:=H.mergeF
   obtain⟨_,_,rfl⟩:=H.accShape (k:=7) rfl
   refine aG Z (R_nil (N_B ?_))
   have H:=H.sel [0,7,8,2,3,4,5,6,9] rfl
   refine N_lp (hJ:=⟨_,_,_,(xs++[(Sp.pcP d.store z24)]),(F++F25),k+1,_,_,_,Z,hle23,H,?inv,Z⟩) (hm:=?hm)
   case hm=>have:=(List.getElem?_eq_some_iff.1 hz24).1;omega
   case inv=>exact⟨hchk29,aN,(by exact⟨(by have:=(List.getElem?_eq_some_iff.1 hz24).1;omega),hcv,by rw[hxs];exact Sp.pc_snoc hz24 rfl⟩)⟩
theorem lStreamExact_c (w0:World)(G0:PH)(hG:PSub G0 w0)(vcode:Value)(code:List (UInt8))(hcode:RdU G0 vcode code) :
  Calls Tryz.prog 5 #[vcode] w0 (Rets w0 (.bool true)):=by
 obtain⟨acode,kcode,rfl⟩:=hcode.shape
 have hlimcode:code.length≤1099511627776:=hcode.lim
 have H:=Hp.init hG
 refine calls_of_W (l:=[.slice acode code.length kcode]) func5 Z ntmps5 Z (q2 (aG Z (q3 (W_seq (q2 (mV Z (lN Z (pe 1 Z (q3 ?_)))))))))
 refine W_cond Z ?_ ?_
 ·intro hc1
  try simp only[nrm]at hc1
  refine q2 (aG Z (q3 (W_ret (N_K_ret (rt1 results5 Z ?_)))))
  first|exact H.rets rfl|exact H.rets (congrArg Value.bool (by simp_all))
 intro hc1'
 try simp only[nrm]at hc1'
 refine W_skip (N_K (q2 (mV Z (xc Z2 (DrawStreamOf_c _ _ H.sub _ _ hcode) ?_))))
 rintro _ _ ⟨_,_,g2,rfl,⟨_,uV,uP,uT,rfl,hV,hP0,hT0⟩⟩
 have H:=H.grow g2
 obtain⟨_,_,_,_,_,_,_,_,_,rfl,hr2,hr2',hr2'',⟨_,_⟩,⟨_,_⟩,_,_⟩:=ox hV
 refine⟨_,Z,?_⟩
 refine pe 4 Z (xal H Z ?_);intro _ _ _ H
 refine xst 0 H Z8 ?_;intro _ H
 refine pe 2 Z (q1 (lA 0 3 H Z4 (pe 2 Z (xc Z2 (i_StreamOf_c _ _ H.sub _ uV ⟨_,_,_,_,_,_,_,_,_,Z,hr2,hr2',hr2''⟩ _ hP0 _ hT0) ?_))))
 rintro _ _ ⟨_,_,rfl,H5',⟨_,_,rfl,rfl,hO5⟩⟩
 have H:=H.readers (fp:=[]) (by simp) (PLe.refl _) H5'
 obtain⟨_,hP5⟩:=hO5
 obtain⟨_,_,rfl⟩:=OwnS.shape hP5
 have hO5:=OPt.mk hP5
 refine⟨_,Z,?_⟩
 refine pe 5 Z (q1 (lA 1 3 H Z4 (pe 2 Z (xc Z2 (StreamOf_c _ _ H.sub _ uV ⟨_,_,_,_,_,_,_,_,_,Z,hr2,hr2',hr2''⟩ _ hP0 _ hT0) ?_))))
 rintro _ _ ⟨_,_,_,g6,rfl,⟨_,rfl,⟨_,rfl,hchk6⟩⟩,hp6,hq6,hs6⟩
 have H:=H.growO g6 hp6 hq6 hs6;obtain⟨_,_,rfl⟩:=H.accShape (k:=0) rfl
 have hr2:=hr2.up g6.le
 have hr2':=hr2'.up g6.le
 have hr2'':=hr2''.up g6.le
 refine⟨_,Z,?_⟩
 have hsl:=Sp.so_len uV uP uT
 refine pe 5 Z (q3 (W_seq (q2 (pe 2 Z (o_bneq_same underlying4 Z Z Z (pe 3 Z (gR Z (xr H Z2 (w_sameParts_c _ _ (H.lendSubL [0,1]) _ _ (H.lendOPt (k:=1) (ks:=[0,1]) Z Z hO5) _ _ (H.lendRdL (k:=0) (ks:=[0,1]) Z Z hchk6 aN aN) Z) ?_))))))));intro _ H
 refine pe 7 Z ?_
 refine R_case (t:=52) Z ?_ ?_
 ·intro hc8
  try simp only[nrm]at hc8
  refine pe 7 Z (q3 (W_true Z (q2 (pe 2 Z (o_beql_same underlying4 Z Z Z (pe 3 Z (gR Z (xr H Z2 (w_sameParts_c _ _ (H.lendSubL [0,1]) _ _ (H.lendOPt (k:=1) (ks:=[0,1]) Z Z hO5) _ _ (H.lendRdL (k:=0) (ks:=[0,1]) Z Z hchk6 aN aN) Z) ?_))))))));intro _ H
  refine pe 2 Z (q3 (W_ret (N_K_ret (rt1 results5 Z ?_))))
  first|exact H.rets rfl|exact H.rets (congrArg Value.bool (by simp_all))
 intro hc8'
 try simp only[nrm]at hc8'
 refine pe 1 Z (gR Z (o_seql Z Z Z (pe 2 Z ?_)))
 refine R_case (t:=56) Z ?_ ?_
 ·intro hc10
  try simp only[nrm]at hc10
  refine pe 3 Z (q3 (W_true Z (q2 (pe 2 Z (o_beql_same underlying4 Z Z Z (pe 3 Z (gR Z (xr H Z2 (w_sameParts_c _ _ (H.lendSubL [0,1]) _ _ (H.lendOPt (k:=1) (ks:=[0,1]) Z Z hO5) _ _ (H.lendRdL (k:=0) (ks:=[0,1]) Z Z hchk6 aN aN) Z) ?_))))))));intro _ H
  refine pe 2 Z (q3 (W_ret (N_K_ret (rt1 results5 Z ?_))))
  first|exact H.rets rfl|exact H.rets (congrArg Value.bool (by simp_all))
 intro hc10'
 try simp only[nrm]at hc10'
 refine pe 1 Z (gR Z (o_seql Z Z Z (pe 1 Z (q3 ?_))))
 refine W_cond Z ?_ ?_
 ·intro hc12
  try simp only[nrm]at hc12
  refine q2 (pe 2 Z (o_beql_same underlying4 Z Z Z (pe 3 Z (gR Z (xr H Z2 (w_sameParts_c _ _ (H.lendSubL [0,1]) _ _ (H.lendOPt (k:=1) (ks:=[0,1]) Z Z hO5) _ _ (H.lendRdL (k:=0) (ks:=[0,1]) Z Z hchk6 aN aN) Z) ?_)))));intro _ H
  refine pe 2 Z (q3 (W_ret (N_K_ret (rt1 results5 Z ?_))))
  first|exact H.rets rfl|exact H.rets (congrArg Value.bool (by simp_all))
 intro hc12'
 try simp only[nrm]at hc12'
 have hne:uP≠[]:=by simpa using hc10'
 have hne2:uT≠[]:=by simpa using hc12'
 obtain⟨u2,hu2⟩:=Option.isSome_iff_exists.1 (show(Sp.StreamOf uV uP uT).isSome=true by simpa using hc8')
 have qX:((Sp.StreamOf uV uP uT).getD [])=u2:=by (rw[hu2];rfl)
 obtain⟨qa,qb,qha,qhb,qhr⟩:=Sp.stream_exact hu2 hne hne2
 have qA:((Sp.SnapBack uV uP).getD ⟨[],[],[]⟩)=qa:=by (rw[qha];rfl)
 have qB:((Sp.SnapBack uV uT).getD ⟨[],[],[]⟩)=qb:=by (rw[qhb];rfl)
 have qR:Sp.StreamRun ((Sp.SnapBack uV uP).getD ⟨[],[],[]⟩) ((Sp.StreamOf uV uP uT).getD [])=some qb:=by (rw[qA,qX];exact qhr)
 have qY:((Sp.StreamRun ((Sp.SnapBack uV uP).getD ⟨[],[],[]⟩) ((Sp.StreamOf uV uP uT).getD [])).getD ⟨[],[],[]⟩)=((Sp.SnapBack uV uT).getD ⟨[],[],[]⟩):=by (rw[qR,qB];rfl)
 have qh1:(Sp.SnapBack uV uP).isSome=true:=by (rw[qha];rfl)
 have qh2:(Sp.SnapBack uV uT).isSome=true:=by (rw[qhb];rfl)
 have qh3:(Sp.StreamRun ((Sp.SnapBack uV uP).getD ⟨[],[],[]⟩) ((Sp.StreamOf uV uP uT).getD [])).isSome=true:=by (rw[qR];rfl)
 refine W_skip (N_K (q2 (lA 2 3 H Z4 (mV Z (xc Z2 (i_SnapBack_c _ _ H.sub _ uV ⟨_,_,_,_,_,_,_,_,_,Z,hr2,hr2',hr2''⟩ _ hP0) ?_)))))
 rintro _ _ ⟨_,_,rfl,H14',⟨_,_,_,_,_,_,rfl,rfl,ho114,ho214,ho314⟩⟩
 have H:=H.readers (fp:=[]) (by simp) (PLe.refl _) H14'
 obtain⟨_,p114⟩:=ho114
 obtain⟨_,_,rfl⟩:=OwnS.shape p114
 obtain⟨_,p214⟩:=ho214
 obtain⟨_,_,rfl⟩:=OwnS.shape p214
 obtain⟨_,p314⟩:=ho314
 obtain⟨_,_,rfl⟩:=OwnS.shape p314
 refine⟨_,Z,?_⟩
 refine pe 3 Z (xal H Z ?_);intro _ _ _ H
 refine xst 0 H Z8 ?_;intro _ H
 refine aG Z (q1 (lA 6 3 H Z4 (mV Z (xc Z2 (i_SnapBack_c _ _ H.sub _ uV ⟨_,_,_,_,_,_,_,_,_,Z,hr2,hr2',hr2''⟩ _ hT0) ?_))))
 rintro _ _ ⟨_,_,rfl,H17',⟨_,_,_,_,_,_,rfl,rfl,ho117,ho217,ho317⟩⟩
 have H:=H.readers (fp:=[]) (by simp) (PLe.refl _) H17'
 obtain⟨_,p117⟩:=ho117
 obtain⟨_,_,rfl⟩:=OwnS.shape p117
 obtain⟨_,p217⟩:=ho217
 obtain⟨_,_,rfl⟩:=OwnS.shape p217
 obtain⟨_,p317⟩:=ho317
 obtain⟨_,_,rfl⟩:=OwnS.shape p317
 refine⟨_,Z,?_⟩
 refine pe 3 Z (xal H Z ?_);intro _ _ _ H
 refine xst 0 H Z8 ?_;intro _ H
 refine aG Z (q1 (lA 4 3 H Z4 (mV Z (xc Z2 (i_StreamRun_c _ _ (H.lendSubL [5,6,7,9]) _ ((Sp.SnapBack uV uP).getD ⟨[],[],[]⟩) ⟨_,_,_,_,_,_,_,_,_,Z,(H.lendOHs (k:=5) (ks:=[5,6,7,9]) Z Z ⟨_,p114⟩),(H.lendOIs (k:=6) (ks:=[5,6,7,9]) Z Z ⟨_,p214⟩),(H.lendOSn (k:=7) (ks:=[5,6,7,9]) Z Z ⟨_,p314⟩)⟩ _ _ (H.lendOPt (k:=9) (ks:=[5,6,7,9]) Z Z hO5)) ?_))))
 rintro _ _ ⟨_,_,rfl,H20',⟨_,_,_,_,_,_,rfl,rfl,ho120,ho220,ho320⟩⟩
 have H:=H.readersL H20'
 obtain⟨_,p120⟩:=ho120
 obtain⟨_,_,rfl⟩:=OwnS.shape p120
 obtain⟨_,p220⟩:=ho220
 obtain⟨_,_,rfl⟩:=OwnS.shape p220
 obtain⟨_,p320⟩:=ho320
 obtain⟨_,_,rfl⟩:=OwnS.shape p320
 refine⟨_,Z,?_⟩
 refine pe 3 Z (xal H Z ?_);intro _ _ _ H
 refine xst 0 H Z8 ?_;intro _ H
 refine aG Z (q1 (pe 2 Z ?_))
 refine R_case (t:=87) Z ?_ ?_
 ·intro hc23
  try simp only[nrm]at hc23
  refine pe 3 Z ?_
  refine R_case (t:=90) Z ?_ ?_
  ·intro hc24
   try simp only[nrm]at hc24
   refine pe 3 Z ?_
   refine R_case (t:=93) Z ?_ ?_
   ·intro hc25
    try simp only[nrm]at hc25
    refine gR Z (lA 0 3 H Z4 (gR Z (lA 4 3 H Z4 (gR Z (xr H Z2 (w_sameDisk_c _ _ (H.lendSubL [1,2,3,5,6,7]) _ ((Sp.StreamRun ((Sp.SnapBack uV uP).getD ⟨[],[],[]⟩) ((Sp.StreamOf uV uP uT).getD [])).getD ⟨[],[],[]⟩) ⟨_,_,_,_,_,_,_,_,_,Z,(H.lendOHs (k:=1) (ks:=[1,2,3,5,6,7]) Z Z ⟨_,p120⟩),(H.lendOIs (k:=2) (ks:=[1,2,3,5,6,7]) Z Z ⟨_,p220⟩),(H.lendOSn (k:=3) (ks:=[1,2,3,5,6,7]) Z Z ⟨_,p320⟩)⟩ _ ((Sp.SnapBack uV uT).getD ⟨[],[],[]⟩) ⟨_,_,_,_,_,_,_,_,_,Z,(H.lendOHs (k:=5) (ks:=[1,2,3,5,6,7]) Z Z ⟨_,p117⟩),(H.lendOIs (k:=6) (ks:=[1,2,3,5,6,7]) Z Z ⟨_,p217⟩),(H.lendOSn (k:=7) (ks:=[1,2,3,5,6,7]) Z Z ⟨_,p317⟩)⟩ qY) ?_)))));intro _ H
    refine pe 2 Z (q3 (W_ret (rt1 results5 Z ?_)))
    first|exact H.rets rfl|exact H.rets (congrArg Value.bool (by simp_all))
   intro hc25'
   try simp only[nrm]at hc25'
   refine pe 5 Z (q3 (W_ret (rt1 results5 Z ?_)))
   exact absurd (show False by first|(simp_all;done)|omega) id
  intro hc24'
  try simp only[nrm]at hc24'
  refine pe 8 Z (q3 (W_ret (rt1 results5 Z ?_)))
  exact absurd (show False by first|(simp_all;done)|omega) id
 intro hc23'
 try simp only[nrm]at hc23'
 refine pe 11 Z (q3 (W_ret (rt1 results5 Z ?_)))
 exact absurd (show False by first|(simp_all;done)|omega) id
end Go.Proofs.Tst
