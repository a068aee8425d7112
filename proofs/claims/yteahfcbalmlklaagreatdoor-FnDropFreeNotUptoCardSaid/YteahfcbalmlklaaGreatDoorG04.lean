/- Part 4 of the proof: the program logic and plain functions. Conditions: none. -/
import Derived.Test.YteahfcbalmlklaaGreatDoorG03
import Derived.Test.YteahfcbalmlklaaGreatDoorG02
import Derived.KernelRfl
import Derived.Lib.AppendStr
import Derived.Shelf.Strings.Builder1
import Derived.Lib.ItoaNum
import Derived.RangeFuncNested
import Derived.RangeFuncLeaves
import Derived.RangeFuncCalls
import Derived.RangeFuncBound
import Derived.WideKeyArgs
import Derived.ChangeArms
import Derived.DataElems
import Derived.ChangeSame
import Derived.Shelf.SlSortCmp.WholeK
import Derived.Test.YteahfcbalmlklaaGreatDoorProg
import Derived.Shelf.SlGeneric
import Derived.Shelf.Strings.Search1
import Derived.Shelf.Strings.Search2
import Derived.Shelf.Strings.Count
import Derived.Shelf.SlIterI.Nil
import Derived.Shelf.SortM.Plain
import Derived.Shelf.SortM.SortNone
import Derived.Ground.GgzProg
import Derived.Ground.SlsfProg
import Derived.Ground.SlgmProg
set_option linter.all false
set_option maxRecDepth 100000
set_option maxHeartbeats 8000000
namespace Sp
open Fw Nd
theorem names_nodup {l:List BSnap}:(∀(k:Nat) (s:BSnap),l[k]? = some s→(k:Int)≤l12At l s.name)↔(l.map (·.name)).Nodup:=by
 constructor
 ·intro h
  rw[List.nodup_iff_pairwise_ne,List.pairwise_map,List.pairwise_iff_getElem]
  intro i j hi hj hij e
  have h1:=h j l[j] (by simp)
  simp only[l12At]at h1
  cases e2:atS l l[j].name with
  | none=>rw[e2]at h1;simp[optI]at h1;omega
  | some m =>
   rw[e2]at h1
   obtain⟨_,_,_,_,h4⟩:=at_some e2
   simp only[optI]at h1
   exact h4 i l[i] (by omega) (by simp) e
 ·intro h k s hs
  obtain⟨hk,hk2⟩:=List.getElem?_eq_some_iff.1 hs
  simp only[l12At]
  cases e2:atS l s.name with
  | none =>
   have:=List.findIdx?_eq_none_iff.1 e2 s (List.mem_of_getElem? hs)
   simp at this
  | some m =>
   obtain⟨s',h1,h2,h3,_⟩:=at_some e2
   simp only[optI]
   by_cases hm:m<k
   ·rw[List.nodup_iff_pairwise_ne,List.pairwise_map,List.pairwise_iff_getElem]at h
    obtain⟨_,h1'⟩:=List.getElem?_eq_some_iff.1 h1
    exact absurd (by rw[h1',hk2,h2]) (h m k h3 hk hm)
   ·omega
theorem namesOK_iff {l:List BSnap}:NamesOK l↔l.length≤6∧(∀s,s ∈ l→l1Word s.name=true)∧(l.map (·.name)).Nodup:=by
 rw[←names_nodup]
 constructor
 ·rintro⟨h1,h2⟩
  refine⟨h1,fun s hs=>?_,fun k s hs=>(h2 k s hs).2⟩
  obtain⟨k,hk⟩:=List.getElem?_of_mem hs
  exact(h2 k s hk).1
 ·rintro⟨h1,h2,h3⟩
  exact⟨h1,fun k s hs=>⟨h2 s (List.mem_of_getElem? hs),h3 k s hs⟩⟩
theorem NamesOK.sub {l m:List BSnap}(h:NamesOK l)(hs:m.Sublist l):NamesOK m:=by
 obtain⟨h1,h2,h3⟩:=namesOK_iff.1 h
 exact namesOK_iff.2 ⟨Nat.le_trans hs.length_le h1,fun s hm=>h2 s (hs.subset hm),(hs.map _).nodup h3⟩
section
variable {d d1:BDisk} {n:Bs} {p:Bs} {b:List Int}
theorem split_at {α:Type}{l:List α}{i:Nat}{x:α}(h:l[i]? = some x):l=l.take i++x::l.drop (i+1):=by
 have:=List.take_append_drop i l
 rw[drop_at h]at this
 exact this.symm
theorem del_sub {α:Type}{l:List α}{i:Nat}{x:α}(h:l[i]? = some x):(l.take i++l.drop (i+1)).Sublist l:=by
 conv=>rhs;rw[split_at h]
 exact List.Sublist.append_left (List.sublist_cons_self _ _) _
theorem trees_perm {i:Nat}{s:BSnap}(h:d.snaps[i]? = some s):(trees d).Perm (s.tree::d.tree::(d.snaps.take i++d.snaps.drop (i+1)).map (·.tree)):=by
 unfold trees
 refine List.Perm.trans (List.Perm.cons _ ?_) (List.Perm.swap _ _ _)
 conv=>lhs;rw[split_at h]
 simp only[List.map_append,List.map_cons]
 exact List.perm_middle
theorem sdrop_valid (h:SnapDrop d n=some d1):DiskValid d1=true:=by
 obtain⟨hd,i,s,hi,hs,hsn,rfl⟩:=drop_get h
 obtain⟨hN,hH⟩:=dd_iff.1 hd
 obtain⟨L',_,g2,g3,_⟩:=free_hol (hH.perm (trees_perm hs))
 refine dd_iff.2 ⟨hN.sub (del_sub hs),?_⟩
 show DHol (l12Free d.store s.tree) _
 rw[g2]
 exact g3
theorem back_hol (hd:DiskValid d=true){i:Nat}{s:BSnap}{st:List BHeld}(hs:d.snaps[i]? = some s)(hk:l12Keep d.store s.tree=some st) :
  ∃L',freeTs st d.tree=some L'∧l12Free st d.tree=L'∧DHol L' (s.tree::d.snaps.map (·.tree))∧∀a,us L' a=us d.store a+(cntL s.tree a:Int)-(cntL d.tree a:Int)∧(0<us L' a→by_ L' a=by_ d.store a):=by
 obtain⟨hN,hH⟩:=dd_iff.1 hd
 obtain⟨g1,g2⟩:=keep_hol hH (snap_in hs) hk
 obtain⟨L',k1,k2,k3,k4⟩:=free_hol (t:=d.tree) (ts:=s.tree::d.snaps.map (·.tree)) (g1.perm (List.Perm.swap _ _ _))
 exact⟨L',k1,k2,k3,fun a=>⟨by have:=(g2 a).1;have:=(k4 a).1;omega,fun ha=>((k4 a).2 ha).trans (g2 a).2⟩⟩
theorem back_valid (h:SnapBack d n=some d1):DiskValid d1=true:=by
 obtain⟨hd,i,s,st,hi,hs,hsn,hk,rfl⟩:=back_get h
 obtain⟨L',_,k2,k3,_⟩:=back_hol hd hs hk
 refine dd_iff.2 ⟨(dd_iff.1 hd).1,?_⟩
 show DHol (l12Free st d.tree) _
 rw[k2]
 exact k3
theorem dwrite_get (h:DiskWrite d p b=some d1):DiskValid d=true∧FileValid b=true∧∃v,l11Write ⟨d.store,d.tree⟩ p b=some v∧d1=⟨v.store,v.tree,d.snaps⟩:=by
 unfold DiskWrite at h
 split at h
 ·rename_i hc
  simp only[Bool.and_eq_true]at hc
  obtain⟨v,h1,h2⟩:=Option.map_eq_some_iff.1 h
  exact⟨hc.1,hc.2,v,h1,h2.symm⟩
 ·cases h
theorem DHol.hol {L:List BHeld}{t:List BItem}{ts:List (List BItem)}(h:DHol L (t::ts)):Hol L t :=
 ⟨h.vh,h.vt t (by simp),h.ids t (by simp),fun a=>by have:=h.use a;rw[cntD_cons]at this;omega⟩
theorem dwrite_valid (h:DiskWrite d p b=some d1):DiskValid d1=true:=by
 obtain⟨hd,hb,v,hv,rfl⟩:=dwrite_get h
 obtain⟨hN,hH⟩:=dd_iff.1 hd
 refine dd_iff.2 ⟨hN,?_⟩
 show DHol v.store (v.tree::d.snaps.map (·.tree))
 unfold l11Write at hv
 split at hv
 ·cases hv
 ·rename_i r hst
  obtain⟨s,ids⟩:=r
  split at hv
  ·cases hv
  ·rename_i t ht
   obtain⟨s',_,_,g1,g2,g3⟩:=write_ok (DHol.hol (ts:=d.snaps.map (·.tree)) hH) hst ht
   obtain⟨_,_,hsu,_⟩:=store_ok hH.vh hst
   have hv':l11Write ⟨d.store,d.tree⟩ p b=some v:=by
    simp only[l11Write,hst,ht]
    exact hv
   rw[g1]at hv'
   cases hv'
   have hu : ∀ a, us s' a = (cntD (t :: d.snaps.map (·.tree)) a : Int) := fun a => by
    have h1:=hH.use a
    have h2:us s' a=us d.store a+(cntL t a:Int)-(cntL d.tree a:Int):=(g3 a).1
    simp only[trees,cntD_cons]at h1
    rw[cntD_cons]
    omega
   refine⟨g2.vh,fun u hu2=>?_,fun u hu2 x hx=>?_,hu⟩
   ·rcases List.mem_cons.1 hu2 with rfl|hu2
    ·exact g2.vt
    ·exact hH.vt u (List.mem_cons.2 (.inr hu2))
   ·rcases List.mem_cons.1 hu2 with rfl|hu2
    ·exact g2.ids x hx
    ·refine ids_keep hH.vh g2.vh (fun a ha=>?_) (hH.ids u (List.mem_cons.2 (.inr hu2)) x hx)
     have h1:0<cnt1 a x.ids:=cnt1_pos.2 ha
     have h2:=cntL_mem hx a
     have h3:=cntD_mem hu2 a
     have h4:=hu a
     rw[cntD_cons]at h4
     have h5:0<us s' a:=by omega
     have h6:=hH.use a
     simp only[trees,cntD_cons]at h6
     exact⟨h5,((g3 a).2 h5).trans ((hsu a).2 (by omega))⟩
end
end Sp
namespace Fw
open Go
section ops
variable {P:Program} {n:Nat} {ops:Array Oper} {Q:Post} {rest:List Oper} {L:Slots} {ds:List Deferred} {w w0:World} {G0:PH} {S:List Nat} {G:PH} {B:List Res}
variable {ty:TypeId} {ps:String} {af:Array Edge}
theorem o_slice_to3 {d:Nat}{t e:TypeId}{x z u:Operand}{a:Option Addr}{m c sz j:Nat}{q:Int}(hU:P.underlying t=some (.slice e))(hS:∀w,(Go.sizeOf e).run P w= .ok sz w)(hd:Nat.blt d n=true)(hx:od L x=some (.slice a m c))
  (hz:od L z=some (.int .i64 q)) (hu:od L u=some (.int .i64 q)) (hq:q=j) (h2:j≤c)
  (next:R P n ops Q rest ((d,.slice a j j)::L) ds w):R P n ops Q (⟨some d,.slice t x none (some z) (some u),ty,ps,af,none⟩::rest) L ds w :=
 R_run hd (fun b hb => by
  subst hq
  simp[execOp,hb.eval hx,hb.eval hz,hb.eval hu,Instr.sliceAt,Instr.slice,run_underlying hU,Instr.sliceBounds,Instr.sliceBound,asIntOf,hS,h2]
  cases a<;>simp[Addr.add]) next
theorem Hp.accCut (H:Hp w0 G0 S w G B){k i:Nat}{e:TypeId}{sz m c b:Nat}{cells:List Value}(hk:nth B k=some (acc e sz (.slice (some ⟨b,0,none⟩) m c) m cells))(hi:i≤m) :
  Hp w0 G0 S w G (setN B k (acc e sz (.slice (some ⟨b,0,none⟩) i i) i (cells.take (i*sz)))):=by
 obtain⟨h0,h⟩:=(H.own _ (nth_mem hk)).1
 rcases h with ⟨h,_⟩|⟨b',cap,C,g1,g2,g3,g4,g5,g6⟩
 ·cases h
 simp only[Value.slice.injEq,Option.some.injEq,Addr.mk.injEq]at g1
 obtain⟨⟨rfl,_⟩,_,rfl⟩:=g1
 have hle:i*sz≤m*sz:=Nat.mul_le_mul_right _ hi
 have hle2:m*sz≤c*sz:=Nat.mul_le_mul_right _ g3
 refine H.upd hk rfl rfl rfl (Nat.le_refl _) (fun _ _ _=>rfl) _ ⟨?_,.inr ⟨b,i,C,rfl,g2,Nat.le_refl _,by omega,by omega,?_⟩⟩ (fun c hc=>by simp[acc_fp]at hc;left;simp[acc_fp,hc]) (by simp[acc_fp])
 ·rw[List.length_take,h0];omega
 ·rw[←g6,List.take_take,Nat.min_eq_left hle]
theorem o_append_cut {α:Type}{E:PH→α→List Value→Prop}(k:Nat)(H:Hp w0 G0 S w G B)(i:Nat){d:Nat}{t e:TypeId}{inf:TypeInfo}{sz bytes:Nat}{x y:Operand}{a:Option Addr}{m c:Nat}{cells:List Value}{xs:List α}
  (hk:nth B k=some (acc e sz (.slice a m c) m cells)) (hc:Chk E sz G cells xs) (hE:∀z cs,E G z cs→∀u ∈ cs,u.oneCell'=true) (hU:P.underlying t=some (.slice e)) (hI:∀w,(typeInfo e).run P w= .ok inf w)
  (hz:∃z,inf.zero=some z∧(vc z).length=sz) (hs:inf.size=sz) (hby:inf.bytes=bytes) (hsz:Nat.blt 0 sz=true) (hd:Nat.blt d n=true)
  (hx:od L x=some (.slice a i i)) (hy:od L y=some (.slice (if c=i+1 then a else a.map (·.add ((i+1)*sz))) (m-(i+1)) (c-(i+1)))) (hi:i<xs.length) (hm:m=xs.length) (hb:m≤2199023255552) (hb2:Nat.ble bytes 64=true)
  (next:∀v' w',Hp w0 G0 S w' G (setN B k (acc e sz v' (i+(m-(i+1))) (cells.take (i*sz)++cells.drop ((i+1)*sz))))→Chk E sz G (cells.take (i*sz)++cells.drop ((i+1)*sz)) (xs.take i++xs.drop (i+1)) →
   R P n ops Q rest ((d,v')::L) ds w'):R P n ops Q (⟨some d,.call ⟨.builtin .append,#[x,y],#[t,t]⟩,ty,ps,af,none⟩::rest) L ds w:=by
 obtain⟨z,hz1,hz2⟩:=hz
 obtain⟨b,cap,C,h1,h2,h3,h4,h5,h6⟩:=H.accBlk hk (i:=i) (by omega)
 simp only[Value.slice.injEq]at h1
 obtain⟨rfl,_,rfl⟩:=h1
 have hcl:=hc.length
 have e1:m*sz=i*sz+sz+(m-(i+1))*sz:=by
  have:m=i+1+(m-(i+1)):=by omega
  conv=>lhs;rw[this,Nat.add_mul,Nat.add_mul,Nat.one_mul]
 have e2:(i+1)*sz=i*sz+sz:=by rw[Nat.add_mul];omega
 have hnl:(cells.drop ((i+1)*sz)).length=(m-(i+1))*sz:=by
  rw[List.length_drop,hcl,←hm]
  omega
 have hone:=hc.onecells hE
 have hr : ∃ ad, (if c = i + 1 then some (⟨b, 0, none⟩ : Addr) else (some ⟨b, 0, none⟩ : Option Addr).map (·.add ((i + 1) * sz))) = some ad ∧ ∀ j u, (cells.drop ((i + 1) * sz))[j]? = some u → w.cell? (ad.add j) = some u := by
  by_cases hci:c=i+1
  ·refine⟨⟨b,0,none⟩,by simp[hci],fun j u hu=>?_⟩
   have:=(List.getElem?_eq_some_iff.1 hu).1
   rw[hnl,show m-(i+1)=0 by omega]at this
   omega
  ·refine⟨⟨b,(i+1)*sz,none⟩,by simp[hci,Addr.add_lit],fun j u hu=>?_⟩
   rw[List.getElem?_drop]at hu
   rw[Addr.add_lit]
   exact acc_cell H hk hu
 obtain⟨ad,hr1,hr2⟩:=hr
 rw[hr1]at hy
 have H1:=H.accCut hk (i:=i) (by omega)
 have hkl:k<B.length:=by rw[nth_eq]at hk;exact(List.getElem?_eq_some_iff.1 hk).1
 have hk1:nth (setN B k (acc e sz (.slice (some ⟨b,0,none⟩) i i) i (cells.take (i*sz)))) k=some (acc e sz (.slice (some ⟨b,0,none⟩) i i) i (cells.take (i*sz))):=by rw[nth_eq,setN_eq];simp[hkl]
 obtain ⟨v', w', hrun, H2⟩ := run_append_acc (P := P) (ty := ty) H1 hU (info_of hI) hz1 hs hby (by rw [vc_eq]; simpa using hz2) (by simpa using hsz) hk1 (a := ad) (m := m - (i + 1)) (c := c - (i + 1)) hnl hr2 (fun u hu => hone u (List.mem_of_mem_drop hu))
  (by simp only [maxLen]; omega) (by
   simp only[MAXB]
   calc (i + (m - (i + 1))) * bytes ≤ 2199023255552 * 64 := Nat.mul_le_mul (by omega) (by simpa using hb2)
    _≤_:=by decide)
 refine R_run hd (w':=w') (fun f hf=>by simp[execOp,resolve,invoke,builtin,hf.eval hx,hf.eval hy,hrun]) (next v' _ ?_ ((hc.takeC i).app (hc.dropC (i+1))))
 simpa [setN_eq,List.set_set] using H2
end ops
theorem All2.del {α β:Type}{R:α→β→Prop}{l:List α}{m:List β}(h:All2 R l m):∀(i:Nat),All2 R (l.take i++l.drop (i+1)) (m.take i++m.drop (i+1)):=by
 induction h with
 | nil=>intro i;simp;exact .nil
 | cons h t ih =>
  intro i
  cases i with
  | zero=>simpa using t
  | succ i=>simpa using .cons h (ih i)
end Fw
namespace Fw
open Sp
theorem sn_at {xs : List (Bs × Nd)} {L : List BSnap} {n : Bs} (h : SnOK xs L) (hc : ¬ optI (xs.findIdx? (fun x => decide (x.1 = n))) < 0) :
  ∃(i:Nat) (x:Bs×Nd) (s:BSnap),optI (xs.findIdx? (fun x=>decide (x.1=n)))=(i:Int)∧xs[i]? = some x∧L[i]? = some s∧atS L n=some i∧Nd.TOK x.2 s.tree∧i<xs.length:=by
 have hf:=sn_find h n
 cases e:xs.findIdx? (fun x=>decide (x.1=n)) with
 | none=>rw[e]at hc;simp[optI]at hc
 | some i =>
  rw[e]at hf
  obtain⟨h1,h2,h3⟩:=List.findIdx?_eq_some_iff_getElem.1 e
  obtain⟨s,h4,h5⟩:=h.at (i:=i) (x:=xs[i]) (by simp)
  exact⟨i,xs[i],s,rfl,by simp,h4,hf.symm,h5.2.1,h1⟩
end Fw
namespace Sp
open Fw
section
variable {d d1:BDisk} {n:Bs} {p:Bs} {b:List Int}
theorem back_isv (h:SnapBack d n=some d1):DiskValid d=true:=(back_get h).1
theorem sdrop_isv (h:SnapDrop d n=some d1):DiskValid d=true:=(drop_get h).1
theorem back_eq (hd : DiskValid d = true) {i : Nat} {s : BSnap} (hi : atS d.snaps n = some i) (hs : d.snaps[i]? = some s) : SnapBack d n = (l12Keep d.store s.tree).map (fun st => ⟨l12Free st d.tree, s.tree, d.snaps⟩) := by
 unfold SnapBack
 rw[hi]
 simp only[hd,if_true,hs,Option.map_some,Option.getD_some]
theorem sdrop_eq (hd:DiskValid d=true){i:Nat}{s:BSnap}(hi:atS d.snaps n=some i)(hs:d.snaps[i]? = some s):SnapDrop d n=some ⟨l12Free d.store s.tree,d.tree,d.snaps.take i++d.snaps.drop (i+1)⟩:=by
 unfold SnapDrop
 rw[hi]
 simp only[hd,if_true,hs,Option.map_some,Option.getD_some]
theorem back_noat (h:optI (atS d.snaps n)<0):SnapBack d n=none:=by
 cases e:atS d.snaps n with
 | none=>unfold SnapBack;rw[e]
 | some i=>rw[e]at h;simp only[optI]at h;omega
theorem sdrop_noat (h:optI (atS d.snaps n)<0):SnapDrop d n=none:=by
 cases e:atS d.snaps n with
 | none=>unfold SnapDrop;rw[e]
 | some i=>rw[e]at h;simp only[optI]at h;omega
theorem back_nov (h:DiskValid d=false):SnapBack d n=none:=by
 cases e:SnapBack d n with
 | none=>rfl
 | some q=>rw[back_isv e]at h;cases h
theorem sdrop_nov (h:DiskValid d=false):SnapDrop d n=none:=by
 cases e:SnapDrop d n with
 | none=>rfl
 | some q=>rw[sdrop_isv e]at h;cases h
theorem sdrop_free (hd:DiskValid d=true){i:Nat}{s:BSnap}(hs:d.snaps[i]? = some s):freeTs d.store s.tree=some (l12Free d.store s.tree):=by
 obtain⟨hN,hH⟩:=dd_iff.1 hd
 obtain⟨L',g1,g2,_⟩:=free_hol (hH.perm (trees_perm hs))
 rw[g1,g2]
theorem dk_lim {o:Option BDisk}(h:∀d1,o=some d1→DiskValid d1=true):((o.map (·.snaps)).getD []).length≤6:=by
 cases o with
 | none=>simp
 | some d1=>exact(dv_parts.1 (h d1 rfl)).2.2.1
end
theorem l12Free_len:∀(l:List BItem) (s:List BHeld),(l12Free s l).length≤s.length
 | [],s=>by simp[l12Free]
 | x :: r, s => by
  have h1:=free_len s x.ids
  have h2:=l12Free_len r ((FileFree s x.ids).getD [])
  have:l12Free s (x::r)=l12Free ((FileFree s x.ids).getD []) r:=by simp[l12Free]
  rw[this]
  omega
theorem freeOld_len (s:List BHeld)(l:List BItem):(freeOld s l).length≤s.length:=by
 cases l with
 | nil=>exact Nat.le_refl _
 | cons x r=>exact free_len s x.ids
theorem l11Write_slen (v:BVol)(p:Bs)(b:List Int):(((l11Write v p b).map (·.store)).getD []).length≤16:=by
 have h:=fileStore_len v.store b
 unfold l11Write
 cases e:FileStore v.store b with
 | none=>simp
 | some r =>
  rw[e]at h
  simp only[Option.map_some,Option.getD_some]at h
  have h2:=freeOld_len r.1 (l11Ids v.tree p)
  cases e2:TreePut v.tree ⟨p,false,r.2⟩ with
  | none=>simp[e2]
  | some t=>simp[e2];omega
end Sp
namespace Fw
open Go
section
variable {P:Program} {n:Nat} {Q:Post} {L:Slots} {ds:List Deferred} {w:World}
def JP (n:Nat)(ds:List Deferred)(Lf:Slots)(J:Slots→World→Prop):Post:=fun e a w=>e= .normal∧∃M,FrL n (M++Lf) ds a∧J M w
theorem W_join {x y:Code}(Lf:Slots)(J:Slots→World→Prop)(hf:Sub Lf L)(first:W P n (JP n ds Lf J) x L ds w)(second:∀M w,J M w→W P n Q y (M++Lf) ds w):W P n Q (.seq x y) L ds w :=
 W_seq (fun a ha => wp_mono (first a ha) (fun e a' w' hq => by
  obtain⟨he,M,hF,hJ⟩:=hq
  subst he
  exact second M w' hJ a' hF))
theorem N_J {Lf : Slots} {J : Slots → World → Prop} {M : Slots} (hJ : J M w) (hM : Sub M L := by (repeat (first | exact Sub.nil | refine Sub.cons rfl ?_))) (hf : Sub Lf L := by (repeat (first | exact Sub.nil | refine Sub.cons rfl ?_))) : N n (JP n ds Lf J) .normal L ds w :=
 fun _ ha=>⟨rfl,M,ha.sub (hM.app hf),hJ⟩
end
def selB {α:Type}(B:List α):List Nat→Option (List α)
 | []=>some []
 | k :: ks => match nth B k, selB B ks with
  | some r,some rs=>some (r::rs)
  | _,_=>none
theorem selB_cons {α:Type}{B:List α}{k:Nat}{ks:List Nat}{Bs:List α}(h:selB B (k::ks)=some Bs):∃r rs,nth B k=some r∧selB B ks=some rs∧Bs=r::rs:=by
 simp only[selB]at h
 split at h
 ·next r rs h1 h2=>exact⟨r,rs,h1,h2,(Option.some.inj h).symm⟩
 ·cases h
theorem selB_mem {α:Type}{B:List α}:∀{ks:List Nat} {Bs:List α},selB B ks=some Bs→∀r,r ∈ Bs→∃k,k ∈ ks∧nth B k=some r
 | [], Bs, h, r, hr => by
  simp only[selB,Option.some.injEq]at h
  subst h
  simp at hr
 | k :: ks, Bs, h, r, hr => by
  obtain⟨q,rs,h1,h2,rfl⟩:=selB_cons h
  rcases List.mem_cons.1 hr with rfl|hr
  ·exact⟨k,by simp,h1⟩
  ·obtain⟨j,hj,hn⟩:=selB_mem h2 r hr
   exact⟨j,by simp[hj],hn⟩
theorem fps_apart:∀{B:List Res} {j k:Nat} {q r:Res} {b:Nat},(fps B).Nodup→nth B j=some q→nth B k=some r→j≠k→b ∈ q.fp→b ∈ r.fp→False
 | [],j,_,q,_,_,_,h,_,_,_,_=>by simp[nth]at h
 | x::t,0,0,_,_,_,_,_,_,h,_,_=>h rfl
 | x :: t, 0, k + 1, q, r, b, hn, h1, h2, _, hq, hr => by
  simp only[nth,Option.some.injEq]at h1 h2
  subst h1
  have:=List.nodup_append.1 (show(x.fp++fps t).Nodup from hn)
  exact this.2.2 b hq b (List.mem_flatMap.2 ⟨r,nth_mem h2,hr⟩) rfl
 | x :: t, j + 1, 0, q, r, b, hn, h1, h2, _, hq, hr => by
  simp only[nth,Option.some.injEq]at h1 h2
  subst h2
  have:=List.nodup_append.1 (show(x.fp++fps t).Nodup from hn)
  exact this.2.2 b hr b (List.mem_flatMap.2 ⟨q,nth_mem h1,hq⟩) rfl
 | x :: t, j + 1, k + 1, q, r, b, hn, h1, h2, hne, hq, hr => by
  simp only[nth]at h1 h2
  have:=List.nodup_append.1 (show(x.fp++fps t).Nodup from hn)
  exact fps_apart this.2.1 h1 h2 (by omega) hq hr
theorem fp_nodup:∀{B:List Res} {k:Nat} {r:Res},(fps B).Nodup→nth B k=some r→r.fp.Nodup
 | [],_,_,_,h=>by simp[nth]at h
 | x :: t, 0, r, hn, h => by
  simp only[nth,Option.some.injEq]at h
  subst h
  exact(List.nodup_append.1 (show(x.fp++fps t).Nodup from hn)).1
 | x :: t, k + 1, r, hn, h => by
  simp only[nth]at h
  exact fp_nodup (List.nodup_append.1 (show(x.fp++fps t).Nodup from hn)).2.1 h
theorem selB_nodup {B:List Res}(hn:(fps B).Nodup):∀{ks:List Nat} {Bs:List Res},selB B ks=some Bs→ks.Nodup→(fps Bs).Nodup
 | [], Bs, h, _ => by
  simp only[selB,Option.some.injEq]at h
  subst h
  simp[fps]
 | k :: ks, Bs, h, hk => by
  obtain⟨r,rs,h1,h2,rfl⟩:=selB_cons h
  have hk':=List.nodup_cons.1 hk
  refine List.nodup_append.2 ⟨fp_nodup hn h1,selB_nodup hn h2 hk'.2,fun a ha b hb e=>?_⟩
  subst e
  obtain⟨q,hq,hb⟩:=List.mem_flatMap.1 hb
  obtain⟨j,hj,hjq⟩:=selB_mem h2 q hq
  exact fps_apart hn h1 hjq (fun e=>hk'.1 (e▸hj)) ha hb
theorem Hp.sel {w0 : World} {P0 : PH} {S : List Nat} {w : World} {P : PH} {B : List Res} (H : Hp w0 P0 S w P B) (ks : List Nat) {Bs : List Res} (h : selB B ks = some Bs) (hk : ks.Nodup := by decide) : Hp w0 P0 S w P Bs :=
 ⟨H.os,H.tape,H.output,H.size,H.ext,H.sub,H.le,H.old,fun r hr=>let ⟨_,_,hn⟩:=selB_mem h r hr;H.own r (nth_mem hn),selB_nodup H.nd h hk⟩
end Fw
namespace Sp
open Fw Nd
def ids (L:List BHeld):List Int:=L.map (·.id)
end Sp
namespace Fw
structure BOp where
 kind:Int
 path:Bs
 bytes:List Int
end Fw
namespace Sp
open Fw Nd
def opOk (o:BOp):Bool :=
 if o.kind=1∨o.kind=3 then PathValid o.path&&decide (o.bytes=[])
 else if o.kind=2 then PathValid o.path&&FileValid o.bytes
 else if o.kind=4 then l1Word o.path&&decide (o.bytes=[])
 else false
def withVol (d:BDisk)(u:BVol):BDisk:=⟨u.store,u.tree,d.snaps⟩
def DiskDir (d:BDisk)(p:Bs):Option BDisk:=if DiskValid d then(l11Dir d.store d.tree p).map (withVol d) else none
def DiskDrop (d:BDisk)(p:Bs):Option BDisk:=if DiskValid d then(l11Drop d.store d.tree p).map (withVol d) else none
def OpRun (d:BDisk)(o:BOp):Option BDisk :=
 if opOk o then
  if o.kind=1 then DiskDir d o.path
  else if o.kind=2 then DiskWrite d o.path o.bytes
  else if o.kind=3 then DiskDrop d o.path
  else SnapTake d o.path
 else none
section
variable {d d1:BDisk} {p:Bs} {o:BOp}
end
def jgo:BDisk→List BOp→BDisk×Nat
 | d,[]=>(d,0)
 | d, o :: r => match OpRun d o with
  | none=>(d,0)
  | some d1=>((jgo d1 r).1,(jgo d1 r).2+1)
end Sp
namespace Fw
structure BPart where
 kind:Int
 path:Bs
 dir:Bool
 bytes:List Int
end Fw
namespace Sp
open Fw Nd
section
variable {d d1:BDisk} {x:BPart}
end
section
variable {d d1:BDisk} {x:BPart}
end
def seen (L:List BHeld)(x:BItem):Bs×Bool×List Int:=(x.path,x.dir,load L x.ids)
section
variable {d d1:BDisk} {f t:Bs}
end
end Sp
namespace Fw
structure BQuota where
 dir:Bs
 most:Int
end Fw
namespace Sp
open Fw Nd
section
variable {d x:BDisk} {l:List BQuota} {p:Bs} {n:Int} {b:List Int}
end
section
variable {L:List BHeld} {k:Nat} {h:BHeld} (e:L[k]? = some h)
include e
end
end Sp
namespace Fw
open Go
inductive RunSeg (T:TypeId) (G:PH):Value→List (Int×Int)→Value→Prop
 | nil (v:Value):RunSeg T G v [] v
 | cons {b:Nat} {m x:Int} {v e:Value} {r:List (Int×Int)} (h:G b=some (cl [.int .i64 m,.int .i64 x,v] T)) (hm:inI m) (hx:inI x) (hr:RunSeg T G v r e):RunSeg T G (.pointer (some ⟨b,0,none⟩)) ((m,x)::r) e
theorem RunSeg.up {T:TypeId}{G G':PH}{v e:Value}{r:List (Int×Int)}(h:RunSeg T G v r e)(hle:PLe G G'):RunSeg T G' v r e:=by
 induction h with
 | nil v=>exact .nil v
 | cons h hm hx _ ih=>exact .cons (hle _ _ h) hm hx ih
theorem RunSeg.snoc {T:TypeId}{G:PH}{v:Value}{r:List (Int×Int)}{b:Nat}{m x:Int}{e:Value}(h:RunSeg T G v r (.pointer (some ⟨b,0,none⟩)))(hb:G b=some (cl [.int .i64 m,.int .i64 x,e] T))(hm:inI m)(hx:inI x):RunSeg T G v (r++[(m,x)]) e:=by
 generalize hp:Value.pointer (some ⟨b,0,none⟩)=p at h
 induction h with
 | nil v=>subst hp;exact .cons hb hm hx (.nil e)
 | cons h hm' hx' _ ih=>exact .cons h hm' hx' (ih hp)
def RunP (T:TypeId)(G:PH)(v:Value)(r:List (Int×Int)):Prop:=RunSeg T G v r (.pointer none)
theorem RunP.up {T:TypeId}{G G':PH}{v:Value}{r:List (Int×Int)}(h:RunP T G v r)(hle:PLe G G'):RunP T G' v r:=RunSeg.up h hle
theorem RunP.nil {T:TypeId}{G:PH}:RunP T G (.pointer none) []:=RunSeg.nil _
theorem RunP.open {T:TypeId}{G:PH}{v:Value}{r:List (Int×Int)}(h:RunP T G v r):(v= .pointer none∧r=[])∨∃b m x v' r',v= .pointer (some ⟨b,0,none⟩)∧r=(m,x)::r'∧G b=some (cl [.int .i64 m,.int .i64 x,v'] T)∧inI m∧inI x∧RunP T G v' r':=by
 unfold RunP at h
 cases h with
 | nil=>exact .inl ⟨rfl,rfl⟩
 | cons h hm hx hr=>exact .inr ⟨_,_,_,_,_,rfl,rfl,h,hm,hx,hr⟩
theorem RunP.row {T:TypeId}{G:PH}{b:Nat}{m x:Int}{v:Value}(h:G b=some (cl [.int .i64 m,.int .i64 x,v] T)):PRow G b 0 [.int .i64 m,.int .i64 x,v]:=by
 intro j u hu
 exact⟨_,_,_,h,by simpa using hu⟩
section
variable {P:Program} {n:Nat} {ops:Array Oper} {Q:Post} {rest:List Oper} {L:Slots} {ds:List Deferred} {w w0:World} {G0:PH} {S:List Nat} {G:PH} {B:List Res} {ty:TypeId} {ps:String} {af:Array Edge}
theorem RunP.shape {T:TypeId}{G:PH}{v:Value}{r:List (Int×Int)}(h:RunP T G v r):∃p,v= .pointer p:=by
 rcases h.open with ⟨rfl,_⟩|⟨b,m,x,v',r',rfl,_⟩<;>exact⟨_,rfl⟩
theorem RunP.over {T:TypeId}{G:PH}{p:Option Addr}{r:List (Int×Int)}(h:RunP T G (.pointer p) r)(hp:p.isNone=true):r=[]:=by
 rcases h.open with ⟨_,h2⟩|⟨b,m,x,v',r',h1,_⟩
 ·exact h2
 ·cases h1;simp at hp
end
section
variable {P:Program} {n:Nat} {ops:Array Oper} {Q:Post} {rest:List Oper} {L:Slots} {ds:List Deferred} {w:World} {ty:TypeId} {ps:String} {af:Array Edge}
end
theorem nrm:(∀(p:Prop) [Decidable p],(decide p=true)=p)∧(∀(p:Prop) [Decidable p],(decide p=false)↔¬p)∧(∀{b:Bool},((!b)=true)=(b=false))∧(∀{b:Bool},((!b)=false)=(b=true)) ∧
  (∀{a b:Bool},((!a)=b)↔(a= !b))∧((!true)=false)∧((!false)=true)∧(∀{a b:Int},(¬a<b)↔b≤a)∧(∀{a b:Int},(¬a≤b)↔b<a)∧(∀(x y:Bool),((x&&y)=true)=(x=true∧y=true))∧(∀(x y:Bool),((x||y)=true)=(x=true∨y=true)) ∧
  (∀(x y:Bool),((x&&y)=false)=(x=false∨y=false))∧(∀(x y:Bool),((x||y)=false)=(x=false∧y=false))∧(∀{α:Type} [BEq α] [LawfulBEq α] {a b:α},((a==b)=true)↔a=b)∧(∀{α:Type} [BEq α] [LawfulBEq α] {x y:α},((x==y)=false)↔x≠y)∧(∀(b:Bool),decide (b=true)=b):=by
 refine⟨?_,?_,?_,?_,?_,?_,?_,?_,?_,?_,?_,?_,?_,?_,?_,?_⟩<;>intros<;>first|rfl|(simp only[decide_eq_true_eq,decide_eq_false_iff_not,Bool.not_eq_true',Bool.not_eq_false',Bool.not_eq_eq_eq_not,Bool.not_true,Bool.not_false,Int.not_lt,Int.not_le,Bool.and_eq_true,Bool.or_eq_true,Bool.and_eq_false_iff,Bool.or_eq_false_iff,beq_iff_eq,beq_eq_false_iff_ne,Bool.decide_eq_true])|simp
section
variable {P:Program} {n:Nat} {Q:Post} {L:Slots} {ds:List Deferred} {w:World} {ops:Array Oper} {y c:Code} {id:Nat} {l:List Oper}
theorem q1 (h:R P n l.toArray (K P y Q) l L ds w):R P n ops (K P (.seq (.region id l.toArray false) y) Q) [] L ds w:=R_nil (N_K (W_seq (W_region h)))
theorem q2 (h:R P n l.toArray (K P y Q) l L ds w):W P n Q (.seq (.region id l.toArray false) y) L ds w:=W_seq (W_region h)
theorem q3 (h:W P n Q c L ds w):R P n ops (K P c Q) [] L ds w:=R_nil (N_K h)
variable {d:Nat} {op:Op} {ty:TypeId} {ps:String} {af:Array Edge} {S:World→Prop} {f:Nat} {ls:Array Bool} {v:Value} {j:Nat} {b:Bool}
def rdy (l:List Oper)(ls:Array Bool)(i:Nat):Bool:=Region.noSelect l.toArray&&Region.free .any l.toArray ls i&&(Region.ready .any l.toArray ls).contains i
theorem RD_t (i:Nat)(hi:nth l i=some ⟨some d,op,ty,ps,af,none⟩)(hb:rdy l ls i=true)(hd:Nat.blt d n=true)(hv:∀w,S w→VAL P n L ds w ⟨some d,op,ty,ps,af,none⟩ v)
  (h:RD P n l Q S f (ls.setIfInBounds i true) ((d,v)::L) ds w):RD P n l Q S (f+1) ls L ds w:=by
 simp only[rdy,Bool.and_eq_true]at hb
 exact RD_take i hi hb.1.1 hb.1.2 hb.2 hd hv h
theorem RD_tg (i:Nat)(hi:nth l i=some ⟨some d,op,ty,ps,af,some (j,b)⟩)(hb:rdy l ls i=true)(hd:Nat.blt d n=true)(hy:∀a,FrL n L ds a→yielded l.toArray a.tmps j=some b)(hv:∀w,S w→VAL P n L ds w ⟨some d,op,ty,ps,af,none⟩ v)
  (h:RD P n l Q S f (ls.setIfInBounds i true) ((d,v)::L) ds w):RD P n l Q S (f+1) ls L ds w:=by
 simp only[rdy,Bool.and_eq_true]at hb
 exact RD_takeg i hi hb.1.1 hb.1.2 hb.2 hd hy hv h
end
theorem Z.{u}{α:Sort u}{a:α}:a=a:=rfl
theorem kR {p:Prop}(h:p:=by kernel_rfl):p:=h
theorem oM {p:Prop}(h:p:=by omega):p:=h
theorem oO {a b:Prop}(h:(a∧b):=by exact⟨by omega,by omega⟩):a∧b:=h
theorem aN {p:Prop}(h:p:=by first|assumption|rfl|(simp;done)|(simp;omega)|omega):p:=h
def odl (n d:Nat)(L:Slots)(x:Operand):Option Value:=cond (Nat.blt d n) (od L x) none
theorem odl_some {n d:Nat}{L:Slots}{x:Operand}{v:Value}(h:odl n d L x=some v):Nat.blt d n=true∧od L x=some v:=by
 unfold odl at h
 cases e:Nat.blt d n with
 | true=>rw[e]at h;exact⟨rfl,h⟩
 | false=>rw[e]at h;cases h
def guardOk (l : List Oper) (L : Slots) (i : Nat) (c : Bool) : Bool := match gs l i with
 | some t=>(match lk L t with |some (.bool b)=>(b==c)|_=>false)
 | none=>false
section
variable {P:Program} {n:Nat} {Q:Post} {L:Slots} {ds:List Deferred} {w:World} {ops:Array Oper} {l rest:List Oper} {ty:TypeId} {ps:String} {af:Array Edge} {d:Nat} {x:Operand} {v:Value} {op:Op} {i:Nat} {b:Bool} {S:World→Prop} {f:Nat} {ls:Array Bool}
theorem mV (h:odl n d L x=some v)(next:R P n ops Q rest ((d,v)::L) ds w):R P n ops Q (⟨some d,.move x,ty,ps,af,none⟩::rest) L ds w:=o_move (odl_some h).1 (odl_some h).2 next
theorem aG (h:odl n d L x=some v)(next:R P n ops Q rest ((d,v)::L) ds w):R P n ops Q (⟨some d,.assign x,ty,ps,af,none⟩::rest) L ds w:=o_assign (odl_some h).1 (odl_some h).2 next
theorem gR {dd:Option Nat}(h:guardOk l L i b=true)(next:R P n l.toArray Q (⟨dd,op,ty,ps,af,none⟩::rest) L ds w):R P n l.toArray Q (⟨dd,op,ty,ps,af,some (i,b)⟩::rest) L ds w:=by
 unfold guardOk at h
 cases e:gs l i with
 | none=>rw[e]at h;cases h
 | some t =>
  rw[e]at h
  simp only at h
  split at h
  ·rename_i c e2
   obtain rfl:c=b:=by simpa using h
   exact R_guard (yl e e2) next
  ·cases h
end
section
variable {n:Nat} {P:Program} {Q:Post} {L:Slots} {ds:List Deferred} {w:World} {fn:Func} {C:Ending→World→Prop}
theorem rt1 {t:Nat}{v:Value}(hr:fn.results= #[.tmp t])(h:lk L t=some v)(hR:C (.returned (tupleOf [v])) w):N n (bodyPost P fn C) .ret L [] w:=ret_gen (rs:=[.tmp t]) (vs:=[v]) hr ⟨h,trivial⟩ hR
theorem rt2 {t t2:Nat}{v v2:Value}(hr:fn.results= #[.tmp t,.tmp t2])(h:lk L t=some v)(h2:lk L t2=some v2)(hR:C (.returned (tupleOf [v,v2])) w):N n (bodyPost P fn C) .ret L [] w:=ret_gen (rs:=[.tmp t,.tmp t2]) (vs:=[v,v2]) hr ⟨h,h2,trivial⟩ hR
theorem W_lp {c:Code}(Lf:Slots)(J:Slots→World→Nat→Prop)(M0:Slots)(m0:Nat)(hf:Sub Lf L)(h0:J M0 w m0)
  (round:∀M w m,J M w m→W P n (LP n ds Lf J m Q) c (M++Lf) ds w) (hM:Sub M0 L:=by repeat (first|exact Sub.nil|refine Sub.cons rfl ?_)):W P n Q (.loop c) L ds w:=W_loop Lf J M0 m0 hf hM h0 round
theorem N_lp {Lf:Slots}{J:Slots→World→Nat→Prop}{m:Nat}{M:Slots}{m':Nat}(hJ:J M w m')(hm:m'<m)(hM:Sub M L:=by repeat (first|exact Sub.nil|refine Sub.cons rfl ?_))(hf:Sub Lf L:=by repeat (first|exact Sub.nil|refine Sub.cons rfl ?_)):N n (LP n ds Lf J m Q) .normal L ds w:=N_LP hJ hM hf hm
end
class UL (P:Program) (t:TypeId) (u:outParam TypeDesc):Prop where h:P.underlying t=some u
class SZ (P:Program) (t:TypeId) (n:outParam Nat):Prop where h:∀w,(Go.sizeOf t).run P w= .ok n w
class AG (P:Program) (t:TypeId) (b:outParam Bool):Prop where h:∀w,(isAgg t).run P w= .ok b w
class FA (P:Program) (t:TypeId) (i:Nat) (o:outParam Nat):Prop where h:∃fields f sz,(∀w,(underlying t).run P w= .ok (.struct fields) w)∧fields[i]? = some f∧(∀w,(Go.sizeOf f.type).run P w= .ok (sz+1) w)∧Nat.beq f.offset o=true
class CF (P:Program) (f:FuncId):Prop where h:∀args w,(callFunc f args).run P w= .ok (.enter f args) w
class ZV (P:Program) (t:TypeId) (l:outParam (List Value)):Prop where h:∃zv,(∀w,(zeroValue t).run P w= .ok zv w)∧lit (vc zv)=some l
def evCmp (b : BinOp) (k k' : IntKind) (p q : Int) : Option Value := if k = k' then (match b with
 | .lss=>some (.bool (decide (p<q)))
 | .leq=>some (.bool (decide (p≤q)))
 | .gtr=>some (.bool (decide (q<p)))
 | .geq=>some (.bool (decide (q≤p)))
 | .eql=>some (.bool (decide (p=q)))
 | .neq=>some (.bool (!decide (p=q)))
 | _=>none) else none
def evOp (L:Slots):Op→Option Value
 | .move x=>od L x
 | .assign x=>od L x
 | .nilCheck x => match od L x with
  | some (.pointer (some p))=>some (.pointer (some p))
  | _=>none
 | .extract x i => match od L x with
  | some (.tuple vs)=>vs[i]?
  | _=>none
 | .unOp .not _ x => match od L x with
  | some (.bool p)=>some (.bool (!p))
  | _=>none
 | .pick c x y => match od L c with
  | some (.bool true)=>od L x
  | some (.bool false)=>od L y
  | _=>none
 | .binOp b _ x y _ => match od L x, od L y with
  | some (.int k p),some (.int k' q)=>evCmp b k k' p q
  | _,_=>none
 | _=>none
section
variable {P:Program} {n:Nat} {L:Slots} {ds:List Deferred} {w:World} {ty:TypeId} {ps:String} {af:Array Edge}
theorem evOp_val {d:Nat}{op:Op}{v:Value}(h:evOp L op=some v):VAL P n L ds w ⟨some d,op,ty,ps,af,none⟩ v:=by
 unfold evOp at h
 split at h
 ·exact v_move h
 ·exact v_assign h
 ·split at h
  ·rename_i x p e;cases h;exact v_nilCheck e
  ·cases h
 ·split at h
  ·rename_i x i vs e;exact v_extract e h
  ·cases h
 ·split at h
  ·rename_i x p e;cases h;exact v_not e
  ·cases h
 ·split at h
  ·rename_i e;exact v_pick_t e h
  ·rename_i e;exact v_pick_f e h
  ·cases h
 ·split at h
  ·rename_i b _ x y _ _ _ k p k' q e1 e2
   unfold evCmp at h
   split at h
   ·rename_i hk;subst hk
    split at h<;>first|(cases h;first|exact v_lss e1 e2|exact v_leq e1 e2|exact v_gtr e1 e2|exact v_geq e1 e2|exact v_eql e1 e2|exact v_neq e1 e2)|cases h
   ·cases h
  ·cases h
 ·cases h
def evG (ol:List Oper)(L:Slots)(op:Op):Option (Nat×Bool)→Option Value
 | none=>evOp L op
 | some (j, b) => match gs ol j with
  | some t => (match lk L t with
   | some (.bool c) => (match c, b with
    | true,true=>evOp L op
    | false,false=>evOp L op
    | _,_=>some undef)
   | _=>none)
  | none=>none
theorem evG_or {ol:List Oper}{op:Op}{g:Option (Nat×Bool)}{v:Value}(h:evG ol L op g=some v) :
  (g=none∧evOp L op=some v)∨(∃j b t,g=some (j,b)∧gs ol j=some t∧lk L t=some (.bool b)∧evOp L op=some v)∨(∃j b t c,g=some (j,b)∧gs ol j=some t∧lk L t=some (.bool c)∧(c==b)=false∧v=undef):=by
 unfold evG at h
 split at h
 ·exact .inl ⟨rfl,h⟩
 ·rename_i j b
  split at h
  ·rename_i t e1
   split at h
   ·rename_i c e2
    split at h
    ·exact .inr (.inl ⟨j,_,t,rfl,e1,e2,h⟩)
    ·exact .inr (.inl ⟨j,_,t,rfl,e1,e2,h⟩)
    ·rename_i h1 h2
     refine .inr (.inr ⟨j,b,t,c,rfl,e1,e2,?_,by cases h;rfl⟩)
     cases c<;>cases b<;>simp_all
   ·cases h
  ·cases h
def evO (n : Nat) (ol : List Oper) (L : Slots) (o : Oper) : Option Slots := match o.dst with
 | some d => (match Nat.blt d n, evG ol L o.op o.guard with
  | true,some v=>some ((d,v)::L)
  | _,_=>none)
 | none=>none
def evK (n:Nat)(ol:List Oper):Nat→List Oper→Slots→Option (List Oper×Slots)
 | 0,l,L=>some (l,L)
 | _+1,[],_=>none
 | k + 1, o :: r, L => match evO n ol L o with
  | some L'=>evK n ol k r L'
  | none=>none
variable {ol:List Oper} {Q:Post} {rest:List Oper}
theorem evO_R {o:Oper}{L':Slots}(h:evO n ol L o=some L')(next:R P n ol.toArray Q rest L' ds w):R P n ol.toArray Q (o::rest) L ds w:=by
 obtain⟨dst,op,ty,ps,af,g⟩:=o
 unfold evO at h
 simp only at h
 split at h
 ·rename_i d
  split at h
  ·rename_i v hd hv
   cases h
   rcases evG_or hv with ⟨rfl,h1⟩|⟨j,b,t,rfl,h1,h2,h3⟩|⟨j,b,t,c,rfl,h1,h2,h3,rfl⟩
   ·exact R_run hd (evOp_val h1) next
   ·exact R_guard (yl h1 h2) (R_run hd (evOp_val h3) next)
   ·exact R_pass hd (yl_ne h1 h2 h3) next
  ·cases h
 ·cases h
theorem pe (k:Nat){l:List Oper}{L':Slots}(h:evK n ol k l L=some (rest,L'))(next:R P n ol.toArray Q rest L' ds w):R P n ol.toArray Q l L ds w:=by
 induction k generalizing l L with
 | zero=>unfold evK at h;cases h;exact next
 | succ k ih =>
  cases l with
  | nil=>unfold evK at h;cases h
  | cons o r =>
   unfold evK at h
   split at h
   ·rename_i L1 h1
    exact evO_R h1 (ih h)
   ·cases h
end
theorem Z2.{u,v}{α:Sort u}{β:Sort v}{a:α}{b:β}:a=a∧b=b:=⟨rfl,rfl⟩
theorem Z3.{u,v,x}{α:Sort u}{β:Sort v}{γ:Sort x}{a:α}{b:β}{c:γ}:a=a∧b=b∧c=c:=⟨rfl,rfl,rfl⟩
theorem Z4.{u,v,x,y}{α:Sort u}{β:Sort v}{γ:Sort x}{δ:Sort y}{a:α}{b:β}{c:γ}{d:δ}:a=a∧b=b∧c=c∧d=d:=⟨rfl,rfl,rfl,rfl⟩
theorem Z7 {α1 α2 α3 α4 α5 α6 α7:Type}{a1:α1}{a2:α2}{a3:α3}{a4:α4}{a5:α5}{a6:α6}{a7:α7}:a1=a1∧a2=a2∧a3=a3∧a4=a4∧a5=a5∧a6=a6∧a7=a7:=⟨rfl,rfl,rfl,rfl,rfl,rfl,rfl⟩
theorem Z8 {α1 α2 α3 α4 α5 α6 α7 α8:Type}{a1:α1}{a2:α2}{a3:α3}{a4:α4}{a5:α5}{a6:α6}{a7:α7}{a8:α8}:a1=a1∧a2=a2∧a3=a3∧a4=a4∧a5=a5∧a6=a6∧a7=a7∧a8=a8:=⟨rfl,rfl,rfl,rfl,rfl,rfl,rfl,rfl⟩
section
variable {P:Program} {n:Nat} {ops:Array Oper} {Q:Post} {rest:List Oper} {L:Slots} {ds:List Deferred} {w w0:World} {G0:PH} {S:List Nat} {G:PH} {B:List Res} {ty:TypeId} {ps:String} {af:Array Edge}
theorem fA (off:Nat){d i:Nat}{t:TypeId}{x:Operand}{b o:Nat}(h:odl n d L x=some (.pointer (some ⟨b,o,none⟩)))(next:R P n ops Q rest ((d,.pointer (some ⟨b,o+off,none⟩))::L) ds w) [hF:FA P t i off]:R P n ops Q (⟨some d,.fieldAddr t x i,ty,ps,af,none⟩::rest) L ds w:=by
 obtain⟨fields,f,sz,h1,h2,h3,h4⟩:=hF.h
 exact o_fieldAddr off h1 h2 h3 h4 (odl_some h).1 (odl_some h).2 next
theorem lB (k:Nat)(H:Hp w0 G0 S w G B){d:Nat}{t:TypeId}{x:Operand}{b o:Nat}{l:List Value}{e:TypeId}{v:Value}(h:odl n d L x=some (.pointer (some ⟨b,o,none⟩))∧nth B k=some (blk b (cl l e))∧nth l o=some v)(next:R P n ops Q rest ((d,v)::L) ds w) [hA:AG P t false]:R P n ops Q (⟨some d,.load t x,ty,ps,af,none⟩::rest) L ds w :=
 o_load_B k H hA.h (odl_some h.1).1 (odl_some h.1).2 h.2.1 h.2.2 next
theorem lA (k sz:Nat)(H:Hp w0 G0 S w G B){d:Nat}{t:TypeId}{x:Operand}{b o:Nat}{l l':List Value}{e:TypeId}(h:odl n d L x=some (.pointer (some ⟨b,o,none⟩))∧nth B k=some (blk b (cl l e))∧lit (slc l o sz)=some l'∧Nat.beq l'.length sz=true)(next:R P n ops Q rest ((d,.agg l'.toArray)::L) ds w) [hA:AG P t true] [hS:SZ P t sz]:R P n ops Q (⟨some d,.load t x,ty,ps,af,none⟩::rest) L ds w :=
 o_loadagg_B k H hA.h hS.h (odl_some h.1).1 (odl_some h.1).2 h.2.1 h.2.2.1 h.2.2.2 next
theorem lP (H:Hp w0 G0 S w G B){b o:Nat}{l:List Value}(hr:PRow G b o l)(j:Nat){d:Nat}{t:TypeId}{x:Operand}{v:Value}(h:nth l j=some v∧odl n d L x=some (.pointer (some ⟨b,o+j,none⟩)))(next:R P n ops Q rest ((d,v)::L) ds w) [hA:AG P t false]:R P n ops Q (⟨some d,.load t x,ty,ps,af,none⟩::rest) L ds w :=
 o_load_P H hA.h (odl_some h.2).1 (odl_some h.2).2 (hr j v (by rw[←nth_eq];exact h.1)) next
theorem lN {d:Nat}{x:Operand}{t e:TypeId}{a:Option Addr}{m c:Nat}(h:odl n d L x=some (.slice a m c))(next:R P n ops Q rest ((d,.int .i64 m)::L) ds w) [hT:UL P t (.slice e)]:R P n ops Q (⟨some d,.call ⟨.builtin .len,#[x],#[t]⟩,ty,ps,af,none⟩::rest) L ds w:=o_len_slice hT.h (odl_some h).1 (odl_some h).2 next
theorem lS {d:Nat}{x:Operand}{t:TypeId}{p:List UInt8}(h:odl n d L x=some (str p))(next:R P n ops Q rest ((d,.int .i64 p.length)::L) ds w) [hT:UL P t .string]:R P n ops Q (⟨some d,.call ⟨.builtin .len,#[x],#[t]⟩,ty,ps,af,none⟩::rest) L ds w:=o_len_str hT.h (odl_some h).1 (odl_some h).2 next
theorem aD {d:Nat}{x y:Operand}{t u:TypeId}{p q:Int}(h:odl n d L x=some (.int .i64 p)∧od L y=some (.int .i64 q))(next:R P n ops Q rest ((d,.int .i64 (p+q))::L) ds w)(hr:inI (p+q):=by exact⟨by omega,by omega⟩):R P n ops Q (⟨some d,.binOp .add t x y u,ty,ps,af,none⟩::rest) L ds w:=o_add (odl_some h.1).1 (odl_some h.1).2 h.2 hr next
theorem iP {α:Type}{lim:Nat}{E:PH→α→List Value→Prop}{d:Nat}{t e:TypeId}{x y:Operand}{a:Option Addr}{xs:List α}{m c sz:Nat}{k:Int}(i:Nat)(hr:RdS lim E sz G (.slice a m c) xs)(h:Nat.blt d n=true∧od L x=some (.slice a m c)∧od L y=some (.int .i64 k))(hk:k=(i:Int))
  (next:∀b o z cs,xs[i]? = some z→E G z cs→PRow G b o cs→R P n ops Q rest ((d,.pointer (some ⟨b,o,none⟩))::L) ds w) [hU:UL P t (.slice e)] [hS:SZ P e sz] (hi:i<xs.length:=by first|omega|(simp;omega)):R P n ops Q (⟨some d,.indexAddr t x y,ty,ps,af,none⟩::rest) L ds w :=
 o_index_P i hr hU.h hS.h h.1 h.2.1 h.2.2 hk hi next
theorem xal (H:Hp w0 G0 S w G B){d:Nat}{e:TypeId}{l:List Value} [hz:ZV P e l] (hd:Nat.blt d n=true)
  (next:∀b w',w.heap.size≤b→Hp w0 G0 S w' G (blk b (cl l e)::B)→R P n ops Q rest ((d,.pointer (some ⟨b,0,none⟩))::L) ds w'):R P n ops Q (⟨some d,.alloc e,ty,ps,af,none⟩::rest) L ds w:=by
 obtain⟨zv,h1,h2⟩:=hz.h
 exact o_alloc H h1 hd h2 next
theorem xst (k : Nat) (H : Hp w0 G0 S w G B) {t : TypeId} {x y : Operand} {b o sz : Nat} {l : List Value} {e : TypeId} {v : Value} [hS : SZ P t sz] {l' : List Value} {B' : List Res} (h : od L x = some (.pointer (some ⟨b, o, none⟩)) ∧ od L y = some v ∧ nth B k = some (blk b (cl l e)) ∧ Nat.beq (vc v).length sz = true ∧ Nat.ble (o + (vc v).length) l.length = true ∧ ((vc v).all fun u => u.oneCell') = true ∧ lit (setCs l o (vc v)) = some l' ∧ lit (setN B k (blk b (cl l' e))) = some B')
  (next:∀w',Hp w0 G0 S w' G B'→R P n ops Q rest L ds w'):R P n ops Q (⟨none,.store t x y,ty,ps,af,none⟩::rest) L ds w:=by
 obtain⟨h1,h2,h3,h4,h5,h6,h7,h8⟩:=h
 exact o_store_B k H hS.h h1 h2 h3 h4 h5 h6 h7 h8 next
theorem xbs (H:Hp w0 G0 S w G B){d:Nat}{t e:TypeId}{m sz:Nat}{xs:List (Nat×Operand)}{pvs:List (Nat×Value)}{z l':List Value} [hU:UL P t (.slice e)] [hS:SZ P e sz] [hz:ZV P e z]
  (h:Nat.beq z.length sz=true∧Nat.blt 0 sz=true∧Nat.ble (m*sz) 16777216=true∧Nat.blt d n=true∧odps L xs=some pvs∧(pvs.all fun x=>Nat.blt x.1 m)=true∧(fillL (plS m 0 sz) (rep m z) pvs).bind lit=some l')
  (next:∀b w',w.heap.size≤b→Hp w0 G0 S w' G (blk b (cl l' e)::B)→R P n ops Q rest ((d,.slice (some ⟨b,0,none⟩) m m)::L) ds w'):R P n ops Q (⟨some d,.buildSlice t m xs.toArray,ty,ps,af,none⟩::rest) L ds w:=by
 obtain⟨zv,g1,g2⟩:=hz.h
 obtain⟨h1,h2,h3,h4,h5,h6,h7⟩:=h
 exact o_buildSlice H hU.h hS.h (fun w=>⟨zv,g1 w,(lit_eq g2).symm⟩) h1 h2 h3 h4 h5 h6 h7 next
theorem xr {d:Nat}{f:FuncId}{xs:List Operand}{ts:Array TypeId}{vs:List Value}{v:Value}(H:Hp w0 G0 S w G B)(h:Nat.blt d n=true∧ods L xs=some vs)(hc:Calls P f vs.toArray w (Rets w v))
  (next:∀w',Hp w0 G0 S w' G B→R P n ops Q rest ((d,v)::L) ds w') [hf:CF P f]:R P n ops Q (⟨some d,.call ⟨.value (.func f),xs.toArray,ts⟩,ty,ps,af,none⟩::rest) L ds w :=
 o_call hf.h h.1 h.2 hc (fun e w' h=>⟨v,h.1,next w' (H.step h.2)⟩)
theorem xc {d:Nat}{f:FuncId}{xs:List Operand}{ts:Array TypeId}{vs:List Value}{C:Ending→World→Prop}(h:Nat.blt d n=true∧ods L xs=some vs)(hc:Calls P f vs.toArray w C)(next:∀e w',C e w'→∃v,e= .returned v∧R P n ops Q rest ((d,v)::L) ds w') [hf:CF P f] :
  R P n ops Q (⟨some d,.call ⟨.value (.func f),xs.toArray,ts⟩,ty,ps,af,none⟩::rest) L ds w:=o_call hf.h h.1 h.2 hc next
variable {l:List Oper} {K:World→Prop} {f:Nat} {ls:Array Bool} {G':PH} {B' Bs:List Res}
theorem q4 {i : Nat} (H : Hp w0 G0 S w G' B') (hle : PLe G G') (h : RD P n l Q (fun w => Kn w G Bs) f (ls.setIfInBounds i true) L ds w)
  (hs:SubL Bs B':=by repeat (first|exact SubL.nil|refine SubL.cons 0 rfl ?_|refine SubL.cons 1 rfl ?_|refine SubL.cons 2 rfl ?_|refine SubL.cons 3 rfl ?_|refine SubL.cons 4 rfl ?_|refine SubL.cons 5 rfl ?_|refine SubL.cons 6 rfl ?_|refine SubL.cons 7 rfl ?_|refine SubL.cons 8 rfl ?_|refine SubL.cons 9 rfl ?_|refine SubL.cons 10 rfl ?_|refine SubL.cons 11 rfl ?_|refine SubL.cons 12 rfl ?_|refine SubL.cons 13 rfl ?_|refine SubL.cons 14 rfl ?_|refine SubL.cons 15 rfl ?_|refine SubL.cons 16 rfl ?_|refine SubL.cons 17 rfl ?_|refine SubL.cons 18 rfl ?_|refine SubL.cons 19 rfl ?_|refine SubL.cons 20 rfl ?_|refine SubL.cons 21 rfl ?_|refine SubL.cons 22 rfl ?_|refine SubL.cons 23 rfl ?_|refine SubL.cons 24 rfl ?_|refine SubL.cons 25 rfl ?_|refine SubL.cons 26 rfl ?_)) :
  R P n ops (DK P l Q (fun w=>Kn w G Bs) f ls i) [] L ds w:=R_nil (N_DK (Kn.of' H hle hs) h)
theorem r1 (i:Nat){o:Oper}(hi:nth l i=some o)(h:R P n l.toArray (DK P l Q K f ls i) [o] L ds w)(hr:Region.ready .any l.toArray ls=[i]:=by kernel_rfl):RD P n l Q K (f+1) ls L ds w:=RD_run [i] hr rfl (RDs.cons hi h RDs.nil)
theorem r2 (i j:Nat){o o':Oper}(hi:nth l i=some o∧nth l j=some o')(h:R P n l.toArray (DK P l Q K f ls i) [o] L ds w)(h':R P n l.toArray (DK P l Q K f ls j) [o'] L ds w)(hr:Region.ready .any l.toArray ls=[i,j]:=by kernel_rfl):RD P n l Q K (f+1) ls L ds w:=RD_run [i,j] hr rfl (RDs.cons hi.1 h (RDs.cons hi.2 h' RDs.nil))
theorem rz (h:N n Q .normal L ds w)(hr:Region.ready .any l.toArray ls=[]:=by kernel_rfl):RD P n l Q K f ls L ds w:=RD_done hr h
def gOK (l:List Oper)(L:Slots):Option (Nat×Bool)→Bool
 | none=>true
 | some (j,b)=>guardOk l L j b
def odg (n d:Nat)(l:List Oper)(L:Slots)(g:Option (Nat×Bool))(x:Operand):Option Value:=cond (Nat.blt d n&&gOK l L g) (od L x) none
theorem odg_some {n d:Nat}{l:List Oper}{L:Slots}{g:Option (Nat×Bool)}{x:Operand}{v:Value}(h:odg n d l L g x=some v):Nat.blt d n=true∧gOK l L g=true∧od L x=some v:=by
 unfold odg at h
 cases e:(Nat.blt d n&&gOK l L g) with
 | true=>rw[e]at h;simp only[Bool.and_eq_true]at e;exact⟨e.1,e.2,h⟩
 | false=>rw[e]at h;cases h
theorem RD_gv {i d:Nat}{op:Op}{g:Option (Nat×Bool)}{v:Value}(hi:nth l i=some ⟨some d,op,ty,ps,af,g⟩)(hd:Nat.blt d n=true)(hg:gOK l L g=true)(hv:∀w,K w→VAL P n L ds w ⟨some d,op,ty,ps,af,none⟩ v)(h:RD P n l Q K f (ls.setIfInBounds i true) ((d,v)::L) ds w)(hb:rdy l ls i=true):RD P n l Q K (f+1) ls L ds w:=by
 cases g with
 | none=>exact RD_t i hi hb hd hv h
 | some jb =>
  obtain⟨j,b⟩:=jb
  unfold gOK guardOk at hg
  simp only at hg
  split at hg
  ·rename_i t e
   split at hg
   ·rename_i c e2
    obtain rfl:c=b:=by simpa using hg
    exact RD_tg i hi hb hd (yl e e2) hv h
   ·cases hg
  ·cases hg
theorem dE (i : Nat) {d : Nat} {op : Op} {g : Option (Nat × Bool)} {v : Value} (h : nth l i = some ⟨some d, op, ty, ps, af, g⟩ ∧ cond (Nat.blt d n) (evG l L op g) none = some v) (next : RD P n l Q K f (ls.setIfInBounds i true) ((d, v) :: L) ds w) (hb : rdy l ls i = true := by kernel_rfl) : RD P n l Q K (f + 1) ls L ds w := by
 obtain⟨hi,he⟩:=h
 have hd:Nat.blt d n=true:=by
  cases e:Nat.blt d n with
  | true=>rfl
  | false=>rw[e]at he;cases he
 rw[hd]at he
 rcases evG_or he with ⟨rfl,h1⟩|⟨j,b,t,rfl,h1,h2,h3⟩|⟨j,b,t,c,rfl,h1,h2,h3,rfl⟩
 ·exact RD_t i hi hb hd (fun _ _=>evOp_val h1) next
 ·exact RD_tg i hi hb hd (yl h1 h2) (fun _ _=>evOp_val h3) next
 ·simp only[rdy,Bool.and_eq_true]at hb
  exact RD_pass i hi hb.1.1 hb.1.2 hb.2 hd (yl_ne h1 h2 h3) next
theorem dF (i off : Nat) {d k : Nat} {t : TypeId} {x : Operand} {g : Option (Nat × Bool)} {b o : Nat} (h : nth l i = some ⟨some d, .fieldAddr t x k, ty, ps, af, g⟩ ∧ odg n d l L g x = some (.pointer (some ⟨b, o, none⟩))) (next : RD P n l Q K f (ls.setIfInBounds i true) ((d, .pointer (some ⟨b, o + off, none⟩)) :: L) ds w) [hF : FA P t k off] (hb : rdy l ls i = true := by kernel_rfl) : RD P n l Q K (f + 1) ls L ds w := by
 obtain⟨h1,h2,h3⟩:=odg_some h.2
 obtain⟨fields,f,sz,g1,g2,g3,g4⟩:=hF.h
 exact RD_gv h.1 h1 h2 (fun _ _=>v_fieldAddr off g1 g2 g3 g4 h3) next hb
theorem dN (i : Nat) {d : Nat} {t e : TypeId} {x : Operand} {g : Option (Nat × Bool)} {a : Option Addr} {m c : Nat} (h : nth l i = some ⟨some d, .call ⟨.builtin .len, #[x], #[t]⟩, ty, ps, af, g⟩ ∧ odg n d l L g x = some (.slice a m c)) (next : RD P n l Q K f (ls.setIfInBounds i true) ((d, .int .i64 m) :: L) ds w) [hT : UL P t (.slice e)] (hb : rdy l ls i = true := by kernel_rfl) : RD P n l Q K (f + 1) ls L ds w := by
 obtain⟨h1,h2,h3⟩:=odg_some h.2
 exact RD_gv h.1 h1 h2 (fun _ _=>v_len_slice hT.h h3) next hb
theorem dI {b o : Nat} {a : Option Addr} (i sz j : Nat) (ha : a = some ⟨b, o, none⟩) {d : Nat} {t e : TypeId} {x y : Operand} {g : Option (Nat × Bool)} {m c : Nat} {k : Int} (h : nth l i = some ⟨some d, .indexAddr t x y, ty, ps, af, g⟩ ∧ odg n d l L g x = some (.slice a m c) ∧ od L y = some (.int .i64 k)) (hk : k = (j : Int)) (next : RD P n l Q K f (ls.setIfInBounds i true) ((d, .pointer (some ⟨b, o + j * sz, none⟩)) :: L) ds w) [hU : UL P t (.slice e)] [hS : SZ P e sz] (hi : j < m := by omega) (hb : rdy l ls i = true := by kernel_rfl) : RD P n l Q K (f + 1) ls L ds w := by
 obtain⟨h1,h2,h3⟩:=odg_some h.2.1
 exact RD_gv h.1 h1 h2 (fun _ _=>v_index_P ha hU.h hS.h h3 h.2.2 hk hi) next hb
theorem dP {b o : Nat} {cl : List Value} (i : Nat) (hr : PRow G b o cl) (j : Nat) {d : Nat} {t : TypeId} {x : Operand} {g : Option (Nat × Bool)} {v : Value} (h : nth l i = some ⟨some d, .load t x, ty, ps, af, g⟩ ∧ nth cl j = some v ∧ odg n d l L g x = some (.pointer (some ⟨b, o + j, none⟩))) (next : RD P n l Q (fun w => Kn w G Bs) f (ls.setIfInBounds i true) ((d, v) :: L) ds w) [hA : AG P t false] (hb : rdy l ls i = true := by kernel_rfl) : RD P n l Q (fun w => Kn w G Bs) (f + 1) ls L ds w := by
 obtain⟨h1,h2,h3⟩:=odg_some h.2.2
 exact RD_gv h.1 h1 h2 (fun _ hK=>v_load_P hK hA.h h3 (hr j v (by rw[←nth_eq];exact h.2.1))) next hb
theorem dB (i k : Nat) {d : Nat} {t : TypeId} {x : Operand} {g : Option (Nat × Bool)} {b o : Nat} {c : List Value} {e : TypeId} {v : Value} (h : nth l i = some ⟨some d, .load t x, ty, ps, af, g⟩ ∧ odg n d l L g x = some (.pointer (some ⟨b, o, none⟩)) ∧ nth Bs k = some (blk b (Fw.cl c e)) ∧ nth c o = some v) (next : RD P n l Q (fun w => Kn w G Bs) f (ls.setIfInBounds i true) ((d, v) :: L) ds w) [hA : AG P t false] (hb : rdy l ls i = true := by kernel_rfl) : RD P n l Q (fun w => Kn w G Bs) (f + 1) ls L ds w := by
 obtain⟨h1,h2,h3⟩:=odg_some h.2.1
 exact RD_gv h.1 h1 h2 (fun _ hK=>v_load_B k hK hA.h h3 h.2.2.1 h.2.2.2) next hb
end
theorem Hp.tF {w0 w:World}{G0 G:PH}{S:List Nat}{B:List Res}(H:Hp w0 G0 S w G B)(k:Nat){r:Res}(hk:nth B k=some r:=by exact rfl):Hp w0 G0 S w G (r::delN B k):=H.toFront hk
theorem Hp.dl {w0 w:World}{G0 G:PH}{S:List Nat}{B:List Res}(H:Hp w0 G0 S w G B)(k:Nat){r:Res}(hk:nth B k=some r:=by exact rfl):Hp w0 G0 S w G (delN B k):=H.del hk
theorem opH {G:PH}{x:BHeld}{cs:List Value}(h:heldE G x cs):∃a m c,cs=[.int .i64 x.id,.slice a m c,.int .i64 x.uses]∧inI x.id∧RdI G (.slice a m c) x.bytes∧inI x.uses∧m=x.bytes.length∧x.bytes.length≤1099511627776:=by
 obtain⟨a,m,c,e,h1,h2,h3⟩:=h
 exact⟨a,m,c,e,h1,h2,h3,h2.len,h2.lim⟩
theorem opI {G:PH}{x:BItem}{cs:List Value}(h:itemE G x cs):∃a m c,cs=[str x.path,.bool x.dir,.slice a m c]∧x.path.length≤16777216∧RdI G (.slice a m c) x.ids∧m=x.ids.length∧x.ids.length≤1099511627776:=by
 obtain⟨a,m,c,e,h1,h2⟩:=h
 exact⟨a,m,c,e,h1,h2,h2.len,h2.lim⟩
theorem opS {G:PH}{x:BSnap}{cs:List Value}(h:snapE G x cs):∃a m c,cs=[str x.name,.slice a m c]∧x.name.length≤16777216∧RdItems G (.slice a m c) x.tree∧m=x.tree.length∧x.tree.length≤1099511627776:=by
 obtain⟨a,m,c,e,h1,h2⟩:=h
 exact⟨a,m,c,e,h1,h2,h2.len,h2.lim⟩
theorem opD {G:PH}{x:BDisk}{cs:List Value}(h:diskE G x cs):∃a m c a' m' c' a'' m'' c'',cs=[.slice a m c,.slice a' m' c',.slice a'' m'' c'']∧RdH G (.slice a m c) x.store∧RdItems G (.slice a' m' c') x.tree∧RdSn G (.slice a'' m'' c'') x.snaps∧(m=x.store.length∧x.store.length≤1099511627776)∧(m'=x.tree.length∧x.tree.length≤1099511627776)∧m''=x.snaps.length∧x.snaps.length≤1099511627776:=by
 obtain⟨a,m,c,a',m',c',a'',m'',c'',e,h1,h2,h3⟩:=h
 exact⟨a,m,c,a',m',c',a'',m'',c'',e,h1,h2,h3,⟨h1.len,h1.lim⟩,⟨h2.len,h2.lim⟩,h3.len,h3.lim⟩
theorem opV {G:PH}{x:BVol}{cs:List Value}(h:volE G x cs):∃a m c a' m' c',cs=[.slice a m c,.slice a' m' c']∧RdH G (.slice a m c) x.store∧RdItems G (.slice a' m' c') x.tree∧(m=x.store.length∧x.store.length≤1099511627776)∧m'=x.tree.length∧x.tree.length≤1099511627776:=by
 obtain⟨a,m,c,a',m',c',e,h1,h2⟩:=h
 exact⟨a,m,c,a',m',c',e,h1,h2,⟨h1.len,h1.lim⟩,h2.len,h2.lim⟩
class OpE {α:Type} (E:PH→α→List Value→Prop) (R:outParam (PH→α→List Value→Prop)):Prop where op:∀{G x cs},E G x cs→R G x cs
theorem ox {α:Type}{E R:PH→α→List Value→Prop}{G:PH}{x:α}{cs:List Value}(h:E G x cs) [i:OpE E R]:R G x cs:=i.op h
instance:OpE heldE (fun G (x:BHeld) cs=>∃a m c,cs=[.int .i64 x.id,.slice a m c,.int .i64 x.uses]∧inI x.id∧RdI G (.slice a m c) x.bytes∧inI x.uses∧m=x.bytes.length∧x.bytes.length≤1099511627776):=⟨opH⟩
instance:OpE itemE (fun G (x:BItem) cs=>∃a m c,cs=[str x.path,.bool x.dir,.slice a m c]∧x.path.length≤16777216∧RdI G (.slice a m c) x.ids∧m=x.ids.length∧x.ids.length≤1099511627776):=⟨opI⟩
instance:OpE snapE (fun G (x:BSnap) cs=>∃a m c,cs=[str x.name,.slice a m c]∧x.name.length≤16777216∧RdItems G (.slice a m c) x.tree∧m=x.tree.length∧x.tree.length≤1099511627776):=⟨opS⟩
instance:OpE volE (fun G (x:BVol) cs=>∃a m c a' m' c',cs=[.slice a m c,.slice a' m' c']∧RdH G (.slice a m c) x.store∧RdItems G (.slice a' m' c') x.tree∧(m=x.store.length∧x.store.length≤1099511627776)∧m'=x.tree.length∧x.tree.length≤1099511627776):=⟨opV⟩
instance:OpE diskE (fun G (x:BDisk) cs=>∃a m c a' m' c' a'' m'' c'',cs=[.slice a m c,.slice a' m' c',.slice a'' m'' c'']∧RdH G (.slice a m c) x.store∧RdItems G (.slice a' m' c') x.tree∧RdSn G (.slice a'' m'' c'') x.snaps∧(m=x.store.length∧x.store.length≤1099511627776)∧(m'=x.tree.length∧x.tree.length≤1099511627776)∧m''=x.snaps.length∧x.snaps.length≤1099511627776):=⟨opD⟩
def quotaE:PH→BQuota→List Value→Prop:=fun _ x cs=>cs=[str x.dir,.int .i64 x.most]∧x.dir.length≤16777216∧inI x.most
instance:MonoE quotaE:=⟨fun _ h=>h⟩
theorem rl2 {a b:Value}{cs':List Value}(h:RL [a,b] cs'):∃u v,cs'=[u,v]∧R1 a u∧R1 b v:=by
 rcases cs' with _|⟨u,_|⟨v,_|⟨w,r⟩⟩⟩
 ·exact h.elim
 ·exact h.2.elim
 ·exact⟨u,v,rfl,h.1,h.2.1⟩
 ·exact h.2.2.elim
instance : StE quotaE := ⟨fun {_ _ x cs cs'} hg hr h => by
 obtain⟨rfl,h1,h2⟩:=h
 obtain⟨u,v,rfl,k1,k2⟩:=rl2 hr
 obtain rfl:=r1_str k1
 obtain⟨p,rfl,hp⟩:=r1_int k2 h2
 exact⟨⟨x.dir,p⟩,rfl,h1,hp⟩⟩
def opE:PH→BOp→List Value→Prop:=fun G x cs=>∃a m c,cs=[.int .i64 x.kind,str x.path,.slice a m c]∧inI x.kind∧x.path.length≤16777216∧RdI G (.slice a m c) x.bytes
instance:MonoE opE:=⟨fun hle ⟨a,m,c,h1,h2,h3,h4⟩=>⟨a,m,c,h1,h2,h3,h4.up hle⟩⟩
abbrev RdOp:=RdS LIM opE 3
instance : StE opE := ⟨fun {_ _ x cs cs'} hg hr h => by
 obtain⟨a,m,c,rfl,h1,h2,h3⟩:=h
 obtain⟨u,v,w,rfl,k1,k2,k3⟩:=rl3 hr
 obtain⟨p,rfl,hp⟩:=r1_int k1 h1
 obtain rfl:=r1_str k2
 obtain rfl:=r1_slice k3
 obtain⟨ys,_,hy⟩:=h3.st hg
 exact⟨⟨p,x.path,ys⟩,a,m,c,rfl,hp,h2,hy⟩⟩
def partE:PH→BPart→List Value→Prop:=fun G x cs=>∃a m c,cs=[.int .i64 x.kind,str x.path,.bool x.dir,.slice a m c]∧inI x.kind∧x.path.length≤16777216∧RdI G (.slice a m c) x.bytes
instance:MonoE partE:=⟨fun hle ⟨a,m,c,h1,h2,h3,h4⟩=>⟨a,m,c,h1,h2,h3,h4.up hle⟩⟩
abbrev RdPart:=RdS LIM partE 4
theorem rl4 {a b c d:Value}{cs':List Value}(h:RL [a,b,c,d] cs'):∃u v w z,cs'=[u,v,w,z]∧R1 a u∧R1 b v∧R1 c w∧R1 d z:=by
 rcases cs' with _|⟨u,r⟩
 ·exact h.elim
 ·obtain⟨v,w,z,rfl,k⟩:=rl3 h.2
  exact⟨u,v,w,z,rfl,h.1,k⟩
instance : StE partE := ⟨fun {_ _ x cs cs'} hg hr h => by
 obtain⟨a,m,c,rfl,h1,h2,h3⟩:=h
 obtain⟨u,v,w,z,rfl,k1,k2,k3,k4⟩:=rl4 hr
 obtain⟨p,rfl,hp⟩:=r1_int k1 h1
 obtain rfl:=r1_str k2
 obtain rfl:=r1_bool k3
 obtain rfl:=r1_slice k4
 obtain⟨ys,_,hy⟩:=h3.st hg
 exact⟨⟨p,x.path,x.dir,ys⟩,a,m,c,rfl,hp,h2,hy⟩⟩
theorem opOp {G:PH}{x:BOp}{cs:List Value}(h:opE G x cs):∃a m c,cs=[.int .i64 x.kind,str x.path,.slice a m c]∧inI x.kind∧x.path.length≤16777216∧RdI G (.slice a m c) x.bytes∧m=x.bytes.length∧x.bytes.length≤1099511627776:=by
 obtain⟨a,m,c,rfl,h1,h2,h3⟩:=h
 exact⟨a,m,c,rfl,h1,h2,h3,h3.len,h3.lim⟩
instance:OpE opE (fun G (x:BOp) cs=>∃a m c,cs=[.int .i64 x.kind,str x.path,.slice a m c]∧inI x.kind∧x.path.length≤16777216∧RdI G (.slice a m c) x.bytes∧m=x.bytes.length∧x.bytes.length≤1099511627776):=⟨opOp⟩
theorem opPt {G:PH}{x:BPart}{cs:List Value}(h:partE G x cs):∃a m c,cs=[.int .i64 x.kind,str x.path,.bool x.dir,.slice a m c]∧inI x.kind∧x.path.length≤16777216∧RdI G (.slice a m c) x.bytes∧m=x.bytes.length∧x.bytes.length≤1099511627776:=by
 obtain⟨a,m,c,rfl,h1,h2,h3⟩:=h
 exact⟨a,m,c,rfl,h1,h2,h3,h3.len,h3.lim⟩
instance:OpE partE (fun G (x:BPart) cs=>∃a m c,cs=[.int .i64 x.kind,str x.path,.bool x.dir,.slice a m c]∧inI x.kind∧x.path.length≤16777216∧RdI G (.slice a m c) x.bytes∧m=x.bytes.length∧x.bytes.length≤1099511627776):=⟨opPt⟩
end Fw
namespace Sp
open Fw Nd
section
variable {d:BDisk} {p:Bs}
end
section
variable {d:BDisk} {x:BPart}
end
section
variable {d d1:BDisk} {p:Bs} {o:BOp}
end
section
variable {d:BDisk} {x:BPart} {i:Nat} {y:BItem}
end
section
variable {d:BDisk} {x:BPart}
end
section
variable {d:BDisk} {x:BPart}
end
section
variable {d e e1:BDisk} {l:List BOp} {o:BOp} {k:Nat}
theorem jgo_some (h:l[k]? = some o)(hr:OpRun e o=some e1):jgo e (l.drop k)=((jgo e1 (l.drop (k+1))).1,(jgo e1 (l.drop (k+1))).2+1):=by
 have hk:=(List.getElem?_eq_some_iff.1 h)
 rw[List.drop_eq_getElem_cons hk.1,hk.2]
 simp only[jgo,hr]
def JAt (d:BDisk)(l:List BOp)(k:Nat)(e:BDisk):Prop:=jgo d l=((jgo e (l.drop k)).1,(jgo e (l.drop k)).2+k)
theorem JAt.zero:JAt d l 0 d:=by simp[JAt]
theorem JAt.step (h:JAt d l k e)(hz:l[k]? = some o)(hr:OpRun e o=some e1):JAt d l (k+1) e1:=by
 unfold JAt at h ⊢
 rw[h,jgo_some hz hr]
 simp;omega
theorem JAt.done (h:JAt d l k e)(hk:l.length≤k):jgo d l=(e,k):=by
 unfold JAt at h
 rw[h,List.drop_of_length_le hk]
 simp[jgo]
end
section
variable {l c s r:List BItem} {f t:Bs}
end
section
variable {d:BDisk} {p:Bs} {n m:Int} {q:BQuota}
variable {l:List BQuota}
end
end Sp
namespace Fw
open Go
section
variable {w0 w:World} {G0 G:PH} {S:List Nat} {B:List Res}
end
theorem RdNs.up {G G':PH}{l:List Nd}(h:RdNs G l)(hle:PLe G G'):RdNs G' l:=RdNs.upm hle h
section
variable {P:Program} {w w0:World} {G0:PH} {S:List Nat} {G:PH} {B:List Res}
end
section
variable {P:Program} {n:Nat} {ops:Array Oper} {Q:Post} {rest:List Oper} {L:Slots} {ds:List Deferred} {w w0:World} {G0:PH} {S:List Nat} {G:PH} {B:List Res}
variable {ty:TypeId} {ps:String} {af:Array Edge} {ρ:Go.Shelf.Ren}
end
end Fw
namespace Fw
open Go Go.RowKit
section
variable {P:Program} {Q:Exit→Act→World→Prop}
abbrev wideF (r:Option Nat):Fence:={Fence.wide with round:=r}
theorem semAt_any (r:Option Nat)(ρ:Operand→Value)(o:Oper)(h:∀c,o.op≠ .defer c):Oper.semAt r ρ o=execOp ρ o:=by
 cases r with
 | none=>rfl
 | some l=>exact Oper.semAt_some l ρ o h
theorem opIn {r:Option Nat}{m:Nat}{o:Oper}{a:Act}{w:World}{next next':Act→World→Prop}(hnd:∀c,o.op≠ .defer c)(hn:∀a w,next a w→next' a w){Q':Exit→Act→World→Prop}(hqp:∀ch a w,Q (.panic ch) a w→Q' (.panic ch) a w)(hqo:LetsOut Q→LetsOut Q')
  (h:o.wp P a w next Q):o.wpIn (wideF r) m P a w next' Q':=by
 refine⟨fun _ _=>trivial,?_⟩
 rw[semAt_any _ _ _ hnd]
 unfold Oper.wp at h
 cases hr:(execOp a.eval o).run P w with
 | ok nx w' =>
  rw[hr]at h
  cases nx with
  | value v=>exact hn _ _ h
  | skip=>exact hn _ _ h
  | defer d=>exact hn _ _ h
  | enter f args =>
   refine⟨fun hh=>by simp[Fence.wide]at hh,?_⟩
   have h1:=callsIn_wide (n:=m-1).2 h
   refine CallsIn.mono (show CallsIn (wideF r) (m-1) P f args w' _ from h1) ?_
   intro e w'' he
   cases e with
   | returned v=>exact hn _ _ he
   | panicked chain=>exact hqp _ _ _ he
   | outgrown=>exact hqo he
  | row row args =>
   refine⟨fun hh=>by simp[Fence.wide]at hh,fun c cs _=>?_⟩
   obtain⟨v,w'',h1,h2⟩:=h c cs
   exact⟨v,w'',hn _ _ h1,stepsIn_wide.2 h2⟩
  | _=>exact h.elim
 | halt st w' =>
  rw[hr]at h
  cases st with
  | panic v=>exact hqp _ _ _ h
  | _=>exact h.elim
theorem listIn {r:Option Nat}{m:Nat}{ops:Array Oper}(hQ:¬LetsOut Q):∀(l:List Oper) (a:Act) (w:World),(∀o,o ∈ l→∀c,o.op≠ .defer c)→wpList P ops Q l a w→wpListIn (wideF r) m P ops Q l a w
 | [],_,_,_,h=>h
 | o :: l, a, w, hd, h => by
  have ih:∀a w,wpList P ops Q l a w→wpListIn (wideF r) m P ops Q l a w:=fun a w h=>listIn hQ l a w (fun x hx=>hd x (List.mem_cons_of_mem _ hx)) h
  unfold wpList at h
  unfold wpListIn
  split
  ·rename_i hw
   rw[if_pos hw]at h
   rcases h with h|⟨_,h⟩
   ·exact opIn (hd o (List.mem_cons_self ..)) ih (fun _ _ _ h=>h) (fun h=>h) h
   ·exact absurd h hQ
  ·rename_i hw
   rw[if_neg hw]at h
   exact⟨fun _ _=>trivial,ih _ _ h⟩
def noDef (l:List Oper):Bool:=l.all fun o=>match o.op with | .defer _=>false|_=>true
theorem noDef_iff {l:List Oper}(h:noDef l=true):∀o,o ∈ l→∀c,o.op≠ .defer c:=by
 intro o ho c e
 have:=List.all_eq_true.1 h o ho
 rw[e]at this
 cases this
theorem WI_region {r:Option Nat}{m n id:Nat}{l:List Oper}{L:Slots}{ds:List Deferred}{w:World}{a:Act}(hQ:¬LetsOut Q)(hd:noDef l=true)(ha:FrL n L ds a)(h:R P n l.toArray Q l L ds w):(Code.region id l.toArray false).wpIn (wideF r) m P Q a w :=
 wpIn_region_lit (listIn hQ l a w (noDef_iff hd) (h a ha))
def RI (P:Program)(m n:Nat)(ops:Array Oper)(Q:Post)(l:List Oper)(L:Slots)(ds:List Deferred)(w:World):Prop:=∀a,FrL n L ds a→wpListIn (wideF none) m P ops Q l a w
def Qc (P:Program)(m:Nat)(ops:Array Oper)(Q:Post)(l:List Oper):Post
 | .normal,a,w=>wpListIn (wideF none) m P ops Q l a w
 | .outgrown,_,_=>False
 | e,a,w=>Q e a w
theorem Qc_out {m:Nat}{ops:Array Oper}{l:List Oper}:¬LetsOut (Qc P m ops Q l):=fun⟨_,_,h⟩=>h
variable {m n:Nat} {ops:Array Oper} {l:List Oper} {L:Slots} {ds:List Deferred} {w:World}
theorem RI_l {o:Oper}(hd:noDef [o]=true)(h:R P n ops (Qc P m ops Q l) [o] L ds w):RI P m n ops Q (o::l) L ds w:=by
 intro a ha
 have h:=h a ha
 unfold wpList at h
 unfold wpListIn
 split
 ·rename_i hw
  rw[if_pos hw]at h
  rcases h with h|⟨_,h⟩
  ·exact opIn (Q:=Qc P m ops Q l) (r:=none) (noDef_iff hd o (List.mem_cons_self ..)) (fun a w h=>h) (fun _ _ _ h=>h) (fun h=>absurd h Qc_out) h
  ·exact absurd h Qc_out
 ·rename_i hw
  rw[if_neg hw]at h
  exact⟨fun _ _=>trivial,h⟩
theorem RI_b (h:RI P m n ops Q l L ds w):R P n ops (Qc P m ops Q l) [] L ds w:=fun a ha=>wpList_nil (h a ha)
theorem RI_nil (h:N n Q .normal L ds w):RI P m n ops Q [] L ds w:=fun a ha=>h a ha
theorem W_regionI {id:Nat}{l:List Oper}(h:RI P 3 n l.toArray Q l L ds w):W P n Q (.region id l.toArray false) L ds w:=fun a ha=>(wpIn_wide (n:=3)).1 (wpIn_region_lit (h a ha))
variable {ty:TypeId} {ps:String} {af:Array Edge} {rest:List Oper}
theorem o_yield {d k:Nat}{x y:Operand}{ts:Array TypeId}{v:Value}{C:Ending→World→Prop}(hd:Nat.blt d n=true)(hx:od L x=some (.func (.yield k) #[] #[]))(hy:od L y=some v)
  (hY:YieldAt (wideF none) (m-1) P k #[v] w C) (next:∀e w',C e w'→∃b,e= .returned b∧RI P m n ops Q rest ((d,b)::L) ds w') :
  RI P m n ops Q (⟨some d,.call ⟨.value x,#[y],ts⟩,ty,ps,af,none⟩::rest) L ds w:=by
 intro a ha
 obtain⟨fn,tmps,assign,body,hr,hR⟩:=hY
 unfold wpListIn
 have e2:Region.wanted ⟨some d,.call ⟨.value x,#[y],ts⟩,ty,ps,af,none⟩ (yielded ops a.tmps)=true:=by simp[Region.wanted]
 rw[if_pos e2]
 refine⟨fun _ _=>trivial,?_⟩
 have e3:(execOp a.eval ⟨some d,.call ⟨.value x,#[y],ts⟩,ty,ps,af,none⟩).run P w= .ok (.round k fn tmps assign body) w:=by
  simp[execOp,resolve,invoke,ha.eval hx,ha.eval hy,Deferred.ofValue,hr]
 rw[semAt_any _ _ _ (by intro c e;cases e),e3]
 refine⟨fun hh=>by simp[Fence.wide]at hh,hR.mono ?_⟩
 intro e w' he
 obtain⟨b,rfl,h⟩:=next e w' he
 exact h _ (ha.put hd b)
theorem calls_of_WM {f:FuncId}{fn:Func}{c:Code}{l:List Value}{C:Ending→World→Prop}
  (hf:P.funcs[f]? = some fn) (hb:fn.body=some c) (hn:fn.ntmps=n) (hl:Nat.ble l.length n=true)
  (h:W P n (bodyPostM Fence.wide 3 P fn C) c (initL 0 l) [] w):Calls P f l.toArray w C:=by
 refine(callsIn_wide (n:=3)).1 (callsIn_of_wp_marks hf hb trivial ((wpIn_wide (n:=3)).2 (h _ ⟨?_,?_,rfl⟩)) rfl)
 ·have:l.length≤n:=by simpa using hl
  simp[hn];omega
 ·intro t v hv
  obtain⟨_,h2⟩:=lk_initL l 0 t v hv
  have hlt:t<l.length:=by
   have:=List.getElem?_eq_some_iff.1 h2
   obtain⟨h,_⟩:=this
   simpa using h
  simp only[Nat.sub_zero]at h2
  rw[Array.getElem?_append_left (by simpa using hlt)]
  simpa using h2
section
variable {fn:Func} {C:Ending→World→Prop}
theorem retM {rs : List ResultVar} {vs : List Value} (hr : fn.results = rs.toArray) (hv : RV P w L rs vs) (hR : C (.returned (tupleOf vs)) w) : N n (bodyPostM Fence.wide 3 P fn C) .ret L [] w := fun a ha => by
 show LeavesInM Fence.wide 3 P fn a.tmps C a.defers .returning w
 rw[ha.defers]
 exact⟨_,run_results' hr ha hv,hR⟩
theorem retMc {D:Nat}{rs:List ResultVar}{vs:List Value}(hr:fn.results=rs.toArray)(hK:w.heap[D]? = some (.deferred (some [])))(hv:RV P (w.putObj D (.deferred none)) L rs vs)(hR:C (.returned (tupleOf vs)) (w.putObj D (.deferred none))) :
  N n (bodyPostM Fence.wide 3 P fn C) .ret L [{target:= .collected D,args:= #[]}] w:=fun a ha=>by
 show LeavesInM Fence.wide 3 P fn a.tmps C a.defers .returning w
 rw[ha.defers]
 exact⟨by simp,.inl ⟨D,_,rfl,run_takeDeferred hK,⟨_,run_results' hr ha hv,hR⟩⟩⟩
end
end
def KpG (G:PH)(W W':World):Prop:=PSub G W→PSub G W'
def KpW (G:PH)(W W':World):Prop:=KpG G W W'∧KeepsWalks W W'
section
variable {w0 w:World} {G0:PH} {S:List Nat} {G:PH}
theorem acc_cells {e:TypeId}{sz:Nat}{v:Value}{k:Nat}{cs:List Value}{h:Nat→Option Obj}(hp:(acc e sz v k cs).pred h):∀b,b ∈ (acc e sz v k cs).fp→∃c,h b=some (.cells c e (0,0)):=by
 intro b hb
 rcases hp.2 with ⟨rfl,_⟩|⟨g,cap,C,rfl,h1,_⟩
 ·simp[acc_fp_nil]at hb
 ·simp[acc_fp]at hb
  subst hb
  exact⟨_,h1⟩
theorem Hp.turn {b:Nat}{tl te:TypeId}{v:Value}{sz k:Nat}{cs:List Value}{W W':World}{row:Option Nat}(H:Hp w0 G0 S W G [blk b (cl [v] tl),acc te sz v k cs])(hg:W.grownBy W' row)
  (hr:∀r,row=some r→w.heap.size≤r∧∃o:Obj,W.heap[r]? = some o∧o.isCells=false) (hw:w0.heap.size≤w.heap.size) (hG:PSub G w):Hp w0 G0 S W' G [blk b (cl [v] tl),acc te sz v k cs]:=by
 have hsame:∀c o,W.heap[c]? = some o→(o.isCells=true∨c<w.heap.size)→W'.heap[c]? = some o:=by
  intro c o hc ho
  rw[hg.block c (Array.getElem?_eq_some_iff.1 hc).1 ?_]
  ·exact hc
  ·intro e
   obtain⟨h1,o',h2,h3⟩:=hr c e.symm
   rw[hc]at h2
   cases h2
   rcases ho with ho|ho
   ·rw[ho]at h3;cases h3
   ·omega
 refine⟨hg.os.trans H.os,hg.tape.trans H.tape,hg.output.trans H.output,Nat.le_trans H.size hg.size,?_,?_,H.le,H.old,?_,H.nd⟩
 ·intro c hc hS
  rw[←H.ext c hc hS]
  have hlt:c<W.heap.size:=Nat.lt_of_lt_of_le hc H.size
  exact hg.block c hlt (fun e=>by obtain⟨h1,_⟩:=hr c e.symm;omega)
 ·intro c o hc
  exact hsame c o (H.sub c o hc) (.inr (hG.lt hc))
 ·intro r hm
  obtain⟨h1,h2⟩:=H.own r hm
  refine⟨?_,h2⟩
  rcases List.mem_cons.1 hm with rfl|hm
  ·exact hsame b _ h1 (.inl rfl)
  ·rw[List.mem_singleton]at hm
   subst hm
   refine(acc te sz v k cs).loc _ _ (fun c hc=>?_) h1
   obtain⟨C,hC⟩:=acc_cells h1 c hc
   exact hC.trans (hsame c _ hC (.inl rfl)).symm
end
theorem yieldAny {P:Program}{m m' l:Nat}{args:Array Value}{W:World}{R:Ending→World→Prop}(h:YieldAt (wideF none) m P l args W R):YieldAt (wideF none) m' P l args W R:=by
 obtain⟨fn,tmps,assign,body,h1,h2⟩:=h
 exact⟨fn,tmps,assign,body,h1,h2.1,fun c cs _=>h2.2 c cs (room_wide _)⟩
theorem grown_of_ext {w w':World}(e:Ext w w'):w.grownBy w' none:=⟨e.os,e.tape,e.output,e.size,fun k hk _=>e.block k hk⟩
theorem W_collect {α:Type}{E:PH→α→List Value→Prop}{P:Program}{n:Nat}{Q:Post}{L:Slots}{ds:List Deferred}{w0 w:World}{G0:PH}{S:List Nat}{G:PH}{g:Operand}{p q:Nat}{assign body:Code}{gf:Nat}{lb:Array Value}{te tl:TypeId}{sz b:Nat}{v:Value}
  {enc:α→Value} {Sx:List α→Prop} {M:Nat}
  (H:Hp w0 G0 S w G [blk b (cl [v] tl),acc te sz v 0 []]) (hC0:Chk E sz G [] ([]:List α)) (hg:od L g=some (.func (.func gf) #[] lb)) (eg:∀args w,(callFunc gf args).run P w= .ok (.enter gf args) w) (hp:Nat.blt p n=true)
  (hseq:SeqStopsK (wideF none) 2 P gf lb (fun x:α=> #[enc x]) (KpW G) Sx (fun _=>True) M w)
  (hassign : ∀ (r m : Nat) (x : α) (W : World) (Qa : Post), ¬ LetsOut Qa → (∀ (W' : World) (bx : Nat), Hp W (fun _ => none) [] W' (fun _ => none) [blk bx (cl (vc (enc x)) te)] → N n Qa .normal ((q, .pointer (some ⟨bx, 0, none⟩)) :: (p, enc x) :: L) [] W') →
   ∀a,FrL n ((p,enc x)::L) [] a→assign.wpIn (wideF (some r)) m P Qa a W)
  (hbody:∀(r m:Nat) (x:α) (pre:List α) (W:World) (v:Value) (cs:List Value) (bx:Nat) (Qb:Post),pre.length<M→¬LetsOut Qb→Chk E sz G cs pre →
   Hp W G (fps [blk bx (cl (vc (enc x)) te),blk b (cl [v] tl),acc te sz v pre.length cs]) W G [blk bx (cl (vc (enc x)) te),blk b (cl [v] tl),acc te sz v pre.length cs] →
   (∀(L2:Slots) (W':World) (v':Value) (cs':List Value),Hp W G (fps [blk bx (cl (vc (enc x)) te),blk b (cl [v] tl),acc te sz v pre.length cs]) W' G [blk b (cl [v'] tl),acc te sz v' (pre.length+1) cs']→Chk E sz G cs' (pre++[x])→N n Qb .normal L2 [] W') →
   ∀a,FrL n ((q,.pointer (some ⟨bx,0,none⟩))::(p,enc x)::L) [] a→body.wpIn (wideF (some r)) m P Qb a W)
  (next:∀(D:Nat) (xs:List α) (W:World) (v:Value) (cs:List Value),Sx xs→Hp w0 G0 S W G [blk b (cl [v] tl),acc te sz v xs.length cs]→Chk E sz G cs xs→w.heap.size≤D→W.heap[D]? = some (.deferred (some []))→N n Q .normal L ({target:= .collected D,args:= #[]}::ds) W) :
  W P n Q (.rangeFunc g #[p] assign body) L ds w:=by
 intro a ha
 refine(wpIn_wide (n:=3)).1 ?_
 have hGw:PSub G w:=H.sub
 have hbw:b<w.heap.size:=H.lt (by simp[fps,blk])
 have hsz:=H.size
 let I:List α→World→Prop:=fun pre W=>∃v cs,Hp w0 G0 S W G [blk b (cl [v] tl),acc te sz v pre.length cs]∧Chk E sz G cs pre∧w.heap.size≤W.heap.size
 let Ax:α→Act→World→Prop:=fun x a' W=>∃bx,FrL n ((q,.pointer (some ⟨bx,0,none⟩))::(p,enc x)::L) [] a'∧W.heap[bx]? = some (cl (vc (enc x)) te)∧w.heap.size≤bx∧∀v',W.heap[b]? = some (cl [v'] tl)→bx ∉ (acc te sz v' 0 []).fp
 have hI : OwnFrom w.heap.size I := fun pre W W' row h hg' hr => by
  obtain⟨v,cs,H',hc,hle⟩:=h
  exact⟨v,cs,H'.turn hg' hr hsz hGw,hc,Nat.le_trans hle hg'.size⟩
 have hAx : ∀ x a', OwnFrom w.heap.size (fun (_ : Unit) W => Ax x a' W) := fun x a' _ W W' row h hg' hr => by
  obtain⟨bx,h1,h2,h3,h4⟩:=h
  have hbx:=(Array.getElem?_eq_some_iff.1 h2).1
  refine⟨bx,h1,?_,h3,fun v' hv'=>h4 v' ?_⟩
  ·rw[hg'.block bx hbx ?_]
   ·exact h2
   ·intro e
    obtain⟨_,o,ho,hoc⟩:=hr bx e.symm
    rw[h2]at ho
    cases ho
    cases hoc
  ·rw[hg'.block b (by omega) ?_]at hv'
   ·exact hv'
   ·intro e
    obtain⟨hh,_⟩:=hr b e.symm
    omega
 refine wpIn_rangeFunc_ownH (F:=wideF none) (n:=3) rfl (by omega) (gf:=gf) (lb:=lb) (ha.eval hg) trivial eg hseq (fun h k=>⟨fun hh=>k.1 (h.1 hh),h.2.trans k.2⟩) ?_ (Below.refl _ _) (fun _=>rfl) I (fun _ _ _=>False) hI (fun _=>fun _ _ _ _ h _ _=>h) ⟨v,[],by simpa using H,hC0,Nat.le_refl _⟩ Ax hAx ?_ ?_ ?_ ?_
 ·intro W l o o' hl ho hoc hnw
  refine⟨fun hs c x hc=>?_,walksK_b (w:=w) W l o o' hl ho hoc hnw⟩
  rw[World.putObj_heap_other (by have:=hGw.lt hc;omega)]
  exact hs c x hc
 ·intro l pre x W K hi hK
  refine hassign l _ x W _ (fun⟨_,_,h⟩=>h) (fun W' bx H' a' ha'=>?_) _ ?_
  ·have hx:=H'.toExt
   have hown:=H'.own _ (List.mem_cons_self ..)
   have hbx:W.heap.size≤bx:=by
    rcases (hown.2 bx (by simp[blk])).2 with h|h
    ·simp at h
    ·exact h
   obtain⟨v,cs,H1,hc,hwW⟩:=hi
   refine hK a' W' ⟨hx.size,fun k o _ hk _=>(hx.block k (Array.getElem?_eq_some_iff.1 hk).1).trans hk⟩ ⟨fun hs=>hs.ext hx,⟨hx.size,fun k o hk _=>(hx.block k (Array.getElem?_eq_some_iff.1 hk).1).trans hk⟩⟩ ⟨v,cs,H1.step hx,hc,Nat.le_trans hwW hx.size⟩ ⟨bx,ha',hown.1,Nat.le_trans hwW hbx,fun v' hv'=>?_⟩
   ·have hbW:b<W.heap.size:=H1.lt (by simp[fps,blk])
    rw[hx.block b hbW]at hv'
    have hv0:W.heap[b]? = some (cl [v] tl):=(H1.own _ (List.mem_cons_self ..)).1
    rw[hv0]at hv'
    cases hv'
    intro hm
    have:bx<W.heap.size:=H1.lt (List.mem_flatMap.2 ⟨_,List.mem_cons_of_mem _ (List.mem_singleton.2 rfl),hm⟩)
    omega
  ·have h1:=ha.put hp (enc x)
   refine⟨?_,?_,rfl⟩
   ·simpa [Act.put] using h1.size
   ·simpa [Act.put] using h1.get
 ·rintro l pre x a' W hl hrec ⟨v,cs,H1,hc,hwW⟩ ⟨bx,h1,h2,h3,h4⟩ hlen
  have hv0:W.heap[b]? = some (cl [v] tl):=(H1.own _ (List.mem_cons_self ..)).1
  have hacc:=H1.own _ (List.mem_cons_of_mem _ (List.mem_cons_self ..))
  have hbG:G bx=none:=by
   cases e:G bx with
   | none=>rfl
   | some o=>have:=hGw.lt e;omega
  have hnb:bx≠b:=by omega
  have hnf:bx ∉ (acc te sz v pre.length cs).fp:=h4 v hv0
  have H2:Hp w0 G0 S W G [blk bx (cl (vc (enc x)) te),blk b (cl [v] tl),acc te sz v pre.length cs]:=by
   refine⟨H1.os,H1.tape,H1.output,H1.size,H1.ext,H1.sub,H1.le,H1.old,?_,?_⟩
   ·intro r hr
    rcases List.mem_cons.1 hr with rfl|hr
    ·refine⟨h2,fun c hc'=>?_⟩
     simp[blk]at hc'
     subst hc'
     exact⟨hbG,.inr (by omega)⟩
    ·exact H1.own r hr
   ·have hnd:=H1.nd
    simp only[fps,List.flatMap_cons,List.flatMap_nil,List.append_nil]at hnd ⊢
    have e1:(blk bx (cl (vc (enc x)) te)).fp=[bx]:=rfl
    have e2:(blk b (cl [v] tl)).fp=[b]:=rfl
    rw[e1]
    refine List.nodup_append.2 ⟨by simp,hnd,?_⟩
    intro c hc1 d hd1 e
    simp at hc1
    subst hc1 e
    rcases List.mem_append.1 hd1 with h|h
    ·rw[e2]at h;simp at h;exact hnb h
    ·exact hnf h
  have hL:Lent W G [blk bx (cl (vc (enc x)) te),blk b (cl [v] tl),acc te sz v pre.length cs]:=H2.lent3
  refine hbody l _ x pre W v cs bx _ hlen (fun⟨_,_,h⟩=>h) hc hL.hp (fun L2 W' v' cs' H' hc' a2 ha2=>?_) a' h1
  have hS:∀k o,W.heap[k]? = some o→o.isCells=false→k ∉ fps [blk bx (cl (vc (enc x)) te),blk b (cl [v] tl),acc te sz v pre.length cs]:=by
   intro k o hk ho hm
   obtain⟨r,hr,hkr⟩:=List.mem_flatMap.1 hm
   rcases List.mem_cons.1 hr with rfl|hr
   ·simp[blk]at hkr;subst hkr;rw[h2]at hk;cases hk;cases ho
   ·rcases List.mem_cons.1 hr with rfl|hr
    ·simp[blk]at hkr;subst hkr;rw[hv0]at hk;cases hk;cases ho
    ·rw[List.mem_singleton]at hr
     subst hr
     obtain⟨c,hc2⟩:=acc_cells hacc.1 k hkr
     rw[hc2]at hk;cases hk;cases ho
  refine⟨⟨H'.size,fun k o _ hk ho=>?_⟩,⟨fun _=>H'.sub,⟨H'.size,fun k o hk ho=>by rw[H'.ext k (Array.getElem?_eq_some_iff.1 hk).1 (hS k o hk (Obj.not_cells_of_walk ho))];exact hk⟩⟩,v',cs',?_,hc',Nat.le_trans hwW H'.size⟩
  ·rw[H'.ext k (Array.getElem?_eq_some_iff.1 hk).1 (hS k o hk ho)]
   exact hk
  ·have:=Hp.borrows (Ls:=[blk bx (cl (vc (enc x)) te),blk b (cl [v] tl),acc te sz v pre.length cs]) (B:=[]) (by simpa using H2) H'
   simpa using this
 ·rintro D xs W hD hS ⟨v,cs,H1,hc,_⟩ hK
  exact next D xs W v cs hS H1 hc hD hK _ ⟨ha.size,ha.get,by simp[ha.defers]⟩
 ·rintro D c pre W hD _ h
  exact h.elim
end Fw
namespace Fw
structure BTurn where
 snap:Bs
 kind:Int
end Fw
namespace Fw
open Go Go.RowKit
def turnE:PH→BTurn→List Value→Prop:=fun _ x cs=>cs=[str x.snap,.int .i64 x.kind]
instance:MonoE turnE:=⟨fun _ h=>h⟩
section
variable {w0 w:World} {G0:PH} {S:List Nat} {G:PH} {B:List Res}
theorem psub_below {w w' : World} (h : PSub G w) (hb : Go.RowKit.Below w.heap.size w w') : PSub G w' := fun b o hg => by
 rw[hb.block b (h.lt hg)]
 exact h b o hg
theorem Hp.putD {D b:Nat}{tl te:TypeId}{v:Value}{sz k:Nat}{cs:List Value}{W:World}(H:Hp w0 G0 S W G [blk b (cl [v] tl),acc te sz v k cs])(hw:w0.heap.size≤w.heap.size)(hG:PSub G w)(hD:w.heap.size≤D)(hK:W.heap[D]? = some (.deferred (some []))) :
  Hp w0 G0 S (W.putObj D (.deferred none)) G [blk b (cl [v] tl),acc te sz v k cs] :=
 H.turn (w:=w) (grownBy_putObj' W D _) (fun r e=>by cases e;exact⟨hD,_,hK,rfl⟩) hw hG
end
end Fw
namespace Fw
open Go
section
variable {H:Type} {enc:TypeId×Value→H} {P:Program} {W:World}
structure Bulk (bk:DataW H→Nat) (bka:List (DataW H)→Nat):Prop where
 slice:∀es sp,bk (.slice es sp)=bka es+bka sp+1
 agg:∀ps,bk (.agg ps)=bka ps+1
 str:∀b,bk (.lit (.string b))=b.length+1
 nil:bka []=0
 cons:∀d r,bka (d::r)=bk d+bka r
 pos:∀d,1≤bk d
variable {bk:DataW H→Nat} {bka:List (DataW H)→Nat}
theorem Bulk.len (hb:Bulk bk bka):∀l,l.length≤bka l
 | []=>by simp
 | d :: r => by
  have h1:=hb.len r
  have h2:=hb.pos d
  rw[hb.cons]
  simp;omega
theorem Bulk.mem (hb:Bulk bk bka){d:DataW H}:∀{l:List (DataW H)},d ∈ l→bk d≤bka l
 | [],h=>by simp at h
 | e :: r, h => by
  rw[hb.cons]
  rcases List.mem_cons.1 h with rfl|h
  ·omega
  ·have:=hb.mem h
   omega
theorem Bulk.memF (hb : Bulk bk bka) {l : List (DataW H × List MemPlace)} {i : Nat} (hi : i < l.length) : bk (l[i]).1 ≤ bka (l.map (fun x => x.1)) :=
 hb.mem (List.mem_map.2 ⟨l[i],List.getElem_mem hi,rfl⟩)
abbrev Reads (enc:TypeId×Value→H) (P:Program) (W:World) (n:Nat) (t:TypeId) (cs:List Value):Option (DataW H×List MemPlace):=DataW.trod enc P W 0 (fun _=>true) true n t cs
def Elem (enc:TypeId×Value→H)(P:Program)(W:World)(bk:DataW H→Nat)(t:TypeId)(sz:Nat){α:Type}(E:PH→α→List Value→Prop):Prop :=
 ∀n cs x,Reads enc P W n t cs=some x→bk x.1≤1048576→∃a,cs.length=sz∧E (PAll W) a cs
theorem elem_u8 {t:TypeId}(ht:P.underlying t=some (.int .u8)):Elem enc P W bk t 1 u8E:=by
 intro n cs x h _
 obtain⟨i,rfl,_,hw⟩:=DataW.trod_int ht h
 simp[Lit.wf,IntKind.min,IntKind.max,IntKind.signed,IntKind.bits]at hw
 refine⟨UInt8.ofNat i.toNat,rfl,?_⟩
 show[Value.int .u8 i]=[.int .u8 ((UInt8.ofNat i.toNat).toNat:Int)]
 congr 2
 rw[UInt8.toNat_ofNat']
 omega
theorem list_of {α:Type}{Q:Nat→α→Prop}:∀n,(∀i,i<n→∃x,Q i x)→∃xs:List α,xs.length=n∧∀i x,xs[i]? = some x→Q i x
 | 0,_=>⟨[],rfl,by simp⟩
 | n + 1, h => by
  obtain⟨xs,h1,h2⟩:=list_of n (fun i hi=>h i (by omega))
  obtain⟨x,hx⟩:=h n (by omega)
  refine⟨xs++[x],by simp[h1],fun i y hy=>?_⟩
  by_cases hi:i<n
  ·rw[List.getElem?_append_left (by omega)]at hy
   exact h2 i y hy
  ·rw[List.getElem?_append_right (by omega)]at hy
   have:i=n:=by
    have:=(List.getElem?_eq_some_iff.1 hy).1
    simp at this
    omega
   subst this
   simp[h1]at hy
   subst hy
   exact hx
theorem mapM_at {α β:Type}{f:α→Option β}:∀{l:List α} {r:List β},l.mapM f=some r→∀(i:Nat) (x:α),l[i]? = some x→f x=r[i]?
 | [],r,h,i,x,hx=>by simp at hx
 | y :: t, r, h, i, x, hx => by
  simp only[List.mapM_cons,Option.bind_eq_bind,Option.bind_eq_some_iff,Option.pure_def,Option.some.injEq]at h
  obtain⟨z,h1,u,h2,rfl⟩:=h
  cases i with
  | zero=>simp at hx;subst hx;simpa using h1
  | succ i=>simp only[List.getElem?_cons_succ]at hx ⊢;exact mapM_at h2 i x hx
theorem pcell_of {b o:Nat}{v:Value}(h:W.cell? ⟨b,o,none⟩=some v):PCell (PAll W) b o v:=by
 unfold World.cell? at h
 unfold PCell PAll
 split at h
 ·rename_i C e fz hb
  exact⟨C,e,fz,hb,by simpa using h⟩
 ·cases h
theorem elem_slice {α:Type}{E:PH→α→List Value→Prop}(hb:Bulk bk bka){t e:TypeId}{sz:Nat}(ht:P.underlying t=some (.slice e))(hz:P.cellsOf e=sz)(hsz:0<sz)(hE:Elem enc P W bk e sz E) :
  ∀n cs x,Reads enc P W n t cs=some x→bk x.1≤1048576→∃v xs,cs=[v]∧RdS LIM E sz (PAll W) v xs:=by
 intro n cs x h hx
 rcases DataW.trod_slice ht h with ⟨rfl,_⟩|⟨a,len,cap,elems,rest,m,_,rfl,rfl,_,h2,_,h4,h5,_,_⟩
 ·exact⟨_,[],rfl,RdS.nil _ _ _⟩
 ·simp only[hb.slice]at hx
  rw[hz]at h5
  have hle:=hb.len (elems.map (·.1))
  rw[List.length_map]at hle
  have hel:∀i,i<len→∃y:α,∃cs,cs.length=sz∧E (PAll W) y cs∧∀j v,cs[j]? = some v→W.cell? ((a.add (i*sz)).add j)=some v:=by
   intro i hi
   have h6:=h5 i hi
   rw[List.getElem?_eq_getElem (by omega)]at h6
   obtain⟨cs,k1,k2⟩:=Option.bind_eq_some_iff.1 h6
   obtain⟨y,k3,k4⟩:=hE m cs _ k2 (Nat.le_trans (hb.memF (by omega)) (by omega))
   refine⟨y,cs,k3,k4,fun j v hj=>?_⟩
   unfold World.cells? at k1
   split at k1
   ·have hjl:=(List.getElem?_eq_some_iff.1 hj).1
    rw[←hj]
    exact mapM_at k1 j j (by rw[List.getElem?_range (by omega)])
   ·cases k1
  obtain⟨xs,x1,x2⟩:=list_of len hel
  refine⟨_,xs,rfl,some a,cap,by rw[x1],by omega,by simp only[LIM];omega,?_⟩
  by_cases h0:len=0
  ·exact .inl (List.eq_nil_of_length_eq_zero (by omega))
  ·right
   have hspot:a.spot=none:=by
    obtain⟨y,cs,y1,_,y2⟩:=hel 0 (by omega)
    have:=World.cell?_spot (y2 0 cs[0] (by simp))
    simpa [Addr.add] using this
   obtain⟨b,o,sp⟩:=a
   simp only at hspot
   subst hspot
   refine⟨b,o,rfl,fun i y hy=>?_⟩
   obtain⟨cs,c1,c2,c3⟩:=x2 i y hy
   refine⟨cs,c1,c2,fun j v hj=>pcell_of ?_⟩
   have:=c3 j v hj
   rwa [Addr.add_lit,Addr.add_lit]at this
variable {ti ts tb tis:TypeId}
theorem same_of_ext {w w':World}(h:Ext w w'){p:MemPlace}(hp:p.block<w.heap.size):w.sameAt w' p:=by
 have hb:=h.block p.block hp
 cases p with
 | cell b off=>simp only[World.sameAt,World.cell?];simp only[MemPlace.block]at hb;rw[hb]
 | map b=>simp only[World.sameAt];simpa [MemPlace.block] using hb
end
end Fw
namespace Fw
open Go Go.ChangeShapes Go.WideShapes
section
variable {H:Type} {enc:TypeId×Value→H} {P:Program}
theorem trodAll_stays (hl:laidOutB P=true){W W':World}{sp':Nat→Bool}:∀{ts:List TypeId} {vs:List Value} {ds:List (DataW H)} {ps:List MemPlace},(∀t,t ∈ ts→P.readableRec t=true∧t<P.types.size) →
  DataW.TrodAll enc P W 0 (fun _=>true) true ts vs ds ps→(∀p ∈ ps,W.sameAt W' p)→(∀p ∈ ps,sp' p.block=true)→DataW.TrodAll enc P W' 0 sp' true ts vs ds ps
 | [], _, _, _, _, h, _, _ => by
  obtain⟨rfl,rfl,rfl⟩:=trodAll_nil h
  rfl
 | t :: ts, _, _, _, hr, h, hs, hq => by
  obtain⟨v,vs1,d,ds1,a,b,rfl,rfl,rfl,h1,h2⟩:=trodAll_cons h
  exact ⟨a, b, WideElems.Trod_stays hl (hr t (by simp)).1 (hr t (by simp)).2 h1 (fun p hp => hs p (by simp [hp])) (fun p hp => hq p (by simp [hp])),
   trodAll_stays hl (fun t ht=>hr t (by simp[ht])) h2 (fun p hp=>hs p (by simp[hp])) (fun p hp=>hq p (by simp[hp])),rfl⟩
theorem kept_of_ext {W W':World}(h:Ext W W')(may:MemPlace→Prop):W.keptBut W' may:=by
 refine⟨h.os,h.output,fun i hi=>?_⟩
 rw[h.block i hi]
 cases W.heap[i]? with
 | none=>simp
 | some o=>cases o<;>simp
theorem law_post {f:Func}{s:ChangeSpec}{apart fresh handsOn again:Bool}{W W':World}{args:Array Value}{ds gs:List (DataW H)}{before:List MemPlace}(hl:laidOutB P=true)(hr:∀t,t ∈ f.params.toList→P.readableRec t=true∧t<P.types.size)
  (hv:s.vars=[]) (hW:DataW.Whole enc P f.params.toList s.vars apart W args.toList ds gs before) (hx:Ext W W') (hfr:(s.fn H (ds++gs)).results=[.lit (.bool true)]) (hfa:(s.fn H (ds++gs)).args=ds) (hfv:(s.fn H (ds++gs)).vars=[])
  (hres:∀(b:Nat) (sp:Nat→Bool) (hd:Bool),DataW.TrodAll enc P W' b sp hd f.resultTypes.toList ((Value.bool true).resultList f.resultTypes.size) [.lit (.bool true)] [])
  (hok:∀(j:Nat) (t:TypeId) (r:Value),f.resultTypes[j]? = some t→((Value.bool true).resultList f.resultTypes.size)[j]? = some r→Value.okWide P W' .any 0 t r) :
  s.post enc P f apart fresh handsOn again W args (.bool true) W':=by
 have hW':=hW
 obtain⟨p,q,hA,hV,rfl,hz,hn⟩:=hW
 rw[hv]at hV
 have hgs:gs=[]∧q=[]:=by
  cases gs with
  | nil=>exact⟨rfl,hV⟩
  | cons d r=>exact hV.elim
 obtain⟨rfl,rfl⟩:=hgs
 rw[List.append_nil]at hW' hz hn
 have hlt:∀m ∈ p,m.block<W.heap.size:=fun m hm=>hW'.lt m hm
 have hold:∀m ∈ p,(fun b=>decide (b<W.heap.size)) m.block=true:=fun m hm=>by simpa using hlt m hm
 have hargs : ∀ sp : Nat → Bool, (∀ m ∈ p, sp m.block = true) → DataW.TrodAll enc P W' 0 sp true f.params.toList args.toList (s.fn H (ds ++ [])).args p := fun sp hsp => by
  rw[hfa]
  exact trodAll_stays hl hr hA (fun m hm=>same_of_ext hx (hlt m hm)) hsp
 have hvars:∀sp:Nat→Bool,DataW.TrodVars enc P W' sp s.vars (s.fn H (ds++[])).vars []:=fun sp=>by rw[hv,hfv];rfl
 have hres':∀(b:Nat) (sp:Nat→Bool) (hd:Bool),DataW.TrodAll enc P W' b sp hd f.resultTypes.toList ((Value.bool true).resultList f.resultTypes.size) (s.fn H (ds++[])).results []:=fun b sp hd=>by rw[hfr];exact hres b sp hd
 refine⟨ds,[],p,[],p,[],hW',hres' _ _ _,hargs _ hold,hvars _,World.keptBut_mono (fun m hm=>⟨hm,Or.inr ?_⟩) (kept_of_ext hx (· ∈ p)),fun _=>?_⟩
 ·simpa using hm
 ·refine⟨hok,_,_,([]++p)++[],⟨[]++p,[],trodAll_append (hargs _ (fun _ _=>rfl)) (hres' _ _ _),hvars _,rfl,?_,?_⟩,?_⟩
  ·intro b off hp
   have hp':MemPlace.cell b off ∈ p:=by simpa using hp
   have h1:=hz b off hp'
   have h2:=hx.block b (hlt _ hp')
   simp only[World.frozen?]at h1 ⊢
   rw[h2]
   exact h1
  ·intro ha
   simpa using hn ha
  ·intro m hm _
   simpa using hm
end
end Fw
namespace Fw
open Go Go.WideShapes
theorem slice_of {P:Program}{W:World}{b:Nat}{t e:TypeId}{v u:Value}(ht:P.underlying t=some (.slice e))(h:Value.okWide P W .any b t v)(hu:v.cells.toList=[u]):v=u:=by
 unfold Value.okWide at h
 rw[ht]at h
 unfold Cell.okWide at h
 rw[ht]at h
 cases v<;>simp_all [Value.cells,Cell.ok]
end Fw
namespace Fw
open Go
def opO:Fr→BOp→List Value→Prop:=fun F x cs=>∃a m c,cs=[.int .i64 x.kind,str x.path,.slice a m c]∧inI x.kind∧x.path.length≤16777216∧OI F (.slice a m c) x.bytes
abbrev OOp (F:Fr) (v:Value) (xs:List BOp):Prop:=∃e,OwnS opO 3 e F v xs
theorem opO.rd {F:Fr}{x:BOp}{cs:List Value}{G:PH}(h:opO F x cs)(hle:PLe (fh F) G)(hn:(dm F).Nodup):opE G x cs:=by
 obtain⟨a,m,c,rfl,h1,h2,h3⟩:=h
 exact⟨a,m,c,rfl,h1,h2,h3.rd hle hn⟩
theorem OOp.rd {F:Fr}{v:Value}{xs:List BOp}{G:PH}(h:OOp F v xs)(hle:PLe (fh F) G)(hn:(dm F).Nodup):RdOp G v xs:=let ⟨_,h⟩:=h;h.rd hle hn (fun _ _ _ h1 h2 h=>opO.rd h h1 h2)
theorem OOp.mk {e:TypeId}{F:Fr}{v:Value}{xs:List BOp}(h:OwnS opO 3 e F v xs):OOp F v xs:=⟨_,h⟩
def partO:Fr→BPart→List Value→Prop:=fun F x cs=>∃a m c,cs=[.int .i64 x.kind,str x.path,.bool x.dir,.slice a m c]∧inI x.kind∧x.path.length≤16777216∧OI F (.slice a m c) x.bytes
abbrev OPt (F:Fr) (v:Value) (xs:List BPart):Prop:=∃e,OwnS partO 4 e F v xs
theorem partO.rd {F:Fr}{x:BPart}{cs:List Value}{G:PH}(h:partO F x cs)(hle:PLe (fh F) G)(hn:(dm F).Nodup):partE G x cs:=by
 obtain⟨a,m,c,rfl,h1,h2,h3⟩:=h
 exact⟨a,m,c,rfl,h1,h2,h3.rd hle hn⟩
theorem OPt.rd {F:Fr}{v:Value}{xs:List BPart}{G:PH}(h:OPt F v xs)(hle:PLe (fh F) G)(hn:(dm F).Nodup):RdPart G v xs:=let ⟨_,h⟩:=h;h.rd hle hn (fun _ _ _ h1 h2 h=>partO.rd h h1 h2)
theorem OPt.mk {e:TypeId}{F:Fr}{v:Value}{xs:List BPart}(h:OwnS partO 4 e F v xs):OPt F v xs:=⟨_,h⟩
section
variable {w0 w w':World} {G0 G G':PH} {S:List Nat} {B Bs:List Res}
end
section
variable {H:Type} {enc:TypeId×Value→H} {P:Program} {W:World} {bk:DataW H→Nat} {bka:List (DataW H)→Nat} {ti ts tb tis:TypeId}
end
section
variable {κ:Type} [DecidableEq κ] {key:κ→Value}
structure KeyA (P:Program) (k:TypeId) (key:κ→Value):Prop where
 find:∀(es:Array MapEntry) (clock:Nat) (xs:List (κ×Value)),MapIs key es clock xs→∀a w,(Instr.findKey k (key a) es.toList).run P w= .ok (fnd a xs 0) w
 bits:∀a,Instr.sameBits 10000 (key a) (key a)=true
 chk:∀e a w,(Instr.checkKey e 10000 k (key a)).run P w= .ok () w
theorem keyA_of {P:Program}{k:TypeId}(hnow:∃kd,P.underlying k=some kd∧∀a b,Instr.sameNow kd (key a) (key b)=none)(heq:∀a b w,(Op.equal k (key a) (key b)).run P w= .ok (decide (a=b)) w)
  (hb:∀a,Instr.sameBits 10000 (key a) (key a)=true) (hc:∀e a w,(Instr.checkKey e 10000 k (key a)).run P w= .ok () w):KeyA P k key where
 bits:=hb
 chk:=hc
 find es clock xs hm a w:=by
  obtain⟨kd,hk,hs⟩:=hnow
  have ask : ∀ (l : List MapEntry) (ys : List (κ × Value)) (i : Nat), l.map (fun e => (e.key, e.val)) = ys.map (fun x => (key x.1, x.2)) → (Instr.findAsking k (key a) l i).run P w = .ok (fnd a ys i) w := by
   intro l
   induction l with
   | nil => intro ys i h; cases ys with
    | nil=>rfl
    | cons y t=>simp at h
   | cons e t ih =>
    intro ys i h
    cases ys with
    | nil=>simp at h
    | cons y r =>
     obtain⟨k',v'⟩:=y
     simp only[List.map_cons,List.cons.injEq,Prod.mk.injEq]at h
     obtain⟨⟨h1,h2⟩,h3⟩:=h
     simp only[Instr.findAsking,h1,Sem.run_bind,heq,Result.andThen_ok,fnd]
     by_cases e':a=k'
     ·subst e';simp[h2]
     ·simp only[e',decide_false,if_false,Bool.false_eq_true]
      exact ih r (i+1) h3
  have hkv:=hm.kv
  simp only[Instr.findKey,Sem.run_bind,run_underlying hk,Result.andThen_ok]
  generalize es.toList=l at hkv
  cases l with
  | nil =>
   cases xs with
   | nil=>rfl
   | cons y t=>simp at hkv
  | cons e t =>
   cases xs with
   | nil=>simp at hkv
   | cons y r =>
    have h1:e.key=key y.1:=by simp only[List.map_cons,List.cons.injEq,Prod.mk.injEq]at hkv;exact hkv.1.1
    simp only[Instr.findNow,h1,hs]
    exact ask _ _ 0 hkv
section
variable {P:Program} {t k e:TypeId} {b:Nat} {es:Array MapEntry} {clock:Nat} {xs:List (κ×Value)} {w:World}
theorem run_lookA (K:KeyA P k key)(ht:P.underlying t=some (.map k e)){zv:Value}(hz:∀w,(zeroValue e).run P w= .ok zv w)(hb:w.heap[b]? = some (.map es clock))(hm:MapIs key es clock xs)(a:κ)(c:Bool) :
  (Instr.lookup t (.map (some b)) (key a) c).run P w= .ok (if c then .tuple #[(look xs a).getD zv,.bool (look xs a).isSome] else(look xs a).getD zv) w:=by
 simp only[Instr.lookup,Sem.run_bind,run_underlying ht,Result.andThen_ok,getObj_at hb,K.chk,K.find _ _ _ hm,Sem.run_pure,look]
 cases h:fnd a xs 0 with
 | none=>cases c<;>simp[hz]
 | some p=>cases c<;>simp
theorem run_updA (K:KeyA P k key)(ht:P.underlying t=some (.map k e))(hb:w.heap[b]? = some (.map es clock))(hm:MapIs key es clock xs)(a:κ)(v:Value) :
  ∃es' clock',(Instr.mapUpdate t (.map (some b)) (key a) v).run P w= .ok () (ChangeMaps.setBlock w b (.map es' clock'))∧MapIs key es' clock' (upd xs a v):=by
 simp only[Instr.mapUpdate,Sem.run_bind,run_underlying ht,Result.andThen_ok,getObj_at hb,K.chk,K.find _ _ _ hm,upd]
 cases h:fnd a xs 0 with
 | none=>exact⟨_,_,setObj_at hb _,hm.push (fnd_none h) v⟩
 | some p =>
  obtain⟨i,u⟩:=p
  have hx:=fnd_some h
  have hj:=congrArg (fun l=>l[i]?) hm.kv
  simp only[List.getElem?_map,Array.getElem?_toList,hx,Option.map_some]at hj
  cases hes:es[i]? with
  | none=>simp[hes]at hj
  | some e0 =>
   simp only[hes,Option.map_some,Option.some.injEq,Prod.mk.injEq]at hj
   refine⟨es.modify i fun e=>{e with key:=key a,val:=v},clock,?_,hm.modify hx v⟩
   simp only[hes,Option.map_some,Option.getD_some,hj.1,Instr.keyThatStays,K.bits,if_true,Sem.run_pure,Result.andThen_ok,Sem.run_bind,setObj_at hb]
end
theorem look_keys {xs:List (κ×Value)}{a:κ}(nd:(xs.map (·.1)).Nodup):(look xs a).isSome=true↔a ∈ xs.map (·.1):=by
 constructor
 ·intro h
  obtain⟨v,hv⟩:=Option.isSome_iff_exists.1 h
  exact List.mem_map.2 ⟨(a,v),look_mem' hv,rfl⟩
 ·intro h
  obtain⟨⟨a',v⟩,hm,rfl⟩:=List.mem_map.1 h
  rw[look_mem nd hm]
  rfl
end
section ops
variable {P:Program} {n:Nat} {ops:Array Oper} {Q:Post} {rest:List Oper} {L:Slots} {ds:List Deferred} {w w0:World} {G0:PH} {S:List Nat} {G:PH} {B:List Res} {ty:TypeId} {ps:String} {af:Array Edge}
variable {κ:Type} [DecidableEq κ] {key:κ→Value} {t k e:TypeId} {b:Nat} {es:Array MapEntry} {clock:Nat} {xs:List (κ×Value)} {a:κ}
theorem o_lookA2 (K:KeyA P k key){d:Nat}{x y:Operand}{zv:Value}(hb:w.heap[b]? = some (.map es clock))(hm:MapIs key es clock xs)(ht:P.underlying t=some (.map k e))(hz:∀w,(zeroValue e).run P w= .ok zv w)(hd:Nat.blt d n=true)(hx:od L x=some (.map (some b)))(hy:od L y=some (key a))
  (next:R P n ops Q rest ((d,.tuple #[(look xs a).getD zv,.bool (look xs a).isSome])::L) ds w):R P n ops Q (⟨some d,.lookup t x y true,ty,ps,af,none⟩::rest) L ds w :=
 R_run hd (fun a' ha => by
  have:=run_lookA K ht hz hb hm a true
  simp only[execOp,ha.eval hx,ha.eval hy,Sem.run_bind,this,if_true,Result.andThen_ok,Sem.run_pure]) next
theorem o_updA (K:KeyA P k key)(k0:Nat)(H:Hp w0 G0 S w G B){x y z:Operand}{v:Value}(hk0:nth B k0=some (blk b (.map es clock)))(hm:MapIs key es clock xs)(ht:P.underlying t=some (.map k e))
  (hx:od L x=some (.map (some b))) (hy:od L y=some (key a)) (hz:od L z=some v)
  (next:∀es' clock' w',Hp w0 G0 S w' G (setN B k0 (blk b (.map es' clock')))→MapIs key es' clock' (upd xs a v)→R P n ops Q rest L ds w'):R P n ops Q (⟨none,.mapUpdate t x y z,ty,ps,af,none⟩::rest) L ds w:=by
 obtain⟨es',clock',hr,hm'⟩:=run_updA K ht (H.at hk0) hm a v
 exact R_skip (fun a' ha => by
  simp only[execOp,ha.eval hx,ha.eval hy,ha.eval hz,Sem.run_map,Sem.run_bind,hr]
  rfl) (next es' clock' _ (setBlk H hk0 _) hm')
def seenK (key:κ→Value)(es:Array MapEntry)(seen:Array Nat)(a:κ):Prop:=∃e,e ∈ es.toList∧e.key=key a∧e.born ∈ seen
theorem born_uniq {e e':MapEntry}:∀(l:List MapEntry),(l.map (·.born)).Nodup→e ∈ l→e' ∈ l→e'.born=e.born→e'=e
 | [],_,h,_,_=>by simp at h
 | z :: r, nd, a, b, c => by
  simp only[List.map_cons,List.nodup_cons]at nd
  rcases List.mem_cons.1 a with rfl|a1<;>rcases List.mem_cons.1 b with rfl|b1
  ·rfl
  ·exact(nd.1 (List.mem_map.2 ⟨e',b1,c⟩)).elim
  ·exact(nd.1 (List.mem_map.2 ⟨e,a1,c.symm⟩)).elim
  ·exact born_uniq r nd.2 a1 b1 c
theorem key_uniq (hinj:∀a b,key a=key b→a=b)(hm:MapIs key es clock xs){e1 e2:MapEntry}{a:κ}(h1:e1 ∈ es.toList)(h2:e2 ∈ es.toList)(k1:e1.key=key a)(k2:e2.key=key a):e1=e2:=by
 have hk : es.toList.map (·.key) = xs.map (fun x => key x.1) := by
  have:=congrArg (List.map Prod.fst) hm.kv
  simpa [List.map_map,Function.comp_def] using this
 have hn:(es.toList.map (·.key)).Nodup:=by
  rw[hk,show xs.map (fun x=>key x.1)=(xs.map (·.1)).map key by simp[List.map_map,Function.comp_def]]
  exact List.Pairwise.map key (fun a b hab h=>hab (hinj _ _ h)) hm.nd
 have key':∀(l:List MapEntry),(l.map (·.key)).Nodup→e1 ∈ l→e2 ∈ l→e1=e2:=by
  intro l
  induction l with
  | nil=>intro _ h;simp at h
  | cons z r ih =>
   intro nd p q
   simp only[List.map_cons,List.nodup_cons]at nd
   rcases List.mem_cons.1 p with rfl|p1<;>rcases List.mem_cons.1 q with rfl|q1
   ·rfl
   ·exact(nd.1 (List.mem_map.2 ⟨e2,q1,by rw[k2,k1]⟩)).elim
   ·exact(nd.1 (List.mem_map.2 ⟨e1,p1,by rw[k1,k2]⟩)).elim
   ·exact ih nd.2 p1 q1
 exact key' _ hn h1 h2
theorem o_nextK (hinj:∀a b,key a=key b→a=b)(k0:Nat)(H:Hp w0 G0 S w G B){d:Nat}{x:Operand}{r:Nat}{seen:Array Nat}
  (hb:w.heap[b]? = some (.map es clock)) (hm:MapIs key es clock xs) (hk0:nth B k0=some (blk r (.mapIter (some b) clock seen clock))) (hrb:r≠b) (hd:Nat.blt d n=true) (hx:od L x=some (.pointer (some ⟨r,0,none⟩)))
  (over:(∀a,a ∈ xs.map (·.1)→seenK key es seen a)→R P n ops Q rest ((d,.tuple #[.bool false])::L) ds w)
  (step:∀(e:MapEntry) (a:κ) (w':World),e ∈ es.toList→e.key=key a→a ∈ xs.map (·.1)→¬seenK key es seen a→(∀c,seenK key es (seen.push e.born) c↔c=a∨seenK key es seen c)→w'.heap[b]? = some (.map es clock)→(leftOf es (seen.push e.born)).size<(leftOf es seen).size →
   Hp w0 G0 S w' G (setN B k0 (blk r (.mapIter (some b) clock (seen.push e.born) clock)))→R P n ops Q rest ((d,.tuple #[.bool true,key a,e.val])::L) ds w') :
  R P n ops Q (⟨some d,.next x false,ty,ps,af,none⟩::rest) L ds w:=by
 rcases run_next_at (P:=P) w ty r b clock clock seen es clock (H.at hk0) hb hm.lt (Nat.le_refl _) with ⟨h1,h2⟩|⟨e,he,w1,hw,h2⟩
 ·refine R_run hd (fun a ha=>?_) (over (fun y hy=>?_))
  ·simp only[execOp,ha.eval hx,Sem.run_bind,h2,Result.andThen_ok,Sem.run_pure]
  ·obtain⟨x,hx,rfl⟩:=List.mem_map.1 hy
   have:(key x.1,x.2) ∈ es.toList.map (fun e=>(e.key,e.val)):=by rw[hm.kv];exact List.mem_map.2 ⟨x,hx,rfl⟩
   obtain⟨e,he,h4⟩:=List.mem_map.1 this
   simp only[Prod.mk.injEq]at h4
   refine⟨e,he,h4.1,?_⟩
   have hz:(leftOf es seen)= #[]:=Array.eq_empty_of_size_eq_zero h1
   refine Classical.byContradiction fun hn=>?_
   have:=leftOf_mem.2 ⟨he,hn⟩
   rw[hz]at this
   simp at this
 ·have hel:=(leftOf_mem.1 he)
  have:(e.key,e.val) ∈ xs.map (fun x=>(key x.1,x.2)):=by rw[←hm.kv];exact List.mem_map.2 ⟨e,hel.1,rfl⟩
  obtain⟨x,hx1,hx2⟩:=List.mem_map.1 this
  simp only[Prod.mk.injEq]at hx2
  have hkey:e.key=key x.1:=hx2.1.symm
  have Hw:Hp w0 G0 S w1 G B:=by
   rcases hw with rfl|rfl
   ·exact H
   ·exact H.step (Ext.refl w).drew
  refine R_run (w':=ChangeMaps.setBlock w1 r (.mapIter (some b) clock (seen.push e.born) clock)) hd (fun a ha=>?_) (step e x.1 _ hel.1 hkey (List.mem_map.2 ⟨x,hx1,rfl⟩) ?_ ?_ ?_ (leftOf_less he) (setBlk Hw hk0 _))
  ·simp only[execOp,ha.eval hx,Sem.run_bind,h2,hkey,Result.andThen_ok,Sem.run_pure]
  ·rintro⟨e2,g1,g2,g3⟩
   have:=key_uniq hinj hm g1 hel.1 g2 hkey
   subst this
   exact hel.2 g3
  ·intro c
   constructor
   ·rintro⟨e2,g1,g2,g3⟩
    rcases Array.mem_push.1 g3 with g3|g3
    ·exact .inr ⟨e2,g1,g2,g3⟩
    ·have:=born_uniq _ hm.born hel.1 g1 g3
     subst this
     exact .inl (hinj _ _ (g2.symm.trans hkey))
   ·rintro(rfl|⟨e2,g1,g2,g3⟩)
    ·exact⟨e,hel.1,hkey,by simp⟩
    ·exact⟨e2,g1,g2,by simp[g3]⟩
  ·have hb1:w1.heap[b]? = some (.map es clock):=by rcases hw with rfl|rfl<;>exact hb
   simpa [ChangeMaps.setBlock,hrb] using hb1
theorem o_entryK (k0:Nat)(H:Hp w0 G0 S w G B){d:Nat}{x:Operand}{r:Nat}{seen:Array Nat}{e:MapEntry}
  (hb:w.heap[b]? = some (.map es clock)) (hm:MapIs key es clock xs) (hk0:nth B k0=some (blk r (.mapIter (some b) clock (seen.push e.born) clock))) (he:e ∈ es.toList) (hkey:e.key=key a) (hd:Nat.blt d n=true) (hx:od L x=some (.pointer (some ⟨r,0,none⟩)))
  (next:R P n ops Q rest ((d,.tuple #[key a,e.val])::L) ds w):R P n ops Q (⟨some d,.entry x,ty,ps,af,none⟩::rest) L ds w :=
 R_run hd (fun a' ha => by
  have:=run_entry_at (P:=P) w r b clock seen es clock e (H.at hk0) hb he hm.born
  simp only[execOp,ha.eval hx,Sem.run_bind,this,hkey,Result.andThen_ok,Sem.run_pure]) next
theorem come_step {pre:List κ}{seen:Array Nat}{a:κ}{bn:Nat}(hp:∀c,c ∈ pre↔seenK key es seen c)(hnd:pre.Nodup)(hn:¬seenK key es seen a)(hs:∀c,seenK key es (seen.push bn) c↔c=a∨seenK key es seen c) :
  (∀c,c ∈ pre++[a]↔seenK key es (seen.push bn) c)∧(pre++[a]).Nodup:=by
 refine⟨fun c=>?_,?_⟩
 ·rw[hs,List.mem_append,hp]
  simp[or_comm]
 ·rw[List.nodup_append]
  refine⟨hnd,by simp,?_⟩
  intro x hx y hy e
  simp at hy
  subst hy e
  exact hn ((hp _).1 hx)
end ops
end Fw
namespace Fw
open Go Go.Shelf Go.RowKit Go.Lib Go.Sort Go.Proofs
def cmpS (a b:Bs):Int:=if Op.bytesLess a b then -1 else if Op.bytesLess b a then 1 else 0
end Fw
namespace Fw
structure BHold where
 snap:Bs
 tag:Bs
end Fw
namespace Sp
open Fw Nd
def l31Before (a b:BHold):Bool:=lt a.snap b.snap||(decide (a.snap=b.snap)&&lt a.tag b.tag)
def l31Ok (h:BHold):Bool:=l1Word h.snap&&l1Word h.tag
def l31Same (a b:BHold):Bool:=decide (a.snap=b.snap)&&decide (a.tag=b.tag)
theorem hsame_iff {a b:BHold}:l31Same a b=true↔a=b:=by
 obtain⟨x,y⟩:=a
 obtain⟨x',y'⟩:=b
 simp[l31Same]
def holdOk (l : List BHold) (i : Nat) : Bool := match l[i]? with
 | some h => l31Ok h && (decide (i = 0) || match l[i - 1]? with
  | some g=>l31Before g h
  | none=>false)
 | none=>false
def HoldsValid (l:List BHold):Bool:=(List.range l.length).all (holdOk l)&&decide (l.length≤8)
def l31Has (l:List BHold)(h:BHold):Bool:=l.any (fun g=>l31Same g h)
def HoldTags (l:List BHold)(s:Bs):List Bs:=if HoldsValid l then(l.filter (fun h=>decide (h.snap=s))).map (·.tag) else[]
def putH (l:List BHold)(h:BHold):List BHold:=l.takeWhile (fun g=> !l31Before h g)++h::l.dropWhile (fun g=> !l31Before h g)
def HoldPut (l:List BHold)(h:BHold):Option (List BHold):=if HoldsValid l&&l31Ok h&& !l31Has l h&& !decide (l.length=8) then some (putH l h) else none
def DropFree (d:BDisk)(l:List BHold)(s:Bs):Option BDisk:=if HoldsValid l&&decide (HoldTags l s=[]) then SnapDrop d s else none
section
variable {d d1:BDisk} {l:List BHold} {s:Bs}
theorem free_get (h:DropFree d l s=some d1):HoldsValid l=true∧HoldTags l s=[]∧SnapDrop d s=some d1:=by
 unfold DropFree at h
 split at h
 ·rename_i hc
  simp only[Bool.and_eq_true,decide_eq_true_eq]at hc
  exact⟨hc.1,hc.2,h⟩
 ·cases h
theorem free_valid (h:DropFree d l s=some d1):DiskValid d1=true:=sdrop_valid (free_get h).2.2
theorem free_held {x:List BHold}{t:Bs}(h:HoldPut l ⟨s,t⟩=some x):DropFree d x s=none:=by
 cases e:DropFree d x s with
 | none=>rfl
 | some d1 =>
  obtain⟨h1,h2,_⟩:=free_get e
  unfold HoldPut at h
  split at h
  ·simp only[Option.some.injEq]at h
   unfold HoldTags at h2
   rw[if_pos h1,List.map_eq_nil_iff,List.filter_eq_nil_iff]at h2
   have:=h2 ⟨s,t⟩ (by rw[←h];simp[putH])
   simp at this
  ·cases h
end
def hlt (a b:BHold):Prop:=l31Before a b=true
theorem hlt_trans {a b c:BHold}(h1:hlt a b)(h2:hlt b c):hlt a c:=by
 unfold hlt l31Before at *
 simp only[Bool.or_eq_true,Bool.and_eq_true,decide_eq_true_eq]at *
 rcases h1 with h1|⟨h1,h3⟩
 ·rcases h2 with h2|⟨h2,_⟩
  ·exact .inl (lt_trans h1 h2)
  ·exact .inl (h2▸h1)
 ·rcases h2 with h2|⟨h2,h4⟩
  ·exact .inl (h1▸h2)
  ·exact .inr ⟨h1.trans h2,lt_trans h3 h4⟩
theorem hlt_irrefl (a:BHold):¬hlt a a:=by simp[hlt,l31Before,lt_irrefl]
theorem hlt_total (a b:BHold):hlt a b∨a=b∨hlt b a:=by
 obtain⟨x,y⟩:=a
 obtain⟨x',y'⟩:=b
 unfold hlt l31Before
 simp only[Bool.or_eq_true,Bool.and_eq_true,decide_eq_true_eq,BHold.mk.injEq]
 rcases lt_total x x' with h|rfl|h
 ·exact .inl (.inl h)
 ·rcases lt_total y y' with h|rfl|h
  ·exact .inl (.inr ⟨rfl,h⟩)
  ·exact .inr (.inl ⟨rfl,rfl⟩)
  ·exact .inr (.inr (.inr ⟨rfl,h⟩))
 ·exact .inr (.inr (.inl h))
structure HV (l:List BHold):Prop where
 asc:l.Pairwise hlt
 ok:∀h,h ∈ l→l31Ok h=true
 len:l.length≤8
theorem hvalid_iff {l:List BHold}:HoldsValid l=true↔HV l:=by
 unfold HoldsValid
 simp only[Bool.and_eq_true,List.all_eq_true,List.mem_range,decide_eq_true_eq]
 constructor
 ·rintro⟨h1,h2⟩
  refine⟨?_,fun h hh=>?_,h2⟩
  ·have step : ∀ i (hi : i + 1 < l.length), hlt l[i] l[i + 1] := fun i hi => by
    have:=h1 (i+1) hi
    unfold holdOk at this
    rw[List.getElem?_eq_getElem hi]at this
    simp only[Nat.add_sub_cancel,List.getElem?_eq_getElem (show i<l.length by omega),Bool.and_eq_true,Bool.or_eq_true,decide_eq_true_eq]at this
    rcases this.2 with h|h
    ·omega
    ·exact h
   rw[List.pairwise_iff_getElem]
   intro i j hi hj hij
   have key:∀k i (hi:i<l.length) (hj:i+k+1<l.length),hlt l[i] l[i+k+1]:=by
    intro k
    induction k with
    | zero=>intro i hi hj;exact step i hj
    | succ k ih=>intro i hi hj;exact hlt_trans (ih i hi (by omega)) (step (i+k+1) hj)
   have:=key (j-i-1) i hi (by omega)
   have e:i+(j-i-1)+1=j:=by omega
   simp only[e]at this
   exact this
  ·obtain⟨i,hi⟩:=List.getElem?_of_mem hh
   have:=h1 i (List.getElem?_eq_some_iff.1 hi).1
   unfold holdOk at this
   rw[hi]at this
   simp only[Bool.and_eq_true]at this
   exact this.1
 ·rintro⟨h1,h2,h3⟩
  refine⟨fun i hi=>?_,h3⟩
  unfold holdOk
  rw[List.getElem?_eq_getElem hi]
  simp only[Bool.and_eq_true,Bool.or_eq_true,decide_eq_true_eq]
  refine⟨h2 _ (List.getElem_mem hi),?_⟩
  by_cases h0:i=0
  ·exact .inl h0
  ·right
   rw[List.getElem?_eq_getElem (show i-1<l.length by omega)]
   exact List.pairwise_iff_getElem.1 h1 (i-1) i (by omega) hi (by omega)
end Sp
namespace Fw
open Go Go.RowKit Go.Shelf Go.Lib Go.Sort Go.Proofs
instance inhHold:Inhabited BHold:=⟨⟨[],[]⟩⟩
def encH (x:BHold):List Value:=[str x.snap,str x.tag]
def smallH (x:BHold):Prop:=x.snap.length≤16777216∧x.tag.length≤16777216
def holdE:PH→BHold→List Value→Prop:=fun _ x cs=>cs=[str x.snap,str x.tag]∧x.snap.length≤16777216∧x.tag.length≤16777216
instance:MonoE holdE:=⟨fun _ h=>h⟩
def cmpH (a b:BHold):Int:=if cmpS a.snap b.snap=0 then cmpS a.tag b.tag else cmpS a.snap b.snap
theorem cmpS_lt (x y:Bs):(cmpS x y<0↔Sp.lt x y=true)∧(cmpS x y=0↔x=y):=by
 unfold cmpS Sp.lt
 rcases Sp.lt_total x y with h|rfl|h
 ·have h':Op.bytesLess x y=true:=h
  refine⟨by simp[h'],?_⟩
  simp only[h',if_true]
  refine⟨fun e=>absurd e (by decide),fun e=>?_⟩
  subst e
  exact absurd h (by simp[Sp.lt_irrefl])
 ·have h':Op.bytesLess x x=false:=Sp.lt_irrefl x
  simp[h']
 ·have h':Op.bytesLess y x=true:=h
  have h2:Op.bytesLess x y=false:=by
   cases e:Op.bytesLess x y with
   | false=>rfl
   | true=>exact absurd (Sp.lt_trans e h') (by simp[Sp.lt_irrefl])
  simp only[h2,h',if_true,Bool.false_eq_true,if_false]
  refine⟨by simp,?_⟩
  refine⟨fun e=>absurd e (by decide),fun e=>?_⟩
  subst e
  rw[h2]at h';cases h'
theorem cmpH_lt (a b:BHold):cmpH a b<0↔Sp.l31Before a b=true:=by
 unfold cmpH Sp.l31Before
 simp only[Bool.or_eq_true,Bool.and_eq_true,decide_eq_true_eq]
 have h1:=cmpS_lt a.snap b.snap
 have h2:=cmpS_lt a.tag b.tag
 by_cases e:a.snap=b.snap
 ·rw[if_pos (h1.2.2 e),h2.1,e]
  simp[Sp.lt_irrefl]
 ·rw[if_neg (fun h=>e (h1.2.1 h)),h1.1]
  simp[e]
theorem ltOf_cmpH (x y:BHold):ltOf cmpH x y=Sp.l31Before x y:=by
 unfold ltOf
 have:=cmpH_lt x y
 cases e:Sp.l31Before x y with
 | true=>simp[this.2 e]
 | false=>rw[e]at this;simp at this;simp;omega
theorem swoH:SWO (ltOf cmpH) where
 irrefl x:=by
  rw[ltOf_cmpH]
  have:=Sp.hlt_irrefl x
  unfold Sp.hlt at this
  simpa using this
 trans x y z h1 h2:=by rw[ltOf_cmpH]at *; exact Sp.hlt_trans h1 h2
 ntrans x y z h1 h2:=by
  rw[ltOf_cmpH]at *
  cases h:Sp.l31Before x z with
  | false=>rfl
  | true =>
   rcases Sp.hlt_total x y with g|g|g
   ·exact absurd (show Sp.l31Before x y=true from g) (by simp[h1])
   ·rw[g]at h;rw[h]at h2;cases h2
   ·have g2:Sp.l31Before y z=true:=Sp.hlt_trans g h
    rw[g2]at h2;cases h2
def flatH (l:List BHold):List Value:=(l.map encH).flatten
theorem flatH_len:∀l:List BHold,(flatH l).length=l.length*2
 | []=>rfl
 | x :: r => by
  have:=flatH_len r
  simp only[flatH,List.map_cons,List.flatten_cons,List.length_append,List.length_cons]at this ⊢
  simp only[encH,List.length_cons,List.length_nil]
  omega
theorem flatH_get : ∀ (l : List BHold) (t : Nat), t < l.length * 2 → (flatH l)[t]? = (l[t / 2]?).bind (fun x => (encH x)[t % 2]?)
 | [],t,h=>by simp at h
 | x :: r, t, h => by
  have hl:(encH x).length=2:=rfl
  show(encH x++flatH r)[t]? = _
  by_cases ht:t<2
  ·rw[List.getElem?_append_left (by omega),show t / 2=0 by omega,show t % 2=t by omega]
   rfl
  ·rw[List.getElem?_append_right (by omega),hl,flatH_get r (t-2) (by simp at h;omega),show t / 2=(t-2) / 2+1 by omega,show t % 2=(t-2) % 2 by omega,List.getElem?_cons_succ]
theorem flatH_list (d:Array BHold):(flatK encH 2 d).toList=flatH d.toList:=by
 apply List.ext_getElem?
 intro t
 by_cases h:t<d.size*2
 ·have h1:=get_flatK encH 2 d t h
  have hd:t / 2<d.size:=by omega
  rw[flatH_get _ _ (by simpa using h)]
  have hf:t<(flatK encH 2 d).size:=by simpa using h
  have hm:t % 2<(encH d[t / 2]).length:=by show _<2;omega
  rw[getElem!_pos (flatK encH 2 d) t hf,getElem!_pos d (t / 2) hd,getElem!_pos (encH d[t / 2]) (t % 2) hm]at h1
  have e1:(flatK encH 2 d).toList[t]? = some (flatK encH 2 d)[t]:=by simp[hf]
  have e2:d.toList[t / 2]? = some d[t / 2]:=by simp[hd]
  rw[e1,e2,Option.bind_some,List.getElem?_eq_getElem hm,h1]
 ·rw[List.getElem?_eq_none (by simp;omega),List.getElem?_eq_none (by rw[flatH_len];simp;omega)]
def rawE:PH→BHold→List Value→Prop:=fun _ x cs=>cs=encH x
theorem chkR {G:PH}:∀{xs:List BHold} {c:List Value},Chk rawE 2 G c xs→c=flatH xs
 | [], c, ⟨css, h1, h2, _⟩ => by
  obtain rfl:css=[]:=List.eq_nil_of_length_eq_zero (by simpa using h2)
  exact h1
 | x :: r, c, ⟨css, h1, h2, h3⟩ => by
  cases css with
  | nil=>simp at h2
  | cons cs t =>
   obtain⟨cs',e1,e2,e3⟩:=h3 0 x rfl
   simp only[List.getElem?_cons_zero,Option.some.injEq]at e1
   subst e1
   have k1:=chkR (xs:=r) (c:=t.flatten) ⟨t,rfl,by simpa using h2,fun i y hy=>by simpa using h3 (i+1) y (by simpa using hy)⟩
   rw[h1,List.flatten_cons,k1,e3];rfl
theorem chkH {G:PH}:∀{xs:List BHold} {c:List Value},Chk holdE 2 G c xs→c=flatH xs∧∀x,x ∈ xs→smallH x
 | [], c, ⟨css, h1, h2, _⟩ => by
  obtain rfl:css=[]:=List.eq_nil_of_length_eq_zero (by simpa using h2)
  exact⟨h1,by simp⟩
 | x :: r, c, ⟨css, h1, h2, h3⟩ => by
  cases css with
  | nil=>simp at h2
  | cons cs t =>
   obtain⟨cs',e1,e2,e3,e4⟩:=h3 0 x rfl
   simp only[List.getElem?_cons_zero,Option.some.injEq]at e1
   subst e1
   obtain⟨k1,k2⟩:=chkH (xs:=r) (c:=t.flatten) ⟨t,rfl,by simpa using h2,fun i y hy=>by simpa using h3 (i+1) y (by simpa using hy)⟩
   refine⟨?_,fun y hy=>?_⟩
   ·rw[h1,List.flatten_cons,k1,e3];rfl
   ·rcases List.mem_cons.1 hy with rfl|hy
    ·exact e4
    ·exact k2 y hy
theorem chkH_of {G:PH}:∀{xs:List BHold},(∀x,x ∈ xs→smallH x)→Chk holdE 2 G (flatH xs) xs
 | [],_=>Chk.nil
 | x :: r, h => by
  have:=(Chk.one (E:=holdE) (sz:=2) (G:=G) (x:=x) (cs:=encH x) ⟨rfl,h x (by simp)⟩ rfl).app (chkH_of (xs:=r) (fun y hy=>h y (by simp[hy])))
  exact this
theorem hasc_uniq : ∀ {l l' : List BHold}, l'.Perm l → l.Pairwise Sp.hlt → l'.Pairwise (fun a b => Sp.l31Before b a = false) → l' = l
 | [],l',p,_,_=>List.Perm.eq_nil p
 | x::r,[],p,_,_=>by simp at p
 | x :: r, y :: s, p, h1, h2 => by
  rw[List.pairwise_cons]at h1 h2
  have e:y=x:=by
   have hx:x ∈ y::s:=p.mem_iff.2 (List.mem_cons_self ..)
   have hy:y ∈ x::r:=p.mem_iff.1 (List.mem_cons_self ..)
   rcases List.mem_cons.1 hx with e|hx
   ·exact e.symm
   ·rcases List.mem_cons.1 hy with e|hy
    ·exact e
    ·have a1:=h1.1 y hy
     have a2:=h2.1 x hx
     unfold Sp.hlt at a1
     rw[a1]at a2;cases a2
  subst e
  rw[hasc_uniq (l:=r) (l':=s) (List.Perm.cons_inv p) h1.2 h2.2]
theorem sorted_asc {xs : List BHold} {d' : Array BHold} (hp : PermIn 0 xs.toArray.size xs.toArray d') (hs : SortedIn (ltOf cmpH) 0 xs.toArray.size d') : d'.toList.Perm xs ∧ d'.toList.Pairwise (fun a b => Sp.l31Before b a = false) := by
 obtain⟨h1,_,h3⟩:=hp
 rw[Array.extract_size]at h3
 have h3':(d'.extract 0 xs.toArray.size)=d':=by rw[←h1];exact Array.extract_size
 rw[h3']at h3
 refine⟨by simpa using h3,?_⟩
 rw[List.pairwise_iff_getElem]
 intro i j hi hj hij
 have hi':i<d'.size:=by simpa using hi
 have hj':j<d'.size:=by simpa using hj
 have h5:=hs i j (Nat.zero_le _) hij (by rw[←h1];exact hj')
 rw[ltOf_cmpH,getElem!_pos d' i hi',getElem!_pos d' j hj']at h5
 simpa using h5
section
variable {w0 w:World} {G0 G:PH} {S:List Nat} {B:List Res} {e:TypeId} {b n cap:Nat} {ys:List BHold}
theorem accH_holds (H:Hp w0 G0 S w G (acc e 2 (.slice (some ⟨b,0,none⟩) n cap) n (flatH ys)::B))(hn:ys.length=n):HoldsK encH 2 w b 0 ys.toArray∧b<w.heap.size:=by
 have h0:=(H.own (acc e 2 (.slice (some ⟨b,0,none⟩) n cap) n (flatH ys)) (by simp)).1
 obtain⟨h1,h2⟩:=h0
 rcases h2 with ⟨h2,_⟩|⟨b',cap',C,h2,h3,_,_,h6,h7⟩
 ·cases h2
 ·simp only[Value.slice.injEq,Option.some.injEq,Addr.mk.injEq]at h2
  obtain⟨⟨rfl,_⟩,_,rfl⟩:=h2
  refine⟨fun j hj=>?_,(Array.getElem?_eq_some_iff.1 h3).1⟩
  have hj':j<ys.length*2:=by simpa using hj
  have e1:(flatK encH 2 ys.toArray).toList[j]? = some (flatK encH 2 ys.toArray)[j]! := by rw[getElem!_pos _ j hj];simp[hj]
  rw[flatH_list,←h7,List.getElem?_take,if_pos (by simpa [hn] using hj')]at e1
  have h3':w.heap[b]? = some (.cells C e (0,0)):=h3
  refine⟨?_,?_⟩
  ·simp only[World.cell?,h3',Nat.zero_add,id_eq]
   simpa using e1
  ·simp[World.frozen?,h3']
theorem Hp.sortedH (H:Hp w0 G0 S w G (acc e 2 (.slice (some ⟨b,0,none⟩) n cap) n (flatH ys)::B))(hn:ys.length=n){d':Array BHold}(hd:d'.size=n){m:Nat}{os:Array Obj}:Hp w0 G0 S (sortWorldK encH 2 w b 0 m d' os) G (acc e 2 (.slice (some ⟨b,0,none⟩) n cap) n (flatH d'.toList)::B):=by
 have h0:=(H.own (acc e 2 (.slice (some ⟨b,0,none⟩) n cap) n (flatH ys)) (by simp)).1
 obtain⟨h1,h2⟩:=h0
 have key:∀c,c<w.heap.size→(sortWorldK encH 2 w b 0 m d' os).heap[c]? = (w.heap.modify b (onCells (putCells id 0 (flatK encH 2 d'))))[c]? := by
  intro c hc
  unfold sortWorldK
  rw[heap_grow_old _ _ (by rw[size_putRowK];exact hc)]
  rfl
 have hsz:w.heap.size≤(sortWorldK encH 2 w b 0 m d' os).heap.size:=by unfold sortWorldK;rw[size_grow,size_putRowK];exact Nat.le_add_right _ _
 have hfp:(acc e 2 (.slice (some ⟨b,0,none⟩) n cap) n (flatH d'.toList)).fp=[b]:=rfl
 have hfq:(acc e 2 (.slice (some ⟨b,0,none⟩) n cap) n (flatH ys)).fp=[b]:=rfl
 refine H.upd (k:=0) (r:=acc e 2 (.slice (some ⟨b,0,none⟩) n cap) n (flatH ys)) rfl (w':=sortWorldK encH 2 w b 0 m d' os) rfl rfl rfl hsz (fun c hc hcn=>?_) (acc e 2 (.slice (some ⟨b,0,none⟩) n cap) n (flatH d'.toList)) ?_ (fun c hc=> .inl (by rw[hfq];rw[hfp]at hc;exact hc)) (by rw[hfp];simp)
 ·rw[key c hc,Array.getElem?_modify]
  have:¬b=c:=fun e=>hcn (by rw[hfq,e];simp)
  simp[this]
 ·rcases h2 with ⟨h2,_⟩|⟨b',cap',C,h2,h3,h4,h5,h6,h7⟩
  ·cases h2
  ·simp only[Value.slice.injEq,Option.some.injEq,Addr.mk.injEq]at h2
   obtain⟨⟨rfl,_⟩,_,rfl⟩:=h2
   have hb:b<w.heap.size:=(Array.getElem?_eq_some_iff.1 h3).1
   refine⟨by rw[flatH_len];simp[hd],.inr ⟨b,cap,putCells id 0 (flatK encH 2 d') C,rfl,?_,h4,h5,by simpa [putCells] using h6,?_⟩⟩
   ·show(sortWorldK encH 2 w b 0 m d' os).heap[b]? = _
    rw[key b hb,Array.getElem?_modify]
    have h3':w.heap[b]? = some (.cells C e (0,0)):=h3
    simp[h3',onCells]
   ·apply List.ext_getElem?
    intro t
    rw[List.getElem?_take]
    by_cases ht:t<n*2
    ·have hC:t<C.size:=by have:=Nat.mul_le_mul_right 2 h4;omega
     have hF:t<(flatK encH 2 d').size:=by simpa [hd] using ht
     rw[if_pos ht,←flatH_list]
     have e1:(flatK encH 2 d').toList[t]? = some (flatK encH 2 d')[t]! := by rw[getElem!_pos _ t hF];simp[hF]
     rw[e1]
     simp only[putCells,Array.getElem?_toList,Array.getElem?_mapIdx,Array.getElem?_eq_getElem hC,Option.map_some,Nat.zero_le,true_and,Nat.zero_add,Nat.sub_zero,id_eq]
     rw[if_pos hF]
    ·rw[if_neg ht,List.getElem?_eq_none (by rw[flatH_len];simp[hd];omega)]
end
instance decHold:DecidableEq BHold:=fun a b=>decidable_of_iff (a.snap=b.snap∧a.tag=b.tag) (by cases a;cases b;simp)
def keyH (x:BHold):Value:= .agg (encH x).toArray
theorem keyH_inj (a b:BHold)(h:keyH a=keyH b):a=b:=by
 cases a;cases b
 simp[keyH,encH,str]at h
 simp[h]
def uH (x:BHold):BHold×Value:=(x,.agg #[])
def IsSet (es:Array MapEntry)(ck:Nat)(L:List BHold):Prop:=MapIs keyH es ck (L.map uH)
theorem IsSet.empty:IsSet #[] 0 []:=MapIs.empty (key:=keyH) 0
theorem uH_keys (L:List BHold):(L.map uH).map (·.1)=L:=by
 induction L with
 | nil=>rfl
 | cons a r ih=>simp only[List.map_cons,ih];rfl
theorem IsSet.nd {es:Array MapEntry}{ck:Nat}{L:List BHold}(h:IsSet es ck L):L.Nodup:=by
 have:=MapIs.nd h
 rwa [uH_keys]at this
theorem look_set {es : Array MapEntry} {ck : Nat} {L : List BHold} (h : IsSet es ck L) (a : BHold) : look (L.map uH) a = if a ∈ L then some (.agg #[]) else none := by
 have hm:=look_keys (xs:=L.map uH) (a:=a) (MapIs.nd h)
 rw[uH_keys]at hm
 cases e:look (L.map uH) a with
 | none =>
  rw[e]at hm
  rw[if_neg (fun hh=>by have:=hm.2 hh;simp at this)]
 | some v =>
  rw[e]at hm
  rw[if_pos (hm.1 rfl)]
  obtain⟨x,_,hx⟩:=List.mem_map.1 (look_mem' e)
  simp only[uH,Prod.mk.injEq]at hx
  rw[←hx.2]
theorem upd_set {es:Array MapEntry}{ck:Nat}{L:List BHold}(h:IsSet es ck L){a:BHold}(hn:a ∉ L):upd (L.map uH) a (.agg #[])=(L++[a]).map uH:=by
 have h0:fnd a (L.map uH) 0=none:=by
  have:=look_set h a
  rw[if_neg hn]at this
  unfold look at this
  cases e:fnd a (L.map uH) 0 with
  | none=>rfl
  | some p=>rw[e]at this;simp at this
 simp[upd,h0,uH]
section ops
variable {P:Program} {n:Nat} {ops:Array Oper} {Q:Post} {rest:List Oper} {L:Slots} {ds:List Deferred} {w w0:World} {G0:PH} {S:List Nat} {G:PH} {B:List Res} {ty:TypeId} {ps:String} {af:Array Edge}
variable {t k e:TypeId} {b:Nat} {es:Array MapEntry} {ck:Nat} {M:List BHold} {a:BHold}
theorem o_load_c {d:Nat}{t:TypeId}{x:Operand}{b o:Nat}{v:Value}(hA:∀w,(isAgg t).run P w= .ok false w)(hd:Nat.blt d n=true)(hx:od L x=some (.pointer (some ⟨b,o,none⟩)))(hc:w.cell? ⟨b,o,none⟩=some v)
  (next:R P n ops Q rest ((d,v)::L) ds w):R P n ops Q (⟨some d,.load t x,ty,ps,af,none⟩::rest) L ds w :=
 R_run hd (fun a ha=>by simp[execOp,Instr.loadAt,ha.eval hx,Instr.sureAddr,loadVar,hA,hc]) next
theorem o_hasH (K:KeyA P k keyH){d:Nat}{x y:Operand}(hb:w.heap[b]? = some (.map es ck))(hm:IsSet es ck M)(ht:P.underlying t=some (.map k e))(hz:∀w,(zeroValue e).run P w= .ok (.agg #[]) w)(hd:Nat.blt d n=true)(hx:od L x=some (.map (some b)))(hy:od L y=some (keyH a))
  (next:R P n ops Q rest ((d,.tuple #[.agg #[],.bool (decide (a ∈ M))])::L) ds w):R P n ops Q (⟨some d,.lookup t x y true,ty,ps,af,none⟩::rest) L ds w:=by
 refine o_lookA2 K hb hm ht hz hd hx hy ?_
 rw[look_set hm]
 by_cases h:a ∈ M
 ·simpa [h] using next
 ·simpa [h] using next
theorem o_putH (K:KeyA P k keyH)(k0:Nat)(H:Hp w0 G0 S w G B){x y z:Operand}(hk0:nth B k0=some (blk b (.map es ck)))(hm:IsSet es ck M)(ht:P.underlying t=some (.map k e))
  (hx:od L x=some (.map (some b))) (hy:od L y=some (keyH a)) (hz:od L z=some (.agg #[])) (hn:a ∉ M)
  (next:∀es' ck' w',Hp w0 G0 S w' G (setN B k0 (blk b (.map es' ck')))→IsSet es' ck' (M++[a])→R P n ops Q rest L ds w'):R P n ops Q (⟨none,.mapUpdate t x y z,ty,ps,af,none⟩::rest) L ds w :=
 o_updA K k0 H hk0 hm ht hx hy hz (fun es' ck' w' H' hm'=>next es' ck' w' H' (by rw[upd_set hm hn]at hm';exact hm'))
end ops
theorem Hp.grownR {w0 w:World}{G0 G:PH}{B:List Res}{r:Nat}(H:Hp w0 G0 [r] w G B):w0.grownBy w (some r) :=
 ⟨H.os,H.tape,H.output,H.size,fun k hk hn=>H.ext k hk (by simp only[List.mem_singleton];exact fun e=>hn (by rw[e]))⟩
theorem len_sub:∀{l M:List BHold},l.Nodup→(∀c,c ∈ l→c ∈ M)→l.length≤M.length
 | [],_,_,_=>Nat.zero_le _
 | x :: r, M, hn, hs => by
  rw[List.nodup_cons]at hn
  have hx:x ∈ M:=hs x (List.mem_cons_self ..)
  have:=len_sub (l:=r) (M:=M.erase x) hn.2 (fun c hc=>(List.mem_erase_of_ne (fun e=>hn.1 (by rw[←e];exact hc))).2 (hs c (List.mem_cons_of_mem _ hc)))
  rw[List.length_erase_of_mem hx]at this
  have:=List.length_pos_of_mem hx
  simp only[List.length_cons]
  omega
theorem keys_perm {pre M:List BHold}(hp:pre.Nodup)(hM:M.Nodup)(h1:∀c,c ∈ pre→c ∈ M)(h2:∀c,c ∈ M→c ∈ pre):pre.Perm M :=
 (List.perm_ext_iff_of_nodup hp hM).2 fun c=>⟨h1 c,h2 c⟩
theorem Hp.holdShut {w0 w:World}{G0 G G':PH}{S:List Nat}{B:List Res}{e:TypeId}{v:Value}{n:Nat}{cs:List Value}{xs:List BHold}(H:Hp w0 G0 S w G (acc e 2 v n cs::B))(hc:Chk holdE 2 G' cs xs):n=xs.length∧cs=flatH xs∧∀x,x ∈ xs→smallH x:=by
 obtain⟨h1,h2⟩:=chkH hc
 have h3:=(H.own _ (List.mem_cons_self ..)).1.1
 have h4:=hc.length
 exact⟨by omega,h1,h2⟩
end Fw
namespace Sp
open Fw Nd
def prevH (l : List BHold) (i : Nat) (h : BHold) : Bool := match l[i - 1]? with
 | some g=>l31Before g h
 | none=>false
theorem holdOk_at {l:List BHold}{i:Nat}{h:BHold}(hz:l[i]? = some h):holdOk l i=(l31Ok h&&(decide (i=0)||prevH l i h)):=by
 unfold holdOk prevH
 rw[hz]<;>(cases l[i-1]? <;> rfl)
theorem take_snoc {α:Type}{l:List α}{k:Nat}{x:α}(h:l[k]? = some x):l.take (k+1)=l.take k++[x]:=by
 rw[List.take_add_one,h];rfl
def putK (l:List BHold)(h:BHold):List BHold:=if l.any (fun g=>l31Before h g) then putH l h else l
section
variable {l:List BHold} {h x:BHold} {k:Nat}
theorem tw_all {p:BHold→Bool}:∀{l:List BHold},l.all p=true→l.takeWhile p=l∧l.dropWhile p=[]
 | [],_=>⟨rfl,rfl⟩
 | a :: r, h => by
  simp only[List.all_cons,Bool.and_eq_true]at h
  obtain⟨h1,h2⟩:=tw_all h.2
  simp[h.1,h1,h2]
theorem tw_app {p:BHold→Bool}{x:BHold}:∀{l:List BHold},l.all p=false→(l++[x]).takeWhile p=l.takeWhile p∧(l++[x]).dropWhile p=l.dropWhile p++[x]
 | [],h=>by simp at h
 | a :: r, h => by
  by_cases e:p a=true
  ·simp only[List.all_cons,e,Bool.true_and]at h
   obtain⟨h1,h2⟩:=tw_app (x:=x) h
   simp[e,h1,h2]
  ·have e:p a=false:=by simpa using e
   simp[e]
theorem any_not {l : List BHold} {h : BHold} : l.all (fun g => !l31Before h g) = !l.any (fun g => l31Before h g) := by
 induction l with
 | nil=>rfl
 | cons a r ih=>simp only[List.all_cons,List.any_cons,ih,Bool.not_or]
theorem putH_no (e : l.any (fun g => l31Before h g) = false) : putH l h = l ++ [h] := by
 have:=tw_all (p:=fun g=> !l31Before h g) (l:=l) (by rw[any_not,e];rfl)
 unfold putH
 rw[this.1,this.2]
theorem putK_done (hz : l[k]? = some x) (e : (l.take k).any (fun g => l31Before h g) = true) : putK (l.take (k + 1)) h = putK (l.take k) h ++ [x] := by
 have:=tw_app (p:=fun g=> !l31Before h g) (l:=l.take k) (x:=x) (by rw[any_not,e];rfl)
 rw[take_snoc hz]
 unfold putK putH
 rw[if_pos e,if_pos (by rw[List.any_append,e];rfl),this.1,this.2]
 simp
theorem putK_none (e : l.any (fun g => l31Before h g) = false) : putK l h = l := by
 unfold putK;rw[if_neg (by simp only[e];simp)]
theorem putK_now (hz : l[k]? = some x) (e : (l.take k).any (fun g => l31Before h g) = false) (b : l31Before h x = true) : putK (l.take (k + 1)) h = putK (l.take k) h ++ [h] ++ [x] := by
 have ha:(l.take k).all (fun g=> !l31Before h g)=true:=by rw[any_not,e];rfl
 have hb:∀a,a ∈ l.take k→(!l31Before h a)=true:=List.all_eq_true.1 ha
 rw[putK_none e,take_snoc hz]
 unfold putK
 rw[if_pos (by rw[List.any_append];simp[b])]
 unfold putH
 rw[List.takeWhile_append_of_pos hb,List.dropWhile_append_of_pos hb]
 simp[b]
theorem putK_not (hz : l[k]? = some x) (e : (l.take k).any (fun g => l31Before h g) = false) (b : l31Before h x = false) : putK (l.take (k + 1)) h = putK (l.take k) h ++ [x] := by
 rw[putK_none e,take_snoc hz,putK_none]
 rw[List.any_append,e];simp[b]
theorem any_take (hz : l[k]? = some x) : (l.take (k + 1)).any (fun g => l31Before h g) = ((l.take k).any (fun g => l31Before h g) || l31Before h x) := by
 rw[take_snoc hz,List.any_append];simp
theorem putK_len:(putK l h).length≤l.length+1:=by
 unfold putK
 split
 ·unfold putH
  have h1:(l.takeWhile (fun g=> !l31Before h g)++l.dropWhile (fun g=> !l31Before h g)).length=l.length:=by rw[List.takeWhile_append_dropWhile]
  simp only[List.length_append,List.length_cons]at h1 ⊢
  omega
 ·omega
theorem putH_perm:(putH l h).Perm (l++[h]):=by
 unfold putH
 refine List.perm_middle.trans ?_
 rw[List.takeWhile_append_dropWhile]
 exact(List.perm_append_singleton h l).symm
theorem mem_tw {p:BHold→Bool}:∀{l:List BHold} {a:BHold},a ∈ l.takeWhile p→p a=true
 | [],_,h=>by simp at h
 | b :: r, a, h => by
  by_cases e:p b=true
  ·simp only[List.takeWhile_cons,e,if_true,List.mem_cons]at h
   rcases h with rfl|h
   ·exact e
   ·exact mem_tw h
  ·simp[e]at h
theorem dw_head {p:BHold→Bool}:∀{l:List BHold} {a:BHold} {r:List BHold},l.dropWhile p=a::r→p a=false
 | [],_,_,h=>by simp at h
 | b :: t, a, r, h => by
  by_cases e:p b=true
  ·simp only[List.dropWhile_cons,e,if_true]at h
   exact dw_head h
  ·simp only[List.dropWhile_cons,e]at h
   simp at h
   rw[←h.1];simpa using e
theorem putH_asc (hl:l.Pairwise hlt)(hn:h ∉ l):(putH l h).Pairwise hlt:=by
 have hd:(l.takeWhile (fun g=> !l31Before h g)++l.dropWhile (fun g=> !l31Before h g)).Pairwise hlt:=by rw[List.takeWhile_append_dropWhile];exact hl
 rw[List.pairwise_append]at hd
 have h1 : ∀ a, a ∈ l.takeWhile (fun g => !l31Before h g) → hlt a h := fun a ha => by
  have h2:=mem_tw ha
  rcases hlt_total a h with h3|h3|h3
  ·exact h3
  ·exact absurd (h3▸(List.takeWhile_sublist _).subset ha) hn
  ·unfold hlt at h3;rw[h3]at h2;cases h2
 have h2 : ∀ a, a ∈ l.dropWhile (fun g => !l31Before h g) → hlt h a := by
  intro a ha
  cases e:l.dropWhile (fun g=> !l31Before h g) with
  | nil=>rw[e]at ha;simp at ha
  | cons b r =>
   have hb:=dw_head e
   have hb:hlt h b:=by unfold hlt;simpa using hb
   rw[e]at ha
   rcases List.mem_cons.1 ha with rfl|ha
   ·exact hb
   ·have:=hd.2.1
    rw[e,List.pairwise_cons]at this
    exact hlt_trans hb (this.1 a ha)
 unfold putH
 rw[List.pairwise_append,List.pairwise_cons]
 refine⟨hd.1,⟨h2,hd.2.1⟩,?_⟩
 intro a ha b hb
 rcases List.mem_cons.1 hb with rfl|hb
 ·exact h1 a ha
 ·exact hd.2.2 a ha b hb
theorem put_sorted {s : List BHold} (hv : HoldsValid l = true) (hn : h ∉ l) (hp : s.Perm (l ++ [h])) (hs : s.Pairwise (fun a b => l31Before b a = false)) : s = putH l h :=
 hasc_uniq (hp.trans putH_perm.symm) (putH_asc (hvalid_iff.1 hv).asc hn) hs
theorem tags_sorted {s : List BHold} (hv : HoldsValid l = true) (hp : s.Perm l) (hs : s.Pairwise (fun a b => l31Before b a = false)) : s = l :=
 hasc_uniq hp (hvalid_iff.1 hv).asc hs
theorem has_iff:l31Has l h=true↔h ∈ l:=by
 unfold l31Has
 rw[List.any_eq_true]
 exact⟨fun⟨g,h1,h2⟩=>hsame_iff.1 h2▸h1,fun h1=>⟨h,h1,hsame_iff.2 rfl⟩⟩
theorem hold_none (h1:∀j,j<l.length→∀g,l[j]? = some g→g≠h):l31Has l h=false:=by
 cases e:l31Has l h with
 | false=>rfl
 | true =>
  obtain⟨j,hj⟩:=List.getElem?_of_mem (has_iff.1 e)
  exact absurd rfl (h1 j (List.getElem?_eq_some_iff.1 hj).1 h hj)
theorem tags_yes {s : Bs} (hz : l[k]? = some x) (e : x.snap = s) : ((l.take (k + 1)).filter (fun h => decide (h.snap = s))).map (·.tag) = ((l.take k).filter (fun h => decide (h.snap = s))).map (·.tag) ++ [x.tag] := by
 rw[take_snoc hz,List.filter_append,List.map_append];simp[e]
theorem tags_not {s : Bs} (hz : l[k]? = some x) (e : x.snap ≠ s) : ((l.take (k + 1)).filter (fun h => decide (h.snap = s))).map (·.tag) = ((l.take k).filter (fun h => decide (h.snap = s))).map (·.tag) := by
 rw[take_snoc hz,List.filter_append,List.map_append];simp[e]
theorem hput_len {r:List BHold}(hp:HoldPut l h=some r):r.length≤8:=by
 unfold HoldPut at hp
 split at hp
 ·rename_i hc
  simp only[Bool.and_eq_true,Bool.not_eq_true',decide_eq_false_iff_not]at hc
  have h8:=(hvalid_iff.1 hc.1.1.1).len
  simp only[Option.some.injEq]at hp
  have:=(putH_perm (l:=l) (h:=h)).length_eq
  rw[hp]at this
  simp at this
  omega
 ·cases hp
end
theorem ok_small {h:BHold}(ho:l31Ok h=true):smallH h:=by
 unfold l31Ok at ho
 rw[Bool.and_eq_true]at ho
 have h1:=sum_le (l:=[h.snap]) (by simp[ho.1])
 have h2:=sum_le (l:=[h.tag]) (by simp[ho.2])
 simp at h1 h2
 exact⟨by omega,by omega⟩
theorem list_small {l:List BHold}(hv:HoldsValid l=true):∀x,x ∈ l→smallH x:=fun x hx=>ok_small ((hvalid_iff.1 hv).ok x hx)
theorem free_no {d:BDisk}{l:List BHold}{s:Bs}(h:HoldsValid l=false∨HoldTags l s≠[]):DropFree d l s=none:=by
 unfold DropFree
 rcases h with h|h
 ·rw[h];rfl
 ·rw[decide_eq_false h];simp
theorem free_yes {d:BDisk}{l:List BHold}{s:Bs}(h1:HoldsValid l=true)(h2:HoldTags l s=[]):DropFree d l s=SnapDrop d s:=by
 unfold DropFree
 rw[h1,decide_eq_true h2];rfl
theorem hput_no {l:List BHold}{h:BHold}(hn:HoldsValid l=false∨l31Ok h=false∨h ∈ l∨l.length=8):HoldPut l h=none:=by
 unfold HoldPut
 rw[if_neg]
 simp only[Bool.and_eq_true,Bool.not_eq_true',decide_eq_false_iff_not]
 rintro⟨⟨⟨h1,h2⟩,h3⟩,h4⟩
 rcases hn with e|e|e|e
 ·rw[h1]at e;cases e
 ·rw[h2]at e;cases e
 ·rw[has_iff.2 e]at h3;cases h3
 ·exact h4 e
theorem hput_yes {l:List BHold}{h:BHold}(h1:HoldsValid l=true)(h2:l31Ok h=true)(h3:h ∉ l)(h4:l.length≠8):HoldPut l h=some (putH l h):=by
 unfold HoldPut
 rw[if_pos]
 have h5:l31Has l h=false:=by
  cases e:l31Has l h with
  | false=>rfl
  | true=>exact absurd (has_iff.1 e) h3
 simp[h1,h2,h5,h4]
theorem tags_eq {l : List BHold} {s : Bs} (h : HoldsValid l = true) : HoldTags l s = (l.filter (fun h => decide (h.snap = s))).map (·.tag) := by
 unfold HoldTags;rw[if_pos h]
theorem tags_no {l:List BHold}{s:Bs}(h:HoldsValid l=false):HoldTags l s=[]:=by
 unfold HoldTags;rw[if_neg (by simp[h])]
theorem hv_nd {l:List BHold}{k:Nat}{x:BHold}(hv:HoldsValid l=true)(hz:l[k]? = some x):x ∉ l.take k:=by
 intro hm
 obtain⟨j,hj⟩:=List.getElem?_of_mem hm
 rw[List.getElem?_take]at hj
 split at hj
 ·rename_i hlt
  have h1:=(List.pairwise_iff_getElem.1 (hvalid_iff.1 hv).asc) j k (List.getElem?_eq_some_iff.1 hj).1 (List.getElem?_eq_some_iff.1 hz).1 hlt
  rw[(List.getElem?_eq_some_iff.1 hj).2,(List.getElem?_eq_some_iff.1 hz).2]at h1
  exact hlt_irrefl _ h1
 ·cases hj
end Sp
namespace Fw
open Go Go.RowKit Go.ChangeShapes Go.WideShapes
variable {H:Type} {enc:TypeId×Value→H} {P:Program} {W:World} {bk:DataW H→Nat} {bka:List (DataW H)→Nat} {ts:TypeId}
end Fw
namespace Go.Proofs.Tst
open Go Fw Tryz
theorem bf34:BuildFact Tryz.prog 34 [(0,1),(1,1),(2,1)] [.slice none 0 0,.slice none 0 0,.slice none 0 0]:=buildFact zeroValue34 runUnderlying34 (fun w=>by simp[sizeOf30,sizeOf31,sizeOf32])
theorem bf55:BuildFact Tryz.prog 55 [(0,1),(1,1)] [str [],str []]:=buildFact zeroValue55 runUnderlying55 (fun w=>by simp[sizeOf9])
theorem bf106:BuildFact Tryz.prog 106 [(0,1),(1,1)] [str [],.slice none 0 0]:=buildFact zeroValue106 runUnderlying106 (fun w=>by simp[sizeOf9,sizeOf31])
theorem bf107:BuildFact Tryz.prog 107 [(0,1),(1,1),(2,1)] [.int .i64 0,.slice none 0 0,.int .i64 0]:=buildFact zeroValue107 runUnderlying107 (fun w=>by simp[sizeOf3,sizeOf92])
theorem bf109:BuildFact Tryz.prog 109 [(0,1),(1,1),(2,1)] [str [],.bool false,.slice none 0 0]:=buildFact zeroValue109 runUnderlying109 (fun w=>by simp[sizeOf4,sizeOf9,sizeOf92])
theorem bf117:BuildFact Tryz.prog 117 [(0,1),(1,1)] [.slice none 0 0,.int .i64 0]:=buildFact zeroValue117 runUnderlying117 (fun w=>by simp[sizeOf3,sizeOf45])
theorem bf119:BuildFact Tryz.prog 119 [(0,1),(1,1)] [.slice none 0 0,.slice none 0 0]:=buildFact zeroValue119 runUnderlying119 (fun w=>by simp[sizeOf30,sizeOf31])
theorem bf127:BuildFact Tryz.prog 127 [] []:=buildFact zeroValue127 runUnderlying127 (fun w=>by simp[])
theorem bf138:BuildFact Tryz.prog 138 [(0,1),(1,1)] [.map none,.pointer none]:=buildFact zeroValue138 runUnderlying138 (fun w=>by simp[sizeOf135,sizeOf136])
theorem bf141:BuildFact Tryz.prog 141 [(0,2),(2,2),(4,1)] [.int .i32 0,.int .u32 0,.map none,.pointer none,.slice none 0 0]:=buildFact zeroValue141 runUnderlying141 (fun w=>by simp[sizeOf133,sizeOf138,sizeOf139])
theorem bf145:BuildFact Tryz.prog 145 [(0,1),(1,1)] [str [],.pointer none]:=buildFact zeroValue145 runUnderlying145 (fun w=>by simp[sizeOf9,sizeOf136])
theorem bf192:BuildFact Tryz.prog 192 [(0,1),(1,1),(2,1),(3,1)] [str [],.bool false,.slice none 0 0,.slice none 0 0]:=buildFact zeroValue192 runUnderlying192 (fun w=>by simp[sizeOf4,sizeOf9,sizeOf92,sizeOf168])
end Go.Proofs.Tst
namespace Go.Proofs.Tst
open Go Fw
instance:CF Tryz.prog 100:=⟨Tryz.call100⟩
instance:CF Tryz.prog 101:=⟨Tryz.call101⟩
instance:CF Tryz.prog 102:=⟨Tryz.call102⟩
instance:CF Tryz.prog 103:=⟨Tryz.call103⟩
instance:CF Tryz.prog 104:=⟨Tryz.call104⟩
instance:CF Tryz.prog 105:=⟨Tryz.call105⟩
instance:CF Tryz.prog 106:=⟨Tryz.call106⟩
instance:CF Tryz.prog 109:=⟨Tryz.call109⟩
instance:CF Tryz.prog 11:=⟨Tryz.call11⟩
instance:CF Tryz.prog 110:=⟨Tryz.call110⟩
instance:CF Tryz.prog 111:=⟨Tryz.call111⟩
instance:CF Tryz.prog 112:=⟨Tryz.call112⟩
instance:CF Tryz.prog 113:=⟨Tryz.call113⟩
instance:CF Tryz.prog 114:=⟨Tryz.call114⟩
instance:CF Tryz.prog 115:=⟨Tryz.call115⟩
instance:CF Tryz.prog 116:=⟨Tryz.call116⟩
instance:CF Tryz.prog 117:=⟨Tryz.call117⟩
instance:CF Tryz.prog 118:=⟨Tryz.call118⟩
instance:CF Tryz.prog 119:=⟨Tryz.call119⟩
instance:CF Tryz.prog 120:=⟨Tryz.call120⟩
instance:CF Tryz.prog 123:=⟨Tryz.call123⟩
instance:CF Tryz.prog 127:=⟨Tryz.call127⟩
instance:CF Tryz.prog 128:=⟨Tryz.call128⟩
instance:CF Tryz.prog 129:=⟨Tryz.call129⟩
instance:CF Tryz.prog 130:=⟨Tryz.call130⟩
instance:CF Tryz.prog 131:=⟨Tryz.call131⟩
instance:CF Tryz.prog 132:=⟨Tryz.call132⟩
instance:CF Tryz.prog 133:=⟨Tryz.call133⟩
instance:CF Tryz.prog 134:=⟨Tryz.call134⟩
instance:CF Tryz.prog 135:=⟨Tryz.call135⟩
instance:CF Tryz.prog 136:=⟨Tryz.call136⟩
instance:CF Tryz.prog 137:=⟨Tryz.call137⟩
instance:CF Tryz.prog 138:=⟨Tryz.call138⟩
instance:CF Tryz.prog 139:=⟨Tryz.call139⟩
instance:CF Tryz.prog 140:=⟨Tryz.call140⟩
instance:CF Tryz.prog 141:=⟨Tryz.call141⟩
instance:CF Tryz.prog 142:=⟨Tryz.call142⟩
instance:CF Tryz.prog 143:=⟨Tryz.call143⟩
instance:CF Tryz.prog 144:=⟨Tryz.call144⟩
instance:CF Tryz.prog 145:=⟨Tryz.call145⟩
instance:CF Tryz.prog 146:=⟨Tryz.call146⟩
instance:CF Tryz.prog 147:=⟨Tryz.call147⟩
instance:CF Tryz.prog 148:=⟨Tryz.call148⟩
instance:CF Tryz.prog 149:=⟨Tryz.call149⟩
instance:CF Tryz.prog 150:=⟨Tryz.call150⟩
instance:CF Tryz.prog 151:=⟨Tryz.call151⟩
instance:CF Tryz.prog 160:=⟨Tryz.call160⟩
instance:CF Tryz.prog 164:=⟨Tryz.call164⟩
instance:CF Tryz.prog 165:=⟨Tryz.call165⟩
instance:CF Tryz.prog 166:=⟨Tryz.call166⟩
instance:CF Tryz.prog 167:=⟨Tryz.call167⟩
instance:CF Tryz.prog 168:=⟨Tryz.call168⟩
instance:CF Tryz.prog 169:=⟨Tryz.call169⟩
instance:CF Tryz.prog 17:=⟨Tryz.call17⟩
instance:CF Tryz.prog 170:=⟨Tryz.call170⟩
instance:CF Tryz.prog 171:=⟨Tryz.call171⟩
instance:CF Tryz.prog 172:=⟨Tryz.call172⟩
instance:CF Tryz.prog 173:=⟨Tryz.call173⟩
instance:CF Tryz.prog 174:=⟨Tryz.call174⟩
instance:CF Tryz.prog 175:=⟨Tryz.call175⟩
instance:CF Tryz.prog 176:=⟨Tryz.call176⟩
instance:CF Tryz.prog 177:=⟨Tryz.call177⟩
instance:CF Tryz.prog 178:=⟨Tryz.call178⟩
instance:CF Tryz.prog 18:=⟨Tryz.call18⟩
instance:CF Tryz.prog 19:=⟨Tryz.call19⟩
instance:CF Tryz.prog 199:=⟨Tryz.call199⟩
instance:CF Tryz.prog 20:=⟨Tryz.call20⟩
instance:CF Tryz.prog 200:=⟨Tryz.call200⟩
instance:CF Tryz.prog 201:=⟨Tryz.call201⟩
instance:CF Tryz.prog 202:=⟨Tryz.call202⟩
instance:CF Tryz.prog 203:=⟨Tryz.call203⟩
instance:CF Tryz.prog 204:=⟨Tryz.call204⟩
instance:CF Tryz.prog 205:=⟨Tryz.call205⟩
instance:CF Tryz.prog 206:=⟨Tryz.call206⟩
instance:CF Tryz.prog 207:=⟨Tryz.call207⟩
instance:CF Tryz.prog 208:=⟨Tryz.call208⟩
instance:CF Tryz.prog 209:=⟨Tryz.call209⟩
instance:CF Tryz.prog 21:=⟨Tryz.call21⟩
instance:CF Tryz.prog 210:=⟨Tryz.call210⟩
instance:CF Tryz.prog 220:=⟨Tryz.call220⟩
instance:CF Tryz.prog 221:=⟨Tryz.call221⟩
instance:CF Tryz.prog 222:=⟨Tryz.call222⟩
instance:CF Tryz.prog 223:=⟨Tryz.call223⟩
instance:CF Tryz.prog 224:=⟨Tryz.call224⟩
instance:CF Tryz.prog 236:=⟨Tryz.call236⟩
instance:CF Tryz.prog 242:=⟨Tryz.call242⟩
instance:CF Tryz.prog 245:=⟨Tryz.call245⟩
instance:CF Tryz.prog 246:=⟨Tryz.call246⟩
instance:CF Tryz.prog 26:=⟨Tryz.call26⟩
instance:CF Tryz.prog 27:=⟨Tryz.call27⟩
instance:CF Tryz.prog 28:=⟨Tryz.call28⟩
instance:CF Tryz.prog 33:=⟨Tryz.call33⟩
instance:CF Tryz.prog 45:=⟨Tryz.call45⟩
instance:CF Tryz.prog 46:=⟨Tryz.call46⟩
instance:CF Tryz.prog 47:=⟨Tryz.call47⟩
instance:CF Tryz.prog 48:=⟨Tryz.call48⟩
instance:CF Tryz.prog 49:=⟨Tryz.call49⟩
instance:CF Tryz.prog 50:=⟨Tryz.call50⟩
instance:CF Tryz.prog 51:=⟨Tryz.call51⟩
instance:CF Tryz.prog 52:=⟨Tryz.call52⟩
instance:CF Tryz.prog 53:=⟨Tryz.call53⟩
instance:CF Tryz.prog 54:=⟨Tryz.call54⟩
instance:CF Tryz.prog 55:=⟨Tryz.call55⟩
instance:CF Tryz.prog 56:=⟨Tryz.call56⟩
instance:CF Tryz.prog 57:=⟨Tryz.call57⟩
instance:CF Tryz.prog 58:=⟨Tryz.call58⟩
instance:CF Tryz.prog 59:=⟨Tryz.call59⟩
instance:CF Tryz.prog 63:=⟨Tryz.call63⟩
instance:CF Tryz.prog 64:=⟨Tryz.call64⟩
instance:CF Tryz.prog 65:=⟨Tryz.call65⟩
instance:CF Tryz.prog 66:=⟨Tryz.call66⟩
instance:CF Tryz.prog 67:=⟨Tryz.call67⟩
instance:CF Tryz.prog 68:=⟨Tryz.call68⟩
instance:CF Tryz.prog 77:=⟨Tryz.call77⟩
instance:CF Tryz.prog 78:=⟨Tryz.call78⟩
instance:CF Tryz.prog 79:=⟨Tryz.call79⟩
instance:CF Tryz.prog 8:=⟨Tryz.call8⟩
instance:CF Tryz.prog 80:=⟨Tryz.call80⟩
instance:CF Tryz.prog 81:=⟨Tryz.call81⟩
instance:CF Tryz.prog 82:=⟨Tryz.call82⟩
instance:CF Tryz.prog 83:=⟨Tryz.call83⟩
instance:CF Tryz.prog 84:=⟨Tryz.call84⟩
instance:CF Tryz.prog 85:=⟨Tryz.call85⟩
instance:CF Tryz.prog 86:=⟨Tryz.call86⟩
instance:CF Tryz.prog 87:=⟨Tryz.call87⟩
instance:CF Tryz.prog 88:=⟨Tryz.call88⟩
instance:CF Tryz.prog 89:=⟨Tryz.call89⟩
instance:CF Tryz.prog 90:=⟨Tryz.call90⟩
instance:CF Tryz.prog 94:=⟨Tryz.call94⟩
instance:CF Tryz.prog 95:=⟨Tryz.call95⟩
instance:CF Tryz.prog 96:=⟨Tryz.call96⟩
instance:CF Tryz.prog 98:=⟨Tryz.call98⟩
instance:CF Tryz.prog 99:=⟨Tryz.call99⟩
instance:FA Tryz.prog 106 0 0:=⟨_,_,_,Tryz.runUnderlying106,rfl,Tryz.sizeOf9,rfl⟩
instance:FA Tryz.prog 106 1 1:=⟨_,_,_,Tryz.runUnderlying106,rfl,Tryz.sizeOf31,rfl⟩
instance:FA Tryz.prog 107 0 0:=⟨_,_,_,Tryz.runUnderlying107,rfl,Tryz.sizeOf3,rfl⟩
instance:FA Tryz.prog 107 1 1:=⟨_,_,_,Tryz.runUnderlying107,rfl,Tryz.sizeOf92,rfl⟩
instance:FA Tryz.prog 107 2 2:=⟨_,_,_,Tryz.runUnderlying107,rfl,Tryz.sizeOf3,rfl⟩
instance:FA Tryz.prog 109 0 0:=⟨_,_,_,Tryz.runUnderlying109,rfl,Tryz.sizeOf9,rfl⟩
instance:FA Tryz.prog 109 1 1:=⟨_,_,_,Tryz.runUnderlying109,rfl,Tryz.sizeOf4,rfl⟩
instance:FA Tryz.prog 109 2 2:=⟨_,_,_,Tryz.runUnderlying109,rfl,Tryz.sizeOf92,rfl⟩
instance:FA Tryz.prog 117 0 0:=⟨_,_,_,Tryz.runUnderlying117,rfl,Tryz.sizeOf45,rfl⟩
instance:FA Tryz.prog 117 1 1:=⟨_,_,_,Tryz.runUnderlying117,rfl,Tryz.sizeOf3,rfl⟩
instance:FA Tryz.prog 119 0 0:=⟨_,_,_,Tryz.runUnderlying119,rfl,Tryz.sizeOf30,rfl⟩
instance:FA Tryz.prog 119 1 1:=⟨_,_,_,Tryz.runUnderlying119,rfl,Tryz.sizeOf31,rfl⟩
instance:FA Tryz.prog 138 0 0:=⟨_,_,_,Tryz.runUnderlying138,rfl,Tryz.sizeOf135,rfl⟩
instance:FA Tryz.prog 138 1 1:=⟨_,_,_,Tryz.runUnderlying138,rfl,Tryz.sizeOf136,rfl⟩
instance:FA Tryz.prog 141 0 0:=⟨_,_,_,Tryz.runUnderlying141,rfl,Tryz.sizeOf133,rfl⟩
instance:FA Tryz.prog 141 1 2:=⟨_,_,_,Tryz.runUnderlying141,rfl,Tryz.sizeOf138,rfl⟩
instance:FA Tryz.prog 141 2 4:=⟨_,_,_,Tryz.runUnderlying141,rfl,Tryz.sizeOf139,rfl⟩
instance:FA Tryz.prog 145 0 0:=⟨_,_,_,Tryz.runUnderlying145,rfl,Tryz.sizeOf9,rfl⟩
instance:FA Tryz.prog 145 1 1:=⟨_,_,_,Tryz.runUnderlying145,rfl,Tryz.sizeOf136,rfl⟩
instance:FA Tryz.prog 192 0 0:=⟨_,_,_,Tryz.runUnderlying192,rfl,Tryz.sizeOf9,rfl⟩
instance:FA Tryz.prog 192 1 1:=⟨_,_,_,Tryz.runUnderlying192,rfl,Tryz.sizeOf4,rfl⟩
instance:FA Tryz.prog 192 2 2:=⟨_,_,_,Tryz.runUnderlying192,rfl,Tryz.sizeOf92,rfl⟩
instance:FA Tryz.prog 192 3 3:=⟨_,_,_,Tryz.runUnderlying192,rfl,Tryz.sizeOf168,rfl⟩
instance:FA Tryz.prog 34 0 0:=⟨_,_,_,Tryz.runUnderlying34,rfl,Tryz.sizeOf30,rfl⟩
instance:FA Tryz.prog 34 1 1:=⟨_,_,_,Tryz.runUnderlying34,rfl,Tryz.sizeOf31,rfl⟩
instance:FA Tryz.prog 34 2 2:=⟨_,_,_,Tryz.runUnderlying34,rfl,Tryz.sizeOf32,rfl⟩
instance:FA Tryz.prog 55 0 0:=⟨_,_,_,Tryz.runUnderlying55,rfl,Tryz.sizeOf9,rfl⟩
instance:FA Tryz.prog 55 1 1:=⟨_,_,_,Tryz.runUnderlying55,rfl,Tryz.sizeOf9,rfl⟩
instance:AG Tryz.prog 106 true:=⟨Tryz.isAgg106⟩
instance:AG Tryz.prog 107 true:=⟨Tryz.isAgg107⟩
instance:AG Tryz.prog 109 true:=⟨Tryz.isAgg109⟩
instance:AG Tryz.prog 119 true:=⟨Tryz.isAgg119⟩
instance:AG Tryz.prog 135 false:=⟨Tryz.isAgg135⟩
instance:AG Tryz.prog 136 false:=⟨Tryz.isAgg136⟩
instance:AG Tryz.prog 138 true:=⟨Tryz.isAgg138⟩
instance:AG Tryz.prog 139 false:=⟨Tryz.isAgg139⟩
instance:AG Tryz.prog 145 true:=⟨Tryz.isAgg145⟩
instance:AG Tryz.prog 168 false:=⟨Tryz.isAgg168⟩
instance:AG Tryz.prog 3 false:=⟨Tryz.isAgg3⟩
instance:AG Tryz.prog 30 false:=⟨Tryz.isAgg30⟩
instance:AG Tryz.prog 31 false:=⟨Tryz.isAgg31⟩
instance:AG Tryz.prog 32 false:=⟨Tryz.isAgg32⟩
instance:AG Tryz.prog 34 true:=⟨Tryz.isAgg34⟩
instance:AG Tryz.prog 4 false:=⟨Tryz.isAgg4⟩
instance:AG Tryz.prog 45 false:=⟨Tryz.isAgg45⟩
instance:AG Tryz.prog 5 false:=⟨Tryz.isAgg5⟩
instance:AG Tryz.prog 55 true:=⟨Tryz.isAgg55⟩
instance:AG Tryz.prog 9 false:=⟨Tryz.isAgg9⟩
instance:AG Tryz.prog 92 false:=⟨Tryz.isAgg92⟩
instance:SZ Tryz.prog 106 2:=⟨Tryz.sizeOf106⟩
instance:SZ Tryz.prog 107 3:=⟨Tryz.sizeOf107⟩
instance:SZ Tryz.prog 109 3:=⟨Tryz.sizeOf109⟩
instance:SZ Tryz.prog 119 2:=⟨Tryz.sizeOf119⟩
instance:SZ Tryz.prog 127 0:=⟨Tryz.sizeOf127⟩
instance:SZ Tryz.prog 133 2:=⟨Tryz.sizeOf133⟩
instance:SZ Tryz.prog 135 1:=⟨Tryz.sizeOf135⟩
instance:SZ Tryz.prog 136 1:=⟨Tryz.sizeOf136⟩
instance:SZ Tryz.prog 138 2:=⟨Tryz.sizeOf138⟩
instance:SZ Tryz.prog 139 1:=⟨Tryz.sizeOf139⟩
instance:SZ Tryz.prog 145 2:=⟨Tryz.sizeOf145⟩
instance:SZ Tryz.prog 168 1:=⟨Tryz.sizeOf168⟩
instance:SZ Tryz.prog 3 1:=⟨Tryz.sizeOf3⟩
instance:SZ Tryz.prog 30 1:=⟨Tryz.sizeOf30⟩
instance:SZ Tryz.prog 31 1:=⟨Tryz.sizeOf31⟩
instance:SZ Tryz.prog 32 1:=⟨Tryz.sizeOf32⟩
instance:SZ Tryz.prog 34 3:=⟨Tryz.sizeOf34⟩
instance:SZ Tryz.prog 4 1:=⟨Tryz.sizeOf4⟩
instance:SZ Tryz.prog 45 1:=⟨Tryz.sizeOf45⟩
instance:SZ Tryz.prog 5 1:=⟨Tryz.sizeOf5⟩
instance:SZ Tryz.prog 55 2:=⟨Tryz.sizeOf55⟩
instance:SZ Tryz.prog 9 1:=⟨Tryz.sizeOf9⟩
instance:SZ Tryz.prog 92 1:=⟨Tryz.sizeOf92⟩
instance:UL Tryz.prog 139 (.slice 145):=⟨Tryz.underlying139⟩
instance:UL Tryz.prog 168 (.slice 136):=⟨Tryz.underlying168⟩
instance:UL Tryz.prog 243 (.slice 92):=⟨Tryz.underlying243⟩
instance:UL Tryz.prog 247 .string:=⟨Tryz.underlying247⟩
instance:UL Tryz.prog 30 (.slice 107):=⟨Tryz.underlying30⟩
instance:UL Tryz.prog 31 (.slice 109):=⟨Tryz.underlying31⟩
instance:UL Tryz.prog 32 (.slice 106):=⟨Tryz.underlying32⟩
instance:UL Tryz.prog 38 (.slice 55):=⟨Tryz.underlying38⟩
instance:UL Tryz.prog 45 (.slice 5):=⟨Tryz.underlying45⟩
instance:UL Tryz.prog 49 (.slice 9):=⟨Tryz.underlying49⟩
instance:UL Tryz.prog 9 .string:=⟨Tryz.underlying9⟩
instance:UL Tryz.prog 92 (.slice 3):=⟨Tryz.underlying92⟩
instance:ZV Tryz.prog 106 [str [],.slice none 0 0]:=⟨_,Tryz.zeroValue106,rfl⟩
instance:ZV Tryz.prog 107 [.int .i64 0,.slice none 0 0,.int .i64 0]:=⟨_,Tryz.zeroValue107,rfl⟩
instance:ZV Tryz.prog 109 [str [],.bool false,.slice none 0 0]:=⟨_,Tryz.zeroValue109,rfl⟩
instance:ZV Tryz.prog 119 [.slice none 0 0,.slice none 0 0]:=⟨_,Tryz.zeroValue119,rfl⟩
instance:ZV Tryz.prog 127 []:=⟨_,Tryz.zeroValue127,rfl⟩
instance:ZV Tryz.prog 136 [.pointer none]:=⟨_,Tryz.zeroValue136,rfl⟩
instance:ZV Tryz.prog 138 [.map none,.pointer none]:=⟨_,Tryz.zeroValue138,rfl⟩
instance:ZV Tryz.prog 145 [str [],.pointer none]:=⟨_,Tryz.zeroValue145,rfl⟩
instance:ZV Tryz.prog 3 [.int .i64 0]:=⟨_,Tryz.zeroValue3,rfl⟩
instance:ZV Tryz.prog 34 [.slice none 0 0,.slice none 0 0,.slice none 0 0]:=⟨_,Tryz.zeroValue34,rfl⟩
instance:ZV Tryz.prog 55 [str [],str []]:=⟨_,Tryz.zeroValue55,rfl⟩
instance:ZV Tryz.prog 9 [str []]:=⟨_,Tryz.zeroValue9,rfl⟩
instance:ZV Tryz.prog 92 [.slice none 0 0]:=⟨_,Tryz.zeroValue92,rfl⟩
end Go.Proofs.Tst
namespace Go.Proofs.Tst
open Go Fw Tryz
theorem l_Equal_c (w0:World)(G0:PH)(hG:PSub G0 w0)(va:Value)(a:List (Int))(ha:RdI G0 va a)(vb:Value)(b:List (Int))(hb:RdI G0 vb b) :
  Calls Tryz.prog 205 #[va,vb] w0 (Rets w0 (.bool (Sp.l2Same a b))):=by
 obtain⟨aa,ka,rfl⟩:=ha.shape
 have hlima:a.length≤1099511627776:=ha.lim
 obtain⟨ab,kb,rfl⟩:=hb.shape
 have hlimb:b.length≤1099511627776:=hb.lim
 have H:=Hp.init hG
 refine calls_of_W (l:=[.slice aa a.length ka,.slice ab b.length kb]) func205 Z ntmps205 Z (q2 (aG Z (q3 (W_seq (q2 (mV Z (lN Z (mV Z (lN Z (pe 1 Z (q3 ?_)))))))))))
 refine W_cond Z ?_ ?_
 ·intro hc1
  try simp only[nrm]at hc1
  refine q2 (aG Z (q3 (W_ret (N_K_ret (rt1 results205 Z ?_)))))
  exact H.rets (congrArg Value.bool (by unfold Sp.l2Same;exact Sp.ne_len oM))
 intro hc1'
 try simp only[nrm]at hc1'
 refine W_skip (N_K (W_seq (q2 (mV Z (lN Z (mV Z (q3 (W_block ?_))))))))
 refine W_lp (hf:=(Sub.cons (t:=0) Z (Sub.cons (t:=1) Z (Sub.cons (t:=12) Z Sub.nil)))) (J:=fun M w m=>∃(k:Nat) (G:PH),M=[(13,.int .i64 (k:Int))]∧PLe G0 G∧Hp w0 G0 [] w G []∧(k≤a.length∧a.take k=b.take k)∧m=(a.length-k)) (h0:=⟨0,_,Z,PLe.refl _,H,?inv,Z⟩) (round:=?round)
 case inv=>exact⟨by omega,by simp⟩
 case round =>
  rintro _ _ _ ⟨k,G2,rfl,hle2,H,hinv2,rfl⟩
  have ha:=ha.up hle2
  have hb:=hb.up hle2
  obtain⟨_,hall⟩:=hinv2
  refine q2 (pe 1 Z (q3 (W_seq ?_)))
  refine W_cond Z ?_ ?_
  ·intro hc3
   try simp only[nrm]at hc3
   refine W_skip (N_K (W_seq (W_block (q2 (pe 2 Z (q3 (W_seq (W_drawK [] 9 H kR Z ?_))))))));intro _ H;have hd4:=PLe.refl G2
   refine dE 0 Z2 (dE 1 Z2 ?_)
   have hl5:=ha.len
   obtain⟨_,_,_,_,ha5,hz5,hq5,hE5,hrow5,_⟩:=ha.at (i:=k) oM
   clear hq5
   obtain⟨rfl,_⟩:=hE5
   refine dI 2 1 k ha5 Z3 Z (dP 3 hrow5 0 Z3 (dE 4 Z2 (dE 5 Z2 ?_)))
   have hl6:=hb.len
   obtain⟨_,_,_,_,ha6,hz6,hq6,hE6,hrow6,_⟩:=hb.at (i:=k) oM
   clear hq6
   obtain⟨rfl,_⟩:=hE6
   refine dI 6 1 k ha6 Z3 Z (dP 7 hrow6 0 Z3 (dE 8 Z2 (rz (N_K ?_))))
   refine W_cond Z ?_ ?_
   ·intro hc7
    try simp only[nrm]at hc7
    refine q2 (aG Z (q3 (W_ret (N_B_ret (N_K_ret (N_LP_ret (N_B_ret (N_K_ret (rt1 results205 Z ?_)))))))))
    exact H.rets (congrArg Value.bool (by unfold Sp.l2Same;exact Sp.ne_at hz5 hz6 oM))
   intro hc7'
   try simp only[nrm]at hc7'
   refine W_skip (N_B (N_K (W_region (aD Z2 (mV Z (R_nil ?_))))))
   refine N_lp (hJ:=⟨k+1,_,Z,hle2,H,?inv,Z⟩) (hm:=?hm)
   case hm=>omega
   case inv=>exact⟨by omega,Sp.take_eq hall hz5 (by rw[hz6];congr 1;omega)⟩
  intro hc3'
  try simp only[nrm]at hc3'
  refine W_exit (N_K_exit (N_LP_exit (N_B_same (N_K (q2 (aG Z (q3 (W_ret (rt1 results205 Z ?_)))))))))
  exact H.rets (congrArg Value.bool (by unfold Sp.l2Same;exact Sp.eq_all hall oM oM))
theorem l_Clone_c (w0:World)(G0:PH)(hG:PSub G0 w0)(vl:Value)(l:List (Int))(hl:RdI G0 vl l) :
  Calls Tryz.prog 150 #[vl] w0 (RetO w0 G0 (AccOf intE 1 3 l)):=by
 obtain⟨al,kl,rfl⟩:=hl.shape
 have hliml:l.length≤1099511627776:=hl.lim
 have H:=Hp.init hG
 refine calls_of_W (l:=[.slice al l.length kl]) func150 Z ntmps150 Z (q2 (aG Z (q3 (W_seq (q2 (mV Z (o_eqnil_slice underlying92 Z Z Z (q3 ?_))))))))
 refine W_cond Z ?_ ?_
 ·intro hc1
  try simp only[nrm]at hc1
  refine q2 (aG Z (q3 (W_ret (N_K_ret (rt1 results150 Z ?_)))))
  obtain rfl:al=none:=by simpa using hc1
  obtain rfl:l=[]:=by obtain⟨_,_,h1,_,_,h2⟩:=hl;rcases h2 with h2|⟨b,o,h2,_⟩;(· exact h2);simp only[Value.slice.injEq]at h1;rw[←h1.1]at h2;cases h2
  have H:=H.addNil 3 1
  exact H.retO (k:=0) Z (AccOf.mk Z Chk.nil) (acc_nd _ _ _ _ _)
 intro hc1'
 try simp only[nrm]at hc1'
 refine W_skip (N_K (q2 (xbs H Z7 ?_)));intro _ _ _ H
 have H:=H.blkAcc 1 (k:=0) (n:=0) rfl rfl (by decide)
 refine mV Z ?_
 refine o_append_P 0 H hl (by intro _ _ hz _ hu;obtain⟨rfl,_⟩:=hz;simp at hu;subst hu;rfl) (sz:=1) (bytes:=8) underlying92 typeInfo3 ⟨_,rfl,rfl⟩ rfl rfl rfl rfl rfl rfl rfl oM rfl ?_;intro _ _ css3 hcl3 hcs3 H
 have hchk3:Chk intE 1 G0 ([]++css3.flatten) _:=⟨css3,rfl,hcl3,hcs3⟩
 obtain⟨_,_,rfl⟩:=H.accShape (k:=0) rfl
 refine aG Z (q3 (W_ret (rt1 results150 Z ?_)))
 exact H.retO (k:=0) rfl (by skip;exact AccOf.mk aN hchk3) (acc_nd _ _ _ _ _)
theorem i_bytesValid_c (w0:World)(G0:PH)(hG:PSub G0 w0)(vbytes:Value)(bytes:List (Int))(hbytes:RdI G0 vbytes bytes) :
  Calls Tryz.prog 223 #[vbytes] w0 (Rets w0 (.bool (bytes.all Sp.byteOk))):=by
 obtain⟨abytes,kbytes,rfl⟩:=hbytes.shape
 have hlimbytes:bytes.length≤1099511627776:=hbytes.lim
 have H:=Hp.init hG
 refine calls_of_W (l:=[.slice abytes bytes.length kbytes]) func223 Z ntmps223 Z (q2 (aG Z (q3 (W_seq (q2 (mV Z (lN Z (mV Z (q3 (W_block ?_))))))))))
 refine W_lp (hf:=(Sub.cons (t:=5) Z (Sub.cons (t:=6) Z Sub.nil))) (J:=fun M w m=>∃(k:Nat) (G:PH),M=[(7,.int .i64 (k:Int))]∧PLe G0 G∧Hp w0 G0 [] w G []∧(k≤bytes.length∧(bytes.take k).all Sp.byteOk=true)∧m=(bytes.length-k)) (h0:=⟨0,_,Z,PLe.refl _,H,?inv,Z⟩) (round:=?round)
 case inv=>exact⟨by omega,by simp⟩
 case round =>
  rintro _ _ _ ⟨k,_,rfl,hle1,H,hinv1,rfl⟩
  have hbytes:=hbytes.up hle1
  obtain⟨_,hall⟩:=hinv1
  refine q2 (pe 1 Z (q3 (W_seq ?_)))
  refine W_cond Z ?_ ?_
  ·intro hc2
   try simp only[nrm]at hc2
   refine W_skip (N_K (W_seq (W_block (q2 (iP k hbytes Z3 Z ?_)))));intro _ _ _ _ hz3 hE3 hrow3
   obtain⟨rfl,_⟩:=hE3
   refine lP H hrow3 0 Z2 (aG Z (q1 (pe 3 Z ?_)))
   refine R_case (t:=13) Z ?_ ?_
   ·intro hc4
    try simp only[nrm]at hc4
    refine pe 3 Z (q3 (W_true Z (q2 (aG Z (q3 (W_ret (N_B_ret (N_K_ret (N_LP_ret (N_B_ret (N_K_ret (rt1 results223 Z ?_))))))))))))
    exact H.rets (congrArg Value.bool (by rw[Sp.all_false hz3 (by simp[Sp.byteOk,Sp.l6In];omega)]))
   intro hc4'
   try simp only[nrm]at hc4'
   refine pe 3 Z (q3 ?_)
   refine W_cond Z ?_ ?_
   ·intro hc5
    try simp only[nrm]at hc5
    refine q2 (aG Z (q3 (W_ret (N_B_ret (N_K_ret (N_LP_ret (N_B_ret (N_K_ret (rt1 results223 Z ?_)))))))))
    exact H.rets (congrArg Value.bool (by rw[Sp.all_false hz3 (by simp[Sp.byteOk,Sp.l6In];omega)]))
   intro hc5'
   try simp only[nrm]at hc5'
   refine W_skip (N_B (N_K (W_region (aD Z2 (mV Z (R_nil ?_))))))
   refine N_lp (hJ:=⟨k+1,_,Z,hle1,H,?inv,Z⟩) (hm:=?hm)
   case hm=>omega
   case inv=>exact⟨by omega,Sp.all_take hall hz3 (by simp[Sp.byteOk,Sp.l6In];omega)⟩
  intro hc2'
  try simp only[nrm]at hc2'
  refine W_exit (N_K_exit (N_LP_exit (N_B_same (N_K (q2 (aG Z (q3 (W_ret (rt1 results223 Z ?_)))))))))
  obtain rfl:k=bytes.length:=by omega
  rw[List.take_length]at hall
  exact H.rets (congrArg Value.bool (by rw[hall]))
theorem i_BlockValid_c (w0:World)(G0:PH)(hG:PSub G0 w0)(vbytes:Value)(bytes:List (Int))(hbytes:RdI G0 vbytes bytes) :
  Calls Tryz.prog 204 #[vbytes] w0 (Rets w0 (.bool (Sp.BlockValid bytes))):=by
 obtain⟨abytes,kbytes,rfl⟩:=hbytes.shape
 have hlimbytes:bytes.length≤1099511627776:=hbytes.lim
 have H:=Hp.init hG
 refine calls_of_W (l:=[.slice abytes bytes.length kbytes]) func204 Z ntmps204 Z (q2 (aG Z (q1 (mV Z (lN Z (pe 2 Z ?_))))))
 refine R_case (t:=6) Z ?_ ?_
 ·intro hc1
  try simp only[nrm]at hc1
  refine pe 1 Z (gR Z (lN Z (pe 3 Z ?_)))
  refine R_case (t:=11) Z ?_ ?_
  ·intro hc2
   try simp only[nrm]at hc2
   refine pe 1 Z (gR Z (xr H Z2 (i_bytesValid_c _ _ H.sub _ _ hbytes) ?_));intro _ H
   refine pe 2 Z (q3 (W_ret (rt1 results204 Z ?_)))
   exact H.rets (congrArg Value.bool (by unfold Sp.BlockValid Sp.l6In;rw[Bool.eq_iff_iff];simp;omega))
  intro hc2'
  try simp only[nrm]at hc2'
  refine pe 4 Z (q3 (W_ret (rt1 results204 Z ?_)))
  exact H.rets (congrArg Value.bool (by unfold Sp.BlockValid Sp.l6In;rw[Bool.eq_iff_iff];simp;omega))
 intro hc1'
 try simp only[nrm]at hc1'
 refine pe 9 Z (q3 (W_ret (rt1 results204 Z ?_)))
 exact H.rets (congrArg Value.bool (by unfold Sp.BlockValid Sp.l6In;rw[Bool.eq_iff_iff];simp;omega))
theorem i_partValid_c (w0:World)(s:Bs)(hs:s.length≤16777216) :
  Calls Tryz.prog 95 #[str s] w0 (Rets w0 (.bool (Sp.l1Word s))):=by
 have H:=Hp.init0 w0
 refine calls_of_W (l:=[str s]) func95 Z ntmps95 Z (q2 (aG Z (q3 (W_seq (q2 (mV Z (lS Z (pe 2 Z ?_))))))))
 refine R_case (t:=7) Z ?_ ?_
 ·intro hc1
  try simp only[nrm]at hc1
  refine pe 4 Z (q3 (W_true Z (q2 (aG Z (q3 (W_ret (N_K_ret (rt1 results95 Z ?_))))))))
  exact H.rets (congrArg Value.bool (by unfold Sp.l1Word;rw[Bool.eq_iff_iff];simp;omega))
 intro hc1'
 try simp only[nrm]at hc1'
 refine pe 1 Z (gR Z (lS Z (pe 2 Z (q3 ?_))))
 refine W_cond Z ?_ ?_
 ·intro hc2
  try simp only[nrm]at hc2
  refine q2 (aG Z (q3 (W_ret (N_K_ret (rt1 results95 Z ?_)))))
  exact H.rets (congrArg Value.bool (by unfold Sp.l1Word;rw[Bool.eq_iff_iff];simp;omega))
 intro hc2'
 try simp only[nrm]at hc2'
 refine W_skip (N_K (W_seq (q2 (aG Z (q3 (W_block ?_))))))
 refine W_lp (hf:=(Sub.cons (t:=0) Z Sub.nil)) (J:=fun M w m=>∃(k:Nat) (G:PH),M=[(3,.int .i64 (k:Int))]∧PLe (fun _=>none) G∧Hp w0 (fun _=>none) [] w G []∧(k≤s.length∧(s.take k).all Sp.low=true)∧m=(s.length-k)) (h0:=⟨0,_,Z,PLe.refl _,H,?inv,Z⟩) (round:=?round)
 case inv=>exact⟨by omega,by simp⟩
 case round =>
  rintro _ _ _ ⟨k,_,rfl,hle3,H,hinv3,rfl⟩
  obtain⟨_,hall⟩:=hinv3
  refine W_seq (q2 (pe 2 Z (lS Z (pe 1 Z (q3 ?_)))))
  refine W_cond Z ?_ ?_
  ·intro hc4
   try simp only[nrm]at hc4
   refine W_skip (N_K (W_seq (W_block (q2 (pe 2 Z (o_index_str underlying9 Z Z Z Z oM ?_))))));intro ch5 hch5;have hlt5:=ch5.toNat_lt
   refine pe 2 Z ?_
   refine R_case (t:=22) Z ?_ ?_
   ·intro hc6
    try simp only[nrm]at hc6
    refine pe 5 Z (q3 (W_true Z (q2 (aG Z (q3 (W_ret (N_B_ret (N_K_ret (N_LP_ret (N_B_ret (N_K_ret (rt1 results95 Z ?_))))))))))))
    exact H.rets (congrArg Value.bool (by rw[Sp.l1Word,Sp.all_false hch5 (by simp[Sp.low];omega)];rfl))
   intro hc6'
   try simp only[nrm]at hc6'
   refine pe 2 Z (gR Z (o_index_str underlying9 Z Z Z Z oM ?_));intro ch7 hch7;have hlt7:=ch7.toNat_lt
   obtain rfl:ch7=ch5:=Option.some.inj (hch7.symm.trans hch5)
   refine pe 2 Z (q3 ?_)
   refine W_cond Z ?_ ?_
   ·intro hc8
    try simp only[nrm]at hc8
    refine q2 (aG Z (q3 (W_ret (N_B_ret (N_K_ret (N_LP_ret (N_B_ret (N_K_ret (rt1 results95 Z ?_)))))))))
    exact H.rets (congrArg Value.bool (by rw[Sp.l1Word,Sp.all_false hch7 (by simp[Sp.low];omega)];rfl))
   intro hc8'
   try simp only[nrm]at hc8'
   refine W_skip (N_B (N_K (W_region (mV Z (aD Z2 (aG Z (R_nil ?_)))))))
   refine N_lp (hJ:=⟨k+1,_,Z,hle3,H,?inv,Z⟩) (hm:=?hm)
   case hm=>omega
   case inv=>exact⟨by omega,Sp.all_take hall hch7 (by simp[Sp.low];omega)⟩
  intro hc4'
  try simp only[nrm]at hc4'
  refine W_exit (N_K_exit (N_LP_exit (N_B_same (N_K (q2 (aG Z (q3 (W_ret (rt1 results95 Z ?_)))))))))
  obtain rfl:k=s.length:=by omega
  rw[List.take_length]at hall
  exact H.rets (congrArg Value.bool (by simp only[Sp.l1Word,hall];rw[Bool.eq_iff_iff];simp;omega))
end Go.Proofs.Tst
namespace Go.Proofs
open Go.Shelf
def Tryz.keysA_ren:Go.Shelf.Ren:=⟨fun|7=>149|10=>181|n=>n,fun|23=>135|26=>3|3=>107|28=>196|0=>0|27=>195|33=>206|4=>4|n=>n,fun|n=>n⟩
theorem Tryz.keysA:Go.Proofs.SlLaysZI.n7 Tryz.prog Tryz.keysA_ren:={
 mixed:=by kernel_rfl
 f7:=⟨Tryz.f149.name,by decide,Tryz.func149.trans (congrArg some (by kernel_rfl))⟩
 f10:=⟨Tryz.f181.name,by decide,Tryz.func181.trans (congrArg some (by kernel_rfl))⟩
 t0:=Tryz.underlying0
 a0:=Tryz.isAgg0
 z0:=Tryz.sizeOf0
 v0:=Tryz.zeroValue0
 t4:=Tryz.underlying4
 a4:=Tryz.isAgg4
 z4:=Tryz.sizeOf4
 v4:=Tryz.zeroValue4
 t23:=Tryz.underlying135
 a23:=Tryz.isAgg135
 z23:=Tryz.sizeOf135
 v23:=Tryz.zeroValue135
 t26:=Tryz.underlying3
 a26:=Tryz.isAgg3
 z26:=Tryz.sizeOf3
 v26:=Tryz.zeroValue3
 t27:=Tryz.underlying195
 a27:=Tryz.isAgg195
 z27:=Tryz.sizeOf195
 v27:=Tryz.zeroValue195
 t28:=Tryz.underlying196
 a28:=Tryz.isAgg196
 z28:=Tryz.sizeOf196
 v28:=Tryz.zeroValue196
 t33:=Tryz.underlying206
 a33:=Tryz.isAgg206
 z33:=Tryz.sizeOf206
 v33:=Tryz.zeroValue206}
def Tryz.sortedA_ren:Go.Shelf.Ren:=⟨fun|6=>148|8=>179|9=>180|11=>213|13=>163|12=>214|23=>197|24=>198|14=>226|15=>227|16=>228|17=>229|18=>230|19=>231|20=>232|21=>233|22=>234|25=>238|26=>216|27=>217|28=>239|29=>240|30=>241|31=>243|n=>n,fun|26=>3|28=>196|24=>92|0=>0|3=>3|37=>210|48=>129|50=>240|4=>4|40=>233|39=>232|45=>222|5=>5|9=>9|51=>255|55=>259|57=>271|58=>272|33=>206|n=>n,fun|n=>n⟩
theorem Tryz.sortedA:Go.Proofs.SlLaysZI.n6 Tryz.prog Tryz.sortedA_ren:={
 mixed:=by kernel_rfl
 f6:=⟨Tryz.f148.name,by decide,Tryz.func148.trans (congrArg some (by kernel_rfl))⟩
 f8:=⟨Tryz.f179.name,by decide,Tryz.func179.trans (congrArg some (by kernel_rfl))⟩
 f11:=⟨Tryz.f213.name,by decide,Tryz.func213.trans (congrArg some (by kernel_rfl))⟩
 t0:=Tryz.underlying0
 a0:=Tryz.isAgg0
 z0:=Tryz.sizeOf0
 v0:=Tryz.zeroValue0
 t24:=Tryz.underlying92
 a24:=Tryz.isAgg92
 z24:=Tryz.sizeOf92
 v24:=Tryz.zeroValue92
 t26:=Tryz.underlying3
 a26:=Tryz.isAgg3
 z26:=Tryz.sizeOf3
 v26:=Tryz.zeroValue3
 t28:=Tryz.underlying196
 a28:=Tryz.isAgg196
 z28:=Tryz.sizeOf196
 v28:=Tryz.zeroValue196
 i26:=by kernel_rfl}
def Tryz.sortA_ren:Go.Shelf.Ren:=⟨fun|5=>180|8=>163|7=>214|19=>197|20=>198|10=>226|11=>227|12=>228|13=>229|14=>230|15=>231|16=>232|17=>233|18=>234|30=>238|31=>216|32=>217|33=>239|34=>240|35=>241|40=>243|n=>n,fun|23=>92|25=>3|3=>3|32=>210|22=>92|0=>0|44=>129|46=>240|4=>4|36=>233|35=>232|41=>222|5=>5|9=>9|53=>255|57=>259|63=>271|64=>272|n=>n,fun|n=>n⟩
theorem Tryz.sortA:Go.Proofs.SlLaysM.n5 Tryz.prog Tryz.sortA_ren:={
 mixed:=by kernel_rfl
 f5:=⟨Tryz.f180.name,by decide,Tryz.func180.trans (congrArg some (by kernel_rfl))⟩
 f7:=⟨Tryz.f214.name,by decide,Tryz.func214.trans (congrArg some (by kernel_rfl))⟩
 f8:=Tryz.func163.trans (congrArg some (by kernel_rfl))
 f10:=⟨Tryz.f226.name,by decide,Tryz.func226.trans (congrArg some (by kernel_rfl))⟩
 f11:=⟨Tryz.f227.name,by decide,Tryz.func227.trans (congrArg some (by kernel_rfl))⟩
 f12:=⟨Tryz.f228.name,by decide,Tryz.func228.trans (congrArg some (by kernel_rfl))⟩
 f13:=⟨Tryz.f229.name,by decide,Tryz.func229.trans (congrArg some (by kernel_rfl))⟩
 f14:=⟨Tryz.f230.name,by decide,Tryz.func230.trans (congrArg some (by kernel_rfl))⟩
 f15:=⟨Tryz.f231.name,by decide,Tryz.func231.trans (congrArg some (by kernel_rfl))⟩
 f16:=⟨Tryz.f232.name,by decide,Tryz.func232.trans (congrArg some (by kernel_rfl))⟩
 f17:=⟨Tryz.f233.name,by decide,Tryz.func233.trans (congrArg some (by kernel_rfl))⟩
 f18:=⟨Tryz.f234.name,by decide,Tryz.func234.trans (congrArg some (by kernel_rfl))⟩
 f19:=Tryz.func197.trans (congrArg some (by kernel_rfl))
 f20:=Tryz.func198.trans (congrArg some (by kernel_rfl))
 f30:=⟨Tryz.f238.name,by decide,Tryz.func238.trans (congrArg some (by kernel_rfl))⟩
 f31:=Tryz.func216.trans (congrArg some (by kernel_rfl))
 f32:=Tryz.func217.trans (congrArg some (by kernel_rfl))
 f33:=⟨Tryz.f239.name,by decide,Tryz.func239.trans (congrArg some (by kernel_rfl))⟩
 f34:=⟨Tryz.f240.name,by decide,Tryz.func240.trans (congrArg some (by kernel_rfl))⟩
 f35:=⟨Tryz.f241.name,by decide,Tryz.func241.trans (congrArg some (by kernel_rfl))⟩
 f40:=⟨Tryz.f243.name,by decide,Tryz.func243.trans (congrArg some (by kernel_rfl))⟩
 t0:=Tryz.underlying0
 a0:=Tryz.isAgg0
 z0:=Tryz.sizeOf0
 v0:=Tryz.zeroValue0
 t3:=Tryz.underlying3
 a3:=Tryz.isAgg3
 z3:=Tryz.sizeOf3
 v3:=Tryz.zeroValue3
 t4:=Tryz.underlying4
 a4:=Tryz.isAgg4
 z4:=Tryz.sizeOf4
 v4:=Tryz.zeroValue4
 t5:=Tryz.underlying5
 a5:=Tryz.isAgg5
 z5:=Tryz.sizeOf5
 v5:=Tryz.zeroValue5
 t9:=Tryz.underlying9
 a9:=Tryz.isAgg9
 z9:=Tryz.sizeOf9
 v9:=Tryz.zeroValue9
 t22:=Tryz.underlying92
 a22:=Tryz.isAgg92
 z22:=Tryz.sizeOf92
 v22:=Tryz.zeroValue92
 t23:=Tryz.underlying92
 a23:=Tryz.isAgg92
 z23:=Tryz.sizeOf92
 v23:=Tryz.zeroValue92
 t25:=Tryz.underlying3
 a25:=Tryz.isAgg3
 z25:=Tryz.sizeOf3
 v25:=Tryz.zeroValue3
 t32:=Tryz.underlying210
 a32:=Tryz.isAgg210
 z32:=Tryz.sizeOf210
 v32:=Tryz.zeroValue210
 t35:=Tryz.underlying232
 a35:=Tryz.isAgg232
 z35:=Tryz.sizeOf232
 v35:=Tryz.zeroValue232
 t36:=Tryz.underlying233
 a36:=Tryz.isAgg233
 z36:=Tryz.sizeOf233
 v36:=Tryz.zeroValue233
 t41:=Tryz.underlying222
 a41:=Tryz.isAgg222
 z41:=Tryz.sizeOf222
 v41:=Tryz.zeroValue222
 t44:=Tryz.underlying129
 a44:=Tryz.isAgg129
 z44:=Tryz.sizeOf129
 v44:=Tryz.zeroValue129
 t46:=Tryz.underlying240
 a46:=Tryz.isAgg240
 z46:=Tryz.sizeOf240
 v46:=Tryz.zeroValue240
 t53:=Tryz.underlying255
 a53:=Tryz.isAgg255
 z53:=Tryz.sizeOf255
 v53:=Tryz.zeroValue255
 t57:=Tryz.underlying259
 a57:=Tryz.isAgg259
 z57:=Tryz.sizeOf259
 v57:=Tryz.zeroValue259
 t63:=Tryz.underlying271
 a63:=Tryz.isAgg271
 z63:=Tryz.sizeOf271
 v63:=Tryz.zeroValue271
 t64:=Tryz.underlying272
 a64:=Tryz.isAgg272
 z64:=Tryz.sizeOf272
 v64:=Tryz.zeroValue272}
def Tryz.sortFH_ren:Go.Shelf.Ren:=⟨fun|6=>125|15=>163|14=>162|28=>197|29=>198|20=>189|21=>190|22=>191|23=>192|24=>193|25=>194|26=>195|27=>196|46=>215|47=>216|48=>217|49=>218|50=>219|57=>235|n=>n,fun|22=>38|24=>55|25=>88|3=>3|39=>210|0=>0|53=>129|55=>240|4=>4|46=>233|45=>232|50=>222|5=>5|9=>9|66=>255|70=>259|76=>271|77=>272|n=>n,fun|n=>n⟩
theorem Tryz.sortFH:Go.Proofs.SlLaysF0.n6 Tryz.prog Tryz.sortFH_ren:={
 mixed:=by kernel_rfl
 f6:=⟨Tryz.f125.name,by decide,Tryz.func125.trans (congrArg some (by kernel_rfl))⟩
 f14:=⟨Tryz.f162.name,by decide,Tryz.func162.trans (congrArg some (by kernel_rfl))⟩
 f15:=Tryz.func163.trans (congrArg some (by kernel_rfl))
 f20:=⟨Tryz.f189.name,by decide,Tryz.func189.trans (congrArg some (by kernel_rfl))⟩
 f21:=⟨Tryz.f190.name,by decide,Tryz.func190.trans (congrArg some (by kernel_rfl))⟩
 f22:=⟨Tryz.f191.name,by decide,Tryz.func191.trans (congrArg some (by kernel_rfl))⟩
 f23:=⟨Tryz.f192.name,by decide,Tryz.func192.trans (congrArg some (by kernel_rfl))⟩
 f24:=⟨Tryz.f193.name,by decide,Tryz.func193.trans (congrArg some (by kernel_rfl))⟩
 f25:=⟨Tryz.f194.name,by decide,Tryz.func194.trans (congrArg some (by kernel_rfl))⟩
 f26:=⟨Tryz.f195.name,by decide,Tryz.func195.trans (congrArg some (by kernel_rfl))⟩
 f27:=⟨Tryz.f196.name,by decide,Tryz.func196.trans (congrArg some (by kernel_rfl))⟩
 f28:=Tryz.func197.trans (congrArg some (by kernel_rfl))
 f29:=Tryz.func198.trans (congrArg some (by kernel_rfl))
 f46:=⟨Tryz.f215.name,by decide,Tryz.func215.trans (congrArg some (by kernel_rfl))⟩
 f47:=Tryz.func216.trans (congrArg some (by kernel_rfl))
 f48:=Tryz.func217.trans (congrArg some (by kernel_rfl))
 f49:=⟨Tryz.f218.name,by decide,Tryz.func218.trans (congrArg some (by kernel_rfl))⟩
 f50:=⟨Tryz.f219.name,by decide,Tryz.func219.trans (congrArg some (by kernel_rfl))⟩
 f57:=⟨Tryz.f235.name,by decide,Tryz.func235.trans (congrArg some (by kernel_rfl))⟩
 t0:=Tryz.underlying0
 a0:=Tryz.isAgg0
 z0:=Tryz.sizeOf0
 v0:=Tryz.zeroValue0
 t3:=Tryz.underlying3
 a3:=Tryz.isAgg3
 z3:=Tryz.sizeOf3
 v3:=Tryz.zeroValue3
 t4:=Tryz.underlying4
 a4:=Tryz.isAgg4
 z4:=Tryz.sizeOf4
 v4:=Tryz.zeroValue4
 t5:=Tryz.underlying5
 a5:=Tryz.isAgg5
 z5:=Tryz.sizeOf5
 v5:=Tryz.zeroValue5
 t9:=Tryz.underlying9
 a9:=Tryz.isAgg9
 z9:=Tryz.sizeOf9
 v9:=Tryz.zeroValue9
 t22:=Tryz.underlying38
 a22:=Tryz.isAgg38
 z22:=Tryz.sizeOf38
 v22:=Tryz.zeroValue38
 t25:=Tryz.underlying88
 a25:=Tryz.isAgg88
 z25:=Tryz.sizeOf88
 v25:=Tryz.zeroValue88
 t39:=Tryz.underlying210
 a39:=Tryz.isAgg210
 z39:=Tryz.sizeOf210
 v39:=Tryz.zeroValue210
 t45:=Tryz.underlying232
 a45:=Tryz.isAgg232
 z45:=Tryz.sizeOf232
 v45:=Tryz.zeroValue232
 t46:=Tryz.underlying233
 a46:=Tryz.isAgg233
 z46:=Tryz.sizeOf233
 v46:=Tryz.zeroValue233
 t50:=Tryz.underlying222
 a50:=Tryz.isAgg222
 z50:=Tryz.sizeOf222
 v50:=Tryz.zeroValue222
 t53:=Tryz.underlying129
 a53:=Tryz.isAgg129
 z53:=Tryz.sizeOf129
 v53:=Tryz.zeroValue129
 t55:=Tryz.underlying240
 a55:=Tryz.isAgg240
 z55:=Tryz.sizeOf240
 v55:=Tryz.zeroValue240
 t66:=Tryz.underlying255
 a66:=Tryz.isAgg255
 z66:=Tryz.sizeOf255
 v66:=Tryz.zeroValue255
 t70:=Tryz.underlying259
 a70:=Tryz.isAgg259
 z70:=Tryz.sizeOf259
 v70:=Tryz.zeroValue259
 t76:=Tryz.underlying271
 a76:=Tryz.isAgg271
 z76:=Tryz.sizeOf271
 v76:=Tryz.zeroValue271
 t77:=Tryz.underlying272
 a77:=Tryz.isAgg272
 z77:=Tryz.sizeOf272
 v77:=Tryz.zeroValue272}
def Tryz.lays143_ren:Go.Shelf.Ren:=⟨fun|143=>246|219=>250|217=>252|225=>253|224=>254|267=>255|266=>256|314=>257|n=>n,fun|9=>9|3=>3|4=>4|5=>5|46=>210|146=>288|51=>129|n=>n,fun|1=>0|n=>n⟩
theorem Tryz.lays143:Go.Proofs.Lays.n143 Tryz.prog Tryz.lays143_ren:={
 mixed:=by kernel_rfl
 f143:=Tryz.func246.trans (congrArg some (by kernel_rfl))
 f217:=Tryz.func252.trans (congrArg some (by kernel_rfl))
 f219:=Tryz.func250.trans (congrArg some (by kernel_rfl))
 f224:=Tryz.func254.trans (congrArg some (by kernel_rfl))
 f225:=Tryz.func253.trans (congrArg some (by kernel_rfl))
 f266:=Tryz.func256.trans (congrArg some (by kernel_rfl))
 f267:=Tryz.func255.trans (congrArg some (by kernel_rfl))
 f314:=Tryz.func257.trans (congrArg some (by kernel_rfl))
 t3:=Tryz.underlying3
 a3:=Tryz.isAgg3
 z3:=Tryz.sizeOf3
 v3:=Tryz.zeroValue3
 t4:=Tryz.underlying4
 a4:=Tryz.isAgg4
 z4:=Tryz.sizeOf4
 v4:=Tryz.zeroValue4
 t5:=Tryz.underlying5
 a5:=Tryz.isAgg5
 z5:=Tryz.sizeOf5
 v5:=Tryz.zeroValue5
 t9:=Tryz.underlying9
 a9:=Tryz.isAgg9
 z9:=Tryz.sizeOf9
 v9:=Tryz.zeroValue9
 t46:=Tryz.underlying210
 a46:=Tryz.isAgg210
 z46:=Tryz.sizeOf210
 v46:=Tryz.zeroValue210
 t51:=Tryz.underlying129
 a51:=Tryz.isAgg129
 z51:=Tryz.sizeOf129
 v51:=Tryz.zeroValue129
 t146:=Tryz.underlying288
 a146:=Tryz.isAgg288
 z146:=Tryz.sizeOf288
 v146:=Tryz.zeroValue288
 g1:=by kernel_rfl}
def Tryz.lays138_ren:Go.Shelf.Ren:=⟨fun|138=>245|195=>247|218=>249|143=>246|219=>250|217=>252|225=>253|224=>254|267=>255|266=>256|314=>257|n=>n,fun|9=>9|3=>3|4=>4|5=>5|0=>0|46=>210|146=>288|51=>129|n=>n,fun|1=>0|n=>n⟩
theorem Tryz.lays138:Go.Proofs.Lays.n138 Tryz.prog Tryz.lays138_ren:={
 mixed:=by kernel_rfl
 f138:=Tryz.func245.trans (congrArg some (by kernel_rfl))
 f143:=Tryz.func246.trans (congrArg some (by kernel_rfl))
 f195:=Tryz.func247.trans (congrArg some (by kernel_rfl))
 f217:=Tryz.func252.trans (congrArg some (by kernel_rfl))
 f218:=Tryz.func249.trans (congrArg some (by kernel_rfl))
 f219:=Tryz.func250.trans (congrArg some (by kernel_rfl))
 f224:=Tryz.func254.trans (congrArg some (by kernel_rfl))
 f225:=Tryz.func253.trans (congrArg some (by kernel_rfl))
 f266:=Tryz.func256.trans (congrArg some (by kernel_rfl))
 f267:=Tryz.func255.trans (congrArg some (by kernel_rfl))
 f314:=Tryz.func257.trans (congrArg some (by kernel_rfl))
 t0:=Tryz.underlying0
 a0:=Tryz.isAgg0
 z0:=Tryz.sizeOf0
 v0:=Tryz.zeroValue0
 t3:=Tryz.underlying3
 a3:=Tryz.isAgg3
 z3:=Tryz.sizeOf3
 v3:=Tryz.zeroValue3
 t4:=Tryz.underlying4
 a4:=Tryz.isAgg4
 z4:=Tryz.sizeOf4
 v4:=Tryz.zeroValue4
 t5:=Tryz.underlying5
 a5:=Tryz.isAgg5
 z5:=Tryz.sizeOf5
 v5:=Tryz.zeroValue5
 t9:=Tryz.underlying9
 a9:=Tryz.isAgg9
 z9:=Tryz.sizeOf9
 v9:=Tryz.zeroValue9
 t46:=Tryz.underlying210
 a46:=Tryz.isAgg210
 z46:=Tryz.sizeOf210
 v46:=Tryz.zeroValue210
 t51:=Tryz.underlying129
 a51:=Tryz.isAgg129
 z51:=Tryz.sizeOf129
 v51:=Tryz.zeroValue129
 t146:=Tryz.underlying288
 a146:=Tryz.isAgg288
 z146:=Tryz.sizeOf288
 v146:=Tryz.zeroValue288
 g1:=by kernel_rfl}
end Go.Proofs
namespace Fw
open Go Go.RowKit Go.Maps Go.Sort Go.Shelf Go.Proofs
open Go.WideElems (Fit rg)
def unitR:Value→Option (DataW Unit×List MemPlace):=fun _=>some (.agg [],[])
theorem owns_of {P:Program}{k:TypeId}{w:World}{b:Nat}{es:Array MapEntry}{clock:Nat}{xs:List (Int×Value)}(hk:P.underlying k=some (.int .i64))(hb:w.heap[b]? = some (.map es clock))(hm:MapIs (Value.int .i64) es clock xs)(hw:∀x,x ∈ xs→inI x.1)(hl:xs.length≤1000000) :
  ∃D:DataW Unit,w.ownsMap P k unitR b xs.length D∧(intKeys D).Perm (xs.map (·.1))∧Maps.size D=xs.length:=by
 have hsz:es.size=xs.length:=by have:=congrArg List.length hm.kv;simpa using this
 have hkey:∀x,x ∈ es.toList→∃y,y ∈ xs∧x.key= .int .i64 y.1:=by
  intro x hx
  have:(x.key,x.val) ∈ xs.map (fun y=>(Value.int .i64 y.1,y.2)):=by rw[←hm.kv];exact List.mem_map.2 ⟨x,hx,rfl⟩
  obtain⟨y,h1,h2⟩:=List.mem_map.1 this
  simp only[Prod.mk.injEq]at h2
  exact⟨y,h1,h2.1.symm⟩
 have hwf:∀a:Int,inI a→(Lit.int .i64 a).wf=true:=by
  intro a ha
  unfold inI at ha
  have h1:IntKind.i64.min= -9223372036854775808:=by decide
  have h2:IntKind.i64.max=9223372036854775807:=by decide
  simp only[Lit.wf,h1,h2]
  simp
  omega
 have hrd:∀x,x ∈ es.toList→∃y,y ∈ xs∧x.key= .int .i64 y.1∧Go.WideElems.rd P k unitR x=some (.int .i64 y.1,.agg []):=by
  intro x hx
  obtain⟨y,h1,h2⟩:=hkey x hx
  refine⟨y,h1,h2,?_⟩
  simp only[Go.WideElems.rd,h2,keyOf_int_mk hk (hwf _ (hw y h1)),unitR]
  rfl
 refine⟨.map ((es.toList.map (rg P k unitR)).foldr DataW.insert []),⟨es,clock,hb,⟨?_,⟨hm.lt,hm.born,?_⟩,?_⟩,by omega,rfl⟩,?_,?_⟩
 ·simp only[maxLen];omega
 ·have h1 : es.toList.map (·.key) = xs.map (fun x => Value.int .i64 x.1) := by
   have:=congrArg (List.map (·.1)) hm.kv
   rw[List.map_map,List.map_map]at this
   exact this
  rw[h1]
  have:(xs.map (fun x=>Value.int .i64 x.1))=(xs.map (·.1)).map (Value.int .i64):=by simp[List.map_map]
  rw[this,List.nodup_iff_pairwise_ne,List.pairwise_map]
  exact(List.nodup_iff_pairwise_ne.1 hm.nd).imp (fun h e=>h (by simpa using e))
 ·intro x hx
  obtain⟨y,_,_,h3⟩:=hrd x hx
  exact⟨_,h3⟩
 ·have hp:=(WideShapes.sorted_perm (es.toList.map (rg P k unitR))).map (fun p:Lit×DataW Unit=>intOf p.1)
  show List.Perm (List.map (fun p:Lit×DataW Unit=>intOf p.1) _) _
  refine hp.trans ?_
  rw[List.map_map]
  have key : ∀ (l : List MapEntry) (ys : List (Int × Value)), (∀ x, x ∈ l → ∃ y, y ∈ xs ∧ x.key = .int .i64 y.1 ∧ Go.WideElems.rd P k unitR x = some (.int .i64 y.1, .agg [])) → l.map (fun e => (e.key, e.val)) = ys.map (fun x => (Value.int .i64 x.1, x.2)) → l.map ((fun p : Lit × DataW Unit => intOf p.1) ∘ rg P k unitR) = ys.map (·.1) := by
   intro l
   induction l with
   | nil=>intro ys _ h;cases ys<;>simp at h ⊢
   | cons x r ih =>
    intro ys h1 h2
    cases ys with
    | nil=>simp at h2
    | cons y t =>
     simp only[List.map_cons,List.cons.injEq,Prod.mk.injEq]at h2 ⊢
     obtain⟨z,_,h3,h4⟩:=h1 x (by simp)
     rw[h2.1.1]at h3
     simp only[Value.int.injEq,true_and]at h3
     refine⟨?_,ih t (fun q hq=>h1 q (by simp[hq])) h2.2⟩
     simp only[Function.comp,rg,h4,Option.getD_some,Go.intOf]
     exact h3.symm
  rw[key es.toList xs hrd hm.kv]
 ·simp only[Maps.size]
  rw[length_sorted]
  simp[hsz]
theorem sorts_of {G : PH} {xs : List (Int × Value)} {L : List BHeld} (hS : StR G xs L) (hL : Sp.VH L) {ss : List Int} (hp : ss.Perm (xs.map (·.1))) : ss.mergeSort (fun x y => decide (x ≤ y)) = L.map (·.id) := by
 have h1:(ss.mergeSort (fun x y=>decide (x≤y))).Perm (L.map (·.id)):=(List.mergeSort_perm _ _).trans (hp.trans hS.keys)
 have h2:(ss.mergeSort (fun x y=>decide (x≤y))).Pairwise (fun x y=>decide (x≤y)=true):=List.pairwise_mergeSort (le:=fun x y:Int=>decide (x≤y)) (fun a b c h1 h2=>by simp at *; omega) (fun a b=>by simp;omega) ss
 have h3 : (L.map (·.id)).Pairwise (fun x y => decide (x ≤ y) = true) := by
  rw[List.pairwise_map]
  exact hL.asc.imp (fun h=>decide_eq_true (by omega))
 exact h1.eq_of_pairwise (fun a b _ _ h1 h2=>by have:=of_decide_eq_true h1;have:=of_decide_eq_true h2;omega) h2 h3
theorem owns_acc {w w' : World} {e : TypeId} {v : Value} {n : Nat} {cells : List Value} (h : w'.ownsRow w.heap.size e 1 v n cells) : (acc e 1 v n cells).pred (fun b => w'.heap[b]?) ∧ (∀ b, b ∈ (acc e 1 v n cells).fp → w.heap.size ≤ b) := by
 obtain⟨h1,h2⟩:=h
 refine⟨⟨h1,?_⟩,?_⟩
 ·rcases h2 with h2|⟨g,cap,cur,rfl,_,h3,h4,h5,h6,h7⟩
  ·exact .inl h2
  ·exact .inr ⟨g,cap,cur,rfl,h3,h4,h5,Nat.le_of_eq h6.symm,h7⟩
 ·rcases h2 with ⟨rfl,_⟩|⟨g,cap,cur,rfl,h3,_⟩
  ·intro b hb;rw[acc_fp_nil]at hb;cases hb
  ·intro b hb;rw[acc_fp,List.mem_singleton]at hb;rw[hb];exact h3
end Fw
namespace Go.Proofs.Tst
open Go Fw Go.Proofs Go.Sort Go.Maps Go.Shelf Go.RowKit Tryz
theorem sorts (m:Nat):AnyZI.SortsIn Tryz.prog Tryz.sortedA_ren Fence.wide m :=
  ⟨fun blk off cap ss W hH hblk hsz => callsIn_wide.2 (AnyM.slices_Sort_int Tryz.sortA blk off cap ss W hH hblk hsz),
   fun p cap W=>callsIn_wide.2 (AnyM.slices_Sort_int_none Tryz.sortA p cap W)⟩
theorem keys_c (w0 : World) (G0 : PH) (hG : PSub G0 w0) (b : Nat) : Calls Tryz.prog 149 #[.map (some b)] w0 (fun e w' => ∃ kb, e = .returned (.func (.func 181) #[] #[.pointer (some ⟨kb, 0, none⟩)]) ∧ w0.heap.size ≤ kb ∧ Ext w0 w' ∧ w'.heap[kb]? = some (cl [.map (some b)] 135)) :=
  (callsIn_wide.1 (AnyZI.keys_in Tryz.keysA Fence.wide 5 trivial rfl (some b) w0)).mono fun e w' ⟨h1, h2⟩ => by
    subst h2
    exact⟨w0.heap.size,h1,Nat.le_refl _,Ext.alloc _ _,alloc_new _ _⟩
set_option maxHeartbeats 1000000 in
theorem sorted_c (w0:World)(Bm b:Nat){es:Array MapEntry}{clock:Nat}{xs:List (Int×Value)}{L:List BHeld}{G:PH}(hB:w0.heap[Bm]? = some (cl [.map (some b)] 135))(hb:w0.heap[b]? = some (.map es clock))(hm:MapIs (Value.int .i64) es clock xs)(hS:StR G xs L)(hL:Sp.VH L) :
    Calls Tryz.prog 148 #[.func (.func 181) #[] #[.pointer (some ⟨Bm,0,none⟩)]] w0 (fun e w'=>∃v,e= .returned v∧Ext w0 w'∧(acc 3 1 v L.length (L.map (fun h=>Value.int .i64 h.id))).pred (fun b=>w'.heap[b]?)∧(∀b,b ∈ (acc 3 1 v L.length (L.map (fun h=>Value.int .i64 h.id))).fp→w0.heap.size≤b)):=by
  have hlen:=hS.len
  have hw:∀x,x ∈ xs→inI x.1:=by
    intro x hx
    have:=hS.keys.mem_iff.1 (List.mem_map.2 ⟨x,hx,rfl⟩)
    obtain⟨h,hh,e⟩:=List.mem_map.1 this
    have:=(hL.ok h hh).1
    rw[←e]
    unfold inI
    omega
  have hl16:=hL.len
  obtain⟨D,hown,hp,hsz⟩:=owns_of (P:=Tryz.prog) (k:=3) (by exact underlying3) hb hm hw oM
  have hBl:=(Array.getElem?_eq_some_iff.1 hB).1
  have hseq : SeqGives Fence.wide 2 Tryz.prog 181 #[.pointer (some ⟨Bm, 0, none⟩)] encZ (fun ss => ss.Perm (intKeys D)) (Maps.size D) w0 :=
    AnyZI.keys_gives (ρ:=Tryz.keysA_ren) {Tryz.keysA with} Fence.wide _ trivial rfl oM Bm b xs.length D w0 hBl (by simp[World.cell?,hB]) hown
  refine(callsIn_wide.1 (AnyZI.sorted_in Tryz.sortedA Fence.wide 5 trivial trivial trivial trivial Z oM (sorts _) (enters_of func180 kR Z) 181 #[.pointer (some ⟨Bm,0,none⟩)] trivial (enters_of func181 kR Z) _ _ (by simp only[maxLen];omega) oM _ hseq)).mono ?_
  rintro e w' ⟨v,ss,rfl,hS1,hrow,hnil,hbel⟩
  have hs:=sorts_of hS hL (hS1.trans hp)
  have hn:ss.length=L.length:=by have:=(hS1.trans (hp.trans hS.keys)).length_eq;simpa using this
  rw[hs,hn]at hrow
  have he:(L.map (·.id)).map encZ=L.map (fun h=>Value.int .i64 h.id):=by rw[List.map_map];rfl
  rw[he]at hrow
  obtain⟨h1,h2⟩:=owns_acc hrow
  exact⟨v,Z,Ext.of_below hbel,h1,h2⟩
end Go.Proofs.Tst
namespace Go.Proofs.Tst
open Go Fw Go.Proofs
theorem l_Index_c (w0:World)(s:Bs)(hs:s.length≤16777216)(c:UInt8):Calls Tryz.prog 246 #[str s,str [c]] w0 (Rets w0 (.int .i64 (Sp.optI (s.findIdx? (Sp.isC c))))) :=
  (Any.strings_Index_one Tryz.lays143 ⟨s.toArray⟩ c w0).mono fun e w' ⟨h1,h2⟩=>⟨by rw[h1];simp[Sp.indexByte_eq],by rw[h2];exact Ext.refl _⟩
theorem l_Count_c (w0:World)(s:Bs)(hs:s.length≤16777216)(c:UInt8):Calls Tryz.prog 245 #[str s,str [c]] w0 (Rets w0 (.int .i64 (s.count c:Int))) :=
  (Any.strings_Count_one Tryz.lays138 ⟨s.toArray⟩ c w0).mono fun e w' ⟨h1,h2⟩=>⟨by rw[h1];simp[Lib.countByte],by rw[h2];exact Ext.refl _⟩
theorem chkIds (G : PH) {L : List BHeld} (h : Sp.VH L) : Chk intE 1 G (L.map (fun h => Value.int .i64 h.id)) (L.map (·.id)) := by
  refine⟨L.map (fun h=>[Value.int .i64 h.id]),?_,by simp,fun i x hx=>?_⟩
  · clear h
    induction L with
    | nil=>rfl
    | cons a r ih=>simp only[List.map_cons,List.flatten_cons,←ih];rfl
  rw[List.getElem?_map]at hx ⊢
  cases e:L[i]? with
  | none=>simp[e]at hx
  | some y =>
    simp only[e,Option.map_some,Option.some.injEq]at hx ⊢
    subst hx
    have:=(h.at e).1
    exact⟨_,rfl,rfl,rfl,by unfold inI;omega⟩
end Go.Proofs.Tst
namespace Go.Proofs.Tst
open Go Fw Tryz
theorem l_genSplit_c (w0:World)(G0:PH)(hG:PSub G0 w0)(s:Bs)(hs:s.length≤16777216)(c:UInt8) :
  Calls Tryz.prog 242 #[str s,str [c],.int .i64 0,.int .i64 (-1)] w0 (RetP w0 G0 (fun G v=>RdT G v (Sp.cutAt c s))):=by
 have hcnt:=Sp.cnt_le c s
 have H:=Hp.init hG
 refine calls_of_W (l:=[str s,str [c],.int .i64 0,.int .i64 (-1)]) func242 Z ntmps242 Z (q2 (aG Z (q3 (W_seq (q2 (pe 2 Z (q3 ?_)))))))
 refine W_cond Z ?_ ?_
 ·intro hc1
  try simp only[nrm]at hc1
  exact absurd hc1 (by decide)
 intro hc1'
 try simp only[nrm]at hc1'
 refine W_skip (N_K (W_seq (q2 (mV Z (o_seql Z Z Z (q3 ?_))))))
 refine W_cond Z ?_ ?_
 ·intro hc2
  try simp only[nrm]at hc2
  exact absurd hc2 (by simp)
 intro hc2'
 try simp only[nrm]at hc2'
 refine W_skip (N_K (W_seq (q2 (pe 2 Z (q3 ?_)))))
 refine W_cond Z ?_ ?_
 ·intro hc3
  try simp only[nrm]at hc3
  refine W_region (pe 2 Z (xr H Z2 (l_Count_c _ _ hs _) ?_));intro _ H
  refine aD Z2 (aG Z (q1 (pe 2 Z (lS Z (aD Z2 (o_min Z Z Z (aG Z (q1 (mV Z (o_makeN (c:=(s.count c+1)) (sz:=1) (bytes:=16) H underlying49 typeInfo9 ⟨_,Z,Z⟩ Z Z Z Z Z Z Z oM oM oM Z ?_))))))))));intro _ _ H
  have hchk7:=Chk.rep (E:=strE) (sz:=1) (G:=G0) (x0:=[]) (⟨rfl,by decide⟩) rfl ((s.count c+1))
  refine aG Z (q1 (mV Z (o_sub Z Z Z oO (aG Z (q1 (aG Z (q3 (W_seq (W_block ?_)))))))))
  refine W_lp (hf:=(Sub.cons (t:=1) Z (Sub.cons (t:=2) Z (Sub.cons (t:=3) Z (Sub.cons (t:=8) Z Sub.nil))))) (J:=fun M w m=>∃(v:Value) (n:Nat) (cs:List Value) (xs:List (Bs)) (r:Bs) (i:Nat) (G:PH),M=[(0,str r),(10,.int .i64 (i:Int)),(9,v)]∧PLe G0 G∧Hp w0 G0 [] w G [acc 9 1 v n cs]∧(Chk strE 1 G cs xs∧n=xs.length∧i≤s.count c∧xs.length=s.count c+1∧r.length≤16777216∧xs.take i++Sp.cutAt c r=Sp.cutAt c s∧r.count c=s.count c-i)∧m=(s.count c+1-i)) (h0:=⟨_,_,_,(List.replicate (s.count c+1) []),s,0,_,Z,PLe.refl _,H,?inv,Z⟩) (round:=?round)
  case inv=>exact⟨hchk7,by first|rfl|simp|(simp;omega)|omega,(by simp[hs])⟩
  case round =>
   rintro _ _ _ ⟨v,n,cs,xs,r,i,_,rfl,hle9,H,hinv9,rfl⟩
   obtain⟨hchk9_0,_,hinv9⟩:=hinv9
   obtain⟨_,_,rfl⟩:=H.accShape (k:=0) rfl
   obtain⟨_,hxl,hrl,hcut,_⟩:=hinv9
   refine W_seq (q2 (pe 3 Z (q3 ?_)))
   refine W_cond Z ?_ ?_
   ·intro hc10
    try simp only[nrm]at hc10
    refine W_skip (N_K (W_block (q2 (pe 2 Z (xr H Z2 (l_Index_c _ _ hrl _) ?_)))));intro _ H
    refine aG Z (q3 (W_seq (q2 (pe 2 Z (q3 ?_)))))
    refine W_cond Z ?_ ?_
    ·intro hc12
     try simp only[nrm]at hc12
     have hx:=Sp.count_none c (Sp.at_none hc12)
     omega
    intro hc12'
    try simp only[nrm]at hc12'
    obtain⟨m,_,hm1,_,_,_,_⟩:=Sp.at_nat hc12'
    have hm6:=Sp.count_some c hm1
    refine W_skip (N_K (q2 (pe 5 Z (aD Z2 (o_slice_str_to underlying9 Z Z Z oM oM (o_index_A 0 H i Z hchk9_0 underlying49 sizeOf9 Z Z Z Z aN aN ?_))))));intro _ _ _ hba15 hz15 hE15 _;cases hba15
    obtain⟨rfl,hi15⟩:=hE15;have hy_hi15:_≤16777216:=hi15
    have hcl16:=hchk9_0.length
    refine o_store_A 0 H sizeOf9 Z Z Z Z Z (by simp only[vc,List.length_cons,List.length_nil];omega) ?_;intro _ H
    have hchk16:=hchk9_0.put (x':=(r.take m)) (off:=0) (vs:=[_]) hz15 (fun cs hl hE=>by obtain⟨rfl,_⟩:=hE;exact⟨congrArg (fun j=>[str (List.take j r)]) (show(Sp.optI (List.findIdx? (Sp.isC c) r)+0).toNat=m by omega),by simp;omega⟩) (by simp only[vc,List.length_cons,List.length_nil];omega)
    refine q1 (pe 3 Z (lS Z ?_))
    have hll1:([c]:Fw.Bs).length=1:=rfl
    refine aD Z2 (o_slice_str_from underlying9 Z Z Z oM oM (aG Z (q3 (W_region (mV Z (aD Z2 (aG Z (R_nil (N_B ?_)))))))))
    refine N_lp (hJ:=⟨_,_,_,(xs.set i (r.take m)),(r.drop (Sp.optI (List.findIdx? (Sp.isC c) r)+(([c]:Fw.Bs).length:Int)).toNat),i+1,_,Z,hle9,H,?inv,Z⟩) (hm:=?hm)
    case hm=>omega
    case inv=>exact⟨hchk16,aN,(by refine⟨by omega,by simp[hxl],by simp;omega,?_,?_⟩;(· rw[show(Sp.optI (List.findIdx? (Sp.isC c) r)+(([c]:Fw.Bs).length:Int)).toNat=m+1 by omega];exact Sp.cut_round hcut hm1 oM rfl);(· rw[show(Sp.optI (List.findIdx? (Sp.isC c) r)+(([c]:Fw.Bs).length:Int)).toNat=m+1 by omega];omega))⟩
   intro hc10'
   try simp only[nrm]at hc10'
   refine W_exit (N_K_exit (N_LP_exit (N_B_same (N_K (q2 (pe 3 Z (o_index_A 0 H i Z hchk9_0 underlying49 sizeOf9 Z Z Z Z aN aN ?_)))))));intro _ _ _ hba20 hz20 hE20 _;cases hba20
   obtain⟨rfl,hi20⟩:=hE20;have hy_hi20:_≤16777216:=hi20
   have hcl21:=hchk9_0.length
   refine o_store_A 0 H sizeOf9 Z Z Z Z Z (by simp only[vc,List.length_cons,List.length_nil];omega) ?_;intro _ H
   have hchk21:=hchk9_0.put (x':=r) (off:=0) (vs:=[_]) hz20 (fun cs hl hE=>by obtain⟨rfl,_⟩:=hE;exact⟨rfl,hrl⟩) (by simp only[vc,List.length_cons,List.length_nil];omega)
   refine q1 ?_
   obtain⟨_,H,hsg22,hsr22⟩:=H.shut' (k:=0) rfl hchk21 aN aN
   refine pe 2 Z (aD Z2 ?_)
   have hcap24:=hsr22.cap;try simp only[List.length_set,List.length_append,List.length_take,List.length_drop,List.length_replicate]at hcap24
   refine o_slice_to (j:=(i+1)) underlying49 sizeOf9 Z Z Z oM oM ?_
   have hsl24:=hsr22.take (j:=(i+1)) aN
   have hsn2:=hsl24.len
   refine aG Z (q3 (W_ret (rt1 results242 Z ?_)))
   obtain rfl:i=s.count c:=by omega
   have hcl:=Sp.cut_last hcut oM oM
   exact H.retP (by rw[←hcl];exact hsl24)
 intro hc3'
 try simp only[nrm]at hc3'
 exact absurd hc3' (by decide)
theorem l_Split_c (w0:World)(G0:PH)(hG:PSub G0 w0)(s:Bs)(hs:s.length≤16777216)(c:UInt8) :
  Calls Tryz.prog 236 #[str s,str [c]] w0 (RetP w0 G0 (fun G v=>RdT G v (Sp.cutAt c s))):=by
 have H:=Hp.init hG
 refine calls_of_W (l:=[str s,str [c]]) func236 Z ntmps236 Z (q2 (aG Z (q1 (pe 2 Z (xc Z2 (l_genSplit_c _ _ H.sub _ hs _) ?_)))))
 rintro _ _ ⟨_,_,g1,rfl,hr1_0⟩
 have H:=H.grow g1
 obtain⟨_,_,rfl⟩:=hr1_0.shape;have hx_hr1_0:_≤1099511627776:=hr1_0.lim
 refine⟨_,Z,?_⟩
 refine aG Z (q3 (W_ret (rt1 results236 Z ?_)))
 exact H.retP hr1_0
theorem i_parts_c (w0:World)(G0:PH)(hG:PSub G0 w0)(p:Bs)(hp:p.length≤16777216) :
  Calls Tryz.prog 224 #[str p] w0 (RetP w0 G0 (fun G v=>RdT G v (Sp.parts p))):=by
 have H:=Hp.init hG
 refine calls_of_W (l:=[str p]) func224 Z ntmps224 Z (q2 (aG Z (q3 (W_seq (q2 (mV Z (lS Z (pe 1 Z (q3 ?_)))))))))
 refine W_cond Z ?_ ?_
 ·intro hc1
  try simp only[nrm]at hc1
  refine q2 (aG Z (q3 (W_ret (N_K_ret (rt1 results224 Z ?_)))))
  exact H.retP (by rw[show Sp.parts p=_ from by exact Sp.parts_long oM];exact(RdS.nil _ _ _))
 intro hc1'
 try simp only[nrm]at hc1'
 refine W_skip (N_K (q2 (mV Z (xc Z2 (l_Split_c _ _ H.sub _ hp _) ?_))))
 rintro _ _ ⟨G2,_,g2,rfl,hr2_0⟩
 have H:=H.grow g2
 obtain⟨_,_,rfl⟩:=hr2_0.shape;have hx_hr2_0:_≤1099511627776:=hr2_0.lim
 refine⟨_,Z,?_⟩
 refine aG Z (q3 (W_seq (q2 (mV Z (lN Z (pe 1 Z (q3 ?_)))))))
 refine W_cond Z ?_ ?_
 ·intro hc3
  try simp only[nrm]at hc3
  refine q2 (aG Z (q3 (W_ret (N_K_ret (rt1 results224 Z ?_)))))
  exact H.retP (by rw[show Sp.parts p=_ from by exact Sp.parts_many (by rw[←Sp.cutAt_47];omega)];exact(RdS.nil _ _ _))
 intro hc3'
 try simp only[nrm]at hc3'
 refine W_skip (N_K (W_seq (q2 (mV Z (lN Z (mV Z (q3 (W_block ?_))))))))
 refine W_lp (hf:=(Sub.cons (t:=3) Z (Sub.cons (t:=14) Z (Sub.cons (t:=15) Z Sub.nil)))) (J:=fun M w m=>∃(k:Nat) (G:PH),M=[(16,.int .i64 (k:Int))]∧PLe G2 G∧Hp w0 G0 [] w G []∧(k≤(Sp.cutAt 47 p).length∧((Sp.cutAt 47 p).take k).all Sp.l1Word=true)∧m=((Sp.cutAt 47 p).length-k)) (h0:=⟨0,_,Z,PLe.refl _,H,?inv,Z⟩) (round:=?round)
 case inv=>exact⟨by omega,by simp⟩
 case round =>
  rintro _ _ _ ⟨k,_,rfl,hle4,H,hinv4,rfl⟩
  have hr2_0:=hr2_0.up hle4
  obtain⟨_,hall⟩:=hinv4
  refine q2 (pe 1 Z (q3 (W_seq ?_)))
  refine W_cond Z ?_ ?_
  ·intro hc5
   try simp only[nrm]at hc5
   refine W_skip (N_K (W_seq (W_block (q2 (iP k hr2_0 Z3 Z ?_)))));intro _ _ _ _ hz6 hE6 hrow6
   obtain⟨rfl,hi6⟩:=hE6;have hy_hi6:_≤16777216:=hi6
   refine lP H hrow6 0 Z2 (aG Z (q1 (mV Z (xr H Z2 (i_partValid_c _ _ hi6) ?_))));intro _ H
   refine pe 1 Z (q3 ?_)
   refine W_cond Z ?_ ?_
   ·intro hc8
    try simp only[nrm]at hc8
    refine q2 (aG Z (q3 (W_ret (N_B_ret (N_K_ret (N_LP_ret (N_B_ret (N_K_ret (rt1 results224 Z ?_)))))))))
    exact H.retP (by rw[show Sp.parts p=_ from by exact Sp.parts_bad (by rw[←Sp.cutAt_47];exact hz6) hc8];exact(RdS.nil _ _ _))
   intro hc8'
   try simp only[nrm]at hc8'
   refine W_skip (N_B (N_K (W_region (aD Z2 (mV Z (R_nil ?_))))))
   refine N_lp (hJ:=⟨k+1,_,Z,hle4,H,?inv,Z⟩) (hm:=?hm)
   case hm=>omega
   case inv=>exact⟨by omega,Sp.all_take hall hz6 (by assumption)⟩
  intro hc5'
  try simp only[nrm]at hc5'
  refine W_exit (N_K_exit (N_LP_exit (N_B_same (N_K (q2 (pe 2 Z (q3 (W_ret (rt1 results224 Z ?_)))))))))
  obtain rfl:k=(Sp.cutAt 47 p).length:=by omega
  rw[List.take_length]at hall
  have hpo:Sp.parts p=Sp.cutAt 47 p:=(Sp.parts_ok (by rw[←Sp.cutAt_47];exact hall) (by rw[←Sp.cutAt_47];omega)).trans (Sp.cutAt_47 p).symm
  exact H.retP (by rw[hpo];exact hr2_0)
theorem i_PathParts_c (w0:World)(G0:PH)(hG:PSub G0 w0)(p:Bs)(hp:p.length≤16777216) :
  Calls Tryz.prog 207 #[str p] w0 (RetP w0 G0 (fun G v=>RdT G v (Sp.parts p))):=by
 have H:=Hp.init hG
 refine calls_of_W (l:=[str p]) func207 Z ntmps207 Z (q2 (aG Z (q1 (mV Z (xc Z2 (i_parts_c _ _ H.sub _ hp) ?_)))))
 rintro _ _ ⟨_,_,g1,rfl,hr1_0⟩
 have H:=H.grow g1
 obtain⟨_,_,rfl⟩:=hr1_0.shape;have hx_hr1_0:_≤1099511627776:=hr1_0.lim
 refine⟨_,Z,?_⟩
 refine aG Z (q3 (W_ret (rt1 results207 Z ?_)))
 exact H.retP hr1_0
theorem i_valid_c (w0:World)(G0:PH)(hG:PSub G0 w0)(p:Bs)(hp:p.length≤16777216) :
  Calls Tryz.prog 206 #[str p] w0 (Rets w0 (.bool (Sp.PathValid p))):=by
 have H:=Hp.init hG
 refine calls_of_W (l:=[str p]) func206 Z ntmps206 Z (q2 (aG Z (q1 (mV Z (xc Z2 (i_parts_c _ _ H.sub _ hp) ?_)))))
 rintro _ _ ⟨_,_,g1,rfl,hr1_0⟩
 have H:=H.grow g1
 obtain⟨_,_,rfl⟩:=hr1_0.shape;have hx_hr1_0:_≤1099511627776:=hr1_0.lim
 refine⟨_,Z,?_⟩
 refine lN Z (pe 2 Z (q3 (W_ret (rt1 results206 Z ?_))))
 exact H.rets (congrArg Value.bool (by rw[←Sp.parts_pos,Bool.eq_iff_iff];simp))
theorem i_PathValid_c (w0:World)(G0:PH)(hG:PSub G0 w0)(p:Bs)(hp:p.length≤16777216) :
  Calls Tryz.prog 175 #[str p] w0 (Rets w0 (.bool (Sp.PathValid p))):=by
 have H:=Hp.init hG
 refine calls_of_W (l:=[str p]) func175 Z ntmps175 Z (q2 (aG Z (q1 (mV Z (xr H Z2 (i_valid_c _ _ H.sub _ hp) ?_)))));intro _ H
 refine aG Z (q3 (W_ret (rt1 results175 Z ?_)))
 exact H.rets (congrArg Value.bool (by rfl))
theorem i_itemValid_c (w0:World)(G0:PH)(hG:PSub G0 w0)(cx:List Value)(x:BItem)(hx:itemE G0 x cx) :
  Calls Tryz.prog 145 #[.agg cx.toArray] w0 (Rets w0 (.bool (Sp.l5Item x))):=by
 obtain⟨_,_,_,rfl,hi1,hr1,_,_⟩:=ox hx
 have H:=Hp.init hG
 refine calls_of_W (l:=[_]) func145 Z ntmps145 Z (q2 (o_box H Z Z Z ?_));intro b2 _ _ H
 refine aG Z (q3 (W_seq (q2 (fA 0 Z (lB 0 H Z3 (xr H Z2 (i_PathValid_c _ _ H.sub _ hi1) ?_))))));intro _ H
 refine pe 2 Z ?_
 refine R_case (t:=9) Z ?_ ?_
 ·intro hc4
  try simp only[nrm]at hc4
  refine pe 9 Z (R_pass Z (yl_un Z Z) (R_pass Z (yl_un Z Z) (R_pass Z (yl_un Z Z) (R_pass Z (yl_un Z Z) (pe 2 Z (q3 (W_true Z (q2 (aG Z (q3 (W_ret (N_K_ret (rt1 results145 Z ?_)))))))))))))
  exact H.rets (congrArg Value.bool (by simp[Sp.l5Item,hc4]))
 intro hc4'
 try simp only[nrm]at hc4'
 refine gR Z (fA 2 Z (gR Z (lB 0 H Z3 (gR Z (lN Z (pe 3 Z ?_))))))
 refine R_case (t:=15) Z ?_ ?_
 ·intro hc5
  try simp only[nrm]at hc5
  refine pe 3 Z (R_pass Z (yl_un Z Z) (R_pass Z (yl_un Z Z) (R_pass Z (yl_un Z Z) (R_pass Z (yl_un Z Z) (pe 2 Z (q3 (W_true Z (q2 (aG Z (q3 (W_ret (N_K_ret (rt1 results145 Z ?_)))))))))))))
  exact H.rets (congrArg Value.bool (by rw[Sp.l5Item,Bool.eq_iff_iff];simp;intros;omega))
 intro hc5'
 try simp only[nrm]at hc5'
 refine gR Z (fA 1 Z (gR Z (lB 0 H Z3 (pe 1 Z ?_))))
 refine R_case (t:=18) Z ?_ ?_
 ·intro hc6
  try simp only[nrm]at hc6
  refine gR Z (fA 2 Z (gR Z (lB 0 H Z3 (gR Z (lN Z (pe 3 Z (q3 ?_)))))))
  refine W_cond Z ?_ ?_
  ·intro hc7
   try simp only[nrm]at hc7
   refine q2 (aG Z (q3 (W_ret (N_K_ret (rt1 results145 Z ?_)))))
   exact H.rets (congrArg Value.bool (by rw[Sp.l5Item,Sp.all_false (c:=x.ids[0]) (k:=0) (List.getElem?_eq_getElem oM) (by simp[Sp.idOk,hc6])];rfl))
  intro hc7'
  try simp only[nrm]at hc7'
  refine W_skip (N_K (W_seq (q2 (fA 2 Z (lB 0 H Z3 (lN Z (mV Z (q3 (W_block ?_)))))))))
  obtain⟨ln8,hln8,H⟩:=H.name (k:=0) rfl
  refine W_lp (hf:=(Sub.cons (t:=26) Z (Sub.cons (t:=27) Z Sub.nil))) (J:=fun M w m=>∃(k:Nat) (G:PH),M=[(28,.int .i64 (k:Int))]∧PLe G0 G∧Hp w0 G0 [] w G [blk b2 (cl ln8 109)]∧(k≤x.ids.length∧(x.ids.take k).all (Sp.idOk x.dir)=true)∧m=(x.ids.length-k)) (h0:=⟨0,_,Z,PLe.refl _,H,?inv,Z⟩) (round:=?round)
  case inv=>exact⟨by omega,by simp⟩
  case round =>
   rintro _ _ _ ⟨k,_,rfl,hle9,H,hinv9,rfl⟩
   subst hln8
   have hr1:=hr1.up hle9
   obtain⟨hk,hall⟩:=hinv9
   refine q2 (pe 1 Z (q3 (W_seq ?_)))
   refine W_cond Z ?_ ?_
   ·intro hc10
    try simp only[nrm]at hc10
    refine W_skip (N_K (W_seq (W_block (q2 (iP k hr1 Z3 Z ?_)))));intro _ _ _ _ hz11 hE11 hrow11
    obtain⟨rfl,_⟩:=hE11
    refine lP H hrow11 0 Z2 (aG Z (q1 (pe 3 Z ?_)))
    refine R_case (t:=34) Z ?_ ?_
    ·intro hc12
     try simp only[nrm]at hc12
     refine pe 3 Z (q3 (W_true Z (q2 (aG Z (q3 (W_ret (N_B_ret (N_K_ret (N_LP_ret (N_B_ret (N_K_ret (rt1 results145 Z ?_))))))))))))
     exact H.rets (congrArg Value.bool (by rw[Sp.l5Item,Sp.all_false hz11 (by first|(exfalso;omega)|(simp[Sp.idOk,Sp.l6In, *];done)|(simp[Sp.idOk,Sp.l6In, *];omega))];rfl))
    intro hc12'
    try simp only[nrm]at hc12'
    refine pe 3 Z (q3 ?_)
    refine W_cond Z ?_ ?_
    ·intro hc13
     try simp only[nrm]at hc13
     refine q2 (aG Z (q3 (W_ret (N_B_ret (N_K_ret (N_LP_ret (N_B_ret (N_K_ret (rt1 results145 Z ?_)))))))))
     exact H.rets (congrArg Value.bool (by rw[Sp.l5Item,Sp.all_false hz11 (by first|(exfalso;omega)|(simp[Sp.idOk,Sp.l6In, *];done)|(simp[Sp.idOk,Sp.l6In, *];omega))];rfl))
    intro hc13'
    try simp only[nrm]at hc13'
    refine W_skip (N_B (N_K (W_region (aD Z2 (mV Z (R_nil ?_))))))
    refine N_lp (hJ:=⟨k+1,_,Z,hle9,H,?inv,Z⟩) (hm:=?hm)
    case hm=>omega
    case inv=>exact⟨by omega,Sp.all_take hall hz11 (by first|(exfalso;omega)|(simp[Sp.idOk,Sp.l6In, *];done)|(simp[Sp.idOk,Sp.l6In, *];omega))⟩
   intro hc10'
   try simp only[nrm]at hc10'
   refine W_exit (N_K_exit (N_LP_exit (N_B_same (N_K (q2 (aG Z (q3 (W_ret (rt1 results145 Z ?_)))))))))
   obtain rfl:k=x.ids.length:=by omega
   rw[List.take_length]at hall
   exact H.rets (congrArg Value.bool (by rw[Sp.l5Item,hall,Bool.eq_iff_iff];simp[hc4'];omega))
 intro hc6'
 try simp only[nrm]at hc6'
 refine pe 6 Z (q3 (W_false Z (W_skip (N_K (W_seq (q2 (fA 2 Z (lB 0 H Z3 (lN Z (mV Z (q3 (W_block ?_))))))))))))
 obtain⟨ln15,hln15,H⟩:=H.name (k:=0) rfl
 refine W_lp (hf:=(Sub.cons (t:=26) Z (Sub.cons (t:=27) Z Sub.nil))) (J:=fun M w m=>∃(k:Nat) (G:PH),M=[(28,.int .i64 (k:Int))]∧PLe G0 G∧Hp w0 G0 [] w G [blk b2 (cl ln15 109)]∧(k≤x.ids.length∧(x.ids.take k).all (Sp.idOk x.dir)=true)∧m=(x.ids.length-k)) (h0:=⟨0,_,Z,PLe.refl _,H,?inv,Z⟩) (round:=?round)
 case inv=>exact⟨by omega,by simp⟩
 case round =>
  rintro _ _ _ ⟨k,_,rfl,hle16,H,hinv16,rfl⟩
  subst hln15
  have hr1:=hr1.up hle16
  obtain⟨hk,hall⟩:=hinv16
  refine q2 (pe 1 Z (q3 (W_seq ?_)))
  refine W_cond Z ?_ ?_
  ·intro hc17
   try simp only[nrm]at hc17
   refine W_skip (N_K (W_seq (W_block (q2 (iP k hr1 Z3 Z ?_)))));intro _ _ _ _ hz18 hE18 hrow18
   obtain⟨rfl,_⟩:=hE18
   refine lP H hrow18 0 Z2 (aG Z (q1 (pe 3 Z ?_)))
   refine R_case (t:=34) Z ?_ ?_
   ·intro hc19
    try simp only[nrm]at hc19
    refine pe 3 Z (q3 (W_true Z (q2 (aG Z (q3 (W_ret (N_B_ret (N_K_ret (N_LP_ret (N_B_ret (N_K_ret (rt1 results145 Z ?_))))))))))))
    exact H.rets (congrArg Value.bool (by rw[Sp.l5Item,Sp.all_false hz18 (by first|(exfalso;omega)|(simp[Sp.idOk,Sp.l6In, *];done)|(simp[Sp.idOk,Sp.l6In, *];omega))];rfl))
   intro hc19'
   try simp only[nrm]at hc19'
   refine pe 3 Z (q3 ?_)
   refine W_cond Z ?_ ?_
   ·intro hc20
    try simp only[nrm]at hc20
    refine q2 (aG Z (q3 (W_ret (N_B_ret (N_K_ret (N_LP_ret (N_B_ret (N_K_ret (rt1 results145 Z ?_)))))))))
    exact H.rets (congrArg Value.bool (by rw[Sp.l5Item,Sp.all_false hz18 (by first|(exfalso;omega)|(simp[Sp.idOk,Sp.l6In, *];done)|(simp[Sp.idOk,Sp.l6In, *];omega))];rfl))
   intro hc20'
   try simp only[nrm]at hc20'
   refine W_skip (N_B (N_K (W_region (aD Z2 (mV Z (R_nil ?_))))))
   refine N_lp (hJ:=⟨k+1,_,Z,hle16,H,?inv,Z⟩) (hm:=?hm)
   case hm=>omega
   case inv=>exact⟨by omega,Sp.all_take hall hz18 (by first|(exfalso;omega)|(simp[Sp.idOk,Sp.l6In, *];done)|(simp[Sp.idOk,Sp.l6In, *];omega))⟩
  intro hc17'
  try simp only[nrm]at hc17'
  refine W_exit (N_K_exit (N_LP_exit (N_B_same (N_K (q2 (aG Z (q3 (W_ret (rt1 results145 Z ?_)))))))))
  obtain rfl:k=x.ids.length:=by omega
  rw[List.take_length]at hall
  exact H.rets (congrArg Value.bool (by rw[Sp.l5Item,hall,Bool.eq_iff_iff];simp[hc4'];omega))
theorem l_isNaN_c (w0:World)(x:Bs)(hx:x.length≤16777216) :
  Calls Tryz.prog 127 #[str x] w0 (Rets w0 (.bool false)):=by
 have H:=Hp.init0 w0
 refine calls_of_W (l:=[str x]) func127 Z ntmps127 Z (q2 (aG Z (q1 (pe 2 Z (o_sneq Z Z Z (aG Z (q3 (W_ret (rt1 results127 Z ?_)))))))))
 exact H.rets (congrArg Value.bool (by simp))
theorem l_Compare_c (w0:World)(x:Bs)(hx:x.length≤16777216)(y:Bs)(hy:y.length≤16777216) :
  Calls Tryz.prog 94 #[str x,str y] w0 (Rets w0 (.int .i64 (Sp.cmpB x y))):=by
 have H:=Hp.init0 w0
 refine calls_of_W (l:=[str x,str y]) func94 Z ntmps94 Z (q2 (aG Z (q1 (mV Z (xr H Z2 (l_isNaN_c _ _ hx) ?_)))));intro _ H
 refine aG Z (q1 (mV Z (xr H Z2 (l_isNaN_c _ _ hy) ?_)));intro _ H
 refine aG Z (q3 (W_seq (q2 (mV Z (q3 (W_false Z (W_skip (N_K (W_seq (q2 (mV Z (q3 (W_false Z (W_skip (N_K ?_)))))))))))))))
 refine W_seq (q2 (pe 2 Z (o_slss Z Z Z (q3 ?_))))
 refine W_cond Z ?_ ?_
 ·intro hc3
  try simp only[nrm]at hc3
  refine q2 (aG Z (q3 (W_ret (N_K_ret (rt1 results94 Z ?_)))))
  exact H.rets (congrArg (Value.int .i64) (by unfold Sp.cmpB;simp_all))
 intro hc3'
 try simp only[nrm]at hc3'
 refine W_skip (N_K (W_seq (q2 (pe 2 Z (o_sgtr Z Z Z (q3 ?_))))))
 refine W_cond Z ?_ ?_
 ·intro hc4
  try simp only[nrm]at hc4
  refine q2 (aG Z (q3 (W_ret (N_K_ret (rt1 results94 Z ?_)))))
  exact H.rets (congrArg (Value.int .i64) (by unfold Sp.cmpB;simp_all))
 intro hc4'
 try simp only[nrm]at hc4'
 refine W_skip (N_K (q2 (aG Z (q3 (W_ret (rt1 results94 Z ?_))))))
 exact H.rets (congrArg (Value.int .i64) (by unfold Sp.cmpB;simp_all))
theorem i_place1_c (w0:World)(G0:PH)(hG:PSub G0 w0)(t:Nd)(hndt:RdN G0 t)(nm:Bs)(hnm:nm.length≤16777216) :
  Calls Tryz.prog 210 #[.pointer (some ⟨t.b,0,none⟩),str nm] w0 (Rets w0 (.int .i64 (Sp.cmpB t.name nm))):=by
 obtain⟨hnlt,_,_,_,_,_,_,hprt,hrit,hrkt⟩:=hndt.open
 have hn_hrit:=hrit.len;have hx_hrit:_≤1099511627776:=hrit.lim
 have hn_hrkt:=hrkt.len;have hx_hrkt:_≤1099511627776:=hrkt.lim
 have H:=Hp.init hG
 refine calls_of_W (l:=[.pointer (some ⟨t.b,0,none⟩),str nm]) func210 Z ntmps210 Z (q2 (aG Z (q1 (pe 2 Z (fA 0 Z (lP H hprt 0 Z2 (mV Z (xr H Z2 (l_Compare_c _ _ hnlt _ hnm) ?_))))))));intro _ H
 refine aG Z (q3 (W_ret (rt1 results210 Z ?_)))
 exact H.rets (congrArg (Value.int .i64) (by rfl))
theorem l_Search_c (w0:World)(G0:PH)(hG:PSub G0 w0)(vkids:Value)(kids:List (Nd))(hkids:RdNd G0 vkids kids)(nm:Bs)(hnm:nm.length≤16777216)(hsk:Sp.srt kids) :
  Calls Tryz.prog 209 #[vkids,str nm,.func (.func 210) #[] #[]] w0 (Rets w0 (.tuple #[.int .i64 (Sp.pl kids nm:Nat),.bool (Sp.fd kids nm).isSome])):=by
 obtain⟨akids,kkids,rfl⟩:=hkids.shape
 have hlimkids:kids.length≤1099511627776:=hkids.lim
 have H:=Hp.init hG
 refine calls_of_W (l:=[.slice akids kids.length kkids,str nm,.func (.func 210) #[] #[]]) func209 Z ntmps209 Z (q2 (pe 2 Z (q1 (mV Z (lN Z (aG Z (q1 (pe 3 Z (q3 (W_seq (W_block ?_)))))))))))
 refine W_lp (hf:=(Sub.cons (t:=0) Z (Sub.cons (t:=1) Z (Sub.cons (t:=2) Z (Sub.cons (t:=6) Z (Sub.cons (t:=7) Z (Sub.cons (t:=8) Z Sub.nil))))))) (J:=fun M w m=>∃(i j:Nat) (G:PH),M=[(9,.int .i64 (i:Int)),(10,.int .i64 (j:Int))]∧PLe G0 G∧Hp w0 G0 [] w G []∧(i≤j∧j≤kids.length∧(∀(k:Nat) (x:Nd),k<i→kids[k]? = some x→Sp.lt x.name nm=true)∧(∀(k:Nat) (x:Nd),j≤k→kids[k]? = some x→Sp.lt x.name nm=false))∧m=(j-i)) (h0:=⟨0,kids.length,_,Z,PLe.refl _,H,?inv,Z⟩) (round:=?round)
 case inv=>exact⟨by omega,by omega,fun k x hk=>by omega,fun k x hk hx=>by have:=(List.getElem?_eq_some_iff.1 hx).1;omega⟩
 case round =>
  rintro _ _ _ ⟨i,j,_,rfl,hle1,H,hinv1,rfl⟩
  have hkids:=hkids.up hle1
  obtain⟨_,_,hlo,hhi⟩:=hinv1
  refine W_seq (q2 (pe 3 Z (q3 ?_)))
  refine W_cond Z ?_ ?_
  ·intro hc2
   try simp only[nrm]at hc2
   refine W_skip (N_K (W_block (q2 (pe 2 Z (aD Z2 (o_conv (by simp[underlying3]) underlying210 Z Z (wrap_u64 oO) (o_shr1 Z Z Z (by decide) (o_conv (by simp[underlying210]) underlying3 Z Z (wrap_i64 oO) (aG Z (q1 (pe 3 Z (iP ((i+j) / 2) hkids Z3 oM ?_))))))))))));intro _ _ z4 _ hz4 hE4 hrow4
   obtain⟨rfl,hnd4⟩:=hE4;obtain⟨_,_,_,_,_,_,_,_,hri4,hrk4⟩:=hnd4.open;have hn_hri4:=hri4.len;have hx_hri4:_≤1099511627776:=hri4.lim;have hn_hrk4:=hrk4.len;have hx_hrk4:_≤1099511627776:=hrk4.lim
   refine lP H hrow4 0 Z2 (mV Z (o_callv call210 Z Z Z (i_place1_c _ _ H.sub _ hnd4 _ hnm) ?_))
   rintro _ _ ⟨rfl,ew5⟩;have H:=H.step ew5;refine⟨_,rfl,?_⟩
   refine pe 1 Z (q3 ?_)
   refine W_cond Z ?_ ?_
   ·intro hc6
    try simp only[nrm]at hc6
    refine W_region (mV Z (aD Z2 (aG Z (R_nil (N_B ?_)))))
    refine N_lp (hJ:=⟨((i+j) / 2+1),j,_,Z,hle1,H,?inv,Z⟩) (hm:=?hm)
    case hm=>omega
    case inv=>exact⟨by omega,by omega,Sp.pw_lt hsk hz4 ((Sp.cmpB_lt _ _).1 hc6),hhi⟩
   intro hc6'
   try simp only[nrm]at hc6'
   refine W_region (pe 2 Z (R_nil (N_B ?_)))
   refine N_lp (hJ:=⟨i,((i+j) / 2),_,Z,hle1,H,?inv,Z⟩) (hm:=?hm)
   case hm=>omega
   case inv=>exact⟨by omega,by omega,hlo,Sp.pw_ge hsk hz4 (by cases hlt:Sp.lt z4.name nm with |false=>rfl|true=>exact absurd ((Sp.cmpB_lt _ _).2 hlt) oM)⟩
  intro hc2'
  try simp only[nrm]at hc2'
  refine W_exit (N_K_exit (N_LP_exit (N_B_same (N_K (q2 (pe 5 Z ?_))))))
  refine R_case (t:=39) Z ?_ ?_
  ·intro hc8
   try simp only[nrm]at hc8
   refine pe 3 Z (gR Z (iP i hkids Z3 Z ?_));intro _ _ _ _ hz9 hE9 hrow9
   obtain⟨rfl,hnd9⟩:=hE9;obtain⟨_,_,_,_,_,_,_,_,hri9,hrk9⟩:=hnd9.open;have hn_hri9:=hri9.len;have hx_hri9:_≤1099511627776:=hri9.lim;have hn_hrk9:=hrk9.len;have hx_hrk9:_≤1099511627776:=hrk9.lim
   refine gR Z (lP H hrow9 0 Z2 (pe 1 Z (gR Z (o_callv call210 Z Z Z (i_place1_c _ _ H.sub _ hnd9 _ hnm) ?_))))
   rintro _ _ ⟨rfl,ew10⟩;have H:=H.step ew10;refine⟨_,rfl,?_⟩
   refine pe 4 Z (q3 (W_ret (rt2 results209 Z Z ?_)))
   obtain rfl:i=j:=by omega
   have hpl:=Sp.pl_of oM hlo hhi
   obtain⟨hfd,_⟩:=Sp.fd_at hsk hz9 hlo hhi
   exact H.rets (by rw[hpl,hfd];simp only[Sp.cmpB_eq];rfl)
  intro hc8'
  try simp only[nrm]at hc8'
  refine pe 11 Z (q3 (W_ret (rt2 results209 Z Z ?_)))
  obtain rfl:i=j:=by omega
  have hpl:=Sp.pl_of oM hlo hhi
  have hfd:=Sp.fd_end (nm:=nm) (ks:=kids) (fun k x hk hx=>hlo k x oM hx)
  exact H.rets (by rw[hpl,hfd];rfl)
theorem i_place_c (w0:World)(G0:PH)(hG:PSub G0 w0)(t:Nd)(hndt:RdN G0 t)(nm:Bs)(hnm:nm.length≤16777216)(hwt:t.wf) :
  Calls Tryz.prog 177 #[.pointer (some ⟨t.b,0,none⟩),str nm] w0 (Rets w0 (.tuple #[.int .i64 (Sp.pl t.kids nm:Nat),.bool (Sp.fd t.kids nm).isSome])):=by
 obtain⟨_,_,_,_,_,_,_,hprt,hrit,hrkt⟩:=hndt.open
 have hn_hrit:=hrit.len;have hx_hrit:_≤1099511627776:=hrit.lim
 have hn_hrkt:=hrkt.len;have hx_hrkt:_≤1099511627776:=hrkt.lim
 have H:=Hp.init hG
 refine calls_of_W (l:=[.pointer (some ⟨t.b,0,none⟩),str nm]) func177 Z ntmps177 Z (q2 (pe 2 Z (q1 (pe 2 Z (fA 3 Z (lP H hprt 3 Z2 (mV Z (xr H Z2 (l_Search_c _ _ H.sub _ _ hrkt _ hnm ((Nd.wf_iff _).1 hwt).1) ?_))))))));intro _ H
 refine pe 4 Z (q3 (W_ret (rt2 results177 Z Z ?_)))
 exact H.rets Z
theorem i_at_c (w0:World)(G0:PH)(hG:PSub G0 w0)(t:Nd)(hndt:RdN G0 t)(vps:Value)(ps:List (Bs))(hps:RdT G0 vps ps)(hwt:t.wf) :
  Calls Tryz.prog 208 #[.pointer (some ⟨t.b,0,none⟩),vps] w0 (RetV w0 (fun v=>(t.at_ ps=none∧v= .pointer none)∨(∃d,t.at_ ps=some d∧v= .pointer (some ⟨d.b,0,none⟩)))):=by
 obtain⟨_,_,_,_,_,_,_,hprt,hrit,hrkt⟩:=hndt.open
 have hn_hrit:=hrit.len;have hx_hrit:_≤1099511627776:=hrit.lim
 have hn_hrkt:=hrkt.len;have hx_hrkt:_≤1099511627776:=hrkt.lim
 obtain⟨aps,kps,rfl⟩:=hps.shape
 have hlimps:ps.length≤1099511627776:=hps.lim
 have H:=Hp.init hG
 refine calls_of_W (l:=[.pointer (some ⟨t.b,0,none⟩),.slice aps ps.length kps]) func208 Z ntmps208 Z (q2 (aG Z (q3 (W_seq (q2 (mV Z (lN Z (mV Z (q3 (W_block ?_))))))))))
 refine W_lp (hf:=(Sub.cons (t:=9) Z (Sub.cons (t:=10) Z Sub.nil))) (J:=fun M w m=>∃(k:Nat) (d:Nd) (G:PH),M=[(11,.int .i64 (k:Int)),(0,.pointer (some ⟨d.b,0,none⟩))]∧PLe G0 G∧Hp w0 G0 [] w G []∧(k≤ps.length∧RdN G d∧d.wf∧t.at_ (ps.take k)=some d)∧m=(ps.length-k)) (h0:=⟨0,t,_,Z,PLe.refl _,H,?inv,Z⟩) (round:=?round)
 case inv=>exact⟨by omega,hndt,hwt,rfl⟩
 case round =>
  rintro _ _ _ ⟨k,d,_,rfl,hle1,H,hinv1,rfl⟩
  have hps:=hps.up hle1
  obtain⟨_,hnd0,hwd,hat⟩:=hinv1;obtain⟨_,_,_,_,_,_,_,hpr0,_,hrk0⟩:=hnd0.open;have hn_hrk0:=hrk0.len
  refine q2 (pe 1 Z (q3 (W_seq ?_)))
  refine W_cond Z ?_ ?_
  ·intro hc2
   try simp only[nrm]at hc2
   refine W_skip (N_K (W_seq (W_block (q2 (iP k hps Z3 Z ?_)))));intro _ _ z3 _ hz3 hE3 hrow3
   obtain⟨rfl,hi3⟩:=hE3;have hy_hi3:_≤16777216:=hi3
   refine lP H hrow3 0 Z2 (aG Z (q1 (pe 2 Z (xr H Z2 (i_place_c _ _ H.sub _ hnd0 _ hi3 hwd) ?_))));intro _ H
   refine pe 5 Z (q3 (W_seq (q2 (pe 2 Z (q3 ?_)))))
   refine W_cond Z ?_ ?_
   ·intro hc5
    try simp only[nrm]at hc5
    refine q2 (aG Z (q3 (W_ret (N_K_ret (N_B_ret (N_K_ret (N_LP_ret (N_B_ret (N_K_ret (rt1 results208 Z ?_))))))))))
    exact H.retV (.inl ⟨Nd.at_stop hz3 hat (by simpa [Sp.fd,Nd.kid] using hc5),rfl⟩)
   intro hc5'
   try simp only[nrm]at hc5'
   obtain⟨q,hq⟩:=Option.isSome_iff_exists.1 hc5'
   have hpl:d.kids[Sp.pl d.kids z3]? = some q:=Nd.place_some hwd hq
   have hlt:Sp.pl d.kids z3<d.kids.length:=(List.getElem?_eq_some_iff.1 hpl).1
   refine W_skip (N_K (W_region (pe 2 Z (fA 3 Z (lP H hpr0 3 Z2 (mV Z (iP (Sp.pl d.kids z3) hrk0 Z3 Z ?_)))))));intro _ _ z6 _ hz6 hE6 hrow6
   obtain⟨rfl,hnd6⟩:=hE6;obtain⟨_,_,_,_,_,_,_,_,hri6,hrk6⟩:=hnd6.open;have hn_hri6:=hri6.len;have hx_hri6:_≤1099511627776:=hri6.lim;have hn_hrk6:=hrk6.len;have hx_hrk6:_≤1099511627776:=hrk6.lim
   have hkid:Nd.kid d z3=some z6:=by (show Sp.fd _ _=_);rw[hq];exact hpl.symm.trans hz6
   refine lP H hrow6 0 Z2 (aG Z (R_nil (N_B (N_K (W_region (aD Z2 (mV Z (R_nil ?_))))))))
   refine N_lp (hJ:=⟨k+1,z6,_,Z,hle1,H,?inv,Z⟩) (hm:=?hm)
   case hm=>omega
   case inv=>exact⟨by omega,hnd6,(((Nd.wf_iff _).1 hwd).2 _ (List.mem_of_getElem? hz6)).2,by rw[Nd.at_step hz3 hat];exact hkid⟩
  intro hc2'
  try simp only[nrm]at hc2'
  refine W_exit (N_K_exit (N_LP_exit (N_B_same (N_K (q2 (pe 2 Z (q3 (W_ret (rt1 results208 Z ?_)))))))))
  exact H.retV (.inr ⟨d,by rw[←hat,List.take_of_length_le oM],rfl⟩)
theorem i_dirOf_c (w0:World)(G0:PH)(hG:PSub G0 w0)(t:Nd)(hndt:RdN G0 t)(path:Bs)(hpath:path.length≤16777216)(hwt:t.wf) :
  Calls Tryz.prog 176 #[.pointer (some ⟨t.b,0,none⟩),str path] w0 (RetV w0 (fun v=>(t.dirOf path=none∧v= .tuple #[.pointer none,str []])∨(∃d nm,t.dirOf path=some (d,nm)∧v= .tuple #[.pointer (some ⟨d.b,0,none⟩),str nm]))):=by
 obtain⟨_,_,_,_,_,_,_,hprt,hrit,hrkt⟩:=hndt.open
 have hn_hrit:=hrit.len;have hx_hrit:_≤1099511627776:=hrit.lim
 have hn_hrkt:=hrkt.len;have hx_hrkt:_≤1099511627776:=hrkt.lim
 have H:=Hp.init hG
 refine calls_of_W (l:=[.pointer (some ⟨t.b,0,none⟩),str path]) func176 Z ntmps176 Z (q2 (pe 2 Z (q1 (mV Z (xc Z2 (i_PathParts_c _ _ H.sub _ hpath) ?_)))))
 rintro _ _ ⟨G1,_,g1,rfl,hr1_0⟩
 have H:=H.grow g1
 have hndt:=hndt.up g1.le
 obtain⟨_,_,rfl⟩:=hr1_0.shape;have hx_hr1_0:_≤1099511627776:=hr1_0.lim
 refine⟨_,Z,?_⟩
 refine aG Z (q3 (W_seq (q2 (mV Z (lN Z (pe 1 Z (q3 ?_)))))))
 refine W_cond Z ?_ ?_
 ·intro hc2
  try simp only[nrm]at hc2
  refine q2 (pe 2 Z (q3 (W_ret (N_K_ret (rt2 results176 Z Z ?_)))))
  exact H.retV (.inl ⟨Nd.dirOf_nil oM,Z⟩)
 intro hc2'
 try simp only[nrm]at hc2'
 refine W_skip (N_K (q2 (mV Z (lN Z (o_sub Z Z Z oO (aG Z (q1 (pe 3 Z ?_))))))))
 have hcap4:=hr1_0.cap;try simp only[List.length_set,List.length_append,List.length_take,List.length_drop,List.length_replicate]at hcap4
 refine o_slice_to (j:=((Sp.parts path).length-1)) underlying49 sizeOf9 Z Z Z oM oM ?_
 have hsl4:=hr1_0.take (j:=((Sp.parts path).length-1)) aN
 have hsn1:=hsl4.len
 refine xc Z2 (i_at_c _ _ H.sub _ hndt _ _ hsl4 hwt) ?_
 rintro _ _ ⟨_,rfl,ew5,⟨hat5,rfl⟩|⟨_,hat5,rfl⟩⟩
 ·skip
  have H:=H.step ew5;refine⟨_,rfl,?_⟩
  refine aG Z (q3 (W_seq (q2 (mV Z (o_eqnil_ptr underlying136 Z Z Z (pe 7 Z (q3 (W_true Z (q2 (pe 2 Z (q3 (W_ret (N_K_ret (rt2 results176 Z Z ?_))))))))))))))
  exact H.retV (.inl ⟨Nd.dirOf_no oM hat5,Z⟩)
 skip
 have H:=H.step ew5;refine⟨_,rfl,?_⟩
 have hnd5:=hndt.at hat5;obtain⟨_,_,_,_,_,_,_,hpr5,hri5,hrk5⟩:=hnd5.open
 have hn_hri5:=hri5.len;have hx_hri5:_≤1099511627776:=hri5.lim
 have hn_hrk5:=hrk5.len;have hx_hrk5:_≤1099511627776:=hrk5.lim
 refine aG Z (q3 (W_seq (q2 (mV Z (o_eqnil_ptr underlying136 Z Z Z (pe 3 Z (gR Z (fA 1 Z (gR Z (lP H hpr5 1 Z2 (pe 2 Z (q3 ?_))))))))))))
 refine W_cond Z ?_ ?_
 ·intro hc6
  try simp only[nrm]at hc6
  refine q2 (pe 2 Z (q3 (W_ret (N_K_ret (rt2 results176 Z Z ?_)))))
  exact H.retV (.inl ⟨Nd.dirOf_nodir oM hat5 (by simpa using hc6),rfl⟩)
 intro hc6'
 try simp only[nrm]at hc6'
 refine W_skip (N_K (W_seq (W_drawK [] 7 H kR Z ?_)));intro _ H;have hd7:=PLe.refl G1
 refine dE 0 Z2 (dE 1 Z2 (dE 2 Z2 ?_))
 have hl8:=hr1_0.len
 obtain⟨_,_,_,_,ha8,hz8,hq8,hE8,hrow8,_⟩:=hr1_0.at (i:=((Sp.parts path).length-1)) oM
 clear hq8
 obtain⟨rfl,hi8⟩:=hE8;have hy_hi8:_≤16777216:=hi8
 refine dI 3 1 ((Sp.parts path).length-1) ha8 Z3 oM (dP 4 hrow8 0 Z3 (dE 5 Z2 (dE 6 Z2 (rz (N_K (W_ret (rt2 results176 Z Z ?_)))))))
 exact H.retV (.inr ⟨_,_,Nd.dirOf_yes oM hz8 hat5 (by simpa using hc6'),rfl⟩)
theorem l_Insert_c (w0:World)(G0:PH)(hG:PSub G0 w0)(vkids:Value)(kids:List Nd)(i:Nat)(hi:i≤kids.length)(hkl:kids.length≤1099511627776)(vbk:Nat)(k:Nd)(hLent:Lent w0 G0 [acc 136 1 vkids kids.length (ptrs kids),blk vbk (cl [ptr k.b] 136)]) :
  Calls Tryz.prog 178 #[vkids,.int .i64 (i:Int),.slice (some ⟨vbk,0,none⟩) 1 1] w0 (RetM w0 G0 (fps [acc 136 1 vkids kids.length (ptrs kids),blk vbk (cl [ptr k.b] 136)]) (fun G' v Bs=>∃(c:List Value),Bs=[acc 136 1 v (kids.length+1) c]∧c=ptrs (kids.take i++k::kids.drop i))):=by
 have H:Hp w0 G0 (fps [acc 136 1 vkids kids.length (ptrs kids),blk vbk (cl [ptr k.b] 136)]) w0 G0 [acc 136 1 vkids kids.length (ptrs kids),blk vbk (cl [ptr k.b] 136)]:=hLent.hp
 obtain⟨akids,ckids,rfl⟩:=H.accShape (k:=0) rfl
 refine calls_of_W (l:=[.slice akids kids.length ckids,.int .i64 (i:Int),.slice (some ⟨vbk,0,none⟩) 1 1]) func178 Z ntmps178 Z (q2 (aG Z (q1 (pe 2 Z ?_))))
 have hac1:=H.accCap (k:=0) rfl
 refine o_slice_from (i:=i) underlying168 sizeOf136 Z Z Z Z oM (q1 (mV Z (lN Z (aG Z (q3 (W_seq (q2 (pe 2 Z (q3 ?_)))))))))
 refine W_cond Z ?_ ?_
 ·intro hc2
  try simp only[nrm]at hc2
  exact absurd hc2 (by decide)
 intro hc2'
 try simp only[nrm]at hc2'
 refine W_skip (N_K (q2 (mV Z (lN Z (aG Z (q3 (W_seq (q2 (pe 3 Z (q3 ?_))))))))))
 refine W_cond Z ?_ ?_
 ·intro hc3
  try simp only[nrm]at hc3
  refine q2 (pe 2 Z ?_)
  refine o_append 0 H underlying168 typeInfo136 ⟨_,Z,Z⟩ Z Z Z Z Z Z Z (news:=[ptr k.b]) Z (fun j u hu=>by (rw[Nat.zero_add]);exact blk_cell (k:=1) H rfl (by simpa using hu)) (by simp[ptr,Value.oneCell']) oM (by decide) ?_;intro _ _ H
  refine aG Z (q3 (W_ret (N_K_ret (rt1 results178 Z ?_))))
  have H:=H.dl 1
  exact H.retM ⟨_,rfl,by (obtain rfl:i=kids.length:=by omega);(rw[List.take_length,List.drop_length]);simp[ptrs]⟩
 intro hc3'
 try simp only[nrm]at hc3'
 obtain⟨b0,_,_,hv0,_⟩:=H.accBlk (k:=0) (i:=i) rfl oM;cases hv0
 have hvk:vbk≠b0:=fun e=>by subst e;have:=H.nd;simp[fps,acc_fp,blk]at this
 have hcc:=H.accCap (k:=0) rfl
 have hcm:=H.accMax (k:=0) rfl
 refine W_skip (N_K (W_seq (q2 (pe 2 Z (aD Z2 (mV Z (o_cap underlying168 Z Z (pe 1 Z (q3 ?_)))))))))
 refine W_cond Z ?_ ?_
 ·intro hc6
  try simp only[nrm]at hc6
  refine q2 (pe 2 Z ?_)
  have hac7:=H.accCap (k:=0) rfl
  refine o_slice_to (j:=i) underlying168 sizeOf136 Z Z Z Z oM (pe 2 Z (aD Z2 (mV Z (o_sub Z Z Z oO (o_appmk 0 H (kids.length+1-i) underlying168 underlying3 typeInfo136 Z Z Z Z Z Z Z Z oM Z oM oM oM oM ?_)))));intro _ _ _ H _ _
  refine aG Z (q1 (pe 2 Z (o_slice_from1 (i:=i) underlying168 sizeOf136 Z Z Z oM oM oM (mV Z ?_))))
  refine o_copy 0 H ([ptr k.b]) underlying168 typeInfo136 Z Z Z Z Z (by simp[Nat.min_def]<;>(try split)<;>omega) (fun j v hj=>by (rw[Addr.add_lit,Nat.zero_add]);exact blk_cell (k:=2) H rfl (by simpa using hj)) (by intro v hv;first|exact ptrs_one v (List.mem_of_mem_drop hv)|(simp at hv;subst hv;rfl)) (by simp;try omega) ?_;intro _ H
  refine q3 (W_seq (W_drawK [2] 9 H kR Z ?_));intro _ H;have hd12:=PLe.refl G0
  refine dE 0 Z2 (dE 1 Z2 (dE 2 Z2 (RD_t 3 Z kR Z (fun _ hK=>v_add Z Z oO) (RD_t 4 Z kR Z (fun _ hK=>v_slice_from1 (i:=(i+1)) underlying168 sizeOf136 Z Z oM oM oM) (dE 5 Z2 (dE 6 Z2 (RD_t 7 Z kR Z (fun _ hK=>v_slice_from1 (i:=i) underlying168 sizeOf136 Z Z oM oM oM) (r1 8 Z ?_))))))))
  refine o_copy 0 H ((ptrs kids).drop i) underlying168 typeInfo136 Z Z Z Z Z (by simp[Nat.min_def]<;>(try split)<;>omega) (fun j v hj=>by (rw[Addr.add_lit]);(rw[List.getElem?_drop]at hj);exact acc_cell (k:=1) H rfl (by first|exact hj|(rw[List.getElem?_append_left (List.getElem?_eq_some_iff.1 hj).1];exact hj))) (by intro v hv;first|exact ptrs_one v (List.mem_of_mem_drop hv)|(simp at hv;subst hv;rfl)) (by simp;try omega) ?_;intro _ H
  refine q4 H hd12 (rz (N_K (q2 (pe 2 Z (q3 (W_ret (N_K_ret (rt1 results178 Z ?_))))))))
  have H:=H.dl 1
  have H:=H.dl 1
  have hcx:=(insC2 (x:=ptr k.b) (z:= .pointer none) (i:=i) (r:=kids.length+1-i) (c:=ptrs kids) (by simp;omega) (by simp;omega)).trans (ptrs_ins kids k i)
  exact H.retM ⟨_,acc_1 oM,hcx⟩
 intro hc6'
 try simp only[nrm]at hc6'
 refine W_skip (N_K (q2 (pe 3 Z (aD Z2 (o_slice_to (j:=kids.length+1) underlying168 sizeOf136 Z Z Z oM oM ?_)))))
 obtain⟨_,H⟩:=H.accMore (k:=0) rfl oM
 refine aG Z (q3 (W_seq (q2 (pe 4 Z (aD Z2 (o_slice_from1 (i:=(i+1)) underlying168 sizeOf136 Z Z Z oM oM oM (o_overlaps 0 1 H (fun args w=>run_callFunc_extern func211 kR kR kR (e:=Extern.SlicesOverlaps.overlaps #[168,168] #[4]) kR args w) underlying168 sizeOf136 Z Z Z Z hvk oM (pe 1 Z (q3 (W_true Z (W_seq (W_drawK [1] 9 H kR Z ?_))))))))))));intro _ H;have hd17:=PLe.refl G0
 refine dE 0 Z2 (dE 1 Z2 (dE 2 Z2 (RD_t 3 Z kR Z (fun _ hK=>v_add Z Z oO) (RD_t 4 Z kR Z (fun _ hK=>v_slice_from1 (i:=(i+1)) underlying168 sizeOf136 Z Z oM oM oM) (dE 5 Z2 (dE 6 Z2 (RD_t 7 Z kR Z (fun _ hK=>v_slice_from1 (i:=i) underlying168 sizeOf136 Z Z oM oM oM) (r1 8 Z ?_))))))))
 refine o_copy 0 H ((ptrs kids).drop i) underlying168 typeInfo136 Z Z Z Z Z (by simp[Nat.min_def]<;>(try split)<;>omega) (fun j v hj=>by (rw[Addr.add_lit]);(rw[List.getElem?_drop]at hj);exact acc_cell (k:=0) H rfl (by first|exact hj|(rw[List.getElem?_append_left (List.getElem?_eq_some_iff.1 hj).1];exact hj))) (by intro v hv;first|exact ptrs_one v (List.mem_of_mem_drop hv)|(simp at hv;subst hv;rfl)) (by simp;try omega) ?_;intro _ H
 refine q4 H hd17 (rz (N_K (q2 (pe 2 Z (o_slice_from1 (i:=i) underlying168 sizeOf136 Z Z Z oM oM oM (mV Z ?_))))))
 refine o_copy 0 H ([ptr k.b]) underlying168 typeInfo136 Z Z Z Z Z (by simp[Nat.min_def]<;>(try split)<;>omega) (fun j v hj=>by (rw[Addr.add_lit,Nat.zero_add]);exact blk_cell (k:=1) H rfl (by simpa using hj)) (by intro v hv;first|exact ptrs_one v (List.mem_of_mem_drop hv)|(simp at hv;subst hv;rfl)) (by simp;try omega) ?_;intro _ H
 refine q1 (pe 2 Z (q3 (W_ret (N_K_ret (rt1 results178 Z ?_)))))
 have H:=H.dl 1
 exact H.retM ⟨_,rfl,(insC (by simp;omega)).trans (ptrs_ins kids k i)⟩
theorem i_insert_c (w0:World)(G0:PH)(hG:PSub G0 w0)(Ft:Fr)(t:Nd)(hNt:NdO 192 136 G0 t Ft)(cx:List Value)(x:BItem)(hx:itemE G0 x cx)(hLent:Lent w0 G0 [frag Ft])(hwt:t.wf)(hct:t.cnt≤1000) :
  Calls Tryz.prog 146 #[.pointer (some ⟨t.b,0,none⟩),.agg cx.toArray] w0 (RetM w0 G0 (fps [frag Ft]) (fun G' v Bs=>∃(nb:Nat) (F':Fr) (t':Nd),v= .bool (t.ins x nb).isSome∧Bs=[frag F']∧NdO 192 136 G' t' F'∧t'.b=t.b∧(t.ins x nb).getD t=t')):=by
 obtain⟨_,_,_,rfl,hi1,hr1,_,_⟩:=ox hx
 have H:Hp w0 G0 (fps [frag Ft]) w0 G0 [frag Ft]:=hLent.hp
 refine calls_of_W (l:=[.pointer (some ⟨t.b,0,none⟩),_]) func146 Z ntmps146 Z (q2 (o_box H Z Z Z ?_));intro _ _ _ H
 refine aG Z (q1 (mV Z (fA 0 Z (lB 0 H Z3 (xc Z2 (i_dirOf_c _ _ (H.lendSubL [1]) _ ((H.lendN (k:=1) (ks:=[1]) Z Z hNt).at (show Nd.at_ t []=some t from Z)) _ hi1 hwt) ?_)))))
 rintro _ _ ⟨_,rfl,ew3,⟨hdf3,rfl⟩|⟨d3,nm3,hdf3,rfl⟩⟩
 ·skip
  have H:=H.step ew3;refine⟨_,rfl,?_⟩
  refine pe 5 Z (q3 (W_seq (q2 (mV Z (o_eqnil_ptr underlying136 Z Z Z (q3 (W_true Z (q2 (aG Z (q3 (W_ret (N_K_ret (rt1 results146 Z ?_)))))))))))))
  have H:=H.dl 0
  exact H.retM ⟨0,_,_,by (rw[(Nd.ins_no1 hdf3)];rfl),rfl,hNt,rfl,by (rw[(Nd.ins_no1 hdf3)];rfl)⟩
 skip
 have H:=H.step ew3;refine⟨_,rfl,?_⟩
 have hnml3:=Nd.dir_len hdf3
 refine pe 5 Z (q3 (W_seq (q2 (mV Z (o_eqnil_ptr underlying136 Z Z Z (q3 (W_false Z (W_skip (N_K (q2 (pe 2 Z (xr H Z2 (i_place_c _ _ (H.lendSubL [1]) _ ((H.lendN (k:=1) (ks:=[1]) Z Z hNt).at (Nd.dirOf_some hdf3).2.2.1) _ hnml3 (Nd.dir_wf hwt hdf3)) ?_))))))))))));intro _ H
 refine pe 5 Z (q3 (W_seq (q2 (mV Z (q3 ?_)))))
 refine W_cond Z ?_ ?_
 ·intro hc5
  try simp only[nrm]at hc5
  refine q2 (aG Z (q3 (W_ret (N_K_ret (rt1 results146 Z ?_)))))
  have H:=H.dl 0
  exact H.retM ⟨0,_,_,by (rw[(Nd.ins_no2 hdf3 (by simpa using hc5))];rfl),rfl,hNt,rfl,by (rw[(Nd.ins_no2 hdf3 (by simpa using hc5))];rfl)⟩
 intro hc5'
 try simp only[nrm]at hc5'
 have H:=H.tF 1
 obtain⟨_,_,_,_,_,oR,H,ohri,ohNs,_,_,hcov,hclose⟩:=Hp.openNode H hNt (Nd.dirOf_some hdf3).2.2.1
 obtain⟨_,_,rfl⟩:=H.accShape (k:=1) rfl;have hdo:=PLe.refl G0;have hn_ohri:=ohri.len
 refine W_skip (N_K (W_seq (W_drawK [3] 19 H kR Z ?_)));intro _ H;have hd6:=PLe.refl G0
 refine dE 0 Z2 (dE 1 Z2 (dE 2 Z2 (dF 3 3 Z2 (dE 5 Z2 (dE 6 Z2 (dF 7 1 Z2 (dB 8 0 Z4 (dF 9 2 Z2 (dB 10 0 Z4 ?_)))))))))
 refine r2 4 11 Z2 ?_ ?_
 ·skip
  refine lB 0 H Z3 (q4 H hd6 (r1 11 Z (xc Z2 (l_Clone_c _ _ H.sub _ _ hr1) ?_)))
  rintro _ _ ⟨_,_,_,g7,rfl,⟨_,rfl,hchk7⟩,hp7,hq7,hs7⟩
  have H:=H.growO g7 hp7 hq7 hs7;obtain⟨_,_,rfl⟩:=H.accShape (k:=0) rfl
  have ohri:=ohri.up g7.le
  have ohNs:=ohNs.up g7.le
  have hdo:=hdo.trans g7.le
  have hd6:=hd6.trans g7.le
  refine⟨_,Z,?_⟩
  obtain⟨_,H,hsg8,hsr8⟩:=H.shutL (k:=0) rfl (H.apart (k:=0) (ks:=[1,2,3]) rfl rfl (by intro b hb;rcases hcov b hb with h|h|h;(· exact fpsAt_mem (k:=1) rfl rfl b (by simp[blk,h]));(· exact fpsAt_mem (k:=2) rfl rfl b h);(· exact fpsAt_mem (k:=3) rfl rfl b h))) hchk7 aN aN
  have ohri:=ohri.up hsg8
  have ohNs:=ohNs.up hsg8
  have hdo:=hdo.trans hsg8
  have hd6:=hd6.trans hsg8
  refine q4 H hd6 (RD_t 12 Z kR Z (fun _ hK=>v_build bf192 Z Z) (r1 13 Z (o_box H Z Z Z ?_)));intro b9 _ _ H
  refine q4 H hd6 (r1 14 Z (xbs H Z7 ?_));intro _ _ _ H
  refine q4 H hd6 (r1 15 Z ?_)
  have H:=H.tF 3
  refine xc Z2 (l_Insert_c _ _ H.sub _ _ _ (Sp.pl_le d3.kids nm3) oM _ (Nd.mk b9 nm3 x.dir x.ids []) H.lent2) ?_
  rintro _ _ ⟨_,_,_,rfl,H11',⟨_,rfl,rfl⟩⟩
  have ohri:=ohri.up H11'.le
  have ohNs:=ohNs.up H11'.le
  have hsr8:=hsr8.up H11'.le
  have hdo:=hdo.trans H11'.le
  have hd6:=hd6.trans H11'.le
  have H:=H.borrow2 H11'
  obtain⟨avAk,cvAk,rfl⟩:=H.accShape (k:=0) rfl
  refine⟨_,Z,?_⟩
  refine q4 H hd6 (dE 16 Z2 (dF 17 3 Z2 (r1 18 Z (xst 2 H Z8 ?_))));intro _ H
  refine q4 H hd6 (rz (N_K (q2 (aG Z (q3 (W_ret (rt1 results146 Z ?_)))))))
  have H:=H.sel [1,3,2,0] rfl
  have H:=H.inF
  have H:=H.tF 2
  have H:=H.tF 2
  obtain⟨Fs2,hp2,hN2⟩:=NdsO.ins (k:=Nd.mk b9 nm3 x.dir x.ids []) (Sp.pl d3.kids nm3) ohNs (NdO.new hnml3 hsr8)
  have hcd:=Nd.at_cnt (Nd.dirOf_some hdf3).2.2.1;have hcl:=Nd.kids_le d3;have hpl:=Sp.pl_le d3.kids nm3
  have hkl:(d3.kids.take (Sp.pl d3.kids nm3)++Nd.mk b9 nm3 x.dir x.ids []::d3.kids.drop (Sp.pl d3.kids nm3)).length=d3.kids.length+1:=by (simp;omega)
  obtain⟨F2,H,hN3,hb3⟩:=hclose (kids':=(d3.kids.take (Sp.pl d3.kids nm3)++Nd.mk b9 nm3 x.dir x.ids []::d3.kids.drop (Sp.pl d3.kids nm3))) (Fs':=Fs2) (by (rw[hkl]);exact H) (by (refine List.Perm.trans ?_ (List.Perm.append_right oR hp2.symm));simp) hdo ohri hN2 oM
  have hins:=Nd.ins_yes (nb:=b9) hdf3 (by simpa using hc5')
  exact H.retM ⟨b9,_,_,by (rw[hins];rfl),rfl,hN3,hb3,by (rw[hins];rfl)⟩
 skip
 refine xc Z2 (l_Clone_c _ _ H.sub _ _ hr1) ?_
 rintro _ _ ⟨_,_,_,g13,rfl,⟨_,rfl,hchk13⟩,hp13,hq13,hs13⟩
 have H:=H.growO g13 hp13 hq13 hs13;obtain⟨_,_,rfl⟩:=H.accShape (k:=0) rfl
 have ohri:=ohri.up g13.le
 have ohNs:=ohNs.up g13.le
 have hdo:=hdo.trans g13.le
 have hd6:=hd6.trans g13.le
 refine⟨_,Z,?_⟩
 obtain⟨_,H,hsg14,hsr14⟩:=H.shutL (k:=0) rfl (H.apart (k:=0) (ks:=[1,2,3]) rfl rfl (by intro b hb;rcases hcov b hb with h|h|h;(· exact fpsAt_mem (k:=1) rfl rfl b (by simp[blk,h]));(· exact fpsAt_mem (k:=2) rfl rfl b h);(· exact fpsAt_mem (k:=3) rfl rfl b h))) hchk13 aN aN
 have ohri:=ohri.up hsg14
 have ohNs:=ohNs.up hsg14
 have hdo:=hdo.trans hsg14
 have hd6:=hd6.trans hsg14
 refine q4 H hd6 (RD_t 12 Z kR Z (fun _ hK=>v_build bf192 Z Z) ?_)
 refine r2 4 13 Z2 ?_ ?_
 ·skip
  refine lB 0 H Z3 (q4 H hd6 (r1 13 Z (o_box H Z Z Z ?_)));intro b15 _ _ H
  refine q4 H hd6 (r1 14 Z (xbs H Z7 ?_));intro _ _ _ H
  refine q4 H hd6 (r1 15 Z ?_)
  have H:=H.tF 3
  refine xc Z2 (l_Insert_c _ _ H.sub _ _ _ (Sp.pl_le d3.kids nm3) oM _ (Nd.mk b15 nm3 x.dir x.ids []) H.lent2) ?_
  rintro _ _ ⟨_,_,_,rfl,H17',⟨_,rfl,rfl⟩⟩
  have ohri:=ohri.up H17'.le
  have ohNs:=ohNs.up H17'.le
  have hsr14:=hsr14.up H17'.le
  have hdo:=hdo.trans H17'.le
  have hd6:=hd6.trans H17'.le
  have H:=H.borrow2 H17'
  obtain⟨avAk,cvAk,rfl⟩:=H.accShape (k:=0) rfl
  refine⟨_,Z,?_⟩
  refine q4 H hd6 (dE 16 Z2 (dF 17 3 Z2 (r1 18 Z (xst 2 H Z8 ?_))));intro _ H
  refine q4 H hd6 (rz (N_K (q2 (aG Z (q3 (W_ret (rt1 results146 Z ?_)))))))
  have H:=H.sel [1,3,2,0] rfl
  have H:=H.inF
  have H:=H.tF 2
  have H:=H.tF 2
  obtain⟨Fs2,hp2,hN2⟩:=NdsO.ins (k:=Nd.mk b15 nm3 x.dir x.ids []) (Sp.pl d3.kids nm3) ohNs (NdO.new hnml3 hsr14)
  have hcd:=Nd.at_cnt (Nd.dirOf_some hdf3).2.2.1;have hcl:=Nd.kids_le d3;have hpl:=Sp.pl_le d3.kids nm3
  have hkl:(d3.kids.take (Sp.pl d3.kids nm3)++Nd.mk b15 nm3 x.dir x.ids []::d3.kids.drop (Sp.pl d3.kids nm3)).length=d3.kids.length+1:=by (simp;omega)
  obtain⟨F2,H,hN3,hb3⟩:=hclose (kids':=(d3.kids.take (Sp.pl d3.kids nm3)++Nd.mk b15 nm3 x.dir x.ids []::d3.kids.drop (Sp.pl d3.kids nm3))) (Fs':=Fs2) (by (rw[hkl]);exact H) (by (refine List.Perm.trans ?_ (List.Perm.append_right oR hp2.symm));simp) hdo ohri hN2 oM
  have hins:=Nd.ins_yes (nb:=b15) hdf3 (by simpa using hc5')
  exact H.retM ⟨b15,_,_,by (rw[hins];rfl),rfl,hN3,hb3,by (rw[hins];rfl)⟩
 skip
 refine o_box H Z Z Z ?_;intro b19 _ _ H
 refine q4 H hd6 ?_
 refine r2 4 14 Z2 ?_ ?_
 ·skip
  refine lB 1 H Z3 (q4 H hd6 (r1 14 Z (xbs H Z7 ?_)));intro _ _ _ H
  refine q4 H hd6 (r1 15 Z ?_)
  have H:=H.tF 3
  refine xc Z2 (l_Insert_c _ _ H.sub _ _ _ (Sp.pl_le d3.kids nm3) oM _ (Nd.mk b19 nm3 x.dir x.ids []) H.lent2) ?_
  rintro _ _ ⟨_,_,_,rfl,H21',⟨_,rfl,rfl⟩⟩
  have ohri:=ohri.up H21'.le
  have ohNs:=ohNs.up H21'.le
  have hsr14:=hsr14.up H21'.le
  have hdo:=hdo.trans H21'.le
  have hd6:=hd6.trans H21'.le
  have H:=H.borrow2 H21'
  obtain⟨avAk,cvAk,rfl⟩:=H.accShape (k:=0) rfl
  refine⟨_,Z,?_⟩
  refine q4 H hd6 (dE 16 Z2 (dF 17 3 Z2 (r1 18 Z (xst 2 H Z8 ?_))));intro _ H
  refine q4 H hd6 (rz (N_K (q2 (aG Z (q3 (W_ret (rt1 results146 Z ?_)))))))
  have H:=H.sel [1,3,2,0] rfl
  have H:=H.inF
  have H:=H.tF 2
  have H:=H.tF 2
  obtain⟨Fs2,hp2,hN2⟩:=NdsO.ins (k:=Nd.mk b19 nm3 x.dir x.ids []) (Sp.pl d3.kids nm3) ohNs (NdO.new hnml3 hsr14)
  have hcd:=Nd.at_cnt (Nd.dirOf_some hdf3).2.2.1;have hcl:=Nd.kids_le d3;have hpl:=Sp.pl_le d3.kids nm3
  have hkl:(d3.kids.take (Sp.pl d3.kids nm3)++Nd.mk b19 nm3 x.dir x.ids []::d3.kids.drop (Sp.pl d3.kids nm3)).length=d3.kids.length+1:=by (simp;omega)
  obtain⟨F2,H,hN3,hb3⟩:=hclose (kids':=(d3.kids.take (Sp.pl d3.kids nm3)++Nd.mk b19 nm3 x.dir x.ids []::d3.kids.drop (Sp.pl d3.kids nm3))) (Fs':=Fs2) (by (rw[hkl]);exact H) (by (refine List.Perm.trans ?_ (List.Perm.append_right oR hp2.symm));simp) hdo ohri hN2 oM
  have hins:=Nd.ins_yes (nb:=b19) hdf3 (by simpa using hc5')
  exact H.retM ⟨b19,_,_,by (rw[hins];rfl),rfl,hN3,hb3,by (rw[hins];rfl)⟩
 skip
 refine xbs H Z7 ?_;intro _ _ _ H
 refine q4 H hd6 (r1 4 Z (lB 2 H Z3 (q4 H hd6 (r1 15 Z ?_))))
 have H:=H.tF 3
 refine xc Z2 (l_Insert_c _ _ H.sub _ _ _ (Sp.pl_le d3.kids nm3) oM _ (Nd.mk b19 nm3 x.dir x.ids []) H.lent2) ?_
 rintro _ _ ⟨_,_,_,rfl,H24',⟨_,rfl,rfl⟩⟩
 have ohri:=ohri.up H24'.le
 have ohNs:=ohNs.up H24'.le
 have hsr14:=hsr14.up H24'.le
 have hdo:=hdo.trans H24'.le
 have hd6:=hd6.trans H24'.le
 have H:=H.borrow2 H24'
 obtain⟨avAk,cvAk,rfl⟩:=H.accShape (k:=0) rfl
 refine⟨_,Z,?_⟩
 refine q4 H hd6 (dE 16 Z2 (dF 17 3 Z2 (r1 18 Z (xst 2 H Z8 ?_))));intro _ H
 refine q4 H hd6 (rz (N_K (q2 (aG Z (q3 (W_ret (rt1 results146 Z ?_)))))))
 have H:=H.sel [1,3,2,0] rfl
 have H:=H.inF
 have H:=H.tF 2
 have H:=H.tF 2
 obtain⟨Fs2,hp2,hN2⟩:=NdsO.ins (k:=Nd.mk b19 nm3 x.dir x.ids []) (Sp.pl d3.kids nm3) ohNs (NdO.new hnml3 hsr14)
 have hcd:=Nd.at_cnt (Nd.dirOf_some hdf3).2.2.1;have hcl:=Nd.kids_le d3;have hpl:=Sp.pl_le d3.kids nm3
 have hkl:(d3.kids.take (Sp.pl d3.kids nm3)++Nd.mk b19 nm3 x.dir x.ids []::d3.kids.drop (Sp.pl d3.kids nm3)).length=d3.kids.length+1:=by (simp;omega)
 obtain⟨F2,H,hN3,hb3⟩:=hclose (kids':=(d3.kids.take (Sp.pl d3.kids nm3)++Nd.mk b19 nm3 x.dir x.ids []::d3.kids.drop (Sp.pl d3.kids nm3))) (Fs':=Fs2) (by (rw[hkl]);exact H) (by (refine List.Perm.trans ?_ (List.Perm.append_right oR hp2.symm));simp) hdo ohri hN2 oM
 have hins:=Nd.ins_yes (nb:=b19) hdf3 (by simpa using hc5')
 exact H.retM ⟨b19,_,_,by (rw[hins];rfl),rfl,hN3,hb3,by (rw[hins];rfl)⟩
theorem i_openTree_c (w0:World)(G0:PH)(hG:PSub G0 w0)(vlist:Value)(list:List (BItem))(hlist:RdItems G0 vlist list)(hLent:Lent w0 G0 []) :
  Calls Tryz.prog 117 #[vlist] w0 (RetM w0 G0 [] (fun G' v Bs=>(v= .tuple #[.pointer none,.bool false]∧Bs=[]∧Sp.TreeValid list=false)∨(∃(T:Nd) (F:Fr),v= .tuple #[.pointer (some ⟨T.b,0,none⟩),.bool true]∧Bs=[frag F]∧NdO 192 136 G' T F∧Nd.TOK T list∧Sp.TreeValid list=true))):=by
 obtain⟨alist,klist,rfl⟩:=hlist.shape
 have hlimlist:list.length≤1099511627776:=hlist.lim
 have H:Hp w0 G0 [] w0 G0 []:=hLent.hp
 refine calls_of_W (l:=[.slice alist list.length klist]) func117 Z ntmps117 Z (q2 (pe 2 Z (q3 (W_seq (q2 (mV Z (lN Z (pe 1 Z (q3 ?_)))))))))
 refine W_cond Z ?_ ?_
 ·intro hc1
  try simp only[nrm]at hc1
  refine q2 (pe 2 Z (q3 (W_ret (N_K_ret (rt2 results117 Z Z ?_)))))
  exact H.retM (.inl ⟨Z,Z,Nd.tv_long oM⟩)
 intro hc1'
 try simp only[nrm]at hc1'
 refine W_skip (N_K (q2 (o_build bf192 Z Z Z (o_box H Z Z Z ?_))));intro b2 _ _ H
 refine aG Z (q1 (aG Z (q3 (W_seq (q2 (mV Z (lN Z (mV Z (q3 (W_block ?_))))))))))
 have H:=H.addF
 have H:=H.tF 1
 have H:=H.inF
 have hN0:NdO 192 136 G0 (Nd.mk b2 [] true [] []) _:=NdO.new (by simp) (RdS.nil _ _ _)
 refine W_lp (hf:=(Sub.cons (t:=13) Z (Sub.cons (t:=14) Z Sub.nil))) (J:=fun M w m=>∃(k:Nat) (la:Bs) (T:Nd) (FT:Fr) (G:PH),M=[(15,.int .i64 (k:Int)),(5,str la),(4,.pointer (some ⟨T.b,0,none⟩))]∧PLe G0 G∧Hp w0 G0 [] w G [frag FT]∧(k≤list.length∧la=Nd.lastPath list k∧la.length≤16777216∧NdO 192 136 G T FT∧Nd.TOK T (list.take k))∧m=(list.length-k)) (h0:=⟨0,[],(Nd.mk b2 [] true [] []),_,_,Z,PLe.refl _,H,?inv,Z⟩) (round:=?round)
 case inv=>exact⟨by omega,rfl,by simp,hN0,Nd.tok_root _⟩
 case round =>
  rintro _ _ _ ⟨k,la,T,FT,_,rfl,hle3,H,hinv3,rfl⟩
  have hlist:=hlist.up hle3
  obtain⟨_,hla,_,hNT,hTok⟩:=hinv3
  refine q2 (pe 1 Z (q3 (W_seq ?_)))
  refine W_cond Z ?_ ?_
  ·intro hc4
   try simp only[nrm]at hc4
   refine W_skip (N_K (W_seq (W_block (q2 (iP k hlist Z3 Z ?_)))));intro _ _ z5 _ hz5 hE5 hrow5
   obtain⟨_,_,_,rfl,hi5,hr5,_,_⟩:=ox hE5
   refine o_loadagg_P H isAgg109 sizeOf109 Z Z hrow5 Z (xal H Z ?_);intro _ _ _ H
   refine xst 0 H Z8 ?_;intro _ H
   refine q3 (W_seq (q2 (fA 0 Z (lB 0 H Z3 (mV Z (o_sleq Z Z Z (mV Z ?_)))))))
   refine R_case (t:=23) Z ?_ ?_
   ·intro hc8
    try simp only[nrm]at hc8
    refine pe 10 Z (q3 (W_true Z (q2 (pe 2 Z (q3 (W_ret (N_K_ret (N_B_ret (N_K_ret (N_LP_ret (N_B_ret (N_K_ret (rt2 results117 Z Z ?_)))))))))))))
    have H:=H.dl 0
    have H:=H.dl 0
    exact H.retM (.inl ⟨rfl,rfl,Nd.tv_false 0 hTok hz5 (.inl (by (rw[←hla]);exact Nd.leq_no (by first|simpa using hc8|(simp at hc8;exact hc8.symm))))⟩)
   intro hc8'
   try simp only[nrm]at hc8'
   refine gR Z (lA 0 3 H Z4 (gR Z (xr H Z2 (i_itemValid_c _ _ H.sub _ _ ⟨_,_,_,Z,hi5,hr5⟩) ?_)));intro _ H
   refine pe 3 Z ?_
   refine R_case (t:=28) Z ?_ ?_
   ·intro hc10
    try simp only[nrm]at hc10
    refine pe 5 Z (q3 (W_true Z (q2 (pe 2 Z (q3 (W_ret (N_K_ret (N_B_ret (N_K_ret (N_LP_ret (N_B_ret (N_K_ret (rt2 results117 Z Z ?_)))))))))))))
    have H:=H.dl 0
    have H:=H.dl 0
    exact H.retM (.inl ⟨rfl,rfl,Nd.tv_false 0 hTok hz5 (.inr (.inl (by simpa using hc10)))⟩)
   intro hc10'
   try simp only[nrm]at hc10'
   refine pe 1 Z (gR Z (lA 0 3 H Z4 (gR Z ?_)))
   have H:=H.tF 1
   refine xc Z2 (i_insert_c _ _ H.sub _ _ hNT _ _ ⟨_,_,_,Z,hi5,hr5⟩ H.lent1 hTok.wf (by have:=hTok.cnt;simp at this;omega)) ?_
   rintro _ _ ⟨_,_,_,rfl,H11',⟨nb11,F11,t11,rfl,rfl,hN11,hb11,ht11⟩⟩
   have hle3:=hle3.trans H11'.le
   have H:=H.borrow1 H11'
   try rw[←hb11]
   refine⟨_,Z,?_⟩
   refine pe 2 Z (q3 ?_)
   refine W_cond Z ?_ ?_
   ·intro hc12
    try simp only[nrm]at hc12
    refine q2 (pe 2 Z (q3 (W_ret (N_K_ret (N_B_ret (N_K_ret (N_LP_ret (N_B_ret (N_K_ret (rt2 results117 Z Z ?_))))))))))
    have H:=H.dl 0
    have H:=H.dl 0
    exact H.retM (.inl ⟨rfl,rfl,Nd.tv_false nb11 hTok hz5 (.inr (.inr (by simpa using hc12)))⟩)
   intro hc12'
   try simp only[nrm]at hc12'
   refine W_skip (N_K (W_region (fA 0 Z (lB 1 H Z3 (aG Z (R_nil (N_B (N_K (W_region (aD Z2 (mV Z (R_nil ?_))))))))))))
   have H:=H.dl 1
   refine N_lp (hJ:=⟨k+1,z5.path,t11,F11,_,Z,hle3,H,?inv,Z⟩) (hm:=?hm)
   case hm=>omega
   case inv=>exact⟨by omega,(Nd.lastPath_succ hz5).symm,by assumption,hN11,Nd.open_step hTok hz5 oM (by (rw[←hla]);exact Nd.leq_yes hc8'.1 hc8'.2) (by simpa using hc10') (Nd.getD_some ht11 (by simpa using hc12'))⟩
  intro hc4'
  try simp only[nrm]at hc4'
  refine W_exit (N_K_exit (N_LP_exit (N_B_same (N_K (q2 (pe 3 Z (q3 (W_ret (rt2 results117 Z Z ?_)))))))))
  have hTl:Nd.TOK T list:=by (have h9:=hTok;rw[List.take_of_length_le oM]at h9;exact h9)
  exact H.retM (.inr ⟨T,_,Z,Z,hNT,hTl,hTl.valid⟩)
theorem i_drop_c (w0:World)(G0:PH)(hG:PSub G0 w0)(mbs:Nat)(ess:Array MapEntry)(cks:Nat)(xss:List (Int×Value))(Ls:List BHeld)(hms:MapIs (Value.int .i64) ess cks xss)(hSs:StR G0 xss Ls)(hVs:Sp.VH Ls)(id:Int)(hLent:Lent w0 G0 [blk mbs (.map ess cks)]) :
  Calls Tryz.prog 160 #[.map (some mbs),.int .i64 id] w0 (RetM w0 G0 [mbs] (fun G' v Bs=>∃(es':Array MapEntry) (ck':Nat) (xs':List (Int×Value)) (L':List BHeld),v= .bool (Sp.StoreDrop Ls id).isSome∧Bs=[blk mbs (.map es' ck')]∧MapIs (Value.int .i64) es' ck' xs'∧StR G' xs' L'∧Sp.VH L'∧L'=(Sp.StoreDrop Ls id).getD Ls)):=by
 have H:Hp w0 G0 [mbs] w0 G0 [blk mbs (.map ess cks)]:=hLent.hp
 refine calls_of_W (l:=[.map (some mbs),.int .i64 id]) func160 Z ntmps160 Z (q2 (aG Z (q1 (pe 2 Z (o_lookS2 (H.at (k:=0) Z) hms hSs underlying135 underlying3 zeroValue107 Z Z Z ?_)))));intro _ hE1
 obtain⟨_,_,_,rfl,_,hr1,_,_,_⟩:=ox hE1
 refine pe 3 Z (xal H Z ?_);intro _ _ _ H
 refine xst 0 H Z8 ?_;intro _ H
 refine aG Z (q3 (W_seq (q2 (pe 2 Z (q3 ?_)))))
 refine W_cond Z ?_ ?_
 ·intro hc4
  try simp only[nrm]at hc4
  refine q2 (aG Z (q3 (W_ret (N_K_ret (rt1 results160 Z ?_)))))
  have H:=H.dl 0
  exact H.retM ⟨_,_,_,_,congrArg Value.bool (by rw[Sp.drop_no (by simpa using hc4)];rfl),rfl,hms,hSs,hVs,by rw[Sp.drop_no (by simpa using hc4)];rfl⟩
 intro hc4'
 try simp only[nrm]at hc4'
 have hfd:(Sp.atH Ls id).isSome=true:=by simpa using hc4'
 have hgo:=Sp.get_ok hVs hfd
 refine W_skip (N_K (W_seq (q2 (fA 2 Z (lB 0 H Z3 (pe 1 Z (q3 ?_)))))))
 refine W_cond Z ?_ ?_
 ·intro hc5
  try simp only[nrm]at hc5
  have hkg:=Sp.drop_get1 hVs hfd hc5
  refine q2 (pe 2 Z (o_delS 1 H Z hms hSs underlying135 underlying3 Z Z ?_));intro _ _ _ _ H hm6 hS6
  refine q1 (aG Z (q3 (W_ret (N_K_ret (rt1 results160 Z ?_)))))
  have H:=H.dl 0
  exact H.retM ⟨_,_,_,_,congrArg Value.bool (by rw[hkg.1];rfl),rfl,hm6,hS6,hkg.2,by rw[hkg.1];rfl⟩
 intro hc5'
 try simp only[nrm]at hc5'
 have hkg:=Sp.drop_get2 hVs hfd hc5'
 refine W_skip (N_K (q2 (fA 2 Z (lB 0 H Z3 (o_sub Z Z Z oO (fA 2 Z (xst 0 H Z8 ?_)))))));intro _ H
 refine q1 (pe 2 Z (lA 0 3 H Z4 ?_))
 refine o_updS 1 H ⟨(getH Ls id).id,(getH Ls id).bytes,(getH Ls id).uses-1⟩ Z hms hSs underlying135 underlying3 Z Z Z (show heldE G0 ⟨(getH Ls id).id,(getH Ls id).bytes,(getH Ls id).uses-1⟩ _ from⟨_,_,_,Z,⟨by first|omega|(dsimp only;omega),by first|omega|(dsimp only;omega)⟩,hr1,⟨by first|omega|(dsimp only;omega),by first|omega|(dsimp only;omega)⟩⟩) (by exact Sp.get_id hfd) ?_;intro _ _ _ _ H hm9 hS9
 refine q1 (aG Z (q3 (W_ret (rt1 results160 Z ?_))))
 have H:=H.dl 0
 exact H.retM ⟨_,_,_,_,congrArg Value.bool (by rw[hkg.1];rfl),rfl,hm9,hS9,hkg.2,by rw[hkg.1];rfl⟩
end Go.Proofs.Tst
