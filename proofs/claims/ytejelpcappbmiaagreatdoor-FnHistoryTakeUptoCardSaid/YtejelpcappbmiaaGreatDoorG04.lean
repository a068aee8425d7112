/- Part 4 of the proof: the program logic and plain functions. Conditions: none. -/
import Derived.Test.YtejelpcappbmiaaGreatDoorG03
import Derived.Test.YtejelpcappbmiaaGreatDoorG02
import Derived.KernelRfl
import Derived.Lib.AppendStr
import Derived.Shelf.Strings.Builder1
import Derived.Lib.ItoaNum
import Derived.RangeFuncNested
import Derived.RangeFuncLeaves
import Derived.RangeFuncCalls
import Derived.WideKeyArgs
import Derived.ChangeArms
import Derived.DataElems
import Derived.ChangeSame
import Derived.Test.YtejelpcappbmiaaGreatDoorProg
import Derived.Shelf.SlGeneric
import Derived.Shelf.Strings.Search1
import Derived.Shelf.Strings.Search2
import Derived.Shelf.Strings.Count
import Derived.Shelf.SlIterI.Nil
import Derived.Shelf.SortM.Plain
import Derived.Shelf.SortM.SortNone
import Derived.Ground.GgzProg
import Derived.Ground.SlgmProg
import Derived.Shelf.Strconv.Itoa3
set_option linter.all false
set_option maxRecDepth 100000
set_option maxHeartbeats 8000000
namespace Sp
open Fw Nd
theorem keeps:∀(ids:List Int) {L L':List BHeld},VH L→foldB StoreKeep ids (some L)=some L'→VH L'∧∀a,us L' a=us L a+(cnt1 a ids:Int)∧by_ L' a=by_ L a
 | [], L, L', hV, h => by
  have:L=L':=by simpa [foldB] using h
  subst this
  exact⟨hV,fun a=>by simp[cnt1]⟩
 | x :: r, L, L', hV, h => by
  have h':foldB StoreKeep r (StoreKeep L x)=some L':=h
  cases e:StoreKeep L x with
  | none=>rw[e,foldB_none]at h';cases h'
  | some L1 =>
   rw[e]at h'
   obtain⟨k1,_,k3⟩:=keep_step hV e
   obtain⟨g1,g2⟩:=keeps r k1 h'
   refine⟨g1,fun a=>?_⟩
   have h3:=k3 a
   have h4:=g2 a
   rw[cnt1_cons]
   refine⟨?_,h4.2.trans h3.2⟩
   by_cases ea:a=x
   ·rw[if_pos ea]at h3 ⊢;omega
   ·rw[if_neg ea]at h3 ⊢;omega
theorem keepTs:∀(t:List BItem) {L L':List BHeld},VH L→l12Keep L t=some L'→VH L'∧∀a,us L' a=us L a+(cntL t a:Int)∧by_ L' a=by_ L a
 | [], L, L', hV, h => by
  have:L=L':=by simpa [l12Keep,foldB] using h
  subst this
  exact⟨hV,fun a=>by simp[cntL]⟩
 | x :: r, L, L', hV, h => by
  have h':foldB keepT r (keepT L x)=some L':=h
  cases e:keepT L x with
  | none=>rw[e,foldB_none]at h';cases h'
  | some L1 =>
   rw[e]at h'
   obtain⟨k1,k3⟩:=keeps x.ids hV e
   obtain⟨g1,g2⟩:=keepTs r k1 h'
   refine⟨g1,fun a=>?_⟩
   have h3:=k3 a
   have h4:=g2 a
   rw[cntL_cons]
   exact⟨by omega,h4.2.trans h3.2⟩
def freeF (s:List BHeld)(x:BItem):Option (List BHeld):=FileFree s x.ids
def freeTs (s:List BHeld)(l:List BItem):Option (List BHeld):=foldB freeF l (some s)
def l12Free (s:List BHeld)(l:List BItem):List BHeld:=l.foldl (fun s x=>(FileFree s x.ids).getD []) s
theorem frees:∀(t:List BItem) {L:List BHeld},VH L→(∀x,x ∈ t→l4Ids L x.ids=true)→(∀a,(cntL t a:Int)≤us L a) →
  ∃L',freeTs L t=some L'∧l12Free L t=L'∧VH L'∧∀a,us L' a=us L a-(cntL t a:Int)∧(0<us L' a→by_ L' a=by_ L a)
 | [],L,hV,_,_=>⟨L,rfl,rfl,hV,fun a=>by simp[cntL]⟩
 | x :: r, L, hV, hi, hl => by
  obtain ⟨L1, k1, k2, k3⟩ := free_ok hV (hi x (by simp)) (fun a => by
   have:=hl a
   rw[cntL_cons]at this
   omega)
  have hc : ∀ a, (cntL r a : Int) ≤ us L1 a := fun a => by
   have:=hl a
   have:=(k3 a).1
   rw[cntL_cons]at *
   omega
  obtain ⟨L', g1, g2, g3, g4⟩ := frees r k2 (fun y hy => ids_keep hV k2 (fun a ha => by
   have h1:0<cnt1 a y.ids:=cnt1_pos.2 ha
   have h2:=cntL_mem hy a
   have h3:=hc a
   have h4:0<us L1 a:=by omega
   exact⟨h4,(k3 a).2 h4⟩) (hi y (by simp[hy]))) hc
  refine⟨L',?_,?_,g3,fun a=>?_⟩
  ·show foldB freeF (x::r) (some L)=some L'
   rw[foldB_cons (show freeF L x=some L1 from k1)]
   exact g1
  ·simp only[l12Free,List.foldl_cons,k1,Option.getD_some]
   exact g2
  ·have h1:=k3 a
   have h2:=g4 a
   rw[cntL_cons]
   refine⟨by omega,fun h=>(h2.2 h).trans (h1.2 (by omega))⟩
def trees (d:BDisk):List (List BItem):=d.tree::d.snaps.map (·.tree)
def cntD (ts:List (List BItem))(a:Int):Nat:=(ts.map (fun t=>cntL t a)).sum
theorem cntD_cons (t:List BItem)(ts:List (List BItem))(a:Int):cntD (t::ts) a=cntL t a+cntD ts a:=by simp[cntD]
theorem cntD_mem {ts:List (List BItem)}{t:List BItem}(h:t ∈ ts)(a:Int):cntL t a≤cntD ts a:=by
 induction ts with
 | nil=>cases h
 | cons y r ih =>
  rw[cntD_cons]
  rcases List.mem_cons.1 h with rfl|h
  ·omega
  ·have:=ih h;omega
theorem cntD_zero {ts:List (List BItem)}{a:Int}(h:∀t,t ∈ ts→∀x,x ∈ t→a ∉ x.ids):cntD ts a=0:=by
 induction ts with
 | nil=>rfl
 | cons y r ih=>rw[cntD_cons,ih (fun t ht=>h t (by simp[ht])),cntL_zero (h y (by simp))]
theorem cntD_le {ts:List (List BItem)}(h:∀t,t ∈ ts→VT t)(a:Int):cntD ts a≤48*ts.length:=by
 induction ts with
 | nil=>simp[cntD]
 | cons y r ih =>
  rw[cntD_cons,List.length_cons]
  have h1:=ih (fun t ht=>h t (by simp[ht]))
  have h2:=l11Count_le (id:=a) (tvalid_iff.2 (h y (by simp)))
  rw[l11Count_eq]at h2
  omega
theorem l12Count_eq (d:BDisk)(a:Int):l12Count d a=cntD (trees d) a:=by
 simp[l12Count,cntS,trees,l11Count_eq,cntD,Function.comp_def]
structure DHol (L:List BHeld) (ts:List (List BItem)):Prop where
 vh:VH L
 vt:∀t,t ∈ ts→VT t
 ids:∀t,t ∈ ts→∀x,x ∈ t→l4Ids L x.ids=true
 use:∀a,us L a=(cntD ts a:Int)
def NamesOK (l:List BSnap):Prop:=l.length≤6∧∀(k:Nat) (s:BSnap),l[k]? = some s→l1Word s.name=true∧(k:Int)≤l12At l s.name
theorem dd_iff {d:BDisk}:DiskValid d=true↔NamesOK d.snaps∧DHol d.store (trees d):=by
 rw[dv_parts,valid_iff,tvalid_iff]
 have hf : ∀ l : List BItem, l11Files d.store l = true ↔ ∀ x, x ∈ l → l4Ids d.store x.ids = true := fun l => by
  unfold l11Files
  rw[List.all_eq_true]
  exact Iff.rfl
 constructor
 ·rintro⟨h1,h2,h3,h4,⟨h5,h6⟩,h7⟩
  have hi : ∀ t, t ∈ trees d → ∀ x, x ∈ t → l4Ids d.store x.ids = true := fun t ht => by
   rcases List.mem_cons.1 ht with rfl|ht
   ·exact(hf _).1 h5
   ·obtain⟨s,hs,rfl⟩:=List.mem_map.1 ht
    obtain⟨k,hk⟩:=List.getElem?_of_mem hs
    exact(hf _).1 (h6 k s hk)
  refine⟨⟨h3,fun k s hs=>⟨(h4 k s hs).1,(h4 k s hs).2.1⟩⟩,⟨h1,fun t ht=>?_,hi,fun a=>?_⟩⟩
  ·rcases List.mem_cons.1 ht with rfl|ht
   ·exact h2
   ·obtain⟨s,hs,rfl⟩:=List.mem_map.1 ht
    obtain⟨k,hk⟩:=List.getElem?_of_mem hs
    exact tvalid_iff.1 (h4 k s hk).2.2
  ·by_cases ha:a ∈ d.store.map (·.id)
   ·obtain⟨h,hh,rfl⟩:=List.mem_map.1 ha
    have:=List.all_eq_true.1 h7 h hh
    simp only[usesD,decide_eq_true_eq,l12Count_eq]at this
    rw[this,us,getH_mem h1.nd hh]
   ·rw[us,getH_not ha,cntD_zero]
    ·rfl
    ·intro t ht x hx hax
     have:=ids_in h1 (hi t ht x hx) hax
     rw[us,getH_not ha]at this
     exact absurd this (by simp)
 ·rintro⟨⟨h3,h4⟩,⟨h1,h2,hi,hu⟩⟩
  have hm:∀(k:Nat) (s:BSnap),d.snaps[k]? = some s→s.tree ∈ trees d:=fun k s hs=>List.mem_cons.2 (.inr (List.mem_map.2 ⟨s,List.mem_of_getElem? hs,rfl⟩))
  refine⟨h1,h2 _ (by simp[trees]),h3,fun k s hs=>⟨(h4 k s hs).1,(h4 k s hs).2,tvalid_iff.2 (h2 _ (hm k s hs))⟩,⟨(hf _).2 (hi _ (by simp[trees])),fun k s hs=>(hf _).2 (hi _ (hm k s hs))⟩,List.all_eq_true.2 fun h hh=>?_⟩
  simp only[usesD,decide_eq_true_eq,l12Count_eq]
  rw[←hu,us,getH_mem h1.nd hh]
def SnapBack (d : BDisk) (n : Bs) : Option BDisk := match atS d.snaps n with
 | none=>none
 | some i=>if DiskValid d then(l12Keep d.store (((d.snaps[i]?).map (·.tree)).getD [])).map (fun s=>⟨l12Free s d.tree,((d.snaps[i]?).map (·.tree)).getD [],d.snaps⟩) else none
def DiskWrite (d:BDisk)(p:Bs)(b:List Int):Option BDisk:=if DiskValid d&&FileValid b then(l11Write ⟨d.store,d.tree⟩ p b).map (fun v=>⟨v.store,v.tree,d.snaps⟩) else none
theorem at_some {l:List BSnap}{n:Bs}{i:Nat}(h:atS l n=some i):∃s,l[i]? = some s∧s.name=n∧i<l.length∧∀j s',j<i→l[j]? = some s'→s'.name≠n:=by
 obtain⟨h1,h2,h3⟩:=List.findIdx?_eq_some_iff_getElem.1 h
 refine⟨l[i],by simp[h1],by simpa using h2,h1,fun j s' hj hs e=>?_⟩
 have:=h3 j hj
 obtain⟨hj2,hs2⟩:=List.getElem?_eq_some_iff.1 hs
 rw[hs2]at this
 simp[e]at this
section
variable {d d1:BDisk} {n:Bs}
theorem take_get (h:SnapTake d n=some d1):DiskValid d=true∧l1Word n=true∧atS d.snaps n=none∧d.snaps.length<6∧∃s,l12Keep d.store d.tree=some s∧d1=⟨s,d.tree,d.snaps++[⟨n,d.tree⟩]⟩:=by
 unfold SnapTake at h
 split at h
 ·rename_i hc
  simp only[Bool.and_eq_true,decide_eq_true_eq]at hc
  obtain⟨⟨⟨c1,c2⟩,c3⟩,c4⟩:=hc
  obtain⟨s,h1,rfl⟩:=Option.map_eq_some_iff.1 h
  have:=(dd_iff.1 c1).1.1
  exact⟨c1,c2,by simpa using c3,by omega,s,h1,rfl⟩
 ·cases h
theorem back_get (h:SnapBack d n=some d1):DiskValid d=true∧∃i s st,atS d.snaps n=some i∧d.snaps[i]? = some s∧s.name=n∧l12Keep d.store s.tree=some st∧d1=⟨l12Free st d.tree,s.tree,d.snaps⟩:=by
 unfold SnapBack at h
 split at h
 ·cases h
 ·rename_i i e
  split at h
  ·rename_i hc
   obtain⟨s,h1,h2,_⟩:=at_some e
   rw[h1]at h
   obtain⟨st,h3,h4⟩:=Option.map_eq_some_iff.1 h
   exact⟨hc,i,s,st,e,h1,h2,h3,h4.symm⟩
  ·cases h
theorem snap_in {i:Nat}{s:BSnap}(h:d.snaps[i]? = some s):s.tree ∈ trees d:=List.mem_cons.2 (.inr (List.mem_map.2 ⟨s,List.mem_of_getElem? h,rfl⟩))
theorem DHol.le {L:List BHeld}{ts:List (List BItem)}(h:DHol L ts)(hl:ts.length≤7)(a:Int):us L a≤336:=by
 have:=h.use a
 have:=cntD_le h.vt a
 omega
theorem keep_hol {L L':List BHeld}{ts:List (List BItem)}(h:DHol L ts){t:List BItem}(ht:t ∈ ts)(hk:l12Keep L t=some L'):DHol L' (t::ts)∧∀a,us L' a=us L a+(cntL t a:Int)∧by_ L' a=by_ L a:=by
 obtain⟨k1,k2⟩:=keepTs t h.vh hk
 have hst:∀a,0<us L a→0<us L' a∧by_ L' a=by_ L a:=fun a ha=>⟨by have:=(k2 a).1;omega,(k2 a).2⟩
 have hi:∀u,u ∈ ts→∀x,x ∈ u→l4Ids L' x.ids=true:=fun u hu x hx=>ids_stay h.vh k1 hst (h.ids u hu x hx)
 refine⟨⟨k1,fun u hu=>?_,fun u hu=>?_,fun a=>?_⟩,k2⟩
 ·rcases List.mem_cons.1 hu with rfl|hu
  ·exact h.vt _ ht
  ·exact h.vt _ hu
 ·rcases List.mem_cons.1 hu with rfl|hu
  ·exact hi _ ht
  ·exact hi _ hu
 ·rw[(k2 a).1,h.use a,cntD_cons]
  omega
theorem free_hol {L:List BHeld}{ts:List (List BItem)}{t:List BItem}(h:DHol L (t::ts)) :
  ∃L',freeTs L t=some L'∧l12Free L t=L'∧DHol L' ts∧∀a,us L' a=us L a-(cntL t a:Int)∧(0<us L' a→by_ L' a=by_ L a):=by
 obtain ⟨L', g1, g2, g3, g4⟩ := frees t h.vh (h.ids t (by simp)) (fun a => by
  have:=h.use a
  rw[cntD_cons]at this
  omega)
 have hu : ∀ a, us L' a = (cntD ts a : Int) := fun a => by
  have:=h.use a
  have:=(g4 a).1
  rw[cntD_cons]at *
  omega
 refine⟨L',g1,g2,⟨g3,fun u hu=>h.vt u (by simp[hu]),fun u hu2 x hx=>ids_keep h.vh g3 (fun a ha=>?_) (h.ids u (by simp[hu2]) x hx),hu⟩,g4⟩
 have h1:0<cnt1 a x.ids:=cnt1_pos.2 ha
 have h2:=cntL_mem hx a
 have h3:=cntD_mem hu2 a
 have h4:=hu a
 have h5:0<us L' a:=by omega
 exact⟨h5,(g4 a).2 h5⟩
theorem DHol.perm {L:List BHeld}{ts us':List (List BItem)}(h:DHol L ts)(hp:ts.Perm us'):DHol L us' :=
 ⟨h.vh,fun t ht=>h.vt t (hp.mem_iff.2 ht),fun t ht=>h.ids t (hp.mem_iff.2 ht),fun a=>by rw[h.use a];exact congrArg _ ((hp.map _).sum_nat)⟩
theorem take_valid (h:SnapTake d n=some d1):DiskValid d1=true:=by
 obtain⟨hd,hw,hn,hl,s,hk,rfl⟩:=take_get h
 obtain⟨hN,hH⟩:=dd_iff.1 hd
 obtain⟨g1,_⟩:=keep_hol hH (t:=d.tree) (by simp[trees]) hk
 refine dd_iff.2 ⟨⟨by simp;omega,fun k s' hs=>?_⟩,g1.perm ?_⟩
 ·simp only[l12At,atS,List.findIdx?_append]
  by_cases hkl:k<d.snaps.length
  ·rw[List.getElem?_append_left hkl]at hs
   obtain⟨h1,h2⟩:=hN.2 k s' hs
   refine⟨h1,?_⟩
   simp only[l12At,atS]at h2
   cases e:d.snaps.findIdx? (fun x=>decide (x.name=s'.name)) with
   | none =>
    rw[e]at h2
    simp[optI]at h2
    omega
   | some i=>rw[e]at h2;simpa using h2
  ·rw[List.getElem?_append_right (by omega)]at hs
   have hk0:k=d.snaps.length:=by
    have:=(List.getElem?_eq_some_iff.1 hs).1
    simp at this
    omega
   subst hk0
   simp at hs
   subst hs
   refine⟨hw,?_⟩
   have:d.snaps.findIdx? (fun x=>decide (x.name=n))=none:=hn
   simp[this,optI]
 ·simp only[trees,List.map_append,List.map_cons,List.map_nil]
  refine List.Perm.trans (List.Perm.swap _ _ _) (List.Perm.cons _ ?_)
  exact(List.perm_append_comm (l₁:=[d.tree])).trans (List.Perm.refl _)
end
end Sp
namespace Sp
open Fw
theorem l12Free_succ {l:List BItem}{k:Nat}{x:BItem}{s:List BHeld}(h:l[k]? = some x):l12Free s (l.take (k+1))=(FileFree (l12Free s (l.take k)) x.ids).getD []:=by
 unfold l12Free
 rw[take_succ' h,List.foldl_append]
 rfl
theorem free_len (s:List BHeld)(ids:List Int):((FileFree s ids).getD []).length≤s.length:=by
 cases e:FileFree s ids with
 | none=>simp
 | some r =>
  unfold FileFree at e
  split at e
  ·exact foldB_inv (P:=fun r:List BHeld=>r.length≤s.length) (f:=StoreDrop) (fun a b a' h1 h2=>Nat.le_trans (drop_len h2) h1) _ _ _ (Nat.le_refl _) e
  ·cases e
end Sp
namespace Sp
open Fw Nd
theorem names_nodup {l:List BSnap}:(∀(k:Nat) (s:BSnap),l[k]? = some s→(k:Int)≤l12At l s.name)↔(l.map (·.name)).Nodup:=by
 constructor
 ·intro h
  rw[List.nodup_iff_pairwise_ne,List.pairwise_map,List.pairwise_iff_getElem]
  intro i j hi hj hij e
  have h1:=h j l[j] (by simp)
  simp only[l12At]at h1
  cases e2:atS l l[j].name with
  | none=>rw[e2]at h1;simp[optI]at h1;omega
  | some m =>
   rw[e2]at h1
   obtain⟨_,_,_,_,h4⟩:=at_some e2
   simp only[optI]at h1
   exact h4 i l[i] (by omega) (by simp) e
 ·intro h k s hs
  obtain⟨hk,hk2⟩:=List.getElem?_eq_some_iff.1 hs
  simp only[l12At]
  cases e2:atS l s.name with
  | none =>
   have:=List.findIdx?_eq_none_iff.1 e2 s (List.mem_of_getElem? hs)
   simp at this
  | some m =>
   obtain⟨s',h1,h2,h3,_⟩:=at_some e2
   simp only[optI]
   by_cases hm:m<k
   ·rw[List.nodup_iff_pairwise_ne,List.pairwise_map,List.pairwise_iff_getElem]at h
    obtain⟨_,h1'⟩:=List.getElem?_eq_some_iff.1 h1
    exact absurd (by rw[h1',hk2,h2]) (h m k h3 hk hm)
   ·omega
theorem namesOK_iff {l:List BSnap}:NamesOK l↔l.length≤6∧(∀s,s ∈ l→l1Word s.name=true)∧(l.map (·.name)).Nodup:=by
 rw[←names_nodup]
 constructor
 ·rintro⟨h1,h2⟩
  refine⟨h1,fun s hs=>?_,fun k s hs=>(h2 k s hs).2⟩
  obtain⟨k,hk⟩:=List.getElem?_of_mem hs
  exact(h2 k s hk).1
 ·rintro⟨h1,h2,h3⟩
  exact⟨h1,fun k s hs=>⟨h2 s (List.mem_of_getElem? hs),h3 k s hs⟩⟩
theorem NamesOK.sub {l m:List BSnap}(h:NamesOK l)(hs:m.Sublist l):NamesOK m:=by
 obtain⟨h1,h2,h3⟩:=namesOK_iff.1 h
 exact namesOK_iff.2 ⟨Nat.le_trans hs.length_le h1,fun s hm=>h2 s (hs.subset hm),(hs.map _).nodup h3⟩
section
variable {d d1:BDisk} {n:Bs} {p:Bs} {b:List Int}
theorem split_at {α:Type}{l:List α}{i:Nat}{x:α}(h:l[i]? = some x):l=l.take i++x::l.drop (i+1):=by
 have:=List.take_append_drop i l
 rw[drop_at h]at this
 exact this.symm
theorem back_hol (hd:DiskValid d=true){i:Nat}{s:BSnap}{st:List BHeld}(hs:d.snaps[i]? = some s)(hk:l12Keep d.store s.tree=some st) :
  ∃L',freeTs st d.tree=some L'∧l12Free st d.tree=L'∧DHol L' (s.tree::d.snaps.map (·.tree))∧∀a,us L' a=us d.store a+(cntL s.tree a:Int)-(cntL d.tree a:Int)∧(0<us L' a→by_ L' a=by_ d.store a):=by
 obtain⟨hN,hH⟩:=dd_iff.1 hd
 obtain⟨g1,g2⟩:=keep_hol hH (snap_in hs) hk
 obtain⟨L',k1,k2,k3,k4⟩:=free_hol (t:=d.tree) (ts:=s.tree::d.snaps.map (·.tree)) (g1.perm (List.Perm.swap _ _ _))
 exact⟨L',k1,k2,k3,fun a=>⟨by have:=(g2 a).1;have:=(k4 a).1;omega,fun ha=>((k4 a).2 ha).trans (g2 a).2⟩⟩
theorem back_valid (h:SnapBack d n=some d1):DiskValid d1=true:=by
 obtain⟨hd,i,s,st,hi,hs,hsn,hk,rfl⟩:=back_get h
 obtain⟨L',_,k2,k3,_⟩:=back_hol hd hs hk
 refine dd_iff.2 ⟨(dd_iff.1 hd).1,?_⟩
 show DHol (l12Free st d.tree) _
 rw[k2]
 exact k3
theorem dwrite_get (h:DiskWrite d p b=some d1):DiskValid d=true∧FileValid b=true∧∃v,l11Write ⟨d.store,d.tree⟩ p b=some v∧d1=⟨v.store,v.tree,d.snaps⟩:=by
 unfold DiskWrite at h
 split at h
 ·rename_i hc
  simp only[Bool.and_eq_true]at hc
  obtain⟨v,h1,h2⟩:=Option.map_eq_some_iff.1 h
  exact⟨hc.1,hc.2,v,h1,h2.symm⟩
 ·cases h
theorem DHol.hol {L:List BHeld}{t:List BItem}{ts:List (List BItem)}(h:DHol L (t::ts)):Hol L t :=
 ⟨h.vh,h.vt t (by simp),h.ids t (by simp),fun a=>by have:=h.use a;rw[cntD_cons]at this;omega⟩
theorem dwrite_valid (h:DiskWrite d p b=some d1):DiskValid d1=true:=by
 obtain⟨hd,hb,v,hv,rfl⟩:=dwrite_get h
 obtain⟨hN,hH⟩:=dd_iff.1 hd
 refine dd_iff.2 ⟨hN,?_⟩
 show DHol v.store (v.tree::d.snaps.map (·.tree))
 unfold l11Write at hv
 split at hv
 ·cases hv
 ·rename_i r hst
  obtain⟨s,ids⟩:=r
  split at hv
  ·cases hv
  ·rename_i t ht
   obtain⟨s',_,_,g1,g2,g3⟩:=write_ok (DHol.hol (ts:=d.snaps.map (·.tree)) hH) hst ht
   obtain⟨_,_,hsu,_⟩:=store_ok hH.vh hst
   have hv':l11Write ⟨d.store,d.tree⟩ p b=some v:=by
    simp only[l11Write,hst,ht]
    exact hv
   rw[g1]at hv'
   cases hv'
   have hu : ∀ a, us s' a = (cntD (t :: d.snaps.map (·.tree)) a : Int) := fun a => by
    have h1:=hH.use a
    have h2:us s' a=us d.store a+(cntL t a:Int)-(cntL d.tree a:Int):=(g3 a).1
    simp only[trees,cntD_cons]at h1
    rw[cntD_cons]
    omega
   refine⟨g2.vh,fun u hu2=>?_,fun u hu2 x hx=>?_,hu⟩
   ·rcases List.mem_cons.1 hu2 with rfl|hu2
    ·exact g2.vt
    ·exact hH.vt u (List.mem_cons.2 (.inr hu2))
   ·rcases List.mem_cons.1 hu2 with rfl|hu2
    ·exact g2.ids x hx
    ·refine ids_keep hH.vh g2.vh (fun a ha=>?_) (hH.ids u (List.mem_cons.2 (.inr hu2)) x hx)
     have h1:0<cnt1 a x.ids:=cnt1_pos.2 ha
     have h2:=cntL_mem hx a
     have h3:=cntD_mem hu2 a
     have h4:=hu a
     rw[cntD_cons]at h4
     have h5:0<us s' a:=by omega
     have h6:=hH.use a
     simp only[trees,cntD_cons]at h6
     exact⟨h5,((g3 a).2 h5).trans ((hsu a).2 (by omega))⟩
end
end Sp
namespace Fw
open Go
section ops
variable {P:Program} {n:Nat} {ops:Array Oper} {Q:Post} {rest:List Oper} {L:Slots} {ds:List Deferred} {w w0:World} {G0:PH} {S:List Nat} {G:PH} {B:List Res}
variable {ty:TypeId} {ps:String} {af:Array Edge}
end ops
theorem All2.del {α β:Type}{R:α→β→Prop}{l:List α}{m:List β}(h:All2 R l m):∀(i:Nat),All2 R (l.take i++l.drop (i+1)) (m.take i++m.drop (i+1)):=by
 induction h with
 | nil=>intro i;simp;exact .nil
 | cons h t ih =>
  intro i
  cases i with
  | zero=>simpa using t
  | succ i=>simpa using .cons h (ih i)
end Fw
namespace Fw
open Sp
end Fw
namespace Sp
open Fw
section
variable {d d1:BDisk} {n:Bs} {p:Bs} {b:List Int}
theorem back_isv (h:SnapBack d n=some d1):DiskValid d=true:=(back_get h).1
theorem back_eq (hd : DiskValid d = true) {i : Nat} {s : BSnap} (hi : atS d.snaps n = some i) (hs : d.snaps[i]? = some s) : SnapBack d n = (l12Keep d.store s.tree).map (fun st => ⟨l12Free st d.tree, s.tree, d.snaps⟩) := by
 unfold SnapBack
 rw[hi]
 simp only[hd,if_true,hs,Option.map_some,Option.getD_some]
theorem back_noat (h:optI (atS d.snaps n)<0):SnapBack d n=none:=by
 cases e:atS d.snaps n with
 | none=>unfold SnapBack;rw[e]
 | some i=>rw[e]at h;simp only[optI]at h;omega
theorem back_nov (h:DiskValid d=false):SnapBack d n=none:=by
 cases e:SnapBack d n with
 | none=>rfl
 | some q=>rw[back_isv e]at h;cases h
theorem dk_lim {o:Option BDisk}(h:∀d1,o=some d1→DiskValid d1=true):((o.map (·.snaps)).getD []).length≤6:=by
 cases o with
 | none=>simp
 | some d1=>exact(dv_parts.1 (h d1 rfl)).2.2.1
end
theorem l12Free_len:∀(l:List BItem) (s:List BHeld),(l12Free s l).length≤s.length
 | [],s=>by simp[l12Free]
 | x :: r, s => by
  have h1:=free_len s x.ids
  have h2:=l12Free_len r ((FileFree s x.ids).getD [])
  have:l12Free s (x::r)=l12Free ((FileFree s x.ids).getD []) r:=by simp[l12Free]
  rw[this]
  omega
theorem freeOld_len (s:List BHeld)(l:List BItem):(freeOld s l).length≤s.length:=by
 cases l with
 | nil=>exact Nat.le_refl _
 | cons x r=>exact free_len s x.ids
theorem l11Write_slen (v:BVol)(p:Bs)(b:List Int):(((l11Write v p b).map (·.store)).getD []).length≤16:=by
 have h:=fileStore_len v.store b
 unfold l11Write
 cases e:FileStore v.store b with
 | none=>simp
 | some r =>
  rw[e]at h
  simp only[Option.map_some,Option.getD_some]at h
  have h2:=freeOld_len r.1 (l11Ids v.tree p)
  cases e2:TreePut v.tree ⟨p,false,r.2⟩ with
  | none=>simp[e2]
  | some t=>simp[e2];omega
theorem take_tree {d d1:BDisk}{n:Bs}(h:SnapTake d n=some d1):d1.tree=d.tree:=by
 obtain⟨_,_,_,_,s,_,rfl⟩:=take_get h
 rfl
theorem take_snaps {d d1:BDisk}{n:Bs}(h:SnapTake d n=some d1):d1.snaps=d.snaps++[⟨n,d.tree⟩]:=by
 obtain⟨_,_,_,_,s,_,rfl⟩:=take_get h
 rfl
end Sp
namespace Fw
open Go
end Fw
namespace Fw
open Go
end Fw
namespace Sp
open Fw Nd
end Sp
namespace Sp
open Fw Nd
end Sp
namespace Fw
open Go
section
variable {P:Program} {n:Nat} {Q:Post} {L:Slots} {ds:List Deferred} {w:World}
def JP (n:Nat)(ds:List Deferred)(Lf:Slots)(J:Slots→World→Prop):Post:=fun e a w=>e= .normal∧∃M,FrL n (M++Lf) ds a∧J M w
theorem W_join {x y:Code}(Lf:Slots)(J:Slots→World→Prop)(hf:Sub Lf L)(first:W P n (JP n ds Lf J) x L ds w)(second:∀M w,J M w→W P n Q y (M++Lf) ds w):W P n Q (.seq x y) L ds w :=
 W_seq (fun a ha => wp_mono (first a ha) (fun e a' w' hq => by
  obtain⟨he,M,hF,hJ⟩:=hq
  subst he
  exact second M w' hJ a' hF))
theorem N_J {Lf : Slots} {J : Slots → World → Prop} {M : Slots} (hJ : J M w) (hM : Sub M L := by (repeat (first | exact Sub.nil | refine Sub.cons rfl ?_))) (hf : Sub Lf L := by (repeat (first | exact Sub.nil | refine Sub.cons rfl ?_))) : N n (JP n ds Lf J) .normal L ds w :=
 fun _ ha=>⟨rfl,M,ha.sub (hM.app hf),hJ⟩
end
def selB {α:Type}(B:List α):List Nat→Option (List α)
 | []=>some []
 | k :: ks => match nth B k, selB B ks with
  | some r,some rs=>some (r::rs)
  | _,_=>none
theorem selB_cons {α:Type}{B:List α}{k:Nat}{ks:List Nat}{Bs:List α}(h:selB B (k::ks)=some Bs):∃r rs,nth B k=some r∧selB B ks=some rs∧Bs=r::rs:=by
 simp only[selB]at h
 split at h
 ·next r rs h1 h2=>exact⟨r,rs,h1,h2,(Option.some.inj h).symm⟩
 ·cases h
theorem selB_mem {α:Type}{B:List α}:∀{ks:List Nat} {Bs:List α},selB B ks=some Bs→∀r,r ∈ Bs→∃k,k ∈ ks∧nth B k=some r
 | [], Bs, h, r, hr => by
  simp only[selB,Option.some.injEq]at h
  subst h
  simp at hr
 | k :: ks, Bs, h, r, hr => by
  obtain⟨q,rs,h1,h2,rfl⟩:=selB_cons h
  rcases List.mem_cons.1 hr with rfl|hr
  ·exact⟨k,by simp,h1⟩
  ·obtain⟨j,hj,hn⟩:=selB_mem h2 r hr
   exact⟨j,by simp[hj],hn⟩
theorem fps_apart:∀{B:List Res} {j k:Nat} {q r:Res} {b:Nat},(fps B).Nodup→nth B j=some q→nth B k=some r→j≠k→b ∈ q.fp→b ∈ r.fp→False
 | [],j,_,q,_,_,_,h,_,_,_,_=>by simp[nth]at h
 | x::t,0,0,_,_,_,_,_,_,h,_,_=>h rfl
 | x :: t, 0, k + 1, q, r, b, hn, h1, h2, _, hq, hr => by
  simp only[nth,Option.some.injEq]at h1 h2
  subst h1
  have:=List.nodup_append.1 (show(x.fp++fps t).Nodup from hn)
  exact this.2.2 b hq b (List.mem_flatMap.2 ⟨r,nth_mem h2,hr⟩) rfl
 | x :: t, j + 1, 0, q, r, b, hn, h1, h2, _, hq, hr => by
  simp only[nth,Option.some.injEq]at h1 h2
  subst h2
  have:=List.nodup_append.1 (show(x.fp++fps t).Nodup from hn)
  exact this.2.2 b hr b (List.mem_flatMap.2 ⟨q,nth_mem h1,hq⟩) rfl
 | x :: t, j + 1, k + 1, q, r, b, hn, h1, h2, hne, hq, hr => by
  simp only[nth]at h1 h2
  have:=List.nodup_append.1 (show(x.fp++fps t).Nodup from hn)
  exact fps_apart this.2.1 h1 h2 (by omega) hq hr
theorem fp_nodup:∀{B:List Res} {k:Nat} {r:Res},(fps B).Nodup→nth B k=some r→r.fp.Nodup
 | [],_,_,_,h=>by simp[nth]at h
 | x :: t, 0, r, hn, h => by
  simp only[nth,Option.some.injEq]at h
  subst h
  exact(List.nodup_append.1 (show(x.fp++fps t).Nodup from hn)).1
 | x :: t, k + 1, r, hn, h => by
  simp only[nth]at h
  exact fp_nodup (List.nodup_append.1 (show(x.fp++fps t).Nodup from hn)).2.1 h
theorem selB_nodup {B:List Res}(hn:(fps B).Nodup):∀{ks:List Nat} {Bs:List Res},selB B ks=some Bs→ks.Nodup→(fps Bs).Nodup
 | [], Bs, h, _ => by
  simp only[selB,Option.some.injEq]at h
  subst h
  simp[fps]
 | k :: ks, Bs, h, hk => by
  obtain⟨r,rs,h1,h2,rfl⟩:=selB_cons h
  have hk':=List.nodup_cons.1 hk
  refine List.nodup_append.2 ⟨fp_nodup hn h1,selB_nodup hn h2 hk'.2,fun a ha b hb e=>?_⟩
  subst e
  obtain⟨q,hq,hb⟩:=List.mem_flatMap.1 hb
  obtain⟨j,hj,hjq⟩:=selB_mem h2 q hq
  exact fps_apart hn h1 hjq (fun e=>hk'.1 (e▸hj)) ha hb
theorem Hp.sel {w0 : World} {P0 : PH} {S : List Nat} {w : World} {P : PH} {B : List Res} (H : Hp w0 P0 S w P B) (ks : List Nat) {Bs : List Res} (h : selB B ks = some Bs) (hk : ks.Nodup := by decide) : Hp w0 P0 S w P Bs :=
 ⟨H.os,H.tape,H.output,H.size,H.ext,H.sub,H.le,H.old,fun r hr=>let ⟨_,_,hn⟩:=selB_mem h r hr;H.own r (nth_mem hn),selB_nodup H.nd h hk⟩
end Fw
namespace Sp
open Fw Nd
end Sp
namespace Sp
open Fw Nd
def ids (L:List BHeld):List Int:=L.map (·.id)
end Sp
namespace Fw
structure BOp where
 kind:Int
 path:Bs
 bytes:List Int
end Fw
namespace Sp
open Fw Nd
def opOk (o:BOp):Bool :=
 if o.kind=1∨o.kind=3 then PathValid o.path&&decide (o.bytes=[])
 else if o.kind=2 then PathValid o.path&&FileValid o.bytes
 else if o.kind=4 then l1Word o.path&&decide (o.bytes=[])
 else false
def withVol (d:BDisk)(u:BVol):BDisk:=⟨u.store,u.tree,d.snaps⟩
def DiskDir (d:BDisk)(p:Bs):Option BDisk:=if DiskValid d then(l11Dir d.store d.tree p).map (withVol d) else none
def DiskDrop (d:BDisk)(p:Bs):Option BDisk:=if DiskValid d then(l11Drop d.store d.tree p).map (withVol d) else none
def OpRun (d:BDisk)(o:BOp):Option BDisk :=
 if opOk o then
  if o.kind=1 then DiskDir d o.path
  else if o.kind=2 then DiskWrite d o.path o.bytes
  else if o.kind=3 then DiskDrop d o.path
  else SnapTake d o.path
 else none
section
variable {d d1:BDisk} {p:Bs} {o:BOp}
end
def jgo:BDisk→List BOp→BDisk×Nat
 | d,[]=>(d,0)
 | d, o :: r => match OpRun d o with
  | none=>(d,0)
  | some d1=>((jgo d1 r).1,(jgo d1 r).2+1)
def l13Same (x y:BItem):Bool:=decide (x.path=y.path)&&decide (x.dir=y.dir)&&l2Same x.ids y.ids
theorem same_iff {x y:BItem}:l13Same x y=true↔x=y:=by
 obtain⟨a,b,c⟩:=x
 obtain⟨a',b',c'⟩:=y
 simp[l13Same,l2Same,and_assoc]
end Sp
namespace Fw
structure BPart where
 kind:Int
 path:Bs
 dir:Bool
 bytes:List Int
end Fw
namespace Sp
open Fw Nd
section
variable {d d1:BDisk} {x:BPart}
end
section
variable {d d1:BDisk} {x:BPart}
end
def seen (L:List BHeld)(x:BItem):Bs×Bool×List Int:=(x.path,x.dir,load L x.ids)
section
variable {d d1:BDisk} {f t:Bs}
end
end Sp
namespace Fw
structure BQuota where
 dir:Bs
 most:Int
end Fw
namespace Sp
open Fw Nd
section
variable {d x:BDisk} {l:List BQuota} {p:Bs} {n:Int} {b:List Int}
end
section
variable {L:List BHeld} {k:Nat} {h:BHeld} (e:L[k]? = some h)
include e
end
end Sp
namespace Fw
open Go
inductive RunSeg (T:TypeId) (G:PH):Value→List (Int×Int)→Value→Prop
 | nil (v:Value):RunSeg T G v [] v
 | cons {b:Nat} {m x:Int} {v e:Value} {r:List (Int×Int)} (h:G b=some (cl [.int .i64 m,.int .i64 x,v] T)) (hm:inI m) (hx:inI x) (hr:RunSeg T G v r e):RunSeg T G (.pointer (some ⟨b,0,none⟩)) ((m,x)::r) e
theorem RunSeg.up {T:TypeId}{G G':PH}{v e:Value}{r:List (Int×Int)}(h:RunSeg T G v r e)(hle:PLe G G'):RunSeg T G' v r e:=by
 induction h with
 | nil v=>exact .nil v
 | cons h hm hx _ ih=>exact .cons (hle _ _ h) hm hx ih
theorem RunSeg.snoc {T:TypeId}{G:PH}{v:Value}{r:List (Int×Int)}{b:Nat}{m x:Int}{e:Value}(h:RunSeg T G v r (.pointer (some ⟨b,0,none⟩)))(hb:G b=some (cl [.int .i64 m,.int .i64 x,e] T))(hm:inI m)(hx:inI x):RunSeg T G v (r++[(m,x)]) e:=by
 generalize hp:Value.pointer (some ⟨b,0,none⟩)=p at h
 induction h with
 | nil v=>subst hp;exact .cons hb hm hx (.nil e)
 | cons h hm' hx' _ ih=>exact .cons h hm' hx' (ih hp)
def RunP (T:TypeId)(G:PH)(v:Value)(r:List (Int×Int)):Prop:=RunSeg T G v r (.pointer none)
theorem RunP.up {T:TypeId}{G G':PH}{v:Value}{r:List (Int×Int)}(h:RunP T G v r)(hle:PLe G G'):RunP T G' v r:=RunSeg.up h hle
theorem RunP.nil {T:TypeId}{G:PH}:RunP T G (.pointer none) []:=RunSeg.nil _
theorem RunP.open {T:TypeId}{G:PH}{v:Value}{r:List (Int×Int)}(h:RunP T G v r):(v= .pointer none∧r=[])∨∃b m x v' r',v= .pointer (some ⟨b,0,none⟩)∧r=(m,x)::r'∧G b=some (cl [.int .i64 m,.int .i64 x,v'] T)∧inI m∧inI x∧RunP T G v' r':=by
 unfold RunP at h
 cases h with
 | nil=>exact .inl ⟨rfl,rfl⟩
 | cons h hm hx hr=>exact .inr ⟨_,_,_,_,_,rfl,rfl,h,hm,hx,hr⟩
theorem RunP.row {T:TypeId}{G:PH}{b:Nat}{m x:Int}{v:Value}(h:G b=some (cl [.int .i64 m,.int .i64 x,v] T)):PRow G b 0 [.int .i64 m,.int .i64 x,v]:=by
 intro j u hu
 exact⟨_,_,_,h,by simpa using hu⟩
section
variable {P:Program} {n:Nat} {ops:Array Oper} {Q:Post} {rest:List Oper} {L:Slots} {ds:List Deferred} {w w0:World} {G0:PH} {S:List Nat} {G:PH} {B:List Res} {ty:TypeId} {ps:String} {af:Array Edge}
theorem Hp.keepB (H:Hp w0 G0 [] w G B){k b:Nat}{o:Obj}(hk:nth B k=some (blk b o)):∃G',Hp w0 G0 [] w G' (delN B k)∧PLe G G'∧G' b=some o:=by
 obtain⟨H',hp⟩:=H.keep hk (fun _ _ h=>by simp at h)
 exact⟨_,H',PPlus.le _ _ _,hp⟩
theorem RunP.shape {T:TypeId}{G:PH}{v:Value}{r:List (Int×Int)}(h:RunP T G v r):∃p,v= .pointer p:=by
 rcases h.open with ⟨rfl,_⟩|⟨b,m,x,v',r',rfl,_⟩<;>exact⟨_,rfl⟩
theorem RunP.more {T:TypeId}{G:PH}{p:Option Addr}{r:List (Int×Int)}(h:RunP T G (.pointer p) r)(hp:p.isNone=false):∃b m x p' r',p=some ⟨b,0,none⟩∧r=(m,x)::r'∧PRow G b 0 [.int .i64 m,.int .i64 x,.pointer p']∧inI m∧inI x∧RunP T G (.pointer p') r':=by
 rcases h.open with ⟨h1,_⟩|⟨b,m,x,v',r',h1,h2,h3,h4,h5,h6⟩
 ·cases h1;simp at hp
 ·obtain⟨p',rfl⟩:=h6.shape
  cases h1
  exact⟨b,m,x,p',r',rfl,h2,RunP.row h3,h4,h5,h6⟩
theorem RunP.over {T:TypeId}{G:PH}{p:Option Addr}{r:List (Int×Int)}(h:RunP T G (.pointer p) r)(hp:p.isNone=true):r=[]:=by
 rcases h.open with ⟨_,h2⟩|⟨b,m,x,v',r',h1,_⟩
 ·exact h2
 ·cases h1;simp at hp
end
section
variable {P:Program} {n:Nat} {ops:Array Oper} {Q:Post} {rest:List Oper} {L:Slots} {ds:List Deferred} {w:World} {ty:TypeId} {ps:String} {af:Array Edge}
end
theorem nrm:(∀(p:Prop) [Decidable p],(decide p=true)=p)∧(∀(p:Prop) [Decidable p],(decide p=false)↔¬p)∧(∀{b:Bool},((!b)=true)=(b=false))∧(∀{b:Bool},((!b)=false)=(b=true)) ∧
  (∀{a b:Bool},((!a)=b)↔(a= !b))∧((!true)=false)∧((!false)=true)∧(∀{a b:Int},(¬a<b)↔b≤a)∧(∀{a b:Int},(¬a≤b)↔b<a)∧(∀(x y:Bool),((x&&y)=true)=(x=true∧y=true))∧(∀(x y:Bool),((x||y)=true)=(x=true∨y=true)) ∧
  (∀(x y:Bool),((x&&y)=false)=(x=false∨y=false))∧(∀(x y:Bool),((x||y)=false)=(x=false∧y=false))∧(∀{α:Type} [BEq α] [LawfulBEq α] {a b:α},((a==b)=true)↔a=b)∧(∀{α:Type} [BEq α] [LawfulBEq α] {x y:α},((x==y)=false)↔x≠y)∧(∀(b:Bool),decide (b=true)=b):=by
 refine⟨?_,?_,?_,?_,?_,?_,?_,?_,?_,?_,?_,?_,?_,?_,?_,?_⟩<;>intros<;>first|rfl|(simp only[decide_eq_true_eq,decide_eq_false_iff_not,Bool.not_eq_true',Bool.not_eq_false',Bool.not_eq_eq_eq_not,Bool.not_true,Bool.not_false,Int.not_lt,Int.not_le,Bool.and_eq_true,Bool.or_eq_true,Bool.and_eq_false_iff,Bool.or_eq_false_iff,beq_iff_eq,beq_eq_false_iff_ne,Bool.decide_eq_true])|simp
section
variable {P:Program} {n:Nat} {Q:Post} {L:Slots} {ds:List Deferred} {w:World} {ops:Array Oper} {y c:Code} {id:Nat} {l:List Oper}
theorem q1 (h:R P n l.toArray (K P y Q) l L ds w):R P n ops (K P (.seq (.region id l.toArray false) y) Q) [] L ds w:=R_nil (N_K (W_seq (W_region h)))
theorem q2 (h:R P n l.toArray (K P y Q) l L ds w):W P n Q (.seq (.region id l.toArray false) y) L ds w:=W_seq (W_region h)
theorem q3 (h:W P n Q c L ds w):R P n ops (K P c Q) [] L ds w:=R_nil (N_K h)
variable {d:Nat} {op:Op} {ty:TypeId} {ps:String} {af:Array Edge} {S:World→Prop} {f:Nat} {ls:Array Bool} {v:Value} {j:Nat} {b:Bool}
def rdy (l:List Oper)(ls:Array Bool)(i:Nat):Bool:=Region.noSelect l.toArray&&Region.free .any l.toArray ls i&&(Region.ready .any l.toArray ls).contains i
theorem RD_t (i:Nat)(hi:nth l i=some ⟨some d,op,ty,ps,af,none⟩)(hb:rdy l ls i=true)(hd:Nat.blt d n=true)(hv:∀w,S w→VAL P n L ds w ⟨some d,op,ty,ps,af,none⟩ v)
  (h:RD P n l Q S f (ls.setIfInBounds i true) ((d,v)::L) ds w):RD P n l Q S (f+1) ls L ds w:=by
 simp only[rdy,Bool.and_eq_true]at hb
 exact RD_take i hi hb.1.1 hb.1.2 hb.2 hd hv h
theorem RD_tg (i:Nat)(hi:nth l i=some ⟨some d,op,ty,ps,af,some (j,b)⟩)(hb:rdy l ls i=true)(hd:Nat.blt d n=true)(hy:∀a,FrL n L ds a→yielded l.toArray a.tmps j=some b)(hv:∀w,S w→VAL P n L ds w ⟨some d,op,ty,ps,af,none⟩ v)
  (h:RD P n l Q S f (ls.setIfInBounds i true) ((d,v)::L) ds w):RD P n l Q S (f+1) ls L ds w:=by
 simp only[rdy,Bool.and_eq_true]at hb
 exact RD_takeg i hi hb.1.1 hb.1.2 hb.2 hd hy hv h
end
theorem Z.{u}{α:Sort u}{a:α}:a=a:=rfl
theorem kR {p:Prop}(h:p:=by kernel_rfl):p:=h
theorem oM {p:Prop}(h:p:=by omega):p:=h
theorem oO {a b:Prop}(h:(a∧b):=by exact⟨by omega,by omega⟩):a∧b:=h
theorem aN {p:Prop}(h:p:=by first|assumption|rfl|(simp;done)|(simp;omega)|omega):p:=h
def odl (n d:Nat)(L:Slots)(x:Operand):Option Value:=cond (Nat.blt d n) (od L x) none
theorem odl_some {n d:Nat}{L:Slots}{x:Operand}{v:Value}(h:odl n d L x=some v):Nat.blt d n=true∧od L x=some v:=by
 unfold odl at h
 cases e:Nat.blt d n with
 | true=>rw[e]at h;exact⟨rfl,h⟩
 | false=>rw[e]at h;cases h
def passOk (n d : Nat) (l : List Oper) (L : Slots) (i : Nat) (c : Bool) : Bool := Nat.blt d n && match gs l i with
 | some t=>(match lk L t with |some (.bool b)=> !(b==c)|_=>false)
 | none=>false
def guardOk (l : List Oper) (L : Slots) (i : Nat) (c : Bool) : Bool := match gs l i with
 | some t=>(match lk L t with |some (.bool b)=>(b==c)|_=>false)
 | none=>false
section
variable {P:Program} {n:Nat} {Q:Post} {L:Slots} {ds:List Deferred} {w:World} {ops:Array Oper} {l rest:List Oper} {ty:TypeId} {ps:String} {af:Array Edge} {d:Nat} {x:Operand} {v:Value} {op:Op} {i:Nat} {b:Bool} {S:World→Prop} {f:Nat} {ls:Array Bool}
theorem mV (h:odl n d L x=some v)(next:R P n ops Q rest ((d,v)::L) ds w):R P n ops Q (⟨some d,.move x,ty,ps,af,none⟩::rest) L ds w:=o_move (odl_some h).1 (odl_some h).2 next
theorem aG (h:odl n d L x=some v)(next:R P n ops Q rest ((d,v)::L) ds w):R P n ops Q (⟨some d,.assign x,ty,ps,af,none⟩::rest) L ds w:=o_assign (odl_some h).1 (odl_some h).2 next
theorem rP (h:passOk n d l L i b=true)(next:R P n l.toArray Q rest ((d,undef)::L) ds w):R P n l.toArray Q (⟨some d,op,ty,ps,af,some (i,b)⟩::rest) L ds w:=by
 unfold passOk at h
 simp only[Bool.and_eq_true]at h
 obtain⟨h1,h2⟩:=h
 cases e:gs l i with
 | none=>rw[e]at h2;cases h2
 | some t =>
  rw[e]at h2
  simp only at h2
  split at h2
  ·rename_i c e2
   exact R_pass h1 (yl_ne e e2 (by simpa using h2)) next
  ·cases h2
theorem gR {dd:Option Nat}(h:guardOk l L i b=true)(next:R P n l.toArray Q (⟨dd,op,ty,ps,af,none⟩::rest) L ds w):R P n l.toArray Q (⟨dd,op,ty,ps,af,some (i,b)⟩::rest) L ds w:=by
 unfold guardOk at h
 cases e:gs l i with
 | none=>rw[e]at h;cases h
 | some t =>
  rw[e]at h
  simp only at h
  split at h
  ·rename_i c e2
   obtain rfl:c=b:=by simpa using h
   exact R_guard (yl e e2) next
  ·cases h
end
section
variable {n:Nat} {P:Program} {Q:Post} {L:Slots} {ds:List Deferred} {w:World} {fn:Func} {C:Ending→World→Prop}
theorem rt1 {t:Nat}{v:Value}(hr:fn.results= #[.tmp t])(h:lk L t=some v)(hR:C (.returned (tupleOf [v])) w):N n (bodyPost P fn C) .ret L [] w:=ret_gen (rs:=[.tmp t]) (vs:=[v]) hr ⟨h,trivial⟩ hR
theorem rt2 {t t2:Nat}{v v2:Value}(hr:fn.results= #[.tmp t,.tmp t2])(h:lk L t=some v)(h2:lk L t2=some v2)(hR:C (.returned (tupleOf [v,v2])) w):N n (bodyPost P fn C) .ret L [] w:=ret_gen (rs:=[.tmp t,.tmp t2]) (vs:=[v,v2]) hr ⟨h,h2,trivial⟩ hR
theorem W_lp {c:Code}(Lf:Slots)(J:Slots→World→Nat→Prop)(M0:Slots)(m0:Nat)(hf:Sub Lf L)(h0:J M0 w m0)
  (round:∀M w m,J M w m→W P n (LP n ds Lf J m Q) c (M++Lf) ds w) (hM:Sub M0 L:=by repeat (first|exact Sub.nil|refine Sub.cons rfl ?_)):W P n Q (.loop c) L ds w:=W_loop Lf J M0 m0 hf hM h0 round
theorem N_lp {Lf:Slots}{J:Slots→World→Nat→Prop}{m:Nat}{M:Slots}{m':Nat}(hJ:J M w m')(hm:m'<m)(hM:Sub M L:=by repeat (first|exact Sub.nil|refine Sub.cons rfl ?_))(hf:Sub Lf L:=by repeat (first|exact Sub.nil|refine Sub.cons rfl ?_)):N n (LP n ds Lf J m Q) .normal L ds w:=N_LP hJ hM hf hm
end
class UL (P:Program) (t:TypeId) (u:outParam TypeDesc):Prop where h:P.underlying t=some u
class SZ (P:Program) (t:TypeId) (n:outParam Nat):Prop where h:∀w,(Go.sizeOf t).run P w= .ok n w
class AG (P:Program) (t:TypeId) (b:outParam Bool):Prop where h:∀w,(isAgg t).run P w= .ok b w
class FA (P:Program) (t:TypeId) (i:Nat) (o:outParam Nat):Prop where h:∃fields f sz,(∀w,(underlying t).run P w= .ok (.struct fields) w)∧fields[i]? = some f∧(∀w,(Go.sizeOf f.type).run P w= .ok (sz+1) w)∧Nat.beq f.offset o=true
class CF (P:Program) (f:FuncId):Prop where h:∀args w,(callFunc f args).run P w= .ok (.enter f args) w
class ZV (P:Program) (t:TypeId) (l:outParam (List Value)):Prop where h:∃zv,(∀w,(zeroValue t).run P w= .ok zv w)∧lit (vc zv)=some l
def evCmp (b : BinOp) (k k' : IntKind) (p q : Int) : Option Value := if k = k' then (match b with
 | .lss=>some (.bool (decide (p<q)))
 | .leq=>some (.bool (decide (p≤q)))
 | .gtr=>some (.bool (decide (q<p)))
 | .geq=>some (.bool (decide (q≤p)))
 | .eql=>some (.bool (decide (p=q)))
 | .neq=>some (.bool (!decide (p=q)))
 | _=>none) else none
def evOp (L:Slots):Op→Option Value
 | .move x=>od L x
 | .assign x=>od L x
 | .nilCheck x => match od L x with
  | some (.pointer (some p))=>some (.pointer (some p))
  | _=>none
 | .extract x i => match od L x with
  | some (.tuple vs)=>vs[i]?
  | _=>none
 | .unOp .not _ x => match od L x with
  | some (.bool p)=>some (.bool (!p))
  | _=>none
 | .pick c x y => match od L c with
  | some (.bool true)=>od L x
  | some (.bool false)=>od L y
  | _=>none
 | .binOp b _ x y _ => match od L x, od L y with
  | some (.int k p),some (.int k' q)=>evCmp b k k' p q
  | _,_=>none
 | _=>none
section
variable {P:Program} {n:Nat} {L:Slots} {ds:List Deferred} {w:World} {ty:TypeId} {ps:String} {af:Array Edge}
theorem evOp_val {d:Nat}{op:Op}{v:Value}(h:evOp L op=some v):VAL P n L ds w ⟨some d,op,ty,ps,af,none⟩ v:=by
 unfold evOp at h
 split at h
 ·exact v_move h
 ·exact v_assign h
 ·split at h
  ·rename_i x p e;cases h;exact v_nilCheck e
  ·cases h
 ·split at h
  ·rename_i x i vs e;exact v_extract e h
  ·cases h
 ·split at h
  ·rename_i x p e;cases h;exact v_not e
  ·cases h
 ·split at h
  ·rename_i e;exact v_pick_t e h
  ·rename_i e;exact v_pick_f e h
  ·cases h
 ·split at h
  ·rename_i b _ x y _ _ _ k p k' q e1 e2
   unfold evCmp at h
   split at h
   ·rename_i hk;subst hk
    split at h<;>first|(cases h;first|exact v_lss e1 e2|exact v_leq e1 e2|exact v_gtr e1 e2|exact v_geq e1 e2|exact v_eql e1 e2|exact v_neq e1 e2)|cases h
   ·cases h
  ·cases h
 ·cases h
def evG (ol:List Oper)(L:Slots)(op:Op):Option (Nat×Bool)→Option Value
 | none=>evOp L op
 | some (j, b) => match gs ol j with
  | some t => (match lk L t with
   | some (.bool c) => (match c, b with
    | true,true=>evOp L op
    | false,false=>evOp L op
    | _,_=>some undef)
   | _=>none)
  | none=>none
theorem evG_or {ol:List Oper}{op:Op}{g:Option (Nat×Bool)}{v:Value}(h:evG ol L op g=some v) :
  (g=none∧evOp L op=some v)∨(∃j b t,g=some (j,b)∧gs ol j=some t∧lk L t=some (.bool b)∧evOp L op=some v)∨(∃j b t c,g=some (j,b)∧gs ol j=some t∧lk L t=some (.bool c)∧(c==b)=false∧v=undef):=by
 unfold evG at h
 split at h
 ·exact .inl ⟨rfl,h⟩
 ·rename_i j b
  split at h
  ·rename_i t e1
   split at h
   ·rename_i c e2
    split at h
    ·exact .inr (.inl ⟨j,_,t,rfl,e1,e2,h⟩)
    ·exact .inr (.inl ⟨j,_,t,rfl,e1,e2,h⟩)
    ·rename_i h1 h2
     refine .inr (.inr ⟨j,b,t,c,rfl,e1,e2,?_,by cases h;rfl⟩)
     cases c<;>cases b<;>simp_all
   ·cases h
  ·cases h
def evO (n : Nat) (ol : List Oper) (L : Slots) (o : Oper) : Option Slots := match o.dst with
 | some d => (match Nat.blt d n, evG ol L o.op o.guard with
  | true,some v=>some ((d,v)::L)
  | _,_=>none)
 | none=>none
def evK (n:Nat)(ol:List Oper):Nat→List Oper→Slots→Option (List Oper×Slots)
 | 0,l,L=>some (l,L)
 | _+1,[],_=>none
 | k + 1, o :: r, L => match evO n ol L o with
  | some L'=>evK n ol k r L'
  | none=>none
variable {ol:List Oper} {Q:Post} {rest:List Oper}
theorem evO_R {o:Oper}{L':Slots}(h:evO n ol L o=some L')(next:R P n ol.toArray Q rest L' ds w):R P n ol.toArray Q (o::rest) L ds w:=by
 obtain⟨dst,op,ty,ps,af,g⟩:=o
 unfold evO at h
 simp only at h
 split at h
 ·rename_i d
  split at h
  ·rename_i v hd hv
   cases h
   rcases evG_or hv with ⟨rfl,h1⟩|⟨j,b,t,rfl,h1,h2,h3⟩|⟨j,b,t,c,rfl,h1,h2,h3,rfl⟩
   ·exact R_run hd (evOp_val h1) next
   ·exact R_guard (yl h1 h2) (R_run hd (evOp_val h3) next)
   ·exact R_pass hd (yl_ne h1 h2 h3) next
  ·cases h
 ·cases h
theorem pe (k:Nat){l:List Oper}{L':Slots}(h:evK n ol k l L=some (rest,L'))(next:R P n ol.toArray Q rest L' ds w):R P n ol.toArray Q l L ds w:=by
 induction k generalizing l L with
 | zero=>unfold evK at h;cases h;exact next
 | succ k ih =>
  cases l with
  | nil=>unfold evK at h;cases h
  | cons o r =>
   unfold evK at h
   split at h
   ·rename_i L1 h1
    exact evO_R h1 (ih h)
   ·cases h
end
theorem Z2.{u,v}{α:Sort u}{β:Sort v}{a:α}{b:β}:a=a∧b=b:=⟨rfl,rfl⟩
theorem Z3.{u,v,x}{α:Sort u}{β:Sort v}{γ:Sort x}{a:α}{b:β}{c:γ}:a=a∧b=b∧c=c:=⟨rfl,rfl,rfl⟩
theorem Z4.{u,v,x,y}{α:Sort u}{β:Sort v}{γ:Sort x}{δ:Sort y}{a:α}{b:β}{c:γ}{d:δ}:a=a∧b=b∧c=c∧d=d:=⟨rfl,rfl,rfl,rfl⟩
theorem Z7 {α1 α2 α3 α4 α5 α6 α7:Type}{a1:α1}{a2:α2}{a3:α3}{a4:α4}{a5:α5}{a6:α6}{a7:α7}:a1=a1∧a2=a2∧a3=a3∧a4=a4∧a5=a5∧a6=a6∧a7=a7:=⟨rfl,rfl,rfl,rfl,rfl,rfl,rfl⟩
theorem Z8 {α1 α2 α3 α4 α5 α6 α7 α8:Type}{a1:α1}{a2:α2}{a3:α3}{a4:α4}{a5:α5}{a6:α6}{a7:α7}{a8:α8}:a1=a1∧a2=a2∧a3=a3∧a4=a4∧a5=a5∧a6=a6∧a7=a7∧a8=a8:=⟨rfl,rfl,rfl,rfl,rfl,rfl,rfl,rfl⟩
section
variable {P:Program} {n:Nat} {ops:Array Oper} {Q:Post} {rest:List Oper} {L:Slots} {ds:List Deferred} {w w0:World} {G0:PH} {S:List Nat} {G:PH} {B:List Res} {ty:TypeId} {ps:String} {af:Array Edge}
theorem fA (off:Nat){d i:Nat}{t:TypeId}{x:Operand}{b o:Nat}(h:odl n d L x=some (.pointer (some ⟨b,o,none⟩)))(next:R P n ops Q rest ((d,.pointer (some ⟨b,o+off,none⟩))::L) ds w) [hF:FA P t i off]:R P n ops Q (⟨some d,.fieldAddr t x i,ty,ps,af,none⟩::rest) L ds w:=by
 obtain⟨fields,f,sz,h1,h2,h3,h4⟩:=hF.h
 exact o_fieldAddr off h1 h2 h3 h4 (odl_some h).1 (odl_some h).2 next
theorem lB (k:Nat)(H:Hp w0 G0 S w G B){d:Nat}{t:TypeId}{x:Operand}{b o:Nat}{l:List Value}{e:TypeId}{v:Value}(h:odl n d L x=some (.pointer (some ⟨b,o,none⟩))∧nth B k=some (blk b (cl l e))∧nth l o=some v)(next:R P n ops Q rest ((d,v)::L) ds w) [hA:AG P t false]:R P n ops Q (⟨some d,.load t x,ty,ps,af,none⟩::rest) L ds w :=
 o_load_B k H hA.h (odl_some h.1).1 (odl_some h.1).2 h.2.1 h.2.2 next
theorem lA (k sz:Nat)(H:Hp w0 G0 S w G B){d:Nat}{t:TypeId}{x:Operand}{b o:Nat}{l l':List Value}{e:TypeId}(h:odl n d L x=some (.pointer (some ⟨b,o,none⟩))∧nth B k=some (blk b (cl l e))∧lit (slc l o sz)=some l'∧Nat.beq l'.length sz=true)(next:R P n ops Q rest ((d,.agg l'.toArray)::L) ds w) [hA:AG P t true] [hS:SZ P t sz]:R P n ops Q (⟨some d,.load t x,ty,ps,af,none⟩::rest) L ds w :=
 o_loadagg_B k H hA.h hS.h (odl_some h.1).1 (odl_some h.1).2 h.2.1 h.2.2.1 h.2.2.2 next
theorem lP (H:Hp w0 G0 S w G B){b o:Nat}{l:List Value}(hr:PRow G b o l)(j:Nat){d:Nat}{t:TypeId}{x:Operand}{v:Value}(h:nth l j=some v∧odl n d L x=some (.pointer (some ⟨b,o+j,none⟩)))(next:R P n ops Q rest ((d,v)::L) ds w) [hA:AG P t false]:R P n ops Q (⟨some d,.load t x,ty,ps,af,none⟩::rest) L ds w :=
 o_load_P H hA.h (odl_some h.2).1 (odl_some h.2).2 (hr j v (by rw[←nth_eq];exact h.1)) next
theorem lN {d:Nat}{x:Operand}{t e:TypeId}{a:Option Addr}{m c:Nat}(h:odl n d L x=some (.slice a m c))(next:R P n ops Q rest ((d,.int .i64 m)::L) ds w) [hT:UL P t (.slice e)]:R P n ops Q (⟨some d,.call ⟨.builtin .len,#[x],#[t]⟩,ty,ps,af,none⟩::rest) L ds w:=o_len_slice hT.h (odl_some h).1 (odl_some h).2 next
theorem lS {d:Nat}{x:Operand}{t:TypeId}{p:List UInt8}(h:odl n d L x=some (str p))(next:R P n ops Q rest ((d,.int .i64 p.length)::L) ds w) [hT:UL P t .string]:R P n ops Q (⟨some d,.call ⟨.builtin .len,#[x],#[t]⟩,ty,ps,af,none⟩::rest) L ds w:=o_len_str hT.h (odl_some h).1 (odl_some h).2 next
theorem aD {d:Nat}{x y:Operand}{t u:TypeId}{p q:Int}(h:odl n d L x=some (.int .i64 p)∧od L y=some (.int .i64 q))(next:R P n ops Q rest ((d,.int .i64 (p+q))::L) ds w)(hr:inI (p+q):=by exact⟨by omega,by omega⟩):R P n ops Q (⟨some d,.binOp .add t x y u,ty,ps,af,none⟩::rest) L ds w:=o_add (odl_some h.1).1 (odl_some h.1).2 h.2 hr next
theorem iP {α:Type}{lim:Nat}{E:PH→α→List Value→Prop}{d:Nat}{t e:TypeId}{x y:Operand}{a:Option Addr}{xs:List α}{m c sz:Nat}{k:Int}(i:Nat)(hr:RdS lim E sz G (.slice a m c) xs)(h:Nat.blt d n=true∧od L x=some (.slice a m c)∧od L y=some (.int .i64 k))(hk:k=(i:Int))
  (next:∀b o z cs,xs[i]? = some z→E G z cs→PRow G b o cs→R P n ops Q rest ((d,.pointer (some ⟨b,o,none⟩))::L) ds w) [hU:UL P t (.slice e)] [hS:SZ P e sz] (hi:i<xs.length:=by first|omega|(simp;omega)):R P n ops Q (⟨some d,.indexAddr t x y,ty,ps,af,none⟩::rest) L ds w :=
 o_index_P i hr hU.h hS.h h.1 h.2.1 h.2.2 hk hi next
theorem xal (H:Hp w0 G0 S w G B){d:Nat}{e:TypeId}{l:List Value} [hz:ZV P e l] (hd:Nat.blt d n=true)
  (next:∀b w',w.heap.size≤b→Hp w0 G0 S w' G (blk b (cl l e)::B)→R P n ops Q rest ((d,.pointer (some ⟨b,0,none⟩))::L) ds w'):R P n ops Q (⟨some d,.alloc e,ty,ps,af,none⟩::rest) L ds w:=by
 obtain⟨zv,h1,h2⟩:=hz.h
 exact o_alloc H h1 hd h2 next
theorem xst (k : Nat) (H : Hp w0 G0 S w G B) {t : TypeId} {x y : Operand} {b o sz : Nat} {l : List Value} {e : TypeId} {v : Value} [hS : SZ P t sz] {l' : List Value} {B' : List Res} (h : od L x = some (.pointer (some ⟨b, o, none⟩)) ∧ od L y = some v ∧ nth B k = some (blk b (cl l e)) ∧ Nat.beq (vc v).length sz = true ∧ Nat.ble (o + (vc v).length) l.length = true ∧ ((vc v).all fun u => u.oneCell') = true ∧ lit (setCs l o (vc v)) = some l' ∧ lit (setN B k (blk b (cl l' e))) = some B')
  (next:∀w',Hp w0 G0 S w' G B'→R P n ops Q rest L ds w'):R P n ops Q (⟨none,.store t x y,ty,ps,af,none⟩::rest) L ds w:=by
 obtain⟨h1,h2,h3,h4,h5,h6,h7,h8⟩:=h
 exact o_store_B k H hS.h h1 h2 h3 h4 h5 h6 h7 h8 next
theorem xbs (H:Hp w0 G0 S w G B){d:Nat}{t e:TypeId}{m sz:Nat}{xs:List (Nat×Operand)}{pvs:List (Nat×Value)}{z l':List Value} [hU:UL P t (.slice e)] [hS:SZ P e sz] [hz:ZV P e z]
  (h:Nat.beq z.length sz=true∧Nat.blt 0 sz=true∧Nat.ble (m*sz) 16777216=true∧Nat.blt d n=true∧odps L xs=some pvs∧(pvs.all fun x=>Nat.blt x.1 m)=true∧(fillL (plS m 0 sz) (rep m z) pvs).bind lit=some l')
  (next:∀b w',w.heap.size≤b→Hp w0 G0 S w' G (blk b (cl l' e)::B)→R P n ops Q rest ((d,.slice (some ⟨b,0,none⟩) m m)::L) ds w'):R P n ops Q (⟨some d,.buildSlice t m xs.toArray,ty,ps,af,none⟩::rest) L ds w:=by
 obtain⟨zv,g1,g2⟩:=hz.h
 obtain⟨h1,h2,h3,h4,h5,h6,h7⟩:=h
 exact o_buildSlice H hU.h hS.h (fun w=>⟨zv,g1 w,(lit_eq g2).symm⟩) h1 h2 h3 h4 h5 h6 h7 next
theorem xr {d:Nat}{f:FuncId}{xs:List Operand}{ts:Array TypeId}{vs:List Value}{v:Value}(H:Hp w0 G0 S w G B)(h:Nat.blt d n=true∧ods L xs=some vs)(hc:Calls P f vs.toArray w (Rets w v))
  (next:∀w',Hp w0 G0 S w' G B→R P n ops Q rest ((d,v)::L) ds w') [hf:CF P f]:R P n ops Q (⟨some d,.call ⟨.value (.func f),xs.toArray,ts⟩,ty,ps,af,none⟩::rest) L ds w :=
 o_call hf.h h.1 h.2 hc (fun e w' h=>⟨v,h.1,next w' (H.step h.2)⟩)
theorem xc {d:Nat}{f:FuncId}{xs:List Operand}{ts:Array TypeId}{vs:List Value}{C:Ending→World→Prop}(h:Nat.blt d n=true∧ods L xs=some vs)(hc:Calls P f vs.toArray w C)(next:∀e w',C e w'→∃v,e= .returned v∧R P n ops Q rest ((d,v)::L) ds w') [hf:CF P f] :
  R P n ops Q (⟨some d,.call ⟨.value (.func f),xs.toArray,ts⟩,ty,ps,af,none⟩::rest) L ds w:=o_call hf.h h.1 h.2 hc next
variable {l:List Oper} {K:World→Prop} {f:Nat} {ls:Array Bool} {G':PH} {B' Bs:List Res}
theorem q4 {i : Nat} (H : Hp w0 G0 S w G' B') (hle : PLe G G') (h : RD P n l Q (fun w => Kn w G Bs) f (ls.setIfInBounds i true) L ds w)
  (hs:SubL Bs B':=by repeat (first|exact SubL.nil|refine SubL.cons 0 rfl ?_|refine SubL.cons 1 rfl ?_|refine SubL.cons 2 rfl ?_|refine SubL.cons 3 rfl ?_|refine SubL.cons 4 rfl ?_|refine SubL.cons 5 rfl ?_|refine SubL.cons 6 rfl ?_|refine SubL.cons 7 rfl ?_|refine SubL.cons 8 rfl ?_|refine SubL.cons 9 rfl ?_|refine SubL.cons 10 rfl ?_|refine SubL.cons 11 rfl ?_|refine SubL.cons 12 rfl ?_|refine SubL.cons 13 rfl ?_|refine SubL.cons 14 rfl ?_|refine SubL.cons 15 rfl ?_|refine SubL.cons 16 rfl ?_|refine SubL.cons 17 rfl ?_|refine SubL.cons 18 rfl ?_|refine SubL.cons 19 rfl ?_|refine SubL.cons 20 rfl ?_|refine SubL.cons 21 rfl ?_|refine SubL.cons 22 rfl ?_|refine SubL.cons 23 rfl ?_|refine SubL.cons 24 rfl ?_|refine SubL.cons 25 rfl ?_|refine SubL.cons 26 rfl ?_)) :
  R P n ops (DK P l Q (fun w=>Kn w G Bs) f ls i) [] L ds w:=R_nil (N_DK (Kn.of' H hle hs) h)
theorem r1 (i:Nat){o:Oper}(hi:nth l i=some o)(h:R P n l.toArray (DK P l Q K f ls i) [o] L ds w)(hr:Region.ready .any l.toArray ls=[i]:=by kernel_rfl):RD P n l Q K (f+1) ls L ds w:=RD_run [i] hr rfl (RDs.cons hi h RDs.nil)
theorem r2 (i j:Nat){o o':Oper}(hi:nth l i=some o∧nth l j=some o')(h:R P n l.toArray (DK P l Q K f ls i) [o] L ds w)(h':R P n l.toArray (DK P l Q K f ls j) [o'] L ds w)(hr:Region.ready .any l.toArray ls=[i,j]:=by kernel_rfl):RD P n l Q K (f+1) ls L ds w:=RD_run [i,j] hr rfl (RDs.cons hi.1 h (RDs.cons hi.2 h' RDs.nil))
theorem rz (h:N n Q .normal L ds w)(hr:Region.ready .any l.toArray ls=[]:=by kernel_rfl):RD P n l Q K f ls L ds w:=RD_done hr h
def gOK (l:List Oper)(L:Slots):Option (Nat×Bool)→Bool
 | none=>true
 | some (j,b)=>guardOk l L j b
def odg (n d:Nat)(l:List Oper)(L:Slots)(g:Option (Nat×Bool))(x:Operand):Option Value:=cond (Nat.blt d n&&gOK l L g) (od L x) none
theorem odg_some {n d:Nat}{l:List Oper}{L:Slots}{g:Option (Nat×Bool)}{x:Operand}{v:Value}(h:odg n d l L g x=some v):Nat.blt d n=true∧gOK l L g=true∧od L x=some v:=by
 unfold odg at h
 cases e:(Nat.blt d n&&gOK l L g) with
 | true=>rw[e]at h;simp only[Bool.and_eq_true]at e;exact⟨e.1,e.2,h⟩
 | false=>rw[e]at h;cases h
theorem RD_gv {i d:Nat}{op:Op}{g:Option (Nat×Bool)}{v:Value}(hi:nth l i=some ⟨some d,op,ty,ps,af,g⟩)(hd:Nat.blt d n=true)(hg:gOK l L g=true)(hv:∀w,K w→VAL P n L ds w ⟨some d,op,ty,ps,af,none⟩ v)(h:RD P n l Q K f (ls.setIfInBounds i true) ((d,v)::L) ds w)(hb:rdy l ls i=true):RD P n l Q K (f+1) ls L ds w:=by
 cases g with
 | none=>exact RD_t i hi hb hd hv h
 | some jb =>
  obtain⟨j,b⟩:=jb
  unfold gOK guardOk at hg
  simp only at hg
  split at hg
  ·rename_i t e
   split at hg
   ·rename_i c e2
    obtain rfl:c=b:=by simpa using hg
    exact RD_tg i hi hb hd (yl e e2) hv h
   ·cases hg
  ·cases hg
theorem dE (i : Nat) {d : Nat} {op : Op} {g : Option (Nat × Bool)} {v : Value} (h : nth l i = some ⟨some d, op, ty, ps, af, g⟩ ∧ cond (Nat.blt d n) (evG l L op g) none = some v) (next : RD P n l Q K f (ls.setIfInBounds i true) ((d, v) :: L) ds w) (hb : rdy l ls i = true := by kernel_rfl) : RD P n l Q K (f + 1) ls L ds w := by
 obtain⟨hi,he⟩:=h
 have hd:Nat.blt d n=true:=by
  cases e:Nat.blt d n with
  | true=>rfl
  | false=>rw[e]at he;cases he
 rw[hd]at he
 rcases evG_or he with ⟨rfl,h1⟩|⟨j,b,t,rfl,h1,h2,h3⟩|⟨j,b,t,c,rfl,h1,h2,h3,rfl⟩
 ·exact RD_t i hi hb hd (fun _ _=>evOp_val h1) next
 ·exact RD_tg i hi hb hd (yl h1 h2) (fun _ _=>evOp_val h3) next
 ·simp only[rdy,Bool.and_eq_true]at hb
  exact RD_pass i hi hb.1.1 hb.1.2 hb.2 hd (yl_ne h1 h2 h3) next
theorem dF (i off : Nat) {d k : Nat} {t : TypeId} {x : Operand} {g : Option (Nat × Bool)} {b o : Nat} (h : nth l i = some ⟨some d, .fieldAddr t x k, ty, ps, af, g⟩ ∧ odg n d l L g x = some (.pointer (some ⟨b, o, none⟩))) (next : RD P n l Q K f (ls.setIfInBounds i true) ((d, .pointer (some ⟨b, o + off, none⟩)) :: L) ds w) [hF : FA P t k off] (hb : rdy l ls i = true := by kernel_rfl) : RD P n l Q K (f + 1) ls L ds w := by
 obtain⟨h1,h2,h3⟩:=odg_some h.2
 obtain⟨fields,f,sz,g1,g2,g3,g4⟩:=hF.h
 exact RD_gv h.1 h1 h2 (fun _ _=>v_fieldAddr off g1 g2 g3 g4 h3) next hb
theorem dN (i : Nat) {d : Nat} {t e : TypeId} {x : Operand} {g : Option (Nat × Bool)} {a : Option Addr} {m c : Nat} (h : nth l i = some ⟨some d, .call ⟨.builtin .len, #[x], #[t]⟩, ty, ps, af, g⟩ ∧ odg n d l L g x = some (.slice a m c)) (next : RD P n l Q K f (ls.setIfInBounds i true) ((d, .int .i64 m) :: L) ds w) [hT : UL P t (.slice e)] (hb : rdy l ls i = true := by kernel_rfl) : RD P n l Q K (f + 1) ls L ds w := by
 obtain⟨h1,h2,h3⟩:=odg_some h.2
 exact RD_gv h.1 h1 h2 (fun _ _=>v_len_slice hT.h h3) next hb
theorem dI {b o : Nat} {a : Option Addr} (i sz j : Nat) (ha : a = some ⟨b, o, none⟩) {d : Nat} {t e : TypeId} {x y : Operand} {g : Option (Nat × Bool)} {m c : Nat} {k : Int} (h : nth l i = some ⟨some d, .indexAddr t x y, ty, ps, af, g⟩ ∧ odg n d l L g x = some (.slice a m c) ∧ od L y = some (.int .i64 k)) (hk : k = (j : Int)) (next : RD P n l Q K f (ls.setIfInBounds i true) ((d, .pointer (some ⟨b, o + j * sz, none⟩)) :: L) ds w) [hU : UL P t (.slice e)] [hS : SZ P e sz] (hi : j < m := by omega) (hb : rdy l ls i = true := by kernel_rfl) : RD P n l Q K (f + 1) ls L ds w := by
 obtain⟨h1,h2,h3⟩:=odg_some h.2.1
 exact RD_gv h.1 h1 h2 (fun _ _=>v_index_P ha hU.h hS.h h3 h.2.2 hk hi) next hb
theorem dP {b o : Nat} {cl : List Value} (i : Nat) (hr : PRow G b o cl) (j : Nat) {d : Nat} {t : TypeId} {x : Operand} {g : Option (Nat × Bool)} {v : Value} (h : nth l i = some ⟨some d, .load t x, ty, ps, af, g⟩ ∧ nth cl j = some v ∧ odg n d l L g x = some (.pointer (some ⟨b, o + j, none⟩))) (next : RD P n l Q (fun w => Kn w G Bs) f (ls.setIfInBounds i true) ((d, v) :: L) ds w) [hA : AG P t false] (hb : rdy l ls i = true := by kernel_rfl) : RD P n l Q (fun w => Kn w G Bs) (f + 1) ls L ds w := by
 obtain⟨h1,h2,h3⟩:=odg_some h.2.2
 exact RD_gv h.1 h1 h2 (fun _ hK=>v_load_P hK hA.h h3 (hr j v (by rw[←nth_eq];exact h.2.1))) next hb
theorem dB (i k : Nat) {d : Nat} {t : TypeId} {x : Operand} {g : Option (Nat × Bool)} {b o : Nat} {c : List Value} {e : TypeId} {v : Value} (h : nth l i = some ⟨some d, .load t x, ty, ps, af, g⟩ ∧ odg n d l L g x = some (.pointer (some ⟨b, o, none⟩)) ∧ nth Bs k = some (blk b (Fw.cl c e)) ∧ nth c o = some v) (next : RD P n l Q (fun w => Kn w G Bs) f (ls.setIfInBounds i true) ((d, v) :: L) ds w) [hA : AG P t false] (hb : rdy l ls i = true := by kernel_rfl) : RD P n l Q (fun w => Kn w G Bs) (f + 1) ls L ds w := by
 obtain⟨h1,h2,h3⟩:=odg_some h.2.1
 exact RD_gv h.1 h1 h2 (fun _ hK=>v_load_B k hK hA.h h3 h.2.2.1 h.2.2.2) next hb
end
theorem Hp.tF {w0 w:World}{G0 G:PH}{S:List Nat}{B:List Res}(H:Hp w0 G0 S w G B)(k:Nat){r:Res}(hk:nth B k=some r:=by exact rfl):Hp w0 G0 S w G (r::delN B k):=H.toFront hk
theorem Hp.dl {w0 w:World}{G0 G:PH}{S:List Nat}{B:List Res}(H:Hp w0 G0 S w G B)(k:Nat){r:Res}(hk:nth B k=some r:=by exact rfl):Hp w0 G0 S w G (delN B k):=H.del hk
theorem opH {G:PH}{x:BHeld}{cs:List Value}(h:heldE G x cs):∃a m c,cs=[.int .i64 x.id,.slice a m c,.int .i64 x.uses]∧inI x.id∧RdI G (.slice a m c) x.bytes∧inI x.uses∧m=x.bytes.length∧x.bytes.length≤1099511627776:=by
 obtain⟨a,m,c,e,h1,h2,h3⟩:=h
 exact⟨a,m,c,e,h1,h2,h3,h2.len,h2.lim⟩
theorem opI {G:PH}{x:BItem}{cs:List Value}(h:itemE G x cs):∃a m c,cs=[str x.path,.bool x.dir,.slice a m c]∧x.path.length≤16777216∧RdI G (.slice a m c) x.ids∧m=x.ids.length∧x.ids.length≤1099511627776:=by
 obtain⟨a,m,c,e,h1,h2⟩:=h
 exact⟨a,m,c,e,h1,h2,h2.len,h2.lim⟩
theorem opS {G:PH}{x:BSnap}{cs:List Value}(h:snapE G x cs):∃a m c,cs=[str x.name,.slice a m c]∧x.name.length≤16777216∧RdItems G (.slice a m c) x.tree∧m=x.tree.length∧x.tree.length≤1099511627776:=by
 obtain⟨a,m,c,e,h1,h2⟩:=h
 exact⟨a,m,c,e,h1,h2,h2.len,h2.lim⟩
theorem opD {G:PH}{x:BDisk}{cs:List Value}(h:diskE G x cs):∃a m c a' m' c' a'' m'' c'',cs=[.slice a m c,.slice a' m' c',.slice a'' m'' c'']∧RdH G (.slice a m c) x.store∧RdItems G (.slice a' m' c') x.tree∧RdSn G (.slice a'' m'' c'') x.snaps∧(m=x.store.length∧x.store.length≤1099511627776)∧(m'=x.tree.length∧x.tree.length≤1099511627776)∧m''=x.snaps.length∧x.snaps.length≤1099511627776:=by
 obtain⟨a,m,c,a',m',c',a'',m'',c'',e,h1,h2,h3⟩:=h
 exact⟨a,m,c,a',m',c',a'',m'',c'',e,h1,h2,h3,⟨h1.len,h1.lim⟩,⟨h2.len,h2.lim⟩,h3.len,h3.lim⟩
theorem opV {G:PH}{x:BVol}{cs:List Value}(h:volE G x cs):∃a m c a' m' c',cs=[.slice a m c,.slice a' m' c']∧RdH G (.slice a m c) x.store∧RdItems G (.slice a' m' c') x.tree∧(m=x.store.length∧x.store.length≤1099511627776)∧m'=x.tree.length∧x.tree.length≤1099511627776:=by
 obtain⟨a,m,c,a',m',c',e,h1,h2⟩:=h
 exact⟨a,m,c,a',m',c',e,h1,h2,⟨h1.len,h1.lim⟩,h2.len,h2.lim⟩
class OpE {α:Type} (E:PH→α→List Value→Prop) (R:outParam (PH→α→List Value→Prop)):Prop where op:∀{G x cs},E G x cs→R G x cs
theorem ox {α:Type}{E R:PH→α→List Value→Prop}{G:PH}{x:α}{cs:List Value}(h:E G x cs) [i:OpE E R]:R G x cs:=i.op h
instance:OpE heldE (fun G (x:BHeld) cs=>∃a m c,cs=[.int .i64 x.id,.slice a m c,.int .i64 x.uses]∧inI x.id∧RdI G (.slice a m c) x.bytes∧inI x.uses∧m=x.bytes.length∧x.bytes.length≤1099511627776):=⟨opH⟩
instance:OpE itemE (fun G (x:BItem) cs=>∃a m c,cs=[str x.path,.bool x.dir,.slice a m c]∧x.path.length≤16777216∧RdI G (.slice a m c) x.ids∧m=x.ids.length∧x.ids.length≤1099511627776):=⟨opI⟩
instance:OpE snapE (fun G (x:BSnap) cs=>∃a m c,cs=[str x.name,.slice a m c]∧x.name.length≤16777216∧RdItems G (.slice a m c) x.tree∧m=x.tree.length∧x.tree.length≤1099511627776):=⟨opS⟩
instance:OpE volE (fun G (x:BVol) cs=>∃a m c a' m' c',cs=[.slice a m c,.slice a' m' c']∧RdH G (.slice a m c) x.store∧RdItems G (.slice a' m' c') x.tree∧(m=x.store.length∧x.store.length≤1099511627776)∧m'=x.tree.length∧x.tree.length≤1099511627776):=⟨opV⟩
instance:OpE diskE (fun G (x:BDisk) cs=>∃a m c a' m' c' a'' m'' c'',cs=[.slice a m c,.slice a' m' c',.slice a'' m'' c'']∧RdH G (.slice a m c) x.store∧RdItems G (.slice a' m' c') x.tree∧RdSn G (.slice a'' m'' c'') x.snaps∧(m=x.store.length∧x.store.length≤1099511627776)∧(m'=x.tree.length∧x.tree.length≤1099511627776)∧m''=x.snaps.length∧x.snaps.length≤1099511627776):=⟨opD⟩
def quotaE:PH→BQuota→List Value→Prop:=fun _ x cs=>cs=[str x.dir,.int .i64 x.most]∧x.dir.length≤16777216∧inI x.most
instance:MonoE quotaE:=⟨fun _ h=>h⟩
theorem rl2 {a b:Value}{cs':List Value}(h:RL [a,b] cs'):∃u v,cs'=[u,v]∧R1 a u∧R1 b v:=by
 rcases cs' with _|⟨u,_|⟨v,_|⟨w,r⟩⟩⟩
 ·exact h.elim
 ·exact h.2.elim
 ·exact⟨u,v,rfl,h.1,h.2.1⟩
 ·exact h.2.2.elim
instance : StE quotaE := ⟨fun {_ _ x cs cs'} hg hr h => by
 obtain⟨rfl,h1,h2⟩:=h
 obtain⟨u,v,rfl,k1,k2⟩:=rl2 hr
 obtain rfl:=r1_str k1
 obtain⟨p,rfl,hp⟩:=r1_int k2 h2
 exact⟨⟨x.dir,p⟩,rfl,h1,hp⟩⟩
def opE:PH→BOp→List Value→Prop:=fun G x cs=>∃a m c,cs=[.int .i64 x.kind,str x.path,.slice a m c]∧inI x.kind∧x.path.length≤16777216∧RdI G (.slice a m c) x.bytes
instance:MonoE opE:=⟨fun hle ⟨a,m,c,h1,h2,h3,h4⟩=>⟨a,m,c,h1,h2,h3,h4.up hle⟩⟩
abbrev RdOp:=RdS LIM opE 3
instance : StE opE := ⟨fun {_ _ x cs cs'} hg hr h => by
 obtain⟨a,m,c,rfl,h1,h2,h3⟩:=h
 obtain⟨u,v,w,rfl,k1,k2,k3⟩:=rl3 hr
 obtain⟨p,rfl,hp⟩:=r1_int k1 h1
 obtain rfl:=r1_str k2
 obtain rfl:=r1_slice k3
 obtain⟨ys,_,hy⟩:=h3.st hg
 exact⟨⟨p,x.path,ys⟩,a,m,c,rfl,hp,h2,hy⟩⟩
def partE:PH→BPart→List Value→Prop:=fun G x cs=>∃a m c,cs=[.int .i64 x.kind,str x.path,.bool x.dir,.slice a m c]∧inI x.kind∧x.path.length≤16777216∧RdI G (.slice a m c) x.bytes
instance:MonoE partE:=⟨fun hle ⟨a,m,c,h1,h2,h3,h4⟩=>⟨a,m,c,h1,h2,h3,h4.up hle⟩⟩
abbrev RdPart:=RdS LIM partE 4
theorem rl4 {a b c d:Value}{cs':List Value}(h:RL [a,b,c,d] cs'):∃u v w z,cs'=[u,v,w,z]∧R1 a u∧R1 b v∧R1 c w∧R1 d z:=by
 rcases cs' with _|⟨u,r⟩
 ·exact h.elim
 ·obtain⟨v,w,z,rfl,k⟩:=rl3 h.2
  exact⟨u,v,w,z,rfl,h.1,k⟩
instance : StE partE := ⟨fun {_ _ x cs cs'} hg hr h => by
 obtain⟨a,m,c,rfl,h1,h2,h3⟩:=h
 obtain⟨u,v,w,z,rfl,k1,k2,k3,k4⟩:=rl4 hr
 obtain⟨p,rfl,hp⟩:=r1_int k1 h1
 obtain rfl:=r1_str k2
 obtain rfl:=r1_bool k3
 obtain rfl:=r1_slice k4
 obtain⟨ys,_,hy⟩:=h3.st hg
 exact⟨⟨p,x.path,x.dir,ys⟩,a,m,c,rfl,hp,h2,hy⟩⟩
theorem opOp {G:PH}{x:BOp}{cs:List Value}(h:opE G x cs):∃a m c,cs=[.int .i64 x.kind,str x.path,.slice a m c]∧inI x.kind∧x.path.length≤16777216∧RdI G (.slice a m c) x.bytes∧m=x.bytes.length∧x.bytes.length≤1099511627776:=by
 obtain⟨a,m,c,rfl,h1,h2,h3⟩:=h
 exact⟨a,m,c,rfl,h1,h2,h3,h3.len,h3.lim⟩
instance:OpE opE (fun G (x:BOp) cs=>∃a m c,cs=[.int .i64 x.kind,str x.path,.slice a m c]∧inI x.kind∧x.path.length≤16777216∧RdI G (.slice a m c) x.bytes∧m=x.bytes.length∧x.bytes.length≤1099511627776):=⟨opOp⟩
theorem opPt {G:PH}{x:BPart}{cs:List Value}(h:partE G x cs):∃a m c,cs=[.int .i64 x.kind,str x.path,.bool x.dir,.slice a m c]∧inI x.kind∧x.path.length≤16777216∧RdI G (.slice a m c) x.bytes∧m=x.bytes.length∧x.bytes.length≤1099511627776:=by
 obtain⟨a,m,c,rfl,h1,h2,h3⟩:=h
 exact⟨a,m,c,rfl,h1,h2,h3,h3.len,h3.lim⟩
instance:OpE partE (fun G (x:BPart) cs=>∃a m c,cs=[.int .i64 x.kind,str x.path,.bool x.dir,.slice a m c]∧inI x.kind∧x.path.length≤16777216∧RdI G (.slice a m c) x.bytes∧m=x.bytes.length∧x.bytes.length≤1099511627776):=⟨opPt⟩
end Fw
namespace Sp
open Fw Nd
section
variable {d:BDisk} {p:Bs}
end
section
variable {d:BDisk} {x:BPart}
end
section
variable {d d1:BDisk} {p:Bs} {o:BOp}
end
section
variable {d:BDisk} {x:BPart} {i:Nat} {y:BItem}
end
section
variable {d:BDisk} {x:BPart}
end
section
variable {d:BDisk} {x:BPart}
end
section
variable {d e e1:BDisk} {l:List BOp} {o:BOp} {k:Nat}
theorem jgo_some (h:l[k]? = some o)(hr:OpRun e o=some e1):jgo e (l.drop k)=((jgo e1 (l.drop (k+1))).1,(jgo e1 (l.drop (k+1))).2+1):=by
 have hk:=(List.getElem?_eq_some_iff.1 h)
 rw[List.drop_eq_getElem_cons hk.1,hk.2]
 simp only[jgo,hr]
def JAt (d:BDisk)(l:List BOp)(k:Nat)(e:BDisk):Prop:=jgo d l=((jgo e (l.drop k)).1,(jgo e (l.drop k)).2+k)
theorem JAt.zero:JAt d l 0 d:=by simp[JAt]
theorem JAt.step (h:JAt d l k e)(hz:l[k]? = some o)(hr:OpRun e o=some e1):JAt d l (k+1) e1:=by
 unfold JAt at h ⊢
 rw[h,jgo_some hz hr]
 simp;omega
theorem JAt.done (h:JAt d l k e)(hk:l.length≤k):jgo d l=(e,k):=by
 unfold JAt at h
 rw[h,List.drop_of_length_le hk]
 simp[jgo]
end
theorem some_get {o:Option BDisk}(h:o.isSome=true):o=some (o.getD ⟨[],[],[]⟩):=by
 cases o with
 | none=>cases h
 | some x=>rfl
section
variable {l c s r:List BItem} {f t:Bs}
end
section
variable {d:BDisk} {p:Bs} {n m:Int} {q:BQuota}
variable {l:List BQuota}
end
end Sp
namespace Fw
open Go
section
variable {w0 w:World} {G0 G:PH} {S:List Nat} {B:List Res}
end
theorem RdNs.up {G G':PH}{l:List Nd}(h:RdNs G l)(hle:PLe G G'):RdNs G' l:=RdNs.upm hle h
section
variable {P:Program} {w w0:World} {G0:PH} {S:List Nat} {G:PH} {B:List Res}
end
section
variable {P:Program} {n:Nat} {ops:Array Oper} {Q:Post} {rest:List Oper} {L:Slots} {ds:List Deferred} {w w0:World} {G0:PH} {S:List Nat} {G:PH} {B:List Res}
variable {ty:TypeId} {ps:String} {af:Array Edge} {ρ:Go.Shelf.Ren}
end
end Fw
namespace Sp
open Fw Nd
end Sp
namespace Fw
open Go Go.RowKit
section
variable {P:Program} {Q:Exit→Act→World→Prop}
abbrev wideF (r:Option Nat):Fence:={Fence.wide with round:=r}
theorem semAt_any (r:Option Nat)(ρ:Operand→Value)(o:Oper)(h:∀c,o.op≠ .defer c):Oper.semAt r ρ o=execOp ρ o:=by
 cases r with
 | none=>rfl
 | some l=>exact Oper.semAt_some l ρ o h
theorem opIn {r:Option Nat}{m:Nat}{o:Oper}{a:Act}{w:World}{next next':Act→World→Prop}(hnd:∀c,o.op≠ .defer c)(hn:∀a w,next a w→next' a w){Q':Exit→Act→World→Prop}(hqp:∀ch a w,Q (.panic ch) a w→Q' (.panic ch) a w)(hqo:LetsOut Q→LetsOut Q')
  (h:o.wp P a w next Q):o.wpIn (wideF r) m P a w next' Q':=by
 refine⟨fun _ _=>trivial,?_⟩
 rw[semAt_any _ _ _ hnd]
 unfold Oper.wp at h
 cases hr:(execOp a.eval o).run P w with
 | ok nx w' =>
  rw[hr]at h
  cases nx with
  | value v=>exact hn _ _ h
  | skip=>exact hn _ _ h
  | defer d=>exact hn _ _ h
  | enter f args =>
   refine⟨fun hh=>by simp[Fence.wide]at hh,?_⟩
   have h1:=callsIn_wide (n:=m-1).2 h
   refine CallsIn.mono (show CallsIn (wideF r) (m-1) P f args w' _ from h1) ?_
   intro e w'' he
   cases e with
   | returned v=>exact hn _ _ he
   | panicked chain=>exact hqp _ _ _ he
   | outgrown=>exact hqo he
  | row row args =>
   refine⟨fun hh=>by simp[Fence.wide]at hh,fun c cs _=>?_⟩
   obtain⟨v,w'',h1,h2⟩:=h c cs
   exact⟨v,w'',hn _ _ h1,stepsIn_wide.2 h2⟩
  | _=>exact h.elim
 | halt st w' =>
  rw[hr]at h
  cases st with
  | panic v=>exact hqp _ _ _ h
  | _=>exact h.elim
theorem listIn {r:Option Nat}{m:Nat}{ops:Array Oper}(hQ:¬LetsOut Q):∀(l:List Oper) (a:Act) (w:World),(∀o,o ∈ l→∀c,o.op≠ .defer c)→wpList P ops Q l a w→wpListIn (wideF r) m P ops Q l a w
 | [],_,_,_,h=>h
 | o :: l, a, w, hd, h => by
  have ih:∀a w,wpList P ops Q l a w→wpListIn (wideF r) m P ops Q l a w:=fun a w h=>listIn hQ l a w (fun x hx=>hd x (List.mem_cons_of_mem _ hx)) h
  unfold wpList at h
  unfold wpListIn
  split
  ·rename_i hw
   rw[if_pos hw]at h
   rcases h with h|⟨_,h⟩
   ·exact opIn (hd o (List.mem_cons_self ..)) ih (fun _ _ _ h=>h) (fun h=>h) h
   ·exact absurd h hQ
  ·rename_i hw
   rw[if_neg hw]at h
   exact⟨fun _ _=>trivial,ih _ _ h⟩
def noDef (l:List Oper):Bool:=l.all fun o=>match o.op with | .defer _=>false|_=>true
theorem noDef_iff {l:List Oper}(h:noDef l=true):∀o,o ∈ l→∀c,o.op≠ .defer c:=by
 intro o ho c e
 have:=List.all_eq_true.1 h o ho
 rw[e]at this
 cases this
theorem WI_region {r:Option Nat}{m n id:Nat}{l:List Oper}{L:Slots}{ds:List Deferred}{w:World}{a:Act}(hQ:¬LetsOut Q)(hd:noDef l=true)(ha:FrL n L ds a)(h:R P n l.toArray Q l L ds w):(Code.region id l.toArray false).wpIn (wideF r) m P Q a w :=
 wpIn_region_lit (listIn hQ l a w (noDef_iff hd) (h a ha))
def RI (P:Program)(m n:Nat)(ops:Array Oper)(Q:Post)(l:List Oper)(L:Slots)(ds:List Deferred)(w:World):Prop:=∀a,FrL n L ds a→wpListIn (wideF none) m P ops Q l a w
def Qc (P:Program)(m:Nat)(ops:Array Oper)(Q:Post)(l:List Oper):Post
 | .normal,a,w=>wpListIn (wideF none) m P ops Q l a w
 | .outgrown,_,_=>False
 | e,a,w=>Q e a w
theorem Qc_out {m:Nat}{ops:Array Oper}{l:List Oper}:¬LetsOut (Qc P m ops Q l):=fun⟨_,_,h⟩=>h
variable {m n:Nat} {ops:Array Oper} {l:List Oper} {L:Slots} {ds:List Deferred} {w:World}
theorem RI_l {o:Oper}(hd:noDef [o]=true)(h:R P n ops (Qc P m ops Q l) [o] L ds w):RI P m n ops Q (o::l) L ds w:=by
 intro a ha
 have h:=h a ha
 unfold wpList at h
 unfold wpListIn
 split
 ·rename_i hw
  rw[if_pos hw]at h
  rcases h with h|⟨_,h⟩
  ·exact opIn (Q:=Qc P m ops Q l) (r:=none) (noDef_iff hd o (List.mem_cons_self ..)) (fun a w h=>h) (fun _ _ _ h=>h) (fun h=>absurd h Qc_out) h
  ·exact absurd h Qc_out
 ·rename_i hw
  rw[if_neg hw]at h
  exact⟨fun _ _=>trivial,h⟩
theorem RI_b (h:RI P m n ops Q l L ds w):R P n ops (Qc P m ops Q l) [] L ds w:=fun a ha=>wpList_nil (h a ha)
theorem RI_nil (h:N n Q .normal L ds w):RI P m n ops Q [] L ds w:=fun a ha=>h a ha
theorem W_regionI {id:Nat}{l:List Oper}(h:RI P 3 n l.toArray Q l L ds w):W P n Q (.region id l.toArray false) L ds w:=fun a ha=>(wpIn_wide (n:=3)).1 (wpIn_region_lit (h a ha))
variable {ty:TypeId} {ps:String} {af:Array Edge} {rest:List Oper}
theorem RI_guard {d:Option Nat}{op:Op}{i:Nat}{b:Bool}(hy:∀a,FrL n L ds a→yielded ops a.tmps i=some b)
  (h:RI P m n ops Q (⟨d,op,ty,ps,af,none⟩::rest) L ds w):RI P m n ops Q (⟨d,op,ty,ps,af,some (i,b)⟩::rest) L ds w:=by
 intro a ha
 have h1:=h a ha
 simp only[wpListIn]at h1 ⊢
 have e1:Region.wanted ⟨d,op,ty,ps,af,some (i,b)⟩ (yielded ops a.tmps)=true:=by simp[Region.wanted,hy a ha]
 have e2:Region.wanted ⟨d,op,ty,ps,af,none⟩ (yielded ops a.tmps)=true:=by simp[Region.wanted]
 rw[if_pos e1]
 rw[if_pos e2]at h1
 exact h1
theorem RI_case {t:Nat}{b:Bool}(hv:lk L t=some (.bool b))(ht:b=true→RI P m n ops Q l ((t,.bool true)::L) ds w)(hf:b=false→RI P m n ops Q l ((t,.bool false)::L) ds w):RI P m n ops Q l L ds w:=by
 intro a ha
 cases b with
 | true=>exact ht rfl a (ha.same hv)
 | false=>exact hf rfl a (ha.same hv)
theorem o_yield {d k:Nat}{x y:Operand}{ts:Array TypeId}{v:Value}{C:Ending→World→Prop}(hd:Nat.blt d n=true)(hx:od L x=some (.func (.yield k) #[] #[]))(hy:od L y=some v)
  (hY:YieldAt (wideF none) (m-1) P k #[v] w C) (next:∀e w',C e w'→∃b,e= .returned b∧RI P m n ops Q rest ((d,b)::L) ds w') :
  RI P m n ops Q (⟨some d,.call ⟨.value x,#[y],ts⟩,ty,ps,af,none⟩::rest) L ds w:=by
 intro a ha
 obtain⟨fn,tmps,assign,body,hr,hR⟩:=hY
 unfold wpListIn
 have e2:Region.wanted ⟨some d,.call ⟨.value x,#[y],ts⟩,ty,ps,af,none⟩ (yielded ops a.tmps)=true:=by simp[Region.wanted]
 rw[if_pos e2]
 refine⟨fun _ _=>trivial,?_⟩
 have e3:(execOp a.eval ⟨some d,.call ⟨.value x,#[y],ts⟩,ty,ps,af,none⟩).run P w= .ok (.round k fn tmps assign body) w:=by
  simp[execOp,resolve,invoke,ha.eval hx,ha.eval hy,Deferred.ofValue,hr]
 rw[semAt_any _ _ _ (by intro c e;cases e),e3]
 refine⟨fun hh=>by simp[Fence.wide]at hh,hR.mono ?_⟩
 intro e w' he
 obtain⟨b,rfl,h⟩:=next e w' he
 exact h _ (ha.put hd b)
theorem calls_of_WM {f:FuncId}{fn:Func}{c:Code}{l:List Value}{C:Ending→World→Prop}
  (hf:P.funcs[f]? = some fn) (hb:fn.body=some c) (hn:fn.ntmps=n) (hl:Nat.ble l.length n=true)
  (h:W P n (bodyPostM Fence.wide 3 P fn C) c (initL 0 l) [] w):Calls P f l.toArray w C:=by
 refine(callsIn_wide (n:=3)).1 (callsIn_of_wp_marks hf hb trivial ((wpIn_wide (n:=3)).2 (h _ ⟨?_,?_,rfl⟩)) rfl)
 ·have:l.length≤n:=by simpa using hl
  simp[hn];omega
 ·intro t v hv
  obtain⟨_,h2⟩:=lk_initL l 0 t v hv
  have hlt:t<l.length:=by
   have:=List.getElem?_eq_some_iff.1 h2
   obtain⟨h,_⟩:=this
   simpa using h
  simp only[Nat.sub_zero]at h2
  rw[Array.getElem?_append_left (by simpa using hlt)]
  simpa using h2
section
variable {fn:Func} {C:Ending→World→Prop}
theorem retM {rs : List ResultVar} {vs : List Value} (hr : fn.results = rs.toArray) (hv : RV P w L rs vs) (hR : C (.returned (tupleOf vs)) w) : N n (bodyPostM Fence.wide 3 P fn C) .ret L [] w := fun a ha => by
 show LeavesInM Fence.wide 3 P fn a.tmps C a.defers .returning w
 rw[ha.defers]
 exact⟨_,run_results' hr ha hv,hR⟩
theorem retMc {D:Nat}{rs:List ResultVar}{vs:List Value}(hr:fn.results=rs.toArray)(hK:w.heap[D]? = some (.deferred (some [])))(hv:RV P (w.putObj D (.deferred none)) L rs vs)(hR:C (.returned (tupleOf vs)) (w.putObj D (.deferred none))) :
  N n (bodyPostM Fence.wide 3 P fn C) .ret L [{target:= .collected D,args:= #[]}] w:=fun a ha=>by
 show LeavesInM Fence.wide 3 P fn a.tmps C a.defers .returning w
 rw[ha.defers]
 exact⟨by simp,.inl ⟨D,_,rfl,run_takeDeferred hK,⟨_,run_results' hr ha hv,hR⟩⟩⟩
end
end
def KpG (G:PH)(W W':World):Prop:=PSub G W→PSub G W'
section
variable {w0 w:World} {G0:PH} {S:List Nat} {G:PH}
theorem acc_cells {e:TypeId}{sz:Nat}{v:Value}{k:Nat}{cs:List Value}{h:Nat→Option Obj}(hp:(acc e sz v k cs).pred h):∀b,b ∈ (acc e sz v k cs).fp→∃c,h b=some (.cells c e (0,0)):=by
 intro b hb
 rcases hp.2 with ⟨rfl,_⟩|⟨g,cap,C,rfl,h1,_⟩
 ·simp[acc_fp_nil]at hb
 ·simp[acc_fp]at hb
  subst hb
  exact⟨_,h1⟩
theorem Hp.turn {b:Nat}{tl te:TypeId}{v:Value}{sz k:Nat}{cs:List Value}{W W':World}{row:Option Nat}(H:Hp w0 G0 S W G [blk b (cl [v] tl),acc te sz v k cs])(hg:W.grownBy W' row)
  (hr:∀r,row=some r→w.heap.size≤r∧∃o:Obj,W.heap[r]? = some o∧o.isCells=false) (hw:w0.heap.size≤w.heap.size) (hG:PSub G w):Hp w0 G0 S W' G [blk b (cl [v] tl),acc te sz v k cs]:=by
 have hsame:∀c o,W.heap[c]? = some o→(o.isCells=true∨c<w.heap.size)→W'.heap[c]? = some o:=by
  intro c o hc ho
  rw[hg.block c (Array.getElem?_eq_some_iff.1 hc).1 ?_]
  ·exact hc
  ·intro e
   obtain⟨h1,o',h2,h3⟩:=hr c e.symm
   rw[hc]at h2
   cases h2
   rcases ho with ho|ho
   ·rw[ho]at h3;cases h3
   ·omega
 refine⟨hg.os.trans H.os,hg.tape.trans H.tape,hg.output.trans H.output,Nat.le_trans H.size hg.size,?_,?_,H.le,H.old,?_,H.nd⟩
 ·intro c hc hS
  rw[←H.ext c hc hS]
  have hlt:c<W.heap.size:=Nat.lt_of_lt_of_le hc H.size
  exact hg.block c hlt (fun e=>by obtain⟨h1,_⟩:=hr c e.symm;omega)
 ·intro c o hc
  exact hsame c o (H.sub c o hc) (.inr (hG.lt hc))
 ·intro r hm
  obtain⟨h1,h2⟩:=H.own r hm
  refine⟨?_,h2⟩
  rcases List.mem_cons.1 hm with rfl|hm
  ·exact hsame b _ h1 (.inl rfl)
  ·rw[List.mem_singleton]at hm
   subst hm
   refine(acc te sz v k cs).loc _ _ (fun c hc=>?_) h1
   obtain⟨C,hC⟩:=acc_cells h1 c hc
   exact hC.trans (hsame c _ hC (.inl rfl)).symm
end
theorem yieldAny {P:Program}{m m' l:Nat}{args:Array Value}{W:World}{R:Ending→World→Prop}(h:YieldAt (wideF none) m P l args W R):YieldAt (wideF none) m' P l args W R:=by
 obtain⟨fn,tmps,assign,body,h1,h2⟩:=h
 exact⟨fn,tmps,assign,body,h1,h2.1,fun c cs _=>h2.2 c cs (room_wide _)⟩
theorem grown_of_ext {w w':World}(e:Ext w w'):w.grownBy w' none:=⟨e.os,e.tape,e.output,e.size,fun k hk _=>e.block k hk⟩
theorem W_collect {α:Type}{E:PH→α→List Value→Prop}{P:Program}{n:Nat}{Q:Post}{L:Slots}{ds:List Deferred}{w0 w:World}{G0:PH}{S:List Nat}{G:PH}{g:Operand}{p q:Nat}{assign body:Code}{gf:Nat}{lb:Array Value}{te tl:TypeId}{sz b:Nat}{v:Value}
  {enc:α→Value} {Sx:List α→Prop} {M:Nat}
  (H:Hp w0 G0 S w G [blk b (cl [v] tl),acc te sz v 0 []]) (hC0:Chk E sz G [] ([]:List α)) (hg:od L g=some (.func (.func gf) #[] lb)) (eg:∀args w,(callFunc gf args).run P w= .ok (.enter gf args) w) (hp:Nat.blt p n=true)
  (hseq:SeqStopsK (wideF none) 2 P gf lb (fun x:α=> #[enc x]) (KpG G) Sx (fun _=>True) M w)
  (hassign : ∀ (r m : Nat) (x : α) (W : World) (Qa : Post), ¬ LetsOut Qa → (∀ (W' : World) (bx : Nat), Hp W (fun _ => none) [] W' (fun _ => none) [blk bx (cl (vc (enc x)) te)] → N n Qa .normal ((q, .pointer (some ⟨bx, 0, none⟩)) :: (p, enc x) :: L) [] W') →
   ∀a,FrL n ((p,enc x)::L) [] a→assign.wpIn (wideF (some r)) m P Qa a W)
  (hbody:∀(r m:Nat) (x:α) (pre:List α) (W:World) (v:Value) (cs:List Value) (bx:Nat) (Qb:Post),pre.length<M→¬LetsOut Qb→Chk E sz G cs pre →
   Hp W G (fps [blk bx (cl (vc (enc x)) te),blk b (cl [v] tl),acc te sz v pre.length cs]) W G [blk bx (cl (vc (enc x)) te),blk b (cl [v] tl),acc te sz v pre.length cs] →
   (∀(L2:Slots) (W':World) (v':Value) (cs':List Value),Hp W G (fps [blk bx (cl (vc (enc x)) te),blk b (cl [v] tl),acc te sz v pre.length cs]) W' G [blk b (cl [v'] tl),acc te sz v' (pre.length+1) cs']→Chk E sz G cs' (pre++[x])→N n Qb .normal L2 [] W') →
   ∀a,FrL n ((q,.pointer (some ⟨bx,0,none⟩))::(p,enc x)::L) [] a→body.wpIn (wideF (some r)) m P Qb a W)
  (next:∀(D:Nat) (xs:List α) (W:World) (v:Value) (cs:List Value),Sx xs→Hp w0 G0 S W G [blk b (cl [v] tl),acc te sz v xs.length cs]→Chk E sz G cs xs→w.heap.size≤D→W.heap[D]? = some (.deferred (some []))→N n Q .normal L ({target:= .collected D,args:= #[]}::ds) W) :
  W P n Q (.rangeFunc g #[p] assign body) L ds w:=by
 intro a ha
 refine(wpIn_wide (n:=3)).1 ?_
 have hGw:PSub G w:=H.sub
 have hbw:b<w.heap.size:=H.lt (by simp[fps,blk])
 have hsz:=H.size
 let I:List α→World→Prop:=fun pre W=>∃v cs,Hp w0 G0 S W G [blk b (cl [v] tl),acc te sz v pre.length cs]∧Chk E sz G cs pre∧w.heap.size≤W.heap.size
 let Ax:α→Act→World→Prop:=fun x a' W=>∃bx,FrL n ((q,.pointer (some ⟨bx,0,none⟩))::(p,enc x)::L) [] a'∧W.heap[bx]? = some (cl (vc (enc x)) te)∧w.heap.size≤bx∧∀v',W.heap[b]? = some (cl [v'] tl)→bx ∉ (acc te sz v' 0 []).fp
 have hI : OwnFrom w.heap.size I := fun pre W W' row h hg' hr => by
  obtain⟨v,cs,H',hc,hle⟩:=h
  exact⟨v,cs,H'.turn hg' hr hsz hGw,hc,Nat.le_trans hle hg'.size⟩
 have hAx : ∀ x a', OwnFrom w.heap.size (fun (_ : Unit) W => Ax x a' W) := fun x a' _ W W' row h hg' hr => by
  obtain⟨bx,h1,h2,h3,h4⟩:=h
  have hbx:=(Array.getElem?_eq_some_iff.1 h2).1
  refine⟨bx,h1,?_,h3,fun v' hv'=>h4 v' ?_⟩
  ·rw[hg'.block bx hbx ?_]
   ·exact h2
   ·intro e
    obtain⟨_,o,ho,hoc⟩:=hr bx e.symm
    rw[h2]at ho
    cases ho
    cases hoc
  ·rw[hg'.block b (by omega) ?_]at hv'
   ·exact hv'
   ·intro e
    obtain⟨hh,_⟩:=hr b e.symm
    omega
 refine wpIn_rangeFunc_ownH (F:=wideF none) (n:=3) rfl (by omega) (gf:=gf) (lb:=lb) (ha.eval hg) trivial eg hseq (fun h k hh=>k (h hh)) ?_ (Below.refl _ _) (fun _=>rfl) I (fun _ _ _=>False) hI (fun _=>fun _ _ _ _ h _ _=>h) ⟨v,[],by simpa using H,hC0,Nat.le_refl _⟩ Ax hAx ?_ ?_ ?_ ?_
 ·intro W l o o' hl ho hoc _ hs c x hc
  rw[World.putObj_heap_other (by have:=hGw.lt hc;omega)]
  exact hs c x hc
 ·intro l pre x W K hi hK
  refine hassign l _ x W _ (fun⟨_,_,h⟩=>h) (fun W' bx H' a' ha'=>?_) _ ?_
  ·have hx:=H'.toExt
   have hown:=H'.own _ (List.mem_cons_self ..)
   have hbx:W.heap.size≤bx:=by
    rcases (hown.2 bx (by simp[blk])).2 with h|h
    ·simp at h
    ·exact h
   obtain⟨v,cs,H1,hc,hwW⟩:=hi
   refine hK a' W' ⟨hx.size,fun k o _ hk _=>(hx.block k (Array.getElem?_eq_some_iff.1 hk).1).trans hk⟩ (fun hs=>hs.ext hx) ⟨v,cs,H1.step hx,hc,Nat.le_trans hwW hx.size⟩ ⟨bx,ha',hown.1,Nat.le_trans hwW hbx,fun v' hv'=>?_⟩
   ·have hbW:b<W.heap.size:=H1.lt (by simp[fps,blk])
    rw[hx.block b hbW]at hv'
    have hv0:W.heap[b]? = some (cl [v] tl):=(H1.own _ (List.mem_cons_self ..)).1
    rw[hv0]at hv'
    cases hv'
    intro hm
    have:bx<W.heap.size:=H1.lt (List.mem_flatMap.2 ⟨_,List.mem_cons_of_mem _ (List.mem_singleton.2 rfl),hm⟩)
    omega
  ·have h1:=ha.put hp (enc x)
   refine⟨?_,?_,rfl⟩
   ·simpa [Act.put] using h1.size
   ·simpa [Act.put] using h1.get
 ·rintro l pre x a' W hl hrec ⟨v,cs,H1,hc,hwW⟩ ⟨bx,h1,h2,h3,h4⟩ hlen
  have hv0:W.heap[b]? = some (cl [v] tl):=(H1.own _ (List.mem_cons_self ..)).1
  have hacc:=H1.own _ (List.mem_cons_of_mem _ (List.mem_cons_self ..))
  have hbG:G bx=none:=by
   cases e:G bx with
   | none=>rfl
   | some o=>have:=hGw.lt e;omega
  have hnb:bx≠b:=by omega
  have hnf:bx ∉ (acc te sz v pre.length cs).fp:=h4 v hv0
  have H2:Hp w0 G0 S W G [blk bx (cl (vc (enc x)) te),blk b (cl [v] tl),acc te sz v pre.length cs]:=by
   refine⟨H1.os,H1.tape,H1.output,H1.size,H1.ext,H1.sub,H1.le,H1.old,?_,?_⟩
   ·intro r hr
    rcases List.mem_cons.1 hr with rfl|hr
    ·refine⟨h2,fun c hc'=>?_⟩
     simp[blk]at hc'
     subst hc'
     exact⟨hbG,.inr (by omega)⟩
    ·exact H1.own r hr
   ·have hnd:=H1.nd
    simp only[fps,List.flatMap_cons,List.flatMap_nil,List.append_nil]at hnd ⊢
    have e1:(blk bx (cl (vc (enc x)) te)).fp=[bx]:=rfl
    have e2:(blk b (cl [v] tl)).fp=[b]:=rfl
    rw[e1]
    refine List.nodup_append.2 ⟨by simp,hnd,?_⟩
    intro c hc1 d hd1 e
    simp at hc1
    subst hc1 e
    rcases List.mem_append.1 hd1 with h|h
    ·rw[e2]at h;simp at h;exact hnb h
    ·exact hnf h
  have hL:Lent W G [blk bx (cl (vc (enc x)) te),blk b (cl [v] tl),acc te sz v pre.length cs]:=H2.lent3
  refine hbody l _ x pre W v cs bx _ hlen (fun⟨_,_,h⟩=>h) hc hL.hp (fun L2 W' v' cs' H' hc' a2 ha2=>?_) a' h1
  have hS:∀k o,W.heap[k]? = some o→o.isCells=false→k ∉ fps [blk bx (cl (vc (enc x)) te),blk b (cl [v] tl),acc te sz v pre.length cs]:=by
   intro k o hk ho hm
   obtain⟨r,hr,hkr⟩:=List.mem_flatMap.1 hm
   rcases List.mem_cons.1 hr with rfl|hr
   ·simp[blk]at hkr;subst hkr;rw[h2]at hk;cases hk;cases ho
   ·rcases List.mem_cons.1 hr with rfl|hr
    ·simp[blk]at hkr;subst hkr;rw[hv0]at hk;cases hk;cases ho
    ·rw[List.mem_singleton]at hr
     subst hr
     obtain⟨c,hc2⟩:=acc_cells hacc.1 k hkr
     rw[hc2]at hk;cases hk;cases ho
  refine⟨⟨H'.size,fun k o _ hk ho=>?_⟩,fun _=>H'.sub,v',cs',?_,hc',Nat.le_trans hwW H'.size⟩
  ·rw[H'.ext k (Array.getElem?_eq_some_iff.1 hk).1 (hS k o hk ho)]
   exact hk
  ·have:=Hp.borrows (Ls:=[blk bx (cl (vc (enc x)) te),blk b (cl [v] tl),acc te sz v pre.length cs]) (B:=[]) (by simpa using H2) H'
   simpa using this
 ·rintro D xs W hD hS ⟨v,cs,H1,hc,_⟩ hK
  exact next D xs W v cs hS H1 hc hD hK _ ⟨ha.size,ha.get,by simp[ha.defers]⟩
 ·rintro D c pre W hD _ h
  exact h.elim
end Fw
namespace Fw
structure BTurn where
 snap:Bs
 kind:Int
end Fw
namespace Sp
open Fw Nd
def itemAt (l:List BItem)(p:Bs):Option BItem:=(atI l p).bind (fun i=>l[i]?)
def l33Turn (a b : List BItem) (p : Bs) : Int := match itemAt a p, itemAt b p with
 | none,some _=>1
 | some _,none=>2
 | some x,some y=>if l13Same x y then 0 else 3
 | none,none=>0
def histGo (p:Bs):List BItem→List BSnap→List BTurn
 | _,[]=>[]
 | old,s::r=>(if 0<l33Turn old s.tree p then[⟨s.name,l33Turn old s.tree p⟩] else[])++histGo p s.tree r
def HistoryOf (d:BDisk)(p:Bs):List BTurn:=if DiskValid d&&PathValid p then histGo p [] d.snaps else[]
def lastT (old:List BItem)(l:List BSnap):List BItem:=((l.getLast?).map (·.tree)).getD old
theorem turn_same (l:List BItem)(p:Bs):l33Turn l l p=0:=by
 unfold l33Turn
 cases e:itemAt l p with
 | none=>rfl
 | some x=>simp[same_iff.2 (rfl:x=x)]
theorem hist_app (p:Bs):∀(l m:List BSnap) (old:List BItem),histGo p old (l++m)=histGo p old l++histGo p (lastT old l) m
 | [],m,old=>rfl
 | s :: r, m, old => by
  have ih:=hist_app p r m s.tree
  have hl:lastT old (s::r)=lastT s.tree r:=by
   unfold lastT
   cases r with
   | nil=>rfl
   | cons q r' => rw [List.getLast?_cons_cons]; cases e : (q :: r').getLast? with
    | none=>simp at e
    | some y=>rfl
  rw[List.cons_append,histGo,histGo,ih,hl,List.append_assoc]
theorem hist_step {p : Bs} {l : List BSnap} {k : Nat} {s : BSnap} (h : l[k]? = some s) : histGo p [] (l.take (k + 1)) = histGo p [] (l.take k) ++ (if 0 < l33Turn (lastT [] (l.take k)) s.tree p then [⟨s.name, l33Turn (lastT [] (l.take k)) s.tree p⟩] else []) ∧ lastT [] (l.take (k + 1)) = s.tree := by
 have e:l.take (k+1)=l.take k++[s]:=by rw[List.take_succ,h];rfl
 rw[e,hist_app]
 refine⟨?_,?_⟩
 ·simp[histGo]
 ·simp[lastT]
theorem hist_len (p:Bs):∀(l:List BSnap) (old:List BItem),(histGo p old l).length≤l.length
 | [],_=>by simp[histGo]
 | s :: r, old => by
  have:=hist_len p r s.tree
  rw[histGo,List.length_append,List.length_cons]
  split<;>simp<;>omega
theorem hist_take {d d1 d2:BDisk}{n m p:Bs}(h1:SnapTake d n=some d1)(h2:SnapTake d1 m=some d2):HistoryOf d2 p=HistoryOf d1 p:=by
 have v1:=take_valid h1
 have v2:=take_valid h2
 have s1:=take_snaps h1
 have s2:=take_snaps h2
 have t1:=take_tree h1
 unfold HistoryOf
 rw[v1,v2,s2,hist_app]
 have e:lastT [] d1.snaps=d1.tree:=by rw[s1,t1];simp[lastT]
 rw[e]
 simp[histGo,turn_same]
end Sp
namespace Fw
open Go Go.RowKit
def ptrO:Option Nd→Value
 | none=> .pointer none
 | some d=> .pointer (some ⟨d.b,0,none⟩)
def kindN:Option Nd→Option Nd→Int
 | none,none=>0
 | none,some _=>1
 | some _,none=>2
 | some t,some u=>if Sp.l13Same ⟨t.name,t.dir,t.ids⟩ ⟨u.name,u.dir,u.ids⟩ then 0 else 3
abbrev encT (x:BTurn):Value:= .agg #[str x.snap,.int .i64 x.kind]
def turnE:PH→BTurn→List Value→Prop:=fun _ x cs=>cs=[str x.snap,.int .i64 x.kind]
instance:MonoE turnE:=⟨fun _ h=>h⟩
def prevN (sn:List (Bs×Nd))(p:Bs)(k:Nat):Option Nd:=if k=0 then none else(sn[k-1]?).bind (fun z=>z.2.find p)
theorem at_nm {T k:Nd}{ps:List Bs}(h:T.at_ ps=some k)(hne:ps≠[]):k.name=ps.getLast hne:=by
 have e:=(List.dropLast_concat_getLast hne).symm
 rw[e,Nd.at_snoc]at h
 cases ha:T.at_ ps.dropLast with
 | none=>rw[ha]at h;simp at h
 | some d =>
  rw[ha]at h
  have h:d.kid (ps.getLast hne)=some k:=by simpa using h
  unfold Nd.kid at h
  have:=List.find?_some h
  simpa using this
theorem kind_turn {T U:Nd}{L M:List BItem}(hT:Nd.TOK T L)(hU:Nd.TOK U M)(p:Bs):kindN (T.find p) (U.find p)=Sp.l33Turn L M p:=by
 have h1:=Nd.find_list hT p
 have h2:=Nd.find_list hU p
 unfold Sp.l33Turn Sp.itemAt
 rw[←h1,←h2]
 cases e1:T.find p with
 | none=>cases e2:U.find p<;>simp[kindN]
 | some d =>
  cases e2:U.find p with
  | none=>simp[kindN]
  | some c =>
   have hn:d.name=c.name:=(at_nm (Nd.find_at_ e1) (Sp.cut_ne p)).trans (at_nm (Nd.find_at_ e2) (Sp.cut_ne p)).symm
   simp only[kindN,Option.map_some,Sp.l13Same,hn]
   first|done|simp|rfl
theorem kind_new {U:Nd}{M:List BItem}(hU:Nd.TOK U M)(p:Bs):kindN none (U.find p)=Sp.l33Turn [] M p:=by
 have h2:=Nd.find_list hU p
 unfold Sp.l33Turn Sp.itemAt
 rw[←h2]
 have h0:((Sp.atI [] p).bind fun i=>([]:List BItem)[i]?)=none:=by simp[Sp.atI]
 rw[h0]
 cases e2:U.find p<;>simp[kindN]
theorem kind_bnd (a b:Option Nd):0≤kindN a b∧kindN a b≤3:=by
 cases a<;>cases b<;>simp only[kindN]
 ·omega
 ·omega
 ·omega
 ·split<;>omega
theorem prev_rd {G:PH}{sn:List (Bs×Nd)}{p:Bs}{k:Nat}(h:RdNs G (sn.map (·.2))):∀d,prevN sn p k=some d→RdN G d:=by
 intro d hd
 unfold prevN at hd
 split at hd
 ·cases hd
 ·obtain⟨z,hz,hf⟩:=Option.bind_eq_some_iff.1 hd
  exact((RdNs_iff.1 h) z.2 (List.mem_map_of_mem (List.mem_of_getElem? hz))).at (Nd.find_at_ hf)
theorem prev_succ {sn:List (Bs×Nd)}{p:Bs}{k:Nat}{z:Bs×Nd}(hz:sn[k]? = some z):prevN sn p (k+1)=z.2.find p:=by
 simp[prevN,hz]
theorem hist_kind {sn:List (Bs×Nd)}{L:List BSnap}(h:SnOK sn L){p:Bs}{k:Nat}{z:Bs×Nd}(hz:sn[k]? = some z):∃s,L[k]? = some s∧z.1=s.name∧kindN (prevN sn p k) (z.2.find p)=Sp.l33Turn (Sp.lastT [] (L.take k)) s.tree p:=by
 obtain⟨s,hs,h1,h2,_⟩:=h.at hz
 refine⟨s,hs,h1,?_⟩
 unfold prevN
 split
 ·rename_i h0
  subst h0
  simpa [Sp.lastT] using kind_new h2 p
 ·rename_i h0
  have hk:k<sn.length:=(List.getElem?_eq_some_iff.1 hz).1
  have hk1:k-1<sn.length:=by omega
  obtain⟨s',hs',_,h2',_⟩:=h.at (List.getElem?_eq_getElem hk1)
  rw[List.getElem?_eq_getElem hk1]
  have e:Sp.lastT [] (L.take k)=s'.tree:=by
   unfold Sp.lastT
   have:(L.take k).getLast? = some s':=by
    rw[List.getLast?_eq_getElem?,List.length_take,List.getElem?_take]
    have hl:=h.len
    rw[show min k L.length-1=k-1 by omega,if_pos (by omega)]
    exact hs'
   rw[this]
   rfl
  rw[e]
  exact kind_turn h2' h2 p
theorem hist_yes {sn:List (Bs×Nd)}{L:List BSnap}(h:SnOK sn L){p:Bs}{k:Nat}{z:Bs×Nd}(hz:sn[k]? = some z)(hne:kindN (prevN sn p k) (z.2.find p)≠0) :
  Sp.histGo p [] (L.take (k+1))=Sp.histGo p [] (L.take k)++[⟨z.1,kindN (prevN sn p k) (z.2.find p)⟩]:=by
 obtain⟨s,hs,h1,h2⟩:=hist_kind h (p:=p) hz
 have hb:=kind_bnd (prevN sn p k) (z.2.find p)
 rw[(Sp.hist_step hs).1,←h2,h1,if_pos (by omega)]
theorem hist_no {sn:List (Bs×Nd)}{L:List BSnap}(h:SnOK sn L){p:Bs}{k:Nat}{z:Bs×Nd}(hz:sn[k]? = some z)(hne:kindN (prevN sn p k) (z.2.find p)=0) :
  Sp.histGo p [] (L.take (k+1))=Sp.histGo p [] (L.take k):=by
 obtain⟨s,hs,h1,h2⟩:=hist_kind h (p:=p) hz
 rw[(Sp.hist_step hs).1,←h2,if_neg (by omega),List.append_nil]
theorem hist_lt {L:List BSnap}{p:Bs}{k:Nat}(h6:L.length≤6)(hk:k<L.length):(Sp.histGo p [] (L.take k)).length<6:=by
 have:=Sp.hist_len p (L.take k) []
 rw[List.length_take]at this
 omega
section
variable {w0 w:World} {G0:PH} {S:List Nat} {G:PH} {B:List Res}
theorem Hp.keepNs {NT PT:TypeId}(H:Hp w0 G0 S w G B){k:Nat}{F:Fr}{t:List Nd}(hk:nth B k=some (frag F))(hS:∀b,b ∈ dm F→b ∉ S)(h:NdsO NT PT G t F):∃G',Hp w0 G0 S w G' (delN B k)∧PLe G G'∧RdNs G' t:=by
 have hn:=dm_nodup H hk
 obtain⟨G',H',h1,h2⟩:=H.keepF hk hS
 exact⟨G',H',h1,NdsO.rd h1 h h2 hn⟩
theorem psub_below {w w' : World} (h : PSub G w) (hb : Go.RowKit.Below w.heap.size w w') : PSub G w' := fun b o hg => by
 rw[hb.block b (h.lt hg)]
 exact h b o hg
theorem Hp.putD {D b:Nat}{tl te:TypeId}{v:Value}{sz k:Nat}{cs:List Value}{W:World}(H:Hp w0 G0 S W G [blk b (cl [v] tl),acc te sz v k cs])(hw:w0.heap.size≤w.heap.size)(hG:PSub G w)(hD:w.heap.size≤D)(hK:W.heap[D]? = some (.deferred (some []))) :
  Hp w0 G0 S (W.putObj D (.deferred none)) G [blk b (cl [v] tl),acc te sz v k cs] :=
 H.turn (w:=w) (grownBy_putObj' W D _) (fun r e=>by cases e;exact⟨hD,_,hK,rfl⟩) hw hG
end
end Fw
namespace Fw
open Go
section
variable {H:Type} {enc:TypeId×Value→H} {P:Program} {W:World}
structure Bulk (bk:DataW H→Nat) (bka:List (DataW H)→Nat):Prop where
 slice:∀es sp,bk (.slice es sp)=bka es+bka sp+1
 agg:∀ps,bk (.agg ps)=bka ps+1
 str:∀b,bk (.lit (.string b))=b.length+1
 nil:bka []=0
 cons:∀d r,bka (d::r)=bk d+bka r
 pos:∀d,1≤bk d
variable {bk:DataW H→Nat} {bka:List (DataW H)→Nat}
theorem Bulk.len (hb:Bulk bk bka):∀l,l.length≤bka l
 | []=>by simp
 | d :: r => by
  have h1:=hb.len r
  have h2:=hb.pos d
  rw[hb.cons]
  simp;omega
theorem Bulk.mem (hb:Bulk bk bka){d:DataW H}:∀{l:List (DataW H)},d ∈ l→bk d≤bka l
 | [],h=>by simp at h
 | e :: r, h => by
  rw[hb.cons]
  rcases List.mem_cons.1 h with rfl|h
  ·omega
  ·have:=hb.mem h
   omega
theorem Bulk.memF (hb : Bulk bk bka) {l : List (DataW H × List MemPlace)} {i : Nat} (hi : i < l.length) : bk (l[i]).1 ≤ bka (l.map (fun x => x.1)) :=
 hb.mem (List.mem_map.2 ⟨l[i],List.getElem_mem hi,rfl⟩)
abbrev Reads (enc:TypeId×Value→H) (P:Program) (W:World) (n:Nat) (t:TypeId) (cs:List Value):Option (DataW H×List MemPlace):=DataW.trod enc P W 0 (fun _=>true) true n t cs
def Elem (enc:TypeId×Value→H)(P:Program)(W:World)(bk:DataW H→Nat)(t:TypeId)(sz:Nat){α:Type}(E:PH→α→List Value→Prop):Prop :=
 ∀n cs x,Reads enc P W n t cs=some x→bk x.1≤1048576→∃a,cs.length=sz∧E (PAll W) a cs
theorem elem_u8 {t:TypeId}(ht:P.underlying t=some (.int .u8)):Elem enc P W bk t 1 u8E:=by
 intro n cs x h _
 obtain⟨i,rfl,_,hw⟩:=DataW.trod_int ht h
 simp[Lit.wf,IntKind.min,IntKind.max,IntKind.signed,IntKind.bits]at hw
 refine⟨UInt8.ofNat i.toNat,rfl,?_⟩
 show[Value.int .u8 i]=[.int .u8 ((UInt8.ofNat i.toNat).toNat:Int)]
 congr 2
 rw[UInt8.toNat_ofNat']
 omega
theorem list_of {α:Type}{Q:Nat→α→Prop}:∀n,(∀i,i<n→∃x,Q i x)→∃xs:List α,xs.length=n∧∀i x,xs[i]? = some x→Q i x
 | 0,_=>⟨[],rfl,by simp⟩
 | n + 1, h => by
  obtain⟨xs,h1,h2⟩:=list_of n (fun i hi=>h i (by omega))
  obtain⟨x,hx⟩:=h n (by omega)
  refine⟨xs++[x],by simp[h1],fun i y hy=>?_⟩
  by_cases hi:i<n
  ·rw[List.getElem?_append_left (by omega)]at hy
   exact h2 i y hy
  ·rw[List.getElem?_append_right (by omega)]at hy
   have:i=n:=by
    have:=(List.getElem?_eq_some_iff.1 hy).1
    simp at this
    omega
   subst this
   simp[h1]at hy
   subst hy
   exact hx
theorem mapM_at {α β:Type}{f:α→Option β}:∀{l:List α} {r:List β},l.mapM f=some r→∀(i:Nat) (x:α),l[i]? = some x→f x=r[i]?
 | [],r,h,i,x,hx=>by simp at hx
 | y :: t, r, h, i, x, hx => by
  simp only[List.mapM_cons,Option.bind_eq_bind,Option.bind_eq_some_iff,Option.pure_def,Option.some.injEq]at h
  obtain⟨z,h1,u,h2,rfl⟩:=h
  cases i with
  | zero=>simp at hx;subst hx;simpa using h1
  | succ i=>simp only[List.getElem?_cons_succ]at hx ⊢;exact mapM_at h2 i x hx
theorem pcell_of {b o:Nat}{v:Value}(h:W.cell? ⟨b,o,none⟩=some v):PCell (PAll W) b o v:=by
 unfold World.cell? at h
 unfold PCell PAll
 split at h
 ·rename_i C e fz hb
  exact⟨C,e,fz,hb,by simpa using h⟩
 ·cases h
theorem elem_slice {α:Type}{E:PH→α→List Value→Prop}(hb:Bulk bk bka){t e:TypeId}{sz:Nat}(ht:P.underlying t=some (.slice e))(hz:P.cellsOf e=sz)(hsz:0<sz)(hE:Elem enc P W bk e sz E) :
  ∀n cs x,Reads enc P W n t cs=some x→bk x.1≤1048576→∃v xs,cs=[v]∧RdS LIM E sz (PAll W) v xs:=by
 intro n cs x h hx
 rcases DataW.trod_slice ht h with ⟨rfl,_⟩|⟨a,len,cap,elems,rest,m,_,rfl,rfl,_,h2,_,h4,h5,_,_⟩
 ·exact⟨_,[],rfl,RdS.nil _ _ _⟩
 ·simp only[hb.slice]at hx
  rw[hz]at h5
  have hle:=hb.len (elems.map (·.1))
  rw[List.length_map]at hle
  have hel:∀i,i<len→∃y:α,∃cs,cs.length=sz∧E (PAll W) y cs∧∀j v,cs[j]? = some v→W.cell? ((a.add (i*sz)).add j)=some v:=by
   intro i hi
   have h6:=h5 i hi
   rw[List.getElem?_eq_getElem (by omega)]at h6
   obtain⟨cs,k1,k2⟩:=Option.bind_eq_some_iff.1 h6
   obtain⟨y,k3,k4⟩:=hE m cs _ k2 (Nat.le_trans (hb.memF (by omega)) (by omega))
   refine⟨y,cs,k3,k4,fun j v hj=>?_⟩
   unfold World.cells? at k1
   split at k1
   ·have hjl:=(List.getElem?_eq_some_iff.1 hj).1
    rw[←hj]
    exact mapM_at k1 j j (by rw[List.getElem?_range (by omega)])
   ·cases k1
  obtain⟨xs,x1,x2⟩:=list_of len hel
  refine⟨_,xs,rfl,some a,cap,by rw[x1],by omega,by simp only[LIM];omega,?_⟩
  by_cases h0:len=0
  ·exact .inl (List.eq_nil_of_length_eq_zero (by omega))
  ·right
   have hspot:a.spot=none:=by
    obtain⟨y,cs,y1,_,y2⟩:=hel 0 (by omega)
    have:=World.cell?_spot (y2 0 cs[0] (by simp))
    simpa [Addr.add] using this
   obtain⟨b,o,sp⟩:=a
   simp only at hspot
   subst hspot
   refine⟨b,o,rfl,fun i y hy=>?_⟩
   obtain⟨cs,c1,c2,c3⟩:=x2 i y hy
   refine⟨cs,c1,c2,fun j v hj=>pcell_of ?_⟩
   have:=c3 j v hj
   rwa [Addr.add_lit,Addr.add_lit]at this
variable {ti ts tb tis:TypeId}
theorem same_of_ext {w w':World}(h:Ext w w'){p:MemPlace}(hp:p.block<w.heap.size):w.sameAt w' p:=by
 have hb:=h.block p.block hp
 cases p with
 | cell b off=>simp only[World.sameAt,World.cell?];simp only[MemPlace.block]at hb;rw[hb]
 | map b=>simp only[World.sameAt];simpa [MemPlace.block] using hb
end
end Fw
namespace Fw
open Go Go.ChangeShapes Go.WideShapes
section
variable {H:Type} {enc:TypeId×Value→H} {P:Program}
theorem trodAll_stays (hl:laidOutB P=true){W W':World}{sp':Nat→Bool}:∀{ts:List TypeId} {vs:List Value} {ds:List (DataW H)} {ps:List MemPlace},(∀t,t ∈ ts→P.readableRec t=true∧t<P.types.size) →
  DataW.TrodAll enc P W 0 (fun _=>true) true ts vs ds ps→(∀p ∈ ps,W.sameAt W' p)→(∀p ∈ ps,sp' p.block=true)→DataW.TrodAll enc P W' 0 sp' true ts vs ds ps
 | [], _, _, _, _, h, _, _ => by
  obtain⟨rfl,rfl,rfl⟩:=trodAll_nil h
  rfl
 | t :: ts, _, _, _, hr, h, hs, hq => by
  obtain⟨v,vs1,d,ds1,a,b,rfl,rfl,rfl,h1,h2⟩:=trodAll_cons h
  exact ⟨a, b, WideElems.Trod_stays hl (hr t (by simp)).1 (hr t (by simp)).2 h1 (fun p hp => hs p (by simp [hp])) (fun p hp => hq p (by simp [hp])),
   trodAll_stays hl (fun t ht=>hr t (by simp[ht])) h2 (fun p hp=>hs p (by simp[hp])) (fun p hp=>hq p (by simp[hp])),rfl⟩
theorem kept_of_ext {W W':World}(h:Ext W W')(may:MemPlace→Prop):W.keptBut W' may:=by
 refine⟨h.os,h.output,fun i hi=>?_⟩
 rw[h.block i hi]
 cases W.heap[i]? with
 | none=>simp
 | some o=>cases o<;>simp
theorem law_post {f:Func}{s:ChangeSpec}{apart fresh handsOn again:Bool}{W W':World}{args:Array Value}{ds gs:List (DataW H)}{before:List MemPlace}(hl:laidOutB P=true)(hr:∀t,t ∈ f.params.toList→P.readableRec t=true∧t<P.types.size)
  (hv:s.vars=[]) (hW:DataW.Whole enc P f.params.toList s.vars apart W args.toList ds gs before) (hx:Ext W W') (hfr:(s.fn H (ds++gs)).results=[.lit (.bool true)]) (hfa:(s.fn H (ds++gs)).args=ds) (hfv:(s.fn H (ds++gs)).vars=[])
  (hres:∀(b:Nat) (sp:Nat→Bool) (hd:Bool),DataW.TrodAll enc P W' b sp hd f.resultTypes.toList ((Value.bool true).resultList f.resultTypes.size) [.lit (.bool true)] [])
  (hok:∀(j:Nat) (t:TypeId) (r:Value),f.resultTypes[j]? = some t→((Value.bool true).resultList f.resultTypes.size)[j]? = some r→Value.okWide P W' .any 0 t r) :
  s.post enc P f apart fresh handsOn again W args (.bool true) W':=by
 have hW':=hW
 obtain⟨p,q,hA,hV,rfl,hz,hn⟩:=hW
 rw[hv]at hV
 have hgs:gs=[]∧q=[]:=by
  cases gs with
  | nil=>exact⟨rfl,hV⟩
  | cons d r=>exact hV.elim
 obtain⟨rfl,rfl⟩:=hgs
 rw[List.append_nil]at hW' hz hn
 have hlt:∀m ∈ p,m.block<W.heap.size:=fun m hm=>hW'.lt m hm
 have hold:∀m ∈ p,(fun b=>decide (b<W.heap.size)) m.block=true:=fun m hm=>by simpa using hlt m hm
 have hargs : ∀ sp : Nat → Bool, (∀ m ∈ p, sp m.block = true) → DataW.TrodAll enc P W' 0 sp true f.params.toList args.toList (s.fn H (ds ++ [])).args p := fun sp hsp => by
  rw[hfa]
  exact trodAll_stays hl hr hA (fun m hm=>same_of_ext hx (hlt m hm)) hsp
 have hvars:∀sp:Nat→Bool,DataW.TrodVars enc P W' sp s.vars (s.fn H (ds++[])).vars []:=fun sp=>by rw[hv,hfv];rfl
 have hres':∀(b:Nat) (sp:Nat→Bool) (hd:Bool),DataW.TrodAll enc P W' b sp hd f.resultTypes.toList ((Value.bool true).resultList f.resultTypes.size) (s.fn H (ds++[])).results []:=fun b sp hd=>by rw[hfr];exact hres b sp hd
 refine⟨ds,[],p,[],p,[],hW',hres' _ _ _,hargs _ hold,hvars _,World.keptBut_mono (fun m hm=>⟨hm,Or.inr ?_⟩) (kept_of_ext hx (· ∈ p)),fun _=>?_⟩
 ·simpa using hm
 ·refine⟨hok,_,_,([]++p)++[],⟨[]++p,[],trodAll_append (hargs _ (fun _ _=>rfl)) (hres' _ _ _),hvars _,rfl,?_,?_⟩,?_⟩
  ·intro b off hp
   have hp':MemPlace.cell b off ∈ p:=by simpa using hp
   have h1:=hz b off hp'
   have h2:=hx.block b (hlt _ hp')
   simp only[World.frozen?]at h1 ⊢
   rw[h2]
   exact h1
  ·intro ha
   simpa using hn ha
  ·intro m hm _
   simpa using hm
end
end Fw
namespace Fw
open Go Go.WideShapes
theorem slice_of {P:Program}{W:World}{b:Nat}{t e:TypeId}{v u:Value}(ht:P.underlying t=some (.slice e))(h:Value.okWide P W .any b t v)(hu:v.cells.toList=[u]):v=u:=by
 unfold Value.okWide at h
 rw[ht]at h
 unfold Cell.okWide at h
 rw[ht]at h
 cases v<;>simp_all [Value.cells,Cell.ok]
end Fw
namespace Fw
open Go
def opO:Fr→BOp→List Value→Prop:=fun F x cs=>∃a m c,cs=[.int .i64 x.kind,str x.path,.slice a m c]∧inI x.kind∧x.path.length≤16777216∧OI F (.slice a m c) x.bytes
abbrev OOp (F:Fr) (v:Value) (xs:List BOp):Prop:=∃e,OwnS opO 3 e F v xs
theorem opO.rd {F:Fr}{x:BOp}{cs:List Value}{G:PH}(h:opO F x cs)(hle:PLe (fh F) G)(hn:(dm F).Nodup):opE G x cs:=by
 obtain⟨a,m,c,rfl,h1,h2,h3⟩:=h
 exact⟨a,m,c,rfl,h1,h2,h3.rd hle hn⟩
theorem OOp.rd {F:Fr}{v:Value}{xs:List BOp}{G:PH}(h:OOp F v xs)(hle:PLe (fh F) G)(hn:(dm F).Nodup):RdOp G v xs:=let ⟨_,h⟩:=h;h.rd hle hn (fun _ _ _ h1 h2 h=>opO.rd h h1 h2)
theorem OOp.mk {e:TypeId}{F:Fr}{v:Value}{xs:List BOp}(h:OwnS opO 3 e F v xs):OOp F v xs:=⟨_,h⟩
def partO:Fr→BPart→List Value→Prop:=fun F x cs=>∃a m c,cs=[.int .i64 x.kind,str x.path,.bool x.dir,.slice a m c]∧inI x.kind∧x.path.length≤16777216∧OI F (.slice a m c) x.bytes
abbrev OPt (F:Fr) (v:Value) (xs:List BPart):Prop:=∃e,OwnS partO 4 e F v xs
theorem partO.rd {F:Fr}{x:BPart}{cs:List Value}{G:PH}(h:partO F x cs)(hle:PLe (fh F) G)(hn:(dm F).Nodup):partE G x cs:=by
 obtain⟨a,m,c,rfl,h1,h2,h3⟩:=h
 exact⟨a,m,c,rfl,h1,h2,h3.rd hle hn⟩
theorem OPt.rd {F:Fr}{v:Value}{xs:List BPart}{G:PH}(h:OPt F v xs)(hle:PLe (fh F) G)(hn:(dm F).Nodup):RdPart G v xs:=let ⟨_,h⟩:=h;h.rd hle hn (fun _ _ _ h1 h2 h=>partO.rd h h1 h2)
theorem OPt.mk {e:TypeId}{F:Fr}{v:Value}{xs:List BPart}(h:OwnS partO 4 e F v xs):OPt F v xs:=⟨_,h⟩
section
variable {w0 w w':World} {G0 G G':PH} {S:List Nat} {B Bs:List Res}
end
section
variable {H:Type} {enc:TypeId×Value→H} {P:Program} {W:World} {bk:DataW H→Nat} {bka:List (DataW H)→Nat} {ti ts tb tis:TypeId}
end
end Fw
namespace Fw
end Fw
namespace Go.Proofs.Tst
open Go Fw Tryz
theorem bf27:BuildFact Tryz.prog 27 [(0,1),(1,1),(2,1)] [.slice none 0 0,.slice none 0 0,.slice none 0 0]:=buildFact zeroValue27 runUnderlying27 (fun w=>by simp[sizeOf23,sizeOf24,sizeOf25])
theorem bf35:BuildFact Tryz.prog 35 [(0,1),(1,1),(2,1)] [str [],.bool false,.slice none 0 0]:=buildFact zeroValue35 runUnderlying35 (fun w=>by simp[sizeOf4,sizeOf9,sizeOf33])
theorem bf107:BuildFact Tryz.prog 107 [(0,1),(1,1)] [str [],.slice none 0 0]:=buildFact zeroValue107 runUnderlying107 (fun w=>by simp[sizeOf9,sizeOf24])
theorem bf111:BuildFact Tryz.prog 111 [(0,1),(1,1)] [str [],.int .i64 0]:=buildFact zeroValue111 runUnderlying111 (fun w=>by simp[sizeOf3,sizeOf9])
theorem bf123:BuildFact Tryz.prog 123 [(0,1),(1,1)] [.map none,.pointer none]:=buildFact zeroValue123 runUnderlying123 (fun w=>by simp[sizeOf119,sizeOf121])
theorem bf133:BuildFact Tryz.prog 133 [(0,2),(2,2),(4,1)] [.int .i32 0,.int .u32 0,.map none,.pointer none,.slice none 0 0]:=buildFact zeroValue133 runUnderlying133 (fun w=>by simp[sizeOf123,sizeOf130,sizeOf131])
theorem bf138:BuildFact Tryz.prog 138 [(0,1),(1,1),(2,1),(3,1)] [str [],.bool false,.slice none 0 0,.slice none 0 0]:=buildFact zeroValue138 runUnderlying138 (fun w=>by simp[sizeOf4,sizeOf9,sizeOf33,sizeOf136])
theorem bf153:BuildFact Tryz.prog 153 [(0,1),(1,1),(2,1)] [.int .i64 0,.slice none 0 0,.int .i64 0]:=buildFact zeroValue153 runUnderlying153 (fun w=>by simp[sizeOf3,sizeOf33])
theorem bf192:BuildFact Tryz.prog 192 [(0,1),(1,1)] [.slice none 0 0,.int .i64 0]:=buildFact zeroValue192 runUnderlying192 (fun w=>by simp[sizeOf3,sizeOf22])
theorem bf194:BuildFact Tryz.prog 194 [(0,1),(1,1)] [.slice none 0 0,.slice none 0 0]:=buildFact zeroValue194 runUnderlying194 (fun w=>by simp[sizeOf23,sizeOf24])
theorem bf199:BuildFact Tryz.prog 199 [(0,1),(1,1)] [str [],.pointer none]:=buildFact zeroValue199 runUnderlying199 (fun w=>by simp[sizeOf9,sizeOf119])
end Go.Proofs.Tst
namespace Go.Proofs.Tst
open Go Fw
instance:CF Tryz.prog 100:=⟨Tryz.call100⟩
instance:CF Tryz.prog 101:=⟨Tryz.call101⟩
instance:CF Tryz.prog 104:=⟨Tryz.call104⟩
instance:CF Tryz.prog 107:=⟨Tryz.call107⟩
instance:CF Tryz.prog 108:=⟨Tryz.call108⟩
instance:CF Tryz.prog 109:=⟨Tryz.call109⟩
instance:CF Tryz.prog 114:=⟨Tryz.call114⟩
instance:CF Tryz.prog 138:=⟨Tryz.call138⟩
instance:CF Tryz.prog 139:=⟨Tryz.call139⟩
instance:CF Tryz.prog 140:=⟨Tryz.call140⟩
instance:CF Tryz.prog 141:=⟨Tryz.call141⟩
instance:CF Tryz.prog 142:=⟨Tryz.call142⟩
instance:CF Tryz.prog 143:=⟨Tryz.call143⟩
instance:CF Tryz.prog 144:=⟨Tryz.call144⟩
instance:CF Tryz.prog 145:=⟨Tryz.call145⟩
instance:CF Tryz.prog 146:=⟨Tryz.call146⟩
instance:CF Tryz.prog 147:=⟨Tryz.call147⟩
instance:CF Tryz.prog 148:=⟨Tryz.call148⟩
instance:CF Tryz.prog 149:=⟨Tryz.call149⟩
instance:CF Tryz.prog 15:=⟨Tryz.call15⟩
instance:CF Tryz.prog 150:=⟨Tryz.call150⟩
instance:CF Tryz.prog 151:=⟨Tryz.call151⟩
instance:CF Tryz.prog 152:=⟨Tryz.call152⟩
instance:CF Tryz.prog 153:=⟨Tryz.call153⟩
instance:CF Tryz.prog 154:=⟨Tryz.call154⟩
instance:CF Tryz.prog 155:=⟨Tryz.call155⟩
instance:CF Tryz.prog 156:=⟨Tryz.call156⟩
instance:CF Tryz.prog 157:=⟨Tryz.call157⟩
instance:CF Tryz.prog 158:=⟨Tryz.call158⟩
instance:CF Tryz.prog 16:=⟨Tryz.call16⟩
instance:CF Tryz.prog 161:=⟨Tryz.call161⟩
instance:CF Tryz.prog 166:=⟨Tryz.call166⟩
instance:CF Tryz.prog 167:=⟨Tryz.call167⟩
instance:CF Tryz.prog 168:=⟨Tryz.call168⟩
instance:CF Tryz.prog 169:=⟨Tryz.call169⟩
instance:CF Tryz.prog 17:=⟨Tryz.call17⟩
instance:CF Tryz.prog 170:=⟨Tryz.call170⟩
instance:CF Tryz.prog 171:=⟨Tryz.call171⟩
instance:CF Tryz.prog 172:=⟨Tryz.call172⟩
instance:CF Tryz.prog 175:=⟨Tryz.call175⟩
instance:CF Tryz.prog 176:=⟨Tryz.call176⟩
instance:CF Tryz.prog 177:=⟨Tryz.call177⟩
instance:CF Tryz.prog 178:=⟨Tryz.call178⟩
instance:CF Tryz.prog 179:=⟨Tryz.call179⟩
instance:CF Tryz.prog 18:=⟨Tryz.call18⟩
instance:CF Tryz.prog 184:=⟨Tryz.call184⟩
instance:CF Tryz.prog 185:=⟨Tryz.call185⟩
instance:CF Tryz.prog 186:=⟨Tryz.call186⟩
instance:CF Tryz.prog 188:=⟨Tryz.call188⟩
instance:CF Tryz.prog 19:=⟨Tryz.call19⟩
instance:CF Tryz.prog 199:=⟨Tryz.call199⟩
instance:CF Tryz.prog 20:=⟨Tryz.call20⟩
instance:CF Tryz.prog 200:=⟨Tryz.call200⟩
instance:CF Tryz.prog 203:=⟨Tryz.call203⟩
instance:CF Tryz.prog 204:=⟨Tryz.call204⟩
instance:CF Tryz.prog 205:=⟨Tryz.call205⟩
instance:CF Tryz.prog 206:=⟨Tryz.call206⟩
instance:CF Tryz.prog 207:=⟨Tryz.call207⟩
instance:CF Tryz.prog 208:=⟨Tryz.call208⟩
instance:CF Tryz.prog 209:=⟨Tryz.call209⟩
instance:CF Tryz.prog 210:=⟨Tryz.call210⟩
instance:CF Tryz.prog 211:=⟨Tryz.call211⟩
instance:CF Tryz.prog 212:=⟨Tryz.call212⟩
instance:CF Tryz.prog 217:=⟨Tryz.call217⟩
instance:CF Tryz.prog 220:=⟨Tryz.call220⟩
instance:CF Tryz.prog 221:=⟨Tryz.call221⟩
instance:CF Tryz.prog 222:=⟨Tryz.call222⟩
instance:CF Tryz.prog 223:=⟨Tryz.call223⟩
instance:CF Tryz.prog 227:=⟨Tryz.call227⟩
instance:CF Tryz.prog 228:=⟨Tryz.call228⟩
instance:CF Tryz.prog 229:=⟨Tryz.call229⟩
instance:CF Tryz.prog 230:=⟨Tryz.call230⟩
instance:CF Tryz.prog 231:=⟨Tryz.call231⟩
instance:CF Tryz.prog 232:=⟨Tryz.call232⟩
instance:CF Tryz.prog 233:=⟨Tryz.call233⟩
instance:CF Tryz.prog 234:=⟨Tryz.call234⟩
instance:CF Tryz.prog 243:=⟨Tryz.call243⟩
instance:CF Tryz.prog 244:=⟨Tryz.call244⟩
instance:CF Tryz.prog 245:=⟨Tryz.call245⟩
instance:CF Tryz.prog 246:=⟨Tryz.call246⟩
instance:CF Tryz.prog 247:=⟨Tryz.call247⟩
instance:CF Tryz.prog 248:=⟨Tryz.call248⟩
instance:CF Tryz.prog 252:=⟨Tryz.call252⟩
instance:CF Tryz.prog 253:=⟨Tryz.call253⟩
instance:CF Tryz.prog 255:=⟨Tryz.call255⟩
instance:CF Tryz.prog 256:=⟨Tryz.call256⟩
instance:CF Tryz.prog 259:=⟨Tryz.call259⟩
instance:CF Tryz.prog 265:=⟨Tryz.call265⟩
instance:CF Tryz.prog 27:=⟨Tryz.call27⟩
instance:CF Tryz.prog 273:=⟨Tryz.call273⟩
instance:CF Tryz.prog 274:=⟨Tryz.call274⟩
instance:CF Tryz.prog 275:=⟨Tryz.call275⟩
instance:CF Tryz.prog 277:=⟨Tryz.call277⟩
instance:CF Tryz.prog 278:=⟨Tryz.call278⟩
instance:CF Tryz.prog 279:=⟨Tryz.call279⟩
instance:CF Tryz.prog 286:=⟨Tryz.call286⟩
instance:CF Tryz.prog 287:=⟨Tryz.call287⟩
instance:CF Tryz.prog 33:=⟨Tryz.call33⟩
instance:CF Tryz.prog 38:=⟨Tryz.call38⟩
instance:CF Tryz.prog 55:=⟨Tryz.call55⟩
instance:CF Tryz.prog 56:=⟨Tryz.call56⟩
instance:CF Tryz.prog 57:=⟨Tryz.call57⟩
instance:CF Tryz.prog 58:=⟨Tryz.call58⟩
instance:CF Tryz.prog 59:=⟨Tryz.call59⟩
instance:CF Tryz.prog 60:=⟨Tryz.call60⟩
instance:CF Tryz.prog 61:=⟨Tryz.call61⟩
instance:CF Tryz.prog 62:=⟨Tryz.call62⟩
instance:CF Tryz.prog 63:=⟨Tryz.call63⟩
instance:CF Tryz.prog 64:=⟨Tryz.call64⟩
instance:CF Tryz.prog 65:=⟨Tryz.call65⟩
instance:CF Tryz.prog 66:=⟨Tryz.call66⟩
instance:CF Tryz.prog 67:=⟨Tryz.call67⟩
instance:CF Tryz.prog 68:=⟨Tryz.call68⟩
instance:CF Tryz.prog 69:=⟨Tryz.call69⟩
instance:CF Tryz.prog 70:=⟨Tryz.call70⟩
instance:CF Tryz.prog 71:=⟨Tryz.call71⟩
instance:CF Tryz.prog 72:=⟨Tryz.call72⟩
instance:CF Tryz.prog 76:=⟨Tryz.call76⟩
instance:CF Tryz.prog 81:=⟨Tryz.call81⟩
instance:CF Tryz.prog 82:=⟨Tryz.call82⟩
instance:CF Tryz.prog 89:=⟨Tryz.call89⟩
instance:CF Tryz.prog 90:=⟨Tryz.call90⟩
instance:CF Tryz.prog 91:=⟨Tryz.call91⟩
instance:CF Tryz.prog 92:=⟨Tryz.call92⟩
instance:CF Tryz.prog 93:=⟨Tryz.call93⟩
instance:FA Tryz.prog 107 0 0:=⟨_,_,_,Tryz.runUnderlying107,rfl,Tryz.sizeOf9,rfl⟩
instance:FA Tryz.prog 107 1 1:=⟨_,_,_,Tryz.runUnderlying107,rfl,Tryz.sizeOf24,rfl⟩
instance:FA Tryz.prog 123 0 0:=⟨_,_,_,Tryz.runUnderlying123,rfl,Tryz.sizeOf121,rfl⟩
instance:FA Tryz.prog 123 1 1:=⟨_,_,_,Tryz.runUnderlying123,rfl,Tryz.sizeOf119,rfl⟩
instance:FA Tryz.prog 133 0 0:=⟨_,_,_,Tryz.runUnderlying133,rfl,Tryz.sizeOf130,rfl⟩
instance:FA Tryz.prog 133 1 2:=⟨_,_,_,Tryz.runUnderlying133,rfl,Tryz.sizeOf123,rfl⟩
instance:FA Tryz.prog 133 2 4:=⟨_,_,_,Tryz.runUnderlying133,rfl,Tryz.sizeOf131,rfl⟩
instance:FA Tryz.prog 138 0 0:=⟨_,_,_,Tryz.runUnderlying138,rfl,Tryz.sizeOf9,rfl⟩
instance:FA Tryz.prog 138 1 1:=⟨_,_,_,Tryz.runUnderlying138,rfl,Tryz.sizeOf4,rfl⟩
instance:FA Tryz.prog 138 2 2:=⟨_,_,_,Tryz.runUnderlying138,rfl,Tryz.sizeOf33,rfl⟩
instance:FA Tryz.prog 138 3 3:=⟨_,_,_,Tryz.runUnderlying138,rfl,Tryz.sizeOf136,rfl⟩
instance:FA Tryz.prog 153 0 0:=⟨_,_,_,Tryz.runUnderlying153,rfl,Tryz.sizeOf3,rfl⟩
instance:FA Tryz.prog 153 1 1:=⟨_,_,_,Tryz.runUnderlying153,rfl,Tryz.sizeOf33,rfl⟩
instance:FA Tryz.prog 153 2 2:=⟨_,_,_,Tryz.runUnderlying153,rfl,Tryz.sizeOf3,rfl⟩
instance:FA Tryz.prog 192 0 0:=⟨_,_,_,Tryz.runUnderlying192,rfl,Tryz.sizeOf22,rfl⟩
instance:FA Tryz.prog 192 1 1:=⟨_,_,_,Tryz.runUnderlying192,rfl,Tryz.sizeOf3,rfl⟩
instance:FA Tryz.prog 194 0 0:=⟨_,_,_,Tryz.runUnderlying194,rfl,Tryz.sizeOf23,rfl⟩
instance:FA Tryz.prog 194 1 1:=⟨_,_,_,Tryz.runUnderlying194,rfl,Tryz.sizeOf24,rfl⟩
instance:FA Tryz.prog 199 0 0:=⟨_,_,_,Tryz.runUnderlying199,rfl,Tryz.sizeOf9,rfl⟩
instance:FA Tryz.prog 199 1 1:=⟨_,_,_,Tryz.runUnderlying199,rfl,Tryz.sizeOf119,rfl⟩
instance:FA Tryz.prog 27 0 0:=⟨_,_,_,Tryz.runUnderlying27,rfl,Tryz.sizeOf23,rfl⟩
instance:FA Tryz.prog 27 1 1:=⟨_,_,_,Tryz.runUnderlying27,rfl,Tryz.sizeOf24,rfl⟩
instance:FA Tryz.prog 27 2 2:=⟨_,_,_,Tryz.runUnderlying27,rfl,Tryz.sizeOf25,rfl⟩
instance:FA Tryz.prog 35 0 0:=⟨_,_,_,Tryz.runUnderlying35,rfl,Tryz.sizeOf9,rfl⟩
instance:FA Tryz.prog 35 1 1:=⟨_,_,_,Tryz.runUnderlying35,rfl,Tryz.sizeOf4,rfl⟩
instance:FA Tryz.prog 35 2 2:=⟨_,_,_,Tryz.runUnderlying35,rfl,Tryz.sizeOf33,rfl⟩
instance:AG Tryz.prog 107 true:=⟨Tryz.isAgg107⟩
instance:AG Tryz.prog 111 true:=⟨Tryz.isAgg111⟩
instance:AG Tryz.prog 119 false:=⟨Tryz.isAgg119⟩
instance:AG Tryz.prog 121 false:=⟨Tryz.isAgg121⟩
instance:AG Tryz.prog 123 true:=⟨Tryz.isAgg123⟩
instance:AG Tryz.prog 131 false:=⟨Tryz.isAgg131⟩
instance:AG Tryz.prog 136 false:=⟨Tryz.isAgg136⟩
instance:AG Tryz.prog 153 true:=⟨Tryz.isAgg153⟩
instance:AG Tryz.prog 194 true:=⟨Tryz.isAgg194⟩
instance:AG Tryz.prog 199 true:=⟨Tryz.isAgg199⟩
instance:AG Tryz.prog 22 false:=⟨Tryz.isAgg22⟩
instance:AG Tryz.prog 23 false:=⟨Tryz.isAgg23⟩
instance:AG Tryz.prog 24 false:=⟨Tryz.isAgg24⟩
instance:AG Tryz.prog 25 false:=⟨Tryz.isAgg25⟩
instance:AG Tryz.prog 27 true:=⟨Tryz.isAgg27⟩
instance:AG Tryz.prog 3 false:=⟨Tryz.isAgg3⟩
instance:AG Tryz.prog 33 false:=⟨Tryz.isAgg33⟩
instance:AG Tryz.prog 35 true:=⟨Tryz.isAgg35⟩
instance:AG Tryz.prog 37 false:=⟨Tryz.isAgg37⟩
instance:AG Tryz.prog 4 false:=⟨Tryz.isAgg4⟩
instance:AG Tryz.prog 5 false:=⟨Tryz.isAgg5⟩
instance:AG Tryz.prog 9 false:=⟨Tryz.isAgg9⟩
instance:AG Tryz.prog 98 false:=⟨Tryz.isAgg98⟩
instance:SZ Tryz.prog 107 2:=⟨Tryz.sizeOf107⟩
instance:SZ Tryz.prog 111 2:=⟨Tryz.sizeOf111⟩
instance:SZ Tryz.prog 119 1:=⟨Tryz.sizeOf119⟩
instance:SZ Tryz.prog 121 1:=⟨Tryz.sizeOf121⟩
instance:SZ Tryz.prog 123 2:=⟨Tryz.sizeOf123⟩
instance:SZ Tryz.prog 130 2:=⟨Tryz.sizeOf130⟩
instance:SZ Tryz.prog 131 1:=⟨Tryz.sizeOf131⟩
instance:SZ Tryz.prog 136 1:=⟨Tryz.sizeOf136⟩
instance:SZ Tryz.prog 153 3:=⟨Tryz.sizeOf153⟩
instance:SZ Tryz.prog 194 2:=⟨Tryz.sizeOf194⟩
instance:SZ Tryz.prog 199 2:=⟨Tryz.sizeOf199⟩
instance:SZ Tryz.prog 22 1:=⟨Tryz.sizeOf22⟩
instance:SZ Tryz.prog 23 1:=⟨Tryz.sizeOf23⟩
instance:SZ Tryz.prog 24 1:=⟨Tryz.sizeOf24⟩
instance:SZ Tryz.prog 25 1:=⟨Tryz.sizeOf25⟩
instance:SZ Tryz.prog 27 3:=⟨Tryz.sizeOf27⟩
instance:SZ Tryz.prog 3 1:=⟨Tryz.sizeOf3⟩
instance:SZ Tryz.prog 33 1:=⟨Tryz.sizeOf33⟩
instance:SZ Tryz.prog 35 3:=⟨Tryz.sizeOf35⟩
instance:SZ Tryz.prog 4 1:=⟨Tryz.sizeOf4⟩
instance:SZ Tryz.prog 5 1:=⟨Tryz.sizeOf5⟩
instance:SZ Tryz.prog 9 1:=⟨Tryz.sizeOf9⟩
instance:UL Tryz.prog 131 (.slice 199):=⟨Tryz.underlying131⟩
instance:UL Tryz.prog 136 (.slice 119):=⟨Tryz.underlying136⟩
instance:UL Tryz.prog 147 .string:=⟨Tryz.underlying147⟩
instance:UL Tryz.prog 22 (.slice 5):=⟨Tryz.underlying22⟩
instance:UL Tryz.prog 23 (.slice 153):=⟨Tryz.underlying23⟩
instance:UL Tryz.prog 24 (.slice 35):=⟨Tryz.underlying24⟩
instance:UL Tryz.prog 25 (.slice 107):=⟨Tryz.underlying25⟩
instance:UL Tryz.prog 303 (.slice 33):=⟨Tryz.underlying303⟩
instance:UL Tryz.prog 33 (.slice 3):=⟨Tryz.underlying33⟩
instance:UL Tryz.prog 37 (.slice 111):=⟨Tryz.underlying37⟩
instance:UL Tryz.prog 9 .string:=⟨Tryz.underlying9⟩
instance:UL Tryz.prog 95 (.slice 9):=⟨Tryz.underlying95⟩
instance:ZV Tryz.prog 107 [str [],.slice none 0 0]:=⟨_,Tryz.zeroValue107,rfl⟩
instance:ZV Tryz.prog 119 [.pointer none]:=⟨_,Tryz.zeroValue119,rfl⟩
instance:ZV Tryz.prog 123 [.map none,.pointer none]:=⟨_,Tryz.zeroValue123,rfl⟩
instance:ZV Tryz.prog 153 [.int .i64 0,.slice none 0 0,.int .i64 0]:=⟨_,Tryz.zeroValue153,rfl⟩
instance:ZV Tryz.prog 194 [.slice none 0 0,.slice none 0 0]:=⟨_,Tryz.zeroValue194,rfl⟩
instance:ZV Tryz.prog 199 [str [],.pointer none]:=⟨_,Tryz.zeroValue199,rfl⟩
instance:ZV Tryz.prog 27 [.slice none 0 0,.slice none 0 0,.slice none 0 0]:=⟨_,Tryz.zeroValue27,rfl⟩
instance:ZV Tryz.prog 3 [.int .i64 0]:=⟨_,Tryz.zeroValue3,rfl⟩
instance:ZV Tryz.prog 33 [.slice none 0 0]:=⟨_,Tryz.zeroValue33,rfl⟩
instance:ZV Tryz.prog 35 [str [],.bool false,.slice none 0 0]:=⟨_,Tryz.zeroValue35,rfl⟩
instance:ZV Tryz.prog 37 [.slice none 0 0]:=⟨_,Tryz.zeroValue37,rfl⟩
instance:ZV Tryz.prog 9 [str []]:=⟨_,Tryz.zeroValue9,rfl⟩
end Go.Proofs.Tst
namespace Go.Proofs.Tst
open Go Fw Tryz
theorem l_Equal_c (w0:World)(G0:PH)(hG:PSub G0 w0)(va:Value)(a:List (Int))(ha:RdI G0 va a)(vb:Value)(b:List (Int))(hb:RdI G0 vb b) :
  Calls Tryz.prog 245 #[va,vb] w0 (Rets w0 (.bool (Sp.l2Same a b))):=by
 obtain⟨aa,ka,rfl⟩:=ha.shape
 have hlima:a.length≤1099511627776:=ha.lim
 obtain⟨ab,kb,rfl⟩:=hb.shape
 have hlimb:b.length≤1099511627776:=hb.lim
 have H:=Hp.init hG
 refine calls_of_W (l:=[.slice aa a.length ka,.slice ab b.length kb]) func245 Z ntmps245 Z (q2 (aG Z (q3 (W_seq (q2 (mV Z (lN Z (mV Z (lN Z (pe 1 Z (q3 ?_)))))))))))
 refine W_cond Z ?_ ?_
 ·intro hc1
  try simp only[nrm]at hc1
  refine q2 (aG Z (q3 (W_ret (N_K_ret (rt1 results245 Z ?_)))))
  exact H.rets (congrArg Value.bool (by unfold Sp.l2Same;exact Sp.ne_len oM))
 intro hc1'
 try simp only[nrm]at hc1'
 refine W_skip (N_K (W_seq (q2 (mV Z (lN Z (mV Z (q3 (W_block ?_))))))))
 refine W_lp (hf:=(Sub.cons (t:=0) Z (Sub.cons (t:=1) Z (Sub.cons (t:=12) Z Sub.nil)))) (J:=fun M w m=>∃(k:Nat) (G:PH),M=[(13,.int .i64 (k:Int))]∧PLe G0 G∧Hp w0 G0 [] w G []∧(k≤a.length∧a.take k=b.take k)∧m=(a.length-k)) (h0:=⟨0,_,Z,PLe.refl _,H,?inv,Z⟩) (round:=?round)
 case inv=>exact⟨by omega,by simp⟩
 case round =>
  rintro _ _ _ ⟨k,G2,rfl,hle2,H,hinv2,rfl⟩
  have ha:=ha.up hle2
  have hb:=hb.up hle2
  obtain⟨_,hall⟩:=hinv2
  refine q2 (pe 1 Z (q3 (W_seq ?_)))
  refine W_cond Z ?_ ?_
  ·intro hc3
   try simp only[nrm]at hc3
   refine W_skip (N_K (W_seq (W_block (q2 (pe 2 Z (q3 (W_seq (W_drawK [] 9 H kR Z ?_))))))));intro _ H;have hd4:=PLe.refl G2
   refine dE 0 Z2 (dE 1 Z2 ?_)
   have hl5:=ha.len
   obtain⟨_,_,_,_,ha5,hz5,hq5,hE5,hrow5,_⟩:=ha.at (i:=k) oM
   clear hq5
   obtain⟨rfl,_⟩:=hE5
   refine dI 2 1 k ha5 Z3 Z (dP 3 hrow5 0 Z3 (dE 4 Z2 (dE 5 Z2 ?_)))
   have hl6:=hb.len
   obtain⟨_,_,_,_,ha6,hz6,hq6,hE6,hrow6,_⟩:=hb.at (i:=k) oM
   clear hq6
   obtain⟨rfl,_⟩:=hE6
   refine dI 6 1 k ha6 Z3 Z (dP 7 hrow6 0 Z3 (dE 8 Z2 (rz (N_K ?_))))
   refine W_cond Z ?_ ?_
   ·intro hc7
    try simp only[nrm]at hc7
    refine q2 (aG Z (q3 (W_ret (N_B_ret (N_K_ret (N_LP_ret (N_B_ret (N_K_ret (rt1 results245 Z ?_)))))))))
    exact H.rets (congrArg Value.bool (by unfold Sp.l2Same;exact Sp.ne_at hz5 hz6 oM))
   intro hc7'
   try simp only[nrm]at hc7'
   refine W_skip (N_B (N_K (W_region (aD Z2 (mV Z (R_nil ?_))))))
   refine N_lp (hJ:=⟨k+1,_,Z,hle2,H,?inv,Z⟩) (hm:=?hm)
   case hm=>omega
   case inv=>exact⟨by omega,Sp.take_eq hall hz5 (by rw[hz6];congr 1;omega)⟩
  intro hc3'
  try simp only[nrm]at hc3'
  refine W_exit (N_K_exit (N_LP_exit (N_B_same (N_K (q2 (aG Z (q3 (W_ret (rt1 results245 Z ?_)))))))))
  exact H.rets (congrArg Value.bool (by unfold Sp.l2Same;exact Sp.eq_all hall oM oM))
theorem l_Clone_c (w0:World)(G0:PH)(hG:PSub G0 w0)(vl:Value)(l:List (Int))(hl:RdI G0 vl l) :
  Calls Tryz.prog 203 #[vl] w0 (RetO w0 G0 (AccOf intE 1 3 l)):=by
 obtain⟨al,kl,rfl⟩:=hl.shape
 have hliml:l.length≤1099511627776:=hl.lim
 have H:=Hp.init hG
 refine calls_of_W (l:=[.slice al l.length kl]) func203 Z ntmps203 Z (q2 (aG Z (q3 (W_seq (q2 (mV Z (o_eqnil_slice underlying33 Z Z Z (q3 ?_))))))))
 refine W_cond Z ?_ ?_
 ·intro hc1
  try simp only[nrm]at hc1
  refine q2 (aG Z (q3 (W_ret (N_K_ret (rt1 results203 Z ?_)))))
  obtain rfl:al=none:=by simpa using hc1
  obtain rfl:l=[]:=by obtain⟨_,_,h1,_,_,h2⟩:=hl;rcases h2 with h2|⟨b,o,h2,_⟩;(· exact h2);simp only[Value.slice.injEq]at h1;rw[←h1.1]at h2;cases h2
  have H:=H.addNil 3 1
  exact H.retO (k:=0) Z (AccOf.mk Z Chk.nil) (acc_nd _ _ _ _ _)
 intro hc1'
 try simp only[nrm]at hc1'
 refine W_skip (N_K (q2 (xbs H Z7 ?_)));intro _ _ _ H
 have H:=H.blkAcc 1 (k:=0) (n:=0) rfl rfl (by decide)
 refine mV Z ?_
 refine o_append_P 0 H hl (by intro _ _ hz _ hu;obtain⟨rfl,_⟩:=hz;simp at hu;subst hu;rfl) (sz:=1) (bytes:=8) underlying33 typeInfo3 ⟨_,rfl,rfl⟩ rfl rfl rfl rfl rfl rfl rfl oM rfl ?_;intro _ _ css3 hcl3 hcs3 H
 have hchk3:Chk intE 1 G0 ([]++css3.flatten) _:=⟨css3,rfl,hcl3,hcs3⟩
 obtain⟨_,_,rfl⟩:=H.accShape (k:=0) rfl
 refine aG Z (q3 (W_ret (rt1 results203 Z ?_)))
 exact H.retO (k:=0) rfl (by skip;exact AccOf.mk aN hchk3) (acc_nd _ _ _ _ _)
theorem i_bytesValid_c (w0:World)(G0:PH)(hG:PSub G0 w0)(vbytes:Value)(bytes:List (Int))(hbytes:RdI G0 vbytes bytes) :
  Calls Tryz.prog 212 #[vbytes] w0 (Rets w0 (.bool (bytes.all Sp.byteOk))):=by
 obtain⟨abytes,kbytes,rfl⟩:=hbytes.shape
 have hlimbytes:bytes.length≤1099511627776:=hbytes.lim
 have H:=Hp.init hG
 refine calls_of_W (l:=[.slice abytes bytes.length kbytes]) func212 Z ntmps212 Z (q2 (aG Z (q3 (W_seq (q2 (mV Z (lN Z (mV Z (q3 (W_block ?_))))))))))
 refine W_lp (hf:=(Sub.cons (t:=5) Z (Sub.cons (t:=6) Z Sub.nil))) (J:=fun M w m=>∃(k:Nat) (G:PH),M=[(7,.int .i64 (k:Int))]∧PLe G0 G∧Hp w0 G0 [] w G []∧(k≤bytes.length∧(bytes.take k).all Sp.byteOk=true)∧m=(bytes.length-k)) (h0:=⟨0,_,Z,PLe.refl _,H,?inv,Z⟩) (round:=?round)
 case inv=>exact⟨by omega,by simp⟩
 case round =>
  rintro _ _ _ ⟨k,_,rfl,hle1,H,hinv1,rfl⟩
  have hbytes:=hbytes.up hle1
  obtain⟨_,hall⟩:=hinv1
  refine q2 (pe 1 Z (q3 (W_seq ?_)))
  refine W_cond Z ?_ ?_
  ·intro hc2
   try simp only[nrm]at hc2
   refine W_skip (N_K (W_seq (W_block (q2 (iP k hbytes Z3 Z ?_)))));intro _ _ _ _ hz3 hE3 hrow3
   obtain⟨rfl,_⟩:=hE3
   refine lP H hrow3 0 Z2 (aG Z (q1 (pe 3 Z ?_)))
   refine R_case (t:=13) Z ?_ ?_
   ·intro hc4
    try simp only[nrm]at hc4
    refine pe 3 Z (q3 (W_true Z (q2 (aG Z (q3 (W_ret (N_B_ret (N_K_ret (N_LP_ret (N_B_ret (N_K_ret (rt1 results212 Z ?_))))))))))))
    exact H.rets (congrArg Value.bool (by rw[Sp.all_false hz3 (by simp[Sp.byteOk,Sp.l6In];omega)]))
   intro hc4'
   try simp only[nrm]at hc4'
   refine pe 3 Z (q3 ?_)
   refine W_cond Z ?_ ?_
   ·intro hc5
    try simp only[nrm]at hc5
    refine q2 (aG Z (q3 (W_ret (N_B_ret (N_K_ret (N_LP_ret (N_B_ret (N_K_ret (rt1 results212 Z ?_)))))))))
    exact H.rets (congrArg Value.bool (by rw[Sp.all_false hz3 (by simp[Sp.byteOk,Sp.l6In];omega)]))
   intro hc5'
   try simp only[nrm]at hc5'
   refine W_skip (N_B (N_K (W_region (aD Z2 (mV Z (R_nil ?_))))))
   refine N_lp (hJ:=⟨k+1,_,Z,hle1,H,?inv,Z⟩) (hm:=?hm)
   case hm=>omega
   case inv=>exact⟨by omega,Sp.all_take hall hz3 (by simp[Sp.byteOk,Sp.l6In];omega)⟩
  intro hc2'
  try simp only[nrm]at hc2'
  refine W_exit (N_K_exit (N_LP_exit (N_B_same (N_K (q2 (aG Z (q3 (W_ret (rt1 results212 Z ?_)))))))))
  obtain rfl:k=bytes.length:=by omega
  rw[List.take_length]at hall
  exact H.rets (congrArg Value.bool (by rw[hall]))
theorem i_BlockValid_c (w0:World)(G0:PH)(hG:PSub G0 w0)(vbytes:Value)(bytes:List (Int))(hbytes:RdI G0 vbytes bytes) :
  Calls Tryz.prog 259 #[vbytes] w0 (Rets w0 (.bool (Sp.BlockValid bytes))):=by
 obtain⟨abytes,kbytes,rfl⟩:=hbytes.shape
 have hlimbytes:bytes.length≤1099511627776:=hbytes.lim
 have H:=Hp.init hG
 refine calls_of_W (l:=[.slice abytes bytes.length kbytes]) func259 Z ntmps259 Z (q2 (aG Z (q1 (mV Z (lN Z (pe 2 Z ?_))))))
 refine R_case (t:=6) Z ?_ ?_
 ·intro hc1
  try simp only[nrm]at hc1
  refine pe 1 Z (gR Z (lN Z (pe 3 Z ?_)))
  refine R_case (t:=11) Z ?_ ?_
  ·intro hc2
   try simp only[nrm]at hc2
   refine pe 1 Z (gR Z (xr H Z2 (i_bytesValid_c _ _ H.sub _ _ hbytes) ?_));intro _ H
   refine pe 2 Z (q3 (W_ret (rt1 results259 Z ?_)))
   exact H.rets (congrArg Value.bool (by unfold Sp.BlockValid Sp.l6In;rw[Bool.eq_iff_iff];simp;omega))
  intro hc2'
  try simp only[nrm]at hc2'
  refine pe 4 Z (q3 (W_ret (rt1 results259 Z ?_)))
  exact H.rets (congrArg Value.bool (by unfold Sp.BlockValid Sp.l6In;rw[Bool.eq_iff_iff];simp;omega))
 intro hc1'
 try simp only[nrm]at hc1'
 refine pe 9 Z (q3 (W_ret (rt1 results259 Z ?_)))
 exact H.rets (congrArg Value.bool (by unfold Sp.BlockValid Sp.l6In;rw[Bool.eq_iff_iff];simp;omega))
theorem i_partValid_c (w0:World)(s:Bs)(hs:s.length≤16777216) :
  Calls Tryz.prog 142 #[str s] w0 (Rets w0 (.bool (Sp.l1Word s))):=by
 have H:=Hp.init0 w0
 refine calls_of_W (l:=[str s]) func142 Z ntmps142 Z (q2 (aG Z (q3 (W_seq (q2 (mV Z (lS Z (pe 2 Z ?_))))))))
 refine R_case (t:=7) Z ?_ ?_
 ·intro hc1
  try simp only[nrm]at hc1
  refine pe 4 Z (q3 (W_true Z (q2 (aG Z (q3 (W_ret (N_K_ret (rt1 results142 Z ?_))))))))
  exact H.rets (congrArg Value.bool (by unfold Sp.l1Word;rw[Bool.eq_iff_iff];simp;omega))
 intro hc1'
 try simp only[nrm]at hc1'
 refine pe 1 Z (gR Z (lS Z (pe 2 Z (q3 ?_))))
 refine W_cond Z ?_ ?_
 ·intro hc2
  try simp only[nrm]at hc2
  refine q2 (aG Z (q3 (W_ret (N_K_ret (rt1 results142 Z ?_)))))
  exact H.rets (congrArg Value.bool (by unfold Sp.l1Word;rw[Bool.eq_iff_iff];simp;omega))
 intro hc2'
 try simp only[nrm]at hc2'
 refine W_skip (N_K (W_seq (q2 (aG Z (q3 (W_block ?_))))))
 refine W_lp (hf:=(Sub.cons (t:=0) Z Sub.nil)) (J:=fun M w m=>∃(k:Nat) (G:PH),M=[(3,.int .i64 (k:Int))]∧PLe (fun _=>none) G∧Hp w0 (fun _=>none) [] w G []∧(k≤s.length∧(s.take k).all Sp.low=true)∧m=(s.length-k)) (h0:=⟨0,_,Z,PLe.refl _,H,?inv,Z⟩) (round:=?round)
 case inv=>exact⟨by omega,by simp⟩
 case round =>
  rintro _ _ _ ⟨k,_,rfl,hle3,H,hinv3,rfl⟩
  obtain⟨_,hall⟩:=hinv3
  refine W_seq (q2 (pe 2 Z (lS Z (pe 1 Z (q3 ?_)))))
  refine W_cond Z ?_ ?_
  ·intro hc4
   try simp only[nrm]at hc4
   refine W_skip (N_K (W_seq (W_block (q2 (pe 2 Z (o_index_str underlying9 Z Z Z Z oM ?_))))));intro ch5 hch5;have hlt5:=ch5.toNat_lt
   refine pe 2 Z ?_
   refine R_case (t:=22) Z ?_ ?_
   ·intro hc6
    try simp only[nrm]at hc6
    refine pe 5 Z (q3 (W_true Z (q2 (aG Z (q3 (W_ret (N_B_ret (N_K_ret (N_LP_ret (N_B_ret (N_K_ret (rt1 results142 Z ?_))))))))))))
    exact H.rets (congrArg Value.bool (by rw[Sp.l1Word,Sp.all_false hch5 (by simp[Sp.low];omega)];rfl))
   intro hc6'
   try simp only[nrm]at hc6'
   refine pe 2 Z (gR Z (o_index_str underlying9 Z Z Z Z oM ?_));intro ch7 hch7;have hlt7:=ch7.toNat_lt
   obtain rfl:ch7=ch5:=Option.some.inj (hch7.symm.trans hch5)
   refine pe 2 Z (q3 ?_)
   refine W_cond Z ?_ ?_
   ·intro hc8
    try simp only[nrm]at hc8
    refine q2 (aG Z (q3 (W_ret (N_B_ret (N_K_ret (N_LP_ret (N_B_ret (N_K_ret (rt1 results142 Z ?_)))))))))
    exact H.rets (congrArg Value.bool (by rw[Sp.l1Word,Sp.all_false hch7 (by simp[Sp.low];omega)];rfl))
   intro hc8'
   try simp only[nrm]at hc8'
   refine W_skip (N_B (N_K (W_region (mV Z (aD Z2 (aG Z (R_nil ?_)))))))
   refine N_lp (hJ:=⟨k+1,_,Z,hle3,H,?inv,Z⟩) (hm:=?hm)
   case hm=>omega
   case inv=>exact⟨by omega,Sp.all_take hall hch7 (by simp[Sp.low];omega)⟩
  intro hc4'
  try simp only[nrm]at hc4'
  refine W_exit (N_K_exit (N_LP_exit (N_B_same (N_K (q2 (aG Z (q3 (W_ret (rt1 results142 Z ?_)))))))))
  obtain rfl:k=s.length:=by omega
  rw[List.take_length]at hall
  exact H.rets (congrArg Value.bool (by simp only[Sp.l1Word,hall];rw[Bool.eq_iff_iff];simp;omega))
end Go.Proofs.Tst
namespace Go.Proofs
open Go.Shelf
def Tryz.keysA_ren:Go.Shelf.Ren:=⟨fun|7=>230|10=>264|n=>n,fun|23=>121|26=>3|3=>153|28=>281|0=>0|27=>280|33=>292|4=>4|n=>n,fun|n=>n⟩
theorem Tryz.keysA:Go.Proofs.SlLaysZI.n7 Tryz.prog Tryz.keysA_ren:={
 mixed:=by kernel_rfl
 f7:=⟨Tryz.f230.name,by decide,Tryz.func230.trans (congrArg some (by kernel_rfl))⟩
 f10:=⟨Tryz.f264.name,by decide,Tryz.func264.trans (congrArg some (by kernel_rfl))⟩
 t0:=Tryz.underlying0
 a0:=Tryz.isAgg0
 z0:=Tryz.sizeOf0
 v0:=Tryz.zeroValue0
 t4:=Tryz.underlying4
 a4:=Tryz.isAgg4
 z4:=Tryz.sizeOf4
 v4:=Tryz.zeroValue4
 t23:=Tryz.underlying121
 a23:=Tryz.isAgg121
 z23:=Tryz.sizeOf121
 v23:=Tryz.zeroValue121
 t26:=Tryz.underlying3
 a26:=Tryz.isAgg3
 z26:=Tryz.sizeOf3
 v26:=Tryz.zeroValue3
 t27:=Tryz.underlying280
 a27:=Tryz.isAgg280
 z27:=Tryz.sizeOf280
 v27:=Tryz.zeroValue280
 t28:=Tryz.underlying281
 a28:=Tryz.isAgg281
 z28:=Tryz.sizeOf281
 v28:=Tryz.zeroValue281
 t33:=Tryz.underlying292
 a33:=Tryz.isAgg292
 z33:=Tryz.sizeOf292
 v33:=Tryz.zeroValue292}
def Tryz.sortedA_ren:Go.Shelf.Ren:=⟨fun|6=>229|8=>262|9=>263|11=>282|13=>284|12=>283|23=>302|24=>303|14=>293|15=>294|16=>295|17=>296|18=>297|19=>298|20=>299|21=>300|22=>301|25=>312|26=>313|27=>314|28=>315|29=>316|30=>317|31=>325|n=>n,fun|26=>3|28=>281|24=>33|0=>0|3=>3|37=>312|48=>126|50=>328|4=>4|40=>336|39=>335|45=>257|5=>5|9=>9|51=>349|55=>353|57=>355|58=>356|33=>292|n=>n,fun|n=>n⟩
theorem Tryz.sortedA:Go.Proofs.SlLaysZI.n6 Tryz.prog Tryz.sortedA_ren:={
 mixed:=by kernel_rfl
 f6:=⟨Tryz.f229.name,by decide,Tryz.func229.trans (congrArg some (by kernel_rfl))⟩
 f8:=⟨Tryz.f262.name,by decide,Tryz.func262.trans (congrArg some (by kernel_rfl))⟩
 f11:=⟨Tryz.f282.name,by decide,Tryz.func282.trans (congrArg some (by kernel_rfl))⟩
 t0:=Tryz.underlying0
 a0:=Tryz.isAgg0
 z0:=Tryz.sizeOf0
 v0:=Tryz.zeroValue0
 t24:=Tryz.underlying33
 a24:=Tryz.isAgg33
 z24:=Tryz.sizeOf33
 v24:=Tryz.zeroValue33
 t26:=Tryz.underlying3
 a26:=Tryz.isAgg3
 z26:=Tryz.sizeOf3
 v26:=Tryz.zeroValue3
 t28:=Tryz.underlying281
 a28:=Tryz.isAgg281
 z28:=Tryz.sizeOf281
 v28:=Tryz.zeroValue281
 i26:=by kernel_rfl}
def Tryz.sortA_ren:Go.Shelf.Ren:=⟨fun|5=>263|8=>284|7=>283|19=>302|20=>303|10=>293|11=>294|12=>295|13=>296|14=>297|15=>298|16=>299|17=>300|18=>301|30=>312|31=>313|32=>314|33=>315|34=>316|35=>317|40=>325|n=>n,fun|23=>33|25=>3|3=>3|32=>312|22=>33|0=>0|44=>126|46=>328|4=>4|36=>336|35=>335|41=>257|5=>5|9=>9|53=>349|57=>353|63=>355|64=>356|n=>n,fun|n=>n⟩
theorem Tryz.sortA:Go.Proofs.SlLaysM.n5 Tryz.prog Tryz.sortA_ren:={
 mixed:=by kernel_rfl
 f5:=⟨Tryz.f263.name,by decide,Tryz.func263.trans (congrArg some (by kernel_rfl))⟩
 f7:=⟨Tryz.f283.name,by decide,Tryz.func283.trans (congrArg some (by kernel_rfl))⟩
 f8:=Tryz.func284.trans (congrArg some (by kernel_rfl))
 f10:=⟨Tryz.f293.name,by decide,Tryz.func293.trans (congrArg some (by kernel_rfl))⟩
 f11:=⟨Tryz.f294.name,by decide,Tryz.func294.trans (congrArg some (by kernel_rfl))⟩
 f12:=⟨Tryz.f295.name,by decide,Tryz.func295.trans (congrArg some (by kernel_rfl))⟩
 f13:=⟨Tryz.f296.name,by decide,Tryz.func296.trans (congrArg some (by kernel_rfl))⟩
 f14:=⟨Tryz.f297.name,by decide,Tryz.func297.trans (congrArg some (by kernel_rfl))⟩
 f15:=⟨Tryz.f298.name,by decide,Tryz.func298.trans (congrArg some (by kernel_rfl))⟩
 f16:=⟨Tryz.f299.name,by decide,Tryz.func299.trans (congrArg some (by kernel_rfl))⟩
 f17:=⟨Tryz.f300.name,by decide,Tryz.func300.trans (congrArg some (by kernel_rfl))⟩
 f18:=⟨Tryz.f301.name,by decide,Tryz.func301.trans (congrArg some (by kernel_rfl))⟩
 f19:=Tryz.func302.trans (congrArg some (by kernel_rfl))
 f20:=Tryz.func303.trans (congrArg some (by kernel_rfl))
 f30:=⟨Tryz.f312.name,by decide,Tryz.func312.trans (congrArg some (by kernel_rfl))⟩
 f31:=Tryz.func313.trans (congrArg some (by kernel_rfl))
 f32:=Tryz.func314.trans (congrArg some (by kernel_rfl))
 f33:=⟨Tryz.f315.name,by decide,Tryz.func315.trans (congrArg some (by kernel_rfl))⟩
 f34:=⟨Tryz.f316.name,by decide,Tryz.func316.trans (congrArg some (by kernel_rfl))⟩
 f35:=⟨Tryz.f317.name,by decide,Tryz.func317.trans (congrArg some (by kernel_rfl))⟩
 f40:=⟨Tryz.f325.name,by decide,Tryz.func325.trans (congrArg some (by kernel_rfl))⟩
 t0:=Tryz.underlying0
 a0:=Tryz.isAgg0
 z0:=Tryz.sizeOf0
 v0:=Tryz.zeroValue0
 t3:=Tryz.underlying3
 a3:=Tryz.isAgg3
 z3:=Tryz.sizeOf3
 v3:=Tryz.zeroValue3
 t4:=Tryz.underlying4
 a4:=Tryz.isAgg4
 z4:=Tryz.sizeOf4
 v4:=Tryz.zeroValue4
 t5:=Tryz.underlying5
 a5:=Tryz.isAgg5
 z5:=Tryz.sizeOf5
 v5:=Tryz.zeroValue5
 t9:=Tryz.underlying9
 a9:=Tryz.isAgg9
 z9:=Tryz.sizeOf9
 v9:=Tryz.zeroValue9
 t22:=Tryz.underlying33
 a22:=Tryz.isAgg33
 z22:=Tryz.sizeOf33
 v22:=Tryz.zeroValue33
 t23:=Tryz.underlying33
 a23:=Tryz.isAgg33
 z23:=Tryz.sizeOf33
 v23:=Tryz.zeroValue33
 t25:=Tryz.underlying3
 a25:=Tryz.isAgg3
 z25:=Tryz.sizeOf3
 v25:=Tryz.zeroValue3
 t32:=Tryz.underlying312
 a32:=Tryz.isAgg312
 z32:=Tryz.sizeOf312
 v32:=Tryz.zeroValue312
 t35:=Tryz.underlying335
 a35:=Tryz.isAgg335
 z35:=Tryz.sizeOf335
 v35:=Tryz.zeroValue335
 t36:=Tryz.underlying336
 a36:=Tryz.isAgg336
 z36:=Tryz.sizeOf336
 v36:=Tryz.zeroValue336
 t41:=Tryz.underlying257
 a41:=Tryz.isAgg257
 z41:=Tryz.sizeOf257
 v41:=Tryz.zeroValue257
 t44:=Tryz.underlying126
 a44:=Tryz.isAgg126
 z44:=Tryz.sizeOf126
 v44:=Tryz.zeroValue126
 t46:=Tryz.underlying328
 a46:=Tryz.isAgg328
 z46:=Tryz.sizeOf328
 v46:=Tryz.zeroValue328
 t53:=Tryz.underlying349
 a53:=Tryz.isAgg349
 z53:=Tryz.sizeOf349
 v53:=Tryz.zeroValue349
 t57:=Tryz.underlying353
 a57:=Tryz.isAgg353
 z57:=Tryz.sizeOf353
 v57:=Tryz.zeroValue353
 t63:=Tryz.underlying355
 a63:=Tryz.isAgg355
 z63:=Tryz.sizeOf355
 v63:=Tryz.zeroValue355
 t64:=Tryz.underlying356
 a64:=Tryz.isAgg356
 z64:=Tryz.sizeOf356
 v64:=Tryz.zeroValue356}
def Tryz.lays143_ren:Go.Shelf.Ren:=⟨fun|143=>287|219=>307|217=>319|225=>320|224=>321|267=>322|266=>326|314=>327|n=>n,fun|9=>9|3=>3|4=>4|5=>5|46=>312|146=>362|51=>126|n=>n,fun|1=>2|n=>n⟩
theorem Tryz.lays143:Go.Proofs.Lays.n143 Tryz.prog Tryz.lays143_ren:={
 mixed:=by kernel_rfl
 f143:=Tryz.func287.trans (congrArg some (by kernel_rfl))
 f217:=Tryz.func319.trans (congrArg some (by kernel_rfl))
 f219:=Tryz.func307.trans (congrArg some (by kernel_rfl))
 f224:=Tryz.func321.trans (congrArg some (by kernel_rfl))
 f225:=Tryz.func320.trans (congrArg some (by kernel_rfl))
 f266:=Tryz.func326.trans (congrArg some (by kernel_rfl))
 f267:=Tryz.func322.trans (congrArg some (by kernel_rfl))
 f314:=Tryz.func327.trans (congrArg some (by kernel_rfl))
 t3:=Tryz.underlying3
 a3:=Tryz.isAgg3
 z3:=Tryz.sizeOf3
 v3:=Tryz.zeroValue3
 t4:=Tryz.underlying4
 a4:=Tryz.isAgg4
 z4:=Tryz.sizeOf4
 v4:=Tryz.zeroValue4
 t5:=Tryz.underlying5
 a5:=Tryz.isAgg5
 z5:=Tryz.sizeOf5
 v5:=Tryz.zeroValue5
 t9:=Tryz.underlying9
 a9:=Tryz.isAgg9
 z9:=Tryz.sizeOf9
 v9:=Tryz.zeroValue9
 t46:=Tryz.underlying312
 a46:=Tryz.isAgg312
 z46:=Tryz.sizeOf312
 v46:=Tryz.zeroValue312
 t51:=Tryz.underlying126
 a51:=Tryz.isAgg126
 z51:=Tryz.sizeOf126
 v51:=Tryz.zeroValue126
 t146:=Tryz.underlying362
 a146:=Tryz.isAgg362
 z146:=Tryz.sizeOf362
 v146:=Tryz.zeroValue362
 g1:=by kernel_rfl}
def Tryz.lays138_ren:Go.Shelf.Ren:=⟨fun|138=>286|195=>304|218=>306|143=>287|219=>307|217=>319|225=>320|224=>321|267=>322|266=>326|314=>327|n=>n,fun|9=>9|3=>3|4=>4|5=>5|0=>0|46=>312|146=>362|51=>126|n=>n,fun|1=>2|n=>n⟩
theorem Tryz.lays138:Go.Proofs.Lays.n138 Tryz.prog Tryz.lays138_ren:={
 mixed:=by kernel_rfl
 f138:=Tryz.func286.trans (congrArg some (by kernel_rfl))
 f143:=Tryz.func287.trans (congrArg some (by kernel_rfl))
 f195:=Tryz.func304.trans (congrArg some (by kernel_rfl))
 f217:=Tryz.func319.trans (congrArg some (by kernel_rfl))
 f218:=Tryz.func306.trans (congrArg some (by kernel_rfl))
 f219:=Tryz.func307.trans (congrArg some (by kernel_rfl))
 f224:=Tryz.func321.trans (congrArg some (by kernel_rfl))
 f225:=Tryz.func320.trans (congrArg some (by kernel_rfl))
 f266:=Tryz.func326.trans (congrArg some (by kernel_rfl))
 f267:=Tryz.func322.trans (congrArg some (by kernel_rfl))
 f314:=Tryz.func327.trans (congrArg some (by kernel_rfl))
 t0:=Tryz.underlying0
 a0:=Tryz.isAgg0
 z0:=Tryz.sizeOf0
 v0:=Tryz.zeroValue0
 t3:=Tryz.underlying3
 a3:=Tryz.isAgg3
 z3:=Tryz.sizeOf3
 v3:=Tryz.zeroValue3
 t4:=Tryz.underlying4
 a4:=Tryz.isAgg4
 z4:=Tryz.sizeOf4
 v4:=Tryz.zeroValue4
 t5:=Tryz.underlying5
 a5:=Tryz.isAgg5
 z5:=Tryz.sizeOf5
 v5:=Tryz.zeroValue5
 t9:=Tryz.underlying9
 a9:=Tryz.isAgg9
 z9:=Tryz.sizeOf9
 v9:=Tryz.zeroValue9
 t46:=Tryz.underlying312
 a46:=Tryz.isAgg312
 z46:=Tryz.sizeOf312
 v46:=Tryz.zeroValue312
 t51:=Tryz.underlying126
 a51:=Tryz.isAgg126
 z51:=Tryz.sizeOf126
 v51:=Tryz.zeroValue126
 t146:=Tryz.underlying362
 a146:=Tryz.isAgg362
 z146:=Tryz.sizeOf362
 v146:=Tryz.zeroValue362
 g1:=by kernel_rfl}
end Go.Proofs
namespace Fw
open Go Go.RowKit Go.Maps Go.Sort Go.Shelf Go.Proofs
open Go.WideElems (Fit rg)
def unitR:Value→Option (DataW Unit×List MemPlace):=fun _=>some (.agg [],[])
theorem owns_of {P:Program}{k:TypeId}{w:World}{b:Nat}{es:Array MapEntry}{clock:Nat}{xs:List (Int×Value)}(hk:P.underlying k=some (.int .i64))(hb:w.heap[b]? = some (.map es clock))(hm:MapIs (Value.int .i64) es clock xs)(hw:∀x,x ∈ xs→inI x.1)(hl:xs.length≤1000000) :
  ∃D:DataW Unit,w.ownsMap P k unitR b xs.length D∧(intKeys D).Perm (xs.map (·.1))∧Maps.size D=xs.length:=by
 have hsz:es.size=xs.length:=by have:=congrArg List.length hm.kv;simpa using this
 have hkey:∀x,x ∈ es.toList→∃y,y ∈ xs∧x.key= .int .i64 y.1:=by
  intro x hx
  have:(x.key,x.val) ∈ xs.map (fun y=>(Value.int .i64 y.1,y.2)):=by rw[←hm.kv];exact List.mem_map.2 ⟨x,hx,rfl⟩
  obtain⟨y,h1,h2⟩:=List.mem_map.1 this
  simp only[Prod.mk.injEq]at h2
  exact⟨y,h1,h2.1.symm⟩
 have hwf:∀a:Int,inI a→(Lit.int .i64 a).wf=true:=by
  intro a ha
  unfold inI at ha
  have h1:IntKind.i64.min= -9223372036854775808:=by decide
  have h2:IntKind.i64.max=9223372036854775807:=by decide
  simp only[Lit.wf,h1,h2]
  simp
  omega
 have hrd:∀x,x ∈ es.toList→∃y,y ∈ xs∧x.key= .int .i64 y.1∧Go.WideElems.rd P k unitR x=some (.int .i64 y.1,.agg []):=by
  intro x hx
  obtain⟨y,h1,h2⟩:=hkey x hx
  refine⟨y,h1,h2,?_⟩
  simp only[Go.WideElems.rd,h2,keyOf_int_mk hk (hwf _ (hw y h1)),unitR]
  rfl
 refine⟨.map ((es.toList.map (rg P k unitR)).foldr DataW.insert []),⟨es,clock,hb,⟨?_,⟨hm.lt,hm.born,?_⟩,?_⟩,by omega,rfl⟩,?_,?_⟩
 ·simp only[maxLen];omega
 ·have h1 : es.toList.map (·.key) = xs.map (fun x => Value.int .i64 x.1) := by
   have:=congrArg (List.map (·.1)) hm.kv
   rw[List.map_map,List.map_map]at this
   exact this
  rw[h1]
  have:(xs.map (fun x=>Value.int .i64 x.1))=(xs.map (·.1)).map (Value.int .i64):=by simp[List.map_map]
  rw[this,List.nodup_iff_pairwise_ne,List.pairwise_map]
  exact(List.nodup_iff_pairwise_ne.1 hm.nd).imp (fun h e=>h (by simpa using e))
 ·intro x hx
  obtain⟨y,_,_,h3⟩:=hrd x hx
  exact⟨_,h3⟩
 ·have hp:=(WideShapes.sorted_perm (es.toList.map (rg P k unitR))).map (fun p:Lit×DataW Unit=>intOf p.1)
  show List.Perm (List.map (fun p:Lit×DataW Unit=>intOf p.1) _) _
  refine hp.trans ?_
  rw[List.map_map]
  have key : ∀ (l : List MapEntry) (ys : List (Int × Value)), (∀ x, x ∈ l → ∃ y, y ∈ xs ∧ x.key = .int .i64 y.1 ∧ Go.WideElems.rd P k unitR x = some (.int .i64 y.1, .agg [])) → l.map (fun e => (e.key, e.val)) = ys.map (fun x => (Value.int .i64 x.1, x.2)) → l.map ((fun p : Lit × DataW Unit => intOf p.1) ∘ rg P k unitR) = ys.map (·.1) := by
   intro l
   induction l with
   | nil=>intro ys _ h;cases ys<;>simp at h ⊢
   | cons x r ih =>
    intro ys h1 h2
    cases ys with
    | nil=>simp at h2
    | cons y t =>
     simp only[List.map_cons,List.cons.injEq,Prod.mk.injEq]at h2 ⊢
     obtain⟨z,_,h3,h4⟩:=h1 x (by simp)
     rw[h2.1.1]at h3
     simp only[Value.int.injEq,true_and]at h3
     refine⟨?_,ih t (fun q hq=>h1 q (by simp[hq])) h2.2⟩
     simp only[Function.comp,rg,h4,Option.getD_some,Go.intOf]
     exact h3.symm
  rw[key es.toList xs hrd hm.kv]
 ·simp only[Maps.size]
  rw[length_sorted]
  simp[hsz]
theorem sorts_of {G : PH} {xs : List (Int × Value)} {L : List BHeld} (hS : StR G xs L) (hL : Sp.VH L) {ss : List Int} (hp : ss.Perm (xs.map (·.1))) : ss.mergeSort (fun x y => decide (x ≤ y)) = L.map (·.id) := by
 have h1:(ss.mergeSort (fun x y=>decide (x≤y))).Perm (L.map (·.id)):=(List.mergeSort_perm _ _).trans (hp.trans hS.keys)
 have h2:(ss.mergeSort (fun x y=>decide (x≤y))).Pairwise (fun x y=>decide (x≤y)=true):=List.pairwise_mergeSort (le:=fun x y:Int=>decide (x≤y)) (fun a b c h1 h2=>by simp at *; omega) (fun a b=>by simp;omega) ss
 have h3 : (L.map (·.id)).Pairwise (fun x y => decide (x ≤ y) = true) := by
  rw[List.pairwise_map]
  exact hL.asc.imp (fun h=>decide_eq_true (by omega))
 exact h1.eq_of_pairwise (fun a b _ _ h1 h2=>by have:=of_decide_eq_true h1;have:=of_decide_eq_true h2;omega) h2 h3
theorem owns_acc {w w' : World} {e : TypeId} {v : Value} {n : Nat} {cells : List Value} (h : w'.ownsRow w.heap.size e 1 v n cells) : (acc e 1 v n cells).pred (fun b => w'.heap[b]?) ∧ (∀ b, b ∈ (acc e 1 v n cells).fp → w.heap.size ≤ b) := by
 obtain⟨h1,h2⟩:=h
 refine⟨⟨h1,?_⟩,?_⟩
 ·rcases h2 with h2|⟨g,cap,cur,rfl,_,h3,h4,h5,h6,h7⟩
  ·exact .inl h2
  ·exact .inr ⟨g,cap,cur,rfl,h3,h4,h5,Nat.le_of_eq h6.symm,h7⟩
 ·rcases h2 with ⟨rfl,_⟩|⟨g,cap,cur,rfl,h3,_⟩
  ·intro b hb;rw[acc_fp_nil]at hb;cases hb
  ·intro b hb;rw[acc_fp,List.mem_singleton]at hb;rw[hb];exact h3
end Fw
namespace Go.Proofs.Tst
open Go Fw Go.Proofs Go.Sort Go.Maps Go.Shelf Go.RowKit Tryz
theorem sorts (m:Nat):AnyZI.SortsIn Tryz.prog Tryz.sortedA_ren Fence.wide m :=
  ⟨fun blk off cap ss W hH hblk hsz => callsIn_wide.2 (AnyM.slices_Sort_int Tryz.sortA blk off cap ss W hH hblk hsz),
   fun p cap W=>callsIn_wide.2 (AnyM.slices_Sort_int_none Tryz.sortA p cap W)⟩
theorem keys_c (w0 : World) (G0 : PH) (hG : PSub G0 w0) (b : Nat) : Calls Tryz.prog 230 #[.map (some b)] w0 (fun e w' => ∃ kb, e = .returned (.func (.func 264) #[] #[.pointer (some ⟨kb, 0, none⟩)]) ∧ w0.heap.size ≤ kb ∧ Ext w0 w' ∧ w'.heap[kb]? = some (cl [.map (some b)] 121)) :=
  (callsIn_wide.1 (AnyZI.keys_in Tryz.keysA Fence.wide 5 trivial rfl (some b) w0)).mono fun e w' ⟨h1, h2⟩ => by
    subst h2
    exact⟨w0.heap.size,h1,Nat.le_refl _,Ext.alloc _ _,alloc_new _ _⟩
set_option maxHeartbeats 1000000 in
theorem sorted_c (w0:World)(Bm b:Nat){es:Array MapEntry}{clock:Nat}{xs:List (Int×Value)}{L:List BHeld}{G:PH}(hB:w0.heap[Bm]? = some (cl [.map (some b)] 121))(hb:w0.heap[b]? = some (.map es clock))(hm:MapIs (Value.int .i64) es clock xs)(hS:StR G xs L)(hL:Sp.VH L) :
    Calls Tryz.prog 229 #[.func (.func 264) #[] #[.pointer (some ⟨Bm,0,none⟩)]] w0 (fun e w'=>∃v,e= .returned v∧Ext w0 w'∧(acc 3 1 v L.length (L.map (fun h=>Value.int .i64 h.id))).pred (fun b=>w'.heap[b]?)∧(∀b,b ∈ (acc 3 1 v L.length (L.map (fun h=>Value.int .i64 h.id))).fp→w0.heap.size≤b)):=by
  have hlen:=hS.len
  have hw:∀x,x ∈ xs→inI x.1:=by
    intro x hx
    have:=hS.keys.mem_iff.1 (List.mem_map.2 ⟨x,hx,rfl⟩)
    obtain⟨h,hh,e⟩:=List.mem_map.1 this
    have:=(hL.ok h hh).1
    rw[←e]
    unfold inI
    omega
  have hl16:=hL.len
  obtain⟨D,hown,hp,hsz⟩:=owns_of (P:=Tryz.prog) (k:=3) (by exact underlying3) hb hm hw oM
  have hBl:=(Array.getElem?_eq_some_iff.1 hB).1
  have hseq : SeqGives Fence.wide 2 Tryz.prog 264 #[.pointer (some ⟨Bm, 0, none⟩)] encZ (fun ss => ss.Perm (intKeys D)) (Maps.size D) w0 :=
    AnyZI.keys_gives (ρ:=Tryz.keysA_ren) {Tryz.keysA with} Fence.wide _ trivial rfl oM Bm b xs.length D w0 hBl (by simp[World.cell?,hB]) hown
  refine(callsIn_wide.1 (AnyZI.sorted_in Tryz.sortedA Fence.wide 5 trivial trivial trivial trivial Z oM (sorts _) (enters_of func263 kR Z) 264 #[.pointer (some ⟨Bm,0,none⟩)] trivial (enters_of func264 kR Z) _ _ (by simp only[maxLen];omega) oM _ hseq)).mono ?_
  rintro e w' ⟨v,ss,rfl,hS1,hrow,hnil,hbel⟩
  have hs:=sorts_of hS hL (hS1.trans hp)
  have hn:ss.length=L.length:=by have:=(hS1.trans (hp.trans hS.keys)).length_eq;simpa using this
  rw[hs,hn]at hrow
  have he:(L.map (·.id)).map encZ=L.map (fun h=>Value.int .i64 h.id):=by rw[List.map_map];rfl
  rw[he]at hrow
  obtain⟨h1,h2⟩:=owns_acc hrow
  exact⟨v,Z,Ext.of_below hbel,h1,h2⟩
end Go.Proofs.Tst
namespace Go.Proofs.Tst
open Go Fw Go.Proofs
theorem l_Index_c (w0:World)(s:Bs)(hs:s.length≤16777216)(c:UInt8):Calls Tryz.prog 287 #[str s,str [c]] w0 (Rets w0 (.int .i64 (Sp.optI (s.findIdx? (Sp.isC c))))) :=
  (Any.strings_Index_one Tryz.lays143 ⟨s.toArray⟩ c w0).mono fun e w' ⟨h1,h2⟩=>⟨by rw[h1];simp[Sp.indexByte_eq],by rw[h2];exact Ext.refl _⟩
theorem l_Count_c (w0:World)(s:Bs)(hs:s.length≤16777216)(c:UInt8):Calls Tryz.prog 286 #[str s,str [c]] w0 (Rets w0 (.int .i64 (s.count c:Int))) :=
  (Any.strings_Count_one Tryz.lays138 ⟨s.toArray⟩ c w0).mono fun e w' ⟨h1,h2⟩=>⟨by rw[h1];simp[Lib.countByte],by rw[h2];exact Ext.refl _⟩
theorem chkIds (G : PH) {L : List BHeld} (h : Sp.VH L) : Chk intE 1 G (L.map (fun h => Value.int .i64 h.id)) (L.map (·.id)) := by
  refine⟨L.map (fun h=>[Value.int .i64 h.id]),?_,by simp,fun i x hx=>?_⟩
  · clear h
    induction L with
    | nil=>rfl
    | cons a r ih=>simp only[List.map_cons,List.flatten_cons,←ih];rfl
  rw[List.getElem?_map]at hx ⊢
  cases e:L[i]? with
  | none=>simp[e]at hx
  | some y =>
    simp only[e,Option.map_some,Option.some.injEq]at hx ⊢
    subst hx
    have:=(h.at e).1
    exact⟨_,rfl,rfl,rfl,by unfold inI;omega⟩
end Go.Proofs.Tst
namespace Go.Proofs.Tst
open Go Fw Tryz
theorem l_genSplit_c (w0:World)(G0:PH)(hG:PSub G0 w0)(s:Bs)(hs:s.length≤16777216)(c:UInt8) :
  Calls Tryz.prog 273 #[str s,str [c],.int .i64 0,.int .i64 (-1)] w0 (RetP w0 G0 (fun G v=>RdT G v (Sp.cutAt c s))):=by
 have hcnt:=Sp.cnt_le c s
 have H:=Hp.init hG
 refine calls_of_W (l:=[str s,str [c],.int .i64 0,.int .i64 (-1)]) func273 Z ntmps273 Z (q2 (aG Z (q3 (W_seq (q2 (pe 2 Z (q3 ?_)))))))
 refine W_cond Z ?_ ?_
 ·intro hc1
  try simp only[nrm]at hc1
  exact absurd hc1 (by decide)
 intro hc1'
 try simp only[nrm]at hc1'
 refine W_skip (N_K (W_seq (q2 (mV Z (o_seql Z Z Z (q3 ?_))))))
 refine W_cond Z ?_ ?_
 ·intro hc2
  try simp only[nrm]at hc2
  exact absurd hc2 (by simp)
 intro hc2'
 try simp only[nrm]at hc2'
 refine W_skip (N_K (W_seq (q2 (pe 2 Z (q3 ?_)))))
 refine W_cond Z ?_ ?_
 ·intro hc3
  try simp only[nrm]at hc3
  refine W_region (pe 2 Z (xr H Z2 (l_Count_c _ _ hs _) ?_));intro _ H
  refine aD Z2 (aG Z (q1 (pe 2 Z (lS Z (aD Z2 (o_min Z Z Z (aG Z (q1 (mV Z (o_makeN (c:=(s.count c+1)) (sz:=1) (bytes:=16) H underlying95 typeInfo9 ⟨_,Z,Z⟩ Z Z Z Z Z Z Z oM oM oM Z ?_))))))))));intro _ _ H
  have hchk7:=Chk.rep (E:=strE) (sz:=1) (G:=G0) (x0:=[]) (⟨rfl,by decide⟩) rfl ((s.count c+1))
  refine aG Z (q1 (mV Z (o_sub Z Z Z oO (aG Z (q1 (aG Z (q3 (W_seq (W_block ?_)))))))))
  refine W_lp (hf:=(Sub.cons (t:=1) Z (Sub.cons (t:=2) Z (Sub.cons (t:=3) Z (Sub.cons (t:=8) Z Sub.nil))))) (J:=fun M w m=>∃(v:Value) (n:Nat) (cs:List Value) (xs:List (Bs)) (r:Bs) (i:Nat) (G:PH),M=[(0,str r),(10,.int .i64 (i:Int)),(9,v)]∧PLe G0 G∧Hp w0 G0 [] w G [acc 9 1 v n cs]∧(Chk strE 1 G cs xs∧n=xs.length∧i≤s.count c∧xs.length=s.count c+1∧r.length≤16777216∧xs.take i++Sp.cutAt c r=Sp.cutAt c s∧r.count c=s.count c-i)∧m=(s.count c+1-i)) (h0:=⟨_,_,_,(List.replicate (s.count c+1) []),s,0,_,Z,PLe.refl _,H,?inv,Z⟩) (round:=?round)
  case inv=>exact⟨hchk7,by first|rfl|simp|(simp;omega)|omega,(by simp[hs])⟩
  case round =>
   rintro _ _ _ ⟨v,n,cs,xs,r,i,_,rfl,hle9,H,hinv9,rfl⟩
   obtain⟨hchk9_0,_,hinv9⟩:=hinv9
   obtain⟨_,_,rfl⟩:=H.accShape (k:=0) rfl
   obtain⟨_,hxl,hrl,hcut,_⟩:=hinv9
   refine W_seq (q2 (pe 3 Z (q3 ?_)))
   refine W_cond Z ?_ ?_
   ·intro hc10
    try simp only[nrm]at hc10
    refine W_skip (N_K (W_block (q2 (pe 2 Z (xr H Z2 (l_Index_c _ _ hrl _) ?_)))));intro _ H
    refine aG Z (q3 (W_seq (q2 (pe 2 Z (q3 ?_)))))
    refine W_cond Z ?_ ?_
    ·intro hc12
     try simp only[nrm]at hc12
     have hx:=Sp.count_none c (Sp.at_none hc12)
     omega
    intro hc12'
    try simp only[nrm]at hc12'
    obtain⟨m,_,hm1,_,_,_,_⟩:=Sp.at_nat hc12'
    have hm6:=Sp.count_some c hm1
    refine W_skip (N_K (q2 (pe 5 Z (aD Z2 (o_slice_str_to underlying9 Z Z Z oM oM (o_index_A 0 H i Z hchk9_0 underlying95 sizeOf9 Z Z Z Z aN aN ?_))))));intro _ _ _ hba15 hz15 hE15 _;cases hba15
    obtain⟨rfl,hi15⟩:=hE15;have hy_hi15:_≤16777216:=hi15
    have hcl16:=hchk9_0.length
    refine o_store_A 0 H sizeOf9 Z Z Z Z Z (by simp only[vc,List.length_cons,List.length_nil];omega) ?_;intro _ H
    have hchk16:=hchk9_0.put (x':=(r.take m)) (off:=0) (vs:=[_]) hz15 (fun cs hl hE=>by obtain⟨rfl,_⟩:=hE;exact⟨congrArg (fun j=>[str (List.take j r)]) (show(Sp.optI (List.findIdx? (Sp.isC c) r)+0).toNat=m by omega),by simp;omega⟩) (by simp only[vc,List.length_cons,List.length_nil];omega)
    refine q1 (pe 3 Z (lS Z ?_))
    have hll1:([c]:Fw.Bs).length=1:=rfl
    refine aD Z2 (o_slice_str_from underlying9 Z Z Z oM oM (aG Z (q3 (W_region (mV Z (aD Z2 (aG Z (R_nil (N_B ?_)))))))))
    refine N_lp (hJ:=⟨_,_,_,(xs.set i (r.take m)),(r.drop (Sp.optI (List.findIdx? (Sp.isC c) r)+(([c]:Fw.Bs).length:Int)).toNat),i+1,_,Z,hle9,H,?inv,Z⟩) (hm:=?hm)
    case hm=>omega
    case inv=>exact⟨hchk16,aN,(by refine⟨by omega,by simp[hxl],by simp;omega,?_,?_⟩;(· rw[show(Sp.optI (List.findIdx? (Sp.isC c) r)+(([c]:Fw.Bs).length:Int)).toNat=m+1 by omega];exact Sp.cut_round hcut hm1 oM rfl);(· rw[show(Sp.optI (List.findIdx? (Sp.isC c) r)+(([c]:Fw.Bs).length:Int)).toNat=m+1 by omega];omega))⟩
   intro hc10'
   try simp only[nrm]at hc10'
   refine W_exit (N_K_exit (N_LP_exit (N_B_same (N_K (q2 (pe 3 Z (o_index_A 0 H i Z hchk9_0 underlying95 sizeOf9 Z Z Z Z aN aN ?_)))))));intro _ _ _ hba20 hz20 hE20 _;cases hba20
   obtain⟨rfl,hi20⟩:=hE20;have hy_hi20:_≤16777216:=hi20
   have hcl21:=hchk9_0.length
   refine o_store_A 0 H sizeOf9 Z Z Z Z Z (by simp only[vc,List.length_cons,List.length_nil];omega) ?_;intro _ H
   have hchk21:=hchk9_0.put (x':=r) (off:=0) (vs:=[_]) hz20 (fun cs hl hE=>by obtain⟨rfl,_⟩:=hE;exact⟨rfl,hrl⟩) (by simp only[vc,List.length_cons,List.length_nil];omega)
   refine q1 ?_
   obtain⟨_,H,hsg22,hsr22⟩:=H.shut' (k:=0) rfl hchk21 aN aN
   refine pe 2 Z (aD Z2 ?_)
   have hcap24:=hsr22.cap;try simp only[List.length_set,List.length_append,List.length_take,List.length_drop,List.length_replicate]at hcap24
   refine o_slice_to (j:=(i+1)) underlying95 sizeOf9 Z Z Z oM oM ?_
   have hsl24:=hsr22.take (j:=(i+1)) aN
   have hsn2:=hsl24.len
   refine aG Z (q3 (W_ret (rt1 results273 Z ?_)))
   obtain rfl:i=s.count c:=by omega
   have hcl:=Sp.cut_last hcut oM oM
   exact H.retP (by rw[←hcl];exact hsl24)
 intro hc3'
 try simp only[nrm]at hc3'
 exact absurd hc3' (by decide)
theorem l_Split_c (w0:World)(G0:PH)(hG:PSub G0 w0)(s:Bs)(hs:s.length≤16777216)(c:UInt8) :
  Calls Tryz.prog 244 #[str s,str [c]] w0 (RetP w0 G0 (fun G v=>RdT G v (Sp.cutAt c s))):=by
 have H:=Hp.init hG
 refine calls_of_W (l:=[str s,str [c]]) func244 Z ntmps244 Z (q2 (aG Z (q1 (pe 2 Z (xc Z2 (l_genSplit_c _ _ H.sub _ hs _) ?_)))))
 rintro _ _ ⟨_,_,g1,rfl,hr1_0⟩
 have H:=H.grow g1
 obtain⟨_,_,rfl⟩:=hr1_0.shape;have hx_hr1_0:_≤1099511627776:=hr1_0.lim
 refine⟨_,Z,?_⟩
 refine aG Z (q3 (W_ret (rt1 results244 Z ?_)))
 exact H.retP hr1_0
theorem i_parts_c (w0:World)(G0:PH)(hG:PSub G0 w0)(p:Bs)(hp:p.length≤16777216) :
  Calls Tryz.prog 206 #[str p] w0 (RetP w0 G0 (fun G v=>RdT G v (Sp.parts p))):=by
 have H:=Hp.init hG
 refine calls_of_W (l:=[str p]) func206 Z ntmps206 Z (q2 (aG Z (q3 (W_seq (q2 (mV Z (lS Z (pe 1 Z (q3 ?_)))))))))
 refine W_cond Z ?_ ?_
 ·intro hc1
  try simp only[nrm]at hc1
  refine q2 (aG Z (q3 (W_ret (N_K_ret (rt1 results206 Z ?_)))))
  exact H.retP (by rw[show Sp.parts p=_ from by exact Sp.parts_long oM];exact(RdS.nil _ _ _))
 intro hc1'
 try simp only[nrm]at hc1'
 refine W_skip (N_K (q2 (mV Z (xc Z2 (l_Split_c _ _ H.sub _ hp _) ?_))))
 rintro _ _ ⟨G2,_,g2,rfl,hr2_0⟩
 have H:=H.grow g2
 obtain⟨_,_,rfl⟩:=hr2_0.shape;have hx_hr2_0:_≤1099511627776:=hr2_0.lim
 refine⟨_,Z,?_⟩
 refine aG Z (q3 (W_seq (q2 (mV Z (lN Z (pe 1 Z (q3 ?_)))))))
 refine W_cond Z ?_ ?_
 ·intro hc3
  try simp only[nrm]at hc3
  refine q2 (aG Z (q3 (W_ret (N_K_ret (rt1 results206 Z ?_)))))
  exact H.retP (by rw[show Sp.parts p=_ from by exact Sp.parts_many (by rw[←Sp.cutAt_47];omega)];exact(RdS.nil _ _ _))
 intro hc3'
 try simp only[nrm]at hc3'
 refine W_skip (N_K (W_seq (q2 (mV Z (lN Z (mV Z (q3 (W_block ?_))))))))
 refine W_lp (hf:=(Sub.cons (t:=3) Z (Sub.cons (t:=14) Z (Sub.cons (t:=15) Z Sub.nil)))) (J:=fun M w m=>∃(k:Nat) (G:PH),M=[(16,.int .i64 (k:Int))]∧PLe G2 G∧Hp w0 G0 [] w G []∧(k≤(Sp.cutAt 47 p).length∧((Sp.cutAt 47 p).take k).all Sp.l1Word=true)∧m=((Sp.cutAt 47 p).length-k)) (h0:=⟨0,_,Z,PLe.refl _,H,?inv,Z⟩) (round:=?round)
 case inv=>exact⟨by omega,by simp⟩
 case round =>
  rintro _ _ _ ⟨k,_,rfl,hle4,H,hinv4,rfl⟩
  have hr2_0:=hr2_0.up hle4
  obtain⟨_,hall⟩:=hinv4
  refine q2 (pe 1 Z (q3 (W_seq ?_)))
  refine W_cond Z ?_ ?_
  ·intro hc5
   try simp only[nrm]at hc5
   refine W_skip (N_K (W_seq (W_block (q2 (iP k hr2_0 Z3 Z ?_)))));intro _ _ _ _ hz6 hE6 hrow6
   obtain⟨rfl,hi6⟩:=hE6;have hy_hi6:_≤16777216:=hi6
   refine lP H hrow6 0 Z2 (aG Z (q1 (mV Z (xr H Z2 (i_partValid_c _ _ hi6) ?_))));intro _ H
   refine pe 1 Z (q3 ?_)
   refine W_cond Z ?_ ?_
   ·intro hc8
    try simp only[nrm]at hc8
    refine q2 (aG Z (q3 (W_ret (N_B_ret (N_K_ret (N_LP_ret (N_B_ret (N_K_ret (rt1 results206 Z ?_)))))))))
    exact H.retP (by rw[show Sp.parts p=_ from by exact Sp.parts_bad (by rw[←Sp.cutAt_47];exact hz6) hc8];exact(RdS.nil _ _ _))
   intro hc8'
   try simp only[nrm]at hc8'
   refine W_skip (N_B (N_K (W_region (aD Z2 (mV Z (R_nil ?_))))))
   refine N_lp (hJ:=⟨k+1,_,Z,hle4,H,?inv,Z⟩) (hm:=?hm)
   case hm=>omega
   case inv=>exact⟨by omega,Sp.all_take hall hz6 (by assumption)⟩
  intro hc5'
  try simp only[nrm]at hc5'
  refine W_exit (N_K_exit (N_LP_exit (N_B_same (N_K (q2 (pe 2 Z (q3 (W_ret (rt1 results206 Z ?_)))))))))
  obtain rfl:k=(Sp.cutAt 47 p).length:=by omega
  rw[List.take_length]at hall
  have hpo:Sp.parts p=Sp.cutAt 47 p:=(Sp.parts_ok (by rw[←Sp.cutAt_47];exact hall) (by rw[←Sp.cutAt_47];omega)).trans (Sp.cutAt_47 p).symm
  exact H.retP (by rw[hpo];exact hr2_0)
theorem i_PathParts_c (w0:World)(G0:PH)(hG:PSub G0 w0)(p:Bs)(hp:p.length≤16777216) :
  Calls Tryz.prog 209 #[str p] w0 (RetP w0 G0 (fun G v=>RdT G v (Sp.parts p))):=by
 have H:=Hp.init hG
 refine calls_of_W (l:=[str p]) func209 Z ntmps209 Z (q2 (aG Z (q1 (mV Z (xc Z2 (i_parts_c _ _ H.sub _ hp) ?_)))))
 rintro _ _ ⟨_,_,g1,rfl,hr1_0⟩
 have H:=H.grow g1
 obtain⟨_,_,rfl⟩:=hr1_0.shape;have hx_hr1_0:_≤1099511627776:=hr1_0.lim
 refine⟨_,Z,?_⟩
 refine aG Z (q3 (W_ret (rt1 results209 Z ?_)))
 exact H.retP hr1_0
theorem i_valid_c (w0:World)(G0:PH)(hG:PSub G0 w0)(p:Bs)(hp:p.length≤16777216) :
  Calls Tryz.prog 152 #[str p] w0 (Rets w0 (.bool (Sp.PathValid p))):=by
 have H:=Hp.init hG
 refine calls_of_W (l:=[str p]) func152 Z ntmps152 Z (q2 (aG Z (q1 (mV Z (xc Z2 (i_parts_c _ _ H.sub _ hp) ?_)))))
 rintro _ _ ⟨_,_,g1,rfl,hr1_0⟩
 have H:=H.grow g1
 obtain⟨_,_,rfl⟩:=hr1_0.shape;have hx_hr1_0:_≤1099511627776:=hr1_0.lim
 refine⟨_,Z,?_⟩
 refine lN Z (pe 2 Z (q3 (W_ret (rt1 results152 Z ?_))))
 exact H.rets (congrArg Value.bool (by rw[←Sp.parts_pos,Bool.eq_iff_iff];simp))
theorem i_PathValid_c (w0:World)(G0:PH)(hG:PSub G0 w0)(p:Bs)(hp:p.length≤16777216) :
  Calls Tryz.prog 71 #[str p] w0 (Rets w0 (.bool (Sp.PathValid p))):=by
 have H:=Hp.init hG
 refine calls_of_W (l:=[str p]) func71 Z ntmps71 Z (q2 (aG Z (q1 (mV Z (xr H Z2 (i_valid_c _ _ H.sub _ hp) ?_)))));intro _ H
 refine aG Z (q3 (W_ret (rt1 results71 Z ?_)))
 exact H.rets (congrArg Value.bool (by rfl))
theorem i_itemValid_c (w0:World)(G0:PH)(hG:PSub G0 w0)(cx:List Value)(x:BItem)(hx:itemE G0 x cx) :
  Calls Tryz.prog 185 #[.agg cx.toArray] w0 (Rets w0 (.bool (Sp.l5Item x))):=by
 obtain⟨_,_,_,rfl,hi1,hr1,_,_⟩:=ox hx
 have H:=Hp.init hG
 refine calls_of_W (l:=[_]) func185 Z ntmps185 Z (q2 (o_box H Z Z Z ?_));intro b2 _ _ H
 refine aG Z (q3 (W_seq (q2 (fA 0 Z (lB 0 H Z3 (xr H Z2 (i_PathValid_c _ _ H.sub _ hi1) ?_))))));intro _ H
 refine pe 2 Z ?_
 refine R_case (t:=9) Z ?_ ?_
 ·intro hc4
  try simp only[nrm]at hc4
  refine pe 9 Z (R_pass Z (yl_un Z Z) (R_pass Z (yl_un Z Z) (R_pass Z (yl_un Z Z) (R_pass Z (yl_un Z Z) (pe 2 Z (q3 (W_true Z (q2 (aG Z (q3 (W_ret (N_K_ret (rt1 results185 Z ?_)))))))))))))
  exact H.rets (congrArg Value.bool (by simp[Sp.l5Item,hc4]))
 intro hc4'
 try simp only[nrm]at hc4'
 refine gR Z (fA 2 Z (gR Z (lB 0 H Z3 (gR Z (lN Z (pe 3 Z ?_))))))
 refine R_case (t:=15) Z ?_ ?_
 ·intro hc5
  try simp only[nrm]at hc5
  refine pe 3 Z (R_pass Z (yl_un Z Z) (R_pass Z (yl_un Z Z) (R_pass Z (yl_un Z Z) (R_pass Z (yl_un Z Z) (pe 2 Z (q3 (W_true Z (q2 (aG Z (q3 (W_ret (N_K_ret (rt1 results185 Z ?_)))))))))))))
  exact H.rets (congrArg Value.bool (by rw[Sp.l5Item,Bool.eq_iff_iff];simp;intros;omega))
 intro hc5'
 try simp only[nrm]at hc5'
 refine gR Z (fA 1 Z (gR Z (lB 0 H Z3 (pe 1 Z ?_))))
 refine R_case (t:=18) Z ?_ ?_
 ·intro hc6
  try simp only[nrm]at hc6
  refine gR Z (fA 2 Z (gR Z (lB 0 H Z3 (gR Z (lN Z (pe 3 Z (q3 ?_)))))))
  refine W_cond Z ?_ ?_
  ·intro hc7
   try simp only[nrm]at hc7
   refine q2 (aG Z (q3 (W_ret (N_K_ret (rt1 results185 Z ?_)))))
   exact H.rets (congrArg Value.bool (by rw[Sp.l5Item,Sp.all_false (c:=x.ids[0]) (k:=0) (List.getElem?_eq_getElem oM) (by simp[Sp.idOk,hc6])];rfl))
  intro hc7'
  try simp only[nrm]at hc7'
  refine W_skip (N_K (W_seq (q2 (fA 2 Z (lB 0 H Z3 (lN Z (mV Z (q3 (W_block ?_)))))))))
  obtain⟨ln8,hln8,H⟩:=H.name (k:=0) rfl
  refine W_lp (hf:=(Sub.cons (t:=26) Z (Sub.cons (t:=27) Z Sub.nil))) (J:=fun M w m=>∃(k:Nat) (G:PH),M=[(28,.int .i64 (k:Int))]∧PLe G0 G∧Hp w0 G0 [] w G [blk b2 (cl ln8 35)]∧(k≤x.ids.length∧(x.ids.take k).all (Sp.idOk x.dir)=true)∧m=(x.ids.length-k)) (h0:=⟨0,_,Z,PLe.refl _,H,?inv,Z⟩) (round:=?round)
  case inv=>exact⟨by omega,by simp⟩
  case round =>
   rintro _ _ _ ⟨k,_,rfl,hle9,H,hinv9,rfl⟩
   subst hln8
   have hr1:=hr1.up hle9
   obtain⟨hk,hall⟩:=hinv9
   refine q2 (pe 1 Z (q3 (W_seq ?_)))
   refine W_cond Z ?_ ?_
   ·intro hc10
    try simp only[nrm]at hc10
    refine W_skip (N_K (W_seq (W_block (q2 (iP k hr1 Z3 Z ?_)))));intro _ _ _ _ hz11 hE11 hrow11
    obtain⟨rfl,_⟩:=hE11
    refine lP H hrow11 0 Z2 (aG Z (q1 (pe 3 Z ?_)))
    refine R_case (t:=34) Z ?_ ?_
    ·intro hc12
     try simp only[nrm]at hc12
     refine pe 3 Z (q3 (W_true Z (q2 (aG Z (q3 (W_ret (N_B_ret (N_K_ret (N_LP_ret (N_B_ret (N_K_ret (rt1 results185 Z ?_))))))))))))
     exact H.rets (congrArg Value.bool (by rw[Sp.l5Item,Sp.all_false hz11 (by first|(exfalso;omega)|(simp[Sp.idOk,Sp.l6In, *];done)|(simp[Sp.idOk,Sp.l6In, *];omega))];rfl))
    intro hc12'
    try simp only[nrm]at hc12'
    refine pe 3 Z (q3 ?_)
    refine W_cond Z ?_ ?_
    ·intro hc13
     try simp only[nrm]at hc13
     refine q2 (aG Z (q3 (W_ret (N_B_ret (N_K_ret (N_LP_ret (N_B_ret (N_K_ret (rt1 results185 Z ?_)))))))))
     exact H.rets (congrArg Value.bool (by rw[Sp.l5Item,Sp.all_false hz11 (by first|(exfalso;omega)|(simp[Sp.idOk,Sp.l6In, *];done)|(simp[Sp.idOk,Sp.l6In, *];omega))];rfl))
    intro hc13'
    try simp only[nrm]at hc13'
    refine W_skip (N_B (N_K (W_region (aD Z2 (mV Z (R_nil ?_))))))
    refine N_lp (hJ:=⟨k+1,_,Z,hle9,H,?inv,Z⟩) (hm:=?hm)
    case hm=>omega
    case inv=>exact⟨by omega,Sp.all_take hall hz11 (by first|(exfalso;omega)|(simp[Sp.idOk,Sp.l6In, *];done)|(simp[Sp.idOk,Sp.l6In, *];omega))⟩
   intro hc10'
   try simp only[nrm]at hc10'
   refine W_exit (N_K_exit (N_LP_exit (N_B_same (N_K (q2 (aG Z (q3 (W_ret (rt1 results185 Z ?_)))))))))
   obtain rfl:k=x.ids.length:=by omega
   rw[List.take_length]at hall
   exact H.rets (congrArg Value.bool (by rw[Sp.l5Item,hall,Bool.eq_iff_iff];simp[hc4'];omega))
 intro hc6'
 try simp only[nrm]at hc6'
 refine pe 6 Z (q3 (W_false Z (W_skip (N_K (W_seq (q2 (fA 2 Z (lB 0 H Z3 (lN Z (mV Z (q3 (W_block ?_))))))))))))
 obtain⟨ln15,hln15,H⟩:=H.name (k:=0) rfl
 refine W_lp (hf:=(Sub.cons (t:=26) Z (Sub.cons (t:=27) Z Sub.nil))) (J:=fun M w m=>∃(k:Nat) (G:PH),M=[(28,.int .i64 (k:Int))]∧PLe G0 G∧Hp w0 G0 [] w G [blk b2 (cl ln15 35)]∧(k≤x.ids.length∧(x.ids.take k).all (Sp.idOk x.dir)=true)∧m=(x.ids.length-k)) (h0:=⟨0,_,Z,PLe.refl _,H,?inv,Z⟩) (round:=?round)
 case inv=>exact⟨by omega,by simp⟩
 case round =>
  rintro _ _ _ ⟨k,_,rfl,hle16,H,hinv16,rfl⟩
  subst hln15
  have hr1:=hr1.up hle16
  obtain⟨hk,hall⟩:=hinv16
  refine q2 (pe 1 Z (q3 (W_seq ?_)))
  refine W_cond Z ?_ ?_
  ·intro hc17
   try simp only[nrm]at hc17
   refine W_skip (N_K (W_seq (W_block (q2 (iP k hr1 Z3 Z ?_)))));intro _ _ _ _ hz18 hE18 hrow18
   obtain⟨rfl,_⟩:=hE18
   refine lP H hrow18 0 Z2 (aG Z (q1 (pe 3 Z ?_)))
   refine R_case (t:=34) Z ?_ ?_
   ·intro hc19
    try simp only[nrm]at hc19
    refine pe 3 Z (q3 (W_true Z (q2 (aG Z (q3 (W_ret (N_B_ret (N_K_ret (N_LP_ret (N_B_ret (N_K_ret (rt1 results185 Z ?_))))))))))))
    exact H.rets (congrArg Value.bool (by rw[Sp.l5Item,Sp.all_false hz18 (by first|(exfalso;omega)|(simp[Sp.idOk,Sp.l6In, *];done)|(simp[Sp.idOk,Sp.l6In, *];omega))];rfl))
   intro hc19'
   try simp only[nrm]at hc19'
   refine pe 3 Z (q3 ?_)
   refine W_cond Z ?_ ?_
   ·intro hc20
    try simp only[nrm]at hc20
    refine q2 (aG Z (q3 (W_ret (N_B_ret (N_K_ret (N_LP_ret (N_B_ret (N_K_ret (rt1 results185 Z ?_)))))))))
    exact H.rets (congrArg Value.bool (by rw[Sp.l5Item,Sp.all_false hz18 (by first|(exfalso;omega)|(simp[Sp.idOk,Sp.l6In, *];done)|(simp[Sp.idOk,Sp.l6In, *];omega))];rfl))
   intro hc20'
   try simp only[nrm]at hc20'
   refine W_skip (N_B (N_K (W_region (aD Z2 (mV Z (R_nil ?_))))))
   refine N_lp (hJ:=⟨k+1,_,Z,hle16,H,?inv,Z⟩) (hm:=?hm)
   case hm=>omega
   case inv=>exact⟨by omega,Sp.all_take hall hz18 (by first|(exfalso;omega)|(simp[Sp.idOk,Sp.l6In, *];done)|(simp[Sp.idOk,Sp.l6In, *];omega))⟩
  intro hc17'
  try simp only[nrm]at hc17'
  refine W_exit (N_K_exit (N_LP_exit (N_B_same (N_K (q2 (aG Z (q3 (W_ret (rt1 results185 Z ?_)))))))))
  obtain rfl:k=x.ids.length:=by omega
  rw[List.take_length]at hall
  exact H.rets (congrArg Value.bool (by rw[Sp.l5Item,hall,Bool.eq_iff_iff];simp[hc4'];omega))
theorem l_isNaN_c (w0:World)(x:Bs)(hx:x.length≤16777216) :
  Calls Tryz.prog 274 #[str x] w0 (Rets w0 (.bool false)):=by
 have H:=Hp.init0 w0
 refine calls_of_W (l:=[str x]) func274 Z ntmps274 Z (q2 (aG Z (q1 (pe 2 Z (o_sneq Z Z Z (aG Z (q3 (W_ret (rt1 results274 Z ?_)))))))))
 exact H.rets (congrArg Value.bool (by simp))
theorem l_Compare_c (w0:World)(x:Bs)(hx:x.length≤16777216)(y:Bs)(hy:y.length≤16777216) :
  Calls Tryz.prog 248 #[str x,str y] w0 (Rets w0 (.int .i64 (Sp.cmpB x y))):=by
 have H:=Hp.init0 w0
 refine calls_of_W (l:=[str x,str y]) func248 Z ntmps248 Z (q2 (aG Z (q1 (mV Z (xr H Z2 (l_isNaN_c _ _ hx) ?_)))));intro _ H
 refine aG Z (q1 (mV Z (xr H Z2 (l_isNaN_c _ _ hy) ?_)));intro _ H
 refine aG Z (q3 (W_seq (q2 (mV Z (q3 (W_false Z (W_skip (N_K (W_seq (q2 (mV Z (q3 (W_false Z (W_skip (N_K ?_)))))))))))))))
 refine W_seq (q2 (pe 2 Z (o_slss Z Z Z (q3 ?_))))
 refine W_cond Z ?_ ?_
 ·intro hc3
  try simp only[nrm]at hc3
  refine q2 (aG Z (q3 (W_ret (N_K_ret (rt1 results248 Z ?_)))))
  exact H.rets (congrArg (Value.int .i64) (by unfold Sp.cmpB;simp_all))
 intro hc3'
 try simp only[nrm]at hc3'
 refine W_skip (N_K (W_seq (q2 (pe 2 Z (o_sgtr Z Z Z (q3 ?_))))))
 refine W_cond Z ?_ ?_
 ·intro hc4
  try simp only[nrm]at hc4
  refine q2 (aG Z (q3 (W_ret (N_K_ret (rt1 results248 Z ?_)))))
  exact H.rets (congrArg (Value.int .i64) (by unfold Sp.cmpB;simp_all))
 intro hc4'
 try simp only[nrm]at hc4'
 refine W_skip (N_K (q2 (aG Z (q3 (W_ret (rt1 results248 Z ?_))))))
 exact H.rets (congrArg (Value.int .i64) (by unfold Sp.cmpB;simp_all))
theorem i_place1_c (w0:World)(G0:PH)(hG:PSub G0 w0)(t:Nd)(hndt:RdN G0 t)(nm:Bs)(hnm:nm.length≤16777216) :
  Calls Tryz.prog 247 #[.pointer (some ⟨t.b,0,none⟩),str nm] w0 (Rets w0 (.int .i64 (Sp.cmpB t.name nm))):=by
 obtain⟨hnlt,_,_,_,_,_,_,hprt,hrit,hrkt⟩:=hndt.open
 have hn_hrit:=hrit.len;have hx_hrit:_≤1099511627776:=hrit.lim
 have hn_hrkt:=hrkt.len;have hx_hrkt:_≤1099511627776:=hrkt.lim
 have H:=Hp.init hG
 refine calls_of_W (l:=[.pointer (some ⟨t.b,0,none⟩),str nm]) func247 Z ntmps247 Z (q2 (aG Z (q1 (pe 2 Z (fA 0 Z (lP H hprt 0 Z2 (mV Z (xr H Z2 (l_Compare_c _ _ hnlt _ hnm) ?_))))))));intro _ H
 refine aG Z (q3 (W_ret (rt1 results247 Z ?_)))
 exact H.rets (congrArg (Value.int .i64) (by rfl))
theorem l_Search_c (w0:World)(G0:PH)(hG:PSub G0 w0)(vkids:Value)(kids:List (Nd))(hkids:RdNd G0 vkids kids)(nm:Bs)(hnm:nm.length≤16777216)(hsk:Sp.srt kids) :
  Calls Tryz.prog 246 #[vkids,str nm,.func (.func 247) #[] #[]] w0 (Rets w0 (.tuple #[.int .i64 (Sp.pl kids nm:Nat),.bool (Sp.fd kids nm).isSome])):=by
 obtain⟨akids,kkids,rfl⟩:=hkids.shape
 have hlimkids:kids.length≤1099511627776:=hkids.lim
 have H:=Hp.init hG
 refine calls_of_W (l:=[.slice akids kids.length kkids,str nm,.func (.func 247) #[] #[]]) func246 Z ntmps246 Z (q2 (pe 2 Z (q1 (mV Z (lN Z (aG Z (q1 (pe 3 Z (q3 (W_seq (W_block ?_)))))))))))
 refine W_lp (hf:=(Sub.cons (t:=0) Z (Sub.cons (t:=1) Z (Sub.cons (t:=2) Z (Sub.cons (t:=6) Z (Sub.cons (t:=7) Z (Sub.cons (t:=8) Z Sub.nil))))))) (J:=fun M w m=>∃(i j:Nat) (G:PH),M=[(9,.int .i64 (i:Int)),(10,.int .i64 (j:Int))]∧PLe G0 G∧Hp w0 G0 [] w G []∧(i≤j∧j≤kids.length∧(∀(k:Nat) (x:Nd),k<i→kids[k]? = some x→Sp.lt x.name nm=true)∧(∀(k:Nat) (x:Nd),j≤k→kids[k]? = some x→Sp.lt x.name nm=false))∧m=(j-i)) (h0:=⟨0,kids.length,_,Z,PLe.refl _,H,?inv,Z⟩) (round:=?round)
 case inv=>exact⟨by omega,by omega,fun k x hk=>by omega,fun k x hk hx=>by have:=(List.getElem?_eq_some_iff.1 hx).1;omega⟩
 case round =>
  rintro _ _ _ ⟨i,j,_,rfl,hle1,H,hinv1,rfl⟩
  have hkids:=hkids.up hle1
  obtain⟨_,_,hlo,hhi⟩:=hinv1
  refine W_seq (q2 (pe 3 Z (q3 ?_)))
  refine W_cond Z ?_ ?_
  ·intro hc2
   try simp only[nrm]at hc2
   refine W_skip (N_K (W_block (q2 (pe 2 Z (aD Z2 (o_conv (by simp[underlying3]) underlying312 Z Z (wrap_u64 oO) (o_shr1 Z Z Z (by decide) (o_conv (by simp[underlying312]) underlying3 Z Z (wrap_i64 oO) (aG Z (q1 (pe 3 Z (iP ((i+j) / 2) hkids Z3 oM ?_))))))))))));intro _ _ z4 _ hz4 hE4 hrow4
   obtain⟨rfl,hnd4⟩:=hE4;obtain⟨_,_,_,_,_,_,_,_,hri4,hrk4⟩:=hnd4.open;have hn_hri4:=hri4.len;have hx_hri4:_≤1099511627776:=hri4.lim;have hn_hrk4:=hrk4.len;have hx_hrk4:_≤1099511627776:=hrk4.lim
   refine lP H hrow4 0 Z2 (mV Z (o_callv call247 Z Z Z (i_place1_c _ _ H.sub _ hnd4 _ hnm) ?_))
   rintro _ _ ⟨rfl,ew5⟩;have H:=H.step ew5;refine⟨_,rfl,?_⟩
   refine pe 1 Z (q3 ?_)
   refine W_cond Z ?_ ?_
   ·intro hc6
    try simp only[nrm]at hc6
    refine W_region (mV Z (aD Z2 (aG Z (R_nil (N_B ?_)))))
    refine N_lp (hJ:=⟨((i+j) / 2+1),j,_,Z,hle1,H,?inv,Z⟩) (hm:=?hm)
    case hm=>omega
    case inv=>exact⟨by omega,by omega,Sp.pw_lt hsk hz4 ((Sp.cmpB_lt _ _).1 hc6),hhi⟩
   intro hc6'
   try simp only[nrm]at hc6'
   refine W_region (pe 2 Z (R_nil (N_B ?_)))
   refine N_lp (hJ:=⟨i,((i+j) / 2),_,Z,hle1,H,?inv,Z⟩) (hm:=?hm)
   case hm=>omega
   case inv=>exact⟨by omega,by omega,hlo,Sp.pw_ge hsk hz4 (by cases hlt:Sp.lt z4.name nm with |false=>rfl|true=>exact absurd ((Sp.cmpB_lt _ _).2 hlt) oM)⟩
  intro hc2'
  try simp only[nrm]at hc2'
  refine W_exit (N_K_exit (N_LP_exit (N_B_same (N_K (q2 (pe 5 Z ?_))))))
  refine R_case (t:=39) Z ?_ ?_
  ·intro hc8
   try simp only[nrm]at hc8
   refine pe 3 Z (gR Z (iP i hkids Z3 Z ?_));intro _ _ _ _ hz9 hE9 hrow9
   obtain⟨rfl,hnd9⟩:=hE9;obtain⟨_,_,_,_,_,_,_,_,hri9,hrk9⟩:=hnd9.open;have hn_hri9:=hri9.len;have hx_hri9:_≤1099511627776:=hri9.lim;have hn_hrk9:=hrk9.len;have hx_hrk9:_≤1099511627776:=hrk9.lim
   refine gR Z (lP H hrow9 0 Z2 (pe 1 Z (gR Z (o_callv call247 Z Z Z (i_place1_c _ _ H.sub _ hnd9 _ hnm) ?_))))
   rintro _ _ ⟨rfl,ew10⟩;have H:=H.step ew10;refine⟨_,rfl,?_⟩
   refine pe 4 Z (q3 (W_ret (rt2 results246 Z Z ?_)))
   obtain rfl:i=j:=by omega
   have hpl:=Sp.pl_of oM hlo hhi
   obtain⟨hfd,_⟩:=Sp.fd_at hsk hz9 hlo hhi
   exact H.rets (by rw[hpl,hfd];simp only[Sp.cmpB_eq];rfl)
  intro hc8'
  try simp only[nrm]at hc8'
  refine pe 11 Z (q3 (W_ret (rt2 results246 Z Z ?_)))
  obtain rfl:i=j:=by omega
  have hpl:=Sp.pl_of oM hlo hhi
  have hfd:=Sp.fd_end (nm:=nm) (ks:=kids) (fun k x hk hx=>hlo k x oM hx)
  exact H.rets (by rw[hpl,hfd];rfl)
theorem i_place_c (w0:World)(G0:PH)(hG:PSub G0 w0)(t:Nd)(hndt:RdN G0 t)(nm:Bs)(hnm:nm.length≤16777216)(hwt:t.wf) :
  Calls Tryz.prog 210 #[.pointer (some ⟨t.b,0,none⟩),str nm] w0 (Rets w0 (.tuple #[.int .i64 (Sp.pl t.kids nm:Nat),.bool (Sp.fd t.kids nm).isSome])):=by
 obtain⟨_,_,_,_,_,_,_,hprt,hrit,hrkt⟩:=hndt.open
 have hn_hrit:=hrit.len;have hx_hrit:_≤1099511627776:=hrit.lim
 have hn_hrkt:=hrkt.len;have hx_hrkt:_≤1099511627776:=hrkt.lim
 have H:=Hp.init hG
 refine calls_of_W (l:=[.pointer (some ⟨t.b,0,none⟩),str nm]) func210 Z ntmps210 Z (q2 (pe 2 Z (q1 (pe 2 Z (fA 3 Z (lP H hprt 3 Z2 (mV Z (xr H Z2 (l_Search_c _ _ H.sub _ _ hrkt _ hnm ((Nd.wf_iff _).1 hwt).1) ?_))))))));intro _ H
 refine pe 4 Z (q3 (W_ret (rt2 results210 Z Z ?_)))
 exact H.rets Z
theorem i_at_c (w0:World)(G0:PH)(hG:PSub G0 w0)(t:Nd)(hndt:RdN G0 t)(vps:Value)(ps:List (Bs))(hps:RdT G0 vps ps)(hwt:t.wf) :
  Calls Tryz.prog 157 #[.pointer (some ⟨t.b,0,none⟩),vps] w0 (RetV w0 (fun v=>(t.at_ ps=none∧v= .pointer none)∨(∃d,t.at_ ps=some d∧v= .pointer (some ⟨d.b,0,none⟩)))):=by
 obtain⟨_,_,_,_,_,_,_,hprt,hrit,hrkt⟩:=hndt.open
 have hn_hrit:=hrit.len;have hx_hrit:_≤1099511627776:=hrit.lim
 have hn_hrkt:=hrkt.len;have hx_hrkt:_≤1099511627776:=hrkt.lim
 obtain⟨aps,kps,rfl⟩:=hps.shape
 have hlimps:ps.length≤1099511627776:=hps.lim
 have H:=Hp.init hG
 refine calls_of_W (l:=[.pointer (some ⟨t.b,0,none⟩),.slice aps ps.length kps]) func157 Z ntmps157 Z (q2 (aG Z (q3 (W_seq (q2 (mV Z (lN Z (mV Z (q3 (W_block ?_))))))))))
 refine W_lp (hf:=(Sub.cons (t:=9) Z (Sub.cons (t:=10) Z Sub.nil))) (J:=fun M w m=>∃(k:Nat) (d:Nd) (G:PH),M=[(11,.int .i64 (k:Int)),(0,.pointer (some ⟨d.b,0,none⟩))]∧PLe G0 G∧Hp w0 G0 [] w G []∧(k≤ps.length∧RdN G d∧d.wf∧t.at_ (ps.take k)=some d)∧m=(ps.length-k)) (h0:=⟨0,t,_,Z,PLe.refl _,H,?inv,Z⟩) (round:=?round)
 case inv=>exact⟨by omega,hndt,hwt,rfl⟩
 case round =>
  rintro _ _ _ ⟨k,d,_,rfl,hle1,H,hinv1,rfl⟩
  have hps:=hps.up hle1
  obtain⟨_,hnd0,hwd,hat⟩:=hinv1;obtain⟨_,_,_,_,_,_,_,hpr0,_,hrk0⟩:=hnd0.open;have hn_hrk0:=hrk0.len
  refine q2 (pe 1 Z (q3 (W_seq ?_)))
  refine W_cond Z ?_ ?_
  ·intro hc2
   try simp only[nrm]at hc2
   refine W_skip (N_K (W_seq (W_block (q2 (iP k hps Z3 Z ?_)))));intro _ _ z3 _ hz3 hE3 hrow3
   obtain⟨rfl,hi3⟩:=hE3;have hy_hi3:_≤16777216:=hi3
   refine lP H hrow3 0 Z2 (aG Z (q1 (pe 2 Z (xr H Z2 (i_place_c _ _ H.sub _ hnd0 _ hi3 hwd) ?_))));intro _ H
   refine pe 5 Z (q3 (W_seq (q2 (pe 2 Z (q3 ?_)))))
   refine W_cond Z ?_ ?_
   ·intro hc5
    try simp only[nrm]at hc5
    refine q2 (aG Z (q3 (W_ret (N_K_ret (N_B_ret (N_K_ret (N_LP_ret (N_B_ret (N_K_ret (rt1 results157 Z ?_))))))))))
    exact H.retV (.inl ⟨Nd.at_stop hz3 hat (by simpa [Sp.fd,Nd.kid] using hc5),rfl⟩)
   intro hc5'
   try simp only[nrm]at hc5'
   obtain⟨q,hq⟩:=Option.isSome_iff_exists.1 hc5'
   have hpl:d.kids[Sp.pl d.kids z3]? = some q:=Nd.place_some hwd hq
   have hlt:Sp.pl d.kids z3<d.kids.length:=(List.getElem?_eq_some_iff.1 hpl).1
   refine W_skip (N_K (W_region (pe 2 Z (fA 3 Z (lP H hpr0 3 Z2 (mV Z (iP (Sp.pl d.kids z3) hrk0 Z3 Z ?_)))))));intro _ _ z6 _ hz6 hE6 hrow6
   obtain⟨rfl,hnd6⟩:=hE6;obtain⟨_,_,_,_,_,_,_,_,hri6,hrk6⟩:=hnd6.open;have hn_hri6:=hri6.len;have hx_hri6:_≤1099511627776:=hri6.lim;have hn_hrk6:=hrk6.len;have hx_hrk6:_≤1099511627776:=hrk6.lim
   have hkid:Nd.kid d z3=some z6:=by (show Sp.fd _ _=_);rw[hq];exact hpl.symm.trans hz6
   refine lP H hrow6 0 Z2 (aG Z (R_nil (N_B (N_K (W_region (aD Z2 (mV Z (R_nil ?_))))))))
   refine N_lp (hJ:=⟨k+1,z6,_,Z,hle1,H,?inv,Z⟩) (hm:=?hm)
   case hm=>omega
   case inv=>exact⟨by omega,hnd6,(((Nd.wf_iff _).1 hwd).2 _ (List.mem_of_getElem? hz6)).2,by rw[Nd.at_step hz3 hat];exact hkid⟩
  intro hc2'
  try simp only[nrm]at hc2'
  refine W_exit (N_K_exit (N_LP_exit (N_B_same (N_K (q2 (pe 2 Z (q3 (W_ret (rt1 results157 Z ?_)))))))))
  exact H.retV (.inr ⟨d,by rw[←hat,List.take_of_length_le oM],rfl⟩)
theorem i_dirOf_c (w0:World)(G0:PH)(hG:PSub G0 w0)(t:Nd)(hndt:RdN G0 t)(path:Bs)(hpath:path.length≤16777216)(hwt:t.wf) :
  Calls Tryz.prog 156 #[.pointer (some ⟨t.b,0,none⟩),str path] w0 (RetV w0 (fun v=>(t.dirOf path=none∧v= .tuple #[.pointer none,str []])∨(∃d nm,t.dirOf path=some (d,nm)∧v= .tuple #[.pointer (some ⟨d.b,0,none⟩),str nm]))):=by
 obtain⟨_,_,_,_,_,_,_,hprt,hrit,hrkt⟩:=hndt.open
 have hn_hrit:=hrit.len;have hx_hrit:_≤1099511627776:=hrit.lim
 have hn_hrkt:=hrkt.len;have hx_hrkt:_≤1099511627776:=hrkt.lim
 have H:=Hp.init hG
 refine calls_of_W (l:=[.pointer (some ⟨t.b,0,none⟩),str path]) func156 Z ntmps156 Z (q2 (pe 2 Z (q1 (mV Z (xc Z2 (i_PathParts_c _ _ H.sub _ hpath) ?_)))))
 rintro _ _ ⟨G1,_,g1,rfl,hr1_0⟩
 have H:=H.grow g1
 have hndt:=hndt.up g1.le
 obtain⟨_,_,rfl⟩:=hr1_0.shape;have hx_hr1_0:_≤1099511627776:=hr1_0.lim
 refine⟨_,Z,?_⟩
 refine aG Z (q3 (W_seq (q2 (mV Z (lN Z (pe 1 Z (q3 ?_)))))))
 refine W_cond Z ?_ ?_
 ·intro hc2
  try simp only[nrm]at hc2
  refine q2 (pe 2 Z (q3 (W_ret (N_K_ret (rt2 results156 Z Z ?_)))))
  exact H.retV (.inl ⟨Nd.dirOf_nil oM,Z⟩)
 intro hc2'
 try simp only[nrm]at hc2'
 refine W_skip (N_K (q2 (mV Z (lN Z (o_sub Z Z Z oO (aG Z (q1 (pe 3 Z ?_))))))))
 have hcap4:=hr1_0.cap;try simp only[List.length_set,List.length_append,List.length_take,List.length_drop,List.length_replicate]at hcap4
 refine o_slice_to (j:=((Sp.parts path).length-1)) underlying95 sizeOf9 Z Z Z oM oM ?_
 have hsl4:=hr1_0.take (j:=((Sp.parts path).length-1)) aN
 have hsn1:=hsl4.len
 refine xc Z2 (i_at_c _ _ H.sub _ hndt _ _ hsl4 hwt) ?_
 rintro _ _ ⟨_,rfl,ew5,⟨hat5,rfl⟩|⟨_,hat5,rfl⟩⟩
 ·skip
  have H:=H.step ew5;refine⟨_,rfl,?_⟩
  refine aG Z (q3 (W_seq (q2 (mV Z (o_eqnil_ptr underlying119 Z Z Z (pe 7 Z (q3 (W_true Z (q2 (pe 2 Z (q3 (W_ret (N_K_ret (rt2 results156 Z Z ?_))))))))))))))
  exact H.retV (.inl ⟨Nd.dirOf_no oM hat5,Z⟩)
 skip
 have H:=H.step ew5;refine⟨_,rfl,?_⟩
 have hnd5:=hndt.at hat5;obtain⟨_,_,_,_,_,_,_,hpr5,hri5,hrk5⟩:=hnd5.open
 have hn_hri5:=hri5.len;have hx_hri5:_≤1099511627776:=hri5.lim
 have hn_hrk5:=hrk5.len;have hx_hrk5:_≤1099511627776:=hrk5.lim
 refine aG Z (q3 (W_seq (q2 (mV Z (o_eqnil_ptr underlying119 Z Z Z (pe 3 Z (gR Z (fA 1 Z (gR Z (lP H hpr5 1 Z2 (pe 2 Z (q3 ?_))))))))))))
 refine W_cond Z ?_ ?_
 ·intro hc6
  try simp only[nrm]at hc6
  refine q2 (pe 2 Z (q3 (W_ret (N_K_ret (rt2 results156 Z Z ?_)))))
  exact H.retV (.inl ⟨Nd.dirOf_nodir oM hat5 (by simpa using hc6),rfl⟩)
 intro hc6'
 try simp only[nrm]at hc6'
 refine W_skip (N_K (W_seq (W_drawK [] 7 H kR Z ?_)));intro _ H;have hd7:=PLe.refl G1
 refine dE 0 Z2 (dE 1 Z2 (dE 2 Z2 ?_))
 have hl8:=hr1_0.len
 obtain⟨_,_,_,_,ha8,hz8,hq8,hE8,hrow8,_⟩:=hr1_0.at (i:=((Sp.parts path).length-1)) oM
 clear hq8
 obtain⟨rfl,hi8⟩:=hE8;have hy_hi8:_≤16777216:=hi8
 refine dI 3 1 ((Sp.parts path).length-1) ha8 Z3 oM (dP 4 hrow8 0 Z3 (dE 5 Z2 (dE 6 Z2 (rz (N_K (W_ret (rt2 results156 Z Z ?_)))))))
 exact H.retV (.inr ⟨_,_,Nd.dirOf_yes oM hz8 hat5 (by simpa using hc6'),rfl⟩)
theorem i_find_n_c (w0:World)(G0:PH)(hG:PSub G0 w0)(t:Nd)(hndt:RdN G0 t)(path:Bs)(hpath:path.length≤16777216)(hwt:t.wf) :
  Calls Tryz.prog 76 #[.pointer (some ⟨t.b,0,none⟩),str path] w0 (RetV w0 (fun v=>(t.find path=none∧v= .pointer none)∨(∃d,t.find path=some d∧v= .pointer (some ⟨d.b,0,none⟩)))):=by
 obtain⟨_,_,_,_,_,_,_,_,hrit,hrkt⟩:=hndt.open
 have hn_hrit:=hrit.len;have hx_hrit:_≤1099511627776:=hrit.lim
 have hn_hrkt:=hrkt.len;have hx_hrkt:_≤1099511627776:=hrkt.lim
 have H:=Hp.init hG
 refine calls_of_W (l:=[.pointer (some ⟨t.b,0,none⟩),str path]) func76 Z ntmps76 Z (q2 (aG Z (q1 (pe 2 Z (xc Z2 (i_dirOf_c _ _ H.sub _ hndt _ hpath hwt) ?_)))))
 rintro _ _ ⟨_,rfl,ew1,⟨hdf1,rfl⟩|⟨_,nm1,hdf1,rfl⟩⟩
 ·skip
  have H:=H.step ew1;refine⟨_,rfl,?_⟩
  refine pe 5 Z (q3 (W_seq (q2 (mV Z (o_eqnil_ptr underlying119 Z Z Z (q3 (W_true Z (q2 (aG Z (q3 (W_ret (N_K_ret (rt1 results76 Z ?_)))))))))))))
  exact H.retV (.inl ⟨Nd.find_no hdf1,Z⟩)
 skip
 have H:=H.step ew1;refine⟨_,rfl,?_⟩
 have hnml1:=Nd.dir_len hdf1
 have hnd1:=hndt.at (Nd.dirOf_some hdf1).2.2.1;obtain⟨_,_,nm1,_,_,_,_,_,hri1,hrk1⟩:=hnd1.open
 have hn_hri1:=hri1.len;have hx_hri1:_≤1099511627776:=hri1.lim
 have hn_hrk1:=hrk1.len;have hx_hrk1:_≤1099511627776:=hrk1.lim
 refine pe 5 Z (q3 (W_seq (q2 (mV Z (o_eqnil_ptr underlying119 Z Z Z (q3 (W_false Z (W_skip (N_K (q2 (pe 2 Z (xbs H Z7 ?_))))))))))));intro _ _ _ H
 have H:=H.blkAcc 1 (k:=0) (n:=1) rfl rfl (by decide)
 have hchk4:=((Chk.nil (E:=strE) (sz:=1) (G:=G0)).snoc (show strE _ _ _ from⟨rfl,hnml1⟩) rfl)
 refine xc Z2 (i_at_c _ _ (H.lendSubL [0]) _ (hnd1.up (PPlus.le _ _ _)) _ _ (H.lendRdL (k:=0) (ks:=[0]) Z Z hchk4 aN aN) (Nd.dir_wf hwt hdf1)) ?_
 rintro _ _ ⟨_,rfl,ew3,⟨hat3,rfl⟩|⟨_,hat3,rfl⟩⟩
 ·skip
  have H:=H.step ew3;refine⟨_,rfl,?_⟩
  refine aG Z (q3 (W_ret (rt1 results76 Z ?_)))
  exact H.retV (.inl ⟨(Nd.find_yes hdf1).trans hat3,Z⟩)
 skip
 have H:=H.step ew3;refine⟨_,rfl,?_⟩
 have hnd3:=hnd1.at hat3;obtain⟨_,_,_,_,_,_,_,_,hri3,hrk3⟩:=hnd3.open
 have hn_hri3:=hri3.len;have hx_hri3:_≤1099511627776:=hri3.lim
 have hn_hrk3:=hrk3.len;have hx_hrk3:_≤1099511627776:=hrk3.lim
 refine aG Z (q3 (W_ret (rt1 results76 Z ?_)))
 exact H.retV (.inr ⟨_,(Nd.find_yes hdf1).trans hat3,Z⟩)
theorem l_Insert_c (w0:World)(G0:PH)(hG:PSub G0 w0)(vkids:Value)(kids:List Nd)(i:Nat)(hi:i≤kids.length)(hkl:kids.length≤1099511627776)(vbk:Nat)(k:Nd)(hLent:Lent w0 G0 [acc 119 1 vkids kids.length (ptrs kids),blk vbk (cl [ptr k.b] 119)]) :
  Calls Tryz.prog 228 #[vkids,.int .i64 (i:Int),.slice (some ⟨vbk,0,none⟩) 1 1] w0 (RetM w0 G0 (fps [acc 119 1 vkids kids.length (ptrs kids),blk vbk (cl [ptr k.b] 119)]) (fun G' v Bs=>∃(c:List Value),Bs=[acc 119 1 v (kids.length+1) c]∧c=ptrs (kids.take i++k::kids.drop i))):=by
 have H:Hp w0 G0 (fps [acc 119 1 vkids kids.length (ptrs kids),blk vbk (cl [ptr k.b] 119)]) w0 G0 [acc 119 1 vkids kids.length (ptrs kids),blk vbk (cl [ptr k.b] 119)]:=hLent.hp
 obtain⟨akids,ckids,rfl⟩:=H.accShape (k:=0) rfl
 refine calls_of_W (l:=[.slice akids kids.length ckids,.int .i64 (i:Int),.slice (some ⟨vbk,0,none⟩) 1 1]) func228 Z ntmps228 Z (q2 (aG Z (q1 (pe 2 Z ?_))))
 have hac1:=H.accCap (k:=0) rfl
 refine o_slice_from (i:=i) underlying136 sizeOf119 Z Z Z Z oM (q1 (mV Z (lN Z (aG Z (q3 (W_seq (q2 (pe 2 Z (q3 ?_)))))))))
 refine W_cond Z ?_ ?_
 ·intro hc2
  try simp only[nrm]at hc2
  exact absurd hc2 (by decide)
 intro hc2'
 try simp only[nrm]at hc2'
 refine W_skip (N_K (q2 (mV Z (lN Z (aG Z (q3 (W_seq (q2 (pe 3 Z (q3 ?_))))))))))
 refine W_cond Z ?_ ?_
 ·intro hc3
  try simp only[nrm]at hc3
  refine q2 (pe 2 Z ?_)
  refine o_append 0 H underlying136 typeInfo119 ⟨_,Z,Z⟩ Z Z Z Z Z Z Z (news:=[ptr k.b]) Z (fun j u hu=>by (rw[Nat.zero_add]);exact blk_cell (k:=1) H rfl (by simpa using hu)) (by simp[ptr,Value.oneCell']) oM (by decide) ?_;intro _ _ H
  refine aG Z (q3 (W_ret (N_K_ret (rt1 results228 Z ?_))))
  have H:=H.dl 1
  exact H.retM ⟨_,rfl,by (obtain rfl:i=kids.length:=by omega);(rw[List.take_length,List.drop_length]);simp[ptrs]⟩
 intro hc3'
 try simp only[nrm]at hc3'
 obtain⟨b0,_,_,hv0,_⟩:=H.accBlk (k:=0) (i:=i) rfl oM;cases hv0
 have hvk:vbk≠b0:=fun e=>by subst e;have:=H.nd;simp[fps,acc_fp,blk]at this
 have hcc:=H.accCap (k:=0) rfl
 have hcm:=H.accMax (k:=0) rfl
 refine W_skip (N_K (W_seq (q2 (pe 2 Z (aD Z2 (mV Z (o_cap underlying136 Z Z (pe 1 Z (q3 ?_)))))))))
 refine W_cond Z ?_ ?_
 ·intro hc6
  try simp only[nrm]at hc6
  refine q2 (pe 2 Z ?_)
  have hac7:=H.accCap (k:=0) rfl
  refine o_slice_to (j:=i) underlying136 sizeOf119 Z Z Z Z oM (pe 2 Z (aD Z2 (mV Z (o_sub Z Z Z oO (o_appmk 0 H (kids.length+1-i) underlying136 underlying3 typeInfo119 Z Z Z Z Z Z Z Z oM Z oM oM oM oM ?_)))));intro _ _ _ H _ _
  refine aG Z (q1 (pe 2 Z (o_slice_from1 (i:=i) underlying136 sizeOf119 Z Z Z oM oM oM (mV Z ?_))))
  refine o_copy 0 H ([ptr k.b]) underlying136 typeInfo119 Z Z Z Z Z (by simp[Nat.min_def]<;>(try split)<;>omega) (fun j v hj=>by (rw[Addr.add_lit,Nat.zero_add]);exact blk_cell (k:=2) H rfl (by simpa using hj)) (by intro v hv;first|exact ptrs_one v (List.mem_of_mem_drop hv)|(simp at hv;subst hv;rfl)) (by simp;try omega) ?_;intro _ H
  refine q3 (W_seq (W_drawK [2] 9 H kR Z ?_));intro _ H;have hd12:=PLe.refl G0
  refine dE 0 Z2 (dE 1 Z2 (dE 2 Z2 (RD_t 3 Z kR Z (fun _ hK=>v_add Z Z oO) (RD_t 4 Z kR Z (fun _ hK=>v_slice_from1 (i:=(i+1)) underlying136 sizeOf119 Z Z oM oM oM) (dE 5 Z2 (dE 6 Z2 (RD_t 7 Z kR Z (fun _ hK=>v_slice_from1 (i:=i) underlying136 sizeOf119 Z Z oM oM oM) (r1 8 Z ?_))))))))
  refine o_copy 0 H ((ptrs kids).drop i) underlying136 typeInfo119 Z Z Z Z Z (by simp[Nat.min_def]<;>(try split)<;>omega) (fun j v hj=>by (rw[Addr.add_lit]);(rw[List.getElem?_drop]at hj);exact acc_cell (k:=1) H rfl (by first|exact hj|(rw[List.getElem?_append_left (List.getElem?_eq_some_iff.1 hj).1];exact hj))) (by intro v hv;first|exact ptrs_one v (List.mem_of_mem_drop hv)|(simp at hv;subst hv;rfl)) (by simp;try omega) ?_;intro _ H
  refine q4 H hd12 (rz (N_K (q2 (pe 2 Z (q3 (W_ret (N_K_ret (rt1 results228 Z ?_))))))))
  have H:=H.dl 1
  have H:=H.dl 1
  have hcx:=(insC2 (x:=ptr k.b) (z:= .pointer none) (i:=i) (r:=kids.length+1-i) (c:=ptrs kids) (by simp;omega) (by simp;omega)).trans (ptrs_ins kids k i)
  exact H.retM ⟨_,acc_1 oM,hcx⟩
 intro hc6'
 try simp only[nrm]at hc6'
 refine W_skip (N_K (q2 (pe 3 Z (aD Z2 (o_slice_to (j:=kids.length+1) underlying136 sizeOf119 Z Z Z oM oM ?_)))))
 obtain⟨_,H⟩:=H.accMore (k:=0) rfl oM
 refine aG Z (q3 (W_seq (q2 (pe 4 Z (aD Z2 (o_slice_from1 (i:=(i+1)) underlying136 sizeOf119 Z Z Z oM oM oM (o_overlaps 0 1 H (fun args w=>run_callFunc_extern func260 kR kR kR (e:=Extern.SlicesOverlaps.overlaps #[136,136] #[4]) kR args w) underlying136 sizeOf119 Z Z Z Z hvk oM (pe 1 Z (q3 (W_true Z (W_seq (W_drawK [1] 9 H kR Z ?_))))))))))));intro _ H;have hd17:=PLe.refl G0
 refine dE 0 Z2 (dE 1 Z2 (dE 2 Z2 (RD_t 3 Z kR Z (fun _ hK=>v_add Z Z oO) (RD_t 4 Z kR Z (fun _ hK=>v_slice_from1 (i:=(i+1)) underlying136 sizeOf119 Z Z oM oM oM) (dE 5 Z2 (dE 6 Z2 (RD_t 7 Z kR Z (fun _ hK=>v_slice_from1 (i:=i) underlying136 sizeOf119 Z Z oM oM oM) (r1 8 Z ?_))))))))
 refine o_copy 0 H ((ptrs kids).drop i) underlying136 typeInfo119 Z Z Z Z Z (by simp[Nat.min_def]<;>(try split)<;>omega) (fun j v hj=>by (rw[Addr.add_lit]);(rw[List.getElem?_drop]at hj);exact acc_cell (k:=0) H rfl (by first|exact hj|(rw[List.getElem?_append_left (List.getElem?_eq_some_iff.1 hj).1];exact hj))) (by intro v hv;first|exact ptrs_one v (List.mem_of_mem_drop hv)|(simp at hv;subst hv;rfl)) (by simp;try omega) ?_;intro _ H
 refine q4 H hd17 (rz (N_K (q2 (pe 2 Z (o_slice_from1 (i:=i) underlying136 sizeOf119 Z Z Z oM oM oM (mV Z ?_))))))
 refine o_copy 0 H ([ptr k.b]) underlying136 typeInfo119 Z Z Z Z Z (by simp[Nat.min_def]<;>(try split)<;>omega) (fun j v hj=>by (rw[Addr.add_lit,Nat.zero_add]);exact blk_cell (k:=1) H rfl (by simpa using hj)) (by intro v hv;first|exact ptrs_one v (List.mem_of_mem_drop hv)|(simp at hv;subst hv;rfl)) (by simp;try omega) ?_;intro _ H
 refine q1 (pe 2 Z (q3 (W_ret (N_K_ret (rt1 results228 Z ?_)))))
 have H:=H.dl 1
 exact H.retM ⟨_,rfl,(insC (by simp;omega)).trans (ptrs_ins kids k i)⟩
theorem i_insert_c (w0:World)(G0:PH)(hG:PSub G0 w0)(Ft:Fr)(t:Nd)(hNt:NdO 138 119 G0 t Ft)(cx:List Value)(x:BItem)(hx:itemE G0 x cx)(hLent:Lent w0 G0 [frag Ft])(hwt:t.wf)(hct:t.cnt≤1000) :
  Calls Tryz.prog 186 #[.pointer (some ⟨t.b,0,none⟩),.agg cx.toArray] w0 (RetM w0 G0 (fps [frag Ft]) (fun G' v Bs=>∃(nb:Nat) (F':Fr) (t':Nd),v= .bool (t.ins x nb).isSome∧Bs=[frag F']∧NdO 138 119 G' t' F'∧t'.b=t.b∧(t.ins x nb).getD t=t')):=by
 obtain⟨_,_,_,rfl,hi1,hr1,_,_⟩:=ox hx
 have H:Hp w0 G0 (fps [frag Ft]) w0 G0 [frag Ft]:=hLent.hp
 refine calls_of_W (l:=[.pointer (some ⟨t.b,0,none⟩),_]) func186 Z ntmps186 Z (q2 (o_box H Z Z Z ?_));intro _ _ _ H
 refine aG Z (q1 (mV Z (fA 0 Z (lB 0 H Z3 (xc Z2 (i_dirOf_c _ _ (H.lendSubL [1]) _ ((H.lendN (k:=1) (ks:=[1]) Z Z hNt).at (show Nd.at_ t []=some t from Z)) _ hi1 hwt) ?_)))))
 rintro _ _ ⟨_,rfl,ew3,⟨hdf3,rfl⟩|⟨d3,nm3,hdf3,rfl⟩⟩
 ·skip
  have H:=H.step ew3;refine⟨_,rfl,?_⟩
  refine pe 5 Z (q3 (W_seq (q2 (mV Z (o_eqnil_ptr underlying119 Z Z Z (q3 (W_true Z (q2 (aG Z (q3 (W_ret (N_K_ret (rt1 results186 Z ?_)))))))))))))
  have H:=H.dl 0
  exact H.retM ⟨0,_,_,by (rw[(Nd.ins_no1 hdf3)];rfl),rfl,hNt,rfl,by (rw[(Nd.ins_no1 hdf3)];rfl)⟩
 skip
 have H:=H.step ew3;refine⟨_,rfl,?_⟩
 have hnml3:=Nd.dir_len hdf3
 refine pe 5 Z (q3 (W_seq (q2 (mV Z (o_eqnil_ptr underlying119 Z Z Z (q3 (W_false Z (W_skip (N_K (q2 (pe 2 Z (xr H Z2 (i_place_c _ _ (H.lendSubL [1]) _ ((H.lendN (k:=1) (ks:=[1]) Z Z hNt).at (Nd.dirOf_some hdf3).2.2.1) _ hnml3 (Nd.dir_wf hwt hdf3)) ?_))))))))))));intro _ H
 refine pe 5 Z (q3 (W_seq (q2 (mV Z (q3 ?_)))))
 refine W_cond Z ?_ ?_
 ·intro hc5
  try simp only[nrm]at hc5
  refine q2 (aG Z (q3 (W_ret (N_K_ret (rt1 results186 Z ?_)))))
  have H:=H.dl 0
  exact H.retM ⟨0,_,_,by (rw[(Nd.ins_no2 hdf3 (by simpa using hc5))];rfl),rfl,hNt,rfl,by (rw[(Nd.ins_no2 hdf3 (by simpa using hc5))];rfl)⟩
 intro hc5'
 try simp only[nrm]at hc5'
 have H:=H.tF 1
 obtain⟨_,_,_,_,_,oR,H,ohri,ohNs,_,_,hcov,hclose⟩:=Hp.openNode H hNt (Nd.dirOf_some hdf3).2.2.1
 obtain⟨_,_,rfl⟩:=H.accShape (k:=1) rfl;have hdo:=PLe.refl G0;have hn_ohri:=ohri.len
 refine W_skip (N_K (W_seq (W_drawK [3] 19 H kR Z ?_)));intro _ H;have hd6:=PLe.refl G0
 refine dE 0 Z2 (dE 1 Z2 (dE 2 Z2 (dF 3 3 Z2 (dE 5 Z2 (dE 6 Z2 (dF 7 1 Z2 (dB 8 0 Z4 (dF 9 2 Z2 (dB 10 0 Z4 ?_)))))))))
 refine r2 4 11 Z2 ?_ ?_
 ·skip
  refine lB 0 H Z3 (q4 H hd6 (r1 11 Z (xc Z2 (l_Clone_c _ _ H.sub _ _ hr1) ?_)))
  rintro _ _ ⟨_,_,_,g7,rfl,⟨_,rfl,hchk7⟩,hp7,hq7,hs7⟩
  have H:=H.growO g7 hp7 hq7 hs7;obtain⟨_,_,rfl⟩:=H.accShape (k:=0) rfl
  have ohri:=ohri.up g7.le
  have ohNs:=ohNs.up g7.le
  have hdo:=hdo.trans g7.le
  have hd6:=hd6.trans g7.le
  refine⟨_,Z,?_⟩
  obtain⟨_,H,hsg8,hsr8⟩:=H.shutL (k:=0) rfl (H.apart (k:=0) (ks:=[1,2,3]) rfl rfl (by intro b hb;rcases hcov b hb with h|h|h;(· exact fpsAt_mem (k:=1) rfl rfl b (by simp[blk,h]));(· exact fpsAt_mem (k:=2) rfl rfl b h);(· exact fpsAt_mem (k:=3) rfl rfl b h))) hchk7 aN aN
  have ohri:=ohri.up hsg8
  have ohNs:=ohNs.up hsg8
  have hdo:=hdo.trans hsg8
  have hd6:=hd6.trans hsg8
  refine q4 H hd6 (RD_t 12 Z kR Z (fun _ hK=>v_build bf138 Z Z) (r1 13 Z (o_box H Z Z Z ?_)));intro b9 _ _ H
  refine q4 H hd6 (r1 14 Z (xbs H Z7 ?_));intro _ _ _ H
  refine q4 H hd6 (r1 15 Z ?_)
  have H:=H.tF 3
  refine xc Z2 (l_Insert_c _ _ H.sub _ _ _ (Sp.pl_le d3.kids nm3) oM _ (Nd.mk b9 nm3 x.dir x.ids []) H.lent2) ?_
  rintro _ _ ⟨_,_,_,rfl,H11',⟨_,rfl,rfl⟩⟩
  have ohri:=ohri.up H11'.le
  have ohNs:=ohNs.up H11'.le
  have hsr8:=hsr8.up H11'.le
  have hdo:=hdo.trans H11'.le
  have hd6:=hd6.trans H11'.le
  have H:=H.borrow2 H11'
  obtain⟨avAk,cvAk,rfl⟩:=H.accShape (k:=0) rfl
  refine⟨_,Z,?_⟩
  refine q4 H hd6 (dE 16 Z2 (dF 17 3 Z2 (r1 18 Z (xst 2 H Z8 ?_))));intro _ H
  refine q4 H hd6 (rz (N_K (q2 (aG Z (q3 (W_ret (rt1 results186 Z ?_)))))))
  have H:=H.dl 4
  have H:=H.tF 2
  have H:=H.tF 3
  have H:=H.tF 3
  have H:=H.inF
  have H:=H.tF 2
  have H:=H.tF 2
  obtain⟨Fs2,hp2,hN2⟩:=NdsO.ins (k:=Nd.mk b9 nm3 x.dir x.ids []) (Sp.pl d3.kids nm3) ohNs (NdO.new hnml3 hsr8)
  have hcd:=Nd.at_cnt (Nd.dirOf_some hdf3).2.2.1;have hcl:=Nd.kids_le d3;have hpl:=Sp.pl_le d3.kids nm3
  have hkl:(d3.kids.take (Sp.pl d3.kids nm3)++Nd.mk b9 nm3 x.dir x.ids []::d3.kids.drop (Sp.pl d3.kids nm3)).length=d3.kids.length+1:=by (simp;omega)
  obtain⟨F2,H,hN3,hb3⟩:=hclose (kids':=(d3.kids.take (Sp.pl d3.kids nm3)++Nd.mk b9 nm3 x.dir x.ids []::d3.kids.drop (Sp.pl d3.kids nm3))) (Fs':=Fs2) (by (rw[hkl]);exact H) (by (refine List.Perm.trans ?_ (List.Perm.append_right oR hp2.symm));simp) hdo ohri hN2 oM
  have hins:=Nd.ins_yes (nb:=b9) hdf3 (by simpa using hc5')
  exact H.retM ⟨b9,_,_,by (rw[hins];rfl),rfl,hN3,hb3,by (rw[hins];rfl)⟩
 skip
 refine xc Z2 (l_Clone_c _ _ H.sub _ _ hr1) ?_
 rintro _ _ ⟨_,_,_,g13,rfl,⟨_,rfl,hchk13⟩,hp13,hq13,hs13⟩
 have H:=H.growO g13 hp13 hq13 hs13;obtain⟨_,_,rfl⟩:=H.accShape (k:=0) rfl
 have ohri:=ohri.up g13.le
 have ohNs:=ohNs.up g13.le
 have hdo:=hdo.trans g13.le
 have hd6:=hd6.trans g13.le
 refine⟨_,Z,?_⟩
 obtain⟨_,H,hsg14,hsr14⟩:=H.shutL (k:=0) rfl (H.apart (k:=0) (ks:=[1,2,3]) rfl rfl (by intro b hb;rcases hcov b hb with h|h|h;(· exact fpsAt_mem (k:=1) rfl rfl b (by simp[blk,h]));(· exact fpsAt_mem (k:=2) rfl rfl b h);(· exact fpsAt_mem (k:=3) rfl rfl b h))) hchk13 aN aN
 have ohri:=ohri.up hsg14
 have ohNs:=ohNs.up hsg14
 have hdo:=hdo.trans hsg14
 have hd6:=hd6.trans hsg14
 refine q4 H hd6 (RD_t 12 Z kR Z (fun _ hK=>v_build bf138 Z Z) ?_)
 refine r2 4 13 Z2 ?_ ?_
 ·skip
  refine lB 0 H Z3 (q4 H hd6 (r1 13 Z (o_box H Z Z Z ?_)));intro b15 _ _ H
  refine q4 H hd6 (r1 14 Z (xbs H Z7 ?_));intro _ _ _ H
  refine q4 H hd6 (r1 15 Z ?_)
  have H:=H.tF 3
  refine xc Z2 (l_Insert_c _ _ H.sub _ _ _ (Sp.pl_le d3.kids nm3) oM _ (Nd.mk b15 nm3 x.dir x.ids []) H.lent2) ?_
  rintro _ _ ⟨_,_,_,rfl,H17',⟨_,rfl,rfl⟩⟩
  have ohri:=ohri.up H17'.le
  have ohNs:=ohNs.up H17'.le
  have hsr14:=hsr14.up H17'.le
  have hdo:=hdo.trans H17'.le
  have hd6:=hd6.trans H17'.le
  have H:=H.borrow2 H17'
  obtain⟨avAk,cvAk,rfl⟩:=H.accShape (k:=0) rfl
  refine⟨_,Z,?_⟩
  refine q4 H hd6 (dE 16 Z2 (dF 17 3 Z2 (r1 18 Z (xst 2 H Z8 ?_))));intro _ H
  refine q4 H hd6 (rz (N_K (q2 (aG Z (q3 (W_ret (rt1 results186 Z ?_)))))))
  have H:=H.dl 4
  have H:=H.tF 2
  have H:=H.tF 3
  have H:=H.tF 3
  have H:=H.inF
  have H:=H.tF 2
  have H:=H.tF 2
  obtain⟨Fs2,hp2,hN2⟩:=NdsO.ins (k:=Nd.mk b15 nm3 x.dir x.ids []) (Sp.pl d3.kids nm3) ohNs (NdO.new hnml3 hsr14)
  have hcd:=Nd.at_cnt (Nd.dirOf_some hdf3).2.2.1;have hcl:=Nd.kids_le d3;have hpl:=Sp.pl_le d3.kids nm3
  have hkl:(d3.kids.take (Sp.pl d3.kids nm3)++Nd.mk b15 nm3 x.dir x.ids []::d3.kids.drop (Sp.pl d3.kids nm3)).length=d3.kids.length+1:=by (simp;omega)
  obtain⟨F2,H,hN3,hb3⟩:=hclose (kids':=(d3.kids.take (Sp.pl d3.kids nm3)++Nd.mk b15 nm3 x.dir x.ids []::d3.kids.drop (Sp.pl d3.kids nm3))) (Fs':=Fs2) (by (rw[hkl]);exact H) (by (refine List.Perm.trans ?_ (List.Perm.append_right oR hp2.symm));simp) hdo ohri hN2 oM
  have hins:=Nd.ins_yes (nb:=b15) hdf3 (by simpa using hc5')
  exact H.retM ⟨b15,_,_,by (rw[hins];rfl),rfl,hN3,hb3,by (rw[hins];rfl)⟩
 skip
 refine o_box H Z Z Z ?_;intro b19 _ _ H
 refine q4 H hd6 ?_
 refine r2 4 14 Z2 ?_ ?_
 ·skip
  refine lB 1 H Z3 (q4 H hd6 (r1 14 Z (xbs H Z7 ?_)));intro _ _ _ H
  refine q4 H hd6 (r1 15 Z ?_)
  have H:=H.tF 3
  refine xc Z2 (l_Insert_c _ _ H.sub _ _ _ (Sp.pl_le d3.kids nm3) oM _ (Nd.mk b19 nm3 x.dir x.ids []) H.lent2) ?_
  rintro _ _ ⟨_,_,_,rfl,H21',⟨_,rfl,rfl⟩⟩
  have ohri:=ohri.up H21'.le
  have ohNs:=ohNs.up H21'.le
  have hsr14:=hsr14.up H21'.le
  have hdo:=hdo.trans H21'.le
  have hd6:=hd6.trans H21'.le
  have H:=H.borrow2 H21'
  obtain⟨avAk,cvAk,rfl⟩:=H.accShape (k:=0) rfl
  refine⟨_,Z,?_⟩
  refine q4 H hd6 (dE 16 Z2 (dF 17 3 Z2 (r1 18 Z (xst 2 H Z8 ?_))));intro _ H
  refine q4 H hd6 (rz (N_K (q2 (aG Z (q3 (W_ret (rt1 results186 Z ?_)))))))
  have H:=H.dl 4
  have H:=H.tF 2
  have H:=H.tF 3
  have H:=H.tF 3
  have H:=H.inF
  have H:=H.tF 2
  have H:=H.tF 2
  obtain⟨Fs2,hp2,hN2⟩:=NdsO.ins (k:=Nd.mk b19 nm3 x.dir x.ids []) (Sp.pl d3.kids nm3) ohNs (NdO.new hnml3 hsr14)
  have hcd:=Nd.at_cnt (Nd.dirOf_some hdf3).2.2.1;have hcl:=Nd.kids_le d3;have hpl:=Sp.pl_le d3.kids nm3
  have hkl:(d3.kids.take (Sp.pl d3.kids nm3)++Nd.mk b19 nm3 x.dir x.ids []::d3.kids.drop (Sp.pl d3.kids nm3)).length=d3.kids.length+1:=by (simp;omega)
  obtain⟨F2,H,hN3,hb3⟩:=hclose (kids':=(d3.kids.take (Sp.pl d3.kids nm3)++Nd.mk b19 nm3 x.dir x.ids []::d3.kids.drop (Sp.pl d3.kids nm3))) (Fs':=Fs2) (by (rw[hkl]);exact H) (by (refine List.Perm.trans ?_ (List.Perm.append_right oR hp2.symm));simp) hdo ohri hN2 oM
  have hins:=Nd.ins_yes (nb:=b19) hdf3 (by simpa using hc5')
  exact H.retM ⟨b19,_,_,by (rw[hins];rfl),rfl,hN3,hb3,by (rw[hins];rfl)⟩
 skip
 refine xbs H Z7 ?_;intro _ _ _ H
 refine q4 H hd6 (r1 4 Z (lB 2 H Z3 (q4 H hd6 (r1 15 Z ?_))))
 have H:=H.tF 3
 refine xc Z2 (l_Insert_c _ _ H.sub _ _ _ (Sp.pl_le d3.kids nm3) oM _ (Nd.mk b19 nm3 x.dir x.ids []) H.lent2) ?_
 rintro _ _ ⟨_,_,_,rfl,H24',⟨_,rfl,rfl⟩⟩
 have ohri:=ohri.up H24'.le
 have ohNs:=ohNs.up H24'.le
 have hsr14:=hsr14.up H24'.le
 have hdo:=hdo.trans H24'.le
 have hd6:=hd6.trans H24'.le
 have H:=H.borrow2 H24'
 obtain⟨avAk,cvAk,rfl⟩:=H.accShape (k:=0) rfl
 refine⟨_,Z,?_⟩
 refine q4 H hd6 (dE 16 Z2 (dF 17 3 Z2 (r1 18 Z (xst 2 H Z8 ?_))));intro _ H
 refine q4 H hd6 (rz (N_K (q2 (aG Z (q3 (W_ret (rt1 results186 Z ?_)))))))
 have H:=H.dl 4
 have H:=H.tF 2
 have H:=H.tF 3
 have H:=H.tF 3
 have H:=H.inF
 have H:=H.tF 2
 have H:=H.tF 2
 obtain⟨Fs2,hp2,hN2⟩:=NdsO.ins (k:=Nd.mk b19 nm3 x.dir x.ids []) (Sp.pl d3.kids nm3) ohNs (NdO.new hnml3 hsr14)
 have hcd:=Nd.at_cnt (Nd.dirOf_some hdf3).2.2.1;have hcl:=Nd.kids_le d3;have hpl:=Sp.pl_le d3.kids nm3
 have hkl:(d3.kids.take (Sp.pl d3.kids nm3)++Nd.mk b19 nm3 x.dir x.ids []::d3.kids.drop (Sp.pl d3.kids nm3)).length=d3.kids.length+1:=by (simp;omega)
 obtain⟨F2,H,hN3,hb3⟩:=hclose (kids':=(d3.kids.take (Sp.pl d3.kids nm3)++Nd.mk b19 nm3 x.dir x.ids []::d3.kids.drop (Sp.pl d3.kids nm3))) (Fs':=Fs2) (by (rw[hkl]);exact H) (by (refine List.Perm.trans ?_ (List.Perm.append_right oR hp2.symm));simp) hdo ohri hN2 oM
 have hins:=Nd.ins_yes (nb:=b19) hdf3 (by simpa using hc5')
 exact H.retM ⟨b19,_,_,by (rw[hins];rfl),rfl,hN3,hb3,by (rw[hins];rfl)⟩
theorem i_openTree_c (w0:World)(G0:PH)(hG:PSub G0 w0)(vlist:Value)(list:List (BItem))(hlist:RdItems G0 vlist list)(hLent:Lent w0 G0 []) :
  Calls Tryz.prog 109 #[vlist] w0 (RetM w0 G0 [] (fun G' v Bs=>(v= .tuple #[.pointer none,.bool false]∧Bs=[]∧Sp.TreeValid list=false)∨(∃(T:Nd) (F:Fr),v= .tuple #[.pointer (some ⟨T.b,0,none⟩),.bool true]∧Bs=[frag F]∧NdO 138 119 G' T F∧Nd.TOK T list∧Sp.TreeValid list=true))):=by
 obtain⟨alist,klist,rfl⟩:=hlist.shape
 have hlimlist:list.length≤1099511627776:=hlist.lim
 have H:Hp w0 G0 [] w0 G0 []:=hLent.hp
 refine calls_of_W (l:=[.slice alist list.length klist]) func109 Z ntmps109 Z (q2 (pe 2 Z (q3 (W_seq (q2 (mV Z (lN Z (pe 1 Z (q3 ?_)))))))))
 refine W_cond Z ?_ ?_
 ·intro hc1
  try simp only[nrm]at hc1
  refine q2 (pe 2 Z (q3 (W_ret (N_K_ret (rt2 results109 Z Z ?_)))))
  exact H.retM (.inl ⟨Z,Z,Nd.tv_long oM⟩)
 intro hc1'
 try simp only[nrm]at hc1'
 refine W_skip (N_K (q2 (o_build bf138 Z Z Z (o_box H Z Z Z ?_))));intro b2 _ _ H
 refine aG Z (q1 (aG Z (q3 (W_seq (q2 (mV Z (lN Z (mV Z (q3 (W_block ?_))))))))))
 have H:=H.addF
 have H:=H.tF 1
 have H:=H.inF
 have hN0:NdO 138 119 G0 (Nd.mk b2 [] true [] []) _:=NdO.new (by simp) (RdS.nil _ _ _)
 refine W_lp (hf:=(Sub.cons (t:=13) Z (Sub.cons (t:=14) Z Sub.nil))) (J:=fun M w m=>∃(k:Nat) (la:Bs) (T:Nd) (FT:Fr) (G:PH),M=[(15,.int .i64 (k:Int)),(5,str la),(4,.pointer (some ⟨T.b,0,none⟩))]∧PLe G0 G∧Hp w0 G0 [] w G [frag FT]∧(k≤list.length∧la=Nd.lastPath list k∧la.length≤16777216∧NdO 138 119 G T FT∧Nd.TOK T (list.take k))∧m=(list.length-k)) (h0:=⟨0,[],(Nd.mk b2 [] true [] []),_,_,Z,PLe.refl _,H,?inv,Z⟩) (round:=?round)
 case inv=>exact⟨by omega,rfl,by simp,hN0,Nd.tok_root _⟩
 case round =>
  rintro _ _ _ ⟨k,la,T,FT,_,rfl,hle3,H,hinv3,rfl⟩
  have hlist:=hlist.up hle3
  obtain⟨_,hla,_,hNT,hTok⟩:=hinv3
  refine q2 (pe 1 Z (q3 (W_seq ?_)))
  refine W_cond Z ?_ ?_
  ·intro hc4
   try simp only[nrm]at hc4
   refine W_skip (N_K (W_seq (W_block (q2 (iP k hlist Z3 Z ?_)))));intro _ _ z5 _ hz5 hE5 hrow5
   obtain⟨_,_,_,rfl,hi5,hr5,_,_⟩:=ox hE5
   refine o_loadagg_P H isAgg35 sizeOf35 Z Z hrow5 Z (xal H Z ?_);intro _ _ _ H
   refine xst 0 H Z8 ?_;intro _ H
   refine q3 (W_seq (q2 (fA 0 Z (lB 0 H Z3 (mV Z (o_sleq Z Z Z (mV Z ?_)))))))
   refine R_case (t:=23) Z ?_ ?_
   ·intro hc8
    try simp only[nrm]at hc8
    refine pe 10 Z (q3 (W_true Z (q2 (pe 2 Z (q3 (W_ret (N_K_ret (N_B_ret (N_K_ret (N_LP_ret (N_B_ret (N_K_ret (rt2 results109 Z Z ?_)))))))))))))
    have H:=H.dl 0
    have H:=H.dl 0
    exact H.retM (.inl ⟨rfl,rfl,Nd.tv_false 0 hTok hz5 (.inl (by (rw[←hla]);exact Nd.leq_no (by first|simpa using hc8|(simp at hc8;exact hc8.symm))))⟩)
   intro hc8'
   try simp only[nrm]at hc8'
   refine gR Z (lA 0 3 H Z4 (gR Z (xr H Z2 (i_itemValid_c _ _ H.sub _ _ ⟨_,_,_,Z,hi5,hr5⟩) ?_)));intro _ H
   refine pe 3 Z ?_
   refine R_case (t:=28) Z ?_ ?_
   ·intro hc10
    try simp only[nrm]at hc10
    refine pe 5 Z (q3 (W_true Z (q2 (pe 2 Z (q3 (W_ret (N_K_ret (N_B_ret (N_K_ret (N_LP_ret (N_B_ret (N_K_ret (rt2 results109 Z Z ?_)))))))))))))
    have H:=H.dl 0
    have H:=H.dl 0
    exact H.retM (.inl ⟨rfl,rfl,Nd.tv_false 0 hTok hz5 (.inr (.inl (by simpa using hc10)))⟩)
   intro hc10'
   try simp only[nrm]at hc10'
   refine pe 1 Z (gR Z (lA 0 3 H Z4 (gR Z ?_)))
   have H:=H.tF 1
   refine xc Z2 (i_insert_c _ _ H.sub _ _ hNT _ _ ⟨_,_,_,Z,hi5,hr5⟩ H.lent1 hTok.wf (by have:=hTok.cnt;simp at this;omega)) ?_
   rintro _ _ ⟨_,_,_,rfl,H11',⟨nb11,F11,t11,rfl,rfl,hN11,hb11,ht11⟩⟩
   have hle3:=hle3.trans H11'.le
   have H:=H.borrow1 H11'
   try rw[←hb11]
   refine⟨_,Z,?_⟩
   refine pe 2 Z (q3 ?_)
   refine W_cond Z ?_ ?_
   ·intro hc12
    try simp only[nrm]at hc12
    refine q2 (pe 2 Z (q3 (W_ret (N_K_ret (N_B_ret (N_K_ret (N_LP_ret (N_B_ret (N_K_ret (rt2 results109 Z Z ?_))))))))))
    have H:=H.dl 0
    have H:=H.dl 0
    exact H.retM (.inl ⟨rfl,rfl,Nd.tv_false nb11 hTok hz5 (.inr (.inr (by simpa using hc12)))⟩)
   intro hc12'
   try simp only[nrm]at hc12'
   refine W_skip (N_K (W_region (fA 0 Z (lB 1 H Z3 (aG Z (R_nil (N_B (N_K (W_region (aD Z2 (mV Z (R_nil ?_))))))))))))
   have H:=H.dl 1
   refine N_lp (hJ:=⟨k+1,z5.path,t11,F11,_,Z,hle3,H,?inv,Z⟩) (hm:=?hm)
   case hm=>omega
   case inv=>exact⟨by omega,(Nd.lastPath_succ hz5).symm,by assumption,hN11,Nd.open_step hTok hz5 oM (by (rw[←hla]);exact Nd.leq_yes hc8'.1 hc8'.2) (by simpa using hc10') (Nd.getD_some ht11 (by simpa using hc12'))⟩
  intro hc4'
  try simp only[nrm]at hc4'
  refine W_exit (N_K_exit (N_LP_exit (N_B_same (N_K (q2 (pe 3 Z (q3 (W_ret (rt2 results109 Z Z ?_)))))))))
  have hTl:Nd.TOK T list:=by (have h9:=hTok;rw[List.take_of_length_le oM]at h9;exact h9)
  exact H.retM (.inr ⟨T,_,Z,Z,hNT,hTl,hTl.valid⟩)
theorem i_keep_c (w0:World)(G0:PH)(hG:PSub G0 w0)(mbs:Nat)(ess:Array MapEntry)(cks:Nat)(xss:List (Int×Value))(Ls:List BHeld)(hms:MapIs (Value.int .i64) ess cks xss)(hSs:StR G0 xss Ls)(hVs:Sp.VH Ls)(id:Int)(hLent:Lent w0 G0 [blk mbs (.map ess cks)]) :
  Calls Tryz.prog 243 #[.map (some mbs),.int .i64 id] w0 (RetM w0 G0 [mbs] (fun G' v Bs=>∃(es':Array MapEntry) (ck':Nat) (xs':List (Int×Value)) (L':List BHeld),v= .bool (Sp.StoreKeep Ls id).isSome∧Bs=[blk mbs (.map es' ck')]∧MapIs (Value.int .i64) es' ck' xs'∧StR G' xs' L'∧Sp.VH L'∧L'=(Sp.StoreKeep Ls id).getD Ls)):=by
 have H:Hp w0 G0 [mbs] w0 G0 [blk mbs (.map ess cks)]:=hLent.hp
 refine calls_of_W (l:=[.map (some mbs),.int .i64 id]) func243 Z ntmps243 Z (q2 (aG Z (q1 (pe 2 Z (o_lookS2 (H.at (k:=0) Z) hms hSs underlying121 underlying3 zeroValue153 Z Z Z ?_)))));intro _ hE1
 obtain⟨_,_,_,rfl,_,hr1,_,_,_⟩:=ox hE1
 have hfnd:True:=trivial
 refine pe 3 Z (xal H Z ?_);intro _ _ _ H
 refine xst 0 H Z8 ?_;intro _ H
 refine aG Z (q3 (W_seq (q2 (pe 3 Z ?_))))
 refine R_case (t:=15) Z ?_ ?_
 ·intro hc4
  try simp only[nrm]at hc4
  refine pe 4 Z (q3 (W_true Z (q2 (aG Z (q3 (W_ret (N_K_ret (rt1 results243 Z ?_))))))))
  have H:=H.dl 0
  exact H.retM ⟨_,_,_,_,congrArg Value.bool (by rw[Sp.keep_no hVs (.inl (by simpa using hc4))];rfl),rfl,hms,hSs,hVs,by rw[Sp.keep_no hVs (.inl (by simpa using hc4))];rfl⟩
 intro hc4'
 try simp only[nrm]at hc4'
 have hfd:(Sp.atH Ls id).isSome=true:=by simpa using hc4'
 have hgo:=Sp.get_ok hVs hfd
 refine gR Z (fA 2 Z (gR Z (lB 0 H Z3 (pe 2 Z (q3 ?_)))))
 refine W_cond Z ?_ ?_
 ·intro hc5
  try simp only[nrm]at hc5
  refine q2 (aG Z (q3 (W_ret (N_K_ret (rt1 results243 Z ?_)))))
  have H:=H.dl 0
  exact H.retM ⟨_,_,_,_,congrArg Value.bool (by rw[Sp.keep_no hVs (.inr oM)];rfl),rfl,hms,hSs,hVs,by rw[Sp.keep_no hVs (.inr oM)];rfl⟩
 intro hc5'
 try simp only[nrm]at hc5'
 have hkg:=Sp.keep_get hVs hfd oM
 refine W_skip (N_K (q2 (fA 2 Z (lB 0 H Z3 (aD Z2 (fA 2 Z (xst 0 H Z8 ?_)))))));intro _ H
 refine q1 (pe 2 Z (lA 0 3 H Z4 ?_))
 refine o_updS 1 H ⟨(getH Ls id).id,(getH Ls id).bytes,(getH Ls id).uses+1⟩ Z hms hSs underlying121 underlying3 Z Z Z (show heldE G0 ⟨(getH Ls id).id,(getH Ls id).bytes,(getH Ls id).uses+1⟩ _ from⟨_,_,_,Z,⟨by first|omega|(dsimp only;omega),by first|omega|(dsimp only;omega)⟩,hr1,⟨by first|omega|(dsimp only;omega),by first|omega|(dsimp only;omega)⟩⟩) (by exact Sp.get_id hfd) ?_;intro _ _ _ _ H hm8 hS8
 refine q1 (aG Z (q3 (W_ret (rt1 results243 Z ?_))))
 have H:=H.dl 0
 exact H.retM ⟨_,_,_,_,congrArg Value.bool (by rw[hkg.1];rfl),rfl,hm8,hS8,hkg.2,by rw[hkg.1];rfl⟩
theorem i_fileIds_c (w0:World)(G0:PH)(hG:PSub G0 w0)(mbs:Nat)(ess:Array MapEntry)(cks:Nat)(xss:List (Int×Value))(Ls:List BHeld)(hbs:MapAt G0 mbs ess cks)(hms:MapIs (Value.int .i64) ess cks xss)(hSs:StR G0 xss Ls)(hVs:Sp.VH Ls)(vids:Value)(ids:List (Int))(hids:RdI G0 vids ids) :
  Calls Tryz.prog 108 #[.map (some mbs),vids] w0 (Rets w0 (.bool (Sp.l4Ids Ls ids))):=by
 obtain⟨aids,kids,rfl⟩:=hids.shape
 have hlimids:ids.length≤1099511627776:=hids.lim
 have H:=Hp.init hG
 refine calls_of_W (l:=[.map (some mbs),.slice aids ids.length kids]) func108 Z ntmps108 Z (q2 (aG Z (q3 (W_seq (q2 (mV Z (lN Z (pe 1 Z (q3 ?_)))))))))
 refine W_cond Z ?_ ?_
 ·intro hc1
  try simp only[nrm]at hc1
  refine q2 (aG Z (q3 (W_ret (N_K_ret (rt1 results108 Z ?_)))))
  exact H.rets (congrArg Value.bool (by rw[Sp.ids_long oM]))
 intro hc1'
 try simp only[nrm]at hc1'
 refine W_skip (N_K (W_seq (q2 (mV Z (lN Z (mV Z (q3 (W_block ?_))))))))
 refine W_lp (hf:=(Sub.cons (t:=0) Z (Sub.cons (t:=1) Z (Sub.cons (t:=12) Z (Sub.cons (t:=13) Z Sub.nil))))) (J:=fun M w m=>∃(k:Nat) (G:PH),M=[(14,.int .i64 (k:Int))]∧PLe G0 G∧Hp w0 G0 [] w G []∧(k≤ids.length∧∀j,j<k→Sp.idsOk Ls ids j=true)∧m=(ids.length-k)) (h0:=⟨0,_,Z,PLe.refl _,H,?inv,Z⟩) (round:=?round)
 case inv=>exact⟨by omega,fun j hj=>by omega⟩
 case round =>
  rintro _ _ _ ⟨k,_,rfl,hle2,H,hinv2,rfl⟩
  have hSs:=hSs.up hle2
  have hbs:=hbs.up hle2
  have hids:=hids.up hle2
  obtain⟨_,hall⟩:=hinv2
  refine q2 (pe 1 Z (q3 (W_seq ?_)))
  refine W_cond Z ?_ ?_
  ·intro hc3
   try simp only[nrm]at hc3
   refine W_skip (N_K (W_seq (W_block (q2 (mV Z (iP k hids Z3 Z ?_))))));intro _ _ z4 _ hz4 hE4 hrow4
   obtain⟨rfl,_⟩:=hE4
   refine lP H hrow4 0 Z2 (pe 2 Z (q1 (pe 2 Z (o_lookS2 (hbs.at H.sub) hms hSs underlying121 underlying3 zeroValue153 Z Z Z ?_))));intro _ hE5
   obtain⟨_,_,_,rfl,_,_,_,_,_⟩:=ox hE5
   refine pe 3 Z (xal H Z ?_);intro _ _ _ H
   refine xst 0 H Z8 ?_;intro _ H
   refine aG Z (q1 (pe 3 Z ?_))
   refine R_case (t:=27) Z ?_ ?_
   ·intro hc8
    try simp only[nrm]at hc8
    refine pe 6 Z (R_pass Z (yl_un Z Z) (R_pass Z (yl_un Z Z) (R_pass Z (yl_un Z Z) (R_pass Z (yl_un Z Z) (pe 2 Z (q3 (W_true Z (q2 (aG Z (q3 (W_ret (N_B_ret (N_K_ret (N_LP_ret (N_B_ret ?_)))))))))))))))
    refine N_K_ret (rt1 results108 Z ?_)
    exact H.rets (congrArg Value.bool (by rw[Sp.ids_false (k:=k) oM (by exact Sp.idsOk_no hz4 (by simpa using hc8))]))
   intro hc8'
   try simp only[nrm]at hc8'
   have hfd:(Sp.atH Ls z4).isSome=true:=by simpa using hc8'
   have hbl:=Sp.bv_len (Sp.get_ok hVs hfd).2.1
   have hio:=Sp.idsOk_get hz4 hfd
   refine pe 2 Z (gR Z (lN Z (gR Z (o_sub Z Z Z oO (pe 2 Z ?_)))))
   refine R_case (t:=33) Z ?_ ?_
   ·intro hc10
    try simp only[nrm]at hc10
    refine gR Z (fA 1 Z (gR Z (lB 0 H Z3 (gR Z (lN Z (pe 3 Z (q3 ?_)))))))
    refine W_cond Z ?_ ?_
    ·intro hc11
     try simp only[nrm]at hc11
     refine q2 (aG Z (q3 (W_ret (N_B_ret (N_K_ret (N_LP_ret (N_B_ret (N_K_ret (rt1 results108 Z ?_)))))))))
     exact H.rets (congrArg Value.bool (by rw[Sp.ids_false (k:=k) oM (by rw[hio];simp;omega)]))
    intro hc11'
    try simp only[nrm]at hc11'
    refine W_skip (N_B (N_K (W_region (aD Z2 (mV Z (R_nil ?_))))))
    have H:=H.dl 0
    refine N_lp (hJ:=⟨k+1,_,Z,hle2,H,?inv,Z⟩) (hm:=?hm)
    case hm=>omega
    case inv=>exact⟨by omega,Sp.upto_succ hall (by rw[hio];simp;omega)⟩
   intro hc10'
   try simp only[nrm]at hc10'
   refine pe 6 Z (q3 (W_false Z (W_skip (N_B (N_K (W_region (aD Z2 (mV Z (R_nil ?_)))))))))
   have H:=H.dl 0
   refine N_lp (hJ:=⟨k+1,_,Z,hle2,H,?inv,Z⟩) (hm:=?hm)
   case hm=>omega
   case inv=>exact⟨by omega,Sp.upto_succ hall (by rw[hio];simp;omega)⟩
  intro hc3'
  try simp only[nrm]at hc3'
  refine W_exit (N_K_exit (N_LP_exit (N_B_same (N_K (q2 (aG Z (q3 (W_ret (rt1 results108 Z ?_)))))))))
  exact H.rets (congrArg Value.bool (by rw[Sp.ids_true (fun j hj=>hall j oM) oM]))
theorem i_keepFile_c (w0:World)(G0:PH)(hG:PSub G0 w0)(mbs:Nat)(ess:Array MapEntry)(cks:Nat)(xss:List (Int×Value))(Ls:List BHeld)(hms:MapIs (Value.int .i64) ess cks xss)(hSs:StR G0 xss Ls)(hVs:Sp.VH Ls)(vids:Value)(ids:List (Int))(hids:RdI G0 vids ids)(hLent:Lent w0 G0 [blk mbs (.map ess cks)]) :
  Calls Tryz.prog 204 #[.map (some mbs),vids] w0 (RetM w0 G0 [mbs] (fun G' v Bs=>∃(es':Array MapEntry) (ck':Nat) (xs':List (Int×Value)) (L':List BHeld),v= .bool (Sp.foldB Sp.StoreKeep ids (some Ls)).isSome∧Bs=[blk mbs (.map es' ck')]∧MapIs (Value.int .i64) es' ck' xs'∧StR G' xs' L'∧Sp.VH L'∧∀l,Sp.foldB Sp.StoreKeep ids (some Ls)=some l→L'=l)):=by
 obtain⟨aids,kids,rfl⟩:=hids.shape
 have hlimids:ids.length≤1099511627776:=hids.lim
 have H:Hp w0 G0 [mbs] w0 G0 [blk mbs (.map ess cks)]:=hLent.hp
 refine calls_of_W (l:=[.map (some mbs),.slice aids ids.length kids]) func204 Z ntmps204 Z (q2 (aG Z (q3 (W_seq (q2 (mV Z (lN Z (mV Z (q3 (W_block ?_))))))))))
 refine W_lp (hf:=(Sub.cons (t:=0) Z (Sub.cons (t:=7) Z (Sub.cons (t:=8) Z Sub.nil)))) (J:=fun M w m=>∃(esm0:Array MapEntry) (ckm0:Nat) (xsm0:List (Int×Value)) (Lm0:List BHeld) (k:Nat) (G:PH),M=[(9,.int .i64 (k:Int))]∧PLe G0 G∧Hp w0 G0 [mbs] w G [blk mbs (.map esm0 ckm0)]∧(MapIs (Value.int .i64) esm0 ckm0 xsm0∧StR G xsm0 Lm0∧Sp.VH Lm0∧k≤ids.length∧Sp.foldB Sp.StoreKeep (ids.take k) (some Ls)=some Lm0)∧m=(ids.length-k)) (h0:=⟨_,_,xss,Ls,0,_,Z,PLe.refl _,H,?inv,Z⟩) (round:=?round)
 case inv=>exact⟨hms,hSs,hVs,(by simp[Sp.foldB])⟩
 case round =>
  rintro _ _ _ ⟨esm0,ckm0,xsm0,Lm0,k,_,rfl,hle1,H,hinv1,rfl⟩
  have hids:=hids.up hle1
  obtain⟨hm1_m0,hS1_m0,hV1_m0,hinv1⟩:=hinv1
  obtain⟨_,hf⟩:=hinv1
  refine q2 (pe 1 Z (q3 (W_seq ?_)))
  refine W_cond Z ?_ ?_
  ·intro hc2
   try simp only[nrm]at hc2
   refine W_skip (N_K (W_seq (W_block (q2 (iP k hids Z3 Z ?_)))));intro _ _ z3 _ hz3 hE3 hrow3
   obtain⟨rfl,_⟩:=hE3
   refine lP H hrow3 0 Z2 (aG Z (q1 (pe 2 Z (xc Z2 (i_keep_c _ _ H.sub _ _ _ _ _ hm1_m0 hS1_m0 hV1_m0 _ H.lent1) ?_))))
   rintro _ _ ⟨_,_,_,rfl,H4',⟨_,_,xs4,L4,rfl,rfl,hm4,hS4,hV4,hL4⟩⟩
   have hle1:=hle1.trans H4'.le
   have H:=H.borrow1 H4'
   refine⟨_,Z,?_⟩
   refine pe 1 Z (q3 ?_)
   refine W_cond Z ?_ ?_
   ·intro hc5
    try simp only[nrm]at hc5
    refine q2 (aG Z (q3 (W_ret (N_B_ret (N_K_ret (N_LP_ret (N_B_ret (N_K_ret (rt1 results204 Z ?_)))))))))
    have hno:Sp.foldB Sp.StoreKeep ids (some Ls)=none:=by (have hno:Sp.StoreKeep Lm0 z3=none:=by simpa using hc5);exact Sp.foldB_stop hf hz3 hno
    exact H.retM ⟨_,_,_,_,congrArg Value.bool (by rw[hno];rfl),rfl,hm4,hS4,hV4,fun l hl=>by rw[hno]at hl;cases hl⟩
   intro hc5'
   try simp only[nrm]at hc5'
   obtain⟨p,hsp⟩:=Option.isSome_iff_exists.1 hc5'
   have hLp:L4=p:=by rw[hL4,hsp];rfl
   subst hLp
   refine W_skip (N_B (N_K (W_region (aD Z2 (mV Z (R_nil ?_))))))
   refine N_lp (hJ:=⟨_,_,xs4,L4,k+1,_,Z,hle1,H,?inv,Z⟩) (hm:=?hm)
   case hm=>omega
   case inv=>exact⟨hm4,hS4,hV4,(by exact⟨by omega,Sp.foldB_succ hf hz3 hsp⟩)⟩
  intro hc2'
  try simp only[nrm]at hc2'
  refine W_exit (N_K_exit (N_LP_exit (N_B_same (N_K (q2 (aG Z (q3 (W_ret (rt1 results204 Z ?_)))))))))
  have hyes:Sp.foldB Sp.StoreKeep ids (some Ls)=some Lm0:=Sp.foldB_all hf oM
  exact H.retM ⟨_,_,_,_,congrArg Value.bool (by rw[hyes];rfl),rfl,hm1_m0,hS1_m0,hV1_m0,fun l hl=>by rw[hyes]at hl;cases hl;rfl⟩
theorem i_listIn_r:∀(N:Nat) (w0:World) (G0:PH) (hG:PSub G0 w0) (t:Nd) (hndt:RdN G0 t) (s:Bs) (hs:s.length≤16777216) (hwt:t.wf) (hsl:s.length+6*t.cnt≤100000) (hsz:t.size≤N),
  Calls Tryz.prog 211 #[.pointer (some ⟨t.b,0,none⟩),str s] w0 (RetN w0 G0 (fun v Bs=>∃(F:Fr),Bs=[frag F]∧OIs F v (t.flat s))):=by
 intro N
 induction N with
 | zero=>intro w0 G0 hG t hndt s hs hwt hsl hsz;exact absurd (Nd.size_pos t) oM
 | succ N ih =>
 intro w0 G0 hG t hndt s hs hwt hsl hsz
 obtain⟨_,_,_,_,_,_,_,hprt,hrit,hrkt⟩:=hndt.open
 have hn_hrit:=hrit.len;have hx_hrit:_≤1099511627776:=hrit.lim
 have hn_hrkt:=hrkt.len;have hx_hrkt:_≤1099511627776:=hrkt.lim
 have H:=Hp.init hG
 refine calls_of_W (l:=[.pointer (some ⟨t.b,0,none⟩),str s]) func211 Z ntmps211 Z (q2 (aG Z (q1 (aG Z (q3 (W_seq (q2 (pe 2 Z (fA 3 Z (lP H hprt 3 Z2 (lN Z (mV Z (q3 (W_block ?_))))))))))))))
 have H:=H.addNil 35 3
 have H:=H.addF
 refine W_lp (hf:=(Sub.cons (t:=1) Z (Sub.cons (t:=4) Z (Sub.cons (t:=12) Z (Sub.cons (t:=13) Z Sub.nil))))) (J:=fun M w m=>∃(v:Value) (n:Nat) (cs:List Value) (xs:List (BItem)) (F:Fr) (k:Nat) (G:PH),M=[(14,.int .i64 (k:Int)),(5,v)]∧PLe G0 G∧Hp w0 G0 [] w G [frag F,acc 35 3 v n cs]∧(ChkF itemO 3 cs xs F∧n=xs.length∧k≤t.kids.length∧xs=Nd.flats s (t.kids.take k))∧m=(t.kids.length-k)) (h0:=⟨_,_,_,[],[],0,_,Z,PLe.refl _,H,?inv,Z⟩) (round:=?round)
 case inv=>exact⟨ChkF.nil,by first|rfl|simp|(simp;omega)|omega,(by simp[Nd.flats])⟩
 case round =>
  rintro _ _ _ ⟨v,n,cs,xs,F,k,G2,rfl,hle2,H,hinv2,rfl⟩
  have hrkt:=hrkt.up hle2
  obtain⟨hchk2_0,_,hinv2⟩:=hinv2
  obtain⟨_,_,rfl⟩:=H.accShape (k:=1) rfl
  obtain⟨_,hxs⟩:=hinv2;have hxl:xs.length≤100000:=by (have:=Nd.flats_len s (t.kids.take k);have:=Nd.cnts_take t.kids k;have:=Nd.cnt_eq t;rw[hxs];omega)
  refine q2 (pe 1 Z (q3 (W_seq ?_)))
  refine W_cond Z ?_ ?_
  ·intro hc3
   try simp only[nrm]at hc3
   refine W_skip (N_K (W_seq (W_block (q2 (iP k hrkt Z3 Z ?_)))));intro _ _ z4 q4 hz4 hE4 hrow4
   obtain⟨rfl,hnd4⟩:=hE4;obtain⟨_,_,_,_,_,_,_,hpr4,hri4,hrk4⟩:=hnd4.open;have hn_hri4:=hri4.len;have hx_hri4:_≤1099511627776:=hri4.lim;have hn_hrk4:=hrk4.len;have hx_hrk4:_≤1099511627776:=hrk4.lim
   have hzm:=List.mem_of_getElem? hz4;have hzc:=Nd.kid_cnt hzm;have hzs:=Nd.size_kid hzm;have hzw:=((Nd.wf_iff _).1 hwt).2 _ hzm;have hzn:=Nd.word_le hzw.1;have hzf:=Nd.flat_len (s++z4.name++[47]) z4
   refine lP H hrow4 0 Z2 (aG Z (q1 (pe 3 Z (fA 0 Z (lP H hpr4 0 Z2 ?_)))))
   refine o_sadd Z Z Z (by simp only[LIM,List.length_append,List.length_cons,List.length_nil]at *; omega) ?_
   refine aG Z (q3 (W_seq (W_drawK [] 15 H kR Z ?_)));intro _ H;have hd5:=PLe.refl G2
   refine dE 0 Z2 (dE 1 Z2 (dE 2 Z2 (dE 3 Z2 (dF 4 1 Z2 (dP 5 hpr4 1 Z3 (dE 6 Z2 (dE 7 Z2 (dF 8 2 Z2 (dP 9 hpr4 2 Z3 (r1 10 Z (xc Z2 (l_Clone_c _ _ H.sub _ _ hri4) ?_)))))))))))
   rintro _ _ ⟨_,_,_,g6,rfl,⟨_,rfl,hchk6⟩,hp6,hq6,hs6⟩
   have H:=H.growO g6 hp6 hq6 hs6;obtain⟨_,_,rfl⟩:=H.accShape (k:=0) rfl
   have hnd4:=hnd4.up g6.le
   have hle2:=hle2.trans g6.le
   have hd5:=hd5.trans g6.le
   refine⟨_,Z,?_⟩
   refine q4 H hd5 (RD_t 11 Z kR Z (fun _ hK=>v_build bf35 Z Z) (r1 12 Z (xbs H Z7 ?_)));intro _ _ _ H
   refine q4 H hd5 (r1 13 Z (o_append1 2 H (sz:=3) (bytes:=48) underlying24 typeInfo35 ⟨_,Z,Z⟩ Z Z Z Z Z Z Z Z Z Z oM Z ?_));intro _ _ H
   obtain⟨Fi2,H,hOI2⟩:=H.ownI (k:=0) rfl hchk6 aN aN
   have hchk8:=hchk2_0.snoc (show itemO Fi2 ⟨s++z4.name,z4.dir,z4.ids⟩ _ from⟨_,_,_,rfl,(by (first|assumption|(refine Sp.l5Parent_lim ?_;assumption)|(simp;done)|(simp;omega)|omega)),hOI2⟩) rfl
   have H:=H.tF 1
   have H:=H.mergeF
   obtain⟨_,_,rfl⟩:=H.accShape (k:=1) rfl
   refine q4 H hd5 (dE 14 Z2 (rz (N_K (W_region (pe 3 Z ?_)))))
   refine o_sadd Z Z Z (by simp only[LIM,List.length_append,List.length_cons,List.length_nil]at *; omega) ?_
   refine xc Z2 (ih _ _ H.sub _ hnd4 _ (by (first|assumption|(refine Sp.l5Parent_lim ?_;assumption)|(simp;done)|(simp;omega)|omega)) hzw.2 (by simp;omega) oM) ?_
   rintro _ _ ⟨_,_,rfl,H9',⟨_,rfl,hO9⟩⟩
   have H:=H.readers (fp:=[]) (by simp) (PLe.refl _) H9'
   obtain⟨_,hP9⟩:=hO9
   obtain⟨_,_,rfl⟩:=OwnS.shape hP9
   have hO9:=OIs.mk hP9
   refine⟨_,Z,?_⟩
   refine o_append_F 1 H hP9 (by intro F _ cs hx _ hu;obtain⟨_,_,_,rfl,_⟩:=hx;simp at hu;rcases hu with rfl|rfl|rfl<;>rfl) (sz:=3) (bytes:=48) underlying24 typeInfo35 ⟨_,rfl,rfl⟩ rfl rfl rfl rfl rfl rfl rfl oM rfl ?_;intro _ _ _ F10_ H hck10 _
   have hchk10:=hchk8.app hck10
   have H:=H.tF 1
   have H:=H.mergeF
   obtain⟨_,_,rfl⟩:=H.accShape (k:=1) rfl
   refine aG Z (R_nil (N_B (N_K (W_region (aD Z2 (mV Z (R_nil ?_)))))))
   refine N_lp (hJ:=⟨_,_,_,((xs++[⟨s++z4.name,z4.dir,z4.ids⟩])++(z4.flat (s++z4.name++[47]))),((F++Fi2)++F10_),k+1,_,Z,hle2,H,?inv,Z⟩) (hm:=?hm)
   case hm=>omega
   case inv=>exact⟨hchk10,aN,(by exact⟨by omega,by (rw[Nd.flats_succ hz4,hxs];simp)⟩)⟩
  intro hc3'
  try simp only[nrm]at hc3'
  refine W_exit (N_K_exit (N_LP_exit (N_B_same (N_K (q2 (pe 2 Z (q3 (W_ret (rt1 results211 Z ?_)))))))))
  have H:=H.tF 1
  obtain⟨_,H,hOw3⟩:=H.ownF hchk2_0 aN aN
  have hX:xs=t.flat s:=by rw[hxs,List.take_of_length_le oM,Nd.flat_eq]
  have H:=H.forget hG (by simp)
  exact⟨_,_,Z,H,_,Z,hX▸⟨_,hOw3⟩⟩
theorem i_listIn_c (w0:World)(G0:PH)(hG:PSub G0 w0)(t:Nd)(hndt:RdN G0 t)(s:Bs)(hs:s.length≤16777216)(hwt:t.wf)(hsl:s.length+6*t.cnt≤100000) :
  Calls Tryz.prog 211 #[.pointer (some ⟨t.b,0,none⟩),str s] w0 (RetN w0 G0 (fun v Bs=>∃(F:Fr),Bs=[frag F]∧OIs F v (t.flat s))):=i_listIn_r _ w0 G0 hG t hndt s hs hwt hsl (Nat.le_refl _)
theorem i_tlist_c (w0:World)(G0:PH)(hG:PSub G0 w0)(t:Nd)(hndt:RdN G0 t)(hwt:t.wf)(hct:t.cnt≤1000) :
  Calls Tryz.prog 158 #[.pointer (some ⟨t.b,0,none⟩)] w0 (RetN w0 G0 (fun v Bs=>∃(F:Fr),Bs=[frag F]∧OIs F v (t.flat []))):=by
 obtain⟨_,_,_,_,_,_,_,_,hrit,hrkt⟩:=hndt.open
 have hn_hrit:=hrit.len;have hx_hrit:_≤1099511627776:=hrit.lim
 have hn_hrkt:=hrkt.len;have hx_hrkt:_≤1099511627776:=hrkt.lim
 have H:=Hp.init hG
 refine calls_of_W (l:=[.pointer (some ⟨t.b,0,none⟩)]) func158 Z ntmps158 Z (q2 (aG Z (q1 (mV Z ?_))))
 refine xc Z2 (i_listIn_c _ _ H.sub _ hndt _ (by (first|assumption|(refine Sp.l5Parent_lim ?_;assumption)|(simp;done)|(simp;omega)|omega)) hwt (by simp;omega)) ?_
 rintro _ _ ⟨_,_,rfl,H1',⟨_,rfl,hO1⟩⟩
 have H:=H.readers (fp:=[]) (by simp) (PLe.refl _) H1'
 obtain⟨_,hP1⟩:=hO1
 obtain⟨_,_,rfl⟩:=OwnS.shape hP1
 have hO1:=OIs.mk hP1
 refine⟨_,Z,?_⟩
 refine aG Z (q3 (W_ret (rt1 results158 Z ?_)))
 have H:=H.forget hG (by simp)
 exact⟨_,_,Z,H,_,Z,hO1⟩
theorem i_usedBy_c (w0:World)(G0:PH)(hG:PSub G0 w0)(mbs:Nat)(ess:Array MapEntry)(cks:Nat)(xss:List (Int×Value))(Ls:List BHeld)(hbs:MapAt G0 mbs ess cks)(hms:MapIs (Value.int .i64) ess cks xss)(hSs:StR G0 xss Ls)(hVs:Sp.VH Ls)(vtrees:Value)(trees:List (Nd))(htrees:RdNd G0 vtrees trees)(htl:trees.length≤7)(htw:∀t,t ∈ trees→t.wf∧t.cnt≤12) :
  Calls Tryz.prog 151 #[.map (some mbs),vtrees] w0 (Rets w0 (.bool (trees.all (fun t=>(t.flat []).all (fun x=>Sp.l4Ids Ls x.ids))&&Ls.all (fun h=>decide ((Sp.cntT trees h.id:Int)=h.uses))))):=by
 obtain⟨atrees,ktrees,rfl⟩:=htrees.shape
 have hlimtrees:trees.length≤1099511627776:=htrees.lim
 have H:=Hp.init hG
 refine calls_of_W (l:=[.map (some mbs),.slice atrees trees.length ktrees]) func151 Z ntmps151 Z (q2 (aG Z (q1 (o_makeMap H Z ?_))));intro b1 _ _ H
 have hm1:=MapIs.empty (key:=Value.int .i64) 0
 have hS1:=UsR.nil
 refine aG Z (q3 (W_seq (q2 (mV Z (lN Z (mV Z (q3 (W_block ?_))))))))
 refine W_lp (hf:=(Sub.cons (t:=0) Z (Sub.cons (t:=5) Z (Sub.cons (t:=15) Z (Sub.cons (t:=16) Z Sub.nil))))) (J:=fun M w m=>∃(esm0:Array MapEntry) (ckm0:Nat) (xsm0:List (Int×Value)) (fm0:Int→Nat) (i:Nat) (G:PH),M=[(17,.int .i64 (i:Int))]∧PLe G0 G∧Hp w0 G0 [] w G [blk b1 (.map esm0 ckm0)]∧(MapIs (Value.int .i64) esm0 ckm0 xsm0∧UsR xsm0 fm0∧i≤trees.length∧(∀a,fm0 a=Sp.cntT (trees.take i) a∧fm0 a≤48*i)∧(trees.take i).all (fun t=>(t.flat []).all (fun x=>Sp.l4Ids Ls x.ids))=true)∧m=(trees.length-i)) (h0:=⟨_,_,[],(fun _=>0),0,_,Z,PLe.refl _,H,?inv,Z⟩) (round:=?round)
 case inv=>exact⟨hm1,hS1,(by simp[Sp.cntT])⟩
 case round =>
  rintro _ _ _ ⟨esm0,ckm0,xsm0,fm0,i,G2,rfl,hle2,H,hinv2,rfl⟩
  have hSs:=hSs.up hle2
  have hbs:=hbs.up hle2
  have htrees:=htrees.up hle2
  obtain⟨hm2_m0,hS2_m0,hinv2⟩:=hinv2
  obtain⟨_,hf,hok⟩:=hinv2
  refine q2 (pe 1 Z (q3 (W_seq ?_)))
  refine W_cond Z ?_ ?_
  ·intro hc3
   try simp only[nrm]at hc3
   refine W_skip (N_K (W_seq (W_block (q2 (iP i htrees Z3 Z ?_)))));intro _ _ z4 _ hz4 hE4 hrow4
   obtain⟨rfl,hnd4⟩:=hE4;obtain⟨_,_,_,_,_,_,_,hpr4,hri4,hrk4⟩:=hnd4.open;have hn_hri4:=hri4.len;have hx_hri4:_≤1099511627776:=hri4.lim;have hn_hrk4:=hrk4.len;have hx_hrk4:_≤1099511627776:=hrk4.lim
   try (have hzw:=htw z4 (List.mem_of_getElem? hz4);have hzf:=Nd.flat_len [] z4)
   refine lP H hrow4 0 Z2 (aG Z (q1 (mV Z (xc Z2 (i_tlist_c _ _ H.sub _ hnd4 hzw.1 oM) ?_))))
   rintro _ _ ⟨_,_,rfl,H5',⟨_,rfl,hO5⟩⟩
   have H:=H.readers (fp:=[]) (by simp) (PLe.refl _) H5'
   obtain⟨e25,hP5⟩:=hO5
   obtain⟨_,_,rfl⟩:=OwnS.shape hP5
   have hO5:=OIs.mk hP5
   refine⟨_,Z,?_⟩
   have hdm1:=dm_nodup H (k:=0) rfl;obtain⟨Gk1,H,hkl1,hks1⟩:=H.keepF (k:=0) rfl (fun b _ hb=>by simp at hb)
   have hrk1:=hO5.rd hks1 hdm1
   have hSs:=hSs.up hkl1
   have hbs:=hbs.up hkl1
   have hle2:=hle2.trans hkl1
   have hn_hrk1:=hrk1.len
   refine lN Z (mV Z (q3 (W_block ?_)))
   refine W_lp (hf:=(Sub.cons (t:=0) Z (Sub.cons (t:=5) Z (Sub.cons (t:=15) Z (Sub.cons (t:=16) Z (Sub.cons (t:=17) Z (Sub.cons (t:=22) Z (Sub.cons (t:=23) Z Sub.nil)))))))) (J:=fun M w m=>∃(esm0:Array MapEntry) (ckm0:Nat) (xsm0:List (Int×Value)) (fm0:Int→Nat) (jj:Nat) (G:PH),M=[(24,.int .i64 (jj:Int))]∧PLe Gk1 G∧Hp w0 G0 [] w G [blk b1 (.map esm0 ckm0)]∧(MapIs (Value.int .i64) esm0 ckm0 xsm0∧UsR xsm0 fm0∧jj≤(z4.flat []).length∧(∀a,fm0 a=Sp.cntT (trees.take i) a+Sp.cntU (z4.flat []) a jj∧fm0 a≤48*i+4*jj)∧((z4.flat []).take jj).all (fun x=>Sp.l4Ids Ls x.ids)=true)∧m=((z4.flat []).length-jj)) (h0:=⟨_,_,xsm0,fm0,0,_,Z,PLe.refl _,H,?inv,Z⟩) (round:=?round)
   case inv=>exact⟨hm2_m0,hS2_m0,(by exact⟨by omega,fun a=>(by have:=hf a;simp[Sp.cntU];omega),by simp⟩)⟩
   case round =>
    rintro _ _ _ ⟨esm0,ckm0,xsm0,fm0,jj,G6,rfl,hle6,H,hinv6,rfl⟩
    have hSs:=hSs.up hle6
    have hbs:=hbs.up hle6
    have hrk1:=hrk1.up hle6
    have hle2:=hle2.trans hle6
    obtain⟨hm6_m0,hS6_m0,hinv6⟩:=hinv6
    obtain⟨_,hf2,hok2⟩:=hinv6
    refine q2 (pe 1 Z (q3 (W_seq ?_)))
    refine W_cond Z ?_ ?_
    ·intro hc7
     try simp only[nrm]at hc7
     refine W_skip (N_K (W_seq (W_block (q2 (iP jj hrk1 Z3 Z ?_)))));intro _ _ z8 _ hz8 hE8 hrow8
     obtain⟨_,_,_,rfl,_,hr8,_,_⟩:=ox hE8
     try (have hzw:=htw z8 (List.mem_of_getElem? hz8);have hzf:=Nd.flat_len [] z8)
     refine o_loadagg_P H isAgg35 sizeOf35 Z Z hrow8 Z (xal H Z ?_);intro b9 _ _ H
     refine xst 0 H Z8 ?_;intro _ H
     refine q3 (W_seq (q2 (mV Z (fA 2 Z (lB 0 H Z3 (xr H Z2 (i_fileIds_c _ _ H.sub _ _ _ _ _ hbs hms hSs hVs _ _ hr8) ?_))))));intro _ H
     refine pe 1 Z (q3 ?_)
     refine W_cond Z ?_ ?_
     ·intro hc12
      try simp only[nrm]at hc12
      refine q2 (aG Z (q3 (W_ret (N_K_ret (N_B_ret (N_K_ret (N_LP_ret (N_B_ret (N_B_ret (N_K_ret (N_LP_ret (N_B_ret (N_K_ret (rt1 results151 Z ?_))))))))))))))
      exact H.rets (congrArg Value.bool (by rw[Sp.all_false hz4 (Sp.all_false hz8 (by simpa using hc12)),Bool.false_and]))
     intro hc12'
     try simp only[nrm]at hc12'
     have hio:Sp.l4Ids Ls z8.ids=true:=by simpa using hc12'
     have hil:=Sp.ids_le hio
     refine W_skip (N_K (q2 (fA 2 Z (lB 0 H Z3 (lN Z (mV Z (q3 (W_block ?_))))))))
     obtain⟨ln13,hln13,H⟩:=H.name (k:=0) rfl
     refine W_lp (hf:=(Sub.cons (t:=0) Z (Sub.cons (t:=5) Z (Sub.cons (t:=15) Z (Sub.cons (t:=16) Z (Sub.cons (t:=17) Z (Sub.cons (t:=22) Z (Sub.cons (t:=23) Z (Sub.cons (t:=24) Z (Sub.cons (t:=34) Z (Sub.cons (t:=35) Z Sub.nil))))))))))) (J:=fun M w m=>∃(esm0:Array MapEntry) (ckm0:Nat) (xsm0:List (Int×Value)) (fm0:Int→Nat) (kk:Nat) (G:PH),M=[(36,.int .i64 (kk:Int))]∧PLe G6 G∧Hp w0 G0 [] w G [blk b9 (cl ln13 35),blk b1 (.map esm0 ckm0)]∧(MapIs (Value.int .i64) esm0 ckm0 xsm0∧UsR xsm0 fm0∧kk≤z8.ids.length∧(∀a,fm0 a=Sp.cntT (trees.take i) a+Sp.cntU (z4.flat []) a jj+Sp.cnt1 a (z8.ids.take kk)∧fm0 a≤48*i+4*jj+kk))∧m=(z8.ids.length-kk)) (h0:=⟨_,_,xsm0,fm0,0,_,Z,PLe.refl _,H,?inv,Z⟩) (round:=?round)
     case inv=>exact⟨hm6_m0,hS6_m0,(by exact⟨by omega,fun a=>(by have:=hf2 a;simp[Sp.cnt1];omega)⟩)⟩
     case round =>
      rintro _ _ _ ⟨esm0,ckm0,xsm0,fm0,kk,_,rfl,hle14,H,hinv14,rfl⟩
      subst hln13
      have hr8:=hr8.up hle14
      have hle6:=hle6.trans hle14
      obtain⟨hm14_m0,hS14_m0,hinv14⟩:=hinv14
      obtain⟨_,hf3⟩:=hinv14;have hb3:=fun a=>(hf3 a).2
      refine q2 (pe 1 Z (q3 (W_seq ?_)))
      refine W_cond Z ?_ ?_
      ·intro hc15
       try simp only[nrm]at hc15
       refine W_skip (N_K (W_seq (W_block (q2 (iP kk hr8 Z3 Z ?_)))));intro _ _ z16 _ hz16 hE16 hrow16
       obtain⟨rfl,_⟩:=hE16
       refine lP H hrow16 0 Z2 (aG Z (q3 (W_region (pe 2 Z (o_lookU (H.at (k:=1) Z) hm14_m0 hS14_m0 underlying254 underlying3 zeroValue3 Z Z Z ?_)))))
       try (have h7:=hb3 z16)
       refine aD Z2 (o_updU 1 H (fm0 z16+1) Z hm14_m0 hS14_m0 underlying254 underlying3 Z Z Z oM ?_);intro _ _ xs19 _ H hm19 hS19
       refine R_nil (N_B (N_K (W_region (aD Z2 (mV Z (R_nil ?_))))))
       refine N_lp (hJ:=⟨_,_,xs19,(fun a=>if a=z16 then(fm0 z16+1) else fm0 a),kk+1,_,Z,hle14,H,?inv,Z⟩) (hm:=?hm)
       case hm=>omega
       case inv=>exact⟨hm19,hS19,(by exact⟨by omega,fun a=>(by have h9:=hf3 a;have h7:=hf3 z16;(rw[Sp.cnt1_succ hz16]);by_cases e:a=z16;(· subst e;simp;omega);(· have e2:¬z16=a:=fun h=>e h.symm;simp only[e,e2,if_false];omega))⟩)⟩
      intro hc15'
      try simp only[nrm]at hc15'
      refine W_exit (N_K_exit (N_LP_exit (N_B_same (N_B (N_K (W_region (aD Z2 (mV Z (R_nil ?_)))))))))
      have H:=H.dl 0
      refine N_lp (hJ:=⟨_,_,xsm0,fm0,jj+1,_,Z,hle6,H,?inv,Z⟩) (hm:=?hm)
      case hm=>omega
      case inv=>exact⟨hm14_m0,hS14_m0,(by exact⟨by omega,fun a=>(by have h9:=hf3 a;(rw[Sp.cntU_succ hz8]);(rw[List.take_of_length_le (l:=z8.ids) oM]at h9);omega),Sp.all_take hok2 hz8 hio⟩)⟩
    intro hc7'
    try simp only[nrm]at hc7'
    refine W_exit (N_K_exit (N_LP_exit (N_B_same (N_B (N_K (W_region (aD Z2 (mV Z (R_nil ?_)))))))))
    refine N_lp (hJ:=⟨_,_,xsm0,fm0,i+1,_,Z,hle2,H,?inv,Z⟩) (hm:=?hm)
    case hm=>omega
    case inv=>exact⟨hm6_m0,hS6_m0,(by exact⟨by omega,fun a=>(by have h9:=hf2 a;have h10:=Sp.cntT_succ (id:=a) hz4;have h8:(z4.flat []).length=jj:=oM;(rw[h8]at h10);omega),Sp.all_take hok hz4 (by (rw[List.take_of_length_le (l:=z4.flat []) oM]at hok2);exact hok2)⟩)⟩
  intro hc3'
  try simp only[nrm]at hc3'
  refine W_exit (N_K_exit (N_LP_exit (N_B_same (N_K (W_seq (q2 (mV Z ?_)))))))
  have hmb23:=(hbs.at H.sub);refine o_range H hmb23 underlying121 rfl rfl ?_;intro r23 _ _ H _;have hne23:r23≠mbs:=fun e=>by have:=(Array.getElem?_eq_some_iff.1 hmb23).1;omega
  refine q3 (W_block ?_)
  refine W_lp (hf:=(Sub.cons (t:=5) Z (Sub.cons (t:=48) Z Sub.nil))) (J:=fun M w m=>∃(sn:Array Nat) (G:PH),M=[]∧PLe G2 G∧Hp w0 G0 [] w G [blk r23 (.mapIter (some mbs) cks sn cks),blk b1 (.map esm0 ckm0)]∧(∀y,y ∈ Ls→seenH ess sn y→(Sp.cntT trees y.id:Int)=y.uses)∧m=((leftOf ess sn).size)) (h0:=⟨#[],_,Z,PLe.refl _,H,?inv,Z⟩) (round:=?round)
  case inv=>rintro y hy ⟨e,_,_,he⟩;simp at he
  case round =>
   rintro _ _ _ ⟨sn,_,rfl,hle24,H,hinv24,rfl⟩
   have hSs:=hSs.up hle24
   have hbs:=hbs.up hle24
   have hsn:=hinv24
   refine q2 ?_
   refine o_next 0 H (hbs.at H.sub) hms hSs Z hne23 Z Z ?_ ?_
   ·intro hall25
    refine pe 1 Z (q3 (W_seq (W_false Z (W_exit (N_K_exit (N_LP_exit (N_B_same (N_K (q2 (aG Z (q3 (W_ret (rt1 results151 Z ?_)))))))))))))
    have hot:=hok;rw[List.take_of_length_le oM]at hot
    exact H.rets (congrArg Value.bool (by (rw[hot,Bool.true_and]);symm;(rw[List.all_eq_true]);intro y hy;simp only[decide_eq_true_eq];exact hsn y hy (hall25 y hy)))
   intro e25 _ _ _ he25 hk25 hv25 hy25 hE25 _ hless25 H
   obtain⟨_,_,_,rfl,_,_,_,_,_⟩:=ox hE25
   refine pe 1 Z (q3 (W_seq (W_true Z (W_skip (N_K (W_block (q2 (o_entry 0 H (hbs.at H.sub) hms Z he25 hk25 hv25 Z Z (pe 2 Z (xal H Z ?_))))))))));intro _ _ _ H
   refine aG Z (xst 0 H Z8 ?_);intro _ H
   refine q1 (pe 2 Z (o_lookU (H.at (k:=2) Z) hm2_m0 hS2_m0 underlying254 underlying3 zeroValue3 Z Z Z (fA 2 Z (lB 0 H Z3 (pe 1 Z (q3 ?_))))))
   refine W_cond Z ?_ ?_
   ·intro hc29
    try simp only[nrm]at hc29
    refine q2 (aG Z (q3 (W_ret (N_B_ret (N_LP_ret (N_B_ret (N_K_ret (rt1 results151 Z ?_))))))))
    have hft:∀a,fm0 a=Sp.cntT trees a:=fun a=>(by have h9:=(hf a).1;(rw[List.take_of_length_le oM]at h9);exact h9)
    have hot:=hok;rw[List.take_of_length_le oM]at hot
    exact H.rets (congrArg Value.bool (by (rw[hot,Bool.true_and]);symm;(rw[List.all_eq_false]);exact⟨_,hy25,by simp only[decide_eq_true_eq];(rw[←hft]);first|exact hc29|(simpa using hc29)|omega⟩))
   intro hc29'
   try simp only[nrm]at hc29'
   refine W_skip (N_B ?_)
   have H:=H.dl 0
   refine N_lp (hJ:=⟨_,_,Z,hle24,H,?inv,Z⟩) (hm:=?hm)
   case hm=>exact hless25
   case inv=>intro y hy hs;rcases seenH_push hms (hSs.nd hms) he25 hk25 hy25 hy hs with rfl|h;(· (have h9:=(hf y.id).1;(rw[List.take_of_length_le oM]at h9);(rw[←h9]);first|exact hc29'|(simpa using hc29')|omega));exact hsn y hy h
end Go.Proofs.Tst
