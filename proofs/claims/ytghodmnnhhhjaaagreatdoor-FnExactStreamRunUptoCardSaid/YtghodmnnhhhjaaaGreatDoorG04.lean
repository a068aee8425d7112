/- Part 4 of the proof: the program logic and plain functions. Conditions: none. -/
import Derived.Test.YtghodmnnhhhjaaaGreatDoorG02
import Derived.Test.YtghodmnnhhhjaaaGreatDoorG03
import Derived.KernelRfl
import Derived.Lib.AppendStr
import Derived.Shelf.Strings.Builder1
import Derived.Lib.ItoaNum
import Derived.RangeFuncNested
import Derived.RangeFuncLeaves
import Derived.RangeFuncCalls
import Derived.RangeFuncBound
import Derived.WideKeyArgs
import Derived.ChangeArms
import Derived.DataElems
import Derived.ChangeSame
import Derived.Conc.LoneCalls
import Derived.Test.YtghodmnnhhhjaaaGreatDoorProg
set_option linter.all false
set_option maxRecDepth 100000
set_option maxHeartbeats 8000000
namespace Fw
open Go
def R1 (v v':Value):Prop:=v'=v∨∃p q,v= .int .i64 p∧v'= .int .i64 q∧inI q
def GRel (G G':PH):Prop:=∀b o v,PCell G b o v→∃v',PCell G' b o v'∧R1 v v'
def RL:List Value→List Value→Prop
 | [],[]=>True
 | v::r,v'::r'=>R1 v v'∧RL r r'
 | _,_=>False
theorem RL.len:∀{a b:List Value},RL a b→b.length=a.length
 | [],[],_=>rfl
 | _::_,_::_,h=>by simp[RL.len h.2]
 | [],_::_,h=>h.elim
 | _::_,[],h=>h.elim
theorem prow_rel {G G':PH}(h:GRel G G'):∀(cs:List Value) (b o:Nat),PRow G b o cs→∃cs',PRow G' b o cs'∧RL cs cs'
 | [],b,o,_=>⟨[],by intro j v h;simp at h,trivial⟩
 | c :: r, b, o, hr => by
  obtain⟨c',h1,h2⟩:=h b o c (by simpa using hr 0 c rfl)
  obtain ⟨r', h3, h4⟩ := prow_rel h r b (o + 1) (fun j v hv => by
   have:=hr (j+1) v (by simpa using hv)
   rwa [show o+1+j=o+(j+1) by omega])
  refine⟨c'::r',fun j v hv=>?_,h2,h4⟩
  cases j with
  | zero=>simp at hv;subst hv;simpa using h1
  | succ j =>
   have:=h3 j v (by simpa using hv)
   rwa [show o+(j+1)=o+1+j by omega]
class StE {α:Type} (E:PH→α→List Value→Prop):Prop where
 st:∀{G G':PH} {x:α} {cs cs':List Value},GRel G G'→RL cs cs'→E G x cs→∃x',E G' x' cs'
theorem RdS.st {α:Type}{lim:Nat}{E:PH→α→List Value→Prop} [StE E] {sz:Nat}{G G':PH}{v:Value}{xs:List α}(hg:GRel G G')(h:RdS lim E sz G v xs):∃xs',xs'.length=xs.length∧RdS lim E sz G' v xs':=by
 obtain⟨a,c,rfl,h2,h3,h4⟩:=h
 rcases h4 with rfl|⟨b,o,rfl,h5⟩
 ·exact⟨[],rfl,a,c,rfl,h2,h3,.inl rfl⟩
 ·have key : ∀ n, n ≤ xs.length → ∃ xs' : List α, xs'.length = n ∧ ∀ i x, xs'[i]? = some x → ∃ cs, cs.length = sz ∧ E G' x cs ∧ PRow G' b (o + i * sz) cs := by
   intro n
   induction n with
   | zero=>intro _;exact⟨[],rfl,by simp⟩
   | succ n ih =>
    intro hn
    obtain⟨xs',k1,k2⟩:=ih (by omega)
    obtain⟨cs,c1,c2,c3⟩:=h5 n xs[n] (by simp)
    obtain⟨cs',d1,d2⟩:=prow_rel hg cs _ _ c3
    obtain⟨x',hx'⟩:=StE.st hg d2 c2
    refine⟨xs'++[x'],by simp[k1],fun i x hx=>?_⟩
    by_cases hi:i<n
    ·rw[List.getElem?_append_left (by omega)]at hx
     exact k2 i x hx
    ·rw[List.getElem?_append_right (by omega)]at hx
     have:i=n:=by
      have:=(List.getElem?_eq_some_iff.1 hx).1
      simp at this
      omega
     subst this
     simp[k1]at hx
     subst hx
     exact⟨cs',by rw[d2.len];exact c1,hx',d1⟩
  obtain⟨xs',k1,k2⟩:=key xs.length (Nat.le_refl _)
  exact⟨xs',k1,some ⟨b,o,none⟩,c,by rw[k1],by omega,by omega,.inr ⟨b,o,rfl,k2⟩⟩
theorem r1_int {p:Int}{v':Value}(h:R1 (.int .i64 p) v')(hp:inI p):∃q,v'= .int .i64 q∧inI q:=by
 rcases h with rfl|⟨_,q,_,rfl,hq⟩
 ·exact⟨p,rfl,hp⟩
 ·exact⟨q,rfl,hq⟩
theorem r1_slice {a:Option Addr}{m c:Nat}{v':Value}(h:R1 (.slice a m c) v'):v'= .slice a m c:=by
 rcases h with rfl|⟨_,_,h,_⟩
 ·rfl
 ·cases h
theorem r1_str {s:Bs}{v':Value}(h:R1 (str s) v'):v'=str s:=by
 rcases h with rfl|⟨_,_,h,_⟩
 ·rfl
 ·cases h
theorem r1_bool {b:Bool}{v':Value}(h:R1 (.bool b) v'):v'= .bool b:=by
 rcases h with rfl|⟨_,_,h,_⟩
 ·rfl
 ·cases h
theorem rl1 {a:Value}{cs':List Value}(h:RL [a] cs'):∃u,cs'=[u]∧R1 a u:=by
 rcases cs' with _|⟨u,_|⟨z,r⟩⟩
 ·exact h.elim
 ·exact⟨u,rfl,h.1⟩
 ·exact h.2.elim
theorem intE_st {G':PH}{x:Int}{cs':List Value}(hi:inI x)(hr:RL [.int .i64 x] cs'):∃x',intE G' x' cs':=by
 obtain⟨u,rfl,k1⟩:=rl1 hr
 obtain⟨q,rfl,hq⟩:=r1_int k1 hi
 exact⟨q,rfl,hq⟩
instance : StE intE := ⟨fun {_ _ x cs cs'} _ hr h => by
 obtain⟨h1,h2⟩:=h
 rw[h1]at hr
 exact intE_st h2 hr⟩
theorem rl3 {a b c:Value}{cs':List Value}(h:RL [a,b,c] cs'):∃u v w,cs'=[u,v,w]∧R1 a u∧R1 b v∧R1 c w:=by
 rcases cs' with _|⟨u,_|⟨v,_|⟨w,_|⟨z,r⟩⟩⟩⟩
 ·exact h.elim
 ·exact h.2.elim
 ·exact h.2.2.elim
 ·exact⟨u,v,w,rfl,h.1,h.2.1,h.2.2.1⟩
 ·exact h.2.2.2.elim
theorem heldE_st {G G':PH}{x:BHeld}{a:Option Addr}{m c:Nat}{u v w:Value}(hg:GRel G G')(h1:inI x.id)(h2:RdI G (.slice a m c) x.bytes)(h3:inI x.uses)
  (k1:R1 (.int .i64 x.id) u) (k2:R1 (.slice a m c) v) (k3:R1 (.int .i64 x.uses) w):∃x',heldE G' x' [u,v,w]:=by
 obtain⟨p,rfl,hp⟩:=r1_int k1 h1
 obtain⟨q,rfl,hq⟩:=r1_int k3 h3
 have e:=r1_slice k2
 subst e
 obtain⟨ys,_,hy⟩:=RdS.st hg h2
 exact⟨⟨p,ys,q⟩,a,m,c,rfl,hp,hy,hq⟩
instance : StE heldE := ⟨fun {_ _ x cs cs'} hg hr h => by
 obtain⟨a,m,c,rfl,h1,h2,h3⟩:=h
 obtain⟨u,v,w,rfl,k1,k2,k3⟩:=rl3 hr
 exact heldE_st hg h1 h2 h3 k1 k2 k3⟩
instance : StE itemE := ⟨fun {_ _ x cs cs'} hg hr h => by
 obtain⟨a,m,c,rfl,h1,h2⟩:=h
 obtain⟨u,v,w,rfl,k1,k2,k3⟩:=rl3 hr
 obtain rfl:=r1_str k1
 obtain rfl:=r1_bool k2
 obtain rfl:=r1_slice k3
 obtain⟨ys,_,hy⟩:=h2.st hg
 exact⟨⟨x.path,x.dir,ys⟩,a,m,c,rfl,h1,hy⟩⟩
section
variable {w0 w:World} {G0 G:PH} {S:List Nat} {B:List Res}
end
section ops
variable {P:Program} {n:Nat} {ops:Array Oper} {Q:Post} {rest:List Oper} {L:Slots} {ds:List Deferred} {w w0:World} {G0:PH} {S:List Nat} {G:PH} {B:List Res}
variable {ty:TypeId} {ps:String} {af:Array Edge}
end ops
def Mine (w0:World)(G:PH)(v:Value):Prop:=∀b o m c,v= .slice (some ⟨b,o,none⟩) m c→w0.heap.size≤b∧∃l e,G b=some (cl l e)
theorem Mine.up {w0 : World} {G G' : PH} {v : Value} (h : Mine w0 G v) (hle : PLe G G') : Mine w0 G' v := fun b o m c e => by
 obtain⟨h1,l,e,h2⟩:=h b o m c e
 exact⟨h1,l,e,hle _ _ h2⟩
theorem Mine.nil {w0:World}{G:PH}:Mine w0 G (.slice none 0 0):=fun b o m c e=>by simp at e
section
variable {w0 w:World} {G0 G:PH} {B:List Res}
end
section ops
variable {P:Program} {n:Nat} {ops:Array Oper} {Q:Post} {rest:List Oper} {L:Slots} {ds:List Deferred} {w w0:World} {G0:PH} {S:List Nat} {G:PH} {B:List Res}
variable {ty:TypeId} {ps:String} {af:Array Edge}
end ops
theorem PLe.none {G:PH}:PLe (fun _=>none) G:=fun _ _ h=>by cases h
section ops
variable {P:Program} {n:Nat} {ops:Array Oper} {Q:Post} {rest:List Oper} {L:Slots} {ds:List Deferred} {w:World} {ty:TypeId} {ps:String} {af:Array Edge}
end ops
end Fw
namespace Sp
open Fw
open Nd
theorem put_newD {l t : List BItem} {x : BItem} (h : TreePut l x = some t) (hd : x.dir = true) : ∀ y, y ∈ l → y.path ≠ x.path := fun y hy e => by
 have:=put_dir_no (put_perm2 h).1.asc hy e (by simp[hd])
 rw[this]at h
 cases h
section
variable {v u:BVol} {p:Bs} {b:List Int}
end
end Sp
namespace Fw
open Go
section
variable {P:Program} {n:Nat} {ops:Array Oper} {Q:Post} {rest:List Oper} {L:Slots} {ds:List Deferred} {w:World}
variable {ty:TypeId} {ps:String} {af:Array Edge}
end
end Fw
namespace Sp
open Fw Nd
def trees (d:BDisk):List (List BItem):=d.tree::d.snaps.map (·.tree)
def cntD (ts:List (List BItem))(a:Int):Nat:=(ts.map (fun t=>cntL t a)).sum
theorem cntD_cons (t:List BItem)(ts:List (List BItem))(a:Int):cntD (t::ts) a=cntL t a+cntD ts a:=by simp[cntD]
theorem cntD_mem {ts:List (List BItem)}{t:List BItem}(h:t ∈ ts)(a:Int):cntL t a≤cntD ts a:=by
 induction ts with
 | nil=>cases h
 | cons y r ih =>
  rw[cntD_cons]
  rcases List.mem_cons.1 h with rfl|h
  ·omega
  ·have:=ih h;omega
theorem cntD_zero {ts:List (List BItem)}{a:Int}(h:∀t,t ∈ ts→∀x,x ∈ t→a ∉ x.ids):cntD ts a=0:=by
 induction ts with
 | nil=>rfl
 | cons y r ih=>rw[cntD_cons,ih (fun t ht=>h t (by simp[ht])),cntL_zero (h y (by simp))]
theorem cntD_le {ts:List (List BItem)}(h:∀t,t ∈ ts→VT t)(a:Int):cntD ts a≤48*ts.length:=by
 induction ts with
 | nil=>simp[cntD]
 | cons y r ih =>
  rw[cntD_cons,List.length_cons]
  have h1:=ih (fun t ht=>h t (by simp[ht]))
  have h2:=l11Count_le (id:=a) (tvalid_iff.2 (h y (by simp)))
  rw[l11Count_eq]at h2
  omega
theorem l12Count_eq (d:BDisk)(a:Int):l12Count d a=cntD (trees d) a:=by
 simp[l12Count,cntS,trees,l11Count_eq,cntD,Function.comp_def]
structure DHol (L:List BHeld) (ts:List (List BItem)):Prop where
 vh:VH L
 vt:∀t,t ∈ ts→VT t
 ids:∀t,t ∈ ts→∀x,x ∈ t→l4Ids L x.ids=true
 use:∀a,us L a=(cntD ts a:Int)
def NamesOK (l:List BSnap):Prop:=l.length≤6∧∀(k:Nat) (s:BSnap),l[k]? = some s→l1Word s.name=true∧(k:Int)≤l12At l s.name
theorem dd_iff {d:BDisk}:DiskValid d=true↔NamesOK d.snaps∧DHol d.store (trees d):=by
 rw[dv_parts,valid_iff,tvalid_iff]
 have hf : ∀ l : List BItem, l11Files d.store l = true ↔ ∀ x, x ∈ l → l4Ids d.store x.ids = true := fun l => by
  unfold l11Files
  rw[List.all_eq_true]
  exact Iff.rfl
 constructor
 ·rintro⟨h1,h2,h3,h4,⟨h5,h6⟩,h7⟩
  have hi : ∀ t, t ∈ trees d → ∀ x, x ∈ t → l4Ids d.store x.ids = true := fun t ht => by
   rcases List.mem_cons.1 ht with rfl|ht
   ·exact(hf _).1 h5
   ·obtain⟨s,hs,rfl⟩:=List.mem_map.1 ht
    obtain⟨k,hk⟩:=List.getElem?_of_mem hs
    exact(hf _).1 (h6 k s hk)
  refine⟨⟨h3,fun k s hs=>⟨(h4 k s hs).1,(h4 k s hs).2.1⟩⟩,⟨h1,fun t ht=>?_,hi,fun a=>?_⟩⟩
  ·rcases List.mem_cons.1 ht with rfl|ht
   ·exact h2
   ·obtain⟨s,hs,rfl⟩:=List.mem_map.1 ht
    obtain⟨k,hk⟩:=List.getElem?_of_mem hs
    exact tvalid_iff.1 (h4 k s hk).2.2
  ·by_cases ha:a ∈ d.store.map (·.id)
   ·obtain⟨h,hh,rfl⟩:=List.mem_map.1 ha
    have:=List.all_eq_true.1 h7 h hh
    simp only[usesD,decide_eq_true_eq,l12Count_eq]at this
    rw[this,us,getH_mem h1.nd hh]
   ·rw[us,getH_not ha,cntD_zero]
    ·rfl
    ·intro t ht x hx hax
     have:=ids_in h1 (hi t ht x hx) hax
     rw[us,getH_not ha]at this
     exact absurd this (by simp)
 ·rintro⟨⟨h3,h4⟩,⟨h1,h2,hi,hu⟩⟩
  have hm:∀(k:Nat) (s:BSnap),d.snaps[k]? = some s→s.tree ∈ trees d:=fun k s hs=>List.mem_cons.2 (.inr (List.mem_map.2 ⟨s,List.mem_of_getElem? hs,rfl⟩))
  refine⟨h1,h2 _ (by simp[trees]),h3,fun k s hs=>⟨(h4 k s hs).1,(h4 k s hs).2,tvalid_iff.2 (h2 _ (hm k s hs))⟩,⟨(hf _).2 (hi _ (by simp[trees])),fun k s hs=>(hf _).2 (hi _ (hm k s hs))⟩,List.all_eq_true.2 fun h hh=>?_⟩
  simp only[usesD,decide_eq_true_eq,l12Count_eq]
  rw[←hu,us,getH_mem h1.nd hh]
def DiskWrite (d:BDisk)(p:Bs)(b:List Int):Option BDisk:=if DiskValid d&&FileValid b then(l11Write ⟨d.store,d.tree⟩ p b).map (fun v=>⟨v.store,v.tree,d.snaps⟩) else none
theorem at_some {l:List BSnap}{n:Bs}{i:Nat}(h:atS l n=some i):∃s,l[i]? = some s∧s.name=n∧i<l.length∧∀j s',j<i→l[j]? = some s'→s'.name≠n:=by
 obtain⟨h1,h2,h3⟩:=List.findIdx?_eq_some_iff_getElem.1 h
 refine⟨l[i],by simp[h1],by simpa using h2,h1,fun j s' hj hs e=>?_⟩
 have:=h3 j hj
 obtain⟨hj2,hs2⟩:=List.getElem?_eq_some_iff.1 hs
 rw[hs2]at this
 simp[e]at this
section
variable {d d1:BDisk} {n:Bs}
theorem DHol.le {L:List BHeld}{ts:List (List BItem)}(h:DHol L ts)(hl:ts.length≤7)(a:Int):us L a≤336:=by
 have:=h.use a
 have:=cntD_le h.vt a
 omega
theorem DHol.perm {L:List BHeld}{ts us':List (List BItem)}(h:DHol L ts)(hp:ts.Perm us'):DHol L us' :=
 ⟨h.vh,fun t ht=>h.vt t (hp.mem_iff.2 ht),fun t ht=>h.ids t (hp.mem_iff.2 ht),fun a=>by rw[h.use a];exact congrArg _ ((hp.map _).sum_nat)⟩
end
end Sp
namespace Sp
open Fw
theorem free_len (s:List BHeld)(ids:List Int):((FileFree s ids).getD []).length≤s.length:=by
 cases e:FileFree s ids with
 | none=>simp
 | some r =>
  unfold FileFree at e
  split at e
  ·exact foldB_inv (P:=fun r:List BHeld=>r.length≤s.length) (f:=StoreDrop) (fun a b a' h1 h2=>Nat.le_trans (drop_len h2) h1) _ _ _ (Nat.le_refl _) e
  ·cases e
end Sp
namespace Sp
open Fw Nd
theorem names_nodup {l:List BSnap}:(∀(k:Nat) (s:BSnap),l[k]? = some s→(k:Int)≤l12At l s.name)↔(l.map (·.name)).Nodup:=by
 constructor
 ·intro h
  rw[List.nodup_iff_pairwise_ne,List.pairwise_map,List.pairwise_iff_getElem]
  intro i j hi hj hij e
  have h1:=h j l[j] (by simp)
  simp only[l12At]at h1
  cases e2:atS l l[j].name with
  | none=>rw[e2]at h1;simp[optI]at h1;omega
  | some m =>
   rw[e2]at h1
   obtain⟨_,_,_,_,h4⟩:=at_some e2
   simp only[optI]at h1
   exact h4 i l[i] (by omega) (by simp) e
 ·intro h k s hs
  obtain⟨hk,hk2⟩:=List.getElem?_eq_some_iff.1 hs
  simp only[l12At]
  cases e2:atS l s.name with
  | none =>
   have:=List.findIdx?_eq_none_iff.1 e2 s (List.mem_of_getElem? hs)
   simp at this
  | some m =>
   obtain⟨s',h1,h2,h3,_⟩:=at_some e2
   simp only[optI]
   by_cases hm:m<k
   ·rw[List.nodup_iff_pairwise_ne,List.pairwise_map,List.pairwise_iff_getElem]at h
    obtain⟨_,h1'⟩:=List.getElem?_eq_some_iff.1 h1
    exact absurd (by rw[h1',hk2,h2]) (h m k h3 hk hm)
   ·omega
theorem namesOK_iff {l:List BSnap}:NamesOK l↔l.length≤6∧(∀s,s ∈ l→l1Word s.name=true)∧(l.map (·.name)).Nodup:=by
 rw[←names_nodup]
 constructor
 ·rintro⟨h1,h2⟩
  refine⟨h1,fun s hs=>?_,fun k s hs=>(h2 k s hs).2⟩
  obtain⟨k,hk⟩:=List.getElem?_of_mem hs
  exact(h2 k s hk).1
 ·rintro⟨h1,h2,h3⟩
  exact⟨h1,fun k s hs=>⟨h2 s (List.mem_of_getElem? hs),h3 k s hs⟩⟩
theorem NamesOK.sub {l m:List BSnap}(h:NamesOK l)(hs:m.Sublist l):NamesOK m:=by
 obtain⟨h1,h2,h3⟩:=namesOK_iff.1 h
 exact namesOK_iff.2 ⟨Nat.le_trans hs.length_le h1,fun s hm=>h2 s (hs.subset hm),(hs.map _).nodup h3⟩
section
variable {d d1:BDisk} {n:Bs} {p:Bs} {b:List Int}
theorem split_at {α:Type}{l:List α}{i:Nat}{x:α}(h:l[i]? = some x):l=l.take i++x::l.drop (i+1):=by
 have:=List.take_append_drop i l
 rw[drop_at h]at this
 exact this.symm
theorem del_sub {α:Type}{l:List α}{i:Nat}{x:α}(h:l[i]? = some x):(l.take i++l.drop (i+1)).Sublist l:=by
 conv=>rhs;rw[split_at h]
 exact List.Sublist.append_left (List.sublist_cons_self _ _) _
theorem dwrite_get (h:DiskWrite d p b=some d1):DiskValid d=true∧FileValid b=true∧∃v,l11Write ⟨d.store,d.tree⟩ p b=some v∧d1=⟨v.store,v.tree,d.snaps⟩:=by
 unfold DiskWrite at h
 split at h
 ·rename_i hc
  simp only[Bool.and_eq_true]at hc
  obtain⟨v,h1,h2⟩:=Option.map_eq_some_iff.1 h
  exact⟨hc.1,hc.2,v,h1,h2.symm⟩
 ·cases h
theorem DHol.hol {L:List BHeld}{t:List BItem}{ts:List (List BItem)}(h:DHol L (t::ts)):Hol L t :=
 ⟨h.vh,h.vt t (by simp),h.ids t (by simp),fun a=>by have:=h.use a;rw[cntD_cons]at this;omega⟩
theorem dwrite_valid (h:DiskWrite d p b=some d1):DiskValid d1=true:=by
 obtain⟨hd,hb,v,hv,rfl⟩:=dwrite_get h
 obtain⟨hN,hH⟩:=dd_iff.1 hd
 refine dd_iff.2 ⟨hN,?_⟩
 show DHol v.store (v.tree::d.snaps.map (·.tree))
 unfold l11Write at hv
 split at hv
 ·cases hv
 ·rename_i r hst
  obtain⟨s,ids⟩:=r
  split at hv
  ·cases hv
  ·rename_i t ht
   obtain⟨s',_,_,g1,g2,g3⟩:=write_ok (DHol.hol (ts:=d.snaps.map (·.tree)) hH) hst ht
   obtain⟨_,_,hsu,_⟩:=store_ok hH.vh hst
   have hv':l11Write ⟨d.store,d.tree⟩ p b=some v:=by
    simp only[l11Write,hst,ht]
    exact hv
   rw[g1]at hv'
   cases hv'
   have hu : ∀ a, us s' a = (cntD (t :: d.snaps.map (·.tree)) a : Int) := fun a => by
    have h1:=hH.use a
    have h2:us s' a=us d.store a+(cntL t a:Int)-(cntL d.tree a:Int):=(g3 a).1
    simp only[trees,cntD_cons]at h1
    rw[cntD_cons]
    omega
   refine⟨g2.vh,fun u hu2=>?_,fun u hu2 x hx=>?_,hu⟩
   ·rcases List.mem_cons.1 hu2 with rfl|hu2
    ·exact g2.vt
    ·exact hH.vt u (List.mem_cons.2 (.inr hu2))
   ·rcases List.mem_cons.1 hu2 with rfl|hu2
    ·exact g2.ids x hx
    ·refine ids_keep hH.vh g2.vh (fun a ha=>?_) (hH.ids u (List.mem_cons.2 (.inr hu2)) x hx)
     have h1:0<cnt1 a x.ids:=cnt1_pos.2 ha
     have h2:=cntL_mem hx a
     have h3:=cntD_mem hu2 a
     have h4:=hu a
     rw[cntD_cons]at h4
     have h5:0<us s' a:=by omega
     have h6:=hH.use a
     simp only[trees,cntD_cons]at h6
     exact⟨h5,((g3 a).2 h5).trans ((hsu a).2 (by omega))⟩
end
end Sp
namespace Fw
open Go
section ops
variable {P:Program} {n:Nat} {ops:Array Oper} {Q:Post} {rest:List Oper} {L:Slots} {ds:List Deferred} {w w0:World} {G0:PH} {S:List Nat} {G:PH} {B:List Res}
variable {ty:TypeId} {ps:String} {af:Array Edge}
end ops
theorem All2.del {α β:Type}{R:α→β→Prop}{l:List α}{m:List β}(h:All2 R l m):∀(i:Nat),All2 R (l.take i++l.drop (i+1)) (m.take i++m.drop (i+1)):=by
 induction h with
 | nil=>intro i;simp;exact .nil
 | cons h t ih =>
  intro i
  cases i with
  | zero=>simpa using t
  | succ i=>simpa using .cons h (ih i)
end Fw
namespace Sp
open Fw
section
variable {d d1:BDisk} {n:Bs} {p:Bs} {b:List Int}
theorem dk_lim {o:Option BDisk}(h:∀d1,o=some d1→DiskValid d1=true):((o.map (·.snaps)).getD []).length≤6:=by
 cases o with
 | none=>simp
 | some d1=>exact(dv_parts.1 (h d1 rfl)).2.2.1
end
theorem freeOld_len (s:List BHeld)(l:List BItem):(freeOld s l).length≤s.length:=by
 cases l with
 | nil=>exact Nat.le_refl _
 | cons x r=>exact free_len s x.ids
theorem l11Write_slen (v:BVol)(p:Bs)(b:List Int):(((l11Write v p b).map (·.store)).getD []).length≤16:=by
 have h:=fileStore_len v.store b
 unfold l11Write
 cases e:FileStore v.store b with
 | none=>simp
 | some r =>
  rw[e]at h
  simp only[Option.map_some,Option.getD_some]at h
  have h2:=freeOld_len r.1 (l11Ids v.tree p)
  cases e2:TreePut v.tree ⟨p,false,r.2⟩ with
  | none=>simp[e2]
  | some t=>simp[e2];omega
end Sp
namespace Fw
open Go
theorem cnt_bound {α:Type}{c:α→Nat}{K:Nat}:∀{l:List α},(∀x,x ∈ l→c x≤K)→cnt c l≤K*l.length
 | [],_=>by simp[cnt]
 | x :: r, h => by
  have h1:=h x (by simp)
  have h2:=cnt_bound (l:=r) (fun y hy=>h y (by simp[hy]))
  have:cnt c (x::r)=c x+cnt c r:=by simp[cnt]
  rw[this,List.length_cons,Nat.mul_add]
  omega
theorem cnt_ints (l:List Int):cnt cI l≤l.length:=by
 have:=cnt_bound (c:=cI) (K:=1) (l:=l) (fun _ _=>Nat.le_refl _)
 omega
theorem held_cnt {L:List BHeld}(h:Sp.VH L):cnt cHeld L≤160:=by
 have h1 : ∀ x, x ∈ L → cHeld x ≤ 10 := fun x hx => by
  have:=(Sp.bv_len (h.ok x hx).2.1).2
  have:=cnt_ints x.bytes
  unfold cHeld
  omega
 have:=cnt_bound h1
 have:=h.len
 omega
theorem tree_cnt {t:List BItem}(h:Sp.VT t):cnt cItem t≤72:=by
 have h1 : ∀ x, x ∈ t → cItem x ≤ 6 := fun x hx => by
  obtain⟨k,hk⟩:=List.getElem?_of_mem hx
  have:=(Sp.tree_at (Sp.tvalid_iff.2 h) hk).2
  have:=cnt_ints x.ids
  unfold cItem
  omega
 have:=cnt_bound h1
 have:=h.len
 omega
theorem disk_cnt {d:BDisk}(h:Sp.DiskValid d=true):cDisk d≤700:=by
 obtain⟨hN,hH⟩:=Sp.dd_iff.1 h
 have h1:=held_cnt hH.vh
 have h2:=tree_cnt (hH.vt d.tree (by simp[Sp.trees]))
 have h3 : ∀ s, s ∈ d.snaps → cSnap s ≤ 73 := fun s hs => by
  have:=tree_cnt (hH.vt s.tree (List.mem_cons.2 (.inr (List.mem_map.2 ⟨s,hs,rfl⟩))))
  unfold cSnap
  omega
 have h4:=cnt_bound h3
 have h5:=hN.1
 unfold cDisk
 omega
theorem dk_cnt {o:Option BDisk}(h:∀d1,o=some d1→Sp.DiskValid d1=true):cDisk (o.getD ⟨[],[],[]⟩)≤700:=by
 cases o with
 | none=>simp[cDisk,cnt]
 | some d1=>exact disk_cnt (h d1 rfl)
end Fw
namespace Sp
open Fw Nd
theorem dwrite_snaps {d d1:BDisk}{p:Bs}{b:List Int}(h:DiskWrite d p b=some d1):d1.snaps=d.snaps:=by
 obtain⟨hd,hb,v,hv,rfl⟩:=dwrite_get h
 rfl
end Sp
namespace Fw
open Go
section
variable {P:Program} {n:Nat} {Q:Post} {L:Slots} {ds:List Deferred} {w:World}
def JP (n:Nat)(ds:List Deferred)(Lf:Slots)(J:Slots→World→Prop):Post:=fun e a w=>e= .normal∧∃M,FrL n (M++Lf) ds a∧J M w
theorem W_join {x y:Code}(Lf:Slots)(J:Slots→World→Prop)(hf:Sub Lf L)(first:W P n (JP n ds Lf J) x L ds w)(second:∀M w,J M w→W P n Q y (M++Lf) ds w):W P n Q (.seq x y) L ds w :=
 W_seq (fun a ha => wp_mono (first a ha) (fun e a' w' hq => by
  obtain⟨he,M,hF,hJ⟩:=hq
  subst he
  exact second M w' hJ a' hF))
theorem N_J {Lf : Slots} {J : Slots → World → Prop} {M : Slots} (hJ : J M w) (hM : Sub M L := by (repeat (first | exact Sub.nil | refine Sub.cons rfl ?_))) (hf : Sub Lf L := by (repeat (first | exact Sub.nil | refine Sub.cons rfl ?_))) : N n (JP n ds Lf J) .normal L ds w :=
 fun _ ha=>⟨rfl,M,ha.sub (hM.app hf),hJ⟩
end
def selB {α:Type}(B:List α):List Nat→Option (List α)
 | []=>some []
 | k :: ks => match nth B k, selB B ks with
  | some r,some rs=>some (r::rs)
  | _,_=>none
theorem selB_cons {α:Type}{B:List α}{k:Nat}{ks:List Nat}{Bs:List α}(h:selB B (k::ks)=some Bs):∃r rs,nth B k=some r∧selB B ks=some rs∧Bs=r::rs:=by
 simp only[selB]at h
 split at h
 ·next r rs h1 h2=>exact⟨r,rs,h1,h2,(Option.some.inj h).symm⟩
 ·cases h
theorem selB_mem {α:Type}{B:List α}:∀{ks:List Nat} {Bs:List α},selB B ks=some Bs→∀r,r ∈ Bs→∃k,k ∈ ks∧nth B k=some r
 | [], Bs, h, r, hr => by
  simp only[selB,Option.some.injEq]at h
  subst h
  simp at hr
 | k :: ks, Bs, h, r, hr => by
  obtain⟨q,rs,h1,h2,rfl⟩:=selB_cons h
  rcases List.mem_cons.1 hr with rfl|hr
  ·exact⟨k,by simp,h1⟩
  ·obtain⟨j,hj,hn⟩:=selB_mem h2 r hr
   exact⟨j,by simp[hj],hn⟩
theorem fps_apart:∀{B:List Res} {j k:Nat} {q r:Res} {b:Nat},(fps B).Nodup→nth B j=some q→nth B k=some r→j≠k→b ∈ q.fp→b ∈ r.fp→False
 | [],j,_,q,_,_,_,h,_,_,_,_=>by simp[nth]at h
 | x::t,0,0,_,_,_,_,_,_,h,_,_=>h rfl
 | x :: t, 0, k + 1, q, r, b, hn, h1, h2, _, hq, hr => by
  simp only[nth,Option.some.injEq]at h1 h2
  subst h1
  have:=List.nodup_append.1 (show(x.fp++fps t).Nodup from hn)
  exact this.2.2 b hq b (List.mem_flatMap.2 ⟨r,nth_mem h2,hr⟩) rfl
 | x :: t, j + 1, 0, q, r, b, hn, h1, h2, _, hq, hr => by
  simp only[nth,Option.some.injEq]at h1 h2
  subst h2
  have:=List.nodup_append.1 (show(x.fp++fps t).Nodup from hn)
  exact this.2.2 b hr b (List.mem_flatMap.2 ⟨q,nth_mem h1,hq⟩) rfl
 | x :: t, j + 1, k + 1, q, r, b, hn, h1, h2, hne, hq, hr => by
  simp only[nth]at h1 h2
  have:=List.nodup_append.1 (show(x.fp++fps t).Nodup from hn)
  exact fps_apart this.2.1 h1 h2 (by omega) hq hr
theorem fp_nodup:∀{B:List Res} {k:Nat} {r:Res},(fps B).Nodup→nth B k=some r→r.fp.Nodup
 | [],_,_,_,h=>by simp[nth]at h
 | x :: t, 0, r, hn, h => by
  simp only[nth,Option.some.injEq]at h
  subst h
  exact(List.nodup_append.1 (show(x.fp++fps t).Nodup from hn)).1
 | x :: t, k + 1, r, hn, h => by
  simp only[nth]at h
  exact fp_nodup (List.nodup_append.1 (show(x.fp++fps t).Nodup from hn)).2.1 h
theorem selB_nodup {B:List Res}(hn:(fps B).Nodup):∀{ks:List Nat} {Bs:List Res},selB B ks=some Bs→ks.Nodup→(fps Bs).Nodup
 | [], Bs, h, _ => by
  simp only[selB,Option.some.injEq]at h
  subst h
  simp[fps]
 | k :: ks, Bs, h, hk => by
  obtain⟨r,rs,h1,h2,rfl⟩:=selB_cons h
  have hk':=List.nodup_cons.1 hk
  refine List.nodup_append.2 ⟨fp_nodup hn h1,selB_nodup hn h2 hk'.2,fun a ha b hb e=>?_⟩
  subst e
  obtain⟨q,hq,hb⟩:=List.mem_flatMap.1 hb
  obtain⟨j,hj,hjq⟩:=selB_mem h2 q hq
  exact fps_apart hn h1 hjq (fun e=>hk'.1 (e▸hj)) ha hb
theorem Hp.sel {w0 : World} {P0 : PH} {S : List Nat} {w : World} {P : PH} {B : List Res} (H : Hp w0 P0 S w P B) (ks : List Nat) {Bs : List Res} (h : selB B ks = some Bs) (hk : ks.Nodup := by decide) : Hp w0 P0 S w P Bs :=
 ⟨H.os,H.tape,H.output,H.size,H.ext,H.sub,H.le,H.old,fun r hr=>let ⟨_,_,hn⟩:=selB_mem h r hr;H.own r (nth_mem hn),selB_nodup H.nd h hk⟩
end Fw
namespace Sp
open Fw Nd
def ids (L:List BHeld):List Int:=L.map (·.id)
end Sp
namespace Fw
structure BOp where
 kind:Int
 path:Bs
 bytes:List Int
end Fw
namespace Sp
open Fw Nd
def opOk (o:BOp):Bool :=
 if o.kind=1∨o.kind=3 then PathValid o.path&&decide (o.bytes=[])
 else if o.kind=2 then PathValid o.path&&FileValid o.bytes
 else if o.kind=4 then l1Word o.path&&decide (o.bytes=[])
 else false
def withVol (d:BDisk)(u:BVol):BDisk:=⟨u.store,u.tree,d.snaps⟩
def DiskDir (d:BDisk)(p:Bs):Option BDisk:=if DiskValid d then(l11Dir d.store d.tree p).map (withVol d) else none
def DiskDrop (d:BDisk)(p:Bs):Option BDisk:=if DiskValid d then(l11Drop d.store d.tree p).map (withVol d) else none
def OpRun (d:BDisk)(o:BOp):Option BDisk :=
 if opOk o then
  if o.kind=1 then DiskDir d o.path
  else if o.kind=2 then DiskWrite d o.path o.bytes
  else if o.kind=3 then DiskDrop d o.path
  else SnapTake d o.path
 else none
section
variable {d d1:BDisk} {p:Bs} {o:BOp}
theorem ddir_get (h:DiskDir d p=some d1):DiskValid d=true∧∃t,TreePut d.tree ⟨p,true,[]⟩=some t∧d1=⟨d.store,t,d.snaps⟩∧t.Perm (⟨p,true,[]⟩::d.tree)∧VT t:=by
 unfold DiskDir at h
 split at h
 ·rename_i hd
  unfold l11Dir at h
  cases e:TreePut d.tree ⟨p,true,[]⟩ with
  | none=>rw[e]at h;simp at h
  | some t =>
   rw[e]at h
   simp[withVol]at h
   obtain⟨_,vt,_,hp⟩:=put_perm2 e
   rw[filter_none (put_newD e rfl)]at hp
   exact⟨hd,t,rfl,h.symm,hp,vt⟩
 ·cases h
theorem ddir_valid (h:DiskDir d p=some d1):DiskValid d1=true:=by
 obtain⟨hd,t,_,rfl,hp,vt⟩:=ddir_get h
 obtain⟨hN,hH⟩:=dd_iff.1 hd
 have hc:∀a,cntL t a=cntL d.tree a:=fun a=>by rw[cntL_perm hp,cntL_cons];simp[cnt1]
 refine dd_iff.2 ⟨hN,hH.vh,fun u hu=>?_,fun u hu x hx=>?_,fun a=>?_⟩
 ·rcases List.mem_cons.1 hu with rfl|hu
  ·exact vt
  ·exact hH.vt u (List.mem_cons.2 (.inr hu))
 ·rcases List.mem_cons.1 hu with rfl|hu
  ·rcases List.mem_cons.1 (hp.mem_iff.1 hx) with rfl|hx
   ·exact ids_true (fun j hj=>by simp at hj) (by simp)
   ·exact hH.ids d.tree (by simp[trees]) x hx
  ·exact hH.ids u (List.mem_cons.2 (.inr hu)) x hx
 ·have:=hH.use a
  simp only[trees,cntD_cons]at this ⊢
  rw[this,hc]
theorem ddrop_get (h:DiskDrop d p=some d1):DiskValid d=true∧∃(x:BItem) (s:List BHeld) (t:List BItem),TreeDrop d.tree p=some t∧x ∈ d.tree∧x.path=p∧d1=⟨s,t,d.snaps⟩∧VH s∧VT t∧d.tree.Perm (x::t) ∧
  ∀a,us s a=us d.store a-(cnt1 a x.ids:Int)∧(0<us s a→by_ s a=by_ d.store a):=by
 unfold DiskDrop at h
 split at h
 ·rename_i hd
  cases e:TreeDrop d.tree p with
  | none=>simp[l11Drop,e]at h
  | some t =>
   obtain⟨x,s,hx,hxa,_,g2,g3,g4,g5⟩:=drop_ok (DHol.hol (ts:=d.snaps.map (·.tree)) (dd_iff.1 hd).2) e
   rw[g2]at h
   simp[withVol]at h
   obtain⟨_,_,y,_,hyp,hya,_⟩:=drop_perm2 e
   rw[hxa]at hya
   cases hya
   exact⟨hd,x,s,t,rfl,hx,hyp,h.symm,g3.vh,g3.vt,g4,g5⟩
 ·cases h
theorem ddrop_valid (h:DiskDrop d p=some d1):DiskValid d1=true:=by
 obtain⟨hd,x,s,t,_,hx,_,rfl,vs,vt,hp,hu⟩:=ddrop_get h
 obtain⟨hN,hH⟩:=dd_iff.1 hd
 have hc:∀a,cntL d.tree a=cnt1 a x.ids+cntL t a:=fun a=>by rw[cntL_perm hp,cntL_cons]
 have hus : ∀ a, us s a = (cntD (t :: d.snaps.map (·.tree)) a : Int) := fun a => by
  have h1:=hH.use a
  have h2:=(hu a).1
  have h3:=hc a
  simp only[trees,cntD_cons]at h1 ⊢
  omega
 refine dd_iff.2 ⟨hN,vs,fun u hu2=>?_,fun u hu2 y hy=>?_,hus⟩
 ·rcases List.mem_cons.1 hu2 with rfl|hu2
  ·exact vt
  ·exact hH.vt u (List.mem_cons.2 (.inr hu2))
 ·have hy2 : ∃ u', u' ∈ trees d ∧ y ∈ u' := by
   rcases List.mem_cons.1 hu2 with rfl|hu2
   ·exact⟨d.tree,by simp[trees],hp.mem_iff.2 (by simp[hy])⟩
   ·exact⟨u,List.mem_cons.2 (.inr hu2),hy⟩
  obtain⟨u',m1,m2⟩:=hy2
  refine ids_keep hH.vh vs (fun a ha=>?_) (hH.ids u' m1 y m2)
  have h1:0<cnt1 a y.ids:=cnt1_pos.2 ha
  have h2:=cntL_mem hy a
  have h3:=cntD_mem hu2 a
  have h4:=hus a
  have h5:0<us s a:=by simp only[trees]at h3;omega
  exact⟨h5,(hu a).2 h5⟩
end
def jgo:BDisk→List BOp→BDisk×Nat
 | d,[]=>(d,0)
 | d, o :: r => match OpRun d o with
  | none=>(d,0)
  | some d1=>((jgo d1 r).1,(jgo d1 r).2+1)
theorem asc_uniq {l:List BItem}(h:l.Pairwise ltp){x y:BItem}(hx:x ∈ l)(hy:y ∈ l)(e:x.path=y.path):x=y:=by
 obtain⟨i,h1,h2⟩:=(uniq_at h (p:=y.path)).2.1 x hx e
 obtain⟨j,h3,h4⟩:=(uniq_at h (p:=y.path)).2.1 y hy rfl
 rw[h1]at h3
 cases h3
 rw[h2]at h4
 exact Option.some.inj h4
end Sp
namespace Fw
structure BPart where
 kind:Int
 path:Bs
 dir:Bool
 bytes:List Int
end Fw
namespace Sp
open Fw Nd
def l14Drop (d:BDisk)(x:BPart):Option BDisk :=
 if (d.tree.any (fun y=>decide (y.path=x.path)&&decide (y.dir=x.dir)))&&decide (x.bytes=[]) then(l11Drop d.store d.tree x.path).map (withVol d) else none
def fileAt (t:List BItem)(p:Bs):Bool:=t.any (fun y=>decide (y.path=p)&& !y.dir)
def l14Make (d:BDisk)(x:BPart):Option BDisk :=
 if (decide (x.kind = 1) && (atI d.tree x.path).isNone) || (decide (x.kind = 3) && !x.dir && fileAt d.tree x.path) then
  if x.dir then(if x.bytes=[] then(l11Dir d.store d.tree x.path).map (withVol d) else none) else DiskWrite d x.path x.bytes
 else none
def isGone (x:BPart):Bool:=decide (x.kind=2)
def StreamRun (d:BDisk)(l:List BPart):Option BDisk :=
 if DiskValid d then foldB l14Make (l.filter (fun x=> !isGone x)) (foldB l14Drop (l.filter isGone).reverse (some d)) else none
section
variable {d d1:BDisk} {x:BPart}
theorem sdrop1 (hd:DiskValid d=true)(h:l14Drop d x=some d1):DiskDrop d x.path=some d1∧x.bytes=[]:=by
 unfold l14Drop at h
 split at h
 ·rename_i hc
  simp only[Bool.and_eq_true,decide_eq_true_eq]at hc
  exact⟨by simpa [DiskDrop,hd] using h,hc.2⟩
 ·cases h
theorem smake1 (hd:DiskValid d=true)(h:l14Make d x=some d1):(x.kind=1∨x.kind=3)∧((x.dir=true∧x.kind=1∧DiskDir d x.path=some d1)∨(x.dir=false∧DiskWrite d x.path x.bytes=some d1)):=by
 unfold l14Make at h
 split at h
 ·rename_i hc
  simp only[Bool.or_eq_true,Bool.and_eq_true,decide_eq_true_eq,Bool.not_eq_true']at hc
  refine⟨hc.imp (·.1) (·.1.1),?_⟩
  cases e:x.dir with
  | true =>
   rw[e]at h
   simp only[if_true]at h
   split at h
   ·refine .inl ⟨rfl,?_,by simpa [DiskDir,hd] using h⟩
    rcases hc with h1|h1
    ·exact h1.1
    ·rw[e]at h1;cases h1.1.2
   ·cases h
  | false =>
   rw[e]at h
   exact .inr ⟨rfl,by simpa using h⟩
 ·cases h
theorem sdrop_v (hd:DiskValid d=true)(h:l14Drop d x=some d1):DiskValid d1=true∧d1.snaps=d.snaps:=by
 obtain⟨h1,_⟩:=sdrop1 hd h
 refine⟨ddrop_valid h1,?_⟩
 obtain⟨_,_,_,_,_,_,_,rfl,_⟩:=ddrop_get h1
 rfl
theorem smake_v (hd:DiskValid d=true)(h:l14Make d x=some d1):DiskValid d1=true∧d1.snaps=d.snaps:=by
 obtain⟨_,⟨_,_,h1⟩|⟨_,h1⟩⟩:=smake1 hd h
 ·refine⟨ddir_valid h1,?_⟩
  obtain⟨_,_,_,rfl,_⟩:=ddir_get h1
  rfl
 ·exact⟨dwrite_valid h1,dwrite_snaps h1⟩
end
theorem run_all {P:BDisk→Prop}(hP1:∀d d1 x,DiskValid d=true→P d→l14Drop d x=some d1→P d1)(hP2:∀d d1 x,DiskValid d=true→P d→l14Make d x=some d1→P d1)
  {d d1:BDisk} {l:List BPart} (h0:P d) (h:StreamRun d l=some d1):DiskValid d1=true∧d1.snaps=d.snaps∧P d1:=by
 unfold StreamRun at h
 split at h
 ·rename_i hd
  cases e:foldB l14Drop (l.filter isGone).reverse (some d) with
  | none =>
   rw[e]at h
   have : ∀ m : List BPart, foldB l14Make m none = none := fun m => by
    induction m with
    | nil=>rfl
    | cons x m ih=>exact ih
   rw[this]at h
   cases h
  | some m =>
   rw[e]at h
   have h1:=foldB_inv (P:=fun r:BDisk=>DiskValid r=true∧r.snaps=d.snaps∧P r) (f:=l14Drop) (fun a b a' h1 h2=>⟨(sdrop_v h1.1 h2).1,(sdrop_v h1.1 h2).2.trans h1.2.1,hP1 _ _ _ h1.1 h1.2.2 h2⟩) _ _ _ ⟨hd,rfl,h0⟩ e
   exact foldB_inv (P:=fun r:BDisk=>DiskValid r=true∧r.snaps=d.snaps∧P r) (f:=l14Make) (fun a b a' h1 h2=>⟨(smake_v h1.1 h2).1,(smake_v h1.1 h2).2.trans h1.2.1,hP2 _ _ _ h1.1 h1.2.2 h2⟩) _ _ _ h1 h
 ·cases h
theorem run_valid {d d1:BDisk}{l:List BPart}(h:StreamRun d l=some d1):DiskValid d1=true∧d1.snaps=d.snaps:=by
 have:=run_all (P:=fun _=>True) (fun _ _ _ _ _ _=>trivial) (fun _ _ _ _ _ _=>trivial) trivial h
 exact⟨this.1,this.2.1⟩
theorem foldB_app {α β:Type}(f:α→β→Option α)(l m:List β)(o:Option α):foldB f (l++m) o=foldB f m (foldB f l o):=List.foldl_append
theorem dv_tree {d:BDisk}(h:DiskValid d=true):VT d.tree:=(dd_iff.1 h).2.vt d.tree (by simp[trees])
section
variable {d d1:BDisk} {x:BPart}
end
def seen (L:List BHeld)(x:BItem):Bs×Bool×List Int:=(x.path,x.dir,load L x.ids)
section
variable {d d1:BDisk} {f t:Bs}
end
end Sp
namespace Fw
structure BQuota where
 dir:Bs
 most:Int
end Fw
namespace Sp
open Fw Nd
section
variable {d x:BDisk} {l:List BQuota} {p:Bs} {n:Int} {b:List Int}
end
section
variable {L:List BHeld} {k:Nat} {h:BHeld} (e:L[k]? = some h)
include e
end
end Sp
namespace Fw
open Go
inductive RunSeg (T:TypeId) (G:PH):Value→List (Int×Int)→Value→Prop
 | nil (v:Value):RunSeg T G v [] v
 | cons {b:Nat} {m x:Int} {v e:Value} {r:List (Int×Int)} (h:G b=some (cl [.int .i64 m,.int .i64 x,v] T)) (hm:inI m) (hx:inI x) (hr:RunSeg T G v r e):RunSeg T G (.pointer (some ⟨b,0,none⟩)) ((m,x)::r) e
theorem RunSeg.up {T:TypeId}{G G':PH}{v e:Value}{r:List (Int×Int)}(h:RunSeg T G v r e)(hle:PLe G G'):RunSeg T G' v r e:=by
 induction h with
 | nil v=>exact .nil v
 | cons h hm hx _ ih=>exact .cons (hle _ _ h) hm hx ih
theorem RunSeg.snoc {T:TypeId}{G:PH}{v:Value}{r:List (Int×Int)}{b:Nat}{m x:Int}{e:Value}(h:RunSeg T G v r (.pointer (some ⟨b,0,none⟩)))(hb:G b=some (cl [.int .i64 m,.int .i64 x,e] T))(hm:inI m)(hx:inI x):RunSeg T G v (r++[(m,x)]) e:=by
 generalize hp:Value.pointer (some ⟨b,0,none⟩)=p at h
 induction h with
 | nil v=>subst hp;exact .cons hb hm hx (.nil e)
 | cons h hm' hx' _ ih=>exact .cons h hm' hx' (ih hp)
def RunP (T:TypeId)(G:PH)(v:Value)(r:List (Int×Int)):Prop:=RunSeg T G v r (.pointer none)
theorem RunP.up {T:TypeId}{G G':PH}{v:Value}{r:List (Int×Int)}(h:RunP T G v r)(hle:PLe G G'):RunP T G' v r:=RunSeg.up h hle
theorem RunP.nil {T:TypeId}{G:PH}:RunP T G (.pointer none) []:=RunSeg.nil _
theorem RunP.open {T:TypeId}{G:PH}{v:Value}{r:List (Int×Int)}(h:RunP T G v r):(v= .pointer none∧r=[])∨∃b m x v' r',v= .pointer (some ⟨b,0,none⟩)∧r=(m,x)::r'∧G b=some (cl [.int .i64 m,.int .i64 x,v'] T)∧inI m∧inI x∧RunP T G v' r':=by
 unfold RunP at h
 cases h with
 | nil=>exact .inl ⟨rfl,rfl⟩
 | cons h hm hx hr=>exact .inr ⟨_,_,_,_,_,rfl,rfl,h,hm,hx,hr⟩
theorem RunP.row {T:TypeId}{G:PH}{b:Nat}{m x:Int}{v:Value}(h:G b=some (cl [.int .i64 m,.int .i64 x,v] T)):PRow G b 0 [.int .i64 m,.int .i64 x,v]:=by
 intro j u hu
 exact⟨_,_,_,h,by simpa using hu⟩
section
variable {P:Program} {n:Nat} {ops:Array Oper} {Q:Post} {rest:List Oper} {L:Slots} {ds:List Deferred} {w w0:World} {G0:PH} {S:List Nat} {G:PH} {B:List Res} {ty:TypeId} {ps:String} {af:Array Edge}
theorem RunP.shape {T:TypeId}{G:PH}{v:Value}{r:List (Int×Int)}(h:RunP T G v r):∃p,v= .pointer p:=by
 rcases h.open with ⟨rfl,_⟩|⟨b,m,x,v',r',rfl,_⟩<;>exact⟨_,rfl⟩
theorem RunP.over {T:TypeId}{G:PH}{p:Option Addr}{r:List (Int×Int)}(h:RunP T G (.pointer p) r)(hp:p.isNone=true):r=[]:=by
 rcases h.open with ⟨_,h2⟩|⟨b,m,x,v',r',h1,_⟩
 ·exact h2
 ·cases h1;simp at hp
end
section
variable {P:Program} {n:Nat} {ops:Array Oper} {Q:Post} {rest:List Oper} {L:Slots} {ds:List Deferred} {w:World} {ty:TypeId} {ps:String} {af:Array Edge}
end
theorem nrm:(∀(p:Prop) [Decidable p],(decide p=true)=p)∧(∀(p:Prop) [Decidable p],(decide p=false)↔¬p)∧(∀{b:Bool},((!b)=true)=(b=false))∧(∀{b:Bool},((!b)=false)=(b=true)) ∧
  (∀{a b:Bool},((!a)=b)↔(a= !b))∧((!true)=false)∧((!false)=true)∧(∀{a b:Int},(¬a<b)↔b≤a)∧(∀{a b:Int},(¬a≤b)↔b<a)∧(∀(x y:Bool),((x&&y)=true)=(x=true∧y=true))∧(∀(x y:Bool),((x||y)=true)=(x=true∨y=true)) ∧
  (∀(x y:Bool),((x&&y)=false)=(x=false∨y=false))∧(∀(x y:Bool),((x||y)=false)=(x=false∧y=false))∧(∀{α:Type} [BEq α] [LawfulBEq α] {a b:α},((a==b)=true)↔a=b)∧(∀{α:Type} [BEq α] [LawfulBEq α] {x y:α},((x==y)=false)↔x≠y)∧(∀(b:Bool),decide (b=true)=b):=by
 refine⟨?_,?_,?_,?_,?_,?_,?_,?_,?_,?_,?_,?_,?_,?_,?_,?_⟩<;>intros<;>first|rfl|(simp only[decide_eq_true_eq,decide_eq_false_iff_not,Bool.not_eq_true',Bool.not_eq_false',Bool.not_eq_eq_eq_not,Bool.not_true,Bool.not_false,Int.not_lt,Int.not_le,Bool.and_eq_true,Bool.or_eq_true,Bool.and_eq_false_iff,Bool.or_eq_false_iff,beq_iff_eq,beq_eq_false_iff_ne,Bool.decide_eq_true])|simp
section
variable {P:Program} {n:Nat} {Q:Post} {L:Slots} {ds:List Deferred} {w:World} {ops:Array Oper} {y c:Code} {id:Nat} {l:List Oper}
theorem q1 (h:R P n l.toArray (K P y Q) l L ds w):R P n ops (K P (.seq (.region id l.toArray false) y) Q) [] L ds w:=R_nil (N_K (W_seq (W_region h)))
theorem q2 (h:R P n l.toArray (K P y Q) l L ds w):W P n Q (.seq (.region id l.toArray false) y) L ds w:=W_seq (W_region h)
theorem q3 (h:W P n Q c L ds w):R P n ops (K P c Q) [] L ds w:=R_nil (N_K h)
variable {d:Nat} {op:Op} {ty:TypeId} {ps:String} {af:Array Edge} {S:World→Prop} {f:Nat} {ls:Array Bool} {v:Value} {j:Nat} {b:Bool}
def rdy (l:List Oper)(ls:Array Bool)(i:Nat):Bool:=Region.noSelect l.toArray&&Region.free .any l.toArray ls i&&(Region.ready .any l.toArray ls).contains i
theorem RD_t (i:Nat)(hi:nth l i=some ⟨some d,op,ty,ps,af,none⟩)(hb:rdy l ls i=true)(hd:Nat.blt d n=true)(hv:∀w,S w→VAL P n L ds w ⟨some d,op,ty,ps,af,none⟩ v)
  (h:RD P n l Q S f (ls.setIfInBounds i true) ((d,v)::L) ds w):RD P n l Q S (f+1) ls L ds w:=by
 simp only[rdy,Bool.and_eq_true]at hb
 exact RD_take i hi hb.1.1 hb.1.2 hb.2 hd hv h
theorem RD_tg (i:Nat)(hi:nth l i=some ⟨some d,op,ty,ps,af,some (j,b)⟩)(hb:rdy l ls i=true)(hd:Nat.blt d n=true)(hy:∀a,FrL n L ds a→yielded l.toArray a.tmps j=some b)(hv:∀w,S w→VAL P n L ds w ⟨some d,op,ty,ps,af,none⟩ v)
  (h:RD P n l Q S f (ls.setIfInBounds i true) ((d,v)::L) ds w):RD P n l Q S (f+1) ls L ds w:=by
 simp only[rdy,Bool.and_eq_true]at hb
 exact RD_takeg i hi hb.1.1 hb.1.2 hb.2 hd hy hv h
end
theorem Z.{u}{α:Sort u}{a:α}:a=a:=rfl
theorem kR {p:Prop}(h:p:=by kernel_rfl):p:=h
theorem oM {p:Prop}(h:p:=by omega):p:=h
theorem oO {a b:Prop}(h:(a∧b):=by exact⟨by omega,by omega⟩):a∧b:=h
theorem aN {p:Prop}(h:p:=by first|assumption|rfl|(simp;done)|(simp;omega)|omega):p:=h
def odl (n d:Nat)(L:Slots)(x:Operand):Option Value:=cond (Nat.blt d n) (od L x) none
theorem odl_some {n d:Nat}{L:Slots}{x:Operand}{v:Value}(h:odl n d L x=some v):Nat.blt d n=true∧od L x=some v:=by
 unfold odl at h
 cases e:Nat.blt d n with
 | true=>rw[e]at h;exact⟨rfl,h⟩
 | false=>rw[e]at h;cases h
def guardOk (l : List Oper) (L : Slots) (i : Nat) (c : Bool) : Bool := match gs l i with
 | some t=>(match lk L t with |some (.bool b)=>(b==c)|_=>false)
 | none=>false
section
variable {P:Program} {n:Nat} {Q:Post} {L:Slots} {ds:List Deferred} {w:World} {ops:Array Oper} {l rest:List Oper} {ty:TypeId} {ps:String} {af:Array Edge} {d:Nat} {x:Operand} {v:Value} {op:Op} {i:Nat} {b:Bool} {S:World→Prop} {f:Nat} {ls:Array Bool}
theorem mV (h:odl n d L x=some v)(next:R P n ops Q rest ((d,v)::L) ds w):R P n ops Q (⟨some d,.move x,ty,ps,af,none⟩::rest) L ds w:=o_move (odl_some h).1 (odl_some h).2 next
theorem aG (h:odl n d L x=some v)(next:R P n ops Q rest ((d,v)::L) ds w):R P n ops Q (⟨some d,.assign x,ty,ps,af,none⟩::rest) L ds w:=o_assign (odl_some h).1 (odl_some h).2 next
theorem gR {dd:Option Nat}(h:guardOk l L i b=true)(next:R P n l.toArray Q (⟨dd,op,ty,ps,af,none⟩::rest) L ds w):R P n l.toArray Q (⟨dd,op,ty,ps,af,some (i,b)⟩::rest) L ds w:=by
 unfold guardOk at h
 cases e:gs l i with
 | none=>rw[e]at h;cases h
 | some t =>
  rw[e]at h
  simp only at h
  split at h
  ·rename_i c e2
   obtain rfl:c=b:=by simpa using h
   exact R_guard (yl e e2) next
  ·cases h
end
section
variable {n:Nat} {P:Program} {Q:Post} {L:Slots} {ds:List Deferred} {w:World} {fn:Func} {C:Ending→World→Prop}
theorem rt1 {t:Nat}{v:Value}(hr:fn.results= #[.tmp t])(h:lk L t=some v)(hR:C (.returned (tupleOf [v])) w):N n (bodyPost P fn C) .ret L [] w:=ret_gen (rs:=[.tmp t]) (vs:=[v]) hr ⟨h,trivial⟩ hR
theorem rt2 {t t2:Nat}{v v2:Value}(hr:fn.results= #[.tmp t,.tmp t2])(h:lk L t=some v)(h2:lk L t2=some v2)(hR:C (.returned (tupleOf [v,v2])) w):N n (bodyPost P fn C) .ret L [] w:=ret_gen (rs:=[.tmp t,.tmp t2]) (vs:=[v,v2]) hr ⟨h,h2,trivial⟩ hR
theorem W_lp {c:Code}(Lf:Slots)(J:Slots→World→Nat→Prop)(M0:Slots)(m0:Nat)(hf:Sub Lf L)(h0:J M0 w m0)
  (round:∀M w m,J M w m→W P n (LP n ds Lf J m Q) c (M++Lf) ds w) (hM:Sub M0 L:=by repeat (first|exact Sub.nil|refine Sub.cons rfl ?_)):W P n Q (.loop c) L ds w:=W_loop Lf J M0 m0 hf hM h0 round
theorem N_lp {Lf:Slots}{J:Slots→World→Nat→Prop}{m:Nat}{M:Slots}{m':Nat}(hJ:J M w m')(hm:m'<m)(hM:Sub M L:=by repeat (first|exact Sub.nil|refine Sub.cons rfl ?_))(hf:Sub Lf L:=by repeat (first|exact Sub.nil|refine Sub.cons rfl ?_)):N n (LP n ds Lf J m Q) .normal L ds w:=N_LP hJ hM hf hm
end
class UL (P:Program) (t:TypeId) (u:outParam TypeDesc):Prop where h:P.underlying t=some u
class SZ (P:Program) (t:TypeId) (n:outParam Nat):Prop where h:∀w,(Go.sizeOf t).run P w= .ok n w
class AG (P:Program) (t:TypeId) (b:outParam Bool):Prop where h:∀w,(isAgg t).run P w= .ok b w
class FA (P:Program) (t:TypeId) (i:Nat) (o:outParam Nat):Prop where h:∃fields f sz,(∀w,(underlying t).run P w= .ok (.struct fields) w)∧fields[i]? = some f∧(∀w,(Go.sizeOf f.type).run P w= .ok (sz+1) w)∧Nat.beq f.offset o=true
class CF (P:Program) (f:FuncId):Prop where h:∀args w,(callFunc f args).run P w= .ok (.enter f args) w
class ZV (P:Program) (t:TypeId) (l:outParam (List Value)):Prop where h:∃zv,(∀w,(zeroValue t).run P w= .ok zv w)∧lit (vc zv)=some l
def evCmp (b : BinOp) (k k' : IntKind) (p q : Int) : Option Value := if k = k' then (match b with
 | .lss=>some (.bool (decide (p<q)))
 | .leq=>some (.bool (decide (p≤q)))
 | .gtr=>some (.bool (decide (q<p)))
 | .geq=>some (.bool (decide (q≤p)))
 | .eql=>some (.bool (decide (p=q)))
 | .neq=>some (.bool (!decide (p=q)))
 | _=>none) else none
def evOp (L:Slots):Op→Option Value
 | .move x=>od L x
 | .assign x=>od L x
 | .nilCheck x => match od L x with
  | some (.pointer (some p))=>some (.pointer (some p))
  | _=>none
 | .extract x i => match od L x with
  | some (.tuple vs)=>vs[i]?
  | _=>none
 | .unOp .not _ x => match od L x with
  | some (.bool p)=>some (.bool (!p))
  | _=>none
 | .pick c x y => match od L c with
  | some (.bool true)=>od L x
  | some (.bool false)=>od L y
  | _=>none
 | .binOp b _ x y _ => match od L x, od L y with
  | some (.int k p),some (.int k' q)=>evCmp b k k' p q
  | _,_=>none
 | _=>none
section
variable {P:Program} {n:Nat} {L:Slots} {ds:List Deferred} {w:World} {ty:TypeId} {ps:String} {af:Array Edge}
theorem evOp_val {d:Nat}{op:Op}{v:Value}(h:evOp L op=some v):VAL P n L ds w ⟨some d,op,ty,ps,af,none⟩ v:=by
 unfold evOp at h
 split at h
 ·exact v_move h
 ·exact v_assign h
 ·split at h
  ·rename_i x p e;cases h;exact v_nilCheck e
  ·cases h
 ·split at h
  ·rename_i x i vs e;exact v_extract e h
  ·cases h
 ·split at h
  ·rename_i x p e;cases h;exact v_not e
  ·cases h
 ·split at h
  ·rename_i e;exact v_pick_t e h
  ·rename_i e;exact v_pick_f e h
  ·cases h
 ·split at h
  ·rename_i b _ x y _ _ _ k p k' q e1 e2
   unfold evCmp at h
   split at h
   ·rename_i hk;subst hk
    split at h<;>first|(cases h;first|exact v_lss e1 e2|exact v_leq e1 e2|exact v_gtr e1 e2|exact v_geq e1 e2|exact v_eql e1 e2|exact v_neq e1 e2)|cases h
   ·cases h
  ·cases h
 ·cases h
def evG (ol:List Oper)(L:Slots)(op:Op):Option (Nat×Bool)→Option Value
 | none=>evOp L op
 | some (j, b) => match gs ol j with
  | some t => (match lk L t with
   | some (.bool c) => (match c, b with
    | true,true=>evOp L op
    | false,false=>evOp L op
    | _,_=>some undef)
   | _=>none)
  | none=>none
theorem evG_or {ol:List Oper}{op:Op}{g:Option (Nat×Bool)}{v:Value}(h:evG ol L op g=some v) :
  (g=none∧evOp L op=some v)∨(∃j b t,g=some (j,b)∧gs ol j=some t∧lk L t=some (.bool b)∧evOp L op=some v)∨(∃j b t c,g=some (j,b)∧gs ol j=some t∧lk L t=some (.bool c)∧(c==b)=false∧v=undef):=by
 unfold evG at h
 split at h
 ·exact .inl ⟨rfl,h⟩
 ·rename_i j b
  split at h
  ·rename_i t e1
   split at h
   ·rename_i c e2
    split at h
    ·exact .inr (.inl ⟨j,_,t,rfl,e1,e2,h⟩)
    ·exact .inr (.inl ⟨j,_,t,rfl,e1,e2,h⟩)
    ·rename_i h1 h2
     refine .inr (.inr ⟨j,b,t,c,rfl,e1,e2,?_,by cases h;rfl⟩)
     cases c<;>cases b<;>simp_all
   ·cases h
  ·cases h
def evO (n : Nat) (ol : List Oper) (L : Slots) (o : Oper) : Option Slots := match o.dst with
 | some d => (match Nat.blt d n, evG ol L o.op o.guard with
  | true,some v=>some ((d,v)::L)
  | _,_=>none)
 | none=>none
def evK (n:Nat)(ol:List Oper):Nat→List Oper→Slots→Option (List Oper×Slots)
 | 0,l,L=>some (l,L)
 | _+1,[],_=>none
 | k + 1, o :: r, L => match evO n ol L o with
  | some L'=>evK n ol k r L'
  | none=>none
variable {ol:List Oper} {Q:Post} {rest:List Oper}
theorem evO_R {o:Oper}{L':Slots}(h:evO n ol L o=some L')(next:R P n ol.toArray Q rest L' ds w):R P n ol.toArray Q (o::rest) L ds w:=by
 obtain⟨dst,op,ty,ps,af,g⟩:=o
 unfold evO at h
 simp only at h
 split at h
 ·rename_i d
  split at h
  ·rename_i v hd hv
   cases h
   rcases evG_or hv with ⟨rfl,h1⟩|⟨j,b,t,rfl,h1,h2,h3⟩|⟨j,b,t,c,rfl,h1,h2,h3,rfl⟩
   ·exact R_run hd (evOp_val h1) next
   ·exact R_guard (yl h1 h2) (R_run hd (evOp_val h3) next)
   ·exact R_pass hd (yl_ne h1 h2 h3) next
  ·cases h
 ·cases h
theorem pe (k:Nat){l:List Oper}{L':Slots}(h:evK n ol k l L=some (rest,L'))(next:R P n ol.toArray Q rest L' ds w):R P n ol.toArray Q l L ds w:=by
 induction k generalizing l L with
 | zero=>unfold evK at h;cases h;exact next
 | succ k ih =>
  cases l with
  | nil=>unfold evK at h;cases h
  | cons o r =>
   unfold evK at h
   split at h
   ·rename_i L1 h1
    exact evO_R h1 (ih h)
   ·cases h
end
theorem Z2.{u,v}{α:Sort u}{β:Sort v}{a:α}{b:β}:a=a∧b=b:=⟨rfl,rfl⟩
theorem Z3.{u,v,x}{α:Sort u}{β:Sort v}{γ:Sort x}{a:α}{b:β}{c:γ}:a=a∧b=b∧c=c:=⟨rfl,rfl,rfl⟩
theorem Z4.{u,v,x,y}{α:Sort u}{β:Sort v}{γ:Sort x}{δ:Sort y}{a:α}{b:β}{c:γ}{d:δ}:a=a∧b=b∧c=c∧d=d:=⟨rfl,rfl,rfl,rfl⟩
theorem Z7 {α1 α2 α3 α4 α5 α6 α7:Type}{a1:α1}{a2:α2}{a3:α3}{a4:α4}{a5:α5}{a6:α6}{a7:α7}:a1=a1∧a2=a2∧a3=a3∧a4=a4∧a5=a5∧a6=a6∧a7=a7:=⟨rfl,rfl,rfl,rfl,rfl,rfl,rfl⟩
theorem Z8 {α1 α2 α3 α4 α5 α6 α7 α8:Type}{a1:α1}{a2:α2}{a3:α3}{a4:α4}{a5:α5}{a6:α6}{a7:α7}{a8:α8}:a1=a1∧a2=a2∧a3=a3∧a4=a4∧a5=a5∧a6=a6∧a7=a7∧a8=a8:=⟨rfl,rfl,rfl,rfl,rfl,rfl,rfl,rfl⟩
section
variable {P:Program} {n:Nat} {ops:Array Oper} {Q:Post} {rest:List Oper} {L:Slots} {ds:List Deferred} {w w0:World} {G0:PH} {S:List Nat} {G:PH} {B:List Res} {ty:TypeId} {ps:String} {af:Array Edge}
theorem fA (off:Nat){d i:Nat}{t:TypeId}{x:Operand}{b o:Nat}(h:odl n d L x=some (.pointer (some ⟨b,o,none⟩)))(next:R P n ops Q rest ((d,.pointer (some ⟨b,o+off,none⟩))::L) ds w) [hF:FA P t i off]:R P n ops Q (⟨some d,.fieldAddr t x i,ty,ps,af,none⟩::rest) L ds w:=by
 obtain⟨fields,f,sz,h1,h2,h3,h4⟩:=hF.h
 exact o_fieldAddr off h1 h2 h3 h4 (odl_some h).1 (odl_some h).2 next
theorem lB (k:Nat)(H:Hp w0 G0 S w G B){d:Nat}{t:TypeId}{x:Operand}{b o:Nat}{l:List Value}{e:TypeId}{v:Value}(h:odl n d L x=some (.pointer (some ⟨b,o,none⟩))∧nth B k=some (blk b (cl l e))∧nth l o=some v)(next:R P n ops Q rest ((d,v)::L) ds w) [hA:AG P t false]:R P n ops Q (⟨some d,.load t x,ty,ps,af,none⟩::rest) L ds w :=
 o_load_B k H hA.h (odl_some h.1).1 (odl_some h.1).2 h.2.1 h.2.2 next
theorem lA (k sz:Nat)(H:Hp w0 G0 S w G B){d:Nat}{t:TypeId}{x:Operand}{b o:Nat}{l l':List Value}{e:TypeId}(h:odl n d L x=some (.pointer (some ⟨b,o,none⟩))∧nth B k=some (blk b (cl l e))∧lit (slc l o sz)=some l'∧Nat.beq l'.length sz=true)(next:R P n ops Q rest ((d,.agg l'.toArray)::L) ds w) [hA:AG P t true] [hS:SZ P t sz]:R P n ops Q (⟨some d,.load t x,ty,ps,af,none⟩::rest) L ds w :=
 o_loadagg_B k H hA.h hS.h (odl_some h.1).1 (odl_some h.1).2 h.2.1 h.2.2.1 h.2.2.2 next
theorem lP (H:Hp w0 G0 S w G B){b o:Nat}{l:List Value}(hr:PRow G b o l)(j:Nat){d:Nat}{t:TypeId}{x:Operand}{v:Value}(h:nth l j=some v∧odl n d L x=some (.pointer (some ⟨b,o+j,none⟩)))(next:R P n ops Q rest ((d,v)::L) ds w) [hA:AG P t false]:R P n ops Q (⟨some d,.load t x,ty,ps,af,none⟩::rest) L ds w :=
 o_load_P H hA.h (odl_some h.2).1 (odl_some h.2).2 (hr j v (by rw[←nth_eq];exact h.1)) next
theorem lN {d:Nat}{x:Operand}{t e:TypeId}{a:Option Addr}{m c:Nat}(h:odl n d L x=some (.slice a m c))(next:R P n ops Q rest ((d,.int .i64 m)::L) ds w) [hT:UL P t (.slice e)]:R P n ops Q (⟨some d,.call ⟨.builtin .len,#[x],#[t]⟩,ty,ps,af,none⟩::rest) L ds w:=o_len_slice hT.h (odl_some h).1 (odl_some h).2 next
theorem lS {d:Nat}{x:Operand}{t:TypeId}{p:List UInt8}(h:odl n d L x=some (str p))(next:R P n ops Q rest ((d,.int .i64 p.length)::L) ds w) [hT:UL P t .string]:R P n ops Q (⟨some d,.call ⟨.builtin .len,#[x],#[t]⟩,ty,ps,af,none⟩::rest) L ds w:=o_len_str hT.h (odl_some h).1 (odl_some h).2 next
theorem aD {d:Nat}{x y:Operand}{t u:TypeId}{p q:Int}(h:odl n d L x=some (.int .i64 p)∧od L y=some (.int .i64 q))(next:R P n ops Q rest ((d,.int .i64 (p+q))::L) ds w)(hr:inI (p+q):=by exact⟨by omega,by omega⟩):R P n ops Q (⟨some d,.binOp .add t x y u,ty,ps,af,none⟩::rest) L ds w:=o_add (odl_some h.1).1 (odl_some h.1).2 h.2 hr next
theorem iP {α:Type}{lim:Nat}{E:PH→α→List Value→Prop}{d:Nat}{t e:TypeId}{x y:Operand}{a:Option Addr}{xs:List α}{m c sz:Nat}{k:Int}(i:Nat)(hr:RdS lim E sz G (.slice a m c) xs)(h:Nat.blt d n=true∧od L x=some (.slice a m c)∧od L y=some (.int .i64 k))(hk:k=(i:Int))
  (next:∀b o z cs,xs[i]? = some z→E G z cs→PRow G b o cs→R P n ops Q rest ((d,.pointer (some ⟨b,o,none⟩))::L) ds w) [hU:UL P t (.slice e)] [hS:SZ P e sz] (hi:i<xs.length:=by first|omega|(simp;omega)):R P n ops Q (⟨some d,.indexAddr t x y,ty,ps,af,none⟩::rest) L ds w :=
 o_index_P i hr hU.h hS.h h.1 h.2.1 h.2.2 hk hi next
theorem xal (H:Hp w0 G0 S w G B){d:Nat}{e:TypeId}{l:List Value} [hz:ZV P e l] (hd:Nat.blt d n=true)
  (next:∀b w',w.heap.size≤b→Hp w0 G0 S w' G (blk b (cl l e)::B)→R P n ops Q rest ((d,.pointer (some ⟨b,0,none⟩))::L) ds w'):R P n ops Q (⟨some d,.alloc e,ty,ps,af,none⟩::rest) L ds w:=by
 obtain⟨zv,h1,h2⟩:=hz.h
 exact o_alloc H h1 hd h2 next
theorem xst (k : Nat) (H : Hp w0 G0 S w G B) {t : TypeId} {x y : Operand} {b o sz : Nat} {l : List Value} {e : TypeId} {v : Value} [hS : SZ P t sz] {l' : List Value} {B' : List Res} (h : od L x = some (.pointer (some ⟨b, o, none⟩)) ∧ od L y = some v ∧ nth B k = some (blk b (cl l e)) ∧ Nat.beq (vc v).length sz = true ∧ Nat.ble (o + (vc v).length) l.length = true ∧ ((vc v).all fun u => u.oneCell') = true ∧ lit (setCs l o (vc v)) = some l' ∧ lit (setN B k (blk b (cl l' e))) = some B')
  (next:∀w',Hp w0 G0 S w' G B'→R P n ops Q rest L ds w'):R P n ops Q (⟨none,.store t x y,ty,ps,af,none⟩::rest) L ds w:=by
 obtain⟨h1,h2,h3,h4,h5,h6,h7,h8⟩:=h
 exact o_store_B k H hS.h h1 h2 h3 h4 h5 h6 h7 h8 next
theorem xbs (H:Hp w0 G0 S w G B){d:Nat}{t e:TypeId}{m sz:Nat}{xs:List (Nat×Operand)}{pvs:List (Nat×Value)}{z l':List Value} [hU:UL P t (.slice e)] [hS:SZ P e sz] [hz:ZV P e z]
  (h:Nat.beq z.length sz=true∧Nat.blt 0 sz=true∧Nat.ble (m*sz) 16777216=true∧Nat.blt d n=true∧odps L xs=some pvs∧(pvs.all fun x=>Nat.blt x.1 m)=true∧(fillL (plS m 0 sz) (rep m z) pvs).bind lit=some l')
  (next:∀b w',w.heap.size≤b→Hp w0 G0 S w' G (blk b (cl l' e)::B)→R P n ops Q rest ((d,.slice (some ⟨b,0,none⟩) m m)::L) ds w'):R P n ops Q (⟨some d,.buildSlice t m xs.toArray,ty,ps,af,none⟩::rest) L ds w:=by
 obtain⟨zv,g1,g2⟩:=hz.h
 obtain⟨h1,h2,h3,h4,h5,h6,h7⟩:=h
 exact o_buildSlice H hU.h hS.h (fun w=>⟨zv,g1 w,(lit_eq g2).symm⟩) h1 h2 h3 h4 h5 h6 h7 next
theorem xr {d:Nat}{f:FuncId}{xs:List Operand}{ts:Array TypeId}{vs:List Value}{v:Value}(H:Hp w0 G0 S w G B)(h:Nat.blt d n=true∧ods L xs=some vs)(hc:Calls P f vs.toArray w (Rets w v))
  (next:∀w',Hp w0 G0 S w' G B→R P n ops Q rest ((d,v)::L) ds w') [hf:CF P f]:R P n ops Q (⟨some d,.call ⟨.value (.func f),xs.toArray,ts⟩,ty,ps,af,none⟩::rest) L ds w :=
 o_call hf.h h.1 h.2 hc (fun e w' h=>⟨v,h.1,next w' (H.step h.2)⟩)
theorem xc {d:Nat}{f:FuncId}{xs:List Operand}{ts:Array TypeId}{vs:List Value}{C:Ending→World→Prop}(h:Nat.blt d n=true∧ods L xs=some vs)(hc:Calls P f vs.toArray w C)(next:∀e w',C e w'→∃v,e= .returned v∧R P n ops Q rest ((d,v)::L) ds w') [hf:CF P f] :
  R P n ops Q (⟨some d,.call ⟨.value (.func f),xs.toArray,ts⟩,ty,ps,af,none⟩::rest) L ds w:=o_call hf.h h.1 h.2 hc next
variable {l:List Oper} {K:World→Prop} {f:Nat} {ls:Array Bool} {G':PH} {B' Bs:List Res}
theorem q4 {i : Nat} (H : Hp w0 G0 S w G' B') (hle : PLe G G') (h : RD P n l Q (fun w => Kn w G Bs) f (ls.setIfInBounds i true) L ds w)
  (hs:SubL Bs B':=by repeat (first|exact SubL.nil|refine SubL.cons 0 rfl ?_|refine SubL.cons 1 rfl ?_|refine SubL.cons 2 rfl ?_|refine SubL.cons 3 rfl ?_|refine SubL.cons 4 rfl ?_|refine SubL.cons 5 rfl ?_|refine SubL.cons 6 rfl ?_|refine SubL.cons 7 rfl ?_|refine SubL.cons 8 rfl ?_|refine SubL.cons 9 rfl ?_|refine SubL.cons 10 rfl ?_|refine SubL.cons 11 rfl ?_|refine SubL.cons 12 rfl ?_|refine SubL.cons 13 rfl ?_|refine SubL.cons 14 rfl ?_|refine SubL.cons 15 rfl ?_|refine SubL.cons 16 rfl ?_|refine SubL.cons 17 rfl ?_|refine SubL.cons 18 rfl ?_|refine SubL.cons 19 rfl ?_|refine SubL.cons 20 rfl ?_|refine SubL.cons 21 rfl ?_|refine SubL.cons 22 rfl ?_|refine SubL.cons 23 rfl ?_|refine SubL.cons 24 rfl ?_|refine SubL.cons 25 rfl ?_|refine SubL.cons 26 rfl ?_)) :
  R P n ops (DK P l Q (fun w=>Kn w G Bs) f ls i) [] L ds w:=R_nil (N_DK (Kn.of' H hle hs) h)
theorem r1 (i:Nat){o:Oper}(hi:nth l i=some o)(h:R P n l.toArray (DK P l Q K f ls i) [o] L ds w)(hr:Region.ready .any l.toArray ls=[i]:=by kernel_rfl):RD P n l Q K (f+1) ls L ds w:=RD_run [i] hr rfl (RDs.cons hi h RDs.nil)
theorem r2 (i j:Nat){o o':Oper}(hi:nth l i=some o∧nth l j=some o')(h:R P n l.toArray (DK P l Q K f ls i) [o] L ds w)(h':R P n l.toArray (DK P l Q K f ls j) [o'] L ds w)(hr:Region.ready .any l.toArray ls=[i,j]:=by kernel_rfl):RD P n l Q K (f+1) ls L ds w:=RD_run [i,j] hr rfl (RDs.cons hi.1 h (RDs.cons hi.2 h' RDs.nil))
theorem rz (h:N n Q .normal L ds w)(hr:Region.ready .any l.toArray ls=[]:=by kernel_rfl):RD P n l Q K f ls L ds w:=RD_done hr h
def gOK (l:List Oper)(L:Slots):Option (Nat×Bool)→Bool
 | none=>true
 | some (j,b)=>guardOk l L j b
def odg (n d:Nat)(l:List Oper)(L:Slots)(g:Option (Nat×Bool))(x:Operand):Option Value:=cond (Nat.blt d n&&gOK l L g) (od L x) none
theorem odg_some {n d:Nat}{l:List Oper}{L:Slots}{g:Option (Nat×Bool)}{x:Operand}{v:Value}(h:odg n d l L g x=some v):Nat.blt d n=true∧gOK l L g=true∧od L x=some v:=by
 unfold odg at h
 cases e:(Nat.blt d n&&gOK l L g) with
 | true=>rw[e]at h;simp only[Bool.and_eq_true]at e;exact⟨e.1,e.2,h⟩
 | false=>rw[e]at h;cases h
theorem RD_gv {i d:Nat}{op:Op}{g:Option (Nat×Bool)}{v:Value}(hi:nth l i=some ⟨some d,op,ty,ps,af,g⟩)(hd:Nat.blt d n=true)(hg:gOK l L g=true)(hv:∀w,K w→VAL P n L ds w ⟨some d,op,ty,ps,af,none⟩ v)(h:RD P n l Q K f (ls.setIfInBounds i true) ((d,v)::L) ds w)(hb:rdy l ls i=true):RD P n l Q K (f+1) ls L ds w:=by
 cases g with
 | none=>exact RD_t i hi hb hd hv h
 | some jb =>
  obtain⟨j,b⟩:=jb
  unfold gOK guardOk at hg
  simp only at hg
  split at hg
  ·rename_i t e
   split at hg
   ·rename_i c e2
    obtain rfl:c=b:=by simpa using hg
    exact RD_tg i hi hb hd (yl e e2) hv h
   ·cases hg
  ·cases hg
theorem dE (i : Nat) {d : Nat} {op : Op} {g : Option (Nat × Bool)} {v : Value} (h : nth l i = some ⟨some d, op, ty, ps, af, g⟩ ∧ cond (Nat.blt d n) (evG l L op g) none = some v) (next : RD P n l Q K f (ls.setIfInBounds i true) ((d, v) :: L) ds w) (hb : rdy l ls i = true := by kernel_rfl) : RD P n l Q K (f + 1) ls L ds w := by
 obtain⟨hi,he⟩:=h
 have hd:Nat.blt d n=true:=by
  cases e:Nat.blt d n with
  | true=>rfl
  | false=>rw[e]at he;cases he
 rw[hd]at he
 rcases evG_or he with ⟨rfl,h1⟩|⟨j,b,t,rfl,h1,h2,h3⟩|⟨j,b,t,c,rfl,h1,h2,h3,rfl⟩
 ·exact RD_t i hi hb hd (fun _ _=>evOp_val h1) next
 ·exact RD_tg i hi hb hd (yl h1 h2) (fun _ _=>evOp_val h3) next
 ·simp only[rdy,Bool.and_eq_true]at hb
  exact RD_pass i hi hb.1.1 hb.1.2 hb.2 hd (yl_ne h1 h2 h3) next
theorem dF (i off : Nat) {d k : Nat} {t : TypeId} {x : Operand} {g : Option (Nat × Bool)} {b o : Nat} (h : nth l i = some ⟨some d, .fieldAddr t x k, ty, ps, af, g⟩ ∧ odg n d l L g x = some (.pointer (some ⟨b, o, none⟩))) (next : RD P n l Q K f (ls.setIfInBounds i true) ((d, .pointer (some ⟨b, o + off, none⟩)) :: L) ds w) [hF : FA P t k off] (hb : rdy l ls i = true := by kernel_rfl) : RD P n l Q K (f + 1) ls L ds w := by
 obtain⟨h1,h2,h3⟩:=odg_some h.2
 obtain⟨fields,f,sz,g1,g2,g3,g4⟩:=hF.h
 exact RD_gv h.1 h1 h2 (fun _ _=>v_fieldAddr off g1 g2 g3 g4 h3) next hb
theorem dN (i : Nat) {d : Nat} {t e : TypeId} {x : Operand} {g : Option (Nat × Bool)} {a : Option Addr} {m c : Nat} (h : nth l i = some ⟨some d, .call ⟨.builtin .len, #[x], #[t]⟩, ty, ps, af, g⟩ ∧ odg n d l L g x = some (.slice a m c)) (next : RD P n l Q K f (ls.setIfInBounds i true) ((d, .int .i64 m) :: L) ds w) [hT : UL P t (.slice e)] (hb : rdy l ls i = true := by kernel_rfl) : RD P n l Q K (f + 1) ls L ds w := by
 obtain⟨h1,h2,h3⟩:=odg_some h.2
 exact RD_gv h.1 h1 h2 (fun _ _=>v_len_slice hT.h h3) next hb
theorem dI {b o : Nat} {a : Option Addr} (i sz j : Nat) (ha : a = some ⟨b, o, none⟩) {d : Nat} {t e : TypeId} {x y : Operand} {g : Option (Nat × Bool)} {m c : Nat} {k : Int} (h : nth l i = some ⟨some d, .indexAddr t x y, ty, ps, af, g⟩ ∧ odg n d l L g x = some (.slice a m c) ∧ od L y = some (.int .i64 k)) (hk : k = (j : Int)) (next : RD P n l Q K f (ls.setIfInBounds i true) ((d, .pointer (some ⟨b, o + j * sz, none⟩)) :: L) ds w) [hU : UL P t (.slice e)] [hS : SZ P e sz] (hi : j < m := by omega) (hb : rdy l ls i = true := by kernel_rfl) : RD P n l Q K (f + 1) ls L ds w := by
 obtain⟨h1,h2,h3⟩:=odg_some h.2.1
 exact RD_gv h.1 h1 h2 (fun _ _=>v_index_P ha hU.h hS.h h3 h.2.2 hk hi) next hb
theorem dP {b o : Nat} {cl : List Value} (i : Nat) (hr : PRow G b o cl) (j : Nat) {d : Nat} {t : TypeId} {x : Operand} {g : Option (Nat × Bool)} {v : Value} (h : nth l i = some ⟨some d, .load t x, ty, ps, af, g⟩ ∧ nth cl j = some v ∧ odg n d l L g x = some (.pointer (some ⟨b, o + j, none⟩))) (next : RD P n l Q (fun w => Kn w G Bs) f (ls.setIfInBounds i true) ((d, v) :: L) ds w) [hA : AG P t false] (hb : rdy l ls i = true := by kernel_rfl) : RD P n l Q (fun w => Kn w G Bs) (f + 1) ls L ds w := by
 obtain⟨h1,h2,h3⟩:=odg_some h.2.2
 exact RD_gv h.1 h1 h2 (fun _ hK=>v_load_P hK hA.h h3 (hr j v (by rw[←nth_eq];exact h.2.1))) next hb
theorem dB (i k : Nat) {d : Nat} {t : TypeId} {x : Operand} {g : Option (Nat × Bool)} {b o : Nat} {c : List Value} {e : TypeId} {v : Value} (h : nth l i = some ⟨some d, .load t x, ty, ps, af, g⟩ ∧ odg n d l L g x = some (.pointer (some ⟨b, o, none⟩)) ∧ nth Bs k = some (blk b (Fw.cl c e)) ∧ nth c o = some v) (next : RD P n l Q (fun w => Kn w G Bs) f (ls.setIfInBounds i true) ((d, v) :: L) ds w) [hA : AG P t false] (hb : rdy l ls i = true := by kernel_rfl) : RD P n l Q (fun w => Kn w G Bs) (f + 1) ls L ds w := by
 obtain⟨h1,h2,h3⟩:=odg_some h.2.1
 exact RD_gv h.1 h1 h2 (fun _ hK=>v_load_B k hK hA.h h3 h.2.2.1 h.2.2.2) next hb
end
theorem Hp.tF {w0 w:World}{G0 G:PH}{S:List Nat}{B:List Res}(H:Hp w0 G0 S w G B)(k:Nat){r:Res}(hk:nth B k=some r:=by exact rfl):Hp w0 G0 S w G (r::delN B k):=H.toFront hk
theorem Hp.dl {w0 w:World}{G0 G:PH}{S:List Nat}{B:List Res}(H:Hp w0 G0 S w G B)(k:Nat){r:Res}(hk:nth B k=some r:=by exact rfl):Hp w0 G0 S w G (delN B k):=H.del hk
theorem opH {G:PH}{x:BHeld}{cs:List Value}(h:heldE G x cs):∃a m c,cs=[.int .i64 x.id,.slice a m c,.int .i64 x.uses]∧inI x.id∧RdI G (.slice a m c) x.bytes∧inI x.uses∧m=x.bytes.length∧x.bytes.length≤1099511627776:=by
 obtain⟨a,m,c,e,h1,h2,h3⟩:=h
 exact⟨a,m,c,e,h1,h2,h3,h2.len,h2.lim⟩
theorem opI {G:PH}{x:BItem}{cs:List Value}(h:itemE G x cs):∃a m c,cs=[str x.path,.bool x.dir,.slice a m c]∧x.path.length≤16777216∧RdI G (.slice a m c) x.ids∧m=x.ids.length∧x.ids.length≤1099511627776:=by
 obtain⟨a,m,c,e,h1,h2⟩:=h
 exact⟨a,m,c,e,h1,h2,h2.len,h2.lim⟩
theorem opS {G:PH}{x:BSnap}{cs:List Value}(h:snapE G x cs):∃a m c,cs=[str x.name,.slice a m c]∧x.name.length≤16777216∧RdItems G (.slice a m c) x.tree∧m=x.tree.length∧x.tree.length≤1099511627776:=by
 obtain⟨a,m,c,e,h1,h2⟩:=h
 exact⟨a,m,c,e,h1,h2,h2.len,h2.lim⟩
theorem opD {G:PH}{x:BDisk}{cs:List Value}(h:diskE G x cs):∃a m c a' m' c' a'' m'' c'',cs=[.slice a m c,.slice a' m' c',.slice a'' m'' c'']∧RdH G (.slice a m c) x.store∧RdItems G (.slice a' m' c') x.tree∧RdSn G (.slice a'' m'' c'') x.snaps∧(m=x.store.length∧x.store.length≤1099511627776)∧(m'=x.tree.length∧x.tree.length≤1099511627776)∧m''=x.snaps.length∧x.snaps.length≤1099511627776:=by
 obtain⟨a,m,c,a',m',c',a'',m'',c'',e,h1,h2,h3⟩:=h
 exact⟨a,m,c,a',m',c',a'',m'',c'',e,h1,h2,h3,⟨h1.len,h1.lim⟩,⟨h2.len,h2.lim⟩,h3.len,h3.lim⟩
theorem opV {G:PH}{x:BVol}{cs:List Value}(h:volE G x cs):∃a m c a' m' c',cs=[.slice a m c,.slice a' m' c']∧RdH G (.slice a m c) x.store∧RdItems G (.slice a' m' c') x.tree∧(m=x.store.length∧x.store.length≤1099511627776)∧m'=x.tree.length∧x.tree.length≤1099511627776:=by
 obtain⟨a,m,c,a',m',c',e,h1,h2⟩:=h
 exact⟨a,m,c,a',m',c',e,h1,h2,⟨h1.len,h1.lim⟩,h2.len,h2.lim⟩
class OpE {α:Type} (E:PH→α→List Value→Prop) (R:outParam (PH→α→List Value→Prop)):Prop where op:∀{G x cs},E G x cs→R G x cs
theorem ox {α:Type}{E R:PH→α→List Value→Prop}{G:PH}{x:α}{cs:List Value}(h:E G x cs) [i:OpE E R]:R G x cs:=i.op h
instance:OpE heldE (fun G (x:BHeld) cs=>∃a m c,cs=[.int .i64 x.id,.slice a m c,.int .i64 x.uses]∧inI x.id∧RdI G (.slice a m c) x.bytes∧inI x.uses∧m=x.bytes.length∧x.bytes.length≤1099511627776):=⟨opH⟩
instance:OpE itemE (fun G (x:BItem) cs=>∃a m c,cs=[str x.path,.bool x.dir,.slice a m c]∧x.path.length≤16777216∧RdI G (.slice a m c) x.ids∧m=x.ids.length∧x.ids.length≤1099511627776):=⟨opI⟩
instance:OpE snapE (fun G (x:BSnap) cs=>∃a m c,cs=[str x.name,.slice a m c]∧x.name.length≤16777216∧RdItems G (.slice a m c) x.tree∧m=x.tree.length∧x.tree.length≤1099511627776):=⟨opS⟩
instance:OpE volE (fun G (x:BVol) cs=>∃a m c a' m' c',cs=[.slice a m c,.slice a' m' c']∧RdH G (.slice a m c) x.store∧RdItems G (.slice a' m' c') x.tree∧(m=x.store.length∧x.store.length≤1099511627776)∧m'=x.tree.length∧x.tree.length≤1099511627776):=⟨opV⟩
instance:OpE diskE (fun G (x:BDisk) cs=>∃a m c a' m' c' a'' m'' c'',cs=[.slice a m c,.slice a' m' c',.slice a'' m'' c'']∧RdH G (.slice a m c) x.store∧RdItems G (.slice a' m' c') x.tree∧RdSn G (.slice a'' m'' c'') x.snaps∧(m=x.store.length∧x.store.length≤1099511627776)∧(m'=x.tree.length∧x.tree.length≤1099511627776)∧m''=x.snaps.length∧x.snaps.length≤1099511627776):=⟨opD⟩
def quotaE:PH→BQuota→List Value→Prop:=fun _ x cs=>cs=[str x.dir,.int .i64 x.most]∧x.dir.length≤16777216∧inI x.most
instance:MonoE quotaE:=⟨fun _ h=>h⟩
theorem rl2 {a b:Value}{cs':List Value}(h:RL [a,b] cs'):∃u v,cs'=[u,v]∧R1 a u∧R1 b v:=by
 rcases cs' with _|⟨u,_|⟨v,_|⟨w,r⟩⟩⟩
 ·exact h.elim
 ·exact h.2.elim
 ·exact⟨u,v,rfl,h.1,h.2.1⟩
 ·exact h.2.2.elim
instance : StE quotaE := ⟨fun {_ _ x cs cs'} hg hr h => by
 obtain⟨rfl,h1,h2⟩:=h
 obtain⟨u,v,rfl,k1,k2⟩:=rl2 hr
 obtain rfl:=r1_str k1
 obtain⟨p,rfl,hp⟩:=r1_int k2 h2
 exact⟨⟨x.dir,p⟩,rfl,h1,hp⟩⟩
def opE:PH→BOp→List Value→Prop:=fun G x cs=>∃a m c,cs=[.int .i64 x.kind,str x.path,.slice a m c]∧inI x.kind∧x.path.length≤16777216∧RdI G (.slice a m c) x.bytes
instance:MonoE opE:=⟨fun hle ⟨a,m,c,h1,h2,h3,h4⟩=>⟨a,m,c,h1,h2,h3,h4.up hle⟩⟩
abbrev RdOp:=RdS LIM opE 3
instance : StE opE := ⟨fun {_ _ x cs cs'} hg hr h => by
 obtain⟨a,m,c,rfl,h1,h2,h3⟩:=h
 obtain⟨u,v,w,rfl,k1,k2,k3⟩:=rl3 hr
 obtain⟨p,rfl,hp⟩:=r1_int k1 h1
 obtain rfl:=r1_str k2
 obtain rfl:=r1_slice k3
 obtain⟨ys,_,hy⟩:=h3.st hg
 exact⟨⟨p,x.path,ys⟩,a,m,c,rfl,hp,h2,hy⟩⟩
def partE:PH→BPart→List Value→Prop:=fun G x cs=>∃a m c,cs=[.int .i64 x.kind,str x.path,.bool x.dir,.slice a m c]∧inI x.kind∧x.path.length≤16777216∧RdI G (.slice a m c) x.bytes
instance:MonoE partE:=⟨fun hle ⟨a,m,c,h1,h2,h3,h4⟩=>⟨a,m,c,h1,h2,h3,h4.up hle⟩⟩
abbrev RdPart:=RdS LIM partE 4
theorem rl4 {a b c d:Value}{cs':List Value}(h:RL [a,b,c,d] cs'):∃u v w z,cs'=[u,v,w,z]∧R1 a u∧R1 b v∧R1 c w∧R1 d z:=by
 rcases cs' with _|⟨u,r⟩
 ·exact h.elim
 ·obtain⟨v,w,z,rfl,k⟩:=rl3 h.2
  exact⟨u,v,w,z,rfl,h.1,k⟩
instance : StE partE := ⟨fun {_ _ x cs cs'} hg hr h => by
 obtain⟨a,m,c,rfl,h1,h2,h3⟩:=h
 obtain⟨u,v,w,z,rfl,k1,k2,k3,k4⟩:=rl4 hr
 obtain⟨p,rfl,hp⟩:=r1_int k1 h1
 obtain rfl:=r1_str k2
 obtain rfl:=r1_bool k3
 obtain rfl:=r1_slice k4
 obtain⟨ys,_,hy⟩:=h3.st hg
 exact⟨⟨p,x.path,x.dir,ys⟩,a,m,c,rfl,hp,h2,hy⟩⟩
theorem opOp {G:PH}{x:BOp}{cs:List Value}(h:opE G x cs):∃a m c,cs=[.int .i64 x.kind,str x.path,.slice a m c]∧inI x.kind∧x.path.length≤16777216∧RdI G (.slice a m c) x.bytes∧m=x.bytes.length∧x.bytes.length≤1099511627776:=by
 obtain⟨a,m,c,rfl,h1,h2,h3⟩:=h
 exact⟨a,m,c,rfl,h1,h2,h3,h3.len,h3.lim⟩
instance:OpE opE (fun G (x:BOp) cs=>∃a m c,cs=[.int .i64 x.kind,str x.path,.slice a m c]∧inI x.kind∧x.path.length≤16777216∧RdI G (.slice a m c) x.bytes∧m=x.bytes.length∧x.bytes.length≤1099511627776):=⟨opOp⟩
theorem opPt {G:PH}{x:BPart}{cs:List Value}(h:partE G x cs):∃a m c,cs=[.int .i64 x.kind,str x.path,.bool x.dir,.slice a m c]∧inI x.kind∧x.path.length≤16777216∧RdI G (.slice a m c) x.bytes∧m=x.bytes.length∧x.bytes.length≤1099511627776:=by
 obtain⟨a,m,c,rfl,h1,h2,h3⟩:=h
 exact⟨a,m,c,rfl,h1,h2,h3,h3.len,h3.lim⟩
instance:OpE partE (fun G (x:BPart) cs=>∃a m c,cs=[.int .i64 x.kind,str x.path,.bool x.dir,.slice a m c]∧inI x.kind∧x.path.length≤16777216∧RdI G (.slice a m c) x.bytes∧m=x.bytes.length∧x.bytes.length≤1099511627776):=⟨opPt⟩
end Fw
namespace Sp
open Fw Nd
section
variable {d:BDisk} {p:Bs}
theorem drop14 (hd:DiskValid d=true){i:Nat}{x:BItem}(hi:atI d.tree p=some i)(hx:d.tree[i]? = some x)(k:Int):l14Drop d ⟨k,p,x.dir,[]⟩=DiskDrop d p:=by
 obtain⟨y,h1,h2⟩:=(uniq_at (dv_tree hd).asc (p:=p)).1 i hi
 rw[hx]at h1
 cases h1
 unfold l14Drop DiskDrop
 rw[if_pos hd,if_pos]
 simp only[decide_true,Bool.and_true,List.any_eq_true]
 exact⟨x,List.mem_of_getElem? hx,by simp[h2]⟩
theorem make14 (hd:DiskValid d=true)(h:atI d.tree p=none):l14Make d ⟨1,p,true,[]⟩=DiskDir d p:=by
 unfold l14Make DiskDir
 rw[if_pos (by simp[h]),if_pos rfl,if_pos rfl,if_pos hd]
end
section
variable {d:BDisk} {x:BPart}
theorem sdrop_at (h:atI d.tree x.path=none):l14Drop d x=none:=by
 unfold l14Drop
 split
 ·rename_i hc
  simp only[Bool.and_eq_true,List.any_eq_true,decide_eq_true_eq]at hc
  obtain⟨⟨y,hy,hp,_⟩,_⟩:=hc
  have:=List.findIdx?_eq_none_iff.1 h y hy
  simp[hp]at this
 ·rfl
theorem sdrop_dir (hd:DiskValid d=true){i:Nat}{y:BItem}(hi:atI d.tree x.path=some i)(hy:d.tree[i]? = some y)(hne:y.dir≠x.dir):l14Drop d x=none:=by
 unfold l14Drop
 split
 ·rename_i hc
  simp only[Bool.and_eq_true,List.any_eq_true,decide_eq_true_eq]at hc
  obtain⟨⟨z,hz,hp,hzd⟩,_⟩:=hc
  obtain⟨y',g1,g2⟩:=(uniq_at (dv_tree hd).asc (p:=x.path)).1 i hi
  rw[hy]at g1
  cases g1
  have:=asc_uniq (dv_tree hd).asc hz (List.mem_of_getElem? hy) (hp.trans g2.symm)
  subst this
  exact absurd hzd hne
 ·rfl
theorem sdrop_is {i:Nat}{y:BItem}(hi:atI d.tree x.path=some i)(hy:d.tree[i]? = some y)(hp:y.path=x.path)(hyd:y.dir=x.dir)(hb:x.bytes=[]):l14Drop d x=(l11Drop d.store d.tree x.path).map (withVol d):=by
 unfold l14Drop
 rw[if_pos]
 simp only[Bool.and_eq_true,List.any_eq_true,decide_eq_true_eq]
 exact⟨⟨y,List.mem_of_getElem? hy,hp,hyd⟩,hb⟩
theorem at_path {l:List BItem}{p:Bs}{i:Nat}{y:BItem}(hi:atI l p=some i)(hy:l[i]? = some y):y.path=p:=by
 obtain⟨h1,h2,_⟩:=List.findIdx?_eq_some_iff_getElem.1 hi
 rw[List.getElem?_eq_getElem h1]at hy
 simp only[Option.some.injEq]at hy
 rw[←hy]
 simpa using h2
theorem file_at (hd:DiskValid d=true){i:Nat}{y:BItem}{p:Bs}(hi:atI d.tree p=some i)(hy:d.tree[i]? = some y):fileAt d.tree p= !y.dir:=by
 have hp:=at_path hi hy
 unfold fileAt
 rw[Bool.eq_iff_iff,List.any_eq_true]
 constructor
 ·rintro⟨z,hz,hc⟩
  simp only[Bool.and_eq_true,decide_eq_true_eq]at hc
  have:=asc_uniq (dv_tree hd).asc hz (List.mem_of_getElem? hy) (hc.1.trans hp.symm)
  rw[←this];exact hc.2
 ·intro h
  exact⟨y,List.mem_of_getElem? hy,by simp[hp,h]⟩
theorem file_no {p:Bs}(h:atI d.tree p=none):fileAt d.tree p=false:=by
 unfold fileAt
 rw[List.any_eq_false]
 intro z hz
 have:=List.findIdx?_eq_none_iff.1 h z hz
 simp only[decide_eq_false_iff_not]at this
 simp[this]
end
def runD (d:BDisk)(l:List BPart):Option BDisk:=foldB l14Drop (l.filter isGone).reverse (some d)
def runM (o:Option BDisk)(l:List BPart):Option BDisk:=foldB l14Make (l.filter (fun x=> !isGone x)) o
theorem run_eq (d:BDisk)(l:List BPart):StreamRun d l=if DiskValid d then runM (runD d l) l else none:=rfl
theorem runD_cons {d : BDisk} {x : BPart} {l : List BPart} : runD d (x :: l) = if x.kind = 2 then (runD d l).bind (fun e => l14Drop e x) else runD d l := by
 unfold runD
 by_cases h:x.kind=2
 ·rw[if_pos h,List.filter_cons_of_pos (by simp[isGone,h]),List.reverse_cons,foldB_app]
  cases foldB l14Drop (l.filter isGone).reverse (some d)<;>rfl
 ·rw[if_neg h,List.filter_cons_of_neg (by simp[isGone,h])]
theorem runM_snoc {o : Option BDisk} {l : List BPart} {x : BPart} : runM o (l ++ [x]) = if x.kind = 2 then runM o l else (runM o l).bind (fun e => l14Make e x) := by
 unfold runM
 rw[List.filter_append]
 by_cases h:x.kind=2
 ·rw[if_pos h,List.filter_cons_of_neg (by simp[isGone,h]),List.filter_nil,List.append_nil]
 ·rw[if_neg h,List.filter_cons_of_pos (by simp[isGone,h]),List.filter_nil,foldB_app]
  cases foldB l14Make (l.filter (fun x=> !isGone x)) o<;>rfl
theorem runM_none {l:List BPart}:runM none l=none:=foldB_none _
section
variable {d d1:BDisk} {p:Bs} {o:BOp}
theorem ddir_vol (h:DiskDir d p=some d1):∃v,l11Dir d.store d.tree p=some v∧d1=withVol d v:=by
 unfold DiskDir at h
 split at h
 ·cases e:l11Dir d.store d.tree p with
  | none=>rw[e]at h;cases h
  | some v=>rw[e]at h;exact⟨v,rfl,(Option.some.inj h).symm⟩
 ·cases h
theorem ddrop_vol (h:DiskDrop d p=some d1):∃v,l11Drop d.store d.tree p=some v∧d1=withVol d v:=by
 unfold DiskDrop at h
 split at h
 ·cases e:l11Drop d.store d.tree p with
  | none=>rw[e]at h;cases h
  | some v=>rw[e]at h;exact⟨v,rfl,(Option.some.inj h).symm⟩
 ·cases h
end
section
variable {d:BDisk} {x:BPart} {i:Nat} {y:BItem}
theorem dr_tree (hi:atI d.tree x.path=some i)(hy:d.tree[i]? = some y)(hyd:y.dir=x.dir)(hb:x.bytes=[])(h:TreeDrop d.tree x.path=none):l14Drop d x=none:=by
 rw[sdrop_is hi hy (at_path hi hy) hyd hb]
 simp[l11Drop,h]
theorem dr_yes (hi:atI d.tree x.path=some i)(hy:d.tree[i]? = some y)(hyd:y.dir=x.dir)(hb:x.bytes=[])(h:(TreeDrop d.tree x.path).isSome=true):l14Drop d x=some ⟨(FileFree d.store y.ids).getD [],(TreeDrop d.tree x.path).getD [],d.snaps⟩:=by
 obtain⟨t,ht⟩:=Option.isSome_iff_exists.1 h
 rw[sdrop_is hi hy (at_path hi hy) hyd hb]
 simp[l11Drop,ht,hi,hy,withVol]
end
theorem l5_nat {t:List BItem}{p:Bs}(h:0≤l5At t p):∃(i:Nat) (y:BItem),atI t p=some i∧l5At t p=(i:Int)∧i<t.length∧t[i]? = some y:=by
 obtain⟨i,x,h1,h2,h3,h4,_⟩:=at_nat (l:=t) (p:=fun(z:BItem)=>decide (z.path=p)) h
 exact⟨i,x,h1,h2,h3,h4⟩
section
variable {d:BDisk} {x:BPart}
theorem l5_none {t:List BItem}{p:Bs}(h:¬0≤l5At t p):atI t p=none:=at_none (by (have h:¬0≤optI (atI t p):=h);show optI (atI t p)<0;omega)
theorem mk_not (hd:DiskValid d=true)(hk:x.kind=1∨x.kind=3)(h:decide (0≤l5At d.tree x.path)≠decide (x.kind=3)):l14Make d x=none:=by
 unfold l14Make
 by_cases ha:0≤l5At d.tree x.path
 ·obtain⟨i,y,hi,_⟩:=l5_nat ha
  have h3:¬x.kind=3:=fun e=>h (by simp[ha,e])
  simp[h3,hi]
 ·have h3 : x.kind = 3 := by
   rcases hk with e|e
   ·exact absurd (by simp[ha,e]) h
   ·exact e
  simp[h3,file_no (l5_none ha)]
theorem mk_dir (hd:DiskValid d=true){i:Nat}{y:BItem}(hi:atI d.tree x.path=some i)(hy:d.tree[i]? = some y)(h3:x.kind=3)(h:x.dir=true∨y.dir=true):l14Make d x=none:=by
 unfold l14Make
 rcases h with h|h
 ·simp[h3,h]
 ·simp[h3,file_at hd hi hy,h]
theorem mk_file1 (h3:x.kind=1)(ha:¬0≤l5At d.tree x.path)(h:x.dir=false):l14Make d x=DiskWrite d x.path x.bytes:=by
 unfold l14Make
 simp[h3,l5_none ha,h]
theorem mk_file3 (hd:DiskValid d=true){i:Nat}{y:BItem}(hi:atI d.tree x.path=some i)(hy:d.tree[i]? = some y)(h3:x.kind=3)(h:x.dir=false)(hyd:y.dir=false):l14Make d x=DiskWrite d x.path x.bytes:=by
 unfold l14Make
 simp[h3,file_at hd hi hy,h,hyd]
theorem mk_new (h3 : x.kind = 1) (ha : ¬ 0 ≤ l5At d.tree x.path) (h : x.dir = true) : l14Make d x = if x.bytes = [] then (TreePut d.tree ⟨x.path, true, []⟩).map (fun t => ⟨d.store, t, d.snaps⟩) else none := by
 unfold l14Make
 simp only[h3,l5_none ha,h,l11Dir]
 cases TreePut d.tree ⟨x.path,true,[]⟩<;>simp[withVol]
end
section
variable {d:BDisk} {x:BPart}
theorem mk_dir1 (h3:x.kind=3)(h:x.dir=true):l14Make d x=none:=by
 unfold l14Make
 simp[h3,h]
theorem mk_ge (h:decide (0≤l5At d.tree x.path)=decide (x.kind=3)):0≤l5At d.tree x.path↔x.kind=3:=by simpa using h
end
section
variable {d e e1:BDisk} {l:List BOp} {o:BOp} {k:Nat}
theorem jgo_some (h:l[k]? = some o)(hr:OpRun e o=some e1):jgo e (l.drop k)=((jgo e1 (l.drop (k+1))).1,(jgo e1 (l.drop (k+1))).2+1):=by
 have hk:=(List.getElem?_eq_some_iff.1 h)
 rw[List.drop_eq_getElem_cons hk.1,hk.2]
 simp only[jgo,hr]
def JAt (d:BDisk)(l:List BOp)(k:Nat)(e:BDisk):Prop:=jgo d l=((jgo e (l.drop k)).1,(jgo e (l.drop k)).2+k)
theorem JAt.zero:JAt d l 0 d:=by simp[JAt]
theorem JAt.step (h:JAt d l k e)(hz:l[k]? = some o)(hr:OpRun e o=some e1):JAt d l (k+1) e1:=by
 unfold JAt at h ⊢
 rw[h,jgo_some hz hr]
 simp;omega
theorem JAt.done (h:JAt d l k e)(hk:l.length≤k):jgo d l=(e,k):=by
 unfold JAt at h
 rw[h,List.drop_of_length_le hk]
 simp[jgo]
end
section
variable {l c s r:List BItem} {f t:Bs}
end
section
variable {d:BDisk} {p:Bs} {n m:Int} {q:BQuota}
variable {l:List BQuota}
end
end Sp
namespace Fw
open Go
section
variable {w0 w:World} {G0 G:PH} {S:List Nat} {B:List Res}
end
theorem RdNs.up {G G':PH}{l:List Nd}(h:RdNs G l)(hle:PLe G G'):RdNs G' l:=RdNs.upm hle h
abbrev sC (l:List UInt8):List Value:=l.map fun b=>Value.int .u8 b.toNat
def buf (e:TypeId)(v:Value)(l:List UInt8):Res where
 fp := match v with
  | .slice (some a) _ _=>[a.block]
  | _=>[]
 pred h:=(v= .slice none 0 0∧l=[]) ∨
  ∃b cap C,v= .slice (some ⟨b,0,none⟩) l.length cap∧h b=some (.cells C e (0,0))∧l.length≤cap∧cap≤maxLen∧C.size=cap∧C.toList.take l.length=sC l
 loc h h' e p:=by
  rcases p with p|⟨b,cap,C,rfl,p1,p2⟩
  ·exact .inl p
  ·exact .inr ⟨b,cap,C,rfl,by rw[←e b (by simp)];exact p1,p2⟩
 dom h p b hb:=by
  rcases p with ⟨rfl,_⟩|⟨b',cap,C,rfl,p1,_⟩
  ·simp at hb
  ·simp at hb;subst hb;exact⟨_,p1⟩
section
variable {P:Program} {w w0:World} {G0:PH} {S:List Nat} {G:PH} {B:List Res}
end
section
variable {P:Program} {n:Nat} {ops:Array Oper} {Q:Post} {rest:List Oper} {L:Slots} {ds:List Deferred} {w w0:World} {G0:PH} {S:List Nat} {G:PH} {B:List Res}
variable {ty:TypeId} {ps:String} {af:Array Edge} {ρ:Go.Shelf.Ren}
end
end Fw
namespace Fw
open Go Go.RowKit
section
variable {P:Program} {Q:Exit→Act→World→Prop}
variable {m n:Nat} {ops:Array Oper} {l:List Oper} {L:Slots} {ds:List Deferred} {w:World}
variable {ty:TypeId} {ps:String} {af:Array Edge} {rest:List Oper}
section
variable {fn:Func} {C:Ending→World→Prop}
theorem retM {rs : List ResultVar} {vs : List Value} (hr : fn.results = rs.toArray) (hv : RV P w L rs vs) (hR : C (.returned (tupleOf vs)) w) : N n (bodyPostM Fence.wide 3 P fn C) .ret L [] w := fun a ha => by
 show LeavesInM Fence.wide 3 P fn a.tmps C a.defers .returning w
 rw[ha.defers]
 exact⟨_,run_results' hr ha hv,hR⟩
end
end
section
variable {w0 w:World} {G0:PH} {S:List Nat} {G:PH}
theorem acc_cells {e:TypeId}{sz:Nat}{v:Value}{k:Nat}{cs:List Value}{h:Nat→Option Obj}(hp:(acc e sz v k cs).pred h):∀b,b ∈ (acc e sz v k cs).fp→∃c,h b=some (.cells c e (0,0)):=by
 intro b hb
 rcases hp.2 with ⟨rfl,_⟩|⟨g,cap,C,rfl,h1,_⟩
 ·simp[acc_fp_nil]at hb
 ·simp[acc_fp]at hb
  subst hb
  exact⟨_,h1⟩
theorem Hp.turn {b:Nat}{tl te:TypeId}{v:Value}{sz k:Nat}{cs:List Value}{W W':World}{row:Option Nat}(H:Hp w0 G0 S W G [blk b (cl [v] tl),acc te sz v k cs])(hg:W.grownBy W' row)
  (hr:∀r,row=some r→w.heap.size≤r∧∃o:Obj,W.heap[r]? = some o∧o.isCells=false) (hw:w0.heap.size≤w.heap.size) (hG:PSub G w):Hp w0 G0 S W' G [blk b (cl [v] tl),acc te sz v k cs]:=by
 have hsame:∀c o,W.heap[c]? = some o→(o.isCells=true∨c<w.heap.size)→W'.heap[c]? = some o:=by
  intro c o hc ho
  rw[hg.block c (Array.getElem?_eq_some_iff.1 hc).1 ?_]
  ·exact hc
  ·intro e
   obtain⟨h1,o',h2,h3⟩:=hr c e.symm
   rw[hc]at h2
   cases h2
   rcases ho with ho|ho
   ·rw[ho]at h3;cases h3
   ·omega
 refine⟨hg.os.trans H.os,hg.tape.trans H.tape,hg.output.trans H.output,Nat.le_trans H.size hg.size,?_,?_,H.le,H.old,?_,H.nd⟩
 ·intro c hc hS
  rw[←H.ext c hc hS]
  have hlt:c<W.heap.size:=Nat.lt_of_lt_of_le hc H.size
  exact hg.block c hlt (fun e=>by obtain⟨h1,_⟩:=hr c e.symm;omega)
 ·intro c o hc
  exact hsame c o (H.sub c o hc) (.inr (hG.lt hc))
 ·intro r hm
  obtain⟨h1,h2⟩:=H.own r hm
  refine⟨?_,h2⟩
  rcases List.mem_cons.1 hm with rfl|hm
  ·exact hsame b _ h1 (.inl rfl)
  ·rw[List.mem_singleton]at hm
   subst hm
   refine(acc te sz v k cs).loc _ _ (fun c hc=>?_) h1
   obtain⟨C,hC⟩:=acc_cells h1 c hc
   exact hC.trans (hsame c _ hC (.inl rfl)).symm
end
end Fw
namespace Fw
structure BTurn where
 snap:Bs
 kind:Int
end Fw
namespace Fw
open Go Go.RowKit
def turnE:PH→BTurn→List Value→Prop:=fun _ x cs=>cs=[str x.snap,.int .i64 x.kind]
instance:MonoE turnE:=⟨fun _ h=>h⟩
section
variable {w0 w:World} {G0:PH} {S:List Nat} {G:PH} {B:List Res}
theorem Hp.putD {D b:Nat}{tl te:TypeId}{v:Value}{sz k:Nat}{cs:List Value}{W:World}(H:Hp w0 G0 S W G [blk b (cl [v] tl),acc te sz v k cs])(hw:w0.heap.size≤w.heap.size)(hG:PSub G w)(hD:w.heap.size≤D)(hK:W.heap[D]? = some (.deferred (some []))) :
  Hp w0 G0 S (W.putObj D (.deferred none)) G [blk b (cl [v] tl),acc te sz v k cs] :=
 H.turn (w:=w) (grownBy_putObj' W D _) (fun r e=>by cases e;exact⟨hD,_,hK,rfl⟩) hw hG
end
end Fw
namespace Fw
open Go
section
variable {H:Type} {enc:TypeId×Value→H} {P:Program} {W:World}
structure Bulk (bk:DataW H→Nat) (bka:List (DataW H)→Nat):Prop where
 slice:∀es sp,bk (.slice es sp)=bka es+bka sp+1
 agg:∀ps,bk (.agg ps)=bka ps+1
 str:∀b,bk (.lit (.string b))=b.length+1
 nil:bka []=0
 cons:∀d r,bka (d::r)=bk d+bka r
 pos:∀d,1≤bk d
variable {bk:DataW H→Nat} {bka:List (DataW H)→Nat}
theorem Bulk.len (hb:Bulk bk bka):∀l,l.length≤bka l
 | []=>by simp
 | d :: r => by
  have h1:=hb.len r
  have h2:=hb.pos d
  rw[hb.cons]
  simp;omega
theorem Bulk.mem (hb:Bulk bk bka){d:DataW H}:∀{l:List (DataW H)},d ∈ l→bk d≤bka l
 | [],h=>by simp at h
 | e :: r, h => by
  rw[hb.cons]
  rcases List.mem_cons.1 h with rfl|h
  ·omega
  ·have:=hb.mem h
   omega
theorem Bulk.memF (hb : Bulk bk bka) {l : List (DataW H × List MemPlace)} {i : Nat} (hi : i < l.length) : bk (l[i]).1 ≤ bka (l.map (fun x => x.1)) :=
 hb.mem (List.mem_map.2 ⟨l[i],List.getElem_mem hi,rfl⟩)
abbrev Reads (enc:TypeId×Value→H) (P:Program) (W:World) (n:Nat) (t:TypeId) (cs:List Value):Option (DataW H×List MemPlace):=DataW.trod enc P W 0 (fun _=>true) true n t cs
def Elem (enc:TypeId×Value→H)(P:Program)(W:World)(bk:DataW H→Nat)(t:TypeId)(sz:Nat){α:Type}(E:PH→α→List Value→Prop):Prop :=
 ∀n cs x,Reads enc P W n t cs=some x→bk x.1≤1048576→∃a,cs.length=sz∧E (PAll W) a cs
theorem elem_int {t:TypeId}(ht:P.underlying t=some (.int .i64)):Elem enc P W bk t 1 intE:=by
 intro n cs x h _
 obtain⟨i,rfl,_,hw⟩:=DataW.trod_int ht h
 refine⟨i,rfl,rfl,?_⟩
 simp[Lit.wf,IntKind.min,IntKind.max,IntKind.signed,IntKind.bits]at hw
 exact⟨by omega,by omega⟩
theorem elem_str (hb:Bulk bk bka){t:TypeId}(ht:P.underlying t=some .string):Elem enc P W bk t 1 strE:=by
 intro n cs x h hx
 obtain⟨s,rfl,rfl,_⟩:=DataW.trod_string ht h
 simp only[hb.str]at hx
 exact⟨s.data.toList,rfl,rfl,by omega⟩
theorem elem_bool {t : TypeId} (ht : P.underlying t = some .bool) : Elem enc P W bk t 1 (fun _ (x : Bool) cs => cs = [.bool x]) := by
 intro n cs x h _
 obtain⟨b,rfl,_⟩:=DataW.trod_bool ht h
 exact⟨b,rfl,rfl⟩
theorem list_of {α:Type}{Q:Nat→α→Prop}:∀n,(∀i,i<n→∃x,Q i x)→∃xs:List α,xs.length=n∧∀i x,xs[i]? = some x→Q i x
 | 0,_=>⟨[],rfl,by simp⟩
 | n + 1, h => by
  obtain⟨xs,h1,h2⟩:=list_of n (fun i hi=>h i (by omega))
  obtain⟨x,hx⟩:=h n (by omega)
  refine⟨xs++[x],by simp[h1],fun i y hy=>?_⟩
  by_cases hi:i<n
  ·rw[List.getElem?_append_left (by omega)]at hy
   exact h2 i y hy
  ·rw[List.getElem?_append_right (by omega)]at hy
   have:i=n:=by
    have:=(List.getElem?_eq_some_iff.1 hy).1
    simp at this
    omega
   subst this
   simp[h1]at hy
   subst hy
   exact hx
theorem mapM_at {α β:Type}{f:α→Option β}:∀{l:List α} {r:List β},l.mapM f=some r→∀(i:Nat) (x:α),l[i]? = some x→f x=r[i]?
 | [],r,h,i,x,hx=>by simp at hx
 | y :: t, r, h, i, x, hx => by
  simp only[List.mapM_cons,Option.bind_eq_bind,Option.bind_eq_some_iff,Option.pure_def,Option.some.injEq]at h
  obtain⟨z,h1,u,h2,rfl⟩:=h
  cases i with
  | zero=>simp at hx;subst hx;simpa using h1
  | succ i=>simp only[List.getElem?_cons_succ]at hx ⊢;exact mapM_at h2 i x hx
theorem pcell_of {b o:Nat}{v:Value}(h:W.cell? ⟨b,o,none⟩=some v):PCell (PAll W) b o v:=by
 unfold World.cell? at h
 unfold PCell PAll
 split at h
 ·rename_i C e fz hb
  exact⟨C,e,fz,hb,by simpa using h⟩
 ·cases h
theorem elem_slice {α:Type}{E:PH→α→List Value→Prop}(hb:Bulk bk bka){t e:TypeId}{sz:Nat}(ht:P.underlying t=some (.slice e))(hz:P.cellsOf e=sz)(hsz:0<sz)(hE:Elem enc P W bk e sz E) :
  ∀n cs x,Reads enc P W n t cs=some x→bk x.1≤1048576→∃v xs,cs=[v]∧RdS LIM E sz (PAll W) v xs:=by
 intro n cs x h hx
 rcases DataW.trod_slice ht h with ⟨rfl,_⟩|⟨a,len,cap,elems,rest,m,_,rfl,rfl,_,h2,_,h4,h5,_,_⟩
 ·exact⟨_,[],rfl,RdS.nil _ _ _⟩
 ·simp only[hb.slice]at hx
  rw[hz]at h5
  have hle:=hb.len (elems.map (·.1))
  rw[List.length_map]at hle
  have hel:∀i,i<len→∃y:α,∃cs,cs.length=sz∧E (PAll W) y cs∧∀j v,cs[j]? = some v→W.cell? ((a.add (i*sz)).add j)=some v:=by
   intro i hi
   have h6:=h5 i hi
   rw[List.getElem?_eq_getElem (by omega)]at h6
   obtain⟨cs,k1,k2⟩:=Option.bind_eq_some_iff.1 h6
   obtain⟨y,k3,k4⟩:=hE m cs _ k2 (Nat.le_trans (hb.memF (by omega)) (by omega))
   refine⟨y,cs,k3,k4,fun j v hj=>?_⟩
   unfold World.cells? at k1
   split at k1
   ·have hjl:=(List.getElem?_eq_some_iff.1 hj).1
    rw[←hj]
    exact mapM_at k1 j j (by rw[List.getElem?_range (by omega)])
   ·cases k1
  obtain⟨xs,x1,x2⟩:=list_of len hel
  refine⟨_,xs,rfl,some a,cap,by rw[x1],by omega,by simp only[LIM];omega,?_⟩
  by_cases h0:len=0
  ·exact .inl (List.eq_nil_of_length_eq_zero (by omega))
  ·right
   have hspot:a.spot=none:=by
    obtain⟨y,cs,y1,_,y2⟩:=hel 0 (by omega)
    have:=World.cell?_spot (y2 0 cs[0] (by simp))
    simpa [Addr.add] using this
   obtain⟨b,o,sp⟩:=a
   simp only at hspot
   subst hspot
   refine⟨b,o,rfl,fun i y hy=>?_⟩
   obtain⟨cs,c1,c2,c3⟩:=x2 i y hy
   refine⟨cs,c1,c2,fun j v hj=>pcell_of ?_⟩
   have:=c3 j v hj
   rwa [Addr.add_lit,Addr.add_lit]at this
theorem struct_fields (hb:Bulk bk bka){t:TypeId}{fs:Array Field}{k:Nat}(ht:P.underlying t=some (.struct fs))(hk:P.cellsOf t=k)(hall:∀(i:Nat) (f:Field),fs[i]? = some f→f.offset=i∧P.cellsOf f.type=1) :
  ∀n cs x,Reads enc P W n t cs=some x→bk x.1≤1048576→cs.length=k∧∀(i:Nat) (f:Field),fs[i]? = some f→i<k→∃v y m,cs[i]? = some v∧Reads enc P W m f.type [v]=some y∧bk y.1≤1048576:=by
 intro n cs x h hx
 obtain⟨xs,m,_,rfl,h1,h2,h3⟩:=DataW.trod_struct ht h
 simp only[hb.agg]at hx
 rw[hk]at h1
 refine⟨h1,fun i f hf hi=>?_⟩
 have hfi:=(Array.getElem?_eq_some_iff.1 hf).1
 obtain⟨ho,hc⟩:=hall i f hf
 have h4:=h3 i f hf
 rw[ho,hc,List.getElem?_eq_getElem (by omega)]at h4
 have e : (cs.drop i).take 1 = [cs[i]'(by omega)] := by
  rw[List.drop_eq_getElem_cons (by omega)]
  rfl
 rw[e]at h4
 exact⟨_,_,m,List.getElem?_eq_getElem (by omega),h4,Nat.le_trans (hb.memF (by omega)) (by omega)⟩
theorem two_of {cs:List Value}{a b:Value}(h:cs.length=2)(h0:cs[0]? = some a)(h1:cs[1]? = some b):cs=[a,b]:=by
 match cs,h with
 | [x,y],_=>simp at h0 h1;simp[h0,h1]
theorem three_of {cs:List Value}{a b c:Value}(h:cs.length=3)(h0:cs[0]? = some a)(h1:cs[1]? = some b)(h2:cs[2]? = some c):cs=[a,b,c]:=by
 match cs,h with
 | [x,y,z],_=>simp at h0 h1 h2;simp[h0,h1,h2]
variable {ti ts tb tis:TypeId}
theorem elem_held (hb:Bulk bk bka){t:TypeId}{f0 f1 f2:Field}(ht:P.underlying t=some (.struct #[f0,f1,f2]))(hk:P.cellsOf t=3)(hall:∀(i:Nat) (f:Field),#[f0,f1,f2][i]? = some f→f.offset=i∧P.cellsOf f.type=1)
  (e0:f0.type=ti) (e1:f1.type=tis) (e2:f2.type=ti) (hi:P.underlying ti=some (.int .i64)) (his:P.underlying tis=some (.slice ti)) (hz:P.cellsOf ti=1):Elem enc P W bk t 3 heldE:=by
 intro n cs x h hx
 obtain⟨hl,hf⟩:=struct_fields hb ht hk hall n cs x h hx
 obtain⟨v0,y0,m0,a0,b0,c0⟩:=hf 0 f0 rfl (by omega)
 obtain⟨v1,y1,m1,a1,b1,c1⟩:=hf 1 f1 rfl (by omega)
 obtain⟨v2,y2,m2,a2,b2,c2⟩:=hf 2 f2 rfl (by omega)
 rw[e0]at b0;rw[e1]at b1;rw[e2]at b2
 obtain⟨i0,_,g0,g0'⟩:=elem_int (bk:=bk) hi m0 _ _ b0 c0
 obtain⟨i2,_,g2,g2'⟩:=elem_int (bk:=bk) hi m2 _ _ b2 c2
 obtain⟨v,xs,g1,g1'⟩:=elem_slice hb his hz (by omega) (elem_int hi) m1 _ _ b1 c1
 simp only[List.cons.injEq,and_true]at g0 g1 g2
 subst g0 g1 g2
 obtain⟨a,c,rfl⟩:=g1'.shape
 exact⟨⟨i0,xs,i2⟩,hl,_,_,_,three_of hl a0 a1 a2,g0',g1',g2'⟩
theorem elem_item (hb:Bulk bk bka){t:TypeId}{f0 f1 f2:Field}(ht:P.underlying t=some (.struct #[f0,f1,f2]))(hk:P.cellsOf t=3)(hall:∀(i:Nat) (f:Field),#[f0,f1,f2][i]? = some f→f.offset=i∧P.cellsOf f.type=1)
  (e0:f0.type=ts) (e1:f1.type=tb) (e2:f2.type=tis) (hs:P.underlying ts=some .string) (hbo:P.underlying tb=some .bool) (hi:P.underlying ti=some (.int .i64)) (his:P.underlying tis=some (.slice ti)) (hz:P.cellsOf ti=1):Elem enc P W bk t 3 itemE:=by
 intro n cs x h hx
 obtain⟨hl,hf⟩:=struct_fields hb ht hk hall n cs x h hx
 obtain⟨v0,y0,m0,a0,b0,c0⟩:=hf 0 f0 rfl (by omega)
 obtain⟨v1,y1,m1,a1,b1,c1⟩:=hf 1 f1 rfl (by omega)
 obtain⟨v2,y2,m2,a2,b2,c2⟩:=hf 2 f2 rfl (by omega)
 rw[e0]at b0;rw[e1]at b1;rw[e2]at b2
 obtain⟨i0,_,g0,g0'⟩:=elem_str hb hs m0 _ _ b0 c0
 obtain⟨i1,_,g1⟩:=elem_bool (bk:=bk) hbo m1 _ _ b1 c1
 obtain⟨v,xs,g2,g2'⟩:=elem_slice hb his hz (by omega) (elem_int hi) m2 _ _ b2 c2
 simp only[List.cons.injEq,and_true]at g0 g1 g2
 subst g0 g1 g2
 obtain⟨a,c,rfl⟩:=g2'.shape
 exact⟨⟨i0,i1,xs⟩,hl,_,_,_,three_of hl a0 a1 a2,g0',g2'⟩
theorem elem_snap (hb:Bulk bk bka){t tit tits:TypeId}{f0 f1:Field}(ht:P.underlying t=some (.struct #[f0,f1]))(hk:P.cellsOf t=2)(hall:∀(i:Nat) (f:Field),#[f0,f1][i]? = some f→f.offset=i∧P.cellsOf f.type=1)
  (e0:f0.type=ts) (e1:f1.type=tits) (hs:P.underlying ts=some .string) (his:P.underlying tits=some (.slice tit)) (hz:P.cellsOf tit=3) (hit:Elem enc P W bk tit 3 itemE):Elem enc P W bk t 2 snapE:=by
 intro n cs x h hx
 obtain⟨hl,hf⟩:=struct_fields hb ht hk hall n cs x h hx
 obtain⟨v0,y0,m0,a0,b0,c0⟩:=hf 0 f0 rfl (by omega)
 obtain⟨v1,y1,m1,a1,b1,c1⟩:=hf 1 f1 rfl (by omega)
 rw[e0]at b0;rw[e1]at b1
 obtain⟨i0,_,g0,g0'⟩:=elem_str hb hs m0 _ _ b0 c0
 obtain⟨v,xs,g1,g1'⟩:=elem_slice hb his hz (by omega) hit m1 _ _ b1 c1
 simp only[List.cons.injEq,and_true]at g0 g1
 subst g0 g1
 obtain⟨a,c,rfl⟩:=g1'.shape
 exact⟨⟨i0,xs⟩,hl,_,_,_,two_of hl a0 a1,g0',g1'⟩
theorem elem_disk (hb:Bulk bk bka){t the thes tit tits tsn tsns:TypeId}{f0 f1 f2:Field}(ht:P.underlying t=some (.struct #[f0,f1,f2]))(hk:P.cellsOf t=3)(hall:∀(i:Nat) (f:Field),#[f0,f1,f2][i]? = some f→f.offset=i∧P.cellsOf f.type=1)
  (e0:f0.type=thes) (e1:f1.type=tits) (e2:f2.type=tsns) (h0:P.underlying thes=some (.slice the)) (h1:P.underlying tits=some (.slice tit)) (h2:P.underlying tsns=some (.slice tsn)) (z0:P.cellsOf the=3) (z1:P.cellsOf tit=3) (z2:P.cellsOf tsn=2)
  (hh:Elem enc P W bk the 3 heldE) (hit:Elem enc P W bk tit 3 itemE) (hsn:Elem enc P W bk tsn 2 snapE):Elem enc P W bk t 3 diskE:=by
 intro n cs x h hx
 obtain⟨hl,hf⟩:=struct_fields hb ht hk hall n cs x h hx
 obtain⟨v0,y0,m0,a0,b0,c0⟩:=hf 0 f0 rfl (by omega)
 obtain⟨v1,y1,m1,a1,b1,c1⟩:=hf 1 f1 rfl (by omega)
 obtain⟨v2,y2,m2,a2,b2,c2⟩:=hf 2 f2 rfl (by omega)
 rw[e0]at b0;rw[e1]at b1;rw[e2]at b2
 obtain⟨u0,x0,g0,g0'⟩:=elem_slice hb h0 z0 (by omega) hh m0 _ _ b0 c0
 obtain⟨u1,x1,g1,g1'⟩:=elem_slice hb h1 z1 (by omega) hit m1 _ _ b1 c1
 obtain⟨u2,x2,g2,g2'⟩:=elem_slice hb h2 z2 (by omega) hsn m2 _ _ b2 c2
 simp only[List.cons.injEq,and_true]at g0 g1 g2
 subst g0 g1 g2
 obtain⟨a,c,rfl⟩:=g0'.shape
 obtain⟨a',c',rfl⟩:=g1'.shape
 obtain⟨a'',c'',rfl⟩:=g2'.shape
 exact⟨⟨x0,x1,x2⟩,hl,_,_,_,_,_,_,_,_,_,three_of hl a0 a1 a2,g0',g1',g2'⟩
theorem same_of_ext {w w':World}(h:Ext w w'){p:MemPlace}(hp:p.block<w.heap.size):w.sameAt w' p:=by
 have hb:=h.block p.block hp
 cases p with
 | cell b off=>simp only[World.sameAt,World.cell?];simp only[MemPlace.block]at hb;rw[hb]
 | map b=>simp only[World.sameAt];simpa [MemPlace.block] using hb
end
end Fw
namespace Fw
open Go Go.ChangeShapes Go.WideShapes
section
variable {H:Type} {enc:TypeId×Value→H} {P:Program}
theorem trodAll_stays (hl:laidOutB P=true){W W':World}{sp':Nat→Bool}:∀{ts:List TypeId} {vs:List Value} {ds:List (DataW H)} {ps:List MemPlace},(∀t,t ∈ ts→P.readableRec t=true∧t<P.types.size) →
  DataW.TrodAll enc P W 0 (fun _=>true) true ts vs ds ps→(∀p ∈ ps,W.sameAt W' p)→(∀p ∈ ps,sp' p.block=true)→DataW.TrodAll enc P W' 0 sp' true ts vs ds ps
 | [], _, _, _, _, h, _, _ => by
  obtain⟨rfl,rfl,rfl⟩:=trodAll_nil h
  rfl
 | t :: ts, _, _, _, hr, h, hs, hq => by
  obtain⟨v,vs1,d,ds1,a,b,rfl,rfl,rfl,h1,h2⟩:=trodAll_cons h
  exact ⟨a, b, WideElems.Trod_stays hl (hr t (by simp)).1 (hr t (by simp)).2 h1 (fun p hp => hs p (by simp [hp])) (fun p hp => hq p (by simp [hp])),
   trodAll_stays hl (fun t ht=>hr t (by simp[ht])) h2 (fun p hp=>hs p (by simp[hp])) (fun p hp=>hq p (by simp[hp])),rfl⟩
theorem kept_of_ext {W W':World}(h:Ext W W')(may:MemPlace→Prop):W.keptBut W' may:=by
 refine⟨h.os,h.output,fun i hi=>?_⟩
 rw[h.block i hi]
 cases W.heap[i]? with
 | none=>simp
 | some o=>cases o<;>simp
theorem law_post {f:Func}{s:ChangeSpec}{apart fresh handsOn again:Bool}{W W':World}{args:Array Value}{ds gs:List (DataW H)}{before:List MemPlace}(hl:laidOutB P=true)(hr:∀t,t ∈ f.params.toList→P.readableRec t=true∧t<P.types.size)
  (hv:s.vars=[]) (hW:DataW.Whole enc P f.params.toList s.vars apart W args.toList ds gs before) (hx:Ext W W') (hfr:(s.fn H (ds++gs)).results=[.lit (.bool true)]) (hfa:(s.fn H (ds++gs)).args=ds) (hfv:(s.fn H (ds++gs)).vars=[])
  (hres:∀(b:Nat) (sp:Nat→Bool) (hd:Bool),DataW.TrodAll enc P W' b sp hd f.resultTypes.toList ((Value.bool true).resultList f.resultTypes.size) [.lit (.bool true)] [])
  (hok:∀(j:Nat) (t:TypeId) (r:Value),f.resultTypes[j]? = some t→((Value.bool true).resultList f.resultTypes.size)[j]? = some r→Value.okWide P W' .any 0 t r) :
  s.post enc P f apart fresh handsOn again W args (.bool true) W':=by
 have hW':=hW
 obtain⟨p,q,hA,hV,rfl,hz,hn⟩:=hW
 rw[hv]at hV
 have hgs:gs=[]∧q=[]:=by
  cases gs with
  | nil=>exact⟨rfl,hV⟩
  | cons d r=>exact hV.elim
 obtain⟨rfl,rfl⟩:=hgs
 rw[List.append_nil]at hW' hz hn
 have hlt:∀m ∈ p,m.block<W.heap.size:=fun m hm=>hW'.lt m hm
 have hold:∀m ∈ p,(fun b=>decide (b<W.heap.size)) m.block=true:=fun m hm=>by simpa using hlt m hm
 have hargs : ∀ sp : Nat → Bool, (∀ m ∈ p, sp m.block = true) → DataW.TrodAll enc P W' 0 sp true f.params.toList args.toList (s.fn H (ds ++ [])).args p := fun sp hsp => by
  rw[hfa]
  exact trodAll_stays hl hr hA (fun m hm=>same_of_ext hx (hlt m hm)) hsp
 have hvars:∀sp:Nat→Bool,DataW.TrodVars enc P W' sp s.vars (s.fn H (ds++[])).vars []:=fun sp=>by rw[hv,hfv];rfl
 have hres':∀(b:Nat) (sp:Nat→Bool) (hd:Bool),DataW.TrodAll enc P W' b sp hd f.resultTypes.toList ((Value.bool true).resultList f.resultTypes.size) (s.fn H (ds++[])).results []:=fun b sp hd=>by rw[hfr];exact hres b sp hd
 refine⟨ds,[],p,[],p,[],hW',hres' _ _ _,hargs _ hold,hvars _,World.keptBut_mono (fun m hm=>⟨hm,Or.inr ?_⟩) (kept_of_ext hx (· ∈ p)),fun _=>?_⟩
 ·simpa using hm
 ·refine⟨hok,_,_,([]++p)++[],⟨[]++p,[],trodAll_append (hargs _ (fun _ _=>rfl)) (hres' _ _ _),hvars _,rfl,?_,?_⟩,?_⟩
  ·intro b off hp
   have hp':MemPlace.cell b off ∈ p:=by simpa using hp
   have h1:=hz b off hp'
   have h2:=hx.block b (hlt _ hp')
   simp only[World.frozen?]at h1 ⊢
   rw[h2]
   exact h1
  ·intro ha
   simpa using hn ha
  ·intro m hm _
   simpa using hm
end
end Fw
namespace Fw
open Go Go.WideShapes
theorem agg_of {P:Program}{W:World}{b:Nat}{t:TypeId}{fs:Array Field}{v:Value}(ht:P.underlying t=some (.struct fs))(h:Value.okWide P W .any b t v):∃cs:List Value,v= .agg cs.toArray:=by
 unfold Value.okWide at h
 rw[ht]at h
 obtain⟨cs,rfl,_⟩:=h
 exact⟨cs.toList,by simp⟩
theorem slice_of {P:Program}{W:World}{b:Nat}{t e:TypeId}{v u:Value}(ht:P.underlying t=some (.slice e))(h:Value.okWide P W .any b t v)(hu:v.cells.toList=[u]):v=u:=by
 unfold Value.okWide at h
 rw[ht]at h
 unfold Cell.okWide at h
 rw[ht]at h
 cases v<;>simp_all [Value.cells,Cell.ok]
end Fw
namespace Fw
open Go
def opO:Fr→BOp→List Value→Prop:=fun F x cs=>∃a m c,cs=[.int .i64 x.kind,str x.path,.slice a m c]∧inI x.kind∧x.path.length≤16777216∧OI F (.slice a m c) x.bytes
abbrev OOp (F:Fr) (v:Value) (xs:List BOp):Prop:=∃e,OwnS opO 3 e F v xs
theorem opO.rd {F:Fr}{x:BOp}{cs:List Value}{G:PH}(h:opO F x cs)(hle:PLe (fh F) G)(hn:(dm F).Nodup):opE G x cs:=by
 obtain⟨a,m,c,rfl,h1,h2,h3⟩:=h
 exact⟨a,m,c,rfl,h1,h2,h3.rd hle hn⟩
theorem OOp.rd {F:Fr}{v:Value}{xs:List BOp}{G:PH}(h:OOp F v xs)(hle:PLe (fh F) G)(hn:(dm F).Nodup):RdOp G v xs:=let ⟨_,h⟩:=h;h.rd hle hn (fun _ _ _ h1 h2 h=>opO.rd h h1 h2)
theorem OOp.mk {e:TypeId}{F:Fr}{v:Value}{xs:List BOp}(h:OwnS opO 3 e F v xs):OOp F v xs:=⟨_,h⟩
def partO:Fr→BPart→List Value→Prop:=fun F x cs=>∃a m c,cs=[.int .i64 x.kind,str x.path,.bool x.dir,.slice a m c]∧inI x.kind∧x.path.length≤16777216∧OI F (.slice a m c) x.bytes
abbrev OPt (F:Fr) (v:Value) (xs:List BPart):Prop:=∃e,OwnS partO 4 e F v xs
theorem partO.rd {F:Fr}{x:BPart}{cs:List Value}{G:PH}(h:partO F x cs)(hle:PLe (fh F) G)(hn:(dm F).Nodup):partE G x cs:=by
 obtain⟨a,m,c,rfl,h1,h2,h3⟩:=h
 exact⟨a,m,c,rfl,h1,h2,h3.rd hle hn⟩
theorem OPt.rd {F:Fr}{v:Value}{xs:List BPart}{G:PH}(h:OPt F v xs)(hle:PLe (fh F) G)(hn:(dm F).Nodup):RdPart G v xs:=let ⟨_,h⟩:=h;h.rd hle hn (fun _ _ _ h1 h2 h=>partO.rd h h1 h2)
theorem OPt.mk {e:TypeId}{F:Fr}{v:Value}{xs:List BPart}(h:OwnS partO 4 e F v xs):OPt F v xs:=⟨_,h⟩
theorem zeroPartO:partO [] ⟨0,[],false,[]⟩ [.int .i64 0,str [],.bool false,.slice none 0 0]:=⟨_,_,_,rfl,by decide,by simp,⟨0,by simp,.inl ⟨rfl,rfl,rfl⟩⟩⟩
theorem zeroPart (G:PH):partE G ⟨0,[],false,[]⟩ [.int .i64 0,str [],.bool false,.slice none 0 0]:=⟨_,_,_,rfl,by decide,by simp,RdS.nil _ _ _⟩
section
variable {w0 w w':World} {G0 G G':PH} {S:List Nat} {B Bs:List Res}
theorem Hp.lendOPt (H:Hp w0 G0 S w G B){ks:List Nat}{k:Nat}{F:Fr}{v:Value}{xs:List BPart}(hk:nth B k=some (frag F))(hm:ks.contains k=true)(h:OPt F v xs):RdPart (PPlus G w (fpsAt B ks)) v xs:=h.rd (fun b o hb=>H.lendPredL hk hm b o hb) (dm_nodup H hk)
end
def wPart (x:BPart):Nat:=x.path.length+x.bytes.length
def wParts (a:List BPart):Nat:=a.length+cnt wPart a
def cPart (x:BPart):Nat:=3+cnt cI x.bytes
section
variable {H:Type} {enc:TypeId×Value→H} {P:Program} {W:World} {bk:DataW H→Nat} {bka:List (DataW H)→Nat} {ti ts tb tis:TypeId}
theorem four_of {cs:List Value}{a b c d:Value}(h:cs.length=4)(h0:cs[0]? = some a)(h1:cs[1]? = some b)(h2:cs[2]? = some c)(h3:cs[3]? = some d):cs=[a,b,c,d]:=by
 match cs,h with
 | [x,y,z,u],_=>simp at h0 h1 h2 h3;simp[h0,h1,h2,h3]
theorem elem_part (hb:Bulk bk bka){t:TypeId}{f0 f1 f2 f3:Field}(ht:P.underlying t=some (.struct #[f0,f1,f2,f3]))(hk:P.cellsOf t=4)(hall:∀(i:Nat) (f:Field),#[f0,f1,f2,f3][i]? = some f→f.offset=i∧P.cellsOf f.type=1)
  (e0:f0.type=ti) (e1:f1.type=ts) (e2:f2.type=tb) (e3:f3.type=tis) (hi:P.underlying ti=some (.int .i64)) (hs:P.underlying ts=some .string) (hbo:P.underlying tb=some .bool) (his:P.underlying tis=some (.slice ti)) (hz:P.cellsOf ti=1):Elem enc P W bk t 4 partE:=by
 intro n cs x h hx
 obtain⟨hl,hf⟩:=struct_fields hb ht hk hall n cs x h hx
 obtain⟨v0,y0,m0,a0,b0,c0⟩:=hf 0 f0 rfl (by omega)
 obtain⟨v1,y1,m1,a1,b1,c1⟩:=hf 1 f1 rfl (by omega)
 obtain⟨v2,y2,m2,a2,b2,c2⟩:=hf 2 f2 rfl (by omega)
 obtain⟨v3,y3,m3,a3,b3,c3⟩:=hf 3 f3 rfl (by omega)
 rw[e0]at b0;rw[e1]at b1;rw[e2]at b2;rw[e3]at b3
 obtain⟨i0,_,g0,g0'⟩:=elem_int (bk:=bk) hi m0 _ _ b0 c0
 obtain⟨i1,_,g1,g1'⟩:=elem_str hb hs m1 _ _ b1 c1
 obtain⟨i2,_,g2⟩:=elem_bool (bk:=bk) hbo m2 _ _ b2 c2
 obtain⟨v,xs,g3,g3'⟩:=elem_slice hb his hz (by omega) (elem_int hi) m3 _ _ b3 c3
 simp only[List.cons.injEq,and_true]at g0 g1 g2 g3
 subst g0 g1 g2 g3
 obtain⟨a,c,rfl⟩:=g3'.shape
 exact⟨⟨i0,i1,i2,xs⟩,hl,_,_,_,four_of hl a0 a1 a2 a3,g0',g1',g3'⟩
end
end Fw
namespace Sp
open Fw Nd
def partOk (x:BPart):Bool:=if x.kind=1 then !x.dir||decide (x.bytes=[]) else if x.kind=2 then decide (x.bytes=[]) else if x.kind=3 then !x.dir else false
def mkPart (d:BDisk)(x:BPart):Option BDisk:=if x.kind=2 then l14Drop d x else l14Make d x
def inOrd (l:List BPart):List BPart:=(l.filter isGone).reverse++l.filter (fun x=> !isGone x)
theorem foldB_same {α β:Type}{f g:α→β→Option α}:∀{l:List β} {o:Option α},(∀b,b ∈ l→∀a,f a b=g a b)→foldB f l o=foldB g l o
 | [],_,_=>rfl
 | b :: r, o, h => by
  show foldB f r (o.bind (fun a=>f a b))=foldB g r (o.bind (fun a=>g a b))
  rw[show(fun a=>f a b)=(fun a=>g a b) from funext (h b (by simp))]
  exact foldB_same (fun c hc=>h c (by simp[hc]))
theorem foldB_dead {α β:Type}{f:α→β→Option α}{b:β}(hb:∀a,f a b=none):∀{l:List β} {o:Option α},b ∈ l→foldB f l o=none
 | c :: r, o, h => by
  show foldB f r (o.bind (fun a=>f a c))=none
  rcases List.mem_cons.1 h with rfl|h
  ·rw[show o.bind (fun a=>f a b)=none by cases o<;>simp[hb]];exact foldB_none r
  ·exact foldB_dead hb h
theorem run_ord (d : BDisk) (l : List BPart) : StreamRun d l = if DiskValid d then foldB mkPart (inOrd l) (some d) else none := by
 unfold StreamRun inOrd
 rw[foldB_app]
 rw [foldB_same (f := mkPart) (g := l14Drop) (l := (l.filter isGone).reverse) (fun b hb a => by
  have:isGone b=true:=(List.mem_filter.1 (List.mem_reverse.1 hb)).2
  unfold mkPart;rw[if_pos (by simpa [isGone] using this)])]
 rw [foldB_same (f := mkPart) (g := l14Make) (l := l.filter (fun x => !isGone x)) (fun b hb a => by
  have:(!isGone b)=true:=(List.mem_filter.1 hb).2
  unfold mkPart;rw[if_neg (by simpa [isGone] using this)])]
theorem drop0 (d : BDisk) (x : BPart) : l14Drop d x = if x.bytes = [] then l14Drop d ⟨x.kind, x.path, x.dir, []⟩ else none := by
 unfold l14Drop
 by_cases h:x.bytes=[]
 ·simp[h]
 ·simp[h]
theorem make_kind {d:BDisk}{x:BPart}(h1:x.kind≠1)(h3:x.kind≠3):l14Make d x=none:=by
 unfold l14Make
 rw[if_neg (by simp[h1,h3])]
theorem bad_part {x:BPart}(h:partOk x=false)(d:BDisk):mkPart d x=none:=by
 unfold mkPart
 unfold partOk at h
 by_cases h2:x.kind=2
 ·rw[if_pos h2]
  have h1:x.kind≠1:=by omega
  rw[if_neg h1,if_pos h2]at h
  rw[drop0,if_neg (by simpa using h)]
 ·rw[if_neg h2]
  by_cases h1:x.kind=1
  ·rw[if_pos h1]at h
   simp only[Bool.or_eq_false_iff,Bool.not_eq_false',decide_eq_false_iff_not]at h
   unfold l14Make
   split
   ·rw[if_pos h.1,if_neg h.2]
   ·rfl
  ·rw[if_neg h1,if_neg h2]at h
   by_cases h3:x.kind=3
   ·rw[if_pos h3]at h
    unfold l14Make
    rw[if_neg]
    simp only[Bool.not_eq_false']at h
    simp[h1,h]
   ·exact make_kind h1 h3
theorem mem_ord {x:BPart}{l:List BPart}(h:x ∈ l):x ∈ inOrd l:=by
 unfold inOrd
 rw[List.mem_append,List.mem_reverse,List.mem_filter,List.mem_filter]
 cases e:isGone x
 ·exact .inr ⟨h,by simp⟩
 ·exact .inl ⟨h,rfl⟩
theorem run_bad {d:BDisk}{l:List BPart}{x:BPart}(h:x ∈ l)(hb:partOk x=false):StreamRun d l=none:=by
 rw[run_ord]
 split
 ·exact foldB_dead (bad_part hb) (mem_ord h)
 ·rfl
theorem run_inv {d:BDisk}{l:List BPart}(h:DiskValid d=false):StreamRun d l=none:=by rw[run_ord,h];rfl
theorem ord_no {d e:BDisk}{l:List BPart}{k:Nat}{x:BPart}(hd:DiskValid d=true)(h:foldB mkPart ((inOrd l).take k) (some d)=some e)(hz:(inOrd l)[k]? = some x)(hm:mkPart e x=none):StreamRun d l=none:=by
 rw[run_ord,hd,if_pos rfl];exact foldB_stop h hz hm
theorem ord_all {d e:BDisk}{l:List BPart}{k:Nat}(hd:DiskValid d=true)(h:foldB mkPart ((inOrd l).take k) (some d)=some e)(hk:(inOrd l).length≤k):StreamRun d l=some e:=by
 rw[run_ord,hd,if_pos rfl];exact foldB_all h hk
theorem mk_valid {d e:BDisk}{x:BPart}(hd:DiskValid d=true)(h:mkPart d x=some e):DiskValid e=true∧e.snaps=d.snaps:=by
 have hr:StreamRun d [x]=some e:=by
  rw[run_ord,hd,if_pos rfl]
  have:inOrd [x]=[x]:=by cases h:isGone x<;>simp[inOrd,h]
  rw[this];exact h
 exact run_valid hr
theorem ord_len (l:List BPart):(inOrd l).length=l.length:=by
 unfold inOrd
 induction l with
 | nil=>rfl
 | cons x r ih =>
  cases h:isGone x<;>simp[h]at ih ⊢<;>omega
theorem mem_ord' {x:BPart}{l:List BPart}(h:x ∈ inOrd l):x ∈ l:=by
 unfold inOrd at h
 rw[List.mem_append,List.mem_reverse,List.mem_filter,List.mem_filter]at h
 exact h.elim (·.1) (·.1)
def bare (x:BPart):BPart:=⟨x.kind,x.path,x.dir,[]⟩
theorem bare_valid {d e:BDisk}{x:BPart}(hd:DiskValid d=true)(h:l14Drop d (bare x)=some e):DiskValid e=true :=
 (mk_valid (x:=⟨2,x.path,x.dir,[]⟩) hd h).1
theorem make_valid {d e:BDisk}{x:BPart}(hd:DiskValid d=true)(h:l14Make d x=some e):DiskValid e=true:=by
 refine(mk_valid (x:=x) hd ?_).1
 unfold mkPart
 rw[if_neg,h]
 intro e2
 rw[make_kind (by omega) (by omega)]at h
 cases h
theorem drop_cons {l:List BPart}{k:Nat}{x:BPart}(h:l[k]? = some x):l.drop k=x::l.drop (k+1):=by
 obtain⟨hk,e⟩:=List.getElem?_eq_some_iff.1 h
 rw[List.drop_eq_getElem_cons hk,e]
theorem runD_step {d e : BDisk} {l : List BPart} {k : Nat} {x : BPart} (hz : l[k]? = some x) (h : runD d (l.drop (k + 1)) = some e) : runD d (l.drop k) = if x.kind = 2 then l14Drop e x else some e := by
 rw[drop_cons hz,runD_cons,h];rfl
theorem runD_none {d:BDisk}:∀{k:Nat} {l:List BPart},runD d (l.drop k)=none→runD d l=none
 | 0,l,h=>by simpa using h
 | k+1,[],h=>by simpa using h
 | k + 1, y :: r, h => by
  rw[runD_cons,runD_none (k:=k) (l:=r) (by simpa using h)]
  split<;>rfl
theorem run_dno {d e:BDisk}{l:List BPart}{k:Nat}{x:BPart}(hz:l[k]? = some x)(h:runD d (l.drop (k+1))=some e)(h2:x.kind=2)(hn:l14Drop e x=none):StreamRun d l=none:=by
 rw[run_eq]
 split
 ·rw[runD_none (k:=k) (by rw[runD_step hz h,if_pos h2,hn]),runM_none]
 ·rfl
theorem runM_step {d e : BDisk} {l : List BPart} {k : Nat} {x : BPart} (hz : l[k]? = some x) (h : runM (runD d l) (l.take k) = some e) : runM (runD d l) (l.take (k + 1)) = if x.kind = 2 then some e else l14Make e x := by
 rw[List.take_add_one,hz]
 show runM _ (l.take k++[x])=_
 rw[runM_snoc,h];rfl
theorem runM_app {o:Option BDisk}{l m:List BPart}:runM o (l++m)=runM (runM o l) m:=by unfold runM;rw[List.filter_append,foldB_app]
theorem run_mno {d e:BDisk}{l:List BPart}{k:Nat}{x:BPart}(hz:l[k]? = some x)(h:runM (runD d l) (l.take k)=some e)(h2:x.kind≠2)(hn:l14Make e x=none):StreamRun d l=none:=by
 rw[run_eq]
 split
 ·have hs:=runM_step hz h
  rw[if_neg h2,hn]at hs
  rw[←List.take_append_drop (k+1) l,runM_app,List.take_append_drop,hs,runM_none]
 ·rfl
theorem run_done {d e:BDisk}{l:List BPart}{k:Nat}(hd:DiskValid d=true)(h:runM (runD d l) (l.take k)=some e)(hk:l.length≤k):StreamRun d l=some e:=by
 rw[run_eq,hd,if_pos rfl];rw[List.take_of_length_le hk]at h;exact h
theorem runD_valid {d e:BDisk}{l:List BPart}(hd:DiskValid d=true)(h:runD d l=some e):DiskValid e=true:=by
 have hr:StreamRun d (l.filter isGone)=some e:=by
  rw[run_eq,hd,if_pos rfl]
  have h1:runD d (l.filter isGone)=runD d l:=by unfold runD;rw[List.filter_filter];congr 2;simp
  rw[h1,h]
  unfold runM
  have : (l.filter isGone).filter (fun x => !isGone x) = [] := by
   rw[List.filter_filter,List.filter_eq_nil_iff];intro a _;simp
  rw[this];rfl
 exact(run_valid hr).1
theorem runM_valid {d e:BDisk}{l:List BPart}(hd:DiskValid d=true)(h:runM (some d) l=some e):DiskValid e=true:=by
 have hr : StreamRun d (l.filter (fun x => !isGone x)) = some e := by
  rw[run_eq,hd,if_pos rfl]
  have h0 : (l.filter (fun x => !isGone x)).filter isGone = [] := by
   rw[List.filter_filter,List.filter_eq_nil_iff];intro a _;simp
  have h1:runD d (l.filter (fun x=> !isGone x))=some d:=by unfold runD;rw[h0];rfl
  rw[h1]
  unfold runM
  rw[List.filter_filter]
  have:(fun x=>(!isGone x&& !isGone x))=(fun x=> !isGone x):=by funext x;simp
  rw[this];exact h
 exact(run_valid hr).1
section
variable {d e:BDisk} {l:List BPart} {k:Nat} {x:BPart}
theorem isSome_get {o:Option BDisk}(h:o.isSome=true):o=some (o.getD ⟨[],[],[]⟩):=by
 cases o with
 | none=>cases h
 | some x=>rfl
theorem pdrop_ok (hb:¬(0:Int)<x.bytes.length):l14Drop e x=l14Drop e (bare x):=by
 rw[drop0,if_pos (List.length_eq_zero_iff.1 (by omega))];rfl
theorem pdrop_bytes (hb:(0:Int)<x.bytes.length):l14Drop e x=none:=by
 rw[drop0,if_neg (fun h=>by rw[h]at hb;simp at hb)]
theorem pdrop_none (h:l14Drop e (bare x)=none):l14Drop e x=none:=by
 rw[drop0]
 split
 ·exact h
 ·rfl
theorem dgo (hz:l[k]? = some x)(h:runD d (l.drop (k+1))=some e)(h2:x.kind=2)(hs:(l14Drop e (bare x)).isSome=true)(hb:¬(0:Int)<x.bytes.length):runD d (l.drop k)=some ((l14Drop e (bare x)).getD ⟨[],[],[]⟩):=by
 rw[runD_step hz h,if_pos h2,pdrop_ok hb];exact isSome_get hs
theorem dskip (hz:l[k]? = some x)(h:runD d (l.drop (k+1))=some e)(h2:x.kind≠2):runD d (l.drop k)=some e:=by rw[runD_step hz h,if_neg h2]
theorem mgo (hz:l[k]? = some x)(h:runM (runD d l) (l.take k)=some e)(h2:x.kind≠2)(hs:(l14Make e x).isSome=true):runM (runD d l) (l.take (k+1))=some ((l14Make e x).getD ⟨[],[],[]⟩):=by
 rw[runM_step hz h,if_neg h2];exact isSome_get hs
theorem mskip (hz:l[k]? = some x)(h:runM (runD d l) (l.take k)=some e)(h2:x.kind=2):runM (runD d l) (l.take (k+1))=some e:=by rw[runM_step hz h,if_pos h2]
theorem mkind (hz:l[k]? = some x)(h:runM (runD d l) (l.take k)=some e)(h2:x.kind≠2)(hk:l6In x.kind 1 3=false):StreamRun d l=none:=run_mno hz h h2 (make_kind (fun e=>by rw[e]at hk;cases hk) (fun e=>by rw[e]at hk;cases hk))
theorem kind13 (h2:x.kind≠2)(hk:l6In x.kind 1 3=true):x.kind=1∨x.kind=3:=by
 simp only[l6In,Bool.and_eq_true,decide_eq_true_eq]at hk
 omega
end
section
variable {l:List BPart} {k:Nat} {x:BPart}
def ordA (l:List BPart)(k:Nat):List BPart:=((l.drop k).filter isGone).reverse
def ordB (l:List BPart)(k:Nat):List BPart:=(l.filter isGone).reverse++(l.take k).filter (fun x=> !isGone x)
theorem ordA_all:ordA l l.length=[]:=by unfold ordA;rw[List.drop_length];rfl
theorem ordA_yes (hz:l[k-1]? = some x)(hk:0<k)(h2:x.kind=2):ordA l (k-1)=ordA l k++[x]:=by
 unfold ordA
 rw[drop_cons hz,show k-1+1=k by omega,List.filter_cons_of_pos (by simp[isGone,h2]),List.reverse_cons]
theorem ordA_no (hz:l[k-1]? = some x)(hk:0<k)(h2:x.kind≠2):ordA l (k-1)=ordA l k:=by
 unfold ordA
 rw[drop_cons hz,show k-1+1=k by omega,List.filter_cons_of_neg (by simp[isGone,h2])]
theorem ordA_len (hz:l[k-1]? = some x)(hk:0<k):(ordA l k).length<l.length:=by
 have h0:=(List.getElem?_eq_some_iff.1 hz).1
 have:=List.length_filter_le isGone (l.drop k)
 unfold ordA
 rw[List.length_reverse]
 rw[List.length_drop]at this
 omega
theorem ordB_zero:ordB l 0=ordA l 0:=by simp[ordA,ordB]
theorem take_snoc' (hz:l[k]? = some x):l.take (k+1)=l.take k++[x]:=by rw[List.take_add_one,hz];rfl
theorem ordB_yes (hz:l[k]? = some x)(h2:x.kind≠2):ordB l (k+1)=ordB l k++[x]:=by
 unfold ordB
 rw[take_snoc' hz,List.filter_append,List.filter_cons_of_pos (by simp[isGone,h2]),List.filter_nil,List.append_assoc]
theorem ordB_no (hz:l[k]? = some x)(h2:x.kind=2):ordB l (k+1)=ordB l k:=by
 unfold ordB
 rw[take_snoc' hz,List.filter_append,List.filter_cons_of_neg (by simp[isGone,h2]),List.filter_nil,List.append_nil]
theorem ordB_end (hk:l.length≤k):ordB l k=inOrd l:=by unfold ordB inOrd;rw[List.take_of_length_le hk]
theorem ordB_len (hz:l[k]? = some x)(h2:x.kind≠2):(ordB l k).length<l.length:=by
 have h1:(ordB l (k+1)).length≤(inOrd l).length:=by
  unfold ordB inOrd
  rw[List.length_append,List.length_append]
  have:=((List.take_sublist (k+1) l).filter (fun x=> !isGone x)).length_le
  omega
 rw[ordB_yes hz h2,List.length_append,ord_len]at h1
 simp at h1
 omega
end
theorem srun_valid {d d1:BDisk}{l:List BPart}(h:StreamRun d l=some d1):DiskValid d1=true:=(run_valid h).1
section
variable {d:BDisk} {x:BPart} {T k:Nd}
theorem mp_at (hT:TOK T d.tree){p:Bs}(hf:T.find p=none):atI d.tree p=none:=by
 have h:=find_list hT p
 rw[hf]at h
 cases e:atI d.tree p with
 | none=>rfl
 | some i =>
  rw[e]at h
  have hlt:=(List.findIdx?_eq_some_iff_getElem.1 e).1
  simp only[Option.map_none,Option.bind_some]at h
  rw[List.getElem?_eq_getElem hlt]at h
  cases h
theorem mp_some (hT:TOK T d.tree){p:Bs}(hf:T.find p=some k):∃i y,atI d.tree p=some i∧d.tree[i]? = some y∧y.dir=k.dir:=by
 have h:=find_list hT p
 rw[hf]at h
 cases e:atI d.tree p with
 | none=>rw[e]at h;cases h
 | some i =>
  rw[e]at h
  simp only[Option.map_some,Option.bind_some]at h
  exact⟨i,_,rfl,h.symm,rfl⟩
theorem mk1 (h1:x.kind=1):mkPart d x=l14Make d x:=by unfold mkPart;rw[if_neg (by omega)]
theorem mk3 (h3:x.kind=3):mkPart d x=l14Make d x:=by unfold mkPart;rw[if_neg (by omega)]
theorem mk2 (h2:x.kind=2):mkPart d x=l14Drop d x:=by unfold mkPart;rw[if_pos h2]
theorem ok1 (hok:partOk x=true)(h1:x.kind=1)(hd:x.dir=true):x.bytes=[]:=by
 unfold partOk at hok;rw[if_pos h1]at hok;simpa [hd] using hok
theorem ok2 (hok:partOk x=true)(h2:x.kind=2):x.bytes=[]:=by
 unfold partOk at hok;rw[if_neg (by omega),if_pos h2]at hok;simpa using hok
theorem ok3 (hok:partOk x=true)(h1:x.kind≠1)(h2:x.kind≠2):x.kind=3∧x.dir=false:=by
 unfold partOk at hok
 rw[if_neg h1,if_neg h2]at hok
 split at hok
 ·rename_i h3;exact⟨h3,by simpa using hok⟩
 ·cases hok
theorem mp1_dir (hv:DiskValid d=true)(hT:TOK T d.tree)(hok:partOk x=true)(h1:x.kind=1)(hf:T.find x.path=none)(hd:x.dir=true):mkPart d x=DiskDir d x.path:=by
 rw[mk1 h1,←make14 hv (mp_at hT hf)]
 obtain⟨kd,p,dr,b⟩:=x
 have hb:=ok1 hok h1 hd
 cases h1;cases hd;cases hb;rfl
theorem mp1_file (hT:TOK T d.tree)(h1:x.kind=1)(hf:T.find x.path=none)(hd:x.dir=false):mkPart d x=DiskWrite d x.path x.bytes:=by
 rw[mk1 h1]
 unfold l14Make
 simp[h1,mp_at hT hf,hd]
theorem mp1_no (hT:TOK T d.tree)(h1:x.kind=1)(hf:T.find x.path=some k):mkPart d x=none:=by
 obtain⟨i,y,hi,_⟩:=mp_some hT hf
 rw[mk1 h1]
 unfold l14Make
 simp[h1,hi]
theorem mp2_yes (hv:DiskValid d=true)(hT:TOK T d.tree)(hok:partOk x=true)(h2:x.kind=2)(hf:T.find x.path=some k)(hd:k.dir=x.dir):mkPart d x=DiskDrop d x.path:=by
 obtain⟨i,y,hi,hy,e⟩:=mp_some hT hf
 rw[mk2 h2,←drop14 hv hi hy 2]
 obtain⟨kd,p,dr,b⟩:=x
 have hb:=ok2 hok h2
 have hyd:y.dir=dr:=e.trans hd
 cases h2;cases hb;rw[hyd];rfl
theorem mp2_no (hT:TOK T d.tree)(h2:x.kind=2)(hf:T.find x.path=none):mkPart d x=none:=by rw[mk2 h2,sdrop_at (mp_at hT hf)]
theorem mp2_dir (hv:DiskValid d=true)(hT:TOK T d.tree)(h2:x.kind=2)(hf:T.find x.path=some k)(hd:k.dir≠x.dir):mkPart d x=none:=by
 obtain⟨i,y,hi,hy,e⟩:=mp_some hT hf
 rw[mk2 h2,sdrop_dir hv hi hy (by rw[e];exact hd)]
theorem mp3_file (hv:DiskValid d=true)(hT:TOK T d.tree)(hok:partOk x=true)(h1:x.kind≠1)(h2:x.kind≠2)(hf:T.find x.path=some k)(hd:k.dir=false):mkPart d x=DiskWrite d x.path x.bytes:=by
 obtain⟨h3,hx⟩:=ok3 hok h1 h2
 obtain⟨i,y,hi,hy,e⟩:=mp_some hT hf
 rw[mk3 h3,mk_file3 hv hi hy h3 hx (e.trans hd)]
theorem mp3_no (hT:TOK T d.tree)(hok:partOk x=true)(h1:x.kind≠1)(h2:x.kind≠2)(hf:T.find x.path=none):mkPart d x=none:=by
 obtain⟨h3,hx⟩:=ok3 hok h1 h2
 have hn:=mp_at hT hf
 rw[mk3 h3]
 unfold l14Make fileAt
 rw[if_neg]
 have h0 : d.tree.any (fun y => decide (y.path = x.path) && !y.dir) = false := by
  rw[List.any_eq_false]
  intro z hz
  have:=List.findIdx?_eq_none_iff.1 hn z hz
  simp only[decide_eq_false_iff_not]at this
  simp[this]
 simp[h3,h0]
theorem mp3_dir (hv:DiskValid d=true)(hT:TOK T d.tree)(hok:partOk x=true)(h1:x.kind≠1)(h2:x.kind≠2)(hf:T.find x.path=some k)(hd:k.dir=true):mkPart d x=none:=by
 obtain⟨h3,hx⟩:=ok3 hok h1 h2
 obtain⟨i,y,hi,hy,e⟩:=mp_some hT hf
 rw[mk3 h3,mk_dir hv hi hy h3 (.inr (e.trans hd))]
end
end Sp
namespace Fw
open Go Sp
def mPart (k:Int)(x:BPart):BPart:=⟨k,mtext (k+1),decide ((k+1+1) % 3=0),mks mI cI (k+1+1+1) x.bytes⟩
theorem cParts_le:∀a:List BPart,cnt cPart a≤3*wParts a
 | []=>by simp[cnt]
 | x :: r => by
  have h:cnt cPart r≤_:=cParts_le r
  have h2:=cInts_len x.bytes
  simp only[wParts,cnt,List.length_cons,cPart,wPart]at *
  omega
end Fw
namespace Fw
open Go Go.Conc
def RC (P:Program)(n:Nat)(ops:Array Oper)(Q:Post)(l:List Nat)(L:Slots)(ds:List Deferred)(w:World):Prop :=
 ∀a,FrL n L ds a→∀(b:Frame) (k:List Item) (cs:List Frame),∃e a' w',Q e a' w'∧Arrives P (lone (b.at a (.inRegion ops l::k)) cs w) b k cs e a' w'
section
variable {P:Program} {n:Nat} {Q:Post} {L:Slots} {ds:List Deferred} {w:World} {l:List Oper}
theorem W_regionC {id:Nat}(rs:List Nat)(hr:List.range l.length=rs)(h:RC P n l.toArray Q rs L ds w):W P n Q (.region id l.toArray false) L ds w:=by
 intro a ha b k cs
 obtain⟨e,a',w',q,r⟩:=h a ha b k cs
 refine⟨e,a',w',q,.of_steps (.one step_region) ?_⟩
 have:List.range l.toArray.size=rs:=by simpa using hr
 rw[this];exact r
theorem RC_nil {ops:Array Oper}(h:N n Q .normal L ds w):RC P n ops Q [] L ds w:=fun a ha _ _ _=>⟨.normal,a,w,h a ha,.one step_region_end⟩
variable {ty:TypeId} {ps:String} {af:Array Edge} {rest:List Nat} {i:Nat}
theorem RC_send {x y:Operand}{v:Value}{c cap s r:Nat}{buf:Array Value}{tm:Bool}(hi:nth l i=some ⟨none,.send x y,ty,ps,af,none⟩)
  (hx:od L x=some (.chan (some c))) (hy:od L y=some v) (hc:w.heap[c]? = some (.chan cap buf false s r tm)) (hroom:buf.size<cap)
  (h:RC P n l.toArray Q rest L ds (w.setChan c cap (buf.push v) false (s+1) r tm)):RC P n l.toArray Q (i::rest) L ds w:=by
 intro a ha b k cs
 have ho:l.toArray[i]? = some ⟨none,.send x y,ty,ps,af,none⟩:=by rw[nth_eq]at hi;simpa using hi
 obtain⟨e,a',w'',q,r'⟩:=h a ha b k cs
 refine⟨e,a',w'',q,.of_steps (.one ?_) r'⟩
 have hg:=stepG_op (P:=P) (b:=b) (a:=a) (k:=k) (cs:=cs) (w:=w) (rest:=rest) ho (by simp[Region.wanted])
 have hfin:(b.at a (.inRegion l.toArray (i::rest)::k)).finish undef=b.at a (.inRegion l.toArray rest::k):=by
  rw[Frame.finish_at,ho];rfl
 have hst:=step_lone_send_room (P:=P) (fr:=b.at a (.inRegion l.toArray (i::rest)::k)) (cs:=cs) (w:=w) (w₁:=w) (c:=c) (cap:=cap) (s:=s) (r:=r) (buf:=buf) (v:=v) (z':= .tuple #[]) (tm:=tm)
  (by unfold G;rw[hg];simp[stepG.apply,execOp,scase,ha.eval hx,ha.eval hy];rfl) hc hroom
 rw[hfin]at hst
 exact hst
def QC (P:Program)(ops:Array Oper)(Q:Post)(rest:List Nat):Post
 | .normal,a,w=>∀(b:Frame) (k:List Item) (cs:List Frame),∃e a' w',Q e a' w'∧Arrives P (lone (b.at a (.inRegion ops rest::k)) cs w) b k cs e a' w'
 | e,a,w=>Q e a w
theorem N_C {rest:List Nat}{ops:Array Oper}(h:RC P n ops Q rest L ds w):N n (QC P ops Q rest) .normal L ds w:=h
theorem RC_l {o:Oper}{i:Nat}{rest:List Nat}(hi:nth l i=some o)(h:R P n l.toArray (QC P l.toArray Q rest) [o] L ds w):RC P n l.toArray Q (i::rest) L ds w:=by
 intro a ha b k cs
 have ho:l.toArray[i]? = some o:=by rw[nth_eq]at hi;simpa using hi
 have h1:=h a ha
 unfold wpList at h1
 have fin:∀v,(b.at a (.inRegion l.toArray (i::rest)::k)).finish v=b.at (a.put o.dst v) (.inRegion l.toArray rest::k):=fun v=>by rw[Frame.finish_at,ho];rfl
 have on:∀{a1 w1},wpList P l.toArray (QC P l.toArray Q rest) [] a1 w1→step P (lone (b.at a (.inRegion l.toArray (i::rest)::k)) cs w)= .next (lone (b.at a1 (.inRegion l.toArray rest::k)) cs w1) →
   ∃e a' w',Q e a' w'∧Arrives P (lone (b.at a (.inRegion l.toArray (i::rest)::k)) cs w) b k cs e a' w':=by
  intro a1 w1 h2 hs
  unfold wpList at h2
  obtain⟨e,a',w',q,r⟩:=h2 b k cs
  exact⟨e,a',w',q,.of_steps (.one hs) r⟩
 by_cases hw:Region.wanted o (yielded l.toArray a.tmps)=true
 ·rw[if_pos hw]at h1
  have hg:=stepG_op (P:=P) (b:=b) (a:=a) (k:=k) (cs:=cs) (w:=w) (rest:=rest) ho hw
  rcases h1 with h1|⟨hasks,a0,w0,q⟩
  ·unfold Oper.wp at h1
   cases hr:(execOp a.eval o).run P w with
   | ok x w1 =>
    rw[hr]at h1
    cases x with
    | value v=>exact on h1 (step_lone_go (by rw[hg,←fin];simp[stepG.apply,hr]))
    | skip=>exact on h1 (step_lone_go (by rw[hg,←fin];simp[stepG.apply,hr]))
    | enter f args =>
     obtain⟨e,w2,fr,hR,hs,_,hl⟩:=h1 (b.at a (.inRegion l.toArray (i::rest)::k)::cs)
     have he:step P (lone (b.at a (.inRegion l.toArray (i::rest)::k)) cs w)= .next (lone (Frame.enter P f args .normal) (b.at a (.inRegion l.toArray (i::rest)::k)::cs) w1) :=
      step_lone_go (by rw[hg];simp[stepG.apply,hr,Frame.at])
     cases e with
     | returned v =>
      unfold wpList at hR
      obtain⟨e,a',w',q,r⟩:=hR b k cs
      refine⟨e,a',w',q,.of_steps (.head he (hs.trans (.one ?_))) r⟩
      rw[←fin];exact step_leave_returned hl
     | panicked chain =>
      refine⟨.panic chain,a,w2,hR,.inRegion l.toArray (i::rest)::k,.head he (hs.trans (.one ?_))⟩
      rw[←Frame.raise_at];exact step_leave_panicked hl
     | outgrown =>
      obtain⟨a0,w0,q⟩:=hR
      exact⟨.outgrown,a0,w0,q,.inr (Outgrown.of_steps (.one he) hs)⟩
    | row row args =>
     obtain⟨v,w2,hR,hs⟩:=h1 (b.at a (.inRegion l.toArray (i::rest)::k)) cs
     have he:step P (lone (b.at a (.inRegion l.toArray (i::rest)::k)) cs w)= .next (lone (Frame.ofRow P row args .normal) (b.at a (.inRegion l.toArray (i::rest)::k)::cs) w1) :=
      step_lone_go (by rw[hg];simp[stepG.apply,hr,Frame.at])
     unfold wpList at hR
     obtain⟨e,a',w',q,r⟩:=hR b k cs
     refine⟨e,a',w',q,.of_steps (.head he ?_) r⟩
     rw[←fin];exact hs
    | defer d =>
     refine on h1 (step_lone_go ?_)
     have hf:=Frame.finish_at b {a with defers:=d::a.defers} l.toArray i rest k undef
     rw[ho]at hf
     rw[hg];simp only[stepG.apply,Sem.runT_eq,hr,GStep.bare_after]
     exact congrArg (fun fr=>GStep.go {frame:=fr,callers:=cs,status:= .running,dying:=none} w1) hf
    | _=>exact h1.elim
   | halt x w1 =>
    rw[hr]at h1
    cases x with
    | panic v =>
     refine⟨_,a,w1,h1,.inRegion l.toArray (i::rest)::k,.one (step_lone_go ?_)⟩
     rw[hg,←Frame.raise_at];simp[stepG.apply,hr]
    | _=>exact h1.elim
  ·by_cases hk:b.kind= .early
   ·exact⟨.outgrown,a0,w0,q,.inl hk⟩
   ·exact⟨.outgrown,a0,w0,q,.inr (asks_outgrown ho hw hk hasks)⟩
 ·rw[if_neg hw]at h1
  refine on h1 ?_
  have hs:=step_op_skip (P:=P) (b:=b) (a:=a) (k:=k) (cs:=cs) (w:=w) (ops:=l.toArray) (i:=i) (rest:=rest) (by simp[ho];simpa using hw)
  simpa only[ho,Option.bind_some] using hs
def rgot (ok:Bool)(v:Value)(o:Bool):Value:=if ok then .tuple #[v,.bool o] else v
theorem recv_step {d t:Nat}{x:Operand}{v z:Value}{c:Nat}{ok:Bool}{w1:World}(hi:nth l i=some ⟨some d,.recv t x ok,ty,ps,af,none⟩)(hd:Nat.blt d n=true)
  (hx:od L x=some (.chan (some c))) {dir:ChanDir} {el:TypeId} (ht:P.underlying t=some (.chan dir el)) (hz:(zeroValue el).run P w= .ok z w)
  (hs:∀(fr:Frame) (cs:List Frame) (es:Array Event),stepG P true (Go.Conc.G fr cs) w= .comm (Go.Conc.G fr cs) #[rcase c z] true (.recv ok) w es→step P (solo (Go.Conc.G fr cs) w)= .next (solo (Go.Conc.G (fr.finish v) cs) w1))
  (h:RC P n l.toArray Q rest ((d,v)::L) ds w1):RC P n l.toArray Q (i::rest) L ds w:=by
 intro a ha b k cs
 have ho:l.toArray[i]? = some ⟨some d,.recv t x ok,ty,ps,af,none⟩:=by rw[nth_eq]at hi;simpa using hi
 obtain⟨e,a',w'',q,r'⟩:=h _ (ha.put hd v) b k cs
 refine⟨e,a',w'',q,.of_steps (.one ?_) r'⟩
 have hg:=stepG_op (P:=P) (b:=b) (a:=a) (k:=k) (cs:=cs) (w:=w) (rest:=rest) ho (by simp[Region.wanted])
 have hfin:(b.at a (.inRegion l.toArray (i::rest)::k)).finish v=b.at (a.put (some d) v) (.inRegion l.toArray rest::k):=by
  rw[Frame.finish_at,ho];rfl
 have hst:=hs (b.at a (.inRegion l.toArray (i::rest)::k)) cs _ (by unfold Go.Conc.G;rw[hg];simp[stepG.apply,execOp,rcase,ha.eval hx,run_underlying ht,hz];rfl)
 rw[hfin]at hst
 exact hst
theorem RC_recv {d t:Nat}{x:Operand}{v z:Value}{c cap s r:Nat}{buf:Array Value}{cl tm ok:Bool}(hi:nth l i=some ⟨some d,.recv t x ok,ty,ps,af,none⟩)(hd:Nat.blt d n=true)
  (hx:od L x=some (.chan (some c))) {dir:ChanDir} {el:TypeId} (ht:P.underlying t=some (.chan dir el)) (hz:(zeroValue el).run P w= .ok z w)
  (hc:w.heap[c]? = some (.chan cap buf cl s r tm)) (hv:buf[0]? = some v)
  (h:RC P n l.toArray Q rest ((d,rgot ok v true)::L) ds (w.setChan c cap (buf.extract 1 buf.size) cl s (r+1) tm)):RC P n l.toArray Q (i::rest) L ds w:=by
 have hp:0<buf.size:=(Array.getElem?_eq_some_iff.1 hv).1
 have hb:buf.getD 0 undef=v:=by simp[Array.getD_eq_getD_getElem?,hv]
 refine recv_step hi hd hx ht hz (fun fr cs es hs=>?_) h
 have:=step_lone_recv_buf ok hs hc hp
 rw[hb]at this
 exact this
theorem RC_recvz {d t:Nat}{x:Operand}{z:Value}{c cap s r:Nat}{tm ok:Bool}(hi:nth l i=some ⟨some d,.recv t x ok,ty,ps,af,none⟩)(hd:Nat.blt d n=true)
  (hx:od L x=some (.chan (some c))) {dir:ChanDir} {el:TypeId} (ht:P.underlying t=some (.chan dir el)) (hz:(zeroValue el).run P w= .ok z w)
  (hc:w.heap[c]? = some (.chan cap #[] true s r tm))
  (h:RC P n l.toArray Q rest ((d,rgot ok z false)::L) ds w):RC P n l.toArray Q (i::rest) L ds w :=
 recv_step hi hd hx ht hz (fun _ _ _ hs=>step_lone_recv_shut ok hs hc) h
end
def chn (c cap:Nat)(vs:List Value)(cl:Bool)(s r:Nat):Res:=blk c (.chan cap vs.toArray cl s r false)
section
variable {w0 w:World} {G0 G:PH} {S:List Nat} {B:List Res}
theorem Hp.chAt (H:Hp w0 G0 S w G B){k c cap s r:Nat}{vs:List Value}{cl:Bool}(hk:nth B k=some (chn c cap vs cl s r)):w.heap[c]? = some (.chan cap vs.toArray cl s r false):=H.at hk
theorem Hp.chSet (H:Hp w0 G0 S w G B){k c cap s r:Nat}{vs:List Value}{cl:Bool}(hk:nth B k=some (chn c cap vs cl s r))(cap':Nat)(vs':List Value)(cl':Bool)(s' r':Nat){w':World}
  (hw:w'={w with heap:=w.heap.setIfInBounds c (.chan cap' vs'.toArray cl' s' r' false)}):Hp w0 G0 S w' G (setN B k (chn c cap' vs' cl' s' r')):=by
 subst hw
 have hc:=H.chAt hk
 have hlt:c<w.heap.size:=(Array.getElem?_eq_some_iff.1 hc).1
 refine H.upd (w':={w with heap:=w.heap.setIfInBounds c (.chan cap' vs'.toArray cl' s' r' false)}) hk rfl rfl rfl (by simp) (fun b hb hn=>?_) (chn c cap' vs' cl' s' r') ?_ (fun b hb=> .inl hb) (by simp[chn,blk])
 ·have:b≠c:=fun e=>hn (by simp[chn,blk,e])
  show(w.heap.setIfInBounds c _)[b]? = _
  rw[Array.getElem?_setIfInBounds_ne (Ne.symm this)]
 ·show(w.heap.setIfInBounds c _)[c]? = some _
  simp[hlt]
variable {P:Program} {n:Nat} {Q:Post} {L:Slots} {ds:List Deferred} {l:List Oper} {ty:TypeId} {ps:String} {af:Array Edge} {rest:List Nat} {i:Nat}
theorem o_mkchan (H:Hp w0 G0 S w G B){ops:Array Oper}{rest:List Oper}{d m:Nat}{t el:TypeId}{x:Operand}{dir:ChanDir}{inf:TypeInfo}(ht:P.underlying t=some (.chan dir el))(hi:∀w,(typeInfo el).run P w= .ok inf w)(hd:Nat.blt d n=true)(hx:od L x=some (.int .i64 m))
  (hm:inf.bytes*m≤281474976710544) (h63:m≤1099511627776)
  (next:∀c w',w.heap.size≤c→Hp w0 G0 S w' G (chn c m [] false 0 0::B)→R P n ops Q rest ((d,.chan (some c))::L) ds w'):R P n ops Q (⟨some d,.makeChan t x,ty,ps,af,none⟩::rest) L ds w :=
 R_run (w' := w.alloc (.chan m #[] false 0 0 false)) hd (fun a ha => by
  have h3:((inf.bytes*m:Nat):Int)≤281474976710544:=by omega
  rw[Int.natCast_mul]at h3
  have n1:¬((m:Int)<0):=by omega
  have n2:¬(9223372036854775807<(m:Int)):=by omega
  have n3:¬(281474976710544<(inf.bytes:Int)*m):=by omega
  simp[execOp,ha.eval hx,Instr.makeChan,asInt,asIntOf,run_underlying ht,hi,n1,n2,n3,IntKind.max,IntKind.bits,IntKind.signed]) (next w.heap.size _ (Nat.le_refl _) (H.add (Ext.alloc w _) (chn w.heap.size m [] false 0 0) (alloc_new w _) (by simp[chn,blk]) (by simp[chn,blk])))
theorem c_send (H:Hp w0 G0 S w G B)(k:Nat){x y:Operand}{v:Value}{c cap s r:Nat}{vs:List Value}(hi:nth l i=some ⟨none,.send x y,ty,ps,af,none⟩)
  (hk:nth B k=some (chn c cap vs false s r)) (hx:od L x=some (.chan (some c))) (hy:od L y=some v) (hroom:vs.length<cap)
  (next:∀w',Hp w0 G0 S w' G (setN B k (chn c cap (vs++[v]) false (s+1) r))→RC P n l.toArray Q rest L ds w'):RC P n l.toArray Q (i::rest) L ds w :=
 RC_send hi hx hy (H.chAt hk) (by simpa using hroom) (next _ (H.chSet hk cap (vs++[v]) false (s+1) r (by simp[World.setChan])))
theorem c_recv (H:Hp w0 G0 S w G B)(k:Nat){d t:Nat}{x:Operand}{v z:Value}{c cap s r:Nat}{vs:List Value}{cl:Bool}(hi:nth l i=some ⟨some d,.recv t x true,ty,ps,af,none⟩)(hd:Nat.blt d n=true)
  (hk:nth B k=some (chn c cap (v::vs) cl s r)) (hx:od L x=some (.chan (some c))) {dir:ChanDir} {el:TypeId} (ht:P.underlying t=some (.chan dir el)) (hz:∀w,(zeroValue el).run P w= .ok z w)
  (next:∀w',Hp w0 G0 S w' G (setN B k (chn c cap vs cl s (r+1)))→RC P n l.toArray Q rest ((d,.tuple #[v,.bool true])::L) ds w'):RC P n l.toArray Q (i::rest) L ds w :=
 RC_recv hi hd hx ht (hz w) (H.chAt hk) (by simp) (next _ (H.chSet hk cap vs cl s (r + 1) (by
  simp only[World.setChan]
  congr 2
  simp)))
theorem c_recvz (H:Hp w0 G0 S w G B)(k:Nat){d t:Nat}{x:Operand}{z:Value}{c cap s r:Nat}(hi:nth l i=some ⟨some d,.recv t x true,ty,ps,af,none⟩)(hd:Nat.blt d n=true)
  (hk:nth B k=some (chn c cap [] true s r)) (hx:od L x=some (.chan (some c))) {dir:ChanDir} {el:TypeId} (ht:P.underlying t=some (.chan dir el)) (hz:∀w,(zeroValue el).run P w= .ok z w)
  (h:RC P n l.toArray Q rest ((d,.tuple #[z,.bool false])::L) ds w):RC P n l.toArray Q (i::rest) L ds w :=
 RC_recvz hi hd hx ht (hz w) (H.chAt hk) h
theorem o_load_D {X:PH}(hs:PSub X w){ops:Array Oper}{rest:List Oper}{d:Nat}{t:TypeId}{x:Operand}{b o:Nat}{v:Value}(hA:∀w,(isAgg t).run P w= .ok false w)(hd:Nat.blt d n=true)(hx:od L x=some (.pointer (some ⟨b,o,none⟩)))(hc:PCell X b o v)
  (next:R P n ops Q rest ((d,v)::L) ds w):R P n ops Q (⟨some d,.load t x,ty,ps,af,none⟩::rest) L ds w :=
 R_run hd (fun a ha => by
  have:=hc.cell hs
  simp[execOp,Instr.loadAt,ha.eval hx,Instr.sureAddr,loadVar,hA,this]) next
end
def bodyPostC (P:Program)(fn:Func)(R:Ending→World→Prop):Post
 | .ret, a, w => ∃ ats ty cst c cap s r, ∃ buf : Array Value, a.defers = [⟨.builtin .close ats ty cst, #[.chan (some c)]⟩] ∧ w.heap[c]? = some (.chan cap buf false s r false) ∧
   ∃ v, (results fn a.tmps).run P { w with heap := w.heap.setIfInBounds c (.chan cap buf true s r false) } = .ok v { w with heap := w.heap.setIfInBounds c (.chan cap buf true s r false) } ∧
    R (.returned v) {w with heap:=w.heap.setIfInBounds c (.chan cap buf true s r false)}
 | .outgrown,_,w=>R .outgrown w
 | _,_,_=>False
theorem calls_of_WC {P:Program}{f:FuncId}{fn:Func}{c:Code}{l:List Value}{w:World}{R:Ending→World→Prop}{n:Nat}
  (hf:P.funcs[f]? = some fn) (hb:fn.body=some c) (hn:fn.ntmps=n) (hl:Nat.ble l.length n=true)
  (h:W P n (bodyPostC P fn R) c (initL 0 l) [] w):Calls P f l.toArray w R:=by
 intro cs
 let b:Frame:={(default:Frame) with fn:=f,kind:= .normal}
 have henter : Frame.enter P f l.toArray .normal = b.at { tmps := l.toArray ++ Array.replicate (fn.ntmps - l.toArray.size) undef, defers := [] } [.code c] := by
  simp[Frame.enter,Frame.at,hf,hb,b]
 have h0 : FrL n (initL 0 l) [] { tmps := l.toArray ++ Array.replicate (fn.ntmps - l.toArray.size) undef, defers := [] } := by
  refine⟨?_,?_,rfl⟩
  ·have:l.length≤n:=by simpa using hl
   simp[hn];omega
  ·intro t v hv
   obtain⟨_,h2⟩:=lk_initL l 0 t v hv
   have hlt:t<l.length:=by
    have:=List.getElem?_eq_some_iff.1 h2
    obtain⟨h,_⟩:=this
    simpa using h
   simp only[Nat.sub_zero]at h2
   rw[Array.getElem?_append_left (by simpa using hlt)]
   simpa using h2
 obtain⟨e,a',w',hq,harr⟩:=h _ h0 b [] cs
 rw[←henter]at harr
 cases e with
 | ret =>
  obtain⟨ats,ty,cst,c,cap,s,r,buf,hd,hc,v,hr,hR⟩:=hq
  obtain⟨todo,hs⟩:=harr
  refine⟨.returned v,_,{b.at a' todo with mode:= .returning,defers:=[]},hR,Steps.trans hs (.one (step_lone_go ?_)),rfl,rfl,rfl,rfl,fn,hf,hr⟩
  have:=run_close_open (P:=P) (w:=w') ats ty hc
  simp[stepG,unwind,callDeferred,Frame.at,hd,invoke,builtin,this]
 | normal=>exact hq.elim
 | panic chain=>exact hq.elim
 | exit id=>exact hq.elim
 | goto l=>exact hq.elim
 | outgrown=>exact⟨.outgrown,w',b,hq,harr.resolve_left (by simp[b]),rfl,trivial⟩
section
variable {P:Program} {n:Nat} {ops:Array Oper} {Q:Post} {rest:List Oper} {L:Slots} {ds:List Deferred} {w w0:World} {G0:PH} {S:List Nat} {G:PH} {B:List Res}
variable {ty:TypeId} {ps:String} {af:Array Edge}
theorem o_deferclose {x:Operand}{v:Value}{ts:Array TypeId}(hx:od L x=some v)
  (next:∀cst,R P n ops Q rest L (⟨.builtin .close ts ty cst,#[v]⟩::ds) w):R P n ops Q (⟨none,.defer ⟨.builtin .close,#[x],ts⟩,ty,ps,af,none⟩::rest) L ds w:=by
 intro a ha
 refine wpList_plain rfl fun K hK=>?_
 obtain⟨cst,hr⟩:∃cst,(execOp a.eval ⟨none,.defer ⟨.builtin .close,#[x],ts⟩,ty,ps,af,none⟩).run P w= .ok (.defer ⟨.builtin .close ts ty cst,#[v]⟩) w :=
  ⟨_,by simp[execOp,resolve,ha.eval hx];rfl⟩
 unfold Oper.wp
 rw[hr,Oper.upon_defer]
 exact hK _ _ (next cst _ ⟨ha.size,ha.get,by simp[Act.put,ha.defers]⟩)
theorem ret_close (k:Nat)(H:Hp w0 G0 S w G B){fn:Func}{C:Ending→World→Prop}{c cap s r:Nat}{vs:List Value}{ats:Array TypeId}{cst:Array Bool}{rs:List ResultVar}(hk:nth B k=some (chn c cap vs false s r))(hr:fn.results=rs.toArray)
  (next:∀w',Hp w0 G0 S w' G (setN B k (chn c cap vs true s r))→∃us,RV P w' L rs us∧C (.returned (tupleOf us)) w') :
  N n (bodyPostC P fn C) .ret L [⟨.builtin .close ats ty cst,#[.chan (some c)]⟩] w:=by
 intro a ha
 have H':=H.chSet hk cap vs true s r rfl
 obtain⟨us,h1,h2⟩:=next _ H'
 exact⟨ats,ty,cst,c,cap,s,r,vs.toArray,ha.defers,H.chAt hk,_,run_results' hr ⟨ha.size,ha.get,rfl⟩ h1,h2⟩
end
def CV {α:Type}(V:PH→α→Value→Prop)(G:PH)(vs:List Value)(xs:List α):Prop:=All2 (fun v x=>V G x v) vs xs
section
variable {α:Type} {V:PH→α→Value→Prop} {G G':PH} {vs:List Value} {l:List α} {k:Nat} {v:Value} {x:α}
theorem CV.len (h:CV V G vs l):vs.length=l.length:=All2.len h
theorem CV.snoc (h:CV V G vs l)(hx:V G x v):CV V G (vs++[v]) (l++[x]):=All2.snoc h hx
theorem CV.nil_len (h:CV V G [] (l.drop k)):l.length≤k:=by
 have:=h.len
 simp only[List.length_nil,List.length_drop]at this
 omega
theorem CV.pop (h:CV V G (v::vs) (l.drop k)):∃x,l[k]? = some x∧V G x v∧CV V G vs (l.drop (k+1)):=by
 generalize e:l.drop k=m at h
 cases h with
 | cons hx hr =>
  rename_i x r
  have hk:k<l.length:=by
   rcases Nat.lt_or_ge k l.length with h|h
   ·exact h
   ·rw[List.drop_eq_nil_of_le h]at e;cases e
  rw[List.drop_eq_getElem_cons hk]at e
  injection e with e1 e2
  exact⟨x,by rw[List.getElem?_eq_getElem hk,e1],hx,by rw[e2];exact hr⟩
theorem CV.mono (hm:∀x v,V G x v→V G' x v)(h:CV V G vs l):CV V G' vs l:=by
 induction h with
 | nil=>exact .nil
 | cons h _ ih=>exact .cons (hm _ _ h) ih
end
def partV:PH→BPart→Value→Prop:=fun G x v=>∃cs,v= .agg cs.toArray∧partE G x cs
theorem CV.up {G G':PH}{vs:List Value}{l:List BPart}(h:CV partV G vs l)(hle:PLe G G'):CV partV G' vs l:=h.mono (fun _ _ ⟨cs,e,hE⟩=>⟨cs,e,MonoE.up (E:=partE) hle hE⟩)
end Fw
namespace Go.Proofs.Tst
open Go Fw
instance:CF Tryz.prog 10:=⟨Tryz.call10⟩
instance:CF Tryz.prog 100:=⟨Tryz.call100⟩
instance:CF Tryz.prog 101:=⟨Tryz.call101⟩
instance:CF Tryz.prog 102:=⟨Tryz.call102⟩
instance:CF Tryz.prog 103:=⟨Tryz.call103⟩
instance:CF Tryz.prog 104:=⟨Tryz.call104⟩
instance:CF Tryz.prog 105:=⟨Tryz.call105⟩
instance:CF Tryz.prog 106:=⟨Tryz.call106⟩
instance:CF Tryz.prog 107:=⟨Tryz.call107⟩
instance:CF Tryz.prog 108:=⟨Tryz.call108⟩
instance:CF Tryz.prog 109:=⟨Tryz.call109⟩
instance:CF Tryz.prog 11:=⟨Tryz.call11⟩
instance:CF Tryz.prog 110:=⟨Tryz.call110⟩
instance:CF Tryz.prog 111:=⟨Tryz.call111⟩
instance:CF Tryz.prog 112:=⟨Tryz.call112⟩
instance:CF Tryz.prog 115:=⟨Tryz.call115⟩
instance:CF Tryz.prog 116:=⟨Tryz.call116⟩
instance:CF Tryz.prog 117:=⟨Tryz.call117⟩
instance:CF Tryz.prog 118:=⟨Tryz.call118⟩
instance:CF Tryz.prog 123:=⟨Tryz.call123⟩
instance:CF Tryz.prog 125:=⟨Tryz.call125⟩
instance:CF Tryz.prog 130:=⟨Tryz.call130⟩
instance:CF Tryz.prog 131:=⟨Tryz.call131⟩
instance:CF Tryz.prog 132:=⟨Tryz.call132⟩
instance:CF Tryz.prog 133:=⟨Tryz.call133⟩
instance:CF Tryz.prog 134:=⟨Tryz.call134⟩
instance:CF Tryz.prog 135:=⟨Tryz.call135⟩
instance:CF Tryz.prog 136:=⟨Tryz.call136⟩
instance:CF Tryz.prog 137:=⟨Tryz.call137⟩
instance:CF Tryz.prog 138:=⟨Tryz.call138⟩
instance:CF Tryz.prog 139:=⟨Tryz.call139⟩
instance:CF Tryz.prog 140:=⟨Tryz.call140⟩
instance:CF Tryz.prog 141:=⟨Tryz.call141⟩
instance:CF Tryz.prog 142:=⟨Tryz.call142⟩
instance:CF Tryz.prog 146:=⟨Tryz.call146⟩
instance:CF Tryz.prog 147:=⟨Tryz.call147⟩
instance:CF Tryz.prog 148:=⟨Tryz.call148⟩
instance:CF Tryz.prog 149:=⟨Tryz.call149⟩
instance:CF Tryz.prog 150:=⟨Tryz.call150⟩
instance:CF Tryz.prog 151:=⟨Tryz.call151⟩
instance:CF Tryz.prog 152:=⟨Tryz.call152⟩
instance:CF Tryz.prog 153:=⟨Tryz.call153⟩
instance:CF Tryz.prog 154:=⟨Tryz.call154⟩
instance:CF Tryz.prog 155:=⟨Tryz.call155⟩
instance:CF Tryz.prog 156:=⟨Tryz.call156⟩
instance:CF Tryz.prog 157:=⟨Tryz.call157⟩
instance:CF Tryz.prog 158:=⟨Tryz.call158⟩
instance:CF Tryz.prog 159:=⟨Tryz.call159⟩
instance:CF Tryz.prog 162:=⟨Tryz.call162⟩
instance:CF Tryz.prog 163:=⟨Tryz.call163⟩
instance:CF Tryz.prog 164:=⟨Tryz.call164⟩
instance:CF Tryz.prog 165:=⟨Tryz.call165⟩
instance:CF Tryz.prog 166:=⟨Tryz.call166⟩
instance:CF Tryz.prog 167:=⟨Tryz.call167⟩
instance:CF Tryz.prog 168:=⟨Tryz.call168⟩
instance:CF Tryz.prog 169:=⟨Tryz.call169⟩
instance:CF Tryz.prog 170:=⟨Tryz.call170⟩
instance:CF Tryz.prog 171:=⟨Tryz.call171⟩
instance:CF Tryz.prog 172:=⟨Tryz.call172⟩
instance:CF Tryz.prog 173:=⟨Tryz.call173⟩
instance:CF Tryz.prog 174:=⟨Tryz.call174⟩
instance:CF Tryz.prog 175:=⟨Tryz.call175⟩
instance:CF Tryz.prog 176:=⟨Tryz.call176⟩
instance:CF Tryz.prog 180:=⟨Tryz.call180⟩
instance:CF Tryz.prog 181:=⟨Tryz.call181⟩
instance:CF Tryz.prog 182:=⟨Tryz.call182⟩
instance:CF Tryz.prog 183:=⟨Tryz.call183⟩
instance:CF Tryz.prog 184:=⟨Tryz.call184⟩
instance:CF Tryz.prog 185:=⟨Tryz.call185⟩
instance:CF Tryz.prog 186:=⟨Tryz.call186⟩
instance:CF Tryz.prog 198:=⟨Tryz.call198⟩
instance:CF Tryz.prog 199:=⟨Tryz.call199⟩
instance:CF Tryz.prog 200:=⟨Tryz.call200⟩
instance:CF Tryz.prog 201:=⟨Tryz.call201⟩
instance:CF Tryz.prog 202:=⟨Tryz.call202⟩
instance:CF Tryz.prog 203:=⟨Tryz.call203⟩
instance:CF Tryz.prog 206:=⟨Tryz.call206⟩
instance:CF Tryz.prog 207:=⟨Tryz.call207⟩
instance:CF Tryz.prog 208:=⟨Tryz.call208⟩
instance:CF Tryz.prog 209:=⟨Tryz.call209⟩
instance:CF Tryz.prog 210:=⟨Tryz.call210⟩
instance:CF Tryz.prog 211:=⟨Tryz.call211⟩
instance:CF Tryz.prog 212:=⟨Tryz.call212⟩
instance:CF Tryz.prog 213:=⟨Tryz.call213⟩
instance:CF Tryz.prog 214:=⟨Tryz.call214⟩
instance:CF Tryz.prog 215:=⟨Tryz.call215⟩
instance:CF Tryz.prog 216:=⟨Tryz.call216⟩
instance:CF Tryz.prog 22:=⟨Tryz.call22⟩
instance:CF Tryz.prog 227:=⟨Tryz.call227⟩
instance:CF Tryz.prog 228:=⟨Tryz.call228⟩
instance:CF Tryz.prog 229:=⟨Tryz.call229⟩
instance:CF Tryz.prog 23:=⟨Tryz.call23⟩
instance:CF Tryz.prog 231:=⟨Tryz.call231⟩
instance:CF Tryz.prog 232:=⟨Tryz.call232⟩
instance:CF Tryz.prog 24:=⟨Tryz.call24⟩
instance:CF Tryz.prog 244:=⟨Tryz.call244⟩
instance:CF Tryz.prog 245:=⟨Tryz.call245⟩
instance:CF Tryz.prog 246:=⟨Tryz.call246⟩
instance:CF Tryz.prog 248:=⟨Tryz.call248⟩
instance:CF Tryz.prog 25:=⟨Tryz.call25⟩
instance:CF Tryz.prog 256:=⟨Tryz.call256⟩
instance:CF Tryz.prog 257:=⟨Tryz.call257⟩
instance:CF Tryz.prog 26:=⟨Tryz.call26⟩
instance:CF Tryz.prog 27:=⟨Tryz.call27⟩
instance:CF Tryz.prog 28:=⟨Tryz.call28⟩
instance:CF Tryz.prog 29:=⟨Tryz.call29⟩
instance:CF Tryz.prog 30:=⟨Tryz.call30⟩
instance:CF Tryz.prog 33:=⟨Tryz.call33⟩
instance:CF Tryz.prog 37:=⟨Tryz.call37⟩
instance:CF Tryz.prog 38:=⟨Tryz.call38⟩
instance:CF Tryz.prog 39:=⟨Tryz.call39⟩
instance:CF Tryz.prog 40:=⟨Tryz.call40⟩
instance:CF Tryz.prog 41:=⟨Tryz.call41⟩
instance:CF Tryz.prog 42:=⟨Tryz.call42⟩
instance:CF Tryz.prog 43:=⟨Tryz.call43⟩
instance:CF Tryz.prog 44:=⟨Tryz.call44⟩
instance:CF Tryz.prog 45:=⟨Tryz.call45⟩
instance:CF Tryz.prog 49:=⟨Tryz.call49⟩
instance:CF Tryz.prog 50:=⟨Tryz.call50⟩
instance:CF Tryz.prog 64:=⟨Tryz.call64⟩
instance:CF Tryz.prog 65:=⟨Tryz.call65⟩
instance:CF Tryz.prog 66:=⟨Tryz.call66⟩
instance:CF Tryz.prog 67:=⟨Tryz.call67⟩
instance:CF Tryz.prog 68:=⟨Tryz.call68⟩
instance:CF Tryz.prog 69:=⟨Tryz.call69⟩
instance:CF Tryz.prog 70:=⟨Tryz.call70⟩
instance:CF Tryz.prog 71:=⟨Tryz.call71⟩
instance:CF Tryz.prog 72:=⟨Tryz.call72⟩
instance:CF Tryz.prog 73:=⟨Tryz.call73⟩
instance:CF Tryz.prog 74:=⟨Tryz.call74⟩
instance:CF Tryz.prog 75:=⟨Tryz.call75⟩
instance:CF Tryz.prog 76:=⟨Tryz.call76⟩
instance:CF Tryz.prog 77:=⟨Tryz.call77⟩
instance:CF Tryz.prog 78:=⟨Tryz.call78⟩
instance:CF Tryz.prog 79:=⟨Tryz.call79⟩
instance:CF Tryz.prog 80:=⟨Tryz.call80⟩
instance:CF Tryz.prog 81:=⟨Tryz.call81⟩
instance:CF Tryz.prog 82:=⟨Tryz.call82⟩
instance:CF Tryz.prog 83:=⟨Tryz.call83⟩
instance:CF Tryz.prog 86:=⟨Tryz.call86⟩
instance:CF Tryz.prog 87:=⟨Tryz.call87⟩
instance:CF Tryz.prog 88:=⟨Tryz.call88⟩
instance:CF Tryz.prog 89:=⟨Tryz.call89⟩
instance:CF Tryz.prog 90:=⟨Tryz.call90⟩
instance:CF Tryz.prog 91:=⟨Tryz.call91⟩
instance:CF Tryz.prog 92:=⟨Tryz.call92⟩
instance:CF Tryz.prog 93:=⟨Tryz.call93⟩
instance:CF Tryz.prog 94:=⟨Tryz.call94⟩
instance:CF Tryz.prog 96:=⟨Tryz.call96⟩
instance:CF Tryz.prog 97:=⟨Tryz.call97⟩
instance:CF Tryz.prog 98:=⟨Tryz.call98⟩
instance:CF Tryz.prog 99:=⟨Tryz.call99⟩
instance:FA Tryz.prog 119 0 0:=⟨_,_,_,Tryz.runUnderlying119,rfl,Tryz.sizeOf3,rfl⟩
instance:FA Tryz.prog 119 1 1:=⟨_,_,_,Tryz.runUnderlying119,rfl,Tryz.sizeOf9,rfl⟩
instance:FA Tryz.prog 119 2 2:=⟨_,_,_,Tryz.runUnderlying119,rfl,Tryz.sizeOf4,rfl⟩
instance:FA Tryz.prog 119 3 3:=⟨_,_,_,Tryz.runUnderlying119,rfl,Tryz.sizeOf37,rfl⟩
instance:FA Tryz.prog 132 0 0:=⟨_,_,_,Tryz.runUnderlying132,rfl,Tryz.sizeOf23,rfl⟩
instance:FA Tryz.prog 132 1 1:=⟨_,_,_,Tryz.runUnderlying132,rfl,Tryz.sizeOf24,rfl⟩
instance:FA Tryz.prog 139 0 0:=⟨_,_,_,Tryz.runUnderlying139,rfl,Tryz.sizeOf3,rfl⟩
instance:FA Tryz.prog 139 1 1:=⟨_,_,_,Tryz.runUnderlying139,rfl,Tryz.sizeOf37,rfl⟩
instance:FA Tryz.prog 139 2 2:=⟨_,_,_,Tryz.runUnderlying139,rfl,Tryz.sizeOf3,rfl⟩
instance:FA Tryz.prog 149 0 0:=⟨_,_,_,Tryz.runUnderlying149,rfl,Tryz.sizeOf147,rfl⟩
instance:FA Tryz.prog 149 1 1:=⟨_,_,_,Tryz.runUnderlying149,rfl,Tryz.sizeOf84,rfl⟩
instance:FA Tryz.prog 161 0 0:=⟨_,_,_,Tryz.runUnderlying161,rfl,Tryz.sizeOf158,rfl⟩
instance:FA Tryz.prog 161 1 2:=⟨_,_,_,Tryz.runUnderlying161,rfl,Tryz.sizeOf149,rfl⟩
instance:FA Tryz.prog 161 2 4:=⟨_,_,_,Tryz.runUnderlying161,rfl,Tryz.sizeOf159,rfl⟩
instance:FA Tryz.prog 164 0 0:=⟨_,_,_,Tryz.runUnderlying164,rfl,Tryz.sizeOf9,rfl⟩
instance:FA Tryz.prog 164 1 1:=⟨_,_,_,Tryz.runUnderlying164,rfl,Tryz.sizeOf84,rfl⟩
instance:FA Tryz.prog 196 0 0:=⟨_,_,_,Tryz.runUnderlying196,rfl,Tryz.sizeOf3,rfl⟩
instance:FA Tryz.prog 196 1 1:=⟨_,_,_,Tryz.runUnderlying196,rfl,Tryz.sizeOf37,rfl⟩
instance:FA Tryz.prog 196 2 2:=⟨_,_,_,Tryz.runUnderlying196,rfl,Tryz.sizeOf3,rfl⟩
instance:FA Tryz.prog 198 0 0:=⟨_,_,_,Tryz.runUnderlying198,rfl,Tryz.sizeOf9,rfl⟩
instance:FA Tryz.prog 198 1 1:=⟨_,_,_,Tryz.runUnderlying198,rfl,Tryz.sizeOf4,rfl⟩
instance:FA Tryz.prog 198 2 2:=⟨_,_,_,Tryz.runUnderlying198,rfl,Tryz.sizeOf37,rfl⟩
instance:FA Tryz.prog 201 0 0:=⟨_,_,_,Tryz.runUnderlying201,rfl,Tryz.sizeOf9,rfl⟩
instance:FA Tryz.prog 201 1 1:=⟨_,_,_,Tryz.runUnderlying201,rfl,Tryz.sizeOf51,rfl⟩
instance:FA Tryz.prog 254 0 0:=⟨_,_,_,Tryz.runUnderlying254,rfl,Tryz.sizeOf37,rfl⟩
instance:FA Tryz.prog 254 1 1:=⟨_,_,_,Tryz.runUnderlying254,rfl,Tryz.sizeOf3,rfl⟩
instance:FA Tryz.prog 27 0 0:=⟨_,_,_,Tryz.runUnderlying27,rfl,Tryz.sizeOf23,rfl⟩
instance:FA Tryz.prog 27 1 1:=⟨_,_,_,Tryz.runUnderlying27,rfl,Tryz.sizeOf24,rfl⟩
instance:FA Tryz.prog 27 2 2:=⟨_,_,_,Tryz.runUnderlying27,rfl,Tryz.sizeOf25,rfl⟩
instance:FA Tryz.prog 39 0 0:=⟨_,_,_,Tryz.runUnderlying39,rfl,Tryz.sizeOf3,rfl⟩
instance:FA Tryz.prog 39 1 1:=⟨_,_,_,Tryz.runUnderlying39,rfl,Tryz.sizeOf9,rfl⟩
instance:FA Tryz.prog 39 2 2:=⟨_,_,_,Tryz.runUnderlying39,rfl,Tryz.sizeOf4,rfl⟩
instance:FA Tryz.prog 39 3 3:=⟨_,_,_,Tryz.runUnderlying39,rfl,Tryz.sizeOf37,rfl⟩
instance:FA Tryz.prog 41 0 0:=⟨_,_,_,Tryz.runUnderlying41,rfl,Tryz.sizeOf9,rfl⟩
instance:FA Tryz.prog 41 1 1:=⟨_,_,_,Tryz.runUnderlying41,rfl,Tryz.sizeOf4,rfl⟩
instance:FA Tryz.prog 41 2 2:=⟨_,_,_,Tryz.runUnderlying41,rfl,Tryz.sizeOf37,rfl⟩
instance:FA Tryz.prog 54 0 0:=⟨_,_,_,Tryz.runUnderlying54,rfl,Tryz.sizeOf50,rfl⟩
instance:FA Tryz.prog 54 1 1:=⟨_,_,_,Tryz.runUnderlying54,rfl,Tryz.sizeOf51,rfl⟩
instance:FA Tryz.prog 54 2 2:=⟨_,_,_,Tryz.runUnderlying54,rfl,Tryz.sizeOf52,rfl⟩
instance:FA Tryz.prog 67 0 0:=⟨_,_,_,Tryz.runUnderlying67,rfl,Tryz.sizeOf9,rfl⟩
instance:FA Tryz.prog 67 1 1:=⟨_,_,_,Tryz.runUnderlying67,rfl,Tryz.sizeOf24,rfl⟩
instance:FA Tryz.prog 90 0 0:=⟨_,_,_,Tryz.runUnderlying90,rfl,Tryz.sizeOf9,rfl⟩
instance:FA Tryz.prog 90 1 1:=⟨_,_,_,Tryz.runUnderlying90,rfl,Tryz.sizeOf4,rfl⟩
instance:FA Tryz.prog 90 2 2:=⟨_,_,_,Tryz.runUnderlying90,rfl,Tryz.sizeOf37,rfl⟩
instance:FA Tryz.prog 90 3 3:=⟨_,_,_,Tryz.runUnderlying90,rfl,Tryz.sizeOf88,rfl⟩
instance:AG Tryz.prog 119 true:=⟨Tryz.isAgg119⟩
instance:AG Tryz.prog 132 true:=⟨Tryz.isAgg132⟩
instance:AG Tryz.prog 139 true:=⟨Tryz.isAgg139⟩
instance:AG Tryz.prog 147 false:=⟨Tryz.isAgg147⟩
instance:AG Tryz.prog 149 true:=⟨Tryz.isAgg149⟩
instance:AG Tryz.prog 159 false:=⟨Tryz.isAgg159⟩
instance:AG Tryz.prog 164 true:=⟨Tryz.isAgg164⟩
instance:AG Tryz.prog 196 true:=⟨Tryz.isAgg196⟩
instance:AG Tryz.prog 198 true:=⟨Tryz.isAgg198⟩
instance:AG Tryz.prog 201 true:=⟨Tryz.isAgg201⟩
instance:AG Tryz.prog 23 false:=⟨Tryz.isAgg23⟩
instance:AG Tryz.prog 24 false:=⟨Tryz.isAgg24⟩
instance:AG Tryz.prog 25 false:=⟨Tryz.isAgg25⟩
instance:AG Tryz.prog 27 true:=⟨Tryz.isAgg27⟩
instance:AG Tryz.prog 3 false:=⟨Tryz.isAgg3⟩
instance:AG Tryz.prog 37 false:=⟨Tryz.isAgg37⟩
instance:AG Tryz.prog 39 true:=⟨Tryz.isAgg39⟩
instance:AG Tryz.prog 4 false:=⟨Tryz.isAgg4⟩
instance:AG Tryz.prog 41 true:=⟨Tryz.isAgg41⟩
instance:AG Tryz.prog 50 false:=⟨Tryz.isAgg50⟩
instance:AG Tryz.prog 51 false:=⟨Tryz.isAgg51⟩
instance:AG Tryz.prog 52 false:=⟨Tryz.isAgg52⟩
instance:AG Tryz.prog 54 true:=⟨Tryz.isAgg54⟩
instance:AG Tryz.prog 67 true:=⟨Tryz.isAgg67⟩
instance:AG Tryz.prog 84 false:=⟨Tryz.isAgg84⟩
instance:AG Tryz.prog 88 false:=⟨Tryz.isAgg88⟩
instance:AG Tryz.prog 9 false:=⟨Tryz.isAgg9⟩
instance:SZ Tryz.prog 119 4:=⟨Tryz.sizeOf119⟩
instance:SZ Tryz.prog 132 2:=⟨Tryz.sizeOf132⟩
instance:SZ Tryz.prog 139 3:=⟨Tryz.sizeOf139⟩
instance:SZ Tryz.prog 147 1:=⟨Tryz.sizeOf147⟩
instance:SZ Tryz.prog 149 2:=⟨Tryz.sizeOf149⟩
instance:SZ Tryz.prog 158 2:=⟨Tryz.sizeOf158⟩
instance:SZ Tryz.prog 159 1:=⟨Tryz.sizeOf159⟩
instance:SZ Tryz.prog 164 2:=⟨Tryz.sizeOf164⟩
instance:SZ Tryz.prog 196 3:=⟨Tryz.sizeOf196⟩
instance:SZ Tryz.prog 198 3:=⟨Tryz.sizeOf198⟩
instance:SZ Tryz.prog 201 2:=⟨Tryz.sizeOf201⟩
instance:SZ Tryz.prog 23 1:=⟨Tryz.sizeOf23⟩
instance:SZ Tryz.prog 24 1:=⟨Tryz.sizeOf24⟩
instance:SZ Tryz.prog 25 1:=⟨Tryz.sizeOf25⟩
instance:SZ Tryz.prog 27 3:=⟨Tryz.sizeOf27⟩
instance:SZ Tryz.prog 3 1:=⟨Tryz.sizeOf3⟩
instance:SZ Tryz.prog 37 1:=⟨Tryz.sizeOf37⟩
instance:SZ Tryz.prog 39 4:=⟨Tryz.sizeOf39⟩
instance:SZ Tryz.prog 4 1:=⟨Tryz.sizeOf4⟩
instance:SZ Tryz.prog 41 3:=⟨Tryz.sizeOf41⟩
instance:SZ Tryz.prog 5 1:=⟨Tryz.sizeOf5⟩
instance:SZ Tryz.prog 50 1:=⟨Tryz.sizeOf50⟩
instance:SZ Tryz.prog 51 1:=⟨Tryz.sizeOf51⟩
instance:SZ Tryz.prog 52 1:=⟨Tryz.sizeOf52⟩
instance:SZ Tryz.prog 54 3:=⟨Tryz.sizeOf54⟩
instance:SZ Tryz.prog 67 2:=⟨Tryz.sizeOf67⟩
instance:SZ Tryz.prog 84 1:=⟨Tryz.sizeOf84⟩
instance:SZ Tryz.prog 88 1:=⟨Tryz.sizeOf88⟩
instance:SZ Tryz.prog 9 1:=⟨Tryz.sizeOf9⟩
instance:UL Tryz.prog 159 (.slice 164):=⟨Tryz.underlying159⟩
instance:UL Tryz.prog 182 (.slice 9):=⟨Tryz.underlying182⟩
instance:UL Tryz.prog 22 (.slice 5):=⟨Tryz.underlying22⟩
instance:UL Tryz.prog 23 (.slice 139):=⟨Tryz.underlying23⟩
instance:UL Tryz.prog 24 (.slice 41):=⟨Tryz.underlying24⟩
instance:UL Tryz.prog 243 .string:=⟨Tryz.underlying243⟩
instance:UL Tryz.prog 25 (.slice 67):=⟨Tryz.underlying25⟩
instance:UL Tryz.prog 266 (.slice 37):=⟨Tryz.underlying266⟩
instance:UL Tryz.prog 28 (.slice 39):=⟨Tryz.underlying28⟩
instance:UL Tryz.prog 37 (.slice 3):=⟨Tryz.underlying37⟩
instance:UL Tryz.prog 50 (.slice 196):=⟨Tryz.underlying50⟩
instance:UL Tryz.prog 51 (.slice 198):=⟨Tryz.underlying51⟩
instance:UL Tryz.prog 52 (.slice 201):=⟨Tryz.underlying52⟩
instance:UL Tryz.prog 55 (.slice 119):=⟨Tryz.underlying55⟩
instance:UL Tryz.prog 88 (.slice 84):=⟨Tryz.underlying88⟩
instance:UL Tryz.prog 9 .string:=⟨Tryz.underlying9⟩
instance:ZV Tryz.prog 132 [.slice none 0 0,.slice none 0 0]:=⟨_,Tryz.zeroValue132,rfl⟩
instance:ZV Tryz.prog 139 [.int .i64 0,.slice none 0 0,.int .i64 0]:=⟨_,Tryz.zeroValue139,rfl⟩
instance:ZV Tryz.prog 149 [.map none,.pointer none]:=⟨_,Tryz.zeroValue149,rfl⟩
instance:ZV Tryz.prog 164 [str [],.pointer none]:=⟨_,Tryz.zeroValue164,rfl⟩
instance:ZV Tryz.prog 27 [.slice none 0 0,.slice none 0 0,.slice none 0 0]:=⟨_,Tryz.zeroValue27,rfl⟩
instance:ZV Tryz.prog 3 [.int .i64 0]:=⟨_,Tryz.zeroValue3,rfl⟩
instance:ZV Tryz.prog 37 [.slice none 0 0]:=⟨_,Tryz.zeroValue37,rfl⟩
instance:ZV Tryz.prog 39 [.int .i64 0,str [],.bool false,.slice none 0 0]:=⟨_,Tryz.zeroValue39,rfl⟩
instance:ZV Tryz.prog 41 [str [],.bool false,.slice none 0 0]:=⟨_,Tryz.zeroValue41,rfl⟩
instance:ZV Tryz.prog 5 [.int .u8 0]:=⟨_,Tryz.zeroValue5,rfl⟩
instance:ZV Tryz.prog 67 [str [],.slice none 0 0]:=⟨_,Tryz.zeroValue67,rfl⟩
instance:ZV Tryz.prog 84 [.pointer none]:=⟨_,Tryz.zeroValue84,rfl⟩
instance:ZV Tryz.prog 9 [str []]:=⟨_,Tryz.zeroValue9,rfl⟩
end Go.Proofs.Tst
namespace Go.Proofs.Tst
open Go Fw Tryz
theorem w_szIntS_c (w0:World)(G0:PH)(hG:PSub G0 w0)(va:Value)(a:List (Int))(ha:RdI G0 va a)(left:Int)(hl: -1≤left∧left≤1099511627776) :
  Calls Tryz.prog 133 #[va,.int .i64 left] w0 (RetV w0 (fun v=>∃r:Int,v= .int .i64 r∧(r= -1∨(0≤r∧r+(List.length a:Int)≤left)))):=by
 obtain⟨aa,ka,rfl⟩:=ha.shape
 have hlima:a.length≤1099511627776:=ha.lim
 have H:=Hp.init hG
 refine calls_of_W (l:=[.slice aa a.length ka,.int .i64 left]) func133 Z ntmps133 Z (q2 (aG Z (q1 (pe 2 Z (lN Z (o_sub Z Z Z oO (aG Z (q3 (W_seq (q2 (pe 2 Z (q3 ?_))))))))))))
 refine W_cond Z ?_ ?_
 ·intro hc2
  try simp only[nrm]at hc2
  refine q2 (aG Z (q3 (W_ret (N_K_ret (rt1 results133 Z ?_)))))
  exact H.retV ⟨_,rfl,by first|omega|(simp only[wHeld,wItem,wSnap,wHelds,wItems,wSnaps,wDisk]at *; omega)⟩
 intro hc2'
 try simp only[nrm]at hc2'
 refine W_skip (N_K (q2 (pe 2 Z (q3 (W_ret (rt1 results133 Z ?_))))))
 exact H.retV ⟨_,rfl,by first|omega|(simp only[wHeld,wItem,wSnap,wHelds,wItems,wSnaps,wDisk]at *; omega)⟩
theorem w_szHeld_c (w0:World)(G0:PH)(hG:PSub G0 w0)(ca:List Value)(a:BHeld)(ha:heldE G0 a ca)(left:Int)(hl: -1≤left∧left≤1099511627776) :
  Calls Tryz.prog 130 #[.agg ca.toArray,.int .i64 left] w0 (RetV w0 (fun v=>∃r:Int,v= .int .i64 r∧(r= -1∨(0≤r∧r+(wHeld a:Int)≤left)))):=by
 obtain⟨_,_,_,rfl,_,hr1,_,_,_⟩:=ox ha
 have H:=Hp.init hG
 refine calls_of_W (l:=[_,.int .i64 left]) func130 Z ntmps130 Z (q2 (o_box H Z Z Z ?_));intro _ _ _ H
 refine aG Z (q1 (fA 1 Z (lB 0 H Z3 (mV Z (xc Z2 (w_szIntS_c _ _ H.sub _ _ hr1 _ oO) ?_)))))
 rintro _ _ ⟨_,rfl,ew3,⟨_,rfl,_⟩⟩
 skip
 have H:=H.step ew3;refine⟨_,rfl,?_⟩
 refine aG Z (q3 (W_seq (q2 (pe 2 Z (q3 ?_)))))
 refine W_cond Z ?_ ?_
 ·intro hc4
  try simp only[nrm]at hc4
  refine q2 (aG Z (q3 (W_ret (N_K_ret (rt1 results130 Z ?_)))))
  exact H.retV ⟨_,rfl,by first|omega|(simp only[wHeld,wItem,wSnap,wHelds,wItems,wSnaps,wDisk]at *; omega)⟩
 intro hc4'
 try simp only[nrm]at hc4'
 refine W_skip (N_K (q2 (pe 2 Z (q3 (W_ret (rt1 results130 Z ?_))))))
 exact H.retV ⟨_,rfl,by first|omega|(simp only[wHeld,wItem,wSnap,wHelds,wItems,wSnaps,wDisk]at *; omega)⟩
theorem w_szHeldS_c (w0:World)(G0:PH)(hG:PSub G0 w0)(va:Value)(a:List (BHeld))(ha:RdH G0 va a)(left:Int)(hl: -1≤left∧left≤1099511627776) :
  Calls Tryz.prog 64 #[va,.int .i64 left] w0 (RetV w0 (fun v=>∃r:Int,v= .int .i64 r∧(r= -1∨(0≤r∧r+(wHelds a:Int)≤left)))):=by
 obtain⟨aa,ka,rfl⟩:=ha.shape
 have hlima:a.length≤1099511627776:=ha.lim
 have H:=Hp.init hG
 refine calls_of_W (l:=[.slice aa a.length ka,.int .i64 left]) func64 Z ntmps64 Z (q2 (aG Z (q1 (pe 2 Z (lN Z (o_sub Z Z Z oO (aG Z (q3 (W_seq (q2 (pe 2 Z (q3 ?_))))))))))))
 refine W_cond Z ?_ ?_
 ·intro hc2
  try simp only[nrm]at hc2
  refine q2 (aG Z (q3 (W_ret (N_K_ret (rt1 results64 Z ?_)))))
  exact H.retV ⟨_,rfl,by first|omega|(simp only[wHeld,wItem,wSnap,wHelds,wItems,wSnaps,wDisk]at *; omega)⟩
 intro hc2'
 try simp only[nrm]at hc2'
 refine W_skip (N_K (W_seq (q2 (aG Z (q3 (W_block ?_))))))
 refine W_lp (hf:=(Sub.cons (t:=0) Z Sub.nil)) (J:=fun M w m=>∃(k:Nat) (lf:Int) (G:PH),M=[(5,.int .i64 (k:Int)),(1,.int .i64 lf)]∧PLe G0 G∧Hp w0 G0 [] w G []∧(k≤a.length∧0≤lf∧lf+(a.length:Int)+(cnt wHeld (a.take k):Int)≤left)∧m=(a.length-k)) (h0:=⟨0,(left-(a.length:Int)),_,Z,PLe.refl _,H,?inv,Z⟩) (round:=?round)
 case inv=>exact⟨by omega,by omega,by (simp only[List.take_zero,cnt];omega)⟩
 case round =>
  rintro _ _ _ ⟨k,lf,_,rfl,hle3,H,hinv3,rfl⟩
  have ha:=ha.up hle3
  obtain⟨_,_,_⟩:=hinv3
  refine W_seq (q2 (pe 2 Z (lN Z (pe 1 Z (q3 ?_)))))
  refine W_cond Z ?_ ?_
  ·intro hc4
   try simp only[nrm]at hc4
   refine W_skip (N_K (W_seq (W_block (q2 (pe 2 Z (iP k ha Z3 Z ?_))))));intro _ _ _ _ hz5 hE5 hrow5
   obtain⟨_,_,_,rfl,_,hr5,_,_,_⟩:=ox hE5
   refine o_loadagg_P H isAgg196 sizeOf196 Z Z hrow5 Z (mV Z ?_)
   refine xc Z2 (w_szHeld_c _ _ H.sub _ _ ⟨_,_,_,Z,⟨by first|omega|(dsimp only;omega),by first|omega|(dsimp only;omega)⟩,hr5,⟨by first|omega|(dsimp only;omega),by first|omega|(dsimp only;omega)⟩⟩ _ oO) ?_
   rintro _ _ ⟨_,rfl,ew6,⟨r6,rfl,_⟩⟩
   skip
   have H:=H.step ew6;refine⟨_,rfl,?_⟩
   refine aG Z (q1 (pe 2 Z (q3 ?_)))
   refine W_cond Z ?_ ?_
   ·intro hc7
    try simp only[nrm]at hc7
    refine q2 (aG Z (q3 (W_ret (N_B_ret (N_K_ret (N_LP_ret (N_B_ret (N_K_ret (rt1 results64 Z ?_)))))))))
    exact H.retV ⟨_,rfl,by first|omega|(simp only[wHeld,wItem,wSnap,wHelds,wItems,wSnaps,wDisk]at *; omega)⟩
   intro hc7'
   try simp only[nrm]at hc7'
   refine W_skip (N_B (N_K (W_region (mV Z (aD Z2 (aG Z (R_nil ?_)))))))
   refine N_lp (hJ:=⟨k+1,r6,_,Z,hle3,H,?inv,Z⟩) (hm:=?hm)
   case hm=>omega
   case inv=>exact⟨by omega,by omega,by (have hcs:=cnt_succ (c:=wHeld) hz5;omega)⟩
  intro hc4'
  try simp only[nrm]at hc4'
  refine W_exit (N_K_exit (N_LP_exit (N_B_same (N_K (q2 (pe 2 Z (q3 (W_ret (rt1 results64 Z ?_)))))))))
  have hce:=cnt_end (c:=wHeld) (show k=a.length by omega)
  exact H.retV ⟨_,rfl,by first|omega|(simp only[wHeld,wItem,wSnap,wHelds,wItems,wSnaps,wDisk]at *; omega)⟩
theorem w_szItem_c (w0:World)(G0:PH)(hG:PSub G0 w0)(ca:List Value)(a:BItem)(ha:itemE G0 a ca)(left:Int)(hl: -1≤left∧left≤1099511627776) :
  Calls Tryz.prog 131 #[.agg ca.toArray,.int .i64 left] w0 (RetV w0 (fun v=>∃r:Int,v= .int .i64 r∧(r= -1∨(0≤r∧r+(wItem a:Int)≤left)))):=by
 obtain⟨_,_,_,rfl,_,hr1,_,_⟩:=ox ha
 have H:=Hp.init hG
 refine calls_of_W (l:=[_,.int .i64 left]) func131 Z ntmps131 Z (q2 (o_box H Z Z Z ?_));intro _ _ _ H
 refine aG Z (q1 (mV Z (fA 0 Z (lB 0 H Z3 (lS Z (o_sub Z Z Z oO (aG Z (q3 (W_seq (q2 (pe 2 Z (q3 ?_))))))))))))
 refine W_cond Z ?_ ?_
 ·intro hc4
  try simp only[nrm]at hc4
  refine q2 (aG Z (q3 (W_ret (N_K_ret (rt1 results131 Z ?_)))))
  exact H.retV ⟨_,rfl,by first|omega|(simp only[wHeld,wItem,wSnap,wHelds,wItems,wSnaps,wDisk]at *; omega)⟩
 intro hc4'
 try simp only[nrm]at hc4'
 refine W_skip (N_K (q2 (fA 2 Z (lB 0 H Z3 (mV Z (xc Z2 (w_szIntS_c _ _ H.sub _ _ hr1 _ oO) ?_))))))
 rintro _ _ ⟨_,rfl,ew5,⟨_,rfl,_⟩⟩
 skip
 have H:=H.step ew5;refine⟨_,rfl,?_⟩
 refine aG Z (q3 (W_seq (q2 (pe 2 Z (q3 ?_)))))
 refine W_cond Z ?_ ?_
 ·intro hc6
  try simp only[nrm]at hc6
  refine q2 (aG Z (q3 (W_ret (N_K_ret (rt1 results131 Z ?_)))))
  exact H.retV ⟨_,rfl,by first|omega|(simp only[wHeld,wItem,wSnap,wHelds,wItems,wSnaps,wDisk]at *; omega)⟩
 intro hc6'
 try simp only[nrm]at hc6'
 refine W_skip (N_K (q2 (pe 2 Z (q3 (W_ret (rt1 results131 Z ?_))))))
 exact H.retV ⟨_,rfl,by first|omega|(simp only[wHeld,wItem,wSnap,wHelds,wItems,wSnaps,wDisk]at *; omega)⟩
theorem w_szItemS_c (w0:World)(G0:PH)(hG:PSub G0 w0)(va:Value)(a:List (BItem))(ha:RdItems G0 va a)(left:Int)(hl: -1≤left∧left≤1099511627776) :
  Calls Tryz.prog 65 #[va,.int .i64 left] w0 (RetV w0 (fun v=>∃r:Int,v= .int .i64 r∧(r= -1∨(0≤r∧r+(wItems a:Int)≤left)))):=by
 obtain⟨aa,ka,rfl⟩:=ha.shape
 have hlima:a.length≤1099511627776:=ha.lim
 have H:=Hp.init hG
 refine calls_of_W (l:=[.slice aa a.length ka,.int .i64 left]) func65 Z ntmps65 Z (q2 (aG Z (q1 (pe 2 Z (lN Z (o_sub Z Z Z oO (aG Z (q3 (W_seq (q2 (pe 2 Z (q3 ?_))))))))))))
 refine W_cond Z ?_ ?_
 ·intro hc2
  try simp only[nrm]at hc2
  refine q2 (aG Z (q3 (W_ret (N_K_ret (rt1 results65 Z ?_)))))
  exact H.retV ⟨_,rfl,by first|omega|(simp only[wHeld,wItem,wSnap,wHelds,wItems,wSnaps,wDisk]at *; omega)⟩
 intro hc2'
 try simp only[nrm]at hc2'
 refine W_skip (N_K (W_seq (q2 (aG Z (q3 (W_block ?_))))))
 refine W_lp (hf:=(Sub.cons (t:=0) Z Sub.nil)) (J:=fun M w m=>∃(k:Nat) (lf:Int) (G:PH),M=[(5,.int .i64 (k:Int)),(1,.int .i64 lf)]∧PLe G0 G∧Hp w0 G0 [] w G []∧(k≤a.length∧0≤lf∧lf+(a.length:Int)+(cnt wItem (a.take k):Int)≤left)∧m=(a.length-k)) (h0:=⟨0,(left-(a.length:Int)),_,Z,PLe.refl _,H,?inv,Z⟩) (round:=?round)
 case inv=>exact⟨by omega,by omega,by (simp only[List.take_zero,cnt];omega)⟩
 case round =>
  rintro _ _ _ ⟨k,lf,_,rfl,hle3,H,hinv3,rfl⟩
  have ha:=ha.up hle3
  obtain⟨_,_,_⟩:=hinv3
  refine W_seq (q2 (pe 2 Z (lN Z (pe 1 Z (q3 ?_)))))
  refine W_cond Z ?_ ?_
  ·intro hc4
   try simp only[nrm]at hc4
   refine W_skip (N_K (W_seq (W_block (q2 (pe 2 Z (iP k ha Z3 Z ?_))))));intro _ _ _ _ hz5 hE5 hrow5
   obtain⟨_,_,_,rfl,hi5,hr5,_,_⟩:=ox hE5
   refine o_loadagg_P H isAgg198 sizeOf198 Z Z hrow5 Z (mV Z (xc Z2 (w_szItem_c _ _ H.sub _ _ ⟨_,_,_,Z,hi5,hr5⟩ _ oO) ?_))
   rintro _ _ ⟨_,rfl,ew6,⟨r6,rfl,_⟩⟩
   skip
   have H:=H.step ew6;refine⟨_,rfl,?_⟩
   refine aG Z (q1 (pe 2 Z (q3 ?_)))
   refine W_cond Z ?_ ?_
   ·intro hc7
    try simp only[nrm]at hc7
    refine q2 (aG Z (q3 (W_ret (N_B_ret (N_K_ret (N_LP_ret (N_B_ret (N_K_ret (rt1 results65 Z ?_)))))))))
    exact H.retV ⟨_,rfl,by first|omega|(simp only[wHeld,wItem,wSnap,wHelds,wItems,wSnaps,wDisk]at *; omega)⟩
   intro hc7'
   try simp only[nrm]at hc7'
   refine W_skip (N_B (N_K (W_region (mV Z (aD Z2 (aG Z (R_nil ?_)))))))
   refine N_lp (hJ:=⟨k+1,r6,_,Z,hle3,H,?inv,Z⟩) (hm:=?hm)
   case hm=>omega
   case inv=>exact⟨by omega,by omega,by (have hcs:=cnt_succ (c:=wItem) hz5;omega)⟩
  intro hc4'
  try simp only[nrm]at hc4'
  refine W_exit (N_K_exit (N_LP_exit (N_B_same (N_K (q2 (pe 2 Z (q3 (W_ret (rt1 results65 Z ?_)))))))))
  have hce:=cnt_end (c:=wItem) (show k=a.length by omega)
  exact H.retV ⟨_,rfl,by first|omega|(simp only[wHeld,wItem,wSnap,wHelds,wItems,wSnaps,wDisk]at *; omega)⟩
theorem w_szSnap_c (w0:World)(G0:PH)(hG:PSub G0 w0)(ca:List Value)(a:BSnap)(ha:snapE G0 a ca)(left:Int)(hl: -1≤left∧left≤1099511627776) :
  Calls Tryz.prog 132 #[.agg ca.toArray,.int .i64 left] w0 (RetV w0 (fun v=>∃r:Int,v= .int .i64 r∧(r= -1∨(0≤r∧r+(wSnap a:Int)≤left)))):=by
 obtain⟨_,_,_,rfl,_,hr1,_,_⟩:=ox ha
 have H:=Hp.init hG
 refine calls_of_W (l:=[_,.int .i64 left]) func132 Z ntmps132 Z (q2 (o_box H Z Z Z ?_));intro _ _ _ H
 refine aG Z (q1 (mV Z (fA 0 Z (lB 0 H Z3 (lS Z (o_sub Z Z Z oO (aG Z (q3 (W_seq (q2 (pe 2 Z (q3 ?_))))))))))))
 refine W_cond Z ?_ ?_
 ·intro hc4
  try simp only[nrm]at hc4
  refine q2 (aG Z (q3 (W_ret (N_K_ret (rt1 results132 Z ?_)))))
  exact H.retV ⟨_,rfl,by first|omega|(simp only[wHeld,wItem,wSnap,wHelds,wItems,wSnaps,wDisk]at *; omega)⟩
 intro hc4'
 try simp only[nrm]at hc4'
 refine W_skip (N_K (q2 (fA 1 Z (lB 0 H Z3 (mV Z (xc Z2 (w_szItemS_c _ _ H.sub _ _ hr1 _ oO) ?_))))))
 rintro _ _ ⟨_,rfl,ew5,⟨_,rfl,_⟩⟩
 skip
 have H:=H.step ew5;refine⟨_,rfl,?_⟩
 refine aG Z (q3 (W_seq (q2 (pe 2 Z (q3 ?_)))))
 refine W_cond Z ?_ ?_
 ·intro hc6
  try simp only[nrm]at hc6
  refine q2 (aG Z (q3 (W_ret (N_K_ret (rt1 results132 Z ?_)))))
  exact H.retV ⟨_,rfl,by first|omega|(simp only[wHeld,wItem,wSnap,wHelds,wItems,wSnaps,wDisk]at *; omega)⟩
 intro hc6'
 try simp only[nrm]at hc6'
 refine W_skip (N_K (q2 (pe 2 Z (q3 (W_ret (rt1 results132 Z ?_))))))
 exact H.retV ⟨_,rfl,by first|omega|(simp only[wHeld,wItem,wSnap,wHelds,wItems,wSnaps,wDisk]at *; omega)⟩
theorem w_szSnapS_c (w0:World)(G0:PH)(hG:PSub G0 w0)(va:Value)(a:List (BSnap))(ha:RdSn G0 va a)(left:Int)(hl: -1≤left∧left≤1099511627776) :
  Calls Tryz.prog 66 #[va,.int .i64 left] w0 (RetV w0 (fun v=>∃r:Int,v= .int .i64 r∧(r= -1∨(0≤r∧r+(wSnaps a:Int)≤left)))):=by
 obtain⟨aa,ka,rfl⟩:=ha.shape
 have hlima:a.length≤1099511627776:=ha.lim
 have H:=Hp.init hG
 refine calls_of_W (l:=[.slice aa a.length ka,.int .i64 left]) func66 Z ntmps66 Z (q2 (aG Z (q1 (pe 2 Z (lN Z (o_sub Z Z Z oO (aG Z (q3 (W_seq (q2 (pe 2 Z (q3 ?_))))))))))))
 refine W_cond Z ?_ ?_
 ·intro hc2
  try simp only[nrm]at hc2
  refine q2 (aG Z (q3 (W_ret (N_K_ret (rt1 results66 Z ?_)))))
  exact H.retV ⟨_,rfl,by first|omega|(simp only[wHeld,wItem,wSnap,wHelds,wItems,wSnaps,wDisk]at *; omega)⟩
 intro hc2'
 try simp only[nrm]at hc2'
 refine W_skip (N_K (W_seq (q2 (aG Z (q3 (W_block ?_))))))
 refine W_lp (hf:=(Sub.cons (t:=0) Z Sub.nil)) (J:=fun M w m=>∃(k:Nat) (lf:Int) (G:PH),M=[(5,.int .i64 (k:Int)),(1,.int .i64 lf)]∧PLe G0 G∧Hp w0 G0 [] w G []∧(k≤a.length∧0≤lf∧lf+(a.length:Int)+(cnt wSnap (a.take k):Int)≤left)∧m=(a.length-k)) (h0:=⟨0,(left-(a.length:Int)),_,Z,PLe.refl _,H,?inv,Z⟩) (round:=?round)
 case inv=>exact⟨by omega,by omega,by (simp only[List.take_zero,cnt];omega)⟩
 case round =>
  rintro _ _ _ ⟨k,lf,_,rfl,hle3,H,hinv3,rfl⟩
  have ha:=ha.up hle3
  obtain⟨_,_,_⟩:=hinv3
  refine W_seq (q2 (pe 2 Z (lN Z (pe 1 Z (q3 ?_)))))
  refine W_cond Z ?_ ?_
  ·intro hc4
   try simp only[nrm]at hc4
   refine W_skip (N_K (W_seq (W_block (q2 (pe 2 Z (iP k ha Z3 Z ?_))))));intro _ _ _ _ hz5 hE5 hrow5
   obtain⟨_,_,_,rfl,hi5,hr5,_,_⟩:=ox hE5
   refine o_loadagg_P H isAgg201 sizeOf201 Z Z hrow5 Z (mV Z (xc Z2 (w_szSnap_c _ _ H.sub _ _ ⟨_,_,_,Z,hi5,hr5⟩ _ oO) ?_))
   rintro _ _ ⟨_,rfl,ew6,⟨r6,rfl,_⟩⟩
   skip
   have H:=H.step ew6;refine⟨_,rfl,?_⟩
   refine aG Z (q1 (pe 2 Z (q3 ?_)))
   refine W_cond Z ?_ ?_
   ·intro hc7
    try simp only[nrm]at hc7
    refine q2 (aG Z (q3 (W_ret (N_B_ret (N_K_ret (N_LP_ret (N_B_ret (N_K_ret (rt1 results66 Z ?_)))))))))
    exact H.retV ⟨_,rfl,by first|omega|(simp only[wHeld,wItem,wSnap,wHelds,wItems,wSnaps,wDisk]at *; omega)⟩
   intro hc7'
   try simp only[nrm]at hc7'
   refine W_skip (N_B (N_K (W_region (mV Z (aD Z2 (aG Z (R_nil ?_)))))))
   refine N_lp (hJ:=⟨k+1,r6,_,Z,hle3,H,?inv,Z⟩) (hm:=?hm)
   case hm=>omega
   case inv=>exact⟨by omega,by omega,by (have hcs:=cnt_succ (c:=wSnap) hz5;omega)⟩
  intro hc4'
  try simp only[nrm]at hc4'
  refine W_exit (N_K_exit (N_LP_exit (N_B_same (N_K (q2 (pe 2 Z (q3 (W_ret (rt1 results66 Z ?_)))))))))
  have hce:=cnt_end (c:=wSnap) (show k=a.length by omega)
  exact H.retV ⟨_,rfl,by first|omega|(simp only[wHeld,wItem,wSnap,wHelds,wItems,wSnaps,wDisk]at *; omega)⟩
theorem w_szDisk_c (w0:World)(G0:PH)(hG:PSub G0 w0)(ca:List Value)(a:BDisk)(ha:diskE G0 a ca)(left:Int)(hl: -1≤left∧left≤1099511627776) :
  Calls Tryz.prog 22 #[.agg ca.toArray,.int .i64 left] w0 (RetV w0 (fun v=>∃r:Int,v= .int .i64 r∧(r= -1∨(0≤r∧r+(wDisk a:Int)≤left)))):=by
 obtain⟨_,_,_,_,_,_,_,_,_,rfl,hr1,hr1',hr1'',⟨_,_⟩,⟨_,_⟩,_,_⟩:=ox ha
 have H:=Hp.init hG
 refine calls_of_W (l:=[_,.int .i64 left]) func22 Z ntmps22 Z (q2 (o_box H Z Z Z ?_));intro _ _ _ H
 refine aG Z (q1 (fA 0 Z (lB 0 H Z3 (mV Z (xc Z2 (w_szHeldS_c _ _ H.sub _ _ hr1 _ oO) ?_)))))
 rintro _ _ ⟨_,rfl,ew3,⟨_,rfl,_⟩⟩
 skip
 have H:=H.step ew3;refine⟨_,rfl,?_⟩
 refine aG Z (q3 (W_seq (q2 (pe 2 Z (q3 ?_)))))
 refine W_cond Z ?_ ?_
 ·intro hc4
  try simp only[nrm]at hc4
  refine q2 (aG Z (q3 (W_ret (N_K_ret (rt1 results22 Z ?_)))))
  exact H.retV ⟨_,rfl,by first|omega|(simp only[wHeld,wItem,wSnap,wHelds,wItems,wSnaps,wDisk]at *; omega)⟩
 intro hc4'
 try simp only[nrm]at hc4'
 refine W_skip (N_K (q2 (fA 1 Z (lB 0 H Z3 (mV Z (xc Z2 (w_szItemS_c _ _ H.sub _ _ hr1' _ oO) ?_))))))
 rintro _ _ ⟨_,rfl,ew5,⟨_,rfl,_⟩⟩
 skip
 have H:=H.step ew5;refine⟨_,rfl,?_⟩
 refine aG Z (q3 (W_seq (q2 (pe 2 Z (q3 ?_)))))
 refine W_cond Z ?_ ?_
 ·intro hc6
  try simp only[nrm]at hc6
  refine q2 (aG Z (q3 (W_ret (N_K_ret (rt1 results22 Z ?_)))))
  exact H.retV ⟨_,rfl,by first|omega|(simp only[wHeld,wItem,wSnap,wHelds,wItems,wSnaps,wDisk]at *; omega)⟩
 intro hc6'
 try simp only[nrm]at hc6'
 refine W_skip (N_K (q2 (fA 2 Z (lB 0 H Z3 (mV Z (xc Z2 (w_szSnapS_c _ _ H.sub _ _ hr1'' _ oO) ?_))))))
 rintro _ _ ⟨_,rfl,ew7,⟨_,rfl,_⟩⟩
 skip
 have H:=H.step ew7;refine⟨_,rfl,?_⟩
 refine aG Z (q3 (W_seq (q2 (pe 2 Z (q3 ?_)))))
 refine W_cond Z ?_ ?_
 ·intro hc8
  try simp only[nrm]at hc8
  refine q2 (aG Z (q3 (W_ret (N_K_ret (rt1 results22 Z ?_)))))
  exact H.retV ⟨_,rfl,by first|omega|(simp only[wHeld,wItem,wSnap,wHelds,wItems,wSnaps,wDisk]at *; omega)⟩
 intro hc8'
 try simp only[nrm]at hc8'
 refine W_skip (N_K (q2 (pe 2 Z (q3 (W_ret (rt1 results22 Z ?_))))))
 exact H.retV ⟨_,rfl,by first|omega|(simp only[wHeld,wItem,wSnap,wHelds,wItems,wSnaps,wDisk]at *; omega)⟩
theorem w_eqIntS_c (w0:World)(G0:PH)(hG:PSub G0 w0)(va:Value)(a:List (Int))(ha:RdI G0 va a)(vb:Value)(b:List (Int))(hb:RdI G0 vb b)(hab:a=b) :
  Calls Tryz.prog 141 #[va,vb] w0 (Rets w0 (.bool true)):=by
 obtain⟨aa,ka,rfl⟩:=ha.shape
 have hlima:a.length≤1099511627776:=ha.lim
 obtain⟨ab,kb,rfl⟩:=hb.shape
 have hlimb:b.length≤1099511627776:=hb.lim
 have hle:=congrArg List.length hab
 have H:=Hp.init hG
 refine calls_of_W (l:=[.slice aa a.length ka,.slice ab b.length kb]) func141 Z ntmps141 Z (q2 (aG Z (q3 (W_seq (q2 (mV Z (lN Z (mV Z (lN Z (pe 1 Z (q3 ?_)))))))))))
 refine W_cond Z ?_ ?_
 ·intro hc1
  try simp only[nrm]at hc1
  refine q2 (aG Z (q3 (W_ret (N_K_ret (rt1 results141 Z ?_)))))
  exact absurd (show False from by omega) id
 intro hc1'
 try simp only[nrm]at hc1'
 refine W_skip (N_K (W_seq (q2 (aG Z (q3 (W_block ?_))))))
 refine W_lp (hf:=(Sub.cons (t:=0) Z (Sub.cons (t:=1) Z Sub.nil))) (J:=fun M w m=>∃(k:Nat) (G:PH),M=[(5,.int .i64 (k:Int))]∧PLe G0 G∧Hp w0 G0 [] w G []∧(k≤a.length)∧m=(a.length-k)) (h0:=⟨0,_,Z,PLe.refl _,H,?inv,Z⟩) (round:=?round)
 case inv=>omega
 case round =>
  rintro _ _ _ ⟨k,G2,rfl,hle2,H,hinv2,rfl⟩
  have ha:=ha.up hle2
  have hb:=hb.up hle2
  have hk:=hinv2
  refine W_seq (q2 (pe 2 Z (lN Z (pe 1 Z (q3 ?_)))))
  refine W_cond Z ?_ ?_
  ·intro hc3
   try simp only[nrm]at hc3
   refine W_skip (N_K (W_seq (W_block (W_seq (W_drawK [] 9 H kR Z ?_)))));intro _ H;have hd4:=PLe.refl G2
   refine dE 0 Z2 (dE 1 Z2 ?_)
   have hl5:=ha.len
   obtain⟨_,_,_,_,ha5,hz5,hq5,hE5,hrow5,_⟩:=ha.at (i:=k) oM
   clear hq5
   obtain⟨rfl,_⟩:=hE5
   refine dI 2 1 k ha5 Z3 Z (dP 3 hrow5 0 Z3 (dE 4 Z2 (dE 5 Z2 ?_)))
   have hl6:=hb.len
   obtain⟨_,_,_,_,ha6,hz6,hq6,hE6,hrow6,_⟩:=hb.at (i:=k) oM
   clear hq6
   obtain⟨rfl,_⟩:=hE6
   refine dI 6 1 k ha6 Z3 Z (dP 7 hrow6 0 Z3 (dE 8 Z2 (rz (N_K ?_))))
   refine W_cond Z ?_ ?_
   ·intro hc7
    try simp only[nrm]at hc7
    refine q2 (aG Z (q3 (W_ret (N_B_ret (N_K_ret (N_LP_ret (N_B_ret (N_K_ret (rt1 results141 Z ?_)))))))))
    exact absurd (show False from by first|omega|(exact hc7 (Sp.same_at hab hz5 hz6))) id
   intro hc7'
   try simp only[nrm]at hc7'
   refine W_skip (N_B (N_K (W_region (mV Z (aD Z2 (aG Z (R_nil ?_)))))))
   refine N_lp (hJ:=⟨k+1,_,Z,hle2,H,?inv,Z⟩) (hm:=?hm)
   case hm=>omega
   case inv=>omega
  intro hc3'
  try simp only[nrm]at hc3'
  refine W_exit (N_K_exit (N_LP_exit (N_B_same (N_K (q2 (aG Z (q3 (W_ret (rt1 results141 Z ?_)))))))))
  exact H.rets Z
theorem w_eqHeld_c (w0:World)(G0:PH)(hG:PSub G0 w0)(ca:List Value)(a:BHeld)(ha:heldE G0 a ca)(cb:List Value)(b:BHeld)(hb:heldE G0 b cb)(hab:a=b) :
  Calls Tryz.prog 138 #[.agg ca.toArray,.agg cb.toArray] w0 (Rets w0 (.bool true)):=by
 obtain⟨_,_,_,rfl,_,hr1,_,_,_⟩:=ox ha
 obtain⟨_,_,_,rfl,_,hr2,_,_,_⟩:=ox hb
 have H:=Hp.init hG
 refine calls_of_W (l:=[_,_]) func138 Z ntmps138 Z (q2 (o_box H Z Z Z ?_));intro _ _ _ H
 refine o_box H Z Z Z ?_;intro _ _ _ H
 refine aG Z (q3 (W_seq (q2 (fA 0 Z (lB 1 H Z3 (fA 0 Z (lB 0 H Z3 (pe 1 Z (q3 ?_)))))))))
 refine W_cond Z ?_ ?_
 ·intro hc5
  try simp only[nrm]at hc5
  refine q2 (aG Z (q3 (W_ret (N_K_ret (rt1 results138 Z ?_)))))
  exact absurd (show False from by simp[hab]at hc5) id
 intro hc5'
 try simp only[nrm]at hc5'
 refine W_skip (N_K (W_seq (q2 (fA 1 Z (lB 1 H Z3 (fA 1 Z (lB 0 H Z3 (xr H Z2 (w_eqIntS_c _ _ H.sub _ _ hr1 _ _ hr2 (congrArg BHeld.bytes hab)) ?_))))))));intro _ H
 refine pe 1 Z (q3 (W_false Z (W_skip (N_K (W_seq (q2 (fA 2 Z (lB 1 H Z3 (fA 2 Z (lB 0 H Z3 (pe 1 Z (q3 ?_))))))))))))
 refine W_cond Z ?_ ?_
 ·intro hc7
  try simp only[nrm]at hc7
  refine q2 (aG Z (q3 (W_ret (N_K_ret (rt1 results138 Z ?_)))))
  exact absurd (show False from by simp[hab]at hc7) id
 intro hc7'
 try simp only[nrm]at hc7'
 refine W_skip (N_K (q2 (aG Z (q3 (W_ret (rt1 results138 Z ?_))))))
 exact H.rets Z
theorem w_eqHeldS_c (w0:World)(G0:PH)(hG:PSub G0 w0)(va:Value)(a:List (BHeld))(ha:RdH G0 va a)(vb:Value)(b:List (BHeld))(hb:RdH G0 vb b)(hab:a=b) :
  Calls Tryz.prog 72 #[va,vb] w0 (Rets w0 (.bool true)):=by
 obtain⟨aa,ka,rfl⟩:=ha.shape
 have hlima:a.length≤1099511627776:=ha.lim
 obtain⟨ab,kb,rfl⟩:=hb.shape
 have hlimb:b.length≤1099511627776:=hb.lim
 have hle:=congrArg List.length hab
 have H:=Hp.init hG
 refine calls_of_W (l:=[.slice aa a.length ka,.slice ab b.length kb]) func72 Z ntmps72 Z (q2 (aG Z (q3 (W_seq (q2 (mV Z (lN Z (mV Z (lN Z (pe 1 Z (q3 ?_)))))))))))
 refine W_cond Z ?_ ?_
 ·intro hc1
  try simp only[nrm]at hc1
  refine q2 (aG Z (q3 (W_ret (N_K_ret (rt1 results72 Z ?_)))))
  exact absurd (show False from by omega) id
 intro hc1'
 try simp only[nrm]at hc1'
 refine W_skip (N_K (W_seq (q2 (aG Z (q3 (W_block ?_))))))
 refine W_lp (hf:=(Sub.cons (t:=0) Z (Sub.cons (t:=1) Z Sub.nil))) (J:=fun M w m=>∃(k:Nat) (G:PH),M=[(5,.int .i64 (k:Int))]∧PLe G0 G∧Hp w0 G0 [] w G []∧(k≤a.length)∧m=(a.length-k)) (h0:=⟨0,_,Z,PLe.refl _,H,?inv,Z⟩) (round:=?round)
 case inv=>omega
 case round =>
  rintro _ _ _ ⟨k,G2,rfl,hle2,H,hinv2,rfl⟩
  have ha:=ha.up hle2
  have hb:=hb.up hle2
  have hk:=hinv2
  refine W_seq (q2 (pe 2 Z (lN Z (pe 1 Z (q3 ?_)))))
  refine W_cond Z ?_ ?_
  ·intro hc3
   try simp only[nrm]at hc3
   refine W_skip (N_K (W_seq (W_block (W_seq (W_drawK [] 10 H kR Z ?_)))));intro _ H;have hd4:=PLe.refl G2
   refine dE 0 Z2 (dE 1 Z2 ?_)
   have hl5:=ha.len
   obtain⟨_,_,_,_,ha5,hz5,hq5,hE5,hrow5,_⟩:=ha.at (i:=k) oM
   clear hq5
   obtain⟨_,_,_,rfl,_,hr5,_,_,_⟩:=ox hE5
   refine dI 2 3 k ha5 Z3 Z (RD_t 3 Z kR Z (fun _ hK=>v_loadagg_P hK isAgg139 sizeOf139 Z hrow5 Z) (dE 4 Z2 (dE 5 Z2 ?_)))
   have hl6:=hb.len
   obtain⟨_,_,_,_,ha6,hz6,hq6,hE6,hrow6,_⟩:=hb.at (i:=k) oM
   clear hq6
   obtain⟨_,_,_,rfl,_,hr6,_,_,_⟩:=ox hE6
   refine dI 6 3 k ha6 Z3 Z (RD_t 7 Z kR Z (fun _ hK=>v_loadagg_P hK isAgg139 sizeOf139 Z hrow6 Z) (r1 8 Z ?_))
   refine xr H Z2 (w_eqHeld_c _ _ H.sub _ _ ⟨_,_,_,Z,⟨by first|omega|(dsimp only;omega),by first|omega|(dsimp only;omega)⟩,hr5,⟨by first|omega|(dsimp only;omega),by first|omega|(dsimp only;omega)⟩⟩ _ _ ⟨_,_,_,rfl,⟨by first|omega|(dsimp only;omega),by first|omega|(dsimp only;omega)⟩,hr6,⟨by first|omega|(dsimp only;omega),by first|omega|(dsimp only;omega)⟩⟩ (Sp.same_at hab hz5 hz6)) ?_;intro _ H
   refine q4 H hd4 (dE 9 Z2 (rz (N_K (W_false Z (W_skip (N_B (N_K (W_region (mV Z (aD Z2 (aG Z (R_nil ?_))))))))))))
   refine N_lp (hJ:=⟨k+1,_,Z,hle2,H,?inv,Z⟩) (hm:=?hm)
   case hm=>omega
   case inv=>omega
  intro hc3'
  try simp only[nrm]at hc3'
  refine W_exit (N_K_exit (N_LP_exit (N_B_same (N_K (q2 (aG Z (q3 (W_ret (rt1 results72 Z ?_)))))))))
  exact H.rets Z
theorem w_eqItem_c (w0:World)(G0:PH)(hG:PSub G0 w0)(ca:List Value)(a:BItem)(ha:itemE G0 a ca)(cb:List Value)(b:BItem)(hb:itemE G0 b cb)(hab:a=b) :
  Calls Tryz.prog 139 #[.agg ca.toArray,.agg cb.toArray] w0 (Rets w0 (.bool true)):=by
 obtain⟨_,_,_,rfl,_,hr1,_,_⟩:=ox ha
 obtain⟨_,_,_,rfl,_,hr2,_,_⟩:=ox hb
 have H:=Hp.init hG
 refine calls_of_W (l:=[_,_]) func139 Z ntmps139 Z (q2 (o_box H Z Z Z ?_));intro _ _ _ H
 refine o_box H Z Z Z ?_;intro _ _ _ H
 refine aG Z (q3 (W_seq (q2 (fA 0 Z (lB 1 H Z3 (fA 0 Z (lB 0 H Z3 (o_sneq Z Z Z (q3 ?_)))))))))
 refine W_cond Z ?_ ?_
 ·intro hc5
  try simp only[nrm]at hc5
  refine q2 (aG Z (q3 (W_ret (N_K_ret (rt1 results139 Z ?_)))))
  exact absurd (show False from by simp[hab]at hc5) id
 intro hc5'
 try simp only[nrm]at hc5'
 refine W_skip (N_K (W_seq (q2 (fA 1 Z (lB 1 H Z3 (fA 1 Z (lB 0 H Z3 (o_bneq underlying4 Z Z Z (q3 ?_)))))))))
 refine W_cond Z ?_ ?_
 ·intro hc6
  try simp only[nrm]at hc6
  refine q2 (aG Z (q3 (W_ret (N_K_ret (rt1 results139 Z ?_)))))
  exact absurd (show False from by simp[hab]at hc6) id
 intro hc6'
 try simp only[nrm]at hc6'
 refine W_skip (N_K (W_seq (q2 (fA 2 Z (lB 1 H Z3 (fA 2 Z (lB 0 H Z3 (xr H Z2 (w_eqIntS_c _ _ H.sub _ _ hr1 _ _ hr2 (congrArg BItem.ids hab)) ?_))))))));intro _ H
 refine pe 1 Z (q3 (W_false Z (W_skip (N_K (q2 (aG Z (q3 (W_ret (rt1 results139 Z ?_)))))))))
 exact H.rets Z
theorem w_eqItemS_c (w0:World)(G0:PH)(hG:PSub G0 w0)(va:Value)(a:List (BItem))(ha:RdItems G0 va a)(vb:Value)(b:List (BItem))(hb:RdItems G0 vb b)(hab:a=b) :
  Calls Tryz.prog 73 #[va,vb] w0 (Rets w0 (.bool true)):=by
 obtain⟨aa,ka,rfl⟩:=ha.shape
 have hlima:a.length≤1099511627776:=ha.lim
 obtain⟨ab,kb,rfl⟩:=hb.shape
 have hlimb:b.length≤1099511627776:=hb.lim
 have hle:=congrArg List.length hab
 have H:=Hp.init hG
 refine calls_of_W (l:=[.slice aa a.length ka,.slice ab b.length kb]) func73 Z ntmps73 Z (q2 (aG Z (q3 (W_seq (q2 (mV Z (lN Z (mV Z (lN Z (pe 1 Z (q3 ?_)))))))))))
 refine W_cond Z ?_ ?_
 ·intro hc1
  try simp only[nrm]at hc1
  refine q2 (aG Z (q3 (W_ret (N_K_ret (rt1 results73 Z ?_)))))
  exact absurd (show False from by omega) id
 intro hc1'
 try simp only[nrm]at hc1'
 refine W_skip (N_K (W_seq (q2 (aG Z (q3 (W_block ?_))))))
 refine W_lp (hf:=(Sub.cons (t:=0) Z (Sub.cons (t:=1) Z Sub.nil))) (J:=fun M w m=>∃(k:Nat) (G:PH),M=[(5,.int .i64 (k:Int))]∧PLe G0 G∧Hp w0 G0 [] w G []∧(k≤a.length)∧m=(a.length-k)) (h0:=⟨0,_,Z,PLe.refl _,H,?inv,Z⟩) (round:=?round)
 case inv=>omega
 case round =>
  rintro _ _ _ ⟨k,G2,rfl,hle2,H,hinv2,rfl⟩
  have ha:=ha.up hle2
  have hb:=hb.up hle2
  have hk:=hinv2
  refine W_seq (q2 (pe 2 Z (lN Z (pe 1 Z (q3 ?_)))))
  refine W_cond Z ?_ ?_
  ·intro hc3
   try simp only[nrm]at hc3
   refine W_skip (N_K (W_seq (W_block (W_seq (W_drawK [] 10 H kR Z ?_)))));intro _ H;have hd4:=PLe.refl G2
   refine dE 0 Z2 (dE 1 Z2 ?_)
   have hl5:=ha.len
   obtain⟨_,_,_,_,ha5,hz5,hq5,hE5,hrow5,_⟩:=ha.at (i:=k) oM
   clear hq5
   obtain⟨_,_,_,rfl,hi5,hr5,_,_⟩:=ox hE5
   refine dI 2 3 k ha5 Z3 Z (RD_t 3 Z kR Z (fun _ hK=>v_loadagg_P hK isAgg41 sizeOf41 Z hrow5 Z) (dE 4 Z2 (dE 5 Z2 ?_)))
   have hl6:=hb.len
   obtain⟨_,_,_,_,ha6,hz6,hq6,hE6,hrow6,_⟩:=hb.at (i:=k) oM
   clear hq6
   obtain⟨_,_,_,rfl,hi6,hr6,_,_⟩:=ox hE6
   refine dI 6 3 k ha6 Z3 Z (RD_t 7 Z kR Z (fun _ hK=>v_loadagg_P hK isAgg41 sizeOf41 Z hrow6 Z) (r1 8 Z (xr H Z2 (w_eqItem_c _ _ H.sub _ _ ⟨_,_,_,Z,hi5,hr5⟩ _ _ ⟨_,_,_,Z,hi6,hr6⟩ (Sp.same_at hab hz5 hz6)) ?_)));intro _ H
   refine q4 H hd4 (dE 9 Z2 (rz (N_K (W_false Z (W_skip (N_B (N_K (W_region (mV Z (aD Z2 (aG Z (R_nil ?_))))))))))))
   refine N_lp (hJ:=⟨k+1,_,Z,hle2,H,?inv,Z⟩) (hm:=?hm)
   case hm=>omega
   case inv=>omega
  intro hc3'
  try simp only[nrm]at hc3'
  refine W_exit (N_K_exit (N_LP_exit (N_B_same (N_K (q2 (aG Z (q3 (W_ret (rt1 results73 Z ?_)))))))))
  exact H.rets Z
theorem w_eqSnap_c (w0:World)(G0:PH)(hG:PSub G0 w0)(ca:List Value)(a:BSnap)(ha:snapE G0 a ca)(cb:List Value)(b:BSnap)(hb:snapE G0 b cb)(hab:a=b) :
  Calls Tryz.prog 140 #[.agg ca.toArray,.agg cb.toArray] w0 (Rets w0 (.bool true)):=by
 obtain⟨_,_,_,rfl,_,hr1,_,_⟩:=ox ha
 obtain⟨_,_,_,rfl,_,hr2,_,_⟩:=ox hb
 have H:=Hp.init hG
 refine calls_of_W (l:=[_,_]) func140 Z ntmps140 Z (q2 (o_box H Z Z Z ?_));intro _ _ _ H
 refine o_box H Z Z Z ?_;intro _ _ _ H
 refine aG Z (q3 (W_seq (q2 (fA 0 Z (lB 1 H Z3 (fA 0 Z (lB 0 H Z3 (o_sneq Z Z Z (q3 ?_)))))))))
 refine W_cond Z ?_ ?_
 ·intro hc5
  try simp only[nrm]at hc5
  refine q2 (aG Z (q3 (W_ret (N_K_ret (rt1 results140 Z ?_)))))
  exact absurd (show False from by simp[hab]at hc5) id
 intro hc5'
 try simp only[nrm]at hc5'
 refine W_skip (N_K (W_seq (q2 (fA 1 Z (lB 1 H Z3 (fA 1 Z (lB 0 H Z3 (xr H Z2 (w_eqItemS_c _ _ H.sub _ _ hr1 _ _ hr2 (congrArg BSnap.tree hab)) ?_))))))));intro _ H
 refine pe 1 Z (q3 (W_false Z (W_skip (N_K (q2 (aG Z (q3 (W_ret (rt1 results140 Z ?_)))))))))
 exact H.rets Z
theorem w_eqSnapS_c (w0:World)(G0:PH)(hG:PSub G0 w0)(va:Value)(a:List (BSnap))(ha:RdSn G0 va a)(vb:Value)(b:List (BSnap))(hb:RdSn G0 vb b)(hab:a=b) :
  Calls Tryz.prog 74 #[va,vb] w0 (Rets w0 (.bool true)):=by
 obtain⟨aa,ka,rfl⟩:=ha.shape
 have hlima:a.length≤1099511627776:=ha.lim
 obtain⟨ab,kb,rfl⟩:=hb.shape
 have hlimb:b.length≤1099511627776:=hb.lim
 have hle:=congrArg List.length hab
 have H:=Hp.init hG
 refine calls_of_W (l:=[.slice aa a.length ka,.slice ab b.length kb]) func74 Z ntmps74 Z (q2 (aG Z (q3 (W_seq (q2 (mV Z (lN Z (mV Z (lN Z (pe 1 Z (q3 ?_)))))))))))
 refine W_cond Z ?_ ?_
 ·intro hc1
  try simp only[nrm]at hc1
  refine q2 (aG Z (q3 (W_ret (N_K_ret (rt1 results74 Z ?_)))))
  exact absurd (show False from by omega) id
 intro hc1'
 try simp only[nrm]at hc1'
 refine W_skip (N_K (W_seq (q2 (aG Z (q3 (W_block ?_))))))
 refine W_lp (hf:=(Sub.cons (t:=0) Z (Sub.cons (t:=1) Z Sub.nil))) (J:=fun M w m=>∃(k:Nat) (G:PH),M=[(5,.int .i64 (k:Int))]∧PLe G0 G∧Hp w0 G0 [] w G []∧(k≤a.length)∧m=(a.length-k)) (h0:=⟨0,_,Z,PLe.refl _,H,?inv,Z⟩) (round:=?round)
 case inv=>omega
 case round =>
  rintro _ _ _ ⟨k,G2,rfl,hle2,H,hinv2,rfl⟩
  have ha:=ha.up hle2
  have hb:=hb.up hle2
  have hk:=hinv2
  refine W_seq (q2 (pe 2 Z (lN Z (pe 1 Z (q3 ?_)))))
  refine W_cond Z ?_ ?_
  ·intro hc3
   try simp only[nrm]at hc3
   refine W_skip (N_K (W_seq (W_block (W_seq (W_drawK [] 10 H kR Z ?_)))));intro _ H;have hd4:=PLe.refl G2
   refine dE 0 Z2 (dE 1 Z2 ?_)
   have hl5:=ha.len
   obtain⟨_,_,_,_,ha5,hz5,hq5,hE5,hrow5,_⟩:=ha.at (i:=k) oM
   clear hq5
   obtain⟨_,_,_,rfl,hi5,hr5,_,_⟩:=ox hE5
   refine dI 2 2 k ha5 Z3 Z (RD_t 3 Z kR Z (fun _ hK=>v_loadagg_P hK isAgg67 sizeOf67 Z hrow5 Z) (dE 4 Z2 (dE 5 Z2 ?_)))
   have hl6:=hb.len
   obtain⟨_,_,_,_,ha6,hz6,hq6,hE6,hrow6,_⟩:=hb.at (i:=k) oM
   clear hq6
   obtain⟨_,_,_,rfl,hi6,hr6,_,_⟩:=ox hE6
   refine dI 6 2 k ha6 Z3 Z (RD_t 7 Z kR Z (fun _ hK=>v_loadagg_P hK isAgg67 sizeOf67 Z hrow6 Z) (r1 8 Z (xr H Z2 (w_eqSnap_c _ _ H.sub _ _ ⟨_,_,_,Z,hi5,hr5⟩ _ _ ⟨_,_,_,Z,hi6,hr6⟩ (Sp.same_at hab hz5 hz6)) ?_)));intro _ H
   refine q4 H hd4 (dE 9 Z2 (rz (N_K (W_false Z (W_skip (N_B (N_K (W_region (mV Z (aD Z2 (aG Z (R_nil ?_))))))))))))
   refine N_lp (hJ:=⟨k+1,_,Z,hle2,H,?inv,Z⟩) (hm:=?hm)
   case hm=>omega
   case inv=>omega
  intro hc3'
  try simp only[nrm]at hc3'
  refine W_exit (N_K_exit (N_LP_exit (N_B_same (N_K (q2 (aG Z (q3 (W_ret (rt1 results74 Z ?_)))))))))
  exact H.rets Z
theorem w_eqDisk_c (w0:World)(G0:PH)(hG:PSub G0 w0)(ca:List Value)(a:BDisk)(ha:diskE G0 a ca)(cb:List Value)(b:BDisk)(hb:diskE G0 b cb)(hab:a=b) :
  Calls Tryz.prog 26 #[.agg ca.toArray,.agg cb.toArray] w0 (Rets w0 (.bool true)):=by
 obtain⟨_,_,_,_,_,_,_,_,_,rfl,hr1,hr1',hr1'',⟨_,_⟩,⟨_,_⟩,_,_⟩:=ox ha
 obtain⟨_,_,_,_,_,_,_,_,_,rfl,hr2,hr2',hr2'',⟨_,_⟩,⟨_,_⟩,_,_⟩:=ox hb
 have H:=Hp.init hG
 refine calls_of_W (l:=[_,_]) func26 Z ntmps26 Z (q2 (o_box H Z Z Z ?_));intro _ _ _ H
 refine o_box H Z Z Z ?_;intro _ _ _ H
 refine aG Z (q3 (W_seq (q2 (fA 0 Z (lB 1 H Z3 (fA 0 Z (lB 0 H Z3 (xr H Z2 (w_eqHeldS_c _ _ H.sub _ _ hr1 _ _ hr2 (congrArg BDisk.store hab)) ?_))))))));intro _ H
 refine pe 1 Z (q3 (W_false Z (W_skip (N_K (W_seq (q2 (fA 1 Z (lB 1 H Z3 (fA 1 Z (lB 0 H Z3 (xr H Z2 (w_eqItemS_c _ _ H.sub _ _ hr1' _ _ hr2' (congrArg BDisk.tree hab)) ?_)))))))))));intro _ H
 refine pe 1 Z (q3 (W_false Z (W_skip (N_K (W_seq (q2 (fA 2 Z (lB 1 H Z3 (fA 2 Z (lB 0 H Z3 (xr H Z2 (w_eqSnapS_c _ _ H.sub _ _ hr1'' _ _ hr2'' (congrArg BDisk.snaps hab)) ?_)))))))))));intro _ H
 refine pe 1 Z (q3 (W_false Z (W_skip (N_K (q2 (aG Z (q3 (W_ret (rt1 results26 Z ?_)))))))))
 exact H.rets Z
theorem w_toIntS_c (w0:World)(G0:PH)(hG:PSub G0 w0)(va:Value)(a:List (Int))(ha:RdI G0 va a) :
  Calls Tryz.prog 137 #[va] w0 (RetO w0 G0 (AccOf intE 1 3 a)):=by
 obtain⟨aa,ka,rfl⟩:=ha.shape
 have hlima:a.length≤1099511627776:=ha.lim
 have H:=Hp.init hG
 refine calls_of_W (l:=[.slice aa a.length ka]) func137 Z ntmps137 Z (q2 (aG Z (q1 (mV Z (lN Z (o_makeN (c:=a.length) (sz:=1) (bytes:=8) H underlying37 typeInfo3 ⟨_,Z,Z⟩ Z Z Z Z Z Z Z Z Z oM Z ?_))))));intro _ _ H
 have hchk1:=Chk.rep (E:=intE) (sz:=1) (G:=G0) (x0:=0) (⟨rfl,by decide⟩) rfl (a.length)
 refine aG Z (q3 (W_seq (q2 (aG Z (q3 (W_block ?_))))))
 refine W_lp (hf:=(Sub.cons (t:=0) Z (Sub.cons (t:=2) Z Sub.nil))) (J:=fun M w m=>∃(v:Value) (n:Nat) (cs:List Value) (xs:List (Int)) (k:Nat) (G:PH),M=[(4,.int .i64 (k:Int)),(3,v)]∧PLe G0 G∧Hp w0 G0 [] w G [acc 3 1 v n cs]∧(Chk intE 1 G cs xs∧n=xs.length∧k≤a.length∧xs.length=a.length∧xs.take k=a.take k)∧m=(a.length-k)) (h0:=⟨_,_,_,(List.replicate a.length 0),0,_,Z,PLe.refl _,H,?inv,Z⟩) (round:=?round)
 case inv=>exact⟨hchk1,by first|rfl|simp|(simp;omega)|omega,(by simp)⟩
 case round =>
  rintro _ _ _ ⟨v,n,cs,xs,k,_,rfl,hle2,H,hinv2,rfl⟩
  have ha:=ha.up hle2
  obtain⟨hchk2_0,_,hinv2⟩:=hinv2
  obtain⟨_,_,rfl⟩:=H.accShape (k:=0) rfl
  obtain⟨_,hxl,hxt⟩:=hinv2
  refine W_seq (q2 (pe 2 Z (lN Z (pe 1 Z (q3 ?_)))))
  refine W_cond Z ?_ ?_
  ·intro hc3
   try simp only[nrm]at hc3
   refine W_skip (N_K (W_seq (W_block (W_region (pe 4 Z (iP k ha Z3 Z ?_))))));intro _ _ z4 _ hz4 hE4 hrow4
   obtain⟨rfl,_⟩:=hE4
   refine lP H hrow4 0 Z2 (o_index_A 0 H k Z hchk2_0 underlying37 sizeOf3 Z Z Z Z aN aN ?_);intro _ _ _ hba5 hz5 hE5 _;cases hba5
   obtain⟨rfl,_⟩:=hE5
   have hcl6:=hchk2_0.length
   refine o_store_A 0 H sizeOf3 Z Z Z Z Z (by simp only[vc,List.length_cons,List.length_nil];omega) ?_;intro _ H
   have hchk6:=hchk2_0.put (x':=z4) (off:=0) (vs:=[_]) hz5 (fun cs hl hE=>by obtain⟨rfl,_⟩:=hE;exact⟨rfl,oO⟩) (by simp only[vc,List.length_cons,List.length_nil];omega)
   refine R_nil (N_B (N_K (W_region (mV Z (aD Z2 (aG Z (R_nil ?_)))))))
   refine N_lp (hJ:=⟨_,_,_,(xs.set k z4),k+1,_,Z,hle2,H,?inv,Z⟩) (hm:=?hm)
   case hm=>omega
   case inv=>exact⟨hchk6,aN,(by exact⟨by omega,by simp[hxl],Sp.take_set hxt hxl hz4⟩)⟩
  intro hc3'
  try simp only[nrm]at hc3'
  refine W_exit (N_K_exit (N_LP_exit (N_B_same (N_K (q2 (pe 2 Z (q3 (W_ret (rt1 results137 Z ?_)))))))))
  exact H.retO (k:=0) rfl (by (obtain rfl:k=a.length:=by omega);(have hxx:xs=a:=by (have h9:=hxt;rw[List.take_of_length_le oM,List.take_length]at h9;exact h9));subst hxx;exact AccOf.mk aN hchk2_0) (acc_nd _ _ _ _ _)
theorem w_toHeld_c (w0:World)(G0:PH)(hG:PSub G0 w0)(ca:List Value)(a:BHeld)(ha:heldE G0 a ca) :
  Calls Tryz.prog 134 #[.agg ca.toArray] w0 (RetN w0 G0 (fun v Bs=>∃(F:Fr) (cs:List Value),v= .agg cs.toArray∧Bs=[frag F]∧heldO F a cs)):=by
 obtain⟨_,_,_,rfl,_,hr1,_,_,_⟩:=ox ha
 have H:=Hp.init hG
 refine calls_of_W (l:=[_]) func134 Z ntmps134 Z (q2 (o_box H Z Z Z ?_));intro _ _ _ H
 refine xal H Z ?_;intro _ _ _ H
 refine q1 (xal H Z ?_);intro _ _ _ H
 refine q1 (fA 0 Z (lB 2 H Z3 (fA 0 Z (xst 0 H Z8 ?_))));intro _ H
 refine q1 (fA 1 Z (lB 2 H Z3 (xc Z2 (w_toIntS_c _ _ H.sub _ _ hr1) ?_)))
 rintro _ _ ⟨_,_,_,g6,rfl,⟨_,rfl,hchk6⟩,hp6,hq6,hs6⟩
 have H:=H.growO g6 hp6 hq6 hs6;obtain⟨_,_,rfl⟩:=H.accShape (k:=0) rfl
 refine⟨_,Z,?_⟩
 refine fA 1 Z (xst 1 H Z8 ?_);intro _ H
 refine q1 (fA 2 Z (lB 3 H Z3 (fA 2 Z (xst 1 H Z8 ?_))));intro _ H
 refine q1 (lA 1 3 H Z4 (xst 2 H Z8 ?_));intro _ H
 refine q3 (W_ret (ret_gen (rs:=[.cell 2 139]) (vs:=[_]) results134 ⟨⟨_,Z,load_blk 2 H isAgg139 sizeOf139 Z Z Z⟩,trivial⟩ ?_))
 obtain⟨_,H,hOI1⟩:=H.ownI (k:=0) rfl hchk6 aN aN
 have H:=H.dl 1
 have H:=H.dl 1
 have H:=H.dl 1
 have H:=H.forget hG (by simp)
 exact⟨_,_,Z,H,_,_,Z,Z,⟨_,_,_,Z,oO,hOI1,oO⟩⟩
theorem w_toItem_c (w0:World)(G0:PH)(hG:PSub G0 w0)(ca:List Value)(a:BItem)(ha:itemE G0 a ca) :
  Calls Tryz.prog 135 #[.agg ca.toArray] w0 (RetN w0 G0 (fun v Bs=>∃(F:Fr) (cs:List Value),v= .agg cs.toArray∧Bs=[frag F]∧itemO F a cs)):=by
 obtain⟨_,_,_,rfl,hi1,hr1,_,_⟩:=ox ha
 have H:=Hp.init hG
 refine calls_of_W (l:=[_]) func135 Z ntmps135 Z (q2 (o_box H Z Z Z ?_));intro _ _ _ H
 refine xal H Z ?_;intro _ _ _ H
 refine q1 (xal H Z ?_);intro _ _ _ H
 refine q1 (fA 0 Z (lB 2 H Z3 (fA 0 Z (xst 0 H Z8 ?_))));intro _ H
 refine q1 (fA 1 Z (lB 2 H Z3 (fA 1 Z (xst 0 H Z8 ?_))));intro _ H
 refine q1 (fA 2 Z (lB 2 H Z3 (xc Z2 (w_toIntS_c _ _ H.sub _ _ hr1) ?_)))
 rintro _ _ ⟨_,_,_,g7,rfl,⟨_,rfl,hchk7⟩,hp7,hq7,hs7⟩
 have H:=H.growO g7 hp7 hq7 hs7;obtain⟨_,_,rfl⟩:=H.accShape (k:=0) rfl
 refine⟨_,Z,?_⟩
 refine fA 2 Z (xst 1 H Z8 ?_);intro _ H
 refine q1 (lA 1 3 H Z4 (xst 2 H Z8 ?_));intro _ H
 refine q3 (W_ret (ret_gen (rs:=[.cell 2 41]) (vs:=[_]) results135 ⟨⟨_,Z,load_blk 2 H isAgg41 sizeOf41 Z Z Z⟩,trivial⟩ ?_))
 obtain⟨_,H,hOI1⟩:=H.ownI (k:=0) rfl hchk7 aN aN
 have H:=H.dl 1
 have H:=H.dl 1
 have H:=H.dl 1
 have H:=H.forget hG (by simp)
 exact⟨_,_,Z,H,_,_,Z,Z,⟨_,_,_,Z,hi1,hOI1⟩⟩
theorem w_toHeldS_c (w0:World)(G0:PH)(hG:PSub G0 w0)(va:Value)(a:List (BHeld))(ha:RdH G0 va a) :
  Calls Tryz.prog 68 #[va] w0 (RetN w0 G0 (fun v Bs=>∃(F:Fr),Bs=[frag F]∧OHs F v a)):=by
 obtain⟨aa,ka,rfl⟩:=ha.shape
 have hlima:a.length≤1099511627776:=ha.lim
 have H:=Hp.init hG
 refine calls_of_W (l:=[.slice aa a.length ka]) func68 Z ntmps68 Z (q2 (aG Z (q1 (mV Z (lN Z (o_makeN (c:=a.length) (sz:=3) (bytes:=40) H underlying23 typeInfo139 ⟨_,Z,Z⟩ Z Z Z Z Z Z Z Z Z oM Z ?_))))));intro _ _ H
 have hchk1:=Chk.rep (E:=heldE) (sz:=3) (G:=G0) (x0:=⟨0,[],0⟩) (zeroHeld _) rfl (a.length)
 refine aG Z (q3 (W_seq (q2 (aG Z (q3 (W_block ?_))))))
 have H:=H.addF
 refine W_lp (hf:=(Sub.cons (t:=0) Z (Sub.cons (t:=2) Z Sub.nil))) (J:=fun M w m=>∃(v:Value) (n:Nat) (cs:List Value) (xs:List (BHeld)) (F:Fr) (k:Nat) (G:PH),M=[(4,.int .i64 (k:Int)),(3,v)]∧PLe G0 G∧Hp w0 G0 [] w G [frag F,acc 139 3 v n cs]∧(ChkF heldO 3 cs xs F∧n=xs.length∧k≤a.length∧xs.length=a.length∧xs.take k=a.take k)∧m=(a.length-k)) (h0:=⟨_,_,_,(List.replicate a.length ⟨0,[],0⟩),[],0,_,Z,PLe.refl _,H,?inv,Z⟩) (round:=?round)
 case inv=>exact⟨(ChkF.rep zeroHeldO rfl (a.length)),by first|rfl|simp|(simp;omega)|omega,(by simp)⟩
 case round =>
  rintro _ _ _ ⟨v,n,cs,xs,F,k,_,rfl,hle2,H,hinv2,rfl⟩
  have ha:=ha.up hle2
  obtain⟨hchk2_0,_,hinv2⟩:=hinv2
  obtain⟨_,_,rfl⟩:=H.accShape (k:=1) rfl
  obtain⟨_,hxl,hxt⟩:=hinv2
  refine W_seq (q2 (pe 2 Z (lN Z (pe 1 Z (q3 ?_)))))
  refine W_cond Z ?_ ?_
  ·intro hc3
   try simp only[nrm]at hc3
   refine W_skip (N_K (W_seq (W_block (W_region (pe 4 Z (iP k ha Z3 Z ?_))))));intro _ _ z4 _ hz4 hE4 hrow4
   obtain⟨_,_,_,rfl,_,hr4,_,_,_⟩:=ox hE4
   refine o_loadagg_P H isAgg196 sizeOf196 Z Z hrow4 Z ?_
   refine xc Z2 (w_toHeld_c _ _ H.sub _ _ ⟨_,_,_,Z,⟨by first|omega|(dsimp only;omega),by first|omega|(dsimp only;omega)⟩,hr4,⟨by first|omega|(dsimp only;omega),by first|omega|(dsimp only;omega)⟩⟩) ?_
   rintro _ _ ⟨_,_,rfl,H5',⟨F5,_,rfl,rfl,hO5⟩⟩
   have H:=H.readers (fp:=[]) (by simp) (PLe.refl _) H5'
   obtain⟨_,_,_,rfl,_,ho5,_⟩:=hO5
   refine⟨_,Z,?_⟩
   obtain⟨z6,hz6⟩:∃z,xs[k]? = some z:=⟨_,List.getElem?_eq_getElem aN⟩
   obtain⟨_,P6,_,Q6,hF6,_,hE6,_,hput6,hpu06⟩:=(hchk2_0).focus hz6
   rw[hF6]at H
   refine o_index_F 2 H k Z underlying23 sizeOf139 Z Z Z Z aN ?_;intro _ hba6;cases hba6
   obtain⟨_,_,_,rfl,hi6,ho6,hj6⟩:=hE6
   have hbk6:ChkF heldO 3 _ (xs.set k z6) _:=hpu06 _ z6 (show heldO _ _ _ from⟨_,_,_,rfl,hi6,ho6,hj6⟩)
   have hsame6:xs.set k z6=xs:=Fw.set_same hz6;rw[hsame6]at hbk6
   have hcl7:=(hbk6).length
   have hlt7:k<xs.length:=(List.getElem?_eq_some_iff.1 hz6).1
   try simp only[length_setCs,List.length_set]at hcl7
   try simp only[List.length_set]at hlt7
   refine o_store_A 2 H sizeOf139 Z Z Z Z Z (by simp only[vc,List.length_cons,List.length_nil,length_setCs];omega) ?_;intro _ H
   have H:=H.tF 1
   have H:=H.outFi;have H:=H.del (k:=0) rfl
   have H:=H.tF 2
   have H:=H.toFront (k:=2) rfl;have H:=H.toFront (k:=2) rfl;have H:=H.toFront (k:=2) rfl
   have H:=H.inFi
   have hchk7:=hput6 F5 z4 0 [_,_,_] (by simp) (show heldO _ _ _ from⟨_,_,_,rfl,⟨by first|omega|(dsimp only;omega),by first|omega|(dsimp only;omega)⟩,ho5,⟨by first|omega|(dsimp only;omega),by first|omega|(dsimp only;omega)⟩⟩)
   refine R_nil (N_B (N_K (W_region (mV Z (aD Z2 (aG Z (R_nil ?_)))))))
   refine N_lp (hJ:=⟨_,_,_,(xs.set k z4),(P6++(F5++Q6)),k+1,_,Z,hle2,H,?inv,Z⟩) (hm:=?hm)
   case hm=>omega
   case inv=>exact⟨hchk7,aN,(by exact⟨by omega,by simp[hxl],Sp.take_set hxt hxl hz4⟩)⟩
  intro hc3'
  try simp only[nrm]at hc3'
  refine W_exit (N_K_exit (N_LP_exit (N_B_same (N_K (q2 (pe 2 Z (q3 (W_ret (rt1 results68 Z ?_)))))))))
  have hke:k=a.length:=by omega
  have hxx:xs=a:=by (have h9:=hxt;rw[hke,List.take_of_length_le oM,List.take_length]at h9;exact h9)
  have H:=H.tF 1
  obtain⟨_,H,hOw2⟩:=H.ownF hchk2_0 aN aN
  have H:=H.forget hG (by simp)
  exact⟨_,_,Z,H,_,Z,hxx▸⟨_,hOw2⟩⟩
theorem w_toItemS_c (w0:World)(G0:PH)(hG:PSub G0 w0)(va:Value)(a:List (BItem))(ha:RdItems G0 va a) :
  Calls Tryz.prog 69 #[va] w0 (RetN w0 G0 (fun v Bs=>∃(F:Fr),Bs=[frag F]∧OIs F v a)):=by
 obtain⟨aa,ka,rfl⟩:=ha.shape
 have hlima:a.length≤1099511627776:=ha.lim
 have H:=Hp.init hG
 refine calls_of_W (l:=[.slice aa a.length ka]) func69 Z ntmps69 Z (q2 (aG Z (q1 (mV Z (lN Z (o_makeN (c:=a.length) (sz:=3) (bytes:=48) H underlying24 typeInfo41 ⟨_,Z,Z⟩ Z Z Z Z Z Z Z Z Z oM Z ?_))))));intro _ _ H
 have hchk1:=Chk.rep (E:=itemE) (sz:=3) (G:=G0) (x0:=⟨[],false,[]⟩) (itemE.mk (by decide) (RdS.nil _ _ _)) rfl (a.length)
 refine aG Z (q3 (W_seq (q2 (aG Z (q3 (W_block ?_))))))
 have H:=H.addF
 refine W_lp (hf:=(Sub.cons (t:=0) Z (Sub.cons (t:=2) Z Sub.nil))) (J:=fun M w m=>∃(v:Value) (n:Nat) (cs:List Value) (xs:List (BItem)) (F:Fr) (k:Nat) (G:PH),M=[(4,.int .i64 (k:Int)),(3,v)]∧PLe G0 G∧Hp w0 G0 [] w G [frag F,acc 41 3 v n cs]∧(ChkF itemO 3 cs xs F∧n=xs.length∧k≤a.length∧xs.length=a.length∧xs.take k=a.take k)∧m=(a.length-k)) (h0:=⟨_,_,_,(List.replicate a.length ⟨[],false,[]⟩),[],0,_,Z,PLe.refl _,H,?inv,Z⟩) (round:=?round)
 case inv=>exact⟨(ChkF.rep zeroItemO rfl (a.length)),by first|rfl|simp|(simp;omega)|omega,(by simp)⟩
 case round =>
  rintro _ _ _ ⟨v,n,cs,xs,F,k,_,rfl,hle2,H,hinv2,rfl⟩
  have ha:=ha.up hle2
  obtain⟨hchk2_0,_,hinv2⟩:=hinv2
  obtain⟨_,_,rfl⟩:=H.accShape (k:=1) rfl
  obtain⟨_,hxl,hxt⟩:=hinv2
  refine W_seq (q2 (pe 2 Z (lN Z (pe 1 Z (q3 ?_)))))
  refine W_cond Z ?_ ?_
  ·intro hc3
   try simp only[nrm]at hc3
   refine W_skip (N_K (W_seq (W_block (W_region (pe 4 Z (iP k ha Z3 Z ?_))))));intro _ _ z4 _ hz4 hE4 hrow4
   obtain⟨_,_,_,rfl,hi4,hr4,_,_⟩:=ox hE4
   refine o_loadagg_P H isAgg198 sizeOf198 Z Z hrow4 Z (xc Z2 (w_toItem_c _ _ H.sub _ _ ⟨_,_,_,Z,hi4,hr4⟩) ?_)
   rintro _ _ ⟨_,_,rfl,H5',⟨F5,_,rfl,rfl,hO5⟩⟩
   have H:=H.readers (fp:=[]) (by simp) (PLe.refl _) H5'
   obtain⟨_,_,_,rfl,hi5,ho5⟩:=hO5
   refine⟨_,Z,?_⟩
   obtain⟨z6,hz6⟩:∃z,xs[k]? = some z:=⟨_,List.getElem?_eq_getElem aN⟩
   obtain⟨_,P6,_,Q6,hF6,_,hE6,_,hput6,hpu06⟩:=(hchk2_0).focus hz6
   rw[hF6]at H
   refine o_index_F 2 H k Z underlying24 sizeOf41 Z Z Z Z aN ?_;intro _ hba6;cases hba6
   obtain⟨_,_,_,rfl,hi6,ho6⟩:=hE6;have hy_hi6:_≤16777216:=hi6
   have hbk6:ChkF itemO 3 _ (xs.set k z6) _:=hpu06 _ z6 (show itemO _ _ _ from⟨_,_,_,rfl,hi6,ho6⟩)
   have hsame6:xs.set k z6=xs:=Fw.set_same hz6;rw[hsame6]at hbk6
   have hcl7:=(hbk6).length
   have hlt7:k<xs.length:=(List.getElem?_eq_some_iff.1 hz6).1
   try simp only[length_setCs,List.length_set]at hcl7
   try simp only[List.length_set]at hlt7
   refine o_store_A 2 H sizeOf41 Z Z Z Z Z (by simp only[vc,List.length_cons,List.length_nil,length_setCs];omega) ?_;intro _ H
   have H:=H.tF 1
   have H:=H.outFi;have H:=H.del (k:=0) rfl
   have H:=H.tF 2
   have H:=H.toFront (k:=2) rfl;have H:=H.toFront (k:=2) rfl;have H:=H.toFront (k:=2) rfl
   have H:=H.inFi
   have hchk7:=hput6 F5 z4 0 [_,_,_] (by simp) (show itemO _ _ _ from⟨_,_,_,rfl,hi5,ho5⟩)
   refine R_nil (N_B (N_K (W_region (mV Z (aD Z2 (aG Z (R_nil ?_)))))))
   refine N_lp (hJ:=⟨_,_,_,(xs.set k z4),(P6++(F5++Q6)),k+1,_,Z,hle2,H,?inv,Z⟩) (hm:=?hm)
   case hm=>omega
   case inv=>exact⟨hchk7,aN,(by exact⟨by omega,by simp[hxl],Sp.take_set hxt hxl hz4⟩)⟩
  intro hc3'
  try simp only[nrm]at hc3'
  refine W_exit (N_K_exit (N_LP_exit (N_B_same (N_K (q2 (pe 2 Z (q3 (W_ret (rt1 results69 Z ?_)))))))))
  have hke:k=a.length:=by omega
  have hxx:xs=a:=by (have h9:=hxt;rw[hke,List.take_of_length_le oM,List.take_length]at h9;exact h9)
  have H:=H.tF 1
  obtain⟨_,H,hOw2⟩:=H.ownF hchk2_0 aN aN
  have H:=H.forget hG (by simp)
  exact⟨_,_,Z,H,_,Z,hxx▸⟨_,hOw2⟩⟩
theorem w_toSnap_c (w0:World)(G0:PH)(hG:PSub G0 w0)(ca:List Value)(a:BSnap)(ha:snapE G0 a ca) :
  Calls Tryz.prog 136 #[.agg ca.toArray] w0 (RetN w0 G0 (fun v Bs=>∃(F:Fr) (cs:List Value),v= .agg cs.toArray∧Bs=[frag F]∧snapO F a cs)):=by
 obtain⟨_,_,_,rfl,hi1,hr1,_,_⟩:=ox ha
 have H:=Hp.init hG
 refine calls_of_W (l:=[_]) func136 Z ntmps136 Z (q2 (o_box H Z Z Z ?_));intro _ _ _ H
 refine xal H Z ?_;intro _ _ _ H
 refine q1 (xal H Z ?_);intro _ _ _ H
 refine q1 (fA 0 Z (lB 2 H Z3 (fA 0 Z (xst 0 H Z8 ?_))));intro _ H
 refine q1 (fA 1 Z (lB 2 H Z3 (xc Z2 (w_toItemS_c _ _ H.sub _ _ hr1) ?_)))
 rintro _ _ ⟨_,_,rfl,H6',⟨_,rfl,hO6⟩⟩
 have H:=H.readers (fp:=[]) (by simp) (PLe.refl _) H6'
 obtain⟨_,hP6⟩:=hO6
 obtain⟨_,_,rfl⟩:=OwnS.shape hP6
 have hO6:=OIs.mk hP6
 refine⟨_,Z,?_⟩
 refine fA 1 Z (xst 1 H Z8 ?_);intro _ H
 refine q1 (lA 1 2 H Z4 (xst 2 H Z8 ?_));intro _ H
 refine q3 (W_ret (ret_gen (rs:=[.cell 2 67]) (vs:=[_]) results136 ⟨⟨_,Z,load_blk 2 H isAgg67 sizeOf67 Z Z Z⟩,trivial⟩ ?_))
 have H:=H.dl 1
 have H:=H.dl 1
 have H:=H.dl 1
 have H:=H.forget hG (by simp)
 exact⟨_,_,Z,H,_,_,Z,Z,⟨_,_,_,Z,hi1,hO6⟩⟩
theorem w_toSnapS_c (w0:World)(G0:PH)(hG:PSub G0 w0)(va:Value)(a:List (BSnap))(ha:RdSn G0 va a) :
  Calls Tryz.prog 70 #[va] w0 (RetN w0 G0 (fun v Bs=>∃(F:Fr),Bs=[frag F]∧OSn F v a)):=by
 obtain⟨aa,ka,rfl⟩:=ha.shape
 have hlima:a.length≤1099511627776:=ha.lim
 have H:=Hp.init hG
 refine calls_of_W (l:=[.slice aa a.length ka]) func70 Z ntmps70 Z (q2 (aG Z (q1 (mV Z (lN Z (o_makeN (c:=a.length) (sz:=2) (bytes:=40) H underlying25 typeInfo67 ⟨_,Z,Z⟩ Z Z Z Z Z Z Z Z Z oM Z ?_))))));intro _ _ H
 have hchk1:=Chk.rep (E:=snapE) (sz:=2) (G:=G0) (x0:=⟨[],[]⟩) (⟨_,_,_,rfl,by decide,RdS.nil _ _ _⟩) rfl (a.length)
 refine aG Z (q3 (W_seq (q2 (aG Z (q3 (W_block ?_))))))
 have H:=H.addF
 refine W_lp (hf:=(Sub.cons (t:=0) Z (Sub.cons (t:=2) Z Sub.nil))) (J:=fun M w m=>∃(v:Value) (n:Nat) (cs:List Value) (xs:List (BSnap)) (F:Fr) (k:Nat) (G:PH),M=[(4,.int .i64 (k:Int)),(3,v)]∧PLe G0 G∧Hp w0 G0 [] w G [frag F,acc 67 2 v n cs]∧(ChkF snapO 2 cs xs F∧n=xs.length∧k≤a.length∧xs.length=a.length∧xs.take k=a.take k)∧m=(a.length-k)) (h0:=⟨_,_,_,(List.replicate a.length ⟨[],[]⟩),[],0,_,Z,PLe.refl _,H,?inv,Z⟩) (round:=?round)
 case inv=>exact⟨(ChkF.rep zeroSnapO rfl (a.length)),by first|rfl|simp|(simp;omega)|omega,(by simp)⟩
 case round =>
  rintro _ _ _ ⟨v,n,cs,xs,F,k,_,rfl,hle2,H,hinv2,rfl⟩
  have ha:=ha.up hle2
  obtain⟨hchk2_0,_,hinv2⟩:=hinv2
  obtain⟨_,_,rfl⟩:=H.accShape (k:=1) rfl
  obtain⟨_,hxl,hxt⟩:=hinv2
  refine W_seq (q2 (pe 2 Z (lN Z (pe 1 Z (q3 ?_)))))
  refine W_cond Z ?_ ?_
  ·intro hc3
   try simp only[nrm]at hc3
   refine W_skip (N_K (W_seq (W_block (W_region (pe 4 Z (iP k ha Z3 Z ?_))))));intro _ _ z4 _ hz4 hE4 hrow4
   obtain⟨_,_,_,rfl,hi4,hr4,_,_⟩:=ox hE4
   refine o_loadagg_P H isAgg201 sizeOf201 Z Z hrow4 Z (xc Z2 (w_toSnap_c _ _ H.sub _ _ ⟨_,_,_,Z,hi4,hr4⟩) ?_)
   rintro _ _ ⟨_,_,rfl,H5',⟨F5,_,rfl,rfl,hO5⟩⟩
   have H:=H.readers (fp:=[]) (by simp) (PLe.refl _) H5'
   obtain⟨_,_,_,rfl,hi5,ho5⟩:=hO5
   refine⟨_,Z,?_⟩
   obtain⟨z6,hz6⟩:∃z,xs[k]? = some z:=⟨_,List.getElem?_eq_getElem aN⟩
   obtain⟨_,P6,_,Q6,hF6,_,hE6,_,hput6,hpu06⟩:=(hchk2_0).focus hz6
   rw[hF6]at H
   refine o_index_F 2 H k Z underlying25 sizeOf67 Z Z Z Z aN ?_;intro _ hba6;cases hba6
   obtain⟨_,_,_,rfl,hi6,ho6⟩:=hE6;have hy_hi6:_≤16777216:=hi6
   have hbk6:ChkF snapO 2 _ (xs.set k z6) _:=hpu06 _ z6 (show snapO _ _ _ from⟨_,_,_,rfl,hi6,ho6⟩)
   have hsame6:xs.set k z6=xs:=Fw.set_same hz6;rw[hsame6]at hbk6
   have hcl7:=(hbk6).length
   have hlt7:k<xs.length:=(List.getElem?_eq_some_iff.1 hz6).1
   try simp only[length_setCs,List.length_set]at hcl7
   try simp only[List.length_set]at hlt7
   refine o_store_A 2 H sizeOf67 Z Z Z Z Z (by simp only[vc,List.length_cons,List.length_nil,length_setCs];omega) ?_;intro _ H
   have H:=H.tF 1
   have H:=H.outFi;have H:=H.del (k:=0) rfl
   have H:=H.tF 2
   have H:=H.toFront (k:=2) rfl;have H:=H.toFront (k:=2) rfl;have H:=H.toFront (k:=2) rfl
   have H:=H.inFi
   have hchk7:=hput6 F5 z4 0 [_,_] (by simp) (show snapO _ _ _ from⟨_,_,_,rfl,hi5,ho5⟩)
   refine R_nil (N_B (N_K (W_region (mV Z (aD Z2 (aG Z (R_nil ?_)))))))
   refine N_lp (hJ:=⟨_,_,_,(xs.set k z4),(P6++(F5++Q6)),k+1,_,Z,hle2,H,?inv,Z⟩) (hm:=?hm)
   case hm=>omega
   case inv=>exact⟨hchk7,aN,(by exact⟨by omega,by simp[hxl],Sp.take_set hxt hxl hz4⟩)⟩
  intro hc3'
  try simp only[nrm]at hc3'
  refine W_exit (N_K_exit (N_LP_exit (N_B_same (N_K (q2 (pe 2 Z (q3 (W_ret (rt1 results70 Z ?_)))))))))
  have hke:k=a.length:=by omega
  have hxx:xs=a:=by (have h9:=hxt;rw[hke,List.take_of_length_le oM,List.take_length]at h9;exact h9)
  have H:=H.tF 1
  obtain⟨_,H,hOw2⟩:=H.ownF hchk2_0 aN aN
  have H:=H.forget hG (by simp)
  exact⟨_,_,Z,H,_,Z,hxx▸⟨_,hOw2⟩⟩
theorem w_toDisk_c (w0:World)(G0:PH)(hG:PSub G0 w0)(ca:List Value)(a:BDisk)(ha:diskE G0 a ca) :
  Calls Tryz.prog 24 #[.agg ca.toArray] w0 (RetN w0 G0 (fun v Bs=>∃(v1 v2 v3:Value) (F1 F2 F3:Fr),v= .agg #[v1,v2,v3]∧Bs=[frag F1,frag F2,frag F3]∧OHs F1 v1 a.store∧OIs F2 v2 a.tree∧OSn F3 v3 a.snaps)):=by
 obtain⟨_,_,_,_,_,_,_,_,_,rfl,hr1,hr1',hr1'',⟨_,_⟩,⟨_,_⟩,_,_⟩:=ox ha
 have H:=Hp.init hG
 refine calls_of_W (l:=[_]) func24 Z ntmps24 Z (q2 (o_box H Z Z Z ?_));intro _ _ _ H
 refine xal H Z ?_;intro _ _ _ H
 refine q1 (xal H Z ?_);intro _ _ _ H
 refine q1 (fA 0 Z (lB 2 H Z3 (xc Z2 (w_toHeldS_c _ _ H.sub _ _ hr1) ?_)))
 rintro _ _ ⟨_,_,rfl,H5',⟨_,rfl,hO5⟩⟩
 have H:=H.readers (fp:=[]) (by simp) (PLe.refl _) H5'
 obtain⟨_,hP5⟩:=hO5
 obtain⟨_,_,rfl⟩:=OwnS.shape hP5
 have hO5:=OHs.mk hP5
 refine⟨_,Z,?_⟩
 refine fA 0 Z (xst 1 H Z8 ?_);intro _ H
 refine q1 (fA 1 Z (lB 3 H Z3 (xc Z2 (w_toItemS_c _ _ H.sub _ _ hr1') ?_)))
 rintro _ _ ⟨_,_,rfl,H7',⟨_,rfl,hO7⟩⟩
 have H:=H.readers (fp:=[]) (by simp) (PLe.refl _) H7'
 obtain⟨_,hP7⟩:=hO7
 obtain⟨_,_,rfl⟩:=OwnS.shape hP7
 have hO7:=OIs.mk hP7
 refine⟨_,Z,?_⟩
 refine fA 1 Z (xst 2 H Z8 ?_);intro _ H
 refine q1 (fA 2 Z (lB 4 H Z3 (xc Z2 (w_toSnapS_c _ _ H.sub _ _ hr1'') ?_)))
 rintro _ _ ⟨_,_,rfl,H9',⟨_,rfl,hO9⟩⟩
 have H:=H.readers (fp:=[]) (by simp) (PLe.refl _) H9'
 obtain⟨_,hP9⟩:=hO9
 obtain⟨_,_,rfl⟩:=OwnS.shape hP9
 have hO9:=OSn.mk hP9
 refine⟨_,Z,?_⟩
 refine fA 2 Z (xst 3 H Z8 ?_);intro _ H
 refine q1 (lA 3 3 H Z4 (xst 4 H Z8 ?_));intro _ H
 refine q3 (W_ret (ret_gen (rs:=[.cell 2 27]) (vs:=[_]) results24 ⟨⟨_,Z,load_blk 4 H isAgg27 sizeOf27 Z Z Z⟩,trivial⟩ ?_))
 have H:=H.sel [2,1,0] rfl
 have H:=H.forget hG (by simp)
 exact⟨_,_,Z,H,_,_,_,_,_,_,Z,Z,hO5,hO7,hO9⟩
theorem w_markText_c (w0:World)(k:Int)(hk:k≤2199023255552) :
  Calls Tryz.prog 79 #[.int .i64 k] w0 (Rets w0 (str (mtext k))):=by
 have H:=Hp.init0 w0
 refine calls_of_W (l:=[.int .i64 k]) func79 Z ntmps79 Z (q2 (aG Z (q3 (W_seq (q2 (pe 2 Z (q3 ?_)))))))
 refine W_cond Z ?_ ?_
 ·intro hc1
  try simp only[nrm]at hc1
  refine q2 (aG Z (q3 (W_ret (N_K_ret (rt1 results79 Z ?_)))))
  exact H.rets (by (rw[mtext,if_pos oM];rfl))
 intro hc1'
 try simp only[nrm]at hc1'
 refine W_skip (N_K (q2 (aG Z (q3 (W_seq (W_block ?_))))))
 refine W_lp (hf:=(Sub.cons (t:=2) Z Sub.nil)) (J:=fun M w m=>∃(kk:Int) (out:Bs) (G:PH),M=[(0,.int .i64 kk),(3,str out)]∧PLe (fun _=>none) G∧Hp w0 (fun _=>none) [] w G []∧(0≤kk∧kk≤k∧digs k.toNat=digs kk.toNat++out)∧m=(kk.toNat)) (h0:=⟨k,[],_,Z,PLe.refl _,H,?inv,Z⟩) (round:=?round)
 case inv=>exact⟨by omega,by omega,by simp⟩
 case round =>
  rintro _ _ _ ⟨kk,out,_,rfl,hle2,H,hinv2,rfl⟩
  obtain⟨_,_,hdg⟩:=hinv2;have hol:out.length≤20:=(by have h8:=congrArg List.length hdg;have h9:=digs_len 13 k.toNat oM;simp at h8;omega)
  refine W_seq (q2 (pe 2 Z (q3 ?_)))
  refine W_cond Z ?_ ?_
  ·intro hc3
   try simp only[nrm]at hc3
   refine W_skip (N_K (W_block (q2 (mV Z (o_rem Z Z Z oM oM (aD Z2 (o_conv (by simp[underlying3]) underlying5 Z Z (wrap_u8 oO) (xbs H Z7 ?_))))))));intro _ _ _ H
   refine o_convbytes1 0 H underlying22 underlying5 underlying9 Z Z Z (mV Z ?_)
   refine o_sadd Z Z Z (by simp;omega) ?_
   refine aG Z (q3 (W_region (mV Z (o_quo Z Z Z oM oM oM (aG Z (R_nil (N_B ?_)))))))
   have H:=H.dl 0
   refine N_lp (hJ:=⟨kk / 10,([UInt8.ofNat (48+kk % 10).toNat]++out),_,Z,hle2,H,?inv,Z⟩) (hm:=?hm)
   case hm=>omega
   case inv=>exact⟨by omega,by omega,(by rw[hdg,digs_pos (n:=kk.toNat) oM,show(48+kk % 10).toNat=48+kk.toNat % 10 by omega,show(kk / 10).toNat=kk.toNat / 10 by omega,List.append_assoc])⟩
  intro hc3'
  try simp only[nrm]at hc3'
  refine W_exit (N_K_exit (N_LP_exit (N_B_same (N_K (q2 (mV Z ?_))))))
  refine o_sadd Z Z Z (by simp;omega) ?_
  refine aG Z (q3 (W_ret (rt1 results79 Z ?_)))
  obtain rfl:kk=0:=by omega
  exact H.rets (by (rw[mtext,if_neg oM,hdg,show(0:Int).toNat=0 from rfl,digs_zero];rfl))
theorem w_markIntS_c (w0:World)(G0:PH)(hG:PSub G0 w0)(Fa:Fr)(va:Value)(a:List (Int))(hOa:OI Fa va a)(k:Int)(hLent:Lent w0 G0 [frag Fa])(hb:0≤k∧k+(cnt cI a:Int)≤2199023255552) :
  Calls Tryz.prog 80 #[va,.int .i64 k] w0 (RetM w0 G0 (fps [frag Fa]) (fun G' v Bs=>∃(F':Fr),v= .int .i64 (k+(cnt cI a:Int))∧Bs=[frag F']∧OI F' va (mks mI cI k a))):=by
 obtain⟨ea,hPa⟩:=hOa;have hlima:a.length≤1099511627776:=hPa.1;obtain⟨aa,ka,rfl⟩:=OwnS.shape hPa
 have H:Hp w0 G0 (fps [frag Fa]) w0 G0 [frag Fa]:=hLent.hp
 obtain⟨_,Ra,H,hcka⟩:=H.openF hPa
 refine calls_of_W (l:=[.slice aa a.length ka,.int .i64 k]) func80 Z ntmps80 Z (q2 (aG Z (q3 (W_seq (q2 (aG Z (q3 (W_block ?_))))))))
 refine W_lp (hf:=(Sub.cons (t:=4) Z Sub.nil)) (J:=fun M w m=>∃(v:Value) (n:Nat) (cs:List Value) (xs:List (Int)) (F:Fr) (i:Nat) (kk:Int) (G:PH),M=[(5,.int .i64 (i:Int)),(1,.int .i64 kk),(0,v)]∧PLe G0 G∧Hp w0 G0 (fps [frag Fa]) w G [acc ea 1 v n cs,frag F]∧(ChkF intO 1 cs xs F∧n=xs.length∧i≤a.length∧kk=k+(cnt cI (a.take i):Int)∧xs=mks mI cI k (a.take i)++a.drop i∧v= .slice aa a.length ka)∧m=(a.length-i)) (h0:=⟨_,_,_,a,Ra,0,k,_,Z,PLe.refl _,H,?inv,Z⟩) (round:=?round)
 case inv=>exact⟨hcka,by first|rfl|simp|(simp;omega)|omega,(by simp[cnt,mks])⟩
 case round =>
  rintro _ _ _ ⟨v,n,cs,xs,F,i,kk,_,rfl,hle1,H,hinv1,rfl⟩
  obtain⟨hchk1_0,_,hinv1⟩:=hinv1
  obtain⟨_,_,rfl⟩:=H.accShape (k:=0) rfl
  obtain⟨hi,hkk,hxs,hv⟩:=hinv1;have hxl:xs.length=a.length:=(by (rw[hxs];exact half_len hi));have hctk:=cnt_tk (c:=cI) a i
  refine W_seq (q2 (pe 2 Z (lN Z (pe 1 Z (q3 ?_)))))
  refine W_cond Z ?_ ?_
  ·intro hc2
   try simp only[nrm]at hc2
   refine W_skip (N_K (W_seq (W_block (q2 (pe 3 Z ?_)))))
   obtain⟨z3,hz3⟩:∃z,xs[i]? = some z:=⟨_,List.getElem?_eq_getElem aN⟩
   obtain⟨_,P3,_,Q3,hF3,_,hE3,_,hput3,hpu03⟩:=(hchk1_0).focus hz3
   rw[hF3]at H
   refine o_index_F 0 H i Z underlying37 sizeOf3 Z Z Z Z aN ?_;intro _ hba3;cases hba3
   obtain⟨rfl,rfl,hi3⟩:=hE3
   have hbk3:ChkF intO 1 _ (xs.set i z3) _:=hpu03 [] z3 (show intO _ _ _ from⟨rfl,rfl,hi3⟩)
   have hsame3:xs.set i z3=xs:=Fw.set_same hz3;rw[hsame3]at hbk3
   have hat:=half_at hxs hz3 hi;have hcl:=cnt_le (c:=cI) hat
   have hch:cI z3=1:=rfl
   have hcl4:=(hbk3).length
   have hlt4:i<xs.length:=(List.getElem?_eq_some_iff.1 hz3).1
   try simp only[length_setCs,List.length_set]at hcl4
   try simp only[List.length_set]at hlt4
   refine o_store_A 0 H sizeOf3 Z Z Z Z Z (by simp only[vc,List.length_cons,List.length_nil,length_setCs];omega) ?_;intro _ H
   have hchk4:=hput3 [] kk 0 [_] (by simp) (show intO _ _ _ from⟨rfl,rfl,oO⟩)
   refine q3 (W_region (mV Z (aD Z2 (aG Z (R_nil (N_B (N_K (W_region (mV Z (aD Z2 (aG Z (R_nil ?_))))))))))))
   refine N_lp (hJ:=⟨_,_,_,(xs.set i kk),(P3++([]++Q3)),i+1,kk+1,_,Z,hle1,H,?inv,Z⟩) (hm:=?hm)
   case hm=>omega
   case inv=>exact⟨hchk4,aN,(by exact⟨by omega,by (rw[cnt_succ hat];omega),half_step hxs hz3 hi hkk,hv⟩)⟩
  intro hc2'
  try simp only[nrm]at hc2'
  refine W_exit (N_K_exit (N_LP_exit (N_B_same (N_K (q2 (pe 2 Z (q3 (W_ret (rt1 results80 Z ?_)))))))))
  have hie:i=a.length:=by omega
  have hxx:xs=mks mI cI k a:=by (rw[hxs];exact half_end hie)
  have hce:=cnt_end (c:=cI) hie
  have H:=H.tF 1
  have H:=H.tF 1
  obtain⟨_,H,hOw1⟩:=H.ownF hchk1_0 aN aN
  exact H.retM ⟨_,congrArg (Value.int .i64) (by (rw[hkk,hce])),rfl,hxx▸hv▸⟨_,hOw1⟩⟩
theorem w_markHeldS_c (w0:World)(G0:PH)(hG:PSub G0 w0)(Fa:Fr)(va:Value)(a:List (BHeld))(hOa:OHs Fa va a)(k:Int)(hLent:Lent w0 G0 [frag Fa])(hb:0≤k∧k+(cnt cHeld a:Int)≤2199023255552) :
  Calls Tryz.prog 76 #[va,.int .i64 k] w0 (RetM w0 G0 (fps [frag Fa]) (fun G' v Bs=>∃(F':Fr),v= .int .i64 (k+(cnt cHeld a:Int))∧Bs=[frag F']∧OHs F' va (mks mHeld cHeld k a))):=by
 obtain⟨ea,hPa⟩:=hOa;have hlima:a.length≤1099511627776:=hPa.1;obtain⟨aa,ka,rfl⟩:=OwnS.shape hPa
 have H:Hp w0 G0 (fps [frag Fa]) w0 G0 [frag Fa]:=hLent.hp
 obtain⟨_,Ra,H,hcka⟩:=H.openF hPa
 refine calls_of_W (l:=[.slice aa a.length ka,.int .i64 k]) func76 Z ntmps76 Z (q2 (aG Z (q3 (W_seq (q2 (aG Z (q3 (W_block ?_))))))))
 refine W_lp (hf:=(Sub.cons (t:=4) Z Sub.nil)) (J:=fun M w m=>∃(v:Value) (n:Nat) (cs:List Value) (xs:List (BHeld)) (F:Fr) (i:Nat) (kk:Int) (G:PH),M=[(5,.int .i64 (i:Int)),(1,.int .i64 kk),(0,v)]∧PLe G0 G∧Hp w0 G0 (fps [frag Fa]) w G [acc ea 3 v n cs,frag F]∧(ChkF heldO 3 cs xs F∧n=xs.length∧i≤a.length∧kk=k+(cnt cHeld (a.take i):Int)∧xs=mks mHeld cHeld k (a.take i)++a.drop i∧v= .slice aa a.length ka)∧m=(a.length-i)) (h0:=⟨_,_,_,a,Ra,0,k,_,Z,PLe.refl _,H,?inv,Z⟩) (round:=?round)
 case inv=>exact⟨hcka,by first|rfl|simp|(simp;omega)|omega,(by simp[cnt,mks])⟩
 case round =>
  rintro _ _ _ ⟨v,n,cs,xs,F,i,kk,_,rfl,hle1,H,hinv1,rfl⟩
  obtain⟨hchk1_0,_,hinv1⟩:=hinv1
  obtain⟨_,_,rfl⟩:=H.accShape (k:=0) rfl
  obtain⟨hi,hkk,hxs,hv⟩:=hinv1;have hxl:xs.length=a.length:=(by (rw[hxs];exact half_len hi));have hctk:=cnt_tk (c:=cHeld) a i
  refine W_seq (q2 (pe 2 Z (lN Z (pe 1 Z (q3 ?_)))))
  refine W_cond Z ?_ ?_
  ·intro hc2
   try simp only[nrm]at hc2
   refine W_skip (N_K (W_seq (W_block (q2 (pe 3 Z ?_)))))
   obtain⟨z3,hz3⟩:∃z,xs[i]? = some z:=⟨_,List.getElem?_eq_getElem aN⟩
   obtain⟨_,_,_,_,hF3,_,hE3,_,hput3,hpu03⟩:=(hchk1_0).focus hz3
   rw[hF3]at H
   refine o_index_F 0 H i Z underlying23 sizeOf139 Z Z Z Z aN ?_;intro _ hba3;cases hba3
   obtain⟨_,_,_,rfl,hi3,ho3,hj3⟩:=hE3
   have hbk3:ChkF heldO 3 _ (xs.set i z3) _:=hpu03 _ z3 (show heldO _ _ _ from⟨_,_,_,rfl,hi3,ho3,hj3⟩)
   have hsame3:xs.set i z3=xs:=Fw.set_same hz3;rw[hsame3]at hbk3
   have hat:=half_at hxs hz3 hi;have hcl:=cnt_le (c:=cHeld) hat
   have hch:cHeld z3=2+cnt cI z3.bytes:=rfl
   refine fA 0 Z ?_
   have hcl4:=(hbk3).length
   have hlt4:i<xs.length:=(List.getElem?_eq_some_iff.1 hz3).1
   try simp only[length_setCs,List.length_set]at hcl4
   try simp only[List.length_set]at hlt4
   refine o_store_A 0 H sizeOf3 Z Z Z Z Z (by simp only[vc,List.length_cons,List.length_nil,length_setCs];omega) ?_;intro _ H
   have hchk4:=hput3 _ ⟨kk,z3.bytes,z3.uses⟩ 0 [_] (by simp) (show heldO _ _ _ from⟨_,_,_,rfl,⟨by first|omega|(dsimp only;omega),by first|omega|(dsimp only;omega)⟩,ho3,hj3⟩)
   refine q1 (mV Z (aD Z2 (aG Z (q1 (pe 2 Z ?_)))))
   obtain⟨z6,hz6⟩:∃z,(xs.set i ⟨kk,z3.bytes,z3.uses⟩)[i]? = some z:=⟨_,List.getElem?_eq_getElem aN⟩
   obtain⟨_,_,_,_,hF6,_,hE6,hg6,_,hpu06⟩:=(hchk4).focus hz6
   rw[hF6]at H
   refine o_index_F 0 H i Z underlying23 sizeOf139 Z Z Z Z aN ?_;intro _ hba6;cases hba6
   obtain⟨_,_,_,rfl,hi6,ho6,hj6⟩:=hE6
   have hbk6:ChkF heldO 3 _ ((xs.set i ⟨kk,z3.bytes,z3.uses⟩).set i z6) _:=hpu06 _ z6 (show heldO _ _ _ from⟨_,_,_,rfl,hi6,ho6,hj6⟩)
   have hsame6:(xs.set i ⟨kk,z3.bytes,z3.uses⟩).set i z6=(xs.set i ⟨kk,z3.bytes,z3.uses⟩):=Fw.set_same hz6;rw[hsame6]at hbk6
   have hze6:=Fw.set_at hz6
   have hzb6:z6.bytes=z3.bytes:=by simp only[hze6]
   have hzc6:cnt cI z6.bytes=cnt cI z3.bytes:=by rw[hzb6]
   refine fA 1 Z (o_load_A 0 H isAgg37 Z Z Z (hg6 1 _ Z) (mV Z ?_))
   have H:=H.tF 1
   have H:=H.outFi
   refine xc Z2 (w_markIntS_c _ _ H.sub _ _ _ ho6 _ H.lent1 oO) ?_
   rintro _ _ ⟨_,_,_,rfl,H7',⟨F7,rfl,rfl,hO7⟩⟩
   have hle1:=hle1.trans H7'.le
   have H:=H.borrow1 H7'
   refine⟨_,Z,?_⟩
   have H:=H.tF 2
   have H:=H.tF 2
   have H:=H.tF 2
   have H:=H.inFi
   have hcb1:=hpu06 F7 ⟨z6.id,mks mI cI (kk+1) z6.bytes,z6.uses⟩ (show heldO _ _ _ from⟨_,_,_,rfl,hi6,hO7,hj6⟩)
   refine aG Z (q1 (pe 3 Z ?_))
   obtain⟨z8,hz8⟩:∃z,((xs.set i ⟨kk,z3.bytes,z3.uses⟩).set i ⟨z6.id,mks mI cI (kk+1) z6.bytes,z6.uses⟩)[i]? = some z:=⟨_,List.getElem?_eq_getElem aN⟩
   obtain⟨_,P8,Fi8,Q8,hF8,_,hE8,_,hput8,hpu08⟩:=(hcb1).focus hz8
   rw[hF8]at H
   refine o_index_F 1 H i Z underlying23 sizeOf139 Z Z Z Z aN ?_;intro _ hba8;cases hba8
   obtain⟨_,_,_,rfl,hi8,ho8,hj8⟩:=hE8
   have hbk8:ChkF heldO 3 _ (((xs.set i ⟨kk,z3.bytes,z3.uses⟩).set i ⟨z6.id,mks mI cI (kk+1) z6.bytes,z6.uses⟩).set i z8) _:=hpu08 _ z8 (show heldO _ _ _ from⟨_,_,_,rfl,hi8,ho8,hj8⟩)
   have hsame8:((xs.set i ⟨kk,z3.bytes,z3.uses⟩).set i ⟨z6.id,mks mI cI (kk+1) z6.bytes,z6.uses⟩).set i z8=((xs.set i ⟨kk,z3.bytes,z3.uses⟩).set i ⟨z6.id,mks mI cI (kk+1) z6.bytes,z6.uses⟩):=Fw.set_same hz8;rw[hsame8]at hbk8
   have hze8:=Fw.set_at hz8
   refine fA 2 Z ?_
   have hcl9:=(hbk8).length
   have hlt9:i<((xs.set i ⟨kk,z3.bytes,z3.uses⟩).set i ⟨z6.id,mks mI cI (kk+1) z6.bytes,z6.uses⟩).length:=(List.getElem?_eq_some_iff.1 hz8).1
   try simp only[length_setCs,List.length_set]at hcl9
   try simp only[List.length_set]at hlt9
   refine o_store_A 1 H sizeOf3 Z Z Z Z Z (by simp only[vc,List.length_cons,List.length_nil,length_setCs];omega) ?_;intro _ H
   have hchk9:=hput8 _ ⟨z8.id,z8.bytes,kk+1+(cnt cI z6.bytes:Int)⟩ 2 [_] (by simp) (show heldO _ _ _ from⟨_,_,_,rfl,hi8,ho8,⟨by first|omega|(dsimp only;omega),by first|omega|(dsimp only;omega)⟩⟩)
   refine q3 (W_region (mV Z (aD Z2 (aG Z (R_nil (N_B (N_K (W_region (mV Z (aD Z2 (aG Z (R_nil ?_))))))))))))
   have H:=H.tF 1
   refine N_lp (hJ:=⟨_,_,_,(((xs.set i ⟨kk,z3.bytes,z3.uses⟩).set i ⟨z6.id,mks mI cI (kk+1) z6.bytes,z6.uses⟩).set i ⟨z8.id,z8.bytes,kk+1+(cnt cI z6.bytes:Int)⟩),(P8++(Fi8++Q8)),i+1,kk+1+(cnt cI z6.bytes:Int)+1,_,Z,hle1,H,?inv,Z⟩) (hm:=?hm)
   case hm=>omega
   case inv=>exact⟨hchk9,aN,(by exact⟨by omega,by (rw[cnt_succ hat];omega),(by (subst hze8;subst hze6;simp only[List.set_set];exact half_step hxs hz3 hi (by (rw[←hkk];rfl)))),hv⟩)⟩
  intro hc2'
  try simp only[nrm]at hc2'
  refine W_exit (N_K_exit (N_LP_exit (N_B_same (N_K (q2 (pe 2 Z (q3 (W_ret (rt1 results76 Z ?_)))))))))
  have hie:i=a.length:=by omega
  have hxx:xs=mks mHeld cHeld k a:=by (rw[hxs];exact half_end hie)
  have hce:=cnt_end (c:=cHeld) hie
  have H:=H.tF 1
  have H:=H.tF 1
  obtain⟨_,H,hOw2⟩:=H.ownF hchk1_0 aN aN
  exact H.retM ⟨_,congrArg (Value.int .i64) (by (rw[hkk,hce])),rfl,hxx▸hv▸⟨_,hOw2⟩⟩
theorem w_markItemS_c (w0:World)(G0:PH)(hG:PSub G0 w0)(Fa:Fr)(va:Value)(a:List (BItem))(hOa:OIs Fa va a)(k:Int)(hLent:Lent w0 G0 [frag Fa])(hb:0≤k∧k+(cnt cItem a:Int)≤2199023255552) :
  Calls Tryz.prog 77 #[va,.int .i64 k] w0 (RetM w0 G0 (fps [frag Fa]) (fun G' v Bs=>∃(F':Fr),v= .int .i64 (k+(cnt cItem a:Int))∧Bs=[frag F']∧OIs F' va (mks mItem cItem k a))):=by
 obtain⟨ea,hPa⟩:=hOa;have hlima:a.length≤1099511627776:=hPa.1;obtain⟨aa,ka,rfl⟩:=OwnS.shape hPa
 have H:Hp w0 G0 (fps [frag Fa]) w0 G0 [frag Fa]:=hLent.hp
 obtain⟨_,Ra,H,hcka⟩:=H.openF hPa
 refine calls_of_W (l:=[.slice aa a.length ka,.int .i64 k]) func77 Z ntmps77 Z (q2 (aG Z (q3 (W_seq (q2 (aG Z (q3 (W_block ?_))))))))
 refine W_lp (hf:=(Sub.cons (t:=4) Z Sub.nil)) (J:=fun M w m=>∃(v:Value) (n:Nat) (cs:List Value) (xs:List (BItem)) (F:Fr) (i:Nat) (kk:Int) (G:PH),M=[(5,.int .i64 (i:Int)),(1,.int .i64 kk),(0,v)]∧PLe G0 G∧Hp w0 G0 (fps [frag Fa]) w G [acc ea 3 v n cs,frag F]∧(ChkF itemO 3 cs xs F∧n=xs.length∧i≤a.length∧kk=k+(cnt cItem (a.take i):Int)∧xs=mks mItem cItem k (a.take i)++a.drop i∧v= .slice aa a.length ka)∧m=(a.length-i)) (h0:=⟨_,_,_,a,Ra,0,k,_,Z,PLe.refl _,H,?inv,Z⟩) (round:=?round)
 case inv=>exact⟨hcka,by first|rfl|simp|(simp;omega)|omega,(by simp[cnt,mks])⟩
 case round =>
  rintro _ _ _ ⟨v,n,cs,xs,F,i,kk,_,rfl,hle1,H,hinv1,rfl⟩
  obtain⟨hchk1_0,_,hinv1⟩:=hinv1
  obtain⟨_,_,rfl⟩:=H.accShape (k:=0) rfl
  obtain⟨hi,hkk,hxs,hv⟩:=hinv1;have hxl:xs.length=a.length:=(by (rw[hxs];exact half_len hi));have hctk:=cnt_tk (c:=cItem) a i;have hmt:(mtext kk).length≤16777216:=(by have h9:=mtext_len (k:=kk) oM;omega)
  refine W_seq (q2 (pe 2 Z (lN Z (pe 1 Z (q3 ?_)))))
  refine W_cond Z ?_ ?_
  ·intro hc2
   try simp only[nrm]at hc2
   refine W_skip (N_K (W_seq (W_block (q2 (pe 3 Z (xr H Z2 (w_markText_c _ _ oM) ?_))))));intro _ H
   obtain⟨z4,hz4⟩:∃z,xs[i]? = some z:=⟨_,List.getElem?_eq_getElem aN⟩
   obtain⟨_,_,_,_,hF4,_,hE4,_,hput4,hpu04⟩:=(hchk1_0).focus hz4
   rw[hF4]at H
   refine o_index_F 0 H i Z underlying24 sizeOf41 Z Z Z Z aN ?_;intro _ hba4;cases hba4
   obtain⟨_,_,_,rfl,hi4,ho4⟩:=hE4;have hy_hi4:_≤16777216:=hi4
   have hbk4:ChkF itemO 3 _ (xs.set i z4) _:=hpu04 _ z4 (show itemO _ _ _ from⟨_,_,_,rfl,hi4,ho4⟩)
   have hsame4:xs.set i z4=xs:=Fw.set_same hz4;rw[hsame4]at hbk4
   have hat:=half_at hxs hz4 hi;have hcl:=cnt_le (c:=cItem) hat
   have hch:cItem z4=2+cnt cI z4.ids:=rfl
   refine fA 0 Z ?_
   have hcl5:=(hbk4).length
   have hlt5:i<xs.length:=(List.getElem?_eq_some_iff.1 hz4).1
   try simp only[length_setCs,List.length_set]at hcl5
   try simp only[List.length_set]at hlt5
   refine o_store_A 0 H sizeOf9 Z Z Z Z Z (by simp only[vc,List.length_cons,List.length_nil,length_setCs];omega) ?_;intro _ H
   have hchk5:=hput4 _ ⟨mtext kk,z4.dir,z4.ids⟩ 0 [_] (by simp) (show itemO _ _ _ from⟨_,_,_,rfl,(by (first|assumption|(refine Sp.l5Parent_lim ?_;assumption)|(simp;done)|(simp;omega)|omega)),ho4⟩)
   refine q1 (mV Z (aD Z2 (aG Z (q1 (pe 3 Z (o_rem Z Z Z oM oM (pe 1 Z ?_)))))))
   obtain⟨z7,hz7⟩:∃z,(xs.set i ⟨mtext kk,z4.dir,z4.ids⟩)[i]? = some z:=⟨_,List.getElem?_eq_getElem aN⟩
   obtain⟨_,_,_,_,hF7,_,hE7,_,hput7,hpu07⟩:=(hchk5).focus hz7
   rw[hF7]at H
   refine o_index_F 0 H i Z underlying24 sizeOf41 Z Z Z Z aN ?_;intro _ hba7;cases hba7
   obtain⟨_,_,_,rfl,hi7,ho7⟩:=hE7;have hy_hi7:_≤16777216:=hi7
   have hbk7:ChkF itemO 3 _ ((xs.set i ⟨mtext kk,z4.dir,z4.ids⟩).set i z7) _:=hpu07 _ z7 (show itemO _ _ _ from⟨_,_,_,rfl,hi7,ho7⟩)
   have hsame7:(xs.set i ⟨mtext kk,z4.dir,z4.ids⟩).set i z7=(xs.set i ⟨mtext kk,z4.dir,z4.ids⟩):=Fw.set_same hz7;rw[hsame7]at hbk7
   have hze7:=Fw.set_at hz7
   have hzb7:z7.ids=z4.ids:=by simp only[hze7]
   have hzc7:cnt cI z7.ids=cnt cI z4.ids:=by rw[hzb7]
   refine fA 1 Z ?_
   have hcl8:=(hbk7).length
   have hlt8:i<(xs.set i ⟨mtext kk,z4.dir,z4.ids⟩).length:=(List.getElem?_eq_some_iff.1 hz7).1
   try simp only[length_setCs,List.length_set]at hcl8
   try simp only[List.length_set]at hlt8
   refine o_store_A 0 H sizeOf4 Z Z Z Z Z (by simp only[vc,List.length_cons,List.length_nil,length_setCs];omega) ?_;intro _ H
   have hchk8:=hput7 _ ⟨z7.path,decide ((kk+1) % 3=0),z7.ids⟩ 1 [_] (by simp) (show itemO _ _ _ from⟨_,_,_,rfl,hi7,ho7⟩)
   refine q1 (mV Z (aD Z2 (aG Z (q3 (W_region (pe 2 Z ?_))))))
   obtain⟨z10,hz10⟩:∃z,((xs.set i ⟨mtext kk,z4.dir,z4.ids⟩).set i ⟨z7.path,decide ((kk+1) % 3=0),z7.ids⟩)[i]? = some z:=⟨_,List.getElem?_eq_getElem aN⟩
   obtain⟨_,P10,_,Q10,hF10,_,hE10,hg10,_,hpu010⟩:=(hchk8).focus hz10
   rw[hF10]at H
   refine o_index_F 0 H i Z underlying24 sizeOf41 Z Z Z Z aN ?_;intro _ hba10;cases hba10
   obtain⟨_,_,_,rfl,hi10,ho10⟩:=hE10;have hy_hi10:_≤16777216:=hi10
   have hbk10:ChkF itemO 3 _ (((xs.set i ⟨mtext kk,z4.dir,z4.ids⟩).set i ⟨z7.path,decide ((kk+1) % 3=0),z7.ids⟩).set i z10) _:=hpu010 _ z10 (show itemO _ _ _ from⟨_,_,_,rfl,hi10,ho10⟩)
   have hsame10:((xs.set i ⟨mtext kk,z4.dir,z4.ids⟩).set i ⟨z7.path,decide ((kk+1) % 3=0),z7.ids⟩).set i z10=((xs.set i ⟨mtext kk,z4.dir,z4.ids⟩).set i ⟨z7.path,decide ((kk+1) % 3=0),z7.ids⟩):=Fw.set_same hz10;rw[hsame10]at hbk10
   have hze10:=Fw.set_at hz10
   have hzb10:z10.ids=z4.ids:=by simp only[hze10,hze7]
   have hzc10:cnt cI z10.ids=cnt cI z4.ids:=by rw[hzb10]
   refine fA 2 Z (o_load_A 0 H isAgg37 Z Z Z (hg10 2 _ Z) (mV Z ?_))
   have H:=H.tF 1
   have H:=H.outFi
   refine xc Z2 (w_markIntS_c _ _ H.sub _ _ _ ho10 _ H.lent1 oO) ?_
   rintro _ _ ⟨_,_,_,rfl,H11',⟨F11,rfl,rfl,hO11⟩⟩
   have hle1:=hle1.trans H11'.le
   have H:=H.borrow1 H11'
   refine⟨_,Z,?_⟩
   have H:=H.tF 2
   have H:=H.tF 2
   have H:=H.tF 2
   have H:=H.inFi
   have hcb1:=hpu010 F11 ⟨z10.path,z10.dir,mks mI cI (kk+1+1) z10.ids⟩ (show itemO _ _ _ from⟨_,_,_,rfl,hi10,hO11⟩)
   refine aG Z (R_nil (N_B (N_K (W_region (mV Z (aD Z2 (aG Z (R_nil ?_))))))))
   have H:=H.tF 1
   refine N_lp (hJ:=⟨_,_,_,(((xs.set i ⟨mtext kk,z4.dir,z4.ids⟩).set i ⟨z7.path,decide ((kk+1) % 3=0),z7.ids⟩).set i ⟨z10.path,z10.dir,mks mI cI (kk+1+1) z10.ids⟩),(P10++(F11++Q10)),i+1,kk+1+1+(cnt cI z10.ids:Int),_,Z,hle1,H,?inv,Z⟩) (hm:=?hm)
   case hm=>omega
   case inv=>exact⟨hcb1,aN,(by exact⟨by omega,by (rw[cnt_succ hat];omega),(by (subst hze10;subst hze7;simp only[List.set_set];exact half_step hxs hz4 hi (by (rw[←hkk];rfl)))),hv⟩)⟩
  intro hc2'
  try simp only[nrm]at hc2'
  refine W_exit (N_K_exit (N_LP_exit (N_B_same (N_K (q2 (pe 2 Z (q3 (W_ret (rt1 results77 Z ?_)))))))))
  have hie:i=a.length:=by omega
  have hxx:xs=mks mItem cItem k a:=by (rw[hxs];exact half_end hie)
  have hce:=cnt_end (c:=cItem) hie
  have H:=H.tF 1
  have H:=H.tF 1
  obtain⟨_,H,hOw2⟩:=H.ownF hchk1_0 aN aN
  exact H.retM ⟨_,congrArg (Value.int .i64) (by (rw[hkk,hce])),rfl,hxx▸hv▸⟨_,hOw2⟩⟩
theorem w_markSnapS_c (w0:World)(G0:PH)(hG:PSub G0 w0)(Fa:Fr)(va:Value)(a:List (BSnap))(hOa:OSn Fa va a)(k:Int)(hLent:Lent w0 G0 [frag Fa])(hb:0≤k∧k+(cnt cSnap a:Int)≤2199023255552) :
  Calls Tryz.prog 78 #[va,.int .i64 k] w0 (RetM w0 G0 (fps [frag Fa]) (fun G' v Bs=>∃(F':Fr),v= .int .i64 (k+(cnt cSnap a:Int))∧Bs=[frag F']∧OSn F' va (mks mSnap cSnap k a))):=by
 obtain⟨ea,hPa⟩:=hOa;have hlima:a.length≤1099511627776:=hPa.1;obtain⟨aa,ka,rfl⟩:=OwnS.shape hPa
 have H:Hp w0 G0 (fps [frag Fa]) w0 G0 [frag Fa]:=hLent.hp
 obtain⟨_,Ra,H,hcka⟩:=H.openF hPa
 refine calls_of_W (l:=[.slice aa a.length ka,.int .i64 k]) func78 Z ntmps78 Z (q2 (aG Z (q3 (W_seq (q2 (aG Z (q3 (W_block ?_))))))))
 refine W_lp (hf:=(Sub.cons (t:=4) Z Sub.nil)) (J:=fun M w m=>∃(v:Value) (n:Nat) (cs:List Value) (xs:List (BSnap)) (F:Fr) (i:Nat) (kk:Int) (G:PH),M=[(5,.int .i64 (i:Int)),(1,.int .i64 kk),(0,v)]∧PLe G0 G∧Hp w0 G0 (fps [frag Fa]) w G [acc ea 2 v n cs,frag F]∧(ChkF snapO 2 cs xs F∧n=xs.length∧i≤a.length∧kk=k+(cnt cSnap (a.take i):Int)∧xs=mks mSnap cSnap k (a.take i)++a.drop i∧v= .slice aa a.length ka)∧m=(a.length-i)) (h0:=⟨_,_,_,a,Ra,0,k,_,Z,PLe.refl _,H,?inv,Z⟩) (round:=?round)
 case inv=>exact⟨hcka,by first|rfl|simp|(simp;omega)|omega,(by simp[cnt,mks])⟩
 case round =>
  rintro _ _ _ ⟨v,n,cs,xs,F,i,kk,_,rfl,hle1,H,hinv1,rfl⟩
  obtain⟨hchk1_0,_,hinv1⟩:=hinv1
  obtain⟨_,_,rfl⟩:=H.accShape (k:=0) rfl
  obtain⟨hi,hkk,hxs,hv⟩:=hinv1;have hxl:xs.length=a.length:=(by (rw[hxs];exact half_len hi));have hctk:=cnt_tk (c:=cSnap) a i;have hmt:(mtext kk).length≤16777216:=(by have h9:=mtext_len (k:=kk) oM;omega)
  refine W_seq (q2 (pe 2 Z (lN Z (pe 1 Z (q3 ?_)))))
  refine W_cond Z ?_ ?_
  ·intro hc2
   try simp only[nrm]at hc2
   refine W_skip (N_K (W_seq (W_block (q2 (pe 3 Z (xr H Z2 (w_markText_c _ _ oM) ?_))))));intro _ H
   obtain⟨z4,hz4⟩:∃z,xs[i]? = some z:=⟨_,List.getElem?_eq_getElem aN⟩
   obtain⟨_,_,_,_,hF4,_,hE4,_,hput4,hpu04⟩:=(hchk1_0).focus hz4
   rw[hF4]at H
   refine o_index_F 0 H i Z underlying25 sizeOf67 Z Z Z Z aN ?_;intro _ hba4;cases hba4
   obtain⟨_,_,_,rfl,hi4,ho4⟩:=hE4;have hy_hi4:_≤16777216:=hi4
   have hbk4:ChkF snapO 2 _ (xs.set i z4) _:=hpu04 _ z4 (show snapO _ _ _ from⟨_,_,_,rfl,hi4,ho4⟩)
   have hsame4:xs.set i z4=xs:=Fw.set_same hz4;rw[hsame4]at hbk4
   have hat:=half_at hxs hz4 hi;have hcl:=cnt_le (c:=cSnap) hat
   have hch:cSnap z4=1+cnt cItem z4.tree:=rfl
   refine fA 0 Z ?_
   have hcl5:=(hbk4).length
   have hlt5:i<xs.length:=(List.getElem?_eq_some_iff.1 hz4).1
   try simp only[length_setCs,List.length_set]at hcl5
   try simp only[List.length_set]at hlt5
   refine o_store_A 0 H sizeOf9 Z Z Z Z Z (by simp only[vc,List.length_cons,List.length_nil,length_setCs];omega) ?_;intro _ H
   have hchk5:=hput4 _ ⟨mtext kk,z4.tree⟩ 0 [_] (by simp) (show snapO _ _ _ from⟨_,_,_,rfl,(by (first|assumption|(refine Sp.l5Parent_lim ?_;assumption)|(simp;done)|(simp;omega)|omega)),ho4⟩)
   refine q1 (mV Z (aD Z2 (aG Z (q3 (W_region (pe 2 Z ?_))))))
   obtain⟨z7,hz7⟩:∃z,(xs.set i ⟨mtext kk,z4.tree⟩)[i]? = some z:=⟨_,List.getElem?_eq_getElem aN⟩
   obtain⟨_,P7,_,Q7,hF7,_,hE7,hg7,_,hpu07⟩:=(hchk5).focus hz7
   rw[hF7]at H
   refine o_index_F 0 H i Z underlying25 sizeOf67 Z Z Z Z aN ?_;intro _ hba7;cases hba7
   obtain⟨_,_,_,rfl,hi7,ho7⟩:=hE7;have hy_hi7:_≤16777216:=hi7
   have hbk7:ChkF snapO 2 _ ((xs.set i ⟨mtext kk,z4.tree⟩).set i z7) _:=hpu07 _ z7 (show snapO _ _ _ from⟨_,_,_,rfl,hi7,ho7⟩)
   have hsame7:(xs.set i ⟨mtext kk,z4.tree⟩).set i z7=(xs.set i ⟨mtext kk,z4.tree⟩):=Fw.set_same hz7;rw[hsame7]at hbk7
   have hze7:=Fw.set_at hz7
   have hzb7:z7.tree=z4.tree:=by simp only[hze7]
   have hzc7:cnt cItem z7.tree=cnt cItem z4.tree:=by rw[hzb7]
   refine fA 1 Z (o_load_A 0 H isAgg24 Z Z Z (hg7 1 _ Z) (mV Z ?_))
   have H:=H.tF 1
   have H:=H.outFi
   refine xc Z2 (w_markItemS_c _ _ H.sub _ _ _ ho7 _ H.lent1 oO) ?_
   rintro _ _ ⟨_,_,_,rfl,H8',⟨F8,rfl,rfl,hO8⟩⟩
   have hle1:=hle1.trans H8'.le
   have H:=H.borrow1 H8'
   refine⟨_,Z,?_⟩
   have H:=H.tF 2
   have H:=H.tF 2
   have H:=H.tF 2
   have H:=H.inFi
   have hcb1:=hpu07 F8 ⟨z7.name,mks mItem cItem (kk+1) z7.tree⟩ (show snapO _ _ _ from⟨_,_,_,rfl,hi7,hO8⟩)
   refine aG Z (R_nil (N_B (N_K (W_region (mV Z (aD Z2 (aG Z (R_nil ?_))))))))
   have H:=H.tF 1
   refine N_lp (hJ:=⟨_,_,_,((xs.set i ⟨mtext kk,z4.tree⟩).set i ⟨z7.name,mks mItem cItem (kk+1) z7.tree⟩),(P7++(F8++Q7)),i+1,kk+1+(cnt cItem z7.tree:Int),_,Z,hle1,H,?inv,Z⟩) (hm:=?hm)
   case hm=>omega
   case inv=>exact⟨hcb1,aN,(by exact⟨by omega,by (rw[cnt_succ hat];omega),(by (subst hze7;simp only[List.set_set];exact half_step hxs hz4 hi (by (rw[←hkk];rfl)))),hv⟩)⟩
  intro hc2'
  try simp only[nrm]at hc2'
  refine W_exit (N_K_exit (N_LP_exit (N_B_same (N_K (q2 (pe 2 Z (q3 (W_ret (rt1 results78 Z ?_)))))))))
  have hie:i=a.length:=by omega
  have hxx:xs=mks mSnap cSnap k a:=by (rw[hxs];exact half_end hie)
  have hce:=cnt_end (c:=cSnap) hie
  have H:=H.tF 1
  have H:=H.tF 1
  obtain⟨_,H,hOw2⟩:=H.ownF hchk1_0 aN aN
  exact H.retM ⟨_,congrArg (Value.int .i64) (by (rw[hkk,hce])),rfl,hxx▸hv▸⟨_,hOw2⟩⟩
end Go.Proofs.Tst
