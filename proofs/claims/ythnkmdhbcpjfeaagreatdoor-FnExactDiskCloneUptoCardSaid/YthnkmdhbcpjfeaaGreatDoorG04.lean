/- Part 4 of the proof: the program logic and plain functions. Conditions: none. -/
import Derived.Test.YthnkmdhbcpjfeaaGreatDoorG03
import Derived.WideKeyArgs
import Derived.ChangeArms
import Derived.DataElems
import Derived.ChangeSame
import Derived.Test.YthnkmdhbcpjfeaaGreatDoorG02
import Derived.Test.YthnkmdhbcpjfeaaGreatDoorProg
import Derived.Shelf.SlGeneric
import Derived.Shelf.Strings.Search1
import Derived.Shelf.Strings.Search2
import Derived.Shelf.Strings.Count
import Derived.Shelf.SlIterI.Nil
import Derived.Shelf.SortM.Plain
import Derived.Shelf.SortM.SortNone
import Derived.Ground.GgzProg
import Derived.Shelf.SlSortCmp.WholeK
import Derived.Ground.SlsfProg
import Derived.Ground.SlgmProg
set_option linter.all false
set_option maxRecDepth 100000
set_option maxHeartbeats 8000000
namespace Sp
open Fw Nd
theorem anc {l:List BItem}(vl:VT l)(q:Bs)(k:Nat)(hk:1≤k):∀(n:Nat) {z:BItem},(cut z.path).length≤n→z ∈ l→k≤(cut z.path).length→cut q=(cut z.path).take k→∃y,y ∈ l∧y.path=q
 | 0,z,hn,_,h1,_=>by omega
 | n + 1, z, hn, hz, h1, h2 => by
  by_cases he:k=(cut z.path).length
  ·exact⟨z,hz,cut_inj (by rw[h2,he,List.take_length])⟩
  ·rcases vl.home z hz with h|⟨y,hy,hyc,_⟩
   ·omega
   ·have hl:(cut y.path).length=(cut z.path).length-1:=by rw[hyc,List.length_dropLast]
    refine anc vl q k hk n (z:=y) (by omega) hy (by omega) ?_
    rw[h2,hyc,List.dropLast_eq_take,List.take_take]
    congr 1
    omega
theorem within_form {p f:Bs}(hf:f≠[])(h:l1Within p f=true):p=f∨∃u,p=f++47::u:=by
 unfold l1Within at h
 simp only[Bool.or_eq_true,decide_eq_true_eq,List.isPrefixOf_iff_prefix]at h
 rcases h with (h|h)|h
 ·exact absurd h hf
 ·exact .inl h
 ·obtain⟨u,hu⟩:=h
  exact .inr ⟨u,by rw[←hu];simp⟩
theorem pv_ne {p:Bs}(h:PathValid p=true):p≠[]:=fun e=>by rw[e]at h;revert h;decide
theorem move_form {p f t o:Bs}(h:PathMove p f t=some o):(p=f∧o=t)∨∃u,p=f++47::u∧o=t++47::u:=by
 unfold PathMove at h
 split at h
 ·rename_i hc
  simp only[Bool.and_eq_true]at hc
  split at h
  ·simp only[Option.some.injEq]at h
   subst h
   rcases within_form (pv_ne hc.1.1.2) hc.2 with h|⟨u,h⟩
   ·subst h
    exact .inl ⟨rfl,by simp⟩
   ·refine .inr ⟨u,h,?_⟩
    rw[h,List.drop_left]
  ·cases h
 ·cases h
theorem move_inj {p q f t o:Bs}(h1:PathMove p f t=some o)(h2:PathMove q f t=some o):p=q:=by
 rcases move_form h1 with ⟨a,b⟩|⟨u,a,b⟩<;>rcases move_form h2 with ⟨a',b'⟩|⟨u',a',b'⟩
 ·rw[a,a']
 ·rw[b]at b'
  have:=congrArg List.length b'
  simp at this
 ·rw[b']at b
  have:=congrArg List.length b
  simp at this
 ·rw[b]at b'
  have:=List.append_cancel_left b'
  simp only[List.cons.injEq,true_and]at this
  rw[a,a',this]
section
variable {l c s r:List BItem} {f t:Bs}
theorem ok_get (h:l23Ok l f t=true):VT l∧PathValid f=true∧PathValid t=true∧(atI l f).isSome=true∧l1Within t f=false∧atI l t=none:=by
 simp only[l23Ok,Bool.and_eq_true,Bool.not_eq_true',Option.isNone_iff_eq_none]at h
 obtain⟨⟨⟨⟨⟨h1,h2⟩,h3⟩,h4⟩,h5⟩,h6⟩:=h
 exact⟨tvalid_iff.1 h1,h2,h3,h4,h5,h6⟩
theorem copies_get (hc : l23Copies l f t = some c) : c = (l.filter (fun x => l1Within x.path f)).map (mvI f t) ∧ ∀ y, y ∈ c → ∃ x, x ∈ l ∧ l1Within x.path f = true ∧ y = mvI f t x ∧ PathMove x.path f t = some y.path := by
 unfold l23Copies at hc
 split at hc
 ·rename_i ha
  simp only[Option.some.injEq]at hc
  refine⟨hc.symm,fun y hy=>?_⟩
  rw[←hc]at hy
  obtain⟨x,hx,rfl⟩:=List.mem_map.1 hy
  rw[List.all_eq_true]at ha
  obtain⟨o,ho⟩:=Option.isSome_iff_exists.1 (ha x hx)
  obtain⟨h1,h2⟩:=List.mem_filter.1 hx
  exact⟨x,h1,h2,rfl,by simp[mvI,ho]⟩
 ·cases hc
theorem copy_new (hok : l23Ok l f t = true) (hc : l23Copies l f t = some c) {y : BItem} (hy : y ∈ c) : ∀ z, z ∈ l → z.path ≠ y.path := fun z hz e => by
 obtain⟨vl,_,hpt,_,_,hno⟩:=ok_get hok
 obtain⟨x,_,_,_,hm⟩:=(copies_get hc).2 y hy
 have hnt:=(uniq_at vl.asc (p:=t)).2.2 hno
 rcases move_form hm with ⟨_,h⟩|⟨u,_,h⟩
 ·exact hnt z hz (e.trans h)
 ·have hcz:cut z.path=cut t++cut u:=by rw[e,h,cut_app]
  have h1:1≤(cut t).length:=List.length_pos_iff.2 (cut_ne t)
  obtain⟨w,hw,hwp⟩:=anc vl t (cut t).length h1 _ (Nat.le_refl _) hz (by rw[hcz,List.length_append];omega) (by rw[hcz,List.take_left])
  exact hnt w hw hwp
theorem copy_nodup (hok:l23Ok l f t=true)(hc:l23Copies l f t=some c):((c++l).map (·.path)).Nodup:=by
 obtain⟨vl,_⟩:=ok_get hok
 have hl:(l.map (·.path)).Nodup:=List.pairwise_map.2 (vl.asc.imp (fun h=>lt_ne h))
 rw[List.map_append,List.nodup_append]
 refine⟨?_,hl,fun a ha b hb e=>?_⟩
 ·rw[(copies_get hc).1,List.map_map]
  have h1:=vl.asc.filter (fun x=>l1Within x.path f)
  refine List.pairwise_map.2 (h1.imp_of_mem (fun {a b} ha hb hab e=>?_))
  have hm : ∀ x, x ∈ l.filter (fun x => l1Within x.path f) → PathMove x.path f t = some (mvI f t x).path := fun x hx => by
   obtain⟨x',_,_,h4,h5⟩:=(copies_get hc).2 (mvI f t x) (by rw[(copies_get hc).1];exact List.mem_map.2 ⟨x,hx,rfl⟩)
   unfold l23Copies at hc
   split at hc
   ·rename_i ha
    rw[List.all_eq_true]at ha
    obtain⟨o,ho⟩:=Option.isSome_iff_exists.1 (ha x hx)
    simp[mvI,ho]
   ·cases hc
  have e2:(mvI f t a).path=(mvI f t b).path:=e
  exact lt_ne hab (move_inj (hm a ha) (by rw[e2];exact hm b hb))
 ·obtain⟨y,hy,rfl⟩:=List.mem_map.1 ha
  obtain⟨z,hz,rfl⟩:=List.mem_map.1 hb
  exact copy_new hok hc hy z hz e.symm
theorem puts23_can:∀(c:List BItem) {l:List BItem},l.Pairwise ltp→((c++l).map (·.path)).Nodup→∃r,foldB put23 c (some l)=some r
 | [],l,_,_=>⟨l,rfl⟩
 | x :: c, l, hl, hn => by
  have hn2:(x.path::(c++l).map (·.path)).Nodup:=hn
  obtain⟨h1,h2⟩:=List.nodup_cons.1 hn2
  have hno:atI l x.path=none:=by
   cases e:atI l x.path with
   | none=>rfl
   | some i =>
    obtain⟨y,g1,g2⟩:=(uniq_at hl (p:=x.path)).1 i e
    exact absurd (List.mem_map.2 ⟨y,List.mem_append.2 (.inr (List.mem_of_getElem? g1)),g2⟩) h1
  have hp:put23 l x=some (l5Put l x):=by simp[put23,hno]
  obtain⟨g1,g2,_⟩:=put23_perm hl hp
  rw[foldB_cons hp]
  refine puts23_can c g1 ?_
  have hperm:(c++l5Put l x).Perm (x::(c++l)):=(List.Perm.append_left c g2).trans List.perm_middle
  exact(hperm.map (·.path)).nodup_iff.2 hn
theorem clone_sorted (hok : l23Ok l f t = true) (hc : l23Copies l f t = some c) (hp : s.Perm (c ++ l)) (hs : s.Pairwise (fun a b => lt b.path a.path = false)) : TreeClone l f t = if TreeValid s then some s else none := by
 obtain⟨vl,_⟩:=ok_get hok
 have hn:=copy_nodup hok hc
 obtain⟨r,hr⟩:=puts23_can c vl.asc hn
 obtain⟨ra,rp⟩:=puts23 c vl.asc hr
 have hsn:(s.map (·.path)).Nodup:=(hp.map (·.path)).nodup_iff.2 hn
 have hsa:s.Pairwise ltp:=by
  have h2:=hs.and (List.pairwise_map.1 hsn)
  refine h2.imp (fun {a b} h=>?_)
  rcases lt_total a.path b.path with g|g|g
  ·exact g
  ·exact absurd g h.2
  ·rw[h.1]at g;cases g
 have e:s=r:=asc_ext hsa ra (fun y=>(hp.trans rp.symm).mem_iff)
 unfold TreeClone l23Put
 rw[if_pos hok,hc,Option.bind_some,hr,Option.bind_some,e]
theorem clone_nok (h:l23Ok l f t=false):TreeClone l f t=none:=by simp[TreeClone,h]
theorem clone_noc (h:l23Copies l f t=none):TreeClone l f t=none:=by
 unfold TreeClone
 split
 ·rw[h];rfl
 ·rfl
end
theorem within_eqs {p dir:Bs}(h:dir=[]∨p=dir):l1Within p dir=true:=by
 rcases h with h|h<;>simp[l1Within,h]
theorem within_far {p dir:Bs}(h1:dir≠[])(h2:p≠dir):l1Within p dir=(decide (dir.length<p.length)&&decide (p.take dir.length=dir)&&decide (p[dir.length]? = some 47)):=by
 unfold l1Within
 rw[pre_eq,List.length_append,List.length_singleton,decide_eq_false h1,decide_eq_false h2,Bool.false_or,Bool.false_or,Bool.eq_iff_iff]
 simp only[Bool.and_eq_true,decide_eq_true_eq]
 constructor
 ·rintro⟨h3,h4⟩
  have h5:p=(dir++[47])++p.drop (dir.length+1):=by
   conv=>lhs;rw[←List.take_append_drop (dir.length+1) p,h4]
  refine⟨⟨by omega,?_⟩,?_⟩
  ·rw[h5];simp
  ·rw[h5];simp
 ·rintro⟨⟨h3,h4⟩,h5⟩
  refine⟨by omega,?_⟩
  rw[take_succ' h5,h4]
theorem within_hit {p dir:Bs}{c:UInt8}(h1:dir≠[])(h2:p≠dir)(h3:dir.length<p.length)(h4:p.take dir.length=dir)(h5:p[dir.length]? = some c):l1Within p dir=decide ((c.toNat:Int)=47):=by
 rw[within_far h1 h2,decide_eq_true h3,decide_eq_true h4,h5,Bool.true_and,Bool.true_and,Bool.eq_iff_iff]
 simp only[decide_eq_true_eq,Option.some.injEq]
 constructor
 ·rintro rfl;rfl
 ·intro h;exact UInt8.toNat.inj (by show c.toNat=47;omega)
section
variable {d:BDisk} {p:Bs} {n m:Int} {q:BQuota}
variable {l:List BQuota}
end
theorem within_len {p f:Bs}(h:l1Within p f=true):f.length≤p.length:=by
 simp only[l1Within,Bool.or_eq_true,decide_eq_true_eq]at h
 rcases h with (rfl|rfl)|h
 ·simp
 ·exact Nat.le_refl _
 ·have:=(List.isPrefixOf_iff_prefix.1 h).length_le
  simp at this
  omega
theorem pwithin {p f:Bs}(hf:PathValid f=true):PathWithin p f=(PathValid p&&l1Within p f):=by simp[PathWithin,hf]
theorem pwithin2 {p f:Bs}(hp:PathValid p=true)(hf:PathValid f=true):PathWithin p f=l1Within p f:=by simp[PathWithin,hf,hp]
theorem move_yes {p f t:Bs}(h1:PathValid p=true)(h2:PathValid f=true)(h3:PathValid t=true)(h4:l1Within p f=true)(h5:PathValid (t++p.drop f.length)=true):PathMove p f t=some (t++p.drop f.length):=by simp[PathMove,h1,h2,h3,h4,h5]
theorem move_no {p f t:Bs}(h:PathValid p=false∨PathValid f=false∨PathValid t=false∨l1Within p f=false∨PathValid (t++p.drop f.length)=false):PathMove p f t=none:=by
 rcases h with h|h|h|h|h<;>simp[PathMove,h]
theorem move_len (p f t:Bs):((PathMove p f t).getD []).length≤16777216:=by
 unfold PathMove
 split
 ·split
  ·next h=>have:=path_len h;simp only[Option.getD_some];omega
  ·simp
 ·simp
def copF (f t:Bs)(l:List BItem):List BItem:=(l.filter (fun x=>l1Within x.path f)).map (mvI f t)
theorem copF_in {f t:Bs}{l:List BItem}{k:Nat}{z:BItem}(hz:l[k]? = some z)(h:l1Within z.path f=true):copF f t (l.take (k+1))=copF f t (l.take k)++[mvI f t z]:=by
 rw[take_succ' hz];simp[copF,List.filter_append,h]
theorem copF_out {f t:Bs}{l:List BItem}{k:Nat}{z:BItem}(hz:l[k]? = some z)(h:l1Within z.path f=false):copF f t (l.take (k+1))=copF f t (l.take k):=by
 rw[take_succ' hz];simp[copF,List.filter_append,h]
theorem copF_len (f t:Bs)(l:List BItem):(copF f t l).length≤l.length:=by
 simp only[copF,List.length_map]
 exact List.length_filter_le _ _
def copA (f t:Bs)(l:List BItem):Prop:=∀x,x ∈ l→l1Within x.path f=true→(PathMove x.path f t).isSome=true
theorem copA_in {f t:Bs}{l:List BItem}{k:Nat}{z:BItem}(hz:l[k]? = some z)(ha:copA f t (l.take k))(h:l1Within z.path f=true→(PathMove z.path f t).isSome=true):copA f t (l.take (k+1)):=by
 intro x hx hw
 rw[take_succ' hz]at hx
 rcases List.mem_append.1 hx with hx|hx
 ·exact ha x hx hw
 ·simp only[List.mem_cons,List.not_mem_nil,or_false]at hx
  subst hx
  exact h hw
theorem cop_yes {f t:Bs}{l:List BItem}{k:Nat}(ha:copA f t (l.take k))(hk:k=l.length):l23Copies l f t=some (copF f t l):=by
 subst hk
 rw[List.take_length]at ha
 unfold l23Copies
 rw[if_pos]
 ·rfl
 ·simp only[List.all_eq_true,List.mem_filter,and_imp]
  exact ha
theorem cop_no {f t:Bs}{l:List BItem}{k:Nat}{z:BItem}(hz:l[k]? = some z)(h:l1Within z.path f=true)(hn:(PathMove z.path f t).isSome=false):l23Copies l f t=none:=by
 unfold l23Copies
 rw[if_neg]
 intro ha
 simp only[List.all_eq_true,List.mem_filter,and_imp]at ha
 have:=ha z (List.mem_of_getElem? hz) h
 rw[hn]at this
 cases this
theorem copies_len {f t:Bs}{l c:List BItem}(h:l23Copies l f t=some c):c.length≤l.length:=by
 unfold l23Copies at h
 split at h
 ·obtain rfl:=Option.some.inj h
  exact copF_len f t l
 ·cases h
theorem put23_yes {l:List BItem}{x:BItem}(h:l5At l x.path<0):put23 l x=some (l5Put l x):=by
 have e:atI l x.path=none:=l5_none (by omega)
 simp[put23,e]
theorem put23_no {l:List BItem}{x:BItem}(h:0≤l5At l x.path):put23 l x=none:=by
 unfold put23
 cases e:atI l x.path with
 | none=>have h:0≤optI (atI l x.path):=h;rw[e]at h;simp[optI]at h
 | some i=>rfl
theorem l5_ge {l:List BItem}{p:Bs}:decide (0≤l5At l p)=(atI l p).isSome:=by
 show decide (0≤optI (atI l p))=_
 cases atI l p with
 | none=>rfl
 | some i=>simp[optI]
theorem l5_lt {l:List BItem}{p:Bs}:decide (l5At l p<0)=(atI l p).isNone:=by
 show decide (optI (atI l p)<0)=_
 cases atI l p with
 | none=>rfl
 | some i=>exact decide_eq_false (by show¬((i:Int)<0);omega)
theorem ok_valid {l:List BItem}{f t:Bs}(h:l23Ok l f t=true):TreeValid l=true:=by
 simp only[l23Ok,Bool.and_eq_true]at h
 exact h.1.1.1.1.1
theorem put23_len:∀(c:List BItem) {l r:List BItem},foldB put23 c (some l)=some r→r.length≤l.length+c.length
 | [], l, r, h => by
  simp only[foldB,List.foldl_nil,Option.some.injEq]at h
  subst h
  simp
 | x :: c, l, r, h => by
  cases e:put23 l x with
  | none =>
   unfold foldB at h
   simp only[List.foldl_cons,Option.bind_some,e]at h
   have:=foldB_none (f:=put23) c
   unfold foldB at this
   rw[this]at h
   cases h
  | some q =>
   rw[foldB_cons e]at h
   have h1:=put23_len c h
   have h2:q.length≤l.length+1:=by
    unfold put23 at e
    split at e
    ·cases e
    ·obtain rfl:=Option.some.inj e
     exact l5Put_len l x
   simp only[List.length_cons]
   omega
theorem l23Put_len (l c:List BItem):((l23Put l c).getD []).length≤l.length+c.length:=by
 unfold l23Put
 cases e:foldB put23 c (some l) with
 | none=>simp
 | some r =>
  have:=put23_len c e
  simp only[Option.bind_some]
  split
  ·simpa using this
  ·simp
theorem copies_len2 (l:List BItem)(f t:Bs):((l23Copies l f t).getD []).length≤l.length:=by
 cases e:l23Copies l f t with
 | none=>simp
 | some c=>exact copies_len e
theorem ok_eq {l:List BItem}{f t:Bs}(hv:TreeValid l=true):l23Ok l f t=(PathValid f&&PathValid t&&hasP l f&& !l1Within t f&& !hasP l t):=by
 have e:(atI l t).isNone= !(atI l t).isSome:=by cases atI l t<;>rfl
 simp only[l23Ok,hasP,hv,Bool.true_and,e]
theorem item_pv {l:List BItem}{k:Nat}{z:BItem}(hv:TreeValid l=true)(hz:l[k]? = some z):PathValid z.path=true:=item_path ((tvalid_iff.1 hv).ok z (List.mem_of_getElem? hz))
def turned (l:List BItem)(f t:Bs):Option (List BItem):=if l23Ok l f t then l23Copies l f t else none
theorem turned_no {l:List BItem}{f t:Bs}(h:l23Ok l f t=false):turned l f t=none:=by simp[turned,h]
theorem turned_is {l:List BItem}{f t:Bs}(h:l23Ok l f t=true):turned l f t=l23Copies l f t:=by simp[turned,h]
theorem turned_get {l c:List BItem}{f t:Bs}(h:turned l f t=some c):l23Ok l f t=true∧l23Copies l f t=some c:=by
 unfold turned at h
 split at h
 ·next h1=>exact⟨h1,h⟩
 ·cases h
theorem turned_len (l:List BItem)(f t:Bs):((turned l f t).getD []).length≤l.length:=by
 unfold turned
 split
 ·exact copies_len2 l f t
 ·simp
theorem clone_tno {l:List BItem}{f t:Bs}(h:turned l f t=none):TreeClone l f t=none:=by
 unfold turned at h
 split at h
 ·exact clone_noc h
 ·next h1=>exact clone_nok (by simpa using h1)
theorem clone_inv {l:List BItem}{f t:Bs}(h:TreeValid l=false):TreeClone l f t=none:=clone_nok (by simp[l23Ok,h])
theorem clone_srt {l s : List BItem} {f t : Bs} (h : (turned l f t).isSome = true) (hp : s.Perm ((turned l f t).getD [] ++ l)) (hs : s.Pairwise (fun a b => lt b.path a.path = false)) : TreeClone l f t = if TreeValid s then some s else none := by
 obtain⟨c,hc⟩:=Option.isSome_iff_exists.1 h
 obtain⟨h1,h2⟩:=turned_get hc
 rw[hc]at hp
 exact clone_sorted h1 h2 hp hs
theorem ite_some {α:Type}(b:Bool)(s:α):(if b=true then some s else none).isSome=b:=by cases b<;>rfl
theorem ite_get {α:Type}(b:Bool)(s:List α):(if b=true then some s else none).getD []=if b=true then s else[]:=by cases b<;>rfl
theorem us_le {L:List BHeld}(hV:VH L)(a:Int):us L a≤999:=by
 by_cases h:0<us L a
 ·exact(get_ok hV ((us_pos hV).1 h)).2.2.2
 ·omega
theorem keep_same {L K:List BHeld}{t t':List BItem}(hV:VH L)(hi:∀x,x ∈ t→l4Ids L x.ids=true)(hp:t.Perm t')(h:l12Keep L t=some K):l12Keep L t'=some K:=by
 obtain⟨k1,k2⟩:=keepTs t hV h
 obtain ⟨K', hk⟩ := keepTs_ex t' hV (fun x hx => hi x (hp.mem_iff.2 hx)) (fun a => by
  have h1:=(k2 a).1
  have h2:=us_le k1 a
  have h3:=cntL_perm hp a
  omega)
 obtain⟨g1,g2⟩:=keepTs t' hV hk
 rw[hk,vh_ext k1 g1 (fun a=>by rw[(g2 a).1,(k2 a).1,cntL_perm hp a]) (fun a _=>by rw[(g2 a).2,(k2 a).2])]
theorem keep_perm {L:List BHeld}{t t':List BItem}(hV:VH L)(hi:∀x,x ∈ t→l4Ids L x.ids=true)(hp:t.Perm t'):l12Keep L t=l12Keep L t':=by
 cases e:l12Keep L t with
 | some K=>exact(keep_same hV hi hp e).symm
 | none =>
  cases e':l12Keep L t' with
  | none=>rfl
  | some K =>
   have:=keep_same hV (fun x hx=>hi x (hp.mem_iff.2 hx)) hp.symm e'
   rw[e]at this
   cases this
theorem not_within {l:List BItem}{f t:Bs}(hok:l23Ok l f t=true){z:BItem}(hz:z ∈ l):l1Within z.path t=false:=by
 obtain⟨vl,_,hpt,_,_,hno⟩:=ok_get hok
 have hnt:=(uniq_at vl.asc (p:=t)).2.2 hno
 cases h:l1Within z.path t with
 | false=>rfl
 | true =>
  rcases within_form (pv_ne hpt) h with h|⟨u,h⟩
  ·exact absurd h (hnt z hz)
  ·have hcz:cut z.path=cut t++cut u:=by rw[h,cut_app]
   have h1:1≤(cut t).length:=List.length_pos_iff.2 (cut_ne t)
   obtain⟨w,hw,hwp⟩:=anc vl t (cut t).length h1 _ (Nat.le_refl _) hz (by rw[hcz,List.length_append];omega) (by rw[hcz,List.take_left])
   exact absurd hwp (hnt w hw)
theorem copy_within {l c:List BItem}{f t:Bs}(hc:l23Copies l f t=some c){y:BItem}(hy:y ∈ c):l1Within y.path t=true:=by
 obtain⟨x,_,_,_,hm⟩:=(copies_get hc).2 y hy
 rcases move_form hm with ⟨_,h⟩|⟨u,_,h⟩
 ·simp[l1Within,h]
 ·have : (t ++ [47]).isPrefixOf y.path = true := by
   rw[h,List.isPrefixOf_iff_prefix]
   exact⟨u,by simp⟩
  simp[l1Within,this]
theorem clone_at {l r c : List BItem} {f t : Bs} (h : TreeClone l f t = some r) (hc : l23Copies l f t = some c) : (r.filter (fun x => l1Within x.path t)).Perm c := by
 obtain⟨hok,c',hc',_,hp,_,_⟩:=clone_tree h
 rw[hc]at hc'
 cases hc'
 refine(hp.filter _).trans ?_
 rw[List.filter_append,List.filter_eq_self.2 (fun y hy=>copy_within hc hy),List.filter_eq_nil_iff.2 (fun z hz=>by rw[not_within hok hz];simp),List.append_nil]
theorem clone_keep {d : BDisk} {r : List BItem} {f t : Bs} (hd : DiskValid d = true) (h : TreeClone d.tree f t = some r) : l12Keep d.store (r.filter (fun x => l1Within x.path t)) = l12Keep d.store ((l23Copies d.tree f t).getD []) := by
 obtain⟨_,c,hc,_,hp,hce,_⟩:=clone_tree h
 have hH:=(dd_iff.1 hd).2
 have hdt:d.tree ∈ trees d:=by simp[trees]
 have hq:=clone_at h hc
 rw[hc]
 refine keep_perm hH.vh (fun x hx=>?_) hq
 obtain⟨z,hz,_,rfl⟩:=copy_in hce (hq.mem_iff.1 hx)
 exact hH.ids d.tree hdt z hz
theorem clone_some {d : BDisk} {r : List BItem} {f t : Bs} (hd : DiskValid d = true) (h : TreeClone d.tree f t = some r) : DiskClone d f t = (l12Keep d.store (r.filter (fun x => l1Within x.path t))).map (fun s => ⟨s, r, d.snaps⟩) := by
 rw[clone_keep hd h]
 simp[DiskClone,hd,h]
theorem clone_none {d:BDisk}{f t:Bs}(h:TreeClone d.tree f t=none):DiskClone d f t=none:=by
 simp[DiskClone,h]
def keepW (t:Bs)(s:List BHeld)(x:BItem):Option (List BHeld):=if l1Within x.path t then keepT s x else some s
theorem keepW_filter (t : Bs) : ∀ (l : List BItem) (s : List BHeld), foldB (keepW t) l (some s) = l12Keep s (l.filter (fun x => l1Within x.path t))
 | [],s=>rfl
 | x :: l, s => by
  cases h:l1Within x.path t with
  | false =>
   rw[foldB_cons (show keepW t s x=some s by simp[keepW,h]),keepW_filter t l s]
   simp[h]
  | true =>
   rw[List.filter_cons,if_pos h]
   unfold l12Keep
   cases e:keepT s x with
   | none =>
    have h1:=foldB_none (f:=keepW t) l
    have h2:=foldB_none (f:=keepT) (l.filter (fun x=>l1Within x.path t))
    unfold foldB at *
    simp only[List.foldl_cons,Option.bind_some,show keepW t s x=keepT s x by simp[keepW,h],e,h1,h2]
   | some q =>
    rw[foldB_cons (show keepW t s x=some q by simp[keepW,h,e]),foldB_cons e]
    exact keepW_filter t l q
theorem keepW_no {t:Bs}{s:List BHeld}{x:BItem}(h:l1Within x.path t=false):keepW t s x=some s:=by simp[keepW,h]
theorem keepW_yes {t:Bs}{s:List BHeld}{x:BItem}(h:l1Within x.path t=true):keepW t s x=keepT s x:=by simp[keepW,h]
theorem clone_tv {l r:List BItem}{f t:Bs}(h:TreeClone l f t=some r):TreeValid r=true∧PathValid t=true:=by
 obtain⟨hok,c,_,vr,_⟩:=clone_tree h
 exact⟨tvalid_iff.2 vr,(ok_get hok).2.2.1⟩
theorem clone_isv {d d1:BDisk}{f t:Bs}(h:DiskClone d f t=some d1):DiskValid d=true:=(clone_get h).1
end Sp
namespace Fw
open Go
section
variable {w0 w:World} {G0 G:PH} {S:List Nat} {B:List Res}
theorem Hp.keepBlk (H:Hp w0 G0 S w G B){k b:Nat}{l:List Value}{e:TypeId}(hk:nth B k=some (blk b (cl l e)))(hS:b ∉ S):∃G',Hp w0 G0 S w G' (delN B k)∧PLe G G'∧PRow G' b 0 l:=by
 obtain ⟨H', hp⟩ := H.keep hk (fun c hc => by
  have:c=b:=by simpa [blk] using hc
  rw[this];exact hS)
 exact⟨_,H',PPlus.le _ _ _,prow_blk hp⟩
theorem Hp.keepN {NT PT:TypeId}(H:Hp w0 G0 S w G B){k:Nat}{F:Fr}{t:Nd}(hk:nth B k=some (frag F))(hS:∀b,b ∈ dm F→b ∉ S)(h:NdO NT PT G t F):∃G',Hp w0 G0 S w G' (delN B k)∧PLe G G'∧RdN G' t:=by
 have hn:=dm_nodup H hk
 obtain⟨G',H',h1,h2⟩:=H.keepF hk hS
 exact⟨G',H',h1,NdO.rd h1 h h2 hn⟩
end
section
variable {H:Type} {enc:TypeId×Value→H} {P:Program} {W:World}
structure Bulk (bk:DataW H→Nat) (bka:List (DataW H)→Nat):Prop where
 slice:∀es sp,bk (.slice es sp)=bka es+bka sp+1
 agg:∀ps,bk (.agg ps)=bka ps+1
 str:∀b,bk (.lit (.string b))=b.length+1
 nil:bka []=0
 cons:∀d r,bka (d::r)=bk d+bka r
 pos:∀d,1≤bk d
variable {bk:DataW H→Nat} {bka:List (DataW H)→Nat}
theorem Bulk.len (hb:Bulk bk bka):∀l,l.length≤bka l
 | []=>by simp
 | d :: r => by
  have h1:=hb.len r
  have h2:=hb.pos d
  rw[hb.cons]
  simp;omega
theorem Bulk.mem (hb:Bulk bk bka){d:DataW H}:∀{l:List (DataW H)},d ∈ l→bk d≤bka l
 | [],h=>by simp at h
 | e :: r, h => by
  rw[hb.cons]
  rcases List.mem_cons.1 h with rfl|h
  ·omega
  ·have:=hb.mem h
   omega
theorem Bulk.memF (hb : Bulk bk bka) {l : List (DataW H × List MemPlace)} {i : Nat} (hi : i < l.length) : bk (l[i]).1 ≤ bka (l.map (fun x => x.1)) :=
 hb.mem (List.mem_map.2 ⟨l[i],List.getElem_mem hi,rfl⟩)
abbrev Reads (enc:TypeId×Value→H) (P:Program) (W:World) (n:Nat) (t:TypeId) (cs:List Value):Option (DataW H×List MemPlace):=DataW.trod enc P W 0 (fun _=>true) true n t cs
def Elem (enc:TypeId×Value→H)(P:Program)(W:World)(bk:DataW H→Nat)(t:TypeId)(sz:Nat){α:Type}(E:PH→α→List Value→Prop):Prop :=
 ∀n cs x,Reads enc P W n t cs=some x→bk x.1≤1048576→∃a,cs.length=sz∧E (PAll W) a cs
theorem elem_int {t:TypeId}(ht:P.underlying t=some (.int .i64)):Elem enc P W bk t 1 intE:=by
 intro n cs x h _
 obtain⟨i,rfl,_,hw⟩:=DataW.trod_int ht h
 refine⟨i,rfl,rfl,?_⟩
 simp[Lit.wf,IntKind.min,IntKind.max,IntKind.signed,IntKind.bits]at hw
 exact⟨by omega,by omega⟩
theorem elem_str (hb:Bulk bk bka){t:TypeId}(ht:P.underlying t=some .string):Elem enc P W bk t 1 strE:=by
 intro n cs x h hx
 obtain⟨s,rfl,rfl,_⟩:=DataW.trod_string ht h
 simp only[hb.str]at hx
 exact⟨s.data.toList,rfl,rfl,by omega⟩
theorem elem_bool {t : TypeId} (ht : P.underlying t = some .bool) : Elem enc P W bk t 1 (fun _ (x : Bool) cs => cs = [.bool x]) := by
 intro n cs x h _
 obtain⟨b,rfl,_⟩:=DataW.trod_bool ht h
 exact⟨b,rfl,rfl⟩
theorem list_of {α:Type}{Q:Nat→α→Prop}:∀n,(∀i,i<n→∃x,Q i x)→∃xs:List α,xs.length=n∧∀i x,xs[i]? = some x→Q i x
 | 0,_=>⟨[],rfl,by simp⟩
 | n + 1, h => by
  obtain⟨xs,h1,h2⟩:=list_of n (fun i hi=>h i (by omega))
  obtain⟨x,hx⟩:=h n (by omega)
  refine⟨xs++[x],by simp[h1],fun i y hy=>?_⟩
  by_cases hi:i<n
  ·rw[List.getElem?_append_left (by omega)]at hy
   exact h2 i y hy
  ·rw[List.getElem?_append_right (by omega)]at hy
   have:i=n:=by
    have:=(List.getElem?_eq_some_iff.1 hy).1
    simp at this
    omega
   subst this
   simp[h1]at hy
   subst hy
   exact hx
theorem mapM_at {α β:Type}{f:α→Option β}:∀{l:List α} {r:List β},l.mapM f=some r→∀(i:Nat) (x:α),l[i]? = some x→f x=r[i]?
 | [],r,h,i,x,hx=>by simp at hx
 | y :: t, r, h, i, x, hx => by
  simp only[List.mapM_cons,Option.bind_eq_bind,Option.bind_eq_some_iff,Option.pure_def,Option.some.injEq]at h
  obtain⟨z,h1,u,h2,rfl⟩:=h
  cases i with
  | zero=>simp at hx;subst hx;simpa using h1
  | succ i=>simp only[List.getElem?_cons_succ]at hx ⊢;exact mapM_at h2 i x hx
theorem pcell_of {b o:Nat}{v:Value}(h:W.cell? ⟨b,o,none⟩=some v):PCell (PAll W) b o v:=by
 unfold World.cell? at h
 unfold PCell PAll
 split at h
 ·rename_i C e fz hb
  exact⟨C,e,fz,hb,by simpa using h⟩
 ·cases h
theorem elem_slice {α:Type}{E:PH→α→List Value→Prop}(hb:Bulk bk bka){t e:TypeId}{sz:Nat}(ht:P.underlying t=some (.slice e))(hz:P.cellsOf e=sz)(hsz:0<sz)(hE:Elem enc P W bk e sz E) :
  ∀n cs x,Reads enc P W n t cs=some x→bk x.1≤1048576→∃v xs,cs=[v]∧RdS LIM E sz (PAll W) v xs:=by
 intro n cs x h hx
 rcases DataW.trod_slice ht h with ⟨rfl,_⟩|⟨a,len,cap,elems,rest,m,_,rfl,rfl,_,h2,_,h4,h5,_,_⟩
 ·exact⟨_,[],rfl,RdS.nil _ _ _⟩
 ·simp only[hb.slice]at hx
  rw[hz]at h5
  have hle:=hb.len (elems.map (·.1))
  rw[List.length_map]at hle
  have hel:∀i,i<len→∃y:α,∃cs,cs.length=sz∧E (PAll W) y cs∧∀j v,cs[j]? = some v→W.cell? ((a.add (i*sz)).add j)=some v:=by
   intro i hi
   have h6:=h5 i hi
   rw[List.getElem?_eq_getElem (by omega)]at h6
   obtain⟨cs,k1,k2⟩:=Option.bind_eq_some_iff.1 h6
   obtain⟨y,k3,k4⟩:=hE m cs _ k2 (Nat.le_trans (hb.memF (by omega)) (by omega))
   refine⟨y,cs,k3,k4,fun j v hj=>?_⟩
   unfold World.cells? at k1
   split at k1
   ·have hjl:=(List.getElem?_eq_some_iff.1 hj).1
    rw[←hj]
    exact mapM_at k1 j j (by rw[List.getElem?_range (by omega)])
   ·cases k1
  obtain⟨xs,x1,x2⟩:=list_of len hel
  refine⟨_,xs,rfl,some a,cap,by rw[x1],by omega,by simp only[LIM];omega,?_⟩
  by_cases h0:len=0
  ·exact .inl (List.eq_nil_of_length_eq_zero (by omega))
  ·right
   have hspot:a.spot=none:=by
    obtain⟨y,cs,y1,_,y2⟩:=hel 0 (by omega)
    have:=World.cell?_spot (y2 0 cs[0] (by simp))
    simpa [Addr.add] using this
   obtain⟨b,o,sp⟩:=a
   simp only at hspot
   subst hspot
   refine⟨b,o,rfl,fun i y hy=>?_⟩
   obtain⟨cs,c1,c2,c3⟩:=x2 i y hy
   refine⟨cs,c1,c2,fun j v hj=>pcell_of ?_⟩
   have:=c3 j v hj
   rwa [Addr.add_lit,Addr.add_lit]at this
theorem struct_fields (hb:Bulk bk bka){t:TypeId}{fs:Array Field}{k:Nat}(ht:P.underlying t=some (.struct fs))(hk:P.cellsOf t=k)(hall:∀(i:Nat) (f:Field),fs[i]? = some f→f.offset=i∧P.cellsOf f.type=1) :
  ∀n cs x,Reads enc P W n t cs=some x→bk x.1≤1048576→cs.length=k∧∀(i:Nat) (f:Field),fs[i]? = some f→i<k→∃v y m,cs[i]? = some v∧Reads enc P W m f.type [v]=some y∧bk y.1≤1048576:=by
 intro n cs x h hx
 obtain⟨xs,m,_,rfl,h1,h2,h3⟩:=DataW.trod_struct ht h
 simp only[hb.agg]at hx
 rw[hk]at h1
 refine⟨h1,fun i f hf hi=>?_⟩
 have hfi:=(Array.getElem?_eq_some_iff.1 hf).1
 obtain⟨ho,hc⟩:=hall i f hf
 have h4:=h3 i f hf
 rw[ho,hc,List.getElem?_eq_getElem (by omega)]at h4
 have e : (cs.drop i).take 1 = [cs[i]'(by omega)] := by
  rw[List.drop_eq_getElem_cons (by omega)]
  rfl
 rw[e]at h4
 exact⟨_,_,m,List.getElem?_eq_getElem (by omega),h4,Nat.le_trans (hb.memF (by omega)) (by omega)⟩
theorem two_of {cs:List Value}{a b:Value}(h:cs.length=2)(h0:cs[0]? = some a)(h1:cs[1]? = some b):cs=[a,b]:=by
 match cs,h with
 | [x,y],_=>simp at h0 h1;simp[h0,h1]
theorem three_of {cs:List Value}{a b c:Value}(h:cs.length=3)(h0:cs[0]? = some a)(h1:cs[1]? = some b)(h2:cs[2]? = some c):cs=[a,b,c]:=by
 match cs,h with
 | [x,y,z],_=>simp at h0 h1 h2;simp[h0,h1,h2]
variable {ti ts tb tis:TypeId}
theorem elem_held (hb:Bulk bk bka){t:TypeId}{f0 f1 f2:Field}(ht:P.underlying t=some (.struct #[f0,f1,f2]))(hk:P.cellsOf t=3)(hall:∀(i:Nat) (f:Field),#[f0,f1,f2][i]? = some f→f.offset=i∧P.cellsOf f.type=1)
  (e0:f0.type=ti) (e1:f1.type=tis) (e2:f2.type=ti) (hi:P.underlying ti=some (.int .i64)) (his:P.underlying tis=some (.slice ti)) (hz:P.cellsOf ti=1):Elem enc P W bk t 3 heldE:=by
 intro n cs x h hx
 obtain⟨hl,hf⟩:=struct_fields hb ht hk hall n cs x h hx
 obtain⟨v0,y0,m0,a0,b0,c0⟩:=hf 0 f0 rfl (by omega)
 obtain⟨v1,y1,m1,a1,b1,c1⟩:=hf 1 f1 rfl (by omega)
 obtain⟨v2,y2,m2,a2,b2,c2⟩:=hf 2 f2 rfl (by omega)
 rw[e0]at b0;rw[e1]at b1;rw[e2]at b2
 obtain⟨i0,_,g0,g0'⟩:=elem_int (bk:=bk) hi m0 _ _ b0 c0
 obtain⟨i2,_,g2,g2'⟩:=elem_int (bk:=bk) hi m2 _ _ b2 c2
 obtain⟨v,xs,g1,g1'⟩:=elem_slice hb his hz (by omega) (elem_int hi) m1 _ _ b1 c1
 simp only[List.cons.injEq,and_true]at g0 g1 g2
 subst g0 g1 g2
 obtain⟨a,c,rfl⟩:=g1'.shape
 exact⟨⟨i0,xs,i2⟩,hl,_,_,_,three_of hl a0 a1 a2,g0',g1',g2'⟩
theorem elem_item (hb:Bulk bk bka){t:TypeId}{f0 f1 f2:Field}(ht:P.underlying t=some (.struct #[f0,f1,f2]))(hk:P.cellsOf t=3)(hall:∀(i:Nat) (f:Field),#[f0,f1,f2][i]? = some f→f.offset=i∧P.cellsOf f.type=1)
  (e0:f0.type=ts) (e1:f1.type=tb) (e2:f2.type=tis) (hs:P.underlying ts=some .string) (hbo:P.underlying tb=some .bool) (hi:P.underlying ti=some (.int .i64)) (his:P.underlying tis=some (.slice ti)) (hz:P.cellsOf ti=1):Elem enc P W bk t 3 itemE:=by
 intro n cs x h hx
 obtain⟨hl,hf⟩:=struct_fields hb ht hk hall n cs x h hx
 obtain⟨v0,y0,m0,a0,b0,c0⟩:=hf 0 f0 rfl (by omega)
 obtain⟨v1,y1,m1,a1,b1,c1⟩:=hf 1 f1 rfl (by omega)
 obtain⟨v2,y2,m2,a2,b2,c2⟩:=hf 2 f2 rfl (by omega)
 rw[e0]at b0;rw[e1]at b1;rw[e2]at b2
 obtain⟨i0,_,g0,g0'⟩:=elem_str hb hs m0 _ _ b0 c0
 obtain⟨i1,_,g1⟩:=elem_bool (bk:=bk) hbo m1 _ _ b1 c1
 obtain⟨v,xs,g2,g2'⟩:=elem_slice hb his hz (by omega) (elem_int hi) m2 _ _ b2 c2
 simp only[List.cons.injEq,and_true]at g0 g1 g2
 subst g0 g1 g2
 obtain⟨a,c,rfl⟩:=g2'.shape
 exact⟨⟨i0,i1,xs⟩,hl,_,_,_,three_of hl a0 a1 a2,g0',g2'⟩
theorem elem_snap (hb:Bulk bk bka){t tit tits:TypeId}{f0 f1:Field}(ht:P.underlying t=some (.struct #[f0,f1]))(hk:P.cellsOf t=2)(hall:∀(i:Nat) (f:Field),#[f0,f1][i]? = some f→f.offset=i∧P.cellsOf f.type=1)
  (e0:f0.type=ts) (e1:f1.type=tits) (hs:P.underlying ts=some .string) (his:P.underlying tits=some (.slice tit)) (hz:P.cellsOf tit=3) (hit:Elem enc P W bk tit 3 itemE):Elem enc P W bk t 2 snapE:=by
 intro n cs x h hx
 obtain⟨hl,hf⟩:=struct_fields hb ht hk hall n cs x h hx
 obtain⟨v0,y0,m0,a0,b0,c0⟩:=hf 0 f0 rfl (by omega)
 obtain⟨v1,y1,m1,a1,b1,c1⟩:=hf 1 f1 rfl (by omega)
 rw[e0]at b0;rw[e1]at b1
 obtain⟨i0,_,g0,g0'⟩:=elem_str hb hs m0 _ _ b0 c0
 obtain⟨v,xs,g1,g1'⟩:=elem_slice hb his hz (by omega) hit m1 _ _ b1 c1
 simp only[List.cons.injEq,and_true]at g0 g1
 subst g0 g1
 obtain⟨a,c,rfl⟩:=g1'.shape
 exact⟨⟨i0,xs⟩,hl,_,_,_,two_of hl a0 a1,g0',g1'⟩
theorem elem_disk (hb:Bulk bk bka){t the thes tit tits tsn tsns:TypeId}{f0 f1 f2:Field}(ht:P.underlying t=some (.struct #[f0,f1,f2]))(hk:P.cellsOf t=3)(hall:∀(i:Nat) (f:Field),#[f0,f1,f2][i]? = some f→f.offset=i∧P.cellsOf f.type=1)
  (e0:f0.type=thes) (e1:f1.type=tits) (e2:f2.type=tsns) (h0:P.underlying thes=some (.slice the)) (h1:P.underlying tits=some (.slice tit)) (h2:P.underlying tsns=some (.slice tsn)) (z0:P.cellsOf the=3) (z1:P.cellsOf tit=3) (z2:P.cellsOf tsn=2)
  (hh:Elem enc P W bk the 3 heldE) (hit:Elem enc P W bk tit 3 itemE) (hsn:Elem enc P W bk tsn 2 snapE):Elem enc P W bk t 3 diskE:=by
 intro n cs x h hx
 obtain⟨hl,hf⟩:=struct_fields hb ht hk hall n cs x h hx
 obtain⟨v0,y0,m0,a0,b0,c0⟩:=hf 0 f0 rfl (by omega)
 obtain⟨v1,y1,m1,a1,b1,c1⟩:=hf 1 f1 rfl (by omega)
 obtain⟨v2,y2,m2,a2,b2,c2⟩:=hf 2 f2 rfl (by omega)
 rw[e0]at b0;rw[e1]at b1;rw[e2]at b2
 obtain⟨u0,x0,g0,g0'⟩:=elem_slice hb h0 z0 (by omega) hh m0 _ _ b0 c0
 obtain⟨u1,x1,g1,g1'⟩:=elem_slice hb h1 z1 (by omega) hit m1 _ _ b1 c1
 obtain⟨u2,x2,g2,g2'⟩:=elem_slice hb h2 z2 (by omega) hsn m2 _ _ b2 c2
 simp only[List.cons.injEq,and_true]at g0 g1 g2
 subst g0 g1 g2
 obtain⟨a,c,rfl⟩:=g0'.shape
 obtain⟨a',c',rfl⟩:=g1'.shape
 obtain⟨a'',c'',rfl⟩:=g2'.shape
 exact⟨⟨x0,x1,x2⟩,hl,_,_,_,_,_,_,_,_,_,three_of hl a0 a1 a2,g0',g1',g2'⟩
theorem same_of_ext {w w':World}(h:Ext w w'){p:MemPlace}(hp:p.block<w.heap.size):w.sameAt w' p:=by
 have hb:=h.block p.block hp
 cases p with
 | cell b off=>simp only[World.sameAt,World.cell?];simp only[MemPlace.block]at hb;rw[hb]
 | map b=>simp only[World.sameAt];simpa [MemPlace.block] using hb
end
end Fw
namespace Fw
open Go Go.ChangeShapes Go.WideShapes
section
variable {H:Type} {enc:TypeId×Value→H} {P:Program}
theorem trodAll_stays (hl:laidOutB P=true){W W':World}{sp':Nat→Bool}:∀{ts:List TypeId} {vs:List Value} {ds:List (DataW H)} {ps:List MemPlace},(∀t,t ∈ ts→P.readableRec t=true∧t<P.types.size) →
  DataW.TrodAll enc P W 0 (fun _=>true) true ts vs ds ps→(∀p ∈ ps,W.sameAt W' p)→(∀p ∈ ps,sp' p.block=true)→DataW.TrodAll enc P W' 0 sp' true ts vs ds ps
 | [], _, _, _, _, h, _, _ => by
  obtain⟨rfl,rfl,rfl⟩:=trodAll_nil h
  rfl
 | t :: ts, _, _, _, hr, h, hs, hq => by
  obtain⟨v,vs1,d,ds1,a,b,rfl,rfl,rfl,h1,h2⟩:=trodAll_cons h
  exact ⟨a, b, WideElems.Trod_stays hl (hr t (by simp)).1 (hr t (by simp)).2 h1 (fun p hp => hs p (by simp [hp])) (fun p hp => hq p (by simp [hp])),
   trodAll_stays hl (fun t ht=>hr t (by simp[ht])) h2 (fun p hp=>hs p (by simp[hp])) (fun p hp=>hq p (by simp[hp])),rfl⟩
theorem kept_of_ext {W W':World}(h:Ext W W')(may:MemPlace→Prop):W.keptBut W' may:=by
 refine⟨h.os,h.output,fun i hi=>?_⟩
 rw[h.block i hi]
 cases W.heap[i]? with
 | none=>simp
 | some o=>cases o<;>simp
theorem law_post {f:Func}{s:ChangeSpec}{apart fresh handsOn again:Bool}{W W':World}{args:Array Value}{ds gs:List (DataW H)}{before:List MemPlace}(hl:laidOutB P=true)(hr:∀t,t ∈ f.params.toList→P.readableRec t=true∧t<P.types.size)
  (hv:s.vars=[]) (hW:DataW.Whole enc P f.params.toList s.vars apart W args.toList ds gs before) (hx:Ext W W') (hfr:(s.fn H (ds++gs)).results=[.lit (.bool true)]) (hfa:(s.fn H (ds++gs)).args=ds) (hfv:(s.fn H (ds++gs)).vars=[])
  (hres:∀(b:Nat) (sp:Nat→Bool) (hd:Bool),DataW.TrodAll enc P W' b sp hd f.resultTypes.toList ((Value.bool true).resultList f.resultTypes.size) [.lit (.bool true)] [])
  (hok:∀(j:Nat) (t:TypeId) (r:Value),f.resultTypes[j]? = some t→((Value.bool true).resultList f.resultTypes.size)[j]? = some r→Value.okWide P W' .any 0 t r) :
  s.post enc P f apart fresh handsOn again W args (.bool true) W':=by
 have hW':=hW
 obtain⟨p,q,hA,hV,rfl,hz,hn⟩:=hW
 rw[hv]at hV
 have hgs:gs=[]∧q=[]:=by
  cases gs with
  | nil=>exact⟨rfl,hV⟩
  | cons d r=>exact hV.elim
 obtain⟨rfl,rfl⟩:=hgs
 rw[List.append_nil]at hW' hz hn
 have hlt:∀m ∈ p,m.block<W.heap.size:=fun m hm=>hW'.lt m hm
 have hold:∀m ∈ p,(fun b=>decide (b<W.heap.size)) m.block=true:=fun m hm=>by simpa using hlt m hm
 have hargs : ∀ sp : Nat → Bool, (∀ m ∈ p, sp m.block = true) → DataW.TrodAll enc P W' 0 sp true f.params.toList args.toList (s.fn H (ds ++ [])).args p := fun sp hsp => by
  rw[hfa]
  exact trodAll_stays hl hr hA (fun m hm=>same_of_ext hx (hlt m hm)) hsp
 have hvars:∀sp:Nat→Bool,DataW.TrodVars enc P W' sp s.vars (s.fn H (ds++[])).vars []:=fun sp=>by rw[hv,hfv];rfl
 have hres':∀(b:Nat) (sp:Nat→Bool) (hd:Bool),DataW.TrodAll enc P W' b sp hd f.resultTypes.toList ((Value.bool true).resultList f.resultTypes.size) (s.fn H (ds++[])).results []:=fun b sp hd=>by rw[hfr];exact hres b sp hd
 refine⟨ds,[],p,[],p,[],hW',hres' _ _ _,hargs _ hold,hvars _,World.keptBut_mono (fun m hm=>⟨hm,Or.inr ?_⟩) (kept_of_ext hx (· ∈ p)),fun _=>?_⟩
 ·simpa using hm
 ·refine⟨hok,_,_,([]++p)++[],⟨[]++p,[],trodAll_append (hargs _ (fun _ _=>rfl)) (hres' _ _ _),hvars _,rfl,?_,?_⟩,?_⟩
  ·intro b off hp
   have hp':MemPlace.cell b off ∈ p:=by simpa using hp
   have h1:=hz b off hp'
   have h2:=hx.block b (hlt _ hp')
   simp only[World.frozen?]at h1 ⊢
   rw[h2]
   exact h1
  ·intro ha
   simpa using hn ha
  ·intro m hm _
   simpa using hm
end
end Fw
namespace Fw
open Go Go.WideShapes
theorem agg_of {P:Program}{W:World}{b:Nat}{t:TypeId}{fs:Array Field}{v:Value}(ht:P.underlying t=some (.struct fs))(h:Value.okWide P W .any b t v):∃cs:List Value,v= .agg cs.toArray:=by
 unfold Value.okWide at h
 rw[ht]at h
 obtain⟨cs,rfl,_⟩:=h
 exact⟨cs.toList,by simp⟩
end Fw
namespace Fw
open Go
def opO:Fr→BOp→List Value→Prop:=fun F x cs=>∃a m c,cs=[.int .i64 x.kind,str x.path,.slice a m c]∧inI x.kind∧x.path.length≤16777216∧OI F (.slice a m c) x.bytes
abbrev OOp (F:Fr) (v:Value) (xs:List BOp):Prop:=∃e,OwnS opO 3 e F v xs
theorem opO.rd {F:Fr}{x:BOp}{cs:List Value}{G:PH}(h:opO F x cs)(hle:PLe (fh F) G)(hn:(dm F).Nodup):opE G x cs:=by
 obtain⟨a,m,c,rfl,h1,h2,h3⟩:=h
 exact⟨a,m,c,rfl,h1,h2,h3.rd hle hn⟩
theorem OOp.rd {F:Fr}{v:Value}{xs:List BOp}{G:PH}(h:OOp F v xs)(hle:PLe (fh F) G)(hn:(dm F).Nodup):RdOp G v xs:=let ⟨_,h⟩:=h;h.rd hle hn (fun _ _ _ h1 h2 h=>opO.rd h h1 h2)
theorem OOp.mk {e:TypeId}{F:Fr}{v:Value}{xs:List BOp}(h:OwnS opO 3 e F v xs):OOp F v xs:=⟨_,h⟩
def partO:Fr→BPart→List Value→Prop:=fun F x cs=>∃a m c,cs=[.int .i64 x.kind,str x.path,.bool x.dir,.slice a m c]∧inI x.kind∧x.path.length≤16777216∧OI F (.slice a m c) x.bytes
abbrev OPt (F:Fr) (v:Value) (xs:List BPart):Prop:=∃e,OwnS partO 4 e F v xs
theorem partO.rd {F:Fr}{x:BPart}{cs:List Value}{G:PH}(h:partO F x cs)(hle:PLe (fh F) G)(hn:(dm F).Nodup):partE G x cs:=by
 obtain⟨a,m,c,rfl,h1,h2,h3⟩:=h
 exact⟨a,m,c,rfl,h1,h2,h3.rd hle hn⟩
theorem OPt.rd {F:Fr}{v:Value}{xs:List BPart}{G:PH}(h:OPt F v xs)(hle:PLe (fh F) G)(hn:(dm F).Nodup):RdPart G v xs:=let ⟨_,h⟩:=h;h.rd hle hn (fun _ _ _ h1 h2 h=>partO.rd h h1 h2)
theorem OPt.mk {e:TypeId}{F:Fr}{v:Value}{xs:List BPart}(h:OwnS partO 4 e F v xs):OPt F v xs:=⟨_,h⟩
section
variable {w0 w w':World} {G0 G G':PH} {S:List Nat} {B Bs:List Res}
end
section
variable {H:Type} {enc:TypeId×Value→H} {P:Program} {W:World} {bk:DataW H→Nat} {bka:List (DataW H)→Nat} {ti ts tb tis:TypeId}
end
end Fw
namespace Fw
end Fw
namespace Go.Proofs.Tst
open Go Fw
instance:CF Tryz.prog 10:=⟨Tryz.call10⟩
instance:CF Tryz.prog 100:=⟨Tryz.call100⟩
instance:CF Tryz.prog 101:=⟨Tryz.call101⟩
instance:CF Tryz.prog 102:=⟨Tryz.call102⟩
instance:CF Tryz.prog 103:=⟨Tryz.call103⟩
instance:CF Tryz.prog 104:=⟨Tryz.call104⟩
instance:CF Tryz.prog 105:=⟨Tryz.call105⟩
instance:CF Tryz.prog 107:=⟨Tryz.call107⟩
instance:CF Tryz.prog 108:=⟨Tryz.call108⟩
instance:CF Tryz.prog 109:=⟨Tryz.call109⟩
instance:CF Tryz.prog 11:=⟨Tryz.call11⟩
instance:CF Tryz.prog 110:=⟨Tryz.call110⟩
instance:CF Tryz.prog 111:=⟨Tryz.call111⟩
instance:CF Tryz.prog 112:=⟨Tryz.call112⟩
instance:CF Tryz.prog 113:=⟨Tryz.call113⟩
instance:CF Tryz.prog 114:=⟨Tryz.call114⟩
instance:CF Tryz.prog 115:=⟨Tryz.call115⟩
instance:CF Tryz.prog 119:=⟨Tryz.call119⟩
instance:CF Tryz.prog 12:=⟨Tryz.call12⟩
instance:CF Tryz.prog 120:=⟨Tryz.call120⟩
instance:CF Tryz.prog 121:=⟨Tryz.call121⟩
instance:CF Tryz.prog 122:=⟨Tryz.call122⟩
instance:CF Tryz.prog 123:=⟨Tryz.call123⟩
instance:CF Tryz.prog 124:=⟨Tryz.call124⟩
instance:CF Tryz.prog 125:=⟨Tryz.call125⟩
instance:CF Tryz.prog 126:=⟨Tryz.call126⟩
instance:CF Tryz.prog 127:=⟨Tryz.call127⟩
instance:CF Tryz.prog 128:=⟨Tryz.call128⟩
instance:CF Tryz.prog 129:=⟨Tryz.call129⟩
instance:CF Tryz.prog 13:=⟨Tryz.call13⟩
instance:CF Tryz.prog 130:=⟨Tryz.call130⟩
instance:CF Tryz.prog 131:=⟨Tryz.call131⟩
instance:CF Tryz.prog 132:=⟨Tryz.call132⟩
instance:CF Tryz.prog 133:=⟨Tryz.call133⟩
instance:CF Tryz.prog 134:=⟨Tryz.call134⟩
instance:CF Tryz.prog 137:=⟨Tryz.call137⟩
instance:CF Tryz.prog 138:=⟨Tryz.call138⟩
instance:CF Tryz.prog 139:=⟨Tryz.call139⟩
instance:CF Tryz.prog 140:=⟨Tryz.call140⟩
instance:CF Tryz.prog 141:=⟨Tryz.call141⟩
instance:CF Tryz.prog 142:=⟨Tryz.call142⟩
instance:CF Tryz.prog 143:=⟨Tryz.call143⟩
instance:CF Tryz.prog 144:=⟨Tryz.call144⟩
instance:CF Tryz.prog 145:=⟨Tryz.call145⟩
instance:CF Tryz.prog 146:=⟨Tryz.call146⟩
instance:CF Tryz.prog 147:=⟨Tryz.call147⟩
instance:CF Tryz.prog 148:=⟨Tryz.call148⟩
instance:CF Tryz.prog 149:=⟨Tryz.call149⟩
instance:CF Tryz.prog 152:=⟨Tryz.call152⟩
instance:CF Tryz.prog 153:=⟨Tryz.call153⟩
instance:CF Tryz.prog 154:=⟨Tryz.call154⟩
instance:CF Tryz.prog 155:=⟨Tryz.call155⟩
instance:CF Tryz.prog 156:=⟨Tryz.call156⟩
instance:CF Tryz.prog 157:=⟨Tryz.call157⟩
instance:CF Tryz.prog 16:=⟨Tryz.call16⟩
instance:CF Tryz.prog 161:=⟨Tryz.call161⟩
instance:CF Tryz.prog 162:=⟨Tryz.call162⟩
instance:CF Tryz.prog 163:=⟨Tryz.call163⟩
instance:CF Tryz.prog 164:=⟨Tryz.call164⟩
instance:CF Tryz.prog 173:=⟨Tryz.call173⟩
instance:CF Tryz.prog 174:=⟨Tryz.call174⟩
instance:CF Tryz.prog 175:=⟨Tryz.call175⟩
instance:CF Tryz.prog 176:=⟨Tryz.call176⟩
instance:CF Tryz.prog 177:=⟨Tryz.call177⟩
instance:CF Tryz.prog 178:=⟨Tryz.call178⟩
instance:CF Tryz.prog 179:=⟨Tryz.call179⟩
instance:CF Tryz.prog 180:=⟨Tryz.call180⟩
instance:CF Tryz.prog 181:=⟨Tryz.call181⟩
instance:CF Tryz.prog 194:=⟨Tryz.call194⟩
instance:CF Tryz.prog 195:=⟨Tryz.call195⟩
instance:CF Tryz.prog 196:=⟨Tryz.call196⟩
instance:CF Tryz.prog 20:=⟨Tryz.call20⟩
instance:CF Tryz.prog 200:=⟨Tryz.call200⟩
instance:CF Tryz.prog 201:=⟨Tryz.call201⟩
instance:CF Tryz.prog 21:=⟨Tryz.call21⟩
instance:CF Tryz.prog 212:=⟨Tryz.call212⟩
instance:CF Tryz.prog 213:=⟨Tryz.call213⟩
instance:CF Tryz.prog 214:=⟨Tryz.call214⟩
instance:CF Tryz.prog 215:=⟨Tryz.call215⟩
instance:CF Tryz.prog 216:=⟨Tryz.call216⟩
instance:CF Tryz.prog 217:=⟨Tryz.call217⟩
instance:CF Tryz.prog 224:=⟨Tryz.call224⟩
instance:CF Tryz.prog 225:=⟨Tryz.call225⟩
instance:CF Tryz.prog 228:=⟨Tryz.call228⟩
instance:CF Tryz.prog 229:=⟨Tryz.call229⟩
instance:CF Tryz.prog 230:=⟨Tryz.call230⟩
instance:CF Tryz.prog 234:=⟨Tryz.call234⟩
instance:CF Tryz.prog 235:=⟨Tryz.call235⟩
instance:CF Tryz.prog 245:=⟨Tryz.call245⟩
instance:CF Tryz.prog 246:=⟨Tryz.call246⟩
instance:CF Tryz.prog 247:=⟨Tryz.call247⟩
instance:CF Tryz.prog 25:=⟨Tryz.call25⟩
instance:CF Tryz.prog 26:=⟨Tryz.call26⟩
instance:CF Tryz.prog 27:=⟨Tryz.call27⟩
instance:CF Tryz.prog 28:=⟨Tryz.call28⟩
instance:CF Tryz.prog 29:=⟨Tryz.call29⟩
instance:CF Tryz.prog 30:=⟨Tryz.call30⟩
instance:CF Tryz.prog 31:=⟨Tryz.call31⟩
instance:CF Tryz.prog 32:=⟨Tryz.call32⟩
instance:CF Tryz.prog 33:=⟨Tryz.call33⟩
instance:CF Tryz.prog 34:=⟨Tryz.call34⟩
instance:CF Tryz.prog 35:=⟨Tryz.call35⟩
instance:CF Tryz.prog 36:=⟨Tryz.call36⟩
instance:CF Tryz.prog 37:=⟨Tryz.call37⟩
instance:CF Tryz.prog 38:=⟨Tryz.call38⟩
instance:CF Tryz.prog 39:=⟨Tryz.call39⟩
instance:CF Tryz.prog 40:=⟨Tryz.call40⟩
instance:CF Tryz.prog 41:=⟨Tryz.call41⟩
instance:CF Tryz.prog 42:=⟨Tryz.call42⟩
instance:CF Tryz.prog 43:=⟨Tryz.call43⟩
instance:CF Tryz.prog 44:=⟨Tryz.call44⟩
instance:CF Tryz.prog 45:=⟨Tryz.call45⟩
instance:CF Tryz.prog 46:=⟨Tryz.call46⟩
instance:CF Tryz.prog 47:=⟨Tryz.call47⟩
instance:CF Tryz.prog 48:=⟨Tryz.call48⟩
instance:CF Tryz.prog 49:=⟨Tryz.call49⟩
instance:CF Tryz.prog 50:=⟨Tryz.call50⟩
instance:CF Tryz.prog 51:=⟨Tryz.call51⟩
instance:CF Tryz.prog 53:=⟨Tryz.call53⟩
instance:CF Tryz.prog 54:=⟨Tryz.call54⟩
instance:CF Tryz.prog 55:=⟨Tryz.call55⟩
instance:CF Tryz.prog 56:=⟨Tryz.call56⟩
instance:CF Tryz.prog 57:=⟨Tryz.call57⟩
instance:CF Tryz.prog 60:=⟨Tryz.call60⟩
instance:CF Tryz.prog 61:=⟨Tryz.call61⟩
instance:CF Tryz.prog 66:=⟨Tryz.call66⟩
instance:CF Tryz.prog 67:=⟨Tryz.call67⟩
instance:CF Tryz.prog 68:=⟨Tryz.call68⟩
instance:CF Tryz.prog 69:=⟨Tryz.call69⟩
instance:CF Tryz.prog 7:=⟨Tryz.call7⟩
instance:CF Tryz.prog 70:=⟨Tryz.call70⟩
instance:CF Tryz.prog 71:=⟨Tryz.call71⟩
instance:CF Tryz.prog 72:=⟨Tryz.call72⟩
instance:CF Tryz.prog 73:=⟨Tryz.call73⟩
instance:CF Tryz.prog 74:=⟨Tryz.call74⟩
instance:CF Tryz.prog 75:=⟨Tryz.call75⟩
instance:CF Tryz.prog 76:=⟨Tryz.call76⟩
instance:CF Tryz.prog 77:=⟨Tryz.call77⟩
instance:CF Tryz.prog 78:=⟨Tryz.call78⟩
instance:CF Tryz.prog 79:=⟨Tryz.call79⟩
instance:CF Tryz.prog 8:=⟨Tryz.call8⟩
instance:CF Tryz.prog 80:=⟨Tryz.call80⟩
instance:CF Tryz.prog 81:=⟨Tryz.call81⟩
instance:CF Tryz.prog 82:=⟨Tryz.call82⟩
instance:CF Tryz.prog 83:=⟨Tryz.call83⟩
instance:CF Tryz.prog 84:=⟨Tryz.call84⟩
instance:CF Tryz.prog 85:=⟨Tryz.call85⟩
instance:CF Tryz.prog 86:=⟨Tryz.call86⟩
instance:CF Tryz.prog 87:=⟨Tryz.call87⟩
instance:CF Tryz.prog 88:=⟨Tryz.call88⟩
instance:CF Tryz.prog 89:=⟨Tryz.call89⟩
instance:CF Tryz.prog 9:=⟨Tryz.call9⟩
instance:CF Tryz.prog 90:=⟨Tryz.call90⟩
instance:CF Tryz.prog 91:=⟨Tryz.call91⟩
instance:CF Tryz.prog 92:=⟨Tryz.call92⟩
instance:CF Tryz.prog 93:=⟨Tryz.call93⟩
instance:CF Tryz.prog 94:=⟨Tryz.call94⟩
instance:CF Tryz.prog 95:=⟨Tryz.call95⟩
instance:CF Tryz.prog 96:=⟨Tryz.call96⟩
instance:CF Tryz.prog 97:=⟨Tryz.call97⟩
instance:CF Tryz.prog 98:=⟨Tryz.call98⟩
instance:FA Tryz.prog 102 0 0:=⟨_,_,_,Tryz.runUnderlying102,rfl,Tryz.sizeOf3,rfl⟩
instance:FA Tryz.prog 102 1 1:=⟨_,_,_,Tryz.runUnderlying102,rfl,Tryz.sizeOf49,rfl⟩
instance:FA Tryz.prog 102 2 2:=⟨_,_,_,Tryz.runUnderlying102,rfl,Tryz.sizeOf3,rfl⟩
instance:FA Tryz.prog 104 0 0:=⟨_,_,_,Tryz.runUnderlying104,rfl,Tryz.sizeOf9,rfl⟩
instance:FA Tryz.prog 104 1 1:=⟨_,_,_,Tryz.runUnderlying104,rfl,Tryz.sizeOf4,rfl⟩
instance:FA Tryz.prog 104 2 2:=⟨_,_,_,Tryz.runUnderlying104,rfl,Tryz.sizeOf49,rfl⟩
instance:FA Tryz.prog 107 0 0:=⟨_,_,_,Tryz.runUnderlying107,rfl,Tryz.sizeOf9,rfl⟩
instance:FA Tryz.prog 107 1 1:=⟨_,_,_,Tryz.runUnderlying107,rfl,Tryz.sizeOf23,rfl⟩
instance:FA Tryz.prog 113 0 0:=⟨_,_,_,Tryz.runUnderlying113,rfl,Tryz.sizeOf3,rfl⟩
instance:FA Tryz.prog 113 1 1:=⟨_,_,_,Tryz.runUnderlying113,rfl,Tryz.sizeOf49,rfl⟩
instance:FA Tryz.prog 113 2 2:=⟨_,_,_,Tryz.runUnderlying113,rfl,Tryz.sizeOf3,rfl⟩
instance:FA Tryz.prog 132 0 0:=⟨_,_,_,Tryz.runUnderlying132,rfl,Tryz.sizeOf130,rfl⟩
instance:FA Tryz.prog 132 1 1:=⟨_,_,_,Tryz.runUnderlying132,rfl,Tryz.sizeOf80,rfl⟩
instance:FA Tryz.prog 135 0 0:=⟨_,_,_,Tryz.runUnderlying135,rfl,Tryz.sizeOf128,rfl⟩
instance:FA Tryz.prog 135 1 2:=⟨_,_,_,Tryz.runUnderlying135,rfl,Tryz.sizeOf132,rfl⟩
instance:FA Tryz.prog 135 2 4:=⟨_,_,_,Tryz.runUnderlying135,rfl,Tryz.sizeOf133,rfl⟩
instance:FA Tryz.prog 141 0 0:=⟨_,_,_,Tryz.runUnderlying141,rfl,Tryz.sizeOf39,rfl⟩
instance:FA Tryz.prog 141 1 1:=⟨_,_,_,Tryz.runUnderlying141,rfl,Tryz.sizeOf3,rfl⟩
instance:FA Tryz.prog 143 0 0:=⟨_,_,_,Tryz.runUnderlying143,rfl,Tryz.sizeOf28,rfl⟩
instance:FA Tryz.prog 143 1 1:=⟨_,_,_,Tryz.runUnderlying143,rfl,Tryz.sizeOf29,rfl⟩
instance:FA Tryz.prog 150 0 0:=⟨_,_,_,Tryz.runUnderlying150,rfl,Tryz.sizeOf9,rfl⟩
instance:FA Tryz.prog 150 1 1:=⟨_,_,_,Tryz.runUnderlying150,rfl,Tryz.sizeOf4,rfl⟩
instance:FA Tryz.prog 150 2 2:=⟨_,_,_,Tryz.runUnderlying150,rfl,Tryz.sizeOf49,rfl⟩
instance:FA Tryz.prog 150 3 3:=⟨_,_,_,Tryz.runUnderlying150,rfl,Tryz.sizeOf148,rfl⟩
instance:FA Tryz.prog 164 0 0:=⟨_,_,_,Tryz.runUnderlying164,rfl,Tryz.sizeOf9,rfl⟩
instance:FA Tryz.prog 164 1 1:=⟨_,_,_,Tryz.runUnderlying164,rfl,Tryz.sizeOf80,rfl⟩
instance:FA Tryz.prog 26 0 0:=⟨_,_,_,Tryz.runUnderlying26,rfl,Tryz.sizeOf22,rfl⟩
instance:FA Tryz.prog 26 1 1:=⟨_,_,_,Tryz.runUnderlying26,rfl,Tryz.sizeOf23,rfl⟩
instance:FA Tryz.prog 26 2 2:=⟨_,_,_,Tryz.runUnderlying26,rfl,Tryz.sizeOf24,rfl⟩
instance:FA Tryz.prog 32 0 0:=⟨_,_,_,Tryz.runUnderlying32,rfl,Tryz.sizeOf28,rfl⟩
instance:FA Tryz.prog 32 1 1:=⟨_,_,_,Tryz.runUnderlying32,rfl,Tryz.sizeOf29,rfl⟩
instance:FA Tryz.prog 32 2 2:=⟨_,_,_,Tryz.runUnderlying32,rfl,Tryz.sizeOf30,rfl⟩
instance:FA Tryz.prog 51 0 0:=⟨_,_,_,Tryz.runUnderlying51,rfl,Tryz.sizeOf9,rfl⟩
instance:FA Tryz.prog 51 1 1:=⟨_,_,_,Tryz.runUnderlying51,rfl,Tryz.sizeOf4,rfl⟩
instance:FA Tryz.prog 51 2 2:=⟨_,_,_,Tryz.runUnderlying51,rfl,Tryz.sizeOf49,rfl⟩
instance:FA Tryz.prog 91 0 0:=⟨_,_,_,Tryz.runUnderlying91,rfl,Tryz.sizeOf9,rfl⟩
instance:FA Tryz.prog 91 1 1:=⟨_,_,_,Tryz.runUnderlying91,rfl,Tryz.sizeOf29,rfl⟩
instance:AG Tryz.prog 102 true:=⟨Tryz.isAgg102⟩
instance:AG Tryz.prog 104 true:=⟨Tryz.isAgg104⟩
instance:AG Tryz.prog 107 true:=⟨Tryz.isAgg107⟩
instance:AG Tryz.prog 113 true:=⟨Tryz.isAgg113⟩
instance:AG Tryz.prog 130 false:=⟨Tryz.isAgg130⟩
instance:AG Tryz.prog 132 true:=⟨Tryz.isAgg132⟩
instance:AG Tryz.prog 133 false:=⟨Tryz.isAgg133⟩
instance:AG Tryz.prog 143 true:=⟨Tryz.isAgg143⟩
instance:AG Tryz.prog 148 false:=⟨Tryz.isAgg148⟩
instance:AG Tryz.prog 164 true:=⟨Tryz.isAgg164⟩
instance:AG Tryz.prog 22 false:=⟨Tryz.isAgg22⟩
instance:AG Tryz.prog 23 false:=⟨Tryz.isAgg23⟩
instance:AG Tryz.prog 24 false:=⟨Tryz.isAgg24⟩
instance:AG Tryz.prog 26 true:=⟨Tryz.isAgg26⟩
instance:AG Tryz.prog 28 false:=⟨Tryz.isAgg28⟩
instance:AG Tryz.prog 29 false:=⟨Tryz.isAgg29⟩
instance:AG Tryz.prog 3 false:=⟨Tryz.isAgg3⟩
instance:AG Tryz.prog 30 false:=⟨Tryz.isAgg30⟩
instance:AG Tryz.prog 32 true:=⟨Tryz.isAgg32⟩
instance:AG Tryz.prog 39 false:=⟨Tryz.isAgg39⟩
instance:AG Tryz.prog 4 false:=⟨Tryz.isAgg4⟩
instance:AG Tryz.prog 49 false:=⟨Tryz.isAgg49⟩
instance:AG Tryz.prog 5 false:=⟨Tryz.isAgg5⟩
instance:AG Tryz.prog 51 true:=⟨Tryz.isAgg51⟩
instance:AG Tryz.prog 80 false:=⟨Tryz.isAgg80⟩
instance:AG Tryz.prog 9 false:=⟨Tryz.isAgg9⟩
instance:AG Tryz.prog 91 true:=⟨Tryz.isAgg91⟩
instance:SZ Tryz.prog 102 3:=⟨Tryz.sizeOf102⟩
instance:SZ Tryz.prog 104 3:=⟨Tryz.sizeOf104⟩
instance:SZ Tryz.prog 107 2:=⟨Tryz.sizeOf107⟩
instance:SZ Tryz.prog 113 3:=⟨Tryz.sizeOf113⟩
instance:SZ Tryz.prog 128 2:=⟨Tryz.sizeOf128⟩
instance:SZ Tryz.prog 130 1:=⟨Tryz.sizeOf130⟩
instance:SZ Tryz.prog 132 2:=⟨Tryz.sizeOf132⟩
instance:SZ Tryz.prog 133 1:=⟨Tryz.sizeOf133⟩
instance:SZ Tryz.prog 143 2:=⟨Tryz.sizeOf143⟩
instance:SZ Tryz.prog 148 1:=⟨Tryz.sizeOf148⟩
instance:SZ Tryz.prog 164 2:=⟨Tryz.sizeOf164⟩
instance:SZ Tryz.prog 22 1:=⟨Tryz.sizeOf22⟩
instance:SZ Tryz.prog 23 1:=⟨Tryz.sizeOf23⟩
instance:SZ Tryz.prog 24 1:=⟨Tryz.sizeOf24⟩
instance:SZ Tryz.prog 26 3:=⟨Tryz.sizeOf26⟩
instance:SZ Tryz.prog 28 1:=⟨Tryz.sizeOf28⟩
instance:SZ Tryz.prog 29 1:=⟨Tryz.sizeOf29⟩
instance:SZ Tryz.prog 3 1:=⟨Tryz.sizeOf3⟩
instance:SZ Tryz.prog 30 1:=⟨Tryz.sizeOf30⟩
instance:SZ Tryz.prog 32 3:=⟨Tryz.sizeOf32⟩
instance:SZ Tryz.prog 39 1:=⟨Tryz.sizeOf39⟩
instance:SZ Tryz.prog 4 1:=⟨Tryz.sizeOf4⟩
instance:SZ Tryz.prog 49 1:=⟨Tryz.sizeOf49⟩
instance:SZ Tryz.prog 5 1:=⟨Tryz.sizeOf5⟩
instance:SZ Tryz.prog 51 3:=⟨Tryz.sizeOf51⟩
instance:SZ Tryz.prog 80 1:=⟨Tryz.sizeOf80⟩
instance:SZ Tryz.prog 9 1:=⟨Tryz.sizeOf9⟩
instance:SZ Tryz.prog 91 2:=⟨Tryz.sizeOf91⟩
instance:UL Tryz.prog 133 (.slice 164):=⟨Tryz.underlying133⟩
instance:UL Tryz.prog 148 (.slice 80):=⟨Tryz.underlying148⟩
instance:UL Tryz.prog 22 (.slice 102):=⟨Tryz.underlying22⟩
instance:UL Tryz.prog 23 (.slice 104):=⟨Tryz.underlying23⟩
instance:UL Tryz.prog 24 (.slice 107):=⟨Tryz.underlying24⟩
instance:UL Tryz.prog 255 (.slice 49):=⟨Tryz.underlying255⟩
instance:UL Tryz.prog 28 (.slice 113):=⟨Tryz.underlying28⟩
instance:UL Tryz.prog 29 (.slice 51):=⟨Tryz.underlying29⟩
instance:UL Tryz.prog 30 (.slice 91):=⟨Tryz.underlying30⟩
instance:UL Tryz.prog 39 (.slice 5):=⟨Tryz.underlying39⟩
instance:UL Tryz.prog 49 (.slice 3):=⟨Tryz.underlying49⟩
instance:UL Tryz.prog 79 (.slice 9):=⟨Tryz.underlying79⟩
instance:UL Tryz.prog 9 .string:=⟨Tryz.underlying9⟩
instance:UL Tryz.prog 92 .string:=⟨Tryz.underlying92⟩
instance:ZV Tryz.prog 113 [.int .i64 0,.slice none 0 0,.int .i64 0]:=⟨_,Tryz.zeroValue113,rfl⟩
instance:ZV Tryz.prog 132 [.map none,.pointer none]:=⟨_,Tryz.zeroValue132,rfl⟩
instance:ZV Tryz.prog 143 [.slice none 0 0,.slice none 0 0]:=⟨_,Tryz.zeroValue143,rfl⟩
instance:ZV Tryz.prog 164 [str [],.pointer none]:=⟨_,Tryz.zeroValue164,rfl⟩
instance:ZV Tryz.prog 3 [.int .i64 0]:=⟨_,Tryz.zeroValue3,rfl⟩
instance:ZV Tryz.prog 32 [.slice none 0 0,.slice none 0 0,.slice none 0 0]:=⟨_,Tryz.zeroValue32,rfl⟩
instance:ZV Tryz.prog 49 [.slice none 0 0]:=⟨_,Tryz.zeroValue49,rfl⟩
instance:ZV Tryz.prog 5 [.int .u8 0]:=⟨_,Tryz.zeroValue5,rfl⟩
instance:ZV Tryz.prog 51 [str [],.bool false,.slice none 0 0]:=⟨_,Tryz.zeroValue51,rfl⟩
instance:ZV Tryz.prog 80 [.pointer none]:=⟨_,Tryz.zeroValue80,rfl⟩
instance:ZV Tryz.prog 9 [str []]:=⟨_,Tryz.zeroValue9,rfl⟩
instance:ZV Tryz.prog 91 [str [],.slice none 0 0]:=⟨_,Tryz.zeroValue91,rfl⟩
end Go.Proofs.Tst
namespace Go.Proofs.Tst
open Go Fw Tryz
theorem w_szIntS_c (w0:World)(G0:PH)(hG:PSub G0 w0)(va:Value)(a:List (Int))(ha:RdI G0 va a)(left:Int)(hl: -1≤left∧left≤1099511627776) :
  Calls Tryz.prog 119 #[va,.int .i64 left] w0 (RetV w0 (fun v=>∃r:Int,v= .int .i64 r∧(r= -1∨(0≤r∧r+(List.length a:Int)≤left)))):=by
 obtain⟨aa,ka,rfl⟩:=ha.shape
 have hlima:a.length≤1099511627776:=ha.lim
 have H:=Hp.init hG
 refine calls_of_W (l:=[.slice aa a.length ka,.int .i64 left]) func119 Z ntmps119 Z (q2 (aG Z (q1 (pe 2 Z (lN Z (o_sub Z Z Z oO (aG Z (q3 (W_seq (q2 (pe 2 Z (q3 ?_))))))))))))
 refine W_cond Z ?_ ?_
 ·intro hc2
  try simp only[nrm]at hc2
  refine q2 (aG Z (q3 (W_ret (N_K_ret (rt1 results119 Z ?_)))))
  exact H.retV ⟨_,rfl,by first|omega|(simp only[wHeld,wItem,wSnap,wHelds,wItems,wSnaps,wDisk]at *; omega)⟩
 intro hc2'
 try simp only[nrm]at hc2'
 refine W_skip (N_K (q2 (pe 2 Z (q3 (W_ret (rt1 results119 Z ?_))))))
 exact H.retV ⟨_,rfl,by first|omega|(simp only[wHeld,wItem,wSnap,wHelds,wItems,wSnaps,wDisk]at *; omega)⟩
theorem w_szHeld_c (w0:World)(G0:PH)(hG:PSub G0 w0)(ca:List Value)(a:BHeld)(ha:heldE G0 a ca)(left:Int)(hl: -1≤left∧left≤1099511627776) :
  Calls Tryz.prog 66 #[.agg ca.toArray,.int .i64 left] w0 (RetV w0 (fun v=>∃r:Int,v= .int .i64 r∧(r= -1∨(0≤r∧r+(wHeld a:Int)≤left)))):=by
 obtain⟨_,_,_,rfl,_,hr1,_,_,_⟩:=ox ha
 have H:=Hp.init hG
 refine calls_of_W (l:=[_,.int .i64 left]) func66 Z ntmps66 Z (q2 (o_box H Z Z Z ?_));intro _ _ _ H
 refine aG Z (q1 (fA 1 Z (lB 0 H Z3 (mV Z (xc Z2 (w_szIntS_c _ _ H.sub _ _ hr1 _ oO) ?_)))))
 rintro _ _ ⟨_,rfl,ew3,⟨_,rfl,_⟩⟩
 skip
 have H:=H.step ew3;refine⟨_,rfl,?_⟩
 refine aG Z (q3 (W_seq (q2 (pe 2 Z (q3 ?_)))))
 refine W_cond Z ?_ ?_
 ·intro hc4
  try simp only[nrm]at hc4
  refine q2 (aG Z (q3 (W_ret (N_K_ret (rt1 results66 Z ?_)))))
  exact H.retV ⟨_,rfl,by first|omega|(simp only[wHeld,wItem,wSnap,wHelds,wItems,wSnaps,wDisk]at *; omega)⟩
 intro hc4'
 try simp only[nrm]at hc4'
 refine W_skip (N_K (q2 (pe 2 Z (q3 (W_ret (rt1 results66 Z ?_))))))
 exact H.retV ⟨_,rfl,by first|omega|(simp only[wHeld,wItem,wSnap,wHelds,wItems,wSnaps,wDisk]at *; omega)⟩
theorem w_szHeldS_c (w0:World)(G0:PH)(hG:PSub G0 w0)(va:Value)(a:List (BHeld))(ha:RdH G0 va a)(left:Int)(hl: -1≤left∧left≤1099511627776) :
  Calls Tryz.prog 25 #[va,.int .i64 left] w0 (RetV w0 (fun v=>∃r:Int,v= .int .i64 r∧(r= -1∨(0≤r∧r+(wHelds a:Int)≤left)))):=by
 obtain⟨aa,ka,rfl⟩:=ha.shape
 have hlima:a.length≤1099511627776:=ha.lim
 have H:=Hp.init hG
 refine calls_of_W (l:=[.slice aa a.length ka,.int .i64 left]) func25 Z ntmps25 Z (q2 (aG Z (q1 (pe 2 Z (lN Z (o_sub Z Z Z oO (aG Z (q3 (W_seq (q2 (pe 2 Z (q3 ?_))))))))))))
 refine W_cond Z ?_ ?_
 ·intro hc2
  try simp only[nrm]at hc2
  refine q2 (aG Z (q3 (W_ret (N_K_ret (rt1 results25 Z ?_)))))
  exact H.retV ⟨_,rfl,by first|omega|(simp only[wHeld,wItem,wSnap,wHelds,wItems,wSnaps,wDisk]at *; omega)⟩
 intro hc2'
 try simp only[nrm]at hc2'
 refine W_skip (N_K (W_seq (q2 (aG Z (q3 (W_block ?_))))))
 refine W_lp (hf:=(Sub.cons (t:=0) Z Sub.nil)) (J:=fun M w m=>∃(k:Nat) (lf:Int) (G:PH),M=[(5,.int .i64 (k:Int)),(1,.int .i64 lf)]∧PLe G0 G∧Hp w0 G0 [] w G []∧(k≤a.length∧0≤lf∧lf+(a.length:Int)+(cnt wHeld (a.take k):Int)≤left)∧m=(a.length-k)) (h0:=⟨0,(left-(a.length:Int)),_,Z,PLe.refl _,H,?inv,Z⟩) (round:=?round)
 case inv=>exact⟨by omega,by omega,by (simp only[List.take_zero,cnt];omega)⟩
 case round =>
  rintro _ _ _ ⟨k,lf,_,rfl,hle3,H,hinv3,rfl⟩
  have ha:=ha.up hle3
  obtain⟨_,_,_⟩:=hinv3
  refine W_seq (q2 (pe 2 Z (lN Z (pe 1 Z (q3 ?_)))))
  refine W_cond Z ?_ ?_
  ·intro hc4
   try simp only[nrm]at hc4
   refine W_skip (N_K (W_seq (W_block (q2 (pe 2 Z (iP k ha Z3 Z ?_))))));intro _ _ _ _ hz5 hE5 hrow5
   obtain⟨_,_,_,rfl,_,hr5,_,_,_⟩:=ox hE5
   refine o_loadagg_P H isAgg102 sizeOf102 Z Z hrow5 Z (mV Z ?_)
   refine xc Z2 (w_szHeld_c _ _ H.sub _ _ ⟨_,_,_,Z,⟨by first|omega|(dsimp only;omega),by first|omega|(dsimp only;omega)⟩,hr5,⟨by first|omega|(dsimp only;omega),by first|omega|(dsimp only;omega)⟩⟩ _ oO) ?_
   rintro _ _ ⟨_,rfl,ew6,⟨r6,rfl,_⟩⟩
   skip
   have H:=H.step ew6;refine⟨_,rfl,?_⟩
   refine aG Z (q1 (pe 2 Z (q3 ?_)))
   refine W_cond Z ?_ ?_
   ·intro hc7
    try simp only[nrm]at hc7
    refine q2 (aG Z (q3 (W_ret (N_B_ret (N_K_ret (N_LP_ret (N_B_ret (N_K_ret (rt1 results25 Z ?_)))))))))
    exact H.retV ⟨_,rfl,by first|omega|(simp only[wHeld,wItem,wSnap,wHelds,wItems,wSnaps,wDisk]at *; omega)⟩
   intro hc7'
   try simp only[nrm]at hc7'
   refine W_skip (N_B (N_K (W_region (mV Z (aD Z2 (aG Z (R_nil ?_)))))))
   refine N_lp (hJ:=⟨k+1,r6,_,Z,hle3,H,?inv,Z⟩) (hm:=?hm)
   case hm=>omega
   case inv=>exact⟨by omega,by omega,by (have hcs:=cnt_succ (c:=wHeld) hz5;omega)⟩
  intro hc4'
  try simp only[nrm]at hc4'
  refine W_exit (N_K_exit (N_LP_exit (N_B_same (N_K (q2 (pe 2 Z (q3 (W_ret (rt1 results25 Z ?_)))))))))
  have hce:=cnt_end (c:=wHeld) (show k=a.length by omega)
  exact H.retV ⟨_,rfl,by first|omega|(simp only[wHeld,wItem,wSnap,wHelds,wItems,wSnaps,wDisk]at *; omega)⟩
theorem w_szItem_c (w0:World)(G0:PH)(hG:PSub G0 w0)(ca:List Value)(a:BItem)(ha:itemE G0 a ca)(left:Int)(hl: -1≤left∧left≤1099511627776) :
  Calls Tryz.prog 67 #[.agg ca.toArray,.int .i64 left] w0 (RetV w0 (fun v=>∃r:Int,v= .int .i64 r∧(r= -1∨(0≤r∧r+(wItem a:Int)≤left)))):=by
 obtain⟨_,_,_,rfl,_,hr1,_,_⟩:=ox ha
 have H:=Hp.init hG
 refine calls_of_W (l:=[_,.int .i64 left]) func67 Z ntmps67 Z (q2 (o_box H Z Z Z ?_));intro _ _ _ H
 refine aG Z (q1 (mV Z (fA 0 Z (lB 0 H Z3 (lS Z (o_sub Z Z Z oO (aG Z (q3 (W_seq (q2 (pe 2 Z (q3 ?_))))))))))))
 refine W_cond Z ?_ ?_
 ·intro hc4
  try simp only[nrm]at hc4
  refine q2 (aG Z (q3 (W_ret (N_K_ret (rt1 results67 Z ?_)))))
  exact H.retV ⟨_,rfl,by first|omega|(simp only[wHeld,wItem,wSnap,wHelds,wItems,wSnaps,wDisk]at *; omega)⟩
 intro hc4'
 try simp only[nrm]at hc4'
 refine W_skip (N_K (q2 (fA 2 Z (lB 0 H Z3 (mV Z (xc Z2 (w_szIntS_c _ _ H.sub _ _ hr1 _ oO) ?_))))))
 rintro _ _ ⟨_,rfl,ew5,⟨_,rfl,_⟩⟩
 skip
 have H:=H.step ew5;refine⟨_,rfl,?_⟩
 refine aG Z (q3 (W_seq (q2 (pe 2 Z (q3 ?_)))))
 refine W_cond Z ?_ ?_
 ·intro hc6
  try simp only[nrm]at hc6
  refine q2 (aG Z (q3 (W_ret (N_K_ret (rt1 results67 Z ?_)))))
  exact H.retV ⟨_,rfl,by first|omega|(simp only[wHeld,wItem,wSnap,wHelds,wItems,wSnaps,wDisk]at *; omega)⟩
 intro hc6'
 try simp only[nrm]at hc6'
 refine W_skip (N_K (q2 (pe 2 Z (q3 (W_ret (rt1 results67 Z ?_))))))
 exact H.retV ⟨_,rfl,by first|omega|(simp only[wHeld,wItem,wSnap,wHelds,wItems,wSnaps,wDisk]at *; omega)⟩
theorem w_szItemS_c (w0:World)(G0:PH)(hG:PSub G0 w0)(va:Value)(a:List (BItem))(ha:RdItems G0 va a)(left:Int)(hl: -1≤left∧left≤1099511627776) :
  Calls Tryz.prog 26 #[va,.int .i64 left] w0 (RetV w0 (fun v=>∃r:Int,v= .int .i64 r∧(r= -1∨(0≤r∧r+(wItems a:Int)≤left)))):=by
 obtain⟨aa,ka,rfl⟩:=ha.shape
 have hlima:a.length≤1099511627776:=ha.lim
 have H:=Hp.init hG
 refine calls_of_W (l:=[.slice aa a.length ka,.int .i64 left]) func26 Z ntmps26 Z (q2 (aG Z (q1 (pe 2 Z (lN Z (o_sub Z Z Z oO (aG Z (q3 (W_seq (q2 (pe 2 Z (q3 ?_))))))))))))
 refine W_cond Z ?_ ?_
 ·intro hc2
  try simp only[nrm]at hc2
  refine q2 (aG Z (q3 (W_ret (N_K_ret (rt1 results26 Z ?_)))))
  exact H.retV ⟨_,rfl,by first|omega|(simp only[wHeld,wItem,wSnap,wHelds,wItems,wSnaps,wDisk]at *; omega)⟩
 intro hc2'
 try simp only[nrm]at hc2'
 refine W_skip (N_K (W_seq (q2 (aG Z (q3 (W_block ?_))))))
 refine W_lp (hf:=(Sub.cons (t:=0) Z Sub.nil)) (J:=fun M w m=>∃(k:Nat) (lf:Int) (G:PH),M=[(5,.int .i64 (k:Int)),(1,.int .i64 lf)]∧PLe G0 G∧Hp w0 G0 [] w G []∧(k≤a.length∧0≤lf∧lf+(a.length:Int)+(cnt wItem (a.take k):Int)≤left)∧m=(a.length-k)) (h0:=⟨0,(left-(a.length:Int)),_,Z,PLe.refl _,H,?inv,Z⟩) (round:=?round)
 case inv=>exact⟨by omega,by omega,by (simp only[List.take_zero,cnt];omega)⟩
 case round =>
  rintro _ _ _ ⟨k,lf,_,rfl,hle3,H,hinv3,rfl⟩
  have ha:=ha.up hle3
  obtain⟨_,_,_⟩:=hinv3
  refine W_seq (q2 (pe 2 Z (lN Z (pe 1 Z (q3 ?_)))))
  refine W_cond Z ?_ ?_
  ·intro hc4
   try simp only[nrm]at hc4
   refine W_skip (N_K (W_seq (W_block (q2 (pe 2 Z (iP k ha Z3 Z ?_))))));intro _ _ _ _ hz5 hE5 hrow5
   obtain⟨_,_,_,rfl,hi5,hr5,_,_⟩:=ox hE5
   refine o_loadagg_P H isAgg104 sizeOf104 Z Z hrow5 Z (mV Z (xc Z2 (w_szItem_c _ _ H.sub _ _ ⟨_,_,_,Z,hi5,hr5⟩ _ oO) ?_))
   rintro _ _ ⟨_,rfl,ew6,⟨r6,rfl,_⟩⟩
   skip
   have H:=H.step ew6;refine⟨_,rfl,?_⟩
   refine aG Z (q1 (pe 2 Z (q3 ?_)))
   refine W_cond Z ?_ ?_
   ·intro hc7
    try simp only[nrm]at hc7
    refine q2 (aG Z (q3 (W_ret (N_B_ret (N_K_ret (N_LP_ret (N_B_ret (N_K_ret (rt1 results26 Z ?_)))))))))
    exact H.retV ⟨_,rfl,by first|omega|(simp only[wHeld,wItem,wSnap,wHelds,wItems,wSnaps,wDisk]at *; omega)⟩
   intro hc7'
   try simp only[nrm]at hc7'
   refine W_skip (N_B (N_K (W_region (mV Z (aD Z2 (aG Z (R_nil ?_)))))))
   refine N_lp (hJ:=⟨k+1,r6,_,Z,hle3,H,?inv,Z⟩) (hm:=?hm)
   case hm=>omega
   case inv=>exact⟨by omega,by omega,by (have hcs:=cnt_succ (c:=wItem) hz5;omega)⟩
  intro hc4'
  try simp only[nrm]at hc4'
  refine W_exit (N_K_exit (N_LP_exit (N_B_same (N_K (q2 (pe 2 Z (q3 (W_ret (rt1 results26 Z ?_)))))))))
  have hce:=cnt_end (c:=wItem) (show k=a.length by omega)
  exact H.retV ⟨_,rfl,by first|omega|(simp only[wHeld,wItem,wSnap,wHelds,wItems,wSnaps,wDisk]at *; omega)⟩
theorem w_szSnap_c (w0:World)(G0:PH)(hG:PSub G0 w0)(ca:List Value)(a:BSnap)(ha:snapE G0 a ca)(left:Int)(hl: -1≤left∧left≤1099511627776) :
  Calls Tryz.prog 68 #[.agg ca.toArray,.int .i64 left] w0 (RetV w0 (fun v=>∃r:Int,v= .int .i64 r∧(r= -1∨(0≤r∧r+(wSnap a:Int)≤left)))):=by
 obtain⟨_,_,_,rfl,_,hr1,_,_⟩:=ox ha
 have H:=Hp.init hG
 refine calls_of_W (l:=[_,.int .i64 left]) func68 Z ntmps68 Z (q2 (o_box H Z Z Z ?_));intro _ _ _ H
 refine aG Z (q1 (mV Z (fA 0 Z (lB 0 H Z3 (lS Z (o_sub Z Z Z oO (aG Z (q3 (W_seq (q2 (pe 2 Z (q3 ?_))))))))))))
 refine W_cond Z ?_ ?_
 ·intro hc4
  try simp only[nrm]at hc4
  refine q2 (aG Z (q3 (W_ret (N_K_ret (rt1 results68 Z ?_)))))
  exact H.retV ⟨_,rfl,by first|omega|(simp only[wHeld,wItem,wSnap,wHelds,wItems,wSnaps,wDisk]at *; omega)⟩
 intro hc4'
 try simp only[nrm]at hc4'
 refine W_skip (N_K (q2 (fA 1 Z (lB 0 H Z3 (mV Z (xc Z2 (w_szItemS_c _ _ H.sub _ _ hr1 _ oO) ?_))))))
 rintro _ _ ⟨_,rfl,ew5,⟨_,rfl,_⟩⟩
 skip
 have H:=H.step ew5;refine⟨_,rfl,?_⟩
 refine aG Z (q3 (W_seq (q2 (pe 2 Z (q3 ?_)))))
 refine W_cond Z ?_ ?_
 ·intro hc6
  try simp only[nrm]at hc6
  refine q2 (aG Z (q3 (W_ret (N_K_ret (rt1 results68 Z ?_)))))
  exact H.retV ⟨_,rfl,by first|omega|(simp only[wHeld,wItem,wSnap,wHelds,wItems,wSnaps,wDisk]at *; omega)⟩
 intro hc6'
 try simp only[nrm]at hc6'
 refine W_skip (N_K (q2 (pe 2 Z (q3 (W_ret (rt1 results68 Z ?_))))))
 exact H.retV ⟨_,rfl,by first|omega|(simp only[wHeld,wItem,wSnap,wHelds,wItems,wSnaps,wDisk]at *; omega)⟩
theorem w_szSnapS_c (w0:World)(G0:PH)(hG:PSub G0 w0)(va:Value)(a:List (BSnap))(ha:RdSn G0 va a)(left:Int)(hl: -1≤left∧left≤1099511627776) :
  Calls Tryz.prog 27 #[va,.int .i64 left] w0 (RetV w0 (fun v=>∃r:Int,v= .int .i64 r∧(r= -1∨(0≤r∧r+(wSnaps a:Int)≤left)))):=by
 obtain⟨aa,ka,rfl⟩:=ha.shape
 have hlima:a.length≤1099511627776:=ha.lim
 have H:=Hp.init hG
 refine calls_of_W (l:=[.slice aa a.length ka,.int .i64 left]) func27 Z ntmps27 Z (q2 (aG Z (q1 (pe 2 Z (lN Z (o_sub Z Z Z oO (aG Z (q3 (W_seq (q2 (pe 2 Z (q3 ?_))))))))))))
 refine W_cond Z ?_ ?_
 ·intro hc2
  try simp only[nrm]at hc2
  refine q2 (aG Z (q3 (W_ret (N_K_ret (rt1 results27 Z ?_)))))
  exact H.retV ⟨_,rfl,by first|omega|(simp only[wHeld,wItem,wSnap,wHelds,wItems,wSnaps,wDisk]at *; omega)⟩
 intro hc2'
 try simp only[nrm]at hc2'
 refine W_skip (N_K (W_seq (q2 (aG Z (q3 (W_block ?_))))))
 refine W_lp (hf:=(Sub.cons (t:=0) Z Sub.nil)) (J:=fun M w m=>∃(k:Nat) (lf:Int) (G:PH),M=[(5,.int .i64 (k:Int)),(1,.int .i64 lf)]∧PLe G0 G∧Hp w0 G0 [] w G []∧(k≤a.length∧0≤lf∧lf+(a.length:Int)+(cnt wSnap (a.take k):Int)≤left)∧m=(a.length-k)) (h0:=⟨0,(left-(a.length:Int)),_,Z,PLe.refl _,H,?inv,Z⟩) (round:=?round)
 case inv=>exact⟨by omega,by omega,by (simp only[List.take_zero,cnt];omega)⟩
 case round =>
  rintro _ _ _ ⟨k,lf,_,rfl,hle3,H,hinv3,rfl⟩
  have ha:=ha.up hle3
  obtain⟨_,_,_⟩:=hinv3
  refine W_seq (q2 (pe 2 Z (lN Z (pe 1 Z (q3 ?_)))))
  refine W_cond Z ?_ ?_
  ·intro hc4
   try simp only[nrm]at hc4
   refine W_skip (N_K (W_seq (W_block (q2 (pe 2 Z (iP k ha Z3 Z ?_))))));intro _ _ _ _ hz5 hE5 hrow5
   obtain⟨_,_,_,rfl,hi5,hr5,_,_⟩:=ox hE5
   refine o_loadagg_P H isAgg107 sizeOf107 Z Z hrow5 Z (mV Z (xc Z2 (w_szSnap_c _ _ H.sub _ _ ⟨_,_,_,Z,hi5,hr5⟩ _ oO) ?_))
   rintro _ _ ⟨_,rfl,ew6,⟨r6,rfl,_⟩⟩
   skip
   have H:=H.step ew6;refine⟨_,rfl,?_⟩
   refine aG Z (q1 (pe 2 Z (q3 ?_)))
   refine W_cond Z ?_ ?_
   ·intro hc7
    try simp only[nrm]at hc7
    refine q2 (aG Z (q3 (W_ret (N_B_ret (N_K_ret (N_LP_ret (N_B_ret (N_K_ret (rt1 results27 Z ?_)))))))))
    exact H.retV ⟨_,rfl,by first|omega|(simp only[wHeld,wItem,wSnap,wHelds,wItems,wSnaps,wDisk]at *; omega)⟩
   intro hc7'
   try simp only[nrm]at hc7'
   refine W_skip (N_B (N_K (W_region (mV Z (aD Z2 (aG Z (R_nil ?_)))))))
   refine N_lp (hJ:=⟨k+1,r6,_,Z,hle3,H,?inv,Z⟩) (hm:=?hm)
   case hm=>omega
   case inv=>exact⟨by omega,by omega,by (have hcs:=cnt_succ (c:=wSnap) hz5;omega)⟩
  intro hc4'
  try simp only[nrm]at hc4'
  refine W_exit (N_K_exit (N_LP_exit (N_B_same (N_K (q2 (pe 2 Z (q3 (W_ret (rt1 results27 Z ?_)))))))))
  have hce:=cnt_end (c:=wSnap) (show k=a.length by omega)
  exact H.retV ⟨_,rfl,by first|omega|(simp only[wHeld,wItem,wSnap,wHelds,wItems,wSnaps,wDisk]at *; omega)⟩
theorem w_szDisk_c (w0:World)(G0:PH)(hG:PSub G0 w0)(ca:List Value)(a:BDisk)(ha:diskE G0 a ca)(left:Int)(hl: -1≤left∧left≤1099511627776) :
  Calls Tryz.prog 7 #[.agg ca.toArray,.int .i64 left] w0 (RetV w0 (fun v=>∃r:Int,v= .int .i64 r∧(r= -1∨(0≤r∧r+(wDisk a:Int)≤left)))):=by
 obtain⟨_,_,_,_,_,_,_,_,_,rfl,hr1,hr1',hr1'',⟨_,_⟩,⟨_,_⟩,_,_⟩:=ox ha
 have H:=Hp.init hG
 refine calls_of_W (l:=[_,.int .i64 left]) func7 Z ntmps7 Z (q2 (o_box H Z Z Z ?_));intro _ _ _ H
 refine aG Z (q1 (fA 0 Z (lB 0 H Z3 (mV Z (xc Z2 (w_szHeldS_c _ _ H.sub _ _ hr1 _ oO) ?_)))))
 rintro _ _ ⟨_,rfl,ew3,⟨_,rfl,_⟩⟩
 skip
 have H:=H.step ew3;refine⟨_,rfl,?_⟩
 refine aG Z (q3 (W_seq (q2 (pe 2 Z (q3 ?_)))))
 refine W_cond Z ?_ ?_
 ·intro hc4
  try simp only[nrm]at hc4
  refine q2 (aG Z (q3 (W_ret (N_K_ret (rt1 results7 Z ?_)))))
  exact H.retV ⟨_,rfl,by first|omega|(simp only[wHeld,wItem,wSnap,wHelds,wItems,wSnaps,wDisk]at *; omega)⟩
 intro hc4'
 try simp only[nrm]at hc4'
 refine W_skip (N_K (q2 (fA 1 Z (lB 0 H Z3 (mV Z (xc Z2 (w_szItemS_c _ _ H.sub _ _ hr1' _ oO) ?_))))))
 rintro _ _ ⟨_,rfl,ew5,⟨_,rfl,_⟩⟩
 skip
 have H:=H.step ew5;refine⟨_,rfl,?_⟩
 refine aG Z (q3 (W_seq (q2 (pe 2 Z (q3 ?_)))))
 refine W_cond Z ?_ ?_
 ·intro hc6
  try simp only[nrm]at hc6
  refine q2 (aG Z (q3 (W_ret (N_K_ret (rt1 results7 Z ?_)))))
  exact H.retV ⟨_,rfl,by first|omega|(simp only[wHeld,wItem,wSnap,wHelds,wItems,wSnaps,wDisk]at *; omega)⟩
 intro hc6'
 try simp only[nrm]at hc6'
 refine W_skip (N_K (q2 (fA 2 Z (lB 0 H Z3 (mV Z (xc Z2 (w_szSnapS_c _ _ H.sub _ _ hr1'' _ oO) ?_))))))
 rintro _ _ ⟨_,rfl,ew7,⟨_,rfl,_⟩⟩
 skip
 have H:=H.step ew7;refine⟨_,rfl,?_⟩
 refine aG Z (q3 (W_seq (q2 (pe 2 Z (q3 ?_)))))
 refine W_cond Z ?_ ?_
 ·intro hc8
  try simp only[nrm]at hc8
  refine q2 (aG Z (q3 (W_ret (N_K_ret (rt1 results7 Z ?_)))))
  exact H.retV ⟨_,rfl,by first|omega|(simp only[wHeld,wItem,wSnap,wHelds,wItems,wSnaps,wDisk]at *; omega)⟩
 intro hc8'
 try simp only[nrm]at hc8'
 refine W_skip (N_K (q2 (pe 2 Z (q3 (W_ret (rt1 results7 Z ?_))))))
 exact H.retV ⟨_,rfl,by first|omega|(simp only[wHeld,wItem,wSnap,wHelds,wItems,wSnaps,wDisk]at *; omega)⟩
theorem w_eqIntS_c (w0:World)(G0:PH)(hG:PSub G0 w0)(va:Value)(a:List (Int))(ha:RdI G0 va a)(vb:Value)(b:List (Int))(hb:RdI G0 vb b)(hab:a=b) :
  Calls Tryz.prog 138 #[va,vb] w0 (Rets w0 (.bool true)):=by
 obtain⟨aa,ka,rfl⟩:=ha.shape
 have hlima:a.length≤1099511627776:=ha.lim
 obtain⟨ab,kb,rfl⟩:=hb.shape
 have hlimb:b.length≤1099511627776:=hb.lim
 have hle:=congrArg List.length hab
 have H:=Hp.init hG
 refine calls_of_W (l:=[.slice aa a.length ka,.slice ab b.length kb]) func138 Z ntmps138 Z (q2 (aG Z (q3 (W_seq (q2 (mV Z (lN Z (mV Z (lN Z (pe 1 Z (q3 ?_)))))))))))
 refine W_cond Z ?_ ?_
 ·intro hc1
  try simp only[nrm]at hc1
  refine q2 (aG Z (q3 (W_ret (N_K_ret (rt1 results138 Z ?_)))))
  exact absurd (show False from by omega) id
 intro hc1'
 try simp only[nrm]at hc1'
 refine W_skip (N_K (W_seq (q2 (aG Z (q3 (W_block ?_))))))
 refine W_lp (hf:=(Sub.cons (t:=0) Z (Sub.cons (t:=1) Z Sub.nil))) (J:=fun M w m=>∃(k:Nat) (G:PH),M=[(5,.int .i64 (k:Int))]∧PLe G0 G∧Hp w0 G0 [] w G []∧(k≤a.length)∧m=(a.length-k)) (h0:=⟨0,_,Z,PLe.refl _,H,?inv,Z⟩) (round:=?round)
 case inv=>omega
 case round =>
  rintro _ _ _ ⟨k,G2,rfl,hle2,H,hinv2,rfl⟩
  have ha:=ha.up hle2
  have hb:=hb.up hle2
  have hk:=hinv2
  refine W_seq (q2 (pe 2 Z (lN Z (pe 1 Z (q3 ?_)))))
  refine W_cond Z ?_ ?_
  ·intro hc3
   try simp only[nrm]at hc3
   refine W_skip (N_K (W_seq (W_block (W_seq (W_drawK [] 9 H kR Z ?_)))));intro _ H;have hd4:=PLe.refl G2
   refine dE 0 Z2 (dE 1 Z2 ?_)
   have hl5:=ha.len
   obtain⟨_,_,_,_,ha5,hz5,hq5,hE5,hrow5,_⟩:=ha.at (i:=k) oM
   clear hq5
   obtain⟨rfl,_⟩:=hE5
   refine dI 2 1 k ha5 Z3 Z (dP 3 hrow5 0 Z3 (dE 4 Z2 (dE 5 Z2 ?_)))
   have hl6:=hb.len
   obtain⟨_,_,_,_,ha6,hz6,hq6,hE6,hrow6,_⟩:=hb.at (i:=k) oM
   clear hq6
   obtain⟨rfl,_⟩:=hE6
   refine dI 6 1 k ha6 Z3 Z (dP 7 hrow6 0 Z3 (dE 8 Z2 (rz (N_K ?_))))
   refine W_cond Z ?_ ?_
   ·intro hc7
    try simp only[nrm]at hc7
    refine q2 (aG Z (q3 (W_ret (N_B_ret (N_K_ret (N_LP_ret (N_B_ret (N_K_ret (rt1 results138 Z ?_)))))))))
    exact absurd (show False from by first|omega|(exact hc7 (Sp.same_at hab hz5 hz6))) id
   intro hc7'
   try simp only[nrm]at hc7'
   refine W_skip (N_B (N_K (W_region (mV Z (aD Z2 (aG Z (R_nil ?_)))))))
   refine N_lp (hJ:=⟨k+1,_,Z,hle2,H,?inv,Z⟩) (hm:=?hm)
   case hm=>omega
   case inv=>omega
  intro hc3'
  try simp only[nrm]at hc3'
  refine W_exit (N_K_exit (N_LP_exit (N_B_same (N_K (q2 (aG Z (q3 (W_ret (rt1 results138 Z ?_)))))))))
  exact H.rets Z
theorem w_eqHeld_c (w0:World)(G0:PH)(hG:PSub G0 w0)(ca:List Value)(a:BHeld)(ha:heldE G0 a ca)(cb:List Value)(b:BHeld)(hb:heldE G0 b cb)(hab:a=b) :
  Calls Tryz.prog 89 #[.agg ca.toArray,.agg cb.toArray] w0 (Rets w0 (.bool true)):=by
 obtain⟨_,_,_,rfl,_,hr1,_,_,_⟩:=ox ha
 obtain⟨_,_,_,rfl,_,hr2,_,_,_⟩:=ox hb
 have H:=Hp.init hG
 refine calls_of_W (l:=[_,_]) func89 Z ntmps89 Z (q2 (o_box H Z Z Z ?_));intro _ _ _ H
 refine o_box H Z Z Z ?_;intro _ _ _ H
 refine aG Z (q3 (W_seq (q2 (fA 0 Z (lB 1 H Z3 (fA 0 Z (lB 0 H Z3 (pe 1 Z (q3 ?_)))))))))
 refine W_cond Z ?_ ?_
 ·intro hc5
  try simp only[nrm]at hc5
  refine q2 (aG Z (q3 (W_ret (N_K_ret (rt1 results89 Z ?_)))))
  exact absurd (show False from by simp[hab]at hc5) id
 intro hc5'
 try simp only[nrm]at hc5'
 refine W_skip (N_K (W_seq (q2 (fA 1 Z (lB 1 H Z3 (fA 1 Z (lB 0 H Z3 (xr H Z2 (w_eqIntS_c _ _ H.sub _ _ hr1 _ _ hr2 (congrArg BHeld.bytes hab)) ?_))))))));intro _ H
 refine pe 1 Z (q3 (W_false Z (W_skip (N_K (W_seq (q2 (fA 2 Z (lB 1 H Z3 (fA 2 Z (lB 0 H Z3 (pe 1 Z (q3 ?_))))))))))))
 refine W_cond Z ?_ ?_
 ·intro hc7
  try simp only[nrm]at hc7
  refine q2 (aG Z (q3 (W_ret (N_K_ret (rt1 results89 Z ?_)))))
  exact absurd (show False from by simp[hab]at hc7) id
 intro hc7'
 try simp only[nrm]at hc7'
 refine W_skip (N_K (q2 (aG Z (q3 (W_ret (rt1 results89 Z ?_))))))
 exact H.rets Z
theorem w_eqHeldS_c (w0:World)(G0:PH)(hG:PSub G0 w0)(va:Value)(a:List (BHeld))(ha:RdH G0 va a)(vb:Value)(b:List (BHeld))(hb:RdH G0 vb b)(hab:a=b) :
  Calls Tryz.prog 39 #[va,vb] w0 (Rets w0 (.bool true)):=by
 obtain⟨aa,ka,rfl⟩:=ha.shape
 have hlima:a.length≤1099511627776:=ha.lim
 obtain⟨ab,kb,rfl⟩:=hb.shape
 have hlimb:b.length≤1099511627776:=hb.lim
 have hle:=congrArg List.length hab
 have H:=Hp.init hG
 refine calls_of_W (l:=[.slice aa a.length ka,.slice ab b.length kb]) func39 Z ntmps39 Z (q2 (aG Z (q3 (W_seq (q2 (mV Z (lN Z (mV Z (lN Z (pe 1 Z (q3 ?_)))))))))))
 refine W_cond Z ?_ ?_
 ·intro hc1
  try simp only[nrm]at hc1
  refine q2 (aG Z (q3 (W_ret (N_K_ret (rt1 results39 Z ?_)))))
  exact absurd (show False from by omega) id
 intro hc1'
 try simp only[nrm]at hc1'
 refine W_skip (N_K (W_seq (q2 (aG Z (q3 (W_block ?_))))))
 refine W_lp (hf:=(Sub.cons (t:=0) Z (Sub.cons (t:=1) Z Sub.nil))) (J:=fun M w m=>∃(k:Nat) (G:PH),M=[(5,.int .i64 (k:Int))]∧PLe G0 G∧Hp w0 G0 [] w G []∧(k≤a.length)∧m=(a.length-k)) (h0:=⟨0,_,Z,PLe.refl _,H,?inv,Z⟩) (round:=?round)
 case inv=>omega
 case round =>
  rintro _ _ _ ⟨k,G2,rfl,hle2,H,hinv2,rfl⟩
  have ha:=ha.up hle2
  have hb:=hb.up hle2
  have hk:=hinv2
  refine W_seq (q2 (pe 2 Z (lN Z (pe 1 Z (q3 ?_)))))
  refine W_cond Z ?_ ?_
  ·intro hc3
   try simp only[nrm]at hc3
   refine W_skip (N_K (W_seq (W_block (W_seq (W_drawK [] 10 H kR Z ?_)))));intro _ H;have hd4:=PLe.refl G2
   refine dE 0 Z2 (dE 1 Z2 ?_)
   have hl5:=ha.len
   obtain⟨_,_,_,_,ha5,hz5,hq5,hE5,hrow5,_⟩:=ha.at (i:=k) oM
   clear hq5
   obtain⟨_,_,_,rfl,_,hr5,_,_,_⟩:=ox hE5
   refine dI 2 3 k ha5 Z3 Z (RD_t 3 Z kR Z (fun _ hK=>v_loadagg_P hK isAgg113 sizeOf113 Z hrow5 Z) (dE 4 Z2 (dE 5 Z2 ?_)))
   have hl6:=hb.len
   obtain⟨_,_,_,_,ha6,hz6,hq6,hE6,hrow6,_⟩:=hb.at (i:=k) oM
   clear hq6
   obtain⟨_,_,_,rfl,_,hr6,_,_,_⟩:=ox hE6
   refine dI 6 3 k ha6 Z3 Z (RD_t 7 Z kR Z (fun _ hK=>v_loadagg_P hK isAgg113 sizeOf113 Z hrow6 Z) (r1 8 Z ?_))
   refine xr H Z2 (w_eqHeld_c _ _ H.sub _ _ ⟨_,_,_,Z,⟨by first|omega|(dsimp only;omega),by first|omega|(dsimp only;omega)⟩,hr5,⟨by first|omega|(dsimp only;omega),by first|omega|(dsimp only;omega)⟩⟩ _ _ ⟨_,_,_,rfl,⟨by first|omega|(dsimp only;omega),by first|omega|(dsimp only;omega)⟩,hr6,⟨by first|omega|(dsimp only;omega),by first|omega|(dsimp only;omega)⟩⟩ (Sp.same_at hab hz5 hz6)) ?_;intro _ H
   refine q4 H hd4 (dE 9 Z2 (rz (N_K (W_false Z (W_skip (N_B (N_K (W_region (mV Z (aD Z2 (aG Z (R_nil ?_))))))))))))
   refine N_lp (hJ:=⟨k+1,_,Z,hle2,H,?inv,Z⟩) (hm:=?hm)
   case hm=>omega
   case inv=>omega
  intro hc3'
  try simp only[nrm]at hc3'
  refine W_exit (N_K_exit (N_LP_exit (N_B_same (N_K (q2 (aG Z (q3 (W_ret (rt1 results39 Z ?_)))))))))
  exact H.rets Z
theorem w_eqItem_c (w0:World)(G0:PH)(hG:PSub G0 w0)(ca:List Value)(a:BItem)(ha:itemE G0 a ca)(cb:List Value)(b:BItem)(hb:itemE G0 b cb)(hab:a=b) :
  Calls Tryz.prog 90 #[.agg ca.toArray,.agg cb.toArray] w0 (Rets w0 (.bool true)):=by
 obtain⟨_,_,_,rfl,_,hr1,_,_⟩:=ox ha
 obtain⟨_,_,_,rfl,_,hr2,_,_⟩:=ox hb
 have H:=Hp.init hG
 refine calls_of_W (l:=[_,_]) func90 Z ntmps90 Z (q2 (o_box H Z Z Z ?_));intro _ _ _ H
 refine o_box H Z Z Z ?_;intro _ _ _ H
 refine aG Z (q3 (W_seq (q2 (fA 0 Z (lB 1 H Z3 (fA 0 Z (lB 0 H Z3 (o_sneq Z Z Z (q3 ?_)))))))))
 refine W_cond Z ?_ ?_
 ·intro hc5
  try simp only[nrm]at hc5
  refine q2 (aG Z (q3 (W_ret (N_K_ret (rt1 results90 Z ?_)))))
  exact absurd (show False from by simp[hab]at hc5) id
 intro hc5'
 try simp only[nrm]at hc5'
 refine W_skip (N_K (W_seq (q2 (fA 1 Z (lB 1 H Z3 (fA 1 Z (lB 0 H Z3 (o_bneq underlying4 Z Z Z (q3 ?_)))))))))
 refine W_cond Z ?_ ?_
 ·intro hc6
  try simp only[nrm]at hc6
  refine q2 (aG Z (q3 (W_ret (N_K_ret (rt1 results90 Z ?_)))))
  exact absurd (show False from by simp[hab]at hc6) id
 intro hc6'
 try simp only[nrm]at hc6'
 refine W_skip (N_K (W_seq (q2 (fA 2 Z (lB 1 H Z3 (fA 2 Z (lB 0 H Z3 (xr H Z2 (w_eqIntS_c _ _ H.sub _ _ hr1 _ _ hr2 (congrArg BItem.ids hab)) ?_))))))));intro _ H
 refine pe 1 Z (q3 (W_false Z (W_skip (N_K (q2 (aG Z (q3 (W_ret (rt1 results90 Z ?_)))))))))
 exact H.rets Z
theorem w_eqItemS_c (w0:World)(G0:PH)(hG:PSub G0 w0)(va:Value)(a:List (BItem))(ha:RdItems G0 va a)(vb:Value)(b:List (BItem))(hb:RdItems G0 vb b)(hab:a=b) :
  Calls Tryz.prog 40 #[va,vb] w0 (Rets w0 (.bool true)):=by
 obtain⟨aa,ka,rfl⟩:=ha.shape
 have hlima:a.length≤1099511627776:=ha.lim
 obtain⟨ab,kb,rfl⟩:=hb.shape
 have hlimb:b.length≤1099511627776:=hb.lim
 have hle:=congrArg List.length hab
 have H:=Hp.init hG
 refine calls_of_W (l:=[.slice aa a.length ka,.slice ab b.length kb]) func40 Z ntmps40 Z (q2 (aG Z (q3 (W_seq (q2 (mV Z (lN Z (mV Z (lN Z (pe 1 Z (q3 ?_)))))))))))
 refine W_cond Z ?_ ?_
 ·intro hc1
  try simp only[nrm]at hc1
  refine q2 (aG Z (q3 (W_ret (N_K_ret (rt1 results40 Z ?_)))))
  exact absurd (show False from by omega) id
 intro hc1'
 try simp only[nrm]at hc1'
 refine W_skip (N_K (W_seq (q2 (aG Z (q3 (W_block ?_))))))
 refine W_lp (hf:=(Sub.cons (t:=0) Z (Sub.cons (t:=1) Z Sub.nil))) (J:=fun M w m=>∃(k:Nat) (G:PH),M=[(5,.int .i64 (k:Int))]∧PLe G0 G∧Hp w0 G0 [] w G []∧(k≤a.length)∧m=(a.length-k)) (h0:=⟨0,_,Z,PLe.refl _,H,?inv,Z⟩) (round:=?round)
 case inv=>omega
 case round =>
  rintro _ _ _ ⟨k,G2,rfl,hle2,H,hinv2,rfl⟩
  have ha:=ha.up hle2
  have hb:=hb.up hle2
  have hk:=hinv2
  refine W_seq (q2 (pe 2 Z (lN Z (pe 1 Z (q3 ?_)))))
  refine W_cond Z ?_ ?_
  ·intro hc3
   try simp only[nrm]at hc3
   refine W_skip (N_K (W_seq (W_block (W_seq (W_drawK [] 10 H kR Z ?_)))));intro _ H;have hd4:=PLe.refl G2
   refine dE 0 Z2 (dE 1 Z2 ?_)
   have hl5:=ha.len
   obtain⟨_,_,_,_,ha5,hz5,hq5,hE5,hrow5,_⟩:=ha.at (i:=k) oM
   clear hq5
   obtain⟨_,_,_,rfl,hi5,hr5,_,_⟩:=ox hE5
   refine dI 2 3 k ha5 Z3 Z (RD_t 3 Z kR Z (fun _ hK=>v_loadagg_P hK isAgg51 sizeOf51 Z hrow5 Z) (dE 4 Z2 (dE 5 Z2 ?_)))
   have hl6:=hb.len
   obtain⟨_,_,_,_,ha6,hz6,hq6,hE6,hrow6,_⟩:=hb.at (i:=k) oM
   clear hq6
   obtain⟨_,_,_,rfl,hi6,hr6,_,_⟩:=ox hE6
   refine dI 6 3 k ha6 Z3 Z (RD_t 7 Z kR Z (fun _ hK=>v_loadagg_P hK isAgg51 sizeOf51 Z hrow6 Z) (r1 8 Z (xr H Z2 (w_eqItem_c _ _ H.sub _ _ ⟨_,_,_,Z,hi5,hr5⟩ _ _ ⟨_,_,_,Z,hi6,hr6⟩ (Sp.same_at hab hz5 hz6)) ?_)));intro _ H
   refine q4 H hd4 (dE 9 Z2 (rz (N_K (W_false Z (W_skip (N_B (N_K (W_region (mV Z (aD Z2 (aG Z (R_nil ?_))))))))))))
   refine N_lp (hJ:=⟨k+1,_,Z,hle2,H,?inv,Z⟩) (hm:=?hm)
   case hm=>omega
   case inv=>omega
  intro hc3'
  try simp only[nrm]at hc3'
  refine W_exit (N_K_exit (N_LP_exit (N_B_same (N_K (q2 (aG Z (q3 (W_ret (rt1 results40 Z ?_)))))))))
  exact H.rets Z
theorem w_eqSnap_c (w0:World)(G0:PH)(hG:PSub G0 w0)(ca:List Value)(a:BSnap)(ha:snapE G0 a ca)(cb:List Value)(b:BSnap)(hb:snapE G0 b cb)(hab:a=b) :
  Calls Tryz.prog 91 #[.agg ca.toArray,.agg cb.toArray] w0 (Rets w0 (.bool true)):=by
 obtain⟨_,_,_,rfl,_,hr1,_,_⟩:=ox ha
 obtain⟨_,_,_,rfl,_,hr2,_,_⟩:=ox hb
 have H:=Hp.init hG
 refine calls_of_W (l:=[_,_]) func91 Z ntmps91 Z (q2 (o_box H Z Z Z ?_));intro _ _ _ H
 refine o_box H Z Z Z ?_;intro _ _ _ H
 refine aG Z (q3 (W_seq (q2 (fA 0 Z (lB 1 H Z3 (fA 0 Z (lB 0 H Z3 (o_sneq Z Z Z (q3 ?_)))))))))
 refine W_cond Z ?_ ?_
 ·intro hc5
  try simp only[nrm]at hc5
  refine q2 (aG Z (q3 (W_ret (N_K_ret (rt1 results91 Z ?_)))))
  exact absurd (show False from by simp[hab]at hc5) id
 intro hc5'
 try simp only[nrm]at hc5'
 refine W_skip (N_K (W_seq (q2 (fA 1 Z (lB 1 H Z3 (fA 1 Z (lB 0 H Z3 (xr H Z2 (w_eqItemS_c _ _ H.sub _ _ hr1 _ _ hr2 (congrArg BSnap.tree hab)) ?_))))))));intro _ H
 refine pe 1 Z (q3 (W_false Z (W_skip (N_K (q2 (aG Z (q3 (W_ret (rt1 results91 Z ?_)))))))))
 exact H.rets Z
theorem w_eqSnapS_c (w0:World)(G0:PH)(hG:PSub G0 w0)(va:Value)(a:List (BSnap))(ha:RdSn G0 va a)(vb:Value)(b:List (BSnap))(hb:RdSn G0 vb b)(hab:a=b) :
  Calls Tryz.prog 41 #[va,vb] w0 (Rets w0 (.bool true)):=by
 obtain⟨aa,ka,rfl⟩:=ha.shape
 have hlima:a.length≤1099511627776:=ha.lim
 obtain⟨ab,kb,rfl⟩:=hb.shape
 have hlimb:b.length≤1099511627776:=hb.lim
 have hle:=congrArg List.length hab
 have H:=Hp.init hG
 refine calls_of_W (l:=[.slice aa a.length ka,.slice ab b.length kb]) func41 Z ntmps41 Z (q2 (aG Z (q3 (W_seq (q2 (mV Z (lN Z (mV Z (lN Z (pe 1 Z (q3 ?_)))))))))))
 refine W_cond Z ?_ ?_
 ·intro hc1
  try simp only[nrm]at hc1
  refine q2 (aG Z (q3 (W_ret (N_K_ret (rt1 results41 Z ?_)))))
  exact absurd (show False from by omega) id
 intro hc1'
 try simp only[nrm]at hc1'
 refine W_skip (N_K (W_seq (q2 (aG Z (q3 (W_block ?_))))))
 refine W_lp (hf:=(Sub.cons (t:=0) Z (Sub.cons (t:=1) Z Sub.nil))) (J:=fun M w m=>∃(k:Nat) (G:PH),M=[(5,.int .i64 (k:Int))]∧PLe G0 G∧Hp w0 G0 [] w G []∧(k≤a.length)∧m=(a.length-k)) (h0:=⟨0,_,Z,PLe.refl _,H,?inv,Z⟩) (round:=?round)
 case inv=>omega
 case round =>
  rintro _ _ _ ⟨k,G2,rfl,hle2,H,hinv2,rfl⟩
  have ha:=ha.up hle2
  have hb:=hb.up hle2
  have hk:=hinv2
  refine W_seq (q2 (pe 2 Z (lN Z (pe 1 Z (q3 ?_)))))
  refine W_cond Z ?_ ?_
  ·intro hc3
   try simp only[nrm]at hc3
   refine W_skip (N_K (W_seq (W_block (W_seq (W_drawK [] 10 H kR Z ?_)))));intro _ H;have hd4:=PLe.refl G2
   refine dE 0 Z2 (dE 1 Z2 ?_)
   have hl5:=ha.len
   obtain⟨_,_,_,_,ha5,hz5,hq5,hE5,hrow5,_⟩:=ha.at (i:=k) oM
   clear hq5
   obtain⟨_,_,_,rfl,hi5,hr5,_,_⟩:=ox hE5
   refine dI 2 2 k ha5 Z3 Z (RD_t 3 Z kR Z (fun _ hK=>v_loadagg_P hK isAgg91 sizeOf91 Z hrow5 Z) (dE 4 Z2 (dE 5 Z2 ?_)))
   have hl6:=hb.len
   obtain⟨_,_,_,_,ha6,hz6,hq6,hE6,hrow6,_⟩:=hb.at (i:=k) oM
   clear hq6
   obtain⟨_,_,_,rfl,hi6,hr6,_,_⟩:=ox hE6
   refine dI 6 2 k ha6 Z3 Z (RD_t 7 Z kR Z (fun _ hK=>v_loadagg_P hK isAgg91 sizeOf91 Z hrow6 Z) (r1 8 Z (xr H Z2 (w_eqSnap_c _ _ H.sub _ _ ⟨_,_,_,Z,hi5,hr5⟩ _ _ ⟨_,_,_,Z,hi6,hr6⟩ (Sp.same_at hab hz5 hz6)) ?_)));intro _ H
   refine q4 H hd4 (dE 9 Z2 (rz (N_K (W_false Z (W_skip (N_B (N_K (W_region (mV Z (aD Z2 (aG Z (R_nil ?_))))))))))))
   refine N_lp (hJ:=⟨k+1,_,Z,hle2,H,?inv,Z⟩) (hm:=?hm)
   case hm=>omega
   case inv=>omega
  intro hc3'
  try simp only[nrm]at hc3'
  refine W_exit (N_K_exit (N_LP_exit (N_B_same (N_K (q2 (aG Z (q3 (W_ret (rt1 results41 Z ?_)))))))))
  exact H.rets Z
theorem w_eqDisk_c (w0:World)(G0:PH)(hG:PSub G0 w0)(ca:List Value)(a:BDisk)(ha:diskE G0 a ca)(cb:List Value)(b:BDisk)(hb:diskE G0 b cb)(hab:a=b) :
  Calls Tryz.prog 11 #[.agg ca.toArray,.agg cb.toArray] w0 (Rets w0 (.bool true)):=by
 obtain⟨_,_,_,_,_,_,_,_,_,rfl,hr1,hr1',hr1'',⟨_,_⟩,⟨_,_⟩,_,_⟩:=ox ha
 obtain⟨_,_,_,_,_,_,_,_,_,rfl,hr2,hr2',hr2'',⟨_,_⟩,⟨_,_⟩,_,_⟩:=ox hb
 have H:=Hp.init hG
 refine calls_of_W (l:=[_,_]) func11 Z ntmps11 Z (q2 (o_box H Z Z Z ?_));intro _ _ _ H
 refine o_box H Z Z Z ?_;intro _ _ _ H
 refine aG Z (q3 (W_seq (q2 (fA 0 Z (lB 1 H Z3 (fA 0 Z (lB 0 H Z3 (xr H Z2 (w_eqHeldS_c _ _ H.sub _ _ hr1 _ _ hr2 (congrArg BDisk.store hab)) ?_))))))));intro _ H
 refine pe 1 Z (q3 (W_false Z (W_skip (N_K (W_seq (q2 (fA 1 Z (lB 1 H Z3 (fA 1 Z (lB 0 H Z3 (xr H Z2 (w_eqItemS_c _ _ H.sub _ _ hr1' _ _ hr2' (congrArg BDisk.tree hab)) ?_)))))))))));intro _ H
 refine pe 1 Z (q3 (W_false Z (W_skip (N_K (W_seq (q2 (fA 2 Z (lB 1 H Z3 (fA 2 Z (lB 0 H Z3 (xr H Z2 (w_eqSnapS_c _ _ H.sub _ _ hr1'' _ _ hr2'' (congrArg BDisk.snaps hab)) ?_)))))))))));intro _ H
 refine pe 1 Z (q3 (W_false Z (W_skip (N_K (q2 (aG Z (q3 (W_ret (rt1 results11 Z ?_)))))))))
 exact H.rets Z
theorem w_toIntS_c (w0:World)(G0:PH)(hG:PSub G0 w0)(va:Value)(a:List (Int))(ha:RdI G0 va a) :
  Calls Tryz.prog 133 #[va] w0 (RetO w0 G0 (AccOf intE 1 3 a)):=by
 obtain⟨aa,ka,rfl⟩:=ha.shape
 have hlima:a.length≤1099511627776:=ha.lim
 have H:=Hp.init hG
 refine calls_of_W (l:=[.slice aa a.length ka]) func133 Z ntmps133 Z (q2 (aG Z (q1 (mV Z (lN Z (o_makeN (c:=a.length) (sz:=1) (bytes:=8) H underlying49 typeInfo3 ⟨_,Z,Z⟩ Z Z Z Z Z Z Z Z Z oM Z ?_))))));intro _ _ H
 have hchk1:=Chk.rep (E:=intE) (sz:=1) (G:=G0) (x0:=0) (⟨rfl,by decide⟩) rfl (a.length)
 refine aG Z (q3 (W_seq (q2 (aG Z (q3 (W_block ?_))))))
 refine W_lp (hf:=(Sub.cons (t:=0) Z (Sub.cons (t:=2) Z Sub.nil))) (J:=fun M w m=>∃(v:Value) (n:Nat) (cs:List Value) (xs:List (Int)) (k:Nat) (G:PH),M=[(4,.int .i64 (k:Int)),(3,v)]∧PLe G0 G∧Hp w0 G0 [] w G [acc 3 1 v n cs]∧(Chk intE 1 G cs xs∧n=xs.length∧k≤a.length∧xs.length=a.length∧xs.take k=a.take k)∧m=(a.length-k)) (h0:=⟨_,_,_,(List.replicate a.length 0),0,_,Z,PLe.refl _,H,?inv,Z⟩) (round:=?round)
 case inv=>exact⟨hchk1,by first|rfl|simp|(simp;omega)|omega,(by simp)⟩
 case round =>
  rintro _ _ _ ⟨v,n,cs,xs,k,_,rfl,hle2,H,hinv2,rfl⟩
  have ha:=ha.up hle2
  obtain⟨hchk2_0,_,hinv2⟩:=hinv2
  obtain⟨_,_,rfl⟩:=H.accShape (k:=0) rfl
  obtain⟨_,hxl,hxt⟩:=hinv2
  refine W_seq (q2 (pe 2 Z (lN Z (pe 1 Z (q3 ?_)))))
  refine W_cond Z ?_ ?_
  ·intro hc3
   try simp only[nrm]at hc3
   refine W_skip (N_K (W_seq (W_block (W_region (pe 4 Z (iP k ha Z3 Z ?_))))));intro _ _ z4 _ hz4 hE4 hrow4
   obtain⟨rfl,_⟩:=hE4
   refine lP H hrow4 0 Z2 (o_index_A 0 H k Z hchk2_0 underlying49 sizeOf3 Z Z Z Z aN aN ?_);intro _ _ _ hba5 hz5 hE5 _;cases hba5
   obtain⟨rfl,_⟩:=hE5
   have hcl6:=hchk2_0.length
   refine o_store_A 0 H sizeOf3 Z Z Z Z Z (by simp only[vc,List.length_cons,List.length_nil];omega) ?_;intro _ H
   have hchk6:=hchk2_0.put (x':=z4) (off:=0) (vs:=[_]) hz5 (fun cs hl hE=>by obtain⟨rfl,_⟩:=hE;exact⟨rfl,oO⟩) (by simp only[vc,List.length_cons,List.length_nil];omega)
   refine R_nil (N_B (N_K (W_region (mV Z (aD Z2 (aG Z (R_nil ?_)))))))
   refine N_lp (hJ:=⟨_,_,_,(xs.set k z4),k+1,_,Z,hle2,H,?inv,Z⟩) (hm:=?hm)
   case hm=>omega
   case inv=>exact⟨hchk6,aN,(by exact⟨by omega,by simp[hxl],Sp.take_set hxt hxl hz4⟩)⟩
  intro hc3'
  try simp only[nrm]at hc3'
  refine W_exit (N_K_exit (N_LP_exit (N_B_same (N_K (q2 (pe 2 Z (q3 (W_ret (rt1 results133 Z ?_)))))))))
  exact H.retO (k:=0) rfl (by (obtain rfl:k=a.length:=by omega);(have hxx:xs=a:=by (have h9:=hxt;rw[List.take_of_length_le oM,List.take_length]at h9;exact h9));subst hxx;exact AccOf.mk aN hchk2_0) (acc_nd _ _ _ _ _)
theorem w_toHeld_c (w0:World)(G0:PH)(hG:PSub G0 w0)(ca:List Value)(a:BHeld)(ha:heldE G0 a ca) :
  Calls Tryz.prog 82 #[.agg ca.toArray] w0 (RetN w0 G0 (fun v Bs=>∃(F:Fr) (cs:List Value),v= .agg cs.toArray∧Bs=[frag F]∧heldO F a cs)):=by
 obtain⟨_,_,_,rfl,_,hr1,_,_,_⟩:=ox ha
 have H:=Hp.init hG
 refine calls_of_W (l:=[_]) func82 Z ntmps82 Z (q2 (o_box H Z Z Z ?_));intro _ _ _ H
 refine xal H Z ?_;intro _ _ _ H
 refine q1 (xal H Z ?_);intro _ _ _ H
 refine q1 (fA 0 Z (lB 2 H Z3 (fA 0 Z (xst 0 H Z8 ?_))));intro _ H
 refine q1 (fA 1 Z (lB 2 H Z3 (xc Z2 (w_toIntS_c _ _ H.sub _ _ hr1) ?_)))
 rintro _ _ ⟨_,_,_,g6,rfl,⟨_,rfl,hchk6⟩,hp6,hq6,hs6⟩
 have H:=H.growO g6 hp6 hq6 hs6;obtain⟨_,_,rfl⟩:=H.accShape (k:=0) rfl
 refine⟨_,Z,?_⟩
 refine fA 1 Z (xst 1 H Z8 ?_);intro _ H
 refine q1 (fA 2 Z (lB 3 H Z3 (fA 2 Z (xst 1 H Z8 ?_))));intro _ H
 refine q1 (lA 1 3 H Z4 (xst 2 H Z8 ?_));intro _ H
 refine q3 (W_ret (ret_gen (rs:=[.cell 2 113]) (vs:=[_]) results82 ⟨⟨_,Z,load_blk 2 H isAgg113 sizeOf113 Z Z Z⟩,trivial⟩ ?_))
 obtain⟨_,H,hOI1⟩:=H.ownI (k:=0) rfl hchk6 aN aN
 have H:=H.dl 1
 have H:=H.dl 1
 have H:=H.dl 1
 have H:=H.forget hG (by simp)
 exact⟨_,_,Z,H,_,_,Z,Z,⟨_,_,_,Z,oO,hOI1,oO⟩⟩
theorem w_toItem_c (w0:World)(G0:PH)(hG:PSub G0 w0)(ca:List Value)(a:BItem)(ha:itemE G0 a ca) :
  Calls Tryz.prog 83 #[.agg ca.toArray] w0 (RetN w0 G0 (fun v Bs=>∃(F:Fr) (cs:List Value),v= .agg cs.toArray∧Bs=[frag F]∧itemO F a cs)):=by
 obtain⟨_,_,_,rfl,hi1,hr1,_,_⟩:=ox ha
 have H:=Hp.init hG
 refine calls_of_W (l:=[_]) func83 Z ntmps83 Z (q2 (o_box H Z Z Z ?_));intro _ _ _ H
 refine xal H Z ?_;intro _ _ _ H
 refine q1 (xal H Z ?_);intro _ _ _ H
 refine q1 (fA 0 Z (lB 2 H Z3 (fA 0 Z (xst 0 H Z8 ?_))));intro _ H
 refine q1 (fA 1 Z (lB 2 H Z3 (fA 1 Z (xst 0 H Z8 ?_))));intro _ H
 refine q1 (fA 2 Z (lB 2 H Z3 (xc Z2 (w_toIntS_c _ _ H.sub _ _ hr1) ?_)))
 rintro _ _ ⟨_,_,_,g7,rfl,⟨_,rfl,hchk7⟩,hp7,hq7,hs7⟩
 have H:=H.growO g7 hp7 hq7 hs7;obtain⟨_,_,rfl⟩:=H.accShape (k:=0) rfl
 refine⟨_,Z,?_⟩
 refine fA 2 Z (xst 1 H Z8 ?_);intro _ H
 refine q1 (lA 1 3 H Z4 (xst 2 H Z8 ?_));intro _ H
 refine q3 (W_ret (ret_gen (rs:=[.cell 2 51]) (vs:=[_]) results83 ⟨⟨_,Z,load_blk 2 H isAgg51 sizeOf51 Z Z Z⟩,trivial⟩ ?_))
 obtain⟨_,H,hOI1⟩:=H.ownI (k:=0) rfl hchk7 aN aN
 have H:=H.dl 1
 have H:=H.dl 1
 have H:=H.dl 1
 have H:=H.forget hG (by simp)
 exact⟨_,_,Z,H,_,_,Z,Z,⟨_,_,_,Z,hi1,hOI1⟩⟩
theorem w_toHeldS_c (w0:World)(G0:PH)(hG:PSub G0 w0)(va:Value)(a:List (BHeld))(ha:RdH G0 va a) :
  Calls Tryz.prog 33 #[va] w0 (RetN w0 G0 (fun v Bs=>∃(F:Fr),Bs=[frag F]∧OHs F v a)):=by
 obtain⟨aa,ka,rfl⟩:=ha.shape
 have hlima:a.length≤1099511627776:=ha.lim
 have H:=Hp.init hG
 refine calls_of_W (l:=[.slice aa a.length ka]) func33 Z ntmps33 Z (q2 (aG Z (q1 (mV Z (lN Z (o_makeN (c:=a.length) (sz:=3) (bytes:=40) H underlying28 typeInfo113 ⟨_,Z,Z⟩ Z Z Z Z Z Z Z Z Z oM Z ?_))))));intro _ _ H
 have hchk1:=Chk.rep (E:=heldE) (sz:=3) (G:=G0) (x0:=⟨0,[],0⟩) (zeroHeld _) rfl (a.length)
 refine aG Z (q3 (W_seq (q2 (aG Z (q3 (W_block ?_))))))
 have H:=H.addF
 refine W_lp (hf:=(Sub.cons (t:=0) Z (Sub.cons (t:=2) Z Sub.nil))) (J:=fun M w m=>∃(v:Value) (n:Nat) (cs:List Value) (xs:List (BHeld)) (F:Fr) (k:Nat) (G:PH),M=[(4,.int .i64 (k:Int)),(3,v)]∧PLe G0 G∧Hp w0 G0 [] w G [frag F,acc 113 3 v n cs]∧(ChkF heldO 3 cs xs F∧n=xs.length∧k≤a.length∧xs.length=a.length∧xs.take k=a.take k)∧m=(a.length-k)) (h0:=⟨_,_,_,(List.replicate a.length ⟨0,[],0⟩),[],0,_,Z,PLe.refl _,H,?inv,Z⟩) (round:=?round)
 case inv=>exact⟨(ChkF.rep zeroHeldO rfl (a.length)),by first|rfl|simp|(simp;omega)|omega,(by simp)⟩
 case round =>
  rintro _ _ _ ⟨v,n,cs,xs,F,k,_,rfl,hle2,H,hinv2,rfl⟩
  have ha:=ha.up hle2
  obtain⟨hchk2_0,_,hinv2⟩:=hinv2
  obtain⟨_,_,rfl⟩:=H.accShape (k:=1) rfl
  obtain⟨_,hxl,hxt⟩:=hinv2
  refine W_seq (q2 (pe 2 Z (lN Z (pe 1 Z (q3 ?_)))))
  refine W_cond Z ?_ ?_
  ·intro hc3
   try simp only[nrm]at hc3
   refine W_skip (N_K (W_seq (W_block (W_region (pe 4 Z (iP k ha Z3 Z ?_))))));intro _ _ z4 _ hz4 hE4 hrow4
   obtain⟨_,_,_,rfl,_,hr4,_,_,_⟩:=ox hE4
   refine o_loadagg_P H isAgg102 sizeOf102 Z Z hrow4 Z ?_
   refine xc Z2 (w_toHeld_c _ _ H.sub _ _ ⟨_,_,_,Z,⟨by first|omega|(dsimp only;omega),by first|omega|(dsimp only;omega)⟩,hr4,⟨by first|omega|(dsimp only;omega),by first|omega|(dsimp only;omega)⟩⟩) ?_
   rintro _ _ ⟨_,_,rfl,H5',⟨F5,_,rfl,rfl,hO5⟩⟩
   have H:=H.readers (fp:=[]) (by simp) (PLe.refl _) H5'
   obtain⟨_,_,_,rfl,_,ho5,_⟩:=hO5
   refine⟨_,Z,?_⟩
   obtain⟨z6,hz6⟩:∃z,xs[k]? = some z:=⟨_,List.getElem?_eq_getElem aN⟩
   obtain⟨_,P6,_,Q6,hF6,_,hE6,_,hput6,hpu06⟩:=(hchk2_0).focus hz6
   rw[hF6]at H
   refine o_index_F 2 H k Z underlying28 sizeOf113 Z Z Z Z aN ?_;intro _ hba6;cases hba6
   obtain⟨_,_,_,rfl,hi6,ho6,hj6⟩:=hE6
   have hbk6:ChkF heldO 3 _ (xs.set k z6) _:=hpu06 _ z6 (show heldO _ _ _ from⟨_,_,_,rfl,hi6,ho6,hj6⟩)
   have hsame6:xs.set k z6=xs:=Fw.set_same hz6;rw[hsame6]at hbk6
   have hcl7:=(hbk6).length
   have hlt7:k<xs.length:=(List.getElem?_eq_some_iff.1 hz6).1
   try simp only[length_setCs,List.length_set]at hcl7
   try simp only[List.length_set]at hlt7
   refine o_store_A 2 H sizeOf113 Z Z Z Z Z (by simp only[vc,List.length_cons,List.length_nil,length_setCs];omega) ?_;intro _ H
   have H:=H.tF 1
   have H:=H.outFi;have H:=H.del (k:=0) rfl
   have H:=H.tF 2
   have H:=H.toFront (k:=2) rfl;have H:=H.toFront (k:=2) rfl;have H:=H.toFront (k:=2) rfl
   have H:=H.inFi
   have hchk7:=hput6 F5 z4 0 [_,_,_] (by simp) (show heldO _ _ _ from⟨_,_,_,rfl,⟨by first|omega|(dsimp only;omega),by first|omega|(dsimp only;omega)⟩,ho5,⟨by first|omega|(dsimp only;omega),by first|omega|(dsimp only;omega)⟩⟩)
   refine R_nil (N_B (N_K (W_region (mV Z (aD Z2 (aG Z (R_nil ?_)))))))
   refine N_lp (hJ:=⟨_,_,_,(xs.set k z4),(P6++(F5++Q6)),k+1,_,Z,hle2,H,?inv,Z⟩) (hm:=?hm)
   case hm=>omega
   case inv=>exact⟨hchk7,aN,(by exact⟨by omega,by simp[hxl],Sp.take_set hxt hxl hz4⟩)⟩
  intro hc3'
  try simp only[nrm]at hc3'
  refine W_exit (N_K_exit (N_LP_exit (N_B_same (N_K (q2 (pe 2 Z (q3 (W_ret (rt1 results33 Z ?_)))))))))
  have hke:k=a.length:=by omega
  have hxx:xs=a:=by (have h9:=hxt;rw[hke,List.take_of_length_le oM,List.take_length]at h9;exact h9)
  have H:=H.tF 1
  obtain⟨_,H,hOw2⟩:=H.ownF hchk2_0 aN aN
  have H:=H.forget hG (by simp)
  exact⟨_,_,Z,H,_,Z,hxx▸⟨_,hOw2⟩⟩
theorem w_toItemS_c (w0:World)(G0:PH)(hG:PSub G0 w0)(va:Value)(a:List (BItem))(ha:RdItems G0 va a) :
  Calls Tryz.prog 34 #[va] w0 (RetN w0 G0 (fun v Bs=>∃(F:Fr),Bs=[frag F]∧OIs F v a)):=by
 obtain⟨aa,ka,rfl⟩:=ha.shape
 have hlima:a.length≤1099511627776:=ha.lim
 have H:=Hp.init hG
 refine calls_of_W (l:=[.slice aa a.length ka]) func34 Z ntmps34 Z (q2 (aG Z (q1 (mV Z (lN Z (o_makeN (c:=a.length) (sz:=3) (bytes:=48) H underlying29 typeInfo51 ⟨_,Z,Z⟩ Z Z Z Z Z Z Z Z Z oM Z ?_))))));intro _ _ H
 have hchk1:=Chk.rep (E:=itemE) (sz:=3) (G:=G0) (x0:=⟨[],false,[]⟩) (itemE.mk (by decide) (RdS.nil _ _ _)) rfl (a.length)
 refine aG Z (q3 (W_seq (q2 (aG Z (q3 (W_block ?_))))))
 have H:=H.addF
 refine W_lp (hf:=(Sub.cons (t:=0) Z (Sub.cons (t:=2) Z Sub.nil))) (J:=fun M w m=>∃(v:Value) (n:Nat) (cs:List Value) (xs:List (BItem)) (F:Fr) (k:Nat) (G:PH),M=[(4,.int .i64 (k:Int)),(3,v)]∧PLe G0 G∧Hp w0 G0 [] w G [frag F,acc 51 3 v n cs]∧(ChkF itemO 3 cs xs F∧n=xs.length∧k≤a.length∧xs.length=a.length∧xs.take k=a.take k)∧m=(a.length-k)) (h0:=⟨_,_,_,(List.replicate a.length ⟨[],false,[]⟩),[],0,_,Z,PLe.refl _,H,?inv,Z⟩) (round:=?round)
 case inv=>exact⟨(ChkF.rep zeroItemO rfl (a.length)),by first|rfl|simp|(simp;omega)|omega,(by simp)⟩
 case round =>
  rintro _ _ _ ⟨v,n,cs,xs,F,k,_,rfl,hle2,H,hinv2,rfl⟩
  have ha:=ha.up hle2
  obtain⟨hchk2_0,_,hinv2⟩:=hinv2
  obtain⟨_,_,rfl⟩:=H.accShape (k:=1) rfl
  obtain⟨_,hxl,hxt⟩:=hinv2
  refine W_seq (q2 (pe 2 Z (lN Z (pe 1 Z (q3 ?_)))))
  refine W_cond Z ?_ ?_
  ·intro hc3
   try simp only[nrm]at hc3
   refine W_skip (N_K (W_seq (W_block (W_region (pe 4 Z (iP k ha Z3 Z ?_))))));intro _ _ z4 _ hz4 hE4 hrow4
   obtain⟨_,_,_,rfl,hi4,hr4,_,_⟩:=ox hE4
   refine o_loadagg_P H isAgg104 sizeOf104 Z Z hrow4 Z (xc Z2 (w_toItem_c _ _ H.sub _ _ ⟨_,_,_,Z,hi4,hr4⟩) ?_)
   rintro _ _ ⟨_,_,rfl,H5',⟨F5,_,rfl,rfl,hO5⟩⟩
   have H:=H.readers (fp:=[]) (by simp) (PLe.refl _) H5'
   obtain⟨_,_,_,rfl,hi5,ho5⟩:=hO5
   refine⟨_,Z,?_⟩
   obtain⟨z6,hz6⟩:∃z,xs[k]? = some z:=⟨_,List.getElem?_eq_getElem aN⟩
   obtain⟨_,P6,_,Q6,hF6,_,hE6,_,hput6,hpu06⟩:=(hchk2_0).focus hz6
   rw[hF6]at H
   refine o_index_F 2 H k Z underlying29 sizeOf51 Z Z Z Z aN ?_;intro _ hba6;cases hba6
   obtain⟨_,_,_,rfl,hi6,ho6⟩:=hE6;have hy_hi6:_≤16777216:=hi6
   have hbk6:ChkF itemO 3 _ (xs.set k z6) _:=hpu06 _ z6 (show itemO _ _ _ from⟨_,_,_,rfl,hi6,ho6⟩)
   have hsame6:xs.set k z6=xs:=Fw.set_same hz6;rw[hsame6]at hbk6
   have hcl7:=(hbk6).length
   have hlt7:k<xs.length:=(List.getElem?_eq_some_iff.1 hz6).1
   try simp only[length_setCs,List.length_set]at hcl7
   try simp only[List.length_set]at hlt7
   refine o_store_A 2 H sizeOf51 Z Z Z Z Z (by simp only[vc,List.length_cons,List.length_nil,length_setCs];omega) ?_;intro _ H
   have H:=H.tF 1
   have H:=H.outFi;have H:=H.del (k:=0) rfl
   have H:=H.tF 2
   have H:=H.toFront (k:=2) rfl;have H:=H.toFront (k:=2) rfl;have H:=H.toFront (k:=2) rfl
   have H:=H.inFi
   have hchk7:=hput6 F5 z4 0 [_,_,_] (by simp) (show itemO _ _ _ from⟨_,_,_,rfl,hi5,ho5⟩)
   refine R_nil (N_B (N_K (W_region (mV Z (aD Z2 (aG Z (R_nil ?_)))))))
   refine N_lp (hJ:=⟨_,_,_,(xs.set k z4),(P6++(F5++Q6)),k+1,_,Z,hle2,H,?inv,Z⟩) (hm:=?hm)
   case hm=>omega
   case inv=>exact⟨hchk7,aN,(by exact⟨by omega,by simp[hxl],Sp.take_set hxt hxl hz4⟩)⟩
  intro hc3'
  try simp only[nrm]at hc3'
  refine W_exit (N_K_exit (N_LP_exit (N_B_same (N_K (q2 (pe 2 Z (q3 (W_ret (rt1 results34 Z ?_)))))))))
  have hke:k=a.length:=by omega
  have hxx:xs=a:=by (have h9:=hxt;rw[hke,List.take_of_length_le oM,List.take_length]at h9;exact h9)
  have H:=H.tF 1
  obtain⟨_,H,hOw2⟩:=H.ownF hchk2_0 aN aN
  have H:=H.forget hG (by simp)
  exact⟨_,_,Z,H,_,Z,hxx▸⟨_,hOw2⟩⟩
theorem w_toSnap_c (w0:World)(G0:PH)(hG:PSub G0 w0)(ca:List Value)(a:BSnap)(ha:snapE G0 a ca) :
  Calls Tryz.prog 84 #[.agg ca.toArray] w0 (RetN w0 G0 (fun v Bs=>∃(F:Fr) (cs:List Value),v= .agg cs.toArray∧Bs=[frag F]∧snapO F a cs)):=by
 obtain⟨_,_,_,rfl,hi1,hr1,_,_⟩:=ox ha
 have H:=Hp.init hG
 refine calls_of_W (l:=[_]) func84 Z ntmps84 Z (q2 (o_box H Z Z Z ?_));intro _ _ _ H
 refine xal H Z ?_;intro _ _ _ H
 refine q1 (xal H Z ?_);intro _ _ _ H
 refine q1 (fA 0 Z (lB 2 H Z3 (fA 0 Z (xst 0 H Z8 ?_))));intro _ H
 refine q1 (fA 1 Z (lB 2 H Z3 (xc Z2 (w_toItemS_c _ _ H.sub _ _ hr1) ?_)))
 rintro _ _ ⟨_,_,rfl,H6',⟨_,rfl,hO6⟩⟩
 have H:=H.readers (fp:=[]) (by simp) (PLe.refl _) H6'
 obtain⟨_,hP6⟩:=hO6
 obtain⟨_,_,rfl⟩:=OwnS.shape hP6
 have hO6:=OIs.mk hP6
 refine⟨_,Z,?_⟩
 refine fA 1 Z (xst 1 H Z8 ?_);intro _ H
 refine q1 (lA 1 2 H Z4 (xst 2 H Z8 ?_));intro _ H
 refine q3 (W_ret (ret_gen (rs:=[.cell 2 91]) (vs:=[_]) results84 ⟨⟨_,Z,load_blk 2 H isAgg91 sizeOf91 Z Z Z⟩,trivial⟩ ?_))
 have H:=H.dl 1
 have H:=H.dl 1
 have H:=H.dl 1
 have H:=H.forget hG (by simp)
 exact⟨_,_,Z,H,_,_,Z,Z,⟨_,_,_,Z,hi1,hO6⟩⟩
theorem w_toSnapS_c (w0:World)(G0:PH)(hG:PSub G0 w0)(va:Value)(a:List (BSnap))(ha:RdSn G0 va a) :
  Calls Tryz.prog 35 #[va] w0 (RetN w0 G0 (fun v Bs=>∃(F:Fr),Bs=[frag F]∧OSn F v a)):=by
 obtain⟨aa,ka,rfl⟩:=ha.shape
 have hlima:a.length≤1099511627776:=ha.lim
 have H:=Hp.init hG
 refine calls_of_W (l:=[.slice aa a.length ka]) func35 Z ntmps35 Z (q2 (aG Z (q1 (mV Z (lN Z (o_makeN (c:=a.length) (sz:=2) (bytes:=40) H underlying30 typeInfo91 ⟨_,Z,Z⟩ Z Z Z Z Z Z Z Z Z oM Z ?_))))));intro _ _ H
 have hchk1:=Chk.rep (E:=snapE) (sz:=2) (G:=G0) (x0:=⟨[],[]⟩) (⟨_,_,_,rfl,by decide,RdS.nil _ _ _⟩) rfl (a.length)
 refine aG Z (q3 (W_seq (q2 (aG Z (q3 (W_block ?_))))))
 have H:=H.addF
 refine W_lp (hf:=(Sub.cons (t:=0) Z (Sub.cons (t:=2) Z Sub.nil))) (J:=fun M w m=>∃(v:Value) (n:Nat) (cs:List Value) (xs:List (BSnap)) (F:Fr) (k:Nat) (G:PH),M=[(4,.int .i64 (k:Int)),(3,v)]∧PLe G0 G∧Hp w0 G0 [] w G [frag F,acc 91 2 v n cs]∧(ChkF snapO 2 cs xs F∧n=xs.length∧k≤a.length∧xs.length=a.length∧xs.take k=a.take k)∧m=(a.length-k)) (h0:=⟨_,_,_,(List.replicate a.length ⟨[],[]⟩),[],0,_,Z,PLe.refl _,H,?inv,Z⟩) (round:=?round)
 case inv=>exact⟨(ChkF.rep zeroSnapO rfl (a.length)),by first|rfl|simp|(simp;omega)|omega,(by simp)⟩
 case round =>
  rintro _ _ _ ⟨v,n,cs,xs,F,k,_,rfl,hle2,H,hinv2,rfl⟩
  have ha:=ha.up hle2
  obtain⟨hchk2_0,_,hinv2⟩:=hinv2
  obtain⟨_,_,rfl⟩:=H.accShape (k:=1) rfl
  obtain⟨_,hxl,hxt⟩:=hinv2
  refine W_seq (q2 (pe 2 Z (lN Z (pe 1 Z (q3 ?_)))))
  refine W_cond Z ?_ ?_
  ·intro hc3
   try simp only[nrm]at hc3
   refine W_skip (N_K (W_seq (W_block (W_region (pe 4 Z (iP k ha Z3 Z ?_))))));intro _ _ z4 _ hz4 hE4 hrow4
   obtain⟨_,_,_,rfl,hi4,hr4,_,_⟩:=ox hE4
   refine o_loadagg_P H isAgg107 sizeOf107 Z Z hrow4 Z (xc Z2 (w_toSnap_c _ _ H.sub _ _ ⟨_,_,_,Z,hi4,hr4⟩) ?_)
   rintro _ _ ⟨_,_,rfl,H5',⟨F5,_,rfl,rfl,hO5⟩⟩
   have H:=H.readers (fp:=[]) (by simp) (PLe.refl _) H5'
   obtain⟨_,_,_,rfl,hi5,ho5⟩:=hO5
   refine⟨_,Z,?_⟩
   obtain⟨z6,hz6⟩:∃z,xs[k]? = some z:=⟨_,List.getElem?_eq_getElem aN⟩
   obtain⟨_,P6,_,Q6,hF6,_,hE6,_,hput6,hpu06⟩:=(hchk2_0).focus hz6
   rw[hF6]at H
   refine o_index_F 2 H k Z underlying30 sizeOf91 Z Z Z Z aN ?_;intro _ hba6;cases hba6
   obtain⟨_,_,_,rfl,hi6,ho6⟩:=hE6;have hy_hi6:_≤16777216:=hi6
   have hbk6:ChkF snapO 2 _ (xs.set k z6) _:=hpu06 _ z6 (show snapO _ _ _ from⟨_,_,_,rfl,hi6,ho6⟩)
   have hsame6:xs.set k z6=xs:=Fw.set_same hz6;rw[hsame6]at hbk6
   have hcl7:=(hbk6).length
   have hlt7:k<xs.length:=(List.getElem?_eq_some_iff.1 hz6).1
   try simp only[length_setCs,List.length_set]at hcl7
   try simp only[List.length_set]at hlt7
   refine o_store_A 2 H sizeOf91 Z Z Z Z Z (by simp only[vc,List.length_cons,List.length_nil,length_setCs];omega) ?_;intro _ H
   have H:=H.tF 1
   have H:=H.outFi;have H:=H.del (k:=0) rfl
   have H:=H.tF 2
   have H:=H.toFront (k:=2) rfl;have H:=H.toFront (k:=2) rfl;have H:=H.toFront (k:=2) rfl
   have H:=H.inFi
   have hchk7:=hput6 F5 z4 0 [_,_] (by simp) (show snapO _ _ _ from⟨_,_,_,rfl,hi5,ho5⟩)
   refine R_nil (N_B (N_K (W_region (mV Z (aD Z2 (aG Z (R_nil ?_)))))))
   refine N_lp (hJ:=⟨_,_,_,(xs.set k z4),(P6++(F5++Q6)),k+1,_,Z,hle2,H,?inv,Z⟩) (hm:=?hm)
   case hm=>omega
   case inv=>exact⟨hchk7,aN,(by exact⟨by omega,by simp[hxl],Sp.take_set hxt hxl hz4⟩)⟩
  intro hc3'
  try simp only[nrm]at hc3'
  refine W_exit (N_K_exit (N_LP_exit (N_B_same (N_K (q2 (pe 2 Z (q3 (W_ret (rt1 results35 Z ?_)))))))))
  have hke:k=a.length:=by omega
  have hxx:xs=a:=by (have h9:=hxt;rw[hke,List.take_of_length_le oM,List.take_length]at h9;exact h9)
  have H:=H.tF 1
  obtain⟨_,H,hOw2⟩:=H.ownF hchk2_0 aN aN
  have H:=H.forget hG (by simp)
  exact⟨_,_,Z,H,_,Z,hxx▸⟨_,hOw2⟩⟩
theorem w_toDisk_c (w0:World)(G0:PH)(hG:PSub G0 w0)(ca:List Value)(a:BDisk)(ha:diskE G0 a ca) :
  Calls Tryz.prog 9 #[.agg ca.toArray] w0 (RetN w0 G0 (fun v Bs=>∃(v1 v2 v3:Value) (F1 F2 F3:Fr),v= .agg #[v1,v2,v3]∧Bs=[frag F1,frag F2,frag F3]∧OHs F1 v1 a.store∧OIs F2 v2 a.tree∧OSn F3 v3 a.snaps)):=by
 obtain⟨_,_,_,_,_,_,_,_,_,rfl,hr1,hr1',hr1'',⟨_,_⟩,⟨_,_⟩,_,_⟩:=ox ha
 have H:=Hp.init hG
 refine calls_of_W (l:=[_]) func9 Z ntmps9 Z (q2 (o_box H Z Z Z ?_));intro _ _ _ H
 refine xal H Z ?_;intro _ _ _ H
 refine q1 (xal H Z ?_);intro _ _ _ H
 refine q1 (fA 0 Z (lB 2 H Z3 (xc Z2 (w_toHeldS_c _ _ H.sub _ _ hr1) ?_)))
 rintro _ _ ⟨_,_,rfl,H5',⟨_,rfl,hO5⟩⟩
 have H:=H.readers (fp:=[]) (by simp) (PLe.refl _) H5'
 obtain⟨_,hP5⟩:=hO5
 obtain⟨_,_,rfl⟩:=OwnS.shape hP5
 have hO5:=OHs.mk hP5
 refine⟨_,Z,?_⟩
 refine fA 0 Z (xst 1 H Z8 ?_);intro _ H
 refine q1 (fA 1 Z (lB 3 H Z3 (xc Z2 (w_toItemS_c _ _ H.sub _ _ hr1') ?_)))
 rintro _ _ ⟨_,_,rfl,H7',⟨_,rfl,hO7⟩⟩
 have H:=H.readers (fp:=[]) (by simp) (PLe.refl _) H7'
 obtain⟨_,hP7⟩:=hO7
 obtain⟨_,_,rfl⟩:=OwnS.shape hP7
 have hO7:=OIs.mk hP7
 refine⟨_,Z,?_⟩
 refine fA 1 Z (xst 2 H Z8 ?_);intro _ H
 refine q1 (fA 2 Z (lB 4 H Z3 (xc Z2 (w_toSnapS_c _ _ H.sub _ _ hr1'') ?_)))
 rintro _ _ ⟨_,_,rfl,H9',⟨_,rfl,hO9⟩⟩
 have H:=H.readers (fp:=[]) (by simp) (PLe.refl _) H9'
 obtain⟨_,hP9⟩:=hO9
 obtain⟨_,_,rfl⟩:=OwnS.shape hP9
 have hO9:=OSn.mk hP9
 refine⟨_,Z,?_⟩
 refine fA 2 Z (xst 3 H Z8 ?_);intro _ H
 refine q1 (lA 3 3 H Z4 (xst 4 H Z8 ?_));intro _ H
 refine q3 (W_ret (ret_gen (rs:=[.cell 2 32]) (vs:=[_]) results9 ⟨⟨_,Z,load_blk 4 H isAgg32 sizeOf32 Z Z Z⟩,trivial⟩ ?_))
 have H:=H.sel [2,1,0] rfl
 have H:=H.forget hG (by simp)
 exact⟨_,_,Z,H,_,_,_,_,_,_,Z,Z,hO5,hO7,hO9⟩
theorem w_markText_c (w0:World)(k:Int)(hk:k≤2199023255552) :
  Calls Tryz.prog 93 #[.int .i64 k] w0 (Rets w0 (str (mtext k))):=by
 have H:=Hp.init0 w0
 refine calls_of_W (l:=[.int .i64 k]) func93 Z ntmps93 Z (q2 (aG Z (q3 (W_seq (q2 (pe 2 Z (q3 ?_)))))))
 refine W_cond Z ?_ ?_
 ·intro hc1
  try simp only[nrm]at hc1
  refine q2 (aG Z (q3 (W_ret (N_K_ret (rt1 results93 Z ?_)))))
  exact H.rets (by (rw[mtext,if_pos oM];rfl))
 intro hc1'
 try simp only[nrm]at hc1'
 refine W_skip (N_K (q2 (aG Z (q3 (W_seq (W_block ?_))))))
 refine W_lp (hf:=(Sub.cons (t:=2) Z Sub.nil)) (J:=fun M w m=>∃(kk:Int) (out:Bs) (G:PH),M=[(0,.int .i64 kk),(3,str out)]∧PLe (fun _=>none) G∧Hp w0 (fun _=>none) [] w G []∧(0≤kk∧kk≤k∧digs k.toNat=digs kk.toNat++out)∧m=(kk.toNat)) (h0:=⟨k,[],_,Z,PLe.refl _,H,?inv,Z⟩) (round:=?round)
 case inv=>exact⟨by omega,by omega,by simp⟩
 case round =>
  rintro _ _ _ ⟨kk,out,_,rfl,hle2,H,hinv2,rfl⟩
  obtain⟨_,_,hdg⟩:=hinv2;have hol:out.length≤20:=(by have h8:=congrArg List.length hdg;have h9:=digs_len 13 k.toNat oM;simp at h8;omega)
  refine W_seq (q2 (pe 2 Z (q3 ?_)))
  refine W_cond Z ?_ ?_
  ·intro hc3
   try simp only[nrm]at hc3
   refine W_skip (N_K (W_block (q2 (mV Z (o_rem Z Z Z oM oM (aD Z2 (o_conv (by simp[underlying3]) underlying5 Z Z (wrap_u8 oO) (xbs H Z7 ?_))))))));intro _ _ _ H
   refine o_convbytes1 0 H underlying39 underlying5 underlying9 Z Z Z (mV Z ?_)
   refine o_sadd Z Z Z (by simp;omega) ?_
   refine aG Z (q3 (W_region (mV Z (o_quo Z Z Z oM oM oM (aG Z (R_nil (N_B ?_)))))))
   have H:=H.dl 0
   refine N_lp (hJ:=⟨kk / 10,([UInt8.ofNat (48+kk % 10).toNat]++out),_,Z,hle2,H,?inv,Z⟩) (hm:=?hm)
   case hm=>omega
   case inv=>exact⟨by omega,by omega,(by rw[hdg,digs_pos (n:=kk.toNat) oM,show(48+kk % 10).toNat=48+kk.toNat % 10 by omega,show(kk / 10).toNat=kk.toNat / 10 by omega,List.append_assoc])⟩
  intro hc3'
  try simp only[nrm]at hc3'
  refine W_exit (N_K_exit (N_LP_exit (N_B_same (N_K (q2 (mV Z ?_))))))
  refine o_sadd Z Z Z (by simp;omega) ?_
  refine aG Z (q3 (W_ret (rt1 results93 Z ?_)))
  obtain rfl:kk=0:=by omega
  exact H.rets (by (rw[mtext,if_neg oM,hdg,show(0:Int).toNat=0 from rfl,digs_zero];rfl))
theorem w_markIntS_c (w0:World)(G0:PH)(hG:PSub G0 w0)(Fa:Fr)(va:Value)(a:List (Int))(hOa:OI Fa va a)(k:Int)(hLent:Lent w0 G0 [frag Fa])(hb:0≤k∧k+(cnt cI a:Int)≤2199023255552) :
  Calls Tryz.prog 92 #[va,.int .i64 k] w0 (RetM w0 G0 (fps [frag Fa]) (fun G' v Bs=>∃(F':Fr),v= .int .i64 (k+(cnt cI a:Int))∧Bs=[frag F']∧OI F' va (mks mI cI k a))):=by
 obtain⟨ea,hPa⟩:=hOa;have hlima:a.length≤1099511627776:=hPa.1;obtain⟨aa,ka,rfl⟩:=OwnS.shape hPa
 have H:Hp w0 G0 (fps [frag Fa]) w0 G0 [frag Fa]:=hLent.hp
 obtain⟨_,Ra,H,hcka⟩:=H.openF hPa
 refine calls_of_W (l:=[.slice aa a.length ka,.int .i64 k]) func92 Z ntmps92 Z (q2 (aG Z (q3 (W_seq (q2 (aG Z (q3 (W_block ?_))))))))
 refine W_lp (hf:=(Sub.cons (t:=4) Z Sub.nil)) (J:=fun M w m=>∃(v:Value) (n:Nat) (cs:List Value) (xs:List (Int)) (F:Fr) (i:Nat) (kk:Int) (G:PH),M=[(5,.int .i64 (i:Int)),(1,.int .i64 kk),(0,v)]∧PLe G0 G∧Hp w0 G0 (fps [frag Fa]) w G [acc ea 1 v n cs,frag F]∧(ChkF intO 1 cs xs F∧n=xs.length∧i≤a.length∧kk=k+(cnt cI (a.take i):Int)∧xs=mks mI cI k (a.take i)++a.drop i∧v= .slice aa a.length ka)∧m=(a.length-i)) (h0:=⟨_,_,_,a,Ra,0,k,_,Z,PLe.refl _,H,?inv,Z⟩) (round:=?round)
 case inv=>exact⟨hcka,by first|rfl|simp|(simp;omega)|omega,(by simp[cnt,mks])⟩
 case round =>
  rintro _ _ _ ⟨v,n,cs,xs,F,i,kk,_,rfl,hle1,H,hinv1,rfl⟩
  obtain⟨hchk1_0,_,hinv1⟩:=hinv1
  obtain⟨_,_,rfl⟩:=H.accShape (k:=0) rfl
  obtain⟨hi,hkk,hxs,hv⟩:=hinv1;have hxl:xs.length=a.length:=(by (rw[hxs];exact half_len hi));have hctk:=cnt_tk (c:=cI) a i
  refine W_seq (q2 (pe 2 Z (lN Z (pe 1 Z (q3 ?_)))))
  refine W_cond Z ?_ ?_
  ·intro hc2
   try simp only[nrm]at hc2
   refine W_skip (N_K (W_seq (W_block (q2 (pe 3 Z ?_)))))
   obtain⟨z3,hz3⟩:∃z,xs[i]? = some z:=⟨_,List.getElem?_eq_getElem aN⟩
   obtain⟨_,P3,_,Q3,hF3,_,hE3,_,hput3,hpu03⟩:=(hchk1_0).focus hz3
   rw[hF3]at H
   refine o_index_F 0 H i Z underlying49 sizeOf3 Z Z Z Z aN ?_;intro _ hba3;cases hba3
   obtain⟨rfl,rfl,hi3⟩:=hE3
   have hbk3:ChkF intO 1 _ (xs.set i z3) _:=hpu03 [] z3 (show intO _ _ _ from⟨rfl,rfl,hi3⟩)
   have hsame3:xs.set i z3=xs:=Fw.set_same hz3;rw[hsame3]at hbk3
   have hat:=half_at hxs hz3 hi;have hcl:=cnt_le (c:=cI) hat
   have hch:cI z3=1:=rfl
   have hcl4:=(hbk3).length
   have hlt4:i<xs.length:=(List.getElem?_eq_some_iff.1 hz3).1
   try simp only[length_setCs,List.length_set]at hcl4
   try simp only[List.length_set]at hlt4
   refine o_store_A 0 H sizeOf3 Z Z Z Z Z (by simp only[vc,List.length_cons,List.length_nil,length_setCs];omega) ?_;intro _ H
   have hchk4:=hput3 [] kk 0 [_] (by simp) (show intO _ _ _ from⟨rfl,rfl,oO⟩)
   refine q3 (W_region (mV Z (aD Z2 (aG Z (R_nil (N_B (N_K (W_region (mV Z (aD Z2 (aG Z (R_nil ?_))))))))))))
   refine N_lp (hJ:=⟨_,_,_,(xs.set i kk),(P3++([]++Q3)),i+1,kk+1,_,Z,hle1,H,?inv,Z⟩) (hm:=?hm)
   case hm=>omega
   case inv=>exact⟨hchk4,aN,(by exact⟨by omega,by (rw[cnt_succ hat];omega),half_step hxs hz3 hi hkk,hv⟩)⟩
  intro hc2'
  try simp only[nrm]at hc2'
  refine W_exit (N_K_exit (N_LP_exit (N_B_same (N_K (q2 (pe 2 Z (q3 (W_ret (rt1 results92 Z ?_)))))))))
  have hie:i=a.length:=by omega
  have hxx:xs=mks mI cI k a:=by (rw[hxs];exact half_end hie)
  have hce:=cnt_end (c:=cI) hie
  have H:=H.tF 1
  have H:=H.tF 1
  obtain⟨_,H,hOw1⟩:=H.ownF hchk1_0 aN aN
  exact H.retM ⟨_,congrArg (Value.int .i64) (by (rw[hkk,hce])),rfl,hxx▸hv▸⟨_,hOw1⟩⟩
theorem w_markHeldS_c (w0:World)(G0:PH)(hG:PSub G0 w0)(Fa:Fr)(va:Value)(a:List (BHeld))(hOa:OHs Fa va a)(k:Int)(hLent:Lent w0 G0 [frag Fa])(hb:0≤k∧k+(cnt cHeld a:Int)≤2199023255552) :
  Calls Tryz.prog 42 #[va,.int .i64 k] w0 (RetM w0 G0 (fps [frag Fa]) (fun G' v Bs=>∃(F':Fr),v= .int .i64 (k+(cnt cHeld a:Int))∧Bs=[frag F']∧OHs F' va (mks mHeld cHeld k a))):=by
 obtain⟨ea,hPa⟩:=hOa;have hlima:a.length≤1099511627776:=hPa.1;obtain⟨aa,ka,rfl⟩:=OwnS.shape hPa
 have H:Hp w0 G0 (fps [frag Fa]) w0 G0 [frag Fa]:=hLent.hp
 obtain⟨_,Ra,H,hcka⟩:=H.openF hPa
 refine calls_of_W (l:=[.slice aa a.length ka,.int .i64 k]) func42 Z ntmps42 Z (q2 (aG Z (q3 (W_seq (q2 (aG Z (q3 (W_block ?_))))))))
 refine W_lp (hf:=(Sub.cons (t:=4) Z Sub.nil)) (J:=fun M w m=>∃(v:Value) (n:Nat) (cs:List Value) (xs:List (BHeld)) (F:Fr) (i:Nat) (kk:Int) (G:PH),M=[(5,.int .i64 (i:Int)),(1,.int .i64 kk),(0,v)]∧PLe G0 G∧Hp w0 G0 (fps [frag Fa]) w G [acc ea 3 v n cs,frag F]∧(ChkF heldO 3 cs xs F∧n=xs.length∧i≤a.length∧kk=k+(cnt cHeld (a.take i):Int)∧xs=mks mHeld cHeld k (a.take i)++a.drop i∧v= .slice aa a.length ka)∧m=(a.length-i)) (h0:=⟨_,_,_,a,Ra,0,k,_,Z,PLe.refl _,H,?inv,Z⟩) (round:=?round)
 case inv=>exact⟨hcka,by first|rfl|simp|(simp;omega)|omega,(by simp[cnt,mks])⟩
 case round =>
  rintro _ _ _ ⟨v,n,cs,xs,F,i,kk,_,rfl,hle1,H,hinv1,rfl⟩
  obtain⟨hchk1_0,_,hinv1⟩:=hinv1
  obtain⟨_,_,rfl⟩:=H.accShape (k:=0) rfl
  obtain⟨hi,hkk,hxs,hv⟩:=hinv1;have hxl:xs.length=a.length:=(by (rw[hxs];exact half_len hi));have hctk:=cnt_tk (c:=cHeld) a i
  refine W_seq (q2 (pe 2 Z (lN Z (pe 1 Z (q3 ?_)))))
  refine W_cond Z ?_ ?_
  ·intro hc2
   try simp only[nrm]at hc2
   refine W_skip (N_K (W_seq (W_block (q2 (pe 3 Z ?_)))))
   obtain⟨z3,hz3⟩:∃z,xs[i]? = some z:=⟨_,List.getElem?_eq_getElem aN⟩
   obtain⟨_,_,_,_,hF3,_,hE3,_,hput3,hpu03⟩:=(hchk1_0).focus hz3
   rw[hF3]at H
   refine o_index_F 0 H i Z underlying28 sizeOf113 Z Z Z Z aN ?_;intro _ hba3;cases hba3
   obtain⟨_,_,_,rfl,hi3,ho3,hj3⟩:=hE3
   have hbk3:ChkF heldO 3 _ (xs.set i z3) _:=hpu03 _ z3 (show heldO _ _ _ from⟨_,_,_,rfl,hi3,ho3,hj3⟩)
   have hsame3:xs.set i z3=xs:=Fw.set_same hz3;rw[hsame3]at hbk3
   have hat:=half_at hxs hz3 hi;have hcl:=cnt_le (c:=cHeld) hat
   have hch:cHeld z3=2+cnt cI z3.bytes:=rfl
   refine fA 0 Z ?_
   have hcl4:=(hbk3).length
   have hlt4:i<xs.length:=(List.getElem?_eq_some_iff.1 hz3).1
   try simp only[length_setCs,List.length_set]at hcl4
   try simp only[List.length_set]at hlt4
   refine o_store_A 0 H sizeOf3 Z Z Z Z Z (by simp only[vc,List.length_cons,List.length_nil,length_setCs];omega) ?_;intro _ H
   have hchk4:=hput3 _ ⟨kk,z3.bytes,z3.uses⟩ 0 [_] (by simp) (show heldO _ _ _ from⟨_,_,_,rfl,⟨by first|omega|(dsimp only;omega),by first|omega|(dsimp only;omega)⟩,ho3,hj3⟩)
   refine q1 (mV Z (aD Z2 (aG Z (q1 (pe 2 Z ?_)))))
   obtain⟨z6,hz6⟩:∃z,(xs.set i ⟨kk,z3.bytes,z3.uses⟩)[i]? = some z:=⟨_,List.getElem?_eq_getElem aN⟩
   obtain⟨_,_,_,_,hF6,_,hE6,hg6,_,hpu06⟩:=(hchk4).focus hz6
   rw[hF6]at H
   refine o_index_F 0 H i Z underlying28 sizeOf113 Z Z Z Z aN ?_;intro _ hba6;cases hba6
   obtain⟨_,_,_,rfl,hi6,ho6,hj6⟩:=hE6
   have hbk6:ChkF heldO 3 _ ((xs.set i ⟨kk,z3.bytes,z3.uses⟩).set i z6) _:=hpu06 _ z6 (show heldO _ _ _ from⟨_,_,_,rfl,hi6,ho6,hj6⟩)
   have hsame6:(xs.set i ⟨kk,z3.bytes,z3.uses⟩).set i z6=(xs.set i ⟨kk,z3.bytes,z3.uses⟩):=Fw.set_same hz6;rw[hsame6]at hbk6
   have hze6:=Fw.set_at hz6
   have hzb6:z6.bytes=z3.bytes:=by simp only[hze6]
   have hzc6:cnt cI z6.bytes=cnt cI z3.bytes:=by rw[hzb6]
   refine fA 1 Z (o_load_A 0 H isAgg49 Z Z Z (hg6 1 _ Z) (mV Z ?_))
   have H:=H.tF 1
   have H:=H.outFi
   refine xc Z2 (w_markIntS_c _ _ H.sub _ _ _ ho6 _ H.lent1 oO) ?_
   rintro _ _ ⟨_,_,_,rfl,H7',⟨F7,rfl,rfl,hO7⟩⟩
   have hle1:=hle1.trans H7'.le
   have H:=H.borrow1 H7'
   refine⟨_,Z,?_⟩
   have H:=H.tF 2
   have H:=H.tF 2
   have H:=H.tF 2
   have H:=H.inFi
   have hcb1:=hpu06 F7 ⟨z6.id,mks mI cI (kk+1) z6.bytes,z6.uses⟩ (show heldO _ _ _ from⟨_,_,_,rfl,hi6,hO7,hj6⟩)
   refine aG Z (q1 (pe 3 Z ?_))
   obtain⟨z8,hz8⟩:∃z,((xs.set i ⟨kk,z3.bytes,z3.uses⟩).set i ⟨z6.id,mks mI cI (kk+1) z6.bytes,z6.uses⟩)[i]? = some z:=⟨_,List.getElem?_eq_getElem aN⟩
   obtain⟨_,P8,Fi8,Q8,hF8,_,hE8,_,hput8,hpu08⟩:=(hcb1).focus hz8
   rw[hF8]at H
   refine o_index_F 1 H i Z underlying28 sizeOf113 Z Z Z Z aN ?_;intro _ hba8;cases hba8
   obtain⟨_,_,_,rfl,hi8,ho8,hj8⟩:=hE8
   have hbk8:ChkF heldO 3 _ (((xs.set i ⟨kk,z3.bytes,z3.uses⟩).set i ⟨z6.id,mks mI cI (kk+1) z6.bytes,z6.uses⟩).set i z8) _:=hpu08 _ z8 (show heldO _ _ _ from⟨_,_,_,rfl,hi8,ho8,hj8⟩)
   have hsame8:((xs.set i ⟨kk,z3.bytes,z3.uses⟩).set i ⟨z6.id,mks mI cI (kk+1) z6.bytes,z6.uses⟩).set i z8=((xs.set i ⟨kk,z3.bytes,z3.uses⟩).set i ⟨z6.id,mks mI cI (kk+1) z6.bytes,z6.uses⟩):=Fw.set_same hz8;rw[hsame8]at hbk8
   have hze8:=Fw.set_at hz8
   refine fA 2 Z ?_
   have hcl9:=(hbk8).length
   have hlt9:i<((xs.set i ⟨kk,z3.bytes,z3.uses⟩).set i ⟨z6.id,mks mI cI (kk+1) z6.bytes,z6.uses⟩).length:=(List.getElem?_eq_some_iff.1 hz8).1
   try simp only[length_setCs,List.length_set]at hcl9
   try simp only[List.length_set]at hlt9
   refine o_store_A 1 H sizeOf3 Z Z Z Z Z (by simp only[vc,List.length_cons,List.length_nil,length_setCs];omega) ?_;intro _ H
   have hchk9:=hput8 _ ⟨z8.id,z8.bytes,kk+1+(cnt cI z6.bytes:Int)⟩ 2 [_] (by simp) (show heldO _ _ _ from⟨_,_,_,rfl,hi8,ho8,⟨by first|omega|(dsimp only;omega),by first|omega|(dsimp only;omega)⟩⟩)
   refine q3 (W_region (mV Z (aD Z2 (aG Z (R_nil (N_B (N_K (W_region (mV Z (aD Z2 (aG Z (R_nil ?_))))))))))))
   have H:=H.tF 1
   refine N_lp (hJ:=⟨_,_,_,(((xs.set i ⟨kk,z3.bytes,z3.uses⟩).set i ⟨z6.id,mks mI cI (kk+1) z6.bytes,z6.uses⟩).set i ⟨z8.id,z8.bytes,kk+1+(cnt cI z6.bytes:Int)⟩),(P8++(Fi8++Q8)),i+1,kk+1+(cnt cI z6.bytes:Int)+1,_,Z,hle1,H,?inv,Z⟩) (hm:=?hm)
   case hm=>omega
   case inv=>exact⟨hchk9,aN,(by exact⟨by omega,by (rw[cnt_succ hat];omega),(by (subst hze8;subst hze6;simp only[List.set_set];exact half_step hxs hz3 hi (by (rw[←hkk];rfl)))),hv⟩)⟩
  intro hc2'
  try simp only[nrm]at hc2'
  refine W_exit (N_K_exit (N_LP_exit (N_B_same (N_K (q2 (pe 2 Z (q3 (W_ret (rt1 results42 Z ?_)))))))))
  have hie:i=a.length:=by omega
  have hxx:xs=mks mHeld cHeld k a:=by (rw[hxs];exact half_end hie)
  have hce:=cnt_end (c:=cHeld) hie
  have H:=H.tF 1
  have H:=H.tF 1
  obtain⟨_,H,hOw2⟩:=H.ownF hchk1_0 aN aN
  exact H.retM ⟨_,congrArg (Value.int .i64) (by (rw[hkk,hce])),rfl,hxx▸hv▸⟨_,hOw2⟩⟩
theorem w_markItemS_c (w0:World)(G0:PH)(hG:PSub G0 w0)(Fa:Fr)(va:Value)(a:List (BItem))(hOa:OIs Fa va a)(k:Int)(hLent:Lent w0 G0 [frag Fa])(hb:0≤k∧k+(cnt cItem a:Int)≤2199023255552) :
  Calls Tryz.prog 43 #[va,.int .i64 k] w0 (RetM w0 G0 (fps [frag Fa]) (fun G' v Bs=>∃(F':Fr),v= .int .i64 (k+(cnt cItem a:Int))∧Bs=[frag F']∧OIs F' va (mks mItem cItem k a))):=by
 obtain⟨ea,hPa⟩:=hOa;have hlima:a.length≤1099511627776:=hPa.1;obtain⟨aa,ka,rfl⟩:=OwnS.shape hPa
 have H:Hp w0 G0 (fps [frag Fa]) w0 G0 [frag Fa]:=hLent.hp
 obtain⟨_,Ra,H,hcka⟩:=H.openF hPa
 refine calls_of_W (l:=[.slice aa a.length ka,.int .i64 k]) func43 Z ntmps43 Z (q2 (aG Z (q3 (W_seq (q2 (aG Z (q3 (W_block ?_))))))))
 refine W_lp (hf:=(Sub.cons (t:=4) Z Sub.nil)) (J:=fun M w m=>∃(v:Value) (n:Nat) (cs:List Value) (xs:List (BItem)) (F:Fr) (i:Nat) (kk:Int) (G:PH),M=[(5,.int .i64 (i:Int)),(1,.int .i64 kk),(0,v)]∧PLe G0 G∧Hp w0 G0 (fps [frag Fa]) w G [acc ea 3 v n cs,frag F]∧(ChkF itemO 3 cs xs F∧n=xs.length∧i≤a.length∧kk=k+(cnt cItem (a.take i):Int)∧xs=mks mItem cItem k (a.take i)++a.drop i∧v= .slice aa a.length ka)∧m=(a.length-i)) (h0:=⟨_,_,_,a,Ra,0,k,_,Z,PLe.refl _,H,?inv,Z⟩) (round:=?round)
 case inv=>exact⟨hcka,by first|rfl|simp|(simp;omega)|omega,(by simp[cnt,mks])⟩
 case round =>
  rintro _ _ _ ⟨v,n,cs,xs,F,i,kk,_,rfl,hle1,H,hinv1,rfl⟩
  obtain⟨hchk1_0,_,hinv1⟩:=hinv1
  obtain⟨_,_,rfl⟩:=H.accShape (k:=0) rfl
  obtain⟨hi,hkk,hxs,hv⟩:=hinv1;have hxl:xs.length=a.length:=(by (rw[hxs];exact half_len hi));have hctk:=cnt_tk (c:=cItem) a i;have hmt:(mtext kk).length≤16777216:=(by have h9:=mtext_len (k:=kk) oM;omega)
  refine W_seq (q2 (pe 2 Z (lN Z (pe 1 Z (q3 ?_)))))
  refine W_cond Z ?_ ?_
  ·intro hc2
   try simp only[nrm]at hc2
   refine W_skip (N_K (W_seq (W_block (q2 (pe 3 Z (xr H Z2 (w_markText_c _ _ oM) ?_))))));intro _ H
   obtain⟨z4,hz4⟩:∃z,xs[i]? = some z:=⟨_,List.getElem?_eq_getElem aN⟩
   obtain⟨_,_,_,_,hF4,_,hE4,_,hput4,hpu04⟩:=(hchk1_0).focus hz4
   rw[hF4]at H
   refine o_index_F 0 H i Z underlying29 sizeOf51 Z Z Z Z aN ?_;intro _ hba4;cases hba4
   obtain⟨_,_,_,rfl,hi4,ho4⟩:=hE4;have hy_hi4:_≤16777216:=hi4
   have hbk4:ChkF itemO 3 _ (xs.set i z4) _:=hpu04 _ z4 (show itemO _ _ _ from⟨_,_,_,rfl,hi4,ho4⟩)
   have hsame4:xs.set i z4=xs:=Fw.set_same hz4;rw[hsame4]at hbk4
   have hat:=half_at hxs hz4 hi;have hcl:=cnt_le (c:=cItem) hat
   have hch:cItem z4=2+cnt cI z4.ids:=rfl
   refine fA 0 Z ?_
   have hcl5:=(hbk4).length
   have hlt5:i<xs.length:=(List.getElem?_eq_some_iff.1 hz4).1
   try simp only[length_setCs,List.length_set]at hcl5
   try simp only[List.length_set]at hlt5
   refine o_store_A 0 H sizeOf9 Z Z Z Z Z (by simp only[vc,List.length_cons,List.length_nil,length_setCs];omega) ?_;intro _ H
   have hchk5:=hput4 _ ⟨mtext kk,z4.dir,z4.ids⟩ 0 [_] (by simp) (show itemO _ _ _ from⟨_,_,_,rfl,(by (first|assumption|(refine Sp.l5Parent_lim ?_;assumption)|(simp;done)|(simp;omega)|omega)),ho4⟩)
   refine q1 (mV Z (aD Z2 (aG Z (q1 (pe 3 Z (o_rem Z Z Z oM oM (pe 1 Z ?_)))))))
   obtain⟨z7,hz7⟩:∃z,(xs.set i ⟨mtext kk,z4.dir,z4.ids⟩)[i]? = some z:=⟨_,List.getElem?_eq_getElem aN⟩
   obtain⟨_,_,_,_,hF7,_,hE7,_,hput7,hpu07⟩:=(hchk5).focus hz7
   rw[hF7]at H
   refine o_index_F 0 H i Z underlying29 sizeOf51 Z Z Z Z aN ?_;intro _ hba7;cases hba7
   obtain⟨_,_,_,rfl,hi7,ho7⟩:=hE7;have hy_hi7:_≤16777216:=hi7
   have hbk7:ChkF itemO 3 _ ((xs.set i ⟨mtext kk,z4.dir,z4.ids⟩).set i z7) _:=hpu07 _ z7 (show itemO _ _ _ from⟨_,_,_,rfl,hi7,ho7⟩)
   have hsame7:(xs.set i ⟨mtext kk,z4.dir,z4.ids⟩).set i z7=(xs.set i ⟨mtext kk,z4.dir,z4.ids⟩):=Fw.set_same hz7;rw[hsame7]at hbk7
   have hze7:=Fw.set_at hz7
   have hzb7:z7.ids=z4.ids:=by simp only[hze7]
   have hzc7:cnt cI z7.ids=cnt cI z4.ids:=by rw[hzb7]
   refine fA 1 Z ?_
   have hcl8:=(hbk7).length
   have hlt8:i<(xs.set i ⟨mtext kk,z4.dir,z4.ids⟩).length:=(List.getElem?_eq_some_iff.1 hz7).1
   try simp only[length_setCs,List.length_set]at hcl8
   try simp only[List.length_set]at hlt8
   refine o_store_A 0 H sizeOf4 Z Z Z Z Z (by simp only[vc,List.length_cons,List.length_nil,length_setCs];omega) ?_;intro _ H
   have hchk8:=hput7 _ ⟨z7.path,decide ((kk+1) % 3=0),z7.ids⟩ 1 [_] (by simp) (show itemO _ _ _ from⟨_,_,_,rfl,hi7,ho7⟩)
   refine q1 (mV Z (aD Z2 (aG Z (q3 (W_region (pe 2 Z ?_))))))
   obtain⟨z10,hz10⟩:∃z,((xs.set i ⟨mtext kk,z4.dir,z4.ids⟩).set i ⟨z7.path,decide ((kk+1) % 3=0),z7.ids⟩)[i]? = some z:=⟨_,List.getElem?_eq_getElem aN⟩
   obtain⟨_,P10,_,Q10,hF10,_,hE10,hg10,_,hpu010⟩:=(hchk8).focus hz10
   rw[hF10]at H
   refine o_index_F 0 H i Z underlying29 sizeOf51 Z Z Z Z aN ?_;intro _ hba10;cases hba10
   obtain⟨_,_,_,rfl,hi10,ho10⟩:=hE10;have hy_hi10:_≤16777216:=hi10
   have hbk10:ChkF itemO 3 _ (((xs.set i ⟨mtext kk,z4.dir,z4.ids⟩).set i ⟨z7.path,decide ((kk+1) % 3=0),z7.ids⟩).set i z10) _:=hpu010 _ z10 (show itemO _ _ _ from⟨_,_,_,rfl,hi10,ho10⟩)
   have hsame10:((xs.set i ⟨mtext kk,z4.dir,z4.ids⟩).set i ⟨z7.path,decide ((kk+1) % 3=0),z7.ids⟩).set i z10=((xs.set i ⟨mtext kk,z4.dir,z4.ids⟩).set i ⟨z7.path,decide ((kk+1) % 3=0),z7.ids⟩):=Fw.set_same hz10;rw[hsame10]at hbk10
   have hze10:=Fw.set_at hz10
   have hzb10:z10.ids=z4.ids:=by simp only[hze10,hze7]
   have hzc10:cnt cI z10.ids=cnt cI z4.ids:=by rw[hzb10]
   refine fA 2 Z (o_load_A 0 H isAgg49 Z Z Z (hg10 2 _ Z) (mV Z ?_))
   have H:=H.tF 1
   have H:=H.outFi
   refine xc Z2 (w_markIntS_c _ _ H.sub _ _ _ ho10 _ H.lent1 oO) ?_
   rintro _ _ ⟨_,_,_,rfl,H11',⟨F11,rfl,rfl,hO11⟩⟩
   have hle1:=hle1.trans H11'.le
   have H:=H.borrow1 H11'
   refine⟨_,Z,?_⟩
   have H:=H.tF 2
   have H:=H.tF 2
   have H:=H.tF 2
   have H:=H.inFi
   have hcb1:=hpu010 F11 ⟨z10.path,z10.dir,mks mI cI (kk+1+1) z10.ids⟩ (show itemO _ _ _ from⟨_,_,_,rfl,hi10,hO11⟩)
   refine aG Z (R_nil (N_B (N_K (W_region (mV Z (aD Z2 (aG Z (R_nil ?_))))))))
   have H:=H.tF 1
   refine N_lp (hJ:=⟨_,_,_,(((xs.set i ⟨mtext kk,z4.dir,z4.ids⟩).set i ⟨z7.path,decide ((kk+1) % 3=0),z7.ids⟩).set i ⟨z10.path,z10.dir,mks mI cI (kk+1+1) z10.ids⟩),(P10++(F11++Q10)),i+1,kk+1+1+(cnt cI z10.ids:Int),_,Z,hle1,H,?inv,Z⟩) (hm:=?hm)
   case hm=>omega
   case inv=>exact⟨hcb1,aN,(by exact⟨by omega,by (rw[cnt_succ hat];omega),(by (subst hze10;subst hze7;simp only[List.set_set];exact half_step hxs hz4 hi (by (rw[←hkk];rfl)))),hv⟩)⟩
  intro hc2'
  try simp only[nrm]at hc2'
  refine W_exit (N_K_exit (N_LP_exit (N_B_same (N_K (q2 (pe 2 Z (q3 (W_ret (rt1 results43 Z ?_)))))))))
  have hie:i=a.length:=by omega
  have hxx:xs=mks mItem cItem k a:=by (rw[hxs];exact half_end hie)
  have hce:=cnt_end (c:=cItem) hie
  have H:=H.tF 1
  have H:=H.tF 1
  obtain⟨_,H,hOw2⟩:=H.ownF hchk1_0 aN aN
  exact H.retM ⟨_,congrArg (Value.int .i64) (by (rw[hkk,hce])),rfl,hxx▸hv▸⟨_,hOw2⟩⟩
theorem w_markSnapS_c (w0:World)(G0:PH)(hG:PSub G0 w0)(Fa:Fr)(va:Value)(a:List (BSnap))(hOa:OSn Fa va a)(k:Int)(hLent:Lent w0 G0 [frag Fa])(hb:0≤k∧k+(cnt cSnap a:Int)≤2199023255552) :
  Calls Tryz.prog 44 #[va,.int .i64 k] w0 (RetM w0 G0 (fps [frag Fa]) (fun G' v Bs=>∃(F':Fr),v= .int .i64 (k+(cnt cSnap a:Int))∧Bs=[frag F']∧OSn F' va (mks mSnap cSnap k a))):=by
 obtain⟨ea,hPa⟩:=hOa;have hlima:a.length≤1099511627776:=hPa.1;obtain⟨aa,ka,rfl⟩:=OwnS.shape hPa
 have H:Hp w0 G0 (fps [frag Fa]) w0 G0 [frag Fa]:=hLent.hp
 obtain⟨_,Ra,H,hcka⟩:=H.openF hPa
 refine calls_of_W (l:=[.slice aa a.length ka,.int .i64 k]) func44 Z ntmps44 Z (q2 (aG Z (q3 (W_seq (q2 (aG Z (q3 (W_block ?_))))))))
 refine W_lp (hf:=(Sub.cons (t:=4) Z Sub.nil)) (J:=fun M w m=>∃(v:Value) (n:Nat) (cs:List Value) (xs:List (BSnap)) (F:Fr) (i:Nat) (kk:Int) (G:PH),M=[(5,.int .i64 (i:Int)),(1,.int .i64 kk),(0,v)]∧PLe G0 G∧Hp w0 G0 (fps [frag Fa]) w G [acc ea 2 v n cs,frag F]∧(ChkF snapO 2 cs xs F∧n=xs.length∧i≤a.length∧kk=k+(cnt cSnap (a.take i):Int)∧xs=mks mSnap cSnap k (a.take i)++a.drop i∧v= .slice aa a.length ka)∧m=(a.length-i)) (h0:=⟨_,_,_,a,Ra,0,k,_,Z,PLe.refl _,H,?inv,Z⟩) (round:=?round)
 case inv=>exact⟨hcka,by first|rfl|simp|(simp;omega)|omega,(by simp[cnt,mks])⟩
 case round =>
  rintro _ _ _ ⟨v,n,cs,xs,F,i,kk,_,rfl,hle1,H,hinv1,rfl⟩
  obtain⟨hchk1_0,_,hinv1⟩:=hinv1
  obtain⟨_,_,rfl⟩:=H.accShape (k:=0) rfl
  obtain⟨hi,hkk,hxs,hv⟩:=hinv1;have hxl:xs.length=a.length:=(by (rw[hxs];exact half_len hi));have hctk:=cnt_tk (c:=cSnap) a i;have hmt:(mtext kk).length≤16777216:=(by have h9:=mtext_len (k:=kk) oM;omega)
  refine W_seq (q2 (pe 2 Z (lN Z (pe 1 Z (q3 ?_)))))
  refine W_cond Z ?_ ?_
  ·intro hc2
   try simp only[nrm]at hc2
   refine W_skip (N_K (W_seq (W_block (q2 (pe 3 Z (xr H Z2 (w_markText_c _ _ oM) ?_))))));intro _ H
   obtain⟨z4,hz4⟩:∃z,xs[i]? = some z:=⟨_,List.getElem?_eq_getElem aN⟩
   obtain⟨_,_,_,_,hF4,_,hE4,_,hput4,hpu04⟩:=(hchk1_0).focus hz4
   rw[hF4]at H
   refine o_index_F 0 H i Z underlying30 sizeOf91 Z Z Z Z aN ?_;intro _ hba4;cases hba4
   obtain⟨_,_,_,rfl,hi4,ho4⟩:=hE4;have hy_hi4:_≤16777216:=hi4
   have hbk4:ChkF snapO 2 _ (xs.set i z4) _:=hpu04 _ z4 (show snapO _ _ _ from⟨_,_,_,rfl,hi4,ho4⟩)
   have hsame4:xs.set i z4=xs:=Fw.set_same hz4;rw[hsame4]at hbk4
   have hat:=half_at hxs hz4 hi;have hcl:=cnt_le (c:=cSnap) hat
   have hch:cSnap z4=1+cnt cItem z4.tree:=rfl
   refine fA 0 Z ?_
   have hcl5:=(hbk4).length
   have hlt5:i<xs.length:=(List.getElem?_eq_some_iff.1 hz4).1
   try simp only[length_setCs,List.length_set]at hcl5
   try simp only[List.length_set]at hlt5
   refine o_store_A 0 H sizeOf9 Z Z Z Z Z (by simp only[vc,List.length_cons,List.length_nil,length_setCs];omega) ?_;intro _ H
   have hchk5:=hput4 _ ⟨mtext kk,z4.tree⟩ 0 [_] (by simp) (show snapO _ _ _ from⟨_,_,_,rfl,(by (first|assumption|(refine Sp.l5Parent_lim ?_;assumption)|(simp;done)|(simp;omega)|omega)),ho4⟩)
   refine q1 (mV Z (aD Z2 (aG Z (q3 (W_region (pe 2 Z ?_))))))
   obtain⟨z7,hz7⟩:∃z,(xs.set i ⟨mtext kk,z4.tree⟩)[i]? = some z:=⟨_,List.getElem?_eq_getElem aN⟩
   obtain⟨_,P7,_,Q7,hF7,_,hE7,hg7,_,hpu07⟩:=(hchk5).focus hz7
   rw[hF7]at H
   refine o_index_F 0 H i Z underlying30 sizeOf91 Z Z Z Z aN ?_;intro _ hba7;cases hba7
   obtain⟨_,_,_,rfl,hi7,ho7⟩:=hE7;have hy_hi7:_≤16777216:=hi7
   have hbk7:ChkF snapO 2 _ ((xs.set i ⟨mtext kk,z4.tree⟩).set i z7) _:=hpu07 _ z7 (show snapO _ _ _ from⟨_,_,_,rfl,hi7,ho7⟩)
   have hsame7:(xs.set i ⟨mtext kk,z4.tree⟩).set i z7=(xs.set i ⟨mtext kk,z4.tree⟩):=Fw.set_same hz7;rw[hsame7]at hbk7
   have hze7:=Fw.set_at hz7
   have hzb7:z7.tree=z4.tree:=by simp only[hze7]
   have hzc7:cnt cItem z7.tree=cnt cItem z4.tree:=by rw[hzb7]
   refine fA 1 Z (o_load_A 0 H isAgg29 Z Z Z (hg7 1 _ Z) (mV Z ?_))
   have H:=H.tF 1
   have H:=H.outFi
   refine xc Z2 (w_markItemS_c _ _ H.sub _ _ _ ho7 _ H.lent1 oO) ?_
   rintro _ _ ⟨_,_,_,rfl,H8',⟨F8,rfl,rfl,hO8⟩⟩
   have hle1:=hle1.trans H8'.le
   have H:=H.borrow1 H8'
   refine⟨_,Z,?_⟩
   have H:=H.tF 2
   have H:=H.tF 2
   have H:=H.tF 2
   have H:=H.inFi
   have hcb1:=hpu07 F8 ⟨z7.name,mks mItem cItem (kk+1) z7.tree⟩ (show snapO _ _ _ from⟨_,_,_,rfl,hi7,hO8⟩)
   refine aG Z (R_nil (N_B (N_K (W_region (mV Z (aD Z2 (aG Z (R_nil ?_))))))))
   have H:=H.tF 1
   refine N_lp (hJ:=⟨_,_,_,((xs.set i ⟨mtext kk,z4.tree⟩).set i ⟨z7.name,mks mItem cItem (kk+1) z7.tree⟩),(P7++(F8++Q7)),i+1,kk+1+(cnt cItem z7.tree:Int),_,Z,hle1,H,?inv,Z⟩) (hm:=?hm)
   case hm=>omega
   case inv=>exact⟨hcb1,aN,(by exact⟨by omega,by (rw[cnt_succ hat];omega),(by (subst hze7;simp only[List.set_set];exact half_step hxs hz4 hi (by (rw[←hkk];rfl)))),hv⟩)⟩
  intro hc2'
  try simp only[nrm]at hc2'
  refine W_exit (N_K_exit (N_LP_exit (N_B_same (N_K (q2 (pe 2 Z (q3 (W_ret (rt1 results44 Z ?_)))))))))
  have hie:i=a.length:=by omega
  have hxx:xs=mks mSnap cSnap k a:=by (rw[hxs];exact half_end hie)
  have hce:=cnt_end (c:=cSnap) hie
  have H:=H.tF 1
  have H:=H.tF 1
  obtain⟨_,H,hOw2⟩:=H.ownF hchk1_0 aN aN
  exact H.retM ⟨_,congrArg (Value.int .i64) (by (rw[hkk,hce])),rfl,hxx▸hv▸⟨_,hOw2⟩⟩
theorem w_heldIntS_c (w0:World)(G0:PH)(hG:PSub G0 w0)(vb:Value)(b:List (Int))(hb:RdI G0 vb b)(k:Int)(a:List (Int))(hab:b=mks mI cI k a)(hb2:0≤k∧k+(cnt cI a:Int)≤2199023255552) :
  Calls Tryz.prog 94 #[vb,.int .i64 k] w0 (Rets w0 (.int .i64 (k+(cnt cI a:Int)))):=by
 obtain⟨ab,kb,rfl⟩:=hb.shape
 have hlimb:b.length≤1099511627776:=hb.lim
 have hle:b.length=a.length:=by (rw[hab];exact mks_len _ _)
 have H:=Hp.init hG
 refine calls_of_W (l:=[.slice ab b.length kb,.int .i64 k]) func94 Z ntmps94 Z (q2 (aG Z (q3 (W_seq (q2 (aG Z (q3 (W_block ?_))))))))
 refine W_lp (hf:=(Sub.cons (t:=0) Z Sub.nil)) (J:=fun M w m=>∃(i:Nat) (kk:Int) (G:PH),M=[(5,.int .i64 (i:Int)),(1,.int .i64 kk)]∧PLe G0 G∧Hp w0 G0 [] w G []∧(i≤a.length∧kk=k+(cnt cI (a.take i):Int))∧m=(a.length-i)) (h0:=⟨0,k,_,Z,PLe.refl _,H,?inv,Z⟩) (round:=?round)
 case inv=>simp[cnt]
 case round =>
  rintro _ _ _ ⟨i,kk,_,rfl,hle1,H,hinv1,rfl⟩
  have hb:=hb.up hle1
  obtain⟨_,hkk⟩:=hinv1;have hctk:=cnt_tk (c:=cI) a i
  refine W_seq (q2 (pe 2 Z (lN Z (pe 1 Z (q3 ?_)))))
  refine W_cond Z ?_ ?_
  ·intro hc2
   try simp only[nrm]at hc2
   refine W_skip (N_K (W_seq (W_block (W_seq (q2 (pe 2 Z (iP i hb Z3 Z ?_)))))));intro _ _ z3 _ hz3 hE3 hrow3
   obtain⟨rfl,_⟩:=hE3
   obtain⟨x,hx⟩:∃x,a[i]? = some x:=⟨_,List.getElem?_eq_getElem oM⟩
   have hzm:=mks_get hx (hab▸hz3);rw[←hkk]at hzm;have hcl:=cnt_le (c:=cI) hx
   have hzi:z3=kk:=hzm;have hch:cI x=1:=rfl
   refine lP H hrow3 0 Z2 (pe 2 Z (q3 ?_))
   refine W_cond Z ?_ ?_
   ·intro hc4
    try simp only[nrm]at hc4
    refine q2 (aG Z (q3 (W_ret (N_K_ret (N_B_ret (N_K_ret (N_LP_ret (N_B_ret (N_K_ret (rt1 results94 Z ?_))))))))))
    exact absurd (show False from by first|omega|(exact hc4 (by (rw[hzm];first|rfl|(rw[←hkk];rfl))))|(have h9:=hc4;rw[hzm]at h9;simp[mI]at h9;done)) id
   intro hc4'
   try simp only[nrm]at hc4'
   refine W_skip (N_K (W_region (mV Z (aD Z2 (aG Z (R_nil (N_B (N_K (W_region (mV Z (aD Z2 (aG Z (R_nil ?_)))))))))))))
   refine N_lp (hJ:=⟨i+1,kk+1,_,Z,hle1,H,?inv,Z⟩) (hm:=?hm)
   case hm=>omega
   case inv=>exact⟨by omega,by (rw[cnt_succ hx];omega)⟩
  intro hc2'
  try simp only[nrm]at hc2'
  refine W_exit (N_K_exit (N_LP_exit (N_B_same (N_K (q2 (pe 2 Z (q3 (W_ret (rt1 results94 Z ?_)))))))))
  have hie:i=a.length:=by omega
  have hce:=cnt_end (c:=cI) hie
  exact H.rets (congrArg (Value.int .i64) (by (rw[hkk,hce])))
theorem w_heldHeldS_c (w0:World)(G0:PH)(hG:PSub G0 w0)(vb:Value)(b:List (BHeld))(hb:RdH G0 vb b)(k:Int)(a:List (BHeld))(hab:b=mks mHeld cHeld k a)(hb2:0≤k∧k+(cnt cHeld a:Int)≤2199023255552) :
  Calls Tryz.prog 45 #[vb,.int .i64 k] w0 (Rets w0 (.int .i64 (k+(cnt cHeld a:Int)))):=by
 obtain⟨ab,kb,rfl⟩:=hb.shape
 have hlimb:b.length≤1099511627776:=hb.lim
 have hle:b.length=a.length:=by (rw[hab];exact mks_len _ _)
 have H:=Hp.init hG
 refine calls_of_W (l:=[.slice ab b.length kb,.int .i64 k]) func45 Z ntmps45 Z (q2 (aG Z (q3 (W_seq (q2 (aG Z (q3 (W_block ?_))))))))
 refine W_lp (hf:=(Sub.cons (t:=0) Z Sub.nil)) (J:=fun M w m=>∃(i:Nat) (kk:Int) (G:PH),M=[(5,.int .i64 (i:Int)),(1,.int .i64 kk)]∧PLe G0 G∧Hp w0 G0 [] w G []∧(i≤a.length∧kk=k+(cnt cHeld (a.take i):Int))∧m=(a.length-i)) (h0:=⟨0,k,_,Z,PLe.refl _,H,?inv,Z⟩) (round:=?round)
 case inv=>simp[cnt]
 case round =>
  rintro _ _ _ ⟨i,kk,_,rfl,hle1,H,hinv1,rfl⟩
  have hb:=hb.up hle1
  obtain⟨_,hkk⟩:=hinv1;have hctk:=cnt_tk (c:=cHeld) a i
  refine W_seq (q2 (pe 2 Z (lN Z (pe 1 Z (q3 ?_)))))
  refine W_cond Z ?_ ?_
  ·intro hc2
   try simp only[nrm]at hc2
   refine W_skip (N_K (W_seq (W_block (W_seq (q2 (pe 2 Z (iP i hb Z3 Z ?_)))))));intro _ _ z3 _ hz3 hE3 hrow3
   obtain⟨_,_,_,rfl,_,_,_,_,_⟩:=ox hE3
   obtain⟨x,hx⟩:∃x,a[i]? = some x:=⟨_,List.getElem?_eq_getElem oM⟩
   have hzm:=mks_get hx (hab▸hz3);rw[←hkk]at hzm;have hcl:=cnt_le (c:=cHeld) hx
   have hch:cHeld x=2+cnt cI x.bytes:=rfl
   have hzi:z3.id=kk:=by (rw[hzm];rfl)
   have hzu:z3.uses=kk+1+(cnt cI x.bytes:Int):=by (rw[hzm];rfl)
   refine fA 0 Z (lP H hrow3 0 Z2 (pe 2 Z (q3 ?_)))
   refine W_cond Z ?_ ?_
   ·intro hc4
    try simp only[nrm]at hc4
    refine q2 (aG Z (q3 (W_ret (N_K_ret (N_B_ret (N_K_ret (N_LP_ret (N_B_ret (N_K_ret (rt1 results45 Z ?_))))))))))
    exact absurd (show False from by first|omega|(exact hc4 (by (rw[hzm];first|rfl|(rw[←hkk];rfl))))|(have h9:=hc4;rw[hzm]at h9;simp[mHeld]at h9;done)) id
   intro hc4'
   try simp only[nrm]at hc4'
   refine W_skip (N_K (q2 (mV Z (aD Z2 (aG Z (q1 (pe 2 Z (iP i hb Z3 Z ?_))))))));intro _ _ z6 _ hz6 hE6 hrow6
   obtain⟨_,_,_,rfl,_,hr6,_,_,_⟩:=ox hE6
   have hzz6:z3=z6:=Option.some.inj (hz3.symm.trans hz6)
   subst hzz6
   refine fA 1 Z (lP H hrow6 1 Z2 (mV Z ?_))
   refine xr H Z2 (w_heldIntS_c _ _ H.sub _ _ hr6 _ x.bytes (by (rw[hzm];rfl)) oO) ?_;intro _ H
   refine aG Z (q3 (W_seq (q2 (pe 2 Z (q3 ?_)))))
   refine W_cond Z ?_ ?_
   ·intro hc8
    try simp only[nrm]at hc8
    refine q2 (aG Z (q3 (W_ret (N_K_ret (N_B_ret (N_K_ret (N_LP_ret (N_B_ret (N_K_ret (rt1 results45 Z ?_))))))))))
    exact absurd (show False from by first|omega|(exact hc8 (by (rw[hzm];first|rfl|(rw[←hkk];rfl))))|(have h9:=hc8;rw[hzm]at h9;simp[mHeld]at h9;done)) id
   intro hc8'
   try simp only[nrm]at hc8'
   refine W_skip (N_K (W_seq (q2 (pe 2 Z (iP i hb Z3 Z ?_)))));intro _ _ z9 _ hz9 hE9 hrow9
   obtain⟨_,_,_,rfl,_,_,_,_,_⟩:=ox hE9
   have hzz9:z3=z9:=Option.some.inj (hz3.symm.trans hz9)
   subst hzz9
   refine fA 2 Z (lP H hrow9 2 Z2 (pe 2 Z (q3 ?_)))
   refine W_cond Z ?_ ?_
   ·intro hc10
    try simp only[nrm]at hc10
    refine q2 (aG Z (q3 (W_ret (N_K_ret (N_B_ret (N_K_ret (N_LP_ret (N_B_ret (N_K_ret (rt1 results45 Z ?_))))))))))
    exact absurd (show False from by first|omega|(exact hc10 (by (rw[hzm];first|rfl|(rw[←hkk];rfl))))|(have h9:=hc10;rw[hzm]at h9;simp[mHeld]at h9;done)) id
   intro hc10'
   try simp only[nrm]at hc10'
   refine W_skip (N_K (W_region (mV Z (aD Z2 (aG Z (R_nil (N_B (N_K (W_region (mV Z (aD Z2 (aG Z (R_nil ?_)))))))))))))
   refine N_lp (hJ:=⟨i+1,kk+1+(cnt cI x.bytes:Int)+1,_,Z,hle1,H,?inv,Z⟩) (hm:=?hm)
   case hm=>omega
   case inv=>exact⟨by omega,by (rw[cnt_succ hx];omega)⟩
  intro hc2'
  try simp only[nrm]at hc2'
  refine W_exit (N_K_exit (N_LP_exit (N_B_same (N_K (q2 (pe 2 Z (q3 (W_ret (rt1 results45 Z ?_)))))))))
  have hie:i=a.length:=by omega
  have hce:=cnt_end (c:=cHeld) hie
  exact H.rets (congrArg (Value.int .i64) (by (rw[hkk,hce])))
theorem w_heldItemS_c (w0:World)(G0:PH)(hG:PSub G0 w0)(vb:Value)(b:List (BItem))(hb:RdItems G0 vb b)(k:Int)(a:List (BItem))(hab:b=mks mItem cItem k a)(hb2:0≤k∧k+(cnt cItem a:Int)≤2199023255552) :
  Calls Tryz.prog 46 #[vb,.int .i64 k] w0 (Rets w0 (.int .i64 (k+(cnt cItem a:Int)))):=by
 obtain⟨ab,kb,rfl⟩:=hb.shape
 have hlimb:b.length≤1099511627776:=hb.lim
 have hle:b.length=a.length:=by (rw[hab];exact mks_len _ _)
 have H:=Hp.init hG
 refine calls_of_W (l:=[.slice ab b.length kb,.int .i64 k]) func46 Z ntmps46 Z (q2 (aG Z (q3 (W_seq (q2 (aG Z (q3 (W_block ?_))))))))
 refine W_lp (hf:=(Sub.cons (t:=0) Z Sub.nil)) (J:=fun M w m=>∃(i:Nat) (kk:Int) (G:PH),M=[(5,.int .i64 (i:Int)),(1,.int .i64 kk)]∧PLe G0 G∧Hp w0 G0 [] w G []∧(i≤a.length∧kk=k+(cnt cItem (a.take i):Int))∧m=(a.length-i)) (h0:=⟨0,k,_,Z,PLe.refl _,H,?inv,Z⟩) (round:=?round)
 case inv=>simp[cnt]
 case round =>
  rintro _ _ _ ⟨i,kk,G1,rfl,hle1,H,hinv1,rfl⟩
  have hb:=hb.up hle1
  obtain⟨_,hkk⟩:=hinv1;have hctk:=cnt_tk (c:=cItem) a i
  refine W_seq (q2 (pe 2 Z (lN Z (pe 1 Z (q3 ?_)))))
  refine W_cond Z ?_ ?_
  ·intro hc2
   try simp only[nrm]at hc2
   refine W_skip (N_K (W_seq (W_block (W_seq (W_seq (W_drawK [] 8 H kR Z ?_))))));intro _ H;have hd3:=PLe.refl G1
   refine dE 0 Z2 (dE 1 Z2 ?_)
   have hl4:=hb.len
   obtain⟨_,_,z4,q4,ha4,hz4,hq4,hE4,hrow4,_⟩:=hb.at (i:=i) oM
   clear hq4
   obtain⟨_,_,_,rfl,_,_,_,_⟩:=ox hE4
   obtain⟨x,hx⟩:∃x,a[i]? = some x:=⟨_,List.getElem?_eq_getElem oM⟩
   have hzm:=mks_get hx (hab▸hz4);rw[←hkk]at hzm;have hcl:=cnt_le (c:=cItem) hx
   have hch:cItem x=2+cnt cI x.ids:=rfl
   refine dI 2 3 i ha4 Z3 Z (dF 3 0 Z2 (dP 4 hrow4 0 Z3 (dE 5 Z2 (r1 6 Z (xr H Z2 (w_markText_c _ _ oM) ?_)))));intro _ H
   refine q4 H hd3 (RD_t 7 Z kR Z (fun _ hK=>v_sneq Z Z) (rz (N_K ?_)))
   refine W_cond Z ?_ ?_
   ·intro hc6
    try simp only[nrm]at hc6
    refine q2 (aG Z (q3 (W_ret (N_K_ret (N_B_ret (N_K_ret (N_LP_ret (N_B_ret (N_K_ret (rt1 results46 Z ?_))))))))))
    exact absurd (show False from by first|omega|(exact hc6 (by (rw[hzm];first|rfl|(rw[←hkk];rfl))))|(have h9:=hc6;rw[hzm]at h9;simp[mItem]at h9;done)) id
   intro hc6'
   try simp only[nrm]at hc6'
   refine W_skip (N_K (q2 (mV Z (aD Z2 (aG Z (q3 (W_seq (q2 (pe 2 Z (iP i hb Z3 Z ?_))))))))));intro _ _ z8 _ hz8 hE8 hrow8
   obtain⟨_,_,_,rfl,_,_,_,_⟩:=ox hE8
   have hzz8:z4=z8:=Option.some.inj (hz4.symm.trans hz8)
   subst hzz8
   refine fA 1 Z (lP H hrow8 1 Z2 (mV Z (o_rem Z Z Z oM oM (pe 1 Z (o_bneq underlying4 Z Z Z (q3 ?_))))))
   refine W_cond Z ?_ ?_
   ·intro hc9
    try simp only[nrm]at hc9
    refine q2 (aG Z (q3 (W_ret (N_K_ret (N_B_ret (N_K_ret (N_LP_ret (N_B_ret (N_K_ret (rt1 results46 Z ?_))))))))))
    exact absurd (show False from by first|omega|(exact hc9 (by (rw[hzm];first|rfl|(rw[←hkk];rfl))))|(have h9:=hc9;rw[hzm]at h9;simp[mItem]at h9;done)) id
   intro hc9'
   try simp only[nrm]at hc9'
   refine W_skip (N_K (q2 (mV Z (aD Z2 (aG Z (q1 (pe 2 Z (iP i hb Z3 Z ?_))))))));intro _ _ z11 _ hz11 hE11 hrow11
   obtain⟨_,_,_,rfl,_,hr11,_,_⟩:=ox hE11
   have hzz11:z4=z11:=Option.some.inj (hz4.symm.trans hz11)
   subst hzz11
   refine fA 2 Z (lP H hrow11 2 Z2 (mV Z ?_))
   refine xr H Z2 (w_heldIntS_c _ _ H.sub _ _ hr11 _ x.ids (by (rw[hzm];rfl)) oO) ?_;intro _ H
   refine aG Z (q1 (pe 2 Z (q3 ?_)))
   refine W_cond Z ?_ ?_
   ·intro hc13
    try simp only[nrm]at hc13
    refine q2 (aG Z (q3 (W_ret (N_B_ret (N_K_ret (N_LP_ret (N_B_ret (N_K_ret (rt1 results46 Z ?_)))))))))
    exact absurd (show False from by first|omega|(exact hc13 (by (rw[hzm];first|rfl|(rw[←hkk];rfl))))|(have h9:=hc13;rw[hzm]at h9;simp[mItem]at h9;done)) id
   intro hc13'
   try simp only[nrm]at hc13'
   refine W_skip (N_B (N_K (W_region (mV Z (aD Z2 (aG Z (R_nil ?_)))))))
   refine N_lp (hJ:=⟨i+1,kk+1+1+(cnt cI x.ids:Int),_,Z,hle1,H,?inv,Z⟩) (hm:=?hm)
   case hm=>omega
   case inv=>exact⟨by omega,by (rw[cnt_succ hx];omega)⟩
  intro hc2'
  try simp only[nrm]at hc2'
  refine W_exit (N_K_exit (N_LP_exit (N_B_same (N_K (q2 (pe 2 Z (q3 (W_ret (rt1 results46 Z ?_)))))))))
  have hie:i=a.length:=by omega
  have hce:=cnt_end (c:=cItem) hie
  exact H.rets (congrArg (Value.int .i64) (by (rw[hkk,hce])))
theorem w_heldSnapS_c (w0:World)(G0:PH)(hG:PSub G0 w0)(vb:Value)(b:List (BSnap))(hb:RdSn G0 vb b)(k:Int)(a:List (BSnap))(hab:b=mks mSnap cSnap k a)(hb2:0≤k∧k+(cnt cSnap a:Int)≤2199023255552) :
  Calls Tryz.prog 47 #[vb,.int .i64 k] w0 (Rets w0 (.int .i64 (k+(cnt cSnap a:Int)))):=by
 obtain⟨ab,kb,rfl⟩:=hb.shape
 have hlimb:b.length≤1099511627776:=hb.lim
 have hle:b.length=a.length:=by (rw[hab];exact mks_len _ _)
 have H:=Hp.init hG
 refine calls_of_W (l:=[.slice ab b.length kb,.int .i64 k]) func47 Z ntmps47 Z (q2 (aG Z (q3 (W_seq (q2 (aG Z (q3 (W_block ?_))))))))
 refine W_lp (hf:=(Sub.cons (t:=0) Z Sub.nil)) (J:=fun M w m=>∃(i:Nat) (kk:Int) (G:PH),M=[(5,.int .i64 (i:Int)),(1,.int .i64 kk)]∧PLe G0 G∧Hp w0 G0 [] w G []∧(i≤a.length∧kk=k+(cnt cSnap (a.take i):Int))∧m=(a.length-i)) (h0:=⟨0,k,_,Z,PLe.refl _,H,?inv,Z⟩) (round:=?round)
 case inv=>simp[cnt]
 case round =>
  rintro _ _ _ ⟨i,kk,G1,rfl,hle1,H,hinv1,rfl⟩
  have hb:=hb.up hle1
  obtain⟨_,hkk⟩:=hinv1;have hctk:=cnt_tk (c:=cSnap) a i
  refine W_seq (q2 (pe 2 Z (lN Z (pe 1 Z (q3 ?_)))))
  refine W_cond Z ?_ ?_
  ·intro hc2
   try simp only[nrm]at hc2
   refine W_skip (N_K (W_seq (W_block (W_seq (W_seq (W_drawK [] 8 H kR Z ?_))))));intro _ H;have hd3:=PLe.refl G1
   refine dE 0 Z2 (dE 1 Z2 ?_)
   have hl4:=hb.len
   obtain⟨_,_,z4,q4,ha4,hz4,hq4,hE4,hrow4,_⟩:=hb.at (i:=i) oM
   clear hq4
   obtain⟨_,_,_,rfl,_,_,_,_⟩:=ox hE4
   obtain⟨x,hx⟩:∃x,a[i]? = some x:=⟨_,List.getElem?_eq_getElem oM⟩
   have hzm:=mks_get hx (hab▸hz4);rw[←hkk]at hzm;have hcl:=cnt_le (c:=cSnap) hx
   have hch:cSnap x=1+cnt cItem x.tree:=rfl
   refine dI 2 2 i ha4 Z3 Z (dF 3 0 Z2 (dP 4 hrow4 0 Z3 (dE 5 Z2 (r1 6 Z (xr H Z2 (w_markText_c _ _ oM) ?_)))));intro _ H
   refine q4 H hd3 (RD_t 7 Z kR Z (fun _ hK=>v_sneq Z Z) (rz (N_K ?_)))
   refine W_cond Z ?_ ?_
   ·intro hc6
    try simp only[nrm]at hc6
    refine q2 (aG Z (q3 (W_ret (N_K_ret (N_B_ret (N_K_ret (N_LP_ret (N_B_ret (N_K_ret (rt1 results47 Z ?_))))))))))
    exact absurd (show False from by first|omega|(exact hc6 (by (rw[hzm];first|rfl|(rw[←hkk];rfl))))|(have h9:=hc6;rw[hzm]at h9;simp[mSnap]at h9;done)) id
   intro hc6'
   try simp only[nrm]at hc6'
   refine W_skip (N_K (q2 (mV Z (aD Z2 (aG Z (q1 (pe 2 Z (iP i hb Z3 Z ?_))))))));intro _ _ z8 _ hz8 hE8 hrow8
   obtain⟨_,_,_,rfl,_,hr8,_,_⟩:=ox hE8
   have hzz8:z4=z8:=Option.some.inj (hz4.symm.trans hz8)
   subst hzz8
   refine fA 1 Z (lP H hrow8 1 Z2 (mV Z ?_))
   refine xr H Z2 (w_heldItemS_c _ _ H.sub _ _ hr8 _ x.tree (by (rw[hzm];rfl)) oO) ?_;intro _ H
   refine aG Z (q1 (pe 2 Z (q3 ?_)))
   refine W_cond Z ?_ ?_
   ·intro hc10
    try simp only[nrm]at hc10
    refine q2 (aG Z (q3 (W_ret (N_B_ret (N_K_ret (N_LP_ret (N_B_ret (N_K_ret (rt1 results47 Z ?_)))))))))
    exact absurd (show False from by first|omega|(exact hc10 (by (rw[hzm];first|rfl|(rw[←hkk];rfl))))|(have h9:=hc10;rw[hzm]at h9;simp[mSnap]at h9;done)) id
   intro hc10'
   try simp only[nrm]at hc10'
   refine W_skip (N_B (N_K (W_region (mV Z (aD Z2 (aG Z (R_nil ?_)))))))
   refine N_lp (hJ:=⟨i+1,kk+1+(cnt cItem x.tree:Int),_,Z,hle1,H,?inv,Z⟩) (hm:=?hm)
   case hm=>omega
   case inv=>exact⟨by omega,by (rw[cnt_succ hx];omega)⟩
  intro hc2'
  try simp only[nrm]at hc2'
  refine W_exit (N_K_exit (N_LP_exit (N_B_same (N_K (q2 (pe 2 Z (q3 (W_ret (rt1 results47 Z ?_)))))))))
  have hie:i=a.length:=by omega
  have hce:=cnt_end (c:=cSnap) hie
  exact H.rets (congrArg (Value.int .i64) (by (rw[hkk,hce])))
theorem w_heldDisk_c (w0:World)(G0:PH)(hG:PSub G0 w0)(cb:List Value)(b:BDisk)(hb:diskE G0 b cb)(k:Int)(a:BDisk)(hab:b=mDisk k a)(hb2:0≤k∧k+(cDisk a:Int)≤2199023255552) :
  Calls Tryz.prog 13 #[.agg cb.toArray,.int .i64 k] w0 (Rets w0 (.int .i64 (k+(cDisk a:Int)))):=by
 obtain⟨_,_,_,_,_,_,_,_,_,rfl,hr1,hr1',hr1'',⟨_,_⟩,⟨_,_⟩,_,_⟩:=ox hb
 have hcd:cDisk a=cnt cHeld a.store+cnt cItem a.tree+cnt cSnap a.snaps:=rfl
 have H:=Hp.init hG
 refine calls_of_W (l:=[_,.int .i64 k]) func13 Z ntmps13 Z (q2 (o_box H Z Z Z ?_));intro _ _ _ H
 refine aG Z (q1 (fA 0 Z (lB 0 H Z3 (mV Z ?_))))
 refine xr H Z2 (w_heldHeldS_c _ _ H.sub _ _ hr1 _ a.store (by (rw[hab];rfl)) oO) ?_;intro _ H
 refine aG Z (q3 (W_seq (q2 (pe 2 Z (q3 ?_)))))
 refine W_cond Z ?_ ?_
 ·intro hc4
  try simp only[nrm]at hc4
  refine q2 (aG Z (q3 (W_ret (N_K_ret (rt1 results13 Z ?_)))))
  first|exact H.rets (congrArg (Value.int .i64) oM)|exact absurd (show False from by omega) id
 intro hc4'
 try simp only[nrm]at hc4'
 refine W_skip (N_K (q2 (fA 1 Z (lB 0 H Z3 (mV Z ?_)))))
 refine xr H Z2 (w_heldItemS_c _ _ H.sub _ _ hr1' _ a.tree (by (rw[hab];rfl)) oO) ?_;intro _ H
 refine aG Z (q3 (W_seq (q2 (pe 2 Z (q3 ?_)))))
 refine W_cond Z ?_ ?_
 ·intro hc6
  try simp only[nrm]at hc6
  refine q2 (aG Z (q3 (W_ret (N_K_ret (rt1 results13 Z ?_)))))
  first|exact H.rets (congrArg (Value.int .i64) oM)|exact absurd (show False from by omega) id
 intro hc6'
 try simp only[nrm]at hc6'
 refine W_skip (N_K (q2 (fA 2 Z (lB 0 H Z3 (mV Z ?_)))))
 refine xr H Z2 (w_heldSnapS_c _ _ H.sub _ _ hr1'' _ a.snaps (by (rw[hab];rfl)) oO) ?_;intro _ H
 refine aG Z (q3 (W_seq (q2 (pe 2 Z (q3 ?_)))))
 refine W_cond Z ?_ ?_
 ·intro hc8
  try simp only[nrm]at hc8
  refine q2 (aG Z (q3 (W_ret (N_K_ret (rt1 results13 Z ?_)))))
  first|exact H.rets (congrArg (Value.int .i64) oM)|exact absurd (show False from by omega) id
 intro hc8'
 try simp only[nrm]at hc8'
 refine W_skip (N_K (q2 (pe 2 Z (q3 (W_ret (rt1 results13 Z ?_))))))
 first|exact H.rets (congrArg (Value.int .i64) oM)|exact absurd (show False from by omega) id
theorem w_markDisk_c (w0:World)(G0:PH)(hG:PSub G0 w0)(Fa1 Fa2 Fa3:Fr)(va1 va2 va3:Value)(a:BDisk)(hO1:OHs Fa1 va1 a.store)(hO2:OIs Fa2 va2 a.tree)(hO3:OSn Fa3 va3 a.snaps)(k:Int)(hLent:Lent w0 G0 [frag Fa1,frag Fa2,frag Fa3])(hb:0≤k∧k+(cDisk a:Int)≤2199023255552) :
  Calls Tryz.prog 12 #[.agg #[va1,va2,va3],.int .i64 k] w0 (RetM w0 G0 (fps [frag Fa1,frag Fa2,frag Fa3]) (fun G' v Bs=>∃(F1 F2 F3:Fr),v= .int .i64 (k+(cDisk a:Int))∧Bs=[frag F1,frag F2,frag F3]∧OHs F1 va1 (mDisk k a).store∧OIs F2 va2 (mDisk k a).tree∧OSn F3 va3 (mDisk k a).snaps)):=by
 obtain⟨_,p1⟩:=hO1
 obtain⟨_,_,rfl⟩:=OwnS.shape p1
 obtain⟨_,p2⟩:=hO2
 obtain⟨_,_,rfl⟩:=OwnS.shape p2
 obtain⟨_,p3⟩:=hO3
 obtain⟨_,_,rfl⟩:=OwnS.shape p3
 have hcd:cDisk a=cnt cHeld a.store+cnt cItem a.tree+cnt cSnap a.snaps:=rfl
 have H:Hp w0 G0 (fps [frag Fa1,frag Fa2,frag Fa3]) w0 G0 [frag Fa1,frag Fa2,frag Fa3]:=hLent.hp
 refine calls_of_W (l:=[_,.int .i64 k]) func12 Z ntmps12 Z (q2 (o_box H Z Z Z ?_));intro _ _ _ H
 refine aG Z (q1 (fA 0 Z (lB 0 H Z3 (mV Z ?_))))
 have H:=H.tF 1
 refine xc Z2 (w_markHeldS_c _ _ H.sub _ _ _ (show OHs Fa1 _ _ from⟨_,p1⟩) _ H.lent1 oO) ?_
 rintro _ _ ⟨_,_,_,rfl,H2',⟨_,rfl,rfl,hO2⟩⟩
 have H:=H.borrow1 H2'
 refine⟨_,Z,?_⟩
 refine aG Z (q1 (fA 1 Z (lB 1 H Z3 (mV Z ?_))))
 have H:=H.tF 2
 refine xc Z2 (w_markItemS_c _ _ H.sub _ _ _ (show OIs Fa2 _ _ from⟨_,p2⟩) _ H.lent1 oO) ?_
 rintro _ _ ⟨_,_,_,rfl,H3',⟨_,rfl,rfl,hO3⟩⟩
 have H:=H.borrow1 H3'
 refine⟨_,Z,?_⟩
 refine aG Z (q1 (fA 2 Z (lB 2 H Z3 (mV Z ?_))))
 have H:=H.tF 3
 refine xc Z2 (w_markSnapS_c _ _ H.sub _ _ _ (show OSn Fa3 _ _ from⟨_,p3⟩) _ H.lent1 oO) ?_
 rintro _ _ ⟨_,_,_,rfl,H4',⟨_,rfl,rfl,hO4⟩⟩
 have H:=H.borrow1 H4'
 refine⟨_,Z,?_⟩
 refine aG Z (q1 (pe 2 Z (q3 (W_ret (rt1 results12 Z ?_)))))
 have H:=H.dl 3
 have H:=H.tF 1
 have H:=H.tF 2
 exact H.retM ⟨_,_,_,congrArg (Value.int .i64) oM,Z,(show _ from hO2),(show _ from hO3),(show _ from hO4)⟩
theorem bf32:BuildFact Tryz.prog 32 [(0,1),(1,1),(2,1)] [.slice none 0 0,.slice none 0 0,.slice none 0 0]:=buildFact zeroValue32 runUnderlying32 (fun w=>by simp[sizeOf28,sizeOf29,sizeOf30])
theorem bf51:BuildFact Tryz.prog 51 [(0,1),(1,1),(2,1)] [str [],.bool false,.slice none 0 0]:=buildFact zeroValue51 runUnderlying51 (fun w=>by simp[sizeOf4,sizeOf9,sizeOf49])
theorem bf91:BuildFact Tryz.prog 91 [(0,1),(1,1)] [str [],.slice none 0 0]:=buildFact zeroValue91 runUnderlying91 (fun w=>by simp[sizeOf9,sizeOf29])
theorem bf113:BuildFact Tryz.prog 113 [(0,1),(1,1),(2,1)] [.int .i64 0,.slice none 0 0,.int .i64 0]:=buildFact zeroValue113 runUnderlying113 (fun w=>by simp[sizeOf3,sizeOf49])
theorem bf132:BuildFact Tryz.prog 132 [(0,1),(1,1)] [.map none,.pointer none]:=buildFact zeroValue132 runUnderlying132 (fun w=>by simp[sizeOf80,sizeOf130])
theorem bf135:BuildFact Tryz.prog 135 [(0,2),(2,2),(4,1)] [.int .i32 0,.int .u32 0,.map none,.pointer none,.slice none 0 0]:=buildFact zeroValue135 runUnderlying135 (fun w=>by simp[sizeOf128,sizeOf132,sizeOf133])
theorem bf150:BuildFact Tryz.prog 150 [(0,1),(1,1),(2,1),(3,1)] [str [],.bool false,.slice none 0 0,.slice none 0 0]:=buildFact zeroValue150 runUnderlying150 (fun w=>by simp[sizeOf4,sizeOf9,sizeOf49,sizeOf148])
theorem bf164:BuildFact Tryz.prog 164 [(0,1),(1,1)] [str [],.pointer none]:=buildFact zeroValue164 runUnderlying164 (fun w=>by simp[sizeOf9,sizeOf80])
theorem l_Equal_c (w0:World)(G0:PH)(hG:PSub G0 w0)(va:Value)(a:List (Int))(ha:RdI G0 va a)(vb:Value)(b:List (Int))(hb:RdI G0 vb b) :
  Calls Tryz.prog 196 #[va,vb] w0 (Rets w0 (.bool (Sp.l2Same a b))):=by
 obtain⟨aa,ka,rfl⟩:=ha.shape
 have hlima:a.length≤1099511627776:=ha.lim
 obtain⟨ab,kb,rfl⟩:=hb.shape
 have hlimb:b.length≤1099511627776:=hb.lim
 have H:=Hp.init hG
 refine calls_of_W (l:=[.slice aa a.length ka,.slice ab b.length kb]) func196 Z ntmps196 Z (q2 (aG Z (q3 (W_seq (q2 (mV Z (lN Z (mV Z (lN Z (pe 1 Z (q3 ?_)))))))))))
 refine W_cond Z ?_ ?_
 ·intro hc1
  try simp only[nrm]at hc1
  refine q2 (aG Z (q3 (W_ret (N_K_ret (rt1 results196 Z ?_)))))
  exact H.rets (congrArg Value.bool (by unfold Sp.l2Same;exact Sp.ne_len oM))
 intro hc1'
 try simp only[nrm]at hc1'
 refine W_skip (N_K (W_seq (q2 (mV Z (lN Z (mV Z (q3 (W_block ?_))))))))
 refine W_lp (hf:=(Sub.cons (t:=0) Z (Sub.cons (t:=1) Z (Sub.cons (t:=12) Z Sub.nil)))) (J:=fun M w m=>∃(k:Nat) (G:PH),M=[(13,.int .i64 (k:Int))]∧PLe G0 G∧Hp w0 G0 [] w G []∧(k≤a.length∧a.take k=b.take k)∧m=(a.length-k)) (h0:=⟨0,_,Z,PLe.refl _,H,?inv,Z⟩) (round:=?round)
 case inv=>exact⟨by omega,by simp⟩
 case round =>
  rintro _ _ _ ⟨k,G2,rfl,hle2,H,hinv2,rfl⟩
  have ha:=ha.up hle2
  have hb:=hb.up hle2
  obtain⟨_,hall⟩:=hinv2
  refine q2 (pe 1 Z (q3 (W_seq ?_)))
  refine W_cond Z ?_ ?_
  ·intro hc3
   try simp only[nrm]at hc3
   refine W_skip (N_K (W_seq (W_block (q2 (pe 2 Z (q3 (W_seq (W_drawK [] 9 H kR Z ?_))))))));intro _ H;have hd4:=PLe.refl G2
   refine dE 0 Z2 (dE 1 Z2 ?_)
   have hl5:=ha.len
   obtain⟨_,_,_,_,ha5,hz5,hq5,hE5,hrow5,_⟩:=ha.at (i:=k) oM
   clear hq5
   obtain⟨rfl,_⟩:=hE5
   refine dI 2 1 k ha5 Z3 Z (dP 3 hrow5 0 Z3 (dE 4 Z2 (dE 5 Z2 ?_)))
   have hl6:=hb.len
   obtain⟨_,_,_,_,ha6,hz6,hq6,hE6,hrow6,_⟩:=hb.at (i:=k) oM
   clear hq6
   obtain⟨rfl,_⟩:=hE6
   refine dI 6 1 k ha6 Z3 Z (dP 7 hrow6 0 Z3 (dE 8 Z2 (rz (N_K ?_))))
   refine W_cond Z ?_ ?_
   ·intro hc7
    try simp only[nrm]at hc7
    refine q2 (aG Z (q3 (W_ret (N_B_ret (N_K_ret (N_LP_ret (N_B_ret (N_K_ret (rt1 results196 Z ?_)))))))))
    exact H.rets (congrArg Value.bool (by unfold Sp.l2Same;exact Sp.ne_at hz5 hz6 oM))
   intro hc7'
   try simp only[nrm]at hc7'
   refine W_skip (N_B (N_K (W_region (aD Z2 (mV Z (R_nil ?_))))))
   refine N_lp (hJ:=⟨k+1,_,Z,hle2,H,?inv,Z⟩) (hm:=?hm)
   case hm=>omega
   case inv=>exact⟨by omega,Sp.take_eq hall hz5 (by rw[hz6];congr 1;omega)⟩
  intro hc3'
  try simp only[nrm]at hc3'
  refine W_exit (N_K_exit (N_LP_exit (N_B_same (N_K (q2 (aG Z (q3 (W_ret (rt1 results196 Z ?_)))))))))
  exact H.rets (congrArg Value.bool (by unfold Sp.l2Same;exact Sp.eq_all hall oM oM))
theorem l_Clone_c (w0:World)(G0:PH)(hG:PSub G0 w0)(vl:Value)(l:List (Int))(hl:RdI G0 vl l) :
  Calls Tryz.prog 147 #[vl] w0 (RetO w0 G0 (AccOf intE 1 3 l)):=by
 obtain⟨al,kl,rfl⟩:=hl.shape
 have hliml:l.length≤1099511627776:=hl.lim
 have H:=Hp.init hG
 refine calls_of_W (l:=[.slice al l.length kl]) func147 Z ntmps147 Z (q2 (aG Z (q3 (W_seq (q2 (mV Z (o_eqnil_slice underlying49 Z Z Z (q3 ?_))))))))
 refine W_cond Z ?_ ?_
 ·intro hc1
  try simp only[nrm]at hc1
  refine q2 (aG Z (q3 (W_ret (N_K_ret (rt1 results147 Z ?_)))))
  obtain rfl:al=none:=by simpa using hc1
  obtain rfl:l=[]:=by obtain⟨_,_,h1,_,_,h2⟩:=hl;rcases h2 with h2|⟨b,o,h2,_⟩;(· exact h2);simp only[Value.slice.injEq]at h1;rw[←h1.1]at h2;cases h2
  have H:=H.addNil 3 1
  exact H.retO (k:=0) Z (AccOf.mk Z Chk.nil) (acc_nd _ _ _ _ _)
 intro hc1'
 try simp only[nrm]at hc1'
 refine W_skip (N_K (q2 (xbs H Z7 ?_)));intro _ _ _ H
 have H:=H.blkAcc 1 (k:=0) (n:=0) rfl rfl (by decide)
 refine mV Z ?_
 refine o_append_P 0 H hl (by intro _ _ hz _ hu;obtain⟨rfl,_⟩:=hz;simp at hu;subst hu;rfl) (sz:=1) (bytes:=8) underlying49 typeInfo3 ⟨_,rfl,rfl⟩ rfl rfl rfl rfl rfl rfl rfl oM rfl ?_;intro _ _ css3 hcl3 hcs3 H
 have hchk3:Chk intE 1 G0 ([]++css3.flatten) _:=⟨css3,rfl,hcl3,hcs3⟩
 obtain⟨_,_,rfl⟩:=H.accShape (k:=0) rfl
 refine aG Z (q3 (W_ret (rt1 results147 Z ?_)))
 exact H.retO (k:=0) rfl (by skip;exact AccOf.mk aN hchk3) (acc_nd _ _ _ _ _)
theorem i_bytesValid_c (w0:World)(G0:PH)(hG:PSub G0 w0)(vbytes:Value)(bytes:List (Int))(hbytes:RdI G0 vbytes bytes) :
  Calls Tryz.prog 157 #[vbytes] w0 (Rets w0 (.bool (bytes.all Sp.byteOk))):=by
 obtain⟨abytes,kbytes,rfl⟩:=hbytes.shape
 have hlimbytes:bytes.length≤1099511627776:=hbytes.lim
 have H:=Hp.init hG
 refine calls_of_W (l:=[.slice abytes bytes.length kbytes]) func157 Z ntmps157 Z (q2 (aG Z (q3 (W_seq (q2 (mV Z (lN Z (mV Z (q3 (W_block ?_))))))))))
 refine W_lp (hf:=(Sub.cons (t:=5) Z (Sub.cons (t:=6) Z Sub.nil))) (J:=fun M w m=>∃(k:Nat) (G:PH),M=[(7,.int .i64 (k:Int))]∧PLe G0 G∧Hp w0 G0 [] w G []∧(k≤bytes.length∧(bytes.take k).all Sp.byteOk=true)∧m=(bytes.length-k)) (h0:=⟨0,_,Z,PLe.refl _,H,?inv,Z⟩) (round:=?round)
 case inv=>exact⟨by omega,by simp⟩
 case round =>
  rintro _ _ _ ⟨k,_,rfl,hle1,H,hinv1,rfl⟩
  have hbytes:=hbytes.up hle1
  obtain⟨_,hall⟩:=hinv1
  refine q2 (pe 1 Z (q3 (W_seq ?_)))
  refine W_cond Z ?_ ?_
  ·intro hc2
   try simp only[nrm]at hc2
   refine W_skip (N_K (W_seq (W_block (q2 (iP k hbytes Z3 Z ?_)))));intro _ _ _ _ hz3 hE3 hrow3
   obtain⟨rfl,_⟩:=hE3
   refine lP H hrow3 0 Z2 (aG Z (q1 (pe 3 Z ?_)))
   refine R_case (t:=13) Z ?_ ?_
   ·intro hc4
    try simp only[nrm]at hc4
    refine pe 3 Z (q3 (W_true Z (q2 (aG Z (q3 (W_ret (N_B_ret (N_K_ret (N_LP_ret (N_B_ret (N_K_ret (rt1 results157 Z ?_))))))))))))
    exact H.rets (congrArg Value.bool (by rw[Sp.all_false hz3 (by simp[Sp.byteOk,Sp.l6In];omega)]))
   intro hc4'
   try simp only[nrm]at hc4'
   refine pe 3 Z (q3 ?_)
   refine W_cond Z ?_ ?_
   ·intro hc5
    try simp only[nrm]at hc5
    refine q2 (aG Z (q3 (W_ret (N_B_ret (N_K_ret (N_LP_ret (N_B_ret (N_K_ret (rt1 results157 Z ?_)))))))))
    exact H.rets (congrArg Value.bool (by rw[Sp.all_false hz3 (by simp[Sp.byteOk,Sp.l6In];omega)]))
   intro hc5'
   try simp only[nrm]at hc5'
   refine W_skip (N_B (N_K (W_region (aD Z2 (mV Z (R_nil ?_))))))
   refine N_lp (hJ:=⟨k+1,_,Z,hle1,H,?inv,Z⟩) (hm:=?hm)
   case hm=>omega
   case inv=>exact⟨by omega,Sp.all_take hall hz3 (by simp[Sp.byteOk,Sp.l6In];omega)⟩
  intro hc2'
  try simp only[nrm]at hc2'
  refine W_exit (N_K_exit (N_LP_exit (N_B_same (N_K (q2 (aG Z (q3 (W_ret (rt1 results157 Z ?_)))))))))
  obtain rfl:k=bytes.length:=by omega
  rw[List.take_length]at hall
  exact H.rets (congrArg Value.bool (by rw[hall]))
theorem i_BlockValid_c (w0:World)(G0:PH)(hG:PSub G0 w0)(vbytes:Value)(bytes:List (Int))(hbytes:RdI G0 vbytes bytes) :
  Calls Tryz.prog 195 #[vbytes] w0 (Rets w0 (.bool (Sp.BlockValid bytes))):=by
 obtain⟨abytes,kbytes,rfl⟩:=hbytes.shape
 have hlimbytes:bytes.length≤1099511627776:=hbytes.lim
 have H:=Hp.init hG
 refine calls_of_W (l:=[.slice abytes bytes.length kbytes]) func195 Z ntmps195 Z (q2 (aG Z (q1 (mV Z (lN Z (pe 2 Z ?_))))))
 refine R_case (t:=6) Z ?_ ?_
 ·intro hc1
  try simp only[nrm]at hc1
  refine pe 1 Z (gR Z (lN Z (pe 3 Z ?_)))
  refine R_case (t:=11) Z ?_ ?_
  ·intro hc2
   try simp only[nrm]at hc2
   refine pe 1 Z (gR Z (xr H Z2 (i_bytesValid_c _ _ H.sub _ _ hbytes) ?_));intro _ H
   refine pe 2 Z (q3 (W_ret (rt1 results195 Z ?_)))
   exact H.rets (congrArg Value.bool (by unfold Sp.BlockValid Sp.l6In;rw[Bool.eq_iff_iff];simp;omega))
  intro hc2'
  try simp only[nrm]at hc2'
  refine pe 4 Z (q3 (W_ret (rt1 results195 Z ?_)))
  exact H.rets (congrArg Value.bool (by unfold Sp.BlockValid Sp.l6In;rw[Bool.eq_iff_iff];simp;omega))
 intro hc1'
 try simp only[nrm]at hc1'
 refine pe 9 Z (q3 (W_ret (rt1 results195 Z ?_)))
 exact H.rets (congrArg Value.bool (by unfold Sp.BlockValid Sp.l6In;rw[Bool.eq_iff_iff];simp;omega))
theorem i_partValid_c (w0:World)(s:Bs)(hs:s.length≤16777216) :
  Calls Tryz.prog 110 #[str s] w0 (Rets w0 (.bool (Sp.l1Word s))):=by
 have H:=Hp.init0 w0
 refine calls_of_W (l:=[str s]) func110 Z ntmps110 Z (q2 (aG Z (q3 (W_seq (q2 (mV Z (lS Z (pe 2 Z ?_))))))))
 refine R_case (t:=7) Z ?_ ?_
 ·intro hc1
  try simp only[nrm]at hc1
  refine pe 4 Z (q3 (W_true Z (q2 (aG Z (q3 (W_ret (N_K_ret (rt1 results110 Z ?_))))))))
  exact H.rets (congrArg Value.bool (by unfold Sp.l1Word;rw[Bool.eq_iff_iff];simp;omega))
 intro hc1'
 try simp only[nrm]at hc1'
 refine pe 1 Z (gR Z (lS Z (pe 2 Z (q3 ?_))))
 refine W_cond Z ?_ ?_
 ·intro hc2
  try simp only[nrm]at hc2
  refine q2 (aG Z (q3 (W_ret (N_K_ret (rt1 results110 Z ?_)))))
  exact H.rets (congrArg Value.bool (by unfold Sp.l1Word;rw[Bool.eq_iff_iff];simp;omega))
 intro hc2'
 try simp only[nrm]at hc2'
 refine W_skip (N_K (W_seq (q2 (aG Z (q3 (W_block ?_))))))
 refine W_lp (hf:=(Sub.cons (t:=0) Z Sub.nil)) (J:=fun M w m=>∃(k:Nat) (G:PH),M=[(3,.int .i64 (k:Int))]∧PLe (fun _=>none) G∧Hp w0 (fun _=>none) [] w G []∧(k≤s.length∧(s.take k).all Sp.low=true)∧m=(s.length-k)) (h0:=⟨0,_,Z,PLe.refl _,H,?inv,Z⟩) (round:=?round)
 case inv=>exact⟨by omega,by simp⟩
 case round =>
  rintro _ _ _ ⟨k,_,rfl,hle3,H,hinv3,rfl⟩
  obtain⟨_,hall⟩:=hinv3
  refine W_seq (q2 (pe 2 Z (lS Z (pe 1 Z (q3 ?_)))))
  refine W_cond Z ?_ ?_
  ·intro hc4
   try simp only[nrm]at hc4
   refine W_skip (N_K (W_seq (W_block (q2 (pe 2 Z (o_index_str underlying9 Z Z Z Z oM ?_))))));intro ch5 hch5;have hlt5:=ch5.toNat_lt
   refine pe 2 Z ?_
   refine R_case (t:=22) Z ?_ ?_
   ·intro hc6
    try simp only[nrm]at hc6
    refine pe 5 Z (q3 (W_true Z (q2 (aG Z (q3 (W_ret (N_B_ret (N_K_ret (N_LP_ret (N_B_ret (N_K_ret (rt1 results110 Z ?_))))))))))))
    exact H.rets (congrArg Value.bool (by rw[Sp.l1Word,Sp.all_false hch5 (by simp[Sp.low];omega)];rfl))
   intro hc6'
   try simp only[nrm]at hc6'
   refine pe 2 Z (gR Z (o_index_str underlying9 Z Z Z Z oM ?_));intro ch7 hch7;have hlt7:=ch7.toNat_lt
   obtain rfl:ch7=ch5:=Option.some.inj (hch7.symm.trans hch5)
   refine pe 2 Z (q3 ?_)
   refine W_cond Z ?_ ?_
   ·intro hc8
    try simp only[nrm]at hc8
    refine q2 (aG Z (q3 (W_ret (N_B_ret (N_K_ret (N_LP_ret (N_B_ret (N_K_ret (rt1 results110 Z ?_)))))))))
    exact H.rets (congrArg Value.bool (by rw[Sp.l1Word,Sp.all_false hch7 (by simp[Sp.low];omega)];rfl))
   intro hc8'
   try simp only[nrm]at hc8'
   refine W_skip (N_B (N_K (W_region (mV Z (aD Z2 (aG Z (R_nil ?_)))))))
   refine N_lp (hJ:=⟨k+1,_,Z,hle3,H,?inv,Z⟩) (hm:=?hm)
   case hm=>omega
   case inv=>exact⟨by omega,Sp.all_take hall hch7 (by simp[Sp.low];omega)⟩
  intro hc4'
  try simp only[nrm]at hc4'
  refine W_exit (N_K_exit (N_LP_exit (N_B_same (N_K (q2 (aG Z (q3 (W_ret (rt1 results110 Z ?_)))))))))
  obtain rfl:k=s.length:=by omega
  rw[List.take_length]at hall
  exact H.rets (congrArg Value.bool (by simp only[Sp.l1Word,hall];rw[Bool.eq_iff_iff];simp;omega))
end Go.Proofs.Tst
namespace Go.Proofs
open Go.Shelf
def Tryz.keysA_ren:Go.Shelf.Ren:=⟨fun|7=>164|10=>204|n=>n,fun|23=>130|26=>3|3=>113|28=>199|0=>0|27=>198|33=>179|4=>4|n=>n,fun|n=>n⟩
theorem Tryz.keysA:Go.Proofs.SlLaysZI.n7 Tryz.prog Tryz.keysA_ren:={
 mixed:=by kernel_rfl
 f7:=⟨Tryz.f164.name,by decide,Tryz.func164.trans (congrArg some (by kernel_rfl))⟩
 f10:=⟨Tryz.f204.name,by decide,Tryz.func204.trans (congrArg some (by kernel_rfl))⟩
 t0:=Tryz.underlying0
 a0:=Tryz.isAgg0
 z0:=Tryz.sizeOf0
 v0:=Tryz.zeroValue0
 t4:=Tryz.underlying4
 a4:=Tryz.isAgg4
 z4:=Tryz.sizeOf4
 v4:=Tryz.zeroValue4
 t23:=Tryz.underlying130
 a23:=Tryz.isAgg130
 z23:=Tryz.sizeOf130
 v23:=Tryz.zeroValue130
 t26:=Tryz.underlying3
 a26:=Tryz.isAgg3
 z26:=Tryz.sizeOf3
 v26:=Tryz.zeroValue3
 t27:=Tryz.underlying198
 a27:=Tryz.isAgg198
 z27:=Tryz.sizeOf198
 v27:=Tryz.zeroValue198
 t28:=Tryz.underlying199
 a28:=Tryz.isAgg199
 z28:=Tryz.sizeOf199
 v28:=Tryz.zeroValue199
 t33:=Tryz.underlying179
 a33:=Tryz.isAgg179
 z33:=Tryz.sizeOf179
 v33:=Tryz.zeroValue179}
def Tryz.sortedA_ren:Go.Shelf.Ren:=⟨fun|6=>163|8=>202|9=>203|11=>226|13=>151|12=>227|23=>192|24=>193|14=>236|15=>237|16=>238|17=>239|18=>240|19=>241|20=>242|21=>243|22=>244|25=>252|26=>220|27=>221|28=>253|29=>254|30=>255|31=>261|n=>n,fun|26=>3|28=>199|24=>49|0=>0|3=>3|37=>192|48=>124|50=>225|4=>4|40=>218|39=>217|45=>186|5=>5|9=>9|51=>245|55=>249|57=>260|58=>261|33=>179|n=>n,fun|n=>n⟩
theorem Tryz.sortedA:Go.Proofs.SlLaysZI.n6 Tryz.prog Tryz.sortedA_ren:={
 mixed:=by kernel_rfl
 f6:=⟨Tryz.f163.name,by decide,Tryz.func163.trans (congrArg some (by kernel_rfl))⟩
 f8:=⟨Tryz.f202.name,by decide,Tryz.func202.trans (congrArg some (by kernel_rfl))⟩
 f11:=⟨Tryz.f226.name,by decide,Tryz.func226.trans (congrArg some (by kernel_rfl))⟩
 t0:=Tryz.underlying0
 a0:=Tryz.isAgg0
 z0:=Tryz.sizeOf0
 v0:=Tryz.zeroValue0
 t24:=Tryz.underlying49
 a24:=Tryz.isAgg49
 z24:=Tryz.sizeOf49
 v24:=Tryz.zeroValue49
 t26:=Tryz.underlying3
 a26:=Tryz.isAgg3
 z26:=Tryz.sizeOf3
 v26:=Tryz.zeroValue3
 t28:=Tryz.underlying199
 a28:=Tryz.isAgg199
 z28:=Tryz.sizeOf199
 v28:=Tryz.zeroValue199
 i26:=by kernel_rfl}
def Tryz.sortA_ren:Go.Shelf.Ren:=⟨fun|5=>203|8=>151|7=>227|19=>192|20=>193|10=>236|11=>237|12=>238|13=>239|14=>240|15=>241|16=>242|17=>243|18=>244|30=>252|31=>220|32=>221|33=>253|34=>254|35=>255|40=>261|n=>n,fun|23=>49|25=>3|3=>3|32=>192|22=>49|0=>0|44=>124|46=>225|4=>4|36=>218|35=>217|41=>186|5=>5|9=>9|53=>245|57=>249|63=>260|64=>261|n=>n,fun|n=>n⟩
theorem Tryz.sortA:Go.Proofs.SlLaysM.n5 Tryz.prog Tryz.sortA_ren:={
 mixed:=by kernel_rfl
 f5:=⟨Tryz.f203.name,by decide,Tryz.func203.trans (congrArg some (by kernel_rfl))⟩
 f7:=⟨Tryz.f227.name,by decide,Tryz.func227.trans (congrArg some (by kernel_rfl))⟩
 f8:=Tryz.func151.trans (congrArg some (by kernel_rfl))
 f10:=⟨Tryz.f236.name,by decide,Tryz.func236.trans (congrArg some (by kernel_rfl))⟩
 f11:=⟨Tryz.f237.name,by decide,Tryz.func237.trans (congrArg some (by kernel_rfl))⟩
 f12:=⟨Tryz.f238.name,by decide,Tryz.func238.trans (congrArg some (by kernel_rfl))⟩
 f13:=⟨Tryz.f239.name,by decide,Tryz.func239.trans (congrArg some (by kernel_rfl))⟩
 f14:=⟨Tryz.f240.name,by decide,Tryz.func240.trans (congrArg some (by kernel_rfl))⟩
 f15:=⟨Tryz.f241.name,by decide,Tryz.func241.trans (congrArg some (by kernel_rfl))⟩
 f16:=⟨Tryz.f242.name,by decide,Tryz.func242.trans (congrArg some (by kernel_rfl))⟩
 f17:=⟨Tryz.f243.name,by decide,Tryz.func243.trans (congrArg some (by kernel_rfl))⟩
 f18:=⟨Tryz.f244.name,by decide,Tryz.func244.trans (congrArg some (by kernel_rfl))⟩
 f19:=Tryz.func192.trans (congrArg some (by kernel_rfl))
 f20:=Tryz.func193.trans (congrArg some (by kernel_rfl))
 f30:=⟨Tryz.f252.name,by decide,Tryz.func252.trans (congrArg some (by kernel_rfl))⟩
 f31:=Tryz.func220.trans (congrArg some (by kernel_rfl))
 f32:=Tryz.func221.trans (congrArg some (by kernel_rfl))
 f33:=⟨Tryz.f253.name,by decide,Tryz.func253.trans (congrArg some (by kernel_rfl))⟩
 f34:=⟨Tryz.f254.name,by decide,Tryz.func254.trans (congrArg some (by kernel_rfl))⟩
 f35:=⟨Tryz.f255.name,by decide,Tryz.func255.trans (congrArg some (by kernel_rfl))⟩
 f40:=⟨Tryz.f261.name,by decide,Tryz.func261.trans (congrArg some (by kernel_rfl))⟩
 t0:=Tryz.underlying0
 a0:=Tryz.isAgg0
 z0:=Tryz.sizeOf0
 v0:=Tryz.zeroValue0
 t3:=Tryz.underlying3
 a3:=Tryz.isAgg3
 z3:=Tryz.sizeOf3
 v3:=Tryz.zeroValue3
 t4:=Tryz.underlying4
 a4:=Tryz.isAgg4
 z4:=Tryz.sizeOf4
 v4:=Tryz.zeroValue4
 t5:=Tryz.underlying5
 a5:=Tryz.isAgg5
 z5:=Tryz.sizeOf5
 v5:=Tryz.zeroValue5
 t9:=Tryz.underlying9
 a9:=Tryz.isAgg9
 z9:=Tryz.sizeOf9
 v9:=Tryz.zeroValue9
 t22:=Tryz.underlying49
 a22:=Tryz.isAgg49
 z22:=Tryz.sizeOf49
 v22:=Tryz.zeroValue49
 t23:=Tryz.underlying49
 a23:=Tryz.isAgg49
 z23:=Tryz.sizeOf49
 v23:=Tryz.zeroValue49
 t25:=Tryz.underlying3
 a25:=Tryz.isAgg3
 z25:=Tryz.sizeOf3
 v25:=Tryz.zeroValue3
 t32:=Tryz.underlying192
 a32:=Tryz.isAgg192
 z32:=Tryz.sizeOf192
 v32:=Tryz.zeroValue192
 t35:=Tryz.underlying217
 a35:=Tryz.isAgg217
 z35:=Tryz.sizeOf217
 v35:=Tryz.zeroValue217
 t36:=Tryz.underlying218
 a36:=Tryz.isAgg218
 z36:=Tryz.sizeOf218
 v36:=Tryz.zeroValue218
 t41:=Tryz.underlying186
 a41:=Tryz.isAgg186
 z41:=Tryz.sizeOf186
 v41:=Tryz.zeroValue186
 t44:=Tryz.underlying124
 a44:=Tryz.isAgg124
 z44:=Tryz.sizeOf124
 v44:=Tryz.zeroValue124
 t46:=Tryz.underlying225
 a46:=Tryz.isAgg225
 z46:=Tryz.sizeOf225
 v46:=Tryz.zeroValue225
 t53:=Tryz.underlying245
 a53:=Tryz.isAgg245
 z53:=Tryz.sizeOf245
 v53:=Tryz.zeroValue245
 t57:=Tryz.underlying249
 a57:=Tryz.isAgg249
 z57:=Tryz.sizeOf249
 v57:=Tryz.zeroValue249
 t63:=Tryz.underlying260
 a63:=Tryz.isAgg260
 z63:=Tryz.sizeOf260
 v63:=Tryz.zeroValue260
 t64:=Tryz.underlying261
 a64:=Tryz.isAgg261
 z64:=Tryz.sizeOf261
 v64:=Tryz.zeroValue261}
def Tryz.sortF_ren:Go.Shelf.Ren:=⟨fun|6=>105|15=>151|14=>150|28=>192|29=>193|20=>184|21=>185|22=>186|23=>187|24=>188|25=>189|26=>190|27=>191|46=>219|47=>220|48=>221|49=>222|50=>223|57=>232|n=>n,fun|22=>29|24=>51|25=>158|3=>3|39=>192|0=>0|53=>124|55=>225|4=>4|46=>218|45=>217|50=>186|5=>5|9=>9|66=>245|70=>249|76=>260|77=>261|n=>n,fun|n=>n⟩
theorem Tryz.sortF:Go.Proofs.SlLaysF0.n6 Tryz.prog Tryz.sortF_ren:={
 mixed:=by kernel_rfl
 f6:=⟨Tryz.f105.name,by decide,Tryz.func105.trans (congrArg some (by kernel_rfl))⟩
 f14:=⟨Tryz.f150.name,by decide,Tryz.func150.trans (congrArg some (by kernel_rfl))⟩
 f15:=Tryz.func151.trans (congrArg some (by kernel_rfl))
 f20:=⟨Tryz.f184.name,by decide,Tryz.func184.trans (congrArg some (by kernel_rfl))⟩
 f21:=⟨Tryz.f185.name,by decide,Tryz.func185.trans (congrArg some (by kernel_rfl))⟩
 f22:=⟨Tryz.f186.name,by decide,Tryz.func186.trans (congrArg some (by kernel_rfl))⟩
 f23:=⟨Tryz.f187.name,by decide,Tryz.func187.trans (congrArg some (by kernel_rfl))⟩
 f24:=⟨Tryz.f188.name,by decide,Tryz.func188.trans (congrArg some (by kernel_rfl))⟩
 f25:=⟨Tryz.f189.name,by decide,Tryz.func189.trans (congrArg some (by kernel_rfl))⟩
 f26:=⟨Tryz.f190.name,by decide,Tryz.func190.trans (congrArg some (by kernel_rfl))⟩
 f27:=⟨Tryz.f191.name,by decide,Tryz.func191.trans (congrArg some (by kernel_rfl))⟩
 f28:=Tryz.func192.trans (congrArg some (by kernel_rfl))
 f29:=Tryz.func193.trans (congrArg some (by kernel_rfl))
 f46:=⟨Tryz.f219.name,by decide,Tryz.func219.trans (congrArg some (by kernel_rfl))⟩
 f47:=Tryz.func220.trans (congrArg some (by kernel_rfl))
 f48:=Tryz.func221.trans (congrArg some (by kernel_rfl))
 f49:=⟨Tryz.f222.name,by decide,Tryz.func222.trans (congrArg some (by kernel_rfl))⟩
 f50:=⟨Tryz.f223.name,by decide,Tryz.func223.trans (congrArg some (by kernel_rfl))⟩
 f57:=⟨Tryz.f232.name,by decide,Tryz.func232.trans (congrArg some (by kernel_rfl))⟩
 t0:=Tryz.underlying0
 a0:=Tryz.isAgg0
 z0:=Tryz.sizeOf0
 v0:=Tryz.zeroValue0
 t3:=Tryz.underlying3
 a3:=Tryz.isAgg3
 z3:=Tryz.sizeOf3
 v3:=Tryz.zeroValue3
 t4:=Tryz.underlying4
 a4:=Tryz.isAgg4
 z4:=Tryz.sizeOf4
 v4:=Tryz.zeroValue4
 t5:=Tryz.underlying5
 a5:=Tryz.isAgg5
 z5:=Tryz.sizeOf5
 v5:=Tryz.zeroValue5
 t9:=Tryz.underlying9
 a9:=Tryz.isAgg9
 z9:=Tryz.sizeOf9
 v9:=Tryz.zeroValue9
 t22:=Tryz.underlying29
 a22:=Tryz.isAgg29
 z22:=Tryz.sizeOf29
 v22:=Tryz.zeroValue29
 t25:=Tryz.underlying158
 a25:=Tryz.isAgg158
 z25:=Tryz.sizeOf158
 v25:=Tryz.zeroValue158
 t39:=Tryz.underlying192
 a39:=Tryz.isAgg192
 z39:=Tryz.sizeOf192
 v39:=Tryz.zeroValue192
 t45:=Tryz.underlying217
 a45:=Tryz.isAgg217
 z45:=Tryz.sizeOf217
 v45:=Tryz.zeroValue217
 t46:=Tryz.underlying218
 a46:=Tryz.isAgg218
 z46:=Tryz.sizeOf218
 v46:=Tryz.zeroValue218
 t50:=Tryz.underlying186
 a50:=Tryz.isAgg186
 z50:=Tryz.sizeOf186
 v50:=Tryz.zeroValue186
 t53:=Tryz.underlying124
 a53:=Tryz.isAgg124
 z53:=Tryz.sizeOf124
 v53:=Tryz.zeroValue124
 t55:=Tryz.underlying225
 a55:=Tryz.isAgg225
 z55:=Tryz.sizeOf225
 v55:=Tryz.zeroValue225
 t66:=Tryz.underlying245
 a66:=Tryz.isAgg245
 z66:=Tryz.sizeOf245
 v66:=Tryz.zeroValue245
 t70:=Tryz.underlying249
 a70:=Tryz.isAgg249
 z70:=Tryz.sizeOf249
 v70:=Tryz.zeroValue249
 t76:=Tryz.underlying260
 a76:=Tryz.isAgg260
 z76:=Tryz.sizeOf260
 v76:=Tryz.zeroValue260
 t77:=Tryz.underlying261
 a77:=Tryz.isAgg261
 z77:=Tryz.sizeOf261
 v77:=Tryz.zeroValue261}
def Tryz.lays143_ren:Go.Shelf.Ren:=⟨fun|143=>235|219=>251|217=>257|225=>258|224=>259|267=>260|266=>262|314=>263|n=>n,fun|9=>9|3=>3|4=>4|5=>5|46=>192|146=>283|51=>124|n=>n,fun|1=>0|n=>n⟩
theorem Tryz.lays143:Go.Proofs.Lays.n143 Tryz.prog Tryz.lays143_ren:={
 mixed:=by kernel_rfl
 f143:=Tryz.func235.trans (congrArg some (by kernel_rfl))
 f217:=Tryz.func257.trans (congrArg some (by kernel_rfl))
 f219:=Tryz.func251.trans (congrArg some (by kernel_rfl))
 f224:=Tryz.func259.trans (congrArg some (by kernel_rfl))
 f225:=Tryz.func258.trans (congrArg some (by kernel_rfl))
 f266:=Tryz.func262.trans (congrArg some (by kernel_rfl))
 f267:=Tryz.func260.trans (congrArg some (by kernel_rfl))
 f314:=Tryz.func263.trans (congrArg some (by kernel_rfl))
 t3:=Tryz.underlying3
 a3:=Tryz.isAgg3
 z3:=Tryz.sizeOf3
 v3:=Tryz.zeroValue3
 t4:=Tryz.underlying4
 a4:=Tryz.isAgg4
 z4:=Tryz.sizeOf4
 v4:=Tryz.zeroValue4
 t5:=Tryz.underlying5
 a5:=Tryz.isAgg5
 z5:=Tryz.sizeOf5
 v5:=Tryz.zeroValue5
 t9:=Tryz.underlying9
 a9:=Tryz.isAgg9
 z9:=Tryz.sizeOf9
 v9:=Tryz.zeroValue9
 t46:=Tryz.underlying192
 a46:=Tryz.isAgg192
 z46:=Tryz.sizeOf192
 v46:=Tryz.zeroValue192
 t51:=Tryz.underlying124
 a51:=Tryz.isAgg124
 z51:=Tryz.sizeOf124
 v51:=Tryz.zeroValue124
 t146:=Tryz.underlying283
 a146:=Tryz.isAgg283
 z146:=Tryz.sizeOf283
 v146:=Tryz.zeroValue283
 g1:=by kernel_rfl}
def Tryz.lays138_ren:Go.Shelf.Ren:=⟨fun|138=>234|195=>248|218=>250|143=>235|219=>251|217=>257|225=>258|224=>259|267=>260|266=>262|314=>263|n=>n,fun|9=>9|3=>3|4=>4|5=>5|0=>0|46=>192|146=>283|51=>124|n=>n,fun|1=>0|n=>n⟩
theorem Tryz.lays138:Go.Proofs.Lays.n138 Tryz.prog Tryz.lays138_ren:={
 mixed:=by kernel_rfl
 f138:=Tryz.func234.trans (congrArg some (by kernel_rfl))
 f143:=Tryz.func235.trans (congrArg some (by kernel_rfl))
 f195:=Tryz.func248.trans (congrArg some (by kernel_rfl))
 f217:=Tryz.func257.trans (congrArg some (by kernel_rfl))
 f218:=Tryz.func250.trans (congrArg some (by kernel_rfl))
 f219:=Tryz.func251.trans (congrArg some (by kernel_rfl))
 f224:=Tryz.func259.trans (congrArg some (by kernel_rfl))
 f225:=Tryz.func258.trans (congrArg some (by kernel_rfl))
 f266:=Tryz.func262.trans (congrArg some (by kernel_rfl))
 f267:=Tryz.func260.trans (congrArg some (by kernel_rfl))
 f314:=Tryz.func263.trans (congrArg some (by kernel_rfl))
 t0:=Tryz.underlying0
 a0:=Tryz.isAgg0
 z0:=Tryz.sizeOf0
 v0:=Tryz.zeroValue0
 t3:=Tryz.underlying3
 a3:=Tryz.isAgg3
 z3:=Tryz.sizeOf3
 v3:=Tryz.zeroValue3
 t4:=Tryz.underlying4
 a4:=Tryz.isAgg4
 z4:=Tryz.sizeOf4
 v4:=Tryz.zeroValue4
 t5:=Tryz.underlying5
 a5:=Tryz.isAgg5
 z5:=Tryz.sizeOf5
 v5:=Tryz.zeroValue5
 t9:=Tryz.underlying9
 a9:=Tryz.isAgg9
 z9:=Tryz.sizeOf9
 v9:=Tryz.zeroValue9
 t46:=Tryz.underlying192
 a46:=Tryz.isAgg192
 z46:=Tryz.sizeOf192
 v46:=Tryz.zeroValue192
 t51:=Tryz.underlying124
 a51:=Tryz.isAgg124
 z51:=Tryz.sizeOf124
 v51:=Tryz.zeroValue124
 t146:=Tryz.underlying283
 a146:=Tryz.isAgg283
 z146:=Tryz.sizeOf283
 v146:=Tryz.zeroValue283
 g1:=by kernel_rfl}
end Go.Proofs
namespace Fw
open Go Go.RowKit Go.Maps Go.Sort Go.Shelf Go.Proofs
open Go.WideElems (Fit rg)
def unitR:Value→Option (DataW Unit×List MemPlace):=fun _=>some (.agg [],[])
theorem owns_of {P:Program}{k:TypeId}{w:World}{b:Nat}{es:Array MapEntry}{clock:Nat}{xs:List (Int×Value)}(hk:P.underlying k=some (.int .i64))(hb:w.heap[b]? = some (.map es clock))(hm:MapIs (Value.int .i64) es clock xs)(hw:∀x,x ∈ xs→inI x.1)(hl:xs.length≤1000000) :
  ∃D:DataW Unit,w.ownsMap P k unitR b xs.length D∧(intKeys D).Perm (xs.map (·.1))∧Maps.size D=xs.length:=by
 have hsz:es.size=xs.length:=by have:=congrArg List.length hm.kv;simpa using this
 have hkey:∀x,x ∈ es.toList→∃y,y ∈ xs∧x.key= .int .i64 y.1:=by
  intro x hx
  have:(x.key,x.val) ∈ xs.map (fun y=>(Value.int .i64 y.1,y.2)):=by rw[←hm.kv];exact List.mem_map.2 ⟨x,hx,rfl⟩
  obtain⟨y,h1,h2⟩:=List.mem_map.1 this
  simp only[Prod.mk.injEq]at h2
  exact⟨y,h1,h2.1.symm⟩
 have hwf:∀a:Int,inI a→(Lit.int .i64 a).wf=true:=by
  intro a ha
  unfold inI at ha
  have h1:IntKind.i64.min= -9223372036854775808:=by decide
  have h2:IntKind.i64.max=9223372036854775807:=by decide
  simp only[Lit.wf,h1,h2]
  simp
  omega
 have hrd:∀x,x ∈ es.toList→∃y,y ∈ xs∧x.key= .int .i64 y.1∧Go.WideElems.rd P k unitR x=some (.int .i64 y.1,.agg []):=by
  intro x hx
  obtain⟨y,h1,h2⟩:=hkey x hx
  refine⟨y,h1,h2,?_⟩
  simp only[Go.WideElems.rd,h2,keyOf_int_mk hk (hwf _ (hw y h1)),unitR]
  rfl
 refine⟨.map ((es.toList.map (rg P k unitR)).foldr DataW.insert []),⟨es,clock,hb,⟨?_,⟨hm.lt,hm.born,?_⟩,?_⟩,by omega,rfl⟩,?_,?_⟩
 ·simp only[maxLen];omega
 ·have h1 : es.toList.map (·.key) = xs.map (fun x => Value.int .i64 x.1) := by
   have:=congrArg (List.map (·.1)) hm.kv
   rw[List.map_map,List.map_map]at this
   exact this
  rw[h1]
  have:(xs.map (fun x=>Value.int .i64 x.1))=(xs.map (·.1)).map (Value.int .i64):=by simp[List.map_map]
  rw[this,List.nodup_iff_pairwise_ne,List.pairwise_map]
  exact(List.nodup_iff_pairwise_ne.1 hm.nd).imp (fun h e=>h (by simpa using e))
 ·intro x hx
  obtain⟨y,_,_,h3⟩:=hrd x hx
  exact⟨_,h3⟩
 ·have hp:=(WideShapes.sorted_perm (es.toList.map (rg P k unitR))).map (fun p:Lit×DataW Unit=>intOf p.1)
  show List.Perm (List.map (fun p:Lit×DataW Unit=>intOf p.1) _) _
  refine hp.trans ?_
  rw[List.map_map]
  have key : ∀ (l : List MapEntry) (ys : List (Int × Value)), (∀ x, x ∈ l → ∃ y, y ∈ xs ∧ x.key = .int .i64 y.1 ∧ Go.WideElems.rd P k unitR x = some (.int .i64 y.1, .agg [])) → l.map (fun e => (e.key, e.val)) = ys.map (fun x => (Value.int .i64 x.1, x.2)) → l.map ((fun p : Lit × DataW Unit => intOf p.1) ∘ rg P k unitR) = ys.map (·.1) := by
   intro l
   induction l with
   | nil=>intro ys _ h;cases ys<;>simp at h ⊢
   | cons x r ih =>
    intro ys h1 h2
    cases ys with
    | nil=>simp at h2
    | cons y t =>
     simp only[List.map_cons,List.cons.injEq,Prod.mk.injEq]at h2 ⊢
     obtain⟨z,_,h3,h4⟩:=h1 x (by simp)
     rw[h2.1.1]at h3
     simp only[Value.int.injEq,true_and]at h3
     refine⟨?_,ih t (fun q hq=>h1 q (by simp[hq])) h2.2⟩
     simp only[Function.comp,rg,h4,Option.getD_some,Go.intOf]
     exact h3.symm
  rw[key es.toList xs hrd hm.kv]
 ·simp only[Maps.size]
  rw[length_sorted]
  simp[hsz]
theorem sorts_of {G : PH} {xs : List (Int × Value)} {L : List BHeld} (hS : StR G xs L) (hL : Sp.VH L) {ss : List Int} (hp : ss.Perm (xs.map (·.1))) : ss.mergeSort (fun x y => decide (x ≤ y)) = L.map (·.id) := by
 have h1:(ss.mergeSort (fun x y=>decide (x≤y))).Perm (L.map (·.id)):=(List.mergeSort_perm _ _).trans (hp.trans hS.keys)
 have h2:(ss.mergeSort (fun x y=>decide (x≤y))).Pairwise (fun x y=>decide (x≤y)=true):=List.pairwise_mergeSort (le:=fun x y:Int=>decide (x≤y)) (fun a b c h1 h2=>by simp at *; omega) (fun a b=>by simp;omega) ss
 have h3 : (L.map (·.id)).Pairwise (fun x y => decide (x ≤ y) = true) := by
  rw[List.pairwise_map]
  exact hL.asc.imp (fun h=>decide_eq_true (by omega))
 exact h1.eq_of_pairwise (fun a b _ _ h1 h2=>by have:=of_decide_eq_true h1;have:=of_decide_eq_true h2;omega) h2 h3
theorem owns_acc {w w' : World} {e : TypeId} {v : Value} {n : Nat} {cells : List Value} (h : w'.ownsRow w.heap.size e 1 v n cells) : (acc e 1 v n cells).pred (fun b => w'.heap[b]?) ∧ (∀ b, b ∈ (acc e 1 v n cells).fp → w.heap.size ≤ b) := by
 obtain⟨h1,h2⟩:=h
 refine⟨⟨h1,?_⟩,?_⟩
 ·rcases h2 with h2|⟨g,cap,cur,rfl,_,h3,h4,h5,h6,h7⟩
  ·exact .inl h2
  ·exact .inr ⟨g,cap,cur,rfl,h3,h4,h5,Nat.le_of_eq h6.symm,h7⟩
 ·rcases h2 with ⟨rfl,_⟩|⟨g,cap,cur,rfl,h3,_⟩
  ·intro b hb;rw[acc_fp_nil]at hb;cases hb
  ·intro b hb;rw[acc_fp,List.mem_singleton]at hb;rw[hb];exact h3
end Fw
namespace Go.Proofs.Tst
open Go Fw Go.Proofs Go.Sort Go.Maps Go.Shelf Go.RowKit Tryz
theorem sorts (m:Nat):AnyZI.SortsIn Tryz.prog Tryz.sortedA_ren Fence.wide m :=
  ⟨fun blk off cap ss W hH hblk hsz => callsIn_wide.2 (AnyM.slices_Sort_int Tryz.sortA blk off cap ss W hH hblk hsz),
   fun p cap W=>callsIn_wide.2 (AnyM.slices_Sort_int_none Tryz.sortA p cap W)⟩
theorem keys_c (w0 : World) (G0 : PH) (hG : PSub G0 w0) (b : Nat) : Calls Tryz.prog 164 #[.map (some b)] w0 (fun e w' => ∃ kb, e = .returned (.func (.func 204) #[] #[.pointer (some ⟨kb, 0, none⟩)]) ∧ w0.heap.size ≤ kb ∧ Ext w0 w' ∧ w'.heap[kb]? = some (cl [.map (some b)] 130)) :=
  (callsIn_wide.1 (AnyZI.keys_in Tryz.keysA Fence.wide 5 trivial rfl (some b) w0)).mono fun e w' ⟨h1, h2⟩ => by
    subst h2
    exact⟨w0.heap.size,h1,Nat.le_refl _,Ext.alloc _ _,alloc_new _ _⟩
set_option maxHeartbeats 1000000 in
theorem sorted_c (w0:World)(Bm b:Nat){es:Array MapEntry}{clock:Nat}{xs:List (Int×Value)}{L:List BHeld}{G:PH}(hB:w0.heap[Bm]? = some (cl [.map (some b)] 130))(hb:w0.heap[b]? = some (.map es clock))(hm:MapIs (Value.int .i64) es clock xs)(hS:StR G xs L)(hL:Sp.VH L) :
    Calls Tryz.prog 163 #[.func (.func 204) #[] #[.pointer (some ⟨Bm,0,none⟩)]] w0 (fun e w'=>∃v,e= .returned v∧Ext w0 w'∧(acc 3 1 v L.length (L.map (fun h=>Value.int .i64 h.id))).pred (fun b=>w'.heap[b]?)∧(∀b,b ∈ (acc 3 1 v L.length (L.map (fun h=>Value.int .i64 h.id))).fp→w0.heap.size≤b)):=by
  have hlen:=hS.len
  have hw:∀x,x ∈ xs→inI x.1:=by
    intro x hx
    have:=hS.keys.mem_iff.1 (List.mem_map.2 ⟨x,hx,rfl⟩)
    obtain⟨h,hh,e⟩:=List.mem_map.1 this
    have:=(hL.ok h hh).1
    rw[←e]
    unfold inI
    omega
  have hl16:=hL.len
  obtain⟨D,hown,hp,hsz⟩:=owns_of (P:=Tryz.prog) (k:=3) (by exact underlying3) hb hm hw oM
  have hBl:=(Array.getElem?_eq_some_iff.1 hB).1
  have hseq : SeqGives Fence.wide 2 Tryz.prog 204 #[.pointer (some ⟨Bm, 0, none⟩)] encZ (fun ss => ss.Perm (intKeys D)) (Maps.size D) w0 :=
    AnyZI.keys_gives (ρ:=Tryz.keysA_ren) {Tryz.keysA with} Fence.wide _ trivial rfl oM Bm b xs.length D w0 hBl (by simp[World.cell?,hB]) hown
  refine(callsIn_wide.1 (AnyZI.sorted_in Tryz.sortedA Fence.wide 5 trivial trivial trivial trivial Z oM (sorts _) (enters_of func203 kR Z) 204 #[.pointer (some ⟨Bm,0,none⟩)] trivial (enters_of func204 kR Z) _ _ (by simp only[maxLen];omega) oM _ hseq)).mono ?_
  rintro e w' ⟨v,ss,rfl,hS1,hrow,hnil,hbel⟩
  have hs:=sorts_of hS hL (hS1.trans hp)
  have hn:ss.length=L.length:=by have:=(hS1.trans (hp.trans hS.keys)).length_eq;simpa using this
  rw[hs,hn]at hrow
  have he:(L.map (·.id)).map encZ=L.map (fun h=>Value.int .i64 h.id):=by rw[List.map_map];rfl
  rw[he]at hrow
  obtain⟨h1,h2⟩:=owns_acc hrow
  exact⟨v,Z,Ext.of_below hbel,h1,h2⟩
end Go.Proofs.Tst
namespace Go.Proofs.Tst
open Go Fw Go.Proofs
theorem l_Index_c (w0:World)(s:Bs)(hs:s.length≤16777216)(c:UInt8):Calls Tryz.prog 235 #[str s,str [c]] w0 (Rets w0 (.int .i64 (Sp.optI (s.findIdx? (Sp.isC c))))) :=
  (Any.strings_Index_one Tryz.lays143 ⟨s.toArray⟩ c w0).mono fun e w' ⟨h1,h2⟩=>⟨by rw[h1];simp[Sp.indexByte_eq],by rw[h2];exact Ext.refl _⟩
theorem l_Count_c (w0:World)(s:Bs)(hs:s.length≤16777216)(c:UInt8):Calls Tryz.prog 234 #[str s,str [c]] w0 (Rets w0 (.int .i64 (s.count c:Int))) :=
  (Any.strings_Count_one Tryz.lays138 ⟨s.toArray⟩ c w0).mono fun e w' ⟨h1,h2⟩=>⟨by rw[h1];simp[Lib.countByte],by rw[h2];exact Ext.refl _⟩
theorem chkIds (G : PH) {L : List BHeld} (h : Sp.VH L) : Chk intE 1 G (L.map (fun h => Value.int .i64 h.id)) (L.map (·.id)) := by
  refine⟨L.map (fun h=>[Value.int .i64 h.id]),?_,by simp,fun i x hx=>?_⟩
  · clear h
    induction L with
    | nil=>rfl
    | cons a r ih=>simp only[List.map_cons,List.flatten_cons,←ih];rfl
  rw[List.getElem?_map]at hx ⊢
  cases e:L[i]? with
  | none=>simp[e]at hx
  | some y =>
    simp only[e,Option.map_some,Option.some.injEq]at hx ⊢
    subst hx
    have:=(h.at e).1
    exact⟨_,rfl,rfl,rfl,by unfold inI;omega⟩
end Go.Proofs.Tst
namespace Go.Proofs.Tst
open Go Fw Tryz
theorem l_genSplit_c (w0:World)(G0:PH)(hG:PSub G0 w0)(s:Bs)(hs:s.length≤16777216)(c:UInt8) :
  Calls Tryz.prog 224 #[str s,str [c],.int .i64 0,.int .i64 (-1)] w0 (RetP w0 G0 (fun G v=>RdT G v (Sp.cutAt c s))):=by
 have hcnt:=Sp.cnt_le c s
 have H:=Hp.init hG
 refine calls_of_W (l:=[str s,str [c],.int .i64 0,.int .i64 (-1)]) func224 Z ntmps224 Z (q2 (aG Z (q3 (W_seq (q2 (pe 2 Z (q3 ?_)))))))
 refine W_cond Z ?_ ?_
 ·intro hc1
  try simp only[nrm]at hc1
  exact absurd hc1 (by decide)
 intro hc1'
 try simp only[nrm]at hc1'
 refine W_skip (N_K (W_seq (q2 (mV Z (o_seql Z Z Z (q3 ?_))))))
 refine W_cond Z ?_ ?_
 ·intro hc2
  try simp only[nrm]at hc2
  exact absurd hc2 (by simp)
 intro hc2'
 try simp only[nrm]at hc2'
 refine W_skip (N_K (W_seq (q2 (pe 2 Z (q3 ?_)))))
 refine W_cond Z ?_ ?_
 ·intro hc3
  try simp only[nrm]at hc3
  refine W_region (pe 2 Z (xr H Z2 (l_Count_c _ _ hs _) ?_));intro _ H
  refine aD Z2 (aG Z (q1 (pe 2 Z (lS Z (aD Z2 (o_min Z Z Z (aG Z (q1 (mV Z (o_makeN (c:=(s.count c+1)) (sz:=1) (bytes:=16) H underlying79 typeInfo9 ⟨_,Z,Z⟩ Z Z Z Z Z Z Z oM oM oM Z ?_))))))))));intro _ _ H
  have hchk7:=Chk.rep (E:=strE) (sz:=1) (G:=G0) (x0:=[]) (⟨rfl,by decide⟩) rfl ((s.count c+1))
  refine aG Z (q1 (mV Z (o_sub Z Z Z oO (aG Z (q1 (aG Z (q3 (W_seq (W_block ?_)))))))))
  refine W_lp (hf:=(Sub.cons (t:=1) Z (Sub.cons (t:=2) Z (Sub.cons (t:=3) Z (Sub.cons (t:=8) Z Sub.nil))))) (J:=fun M w m=>∃(v:Value) (n:Nat) (cs:List Value) (xs:List (Bs)) (r:Bs) (i:Nat) (G:PH),M=[(0,str r),(10,.int .i64 (i:Int)),(9,v)]∧PLe G0 G∧Hp w0 G0 [] w G [acc 9 1 v n cs]∧(Chk strE 1 G cs xs∧n=xs.length∧i≤s.count c∧xs.length=s.count c+1∧r.length≤16777216∧xs.take i++Sp.cutAt c r=Sp.cutAt c s∧r.count c=s.count c-i)∧m=(s.count c+1-i)) (h0:=⟨_,_,_,(List.replicate (s.count c+1) []),s,0,_,Z,PLe.refl _,H,?inv,Z⟩) (round:=?round)
  case inv=>exact⟨hchk7,by first|rfl|simp|(simp;omega)|omega,(by simp[hs])⟩
  case round =>
   rintro _ _ _ ⟨v,n,cs,xs,r,i,_,rfl,hle9,H,hinv9,rfl⟩
   obtain⟨hchk9_0,_,hinv9⟩:=hinv9
   obtain⟨_,_,rfl⟩:=H.accShape (k:=0) rfl
   obtain⟨_,hxl,hrl,hcut,_⟩:=hinv9
   refine W_seq (q2 (pe 3 Z (q3 ?_)))
   refine W_cond Z ?_ ?_
   ·intro hc10
    try simp only[nrm]at hc10
    refine W_skip (N_K (W_block (q2 (pe 2 Z (xr H Z2 (l_Index_c _ _ hrl _) ?_)))));intro _ H
    refine aG Z (q3 (W_seq (q2 (pe 2 Z (q3 ?_)))))
    refine W_cond Z ?_ ?_
    ·intro hc12
     try simp only[nrm]at hc12
     have hx:=Sp.count_none c (Sp.at_none hc12)
     omega
    intro hc12'
    try simp only[nrm]at hc12'
    obtain⟨m,_,hm1,_,_,_,_⟩:=Sp.at_nat hc12'
    have hm6:=Sp.count_some c hm1
    refine W_skip (N_K (q2 (pe 5 Z (aD Z2 (o_slice_str_to underlying9 Z Z Z oM oM (o_index_A 0 H i Z hchk9_0 underlying79 sizeOf9 Z Z Z Z aN aN ?_))))));intro _ _ _ hba15 hz15 hE15 _;cases hba15
    obtain⟨rfl,hi15⟩:=hE15;have hy_hi15:_≤16777216:=hi15
    have hcl16:=hchk9_0.length
    refine o_store_A 0 H sizeOf9 Z Z Z Z Z (by simp only[vc,List.length_cons,List.length_nil];omega) ?_;intro _ H
    have hchk16:=hchk9_0.put (x':=(r.take m)) (off:=0) (vs:=[_]) hz15 (fun cs hl hE=>by obtain⟨rfl,_⟩:=hE;exact⟨congrArg (fun j=>[str (List.take j r)]) (show(Sp.optI (List.findIdx? (Sp.isC c) r)+0).toNat=m by omega),by simp;omega⟩) (by simp only[vc,List.length_cons,List.length_nil];omega)
    refine q1 (pe 3 Z (lS Z ?_))
    have hll1:([c]:Fw.Bs).length=1:=rfl
    refine aD Z2 (o_slice_str_from underlying9 Z Z Z oM oM (aG Z (q3 (W_region (mV Z (aD Z2 (aG Z (R_nil (N_B ?_)))))))))
    refine N_lp (hJ:=⟨_,_,_,(xs.set i (r.take m)),(r.drop (Sp.optI (List.findIdx? (Sp.isC c) r)+(([c]:Fw.Bs).length:Int)).toNat),i+1,_,Z,hle9,H,?inv,Z⟩) (hm:=?hm)
    case hm=>omega
    case inv=>exact⟨hchk16,aN,(by refine⟨by omega,by simp[hxl],by simp;omega,?_,?_⟩;(· rw[show(Sp.optI (List.findIdx? (Sp.isC c) r)+(([c]:Fw.Bs).length:Int)).toNat=m+1 by omega];exact Sp.cut_round hcut hm1 oM rfl);(· rw[show(Sp.optI (List.findIdx? (Sp.isC c) r)+(([c]:Fw.Bs).length:Int)).toNat=m+1 by omega];omega))⟩
   intro hc10'
   try simp only[nrm]at hc10'
   refine W_exit (N_K_exit (N_LP_exit (N_B_same (N_K (q2 (pe 3 Z (o_index_A 0 H i Z hchk9_0 underlying79 sizeOf9 Z Z Z Z aN aN ?_)))))));intro _ _ _ hba20 hz20 hE20 _;cases hba20
   obtain⟨rfl,hi20⟩:=hE20;have hy_hi20:_≤16777216:=hi20
   have hcl21:=hchk9_0.length
   refine o_store_A 0 H sizeOf9 Z Z Z Z Z (by simp only[vc,List.length_cons,List.length_nil];omega) ?_;intro _ H
   have hchk21:=hchk9_0.put (x':=r) (off:=0) (vs:=[_]) hz20 (fun cs hl hE=>by obtain⟨rfl,_⟩:=hE;exact⟨rfl,hrl⟩) (by simp only[vc,List.length_cons,List.length_nil];omega)
   refine q1 ?_
   obtain⟨_,H,hsg22,hsr22⟩:=H.shut' (k:=0) rfl hchk21 aN aN
   refine pe 2 Z (aD Z2 ?_)
   have hcap24:=hsr22.cap;try simp only[List.length_set,List.length_append,List.length_take,List.length_drop,List.length_replicate]at hcap24
   refine o_slice_to (j:=(i+1)) underlying79 sizeOf9 Z Z Z oM oM ?_
   have hsl24:=hsr22.take (j:=(i+1)) aN
   have hsn2:=hsl24.len
   refine aG Z (q3 (W_ret (rt1 results224 Z ?_)))
   obtain rfl:i=s.count c:=by omega
   have hcl:=Sp.cut_last hcut oM oM
   exact H.retP (by rw[←hcl];exact hsl24)
 intro hc3'
 try simp only[nrm]at hc3'
 exact absurd hc3' (by decide)
theorem l_Split_c (w0:World)(G0:PH)(hG:PSub G0 w0)(s:Bs)(hs:s.length≤16777216)(c:UInt8) :
  Calls Tryz.prog 194 #[str s,str [c]] w0 (RetP w0 G0 (fun G v=>RdT G v (Sp.cutAt c s))):=by
 have H:=Hp.init hG
 refine calls_of_W (l:=[str s,str [c]]) func194 Z ntmps194 Z (q2 (aG Z (q1 (pe 2 Z (xc Z2 (l_genSplit_c _ _ H.sub _ hs _) ?_)))))
 rintro _ _ ⟨_,_,g1,rfl,hr1_0⟩
 have H:=H.grow g1
 obtain⟨_,_,rfl⟩:=hr1_0.shape;have hx_hr1_0:_≤1099511627776:=hr1_0.lim
 refine⟨_,Z,?_⟩
 refine aG Z (q3 (W_ret (rt1 results194 Z ?_)))
 exact H.retP hr1_0
theorem i_parts_c (w0:World)(G0:PH)(hG:PSub G0 w0)(p:Bs)(hp:p.length≤16777216) :
  Calls Tryz.prog 154 #[str p] w0 (RetP w0 G0 (fun G v=>RdT G v (Sp.parts p))):=by
 have H:=Hp.init hG
 refine calls_of_W (l:=[str p]) func154 Z ntmps154 Z (q2 (aG Z (q3 (W_seq (q2 (mV Z (lS Z (pe 1 Z (q3 ?_)))))))))
 refine W_cond Z ?_ ?_
 ·intro hc1
  try simp only[nrm]at hc1
  refine q2 (aG Z (q3 (W_ret (N_K_ret (rt1 results154 Z ?_)))))
  exact H.retP (by rw[show Sp.parts p=_ from by exact Sp.parts_long oM];exact(RdS.nil _ _ _))
 intro hc1'
 try simp only[nrm]at hc1'
 refine W_skip (N_K (q2 (mV Z (xc Z2 (l_Split_c _ _ H.sub _ hp _) ?_))))
 rintro _ _ ⟨G2,_,g2,rfl,hr2_0⟩
 have H:=H.grow g2
 obtain⟨_,_,rfl⟩:=hr2_0.shape;have hx_hr2_0:_≤1099511627776:=hr2_0.lim
 refine⟨_,Z,?_⟩
 refine aG Z (q3 (W_seq (q2 (mV Z (lN Z (pe 1 Z (q3 ?_)))))))
 refine W_cond Z ?_ ?_
 ·intro hc3
  try simp only[nrm]at hc3
  refine q2 (aG Z (q3 (W_ret (N_K_ret (rt1 results154 Z ?_)))))
  exact H.retP (by rw[show Sp.parts p=_ from by exact Sp.parts_many (by rw[←Sp.cutAt_47];omega)];exact(RdS.nil _ _ _))
 intro hc3'
 try simp only[nrm]at hc3'
 refine W_skip (N_K (W_seq (q2 (mV Z (lN Z (mV Z (q3 (W_block ?_))))))))
 refine W_lp (hf:=(Sub.cons (t:=3) Z (Sub.cons (t:=14) Z (Sub.cons (t:=15) Z Sub.nil)))) (J:=fun M w m=>∃(k:Nat) (G:PH),M=[(16,.int .i64 (k:Int))]∧PLe G2 G∧Hp w0 G0 [] w G []∧(k≤(Sp.cutAt 47 p).length∧((Sp.cutAt 47 p).take k).all Sp.l1Word=true)∧m=((Sp.cutAt 47 p).length-k)) (h0:=⟨0,_,Z,PLe.refl _,H,?inv,Z⟩) (round:=?round)
 case inv=>exact⟨by omega,by simp⟩
 case round =>
  rintro _ _ _ ⟨k,_,rfl,hle4,H,hinv4,rfl⟩
  have hr2_0:=hr2_0.up hle4
  obtain⟨_,hall⟩:=hinv4
  refine q2 (pe 1 Z (q3 (W_seq ?_)))
  refine W_cond Z ?_ ?_
  ·intro hc5
   try simp only[nrm]at hc5
   refine W_skip (N_K (W_seq (W_block (q2 (iP k hr2_0 Z3 Z ?_)))));intro _ _ _ _ hz6 hE6 hrow6
   obtain⟨rfl,hi6⟩:=hE6;have hy_hi6:_≤16777216:=hi6
   refine lP H hrow6 0 Z2 (aG Z (q1 (mV Z (xr H Z2 (i_partValid_c _ _ hi6) ?_))));intro _ H
   refine pe 1 Z (q3 ?_)
   refine W_cond Z ?_ ?_
   ·intro hc8
    try simp only[nrm]at hc8
    refine q2 (aG Z (q3 (W_ret (N_B_ret (N_K_ret (N_LP_ret (N_B_ret (N_K_ret (rt1 results154 Z ?_)))))))))
    exact H.retP (by rw[show Sp.parts p=_ from by exact Sp.parts_bad (by rw[←Sp.cutAt_47];exact hz6) hc8];exact(RdS.nil _ _ _))
   intro hc8'
   try simp only[nrm]at hc8'
   refine W_skip (N_B (N_K (W_region (aD Z2 (mV Z (R_nil ?_))))))
   refine N_lp (hJ:=⟨k+1,_,Z,hle4,H,?inv,Z⟩) (hm:=?hm)
   case hm=>omega
   case inv=>exact⟨by omega,Sp.all_take hall hz6 (by assumption)⟩
  intro hc5'
  try simp only[nrm]at hc5'
  refine W_exit (N_K_exit (N_LP_exit (N_B_same (N_K (q2 (pe 2 Z (q3 (W_ret (rt1 results154 Z ?_)))))))))
  obtain rfl:k=(Sp.cutAt 47 p).length:=by omega
  rw[List.take_length]at hall
  have hpo:Sp.parts p=Sp.cutAt 47 p:=(Sp.parts_ok (by rw[←Sp.cutAt_47];exact hall) (by rw[←Sp.cutAt_47];omega)).trans (Sp.cutAt_47 p).symm
  exact H.retP (by rw[hpo];exact hr2_0)
theorem i_PathParts_c (w0:World)(G0:PH)(hG:PSub G0 w0)(p:Bs)(hp:p.length≤16777216) :
  Calls Tryz.prog 179 #[str p] w0 (RetP w0 G0 (fun G v=>RdT G v (Sp.parts p))):=by
 have H:=Hp.init hG
 refine calls_of_W (l:=[str p]) func179 Z ntmps179 Z (q2 (aG Z (q1 (mV Z (xc Z2 (i_parts_c _ _ H.sub _ hp) ?_)))))
 rintro _ _ ⟨_,_,g1,rfl,hr1_0⟩
 have H:=H.grow g1
 obtain⟨_,_,rfl⟩:=hr1_0.shape;have hx_hr1_0:_≤1099511627776:=hr1_0.lim
 refine⟨_,Z,?_⟩
 refine aG Z (q3 (W_ret (rt1 results179 Z ?_)))
 exact H.retP hr1_0
theorem i_valid_c (w0:World)(G0:PH)(hG:PSub G0 w0)(p:Bs)(hp:p.length≤16777216) :
  Calls Tryz.prog 113 #[str p] w0 (Rets w0 (.bool (Sp.PathValid p))):=by
 have H:=Hp.init hG
 refine calls_of_W (l:=[str p]) func113 Z ntmps113 Z (q2 (aG Z (q1 (mV Z (xc Z2 (i_parts_c _ _ H.sub _ hp) ?_)))))
 rintro _ _ ⟨_,_,g1,rfl,hr1_0⟩
 have H:=H.grow g1
 obtain⟨_,_,rfl⟩:=hr1_0.shape;have hx_hr1_0:_≤1099511627776:=hr1_0.lim
 refine⟨_,Z,?_⟩
 refine lN Z (pe 2 Z (q3 (W_ret (rt1 results113 Z ?_))))
 exact H.rets (congrArg Value.bool (by rw[←Sp.parts_pos,Bool.eq_iff_iff];simp))
theorem i_PathValid_c (w0:World)(G0:PH)(hG:PSub G0 w0)(p:Bs)(hp:p.length≤16777216) :
  Calls Tryz.prog 102 #[str p] w0 (Rets w0 (.bool (Sp.PathValid p))):=by
 have H:=Hp.init hG
 refine calls_of_W (l:=[str p]) func102 Z ntmps102 Z (q2 (aG Z (q1 (mV Z (xr H Z2 (i_valid_c _ _ H.sub _ hp) ?_)))));intro _ H
 refine aG Z (q3 (W_ret (rt1 results102 Z ?_)))
 exact H.rets (congrArg Value.bool (by rfl))
theorem i_itemValid_c (w0:World)(G0:PH)(hG:PSub G0 w0)(cx:List Value)(x:BItem)(hx:itemE G0 x cx) :
  Calls Tryz.prog 100 #[.agg cx.toArray] w0 (Rets w0 (.bool (Sp.l5Item x))):=by
 obtain⟨_,_,_,rfl,hi1,hr1,_,_⟩:=ox hx
 have H:=Hp.init hG
 refine calls_of_W (l:=[_]) func100 Z ntmps100 Z (q2 (o_box H Z Z Z ?_));intro b2 _ _ H
 refine aG Z (q3 (W_seq (q2 (fA 0 Z (lB 0 H Z3 (xr H Z2 (i_PathValid_c _ _ H.sub _ hi1) ?_))))));intro _ H
 refine pe 2 Z ?_
 refine R_case (t:=9) Z ?_ ?_
 ·intro hc4
  try simp only[nrm]at hc4
  refine pe 9 Z (R_pass Z (yl_un Z Z) (R_pass Z (yl_un Z Z) (R_pass Z (yl_un Z Z) (R_pass Z (yl_un Z Z) (pe 2 Z (q3 (W_true Z (q2 (aG Z (q3 (W_ret (N_K_ret (rt1 results100 Z ?_)))))))))))))
  exact H.rets (congrArg Value.bool (by simp[Sp.l5Item,hc4]))
 intro hc4'
 try simp only[nrm]at hc4'
 refine gR Z (fA 2 Z (gR Z (lB 0 H Z3 (gR Z (lN Z (pe 3 Z ?_))))))
 refine R_case (t:=15) Z ?_ ?_
 ·intro hc5
  try simp only[nrm]at hc5
  refine pe 3 Z (R_pass Z (yl_un Z Z) (R_pass Z (yl_un Z Z) (R_pass Z (yl_un Z Z) (R_pass Z (yl_un Z Z) (pe 2 Z (q3 (W_true Z (q2 (aG Z (q3 (W_ret (N_K_ret (rt1 results100 Z ?_)))))))))))))
  exact H.rets (congrArg Value.bool (by rw[Sp.l5Item,Bool.eq_iff_iff];simp;intros;omega))
 intro hc5'
 try simp only[nrm]at hc5'
 refine gR Z (fA 1 Z (gR Z (lB 0 H Z3 (pe 1 Z ?_))))
 refine R_case (t:=18) Z ?_ ?_
 ·intro hc6
  try simp only[nrm]at hc6
  refine gR Z (fA 2 Z (gR Z (lB 0 H Z3 (gR Z (lN Z (pe 3 Z (q3 ?_)))))))
  refine W_cond Z ?_ ?_
  ·intro hc7
   try simp only[nrm]at hc7
   refine q2 (aG Z (q3 (W_ret (N_K_ret (rt1 results100 Z ?_)))))
   exact H.rets (congrArg Value.bool (by rw[Sp.l5Item,Sp.all_false (c:=x.ids[0]) (k:=0) (List.getElem?_eq_getElem oM) (by simp[Sp.idOk,hc6])];rfl))
  intro hc7'
  try simp only[nrm]at hc7'
  refine W_skip (N_K (W_seq (q2 (fA 2 Z (lB 0 H Z3 (lN Z (mV Z (q3 (W_block ?_)))))))))
  obtain⟨ln8,hln8,H⟩:=H.name (k:=0) rfl
  refine W_lp (hf:=(Sub.cons (t:=26) Z (Sub.cons (t:=27) Z Sub.nil))) (J:=fun M w m=>∃(k:Nat) (G:PH),M=[(28,.int .i64 (k:Int))]∧PLe G0 G∧Hp w0 G0 [] w G [blk b2 (cl ln8 51)]∧(k≤x.ids.length∧(x.ids.take k).all (Sp.idOk x.dir)=true)∧m=(x.ids.length-k)) (h0:=⟨0,_,Z,PLe.refl _,H,?inv,Z⟩) (round:=?round)
  case inv=>exact⟨by omega,by simp⟩
  case round =>
   rintro _ _ _ ⟨k,_,rfl,hle9,H,hinv9,rfl⟩
   subst hln8
   have hr1:=hr1.up hle9
   obtain⟨hk,hall⟩:=hinv9
   refine q2 (pe 1 Z (q3 (W_seq ?_)))
   refine W_cond Z ?_ ?_
   ·intro hc10
    try simp only[nrm]at hc10
    refine W_skip (N_K (W_seq (W_block (q2 (iP k hr1 Z3 Z ?_)))));intro _ _ _ _ hz11 hE11 hrow11
    obtain⟨rfl,_⟩:=hE11
    refine lP H hrow11 0 Z2 (aG Z (q1 (pe 3 Z ?_)))
    refine R_case (t:=34) Z ?_ ?_
    ·intro hc12
     try simp only[nrm]at hc12
     refine pe 3 Z (q3 (W_true Z (q2 (aG Z (q3 (W_ret (N_B_ret (N_K_ret (N_LP_ret (N_B_ret (N_K_ret (rt1 results100 Z ?_))))))))))))
     exact H.rets (congrArg Value.bool (by rw[Sp.l5Item,Sp.all_false hz11 (by first|(exfalso;omega)|(simp[Sp.idOk,Sp.l6In, *];done)|(simp[Sp.idOk,Sp.l6In, *];omega))];rfl))
    intro hc12'
    try simp only[nrm]at hc12'
    refine pe 3 Z (q3 ?_)
    refine W_cond Z ?_ ?_
    ·intro hc13
     try simp only[nrm]at hc13
     refine q2 (aG Z (q3 (W_ret (N_B_ret (N_K_ret (N_LP_ret (N_B_ret (N_K_ret (rt1 results100 Z ?_)))))))))
     exact H.rets (congrArg Value.bool (by rw[Sp.l5Item,Sp.all_false hz11 (by first|(exfalso;omega)|(simp[Sp.idOk,Sp.l6In, *];done)|(simp[Sp.idOk,Sp.l6In, *];omega))];rfl))
    intro hc13'
    try simp only[nrm]at hc13'
    refine W_skip (N_B (N_K (W_region (aD Z2 (mV Z (R_nil ?_))))))
    refine N_lp (hJ:=⟨k+1,_,Z,hle9,H,?inv,Z⟩) (hm:=?hm)
    case hm=>omega
    case inv=>exact⟨by omega,Sp.all_take hall hz11 (by first|(exfalso;omega)|(simp[Sp.idOk,Sp.l6In, *];done)|(simp[Sp.idOk,Sp.l6In, *];omega))⟩
   intro hc10'
   try simp only[nrm]at hc10'
   refine W_exit (N_K_exit (N_LP_exit (N_B_same (N_K (q2 (aG Z (q3 (W_ret (rt1 results100 Z ?_)))))))))
   obtain rfl:k=x.ids.length:=by omega
   rw[List.take_length]at hall
   exact H.rets (congrArg Value.bool (by rw[Sp.l5Item,hall,Bool.eq_iff_iff];simp[hc4'];omega))
 intro hc6'
 try simp only[nrm]at hc6'
 refine pe 6 Z (q3 (W_false Z (W_skip (N_K (W_seq (q2 (fA 2 Z (lB 0 H Z3 (lN Z (mV Z (q3 (W_block ?_))))))))))))
 obtain⟨ln15,hln15,H⟩:=H.name (k:=0) rfl
 refine W_lp (hf:=(Sub.cons (t:=26) Z (Sub.cons (t:=27) Z Sub.nil))) (J:=fun M w m=>∃(k:Nat) (G:PH),M=[(28,.int .i64 (k:Int))]∧PLe G0 G∧Hp w0 G0 [] w G [blk b2 (cl ln15 51)]∧(k≤x.ids.length∧(x.ids.take k).all (Sp.idOk x.dir)=true)∧m=(x.ids.length-k)) (h0:=⟨0,_,Z,PLe.refl _,H,?inv,Z⟩) (round:=?round)
 case inv=>exact⟨by omega,by simp⟩
 case round =>
  rintro _ _ _ ⟨k,_,rfl,hle16,H,hinv16,rfl⟩
  subst hln15
  have hr1:=hr1.up hle16
  obtain⟨hk,hall⟩:=hinv16
  refine q2 (pe 1 Z (q3 (W_seq ?_)))
  refine W_cond Z ?_ ?_
  ·intro hc17
   try simp only[nrm]at hc17
   refine W_skip (N_K (W_seq (W_block (q2 (iP k hr1 Z3 Z ?_)))));intro _ _ _ _ hz18 hE18 hrow18
   obtain⟨rfl,_⟩:=hE18
   refine lP H hrow18 0 Z2 (aG Z (q1 (pe 3 Z ?_)))
   refine R_case (t:=34) Z ?_ ?_
   ·intro hc19
    try simp only[nrm]at hc19
    refine pe 3 Z (q3 (W_true Z (q2 (aG Z (q3 (W_ret (N_B_ret (N_K_ret (N_LP_ret (N_B_ret (N_K_ret (rt1 results100 Z ?_))))))))))))
    exact H.rets (congrArg Value.bool (by rw[Sp.l5Item,Sp.all_false hz18 (by first|(exfalso;omega)|(simp[Sp.idOk,Sp.l6In, *];done)|(simp[Sp.idOk,Sp.l6In, *];omega))];rfl))
   intro hc19'
   try simp only[nrm]at hc19'
   refine pe 3 Z (q3 ?_)
   refine W_cond Z ?_ ?_
   ·intro hc20
    try simp only[nrm]at hc20
    refine q2 (aG Z (q3 (W_ret (N_B_ret (N_K_ret (N_LP_ret (N_B_ret (N_K_ret (rt1 results100 Z ?_)))))))))
    exact H.rets (congrArg Value.bool (by rw[Sp.l5Item,Sp.all_false hz18 (by first|(exfalso;omega)|(simp[Sp.idOk,Sp.l6In, *];done)|(simp[Sp.idOk,Sp.l6In, *];omega))];rfl))
   intro hc20'
   try simp only[nrm]at hc20'
   refine W_skip (N_B (N_K (W_region (aD Z2 (mV Z (R_nil ?_))))))
   refine N_lp (hJ:=⟨k+1,_,Z,hle16,H,?inv,Z⟩) (hm:=?hm)
   case hm=>omega
   case inv=>exact⟨by omega,Sp.all_take hall hz18 (by first|(exfalso;omega)|(simp[Sp.idOk,Sp.l6In, *];done)|(simp[Sp.idOk,Sp.l6In, *];omega))⟩
  intro hc17'
  try simp only[nrm]at hc17'
  refine W_exit (N_K_exit (N_LP_exit (N_B_same (N_K (q2 (aG Z (q3 (W_ret (rt1 results100 Z ?_)))))))))
  obtain rfl:k=x.ids.length:=by omega
  rw[List.take_length]at hall
  exact H.rets (congrArg Value.bool (by rw[Sp.l5Item,hall,Bool.eq_iff_iff];simp[hc4'];omega))
theorem l_isNaN_c (w0:World)(x:Bs)(hx:x.length≤16777216) :
  Calls Tryz.prog 152 #[str x] w0 (Rets w0 (.bool false)):=by
 have H:=Hp.init0 w0
 refine calls_of_W (l:=[str x]) func152 Z ntmps152 Z (q2 (aG Z (q1 (pe 2 Z (o_sneq Z Z Z (aG Z (q3 (W_ret (rt1 results152 Z ?_)))))))))
 exact H.rets (congrArg Value.bool (by simp))
theorem l_Compare_c (w0:World)(x:Bs)(hx:x.length≤16777216)(y:Bs)(hy:y.length≤16777216) :
  Calls Tryz.prog 107 #[str x,str y] w0 (Rets w0 (.int .i64 (Sp.cmpB x y))):=by
 have H:=Hp.init0 w0
 refine calls_of_W (l:=[str x,str y]) func107 Z ntmps107 Z (q2 (aG Z (q1 (mV Z (xr H Z2 (l_isNaN_c _ _ hx) ?_)))));intro _ H
 refine aG Z (q1 (mV Z (xr H Z2 (l_isNaN_c _ _ hy) ?_)));intro _ H
 refine aG Z (q3 (W_seq (q2 (mV Z (q3 (W_false Z (W_skip (N_K (W_seq (q2 (mV Z (q3 (W_false Z (W_skip (N_K ?_)))))))))))))))
 refine W_seq (q2 (pe 2 Z (o_slss Z Z Z (q3 ?_))))
 refine W_cond Z ?_ ?_
 ·intro hc3
  try simp only[nrm]at hc3
  refine q2 (aG Z (q3 (W_ret (N_K_ret (rt1 results107 Z ?_)))))
  exact H.rets (congrArg (Value.int .i64) (by unfold Sp.cmpB;simp_all))
 intro hc3'
 try simp only[nrm]at hc3'
 refine W_skip (N_K (W_seq (q2 (pe 2 Z (o_sgtr Z Z Z (q3 ?_))))))
 refine W_cond Z ?_ ?_
 ·intro hc4
  try simp only[nrm]at hc4
  refine q2 (aG Z (q3 (W_ret (N_K_ret (rt1 results107 Z ?_)))))
  exact H.rets (congrArg (Value.int .i64) (by unfold Sp.cmpB;simp_all))
 intro hc4'
 try simp only[nrm]at hc4'
 refine W_skip (N_K (q2 (aG Z (q3 (W_ret (rt1 results107 Z ?_))))))
 exact H.rets (congrArg (Value.int .i64) (by unfold Sp.cmpB;simp_all))
theorem i_place1_c (w0:World)(G0:PH)(hG:PSub G0 w0)(t:Nd)(hndt:RdN G0 t)(nm:Bs)(hnm:nm.length≤16777216) :
  Calls Tryz.prog 181 #[.pointer (some ⟨t.b,0,none⟩),str nm] w0 (Rets w0 (.int .i64 (Sp.cmpB t.name nm))):=by
 obtain⟨hnlt,_,_,_,_,_,_,hprt,hrit,hrkt⟩:=hndt.open
 have hn_hrit:=hrit.len;have hx_hrit:_≤1099511627776:=hrit.lim
 have hn_hrkt:=hrkt.len;have hx_hrkt:_≤1099511627776:=hrkt.lim
 have H:=Hp.init hG
 refine calls_of_W (l:=[.pointer (some ⟨t.b,0,none⟩),str nm]) func181 Z ntmps181 Z (q2 (aG Z (q1 (pe 2 Z (fA 0 Z (lP H hprt 0 Z2 (mV Z (xr H Z2 (l_Compare_c _ _ hnlt _ hnm) ?_))))))));intro _ H
 refine aG Z (q3 (W_ret (rt1 results181 Z ?_)))
 exact H.rets (congrArg (Value.int .i64) (by rfl))
theorem l_Search_c (w0:World)(G0:PH)(hG:PSub G0 w0)(vkids:Value)(kids:List (Nd))(hkids:RdNd G0 vkids kids)(nm:Bs)(hnm:nm.length≤16777216)(hsk:Sp.srt kids) :
  Calls Tryz.prog 180 #[vkids,str nm,.func (.func 181) #[] #[]] w0 (Rets w0 (.tuple #[.int .i64 (Sp.pl kids nm:Nat),.bool (Sp.fd kids nm).isSome])):=by
 obtain⟨akids,kkids,rfl⟩:=hkids.shape
 have hlimkids:kids.length≤1099511627776:=hkids.lim
 have H:=Hp.init hG
 refine calls_of_W (l:=[.slice akids kids.length kkids,str nm,.func (.func 181) #[] #[]]) func180 Z ntmps180 Z (q2 (pe 2 Z (q1 (mV Z (lN Z (aG Z (q1 (pe 3 Z (q3 (W_seq (W_block ?_)))))))))))
 refine W_lp (hf:=(Sub.cons (t:=0) Z (Sub.cons (t:=1) Z (Sub.cons (t:=2) Z (Sub.cons (t:=6) Z (Sub.cons (t:=7) Z (Sub.cons (t:=8) Z Sub.nil))))))) (J:=fun M w m=>∃(i j:Nat) (G:PH),M=[(9,.int .i64 (i:Int)),(10,.int .i64 (j:Int))]∧PLe G0 G∧Hp w0 G0 [] w G []∧(i≤j∧j≤kids.length∧(∀(k:Nat) (x:Nd),k<i→kids[k]? = some x→Sp.lt x.name nm=true)∧(∀(k:Nat) (x:Nd),j≤k→kids[k]? = some x→Sp.lt x.name nm=false))∧m=(j-i)) (h0:=⟨0,kids.length,_,Z,PLe.refl _,H,?inv,Z⟩) (round:=?round)
 case inv=>exact⟨by omega,by omega,fun k x hk=>by omega,fun k x hk hx=>by have:=(List.getElem?_eq_some_iff.1 hx).1;omega⟩
 case round =>
  rintro _ _ _ ⟨i,j,_,rfl,hle1,H,hinv1,rfl⟩
  have hkids:=hkids.up hle1
  obtain⟨_,_,hlo,hhi⟩:=hinv1
  refine W_seq (q2 (pe 3 Z (q3 ?_)))
  refine W_cond Z ?_ ?_
  ·intro hc2
   try simp only[nrm]at hc2
   refine W_skip (N_K (W_block (q2 (pe 2 Z (aD Z2 (o_conv (by simp[underlying3]) underlying192 Z Z (wrap_u64 oO) (o_shr1 Z Z Z (by decide) (o_conv (by simp[underlying192]) underlying3 Z Z (wrap_i64 oO) (aG Z (q1 (pe 3 Z (iP ((i+j) / 2) hkids Z3 oM ?_))))))))))));intro _ _ z4 _ hz4 hE4 hrow4
   obtain⟨rfl,hnd4⟩:=hE4;obtain⟨_,_,_,_,_,_,_,_,hri4,hrk4⟩:=hnd4.open;have hn_hri4:=hri4.len;have hx_hri4:_≤1099511627776:=hri4.lim;have hn_hrk4:=hrk4.len;have hx_hrk4:_≤1099511627776:=hrk4.lim
   refine lP H hrow4 0 Z2 (mV Z (o_callv call181 Z Z Z (i_place1_c _ _ H.sub _ hnd4 _ hnm) ?_))
   rintro _ _ ⟨rfl,ew5⟩;have H:=H.step ew5;refine⟨_,rfl,?_⟩
   refine pe 1 Z (q3 ?_)
   refine W_cond Z ?_ ?_
   ·intro hc6
    try simp only[nrm]at hc6
    refine W_region (mV Z (aD Z2 (aG Z (R_nil (N_B ?_)))))
    refine N_lp (hJ:=⟨((i+j) / 2+1),j,_,Z,hle1,H,?inv,Z⟩) (hm:=?hm)
    case hm=>omega
    case inv=>exact⟨by omega,by omega,Sp.pw_lt hsk hz4 ((Sp.cmpB_lt _ _).1 hc6),hhi⟩
   intro hc6'
   try simp only[nrm]at hc6'
   refine W_region (pe 2 Z (R_nil (N_B ?_)))
   refine N_lp (hJ:=⟨i,((i+j) / 2),_,Z,hle1,H,?inv,Z⟩) (hm:=?hm)
   case hm=>omega
   case inv=>exact⟨by omega,by omega,hlo,Sp.pw_ge hsk hz4 (by cases hlt:Sp.lt z4.name nm with |false=>rfl|true=>exact absurd ((Sp.cmpB_lt _ _).2 hlt) oM)⟩
  intro hc2'
  try simp only[nrm]at hc2'
  refine W_exit (N_K_exit (N_LP_exit (N_B_same (N_K (q2 (pe 5 Z ?_))))))
  refine R_case (t:=39) Z ?_ ?_
  ·intro hc8
   try simp only[nrm]at hc8
   refine pe 3 Z (gR Z (iP i hkids Z3 Z ?_));intro _ _ _ _ hz9 hE9 hrow9
   obtain⟨rfl,hnd9⟩:=hE9;obtain⟨_,_,_,_,_,_,_,_,hri9,hrk9⟩:=hnd9.open;have hn_hri9:=hri9.len;have hx_hri9:_≤1099511627776:=hri9.lim;have hn_hrk9:=hrk9.len;have hx_hrk9:_≤1099511627776:=hrk9.lim
   refine gR Z (lP H hrow9 0 Z2 (pe 1 Z (gR Z (o_callv call181 Z Z Z (i_place1_c _ _ H.sub _ hnd9 _ hnm) ?_))))
   rintro _ _ ⟨rfl,ew10⟩;have H:=H.step ew10;refine⟨_,rfl,?_⟩
   refine pe 4 Z (q3 (W_ret (rt2 results180 Z Z ?_)))
   obtain rfl:i=j:=by omega
   have hpl:=Sp.pl_of oM hlo hhi
   obtain⟨hfd,_⟩:=Sp.fd_at hsk hz9 hlo hhi
   exact H.rets (by rw[hpl,hfd];simp only[Sp.cmpB_eq];rfl)
  intro hc8'
  try simp only[nrm]at hc8'
  refine pe 11 Z (q3 (W_ret (rt2 results180 Z Z ?_)))
  obtain rfl:i=j:=by omega
  have hpl:=Sp.pl_of oM hlo hhi
  have hfd:=Sp.fd_end (nm:=nm) (ks:=kids) (fun k x hk hx=>hlo k x oM hx)
  exact H.rets (by rw[hpl,hfd];rfl)
theorem i_place_c (w0:World)(G0:PH)(hG:PSub G0 w0)(t:Nd)(hndt:RdN G0 t)(nm:Bs)(hnm:nm.length≤16777216)(hwt:t.wf) :
  Calls Tryz.prog 145 #[.pointer (some ⟨t.b,0,none⟩),str nm] w0 (Rets w0 (.tuple #[.int .i64 (Sp.pl t.kids nm:Nat),.bool (Sp.fd t.kids nm).isSome])):=by
 obtain⟨_,_,_,_,_,_,_,hprt,hrit,hrkt⟩:=hndt.open
 have hn_hrit:=hrit.len;have hx_hrit:_≤1099511627776:=hrit.lim
 have hn_hrkt:=hrkt.len;have hx_hrkt:_≤1099511627776:=hrkt.lim
 have H:=Hp.init hG
 refine calls_of_W (l:=[.pointer (some ⟨t.b,0,none⟩),str nm]) func145 Z ntmps145 Z (q2 (pe 2 Z (q1 (pe 2 Z (fA 3 Z (lP H hprt 3 Z2 (mV Z (xr H Z2 (l_Search_c _ _ H.sub _ _ hrkt _ hnm ((Nd.wf_iff _).1 hwt).1) ?_))))))));intro _ H
 refine pe 4 Z (q3 (W_ret (rt2 results145 Z Z ?_)))
 exact H.rets Z
theorem i_at_c (w0:World)(G0:PH)(hG:PSub G0 w0)(t:Nd)(hndt:RdN G0 t)(vps:Value)(ps:List (Bs))(hps:RdT G0 vps ps)(hwt:t.wf) :
  Calls Tryz.prog 148 #[.pointer (some ⟨t.b,0,none⟩),vps] w0 (RetV w0 (fun v=>(t.at_ ps=none∧v= .pointer none)∨(∃d,t.at_ ps=some d∧v= .pointer (some ⟨d.b,0,none⟩)))):=by
 obtain⟨_,_,_,_,_,_,_,hprt,hrit,hrkt⟩:=hndt.open
 have hn_hrit:=hrit.len;have hx_hrit:_≤1099511627776:=hrit.lim
 have hn_hrkt:=hrkt.len;have hx_hrkt:_≤1099511627776:=hrkt.lim
 obtain⟨aps,kps,rfl⟩:=hps.shape
 have hlimps:ps.length≤1099511627776:=hps.lim
 have H:=Hp.init hG
 refine calls_of_W (l:=[.pointer (some ⟨t.b,0,none⟩),.slice aps ps.length kps]) func148 Z ntmps148 Z (q2 (aG Z (q3 (W_seq (q2 (mV Z (lN Z (mV Z (q3 (W_block ?_))))))))))
 refine W_lp (hf:=(Sub.cons (t:=9) Z (Sub.cons (t:=10) Z Sub.nil))) (J:=fun M w m=>∃(k:Nat) (d:Nd) (G:PH),M=[(11,.int .i64 (k:Int)),(0,.pointer (some ⟨d.b,0,none⟩))]∧PLe G0 G∧Hp w0 G0 [] w G []∧(k≤ps.length∧RdN G d∧d.wf∧t.at_ (ps.take k)=some d)∧m=(ps.length-k)) (h0:=⟨0,t,_,Z,PLe.refl _,H,?inv,Z⟩) (round:=?round)
 case inv=>exact⟨by omega,hndt,hwt,rfl⟩
 case round =>
  rintro _ _ _ ⟨k,d,_,rfl,hle1,H,hinv1,rfl⟩
  have hps:=hps.up hle1
  obtain⟨_,hnd0,hwd,hat⟩:=hinv1;obtain⟨_,_,_,_,_,_,_,hpr0,_,hrk0⟩:=hnd0.open;have hn_hrk0:=hrk0.len
  refine q2 (pe 1 Z (q3 (W_seq ?_)))
  refine W_cond Z ?_ ?_
  ·intro hc2
   try simp only[nrm]at hc2
   refine W_skip (N_K (W_seq (W_block (q2 (iP k hps Z3 Z ?_)))));intro _ _ z3 _ hz3 hE3 hrow3
   obtain⟨rfl,hi3⟩:=hE3;have hy_hi3:_≤16777216:=hi3
   refine lP H hrow3 0 Z2 (aG Z (q1 (pe 2 Z (xr H Z2 (i_place_c _ _ H.sub _ hnd0 _ hi3 hwd) ?_))));intro _ H
   refine pe 5 Z (q3 (W_seq (q2 (pe 2 Z (q3 ?_)))))
   refine W_cond Z ?_ ?_
   ·intro hc5
    try simp only[nrm]at hc5
    refine q2 (aG Z (q3 (W_ret (N_K_ret (N_B_ret (N_K_ret (N_LP_ret (N_B_ret (N_K_ret (rt1 results148 Z ?_))))))))))
    exact H.retV (.inl ⟨Nd.at_stop hz3 hat (by simpa [Sp.fd,Nd.kid] using hc5),rfl⟩)
   intro hc5'
   try simp only[nrm]at hc5'
   obtain⟨q,hq⟩:=Option.isSome_iff_exists.1 hc5'
   have hpl:d.kids[Sp.pl d.kids z3]? = some q:=Nd.place_some hwd hq
   have hlt:Sp.pl d.kids z3<d.kids.length:=(List.getElem?_eq_some_iff.1 hpl).1
   refine W_skip (N_K (W_region (pe 2 Z (fA 3 Z (lP H hpr0 3 Z2 (mV Z (iP (Sp.pl d.kids z3) hrk0 Z3 Z ?_)))))));intro _ _ z6 _ hz6 hE6 hrow6
   obtain⟨rfl,hnd6⟩:=hE6;obtain⟨_,_,_,_,_,_,_,_,hri6,hrk6⟩:=hnd6.open;have hn_hri6:=hri6.len;have hx_hri6:_≤1099511627776:=hri6.lim;have hn_hrk6:=hrk6.len;have hx_hrk6:_≤1099511627776:=hrk6.lim
   have hkid:Nd.kid d z3=some z6:=by (show Sp.fd _ _=_);rw[hq];exact hpl.symm.trans hz6
   refine lP H hrow6 0 Z2 (aG Z (R_nil (N_B (N_K (W_region (aD Z2 (mV Z (R_nil ?_))))))))
   refine N_lp (hJ:=⟨k+1,z6,_,Z,hle1,H,?inv,Z⟩) (hm:=?hm)
   case hm=>omega
   case inv=>exact⟨by omega,hnd6,(((Nd.wf_iff _).1 hwd).2 _ (List.mem_of_getElem? hz6)).2,by rw[Nd.at_step hz3 hat];exact hkid⟩
  intro hc2'
  try simp only[nrm]at hc2'
  refine W_exit (N_K_exit (N_LP_exit (N_B_same (N_K (q2 (pe 2 Z (q3 (W_ret (rt1 results148 Z ?_)))))))))
  exact H.retV (.inr ⟨d,by rw[←hat,List.take_of_length_le oM],rfl⟩)
theorem i_dirOf_c (w0:World)(G0:PH)(hG:PSub G0 w0)(t:Nd)(hndt:RdN G0 t)(path:Bs)(hpath:path.length≤16777216)(hwt:t.wf) :
  Calls Tryz.prog 144 #[.pointer (some ⟨t.b,0,none⟩),str path] w0 (RetV w0 (fun v=>(t.dirOf path=none∧v= .tuple #[.pointer none,str []])∨(∃d nm,t.dirOf path=some (d,nm)∧v= .tuple #[.pointer (some ⟨d.b,0,none⟩),str nm]))):=by
 obtain⟨_,_,_,_,_,_,_,hprt,hrit,hrkt⟩:=hndt.open
 have hn_hrit:=hrit.len;have hx_hrit:_≤1099511627776:=hrit.lim
 have hn_hrkt:=hrkt.len;have hx_hrkt:_≤1099511627776:=hrkt.lim
 have H:=Hp.init hG
 refine calls_of_W (l:=[.pointer (some ⟨t.b,0,none⟩),str path]) func144 Z ntmps144 Z (q2 (pe 2 Z (q1 (mV Z (xc Z2 (i_PathParts_c _ _ H.sub _ hpath) ?_)))))
 rintro _ _ ⟨G1,_,g1,rfl,hr1_0⟩
 have H:=H.grow g1
 have hndt:=hndt.up g1.le
 obtain⟨_,_,rfl⟩:=hr1_0.shape;have hx_hr1_0:_≤1099511627776:=hr1_0.lim
 refine⟨_,Z,?_⟩
 refine aG Z (q3 (W_seq (q2 (mV Z (lN Z (pe 1 Z (q3 ?_)))))))
 refine W_cond Z ?_ ?_
 ·intro hc2
  try simp only[nrm]at hc2
  refine q2 (pe 2 Z (q3 (W_ret (N_K_ret (rt2 results144 Z Z ?_)))))
  exact H.retV (.inl ⟨Nd.dirOf_nil oM,Z⟩)
 intro hc2'
 try simp only[nrm]at hc2'
 refine W_skip (N_K (q2 (mV Z (lN Z (o_sub Z Z Z oO (aG Z (q1 (pe 3 Z ?_))))))))
 have hcap4:=hr1_0.cap;try simp only[List.length_set,List.length_append,List.length_take,List.length_drop,List.length_replicate]at hcap4
 refine o_slice_to (j:=((Sp.parts path).length-1)) underlying79 sizeOf9 Z Z Z oM oM ?_
 have hsl4:=hr1_0.take (j:=((Sp.parts path).length-1)) aN
 have hsn1:=hsl4.len
 refine xc Z2 (i_at_c _ _ H.sub _ hndt _ _ hsl4 hwt) ?_
 rintro _ _ ⟨_,rfl,ew5,⟨hat5,rfl⟩|⟨_,hat5,rfl⟩⟩
 ·skip
  have H:=H.step ew5;refine⟨_,rfl,?_⟩
  refine aG Z (q3 (W_seq (q2 (mV Z (o_eqnil_ptr underlying80 Z Z Z (pe 7 Z (q3 (W_true Z (q2 (pe 2 Z (q3 (W_ret (N_K_ret (rt2 results144 Z Z ?_))))))))))))))
  exact H.retV (.inl ⟨Nd.dirOf_no oM hat5,Z⟩)
 skip
 have H:=H.step ew5;refine⟨_,rfl,?_⟩
 have hnd5:=hndt.at hat5;obtain⟨_,_,_,_,_,_,_,hpr5,hri5,hrk5⟩:=hnd5.open
 have hn_hri5:=hri5.len;have hx_hri5:_≤1099511627776:=hri5.lim
 have hn_hrk5:=hrk5.len;have hx_hrk5:_≤1099511627776:=hrk5.lim
 refine aG Z (q3 (W_seq (q2 (mV Z (o_eqnil_ptr underlying80 Z Z Z (pe 3 Z (gR Z (fA 1 Z (gR Z (lP H hpr5 1 Z2 (pe 2 Z (q3 ?_))))))))))))
 refine W_cond Z ?_ ?_
 ·intro hc6
  try simp only[nrm]at hc6
  refine q2 (pe 2 Z (q3 (W_ret (N_K_ret (rt2 results144 Z Z ?_)))))
  exact H.retV (.inl ⟨Nd.dirOf_nodir oM hat5 (by simpa using hc6),rfl⟩)
 intro hc6'
 try simp only[nrm]at hc6'
 refine W_skip (N_K (W_seq (W_drawK [] 7 H kR Z ?_)));intro _ H;have hd7:=PLe.refl G1
 refine dE 0 Z2 (dE 1 Z2 (dE 2 Z2 ?_))
 have hl8:=hr1_0.len
 obtain⟨_,_,_,_,ha8,hz8,hq8,hE8,hrow8,_⟩:=hr1_0.at (i:=((Sp.parts path).length-1)) oM
 clear hq8
 obtain⟨rfl,hi8⟩:=hE8;have hy_hi8:_≤16777216:=hi8
 refine dI 3 1 ((Sp.parts path).length-1) ha8 Z3 oM (dP 4 hrow8 0 Z3 (dE 5 Z2 (dE 6 Z2 (rz (N_K (W_ret (rt2 results144 Z Z ?_)))))))
 exact H.retV (.inr ⟨_,_,Nd.dirOf_yes oM hz8 hat5 (by simpa using hc6'),rfl⟩)
theorem i_find_n_c (w0:World)(G0:PH)(hG:PSub G0 w0)(t:Nd)(hndt:RdN G0 t)(path:Bs)(hpath:path.length≤16777216)(hwt:t.wf) :
  Calls Tryz.prog 103 #[.pointer (some ⟨t.b,0,none⟩),str path] w0 (RetV w0 (fun v=>(t.find path=none∧v= .pointer none)∨(∃d,t.find path=some d∧v= .pointer (some ⟨d.b,0,none⟩)))):=by
 obtain⟨_,_,_,_,_,_,_,_,hrit,hrkt⟩:=hndt.open
 have hn_hrit:=hrit.len;have hx_hrit:_≤1099511627776:=hrit.lim
 have hn_hrkt:=hrkt.len;have hx_hrkt:_≤1099511627776:=hrkt.lim
 have H:=Hp.init hG
 refine calls_of_W (l:=[.pointer (some ⟨t.b,0,none⟩),str path]) func103 Z ntmps103 Z (q2 (aG Z (q1 (pe 2 Z (xc Z2 (i_dirOf_c _ _ H.sub _ hndt _ hpath hwt) ?_)))))
 rintro _ _ ⟨_,rfl,ew1,⟨hdf1,rfl⟩|⟨_,nm1,hdf1,rfl⟩⟩
 ·skip
  have H:=H.step ew1;refine⟨_,rfl,?_⟩
  refine pe 5 Z (q3 (W_seq (q2 (mV Z (o_eqnil_ptr underlying80 Z Z Z (q3 (W_true Z (q2 (aG Z (q3 (W_ret (N_K_ret (rt1 results103 Z ?_)))))))))))))
  exact H.retV (.inl ⟨Nd.find_no hdf1,Z⟩)
 skip
 have H:=H.step ew1;refine⟨_,rfl,?_⟩
 have hnml1:=Nd.dir_len hdf1
 have hnd1:=hndt.at (Nd.dirOf_some hdf1).2.2.1;obtain⟨_,_,nm1,_,_,_,_,_,hri1,hrk1⟩:=hnd1.open
 have hn_hri1:=hri1.len;have hx_hri1:_≤1099511627776:=hri1.lim
 have hn_hrk1:=hrk1.len;have hx_hrk1:_≤1099511627776:=hrk1.lim
 refine pe 5 Z (q3 (W_seq (q2 (mV Z (o_eqnil_ptr underlying80 Z Z Z (q3 (W_false Z (W_skip (N_K (q2 (pe 2 Z (xbs H Z7 ?_))))))))))));intro _ _ _ H
 have H:=H.blkAcc 1 (k:=0) (n:=1) rfl rfl (by decide)
 have hchk4:=((Chk.nil (E:=strE) (sz:=1) (G:=G0)).snoc (show strE _ _ _ from⟨rfl,hnml1⟩) rfl)
 refine xc Z2 (i_at_c _ _ (H.lendSubL [0]) _ (hnd1.up (PPlus.le _ _ _)) _ _ (H.lendRdL (k:=0) (ks:=[0]) Z Z hchk4 aN aN) (Nd.dir_wf hwt hdf1)) ?_
 rintro _ _ ⟨_,rfl,ew3,⟨hat3,rfl⟩|⟨_,hat3,rfl⟩⟩
 ·skip
  have H:=H.step ew3;refine⟨_,rfl,?_⟩
  refine aG Z (q3 (W_ret (rt1 results103 Z ?_)))
  exact H.retV (.inl ⟨(Nd.find_yes hdf1).trans hat3,Z⟩)
 skip
 have H:=H.step ew3;refine⟨_,rfl,?_⟩
 have hnd3:=hnd1.at hat3;obtain⟨_,_,_,_,_,_,_,_,hri3,hrk3⟩:=hnd3.open
 have hn_hri3:=hri3.len;have hx_hri3:_≤1099511627776:=hri3.lim
 have hn_hrk3:=hrk3.len;have hx_hrk3:_≤1099511627776:=hrk3.lim
 refine aG Z (q3 (W_ret (rt1 results103 Z ?_)))
 exact H.retV (.inr ⟨_,(Nd.find_yes hdf1).trans hat3,Z⟩)
theorem l_Insert_c (w0:World)(G0:PH)(hG:PSub G0 w0)(vkids:Value)(kids:List Nd)(i:Nat)(hi:i≤kids.length)(hkl:kids.length≤1099511627776)(vbk:Nat)(k:Nd)(hLent:Lent w0 G0 [acc 80 1 vkids kids.length (ptrs kids),blk vbk (cl [ptr k.b] 80)]) :
  Calls Tryz.prog 146 #[vkids,.int .i64 (i:Int),.slice (some ⟨vbk,0,none⟩) 1 1] w0 (RetM w0 G0 (fps [acc 80 1 vkids kids.length (ptrs kids),blk vbk (cl [ptr k.b] 80)]) (fun G' v Bs=>∃(c:List Value),Bs=[acc 80 1 v (kids.length+1) c]∧c=ptrs (kids.take i++k::kids.drop i))):=by
 have H:Hp w0 G0 (fps [acc 80 1 vkids kids.length (ptrs kids),blk vbk (cl [ptr k.b] 80)]) w0 G0 [acc 80 1 vkids kids.length (ptrs kids),blk vbk (cl [ptr k.b] 80)]:=hLent.hp
 obtain⟨akids,ckids,rfl⟩:=H.accShape (k:=0) rfl
 refine calls_of_W (l:=[.slice akids kids.length ckids,.int .i64 (i:Int),.slice (some ⟨vbk,0,none⟩) 1 1]) func146 Z ntmps146 Z (q2 (aG Z (q1 (pe 2 Z ?_))))
 have hac1:=H.accCap (k:=0) rfl
 refine o_slice_from (i:=i) underlying148 sizeOf80 Z Z Z Z oM (q1 (mV Z (lN Z (aG Z (q3 (W_seq (q2 (pe 2 Z (q3 ?_)))))))))
 refine W_cond Z ?_ ?_
 ·intro hc2
  try simp only[nrm]at hc2
  exact absurd hc2 (by decide)
 intro hc2'
 try simp only[nrm]at hc2'
 refine W_skip (N_K (q2 (mV Z (lN Z (aG Z (q3 (W_seq (q2 (pe 3 Z (q3 ?_))))))))))
 refine W_cond Z ?_ ?_
 ·intro hc3
  try simp only[nrm]at hc3
  refine q2 (pe 2 Z ?_)
  refine o_append 0 H underlying148 typeInfo80 ⟨_,Z,Z⟩ Z Z Z Z Z Z Z (news:=[ptr k.b]) Z (fun j u hu=>by (rw[Nat.zero_add]);exact blk_cell (k:=1) H rfl (by simpa using hu)) (by simp[ptr,Value.oneCell']) oM (by decide) ?_;intro _ _ H
  refine aG Z (q3 (W_ret (N_K_ret (rt1 results146 Z ?_))))
  have H:=H.dl 1
  exact H.retM ⟨_,rfl,by (obtain rfl:i=kids.length:=by omega);(rw[List.take_length,List.drop_length]);simp[ptrs]⟩
 intro hc3'
 try simp only[nrm]at hc3'
 obtain⟨b0,_,_,hv0,_⟩:=H.accBlk (k:=0) (i:=i) rfl oM;cases hv0
 have hvk:vbk≠b0:=fun e=>by subst e;have:=H.nd;simp[fps,acc_fp,blk]at this
 have hcc:=H.accCap (k:=0) rfl
 have hcm:=H.accMax (k:=0) rfl
 refine W_skip (N_K (W_seq (q2 (pe 2 Z (aD Z2 (mV Z (o_cap underlying148 Z Z (pe 1 Z (q3 ?_)))))))))
 refine W_cond Z ?_ ?_
 ·intro hc6
  try simp only[nrm]at hc6
  refine q2 (pe 2 Z ?_)
  have hac7:=H.accCap (k:=0) rfl
  refine o_slice_to (j:=i) underlying148 sizeOf80 Z Z Z Z oM (pe 2 Z (aD Z2 (mV Z (o_sub Z Z Z oO (o_appmk 0 H (kids.length+1-i) underlying148 underlying3 typeInfo80 Z Z Z Z Z Z Z Z oM Z oM oM oM oM ?_)))));intro _ _ _ H _ _
  refine aG Z (q1 (pe 2 Z (o_slice_from1 (i:=i) underlying148 sizeOf80 Z Z Z oM oM oM (mV Z ?_))))
  refine o_copy 0 H ([ptr k.b]) underlying148 typeInfo80 Z Z Z Z Z (by simp[Nat.min_def]<;>(try split)<;>omega) (fun j v hj=>by (rw[Addr.add_lit,Nat.zero_add]);exact blk_cell (k:=2) H rfl (by simpa using hj)) (by intro v hv;first|exact ptrs_one v (List.mem_of_mem_drop hv)|(simp at hv;subst hv;rfl)) (by simp;try omega) ?_;intro _ H
  refine q3 (W_seq (W_drawK [2] 9 H kR Z ?_));intro _ H;have hd12:=PLe.refl G0
  refine dE 0 Z2 (dE 1 Z2 (dE 2 Z2 (RD_t 3 Z kR Z (fun _ hK=>v_add Z Z oO) (RD_t 4 Z kR Z (fun _ hK=>v_slice_from1 (i:=(i+1)) underlying148 sizeOf80 Z Z oM oM oM) (dE 5 Z2 (dE 6 Z2 (RD_t 7 Z kR Z (fun _ hK=>v_slice_from1 (i:=i) underlying148 sizeOf80 Z Z oM oM oM) (r1 8 Z ?_))))))))
  refine o_copy 0 H ((ptrs kids).drop i) underlying148 typeInfo80 Z Z Z Z Z (by simp[Nat.min_def]<;>(try split)<;>omega) (fun j v hj=>by (rw[Addr.add_lit]);(rw[List.getElem?_drop]at hj);exact acc_cell (k:=1) H rfl (by first|exact hj|(rw[List.getElem?_append_left (List.getElem?_eq_some_iff.1 hj).1];exact hj))) (by intro v hv;first|exact ptrs_one v (List.mem_of_mem_drop hv)|(simp at hv;subst hv;rfl)) (by simp;try omega) ?_;intro _ H
  refine q4 H hd12 (rz (N_K (q2 (pe 2 Z (q3 (W_ret (N_K_ret (rt1 results146 Z ?_))))))))
  have H:=H.dl 1
  have H:=H.dl 1
  have hcx:=(insC2 (x:=ptr k.b) (z:= .pointer none) (i:=i) (r:=kids.length+1-i) (c:=ptrs kids) (by simp;omega) (by simp;omega)).trans (ptrs_ins kids k i)
  exact H.retM ⟨_,acc_1 oM,hcx⟩
 intro hc6'
 try simp only[nrm]at hc6'
 refine W_skip (N_K (q2 (pe 3 Z (aD Z2 (o_slice_to (j:=kids.length+1) underlying148 sizeOf80 Z Z Z oM oM ?_)))))
 obtain⟨_,H⟩:=H.accMore (k:=0) rfl oM
 refine aG Z (q3 (W_seq (q2 (pe 4 Z (aD Z2 (o_slice_from1 (i:=(i+1)) underlying148 sizeOf80 Z Z Z oM oM oM (o_overlaps 0 1 H (fun args w=>run_callFunc_extern func182 kR kR kR (e:=Extern.SlicesOverlaps.overlaps #[148,148] #[4]) kR args w) underlying148 sizeOf80 Z Z Z Z hvk oM (pe 1 Z (q3 (W_true Z (W_seq (W_drawK [1] 9 H kR Z ?_))))))))))));intro _ H;have hd17:=PLe.refl G0
 refine dE 0 Z2 (dE 1 Z2 (dE 2 Z2 (RD_t 3 Z kR Z (fun _ hK=>v_add Z Z oO) (RD_t 4 Z kR Z (fun _ hK=>v_slice_from1 (i:=(i+1)) underlying148 sizeOf80 Z Z oM oM oM) (dE 5 Z2 (dE 6 Z2 (RD_t 7 Z kR Z (fun _ hK=>v_slice_from1 (i:=i) underlying148 sizeOf80 Z Z oM oM oM) (r1 8 Z ?_))))))))
 refine o_copy 0 H ((ptrs kids).drop i) underlying148 typeInfo80 Z Z Z Z Z (by simp[Nat.min_def]<;>(try split)<;>omega) (fun j v hj=>by (rw[Addr.add_lit]);(rw[List.getElem?_drop]at hj);exact acc_cell (k:=0) H rfl (by first|exact hj|(rw[List.getElem?_append_left (List.getElem?_eq_some_iff.1 hj).1];exact hj))) (by intro v hv;first|exact ptrs_one v (List.mem_of_mem_drop hv)|(simp at hv;subst hv;rfl)) (by simp;try omega) ?_;intro _ H
 refine q4 H hd17 (rz (N_K (q2 (pe 2 Z (o_slice_from1 (i:=i) underlying148 sizeOf80 Z Z Z oM oM oM (mV Z ?_))))))
 refine o_copy 0 H ([ptr k.b]) underlying148 typeInfo80 Z Z Z Z Z (by simp[Nat.min_def]<;>(try split)<;>omega) (fun j v hj=>by (rw[Addr.add_lit,Nat.zero_add]);exact blk_cell (k:=1) H rfl (by simpa using hj)) (by intro v hv;first|exact ptrs_one v (List.mem_of_mem_drop hv)|(simp at hv;subst hv;rfl)) (by simp;try omega) ?_;intro _ H
 refine q1 (pe 2 Z (q3 (W_ret (N_K_ret (rt1 results146 Z ?_)))))
 have H:=H.dl 1
 exact H.retM ⟨_,rfl,(insC (by simp;omega)).trans (ptrs_ins kids k i)⟩
theorem i_insert_c (w0:World)(G0:PH)(hG:PSub G0 w0)(Ft:Fr)(t:Nd)(hNt:NdO 150 80 G0 t Ft)(cx:List Value)(x:BItem)(hx:itemE G0 x cx)(hLent:Lent w0 G0 [frag Ft])(hwt:t.wf)(hct:t.cnt≤1000) :
  Calls Tryz.prog 101 #[.pointer (some ⟨t.b,0,none⟩),.agg cx.toArray] w0 (RetM w0 G0 (fps [frag Ft]) (fun G' v Bs=>∃(nb:Nat) (F':Fr) (t':Nd),v= .bool (t.ins x nb).isSome∧Bs=[frag F']∧NdO 150 80 G' t' F'∧t'.b=t.b∧(t.ins x nb).getD t=t')):=by
 obtain⟨_,_,_,rfl,hi1,hr1,_,_⟩:=ox hx
 have H:Hp w0 G0 (fps [frag Ft]) w0 G0 [frag Ft]:=hLent.hp
 refine calls_of_W (l:=[.pointer (some ⟨t.b,0,none⟩),_]) func101 Z ntmps101 Z (q2 (o_box H Z Z Z ?_));intro _ _ _ H
 refine aG Z (q1 (mV Z (fA 0 Z (lB 0 H Z3 (xc Z2 (i_dirOf_c _ _ (H.lendSubL [1]) _ ((H.lendN (k:=1) (ks:=[1]) Z Z hNt).at (show Nd.at_ t []=some t from Z)) _ hi1 hwt) ?_)))))
 rintro _ _ ⟨_,rfl,ew3,⟨hdf3,rfl⟩|⟨d3,nm3,hdf3,rfl⟩⟩
 ·skip
  have H:=H.step ew3;refine⟨_,rfl,?_⟩
  refine pe 5 Z (q3 (W_seq (q2 (mV Z (o_eqnil_ptr underlying80 Z Z Z (q3 (W_true Z (q2 (aG Z (q3 (W_ret (N_K_ret (rt1 results101 Z ?_)))))))))))))
  have H:=H.dl 0
  exact H.retM ⟨0,_,_,by (rw[(Nd.ins_no1 hdf3)];rfl),rfl,hNt,rfl,by (rw[(Nd.ins_no1 hdf3)];rfl)⟩
 skip
 have H:=H.step ew3;refine⟨_,rfl,?_⟩
 have hnml3:=Nd.dir_len hdf3
 refine pe 5 Z (q3 (W_seq (q2 (mV Z (o_eqnil_ptr underlying80 Z Z Z (q3 (W_false Z (W_skip (N_K (q2 (pe 2 Z (xr H Z2 (i_place_c _ _ (H.lendSubL [1]) _ ((H.lendN (k:=1) (ks:=[1]) Z Z hNt).at (Nd.dirOf_some hdf3).2.2.1) _ hnml3 (Nd.dir_wf hwt hdf3)) ?_))))))))))));intro _ H
 refine pe 5 Z (q3 (W_seq (q2 (mV Z (q3 ?_)))))
 refine W_cond Z ?_ ?_
 ·intro hc5
  try simp only[nrm]at hc5
  refine q2 (aG Z (q3 (W_ret (N_K_ret (rt1 results101 Z ?_)))))
  have H:=H.dl 0
  exact H.retM ⟨0,_,_,by (rw[(Nd.ins_no2 hdf3 (by simpa using hc5))];rfl),rfl,hNt,rfl,by (rw[(Nd.ins_no2 hdf3 (by simpa using hc5))];rfl)⟩
 intro hc5'
 try simp only[nrm]at hc5'
 have H:=H.tF 1
 obtain⟨_,_,_,_,_,oR,H,ohri,ohNs,_,_,hcov,hclose⟩:=Hp.openNode H hNt (Nd.dirOf_some hdf3).2.2.1
 obtain⟨_,_,rfl⟩:=H.accShape (k:=1) rfl;have hdo:=PLe.refl G0;have hn_ohri:=ohri.len
 refine W_skip (N_K (W_seq (W_drawK [3] 19 H kR Z ?_)));intro _ H;have hd6:=PLe.refl G0
 refine dE 0 Z2 (dE 1 Z2 (dE 2 Z2 (dF 3 3 Z2 (dE 5 Z2 (dE 6 Z2 (dF 7 1 Z2 (dB 8 0 Z4 (dF 9 2 Z2 (dB 10 0 Z4 ?_)))))))))
 refine r2 4 11 Z2 ?_ ?_
 ·skip
  refine lB 0 H Z3 (q4 H hd6 (r1 11 Z (xc Z2 (l_Clone_c _ _ H.sub _ _ hr1) ?_)))
  rintro _ _ ⟨_,_,_,g7,rfl,⟨_,rfl,hchk7⟩,hp7,hq7,hs7⟩
  have H:=H.growO g7 hp7 hq7 hs7;obtain⟨_,_,rfl⟩:=H.accShape (k:=0) rfl
  have ohri:=ohri.up g7.le
  have ohNs:=ohNs.up g7.le
  have hdo:=hdo.trans g7.le
  have hd6:=hd6.trans g7.le
  refine⟨_,Z,?_⟩
  obtain⟨_,H,hsg8,hsr8⟩:=H.shutL (k:=0) rfl (H.apart (k:=0) (ks:=[1,2,3]) rfl rfl (by intro b hb;rcases hcov b hb with h|h|h;(· exact fpsAt_mem (k:=1) rfl rfl b (by simp[blk,h]));(· exact fpsAt_mem (k:=2) rfl rfl b h);(· exact fpsAt_mem (k:=3) rfl rfl b h))) hchk7 aN aN
  have ohri:=ohri.up hsg8
  have ohNs:=ohNs.up hsg8
  have hdo:=hdo.trans hsg8
  have hd6:=hd6.trans hsg8
  refine q4 H hd6 (RD_t 12 Z kR Z (fun _ hK=>v_build bf150 Z Z) (r1 13 Z (o_box H Z Z Z ?_)));intro b9 _ _ H
  refine q4 H hd6 (r1 14 Z (xbs H Z7 ?_));intro _ _ _ H
  refine q4 H hd6 (r1 15 Z ?_)
  have H:=H.tF 3
  refine xc Z2 (l_Insert_c _ _ H.sub _ _ _ (Sp.pl_le d3.kids nm3) oM _ (Nd.mk b9 nm3 x.dir x.ids []) H.lent2) ?_
  rintro _ _ ⟨_,_,_,rfl,H11',⟨_,rfl,rfl⟩⟩
  have ohri:=ohri.up H11'.le
  have ohNs:=ohNs.up H11'.le
  have hsr8:=hsr8.up H11'.le
  have hdo:=hdo.trans H11'.le
  have hd6:=hd6.trans H11'.le
  have H:=H.borrow2 H11'
  obtain⟨avAk,cvAk,rfl⟩:=H.accShape (k:=0) rfl
  refine⟨_,Z,?_⟩
  refine q4 H hd6 (dE 16 Z2 (dF 17 3 Z2 (r1 18 Z (xst 2 H Z8 ?_))));intro _ H
  refine q4 H hd6 (rz (N_K (q2 (aG Z (q3 (W_ret (rt1 results101 Z ?_)))))))
  have H:=H.sel [1,3,2,0] rfl
  have H:=H.inF
  have H:=H.tF 2
  have H:=H.tF 2
  obtain⟨Fs2,hp2,hN2⟩:=NdsO.ins (k:=Nd.mk b9 nm3 x.dir x.ids []) (Sp.pl d3.kids nm3) ohNs (NdO.new hnml3 hsr8)
  have hcd:=Nd.at_cnt (Nd.dirOf_some hdf3).2.2.1;have hcl:=Nd.kids_le d3;have hpl:=Sp.pl_le d3.kids nm3
  have hkl:(d3.kids.take (Sp.pl d3.kids nm3)++Nd.mk b9 nm3 x.dir x.ids []::d3.kids.drop (Sp.pl d3.kids nm3)).length=d3.kids.length+1:=by (simp;omega)
  obtain⟨F2,H,hN3,hb3⟩:=hclose (kids':=(d3.kids.take (Sp.pl d3.kids nm3)++Nd.mk b9 nm3 x.dir x.ids []::d3.kids.drop (Sp.pl d3.kids nm3))) (Fs':=Fs2) (by (rw[hkl]);exact H) (by (refine List.Perm.trans ?_ (List.Perm.append_right oR hp2.symm));simp) hdo ohri hN2 oM
  have hins:=Nd.ins_yes (nb:=b9) hdf3 (by simpa using hc5')
  exact H.retM ⟨b9,_,_,by (rw[hins];rfl),rfl,hN3,hb3,by (rw[hins];rfl)⟩
 skip
 refine xc Z2 (l_Clone_c _ _ H.sub _ _ hr1) ?_
 rintro _ _ ⟨_,_,_,g13,rfl,⟨_,rfl,hchk13⟩,hp13,hq13,hs13⟩
 have H:=H.growO g13 hp13 hq13 hs13;obtain⟨_,_,rfl⟩:=H.accShape (k:=0) rfl
 have ohri:=ohri.up g13.le
 have ohNs:=ohNs.up g13.le
 have hdo:=hdo.trans g13.le
 have hd6:=hd6.trans g13.le
 refine⟨_,Z,?_⟩
 obtain⟨_,H,hsg14,hsr14⟩:=H.shutL (k:=0) rfl (H.apart (k:=0) (ks:=[1,2,3]) rfl rfl (by intro b hb;rcases hcov b hb with h|h|h;(· exact fpsAt_mem (k:=1) rfl rfl b (by simp[blk,h]));(· exact fpsAt_mem (k:=2) rfl rfl b h);(· exact fpsAt_mem (k:=3) rfl rfl b h))) hchk13 aN aN
 have ohri:=ohri.up hsg14
 have ohNs:=ohNs.up hsg14
 have hdo:=hdo.trans hsg14
 have hd6:=hd6.trans hsg14
 refine q4 H hd6 (RD_t 12 Z kR Z (fun _ hK=>v_build bf150 Z Z) ?_)
 refine r2 4 13 Z2 ?_ ?_
 ·skip
  refine lB 0 H Z3 (q4 H hd6 (r1 13 Z (o_box H Z Z Z ?_)));intro b15 _ _ H
  refine q4 H hd6 (r1 14 Z (xbs H Z7 ?_));intro _ _ _ H
  refine q4 H hd6 (r1 15 Z ?_)
  have H:=H.tF 3
  refine xc Z2 (l_Insert_c _ _ H.sub _ _ _ (Sp.pl_le d3.kids nm3) oM _ (Nd.mk b15 nm3 x.dir x.ids []) H.lent2) ?_
  rintro _ _ ⟨_,_,_,rfl,H17',⟨_,rfl,rfl⟩⟩
  have ohri:=ohri.up H17'.le
  have ohNs:=ohNs.up H17'.le
  have hsr14:=hsr14.up H17'.le
  have hdo:=hdo.trans H17'.le
  have hd6:=hd6.trans H17'.le
  have H:=H.borrow2 H17'
  obtain⟨avAk,cvAk,rfl⟩:=H.accShape (k:=0) rfl
  refine⟨_,Z,?_⟩
  refine q4 H hd6 (dE 16 Z2 (dF 17 3 Z2 (r1 18 Z (xst 2 H Z8 ?_))));intro _ H
  refine q4 H hd6 (rz (N_K (q2 (aG Z (q3 (W_ret (rt1 results101 Z ?_)))))))
  have H:=H.sel [1,3,2,0] rfl
  have H:=H.inF
  have H:=H.tF 2
  have H:=H.tF 2
  obtain⟨Fs2,hp2,hN2⟩:=NdsO.ins (k:=Nd.mk b15 nm3 x.dir x.ids []) (Sp.pl d3.kids nm3) ohNs (NdO.new hnml3 hsr14)
  have hcd:=Nd.at_cnt (Nd.dirOf_some hdf3).2.2.1;have hcl:=Nd.kids_le d3;have hpl:=Sp.pl_le d3.kids nm3
  have hkl:(d3.kids.take (Sp.pl d3.kids nm3)++Nd.mk b15 nm3 x.dir x.ids []::d3.kids.drop (Sp.pl d3.kids nm3)).length=d3.kids.length+1:=by (simp;omega)
  obtain⟨F2,H,hN3,hb3⟩:=hclose (kids':=(d3.kids.take (Sp.pl d3.kids nm3)++Nd.mk b15 nm3 x.dir x.ids []::d3.kids.drop (Sp.pl d3.kids nm3))) (Fs':=Fs2) (by (rw[hkl]);exact H) (by (refine List.Perm.trans ?_ (List.Perm.append_right oR hp2.symm));simp) hdo ohri hN2 oM
  have hins:=Nd.ins_yes (nb:=b15) hdf3 (by simpa using hc5')
  exact H.retM ⟨b15,_,_,by (rw[hins];rfl),rfl,hN3,hb3,by (rw[hins];rfl)⟩
 skip
 refine o_box H Z Z Z ?_;intro b19 _ _ H
 refine q4 H hd6 ?_
 refine r2 4 14 Z2 ?_ ?_
 ·skip
  refine lB 1 H Z3 (q4 H hd6 (r1 14 Z (xbs H Z7 ?_)));intro _ _ _ H
  refine q4 H hd6 (r1 15 Z ?_)
  have H:=H.tF 3
  refine xc Z2 (l_Insert_c _ _ H.sub _ _ _ (Sp.pl_le d3.kids nm3) oM _ (Nd.mk b19 nm3 x.dir x.ids []) H.lent2) ?_
  rintro _ _ ⟨_,_,_,rfl,H21',⟨_,rfl,rfl⟩⟩
  have ohri:=ohri.up H21'.le
  have ohNs:=ohNs.up H21'.le
  have hsr14:=hsr14.up H21'.le
  have hdo:=hdo.trans H21'.le
  have hd6:=hd6.trans H21'.le
  have H:=H.borrow2 H21'
  obtain⟨avAk,cvAk,rfl⟩:=H.accShape (k:=0) rfl
  refine⟨_,Z,?_⟩
  refine q4 H hd6 (dE 16 Z2 (dF 17 3 Z2 (r1 18 Z (xst 2 H Z8 ?_))));intro _ H
  refine q4 H hd6 (rz (N_K (q2 (aG Z (q3 (W_ret (rt1 results101 Z ?_)))))))
  have H:=H.sel [1,3,2,0] rfl
  have H:=H.inF
  have H:=H.tF 2
  have H:=H.tF 2
  obtain⟨Fs2,hp2,hN2⟩:=NdsO.ins (k:=Nd.mk b19 nm3 x.dir x.ids []) (Sp.pl d3.kids nm3) ohNs (NdO.new hnml3 hsr14)
  have hcd:=Nd.at_cnt (Nd.dirOf_some hdf3).2.2.1;have hcl:=Nd.kids_le d3;have hpl:=Sp.pl_le d3.kids nm3
  have hkl:(d3.kids.take (Sp.pl d3.kids nm3)++Nd.mk b19 nm3 x.dir x.ids []::d3.kids.drop (Sp.pl d3.kids nm3)).length=d3.kids.length+1:=by (simp;omega)
  obtain⟨F2,H,hN3,hb3⟩:=hclose (kids':=(d3.kids.take (Sp.pl d3.kids nm3)++Nd.mk b19 nm3 x.dir x.ids []::d3.kids.drop (Sp.pl d3.kids nm3))) (Fs':=Fs2) (by (rw[hkl]);exact H) (by (refine List.Perm.trans ?_ (List.Perm.append_right oR hp2.symm));simp) hdo ohri hN2 oM
  have hins:=Nd.ins_yes (nb:=b19) hdf3 (by simpa using hc5')
  exact H.retM ⟨b19,_,_,by (rw[hins];rfl),rfl,hN3,hb3,by (rw[hins];rfl)⟩
 skip
 refine xbs H Z7 ?_;intro _ _ _ H
 refine q4 H hd6 (r1 4 Z (lB 2 H Z3 (q4 H hd6 (r1 15 Z ?_))))
 have H:=H.tF 3
 refine xc Z2 (l_Insert_c _ _ H.sub _ _ _ (Sp.pl_le d3.kids nm3) oM _ (Nd.mk b19 nm3 x.dir x.ids []) H.lent2) ?_
 rintro _ _ ⟨_,_,_,rfl,H24',⟨_,rfl,rfl⟩⟩
 have ohri:=ohri.up H24'.le
 have ohNs:=ohNs.up H24'.le
 have hsr14:=hsr14.up H24'.le
 have hdo:=hdo.trans H24'.le
 have hd6:=hd6.trans H24'.le
 have H:=H.borrow2 H24'
 obtain⟨avAk,cvAk,rfl⟩:=H.accShape (k:=0) rfl
 refine⟨_,Z,?_⟩
 refine q4 H hd6 (dE 16 Z2 (dF 17 3 Z2 (r1 18 Z (xst 2 H Z8 ?_))));intro _ H
 refine q4 H hd6 (rz (N_K (q2 (aG Z (q3 (W_ret (rt1 results101 Z ?_)))))))
 have H:=H.sel [1,3,2,0] rfl
 have H:=H.inF
 have H:=H.tF 2
 have H:=H.tF 2
 obtain⟨Fs2,hp2,hN2⟩:=NdsO.ins (k:=Nd.mk b19 nm3 x.dir x.ids []) (Sp.pl d3.kids nm3) ohNs (NdO.new hnml3 hsr14)
 have hcd:=Nd.at_cnt (Nd.dirOf_some hdf3).2.2.1;have hcl:=Nd.kids_le d3;have hpl:=Sp.pl_le d3.kids nm3
 have hkl:(d3.kids.take (Sp.pl d3.kids nm3)++Nd.mk b19 nm3 x.dir x.ids []::d3.kids.drop (Sp.pl d3.kids nm3)).length=d3.kids.length+1:=by (simp;omega)
 obtain⟨F2,H,hN3,hb3⟩:=hclose (kids':=(d3.kids.take (Sp.pl d3.kids nm3)++Nd.mk b19 nm3 x.dir x.ids []::d3.kids.drop (Sp.pl d3.kids nm3))) (Fs':=Fs2) (by (rw[hkl]);exact H) (by (refine List.Perm.trans ?_ (List.Perm.append_right oR hp2.symm));simp) hdo ohri hN2 oM
 have hins:=Nd.ins_yes (nb:=b19) hdf3 (by simpa using hc5')
 exact H.retM ⟨b19,_,_,by (rw[hins];rfl),rfl,hN3,hb3,by (rw[hins];rfl)⟩
end Go.Proofs.Tst
