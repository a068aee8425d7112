/- Part 4 of the proof: the program logic and plain functions. Conditions: none. -/
import Derived.Test.YtghodmnnhhhjaaaGreatDoorG03
import Derived.Test.YtghodmnnhhhjaaaGreatDoorG02
import Derived.KernelRfl
import Derived.Lib.AppendStr
import Derived.Shelf.Strings.Builder1
import Derived.Lib.ItoaNum
import Derived.RangeFuncNested
import Derived.RangeFuncLeaves
import Derived.RangeFuncCalls
import Derived.RangeFuncBound
import Derived.WideKeyArgs
import Derived.ChangeArms
import Derived.DataElems
import Derived.ChangeSame
import Derived.Test.YtghodmnnhhhjaaaGreatDoorProg
import Derived.Shelf.SlGeneric
import Derived.Shelf.Strings.Search1
import Derived.Shelf.Strings.Search2
import Derived.Shelf.Strings.Count
import Derived.Shelf.SlIterI.Nil
import Derived.Shelf.SortM.Plain
import Derived.Shelf.SortM.SortNone
import Derived.Ground.GgzProg
import Derived.Ground.SlgmProg
set_option linter.all false
set_option maxRecDepth 100000
set_option maxHeartbeats 8000000
namespace Sp
open Go Fw Fw.Nd
def l11Dir (L:List BHeld)(l:List BItem)(p:Bs):Option BVol:=(TreePut l ⟨p,true,[]⟩).map (fun t=>⟨L,t⟩)
theorem dir_ok {L:List BHeld}{l:List BItem}(hu:Hol L l){p:Bs}{t:List BItem}(hpt:TreePut l ⟨p,true,[]⟩=some t):Hol L t∧∀a,cntL t a=cntL l a:=by
 obtain⟨_,ht,hx,hperm⟩:=put_perm2 hpt
 have hne : ∀ y, y ∈ l → y.path ≠ p := fun y hy hp => by
  have:=put_dir_no hu.vt.asc (x:=⟨p,true,[]⟩) hy hp (by simp)
  rw[this]at hpt;cases hpt
 have hp2:t.Perm (⟨p,true,[]⟩::l):=by
  have h:=hperm
  rw[filter_none hne]at h
  exact h
 have hc:∀a,cntL t a=cntL l a:=fun a=>by rw[cntL_perm hp2,cntL_cons];simp[cnt1]
 refine⟨⟨hu.vh,ht,fun x hx=>?_,fun a=>by rw[hc];exact hu.le a⟩,hc⟩
 rcases List.mem_cons.1 (hp2.mem_iff.1 hx) with rfl|h
 ·exact ids_true (by simp) (by simp)
 ·exact hu.ids x h
theorem dir_fin {L:List BHeld}{l:List BItem}{T:Nd}{p:Bs}{nb:Nat}{T':Nd}(hH:Hol L l)(hT:TOK T l)(hp:PathValid p=true)(hput:T.putN ⟨p,true,[]⟩ nb=some T'):∃t,TreePut l ⟨p,true,[]⟩=some t∧TOK T' t∧Hol L t:=by
 have hx:l5Item ⟨p,true,[]⟩=true:=by simp[l5Item,hp]
 obtain⟨h1,h2⟩:=put_eq nb hT hx
 rw[hput]at h1
 obtain⟨t,ht⟩:=Option.isSome_iff_exists.1 h1.symm
 have hT':=h2 T' hput
 rw[ht]at hT'
 exact⟨t,ht,hT',(dir_ok hH ht).1⟩
theorem dir_nop {l:List BItem}{p:Bs}(hp:PathValid p=false):TreePut l ⟨p,true,[]⟩=none:=by simp[TreePut,l5Item,hp]
theorem dir_no2 {l:List BItem}{T:Nd}{p:Bs}{nb:Nat}(hT:TOK T l)(hp:PathValid p=true)(hput:(T.putN ⟨p,true,[]⟩ nb).isSome=false):TreePut l ⟨p,true,[]⟩=none:=by
 have h1:=(put_eq nb hT (x:=⟨p,true,[]⟩) (by simp[l5Item,hp])).1
 rw[hput]at h1
 simpa using h1.symm
theorem dir_valid {u u':BVol}{p:Bs}(h:VolumeDir u p=some u'):VolumeValid u'=true:=by
 unfold VolumeDir at h
 split at h
 ·rename_i hv
  obtain⟨t,ht,rfl⟩:=Option.map_eq_some_iff.1 h
  obtain⟨h1,h2⟩:=dir_ok (Hol.of_vol hv) ht
  refine h1.vol (fun a=>?_)
  rw[(vv_iff.1 hv).2.2.2 a]
  have:=h2 a
  omega
 ·cases h
def l11Drop (L : List BHeld) (l : List BItem) (p : Bs) : Option BVol := match TreeDrop l p with
 | none=>none
 | some t=>some ⟨(FileFree L (((atI l p).bind (fun i=>l[i]?)).map (·.ids) |>.getD [])).getD [],t⟩
theorem drop_eq2 (u:BVol)(p:Bs):VolumeDrop u p=if VolumeValid u then l11Drop u.store u.tree p else none:=rfl
theorem drop_perm2 {l t : List BItem} {p : Bs} (h : TreeDrop l p = some t) : VT l ∧ VT t ∧ ∃ x, x ∈ l ∧ x.path = p ∧ (atI l p).bind (fun i => l[i]?) = some x ∧ l.Perm (x :: t) := by
 unfold TreeDrop at h
 split at h
 ·rename_i hv
  have hv:=tvalid_iff.1 hv
  cases e:atI l p with
  | none=>simp[e]at h
  | some i =>
   simp only[e]at h
   split at h
   ·rename_i hp
    simp only[Option.some.injEq]at h
    subst h
    obtain⟨x,h1,h2⟩:=(uniq_at hv.asc (p:=p)).1 i e
    refine⟨hv,tvalid_iff.1 hp,x,List.mem_of_getElem? h1,h2,by simp[h1],?_⟩
    have:=erase_perm h1
    rwa [List.eraseIdx_eq_take_drop_succ]at this
   ·cases h
 ·cases h
theorem drop_ok {L:List BHeld}{l:List BItem}(hu:Hol L l){p:Bs}{t:List BItem}(hpt:TreeDrop l p=some t) :
  ∃x s',x ∈ l∧(atI l p).bind (fun i=>l[i]?)=some x∧FileFree L x.ids=some s'∧l11Drop L l p=some ⟨s',t⟩∧Hol s' t∧l.Perm (x::t)∧∀a,us s' a=us L a-(cnt1 a x.ids:Int)∧(0<us s' a→by_ s' a=by_ L a):=by
 obtain⟨_,ht,x,hx,hxp,hxa,hperm⟩:=drop_perm2 hpt
 have hc:∀a,cntL l a=cnt1 a x.ids+cntL t a:=fun a=>by rw[cntL_perm hperm,cntL_cons]
 obtain⟨s',g1,g2,g3⟩:=free_ok hu.vh (hu.ids x hx) (fun a=>by have:=hu.le a;have:=hc a;omega)
 have hle:∀a,(cntL t a:Int)≤us s' a:=fun a=>by have:=hu.le a;have:=hc a;have:=(g3 a).1;omega
 refine⟨x,s',hx,hxa,g1,by simp[l11Drop,hpt,hxa,g1],⟨g2,ht,fun y hy=>?_,hle⟩,hperm,g3⟩
 refine ids_keep hu.vh g2 (fun a ha=>?_) (hu.ids y (hperm.mem_iff.2 (by simp[hy])))
 have h1:=cntL_mem hy a
 have h2:=cnt1_pos.2 ha
 have h3:=hle a
 exact⟨by omega,(g3 a).2 (by omega)⟩
theorem drop_fin {L:List BHeld}{l:List BItem}{T:Nd}{p:Bs}{T' d:Nd}(hH:Hol L l)(hT:TOK T l)(hd:T.find p=some d)(hdr:T.dropN p=some T') :
  ∃s' t,FileFree L d.ids=some s'∧l11Drop L l p=some ⟨s',t⟩∧TOK T' t∧Hol s' t:=by
 obtain⟨h1,h2⟩:=drop_eq hT p
 rw[hdr]at h1
 obtain⟨t,ht⟩:=Option.isSome_iff_exists.1 h1.symm
 have hT':=h2 T' hdr
 rw[ht]at hT'
 obtain⟨x,s',_,hxa,g1,g2,g3,_⟩:=drop_ok hH ht
 have hfl:=find_list hT p
 rw[hd,hxa]at hfl
 simp only[Option.map_some,Option.some.injEq]at hfl
 subst hfl
 exact⟨s',t,g1,g2,hT',g3⟩
theorem drop_no1 {L:List BHeld}{l:List BItem}{T:Nd}{p:Bs}(hT:TOK T l)(h:T.find p=none):l11Drop L l p=none:=by
 have hfl:=find_list hT p
 rw[h]at hfl
 unfold l11Drop
 cases e:TreeDrop l p with
 | none=>rfl
 | some t =>
  obtain⟨_,_,x,_,_,hxa,_⟩:=drop_perm2 e
  rw[hxa]at hfl;cases hfl
theorem drop_no2 {L:List BHeld}{l:List BItem}{T:Nd}{p:Bs}(hT:TOK T l)(h:(T.dropN p).isSome=false):l11Drop L l p=none:=by
 have h1:=(drop_eq hT p).1
 rw[h]at h1
 have:TreeDrop l p=none:=by simpa using h1.symm
 simp[l11Drop,this]
theorem drop_valid {u u':BVol}{p:Bs}(h:VolumeDrop u p=some u'):VolumeValid u'=true:=by
 rw[drop_eq2]at h
 split at h
 ·rename_i hv
  cases e:TreeDrop u.tree p with
  | none=>simp[l11Drop,e]at h
  | some t =>
   obtain⟨x,s',_,_,_,g2,g3,g4,g5⟩:=drop_ok (Hol.of_vol hv) e
   rw[g2]at h
   cases h
   refine g3.vol (fun a=>?_)
   have:=(vv_iff.1 hv).2.2.2 a
   have h3:cntL u.tree a=cnt1 a x.ids+cntL t a:=by rw[cntL_perm g4,cntL_cons]
   have:=(g5 a).1
   omega
 ·cases h
end Sp
namespace Sp
open Go Fw
theorem vwrite_valid {u u':BVol}{p:Bs}{b:List Int}(h:VolumeWrite u p b=some u'):VolumeValid u'=true:=by
 unfold VolumeWrite at h
 split at h
 ·rename_i hc
  simp only[Bool.and_eq_true]at hc
  exact write_valid hc.1 h
 ·cases h
theorem vol_len {o:Option BVol}(h:∀u',o=some u'→VolumeValid u'=true):((o.map (·.store)).getD []).length≤16:=by
 cases o with
 | none=>simp
 | some u=>exact(vv_iff.1 (h u rfl)).1.len
end Sp
namespace Fw
open Go
def R1 (v v':Value):Prop:=v'=v∨∃p q,v= .int .i64 p∧v'= .int .i64 q∧inI q
def GRel (G G':PH):Prop:=∀b o v,PCell G b o v→∃v',PCell G' b o v'∧R1 v v'
def RL:List Value→List Value→Prop
 | [],[]=>True
 | v::r,v'::r'=>R1 v v'∧RL r r'
 | _,_=>False
theorem RL.len:∀{a b:List Value},RL a b→b.length=a.length
 | [],[],_=>rfl
 | _::_,_::_,h=>by simp[RL.len h.2]
 | [],_::_,h=>h.elim
 | _::_,[],h=>h.elim
theorem prow_rel {G G':PH}(h:GRel G G'):∀(cs:List Value) (b o:Nat),PRow G b o cs→∃cs',PRow G' b o cs'∧RL cs cs'
 | [],b,o,_=>⟨[],by intro j v h;simp at h,trivial⟩
 | c :: r, b, o, hr => by
  obtain⟨c',h1,h2⟩:=h b o c (by simpa using hr 0 c rfl)
  obtain ⟨r', h3, h4⟩ := prow_rel h r b (o + 1) (fun j v hv => by
   have:=hr (j+1) v (by simpa using hv)
   rwa [show o+1+j=o+(j+1) by omega])
  refine⟨c'::r',fun j v hv=>?_,h2,h4⟩
  cases j with
  | zero=>simp at hv;subst hv;simpa using h1
  | succ j =>
   have:=h3 j v (by simpa using hv)
   rwa [show o+(j+1)=o+1+j by omega]
class StE {α:Type} (E:PH→α→List Value→Prop):Prop where
 st:∀{G G':PH} {x:α} {cs cs':List Value},GRel G G'→RL cs cs'→E G x cs→∃x',E G' x' cs'
theorem RdS.st {α:Type}{lim:Nat}{E:PH→α→List Value→Prop} [StE E] {sz:Nat}{G G':PH}{v:Value}{xs:List α}(hg:GRel G G')(h:RdS lim E sz G v xs):∃xs',xs'.length=xs.length∧RdS lim E sz G' v xs':=by
 obtain⟨a,c,rfl,h2,h3,h4⟩:=h
 rcases h4 with rfl|⟨b,o,rfl,h5⟩
 ·exact⟨[],rfl,a,c,rfl,h2,h3,.inl rfl⟩
 ·have key : ∀ n, n ≤ xs.length → ∃ xs' : List α, xs'.length = n ∧ ∀ i x, xs'[i]? = some x → ∃ cs, cs.length = sz ∧ E G' x cs ∧ PRow G' b (o + i * sz) cs := by
   intro n
   induction n with
   | zero=>intro _;exact⟨[],rfl,by simp⟩
   | succ n ih =>
    intro hn
    obtain⟨xs',k1,k2⟩:=ih (by omega)
    obtain⟨cs,c1,c2,c3⟩:=h5 n xs[n] (by simp)
    obtain⟨cs',d1,d2⟩:=prow_rel hg cs _ _ c3
    obtain⟨x',hx'⟩:=StE.st hg d2 c2
    refine⟨xs'++[x'],by simp[k1],fun i x hx=>?_⟩
    by_cases hi:i<n
    ·rw[List.getElem?_append_left (by omega)]at hx
     exact k2 i x hx
    ·rw[List.getElem?_append_right (by omega)]at hx
     have:i=n:=by
      have:=(List.getElem?_eq_some_iff.1 hx).1
      simp at this
      omega
     subst this
     simp[k1]at hx
     subst hx
     exact⟨cs',by rw[d2.len];exact c1,hx',d1⟩
  obtain⟨xs',k1,k2⟩:=key xs.length (Nat.le_refl _)
  exact⟨xs',k1,some ⟨b,o,none⟩,c,by rw[k1],by omega,by omega,.inr ⟨b,o,rfl,k2⟩⟩
theorem r1_int {p:Int}{v':Value}(h:R1 (.int .i64 p) v')(hp:inI p):∃q,v'= .int .i64 q∧inI q:=by
 rcases h with rfl|⟨_,q,_,rfl,hq⟩
 ·exact⟨p,rfl,hp⟩
 ·exact⟨q,rfl,hq⟩
theorem r1_slice {a:Option Addr}{m c:Nat}{v':Value}(h:R1 (.slice a m c) v'):v'= .slice a m c:=by
 rcases h with rfl|⟨_,_,h,_⟩
 ·rfl
 ·cases h
theorem r1_str {s:Bs}{v':Value}(h:R1 (str s) v'):v'=str s:=by
 rcases h with rfl|⟨_,_,h,_⟩
 ·rfl
 ·cases h
theorem r1_bool {b:Bool}{v':Value}(h:R1 (.bool b) v'):v'= .bool b:=by
 rcases h with rfl|⟨_,_,h,_⟩
 ·rfl
 ·cases h
theorem rl1 {a:Value}{cs':List Value}(h:RL [a] cs'):∃u,cs'=[u]∧R1 a u:=by
 rcases cs' with _|⟨u,_|⟨z,r⟩⟩
 ·exact h.elim
 ·exact⟨u,rfl,h.1⟩
 ·exact h.2.elim
theorem intE_st {G':PH}{x:Int}{cs':List Value}(hi:inI x)(hr:RL [.int .i64 x] cs'):∃x',intE G' x' cs':=by
 obtain⟨u,rfl,k1⟩:=rl1 hr
 obtain⟨q,rfl,hq⟩:=r1_int k1 hi
 exact⟨q,rfl,hq⟩
instance : StE intE := ⟨fun {_ _ x cs cs'} _ hr h => by
 obtain⟨h1,h2⟩:=h
 rw[h1]at hr
 exact intE_st h2 hr⟩
theorem rl3 {a b c:Value}{cs':List Value}(h:RL [a,b,c] cs'):∃u v w,cs'=[u,v,w]∧R1 a u∧R1 b v∧R1 c w:=by
 rcases cs' with _|⟨u,_|⟨v,_|⟨w,_|⟨z,r⟩⟩⟩⟩
 ·exact h.elim
 ·exact h.2.elim
 ·exact h.2.2.elim
 ·exact⟨u,v,w,rfl,h.1,h.2.1,h.2.2.1⟩
 ·exact h.2.2.2.elim
theorem heldE_st {G G':PH}{x:BHeld}{a:Option Addr}{m c:Nat}{u v w:Value}(hg:GRel G G')(h1:inI x.id)(h2:RdI G (.slice a m c) x.bytes)(h3:inI x.uses)
  (k1:R1 (.int .i64 x.id) u) (k2:R1 (.slice a m c) v) (k3:R1 (.int .i64 x.uses) w):∃x',heldE G' x' [u,v,w]:=by
 obtain⟨p,rfl,hp⟩:=r1_int k1 h1
 obtain⟨q,rfl,hq⟩:=r1_int k3 h3
 have e:=r1_slice k2
 subst e
 obtain⟨ys,_,hy⟩:=RdS.st hg h2
 exact⟨⟨p,ys,q⟩,a,m,c,rfl,hp,hy,hq⟩
instance : StE heldE := ⟨fun {_ _ x cs cs'} hg hr h => by
 obtain⟨a,m,c,rfl,h1,h2,h3⟩:=h
 obtain⟨u,v,w,rfl,k1,k2,k3⟩:=rl3 hr
 exact heldE_st hg h1 h2 h3 k1 k2 k3⟩
instance : StE itemE := ⟨fun {_ _ x cs cs'} hg hr h => by
 obtain⟨a,m,c,rfl,h1,h2⟩:=h
 obtain⟨u,v,w,rfl,k1,k2,k3⟩:=rl3 hr
 obtain rfl:=r1_str k1
 obtain rfl:=r1_bool k2
 obtain rfl:=r1_slice k3
 obtain⟨ys,_,hy⟩:=h2.st hg
 exact⟨⟨x.path,x.dir,ys⟩,a,m,c,rfl,h1,hy⟩⟩
section
variable {w0 w:World} {G0 G:PH} {S:List Nat} {B:List Res}
theorem Hp.unkeep (H : Hp w0 G0 S w G B) (h0 : PSub G0 w0) {b : Nat} {l : List Value} {e : TypeId} (hb : G b = some (cl l e)) (hn : w0.heap.size ≤ b) : Hp w0 G0 S w (fun c => if c = b then none else G c) (blk b (cl l e) :: B) := by
 refine⟨H.os,H.tape,H.output,H.size,H.ext,?_,?_,?_,?_,?_⟩
 ·intro c o hc
  by_cases e:c=b
  ·simp[e]at hc
  ·simp[e]at hc;exact H.sub c o hc
 ·intro c o hc
  have : c ≠ b := fun e => by
   have:=h0.lt hc
   omega
  simp[this,H.le c o hc]
 ·intro c hc hnone
  by_cases e:c=b
  ·simp[e]
  ·simp[e,H.old c hc hnone]
 ·intro r hr
  rcases List.mem_cons.1 hr with rfl|hr
  ·exact⟨H.sub _ _ hb,fun c hc=>by simp[blk]at hc;subst hc;exact⟨by simp,.inr hn⟩⟩
  ·refine⟨(H.own r hr).1,fun c hc=>⟨?_,((H.own r hr).2 c hc).2⟩⟩
   by_cases e:c=b
   ·simp[e]
   ·simp[e,((H.own r hr).2 c hc).1]
 ·show([b]++fps B).Nodup
  refine List.nodup_append.2 ⟨by simp,H.nd,?_⟩
  intro a ha c hc e
  subst e
  simp at ha
  subst ha
  obtain⟨r,hr,hb2⟩:=List.mem_flatMap.1 hc
  have:=((H.own r hr).2 a hb2).1
  rw[hb]at this
  cases this
end
section ops
variable {P:Program} {n:Nat} {ops:Array Oper} {Q:Post} {rest:List Oper} {L:Slots} {ds:List Deferred} {w w0:World} {G0:PH} {S:List Nat} {G:PH} {B:List Res}
variable {ty:TypeId} {ps:String} {af:Array Edge}
theorem o_store_P (H:Hp w0 G0 S w G B)(h0:PSub G0 w0){t:TypeId}{x y:Operand}{b o:Nat}{l:List Value}{e:TypeId}{p q:Int}(hS:∀w,(Go.sizeOf t).run P w= .ok 1 w)(hx:od L x=some (.pointer (some ⟨b,o,none⟩)))(hy:od L y=some (.int .i64 q))(hq:inI q)
  (hb:G b=some (cl l e)) (hc:l[o]? = some (.int .i64 p)) (hn:w0.heap.size≤b) (hS2:b ∉ S)
  (next:∀w' G',GRel G G'→Hp w0 G0 S w' G' B→R P n ops Q rest L ds w'):R P n ops Q (⟨none,.store t x y,ty,ps,af,none⟩::rest) L ds w:=by
 have ho:=(List.getElem?_eq_some_iff.1 hc).1
 have H1:=H.unkeep h0 hb hn
 obtain⟨w',hr,H2⟩:=run_storeCells_blk (P:=P) [.int .i64 q] 0 l w (o:=o) H1 (k:=0) rfl (by simp;omega) (by simp[Value.oneCell'])
 have H2':Hp w0 G0 S w' (fun c=>if c=b then none else G c) (blk b (cl (setCs l (o+0) [.int .i64 q]) e)::B):=H2
 obtain⟨H3,h3⟩:=H2'.keep (k:=0) rfl (by simpa [blk] using hS2)
 refine R_skip (w':=w') (fun a ha=>?_) (next w' _ ?_ H3)
 ·have:(Value.int .i64 q).cells= #[.int .i64 q]:=rfl
  simp[execOp,Instr.storeAt,ha.eval hx,ha.eval hy,Instr.sureAddr,storeVar,hS,this,hr]
 ·intro c off v hv
  obtain⟨C,e2,fz,h4,h5⟩:=hv
  by_cases ec:c=b
  ·subst ec
   have h6:PPlus (fun c'=>if c'=c then none else G c') w' (blk c (cl (setCs l (o+0) [.int .i64 q]) e)).fp c=some (cl (setCs l (o+0) [.int .i64 q]) e):=h3
   rw[hb]at h4
   simp only[Option.some.injEq,Obj.cells.injEq]at h4
   obtain⟨rfl,rfl,rfl⟩:=h4
   have h7:l[off]? = some v:=by simpa using h5
   by_cases eo:off=o
   ·subst eo
    rw[hc]at h7
    cases h7
    refine⟨.int .i64 q,⟨_,_,_,h6,?_⟩,.inr ⟨p,q,rfl,rfl,hq⟩⟩
    simp[setCs,setN_eq,ho]
   ·refine⟨v,⟨_,_,_,h6,?_⟩,.inl rfl⟩
    have:¬o=off:=fun h=>eo h.symm
    simp[setCs,setN_eq,this,h7]
  ·refine⟨v,⟨C,e2,fz,PPlus.le _ _ _ _ _ (by simp[ec,h4]),h5⟩,.inl rfl⟩
end ops
def Mine (w0:World)(G:PH)(v:Value):Prop:=∀b o m c,v= .slice (some ⟨b,o,none⟩) m c→w0.heap.size≤b∧∃l e,G b=some (cl l e)
theorem Mine.up {w0 : World} {G G' : PH} {v : Value} (h : Mine w0 G v) (hle : PLe G G') : Mine w0 G' v := fun b o m c e => by
 obtain⟨h1,l,e,h2⟩:=h b o m c e
 exact⟨h1,l,e,hle _ _ h2⟩
theorem Mine.nil {w0:World}{G:PH}:Mine w0 G (.slice none 0 0):=fun b o m c e=>by simp at e
theorem acc_fpb {e:TypeId}{sz:Nat}{v:Value}{n:Nat}{cells:List Value}{b o m c}(h:v= .slice (some ⟨b,o,none⟩) m c):b ∈ (acc e sz v n cells).fp:=by
 subst h
 exact List.mem_singleton.2 rfl
section
variable {w0 w:World} {G0 G:PH} {B:List Res}
theorem Hp.shutP {α:Type}{E:PH→α→List Value→Prop} [MonoE E] {b:Nat}{o:Obj}(H:Hp w0 G0 [b] w G B){k j:Nat}{e:TypeId}{sz:Nat}{v:Value}{n:Nat}{cells:List Value}{xs:List α}(hk:nth B k=some (acc e sz v n cells))(hj:nth (delN B k) j=some (blk b o))
  (hc:Chk E sz G cells xs) (hn:n=xs.length) (hl:xs.length≤1099511627776) :
  ∃G',Hp w0 G0 [b] w G' (delN B k)∧PLe G G'∧RdS LIM E sz G' v xs∧Mine w0 G' v:=by
 have hnb : ∀ c, c ∈ (acc e sz v n cells).fp → c ∉ [b] := fun c hc hcb => by
  simp only[List.mem_singleton]at hcb
  subst hcb
  obtain⟨B1,B2,h1,_,h3⟩:=fps_split hk
  have hpm:List.Perm B (acc e sz v n cells::(B1++B2)):=by rw[h1];exact List.perm_middle
  have h2:((acc e sz v n cells).fp++fps (B1++B2)).Nodup:=(List.Perm.flatMap_right _ hpm).nodup_iff.1 H.nd
  rw[h3]at hj
  exact(List.nodup_append.1 h2).2.2 c hc c (fps_nth hj (by simp[blk])) rfl
 have hown:=(H.own _ (by rw[nth_eq]at hk;exact List.mem_of_getElem? hk)).2
 obtain⟨H',hp⟩:=H.keep hk hnb
 refine⟨_,H',PPlus.le _ _ _,acc_rd hp (hc.up (PPlus.le _ _ _)) hn hl,?_⟩
 obtain⟨_,hp2⟩:=hp
 intro b' o' m' c' ev
 have hmem:b' ∈ (acc e sz v n cells).fp:=acc_fpb ev
 refine⟨(hown b' hmem).2.resolve_left (hnb b' hmem),?_⟩
 rcases hp2 with ⟨h1,_⟩|⟨b2,cap,C,h1,h2,_⟩
 ·rw[ev]at h1;cases h1
 ·rw[ev]at h1
  cases h1
  exact⟨C.toList,e,h2⟩
end
section ops
variable {P:Program} {n:Nat} {ops:Array Oper} {Q:Post} {rest:List Oper} {L:Slots} {ds:List Deferred} {w w0:World} {G0:PH} {S:List Nat} {G:PH} {B:List Res}
variable {ty:TypeId} {ps:String} {af:Array Edge}
theorem o_store_mine (H:Hp w0 G0 S w G B)(h0:PSub G0 w0){t:TypeId}{x y:Operand}{a:Option Addr}{m c b o off rb:Nat}{ob:Obj}{p q:Int}(hm:Mine w0 G (.slice a m c))(ha:a=some ⟨b,o,none⟩)(hS:∀w,(Go.sizeOf t).run P w= .ok 1 w)(hx:od L x=some (.pointer (some ⟨b,off,none⟩)))(hy:od L y=some (.int .i64 q))(hq:inI q)
  (hc:PCell G b off (.int .i64 p)) (hrb:w0.heap[rb]? = some ob) (hS2:S=[rb])
  (next:∀w' G',GRel G G'→Hp w0 G0 S w' G' B→R P n ops Q rest L ds w'):R P n ops Q (⟨none,.store t x y,ty,ps,af,none⟩::rest) L ds w:=by
 subst ha
 obtain⟨h1,l,e,h2⟩:=hm b o m c rfl
 obtain⟨C,e2,fz,h3,h4⟩:=hc
 rw[h2]at h3
 simp only[Option.some.injEq,Obj.cells.injEq]at h3
 obtain⟨rfl,rfl,rfl⟩:=h3
 have hlt:=(Array.getElem?_eq_some_iff.1 hrb).1
 exact o_store_P H h0 hS hx hy hq h2 (by simpa using h4) h1 (by subst hS2;simp;omega) next
end ops
theorem PLe.none {G:PH}:PLe (fun _=>none) G:=fun _ _ h=>by cases h
theorem W_drawN {P:Program}{n:Nat}{l:List Oper}{Q:Post}{L:Slots}{ds:List Deferred}{w:World}{id:Nat}{w0:World}{G0:PH}{SS:List Nat}{G:PH}{B:List Res}(ks:List Nat)(m:Nat)(H:Hp w0 G0 SS w G B)(hm:P.follows .mixedOrders=true)(hl:Nat.beq l.length m=true)
  (h:∀w',Hp w0 G0 SS w' G B→RD P n l Q (fun w=>Kn w (fun _=>none) (sel ks B)) m (Array.replicate m false) L ds w'):W P n Q (.region id l.toArray true) L ds w :=
 W_draw _ m H hm hl (fun _ H'=>Kn.of H' PLe.none (fun _ hr=>sel_mem hr)) h
section ops
variable {P:Program} {n:Nat} {ops:Array Oper} {Q:Post} {rest:List Oper} {L:Slots} {ds:List Deferred} {w:World} {ty:TypeId} {ps:String} {af:Array Edge}
theorem o_beql_same {d:Nat}{x y:Operand}{t u:TypeId}{p:Bool}(hT:P.underlying t=some .bool)(hd:Nat.blt d n=true)(hx:od L x=some (.bool p))(hy:od L y=some (.bool p))
  (next:R P n ops Q rest ((d,.bool true)::L) ds w):R P n ops Q (⟨some d,.binOp .eql t x y u,ty,ps,af,none⟩::rest) L ds w :=
 o_beql hT hd hx hy (by simpa using next)
end ops
end Fw
namespace Sp
open Fw
open Nd
theorem put_newD {l t : List BItem} {x : BItem} (h : TreePut l x = some t) (hd : x.dir = true) : ∀ y, y ∈ l → y.path ≠ x.path := fun y hy e => by
 have:=put_dir_no (put_perm2 h).1.asc hy e (by simp[hd])
 rw[this]at h
 cases h
section
variable {v u:BVol} {p:Bs} {b:List Int}
end
def hasP (l:List BItem)(p:Bs):Bool:=TreeValid l&&(atI l p).isSome
theorem has_bad {l:List BItem}{p:Bs}(h:TreeValid l=false):hasP l p=false:=by simp[hasP,h]
theorem has_no {T:Nd}{l:List BItem}{p:Bs}(h:TOK T l)(hf:T.find p=none):hasP l p=false:=by
 have:=find_list h p
 rw[hf]at this
 cases e:atI l p with
 | none=>simp[hasP,e]
 | some i =>
  obtain⟨y,hy,_⟩:=(uniq_at h.vt.asc (p:=p)).1 i e
  rw[e]at this
  simp[hy]at this
theorem has_yes {T d:Nd}{l:List BItem}{p:Bs}(h:TOK T l)(hf:T.find p=some d):hasP l p=true:=by
 have:=find_list h p
 rw[hf]at this
 cases e:atI l p with
 | none=>rw[e]at this;simp at this
 | some i=>simp[hasP,e,tvalid_iff.2 h.vt]
end Sp
namespace Fw
open Go
section
variable {P:Program} {n:Nat} {ops:Array Oper} {Q:Post} {rest:List Oper} {L:Slots} {ds:List Deferred} {w:World}
variable {ty:TypeId} {ps:String} {af:Array Edge}
end
end Fw
namespace Sp
open Fw Nd
theorem keeps:∀(ids:List Int) {L L':List BHeld},VH L→foldB StoreKeep ids (some L)=some L'→VH L'∧∀a,us L' a=us L a+(cnt1 a ids:Int)∧by_ L' a=by_ L a
 | [], L, L', hV, h => by
  have:L=L':=by simpa [foldB] using h
  subst this
  exact⟨hV,fun a=>by simp[cnt1]⟩
 | x :: r, L, L', hV, h => by
  have h':foldB StoreKeep r (StoreKeep L x)=some L':=h
  cases e:StoreKeep L x with
  | none=>rw[e,foldB_none]at h';cases h'
  | some L1 =>
   rw[e]at h'
   obtain⟨k1,_,k3⟩:=keep_step hV e
   obtain⟨g1,g2⟩:=keeps r k1 h'
   refine⟨g1,fun a=>?_⟩
   have h3:=k3 a
   have h4:=g2 a
   rw[cnt1_cons]
   refine⟨?_,h4.2.trans h3.2⟩
   by_cases ea:a=x
   ·rw[if_pos ea]at h3 ⊢;omega
   ·rw[if_neg ea]at h3 ⊢;omega
theorem keepTs:∀(t:List BItem) {L L':List BHeld},VH L→l12Keep L t=some L'→VH L'∧∀a,us L' a=us L a+(cntL t a:Int)∧by_ L' a=by_ L a
 | [], L, L', hV, h => by
  have:L=L':=by simpa [l12Keep,foldB] using h
  subst this
  exact⟨hV,fun a=>by simp[cntL]⟩
 | x :: r, L, L', hV, h => by
  have h':foldB keepT r (keepT L x)=some L':=h
  cases e:keepT L x with
  | none=>rw[e,foldB_none]at h';cases h'
  | some L1 =>
   rw[e]at h'
   obtain⟨k1,k3⟩:=keeps x.ids hV e
   obtain⟨g1,g2⟩:=keepTs r k1 h'
   refine⟨g1,fun a=>?_⟩
   have h3:=k3 a
   have h4:=g2 a
   rw[cntL_cons]
   exact⟨by omega,h4.2.trans h3.2⟩
def freeF (s:List BHeld)(x:BItem):Option (List BHeld):=FileFree s x.ids
def freeTs (s:List BHeld)(l:List BItem):Option (List BHeld):=foldB freeF l (some s)
def l12Free (s:List BHeld)(l:List BItem):List BHeld:=l.foldl (fun s x=>(FileFree s x.ids).getD []) s
theorem frees:∀(t:List BItem) {L:List BHeld},VH L→(∀x,x ∈ t→l4Ids L x.ids=true)→(∀a,(cntL t a:Int)≤us L a) →
  ∃L',freeTs L t=some L'∧l12Free L t=L'∧VH L'∧∀a,us L' a=us L a-(cntL t a:Int)∧(0<us L' a→by_ L' a=by_ L a)
 | [],L,hV,_,_=>⟨L,rfl,rfl,hV,fun a=>by simp[cntL]⟩
 | x :: r, L, hV, hi, hl => by
  obtain ⟨L1, k1, k2, k3⟩ := free_ok hV (hi x (by simp)) (fun a => by
   have:=hl a
   rw[cntL_cons]at this
   omega)
  have hc : ∀ a, (cntL r a : Int) ≤ us L1 a := fun a => by
   have:=hl a
   have:=(k3 a).1
   rw[cntL_cons]at *
   omega
  obtain ⟨L', g1, g2, g3, g4⟩ := frees r k2 (fun y hy => ids_keep hV k2 (fun a ha => by
   have h1:0<cnt1 a y.ids:=cnt1_pos.2 ha
   have h2:=cntL_mem hy a
   have h3:=hc a
   have h4:0<us L1 a:=by omega
   exact⟨h4,(k3 a).2 h4⟩) (hi y (by simp[hy]))) hc
  refine⟨L',?_,?_,g3,fun a=>?_⟩
  ·show foldB freeF (x::r) (some L)=some L'
   rw[foldB_cons (show freeF L x=some L1 from k1)]
   exact g1
  ·simp only[l12Free,List.foldl_cons,k1,Option.getD_some]
   exact g2
  ·have h1:=k3 a
   have h2:=g4 a
   rw[cntL_cons]
   refine⟨by omega,fun h=>(h2.2 h).trans (h1.2 (by omega))⟩
def trees (d:BDisk):List (List BItem):=d.tree::d.snaps.map (·.tree)
def cntD (ts:List (List BItem))(a:Int):Nat:=(ts.map (fun t=>cntL t a)).sum
theorem cntD_cons (t:List BItem)(ts:List (List BItem))(a:Int):cntD (t::ts) a=cntL t a+cntD ts a:=by simp[cntD]
theorem cntD_mem {ts:List (List BItem)}{t:List BItem}(h:t ∈ ts)(a:Int):cntL t a≤cntD ts a:=by
 induction ts with
 | nil=>cases h
 | cons y r ih =>
  rw[cntD_cons]
  rcases List.mem_cons.1 h with rfl|h
  ·omega
  ·have:=ih h;omega
theorem cntD_zero {ts:List (List BItem)}{a:Int}(h:∀t,t ∈ ts→∀x,x ∈ t→a ∉ x.ids):cntD ts a=0:=by
 induction ts with
 | nil=>rfl
 | cons y r ih=>rw[cntD_cons,ih (fun t ht=>h t (by simp[ht])),cntL_zero (h y (by simp))]
theorem cntD_le {ts:List (List BItem)}(h:∀t,t ∈ ts→VT t)(a:Int):cntD ts a≤48*ts.length:=by
 induction ts with
 | nil=>simp[cntD]
 | cons y r ih =>
  rw[cntD_cons,List.length_cons]
  have h1:=ih (fun t ht=>h t (by simp[ht]))
  have h2:=l11Count_le (id:=a) (tvalid_iff.2 (h y (by simp)))
  rw[l11Count_eq]at h2
  omega
theorem l12Count_eq (d:BDisk)(a:Int):l12Count d a=cntD (trees d) a:=by
 simp[l12Count,cntS,trees,l11Count_eq,cntD,Function.comp_def]
structure DHol (L:List BHeld) (ts:List (List BItem)):Prop where
 vh:VH L
 vt:∀t,t ∈ ts→VT t
 ids:∀t,t ∈ ts→∀x,x ∈ t→l4Ids L x.ids=true
 use:∀a,us L a=(cntD ts a:Int)
def NamesOK (l:List BSnap):Prop:=l.length≤6∧∀(k:Nat) (s:BSnap),l[k]? = some s→l1Word s.name=true∧(k:Int)≤l12At l s.name
theorem dd_iff {d:BDisk}:DiskValid d=true↔NamesOK d.snaps∧DHol d.store (trees d):=by
 rw[dv_parts,valid_iff,tvalid_iff]
 have hf : ∀ l : List BItem, l11Files d.store l = true ↔ ∀ x, x ∈ l → l4Ids d.store x.ids = true := fun l => by
  unfold l11Files
  rw[List.all_eq_true]
  exact Iff.rfl
 constructor
 ·rintro⟨h1,h2,h3,h4,⟨h5,h6⟩,h7⟩
  have hi : ∀ t, t ∈ trees d → ∀ x, x ∈ t → l4Ids d.store x.ids = true := fun t ht => by
   rcases List.mem_cons.1 ht with rfl|ht
   ·exact(hf _).1 h5
   ·obtain⟨s,hs,rfl⟩:=List.mem_map.1 ht
    obtain⟨k,hk⟩:=List.getElem?_of_mem hs
    exact(hf _).1 (h6 k s hk)
  refine⟨⟨h3,fun k s hs=>⟨(h4 k s hs).1,(h4 k s hs).2.1⟩⟩,⟨h1,fun t ht=>?_,hi,fun a=>?_⟩⟩
  ·rcases List.mem_cons.1 ht with rfl|ht
   ·exact h2
   ·obtain⟨s,hs,rfl⟩:=List.mem_map.1 ht
    obtain⟨k,hk⟩:=List.getElem?_of_mem hs
    exact tvalid_iff.1 (h4 k s hk).2.2
  ·by_cases ha:a ∈ d.store.map (·.id)
   ·obtain⟨h,hh,rfl⟩:=List.mem_map.1 ha
    have:=List.all_eq_true.1 h7 h hh
    simp only[usesD,decide_eq_true_eq,l12Count_eq]at this
    rw[this,us,getH_mem h1.nd hh]
   ·rw[us,getH_not ha,cntD_zero]
    ·rfl
    ·intro t ht x hx hax
     have:=ids_in h1 (hi t ht x hx) hax
     rw[us,getH_not ha]at this
     exact absurd this (by simp)
 ·rintro⟨⟨h3,h4⟩,⟨h1,h2,hi,hu⟩⟩
  have hm:∀(k:Nat) (s:BSnap),d.snaps[k]? = some s→s.tree ∈ trees d:=fun k s hs=>List.mem_cons.2 (.inr (List.mem_map.2 ⟨s,List.mem_of_getElem? hs,rfl⟩))
  refine⟨h1,h2 _ (by simp[trees]),h3,fun k s hs=>⟨(h4 k s hs).1,(h4 k s hs).2,tvalid_iff.2 (h2 _ (hm k s hs))⟩,⟨(hf _).2 (hi _ (by simp[trees])),fun k s hs=>(hf _).2 (hi _ (hm k s hs))⟩,List.all_eq_true.2 fun h hh=>?_⟩
  simp only[usesD,decide_eq_true_eq,l12Count_eq]
  rw[←hu,us,getH_mem h1.nd hh]
def SnapBack (d : BDisk) (n : Bs) : Option BDisk := match atS d.snaps n with
 | none=>none
 | some i=>if DiskValid d then(l12Keep d.store (((d.snaps[i]?).map (·.tree)).getD [])).map (fun s=>⟨l12Free s d.tree,((d.snaps[i]?).map (·.tree)).getD [],d.snaps⟩) else none
def DiskWrite (d:BDisk)(p:Bs)(b:List Int):Option BDisk:=if DiskValid d&&FileValid b then(l11Write ⟨d.store,d.tree⟩ p b).map (fun v=>⟨v.store,v.tree,d.snaps⟩) else none
theorem at_some {l:List BSnap}{n:Bs}{i:Nat}(h:atS l n=some i):∃s,l[i]? = some s∧s.name=n∧i<l.length∧∀j s',j<i→l[j]? = some s'→s'.name≠n:=by
 obtain⟨h1,h2,h3⟩:=List.findIdx?_eq_some_iff_getElem.1 h
 refine⟨l[i],by simp[h1],by simpa using h2,h1,fun j s' hj hs e=>?_⟩
 have:=h3 j hj
 obtain⟨hj2,hs2⟩:=List.getElem?_eq_some_iff.1 hs
 rw[hs2]at this
 simp[e]at this
section
variable {d d1:BDisk} {n:Bs}
theorem take_get (h:SnapTake d n=some d1):DiskValid d=true∧l1Word n=true∧atS d.snaps n=none∧d.snaps.length<6∧∃s,l12Keep d.store d.tree=some s∧d1=⟨s,d.tree,d.snaps++[⟨n,d.tree⟩]⟩:=by
 unfold SnapTake at h
 split at h
 ·rename_i hc
  simp only[Bool.and_eq_true,decide_eq_true_eq]at hc
  obtain⟨⟨⟨c1,c2⟩,c3⟩,c4⟩:=hc
  obtain⟨s,h1,rfl⟩:=Option.map_eq_some_iff.1 h
  have:=(dd_iff.1 c1).1.1
  exact⟨c1,c2,by simpa using c3,by omega,s,h1,rfl⟩
 ·cases h
theorem back_get (h:SnapBack d n=some d1):DiskValid d=true∧∃i s st,atS d.snaps n=some i∧d.snaps[i]? = some s∧s.name=n∧l12Keep d.store s.tree=some st∧d1=⟨l12Free st d.tree,s.tree,d.snaps⟩:=by
 unfold SnapBack at h
 split at h
 ·cases h
 ·rename_i i e
  split at h
  ·rename_i hc
   obtain⟨s,h1,h2,_⟩:=at_some e
   rw[h1]at h
   obtain⟨st,h3,h4⟩:=Option.map_eq_some_iff.1 h
   exact⟨hc,i,s,st,e,h1,h2,h3,h4.symm⟩
  ·cases h
theorem snap_in {i:Nat}{s:BSnap}(h:d.snaps[i]? = some s):s.tree ∈ trees d:=List.mem_cons.2 (.inr (List.mem_map.2 ⟨s,List.mem_of_getElem? h,rfl⟩))
theorem DHol.le {L:List BHeld}{ts:List (List BItem)}(h:DHol L ts)(hl:ts.length≤7)(a:Int):us L a≤336:=by
 have:=h.use a
 have:=cntD_le h.vt a
 omega
theorem keep_hol {L L':List BHeld}{ts:List (List BItem)}(h:DHol L ts){t:List BItem}(ht:t ∈ ts)(hk:l12Keep L t=some L'):DHol L' (t::ts)∧∀a,us L' a=us L a+(cntL t a:Int)∧by_ L' a=by_ L a:=by
 obtain⟨k1,k2⟩:=keepTs t h.vh hk
 have hst:∀a,0<us L a→0<us L' a∧by_ L' a=by_ L a:=fun a ha=>⟨by have:=(k2 a).1;omega,(k2 a).2⟩
 have hi:∀u,u ∈ ts→∀x,x ∈ u→l4Ids L' x.ids=true:=fun u hu x hx=>ids_stay h.vh k1 hst (h.ids u hu x hx)
 refine⟨⟨k1,fun u hu=>?_,fun u hu=>?_,fun a=>?_⟩,k2⟩
 ·rcases List.mem_cons.1 hu with rfl|hu
  ·exact h.vt _ ht
  ·exact h.vt _ hu
 ·rcases List.mem_cons.1 hu with rfl|hu
  ·exact hi _ ht
  ·exact hi _ hu
 ·rw[(k2 a).1,h.use a,cntD_cons]
  omega
theorem free_hol {L:List BHeld}{ts:List (List BItem)}{t:List BItem}(h:DHol L (t::ts)) :
  ∃L',freeTs L t=some L'∧l12Free L t=L'∧DHol L' ts∧∀a,us L' a=us L a-(cntL t a:Int)∧(0<us L' a→by_ L' a=by_ L a):=by
 obtain ⟨L', g1, g2, g3, g4⟩ := frees t h.vh (h.ids t (by simp)) (fun a => by
  have:=h.use a
  rw[cntD_cons]at this
  omega)
 have hu : ∀ a, us L' a = (cntD ts a : Int) := fun a => by
  have:=h.use a
  have:=(g4 a).1
  rw[cntD_cons]at *
  omega
 refine⟨L',g1,g2,⟨g3,fun u hu=>h.vt u (by simp[hu]),fun u hu2 x hx=>ids_keep h.vh g3 (fun a ha=>?_) (h.ids u (by simp[hu2]) x hx),hu⟩,g4⟩
 have h1:0<cnt1 a x.ids:=cnt1_pos.2 ha
 have h2:=cntL_mem hx a
 have h3:=cntD_mem hu2 a
 have h4:=hu a
 have h5:0<us L' a:=by omega
 exact⟨h5,(g4 a).2 h5⟩
theorem DHol.perm {L:List BHeld}{ts us':List (List BItem)}(h:DHol L ts)(hp:ts.Perm us'):DHol L us' :=
 ⟨h.vh,fun t ht=>h.vt t (hp.mem_iff.2 ht),fun t ht=>h.ids t (hp.mem_iff.2 ht),fun a=>by rw[h.use a];exact congrArg _ ((hp.map _).sum_nat)⟩
theorem take_valid (h:SnapTake d n=some d1):DiskValid d1=true:=by
 obtain⟨hd,hw,hn,hl,s,hk,rfl⟩:=take_get h
 obtain⟨hN,hH⟩:=dd_iff.1 hd
 obtain⟨g1,_⟩:=keep_hol hH (t:=d.tree) (by simp[trees]) hk
 refine dd_iff.2 ⟨⟨by simp;omega,fun k s' hs=>?_⟩,g1.perm ?_⟩
 ·simp only[l12At,atS,List.findIdx?_append]
  by_cases hkl:k<d.snaps.length
  ·rw[List.getElem?_append_left hkl]at hs
   obtain⟨h1,h2⟩:=hN.2 k s' hs
   refine⟨h1,?_⟩
   simp only[l12At,atS]at h2
   cases e:d.snaps.findIdx? (fun x=>decide (x.name=s'.name)) with
   | none =>
    rw[e]at h2
    simp[optI]at h2
    omega
   | some i=>rw[e]at h2;simpa using h2
  ·rw[List.getElem?_append_right (by omega)]at hs
   have hk0:k=d.snaps.length:=by
    have:=(List.getElem?_eq_some_iff.1 hs).1
    simp at this
    omega
   subst hk0
   simp at hs
   subst hs
   refine⟨hw,?_⟩
   have:d.snaps.findIdx? (fun x=>decide (x.name=n))=none:=hn
   simp[this,optI]
 ·simp only[trees,List.map_append,List.map_cons,List.map_nil]
  refine List.Perm.trans (List.Perm.swap _ _ _) (List.Perm.cons _ ?_)
  exact(List.perm_append_comm (l₁:=[d.tree])).trans (List.Perm.refl _)
end
end Sp
namespace Sp
open Fw
theorem l12Free_succ {l:List BItem}{k:Nat}{x:BItem}{s:List BHeld}(h:l[k]? = some x):l12Free s (l.take (k+1))=(FileFree (l12Free s (l.take k)) x.ids).getD []:=by
 unfold l12Free
 rw[take_succ' h,List.foldl_append]
 rfl
theorem free_len (s:List BHeld)(ids:List Int):((FileFree s ids).getD []).length≤s.length:=by
 cases e:FileFree s ids with
 | none=>simp
 | some r =>
  unfold FileFree at e
  split at e
  ·exact foldB_inv (P:=fun r:List BHeld=>r.length≤s.length) (f:=StoreDrop) (fun a b a' h1 h2=>Nat.le_trans (drop_len h2) h1) _ _ _ (Nat.le_refl _) e
  ·cases e
end Sp
namespace Sp
open Fw Nd
theorem names_nodup {l:List BSnap}:(∀(k:Nat) (s:BSnap),l[k]? = some s→(k:Int)≤l12At l s.name)↔(l.map (·.name)).Nodup:=by
 constructor
 ·intro h
  rw[List.nodup_iff_pairwise_ne,List.pairwise_map,List.pairwise_iff_getElem]
  intro i j hi hj hij e
  have h1:=h j l[j] (by simp)
  simp only[l12At]at h1
  cases e2:atS l l[j].name with
  | none=>rw[e2]at h1;simp[optI]at h1;omega
  | some m =>
   rw[e2]at h1
   obtain⟨_,_,_,_,h4⟩:=at_some e2
   simp only[optI]at h1
   exact h4 i l[i] (by omega) (by simp) e
 ·intro h k s hs
  obtain⟨hk,hk2⟩:=List.getElem?_eq_some_iff.1 hs
  simp only[l12At]
  cases e2:atS l s.name with
  | none =>
   have:=List.findIdx?_eq_none_iff.1 e2 s (List.mem_of_getElem? hs)
   simp at this
  | some m =>
   obtain⟨s',h1,h2,h3,_⟩:=at_some e2
   simp only[optI]
   by_cases hm:m<k
   ·rw[List.nodup_iff_pairwise_ne,List.pairwise_map,List.pairwise_iff_getElem]at h
    obtain⟨_,h1'⟩:=List.getElem?_eq_some_iff.1 h1
    exact absurd (by rw[h1',hk2,h2]) (h m k h3 hk hm)
   ·omega
theorem namesOK_iff {l:List BSnap}:NamesOK l↔l.length≤6∧(∀s,s ∈ l→l1Word s.name=true)∧(l.map (·.name)).Nodup:=by
 rw[←names_nodup]
 constructor
 ·rintro⟨h1,h2⟩
  refine⟨h1,fun s hs=>?_,fun k s hs=>(h2 k s hs).2⟩
  obtain⟨k,hk⟩:=List.getElem?_of_mem hs
  exact(h2 k s hk).1
 ·rintro⟨h1,h2,h3⟩
  exact⟨h1,fun k s hs=>⟨h2 s (List.mem_of_getElem? hs),h3 k s hs⟩⟩
theorem NamesOK.sub {l m:List BSnap}(h:NamesOK l)(hs:m.Sublist l):NamesOK m:=by
 obtain⟨h1,h2,h3⟩:=namesOK_iff.1 h
 exact namesOK_iff.2 ⟨Nat.le_trans hs.length_le h1,fun s hm=>h2 s (hs.subset hm),(hs.map _).nodup h3⟩
section
variable {d d1:BDisk} {n:Bs} {p:Bs} {b:List Int}
theorem split_at {α:Type}{l:List α}{i:Nat}{x:α}(h:l[i]? = some x):l=l.take i++x::l.drop (i+1):=by
 have:=List.take_append_drop i l
 rw[drop_at h]at this
 exact this.symm
theorem del_sub {α:Type}{l:List α}{i:Nat}{x:α}(h:l[i]? = some x):(l.take i++l.drop (i+1)).Sublist l:=by
 conv=>rhs;rw[split_at h]
 exact List.Sublist.append_left (List.sublist_cons_self _ _) _
theorem back_hol (hd:DiskValid d=true){i:Nat}{s:BSnap}{st:List BHeld}(hs:d.snaps[i]? = some s)(hk:l12Keep d.store s.tree=some st) :
  ∃L',freeTs st d.tree=some L'∧l12Free st d.tree=L'∧DHol L' (s.tree::d.snaps.map (·.tree))∧∀a,us L' a=us d.store a+(cntL s.tree a:Int)-(cntL d.tree a:Int)∧(0<us L' a→by_ L' a=by_ d.store a):=by
 obtain⟨hN,hH⟩:=dd_iff.1 hd
 obtain⟨g1,g2⟩:=keep_hol hH (snap_in hs) hk
 obtain⟨L',k1,k2,k3,k4⟩:=free_hol (t:=d.tree) (ts:=s.tree::d.snaps.map (·.tree)) (g1.perm (List.Perm.swap _ _ _))
 exact⟨L',k1,k2,k3,fun a=>⟨by have:=(g2 a).1;have:=(k4 a).1;omega,fun ha=>((k4 a).2 ha).trans (g2 a).2⟩⟩
theorem back_valid (h:SnapBack d n=some d1):DiskValid d1=true:=by
 obtain⟨hd,i,s,st,hi,hs,hsn,hk,rfl⟩:=back_get h
 obtain⟨L',_,k2,k3,_⟩:=back_hol hd hs hk
 refine dd_iff.2 ⟨(dd_iff.1 hd).1,?_⟩
 show DHol (l12Free st d.tree) _
 rw[k2]
 exact k3
theorem dwrite_get (h:DiskWrite d p b=some d1):DiskValid d=true∧FileValid b=true∧∃v,l11Write ⟨d.store,d.tree⟩ p b=some v∧d1=⟨v.store,v.tree,d.snaps⟩:=by
 unfold DiskWrite at h
 split at h
 ·rename_i hc
  simp only[Bool.and_eq_true]at hc
  obtain⟨v,h1,h2⟩:=Option.map_eq_some_iff.1 h
  exact⟨hc.1,hc.2,v,h1,h2.symm⟩
 ·cases h
theorem DHol.hol {L:List BHeld}{t:List BItem}{ts:List (List BItem)}(h:DHol L (t::ts)):Hol L t :=
 ⟨h.vh,h.vt t (by simp),h.ids t (by simp),fun a=>by have:=h.use a;rw[cntD_cons]at this;omega⟩
theorem dwrite_valid (h:DiskWrite d p b=some d1):DiskValid d1=true:=by
 obtain⟨hd,hb,v,hv,rfl⟩:=dwrite_get h
 obtain⟨hN,hH⟩:=dd_iff.1 hd
 refine dd_iff.2 ⟨hN,?_⟩
 show DHol v.store (v.tree::d.snaps.map (·.tree))
 unfold l11Write at hv
 split at hv
 ·cases hv
 ·rename_i r hst
  obtain⟨s,ids⟩:=r
  split at hv
  ·cases hv
  ·rename_i t ht
   obtain⟨s',_,_,g1,g2,g3⟩:=write_ok (DHol.hol (ts:=d.snaps.map (·.tree)) hH) hst ht
   obtain⟨_,_,hsu,_⟩:=store_ok hH.vh hst
   have hv':l11Write ⟨d.store,d.tree⟩ p b=some v:=by
    simp only[l11Write,hst,ht]
    exact hv
   rw[g1]at hv'
   cases hv'
   have hu : ∀ a, us s' a = (cntD (t :: d.snaps.map (·.tree)) a : Int) := fun a => by
    have h1:=hH.use a
    have h2:us s' a=us d.store a+(cntL t a:Int)-(cntL d.tree a:Int):=(g3 a).1
    simp only[trees,cntD_cons]at h1
    rw[cntD_cons]
    omega
   refine⟨g2.vh,fun u hu2=>?_,fun u hu2 x hx=>?_,hu⟩
   ·rcases List.mem_cons.1 hu2 with rfl|hu2
    ·exact g2.vt
    ·exact hH.vt u (List.mem_cons.2 (.inr hu2))
   ·rcases List.mem_cons.1 hu2 with rfl|hu2
    ·exact g2.ids x hx
    ·refine ids_keep hH.vh g2.vh (fun a ha=>?_) (hH.ids u (List.mem_cons.2 (.inr hu2)) x hx)
     have h1:0<cnt1 a x.ids:=cnt1_pos.2 ha
     have h2:=cntL_mem hx a
     have h3:=cntD_mem hu2 a
     have h4:=hu a
     rw[cntD_cons]at h4
     have h5:0<us s' a:=by omega
     have h6:=hH.use a
     simp only[trees,cntD_cons]at h6
     exact⟨h5,((g3 a).2 h5).trans ((hsu a).2 (by omega))⟩
end
end Sp
namespace Fw
open Go
section ops
variable {P:Program} {n:Nat} {ops:Array Oper} {Q:Post} {rest:List Oper} {L:Slots} {ds:List Deferred} {w w0:World} {G0:PH} {S:List Nat} {G:PH} {B:List Res}
variable {ty:TypeId} {ps:String} {af:Array Edge}
end ops
theorem All2.del {α β:Type}{R:α→β→Prop}{l:List α}{m:List β}(h:All2 R l m):∀(i:Nat),All2 R (l.take i++l.drop (i+1)) (m.take i++m.drop (i+1)):=by
 induction h with
 | nil=>intro i;simp;exact .nil
 | cons h t ih =>
  intro i
  cases i with
  | zero=>simpa using t
  | succ i=>simpa using .cons h (ih i)
end Fw
namespace Sp
open Fw
section
variable {d d1:BDisk} {n:Bs} {p:Bs} {b:List Int}
theorem back_isv (h:SnapBack d n=some d1):DiskValid d=true:=(back_get h).1
theorem back_eq (hd : DiskValid d = true) {i : Nat} {s : BSnap} (hi : atS d.snaps n = some i) (hs : d.snaps[i]? = some s) : SnapBack d n = (l12Keep d.store s.tree).map (fun st => ⟨l12Free st d.tree, s.tree, d.snaps⟩) := by
 unfold SnapBack
 rw[hi]
 simp only[hd,if_true,hs,Option.map_some,Option.getD_some]
theorem back_noat (h:optI (atS d.snaps n)<0):SnapBack d n=none:=by
 cases e:atS d.snaps n with
 | none=>unfold SnapBack;rw[e]
 | some i=>rw[e]at h;simp only[optI]at h;omega
theorem back_nov (h:DiskValid d=false):SnapBack d n=none:=by
 cases e:SnapBack d n with
 | none=>rfl
 | some q=>rw[back_isv e]at h;cases h
theorem dk_lim {o:Option BDisk}(h:∀d1,o=some d1→DiskValid d1=true):((o.map (·.snaps)).getD []).length≤6:=by
 cases o with
 | none=>simp
 | some d1=>exact(dv_parts.1 (h d1 rfl)).2.2.1
end
theorem l12Free_len:∀(l:List BItem) (s:List BHeld),(l12Free s l).length≤s.length
 | [],s=>by simp[l12Free]
 | x :: r, s => by
  have h1:=free_len s x.ids
  have h2:=l12Free_len r ((FileFree s x.ids).getD [])
  have:l12Free s (x::r)=l12Free ((FileFree s x.ids).getD []) r:=by simp[l12Free]
  rw[this]
  omega
theorem freeOld_len (s:List BHeld)(l:List BItem):(freeOld s l).length≤s.length:=by
 cases l with
 | nil=>exact Nat.le_refl _
 | cons x r=>exact free_len s x.ids
theorem l11Write_slen (v:BVol)(p:Bs)(b:List Int):(((l11Write v p b).map (·.store)).getD []).length≤16:=by
 have h:=fileStore_len v.store b
 unfold l11Write
 cases e:FileStore v.store b with
 | none=>simp
 | some r =>
  rw[e]at h
  simp only[Option.map_some,Option.getD_some]at h
  have h2:=freeOld_len r.1 (l11Ids v.tree p)
  cases e2:TreePut v.tree ⟨p,false,r.2⟩ with
  | none=>simp[e2]
  | some t=>simp[e2];omega
end Sp
namespace Sp
open Fw Nd
def TreeFind (l:List BItem)(p:Bs):Option BItem:=if TreeValid l then(atI l p).bind (fun i=>l[i]?) else none
theorem dwrite_snaps {d d1:BDisk}{p:Bs}{b:List Int}(h:DiskWrite d p b=some d1):d1.snaps=d.snaps:=by
 obtain⟨hd,hb,v,hv,rfl⟩:=dwrite_get h
 rfl
end Sp
namespace Fw
open Go
section
variable {P:Program} {n:Nat} {Q:Post} {L:Slots} {ds:List Deferred} {w:World}
def JP (n:Nat)(ds:List Deferred)(Lf:Slots)(J:Slots→World→Prop):Post:=fun e a w=>e= .normal∧∃M,FrL n (M++Lf) ds a∧J M w
theorem W_join {x y:Code}(Lf:Slots)(J:Slots→World→Prop)(hf:Sub Lf L)(first:W P n (JP n ds Lf J) x L ds w)(second:∀M w,J M w→W P n Q y (M++Lf) ds w):W P n Q (.seq x y) L ds w :=
 W_seq (fun a ha => wp_mono (first a ha) (fun e a' w' hq => by
  obtain⟨he,M,hF,hJ⟩:=hq
  subst he
  exact second M w' hJ a' hF))
theorem N_J {Lf : Slots} {J : Slots → World → Prop} {M : Slots} (hJ : J M w) (hM : Sub M L := by (repeat (first | exact Sub.nil | refine Sub.cons rfl ?_))) (hf : Sub Lf L := by (repeat (first | exact Sub.nil | refine Sub.cons rfl ?_))) : N n (JP n ds Lf J) .normal L ds w :=
 fun _ ha=>⟨rfl,M,ha.sub (hM.app hf),hJ⟩
end
def selB {α:Type}(B:List α):List Nat→Option (List α)
 | []=>some []
 | k :: ks => match nth B k, selB B ks with
  | some r,some rs=>some (r::rs)
  | _,_=>none
theorem selB_cons {α:Type}{B:List α}{k:Nat}{ks:List Nat}{Bs:List α}(h:selB B (k::ks)=some Bs):∃r rs,nth B k=some r∧selB B ks=some rs∧Bs=r::rs:=by
 simp only[selB]at h
 split at h
 ·next r rs h1 h2=>exact⟨r,rs,h1,h2,(Option.some.inj h).symm⟩
 ·cases h
theorem selB_mem {α:Type}{B:List α}:∀{ks:List Nat} {Bs:List α},selB B ks=some Bs→∀r,r ∈ Bs→∃k,k ∈ ks∧nth B k=some r
 | [], Bs, h, r, hr => by
  simp only[selB,Option.some.injEq]at h
  subst h
  simp at hr
 | k :: ks, Bs, h, r, hr => by
  obtain⟨q,rs,h1,h2,rfl⟩:=selB_cons h
  rcases List.mem_cons.1 hr with rfl|hr
  ·exact⟨k,by simp,h1⟩
  ·obtain⟨j,hj,hn⟩:=selB_mem h2 r hr
   exact⟨j,by simp[hj],hn⟩
theorem fps_apart:∀{B:List Res} {j k:Nat} {q r:Res} {b:Nat},(fps B).Nodup→nth B j=some q→nth B k=some r→j≠k→b ∈ q.fp→b ∈ r.fp→False
 | [],j,_,q,_,_,_,h,_,_,_,_=>by simp[nth]at h
 | x::t,0,0,_,_,_,_,_,_,h,_,_=>h rfl
 | x :: t, 0, k + 1, q, r, b, hn, h1, h2, _, hq, hr => by
  simp only[nth,Option.some.injEq]at h1 h2
  subst h1
  have:=List.nodup_append.1 (show(x.fp++fps t).Nodup from hn)
  exact this.2.2 b hq b (List.mem_flatMap.2 ⟨r,nth_mem h2,hr⟩) rfl
 | x :: t, j + 1, 0, q, r, b, hn, h1, h2, _, hq, hr => by
  simp only[nth,Option.some.injEq]at h1 h2
  subst h2
  have:=List.nodup_append.1 (show(x.fp++fps t).Nodup from hn)
  exact this.2.2 b hr b (List.mem_flatMap.2 ⟨q,nth_mem h1,hq⟩) rfl
 | x :: t, j + 1, k + 1, q, r, b, hn, h1, h2, hne, hq, hr => by
  simp only[nth]at h1 h2
  have:=List.nodup_append.1 (show(x.fp++fps t).Nodup from hn)
  exact fps_apart this.2.1 h1 h2 (by omega) hq hr
theorem fp_nodup:∀{B:List Res} {k:Nat} {r:Res},(fps B).Nodup→nth B k=some r→r.fp.Nodup
 | [],_,_,_,h=>by simp[nth]at h
 | x :: t, 0, r, hn, h => by
  simp only[nth,Option.some.injEq]at h
  subst h
  exact(List.nodup_append.1 (show(x.fp++fps t).Nodup from hn)).1
 | x :: t, k + 1, r, hn, h => by
  simp only[nth]at h
  exact fp_nodup (List.nodup_append.1 (show(x.fp++fps t).Nodup from hn)).2.1 h
theorem selB_nodup {B:List Res}(hn:(fps B).Nodup):∀{ks:List Nat} {Bs:List Res},selB B ks=some Bs→ks.Nodup→(fps Bs).Nodup
 | [], Bs, h, _ => by
  simp only[selB,Option.some.injEq]at h
  subst h
  simp[fps]
 | k :: ks, Bs, h, hk => by
  obtain⟨r,rs,h1,h2,rfl⟩:=selB_cons h
  have hk':=List.nodup_cons.1 hk
  refine List.nodup_append.2 ⟨fp_nodup hn h1,selB_nodup hn h2 hk'.2,fun a ha b hb e=>?_⟩
  subst e
  obtain⟨q,hq,hb⟩:=List.mem_flatMap.1 hb
  obtain⟨j,hj,hjq⟩:=selB_mem h2 q hq
  exact fps_apart hn h1 hjq (fun e=>hk'.1 (e▸hj)) ha hb
theorem Hp.sel {w0 : World} {P0 : PH} {S : List Nat} {w : World} {P : PH} {B : List Res} (H : Hp w0 P0 S w P B) (ks : List Nat) {Bs : List Res} (h : selB B ks = some Bs) (hk : ks.Nodup := by decide) : Hp w0 P0 S w P Bs :=
 ⟨H.os,H.tape,H.output,H.size,H.ext,H.sub,H.le,H.old,fun r hr=>let ⟨_,_,hn⟩:=selB_mem h r hr;H.own r (nth_mem hn),selB_nodup H.nd h hk⟩
end Fw
namespace Sp
open Fw Nd
theorem ids_at {L:List BHeld}(hS:StoreValid L=true){ids:List Int}(hl:l4Ids L ids=true){k:Nat}{a:Int}(hk:ids[k]? = some a):∃j:Nat,l3At L a=(j:Int)∧j<L.length∧L[j]? = some (getH L a):=by
 have hV:=valid_iff.1 hS
 obtain⟨i,h1,h2,_⟩:=get_some ((us_pos hV).1 (ids_in hV hl (List.mem_of_getElem? hk)))
 refine⟨i,?_,(List.getElem?_eq_some_iff.1 h2).1,h2⟩
 unfold l3At
 rw[h1]
 rfl
theorem dv_store {d:BDisk}(hd:DiskValid d=true):StoreValid d.store=true:=valid_iff.2 (dd_iff.1 hd).2.vh
def ids (L:List BHeld):List Int:=L.map (·.id)
end Sp
namespace Fw
structure BOp where
 kind:Int
 path:Bs
 bytes:List Int
end Fw
namespace Sp
open Fw Nd
def opOk (o:BOp):Bool :=
 if o.kind=1∨o.kind=3 then PathValid o.path&&decide (o.bytes=[])
 else if o.kind=2 then PathValid o.path&&FileValid o.bytes
 else if o.kind=4 then l1Word o.path&&decide (o.bytes=[])
 else false
def withVol (d:BDisk)(u:BVol):BDisk:=⟨u.store,u.tree,d.snaps⟩
def DiskDir (d:BDisk)(p:Bs):Option BDisk:=if DiskValid d then(l11Dir d.store d.tree p).map (withVol d) else none
def DiskDrop (d:BDisk)(p:Bs):Option BDisk:=if DiskValid d then(l11Drop d.store d.tree p).map (withVol d) else none
def OpRun (d:BDisk)(o:BOp):Option BDisk :=
 if opOk o then
  if o.kind=1 then DiskDir d o.path
  else if o.kind=2 then DiskWrite d o.path o.bytes
  else if o.kind=3 then DiskDrop d o.path
  else SnapTake d o.path
 else none
section
variable {d d1:BDisk} {p:Bs} {o:BOp}
theorem ddir_get (h:DiskDir d p=some d1):DiskValid d=true∧∃t,TreePut d.tree ⟨p,true,[]⟩=some t∧d1=⟨d.store,t,d.snaps⟩∧t.Perm (⟨p,true,[]⟩::d.tree)∧VT t:=by
 unfold DiskDir at h
 split at h
 ·rename_i hd
  unfold l11Dir at h
  cases e:TreePut d.tree ⟨p,true,[]⟩ with
  | none=>rw[e]at h;simp at h
  | some t =>
   rw[e]at h
   simp[withVol]at h
   obtain⟨_,vt,_,hp⟩:=put_perm2 e
   rw[filter_none (put_newD e rfl)]at hp
   exact⟨hd,t,rfl,h.symm,hp,vt⟩
 ·cases h
theorem ddir_valid (h:DiskDir d p=some d1):DiskValid d1=true:=by
 obtain⟨hd,t,_,rfl,hp,vt⟩:=ddir_get h
 obtain⟨hN,hH⟩:=dd_iff.1 hd
 have hc:∀a,cntL t a=cntL d.tree a:=fun a=>by rw[cntL_perm hp,cntL_cons];simp[cnt1]
 refine dd_iff.2 ⟨hN,hH.vh,fun u hu=>?_,fun u hu x hx=>?_,fun a=>?_⟩
 ·rcases List.mem_cons.1 hu with rfl|hu
  ·exact vt
  ·exact hH.vt u (List.mem_cons.2 (.inr hu))
 ·rcases List.mem_cons.1 hu with rfl|hu
  ·rcases List.mem_cons.1 (hp.mem_iff.1 hx) with rfl|hx
   ·exact ids_true (fun j hj=>by simp at hj) (by simp)
   ·exact hH.ids d.tree (by simp[trees]) x hx
  ·exact hH.ids u (List.mem_cons.2 (.inr hu)) x hx
 ·have:=hH.use a
  simp only[trees,cntD_cons]at this ⊢
  rw[this,hc]
theorem ddrop_get (h:DiskDrop d p=some d1):DiskValid d=true∧∃(x:BItem) (s:List BHeld) (t:List BItem),TreeDrop d.tree p=some t∧x ∈ d.tree∧x.path=p∧d1=⟨s,t,d.snaps⟩∧VH s∧VT t∧d.tree.Perm (x::t) ∧
  ∀a,us s a=us d.store a-(cnt1 a x.ids:Int)∧(0<us s a→by_ s a=by_ d.store a):=by
 unfold DiskDrop at h
 split at h
 ·rename_i hd
  cases e:TreeDrop d.tree p with
  | none=>simp[l11Drop,e]at h
  | some t =>
   obtain⟨x,s,hx,hxa,_,g2,g3,g4,g5⟩:=drop_ok (DHol.hol (ts:=d.snaps.map (·.tree)) (dd_iff.1 hd).2) e
   rw[g2]at h
   simp[withVol]at h
   obtain⟨_,_,y,_,hyp,hya,_⟩:=drop_perm2 e
   rw[hxa]at hya
   cases hya
   exact⟨hd,x,s,t,rfl,hx,hyp,h.symm,g3.vh,g3.vt,g4,g5⟩
 ·cases h
theorem ddrop_valid (h:DiskDrop d p=some d1):DiskValid d1=true:=by
 obtain⟨hd,x,s,t,_,hx,_,rfl,vs,vt,hp,hu⟩:=ddrop_get h
 obtain⟨hN,hH⟩:=dd_iff.1 hd
 have hc:∀a,cntL d.tree a=cnt1 a x.ids+cntL t a:=fun a=>by rw[cntL_perm hp,cntL_cons]
 have hus : ∀ a, us s a = (cntD (t :: d.snaps.map (·.tree)) a : Int) := fun a => by
  have h1:=hH.use a
  have h2:=(hu a).1
  have h3:=hc a
  simp only[trees,cntD_cons]at h1 ⊢
  omega
 refine dd_iff.2 ⟨hN,vs,fun u hu2=>?_,fun u hu2 y hy=>?_,hus⟩
 ·rcases List.mem_cons.1 hu2 with rfl|hu2
  ·exact vt
  ·exact hH.vt u (List.mem_cons.2 (.inr hu2))
 ·have hy2 : ∃ u', u' ∈ trees d ∧ y ∈ u' := by
   rcases List.mem_cons.1 hu2 with rfl|hu2
   ·exact⟨d.tree,by simp[trees],hp.mem_iff.2 (by simp[hy])⟩
   ·exact⟨u,List.mem_cons.2 (.inr hu2),hy⟩
  obtain⟨u',m1,m2⟩:=hy2
  refine ids_keep hH.vh vs (fun a ha=>?_) (hH.ids u' m1 y m2)
  have h1:0<cnt1 a y.ids:=cnt1_pos.2 ha
  have h2:=cntL_mem hy a
  have h3:=cntD_mem hu2 a
  have h4:=hus a
  have h5:0<us s a:=by simp only[trees]at h3;omega
  exact⟨h5,(hu a).2 h5⟩
end
def jgo:BDisk→List BOp→BDisk×Nat
 | d,[]=>(d,0)
 | d, o :: r => match OpRun d o with
  | none=>(d,0)
  | some d1=>((jgo d1 r).1,(jgo d1 r).2+1)
def l13Same (x y:BItem):Bool:=decide (x.path=y.path)&&decide (x.dir=y.dir)&&l2Same x.ids y.ids
theorem asc_uniq {l:List BItem}(h:l.Pairwise ltp){x y:BItem}(hx:x ∈ l)(hy:y ∈ l)(e:x.path=y.path):x=y:=by
 obtain⟨i,h1,h2⟩:=(uniq_at h (p:=y.path)).2.1 x hx e
 obtain⟨j,h3,h4⟩:=(uniq_at h (p:=y.path)).2.1 y hy rfl
 rw[h1]at h3
 cases h3
 rw[h2]at h4
 exact Option.some.inj h4
end Sp
namespace Fw
structure BChange where
 kind:Int
 item:BItem
structure BPart where
 kind:Int
 path:Bs
 dir:Bool
 bytes:List Int
end Fw
namespace Sp
open Fw Nd
def chg:List BItem→List BItem→List BChange
 | [],b=>b.map (fun y=>⟨1,y⟩)
 | x::a,[]=>⟨2,x⟩::chg a []
 | x::a,y::b =>
  if lt x.path y.path then⟨2,x⟩::chg a (y::b)
  else if lt y.path x.path then⟨1,y⟩::chg (x::a) b
  else(if x.dir≠y.dir then[⟨2,x⟩,⟨1,y⟩] else if l13Same x y then[] else[⟨3,y⟩])++chg a b
  termination_by a b=>a.length+b.length
def partC (L:List BHeld)(c:BChange):BPart:=⟨c.kind,c.item.path,c.item.dir,if c.kind=2 then[] else load L c.item.ids⟩
def l14Tree (d:BDisk)(n:Bs):Option (List BItem):=if n=[] then some [] else(atS d.snaps n).map (fun i=>((d.snaps[i]?).map (·.tree)).getD [])
def StreamOf (d:BDisk)(a b:Bs):Option (List BPart):=if DiskValid d then(l14Tree d a).bind (fun x=>(l14Tree d b).map (fun y=>(chg x y).map (partC d.store))) else none
def l14Drop (d:BDisk)(x:BPart):Option BDisk :=
 if (d.tree.any (fun y=>decide (y.path=x.path)&&decide (y.dir=x.dir)))&&decide (x.bytes=[]) then(l11Drop d.store d.tree x.path).map (withVol d) else none
def fileAt (t:List BItem)(p:Bs):Bool:=t.any (fun y=>decide (y.path=p)&& !y.dir)
def l14Make (d:BDisk)(x:BPart):Option BDisk :=
 if (decide (x.kind = 1) && (atI d.tree x.path).isNone) || (decide (x.kind = 3) && !x.dir && fileAt d.tree x.path) then
  if x.dir then(if x.bytes=[] then(l11Dir d.store d.tree x.path).map (withVol d) else none) else DiskWrite d x.path x.bytes
 else none
def isGone (x:BPart):Bool:=decide (x.kind=2)
def StreamRun (d:BDisk)(l:List BPart):Option BDisk :=
 if DiskValid d then foldB l14Make (l.filter (fun x=> !isGone x)) (foldB l14Drop (l.filter isGone).reverse (some d)) else none
section
variable {d d1:BDisk} {x:BPart}
theorem sdrop1 (hd:DiskValid d=true)(h:l14Drop d x=some d1):DiskDrop d x.path=some d1∧x.bytes=[]:=by
 unfold l14Drop at h
 split at h
 ·rename_i hc
  simp only[Bool.and_eq_true,decide_eq_true_eq]at hc
  exact⟨by simpa [DiskDrop,hd] using h,hc.2⟩
 ·cases h
theorem smake1 (hd:DiskValid d=true)(h:l14Make d x=some d1):(x.kind=1∨x.kind=3)∧((x.dir=true∧x.kind=1∧DiskDir d x.path=some d1)∨(x.dir=false∧DiskWrite d x.path x.bytes=some d1)):=by
 unfold l14Make at h
 split at h
 ·rename_i hc
  simp only[Bool.or_eq_true,Bool.and_eq_true,decide_eq_true_eq,Bool.not_eq_true']at hc
  refine⟨hc.imp (·.1) (·.1.1),?_⟩
  cases e:x.dir with
  | true =>
   rw[e]at h
   simp only[if_true]at h
   split at h
   ·refine .inl ⟨rfl,?_,by simpa [DiskDir,hd] using h⟩
    rcases hc with h1|h1
    ·exact h1.1
    ·rw[e]at h1;cases h1.1.2
   ·cases h
  | false =>
   rw[e]at h
   exact .inr ⟨rfl,by simpa using h⟩
 ·cases h
theorem sdrop_v (hd:DiskValid d=true)(h:l14Drop d x=some d1):DiskValid d1=true∧d1.snaps=d.snaps:=by
 obtain⟨h1,_⟩:=sdrop1 hd h
 refine⟨ddrop_valid h1,?_⟩
 obtain⟨_,_,_,_,_,_,_,rfl,_⟩:=ddrop_get h1
 rfl
theorem smake_v (hd:DiskValid d=true)(h:l14Make d x=some d1):DiskValid d1=true∧d1.snaps=d.snaps:=by
 obtain⟨_,⟨_,_,h1⟩|⟨_,h1⟩⟩:=smake1 hd h
 ·refine⟨ddir_valid h1,?_⟩
  obtain⟨_,_,_,rfl,_⟩:=ddir_get h1
  rfl
 ·exact⟨dwrite_valid h1,dwrite_snaps h1⟩
end
theorem run_all {P:BDisk→Prop}(hP1:∀d d1 x,DiskValid d=true→P d→l14Drop d x=some d1→P d1)(hP2:∀d d1 x,DiskValid d=true→P d→l14Make d x=some d1→P d1)
  {d d1:BDisk} {l:List BPart} (h0:P d) (h:StreamRun d l=some d1):DiskValid d1=true∧d1.snaps=d.snaps∧P d1:=by
 unfold StreamRun at h
 split at h
 ·rename_i hd
  cases e:foldB l14Drop (l.filter isGone).reverse (some d) with
  | none =>
   rw[e]at h
   have : ∀ m : List BPart, foldB l14Make m none = none := fun m => by
    induction m with
    | nil=>rfl
    | cons x m ih=>exact ih
   rw[this]at h
   cases h
  | some m =>
   rw[e]at h
   have h1:=foldB_inv (P:=fun r:BDisk=>DiskValid r=true∧r.snaps=d.snaps∧P r) (f:=l14Drop) (fun a b a' h1 h2=>⟨(sdrop_v h1.1 h2).1,(sdrop_v h1.1 h2).2.trans h1.2.1,hP1 _ _ _ h1.1 h1.2.2 h2⟩) _ _ _ ⟨hd,rfl,h0⟩ e
   exact foldB_inv (P:=fun r:BDisk=>DiskValid r=true∧r.snaps=d.snaps∧P r) (f:=l14Make) (fun a b a' h1 h2=>⟨(smake_v h1.1 h2).1,(smake_v h1.1 h2).2.trans h1.2.1,hP2 _ _ _ h1.1 h1.2.2 h2⟩) _ _ _ h1 h
 ·cases h
theorem run_valid {d d1:BDisk}{l:List BPart}(h:StreamRun d l=some d1):DiskValid d1=true∧d1.snaps=d.snaps:=by
 have:=run_all (P:=fun _=>True) (fun _ _ _ _ _ _=>trivial) (fun _ _ _ _ _ _=>trivial) trivial h
 exact⟨this.1,this.2.1⟩
theorem foldB_app {α β:Type}(f:α→β→Option α)(l m:List β)(o:Option α):foldB f (l++m) o=foldB f m (foldB f l o):=List.foldl_append
theorem foldB_split {α β:Type}{f:α→β→Option α}{A B:List β}{x:β}{d r:α}(h:foldB f (A++x::B) (some d)=some r):∃m m1,foldB f A (some d)=some m∧f m x=some m1∧foldB f B (some m1)=some r:=by
 rw[foldB_app]at h
 cases e:foldB f A (some d) with
 | none=>rw[e,foldB_none]at h;cases h
 | some m =>
  rw[e]at h
  cases e2:f m x with
  | none =>
   have:foldB f (x::B) (some m)=foldB f B none:=by rw[←e2];rfl
   rw[this,foldB_none]at h;cases h
  | some m1 =>
   rw[foldB_cons e2]at h
   exact⟨m,m1,rfl,e2,h⟩
def has (p:Bs)(b:Bool)(d:BDisk):Prop:=∃y,y ∈ d.tree∧y.path=p∧y.dir=b
theorem dv_tree {d:BDisk}(h:DiskValid d=true):VT d.tree:=(dd_iff.1 h).2.vt d.tree (by simp[trees])
section
variable {d d1:BDisk} {x:BPart}
theorem drop_has (hd:DiskValid d=true)(h:l14Drop d x=some d1)(p:Bs)(b:Bool):has p b d1↔p≠x.path∧has p b d:=by
 obtain⟨h1,_⟩:=sdrop1 hd h
 obtain⟨_,y,s,t,_,hy,hyp,rfl,_,_,hp,_⟩:=ddrop_get h1
 have hasc:=(dv_tree hd).asc
 have hn:=(hp.nodup_iff).1 (nodup_paths hasc)
 rw[List.nodup_cons]at hn
 constructor
 ·rintro⟨z,hz,hzp,hzb⟩
  have hz2:z ∈ d.tree:=hp.mem_iff.2 (by simp[show z ∈ t from hz])
  refine⟨fun e=>?_,z,hz2,hzp,hzb⟩
  have:=asc_uniq hasc hz2 hy (by rw[hzp,e,hyp])
  exact hn.1 (this▸hz)
 ·rintro⟨hne,z,hz,hzp,hzb⟩
  refine⟨z,?_,hzp,hzb⟩
  rcases List.mem_cons.1 (hp.mem_iff.1 hz) with rfl|h
  ·exact absurd (hzp.symm.trans hyp) hne
  ·exact h
theorem write_has {p':Bs}{bs:List Int}(h:DiskWrite d p' bs=some d1)(p:Bs)(b:Bool):has p b d1↔(p=p'∧b=false)∨(p≠p'∧has p b d):=by
 obtain⟨hd,_,v,hv,rfl⟩:=dwrite_get h
 unfold l11Write at hv
 split at hv
 ·cases hv
 ·split at hv
  ·cases hv
  ·rename_i t ht
   simp only[Option.some.injEq]at hv
   subst hv
   obtain⟨_,_,_,hp⟩:=put_perm2 ht
   unfold has
   simp only[hp.mem_iff,List.mem_cons,List.mem_filter,decide_eq_true_eq]
   constructor
   ·rintro⟨y,rfl|⟨hy,hne⟩,hyp,hyb⟩
    ·exact .inl ⟨hyp.symm,hyb.symm⟩
    ·exact .inr ⟨fun e=>hne (hyp.trans e),y,hy,hyp,hyb⟩
   ·rintro(⟨rfl,rfl⟩|⟨hne,y,hy,hyp,hyb⟩)
    ·exact⟨_,.inl rfl,rfl,rfl⟩
    ·exact⟨y,.inr ⟨hy,fun e=>hne (hyp.symm.trans e)⟩,hyp,hyb⟩
theorem make_has (hd:DiskValid d=true)(h:l14Make d x=some d1)(p:Bs)(b:Bool):has p b d1↔(p=x.path∧b=x.dir)∨(p≠x.path∧has p b d):=by
 obtain⟨_,⟨hxd,_,h1⟩|⟨hxd,h1⟩⟩:=smake1 hd h
 ·obtain⟨_,t,ht,rfl,hp,vt⟩:=ddir_get h1
  have hno:=put_newD ht rfl
  rw[hxd]
  unfold has
  simp only[hp.mem_iff,List.mem_cons]
  constructor
  ·rintro⟨y,rfl|hy,hyp,hyb⟩
   ·exact .inl ⟨hyp.symm,hyb.symm⟩
   ·exact .inr ⟨fun e=>hno y hy (hyp.trans e),y,hy,hyp,hyb⟩
  ·rintro(⟨rfl,rfl⟩|⟨_,y,hy,hyp,hyb⟩)
   ·exact⟨_,.inl rfl,rfl,rfl⟩
   ·exact⟨y,.inr hy,hyp,hyb⟩
 ·rw[hxd]
  exact write_has h1 p b
end
theorem drops_has:∀(l:List BPart) {d d1:BDisk} {p:Bs} {b:Bool},DiskValid d=true→foldB l14Drop l (some d)=some d1→(∀x,x ∈ l→x.path≠p)→DiskValid d1=true∧(has p b d1↔has p b d)
 | [],d,d1,p,b,hd,h,_=>by cases h;exact⟨hd,Iff.rfl⟩
 | x :: l, d, d1, p, b, hd, h, hn => by
  obtain⟨m,m1,e,h1,h2⟩:=foldB_split (A:=[]) h
  cases e
  obtain⟨g1,g2⟩:=drops_has l (p:=p) (b:=b) (sdrop_v hd h1).1 h2 (fun y hy=>hn y (List.mem_cons.2 (.inr hy)))
  refine⟨g1,g2.trans ((drop_has hd h1 p b).trans ?_)⟩
  have:=hn x (List.mem_cons_self ..)
  exact⟨fun h=>h.2,fun h=>⟨fun e=>this e.symm,h⟩⟩
theorem makes_has:∀(l:List BPart) {d d1:BDisk} {p:Bs} {b:Bool},DiskValid d=true→foldB l14Make l (some d)=some d1→(∀x,x ∈ l→x.path≠p)→DiskValid d1=true∧(has p b d1↔has p b d)
 | [],d,d1,p,b,hd,h,_=>by cases h;exact⟨hd,Iff.rfl⟩
 | x :: l, d, d1, p, b, hd, h, hn => by
  obtain⟨m,m1,e,h1,h2⟩:=foldB_split (A:=[]) h
  cases e
  obtain⟨g1,g2⟩:=makes_has l (p:=p) (b:=b) (smake_v hd h1).1 h2 (fun y hy=>hn y (List.mem_cons.2 (.inr hy)))
  refine⟨g1,g2.trans ((make_has hd h1 p b).trans ?_)⟩
  have:=hn x (List.mem_cons_self ..)
  constructor
  ·rintro(⟨e,_⟩|⟨_,h⟩)
   ·exact absurd e.symm this
   ·exact h
  ·exact fun h=> .inr ⟨fun e=>this e.symm,h⟩
theorem run_get {d d1 : BDisk} {l : List BPart} (h : StreamRun d l = some d1) : DiskValid d = true ∧ ∃ m, foldB l14Drop (l.filter isGone).reverse (some d) = some m ∧ DiskValid m = true ∧ foldB l14Make (l.filter (fun x => !isGone x)) (some m) = some d1 := by
 unfold StreamRun at h
 split at h
 ·rename_i hd
  cases e:foldB l14Drop (l.filter isGone).reverse (some d) with
  | none=>rw[e,foldB_none]at h;cases h
  | some m =>
   rw[e]at h
   exact⟨hd,m,rfl,foldB_inv (P:=fun r:BDisk=>DiskValid r=true) (f:=l14Drop) (fun a b a' h1 h2=>(sdrop_v h1 h2).1) _ _ _ hd e,h⟩
 ·cases h
theorem run_files {d d1:BDisk}{l:List BPart}(h:StreamRun d l=some d1){x:BPart}{L1 L2:List BPart}(hl:l=L1++x::L2)(h1:∀y,y ∈ L1→y.path≠x.path)(h2:∀y,y ∈ L2→y.path≠x.path) :
  (x.kind=2→∀b,¬has x.path b d1)∧(x.kind≠2→has x.path x.dir d1):=by
 obtain⟨hd,m,hm,vm,hr⟩:=run_get h
 subst hl
 constructor
 ·intro hk b hh
  have hf : (L1 ++ x :: L2).filter (fun x => !isGone x) = L1.filter (fun x => !isGone x) ++ L2.filter (fun x => !isGone x) := by
   rw[List.filter_append,List.filter_cons_of_neg (by simp[isGone,hk])]
  have hg:((L1++x::L2).filter isGone).reverse=(L2.filter isGone).reverse++x::(L1.filter isGone).reverse:=by
   rw[List.filter_append,List.filter_cons_of_pos (by simp[isGone,hk])]
   simp
  rw[hf]at hr
  rw[hg]at hm
  obtain⟨m1,m2,g1,g2,g3⟩:=foldB_split hm
  have v1:DiskValid m1=true:=foldB_inv (P:=fun r:BDisk=>DiskValid r=true) (f:=l14Drop) (fun a b a' h1 h2=>(sdrop_v h1 h2).1) _ _ _ hd g1
  have i1 := (makes_has _ (p := x.path) (b := b) vm hr (fun y hy => by
   rcases List.mem_append.1 hy with hy|hy
   ·exact h1 y (List.mem_filter.1 hy).1
   ·exact h2 y (List.mem_filter.1 hy).1)).2.1 hh
  have i2:=(drops_has _ (p:=x.path) (b:=b) (sdrop_v v1 g2).1 g3 (fun y hy=>h1 y (List.mem_filter.1 (List.mem_reverse.1 hy)).1)).2.1 i1
  exact((drop_has v1 g2 _ _).1 i2).1 rfl
 ·intro hk
  have hf : (L1 ++ x :: L2).filter (fun x => !isGone x) = L1.filter (fun x => !isGone x) ++ x :: L2.filter (fun x => !isGone x) := by
   rw[List.filter_append,List.filter_cons_of_pos (by simp[isGone,hk])]
  rw[hf]at hr
  obtain⟨m1,m2,g1,g2,g3⟩:=foldB_split hr
  have v1:DiskValid m1=true:=foldB_inv (P:=fun r:BDisk=>DiskValid r=true) (f:=l14Make) (fun a b a' h1 h2=>(smake_v h1 h2).1) _ _ _ vm g1
  exact(makes_has _ (p:=x.path) (b:=x.dir) (smake_v v1 g2).1 g3 (fun y hy=>h2 y (List.mem_filter.1 hy).1)).2.2 ((make_has v1 g2 _ _).2 (.inl ⟨rfl,rfl⟩))
def pathN (l:List BPart)(p:Bs):Nat:=l.countP (fun y=>decide (y.path=p))
theorem run_once {d d1:BDisk}{l:List BPart}(h:StreamRun d l=some d1){i:Nat}{x:BPart}(hi:l[i]? = some x)(hn:pathN l x.path=1) :
  (TreeFind d1.tree x.path).isSome= !isGone x∧(x.kind≠2→((TreeFind d1.tree x.path).getD ⟨[],false,[]⟩).dir=x.dir):=by
 have hl:l=l.take i++x::l.drop (i+1):=by
  have:=List.take_append_drop i l
  rw[drop_at hi]at this
  exact this.symm
 have hc:pathN (l.take i) x.path=0∧pathN (l.drop (i+1)) x.path=0:=by
  unfold pathN at hn ⊢
  rw[hl,List.countP_append,List.countP_cons]at hn
  simp only[decide_true,if_true]at hn
  exact⟨by omega,by omega⟩
 have hz : ∀ m : List BPart, pathN m x.path = 0 → ∀ y, y ∈ m → y.path ≠ x.path := fun m hm y hy => by
  have:=List.countP_eq_zero.1 hm y hy
  simpa using this
 obtain⟨r1,r2⟩:=run_files h hl (hz _ hc.1) (hz _ hc.2)
 have hv:=dv_tree (run_valid h).1
 have ht:=tvalid_iff.2 hv
 unfold TreeFind
 rw[if_pos ht]
 by_cases hk:x.kind=2
 ·have : atI d1.tree x.path = none := by
   cases e:atI d1.tree x.path with
   | none=>rfl
   | some j =>
    obtain⟨y,g1,g2⟩:=(uniq_at hv.asc (p:=x.path)).1 j e
    exact absurd ⟨y,List.mem_of_getElem? g1,g2,rfl⟩ (r1 hk y.dir)
  rw[this]
  exact⟨by simp[isGone,hk],fun h=>absurd hk h⟩
 ·obtain⟨y,g1,g2,g3⟩:=r2 hk
  obtain⟨j,g4,g5⟩:=(uniq_at hv.asc (p:=x.path)).2.1 y g1 g2
  rw[g4]
  simp[g5,isGone,hk,g3]
theorem tree_name {d:BDisk}{n:Bs}(h:n≠[]){t:List BItem}(ht:l14Tree d n=some t):∃i s,atS d.snaps n=some i∧d.snaps[i]? = some s∧t=s.tree:=by
 unfold l14Tree at ht
 rw[if_neg h]at ht
 cases e:atS d.snaps n with
 | none=>rw[e]at ht;cases ht
 | some i =>
  rw[e]at ht
  obtain⟨s,h1,_,_⟩:=at_some e
  simp[h1]at ht
  exact⟨i,s,rfl,h1,ht.symm⟩
theorem stream_get {d:BDisk}{f t:Bs}{ps:List BPart}(h:StreamOf d f t=some ps):DiskValid d=true∧∃ta tb,l14Tree d f=some ta∧l14Tree d t=some tb∧ps=(chg ta tb).map (partC d.store):=by
 unfold StreamOf at h
 split at h
 ·rename_i hd
  cases e1:l14Tree d f with
  | none=>rw[e1]at h;cases h
  | some ta =>
   cases e2:l14Tree d t with
   | none=>rw[e1,e2]at h;cases h
   | some tb =>
    rw[e1,e2]at h
    simp only[Option.bind_some,Option.map_some,Option.some.injEq]at h
    exact⟨hd,ta,tb,rfl,rfl,h.symm⟩
 ·cases h
def seen (L:List BHeld)(x:BItem):Bs×Bool×List Int:=(x.path,x.dir,load L x.ids)
section
variable {d d1:BDisk} {f t:Bs}
end
end Sp
namespace Fw
structure BQuota where
 dir:Bs
 most:Int
end Fw
namespace Sp
open Fw Nd
section
variable {d x:BDisk} {l:List BQuota} {p:Bs} {n:Int} {b:List Int}
end
section
variable {L:List BHeld} {k:Nat} {h:BHeld} (e:L[k]? = some h)
include e
end
theorem load_len8 {L:List BHeld}(hV:VH L):∀ids:List Int,(load L ids).length≤8*ids.length
 | []=>by simp[load]
 | a :: r => by
  have h1:=load_len8 hV r
  have h2:=get_len hV a
  simp only[load,List.map_cons,List.flatten_cons,List.length_append,List.length_cons]at h1 ⊢
  omega
end Sp
namespace Fw
open Go
inductive RunSeg (T:TypeId) (G:PH):Value→List (Int×Int)→Value→Prop
 | nil (v:Value):RunSeg T G v [] v
 | cons {b:Nat} {m x:Int} {v e:Value} {r:List (Int×Int)} (h:G b=some (cl [.int .i64 m,.int .i64 x,v] T)) (hm:inI m) (hx:inI x) (hr:RunSeg T G v r e):RunSeg T G (.pointer (some ⟨b,0,none⟩)) ((m,x)::r) e
theorem RunSeg.up {T:TypeId}{G G':PH}{v e:Value}{r:List (Int×Int)}(h:RunSeg T G v r e)(hle:PLe G G'):RunSeg T G' v r e:=by
 induction h with
 | nil v=>exact .nil v
 | cons h hm hx _ ih=>exact .cons (hle _ _ h) hm hx ih
theorem RunSeg.snoc {T:TypeId}{G:PH}{v:Value}{r:List (Int×Int)}{b:Nat}{m x:Int}{e:Value}(h:RunSeg T G v r (.pointer (some ⟨b,0,none⟩)))(hb:G b=some (cl [.int .i64 m,.int .i64 x,e] T))(hm:inI m)(hx:inI x):RunSeg T G v (r++[(m,x)]) e:=by
 generalize hp:Value.pointer (some ⟨b,0,none⟩)=p at h
 induction h with
 | nil v=>subst hp;exact .cons hb hm hx (.nil e)
 | cons h hm' hx' _ ih=>exact .cons h hm' hx' (ih hp)
def RunP (T:TypeId)(G:PH)(v:Value)(r:List (Int×Int)):Prop:=RunSeg T G v r (.pointer none)
theorem RunP.up {T:TypeId}{G G':PH}{v:Value}{r:List (Int×Int)}(h:RunP T G v r)(hle:PLe G G'):RunP T G' v r:=RunSeg.up h hle
theorem RunP.nil {T:TypeId}{G:PH}:RunP T G (.pointer none) []:=RunSeg.nil _
theorem RunP.open {T:TypeId}{G:PH}{v:Value}{r:List (Int×Int)}(h:RunP T G v r):(v= .pointer none∧r=[])∨∃b m x v' r',v= .pointer (some ⟨b,0,none⟩)∧r=(m,x)::r'∧G b=some (cl [.int .i64 m,.int .i64 x,v'] T)∧inI m∧inI x∧RunP T G v' r':=by
 unfold RunP at h
 cases h with
 | nil=>exact .inl ⟨rfl,rfl⟩
 | cons h hm hx hr=>exact .inr ⟨_,_,_,_,_,rfl,rfl,h,hm,hx,hr⟩
theorem RunP.row {T:TypeId}{G:PH}{b:Nat}{m x:Int}{v:Value}(h:G b=some (cl [.int .i64 m,.int .i64 x,v] T)):PRow G b 0 [.int .i64 m,.int .i64 x,v]:=by
 intro j u hu
 exact⟨_,_,_,h,by simpa using hu⟩
section
variable {P:Program} {n:Nat} {ops:Array Oper} {Q:Post} {rest:List Oper} {L:Slots} {ds:List Deferred} {w w0:World} {G0:PH} {S:List Nat} {G:PH} {B:List Res} {ty:TypeId} {ps:String} {af:Array Edge}
theorem RunP.shape {T:TypeId}{G:PH}{v:Value}{r:List (Int×Int)}(h:RunP T G v r):∃p,v= .pointer p:=by
 rcases h.open with ⟨rfl,_⟩|⟨b,m,x,v',r',rfl,_⟩<;>exact⟨_,rfl⟩
theorem RunP.over {T:TypeId}{G:PH}{p:Option Addr}{r:List (Int×Int)}(h:RunP T G (.pointer p) r)(hp:p.isNone=true):r=[]:=by
 rcases h.open with ⟨_,h2⟩|⟨b,m,x,v',r',h1,_⟩
 ·exact h2
 ·cases h1;simp at hp
end
section
variable {P:Program} {n:Nat} {ops:Array Oper} {Q:Post} {rest:List Oper} {L:Slots} {ds:List Deferred} {w:World} {ty:TypeId} {ps:String} {af:Array Edge}
end
theorem nrm:(∀(p:Prop) [Decidable p],(decide p=true)=p)∧(∀(p:Prop) [Decidable p],(decide p=false)↔¬p)∧(∀{b:Bool},((!b)=true)=(b=false))∧(∀{b:Bool},((!b)=false)=(b=true)) ∧
  (∀{a b:Bool},((!a)=b)↔(a= !b))∧((!true)=false)∧((!false)=true)∧(∀{a b:Int},(¬a<b)↔b≤a)∧(∀{a b:Int},(¬a≤b)↔b<a)∧(∀(x y:Bool),((x&&y)=true)=(x=true∧y=true))∧(∀(x y:Bool),((x||y)=true)=(x=true∨y=true)) ∧
  (∀(x y:Bool),((x&&y)=false)=(x=false∨y=false))∧(∀(x y:Bool),((x||y)=false)=(x=false∧y=false))∧(∀{α:Type} [BEq α] [LawfulBEq α] {a b:α},((a==b)=true)↔a=b)∧(∀{α:Type} [BEq α] [LawfulBEq α] {x y:α},((x==y)=false)↔x≠y)∧(∀(b:Bool),decide (b=true)=b):=by
 refine⟨?_,?_,?_,?_,?_,?_,?_,?_,?_,?_,?_,?_,?_,?_,?_,?_⟩<;>intros<;>first|rfl|(simp only[decide_eq_true_eq,decide_eq_false_iff_not,Bool.not_eq_true',Bool.not_eq_false',Bool.not_eq_eq_eq_not,Bool.not_true,Bool.not_false,Int.not_lt,Int.not_le,Bool.and_eq_true,Bool.or_eq_true,Bool.and_eq_false_iff,Bool.or_eq_false_iff,beq_iff_eq,beq_eq_false_iff_ne,Bool.decide_eq_true])|simp
section
variable {P:Program} {n:Nat} {Q:Post} {L:Slots} {ds:List Deferred} {w:World} {ops:Array Oper} {y c:Code} {id:Nat} {l:List Oper}
theorem q1 (h:R P n l.toArray (K P y Q) l L ds w):R P n ops (K P (.seq (.region id l.toArray false) y) Q) [] L ds w:=R_nil (N_K (W_seq (W_region h)))
theorem q2 (h:R P n l.toArray (K P y Q) l L ds w):W P n Q (.seq (.region id l.toArray false) y) L ds w:=W_seq (W_region h)
theorem q3 (h:W P n Q c L ds w):R P n ops (K P c Q) [] L ds w:=R_nil (N_K h)
variable {d:Nat} {op:Op} {ty:TypeId} {ps:String} {af:Array Edge} {S:World→Prop} {f:Nat} {ls:Array Bool} {v:Value} {j:Nat} {b:Bool}
def rdy (l:List Oper)(ls:Array Bool)(i:Nat):Bool:=Region.noSelect l.toArray&&Region.free .any l.toArray ls i&&(Region.ready .any l.toArray ls).contains i
theorem RD_t (i:Nat)(hi:nth l i=some ⟨some d,op,ty,ps,af,none⟩)(hb:rdy l ls i=true)(hd:Nat.blt d n=true)(hv:∀w,S w→VAL P n L ds w ⟨some d,op,ty,ps,af,none⟩ v)
  (h:RD P n l Q S f (ls.setIfInBounds i true) ((d,v)::L) ds w):RD P n l Q S (f+1) ls L ds w:=by
 simp only[rdy,Bool.and_eq_true]at hb
 exact RD_take i hi hb.1.1 hb.1.2 hb.2 hd hv h
theorem RD_tg (i:Nat)(hi:nth l i=some ⟨some d,op,ty,ps,af,some (j,b)⟩)(hb:rdy l ls i=true)(hd:Nat.blt d n=true)(hy:∀a,FrL n L ds a→yielded l.toArray a.tmps j=some b)(hv:∀w,S w→VAL P n L ds w ⟨some d,op,ty,ps,af,none⟩ v)
  (h:RD P n l Q S f (ls.setIfInBounds i true) ((d,v)::L) ds w):RD P n l Q S (f+1) ls L ds w:=by
 simp only[rdy,Bool.and_eq_true]at hb
 exact RD_takeg i hi hb.1.1 hb.1.2 hb.2 hd hy hv h
end
theorem Z.{u}{α:Sort u}{a:α}:a=a:=rfl
theorem kR {p:Prop}(h:p:=by kernel_rfl):p:=h
theorem oM {p:Prop}(h:p:=by omega):p:=h
theorem oO {a b:Prop}(h:(a∧b):=by exact⟨by omega,by omega⟩):a∧b:=h
theorem aN {p:Prop}(h:p:=by first|assumption|rfl|(simp;done)|(simp;omega)|omega):p:=h
def odl (n d:Nat)(L:Slots)(x:Operand):Option Value:=cond (Nat.blt d n) (od L x) none
theorem odl_some {n d:Nat}{L:Slots}{x:Operand}{v:Value}(h:odl n d L x=some v):Nat.blt d n=true∧od L x=some v:=by
 unfold odl at h
 cases e:Nat.blt d n with
 | true=>rw[e]at h;exact⟨rfl,h⟩
 | false=>rw[e]at h;cases h
def guardOk (l : List Oper) (L : Slots) (i : Nat) (c : Bool) : Bool := match gs l i with
 | some t=>(match lk L t with |some (.bool b)=>(b==c)|_=>false)
 | none=>false
section
variable {P:Program} {n:Nat} {Q:Post} {L:Slots} {ds:List Deferred} {w:World} {ops:Array Oper} {l rest:List Oper} {ty:TypeId} {ps:String} {af:Array Edge} {d:Nat} {x:Operand} {v:Value} {op:Op} {i:Nat} {b:Bool} {S:World→Prop} {f:Nat} {ls:Array Bool}
theorem mV (h:odl n d L x=some v)(next:R P n ops Q rest ((d,v)::L) ds w):R P n ops Q (⟨some d,.move x,ty,ps,af,none⟩::rest) L ds w:=o_move (odl_some h).1 (odl_some h).2 next
theorem aG (h:odl n d L x=some v)(next:R P n ops Q rest ((d,v)::L) ds w):R P n ops Q (⟨some d,.assign x,ty,ps,af,none⟩::rest) L ds w:=o_assign (odl_some h).1 (odl_some h).2 next
theorem gR {dd:Option Nat}(h:guardOk l L i b=true)(next:R P n l.toArray Q (⟨dd,op,ty,ps,af,none⟩::rest) L ds w):R P n l.toArray Q (⟨dd,op,ty,ps,af,some (i,b)⟩::rest) L ds w:=by
 unfold guardOk at h
 cases e:gs l i with
 | none=>rw[e]at h;cases h
 | some t =>
  rw[e]at h
  simp only at h
  split at h
  ·rename_i c e2
   obtain rfl:c=b:=by simpa using h
   exact R_guard (yl e e2) next
  ·cases h
end
section
variable {n:Nat} {P:Program} {Q:Post} {L:Slots} {ds:List Deferred} {w:World} {fn:Func} {C:Ending→World→Prop}
theorem rt1 {t:Nat}{v:Value}(hr:fn.results= #[.tmp t])(h:lk L t=some v)(hR:C (.returned (tupleOf [v])) w):N n (bodyPost P fn C) .ret L [] w:=ret_gen (rs:=[.tmp t]) (vs:=[v]) hr ⟨h,trivial⟩ hR
theorem rt2 {t t2:Nat}{v v2:Value}(hr:fn.results= #[.tmp t,.tmp t2])(h:lk L t=some v)(h2:lk L t2=some v2)(hR:C (.returned (tupleOf [v,v2])) w):N n (bodyPost P fn C) .ret L [] w:=ret_gen (rs:=[.tmp t,.tmp t2]) (vs:=[v,v2]) hr ⟨h,h2,trivial⟩ hR
theorem W_lp {c:Code}(Lf:Slots)(J:Slots→World→Nat→Prop)(M0:Slots)(m0:Nat)(hf:Sub Lf L)(h0:J M0 w m0)
  (round:∀M w m,J M w m→W P n (LP n ds Lf J m Q) c (M++Lf) ds w) (hM:Sub M0 L:=by repeat (first|exact Sub.nil|refine Sub.cons rfl ?_)):W P n Q (.loop c) L ds w:=W_loop Lf J M0 m0 hf hM h0 round
theorem N_lp {Lf:Slots}{J:Slots→World→Nat→Prop}{m:Nat}{M:Slots}{m':Nat}(hJ:J M w m')(hm:m'<m)(hM:Sub M L:=by repeat (first|exact Sub.nil|refine Sub.cons rfl ?_))(hf:Sub Lf L:=by repeat (first|exact Sub.nil|refine Sub.cons rfl ?_)):N n (LP n ds Lf J m Q) .normal L ds w:=N_LP hJ hM hf hm
end
class UL (P:Program) (t:TypeId) (u:outParam TypeDesc):Prop where h:P.underlying t=some u
class SZ (P:Program) (t:TypeId) (n:outParam Nat):Prop where h:∀w,(Go.sizeOf t).run P w= .ok n w
class AG (P:Program) (t:TypeId) (b:outParam Bool):Prop where h:∀w,(isAgg t).run P w= .ok b w
class FA (P:Program) (t:TypeId) (i:Nat) (o:outParam Nat):Prop where h:∃fields f sz,(∀w,(underlying t).run P w= .ok (.struct fields) w)∧fields[i]? = some f∧(∀w,(Go.sizeOf f.type).run P w= .ok (sz+1) w)∧Nat.beq f.offset o=true
class CF (P:Program) (f:FuncId):Prop where h:∀args w,(callFunc f args).run P w= .ok (.enter f args) w
class ZV (P:Program) (t:TypeId) (l:outParam (List Value)):Prop where h:∃zv,(∀w,(zeroValue t).run P w= .ok zv w)∧lit (vc zv)=some l
def evCmp (b : BinOp) (k k' : IntKind) (p q : Int) : Option Value := if k = k' then (match b with
 | .lss=>some (.bool (decide (p<q)))
 | .leq=>some (.bool (decide (p≤q)))
 | .gtr=>some (.bool (decide (q<p)))
 | .geq=>some (.bool (decide (q≤p)))
 | .eql=>some (.bool (decide (p=q)))
 | .neq=>some (.bool (!decide (p=q)))
 | _=>none) else none
def evOp (L:Slots):Op→Option Value
 | .move x=>od L x
 | .assign x=>od L x
 | .nilCheck x => match od L x with
  | some (.pointer (some p))=>some (.pointer (some p))
  | _=>none
 | .extract x i => match od L x with
  | some (.tuple vs)=>vs[i]?
  | _=>none
 | .unOp .not _ x => match od L x with
  | some (.bool p)=>some (.bool (!p))
  | _=>none
 | .pick c x y => match od L c with
  | some (.bool true)=>od L x
  | some (.bool false)=>od L y
  | _=>none
 | .binOp b _ x y _ => match od L x, od L y with
  | some (.int k p),some (.int k' q)=>evCmp b k k' p q
  | _,_=>none
 | _=>none
section
variable {P:Program} {n:Nat} {L:Slots} {ds:List Deferred} {w:World} {ty:TypeId} {ps:String} {af:Array Edge}
theorem evOp_val {d:Nat}{op:Op}{v:Value}(h:evOp L op=some v):VAL P n L ds w ⟨some d,op,ty,ps,af,none⟩ v:=by
 unfold evOp at h
 split at h
 ·exact v_move h
 ·exact v_assign h
 ·split at h
  ·rename_i x p e;cases h;exact v_nilCheck e
  ·cases h
 ·split at h
  ·rename_i x i vs e;exact v_extract e h
  ·cases h
 ·split at h
  ·rename_i x p e;cases h;exact v_not e
  ·cases h
 ·split at h
  ·rename_i e;exact v_pick_t e h
  ·rename_i e;exact v_pick_f e h
  ·cases h
 ·split at h
  ·rename_i b _ x y _ _ _ k p k' q e1 e2
   unfold evCmp at h
   split at h
   ·rename_i hk;subst hk
    split at h<;>first|(cases h;first|exact v_lss e1 e2|exact v_leq e1 e2|exact v_gtr e1 e2|exact v_geq e1 e2|exact v_eql e1 e2|exact v_neq e1 e2)|cases h
   ·cases h
  ·cases h
 ·cases h
def evG (ol:List Oper)(L:Slots)(op:Op):Option (Nat×Bool)→Option Value
 | none=>evOp L op
 | some (j, b) => match gs ol j with
  | some t => (match lk L t with
   | some (.bool c) => (match c, b with
    | true,true=>evOp L op
    | false,false=>evOp L op
    | _,_=>some undef)
   | _=>none)
  | none=>none
theorem evG_or {ol:List Oper}{op:Op}{g:Option (Nat×Bool)}{v:Value}(h:evG ol L op g=some v) :
  (g=none∧evOp L op=some v)∨(∃j b t,g=some (j,b)∧gs ol j=some t∧lk L t=some (.bool b)∧evOp L op=some v)∨(∃j b t c,g=some (j,b)∧gs ol j=some t∧lk L t=some (.bool c)∧(c==b)=false∧v=undef):=by
 unfold evG at h
 split at h
 ·exact .inl ⟨rfl,h⟩
 ·rename_i j b
  split at h
  ·rename_i t e1
   split at h
   ·rename_i c e2
    split at h
    ·exact .inr (.inl ⟨j,_,t,rfl,e1,e2,h⟩)
    ·exact .inr (.inl ⟨j,_,t,rfl,e1,e2,h⟩)
    ·rename_i h1 h2
     refine .inr (.inr ⟨j,b,t,c,rfl,e1,e2,?_,by cases h;rfl⟩)
     cases c<;>cases b<;>simp_all
   ·cases h
  ·cases h
def evO (n : Nat) (ol : List Oper) (L : Slots) (o : Oper) : Option Slots := match o.dst with
 | some d => (match Nat.blt d n, evG ol L o.op o.guard with
  | true,some v=>some ((d,v)::L)
  | _,_=>none)
 | none=>none
def evK (n:Nat)(ol:List Oper):Nat→List Oper→Slots→Option (List Oper×Slots)
 | 0,l,L=>some (l,L)
 | _+1,[],_=>none
 | k + 1, o :: r, L => match evO n ol L o with
  | some L'=>evK n ol k r L'
  | none=>none
variable {ol:List Oper} {Q:Post} {rest:List Oper}
theorem evO_R {o:Oper}{L':Slots}(h:evO n ol L o=some L')(next:R P n ol.toArray Q rest L' ds w):R P n ol.toArray Q (o::rest) L ds w:=by
 obtain⟨dst,op,ty,ps,af,g⟩:=o
 unfold evO at h
 simp only at h
 split at h
 ·rename_i d
  split at h
  ·rename_i v hd hv
   cases h
   rcases evG_or hv with ⟨rfl,h1⟩|⟨j,b,t,rfl,h1,h2,h3⟩|⟨j,b,t,c,rfl,h1,h2,h3,rfl⟩
   ·exact R_run hd (evOp_val h1) next
   ·exact R_guard (yl h1 h2) (R_run hd (evOp_val h3) next)
   ·exact R_pass hd (yl_ne h1 h2 h3) next
  ·cases h
 ·cases h
theorem pe (k:Nat){l:List Oper}{L':Slots}(h:evK n ol k l L=some (rest,L'))(next:R P n ol.toArray Q rest L' ds w):R P n ol.toArray Q l L ds w:=by
 induction k generalizing l L with
 | zero=>unfold evK at h;cases h;exact next
 | succ k ih =>
  cases l with
  | nil=>unfold evK at h;cases h
  | cons o r =>
   unfold evK at h
   split at h
   ·rename_i L1 h1
    exact evO_R h1 (ih h)
   ·cases h
end
theorem Z2.{u,v}{α:Sort u}{β:Sort v}{a:α}{b:β}:a=a∧b=b:=⟨rfl,rfl⟩
theorem Z3.{u,v,x}{α:Sort u}{β:Sort v}{γ:Sort x}{a:α}{b:β}{c:γ}:a=a∧b=b∧c=c:=⟨rfl,rfl,rfl⟩
theorem Z4.{u,v,x,y}{α:Sort u}{β:Sort v}{γ:Sort x}{δ:Sort y}{a:α}{b:β}{c:γ}{d:δ}:a=a∧b=b∧c=c∧d=d:=⟨rfl,rfl,rfl,rfl⟩
theorem Z7 {α1 α2 α3 α4 α5 α6 α7:Type}{a1:α1}{a2:α2}{a3:α3}{a4:α4}{a5:α5}{a6:α6}{a7:α7}:a1=a1∧a2=a2∧a3=a3∧a4=a4∧a5=a5∧a6=a6∧a7=a7:=⟨rfl,rfl,rfl,rfl,rfl,rfl,rfl⟩
theorem Z8 {α1 α2 α3 α4 α5 α6 α7 α8:Type}{a1:α1}{a2:α2}{a3:α3}{a4:α4}{a5:α5}{a6:α6}{a7:α7}{a8:α8}:a1=a1∧a2=a2∧a3=a3∧a4=a4∧a5=a5∧a6=a6∧a7=a7∧a8=a8:=⟨rfl,rfl,rfl,rfl,rfl,rfl,rfl,rfl⟩
section
variable {P:Program} {n:Nat} {ops:Array Oper} {Q:Post} {rest:List Oper} {L:Slots} {ds:List Deferred} {w w0:World} {G0:PH} {S:List Nat} {G:PH} {B:List Res} {ty:TypeId} {ps:String} {af:Array Edge}
theorem fA (off:Nat){d i:Nat}{t:TypeId}{x:Operand}{b o:Nat}(h:odl n d L x=some (.pointer (some ⟨b,o,none⟩)))(next:R P n ops Q rest ((d,.pointer (some ⟨b,o+off,none⟩))::L) ds w) [hF:FA P t i off]:R P n ops Q (⟨some d,.fieldAddr t x i,ty,ps,af,none⟩::rest) L ds w:=by
 obtain⟨fields,f,sz,h1,h2,h3,h4⟩:=hF.h
 exact o_fieldAddr off h1 h2 h3 h4 (odl_some h).1 (odl_some h).2 next
theorem lB (k:Nat)(H:Hp w0 G0 S w G B){d:Nat}{t:TypeId}{x:Operand}{b o:Nat}{l:List Value}{e:TypeId}{v:Value}(h:odl n d L x=some (.pointer (some ⟨b,o,none⟩))∧nth B k=some (blk b (cl l e))∧nth l o=some v)(next:R P n ops Q rest ((d,v)::L) ds w) [hA:AG P t false]:R P n ops Q (⟨some d,.load t x,ty,ps,af,none⟩::rest) L ds w :=
 o_load_B k H hA.h (odl_some h.1).1 (odl_some h.1).2 h.2.1 h.2.2 next
theorem lA (k sz:Nat)(H:Hp w0 G0 S w G B){d:Nat}{t:TypeId}{x:Operand}{b o:Nat}{l l':List Value}{e:TypeId}(h:odl n d L x=some (.pointer (some ⟨b,o,none⟩))∧nth B k=some (blk b (cl l e))∧lit (slc l o sz)=some l'∧Nat.beq l'.length sz=true)(next:R P n ops Q rest ((d,.agg l'.toArray)::L) ds w) [hA:AG P t true] [hS:SZ P t sz]:R P n ops Q (⟨some d,.load t x,ty,ps,af,none⟩::rest) L ds w :=
 o_loadagg_B k H hA.h hS.h (odl_some h.1).1 (odl_some h.1).2 h.2.1 h.2.2.1 h.2.2.2 next
theorem lP (H:Hp w0 G0 S w G B){b o:Nat}{l:List Value}(hr:PRow G b o l)(j:Nat){d:Nat}{t:TypeId}{x:Operand}{v:Value}(h:nth l j=some v∧odl n d L x=some (.pointer (some ⟨b,o+j,none⟩)))(next:R P n ops Q rest ((d,v)::L) ds w) [hA:AG P t false]:R P n ops Q (⟨some d,.load t x,ty,ps,af,none⟩::rest) L ds w :=
 o_load_P H hA.h (odl_some h.2).1 (odl_some h.2).2 (hr j v (by rw[←nth_eq];exact h.1)) next
theorem lN {d:Nat}{x:Operand}{t e:TypeId}{a:Option Addr}{m c:Nat}(h:odl n d L x=some (.slice a m c))(next:R P n ops Q rest ((d,.int .i64 m)::L) ds w) [hT:UL P t (.slice e)]:R P n ops Q (⟨some d,.call ⟨.builtin .len,#[x],#[t]⟩,ty,ps,af,none⟩::rest) L ds w:=o_len_slice hT.h (odl_some h).1 (odl_some h).2 next
theorem lS {d:Nat}{x:Operand}{t:TypeId}{p:List UInt8}(h:odl n d L x=some (str p))(next:R P n ops Q rest ((d,.int .i64 p.length)::L) ds w) [hT:UL P t .string]:R P n ops Q (⟨some d,.call ⟨.builtin .len,#[x],#[t]⟩,ty,ps,af,none⟩::rest) L ds w:=o_len_str hT.h (odl_some h).1 (odl_some h).2 next
theorem aD {d:Nat}{x y:Operand}{t u:TypeId}{p q:Int}(h:odl n d L x=some (.int .i64 p)∧od L y=some (.int .i64 q))(next:R P n ops Q rest ((d,.int .i64 (p+q))::L) ds w)(hr:inI (p+q):=by exact⟨by omega,by omega⟩):R P n ops Q (⟨some d,.binOp .add t x y u,ty,ps,af,none⟩::rest) L ds w:=o_add (odl_some h.1).1 (odl_some h.1).2 h.2 hr next
theorem iP {α:Type}{lim:Nat}{E:PH→α→List Value→Prop}{d:Nat}{t e:TypeId}{x y:Operand}{a:Option Addr}{xs:List α}{m c sz:Nat}{k:Int}(i:Nat)(hr:RdS lim E sz G (.slice a m c) xs)(h:Nat.blt d n=true∧od L x=some (.slice a m c)∧od L y=some (.int .i64 k))(hk:k=(i:Int))
  (next:∀b o z cs,xs[i]? = some z→E G z cs→PRow G b o cs→R P n ops Q rest ((d,.pointer (some ⟨b,o,none⟩))::L) ds w) [hU:UL P t (.slice e)] [hS:SZ P e sz] (hi:i<xs.length:=by first|omega|(simp;omega)):R P n ops Q (⟨some d,.indexAddr t x y,ty,ps,af,none⟩::rest) L ds w :=
 o_index_P i hr hU.h hS.h h.1 h.2.1 h.2.2 hk hi next
theorem xal (H:Hp w0 G0 S w G B){d:Nat}{e:TypeId}{l:List Value} [hz:ZV P e l] (hd:Nat.blt d n=true)
  (next:∀b w',w.heap.size≤b→Hp w0 G0 S w' G (blk b (cl l e)::B)→R P n ops Q rest ((d,.pointer (some ⟨b,0,none⟩))::L) ds w'):R P n ops Q (⟨some d,.alloc e,ty,ps,af,none⟩::rest) L ds w:=by
 obtain⟨zv,h1,h2⟩:=hz.h
 exact o_alloc H h1 hd h2 next
theorem xst (k : Nat) (H : Hp w0 G0 S w G B) {t : TypeId} {x y : Operand} {b o sz : Nat} {l : List Value} {e : TypeId} {v : Value} [hS : SZ P t sz] {l' : List Value} {B' : List Res} (h : od L x = some (.pointer (some ⟨b, o, none⟩)) ∧ od L y = some v ∧ nth B k = some (blk b (cl l e)) ∧ Nat.beq (vc v).length sz = true ∧ Nat.ble (o + (vc v).length) l.length = true ∧ ((vc v).all fun u => u.oneCell') = true ∧ lit (setCs l o (vc v)) = some l' ∧ lit (setN B k (blk b (cl l' e))) = some B')
  (next:∀w',Hp w0 G0 S w' G B'→R P n ops Q rest L ds w'):R P n ops Q (⟨none,.store t x y,ty,ps,af,none⟩::rest) L ds w:=by
 obtain⟨h1,h2,h3,h4,h5,h6,h7,h8⟩:=h
 exact o_store_B k H hS.h h1 h2 h3 h4 h5 h6 h7 h8 next
theorem xbs (H:Hp w0 G0 S w G B){d:Nat}{t e:TypeId}{m sz:Nat}{xs:List (Nat×Operand)}{pvs:List (Nat×Value)}{z l':List Value} [hU:UL P t (.slice e)] [hS:SZ P e sz] [hz:ZV P e z]
  (h:Nat.beq z.length sz=true∧Nat.blt 0 sz=true∧Nat.ble (m*sz) 16777216=true∧Nat.blt d n=true∧odps L xs=some pvs∧(pvs.all fun x=>Nat.blt x.1 m)=true∧(fillL (plS m 0 sz) (rep m z) pvs).bind lit=some l')
  (next:∀b w',w.heap.size≤b→Hp w0 G0 S w' G (blk b (cl l' e)::B)→R P n ops Q rest ((d,.slice (some ⟨b,0,none⟩) m m)::L) ds w'):R P n ops Q (⟨some d,.buildSlice t m xs.toArray,ty,ps,af,none⟩::rest) L ds w:=by
 obtain⟨zv,g1,g2⟩:=hz.h
 obtain⟨h1,h2,h3,h4,h5,h6,h7⟩:=h
 exact o_buildSlice H hU.h hS.h (fun w=>⟨zv,g1 w,(lit_eq g2).symm⟩) h1 h2 h3 h4 h5 h6 h7 next
theorem xr {d:Nat}{f:FuncId}{xs:List Operand}{ts:Array TypeId}{vs:List Value}{v:Value}(H:Hp w0 G0 S w G B)(h:Nat.blt d n=true∧ods L xs=some vs)(hc:Calls P f vs.toArray w (Rets w v))
  (next:∀w',Hp w0 G0 S w' G B→R P n ops Q rest ((d,v)::L) ds w') [hf:CF P f]:R P n ops Q (⟨some d,.call ⟨.value (.func f),xs.toArray,ts⟩,ty,ps,af,none⟩::rest) L ds w :=
 o_call hf.h h.1 h.2 hc (fun e w' h=>⟨v,h.1,next w' (H.step h.2)⟩)
theorem xc {d:Nat}{f:FuncId}{xs:List Operand}{ts:Array TypeId}{vs:List Value}{C:Ending→World→Prop}(h:Nat.blt d n=true∧ods L xs=some vs)(hc:Calls P f vs.toArray w C)(next:∀e w',C e w'→∃v,e= .returned v∧R P n ops Q rest ((d,v)::L) ds w') [hf:CF P f] :
  R P n ops Q (⟨some d,.call ⟨.value (.func f),xs.toArray,ts⟩,ty,ps,af,none⟩::rest) L ds w:=o_call hf.h h.1 h.2 hc next
variable {l:List Oper} {K:World→Prop} {f:Nat} {ls:Array Bool} {G':PH} {B' Bs:List Res}
theorem q4 {i : Nat} (H : Hp w0 G0 S w G' B') (hle : PLe G G') (h : RD P n l Q (fun w => Kn w G Bs) f (ls.setIfInBounds i true) L ds w)
  (hs:SubL Bs B':=by repeat (first|exact SubL.nil|refine SubL.cons 0 rfl ?_|refine SubL.cons 1 rfl ?_|refine SubL.cons 2 rfl ?_|refine SubL.cons 3 rfl ?_|refine SubL.cons 4 rfl ?_|refine SubL.cons 5 rfl ?_|refine SubL.cons 6 rfl ?_|refine SubL.cons 7 rfl ?_|refine SubL.cons 8 rfl ?_|refine SubL.cons 9 rfl ?_|refine SubL.cons 10 rfl ?_|refine SubL.cons 11 rfl ?_|refine SubL.cons 12 rfl ?_|refine SubL.cons 13 rfl ?_|refine SubL.cons 14 rfl ?_|refine SubL.cons 15 rfl ?_|refine SubL.cons 16 rfl ?_|refine SubL.cons 17 rfl ?_|refine SubL.cons 18 rfl ?_|refine SubL.cons 19 rfl ?_|refine SubL.cons 20 rfl ?_|refine SubL.cons 21 rfl ?_|refine SubL.cons 22 rfl ?_|refine SubL.cons 23 rfl ?_|refine SubL.cons 24 rfl ?_|refine SubL.cons 25 rfl ?_|refine SubL.cons 26 rfl ?_)) :
  R P n ops (DK P l Q (fun w=>Kn w G Bs) f ls i) [] L ds w:=R_nil (N_DK (Kn.of' H hle hs) h)
theorem r1 (i:Nat){o:Oper}(hi:nth l i=some o)(h:R P n l.toArray (DK P l Q K f ls i) [o] L ds w)(hr:Region.ready .any l.toArray ls=[i]:=by kernel_rfl):RD P n l Q K (f+1) ls L ds w:=RD_run [i] hr rfl (RDs.cons hi h RDs.nil)
theorem r2 (i j:Nat){o o':Oper}(hi:nth l i=some o∧nth l j=some o')(h:R P n l.toArray (DK P l Q K f ls i) [o] L ds w)(h':R P n l.toArray (DK P l Q K f ls j) [o'] L ds w)(hr:Region.ready .any l.toArray ls=[i,j]:=by kernel_rfl):RD P n l Q K (f+1) ls L ds w:=RD_run [i,j] hr rfl (RDs.cons hi.1 h (RDs.cons hi.2 h' RDs.nil))
theorem rz (h:N n Q .normal L ds w)(hr:Region.ready .any l.toArray ls=[]:=by kernel_rfl):RD P n l Q K f ls L ds w:=RD_done hr h
def gOK (l:List Oper)(L:Slots):Option (Nat×Bool)→Bool
 | none=>true
 | some (j,b)=>guardOk l L j b
def odg (n d:Nat)(l:List Oper)(L:Slots)(g:Option (Nat×Bool))(x:Operand):Option Value:=cond (Nat.blt d n&&gOK l L g) (od L x) none
theorem odg_some {n d:Nat}{l:List Oper}{L:Slots}{g:Option (Nat×Bool)}{x:Operand}{v:Value}(h:odg n d l L g x=some v):Nat.blt d n=true∧gOK l L g=true∧od L x=some v:=by
 unfold odg at h
 cases e:(Nat.blt d n&&gOK l L g) with
 | true=>rw[e]at h;simp only[Bool.and_eq_true]at e;exact⟨e.1,e.2,h⟩
 | false=>rw[e]at h;cases h
theorem RD_gv {i d:Nat}{op:Op}{g:Option (Nat×Bool)}{v:Value}(hi:nth l i=some ⟨some d,op,ty,ps,af,g⟩)(hd:Nat.blt d n=true)(hg:gOK l L g=true)(hv:∀w,K w→VAL P n L ds w ⟨some d,op,ty,ps,af,none⟩ v)(h:RD P n l Q K f (ls.setIfInBounds i true) ((d,v)::L) ds w)(hb:rdy l ls i=true):RD P n l Q K (f+1) ls L ds w:=by
 cases g with
 | none=>exact RD_t i hi hb hd hv h
 | some jb =>
  obtain⟨j,b⟩:=jb
  unfold gOK guardOk at hg
  simp only at hg
  split at hg
  ·rename_i t e
   split at hg
   ·rename_i c e2
    obtain rfl:c=b:=by simpa using hg
    exact RD_tg i hi hb hd (yl e e2) hv h
   ·cases hg
  ·cases hg
theorem dE (i : Nat) {d : Nat} {op : Op} {g : Option (Nat × Bool)} {v : Value} (h : nth l i = some ⟨some d, op, ty, ps, af, g⟩ ∧ cond (Nat.blt d n) (evG l L op g) none = some v) (next : RD P n l Q K f (ls.setIfInBounds i true) ((d, v) :: L) ds w) (hb : rdy l ls i = true := by kernel_rfl) : RD P n l Q K (f + 1) ls L ds w := by
 obtain⟨hi,he⟩:=h
 have hd:Nat.blt d n=true:=by
  cases e:Nat.blt d n with
  | true=>rfl
  | false=>rw[e]at he;cases he
 rw[hd]at he
 rcases evG_or he with ⟨rfl,h1⟩|⟨j,b,t,rfl,h1,h2,h3⟩|⟨j,b,t,c,rfl,h1,h2,h3,rfl⟩
 ·exact RD_t i hi hb hd (fun _ _=>evOp_val h1) next
 ·exact RD_tg i hi hb hd (yl h1 h2) (fun _ _=>evOp_val h3) next
 ·simp only[rdy,Bool.and_eq_true]at hb
  exact RD_pass i hi hb.1.1 hb.1.2 hb.2 hd (yl_ne h1 h2 h3) next
theorem dF (i off : Nat) {d k : Nat} {t : TypeId} {x : Operand} {g : Option (Nat × Bool)} {b o : Nat} (h : nth l i = some ⟨some d, .fieldAddr t x k, ty, ps, af, g⟩ ∧ odg n d l L g x = some (.pointer (some ⟨b, o, none⟩))) (next : RD P n l Q K f (ls.setIfInBounds i true) ((d, .pointer (some ⟨b, o + off, none⟩)) :: L) ds w) [hF : FA P t k off] (hb : rdy l ls i = true := by kernel_rfl) : RD P n l Q K (f + 1) ls L ds w := by
 obtain⟨h1,h2,h3⟩:=odg_some h.2
 obtain⟨fields,f,sz,g1,g2,g3,g4⟩:=hF.h
 exact RD_gv h.1 h1 h2 (fun _ _=>v_fieldAddr off g1 g2 g3 g4 h3) next hb
theorem dN (i : Nat) {d : Nat} {t e : TypeId} {x : Operand} {g : Option (Nat × Bool)} {a : Option Addr} {m c : Nat} (h : nth l i = some ⟨some d, .call ⟨.builtin .len, #[x], #[t]⟩, ty, ps, af, g⟩ ∧ odg n d l L g x = some (.slice a m c)) (next : RD P n l Q K f (ls.setIfInBounds i true) ((d, .int .i64 m) :: L) ds w) [hT : UL P t (.slice e)] (hb : rdy l ls i = true := by kernel_rfl) : RD P n l Q K (f + 1) ls L ds w := by
 obtain⟨h1,h2,h3⟩:=odg_some h.2
 exact RD_gv h.1 h1 h2 (fun _ _=>v_len_slice hT.h h3) next hb
theorem dI {b o : Nat} {a : Option Addr} (i sz j : Nat) (ha : a = some ⟨b, o, none⟩) {d : Nat} {t e : TypeId} {x y : Operand} {g : Option (Nat × Bool)} {m c : Nat} {k : Int} (h : nth l i = some ⟨some d, .indexAddr t x y, ty, ps, af, g⟩ ∧ odg n d l L g x = some (.slice a m c) ∧ od L y = some (.int .i64 k)) (hk : k = (j : Int)) (next : RD P n l Q K f (ls.setIfInBounds i true) ((d, .pointer (some ⟨b, o + j * sz, none⟩)) :: L) ds w) [hU : UL P t (.slice e)] [hS : SZ P e sz] (hi : j < m := by omega) (hb : rdy l ls i = true := by kernel_rfl) : RD P n l Q K (f + 1) ls L ds w := by
 obtain⟨h1,h2,h3⟩:=odg_some h.2.1
 exact RD_gv h.1 h1 h2 (fun _ _=>v_index_P ha hU.h hS.h h3 h.2.2 hk hi) next hb
theorem dP {b o : Nat} {cl : List Value} (i : Nat) (hr : PRow G b o cl) (j : Nat) {d : Nat} {t : TypeId} {x : Operand} {g : Option (Nat × Bool)} {v : Value} (h : nth l i = some ⟨some d, .load t x, ty, ps, af, g⟩ ∧ nth cl j = some v ∧ odg n d l L g x = some (.pointer (some ⟨b, o + j, none⟩))) (next : RD P n l Q (fun w => Kn w G Bs) f (ls.setIfInBounds i true) ((d, v) :: L) ds w) [hA : AG P t false] (hb : rdy l ls i = true := by kernel_rfl) : RD P n l Q (fun w => Kn w G Bs) (f + 1) ls L ds w := by
 obtain⟨h1,h2,h3⟩:=odg_some h.2.2
 exact RD_gv h.1 h1 h2 (fun _ hK=>v_load_P hK hA.h h3 (hr j v (by rw[←nth_eq];exact h.2.1))) next hb
theorem dB (i k : Nat) {d : Nat} {t : TypeId} {x : Operand} {g : Option (Nat × Bool)} {b o : Nat} {c : List Value} {e : TypeId} {v : Value} (h : nth l i = some ⟨some d, .load t x, ty, ps, af, g⟩ ∧ odg n d l L g x = some (.pointer (some ⟨b, o, none⟩)) ∧ nth Bs k = some (blk b (Fw.cl c e)) ∧ nth c o = some v) (next : RD P n l Q (fun w => Kn w G Bs) f (ls.setIfInBounds i true) ((d, v) :: L) ds w) [hA : AG P t false] (hb : rdy l ls i = true := by kernel_rfl) : RD P n l Q (fun w => Kn w G Bs) (f + 1) ls L ds w := by
 obtain⟨h1,h2,h3⟩:=odg_some h.2.1
 exact RD_gv h.1 h1 h2 (fun _ hK=>v_load_B k hK hA.h h3 h.2.2.1 h.2.2.2) next hb
end
theorem Hp.tF {w0 w:World}{G0 G:PH}{S:List Nat}{B:List Res}(H:Hp w0 G0 S w G B)(k:Nat){r:Res}(hk:nth B k=some r:=by exact rfl):Hp w0 G0 S w G (r::delN B k):=H.toFront hk
theorem Hp.dl {w0 w:World}{G0 G:PH}{S:List Nat}{B:List Res}(H:Hp w0 G0 S w G B)(k:Nat){r:Res}(hk:nth B k=some r:=by exact rfl):Hp w0 G0 S w G (delN B k):=H.del hk
theorem opH {G:PH}{x:BHeld}{cs:List Value}(h:heldE G x cs):∃a m c,cs=[.int .i64 x.id,.slice a m c,.int .i64 x.uses]∧inI x.id∧RdI G (.slice a m c) x.bytes∧inI x.uses∧m=x.bytes.length∧x.bytes.length≤1099511627776:=by
 obtain⟨a,m,c,e,h1,h2,h3⟩:=h
 exact⟨a,m,c,e,h1,h2,h3,h2.len,h2.lim⟩
theorem opI {G:PH}{x:BItem}{cs:List Value}(h:itemE G x cs):∃a m c,cs=[str x.path,.bool x.dir,.slice a m c]∧x.path.length≤16777216∧RdI G (.slice a m c) x.ids∧m=x.ids.length∧x.ids.length≤1099511627776:=by
 obtain⟨a,m,c,e,h1,h2⟩:=h
 exact⟨a,m,c,e,h1,h2,h2.len,h2.lim⟩
theorem opS {G:PH}{x:BSnap}{cs:List Value}(h:snapE G x cs):∃a m c,cs=[str x.name,.slice a m c]∧x.name.length≤16777216∧RdItems G (.slice a m c) x.tree∧m=x.tree.length∧x.tree.length≤1099511627776:=by
 obtain⟨a,m,c,e,h1,h2⟩:=h
 exact⟨a,m,c,e,h1,h2,h2.len,h2.lim⟩
theorem opD {G:PH}{x:BDisk}{cs:List Value}(h:diskE G x cs):∃a m c a' m' c' a'' m'' c'',cs=[.slice a m c,.slice a' m' c',.slice a'' m'' c'']∧RdH G (.slice a m c) x.store∧RdItems G (.slice a' m' c') x.tree∧RdSn G (.slice a'' m'' c'') x.snaps∧(m=x.store.length∧x.store.length≤1099511627776)∧(m'=x.tree.length∧x.tree.length≤1099511627776)∧m''=x.snaps.length∧x.snaps.length≤1099511627776:=by
 obtain⟨a,m,c,a',m',c',a'',m'',c'',e,h1,h2,h3⟩:=h
 exact⟨a,m,c,a',m',c',a'',m'',c'',e,h1,h2,h3,⟨h1.len,h1.lim⟩,⟨h2.len,h2.lim⟩,h3.len,h3.lim⟩
theorem opV {G:PH}{x:BVol}{cs:List Value}(h:volE G x cs):∃a m c a' m' c',cs=[.slice a m c,.slice a' m' c']∧RdH G (.slice a m c) x.store∧RdItems G (.slice a' m' c') x.tree∧(m=x.store.length∧x.store.length≤1099511627776)∧m'=x.tree.length∧x.tree.length≤1099511627776:=by
 obtain⟨a,m,c,a',m',c',e,h1,h2⟩:=h
 exact⟨a,m,c,a',m',c',e,h1,h2,⟨h1.len,h1.lim⟩,h2.len,h2.lim⟩
class OpE {α:Type} (E:PH→α→List Value→Prop) (R:outParam (PH→α→List Value→Prop)):Prop where op:∀{G x cs},E G x cs→R G x cs
theorem ox {α:Type}{E R:PH→α→List Value→Prop}{G:PH}{x:α}{cs:List Value}(h:E G x cs) [i:OpE E R]:R G x cs:=i.op h
instance:OpE heldE (fun G (x:BHeld) cs=>∃a m c,cs=[.int .i64 x.id,.slice a m c,.int .i64 x.uses]∧inI x.id∧RdI G (.slice a m c) x.bytes∧inI x.uses∧m=x.bytes.length∧x.bytes.length≤1099511627776):=⟨opH⟩
instance:OpE itemE (fun G (x:BItem) cs=>∃a m c,cs=[str x.path,.bool x.dir,.slice a m c]∧x.path.length≤16777216∧RdI G (.slice a m c) x.ids∧m=x.ids.length∧x.ids.length≤1099511627776):=⟨opI⟩
instance:OpE snapE (fun G (x:BSnap) cs=>∃a m c,cs=[str x.name,.slice a m c]∧x.name.length≤16777216∧RdItems G (.slice a m c) x.tree∧m=x.tree.length∧x.tree.length≤1099511627776):=⟨opS⟩
instance:OpE volE (fun G (x:BVol) cs=>∃a m c a' m' c',cs=[.slice a m c,.slice a' m' c']∧RdH G (.slice a m c) x.store∧RdItems G (.slice a' m' c') x.tree∧(m=x.store.length∧x.store.length≤1099511627776)∧m'=x.tree.length∧x.tree.length≤1099511627776):=⟨opV⟩
instance:OpE diskE (fun G (x:BDisk) cs=>∃a m c a' m' c' a'' m'' c'',cs=[.slice a m c,.slice a' m' c',.slice a'' m'' c'']∧RdH G (.slice a m c) x.store∧RdItems G (.slice a' m' c') x.tree∧RdSn G (.slice a'' m'' c'') x.snaps∧(m=x.store.length∧x.store.length≤1099511627776)∧(m'=x.tree.length∧x.tree.length≤1099511627776)∧m''=x.snaps.length∧x.snaps.length≤1099511627776):=⟨opD⟩
def quotaE:PH→BQuota→List Value→Prop:=fun _ x cs=>cs=[str x.dir,.int .i64 x.most]∧x.dir.length≤16777216∧inI x.most
instance:MonoE quotaE:=⟨fun _ h=>h⟩
theorem rl2 {a b:Value}{cs':List Value}(h:RL [a,b] cs'):∃u v,cs'=[u,v]∧R1 a u∧R1 b v:=by
 rcases cs' with _|⟨u,_|⟨v,_|⟨w,r⟩⟩⟩
 ·exact h.elim
 ·exact h.2.elim
 ·exact⟨u,v,rfl,h.1,h.2.1⟩
 ·exact h.2.2.elim
instance : StE quotaE := ⟨fun {_ _ x cs cs'} hg hr h => by
 obtain⟨rfl,h1,h2⟩:=h
 obtain⟨u,v,rfl,k1,k2⟩:=rl2 hr
 obtain rfl:=r1_str k1
 obtain⟨p,rfl,hp⟩:=r1_int k2 h2
 exact⟨⟨x.dir,p⟩,rfl,h1,hp⟩⟩
def opE:PH→BOp→List Value→Prop:=fun G x cs=>∃a m c,cs=[.int .i64 x.kind,str x.path,.slice a m c]∧inI x.kind∧x.path.length≤16777216∧RdI G (.slice a m c) x.bytes
instance:MonoE opE:=⟨fun hle ⟨a,m,c,h1,h2,h3,h4⟩=>⟨a,m,c,h1,h2,h3,h4.up hle⟩⟩
abbrev RdOp:=RdS LIM opE 3
instance : StE opE := ⟨fun {_ _ x cs cs'} hg hr h => by
 obtain⟨a,m,c,rfl,h1,h2,h3⟩:=h
 obtain⟨u,v,w,rfl,k1,k2,k3⟩:=rl3 hr
 obtain⟨p,rfl,hp⟩:=r1_int k1 h1
 obtain rfl:=r1_str k2
 obtain rfl:=r1_slice k3
 obtain⟨ys,_,hy⟩:=h3.st hg
 exact⟨⟨p,x.path,ys⟩,a,m,c,rfl,hp,h2,hy⟩⟩
def partE:PH→BPart→List Value→Prop:=fun G x cs=>∃a m c,cs=[.int .i64 x.kind,str x.path,.bool x.dir,.slice a m c]∧inI x.kind∧x.path.length≤16777216∧RdI G (.slice a m c) x.bytes
instance:MonoE partE:=⟨fun hle ⟨a,m,c,h1,h2,h3,h4⟩=>⟨a,m,c,h1,h2,h3,h4.up hle⟩⟩
abbrev RdPart:=RdS LIM partE 4
theorem rl4 {a b c d:Value}{cs':List Value}(h:RL [a,b,c,d] cs'):∃u v w z,cs'=[u,v,w,z]∧R1 a u∧R1 b v∧R1 c w∧R1 d z:=by
 rcases cs' with _|⟨u,r⟩
 ·exact h.elim
 ·obtain⟨v,w,z,rfl,k⟩:=rl3 h.2
  exact⟨u,v,w,z,rfl,h.1,k⟩
instance : StE partE := ⟨fun {_ _ x cs cs'} hg hr h => by
 obtain⟨a,m,c,rfl,h1,h2,h3⟩:=h
 obtain⟨u,v,w,z,rfl,k1,k2,k3,k4⟩:=rl4 hr
 obtain⟨p,rfl,hp⟩:=r1_int k1 h1
 obtain rfl:=r1_str k2
 obtain rfl:=r1_bool k3
 obtain rfl:=r1_slice k4
 obtain⟨ys,_,hy⟩:=h3.st hg
 exact⟨⟨p,x.path,x.dir,ys⟩,a,m,c,rfl,hp,h2,hy⟩⟩
theorem opOp {G:PH}{x:BOp}{cs:List Value}(h:opE G x cs):∃a m c,cs=[.int .i64 x.kind,str x.path,.slice a m c]∧inI x.kind∧x.path.length≤16777216∧RdI G (.slice a m c) x.bytes∧m=x.bytes.length∧x.bytes.length≤1099511627776:=by
 obtain⟨a,m,c,rfl,h1,h2,h3⟩:=h
 exact⟨a,m,c,rfl,h1,h2,h3,h3.len,h3.lim⟩
instance:OpE opE (fun G (x:BOp) cs=>∃a m c,cs=[.int .i64 x.kind,str x.path,.slice a m c]∧inI x.kind∧x.path.length≤16777216∧RdI G (.slice a m c) x.bytes∧m=x.bytes.length∧x.bytes.length≤1099511627776):=⟨opOp⟩
theorem opPt {G:PH}{x:BPart}{cs:List Value}(h:partE G x cs):∃a m c,cs=[.int .i64 x.kind,str x.path,.bool x.dir,.slice a m c]∧inI x.kind∧x.path.length≤16777216∧RdI G (.slice a m c) x.bytes∧m=x.bytes.length∧x.bytes.length≤1099511627776:=by
 obtain⟨a,m,c,rfl,h1,h2,h3⟩:=h
 exact⟨a,m,c,rfl,h1,h2,h3,h3.len,h3.lim⟩
instance:OpE partE (fun G (x:BPart) cs=>∃a m c,cs=[.int .i64 x.kind,str x.path,.bool x.dir,.slice a m c]∧inI x.kind∧x.path.length≤16777216∧RdI G (.slice a m c) x.bytes∧m=x.bytes.length∧x.bytes.length≤1099511627776):=⟨opPt⟩
end Fw
namespace Sp
open Fw Nd
section
variable {d:BDisk} {p:Bs}
theorem drop14 (hd:DiskValid d=true){i:Nat}{x:BItem}(hi:atI d.tree p=some i)(hx:d.tree[i]? = some x)(k:Int):l14Drop d ⟨k,p,x.dir,[]⟩=DiskDrop d p:=by
 obtain⟨y,h1,h2⟩:=(uniq_at (dv_tree hd).asc (p:=p)).1 i hi
 rw[hx]at h1
 cases h1
 unfold l14Drop DiskDrop
 rw[if_pos hd,if_pos]
 simp only[decide_true,Bool.and_true,List.any_eq_true]
 exact⟨x,List.mem_of_getElem? hx,by simp[h2]⟩
theorem make14 (hd:DiskValid d=true)(h:atI d.tree p=none):l14Make d ⟨1,p,true,[]⟩=DiskDir d p:=by
 unfold l14Make DiskDir
 rw[if_pos (by simp[h]),if_pos rfl,if_pos rfl,if_pos hd]
end
section
variable {d:BDisk} {x:BPart}
theorem sdrop_at (h:atI d.tree x.path=none):l14Drop d x=none:=by
 unfold l14Drop
 split
 ·rename_i hc
  simp only[Bool.and_eq_true,List.any_eq_true,decide_eq_true_eq]at hc
  obtain⟨⟨y,hy,hp,_⟩,_⟩:=hc
  have:=List.findIdx?_eq_none_iff.1 h y hy
  simp[hp]at this
 ·rfl
theorem sdrop_dir (hd:DiskValid d=true){i:Nat}{y:BItem}(hi:atI d.tree x.path=some i)(hy:d.tree[i]? = some y)(hne:y.dir≠x.dir):l14Drop d x=none:=by
 unfold l14Drop
 split
 ·rename_i hc
  simp only[Bool.and_eq_true,List.any_eq_true,decide_eq_true_eq]at hc
  obtain⟨⟨z,hz,hp,hzd⟩,_⟩:=hc
  obtain⟨y',g1,g2⟩:=(uniq_at (dv_tree hd).asc (p:=x.path)).1 i hi
  rw[hy]at g1
  cases g1
  have:=asc_uniq (dv_tree hd).asc hz (List.mem_of_getElem? hy) (hp.trans g2.symm)
  subst this
  exact absurd hzd hne
 ·rfl
theorem sdrop_is {i:Nat}{y:BItem}(hi:atI d.tree x.path=some i)(hy:d.tree[i]? = some y)(hp:y.path=x.path)(hyd:y.dir=x.dir)(hb:x.bytes=[]):l14Drop d x=(l11Drop d.store d.tree x.path).map (withVol d):=by
 unfold l14Drop
 rw[if_pos]
 simp only[Bool.and_eq_true,List.any_eq_true,decide_eq_true_eq]
 exact⟨⟨y,List.mem_of_getElem? hy,hp,hyd⟩,hb⟩
theorem at_path {l:List BItem}{p:Bs}{i:Nat}{y:BItem}(hi:atI l p=some i)(hy:l[i]? = some y):y.path=p:=by
 obtain⟨h1,h2,_⟩:=List.findIdx?_eq_some_iff_getElem.1 hi
 rw[List.getElem?_eq_getElem h1]at hy
 simp only[Option.some.injEq]at hy
 rw[←hy]
 simpa using h2
theorem file_at (hd:DiskValid d=true){i:Nat}{y:BItem}{p:Bs}(hi:atI d.tree p=some i)(hy:d.tree[i]? = some y):fileAt d.tree p= !y.dir:=by
 have hp:=at_path hi hy
 unfold fileAt
 rw[Bool.eq_iff_iff,List.any_eq_true]
 constructor
 ·rintro⟨z,hz,hc⟩
  simp only[Bool.and_eq_true,decide_eq_true_eq]at hc
  have:=asc_uniq (dv_tree hd).asc hz (List.mem_of_getElem? hy) (hc.1.trans hp.symm)
  rw[←this];exact hc.2
 ·intro h
  exact⟨y,List.mem_of_getElem? hy,by simp[hp,h]⟩
theorem file_no {p:Bs}(h:atI d.tree p=none):fileAt d.tree p=false:=by
 unfold fileAt
 rw[List.any_eq_false]
 intro z hz
 have:=List.findIdx?_eq_none_iff.1 h z hz
 simp only[decide_eq_false_iff_not]at this
 simp[this]
end
def runD (d:BDisk)(l:List BPart):Option BDisk:=foldB l14Drop (l.filter isGone).reverse (some d)
def runM (o:Option BDisk)(l:List BPart):Option BDisk:=foldB l14Make (l.filter (fun x=> !isGone x)) o
theorem run_eq (d:BDisk)(l:List BPart):StreamRun d l=if DiskValid d then runM (runD d l) l else none:=rfl
theorem runD_cons {d : BDisk} {x : BPart} {l : List BPart} : runD d (x :: l) = if x.kind = 2 then (runD d l).bind (fun e => l14Drop e x) else runD d l := by
 unfold runD
 by_cases h:x.kind=2
 ·rw[if_pos h,List.filter_cons_of_pos (by simp[isGone,h]),List.reverse_cons,foldB_app]
  cases foldB l14Drop (l.filter isGone).reverse (some d)<;>rfl
 ·rw[if_neg h,List.filter_cons_of_neg (by simp[isGone,h])]
theorem runM_snoc {o : Option BDisk} {l : List BPart} {x : BPart} : runM o (l ++ [x]) = if x.kind = 2 then runM o l else (runM o l).bind (fun e => l14Make e x) := by
 unfold runM
 rw[List.filter_append]
 by_cases h:x.kind=2
 ·rw[if_pos h,List.filter_cons_of_neg (by simp[isGone,h]),List.filter_nil,List.append_nil]
 ·rw[if_neg h,List.filter_cons_of_pos (by simp[isGone,h]),List.filter_nil,foldB_app]
  cases foldB l14Make (l.filter (fun x=> !isGone x)) o<;>rfl
theorem runM_none {l:List BPart}:runM none l=none:=foldB_none _
section
variable {d d1:BDisk} {p:Bs} {o:BOp}
theorem ddir_vol (h:DiskDir d p=some d1):∃v,l11Dir d.store d.tree p=some v∧d1=withVol d v:=by
 unfold DiskDir at h
 split at h
 ·cases e:l11Dir d.store d.tree p with
  | none=>rw[e]at h;cases h
  | some v=>rw[e]at h;exact⟨v,rfl,(Option.some.inj h).symm⟩
 ·cases h
theorem ddrop_vol (h:DiskDrop d p=some d1):∃v,l11Drop d.store d.tree p=some v∧d1=withVol d v:=by
 unfold DiskDrop at h
 split at h
 ·cases e:l11Drop d.store d.tree p with
  | none=>rw[e]at h;cases h
  | some v=>rw[e]at h;exact⟨v,rfl,(Option.some.inj h).symm⟩
 ·cases h
end
section
variable {d:BDisk} {x:BPart} {i:Nat} {y:BItem}
theorem dr_tree (hi:atI d.tree x.path=some i)(hy:d.tree[i]? = some y)(hyd:y.dir=x.dir)(hb:x.bytes=[])(h:TreeDrop d.tree x.path=none):l14Drop d x=none:=by
 rw[sdrop_is hi hy (at_path hi hy) hyd hb]
 simp[l11Drop,h]
theorem dr_yes (hi:atI d.tree x.path=some i)(hy:d.tree[i]? = some y)(hyd:y.dir=x.dir)(hb:x.bytes=[])(h:(TreeDrop d.tree x.path).isSome=true):l14Drop d x=some ⟨(FileFree d.store y.ids).getD [],(TreeDrop d.tree x.path).getD [],d.snaps⟩:=by
 obtain⟨t,ht⟩:=Option.isSome_iff_exists.1 h
 rw[sdrop_is hi hy (at_path hi hy) hyd hb]
 simp[l11Drop,ht,hi,hy,withVol]
end
theorem l5_nat {t:List BItem}{p:Bs}(h:0≤l5At t p):∃(i:Nat) (y:BItem),atI t p=some i∧l5At t p=(i:Int)∧i<t.length∧t[i]? = some y:=by
 obtain⟨i,x,h1,h2,h3,h4,_⟩:=at_nat (l:=t) (p:=fun(z:BItem)=>decide (z.path=p)) h
 exact⟨i,x,h1,h2,h3,h4⟩
section
variable {d:BDisk} {x:BPart}
theorem l5_none {t:List BItem}{p:Bs}(h:¬0≤l5At t p):atI t p=none:=at_none (by (have h:¬0≤optI (atI t p):=h);show optI (atI t p)<0;omega)
theorem mk_not (hd:DiskValid d=true)(hk:x.kind=1∨x.kind=3)(h:decide (0≤l5At d.tree x.path)≠decide (x.kind=3)):l14Make d x=none:=by
 unfold l14Make
 by_cases ha:0≤l5At d.tree x.path
 ·obtain⟨i,y,hi,_⟩:=l5_nat ha
  have h3:¬x.kind=3:=fun e=>h (by simp[ha,e])
  simp[h3,hi]
 ·have h3 : x.kind = 3 := by
   rcases hk with e|e
   ·exact absurd (by simp[ha,e]) h
   ·exact e
  simp[h3,file_no (l5_none ha)]
theorem mk_dir (hd:DiskValid d=true){i:Nat}{y:BItem}(hi:atI d.tree x.path=some i)(hy:d.tree[i]? = some y)(h3:x.kind=3)(h:x.dir=true∨y.dir=true):l14Make d x=none:=by
 unfold l14Make
 rcases h with h|h
 ·simp[h3,h]
 ·simp[h3,file_at hd hi hy,h]
theorem mk_file1 (h3:x.kind=1)(ha:¬0≤l5At d.tree x.path)(h:x.dir=false):l14Make d x=DiskWrite d x.path x.bytes:=by
 unfold l14Make
 simp[h3,l5_none ha,h]
theorem mk_file3 (hd:DiskValid d=true){i:Nat}{y:BItem}(hi:atI d.tree x.path=some i)(hy:d.tree[i]? = some y)(h3:x.kind=3)(h:x.dir=false)(hyd:y.dir=false):l14Make d x=DiskWrite d x.path x.bytes:=by
 unfold l14Make
 simp[h3,file_at hd hi hy,h,hyd]
theorem mk_new (h3 : x.kind = 1) (ha : ¬ 0 ≤ l5At d.tree x.path) (h : x.dir = true) : l14Make d x = if x.bytes = [] then (TreePut d.tree ⟨x.path, true, []⟩).map (fun t => ⟨d.store, t, d.snaps⟩) else none := by
 unfold l14Make
 simp only[h3,l5_none ha,h,l11Dir]
 cases TreePut d.tree ⟨x.path,true,[]⟩<;>simp[withVol]
end
section
variable {d:BDisk} {x:BPart}
theorem mk_dir1 (h3:x.kind=3)(h:x.dir=true):l14Make d x=none:=by
 unfold l14Make
 simp[h3,h]
theorem mk_ge (h:decide (0≤l5At d.tree x.path)=decide (x.kind=3)):0≤l5At d.tree x.path↔x.kind=3:=by simpa using h
end
section
variable {d e e1:BDisk} {l:List BOp} {o:BOp} {k:Nat}
theorem jgo_some (h:l[k]? = some o)(hr:OpRun e o=some e1):jgo e (l.drop k)=((jgo e1 (l.drop (k+1))).1,(jgo e1 (l.drop (k+1))).2+1):=by
 have hk:=(List.getElem?_eq_some_iff.1 h)
 rw[List.drop_eq_getElem_cons hk.1,hk.2]
 simp only[jgo,hr]
def JAt (d:BDisk)(l:List BOp)(k:Nat)(e:BDisk):Prop:=jgo d l=((jgo e (l.drop k)).1,(jgo e (l.drop k)).2+k)
theorem JAt.zero:JAt d l 0 d:=by simp[JAt]
theorem JAt.step (h:JAt d l k e)(hz:l[k]? = some o)(hr:OpRun e o=some e1):JAt d l (k+1) e1:=by
 unfold JAt at h ⊢
 rw[h,jgo_some hz hr]
 simp;omega
theorem JAt.done (h:JAt d l k e)(hk:l.length≤k):jgo d l=(e,k):=by
 unfold JAt at h
 rw[h,List.drop_of_length_le hk]
 simp[jgo]
end
section
variable {l c s r:List BItem} {f t:Bs}
end
section
variable {d:BDisk} {p:Bs} {n m:Int} {q:BQuota}
variable {l:List BQuota}
end
end Sp
namespace Fw
open Go
section
variable {w0 w:World} {G0 G:PH} {S:List Nat} {B:List Res}
end
theorem RdNs.up {G G':PH}{l:List Nd}(h:RdNs G l)(hle:PLe G G'):RdNs G' l:=RdNs.upm hle h
abbrev sC (l:List UInt8):List Value:=l.map fun b=>Value.int .u8 b.toNat
def buf (e:TypeId)(v:Value)(l:List UInt8):Res where
 fp := match v with
  | .slice (some a) _ _=>[a.block]
  | _=>[]
 pred h:=(v= .slice none 0 0∧l=[]) ∨
  ∃b cap C,v= .slice (some ⟨b,0,none⟩) l.length cap∧h b=some (.cells C e (0,0))∧l.length≤cap∧cap≤maxLen∧C.size=cap∧C.toList.take l.length=sC l
 loc h h' e p:=by
  rcases p with p|⟨b,cap,C,rfl,p1,p2⟩
  ·exact .inl p
  ·exact .inr ⟨b,cap,C,rfl,by rw[←e b (by simp)];exact p1,p2⟩
 dom h p b hb:=by
  rcases p with ⟨rfl,_⟩|⟨b',cap,C,rfl,p1,_⟩
  ·simp at hb
  ·simp at hb;subst hb;exact⟨_,p1⟩
section
variable {P:Program} {w w0:World} {G0:PH} {S:List Nat} {G:PH} {B:List Res}
end
section
variable {P:Program} {n:Nat} {ops:Array Oper} {Q:Post} {rest:List Oper} {L:Slots} {ds:List Deferred} {w w0:World} {G0:PH} {S:List Nat} {G:PH} {B:List Res}
variable {ty:TypeId} {ps:String} {af:Array Edge} {ρ:Go.Shelf.Ren}
end
end Fw
namespace Fw
open Go Go.RowKit
section
variable {P:Program} {Q:Exit→Act→World→Prop}
variable {m n:Nat} {ops:Array Oper} {l:List Oper} {L:Slots} {ds:List Deferred} {w:World}
variable {ty:TypeId} {ps:String} {af:Array Edge} {rest:List Oper}
section
variable {fn:Func} {C:Ending→World→Prop}
theorem retM {rs : List ResultVar} {vs : List Value} (hr : fn.results = rs.toArray) (hv : RV P w L rs vs) (hR : C (.returned (tupleOf vs)) w) : N n (bodyPostM Fence.wide 3 P fn C) .ret L [] w := fun a ha => by
 show LeavesInM Fence.wide 3 P fn a.tmps C a.defers .returning w
 rw[ha.defers]
 exact⟨_,run_results' hr ha hv,hR⟩
end
end
section
variable {w0 w:World} {G0:PH} {S:List Nat} {G:PH}
theorem acc_cells {e:TypeId}{sz:Nat}{v:Value}{k:Nat}{cs:List Value}{h:Nat→Option Obj}(hp:(acc e sz v k cs).pred h):∀b,b ∈ (acc e sz v k cs).fp→∃c,h b=some (.cells c e (0,0)):=by
 intro b hb
 rcases hp.2 with ⟨rfl,_⟩|⟨g,cap,C,rfl,h1,_⟩
 ·simp[acc_fp_nil]at hb
 ·simp[acc_fp]at hb
  subst hb
  exact⟨_,h1⟩
theorem Hp.turn {b:Nat}{tl te:TypeId}{v:Value}{sz k:Nat}{cs:List Value}{W W':World}{row:Option Nat}(H:Hp w0 G0 S W G [blk b (cl [v] tl),acc te sz v k cs])(hg:W.grownBy W' row)
  (hr:∀r,row=some r→w.heap.size≤r∧∃o:Obj,W.heap[r]? = some o∧o.isCells=false) (hw:w0.heap.size≤w.heap.size) (hG:PSub G w):Hp w0 G0 S W' G [blk b (cl [v] tl),acc te sz v k cs]:=by
 have hsame:∀c o,W.heap[c]? = some o→(o.isCells=true∨c<w.heap.size)→W'.heap[c]? = some o:=by
  intro c o hc ho
  rw[hg.block c (Array.getElem?_eq_some_iff.1 hc).1 ?_]
  ·exact hc
  ·intro e
   obtain⟨h1,o',h2,h3⟩:=hr c e.symm
   rw[hc]at h2
   cases h2
   rcases ho with ho|ho
   ·rw[ho]at h3;cases h3
   ·omega
 refine⟨hg.os.trans H.os,hg.tape.trans H.tape,hg.output.trans H.output,Nat.le_trans H.size hg.size,?_,?_,H.le,H.old,?_,H.nd⟩
 ·intro c hc hS
  rw[←H.ext c hc hS]
  have hlt:c<W.heap.size:=Nat.lt_of_lt_of_le hc H.size
  exact hg.block c hlt (fun e=>by obtain⟨h1,_⟩:=hr c e.symm;omega)
 ·intro c o hc
  exact hsame c o (H.sub c o hc) (.inr (hG.lt hc))
 ·intro r hm
  obtain⟨h1,h2⟩:=H.own r hm
  refine⟨?_,h2⟩
  rcases List.mem_cons.1 hm with rfl|hm
  ·exact hsame b _ h1 (.inl rfl)
  ·rw[List.mem_singleton]at hm
   subst hm
   refine(acc te sz v k cs).loc _ _ (fun c hc=>?_) h1
   obtain⟨C,hC⟩:=acc_cells h1 c hc
   exact hC.trans (hsame c _ hC (.inl rfl)).symm
end
end Fw
namespace Fw
structure BTurn where
 snap:Bs
 kind:Int
end Fw
namespace Fw
open Go Go.RowKit
def turnE:PH→BTurn→List Value→Prop:=fun _ x cs=>cs=[str x.snap,.int .i64 x.kind]
instance:MonoE turnE:=⟨fun _ h=>h⟩
section
variable {w0 w:World} {G0:PH} {S:List Nat} {G:PH} {B:List Res}
theorem Hp.putD {D b:Nat}{tl te:TypeId}{v:Value}{sz k:Nat}{cs:List Value}{W:World}(H:Hp w0 G0 S W G [blk b (cl [v] tl),acc te sz v k cs])(hw:w0.heap.size≤w.heap.size)(hG:PSub G w)(hD:w.heap.size≤D)(hK:W.heap[D]? = some (.deferred (some []))) :
  Hp w0 G0 S (W.putObj D (.deferred none)) G [blk b (cl [v] tl),acc te sz v k cs] :=
 H.turn (w:=w) (grownBy_putObj' W D _) (fun r e=>by cases e;exact⟨hD,_,hK,rfl⟩) hw hG
end
end Fw
namespace Fw
open Go
section
variable {H:Type} {enc:TypeId×Value→H} {P:Program} {W:World}
structure Bulk (bk:DataW H→Nat) (bka:List (DataW H)→Nat):Prop where
 slice:∀es sp,bk (.slice es sp)=bka es+bka sp+1
 agg:∀ps,bk (.agg ps)=bka ps+1
 str:∀b,bk (.lit (.string b))=b.length+1
 nil:bka []=0
 cons:∀d r,bka (d::r)=bk d+bka r
 pos:∀d,1≤bk d
variable {bk:DataW H→Nat} {bka:List (DataW H)→Nat}
theorem Bulk.len (hb:Bulk bk bka):∀l,l.length≤bka l
 | []=>by simp
 | d :: r => by
  have h1:=hb.len r
  have h2:=hb.pos d
  rw[hb.cons]
  simp;omega
theorem Bulk.mem (hb:Bulk bk bka){d:DataW H}:∀{l:List (DataW H)},d ∈ l→bk d≤bka l
 | [],h=>by simp at h
 | e :: r, h => by
  rw[hb.cons]
  rcases List.mem_cons.1 h with rfl|h
  ·omega
  ·have:=hb.mem h
   omega
theorem Bulk.memF (hb : Bulk bk bka) {l : List (DataW H × List MemPlace)} {i : Nat} (hi : i < l.length) : bk (l[i]).1 ≤ bka (l.map (fun x => x.1)) :=
 hb.mem (List.mem_map.2 ⟨l[i],List.getElem_mem hi,rfl⟩)
abbrev Reads (enc:TypeId×Value→H) (P:Program) (W:World) (n:Nat) (t:TypeId) (cs:List Value):Option (DataW H×List MemPlace):=DataW.trod enc P W 0 (fun _=>true) true n t cs
def Elem (enc:TypeId×Value→H)(P:Program)(W:World)(bk:DataW H→Nat)(t:TypeId)(sz:Nat){α:Type}(E:PH→α→List Value→Prop):Prop :=
 ∀n cs x,Reads enc P W n t cs=some x→bk x.1≤1048576→∃a,cs.length=sz∧E (PAll W) a cs
theorem elem_u8 {t:TypeId}(ht:P.underlying t=some (.int .u8)):Elem enc P W bk t 1 u8E:=by
 intro n cs x h _
 obtain⟨i,rfl,_,hw⟩:=DataW.trod_int ht h
 simp[Lit.wf,IntKind.min,IntKind.max,IntKind.signed,IntKind.bits]at hw
 refine⟨UInt8.ofNat i.toNat,rfl,?_⟩
 show[Value.int .u8 i]=[.int .u8 ((UInt8.ofNat i.toNat).toNat:Int)]
 congr 2
 rw[UInt8.toNat_ofNat']
 omega
theorem list_of {α:Type}{Q:Nat→α→Prop}:∀n,(∀i,i<n→∃x,Q i x)→∃xs:List α,xs.length=n∧∀i x,xs[i]? = some x→Q i x
 | 0,_=>⟨[],rfl,by simp⟩
 | n + 1, h => by
  obtain⟨xs,h1,h2⟩:=list_of n (fun i hi=>h i (by omega))
  obtain⟨x,hx⟩:=h n (by omega)
  refine⟨xs++[x],by simp[h1],fun i y hy=>?_⟩
  by_cases hi:i<n
  ·rw[List.getElem?_append_left (by omega)]at hy
   exact h2 i y hy
  ·rw[List.getElem?_append_right (by omega)]at hy
   have:i=n:=by
    have:=(List.getElem?_eq_some_iff.1 hy).1
    simp at this
    omega
   subst this
   simp[h1]at hy
   subst hy
   exact hx
theorem mapM_at {α β:Type}{f:α→Option β}:∀{l:List α} {r:List β},l.mapM f=some r→∀(i:Nat) (x:α),l[i]? = some x→f x=r[i]?
 | [],r,h,i,x,hx=>by simp at hx
 | y :: t, r, h, i, x, hx => by
  simp only[List.mapM_cons,Option.bind_eq_bind,Option.bind_eq_some_iff,Option.pure_def,Option.some.injEq]at h
  obtain⟨z,h1,u,h2,rfl⟩:=h
  cases i with
  | zero=>simp at hx;subst hx;simpa using h1
  | succ i=>simp only[List.getElem?_cons_succ]at hx ⊢;exact mapM_at h2 i x hx
theorem pcell_of {b o:Nat}{v:Value}(h:W.cell? ⟨b,o,none⟩=some v):PCell (PAll W) b o v:=by
 unfold World.cell? at h
 unfold PCell PAll
 split at h
 ·rename_i C e fz hb
  exact⟨C,e,fz,hb,by simpa using h⟩
 ·cases h
theorem elem_slice {α:Type}{E:PH→α→List Value→Prop}(hb:Bulk bk bka){t e:TypeId}{sz:Nat}(ht:P.underlying t=some (.slice e))(hz:P.cellsOf e=sz)(hsz:0<sz)(hE:Elem enc P W bk e sz E) :
  ∀n cs x,Reads enc P W n t cs=some x→bk x.1≤1048576→∃v xs,cs=[v]∧RdS LIM E sz (PAll W) v xs:=by
 intro n cs x h hx
 rcases DataW.trod_slice ht h with ⟨rfl,_⟩|⟨a,len,cap,elems,rest,m,_,rfl,rfl,_,h2,_,h4,h5,_,_⟩
 ·exact⟨_,[],rfl,RdS.nil _ _ _⟩
 ·simp only[hb.slice]at hx
  rw[hz]at h5
  have hle:=hb.len (elems.map (·.1))
  rw[List.length_map]at hle
  have hel:∀i,i<len→∃y:α,∃cs,cs.length=sz∧E (PAll W) y cs∧∀j v,cs[j]? = some v→W.cell? ((a.add (i*sz)).add j)=some v:=by
   intro i hi
   have h6:=h5 i hi
   rw[List.getElem?_eq_getElem (by omega)]at h6
   obtain⟨cs,k1,k2⟩:=Option.bind_eq_some_iff.1 h6
   obtain⟨y,k3,k4⟩:=hE m cs _ k2 (Nat.le_trans (hb.memF (by omega)) (by omega))
   refine⟨y,cs,k3,k4,fun j v hj=>?_⟩
   unfold World.cells? at k1
   split at k1
   ·have hjl:=(List.getElem?_eq_some_iff.1 hj).1
    rw[←hj]
    exact mapM_at k1 j j (by rw[List.getElem?_range (by omega)])
   ·cases k1
  obtain⟨xs,x1,x2⟩:=list_of len hel
  refine⟨_,xs,rfl,some a,cap,by rw[x1],by omega,by simp only[LIM];omega,?_⟩
  by_cases h0:len=0
  ·exact .inl (List.eq_nil_of_length_eq_zero (by omega))
  ·right
   have hspot:a.spot=none:=by
    obtain⟨y,cs,y1,_,y2⟩:=hel 0 (by omega)
    have:=World.cell?_spot (y2 0 cs[0] (by simp))
    simpa [Addr.add] using this
   obtain⟨b,o,sp⟩:=a
   simp only at hspot
   subst hspot
   refine⟨b,o,rfl,fun i y hy=>?_⟩
   obtain⟨cs,c1,c2,c3⟩:=x2 i y hy
   refine⟨cs,c1,c2,fun j v hj=>pcell_of ?_⟩
   have:=c3 j v hj
   rwa [Addr.add_lit,Addr.add_lit]at this
variable {ti ts tb tis:TypeId}
theorem same_of_ext {w w':World}(h:Ext w w'){p:MemPlace}(hp:p.block<w.heap.size):w.sameAt w' p:=by
 have hb:=h.block p.block hp
 cases p with
 | cell b off=>simp only[World.sameAt,World.cell?];simp only[MemPlace.block]at hb;rw[hb]
 | map b=>simp only[World.sameAt];simpa [MemPlace.block] using hb
end
end Fw
namespace Fw
open Go Go.ChangeShapes Go.WideShapes
section
variable {H:Type} {enc:TypeId×Value→H} {P:Program}
theorem trodAll_stays (hl:laidOutB P=true){W W':World}{sp':Nat→Bool}:∀{ts:List TypeId} {vs:List Value} {ds:List (DataW H)} {ps:List MemPlace},(∀t,t ∈ ts→P.readableRec t=true∧t<P.types.size) →
  DataW.TrodAll enc P W 0 (fun _=>true) true ts vs ds ps→(∀p ∈ ps,W.sameAt W' p)→(∀p ∈ ps,sp' p.block=true)→DataW.TrodAll enc P W' 0 sp' true ts vs ds ps
 | [], _, _, _, _, h, _, _ => by
  obtain⟨rfl,rfl,rfl⟩:=trodAll_nil h
  rfl
 | t :: ts, _, _, _, hr, h, hs, hq => by
  obtain⟨v,vs1,d,ds1,a,b,rfl,rfl,rfl,h1,h2⟩:=trodAll_cons h
  exact ⟨a, b, WideElems.Trod_stays hl (hr t (by simp)).1 (hr t (by simp)).2 h1 (fun p hp => hs p (by simp [hp])) (fun p hp => hq p (by simp [hp])),
   trodAll_stays hl (fun t ht=>hr t (by simp[ht])) h2 (fun p hp=>hs p (by simp[hp])) (fun p hp=>hq p (by simp[hp])),rfl⟩
theorem kept_of_ext {W W':World}(h:Ext W W')(may:MemPlace→Prop):W.keptBut W' may:=by
 refine⟨h.os,h.output,fun i hi=>?_⟩
 rw[h.block i hi]
 cases W.heap[i]? with
 | none=>simp
 | some o=>cases o<;>simp
theorem law_post {f:Func}{s:ChangeSpec}{apart fresh handsOn again:Bool}{W W':World}{args:Array Value}{ds gs:List (DataW H)}{before:List MemPlace}(hl:laidOutB P=true)(hr:∀t,t ∈ f.params.toList→P.readableRec t=true∧t<P.types.size)
  (hv:s.vars=[]) (hW:DataW.Whole enc P f.params.toList s.vars apart W args.toList ds gs before) (hx:Ext W W') (hfr:(s.fn H (ds++gs)).results=[.lit (.bool true)]) (hfa:(s.fn H (ds++gs)).args=ds) (hfv:(s.fn H (ds++gs)).vars=[])
  (hres:∀(b:Nat) (sp:Nat→Bool) (hd:Bool),DataW.TrodAll enc P W' b sp hd f.resultTypes.toList ((Value.bool true).resultList f.resultTypes.size) [.lit (.bool true)] [])
  (hok:∀(j:Nat) (t:TypeId) (r:Value),f.resultTypes[j]? = some t→((Value.bool true).resultList f.resultTypes.size)[j]? = some r→Value.okWide P W' .any 0 t r) :
  s.post enc P f apart fresh handsOn again W args (.bool true) W':=by
 have hW':=hW
 obtain⟨p,q,hA,hV,rfl,hz,hn⟩:=hW
 rw[hv]at hV
 have hgs:gs=[]∧q=[]:=by
  cases gs with
  | nil=>exact⟨rfl,hV⟩
  | cons d r=>exact hV.elim
 obtain⟨rfl,rfl⟩:=hgs
 rw[List.append_nil]at hW' hz hn
 have hlt:∀m ∈ p,m.block<W.heap.size:=fun m hm=>hW'.lt m hm
 have hold:∀m ∈ p,(fun b=>decide (b<W.heap.size)) m.block=true:=fun m hm=>by simpa using hlt m hm
 have hargs : ∀ sp : Nat → Bool, (∀ m ∈ p, sp m.block = true) → DataW.TrodAll enc P W' 0 sp true f.params.toList args.toList (s.fn H (ds ++ [])).args p := fun sp hsp => by
  rw[hfa]
  exact trodAll_stays hl hr hA (fun m hm=>same_of_ext hx (hlt m hm)) hsp
 have hvars:∀sp:Nat→Bool,DataW.TrodVars enc P W' sp s.vars (s.fn H (ds++[])).vars []:=fun sp=>by rw[hv,hfv];rfl
 have hres':∀(b:Nat) (sp:Nat→Bool) (hd:Bool),DataW.TrodAll enc P W' b sp hd f.resultTypes.toList ((Value.bool true).resultList f.resultTypes.size) (s.fn H (ds++[])).results []:=fun b sp hd=>by rw[hfr];exact hres b sp hd
 refine⟨ds,[],p,[],p,[],hW',hres' _ _ _,hargs _ hold,hvars _,World.keptBut_mono (fun m hm=>⟨hm,Or.inr ?_⟩) (kept_of_ext hx (· ∈ p)),fun _=>?_⟩
 ·simpa using hm
 ·refine⟨hok,_,_,([]++p)++[],⟨[]++p,[],trodAll_append (hargs _ (fun _ _=>rfl)) (hres' _ _ _),hvars _,rfl,?_,?_⟩,?_⟩
  ·intro b off hp
   have hp':MemPlace.cell b off ∈ p:=by simpa using hp
   have h1:=hz b off hp'
   have h2:=hx.block b (hlt _ hp')
   simp only[World.frozen?]at h1 ⊢
   rw[h2]
   exact h1
  ·intro ha
   simpa using hn ha
  ·intro m hm _
   simpa using hm
end
end Fw
namespace Fw
open Go Go.WideShapes
theorem slice_of {P:Program}{W:World}{b:Nat}{t e:TypeId}{v u:Value}(ht:P.underlying t=some (.slice e))(h:Value.okWide P W .any b t v)(hu:v.cells.toList=[u]):v=u:=by
 unfold Value.okWide at h
 rw[ht]at h
 unfold Cell.okWide at h
 rw[ht]at h
 cases v<;>simp_all [Value.cells,Cell.ok]
end Fw
namespace Fw
open Go
def opO:Fr→BOp→List Value→Prop:=fun F x cs=>∃a m c,cs=[.int .i64 x.kind,str x.path,.slice a m c]∧inI x.kind∧x.path.length≤16777216∧OI F (.slice a m c) x.bytes
abbrev OOp (F:Fr) (v:Value) (xs:List BOp):Prop:=∃e,OwnS opO 3 e F v xs
theorem opO.rd {F:Fr}{x:BOp}{cs:List Value}{G:PH}(h:opO F x cs)(hle:PLe (fh F) G)(hn:(dm F).Nodup):opE G x cs:=by
 obtain⟨a,m,c,rfl,h1,h2,h3⟩:=h
 exact⟨a,m,c,rfl,h1,h2,h3.rd hle hn⟩
theorem OOp.rd {F:Fr}{v:Value}{xs:List BOp}{G:PH}(h:OOp F v xs)(hle:PLe (fh F) G)(hn:(dm F).Nodup):RdOp G v xs:=let ⟨_,h⟩:=h;h.rd hle hn (fun _ _ _ h1 h2 h=>opO.rd h h1 h2)
theorem OOp.mk {e:TypeId}{F:Fr}{v:Value}{xs:List BOp}(h:OwnS opO 3 e F v xs):OOp F v xs:=⟨_,h⟩
def partO:Fr→BPart→List Value→Prop:=fun F x cs=>∃a m c,cs=[.int .i64 x.kind,str x.path,.bool x.dir,.slice a m c]∧inI x.kind∧x.path.length≤16777216∧OI F (.slice a m c) x.bytes
abbrev OPt (F:Fr) (v:Value) (xs:List BPart):Prop:=∃e,OwnS partO 4 e F v xs
theorem partO.rd {F:Fr}{x:BPart}{cs:List Value}{G:PH}(h:partO F x cs)(hle:PLe (fh F) G)(hn:(dm F).Nodup):partE G x cs:=by
 obtain⟨a,m,c,rfl,h1,h2,h3⟩:=h
 exact⟨a,m,c,rfl,h1,h2,h3.rd hle hn⟩
theorem OPt.rd {F:Fr}{v:Value}{xs:List BPart}{G:PH}(h:OPt F v xs)(hle:PLe (fh F) G)(hn:(dm F).Nodup):RdPart G v xs:=let ⟨_,h⟩:=h;h.rd hle hn (fun _ _ _ h1 h2 h=>partO.rd h h1 h2)
theorem OPt.mk {e:TypeId}{F:Fr}{v:Value}{xs:List BPart}(h:OwnS partO 4 e F v xs):OPt F v xs:=⟨_,h⟩
section
variable {w0 w w':World} {G0 G G':PH} {S:List Nat} {B Bs:List Res}
end
section
variable {H:Type} {enc:TypeId×Value→H} {P:Program} {W:World} {bk:DataW H→Nat} {bka:List (DataW H)→Nat} {ti ts tb tis:TypeId}
end
end Fw
namespace Sp
open Fw Nd
def partOk (x:BPart):Bool:=if x.kind=1 then !x.dir||decide (x.bytes=[]) else if x.kind=2 then decide (x.bytes=[]) else if x.kind=3 then !x.dir else false
def mkPart (d:BDisk)(x:BPart):Option BDisk:=if x.kind=2 then l14Drop d x else l14Make d x
def inOrd (l:List BPart):List BPart:=(l.filter isGone).reverse++l.filter (fun x=> !isGone x)
theorem foldB_same {α β:Type}{f g:α→β→Option α}:∀{l:List β} {o:Option α},(∀b,b ∈ l→∀a,f a b=g a b)→foldB f l o=foldB g l o
 | [],_,_=>rfl
 | b :: r, o, h => by
  show foldB f r (o.bind (fun a=>f a b))=foldB g r (o.bind (fun a=>g a b))
  rw[show(fun a=>f a b)=(fun a=>g a b) from funext (h b (by simp))]
  exact foldB_same (fun c hc=>h c (by simp[hc]))
theorem foldB_dead {α β:Type}{f:α→β→Option α}{b:β}(hb:∀a,f a b=none):∀{l:List β} {o:Option α},b ∈ l→foldB f l o=none
 | c :: r, o, h => by
  show foldB f r (o.bind (fun a=>f a c))=none
  rcases List.mem_cons.1 h with rfl|h
  ·rw[show o.bind (fun a=>f a b)=none by cases o<;>simp[hb]];exact foldB_none r
  ·exact foldB_dead hb h
theorem run_ord (d : BDisk) (l : List BPart) : StreamRun d l = if DiskValid d then foldB mkPart (inOrd l) (some d) else none := by
 unfold StreamRun inOrd
 rw[foldB_app]
 rw [foldB_same (f := mkPart) (g := l14Drop) (l := (l.filter isGone).reverse) (fun b hb a => by
  have:isGone b=true:=(List.mem_filter.1 (List.mem_reverse.1 hb)).2
  unfold mkPart;rw[if_pos (by simpa [isGone] using this)])]
 rw [foldB_same (f := mkPart) (g := l14Make) (l := l.filter (fun x => !isGone x)) (fun b hb a => by
  have:(!isGone b)=true:=(List.mem_filter.1 hb).2
  unfold mkPart;rw[if_neg (by simpa [isGone] using this)])]
theorem drop0 (d : BDisk) (x : BPart) : l14Drop d x = if x.bytes = [] then l14Drop d ⟨x.kind, x.path, x.dir, []⟩ else none := by
 unfold l14Drop
 by_cases h:x.bytes=[]
 ·simp[h]
 ·simp[h]
theorem make_kind {d:BDisk}{x:BPart}(h1:x.kind≠1)(h3:x.kind≠3):l14Make d x=none:=by
 unfold l14Make
 rw[if_neg (by simp[h1,h3])]
theorem bad_part {x:BPart}(h:partOk x=false)(d:BDisk):mkPart d x=none:=by
 unfold mkPart
 unfold partOk at h
 by_cases h2:x.kind=2
 ·rw[if_pos h2]
  have h1:x.kind≠1:=by omega
  rw[if_neg h1,if_pos h2]at h
  rw[drop0,if_neg (by simpa using h)]
 ·rw[if_neg h2]
  by_cases h1:x.kind=1
  ·rw[if_pos h1]at h
   simp only[Bool.or_eq_false_iff,Bool.not_eq_false',decide_eq_false_iff_not]at h
   unfold l14Make
   split
   ·rw[if_pos h.1,if_neg h.2]
   ·rfl
  ·rw[if_neg h1,if_neg h2]at h
   by_cases h3:x.kind=3
   ·rw[if_pos h3]at h
    unfold l14Make
    rw[if_neg]
    simp only[Bool.not_eq_false']at h
    simp[h1,h]
   ·exact make_kind h1 h3
theorem mem_ord {x:BPart}{l:List BPart}(h:x ∈ l):x ∈ inOrd l:=by
 unfold inOrd
 rw[List.mem_append,List.mem_reverse,List.mem_filter,List.mem_filter]
 cases e:isGone x
 ·exact .inr ⟨h,by simp⟩
 ·exact .inl ⟨h,rfl⟩
theorem run_bad {d:BDisk}{l:List BPart}{x:BPart}(h:x ∈ l)(hb:partOk x=false):StreamRun d l=none:=by
 rw[run_ord]
 split
 ·exact foldB_dead (bad_part hb) (mem_ord h)
 ·rfl
theorem run_inv {d:BDisk}{l:List BPart}(h:DiskValid d=false):StreamRun d l=none:=by rw[run_ord,h];rfl
theorem ord_no {d e:BDisk}{l:List BPart}{k:Nat}{x:BPart}(hd:DiskValid d=true)(h:foldB mkPart ((inOrd l).take k) (some d)=some e)(hz:(inOrd l)[k]? = some x)(hm:mkPart e x=none):StreamRun d l=none:=by
 rw[run_ord,hd,if_pos rfl];exact foldB_stop h hz hm
theorem ord_all {d e:BDisk}{l:List BPart}{k:Nat}(hd:DiskValid d=true)(h:foldB mkPart ((inOrd l).take k) (some d)=some e)(hk:(inOrd l).length≤k):StreamRun d l=some e:=by
 rw[run_ord,hd,if_pos rfl];exact foldB_all h hk
theorem mk_valid {d e:BDisk}{x:BPart}(hd:DiskValid d=true)(h:mkPart d x=some e):DiskValid e=true∧e.snaps=d.snaps:=by
 have hr:StreamRun d [x]=some e:=by
  rw[run_ord,hd,if_pos rfl]
  have:inOrd [x]=[x]:=by cases h:isGone x<;>simp[inOrd,h]
  rw[this];exact h
 exact run_valid hr
theorem ord_len (l:List BPart):(inOrd l).length=l.length:=by
 unfold inOrd
 induction l with
 | nil=>rfl
 | cons x r ih =>
  cases h:isGone x<;>simp[h]at ih ⊢<;>omega
theorem mem_ord' {x:BPart}{l:List BPart}(h:x ∈ inOrd l):x ∈ l:=by
 unfold inOrd at h
 rw[List.mem_append,List.mem_reverse,List.mem_filter,List.mem_filter]at h
 exact h.elim (·.1) (·.1)
def bare (x:BPart):BPart:=⟨x.kind,x.path,x.dir,[]⟩
theorem bare_valid {d e:BDisk}{x:BPart}(hd:DiskValid d=true)(h:l14Drop d (bare x)=some e):DiskValid e=true :=
 (mk_valid (x:=⟨2,x.path,x.dir,[]⟩) hd h).1
theorem make_valid {d e:BDisk}{x:BPart}(hd:DiskValid d=true)(h:l14Make d x=some e):DiskValid e=true:=by
 refine(mk_valid (x:=x) hd ?_).1
 unfold mkPart
 rw[if_neg,h]
 intro e2
 rw[make_kind (by omega) (by omega)]at h
 cases h
theorem drop_cons {l:List BPart}{k:Nat}{x:BPart}(h:l[k]? = some x):l.drop k=x::l.drop (k+1):=by
 obtain⟨hk,e⟩:=List.getElem?_eq_some_iff.1 h
 rw[List.drop_eq_getElem_cons hk,e]
theorem runD_step {d e : BDisk} {l : List BPart} {k : Nat} {x : BPart} (hz : l[k]? = some x) (h : runD d (l.drop (k + 1)) = some e) : runD d (l.drop k) = if x.kind = 2 then l14Drop e x else some e := by
 rw[drop_cons hz,runD_cons,h];rfl
theorem runD_none {d:BDisk}:∀{k:Nat} {l:List BPart},runD d (l.drop k)=none→runD d l=none
 | 0,l,h=>by simpa using h
 | k+1,[],h=>by simpa using h
 | k + 1, y :: r, h => by
  rw[runD_cons,runD_none (k:=k) (l:=r) (by simpa using h)]
  split<;>rfl
theorem run_dno {d e:BDisk}{l:List BPart}{k:Nat}{x:BPart}(hz:l[k]? = some x)(h:runD d (l.drop (k+1))=some e)(h2:x.kind=2)(hn:l14Drop e x=none):StreamRun d l=none:=by
 rw[run_eq]
 split
 ·rw[runD_none (k:=k) (by rw[runD_step hz h,if_pos h2,hn]),runM_none]
 ·rfl
theorem runM_step {d e : BDisk} {l : List BPart} {k : Nat} {x : BPart} (hz : l[k]? = some x) (h : runM (runD d l) (l.take k) = some e) : runM (runD d l) (l.take (k + 1)) = if x.kind = 2 then some e else l14Make e x := by
 rw[List.take_add_one,hz]
 show runM _ (l.take k++[x])=_
 rw[runM_snoc,h];rfl
theorem runM_app {o:Option BDisk}{l m:List BPart}:runM o (l++m)=runM (runM o l) m:=by unfold runM;rw[List.filter_append,foldB_app]
theorem run_mno {d e:BDisk}{l:List BPart}{k:Nat}{x:BPart}(hz:l[k]? = some x)(h:runM (runD d l) (l.take k)=some e)(h2:x.kind≠2)(hn:l14Make e x=none):StreamRun d l=none:=by
 rw[run_eq]
 split
 ·have hs:=runM_step hz h
  rw[if_neg h2,hn]at hs
  rw[←List.take_append_drop (k+1) l,runM_app,List.take_append_drop,hs,runM_none]
 ·rfl
theorem run_done {d e:BDisk}{l:List BPart}{k:Nat}(hd:DiskValid d=true)(h:runM (runD d l) (l.take k)=some e)(hk:l.length≤k):StreamRun d l=some e:=by
 rw[run_eq,hd,if_pos rfl];rw[List.take_of_length_le hk]at h;exact h
theorem runD_valid {d e:BDisk}{l:List BPart}(hd:DiskValid d=true)(h:runD d l=some e):DiskValid e=true:=by
 have hr:StreamRun d (l.filter isGone)=some e:=by
  rw[run_eq,hd,if_pos rfl]
  have h1:runD d (l.filter isGone)=runD d l:=by unfold runD;rw[List.filter_filter];congr 2;simp
  rw[h1,h]
  unfold runM
  have : (l.filter isGone).filter (fun x => !isGone x) = [] := by
   rw[List.filter_filter,List.filter_eq_nil_iff];intro a _;simp
  rw[this];rfl
 exact(run_valid hr).1
theorem runM_valid {d e:BDisk}{l:List BPart}(hd:DiskValid d=true)(h:runM (some d) l=some e):DiskValid e=true:=by
 have hr : StreamRun d (l.filter (fun x => !isGone x)) = some e := by
  rw[run_eq,hd,if_pos rfl]
  have h0 : (l.filter (fun x => !isGone x)).filter isGone = [] := by
   rw[List.filter_filter,List.filter_eq_nil_iff];intro a _;simp
  have h1:runD d (l.filter (fun x=> !isGone x))=some d:=by unfold runD;rw[h0];rfl
  rw[h1]
  unfold runM
  rw[List.filter_filter]
  have:(fun x=>(!isGone x&& !isGone x))=(fun x=> !isGone x):=by funext x;simp
  rw[this];exact h
 exact(run_valid hr).1
section
variable {d e:BDisk} {l:List BPart} {k:Nat} {x:BPart}
theorem isSome_get {o:Option BDisk}(h:o.isSome=true):o=some (o.getD ⟨[],[],[]⟩):=by
 cases o with
 | none=>cases h
 | some x=>rfl
theorem pdrop_ok (hb:¬(0:Int)<x.bytes.length):l14Drop e x=l14Drop e (bare x):=by
 rw[drop0,if_pos (List.length_eq_zero_iff.1 (by omega))];rfl
theorem pdrop_bytes (hb:(0:Int)<x.bytes.length):l14Drop e x=none:=by
 rw[drop0,if_neg (fun h=>by rw[h]at hb;simp at hb)]
theorem pdrop_none (h:l14Drop e (bare x)=none):l14Drop e x=none:=by
 rw[drop0]
 split
 ·exact h
 ·rfl
theorem dgo (hz:l[k]? = some x)(h:runD d (l.drop (k+1))=some e)(h2:x.kind=2)(hs:(l14Drop e (bare x)).isSome=true)(hb:¬(0:Int)<x.bytes.length):runD d (l.drop k)=some ((l14Drop e (bare x)).getD ⟨[],[],[]⟩):=by
 rw[runD_step hz h,if_pos h2,pdrop_ok hb];exact isSome_get hs
theorem dskip (hz:l[k]? = some x)(h:runD d (l.drop (k+1))=some e)(h2:x.kind≠2):runD d (l.drop k)=some e:=by rw[runD_step hz h,if_neg h2]
theorem mgo (hz:l[k]? = some x)(h:runM (runD d l) (l.take k)=some e)(h2:x.kind≠2)(hs:(l14Make e x).isSome=true):runM (runD d l) (l.take (k+1))=some ((l14Make e x).getD ⟨[],[],[]⟩):=by
 rw[runM_step hz h,if_neg h2];exact isSome_get hs
theorem mskip (hz:l[k]? = some x)(h:runM (runD d l) (l.take k)=some e)(h2:x.kind=2):runM (runD d l) (l.take (k+1))=some e:=by rw[runM_step hz h,if_pos h2]
theorem mkind (hz:l[k]? = some x)(h:runM (runD d l) (l.take k)=some e)(h2:x.kind≠2)(hk:l6In x.kind 1 3=false):StreamRun d l=none:=run_mno hz h h2 (make_kind (fun e=>by rw[e]at hk;cases hk) (fun e=>by rw[e]at hk;cases hk))
theorem kind13 (h2:x.kind≠2)(hk:l6In x.kind 1 3=true):x.kind=1∨x.kind=3:=by
 simp only[l6In,Bool.and_eq_true,decide_eq_true_eq]at hk
 omega
end
section
variable {l:List BPart} {k:Nat} {x:BPart}
def ordA (l:List BPart)(k:Nat):List BPart:=((l.drop k).filter isGone).reverse
def ordB (l:List BPart)(k:Nat):List BPart:=(l.filter isGone).reverse++(l.take k).filter (fun x=> !isGone x)
theorem ordA_all:ordA l l.length=[]:=by unfold ordA;rw[List.drop_length];rfl
theorem ordA_yes (hz:l[k-1]? = some x)(hk:0<k)(h2:x.kind=2):ordA l (k-1)=ordA l k++[x]:=by
 unfold ordA
 rw[drop_cons hz,show k-1+1=k by omega,List.filter_cons_of_pos (by simp[isGone,h2]),List.reverse_cons]
theorem ordA_no (hz:l[k-1]? = some x)(hk:0<k)(h2:x.kind≠2):ordA l (k-1)=ordA l k:=by
 unfold ordA
 rw[drop_cons hz,show k-1+1=k by omega,List.filter_cons_of_neg (by simp[isGone,h2])]
theorem ordA_len (hz:l[k-1]? = some x)(hk:0<k):(ordA l k).length<l.length:=by
 have h0:=(List.getElem?_eq_some_iff.1 hz).1
 have:=List.length_filter_le isGone (l.drop k)
 unfold ordA
 rw[List.length_reverse]
 rw[List.length_drop]at this
 omega
theorem ordB_zero:ordB l 0=ordA l 0:=by simp[ordA,ordB]
theorem take_snoc' (hz:l[k]? = some x):l.take (k+1)=l.take k++[x]:=by rw[List.take_add_one,hz];rfl
theorem ordB_yes (hz:l[k]? = some x)(h2:x.kind≠2):ordB l (k+1)=ordB l k++[x]:=by
 unfold ordB
 rw[take_snoc' hz,List.filter_append,List.filter_cons_of_pos (by simp[isGone,h2]),List.filter_nil,List.append_assoc]
theorem ordB_no (hz:l[k]? = some x)(h2:x.kind=2):ordB l (k+1)=ordB l k:=by
 unfold ordB
 rw[take_snoc' hz,List.filter_append,List.filter_cons_of_neg (by simp[isGone,h2]),List.filter_nil,List.append_nil]
theorem ordB_end (hk:l.length≤k):ordB l k=inOrd l:=by unfold ordB inOrd;rw[List.take_of_length_le hk]
theorem ordB_len (hz:l[k]? = some x)(h2:x.kind≠2):(ordB l k).length<l.length:=by
 have h1:(ordB l (k+1)).length≤(inOrd l).length:=by
  unfold ordB inOrd
  rw[List.length_append,List.length_append]
  have:=((List.take_sublist (k+1) l).filter (fun x=> !isGone x)).length_le
  omega
 rw[ordB_yes hz h2,List.length_append,ord_len]at h1
 simp at h1
 omega
end
section
variable {d:BDisk} {x:BPart} {T k:Nd}
theorem mp_at (hT:TOK T d.tree){p:Bs}(hf:T.find p=none):atI d.tree p=none:=by
 have h:=find_list hT p
 rw[hf]at h
 cases e:atI d.tree p with
 | none=>rfl
 | some i =>
  rw[e]at h
  have hlt:=(List.findIdx?_eq_some_iff_getElem.1 e).1
  simp only[Option.map_none,Option.bind_some]at h
  rw[List.getElem?_eq_getElem hlt]at h
  cases h
theorem mp_some (hT:TOK T d.tree){p:Bs}(hf:T.find p=some k):∃i y,atI d.tree p=some i∧d.tree[i]? = some y∧y.dir=k.dir:=by
 have h:=find_list hT p
 rw[hf]at h
 cases e:atI d.tree p with
 | none=>rw[e]at h;cases h
 | some i =>
  rw[e]at h
  simp only[Option.map_some,Option.bind_some]at h
  exact⟨i,_,rfl,h.symm,rfl⟩
theorem mk1 (h1:x.kind=1):mkPart d x=l14Make d x:=by unfold mkPart;rw[if_neg (by omega)]
theorem mk3 (h3:x.kind=3):mkPart d x=l14Make d x:=by unfold mkPart;rw[if_neg (by omega)]
theorem mk2 (h2:x.kind=2):mkPart d x=l14Drop d x:=by unfold mkPart;rw[if_pos h2]
theorem ok1 (hok:partOk x=true)(h1:x.kind=1)(hd:x.dir=true):x.bytes=[]:=by
 unfold partOk at hok;rw[if_pos h1]at hok;simpa [hd] using hok
theorem ok2 (hok:partOk x=true)(h2:x.kind=2):x.bytes=[]:=by
 unfold partOk at hok;rw[if_neg (by omega),if_pos h2]at hok;simpa using hok
theorem ok3 (hok:partOk x=true)(h1:x.kind≠1)(h2:x.kind≠2):x.kind=3∧x.dir=false:=by
 unfold partOk at hok
 rw[if_neg h1,if_neg h2]at hok
 split at hok
 ·rename_i h3;exact⟨h3,by simpa using hok⟩
 ·cases hok
theorem mp1_dir (hv:DiskValid d=true)(hT:TOK T d.tree)(hok:partOk x=true)(h1:x.kind=1)(hf:T.find x.path=none)(hd:x.dir=true):mkPart d x=DiskDir d x.path:=by
 rw[mk1 h1,←make14 hv (mp_at hT hf)]
 obtain⟨kd,p,dr,b⟩:=x
 have hb:=ok1 hok h1 hd
 cases h1;cases hd;cases hb;rfl
theorem mp1_file (hT:TOK T d.tree)(h1:x.kind=1)(hf:T.find x.path=none)(hd:x.dir=false):mkPart d x=DiskWrite d x.path x.bytes:=by
 rw[mk1 h1]
 unfold l14Make
 simp[h1,mp_at hT hf,hd]
theorem mp1_no (hT:TOK T d.tree)(h1:x.kind=1)(hf:T.find x.path=some k):mkPart d x=none:=by
 obtain⟨i,y,hi,_⟩:=mp_some hT hf
 rw[mk1 h1]
 unfold l14Make
 simp[h1,hi]
theorem mp2_yes (hv:DiskValid d=true)(hT:TOK T d.tree)(hok:partOk x=true)(h2:x.kind=2)(hf:T.find x.path=some k)(hd:k.dir=x.dir):mkPart d x=DiskDrop d x.path:=by
 obtain⟨i,y,hi,hy,e⟩:=mp_some hT hf
 rw[mk2 h2,←drop14 hv hi hy 2]
 obtain⟨kd,p,dr,b⟩:=x
 have hb:=ok2 hok h2
 have hyd:y.dir=dr:=e.trans hd
 cases h2;cases hb;rw[hyd];rfl
theorem mp2_no (hT:TOK T d.tree)(h2:x.kind=2)(hf:T.find x.path=none):mkPart d x=none:=by rw[mk2 h2,sdrop_at (mp_at hT hf)]
theorem mp2_dir (hv:DiskValid d=true)(hT:TOK T d.tree)(h2:x.kind=2)(hf:T.find x.path=some k)(hd:k.dir≠x.dir):mkPart d x=none:=by
 obtain⟨i,y,hi,hy,e⟩:=mp_some hT hf
 rw[mk2 h2,sdrop_dir hv hi hy (by rw[e];exact hd)]
theorem mp3_file (hv:DiskValid d=true)(hT:TOK T d.tree)(hok:partOk x=true)(h1:x.kind≠1)(h2:x.kind≠2)(hf:T.find x.path=some k)(hd:k.dir=false):mkPart d x=DiskWrite d x.path x.bytes:=by
 obtain⟨h3,hx⟩:=ok3 hok h1 h2
 obtain⟨i,y,hi,hy,e⟩:=mp_some hT hf
 rw[mk3 h3,mk_file3 hv hi hy h3 hx (e.trans hd)]
theorem mp3_no (hT:TOK T d.tree)(hok:partOk x=true)(h1:x.kind≠1)(h2:x.kind≠2)(hf:T.find x.path=none):mkPart d x=none:=by
 obtain⟨h3,hx⟩:=ok3 hok h1 h2
 have hn:=mp_at hT hf
 rw[mk3 h3]
 unfold l14Make fileAt
 rw[if_neg]
 have h0 : d.tree.any (fun y => decide (y.path = x.path) && !y.dir) = false := by
  rw[List.any_eq_false]
  intro z hz
  have:=List.findIdx?_eq_none_iff.1 hn z hz
  simp only[decide_eq_false_iff_not]at this
  simp[this]
 simp[h3,h0]
theorem mp3_dir (hv:DiskValid d=true)(hT:TOK T d.tree)(hok:partOk x=true)(h1:x.kind≠1)(h2:x.kind≠2)(hf:T.find x.path=some k)(hd:k.dir=true):mkPart d x=none:=by
 obtain⟨h3,hx⟩:=ok3 hok h1 h2
 obtain⟨i,y,hi,hy,e⟩:=mp_some hT hf
 rw[mk3 h3,mk_dir hv hi hy h3 (.inr (e.trans hd))]
end
def chP (c:BChange):BPart:=⟨c.kind,c.item.path,c.item.dir,c.item.ids⟩
section
variable {a b:List BItem} {i k:Nat} {x y:BItem}
theorem dropc {l:List BItem}{k:Nat}{x:BItem}(h:l[k]? = some x):l.drop k=x::l.drop (k+1):=by
 obtain⟨hk,e⟩:=List.getElem?_eq_some_iff.1 h
 rw[List.drop_eq_getElem_cons hk,e]
theorem chg_gone1 (hx:a[i]? = some x)(hk:b.length≤k):chg (a.drop i) (b.drop k)=⟨2,x⟩::chg (a.drop (i+1)) (b.drop k):=by
 rw[List.drop_eq_nil_of_le hk,dropc hx,chg]
theorem chg_gone2 (hx:a[i]? = some x)(hy:b[k]? = some y)(h:lt x.path y.path=true):chg (a.drop i) (b.drop k)=⟨2,x⟩::chg (a.drop (i+1)) (b.drop k):=by
 rw[dropc hx,dropc hy,chg,if_pos h]
theorem chg_new1 (hi:a.length≤i)(hy:b[k]? = some y):chg (a.drop i) (b.drop k)=⟨1,y⟩::chg (a.drop i) (b.drop (k+1)):=by
 rw[List.drop_eq_nil_of_le hi,dropc hy,chg,chg];rfl
theorem chg_new2 (hx:a[i]? = some x)(hy:b[k]? = some y)(h0:lt x.path y.path=false)(h:lt y.path x.path=true):chg (a.drop i) (b.drop k)=⟨1,y⟩::chg (a.drop i) (b.drop (k+1)):=by
 rw[dropc hx,dropc hy,chg,if_neg (by simp[h0]),if_pos h]
theorem chg_kind (hx:a[i]? = some x)(hy:b[k]? = some y)(h0:lt x.path y.path=false)(h1:lt y.path x.path=false)(hd:x.dir≠y.dir):chg (a.drop i) (b.drop k)=⟨2,x⟩::⟨1,y⟩::chg (a.drop (i+1)) (b.drop (k+1)):=by
 rw[dropc hx,dropc hy,chg,if_neg (by simp[h0]),if_neg (by simp[h1]),if_pos hd];rfl
theorem chg_same (hx:a[i]? = some x)(hy:b[k]? = some y)(h0:lt x.path y.path=false)(h1:lt y.path x.path=false)(hd:x.dir=y.dir)(hs:l13Same x y=true):chg (a.drop i) (b.drop k)=chg (a.drop (i+1)) (b.drop (k+1)):=by
 rw[dropc hx,dropc hy,chg,if_neg (by simp[h0]),if_neg (by simp[h1]),if_neg (by simp[hd]),if_pos hs];rfl
theorem chg_other (hx:a[i]? = some x)(hy:b[k]? = some y)(h0:lt x.path y.path=false)(h1:lt y.path x.path=false)(hd:x.dir=y.dir)(hs:l13Same x y=false):chg (a.drop i) (b.drop k)=⟨3,y⟩::chg (a.drop (i+1)) (b.drop (k+1)):=by
 rw[dropc hx,dropc hy,chg,if_neg (by simp[h0]),if_neg (by simp[h1]),if_neg (by simp[hd]),if_neg (by simp[hs])];rfl
theorem chg_end (hi:a.length≤i)(hk:b.length≤k):chg (a.drop i) (b.drop k)=[]:=by
 rw[List.drop_eq_nil_of_le hi,List.drop_eq_nil_of_le hk,chg];rfl
def CG (a b:List BItem)(i k:Nat)(xs:List BPart):Prop:=(chg a b).map chP=xs++(chg (a.drop i) (b.drop k)).map chP
theorem CG.zero:CG a b 0 0 []:=by simp[CG]
theorem CG.step {xs:List BPart}{c:List BChange}{i' k':Nat}(h:CG a b i k xs)(e:chg (a.drop i) (b.drop k)=c++chg (a.drop i') (b.drop k')):CG a b i' k' (xs++c.map chP):=by
 unfold CG at h ⊢
 rw[h,e,List.map_append,List.append_assoc]
theorem CG.done {xs:List BPart}(h:CG a b i k xs)(hi:a.length≤i)(hk:b.length≤k):xs=(chg a b).map chP:=by
 unfold CG at h
 rw[h,chg_end hi hk];simp
end
section
variable {a b:List BItem} {i k:Nat} {x y:BItem}
def pathB (o p : Option BItem) : Bool := match o, p with
 | some x,some y=>lt x.path y.path
 | _,_=>false
def moreB (a b:List BItem)(i k:Nat):Bool:=decide (i<a.length)||decide (k<b.length)
def goneB (a b:List BItem)(i k:Nat):Bool:=decide (b.length≤k)||pathB a[i]? b[k]?
def newB (a b:List BItem)(i k:Nat):Bool:=decide (a.length≤i)||pathB b[k]? a[i]?
theorem gone_lt (hm:moreB a b i k=true)(hg:goneB a b i k=true):i<a.length:=by
 unfold moreB at hm
 unfold goneB at hg
 rcases Nat.lt_or_ge i a.length with h|h
 ·exact h
 ·rw[List.getElem?_eq_none h]at hg
  simp[pathB]at hm hg
  omega
theorem new_lt (hg:goneB a b i k=false):k<b.length:=by
 unfold goneB at hg
 simp at hg
 omega
theorem both_lt (hn:newB a b i k=false):i<a.length:=by
 unfold newB at hn
 simp at hn
 omega
theorem moreB_no (hm:moreB a b i k=false):a.length≤i∧b.length≤k:=by
 unfold moreB at hm
 simp at hm
 omega
theorem chg_goneB (hx:a[i]? = some x)(hg:goneB a b i k=true):chg (a.drop i) (b.drop k)=[⟨2,x⟩]++chg (a.drop (i+1)) (b.drop k):=by
 rcases Nat.lt_or_ge k b.length with h|h
 ·have hy:b[k]? = some b[k]:=List.getElem?_eq_getElem h
  refine chg_gone2 hx hy ?_
  unfold goneB at hg
  rw[hx,hy,decide_eq_false (by omega)]at hg
  simpa [pathB] using hg
 ·exact chg_gone1 hx h
theorem goneB_no (hx:a[i]? = some x)(hy:b[k]? = some y)(hg:goneB a b i k=false):lt x.path y.path=false:=by
 unfold goneB at hg
 rw[hx,hy]at hg
 simp[pathB]at hg
 exact hg.2
theorem newB_no (hx:a[i]? = some x)(hy:b[k]? = some y)(hn:newB a b i k=false):lt y.path x.path=false:=by
 unfold newB at hn
 rw[hx,hy]at hn
 simp[pathB]at hn
 exact hn.2
theorem chg_newB (hy:b[k]? = some y)(hg:goneB a b i k=false)(hn:newB a b i k=true):chg (a.drop i) (b.drop k)=[⟨1,y⟩]++chg (a.drop i) (b.drop (k+1)):=by
 rcases Nat.lt_or_ge i a.length with h|h
 ·have hx:a[i]? = some a[i]:=List.getElem?_eq_getElem h
  refine chg_new2 hx hy (goneB_no hx hy hg) ?_
  unfold newB at hn
  rw[hx,hy,decide_eq_false (by omega)]at hn
  simpa [pathB] using hn
 ·exact chg_new1 h hy
end
section
variable {a b:List BItem} {i k:Nat} {x y:BItem}
theorem goneB_t (h:b.length≤k):true=goneB a b i k:=by unfold goneB;rw[decide_eq_true h];rfl
theorem goneB_f (h1:¬b.length≤k)(h2:a.length≤i):false=goneB a b i k:=by unfold goneB;rw[decide_eq_false h1,List.getElem?_eq_none h2];rfl
theorem goneB_c (hx:a[i]? = some x)(hy:b[k]? = some y)(h1:¬b.length≤k):lt x.path y.path=goneB a b i k:=by unfold goneB;rw[decide_eq_false h1,hx,hy];rfl
theorem newB_t (h:a.length≤i):true=newB a b i k:=by unfold newB;rw[decide_eq_true h];rfl
theorem newB_c (hx:a[i]? = some x)(hy:b[k]? = some y)(h1:¬a.length≤i):lt y.path x.path=newB a b i k:=by unfold newB;rw[decide_eq_false h1,hx,hy];rfl
end
section
variable {d:BDisk} {n:Bs}
theorem lt_nil (h:n=[]):l14Tree d n=some []:=by unfold l14Tree;rw[if_pos h]
theorem lt_no (h:¬n=[])(ha:atS d.snaps n=none):l14Tree d n=none:=by unfold l14Tree;rw[if_neg h,ha];rfl
theorem lt_yes (h:¬n=[]){i:Nat}{x:BSnap}(ha:atS d.snaps n=some i)(hx:d.snaps[i]? = some x):l14Tree d n=some x.tree:=by unfold l14Tree;rw[if_neg h,ha];simp[hx]
theorem lt_valid (hd:DiskValid d=true){t:List BItem}(h:l14Tree d n=some t):TreeValid t=true:=by
 unfold l14Tree at h
 split at h
 ·cases h;rfl
 ·cases e:atS d.snaps n with
  | none=>rw[e]at h;cases h
  | some i =>
   rw[e]at h
   have hlt:=(List.findIdx?_eq_some_iff_getElem.1 e).1
   simp only[Option.map_some,List.getElem?_eq_getElem hlt,Option.getD_some,Option.some.injEq]at h
   subst h
   exact((dv_parts.1 hd).2.2.2.1 i _ (List.getElem?_eq_getElem hlt)).2.2
end
theorem chg_mem (a b:List BItem):∀c,c ∈ chg a b→c.item ∈ a∨c.item ∈ b:=by
 induction a,b using chg.induct with
 | case1 b =>
  intro c h
  rw[chg]at h
  obtain⟨y,hy,rfl⟩:=List.mem_map.1 h
  exact .inr hy
 | case2 x a ih =>
  intro c h
  rw[chg]at h
  rcases List.mem_cons.1 h with rfl|h
  ·exact .inl (by simp)
  ·rcases ih c h with h|h
   ·exact .inl (by simp[h])
   ·exact .inr h
 | case3 x a y b hlt ih =>
  intro c h
  rw[chg,if_pos hlt]at h
  rcases List.mem_cons.1 h with rfl|h
  ·exact .inl (by simp)
  ·rcases ih c h with h|h
   ·exact .inl (by simp[h])
   ·exact .inr h
 | case4 x a y b h1 hlt ih =>
  intro c h
  rw[chg,if_neg h1,if_pos hlt]at h
  rcases List.mem_cons.1 h with rfl|h
  ·exact .inr (by simp)
  ·rcases ih c h with h|h
   ·exact .inl h
   ·exact .inr (by simp[h])
 | case5 x a y b h1 h2 ih =>
  intro c h
  rw[chg,if_neg h1,if_neg h2]at h
  rcases List.mem_append.1 h with h|h
  ·split at h
   ·rcases List.mem_cons.1 h with rfl|h
    ·exact .inl (by simp)
    ·rw[List.mem_singleton.1 h];exact .inr (by simp)
   ·split at h
    ·simp at h
    ·rw[List.mem_singleton.1 h];exact .inr (by simp)
  ·rcases ih c h with h|h
   ·exact .inl (by simp[h])
   ·exact .inr (by simp[h])
section
variable {d:BDisk} {f t:Bs}
def ltD (d:BDisk)(n:Bs):List BItem:=(l14Tree d n).getD []
theorem ltD_valid (hd:DiskValid d=true)(n:Bs):TreeValid (ltD d n)=true:=by
 unfold ltD
 cases e:l14Tree d n with
 | none=>rfl
 | some t=>exact lt_valid hd e
theorem ltD_ids (hd:DiskValid d=true){n:Bs}{x:BItem}(hx:x ∈ ltD d n):l4Ids d.store x.ids=true∧x.ids.length≤4:=by
 have hv:=ltD_valid hd n
 refine⟨?_,?_⟩
 ·unfold ltD at hx
  cases e:l14Tree d n with
  | none=>rw[e]at hx;simp at hx
  | some t =>
   rw[e]at hx
   by_cases h0:n=[]
   ·rw[lt_nil h0]at e;cases e;simp at hx
   ·obtain⟨i,s,_,hs,rfl⟩:=tree_name h0 e
    exact(dd_iff.1 hd).2.ids s.tree (snap_in hs) x hx
 ·obtain⟨k,hk⟩:=List.getElem?_of_mem hx
  exact(tree_at hv hk).2
def chL (d:BDisk)(f t:Bs):List BPart:=(chg (ltD d f) (ltD d t)).map chP
def pcP (S:List BHeld)(x:BPart):BPart:=⟨x.kind,x.path,x.dir,if x.kind=2 then[] else load S x.bytes⟩
theorem ch_ids (hd:DiskValid d=true){k:Nat}{x:BPart}(hx:(chL d f t)[k]? = some x):l4Ids d.store x.bytes=true∧x.bytes.length≤4:=by
 obtain⟨c,hc,rfl⟩:=List.mem_map.1 (List.mem_of_getElem? hx)
 rcases chg_mem _ _ c hc with h|h
 ·exact ltD_ids hd h
 ·exact ltD_ids hd h
theorem so_yes (hd:DiskValid d=true)(h1:(l14Tree d f).isSome=true)(h2:(l14Tree d t).isSome=true):StreamOf d f t=some ((chL d f t).map (pcP d.store)):=by
 obtain⟨a,ha⟩:=Option.isSome_iff_exists.1 h1
 obtain⟨b,hb⟩:=Option.isSome_iff_exists.1 h2
 unfold StreamOf chL ltD
 rw[if_pos hd,ha,hb,List.map_map]
 rfl
theorem so_nov (h:DiskValid d=false):StreamOf d f t=none:=by unfold StreamOf;rw[if_neg (by simp[h])]
theorem so_no1 (h:l14Tree d f=none):StreamOf d f t=none:=by unfold StreamOf;rw[h];split<;>rfl
theorem so_no2 (h:l14Tree d t=none):StreamOf d f t=none:=by
 unfold StreamOf
 rw[h]
 split
 ·cases l14Tree d f<;>rfl
 ·rfl
theorem pcP_2 {S:List BHeld}{x:BPart}(h:x.kind=2):pcP S x=⟨x.kind,x.path,x.dir,[]⟩:=by unfold pcP;rw[if_pos h]
theorem pcP_n {S:List BHeld}{x:BPart}(h:x.kind≠2):pcP S x=⟨x.kind,x.path,x.dir,load S x.bytes⟩:=by unfold pcP;rw[if_neg h]
theorem pc_snoc {S:List BHeld}{l:List BPart}{k:Nat}{x y:BPart}(hz:l[k]? = some x)(h:pcP S x=y):(l.take k).map (pcP S)++[y]=(l.take (k+1)).map (pcP S):=by
 rw[take_snoc' hz,List.map_append,←h];rfl
end
theorem chg_len (a b:List BItem):(chg a b).length≤a.length+b.length:=by
 induction a,b using chg.induct with
 | case1 b=>rw[chg];simp
 | case2 x a ih=>rw[chg];simp at ih ⊢;omega
 | case3 x a y b hlt ih=>rw[chg,if_pos hlt];simp at ih ⊢;omega
 | case4 x a y b h1 hlt ih=>rw[chg,if_neg h1,if_pos hlt];simp at ih ⊢;omega
 | case5 x a y b h1 h2 ih =>
  rw[chg,if_neg h1,if_neg h2,List.length_append]
  have : (if x.dir ≠ y.dir then [(⟨2, x⟩ : BChange), ⟨1, y⟩] else if l13Same x y = true then [] else [⟨3, y⟩]).length ≤ 2 := by
   split
   ·simp
   ·split<;>simp
  simp only[List.length_cons]
  omega
theorem chL_len {d:BDisk}(hd:DiskValid d=true)(f t:Bs):(chL d f t).length≤24:=by
 unfold chL
 rw[List.length_map]
 have h1:=tree_len (ltD_valid hd f)
 have h2:=tree_len (ltD_valid hd t)
 have:=chg_len (ltD d f) (ltD d t)
 omega
theorem so_get {d:BDisk}{f t:Bs}{ps:List BPart}(h:StreamOf d f t=some ps):DiskValid d=true∧ps=(chL d f t).map (pcP d.store):=by
 obtain⟨hd,ta,tb,h1,h2,rfl⟩:=stream_get h
 refine⟨hd,?_⟩
 unfold chL ltD
 rw[h1,h2,List.map_map]
 rfl
theorem so_len (d:BDisk)(f t:Bs):((StreamOf d f t).getD []).length≤24:=by
 cases h:StreamOf d f t with
 | none=>simp
 | some ps =>
  obtain⟨hd,rfl⟩:=so_get h
  simp only[Option.getD_some,List.length_map]
  exact chL_len hd f t
def tfDir (l:List BItem)(p:Bs):Bool:=((TreeFind l p).getD ⟨[],false,[]⟩).dir
theorem hasP_some (l:List BItem)(p:Bs):hasP l p=(TreeFind l p).isSome:=by
 unfold hasP TreeFind
 cases TreeValid l with
 | false=>rfl
 | true =>
  cases e:atI l p with
  | none=>rfl
  | some i =>
   have hlt:=(List.findIdx?_eq_some_iff_getElem.1 e).1
   simp[List.getElem?_eq_getElem hlt]
theorem tfd_yes {T k:Nd}{l:List BItem}{p:Bs}(h:TOK T l)(hf:T.find p=some k):tfDir l p=k.dir:=by
 have:=find_list h p
 rw[hf]at this
 unfold tfDir TreeFind
 rw[if_pos (tvalid_iff.2 h.vt),←this]
 rfl
theorem tfd_no {l:List BItem}{p:Bs}(h:hasP l p=false):tfDir l p=false:=by
 rw[hasP_some]at h
 unfold tfDir
 cases e:TreeFind l p with
 | none=>rfl
 | some x=>rw[e]at h;cases h
def pathAt (l:List BPart)(i:Nat):Bs:=((l[i]?).map (·.path)).getD []
def cntP (l:List BPart)(i k:Nat):Nat:=(l.take k).countP (fun y=>decide (y.path=pathAt l i))
section
variable {l:List BPart} {i k nn:Nat} {x y:BPart}
theorem cntP_step (hk : l[k]? = some y) (hi : l[i]? = some x) : cntP l i (k + 1) = cntP l i k + (if y.path = x.path then 1 else 0) := by
 unfold cntP
 have hp:pathAt l i=x.path:=by simp[pathAt,hi]
 rw[List.take_add_one,hk,hp,List.countP_append]
 simp
theorem cntP_le (h:k≤l.length):cntP l i k≤l.length:=by
 unfold cntP
 have:=List.countP_le_length (p:=fun y:BPart=>decide (y.path=pathAt l i)) (l:=l.take k)
 rw[List.length_take]at this
 omega
theorem rf_law {d d1:BDisk}(h:StreamRun d l=some d1)(hi:l[i]? = some x)(hn:nn=cntP l i k)(hk:l.length≤k)(h1:nn=1):hasP d1.tree x.path= !decide (x.kind=2)∧(x.kind≠2→tfDir d1.tree x.path=x.dir):=by
 have hp:pathN l x.path=1:=by
  rw[h1]at hn
  unfold cntP at hn
  rw[List.take_of_length_le hk]at hn
  unfold pathN
  rw[hn]
  simp[pathAt,hi]
 rw[hasP_some]
 exact run_once h hi hp
end
end Sp
namespace Go.Proofs.Tst
open Go Fw Tryz
theorem bf27:BuildFact Tryz.prog 27 [(0,1),(1,1),(2,1)] [.slice none 0 0,.slice none 0 0,.slice none 0 0]:=buildFact zeroValue27 runUnderlying27 (fun w=>by simp[sizeOf23,sizeOf24,sizeOf25])
theorem bf39:BuildFact Tryz.prog 39 [(0,1),(1,1),(2,1),(3,1)] [.int .i64 0,str [],.bool false,.slice none 0 0]:=buildFact zeroValue39 runUnderlying39 (fun w=>by simp[sizeOf3,sizeOf4,sizeOf9,sizeOf37])
theorem bf41:BuildFact Tryz.prog 41 [(0,1),(1,1),(2,1)] [str [],.bool false,.slice none 0 0]:=buildFact zeroValue41 runUnderlying41 (fun w=>by simp[sizeOf4,sizeOf9,sizeOf37])
theorem bf67:BuildFact Tryz.prog 67 [(0,1),(1,1)] [str [],.slice none 0 0]:=buildFact zeroValue67 runUnderlying67 (fun w=>by simp[sizeOf9,sizeOf24])
theorem bf90:BuildFact Tryz.prog 90 [(0,1),(1,1),(2,1),(3,1)] [str [],.bool false,.slice none 0 0,.slice none 0 0]:=buildFact zeroValue90 runUnderlying90 (fun w=>by simp[sizeOf4,sizeOf9,sizeOf37,sizeOf88])
theorem bf106:BuildFact Tryz.prog 106 [(0,1),(1,3)] [.int .i64 0,str [],.bool false,.slice none 0 0]:=buildFact zeroValue106 runUnderlying106 (fun w=>by simp[sizeOf3,sizeOf41])
theorem bf130:BuildFact Tryz.prog 130 [(0,1),(1,1)] [.slice none 0 0,.int .i64 0]:=buildFact zeroValue130 runUnderlying130 (fun w=>by simp[sizeOf3,sizeOf22])
theorem bf132:BuildFact Tryz.prog 132 [(0,1),(1,1)] [.slice none 0 0,.slice none 0 0]:=buildFact zeroValue132 runUnderlying132 (fun w=>by simp[sizeOf23,sizeOf24])
theorem bf139:BuildFact Tryz.prog 139 [(0,1),(1,1),(2,1)] [.int .i64 0,.slice none 0 0,.int .i64 0]:=buildFact zeroValue139 runUnderlying139 (fun w=>by simp[sizeOf3,sizeOf37])
theorem bf149:BuildFact Tryz.prog 149 [(0,1),(1,1)] [.map none,.pointer none]:=buildFact zeroValue149 runUnderlying149 (fun w=>by simp[sizeOf84,sizeOf147])
theorem bf161:BuildFact Tryz.prog 161 [(0,2),(2,2),(4,1)] [.int .i32 0,.int .u32 0,.map none,.pointer none,.slice none 0 0]:=buildFact zeroValue161 runUnderlying161 (fun w=>by simp[sizeOf149,sizeOf158,sizeOf159])
theorem bf164:BuildFact Tryz.prog 164 [(0,1),(1,1)] [str [],.pointer none]:=buildFact zeroValue164 runUnderlying164 (fun w=>by simp[sizeOf9,sizeOf84])
theorem bf254:BuildFact Tryz.prog 254 [(0,1),(1,1)] [.slice none 0 0,.int .i64 0]:=buildFact zeroValue254 runUnderlying254 (fun w=>by simp[sizeOf3,sizeOf37])
end Go.Proofs.Tst
namespace Go.Proofs
open Go.Shelf
def Tryz.keysA_ren:Go.Shelf.Ren:=⟨fun|7=>163|10=>197|n=>n,fun|23=>147|26=>3|3=>139|28=>219|0=>0|27=>218|33=>239|4=>4|n=>n,fun|n=>n⟩
theorem Tryz.keysA:Go.Proofs.SlLaysZI.n7 Tryz.prog Tryz.keysA_ren:={
 mixed:=by kernel_rfl
 f7:=⟨Tryz.f163.name,by decide,Tryz.func163.trans (congrArg some (by kernel_rfl))⟩
 f10:=⟨Tryz.f197.name,by decide,Tryz.func197.trans (congrArg some (by kernel_rfl))⟩
 t0:=Tryz.underlying0
 a0:=Tryz.isAgg0
 z0:=Tryz.sizeOf0
 v0:=Tryz.zeroValue0
 t4:=Tryz.underlying4
 a4:=Tryz.isAgg4
 z4:=Tryz.sizeOf4
 v4:=Tryz.zeroValue4
 t23:=Tryz.underlying147
 a23:=Tryz.isAgg147
 z23:=Tryz.sizeOf147
 v23:=Tryz.zeroValue147
 t26:=Tryz.underlying3
 a26:=Tryz.isAgg3
 z26:=Tryz.sizeOf3
 v26:=Tryz.zeroValue3
 t27:=Tryz.underlying218
 a27:=Tryz.isAgg218
 z27:=Tryz.sizeOf218
 v27:=Tryz.zeroValue218
 t28:=Tryz.underlying219
 a28:=Tryz.isAgg219
 z28:=Tryz.sizeOf219
 v28:=Tryz.zeroValue219
 t33:=Tryz.underlying239
 a33:=Tryz.isAgg239
 z33:=Tryz.sizeOf239
 v33:=Tryz.zeroValue239}
def Tryz.sortedA_ren:Go.Shelf.Ren:=⟨fun|6=>162|8=>195|9=>196|11=>224|13=>226|12=>225|23=>242|24=>243|14=>233|15=>234|16=>235|17=>236|18=>237|19=>238|20=>239|21=>240|22=>241|25=>249|26=>250|27=>251|28=>252|29=>253|30=>254|31=>258|n=>n,fun|26=>3|28=>219|24=>37|0=>0|3=>3|37=>258|48=>154|50=>282|4=>4|40=>274|39=>273|45=>224|5=>5|9=>9|51=>288|55=>292|57=>295|58=>296|33=>239|n=>n,fun|n=>n⟩
theorem Tryz.sortedA:Go.Proofs.SlLaysZI.n6 Tryz.prog Tryz.sortedA_ren:={
 mixed:=by kernel_rfl
 f6:=⟨Tryz.f162.name,by decide,Tryz.func162.trans (congrArg some (by kernel_rfl))⟩
 f8:=⟨Tryz.f195.name,by decide,Tryz.func195.trans (congrArg some (by kernel_rfl))⟩
 f11:=⟨Tryz.f224.name,by decide,Tryz.func224.trans (congrArg some (by kernel_rfl))⟩
 t0:=Tryz.underlying0
 a0:=Tryz.isAgg0
 z0:=Tryz.sizeOf0
 v0:=Tryz.zeroValue0
 t24:=Tryz.underlying37
 a24:=Tryz.isAgg37
 z24:=Tryz.sizeOf37
 v24:=Tryz.zeroValue37
 t26:=Tryz.underlying3
 a26:=Tryz.isAgg3
 z26:=Tryz.sizeOf3
 v26:=Tryz.zeroValue3
 t28:=Tryz.underlying219
 a28:=Tryz.isAgg219
 z28:=Tryz.sizeOf219
 v28:=Tryz.zeroValue219
 i26:=by kernel_rfl}
def Tryz.sortA_ren:Go.Shelf.Ren:=⟨fun|5=>196|8=>226|7=>225|19=>242|20=>243|10=>233|11=>234|12=>235|13=>236|14=>237|15=>238|16=>239|17=>240|18=>241|30=>249|31=>250|32=>251|33=>252|34=>253|35=>254|40=>258|n=>n,fun|23=>37|25=>3|3=>3|32=>258|22=>37|0=>0|44=>154|46=>282|4=>4|36=>274|35=>273|41=>224|5=>5|9=>9|53=>288|57=>292|63=>295|64=>296|n=>n,fun|n=>n⟩
theorem Tryz.sortA:Go.Proofs.SlLaysM.n5 Tryz.prog Tryz.sortA_ren:={
 mixed:=by kernel_rfl
 f5:=⟨Tryz.f196.name,by decide,Tryz.func196.trans (congrArg some (by kernel_rfl))⟩
 f7:=⟨Tryz.f225.name,by decide,Tryz.func225.trans (congrArg some (by kernel_rfl))⟩
 f8:=Tryz.func226.trans (congrArg some (by kernel_rfl))
 f10:=⟨Tryz.f233.name,by decide,Tryz.func233.trans (congrArg some (by kernel_rfl))⟩
 f11:=⟨Tryz.f234.name,by decide,Tryz.func234.trans (congrArg some (by kernel_rfl))⟩
 f12:=⟨Tryz.f235.name,by decide,Tryz.func235.trans (congrArg some (by kernel_rfl))⟩
 f13:=⟨Tryz.f236.name,by decide,Tryz.func236.trans (congrArg some (by kernel_rfl))⟩
 f14:=⟨Tryz.f237.name,by decide,Tryz.func237.trans (congrArg some (by kernel_rfl))⟩
 f15:=⟨Tryz.f238.name,by decide,Tryz.func238.trans (congrArg some (by kernel_rfl))⟩
 f16:=⟨Tryz.f239.name,by decide,Tryz.func239.trans (congrArg some (by kernel_rfl))⟩
 f17:=⟨Tryz.f240.name,by decide,Tryz.func240.trans (congrArg some (by kernel_rfl))⟩
 f18:=⟨Tryz.f241.name,by decide,Tryz.func241.trans (congrArg some (by kernel_rfl))⟩
 f19:=Tryz.func242.trans (congrArg some (by kernel_rfl))
 f20:=Tryz.func243.trans (congrArg some (by kernel_rfl))
 f30:=⟨Tryz.f249.name,by decide,Tryz.func249.trans (congrArg some (by kernel_rfl))⟩
 f31:=Tryz.func250.trans (congrArg some (by kernel_rfl))
 f32:=Tryz.func251.trans (congrArg some (by kernel_rfl))
 f33:=⟨Tryz.f252.name,by decide,Tryz.func252.trans (congrArg some (by kernel_rfl))⟩
 f34:=⟨Tryz.f253.name,by decide,Tryz.func253.trans (congrArg some (by kernel_rfl))⟩
 f35:=⟨Tryz.f254.name,by decide,Tryz.func254.trans (congrArg some (by kernel_rfl))⟩
 f40:=⟨Tryz.f258.name,by decide,Tryz.func258.trans (congrArg some (by kernel_rfl))⟩
 t0:=Tryz.underlying0
 a0:=Tryz.isAgg0
 z0:=Tryz.sizeOf0
 v0:=Tryz.zeroValue0
 t3:=Tryz.underlying3
 a3:=Tryz.isAgg3
 z3:=Tryz.sizeOf3
 v3:=Tryz.zeroValue3
 t4:=Tryz.underlying4
 a4:=Tryz.isAgg4
 z4:=Tryz.sizeOf4
 v4:=Tryz.zeroValue4
 t5:=Tryz.underlying5
 a5:=Tryz.isAgg5
 z5:=Tryz.sizeOf5
 v5:=Tryz.zeroValue5
 t9:=Tryz.underlying9
 a9:=Tryz.isAgg9
 z9:=Tryz.sizeOf9
 v9:=Tryz.zeroValue9
 t22:=Tryz.underlying37
 a22:=Tryz.isAgg37
 z22:=Tryz.sizeOf37
 v22:=Tryz.zeroValue37
 t23:=Tryz.underlying37
 a23:=Tryz.isAgg37
 z23:=Tryz.sizeOf37
 v23:=Tryz.zeroValue37
 t25:=Tryz.underlying3
 a25:=Tryz.isAgg3
 z25:=Tryz.sizeOf3
 v25:=Tryz.zeroValue3
 t32:=Tryz.underlying258
 a32:=Tryz.isAgg258
 z32:=Tryz.sizeOf258
 v32:=Tryz.zeroValue258
 t35:=Tryz.underlying273
 a35:=Tryz.isAgg273
 z35:=Tryz.sizeOf273
 v35:=Tryz.zeroValue273
 t36:=Tryz.underlying274
 a36:=Tryz.isAgg274
 z36:=Tryz.sizeOf274
 v36:=Tryz.zeroValue274
 t41:=Tryz.underlying224
 a41:=Tryz.isAgg224
 z41:=Tryz.sizeOf224
 v41:=Tryz.zeroValue224
 t44:=Tryz.underlying154
 a44:=Tryz.isAgg154
 z44:=Tryz.sizeOf154
 v44:=Tryz.zeroValue154
 t46:=Tryz.underlying282
 a46:=Tryz.isAgg282
 z46:=Tryz.sizeOf282
 v46:=Tryz.zeroValue282
 t53:=Tryz.underlying288
 a53:=Tryz.isAgg288
 z53:=Tryz.sizeOf288
 v53:=Tryz.zeroValue288
 t57:=Tryz.underlying292
 a57:=Tryz.isAgg292
 z57:=Tryz.sizeOf292
 v57:=Tryz.zeroValue292
 t63:=Tryz.underlying295
 a63:=Tryz.isAgg295
 z63:=Tryz.sizeOf295
 v63:=Tryz.zeroValue295
 t64:=Tryz.underlying296
 a64:=Tryz.isAgg296
 z64:=Tryz.sizeOf296
 v64:=Tryz.zeroValue296}
def Tryz.lays143_ren:Go.Shelf.Ren:=⟨fun|143=>257|219=>262|217=>264|225=>265|224=>266|267=>267|266=>268|314=>269|n=>n,fun|9=>9|3=>3|4=>4|5=>5|46=>258|146=>305|51=>154|n=>n,fun|1=>0|n=>n⟩
theorem Tryz.lays143:Go.Proofs.Lays.n143 Tryz.prog Tryz.lays143_ren:={
 mixed:=by kernel_rfl
 f143:=Tryz.func257.trans (congrArg some (by kernel_rfl))
 f217:=Tryz.func264.trans (congrArg some (by kernel_rfl))
 f219:=Tryz.func262.trans (congrArg some (by kernel_rfl))
 f224:=Tryz.func266.trans (congrArg some (by kernel_rfl))
 f225:=Tryz.func265.trans (congrArg some (by kernel_rfl))
 f266:=Tryz.func268.trans (congrArg some (by kernel_rfl))
 f267:=Tryz.func267.trans (congrArg some (by kernel_rfl))
 f314:=Tryz.func269.trans (congrArg some (by kernel_rfl))
 t3:=Tryz.underlying3
 a3:=Tryz.isAgg3
 z3:=Tryz.sizeOf3
 v3:=Tryz.zeroValue3
 t4:=Tryz.underlying4
 a4:=Tryz.isAgg4
 z4:=Tryz.sizeOf4
 v4:=Tryz.zeroValue4
 t5:=Tryz.underlying5
 a5:=Tryz.isAgg5
 z5:=Tryz.sizeOf5
 v5:=Tryz.zeroValue5
 t9:=Tryz.underlying9
 a9:=Tryz.isAgg9
 z9:=Tryz.sizeOf9
 v9:=Tryz.zeroValue9
 t46:=Tryz.underlying258
 a46:=Tryz.isAgg258
 z46:=Tryz.sizeOf258
 v46:=Tryz.zeroValue258
 t51:=Tryz.underlying154
 a51:=Tryz.isAgg154
 z51:=Tryz.sizeOf154
 v51:=Tryz.zeroValue154
 t146:=Tryz.underlying305
 a146:=Tryz.isAgg305
 z146:=Tryz.sizeOf305
 v146:=Tryz.zeroValue305
 g1:=by kernel_rfl}
def Tryz.lays138_ren:Go.Shelf.Ren:=⟨fun|138=>256|195=>259|218=>261|143=>257|219=>262|217=>264|225=>265|224=>266|267=>267|266=>268|314=>269|n=>n,fun|9=>9|3=>3|4=>4|5=>5|0=>0|46=>258|146=>305|51=>154|n=>n,fun|1=>0|n=>n⟩
theorem Tryz.lays138:Go.Proofs.Lays.n138 Tryz.prog Tryz.lays138_ren:={
 mixed:=by kernel_rfl
 f138:=Tryz.func256.trans (congrArg some (by kernel_rfl))
 f143:=Tryz.func257.trans (congrArg some (by kernel_rfl))
 f195:=Tryz.func259.trans (congrArg some (by kernel_rfl))
 f217:=Tryz.func264.trans (congrArg some (by kernel_rfl))
 f218:=Tryz.func261.trans (congrArg some (by kernel_rfl))
 f219:=Tryz.func262.trans (congrArg some (by kernel_rfl))
 f224:=Tryz.func266.trans (congrArg some (by kernel_rfl))
 f225:=Tryz.func265.trans (congrArg some (by kernel_rfl))
 f266:=Tryz.func268.trans (congrArg some (by kernel_rfl))
 f267:=Tryz.func267.trans (congrArg some (by kernel_rfl))
 f314:=Tryz.func269.trans (congrArg some (by kernel_rfl))
 t0:=Tryz.underlying0
 a0:=Tryz.isAgg0
 z0:=Tryz.sizeOf0
 v0:=Tryz.zeroValue0
 t3:=Tryz.underlying3
 a3:=Tryz.isAgg3
 z3:=Tryz.sizeOf3
 v3:=Tryz.zeroValue3
 t4:=Tryz.underlying4
 a4:=Tryz.isAgg4
 z4:=Tryz.sizeOf4
 v4:=Tryz.zeroValue4
 t5:=Tryz.underlying5
 a5:=Tryz.isAgg5
 z5:=Tryz.sizeOf5
 v5:=Tryz.zeroValue5
 t9:=Tryz.underlying9
 a9:=Tryz.isAgg9
 z9:=Tryz.sizeOf9
 v9:=Tryz.zeroValue9
 t46:=Tryz.underlying258
 a46:=Tryz.isAgg258
 z46:=Tryz.sizeOf258
 v46:=Tryz.zeroValue258
 t51:=Tryz.underlying154
 a51:=Tryz.isAgg154
 z51:=Tryz.sizeOf154
 v51:=Tryz.zeroValue154
 t146:=Tryz.underlying305
 a146:=Tryz.isAgg305
 z146:=Tryz.sizeOf305
 v146:=Tryz.zeroValue305
 g1:=by kernel_rfl}
end Go.Proofs
namespace Fw
open Go Go.RowKit Go.Maps Go.Sort Go.Shelf Go.Proofs
open Go.WideElems (Fit rg)
def unitR:Value→Option (DataW Unit×List MemPlace):=fun _=>some (.agg [],[])
theorem owns_of {P:Program}{k:TypeId}{w:World}{b:Nat}{es:Array MapEntry}{clock:Nat}{xs:List (Int×Value)}(hk:P.underlying k=some (.int .i64))(hb:w.heap[b]? = some (.map es clock))(hm:MapIs (Value.int .i64) es clock xs)(hw:∀x,x ∈ xs→inI x.1)(hl:xs.length≤1000000) :
  ∃D:DataW Unit,w.ownsMap P k unitR b xs.length D∧(intKeys D).Perm (xs.map (·.1))∧Maps.size D=xs.length:=by
 have hsz:es.size=xs.length:=by have:=congrArg List.length hm.kv;simpa using this
 have hkey:∀x,x ∈ es.toList→∃y,y ∈ xs∧x.key= .int .i64 y.1:=by
  intro x hx
  have:(x.key,x.val) ∈ xs.map (fun y=>(Value.int .i64 y.1,y.2)):=by rw[←hm.kv];exact List.mem_map.2 ⟨x,hx,rfl⟩
  obtain⟨y,h1,h2⟩:=List.mem_map.1 this
  simp only[Prod.mk.injEq]at h2
  exact⟨y,h1,h2.1.symm⟩
 have hwf:∀a:Int,inI a→(Lit.int .i64 a).wf=true:=by
  intro a ha
  unfold inI at ha
  have h1:IntKind.i64.min= -9223372036854775808:=by decide
  have h2:IntKind.i64.max=9223372036854775807:=by decide
  simp only[Lit.wf,h1,h2]
  simp
  omega
 have hrd:∀x,x ∈ es.toList→∃y,y ∈ xs∧x.key= .int .i64 y.1∧Go.WideElems.rd P k unitR x=some (.int .i64 y.1,.agg []):=by
  intro x hx
  obtain⟨y,h1,h2⟩:=hkey x hx
  refine⟨y,h1,h2,?_⟩
  simp only[Go.WideElems.rd,h2,keyOf_int_mk hk (hwf _ (hw y h1)),unitR]
  rfl
 refine⟨.map ((es.toList.map (rg P k unitR)).foldr DataW.insert []),⟨es,clock,hb,⟨?_,⟨hm.lt,hm.born,?_⟩,?_⟩,by omega,rfl⟩,?_,?_⟩
 ·simp only[maxLen];omega
 ·have h1 : es.toList.map (·.key) = xs.map (fun x => Value.int .i64 x.1) := by
   have:=congrArg (List.map (·.1)) hm.kv
   rw[List.map_map,List.map_map]at this
   exact this
  rw[h1]
  have:(xs.map (fun x=>Value.int .i64 x.1))=(xs.map (·.1)).map (Value.int .i64):=by simp[List.map_map]
  rw[this,List.nodup_iff_pairwise_ne,List.pairwise_map]
  exact(List.nodup_iff_pairwise_ne.1 hm.nd).imp (fun h e=>h (by simpa using e))
 ·intro x hx
  obtain⟨y,_,_,h3⟩:=hrd x hx
  exact⟨_,h3⟩
 ·have hp:=(WideShapes.sorted_perm (es.toList.map (rg P k unitR))).map (fun p:Lit×DataW Unit=>intOf p.1)
  show List.Perm (List.map (fun p:Lit×DataW Unit=>intOf p.1) _) _
  refine hp.trans ?_
  rw[List.map_map]
  have key : ∀ (l : List MapEntry) (ys : List (Int × Value)), (∀ x, x ∈ l → ∃ y, y ∈ xs ∧ x.key = .int .i64 y.1 ∧ Go.WideElems.rd P k unitR x = some (.int .i64 y.1, .agg [])) → l.map (fun e => (e.key, e.val)) = ys.map (fun x => (Value.int .i64 x.1, x.2)) → l.map ((fun p : Lit × DataW Unit => intOf p.1) ∘ rg P k unitR) = ys.map (·.1) := by
   intro l
   induction l with
   | nil=>intro ys _ h;cases ys<;>simp at h ⊢
   | cons x r ih =>
    intro ys h1 h2
    cases ys with
    | nil=>simp at h2
    | cons y t =>
     simp only[List.map_cons,List.cons.injEq,Prod.mk.injEq]at h2 ⊢
     obtain⟨z,_,h3,h4⟩:=h1 x (by simp)
     rw[h2.1.1]at h3
     simp only[Value.int.injEq,true_and]at h3
     refine⟨?_,ih t (fun q hq=>h1 q (by simp[hq])) h2.2⟩
     simp only[Function.comp,rg,h4,Option.getD_some,Go.intOf]
     exact h3.symm
  rw[key es.toList xs hrd hm.kv]
 ·simp only[Maps.size]
  rw[length_sorted]
  simp[hsz]
theorem sorts_of {G : PH} {xs : List (Int × Value)} {L : List BHeld} (hS : StR G xs L) (hL : Sp.VH L) {ss : List Int} (hp : ss.Perm (xs.map (·.1))) : ss.mergeSort (fun x y => decide (x ≤ y)) = L.map (·.id) := by
 have h1:(ss.mergeSort (fun x y=>decide (x≤y))).Perm (L.map (·.id)):=(List.mergeSort_perm _ _).trans (hp.trans hS.keys)
 have h2:(ss.mergeSort (fun x y=>decide (x≤y))).Pairwise (fun x y=>decide (x≤y)=true):=List.pairwise_mergeSort (le:=fun x y:Int=>decide (x≤y)) (fun a b c h1 h2=>by simp at *; omega) (fun a b=>by simp;omega) ss
 have h3 : (L.map (·.id)).Pairwise (fun x y => decide (x ≤ y) = true) := by
  rw[List.pairwise_map]
  exact hL.asc.imp (fun h=>decide_eq_true (by omega))
 exact h1.eq_of_pairwise (fun a b _ _ h1 h2=>by have:=of_decide_eq_true h1;have:=of_decide_eq_true h2;omega) h2 h3
theorem owns_acc {w w' : World} {e : TypeId} {v : Value} {n : Nat} {cells : List Value} (h : w'.ownsRow w.heap.size e 1 v n cells) : (acc e 1 v n cells).pred (fun b => w'.heap[b]?) ∧ (∀ b, b ∈ (acc e 1 v n cells).fp → w.heap.size ≤ b) := by
 obtain⟨h1,h2⟩:=h
 refine⟨⟨h1,?_⟩,?_⟩
 ·rcases h2 with h2|⟨g,cap,cur,rfl,_,h3,h4,h5,h6,h7⟩
  ·exact .inl h2
  ·exact .inr ⟨g,cap,cur,rfl,h3,h4,h5,Nat.le_of_eq h6.symm,h7⟩
 ·rcases h2 with ⟨rfl,_⟩|⟨g,cap,cur,rfl,h3,_⟩
  ·intro b hb;rw[acc_fp_nil]at hb;cases hb
  ·intro b hb;rw[acc_fp,List.mem_singleton]at hb;rw[hb];exact h3
end Fw
namespace Go.Proofs.Tst
open Go Fw Go.Proofs Go.Sort Go.Maps Go.Shelf Go.RowKit Tryz
theorem sorts (m:Nat):AnyZI.SortsIn Tryz.prog Tryz.sortedA_ren Fence.wide m :=
  ⟨fun blk off cap ss W hH hblk hsz => callsIn_wide.2 (AnyM.slices_Sort_int Tryz.sortA blk off cap ss W hH hblk hsz),
   fun p cap W=>callsIn_wide.2 (AnyM.slices_Sort_int_none Tryz.sortA p cap W)⟩
theorem keys_c (w0 : World) (G0 : PH) (hG : PSub G0 w0) (b : Nat) : Calls Tryz.prog 163 #[.map (some b)] w0 (fun e w' => ∃ kb, e = .returned (.func (.func 197) #[] #[.pointer (some ⟨kb, 0, none⟩)]) ∧ w0.heap.size ≤ kb ∧ Ext w0 w' ∧ w'.heap[kb]? = some (cl [.map (some b)] 147)) :=
  (callsIn_wide.1 (AnyZI.keys_in Tryz.keysA Fence.wide 5 trivial rfl (some b) w0)).mono fun e w' ⟨h1, h2⟩ => by
    subst h2
    exact⟨w0.heap.size,h1,Nat.le_refl _,Ext.alloc _ _,alloc_new _ _⟩
set_option maxHeartbeats 1000000 in
theorem sorted_c (w0:World)(Bm b:Nat){es:Array MapEntry}{clock:Nat}{xs:List (Int×Value)}{L:List BHeld}{G:PH}(hB:w0.heap[Bm]? = some (cl [.map (some b)] 147))(hb:w0.heap[b]? = some (.map es clock))(hm:MapIs (Value.int .i64) es clock xs)(hS:StR G xs L)(hL:Sp.VH L) :
    Calls Tryz.prog 162 #[.func (.func 197) #[] #[.pointer (some ⟨Bm,0,none⟩)]] w0 (fun e w'=>∃v,e= .returned v∧Ext w0 w'∧(acc 3 1 v L.length (L.map (fun h=>Value.int .i64 h.id))).pred (fun b=>w'.heap[b]?)∧(∀b,b ∈ (acc 3 1 v L.length (L.map (fun h=>Value.int .i64 h.id))).fp→w0.heap.size≤b)):=by
  have hlen:=hS.len
  have hw:∀x,x ∈ xs→inI x.1:=by
    intro x hx
    have:=hS.keys.mem_iff.1 (List.mem_map.2 ⟨x,hx,rfl⟩)
    obtain⟨h,hh,e⟩:=List.mem_map.1 this
    have:=(hL.ok h hh).1
    rw[←e]
    unfold inI
    omega
  have hl16:=hL.len
  obtain⟨D,hown,hp,hsz⟩:=owns_of (P:=Tryz.prog) (k:=3) (by exact underlying3) hb hm hw oM
  have hBl:=(Array.getElem?_eq_some_iff.1 hB).1
  have hseq : SeqGives Fence.wide 2 Tryz.prog 197 #[.pointer (some ⟨Bm, 0, none⟩)] encZ (fun ss => ss.Perm (intKeys D)) (Maps.size D) w0 :=
    AnyZI.keys_gives (ρ:=Tryz.keysA_ren) {Tryz.keysA with} Fence.wide _ trivial rfl oM Bm b xs.length D w0 hBl (by simp[World.cell?,hB]) hown
  refine(callsIn_wide.1 (AnyZI.sorted_in Tryz.sortedA Fence.wide 5 trivial trivial trivial trivial Z oM (sorts _) (enters_of func196 kR Z) 197 #[.pointer (some ⟨Bm,0,none⟩)] trivial (enters_of func197 kR Z) _ _ (by simp only[maxLen];omega) oM _ hseq)).mono ?_
  rintro e w' ⟨v,ss,rfl,hS1,hrow,hnil,hbel⟩
  have hs:=sorts_of hS hL (hS1.trans hp)
  have hn:ss.length=L.length:=by have:=(hS1.trans (hp.trans hS.keys)).length_eq;simpa using this
  rw[hs,hn]at hrow
  have he:(L.map (·.id)).map encZ=L.map (fun h=>Value.int .i64 h.id):=by rw[List.map_map];rfl
  rw[he]at hrow
  obtain⟨h1,h2⟩:=owns_acc hrow
  exact⟨v,Z,Ext.of_below hbel,h1,h2⟩
end Go.Proofs.Tst
namespace Go.Proofs.Tst
open Go Fw Go.Proofs
theorem l_Index_c (w0:World)(s:Bs)(hs:s.length≤16777216)(c:UInt8):Calls Tryz.prog 257 #[str s,str [c]] w0 (Rets w0 (.int .i64 (Sp.optI (s.findIdx? (Sp.isC c))))) :=
  (Any.strings_Index_one Tryz.lays143 ⟨s.toArray⟩ c w0).mono fun e w' ⟨h1,h2⟩=>⟨by rw[h1];simp[Sp.indexByte_eq],by rw[h2];exact Ext.refl _⟩
theorem l_Count_c (w0:World)(s:Bs)(hs:s.length≤16777216)(c:UInt8):Calls Tryz.prog 256 #[str s,str [c]] w0 (Rets w0 (.int .i64 (s.count c:Int))) :=
  (Any.strings_Count_one Tryz.lays138 ⟨s.toArray⟩ c w0).mono fun e w' ⟨h1,h2⟩=>⟨by rw[h1];simp[Lib.countByte],by rw[h2];exact Ext.refl _⟩
theorem chkIds (G : PH) {L : List BHeld} (h : Sp.VH L) : Chk intE 1 G (L.map (fun h => Value.int .i64 h.id)) (L.map (·.id)) := by
  refine⟨L.map (fun h=>[Value.int .i64 h.id]),?_,by simp,fun i x hx=>?_⟩
  · clear h
    induction L with
    | nil=>rfl
    | cons a r ih=>simp only[List.map_cons,List.flatten_cons,←ih];rfl
  rw[List.getElem?_map]at hx ⊢
  cases e:L[i]? with
  | none=>simp[e]at hx
  | some y =>
    simp only[e,Option.map_some,Option.some.injEq]at hx ⊢
    subst hx
    have:=(h.at e).1
    exact⟨_,rfl,rfl,rfl,by unfold inI;omega⟩
end Go.Proofs.Tst
namespace Go.Proofs.Tst
open Go Fw
instance:CF Tryz.prog 10:=⟨Tryz.call10⟩
instance:CF Tryz.prog 100:=⟨Tryz.call100⟩
instance:CF Tryz.prog 101:=⟨Tryz.call101⟩
instance:CF Tryz.prog 102:=⟨Tryz.call102⟩
instance:CF Tryz.prog 103:=⟨Tryz.call103⟩
instance:CF Tryz.prog 104:=⟨Tryz.call104⟩
instance:CF Tryz.prog 105:=⟨Tryz.call105⟩
instance:CF Tryz.prog 106:=⟨Tryz.call106⟩
instance:CF Tryz.prog 107:=⟨Tryz.call107⟩
instance:CF Tryz.prog 108:=⟨Tryz.call108⟩
instance:CF Tryz.prog 109:=⟨Tryz.call109⟩
instance:CF Tryz.prog 11:=⟨Tryz.call11⟩
instance:CF Tryz.prog 110:=⟨Tryz.call110⟩
instance:CF Tryz.prog 111:=⟨Tryz.call111⟩
instance:CF Tryz.prog 112:=⟨Tryz.call112⟩
instance:CF Tryz.prog 113:=⟨Tryz.call113⟩
instance:CF Tryz.prog 114:=⟨Tryz.call114⟩
instance:CF Tryz.prog 115:=⟨Tryz.call115⟩
instance:CF Tryz.prog 116:=⟨Tryz.call116⟩
instance:CF Tryz.prog 117:=⟨Tryz.call117⟩
instance:CF Tryz.prog 118:=⟨Tryz.call118⟩
instance:CF Tryz.prog 119:=⟨Tryz.call119⟩
instance:CF Tryz.prog 12:=⟨Tryz.call12⟩
instance:CF Tryz.prog 123:=⟨Tryz.call123⟩
instance:CF Tryz.prog 124:=⟨Tryz.call124⟩
instance:CF Tryz.prog 125:=⟨Tryz.call125⟩
instance:CF Tryz.prog 14:=⟨Tryz.call14⟩
instance:CF Tryz.prog 143:=⟨Tryz.call143⟩
instance:CF Tryz.prog 144:=⟨Tryz.call144⟩
instance:CF Tryz.prog 145:=⟨Tryz.call145⟩
instance:CF Tryz.prog 146:=⟨Tryz.call146⟩
instance:CF Tryz.prog 147:=⟨Tryz.call147⟩
instance:CF Tryz.prog 148:=⟨Tryz.call148⟩
instance:CF Tryz.prog 149:=⟨Tryz.call149⟩
instance:CF Tryz.prog 15:=⟨Tryz.call15⟩
instance:CF Tryz.prog 150:=⟨Tryz.call150⟩
instance:CF Tryz.prog 151:=⟨Tryz.call151⟩
instance:CF Tryz.prog 152:=⟨Tryz.call152⟩
instance:CF Tryz.prog 153:=⟨Tryz.call153⟩
instance:CF Tryz.prog 154:=⟨Tryz.call154⟩
instance:CF Tryz.prog 155:=⟨Tryz.call155⟩
instance:CF Tryz.prog 156:=⟨Tryz.call156⟩
instance:CF Tryz.prog 157:=⟨Tryz.call157⟩
instance:CF Tryz.prog 158:=⟨Tryz.call158⟩
instance:CF Tryz.prog 159:=⟨Tryz.call159⟩
instance:CF Tryz.prog 162:=⟨Tryz.call162⟩
instance:CF Tryz.prog 163:=⟨Tryz.call163⟩
instance:CF Tryz.prog 164:=⟨Tryz.call164⟩
instance:CF Tryz.prog 165:=⟨Tryz.call165⟩
instance:CF Tryz.prog 166:=⟨Tryz.call166⟩
instance:CF Tryz.prog 167:=⟨Tryz.call167⟩
instance:CF Tryz.prog 168:=⟨Tryz.call168⟩
instance:CF Tryz.prog 169:=⟨Tryz.call169⟩
instance:CF Tryz.prog 170:=⟨Tryz.call170⟩
instance:CF Tryz.prog 171:=⟨Tryz.call171⟩
instance:CF Tryz.prog 172:=⟨Tryz.call172⟩
instance:CF Tryz.prog 173:=⟨Tryz.call173⟩
instance:CF Tryz.prog 174:=⟨Tryz.call174⟩
instance:CF Tryz.prog 175:=⟨Tryz.call175⟩
instance:CF Tryz.prog 176:=⟨Tryz.call176⟩
instance:CF Tryz.prog 177:=⟨Tryz.call177⟩
instance:CF Tryz.prog 178:=⟨Tryz.call178⟩
instance:CF Tryz.prog 179:=⟨Tryz.call179⟩
instance:CF Tryz.prog 18:=⟨Tryz.call18⟩
instance:CF Tryz.prog 180:=⟨Tryz.call180⟩
instance:CF Tryz.prog 181:=⟨Tryz.call181⟩
instance:CF Tryz.prog 182:=⟨Tryz.call182⟩
instance:CF Tryz.prog 183:=⟨Tryz.call183⟩
instance:CF Tryz.prog 184:=⟨Tryz.call184⟩
instance:CF Tryz.prog 185:=⟨Tryz.call185⟩
instance:CF Tryz.prog 186:=⟨Tryz.call186⟩
instance:CF Tryz.prog 198:=⟨Tryz.call198⟩
instance:CF Tryz.prog 199:=⟨Tryz.call199⟩
instance:CF Tryz.prog 200:=⟨Tryz.call200⟩
instance:CF Tryz.prog 201:=⟨Tryz.call201⟩
instance:CF Tryz.prog 202:=⟨Tryz.call202⟩
instance:CF Tryz.prog 203:=⟨Tryz.call203⟩
instance:CF Tryz.prog 206:=⟨Tryz.call206⟩
instance:CF Tryz.prog 207:=⟨Tryz.call207⟩
instance:CF Tryz.prog 208:=⟨Tryz.call208⟩
instance:CF Tryz.prog 209:=⟨Tryz.call209⟩
instance:CF Tryz.prog 210:=⟨Tryz.call210⟩
instance:CF Tryz.prog 211:=⟨Tryz.call211⟩
instance:CF Tryz.prog 212:=⟨Tryz.call212⟩
instance:CF Tryz.prog 213:=⟨Tryz.call213⟩
instance:CF Tryz.prog 214:=⟨Tryz.call214⟩
instance:CF Tryz.prog 215:=⟨Tryz.call215⟩
instance:CF Tryz.prog 216:=⟨Tryz.call216⟩
instance:CF Tryz.prog 227:=⟨Tryz.call227⟩
instance:CF Tryz.prog 228:=⟨Tryz.call228⟩
instance:CF Tryz.prog 229:=⟨Tryz.call229⟩
instance:CF Tryz.prog 231:=⟨Tryz.call231⟩
instance:CF Tryz.prog 232:=⟨Tryz.call232⟩
instance:CF Tryz.prog 244:=⟨Tryz.call244⟩
instance:CF Tryz.prog 245:=⟨Tryz.call245⟩
instance:CF Tryz.prog 246:=⟨Tryz.call246⟩
instance:CF Tryz.prog 248:=⟨Tryz.call248⟩
instance:CF Tryz.prog 256:=⟨Tryz.call256⟩
instance:CF Tryz.prog 257:=⟨Tryz.call257⟩
instance:CF Tryz.prog 31:=⟨Tryz.call31⟩
instance:CF Tryz.prog 32:=⟨Tryz.call32⟩
instance:CF Tryz.prog 33:=⟨Tryz.call33⟩
instance:CF Tryz.prog 34:=⟨Tryz.call34⟩
instance:CF Tryz.prog 35:=⟨Tryz.call35⟩
instance:CF Tryz.prog 36:=⟨Tryz.call36⟩
instance:CF Tryz.prog 37:=⟨Tryz.call37⟩
instance:CF Tryz.prog 38:=⟨Tryz.call38⟩
instance:CF Tryz.prog 39:=⟨Tryz.call39⟩
instance:CF Tryz.prog 40:=⟨Tryz.call40⟩
instance:CF Tryz.prog 41:=⟨Tryz.call41⟩
instance:CF Tryz.prog 42:=⟨Tryz.call42⟩
instance:CF Tryz.prog 43:=⟨Tryz.call43⟩
instance:CF Tryz.prog 44:=⟨Tryz.call44⟩
instance:CF Tryz.prog 45:=⟨Tryz.call45⟩
instance:CF Tryz.prog 46:=⟨Tryz.call46⟩
instance:CF Tryz.prog 47:=⟨Tryz.call47⟩
instance:CF Tryz.prog 48:=⟨Tryz.call48⟩
instance:CF Tryz.prog 49:=⟨Tryz.call49⟩
instance:CF Tryz.prog 50:=⟨Tryz.call50⟩
instance:CF Tryz.prog 51:=⟨Tryz.call51⟩
instance:CF Tryz.prog 55:=⟨Tryz.call55⟩
instance:CF Tryz.prog 56:=⟨Tryz.call56⟩
instance:CF Tryz.prog 57:=⟨Tryz.call57⟩
instance:CF Tryz.prog 63:=⟨Tryz.call63⟩
instance:CF Tryz.prog 84:=⟨Tryz.call84⟩
instance:CF Tryz.prog 85:=⟨Tryz.call85⟩
instance:CF Tryz.prog 86:=⟨Tryz.call86⟩
instance:CF Tryz.prog 87:=⟨Tryz.call87⟩
instance:CF Tryz.prog 88:=⟨Tryz.call88⟩
instance:CF Tryz.prog 89:=⟨Tryz.call89⟩
instance:CF Tryz.prog 9:=⟨Tryz.call9⟩
instance:CF Tryz.prog 90:=⟨Tryz.call90⟩
instance:CF Tryz.prog 91:=⟨Tryz.call91⟩
instance:CF Tryz.prog 92:=⟨Tryz.call92⟩
instance:CF Tryz.prog 93:=⟨Tryz.call93⟩
instance:CF Tryz.prog 94:=⟨Tryz.call94⟩
instance:CF Tryz.prog 95:=⟨Tryz.call95⟩
instance:CF Tryz.prog 96:=⟨Tryz.call96⟩
instance:CF Tryz.prog 97:=⟨Tryz.call97⟩
instance:CF Tryz.prog 98:=⟨Tryz.call98⟩
instance:CF Tryz.prog 99:=⟨Tryz.call99⟩
instance:FA Tryz.prog 106 0 0:=⟨_,_,_,Tryz.runUnderlying106,rfl,Tryz.sizeOf3,rfl⟩
instance:FA Tryz.prog 106 1 1:=⟨_,_,_,Tryz.runUnderlying106,rfl,Tryz.sizeOf41,rfl⟩
instance:FA Tryz.prog 130 0 0:=⟨_,_,_,Tryz.runUnderlying130,rfl,Tryz.sizeOf22,rfl⟩
instance:FA Tryz.prog 130 1 1:=⟨_,_,_,Tryz.runUnderlying130,rfl,Tryz.sizeOf3,rfl⟩
instance:FA Tryz.prog 132 0 0:=⟨_,_,_,Tryz.runUnderlying132,rfl,Tryz.sizeOf23,rfl⟩
instance:FA Tryz.prog 132 1 1:=⟨_,_,_,Tryz.runUnderlying132,rfl,Tryz.sizeOf24,rfl⟩
instance:FA Tryz.prog 139 0 0:=⟨_,_,_,Tryz.runUnderlying139,rfl,Tryz.sizeOf3,rfl⟩
instance:FA Tryz.prog 139 1 1:=⟨_,_,_,Tryz.runUnderlying139,rfl,Tryz.sizeOf37,rfl⟩
instance:FA Tryz.prog 139 2 2:=⟨_,_,_,Tryz.runUnderlying139,rfl,Tryz.sizeOf3,rfl⟩
instance:FA Tryz.prog 149 0 0:=⟨_,_,_,Tryz.runUnderlying149,rfl,Tryz.sizeOf147,rfl⟩
instance:FA Tryz.prog 149 1 1:=⟨_,_,_,Tryz.runUnderlying149,rfl,Tryz.sizeOf84,rfl⟩
instance:FA Tryz.prog 161 0 0:=⟨_,_,_,Tryz.runUnderlying161,rfl,Tryz.sizeOf158,rfl⟩
instance:FA Tryz.prog 161 1 2:=⟨_,_,_,Tryz.runUnderlying161,rfl,Tryz.sizeOf149,rfl⟩
instance:FA Tryz.prog 161 2 4:=⟨_,_,_,Tryz.runUnderlying161,rfl,Tryz.sizeOf159,rfl⟩
instance:FA Tryz.prog 164 0 0:=⟨_,_,_,Tryz.runUnderlying164,rfl,Tryz.sizeOf9,rfl⟩
instance:FA Tryz.prog 164 1 1:=⟨_,_,_,Tryz.runUnderlying164,rfl,Tryz.sizeOf84,rfl⟩
instance:FA Tryz.prog 254 0 0:=⟨_,_,_,Tryz.runUnderlying254,rfl,Tryz.sizeOf37,rfl⟩
instance:FA Tryz.prog 254 1 1:=⟨_,_,_,Tryz.runUnderlying254,rfl,Tryz.sizeOf3,rfl⟩
instance:FA Tryz.prog 27 0 0:=⟨_,_,_,Tryz.runUnderlying27,rfl,Tryz.sizeOf23,rfl⟩
instance:FA Tryz.prog 27 1 1:=⟨_,_,_,Tryz.runUnderlying27,rfl,Tryz.sizeOf24,rfl⟩
instance:FA Tryz.prog 27 2 2:=⟨_,_,_,Tryz.runUnderlying27,rfl,Tryz.sizeOf25,rfl⟩
instance:FA Tryz.prog 39 0 0:=⟨_,_,_,Tryz.runUnderlying39,rfl,Tryz.sizeOf3,rfl⟩
instance:FA Tryz.prog 39 1 1:=⟨_,_,_,Tryz.runUnderlying39,rfl,Tryz.sizeOf9,rfl⟩
instance:FA Tryz.prog 39 2 2:=⟨_,_,_,Tryz.runUnderlying39,rfl,Tryz.sizeOf4,rfl⟩
instance:FA Tryz.prog 39 3 3:=⟨_,_,_,Tryz.runUnderlying39,rfl,Tryz.sizeOf37,rfl⟩
instance:FA Tryz.prog 41 0 0:=⟨_,_,_,Tryz.runUnderlying41,rfl,Tryz.sizeOf9,rfl⟩
instance:FA Tryz.prog 41 1 1:=⟨_,_,_,Tryz.runUnderlying41,rfl,Tryz.sizeOf4,rfl⟩
instance:FA Tryz.prog 41 2 2:=⟨_,_,_,Tryz.runUnderlying41,rfl,Tryz.sizeOf37,rfl⟩
instance:FA Tryz.prog 67 0 0:=⟨_,_,_,Tryz.runUnderlying67,rfl,Tryz.sizeOf9,rfl⟩
instance:FA Tryz.prog 67 1 1:=⟨_,_,_,Tryz.runUnderlying67,rfl,Tryz.sizeOf24,rfl⟩
instance:FA Tryz.prog 90 0 0:=⟨_,_,_,Tryz.runUnderlying90,rfl,Tryz.sizeOf9,rfl⟩
instance:FA Tryz.prog 90 1 1:=⟨_,_,_,Tryz.runUnderlying90,rfl,Tryz.sizeOf4,rfl⟩
instance:FA Tryz.prog 90 2 2:=⟨_,_,_,Tryz.runUnderlying90,rfl,Tryz.sizeOf37,rfl⟩
instance:FA Tryz.prog 90 3 3:=⟨_,_,_,Tryz.runUnderlying90,rfl,Tryz.sizeOf88,rfl⟩
instance:AG Tryz.prog 106 true:=⟨Tryz.isAgg106⟩
instance:AG Tryz.prog 132 true:=⟨Tryz.isAgg132⟩
instance:AG Tryz.prog 139 true:=⟨Tryz.isAgg139⟩
instance:AG Tryz.prog 147 false:=⟨Tryz.isAgg147⟩
instance:AG Tryz.prog 149 true:=⟨Tryz.isAgg149⟩
instance:AG Tryz.prog 159 false:=⟨Tryz.isAgg159⟩
instance:AG Tryz.prog 164 true:=⟨Tryz.isAgg164⟩
instance:AG Tryz.prog 22 false:=⟨Tryz.isAgg22⟩
instance:AG Tryz.prog 23 false:=⟨Tryz.isAgg23⟩
instance:AG Tryz.prog 24 false:=⟨Tryz.isAgg24⟩
instance:AG Tryz.prog 25 false:=⟨Tryz.isAgg25⟩
instance:AG Tryz.prog 27 true:=⟨Tryz.isAgg27⟩
instance:AG Tryz.prog 3 false:=⟨Tryz.isAgg3⟩
instance:AG Tryz.prog 37 false:=⟨Tryz.isAgg37⟩
instance:AG Tryz.prog 39 true:=⟨Tryz.isAgg39⟩
instance:AG Tryz.prog 4 false:=⟨Tryz.isAgg4⟩
instance:AG Tryz.prog 41 true:=⟨Tryz.isAgg41⟩
instance:AG Tryz.prog 5 false:=⟨Tryz.isAgg5⟩
instance:AG Tryz.prog 67 true:=⟨Tryz.isAgg67⟩
instance:AG Tryz.prog 84 false:=⟨Tryz.isAgg84⟩
instance:AG Tryz.prog 88 false:=⟨Tryz.isAgg88⟩
instance:AG Tryz.prog 9 false:=⟨Tryz.isAgg9⟩
instance:SZ Tryz.prog 106 4:=⟨Tryz.sizeOf106⟩
instance:SZ Tryz.prog 132 2:=⟨Tryz.sizeOf132⟩
instance:SZ Tryz.prog 139 3:=⟨Tryz.sizeOf139⟩
instance:SZ Tryz.prog 147 1:=⟨Tryz.sizeOf147⟩
instance:SZ Tryz.prog 149 2:=⟨Tryz.sizeOf149⟩
instance:SZ Tryz.prog 158 2:=⟨Tryz.sizeOf158⟩
instance:SZ Tryz.prog 159 1:=⟨Tryz.sizeOf159⟩
instance:SZ Tryz.prog 164 2:=⟨Tryz.sizeOf164⟩
instance:SZ Tryz.prog 22 1:=⟨Tryz.sizeOf22⟩
instance:SZ Tryz.prog 23 1:=⟨Tryz.sizeOf23⟩
instance:SZ Tryz.prog 24 1:=⟨Tryz.sizeOf24⟩
instance:SZ Tryz.prog 25 1:=⟨Tryz.sizeOf25⟩
instance:SZ Tryz.prog 27 3:=⟨Tryz.sizeOf27⟩
instance:SZ Tryz.prog 3 1:=⟨Tryz.sizeOf3⟩
instance:SZ Tryz.prog 37 1:=⟨Tryz.sizeOf37⟩
instance:SZ Tryz.prog 39 4:=⟨Tryz.sizeOf39⟩
instance:SZ Tryz.prog 4 1:=⟨Tryz.sizeOf4⟩
instance:SZ Tryz.prog 41 3:=⟨Tryz.sizeOf41⟩
instance:SZ Tryz.prog 5 1:=⟨Tryz.sizeOf5⟩
instance:SZ Tryz.prog 67 2:=⟨Tryz.sizeOf67⟩
instance:SZ Tryz.prog 84 1:=⟨Tryz.sizeOf84⟩
instance:SZ Tryz.prog 88 1:=⟨Tryz.sizeOf88⟩
instance:SZ Tryz.prog 9 1:=⟨Tryz.sizeOf9⟩
instance:UL Tryz.prog 102 (.slice 106):=⟨Tryz.underlying102⟩
instance:UL Tryz.prog 159 (.slice 164):=⟨Tryz.underlying159⟩
instance:UL Tryz.prog 182 (.slice 9):=⟨Tryz.underlying182⟩
instance:UL Tryz.prog 22 (.slice 5):=⟨Tryz.underlying22⟩
instance:UL Tryz.prog 23 (.slice 139):=⟨Tryz.underlying23⟩
instance:UL Tryz.prog 24 (.slice 41):=⟨Tryz.underlying24⟩
instance:UL Tryz.prog 243 .string:=⟨Tryz.underlying243⟩
instance:UL Tryz.prog 25 (.slice 67):=⟨Tryz.underlying25⟩
instance:UL Tryz.prog 266 (.slice 37):=⟨Tryz.underlying266⟩
instance:UL Tryz.prog 28 (.slice 39):=⟨Tryz.underlying28⟩
instance:UL Tryz.prog 37 (.slice 3):=⟨Tryz.underlying37⟩
instance:UL Tryz.prog 88 (.slice 84):=⟨Tryz.underlying88⟩
instance:UL Tryz.prog 9 .string:=⟨Tryz.underlying9⟩
instance:ZV Tryz.prog 106 [.int .i64 0,str [],.bool false,.slice none 0 0]:=⟨_,Tryz.zeroValue106,rfl⟩
instance:ZV Tryz.prog 132 [.slice none 0 0,.slice none 0 0]:=⟨_,Tryz.zeroValue132,rfl⟩
instance:ZV Tryz.prog 139 [.int .i64 0,.slice none 0 0,.int .i64 0]:=⟨_,Tryz.zeroValue139,rfl⟩
instance:ZV Tryz.prog 149 [.map none,.pointer none]:=⟨_,Tryz.zeroValue149,rfl⟩
instance:ZV Tryz.prog 164 [str [],.pointer none]:=⟨_,Tryz.zeroValue164,rfl⟩
instance:ZV Tryz.prog 27 [.slice none 0 0,.slice none 0 0,.slice none 0 0]:=⟨_,Tryz.zeroValue27,rfl⟩
instance:ZV Tryz.prog 3 [.int .i64 0]:=⟨_,Tryz.zeroValue3,rfl⟩
instance:ZV Tryz.prog 37 [.slice none 0 0]:=⟨_,Tryz.zeroValue37,rfl⟩
instance:ZV Tryz.prog 39 [.int .i64 0,str [],.bool false,.slice none 0 0]:=⟨_,Tryz.zeroValue39,rfl⟩
instance:ZV Tryz.prog 41 [str [],.bool false,.slice none 0 0]:=⟨_,Tryz.zeroValue41,rfl⟩
instance:ZV Tryz.prog 67 [str [],.slice none 0 0]:=⟨_,Tryz.zeroValue67,rfl⟩
instance:ZV Tryz.prog 84 [.pointer none]:=⟨_,Tryz.zeroValue84,rfl⟩
instance:ZV Tryz.prog 9 [str []]:=⟨_,Tryz.zeroValue9,rfl⟩
end Go.Proofs.Tst
namespace Go.Proofs.Tst
open Go Fw Tryz
theorem l_Equal_c (w0:World)(G0:PH)(hG:PSub G0 w0)(va:Value)(a:List (Int))(ha:RdI G0 va a)(vb:Value)(b:List (Int))(hb:RdI G0 vb b) :
  Calls Tryz.prog 174 #[va,vb] w0 (Rets w0 (.bool (Sp.l2Same a b))):=by
 obtain⟨aa,ka,rfl⟩:=ha.shape
 have hlima:a.length≤1099511627776:=ha.lim
 obtain⟨ab,kb,rfl⟩:=hb.shape
 have hlimb:b.length≤1099511627776:=hb.lim
 have H:=Hp.init hG
 refine calls_of_W (l:=[.slice aa a.length ka,.slice ab b.length kb]) func174 Z ntmps174 Z (q2 (aG Z (q3 (W_seq (q2 (mV Z (lN Z (mV Z (lN Z (pe 1 Z (q3 ?_)))))))))))
 refine W_cond Z ?_ ?_
 ·intro hc1
  try simp only[nrm]at hc1
  refine q2 (aG Z (q3 (W_ret (N_K_ret (rt1 results174 Z ?_)))))
  exact H.rets (congrArg Value.bool (by unfold Sp.l2Same;exact Sp.ne_len oM))
 intro hc1'
 try simp only[nrm]at hc1'
 refine W_skip (N_K (W_seq (q2 (mV Z (lN Z (mV Z (q3 (W_block ?_))))))))
 refine W_lp (hf:=(Sub.cons (t:=0) Z (Sub.cons (t:=1) Z (Sub.cons (t:=12) Z Sub.nil)))) (J:=fun M w m=>∃(k:Nat) (G:PH),M=[(13,.int .i64 (k:Int))]∧PLe G0 G∧Hp w0 G0 [] w G []∧(k≤a.length∧a.take k=b.take k)∧m=(a.length-k)) (h0:=⟨0,_,Z,PLe.refl _,H,?inv,Z⟩) (round:=?round)
 case inv=>exact⟨by omega,by simp⟩
 case round =>
  rintro _ _ _ ⟨k,G2,rfl,hle2,H,hinv2,rfl⟩
  have ha:=ha.up hle2
  have hb:=hb.up hle2
  obtain⟨_,hall⟩:=hinv2
  refine q2 (pe 1 Z (q3 (W_seq ?_)))
  refine W_cond Z ?_ ?_
  ·intro hc3
   try simp only[nrm]at hc3
   refine W_skip (N_K (W_seq (W_block (q2 (pe 2 Z (q3 (W_seq (W_drawK [] 9 H kR Z ?_))))))));intro _ H;have hd4:=PLe.refl G2
   refine dE 0 Z2 (dE 1 Z2 ?_)
   have hl5:=ha.len
   obtain⟨_,_,_,_,ha5,hz5,hq5,hE5,hrow5,_⟩:=ha.at (i:=k) oM
   clear hq5
   obtain⟨rfl,_⟩:=hE5
   refine dI 2 1 k ha5 Z3 Z (dP 3 hrow5 0 Z3 (dE 4 Z2 (dE 5 Z2 ?_)))
   have hl6:=hb.len
   obtain⟨_,_,_,_,ha6,hz6,hq6,hE6,hrow6,_⟩:=hb.at (i:=k) oM
   clear hq6
   obtain⟨rfl,_⟩:=hE6
   refine dI 6 1 k ha6 Z3 Z (dP 7 hrow6 0 Z3 (dE 8 Z2 (rz (N_K ?_))))
   refine W_cond Z ?_ ?_
   ·intro hc7
    try simp only[nrm]at hc7
    refine q2 (aG Z (q3 (W_ret (N_B_ret (N_K_ret (N_LP_ret (N_B_ret (N_K_ret (rt1 results174 Z ?_)))))))))
    exact H.rets (congrArg Value.bool (by unfold Sp.l2Same;exact Sp.ne_at hz5 hz6 oM))
   intro hc7'
   try simp only[nrm]at hc7'
   refine W_skip (N_B (N_K (W_region (aD Z2 (mV Z (R_nil ?_))))))
   refine N_lp (hJ:=⟨k+1,_,Z,hle2,H,?inv,Z⟩) (hm:=?hm)
   case hm=>omega
   case inv=>exact⟨by omega,Sp.take_eq hall hz5 (by rw[hz6];congr 1;omega)⟩
  intro hc3'
  try simp only[nrm]at hc3'
  refine W_exit (N_K_exit (N_LP_exit (N_B_same (N_K (q2 (aG Z (q3 (W_ret (rt1 results174 Z ?_)))))))))
  exact H.rets (congrArg Value.bool (by unfold Sp.l2Same;exact Sp.eq_all hall oM oM))
theorem l_Clone_c (w0:World)(G0:PH)(hG:PSub G0 w0)(vl:Value)(l:List (Int))(hl:RdI G0 vl l) :
  Calls Tryz.prog 164 #[vl] w0 (RetO w0 G0 (AccOf intE 1 3 l)):=by
 obtain⟨al,kl,rfl⟩:=hl.shape
 have hliml:l.length≤1099511627776:=hl.lim
 have H:=Hp.init hG
 refine calls_of_W (l:=[.slice al l.length kl]) func164 Z ntmps164 Z (q2 (aG Z (q3 (W_seq (q2 (mV Z (o_eqnil_slice underlying37 Z Z Z (q3 ?_))))))))
 refine W_cond Z ?_ ?_
 ·intro hc1
  try simp only[nrm]at hc1
  refine q2 (aG Z (q3 (W_ret (N_K_ret (rt1 results164 Z ?_)))))
  obtain rfl:al=none:=by simpa using hc1
  obtain rfl:l=[]:=by obtain⟨_,_,h1,_,_,h2⟩:=hl;rcases h2 with h2|⟨b,o,h2,_⟩;(· exact h2);simp only[Value.slice.injEq]at h1;rw[←h1.1]at h2;cases h2
  have H:=H.addNil 3 1
  exact H.retO (k:=0) Z (AccOf.mk Z Chk.nil) (acc_nd _ _ _ _ _)
 intro hc1'
 try simp only[nrm]at hc1'
 refine W_skip (N_K (q2 (xbs H Z7 ?_)));intro _ _ _ H
 have H:=H.blkAcc 1 (k:=0) (n:=0) rfl rfl (by decide)
 refine mV Z ?_
 refine o_append_P 0 H hl (by intro _ _ hz _ hu;obtain⟨rfl,_⟩:=hz;simp at hu;subst hu;rfl) (sz:=1) (bytes:=8) underlying37 typeInfo3 ⟨_,rfl,rfl⟩ rfl rfl rfl rfl rfl rfl rfl oM rfl ?_;intro _ _ css3 hcl3 hcs3 H
 have hchk3:Chk intE 1 G0 ([]++css3.flatten) _:=⟨css3,rfl,hcl3,hcs3⟩
 obtain⟨_,_,rfl⟩:=H.accShape (k:=0) rfl
 refine aG Z (q3 (W_ret (rt1 results164 Z ?_)))
 exact H.retO (k:=0) rfl (by skip;exact AccOf.mk aN hchk3) (acc_nd _ _ _ _ _)
theorem i_bytesValid_c (w0:World)(G0:PH)(hG:PSub G0 w0)(vbytes:Value)(bytes:List (Int))(hbytes:RdI G0 vbytes bytes) :
  Calls Tryz.prog 184 #[vbytes] w0 (Rets w0 (.bool (bytes.all Sp.byteOk))):=by
 obtain⟨abytes,kbytes,rfl⟩:=hbytes.shape
 have hlimbytes:bytes.length≤1099511627776:=hbytes.lim
 have H:=Hp.init hG
 refine calls_of_W (l:=[.slice abytes bytes.length kbytes]) func184 Z ntmps184 Z (q2 (aG Z (q3 (W_seq (q2 (mV Z (lN Z (mV Z (q3 (W_block ?_))))))))))
 refine W_lp (hf:=(Sub.cons (t:=5) Z (Sub.cons (t:=6) Z Sub.nil))) (J:=fun M w m=>∃(k:Nat) (G:PH),M=[(7,.int .i64 (k:Int))]∧PLe G0 G∧Hp w0 G0 [] w G []∧(k≤bytes.length∧(bytes.take k).all Sp.byteOk=true)∧m=(bytes.length-k)) (h0:=⟨0,_,Z,PLe.refl _,H,?inv,Z⟩) (round:=?round)
 case inv=>exact⟨by omega,by simp⟩
 case round =>
  rintro _ _ _ ⟨k,_,rfl,hle1,H,hinv1,rfl⟩
  have hbytes:=hbytes.up hle1
  obtain⟨_,hall⟩:=hinv1
  refine q2 (pe 1 Z (q3 (W_seq ?_)))
  refine W_cond Z ?_ ?_
  ·intro hc2
   try simp only[nrm]at hc2
   refine W_skip (N_K (W_seq (W_block (q2 (iP k hbytes Z3 Z ?_)))));intro _ _ _ _ hz3 hE3 hrow3
   obtain⟨rfl,_⟩:=hE3
   refine lP H hrow3 0 Z2 (aG Z (q1 (pe 3 Z ?_)))
   refine R_case (t:=13) Z ?_ ?_
   ·intro hc4
    try simp only[nrm]at hc4
    refine pe 3 Z (q3 (W_true Z (q2 (aG Z (q3 (W_ret (N_B_ret (N_K_ret (N_LP_ret (N_B_ret (N_K_ret (rt1 results184 Z ?_))))))))))))
    exact H.rets (congrArg Value.bool (by rw[Sp.all_false hz3 (by simp[Sp.byteOk,Sp.l6In];omega)]))
   intro hc4'
   try simp only[nrm]at hc4'
   refine pe 3 Z (q3 ?_)
   refine W_cond Z ?_ ?_
   ·intro hc5
    try simp only[nrm]at hc5
    refine q2 (aG Z (q3 (W_ret (N_B_ret (N_K_ret (N_LP_ret (N_B_ret (N_K_ret (rt1 results184 Z ?_)))))))))
    exact H.rets (congrArg Value.bool (by rw[Sp.all_false hz3 (by simp[Sp.byteOk,Sp.l6In];omega)]))
   intro hc5'
   try simp only[nrm]at hc5'
   refine W_skip (N_B (N_K (W_region (aD Z2 (mV Z (R_nil ?_))))))
   refine N_lp (hJ:=⟨k+1,_,Z,hle1,H,?inv,Z⟩) (hm:=?hm)
   case hm=>omega
   case inv=>exact⟨by omega,Sp.all_take hall hz3 (by simp[Sp.byteOk,Sp.l6In];omega)⟩
  intro hc2'
  try simp only[nrm]at hc2'
  refine W_exit (N_K_exit (N_LP_exit (N_B_same (N_K (q2 (aG Z (q3 (W_ret (rt1 results184 Z ?_)))))))))
  obtain rfl:k=bytes.length:=by omega
  rw[List.take_length]at hall
  exact H.rets (congrArg Value.bool (by rw[hall]))
theorem i_BlockValid_c (w0:World)(G0:PH)(hG:PSub G0 w0)(vbytes:Value)(bytes:List (Int))(hbytes:RdI G0 vbytes bytes) :
  Calls Tryz.prog 212 #[vbytes] w0 (Rets w0 (.bool (Sp.BlockValid bytes))):=by
 obtain⟨abytes,kbytes,rfl⟩:=hbytes.shape
 have hlimbytes:bytes.length≤1099511627776:=hbytes.lim
 have H:=Hp.init hG
 refine calls_of_W (l:=[.slice abytes bytes.length kbytes]) func212 Z ntmps212 Z (q2 (aG Z (q1 (mV Z (lN Z (pe 2 Z ?_))))))
 refine R_case (t:=6) Z ?_ ?_
 ·intro hc1
  try simp only[nrm]at hc1
  refine pe 1 Z (gR Z (lN Z (pe 3 Z ?_)))
  refine R_case (t:=11) Z ?_ ?_
  ·intro hc2
   try simp only[nrm]at hc2
   refine pe 1 Z (gR Z (xr H Z2 (i_bytesValid_c _ _ H.sub _ _ hbytes) ?_));intro _ H
   refine pe 2 Z (q3 (W_ret (rt1 results212 Z ?_)))
   exact H.rets (congrArg Value.bool (by unfold Sp.BlockValid Sp.l6In;rw[Bool.eq_iff_iff];simp;omega))
  intro hc2'
  try simp only[nrm]at hc2'
  refine pe 4 Z (q3 (W_ret (rt1 results212 Z ?_)))
  exact H.rets (congrArg Value.bool (by unfold Sp.BlockValid Sp.l6In;rw[Bool.eq_iff_iff];simp;omega))
 intro hc1'
 try simp only[nrm]at hc1'
 refine pe 9 Z (q3 (W_ret (rt1 results212 Z ?_)))
 exact H.rets (congrArg Value.bool (by unfold Sp.BlockValid Sp.l6In;rw[Bool.eq_iff_iff];simp;omega))
theorem i_FileValid_c (w0:World)(G0:PH)(hG:PSub G0 w0)(vbytes:Value)(bytes:List (Int))(hbytes:RdI G0 vbytes bytes) :
  Calls Tryz.prog 157 #[vbytes] w0 (Rets w0 (.bool (Sp.FileValid bytes))):=by
 obtain⟨abytes,kbytes,rfl⟩:=hbytes.shape
 have hlimbytes:bytes.length≤1099511627776:=hbytes.lim
 have H:=Hp.init hG
 refine calls_of_W (l:=[.slice abytes bytes.length kbytes]) func157 Z ntmps157 Z (q2 (aG Z (q1 (mV Z (lN Z (pe 2 Z ?_))))))
 refine R_case (t:=6) Z ?_ ?_
 ·intro hc1
  try simp only[nrm]at hc1
  refine pe 1 Z (gR Z (xr H Z2 (i_bytesValid_c _ _ H.sub _ _ hbytes) ?_));intro _ H
  refine pe 2 Z (q3 (W_ret (rt1 results157 Z ?_)))
  exact H.rets (congrArg Value.bool (by unfold Sp.FileValid;rw[Bool.eq_iff_iff];simp;omega))
 intro hc1'
 try simp only[nrm]at hc1'
 refine pe 4 Z (q3 (W_ret (rt1 results157 Z ?_)))
 exact H.rets (congrArg Value.bool (by unfold Sp.FileValid;rw[Bool.eq_iff_iff];simp;omega))
theorem i_partValid_c (w0:World)(s:Bs)(hs:s.length≤16777216) :
  Calls Tryz.prog 97 #[str s] w0 (Rets w0 (.bool (Sp.l1Word s))):=by
 have H:=Hp.init0 w0
 refine calls_of_W (l:=[str s]) func97 Z ntmps97 Z (q2 (aG Z (q3 (W_seq (q2 (mV Z (lS Z (pe 2 Z ?_))))))))
 refine R_case (t:=7) Z ?_ ?_
 ·intro hc1
  try simp only[nrm]at hc1
  refine pe 4 Z (q3 (W_true Z (q2 (aG Z (q3 (W_ret (N_K_ret (rt1 results97 Z ?_))))))))
  exact H.rets (congrArg Value.bool (by unfold Sp.l1Word;rw[Bool.eq_iff_iff];simp;omega))
 intro hc1'
 try simp only[nrm]at hc1'
 refine pe 1 Z (gR Z (lS Z (pe 2 Z (q3 ?_))))
 refine W_cond Z ?_ ?_
 ·intro hc2
  try simp only[nrm]at hc2
  refine q2 (aG Z (q3 (W_ret (N_K_ret (rt1 results97 Z ?_)))))
  exact H.rets (congrArg Value.bool (by unfold Sp.l1Word;rw[Bool.eq_iff_iff];simp;omega))
 intro hc2'
 try simp only[nrm]at hc2'
 refine W_skip (N_K (W_seq (q2 (aG Z (q3 (W_block ?_))))))
 refine W_lp (hf:=(Sub.cons (t:=0) Z Sub.nil)) (J:=fun M w m=>∃(k:Nat) (G:PH),M=[(3,.int .i64 (k:Int))]∧PLe (fun _=>none) G∧Hp w0 (fun _=>none) [] w G []∧(k≤s.length∧(s.take k).all Sp.low=true)∧m=(s.length-k)) (h0:=⟨0,_,Z,PLe.refl _,H,?inv,Z⟩) (round:=?round)
 case inv=>exact⟨by omega,by simp⟩
 case round =>
  rintro _ _ _ ⟨k,_,rfl,hle3,H,hinv3,rfl⟩
  obtain⟨_,hall⟩:=hinv3
  refine W_seq (q2 (pe 2 Z (lS Z (pe 1 Z (q3 ?_)))))
  refine W_cond Z ?_ ?_
  ·intro hc4
   try simp only[nrm]at hc4
   refine W_skip (N_K (W_seq (W_block (q2 (pe 2 Z (o_index_str underlying9 Z Z Z Z oM ?_))))));intro ch5 hch5;have hlt5:=ch5.toNat_lt
   refine pe 2 Z ?_
   refine R_case (t:=22) Z ?_ ?_
   ·intro hc6
    try simp only[nrm]at hc6
    refine pe 5 Z (q3 (W_true Z (q2 (aG Z (q3 (W_ret (N_B_ret (N_K_ret (N_LP_ret (N_B_ret (N_K_ret (rt1 results97 Z ?_))))))))))))
    exact H.rets (congrArg Value.bool (by rw[Sp.l1Word,Sp.all_false hch5 (by simp[Sp.low];omega)];rfl))
   intro hc6'
   try simp only[nrm]at hc6'
   refine pe 2 Z (gR Z (o_index_str underlying9 Z Z Z Z oM ?_));intro ch7 hch7;have hlt7:=ch7.toNat_lt
   obtain rfl:ch7=ch5:=Option.some.inj (hch7.symm.trans hch5)
   refine pe 2 Z (q3 ?_)
   refine W_cond Z ?_ ?_
   ·intro hc8
    try simp only[nrm]at hc8
    refine q2 (aG Z (q3 (W_ret (N_B_ret (N_K_ret (N_LP_ret (N_B_ret (N_K_ret (rt1 results97 Z ?_)))))))))
    exact H.rets (congrArg Value.bool (by rw[Sp.l1Word,Sp.all_false hch7 (by simp[Sp.low];omega)];rfl))
   intro hc8'
   try simp only[nrm]at hc8'
   refine W_skip (N_B (N_K (W_region (mV Z (aD Z2 (aG Z (R_nil ?_)))))))
   refine N_lp (hJ:=⟨k+1,_,Z,hle3,H,?inv,Z⟩) (hm:=?hm)
   case hm=>omega
   case inv=>exact⟨by omega,Sp.all_take hall hch7 (by simp[Sp.low];omega)⟩
  intro hc4'
  try simp only[nrm]at hc4'
  refine W_exit (N_K_exit (N_LP_exit (N_B_same (N_K (q2 (aG Z (q3 (W_ret (rt1 results97 Z ?_)))))))))
  obtain rfl:k=s.length:=by omega
  rw[List.take_length]at hall
  exact H.rets (congrArg Value.bool (by simp only[Sp.l1Word,hall];rw[Bool.eq_iff_iff];simp;omega))
theorem l_genSplit_c (w0:World)(G0:PH)(hG:PSub G0 w0)(s:Bs)(hs:s.length≤16777216)(c:UInt8) :
  Calls Tryz.prog 248 #[str s,str [c],.int .i64 0,.int .i64 (-1)] w0 (RetP w0 G0 (fun G v=>RdT G v (Sp.cutAt c s))):=by
 have hcnt:=Sp.cnt_le c s
 have H:=Hp.init hG
 refine calls_of_W (l:=[str s,str [c],.int .i64 0,.int .i64 (-1)]) func248 Z ntmps248 Z (q2 (aG Z (q3 (W_seq (q2 (pe 2 Z (q3 ?_)))))))
 refine W_cond Z ?_ ?_
 ·intro hc1
  try simp only[nrm]at hc1
  exact absurd hc1 (by decide)
 intro hc1'
 try simp only[nrm]at hc1'
 refine W_skip (N_K (W_seq (q2 (mV Z (o_seql Z Z Z (q3 ?_))))))
 refine W_cond Z ?_ ?_
 ·intro hc2
  try simp only[nrm]at hc2
  exact absurd hc2 (by simp)
 intro hc2'
 try simp only[nrm]at hc2'
 refine W_skip (N_K (W_seq (q2 (pe 2 Z (q3 ?_)))))
 refine W_cond Z ?_ ?_
 ·intro hc3
  try simp only[nrm]at hc3
  refine W_region (pe 2 Z (xr H Z2 (l_Count_c _ _ hs _) ?_));intro _ H
  refine aD Z2 (aG Z (q1 (pe 2 Z (lS Z (aD Z2 (o_min Z Z Z (aG Z (q1 (mV Z (o_makeN (c:=(s.count c+1)) (sz:=1) (bytes:=16) H underlying182 typeInfo9 ⟨_,Z,Z⟩ Z Z Z Z Z Z Z oM oM oM Z ?_))))))))));intro _ _ H
  have hchk7:=Chk.rep (E:=strE) (sz:=1) (G:=G0) (x0:=[]) (⟨rfl,by decide⟩) rfl ((s.count c+1))
  refine aG Z (q1 (mV Z (o_sub Z Z Z oO (aG Z (q1 (aG Z (q3 (W_seq (W_block ?_)))))))))
  refine W_lp (hf:=(Sub.cons (t:=1) Z (Sub.cons (t:=2) Z (Sub.cons (t:=3) Z (Sub.cons (t:=8) Z Sub.nil))))) (J:=fun M w m=>∃(v:Value) (n:Nat) (cs:List Value) (xs:List (Bs)) (r:Bs) (i:Nat) (G:PH),M=[(0,str r),(10,.int .i64 (i:Int)),(9,v)]∧PLe G0 G∧Hp w0 G0 [] w G [acc 9 1 v n cs]∧(Chk strE 1 G cs xs∧n=xs.length∧i≤s.count c∧xs.length=s.count c+1∧r.length≤16777216∧xs.take i++Sp.cutAt c r=Sp.cutAt c s∧r.count c=s.count c-i)∧m=(s.count c+1-i)) (h0:=⟨_,_,_,(List.replicate (s.count c+1) []),s,0,_,Z,PLe.refl _,H,?inv,Z⟩) (round:=?round)
  case inv=>exact⟨hchk7,by first|rfl|simp|(simp;omega)|omega,(by simp[hs])⟩
  case round =>
   rintro _ _ _ ⟨v,n,cs,xs,r,i,_,rfl,hle9,H,hinv9,rfl⟩
   obtain⟨hchk9_0,_,hinv9⟩:=hinv9
   obtain⟨_,_,rfl⟩:=H.accShape (k:=0) rfl
   obtain⟨_,hxl,hrl,hcut,_⟩:=hinv9
   refine W_seq (q2 (pe 3 Z (q3 ?_)))
   refine W_cond Z ?_ ?_
   ·intro hc10
    try simp only[nrm]at hc10
    refine W_skip (N_K (W_block (q2 (pe 2 Z (xr H Z2 (l_Index_c _ _ hrl _) ?_)))));intro _ H
    refine aG Z (q3 (W_seq (q2 (pe 2 Z (q3 ?_)))))
    refine W_cond Z ?_ ?_
    ·intro hc12
     try simp only[nrm]at hc12
     have hx:=Sp.count_none c (Sp.at_none hc12)
     omega
    intro hc12'
    try simp only[nrm]at hc12'
    obtain⟨m,_,hm1,_,_,_,_⟩:=Sp.at_nat hc12'
    have hm6:=Sp.count_some c hm1
    refine W_skip (N_K (q2 (pe 5 Z (aD Z2 (o_slice_str_to underlying9 Z Z Z oM oM (o_index_A 0 H i Z hchk9_0 underlying182 sizeOf9 Z Z Z Z aN aN ?_))))));intro _ _ _ hba15 hz15 hE15 _;cases hba15
    obtain⟨rfl,hi15⟩:=hE15;have hy_hi15:_≤16777216:=hi15
    have hcl16:=hchk9_0.length
    refine o_store_A 0 H sizeOf9 Z Z Z Z Z (by simp only[vc,List.length_cons,List.length_nil];omega) ?_;intro _ H
    have hchk16:=hchk9_0.put (x':=(r.take m)) (off:=0) (vs:=[_]) hz15 (fun cs hl hE=>by obtain⟨rfl,_⟩:=hE;exact⟨congrArg (fun j=>[str (List.take j r)]) (show(Sp.optI (List.findIdx? (Sp.isC c) r)+0).toNat=m by omega),by simp;omega⟩) (by simp only[vc,List.length_cons,List.length_nil];omega)
    refine q1 (pe 3 Z (lS Z ?_))
    have hll1:([c]:Fw.Bs).length=1:=rfl
    refine aD Z2 (o_slice_str_from underlying9 Z Z Z oM oM (aG Z (q3 (W_region (mV Z (aD Z2 (aG Z (R_nil (N_B ?_)))))))))
    refine N_lp (hJ:=⟨_,_,_,(xs.set i (r.take m)),(r.drop (Sp.optI (List.findIdx? (Sp.isC c) r)+(([c]:Fw.Bs).length:Int)).toNat),i+1,_,Z,hle9,H,?inv,Z⟩) (hm:=?hm)
    case hm=>omega
    case inv=>exact⟨hchk16,aN,(by refine⟨by omega,by simp[hxl],by simp;omega,?_,?_⟩;(· rw[show(Sp.optI (List.findIdx? (Sp.isC c) r)+(([c]:Fw.Bs).length:Int)).toNat=m+1 by omega];exact Sp.cut_round hcut hm1 oM rfl);(· rw[show(Sp.optI (List.findIdx? (Sp.isC c) r)+(([c]:Fw.Bs).length:Int)).toNat=m+1 by omega];omega))⟩
   intro hc10'
   try simp only[nrm]at hc10'
   refine W_exit (N_K_exit (N_LP_exit (N_B_same (N_K (q2 (pe 3 Z (o_index_A 0 H i Z hchk9_0 underlying182 sizeOf9 Z Z Z Z aN aN ?_)))))));intro _ _ _ hba20 hz20 hE20 _;cases hba20
   obtain⟨rfl,hi20⟩:=hE20;have hy_hi20:_≤16777216:=hi20
   have hcl21:=hchk9_0.length
   refine o_store_A 0 H sizeOf9 Z Z Z Z Z (by simp only[vc,List.length_cons,List.length_nil];omega) ?_;intro _ H
   have hchk21:=hchk9_0.put (x':=r) (off:=0) (vs:=[_]) hz20 (fun cs hl hE=>by obtain⟨rfl,_⟩:=hE;exact⟨rfl,hrl⟩) (by simp only[vc,List.length_cons,List.length_nil];omega)
   refine q1 ?_
   obtain⟨_,H,hsg22,hsr22⟩:=H.shut' (k:=0) rfl hchk21 aN aN
   refine pe 2 Z (aD Z2 ?_)
   have hcap24:=hsr22.cap;try simp only[List.length_set,List.length_append,List.length_take,List.length_drop,List.length_replicate]at hcap24
   refine o_slice_to (j:=(i+1)) underlying182 sizeOf9 Z Z Z oM oM ?_
   have hsl24:=hsr22.take (j:=(i+1)) aN
   have hsn2:=hsl24.len
   refine aG Z (q3 (W_ret (rt1 results248 Z ?_)))
   obtain rfl:i=s.count c:=by omega
   have hcl:=Sp.cut_last hcut oM oM
   exact H.retP (by rw[←hcl];exact hsl24)
 intro hc3'
 try simp only[nrm]at hc3'
 exact absurd hc3' (by decide)
theorem l_Split_c (w0:World)(G0:PH)(hG:PSub G0 w0)(s:Bs)(hs:s.length≤16777216)(c:UInt8) :
  Calls Tryz.prog 231 #[str s,str [c]] w0 (RetP w0 G0 (fun G v=>RdT G v (Sp.cutAt c s))):=by
 have H:=Hp.init hG
 refine calls_of_W (l:=[str s,str [c]]) func231 Z ntmps231 Z (q2 (aG Z (q1 (pe 2 Z (xc Z2 (l_genSplit_c _ _ H.sub _ hs _) ?_)))))
 rintro _ _ ⟨_,_,g1,rfl,hr1_0⟩
 have H:=H.grow g1
 obtain⟨_,_,rfl⟩:=hr1_0.shape;have hx_hr1_0:_≤1099511627776:=hr1_0.lim
 refine⟨_,Z,?_⟩
 refine aG Z (q3 (W_ret (rt1 results231 Z ?_)))
 exact H.retP hr1_0
theorem i_parts_c (w0:World)(G0:PH)(hG:PSub G0 w0)(p:Bs)(hp:p.length≤16777216) :
  Calls Tryz.prog 206 #[str p] w0 (RetP w0 G0 (fun G v=>RdT G v (Sp.parts p))):=by
 have H:=Hp.init hG
 refine calls_of_W (l:=[str p]) func206 Z ntmps206 Z (q2 (aG Z (q3 (W_seq (q2 (mV Z (lS Z (pe 1 Z (q3 ?_)))))))))
 refine W_cond Z ?_ ?_
 ·intro hc1
  try simp only[nrm]at hc1
  refine q2 (aG Z (q3 (W_ret (N_K_ret (rt1 results206 Z ?_)))))
  exact H.retP (by rw[show Sp.parts p=_ from by exact Sp.parts_long oM];exact(RdS.nil _ _ _))
 intro hc1'
 try simp only[nrm]at hc1'
 refine W_skip (N_K (q2 (mV Z (xc Z2 (l_Split_c _ _ H.sub _ hp _) ?_))))
 rintro _ _ ⟨G2,_,g2,rfl,hr2_0⟩
 have H:=H.grow g2
 obtain⟨_,_,rfl⟩:=hr2_0.shape;have hx_hr2_0:_≤1099511627776:=hr2_0.lim
 refine⟨_,Z,?_⟩
 refine aG Z (q3 (W_seq (q2 (mV Z (lN Z (pe 1 Z (q3 ?_)))))))
 refine W_cond Z ?_ ?_
 ·intro hc3
  try simp only[nrm]at hc3
  refine q2 (aG Z (q3 (W_ret (N_K_ret (rt1 results206 Z ?_)))))
  exact H.retP (by rw[show Sp.parts p=_ from by exact Sp.parts_many (by rw[←Sp.cutAt_47];omega)];exact(RdS.nil _ _ _))
 intro hc3'
 try simp only[nrm]at hc3'
 refine W_skip (N_K (W_seq (q2 (mV Z (lN Z (mV Z (q3 (W_block ?_))))))))
 refine W_lp (hf:=(Sub.cons (t:=3) Z (Sub.cons (t:=14) Z (Sub.cons (t:=15) Z Sub.nil)))) (J:=fun M w m=>∃(k:Nat) (G:PH),M=[(16,.int .i64 (k:Int))]∧PLe G2 G∧Hp w0 G0 [] w G []∧(k≤(Sp.cutAt 47 p).length∧((Sp.cutAt 47 p).take k).all Sp.l1Word=true)∧m=((Sp.cutAt 47 p).length-k)) (h0:=⟨0,_,Z,PLe.refl _,H,?inv,Z⟩) (round:=?round)
 case inv=>exact⟨by omega,by simp⟩
 case round =>
  rintro _ _ _ ⟨k,_,rfl,hle4,H,hinv4,rfl⟩
  have hr2_0:=hr2_0.up hle4
  obtain⟨_,hall⟩:=hinv4
  refine q2 (pe 1 Z (q3 (W_seq ?_)))
  refine W_cond Z ?_ ?_
  ·intro hc5
   try simp only[nrm]at hc5
   refine W_skip (N_K (W_seq (W_block (q2 (iP k hr2_0 Z3 Z ?_)))));intro _ _ _ _ hz6 hE6 hrow6
   obtain⟨rfl,hi6⟩:=hE6;have hy_hi6:_≤16777216:=hi6
   refine lP H hrow6 0 Z2 (aG Z (q1 (mV Z (xr H Z2 (i_partValid_c _ _ hi6) ?_))));intro _ H
   refine pe 1 Z (q3 ?_)
   refine W_cond Z ?_ ?_
   ·intro hc8
    try simp only[nrm]at hc8
    refine q2 (aG Z (q3 (W_ret (N_B_ret (N_K_ret (N_LP_ret (N_B_ret (N_K_ret (rt1 results206 Z ?_)))))))))
    exact H.retP (by rw[show Sp.parts p=_ from by exact Sp.parts_bad (by rw[←Sp.cutAt_47];exact hz6) hc8];exact(RdS.nil _ _ _))
   intro hc8'
   try simp only[nrm]at hc8'
   refine W_skip (N_B (N_K (W_region (aD Z2 (mV Z (R_nil ?_))))))
   refine N_lp (hJ:=⟨k+1,_,Z,hle4,H,?inv,Z⟩) (hm:=?hm)
   case hm=>omega
   case inv=>exact⟨by omega,Sp.all_take hall hz6 (by assumption)⟩
  intro hc5'
  try simp only[nrm]at hc5'
  refine W_exit (N_K_exit (N_LP_exit (N_B_same (N_K (q2 (pe 2 Z (q3 (W_ret (rt1 results206 Z ?_)))))))))
  obtain rfl:k=(Sp.cutAt 47 p).length:=by omega
  rw[List.take_length]at hall
  have hpo:Sp.parts p=Sp.cutAt 47 p:=(Sp.parts_ok (by rw[←Sp.cutAt_47];exact hall) (by rw[←Sp.cutAt_47];omega)).trans (Sp.cutAt_47 p).symm
  exact H.retP (by rw[hpo];exact hr2_0)
theorem i_PathParts_c (w0:World)(G0:PH)(hG:PSub G0 w0)(p:Bs)(hp:p.length≤16777216) :
  Calls Tryz.prog 173 #[str p] w0 (RetP w0 G0 (fun G v=>RdT G v (Sp.parts p))):=by
 have H:=Hp.init hG
 refine calls_of_W (l:=[str p]) func173 Z ntmps173 Z (q2 (aG Z (q1 (mV Z (xc Z2 (i_parts_c _ _ H.sub _ hp) ?_)))))
 rintro _ _ ⟨_,_,g1,rfl,hr1_0⟩
 have H:=H.grow g1
 obtain⟨_,_,rfl⟩:=hr1_0.shape;have hx_hr1_0:_≤1099511627776:=hr1_0.lim
 refine⟨_,Z,?_⟩
 refine aG Z (q3 (W_ret (rt1 results173 Z ?_)))
 exact H.retP hr1_0
theorem i_valid_c (w0:World)(G0:PH)(hG:PSub G0 w0)(p:Bs)(hp:p.length≤16777216) :
  Calls Tryz.prog 200 #[str p] w0 (Rets w0 (.bool (Sp.PathValid p))):=by
 have H:=Hp.init hG
 refine calls_of_W (l:=[str p]) func200 Z ntmps200 Z (q2 (aG Z (q1 (mV Z (xc Z2 (i_parts_c _ _ H.sub _ hp) ?_)))))
 rintro _ _ ⟨_,_,g1,rfl,hr1_0⟩
 have H:=H.grow g1
 obtain⟨_,_,rfl⟩:=hr1_0.shape;have hx_hr1_0:_≤1099511627776:=hr1_0.lim
 refine⟨_,Z,?_⟩
 refine lN Z (pe 2 Z (q3 (W_ret (rt1 results200 Z ?_))))
 exact H.rets (congrArg Value.bool (by rw[←Sp.parts_pos,Bool.eq_iff_iff];simp))
theorem i_PathValid_c (w0:World)(G0:PH)(hG:PSub G0 w0)(p:Bs)(hp:p.length≤16777216) :
  Calls Tryz.prog 170 #[str p] w0 (Rets w0 (.bool (Sp.PathValid p))):=by
 have H:=Hp.init hG
 refine calls_of_W (l:=[str p]) func170 Z ntmps170 Z (q2 (aG Z (q1 (mV Z (xr H Z2 (i_valid_c _ _ H.sub _ hp) ?_)))));intro _ H
 refine aG Z (q3 (W_ret (rt1 results170 Z ?_)))
 exact H.rets (congrArg Value.bool (by rfl))
theorem i_itemValid_c (w0:World)(G0:PH)(hG:PSub G0 w0)(cx:List Value)(x:BItem)(hx:itemE G0 x cx) :
  Calls Tryz.prog 115 #[.agg cx.toArray] w0 (Rets w0 (.bool (Sp.l5Item x))):=by
 obtain⟨_,_,_,rfl,hi1,hr1,_,_⟩:=ox hx
 have H:=Hp.init hG
 refine calls_of_W (l:=[_]) func115 Z ntmps115 Z (q2 (o_box H Z Z Z ?_));intro b2 _ _ H
 refine aG Z (q3 (W_seq (q2 (fA 0 Z (lB 0 H Z3 (xr H Z2 (i_PathValid_c _ _ H.sub _ hi1) ?_))))));intro _ H
 refine pe 2 Z ?_
 refine R_case (t:=9) Z ?_ ?_
 ·intro hc4
  try simp only[nrm]at hc4
  refine pe 9 Z (R_pass Z (yl_un Z Z) (R_pass Z (yl_un Z Z) (R_pass Z (yl_un Z Z) (R_pass Z (yl_un Z Z) (pe 2 Z (q3 (W_true Z (q2 (aG Z (q3 (W_ret (N_K_ret (rt1 results115 Z ?_)))))))))))))
  exact H.rets (congrArg Value.bool (by simp[Sp.l5Item,hc4]))
 intro hc4'
 try simp only[nrm]at hc4'
 refine gR Z (fA 2 Z (gR Z (lB 0 H Z3 (gR Z (lN Z (pe 3 Z ?_))))))
 refine R_case (t:=15) Z ?_ ?_
 ·intro hc5
  try simp only[nrm]at hc5
  refine pe 3 Z (R_pass Z (yl_un Z Z) (R_pass Z (yl_un Z Z) (R_pass Z (yl_un Z Z) (R_pass Z (yl_un Z Z) (pe 2 Z (q3 (W_true Z (q2 (aG Z (q3 (W_ret (N_K_ret (rt1 results115 Z ?_)))))))))))))
  exact H.rets (congrArg Value.bool (by rw[Sp.l5Item,Bool.eq_iff_iff];simp;intros;omega))
 intro hc5'
 try simp only[nrm]at hc5'
 refine gR Z (fA 1 Z (gR Z (lB 0 H Z3 (pe 1 Z ?_))))
 refine R_case (t:=18) Z ?_ ?_
 ·intro hc6
  try simp only[nrm]at hc6
  refine gR Z (fA 2 Z (gR Z (lB 0 H Z3 (gR Z (lN Z (pe 3 Z (q3 ?_)))))))
  refine W_cond Z ?_ ?_
  ·intro hc7
   try simp only[nrm]at hc7
   refine q2 (aG Z (q3 (W_ret (N_K_ret (rt1 results115 Z ?_)))))
   exact H.rets (congrArg Value.bool (by rw[Sp.l5Item,Sp.all_false (c:=x.ids[0]) (k:=0) (List.getElem?_eq_getElem oM) (by simp[Sp.idOk,hc6])];rfl))
  intro hc7'
  try simp only[nrm]at hc7'
  refine W_skip (N_K (W_seq (q2 (fA 2 Z (lB 0 H Z3 (lN Z (mV Z (q3 (W_block ?_)))))))))
  obtain⟨ln8,hln8,H⟩:=H.name (k:=0) rfl
  refine W_lp (hf:=(Sub.cons (t:=26) Z (Sub.cons (t:=27) Z Sub.nil))) (J:=fun M w m=>∃(k:Nat) (G:PH),M=[(28,.int .i64 (k:Int))]∧PLe G0 G∧Hp w0 G0 [] w G [blk b2 (cl ln8 41)]∧(k≤x.ids.length∧(x.ids.take k).all (Sp.idOk x.dir)=true)∧m=(x.ids.length-k)) (h0:=⟨0,_,Z,PLe.refl _,H,?inv,Z⟩) (round:=?round)
  case inv=>exact⟨by omega,by simp⟩
  case round =>
   rintro _ _ _ ⟨k,_,rfl,hle9,H,hinv9,rfl⟩
   subst hln8
   have hr1:=hr1.up hle9
   obtain⟨hk,hall⟩:=hinv9
   refine q2 (pe 1 Z (q3 (W_seq ?_)))
   refine W_cond Z ?_ ?_
   ·intro hc10
    try simp only[nrm]at hc10
    refine W_skip (N_K (W_seq (W_block (q2 (iP k hr1 Z3 Z ?_)))));intro _ _ _ _ hz11 hE11 hrow11
    obtain⟨rfl,_⟩:=hE11
    refine lP H hrow11 0 Z2 (aG Z (q1 (pe 3 Z ?_)))
    refine R_case (t:=34) Z ?_ ?_
    ·intro hc12
     try simp only[nrm]at hc12
     refine pe 3 Z (q3 (W_true Z (q2 (aG Z (q3 (W_ret (N_B_ret (N_K_ret (N_LP_ret (N_B_ret (N_K_ret (rt1 results115 Z ?_))))))))))))
     exact H.rets (congrArg Value.bool (by rw[Sp.l5Item,Sp.all_false hz11 (by first|(exfalso;omega)|(simp[Sp.idOk,Sp.l6In, *];done)|(simp[Sp.idOk,Sp.l6In, *];omega))];rfl))
    intro hc12'
    try simp only[nrm]at hc12'
    refine pe 3 Z (q3 ?_)
    refine W_cond Z ?_ ?_
    ·intro hc13
     try simp only[nrm]at hc13
     refine q2 (aG Z (q3 (W_ret (N_B_ret (N_K_ret (N_LP_ret (N_B_ret (N_K_ret (rt1 results115 Z ?_)))))))))
     exact H.rets (congrArg Value.bool (by rw[Sp.l5Item,Sp.all_false hz11 (by first|(exfalso;omega)|(simp[Sp.idOk,Sp.l6In, *];done)|(simp[Sp.idOk,Sp.l6In, *];omega))];rfl))
    intro hc13'
    try simp only[nrm]at hc13'
    refine W_skip (N_B (N_K (W_region (aD Z2 (mV Z (R_nil ?_))))))
    refine N_lp (hJ:=⟨k+1,_,Z,hle9,H,?inv,Z⟩) (hm:=?hm)
    case hm=>omega
    case inv=>exact⟨by omega,Sp.all_take hall hz11 (by first|(exfalso;omega)|(simp[Sp.idOk,Sp.l6In, *];done)|(simp[Sp.idOk,Sp.l6In, *];omega))⟩
   intro hc10'
   try simp only[nrm]at hc10'
   refine W_exit (N_K_exit (N_LP_exit (N_B_same (N_K (q2 (aG Z (q3 (W_ret (rt1 results115 Z ?_)))))))))
   obtain rfl:k=x.ids.length:=by omega
   rw[List.take_length]at hall
   exact H.rets (congrArg Value.bool (by rw[Sp.l5Item,hall,Bool.eq_iff_iff];simp[hc4'];omega))
 intro hc6'
 try simp only[nrm]at hc6'
 refine pe 6 Z (q3 (W_false Z (W_skip (N_K (W_seq (q2 (fA 2 Z (lB 0 H Z3 (lN Z (mV Z (q3 (W_block ?_))))))))))))
 obtain⟨ln15,hln15,H⟩:=H.name (k:=0) rfl
 refine W_lp (hf:=(Sub.cons (t:=26) Z (Sub.cons (t:=27) Z Sub.nil))) (J:=fun M w m=>∃(k:Nat) (G:PH),M=[(28,.int .i64 (k:Int))]∧PLe G0 G∧Hp w0 G0 [] w G [blk b2 (cl ln15 41)]∧(k≤x.ids.length∧(x.ids.take k).all (Sp.idOk x.dir)=true)∧m=(x.ids.length-k)) (h0:=⟨0,_,Z,PLe.refl _,H,?inv,Z⟩) (round:=?round)
 case inv=>exact⟨by omega,by simp⟩
 case round =>
  rintro _ _ _ ⟨k,_,rfl,hle16,H,hinv16,rfl⟩
  subst hln15
  have hr1:=hr1.up hle16
  obtain⟨hk,hall⟩:=hinv16
  refine q2 (pe 1 Z (q3 (W_seq ?_)))
  refine W_cond Z ?_ ?_
  ·intro hc17
   try simp only[nrm]at hc17
   refine W_skip (N_K (W_seq (W_block (q2 (iP k hr1 Z3 Z ?_)))));intro _ _ _ _ hz18 hE18 hrow18
   obtain⟨rfl,_⟩:=hE18
   refine lP H hrow18 0 Z2 (aG Z (q1 (pe 3 Z ?_)))
   refine R_case (t:=34) Z ?_ ?_
   ·intro hc19
    try simp only[nrm]at hc19
    refine pe 3 Z (q3 (W_true Z (q2 (aG Z (q3 (W_ret (N_B_ret (N_K_ret (N_LP_ret (N_B_ret (N_K_ret (rt1 results115 Z ?_))))))))))))
    exact H.rets (congrArg Value.bool (by rw[Sp.l5Item,Sp.all_false hz18 (by first|(exfalso;omega)|(simp[Sp.idOk,Sp.l6In, *];done)|(simp[Sp.idOk,Sp.l6In, *];omega))];rfl))
   intro hc19'
   try simp only[nrm]at hc19'
   refine pe 3 Z (q3 ?_)
   refine W_cond Z ?_ ?_
   ·intro hc20
    try simp only[nrm]at hc20
    refine q2 (aG Z (q3 (W_ret (N_B_ret (N_K_ret (N_LP_ret (N_B_ret (N_K_ret (rt1 results115 Z ?_)))))))))
    exact H.rets (congrArg Value.bool (by rw[Sp.l5Item,Sp.all_false hz18 (by first|(exfalso;omega)|(simp[Sp.idOk,Sp.l6In, *];done)|(simp[Sp.idOk,Sp.l6In, *];omega))];rfl))
   intro hc20'
   try simp only[nrm]at hc20'
   refine W_skip (N_B (N_K (W_region (aD Z2 (mV Z (R_nil ?_))))))
   refine N_lp (hJ:=⟨k+1,_,Z,hle16,H,?inv,Z⟩) (hm:=?hm)
   case hm=>omega
   case inv=>exact⟨by omega,Sp.all_take hall hz18 (by first|(exfalso;omega)|(simp[Sp.idOk,Sp.l6In, *];done)|(simp[Sp.idOk,Sp.l6In, *];omega))⟩
  intro hc17'
  try simp only[nrm]at hc17'
  refine W_exit (N_K_exit (N_LP_exit (N_B_same (N_K (q2 (aG Z (q3 (W_ret (rt1 results115 Z ?_)))))))))
  obtain rfl:k=x.ids.length:=by omega
  rw[List.take_length]at hall
  exact H.rets (congrArg Value.bool (by rw[Sp.l5Item,hall,Bool.eq_iff_iff];simp[hc4'];omega))
theorem l_isNaN_c (w0:World)(x:Bs)(hx:x.length≤16777216) :
  Calls Tryz.prog 229 #[str x] w0 (Rets w0 (.bool false)):=by
 have H:=Hp.init0 w0
 refine calls_of_W (l:=[str x]) func229 Z ntmps229 Z (q2 (aG Z (q1 (pe 2 Z (o_sneq Z Z Z (aG Z (q3 (W_ret (rt1 results229 Z ?_)))))))))
 exact H.rets (congrArg Value.bool (by simp))
theorem l_Compare_c (w0:World)(x:Bs)(hx:x.length≤16777216)(y:Bs)(hy:y.length≤16777216) :
  Calls Tryz.prog 203 #[str x,str y] w0 (Rets w0 (.int .i64 (Sp.cmpB x y))):=by
 have H:=Hp.init0 w0
 refine calls_of_W (l:=[str x,str y]) func203 Z ntmps203 Z (q2 (aG Z (q1 (mV Z (xr H Z2 (l_isNaN_c _ _ hx) ?_)))));intro _ H
 refine aG Z (q1 (mV Z (xr H Z2 (l_isNaN_c _ _ hy) ?_)));intro _ H
 refine aG Z (q3 (W_seq (q2 (mV Z (q3 (W_false Z (W_skip (N_K (W_seq (q2 (mV Z (q3 (W_false Z (W_skip (N_K ?_)))))))))))))))
 refine W_seq (q2 (pe 2 Z (o_slss Z Z Z (q3 ?_))))
 refine W_cond Z ?_ ?_
 ·intro hc3
  try simp only[nrm]at hc3
  refine q2 (aG Z (q3 (W_ret (N_K_ret (rt1 results203 Z ?_)))))
  exact H.rets (congrArg (Value.int .i64) (by unfold Sp.cmpB;simp_all))
 intro hc3'
 try simp only[nrm]at hc3'
 refine W_skip (N_K (W_seq (q2 (pe 2 Z (o_sgtr Z Z Z (q3 ?_))))))
 refine W_cond Z ?_ ?_
 ·intro hc4
  try simp only[nrm]at hc4
  refine q2 (aG Z (q3 (W_ret (N_K_ret (rt1 results203 Z ?_)))))
  exact H.rets (congrArg (Value.int .i64) (by unfold Sp.cmpB;simp_all))
 intro hc4'
 try simp only[nrm]at hc4'
 refine W_skip (N_K (q2 (aG Z (q3 (W_ret (rt1 results203 Z ?_))))))
 exact H.rets (congrArg (Value.int .i64) (by unfold Sp.cmpB;simp_all))
theorem i_place1_c (w0:World)(G0:PH)(hG:PSub G0 w0)(t:Nd)(hndt:RdN G0 t)(nm:Bs)(hnm:nm.length≤16777216) :
  Calls Tryz.prog 202 #[.pointer (some ⟨t.b,0,none⟩),str nm] w0 (Rets w0 (.int .i64 (Sp.cmpB t.name nm))):=by
 obtain⟨hnlt,_,_,_,_,_,_,hprt,hrit,hrkt⟩:=hndt.open
 have hn_hrit:=hrit.len;have hx_hrit:_≤1099511627776:=hrit.lim
 have hn_hrkt:=hrkt.len;have hx_hrkt:_≤1099511627776:=hrkt.lim
 have H:=Hp.init hG
 refine calls_of_W (l:=[.pointer (some ⟨t.b,0,none⟩),str nm]) func202 Z ntmps202 Z (q2 (aG Z (q1 (pe 2 Z (fA 0 Z (lP H hprt 0 Z2 (mV Z (xr H Z2 (l_Compare_c _ _ hnlt _ hnm) ?_))))))));intro _ H
 refine aG Z (q3 (W_ret (rt1 results202 Z ?_)))
 exact H.rets (congrArg (Value.int .i64) (by rfl))
theorem l_Search_c (w0:World)(G0:PH)(hG:PSub G0 w0)(vkids:Value)(kids:List (Nd))(hkids:RdNd G0 vkids kids)(nm:Bs)(hnm:nm.length≤16777216)(hsk:Sp.srt kids) :
  Calls Tryz.prog 201 #[vkids,str nm,.func (.func 202) #[] #[]] w0 (Rets w0 (.tuple #[.int .i64 (Sp.pl kids nm:Nat),.bool (Sp.fd kids nm).isSome])):=by
 obtain⟨akids,kkids,rfl⟩:=hkids.shape
 have hlimkids:kids.length≤1099511627776:=hkids.lim
 have H:=Hp.init hG
 refine calls_of_W (l:=[.slice akids kids.length kkids,str nm,.func (.func 202) #[] #[]]) func201 Z ntmps201 Z (q2 (pe 2 Z (q1 (mV Z (lN Z (aG Z (q1 (pe 3 Z (q3 (W_seq (W_block ?_)))))))))))
 refine W_lp (hf:=(Sub.cons (t:=0) Z (Sub.cons (t:=1) Z (Sub.cons (t:=2) Z (Sub.cons (t:=6) Z (Sub.cons (t:=7) Z (Sub.cons (t:=8) Z Sub.nil))))))) (J:=fun M w m=>∃(i j:Nat) (G:PH),M=[(9,.int .i64 (i:Int)),(10,.int .i64 (j:Int))]∧PLe G0 G∧Hp w0 G0 [] w G []∧(i≤j∧j≤kids.length∧(∀(k:Nat) (x:Nd),k<i→kids[k]? = some x→Sp.lt x.name nm=true)∧(∀(k:Nat) (x:Nd),j≤k→kids[k]? = some x→Sp.lt x.name nm=false))∧m=(j-i)) (h0:=⟨0,kids.length,_,Z,PLe.refl _,H,?inv,Z⟩) (round:=?round)
 case inv=>exact⟨by omega,by omega,fun k x hk=>by omega,fun k x hk hx=>by have:=(List.getElem?_eq_some_iff.1 hx).1;omega⟩
 case round =>
  rintro _ _ _ ⟨i,j,_,rfl,hle1,H,hinv1,rfl⟩
  have hkids:=hkids.up hle1
  obtain⟨_,_,hlo,hhi⟩:=hinv1
  refine W_seq (q2 (pe 3 Z (q3 ?_)))
  refine W_cond Z ?_ ?_
  ·intro hc2
   try simp only[nrm]at hc2
   refine W_skip (N_K (W_block (q2 (pe 2 Z (aD Z2 (o_conv (by simp[underlying3]) underlying258 Z Z (wrap_u64 oO) (o_shr1 Z Z Z (by decide) (o_conv (by simp[underlying258]) underlying3 Z Z (wrap_i64 oO) (aG Z (q1 (pe 3 Z (iP ((i+j) / 2) hkids Z3 oM ?_))))))))))));intro _ _ z4 _ hz4 hE4 hrow4
   obtain⟨rfl,hnd4⟩:=hE4;obtain⟨_,_,_,_,_,_,_,_,hri4,hrk4⟩:=hnd4.open;have hn_hri4:=hri4.len;have hx_hri4:_≤1099511627776:=hri4.lim;have hn_hrk4:=hrk4.len;have hx_hrk4:_≤1099511627776:=hrk4.lim
   refine lP H hrow4 0 Z2 (mV Z (o_callv call202 Z Z Z (i_place1_c _ _ H.sub _ hnd4 _ hnm) ?_))
   rintro _ _ ⟨rfl,ew5⟩;have H:=H.step ew5;refine⟨_,rfl,?_⟩
   refine pe 1 Z (q3 ?_)
   refine W_cond Z ?_ ?_
   ·intro hc6
    try simp only[nrm]at hc6
    refine W_region (mV Z (aD Z2 (aG Z (R_nil (N_B ?_)))))
    refine N_lp (hJ:=⟨((i+j) / 2+1),j,_,Z,hle1,H,?inv,Z⟩) (hm:=?hm)
    case hm=>omega
    case inv=>exact⟨by omega,by omega,Sp.pw_lt hsk hz4 ((Sp.cmpB_lt _ _).1 hc6),hhi⟩
   intro hc6'
   try simp only[nrm]at hc6'
   refine W_region (pe 2 Z (R_nil (N_B ?_)))
   refine N_lp (hJ:=⟨i,((i+j) / 2),_,Z,hle1,H,?inv,Z⟩) (hm:=?hm)
   case hm=>omega
   case inv=>exact⟨by omega,by omega,hlo,Sp.pw_ge hsk hz4 (by cases hlt:Sp.lt z4.name nm with |false=>rfl|true=>exact absurd ((Sp.cmpB_lt _ _).2 hlt) oM)⟩
  intro hc2'
  try simp only[nrm]at hc2'
  refine W_exit (N_K_exit (N_LP_exit (N_B_same (N_K (q2 (pe 5 Z ?_))))))
  refine R_case (t:=39) Z ?_ ?_
  ·intro hc8
   try simp only[nrm]at hc8
   refine pe 3 Z (gR Z (iP i hkids Z3 Z ?_));intro _ _ _ _ hz9 hE9 hrow9
   obtain⟨rfl,hnd9⟩:=hE9;obtain⟨_,_,_,_,_,_,_,_,hri9,hrk9⟩:=hnd9.open;have hn_hri9:=hri9.len;have hx_hri9:_≤1099511627776:=hri9.lim;have hn_hrk9:=hrk9.len;have hx_hrk9:_≤1099511627776:=hrk9.lim
   refine gR Z (lP H hrow9 0 Z2 (pe 1 Z (gR Z (o_callv call202 Z Z Z (i_place1_c _ _ H.sub _ hnd9 _ hnm) ?_))))
   rintro _ _ ⟨rfl,ew10⟩;have H:=H.step ew10;refine⟨_,rfl,?_⟩
   refine pe 4 Z (q3 (W_ret (rt2 results201 Z Z ?_)))
   obtain rfl:i=j:=by omega
   have hpl:=Sp.pl_of oM hlo hhi
   obtain⟨hfd,_⟩:=Sp.fd_at hsk hz9 hlo hhi
   exact H.rets (by rw[hpl,hfd];simp only[Sp.cmpB_eq];rfl)
  intro hc8'
  try simp only[nrm]at hc8'
  refine pe 11 Z (q3 (W_ret (rt2 results201 Z Z ?_)))
  obtain rfl:i=j:=by omega
  have hpl:=Sp.pl_of oM hlo hhi
  have hfd:=Sp.fd_end (nm:=nm) (ks:=kids) (fun k x hk hx=>hlo k x oM hx)
  exact H.rets (by rw[hpl,hfd];rfl)
theorem i_place_c (w0:World)(G0:PH)(hG:PSub G0 w0)(t:Nd)(hndt:RdN G0 t)(nm:Bs)(hnm:nm.length≤16777216)(hwt:t.wf) :
  Calls Tryz.prog 171 #[.pointer (some ⟨t.b,0,none⟩),str nm] w0 (Rets w0 (.tuple #[.int .i64 (Sp.pl t.kids nm:Nat),.bool (Sp.fd t.kids nm).isSome])):=by
 obtain⟨_,_,_,_,_,_,_,hprt,hrit,hrkt⟩:=hndt.open
 have hn_hrit:=hrit.len;have hx_hrit:_≤1099511627776:=hrit.lim
 have hn_hrkt:=hrkt.len;have hx_hrkt:_≤1099511627776:=hrkt.lim
 have H:=Hp.init hG
 refine calls_of_W (l:=[.pointer (some ⟨t.b,0,none⟩),str nm]) func171 Z ntmps171 Z (q2 (pe 2 Z (q1 (pe 2 Z (fA 3 Z (lP H hprt 3 Z2 (mV Z (xr H Z2 (l_Search_c _ _ H.sub _ _ hrkt _ hnm ((Nd.wf_iff _).1 hwt).1) ?_))))))));intro _ H
 refine pe 4 Z (q3 (W_ret (rt2 results171 Z Z ?_)))
 exact H.rets Z
theorem i_at_c (w0:World)(G0:PH)(hG:PSub G0 w0)(t:Nd)(hndt:RdN G0 t)(vps:Value)(ps:List (Bs))(hps:RdT G0 vps ps)(hwt:t.wf) :
  Calls Tryz.prog 118 #[.pointer (some ⟨t.b,0,none⟩),vps] w0 (RetV w0 (fun v=>(t.at_ ps=none∧v= .pointer none)∨(∃d,t.at_ ps=some d∧v= .pointer (some ⟨d.b,0,none⟩)))):=by
 obtain⟨_,_,_,_,_,_,_,hprt,hrit,hrkt⟩:=hndt.open
 have hn_hrit:=hrit.len;have hx_hrit:_≤1099511627776:=hrit.lim
 have hn_hrkt:=hrkt.len;have hx_hrkt:_≤1099511627776:=hrkt.lim
 obtain⟨aps,kps,rfl⟩:=hps.shape
 have hlimps:ps.length≤1099511627776:=hps.lim
 have H:=Hp.init hG
 refine calls_of_W (l:=[.pointer (some ⟨t.b,0,none⟩),.slice aps ps.length kps]) func118 Z ntmps118 Z (q2 (aG Z (q3 (W_seq (q2 (mV Z (lN Z (mV Z (q3 (W_block ?_))))))))))
 refine W_lp (hf:=(Sub.cons (t:=9) Z (Sub.cons (t:=10) Z Sub.nil))) (J:=fun M w m=>∃(k:Nat) (d:Nd) (G:PH),M=[(11,.int .i64 (k:Int)),(0,.pointer (some ⟨d.b,0,none⟩))]∧PLe G0 G∧Hp w0 G0 [] w G []∧(k≤ps.length∧RdN G d∧d.wf∧t.at_ (ps.take k)=some d)∧m=(ps.length-k)) (h0:=⟨0,t,_,Z,PLe.refl _,H,?inv,Z⟩) (round:=?round)
 case inv=>exact⟨by omega,hndt,hwt,rfl⟩
 case round =>
  rintro _ _ _ ⟨k,d,_,rfl,hle1,H,hinv1,rfl⟩
  have hps:=hps.up hle1
  obtain⟨_,hnd0,hwd,hat⟩:=hinv1;obtain⟨_,_,_,_,_,_,_,hpr0,_,hrk0⟩:=hnd0.open;have hn_hrk0:=hrk0.len
  refine q2 (pe 1 Z (q3 (W_seq ?_)))
  refine W_cond Z ?_ ?_
  ·intro hc2
   try simp only[nrm]at hc2
   refine W_skip (N_K (W_seq (W_block (q2 (iP k hps Z3 Z ?_)))));intro _ _ z3 _ hz3 hE3 hrow3
   obtain⟨rfl,hi3⟩:=hE3;have hy_hi3:_≤16777216:=hi3
   refine lP H hrow3 0 Z2 (aG Z (q1 (pe 2 Z (xr H Z2 (i_place_c _ _ H.sub _ hnd0 _ hi3 hwd) ?_))));intro _ H
   refine pe 5 Z (q3 (W_seq (q2 (pe 2 Z (q3 ?_)))))
   refine W_cond Z ?_ ?_
   ·intro hc5
    try simp only[nrm]at hc5
    refine q2 (aG Z (q3 (W_ret (N_K_ret (N_B_ret (N_K_ret (N_LP_ret (N_B_ret (N_K_ret (rt1 results118 Z ?_))))))))))
    exact H.retV (.inl ⟨Nd.at_stop hz3 hat (by simpa [Sp.fd,Nd.kid] using hc5),rfl⟩)
   intro hc5'
   try simp only[nrm]at hc5'
   obtain⟨q,hq⟩:=Option.isSome_iff_exists.1 hc5'
   have hpl:d.kids[Sp.pl d.kids z3]? = some q:=Nd.place_some hwd hq
   have hlt:Sp.pl d.kids z3<d.kids.length:=(List.getElem?_eq_some_iff.1 hpl).1
   refine W_skip (N_K (W_region (pe 2 Z (fA 3 Z (lP H hpr0 3 Z2 (mV Z (iP (Sp.pl d.kids z3) hrk0 Z3 Z ?_)))))));intro _ _ z6 _ hz6 hE6 hrow6
   obtain⟨rfl,hnd6⟩:=hE6;obtain⟨_,_,_,_,_,_,_,_,hri6,hrk6⟩:=hnd6.open;have hn_hri6:=hri6.len;have hx_hri6:_≤1099511627776:=hri6.lim;have hn_hrk6:=hrk6.len;have hx_hrk6:_≤1099511627776:=hrk6.lim
   have hkid:Nd.kid d z3=some z6:=by (show Sp.fd _ _=_);rw[hq];exact hpl.symm.trans hz6
   refine lP H hrow6 0 Z2 (aG Z (R_nil (N_B (N_K (W_region (aD Z2 (mV Z (R_nil ?_))))))))
   refine N_lp (hJ:=⟨k+1,z6,_,Z,hle1,H,?inv,Z⟩) (hm:=?hm)
   case hm=>omega
   case inv=>exact⟨by omega,hnd6,(((Nd.wf_iff _).1 hwd).2 _ (List.mem_of_getElem? hz6)).2,by rw[Nd.at_step hz3 hat];exact hkid⟩
  intro hc2'
  try simp only[nrm]at hc2'
  refine W_exit (N_K_exit (N_LP_exit (N_B_same (N_K (q2 (pe 2 Z (q3 (W_ret (rt1 results118 Z ?_)))))))))
  exact H.retV (.inr ⟨d,by rw[←hat,List.take_of_length_le oM],rfl⟩)
theorem i_dirOf_c (w0:World)(G0:PH)(hG:PSub G0 w0)(t:Nd)(hndt:RdN G0 t)(path:Bs)(hpath:path.length≤16777216)(hwt:t.wf) :
  Calls Tryz.prog 117 #[.pointer (some ⟨t.b,0,none⟩),str path] w0 (RetV w0 (fun v=>(t.dirOf path=none∧v= .tuple #[.pointer none,str []])∨(∃d nm,t.dirOf path=some (d,nm)∧v= .tuple #[.pointer (some ⟨d.b,0,none⟩),str nm]))):=by
 obtain⟨_,_,_,_,_,_,_,hprt,hrit,hrkt⟩:=hndt.open
 have hn_hrit:=hrit.len;have hx_hrit:_≤1099511627776:=hrit.lim
 have hn_hrkt:=hrkt.len;have hx_hrkt:_≤1099511627776:=hrkt.lim
 have H:=Hp.init hG
 refine calls_of_W (l:=[.pointer (some ⟨t.b,0,none⟩),str path]) func117 Z ntmps117 Z (q2 (pe 2 Z (q1 (mV Z (xc Z2 (i_PathParts_c _ _ H.sub _ hpath) ?_)))))
 rintro _ _ ⟨G1,_,g1,rfl,hr1_0⟩
 have H:=H.grow g1
 have hndt:=hndt.up g1.le
 obtain⟨_,_,rfl⟩:=hr1_0.shape;have hx_hr1_0:_≤1099511627776:=hr1_0.lim
 refine⟨_,Z,?_⟩
 refine aG Z (q3 (W_seq (q2 (mV Z (lN Z (pe 1 Z (q3 ?_)))))))
 refine W_cond Z ?_ ?_
 ·intro hc2
  try simp only[nrm]at hc2
  refine q2 (pe 2 Z (q3 (W_ret (N_K_ret (rt2 results117 Z Z ?_)))))
  exact H.retV (.inl ⟨Nd.dirOf_nil oM,Z⟩)
 intro hc2'
 try simp only[nrm]at hc2'
 refine W_skip (N_K (q2 (mV Z (lN Z (o_sub Z Z Z oO (aG Z (q1 (pe 3 Z ?_))))))))
 have hcap4:=hr1_0.cap;try simp only[List.length_set,List.length_append,List.length_take,List.length_drop,List.length_replicate]at hcap4
 refine o_slice_to (j:=((Sp.parts path).length-1)) underlying182 sizeOf9 Z Z Z oM oM ?_
 have hsl4:=hr1_0.take (j:=((Sp.parts path).length-1)) aN
 have hsn1:=hsl4.len
 refine xc Z2 (i_at_c _ _ H.sub _ hndt _ _ hsl4 hwt) ?_
 rintro _ _ ⟨_,rfl,ew5,⟨hat5,rfl⟩|⟨_,hat5,rfl⟩⟩
 ·skip
  have H:=H.step ew5;refine⟨_,rfl,?_⟩
  refine aG Z (q3 (W_seq (q2 (mV Z (o_eqnil_ptr underlying84 Z Z Z (pe 7 Z (q3 (W_true Z (q2 (pe 2 Z (q3 (W_ret (N_K_ret (rt2 results117 Z Z ?_))))))))))))))
  exact H.retV (.inl ⟨Nd.dirOf_no oM hat5,Z⟩)
 skip
 have H:=H.step ew5;refine⟨_,rfl,?_⟩
 have hnd5:=hndt.at hat5;obtain⟨_,_,_,_,_,_,_,hpr5,hri5,hrk5⟩:=hnd5.open
 have hn_hri5:=hri5.len;have hx_hri5:_≤1099511627776:=hri5.lim
 have hn_hrk5:=hrk5.len;have hx_hrk5:_≤1099511627776:=hrk5.lim
 refine aG Z (q3 (W_seq (q2 (mV Z (o_eqnil_ptr underlying84 Z Z Z (pe 3 Z (gR Z (fA 1 Z (gR Z (lP H hpr5 1 Z2 (pe 2 Z (q3 ?_))))))))))))
 refine W_cond Z ?_ ?_
 ·intro hc6
  try simp only[nrm]at hc6
  refine q2 (pe 2 Z (q3 (W_ret (N_K_ret (rt2 results117 Z Z ?_)))))
  exact H.retV (.inl ⟨Nd.dirOf_nodir oM hat5 (by simpa using hc6),rfl⟩)
 intro hc6'
 try simp only[nrm]at hc6'
 refine W_skip (N_K (W_seq (W_drawK [] 7 H kR Z ?_)));intro _ H;have hd7:=PLe.refl G1
 refine dE 0 Z2 (dE 1 Z2 (dE 2 Z2 ?_))
 have hl8:=hr1_0.len
 obtain⟨_,_,_,_,ha8,hz8,hq8,hE8,hrow8,_⟩:=hr1_0.at (i:=((Sp.parts path).length-1)) oM
 clear hq8
 obtain⟨rfl,hi8⟩:=hE8;have hy_hi8:_≤16777216:=hi8
 refine dI 3 1 ((Sp.parts path).length-1) ha8 Z3 oM (dP 4 hrow8 0 Z3 (dE 5 Z2 (dE 6 Z2 (rz (N_K (W_ret (rt2 results117 Z Z ?_)))))))
 exact H.retV (.inr ⟨_,_,Nd.dirOf_yes oM hz8 hat5 (by simpa using hc6'),rfl⟩)
theorem i_find_n_c (w0:World)(G0:PH)(hG:PSub G0 w0)(t:Nd)(hndt:RdN G0 t)(path:Bs)(hpath:path.length≤16777216)(hwt:t.wf) :
  Calls Tryz.prog 50 #[.pointer (some ⟨t.b,0,none⟩),str path] w0 (RetV w0 (fun v=>(t.find path=none∧v= .pointer none)∨(∃d,t.find path=some d∧v= .pointer (some ⟨d.b,0,none⟩)))):=by
 obtain⟨_,_,_,_,_,_,_,_,hrit,hrkt⟩:=hndt.open
 have hn_hrit:=hrit.len;have hx_hrit:_≤1099511627776:=hrit.lim
 have hn_hrkt:=hrkt.len;have hx_hrkt:_≤1099511627776:=hrkt.lim
 have H:=Hp.init hG
 refine calls_of_W (l:=[.pointer (some ⟨t.b,0,none⟩),str path]) func50 Z ntmps50 Z (q2 (aG Z (q1 (pe 2 Z (xc Z2 (i_dirOf_c _ _ H.sub _ hndt _ hpath hwt) ?_)))))
 rintro _ _ ⟨_,rfl,ew1,⟨hdf1,rfl⟩|⟨_,nm1,hdf1,rfl⟩⟩
 ·skip
  have H:=H.step ew1;refine⟨_,rfl,?_⟩
  refine pe 5 Z (q3 (W_seq (q2 (mV Z (o_eqnil_ptr underlying84 Z Z Z (q3 (W_true Z (q2 (aG Z (q3 (W_ret (N_K_ret (rt1 results50 Z ?_)))))))))))))
  exact H.retV (.inl ⟨Nd.find_no hdf1,Z⟩)
 skip
 have H:=H.step ew1;refine⟨_,rfl,?_⟩
 have hnml1:=Nd.dir_len hdf1
 have hnd1:=hndt.at (Nd.dirOf_some hdf1).2.2.1;obtain⟨_,_,nm1,_,_,_,_,_,hri1,hrk1⟩:=hnd1.open
 have hn_hri1:=hri1.len;have hx_hri1:_≤1099511627776:=hri1.lim
 have hn_hrk1:=hrk1.len;have hx_hrk1:_≤1099511627776:=hrk1.lim
 refine pe 5 Z (q3 (W_seq (q2 (mV Z (o_eqnil_ptr underlying84 Z Z Z (q3 (W_false Z (W_skip (N_K (q2 (pe 2 Z (xbs H Z7 ?_))))))))))));intro _ _ _ H
 have H:=H.blkAcc 1 (k:=0) (n:=1) rfl rfl (by decide)
 have hchk4:=((Chk.nil (E:=strE) (sz:=1) (G:=G0)).snoc (show strE _ _ _ from⟨rfl,hnml1⟩) rfl)
 refine xc Z2 (i_at_c _ _ (H.lendSubL [0]) _ (hnd1.up (PPlus.le _ _ _)) _ _ (H.lendRdL (k:=0) (ks:=[0]) Z Z hchk4 aN aN) (Nd.dir_wf hwt hdf1)) ?_
 rintro _ _ ⟨_,rfl,ew3,⟨hat3,rfl⟩|⟨_,hat3,rfl⟩⟩
 ·skip
  have H:=H.step ew3;refine⟨_,rfl,?_⟩
  refine aG Z (q3 (W_ret (rt1 results50 Z ?_)))
  exact H.retV (.inl ⟨(Nd.find_yes hdf1).trans hat3,Z⟩)
 skip
 have H:=H.step ew3;refine⟨_,rfl,?_⟩
 have hnd3:=hnd1.at hat3;obtain⟨_,_,_,_,_,_,_,_,hri3,hrk3⟩:=hnd3.open
 have hn_hri3:=hri3.len;have hx_hri3:_≤1099511627776:=hri3.lim
 have hn_hrk3:=hrk3.len;have hx_hrk3:_≤1099511627776:=hrk3.lim
 refine aG Z (q3 (W_ret (rt1 results50 Z ?_)))
 exact H.retV (.inr ⟨_,(Nd.find_yes hdf1).trans hat3,Z⟩)
end Go.Proofs.Tst
