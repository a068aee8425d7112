/- Part 5 of the proof: the program logic and plain functions. Conditions: none. -/
import Derived.Test.YtcagigfnblfnkaaGreatDoorG04
import Derived.Test.YtcagigfnblfnkaaGreatDoorG02
import Derived.KernelRfl
import Derived.Test.YtcagigfnblfnkaaGreatDoorG03
import Derived.Lib.AppendStr
import Derived.Shelf.Strings.Builder1
import Derived.Lib.ItoaNum
import Derived.RangeFuncNested
import Derived.RangeFuncLeaves
import Derived.RangeFuncCalls
import Derived.RangeFuncBound
set_option linter.all false
set_option maxRecDepth 100000
set_option maxHeartbeats 8000000
namespace Sp
open Fw
open Nd
theorem abO {L L':List ao}(h:VH L)(h':VH L')(hu:∀a,us L' a=us L a)(hb:∀a,0<us L a→dR L' a=dR L a){x:ao}(hx:x ∈ L):x ∈ L':=by
 have nd:(L.map (·.id)).Nodup:=List.pairwise_map.2 (h.d_.imp<|fun hh e=>by omega);have zX:(L'.map (·.id)).Nodup:=List.pairwise_map.2 (h'.d_.imp<|fun hh e=>by omega);have g:=qM nd hx;have hp:0<us L x.id:=by
  have:=(h.ok x hx).2.2.1;simp only[us,g];omega
 have IV:0<us L' x.id:=by rw[hu];exact hp
 obtain⟨y,hy,hid⟩:=List.mem_map.1<|at_mem.1<|(qz h').1 IV;have g':=qM zX hy;have e1:=hu x.id;have e2:=hb x.id hp;simp only[us,dR,g]at e1 e2;rw[←hid,g']at e1 e2;have:y=x:=by
  obtain⟨a,b,c⟩:=x;obtain⟨a',b',c'⟩:=y;simp only at e1 e2 hid;subst e1;subst e2;subst hid;rfl
 exact this▸hy
theorem awG {L L':List ao}(h:VH L)(h':VH L')(hu:∀a,us L' a=us L a)(hb:∀a,0<us L a→dR L' a=dR L a):L'=L:=by
 have nd:L.Nodup:=h.d_.imp (fun hh e=>by subst e;omega);have zX:L'.Nodup:=h'.d_.imp (fun hh e=>by subst e;omega);have hp:L'.Perm L:=(List.perm_ext_iff_of_nodup zX nd).2<|fun a=>⟨fun ha=>abO h' h (fun a=>(hu a).symm) (fun a h9=>(hb a<|by rw[←hu];exact h9).symm) ha,fun ha=>abO h h' hu hb ha⟩;exact hp.eq_of_pairwise (fun a b _ _ h1 h2=>by omega) h'.d_ h.d_
theorem auJ {l t:List aj}{x:aj}(h:dZ l x=some t)(hd:x.dir=true):∀y,y ∈ l→y.path≠x.path:=fun y hy e=>by
 have:=Gx (J_ h).1.d_ hy e (by simp[hd]);rw[this]at h;cases h
section
variable {v u:o8} {p:Bs} {b:List Int}
end
def yR (l:List aj)(p:Bs):Bool:=cU l&&(cD l p).isSome
theorem AW {T:Nd}{l:List aj}{p:Bs}(h:ci T l)(hf:T.find p=none):yR l p=false:=by
 have:=yy h p;rw[hf]at this;cases e:cD l p with
 | none=>simp[yR,e]
 | some i =>
  obtain⟨y,hy,_⟩:=(kx h.vt.d_ (p:=p)).1 i e;rw[e]at this;simp[hy]at this
theorem AX {T d:Nd}{l:List aj}{p:Bs}(h:ci T l)(hf:T.find p=some d):yR l p=true:=by
 have:=yy h p;rw[hf]at this;cases e:cD l p with
 | none=>rw[e]at this;simp at this
 | some i=>simp[yR,e,jI.2 h.vt]
end Sp
namespace Fw
open Go
section
variable {P:Program} {n:Nat} {ops:Array Oper} {Q:dp} {rest:List Oper} {L:br} {ds:List Deferred} {w:World}
variable {ty:TypeId} {ps:String} {af:Array Edge}
theorem aab {d:Nat}{f:FuncId}{x y:Operand}{v u:Value}(hd:Nat.blt d n=true)(hx:od L x=some v)(hy:od L y=some u)
  (next:R P n ops Q rest ((d,.func (.func f) #[] #[v,u])::L) ds w):R P n ops Q (⟨some d,.makeFunc (.func f) #[] #[x,y],ty,ps,af,none⟩::rest) L ds w :=
 cP hd (fun a ha=>by simp[execOp,Instr.makeFunc,ha.eval hx,ha.eval hy]) next
theorem ZX {d:Nat}{f:FuncId}{c:Operand}{xs:List Operand}{ts:Array TypeId}{vs:List Value}{cv cu:Value}{C:Ending→World→Prop}(hf:∀args w,(callFunc f args).run P w= .ok (.enter f args) w)(hd:Nat.blt d n=true)
  (yU:od L c=some (.func (.func f) #[] #[cv,cu])) (hx:lQ L xs=some vs) (hc:Calls P f (vs++[cv,cu]).toArray w C) (next:∀e w',C e w'→∃v,e= .returned v∧R P n ops Q rest ((d,v)::L) ds w') :
  R P n ops Q (⟨some d,.call ⟨.value c,xs.toArray,ts⟩,ty,ps,af,none⟩::rest) L ds w:=by
 intro a ha;refine wpList_plain rfl fun K hK=>?_;have e:xs.map a.eval=vs:=ha.uK xs vs hx;have hr:(execOp a.eval ⟨some d,.call ⟨.value c,xs.toArray,ts⟩,ty,ps,af,none⟩).run P w= .ok (.enter f (vs++[cv,cu]).toArray) w:=by
  simp[execOp,resolve,invoke,ha.eval yU,Deferred.ofValue,e,hf]
 unfold Oper.wp;rw[hr,Oper.upon_enter];refine hc.mono fun e w' hC=>?_;obtain⟨v,rfl,h⟩:=next e w' hC
 exact hK _ _<|h _<|ha.put hd v
end
end Fw
namespace Sp
open Fw Nd
theorem keeps:∀(ids:List Int) {L L':List ao},VH L→ct fa ids (some L)=some L'→VH L'∧∀a,us L' a=us L a+(fs a ids:Int)∧dR L' a=dR L a
 | [],L,L',hV,h=>by
  have:L=L':=by simpa [ct] using h
  subst this;exact⟨hV,fun a=>by simp[fs]⟩
 | x::r,L,L',hV,h=>by
  have h':ct fa r (fa L x)=some L':=h;cases e:fa L x with
  | none=>rw[e,rN]at h';cases h'
  | some L1 =>
   rw[e]at h';obtain⟨k1,_,k3⟩:=QP hV e;obtain⟨g1,g2⟩:=keeps r k1 h';refine⟨g1,fun a=>?_⟩;have h3:=k3 a;have h4:=g2 a;rw[yp];refine⟨?_,h4.2.trans h3.2⟩;by_cases ea:a=x
   ·rw[if_pos ea]at h3 ⊢;omega
   ·rw[if_neg ea]at h3 ⊢;omega
theorem FR:∀(t:List aj) {L L':List ao},VH L→eG L t=some L'→VH L'∧∀a,us L' a=us L a+(eb t a:Int)∧dR L' a=dR L a
 | [],L,L',hV,h=>by
  have:L=L':=by simpa [eG,ct] using h
  subst this;exact⟨hV,fun a=>by simp[eb]⟩
 | x::r,L,L',hV,h=>by
  have h':ct lh r (lh L x)=some L':=h;cases e:lh L x with
  | none=>rw[e,rN]at h';cases h'
  | some L1 =>
   rw[e]at h';obtain⟨k1,k3⟩:=keeps x.ids hV e;obtain⟨g1,g2⟩:=FR r k1 h';refine⟨g1,fun a=>?_⟩;have h3:=k3 a;have h4:=g2 a;rw[pS];exact⟨by omega,h4.2.trans h3.2⟩
theorem YY:∀(ids:List Int) {L:List ao},VH L→(∀a,a ∈ ids→0<us L a)→(∀a,us L a+(fs a ids:Int)≤999)→∃L',ct fa ids (some L)=some L'
 | [],L,_,_,_=>⟨L,rfl⟩
 | x::r,L,hV,hp,hl=>by
  have hx:=hp x (by simp);have l9:=hl x;rw[yp,if_pos rfl]at l9;have hu:(cE L x).bh<999:=by
   have:us L x=(cE L x).bh:=rfl;omega
  obtain⟨h1,h2⟩:=QO hV ((qz hV).1 hx) hu;obtain⟨k1,_,k3⟩:=QP hV h1
  obtain⟨L',g⟩:=YY r k1 (fun a ha=>by
   have h3:=(k3 a).1;have:=hp a (by simp[ha]);split at h3<;>omega) (fun a=>by
   have h3:=(k3 a).1;have h4:=hl a;rw[yp]at h4;split at h3
   ·rename_i ea;rw[if_pos ea]at h4;omega
   ·rename_i ea;rw[if_neg ea]at h4;omega)
  exact⟨L',by rw[rM h1];exact g⟩
theorem QN:∀(t:List aj) {L:List ao},VH L→(∀x,x ∈ t→dh L x.ids=true)→(∀a,us L a+(eb t a:Int)≤999)→∃L',eG L t=some L'
 | [],L,_,_,_=>⟨L,rfl⟩
 | x::r,L,hV,hi,hl=>by
  obtain⟨L1,h1⟩:=YY x.ids hV (fun a ha=>FO hV (hi x<|by simp) ha) (fun a=>by
   have:=hl a;rw[pS]at this;omega)
  obtain⟨k1,k3⟩:=keeps x.ids hV h1
  obtain⟨L',g⟩:=QN r k1 (fun y hy=>FP hV k1 (fun a ha=>⟨by have:=(k3 a).1;omega,(k3 a).2⟩)<|hi y<|by simp[hy]) (fun a=>by
   have:=hl a;have:=(k3 a).1;rw[pS]at *;omega)
  exact⟨L',by
   show ct lh (x::r) (some L)=some L';rw[rM<|show lh L x=some L1 from h1];exact g⟩
def AP (s:List ao)(x:aj):Option (List ao):=fo s x.ids
def rP (s:List ao)(l:List aj):Option (List ao):=ct AP l<|some s
def jf (s:List ao)(l:List aj):List ao:=l.foldl (fun s x=>(fo s x.ids).getD []) s
theorem Vf:∀(t:List aj) {L:List ao},VH L→(∀x,x ∈ t→dh L x.ids=true)→(∀a,(eb t a:Int)≤us L a) →
  ∃L',rP L t=some L'∧jf L t=L'∧VH L'∧∀a,us L' a=us L a-(eb t a:Int)∧(0<us L' a→dR L' a=dR L a)
 | [],L,hV,_,_=>⟨L,rfl,rfl,hV,fun a=>by simp[eb]⟩
 | x::r,L,hV,hi,hl=>by
  obtain⟨L1,k1,k2,k3⟩:=Ma hV (hi x<|by simp) (fun a=>by
   have:=hl a;rw[pS]at this;omega)
  have hc:∀a,(eb r a:Int)≤us L1 a:=fun a=>by
   have:=hl a;have:=(k3 a).1;rw[pS]at *;omega
  obtain⟨L',g1,g2,g3,g4⟩:=Vf r k2 (fun y hy=>BI hV k2 (fun a ha=>by
   have h1:0<fs a y.ids:=uI.2 ha;have h2:=yq hy a;have h3:=hc a;have h4:0<us L1 a:=by omega
   exact⟨h4,(k3 a).2 h4⟩)<|hi y<|by simp[hy]) hc
  refine⟨L',?_,?_,g3,fun a=>?_⟩
  ·show ct AP (x::r) (some L)=some L';rw[rM<|show AP L x=some L1 from k1];exact g1
  ·simp only[jf,List.foldl_cons,k1,Option.getD_some];exact g2
  ·have h1:=k3 a;have h2:=g4 a;rw[pS];refine⟨by omega,fun h=>(h2.2 h).trans<|h1.2<|by omega⟩
def eQ (d:aK):List (List aj):=d.tree::d.aw.map (·.tree)
def pR (ts:List (List aj))(a:Int):Nat:=(ts.map<|fun t=>eb t a).sum
theorem pa (t:List aj)(ts:List (List aj))(a:Int):pR (t::ts) a=eb t a+pR ts a:=by simp[pR]
theorem Cv {ts:List (List aj)}{t:List aj}(h:t ∈ ts)(a:Int):eb t a≤pR ts a:=by
 induction ts with
 | nil=>cases h
 | cons y r ih =>
  rw[pa];rcases List.mem_cons.1 h with rfl|h
  ·omega
  ·have:=ih h;omega
theorem aeK {ts:List (List aj)}{a:Int}(h:∀t,t ∈ ts→∀x,x ∈ t→a ∉ x.ids):pR ts a=0:=by
 induction ts with
 | nil=>rfl
 | cons y r ih=>rw[pa,ih<|fun t ht=>h t<|by simp[ht],aeM<|h y<|by simp]
theorem aeJ {ts:List (List aj)}(h:∀t,t ∈ ts→VT t)(a:Int):pR ts a≤48*ts.length:=by
 induction ts with
 | nil=>simp[pR]
 | cons y r ih =>
  rw[pa,List.length_cons];have h1:=ih (fun t ht=>h t<|by simp[ht]);have h2:=Jw (id:=a) (jI.2<|h y<|by simp);rw[Y3]at h2;omega
theorem Y8 (d:aK)(a:Int):FV d a=pR (eQ d) a:=by
 simp[FV,rG,eQ,Y3,pR,Function.comp_def]
structure jW (L:List ao) (ts:List (List aj)):Prop where
 vh:VH L
 vt:∀t,t ∈ ts→VT t
 ids:∀t,t ∈ ts→∀x,x ∈ t→dh L x.ids=true
 use:∀a,us L a=(pR ts a:Int)
def Aq (l:List cG):Prop:=l.length≤6∧∀(k:Nat) (s:cG),l[k]? = some s→ep s.name=true∧(k:Int)≤jx l s.name
theorem gz {d:aK}:aS d=true↔Aq d.aw∧jW d.store (eQ d):=by
 rw[cX,eX,jI]
 have hf:∀l:List aj,rh d.store l=true↔∀x,x ∈ l→dh d.store x.ids=true:=fun l=>by
  unfold rh;rw[List.all_eq_true];exact Iff.rfl
 constructor
 ·rintro⟨h1,h2,h3,h4,⟨h5,h6⟩,h7⟩
  have hi:∀t,t ∈ eQ d→∀x,x ∈ t→dh d.store x.ids=true:=fun t ht=>by
   rcases List.mem_cons.1 ht with rfl|ht
   ·exact(hf _).1 h5
   ·obtain⟨s,hs,rfl⟩:=List.mem_map.1 ht;obtain⟨k,hk⟩:=List.getElem?_of_mem hs;exact(hf _).1 (h6 k s hk)
  refine⟨⟨h3,fun k s hs=>⟨(h4 k s hs).1,(h4 k s hs).2.1⟩⟩,⟨h1,fun t ht=>?_,hi,fun a=>?_⟩⟩
  ·rcases List.mem_cons.1 ht with rfl|ht
   ·exact h2
   ·obtain⟨s,hs,rfl⟩:=List.mem_map.1 ht;obtain⟨k,hk⟩:=List.getElem?_of_mem hs;exact jI.1 (h4 k s hk).2.2
  ·by_cases ha:a ∈ d.store.map (·.id)
   ·obtain⟨h,hh,rfl⟩:=List.mem_map.1 ha;have:=List.all_eq_true.1 h7 h hh;simp only[x4,decide_eq_true_eq,Y8]at this;rw[this,us,qM h1.nd hh]
   ·rw[us,uO ha,aeK]
    ·rfl
    ·intro t ht x hx hax;have:=FO h1 (hi t ht x hx) hax;rw[us,uO ha]at this;exact absurd this (by simp)
 ·rintro⟨⟨h3,h4⟩,⟨h1,h2,hi,hu⟩⟩;have hm:∀(k:Nat) (s:cG),d.aw[k]? = some s→s.tree ∈ eQ d:=fun k s hs=>List.mem_cons.2<|.inr<|List.mem_map.2 ⟨s,List.mem_of_getElem? hs,rfl⟩;refine⟨h1,h2 _<|by simp[eQ],h3,fun k s hs=>⟨(h4 k s hs).1,(h4 k s hs).2,jI.2<|h2 _<|hm k s hs⟩,⟨(hf _).2<|hi _<|by simp[eQ],fun k s hs=>(hf _).2<|hi _<|hm k s hs⟩,List.all_eq_true.2 fun h hh=>?_⟩;simp only[x4,decide_eq_true_eq,Y8];rw[←hu,us,qM h1.nd hh]
def dq (d:aK)(n:Bs):Option aK:=match fc d.aw n with
 | none=>none
 | some i=>if aS d then some ⟨jf d.store<|((d.aw[i]?).map (·.tree)).getD [],d.tree,d.aw.take i++d.aw.drop (i+1)⟩ else none
def dC (d:aK)(n:Bs):Option aK:=match fc d.aw n with
 | none=>none
 | some i=>if aS d then(eG d.store<|((d.aw[i]?).map (·.tree)).getD []).map (fun s=>⟨jf s d.tree,((d.aw[i]?).map (·.tree)).getD [],d.aw⟩) else none
def iw (d:aK)(p:Bs)(b:List Int):Option aK:=if aS d&&jz b then(gp ⟨d.store,d.tree⟩ p b).map (fun v=>⟨v.store,v.tree,d.aw⟩) else none
theorem Ax {l:List cG}{n:Bs}{i:Nat}(h:fc l n=some i):∃s,l[i]? = some s∧s.name=n∧i<l.length∧∀j s',j<i→l[j]? = some s'→s'.name≠n:=by
 obtain⟨h1,h2,h3⟩:=List.findIdx?_eq_some_iff_getElem.1 h;refine⟨l[i],by simp[h1],by simpa using h2,h1,fun j s' hj hs e=>?_⟩;have:=h3 j hj;obtain⟨Wu,nu⟩:=List.getElem?_eq_some_iff.1 hs;rw[nu]at this;simp[e]at this
section
variable {d d1:aK} {n:Bs}
theorem abt (h:cT d n=some d1):aS d=true∧ep n=true∧fc d.aw n=none∧d.aw.length<6∧∃s,eG d.store d.tree=some s∧d1=⟨s,d.tree,d.aw++[⟨n,d.tree⟩]⟩:=by
 unfold cT at h;split at h
 ·rename_i hc;simp only[Bool.and_eq_true,decide_eq_true_eq]at hc;obtain⟨⟨⟨c1,c2⟩,c3⟩,c4⟩:=hc;obtain⟨s,h1,rfl⟩:=Option.map_eq_some_iff.1 h;have:=(gz.1 c1).1.1;exact⟨c1,c2,by simpa using c3,by omega,s,h1,rfl⟩
 ·cases h
theorem UB (h:dq d n=some d1):aS d=true∧∃i s,fc d.aw n=some i∧d.aw[i]? = some s∧s.name=n∧d1=⟨jf d.store s.tree,d.tree,d.aw.take i++d.aw.drop (i+1)⟩:=by
 unfold dq at h;split at h
 ·cases h
 ·rename_i i e;split at h
  ·rename_i hc;obtain⟨s,h1,h2,_⟩:=Ax e;rw[h1]at h;cases h;exact⟨hc,i,s,e,h1,h2,rfl⟩
  ·cases h
theorem TC (h:dC d n=some d1):aS d=true∧∃i s st,fc d.aw n=some i∧d.aw[i]? = some s∧s.name=n∧eG d.store s.tree=some st∧d1=⟨jf st d.tree,s.tree,d.aw⟩:=by
 unfold dC at h;split at h
 ·cases h
 ·rename_i i e;split at h
  ·rename_i hc;obtain⟨s,h1,h2,_⟩:=Ax e;rw[h1]at h;obtain⟨st,h3,h4⟩:=Option.map_eq_some_iff.1 h;exact⟨hc,i,s,st,e,h1,h2,h3,h4.symm⟩
  ·cases h
theorem GG {i:Nat}{s:cG}(h:d.aw[i]? = some s):s.tree ∈ eQ d:=List.mem_cons.2<|.inr<|List.mem_map.2 ⟨s,List.mem_of_getElem? h,rfl⟩
theorem jW.le {L:List ao}{ts:List (List aj)}(h:jW L ts)(hl:ts.length≤7)(a:Int):us L a≤336:=by
 have:=h.use a;have:=aeJ h.vt a;omega
theorem av3 (h:Aq d.aw):(eQ d).length≤7:=by
 have:=h.1;simp only[eQ,List.length_cons,List.length_map];omega
theorem arq {L:List ao}{ts:List (List aj)}(h:jW L ts)(hl:ts.length≤7){t:List aj}(ht:t ∈ ts):∃L',eG L t=some L' :=
 QN t h.vh (h.ids t ht) (fun a=>by
  have:=h.le hl a;have:=h.use a;have:=Cv ht a;omega)
theorem YU {L L':List ao}{ts:List (List aj)}(h:jW L ts){t:List aj}(ht:t ∈ ts)(hk:eG L t=some L'):jW L' (t::ts)∧∀a,us L' a=us L a+(eb t a:Int)∧dR L' a=dR L a:=by
 obtain⟨k1,k2⟩:=FR t h.vh hk;have eC:∀a,0<us L a→0<us L' a∧dR L' a=dR L a:=fun a ha=>⟨by have:=(k2 a).1;omega,(k2 a).2⟩;have hi:∀u,u ∈ ts→∀x,x ∈ u→dh L' x.ids=true:=fun u hu x hx=>FP h.vh k1 eC<|h.ids u hu x hx;refine⟨⟨k1,fun u hu=>?_,fun u hu=>?_,fun a=>?_⟩,k2⟩
 ·rcases List.mem_cons.1 hu with rfl|hu
  ·exact h.vt _ ht
  ·exact h.vt _ hu
 ·rcases List.mem_cons.1 hu with rfl|hu
  ·exact hi _ ht
  ·exact hi _ hu
 ·rw[(k2 a).1,h.use a,pa];omega
theorem L9 {L:List ao}{ts:List (List aj)}{t:List aj}(h:jW L (t::ts)) :
  ∃L',rP L t=some L'∧jf L t=L'∧jW L' ts∧∀a,us L' a=us L a-(eb t a:Int)∧(0<us L' a→dR L' a=dR L a):=by
 obtain⟨L',g1,g2,g3,g4⟩:=Vf t h.vh (h.ids t<|by simp) (fun a=>by
  have:=h.use a;rw[pa]at this;omega)
 have hu:∀a,us L' a=(pR ts a:Int):=fun a=>by
  have:=h.use a;have:=(g4 a).1;rw[pa]at *;omega
 refine⟨L',g1,g2,⟨g3,fun u hu=>h.vt u<|by simp[hu],fun u j8 x hx=>BI h.vh g3 (fun a ha=>?_)<|h.ids u (by simp[j8]) x hx,hu⟩,g4⟩;have h1:0<fs a x.ids:=uI.2 ha;have h2:=yq hx a;have h3:=Cv j8 a;have h4:=hu a;have h5:0<us L' a:=by omega
 exact⟨h5,(g4 a).2 h5⟩
theorem jW.perm {L:List ao}{ts us':List (List aj)}(h:jW L ts)(hp:ts.Perm us'):jW L us' :=
 ⟨h.vh,fun t ht=>h.vt t<|hp.mem_iff.2 ht,fun t ht=>h.ids t<|hp.mem_iff.2 ht,fun a=>by rw[h.use a];exact congrArg _<|(hp.map _).sum_nat⟩
theorem SF (h:cT d n=some d1):aS d1=true:=by
 obtain⟨hd,hw,hn,hl,s,hk,rfl⟩:=abt h;obtain⟨hN,hH⟩:=gz.1 hd;obtain⟨g1,_⟩:=YU hH (t:=d.tree) (by simp[eQ]) hk;refine gz.2 ⟨⟨by simp;omega,fun k s' hs=>?_⟩,g1.perm ?_⟩
 ·simp only[jx,fc,List.findIdx?_append];by_cases iR:k<d.aw.length
  ·rw[List.getElem?_append_left iR]at hs;obtain⟨h1,h2⟩:=hN.2 k s' hs;refine⟨h1,?_⟩;simp only[jx,fc]at h2;cases e:d.aw.findIdx? (fun x=>decide (x.name=s'.name)) with
   | none =>
    rw[e]at h2;simp[dV]at h2;omega
   | some i=>rw[e]at h2;simpa using h2
  ·rw[List.getElem?_append_right<|by omega]at hs;have j5:k=d.aw.length:=by
    have:=(List.getElem?_eq_some_iff.1 hs).1;simp at this;omega
   subst j5;simp at hs;subst hs;refine⟨hw,?_⟩;have:d.aw.findIdx? (fun x=>decide (x.name=n))=none:=hn;simp[this,dV]
 ·simp only[eQ,List.map_append,List.map_cons,List.map_nil];refine List.Perm.trans (List.Perm.swap _ _ _)<|List.Perm.cons _ ?_;exact(List.perm_append_comm (l₁:=[d.tree])).trans (List.Perm.refl _)
end
end Sp
namespace Sp
open Fw
theorem arF {l:List aj}{k:Nat}{x:aj}{s:List ao}(h:l[k]? = some x):jf s (l.take<|k+1)=(fo (jf s<|l.take k) x.ids).getD []:=by
 unfold jf;rw[gZ h,List.foldl_append];rfl
theorem HL (s:List ao)(ids:List Int):((fo s ids).getD []).length≤s.length:=by
 cases e:fo s ids with
 | none=>simp
 | some r =>
  unfold fo at e;split at e
  ·exact CO (P:=fun r:List ao=>r.length≤s.length) (f:=il) (fun a b a' h1 h2=>Nat.le_trans (UE h2) h1) _ _ _ (Nat.le_refl _) e
  ·cases e
end Sp
namespace Sp
open Fw Nd
theorem ate {l:List cG}:(∀(k:Nat) (s:cG),l[k]? = some s→(k:Int)≤jx l s.name)↔(l.map (·.name)).Nodup:=by
 constructor
 ·intro h;rw[List.nodup_iff_pairwise_ne,List.pairwise_map,List.pairwise_iff_getElem];intro i j hi hj ph e;have h1:=h j l[j] (by simp);simp only[jx]at h1;cases e2:fc l l[j].name with
  | none=>rw[e2]at h1;simp[dV]at h1;omega
  | some m =>
   rw[e2]at h1;obtain⟨_,_,_,_,h4⟩:=Ax e2;simp only[dV]at h1;exact h4 i l[i] (by omega) (by simp) e
 ·intro h k s hs;obtain⟨hk,jB⟩:=List.getElem?_eq_some_iff.1 hs;simp only[jx];cases e2:fc l s.name with
  | none =>
   have:=List.findIdx?_eq_none_iff.1 e2 s<|List.mem_of_getElem? hs;simp at this
  | some m =>
   obtain⟨s',h1,h2,h3,_⟩:=Ax e2;simp only[dV];by_cases hm:m<k
   ·rw[List.nodup_iff_pairwise_ne,List.pairwise_map,List.pairwise_iff_getElem]at h;obtain⟨_,h1'⟩:=List.getElem?_eq_some_iff.1 h1;exact absurd (by rw[h1',jB,h2])<|h m k h3 hk hm
   ·omega
theorem ZJ {l:List cG}:Aq l↔l.length≤6∧(∀s,s ∈ l→ep s.name=true)∧(l.map (·.name)).Nodup:=by
 rw[←ate];constructor
 ·rintro⟨h1,h2⟩;refine⟨h1,fun s hs=>?_,fun k s hs=>(h2 k s hs).2⟩;obtain⟨k,hk⟩:=List.getElem?_of_mem hs;exact(h2 k s hk).1
 ·rintro⟨h1,h2,h3⟩;exact⟨h1,fun k s hs=>⟨h2 s<|List.mem_of_getElem? hs,h3 k s hs⟩⟩
theorem Aq.sub {l m:List cG}(h:Aq l)(hs:m.Sublist l):Aq m:=by
 obtain⟨h1,h2,h3⟩:=ZJ.1 h;exact ZJ.2 ⟨Nat.le_trans hs.length_le h1,fun s hm=>h2 s<|hs.subset hm,(hs.map _).nodup h3⟩
section
variable {d d1:aK} {n:Bs} {p:Bs} {b:List Int}
theorem B8 {α:Type}{l:List α}{i:Nat}{x:α}(h:l[i]? = some x):l=l.take i++x::l.drop (i+1):=by
 have:=List.take_append_drop i l;rw[pc h]at this;exact this.symm
theorem LD {α:Type}{l:List α}{i:Nat}{x:α}(h:l[i]? = some x):(l.take i++l.drop (i+1)).Sublist l:=by
 conv=>rhs;rw[B8 h]
 exact List.Sublist.append_left (List.sublist_cons_self _ _) _
theorem abz {i:Nat}{s:cG}(h:d.aw[i]? = some s):(eQ d).Perm (s.tree::d.tree::(d.aw.take i++d.aw.drop (i+1)).map (·.tree)):=by
 unfold eQ;refine List.Perm.trans (List.Perm.cons _ ?_) (List.Perm.swap _ _ _)
 conv=>lhs;rw[B8 h]
 simp only[List.map_append,List.map_cons];exact List.perm_middle
theorem Sj (h:dq d n=some d1):aS d1=true:=by
 obtain⟨hd,i,s,hi,hs,gl,rfl⟩:=UB h;obtain⟨hN,hH⟩:=gz.1 hd;obtain⟨L',_,g2,g3,_⟩:=L9<|hH.perm<|abz hs;refine gz.2 ⟨hN.sub<|LD hs,?_⟩;show jW (jf d.store s.tree) _;rw[g2];exact g3
theorem La (hd:aS d=true){i:Nat}{s:cG}{st:List ao}(hs:d.aw[i]? = some s)(hk:eG d.store s.tree=some st) :
  ∃L',rP st d.tree=some L'∧jf st d.tree=L'∧jW L' (s.tree::d.aw.map (·.tree))∧∀a,us L' a=us d.store a+(eb s.tree a:Int)-(eb d.tree a:Int)∧(0<us L' a→dR L' a=dR d.store a):=by
 obtain⟨hN,hH⟩:=gz.1 hd;obtain⟨g1,g2⟩:=YU hH (GG hs) hk;obtain⟨L',k1,k2,k3,k4⟩:=L9 (t:=d.tree) (ts:=s.tree::d.aw.map (·.tree))<|g1.perm<|List.Perm.swap _ _ _;exact⟨L',k1,k2,k3,fun a=>⟨by have:=(g2 a).1;have:=(k4 a).1;omega,fun ha=>((k4 a).2 ha).trans (g2 a).2⟩⟩
theorem Cm (h:dC d n=some d1):aS d1=true:=by
 obtain⟨hd,i,s,st,hi,hs,gl,hk,rfl⟩:=TC h;obtain⟨L',_,k2,k3,_⟩:=La hd hs hk;refine gz.2 ⟨(gz.1 hd).1,?_⟩;show jW (jf st d.tree) _;rw[k2];exact k3
theorem LN (h:iw d p b=some d1):aS d=true∧jz b=true∧∃v,gp ⟨d.store,d.tree⟩ p b=some v∧d1=⟨v.store,v.tree,d.aw⟩:=by
 unfold iw at h;split at h
 ·rename_i hc;simp only[Bool.and_eq_true]at hc;obtain⟨v,h1,h2⟩:=Option.map_eq_some_iff.1 h;exact⟨hc.1,hc.2,v,h1,h2.symm⟩
 ·cases h
theorem jW.Ev {L:List ao}{t:List aj}{ts:List (List aj)}(h:jW L (t::ts)):lp L t :=
 ⟨h.vh,h.vt t<|by simp,h.ids t<|by simp,fun a=>by have:=h.use a;rw[pa]at this;omega⟩
theorem aft (h:iw d p b=some d1):aS d1=true:=by
 obtain⟨hd,hb,v,hv,rfl⟩:=LN h;obtain⟨hN,hH⟩:=gz.1 hd;refine gz.2 ⟨hN,?_⟩;show jW v.store (v.tree::d.aw.map (·.tree));unfold gp at hv;split at hv
 ·cases hv
 ·rename_i r eC;obtain⟨s,ids⟩:=r;split at hv
  ·cases hv
  ·rename_i t ht;obtain⟨s',_,_,g1,g2,g3⟩:=ab4 (jW.Ev (ts:=d.aw.map (·.tree)) hH) eC ht;obtain⟨_,_,xA,_⟩:=GJ hH.vh eC;have XV:gp ⟨d.store,d.tree⟩ p b=some v:=by
    simp only[gp,eC,ht];exact hv
   rw[g1]at XV;cases XV
   have hu:∀a,us s' a=(pR (t::d.aw.map (·.tree)) a:Int):=fun a=>by
    have h1:=hH.use a;have h2:us s' a=us d.store a+(eb t a:Int)-(eb d.tree a:Int):=(g3 a).1;simp only[eQ,pa]at h1;rw[pa];omega
   refine⟨g2.vh,fun u j8=>?_,fun u j8 x hx=>?_,hu⟩
   ·rcases List.mem_cons.1 j8 with rfl|j8
    ·exact g2.vt
    ·exact hH.vt u<|List.mem_cons.2<|.inr j8
   ·rcases List.mem_cons.1 j8 with rfl|j8
    ·exact g2.ids x hx
    ·refine BI hH.vh g2.vh (fun a ha=>?_)<|hH.ids u (List.mem_cons.2<|.inr j8) x hx;have h1:0<fs a x.ids:=uI.2 ha;have h2:=yq hx a;have h3:=Cv j8 a;have h4:=hu a;rw[pa]at h4;have h5:0<us s' a:=by omega
     have h6:=hH.use a;simp only[eQ,pa]at h6;exact⟨h5,((g3 a).2 h5).trans<|(xA a).2<|by omega⟩
end
end Sp
namespace Fw
open Go
section ops
variable {P:Program} {n:Nat} {ops:Array Oper} {Q:dp} {rest:List Oper} {L:br} {ds:List Deferred} {w w0:World} {G0:PH} {S:List Nat} {G:PH} {B:List aW}
variable {ty:TypeId} {ps:String} {af:Array Edge}
theorem BX {d:Nat}{t e:TypeId}{x z u:Operand}{a:Option Addr}{m c sz j:Nat}{q:Int}(hU:P.underlying t=some (.slice e))(hS:∀w,(Go.sizeOf e).run P w= .ok sz w)(hd:Nat.blt d n=true)(hx:od L x=some (.slice a m c))
  (hz:od L z=some (.int .i64 q)) (hu:od L u=some (.int .i64 q)) (hq:q=j) (h2:j≤c)
  (next:R P n ops Q rest ((d,.slice a j j)::L) ds w):R P n ops Q (⟨some d,.slice t x none (some z)<|some u,ty,ps,af,none⟩::rest) L ds w :=
 cP hd (fun b hb=>by
  subst hq;simp[execOp,hb.eval hx,hb.eval hz,hb.eval hu,Instr.sliceAt,Instr.slice,run_underlying hU,Instr.sliceBounds,Instr.sliceBound,asIntOf,hS,h2];cases a<;>simp[Addr.add]) next
theorem Hp.ado (H:Hp w0 G0 S w G B){k i:Nat}{e:TypeId}{sz m c b:Nat}{cells:List Value}(hk:nth B k=some (acc e sz (.slice (some ⟨b,0,none⟩) m c) m cells))(hi:i≤m) :
  Hp w0 G0 S w G (bq B k<|acc e sz (.slice (some ⟨b,0,none⟩) i i) i<|cells.take<|i*sz):=by
 obtain⟨h0,h⟩:=(H.own _<|eO hk).1;rcases h with ⟨h,_⟩|⟨b',cap,C,g1,g2,g3,g4,g5,g6⟩
 ·cases h
 simp only[Value.slice.injEq,Option.some.injEq,Addr.mk.injEq]at g1;obtain⟨⟨rfl,_⟩,_,rfl⟩:=g1;have hle:i*sz≤m*sz:=Nat.mul_le_mul_right _ hi;have aX:m*sz≤c*sz:=Nat.mul_le_mul_right _ g3;refine H.upd hk rfl rfl rfl (Nat.le_refl _) (fun _ _ _=>rfl) _ ⟨?_,.inr ⟨b,i,C,rfl,g2,Nat.le_refl _,by omega,by omega,?_⟩⟩ (fun c hc=>by simp[gO]at hc;left;simp[gO,hc]) (by simp[gO])
 ·rw[List.length_take,h0];omega
 ·rw[←g6,List.take_take,Nat.min_eq_left hle]
theorem BU {α:Type}{E:PH→α→List Value→Prop}(k:Nat)(H:Hp w0 G0 S w G B)(i:Nat){d:Nat}{t e:TypeId}{inf:TypeInfo}{sz bytes:Nat}{x y:Operand}{a:Option Addr}{m c:Nat}{cells:List Value}{xs:List α}
  (hk:nth B k=some (acc e sz (.slice a m c) m cells)) (hc:ay E sz G cells xs) (hE:∀z cs,E G z cs→∀u ∈ cs,u.oneCell'=true) (hU:P.underlying t=some (.slice e)) (hI:∀w,(typeInfo e).run P w= .ok inf w)
  (hz:∃z,inf.zero=some z∧(vc z).length=sz) (hs:inf.size=sz) (iZ:inf.bytes=bytes) (eF:Nat.blt 0 sz=true) (hd:Nat.blt d n=true)
  (hx:od L x=some (.slice a i i)) (hy:od L y=some (.slice (if c=i+1 then a else a.map (·.add ((i+1)*sz))) (m-(i+1))<|c-(i+1))) (hi:i<xs.length) (hm:m=xs.length) (hb:m≤2199023255552) (fU:Nat.ble bytes 64=true)
  (next:∀v' w',Hp w0 G0 S w' G (bq B k<|acc e sz v' (i+(m-(i+1)))<|cells.take (i*sz)++cells.drop ((i+1)*sz))→ay E sz G (cells.take (i*sz)++cells.drop ((i+1)*sz)) (xs.take i++xs.drop (i+1)) →
   R P n ops Q rest ((d,v')::L) ds w'):R P n ops Q (⟨some d,.call ⟨.builtin .append,#[x,y],#[t,t]⟩,ty,ps,af,none⟩::rest) L ds w:=by
 obtain⟨z,iG,ku⟩:=hz;obtain⟨b,cap,C,h1,h2,h3,h4,h5,h6⟩:=H.Cl hk (i:=i) (by omega);simp only[Value.slice.injEq]at h1;obtain⟨rfl,_,rfl⟩:=h1;have kZ:=hc.length;have e1:m*sz=i*sz+sz+(m-(i+1))*sz:=by
  have:m=i+1+(m-(i+1)):=by omega
  conv=>lhs;rw[this,Nat.add_mul,Nat.add_mul,Nat.one_mul]
 have e2:(i+1)*sz=i*sz+sz:=by rw[Nat.add_mul];omega
 have lG:(cells.drop<|(i+1)*sz).length=(m-(i+1))*sz:=by
  rw[List.length_drop,kZ,←hm];omega
 have ON:=hc.J1 hE;have hr:∃ad,(if c=i+1 then some (⟨b,0,none⟩:Addr) else(some ⟨b,0,none⟩:Option Addr).map (·.add ((i+1)*sz)))=some ad∧∀j u,(cells.drop<|(i+1)*sz)[j]? = some u→w.cell? (ad.add j)=some u:=by
  by_cases rZ:c=i+1
  ·refine⟨⟨b,0,none⟩,by simp[rZ],fun j u hu=>?_⟩;have:=(List.getElem?_eq_some_iff.1 hu).1;rw[lG,show m-(i+1)=0 by omega]at this;omega
  ·refine⟨⟨b,(i+1)*sz,none⟩,by simp[rZ,Addr.add_lit],fun j u hu=>?_⟩;rw[List.getElem?_drop]at hu;rw[Addr.add_lit];exact wM H hk hu
 obtain⟨ad,ax,j7⟩:=hr;rw[ax]at hy;have H1:=H.ado hk (i:=i) (by omega);have iR:k<B.length:=by rw[ii]at hk;exact(List.getElem?_eq_some_iff.1 hk).1
 have lC:nth (bq B k<|acc e sz (.slice (some ⟨b,0,none⟩) i i) i<|cells.take<|i*sz) k=some (acc e sz (.slice (some ⟨b,0,none⟩) i i) i<|cells.take<|i*sz):=by rw[ii,jU];simp[iR]
 obtain⟨v',w',pn,H2⟩:=aaO (P:=P) (ty:=ty) H1 hU (vW hI) iG hs iZ (by rw[uf];simpa using ku) (by simpa using eF) lC (a:=ad) (m:=m-(i+1)) (c:=c-(i+1)) lG j7 (fun u hu=>ON u<|List.mem_of_mem_drop hu)
  (by simp only[maxLen];omega) (by
   simp only[KX]
   calc (i+(m-(i+1)))*bytes≤2199023255552*64:=Nat.mul_le_mul (by omega) (by simpa using fU)
    _≤_:=by decide)
 refine cP hd (w':=w') (fun f hf=>by simp[execOp,resolve,invoke,builtin,hf.eval hx,hf.eval hy,pn])<|next v' _ ?_ ((hc.abr i).app<|hc.Uz<|i+1);simpa [jU,List.set_set] using H2
end ops
theorem fC.del {α β:Type}{R:α→β→Prop}{l:List α}{m:List β}(h:fC R l m):∀(i:Nat),fC R (l.take i++l.drop (i+1)) (m.take i++m.drop (i+1)):=by
 induction h with
 | nil=>intro i;simp;exact .nil
 | cons h t ih =>
  intro i;cases i with
  | zero=>simpa using t
  | succ i=>simpa using .cons h<|ih i
end Fw
namespace Fw
open Sp
theorem Sq {xs:List (Bs×Nd)}{L:List cG}{n:Bs}(h:e_ xs L)(hc:¬dV (xs.findIdx?<|fun x=>decide (x.1=n))<0) :
  ∃(i:Nat) (x:Bs×Nd) (s:cG),dV (xs.findIdx?<|fun x=>decide (x.1=n))=(i:Int)∧xs[i]? = some x∧L[i]? = some s∧fc L n=some i∧Nd.ci x.2 s.tree∧i<xs.length:=by
 have hf:=sK h n;cases e:xs.findIdx? (fun x=>decide (x.1=n)) with
 | none=>rw[e]at hc;simp[dV]at hc
 | some i =>
  rw[e]at hf;obtain⟨h1,h2,h3⟩:=List.findIdx?_eq_some_iff_getElem.1 e;obtain⟨s,h4,h5⟩:=h.at (i:=i) (x:=xs[i]) (by simp);exact⟨i,xs[i],s,rfl,by simp,h4,hf.symm,h5.2.1,h1⟩
end Fw
namespace Sp
open Fw
section
variable {d d1:aK} {n:Bs} {p:Bs} {b:List Int}
theorem TD (h:dC d n=some d1):aS d=true:=(TC h).1
theorem aaX (h:dq d n=some d1):aS d=true:=(UB h).1
theorem back_eq (hd:aS d=true){i:Nat}{s:cG}(hi:fc d.aw n=some i)(hs:d.aw[i]? = some s):dC d n=(eG d.store s.tree).map (fun st=>⟨jf st d.tree,s.tree,d.aw⟩):=by
 unfold dC;rw[hi];simp only[hd,if_true,hs,Option.map_some,Option.getD_some]
theorem Ac (hd:aS d=true){i:Nat}{s:cG}(hi:fc d.aw n=some i)(hs:d.aw[i]? = some s):dq d n=some ⟨jf d.store s.tree,d.tree,d.aw.take i++d.aw.drop (i+1)⟩:=by
 unfold dq;rw[hi];simp only[hd,if_true,hs,Option.map_some,Option.getD_some]
theorem TE (h:dV (fc d.aw n)<0):dC d n=none:=by
 cases e:fc d.aw n with
 | none=>unfold dC;rw[e]
 | some i=>rw[e]at h;simp only[dV]at h;omega
theorem aaY (h:dV (fc d.aw n)<0):dq d n=none:=by
 cases e:fc d.aw n with
 | none=>unfold dq;rw[e]
 | some i=>rw[e]at h;simp only[dV]at h;omega
theorem ad3 (h:aS d=false):dC d n=none:=by
 cases e:dC d n with
 | none=>rfl
 | some q=>rw[TD e]at h;cases h
theorem avt (h:aS d=false):dq d n=none:=by
 cases e:dq d n with
 | none=>rfl
 | some q=>rw[aaX e]at h;cases h
theorem Ad (hd:aS d=true){i:Nat}{s:cG}(hs:d.aw[i]? = some s):rP d.store s.tree=some (jf d.store s.tree):=by
 obtain⟨hN,hH⟩:=gz.1 hd;obtain⟨L',g1,g2,_⟩:=L9<|hH.perm<|abz hs;rw[g1,g2]
theorem TB (hd:aS d=true){i:Nat}{s:cG}{st:List ao}(hs:d.aw[i]? = some s)(hk:eG d.store s.tree=some st):rP st d.tree=some (jf st d.tree):=by
 obtain⟨L',g1,g2,_⟩:=La hd hs hk;rw[g1,g2]
theorem CD {o:Option aK}(h:∀d1,o=some d1→aS d1=true):((o.map (·.aw)).getD []).length≤6:=by
 cases o with
 | none=>simp
 | some d1=>exact(cX.1<|h d1 rfl).2.2.1
end
theorem QX:∀(l:List aj) (s:List ao),(jf s l).length≤s.length
 | [],s=>by simp[jf]
 | x::r,s=>by
  have h1:=HL s x.ids;have h2:=QX r<|(fo s x.ids).getD [];have:jf s (x::r)=jf ((fo s x.ids).getD []) r:=by simp[jf]
  rw[this];omega
theorem agb (s:List ao)(l:List aj):(yz s l).length≤s.length:=by
 cases l with
 | nil=>exact Nat.le_refl _
 | cons x r=>exact HL s x.ids
theorem arD (v:o8)(p:Bs)(b:List Int):(((gp v p b).map (·.store)).getD []).length≤16:=by
 have h:=UU v.store b;unfold gp;cases e:ek v.store b with
 | none=>simp
 | some r =>
  rw[e]at h;simp only[Option.map_some,Option.getD_some]at h;have h2:=agb r.1<|gv v.tree p;cases e2:dZ v.tree ⟨p,false,r.2⟩ with
  | none=>simp[e2]
  | some t=>simp[e2];omega
end Sp
namespace Sp
open Fw Nd
def KK (L:List ao)(ids:List Int):Option (List Int):=if fg L&&dh L ids then some (load L ids) else none
def Tn (l:List aj)(p:Bs):Option aj:=if cU l then(cD l p).bind (fun i=>l[i]?) else none
def qu (d:aK)(p:Bs):Option (List Int):=match Tn d.tree p with
 | none=>none
 | some x=>if x.dir then none else KK d.store x.ids
def fD (d:aK)(n p:Bs):Option (List Int):=match fc d.aw n with
 | none=>none
 | some i=>if aS d then n4 d.store (((d.aw[i]?).map (·.tree)).getD []) p else none
theorem auV {L L':List ao}{l:List aj}(h:∀x,x ∈ l→∀a,a ∈ x.ids→dR L' a=dR L a)(p:Bs):n4 L' l p=n4 L l p:=by
 unfold n4;cases e:gv l p with
 | nil=>rfl
 | cons o r =>
  have ho:o ∈ l:=by
   unfold gv at e;split at e
   ·split at e
    ·rename_i x hx;split at e
     ·cases e
     ·simp only[List.cons.injEq]at e;rw[←e.1];exact List.mem_of_getElem? hx
    ·cases e
   ·cases e
  simp only[load];congr 2;exact List.map_congr_left<|fun a ha=>h o ho a ha
theorem Ke {d:aK}(hv:aS d=true)(p:Bs):qu d p=n4 d.store d.tree p:=by
 obtain⟨hN,hH⟩:=gz.1 hv;have ht:=jI.2 (hH.vt d.tree<|by simp[eQ]);unfold qu Tn n4 gv;rw[if_pos ht];cases e:cD d.tree p with
 | none=>rfl
 | some i =>
  simp only[Option.bind_some];cases e2:d.tree[i]? with
  | none=>rfl
  | some x =>
   have hi:=hH.ids d.tree (by simp[eQ]) x<|List.mem_of_getElem? e2;have hs:=eX.2 hH.vh;by_cases hd:x.dir=true
   ·simp[hd]
   ·simp[hd,KK,hs,hi]
theorem av2 {L:List ao}{ts:List (List aj)}(h:jW L ts){t:List aj}(ht:t ∈ ts){x:aj}(hx:x ∈ t){a:Int}(ha:a ∈ x.ids):0<us L a:=by
 have h1:0<fs a x.ids:=uI.2 ha;have h2:=yq hx a;have h3:=Cv ht a;have h4:=h.use a;omega
theorem ad4 {d:aK}{n p:Bs}{r:List Int}(h:fD d n p=some r):∃d1,dC d n=some d1∧qu d1 p=some r:=by
 unfold fD at h;split at h
 ·cases h
 ·rename_i i e;split at h
  ·rename_i hd;obtain⟨s,h1,h2,_⟩:=Ax e;obtain⟨hN,hH⟩:=gz.1 hd;obtain⟨st,hk⟩:=arq hH (av3 hN)<|GG h1;have hb:=back_eq hd e h1;rw[hk]at hb;refine⟨_,hb,?_⟩;rw[Ke<|Cm hb];obtain⟨L',_,k2,k3,k4⟩:=La hd h1 hk;simp only[h1,Option.map_some,Option.getD_some]at h;rw[←h];show n4 (jf st d.tree) s.tree p=_;rw[k2];exact auV (fun x hx a ha=>(k4 a).2<|av2 k3 (by simp) hx ha) p
  ·cases h
theorem aa_ {d:aK}{n p:Bs}(h:dV (fc d.aw n)<0):fD d n p=none:=by
 cases e:fc d.aw n with
 | none=>unfold fD;rw[e]
 | some i=>rw[e]at h;simp only[dV]at h;omega
theorem aba {d:aK}{n p:Bs}(h:aS d=false):fD d n p=none:=by
 unfold fD;split
 ·rfl
 ·simp[h]
theorem avz {d:aK}(hd:aS d=true){n p:Bs}{i:Nat}{s:cG}{T:Nd}(hi:fc d.aw n=some i)(hs:d.aw[i]? = some s)(hT:ci T s.tree):fD d n p=qt d.store T p:=by
 obtain⟨_,hH⟩:=gz.1 hd;rw[aaK (hH.ids s.tree<|GG hs) hT];unfold fD;rw[hi];simp only[hd,if_true,hs,Option.map_some,Option.getD_some]
end Sp
namespace Fw
open Go
section
variable {P:Program} {n:Nat} {Q:dp} {L:br} {ds:List Deferred} {w:World}
def JP (n:Nat)(ds:List Deferred)(Lf:br)(J:br→World→Prop):dp:=fun e a w=>e= .normal∧∃M,et n (M++Lf) ds a∧J M w
theorem sR {x y:Code}(Lf:br)(J:br→World→Prop)(hf:Sub Lf L)(first:W P n (JP n ds Lf J) x L ds w)(second:∀M w,J M w→W P n Q y (M++Lf) ds w):W P n Q (.seq x y) L ds w :=
 ah (fun a ha=>wp_mono (first a ha) (fun e a' w' hq=>by
  obtain⟨he,M,hF,hJ⟩:=hq;subst he;exact second M w' hJ a' hF))
theorem g_ {Lf:br}{J:br→World→Prop}{M:br}(hJ:J M w)(hM:Sub M L:=by (repeat (first|exact Sub.nil|refine Sub.cons rfl ?_)))(hf:Sub Lf L:=by (repeat (first|exact Sub.nil|refine Sub.cons rfl ?_))):N n (JP n ds Lf J) .normal L ds w :=
 fun _ ha=>⟨rfl,M,ha.sub<|hM.app hf,hJ⟩
end
def wm {α:Type}(B:List α):List Nat→Option (List α)
 | []=>some []
 | k::ks=>match nth B k,wm B ks with
  | some r,some rs=>some<|r::rs
  | _,_=>none
theorem aa0 {α:Type}{B:List α}{k:Nat}{ks:List Nat}{Bs:List α}(h:wm B (k::ks)=some Bs):∃r rs,nth B k=some r∧wm B ks=some rs∧Bs=r::rs:=by
 simp only[wm]at h;split at h
 ·next r rs h1 h2=>exact⟨r,rs,h1,h2,(Option.some.inj h).symm⟩
 ·cases h
theorem Sk {α:Type}{B:List α}:∀{ks:List Nat} {Bs:List α},wm B ks=some Bs→∀r,r ∈ Bs→∃k,k ∈ ks∧nth B k=some r
 | [],Bs,h,r,hr=>by
  simp only[wm,Option.some.injEq]at h;subst h;simp at hr
 | k::ks,Bs,h,r,hr=>by
  obtain⟨q,rs,h1,h2,rfl⟩:=aa0 h;rcases List.mem_cons.1 hr with rfl|hr
  ·exact⟨k,by simp,h1⟩
  ·obtain⟨j,hj,hn⟩:=Sk h2 r hr;exact⟨j,by simp[hj],hn⟩
theorem Va:∀{B:List aW} {j k:Nat} {q r:aW} {b:Nat},(aV B).Nodup→nth B j=some q→nth B k=some r→j≠k→b ∈ q.fp→b ∈ r.fp→False
 | [],j,_,q,_,_,_,h,_,_,_,_=>by simp[nth]at h
 | x::t,0,0,_,_,_,_,_,_,h,_,_=>h rfl
 | x::t,0,k+1,q,r,b,hn,h1,h2,_,hq,hr=>by
  simp only[nth,Option.some.injEq]at h1 h2;subst h1;have:=List.nodup_append.1 (show(x.fp++aV t).Nodup from hn);exact this.2.2 b hq b (List.mem_flatMap.2 ⟨r,eO h2,hr⟩) rfl
 | x::t,j+1,0,q,r,b,hn,h1,h2,_,hq,hr=>by
  simp only[nth,Option.some.injEq]at h1 h2;subst h2;have:=List.nodup_append.1 (show(x.fp++aV t).Nodup from hn);exact this.2.2 b hr b (List.mem_flatMap.2 ⟨q,eO h1,hq⟩) rfl
 | x::t,j+1,k+1,q,r,b,hn,h1,h2,de,hq,hr=>by
  simp only[nth]at h1 h2;have:=List.nodup_append.1 (show(x.fp++aV t).Nodup from hn);exact Va this.2.1 h1 h2 (by omega) hq hr
theorem U_:∀{B:List aW} {k:Nat} {r:aW},(aV B).Nodup→nth B k=some r→r.fp.Nodup
 | [],_,_,_,h=>by simp[nth]at h
 | x::t,0,r,hn,h=>by
  simp only[nth,Option.some.injEq]at h;subst h;exact(List.nodup_append.1<|show(x.fp++aV t).Nodup from hn).1
 | x::t,k+1,r,hn,h=>by
  simp only[nth]at h;exact U_ (List.nodup_append.1<|show(x.fp++aV t).Nodup from hn).2.1 h
theorem aa1 {B:List aW}(hn:(aV B).Nodup):∀{ks:List Nat} {Bs:List aW},wm B ks=some Bs→ks.Nodup→(aV Bs).Nodup
 | [],Bs,h,_=>by
  simp only[wm,Option.some.injEq]at h;subst h;simp[aV]
 | k::ks,Bs,h,hk=>by
  obtain⟨r,rs,h1,h2,rfl⟩:=aa0 h;have j4:=List.nodup_cons.1 hk;refine List.nodup_append.2 ⟨U_ hn h1,aa1 hn h2 j4.2,fun a ha b hb e=>?_⟩;subst e;obtain⟨q,hq,hb⟩:=List.mem_flatMap.1 hb;obtain⟨j,hj,hjq⟩:=Sk h2 q hq;exact Va hn h1 hjq (fun e=>j4.1<|e▸hj) ha hb
theorem Hp.bS {w0:World}{P0:PH}{S:List Nat}{w:World}{P:PH}{B:List aW}(H:Hp w0 P0 S w P B)(ks:List Nat){Bs:List aW}(h:wm B ks=some Bs)(hk:ks.Nodup:=by decide):Hp w0 P0 S w P Bs :=
 ⟨H.os,H.tape,H.output,H.size,H.ext,H.sub,H.le,H.cO,fun r hr=>let ⟨_,_,hn⟩:=Sk h r hr;H.own r (eO hn),aa1 H.nd h hk⟩
end Fw
namespace Sp
open Fw Nd
theorem auU {L:List ao}{l:List aj}{p:Bs}{b:List Int}(h:n4 L l p=some b):∃x,x ∈ l∧x.path=p∧x.dir=false∧gv l p=[x]∧b=load L x.ids:=by
 unfold n4 at h;cases e:gv l p with
 | nil=>rw[e]at h;cases h
 | cons o r =>
  rw[e]at h;have hl:=e;unfold gv at e;split at e
  ·rename_i i hi;split at e
   ·rename_i x hx;split at e
    ·cases e
    ·rename_i hd;simp only[List.cons.injEq]at e;obtain⟨rfl,rfl⟩:=e;have hp:=List.findIdx?_eq_some_iff_getElem.1 hi;obtain⟨h1,h2,_⟩:=hp;rw[List.getElem?_eq_getElem h1]at hx;simp only[Option.some.injEq]at hx;refine⟨x,hx▸List.getElem_mem h1,?_,by simpa using hd,rfl,?_⟩
     ·rw[←hx];simpa using h2
     ·simp only[Option.some.injEq]at h;exact h.symm
   ·cases e
  ·cases e
theorem avx {d:aK}{s p:Bs}{b:List Int}(h:fD d s p=some b):aS d=true∧∃(t:List aj) (x:aj),t ∈ eQ d∧x ∈ t∧b=load d.store x.ids:=by
 unfold fD at h;split at h
 ·cases h
 ·rename_i i e;split at h
  ·rename_i hd;obtain⟨q,h1,_,_⟩:=Ax e;simp only[h1,Option.map_some,Option.getD_some]at h;obtain⟨x,hx,_,_,_,hb⟩:=auU h;exact⟨hd,q.tree,x,GG h1,hx,hb⟩
  ·cases h
theorem aq3 {L:List ao}(hS:fg L=true){ids:List Int}(hl:dh L ids=true){k:Nat}{a:Int}(hk:ids[k]? = some a):∃j:Nat,BP L a=(j:Int)∧j<L.length∧L[j]? = some (cE L a):=by
 have hV:=eX.1 hS;obtain⟨i,h1,h2,_⟩:=get_some<|(qz hV).1<|FO hV hl<|List.mem_of_getElem? hk;refine⟨i,?_,(List.getElem?_eq_some_iff.1 h2).1,h2⟩;unfold BP;rw[h1];rfl
theorem Y7 {l:List aj}{p:Bs}{x:aj}(h:x ∈ gv l p):x ∈ l:=by
 unfold gv at h;split at h
 ·split at h
  ·rename_i y hy;split at h
   ·cases h
   ·rw[List.mem_singleton.1 h];exact List.mem_of_getElem? hy
  ·cases h
 ·cases h
theorem avy {d:aK}(hd:aS d=true){i:Nat}{z:cG}(hz:d.aw[i]? = some z){p:Bs}{j:Nat}{x:aj}(hx:(gv z.tree p)[j]? = some x):dh d.store x.ids=true:=by
 obtain⟨_,hH⟩:=gz.1 hd;exact hH.ids z.tree (GG hz) x<|Y7<|List.mem_of_getElem? hx
theorem LM {d:aK}(hd:aS d=true):fg d.store=true:=eX.2 (gz.1 hd).2.vh
theorem aa9 {d:aK}(hd:aS d=true){n p:Bs}{i:Nat}{z:cG}(hi:fc d.aw n=some i)(hz:d.aw[i]? = some z):fD d n p=n4 d.store z.tree p:=by
 unfold fD;rw[hi];simp[hd,hz]
theorem avB {d:aK}(hd:aS d=true){n p:Bs}{i:Nat}{z:cG}(hi:fc d.aw n=some i)(hz:d.aw[i]? = some z)(h:(gv z.tree p).length=0):fD d n p=none:=by
 rw[aa9 hd hi hz];unfold n4;rw[List.length_eq_zero_iff.1 h]
theorem avC {d:aK}(hd:aS d=true){n p:Bs}{i:Nat}{z:cG}(hi:fc d.aw n=some i)(hz:d.aw[i]? = some z){x:aj}(h:(gv z.tree p)[0]? = some x):fD d n p=some (load d.store x.ids):=by
 rw[aa9 hd hi hz];unfold n4;cases e:gv z.tree p with
 | nil=>rw[e]at h;cases h
 | cons o r =>
  rw[e]at h;simp only[List.getElem?_cons_zero,Option.some.injEq]at h;rw[h]
theorem avA (d:aK)(n p:Bs):((fD d n p).getD []).length≤32:=by
 cases e:fD d n p with
 | none=>simp
 | some b =>
  obtain⟨hd,t,x,ht,hx,rfl⟩:=avx e;obtain⟨_,hH⟩:=gz.1 hd;have h1:=JF hH.vh x.ids;have h2:=xE<|hH.ids t ht x hx;simp only[Option.getD_some];omega
def ids (L:List ao):List Int:=L.map (·.id)
def stored (L:List ao):Nat:=(L.map<|fun h=>h.bytes.length).sum
def shown (L:List ao):Int:=(L.map<|fun h=>h.bh*(h.bytes.length:Int)).sum
def runs:List Int→Nat
 | []=>0
 | [_]=>1
 | a::b::r=>(if a=b then 0 else 1)+runs (b::r)
def packed (L:List ao):Nat:=(L.map<|fun h=>2*runs h.bytes).sum
def wo (L:List ao):Nat:=L.countP<|fun h=>decide (1<h.bh)
theorem xY:∀b:List Int,runs b≤b.length
 | []=>by simp[runs]
 | [_]=>by simp[runs]
 | a::b::r=>by
  have:=xY<|b::r;simp only[runs,List.length_cons]at *;split<;>omega
theorem aaT:∀{b:List Int},b≠[]→0<runs b
 | [],h=>absurd rfl h
 | [_],_=>by simp[runs]
 | a::b::r,_=>by
  have:=aaT (b:=b::r) (by simp);simp only[runs];omega
theorem NF {L:List ao}(hV:VH L){h:ao}(hh:h ∈ L):(1≤h.bytes.length∧h.bytes.length≤8)∧1≤h.bh∧h.bh≤999:=⟨wP (hV.ok h hh).2.1,(hV.ok h hh).2.2⟩
theorem Sv:∀{L:List ao},(∀h,h ∈ L→(1≤h.bytes.length∧h.bytes.length≤8)∧1≤h.bh∧h.bh≤999) →
  (stored L:Int)≤shown L∧packed L≤2*stored L∧(stored L=0↔L=[])∧(shown L=0↔L=[])∧(wo L=0↔(stored L:Int)=shown L)∧stored L≤8*L.length∧shown L≤7992*L.length
 | [],_=>by simp[stored,shown,packed,wo]
 | x::r,h=>by
  obtain⟨i1,i2,i3,i4,i5,i6,i7⟩:=Sv (L:=r) (fun y hy=>h y<|by simp[hy]);obtain⟨⟨g1,g2⟩,g3,g4⟩:=h x (by simp);have e1:stored (x::r)=x.bytes.length+stored r:=by simp[stored]
  have e2:shown (x::r)=x.bh*(x.bytes.length:Int)+shown r:=by simp[shown]
  have e3:packed (x::r)=2*runs x.bytes+packed r:=by simp[packed]
  have e4:wo (x::r)=wo r+(if 1<x.bh then 1 else 0):=by simp[wo,List.countP_cons]
  have hr:=xY x.bytes;have m1:(x.bytes.length:Int)≤x.bh*(x.bytes.length:Int):=by
   have:=Int.mul_le_mul_of_nonneg_right g3 (show(0:Int)≤(x.bytes.length:Int) by omega);omega
  have m2:x.bh*(x.bytes.length:Int)≤999*8:=Int.mul_le_mul g4 (by omega) (by omega) (by omega)
  have m3:1<x.bh→(x.bytes.length:Int)<x.bh*(x.bytes.length:Int):=fun hu=>by
   have:=Int.mul_le_mul_of_nonneg_right (show(2:Int)≤x.bh by omega) (show(0:Int)≤(x.bytes.length:Int) by omega);omega
  have m4:x.bh=1→x.bh*(x.bytes.length:Int)=(x.bytes.length:Int):=fun hu=>by rw[hu];omega
  rw[e1,e2,e3,e4];refine⟨by push_cast;omega,by omega,⟨fun hh=>by omega,fun hh=>by cases hh⟩,⟨fun hh=>by omega,fun hh=>by cases hh⟩,?_,by simp only[List.length_cons];omega,by simp only[List.length_cons];push_cast;omega⟩;by_cases hu:1<x.bh
  ·rw[if_pos hu];have:=m3 hu;constructor
   ·intro hh;omega
   ·intro hh;push_cast at hh;omega
  ·rw[if_neg hu,m4<|by omega];constructor
   ·intro hh;have:=i5.1 (by omega);push_cast;omega
   ·intro hh;have:=i5.2 (by push_cast at hh;omega);omega
theorem counts {L:List ao}(hV:VH L):(stored L:Int)≤shown L∧packed L≤2*stored L∧(stored L=0↔L=[])∧(shown L=0↔L=[])∧(wo L=0↔(stored L:Int)=shown L)∧stored L≤8*L.length∧shown L≤7992*L.length:=Sv (L:=L)<|fun _ hh=>NF hV hh
theorem aa7 (L:List ao):wo L≤L.length:=List.countP_le_length
end Sp
namespace Fw
structure iM where
 kind:Int
 path:Bs
 bytes:List Int
end Fw
namespace Sp
open Fw Nd
def gY (o:iM):Bool :=
 if o.kind=1∨o.kind=3 then cB o.path&&decide (o.bytes=[])
 else if o.kind=2 then cB o.path&&jz o.bytes
 else if o.kind=4 then ep o.path&&decide (o.bytes=[])
 else false
def sN (d:aK)(u:o8):aK:=⟨u.store,u.tree,d.aw⟩
def nF (d:aK)(p:Bs):Option aK:=if aS d then(o0 d.store d.tree p).map (sN d) else none
def nG (d:aK)(p:Bs):Option aK:=if aS d then(lK d.store d.tree p).map (sN d) else none
def bV (d:aK)(o:iM):Option aK :=
 if gY o then
  if o.kind=1 then nF d o.path
  else if o.kind=2 then iw d o.path o.bytes
  else if o.kind=3 then nG d o.path
  else cT d o.path
 else none
section
variable {d d1:aK} {p:Bs} {o:iM}
theorem Us (h:nF d p=some d1):aS d=true∧∃t,dZ d.tree ⟨p,true,[]⟩=some t∧d1=⟨d.store,t,d.aw⟩∧t.Perm (⟨p,true,[]⟩::d.tree)∧VT t:=by
 unfold nF at h;split at h
 ·rename_i hd;unfold o0 at h;cases e:dZ d.tree ⟨p,true,[]⟩ with
  | none=>rw[e]at h;simp at h
  | some t =>
   rw[e]at h;simp[sN]at h;obtain⟨_,vt,_,hp⟩:=J_ e;rw[filter_none<|auJ e rfl]at hp;exact⟨hd,t,rfl,h.symm,hp,vt⟩
 ·cases h
theorem ae5 (h:nF d p=some d1):aS d1=true:=by
 obtain⟨hd,t,_,rfl,hp,vt⟩:=Us h;obtain⟨hN,hH⟩:=gz.1 hd;have hc:∀a,eb t a=eb d.tree a:=fun a=>by rw[uJ hp,pS];simp[fs]
 refine gz.2 ⟨hN,hH.vh,fun u hu=>?_,fun u hu x hx=>?_,fun a=>?_⟩
 ·rcases List.mem_cons.1 hu with rfl|hu
  ·exact vt
  ·exact hH.vt u<|List.mem_cons.2<|.inr hu
 ·rcases List.mem_cons.1 hu with rfl|hu
  ·rcases List.mem_cons.1 (hp.mem_iff.1 hx) with rfl|hx
   ·exact zM (fun j hj=>by simp at hj) (by simp)
   ·exact hH.ids d.tree (by simp[eQ]) x hx
  ·exact hH.ids u (List.mem_cons.2<|.inr hu) x hx
 ·have:=hH.use a;simp only[eQ,pa]at this ⊢;rw[this,hc]
theorem Ut (h:nG d p=some d1):aS d=true∧∃(x:aj) (s:List ao) (t:List aj),im d.tree p=some t∧x ∈ d.tree∧x.path=p∧d1=⟨s,t,d.aw⟩∧VH s∧VT t∧d.tree.Perm (x::t) ∧
  ∀a,us s a=us d.store a-(fs a x.ids:Int)∧(0<us s a→dR s a=dR d.store a):=by
 unfold nG at h;split at h
 ·rename_i hd;cases e:im d.tree p with
  | none=>simp[lK,e]at h
  | some t =>
   obtain⟨x,s,hx,vR,_,g2,g3,g4,g5⟩:=UG (jW.Ev (ts:=d.aw.map (·.tree)) (gz.1 hd).2) e;rw[g2]at h;simp[sN]at h;obtain⟨_,_,y,_,hyp,Yc,_⟩:=LK e;rw[vR]at Yc;cases Yc;exact⟨hd,x,s,t,rfl,hx,hyp,h.symm,g3.vh,g3.vt,g4,g5⟩
 ·cases h
theorem ae7 (h:nG d p=some d1):aS d1=true:=by
 obtain⟨hd,x,s,t,_,hx,_,rfl,vs,vt,hp,hu⟩:=Ut h;obtain⟨hN,hH⟩:=gz.1 hd;have hc:∀a,eb d.tree a=fs a x.ids+eb t a:=fun a=>by rw[uJ hp,pS]
 have XU:∀a,us s a=(pR (t::d.aw.map (·.tree)) a:Int):=fun a=>by
  have h1:=hH.use a;have h2:=(hu a).1;have h3:=hc a;simp only[eQ,pa]at h1 ⊢;omega
 refine gz.2 ⟨hN,vs,fun u j8=>?_,fun u j8 y hy=>?_,XU⟩
 ·rcases List.mem_cons.1 j8 with rfl|j8
  ·exact vt
  ·exact hH.vt u<|List.mem_cons.2<|.inr j8
 ·have BB:∃u',u' ∈ eQ d∧y ∈ u':=by
   rcases List.mem_cons.1 j8 with rfl|j8
   ·exact⟨d.tree,by simp[eQ],hp.mem_iff.2<|by simp[hy]⟩
   ·exact⟨u,List.mem_cons.2<|.inr j8,hy⟩
  obtain⟨u',m1,m2⟩:=BB;refine BI hH.vh vs (fun a ha=>?_)<|hH.ids u' m1 y m2;have h1:0<fs a y.ids:=uI.2 ha;have h2:=yq hy a;have h3:=Cv j8 a;have h4:=XU a;have h5:0<us s a:=by simp only[eQ]at h3;omega
  exact⟨h5,(hu a).2 h5⟩
theorem aah (h:bV d o=some d1):gY o=true∧((o.kind=1∧nF d o.path=some d1)∨(o.kind=2∧iw d o.path o.bytes=some d1)∨(o.kind=3∧nG d o.path=some d1)∨(o.kind=4∧cT d o.path=some d1)):=by
 unfold bV at h;split at h
 ·rename_i hk;refine⟨hk,?_⟩;split at h
  ·rename_i e;exact .inl ⟨e,h⟩
  ·split at h
   ·rename_i e;exact .inr<|.inl ⟨e,h⟩
   ·split at h
    ·rename_i e;exact .inr<|.inr<|.inl ⟨e,h⟩
    ·rename_i e1 e2 e3;refine .inr<|.inr<|.inr ⟨?_,h⟩;unfold gY at hk;rw[if_neg<|by omega,if_neg e2]at hk;split at hk
     ·assumption
     ·cases hk
 ·cases h
theorem J5 (h:bV d o=some d1):aS d1=true:=by
 rcases (aah h).2 with ⟨_,h⟩|⟨_,h⟩|⟨_,h⟩|⟨_,h⟩
 ·exact ae5 h
 ·exact aft h
 ·exact ae7 h
 ·exact SF h
theorem aai (h:bV d o=some d1):aS d=true:=by
 rcases (aah h).2 with ⟨_,h⟩|⟨_,h⟩|⟨_,h⟩|⟨_,h⟩
 ·exact(Us h).1
 ·exact(LN h).1
 ·exact(Ut h).1
 ·exact(abt h).1
end
def sy:aK→List iM→aK×Nat
 | d,[]=>(d,0)
 | d,o::r=>match bV d o with
  | none=>(d,0)
  | some d1=>((sy d1 r).1,(sy d1 r).2+1)
def arH (x y:aj):Bool:=decide (x.path=y.path)&&decide (x.dir=y.dir)&&iH x.ids y.ids
theorem adT {l m:List aj}(hl:l.Pairwise fS)(hm:m.Pairwise fS)(h:∀y,y ∈ l↔y ∈ m):l=m:=by
 have ne:∀{a b:aj},fS a b→a≠b:=fun h e=>by subst e;exact absurd h (by simp[fS,lt_irrefl])
 have hp:l.Perm m:=(List.perm_ext_iff_of_nodup (hl.imp ne)<|hm.imp ne).2 h;exact hp.eq_of_pairwise (fun a b _ _ h1 h2=>absurd (lt_trans h1 h2)<|by simp[lt_irrefl]) hl hm
theorem Tu {l:List aj}(h:l.Pairwise fS){x y:aj}(hx:x ∈ l)(hy:y ∈ l)(e:x.path=y.path):x=y:=by
 obtain⟨i,h1,h2⟩:=(kx h (p:=y.path)).2.1 x hx e;obtain⟨j,h3,h4⟩:=(kx h (p:=y.path)).2.1 y hy rfl;rw[h1]at h3;cases h3;rw[h2]at h4;exact Option.some.inj h4
end Sp
namespace Fw
structure KD where
 kind:Int
 item:aj
structure ga where
 kind:Int
 path:Bs
 dir:Bool
 bytes:List Int
end Fw
namespace Sp
open Fw Nd
def rE:List aj→List aj→List KD
 | [],b=>b.map<|fun y=>⟨1,y⟩
 | x::a,[]=>⟨2,x⟩::rE a []
 | x::a,y::b =>
  if lt x.path y.path then⟨2,x⟩::rE a (y::b)
  else if lt y.path x.path then⟨1,y⟩::rE (x::a) b
  else(if x.dir≠y.dir then[⟨2,x⟩,⟨1,y⟩] else if arH x y then[] else[⟨3,y⟩])++rE a b
  termination_by a b=>a.length+b.length
def l_ (d:aK)(x:ga):Option aK :=
 if (d.tree.any<|fun y=>decide (y.path=x.path)&&decide (y.dir=x.dir))&&decide (x.bytes=[]) then(lK d.store d.tree x.path).map (sN d) else none
def fileAt (t:List aj)(p:Bs):Bool:=t.any<|fun y=>decide (y.path=p)&& !y.dir
def jy (d:aK)(x:ga):Option aK :=
 if (decide (x.kind=1)&&(cD d.tree x.path).isNone)||(decide (x.kind=3)&& !x.dir&&fileAt d.tree x.path) then
  if x.dir then(if x.bytes=[] then(o0 d.store d.tree x.path).map (sN d) else none) else iw d x.path x.bytes
 else none
section
variable {d d1:aK} {x:ga}
end
theorem af8 {α β:Type}(f:α→β→Option α)(l m:List β)(o:Option α):ct f (l++m) o=ct f m (ct f l o):=List.foldl_append
theorem af9 {α β:Type}{f:α→β→Option α}{A B:List β}{x:β}{d r:α}(h:ct f (A++x::B) (some d)=some r):∃m m1,ct f A (some d)=some m∧f m x=some m1∧ct f B (some m1)=some r:=by
 rw[af8]at h;cases e:ct f A (some d) with
 | none=>rw[e,rN]at h;cases h
 | some m =>
  rw[e]at h;cases e2:f m x with
  | none =>
   have:ct f (x::B) (some m)=ct f B none:=by rw[←e2];rfl
   rw[this,rN]at h;cases h
  | some m1 =>
   rw[rM e2]at h;exact⟨m,m1,rfl,e2,h⟩
theorem AL {d:aK}(h:aS d=true):VT d.tree:=(gz.1 h).2.vt d.tree (by simp[eQ])
section
variable {d d1:aK} {x:ga}
end
theorem Zt {L:List ao}(hV:VH L){ids:List Int}(hl:dh L ids=true):jz (load L ids)=true:=by
 have h1:=JF hV ids;have h2:=xE hl;have h3:(load L ids).all mS=true:=by
  rw[List.all_eq_true];intro b hb;obtain⟨c,hc,hb⟩:=List.mem_flatten.1 (show b ∈ (ids.map<|fun id=>(cE L id).bytes).flatten from hb);obtain⟨a,ha,rfl⟩:=List.mem_map.1 hc;have hg:=(rQ hV<|(qz hV).1<|FO hV hl ha).2.1;simp only[fV,Bool.and_eq_true,List.all_eq_true]at hg;exact hg.1 b hb
 simp only[jz,h3,Bool.true_and,decide_eq_true_eq];omega
def seen (L:List ao)(x:aj):Bs×Bool×List Int:=(x.path,x.dir,load L x.ids)
def dO (p dir:Bs):Bool:=decide (dir=[])||decide (p=dir)||(dir++[47]).isPrefixOf p
def nK (p dir:Bs):Bool:=cB p&&(decide (dir=[])||cB dir)&&dO p dir
def gb (p f t:Bs):Option Bs:=if cB p&&cB f&&cB t&&dO p f then(if cB (t++p.drop f.length) then some (t++p.drop f.length) else none) else none
def mH (f t:Bs)(x:aj):aj:=⟨(gb x.path f t).getD [],x.dir,x.ids⟩
def fR (l:List aj)(f t:Bs):Option (List aj):=if (l.filter<|fun x=>dO x.path f).all (fun x=>(gb x.path f t).isSome) then some ((l.filter<|fun x=>dO x.path f).map<|mH f t) else none
def mM (l:List aj)(x:aj):Option (List aj):=if (cD l x.path).isSome then none else some<|iT l x
def py (l c:List aj):Option (List aj):=(ct mM c<|some l).bind (fun r=>if cU r then some r else none)
def jg (l:List aj)(f t:Bs):Bool:=cU l&&cB f&&cB t&&(cD l f).isSome&& !dO t f&&(cD l t).isNone
def fq (l:List aj)(f t:Bs):Option (List aj):=if jg l f t then(fR l f t).bind (py l) else none
def dj (d:aK)(f t:Bs):Option aK :=
 if aS d then(fq d.tree f t).bind (fun r=>(eG d.store<|(fR d.tree f t).getD []).map<|fun s=>⟨s,r,d.aw⟩) else none
theorem aau {l r:List aj}{x:aj}(hl:l.Pairwise fS)(h:mM l x=some r):r.Pairwise fS∧r.Perm (x::l)∧∀y,y ∈ l→y.path≠x.path:=by
 unfold mM at h;split at h
 ·cases h
 ·rename_i hn;simp only[Option.some.injEq]at h;subst h;have qc:cD l x.path=none:=by simpa using hn
  have aP:=(kx hl (p:=x.path)).2.2 qc;have hs:=Ka hl x;refine⟨hs,?_,aP⟩;have n2:(x::l).Nodup:=List.nodup_cons.2 ⟨fun hm=>aP x hm rfl,Ga hl⟩;rw[List.perm_ext_iff_of_nodup (Ga hs) n2];intro y;rw[sI,List.mem_cons];exact⟨fun h=>h.imp id (·.1),fun h=>h.imp id<|fun hy=>⟨hy,aP y hy⟩⟩
theorem R9:∀(c:List aj) {l r:List aj},l.Pairwise fS→ct mM c (some l)=some r→r.Pairwise fS∧r.Perm (c++l)
 | [],l,r,hl,h=>by cases h;exact⟨hl,.refl _⟩
 | x::c,l,r,hl,h=>by
  obtain⟨m,m1,e,h1,h2⟩:=af9 (A:=[]) h;cases e;obtain⟨g1,g2,_⟩:=aau hl h1;obtain⟨k1,k2⟩:=R9 c g1 h2;refine⟨k1,k2.trans ?_⟩;exact(List.Perm.append_left c g2).trans List.perm_middle
theorem Cu {l r:List aj}{f t:Bs}(h:fq l f t=some r):jg l f t=true∧∃c,fR l f t=some c∧VT r∧r.Perm (c++l)∧c=(l.filter<|fun x=>dO x.path f).map (mH f t)∧∀x,x ∈ l→dO x.path f=true→(gb x.path f t).isSome=true:=by
 unfold fq at h;split at h
 ·rename_i dT;cases e:fR l f t with
  | none=>rw[e]at h;cases h
  | some c =>
   rw[e]at h;simp only[Option.bind_some,py]at h;cases e2:ct mM c (some l) with
   | none=>rw[e2]at h;cases h
   | some r' =>
    rw[e2]at h;simp only[Option.bind_some]at h;split at h
    ·rename_i hv;cases h;have hlv:VT l:=by
      simp only[jg,Bool.and_eq_true]at dT;exact jI.1 dT.1.1.1.1.1
     unfold fR at e;split at e
     ·rename_i ha;simp only[Option.some.injEq]at e;refine⟨dT,c,rfl,jI.1 hv,(R9 c hlv.d_ e2).2,e.symm,fun x hx hw=>?_⟩;rw[List.all_eq_true]at ha;exact ha x<|List.mem_filter.2 ⟨hx,hw⟩
     ·cases e
    ·cases h
 ·cases h
section
variable {d d1:aK} {f t:Bs}
theorem aeL (l m:List aj)(a:Int):eb (l++m) a=eb l a+eb m a:=by simp[eb]
theorem Ll (h:dj d f t=some d1):aS d=true∧∃c s,fq d.tree f t=some d1.tree∧fR d.tree f t=some c∧eG d.store c=some s∧d1=⟨s,d1.tree,d.aw⟩:=by
 unfold dj at h;split at h
 ·rename_i hd;cases e:fq d.tree f t with
  | none=>rw[e]at h;cases h
  | some r =>
   obtain⟨_,c,hc,_⟩:=Cu e;rw[e,hc]at h;simp only[Option.bind_some,Option.getD_some]at h;cases e2:eG d.store c with
   | none=>rw[e2]at h;cases h
   | some s =>
    rw[e2]at h;simp only[Option.map_some,Option.some.injEq]at h;subst h;exact⟨hd,c,s,rfl,hc,e2,rfl⟩
 ·cases h
theorem Ug {l:List aj}{c:List aj}(hc:c=(l.filter<|fun x=>dO x.path f).map (mH f t)){y:aj}(hy:y ∈ c):∃x,x ∈ l∧dO x.path f=true∧y=mH f t x:=by
 rw[hc]at hy;obtain⟨x,hx,rfl⟩:=List.mem_map.1 hy;exact⟨x,(List.mem_filter.1 hx).1,(List.mem_filter.1 hx).2,rfl⟩
theorem aeq (h:dj d f t=some d1):jW d1.store (eQ d1)∧∀a,dR d1.store a=dR d.store a:=by
 obtain⟨hd,c,s,ht,hc,hk,he⟩:=Ll h;obtain⟨hN,hH⟩:=gz.1 hd;obtain⟨_,c',Dq,vr,hp,No,_⟩:=Cu ht;rw[hc]at Dq;cases Dq;obtain⟨k1,k2⟩:=FR c hH.vh hk;have hs:d1.store=s:=by rw[he]
 have gl:d1.aw=d.aw:=by rw[he]
 have dy:∀{ids},dh d.store ids=true→dh s ids=true:=fun hl=>FP hH.vh k1 (fun a ha=>⟨by have:=(k2 a).1;omega,(k2 a).2⟩) hl;have Ip:d.tree ∈ eQ d:=by simp[eQ]
 refine⟨⟨hs▸k1,fun u hu=>?_,fun u hu x hx=>?_,fun a=>?_⟩,fun a=>by rw[hs];exact(k2 a).2⟩
 ·rcases List.mem_cons.1 hu with rfl|hu
  ·exact vr
  ·exact hH.vt u<|List.mem_cons.2<|.inr<|gl▸hu
 ·rw[hs];rcases List.mem_cons.1 hu with rfl|hu
  ·rcases List.mem_append.1 (hp.mem_iff.1 hx) with hx|hx
   ·obtain⟨z,hz,_,rfl⟩:=Ug No hx;exact dy<|hH.ids d.tree Ip z hz
   ·exact dy<|hH.ids d.tree Ip x hx
  ·exact dy<|hH.ids u (List.mem_cons.2<|.inr<|gl▸hu) x hx
 ·have h1:=hH.use a;have h2:=(k2 a).1;have h3:eb d1.tree a=eb c a+eb d.tree a:=by rw[uJ hp,aeL]
  simp only[eQ,pa,gl]at h1 ⊢;rw[hs];omega
theorem Ln (h:dj d f t=some d1):aS d1=true:=by
 obtain⟨hd,c,s,_,_,_,he⟩:=Ll h;refine gz.2 ⟨?_,(aeq h).1⟩;rw[he];exact(gz.1 hd).1
end
end Sp
namespace Fw
structure GW where
 dir:Bs
 sE:Int
end Fw
namespace Sp
open Fw Nd
section
variable {d x:aK} {l:List GW} {p:Bs} {n:Int} {b:List Int}
end
def wl (b:List Int)(out:List Int)(k:Nat):List Int :=
 if 0<k∧b[k]? = b[k-1]? then out.set (out.length-2) ((out[out.length-2]?).getD 0+1) else out++[1,(b[k]?).getD 0]
def Jy (b:List Int):List Int:=(List.range b.length).foldl (wl b) []
def rm (b:List Int)(k:Nat):List Int:=(List.range k).foldl (wl b) []
theorem Gt (b:List Int)(k:Nat):rm b (k+1)=wl b (rm b k) k:=by
 unfold rm;rw[List.range_succ,List.foldl_append];rfl
theorem Sf:∀(l:List Int) (x y:Int),runs (l++[x,y])=runs (l++[x])+(if x=y then 0 else 1)
 | [],x,y=>by
  simp only[List.nil_append,runs];split<;>omega
 | [a],x,y=>by
  have:=Sf [] x y;simp only[List.nil_append,List.cons_append,runs]at this ⊢;split<;>split<;>omega
 | a::c::r,x,y=>by
  have:=Sf (c::r) x y;simp only[List.cons_append,runs]at this ⊢;split<;>omega
theorem avY {l:List Int}{k:Nat}(h0:0<k)(hk:k<l.length):l.take (k+1)=l.take (k-1)++[l[k-1],l[k]]∧l.take k=l.take (k-1)++[l[k-1]]:=by
 obtain⟨j,rfl⟩:∃j,k=j+1:=⟨k-1,by omega⟩;simp only[Nat.add_sub_cancel];have h1:l.take (j+1)=l.take j++[l[j]]:=by rw[List.take_succ,List.getElem?_eq_getElem<|by omega];rfl
 refine⟨?_,h1⟩;rw[List.take_succ,List.getElem?_eq_getElem hk,h1,List.append_assoc];rfl
theorem J7 (b:List Int):∀k,k≤b.length→(rm b k).length=2*runs (b.take k)
 | 0,_=>by simp[rm,runs]
 | k+1,hk=>by
  have ih:=J7 b k (by omega);rw[Gt];unfold wl;by_cases h0:0<k
  ·obtain⟨e1,e2⟩:=avY h0 (show k<b.length by omega);rw[e2]at ih;rw[e1,Sf];rw[List.getElem?_eq_getElem<|show k<b.length by omega,List.getElem?_eq_getElem<|show k-1<b.length by omega];by_cases h:b[k]=b[k-1]
   ·rw[if_pos ⟨h0,by rw[h]⟩,if_pos h.symm,List.length_set,ih,Nat.add_zero]
   ·rw[if_neg<|fun hh=>h<|Option.some.inj hh.2,if_neg<|fun hh=>h hh.symm,List.length_append,ih];simp;omega
  ·obtain rfl:k=0:=by omega
   rw[if_neg<|by simp];have:b.take 1=[b[0]]:=by rw[List.take_succ,List.getElem?_eq_getElem<|by omega];rfl
   simp[rm,this,runs]
theorem Gu (b:List Int):(Jy b).length=2*runs b:=by
 have:=J7 b b.length (Nat.le_refl _)
 rwa [List.take_length]at this
theorem aaj (b:List Int)(hb:∀x,x ∈ b→0≤x∧x≤255):∀k,k≤b.length→∀x,x ∈ rm b k→0≤x∧x≤255+k
 | 0,_=>by simp[rm]
 | k+1,hk=>by
  have ih:=aaj b hb k (by omega);rw[Gt];unfold wl;intro x hx;split at hx
  ·rcases List.mem_or_eq_of_mem_set hx with h|h
   ·have:=ih x h;omega
   ·subst h;cases e:(rm b k)[(rm b k).length-2]? with
    | none=>simp only[Option.getD_none];omega
    | some y =>
     have:=ih y<|List.mem_of_getElem? e;simp only[Option.getD_some];omega
  ·rcases List.mem_append.1 hx with h|h
   ·have:=ih x h;omega
   ·have h2:=hb (b[k]) (List.getElem_mem<|by omega);rw[List.getElem?_eq_getElem<|show k<b.length by omega]at h;simp at h;omega
def pG (done:List (Int×Int))(m x:Int):List Int→List (Int×Int)
 | []=>done++[(m,x)]
 | b::r=>if b=x then pG done (m+1) x r else pG (done++[(m,x)]) 1 b r
def xX:List Int→List (Int×Int)
 | []=>[]
 | b::r=>pG [] 1 b r
theorem Sc:∀(r:List Int) (done:List (Int×Int)) (m x:Int),(pG done m x r).length=done.length+runs (x::r)
 | [],done,m,x=>by simp[pG,runs]
 | b::r,done,m,x=>by
  unfold pG;by_cases h:b=x
  ·rw[if_pos h,Sc r done (m+1) x,h];simp[runs]
  ·rw[if_neg h,Sc r (done++[(m,x)]) 1 b,List.length_append];have:¬x=b:=fun e=>h e.symm;simp[runs,this];omega
theorem aaL (b:List Int):(xX b).length=runs b:=by
 cases b with
 | nil=>rfl
 | cons x r=>unfold xX;rw[Sc];simp
def iz (d:aK):Int:=if aS d then(stored d.store:Int) else 0
def iX (d:aK):Int:=if aS d then shown d.store else 0
def uG (d:aK):Int:=if aS d then(packed d.store:Int) else 0
def AB (d:aK):Int:=if aS d then(wo d.store:Int) else -1
section
variable {L:List ao} {k:Nat} {h:ao} (e:L[k]? = some h)
include e
theorem abl:stored (L.take<|k+1)=stored (L.take k)+h.bytes.length:=by simp[stored,gZ e]
theorem aa8:shown (L.take<|k+1)=shown (L.take k)+h.bh*(h.bytes.length:Int):=by simp[shown,gZ e]
theorem aal:packed (L.take<|k+1)=packed (L.take k)+2*runs h.bytes:=by simp[packed,gZ e]
end
theorem DY {L:List ao}(hV:VH L){k:Nat}{h:ao}(e:L[k]? = some h):fV h.bytes=true∧1≤h.bytes.length∧h.bytes.length≤8∧1≤h.bh∧h.bh≤999∧0≤h.bh*(h.bytes.length:Int)∧h.bh*(h.bytes.length:Int)≤7992:=by
 have hm:=List.mem_of_getElem? e;obtain⟨⟨h1,h2⟩,h3,h4⟩:=NF hV hm;have h5:0≤h.bh*(h.bytes.length:Int):=Int.mul_nonneg (by omega) (by omega);have h6:h.bh*(h.bytes.length:Int)≤999*8:=Int.mul_le_mul (by omega) (by omega) (by omega) (by omega);exact⟨(hV.ok h hm).2.1,h1,h2,h3,h4,h5,by omega⟩
theorem au5 {b:List Int}(h:fV b=true):∃x r,b=x::r∧xX b=pG [] 1 x r:=by
 have:=wP h;match b,this with
 | x::r,_=>exact⟨x,r,rfl,rfl⟩
theorem au1 {done:List (Int×Int)}{m x:Int}{r:List Int}{k:Nat}{b:Int}(h:r[k]? = some b)(e:b=x):pG done m x (r.drop k)=pG done (m+1) x (r.drop<|k+1):=by
 obtain⟨hk,rfl⟩:=List.getElem?_eq_some_iff.1 h;rw[List.drop_eq_getElem_cons hk]
 conv=>lhs;unfold pG
 rw[if_pos e]
theorem au0 {done:List (Int×Int)}{m x:Int}{r:List Int}{k:Nat}{b:Int}(h:r[k]? = some b)(e:¬b=x):pG done m x (r.drop k)=pG (done++[(m,x)]) 1 b (r.drop<|k+1):=by
 obtain⟨hk,rfl⟩:=List.getElem?_eq_some_iff.1 h;rw[List.drop_eq_getElem_cons hk]
 conv=>lhs;unfold pG
 rw[if_neg e]
theorem aeb {b:List Int}(h:fV b=true):∀x,x ∈ b→0≤x∧x≤255:=by
 simp only[fV,Bool.and_eq_true,List.all_eq_true]at h;intro x hx;have:=h.1 x hx;simp[mS,ff]at this;exact this
theorem aut {b out:List Int}{k:Nat}{x y:Int}(hk:0<k)(h1:b[k]? = some x)(h2:b[k-1]? = some y)(e:x=y){z:Int}(hz:out[out.length-2]? = some z):wl b out k=out.set (out.length-2) (z+1):=by
 subst e;simp[wl,hk,h1,h2,hz]
theorem aak {b out:List Int}{k:Nat}{x:Int}(h1:b[k]? = some x)(hn:∀y,0<k→b[k-1]? = some y→¬x=y):wl b out k=out++[1,x]:=by
 unfold wl;rw[if_neg,h1]
 ·rfl
 ·rintro⟨hk,e⟩;rw[h1]at e;exact hn x hk e.symm rfl
theorem aus {b:List Int}{k:Nat}(h0:0<k)(hk:k≤b.length):2≤(rm b k).length:=by
 rw[J7 b k hk];have:=aaT (b:=b.take k) (by intro e;have h9:(b.take k).length=0:=(by rw[e];rfl);rw[List.length_take]at h9;omega);omega
theorem Lt {L:List ao}(hV:VH L)(k:Nat):stored (L.take k)≤128∧0≤shown (L.take k)∧shown (L.take k)≤127872∧packed (L.take k)≤256∧wo (L.take k)≤16:=by
 have Vj:=hV.len;obtain⟨h1,h2,_,_,_,h6,h7⟩:=Sv (L:=L.take k)<|fun h hh=>NF hV<|List.mem_of_mem_take hh;have h8:=aa7<|L.take k;have hl:(L.take k).length≤16:=by rw[List.length_take];omega
 omega
theorem Lu {d:aK}{k:Nat}{a b c:Int}(h1:a=(stored (d.store.take k):Int))(h2:b=shown (d.store.take k))(h3:c=(packed (d.store.take k):Int))(ho:k=0∨aS d=true)(hx:aS d=true→d.store.length≤k) :
  Go.Value.tuple #[.int .i64 a,.int .i64 b,.int .i64 c]=Go.Value.tuple #[.int .i64<|iz d,.int .i64<|iX d,.int .i64<|uG d]:=by
 cases e:aS d with
 | true =>
  rw[List.take_of_length_le<|hx e]at h1 h2 h3;simp[iz,iX,uG,e,h1,h2,h3]
 | false =>
  obtain rfl:k=0:=by
   rcases ho with h|h
   ·exact h
   ·rw[e]at h;cases h
  simp[iz,iX,uG,e,h1,h2,h3,stored,shown,packed]
theorem R6 (p s:Bs):p.isPrefixOf s=(decide (p.length≤s.length)&&decide (s.take p.length=p)):=by
 rw[Bool.eq_iff_iff];simp only[List.isPrefixOf_iff_prefix,Bool.and_eq_true,decide_eq_true_eq];constructor
 ·rintro⟨r,rfl⟩;simp
 ·rintro⟨_,h⟩;exact⟨s.drop p.length,(congrArg (·++s.drop p.length) h.symm).trans<|List.take_append_drop _ _⟩
theorem FZ {L:List ao}(hV:VH L):∀ids:List Int,(load L ids).length≤8*ids.length
 | []=>by simp[load]
 | a::r=>by
  have h1:=FZ hV r;have h2:=C8 hV a;simp only[load,List.map_cons,List.flatten_cons,List.length_append,List.length_cons]at h1 ⊢;omega
theorem sZ (d:aK):0≤iz d∧iz d≤128∧iz d≤iX d∧iX d≤127872∧uG d≤2*iz d∧(iz d=0↔iX d=0)∧(aS d=true→AB d=0→iz d=iX d)∧(aS d=true→iz d=iX d→AB d=0)∧AB d≤(d.store.length:Int)∧ -1≤AB d:=by
 cases e:aS d with
 | false=>simp[iz,iX,uG,AB,e]<;>omega
 | true =>
  have hV:=eX.1 (cX.1 e).1;obtain⟨h1,h2,h3,h4,h5,h6⟩:=counts hV;obtain⟨b1,b2,b3,b4,b5⟩:=Lt hV d.store.length;rw[List.take_length]at b1 b2 b3 b4 b5;have h7:=aa7 d.store;simp only[iz,iX,uG,AB,e,if_true];refine⟨by omega,by omega,h1,b3,by omega,?_,?_,?_,by omega,by omega⟩
  ·rw[h4,←h3];omega
  ·intro _ h;exact h5.1 (by omega)
  ·intro _ h;have:=h5.2 h;omega
end Sp
namespace Fw
open Go
inductive o_ (T:TypeId) (G:PH):Value→List (Int×Int)→Value→Prop
 | nil (v:Value):o_ T G v [] v
 | cons {b:Nat} {m x:Int} {v e:Value} {r:List (Int×Int)} (h:G b=some (cl [.int .i64 m,.int .i64 x,v] T)) (hm:dH m) (hx:dH x) (hr:o_ T G v r e):o_ T G (.pointer<|some ⟨b,0,none⟩) ((m,x)::r) e
theorem o_.up {T:TypeId}{G G':PH}{v e:Value}{r:List (Int×Int)}(h:o_ T G v r e)(hle:an G G'):o_ T G' v r e:=by
 induction h with
 | nil v=>exact .nil v
 | cons h hm hx _ ih=>exact .cons (hle _ _ h) hm hx ih
theorem o_.snoc {T:TypeId}{G:PH}{v:Value}{r:List (Int×Int)}{b:Nat}{m x:Int}{e:Value}(h:o_ T G v r (.pointer<|some ⟨b,0,none⟩))(hb:G b=some (cl [.int .i64 m,.int .i64 x,e] T))(hm:dH m)(hx:dH x):o_ T G v (r++[(m,x)]) e:=by
 generalize hp:Value.pointer (some ⟨b,0,none⟩)=p at h;induction h with
 | nil v=>subst hp;exact .cons hb hm hx<|.nil e
 | cons h r_ Fx _ ih=>exact .cons h r_ Fx<|ih hp
def lq (T:TypeId)(G:PH)(v:Value)(r:List (Int×Int)):Prop:=o_ T G v r<|.pointer none
theorem lq.up {T:TypeId}{G G':PH}{v:Value}{r:List (Int×Int)}(h:lq T G v r)(hle:an G G'):lq T G' v r:=o_.up h hle
theorem lq.nil {T:TypeId}{G:PH}:lq T G (.pointer none) []:=o_.nil _
theorem lq.open {T:TypeId}{G:PH}{v:Value}{r:List (Int×Int)}(h:lq T G v r):(v= .pointer none∧r=[])∨∃b m x v' r',v= .pointer (some ⟨b,0,none⟩)∧r=(m,x)::r'∧G b=some (cl [.int .i64 m,.int .i64 x,v'] T)∧dH m∧dH x∧lq T G v' r':=by
 unfold lq at h;cases h with
 | nil=>exact .inl ⟨rfl,rfl⟩
 | cons h hm hx hr=>exact .inr ⟨_,_,_,_,_,rfl,rfl,h,hm,hx,hr⟩
theorem lq.row {T:TypeId}{G:PH}{b:Nat}{m x:Int}{v:Value}(h:G b=some (cl [.int .i64 m,.int .i64 x,v] T)):fw G b 0 [.int .i64 m,.int .i64 x,v]:=by
 intro j u hu;exact⟨_,_,_,h,by simpa using hu⟩
section
variable {P:Program} {n:Nat} {ops:Array Oper} {Q:dp} {rest:List Oper} {L:br} {ds:List Deferred} {w w0:World} {G0:PH} {S:List Nat} {G:PH} {B:List aW} {ty:TypeId} {ps:String} {af:Array Edge}
theorem JW {d:Nat}{t:TypeId}{x:Operand}{v:Value}(hc:P.concrete t=true)(hd:Nat.blt d n=true)(hx:od L x=some v)(next:R P n ops Q rest ((d,.iface t v)::L) ds w):R P n ops Q (⟨some d,.makeInterface t x,ty,ps,af,none⟩::rest) L ds w :=
 cP hd (fun a ha=>by simp[execOp,ha.eval hx,run_makeInterface w t v hc]) next
theorem Hp.YQ (H:Hp w0 G0 [] w G B){k b:Nat}{o:Obj}(hk:nth B k=some (ai b o)):∃G',Hp w0 G0 [] w G' (ez B k)∧an G G'∧G' b=some o:=by
 obtain⟨H',hp⟩:=H.BL hk (fun _ _ h=>by simp at h);exact⟨_,H',cW.le _ _ _,hp⟩
theorem lq.shape {T:TypeId}{G:PH}{v:Value}{r:List (Int×Int)}(h:lq T G v r):∃p,v= .pointer p:=by
 rcases h.open with ⟨rfl,_⟩|⟨b,m,x,v',r',rfl,_⟩<;>exact⟨_,rfl⟩
theorem lq.more {T:TypeId}{G:PH}{p:Option Addr}{r:List (Int×Int)}(h:lq T G (.pointer p) r)(hp:p.isNone=false):∃b m x p' r',p=some ⟨b,0,none⟩∧r=(m,x)::r'∧fw G b 0 [.int .i64 m,.int .i64 x,.pointer p']∧dH m∧dH x∧lq T G (.pointer p') r':=by
 rcases h.open with ⟨h1,_⟩|⟨b,m,x,v',r',h1,h2,h3,h4,h5,h6⟩
 ·cases h1;simp at hp
 ·obtain⟨p',rfl⟩:=h6.shape;cases h1;exact⟨b,m,x,p',r',rfl,h2,lq.row h3,h4,h5,h6⟩
theorem lq.over {T:TypeId}{G:PH}{p:Option Addr}{r:List (Int×Int)}(h:lq T G (.pointer p) r)(hp:p.isNone=true):r=[]:=by
 rcases h.open with ⟨_,h2⟩|⟨b,m,x,v',r',h1,_⟩
 ·exact h2
 ·cases h1;simp at hp
end
section
variable {P:Program} {n:Nat} {ops:Array Oper} {Q:dp} {rest:List Oper} {L:br} {ds:List Deferred} {w:World} {ty:TypeId} {ps:String} {af:Array Edge}
end
theorem nrm:(∀(p:Prop) [Decidable p],(decide p=true)=p)∧(∀(p:Prop) [Decidable p],(decide p=false)↔¬p)∧(∀{b:Bool},((!b)=true)=(b=false))∧(∀{b:Bool},((!b)=false)=(b=true)) ∧
  (∀{a b:Bool},((!a)=b)↔(a= !b))∧((!true)=false)∧((!false)=true)∧(∀{a b:Int},(¬a<b)↔b≤a)∧(∀{a b:Int},(¬a≤b)↔b<a)∧(∀(x y:Bool),((x&&y)=true)=(x=true∧y=true))∧(∀(x y:Bool),((x||y)=true)=(x=true∨y=true)) ∧
  (∀(x y:Bool),((x&&y)=false)=(x=false∨y=false))∧(∀(x y:Bool),((x||y)=false)=(x=false∧y=false))∧(∀{α:Type} [BEq α] [LawfulBEq α] {a b:α},((a==b)=true)↔a=b)∧(∀{α:Type} [BEq α] [LawfulBEq α] {x y:α},((x==y)=false)↔x≠y)∧(∀(b:Bool),decide (b=true)=b):=by
 refine⟨?_,?_,?_,?_,?_,?_,?_,?_,?_,?_,?_,?_,?_,?_,?_,?_⟩<;>intros<;>first|rfl|(simp only[decide_eq_true_eq,decide_eq_false_iff_not,Bool.not_eq_true',Bool.not_eq_false',Bool.not_eq_eq_eq_not,Bool.not_true,Bool.not_false,Int.not_lt,Int.not_le,Bool.and_eq_true,Bool.or_eq_true,Bool.and_eq_false_iff,Bool.or_eq_false_iff,beq_iff_eq,beq_eq_false_iff_ne,Bool.decide_eq_true])|simp
section
variable {P:Program} {n:Nat} {Q:dp} {L:br} {ds:List Deferred} {w:World} {ops:Array Oper} {y c:Code} {id:Nat} {l:List Oper}
theorem q1 (h:R P n l.toArray (K P y Q) l L ds w):R P n ops (K P (.seq (.region id l.toArray false) y) Q) [] L ds w:=aF<|ae<|ah<|aL h
theorem q2 (h:R P n l.toArray (K P y Q) l L ds w):W P n Q (.seq (.region id l.toArray false) y) L ds w:=ah<|aL h
theorem q3 (h:W P n Q c L ds w):R P n ops (K P c Q) [] L ds w:=aF<|ae h
variable {d:Nat} {op:Op} {ty:TypeId} {ps:String} {af:Array Edge} {S:World→Prop} {f:Nat} {ls:Array Bool} {v:Value} {j:Nat} {b:Bool}
def rr (l:List Oper)(ls:Array Bool)(i:Nat):Bool:=Region.noSelect l.toArray&&Region.free .any l.toArray ls i&&(Region.ready .any l.toArray ls).contains i
theorem bc (i:Nat)(hi:nth l i=some ⟨some d,op,ty,ps,af,none⟩)(hb:rr l ls i=true)(hd:Nat.blt d n=true)(hv:∀w,S w→eK P n L ds w ⟨some d,op,ty,ps,af,none⟩ v)
  (h:RD P n l Q S f (ls.setIfInBounds i true) ((d,v)::L) ds w):RD P n l Q S (f+1) ls L ds w:=by
 simp only[rr,Bool.and_eq_true]at hb;exact ac2 i hi hb.1.1 hb.1.2 hb.2 hd hv h
theorem wH (i:Nat)(hi:nth l i=some ⟨some d,op,ty,ps,af,some (j,b)⟩)(hb:rr l ls i=true)(hd:Nat.blt d n=true)(hy:∀a,et n L ds a→yielded l.toArray a.tmps j=some b)(hv:∀w,S w→eK P n L ds w ⟨some d,op,ty,ps,af,none⟩ v)
  (h:RD P n l Q S f (ls.setIfInBounds i true) ((d,v)::L) ds w):RD P n l Q S (f+1) ls L ds w:=by
 simp only[rr,Bool.and_eq_true]at hb;exact ac3 i hi hb.1.1 hb.1.2 hb.2 hd hy hv h
end
theorem Z.{u}{α:Sort u}{a:α}:a=a:=rfl
theorem kR {p:Prop}(h:p:=by kernel_rfl):p:=h
theorem oM {p:Prop}(h:p:=by omega):p:=h
theorem oO {a b:Prop}(h:(a∧b):=by exact⟨by omega,by omega⟩):a∧b:=h
theorem aN {p:Prop}(h:p:=by first|assumption|rfl|(simp;done)|(simp;omega)|omega):p:=h
def sG (n d:Nat)(L:br)(x:Operand):Option Value:=cond (Nat.blt d n) (od L x) none
theorem mL {n d:Nat}{L:br}{x:Operand}{v:Value}(h:sG n d L x=some v):Nat.blt d n=true∧od L x=some v:=by
 unfold sG at h;cases e:Nat.blt d n with
 | true=>rw[e]at h;exact⟨rfl,h⟩
 | false=>rw[e]at h;cases h
def HX (l:List Oper)(L:br)(i:Nat)(c:Bool):Bool:=match gs l i with
 | some t=>(match lk L t with |some (.bool b)=>(b==c)|_=>false)
 | none=>false
section
variable {P:Program} {n:Nat} {Q:dp} {L:br} {ds:List Deferred} {w:World} {ops:Array Oper} {l rest:List Oper} {ty:TypeId} {ps:String} {af:Array Edge} {d:Nat} {x:Operand} {v:Value} {op:Op} {i:Nat} {b:Bool} {S:World→Prop} {f:Nat} {ls:Array Bool}
theorem mV (h:sG n d L x=some v)(next:R P n ops Q rest ((d,v)::L) ds w):R P n ops Q (⟨some d,.move x,ty,ps,af,none⟩::rest) L ds w:=RQ (mL h).1 (mL h).2 next
theorem aG (h:sG n d L x=some v)(next:R P n ops Q rest ((d,v)::L) ds w):R P n ops Q (⟨some d,.assign x,ty,ps,af,none⟩::rest) L ds w:=Gc (mL h).1 (mL h).2 next
theorem gR {dd:Option Nat}(h:HX l L i b=true)(next:R P n l.toArray Q (⟨dd,op,ty,ps,af,none⟩::rest) L ds w):R P n l.toArray Q (⟨dd,op,ty,ps,af,some (i,b)⟩::rest) L ds w:=by
 unfold HX at h;cases e:gs l i with
 | none=>rw[e]at h;cases h
 | some t =>
  rw[e]at h;simp only at h;split at h
  ·rename_i c e2;obtain rfl:c=b:=by simpa using h
   exact Th (yl e e2) next
  ·cases h
end
section
variable {n:Nat} {P:Program} {Q:dp} {L:br} {ds:List Deferred} {w:World} {fn:Func} {C:Ending→World→Prop}
theorem au {t:Nat}{v:Value}(hr:fn.results= #[.tmp t])(h:lk L t=some v)(hR:C (.returned<|ud [v]) w):N n (bodyPost P fn C) .ret L [] w:=bn (rs:=[.tmp t]) (vs:=[v]) hr ⟨h,trivial⟩ hR
theorem bH {t t2:Nat}{v v2:Value}(hr:fn.results= #[.tmp t,.tmp t2])(h:lk L t=some v)(h2:lk L t2=some v2)(hR:C (.returned<|ud [v,v2]) w):N n (bodyPost P fn C) .ret L [] w:=bn (rs:=[.tmp t,.tmp t2]) (vs:=[v,v2]) hr ⟨h,h2,trivial⟩ hR
theorem bU {c:Code}(Lf:br)(J:br→World→Nat→Prop)(M0:br)(m0:Nat)(hf:Sub Lf L)(h0:J M0 w m0)
  (round:∀M w m,J M w m→W P n (LP n ds Lf J m Q) c (M++Lf) ds w) (hM:Sub M0 L:=by repeat (first|exact Sub.nil|refine Sub.cons rfl ?_)):W P n Q (.loop c) L ds w:=adm Lf J M0 m0 hf hM h0 round
theorem bg {Lf:br}{J:br→World→Nat→Prop}{m:Nat}{M:br}{m':Nat}(hJ:J M w m')(hm:m'<m)(hM:Sub M L:=by repeat (first|exact Sub.nil|refine Sub.cons rfl ?_))(hf:Sub Lf L:=by repeat (first|exact Sub.nil|refine Sub.cons rfl ?_)):N n (LP n ds Lf J m Q) .normal L ds w:=acX hJ hM hf hm
end
class UL (P:Program) (t:TypeId) (u:outParam TypeDesc):Prop where h:P.underlying t=some u
class SZ (P:Program) (t:TypeId) (n:outParam Nat):Prop where h:∀w,(Go.sizeOf t).run P w= .ok n w
class AG (P:Program) (t:TypeId) (b:outParam Bool):Prop where h:∀w,(isAgg t).run P w= .ok b w
class FA (P:Program) (t:TypeId) (i:Nat) (o:outParam Nat):Prop where h:∃fields f sz,(∀w,(underlying t).run P w= .ok (.struct fields) w)∧fields[i]? = some f∧(∀w,(Go.sizeOf f.type).run P w= .ok (sz+1) w)∧Nat.beq f.offset o=true
class CF (P:Program) (f:FuncId):Prop where h:∀args w,(callFunc f args).run P w= .ok (.enter f args) w
class ZV (P:Program) (t:TypeId) (l:outParam (List Value)):Prop where h:∃zv,(∀w,(zeroValue t).run P w= .ok zv w)∧lit (vc zv)=some l
def UM (b:BinOp)(k k':IntKind)(p q:Int):Option Value:=if k=k' then(match b with
 | .lss=>some<|.bool<|decide (p<q)
 | .leq=>some<|.bool<|decide (p≤q)
 | .gtr=>some<|.bool<|decide (q<p)
 | .geq=>some<|.bool<|decide (q≤p)
 | .eql=>some<|.bool<|decide (p=q)
 | .neq=>some<|.bool<|!decide (p=q)
 | _=>none) else none
def yv (L:br):Op→Option Value
 | .move x=>od L x
 | .assign x=>od L x
 | .nilCheck x=>match od L x with
  | some (.pointer (some p))=>some<|.pointer<|some p
  | _=>none
 | .extract x i=>match od L x with
  | some (.tuple vs)=>vs[i]?
  | _=>none
 | .unOp .not _ x=>match od L x with
  | some (.bool p)=>some<|.bool<|!p
  | _=>none
 | .pick c x y=>match od L c with
  | some (.bool true)=>od L x
  | some (.bool false)=>od L y
  | _=>none
 | .binOp b _ x y _=>match od L x,od L y with
  | some (.int k p),some (.int k' q)=>UM b k k' p q
  | _,_=>none
 | _=>none
section
variable {P:Program} {n:Nat} {L:br} {ds:List Deferred} {w:World} {ty:TypeId} {ps:String} {af:Array Edge}
theorem HB {d:Nat}{op:Op}{v:Value}(h:yv L op=some v):eK P n L ds w ⟨some d,op,ty,ps,af,none⟩ v:=by
 unfold yv at h;split at h
 ·exact awx h
 ·exact awi h
 ·split at h
  ·rename_i x p e;cases h;exact awz e
  ·cases h
 ·split at h
  ·rename_i x i vs e;exact awl e h
  ·cases h
 ·split at h
  ·rename_i x p e;cases h;exact awA e
  ·cases h
 ·split at h
  ·rename_i e;exact awC e h
  ·rename_i e;exact awB e h
  ·cases h
 ·split at h
  ·rename_i b _ x y _ _ _ k p k' q e1 e2;unfold UM at h;split at h
   ·rename_i hk;subst hk;split at h<;>first|(cases h;first|exact awv e1 e2|exact awr e1 e2|exact awo e1 e2|exact awn e1 e2|exact awk e1 e2|exact awy e1 e2)|cases h
   ·cases h
  ·cases h
 ·cases h
def HA (ol:List Oper)(L:br)(op:Op):Option (Nat×Bool)→Option Value
 | none=>yv L op
 | some (j,b)=>match gs ol j with
  | some t=>(match lk L t with
   | some (.bool c)=>(match c,b with
    | true,true=>yv L op
    | false,false=>yv L op
    | _,_=>some undef)
   | _=>none)
  | none=>none
theorem UN {ol:List Oper}{op:Op}{g:Option (Nat×Bool)}{v:Value}(h:HA ol L op g=some v) :
  (g=none∧yv L op=some v)∨(∃j b t,g=some (j,b)∧gs ol j=some t∧lk L t=some (.bool b)∧yv L op=some v)∨(∃j b t c,g=some (j,b)∧gs ol j=some t∧lk L t=some (.bool c)∧(c==b)=false∧v=undef):=by
 unfold HA at h;split at h
 ·exact .inl ⟨rfl,h⟩
 ·rename_i j b;split at h
  ·rename_i t e1;split at h
   ·rename_i c e2;split at h
    ·exact .inr<|.inl ⟨j,_,t,rfl,e1,e2,h⟩
    ·exact .inr<|.inl ⟨j,_,t,rfl,e1,e2,h⟩
    ·rename_i h1 h2;refine .inr<|.inr ⟨j,b,t,c,rfl,e1,e2,?_,by cases h;rfl⟩;cases c<;>cases b<;>simp_all
   ·cases h
  ·cases h
def LR (n:Nat)(ol:List Oper)(L:br)(o:Oper):Option br:=match o.dst with
 | some d=>(match Nat.blt d n,HA ol L o.op o.guard with
  | true,some v=>some<|(d,v)::L
  | _,_=>none)
 | none=>none
def CL (n:Nat)(ol:List Oper):Nat→List Oper→br→Option (List Oper×br)
 | 0,l,L=>some (l,L)
 | _+1,[],_=>none
 | k+1,o::r,L=>match LR n ol L o with
  | some L'=>CL n ol k r L'
  | none=>none
variable {ol:List Oper} {Q:dp} {rest:List Oper}
theorem afD {o:Oper}{L':br}(h:LR n ol L o=some L')(next:R P n ol.toArray Q rest L' ds w):R P n ol.toArray Q (o::rest) L ds w:=by
 obtain⟨dst,op,ty,ps,af,g⟩:=o;unfold LR at h;simp only at h;split at h
 ·rename_i d;split at h
  ·rename_i v hd hv;cases h;rcases UN hv with ⟨rfl,h1⟩|⟨j,b,t,rfl,h1,h2,h3⟩|⟨j,b,t,c,rfl,h1,h2,h3,rfl⟩
   ·exact cP hd (HB h1) next
   ·exact Th (yl h1 h2)<|cP hd (HB h3) next
   ·exact eZ hd (ab5 h1 h2 h3) next
  ·cases h
 ·cases h
theorem pe (k:Nat){l:List Oper}{L':br}(h:CL n ol k l L=some (rest,L'))(next:R P n ol.toArray Q rest L' ds w):R P n ol.toArray Q l L ds w:=by
 induction k generalizing l L with
 | zero=>unfold CL at h;cases h;exact next
 | succ k ih =>
  cases l with
  | nil=>unfold CL at h;cases h
  | cons o r =>
   unfold CL at h;split at h
   ·rename_i L1 h1;exact afD h1<|ih h
   ·cases h
end
theorem Z2.{u,v}{α:Sort u}{β:Sort v}{a:α}{b:β}:a=a∧b=b:=⟨rfl,rfl⟩
theorem Z3.{u,v,x}{α:Sort u}{β:Sort v}{γ:Sort x}{a:α}{b:β}{c:γ}:a=a∧b=b∧c=c:=⟨rfl,rfl,rfl⟩
theorem Z4.{u,v,x,y}{α:Sort u}{β:Sort v}{γ:Sort x}{δ:Sort y}{a:α}{b:β}{c:γ}{d:δ}:a=a∧b=b∧c=c∧d=d:=⟨rfl,rfl,rfl,rfl⟩
theorem Z7 {α1 α2 α3 α4 α5 α6 α7:Type}{a1:α1}{a2:α2}{a3:α3}{a4:α4}{a5:α5}{a6:α6}{a7:α7}:a1=a1∧a2=a2∧a3=a3∧a4=a4∧a5=a5∧a6=a6∧a7=a7:=⟨rfl,rfl,rfl,rfl,rfl,rfl,rfl⟩
theorem Z8 {α1 α2 α3 α4 α5 α6 α7 α8:Type}{a1:α1}{a2:α2}{a3:α3}{a4:α4}{a5:α5}{a6:α6}{a7:α7}{a8:α8}:a1=a1∧a2=a2∧a3=a3∧a4=a4∧a5=a5∧a6=a6∧a7=a7∧a8=a8:=⟨rfl,rfl,rfl,rfl,rfl,rfl,rfl,rfl⟩
section
variable {P:Program} {n:Nat} {ops:Array Oper} {Q:dp} {rest:List Oper} {L:br} {ds:List Deferred} {w w0:World} {G0:PH} {S:List Nat} {G:PH} {B:List aW} {ty:TypeId} {ps:String} {af:Array Edge}
theorem fA (off:Nat){d i:Nat}{t:TypeId}{x:Operand}{b o:Nat}(h:sG n d L x=some (.pointer<|some ⟨b,o,none⟩))(next:R P n ops Q rest ((d,.pointer<|some ⟨b,o+off,none⟩)::L) ds w) [hF:FA P t i off]:R P n ops Q (⟨some d,.fieldAddr t x i,ty,ps,af,none⟩::rest) L ds w:=by
 obtain⟨fields,f,sz,h1,h2,h3,h4⟩:=hF.h;exact atz off h1 h2 h3 h4 (mL h).1 (mL h).2 next
theorem lB (k:Nat)(H:Hp w0 G0 S w G B){d:Nat}{t:TypeId}{x:Operand}{b o:Nat}{l:List Value}{e:TypeId}{v:Value}(h:sG n d L x=some (.pointer<|some ⟨b,o,none⟩)∧nth B k=some (ai b<|cl l e)∧nth l o=some v)(next:R P n ops Q rest ((d,v)::L) ds w) [hA:AG P t false]:R P n ops Q (⟨some d,.load t x,ty,ps,af,none⟩::rest) L ds w :=
 atD k H hA.h (mL h.1).1 (mL h.1).2 h.2.1 h.2.2 next
theorem lA (k sz:Nat)(H:Hp w0 G0 S w G B){d:Nat}{t:TypeId}{x:Operand}{b o:Nat}{l l':List Value}{e:TypeId}(h:sG n d L x=some (.pointer<|some ⟨b,o,none⟩)∧nth B k=some (ai b<|cl l e)∧lit (Ag l o sz)=some l'∧Nat.beq l'.length sz=true)(next:R P n ops Q rest ((d,.agg l'.toArray)::L) ds w) [hA:AG P t true] [hS:SZ P t sz]:R P n ops Q (⟨some d,.load t x,ty,ps,af,none⟩::rest) L ds w :=
 atF k H hA.h hS.h (mL h.1).1 (mL h.1).2 h.2.1 h.2.2.1 h.2.2.2 next
theorem lP (H:Hp w0 G0 S w G B){b o:Nat}{l:List Value}(hr:fw G b o l)(j:Nat){d:Nat}{t:TypeId}{x:Operand}{v:Value}(h:nth l j=some v∧sG n d L x=some (.pointer<|some ⟨b,o+j,none⟩))(next:R P n ops Q rest ((d,v)::L) ds w) [hA:AG P t false]:R P n ops Q (⟨some d,.load t x,ty,ps,af,none⟩::rest) L ds w :=
 atE H hA.h (mL h.2).1 (mL h.2).2 (hr j v<|by rw[←ii];exact h.1) next
theorem lN {d:Nat}{x:Operand}{t e:TypeId}{a:Option Addr}{m c:Nat}(h:sG n d L x=some (.slice a m c))(next:R P n ops Q rest ((d,.int .i64 m)::L) ds w) [hT:UL P t (.slice e)]:R P n ops Q (⟨some d,.call ⟨.builtin .len,#[x],#[t]⟩,ty,ps,af,none⟩::rest) L ds w:=atB hT.h (mL h).1 (mL h).2 next
theorem lS {d:Nat}{x:Operand}{t:TypeId}{p:List UInt8}(h:sG n d L x=some (str p))(next:R P n ops Q rest ((d,.int .i64 p.length)::L) ds w) [hT:UL P t .string]:R P n ops Q (⟨some d,.call ⟨.builtin .len,#[x],#[t]⟩,ty,ps,af,none⟩::rest) L ds w:=atC hT.h (mL h).1 (mL h).2 next
theorem aD {d:Nat}{x y:Operand}{t u:TypeId}{p q:Int}(h:sG n d L x=some (.int .i64 p)∧od L y=some (.int .i64 q))(next:R P n ops Q rest ((d,.int .i64<|p+q)::L) ds w)(hr:dH (p+q):=by exact⟨by omega,by omega⟩):R P n ops Q (⟨some d,.binOp .add t x y u,ty,ps,af,none⟩::rest) L ds w:=atl (mL h.1).1 (mL h.1).2 h.2 hr next
theorem iP {α:Type}{lim:Nat}{E:PH→α→List Value→Prop}{d:Nat}{t e:TypeId}{x y:Operand}{a:Option Addr}{xs:List α}{m c sz:Nat}{k:Int}(i:Nat)(hr:aU lim E sz G (.slice a m c) xs)(h:Nat.blt d n=true∧od L x=some (.slice a m c)∧od L y=some (.int .i64 k))(hk:k=(i:Int))
  (next:∀b o z cs,xs[i]? = some z→E G z cs→fw G b o cs→R P n ops Q rest ((d,.pointer<|some ⟨b,o,none⟩)::L) ds w) [hU:UL P t (.slice e)] [hS:SZ P e sz] (hi:i<xs.length:=by first|omega|(simp;omega)):R P n ops Q (⟨some d,.indexAddr t x y,ty,ps,af,none⟩::rest) L ds w :=
 atA i hr hU.h hS.h h.1 h.2.1 h.2.2 hk hi next
theorem bT (H:Hp w0 G0 S w G B){d:Nat}{e:TypeId}{l:List Value} [hz:ZV P e l] (hd:Nat.blt d n=true)
  (next:∀b w',w.heap.size≤b→Hp w0 G0 S w' G (ai b (cl l e)::B)→R P n ops Q rest ((d,.pointer<|some ⟨b,0,none⟩)::L) ds w'):R P n ops Q (⟨some d,.alloc e,ty,ps,af,none⟩::rest) L ds w:=by
 obtain⟨zv,h1,h2⟩:=hz.h;exact RI H h1 hd h2 next
theorem aI (k:Nat)(H:Hp w0 G0 S w G B){t:TypeId}{x y:Operand}{b o sz:Nat}{l:List Value}{e:TypeId}{v:Value} [hS:SZ P t sz] {l':List Value}{B':List aW}(h:od L x=some (.pointer<|some ⟨b,o,none⟩)∧od L y=some v∧nth B k=some (ai b<|cl l e)∧Nat.beq (vc v).length sz=true∧Nat.ble (o+(vc v).length) l.length=true∧((vc v).all fun u=>u.oneCell')=true∧lit (ee l o<|vc v)=some l'∧lit (bq B k<|ai b<|cl l' e)=some B')
  (next:∀w',Hp w0 G0 S w' G B'→R P n ops Q rest L ds w'):R P n ops Q (⟨none,.store t x y,ty,ps,af,none⟩::rest) L ds w:=by
 obtain⟨h1,h2,h3,h4,h5,h6,h7,h8⟩:=h;exact atW k H hS.h h1 h2 h3 h4 h5 h6 h7 h8 next
theorem bb (H:Hp w0 G0 S w G B){d:Nat}{t e:TypeId}{m sz:Nat}{xs:List (Nat×Operand)}{kO:List (Nat×Value)}{z l':List Value} [hU:UL P t (.slice e)] [hS:SZ P e sz] [hz:ZV P e z]
  (h:Nat.beq z.length sz=true∧Nat.blt 0 sz=true∧Nat.ble (m*sz) 16777216=true∧Nat.blt d n=true∧wi L xs=some kO∧(kO.all fun x=>Nat.blt x.1 m)=true∧(s3 (xV m 0 sz) (rep m z) kO).bind lit=some l')
  (next:∀b w',w.heap.size≤b→Hp w0 G0 S w' G (ai b (cl l' e)::B)→R P n ops Q rest ((d,.slice (some ⟨b,0,none⟩) m m)::L) ds w'):R P n ops Q (⟨some d,.buildSlice t m xs.toArray,ty,ps,af,none⟩::rest) L ds w:=by
 obtain⟨zv,g1,g2⟩:=hz.h;obtain⟨h1,h2,h3,h4,h5,h6,h7⟩:=h;exact atr H hU.h hS.h (fun w=>⟨zv,g1 w,(rj g2).symm⟩) h1 h2 h3 h4 h5 h6 h7 next
theorem xr {d:Nat}{f:FuncId}{xs:List Operand}{ts:Array TypeId}{vs:List Value}{v:Value}(H:Hp w0 G0 S w G B)(h:Nat.blt d n=true∧lQ L xs=some vs)(hc:Calls P f vs.toArray w (b8 w v))
  (next:∀w',Hp w0 G0 S w' G B→R P n ops Q rest ((d,v)::L) ds w') [hf:CF P f]:R P n ops Q (⟨some d,.call ⟨.value<|.func f,xs.toArray,ts⟩,ty,ps,af,none⟩::rest) L ds w :=
 o6 hf.h h.1 h.2 hc (fun e w' h=>⟨v,h.1,next w' (H.step h.2)⟩)
theorem xc {d:Nat}{f:FuncId}{xs:List Operand}{ts:Array TypeId}{vs:List Value}{C:Ending→World→Prop}(h:Nat.blt d n=true∧lQ L xs=some vs)(hc:Calls P f vs.toArray w C)(next:∀e w',C e w'→∃v,e= .returned v∧R P n ops Q rest ((d,v)::L) ds w') [hf:CF P f] :
  R P n ops Q (⟨some d,.call ⟨.value<|.func f,xs.toArray,ts⟩,ty,ps,af,none⟩::rest) L ds w:=o6 hf.h h.1 h.2 hc next
variable {l:List Oper} {K:World→Prop} {f:Nat} {ls:Array Bool} {G':PH} {B' Bs:List aW}
theorem q4 {i:Nat}(H:Hp w0 G0 S w G' B')(hle:an G G')(h:RD P n l Q (fun w=>Kn w G Bs) f (ls.setIfInBounds i true) L ds w)
  (hs:gy Bs B':=by repeat (first|exact gy.nil|refine gy.cons 0 rfl ?_|refine gy.cons 1 rfl ?_|refine gy.cons 2 rfl ?_|refine gy.cons 3 rfl ?_|refine gy.cons 4 rfl ?_|refine gy.cons 5 rfl ?_|refine gy.cons 6 rfl ?_|refine gy.cons 7 rfl ?_|refine gy.cons 8 rfl ?_|refine gy.cons 9 rfl ?_|refine gy.cons 10 rfl ?_|refine gy.cons 11 rfl ?_|refine gy.cons 12 rfl ?_|refine gy.cons 13 rfl ?_|refine gy.cons 14 rfl ?_|refine gy.cons 15 rfl ?_|refine gy.cons 16 rfl ?_|refine gy.cons 17 rfl ?_|refine gy.cons 18 rfl ?_|refine gy.cons 19 rfl ?_|refine gy.cons 20 rfl ?_|refine gy.cons 21 rfl ?_|refine gy.cons 22 rfl ?_|refine gy.cons 23 rfl ?_|refine gy.cons 24 rfl ?_|refine gy.cons 25 rfl ?_|refine gy.cons 26 rfl ?_)) :
  R P n ops (DK P l Q (fun w=>Kn w G Bs) f ls i) [] L ds w:=aF<|acW (Kn.of' H hle hs) h
theorem r1 (i:Nat){o:Oper}(hi:nth l i=some o)(h:R P n l.toArray (DK P l Q K f ls i) [o] L ds w)(hr:Region.ready .any l.toArray ls=[i]:=by kernel_rfl):RD P n l Q K (f+1) ls L ds w:=Hb [i] hr rfl<|kT.cons hi h kT.nil
theorem r2 (i j:Nat){o o':Oper}(hi:nth l i=some o∧nth l j=some o')(h:R P n l.toArray (DK P l Q K f ls i) [o] L ds w)(h':R P n l.toArray (DK P l Q K f ls j) [o'] L ds w)(hr:Region.ready .any l.toArray ls=[i,j]:=by kernel_rfl):RD P n l Q K (f+1) ls L ds w:=Hb [i,j] hr rfl<|kT.cons hi.1 h<|kT.cons hi.2 h' kT.nil
theorem rz (h:N n Q .normal L ds w)(hr:Region.ready .any l.toArray ls=[]:=by kernel_rfl):RD P n l Q K f ls L ds w:=ac1 hr h
def C7 (l:List Oper)(L:br):Option (Nat×Bool)→Bool
 | none=>true
 | some (j,b)=>HX l L j b
def zZ (n d:Nat)(l:List Oper)(L:br)(g:Option (Nat×Bool))(x:Operand):Option Value:=cond (Nat.blt d n&&C7 l L g) (od L x) none
theorem Gg {n d:Nat}{l:List Oper}{L:br}{g:Option (Nat×Bool)}{x:Operand}{v:Value}(h:zZ n d l L g x=some v):Nat.blt d n=true∧C7 l L g=true∧od L x=some v:=by
 unfold zZ at h;cases e:(Nat.blt d n&&C7 l L g) with
 | true=>rw[e]at h;simp only[Bool.and_eq_true]at e;exact⟨e.1,e.2,h⟩
 | false=>rw[e]at h;cases h
theorem Cj {i d:Nat}{op:Op}{g:Option (Nat×Bool)}{v:Value}(hi:nth l i=some ⟨some d,op,ty,ps,af,g⟩)(hd:Nat.blt d n=true)(hg:C7 l L g=true)(hv:∀w,K w→eK P n L ds w ⟨some d,op,ty,ps,af,none⟩ v)(h:RD P n l Q K f (ls.setIfInBounds i true) ((d,v)::L) ds w)(hb:rr l ls i=true):RD P n l Q K (f+1) ls L ds w:=by
 cases g with
 | none=>exact bc i hi hb hd hv h
 | some jb =>
  obtain⟨j,b⟩:=jb;unfold C7 HX at hg;simp only at hg;split at hg
  ·rename_i t e;split at hg
   ·rename_i c e2;obtain rfl:c=b:=by simpa using hg
    exact wH i hi hb hd (yl e e2) hv h
   ·cases hg
  ·cases hg
theorem dE (i:Nat){d:Nat}{op:Op}{g:Option (Nat×Bool)}{v:Value}(h:nth l i=some ⟨some d,op,ty,ps,af,g⟩∧cond (Nat.blt d n) (HA l L op g) none=some v)(next:RD P n l Q K f (ls.setIfInBounds i true) ((d,v)::L) ds w)(hb:rr l ls i=true:=by kernel_rfl):RD P n l Q K (f+1) ls L ds w:=by
 obtain⟨hi,he⟩:=h;have hd:Nat.blt d n=true:=by
  cases e:Nat.blt d n with
  | true=>rfl
  | false=>rw[e]at he;cases he
 rw[hd]at he;rcases UN he with ⟨rfl,h1⟩|⟨j,b,t,rfl,h1,h2,h3⟩|⟨j,b,t,c,rfl,h1,h2,h3,rfl⟩
 ·exact bc i hi hb hd (fun _ _=>HB h1) next
 ·exact wH i hi hb hd (yl h1 h2) (fun _ _=>HB h3) next
 ·simp only[rr,Bool.and_eq_true]at hb;exact fN i hi hb.1.1 hb.1.2 hb.2 hd (ab5 h1 h2 h3) next
theorem dF (i off:Nat){d k:Nat}{t:TypeId}{x:Operand}{g:Option (Nat×Bool)}{b o:Nat}(h:nth l i=some ⟨some d,.fieldAddr t x k,ty,ps,af,g⟩∧zZ n d l L g x=some (.pointer<|some ⟨b,o,none⟩))(next:RD P n l Q K f (ls.setIfInBounds i true) ((d,.pointer<|some ⟨b,o+off,none⟩)::L) ds w) [hF:FA P t k off] (hb:rr l ls i=true:=by kernel_rfl):RD P n l Q K (f+1) ls L ds w:=by
 obtain⟨h1,h2,h3⟩:=Gg h.2;obtain⟨fields,f,sz,g1,g2,g3,g4⟩:=hF.h;exact Cj h.1 h1 h2 (fun _ _=>awm off g1 g2 g3 g4 h3) next hb
theorem dN (i:Nat){d:Nat}{t e:TypeId}{x:Operand}{g:Option (Nat×Bool)}{a:Option Addr}{m c:Nat}(h:nth l i=some ⟨some d,.call ⟨.builtin .len,#[x],#[t]⟩,ty,ps,af,g⟩∧zZ n d l L g x=some (.slice a m c))(next:RD P n l Q K f (ls.setIfInBounds i true) ((d,.int .i64 m)::L) ds w) [hT:UL P t (.slice e)] (hb:rr l ls i=true:=by kernel_rfl):RD P n l Q K (f+1) ls L ds w:=by
 obtain⟨h1,h2,h3⟩:=Gg h.2;exact Cj h.1 h1 h2 (fun _ _=>awq hT.h h3) next hb
theorem dI {b o:Nat}{a:Option Addr}(i sz j:Nat)(ha:a=some ⟨b,o,none⟩){d:Nat}{t e:TypeId}{x y:Operand}{g:Option (Nat×Bool)}{m c:Nat}{k:Int}(h:nth l i=some ⟨some d,.indexAddr t x y,ty,ps,af,g⟩∧zZ n d l L g x=some (.slice a m c)∧od L y=some (.int .i64 k))(hk:k=(j:Int))(next:RD P n l Q K f (ls.setIfInBounds i true) ((d,.pointer<|some ⟨b,o+j*sz,none⟩)::L) ds w) [hU:UL P t (.slice e)] [hS:SZ P e sz] (hi:j<m:=by omega)(hb:rr l ls i=true:=by kernel_rfl):RD P n l Q K (f+1) ls L ds w:=by
 obtain⟨h1,h2,h3⟩:=Gg h.2.1;exact Cj h.1 h1 h2 (fun _ _=>SO ha hU.h hS.h h3 h.2.2 hk hi) next hb
theorem dP {b o:Nat}{cl:List Value}(i:Nat)(hr:fw G b o cl)(j:Nat){d:Nat}{t:TypeId}{x:Operand}{g:Option (Nat×Bool)}{v:Value}(h:nth l i=some ⟨some d,.load t x,ty,ps,af,g⟩∧nth cl j=some v∧zZ n d l L g x=some (.pointer<|some ⟨b,o+j,none⟩))(next:RD P n l Q (fun w=>Kn w G Bs) f (ls.setIfInBounds i true) ((d,v)::L) ds w) [hA:AG P t false] (hb:rr l ls i=true:=by kernel_rfl):RD P n l Q (fun w=>Kn w G Bs) (f+1) ls L ds w:=by
 obtain⟨h1,h2,h3⟩:=Gg h.2.2;exact Cj h.1 h1 h2 (fun _ hK=>awt hK hA.h h3<|hr j v<|by rw[←ii];exact h.2.1) next hb
theorem dB (i k:Nat){d:Nat}{t:TypeId}{x:Operand}{g:Option (Nat×Bool)}{b o:Nat}{c:List Value}{e:TypeId}{v:Value}(h:nth l i=some ⟨some d,.load t x,ty,ps,af,g⟩∧zZ n d l L g x=some (.pointer<|some ⟨b,o,none⟩)∧nth Bs k=some (ai b<|Fw.cl c e)∧nth c o=some v)(next:RD P n l Q (fun w=>Kn w G Bs) f (ls.setIfInBounds i true) ((d,v)::L) ds w) [hA:AG P t false] (hb:rr l ls i=true:=by kernel_rfl):RD P n l Q (fun w=>Kn w G Bs) (f+1) ls L ds w:=by
 obtain⟨h1,h2,h3⟩:=Gg h.2.1;exact Cj h.1 h1 h2 (fun _ hK=>aws k hK hA.h h3 h.2.2.1 h.2.2.2) next hb
end
theorem Hp.tF {w0 w:World}{G0 G:PH}{S:List Nat}{B:List aW}(H:Hp w0 G0 S w G B)(k:Nat){r:aW}(hk:nth B k=some r:=by exact rfl):Hp w0 G0 S w G (r::ez B k):=H.x3 hk
theorem Hp.dl {w0 w:World}{G0 G:PH}{S:List Nat}{B:List aW}(H:Hp w0 G0 S w G B)(k:Nat){r:aW}(hk:nth B k=some r:=by exact rfl):Hp w0 G0 S w G (ez B k):=H.del hk
theorem opH {G:PH}{x:ao}{cs:List Value}(h:dx G x cs):∃a m c,cs=[.int .i64 x.id,.slice a m c,.int .i64 x.bh]∧dH x.id∧dv G (.slice a m c) x.bytes∧dH x.bh∧m=x.bytes.length∧x.bytes.length≤1099511627776:=by
 obtain⟨a,m,c,e,h1,h2,h3⟩:=h;exact⟨a,m,c,e,h1,h2,h3,h2.len,h2.lim⟩
theorem opI {G:PH}{x:aj}{cs:List Value}(h:dn G x cs):∃a m c,cs=[str x.path,.bool x.dir,.slice a m c]∧x.path.length≤16777216∧dv G (.slice a m c) x.ids∧m=x.ids.length∧x.ids.length≤1099511627776:=by
 obtain⟨a,m,c,e,h1,h2⟩:=h;exact⟨a,m,c,e,h1,h2,h2.len,h2.lim⟩
theorem opS {G:PH}{x:cG}{cs:List Value}(h:iK G x cs):∃a m c,cs=[str x.name,.slice a m c]∧x.name.length≤16777216∧cL G (.slice a m c) x.tree∧m=x.tree.length∧x.tree.length≤1099511627776:=by
 obtain⟨a,m,c,e,h1,h2⟩:=h;exact⟨a,m,c,e,h1,h2,h2.len,h2.lim⟩
theorem opD {G:PH}{x:aK}{cs:List Value}(h:eA G x cs):∃a m c a' m' c' qE pA qH,cs=[.slice a m c,.slice a' m' c',.slice qE pA qH]∧di G (.slice a m c) x.store∧cL G (.slice a' m' c') x.tree∧gx G (.slice qE pA qH) x.aw∧(m=x.store.length∧x.store.length≤1099511627776)∧(m'=x.tree.length∧x.tree.length≤1099511627776)∧pA=x.aw.length∧x.aw.length≤1099511627776:=by
 obtain⟨a,m,c,a',m',c',qE,pA,qH,e,h1,h2,h3⟩:=h;exact⟨a,m,c,a',m',c',qE,pA,qH,e,h1,h2,h3,⟨h1.len,h1.lim⟩,⟨h2.len,h2.lim⟩,h3.len,h3.lim⟩
theorem opV {G:PH}{x:o8}{cs:List Value}(h:Kw G x cs):∃a m c a' m' c',cs=[.slice a m c,.slice a' m' c']∧di G (.slice a m c) x.store∧cL G (.slice a' m' c') x.tree∧(m=x.store.length∧x.store.length≤1099511627776)∧m'=x.tree.length∧x.tree.length≤1099511627776:=by
 obtain⟨a,m,c,a',m',c',e,h1,h2⟩:=h;exact⟨a,m,c,a',m',c',e,h1,h2,⟨h1.len,h1.lim⟩,h2.len,h2.lim⟩
class wG {α:Type} (E:PH→α→List Value→Prop) (R:outParam (PH→α→List Value→Prop)):Prop where op:∀{G x cs},E G x cs→R G x cs
theorem ox {α:Type}{E R:PH→α→List Value→Prop}{G:PH}{x:α}{cs:List Value}(h:E G x cs) [i:wG E R]:R G x cs:=i.op h
instance:wG dx (fun G (x:ao) cs=>∃a m c,cs=[.int .i64 x.id,.slice a m c,.int .i64 x.bh]∧dH x.id∧dv G (.slice a m c) x.bytes∧dH x.bh∧m=x.bytes.length∧x.bytes.length≤1099511627776):=⟨opH⟩
instance:wG dn (fun G (x:aj) cs=>∃a m c,cs=[str x.path,.bool x.dir,.slice a m c]∧x.path.length≤16777216∧dv G (.slice a m c) x.ids∧m=x.ids.length∧x.ids.length≤1099511627776):=⟨opI⟩
instance:wG iK (fun G (x:cG) cs=>∃a m c,cs=[str x.name,.slice a m c]∧x.name.length≤16777216∧cL G (.slice a m c) x.tree∧m=x.tree.length∧x.tree.length≤1099511627776):=⟨opS⟩
instance:wG Kw (fun G (x:o8) cs=>∃a m c a' m' c',cs=[.slice a m c,.slice a' m' c']∧di G (.slice a m c) x.store∧cL G (.slice a' m' c') x.tree∧(m=x.store.length∧x.store.length≤1099511627776)∧m'=x.tree.length∧x.tree.length≤1099511627776):=⟨opV⟩
instance:wG eA (fun G (x:aK) cs=>∃a m c a' m' c' qE pA qH,cs=[.slice a m c,.slice a' m' c',.slice qE pA qH]∧di G (.slice a m c) x.store∧cL G (.slice a' m' c') x.tree∧gx G (.slice qE pA qH) x.aw∧(m=x.store.length∧x.store.length≤1099511627776)∧(m'=x.tree.length∧x.tree.length≤1099511627776)∧pA=x.aw.length∧x.aw.length≤1099511627776):=⟨opD⟩
def aaH:PH→GW→List Value→Prop:=fun _ x cs=>cs=[str x.dir,.int .i64 x.sE]∧x.dir.length≤16777216∧dH x.sE
instance:ik aaH:=⟨fun _ h=>h⟩
theorem rl2 {a b:Value}{eR:List Value}(h:RL [a,b] eR):∃u v,eR=[u,v]∧R1 a u∧R1 b v:=by
 rcases eR with _|⟨u,_|⟨v,_|⟨w,r⟩⟩⟩
 ·exact h.elim
 ·exact h.2.elim
 ·exact⟨u,v,rfl,h.1,h.2.1⟩
 ·exact h.2.2.elim
instance:wJ aaH:=⟨fun {_ _ x cs eR} hg hr h=>by
 obtain⟨rfl,h1,h2⟩:=h;obtain⟨u,v,rfl,k1,k2⟩:=rl2 hr;obtain rfl:=Kd k1;obtain⟨p,rfl,hp⟩:=B7 k2 h2;exact⟨⟨x.dir,p⟩,rfl,h1,hp⟩⟩
def qq:PH→iM→List Value→Prop:=fun G x cs=>∃a m c,cs=[.int .i64 x.kind,str x.path,.slice a m c]∧dH x.kind∧x.path.length≤16777216∧dv G (.slice a m c) x.bytes
instance:ik qq:=⟨fun hle ⟨a,m,c,h1,h2,h3,h4⟩=>⟨a,m,c,h1,h2,h3,h4.up hle⟩⟩
abbrev ac4:=aU iN qq 3
instance:wJ qq:=⟨fun {_ _ x cs eR} hg hr h=>by
 obtain⟨a,m,c,rfl,h1,h2,h3⟩:=h;obtain⟨u,v,w,rfl,k1,k2,k3⟩:=Kf hr;obtain⟨p,rfl,hp⟩:=B7 k1 h1;obtain rfl:=Kd k2;obtain rfl:=Kc k3;obtain⟨ys,_,hy⟩:=h3.st hg;exact⟨⟨p,x.path,ys⟩,a,m,c,rfl,hp,h2,hy⟩⟩
def tY:PH→ga→List Value→Prop:=fun G x cs=>∃a m c,cs=[.int .i64 x.kind,str x.path,.bool x.dir,.slice a m c]∧dH x.kind∧x.path.length≤16777216∧dv G (.slice a m c) x.bytes
instance:ik tY:=⟨fun hle ⟨a,m,c,h1,h2,h3,h4⟩=>⟨a,m,c,h1,h2,h3,h4.up hle⟩⟩
abbrev ac5:=aU iN tY 4
theorem rl4 {a b c d:Value}{eR:List Value}(h:RL [a,b,c,d] eR):∃u v w z,eR=[u,v,w,z]∧R1 a u∧R1 b v∧R1 c w∧R1 d z:=by
 rcases eR with _|⟨u,r⟩
 ·exact h.elim
 ·obtain⟨v,w,z,rfl,k⟩:=Kf h.2;exact⟨u,v,w,z,rfl,h.1,k⟩
instance:wJ tY:=⟨fun {_ _ x cs eR} hg hr h=>by
 obtain⟨a,m,c,rfl,h1,h2,h3⟩:=h;obtain⟨u,v,w,z,rfl,k1,k2,k3,k4⟩:=rl4 hr;obtain⟨p,rfl,hp⟩:=B7 k1 h1;obtain rfl:=Kd k2;obtain rfl:=aaI k3;obtain rfl:=Kc k4;obtain⟨ys,_,hy⟩:=h3.st hg;exact⟨⟨p,x.path,x.dir,ys⟩,a,m,c,rfl,hp,h2,hy⟩⟩
theorem auc {G:PH}{x:iM}{cs:List Value}(h:qq G x cs):∃a m c,cs=[.int .i64 x.kind,str x.path,.slice a m c]∧dH x.kind∧x.path.length≤16777216∧dv G (.slice a m c) x.bytes∧m=x.bytes.length∧x.bytes.length≤1099511627776:=by
 obtain⟨a,m,c,rfl,h1,h2,h3⟩:=h;exact⟨a,m,c,rfl,h1,h2,h3,h3.len,h3.lim⟩
instance:wG qq (fun G (x:iM) cs=>∃a m c,cs=[.int .i64 x.kind,str x.path,.slice a m c]∧dH x.kind∧x.path.length≤16777216∧dv G (.slice a m c) x.bytes∧m=x.bytes.length∧x.bytes.length≤1099511627776):=⟨auc⟩
theorem aud {G:PH}{x:ga}{cs:List Value}(h:tY G x cs):∃a m c,cs=[.int .i64 x.kind,str x.path,.bool x.dir,.slice a m c]∧dH x.kind∧x.path.length≤16777216∧dv G (.slice a m c) x.bytes∧m=x.bytes.length∧x.bytes.length≤1099511627776:=by
 obtain⟨a,m,c,rfl,h1,h2,h3⟩:=h;exact⟨a,m,c,rfl,h1,h2,h3,h3.len,h3.lim⟩
instance:wG tY (fun G (x:ga) cs=>∃a m c,cs=[.int .i64 x.kind,str x.path,.bool x.dir,.slice a m c]∧dH x.kind∧x.path.length≤16777216∧dv G (.slice a m c) x.bytes∧m=x.bytes.length∧x.bytes.length≤1099511627776):=⟨aud⟩
end Fw
namespace Sp
open Fw Nd
section
variable {d:aK} {p:Bs}
theorem afj (hd:aS d=true){i:Nat}{x:aj}(hi:cD d.tree p=some i)(hx:d.tree[i]? = some x)(k:Int):l_ d ⟨k,p,x.dir,[]⟩=nG d p:=by
 obtain⟨y,h1,h2⟩:=(kx (AL hd).d_ (p:=p)).1 i hi;rw[hx]at h1;cases h1;unfold l_ nG;rw[if_pos hd,if_pos];simp only[decide_true,Bool.and_true,List.any_eq_true];exact⟨x,List.mem_of_getElem? hx,by simp[h2]⟩
theorem afk (h:cD d.tree p=none):nG d p=none:=by
 unfold nG lK im;rw[h];split<;>rename_i h2
 ·cases h3:cU d.tree<;>rfl
 ·rfl
theorem asZ (hd:aS d=true)(h:cD d.tree p=none):jy d ⟨1,p,true,[]⟩=nF d p:=by
 unfold jy nF;rw[if_pos<|by simp[h],if_pos rfl,if_pos rfl,if_pos hd]
theorem as0 {i:Nat}(hd:aS d=true)(h:cD d.tree p=some i):nF d p=none:=by
 obtain⟨y,h1,h2⟩:=(kx (AL hd).d_ (p:=p)).1 i h;have:=Gx (x:=⟨p,true,[]⟩) (AL hd).d_ (List.mem_of_getElem? h1) h2 (by simp);unfold nF o0;rw[if_pos hd,this];rfl
theorem aug {o:iM}(h:aS d=false):bV d o=none:=by
 cases e:bV d o with
 | none=>rfl
 | some d1=>have:=aai e;rw[h]at this;cases this
theorem aag {o:iM}(h:gY o=false):bV d o=none:=by simp[bV,h]
theorem J4 {o:iM}(h:gY o=true):bV d o=if o.kind=1 then nF d o.path else if o.kind=2 then iw d o.path o.bytes else if o.kind=3 then nG d o.path else cT d o.path:=by simp[bV,h]
theorem at4 {o:iM}(h:gY o=true):o.kind=1∨o.kind=2∨o.kind=3∨o.kind=4:=by
 unfold gY at h;split at h
 ·omega
 ·split at h
  ·omega
  ·split at h
   ·omega
   ·cases h
end
section
variable {d:aK} {x:ga}
theorem avr (h:cD d.tree x.path=none):l_ d x=none:=by
 unfold l_;split
 ·rename_i hc;simp only[Bool.and_eq_true,List.any_eq_true,decide_eq_true_eq]at hc;obtain⟨⟨y,hy,hp,_⟩,_⟩:=hc;have:=List.findIdx?_eq_none_iff.1 h y hy;simp[hp]at this
 ·rfl
theorem avs (hd:aS d=true){i:Nat}{y:aj}(hi:cD d.tree x.path=some i)(hy:d.tree[i]? = some y)(de:y.dir≠x.dir):l_ d x=none:=by
 unfold l_;split
 ·rename_i hc;simp only[Bool.and_eq_true,List.any_eq_true,decide_eq_true_eq]at hc;obtain⟨⟨z,hz,hp,hzd⟩,_⟩:=hc;obtain⟨y',g1,g2⟩:=(kx (AL hd).d_ (p:=x.path)).1 i hi;rw[hy]at g1;cases g1;have:=Tu (AL hd).d_ hz (List.mem_of_getElem? hy)<|hp.trans g2.symm;subst this;exact absurd hzd de
 ·rfl
theorem aaW {i:Nat}{y:aj}(hi:cD d.tree x.path=some i)(hy:d.tree[i]? = some y)(hp:y.path=x.path)(qi:y.dir=x.dir)(hb:x.bytes=[]):l_ d x=(lK d.store d.tree x.path).map (sN d):=by
 unfold l_;rw[if_pos];simp only[Bool.and_eq_true,List.any_eq_true,decide_eq_true_eq];exact⟨⟨y,List.mem_of_getElem? hy,hp,qi⟩,hb⟩
theorem K8 {l:List aj}{p:Bs}{i:Nat}{y:aj}(hi:cD l p=some i)(hy:l[i]? = some y):y.path=p:=by
 obtain⟨h1,h2,_⟩:=List.findIdx?_eq_some_iff_getElem.1 hi;rw[List.getElem?_eq_getElem h1]at hy;simp only[Option.some.injEq]at hy;rw[←hy];simpa using h2
theorem UW (hd:aS d=true){i:Nat}{y:aj}{p:Bs}(hi:cD d.tree p=some i)(hy:d.tree[i]? = some y):fileAt d.tree p= !y.dir:=by
 have hp:=K8 hi hy;unfold fileAt;rw[Bool.eq_iff_iff,List.any_eq_true];constructor
 ·rintro⟨z,hz,hc⟩;simp only[Bool.and_eq_true,decide_eq_true_eq]at hc;have:=Tu (AL hd).d_ hz (List.mem_of_getElem? hy)<|hc.1.trans hp.symm;rw[←this];exact hc.2
 ·intro h;exact⟨y,List.mem_of_getElem? hy,by simp[hp,h]⟩
theorem afZ {p:Bs}(h:cD d.tree p=none):fileAt d.tree p=false:=by
 unfold fileAt;rw[List.any_eq_false];intro z hz;have:=List.findIdx?_eq_none_iff.1 h z hz;simp only[decide_eq_false_iff_not]at this;simp[this]
end
section
variable {d d1:aK} {p:Bs} {o:iM}
theorem ae6 (h:nF d p=some d1):∃v,o0 d.store d.tree p=some v∧d1=sN d v:=by
 unfold nF at h;split at h
 ·cases e:o0 d.store d.tree p with
  | none=>rw[e]at h;cases h
  | some v=>rw[e]at h;exact⟨v,rfl,(Option.some.inj h).symm⟩
 ·cases h
theorem ae8 (h:nG d p=some d1):∃v,lK d.store d.tree p=some v∧d1=sN d v:=by
 unfold nG at h;split at h
 ·cases e:lK d.store d.tree p with
  | none=>rw[e]at h;cases h
  | some v=>rw[e]at h;exact⟨v,rfl,(Option.some.inj h).symm⟩
 ·cases h
theorem J2 (h:gY o=true)(k:o.kind=1):bV d o=nF d o.path:=by rw[J4 h,if_pos k]
theorem RZ (h:gY o=true)(k1:¬o.kind=1)(k:o.kind=2):bV d o=iw d o.path o.bytes:=by rw[J4 h,if_neg k1,if_pos k]
theorem J3 (h:gY o=true)(k1:¬o.kind=1)(k2:¬o.kind=2)(k:o.kind=3):bV d o=nG d o.path:=by rw[J4 h,if_neg k1,if_neg k2,if_pos k]
theorem R0 (h:gY o=true)(k1:¬o.kind=1)(k2:¬o.kind=2)(k3:¬o.kind=3):bV d o=cT d o.path:=by rw[J4 h,if_neg k1,if_neg k2,if_neg k3]
end
section
variable {d:aK} {x:ga} {i:Nat} {y:aj}
theorem afh (hi:cD d.tree x.path=some i)(hy:d.tree[i]? = some y)(qi:y.dir=x.dir)(hb:x.bytes=[])(h:im d.tree x.path=none):l_ d x=none:=by
 rw[aaW hi hy (K8 hi hy) qi hb];simp[lK,h]
theorem afi (hi:cD d.tree x.path=some i)(hy:d.tree[i]? = some y)(qi:y.dir=x.dir)(hb:x.bytes=[])(h:(im d.tree x.path).isSome=true):l_ d x=some ⟨(fo d.store y.ids).getD [],(im d.tree x.path).getD [],d.aw⟩:=by
 obtain⟨t,ht⟩:=Option.isSome_iff_exists.1 h;rw[aaW hi hy (K8 hi hy) qi hb];simp[lK,ht,hi,hy,sN]
end
theorem FY {t:List aj}{p:Bs}(h:0≤iS t p):∃(i:Nat) (y:aj),cD t p=some i∧iS t p=(i:Int)∧i<t.length∧t[i]? = some y:=by
 obtain⟨i,x,h1,h2,h3,h4,_⟩:=oh (l:=t) (p:=fun(z:aj)=>decide (z.path=p)) h;exact⟨i,x,h1,h2,h3,h4⟩
section
variable {d:aK} {x:ga}
theorem BS {t:List aj}{p:Bs}(h:¬0≤iS t p):cD t p=none:=oo (by (have h:¬0≤dV (cD t p):=h);show dV (cD t p)<0;omega)
theorem atb (hd:aS d=true)(hk:x.kind=1∨x.kind=3)(h:decide (0≤iS d.tree x.path)≠decide (x.kind=3)):jy d x=none:=by
 unfold jy;by_cases ha:0≤iS d.tree x.path
 ·obtain⟨i,y,hi,_⟩:=FY ha;have h3:¬x.kind=3:=fun e=>h (by simp[ha,e]);simp[h3,hi]
 ·have h3:x.kind=3:=by
   rcases hk with e|e
   ·exact absurd (by simp[ha,e]) h
   ·exact e
  simp[h3,afZ<|BS ha]
theorem as7 (hd:aS d=true){i:Nat}{y:aj}(hi:cD d.tree x.path=some i)(hy:d.tree[i]? = some y)(h3:x.kind=3)(h:x.dir=true∨y.dir=true):jy d x=none:=by
 unfold jy;rcases h with h|h
 ·simp[h3,h]
 ·simp[h3,UW hd hi hy,h]
theorem as9 (h3:x.kind=1)(ha:¬0≤iS d.tree x.path)(h:x.dir=false):jy d x=iw d x.path x.bytes:=by
 unfold jy;simp[h3,BS ha,h]
theorem as_ (hd:aS d=true){i:Nat}{y:aj}(hi:cD d.tree x.path=some i)(hy:d.tree[i]? = some y)(h3:x.kind=3)(h:x.dir=false)(qi:y.dir=false):jy d x=iw d x.path x.bytes:=by
 unfold jy;simp[h3,UW hd hi hy,h,qi]
theorem RF (h3:x.kind=1)(ha:¬0≤iS d.tree x.path)(h:x.dir=true):jy d x=if x.bytes=[] then(dZ d.tree ⟨x.path,true,[]⟩).map (fun t=>⟨d.store,t,d.aw⟩) else none:=by
 unfold jy;simp only[h3,BS ha,h,o0];cases dZ d.tree ⟨x.path,true,[]⟩<;>simp[sN]
end
section
variable {d:aK} {x:ga}
theorem as8 (h3:x.kind=3)(h:x.dir=true):jy d x=none:=by
 unfold jy;simp[h3,h]
theorem ata (h:decide (0≤iS d.tree x.path)=decide (x.kind=3)):0≤iS d.tree x.path↔x.kind=3:=by simpa using h
end
section
variable {d e e1:aK} {l:List iM} {o:iM} {k:Nat}
theorem ark (h:l[k]? = some o)(hr:bV e o=some e1):sy e (l.drop k)=((sy e1<|l.drop<|k+1).1,(sy e1<|l.drop<|k+1).2+1):=by
 have hk:=(List.getElem?_eq_some_iff.1 h);rw[List.drop_eq_getElem_cons hk.1,hk.2];simp only[sy,hr]
def sP (d:aK)(l:List iM)(k:Nat)(e:aK):Prop:=sy d l=((sy e<|l.drop k).1,(sy e<|l.drop k).2+k)
theorem sP.zero:sP d l 0 d:=by simp[sP]
theorem sP.step (h:sP d l k e)(hz:l[k]? = some o)(hr:bV e o=some e1):sP d l (k+1) e1:=by
 unfold sP at h ⊢;rw[h,ark hz hr];simp;omega
theorem sP.done (h:sP d l k e)(hk:l.length≤k):sy d l=(e,k):=by
 unfold sP at h;rw[h,List.drop_of_length_le hk];simp[sy]
end
theorem K6 {l:List aj}(vl:VT l)(q:Bs)(k:Nat)(hk:1≤k):∀(n:Nat) {z:aj},(cut z.path).length≤n→z ∈ l→k≤(cut z.path).length→cut q=(cut z.path).take k→∃y,y ∈ l∧y.path=q
 | 0,z,hn,_,h1,_=>by omega
 | n+1,z,hn,hz,h1,h2=>by
  by_cases he:k=(cut z.path).length
  ·exact⟨z,hz,AI<|by rw[h2,he,List.take_length]⟩
  ·rcases vl.home z hz with h|⟨y,hy,Yd,_⟩
   ·omega
   ·have hl:(cut y.path).length=(cut z.path).length-1:=by rw[Yd,List.length_dropLast]
    refine K6 vl q k hk n (z:=y) (by omega) hy (by omega) ?_;rw[h2,Yd,List.dropLast_eq_take,List.take_take];congr 1;omega
theorem abX {p f:Bs}(hf:f≠[])(h:dO p f=true):p=f∨∃u,p=f++47::u:=by
 unfold dO at h;simp only[Bool.or_eq_true,decide_eq_true_eq,List.isPrefixOf_iff_prefix]at h;rcases h with (h|h)|h
 ·exact absurd h hf
 ·exact .inl h
 ·obtain⟨u,hu⟩:=h;exact .inr ⟨u,by rw[←hu];simp⟩
theorem aaG {p:Bs}(h:cB p=true):p≠[]:=fun e=>by rw[e]at h;revert h;decide
theorem JN {p f t o:Bs}(h:gb p f t=some o):(p=f∧o=t)∨∃u,p=f++47::u∧o=t++47::u:=by
 unfold gb at h;split at h
 ·rename_i hc;simp only[Bool.and_eq_true]at hc;split at h
  ·simp only[Option.some.injEq]at h;subst h;rcases abX (aaG hc.1.1.2) hc.2 with h|⟨u,h⟩
   ·subst h;exact .inl ⟨rfl,by simp⟩
   ·refine .inr ⟨u,h,?_⟩;rw[h,List.drop_left]
  ·cases h
 ·cases h
theorem atc {p q f t o:Bs}(h1:gb p f t=some o)(h2:gb q f t=some o):p=q:=by
 rcases JN h1 with ⟨a,b⟩|⟨u,a,b⟩<;>rcases JN h2 with ⟨a',b'⟩|⟨u',a',b'⟩
 ·rw[a,a']
 ·rw[b]at b';have:=congrArg List.length b';simp at this
 ·rw[b']at b;have:=congrArg List.length b;simp at this
 ·rw[b]at b';have:=List.append_cancel_left b';simp only[List.cons.injEq,true_and]at this;rw[a,a',this]
section
variable {l c s r:List aj} {f t:Bs}
theorem Gi (h:jg l f t=true):VT l∧cB f=true∧cB t=true∧(cD l f).isSome=true∧dO t f=false∧cD l t=none:=by
 simp only[jg,Bool.and_eq_true,Bool.not_eq_true',Option.isNone_iff_eq_none]at h;obtain⟨⟨⟨⟨⟨h1,h2⟩,h3⟩,h4⟩,h5⟩,h6⟩:=h;exact⟨jI.1 h1,h2,h3,h4,h5,h6⟩
theorem Cx (hc:fR l f t=some c):c=(l.filter<|fun x=>dO x.path f).map (mH f t)∧∀y,y ∈ c→∃x,x ∈ l∧dO x.path f=true∧y=mH f t x∧gb x.path f t=some y.path:=by
 unfold fR at hc;split at hc
 ·rename_i ha;simp only[Option.some.injEq]at hc;refine⟨hc.symm,fun y hy=>?_⟩;rw[←hc]at hy;obtain⟨x,hx,rfl⟩:=List.mem_map.1 hy;rw[List.all_eq_true]at ha;obtain⟨o,ho⟩:=Option.isSome_iff_exists.1<|ha x hx;obtain⟨h1,h2⟩:=List.mem_filter.1 hx;exact⟨x,h1,h2,rfl,by simp[mH,ho]⟩
 ·cases hc
theorem aeT (dT:jg l f t=true)(hc:fR l f t=some c){y:aj}(hy:y ∈ c):∀z,z ∈ l→z.path≠y.path:=fun z hz e=>by
 obtain⟨vl,_,gI,_,_,aP⟩:=Gi dT;obtain⟨x,_,_,_,hm⟩:=(Cx hc).2 y hy;have En:=(kx vl.d_ (p:=t)).2.2 aP;rcases JN hm with ⟨_,h⟩|⟨u,_,h⟩
 ·exact En z hz<|e.trans h
 ·have DR:cut z.path=cut t++cut u:=by rw[e,h,CB]
  have h1:1≤(cut t).length:=List.length_pos_iff.2<|lx t;obtain⟨w,hw,Fv⟩:=K6 vl t (cut t).length h1 _ (Nat.le_refl _) hz (by rw[DR,List.length_append];omega) (by rw[DR,List.take_left]);exact En w hw Fv
theorem aeU (dT:jg l f t=true)(hc:fR l f t=some c):((c++l).map (·.path)).Nodup:=by
 obtain⟨vl,_⟩:=Gi dT;have hl:(l.map (·.path)).Nodup:=List.pairwise_map.2 (vl.d_.imp<|fun h=>nY h);rw[List.map_append,List.nodup_append];refine⟨?_,hl,fun a ha b hb e=>?_⟩
 ·rw[(Cx hc).1,List.map_map];have h1:=vl.d_.filter<|fun x=>dO x.path f;refine List.pairwise_map.2 (h1.imp_of_mem<|fun {a b} ha hb MS e=>?_)
  have hm:∀x,x ∈ l.filter (fun x=>dO x.path f)→gb x.path f t=some (mH f t x).path:=fun x hx=>by
   obtain⟨x',_,_,h4,h5⟩:=(Cx hc).2 (mH f t x) (by rw[(Cx hc).1];exact List.mem_map.2 ⟨x,hx,rfl⟩);unfold fR at hc;split at hc
   ·rename_i ha;rw[List.all_eq_true]at ha;obtain⟨o,ho⟩:=Option.isSome_iff_exists.1<|ha x hx;simp[mH,ho]
   ·cases hc
  have e2:(mH f t a).path=(mH f t b).path:=e;exact nY MS (atc (hm a ha)<|by rw[e2];exact hm b hb)
 ·obtain⟨y,hy,rfl⟩:=List.mem_map.1 ha;obtain⟨z,hz,rfl⟩:=List.mem_map.1 hb;exact aeT dT hc hy z hz e.symm
theorem aaF:∀(c:List aj) {l:List aj},l.Pairwise fS→((c++l).map (·.path)).Nodup→∃r,ct mM c (some l)=some r
 | [],l,_,_=>⟨l,rfl⟩
 | x::c,l,hl,hn=>by
  have xn:(x.path::(c++l).map (·.path)).Nodup:=hn;obtain⟨h1,h2⟩:=List.nodup_cons.1 xn;have aP:cD l x.path=none:=by
   cases e:cD l x.path with
   | none=>rfl
   | some i =>
    obtain⟨y,g1,g2⟩:=(kx hl (p:=x.path)).1 i e;exact absurd (List.mem_map.2 ⟨y,List.mem_append.2<|.inr<|List.mem_of_getElem? g1,g2⟩) h1
  have hp:mM l x=some (iT l x):=by simp[mM,aP]
  obtain⟨g1,g2,_⟩:=aau hl hp;rw[rM hp];refine aaF c g1 ?_;have tC:(c++iT l x).Perm (x::(c++l)):=(List.Perm.append_left c g2).trans List.perm_middle;exact(tC.map (·.path)).nodup_iff.2 hn
theorem aev (dT:jg l f t=true)(hc:fR l f t=some c)(hp:s.Perm (c++l))(hs:s.Pairwise (fun a b=>lt b.path a.path=false)):fq l f t=if cU s then some s else none:=by
 obtain⟨vl,_⟩:=Gi dT;have hn:=aeU dT hc;obtain⟨r,hr⟩:=aaF c vl.d_ hn;obtain⟨ra,rp⟩:=R9 c vl.d_ hr;have gl:(s.map (·.path)).Nodup:=(hp.map (·.path)).nodup_iff.2 hn;have hsa:s.Pairwise fS:=by
  have h2:=hs.and<|List.pairwise_map.1 gl;refine h2.imp<|fun {a b} h=>?_;rcases xJ a.path b.path with g|g|g
  ·exact g
  ·exact absurd g h.2
  ·rw[h.1]at g;cases g
 have e:s=r:=adT hsa ra<|fun y=>(hp.trans rp.symm).mem_iff;unfold fq py;rw[if_pos dT,hc,Option.bind_some,hr,Option.bind_some,e]
theorem Lm (h:jg l f t=false):fq l f t=none:=by simp[fq,h]
theorem TU (h:fR l f t=none):fq l f t=none:=by
 unfold fq;split
 ·rw[h];rfl
 ·rfl
end
theorem abW {p dir:Bs}(h:dir=[]∨p=dir):dO p dir=true:=by
 rcases h with h|h<;>simp[dO,h]
theorem SY {p dir:Bs}(h1:dir≠[])(h2:p≠dir):dO p dir=(decide (dir.length<p.length)&&decide (p.take dir.length=dir)&&decide (p[dir.length]? = some 47)):=by
 unfold dO;rw[R6,List.length_append,List.length_singleton,decide_eq_false h1,decide_eq_false h2,Bool.false_or,Bool.false_or,Bool.eq_iff_iff];simp only[Bool.and_eq_true,decide_eq_true_eq];constructor
 ·rintro⟨h3,h4⟩;have h5:p=(dir++[47])++p.drop (dir.length+1):=by
   conv=>lhs;rw[←List.take_append_drop (dir.length+1) p,h4]
  refine⟨⟨by omega,?_⟩,?_⟩
  ·rw[h5];simp
  ·rw[h5];simp
 ·rintro⟨⟨h3,h4⟩,h5⟩;refine⟨by omega,?_⟩;rw[gZ h5,h4]
theorem awL {p dir:Bs}{c:UInt8}(h1:dir≠[])(h2:p≠dir)(h3:dir.length<p.length)(h4:p.take dir.length=dir)(h5:p[dir.length]? = some c):dO p dir=decide ((c.toNat:Int)=47):=by
 rw[SY h1 h2,decide_eq_true h3,decide_eq_true h4,h5,Bool.true_and,Bool.true_and,Bool.eq_iff_iff];simp only[decide_eq_true_eq,Option.some.injEq];constructor
 ·rintro rfl;rfl
 ·intro h;exact UInt8.toNat.inj (by show c.toNat=47;omega)
section
variable {d:aK} {p:Bs} {n m:Int} {q:GW}
variable {l:List GW}
end
theorem abY {p f:Bs}(h:dO p f=true):f.length≤p.length:=by
 simp only[dO,Bool.or_eq_true,decide_eq_true_eq]at h;rcases h with (rfl|rfl)|h
 ·simp
 ·exact Nat.le_refl _
 ·have:=(List.isPrefixOf_iff_prefix.1 h).length_le;simp at this;omega
theorem Gy {p f:Bs}(hf:cB f=true):nK p f=(cB p&&dO p f):=by simp[nK,hf]
theorem rn {p f:Bs}(hp:cB p=true)(hf:cB f=true):nK p f=dO p f:=by simp[nK,hf,hp]
theorem ZH {p f t:Bs}(h1:cB p=true)(h2:cB f=true)(h3:cB t=true)(h4:dO p f=true)(h5:cB (t++p.drop f.length)=true):gb p f t=some (t++p.drop f.length):=by simp[gb,h1,h2,h3,h4,h5]
theorem wc {p f t:Bs}(h:cB p=false∨cB f=false∨cB t=false∨dO p f=false∨cB (t++p.drop f.length)=false):gb p f t=none:=by
 rcases h with h|h|h|h|h<;>simp[gb,h]
theorem ZG (p f t:Bs):((gb p f t).getD []).length≤16777216:=by
 unfold gb;split
 ·split
  ·next h=>have:=xS h;simp only[Option.getD_some];omega
  ·simp
 ·simp
def rH (f t:Bs)(l:List aj):List aj:=(l.filter<|fun x=>dO x.path f).map<|mH f t
theorem Ua {f t:Bs}{l:List aj}{k:Nat}{z:aj}(hz:l[k]? = some z)(h:dO z.path f=true):rH f t (l.take<|k+1)=rH f t (l.take k)++[mH f t z]:=by
 rw[gZ hz];simp[rH,List.filter_append,h]
theorem Ub {f t:Bs}{l:List aj}{k:Nat}{z:aj}(hz:l[k]? = some z)(h:dO z.path f=false):rH f t (l.take<|k+1)=rH f t (l.take k):=by
 rw[gZ hz];simp[rH,List.filter_append,h]
theorem Lw (f t:Bs)(l:List aj):(rH f t l).length≤l.length:=by
 simp only[rH,List.length_map];exact List.length_filter_le _ _
def Cw (f t:Bs)(l:List aj):Prop:=∀x,x ∈ l→dO x.path f=true→(gb x.path f t).isSome=true
theorem Hr {f t:Bs}{l:List aj}{k:Nat}{z:aj}(hz:l[k]? = some z)(ha:Cw f t (l.take k))(h:dO z.path f=true→(gb z.path f t).isSome=true):Cw f t (l.take<|k+1):=by
 intro x hx hw;rw[gZ hz]at hx;rcases List.mem_append.1 hx with hx|hx
 ·exact ha x hx hw
 ·simp only[List.mem_cons,List.not_mem_nil,or_false]at hx;subst hx;exact h hw
theorem Ud {f t:Bs}{l:List aj}{k:Nat}(ha:Cw f t (l.take k))(hk:k=l.length):fR l f t=some (rH f t l):=by
 subst hk;rw[List.take_length]at ha;unfold fR;rw[if_pos]
 ·rfl
 ·simp only[List.all_eq_true,List.mem_filter,and_imp];exact ha
theorem Uc {f t:Bs}{l:List aj}{k:Nat}{z:aj}(hz:l[k]? = some z)(h:dO z.path f=true)(hn:(gb z.path f t).isSome=false):fR l f t=none:=by
 unfold fR;rw[if_neg];intro ha;simp only[List.all_eq_true,List.mem_filter,and_imp]at ha;have:=ha z (List.mem_of_getElem? hz) h;rw[hn]at this;cases this
theorem Ue {f t:Bs}{l c:List aj}(h:fR l f t=some c):c.length≤l.length:=by
 unfold fR at h;split at h
 ·obtain rfl:=Option.some.inj h;exact Lw f t l
 ·cases h
theorem auH {l:List aj}{x:aj}(h:iS l x.path<0):mM l x=some (iT l x):=by
 have e:cD l x.path=none:=BS (by omega);simp[mM,e]
theorem auG {l:List aj}{x:aj}(h:0≤iS l x.path):mM l x=none:=by
 unfold mM;cases e:cD l x.path with
 | none=>have h:0≤dV (cD l x.path):=h;rw[e]at h;simp[dV]at h
 | some i=>rfl
theorem BQ {l:List aj}{p:Bs}:decide (0≤iS l p)=(cD l p).isSome:=by
 show decide (0≤dV (cD l p))=_;cases cD l p with
 | none=>rfl
 | some i=>simp[dV]
theorem BR {l:List aj}{p:Bs}:decide (iS l p<0)=(cD l p).isNone:=by
 show decide (dV (cD l p)<0)=_;cases cD l p with
 | none=>rfl
 | some i=>exact decide_eq_false (by show¬((i:Int)<0);omega)
theorem at6 {l:List aj}{f t:Bs}(h:jg l f t=true):cU l=true:=by
 simp only[jg,Bool.and_eq_true]at h;exact h.1.1.1.1.1
theorem aat:∀(c:List aj) {l r:List aj},ct mM c (some l)=some r→r.length≤l.length+c.length
 | [],l,r,h=>by
  simp only[ct,List.foldl_nil,Option.some.injEq]at h;subst h;simp
 | x::c,l,r,h=>by
  cases e:mM l x with
  | none =>
   unfold ct at h;simp only[List.foldl_cons,Option.bind_some,e]at h;have:=rN (f:=mM) c;unfold ct at this;rw[this]at h;cases h
  | some q =>
   rw[rM e]at h;have h1:=aat c h;have h2:q.length≤l.length+1:=by
    unfold mM at e;split at e
    ·cases e
    ·obtain rfl:=Option.some.inj e;exact FX l x
   simp only[List.length_cons];omega
theorem arQ (l c:List aj):((py l c).getD []).length≤l.length+c.length:=by
 unfold py;cases e:ct mM c (some l) with
 | none=>simp
 | some r =>
  have:=aat c e;simp only[Option.bind_some];split
  ·simpa using this
  ·simp
theorem Uf (l:List aj)(f t:Bs):((fR l f t).getD []).length≤l.length:=by
 cases e:fR l f t with
 | none=>simp
 | some c=>exact Ue e
theorem ok_eq {l:List aj}{f t:Bs}(hv:cU l=true):jg l f t=(cB f&&cB t&&yR l f&& !dO t f&& !yR l t):=by
 have e:(cD l t).isNone= !(cD l t).isSome:=by cases cD l t<;>rfl
 simp only[jg,yR,hv,Bool.true_and,e]
theorem BK {l:List aj}{k:Nat}{z:aj}(hv:cU l=true)(hz:l[k]? = some z):cB z.path=true:=tP<|(jI.1 hv).ok z<|List.mem_of_getElem? hz
def kQ (l:List aj)(f t:Bs):Option (List aj):=if jg l f t then fR l f t else none
theorem GL {l:List aj}{f t:Bs}(h:jg l f t=false):kQ l f t=none:=by simp[kQ,h]
theorem abB {l:List aj}{f t:Bs}(h:jg l f t=true):kQ l f t=fR l f t:=by simp[kQ,h]
theorem av6 {l c:List aj}{f t:Bs}(h:kQ l f t=some c):jg l f t=true∧fR l f t=some c:=by
 unfold kQ at h;split at h
 ·next h1=>exact⟨h1,h⟩
 ·cases h
theorem av7 (l:List aj)(f t:Bs):((kQ l f t).getD []).length≤l.length:=by
 unfold kQ;split
 ·exact Uf l f t
 ·simp
theorem aex {l:List aj}{f t:Bs}(h:kQ l f t=none):fq l f t=none:=by
 unfold kQ at h;split at h
 ·exact TU h
 ·next h1=>exact Lm (by simpa using h1)
theorem aer {l:List aj}{f t:Bs}(h:cU l=false):fq l f t=none:=Lm (by simp[jg,h])
theorem aew {l s:List aj}{f t:Bs}(h:(kQ l f t).isSome=true)(hp:s.Perm ((kQ l f t).getD []++l))(hs:s.Pairwise (fun a b=>lt b.path a.path=false)):fq l f t=if cU s then some s else none:=by
 obtain⟨c,hc⟩:=Option.isSome_iff_exists.1 h;obtain⟨h1,h2⟩:=av6 hc;rw[hc]at hp;exact aev h1 h2 hp hs
theorem ari {α:Type}(b:Bool)(s:α):(if b=true then some s else none).isSome=b:=by cases b<;>rfl
theorem arh {α:Type}(b:Bool)(s:List α):(if b=true then some s else none).getD []=if b=true then s else[]:=by cases b<;>rfl
theorem awf {L:List ao}(hV:VH L)(a:Int):us L a≤999:=by
 by_cases h:0<us L a
 ·exact(rQ hV<|(qz hV).1 h).2.2.2
 ·omega
theorem YW {L K:List ao}{t t':List aj}(hV:VH L)(hi:∀x,x ∈ t→dh L x.ids=true)(hp:t.Perm t')(h:eG L t=some K):eG L t'=some K:=by
 obtain⟨k1,k2⟩:=FR t hV h
 obtain⟨K',hk⟩:=QN t' hV (fun x hx=>hi x<|hp.mem_iff.2 hx) (fun a=>by
  have h1:=(k2 a).1;have h2:=awf k1 a;have h3:=uJ hp a;omega)
 obtain⟨g1,g2⟩:=FR t' hV hk;rw[hk,awG k1 g1 (fun a=>by rw[(g2 a).1,(k2 a).1,uJ hp a])<|fun a _=>by rw[(g2 a).2,(k2 a).2]]
theorem art {L:List ao}{t t':List aj}(hV:VH L)(hi:∀x,x ∈ t→dh L x.ids=true)(hp:t.Perm t'):eG L t=eG L t':=by
 cases e:eG L t with
 | some K=>exact(YW hV hi hp e).symm
 | none =>
  cases e':eG L t' with
  | none=>rfl
  | some K =>
   have:=YW hV (fun x hx=>hi x<|hp.mem_iff.2 hx) hp.symm e';rw[e]at this;cases this
theorem atk {l:List aj}{f t:Bs}(dT:jg l f t=true){z:aj}(hz:z ∈ l):dO z.path t=false:=by
 obtain⟨vl,_,gI,_,_,aP⟩:=Gi dT;have En:=(kx vl.d_ (p:=t)).2.2 aP;cases h:dO z.path t with
 | false=>rfl
 | true =>
  rcases abX (aaG gI) h with h|⟨u,h⟩
  ·exact absurd h<|En z hz
  ·have DR:cut z.path=cut t++cut u:=by rw[h,CB]
   have h1:1≤(cut t).length:=List.length_pos_iff.2<|lx t;obtain⟨w,hw,Fv⟩:=K6 vl t (cut t).length h1 _ (Nat.le_refl _) hz (by rw[DR,List.length_append];omega) (by rw[DR,List.take_left]);exact absurd Fv<|En w hw
theorem aeV {l c:List aj}{f t:Bs}(hc:fR l f t=some c){y:aj}(hy:y ∈ c):dO y.path t=true:=by
 obtain⟨x,_,_,_,hm⟩:=(Cx hc).2 y hy;rcases JN hm with ⟨_,h⟩|⟨u,_,h⟩
 ·simp[dO,h]
 ·have:(t++[47]).isPrefixOf y.path=true:=by
   rw[h,List.isPrefixOf_iff_prefix];exact⟨u,by simp⟩
  simp[dO,this]
theorem aep {l r c:List aj}{f t:Bs}(h:fq l f t=some r)(hc:fR l f t=some c):(r.filter<|fun x=>dO x.path t).Perm c:=by
 obtain⟨dT,c',Dq,_,hp,_,_⟩:=Cu h;rw[hc]at Dq;cases Dq;refine(hp.filter _).trans ?_;rw[List.filter_append,List.filter_eq_self.2<|fun y hy=>aeV hc hy,List.filter_eq_nil_iff.2<|fun z hz=>by rw[atk dT hz];simp,List.append_nil]
theorem aet {d:aK}{r:List aj}{f t:Bs}(hd:aS d=true)(h:fq d.tree f t=some r):eG d.store (r.filter<|fun x=>dO x.path t)=eG d.store ((fR d.tree f t).getD []):=by
 obtain⟨_,c,hc,_,hp,No,_⟩:=Cu h;have hH:=(gz.1 hd).2;have Ip:d.tree ∈ eQ d:=by simp[eQ]
 have hq:=aep h hc;rw[hc];refine art hH.vh (fun x hx=>?_) hq;obtain⟨z,hz,_,rfl⟩:=Ug No<|hq.mem_iff.1 hx;exact hH.ids d.tree Ip z hz
theorem TV {d:aK}{r:List aj}{f t:Bs}(hd:aS d=true)(h:fq d.tree f t=some r):dj d f t=(eG d.store<|r.filter<|fun x=>dO x.path t).map (fun s=>⟨s,r,d.aw⟩):=by
 rw[aet hd h];simp[dj,hd,h]
theorem aeu {d:aK}{f t:Bs}(h:fq d.tree f t=none):dj d f t=none:=by
 simp[dj,h]
def qj (t:Bs)(s:List ao)(x:aj):Option (List ao):=if dO x.path t then lh s x else some s
theorem Ju (t:Bs):∀(l:List aj) (s:List ao),ct (qj t) l (some s)=eG s (l.filter<|fun x=>dO x.path t)
 | [],s=>rfl
 | x::l,s=>by
  cases h:dO x.path t with
  | false =>
   rw[rM<|show qj t s x=some s by simp[qj,h],Ju t l s];simp[h]
  | true =>
   rw[List.filter_cons,if_pos h];unfold eG;cases e:lh s x with
   | none =>
    have h1:=rN (f:=qj t) l;have h2:=rN (f:=lh) (l.filter<|fun x=>dO x.path t);unfold ct at *;simp only[List.foldl_cons,Option.bind_some,show qj t s x=lh s x by simp[qj,h],e,h1,h2]
   | some q =>
    rw[rM<|show qj t s x=some q by simp[qj,h,e],rM e];exact Ju t l q
theorem arp {t:Bs}{s:List ao}{x:aj}(h:dO x.path t=false):qj t s x=some s:=by simp[qj,h]
theorem YS {t:Bs}{s:List ao}{x:aj}(h:dO x.path t=true):qj t s x=lh s x:=by simp[qj,h]
theorem aey {l r:List aj}{f t:Bs}(h:fq l f t=some r):cU r=true∧cB t=true:=by
 obtain⟨dT,c,_,vr,_⟩:=Cu h;exact⟨jI.2 vr,(Gi dT).2.2.1⟩
theorem aes {d d1:aK}{f t:Bs}(h:dj d f t=some d1):aS d=true:=(Ll h).1
end Sp
namespace Fw
open Go
section
variable {w0 w:World} {G0 G:PH} {S:List Nat} {B:List aW}
theorem Hp.YR (H:Hp w0 G0 S w G B){k b:Nat}{l:List Value}{e:TypeId}(hk:nth B k=some (ai b<|cl l e))(hS:b ∉ S):∃G',Hp w0 G0 S w G' (ez B k)∧an G G'∧fw G' b 0 l:=by
 obtain⟨H',hp⟩:=H.BL hk (fun c hc=>by
  have:c=b:=by simpa [ai] using hc
  rw[this];exact hS)
 exact⟨_,H',cW.le _ _ _,qs hp⟩
theorem Hp.aro {NT PT:TypeId}(H:Hp w0 G0 S w G B){k:Nat}{F:Fr}{t:Nd}(hk:nth B k=some (aA F))(hS:∀b,b ∈ dm F→b ∉ S)(h:bP NT PT G t F):∃G',Hp w0 G0 S w G' (ez B k)∧an G G'∧e9 G' t:=by
 have hn:=j0 H hk;obtain⟨G',H',h1,h2⟩:=H.j_ hk hS;exact⟨G',H',h1,bP.rd h1 h h2 hn⟩
end
theorem kU.up {G G':PH}{l:List Nd}(h:kU G l)(hle:an G G'):kU G' l:=kU.o7 hle h
abbrev sC (l:List UInt8):List Value:=l.map fun b=>Value.int .u8 b.toNat
theorem Sg (l:List UInt8):Go.Lib.strCells ⟨l.toArray⟩=sC l:=by simp[Go.Lib.strCells,sC]
theorem ru (l:List UInt8):(⟨l.toArray⟩:ByteArray).size=l.length:=by simp[ByteArray.size]
theorem ave (l:List UInt8):∀u ∈ sC l,u.oneCell'=true:=by
 intro u hu;simp only[sC,List.mem_map]at hu;obtain⟨_,_,rfl⟩:=hu;rfl
def buf (e:TypeId)(v:Value)(l:List UInt8):aW where
 fp:=match v with
  | .slice (some a) _ _=>[a.block]
  | _=>[]
 pred h:=(v= .slice none 0 0∧l=[]) ∨
  ∃b cap C,v= .slice (some ⟨b,0,none⟩) l.length cap∧h b=some (.cells C e (0,0))∧l.length≤cap∧cap≤maxLen∧C.size=cap∧C.toList.take l.length=sC l
 loc h h' e p:=by
  rcases p with p|⟨b,cap,C,rfl,p1,p2⟩
  ·exact .inl p
  ·exact .inr ⟨b,cap,C,rfl,by rw[←e b<|by simp];exact p1,p2⟩
 yu h p b hb:=by
  rcases p with ⟨rfl,_⟩|⟨b',cap,C,rfl,p1,_⟩
  ·simp at hb
  ·simp at hb;subst hb;exact⟨_,p1⟩
theorem wN (e:TypeId)(l:List UInt8):(buf e (.slice none 0 0) l).fp=[]:=rfl
theorem pO (e:TypeId)(m k:Nat)(a:Addr)(l:List UInt8):(buf e (.slice (some a) m k) l).fp=[a.block]:=rfl
section
variable {P:Program} {w w0:World} {G0:PH} {S:List Nat} {G:PH} {B:List aW}
theorem au8 (H:Hp w0 G0 S w G B){k:Nat}{t u ty e:TypeId}{i:TypeInfo}(ht:P.underlying t=some (.slice e))(hu:P.underlying u=some .string)(hi:P.info? e=some i)(hz:i.zero=some (.int .u8 0))
  (q5:i.size=1) (iZ:i.bytes=1) {v:Value} {x:List UInt8} (hk:nth B k=some (buf e v x)) (l:List UInt8) (hn:x.length+l.length≤2199023255552) :
  ∃v' w',(Builtin.append_ #[t,u] ty #[v,str l]).run P w= .ok v' w'∧Hp w0 G0 S w' G (bq B k<|buf e v'<|x++l):=by
 have oP:=(H.own _<|eO hk).1;obtain⟨n,my⟩:∃n,n=x.length:=⟨_,rfl⟩;obtain⟨xs,cm⟩:∃xs,xs=sC x:=⟨_,rfl⟩;have gm:xs.length=n:=by rw[cm,my];simp
 have hlen:xs.length+l.length=(x++l).length:=by simp[gm,my]
 have vk:n+l.length=(x++l).length:=by simp[my]
 have kI:sC (x++l)=xs++sC l:=by rw[cm];simp
 have xB:(xs++sC l).length=(x++l).length:=by simp[gm,my]
 rw[←my]at hn;have OA:n+l.length≤maxLen:=by simp only[maxLen];omega
 have grown:∀(cO:Nat),cO<n+l.length →
   Hp w0 G0 S (w.drew.alloc<|.cells (xs.toArray++(sC l).toArray++Builtin.zeroCells (Value.int .u8 0).cells (grownCap w (n+l.length) cO e-(n+l.length))) e) G
    (bq B k<|buf e (.slice (some ⟨w.heap.size,0,none⟩) (n+l.length)<|grownCap w (n+l.length) cO e)<|x++l):=by
  intro cO ho;have c7:=grownCap_ge w (n+l.length) cO e;have nO:grownCap w (n+l.length) cO e≤maxLen:=grownCap_le_maxLen w (n+l.length) cO e OA;have E:=Ext.Hx w<|.cells (xs.toArray++(sC l).toArray++Builtin.zeroCells (Value.int .u8 0).cells (grownCap w (n+l.length) cO e-(n+l.length))) e;refine H.upd hk E.os E.tape E.output E.size (fun b hb _=>E.block b hb) _ (.inr ⟨w.heap.size,_,(xs.toArray++(sC l).toArray++Builtin.zeroCells (Value.int .u8 0).cells (grownCap w (n+l.length) cO e-(n+l.length))),(by rw[vk]),?_,(by rw[←vk];exact c7),nO,?_,?_⟩) ?_ (by simp[pO])
  ·exact sT w.drew _
  ·have iG:(Value.int IntKind.u8 0).cells.size=1:=rfl;simp only[Array.size_append,List.size_toArray,KC,iG,gm,List.length_map];omega
  ·simp only[Array.toList_append,List.append_assoc];rw[←List.append_assoc,←xB,kI];exact List.take_left
  ·intro b hb;simp[pO]at hb;right;omega
 rcases oP with ⟨rfl,Fy⟩|⟨g,cap,cur,rfl,hg,Ei,nO,r3,pr⟩
 ·obtain rfl:n=0:=by rw[my,Fy];rfl
  have hx:xs=[]:=List.eq_nil_of_length_eq_zero gm;subst hx;by_cases hm:l.length=0
  ·have hl:l=[]:=List.eq_nil_of_length_eq_zero hm;subst hl;refine⟨.slice none 0 0,w,?_,?_⟩
   ·have hf:=Go.Lib.run_firstCells_string (P:=P) w 1 ⟨([]:List UInt8).toArray⟩;rw[ru,Sg]at hf;have h0:(⟨([]:List UInt8).toArray⟩:ByteArray).size=0:=rfl;simp only[List.length_nil,List.map_nil]at hf;simp[Builtin.append_,run_underlying ht,run_underlying hu,Go.sizeOf,typeInfo,hi,q5,Builtin.lenOf,h0,hf]
   ·refine H.upd hk rfl rfl rfl (Nat.le_refl _) (fun _ _ _=>rfl) _ (.inl ⟨rfl,by simp[Fy]⟩) (by simp[wN]) (by simp[wN])
  ·have hr:=run_append_nil_string (P:=P) w t u ty e i (.int .u8 0) ht hu hi hz ⟨l.toArray⟩ (by rw[ru];omega) (by rw[ru];omega) (by rw[ru,iZ];omega);have mw:=grown 0 (by omega);simp only[Nat.zero_add,List.nil_append,Array.empty_append,ru]at mw hr ⊢;have e1:(Array.map (fun b:UInt8=>Value.int .u8 b.toNat) l.toArray)=(sC l).toArray:=by simp[sC]
   rw[e1]at hr;exact⟨_,_,hr,mw⟩
 ·rw[←my]at Ei pr ⊢;rw[←cm]at pr;by_cases vH:n+l.length≤cap
  ·have hr:=Go.Lib.run_append_room_string (P:=P) (ty:=ty) w t u e i ht hu hi q5 g n cap cur hg ⟨l.toArray⟩ (by rw[ru];exact vH) (by rw[ru];omega);rw[ru,Sg]at hr;refine⟨_,_,hr,?_⟩;refine H.upd (w':=w.setRow g (cur.toList.take n++sC l++cur.toList.drop (n+l.length)).toArray) hk rfl rfl rfl (by simp) ?_ (buf e (.slice (some ⟨g,0,none⟩) (n+l.length) cap)<|x++l) (.inr ⟨g,cap,(cur.toList.take n++sC l++cur.toList.drop (n+l.length)).toArray,(by rw[vk]),setRow_heap w g cur _ e _ hg,(by rw[←vk];exact vH),nO,?_,?_⟩) ?_ (by simp[pO])
   ·intro b _ qS;simp[pO]at qS;exact setRow_other w g b _ qS
   ·simp only[List.size_toArray,List.length_append,List.length_take,List.length_drop,Array.length_toList,List.length_map];omega
   ·rw[pr,←xB,kI];exact List.take_left
   ·intro b hb;left;simpa [pO] using hb
  ·have holds:∀j u,xs[j]? = some u→w.cell? ((⟨g,0,none⟩:Addr).add j)=some u:=by
    intro j u hu;rw[Addr.add_lit,Nat.zero_add];have hj:cur[j]? = some u:=by
     rw[←pr,List.getElem?_take]at hu;split at hu
     ·simpa using hu
     ·cases hu
    simp[World.cell?,hg,hj]
   have hr:=Go.Lib.run_append_grow_string (P:=P) (ty:=ty) w t u e i (.int .u8 0) ht hu hi hz ⟨g,0,none⟩ n cap xs (by rw[q5];simpa using gm) holds ⟨l.toArray⟩ (by rw[ru];omega) (by rw[ru];omega) (by rw[ru,iZ];exact growslice_fits (by omega)<|by omega);have mw:=grown cap (by omega);rw[ru,Sg]at hr;exact⟨_,_,hr,mw⟩
theorem au7 (H:Hp w0 G0 S w G B){k:Nat}{t ty e:TypeId}{i:TypeInfo}(ht:P.underlying t=some (.slice e))(hi:P.info? e=some i)(hz:i.zero=some (.int .u8 0))
  (q5:i.size=1) (iZ:i.bytes=1) {v:Value} {x:List UInt8} (hk:nth B k=some (buf e v x)) {a:Addr} {c:Nat} (l:List UInt8) (vu:∀j u,(sC l)[j]? = some u→w.cell? (a.add j)=some u) (hn:x.length+l.length≤2199023255552) :
  ∃v' w',(Builtin.append_ #[t,t] ty #[v,.slice (some a) l.length c]).run P w= .ok v' w'∧Hp w0 G0 S w' G (bq B k<|buf e v'<|x++l):=by
 have Bg:(sC l).length=l.length*i.size:=by rw[q5];simp
 have h1:=ave l;have oP:=(H.own _<|eO hk).1;obtain⟨n,my⟩:∃n,n=x.length:=⟨_,rfl⟩;obtain⟨xs,cm⟩:∃xs,xs=sC x:=⟨_,rfl⟩;have gm:xs.length=n:=by rw[cm,my];simp
 have hlen:xs.length+l.length=(x++l).length:=by simp[gm,my]
 have vk:n+l.length=(x++l).length:=by simp[my]
 have kI:sC (x++l)=xs++sC l:=by rw[cm];simp
 have xB:(xs++sC l).length=(x++l).length:=by simp[gm,my]
 rw[←my]at hn;have OA:n+l.length≤maxLen:=by simp only[maxLen];omega
 have grown:∀(cO:Nat),cO<n+l.length →
   Hp w0 G0 S (w.drew.alloc<|.cells (xs.toArray++(sC l).toArray++Builtin.zeroCells (Value.int .u8 0).cells (grownCap w (n+l.length) cO e-(n+l.length))) e) G
    (bq B k<|buf e (.slice (some ⟨w.heap.size,0,none⟩) (n+l.length)<|grownCap w (n+l.length) cO e)<|x++l):=by
  intro cO ho;have c7:=grownCap_ge w (n+l.length) cO e;have nO:grownCap w (n+l.length) cO e≤maxLen:=grownCap_le_maxLen w (n+l.length) cO e OA;have E:=Ext.Hx w<|.cells (xs.toArray++(sC l).toArray++Builtin.zeroCells (Value.int .u8 0).cells (grownCap w (n+l.length) cO e-(n+l.length))) e;refine H.upd hk E.os E.tape E.output E.size (fun b hb _=>E.block b hb) _ (.inr ⟨w.heap.size,_,(xs.toArray++(sC l).toArray++Builtin.zeroCells (Value.int .u8 0).cells (grownCap w (n+l.length) cO e-(n+l.length))),(by rw[vk]),?_,(by rw[←vk];exact c7),nO,?_,?_⟩) ?_ (by simp[pO])
  ·exact sT w.drew _
  ·have iG:(Value.int IntKind.u8 0).cells.size=1:=rfl;simp only[Array.size_append,List.size_toArray,KC,iG,gm,List.length_map];omega
  ·simp only[Array.toList_append,List.append_assoc];rw[←List.append_assoc,←xB,kI];exact List.take_left
  ·intro b hb;simp[pO]at hb;right;omega
 rcases oP with ⟨rfl,Fy⟩|⟨g,cap,cur,rfl,hg,Ei,nO,r3,pr⟩
 ·obtain rfl:n=0:=by rw[my,Fy];rfl
  have hx:xs=[]:=List.eq_nil_of_length_eq_zero gm;subst hx;by_cases hm:l.length=0
  ·have hl:l=[]:=List.eq_nil_of_length_eq_zero hm;subst hl;refine⟨.slice none 0 0,w,?_,?_⟩
   ·simp[Builtin.append_,run_underlying ht,Go.sizeOf,typeInfo,hi,q5,Builtin.lenOf,Builtin.firstCells,loadCells,loadCellsFrom]
   ·refine H.upd hk rfl rfl rfl (Nat.le_refl _) (fun _ _ _=>rfl) _ (.inl ⟨rfl,by simp[Fy]⟩) (by simp[wN]) (by simp[wN])
  ·have hr:=run_append_nil (P:=P) w t ty e i (.int .u8 0) ht hi hz a l.length c (sC l) Bg vu (by omega) (by omega) (by rw[iZ];omega);have mw:=grown 0 (by omega);simp only[Nat.zero_add,List.nil_append,Array.empty_append]at mw hr ⊢;exact⟨_,_,hr,mw⟩
 ·rw[←my]at Ei pr ⊢;rw[←cm]at pr;by_cases vH:n+l.length≤cap
  ·have hr:=run_append_room (P:=P) w t ty e i ht hi g n cap cur hg a l.length c (sC l) Bg vu h1 vH (by rw[q5,Bg,q5];omega);rw[q5,Nat.mul_one]at hr;have IJ:(sC l).length=l.length:=by simp
   rw[IJ]at hr;refine⟨_,_,hr,?_⟩;refine H.upd (w':=w.setRow g (cur.toList.take n++sC l++cur.toList.drop (n+l.length)).toArray) hk rfl rfl rfl (by simp) ?_ (buf e (.slice (some ⟨g,0,none⟩) (n+l.length) cap)<|x++l) (.inr ⟨g,cap,(cur.toList.take n++sC l++cur.toList.drop (n+l.length)).toArray,(by rw[vk]),setRow_heap w g cur _ e _ hg,(by rw[←vk];exact vH),nO,?_,?_⟩) ?_ (by simp[pO])
   ·intro b _ qS;simp[pO]at qS;exact setRow_other w g b _ qS
   ·simp only[List.size_toArray,List.length_append,List.length_take,List.length_drop,Array.length_toList,List.length_map];omega
   ·rw[pr,←xB,kI];exact List.take_left
   ·intro b hb;left;simpa [pO] using hb
  ·have holds:∀j u,xs[j]? = some u→w.cell? ((⟨g,0,none⟩:Addr).add j)=some u:=by
    intro j u hu;rw[Addr.add_lit,Nat.zero_add];have hj:cur[j]? = some u:=by
     rw[←pr,List.getElem?_take]at hu;split at hu
     ·simpa using hu
     ·cases hu
    simp[World.cell?,hg,hj]
   have hr:=run_append_grow (P:=P) w t ty e i (.int .u8 0) ht hi hz ⟨g,0,none⟩ n cap xs (by rw[q5];simpa using gm) holds a l.length c (sC l) Bg vu (by omega) (by omega) (by rw[iZ];exact growslice_fits (by omega)<|by omega);have mw:=grown cap (by omega);exact⟨_,_,hr,mw⟩
theorem Hp.below (H:Hp w0 G0 [] w G B)(hG:aE G0 w0){w':World}(h:Go.RowKit.Below w0.heap.size w w'):Hp w0 G0 [] w' G0 [] :=
 ⟨h.os.trans H.os,h.tape.trans H.tape,h.output.trans H.output,Nat.le_trans H.size h.size,fun b hb _=>(h.block b hb).trans<|H.ext b hb<|by simp,
  fun b o hb=>by have hl:=hG.lt hb;rw[h.block b hl,H.ext b hl<|by simp];exact hG b o hb,an.refl G0,fun _ _ h=>h,by simp,by simp[aV]⟩
theorem Hp.Vg (H:Hp w0 G0 [] w G B){k:Nat}{r:aW}(hk:nth B k=some r){b:Nat}(hb:b ∈ r.fp):w0.heap.size≤b:=by
 rcases ((H.own r<|eO hk).2 b hb).2 with h|h
 ·simp at h
 ·exact h
theorem Hp.avN {r r1 r2:aW}(H:Hp w0 G0 S w G (r::B))(hf:r.fp=r1.fp++r2.fp)(hp:r1.pred (fun b=>w.heap[b]?)∧r2.pred (fun b=>w.heap[b]?)):Hp w0 G0 S w G (r1::r2::B):=by
 refine⟨H.os,H.tape,H.output,H.size,H.ext,H.sub,H.le,H.cO,?_,?_⟩
 ·intro q hq;have hr:=(H.own r<|List.mem_cons_self ..).2;rcases List.mem_cons.1 hq with rfl|hq
  ·exact⟨hp.1,fun b hb=>hr b<|by rw[hf];exact List.mem_append.2<|.inl hb⟩
  ·rcases List.mem_cons.1 hq with rfl|hq
   ·exact⟨hp.2,fun b hb=>hr b<|by rw[hf];exact List.mem_append.2<|.inr hb⟩
   ·exact H.own q<|List.mem_cons_of_mem _ hq
 ·have:=H.nd;simp only[aV,List.flatMap_cons]at this ⊢;rw[hf]at this;simpa using this
theorem Hp.arl {r r1 r2:aW}(H:Hp w0 G0 S w G (r1::r2::B))(hf:r.fp=r1.fp++r2.fp)(hp:r.pred (fun b=>w.heap[b]?)):Hp w0 G0 S w G (r::B):=by
 refine⟨H.os,H.tape,H.output,H.size,H.ext,H.sub,H.le,H.cO,?_,?_⟩
 ·intro q hq;rcases List.mem_cons.1 hq with rfl|hq
  ·refine⟨hp,fun b hb=>?_⟩;rw[hf]at hb;rcases List.mem_append.1 hb with hb|hb
   ·exact(H.own r1<|List.mem_cons_self ..).2 b hb
   ·exact(H.own r2<|List.mem_cons_of_mem _<|List.mem_cons_self ..).2 b hb
  ·exact H.own q<|List.mem_cons_of_mem _<|List.mem_cons_of_mem _ hq
 ·have:=H.nd;simp only[aV,List.flatMap_cons]at this ⊢;rw[hf];simpa using this
abbrev Le (b:Nat) (p:Value):Prop:=p= .pointer none∨p= .pointer (some ⟨b,0,none⟩)
def ot (T e:TypeId)(b:Nat)(v:Value)(l:List UInt8):aW where
 fp:=b::(buf e v l).fp
 pred h:=(∃p,Le b p∧h b=some (cl [p,v] T))∧(buf e v l).pred h
 loc h h' q p:=by
  obtain⟨⟨p0,h1,h2⟩,h3⟩:=p
  exact⟨⟨p0,h1,by rw[←q b<|by simp];exact h2⟩,(buf e v l).loc h h' (fun c hc=>q c<|List.mem_cons_of_mem _ hc) h3⟩
 yu h p c hc:=by
  obtain⟨⟨p0,_,h2⟩,h3⟩:=p
  rcases List.mem_cons.1 hc with rfl|hc
  ·exact⟨_,h2⟩
  ·exact(buf e v l).yu h h3 c hc
theorem Ld (T e:TypeId)(b:Nat)(v:Value)(l:List UInt8):(ot T e b v l).fp=b::(buf e v l).fp:=rfl
theorem Hp.TK {T e:TypeId}{b:Nat}{v:Value}{l:List UInt8}(H:Hp w0 G0 S w G (ot T e b v l::B)):∃p,Le b p∧Hp w0 G0 S w G (ai b (cl [p,v] T)::buf e v l::B):=by
 obtain⟨⟨p,h1,h2⟩,h3⟩:=(H.own _<|List.mem_cons_self ..).1;exact⟨p,h1,H.avN rfl ⟨h2,h3⟩⟩
theorem Hp.TI {T e:TypeId}{b:Nat}{v:Value}{l:List UInt8}(H:Hp w0 G0 S w G (ai b (cl [.pointer<|some ⟨b,0,none⟩,v] T)::buf e v l::B)):Hp w0 G0 S w G (ot T e b v l::B) :=
 H.arl rfl ⟨⟨_,.inr rfl,(H.own _<|List.mem_cons_self ..).1⟩,(H.own _<|List.mem_cons_of_mem _<|List.mem_cons_self ..).1⟩
theorem Hp.TJ {k b:Nat}{T:TypeId}(e:TypeId)(H:Hp w0 G0 S w G B)(hk:nth B k=some (ai b<|cl [.pointer none,.slice none 0 0] T)):Hp w0 G0 S w G (bq B k<|ot T e b (.slice none 0 0) []):=by
 have hb:w.heap[b]? = some (cl [.pointer none,.slice none 0 0] T):=(H.own _<|eO hk).1;refine H.upd hk rfl rfl rfl (Nat.le_refl _) (fun _ _ _=>rfl) (ot T e b (.slice none 0 0) []) ⟨⟨_,.inl rfl,hb⟩,.inl ⟨rfl,rfl⟩⟩ ?_ ?_
 ·intro c hc;rw[Ld,wN]at hc;exact .inl hc
 ·rw[Ld,wN];simp
theorem Hp.kB {e:TypeId}{v:Value}{l:List UInt8}{k:Nat}(H:Hp w0 G0 S w G B)(hk:nth B k=some (buf e v l)):∃a c,v= .slice a l.length c:=by
 rcases (H.own _<|eO hk).1 with ⟨rfl,rfl⟩|⟨_,_,_,rfl,_⟩
 ·exact⟨_,_,rfl⟩
 ·exact⟨_,_,rfl⟩
end
section
variable {P:Program} {n:Nat} {ops:Array Oper} {Q:dp} {rest:List Oper} {L:br} {ds:List Deferred} {w w0:World} {G0:PH} {S:List Nat} {G:PH} {B:List aW}
variable {ty:TypeId} {ps:String} {af:Array Edge} {ρ:Go.Shelf.Ren}
theorem ZT (k:Nat)(H:Hp w0 G0 S w G B){d:Nat}{t u e:TypeId}{i:TypeInfo}{x y:Operand}{v:Value}{l s:List UInt8}
  (hU:P.underlying t=some (.slice e)) (hV:P.underlying u=some .string) (hI:∀w,(typeInfo e).run P w= .ok i w) (hz:i.zero=some (.int .u8 0)) (hs:i.size=1) (iZ:i.bytes=1) (hd:Nat.blt d n=true)
  (hx:od L x=some v) (hy:od L y=some (str s)) (hk:nth B k=some (buf e v l)) (hb:l.length+s.length≤2199023255552)
  (next:∀v' w',Hp w0 G0 S w' G (bq B k<|buf e v'<|l++s)→R P n ops Q rest ((d,v')::L) ds w'):R P n ops Q (⟨some d,.call ⟨.builtin .append,#[x,y],#[t,u]⟩,ty,ps,af,none⟩::rest) L ds w:=by
 obtain⟨v',w',hr,H'⟩:=au8 (P:=P) (ty:=ty) H hU hV (vW hI) hz hs iZ hk s hb;exact cP hd (fun a ha=>by simp[execOp,resolve,invoke,builtin,ha.eval hx,ha.eval hy,hr])<|next v' w' H'
theorem ZS (k:Nat){r0:aW}(H:Hp w0 G0 S w G (r0::B)){d:Nat}{t e:TypeId}{i:TypeInfo}{x y:Operand}{v:Value}{l:List UInt8}{c:UInt8}{b cap:Nat}{e':TypeId}
  (hU:P.underlying t=some (.slice e)) (hI:∀w,(typeInfo e).run P w= .ok i w) (hz:i.zero=some (.int .u8 0)) (hs:i.size=1) (iZ:i.bytes=1) (hd:Nat.blt d n=true)
  (hx:od L x=some v) (hy:od L y=some (.slice (some ⟨b,0,none⟩) 1 cap)) (h0:r0=ai b (cl [.int .u8 c.toNat] e')) (hk:nth B k=some (buf e v l)) (hb:l.length+1≤2199023255552)
  (next:∀v' w',Hp w0 G0 S w' G (bq B k<|buf e v'<|l++[c])→R P n ops Q rest ((d,v')::L) ds w'):R P n ops Q (⟨some d,.call ⟨.builtin .append,#[x,y],#[t,t]⟩,ty,ps,af,none⟩::rest) L ds w:=by
 subst h0;obtain⟨v',w',hr,H'⟩:=au7 (P:=P) (ty:=ty) H hU (vW hI) hz hs iZ (k:=k+1) (by simpa [nth] using hk) (a:=⟨b,0,none⟩) (c:=cap) [c] (fun j u hu=>by rw[Addr.add_lit,Nat.zero_add];exact pN (k:=0) H rfl<|by simpa using hu) hb;exact cP hd (fun a ha=>by simp only[List.length_cons,List.length_nil,Nat.zero_add]at hr;simp[execOp,resolve,invoke,builtin,ha.eval hx,ha.eval hy,hr])<|next v' w' (by simpa [bq,ez] using H'.del (k:=0) rfl)
theorem ZZ (k:Nat)(H:Hp w0 G0 S w G B){d b:Nat}{p v:Value}{T:TypeId}{f:FuncId}{xs:List Operand}{ts:Array TypeId}(hF:∀(b:Nat) (w:World),w.cell? ⟨b,0,none⟩=some (.pointer none)→w.shape? b=some (T,2)→w.frozen? ⟨b,0,none⟩=false→Calls P f #[.pointer<|some ⟨b,0,none⟩] w fun e w'=>e= .returned (.tuple #[])∧w'=w.setCell ⟨b,0,none⟩ (.pointer<|some ⟨b,0,none⟩))
  (hU:∀(b:Nat) (w:World),w.cell? ⟨b,0,none⟩=some (.pointer<|some ⟨b,0,none⟩)→Calls P f #[.pointer<|some ⟨b,0,none⟩] w fun e w'=>e= .returned (.tuple #[])∧w'=w) (hp:Le b p)
  (mZ:∀args w,(callFunc f args).run P w= .ok (.enter f args) w) (hd:Nat.blt d n=true) (hx:lQ L xs=some [.pointer<|some ⟨b,0,none⟩]) (hk:nth B k=some (ai b<|cl [p,v] T))
  (next:∀w',Hp w0 G0 S w' G (bq B k<|ai b<|cl [.pointer<|some ⟨b,0,none⟩,v] T)→R P n ops Q rest ((d,.tuple #[])::L) ds w') :
  R P n ops Q (⟨some d,.call ⟨.value<|.func f,xs.toArray,ts⟩,ty,ps,af,none⟩::rest) L ds w:=by
 have mn:w.heap[b]? = some (cl [p,v] T):=(H.own _<|eO hk).1;rcases hp with rfl|rfl
 ·refine o6 mZ hd hx (hF b w (by simp[World.cell?,mn]) (by simp[World.shape?,mn])<|by simp[World.frozen?,mn]) ?_;rintro _ w' ⟨rfl,rfl⟩;exact⟨_,rfl,next _ (Ae H hk (o:=0)<|.pointer<|some ⟨b,0,none⟩)⟩
 ·refine o6 mZ hd hx (hU b w<|by simp[World.cell?,mn]) ?_;rintro _ w' ⟨rfl,rfl⟩;refine⟨_,rfl,next _ ?_⟩;have:=H.upd hk rfl rfl rfl (Nat.le_refl _) (fun _ _ _=>rfl) (ai b<|cl [.pointer<|some ⟨b,0,none⟩,v] T) mn (by simp[ai]) (by simp[ai]);exact this
theorem ZW (k:Nat)(H:Hp w0 G0 [] w G B)(hG:aE G0 w0)(LL:Go.Proofs.Lays.n169 P ρ)(X:Go.Proofs.Builder.Extra P ρ){d b:Nat}{v:Value}{T e:TypeId}{l:List UInt8}{f:FuncId}{xs:List Operand}{ts:Array TypeId}(hf:f=ρ.f 169)(hT:ρ.t 72=T)(he:ρ.t 5=e)
  (mZ:∀args w,(callFunc f args).run P w= .ok (.enter f args) w) (hd:Nat.blt d n=true) (hx:lQ L xs=some [.pointer<|some ⟨b,0,none⟩]) (hk:nth B k=some (ot T e b v l))
  (next:∀w',Hp w0 G0 [] w' G0 []→R P n ops Q rest ((d,str l)::L) ds w') :
  R P n ops Q (⟨some d,.call ⟨.value<|.func f,xs.toArray,ts⟩,ty,ps,af,none⟩::rest) L ds w:=by
 subst hf hT he;obtain⟨⟨p,hp,mn⟩,VR⟩:=(H.own _<|eO hk).1;have c7:=fun c hc=>H.Vg hk (b:=c) hc;have H_:w0.heap.size≤b:=c7 b<|List.mem_cons_self ..;have dS:Go.Lib.BuilderAt (ρ.t 72) (ρ.t 5) w0.heap.size b p (Go.Lib.byteCells l) w:=by
  refine⟨H_,v,mn,?_,?_⟩
  ·rw[Go.Lib.byteCells_length];rcases VR with ⟨rfl,rfl⟩|⟨g,cap,C,rfl,hg,h1,h2,h3,h4⟩
   ·exact⟨rfl,.inl ⟨rfl,rfl⟩⟩
   ·exact⟨by rw[Go.Lib.byteCells_length,Nat.mul_one],.inr ⟨g,cap,C,rfl,c7 g<|List.mem_cons_of_mem _<|by rw[pO];simp,hg,h1,h2,by rw[Nat.mul_one];exact h3,by rw[Nat.mul_one];exact h4⟩⟩
  ·rcases VR with ⟨rfl,rfl⟩|⟨g,cap,C,rfl,hg,_⟩
   ·simp[Value.ownBlock]
   ·intro hh;simp only[Value.ownBlock,Option.some.injEq]at hh;subst hh;have:=H.nd;have jE:(ot (ρ.t 72) (ρ.t 5) g (.slice (some ⟨g,0,none⟩) l.length cap) l).fp.Nodup:=by
     obtain⟨B1,B2,h1,_,_⟩:=pd hk;rw[h1]at this;simp only[aV,List.flatMap_append,List.flatMap_cons]at this;exact(List.nodup_append.1 (List.nodup_append.1 this).2.1).1
    rw[Ld,pO]at jE;simp at jE
 have hib:Go.Lib.IsBuilder (ρ.t 72) (ρ.t 5) w0.heap.size b (Go.Lib.byteCells l) w:=by
  rcases hp with rfl|rfl
  ·exact .inl dS
  ·exact .inr dS
 refine o6 mZ hd hx (Go.Proofs.Any.Builder_String_any LL X w0.heap.size b l w hib H.size) ?_;rintro _ w' ⟨rfl,l3⟩;exact⟨_,rfl,next _ (H.below hG l3)⟩
theorem atJ {d:Nat}{f:FuncId}{x:Operand}{v:Value}(hd:Nat.blt d n=true)(hx:od L x=some v)
  (next:R P n ops Q rest ((d,.func (.func f) #[v] #[])::L) ds w):R P n ops Q (⟨some d,.makeFunc (.func f) #[x] #[],ty,ps,af,none⟩::rest) L ds w :=
 cP hd (fun a ha=>by simp[execOp,Instr.makeFunc,ha.eval hx]) next
theorem ats {d:Nat}{f:FuncId}{c:Operand}{xs:List Operand}{ts:Array TypeId}{vs:List Value}{cv:Value}{C:Ending→World→Prop}(hf:∀args w,(callFunc f args).run P w= .ok (.enter f args) w)(hd:Nat.blt d n=true)
  (yU:od L c=some (.func (.func f) #[cv] #[])) (hx:lQ L xs=some vs) (hc:Calls P f (cv::vs).toArray w C) (next:∀e w',C e w'→∃v,e= .returned v∧R P n ops Q rest ((d,v)::L) ds w') :
  R P n ops Q (⟨some d,.call ⟨.value c,xs.toArray,ts⟩,ty,ps,af,none⟩::rest) L ds w:=by
 intro a ha;refine wpList_plain rfl fun K hK=>?_;have e:xs.map a.eval=vs:=ha.uK xs vs hx;have hr:(execOp a.eval ⟨some d,.call ⟨.value c,xs.toArray,ts⟩,ty,ps,af,none⟩).run P w= .ok (.enter f (cv::vs).toArray) w:=by
  simp[execOp,resolve,invoke,ha.eval yU,Deferred.ofValue,e,hf]
 unfold Oper.wp;rw[hr,Oper.upon_enter];refine hc.mono fun e w' hC=>?_;obtain⟨v,rfl,h⟩:=next e w' hC
 exact hK _ _<|h _<|ha.put hd v
end
end Fw
namespace Sp
open Fw Nd
def rf (L:List ao)(x:aj):Bs:=if x.dir then x.path++[47] else if dh L x.ids then x.path++[32]++Go.Lib.decDigits (load L x.ids).length else[]
def mN (L:List ao)(l:List aj):Bs:=(l.map<|fun x=>rf L x++[10]).flatten
def Ss (L:List ao)(s:cG):Bs:=[64]++s.name++[10]++mN L s.tree
def qx (L:List ao)(l:List cG):Bs:=(l.map<|Ss L).flatten
def lT (d:aK):Bs:=if aS d then mN d.store d.tree++qx d.store d.aw else[]
def wF (x:aj):Prop:=x.path.length≤23∧x.ids.length≤4
theorem LC:∀n:Nat,n<100→(Go.Lib.decDigits n).length≤2:=by
 intro n h;rw[Go.Lib.decDigits];split
 ·simp
 ·rw[Go.Lib.decDigits];split
  ·simp
  ·omega
theorem QM {L:List ao}(hV:VH L){x:aj}(h:wF x):(rf L x).length≤26:=by
 obtain⟨h1,h2⟩:=h;have h8:=FZ hV x.ids;have hd:=LC (load L x.ids).length (by omega);unfold rf;split
 ·simp;omega
 ·split
  ·simp;omega
  ·simp
theorem aby {L:List ao}{l:List aj}{k:Nat}{x:aj}(h:l[k]? = some x):mN L (l.take<|k+1)=mN L (l.take k)++rf L x++[10]:=by
 simp[mN,gZ h]
theorem uc {L:List ao}(hV:VH L):∀{l:List aj},(∀x,x ∈ l→wF x)→(mN L l).length≤27*l.length
 | [],_=>by simp[mN]
 | x::r,h=>by
  have h1:=uc hV (l:=r)<|fun y hy=>h y<|List.mem_cons_of_mem _ hy;have h2:=QM hV<|h x<|List.mem_cons_self ..;simp only[mN,List.map_cons,List.flatten_cons,List.length_append,List.length_cons,List.length_nil]at h1 ⊢;omega
theorem abc {L:List ao}{l:List cG}{k:Nat}{x:cG}(h:l[k]? = some x):qx L (l.take<|k+1)=qx L (l.take k)++([64]++x.name++[10])++mN L x.tree:=by
 simp[qx,Ss,gZ h]
theorem tN {l:List aj}(h:cU l=true):∀x,x ∈ l→wF x:=by
 intro x hx;obtain⟨k,hk⟩:=List.getElem?_of_mem hx;obtain⟨h1,h2⟩:=SG h hk;exact⟨xS<|tP h1,h2⟩
theorem F6 {d:aK}(h:aS d=true):∀s,s ∈ d.aw→s.name.length≤5:=by
 intro s hs;obtain⟨k,hk⟩:=List.getElem?_of_mem hs;exact abZ<|((gz.1 h).1.2 k s hk).1
theorem GH {d:aK}(h:aS d=true):∀s,s ∈ d.aw→cU s.tree=true:=fun s hs =>
 jI.2 ((gz.1 h).2.vt s.tree<|by simp[eQ];exact .inr ⟨s,hs,rfl⟩)
theorem abb {L:List ao}(hV:VH L):∀{l:List cG},(∀s,s ∈ l→s.name.length≤5)→(∀s,s ∈ l→cU s.tree=true)→(qx L l).length≤400*l.length
 | [],_,_=>by simp[qx]
 | s::r,h,k=>by
  have h1:=abb hV (l:=r) (fun y hy=>h y<|List.mem_cons_of_mem _ hy)<|fun y hy=>k y<|List.mem_cons_of_mem _ hy;have h2:=h s<|List.mem_cons_self ..;have h3:=k s<|List.mem_cons_self ..;have h4:=uc hV<|tN h3;have h5:=gM h3;simp only[qx,Ss,List.map_cons,List.flatten_cons,List.length_append,List.length_cons,List.length_nil]at h1 ⊢;omega
theorem St {L:List ao}(hV:VH L){l:List cG}(h6:l.length≤6)(h:∀s,s ∈ l→s.name.length≤5)(k:∀s,s ∈ l→cU s.tree=true):(qx L l).length≤2400:=by
 have:=abb hV h k;omega
theorem CI (d:aK):(lT d).length≤3000:=by
 unfold lT;split
 ·rename_i h;have hV:=(gz.1 h).2.vh;have h1:=uc hV<|tN (cX.1 h).2.1;have h2:=gM (cX.1 h).2.1;have h3:=St hV (cX.1 h).2.2.1 (F6 h)<|GH h;rw[List.length_append];omega
 ·simp
end Sp
namespace Fw
open Go Go.RowKit
section
variable {P:Program} {Q:Exit→Act→World→Prop}
variable {m n:Nat} {ops:Array Oper} {l:List Oper} {L:br} {ds:List Deferred} {w:World}
variable {ty:TypeId} {ps:String} {af:Array Edge} {rest:List Oper}
section
variable {fn:Func} {C:Ending→World→Prop}
theorem aT {rs:List ResultVar}{vs:List Value}(hr:fn.results=rs.toArray)(hv:RV P w L rs vs)(hR:C (.returned<|ud vs) w):N n (bodyPostM Fence.wide 3 P fn C) .ret L [] w:=fun a ha=>by
 show LeavesInM Fence.wide 3 P fn a.tmps C a.defers .returning w;rw[ha.defers];exact⟨_,Kg hr ha hv,hR⟩
end
end
section
variable {w0 w:World} {G0:PH} {S:List Nat} {G:PH}
theorem adq {e:TypeId}{sz:Nat}{v:Value}{k:Nat}{cs:List Value}{h:Nat→Option Obj}(hp:(acc e sz v k cs).pred h):∀b,b ∈ (acc e sz v k cs).fp→∃c,h b=some (.cells c e (0,0)):=by
 intro b hb;rcases hp.2 with ⟨rfl,_⟩|⟨g,cap,C,rfl,h1,_⟩
 ·simp[As]at hb
 ·simp[gO]at hb;subst hb;exact⟨_,h1⟩
theorem Hp.av4 {b:Nat}{tl te:TypeId}{v:Value}{sz k:Nat}{cs:List Value}{W W':World}{row:Option Nat}(H:Hp w0 G0 S W G [ai b<|cl [v] tl,acc te sz v k cs])(hg:W.grownBy W' row)
  (hr:∀r,row=some r→w.heap.size≤r∧∃o:Obj,W.heap[r]? = some o∧o.isCells=false) (hw:w0.heap.size≤w.heap.size) (hG:aE G w):Hp w0 G0 S W' G [ai b<|cl [v] tl,acc te sz v k cs]:=by
 have PA:∀c o,W.heap[c]? = some o→(o.isCells=true∨c<w.heap.size)→W'.heap[c]? = some o:=by
  intro c o hc ho;rw[hg.block c (Array.getElem?_eq_some_iff.1 hc).1 ?_]
  ·exact hc
  ·intro e;obtain⟨h1,o',h2,h3⟩:=hr c e.symm;rw[hc]at h2;cases h2;rcases ho with ho|ho
   ·rw[ho]at h3;cases h3
   ·omega
 refine⟨hg.os.trans H.os,hg.tape.trans H.tape,hg.output.trans H.output,Nat.le_trans H.size hg.size,?_,?_,H.le,H.cO,?_,H.nd⟩
 ·intro c hc hS;rw[←H.ext c hc hS];have ef:c<W.heap.size:=Nat.lt_of_lt_of_le hc H.size;exact hg.block c ef (fun e=>by obtain⟨h1,_⟩:=hr c e.symm;omega)
 ·intro c o hc;exact PA c o (H.sub c o hc)<|.inr<|hG.lt hc
 ·intro r hm;obtain⟨h1,h2⟩:=H.own r hm;refine⟨?_,h2⟩;rcases List.mem_cons.1 hm with rfl|hm
  ·exact PA b _ h1<|.inl rfl
  ·rw[List.mem_singleton]at hm;subst hm;refine(acc te sz v k cs).loc _ _ (fun c hc=>?_) h1;obtain⟨C,hC⟩:=adq h1 c hc;exact hC.trans (PA c _ hC<|.inl rfl).symm
end
end Fw
namespace Fw
structure ab6 where
 snap:Bs
 kind:Int
end Fw
namespace Fw
open Go Go.RowKit
def av5:PH→ab6→List Value→Prop:=fun _ x cs=>cs=[str x.snap,.int .i64 x.kind]
instance:ik av5:=⟨fun _ h=>h⟩
section
variable {w0 w:World} {G0:PH} {S:List Nat} {G:PH} {B:List aW}
theorem Hp.z_ {D b:Nat}{tl te:TypeId}{v:Value}{sz k:Nat}{cs:List Value}{W:World}(H:Hp w0 G0 S W G [ai b<|cl [v] tl,acc te sz v k cs])(hw:w0.heap.size≤w.heap.size)(hG:aE G w)(hD:w.heap.size≤D)(hK:W.heap[D]? = some (.deferred<|some [])) :
  Hp w0 G0 S (W.putObj D<|.deferred none) G [ai b<|cl [v] tl,acc te sz v k cs] :=
 H.av4 (w:=w) (grownBy_putObj' W D _) (fun r e=>by cases e;exact⟨hD,_,hK,rfl⟩) hw hG
end
end Fw
